/- Part of the proof that WakeQuiet holds of the program for arguments that together hold at most 1048576 values and letters; no other condition. -/
import Derived.Test.YtjdgnfkcaccidaaGreatDoorZ2
set_option linter.all false
section
namespace Go.Ah.Tz
open Go.Proofs.Tryz (prog)
attribute [local irreducible] ak.rd ak.pu ak.wr ak.dr ak.gr ak.gw ak.gl ak.gd ak.opt aH W
structure pc (n:Nat) (s:Sd):Prop where
 aA:s.aA.length≤n
 hand:s.hand.length≤n
 aj:s.aj.length≤n
 ae:s.ae.length≤n
 told:s.told.length≤n
structure bu (n:Nat) (s:St):Prop where
 al:s.al.length≤n
 s0:pc n s.s0
 s1:pc n s.s1
theorem pe{a b:Sd}:a=b↔a.aJ=b.aJ∧a.aW=b.aW∧a.most=b.most∧a.aA=b.aA∧a.hand=b.hand∧a.aj=b.aj∧a.told=b.told∧a.ae=b.ae:=by
 cases a; cases b<;>grind
theorem Z0{a b:St}:a=b↔a.turn=b.turn∧a.mover=b.mover∧a.phase=b.phase∧a.bF=b.bF∧a.result=b.result∧a.next=b.next∧a.al=b.al∧a.s0=b.s0∧a.s1=b.s1:=by
 cases a; cases b<;>grind
set_option maxHeartbeats 1000000
set_option maxRecDepth 10000
theorem c20(a b:St)(ha:bu 1000000000 a):PC 10 [cf a,cf b] (.bool (decide (a=b))):=by
 refine Yc hP g10.ok rfl rfl ?_;rw[H2.e]; unfold g10; dsimp only;repeat first|refine Za rfl ?_|refine Qb rfl rfl ?_
 rcases aT (a.turn != b.turn) with h0|h0
 ·rw[h0]
  (repeat (first|refine Qa rfl ?_|refine Yb rfl ?_|refine Zc rfl ?_|refine Qc rfl ?_|refine Za rfl ?_|refine Qb rfl rfl ?_)); refine Xc ?_; simp at h0; simp[Z0,h0]
 rw[h0];repeat first|refine Ya ?_|refine Xa ?_|refine Za rfl ?_|refine Qb rfl rfl ?_
 rcases aT (a.mover != b.mover) with h1|h1
 ·rw[h1]
  (repeat (first|refine Qa rfl ?_|refine Yb rfl ?_|refine Zc rfl ?_|refine Qc rfl ?_|refine Za rfl ?_|refine Qb rfl rfl ?_)); refine Xc ?_; simp at h1; simp[Z0,h1]
 rw[h1];repeat first|refine Ya ?_|refine Xa ?_|refine Za rfl ?_|refine Qb rfl rfl ?_
 rcases aT (a.phase != b.phase) with h2|h2
 ·rw[h2]
  (repeat (first|refine Qa rfl ?_|refine Yb rfl ?_|refine Zc rfl ?_|refine Qc rfl ?_|refine Za rfl ?_|refine Qb rfl rfl ?_)); refine Xc ?_; simp at h2; simp[Z0,h2]
 rw[h2];repeat first|refine Ya ?_|refine Xa ?_|refine Za rfl ?_|refine Qb rfl rfl ?_
 rcases aT (!(a.bF==b.bF)) with h3|h3
 ·rw[h3]
  (repeat (first|refine Qa rfl ?_|refine Yb rfl ?_|refine Zc rfl ?_|refine Qc rfl ?_|refine Za rfl ?_|refine Qb rfl rfl ?_)); refine Xc ?_; simp at h3; simp[Z0,h3]
 rw[h3];repeat first|refine Ya ?_|refine Xa ?_|refine Za rfl ?_|refine Qb rfl rfl ?_
 rcases aT (a.result != b.result) with h4|h4
 ·rw[h4]
  (repeat (first|refine Qa rfl ?_|refine Yb rfl ?_|refine Zc rfl ?_|refine Qc rfl ?_|refine Za rfl ?_|refine Qb rfl rfl ?_)); refine Xc ?_; simp at h4; simp[Z0,h4]
 rw[h4];repeat first|refine Ya ?_|refine Xa ?_|refine Za rfl ?_|refine Qb rfl rfl ?_
 rcases aT (a.next != b.next) with h5|h5
 ·rw[h5]
  (repeat (first|refine Qa rfl ?_|refine Yb rfl ?_|refine Zc rfl ?_|refine Qc rfl ?_|refine Za rfl ?_|refine Qb rfl rfl ?_)); refine Xc ?_; simp at h5; simp[Z0,h5]
 rw[h5];repeat first|refine Ya ?_|refine Xa ?_|refine Za rfl ?_|refine Qb rfl rfl ?_
 refine Xb (c62 _ _ (by have:=ha.al; omega)) rfl g28.ok.plain rfl ?_;repeat first|refine Ya ?_|refine Za rfl ?_
 rcases aT (!decide (a.al=b.al)) with h6|h6
 ·rw[h6];refine Xc ?_; simp at h6; simp[Z0,h6]
 rw[h6];refine Yd ?_;have w1:IntKind.i64.wrap (0+1)=1:=by decide
 have w2:IntKind.i64.wrap (1+1)=2:=by decide
 refine YK 3 (Xk ?_);refine Za rfl (Xc ?_);repeat first|refine Ya ?_|refine Xa ?_|refine Za rfl ?_|refine Qe rfl ?_|refine Yg rfl rfl ?_|refine Qb rfl rfl ?_
 refine Xr (by kernel_rfl) ?_;repeat first|refine Ya ?_|refine Xa ?_|refine Za rfl ?_|refine Qe rfl ?_|refine Yg rfl rfl ?_|refine Qb rfl rfl ?_
 rcases aT (a.s0.aJ != b.s0.aJ) with h7|h7
 ·rw[h7]
  (repeat (first|refine Qa rfl ?_|refine Yb rfl ?_|refine Zc rfl ?_|refine Qc rfl ?_|refine Za rfl ?_|refine Qb rfl rfl ?_)); refine Xc ?_; simp at h7; simp[Z0,pe,h7]
 rw[h7];repeat first|refine Ya ?_|refine Xa ?_|refine Za rfl ?_|refine Qe rfl ?_|refine Yg rfl rfl ?_|refine Qb rfl rfl ?_
 rcases aT (a.s0.aW != b.s0.aW) with h8|h8
 ·rw[h8]
  (repeat (first|refine Qa rfl ?_|refine Yb rfl ?_|refine Zc rfl ?_|refine Qc rfl ?_|refine Za rfl ?_|refine Qb rfl rfl ?_)); refine Xc ?_; simp at h8; simp[Z0,pe,h8]
 rw[h8];repeat first|refine Ya ?_|refine Xa ?_|refine Za rfl ?_|refine Qe rfl ?_|refine Yg rfl rfl ?_|refine Qb rfl rfl ?_
 rcases aT (a.s0.most != b.s0.most) with h9|h9
 ·rw[h9]
  (repeat (first|refine Qa rfl ?_|refine Yb rfl ?_|refine Zc rfl ?_|refine Qc rfl ?_|refine Za rfl ?_|refine Qb rfl rfl ?_)); refine Xc ?_; simp at h9; simp[Z0,pe,h9]
 rw[h9];repeat first|refine Ya ?_|refine Xa ?_|refine Za rfl ?_|refine Qe rfl ?_|refine Yg rfl rfl ?_|refine Qb rfl rfl ?_
 refine Xb (c62 _ _ (by have:=ha.s0.aA; omega)) rfl g28.ok.plain rfl ?_;repeat first|refine Ya ?_|refine Xa ?_|refine Za rfl ?_|refine Qe rfl ?_|refine Yg rfl rfl ?_|refine Qb rfl rfl ?_
 rcases aT (!decide (a.s0.aA=b.s0.aA)) with h10|h10
 ·rw[h10]
  (repeat (first|refine Qa rfl ?_|refine Yb rfl ?_|refine Zc rfl ?_|refine Qc rfl ?_|refine Za rfl ?_|refine Qb rfl rfl ?_)); refine Xc ?_; simp at h10; simp[Z0,pe,h10]
 rw[h10];repeat first|refine Ya ?_|refine Xa ?_|refine Za rfl ?_|refine Qe rfl ?_|refine Yg rfl rfl ?_|refine Qb rfl rfl ?_
 refine Xb (c62 _ _ (by have:=ha.s0.hand; omega)) rfl g28.ok.plain rfl ?_;repeat first|refine Ya ?_|refine Xa ?_|refine Za rfl ?_|refine Qe rfl ?_|refine Yg rfl rfl ?_|refine Qb rfl rfl ?_
 rcases aT (!decide (a.s0.hand=b.s0.hand)) with h11|h11
 ·rw[h11]
  (repeat (first|refine Qa rfl ?_|refine Yb rfl ?_|refine Zc rfl ?_|refine Qc rfl ?_|refine Za rfl ?_|refine Qb rfl rfl ?_)); refine Xc ?_; simp at h11; simp[Z0,pe,h11]
 rw[h11];repeat first|refine Ya ?_|refine Xa ?_|refine Za rfl ?_|refine Qe rfl ?_|refine Yg rfl rfl ?_|refine Qb rfl rfl ?_
 refine Xb (c62 _ _ (by have:=ha.s0.aj; omega)) rfl g28.ok.plain rfl ?_;repeat first|refine Ya ?_|refine Xa ?_|refine Za rfl ?_|refine Qe rfl ?_|refine Yg rfl rfl ?_|refine Qb rfl rfl ?_
 rcases aT (!decide (a.s0.aj=b.s0.aj)) with h12|h12
 ·rw[h12]
  (repeat (first|refine Qa rfl ?_|refine Yb rfl ?_|refine Zc rfl ?_|refine Qc rfl ?_|refine Za rfl ?_|refine Qb rfl rfl ?_)); refine Xc ?_; simp at h12; simp[Z0,pe,h12]
 rw[h12];repeat first|refine Ya ?_|refine Xa ?_|refine Za rfl ?_|refine Qe rfl ?_|refine Yg rfl rfl ?_|refine Qb rfl rfl ?_
 refine Xb (c62 _ _ (by have:=ha.s0.told; omega)) rfl g28.ok.plain rfl ?_;repeat first|refine Ya ?_|refine Xa ?_|refine Za rfl ?_|refine Qe rfl ?_|refine Yg rfl rfl ?_|refine Qb rfl rfl ?_
 rcases aT (!decide (a.s0.told=b.s0.told)) with h13|h13
 ·rw[h13]
  (repeat (first|refine Qa rfl ?_|refine Yb rfl ?_|refine Zc rfl ?_|refine Qc rfl ?_|refine Za rfl ?_|refine Qb rfl rfl ?_)); refine Xc ?_; simp at h13; simp[Z0,pe,h13]
 rw[h13];repeat first|refine Ya ?_|refine Xa ?_|refine Za rfl ?_|refine Qe rfl ?_|refine Yg rfl rfl ?_|refine Qb rfl rfl ?_
 refine Xb (c63 _ _ (by have:=ha.s0.ae; omega)) rfl g29.ok.plain rfl ?_;repeat first|refine Ya ?_|refine Xa ?_|refine Za rfl ?_|refine Qe rfl ?_|refine Yg rfl rfl ?_|refine Qb rfl rfl ?_
 rcases aT (!decide (a.s0.ae=b.s0.ae)) with h14|h14
 ·rw[h14]
  (repeat (first|refine Qa rfl ?_|refine Yb rfl ?_|refine Zc rfl ?_|refine Qc rfl ?_|refine Za rfl ?_|refine Qb rfl rfl ?_)); refine Xc ?_; simp at h14; simp[Z0,pe,h14]
 rw[h14];repeat first|refine Ya ?_|refine Xa ?_|refine Za rfl ?_|refine Qe rfl ?_|refine Yg rfl rfl ?_|refine Qb rfl rfl ?_
 refine Yd (Za rfl ?_);rw[w1];refine Xk ?_;refine Za rfl (Xc ?_);repeat first|refine Ya ?_|refine Xa ?_|refine Za rfl ?_|refine Qe rfl ?_|refine Yg rfl rfl ?_|refine Qb rfl rfl ?_
 refine Xr (by kernel_rfl) ?_;repeat first|refine Ya ?_|refine Xa ?_|refine Za rfl ?_|refine Qe rfl ?_|refine Yg rfl rfl ?_|refine Qb rfl rfl ?_
 rcases aT (a.s1.aJ != b.s1.aJ) with h15|h15
 ·rw[h15]
  (repeat (first|refine Qa rfl ?_|refine Yb rfl ?_|refine Zc rfl ?_|refine Qc rfl ?_|refine Za rfl ?_|refine Qb rfl rfl ?_)); refine Xc ?_; simp at h15; simp[Z0,pe,h15]
 rw[h15];repeat first|refine Ya ?_|refine Xa ?_|refine Za rfl ?_|refine Qe rfl ?_|refine Yg rfl rfl ?_|refine Qb rfl rfl ?_
 rcases aT (a.s1.aW != b.s1.aW) with h16|h16
 ·rw[h16]
  (repeat (first|refine Qa rfl ?_|refine Yb rfl ?_|refine Zc rfl ?_|refine Qc rfl ?_|refine Za rfl ?_|refine Qb rfl rfl ?_)); refine Xc ?_; simp at h16; simp[Z0,pe,h16]
 rw[h16];repeat first|refine Ya ?_|refine Xa ?_|refine Za rfl ?_|refine Qe rfl ?_|refine Yg rfl rfl ?_|refine Qb rfl rfl ?_
 rcases aT (a.s1.most != b.s1.most) with h17|h17
 ·rw[h17]
  (repeat (first|refine Qa rfl ?_|refine Yb rfl ?_|refine Zc rfl ?_|refine Qc rfl ?_|refine Za rfl ?_|refine Qb rfl rfl ?_)); refine Xc ?_; simp at h17; simp[Z0,pe,h17]
 rw[h17];repeat first|refine Ya ?_|refine Xa ?_|refine Za rfl ?_|refine Qe rfl ?_|refine Yg rfl rfl ?_|refine Qb rfl rfl ?_
 refine Xb (c62 _ _ (by have:=ha.s1.aA; omega)) rfl g28.ok.plain rfl ?_;repeat first|refine Ya ?_|refine Xa ?_|refine Za rfl ?_|refine Qe rfl ?_|refine Yg rfl rfl ?_|refine Qb rfl rfl ?_
 rcases aT (!decide (a.s1.aA=b.s1.aA)) with h18|h18
 ·rw[h18]
  (repeat (first|refine Qa rfl ?_|refine Yb rfl ?_|refine Zc rfl ?_|refine Qc rfl ?_|refine Za rfl ?_|refine Qb rfl rfl ?_)); refine Xc ?_; simp at h18; simp[Z0,pe,h18]
 rw[h18];repeat first|refine Ya ?_|refine Xa ?_|refine Za rfl ?_|refine Qe rfl ?_|refine Yg rfl rfl ?_|refine Qb rfl rfl ?_
 refine Xb (c62 _ _ (by have:=ha.s1.hand; omega)) rfl g28.ok.plain rfl ?_;repeat first|refine Ya ?_|refine Xa ?_|refine Za rfl ?_|refine Qe rfl ?_|refine Yg rfl rfl ?_|refine Qb rfl rfl ?_
 rcases aT (!decide (a.s1.hand=b.s1.hand)) with h19|h19
 ·rw[h19]
  (repeat (first|refine Qa rfl ?_|refine Yb rfl ?_|refine Zc rfl ?_|refine Qc rfl ?_|refine Za rfl ?_|refine Qb rfl rfl ?_)); refine Xc ?_; simp at h19; simp[Z0,pe,h19]
 rw[h19];repeat first|refine Ya ?_|refine Xa ?_|refine Za rfl ?_|refine Qe rfl ?_|refine Yg rfl rfl ?_|refine Qb rfl rfl ?_
 refine Xb (c62 _ _ (by have:=ha.s1.aj; omega)) rfl g28.ok.plain rfl ?_;repeat first|refine Ya ?_|refine Xa ?_|refine Za rfl ?_|refine Qe rfl ?_|refine Yg rfl rfl ?_|refine Qb rfl rfl ?_
 rcases aT (!decide (a.s1.aj=b.s1.aj)) with h20|h20
 ·rw[h20]
  (repeat (first|refine Qa rfl ?_|refine Yb rfl ?_|refine Zc rfl ?_|refine Qc rfl ?_|refine Za rfl ?_|refine Qb rfl rfl ?_)); refine Xc ?_; simp at h20; simp[Z0,pe,h20]
 rw[h20];repeat first|refine Ya ?_|refine Xa ?_|refine Za rfl ?_|refine Qe rfl ?_|refine Yg rfl rfl ?_|refine Qb rfl rfl ?_
 refine Xb (c62 _ _ (by have:=ha.s1.told; omega)) rfl g28.ok.plain rfl ?_;repeat first|refine Ya ?_|refine Xa ?_|refine Za rfl ?_|refine Qe rfl ?_|refine Yg rfl rfl ?_|refine Qb rfl rfl ?_
 rcases aT (!decide (a.s1.told=b.s1.told)) with h21|h21
 ·rw[h21]
  (repeat (first|refine Qa rfl ?_|refine Yb rfl ?_|refine Zc rfl ?_|refine Qc rfl ?_|refine Za rfl ?_|refine Qb rfl rfl ?_)); refine Xc ?_; simp at h21; simp[Z0,pe,h21]
 rw[h21];repeat first|refine Ya ?_|refine Xa ?_|refine Za rfl ?_|refine Qe rfl ?_|refine Yg rfl rfl ?_|refine Qb rfl rfl ?_
 refine Xb (c63 _ _ (by have:=ha.s1.ae; omega)) rfl g29.ok.plain rfl ?_;repeat first|refine Ya ?_|refine Xa ?_|refine Za rfl ?_|refine Qe rfl ?_|refine Yg rfl rfl ?_|refine Qb rfl rfl ?_
 rcases aT (!decide (a.s1.ae=b.s1.ae)) with h22|h22
 ·rw[h22]
  (repeat (first|refine Qa rfl ?_|refine Yb rfl ?_|refine Zc rfl ?_|refine Qc rfl ?_|refine Za rfl ?_|refine Qb rfl rfl ?_)); refine Xc ?_; simp at h22; simp[Z0,pe,h22]
 rw[h22];repeat first|refine Ya ?_|refine Xa ?_|refine Za rfl ?_|refine Qe rfl ?_|refine Yg rfl rfl ?_|refine Qb rfl rfl ?_
 refine Yd (Za rfl ?_);rw[w2];refine Xk ?_;refine Za rfl (Yd ?_);simp_all [Z0,pe]
end Go.Ah.Tz
end
section
namespace Go.Ah.Tz
open Go.Proofs.Tryz (prog)
theorem EF(m:Nat→Option Nat)(l:List Int):(ab.rows 1 (l.map aY)).c7 (aa.cj m)=.rows 1 (l.map aY):=by
 simp only[ab.c7,SC (ZdB m)]
theorem J3(m:Nat→Option Nat)(l:List Th):(ab.rows 4 (l.map aP)).c7 (aa.cj m)=.rows 4 (l.map aP):=by
 simp only[ab.c7,SC (XdM m)]
attribute [local irreducible] ak.rd ak.pu ak.wr ak.dr ak.gr ak.gw ak.gl ak.gd ak.opt aH W
@[reducible] def Ej(s:Sd)(b:Nat):List aa:=[iv s.aJ,iv s.aW,iv s.most,.sl b 0 s.aA.length false,.sl (b+1) 0 s.hand.length false,.sl (b+2) 0 s.aj.length false,.sl (b+3) 0 s.ae.length false,.sl (b+4) 0 s.told.length false]
@[reducible] def vK(s:Sd):List ab:=[.rows 1 (s.aA.map aY),.rows 1 (s.hand.map aY),.rows 1 (s.aj.map aY),.rows 4 (s.ae.map aP),.rows 1 (s.told.map aY)]
@[reducible] def ru(s:St)(b:Nat):List aa:=[iv s.turn,iv s.mover,ar s.phase,.bool s.bF,ar s.result,.sl b 0 s.al.length false,iv s.next]++Ej s.s0 (b+1)++Ej s.s1 (b+6)
@[reducible] def nk(s:St):List ab:=.rows 1 (s.al.map aY)::vK s.s0++vK s.s1
end Go.Ah.Tz
end
section
namespace Go.Ah.Tz
open Go.Proofs.Tryz (prog)
attribute [local irreducible] ak.rd ak.pu ak.wr ak.dr ak.gr ak.gw ak.gl ak.gd ak.opt aH W
def gU(l:List Th)(id:Int):Option Nat:=l.findIdx? (λu=>decide (u.id=id))
theorem Vh{l:List Th}{id:Int}{i:Nat}(h:i<l.length)(h2:l[i].id=id)(hb:∀j (hj:j<l.length),j<i→l[j].id≠id):gU l id=some i:=by
 unfold gU;rw[List.findIdx?_eq_some_iff_getElem];exact⟨h,by simpa using h2,λj hj=>by simpa using hb j (by omega) hj⟩
theorem Se{l:List Th}{id:Int}(hb:∀j (hj:j<l.length),l[j].id≠id):gU l id=none:=by
 unfold gU;rw[List.findIdx?_eq_none_iff];intro x hx;obtain⟨j,hj,rfl⟩:=List.getElem_of_mem hx;simpa using hb j hj
def bj(s:St)(id:Int):Int×Int×Bool:=match gU s.s0.ae id with
 |some k=>(0,k,true)
 |none=>match gU s.s1.ae id with
  |some k=>(1,k,true)
  |none=>(0,0,false)
def i7(s:St)(id:Int):aa:=.bn [iv (bj s id).1,iv (bj s id).2.1,.bool (bj s id).2.2]
theorem c23(s:St)(hs:bu 1000000000 s)(id:Int):PC 26 [cf s,iv id] (i7 s id):=by
 refine Yc hP g26.ok rfl rfl ?_;rw[H2.e]; unfold g26; dsimp only;have w1:IntKind.i64.wrap (0+1)=1:=by decide
 have w2:IntKind.i64.wrap (1+1)=2:=by decide
 have u0:=hs.s0.ae;have u1:=hs.s1.ae;repeat first|refine Za rfl ?_|refine Qb rfl rfl ?_
 refine YK 3 (Xk ?_);refine Za rfl (Xc ?_);refine Xj (ι:=Nat) (λi vs σ=>vs=[iv i]∧σ=[.box (aD s)]∧i≤s.s0.ae.length∧∀j (hj:j<s.s0.ae.length),j<i→s.s0.ae[j].id≠id) (λi=>s.s0.ae.length-i) 0 ⟨rfl,rfl,by omega,λj _ h=>by omega⟩ ?_;rintro i vs σ again ⟨rfl,rfl,hi,hb⟩ aZ;repeat first|refine Za rfl ?_|refine Qb rfl rfl ?_
 refine Zb (λh=>?_) (λh=>?_)
 ·have h:i<s.s0.ae.length:=by simpa using h
  repeat first|refine Za rfl ?_|refine Qb rfl rfl ?_
  refine Za (Zp _ aP _ _ _ _ _ i h) ?_;repeat first|refine Za rfl ?_|refine Qb rfl rfl ?_
  refine Zb (λh2=>?_) (λh2=>?_)
  ·have h2:s.s0.ae[i].id=id:=by simpa using h2
   have hf:gU s.s0.ae id=some i:=Vh h h2 hb;simp[i7,bj,hf]
  ·have h2:s.s0.ae[i].id≠id:=by simpa using h2
   refine Za rfl ?_;rw[Qd (n:=i) (by omega)];refine aZ (i+1) _ _ (by omega) ⟨rfl,rfl,by omega,λj hj VY=>?_⟩;by_cases e:j=i
   ·subst e; exact h2
   ·exact hb j hj (by omega)
 have h:¬i<s.s0.ae.length:=by simpa using h
 have jK:gU s.s0.ae id=none:=Se (λj hj=>hb j hj (by omega));refine Za rfl ?_;rw[w1];refine Xk ?_;refine Za rfl (Xc ?_);refine Xj (ι:=Nat) (λi vs σ=>vs=[iv i]∧σ=[.box (aD s)]∧i≤s.s1.ae.length∧∀j (hj:j<s.s1.ae.length),j<i→s.s1.ae[j].id≠id) (λi=>s.s1.ae.length-i) 0 ⟨rfl,rfl,by omega,λj _ h=>by omega⟩ ?_;rintro i vs σ again ⟨rfl,rfl,hi,hb⟩ aZ;repeat first|refine Za rfl ?_|refine Qb rfl rfl ?_
 refine Zb (λh=>?_) (λh=>?_)
 ·have h:i<s.s1.ae.length:=by simpa using h
  repeat first|refine Za rfl ?_|refine Qb rfl rfl ?_
  refine Za (Zp _ aP _ _ _ _ _ i h) ?_;repeat first|refine Za rfl ?_|refine Qb rfl rfl ?_
  refine Zb (λh2=>?_) (λh2=>?_)
  ·have h2:s.s1.ae[i].id=id:=by simpa using h2
   have hf:gU s.s1.ae id=some i:=Vh h h2 hb;simp[i7,bj,jK,hf]
  ·have h2:s.s1.ae[i].id≠id:=by simpa using h2
   refine Za rfl ?_;rw[Qd (n:=i) (by omega)];refine aZ (i+1) _ _ (by omega) ⟨rfl,rfl,by omega,λj hj VY=>?_⟩;by_cases e:j=i
   ·subst e; exact h2
   ·exact hb j hj (by omega)
 have h:¬i<s.s1.ae.length:=by simpa using h
 have wW:gU s.s1.ae id=none:=Se (λj hj=>hb j hj (by omega));refine Za rfl ?_;rw[w2];refine Xk ?_;refine Za rfl (Yd ?_);simp[i7,bj,jK,wW]
end Go.Ah.Tz
end
section
namespace Go.Ah.Tz
abbrev Tx:=List UInt8
inductive Nm where
 |mk (op n who:Int) (kids:List Nm)
 deriving Inhabited
inductive Cn where
 |mk (op who:Int) (name:Tx) (ay:List Nm) (kids:List Cn)
 deriving Inhabited
inductive Ef where
 |mk (op who:Int) (n:Nm) (name:Tx) (c:Cn) (bM bQ:List Ef)
 deriving Inhabited
def Nm.op:Nm→Int | .mk a _ _ _=>a
def Nm.n:Nm→Int | .mk _ a _ _=>a
def Nm.who:Nm→Int | .mk _ _ a _=>a
def Nm.kids:Nm→List Nm | .mk _ _ _ a=>a
def Cn.op:Cn→Int | .mk a _ _ _ _=>a
def Cn.who:Cn→Int | .mk _ a _ _ _=>a
def Cn.name:Cn→Tx | .mk _ _ a _ _=>a
def Cn.ay:Cn→List Nm | .mk _ _ _ a _=>a
def Cn.kids:Cn→List Cn | .mk _ _ _ _ a=>a
def Ef.op:Ef→Int | .mk a _ _ _ _ _ _=>a
def Ef.who:Ef→Int | .mk _ a _ _ _ _ _=>a
def Ef.n:Ef→Nm | .mk _ _ a _ _ _ _=>a
def Ef.name:Ef→Tx | .mk _ _ _ a _ _ _=>a
def Ef.c:Ef→Cn | .mk _ _ _ _ a _ _=>a
def Ef.bM:Ef→List Ef | .mk _ _ _ _ _ a _=>a
def Ef.bQ:Ef→List Ef | .mk _ _ _ _ _ _ a=>a
mutual
def ba:Nm→List aa
 |.mk op n who kids=>[ar op,iv n,ar who,.ax false false 4 (xq kids)]
def xq:List Nm→List (List aa)
 |[]=>[]
 |x::l=>ba x::xq l
end
theorem R8:∀l,xq l=l.map ba
 |[]=>rfl
 |x::l=>by simp[xq,R8 l]
theorem XI(x:Nm):ba x=[ar x.op,iv x.n,ar x.who,.ax false false 4 (x.kids.map ba)]:=by
 cases x; simp[ba,R8,Nm.op,Nm.n,Nm.who,Nm.kids]
mutual
def cG:Cn→List aa
 |.mk op who name ay kids=>[ar op,ar who,.str name,.ax false false 4 (ay.map ba),.ax false false 5 (wz kids)]
def wz:List Cn→List (List aa)
 |[]=>[]
 |x::l=>cG x::wz l
end
theorem R3:∀l,wz l=l.map cG
 |[]=>rfl
 |x::l=>by simp[wz,R3 l]
theorem YQ(x:Cn):cG x=[ar x.op,ar x.who,.str x.name,.ax false false 4 (x.ay.map ba),.ax false false 5 (x.kids.map cG)]:=by
 cases x; simp[cG,R3,Cn.op,Cn.who,Cn.name,Cn.ay,Cn.kids]
mutual
def aM:Ef→List aa
 |.mk op who n name c bM bQ=>[ar op,ar who,ar n.op,iv n.n,ar n.who,.ax false false 4 (n.kids.map ba),.str name,ar c.op,ar c.who,.str c.name,.ax false false 4 (c.ay.map ba),.ax false false 5 (c.kids.map cG),.ax false false 14 (tX bM),.ax false false 14 (tX bQ)]
def tX:List Ef→List (List aa)
 |[]=>[]
 |x::l=>aM x::tX l
end
theorem U_:∀l,tX l=l.map aM
 |[]=>rfl
 |x::l=>by simp[tX,U_ l]
theorem XC(x:Ef):aM x=[ar x.op,ar x.who,ar x.n.op,iv x.n.n,ar x.n.who,.ax false false 4 (x.n.kids.map ba),.str x.name,ar x.c.op,ar x.c.who,.str x.c.name,.ax false false 4 (x.c.ay.map ba),.ax false false 5 (x.c.kids.map cG),.ax false false 14 (x.bM.map aM),.ax false false 14 (x.bQ.map aM)]:=by
 cases x; simp[aM,U_,Ef.op,Ef.who,Ef.n,Ef.name,Ef.c,Ef.bM,Ef.bQ]
structure Cd where
 name:Tx
 unit:Bool
 cost:Int
 cJ:Int
 bD:Int
 cw:Int
 dG:Int
 eu:Int
 ca:List Ef
 dead:List Ef
 dJ:List Ef
 pl:Int
 deriving Inhabited
@[reducible] def ic(l:List Ef):aa:=.ax false false 14 (l.map aM)
def b_(c:Cd):List aa:=[.str c.name,.bool c.unit,iv c.cost,iv c.cJ,iv c.bD,iv c.cw,iv c.dG,iv c.eu,ic c.ca,ic c.dead,ic c.dJ,iv c.pl]
def sR(t:Tx):List aa:=[.str t]
@[reducible] def El(l:List Tx):aa:=.ax false false 1 (l.map sR)
structure Fo where
 name:Tx
 least:Int
 most:Int
 iR:Int
 iQ:List Tx
 single:List Tx
 pl:Int
 deriving Inhabited
def mK(f:Fo):List aa:=[.str f.name,iv f.least,iv f.most,iv f.iR,El f.iQ,El f.single,iv f.pl]
structure Bk where
 af:List Cd
 av:List Fo
 deriving Inhabited
@[reducible] def fm(l:List Cd):aa:=.ax false false 12 (l.map b_)
@[reducible] def kT(l:List Fo):aa:=.ax false false 7 (l.map mK)
@[reducible] def dg(b:Bk):aa:=.agg [fm b.af,kT b.av]
end Go.Ah.Tz
end
section
namespace Go.Ah.Tz
open Go.Proofs.Tryz (prog)
attribute [local irreducible] ak.rd ak.pu ak.wr ak.dr ak.gr ak.gw ak.gl ak.gd ak.opt aH W
def gD(n:Int):Bool:=decide (-1000000≤n)&&decide (n≤1000000)
theorem c116(n:Int):PC 47 [iv n] (.bool (gD n)):=by
 refine Yc hP g47.ok rfl rfl ?_;rw[H1.e]; unfold g47; dsimp only;refine Za rfl ?_;rcases aT (decide (n ≥ -1000000)) with h|h
 ·rw[h];repeat first|refine Za rfl ?_|refine Qb rfl rfl ?_|refine Ya ?_|refine Xa ?_
  have h':-1000000≤n:=by simpa using h
  simp[gD,h']
 ·rw[h];repeat first|refine Qa rfl ?_|refine Yb rfl ?_|refine Zc rfl ?_|refine Qc rfl ?_|refine Za rfl ?_|refine Qb rfl rfl ?_
  have h':¬ -1000000≤n:=by simpa using h
  simp[gD,h']
theorem c57(n:Int):PC 125 [iv n] (.bool (gD n)):=by
 refine Yc hP g125.ok rfl rfl ?_;rw[H1.e]; unfold g125; dsimp only;refine Za rfl ?_;rcases aT (decide (n ≥ -1000000)) with h|h
 ·rw[h];repeat first|refine Za rfl ?_|refine Qb rfl rfl ?_|refine Ya ?_|refine Xa ?_
  have h':-1000000≤n:=by simpa using h
  simp[gD,h']
 ·rw[h];repeat first|refine Qa rfl ?_|refine Yb rfl ?_|refine Zc rfl ?_|refine Qc rfl ?_|refine Za rfl ?_|refine Qb rfl rfl ?_
  have h':¬ -1000000≤n:=by simpa using h
  simp[gD,h']
def Zn(n:Nat)(l:List Int)(most:Int):Bool:=decide ((l.length:Int)≤most)&&l.all λc=>decide (0≤c)&&decide (c<n)
theorem c117(b:Bk)(l:List Int)(most:Int)(hl:l.length≤1000000000):PC 48 [dg b,aV l,iv most] (.bool (Zn b.af.length l most)):=by
 refine Yc hP g48.ok rfl rfl ?_;rw[H3.e]; unfold g48; dsimp only;repeat first|refine Za rfl ?_|refine Qb rfl rfl ?_|refine Ya ?_|refine Xa ?_
 refine Zb (λh=>?_) (λh=>?_)
 ·have h:most<l.length:=by simpa using h
  have h':¬(l.length:Int)≤most:=by omega
  simp[Zn,h']
 have hm:(l.length:Int)≤most:=by simpa using h
 refine Xj (ι:=Nat) (λi vs σ=>vs=[iv i]∧σ=[.box [fm b.af,kT b.av]]∧i≤l.length∧∀j (hj:j<l.length),j<i→0≤l[j]∧l[j]<b.af.length) (λi=>l.length-i) 0 ⟨rfl,rfl,by omega,λj _ h=>by omega⟩ ?_;rintro i vs σ again ⟨rfl,rfl,hi,hb⟩ aZ;repeat first|refine Za rfl ?_|refine Qb rfl rfl ?_|refine Ya ?_|refine Xa ?_
 refine Zb (λh=>?_) (λh=>?_)
 ·have h:i<l.length:=by simpa using h
  refine Za (Zp _ aY _ _ _ l _ i h) ?_;repeat first|refine Za rfl ?_|refine Qb rfl rfl ?_|refine Ya ?_|refine Xa ?_
  have bad:¬(0≤l[i]∧l[i]<b.af.length)→aa.bool false=aa.bool (Zn b.af.length l most):=by
   intro hn;have:Zn b.af.length l most=false:=by
    simp only[Zn,Bool.and_eq_false_iff];right;rw[List.all_eq_false];refine⟨l[i],List.getElem_mem h,?_⟩;simpa using hn
   rw[this]
  rcases aT (decide (l[i]<0)) with h2|h2
  ·rw[h2];repeat first|refine Qa rfl ?_|refine Yb rfl ?_|refine Zc rfl ?_|refine Qc rfl ?_|refine Za rfl ?_|refine Qb rfl rfl ?_
   refine Xc (bad ?_);have:l[i]<0:=by simpa using h2
   omega
  rw[h2];repeat first|refine Ya ?_|refine Za rfl ?_
  refine Za (Zp _ aY _ _ _ l _ i h) ?_;repeat first|refine Za rfl ?_|refine Qb rfl rfl ?_|refine Ya ?_|refine Xa ?_
  have h2:¬l[i]<0:=by simpa using h2
  refine Zb (λh3=>?_) (λh3=>?_)
  ·refine bad ?_;have:(b.af.length:Int)≤l[i]:=by simpa using h3
   omega
  ·have:¬(b.af.length:Int)≤l[i]:=by simpa using h3
   refine Za rfl ?_;rw[Qd (n:=i) (by omega)];refine aZ (i+1) _ _ (by omega) ⟨rfl,rfl,by omega,λj hj VY=>?_⟩;by_cases e:j=i
   ·subst e; omega
   ·exact hb j hj (by omega)
 ·have h:¬i<l.length:=by simpa using h
  have:Zn b.af.length l most=true:=by
   simp only[Zn,Bool.and_eq_true,decide_eq_true_eq,List.all_eq_true];refine⟨hm,λx hx=>?_⟩;obtain⟨j,hj,rfl⟩:=List.getElem_of_mem hx;exact hb j hj (by omega)
  rw[this]
end Go.Ah.Tz
end
section
namespace Go.Ah.Tz
open Go.Proofs.Tryz (prog)
theorem ld{σ:List ab}{b j n:Nat}{agg:Bool}{row:List aa}{v:aa}(hb:ah σ b=.box row)(hv:aL agg j n row=some v):Xh agg n [.ai b j] σ=.ok v [b] []:=by
 rw[Qdj,hb]; simp only[hv]
theorem cM{σ:List ab}{b j n:Nat}{x:aa}{cs row row':List aa}(hb:ah σ b=.box row)(hc:cellsOf x=some cs)(hn:Nat.beq cs.length n=true)(hs:cr j cs row=some row'):Qm n [.ai b j,x] σ=.ok .aF [] [(b,.box row')]:=by
 rw[QcQ,hb]; simp only[hc,hn,cond_true,hs]
theorem Xq{P:Program}{GL:aw}{σ:List ab}{z:List aa}{n:Nat}{x:aa}{row row':List aa}{K:aa→aa→List ab→Prop}(hc:cellsOf x=some row)(hn:Nat.beq row.length n=true)(hs:cr 0 row z=some row')
 (hK:K (.ai σ.length 0) .aF (σ++[.box row'])):(W P GL).wr (Zy z [] σ) σ (λt σ'=>(W P GL).wr (Qm n [t,x] σ') σ' (K t)):=by
 refine Qb (ZdD σ z) (Yi _ _) ?_;refine Qb (cM (Yf _ _) hc hn hs) (Xg _ (by simp)) ?_;have:(σ++[ab.box z]).set σ.length (.box row')=σ++[.box row']:=by
  rw[List.set_append_right _ _ (Nat.le_refl _)]; simp
 rw[this]; exact hK
def BX(σ σ':List ab):Prop:=∀c r,ah σ c=.box r→ah σ' c=.box r
theorem BX.trans{a b c:List ab}(h:BX a b)(k:BX b c):BX a c:=λx r e=>k x r (h x r e)
theorem BX.app(σ l:List ab):BX σ (σ++l):=λ_ _ h=>Xd l h (by simp)
theorem fq.more{n k:Nat}{rows:List (List aa)}{v:aa}{σ:List ab}(h:fq n rows k v σ)(l:List ab):fq n rows k v (σ++l):=by
 rcases h with h|⟨h1,b,h2,h3,h4⟩
 ·exact .inl h
 ·exact .inr ⟨h1,b,h2,Xd l h3 (by simp),h4⟩
theorem fq.len{n k:Nat}{rows:List (List aa)}{v:aa}{σ:List ab}(h:fq n rows k v σ)(σ':List ab):Yp [v] σ'=.ok (.int .i64 k) [] []:=by
 rcases h with ⟨rfl,rfl,_⟩|⟨_,b,rfl,_,_⟩<;>rfl
theorem fq.at{n k:Nat}{rows:List (List aa)}{v:aa}{σ:List ab}(h:fq n rows k v σ)(q:IntKind)(j:Nat)(hj:j<k) :
  ∃b,Zm n [v,.int q (j:Int)] σ=.ok (.ptr b j 0) [b] []∧∃hj:j<rows.length,∀agg m w,aL agg 0 m rows[j]=some w→Xh agg m [.ptr b j 0] σ=.ok w [b] []:=by
 rcases h with ⟨rfl,rfl,_⟩|⟨_,b,rfl,hb,hl⟩
 ·omega
 ·refine⟨b,?_,by omega,λagg m w hw=>?_⟩
  ·have:=rI σ b 0 k false n rows q j hj hb
   rwa [Nat.zero_add] at this
  ·show (match ah σ b with
   |.rows _ rs=>match nth rs j with
    |some row=>match aL agg 0 m row with
     |some v=>az.ok v [b] []
     |none=>.stop
    |none=>.stop
   | _=>.stop)=_
   rw[hb];simp only[Y7,List.getElem?_eq_getElem (show j<rows.length by omega),hw]
theorem fq.i9{α:Type}(A:ak α){hold:α→Prop}{n by_ k:Nat}{rows:List (List aa)}{v:aa}{σ:List ab}{row:List aa}(hg:fq n rows k v σ)(hr:row.all aa.cell=true)(ct:(2*(k+1)+192)*by_≤2 ^ 48)(K:aa→List ab→α)
 (hK:∀v' σ',BX σ σ'→fq n (rows++[row]) (k+1) v' σ'→hold (K v' σ')):hold (A.wr (Zl n by_ [v,.sl σ.length 0 1 true] (σ++[.rows n [row]])) (σ++[.rows n [row]]) K):=by
 rcases hg with ⟨rfl,rfl,rfl⟩|⟨hk,b,rfl,hb,hl⟩
 ·rw[Jw A n by_ σ row hr (by simpa using ct)];exact hK _ _ ((BX.app _ _).trans (BX.app _ _)) (.inr ⟨by omega,_,rfl,by have:=Yf (σ++[.rows n [row]]) (.rows n [row]); simpa using this,rfl⟩)
 ·rw[zf A n by_ σ b k false rows row hb hl hr ct];refine hK _ _ (BX.trans (λc r hc=>?_) ((BX.app (σ.set b .dead) _).trans (BX.app _ _))) (.inr ⟨by omega,_,rfl,?_,by simp[hl]⟩)
  ·refine Zd hc (by simp) ?_;rintro rfl;rw[hb] at hc; cases hc
  ·have:=Yf (σ.set b .dead++[.rows n [row]]) (.rows n (rows++[row]));simpa using this
theorem sU{α:Type}(σ:List ab)(f:α→List aa)(e n:Bool)(s:Nat)(l:List α)(k:IntKind)(c:Int)(h0:0≤c)(h:c.toNat<l.length):Zm s [.ax e n s (l.map f),.int k c] σ=.ok (.ao (f l[c.toNat]) 0) [] []:=by
 obtain⟨m,rfl⟩:=Int.eq_ofNat_of_zero_le h0;exact Zp σ f e n s l k m (by simpa using h)
def Zq(b:Bk)(next:Int)(u:Th):Bool:=decide (0≤u.card)&&(decide (u.card<b.af.length)&&(((b.af[u.card.toNat]?).map Cd.unit).getD false&&(decide (0≤u.harm)&&(decide (u.harm≤1000000)&&(decide (1≤u.id)&&decide (u.id<next))))))
def Ys(b:Bk)(next:Int):List Int→List Th→Bool
 |_,[]=>true
 |ids,u::l=>Zq b next u&&(!(ids.contains u.id)&&Ys b next (ids++[u.id]) l)
def Xl(n:Nat)(x:Sd):Bool:=gD x.aJ&&(decide (0≤x.aW)&&(gD x.aW&&(decide (0≤x.most)&&(decide (x.most≤10)&&(Zn n x.aA 60&&(Zn n x.hand 10&&(Zn n x.aj 1000000&&(Zn n x.told 1000000&&decide (x.ae.length≤7)))))))))
def Xw(b:Bk)(s:St):Bool:=Xl b.af.length s.s0&&(Ys b s.next [] s.s0.ae&&(Xl b.af.length s.s1&&Ys b s.next (s.s0.ae.map Th.id) s.s1.ae))
end Go.Ah.Tz
end
section
namespace Go.Ah.Tz
open Go.Proofs.Tryz (prog)
attribute [local irreducible] ak.rd ak.pu ak.wr ak.dr ak.gr ak.gw ak.gl ak.gd ak.opt aH W
set_option maxHeartbeats 2000000
theorem c68(b:Bk)(s:St)(hs:bu 1000000000 s):PC 25 [dg b,cf s] (.bool (Xw b s)):=by
 refine Yc hP g25.ok rfl rfl ?_;rw[H2.e]; unfold g25; dsimp only;have w1:IntKind.i64.wrap (0+1)=1:=by decide
 have w2:IntKind.i64.wrap (1+1)=2:=by decide
 repeat first|refine Za rfl ?_|refine Qb rfl rfl ?_
 have aG:ah ([]++[ab.box [fm b.af,kT b.av]]++[ab.box (aD s)]) 0=.box [fm b.af,kT b.av]:=rfl;have bw:ah ([]++[ab.box [fm b.af,kT b.av]]++[ab.box (aD s)]) 1=.box (aD s):=rfl;have hg:fq 1 (([]:List Int).map aY) 0 .aq ([]++[ab.box [fm b.af,kT b.av]]++[ab.box (aD s)]):=fq.nil _ _;generalize ([]++[ab.box [fm b.af,kT b.av]]++[ab.box (aD s)]:List ab)=σ at aG bw hg ⊢;refine YK 3 (Xk ?_);refine Za rfl (Xc ?_);refine Za rfl (Za rfl (Za (ld bw rfl) ?_));refine Xq rfl rfl rfl ?_;have fJ:ah (σ++[.box (rm s.s0)]) σ.length=.box (rm s.s0):=Yf _ _
 replace aG:=Xd [.box (rm s.s0)] aG (by simp)
 replace bw:=Xd [.box (rm s.s0)] bw (by simp)
 replace hg:=hg.more [.box (rm s.s0)]
 generalize hN:σ.length=N at fJ ⊢;clear hN;generalize (σ++[ab.box (rm s.s0)]:List ab)=σ2 at aG bw fJ hg ⊢;have bad:Xl b.af.length s.s0=false→aa.bool false=aa.bool (Xw b s):=by intro h; simp[Xw,h]
 repeat first|refine Ya ?_|refine Xa ?_|refine Za (ld fJ rfl) ?_|refine Za rfl ?_
 refine Xb (c116 _) rfl g47.ok.plain rfl ?_;refine Za rfl ?_;rcases aT (!gD s.s0.aJ) with a1|a1
 ·rw[a1];repeat first|refine Qa rfl ?_|refine Yb rfl ?_|refine Zc rfl ?_|refine Qc rfl ?_|refine Za rfl ?_
  refine Xc (bad ?_);simp at a1;simp[Xl,a1]
 rw[a1];repeat first|refine Ya ?_|refine Xa ?_|refine Za (ld fJ rfl) ?_|refine Za rfl ?_
 rcases aT (decide (s.s0.aW<0)) with a2|a2
 ·rw[a2];repeat first|refine Qa rfl ?_|refine Yb rfl ?_|refine Zc rfl ?_|refine Qc rfl ?_|refine Za rfl ?_
  refine Xc (bad ?_);simp at a2;simp[Xl,show ¬0≤s.s0.aW by omega]
 rw[a2];repeat first|refine Ya ?_|refine Xa ?_|refine Za (ld fJ rfl) ?_|refine Za rfl ?_
 refine Xb (c116 _) rfl g47.ok.plain rfl ?_;repeat first|refine Ya ?_|refine Xa ?_|refine Za (ld fJ rfl) ?_|refine Za rfl ?_
 rcases aT (!gD s.s0.aW) with a3|a3
 ·rw[a3];repeat first|refine Qa rfl ?_|refine Yb rfl ?_|refine Zc rfl ?_|refine Qc rfl ?_|refine Za rfl ?_
  refine Xc (bad ?_);simp at a3;simp[Xl,a3]
 rw[a3];repeat first|refine Ya ?_|refine Xa ?_|refine Za (ld fJ rfl) ?_|refine Za rfl ?_
 rcases aT (decide (s.s0.most<0)) with a4|a4
 ·rw[a4];repeat first|refine Qa rfl ?_|refine Yb rfl ?_|refine Zc rfl ?_|refine Qc rfl ?_|refine Za rfl ?_
  refine Xc (bad ?_);simp at a4;simp[Xl,show ¬0≤s.s0.most by omega]
 rw[a4];repeat first|refine Ya ?_|refine Xa ?_|refine Za (ld fJ rfl) ?_|refine Za rfl ?_
 refine Zb (λa5=>bad ?_) (λa5=>?_)
 ·have a5:10<s.s0.most:=by simpa using a5
  simp[Xl,show ¬s.s0.most≤10 by omega]
 refine Za (ld aG rfl) ?_;repeat first|refine Ya ?_|refine Xa ?_|refine Za (ld fJ rfl) ?_|refine Za rfl ?_
 refine Xb (c117 _ _ _ hs.s0.aA) rfl g48.ok.plain rfl ?_;refine Za rfl ?_;rcases aT (!Zn b.af.length s.s0.aA 60) with a6|a6
 ·rw[a6];repeat first|refine Qa rfl ?_|refine Yb rfl ?_|refine Zc rfl ?_|refine Qc rfl ?_|refine Za rfl ?_
  refine Xc (bad ?_);simp at a6;simp[Xl,a6]
 rw[a6];repeat first|refine Ya ?_|refine Xa ?_|refine Za (ld fJ rfl) ?_|refine Za (ld aG rfl) ?_|refine Za rfl ?_
 refine Xb (c117 _ _ _ hs.s0.hand) rfl g48.ok.plain rfl ?_;repeat first|refine Ya ?_|refine Xa ?_|refine Za (ld fJ rfl) ?_|refine Za (ld aG rfl) ?_|refine Za rfl ?_
 rcases aT (!Zn b.af.length s.s0.hand 10) with a7|a7
 ·rw[a7];repeat first|refine Qa rfl ?_|refine Yb rfl ?_|refine Zc rfl ?_|refine Qc rfl ?_|refine Za rfl ?_
  refine Xc (bad ?_);simp at a7;simp[Xl,a7]
 rw[a7];repeat first|refine Ya ?_|refine Xa ?_|refine Za (ld fJ rfl) ?_|refine Za (ld aG rfl) ?_|refine Za rfl ?_
 refine Xb (c117 _ _ _ hs.s0.aj) rfl g48.ok.plain rfl ?_;repeat first|refine Ya ?_|refine Xa ?_|refine Za (ld fJ rfl) ?_|refine Za (ld aG rfl) ?_|refine Za rfl ?_
 rcases aT (!Zn b.af.length s.s0.aj 1000000) with a8|a8
 ·rw[a8];repeat first|refine Qa rfl ?_|refine Yb rfl ?_|refine Zc rfl ?_|refine Qc rfl ?_|refine Za rfl ?_
  refine Xc (bad ?_);simp at a8;simp[Xl,a8]
 rw[a8];repeat first|refine Ya ?_|refine Xa ?_|refine Za (ld fJ rfl) ?_|refine Za (ld aG rfl) ?_|refine Za rfl ?_
 refine Xb (c117 _ _ _ hs.s0.told) rfl g48.ok.plain rfl ?_;repeat first|refine Ya ?_|refine Xa ?_|refine Za (ld fJ rfl) ?_|refine Za (ld aG rfl) ?_|refine Za rfl ?_
 rcases aT (!Zn b.af.length s.s0.told 1000000) with a9|a9
 ·rw[a9];repeat first|refine Qa rfl ?_|refine Yb rfl ?_|refine Zc rfl ?_|refine Qc rfl ?_|refine Za rfl ?_
  refine Xc (bad ?_);simp at a9;simp[Xl,a9]
 rw[a9];repeat first|refine Ya ?_|refine Xa ?_|refine Za (ld fJ rfl) ?_|refine Za (ld aG rfl) ?_|refine Za rfl ?_
 refine Zb (λa10=>bad ?_) (λa10=>?_)
 ·have a10:7<s.s0.ae.length:=by simp at a10; omega
  simp[Xl,show ¬s.s0.ae.length≤7 by omega]
 have OE:Xl b.af.length s.s0=true:=by
  simp at a1 a2 a3 a4 a5 a6 a7 a8 a9 a10;simp[Xl,a1,a2,a3,a4,a5,a6,a7,a8,a9]; omega
 have Nv:s.s0.ae.length≤7:=by simp at a10; omega
 clear a1 a2 a3 a4 a5 a6 a7 a8 a9 a10 bad;have qH:Ys b s.next [] s.s0.ae=false→aa.bool false=aa.bool (Xw b s):=by intro h; simp[Xw,h]
 refine Xj (ι:=Nat) (λi vs σ=>∃v,vs=[iv i,v]∧i≤s.s0.ae.length∧fq 1 (([]++(s.s0.ae.take i).map Th.id).map aY) (0+i) v σ∧ah σ 0=.box [fm b.af,kT b.av]∧ah σ 1=.box (aD s)∧ah σ N=.box (rm s.s0)∧Ys b s.next [] s.s0.ae=Ys b s.next ([]++(s.s0.ae.take i).map Th.id) (s.s0.ae.drop i)) (λi=>s.s0.ae.length-i) 0 ⟨_,rfl,by omega,(by simp only[Ah.h1,oZ,iL,List.take_zero,List.map_nil,List.append_nil,Nat.add_zero]; exact hg),aG,bw,fJ,by simp⟩ ?_;clear aG bw fJ hg;rintro i vs σ3 again ⟨v,rfl,hi,hg,aG,bw,fJ,hu⟩ aZ;repeat first|refine Ya ?_|refine Xa ?_|refine Za (ld fJ rfl) ?_|refine Za rfl ?_
 refine Zb (λh=>?_) (λh=>?_)
 ·have h:i<s.s0.ae.length:=by simpa using h
  have cX:s.s0.ae.drop i=s.s0.ae[i]::s.s0.ae.drop (i+1):=by rw[fA h]
  rw[cX] at hu;repeat first|refine Ya ?_|refine Xa ?_|refine Za (ld fJ rfl) ?_|refine Za rfl ?_
  refine Za (Zp _ aP _ _ _ _ _ i h) ?_;refine Za rfl ?_;refine Xq rfl rfl rfl ?_;generalize hU:s.s0.ae[i]=u at hu cX;have kU:ah (σ3++[.box (aP u)]) σ3.length=.box (aP u):=Yf _ _
  replace aG:=Xd [.box (aP u)] aG (by simp)
  replace bw:=Xd [.box (aP u)] bw (by simp)
  replace fJ:=Xd [.box (aP u)] fJ (by simp)
  replace hg:=hg.more [.box (aP u)]
  generalize hN:σ3.length=N3 at kU ⊢;clear hN
  try simp only[aa.cell]
  generalize uM:(σ3++[ab.box (aP u)]:List ab)=σ4 at aG bw fJ kU hg;have uN:(σ3++[ab.box [iv u.id,iv u.card,iv u.harm,.bool u.oq]]:List ab)=σ4:=uM
  first|rw[uN]|rw[uM]|skip
  have jZ:Zq b s.next u=false→aa.bool false=aa.bool (Xw b s):=by intro h; apply qH; rw[hu]; simp[Ys,h]
  repeat first|refine Ya ?_|refine Xa ?_|refine Za (ld kU rfl) ?_|refine Za (ld aG rfl) ?_|refine Za (ld bw rfl) ?_|refine Za rfl ?_
  rcases aT (decide (u.card<0)) with q1|q1
  ·rw[q1];repeat first|refine Qa rfl ?_|refine Yb rfl ?_|refine Zc rfl ?_|refine Qc rfl ?_|refine Za rfl ?_
   refine Xc (jZ ?_);simp at q1;simp[Zq,show ¬0≤u.card by omega]
  rw[q1];repeat first|refine Ya ?_|refine Xa ?_|refine Za (ld kU rfl) ?_|refine Za (ld aG rfl) ?_|refine Za (ld bw rfl) ?_|refine Za rfl ?_
  rcases aT (decide (u.card ≥ (b.af.map b_).length)) with q2|q2
  ·rw[q2];repeat first|refine Qa rfl ?_|refine Yb rfl ?_|refine Zc rfl ?_|refine Qc rfl ?_|refine Za rfl ?_
   refine Xc (jZ ?_);simp at q2;simp[Zq,show ¬u.card<b.af.length by omega]
  rw[q2];simp at q1 q2;have hc:u.card.toNat<b.af.length:=by omega
  have uk:b.af[u.card.toNat]?=some b.af[u.card.toNat]:=by simp[hc]
  repeat first|refine Ya ?_|refine Xa ?_|refine Za (ld kU rfl) ?_|refine Za (ld aG rfl) ?_|refine Za (ld bw rfl) ?_|refine Za rfl ?_
  refine Za (sU _ b_ _ _ _ _ _ _ (by omega) hc) ?_;repeat first|refine Ya ?_|refine Xa ?_|refine Za (ld kU rfl) ?_|refine Za (ld aG rfl) ?_|refine Za (ld bw rfl) ?_|refine Za rfl ?_
  rcases aT (!(b.af[u.card.toNat]).unit) with q3|q3
  ·rw[q3];repeat first|refine Qa rfl ?_|refine Yb rfl ?_|refine Zc rfl ?_|refine Qc rfl ?_|refine Za rfl ?_
   refine Xc (jZ ?_);simp at q3;simp[Zq,uk,q3]
  rw[q3];repeat first|refine Ya ?_|refine Xa ?_|refine Za (ld kU rfl) ?_|refine Za (ld aG rfl) ?_|refine Za (ld bw rfl) ?_|refine Za rfl ?_
  rcases aT (decide (u.harm<0)) with q4|q4
  ·rw[q4];repeat first|refine Qa rfl ?_|refine Yb rfl ?_|refine Zc rfl ?_|refine Qc rfl ?_|refine Za rfl ?_
   refine Xc (jZ ?_);simp at q4;simp[Zq,show ¬0≤u.harm by omega]
  rw[q4];repeat first|refine Ya ?_|refine Xa ?_|refine Za (ld kU rfl) ?_|refine Za (ld aG rfl) ?_|refine Za (ld bw rfl) ?_|refine Za rfl ?_
  rcases aT (decide (u.harm>1000000)) with q5|q5
  ·rw[q5];repeat first|refine Qa rfl ?_|refine Yb rfl ?_|refine Zc rfl ?_|refine Qc rfl ?_|refine Za rfl ?_
   refine Xc (jZ ?_);simp at q5;simp[Zq,show ¬u.harm≤1000000 by omega]
  rw[q5];repeat first|refine Ya ?_|refine Xa ?_|refine Za (ld kU rfl) ?_|refine Za (ld aG rfl) ?_|refine Za (ld bw rfl) ?_|refine Za rfl ?_
  rcases aT (decide (u.id<1)) with q6|q6
  ·rw[q6];repeat first|refine Qa rfl ?_|refine Yb rfl ?_|refine Zc rfl ?_|refine Qc rfl ?_|refine Za rfl ?_
   refine Xc (jZ ?_);simp at q6;simp[Zq,show ¬1≤u.id by omega]
  rw[q6];repeat first|refine Ya ?_|refine Xa ?_|refine Za (ld kU rfl) ?_|refine Za (ld aG rfl) ?_|refine Za (ld bw rfl) ?_|refine Za rfl ?_
  refine Zb (λq7=>jZ ?_) (λq7=>?_)
  ·have q7:s.next≤u.id:=by simpa using q7
   simp[Zq,show ¬u.id<s.next by omega]
  have bV:Zq b s.next u=true:=by
   simp at q3 q4 q5 q6 q7;simp[Zq,uk,q3]; omega
  rw[Ys,bV,Bool.true_and] at hu;generalize l8:[]++(s.s0.ae.take i).map Th.id=ids at hg hu;have mW:ids.length=0+i:=by rw[←l8]; simp[List.length_take,Nat.min_eq_left hi]
  refine Xj (ι:=Nat) (λj vs σ=>vs=[iv j]∧σ=σ4∧j≤ids.length∧∀m (hm:m<ids.length),m<j→ids[m]≠u.id) (λj=>ids.length-j) 0 ⟨rfl,rfl,by omega,λm _ h=>by omega⟩ ?_;rintro j vs σ kZ ⟨rfl,rfl,hj,ll⟩ jJ;refine Za (hg.len _) (Za rfl ?_);refine Zb (λh2=>?_) (λh2=>?_)
  ·have h2:j<ids.length:=by rw[mW]; simp at h2; omega
   obtain⟨bb,e1,nJ,e2⟩:=hg.at .i64 j (by omega);refine Za e1 ?_;refine Za (e2 false 1 (iv ids[j]) (by simp[aY])) ?_;repeat first|refine Ya ?_|refine Xa ?_|refine Za (ld kU rfl) ?_|refine Za (ld aG rfl) ?_|refine Za (ld bw rfl) ?_|refine Za rfl ?_
   refine Zb (λh3=>?_) (λh3=>?_)
   ·have h3:ids[j]=u.id:=by simpa using h3
    apply qH; rw[hu];have:u.id∈ids:=by rw[←h3]; exact List.getElem_mem h2
    simp[this]
   ·have h3:ids[j]≠u.id:=by simpa using h3
    refine Za rfl ?_;rw[Qd (n:=j) (by omega)];refine jJ (j+1) _ _ (by omega) ⟨rfl,rfl,by omega,λm hm s9=>?_⟩;by_cases e:m=j
    ·subst e; exact h3
    ·exact ll m hm (by omega)
  ·have h2:¬j<ids.length:=by rw[mW]; simp at h2; omega
   have me:ids.contains u.id=false:=by
    rw[List.contains_eq_mem,decide_eq_false_iff_not];intro hm;obtain⟨m,hm,e⟩:=List.getElem_of_mem hm;exact ll m hm (by omega) e
   rw[me,Bool.not_false,Bool.true_and] at hu;repeat first|refine Ya ?_|refine Xa ?_|refine Za (ld kU rfl) ?_|refine Za (ld aG rfl) ?_|refine Za (ld bw rfl) ?_|refine Za rfl ?_
   rw[ZN _ _ _ _ _ [iv u.id] rfl rfl];refine hg.i9 _ (hold:=λp=>p) rfl (by omega) _ (λv' σ' hx sZ=>?_);refine Za rfl ?_;rw[Qd (n:=i) (by omega)];have Hl:[]++(s.s0.ae.take (i+1)).map Th.id=ids++[u.id]:=by
    rw[←l8,Yv _ _ h,hU]; simp
   refine aZ (i+1) _ _ (by omega) ⟨v',rfl,by omega,?_,hx _ _ aG,hx _ _ bw,hx _ _ fJ,?_⟩
   ·rw[Hl]; simpa[aY,Nat.add_assoc] using sZ
   ·rw[Hl]; exact hu
 have h:i=s.s0.ae.length:=by simp at h; omega
 subst h;rw[List.take_length] at hg hu;have Pz:Ys b s.next [] s.s0.ae=true:=by rw[hu]; simp[Ys]
 clear aZ qH hu;refine Za rfl ?_;rw[w1];refine Xk ?_;simp only[List.nil_append,Nat.zero_add] at hg;generalize σ3=σ at aG bw hg ⊢;refine Za rfl (Xc ?_);refine Za rfl (Za rfl (Za (ld bw rfl) ?_));refine Xq rfl rfl rfl ?_;have fJ:ah (σ++[.box (rm s.s1)]) σ.length=.box (rm s.s1):=Yf _ _
 replace aG:=Xd [.box (rm s.s1)] aG (by simp)
 replace bw:=Xd [.box (rm s.s1)] bw (by simp)
 replace hg:=hg.more [.box (rm s.s1)]
 generalize hN:σ.length=N at fJ ⊢;clear hN;generalize (σ++[ab.box (rm s.s1)]:List ab)=σ2 at aG bw fJ hg ⊢;have bad:Xl b.af.length s.s1=false→aa.bool false=aa.bool (Xw b s):=by intro h; simp[Xw,h]
 repeat first|refine Ya ?_|refine Xa ?_|refine Za (ld fJ rfl) ?_|refine Za rfl ?_
 refine Xb (c116 _) rfl g47.ok.plain rfl ?_;refine Za rfl ?_;rcases aT (!gD s.s1.aJ) with a1|a1
 ·rw[a1];repeat first|refine Qa rfl ?_|refine Yb rfl ?_|refine Zc rfl ?_|refine Qc rfl ?_|refine Za rfl ?_
  refine Xc (bad ?_);simp at a1;simp[Xl,a1]
 rw[a1];repeat first|refine Ya ?_|refine Xa ?_|refine Za (ld fJ rfl) ?_|refine Za rfl ?_
 rcases aT (decide (s.s1.aW<0)) with a2|a2
 ·rw[a2];repeat first|refine Qa rfl ?_|refine Yb rfl ?_|refine Zc rfl ?_|refine Qc rfl ?_|refine Za rfl ?_
  refine Xc (bad ?_);simp at a2;simp[Xl,show ¬0≤s.s1.aW by omega]
 rw[a2];repeat first|refine Ya ?_|refine Xa ?_|refine Za (ld fJ rfl) ?_|refine Za rfl ?_
 refine Xb (c116 _) rfl g47.ok.plain rfl ?_;repeat first|refine Ya ?_|refine Xa ?_|refine Za (ld fJ rfl) ?_|refine Za rfl ?_
 rcases aT (!gD s.s1.aW) with a3|a3
 ·rw[a3];repeat first|refine Qa rfl ?_|refine Yb rfl ?_|refine Zc rfl ?_|refine Qc rfl ?_|refine Za rfl ?_
  refine Xc (bad ?_);simp at a3;simp[Xl,a3]
 rw[a3];repeat first|refine Ya ?_|refine Xa ?_|refine Za (ld fJ rfl) ?_|refine Za rfl ?_
 rcases aT (decide (s.s1.most<0)) with a4|a4
 ·rw[a4];repeat first|refine Qa rfl ?_|refine Yb rfl ?_|refine Zc rfl ?_|refine Qc rfl ?_|refine Za rfl ?_
  refine Xc (bad ?_);simp at a4;simp[Xl,show ¬0≤s.s1.most by omega]
 rw[a4];repeat first|refine Ya ?_|refine Xa ?_|refine Za (ld fJ rfl) ?_|refine Za rfl ?_
 refine Zb (λa5=>bad ?_) (λa5=>?_)
 ·have a5:10<s.s1.most:=by simpa using a5
  simp[Xl,show ¬s.s1.most≤10 by omega]
 refine Za (ld aG rfl) ?_;repeat first|refine Ya ?_|refine Xa ?_|refine Za (ld fJ rfl) ?_|refine Za rfl ?_
 refine Xb (c117 _ _ _ hs.s1.aA) rfl g48.ok.plain rfl ?_;refine Za rfl ?_;rcases aT (!Zn b.af.length s.s1.aA 60) with a6|a6
 ·rw[a6];repeat first|refine Qa rfl ?_|refine Yb rfl ?_|refine Zc rfl ?_|refine Qc rfl ?_|refine Za rfl ?_
  refine Xc (bad ?_);simp at a6;simp[Xl,a6]
 rw[a6];repeat first|refine Ya ?_|refine Xa ?_|refine Za (ld fJ rfl) ?_|refine Za (ld aG rfl) ?_|refine Za rfl ?_
 refine Xb (c117 _ _ _ hs.s1.hand) rfl g48.ok.plain rfl ?_;repeat first|refine Ya ?_|refine Xa ?_|refine Za (ld fJ rfl) ?_|refine Za (ld aG rfl) ?_|refine Za rfl ?_
 rcases aT (!Zn b.af.length s.s1.hand 10) with a7|a7
 ·rw[a7];repeat first|refine Qa rfl ?_|refine Yb rfl ?_|refine Zc rfl ?_|refine Qc rfl ?_|refine Za rfl ?_
  refine Xc (bad ?_);simp at a7;simp[Xl,a7]
 rw[a7];repeat first|refine Ya ?_|refine Xa ?_|refine Za (ld fJ rfl) ?_|refine Za (ld aG rfl) ?_|refine Za rfl ?_
 refine Xb (c117 _ _ _ hs.s1.aj) rfl g48.ok.plain rfl ?_;repeat first|refine Ya ?_|refine Xa ?_|refine Za (ld fJ rfl) ?_|refine Za (ld aG rfl) ?_|refine Za rfl ?_
 rcases aT (!Zn b.af.length s.s1.aj 1000000) with a8|a8
 ·rw[a8];repeat first|refine Qa rfl ?_|refine Yb rfl ?_|refine Zc rfl ?_|refine Qc rfl ?_|refine Za rfl ?_
  refine Xc (bad ?_);simp at a8;simp[Xl,a8]
 rw[a8];repeat first|refine Ya ?_|refine Xa ?_|refine Za (ld fJ rfl) ?_|refine Za (ld aG rfl) ?_|refine Za rfl ?_
 refine Xb (c117 _ _ _ hs.s1.told) rfl g48.ok.plain rfl ?_;repeat first|refine Ya ?_|refine Xa ?_|refine Za (ld fJ rfl) ?_|refine Za (ld aG rfl) ?_|refine Za rfl ?_
 rcases aT (!Zn b.af.length s.s1.told 1000000) with a9|a9
 ·rw[a9];repeat first|refine Qa rfl ?_|refine Yb rfl ?_|refine Zc rfl ?_|refine Qc rfl ?_|refine Za rfl ?_
  refine Xc (bad ?_);simp at a9;simp[Xl,a9]
 rw[a9];repeat first|refine Ya ?_|refine Xa ?_|refine Za (ld fJ rfl) ?_|refine Za (ld aG rfl) ?_|refine Za rfl ?_
 refine Zb (λa10=>bad ?_) (λa10=>?_)
 ·have a10:7<s.s1.ae.length:=by simp at a10; omega
  simp[Xl,show ¬s.s1.ae.length≤7 by omega]
 have OG:Xl b.af.length s.s1=true:=by
  simp at a1 a2 a3 a4 a5 a6 a7 a8 a9 a10;simp[Xl,a1,a2,a3,a4,a5,a6,a7,a8,a9]; omega
 have Nv:s.s1.ae.length≤7:=by simp at a10; omega
 clear a1 a2 a3 a4 a5 a6 a7 a8 a9 a10 bad;have qH:Ys b s.next (s.s0.ae.map Th.id) s.s1.ae=false→aa.bool false=aa.bool (Xw b s):=by intro h; simp[Xw,h]
 refine Xj (ι:=Nat) (λi vs σ=>∃v,vs=[iv i,v]∧i≤s.s1.ae.length∧fq 1 (((s.s0.ae.map Th.id)++(s.s1.ae.take i).map Th.id).map aY) (s.s0.ae.length+i) v σ∧ah σ 0=.box [fm b.af,kT b.av]∧ah σ 1=.box (aD s)∧ah σ N=.box (rm s.s1)∧Ys b s.next (s.s0.ae.map Th.id) s.s1.ae=Ys b s.next ((s.s0.ae.map Th.id)++(s.s1.ae.take i).map Th.id) (s.s1.ae.drop i)) (λi=>s.s1.ae.length-i) 0 ⟨_,rfl,by omega,(by simp only[Ah.h1,oZ,iL,List.take_zero,List.map_nil,List.append_nil,Nat.add_zero]; exact hg),aG,bw,fJ,by simp⟩ ?_;clear aG bw fJ hg;rintro i vs σ3 again ⟨v,rfl,hi,hg,aG,bw,fJ,hu⟩ aZ;repeat first|refine Ya ?_|refine Xa ?_|refine Za (ld fJ rfl) ?_|refine Za rfl ?_
 refine Zb (λh=>?_) (λh=>?_)
 ·have h:i<s.s1.ae.length:=by simpa using h
  have cX:s.s1.ae.drop i=s.s1.ae[i]::s.s1.ae.drop (i+1):=by rw[fA h]
  rw[cX] at hu;repeat first|refine Ya ?_|refine Xa ?_|refine Za (ld fJ rfl) ?_|refine Za rfl ?_
  refine Za (Zp _ aP _ _ _ _ _ i h) ?_;refine Za rfl ?_;refine Xq rfl rfl rfl ?_;generalize hU:s.s1.ae[i]=u at hu cX;have kU:ah (σ3++[.box (aP u)]) σ3.length=.box (aP u):=Yf _ _
  replace aG:=Xd [.box (aP u)] aG (by simp)
  replace bw:=Xd [.box (aP u)] bw (by simp)
  replace fJ:=Xd [.box (aP u)] fJ (by simp)
  replace hg:=hg.more [.box (aP u)]
  generalize hN:σ3.length=N3 at kU ⊢;clear hN
  try simp only[aa.cell]
  generalize uM:(σ3++[ab.box (aP u)]:List ab)=σ4 at aG bw fJ kU hg;have uN:(σ3++[ab.box [iv u.id,iv u.card,iv u.harm,.bool u.oq]]:List ab)=σ4:=uM
  first|rw[uN]|rw[uM]|skip
  have jZ:Zq b s.next u=false→aa.bool false=aa.bool (Xw b s):=by intro h; apply qH; rw[hu]; simp[Ys,h]
  repeat first|refine Ya ?_|refine Xa ?_|refine Za (ld kU rfl) ?_|refine Za (ld aG rfl) ?_|refine Za (ld bw rfl) ?_|refine Za rfl ?_
  rcases aT (decide (u.card<0)) with q1|q1
  ·rw[q1];repeat first|refine Qa rfl ?_|refine Yb rfl ?_|refine Zc rfl ?_|refine Qc rfl ?_|refine Za rfl ?_
   refine Xc (jZ ?_);simp at q1;simp[Zq,show ¬0≤u.card by omega]
  rw[q1];repeat first|refine Ya ?_|refine Xa ?_|refine Za (ld kU rfl) ?_|refine Za (ld aG rfl) ?_|refine Za (ld bw rfl) ?_|refine Za rfl ?_
  rcases aT (decide (u.card ≥ (b.af.map b_).length)) with q2|q2
  ·rw[q2];repeat first|refine Qa rfl ?_|refine Yb rfl ?_|refine Zc rfl ?_|refine Qc rfl ?_|refine Za rfl ?_
   refine Xc (jZ ?_);simp at q2;simp[Zq,show ¬u.card<b.af.length by omega]
  rw[q2];simp at q1 q2;have hc:u.card.toNat<b.af.length:=by omega
  have uk:b.af[u.card.toNat]?=some b.af[u.card.toNat]:=by simp[hc]
  repeat first|refine Ya ?_|refine Xa ?_|refine Za (ld kU rfl) ?_|refine Za (ld aG rfl) ?_|refine Za (ld bw rfl) ?_|refine Za rfl ?_
  refine Za (sU _ b_ _ _ _ _ _ _ (by omega) hc) ?_;repeat first|refine Ya ?_|refine Xa ?_|refine Za (ld kU rfl) ?_|refine Za (ld aG rfl) ?_|refine Za (ld bw rfl) ?_|refine Za rfl ?_
  rcases aT (!(b.af[u.card.toNat]).unit) with q3|q3
  ·rw[q3];repeat first|refine Qa rfl ?_|refine Yb rfl ?_|refine Zc rfl ?_|refine Qc rfl ?_|refine Za rfl ?_
   refine Xc (jZ ?_);simp at q3;simp[Zq,uk,q3]
  rw[q3];repeat first|refine Ya ?_|refine Xa ?_|refine Za (ld kU rfl) ?_|refine Za (ld aG rfl) ?_|refine Za (ld bw rfl) ?_|refine Za rfl ?_
  rcases aT (decide (u.harm<0)) with q4|q4
  ·rw[q4];repeat first|refine Qa rfl ?_|refine Yb rfl ?_|refine Zc rfl ?_|refine Qc rfl ?_|refine Za rfl ?_
   refine Xc (jZ ?_);simp at q4;simp[Zq,show ¬0≤u.harm by omega]
  rw[q4];repeat first|refine Ya ?_|refine Xa ?_|refine Za (ld kU rfl) ?_|refine Za (ld aG rfl) ?_|refine Za (ld bw rfl) ?_|refine Za rfl ?_
  rcases aT (decide (u.harm>1000000)) with q5|q5
  ·rw[q5];repeat first|refine Qa rfl ?_|refine Yb rfl ?_|refine Zc rfl ?_|refine Qc rfl ?_|refine Za rfl ?_
   refine Xc (jZ ?_);simp at q5;simp[Zq,show ¬u.harm≤1000000 by omega]
  rw[q5];repeat first|refine Ya ?_|refine Xa ?_|refine Za (ld kU rfl) ?_|refine Za (ld aG rfl) ?_|refine Za (ld bw rfl) ?_|refine Za rfl ?_
  rcases aT (decide (u.id<1)) with q6|q6
  ·rw[q6];repeat first|refine Qa rfl ?_|refine Yb rfl ?_|refine Zc rfl ?_|refine Qc rfl ?_|refine Za rfl ?_
   refine Xc (jZ ?_);simp at q6;simp[Zq,show ¬1≤u.id by omega]
  rw[q6];repeat first|refine Ya ?_|refine Xa ?_|refine Za (ld kU rfl) ?_|refine Za (ld aG rfl) ?_|refine Za (ld bw rfl) ?_|refine Za rfl ?_
  refine Zb (λq7=>jZ ?_) (λq7=>?_)
  ·have q7:s.next≤u.id:=by simpa using q7
   simp[Zq,show ¬u.id<s.next by omega]
  have bV:Zq b s.next u=true:=by
   simp at q3 q4 q5 q6 q7;simp[Zq,uk,q3]; omega
  rw[Ys,bV,Bool.true_and] at hu;generalize l8:(s.s0.ae.map Th.id)++(s.s1.ae.take i).map Th.id=ids at hg hu;have mW:ids.length=s.s0.ae.length+i:=by rw[←l8]; simp[List.length_take,Nat.min_eq_left hi]
  refine Xj (ι:=Nat) (λj vs σ=>vs=[iv j]∧σ=σ4∧j≤ids.length∧∀m (hm:m<ids.length),m<j→ids[m]≠u.id) (λj=>ids.length-j) 0 ⟨rfl,rfl,by omega,λm _ h=>by omega⟩ ?_;rintro j vs σ kZ ⟨rfl,rfl,hj,ll⟩ jJ;refine Za (hg.len _) (Za rfl ?_);refine Zb (λh2=>?_) (λh2=>?_)
  ·have h2:j<ids.length:=by rw[mW]; simp at h2; omega
   obtain⟨bb,e1,nJ,e2⟩:=hg.at .i64 j (by omega);refine Za e1 ?_;refine Za (e2 false 1 (iv ids[j]) (by simp[aY])) ?_;repeat first|refine Ya ?_|refine Xa ?_|refine Za (ld kU rfl) ?_|refine Za (ld aG rfl) ?_|refine Za (ld bw rfl) ?_|refine Za rfl ?_
   refine Zb (λh3=>?_) (λh3=>?_)
   ·have h3:ids[j]=u.id:=by simpa using h3
    apply qH; rw[hu];have:u.id∈ids:=by rw[←h3]; exact List.getElem_mem h2
    simp[this]
   ·have h3:ids[j]≠u.id:=by simpa using h3
    refine Za rfl ?_;rw[Qd (n:=j) (by omega)];refine jJ (j+1) _ _ (by omega) ⟨rfl,rfl,by omega,λm hm s9=>?_⟩;by_cases e:m=j
    ·subst e; exact h3
    ·exact ll m hm (by omega)
  ·have h2:¬j<ids.length:=by rw[mW]; simp at h2; omega
   have me:ids.contains u.id=false:=by
    rw[List.contains_eq_mem,decide_eq_false_iff_not];intro hm;obtain⟨m,hm,e⟩:=List.getElem_of_mem hm;exact ll m hm (by omega) e
   rw[me,Bool.not_false,Bool.true_and] at hu;repeat first|refine Ya ?_|refine Xa ?_|refine Za (ld kU rfl) ?_|refine Za (ld aG rfl) ?_|refine Za (ld bw rfl) ?_|refine Za rfl ?_
   rw[ZN _ _ _ _ _ [iv u.id] rfl rfl];refine hg.i9 _ (hold:=λp=>p) rfl (by omega) _ (λv' σ' hx sZ=>?_);refine Za rfl ?_;rw[Qd (n:=i) (by omega)];have Hl:(s.s0.ae.map Th.id)++(s.s1.ae.take (i+1)).map Th.id=ids++[u.id]:=by
    rw[←l8,Yv _ _ h,hU]; simp
   refine aZ (i+1) _ _ (by omega) ⟨v',rfl,by omega,?_,hx _ _ aG,hx _ _ bw,hx _ _ fJ,?_⟩
   ·rw[Hl]; simpa[aY,Nat.add_assoc] using sZ
   ·rw[Hl]; exact hu
 have h:i=s.s1.ae.length:=by simp at h; omega
 subst h;rw[List.take_length] at hg hu;have PA:Ys b s.next (s.s0.ae.map Th.id) s.s1.ae=true:=by rw[hu]; simp[Ys]
 clear aZ qH hu;refine Za rfl ?_;rw[w2];refine Xk ?_;refine Za rfl (Yd ?_);simp[Xw,OE,OG,Pz,PA]
end Go.Ah.Tz
end
section
namespace Go.Ah.Tz
open Go.Proofs.Tryz (prog)
def et(s:St):List Int→List Int→Bool
 |_,[]=>true
 |prev,a::l=>((bj s a).2.2&&decide ((bj s a).1=s.mover))&&(!(prev.contains a)&&et s (prev++[a]) l)
def aQ(e:Int)(b:Bk)(s:St)(bare:Bool):Bool:=
 decide (e=0) && (decide (1≤s.turn) && (decide (s.turn≤4096) && (decide (0≤s.mover) && (decide (s.mover≤1) && (decide (0≤s.phase) && (decide (s.phase≤2) && (decide (0≤s.result) && (decide (s.result≤3) &&
 (((s.result == 0) == (s.phase != 2)) && (decide (1≤s.next) && (decide (s.next≤1000000) && (Xw b s &&
 (if s.phase≠1 then decide (s.al.length=0) else !(decide (s.al.length=0) && !bare) && (s.bF && (decide (s.al.length≤7) && et s [] s.al)))))))))))))))
attribute [local irreducible] ak.rd ak.pu ak.wr ak.dr ak.gr ak.gw ak.gl ak.gd ak.opt aH W
set_option maxHeartbeats 2000000
theorem c25(b:Bk)(s:St)(hs:bu 1000000000 s)(bare:Bool)(e p:Int)(h67:PC 24 [dg b] (.agg [iv e,iv p])):PC 8 [dg b,cf s,.bool bare] (.bool (aQ e b s bare)):=by
 refine Yc hP g8.ok rfl rfl ?_;rw[H3.e]; unfold g8; dsimp only;repeat first|refine Za rfl ?_|refine Qb rfl rfl ?_
 refine Xb h67 rfl g24.ok.plain rfl ?_;repeat first|refine Za rfl ?_|refine Qb rfl rfl ?_
 rcases aT (e != 0) with q1|q1
 ·rw[q1];repeat first|refine Qa rfl ?_|refine Yb rfl ?_|refine Zc rfl ?_|refine Qc rfl ?_|refine Za rfl ?_
  refine Xc ?_;simp at q1;simp[aQ,q1]
 rw[q1];repeat first|refine Ya ?_|refine Xa ?_|refine Za rfl ?_
 rcases aT (decide (s.turn<1)) with q2|q2
 ·rw[q2];repeat first|refine Qa rfl ?_|refine Yb rfl ?_|refine Zc rfl ?_|refine Qc rfl ?_|refine Za rfl ?_
  refine Xc ?_
  grind [aQ]
 rw[q2];repeat first|refine Ya ?_|refine Xa ?_|refine Za rfl ?_
 rcases aT (decide (s.turn>4096)) with q3|q3
 ·rw[q3];repeat first|refine Qa rfl ?_|refine Yb rfl ?_|refine Zc rfl ?_|refine Qc rfl ?_|refine Za rfl ?_
  refine Xc ?_
  grind [aQ]
 rw[q3];repeat first|refine Ya ?_|refine Xa ?_|refine Za rfl ?_
 rcases aT (decide (s.mover<0)) with q4|q4
 ·rw[q4];repeat first|refine Qa rfl ?_|refine Yb rfl ?_|refine Zc rfl ?_|refine Qc rfl ?_|refine Za rfl ?_
  refine Xc ?_
  grind [aQ]
 rw[q4];repeat first|refine Ya ?_|refine Xa ?_|refine Za rfl ?_
 rcases aT (decide (s.mover>1)) with q5|q5
 ·rw[q5];repeat first|refine Qa rfl ?_|refine Yb rfl ?_|refine Zc rfl ?_|refine Qc rfl ?_|refine Za rfl ?_
  refine Xc ?_
  grind [aQ]
 rw[q5];repeat first|refine Ya ?_|refine Xa ?_|refine Za rfl ?_
 rcases aT (decide (s.phase<0)) with q6|q6
 ·rw[q6];repeat first|refine Qa rfl ?_|refine Yb rfl ?_|refine Zc rfl ?_|refine Qc rfl ?_|refine Za rfl ?_
  refine Xc ?_
  grind [aQ]
 rw[q6];repeat first|refine Ya ?_|refine Xa ?_|refine Za rfl ?_
 rcases aT (decide (s.phase>2)) with q7|q7
 ·rw[q7];repeat first|refine Qa rfl ?_|refine Yb rfl ?_|refine Zc rfl ?_|refine Qc rfl ?_|refine Za rfl ?_
  refine Xc ?_
  grind [aQ]
 rw[q7];repeat first|refine Ya ?_|refine Xa ?_|refine Za rfl ?_
 rcases aT (decide (s.result<0)) with q8|q8
 ·rw[q8];repeat first|refine Qa rfl ?_|refine Yb rfl ?_|refine Zc rfl ?_|refine Qc rfl ?_|refine Za rfl ?_
  refine Xc ?_
  grind [aQ]
 rw[q8];repeat first|refine Ya ?_|refine Xa ?_|refine Za rfl ?_
 refine Zb (λq9=>?_) (λq9=>?_)
 ·grind [aQ]
 repeat first|refine Ya ?_|refine Xa ?_|refine Za rfl ?_
 rcases aT (!(s.result==0)==(s.phase != 2)) with q10|q10
 ·rw[q10];repeat first|refine Qa rfl ?_|refine Yb rfl ?_|refine Zc rfl ?_|refine Qc rfl ?_|refine Za rfl ?_
  refine Xc ?_;simp_all [aQ]
 rw[q10];repeat first|refine Ya ?_|refine Xa ?_|refine Za rfl ?_
 rcases aT (decide (s.next<1)) with q11|q11
 ·rw[q11];repeat first|refine Qa rfl ?_|refine Yb rfl ?_|refine Zc rfl ?_|refine Qc rfl ?_|refine Za rfl ?_
  refine Xc ?_
  grind [aQ]
 rw[q11];repeat first|refine Ya ?_|refine Xa ?_|refine Za rfl ?_
 rcases aT (decide (s.next>1000000)) with q12|q12
 ·rw[q12];repeat first|refine Qa rfl ?_|refine Yb rfl ?_|refine Zc rfl ?_|refine Qc rfl ?_|refine Za rfl ?_
  refine Xc ?_
  grind [aQ]
 rw[q12];repeat first|refine Ya ?_|refine Xa ?_|refine Za rfl ?_
 refine Xb (c68 b s hs) rfl g25.ok.plain rfl ?_;repeat first|refine Ya ?_|refine Za rfl ?_
 refine Zb (λq13=>?_) (λq13=>?_)
 ·grind [aQ]
 have Q1:e=0:=by simpa using q1
 have Q10:((s.result==0)==(s.phase != 2))=true:=by
  simp_all
 have Q13:Xw b s=true:=by simpa using q13
 simp at q2 q3 q4 q5 q6 q7 q8 q9 q11 q12;have hm:aQ e b s bare=(if s.phase≠1 then decide (s.al.length=0) else !(decide (s.al.length=0) && !bare)&&(s.bF&&(decide (s.al.length≤7)&&et s [] s.al))):=by
  simp_all [aQ]
 rw[hm];clear hm Q1 Q10 Q13 q1 q2 q3 q4 q5 q6 q7 q8 q9 q10 q11 q12 q13;repeat first|refine Za rfl ?_
 refine Zb (λh=>?_) (λh=>?_)
 ·have h:s.phase≠1:=by simpa using h
  repeat first|refine Za rfl ?_
  rw[if_pos h]
  congr 1
  rw[Bool.eq_iff_iff];simp
 have h:s.phase=1:=by simpa using h
 rw[if_neg (by simp[h])];repeat first|refine Za rfl ?_
 rcases aT ((((s.al.map aY).length:Nat):Int)==0) with h1|h1
 ·rw[h1];have h1:s.al=[]:=by simpa using h1
  repeat first|refine Ya ?_|refine Za rfl ?_
  cases bare with
  |false=>
   repeat first|refine Qa rfl ?_|refine Zc rfl ?_|refine Za rfl ?_
   refine Xc ?_;simp[h1]
  |true=>
   repeat first|refine Ya ?_|refine Za rfl ?_
   rcases aT (!s.bF) with h2|h2
   ·rw[h2];repeat first|refine Qa rfl ?_|refine Zc rfl ?_|refine Za rfl ?_
    refine Xc ?_;simp_all
   rw[h2];have h2:s.bF=true:=by simpa using h2
   repeat first|refine Ya ?_|refine Za rfl ?_
   rw[h1];refine Yd ?_;refine YK 1 (Xk ?_);repeat first|refine Za (ld (σ:=[]++[ab.box [fm b.af,kT b.av]]++[ab.box (aD s)]) (b:=1) rfl rfl) ?_|refine Za rfl ?_
   rw[h1];refine Yd ?_;simp[h2,et]
 rw[h1];have h1:s.al.length≠0:=by simpa using h1
 repeat first|refine Qa rfl ?_|refine Zc rfl ?_|refine Za rfl ?_
 repeat first|refine Ya ?_|refine Za rfl ?_
 have yr:(decide (s.al.length=0) && !bare)=false:=by simp[h1]
 rw[yr,Bool.not_false,Bool.true_and];rcases aT (!s.bF) with h2|h2
 ·rw[h2];repeat first|refine Qa rfl ?_|refine Zc rfl ?_|refine Za rfl ?_
  refine Xc ?_;simp_all
 rw[h2];have h2:s.bF=true:=by simpa using h2
 rw[h2,Bool.true_and];repeat first|refine Ya ?_|refine Za rfl ?_
 refine Zb (λh3=>?_) (λh3=>?_)
 ·grind
 have h3:s.al.length≤7:=by simp at h3; omega
 rw[decide_eq_true h3,Bool.true_and];have bad:et s [] s.al=false→aa.bool false=aa.bool (et s [] s.al):=λh=>by rw[h]
 generalize hB:([]++[ab.box [fm b.af,kT b.av]]++[ab.box (aD s)]:List ab)=base;have bw:ah base 1=.box (aD s):=by rw[←hB]; rfl
 generalize hN:([]++[ab.box [fm b.af,kT b.av]]:List ab).length=N;have hN1:N=1:=by rw[←hN]; rfl
 subst hN1;clear hB hN;refine Xj (ι:=Nat) (λi vs σ=>vs=[iv i]∧σ=base∧i≤s.al.length∧et s [] s.al=et s (s.al.take i) (s.al.drop i)) (λi=>s.al.length-i) 0 ⟨rfl,rfl,by omega,by simp⟩ ?_;rintro i vs σ again ⟨rfl,rfl,hi,hu⟩ aZ;repeat first|refine Za (ld bw rfl) ?_|refine Za rfl ?_
 refine Zb (λh=>?_) (λh=>?_)
 ·have h:i<s.al.length:=by simpa using h
  have cX:s.al.drop i=s.al[i]::s.al.drop (i+1):=by rw[fA h]
  rw[cX] at hu;refine Yg (ld bw rfl) (Xi _) (Qe rfl (Yg (ld bw rfl) (Xi _) (Yg (Zp _ aY _ _ _ _ _ i h) (Xi _) (Yg rfl (Xi _) ?_))));refine Yh (c23 s hs s.al[i]) rfl g26.ok.plain rfl ?_;refine Qe rfl (Qe rfl (Qe rfl (Xr (by kernel_rfl) ?_)));refine Za rfl ?_;generalize ha:s.al[i]=a at hu;rcases aT (!(bj s a).2.2) with h4|h4
  ·rw[h4];repeat first|refine Qa rfl ?_|refine Zc rfl ?_|refine Za rfl ?_
   refine Xc (bad ?_);simp_all [et]
  rw[h4];repeat first|refine Ya ?_|refine Za (ld bw rfl) ?_|refine Za rfl ?_
  refine Zb (λh5=>bad ?_) (λh5=>?_)
  ·simp_all [et]
  have jm:((bj s a).2.2&&decide ((bj s a).1=s.mover))=true:=by
   simp_all
  rw[et,jm,Bool.true_and] at hu;refine Xj (ι:=Nat) (λj vs σ2=>vs=[iv j]∧σ2=σ∧j≤i∧∀m (hm:m<s.al.length),m<j→s.al[m]≠a) (λj=>i-j) 0 ⟨rfl,rfl,by omega,λm _ h=>by omega⟩ ?_;rintro j vs σ kZ ⟨rfl,rfl,hj,ll⟩ jJ;refine Za rfl ?_;refine Zb (λh6=>?_) (λh6=>?_)
  ·have h6:j<i:=by simpa using h6
   repeat first|refine Za (ld bw rfl) ?_|refine Za (Zp _ aY _ _ _ s.al _ j (by omega)) ?_|refine Za (Zp _ aY _ _ _ s.al _ i h) ?_|refine Za rfl ?_
   refine Zb (λh7=>bad ?_) (λh7=>?_)
   ·have h7:s.al[j]=a:=by rw[←ha]; simpa using h7
    have:a∈s.al.take i:=by
     rw[List.mem_take_iff_getElem];exact⟨j,by omega,h7⟩
    rw[hu]; simp[this]
   ·have h7:s.al[j]≠a:=by rw[←ha]; simpa using h7
    refine Za rfl ?_;rw[Qd (n:=j) (by omega)];refine jJ (j+1) _ _ (by omega) ⟨rfl,rfl,by omega,λm hm s9=>?_⟩
    grind
  ·have h6:¬j<i:=by simpa using h6
   have me:(s.al.take i).contains a=false:=by
    grind [List.mem_take_iff_getElem]
   rw[me,Bool.not_false,Bool.true_and] at hu;refine Za rfl ?_;rw[Qd (n:=i) (by omega)];refine aZ (i+1) _ _ (by omega) ⟨rfl,rfl,by omega,?_⟩;rw[Yv _ _ h,ha]; exact hu
 grind [et]
end Go.Ah.Tz
end
section
namespace Go.Ah.Tz
open Go.Proofs.Tryz (prog)
abbrev gp:Nat:=1152921504606846975
def yO(n:Int):Bool:=decide (-128≤n)&&decide (n≤127)
def Am(n:Int):Bool:=decide (-9223372036854775808≤n)&&decide (n≤9223372036854775807)
theorem XdW{n:Int}(h:yO n=true):-128≤n∧n≤127:=by simpa[yO] using h
mutual
def cQ:Nm→Bool
 |.mk op n _ kids=>decide (kids.length≤gp)&&(wi kids&&(yO op&&Am n))
def wi:List Nm→Bool
 |[]=>true
 |x::l=>cQ x&&wi l
end
theorem Mq:∀ {l:List Nm},wi l=true→∀x∈l,cQ x=true
 |[],_,_,h=>by simp at h
 |y::l,h,x,hx=>by
  simp only[wi,Bool.and_eq_true] at h;rcases List.mem_cons.1 hx with rfl|hx
  ·exact h.1
  ·exact Mq h.2 x hx
theorem EW{x:Nm}(h:cQ x=true):x.kids.length≤gp:=by cases x; simp[cQ] at h; exact h.1
theorem XW{x k:Nm}(h:cQ x=true)(hk:k∈x.kids):cQ k=true:=by cases x; simp[cQ] at h; exact Mq h.2.1 k hk
theorem xN{x k:Nm}(hk:k∈x.kids):SizeOf.sizeOf k<SizeOf.sizeOf x:=by
 cases x with
 |mk a b c kids=>
  have:=List.sizeOf_lt_of_mem (show k∈kids from hk);simp; omega
mutual
def cz:Cn→Bool
 |.mk op _ _ ay kids=>(decide (ay.length≤gp)&&wi ay)&&(decide (kids.length≤gp)&&(y9 kids&&yO op))
def y9:List Cn→Bool
 |[]=>true
 |x::l=>cz x&&y9 l
end
theorem UX:∀ {l:List Cn},y9 l=true→∀x∈l,cz x=true
 |[],_,_,h=>by simp at h
 |y::l,h,x,hx=>by
  simp only[y9,Bool.and_eq_true] at h;rcases List.mem_cons.1 hx with rfl|hx
  ·exact h.1
  ·exact UX h.2 x hx
theorem Q0{x:Cn}(h:cz x=true):x.ay.length≤gp:=by cases x; simp[cz] at h; exact h.1.1
theorem X0{x:Cn}(h:cz x=true):x.kids.length≤gp:=by cases x; simp[cz] at h; exact h.2.1
theorem X3{x:Cn}{k:Nm}(h:cz x=true)(hk:k∈x.ay):cQ k=true:=by cases x; simp[cz] at h; exact Mq h.1.2 k hk
theorem Y3{x k:Cn}(h:cz x=true)(hk:k∈x.kids):cz k=true:=by cases x; simp[cz] at h; exact UX h.2.2.1 k hk
theorem zl{x k:Cn}(hk:k∈x.kids):SizeOf.sizeOf k<SizeOf.sizeOf x:=by
 cases x with
 |mk a b c ay kids=>
  have:=List.sizeOf_lt_of_mem (show k∈kids from hk);simp; omega
mutual
def dk:Ef→Bool
 |.mk op _ n _ c bM bQ=>cQ n&&(cz c&&((decide (bM.length≤gp)&&vn bM)&&((decide (bQ.length≤gp)&&vn bQ)&&yO op)))
def vn:List Ef→Bool
 |[]=>true
 |x::l=>dk x&&vn l
end
theorem T1:∀ {l:List Ef},vn l=true→∀x∈l,dk x=true
 |[],_,_,h=>by simp at h
 |y::l,h,x,hx=>by
  simp only[vn,Bool.and_eq_true] at h;rcases List.mem_cons.1 hx with rfl|hx
  ·exact h.1
  ·exact T1 h.2 x hx
def bG(l:List Ef):Bool:=decide (l.length≤gp)&&vn l
theorem vR{x:Ef}(h:dk x=true):cQ x.n=true:=by cases x; simp[dk] at h; exact h.1
theorem Y9{x:Ef}(h:dk x=true):cz x.c=true:=by cases x; simp[dk] at h; exact h.2.1
theorem XR{x:Ef}(h:dk x=true):bG x.bM=true:=by cases x; simp[dk] at h; simp[bG,Ef.bM,h]
theorem YR{x:Ef}(h:dk x=true):bG x.bQ=true:=by cases x; simp[dk] at h; simp[bG,Ef.bQ,h]
theorem Ydk{x:Ef}(h:dk x=true):-128≤x.op∧x.op≤127:=by cases x; simp[dk] at h; exact XdW h.2.2.2.2
theorem YH{l:List Ef}(h:bG l=true):l.length≤gp:=by simp[bG] at h; exact h.1
theorem ZS{l:List Ef}{x:Ef}(h:bG l=true)(hx:x∈l):dk x=true:=by simp[bG] at h; exact T1 h.2 x hx
theorem bc{n:Int}(h1:-9223372036854775808≤n)(h2:n≤9223372036854775807):IntKind.i64.wrap n=n:=IntWalk.i64_in _ ⟨h1,h2⟩
theorem kP(x:Nm):fz [.agg (ba x)]=true:=by rw[XI]; rfl
theorem pX(x:Nm):aL true 0 4 (ba x)=some (.agg (ba x)):=by rw[XI]; rfl
theorem po(x:Cn):fz [.agg (cG x)]=true:=by rw[YQ]; rfl
theorem wy(x:Cn):aL true 0 5 (cG x)=some (.agg (cG x)):=by rw[YQ]; rfl
theorem an{σ:List ab}{j n:Nat}{agg:Bool}{row:List aa}{v:aa}(hv:aL agg j n row=some v):Xh agg n [.ao row j] σ=.ok v [] []:=by
 rw[Tk,hv]
mutual
def lP:Nm→Int
 |.mk _ _ _ kids=>ju 1 kids
def ju:Int→List Nm→Int
 |n,[]=>n
 |n,x::l=>ju (min (n+lP x) 1073741824) l
end
theorem Ss(x:Nm):lP x=ju 1 x.kids:=by cases x; rfl
theorem L3:∀(l:List Nm) (n:Int),0≤n→n≤1073741824→(∀x∈l,0≤lP x)→0≤ju n l∧ju n l≤1073741824
 |[],n,h1,h2,_=>⟨h1,h2⟩
 |x::l,n,h1,h2,h3=>by
  have:=h3 x (by simp);exact L3 l _ (by omega) (by omega) (λy hy=>h3 y (by simp[hy]))
theorem Vz:∀(k:Nat) (x:Nm),SizeOf.sizeOf x≤k→0≤lP x∧lP x≤1073741824
 |0,x,h=>by cases x; simp at h
 |k+1,x,h=>by
  rw[Ss];exact L3 _ _ (by omega) (by omega) (λy hy=>(Vz k y (by have:=xN hy; omega)).1)
theorem EA(x:Nm):0≤lP x∧lP x≤1073741824:=Vz _ x (Nat.le_refl _)
mutual
def oA:Cn→Int
 |.mk _ _ _ ay kids=>mD (ju 1 ay) kids
def mD:Int→List Cn→Int
 |n,[]=>n
 |n,x::l=>mD (min (n+oA x) 1073741824) l
end
theorem Ty(x:Cn):oA x=mD (ju 1 x.ay) x.kids:=by cases x; rfl
theorem S9:∀(l:List Cn) (n:Int),0≤n→n≤1073741824→(∀x∈l,0≤oA x)→0≤mD n l∧mD n l≤1073741824
 |[],n,h1,h2,_=>⟨h1,h2⟩
 |x::l,n,h1,h2,h3=>by
  have:=h3 x (by simp);exact S9 l _ (by omega) (by omega) (λy hy=>h3 y (by simp[hy]))
theorem Sp:∀(k:Nat) (x:Cn),SizeOf.sizeOf x≤k→0≤oA x∧oA x≤1073741824
 |0,x,h=>by cases x; simp at h
 |k+1,x,h=>by
  rw[Ty];have h1:=L3 x.ay 1 (by omega) (by omega) (λy _=>(EA y).1);exact S9 _ _ h1.1 h1.2 (λy hy=>(Sp k y (by have:=zl hy; omega)).1)
theorem MO(x:Cn):0≤oA x∧oA x≤1073741824:=Sp _ x (Nat.le_refl _)
def bd(op:Int):Bool:=decide (op=0)||(decide (op=1)||(decide (op=2)||(decide (op=3)||decide (op=5))))
def gB(w:Int):Bool:=decide (w=0)||decide (w=1)
attribute [local irreducible] ak.rd ak.pu ak.wr ak.dr ak.gr ak.gw ak.gl ak.gd ak.opt aH W
theorem FI:∀(k:Nat) (x:Nm),SizeOf.sizeOf x≤k→cQ x=true→PC 77 [.agg (ba x)] (iv (lP x))
 |0,x,h,_=>by cases x; simp at h
 |k+1,x,hk,hf=>by
  rw[XI];refine Yc hP g77.ok rfl rfl ?_;rw[H1.e]; unfold g77; dsimp only;refine Qb rfl rfl ?_;rw[Ss];have hlen:=EW hf;generalize hB:([]++[ab.box [ar x.op,iv x.n,ar x.who,.ax false false 4 (x.kids.map ba)]]:List ab)=base;have aG:ah base 0=.box [ar x.op,iv x.n,ar x.who,.ax false false 4 (x.kids.map ba)]:=by rw[←hB]; rfl
  clear hB;refine Xj (ι:=Nat) (λi vs σ=>∃n,vs=[iv i,iv n]∧σ=base∧i≤x.kids.length∧0≤n∧n≤1073741824∧ju 1 x.kids=ju n (x.kids.drop i)) (λi=>x.kids.length-i) 0 ⟨1,rfl,rfl,by omega,by omega,by omega,by simp⟩ ?_;rintro i vs σ again ⟨n,rfl,rfl,hi,n1,n2,hu⟩ aZ;repeat first|refine Za (ld aG rfl) ?_|refine Za rfl ?_
  refine Zb (λh=>?_) (λh=>?_)
  ·have h:i<x.kids.length:=by simpa using h
   have cX:x.kids.drop i=x.kids[i]::x.kids.drop (i+1):=by rw[fA h]
   rw[cX,ju] at hu;have hm:x.kids[i]∈x.kids:=List.getElem_mem h;refine Za rfl (Za (ld aG rfl) (Za (Zp _ ba _ _ _ x.kids _ i h) (Za (an (pX _)) ?_)));refine Xb (FI k _ (by have:=xN hm; omega) (XW hf hm)) rfl g77.ok.plain (kP _) ?_;have:=EA x.kids[i];refine Za (Yj ..) (Za (ZM ..) (Za (Yj ..) ?_));rw[Qd (n:=i) (by have:gp=1152921504606846975:=rfl; omega),bc (by omega) (by omega)];exact aZ (i+1) _ _ (by omega) ⟨_,rfl,rfl,by omega,by omega,by omega,hu⟩
  ·have h:i=x.kids.length:=by simp at h; omega
   subst h;rw[List.drop_length] at hu;rw[hu]; rfl
theorem c76(x:Nm)(hf:cQ x=true):PC 77 [.agg (ba x)] (iv (lP x)):=FI _ x (Nat.le_refl _) hf
end Go.Ah.Tz
end
section
namespace Go.Ah.Tz
open Go.Proofs.Tryz (prog)
attribute [local irreducible] ak.rd ak.pu ak.wr ak.dr ak.gr ak.gw ak.gl ak.gd ak.opt aH W
theorem ZY{f:(List aa→List ab→Prop)→Prop}{k:List aa→List ab→Prop}(h:f k):aH f k:=by unfold aH; exact h
theorem cO:gp=1152921504606846975:=rfl
theorem lk(x:Ef):aL true 0 14 (aM x)=some (.agg (aM x)):=by rw[XC]; rfl
theorem yn(x:Ef):aL true 2 4 (aM x)=some (.agg (ba x.n)):=by rw[XC,XI]; rfl
theorem rR(x:Ef):aL true 7 5 (aM x)=some (.agg (cG x.c)):=by rw[XC,YQ]; rfl
theorem bq(x:Ef):aL false 0 1 (aM x)=some (ar x.op):=by rw[XC]; rfl
theorem bR(x:Ef):aL false 1 1 (aM x)=some (ar x.who):=by rw[XC]; rfl
theorem bX(x:Ef):aL false 6 1 (aM x)=some (.str x.name):=by rw[XC]; rfl
theorem Qr(x:Ef):aL false 12 1 (aM x)=some (ic x.bM):=by rw[XC]; rfl
theorem Zs(x:Ef):aL false 13 1 (aM x)=some (ic x.bQ):=by rw[XC]; rfl
theorem xW:∀(k:Nat) (x:Cn),SizeOf.sizeOf x≤k→cz x=true→PC 78 [.agg (cG x)] (iv (oA x))
 |0,x,h,_=>by cases x; simp at h
 |k+1,x,hk,hf=>by
  rw[YQ];refine Yc hP g78.ok rfl rfl ?_;rw[H1.e]; unfold g78; dsimp only;refine Qb rfl rfl ?_;rw[Ty];have fj:=Q0 hf;have eX:=X0 hf;rw[cO] at fj eX;generalize hB:([]++[ab.box [ar x.op,ar x.who,.str x.name,.ax false false 4 (x.ay.map ba),.ax false false 5 (x.kids.map cG)]]:List ab)=base;have aG:ah base 0=.box [ar x.op,ar x.who,.str x.name,.ax false false 4 (x.ay.map ba),.ax false false 5 (x.kids.map cG)]:=by rw[←hB]; rfl
  clear hB;refine Xj (ι:=Nat) (λi vs σ=>∃n,vs=[iv i,iv n]∧σ=base∧i≤x.ay.length∧0≤n∧n≤1073741824∧ju 1 x.ay=ju n (x.ay.drop i)) (λi=>x.ay.length-i) 0 ⟨1,rfl,rfl,by omega,by omega,by omega,by simp⟩ ?_;rintro i vs σ again ⟨n,rfl,rfl,hi,n1,n2,hu⟩ aZ;repeat first|refine Za (ld aG rfl) ?_|refine Za rfl ?_
  refine Zb (λh=>?_) (λh=>?_)
  ·have h:i<x.ay.length:=by simpa using h
   have cX:x.ay.drop i=x.ay[i]::x.ay.drop (i+1):=by rw[fA h]
   rw[cX,ju] at hu;have hm:x.ay[i]∈x.ay:=List.getElem_mem h;refine Za rfl (Za (ld aG rfl) (Za (Zp _ ba _ _ _ x.ay _ i h) (Za (an (pX _)) ?_)));refine Xb (c76 _ (X3 hf hm)) rfl g77.ok.plain (kP _) ?_;have:=EA x.ay[i];refine Za (Yj ..) (Za (ZM ..) (Za (Yj ..) ?_));rw[Qd (n:=i) (by omega),bc (by omega) (by omega)];exact aZ (i+1) _ _ (by omega) ⟨_,rfl,rfl,by omega,by omega,by omega,hu⟩
  have h:i=x.ay.length:=by simp at h; omega
  subst h;rw[List.drop_length,ju] at hu;rw[hu];clear aZ hu hi;refine Xj (ι:=Nat) (λi vs s=>∃m,vs=[iv i,iv m]∧s=σ∧i≤x.kids.length∧0≤m∧m≤1073741824∧mD n x.kids=mD m (x.kids.drop i)) (λi=>x.kids.length-i) 0 ⟨n,rfl,rfl,by omega,by omega,by omega,by simp⟩ ?_;rintro i vs s again ⟨m,rfl,rfl,hi,n1,n2,hu⟩ aZ;repeat first|refine Za (ld aG rfl) ?_|refine Za rfl ?_
  refine Zb (λh=>?_) (λh=>?_)
  ·have h:i<x.kids.length:=by simpa using h
   have cX:x.kids.drop i=x.kids[i]::x.kids.drop (i+1):=by rw[fA h]
   rw[cX,mD] at hu;have hm:x.kids[i]∈x.kids:=List.getElem_mem h;refine Za rfl (Za (ld aG rfl) (Za (Zp _ cG _ _ _ x.kids _ i h) (Za (an (wy _)) ?_)));refine Xb (xW k _ (by have:=zl hm; omega) (Y3 hf hm)) rfl g78.ok.plain (po _) ?_;have:=MO x.kids[i];refine Za (Yj ..) (Za (ZM ..) (Za (Yj ..) ?_));rw[Qd (n:=i) (by omega),bc (by omega) (by omega)];exact aZ (i+1) _ _ (by omega) ⟨_,rfl,rfl,by omega,by omega,by omega,hu⟩
  ·have h:i=x.kids.length:=by simp at h; omega
   subst h;rw[List.drop_length] at hu;rw[hu]; rfl
theorem c178(x:Cn)(hf:cz x=true):PC 78 [.agg (cG x)] (iv (oA x)):=xW _ x (Nat.le_refl _) hf
theorem c121(w:Int):PC 148 [ar w] (.bool (gB w)):=by
 refine Yc hP g148.ok rfl rfl ?_;rw[H1.e]; unfold g148; dsimp only;refine Za rfl ?_;rcases aT (w==0) with h1|h1
 ·rw[h1];repeat first|refine Qa rfl ?_|refine Yb rfl ?_|refine Zc rfl ?_|refine Qc rfl ?_|refine Za rfl ?_
  simp at h1; simp[gB,h1]
 rw[h1];repeat first|refine Ya ?_|refine Xa ?_|refine Za rfl ?_
 have h1:w≠0:=by simpa using h1
 exact congrArg aa.bool (by rw[Bool.eq_iff_iff]; simp[gB,h1])
theorem c130(w:Int):PC 76 [ar w] (.bool (bd w)):=by
 refine Yc hP g76.ok rfl rfl ?_;rw[H1.e]; unfold g76; dsimp only;refine Za rfl ?_;rcases aT (w==0) with h0|h0
 ·rw[h0];repeat first|refine Qa rfl ?_|refine Yb rfl ?_|refine Zc rfl ?_|refine Qc rfl ?_|refine Za rfl ?_
  simp at h0; simp[bd,h0]
 rw[h0];repeat first|refine Ya ?_|refine Xa ?_|refine Za rfl ?_
 rcases aT (w==1) with h1|h1
 ·rw[h1];repeat first|refine Qa rfl ?_|refine Yb rfl ?_|refine Zc rfl ?_|refine Qc rfl ?_|refine Za rfl ?_
  simp at h1; simp[bd,h1]
 rw[h1];repeat first|refine Ya ?_|refine Xa ?_|refine Za rfl ?_
 rcases aT (w==2) with h2|h2
 ·rw[h2];repeat first|refine Qa rfl ?_|refine Yb rfl ?_|refine Zc rfl ?_|refine Qc rfl ?_|refine Za rfl ?_
  simp at h2; simp[bd,h2]
 rw[h2];repeat first|refine Ya ?_|refine Xa ?_|refine Za rfl ?_
 rcases aT (w==3) with h3|h3
 ·rw[h3];repeat first|refine Qa rfl ?_|refine Yb rfl ?_|refine Zc rfl ?_|refine Qc rfl ?_|refine Za rfl ?_
  simp at h3; simp[bd,h3]
 rw[h3];repeat first|refine Ya ?_|refine Xa ?_|refine Za rfl ?_
 simp at h0 h1 h2 h3;exact congrArg aa.bool (by rw[Bool.eq_iff_iff]; simp[bd,h0,h1,h2,h3])
mutual
def ee:Int→List Ef→Int
 |n,[]=>n
 |n,x::l=>ee (zC n x) l
def zC:Int→Ef→Int
 |n0,.mk op _ nn _ c bM bQ=>
  if op=8 then min ((if bd op then min (min (n0+1) 1073741824+lP nn) 1073741824 else min (n0+1) 1073741824)+oA c+ee 0 bM+ee 0 bQ) 1073741824 else (if bd op then min (min (n0+1) 1073741824+lP nn) 1073741824 else min (n0+1) 1073741824)
end
theorem EZ(n:Int)(x:Ef):zC n x=if x.op=8 then min ((if bd x.op then min (min (n+1) 1073741824+lP x.n) 1073741824 else min (n+1) 1073741824)+oA x.c+ee 0 x.bM+ee 0 x.bQ) 1073741824 else (if bd x.op then min (min (n+1) 1073741824+lP x.n) 1073741824 else min (n+1) 1073741824):=by
 cases x; rfl
theorem JV:∀(k:Nat) (l:List Ef) (n:Int),SizeOf.sizeOf l≤k→0≤n→n≤1073741824→0≤ee n l∧ee n l≤1073741824
 |0,l,n,h,_,_=>by cases l<;>simp at h
 |k+1,[],n,_,h1,h2=>⟨h1,h2⟩
 |k+1,x::l,n,h,h1,h2=>by
  simp only[List.cons.sizeOf_spec] at h;have hx:SizeOf.sizeOf x.bM<SizeOf.sizeOf x∧SizeOf.sizeOf x.bQ<SizeOf.sizeOf x:=by
   cases x; simp[Ef.bM,Ef.bQ]; omega
  have q1:=JV k x.bM 0 (by omega) (by omega) (by omega);have q2:=JV k x.bQ 0 (by omega) (by omega) (by omega);have q3:=EA x.n;have q4:=MO x.c;have q5:0≤zC n x∧zC n x≤1073741824:=by
   rw[EZ]; split<;>split<;>omega
  rw[ee];exact JV k l _ (by omega) q5.1 q5.2
theorem E7(l:List Ef):0≤ee 0 l∧ee 0 l≤1073741824:=JV _ l 0 (Nat.le_refl _) (by omega) (by omega)
theorem DJ(x:Ef):SizeOf.sizeOf x.bM<SizeOf.sizeOf x∧SizeOf.sizeOf x.bQ<SizeOf.sizeOf x:=by
 cases x; simp[Ef.bM,Ef.bQ]; omega
theorem pf:∀(k:Nat) (l:List Ef),SizeOf.sizeOf l≤k→bG l=true→PC 49 [ic l] (iv (ee 0 l))
  |0,l,h,_=>by cases l<;>simp at h
  |k+1,l,hk,hf=>by
    refine Yc hP g49.ok rfl rfl ?_;rw[H1.e]; unfold g49; dsimp only;have hlen:=YH hf;rw[cO] at hlen;refine Xj (ι:=Nat) (λi vs σ=>∃n,vs=[iv i,iv n]∧i≤l.length∧0≤n∧n≤1073741824∧ee 0 l=ee n (l.drop i)) (λi=>l.length-i) 0 ⟨0,rfl,by omega,by omega,by omega,by simp⟩ ?_;rintro i vs σ again ⟨n,rfl,hi,n1,n2,hu⟩ aZ;refine Za rfl (Za rfl ?_);refine Zb (λh=>?_) (λh=>?_)
    · have h:i<l.length:=by simpa using h
      have cX:l.drop i=l[i]::l.drop (i+1):=by rw[fA h]
      rw[cX,ee] at hu;have hm:l[i]∈l:=List.getElem_mem h;have dU:=List.sizeOf_lt_of_mem hm;have iT:=ZS hf hm;have ix:=λ(s:List ab)=>Zp s aM false false 14 l .i64 i h;generalize l[i]=x at hu dU iT ix;refine ZY (Za (Yj ..) (Za (ZM ..) (Za (ix _) (Za rfl (Za (an (bq x)) ?_)))));refine Xb (c130 _) rfl g76.ok.plain rfl ?_;have b1:=EA x.n;have b2:=MO x.c;have b3:=E7 x.bM;have b4:=E7 x.bQ;rw[bc (n:=n+1) (by omega) (by omega)];have fin:∀m:Int,0≤m→m≤1073741824→zC n x=m→again [iv ((i+1:Nat):Int),iv m] σ:=by
        intro m m1 m2 e;exact aZ (i+1) _ _ (by omega) ⟨m,rfl,by omega,m1,m2,by rw[hu,e]⟩
      refine ZY ?_;refine Zb (λhc=>?_) (λhc=>?_)
      all_goals
        first
        | (refine Za (ix _) (Za rfl (Za (an (yn x)) ?_))
           refine Xb (c76 _ (vR iT)) rfl g77.ok.plain (kP _) ?_;refine Za (Yj ..) (Za (ZM ..) ?_);rw[bc (n:=min (n + 1) 1073741824 + lP x.n) (by omega) (by omega)])
        |skip
      · have vE:(if bd x.op then min (min (n+1) 1073741824+lP x.n) 1073741824 else min (n+1) 1073741824)=min (min (n+1) 1073741824+lP x.n) 1073741824:=by rw[if_pos hc]
        obtain⟨m,hm⟩:∃m,m=min (min (n+1) 1073741824+lP x.n) 1073741824:=⟨_,rfl⟩;rw[←hm]
        replace vE:=vE.trans hm.symm
        have m1:0≤m∧m≤1073741824:=by omega
        refine Za (ix _) (Za rfl (Za (an (bq x)) (Za rfl ?_)));refine Zb (λh8=>?_) (λh8=>?_)
        · have h8:x.op=8:=by simpa using h8
          refine Yg (ix _) (Xi _) (Qe rfl (Yg (an (rR x)) (Xi _) ?_));refine Yh (c178 _ (Y9 iT)) rfl g78.ok.plain (po _) ?_;refine Qe (Yj ..) (Yg (ix _) (Xi _) (Qe rfl (Yg (an (Qr x)) (Xi _) ?_)));have pJ:=DJ x;refine Yh (pf k _ (by omega) (XR iT)) rfl g49.ok.plain rfl ?_;refine Qe (Yj ..) (Yg (ix _) (Xi _) (Qe rfl (Yg (an (Zs x)) (Xi _) ?_)));refine Yh (pf k _ (by omega) (YR iT)) rfl g49.ok.plain rfl ?_;refine Qe (Yj ..) (Qe (ZM ..) (Xr (by kernel_rfl) (Za (Yj ..) ?_)));rw[Qd (n:=i) (by omega),bc (n:=m+oA x.c) (by omega) (by omega),bc (n:=m+oA x.c+ee 0 x.bM) (by omega) (by omega),bc (n:=m+oA x.c+ee 0 x.bM+ee 0 x.bQ) (by omega) (by omega)];exact fin _ (by omega) (by omega) (by rw[EZ,if_pos h8,vE])
        · have h8:x.op≠8:=by simpa using h8
          refine Za (Yj ..) ?_;rw[Qd (n:=i) (by omega)];simp_all [EZ]
      · have vE:(if bd x.op then min (min (n+1) 1073741824+lP x.n) 1073741824 else min (n+1) 1073741824)=min (n+1) 1073741824:=by rw[if_neg (by simpa using hc)]
        obtain⟨m,hm⟩:∃m,m=min (n+1) 1073741824:=⟨_,rfl⟩;rw[←hm]
        replace vE:=vE.trans hm.symm
        have m1:0≤m∧m≤1073741824:=by omega
        refine Za (ix _) (Za rfl (Za (an (bq x)) (Za rfl ?_)));refine Zb (λh8=>?_) (λh8=>?_)
        · have h8:x.op=8:=by simpa using h8
          refine Yg (ix _) (Xi _) (Qe rfl (Yg (an (rR x)) (Xi _) ?_));refine Yh (c178 _ (Y9 iT)) rfl g78.ok.plain (po _) ?_;refine Qe (Yj ..) (Yg (ix _) (Xi _) (Qe rfl (Yg (an (Qr x)) (Xi _) ?_)));have pJ:=DJ x;refine Yh (pf k _ (by omega) (XR iT)) rfl g49.ok.plain rfl ?_;refine Qe (Yj ..) (Yg (ix _) (Xi _) (Qe rfl (Yg (an (Zs x)) (Xi _) ?_)));refine Yh (pf k _ (by omega) (YR iT)) rfl g49.ok.plain rfl ?_;refine Qe (Yj ..) (Qe (ZM ..) (Xr (by kernel_rfl) (Za (Yj ..) ?_)));rw[Qd (n:=i) (by omega),bc (n:=m+oA x.c) (by omega) (by omega),bc (n:=m+oA x.c+ee 0 x.bM) (by omega) (by omega),bc (n:=m+oA x.c+ee 0 x.bM+ee 0 x.bQ) (by omega) (by omega)];exact fin _ (by omega) (by omega) (by rw[EZ,if_pos h8,vE])
        · have h8:x.op≠8:=by simpa using h8
          refine Za (Yj ..) ?_;rw[Qd (n:=i) (by omega)];simp_all [EZ]
    · have h:i=l.length:=by simp at h; omega
      subst h;rw[List.drop_length] at hu;rw[hu]; rfl
theorem c142(l:List Ef)(hf:bG l=true):PC 49 [ic l] (iv (ee 0 l)):=pf _ l (Nat.le_refl _) hf
end Go.Ah.Tz
end
section
namespace Go.Ah.Tz
open Go.Proofs.Tryz (prog)
def dQ(x:Nm):Bool:=decide (x.op=0)&&(decide (x.n=0)&&(decide (x.who=0)&&decide (x.kids.length=0)))
def eU(x:Cn):Bool:=decide (x.op=0)&&(decide (x.who=0)&&(x.name==[]&&(decide (x.ay.length=0)&&decide (x.kids.length=0))))
def gf:List Cd→Tx→Bool→Bool
 |[],_,_=>false
 |c::l,t,u=>if c.name==t then c.unit || !u else gf l t u
def fS(cs:List Cd)(t:Bool):List aa:=[fm cs,.bool t]
attribute [local irreducible] ak.rd ak.pu ak.wr ak.dr ak.gr ak.gw ak.gl ak.gd ak.opt aH W
theorem Qh{f:(List aa→List ab→Prop)→Prop}{k:List aa→List ab→Prop}(h:∀k',k'=k→f k'):aH f k:=ZY (h k rfl)
theorem c110(c:Cd)(h1:bG c.ca=true)(h2:bG c.dead=true)(h3:bG c.dJ=true):PC 30 [.agg (b_ c)] (iv (min (ee 0 c.ca+ee 0 c.dead+ee 0 c.dJ) 1073741824)):=by
 refine Yc hP g30.ok rfl rfl ?_;rw[H1.e]; unfold g30; dsimp only;refine Qb rfl rfl (Qe rfl (Yg rfl rfl ?_));refine Yh (c142 _ h1) rfl g49.ok.plain rfl ?_;refine Qe rfl (Yg rfl rfl ?_);refine Yh (c142 _ h2) rfl g49.ok.plain rfl ?_;refine Qe (Yj ..) (Qe rfl (Yg rfl rfl ?_));refine Yh (c142 _ h3) rfl g49.ok.plain rfl ?_;refine Qe (Yj ..) (Qe (ZM ..) (Xr (by kernel_rfl) ?_));have b1:=E7 c.ca;have b2:=E7 c.dead;have b3:=E7 c.dJ;rw[bc (n:=ee 0 c.ca+ee 0 c.dead) (by omega) (by omega),bc (by omega) (by omega)]
theorem c225(x:Nm):PC 143 [.agg (ba x)] (.bool (dQ x)):=by
 rw[XI];refine Yc hP g143.ok rfl rfl ?_;rw[H1.e]; unfold g143; dsimp only;refine Qb rfl rfl ?_;refine Za rfl (Za rfl (Za (Zf ..) ?_));rcases aT (decide (x.op=0)) with h1|h1
 rotate_left
 ·rw[h1];repeat first|refine Qa rfl ?_|refine Yb rfl ?_|refine Zc rfl ?_|refine Qc rfl ?_|refine Za rfl ?_
  simp at h1; simp[dQ,h1]
 rw[h1];repeat first|refine Ya ?_|refine Xa ?_|refine Za (Zf ..) ?_|refine Za (Xf ..) ?_|refine Za rfl ?_
 rcases aT (decide (x.n=0)) with h2|h2
 rotate_left
 ·rw[h2];repeat first|refine Qa rfl ?_|refine Yb rfl ?_|refine Zc rfl ?_|refine Qc rfl ?_|refine Za rfl ?_
  simp at h2; simp[dQ,h2]
 rw[h2];repeat first|refine Ya ?_|refine Xa ?_|refine Za (Zf ..) ?_|refine Za (Xf ..) ?_|refine Za rfl ?_
 rcases aT (decide (x.who=0)) with h3|h3
 rotate_left
 ·rw[h3];repeat first|refine Qa rfl ?_|refine Yb rfl ?_|refine Zc rfl ?_|refine Qc rfl ?_|refine Za rfl ?_
  simp at h3; simp[dQ,h3]
 rw[h3];repeat first|refine Ya ?_|refine Xa ?_|refine Za (Zf ..) ?_|refine Za (Xf ..) ?_|refine Za rfl ?_
 simp at h1 h2 h3;simp[dQ,h1,h2,h3]
theorem c227(x:Cn):PC 145 [.agg (cG x)] (.bool (eU x)):=by
 rw[YQ];refine Yc hP g145.ok rfl rfl ?_;rw[H1.e]; unfold g145; dsimp only;refine Qb rfl rfl ?_;refine Za rfl (Za rfl (Za (Zf ..) ?_));rcases aT (decide (x.op=0)) with h1|h1
 rotate_left
 ·rw[h1];repeat first|refine Qa rfl ?_|refine Yb rfl ?_|refine Zc rfl ?_|refine Qc rfl ?_|refine Za rfl ?_
  simp at h1; simp[eU,h1]
 rw[h1];repeat first|refine Ya ?_|refine Xa ?_|refine Za (Zf ..) ?_|refine Za (Xf ..) ?_|refine Za rfl ?_
 rcases aT (decide (x.who=0)) with h2|h2
 rotate_left
 ·rw[h2];repeat first|refine Qa rfl ?_|refine Yb rfl ?_|refine Zc rfl ?_|refine Qc rfl ?_|refine Za rfl ?_
  simp at h2; simp[eU,h2]
 rw[h2];repeat first|refine Ya ?_|refine Xa ?_|refine Za (Zf ..) ?_|refine Za (Xf ..) ?_|refine Za rfl ?_
 rcases aT (x.name==[]) with h3|h3
 rotate_left
 ·rw[h3];repeat first|refine Qa rfl ?_|refine Yb rfl ?_|refine Zc rfl ?_|refine Qc rfl ?_|refine Za rfl ?_
  simp at h3; simp[eU,h3]
 rw[h3];repeat first|refine Ya ?_|refine Xa ?_|refine Za (Zf ..) ?_|refine Za (Xf ..) ?_|refine Za rfl ?_
 rcases aT (decide (((x.ay.map ba).length:Int)=0)) with h4|h4
 rotate_left
 ·rw[h4];repeat first|refine Qa rfl ?_|refine Yb rfl ?_|refine Zc rfl ?_|refine Qc rfl ?_|refine Za rfl ?_
  simp at h4; simp[eU,h4]
 rw[h4];repeat first|refine Ya ?_|refine Xa ?_|refine Za (Zf ..) ?_|refine Za (Xf ..) ?_|refine Za rfl ?_
 simp at h1 h2 h3 h4;simp[eU,h1,h2,h3,h4]
theorem c187(n:Int):PC 109 [iv n] (.bool (decide (0≤n)&&decide (n≤999))):=by
 refine Yc hP g109.ok rfl rfl ?_;rw[H1.e]; unfold g109; dsimp only;refine Za rfl ?_;rcases aT (decide (n ≥ 0)) with h|h
 ·rw[h];repeat first|refine Za rfl ?_|refine Qb rfl rfl ?_|refine Ya ?_|refine Xa ?_
  have h':0≤n:=by simpa using h
  simp[h']
 ·rw[h];repeat first|refine Qa rfl ?_|refine Yb rfl ?_|refine Zc rfl ?_|refine Qc rfl ?_|refine Za rfl ?_|refine Qb rfl rfl ?_
  have h':¬0≤n:=by simpa using h
  simp[h']
theorem mA(x:Cd):aL false 0 1 (b_ x)=some (.str x.name):=rfl
theorem rO(x:Cd):aL false 1 1 (b_ x)=some (.bool x.unit):=rfl
theorem c228(cs:List Cd)(hc:cs.length≤gp)(t:Bool)(nm:Tx)(u:Bool):PC 147 [.ao (fS cs t) 0,.str nm,.bool u] (.bool (gf cs nm u)):=by
 refine Yc hP g147.ok rfl rfl ?_;rw[H3.e]; unfold g147; dsimp only;rw[cO] at hc;refine Xj (ι:=Nat) (λi vs σ=>vs=[iv i]∧i≤cs.length∧gf cs nm u=gf (cs.drop i) nm u) (λi=>cs.length-i) 0 ⟨rfl,by omega,by simp⟩ ?_;rintro i vs σ again ⟨rfl,hi,hu⟩ aZ;repeat first|refine Za (an (row:=fS cs t) rfl) ?_|refine Za rfl ?_
 refine Zb (λh=>?_) (λh=>?_)
 ·have h:i<cs.length:=by simpa using h
  have cX:cs.drop i=cs[i]::cs.drop (i+1):=by rw[fA h]
  rw[cX,gf] at hu;have ix:=λ(s:List ab)=>Zp s b_ false false 12 cs .i64 i h;generalize cs[i]=c at hu ix;refine Za rfl (Za rfl (Za (an (row:=fS cs t) rfl) (Za (ix _) (Za rfl (Za (an (mA c)) (Za (Xf ..) ?_))))));refine Zb (λh=>?_) (λh=>?_)
  ·rw[if_pos h] at hu;refine Za rfl (Za rfl (Za (an (row:=fS cs t) rfl) (Za (ix _) (Za rfl (Za (an (rO c)) ?_)))));rw[hu];cases c.unit<;>repeat (first|refine Ya ?_|refine Qa rfl ?_|refine Zc rfl ?_|refine Za rfl ?_)
   ·simp
   ·simp
  ·rw[if_neg (by simpa using h)] at hu;refine Za (Yj ..) ?_;rw[Qd (n:=i) (by omega)];exact aZ (i+1) _ _ (by omega) ⟨rfl,by omega,hu⟩
 ·have h:i=cs.length:=by simp at h; omega
  subst h;rw[List.drop_length] at hu;rw[hu]; rfl
end Go.Ah.Tz
end
section
namespace Go.Ah.Tz
open Go.Proofs.Tryz (prog)
def qw(op:Int):Nat:=if 8≤op∧op≤12 then 2 else 0
def ia(t:Bool)(op n who:Int)(len:Nat):Bool:=
 (decide (0≤op)&&(decide (op≤12)&&decide (len=qw op)))
def fN(t:Bool)(op n who:Int):Bool:=
 if op=0 then decide (0≤n)&&(decide (n≤999)&&decide (who=0)) else decide (n=0)&&(if 1≤op∧op≤4 then gB who else decide (who=0)&&(decide (op≠7)||t))
mutual
def eT (t:Bool):Nm→Bool
 |.mk op n who kids=>ia t op n who kids.length&&(de t kids&&fN t op n who)
def de (t:Bool):List Nm→Bool
 |[]=>true
 |x::l=>eT t x&&de t l
end
theorem Jg(t:Bool)(x:Nm):eT t x=(ia t x.op x.n x.who x.kids.length&&(de t x.kids&&fN t x.op x.n x.who)):=by cases x; rfl
def ji(op:Int):Nat:=if 0≤op∧op≤2 then 2 else 0
def j0(op:Int):Nat:=if op=4∨op=5 then 2 else if op=3 then 1 else 0
def i3(op:Int)(l3 l4:Nat):Bool:=decide (0≤op)&&(decide (op≤6)&&(decide (l3=ji op)&&decide (l4=j0 op)))
def iy(cs:List Cd)(op who:Int)(name:Tx):Bool:=if op=6 then gB who&&gf cs name false else decide (who=0)&&name==[]
mutual
def iz (cs:List Cd) (t:Bool):Cn→Bool
 |.mk op who name ay kids=>i3 op ay.length kids.length&&(de t ay&&(gH cs t kids&&iy cs op who name))
def gH (cs:List Cd) (t:Bool):List Cn→Bool
 |[]=>true
 |x::l=>iz cs t x&&gH cs t l
end
theorem MB(cs:List Cd)(t:Bool)(x:Cn):iz cs t x=(i3 x.op x.ay.length x.kids.length&&(de t x.ay&&(gH cs t x.kids&&iy cs x.op x.who x.name))):=by cases x; rfl
attribute [local irreducible] ak.rd ak.pu ak.wr ak.dr ak.gr ak.gw ak.gl ak.gd ak.opt aH W
theorem FJ(u:aa)(t:Bool):∀(k:Nat) (x:Nm),SizeOf.sizeOf x≤k→cQ x=true→PC 146 [.ao ([u,.bool t]) 0,.agg (ba x)] (.bool (eT t x))
 |0,x,h,_=>by cases x; simp at h
 |k+1,x,hk,hf=>by
  rw[XI];refine Yc hP g146.ok rfl rfl ?_;rw[H2.e]; unfold g146; dsimp only;refine Qb rfl rfl ?_;rw[Jg];have hlen:=EW hf;rw[cO] at hlen;generalize hB:([]++[ab.box [ar x.op,iv x.n,ar x.who,.ax false false 4 (x.kids.map ba)]]:List ab)=base;have aG:ah base 0=.box [ar x.op,iv x.n,ar x.who,.ax false false 4 (x.kids.map ba)]:=by rw[←hB]; rfl
  clear hB;repeat first|refine Za (ld aG rfl) ?_|refine Za rfl ?_
  have pick:∀K:aa→Prop,K (.bool (decide (8≤x.op)&&decide (x.op≤12))) →
    VV.gr (.bool (decide (x.op ≥ 8))) true (λk=>VV.rd (Ze 0 [.ai 0 0] base) k) λIa=>
    VV.gr (.bool (decide (x.op ≥ 8))) true (λk=>VV.rd (Xh false 1 [Ia] base) k) λIe=>
    VV.gr (.bool (decide (x.op ≥ 8))) true (λk=>VV.rd (Qn .leq false [Ie,(.int .i8 12)] base) k) λIj=>
    VV.rd (Ym [.bool (decide (x.op ≥ 8)),Ij,(.bool false)] base) K:=by
   intro K hK;rcases aT (decide (x.op ≥ 8)) with h|h
   rotate_left
   ·rw[h];repeat first|refine Qa rfl ?_|refine Yb rfl ?_|refine Zc rfl ?_|refine Qc rfl ?_|refine Za rfl ?_
    have h:¬8≤x.op:=by simpa using h
    simpa[h] using hK
   rw[h];repeat first|refine Ya ?_|refine Xa ?_|refine Za (ld aG rfl) ?_|refine Za (Zf ..) ?_|refine Za (Xf ..) ?_|refine Za rfl ?_
   have h:8≤x.op:=by simpa using h
   simpa[h] using hK
  refine pick _ ?_;clear pick;refine Qh λkj fe=>?_;have kk:kj [iv (qw x.op)] base:=by
   rw[fe]; clear fe kj;repeat first|refine Za (ld aG rfl) ?_|refine Za rfl ?_
   have nB:¬(0≤x.op∧x.op≤12∧x.kids.length=qw x.op)→aa.bool false=aa.bool (ia t x.op x.n x.who x.kids.length&&(de t x.kids&&fN t x.op x.n x.who)):=by
    intro hn;have:ia t x.op x.n x.who x.kids.length=false:=by
     rw[Bool.eq_false_iff]; intro hh; simp[ia] at hh; exact hn hh
    rw[this]; rfl
   rcases aT (decide (x.op<0)) with h1|h1
   ·rw[h1];repeat first|refine Qa rfl ?_|refine Yb rfl ?_|refine Zc rfl ?_|refine Qc rfl ?_|refine Za rfl ?_
    refine Xc (nB ?_);simp at h1; omega
   rw[h1];repeat first|refine Ya ?_|refine Xa ?_|refine Za (ld aG rfl) ?_|refine Za (Zf ..) ?_|refine Za (Xf ..) ?_|refine Za rfl ?_
   rcases aT (decide (x.op>12)) with h2|h2
   ·rw[h2];repeat first|refine Qa rfl ?_|refine Yb rfl ?_|refine Zc rfl ?_|refine Qc rfl ?_|refine Za rfl ?_
    refine Xc (nB ?_);simp at h2; omega
   rw[h2];repeat first|refine Ya ?_|refine Xa ?_|refine Za (ld aG rfl) ?_|refine Za (Zf ..) ?_|refine Za (Xf ..) ?_|refine Za rfl ?_
   refine Zb (λh3=>nB ?_) (λh3=>?_)
   ·simp at h3; omega
   simp at h1 h2 h3;have ht:ia t x.op x.n x.who x.kids.length=true:=by simp[ia]; omega
   rw[ht,Bool.true_and];refine Xj (ι:=Nat) (λi vs σ=>vs=[iv i]∧σ=base∧i≤x.kids.length∧de t x.kids=de t (x.kids.drop i)) (λi=>x.kids.length-i) 0 ⟨rfl,rfl,by omega,by simp⟩ ?_;rintro i vs σ again ⟨rfl,rfl,hi,hu⟩ aZ;repeat first|refine Za (ld aG rfl) ?_|refine Za rfl ?_
   refine Zb (λh=>?_) (λh=>?_)
   ·have h:i<x.kids.length:=by simpa using h
    have cX:x.kids.drop i=x.kids[i]::x.kids.drop (i+1):=by rw[fA h]
    rw[cX,de] at hu;have hm:x.kids[i]∈x.kids:=List.getElem_mem h;refine Za rfl (Za (ld aG rfl) (Za (Zp _ ba _ _ _ x.kids _ i h) (Za (an (pX _)) ?_)));refine Xb (FJ u t k _ (by have:=xN hm; omega) (XW hf hm)) rfl g146.ok.plain (by rw[XI]; rfl) ?_;refine Za rfl ?_;refine Zb (λh4=>?_) (λh4=>?_)
    ·have h4:eT t x.kids[i]=false:=by simpa using h4
     rw[hu,h4]; rfl
    ·have h4:eT t x.kids[i]=true:=by simpa using h4
     rw[h4,Bool.true_and] at hu;refine Za (Yj ..) ?_;rw[Qd (n:=i) (by omega)];exact aZ (i+1) _ _ (by omega) ⟨rfl,rfl,by omega,hu⟩
   have h:i=x.kids.length:=by simp at h; omega
   subst h;rw[List.drop_length,de] at hu;rw[hu,Bool.true_and];clear aZ hu hi nB ht;refine Za rfl (Za (ld aG rfl) (Za (Zf ..) ?_));refine Zb (λh5=>?_) (λh5=>?_)
   ·have h5:x.op=0:=by simpa using h5
    repeat first|refine Za (ld aG rfl) ?_|refine Za rfl ?_
    rcases aT (decide (x.n ≥ 0)) with h6|h6
    rotate_left
    ·rw[h6];repeat first|refine Qa rfl ?_|refine Yb rfl ?_|refine Zc rfl ?_|refine Qc rfl ?_|refine Za rfl ?_
     have h6:¬0≤x.n:=by simpa using h6
     simp[fN,h5,h6]
    rw[h6];repeat first|refine Ya ?_|refine Xa ?_|refine Za (ld aG rfl) ?_|refine Za (Zf ..) ?_|refine Za (Xf ..) ?_|refine Za rfl ?_
    rcases aT (decide (x.n≤999)) with h7|h7
    rotate_left
    ·rw[h7];repeat first|refine Qa rfl ?_|refine Yb rfl ?_|refine Zc rfl ?_|refine Qc rfl ?_|refine Za rfl ?_
     have h7:¬x.n≤999:=by simpa using h7
     simp[fN,h5,h7]
    rw[h7];repeat first|refine Ya ?_|refine Xa ?_|refine Za (ld aG rfl) ?_|refine Za (Zf ..) ?_|refine Za (Xf ..) ?_|refine Za rfl ?_
    have h6:0≤x.n:=by simpa using h6
    simp at h7;simp[fN,h5,h6,h7]
   have h5:x.op≠0:=by simpa using h5
   repeat first|refine Za (ld aG rfl) ?_|refine Za rfl ?_
   refine Zb (λh6=>?_) (λh6=>?_)
   ·have h6:x.n≠0:=by simpa using h6
    simp[fN,h5,h6]
   have h6:x.n=0:=by simpa using h6
   repeat first|refine Za (ld aG rfl) ?_|refine Za rfl ?_
   have Wy:1≤x.op:=by omega
   have PZ:decide (x.op ≥ 1)=true:=by simpa using Wy
   rw[PZ];repeat first|refine Ya ?_|refine Xa ?_|refine Za (ld aG rfl) ?_|refine Za (Zf ..) ?_|refine Za (Xf ..) ?_|refine Za rfl ?_
   refine Zb (λh7=>?_) (λh7=>?_)
   ·have h7:x.op≤4:=by simpa using h7
    refine Za rfl (Za (ld aG rfl) ?_);refine Xb (c121 _) rfl g148.ok.plain rfl ?_;simp[fN,h5,h6,h7,Wy]
   have h7:¬x.op≤4:=by simpa using h7
   refine Za rfl (Za (ld aG rfl) (Za (Zf ..) ?_));rcases aT (decide (x.who=0)) with h8|h8
   rotate_left
   ·rw[h8];repeat first|refine Qa rfl ?_|refine Yb rfl ?_|refine Zc rfl ?_|refine Qc rfl ?_|refine Za rfl ?_
    have h8:¬x.who=0:=by simpa using h8
    simp[fN,h5,h6,h7,h8]
   rw[h8];repeat first|refine Ya ?_|refine Xa ?_|refine Za (ld aG rfl) ?_|refine Za (Zf ..) ?_|refine Za (Xf ..) ?_|refine Za rfl ?_
   have h8:x.who=0:=by simpa using h8
   rcases aT (x.op != 7) with h9|h9
   ·rw[h9];repeat first|refine Qa rfl ?_|refine Yb rfl ?_|refine Zc rfl ?_|refine Qc rfl ?_|refine Za rfl ?_
    have h9:x.op≠7:=by simpa using h9
    simp[fN,h5,h6,h7,h8,h9]
   rw[h9];repeat first|refine Ya ?_|refine Za (an (row:=[u,.bool t]) rfl) ?_|refine Za rfl ?_
   have h9:x.op=7:=by simpa using h9
   simp[fN,h6,h8,h9]
  refine Zb (λh=>?_) (λh=>?_)
  ·have e:qw x.op=2:=by simp at h; simp[qw,h]
   rw[e] at kk; exact kk
  ·have e:qw x.op=0:=by simp at h; simp[qw]; omega
   rw[e] at kk; exact kk
theorem c77(cs:List Cd)(t:Bool)(x:Nm)(hf:cQ x=true):PC 146 [.ao (fS cs t) 0,.agg (ba x)] (.bool (eT t x)):=FJ (fm cs) t _ x (Nat.le_refl _) hf
end Go.Ah.Tz
end
section
namespace Go.Ah.Tz
open Go.Proofs.Tryz (prog)
attribute [local irreducible] ak.rd ak.pu ak.wr ak.dr ak.gr ak.gw ak.gl ak.gd ak.opt aH W
theorem yh(cs:List Cd)(t:Bool)(x:Cn):fz [.ao (fS cs t) 0,.agg (cG x)]=true:=by rw[YQ]; rfl
theorem yU(cs:List Cd)(t:Bool)(x:Nm):fz [.ao (fS cs t) 0,.agg (ba x)]=true:=by rw[XI]; rfl
theorem yb(cs:List Cd)(gC:cs.length≤gp)(t:Bool):∀(k:Nat) (x:Cn),SizeOf.sizeOf x≤k→cz x=true→PC 144 [.ao (fS cs t) 0,.agg (cG x)] (.bool (iz cs t x))
 |0,x,h,_=>by cases x; simp at h
 |k+1,x,hk,hf=>by
  rw[YQ];refine Yc hP g144.ok rfl rfl ?_;rw[H2.e]; unfold g144; dsimp only;refine Qb rfl rfl ?_;rw[MB];have fj:=Q0 hf;have eX:=X0 hf;rw[cO] at fj eX;generalize hB:([]++[ab.box [ar x.op,ar x.who,.str x.name,.ax false false 4 (x.ay.map ba),.ax false false 5 (x.kids.map cG)]]:List ab)=base;have aG:ah base 0=.box [ar x.op,ar x.who,.str x.name,.ax false false 4 (x.ay.map ba),.ax false false 5 (x.kids.map cG)]:=by rw[←hB]; rfl
  clear hB;repeat first|refine Za (ld aG rfl) ?_|refine Za rfl ?_
  have pick:∀K:aa→Prop,K (.bool (decide (0≤x.op)&&decide (x.op≤2))) →
    VV.gr (.bool (decide (x.op ≥ 0))) true (λk=>VV.rd (Ze 0 [.ai 0 0] base) k) λqi=>
    VV.gr (.bool (decide (x.op ≥ 0))) true (λk=>VV.rd (Xh false 1 [qi] base) k) λuZ=>
    VV.gr (.bool (decide (x.op ≥ 0))) true (λk=>VV.rd (Qn .leq false [uZ,(.int .i8 2)] base) k) λu6=>
    VV.rd (Ym [.bool (decide (x.op ≥ 0)),u6,(.bool false)] base) K:=by
   intro K hK;rcases aT (decide (x.op ≥ 0)) with h|h
   rotate_left
   ·rw[h];repeat first|refine Qa rfl ?_|refine Yb rfl ?_|refine Zc rfl ?_|refine Qc rfl ?_|refine Za rfl ?_
    have h:¬0≤x.op:=by simpa using h
    simpa[h] using hK
   rw[h];repeat first|refine Ya ?_|refine Xa ?_|refine Za (ld aG rfl) ?_|refine Za (Zf ..) ?_|refine Za (Xf ..) ?_|refine Za rfl ?_
   have h:0≤x.op:=by simpa using h
   simpa[h] using hK
  refine pick _ ?_;clear pick;refine Qh λkj fe=>?_;have kk:kj [iv (ji x.op)] base:=by
   rw[fe]; clear fe kj;repeat first|refine Za (ld aG rfl) ?_|refine Za (Zf ..) ?_|refine Za (Xf ..) ?_|refine Za rfl ?_
   refine Qh λkj fe=>?_;have kk:kj [iv (if x.op=3 then 1 else 0:Nat)] base:=by
    rw[fe]; clear fe kj;repeat first|refine Za (ld aG rfl) ?_|refine Za (Zf ..) ?_|refine Za (Xf ..) ?_|refine Za rfl ?_
    have pick:∀K:aa→Prop,K (.bool (decide (x.op=4∨x.op=5))) →
      VV.gr (.bool (decide (x.op=4))) false (λk=>VV.rd (Ze 0 [.ai 0 0] base) k) λAQ=>
      VV.gr (.bool (decide (x.op=4))) false (λk=>VV.rd (Xh false 1 [AQ] base) k) λAY=>
      VV.gr (.bool (decide (x.op=4))) false (λk=>VV.rd (Qn .eql false [AY,(.int .i8 5)] base) k) λAZ=>
      VV.rd (Ym [.bool (decide (x.op=4)),(.bool true),AZ] base) K:=by
     intro K hK;rcases aT (decide (x.op=4)) with h|h
     ·rw[h];repeat first|refine Qa rfl ?_|refine Yb rfl ?_|refine Zc rfl ?_|refine Qc rfl ?_|refine Za rfl ?_
      have h:x.op=4:=by simpa using h
      simpa[h] using hK
     rw[h];repeat first|refine Ya ?_|refine Xa ?_|refine Za (ld aG rfl) ?_|refine Za (Zf ..) ?_|refine Za (Xf ..) ?_|refine Za rfl ?_
     have h:x.op≠4:=by simpa using h
     simpa[h] using hK
    refine pick _ ?_;clear pick;refine Qh λkj fe=>?_;have kk:kj [iv (j0 x.op)] base:=by
     rw[fe]; clear fe kj;repeat first|refine Za (ld aG rfl) ?_|refine Za (Zf ..) ?_|refine Za (Xf ..) ?_|refine Za rfl ?_
     have nB:¬(0≤x.op∧x.op≤6∧x.ay.length=ji x.op∧x.kids.length=j0 x.op)→aa.bool false=aa.bool (i3 x.op x.ay.length x.kids.length&&(de t x.ay&&(gH cs t x.kids&&iy cs x.op x.who x.name))):=by
      intro hn;have:i3 x.op x.ay.length x.kids.length=false:=by
       rw[Bool.eq_false_iff]; intro hh; simp[i3] at hh; exact hn hh
      rw[this]; rfl
     rcases aT (decide (x.op<0)) with h1|h1
     ·rw[h1];repeat first|refine Qa rfl ?_|refine Yb rfl ?_|refine Zc rfl ?_|refine Qc rfl ?_|refine Za rfl ?_
      refine Xc (nB ?_);simp at h1; omega
     rw[h1];repeat first|refine Ya ?_|refine Xa ?_|refine Za (ld aG rfl) ?_|refine Za (Zf ..) ?_|refine Za (Xf ..) ?_|refine Za rfl ?_
     rcases aT (decide (x.op>6)) with h2|h2
     ·rw[h2];repeat first|refine Qa rfl ?_|refine Yb rfl ?_|refine Zc rfl ?_|refine Qc rfl ?_|refine Za rfl ?_
      refine Xc (nB ?_);simp at h2; omega
     rw[h2];repeat first|refine Ya ?_|refine Xa ?_|refine Za (ld aG rfl) ?_|refine Za (Zf ..) ?_|refine Za (Xf ..) ?_|refine Za rfl ?_
     rcases aT (((x.ay.map ba).length:Int) != (ji x.op:Int)) with h3|h3
     ·rw[h3];repeat first|refine Qa rfl ?_|refine Yb rfl ?_|refine Zc rfl ?_|refine Qc rfl ?_|refine Za rfl ?_
      refine Xc (nB ?_);simp at h3; omega
     rw[h3];repeat first|refine Ya ?_|refine Xa ?_|refine Za (ld aG rfl) ?_|refine Za (Zf ..) ?_|refine Za (Xf ..) ?_|refine Za rfl ?_
     refine Zb (λh4=>nB ?_) (λh4=>?_)
     ·simp at h4; omega
     simp at h1 h2 h3 h4;have ht:i3 x.op x.ay.length x.kids.length=true:=by simp[i3]; omega
     rw[ht,Bool.true_and];refine Xj (ι:=Nat) (λi vs σ=>vs=[iv i]∧σ=base∧i≤x.ay.length∧de t x.ay=de t (x.ay.drop i)) (λi=>x.ay.length-i) 0 ⟨rfl,rfl,by omega,by simp⟩ ?_;rintro i vs σ again ⟨rfl,rfl,hi,hu⟩ aZ;repeat first|refine Za (ld aG rfl) ?_|refine Za rfl ?_
     refine Zb (λh=>?_) (λh=>?_)
     ·have h:i<x.ay.length:=by simpa using h
      have cX:x.ay.drop i=x.ay[i]::x.ay.drop (i+1):=by rw[fA h]
      rw[cX,de] at hu;have hm:x.ay[i]∈x.ay:=List.getElem_mem h;refine Za rfl (Za (ld aG rfl) (Za (Zp _ ba _ _ _ x.ay _ i h) (Za (an (pX _)) ?_)));refine Xb (c77 cs t _ (X3 hf hm)) rfl g146.ok.plain (yU ..) ?_;refine Za rfl ?_;refine Zb (λh4=>?_) (λh4=>?_)
      ·have h4:eT t x.ay[i]=false:=by simpa using h4
       rw[hu,h4]; rfl
      ·have h4:eT t x.ay[i]=true:=by simpa using h4
       rw[h4,Bool.true_and] at hu;refine Za (Yj ..) ?_;rw[Qd (n:=i) (by omega)];exact aZ (i+1) _ _ (by omega) ⟨rfl,rfl,by omega,hu⟩
     have h:i=x.ay.length:=by simp at h; omega
     subst h;rw[List.drop_length,de] at hu;rw[hu,Bool.true_and];clear aZ hu hi nB ht;refine Xj (ι:=Nat) (λi vs s=>vs=[iv i]∧s=σ∧i≤x.kids.length∧gH cs t x.kids=gH cs t (x.kids.drop i)) (λi=>x.kids.length-i) 0 ⟨rfl,rfl,by omega,by simp⟩ ?_;rintro i vs s again ⟨rfl,rfl,hi,hu⟩ aZ;repeat first|refine Za (ld aG rfl) ?_|refine Za rfl ?_
     refine Zb (λh=>?_) (λh=>?_)
     ·have h:i<x.kids.length:=by simpa using h
      have cX:x.kids.drop i=x.kids[i]::x.kids.drop (i+1):=by rw[fA h]
      rw[cX,gH] at hu;have hm:x.kids[i]∈x.kids:=List.getElem_mem h;refine Za rfl (Za (ld aG rfl) (Za (Zp _ cG _ _ _ x.kids _ i h) (Za (an (wy _)) ?_)));refine Xb (yb cs gC t k _ (by have:=zl hm; omega) (Y3 hf hm)) rfl g144.ok.plain (yh ..) ?_;refine Za rfl ?_;refine Zb (λh4=>?_) (λh4=>?_)
      ·have h4:iz cs t x.kids[i]=false:=by simpa using h4
       rw[hu,h4]; rfl
      ·have h4:iz cs t x.kids[i]=true:=by simpa using h4
       rw[h4,Bool.true_and] at hu;refine Za (Yj ..) ?_;rw[Qd (n:=i) (by omega)];exact aZ (i+1) _ _ (by omega) ⟨rfl,rfl,by omega,hu⟩
     have h:i=x.kids.length:=by simp at h; omega
     subst h;rw[List.drop_length,gH] at hu;rw[hu,Bool.true_and];clear aZ hu hi;repeat first|refine Za (ld aG rfl) ?_|refine Za (Zf ..) ?_|refine Za (Xf ..) ?_|refine Za rfl ?_
     refine Zb (λh5=>?_) (λh5=>?_)
     ·have h5:x.op=6:=by simpa using h5
      refine Za rfl (Za (ld aG rfl) ?_);refine Xb (c121 _) rfl g148.ok.plain rfl ?_;rcases aT (gB x.who) with h6|h6
      rotate_left
      ·rw[h6];repeat first|refine Qa rfl ?_|refine Yb rfl ?_|refine Zc rfl ?_|refine Qc rfl ?_|refine Za rfl ?_
       simp[iy,h5,h6]
      rw[h6];repeat first|refine Ya ?_|refine Xa ?_|refine Za (ld aG rfl) ?_|refine Za (Zf ..) ?_|refine Za (Xf ..) ?_|refine Za rfl ?_
      refine Xb (c228 cs gC t _ _) rfl g147.ok.plain rfl ?_;repeat first|refine Ya ?_|refine Xa ?_|refine Za (ld aG rfl) ?_|refine Za (Zf ..) ?_|refine Za (Xf ..) ?_|refine Za rfl ?_
      simp[iy,h5,h6]
     have h5:x.op≠6:=by simpa using h5
     repeat first|refine Za (ld aG rfl) ?_|refine Za (Zf ..) ?_|refine Za (Xf ..) ?_|refine Za rfl ?_
     rcases aT (decide (x.who=0)) with h6|h6
     rotate_left
     ·rw[h6];repeat first|refine Qa rfl ?_|refine Yb rfl ?_|refine Zc rfl ?_|refine Qc rfl ?_|refine Za rfl ?_
      have h6:x.who≠0:=by simpa using h6
      simp[iy,h5,h6]
     rw[h6];repeat first|refine Ya ?_|refine Xa ?_|refine Za (ld aG rfl) ?_|refine Za (Zf ..) ?_|refine Za (Xf ..) ?_|refine Za rfl ?_
     have h6:x.who=0:=by simpa using h6
     simp[iy,h5,h6]
    refine Zb (λh=>?_) (λh=>?_)
    ·have e:j0 x.op=2:=by simp at h; simp[j0]; omega
     rw[e] at kk; exact kk
    ·have e:j0 x.op=if x.op=3 then 1 else 0:=by simp at h; simp[j0]; omega
     rw[e] at kk; exact kk
   refine Zb (λh=>?_) (λh=>?_)
   ·rw[if_pos (by simpa using h)] at kk; exact kk
   ·rw[if_neg (by simpa using h)] at kk; exact kk
  refine Zb (λh=>?_) (λh=>?_)
  ·have e:ji x.op=2:=by simp at h; simp[ji,h]
   rw[e] at kk; exact kk
  ·have e:ji x.op=0:=by simp at h; simp[ji]; omega
   rw[e] at kk; exact kk
theorem c226(cs:List Cd)(gC:cs.length≤gp)(t:Bool)(x:Cn)(hf:cz x=true):PC 144 [.ao (fS cs t) 0,.agg (cG x)] (.bool (iz cs t x)):=yb cs gC t _ x (Nat.le_refl _) hf
end Go.Ah.Tz
end
section
namespace Go.Ah.Tz
open Go.Proofs.Tryz (prog)
def iC(t:Bool)(op who:Int):Bool:=if op=0∨op=1 then gB who||(decide (who=2)&&t) else decide (who=0)
def gJ(t:Bool)(op who:Int):Bool:=
 if op=2∨op=4∨op=6 then gB who else iC t op who
mutual
def nF (cs:List Cd) (t:Bool):Int→Ef→Bool
 | d,.mk op who n name c bM bQ=>decide (0≤op) && (decide (op≤8) && (if op=8 then
   decide (who=0)&&(dQ n&&(name==[]&&(iz cs t c&&((decide (bM.length≤16)&&(decide (d+1≤8)&&dp cs t (d+1) bM))&&(decide (bQ.length≤16)&&(decide (d+1≤8)&&dp cs t (d+1) bQ))))))
  else eU c && (decide (bM.length=0) && (decide (bQ.length=0) && ((if bd op then eT t n else dQ n) && ((if op=7 then gf cs name true else name == []) && gJ t op who))))))
def dp (cs:List Cd) (t:Bool):Int→List Ef→Bool
 |_,[]=>true
 |d,x::l=>nF cs t d x&&dp cs t d l
end
def bT(cs:List Cd)(t:Bool)(d:Int)(l:List Ef):Bool:=decide (l.length≤16)&&(decide (d≤8)&&dp cs t d l)
theorem zg(cs:List Cd)(t:Bool)(d:Int)(x:Ef):nF cs t d x=(decide (0≤x.op) && (decide (x.op≤8) && (if x.op=8 then
   decide (x.who=0)&&(dQ x.n&&(x.name==[]&&(iz cs t x.c&&(bT cs t (d+1) x.bM&&bT cs t (d+1) x.bQ))))
  else eU x.c && (decide (x.bM.length=0) && (decide (x.bQ.length=0) && ((if bd x.op then eT t x.n else dQ x.n) && ((if x.op=7 then gf cs x.name true else x.name == []) && gJ t x.op x.who))))))):=by cases x; rfl
attribute [local irreducible] ak.rd ak.pu ak.wr ak.dr ak.gr ak.gw ak.gl ak.gd ak.opt aH W
theorem oB(F:Prop){R G:Prop}(imp:(F→R)→G)(r:F→R):G:=imp r
set_option maxHeartbeats 1000000
theorem tH(cs:List Cd)(gC:cs.length≤gp)(t:Bool):∀(k:Nat) (l:List Ef) (d:Int),SizeOf.sizeOf l≤k→bG l=true→0≤d→PC 110 [.ao (fS cs t) 0,ic l,iv d] (.bool (bT cs t d l))
 |0,l,_,h,_,_=>by cases l<;>simp at h
 |k+1,l,d,hk,hf,hd=>by
  refine Yc hP g110.ok rfl rfl ?_;rw[H3.e]; unfold g110; dsimp only;have hlen:=YH hf;rw[cO] at hlen;refine Za rfl (Za rfl ?_);rcases aT (decide (((l.map aM).length:Int)>16)) with h1|h1
  ·rw[h1];repeat first|refine Qa rfl ?_|refine Yb rfl ?_|refine Zc rfl ?_|refine Qc rfl ?_|refine Za rfl ?_
   refine Xc ?_;have h1:¬l.length≤16:=by simp at h1; omega
   simp[bT,h1]
  rw[h1];repeat first|refine Ya ?_|refine Xa ?_|refine Za rfl ?_
  refine Zb (λh2=>?_) (λh2=>?_)
  ·have h2:¬d≤8:=by simp at h2; omega
   simp[bT,h2]
  have h1:l.length≤16:=by simp at h1; omega
  have h2:d≤8:=by simp at h2; omega
  have hl:bT cs t d l=dp cs t d l:=by simp[bT,h1,h2]
  rw[hl];clear hl;refine Xj (ι:=Nat) (λi vs σ=>vs=[iv i]∧i≤l.length∧dp cs t d l=dp cs t d (l.drop i)) (λi=>l.length-i) 0 ⟨rfl,by omega,by simp⟩ ?_;rintro i vs σ again ⟨rfl,hi,hu⟩ aZ;refine Za rfl (Za rfl ?_);refine Zb (λh=>?_) (λh=>?_);rotate_left
  ·have h:i=l.length:=by simp at h; omega
   subst h;rw[List.drop_length,dp] at hu;rw[hu]
  have h:i<l.length:=by simpa using h
  have cX:l.drop i=l[i]::l.drop (i+1):=by rw[fA h]
  rw[cX,dp] at hu;have hm:l[i]∈l:=List.getElem_mem h;have dU:=List.sizeOf_lt_of_mem hm;have iT:=ZS hf hm;have ix:=λ(s:List ab)=>Zp s aM false false 14 l .i64 i h;generalize l[i]=x at hu dU iT ix;refine Qh λkj fe=>?_;have kk:nF cs t d x=true→∀s,kj [] s:=by
   intro he s;rw[fe];refine Za (Yj ..) ?_;rw[Qd (n:=i) (by omega)];exact aZ (i+1) _ _ (by omega) ⟨rfl,by omega,by rw[hu,he,Bool.true_and]⟩
  have bad:nF cs t d x=false→aa.bool false=aa.bool (dp cs t d l):=by
   intro he; rw[hu,he]; rfl
  clear fe aZ;refine Za (ix _) (Za (an (lk x)) ?_);refine Xq (row:=[ar x.op,ar x.who,ar x.n.op,iv x.n.n,ar x.n.who,.ax false false 4 (x.n.kids.map ba),.str x.name,ar x.c.op,ar x.c.who,.str x.c.name,.ax false false 4 (x.c.ay.map ba),.ax false false 5 (x.c.kids.map cG),.ax false false 14 (x.bM.map aM),.ax false false 14 (x.bQ.map aM)]) (row':=[ar x.op,ar x.who,ar x.n.op,iv x.n.n,ar x.n.who,.ax false false 4 (x.n.kids.map ba),.str x.name,ar x.c.op,ar x.c.who,.str x.c.name,.ax false false 4 (x.c.ay.map ba),.ax false false 5 (x.c.kids.map cG),.ax false false 14 (x.bM.map aM),.ax false false 14 (x.bQ.map aM)]) (by rw[XC]; rfl) rfl rfl ?_;have aG:=Yf σ (ab.box [ar x.op,ar x.who,ar x.n.op,iv x.n.n,ar x.n.who,.ax false false 4 (x.n.kids.map ba),.str x.name,ar x.c.op,ar x.c.who,.str x.c.name,.ax false false 4 (x.c.ay.map ba),.ax false false 5 (x.c.kids.map cG),.ax false false 14 (x.bM.map aM),.ax false false 14 (x.bQ.map aM)]);generalize σ++[ab.box [ar x.op,ar x.who,ar x.n.op,iv x.n.n,ar x.n.who,.ax false false 4 (x.n.kids.map ba),.str x.name,ar x.c.op,ar x.c.who,.str x.c.name,.ax false false 4 (x.c.ay.map ba),.ax false false 5 (x.c.kids.map cG),.ax false false 14 (x.bM.map aM),.ax false false 14 (x.bQ.map aM)]]=base at aG ⊢;generalize σ.length=b at aG ⊢;have hN:Xh true 4 [.ai b 2] base=.ok (.agg (ba x.n)) [b] []:=ld aG (by rw[XI]; rfl);have hC:Xh true 5 [.ai b 7] base=.ok (.agg (cG x.c)) [b] []:=ld aG (by rw[YQ]; rfl);rw[zg] at kk bad;repeat first|refine Za hN ?_|refine Za hC ?_|refine Za (ld aG rfl) ?_|refine Za (Zf ..) ?_|refine Za (Xf ..) ?_|refine Za rfl ?_
  rcases aT (decide (x.op<0)) with a1|a1
  ·rw[a1];repeat first|refine Qa rfl ?_|refine Yb rfl ?_|refine Zc rfl ?_|refine Qc rfl ?_|refine Za rfl ?_
   refine Xc (bad ?_);have a1:¬0≤x.op:=by simp at a1; omega
   simp[a1]
  rw[a1];repeat first|refine Ya ?_|refine Xa ?_|refine Za (an (row:=fS cs t) rfl) ?_|refine Za hN ?_|refine Za hC ?_|refine Za (ld aG rfl) ?_|refine Za (Zf ..) ?_|refine Za (Xf ..) ?_|refine Za rfl ?_
  refine Zb (λa2=>bad ?_) (λa2=>?_)
  ·have a2:¬x.op≤8:=by simp at a2; omega
   simp[a2]
  have a1:0≤x.op:=by simpa using a1
  have a2:x.op≤8:=by simpa using a2
  simp only[a1,a2,decide_true,Bool.true_and] at kk bad;repeat first|refine Za hN ?_|refine Za hC ?_|refine Za (ld aG rfl) ?_|refine Za (Zf ..) ?_|refine Za (Xf ..) ?_|refine Za rfl ?_
  refine Zb (λa3=>?_) (λa3=>?_)
  ·have a3:x.op=8:=by simpa using a3
   rw[if_pos a3] at kk bad;repeat first|refine Za hN ?_|refine Za hC ?_|refine Za (ld aG rfl) ?_|refine Za (Zf ..) ?_|refine Za (Xf ..) ?_|refine Za rfl ?_
   rcases aT (x.who != 0) with a4|a4
   ·rw[a4];repeat first|refine Qa rfl ?_|refine Yb rfl ?_|refine Zc rfl ?_|refine Qc rfl ?_|refine Za rfl ?_
    refine Xc (bad ?_);have a4:x.who≠0:=by simpa using a4
    simp[a4]
   rw[a4];repeat first|refine Ya ?_|refine Xa ?_|refine Za (an (row:=fS cs t) rfl) ?_|refine Za hN ?_|refine Za hC ?_|refine Za (ld aG rfl) ?_|refine Za (Zf ..) ?_|refine Za (Xf ..) ?_|refine Za rfl ?_
   refine Xb (c225 _) rfl g143.ok.plain (kP _) ?_;repeat first|refine Ya ?_|refine Xa ?_|refine Za (an (row:=fS cs t) rfl) ?_|refine Za hN ?_|refine Za hC ?_|refine Za (ld aG rfl) ?_|refine Za (Zf ..) ?_|refine Za (Xf ..) ?_|refine Za rfl ?_
   rcases aT (!dQ x.n) with a5|a5
   ·rw[a5];repeat first|refine Qa rfl ?_|refine Yb rfl ?_|refine Zc rfl ?_|refine Qc rfl ?_|refine Za rfl ?_
    refine Xc (bad ?_);have a5:dQ x.n=false:=by simpa using a5
    simp[a5]
   rw[a5];repeat first|refine Ya ?_|refine Xa ?_|refine Za (an (row:=fS cs t) rfl) ?_|refine Za hN ?_|refine Za hC ?_|refine Za (ld aG rfl) ?_|refine Za (Zf ..) ?_|refine Za (Xf ..) ?_|refine Za rfl ?_
   rcases aT (!(x.name==[])) with a6|a6
   ·rw[a6];repeat first|refine Qa rfl ?_|refine Yb rfl ?_|refine Zc rfl ?_|refine Qc rfl ?_|refine Za rfl ?_
    refine Xc (bad ?_);have a6:(x.name==[])=false:=by simpa using a6
    rw[a6]; simp
   rw[a6];repeat first|refine Ya ?_|refine Xa ?_|refine Za (an (row:=fS cs t) rfl) ?_|refine Za hN ?_|refine Za hC ?_|refine Za (ld aG rfl) ?_|refine Za (Zf ..) ?_|refine Za (Xf ..) ?_|refine Za rfl ?_
   refine Xb (c226 cs gC t _ (Y9 iT)) rfl g144.ok.plain (yh ..) ?_;repeat first|refine Ya ?_|refine Xa ?_|refine Za (an (row:=fS cs t) rfl) ?_|refine Za hN ?_|refine Za hC ?_|refine Za (ld aG rfl) ?_|refine Za (Zf ..) ?_|refine Za (Xf ..) ?_|refine Za rfl ?_
   rcases aT (!iz cs t x.c) with a7|a7
   ·rw[a7];repeat first|refine Qa rfl ?_|refine Yb rfl ?_|refine Zc rfl ?_|refine Qc rfl ?_|refine Za rfl ?_
    refine Xc (bad ?_);have a7:iz cs t x.c=false:=by simpa using a7
    simp[a7]
   rw[a7];repeat first|refine Ya ?_|refine Xa ?_|refine Za (an (row:=fS cs t) rfl) ?_|refine Za hN ?_|refine Za hC ?_|refine Za (ld aG rfl) ?_|refine Za (Zf ..) ?_|refine Za (Xf ..) ?_|refine Za rfl ?_
   have pJ:=DJ x;rw[bc (n:=d+1) (by omega) (by omega)];refine Xb (tH cs gC t k x.bM (d+1) (by omega) (XR iT) (by omega)) rfl g110.ok.plain rfl ?_;repeat first|refine Ya ?_|refine Xa ?_|refine Za (an (row:=fS cs t) rfl) ?_|refine Za hN ?_|refine Za hC ?_|refine Za (ld aG rfl) ?_|refine Za (Zf ..) ?_|refine Za (Xf ..) ?_|refine Za rfl ?_
   rcases aT (!bT cs t (d+1) x.bM) with a8|a8
   ·rw[a8];repeat first|refine Qa rfl ?_|refine Yb rfl ?_|refine Zc rfl ?_|refine Qc rfl ?_|refine Za rfl ?_
    refine Xc (bad ?_);have a8:bT cs t (d+1) x.bM=false:=by simpa using a8
    simp[a8]
   rw[a8];repeat first|refine Ya ?_|refine Xa ?_|refine Za (an (row:=fS cs t) rfl) ?_|refine Za hN ?_|refine Za hC ?_|refine Za (ld aG rfl) ?_|refine Za (Zf ..) ?_|refine Za (Xf ..) ?_|refine Za rfl ?_
   rw[bc (n:=d+1) (by omega) (by omega)];refine Xb (tH cs gC t k x.bQ (d+1) (by omega) (YR iT) (by omega)) rfl g110.ok.plain rfl ?_;repeat first|refine Ya ?_|refine Xa ?_|refine Za (an (row:=fS cs t) rfl) ?_|refine Za hN ?_|refine Za hC ?_|refine Za (ld aG rfl) ?_|refine Za (Zf ..) ?_|refine Za (Xf ..) ?_|refine Za rfl ?_
   refine Zb (λa9=>bad ?_) (λa9=>kk ?_ _)
   ·have a9:bT cs t (d+1) x.bQ=false:=by simpa using a9
    simp[a9]
   ·simp at a4 a5 a6 a7 a8 a9;simp[a4,a5,a6,a7,a8,a9]
  have a3:x.op≠8:=by simpa using a3
  rw[if_neg a3] at kk bad;repeat first|refine Za hN ?_|refine Za hC ?_|refine Za (ld aG rfl) ?_|refine Za (Zf ..) ?_|refine Za (Xf ..) ?_|refine Za rfl ?_
  refine Xb (c227 _) rfl g145.ok.plain (po _) ?_;repeat first|refine Za hN ?_|refine Za hC ?_|refine Za (ld aG rfl) ?_|refine Za (Zf ..) ?_|refine Za (Xf ..) ?_|refine Za rfl ?_
  rcases aT (!eU x.c) with a4|a4
  ·rw[a4];repeat first|refine Qa rfl ?_|refine Yb rfl ?_|refine Zc rfl ?_|refine Qc rfl ?_|refine Za rfl ?_
   refine Xc (bad ?_);have a4:eU x.c=false:=by simpa using a4
   simp[a4]
  rw[a4];repeat first|refine Ya ?_|refine Xa ?_|refine Za (an (row:=fS cs t) rfl) ?_|refine Za hN ?_|refine Za hC ?_|refine Za (ld aG rfl) ?_|refine Za (Zf ..) ?_|refine Za (Xf ..) ?_|refine Za rfl ?_
  rcases aT (decide (((x.bM.map aM).length:Int)>0)) with a5|a5
  ·rw[a5];repeat first|refine Qa rfl ?_|refine Yb rfl ?_|refine Zc rfl ?_|refine Qc rfl ?_|refine Za rfl ?_
   refine Xc (bad ?_);have a5:x.bM.length≠0:=by simp at a5; omega
   simp[a5]
  rw[a5];repeat first|refine Ya ?_|refine Xa ?_|refine Za (an (row:=fS cs t) rfl) ?_|refine Za hN ?_|refine Za hC ?_|refine Za (ld aG rfl) ?_|refine Za (Zf ..) ?_|refine Za (Xf ..) ?_|refine Za rfl ?_
  refine Zb (λa6=>bad ?_) (λa6=>?_)
  ·have a6:x.bQ.length≠0:=by simp at a6; omega
   simp[a6]
  have a4:eU x.c=true:=by simpa using a4
  have a5:x.bM.length=0:=by simp at a5; simpa using a5
  have a6:x.bQ.length=0:=by simp at a6; simpa using a6
  simp only[a4,a5,a6,decide_true,Bool.true_and] at kk bad;repeat first|refine Za hN ?_|refine Za hC ?_|refine Za (ld aG rfl) ?_|refine Za (Zf ..) ?_|refine Za (Xf ..) ?_|refine Za rfl ?_
  refine Xb (c130 _) rfl g76.ok.plain rfl ?_;apply oB ((if bd x.op then eT t x.n else dQ x.n)=true)
  ·intro hR;rcases aT (bd x.op) with c1|c1
   ·rw[c1];repeat first|refine Ya ?_|refine Xa ?_|refine Za (an (row:=fS cs t) rfl) ?_|refine Za hN ?_|refine Za hC ?_|refine Za (ld aG rfl) ?_|refine Za (Zf ..) ?_|refine Za (Xf ..) ?_|refine Za rfl ?_
    refine Xb (c77 cs t _ (vR iT)) rfl g146.ok.plain (yU ..) ?_;repeat first|refine Ya ?_|refine Xa ?_|refine Za (an (row:=fS cs t) rfl) ?_|refine Za hN ?_|refine Za hC ?_|refine Za (ld aG rfl) ?_|refine Za (Zf ..) ?_|refine Za (Xf ..) ?_|refine Za rfl ?_
    rcases aT (!eT t x.n) with c2|c2
    ·rw[c2];repeat first|refine Qa rfl ?_|refine Yb rfl ?_|refine Zc rfl ?_|refine Qc rfl ?_|refine Za rfl ?_
     refine Xc (bad ?_);have c2:eT t x.n=false:=by simpa using c2
     simp[c1,c2]
    rw[c2];repeat first|refine Ya ?_|refine Xa ?_|refine Za (an (row:=fS cs t) rfl) ?_|refine Za hN ?_|refine Za hC ?_|refine Za (ld aG rfl) ?_|refine Za (Zf ..) ?_|refine Za (Xf ..) ?_|refine Za rfl ?_
    refine Xb (c130 _) rfl g76.ok.plain rfl ?_;rw[c1];repeat first|refine Ya ?_|refine Xa ?_|refine Qa rfl ?_|refine Yb rfl ?_|refine Zc rfl ?_|refine Qc rfl ?_|refine Za (an (row:=fS cs t) rfl) ?_|refine Za hN ?_|refine Za hC ?_|refine Za (ld aG rfl) ?_|refine Za (Zf ..) ?_|refine Za (Xf ..) ?_|refine Za rfl ?_
    refine Yd ?_;exact hR (by have c2:eT t x.n=true:=(by simpa using c2); simp[c1,c2])
   rw[c1];repeat first|refine Ya ?_|refine Xa ?_|refine Qa rfl ?_|refine Yb rfl ?_|refine Zc rfl ?_|refine Qc rfl ?_|refine Za (an (row:=fS cs t) rfl) ?_|refine Za hN ?_|refine Za hC ?_|refine Za (ld aG rfl) ?_|refine Za (Zf ..) ?_|refine Za (Xf ..) ?_|refine Za rfl ?_
   refine Xb (c130 _) rfl g76.ok.plain rfl ?_;rw[c1];repeat first|refine Ya ?_|refine Xa ?_|refine Za (an (row:=fS cs t) rfl) ?_|refine Za hN ?_|refine Za hC ?_|refine Za (ld aG rfl) ?_|refine Za (Zf ..) ?_|refine Za (Xf ..) ?_|refine Za rfl ?_
   refine Xb (c225 _) rfl g143.ok.plain (kP _) ?_;repeat first|refine Ya ?_|refine Xa ?_|refine Za (an (row:=fS cs t) rfl) ?_|refine Za hN ?_|refine Za hC ?_|refine Za (ld aG rfl) ?_|refine Za (Zf ..) ?_|refine Za (Xf ..) ?_|refine Za rfl ?_
   refine Zb (λc2=>bad ?_) (λc2=>hR ?_)
   ·have c2:dQ x.n=false:=by simpa using c2
    simp[c1,c2]
   ·have c2:dQ x.n=true:=by simpa using c2
    simp[c1,c2]
  intro b1;rw[b1,Bool.true_and] at kk bad;repeat first|refine Za hN ?_|refine Za hC ?_|refine Za (ld aG rfl) ?_|refine Za (Zf ..) ?_|refine Za (Xf ..) ?_|refine Za rfl ?_
  apply oB ((if x.op=7 then gf cs x.name true else x.name==[])=true)
  ·intro hR;rcases aT (decide (x.op=7)) with c1|c1
   ·rw[c1];repeat first|refine Ya ?_|refine Xa ?_|refine Za (an (row:=fS cs t) rfl) ?_|refine Za hN ?_|refine Za hC ?_|refine Za (ld aG rfl) ?_|refine Za (Zf ..) ?_|refine Za (Xf ..) ?_|refine Za rfl ?_
    refine Xb (c228 cs gC t _ _) rfl g147.ok.plain rfl ?_;repeat first|refine Ya ?_|refine Xa ?_|refine Za (an (row:=fS cs t) rfl) ?_|refine Za hN ?_|refine Za hC ?_|refine Za (ld aG rfl) ?_|refine Za (Zf ..) ?_|refine Za (Xf ..) ?_|refine Za rfl ?_
    have c1:x.op=7:=by simpa using c1
    rcases aT (!gf cs x.name true) with c2|c2
    ·rw[c2];repeat first|refine Qa rfl ?_|refine Yb rfl ?_|refine Zc rfl ?_|refine Qc rfl ?_|refine Za rfl ?_
     refine Xc (bad ?_);have c2:gf cs x.name true=false:=by simpa using c2
     simp[c1,c2]
    rw[c2];repeat first|refine Ya ?_|refine Xa ?_|refine Za (an (row:=fS cs t) rfl) ?_|refine Za hN ?_|refine Za hC ?_|refine Za (ld aG rfl) ?_|refine Za (Zf ..) ?_|refine Za (Xf ..) ?_|refine Za rfl ?_
    have c3:(x.op != 7)=false:=by simpa using c1
    rw[c3];repeat first|refine Ya ?_|refine Xa ?_|refine Qa rfl ?_|refine Yb rfl ?_|refine Zc rfl ?_|refine Qc rfl ?_|refine Za (an (row:=fS cs t) rfl) ?_|refine Za hN ?_|refine Za hC ?_|refine Za (ld aG rfl) ?_|refine Za (Zf ..) ?_|refine Za (Xf ..) ?_|refine Za rfl ?_
    refine Yd ?_;exact hR (by have c2:gf cs x.name true=true:=(by simpa using c2); simp[c1,c2])
   rw[c1];repeat first|refine Ya ?_|refine Xa ?_|refine Qa rfl ?_|refine Yb rfl ?_|refine Zc rfl ?_|refine Qc rfl ?_|refine Za (an (row:=fS cs t) rfl) ?_|refine Za hN ?_|refine Za hC ?_|refine Za (ld aG rfl) ?_|refine Za (Zf ..) ?_|refine Za (Xf ..) ?_|refine Za rfl ?_
   have c1:x.op≠7:=by simpa using c1
   have c3:(x.op != 7)=true:=by simpa using c1
   rw[c3];repeat first|refine Ya ?_|refine Xa ?_|refine Za (an (row:=fS cs t) rfl) ?_|refine Za hN ?_|refine Za hC ?_|refine Za (ld aG rfl) ?_|refine Za (Zf ..) ?_|refine Za (Xf ..) ?_|refine Za rfl ?_
   refine Zb (λc2=>bad ?_) (λc2=>hR ?_)
   ·have c2:(x.name==[])=false:=by simpa using c2
    rw[if_neg c1,c2]; rfl
   ·have c2:(x.name==[])=true:=by simpa using c2
    rw[if_neg c1,c2]
  intro b2;rw[b2,Bool.true_and] at kk bad;repeat first|refine Za hN ?_|refine Za hC ?_|refine Za (ld aG rfl) ?_|refine Za (Zf ..) ?_|refine Za (Xf ..) ?_|refine Za rfl ?_
  have fin:∀s,VV.rd (pd .not [.bool (gJ t x.op x.who)] s) λu7=>VV.test u7 (aa.bool false=aa.bool (dp cs t d l)) (kj [] s):=by
   intro s;refine Za rfl ?_;refine Zb (λc=>bad ?_) (λc=>kk ?_ _)
   ·simpa using c
   ·simpa using c
  rcases aT (decide (x.op=0)) with e1|e1
  ·rw[e1];repeat first|refine Ya ?_|refine Xa ?_|refine Qa rfl ?_|refine Yb rfl ?_|refine Zc rfl ?_|refine Qc rfl ?_|refine Za (an (row:=fS cs t) rfl) ?_|refine Za hN ?_|refine Za hC ?_|refine Za (ld aG rfl) ?_|refine Za (Zf ..) ?_|refine Za (Xf ..) ?_|refine Za rfl ?_
   have e1:x.op=0:=by simpa using e1
   refine Qh λk1 fo=>?_;have m1:k1 [.bool (iC t x.op x.who)] base:=by
    rw[fo];repeat first|refine Za hN ?_|refine Za hC ?_|refine Za (ld aG rfl) ?_|refine Za (Zf ..) ?_|refine Za (Xf ..) ?_|refine Za rfl ?_
    rw[show decide (x.op=2)=false by simp[e1]];repeat first|refine Ya ?_|refine Xa ?_|refine Za (an (row:=fS cs t) rfl) ?_|refine Za hN ?_|refine Za hC ?_|refine Za (ld aG rfl) ?_|refine Za (Zf ..) ?_|refine Za (Xf ..) ?_|refine Za rfl ?_
    rw[show decide (x.op=4)=false by simp[e1]];repeat first|refine Ya ?_|refine Xa ?_|refine Za (an (row:=fS cs t) rfl) ?_|refine Za hN ?_|refine Za hC ?_|refine Za (ld aG rfl) ?_|refine Za (Zf ..) ?_|refine Za (Xf ..) ?_|refine Za rfl ?_
    rw[show decide (x.op=6)=false by simp[e1]];refine ZY (Yd ?_);have:=fin base;rw[show gJ t x.op x.who=iC t x.op x.who by simp[gJ,e1]] at this;exact this
   clear fo;refine Xc ?_;repeat first|refine Za hN ?_|refine Za hC ?_|refine Za (ld aG rfl) ?_|refine Za (Zf ..) ?_|refine Za (Xf ..) ?_|refine Za rfl ?_
   refine Xb (c121 _) rfl g148.ok.plain rfl ?_;rw[show iC t x.op x.who=(gB x.who||(decide (x.who=2)&&t)) by simp[iC,e1]] at m1;rcases aT (gB x.who) with e2|e2
   ·rw[e2] at m1 ⊢;repeat first|refine Ya ?_|refine Xa ?_|refine Qa rfl ?_|refine Yb rfl ?_|refine Zc rfl ?_|refine Qc rfl ?_|refine Za (an (row:=fS cs t) rfl) ?_|refine Za hN ?_|refine Za hC ?_|refine Za (ld aG rfl) ?_|refine Za (Zf ..) ?_|refine Za (Xf ..) ?_|refine Za rfl ?_
    exact m1
   rw[e2] at m1 ⊢;repeat first|refine Ya ?_|refine Xa ?_|refine Za (an (row:=fS cs t) rfl) ?_|refine Za hN ?_|refine Za hC ?_|refine Za (ld aG rfl) ?_|refine Za (Zf ..) ?_|refine Za (Xf ..) ?_|refine Za rfl ?_
   rcases aT (decide (x.who=2)) with e3|e3
   ·rw[e3] at m1 ⊢;repeat first|refine Ya ?_|refine Xa ?_|refine Qa rfl ?_|refine Yb rfl ?_|refine Zc rfl ?_|refine Qc rfl ?_|refine Za (an (row:=fS cs t) rfl) ?_|refine Za hN ?_|refine Za hC ?_|refine Za (ld aG rfl) ?_|refine Za (Zf ..) ?_|refine Za (Xf ..) ?_|refine Za rfl ?_
    exact m1
   rw[e3] at m1 ⊢;repeat first|refine Ya ?_|refine Xa ?_|refine Qa rfl ?_|refine Yb rfl ?_|refine Zc rfl ?_|refine Qc rfl ?_|refine Za (an (row:=fS cs t) rfl) ?_|refine Za hN ?_|refine Za hC ?_|refine Za (ld aG rfl) ?_|refine Za (Zf ..) ?_|refine Za (Xf ..) ?_|refine Za rfl ?_
   exact m1
  rw[e1];repeat first|refine Ya ?_|refine Xa ?_|refine Za (an (row:=fS cs t) rfl) ?_|refine Za hN ?_|refine Za hC ?_|refine Za (ld aG rfl) ?_|refine Za (Zf ..) ?_|refine Za (Xf ..) ?_|refine Za rfl ?_
  have e1:x.op≠0:=by simpa using e1
  refine Qh λk1 fo=>?_;have m1:k1 [.bool (iC t x.op x.who)] base:=by
   rw[fo];repeat first|refine Za hN ?_|refine Za hC ?_|refine Za (ld aG rfl) ?_|refine Za (Zf ..) ?_|refine Za (Xf ..) ?_|refine Za rfl ?_
   rcases aT (decide (x.op=2)) with e3|e3
   ·rw[e3];repeat first|refine Ya ?_|refine Xa ?_|refine Qa rfl ?_|refine Yb rfl ?_|refine Zc rfl ?_|refine Qc rfl ?_|refine Za (an (row:=fS cs t) rfl) ?_|refine Za hN ?_|refine Za hC ?_|refine Za (ld aG rfl) ?_|refine Za (Zf ..) ?_|refine Za (Xf ..) ?_|refine Za rfl ?_
    have e3:x.op=2:=by simpa using e3
    refine ZY (Xc ?_);repeat first|refine Za hN ?_|refine Za hC ?_|refine Za (ld aG rfl) ?_|refine Za (Zf ..) ?_|refine Za (Xf ..) ?_|refine Za rfl ?_
    refine Xb (c121 _) rfl g148.ok.plain rfl ?_;have:=fin base;rw[show gJ t x.op x.who=gB x.who by simp[gJ,e3]] at this;exact this
   rw[e3];repeat first|refine Ya ?_|refine Xa ?_|refine Za (an (row:=fS cs t) rfl) ?_|refine Za hN ?_|refine Za hC ?_|refine Za (ld aG rfl) ?_|refine Za (Zf ..) ?_|refine Za (Xf ..) ?_|refine Za rfl ?_
   rcases aT (decide (x.op=4)) with e4|e4
   ·rw[e4];repeat first|refine Ya ?_|refine Xa ?_|refine Qa rfl ?_|refine Yb rfl ?_|refine Zc rfl ?_|refine Qc rfl ?_|refine Za (an (row:=fS cs t) rfl) ?_|refine Za hN ?_|refine Za hC ?_|refine Za (ld aG rfl) ?_|refine Za (Zf ..) ?_|refine Za (Xf ..) ?_|refine Za rfl ?_
    have e4:x.op=4:=by simpa using e4
    refine ZY (Xc ?_);repeat first|refine Za hN ?_|refine Za hC ?_|refine Za (ld aG rfl) ?_|refine Za (Zf ..) ?_|refine Za (Xf ..) ?_|refine Za rfl ?_
    refine Xb (c121 _) rfl g148.ok.plain rfl ?_;have:=fin base;rw[show gJ t x.op x.who=gB x.who by simp[gJ,e4]] at this;exact this
   rw[e4];repeat first|refine Ya ?_|refine Xa ?_|refine Za (an (row:=fS cs t) rfl) ?_|refine Za hN ?_|refine Za hC ?_|refine Za (ld aG rfl) ?_|refine Za (Zf ..) ?_|refine Za (Xf ..) ?_|refine Za rfl ?_
   refine ZY (Zb (λe5=>?_) (λe5=>?_))
   ·have e5:x.op=6:=by simpa using e5
    repeat first|refine Za hN ?_|refine Za hC ?_|refine Za (ld aG rfl) ?_|refine Za (Zf ..) ?_|refine Za (Xf ..) ?_|refine Za rfl ?_
    refine Xb (c121 _) rfl g148.ok.plain rfl ?_;have:=fin base;rw[show gJ t x.op x.who=gB x.who by simp[gJ,e5]] at this;exact this
   ·simp at e3 e4 e5;have:=fin base;rw[show gJ t x.op x.who=iC t x.op x.who by simp[gJ,e3,e4,e5]] at this;exact this
  clear fo;refine Zb (λe2=>?_) (λe2=>?_);rotate_left
  ·have e2:x.op≠1:=by simpa using e2
   rw[show iC t x.op x.who=decide (x.who=0) by simp[iC,e1,e2]] at m1;exact m1
  have e2:x.op=1:=by simpa using e2
  repeat first|refine Za hN ?_|refine Za hC ?_|refine Za (ld aG rfl) ?_|refine Za (Zf ..) ?_|refine Za (Xf ..) ?_|refine Za rfl ?_
  refine Xb (c121 _) rfl g148.ok.plain rfl ?_;rw[show iC t x.op x.who=(gB x.who||(decide (x.who=2)&&t)) by simp[iC,e2]] at m1;rcases aT (gB x.who) with e2|e2
  ·rw[e2] at m1 ⊢;repeat first|refine Ya ?_|refine Xa ?_|refine Qa rfl ?_|refine Yb rfl ?_|refine Zc rfl ?_|refine Qc rfl ?_|refine Za (an (row:=fS cs t) rfl) ?_|refine Za hN ?_|refine Za hC ?_|refine Za (ld aG rfl) ?_|refine Za (Zf ..) ?_|refine Za (Xf ..) ?_|refine Za rfl ?_
   exact m1
  rw[e2] at m1 ⊢;repeat first|refine Ya ?_|refine Xa ?_|refine Za (an (row:=fS cs t) rfl) ?_|refine Za hN ?_|refine Za hC ?_|refine Za (ld aG rfl) ?_|refine Za (Zf ..) ?_|refine Za (Xf ..) ?_|refine Za rfl ?_
  rcases aT (decide (x.who=2)) with e3|e3
  ·rw[e3] at m1 ⊢;repeat first|refine Ya ?_|refine Xa ?_|refine Qa rfl ?_|refine Yb rfl ?_|refine Zc rfl ?_|refine Qc rfl ?_|refine Za (an (row:=fS cs t) rfl) ?_|refine Za hN ?_|refine Za hC ?_|refine Za (ld aG rfl) ?_|refine Za (Zf ..) ?_|refine Za (Xf ..) ?_|refine Za rfl ?_
   exact m1
  rw[e3] at m1 ⊢;repeat first|refine Ya ?_|refine Xa ?_|refine Qa rfl ?_|refine Yb rfl ?_|refine Zc rfl ?_|refine Qc rfl ?_|refine Za (an (row:=fS cs t) rfl) ?_|refine Za hN ?_|refine Za hC ?_|refine Za (ld aG rfl) ?_|refine Za (Zf ..) ?_|refine Za (Xf ..) ?_|refine Za rfl ?_
  exact m1
theorem c188(cs:List Cd)(gC:cs.length≤gp)(t:Bool)(l:List Ef)(d:Int)(hf:bG l=true)(hd:0≤d):PC 110 [.ao (fS cs t) 0,ic l,iv d] (.bool (bT cs t d l)):=tH cs gC t _ l d (Nat.le_refl _) hf hd
end Go.Ah.Tz
end
section
namespace Go.Ah.Tz
open Go.Proofs.Tryz (prog)
def isLet(x:Int):Bool:=decide ((97≤x∧x≤122)∨(65≤x∧x≤90)∨(192≤x∧x≤591∧x≠215∧x≠247))
def fM(x:Int):Bool:=decide (48≤x∧x≤57)
def H_(x:Int):Int:=IntKind.i64.wrap (x*2 ^ (min 6 IntKind.i64.bits))
def sj(x:Int)(c:UInt8):Int:=bits .or .i64 (H_ x) (IntKind.i64.wrap (bits .and .u8 (c.toNat:Int) 63))
def p_(c:UInt8):Bool:=(bits .and .u8 (c.toNat:Int) 192 != 128)
def eM(s:Tx)(at_:Nat):Nat→Nat→Int→Option Int
 |0,_,x=>some x
 |m+1,i,x=>match s[at_+i]? with
  |none=>none
  |some c=>if p_ c then none else eM s at_ m (i+1) (sj x c)
def dZ(c:Int):Option (Nat×Int×Int):=
 if 192≤c∧c<224 then some (2,bits .and .i64 c 31,128) else if 224≤c∧c<240 then some (3,bits .and .i64 c 15,2048) else if 240≤c∧c<248 then some (4,bits .and .i64 c 7,65536) else if 128≤c then none else some (1,c,0)
def fY(n:Nat)(least:Int):Option Int→Int×Nat
 |none=>(0,0)
 |some y=>if y<least∨1114111<y∨(55296≤y∧y≤57343) then (0,0) else (y,n)
def dA(s:Tx)(at_:Nat):Int×Nat:=match s[at_]? with
 |none=>(0,0)
 |some c=>match dZ c.toNat with
  |none=>(0,0)
  |some (n,x,least)=>fY n least (eM s at_ (n-1) 1 x)
def xP(s:Tx)(at_ n:Nat):Prop:=(dA s at_).2=0∨(isLet (dA s at_).1=false∧(n=0∨(fM (dA s at_).1=false∧(dA s at_).1≠39)))
instance (s:Tx) (at_ n:Nat):Decidable (xP s at_ n):=inferInstanceAs (Decidable (_∨_))
def dH(s:Tx)(at_ n:Nat):Nat×Nat:=
 if _h:at_<s.length then (if hk:xP s at_ n then (at_,n) else dH s (at_+(dA s at_).2) (n+1)) else (at_,n)
termination_by s.length-at_
decreasing_by
 have:(dA s at_).2≠0:=λe=>hk (Or.inl e);omega
def jy:List Tx→Tx→Bool
 |[],_=>false
 |k::l,s=>k==s||jy l s
def i6:List Tx:=[[99,97,114,100],
 [117,110,105,116],
 [99,104,97,114,109],
 [102,111,114,109,97,116],
 [112,108,97,121,101,100],
 [100,101,97,100],
 [100,97,119,110],
 [97,117,114,97],
 [115,104,105,101,108,100],
 [104,97,114,109],
 [109,101,110,100],
 [100,114,97,119],
 [103,97,105,110],
 [100,114,111,112],
 [108,111,111,107],
 [115,104,111,119],
 [115,117,109,109,111,110],
 [105,102],
 [101,108,115,101],
 [109,101],
 [102,111,101],
 [116,97,114,103,101,116],
 [108,105,102,101],
 [104,97,110,100],
 [100,101,99,107],
 [117,110,105,116,115],
 [109,97,110,97],
 [99,111,115,116],
 [116,111,112],
 [112,111,119,101,114],
 [109,105,110],
 [109,97,120],
 [110,111,116],
 [97,110,100],
 [111,114],
 [104,111,108,100,115],
 [108,101,97,115,116],
 [109,111,115,116],
 [99,111,112,105,101,115],
 [98,97,110,110,101,100],
 [115,105,110,103,108,101]]
def dV(s:Tx):Bool:=decide (1≤(dH s 0 0).2)&&(decide ((dH s 0 0).2≤24)&&(decide ((dH s 0 0).1=s.length)&&(decide (s.length≤40) && !jy i6 s)))
attribute [local irreducible] ak.rd ak.pu ak.wr ak.dr ak.gr ak.gw ak.gl ak.gd ak.opt aH W
theorem ze{P:Program}{GL:aw}{c d:Bool}{K:aa→Prop}{r1:az}{f2:aa→az}{σ:List ab}{v1:aa}(h1:r1=.ok v1 [] [])(h2:f2 v1=.ok (.bool d) [] [])(hK:K (.bool (c&&d))) :
  (W P GL).gr (.bool c) true (λk=>(W P GL).rd r1 k) λt1=>(W P GL).gr (.bool c) true (λk=>(W P GL).rd (f2 t1) k) λt2=>(W P GL).rd (Ym [.bool c,t2,.bool false] σ) K:=by
 cases c with
 |true=>exact Ya (Za h1 (Ya (Za h2 (Za rfl hK))))
 |false=>exact Qa rfl (Qa rfl (Za rfl hK))
theorem c198(x:Int):PC 82 [iv x] (.bool (fM x)):=by
 refine Yc hP g82.ok rfl rfl ?_;rw[H1.e]; unfold g82; dsimp only;refine Za rfl ?_;rcases aT (decide (x ≥ 48)) with h|h
 rotate_left
 ·rw[h];repeat first|refine Qa rfl ?_|refine Yb rfl ?_|refine Zc rfl ?_|refine Qc rfl ?_|refine Za rfl ?_
  grind [fM]
 rw[h];repeat first|refine Ya ?_|refine Xa ?_|refine Za rfl ?_
 simp_all [fM]
theorem c197(x:Int):PC 80 [iv x] (.bool (isLet x)):=by
 refine Yc hP g80.ok rfl rfl ?_;rw[H1.e]; unfold g80; dsimp only;refine Za rfl ?_;apply oB (¬(97≤x∧x≤122))
 ·intro hR;rcases aT (decide (x ≥ 97)) with h|h
  ·rw[h];repeat first|refine Ya ?_|refine Xa ?_|refine Za rfl ?_
   have h:97≤x:=by simpa using h
   rcases aT (decide (x≤122)) with h2|h2
   ·rw[h2];repeat first|refine Ya ?_|refine Xa ?_|refine Qa rfl ?_|refine Yb rfl ?_|refine Zc rfl ?_|refine Qc rfl ?_|refine Za rfl ?_
    simp_all [isLet]
   rw[h2];have h2:¬x≤122:=by simpa using h2
   repeat first|refine Ya ?_|refine Xa ?_|refine Qa rfl ?_|refine Yb rfl ?_|refine Zc rfl ?_|refine Qc rfl ?_|refine Za rfl ?_
   exact hR (by omega)
  rw[h];have h:¬97≤x:=by simpa using h
  repeat first|refine Ya ?_|refine Xa ?_|refine Qa rfl ?_|refine Yb rfl ?_|refine Zc rfl ?_|refine Qc rfl ?_|refine Za rfl ?_
  exact hR (by omega)
 intro n1;apply oB (¬(65≤x∧x≤90))
 ·intro hR;rcases aT (decide (x ≥ 65)) with h|h
  ·rw[h];repeat first|refine Ya ?_|refine Xa ?_|refine Za rfl ?_
   have h:65≤x:=by simpa using h
   rcases aT (decide (x≤90)) with h2|h2
   ·rw[h2];repeat first|refine Ya ?_|refine Xa ?_|refine Qa rfl ?_|refine Yb rfl ?_|refine Zc rfl ?_|refine Qc rfl ?_|refine Za rfl ?_
    simp_all [isLet]
   rw[h2];have h2:¬x≤90:=by simpa using h2
   repeat first|refine Ya ?_|refine Xa ?_|refine Qa rfl ?_|refine Yb rfl ?_|refine Zc rfl ?_|refine Qc rfl ?_|refine Za rfl ?_
   exact hR (by omega)
  rw[h];have h:¬65≤x:=by simpa using h
  repeat first|refine Ya ?_|refine Xa ?_|refine Qa rfl ?_|refine Yb rfl ?_|refine Zc rfl ?_|refine Qc rfl ?_|refine Za rfl ?_
  exact hR (by omega)
 intro n2;rcases aT (decide (x ≥ 192)) with h1|h1
 rotate_left
 ·rw[h1];repeat first|refine Ya ?_|refine Xa ?_|refine Qa rfl ?_|refine Yb rfl ?_|refine Zc rfl ?_|refine Qc rfl ?_|refine Za rfl ?_
  exact congrArg aa.bool (by rw[Bool.eq_iff_iff]; simp at h1; simp[isLet]; omega)
 rw[h1];repeat first|refine Ya ?_|refine Xa ?_|refine Za rfl ?_
 rcases aT (decide (x≤591)) with h2|h2
 rotate_left
 ·rw[h2];repeat first|refine Ya ?_|refine Xa ?_|refine Qa rfl ?_|refine Yb rfl ?_|refine Zc rfl ?_|refine Qc rfl ?_|refine Za rfl ?_
  exact congrArg aa.bool (by rw[Bool.eq_iff_iff]; simp at h2; simp[isLet]; omega)
 rw[h2];repeat first|refine Ya ?_|refine Xa ?_|refine Za rfl ?_
 rcases aT (x != 215) with h3|h3
 rotate_left
 ·rw[h3];repeat first|refine Ya ?_|refine Xa ?_|refine Qa rfl ?_|refine Yb rfl ?_|refine Zc rfl ?_|refine Qc rfl ?_|refine Za rfl ?_
  simp_all [isLet]
 rw[h3];repeat first|refine Ya ?_|refine Xa ?_|refine Za rfl ?_
 exact congrArg aa.bool (by rw[Bool.eq_iff_iff]; simp at h1 h2 h3; simp[isLet]; omega)
theorem c196(s:Tx)(hs:s.length≤gp)(a:Nat)(ha:a<s.length):PC 79 [.str s,iv a] (.bn [iv (dA s a).1,iv (dA s a).2]):=by
 rw[cO] at hs;refine Yc hP g79.ok rfl rfl ?_;rw[H2.e]; unfold g79; dsimp only;refine Za (Ub _ s .i64 a ha) (Za (UC ..) ?_);have hc:s[a].toNat<256:=s[a].toNat_lt;rw[bc (n:=(s[a].toNat:Int)) (by omega) (by omega)];have hr:dA s a=match dZ s[a].toNat with
  |none=>(0,0)
  |some (n,x,least)=>fY n least (eM s a (n-1) 1 x):=by
  rw[dA,List.getElem?_eq_getElem ha]
 generalize s[a].toNat=c0 at hr hc ⊢;obtain⟨c,D7⟩:∃c:Int,c=(c0:Int):=⟨_,rfl⟩;rw[←D7] at hr ⊢;have j7:0≤c∧c<256:=by omega
 clear D7 hc;refine Za rfl ?_;refine ze rfl rfl ?_;refine Qh λkj fe=>?_;have zero:∀y:Option Int,y=none→∀n least,aa.bn [iv 0,iv 0]=aa.bn [iv (fY n least y).1,iv (fY n least y).2]:=by
  rintro _ rfl n least; rfl
 have kk:∀(n:Nat) (x least:Int),1≤n→n≤4→dZ c=some (n,x,least)→kj [iv n,iv x,iv least] []:=by
  intro n x least n1 n4 hh;rw[fe]; clear fe kj;rw[hh] at hr
  replace hr:dA s a=fY n least (eM s a (n-1) 1 x):=hr
  rw[hr];clear hr hh;refine Xj (ι:=Nat) (λi vs σ=>∃y,vs=[iv i,iv y]∧1≤i∧i≤n∧eM s a (n-1) 1 x=eM s a (n-i) i y) (λi=>n-i) 1 ⟨x,rfl,by omega,by omega,rfl⟩ ?_;rintro i vs σ again ⟨y,rfl,i1,i2,hu⟩ aZ;refine Za rfl ?_;refine Zb (λh=>?_) (λh=>?_)
  ·have h:i<n:=by simpa using h
   have uc:∀σ,Qn .add false [iv a,iv i] σ=.ok (iv ((a+i:Nat):Int)) [] []:=λσ=>by
    rw[Yj,bc (by omega) (by omega)]; rfl
   have o0:n-i=(n-(i+1))+1:=by omega
   rw[o0,eM] at hu;refine Za (uc _) (Za rfl (Za rfl ?_));rcases aT (decide (((a+i:Nat):Int) ≥ (s.length:Int))) with h1|h1
   ·rw[h1];repeat first|refine Ya ?_|refine Xa ?_|refine Qa rfl ?_|refine Yb rfl ?_|refine Zc rfl ?_|refine Qc rfl ?_|refine Za rfl ?_
    refine Xc ?_;have h1:s.length≤a+i:=by simp at h1; omega
    rw[List.getElem?_eq_none h1] at hu;exact zero _ hu _ _
   rw[h1];have h1:a+i<s.length:=by simp at h1; omega
   have dc:∀σ,QO [.str s,iv ((a+i:Nat):Int)] σ=.ok (.int .u8 s[a+i].toNat) [] []:=λσ=>Ub _ s .i64 (a+i) h1;rw[List.getElem?_eq_getElem h1] at hu;generalize s[a+i]=q at hu dc;repeat first|refine Ya ?_|refine Za (uc _) ?_|refine Za (dc _) ?_|refine Za rfl ?_
   refine Zb (λh2=>?_) (λh2=>?_)
   ·have h2:p_ q=true:=h2;simp only[h2,if_true] at hu;exact zero _ hu _ _
   ·have h2:p_ q=false:=h2;simp only[h2,Bool.false_eq_true,if_false] at hu;refine Za rfl (Za (uc _) (Za (dc _) (Za rfl (Za (UC ..) (Za rfl (Za (Yj ..) ?_))))));rw[Qd (n:=i) (by omega)];exact aZ (i+1) _ _ (by omega) ⟨_,rfl,by omega,by omega,hu⟩
  ·have h:i=n:=by simp at h; omega
   subst h;rw[Nat.sub_self,eM] at hu;rw[hu];clear hu aZ zero;refine Za rfl ?_;have bad:(y<least∨1114111<y∨(55296≤y∧y≤57343))→aa.bn [iv 0,iv 0]=aa.bn [iv (fY i least (some y)).1,iv (fY i least (some y)).2]:=by
    intro hb; rw[fY,if_pos hb]; rfl
   have sv:¬(y<least∨1114111<y∨(55296≤y∧y≤57343))→aa.bn [iv y,iv i]=aa.bn [iv (fY i least (some y)).1,iv (fY i least (some y)).2]:=by
    intro hb; rw[fY,if_neg hb]
   rcases aT (decide (y<least)) with h1|h1
   ·rw[h1];repeat first|refine Ya ?_|refine Xa ?_|refine Qa rfl ?_|refine Yb rfl ?_|refine Zc rfl ?_|refine Qc rfl ?_|refine Za rfl ?_
    exact Xc (bad (by simp at h1; omega))
   rw[h1];repeat first|refine Ya ?_|refine Xa ?_|refine Za rfl ?_
   rcases aT (decide (y>1114111)) with h2|h2
   ·rw[h2];repeat first|refine Ya ?_|refine Xa ?_|refine Qa rfl ?_|refine Yb rfl ?_|refine Zc rfl ?_|refine Qc rfl ?_|refine Za rfl ?_
    exact Xc (bad (by simp at h2; omega))
   rw[h2];repeat first|refine Ya ?_|refine Xa ?_|refine Za rfl ?_
   rcases aT (decide (y ≥ 55296)) with h3|h3
   ·rw[h3];repeat first|refine Ya ?_|refine Xa ?_|refine Za rfl ?_
    refine Zb (λh4=>bad ?_) (λh4=>sv ?_)
    ·simp at h3 h4; omega
    ·simp at h1 h2 h3 h4; omega
   rw[h3];repeat first|refine Ya ?_|refine Xa ?_|refine Qa rfl ?_|refine Yb rfl ?_|refine Zc rfl ?_|refine Qc rfl ?_|refine Za rfl ?_
   exact Yd (sv (by simp at h1 h2 h3; omega))
 clear fe;refine Zb (λh=>?_) (λn1=>?_)
 ·have h:192≤c∧c<224:=by simpa using h
  refine Za rfl (kk 2 _ _ (by omega) (by omega) ?_);rw[dZ,if_pos h]
 have n1:¬(192≤c∧c<224):=by simp at n1; omega
 refine Za rfl (ze rfl rfl ?_);refine Zb (λh=>?_) (λn2=>?_)
 ·have h:224≤c∧c<240:=by simpa using h
  refine Za rfl (kk 3 _ _ (by omega) (by omega) ?_);rw[dZ,if_neg n1,if_pos h]
 have n2:¬(224≤c∧c<240):=by simp at n2; omega
 refine Za rfl (ze rfl rfl ?_);refine Zb (λh=>?_) (λn3=>?_)
 ·have h:240≤c∧c<248:=by simpa using h
  refine Za rfl (kk 4 _ _ (by omega) (by omega) ?_);rw[dZ,if_neg n1,if_neg n2,if_pos h]
 have n3:¬(240≤c∧c<248):=by simp at n3; omega
 refine Za rfl ?_;refine Zb (λh=>?_) (λh=>?_)
 ·have h:128≤c:=by simpa using h
  have e:dZ c=none:=by rw[dZ,if_neg n1,if_neg n2,if_neg n3,if_pos h]
  rw[hr,e]; rfl
 ·have h:¬128≤c:=by simpa using h
  exact kk 1 _ _ (by omega) (by omega) (by rw[dZ,if_neg n1,if_neg n2,if_neg n3,if_neg h])
theorem Xdo{c:Int}{n:Nat}{x least:Int}(h:dZ c=some (n,x,least)):n≤4:=by
 grind [dZ]
theorem Vn(s:Tx)(a:Nat):(dA s a).2≤4:=by
 unfold dA;split
 ·simp
 ·split
  ·simp
  ·rename_i n x least h;have:=Xdo h;cases eM s a (n-1) 1 x<;>grind [fY]
theorem c193(s:Tx)(hs:s.length≤gp)(a0:Nat)(ha0:a0≤s.length):PC 81 [.str s,iv a0] (.bn [iv (dH s a0 0).1,iv (dH s a0 0).2]):=by
 have pJ:=hs;rw[cO] at pJ;refine Yc hP g81.ok rfl rfl ?_;rw[H2.e]; unfold g81; dsimp only;refine Qh λk0 KP=>?_;have kk:∀a n:Nat,dH s a0 0=(a,n)→k0 [iv a,iv n] []:=by
  intro a n e;rw[KP,e]; exact rfl
 clear KP;refine Xj (ι:=Nat) (λa vs σ=>∃n:Nat,vs=[iv a,iv n]∧σ=[]∧n≤a∧a≤s.length+4∧dH s a0 0=dH s a n) (λa=>s.length+10-a) a0 ⟨0,rfl,rfl,by omega,by omega,rfl⟩ ?_;rintro a vs σ again ⟨n,rfl,rfl,i1,i2,hu⟩ aZ;refine Za rfl (Za rfl ?_);refine Zb (λh=>?_) (λh=>?_);rotate_left
 ·have h:¬a<s.length:=by simpa using h
  exact kk a n (by rw[hu,dH,dif_neg h])
 have h:a<s.length:=by simpa using h
 refine Xb (c196 s hs a h) rfl g79.ok.plain rfl ?_;refine Za rfl (Za rfl ?_);have vM:xP s a n→k0 [iv a,iv n] []:=λfT=>kk a n (by rw[hu,dH,dif_pos h,dif_pos fT]);have cont:¬xP s a n→again [iv ((a+(dA s a).2:Nat):Int),iv ((n+1:Nat):Int)] []:=by
  intro fT;have h1:(dA s a).2≠0:=λe=>fT (Or.inl e);have h4:=Vn s a;exact aZ _ _ _ (by omega) ⟨n+1,rfl,rfl,by omega,by omega,by rw[hu,dH,dif_pos h,dif_neg fT]⟩
 have h4:=Vn s a;unfold xP at vM cont;clear aZ hu kk;generalize (dA s a).1=x at vM cont ⊢;generalize (dA s a).2=k at vM cont h4 ⊢;have go:¬(k=0∨(isLet x=false∧(n=0∨(fM x=false∧x≠39))))→VV.rd (Qn .add false [iv a,iv k] []) λBV=>VV.rd (Qn .add false [iv n,(.int .i64 1)] []) λB5=>again [BV,B5] []:=by
  intro fT;refine Za (Yj ..) (Za (Yj ..) ?_);rw[Qd (n:=n) (by omega),bc (n:=(a:Int)+(k:Int)) (by omega) (by omega)];exact cont fT
 refine Za rfl ?_;rcases aT ((k:Int)==0) with h1|h1
 ·rw[h1];repeat first|refine Ya ?_|refine Xa ?_|refine Qa rfl ?_|refine Yb rfl ?_|refine Zc rfl ?_|refine Qc rfl ?_|refine Za rfl ?_
  exact Xc (vM (Or.inl (by simpa using h1)))
 rw[h1];have h1:k≠0:=by simpa using h1
 repeat first|refine Ya ?_|refine Xa ?_|refine Za rfl ?_
 refine Xb (c197 _) rfl g80.ok.plain rfl ?_;repeat first|refine Ya ?_|refine Xa ?_|refine Za rfl ?_
 rcases aT (!isLet x) with h2|h2
 rotate_left
 ·rw[h2];repeat first|refine Ya ?_|refine Xa ?_|refine Qa rfl ?_|refine Yb rfl ?_|refine Zc rfl ?_|refine Qc rfl ?_|refine Za rfl ?_
  exact Yd (go (by have h2:isLet x=true:=(by simpa using h2); simp[h1,h2]))
 rw[h2];have h2:isLet x=false:=by simpa using h2
 repeat first|refine Ya ?_|refine Xa ?_|refine Za rfl ?_
 rcases aT ((n:Int)==0) with h3|h3
 ·rw[h3];repeat first|refine Ya ?_|refine Xa ?_|refine Qa rfl ?_|refine Yb rfl ?_|refine Zc rfl ?_|refine Qc rfl ?_|refine Za rfl ?_
  exact Xc (vM (Or.inr ⟨h2,Or.inl (by simpa using h3)⟩))
 rw[h3];have h3:n≠0:=by simpa using h3
 repeat first|refine Ya ?_|refine Xa ?_|refine Za rfl ?_
 refine Xb (c198 _) rfl g82.ok.plain rfl ?_;repeat first|refine Ya ?_|refine Xa ?_|refine Za rfl ?_
 rcases aT (!fM x) with h5|h5
 rotate_left
 ·rw[h5];repeat first|refine Ya ?_|refine Xa ?_|refine Qa rfl ?_|refine Yb rfl ?_|refine Zc rfl ?_|refine Qc rfl ?_|refine Za rfl ?_
  exact Yd (go (by have h5:fM x=true:=(by simpa using h5); simp[h1,h3,h5]))
 rw[h5];have h5:fM x=false:=by simpa using h5
 repeat first|refine Ya ?_|refine Xa ?_|refine Za rfl ?_
 refine Zb (λh6=>vM ?_) (λh6=>go ?_)
 ·exact Or.inr ⟨h2,Or.inr ⟨h5,by simpa using h6⟩⟩
 ·have h6:x=39:=by simpa using h6
  simp[h1,h3,h6]
theorem c229:∃e n,PC 149 [] (.ax e n 1 (i6.map sR)):=by
 have hw:∃v bs,g149.u VV [] [] (λv' σ=>v'=v∧σ=bs)∧∃e n,D5 bs v=some (.ax e n 1 (i6.map sR)):=by
  unfold g149; dsimp only[H0.u];apply Exists.intro;apply Exists.intro;apply And.intro
  ·refine Qb rfl rfl ?_;exact⟨rfl,rfl⟩
  ·exact⟨_,_,rfl⟩
 obtain⟨v,bs,h1,e,n,h2⟩:=hw;exact⟨e,n,MH hP g149.ok rfl ⟨v,bs,h2,h1⟩⟩
theorem vi(x:Tx):aL false 0 1 (sR x)=some (.str x):=rfl
theorem c194(s:Tx):PC 115 [.str s] (.bool (jy i6 s)):=by
 refine Yc hP g115.ok rfl rfl ?_;rw[H1.e]; unfold g115; dsimp only;obtain⟨e,n,hk⟩:=c229;refine Xb hk rfl g149.ok.plain rfl ?_;have hlen:i6.length=41:=rfl;generalize i6=l at hlen ⊢;refine Xj (ι:=Nat) (λi vs σ=>vs=[iv i]∧i≤l.length∧jy l s=jy (l.drop i) s) (λi=>l.length-i) 0 ⟨rfl,by omega,by simp⟩ ?_;rintro i vs σ again ⟨rfl,hi,hu⟩ aZ;refine Za rfl (Za rfl ?_);refine Zb (λh=>?_) (λh=>?_)
 ·have h:i<l.length:=by simpa using h
  have cX:l.drop i=l[i]::l.drop (i+1):=by rw[fA h]
  rw[cX,jy] at hu;refine Za (Zp _ sR _ _ _ l .i64 i h) (Za (an (vi _)) (Za (Xf ..) ?_));refine Zb (λh=>?_) (λh=>?_)
  ·rw[hu,h]; rfl
  ·rw[h,Bool.false_or] at hu;refine Za (Yj ..) ?_;rw[Qd (n:=i) (by omega)]
   grind
 ·have h:i=l.length:=by simp at h; omega
  subst h;rw[List.drop_length] at hu;rw[hu]; rfl
theorem c147(s:Tx)(hs:s.length≤gp):PC 74 [.str s] (.bool (dV s)):=by
 refine Yc hP g74.ok rfl rfl ?_;rw[H1.e]; unfold g74; dsimp only;have:=c193 s hs 0 (by omega);refine Xb this rfl g81.ok.plain rfl ?_;unfold dV;generalize (dH s 0 0).1=e;generalize (dH s 0 0).2=n;refine Za rfl (Za rfl (Za rfl ?_));rcases aT (decide ((n:Int) ≥ 1)) with h1|h1
 rotate_left
 ·rw[h1];repeat first|refine Qa rfl ?_|refine Yb rfl ?_|refine Zc rfl ?_|refine Qc rfl ?_|refine Za rfl ?_
  grind
 rw[h1];repeat first|refine Ya ?_|refine Xa ?_|refine Za rfl ?_
 rcases aT (decide ((n:Int)≤24)) with h2|h2
 rotate_left
 ·rw[h2];repeat first|refine Qa rfl ?_|refine Yb rfl ?_|refine Zc rfl ?_|refine Qc rfl ?_|refine Za rfl ?_
  grind
 rw[h2];repeat first|refine Ya ?_|refine Xa ?_|refine Za rfl ?_
 rcases aT ((e:Int)==(s.length:Int)) with h3|h3
 rotate_left
 ·rw[h3];repeat first|refine Qa rfl ?_|refine Yb rfl ?_|refine Zc rfl ?_|refine Qc rfl ?_|refine Za rfl ?_
  have h3:¬e=s.length:=by simp at h3; omega
  simp[h3]
 rw[h3];repeat first|refine Ya ?_|refine Xa ?_|refine Za rfl ?_
 rcases aT (decide ((s.length:Int)≤40)) with h4|h4
 rotate_left
 ·rw[h4];repeat first|refine Qa rfl ?_|refine Yb rfl ?_|refine Zc rfl ?_|refine Qc rfl ?_|refine Za rfl ?_
  grind
 rw[h4];repeat first|refine Ya ?_|refine Xa ?_|refine Za rfl ?_
 refine Xb (c194 _) rfl g115.ok.plain rfl ?_;repeat first|refine Ya ?_|refine Xa ?_|refine Za rfl ?_
 have h1:1≤n:=by simp at h1; omega
 have h2:n≤24:=by simp at h2; omega
 have h3:e=s.length:=by simp at h3; omega
 grind
end Go.Ah.Tz
end
section
namespace Go.Ah.Tz
open Go.Proofs.Tryz (prog)
def bz(n:Int):Bool:=decide (0≤n)&&decide (n≤999)
def ft(c:Cd):Bool:=if c.unit then decide (1≤c.bD) else decide (c.cJ+c.bD+c.cw+c.dG+c.eu≤0)&&decide (c.dead.length+c.dJ.length=0)
def nD(c:Cd):Int:=min (ee 0 c.ca+ee 0 c.dead+ee 0 c.dJ) 1073741824
def eR(cs:List Cd)(c:Cd):Bool:=
 dV c.name&&(bz c.cost&&(bz c.cJ&&(bz c.bD&&(bz c.cw&&(bz c.dG&&(bz c.eu&&(ft c&&(decide (nD c≤200)&&(bT cs true 1 c.ca&&(bT cs false 1 c.dead&&bT cs false 1 c.dJ))))))))))
def f_(c:Cd):Bool:=decide (c.name.length≤gp)&&(bG c.ca&&(bG c.dead&&bG c.dJ))
def QE(l:List Cd):Bool:=decide (l.length≤gp)&&l.all f_
def fw(cs:List Cd):List Cd→List Cd→Int×Int
 |_,[]=>(0,0)
 |pre,c::l=>if pre.any λd=>d.name==c.name then (101,c.pl) else if eR cs c then fw cs (pre++[c]) l else (130,c.pl)
def cW(cs:List Cd):Int×Int:=if 240<cs.length then (3,0) else fw cs [] cs
attribute [local irreducible] ak.rd ak.pu ak.wr ak.dr ak.gr ak.gw ak.gl ak.gd ak.opt aH W
set_option maxHeartbeats 1000000
theorem c145(cs:List Cd)(gC:cs.length≤gp)(c:Cd)(hf:f_ c=true):PC 72 [fm cs,.agg (b_ c)] (.bool (eR cs c)):=by
 simp only[f_,Bool.and_eq_true,decide_eq_true_eq] at hf;obtain⟨f0,f1,f2,f3⟩:=hf;refine Yc hP g72.ok rfl rfl ?_;rw[H2.e]; unfold g72; dsimp only;refine Qb rfl rfl ?_;generalize hB:([]++[ab.box (b_ c)]:List ab)=base;have aG:ah base 0=.box (b_ c):=by rw[←hB]; rfl
 refine Za rfl (Za (ld aG rfl) ?_);refine Xb (c147 _ f0) rfl g74.ok.plain rfl ?_;refine Za rfl ?_;rcases aT (!dV c.name) with a0|a0
 ·rw[a0];repeat first|refine Ya ?_|refine Xa ?_|refine Qa rfl ?_|refine Yb rfl ?_|refine Zc rfl ?_|refine Qc rfl ?_|refine Za (ld aG rfl) ?_|refine Za rfl ?_
  refine Xc ?_
  grind [eR]
 rw[a0];repeat first|refine Ya ?_|refine Xa ?_|refine Za (ld aG rfl) ?_|refine Za rfl ?_
 refine Xb (c187 _) rfl g109.ok.plain rfl ?_;repeat first|refine Ya ?_|refine Xa ?_|refine Za (ld aG rfl) ?_|refine Za rfl ?_
 rcases aT (!(decide (0≤c.cost)&&decide (c.cost≤999))) with a1|a1
 ·rw[a1];repeat first|refine Ya ?_|refine Xa ?_|refine Qa rfl ?_|refine Yb rfl ?_|refine Zc rfl ?_|refine Qc rfl ?_|refine Za (ld aG rfl) ?_|refine Za rfl ?_
  refine Xc ?_
  grind [bz,eR]
 rw[a1];repeat first|refine Ya ?_|refine Xa ?_|refine Za (ld aG rfl) ?_|refine Za rfl ?_
 refine Xb (c187 _) rfl g109.ok.plain rfl ?_;repeat first|refine Ya ?_|refine Xa ?_|refine Za (ld aG rfl) ?_|refine Za rfl ?_
 rcases aT (!(decide (0≤c.cJ)&&decide (c.cJ≤999))) with a2|a2
 ·rw[a2];repeat first|refine Ya ?_|refine Xa ?_|refine Qa rfl ?_|refine Yb rfl ?_|refine Zc rfl ?_|refine Qc rfl ?_|refine Za (ld aG rfl) ?_|refine Za rfl ?_
  refine Xc ?_
  grind [bz,eR]
 rw[a2];repeat first|refine Ya ?_|refine Xa ?_|refine Za (ld aG rfl) ?_|refine Za rfl ?_
 refine Xb (c187 _) rfl g109.ok.plain rfl ?_;repeat first|refine Ya ?_|refine Xa ?_|refine Za (ld aG rfl) ?_|refine Za rfl ?_
 rcases aT (!(decide (0≤c.bD)&&decide (c.bD≤999))) with a3|a3
 ·rw[a3];repeat first|refine Ya ?_|refine Xa ?_|refine Qa rfl ?_|refine Yb rfl ?_|refine Zc rfl ?_|refine Qc rfl ?_|refine Za (ld aG rfl) ?_|refine Za rfl ?_
  refine Xc ?_
  grind [bz,eR]
 rw[a3];repeat first|refine Ya ?_|refine Xa ?_|refine Za (ld aG rfl) ?_|refine Za rfl ?_
 refine Xb (c187 _) rfl g109.ok.plain rfl ?_;repeat first|refine Ya ?_|refine Xa ?_|refine Za (ld aG rfl) ?_|refine Za rfl ?_
 rcases aT (!(decide (0≤c.cw)&&decide (c.cw≤999))) with a4|a4
 ·rw[a4];repeat first|refine Ya ?_|refine Xa ?_|refine Qa rfl ?_|refine Yb rfl ?_|refine Zc rfl ?_|refine Qc rfl ?_|refine Za (ld aG rfl) ?_|refine Za rfl ?_
  refine Xc ?_
  grind [bz,eR]
 rw[a4];repeat first|refine Ya ?_|refine Xa ?_|refine Za (ld aG rfl) ?_|refine Za rfl ?_
 refine Xb (c187 _) rfl g109.ok.plain rfl ?_;repeat first|refine Ya ?_|refine Xa ?_|refine Za (ld aG rfl) ?_|refine Za rfl ?_
 rcases aT (!(decide (0≤c.dG)&&decide (c.dG≤999))) with a5|a5
 ·rw[a5];repeat first|refine Ya ?_|refine Xa ?_|refine Qa rfl ?_|refine Yb rfl ?_|refine Zc rfl ?_|refine Qc rfl ?_|refine Za (ld aG rfl) ?_|refine Za rfl ?_
  refine Xc ?_
  grind [bz,eR]
 rw[a5];repeat first|refine Ya ?_|refine Xa ?_|refine Za (ld aG rfl) ?_|refine Za rfl ?_
 refine Xb (c187 _) rfl g109.ok.plain rfl ?_;repeat first|refine Ya ?_|refine Xa ?_|refine Za (ld aG rfl) ?_|refine Za rfl ?_
 refine Zb (λa6=>?_) (λa6=>?_)
 ·grind [bz,eR]
 have a1:bz c.cost=true:=by simpa[bz] using a1
 have a2:bz c.cJ=true:=by simpa[bz] using a2
 have a3:bz c.bD=true:=by simpa[bz] using a3
 have a4:bz c.cw=true:=by simpa[bz] using a4
 have a5:bz c.dG=true:=by simpa[bz] using a5
 have a6:bz c.eu=true:=by simpa[bz] using a6
 have a0:dV c.name=true:=by simpa using a0
 have b1:=a1; have b2:=a2; have b3:=a3; have b4:=a4; have b5:=a5; have b6:=a6;simp only[bz,Bool.and_eq_true,decide_eq_true_eq] at b1 b2 b3 b4 b5 b6;simp only[eR,a0,a1,a2,a3,a4,a5,a6,Bool.true_and];clear a0 a1 a2 a3 a4 a5 a6;repeat first|refine Ya ?_|refine Xa ?_|refine Za (ld aG rfl) ?_|refine Za rfl ?_
 apply oB (ft c=true)
 ·intro hR;cases hu:c.unit with
  |true=>
   try rw[hu]
   repeat first|refine Ya ?_|refine Xa ?_|refine Za (ld aG rfl) ?_|refine Za rfl ?_
   rcases aT (decide (c.bD<1)) with h|h
   ·rw[h];repeat first|refine Ya ?_|refine Xa ?_|refine Qa rfl ?_|refine Yb rfl ?_|refine Zc rfl ?_|refine Qc rfl ?_|refine Za (ld aG rfl) ?_|refine Za rfl ?_
    refine Xc ?_
    grind [ft]
   ·rw[h];repeat first|refine Ya ?_|refine Xa ?_|refine Qa rfl ?_|refine Yb rfl ?_|refine Zc rfl ?_|refine Qc rfl ?_|refine Za (ld aG rfl) ?_|refine Za rfl ?_
    try rw[hu]
    repeat first|refine Ya ?_|refine Xa ?_|refine Qa rfl ?_|refine Yb rfl ?_|refine Zc rfl ?_|refine Qc rfl ?_|refine Za (ld aG rfl) ?_|refine Za rfl ?_
    refine Yd (hR ?_)
    grind [ft]
  |false=>
   try rw[hu]
   repeat first|refine Ya ?_|refine Xa ?_|refine Qa rfl ?_|refine Yb rfl ?_|refine Zc rfl ?_|refine Qc rfl ?_|refine Za (ld aG rfl) ?_|refine Za rfl ?_
   try rw[hu]
   repeat first|refine Ya ?_|refine Xa ?_|refine Qa rfl ?_|refine Yb rfl ?_|refine Zc rfl ?_|refine Qc rfl ?_|refine Za (ld aG rfl) ?_|refine Za rfl ?_
   rw[bc (n:=c.cJ+c.bD) (by omega) (by omega),bc (n:=c.cJ+c.bD+c.cw) (by omega) (by omega),bc (n:=c.cJ+c.bD+c.cw+c.dG) (by omega) (by omega),bc (n:=c.cJ+c.bD+c.cw+c.dG+c.eu) (by omega) (by omega)];rcases aT (decide (c.cJ+c.bD+c.cw+c.dG+c.eu>0)) with h|h
   ·rw[h];repeat first|refine Ya ?_|refine Xa ?_|refine Qa rfl ?_|refine Yb rfl ?_|refine Zc rfl ?_|refine Qc rfl ?_|refine Za (ld aG rfl) ?_|refine Za rfl ?_
    refine Xc ?_
    grind [ft]
   rw[h];repeat first|refine Ya ?_|refine Xa ?_|refine Za (ld aG rfl) ?_|refine Za rfl ?_
   have h:(c.cJ+c.bD+c.cw+c.dG+c.eu≤0):=by simp at h; omega
   have l1:=YH f2;have l2:=YH f3;rw[cO] at l1 l2;rw[List.length_map,List.length_map,bc (n:=(c.dead.length:Int)+(c.dJ.length:Int)) (by omega) (by omega)];refine Zb (λh2=>?_) (λh2=>hR ?_)
   ·have h2:¬(c.dead.length+c.dJ.length=0):=by simp at h2; omega
    have:ft c=false:=by rw[ft,hu,decide_eq_false h2]; simp
    simp[this]
   ·have h2:(c.dead.length+c.dJ.length=0):=by simp at h2; omega
    rw[ft,hu,decide_eq_true h2,decide_eq_true h]; rfl
 intro b7;rw[b7,Bool.true_and];refine Za (ld aG rfl) ?_;refine Xb (c110 c f1 f2 f3) rfl g30.ok.plain rfl ?_;refine Za rfl ?_;refine Zb (λh=>?_) (λh=>?_)
 ·grind [nD]
 have h:nD c≤200:=by simp at h; unfold nD; omega
 simp only[h,decide_true,Bool.true_and];subst hB;refine Za rfl (Qb rfl rfl (Za rfl (Qb rfl rfl ?_)));refine Za rfl (Za rfl ?_);refine ZG (c188 cs gC true c.ca 1 f1 (by omega)) rfl g110.ok.plain rfl rfl ?_;rcases aT (bT cs true 1 c.ca) with p1|p1
 rotate_left
 ·rw[p1];repeat first|refine Ya ?_|refine Xa ?_|refine Qa rfl ?_|refine Yb rfl ?_|refine Zc rfl ?_|refine Qc rfl ?_|refine Za (ld aG rfl) ?_|refine Za rfl ?_
  simp[p1]
 rw[p1];repeat first|refine Ya ?_|refine Xa ?_|refine Za rfl ?_
 refine ZG (c188 cs gC false c.dead 1 f2 (by omega)) rfl g110.ok.plain rfl rfl ?_;repeat first|refine Ya ?_|refine Xa ?_|refine Za rfl ?_
 rcases aT (bT cs false 1 c.dead) with p2|p2
 rotate_left
 ·rw[p2];repeat first|refine Ya ?_|refine Xa ?_|refine Qa rfl ?_|refine Yb rfl ?_|refine Zc rfl ?_|refine Qc rfl ?_|refine Za rfl ?_
  simp[p1,p2]
 rw[p2];repeat first|refine Ya ?_|refine Xa ?_|refine Za rfl ?_
 refine ZG (c188 cs gC false c.dJ 1 f3 (by omega)) rfl g110.ok.plain rfl rfl ?_;repeat first|refine Ya ?_|refine Xa ?_|refine Za rfl ?_
 simp[p1,p2]
theorem ov(x:Cd):aL true 0 12 (b_ x)=some (.agg (b_ x)):=rfl
theorem Ko(x:Cd):aL false 11 1 (b_ x)=some (iv x.pl):=rfl
theorem c113(cs:List Cd)(hf:QE cs=true):PC 44 [fm cs] (.agg [iv (cW cs).1,iv (cW cs).2]):=by
 simp only[QE,Bool.and_eq_true,decide_eq_true_eq] at hf;obtain⟨f0,f1⟩:=hf;have f02:=f0;rw[cO] at f02;refine Yc hP g44.ok rfl rfl ?_;rw[H1.e]; unfold g44; dsimp only;refine Qb rfl rfl (Za rfl (Za rfl ?_));refine Zb (λh=>?_) (λh=>?_)
 ·have h:240<cs.length:=by simp at h; omega
  refine Za rfl (Qb rfl rfl (Qi rfl ?_));rw[cW,if_pos h]
 have h:¬240<cs.length:=by simp at h; omega
 rw[cW,if_neg h];refine Xj (ι:=Nat) (λi vs σ=>vs=[iv i]∧σ=[.box [iv 0,iv 0]]∧i≤cs.length∧fw cs [] cs=fw cs (cs.take i) (cs.drop i)) (λi=>cs.length-i) 0 ⟨rfl,rfl,by omega,by simp⟩ ?_;rintro i vs σ again ⟨rfl,rfl,hi,hu⟩ aZ;refine Za rfl (Za rfl ?_);refine Zb (λh=>?_) (λh=>?_);rotate_left
 ·have h:i=cs.length:=by simp at h; omega
  subst h;rw[List.drop_length,fw] at hu;refine Za rfl (Qb rfl rfl (Qi rfl ?_));rw[hu]
 have hi:i<cs.length:=by simpa using h
 have cX:cs.drop i=cs[i]::cs.drop (i+1):=by rw[fA hi]
 have dc:=λ(s:List ab)=>Zp s b_ false false 12 cs .i64 i hi;have vB:=List.all_eq_true.1 f1 _ (List.getElem_mem hi);have jb:cs.take (i+1)=cs.take i++[cs[i]]:=Yv cs i hi;generalize cs[i]=c at cX dc vB jb;rw[cX,fw] at hu;refine Xj (ι:=Nat) (λj vs σ=>vs=[iv j]∧σ=[.box [iv 0,iv 0]]∧j≤i∧(cs.take i).any (λd=>d.name==c.name)=((cs.take i).drop j).any (λd=>d.name==c.name)) (λj=>i-j) 0 ⟨rfl,rfl,by omega,by simp⟩ ?_;rintro j vs σ kZ ⟨rfl,rfl,hj,hv⟩ jJ;refine Za rfl ?_;refine Zb (λh=>?_) (λh=>?_)
 ·have h:j<i:=by simpa using h
  have OX:j<(cs.take i).length:=by rw[List.length_take]; omega
  have pC:(cs.take i).drop j=(cs.take i)[j]::(cs.take i).drop (j+1):=by rw[fA OX]
  rw[List.getElem_take] at pC;rw[pC,List.any_cons] at hv;refine Za (Zp _ b_ false false 12 cs .i64 j (by omega)) (Za rfl (Za (an (mA _)) (Za (dc _) (Za rfl (Za (an (mA _)) (Za (Xf ..) ?_))))));refine Zb (λh=>?_) (λh=>?_)
  ·rw[h,Bool.true_or] at hv;rw[hv,if_pos rfl] at hu;refine Za (dc _) (Za rfl (Za (an (Ko _)) (Za rfl (Qb rfl rfl (Qi rfl ?_)))));rw[hu]
  ·rw[h,Bool.false_or] at hv;refine Za (Yj ..) ?_;rw[Qd (n:=j) (by omega)]
   grind
 have h:j=i:=by simp at h; omega
 subst h;rw[List.drop_eq_nil_of_le (by rw[List.length_take]; omega),List.any_nil] at hv;rw[hv] at hu
 replace hu:fw cs [] cs=if eR cs c then fw cs (cs.take j++[c]) (cs.drop (j+1)) else (130,c.pl):=hu
 rw[←jb] at hu;refine Za (dc _) (Za (an (ov _)) ?_);refine Xb (c145 cs f0 c vB) rfl g72.ok.plain rfl ?_;refine Za rfl ?_;refine Zb (λh=>?_) (λh=>?_)
 ·have h:eR cs c=false:=by simpa using h
  rw[h] at hu
  replace hu:fw cs [] cs=(130,c.pl):=hu
  refine Za (dc _) (Za rfl (Za (an (Ko _)) (Za rfl (Qb rfl rfl (Qi rfl ?_)))));rw[hu]
 ·have h:eR cs c=true:=by simpa using h
  rw[h,if_pos rfl] at hu;refine Za (Yj ..) ?_;rw[Qd (n:=j) (by omega)]
  grind
end Go.Ah.Tz
end
section
namespace Go.Ah.Tz
open Go.Proofs.Tryz (prog)
def kW(a:Int):Int:=if a<0∨3<a then 3 else a
def cu(a b:Int):Int:=if kW a=kW b∨kW b=0 then kW a else if kW a=0 then kW b else 3
def DU(a b:Int):Bool:=decide (cu a b=cu b b)
mutual
def rh:Nm→Int
 |.mk op _ _ kids=>if 8≤op∧op≤12 then gX (if op=6 then 3 else 0) kids else if op=6 then 3 else 0
def gX:Int→List Nm→Int
 |n,[]=>n
 |n,x::l=>gX (cu n (rh x)) l
end
theorem TD(x:Nm):rh x=if 8≤x.op∧x.op≤12 then gX (if x.op=6 then 3 else 0) x.kids else if x.op=6 then 3 else 0:=by cases x; rfl
mutual
def nT:Cn→Int
 |.mk op who _ ay kids=>if op=6 then (if who=0 then 1 else if who=1 then 2 else 3) else mC (gX 0 ay) kids
def mC:Int→List Cn→Int
 |n,[]=>n
 |n,x::l=>mC (cu n (nT x)) l
end
theorem UB(x:Cn):nT x=if x.op=6 then (if x.who=0 then 1 else if x.who=1 then 2 else 3) else mC (gX 0 x.ay) x.kids:=by cases x; rfl
mutual
def py (u:Int):Ef→Bool
 |.mk op _ n _ c bM bQ=>if op=5 then DU (cu u (rh n)) 1 else if op=8 then cP (cu u (nT c)) bM&&cP (cu u (nT c)) bQ else if op=0∨op=1∨op=2∨op=3 then decide (cu u (rh n)=0) else decide (cu u u=0)
def cP (u:Int):List Ef→Bool
 |[]=>true
 |x::l=>py u x&&cP u l
end
theorem Fh(u:Int)(x:Ef):py u x=if x.op=5 then DU (cu u (rh x.n)) 1 else if x.op=8 then cP (cu u (nT x.c)) x.bM&&cP (cu u (nT x.c)) x.bQ else if x.op=0∨x.op=1∨x.op=2∨x.op=3 then decide (cu u (rh x.n)=0) else decide (cu u u=0):=by cases x; rfl
attribute [local irreducible] ak.rd ak.pu ak.wr ak.dr ak.gr ak.gw ak.gl ak.gd ak.opt aH W
set_option maxHeartbeats 1000000
theorem XK{P:Program}{GL:aw}{c d:Bool}{K:aa→Prop}{r1:az}{f2:aa→az}{σ:List ab}{v1:aa}(h1:r1=.ok v1 [] [])(h2:f2 v1=.ok (.bool d) [] [])(hK:K (.bool (c||d))) :
  (W P GL).gr (.bool c) false (λk=>(W P GL).rd r1 k) λt1=>(W P GL).gr (.bool c) false (λk=>(W P GL).rd (f2 t1) k) λt2=>(W P GL).rd (Ym [.bool c,.bool true,t2] σ) K:=by
 cases c with
 |false=>exact Ya (Za h1 (Ya (Za h2 (Za rfl hK))))
 |true=>exact Qa rfl (Qa rfl (Za rfl hK))
theorem DT{P:Program}{GL:aw}{c d:Bool}{K:aa→Prop}{r1:az}{f2 f3:aa→az}{σ:List ab}{v1 v2:aa}{q1 q2 q3:List Nat}(h1:r1=.ok v1 q1 [])(h2:f2 v1=.ok v2 q2 [])(h3:f3 v2=.ok (.bool d) q3 [])(hK:K (.bool (c&&d))) :
  (W P GL).gr (.bool c) true (λk=>(W P GL).rd r1 k) λt1=>(W P GL).gr (.bool c) true (λk=>(W P GL).rd (f2 t1) k) λt2=>(W P GL).gr (.bool c) true (λk=>(W P GL).rd (f3 t2) k) λt3=>(W P GL).rd (Ym [.bool c,t3,.bool false] σ) K:=by
 cases c with
 |true=>exact Ya (Za h1 (Ya (Za h2 (Ya (Za h3 (Za rfl hK))))))
 |false=>exact Qa rfl (Qa rfl (Qa rfl (Za rfl hK)))
theorem c190(a b:Int):PC 112 [ar a,ar b] (ar (cu a b)):=by
 refine Yc hP g112.ok rfl rfl ?_;rw[H2.e]; unfold g112; dsimp only;refine Za rfl (XK rfl rfl ?_);refine Qh λk1 fo=>?_;have kk:k1 [ar (kW a)] []:=by
  rw[fo]; clear fo k1;refine Za rfl (XK rfl rfl ?_);refine Qh λk1 fo=>?_;have kk:k1 [ar (kW b)] []:=by
   rw[fo]; clear fo k1;unfold cu;generalize kW a=a;generalize kW b=b;refine Za (Zf ..) ?_;have hp:∀K:aa→Prop,K (.bool (decide (a=b)||decide (b=0)))→VV.gr (.bool (decide (a=b))) false (λk=>VV.rd (Q9 [ar b] []) k) λt22=>VV.gr (.bool (decide (a=b))) false (λk=>VV.rd (Qn .eql false [t22,(.int .i8 0)] []) k) λt23=>VV.rd (Ym [.bool (decide (a=b)),(.bool true),t23] []) K:=λK hK=>XK rfl (Zf ..) hK;refine hp _ ?_;refine Zb (λh=>?_) (λh=>?_)
   ·rw[if_pos (by simpa using h)]; rfl
   have h:¬(a=b∨b=0):=by simpa using h
   rw[if_neg h];refine Za (Zf ..) ?_;refine Zb (λh=>?_) (λh=>?_)
   ·rw[if_pos (by simpa using h)]; rfl
   ·rw[if_neg (by simpa using h)]
  refine Zb (λh=>?_) (λh=>?_)
  ·rw[kW,if_pos (by simpa using h)] at kk; exact kk
  ·rw[kW,if_neg (by simpa using h)] at kk; exact kk
 refine Zb (λh=>?_) (λh=>?_)
 ·rw[kW,if_pos (by simpa using h)] at kk; exact kk
 ·rw[kW,if_neg (by simpa using h)] at kk; exact kk
theorem c189(a b:Int):PC 111 [ar a,ar b] (.bool (DU a b)):=by
 refine Yc hP g111.ok rfl rfl ?_;rw[H2.e]; unfold g111; dsimp only;refine Xb (c190 a b) rfl g112.ok.plain rfl ?_;refine Xb (c190 b b) rfl g112.ok.plain rfl ?_;refine Za (Zf ..) ?_;rfl
theorem xY:∀(k:Nat) (x:Nm),SizeOf.sizeOf x≤k→cQ x=true→PC 113 [.agg (ba x)] (ar (rh x))
 |0,x,h,_=>by cases x; simp at h
 |k+1,x,hk,hf=>by
  rw[XI];refine Yc hP g113.ok rfl rfl ?_;rw[H1.e]; unfold g113; dsimp only;refine Qb rfl rfl ?_;rw[TD];have hlen:=EW hf;rw[cO] at hlen;generalize hB:([]++[ab.box [ar x.op,iv x.n,ar x.who,.ax false false 4 (x.kids.map ba)]]:List ab)=base;have aG:ah base 0=.box [ar x.op,iv x.n,ar x.who,.ax false false 4 (x.kids.map ba)]:=by rw[←hB]; rfl
  clear hB;refine Za rfl (Za (ld aG rfl) (Za (Zf ..) ?_));refine Qh λk1 fo=>?_;have kk:k1 [ar (if x.op=6 then 3 else 0)] base:=by
   rw[fo]; clear fo k1;generalize (if x.op=6 then (3:Int) else 0)=n0;refine Za rfl (Za (ld aG rfl) (Za rfl ?_));refine DT rfl (ld aG rfl) rfl ?_;rw[show (decide (x.op ≥ 8)&&decide (x.op≤12))=decide (8≤x.op∧x.op≤12) by simp];refine Zb (λh=>?_) (λh=>?_);rotate_left
   ·rw[if_neg (by simpa using h)]; rfl
   rw[if_pos (by simpa using h)];refine Xj (ι:=Nat) (λi vs σ=>∃n,vs=[iv i,ar n]∧σ=base∧i≤x.kids.length∧gX n0 x.kids=gX n (x.kids.drop i)) (λi=>x.kids.length-i) 0 ⟨n0,rfl,rfl,by omega,by simp⟩ ?_;rintro i vs σ again ⟨n,rfl,rfl,hi,hu⟩ aZ;repeat first|refine Za (ld aG rfl) ?_|refine Za rfl ?_
   refine Zb (λh=>?_) (λh=>?_)
   ·have h:i<x.kids.length:=by simpa using h
    have cX:x.kids.drop i=x.kids[i]::x.kids.drop (i+1):=by rw[fA h]
    rw[cX,gX] at hu;have hm:x.kids[i]∈x.kids:=List.getElem_mem h;refine Za rfl (Za (ld aG rfl) (Za (Zp _ ba _ _ _ x.kids _ i h) (Za (an (pX _)) ?_)));refine Xb (xY k _ (by have:=xN hm; omega) (XW hf hm)) rfl g113.ok.plain (kP _) ?_;refine Xb (c190 _ _) rfl g112.ok.plain rfl ?_;refine Za (Yj ..) ?_;rw[Qd (n:=i) (by omega)];exact aZ (i+1) _ _ (by omega) ⟨_,rfl,rfl,by omega,hu⟩
   ·have h:i=x.kids.length:=by simp at h; omega
    subst h;rw[List.drop_length,gX] at hu;rw[hu]; rfl
  refine Zb (λh=>?_) (λh=>?_)
  ·have e:x.op=6:=by simpa using h
   rw[if_pos e] at kk; exact kk
  ·have e:x.op≠6:=by simpa using h
   rw[if_neg e] at kk; exact kk
theorem c191(x:Nm)(hf:cQ x=true):PC 113 [.agg (ba x)] (ar (rh x)):=xY _ x (Nat.le_refl _) hf
theorem xZ:∀(k:Nat) (x:Cn),SizeOf.sizeOf x≤k→cz x=true→PC 114 [.agg (cG x)] (ar (nT x))
 |0,x,h,_=>by cases x; simp at h
 |k+1,x,hk,hf=>by
  rw[YQ];refine Yc hP g114.ok rfl rfl ?_;rw[H1.e]; unfold g114; dsimp only;refine Qb rfl rfl ?_;rw[UB];have fj:=Q0 hf;have eX:=X0 hf;rw[cO] at fj eX;generalize hB:([]++[ab.box [ar x.op,ar x.who,.str x.name,.ax false false 4 (x.ay.map ba),.ax false false 5 (x.kids.map cG)]]:List ab)=base;have aG:ah base 0=.box [ar x.op,ar x.who,.str x.name,.ax false false 4 (x.ay.map ba),.ax false false 5 (x.kids.map cG)]:=by rw[←hB]; rfl
  clear hB;refine Za rfl (Za (ld aG rfl) (Za (Zf ..) ?_));refine Zb (λh=>?_) (λh=>?_)
  ·rw[if_pos (by simpa using h)];refine Za rfl (Za (ld aG rfl) (Za (Zf ..) ?_));refine Zb (λh=>?_) (λh=>?_)
   ·rw[if_pos (by simpa using h)]
   rw[if_neg (by simpa using h)];refine Za (Zf ..) ?_;refine Zb (λh=>?_) (λh=>?_)
   ·rw[if_pos (by simpa using h)]
   ·rw[if_neg (by simpa using h)]
  rw[if_neg (by simpa using h)];refine Xj (ι:=Nat) (λi vs σ=>∃n,vs=[iv i,ar n]∧σ=base∧i≤x.ay.length∧gX 0 x.ay=gX n (x.ay.drop i)) (λi=>x.ay.length-i) 0 ⟨0,rfl,rfl,by omega,by simp⟩ ?_;rintro i vs σ again ⟨n,rfl,rfl,hi,hu⟩ aZ;repeat first|refine Za (ld aG rfl) ?_|refine Za rfl ?_
  refine Zb (λh=>?_) (λh=>?_)
  ·have h:i<x.ay.length:=by simpa using h
   have cX:x.ay.drop i=x.ay[i]::x.ay.drop (i+1):=by rw[fA h]
   rw[cX,gX] at hu;have hm:x.ay[i]∈x.ay:=List.getElem_mem h;refine Za rfl (Za (ld aG rfl) (Za (Zp _ ba _ _ _ x.ay _ i h) (Za (an (pX _)) ?_)));refine Xb (c191 _ (X3 hf hm)) rfl g113.ok.plain (kP _) ?_;refine Xb (c190 _ _) rfl g112.ok.plain rfl ?_;refine Za (Yj ..) ?_;rw[Qd (n:=i) (by omega)];exact aZ (i+1) _ _ (by omega) ⟨_,rfl,rfl,by omega,hu⟩
  have h:i=x.ay.length:=by simp at h; omega
  subst h;rw[List.drop_length,gX] at hu;rw[hu];clear aZ hu hi;refine Xj (ι:=Nat) (λi vs s=>∃m,vs=[iv i,ar m]∧s=σ∧i≤x.kids.length∧mC n x.kids=mC m (x.kids.drop i)) (λi=>x.kids.length-i) 0 ⟨n,rfl,rfl,by omega,by simp⟩ ?_;rintro i vs s again ⟨m,rfl,rfl,hi,hu⟩ aZ;repeat first|refine Za (ld aG rfl) ?_|refine Za rfl ?_
  refine Zb (λh=>?_) (λh=>?_)
  ·have h:i<x.kids.length:=by simpa using h
   have cX:x.kids.drop i=x.kids[i]::x.kids.drop (i+1):=by rw[fA h]
   rw[cX,mC] at hu;have hm:x.kids[i]∈x.kids:=List.getElem_mem h;refine Za rfl (Za (ld aG rfl) (Za (Zp _ cG _ _ _ x.kids _ i h) (Za (an (wy _)) ?_)));refine Xb (xZ k _ (by have:=zl hm; omega) (Y3 hf hm)) rfl g114.ok.plain (po _) ?_;refine Xb (c190 _ _) rfl g112.ok.plain rfl ?_;refine Za (Yj ..) ?_;rw[Qd (n:=i) (by omega)];exact aZ (i+1) _ _ (by omega) ⟨_,rfl,rfl,by omega,hu⟩
  ·have h:i=x.kids.length:=by simp at h; omega
   subst h;rw[List.drop_length,mC] at hu;rw[hu]; rfl
theorem c192(x:Cn)(hf:cz x=true):PC 114 [.agg (cG x)] (ar (nT x)):=xZ _ x (Nat.le_refl _) hf
end Go.Ah.Tz
end
section
namespace Go.Ah.Tz
open Go.Proofs.Tryz (prog)
def rN(c:Cd):Bool:=cP 0 c.ca&&(cP 0 c.dead&&cP 0 c.dJ)
def iw:List Cd→Int×Int
 |[]=>(0,0)
 |c::l=>if rN c then iw l else (140,c.pl)
attribute [local irreducible] ak.rd ak.pu ak.wr ak.dr ak.gr ak.gw ak.gl ak.gd ak.opt aH W
set_option maxHeartbeats 1000000
theorem Zr{σ:List ab}{b j n:Nat}{row:List aa}{v:aa}(hb:b<σ.length)(hv:aL true j n row=some v):ga true n (.ai b j) (σ.set b (.box row))=some v:=by
 have:ah (σ.set b (.box row)) b=.box row:=Xt (by simp[hb]);simp only[ga,this,hv]
theorem tE:∀(k:Nat) (l:List Ef) (u:Int),SizeOf.sizeOf l≤k→bG l=true→PC 73 [ar u,ic l] (.bool (cP u l))
 |0,l,_,h,_=>by cases l<;>simp at h
 |k+1,l,u,hk,hf=>by
  refine Yc hP g73.ok rfl rfl ?_;rw[H2.e]; unfold g73; dsimp only;have hlen:=YH hf;rw[cO] at hlen;refine Xj (ι:=Nat) (λi vs σ=>vs=[iv i]∧i≤l.length∧cP u l=cP u (l.drop i)) (λi=>l.length-i) 0 ⟨rfl,by omega,by simp⟩ ?_;rintro i vs σ again ⟨rfl,hi,hu⟩ aZ;refine Za rfl (Za rfl ?_);refine Zb (λh=>?_) (λh=>?_);rotate_left
  ·have h:i=l.length:=by simp at h; omega
   subst h;rw[List.drop_length,cP] at hu;rw[hu]
  have h:i<l.length:=by simpa using h
  have cX:l.drop i=l[i]::l.drop (i+1):=by rw[fA h]
  rw[cX,cP] at hu;have hm:l[i]∈l:=List.getElem_mem h;have dU:=List.sizeOf_lt_of_mem hm;have iT:=ZS hf hm;have ix:=λ(s:List ab)=>Zp s aM false false 14 l .i64 i h;generalize l[i]=x at hu dU iT ix;refine Qh λkj fe=>?_;have kk:py u x=true→∀s,kj [] s:=by
   intro he s;rw[fe];refine Za (Yj ..) ?_;rw[Qd (n:=i) (by omega)];exact aZ (i+1) _ _ (by omega) ⟨rfl,by omega,by rw[hu,he,Bool.true_and]⟩
  have bad:py u x=false→aa.bool false=aa.bool (cP u l):=by
   intro he; rw[hu,he]; rfl
  clear fe aZ;refine Za (ix _) (Za (an (lk x)) ?_);refine Xq (row:=[ar x.op,ar x.who,ar x.n.op,iv x.n.n,ar x.n.who,.ax false false 4 (x.n.kids.map ba),.str x.name,ar x.c.op,ar x.c.who,.str x.c.name,.ax false false 4 (x.c.ay.map ba),.ax false false 5 (x.c.kids.map cG),.ax false false 14 (x.bM.map aM),.ax false false 14 (x.bQ.map aM)]) (row':=[ar x.op,ar x.who,ar x.n.op,iv x.n.n,ar x.n.who,.ax false false 4 (x.n.kids.map ba),.str x.name,ar x.c.op,ar x.c.who,.str x.c.name,.ax false false 4 (x.c.ay.map ba),.ax false false 5 (x.c.kids.map cG),.ax false false 14 (x.bM.map aM),.ax false false 14 (x.bQ.map aM)]) (by rw[XC]; rfl) rfl rfl ?_;have aG:=Yf σ (ab.box [ar x.op,ar x.who,ar x.n.op,iv x.n.n,ar x.n.who,.ax false false 4 (x.n.kids.map ba),.str x.name,ar x.c.op,ar x.c.who,.str x.c.name,.ax false false 4 (x.c.ay.map ba),.ax false false 5 (x.c.kids.map cG),.ax false false 14 (x.bM.map aM),.ax false false 14 (x.bQ.map aM)]);generalize σ++[ab.box [ar x.op,ar x.who,ar x.n.op,iv x.n.n,ar x.n.who,.ax false false 4 (x.n.kids.map ba),.str x.name,ar x.c.op,ar x.c.who,.str x.c.name,.ax false false 4 (x.c.ay.map ba),.ax false false 5 (x.c.kids.map cG),.ax false false 14 (x.bM.map aM),.ax false false 14 (x.bQ.map aM)]]=base at aG ⊢;generalize σ.length=b at aG ⊢;have hN:Xh true 4 [.ai b 2] base=.ok (.agg (ba x.n)) [b] []:=ld aG (by rw[XI]; rfl);have hC:Xh true 5 [.ai b 7] base=.ok (.agg (cG x.c)) [b] []:=ld aG (by rw[YQ]; rfl);rw[Fh] at kk bad;repeat first|refine Za hN ?_|refine Za hC ?_|refine Za (ld aG rfl) ?_|refine Za (Zf ..) ?_|refine Za rfl ?_
  refine Zb (λa1=>?_) (λa1=>?_)
  ·have a1:x.op=5:=by simpa using a1
   rw[if_pos a1] at kk bad;repeat first|refine Za hN ?_|refine Za hC ?_|refine Za (ld aG rfl) ?_|refine Za (Zf ..) ?_|refine Za rfl ?_
   refine Xb (c191 _ (vR iT)) rfl g113.ok.plain (kP _) ?_;refine Xb (c190 _ _) rfl g112.ok.plain rfl ?_;refine Xb (c189 _ _) rfl g111.ok.plain rfl ?_;refine Za rfl ?_;exact Zb (λh=>bad (by simpa using h)) (λh=>kk (by simpa using h) _)
  have a1:x.op≠5:=by simpa using a1
  rw[if_neg a1] at kk bad;repeat first|refine Za hN ?_|refine Za hC ?_|refine Za (ld aG rfl) ?_|refine Za (Zf ..) ?_|refine Za rfl ?_
  refine Zb (λa2=>?_) (λa2=>?_)
  ·have a2:x.op=8:=by simpa using a2
   rw[if_pos a2] at kk bad;have pJ:=DJ x;repeat first|refine Za hN ?_|refine Za hC ?_|refine Za (ld aG rfl) ?_|refine Za (Zf ..) ?_|refine Za rfl ?_
   refine Xb (c192 _ (Y9 iT)) rfl g114.ok.plain (po _) ?_;refine Xb (c190 _ _) rfl g112.ok.plain rfl ?_;repeat first|refine Za hN ?_|refine Za hC ?_|refine Za (ld aG rfl) ?_|refine Za (Zf ..) ?_|refine Za rfl ?_
   refine Xb (tE k x.bM _ (by omega) (XR iT)) rfl g73.ok.plain rfl ?_;repeat first|refine Za hN ?_|refine Za hC ?_|refine Za (ld aG rfl) ?_|refine Za (Zf ..) ?_|refine Za rfl ?_
   rcases aT (!cP (cu u (nT x.c)) x.bM) with a3|a3
   ·rw[a3];repeat first|refine Ya ?_|refine Xa ?_|refine Qa rfl ?_|refine Yb rfl ?_|refine Zc rfl ?_|refine Qc rfl ?_|refine Za (ld aG rfl) ?_|refine Za rfl ?_
    refine Xc (bad ?_);have a3:cP (cu u (nT x.c)) x.bM=false:=by simpa using a3
    simp[a3]
   rw[a3];repeat first|refine Ya ?_|refine Xa ?_|refine Za (ld aG rfl) ?_|refine Za rfl ?_
   have a3:cP (cu u (nT x.c)) x.bM=true:=by simpa using a3
   refine Xb (tE k x.bQ _ (by omega) (YR iT)) rfl g73.ok.plain rfl ?_;repeat first|refine Ya ?_|refine Xa ?_|refine Za (ld aG rfl) ?_|refine Za rfl ?_
   refine Zb (λh=>bad ?_) (λh=>kk ?_ _)
   ·have h:cP (cu u (nT x.c)) x.bQ=false:=by simpa using h
    simp[h]
   ·have h:cP (cu u (nT x.c)) x.bQ=true:=by simpa using h
    simp[a3,h]
  have a2:x.op≠8:=by simpa using a2
  rw[if_neg a2] at kk bad;repeat first|refine Za hN ?_|refine Za hC ?_|refine Za (ld aG rfl) ?_|refine Za (Zf ..) ?_|refine Za rfl ?_
  refine Qh λk1 fo=>?_;have m1:∀c:Bool,c=decide (x.op=0∨x.op=1∨x.op=2∨x.op=3)→k1 [.bool c] base:=by
   rintro c hc;rw[fo];refine Zb (λh=>?_) (λh=>?_)
   ·rw[h] at hc;rw[if_pos (by simpa using hc.symm)] at kk bad;repeat first|refine Za hN ?_|refine Za hC ?_|refine Za (ld aG rfl) ?_|refine Za (Zf ..) ?_|refine Za rfl ?_
    refine Xb (c191 _ (vR iT)) rfl g113.ok.plain (kP _) ?_;refine Xb (c190 _ _) rfl g112.ok.plain rfl ?_;refine Za rfl ?_;exact Zb (λh=>bad (by simpa using h)) (λh=>kk (by simpa using h) _)
   ·rw[h] at hc;rw[if_neg (by simpa using hc.symm)] at kk bad;refine Xb (c190 _ _) rfl g112.ok.plain rfl ?_;refine Za rfl ?_;exact Zb (λh=>bad (by simpa using h)) (λh=>kk (by simpa using h) _)
  clear fo;refine Zb (λh=>m1 _ ?_) (λh=>?_)
  ·simp at h; simp[h]
  refine Za (Zf ..) (Zb (λh2=>m1 _ ?_) (λh2=>?_))
  ·simp at h2; simp[h2]
  refine Za (Zf ..) (Zb (λh3=>m1 _ ?_) (λh3=>?_))
  ·simp at h3; simp[h3]
  refine Za (Zf ..) (m1 _ ?_);simp at h h2 h3; simp[h,h2,h3]
theorem c146(l:List Ef)(u:Int)(hf:bG l=true):PC 73 [ar u,ic l] (.bool (cP u l)):=tE _ l u (Nat.le_refl _) hf
theorem c114(cs:List Cd)(hf:QE cs=true):PC 45 [fm cs] (.agg [iv (iw cs).1,iv (iw cs).2]):=by
 simp only[QE,Bool.and_eq_true,decide_eq_true_eq] at hf;obtain⟨f0,f1⟩:=hf;rw[cO] at f0;refine Yc hP g45.ok rfl rfl ?_;rw[H1.e]; unfold g45; dsimp only;refine Qb rfl rfl ?_;refine Xj (ι:=Nat) (λi vs σ=>vs=[iv i]∧ah σ 0=.box [iv 0,iv 0]∧0<σ.length∧i≤cs.length∧iw cs=iw (cs.drop i)) (λi=>cs.length-i) 0 ⟨rfl,rfl,by simp,by omega,by simp⟩ ?_;rintro i vs σ again ⟨rfl,hz,nM,hi,hu⟩ aZ;refine Za rfl (Za rfl ?_);refine Zb (λh=>?_) (λh=>?_);rotate_left
 ·have h:i=cs.length:=by simp at h; omega
  subst h;rw[List.drop_length,iw] at hu;refine Za rfl (Qb (cM hz rfl rfl rfl) (Xg _ nM) (Qi (Zr nM rfl) ?_));rw[hu]
 have hi:i<cs.length:=by simpa using h
 have cX:cs.drop i=cs[i]::cs.drop (i+1):=by rw[fA hi]
 have dc:=λ(s:List ab)=>Zp s b_ false false 12 cs .i64 i hi;have vB:=List.all_eq_true.1 f1 _ (List.getElem_mem hi);generalize cs[i]=c at cX dc vB;rw[cX,iw] at hu;simp only[f_,Bool.and_eq_true,decide_eq_true_eq] at vB;obtain⟨g0,g1,g2,g9993⟩:=vB;refine Za (dc _) (Za (an (ov _)) (Xq (row:=b_ c) (row':=b_ c) rfl rfl rfl ?_));have aG:=Yf σ (ab.box (b_ c));have q_:ah (σ++[ab.box (b_ c)]) 0=.box [iv 0,iv 0]:=Xd _ hz (by simp);have oM:0<(σ++[ab.box (b_ c)]).length:=by simp
 generalize σ++[ab.box (b_ c)]=base at aG q_ oM ⊢;generalize σ.length=b at aG ⊢;clear hz nM;repeat first|refine Za (ld aG rfl) ?_|refine Za rfl ?_
 refine Xb (c146 _ 0 g1) rfl g73.ok.plain rfl ?_;repeat first|refine Za (ld aG rfl) ?_|refine Za rfl ?_
 have bad:rN c=false→VV.rd (Ze 11 [.ai b 0] base) λvc=>True:=λ_=>Za rfl trivial;clear bad;apply oB (rN c=false)
 ·intro hR;have sv:rN c=true→VV.rd (Qn .add false [iv i,(.int .i64 1)] base) λry=>again [ry] base:=by
   intro hc;rw[hc,if_pos rfl] at hu;refine Za (Yj ..) ?_;rw[Qd (n:=i) (by omega)];exact aZ (i+1) _ _ (by omega) ⟨rfl,q_,oM,by omega,hu⟩
  rcases aT (!cP 0 c.ca) with a1|a1
  ·rw[a1];repeat first|refine Ya ?_|refine Xa ?_|refine Qa rfl ?_|refine Yb rfl ?_|refine Zc rfl ?_|refine Qc rfl ?_|refine Za (ld aG rfl) ?_|refine Za rfl ?_
   refine Xc (hR ?_);have a1:cP 0 c.ca=false:=by simpa using a1
   simp[rN,a1]
  rw[a1];repeat first|refine Ya ?_|refine Xa ?_|refine Za (ld aG rfl) ?_|refine Za rfl ?_
  have a1:cP 0 c.ca=true:=by simpa using a1
  refine Xb (c146 _ 0 g2) rfl g73.ok.plain rfl ?_;repeat first|refine Ya ?_|refine Xa ?_|refine Za (ld aG rfl) ?_|refine Za rfl ?_
  rcases aT (!cP 0 c.dead) with a2|a2
  ·rw[a2];repeat first|refine Ya ?_|refine Xa ?_|refine Qa rfl ?_|refine Yb rfl ?_|refine Zc rfl ?_|refine Qc rfl ?_|refine Za (ld aG rfl) ?_|refine Za rfl ?_
   refine Xc (hR ?_);have a2:cP 0 c.dead=false:=by simpa using a2
   simp[rN,a2]
  rw[a2];repeat first|refine Ya ?_|refine Xa ?_|refine Za (ld aG rfl) ?_|refine Za rfl ?_
  have a2:cP 0 c.dead=true:=by simpa using a2
  refine Xb (c146 _ 0 g9993) rfl g73.ok.plain rfl ?_;repeat first|refine Ya ?_|refine Xa ?_|refine Za (ld aG rfl) ?_|refine Za rfl ?_
  refine Zb (λa3=>hR ?_) (λa3=>sv ?_)
  ·have a3:cP 0 c.dJ=false:=by simpa using a3
   simp[rN,a3]
  ·have a3:cP 0 c.dJ=true:=by simpa using a3
   simp[rN,a1,a2,a3]
 intro hc;rw[hc] at hu
 replace hu:iw cs=(140,c.pl):=hu
 refine Za rfl (Za (ld aG rfl) (Za rfl (Qb (cM q_ rfl rfl rfl) (Xg _ oM) (Qi (Zr oM rfl) ?_))));rw[hu]
end Go.Ah.Tz
end
section
namespace Go.Ah.Tz
open Go.Proofs.Tryz (prog)
def fE:Nat→List Cd→Tx→Nat×Bool
 |_,[],_=>(0,false)
 |i,c::l,t=>if c.name==t then (i,true) else fE (i+1) l t
def gg(cs:List Cd):List Tx→List Tx→Bool
 |_,[]=>true
 |pre,t::l=>((fE 0 cs t).2&&pre.all λp=>!(p==t))&&gg cs (pre++[t]) l
def kH(b:Bk)(pre:List Fo)(f:Fo):Bool:=
 !(pre.any λg=>g.name==f.name)&&(decide (pre.length<240)&&(dV f.name&&(decide (0≤f.least)&&(decide (f.least≤f.most)&&(decide (f.most≤60)&&(decide (0≤f.iR)&&(decide (f.iR≤999)&&(gg b.af [] f.iQ&&gg b.af [] f.single))))))))
def fy(b:Bk):List Fo→List Fo→Int×Int
 |_,[]=>(0,0)
 |pre,f::l=>if kH b pre f then fy b (pre++[f]) l else (151,f.pl)
def cE(b:Bk):Int×Int:=if (cW b.af).1≠0 then cW b.af else if (iw b.af).1≠0 then iw b.af else fy b [] b.av
def mL(f:Fo):Bool:=decide (f.name.length≤gp)&&(decide (f.iQ.length≤gp)&&decide (f.single.length≤gp))
def aS(b:Bk):Bool:=QE b.af&&(decide (b.av.length≤gp)&&b.av.all mL)
attribute [local irreducible] ak.rd ak.pu ak.wr ak.dr ak.gr ak.gw ak.gl ak.gd ak.opt aH W
set_option maxHeartbeats 1000000
theorem c195(b:Bk)(hc:b.af.length≤gp)(t:Tx):PC 116 [dg b,.str t] (.bn [iv (fE 0 b.af t).1,.bool (fE 0 b.af t).2]):=by
 rw[cO] at hc;refine Yc hP g116.ok rfl rfl ?_;rw[H2.e]; unfold g116; dsimp only;refine Qb rfl rfl ?_;generalize hB:([]++[ab.box [fm b.af,kT b.av]]:List ab)=base;have aG:ah base 0=.box [fm b.af,kT b.av]:=by rw[←hB]; rfl
 clear hB;generalize b.af=cs at hc aG ⊢;refine Xj (ι:=Nat) (λi vs σ=>vs=[iv i]∧σ=base∧i≤cs.length∧fE 0 cs t=fE i (cs.drop i) t) (λi=>cs.length-i) 0 ⟨rfl,rfl,by omega,by simp⟩ ?_;rintro i vs σ again ⟨rfl,rfl,hi,hu⟩ aZ;repeat first|refine Za (ld aG rfl) ?_|refine Za rfl ?_
 refine Zb (λh=>?_) (λh=>?_)
 ·have h:i<cs.length:=by simpa using h
  have cX:cs.drop i=cs[i]::cs.drop (i+1):=by rw[fA h]
  rw[cX,fE] at hu;refine Za rfl (Za (ld aG rfl) (Za (Zp _ b_ false false 12 cs .i64 i h) (Za rfl (Za (an (mA _)) (Za (Xf ..) ?_)))));refine Zb (λh=>?_) (λh=>?_)
  ·rw[if_pos h] at hu;rw[hu]; rfl
  ·rw[if_neg (by simpa using h)] at hu;refine Za (Yj ..) ?_;rw[Qd (n:=i) (by omega)]
   grind
 grind [fE]
theorem c148(b:Bk)(hc:b.af.length≤gp)(l:List Tx)(hl:l.length≤gp):PC 75 [dg b,El l] (.bool (gg b.af [] l)):=by
 rw[cO] at hl;refine Yc hP g75.ok rfl rfl ?_;rw[H2.e]; unfold g75; dsimp only;refine Qb rfl rfl ?_;refine Xj (ι:=Nat) (λi vs σ=>vs=[iv i]∧σ=[]++[ab.box [fm b.af,kT b.av]]∧i≤l.length∧gg b.af [] l=gg b.af (l.take i) (l.drop i)) (λi=>l.length-i) 0 ⟨rfl,rfl,by omega,by simp⟩ ?_;rintro i vs σ again ⟨rfl,rfl,hi,hu⟩ aZ;refine Za rfl (Za rfl ?_);refine Zb (λh=>?_) (λh=>?_);rotate_left
 ·grind [gg]
 have h:i<l.length:=by simpa using h
 have cX:l.drop i=l[i]::l.drop (i+1):=by rw[fA h]
 have dc:=λ(s:List ab)=>Zp s sR false false 1 l .i64 i h;have jb:l.take (i+1)=l.take i++[l[i]]:=Yv l i h;generalize l[i]=t at cX dc jb;rw[cX,gg,←jb] at hu;refine Yg rfl rfl (Yg (dc _) rfl (Yg (an (vi _)) rfl ?_));refine Yh (c195 b hc t) rfl g116.ok.plain rfl ?_;refine Qe rfl (Qe rfl (Xr (by kernel_rfl) ?_));refine Xj (ι:=Nat) (λk vs σ=>∃ok,vs=[iv k,.bool ok]∧σ=[]++[ab.box [fm b.af,kT b.av]]∧k≤i∧((fE 0 b.af t).2&&(l.take i).all λp=>!(p==t))=(ok&&((l.take i).drop k).all λp=>!(p==t))) (λk=>i-k) 0 ⟨_,rfl,rfl,by omega,by simp⟩ ?_;rintro k vs σ kZ ⟨ok,rfl,rfl,hk,hv⟩ jJ;refine Za rfl ?_;refine Zb (λh2=>?_) (λh2=>?_)
 ·have h2:k<i:=by simpa using h2
  have hkx:k<(l.take i).length:=by rw[List.length_take]; omega
  have pC:(l.take i).drop k=(l.take i)[k]::(l.take i).drop (k+1):=by rw[fA hkx]
  rw[List.getElem_take] at pC;rw[pC,List.all_cons,←Bool.and_assoc] at hv;cases ok with
  |true=>
   have OW:=λ(s:List ab)=>Zp s sR false false 1 l .i64 k (by omega);repeat first|refine Ya ?_|refine Za (OW _) ?_|refine Za (dc _) ?_|refine Za (an (vi _)) ?_|refine Za rfl ?_
   rw[Qd (n:=k) (by omega)];exact jJ (k+1) _ _ (by omega) ⟨_,rfl,rfl,by omega,by rw[hv,Bool.true_and]⟩
  |false=>
   repeat first|refine Qa rfl ?_|refine Zc rfl ?_
   refine Za rfl (Za (Yj ..) ?_);rw[Qd (n:=k) (by omega)];exact jJ (k+1) _ _ (by omega) ⟨_,rfl,rfl,by omega,by rw[hv]; simp⟩
 have h2:k=i:=by simp at h2; omega
 subst h2;rw[List.drop_eq_nil_of_le (by rw[List.length_take]; omega),List.all_nil,Bool.and_true] at hv;rw[hv] at hu;refine Za rfl ?_;refine Zb (λh3=>?_) (λh3=>?_)
 ·simp_all
 ·have h3:ok=true:=by simpa using h3
  subst h3;rw[Bool.true_and] at hu;refine Za (Yj ..) ?_;rw[Qd (n:=k) (by omega)]
  grind
theorem Ga(x:Fo):aL true 0 7 (mK x)=some (.agg (mK x)):=rfl
theorem Gb(x:Fo):aL false 0 1 (mK x)=some (.str x.name):=rfl
theorem Gc(x:Fo):aL false 6 1 (mK x)=some (iv x.pl):=rfl
theorem c115(b:Bk)(hc:b.af.length≤gp)(sY:b.av.length≤gp)(k:Nat)(hk:k<b.av.length)(hf:mL b.av[k]=true):PC 46 [dg b,iv k] (.bool (kH b (b.av.take k) b.av[k])):=by
 rw[cO] at sY;refine Yc hP g46.ok rfl rfl ?_;rw[H2.e]; unfold g46; dsimp only;refine Qb rfl rfl ?_;have dc:=λ(s:List ab)=>Zp s mK false false 7 b.av .i64 k hk;generalize b.av[k]=f at hf dc ⊢;simp only[mL,Bool.and_eq_true,decide_eq_true_eq] at hf;obtain⟨f0,f1,f2⟩:=hf;refine Za rfl (Za rfl (Za (dc _) (Za (an (Ga f)) (Xq (row:=mK f) (row':=mK f) rfl rfl rfl ?_))));generalize hB:([]++[ab.box [fm b.af,kT b.av]]++[ab.box (mK f)]:List ab)=base;have aG:ah base 0=.box [fm b.af,kT b.av]:=by rw[←hB]; rfl
 have bw:ah base 1=.box (mK f):=by rw[←hB]; rfl
 clear hB;have htl:(b.av.take k).length=k:=by rw[List.length_take]; omega
 refine Xj (ι:=Nat) (λj vs σ=>vs=[iv j]∧σ=base∧j≤k∧((b.av.take k).any λg=>g.name==f.name)=(((b.av.take k).drop j).any λg=>g.name==f.name)) (λj=>k-j) 0 ⟨rfl,rfl,by omega,by simp⟩ ?_;rintro j vs σ again ⟨rfl,rfl,hj,hv⟩ aZ;refine Za rfl ?_;refine Zb (λh=>?_) (λh=>?_)
 ·have h:j<k:=by simpa using h
  have OX:j<(b.av.take k).length:=by omega
  have pC:(b.av.take k).drop j=(b.av.take k)[j]::(b.av.take k).drop (j+1):=by rw[fA OX]
  rw[List.getElem_take] at pC;rw[pC,List.any_cons] at hv;refine Za rfl (Za (ld aG rfl) (Za (Zp _ mK false false 7 b.av .i64 j (by omega)) (Za rfl (Za (an (Gb _)) (Za rfl (Za (ld bw rfl) (Za (Xf ..) ?_)))))));refine Zb (λh=>?_) (λh=>?_)
  ·grind [kH]
  ·rw[h,Bool.false_or] at hv;refine Za (Yj ..) ?_;rw[Qd (n:=j) (by omega)]
   grind
 have h:j=k:=by simp at h; omega
 subst h;rw[List.drop_eq_nil_of_le (by omega),List.any_nil] at hv;unfold kH;rw[hv,htl,Bool.not_false,Bool.true_and];clear hv aZ dc;refine Za rfl ?_;rcases aT (decide ((j:Int) ≥ 240)) with a1|a1
 ·rw[a1];repeat first|refine Ya ?_|refine Xa ?_|refine Qa rfl ?_|refine Yb rfl ?_|refine Zc rfl ?_|refine Qc rfl ?_|refine Za (ld aG rfl) ?_|refine Za (ld bw rfl) ?_|refine Za rfl ?_
  refine Xc ?_
  grind
 rw[a1];repeat first|refine Ya ?_|refine Xa ?_|refine Za (ld aG rfl) ?_|refine Za (ld bw rfl) ?_|refine Za rfl ?_
 have a1:j<240:=by simp at a1; omega
 refine Xb (c147 _ f0) rfl g74.ok.plain rfl ?_;repeat first|refine Ya ?_|refine Xa ?_|refine Za (ld aG rfl) ?_|refine Za (ld bw rfl) ?_|refine Za rfl ?_
 refine Zb (λa2=>?_) (λa2=>?_)
 ·simp_all
 have a2:dV f.name=true:=by simpa using a2
 rw[decide_eq_true a1,a2,Bool.true_and,Bool.true_and];clear a1 a2;repeat first|refine Ya ?_|refine Xa ?_|refine Za (ld aG rfl) ?_|refine Za (ld bw rfl) ?_|refine Za rfl ?_
 rcases aT (decide (f.least ≥ 0)) with b1|b1
 rotate_left
 ·rw[b1];repeat first|refine Ya ?_|refine Xa ?_|refine Qa rfl ?_|refine Yb rfl ?_|refine Zc rfl ?_|refine Qc rfl ?_|refine Za (ld aG rfl) ?_|refine Za (ld bw rfl) ?_|refine Za rfl ?_
  rfl
 rw[b1];repeat first|refine Ya ?_|refine Xa ?_|refine Za (ld aG rfl) ?_|refine Za (ld bw rfl) ?_|refine Za rfl ?_
 have b1:0≤f.least:=by simpa using b1
 rcases aT (decide (f.least≤f.most)) with b2|b2
 rotate_left
 ·rw[b2];repeat first|refine Ya ?_|refine Xa ?_|refine Qa rfl ?_|refine Yb rfl ?_|refine Zc rfl ?_|refine Qc rfl ?_|refine Za (ld aG rfl) ?_|refine Za (ld bw rfl) ?_|refine Za rfl ?_
  rfl
 rw[b2];repeat first|refine Ya ?_|refine Xa ?_|refine Za (ld aG rfl) ?_|refine Za (ld bw rfl) ?_|refine Za rfl ?_
 have b2:f.least≤f.most:=by simpa using b2
 rcases aT (decide (f.most≤60)) with b3|b3
 rotate_left
 ·rw[b3];repeat first|refine Ya ?_|refine Xa ?_|refine Qa rfl ?_|refine Yb rfl ?_|refine Zc rfl ?_|refine Qc rfl ?_|refine Za (ld aG rfl) ?_|refine Za (ld bw rfl) ?_|refine Za rfl ?_
  rfl
 rw[b3];repeat first|refine Ya ?_|refine Xa ?_|refine Za (ld aG rfl) ?_|refine Za (ld bw rfl) ?_|refine Za rfl ?_
 have b3:f.most≤60:=by simpa using b3
 rcases aT (decide (f.iR ≥ 0)) with b4|b4
 rotate_left
 ·rw[b4];repeat first|refine Ya ?_|refine Xa ?_|refine Qa rfl ?_|refine Yb rfl ?_|refine Zc rfl ?_|refine Qc rfl ?_|refine Za (ld aG rfl) ?_|refine Za (ld bw rfl) ?_|refine Za rfl ?_
  rfl
 rw[b4];repeat first|refine Ya ?_|refine Xa ?_|refine Za (ld aG rfl) ?_|refine Za (ld bw rfl) ?_|refine Za rfl ?_
 have b4:0≤f.iR:=by simpa using b4
 rcases aT (decide (f.iR≤999)) with b5|b5
 rotate_left
 ·rw[b5];repeat first|refine Ya ?_|refine Xa ?_|refine Qa rfl ?_|refine Yb rfl ?_|refine Zc rfl ?_|refine Qc rfl ?_|refine Za (ld aG rfl) ?_|refine Za (ld bw rfl) ?_|refine Za rfl ?_
  rfl
 rw[b5];repeat first|refine Ya ?_|refine Xa ?_|refine Za (ld aG rfl) ?_|refine Za (ld bw rfl) ?_|refine Za rfl ?_
 have b5:f.iR≤999:=by simpa using b5
 simp only[b1,b2,b3,b4,b5,decide_true,Bool.true_and];refine Xb (c148 b hc _ f1) rfl g75.ok.plain rfl ?_;repeat first|refine Ya ?_|refine Xa ?_|refine Za (ld aG rfl) ?_|refine Za (ld bw rfl) ?_|refine Za rfl ?_
 rcases aT (gg b.af [] f.iQ) with c1|c1
 rotate_left
 ·rw[c1];repeat first|refine Ya ?_|refine Xa ?_|refine Qa rfl ?_|refine Yb rfl ?_|refine Zc rfl ?_|refine Qc rfl ?_|refine Za (ld aG rfl) ?_|refine Za (ld bw rfl) ?_|refine Za rfl ?_
  simp[c1]
 rw[c1];repeat first|refine Ya ?_|refine Xa ?_|refine Za (ld aG rfl) ?_|refine Za (ld bw rfl) ?_|refine Za rfl ?_
 refine Xb (c148 b hc _ f2) rfl g75.ok.plain rfl ?_;repeat first|refine Ya ?_|refine Xa ?_|refine Za (ld aG rfl) ?_|refine Za (ld bw rfl) ?_|refine Za rfl ?_
 simp[c1]
theorem c67(b:Bk)(hf:aS b=true):PC 24 [dg b] (.agg [iv (cE b).1,iv (cE b).2]):=by
 simp only[aS,Bool.and_eq_true,decide_eq_true_eq] at hf;obtain⟨f0,f1,f2⟩:=hf;have f12:=f1;rw[cO] at f12;have fc:b.af.length≤gp:=by simp_all [QE]
 refine Yc hP g24.ok rfl rfl ?_;rw[H1.e]; unfold g24; dsimp only;refine Qb rfl rfl (Qb rfl rfl (Za rfl (Za rfl ?_)));refine Xb (c113 _ f0) rfl g44.ok.plain rfl ?_;refine Xq rfl rfl rfl (Za rfl (Za rfl (Za rfl ?_)));unfold cE;refine Zb (λh=>?_) (λh=>?_)
 ·rw[if_pos (by simpa using h)];refine Za rfl (Qb rfl rfl (Qi rfl rfl))
 rw[if_neg (by simpa using h)];refine Za rfl (Za rfl ?_);refine Xb (c114 _ f0) rfl g45.ok.plain rfl ?_;refine Xq rfl rfl rfl (Za rfl (Za rfl (Za rfl ?_)));refine Zb (λh=>?_) (λh=>?_)
 ·rw[if_pos (by simpa using h)];refine Za rfl (Qb rfl rfl (Qi rfl rfl))
 rw[if_neg (by simpa using h)];generalize cW b.af=p1;generalize iw b.af=p2;refine Xj (ι:=Nat) (λi vs σ=>vs=[iv i]∧σ=[]++[ab.box [fm b.af,kT b.av]]++[.box [iv 0,iv 0]]++[.box [iv p1.1,iv p1.2]]++[.box [iv p2.1,iv p2.2]]∧i≤b.av.length∧fy b [] b.av=fy b (b.av.take i) (b.av.drop i)) (λi=>b.av.length-i) 0 ⟨rfl,rfl,by omega,by simp⟩ ?_;rintro i vs σ again ⟨rfl,rfl,hi,hu⟩ aZ;refine Za rfl (Za rfl (Za rfl (Za rfl ?_)));refine Zb (λh=>?_) (λh=>?_);rotate_left
 ·have h:i=b.av.length:=by simp at h; omega
  subst h;rw[List.drop_length,fy] at hu;refine Za rfl (Qb rfl rfl (Qi rfl ?_));rw[hu]
 have h:i<b.av.length:=by simpa using h
 have cX:b.av.drop i=b.av[i]::b.av.drop (i+1):=by rw[fA h]
 have dc:=λ(s:List ab)=>Zp s mK false false 7 b.av .i64 i h;have jb:b.av.take (i+1)=b.av.take i++[b.av[i]]:=Yv b.av i h;have G3:=c115 b fc f1 i h (List.all_eq_true.1 f2 _ (List.getElem_mem h));generalize b.av[i]=f at cX dc jb G3;rw[cX,fy,←jb] at hu;refine Za rfl ?_;refine Xb G3 rfl g46.ok.plain rfl ?_;refine Za rfl ?_;refine Zb (λh3=>?_) (λh3=>?_)
 ·rw[if_neg (by simpa using h3)] at hu;refine Za rfl (Za rfl (Za (dc _) (Za rfl (Za (an (Gc _)) (Za rfl (Qb rfl rfl (Qi rfl ?_)))))));rw[hu]
 ·rw[if_pos (by simpa using h3)] at hu;refine Za (Yj ..) ?_;rw[Qd (n:=i) (by omega)]
  grind
end Go.Ah.Tz
end
section
namespace Go.Ah.Tz
open Go.Proofs.Tryz (prog)
structure lV (row:List aa) (j:Nat) (x:Nm):Prop where
 h0:aL false (j+0) 1 row=some (ar x.op)
 h1:aL false (j+1) 1 row=some (iv x.n)
 h2:aL false (j+2) 1 row=some (ar x.who)
 h3:aL false (j+3) 1 row=some (.ax false false 4 (x.kids.map ba))
theorem oR(x:Nm):lV (ba x) 0 x:=by rw[XI]; exact⟨rfl,rfl,rfl,rfl⟩
theorem yS(x:Ef):lV (aM x) 2 x.n:=by rw[XC]; exact⟨rfl,rfl,rfl,rfl⟩
attribute [local irreducible] ak.rd ak.pu ak.wr ak.dr ak.gr ak.gw ak.gl ak.gd ak.opt aH W
set_option maxHeartbeats 1000000
theorem c210(w:Int):PC 161 [ar w] (.bool (bd w)):=by
 refine Yc hP g161.ok rfl rfl ?_;rw[H1.e]; unfold g161; dsimp only;refine Za (Zf ..) ?_;refine Qh λk1 fo=>?_;have kk:∀c,c=bd w→k1 [.bool c] []:=by
  simp_all
 clear fo;refine Zb (λa0=>kk _ ?_) (λa0=>?_)
 ·simp at a0; simp[bd,a0]
 refine Za (Zf ..) (Zb (λa1=>kk _ ?_) (λa1=>?_))
 ·simp at a1; simp[bd,a1]
 refine Za (Zf ..) (Zb (λa2=>kk _ ?_) (λa2=>?_))
 ·simp at a2; simp[bd,a2]
 refine Za (Zf ..) (Zb (λa3=>kk _ ?_) (λa3=>?_))
 ·simp at a3; simp[bd,a3]
 refine Za (Zf ..) (kk _ ?_);simp_all [bd]
theorem c212(w:Int):PC 163 [ar w] (.bool (gB w)):=by
 refine Yc hP g163.ok rfl rfl ?_;rw[H1.e]; unfold g163; dsimp only;refine Za (Zf ..) ?_;rcases aT (decide (w=0)) with h1|h1
 ·rw[h1];repeat first|refine Ya ?_|refine Xa ?_|refine Qa rfl ?_|refine Yb rfl ?_|refine Zc rfl ?_|refine Qc rfl ?_|refine Za rfl ?_
  simp at h1; simp[gB,h1]
 rw[h1];repeat first|refine Ya ?_|refine Xa ?_|refine Za rfl ?_
 have h1:w≠0:=by simpa using h1
 exact congrArg aa.bool (by rw[Bool.eq_iff_iff]; simp[gB,h1])
theorem x_(u:aa)(t:Bool):∀(k:Nat) (x:Nm) (row:List aa) (j:Nat),lV row j x→SizeOf.sizeOf x≤k→cQ x=true→PC 162 [.ao [u,.bool t] 0,.ao row j] (.bool (eT t x))
 |0,x,_,_,_,h,_=>by cases x; simp at h
 |k+1,x,row,j,hx,hk,hf=>by
  refine Yc hP g162.ok rfl rfl ?_;rw[H2.e]; unfold g162; dsimp only;rw[Jg];have hlen:=EW hf;rw[cO] at hlen;repeat first|refine Za (an hx.h0) ?_|refine Za (an hx.h1) ?_|refine Za (an hx.h2) ?_|refine Za (an hx.h3) ?_|refine Za (Zf ..) ?_|refine Za (an (row:=[u,.bool t]) rfl) ?_|refine Za rfl ?_
  refine Qh λk11 i_=>?_;have bad:∀b1 b2 b3:Bool,(b1&&(b2&&b3))=false→aa.bool false=aa.bool (b1&&(b2&&b3)):=by
   intro b1 b2 b3 h; rw[h]
  have kk:∀(p o:Bool) (kd:Nat),kd=qw x.op→(0≤x.op∧x.op≤12)→(p&&o)=fN t x.op x.n x.who→k11 [.bool p,.bool o,iv kd] []:=by
   rintro p o kd rfl mX Pj;rw[i_]; clear i_ k11;repeat first|refine Za (an hx.h0) ?_|refine Za (an hx.h1) ?_|refine Za (an hx.h2) ?_|refine Za (an hx.h3) ?_|refine Za (Zf ..) ?_|refine Za (an (row:=[u,.bool t]) rfl) ?_|refine Za rfl ?_
   cases p with
   |false=>
    repeat first|refine Ya ?_|refine Xa ?_|refine Qa rfl ?_|refine Yb rfl ?_|refine Zc rfl ?_|refine Qc rfl ?_|refine Za (an hx.h0) ?_|refine Za (an hx.h1) ?_|refine Za (an hx.h2) ?_|refine Za (an hx.h3) ?_|refine Za (Zf ..) ?_|refine Za (an (row:=[u,.bool t]) rfl) ?_|refine Za rfl ?_
    refine Xc (bad _ _ _ ?_);rw[←Pj]; simp
   |true=>
    repeat first|refine Ya ?_|refine Xa ?_|refine Za (an hx.h0) ?_|refine Za (an hx.h1) ?_|refine Za (an hx.h2) ?_|refine Za (an hx.h3) ?_|refine Za (Zf ..) ?_|refine Za (an (row:=[u,.bool t]) rfl) ?_|refine Za rfl ?_
    cases o with
    |false=>
     repeat first|refine Ya ?_|refine Xa ?_|refine Qa rfl ?_|refine Yb rfl ?_|refine Zc rfl ?_|refine Qc rfl ?_|refine Za (an hx.h0) ?_|refine Za (an hx.h1) ?_|refine Za (an hx.h2) ?_|refine Za (an hx.h3) ?_|refine Za (Zf ..) ?_|refine Za (an (row:=[u,.bool t]) rfl) ?_|refine Za rfl ?_
     refine Xc (bad _ _ _ ?_);rw[←Pj]; simp
    |true=>
     repeat first|refine Ya ?_|refine Xa ?_|refine Za (an hx.h0) ?_|refine Za (an hx.h1) ?_|refine Za (an hx.h2) ?_|refine Za (an hx.h3) ?_|refine Za (Zf ..) ?_|refine Za (an (row:=[u,.bool t]) rfl) ?_|refine Za rfl ?_
     refine Zb (λh=>bad _ _ _ ?_) (λh=>?_)
     ·have:ia t x.op x.n x.who x.kids.length=false:=by
       rw[Bool.eq_false_iff]; intro hh; simp[ia] at hh; simp at h; omega
      rw[this]; rfl
     have ht:ia t x.op x.n x.who x.kids.length=true:=by simp at h; simp[ia]; omega
     rw[ht,←Pj,Bool.true_and,Bool.and_self,Bool.and_true];repeat first|refine Za (an hx.h0) ?_|refine Za (an hx.h1) ?_|refine Za (an hx.h2) ?_|refine Za (an hx.h3) ?_|refine Za (Zf ..) ?_|refine Za (an (row:=[u,.bool t]) rfl) ?_|refine Za rfl ?_
     refine Xj (ι:=Nat) (λi vs σ=>vs=[iv i]∧σ=[]∧i≤x.kids.length∧de t x.kids=de t (x.kids.drop i)) (λi=>x.kids.length-i) 0 ⟨rfl,rfl,by omega,by simp⟩ ?_;rintro i vs σ again ⟨rfl,rfl,hi,hu⟩ aZ;refine Za rfl ?_;refine Zb (λh=>?_) (λh=>?_)
     ·have h:i<x.kids.length:=by simpa using h
      have cX:x.kids.drop i=x.kids[i]::x.kids.drop (i+1):=by rw[fA h]
      rw[cX,de] at hu;have hm:x.kids[i]∈x.kids:=List.getElem_mem h;refine Za rfl (Za rfl (Za (an hx.h3) (Za (Zp _ ba _ _ _ x.kids _ i h) ?_)));refine Xb (x_ u t k _ _ 0 (oR _) (by have:=xN hm; omega) (XW hf hm)) rfl g162.ok.plain rfl ?_;refine Za rfl ?_;refine Zb (λh4=>?_) (λh4=>?_)
      ·have h4:eT t x.kids[i]=false:=by simpa using h4
       rw[hu,h4]; rfl
      ·have h4:eT t x.kids[i]=true:=by simpa using h4
       rw[h4,Bool.true_and] at hu;refine Za (Yj ..) ?_;rw[Qd (n:=i) (by omega)];exact aZ (i+1) _ _ (by omega) ⟨rfl,rfl,by omega,hu⟩
     have h:i=x.kids.length:=by simp at h; omega
     subst h;rw[List.drop_length,de] at hu;rw[hu]
  clear i_;repeat first|refine Za (an hx.h0) ?_|refine Za (an hx.h1) ?_|refine Za (an hx.h2) ?_|refine Za (an hx.h3) ?_|refine Za (Zf ..) ?_|refine Za (an (row:=[u,.bool t]) rfl) ?_|refine Za rfl ?_
  refine Zb (λa0=>?_) (λa0=>?_)
  ·have a0:x.op=0:=by simpa using a0
   repeat first|refine Za (an hx.h0) ?_|refine Za (an hx.h1) ?_|refine Za (an hx.h2) ?_|refine Za (an hx.h3) ?_|refine Za (Zf ..) ?_|refine Za (an (row:=[u,.bool t]) rfl) ?_|refine Za rfl ?_
   have e:fN t x.op x.n x.who=((decide (0≤x.n)&&decide (x.n≤999))&&decide (x.who=0)):=by simp[fN,a0,Bool.and_assoc]
   rcases aT (decide (x.n ≥ 0)) with h|h
   ·rw[h];repeat first|refine Ya ?_|refine Xa ?_|refine Za (an hx.h0) ?_|refine Za (an hx.h1) ?_|refine Za (an hx.h2) ?_|refine Za (an hx.h3) ?_|refine Za (Zf ..) ?_|refine Za (an (row:=[u,.bool t]) rfl) ?_|refine Za rfl ?_
    refine kk _ _ 0 (by simp[qw,a0]) (by omega) ?_;simp at h; rw[e]; simp[h]
   ·rw[h];repeat first|refine Ya ?_|refine Xa ?_|refine Qa rfl ?_|refine Yb rfl ?_|refine Zc rfl ?_|refine Qc rfl ?_|refine Za (an hx.h0) ?_|refine Za (an hx.h1) ?_|refine Za (an hx.h2) ?_|refine Za (an hx.h3) ?_|refine Za (Zf ..) ?_|refine Za (an (row:=[u,.bool t]) rfl) ?_|refine Za rfl ?_
    refine kk _ _ 0 (by simp[qw,a0]) (by omega) ?_;simp at h; rw[e]; simp; intro h1; omega
  have a0:x.op≠0:=by simpa using a0
  repeat first|refine Za (an hx.h0) ?_|refine Za (an hx.h1) ?_|refine Za (an hx.h2) ?_|refine Za (an hx.h3) ?_|refine Za (Zf ..) ?_|refine Za (an (row:=[u,.bool t]) rfl) ?_|refine Za rfl ?_
  refine Qh λk25 zU=>?_;have m1:∀c,c=decide (x.op=1∨x.op=2∨x.op=3∨x.op=4)→k25 [.bool c] []:=by
   rintro c hc;rw[zU]; clear zU k25;refine Zb (λh=>?_) (λh=>?_)
   ·rw[h] at hc;have a1:x.op=1∨x.op=2∨x.op=3∨x.op=4:=by simpa using hc.symm
    repeat first|refine Za (an hx.h0) ?_|refine Za (an hx.h1) ?_|refine Za (an hx.h2) ?_|refine Za (an hx.h3) ?_|refine Za (Zf ..) ?_|refine Za (an (row:=[u,.bool t]) rfl) ?_|refine Za rfl ?_
    refine Xb (c212 _) rfl g163.ok.plain rfl ?_;refine kk _ _ 0 (by simp[qw]; omega) (by omega) ?_;rw[fN,if_neg a0,if_pos (by omega)]
   rw[h] at hc;have a1:¬(x.op=1∨x.op=2∨x.op=3∨x.op=4):=by simpa using hc.symm
   have e:fN t x.op x.n x.who=(decide (x.n=0)&&(decide (x.who=0)&&(decide (x.op≠7)||t)))∨¬(0≤x.op∧x.op≤12):=by
    by_cases hr:0≤x.op∧x.op≤12
    ·left; rw[fN,if_neg a0,if_neg (by omega)]
    ·right; exact hr
   repeat first|refine Za (an hx.h0) ?_|refine Za (an hx.h1) ?_|refine Za (an hx.h2) ?_|refine Za (an hx.h3) ?_|refine Za (Zf ..) ?_|refine Za (an (row:=[u,.bool t]) rfl) ?_|refine Za rfl ?_
   refine Qh λk35 zV=>?_;have m2:∀c,c=decide (x.op=5∨x.op=6)→k35 [.bool c] []:=by
    rintro c hc;rw[zV]; clear zV k35;refine Zb (λh=>?_) (λh=>?_)
    ·rw[h] at hc;have a2:x.op=5∨x.op=6:=by simpa using hc.symm
     refine kk _ _ 0 (by simp[qw]; omega) (by omega) ?_;rcases e with e|e
     ·rw[e]; simp[show x.op≠7 by omega]
     ·omega
    rw[h] at hc;have a2:¬(x.op=5∨x.op=6):=by simpa using hc.symm
    repeat first|refine Za (an hx.h0) ?_|refine Za (an hx.h1) ?_|refine Za (an hx.h2) ?_|refine Za (an hx.h3) ?_|refine Za (Zf ..) ?_|refine Za (an (row:=[u,.bool t]) rfl) ?_|refine Za rfl ?_
    refine Zb (λa3=>?_) (λa3=>?_)
    ·have a3:x.op=7:=by simpa using a3
     rcases e with e|e
     ·rcases aT (decide (x.who=0)) with h|h
      ·rw[h];repeat first|refine Ya ?_|refine Xa ?_|refine Za (an hx.h0) ?_|refine Za (an hx.h1) ?_|refine Za (an hx.h2) ?_|refine Za (an hx.h3) ?_|refine Za (Zf ..) ?_|refine Za (an (row:=[u,.bool t]) rfl) ?_|refine Za rfl ?_
       refine kk _ _ 0 (by simp[qw,a3]) (by omega) ?_;rw[e,h]; simp[a3]
      ·rw[h];repeat first|refine Ya ?_|refine Xa ?_|refine Qa rfl ?_|refine Yb rfl ?_|refine Zc rfl ?_|refine Qc rfl ?_|refine Za (an hx.h0) ?_|refine Za (an hx.h1) ?_|refine Za (an hx.h2) ?_|refine Za (an hx.h3) ?_|refine Za (Zf ..) ?_|refine Za (an (row:=[u,.bool t]) rfl) ?_|refine Za rfl ?_
       refine kk _ _ 0 (by simp[qw,a3]) (by omega) ?_;rw[e,h]; simp
     ·omega
    have a3:x.op≠7:=by simpa using a3
    repeat first|refine Za (an hx.h0) ?_|refine Za (an hx.h1) ?_|refine Za (an hx.h2) ?_|refine Za (an hx.h3) ?_|refine Za (Zf ..) ?_|refine Za (an (row:=[u,.bool t]) rfl) ?_|refine Za rfl ?_
    refine Qh λk45 zW=>?_;have m3:∀c,c=decide (x.op=8∨x.op=9∨x.op=10∨x.op=11∨x.op=12)→k45 [.bool c] []:=by
     rintro c hc;rw[zW]; clear zW k45;refine Zb (λh=>?_) (λh=>?_)
     ·rw[h] at hc;have a4:x.op=8∨x.op=9∨x.op=10∨x.op=11∨x.op=12:=by simpa using hc.symm
      refine kk _ _ 2 (by simp[qw]; omega) (by omega) ?_;rcases e with e|e
      ·rw[e]; simp[a3]
      ·omega
     ·rw[h] at hc;have a4:¬(x.op=8∨x.op=9∨x.op=10∨x.op=11∨x.op=12):=by simpa using hc.symm
      refine bad _ _ _ ?_;have:ia t x.op x.n x.who x.kids.length=false:=by
       rw[Bool.eq_false_iff]; intro hh; simp[ia] at hh; omega
      rw[this]; rfl
    clear zW;refine Zb (λc1=>m3 _ ?_) (λc1=>?_)
    ·simp at c1; simp[c1]
    refine Za (Zf ..) (Zb (λc2=>m3 _ ?_) (λc2=>?_))
    ·simp at c2; simp[c2]
    refine Za (Zf ..) (Zb (λc3=>m3 _ ?_) (λc3=>?_))
    ·simp at c3; simp[c3]
    refine Za (Zf ..) (Zb (λc4=>m3 _ ?_) (λc4=>?_))
    ·simp at c4; simp[c4]
    refine Za (Zf ..) (m3 _ ?_);simp at c1 c2 c3 c4; simp[c1,c2,c3,c4]
   clear zV;refine Zb (λc1=>m2 _ ?_) (λc1=>?_)
   ·simp at c1; simp[c1]
   refine Za (Zf ..) (m2 _ ?_);simp at c1; simp[c1]
  clear zU;refine Zb (λc1=>m1 _ ?_) (λc1=>?_)
  ·simp at c1; simp[c1]
  refine Za (Zf ..) (Zb (λc2=>m1 _ ?_) (λc2=>?_))
  ·simp at c2; simp[c2]
  refine Za (Zf ..) (Zb (λc3=>m1 _ ?_) (λc3=>?_))
  ·simp at c3; simp[c3]
  refine Za (Zf ..) (m1 _ ?_);simp at c1 c2 c3; simp[c1,c2,c3]
theorem c211(u:aa)(t:Bool)(x:Nm)(row:List aa)(j:Nat)(hx:lV row j x)(hf:cQ x=true):PC 162 [.ao [u,.bool t] 0,.ao row j] (.bool (eT t x)):=x_ u t _ x row j hx (Nat.le_refl _) hf
end Go.Ah.Tz
end
section
namespace Go.Ah.Tz
open Go.Proofs.Tryz (prog)
def bJ(t:Tx):List (Tx×Bool)→Option Bool
 |[]=>none
 |p::l=>if t==p.1 then some p.2 else bJ t l
def ik(l:List (Tx×Bool)):List (aa×aa):=l.map λp=>(aa.str p.1,aa.bool p.2)
theorem Fc(t:Tx):∀l,ir (.str t) (ik l)=some ((bJ t l).map aa.bool)
 |[]=>rfl
 |p::l=>by
  simp only[ik,List.map_cons,ir,iG,bJ];cases h:t==p.1 with
  |true=>rfl
  |false=>exact Fc t l
def cm(l:List (Tx×Bool))(t:Bool):List aa:=[.eN (ik l),.bool t]
theorem Z4(l:List (Tx×Bool))(t:Tx)(σ:List ab):Zz true true (.bool false) [.eN (ik l),.str t] σ=.ok (.bn [.bool ((bJ t l).getD false),.bool (bJ t l).isSome]) [] []:=by
 show (match ir (.str t) (ik l) with
  |some r=>az.ok (jX true (.bool false) r) [] []
  | none=>.stop)=_
 rw[Fc];cases bJ t l<;>rfl
theorem Yl(l:List (Tx×Bool))(t:Tx)(σ:List ab):Zz true false (.bool false) [.eN (ik l),.str t] σ=.ok (.bool ((bJ t l).getD false)) [] []:=by
 show (match ir (.str t) (ik l) with
  |some r=>az.ok (jX false (.bool false) r) [] []
  | none=>.stop)=_
 rw[Fc];cases bJ t l<;>rfl
def mu(l:List (Tx×Bool))(cs:List Cd):Prop:=∀t u,gf cs t u=match bJ t l with
 |none=>false
 |some b=>b || !u
structure qA (row:List aa) (j:Nat) (x:Cn):Prop where
 h0:aL false (j+0) 1 row=some (ar x.op)
 h1:aL false (j+1) 1 row=some (ar x.who)
 h2:aL false (j+2) 1 row=some (.str x.name)
 h3:aL false (j+3) 1 row=some (.ax false false 4 (x.ay.map ba))
 h4:aL false (j+4) 1 row=some (.ax false false 5 (x.kids.map cG))
theorem wx(x:Cn):qA (cG x) 0 x:=by rw[YQ]; exact⟨rfl,rfl,rfl,rfl,rfl⟩
theorem yg(x:Ef):qA (aM x) 7 x.c:=by rw[XC]; exact⟨rfl,rfl,rfl,rfl,rfl⟩
attribute [local irreducible] ak.rd ak.pu ak.wr ak.dr ak.gr ak.gw ak.gl ak.gd ak.opt aH W
set_option maxHeartbeats 1000000
theorem Yds{P:Program}{GL:aw}{c d:Bool}{K:aa→Prop}{r1:az}{f2 f3 f4 f5:aa→az}{σ:List ab}{v1 v2 v3 v4:aa}{q1 q2 q3 q4 q5:List Nat}(h1:r1=.ok v1 q1 [])(h2:f2 v1=.ok v2 q2 [])(h3:f3 v2=.ok v3 q3 [])(h4:f4 v3=.ok v4 q4 [])(h5:f5 v4=.ok (.bool d) q5 [])(hK:K (.bool (c&&d))) :
  (W P GL).gr (.bool c) true (λk=>(W P GL).rd r1 k) λt1=>(W P GL).gr (.bool c) true (λk=>(W P GL).rd (f2 t1) k) λt2=>(W P GL).gr (.bool c) true (λk=>(W P GL).rd (f3 t2) k) λt3=>(W P GL).gr (.bool c) true (λk=>(W P GL).rd (f4 t3) k) λt4=>(W P GL).gr (.bool c) true (λk=>(W P GL).rd (f5 t4) k) λt5=>(W P GL).rd (Ym [.bool c,t5,.bool false] σ) K:=by
 cases c with
 |true=>exact Ya (Za h1 (Ya (Za h2 (Ya (Za h3 (Ya (Za h4 (Ya (Za h5 (Za rfl hK))))))))))
 |false=>exact Qa rfl (Qa rfl (Qa rfl (Qa rfl (Qa rfl (Za rfl hK)))))
theorem ya(l:List (Tx×Bool))(cs:List Cd)(hU:mu l cs)(t:Bool):∀(k:Nat) (x:Cn) (row:List aa) (j:Nat),qA row j x→SizeOf.sizeOf x≤k→cz x=true→PC 164 [.ao (cm l t) 0,.ao row j] (.bool (iz cs t x))
 |0,x,_,_,_,h,_=>by cases x; simp at h
 |k+1,x,row,j,hx,hk,hf=>by
  refine Yc hP g164.ok rfl rfl ?_;rw[H2.e]; unfold g164; dsimp only;rw[MB];have fj:=Q0 hf;have eX:=X0 hf;rw[cO] at fj eX;refine Za rfl (Za rfl (Za (an hx.h1) (Za (Zf ..) ?_)));refine Yds rfl rfl rfl (an hx.h2) (Xf ..) ?_;refine Za rfl (Za rfl (Za (an hx.h0) ?_));have bad:∀b1 b2 b3 b4:Bool,(b1&&(b2&&(b3&&b4)))=false→aa.bool false=aa.bool (b1&&(b2&&(b3&&b4))):=by
   intro b1 b2 b3 b4 h; rw[h]
  have nC:¬(0≤x.op∧x.op≤6∧x.ay.length=ji x.op∧x.kids.length=j0 x.op)→aa.bool false=aa.bool (i3 x.op x.ay.length x.kids.length&&(de t x.ay&&(gH cs t x.kids&&iy cs x.op x.who x.name))):=by
   simp_all [i3]
  refine Qh λk13 zS=>?_;have kk:∀(ok:Bool) (k3 k4:Nat),k3=ji x.op→k4=j0 x.op→(0≤x.op∧x.op≤6)→ok=iy cs x.op x.who x.name→k13 [.bool ok,iv k3,iv k4] []:=by
   rintro ok k3 k4 rfl rfl mX bV;rw[zS]; clear zS k13;repeat first|refine Za (an hx.h0) ?_|refine Za (an hx.h1) ?_|refine Za (an hx.h2) ?_|refine Za (an hx.h3) ?_|refine Za (an hx.h4) ?_|refine Za (Zf ..) ?_|refine Za (Xf ..) ?_|refine Za (an (row:=cm l t) rfl) ?_|refine Za (Z4 ..) ?_|refine Za rfl ?_
   cases ok with
   |false=>
    repeat first|refine Ya ?_|refine Xa ?_|refine Qa rfl ?_|refine Yb rfl ?_|refine Zc rfl ?_|refine Qc rfl ?_|refine Za (an hx.h0) ?_|refine Za (an hx.h1) ?_|refine Za (an hx.h2) ?_|refine Za (an hx.h3) ?_|refine Za (an hx.h4) ?_|refine Za (Zf ..) ?_|refine Za (Xf ..) ?_|refine Za (an (row:=cm l t) rfl) ?_|refine Za (Z4 ..) ?_|refine Za rfl ?_
    refine Xc (bad _ _ _ _ ?_);rw[←bV]; simp
   |true=>
    repeat first|refine Ya ?_|refine Xa ?_|refine Za (an hx.h0) ?_|refine Za (an hx.h1) ?_|refine Za (an hx.h2) ?_|refine Za (an hx.h3) ?_|refine Za (an hx.h4) ?_|refine Za (Zf ..) ?_|refine Za (Xf ..) ?_|refine Za (an (row:=cm l t) rfl) ?_|refine Za (Z4 ..) ?_|refine Za rfl ?_
    rcases aT (((x.ay.map ba).length:Int) != (ji x.op:Int)) with h3|h3
    ·rw[h3];repeat first|refine Ya ?_|refine Xa ?_|refine Qa rfl ?_|refine Yb rfl ?_|refine Zc rfl ?_|refine Qc rfl ?_|refine Za (an hx.h0) ?_|refine Za (an hx.h1) ?_|refine Za (an hx.h2) ?_|refine Za (an hx.h3) ?_|refine Za (an hx.h4) ?_|refine Za (Zf ..) ?_|refine Za (Xf ..) ?_|refine Za (an (row:=cm l t) rfl) ?_|refine Za (Z4 ..) ?_|refine Za rfl ?_
     refine Xc (nC ?_);simp at h3; omega
    rw[h3];repeat first|refine Ya ?_|refine Xa ?_|refine Za (an hx.h0) ?_|refine Za (an hx.h1) ?_|refine Za (an hx.h2) ?_|refine Za (an hx.h3) ?_|refine Za (an hx.h4) ?_|refine Za (Zf ..) ?_|refine Za (Xf ..) ?_|refine Za (an (row:=cm l t) rfl) ?_|refine Za (Z4 ..) ?_|refine Za rfl ?_
    refine Zb (λh4=>nC ?_) (λh4=>?_)
    ·simp at h4; omega
    simp at h3 h4;have ht:i3 x.op x.ay.length x.kids.length=true:=by simp[i3]; omega
    rw[ht,←bV,Bool.true_and,Bool.and_true];repeat first|refine Za (an hx.h0) ?_|refine Za (an hx.h1) ?_|refine Za (an hx.h2) ?_|refine Za (an hx.h3) ?_|refine Za (an hx.h4) ?_|refine Za (Zf ..) ?_|refine Za (Xf ..) ?_|refine Za (an (row:=cm l t) rfl) ?_|refine Za (Z4 ..) ?_|refine Za rfl ?_
    refine Xj (ι:=Nat) (λi vs σ=>vs=[iv i]∧σ=[]∧i≤x.ay.length∧de t x.ay=de t (x.ay.drop i)) (λi=>x.ay.length-i) 0 ⟨rfl,rfl,by omega,by simp⟩ ?_;rintro i vs σ again ⟨rfl,rfl,hi,hu⟩ aZ;refine Za rfl ?_;refine Zb (λh=>?_) (λh=>?_)
    ·have h:i<x.ay.length:=by simpa using h
     have cX:x.ay.drop i=x.ay[i]::x.ay.drop (i+1):=by rw[fA h]
     rw[cX,de] at hu;have hm:x.ay[i]∈x.ay:=List.getElem_mem h;refine Za rfl (Za rfl (Za (an hx.h3) (Za (Zp _ ba _ _ _ x.ay _ i h) ?_)));refine Xb (c211 _ t _ _ 0 (oR _) (X3 hf hm)) rfl g162.ok.plain rfl ?_;refine Za rfl ?_;refine Zb (λh4=>?_) (λh4=>?_)
     ·simp_all
     ·have h4:eT t x.ay[i]=true:=by simpa using h4
      rw[h4,Bool.true_and] at hu;refine Za (Yj ..) ?_;rw[Qd (n:=i) (by omega)]
      grind
    have h:i=x.ay.length:=by simp at h; omega
    subst h;rw[List.drop_length,de] at hu;rw[hu,Bool.true_and];clear aZ hu hi;repeat first|refine Za (an hx.h0) ?_|refine Za (an hx.h1) ?_|refine Za (an hx.h2) ?_|refine Za (an hx.h3) ?_|refine Za (an hx.h4) ?_|refine Za (Zf ..) ?_|refine Za (Xf ..) ?_|refine Za (an (row:=cm l t) rfl) ?_|refine Za (Z4 ..) ?_|refine Za rfl ?_
    refine Xj (ι:=Nat) (λi vs s=>vs=[iv i]∧s=[]∧i≤x.kids.length∧gH cs t x.kids=gH cs t (x.kids.drop i)) (λi=>x.kids.length-i) 0 ⟨rfl,rfl,by omega,by simp⟩ ?_;rintro i vs s again ⟨rfl,rfl,hi,hu⟩ aZ;refine Za rfl ?_;refine Zb (λh=>?_) (λh=>?_)
    ·have h:i<x.kids.length:=by simpa using h
     have cX:x.kids.drop i=x.kids[i]::x.kids.drop (i+1):=by rw[fA h]
     rw[cX,gH] at hu;have hm:x.kids[i]∈x.kids:=List.getElem_mem h;refine Za rfl (Za rfl (Za (an hx.h4) (Za (Zp _ cG _ _ _ x.kids _ i h) ?_)));refine Xb (ya l cs hU t k _ _ 0 (wx _) (by have:=zl hm; omega) (Y3 hf hm)) rfl g164.ok.plain rfl ?_;refine Za rfl ?_;refine Zb (λh4=>?_) (λh4=>?_)
     ·simp_all
     ·have h4:iz cs t x.kids[i]=true:=by simpa using h4
      rw[h4,Bool.true_and] at hu;refine Za (Yj ..) ?_;rw[Qd (n:=i) (by omega)]
      grind
    grind [gH]
  clear zS;have e6:x.op≠6→(decide (x.who=0)&&(x.name==[]))=iy cs x.op x.who x.name:=by
   intro h; rw[iy,if_neg h]
  refine Za (Zf ..) ?_;refine Qh λk1 fo=>?_;have m1:∀c,c=decide (x.op=0∨x.op=1∨x.op=2)→k1 [.bool c] []:=by
   rintro c hc;rw[fo]; clear fo k1;refine Zb (λh=>?_) (λh=>?_)
   ·grind [ji,j0]
   rw[h] at hc;have a1:¬(x.op=0∨x.op=1∨x.op=2):=by simpa using hc.symm
   refine Za (Zf ..) (Zb (λa3=>?_) (λa3=>?_))
   ·grind [ji,j0]
   have a3:x.op≠3:=by simpa using a3
   refine Za (Zf ..) ?_;refine Qh λk1 fo=>?_;have m2:∀c,c=decide (x.op=4∨x.op=5)→k1 [.bool c] []:=by
    rintro c hc;rw[fo]; clear fo k1;refine Zb (λh=>?_) (λh=>?_)
    ·grind [ji,j0]
    rw[h] at hc;have a4:¬(x.op=4∨x.op=5):=by simpa using hc.symm
    refine Za (Zf ..) (Zb (λa6=>?_) (λa6=>?_))
    ·have a6:x.op=6:=by simpa using a6
     repeat first|refine Za (an hx.h0) ?_|refine Za (an hx.h1) ?_|refine Za (an hx.h2) ?_|refine Za (an hx.h3) ?_|refine Za (an hx.h4) ?_|refine Za (Zf ..) ?_|refine Za (Xf ..) ?_|refine Za (an (row:=cm l t) rfl) ?_|refine Za (Z4 ..) ?_|refine Za rfl ?_
     have VS:=hU x.name false;have e:iy cs x.op x.who x.name=((bJ x.name l).isSome&&gB x.who):=by
      grind [iy]
     rcases aT (bJ x.name l).isSome with h|h
     ·rw[h];repeat first|refine Ya ?_|refine Xa ?_|refine Za (an hx.h0) ?_|refine Za (an hx.h1) ?_|refine Za (an hx.h2) ?_|refine Za (an hx.h3) ?_|refine Za (an hx.h4) ?_|refine Za (Zf ..) ?_|refine Za (Xf ..) ?_|refine Za (an (row:=cm l t) rfl) ?_|refine Za (Z4 ..) ?_|refine Za rfl ?_
      refine Xb (c212 _) rfl g163.ok.plain rfl ?_;repeat first|refine Ya ?_|refine Xa ?_|refine Za (an hx.h0) ?_|refine Za (an hx.h1) ?_|refine Za (an hx.h2) ?_|refine Za (an hx.h3) ?_|refine Za (an hx.h4) ?_|refine Za (Zf ..) ?_|refine Za (Xf ..) ?_|refine Za (an (row:=cm l t) rfl) ?_|refine Za (Z4 ..) ?_|refine Za rfl ?_
      grind [ji,j0]
     ·rw[h];repeat first|refine Ya ?_|refine Xa ?_|refine Qa rfl ?_|refine Yb rfl ?_|refine Zc rfl ?_|refine Qc rfl ?_|refine Za (an hx.h0) ?_|refine Za (an hx.h1) ?_|refine Za (an hx.h2) ?_|refine Za (an hx.h3) ?_|refine Za (an hx.h4) ?_|refine Za (Zf ..) ?_|refine Za (Xf ..) ?_|refine Za (an (row:=cm l t) rfl) ?_|refine Za (Z4 ..) ?_|refine Za rfl ?_
      grind [ji,j0]
    grind
   clear fo;refine Zb (λc1=>m2 _ ?_) (λc1=>?_)
   ·simp at c1; simp[c1]
   refine Za (Zf ..) (m2 _ ?_);simp at c1; simp[c1]
  clear fo;refine Zb (λc1=>m1 _ ?_) (λc1=>?_)
  ·simp at c1; simp[c1]
  refine Za (Zf ..) (Zb (λc2=>m1 _ ?_) (λc2=>?_))
  ·simp at c2; simp[c2]
  refine Za (Zf ..) (m1 _ ?_);simp at c1 c2; simp[c1,c2]
theorem c213(l:List (Tx×Bool))(cs:List Cd)(hU:mu l cs)(t:Bool)(x:Cn)(row:List aa)(j:Nat)(hx:qA row j x)(hf:cz x=true):PC 164 [.ao (cm l t) 0,.ao row j] (.bool (iz cs t x)):=ya l cs hU t _ x row j hx (Nat.le_refl _) hf
end Go.Ah.Tz
end
section
namespace Go.Ah.Tz
open Go.Proofs.Tryz (prog)
def gm(x:Ef):Bool:=((bd x.op||dQ x.n)&&(decide (x.op=7)||x.name==[]))&&(decide (x.op=8)||(decide (x.c.op=0)&&(decide (x.c.who=0)&&(x.c.name==[]&&decide (x.c.ay.length+x.c.kids.length+x.bM.length+x.bQ.length=0)))))
attribute [local irreducible] ak.rd ak.pu ak.wr ak.dr ak.gr ak.gw ak.gl ak.gd ak.opt aH W
set_option maxHeartbeats 2000000
theorem c209(x:Ef)(hf:dk x=true):PC 160 [.ao (aM x) 0] (.bool (gm x)):=by
 have l1:=Q0 (Y9 hf);have l2:=X0 (Y9 hf);have l3:=YH (XR hf);have l4:=YH (YR hf);rw[cO] at l1 l2 l3 l4;rw[XC];refine Yc hP g160.ok rfl rfl ?_;rw[H1.e]; unfold g160; dsimp only;repeat first|refine Za (Zf ..) ?_|refine Za (Xf ..) ?_|refine Za (an (row:=[ar x.op,ar x.who,ar x.n.op,iv x.n.n,ar x.n.who,.ax false false 4 (x.n.kids.map ba),.str x.name,ar x.c.op,ar x.c.who,.str x.c.name,.ax false false 4 (x.c.ay.map ba),.ax false false 5 (x.c.kids.map cG),.ax false false 14 (x.bM.map aM),.ax false false 14 (x.bQ.map aM)]) rfl) ?_|refine Za rfl ?_
 refine Xb (c210 _) rfl g161.ok.plain rfl ?_;have r1:∀K:aa→Prop,K (.bool (bd x.op||dQ x.n))→VV.gr (aa.bool (bd x.op)) false (λk=>VV.rd (Q9 [(aa.ao [ar x.op,ar x.who,ar x.n.op,iv x.n.n,ar x.n.who,.ax false false 4 (x.n.kids.map ba),.str x.name,ar x.c.op,ar x.c.who,.str x.c.name,.ax false false 4 (x.c.ay.map ba),.ax false false 5 (x.c.kids.map cG),.ax false false 14 (x.bM.map aM),.ax false false 14 (x.bQ.map aM)] 0)] ([]:List ab)) k) λqi=>VV.gr (aa.bool (bd x.op)) false (λk=>VV.rd (Zi [qi] ([]:List ab)) k) λuZ=>VV.gr (aa.bool (bd x.op)) false (λk=>VV.rd (Ze 2 [uZ] ([]:List ab)) k) λu6=>VV.gr (aa.bool (bd x.op)) false (λk=>VV.rd (Ze 0 [u6] ([]:List ab)) k) λIr=>VV.gr (aa.bool (bd x.op)) false (λk=>VV.rd (Xh false 1 [Ir] ([]:List ab)) k) λIs=>VV.gr (aa.bool (bd x.op)) false (λk=>VV.rd (Qn .eql false [Is,(.int .i8 0)] ([]:List ab)) k) λu_=>VV.gr (aa.bool (bd x.op)) false (λk=>VV.rd (Q9 [u_] ([]:List ab)) k) λiW=>VV.gr iW true (λk=>VV.rd (Q9 [(aa.ao [ar x.op,ar x.who,ar x.n.op,iv x.n.n,ar x.n.who,.ax false false 4 (x.n.kids.map ba),.str x.name,ar x.c.op,ar x.c.who,.str x.c.name,.ax false false 4 (x.c.ay.map ba),.ax false false 5 (x.c.kids.map cG),.ax false false 14 (x.bM.map aM),.ax false false 14 (x.bQ.map aM)] 0)] ([]:List ab)) k) λrz=>VV.gr iW true (λk=>VV.rd (Zi [rz] ([]:List ab)) k) λrA=>VV.gr iW true (λk=>VV.rd (Ze 2 [rA] ([]:List ab)) k) λrB=>VV.gr iW true (λk=>VV.rd (Ze 1 [rB] ([]:List ab)) k) λAL=>VV.gr iW true (λk=>VV.rd (Xh false 1 [AL] ([]:List ab)) k) λAO=>VV.gr iW true (λk=>VV.rd (Qn .eql false [AO,(.int .i64 0)] ([]:List ab)) k) λAW=>VV.gr (aa.bool (bd x.op)) false (λk=>VV.rd (Ym [iW,AW,(.bool false)] ([]:List ab)) k) λnq=>VV.gr (aa.bool (bd x.op)) false (λk=>VV.rd (Q9 [nq] ([]:List ab)) k) λiX=>VV.gr iX true (λk=>VV.rd (Q9 [(aa.ao [ar x.op,ar x.who,ar x.n.op,iv x.n.n,ar x.n.who,.ax false false 4 (x.n.kids.map ba),.str x.name,ar x.c.op,ar x.c.who,.str x.c.name,.ax false false 4 (x.c.ay.map ba),.ax false false 5 (x.c.kids.map cG),.ax false false 14 (x.bM.map aM),.ax false false 14 (x.bQ.map aM)] 0)] ([]:List ab)) k) λA'=>VV.gr iX true (λk=>VV.rd (Zi [A'] ([]:List ab)) k) λBc=>VV.gr iX true (λk=>VV.rd (Ze 2 [Bc] ([]:List ab)) k) λBg=>VV.gr iX true (λk=>VV.rd (Ze 2 [Bg] ([]:List ab)) k) λvc=>VV.gr iX true (λk=>VV.rd (Xh false 1 [vc] ([]:List ab)) k) λBn=>VV.gr iX true (λk=>VV.rd (Qn .eql false [Bn,(.int .i8 0)] ([]:List ab)) k) λBr=>VV.gr (aa.bool (bd x.op)) false (λk=>VV.rd (Ym [iX,Br,(.bool false)] ([]:List ab)) k) λBw=>VV.gr (aa.bool (bd x.op)) false (λk=>VV.rd (Q9 [Bw] ([]:List ab)) k) λjB=>VV.gr jB true (λk=>VV.rd (Q9 [(aa.ao [ar x.op,ar x.who,ar x.n.op,iv x.n.n,ar x.n.who,.ax false false 4 (x.n.kids.map ba),.str x.name,ar x.c.op,ar x.c.who,.str x.c.name,.ax false false 4 (x.c.ay.map ba),.ax false false 5 (x.c.kids.map cG),.ax false false 14 (x.bM.map aM),.ax false false 14 (x.bQ.map aM)] 0)] ([]:List ab)) k) λBF=>VV.gr jB true (λk=>VV.rd (Zi [BF] ([]:List ab)) k) λBJ=>VV.gr jB true (λk=>VV.rd (Ze 2 [BJ] ([]:List ab)) k) λBL=>VV.gr jB true (λk=>VV.rd (Ze 3 [BL] ([]:List ab)) k) λBO=>VV.gr jB true (λk=>VV.rd (Xh false 1 [BO] ([]:List ab)) k) λBS=>VV.gr jB true (λk=>VV.rd (Yp [BS] ([]:List ab)) k) λBW=>VV.gr jB true (λk=>VV.rd (Qn .eql false [BW,(.int .i64 0)] ([]:List ab)) k) λB2=>VV.gr (aa.bool (bd x.op)) false (λk=>VV.rd (Ym [jB,B2,(.bool false)] ([]:List ab)) k) λB6=>VV.rd (Ym [(aa.bool (bd x.op)),(.bool true),B6] ([]:List ab)) K:=by
  intro K hK;rcases aT (bd x.op) with h0|h0
  ·rw[h0] at hK ⊢;repeat first|refine Ya ?_|refine Xa ?_|refine Qa rfl ?_|refine Yb rfl ?_|refine Zc rfl ?_|refine Qc rfl ?_|refine Za (Zf ..) ?_|refine Za (Xf ..) ?_|refine Za (an (row:=[ar x.op,ar x.who,ar x.n.op,iv x.n.n,ar x.n.who,.ax false false 4 (x.n.kids.map ba),.str x.name,ar x.c.op,ar x.c.who,.str x.c.name,.ax false false 4 (x.c.ay.map ba),.ax false false 5 (x.c.kids.map cG),.ax false false 14 (x.bM.map aM),.ax false false 14 (x.bQ.map aM)]) rfl) ?_|refine Za rfl ?_
   exact hK
  rw[h0,Bool.false_or] at hK;rw[h0];repeat first|refine Ya ?_|refine Xa ?_|refine Za (Zf ..) ?_|refine Za (Xf ..) ?_|refine Za (an (row:=[ar x.op,ar x.who,ar x.n.op,iv x.n.n,ar x.n.who,.ax false false 4 (x.n.kids.map ba),.str x.name,ar x.c.op,ar x.c.who,.str x.c.name,.ax false false 4 (x.c.ay.map ba),.ax false false 5 (x.c.kids.map cG),.ax false false 14 (x.bM.map aM),.ax false false 14 (x.bQ.map aM)]) rfl) ?_|refine Za rfl ?_
  rcases aT (decide (x.n.op=0)) with h1|h1
  rotate_left
  ·rw[h1];repeat first|refine Ya ?_|refine Xa ?_|refine Qa rfl ?_|refine Yb rfl ?_|refine Zc rfl ?_|refine Qc rfl ?_|refine Za (Zf ..) ?_|refine Za (Xf ..) ?_|refine Za (an (row:=[ar x.op,ar x.who,ar x.n.op,iv x.n.n,ar x.n.who,.ax false false 4 (x.n.kids.map ba),.str x.name,ar x.c.op,ar x.c.who,.str x.c.name,.ax false false 4 (x.c.ay.map ba),.ax false false 5 (x.c.kids.map cG),.ax false false 14 (x.bM.map aM),.ax false false 14 (x.bQ.map aM)]) rfl) ?_|refine Za rfl ?_
   simp_all [dQ]
  rw[h1];repeat first|refine Ya ?_|refine Xa ?_|refine Za (Zf ..) ?_|refine Za (Xf ..) ?_|refine Za (an (row:=[ar x.op,ar x.who,ar x.n.op,iv x.n.n,ar x.n.who,.ax false false 4 (x.n.kids.map ba),.str x.name,ar x.c.op,ar x.c.who,.str x.c.name,.ax false false 4 (x.c.ay.map ba),.ax false false 5 (x.c.kids.map cG),.ax false false 14 (x.bM.map aM),.ax false false 14 (x.bQ.map aM)]) rfl) ?_|refine Za rfl ?_
  rcases aT (decide (x.n.n=0)) with h2|h2
  rotate_left
  ·rw[h2];repeat first|refine Ya ?_|refine Xa ?_|refine Qa rfl ?_|refine Yb rfl ?_|refine Zc rfl ?_|refine Qc rfl ?_|refine Za (Zf ..) ?_|refine Za (Xf ..) ?_|refine Za (an (row:=[ar x.op,ar x.who,ar x.n.op,iv x.n.n,ar x.n.who,.ax false false 4 (x.n.kids.map ba),.str x.name,ar x.c.op,ar x.c.who,.str x.c.name,.ax false false 4 (x.c.ay.map ba),.ax false false 5 (x.c.kids.map cG),.ax false false 14 (x.bM.map aM),.ax false false 14 (x.bQ.map aM)]) rfl) ?_|refine Za rfl ?_
   simp_all [dQ]
  rw[h2];repeat first|refine Ya ?_|refine Xa ?_|refine Za (Zf ..) ?_|refine Za (Xf ..) ?_|refine Za (an (row:=[ar x.op,ar x.who,ar x.n.op,iv x.n.n,ar x.n.who,.ax false false 4 (x.n.kids.map ba),.str x.name,ar x.c.op,ar x.c.who,.str x.c.name,.ax false false 4 (x.c.ay.map ba),.ax false false 5 (x.c.kids.map cG),.ax false false 14 (x.bM.map aM),.ax false false 14 (x.bQ.map aM)]) rfl) ?_|refine Za rfl ?_
  rcases aT (decide (x.n.who=0)) with h3|h3
  rotate_left
  ·rw[h3];repeat first|refine Ya ?_|refine Xa ?_|refine Qa rfl ?_|refine Yb rfl ?_|refine Zc rfl ?_|refine Qc rfl ?_|refine Za (Zf ..) ?_|refine Za (Xf ..) ?_|refine Za (an (row:=[ar x.op,ar x.who,ar x.n.op,iv x.n.n,ar x.n.who,.ax false false 4 (x.n.kids.map ba),.str x.name,ar x.c.op,ar x.c.who,.str x.c.name,.ax false false 4 (x.c.ay.map ba),.ax false false 5 (x.c.kids.map cG),.ax false false 14 (x.bM.map aM),.ax false false 14 (x.bQ.map aM)]) rfl) ?_|refine Za rfl ?_
   simp_all [dQ]
  rw[h3];repeat first|refine Ya ?_|refine Xa ?_|refine Za (Zf ..) ?_|refine Za (Xf ..) ?_|refine Za (an (row:=[ar x.op,ar x.who,ar x.n.op,iv x.n.n,ar x.n.who,.ax false false 4 (x.n.kids.map ba),.str x.name,ar x.c.op,ar x.c.who,.str x.c.name,.ax false false 4 (x.c.ay.map ba),.ax false false 5 (x.c.kids.map cG),.ax false false 14 (x.bM.map aM),.ax false false 14 (x.bQ.map aM)]) rfl) ?_|refine Za rfl ?_
  have e:dQ x.n=decide (((x.n.kids.map ba).length:Int)=0):=by
   simp[h1,h2,h3,dQ]
  rw[e] at hK;exact hK
 refine r1 _ ?_;clear r1;repeat first|refine Za (Zf ..) ?_|refine Za (Xf ..) ?_|refine Za (an (row:=[ar x.op,ar x.who,ar x.n.op,iv x.n.n,ar x.n.who,.ax false false 4 (x.n.kids.map ba),.str x.name,ar x.c.op,ar x.c.who,.str x.c.name,.ax false false 4 (x.c.ay.map ba),.ax false false 5 (x.c.kids.map cG),.ax false false 14 (x.bM.map aM),.ax false false 14 (x.bQ.map aM)]) rfl) ?_|refine Za rfl ?_
 have r2:∀K:aa→Prop,K (.bool (decide (x.op=7)||x.name==[]))→VV.gr (aa.bool (decide (x.op=7))) false (λk=>VV.rd (Q9 [(aa.ao [ar x.op,ar x.who,ar x.n.op,iv x.n.n,ar x.n.who,.ax false false 4 (x.n.kids.map ba),.str x.name,ar x.c.op,ar x.c.who,.str x.c.name,.ax false false 4 (x.c.ay.map ba),.ax false false 5 (x.c.kids.map cG),.ax false false 14 (x.bM.map aM),.ax false false 14 (x.bQ.map aM)] 0)] ([]:List ab)) k) λCg=>VV.gr (aa.bool (decide (x.op=7))) false (λk=>VV.rd (Zi [Cg] ([]:List ab)) k) λCj=>VV.gr (aa.bool (decide (x.op=7))) false (λk=>VV.rd (Ze 6 [Cj] ([]:List ab)) k) λCm=>VV.gr (aa.bool (decide (x.op=7))) false (λk=>VV.rd (Xh false 1 [Cm] ([]:List ab)) k) λCp=>VV.gr (aa.bool (decide (x.op=7))) false (λk=>VV.rd (Qn .eql false [Cp,(.str [])] ([]:List ab)) k) λCq=>VV.rd (Ym [(aa.bool (decide (x.op=7))),(.bool true),Cq] ([]:List ab)) K:=by
  intro K hK;rcases aT (decide (x.op=7)) with h0|h0
  ·rw[h0] at hK ⊢;repeat first|refine Ya ?_|refine Xa ?_|refine Qa rfl ?_|refine Yb rfl ?_|refine Zc rfl ?_|refine Qc rfl ?_|refine Za (Zf ..) ?_|refine Za (Xf ..) ?_|refine Za (an (row:=[ar x.op,ar x.who,ar x.n.op,iv x.n.n,ar x.n.who,.ax false false 4 (x.n.kids.map ba),.str x.name,ar x.c.op,ar x.c.who,.str x.c.name,.ax false false 4 (x.c.ay.map ba),.ax false false 5 (x.c.kids.map cG),.ax false false 14 (x.bM.map aM),.ax false false 14 (x.bQ.map aM)]) rfl) ?_|refine Za rfl ?_
   exact hK
  rw[h0,Bool.false_or] at hK;rw[h0];repeat first|refine Ya ?_|refine Xa ?_|refine Za (Zf ..) ?_|refine Za (Xf ..) ?_|refine Za (an (row:=[ar x.op,ar x.who,ar x.n.op,iv x.n.n,ar x.n.who,.ax false false 4 (x.n.kids.map ba),.str x.name,ar x.c.op,ar x.c.who,.str x.c.name,.ax false false 4 (x.c.ay.map ba),.ax false false 5 (x.c.kids.map cG),.ax false false 14 (x.bM.map aM),.ax false false 14 (x.bQ.map aM)]) rfl) ?_|refine Za rfl ?_
  exact hK
 refine r2 _ ?_;clear r2;repeat first|refine Za (Zf ..) ?_|refine Za (Xf ..) ?_|refine Za (an (row:=[ar x.op,ar x.who,ar x.n.op,iv x.n.n,ar x.n.who,.ax false false 4 (x.n.kids.map ba),.str x.name,ar x.c.op,ar x.c.who,.str x.c.name,.ax false false 4 (x.c.ay.map ba),.ax false false 5 (x.c.kids.map cG),.ax false false 14 (x.bM.map aM),.ax false false 14 (x.bQ.map aM)]) rfl) ?_|refine Za rfl ?_
 have r3:∀K:aa→Prop,K (.bool (decide (x.op=8)||(decide (x.c.op=0)&&(decide (x.c.who=0)&&(x.c.name==[]&&decide (x.c.ay.length+x.c.kids.length+x.bM.length+x.bQ.length=0))))))→VV.gr (aa.bool (decide (x.op=8))) false (λk=>VV.rd (Q9 [(aa.ao [ar x.op,ar x.who,ar x.n.op,iv x.n.n,ar x.n.who,.ax false false 4 (x.n.kids.map ba),.str x.name,ar x.c.op,ar x.c.who,.str x.c.name,.ax false false 4 (x.c.ay.map ba),.ax false false 5 (x.c.kids.map cG),.ax false false 14 (x.bM.map aM),.ax false false 14 (x.bQ.map aM)] 7)] ([]:List ab)) k) λCr=>VV.gr (aa.bool (decide (x.op=8))) false (λk=>VV.rd (Zi [Cr] ([]:List ab)) k) λCs=>VV.gr (aa.bool (decide (x.op=8))) false (λk=>VV.rd (Ze 0 [Cs] ([]:List ab)) k) λCt=>VV.gr (aa.bool (decide (x.op=8))) false (λk=>VV.rd (Xh false 1 [Ct] ([]:List ab)) k) λCu=>VV.gr (aa.bool (decide (x.op=8))) false (λk=>VV.rd (Qn .eql false [Cu,(.int .i8 0)] ([]:List ab)) k) λCw=>VV.gr (aa.bool (decide (x.op=8))) false (λk=>VV.rd (Q9 [Cw] ([]:List ab)) k) λlD=>VV.gr lD true (λk=>VV.rd (Q9 [(aa.ao [ar x.op,ar x.who,ar x.n.op,iv x.n.n,ar x.n.who,.ax false false 4 (x.n.kids.map ba),.str x.name,ar x.c.op,ar x.c.who,.str x.c.name,.ax false false 4 (x.c.ay.map ba),.ax false false 5 (x.c.kids.map cG),.ax false false 14 (x.bM.map aM),.ax false false 14 (x.bQ.map aM)] 7)] ([]:List ab)) k) λCy=>VV.gr lD true (λk=>VV.rd (Zi [Cy] ([]:List ab)) k) λCz=>VV.gr lD true (λk=>VV.rd (Ze 1 [Cz] ([]:List ab)) k) λCA=>VV.gr lD true (λk=>VV.rd (Xh false 1 [CA] ([]:List ab)) k) λCC=>VV.gr lD true (λk=>VV.rd (Qn .eql false [CC,(.int .i8 0)] ([]:List ab)) k) λCE=>VV.gr (aa.bool (decide (x.op=8))) false (λk=>VV.rd (Ym [lD,CE,(.bool false)] ([]:List ab)) k) λCI=>VV.gr (aa.bool (decide (x.op=8))) false (λk=>VV.rd (Q9 [CI] ([]:List ab)) k) λlE=>VV.gr lE true (λk=>VV.rd (Q9 [(aa.ao [ar x.op,ar x.who,ar x.n.op,iv x.n.n,ar x.n.who,.ax false false 4 (x.n.kids.map ba),.str x.name,ar x.c.op,ar x.c.who,.str x.c.name,.ax false false 4 (x.c.ay.map ba),.ax false false 5 (x.c.kids.map cG),.ax false false 14 (x.bM.map aM),.ax false false 14 (x.bQ.map aM)] 7)] ([]:List ab)) k) λCL=>VV.gr lE true (λk=>VV.rd (Zi [CL] ([]:List ab)) k) λCO=>VV.gr lE true (λk=>VV.rd (Ze 2 [CO] ([]:List ab)) k) λCR=>VV.gr lE true (λk=>VV.rd (Xh false 1 [CR] ([]:List ab)) k) λCS=>VV.gr lE true (λk=>VV.rd (Qn .eql false [CS,(.str [])] ([]:List ab)) k) λCT=>VV.gr (aa.bool (decide (x.op=8))) false (λk=>VV.rd (Ym [lE,CT,(.bool false)] ([]:List ab)) k) λCV=>VV.gr (aa.bool (decide (x.op=8))) false (λk=>VV.rd (Q9 [CV] ([]:List ab)) k) λcC=>VV.gr cC true (λk=>VV.rd (Q9 [(aa.ao [ar x.op,ar x.who,ar x.n.op,iv x.n.n,ar x.n.who,.ax false false 4 (x.n.kids.map ba),.str x.name,ar x.c.op,ar x.c.who,.str x.c.name,.ax false false 4 (x.c.ay.map ba),.ax false false 5 (x.c.kids.map cG),.ax false false 14 (x.bM.map aM),.ax false false 14 (x.bQ.map aM)] 7)] ([]:List ab)) k) λCW=>VV.gr cC true (λk=>VV.rd (Zi [CW] ([]:List ab)) k) λCY=>VV.gr cC true (λk=>VV.rd (Ze 3 [CY] ([]:List ab)) k) λC0=>VV.gr cC true (λk=>VV.rd (Xh false 1 [C0] ([]:List ab)) k) λC3=>VV.gr cC true (λk=>VV.rd (Yp [C3] ([]:List ab)) k) λC6=>VV.gr cC true (λk=>VV.rd (Q9 [(aa.ao [ar x.op,ar x.who,ar x.n.op,iv x.n.n,ar x.n.who,.ax false false 4 (x.n.kids.map ba),.str x.name,ar x.c.op,ar x.c.who,.str x.c.name,.ax false false 4 (x.c.ay.map ba),.ax false false 5 (x.c.kids.map cG),.ax false false 14 (x.bM.map aM),.ax false false 14 (x.bQ.map aM)] 7)] ([]:List ab)) k) λC9=>VV.gr cC true (λk=>VV.rd (Zi [C9] ([]:List ab)) k) λDb=>VV.gr cC true (λk=>VV.rd (Ze 4 [Db] ([]:List ab)) k) λDd=>VV.gr cC true (λk=>VV.rd (Xh false 1 [Dd] ([]:List ab)) k) λDf=>VV.gr cC true (λk=>VV.rd (Yp [Df] ([]:List ab)) k) λDh=>VV.gr cC true (λk=>VV.rd (Qn .add false [C6,Dh] ([]:List ab)) k) λDj=>VV.gr cC true (λk=>VV.rd (Q9 [(aa.ao [ar x.op,ar x.who,ar x.n.op,iv x.n.n,ar x.n.who,.ax false false 4 (x.n.kids.map ba),.str x.name,ar x.c.op,ar x.c.who,.str x.c.name,.ax false false 4 (x.c.ay.map ba),.ax false false 5 (x.c.kids.map cG),.ax false false 14 (x.bM.map aM),.ax false false 14 (x.bQ.map aM)] 0)] ([]:List ab)) k) λDm=>VV.gr cC true (λk=>VV.rd (Zi [Dm] ([]:List ab)) k) λDq=>VV.gr cC true (λk=>VV.rd (Ze 12 [Dq] ([]:List ab)) k) λDs=>VV.gr cC true (λk=>VV.rd (Xh false 1 [Ds] ([]:List ab)) k) λxw=>VV.gr cC true (λk=>VV.rd (Yp [xw] ([]:List ab)) k) λxx=>VV.gr cC true (λk=>VV.rd (Qn .add false [Dj,xx] ([]:List ab)) k) λxy=>VV.gr cC true (λk=>VV.rd (Q9 [(aa.ao [ar x.op,ar x.who,ar x.n.op,iv x.n.n,ar x.n.who,.ax false false 4 (x.n.kids.map ba),.str x.name,ar x.c.op,ar x.c.who,.str x.c.name,.ax false false 4 (x.c.ay.map ba),.ax false false 5 (x.c.kids.map cG),.ax false false 14 (x.bM.map aM),.ax false false 14 (x.bQ.map aM)] 0)] ([]:List ab)) k) λxz=>VV.gr cC true (λk=>VV.rd (Zi [xz] ([]:List ab)) k) λxA=>VV.gr cC true (λk=>VV.rd (Ze 13 [xA] ([]:List ab)) k) λxB=>VV.gr cC true (λk=>VV.rd (Xh false 1 [xB] ([]:List ab)) k) λxC=>VV.gr cC true (λk=>VV.rd (Yp [xC] ([]:List ab)) k) λxD=>VV.gr cC true (λk=>VV.rd (Qn .add false [xy,xD] ([]:List ab)) k) λxE=>VV.gr cC true (λk=>VV.rd (Qn .eql false [xE,(.int .i64 0)] ([]:List ab)) k) λxF=>VV.gr (aa.bool (decide (x.op=8))) false (λk=>VV.rd (Ym [cC,xF,(.bool false)] ([]:List ab)) k) λxG=>VV.rd (Ym [(aa.bool (decide (x.op=8))),(.bool true),xG] ([]:List ab)) K:=by
  intro K hK;rcases aT (decide (x.op=8)) with h0|h0
  ·rw[h0] at hK ⊢;repeat first|refine Ya ?_|refine Xa ?_|refine Qa rfl ?_|refine Yb rfl ?_|refine Zc rfl ?_|refine Qc rfl ?_|refine Za (Zf ..) ?_|refine Za (Xf ..) ?_|refine Za (an (row:=[ar x.op,ar x.who,ar x.n.op,iv x.n.n,ar x.n.who,.ax false false 4 (x.n.kids.map ba),.str x.name,ar x.c.op,ar x.c.who,.str x.c.name,.ax false false 4 (x.c.ay.map ba),.ax false false 5 (x.c.kids.map cG),.ax false false 14 (x.bM.map aM),.ax false false 14 (x.bQ.map aM)]) rfl) ?_|refine Za rfl ?_
   exact hK
  rw[h0,Bool.false_or] at hK;rw[h0];repeat first|refine Ya ?_|refine Xa ?_|refine Za (Zf ..) ?_|refine Za (Xf ..) ?_|refine Za (an (row:=[ar x.op,ar x.who,ar x.n.op,iv x.n.n,ar x.n.who,.ax false false 4 (x.n.kids.map ba),.str x.name,ar x.c.op,ar x.c.who,.str x.c.name,.ax false false 4 (x.c.ay.map ba),.ax false false 5 (x.c.kids.map cG),.ax false false 14 (x.bM.map aM),.ax false false 14 (x.bQ.map aM)]) rfl) ?_|refine Za rfl ?_
  rcases aT (decide (x.c.op=0)) with h1|h1
  rotate_left
  ·rw[h1];repeat first|refine Ya ?_|refine Xa ?_|refine Qa rfl ?_|refine Yb rfl ?_|refine Zc rfl ?_|refine Qc rfl ?_|refine Za (Zf ..) ?_|refine Za (Xf ..) ?_|refine Za (an (row:=[ar x.op,ar x.who,ar x.n.op,iv x.n.n,ar x.n.who,.ax false false 4 (x.n.kids.map ba),.str x.name,ar x.c.op,ar x.c.who,.str x.c.name,.ax false false 4 (x.c.ay.map ba),.ax false false 5 (x.c.kids.map cG),.ax false false 14 (x.bM.map aM),.ax false false 14 (x.bQ.map aM)]) rfl) ?_|refine Za rfl ?_
   rw[h1] at hK;exact hK
  rw[h1];repeat first|refine Ya ?_|refine Xa ?_|refine Za (Zf ..) ?_|refine Za (Xf ..) ?_|refine Za (an (row:=[ar x.op,ar x.who,ar x.n.op,iv x.n.n,ar x.n.who,.ax false false 4 (x.n.kids.map ba),.str x.name,ar x.c.op,ar x.c.who,.str x.c.name,.ax false false 4 (x.c.ay.map ba),.ax false false 5 (x.c.kids.map cG),.ax false false 14 (x.bM.map aM),.ax false false 14 (x.bQ.map aM)]) rfl) ?_|refine Za rfl ?_
  rcases aT (decide (x.c.who=0)) with h2|h2
  rotate_left
  ·rw[h2];repeat first|refine Ya ?_|refine Xa ?_|refine Qa rfl ?_|refine Yb rfl ?_|refine Zc rfl ?_|refine Qc rfl ?_|refine Za (Zf ..) ?_|refine Za (Xf ..) ?_|refine Za (an (row:=[ar x.op,ar x.who,ar x.n.op,iv x.n.n,ar x.n.who,.ax false false 4 (x.n.kids.map ba),.str x.name,ar x.c.op,ar x.c.who,.str x.c.name,.ax false false 4 (x.c.ay.map ba),.ax false false 5 (x.c.kids.map cG),.ax false false 14 (x.bM.map aM),.ax false false 14 (x.bQ.map aM)]) rfl) ?_|refine Za rfl ?_
   rw[h1,h2] at hK;exact hK
  rw[h2];repeat first|refine Ya ?_|refine Xa ?_|refine Za (Zf ..) ?_|refine Za (Xf ..) ?_|refine Za (an (row:=[ar x.op,ar x.who,ar x.n.op,iv x.n.n,ar x.n.who,.ax false false 4 (x.n.kids.map ba),.str x.name,ar x.c.op,ar x.c.who,.str x.c.name,.ax false false 4 (x.c.ay.map ba),.ax false false 5 (x.c.kids.map cG),.ax false false 14 (x.bM.map aM),.ax false false 14 (x.bQ.map aM)]) rfl) ?_|refine Za rfl ?_
  rcases aT (x.c.name==[]) with h3|h3
  rotate_left
  ·rw[h3];repeat first|refine Ya ?_|refine Xa ?_|refine Qa rfl ?_|refine Yb rfl ?_|refine Zc rfl ?_|refine Qc rfl ?_|refine Za (Zf ..) ?_|refine Za (Xf ..) ?_|refine Za (an (row:=[ar x.op,ar x.who,ar x.n.op,iv x.n.n,ar x.n.who,.ax false false 4 (x.n.kids.map ba),.str x.name,ar x.c.op,ar x.c.who,.str x.c.name,.ax false false 4 (x.c.ay.map ba),.ax false false 5 (x.c.kids.map cG),.ax false false 14 (x.bM.map aM),.ax false false 14 (x.bQ.map aM)]) rfl) ?_|refine Za rfl ?_
   rw[h1,h2,h3] at hK;exact hK
  rw[h3];repeat first|refine Ya ?_|refine Xa ?_|refine Za (Zf ..) ?_|refine Za (Xf ..) ?_|refine Za (an (row:=[ar x.op,ar x.who,ar x.n.op,iv x.n.n,ar x.n.who,.ax false false 4 (x.n.kids.map ba),.str x.name,ar x.c.op,ar x.c.who,.str x.c.name,.ax false false 4 (x.c.ay.map ba),.ax false false 5 (x.c.kids.map cG),.ax false false 14 (x.bM.map aM),.ax false false 14 (x.bQ.map aM)]) rfl) ?_|refine Za rfl ?_
  rw[h1,h2,h3,Bool.true_and,Bool.true_and,Bool.true_and] at hK;rw[List.length_map,List.length_map,List.length_map,List.length_map,bc (n:=(x.c.ay.length:Int)+x.c.kids.length) (by omega) (by omega),bc (n:=(x.c.ay.length:Int)+x.c.kids.length+x.bM.length) (by omega) (by omega),bc (n:=(x.c.ay.length:Int)+x.c.kids.length+x.bM.length+x.bQ.length) (by omega) (by omega)]
  grind [decide]
 refine r3 _ ?_;clear r3;unfold gm;generalize (bd x.op||dQ x.n)=b1;generalize (decide (x.op=7)||x.name==[])=b2;generalize (decide (x.op=8)||(decide (x.c.op=0)&&(decide (x.c.who=0)&&(x.c.name==[]&&decide (x.c.ay.length+x.c.kids.length+x.bM.length+x.bQ.length=0)))))=b3;cases b1<;>cases b2
 all_goals (repeat (first|refine Ya ?_|refine Xa ?_|refine Qa rfl ?_|refine Yb rfl ?_|refine Zc rfl ?_|refine Qc rfl ?_|refine Za (Zf ..) ?_|refine Za (Xf ..) ?_|refine Za (an (row:=[ar x.op,ar x.who,ar x.n.op,iv x.n.n,ar x.n.who,.ax false false 4 (x.n.kids.map ba),.str x.name,ar x.c.op,ar x.c.who,.str x.c.name,.ax false false 4 (x.c.ay.map ba),.ax false false 5 (x.c.kids.map cG),.ax false false 14 (x.bM.map aM),.ax false false 14 (x.bQ.map aM)]) rfl) ?_|refine Za rfl ?_))
 all_goals rfl
end Go.Ah.Tz
end
section
namespace Go.Ah.Tz
open Go.Proofs.Tryz (prog)
def gI(cs:List Cd)(t:Bool)(d:Int)(x:Ef):Bool:=
 if x.op=0∨x.op=1 then gB x.who||(decide (x.who=2)&&t)
 else if x.op=2∨x.op=4∨x.op=6 then gB x.who
 else if x.op=3∨x.op=5 then decide (x.who=0)
 else if x.op=7 then decide (x.who=0)&&gf cs x.name true
 else if x.op=8 then decide (x.who=0)&&(iz cs t x.c&&(bT cs t (d+1) x.bM&&bT cs t (d+1) x.bQ))
 else false
theorem ZcY(x:Ef):(decide (x.c.op=0)&&(decide (x.c.who=0)&&(x.c.name==[]&&decide (x.c.ay.length+x.c.kids.length+x.bM.length+x.bQ.length=0))))=(eU x.c&&(decide (x.bM.length=0)&&decide (x.bQ.length=0))):=by
 grind [eU]
theorem XdV(cs:List Cd)(t:Bool)(d:Int)(x:Ef):nF cs t d x=((gm x&&(!bd x.op||eT t x.n))&&gI cs t d x):=by
 rw[zg,gm,ZcY];by_cases hr:0≤x.op∧x.op≤8;rotate_left
 ·grind [gI]
 obtain⟨r1,r2⟩:=hr;rw[decide_eq_true r1,decide_eq_true r2,Bool.true_and,Bool.true_and];generalize eU x.c=b1;generalize decide (x.bM.length=0)=b2;generalize decide (x.bQ.length=0)=b3;generalize dQ x.n=b4;generalize eT t x.n=b5;generalize (x.name==[])=b6;unfold gI gJ iC
 grind [bd]
attribute [local irreducible] ak.rd ak.pu ak.wr ak.dr ak.gr ak.gw ak.gl ak.gd ak.opt aH W
set_option maxHeartbeats 4000000
theorem YdV(x:Ef):lV (aM x) (0+2) x.n:=yS x
theorem ZdV(x:Ef):qA (aM x) (0+7) x.c:=yg x
theorem tG(m:List (Tx×Bool))(cs:List Cd)(hU:mu m cs)(t:Bool):∀(k:Nat) (l:List Ef) (d:Int),SizeOf.sizeOf l≤k→bG l=true→0≤d→PC 130 [.ao (cm m t) 0,ic l,iv d] (.bool (bT cs t d l))
 |0,l,_,h,_,_=>by cases l<;>simp at h
 |k+1,l,d,hk,hf,hd=>by
  refine Yc hP g130.ok rfl rfl ?_;rw[H3.e]; unfold g130; dsimp only;have hlen:=YH hf;rw[cO] at hlen;refine Za rfl (Za rfl ?_);refine XK rfl rfl ?_;refine Zb (λh=>?_) (λh=>?_)
  ·grind [bT]
  have h:l.length≤16∧d≤8:=by simp at h; omega
  have hl:bT cs t d l=dp cs t d l:=by simp[bT,h]
  rw[hl];clear hl;refine Za rfl ?_;refine Xj (ι:=Nat) (λi vs σ=>vs=[iv i]∧σ=[]∧i≤l.length∧dp cs t d l=dp cs t d (l.drop i)) (λi=>l.length-i) 0 ⟨rfl,rfl,by omega,by simp⟩ ?_;rintro i vs σ again ⟨rfl,rfl,hi,hu⟩ aZ;refine Za rfl ?_;refine Zb (λh=>?_) (λh=>?_);rotate_left
  ·grind [dp]
  have oH:i<l.length:=by simpa using h
  have cX:l.drop i=l[i]::l.drop (i+1):=by rw[fA oH]
  rw[cX,dp] at hu;have hm:l[i]∈l:=List.getElem_mem oH;have dU:=List.sizeOf_lt_of_mem hm;have iT:=ZS hf hm;have ix:=λ(s:List ab)=>Zp s aM false false 14 l .i64 i oH;generalize l[i]=x at hu dU iT ix;have pJ:=DJ x;rename_i hd8;obtain⟨h16,h8⟩:=hd8;have go:∀c,c=nF cs t d x→VV.rd (pd .not [.bool c] []) λt152=>VV.test t152 (aa.bool false=aa.bool (dp cs t d l)) (VV.rd (Qn .add false [iv i,(.int .i64 1)] []) λt153=>again [t153] []):=by
   rintro c hc;refine Za rfl ?_;rw[←hc] at hu;refine Zb (λh=>?_) (λh=>?_)
   ·simp_all
   ·have h:c=true:=by simpa using h
    rw[h,Bool.true_and] at hu;refine Za (Yj ..) ?_;rw[Qd (n:=i) (by omega)]
    grind
  have stop:nF cs t d x=false→aa.bool false=aa.bool (dp cs t d l):=by
   intro he; rw[hu,he]; rfl
  clear aZ hu;rw[XdV] at stop go;refine Za (ix _) ?_;refine Xb (c209 x iT) rfl g160.ok.plain rfl ?_;have r1:∀K:aa→List ab→Prop,K (.bool (gm x&&(!bd x.op||eT t x.n))) []→VV.gr (aa.bool (gm x)) true (λk=>VV.rd (Q9 [(aa.ao (aM x) 0)] []) k) λA9=>VV.gr (aa.bool (gm x)) true (λk=>VV.rd (Zi [A9] []) k) λBb=>VV.gr (aa.bool (gm x)) true (λk=>VV.rd (Ze 0 [Bb] []) k) λBe=>VV.gr (aa.bool (gm x)) true (λk=>VV.rd (Xh false 1 [Be] []) k) λBh=>VV.gw (aa.bool (gm x)) true (λk=>VV.call (.call 161) [Bh] [] k) ([]:List ab) λBj σ=>VV.gr (aa.bool (gm x)) true (λk=>VV.rd (pd .not [Bj] σ) k) λBp=>VV.gr (aa.bool (gm x)) true (λk=>VV.rd (Q9 [Bp] σ) k) λlz=>VV.gr lz false (λk=>VV.rd (Q9 [(aa.ao (cm m t) 0)] σ) k) λBA=>VV.gr lz false (λk=>VV.rd (Q9 [(aa.ao (aM x) 0)] σ) k) λBD=>VV.gr lz false (λk=>VV.rd (Zi [BD] σ) k) λBH=>VV.gr lz false (λk=>VV.rd (Ze 2 [BH] σ) k) λBK=>VV.gw lz false (λk=>VV.call (.call 162) [BA,BK] σ k) σ λBN σ=>VV.gr (aa.bool (gm x)) true (λk=>VV.rd (Ym [lz,(.bool true),BN] σ) k) λBR=>VV.rd (Ym [(aa.bool (gm x)),BR,(.bool false)] σ) (λv=>K v σ):=by
   intro K hK;rcases aT (gm x) with h|h
   rotate_left
   ·rw[h] at hK ⊢;repeat first|refine Ya ?_|refine Xa ?_|refine Qa rfl ?_|refine Yb rfl ?_|refine Zc rfl ?_|refine Qc rfl ?_|refine Za (an (bq x)) ?_|refine Za (an (bR x)) ?_|refine Za (an (bX x)) ?_|refine Za (an (Qr x)) ?_|refine Za (an (Zs x)) ?_|refine Za (Zf ..) ?_|refine Za (Xf ..) ?_|refine Za (an (row:=cm m t) rfl) ?_|refine Za (Yl ..) ?_|refine Za rfl ?_
    exact hK
   rw[h,Bool.true_and] at hK;rw[h];repeat first|refine Ya ?_|refine Xa ?_|refine Za (an (bq x)) ?_|refine Za (an (bR x)) ?_|refine Za (an (bX x)) ?_|refine Za (an (Qr x)) ?_|refine Za (an (Zs x)) ?_|refine Za (Zf ..) ?_|refine Za (Xf ..) ?_|refine Za (an (row:=cm m t) rfl) ?_|refine Za (Yl ..) ?_|refine Za rfl ?_
   refine Xb (c210 _) rfl g161.ok.plain rfl ?_;repeat first|refine Ya ?_|refine Xa ?_|refine Za (an (bq x)) ?_|refine Za (an (bR x)) ?_|refine Za (an (bX x)) ?_|refine Za (an (Qr x)) ?_|refine Za (an (Zs x)) ?_|refine Za (Zf ..) ?_|refine Za (Xf ..) ?_|refine Za (an (row:=cm m t) rfl) ?_|refine Za (Yl ..) ?_|refine Za rfl ?_
   rcases aT (!bd x.op) with h2|h2
   ·rw[h2] at hK ⊢;repeat first|refine Ya ?_|refine Xa ?_|refine Qa rfl ?_|refine Yb rfl ?_|refine Zc rfl ?_|refine Qc rfl ?_|refine Za (an (bq x)) ?_|refine Za (an (bR x)) ?_|refine Za (an (bX x)) ?_|refine Za (an (Qr x)) ?_|refine Za (an (Zs x)) ?_|refine Za (Zf ..) ?_|refine Za (Xf ..) ?_|refine Za (an (row:=cm m t) rfl) ?_|refine Za (Yl ..) ?_|refine Za rfl ?_
    exact hK
   rw[h2,Bool.false_or] at hK;rw[h2];repeat first|refine Ya ?_|refine Xa ?_|refine Za (an (bq x)) ?_|refine Za (an (bR x)) ?_|refine Za (an (bX x)) ?_|refine Za (an (Qr x)) ?_|refine Za (an (Zs x)) ?_|refine Za (Zf ..) ?_|refine Za (Xf ..) ?_|refine Za (an (row:=cm m t) rfl) ?_|refine Za (Yl ..) ?_|refine Za rfl ?_
   refine Xb (c211 _ t x.n _ _ (YdV x) (vR iT)) rfl g162.ok.plain rfl ?_;repeat first|refine Ya ?_|refine Xa ?_|refine Za (an (bq x)) ?_|refine Za (an (bR x)) ?_|refine Za (an (bX x)) ?_|refine Za (an (Qr x)) ?_|refine Za (an (Zs x)) ?_|refine Za (Zf ..) ?_|refine Za (Xf ..) ?_|refine Za (an (row:=cm m t) rfl) ?_|refine Za (Yl ..) ?_|refine Za rfl ?_
   exact hK
  refine r1 _ ?_;clear r1;generalize (gm x&&(!bd x.op||eT t x.n))=z at go stop ⊢;repeat first|refine Za (an (bq x)) ?_|refine Za (an (bR x)) ?_|refine Za (an (bX x)) ?_|refine Za (an (Qr x)) ?_|refine Za (an (Zs x)) ?_|refine Za (Zf ..) ?_|refine Za (Xf ..) ?_|refine Za (an (row:=cm m t) rfl) ?_|refine Za (Yl ..) ?_|refine Za rfl ?_
  refine Qh λk28 OY=>?_;have kk:∀c,c=(z&&gI cs t d x)→k28 [.bool c] []:=by
   simp_all
  clear OY go;repeat first|refine Za (an (bq x)) ?_|refine Za (an (bR x)) ?_|refine Za (an (bX x)) ?_|refine Za (an (Qr x)) ?_|refine Za (an (Zs x)) ?_|refine Za (Zf ..) ?_|refine Za (Xf ..) ?_|refine Za (an (row:=cm m t) rfl) ?_|refine Za (Yl ..) ?_|refine Za rfl ?_
  refine Qh λk1 fo=>?_;have m1:∀c,c=decide (x.op=0∨x.op=1)→k1 [.bool c] []:=by
   rintro c hc;rw[fo]; clear fo k1;refine Zb (λh=>?_) (λh=>?_)
   ·rw[h] at hc;have a1:x.op=0∨x.op=1:=by simpa using hc.symm
    have e:gI cs t d x=(gB x.who||(decide (x.who=2)&&t)):=by rw[gI,if_pos a1]
    rw[e] at kk;cases z with
    |false=>
     repeat first|refine Ya ?_|refine Xa ?_|refine Qa rfl ?_|refine Yb rfl ?_|refine Zc rfl ?_|refine Qc rfl ?_|refine Za (an (bq x)) ?_|refine Za (an (bR x)) ?_|refine Za (an (bX x)) ?_|refine Za (an (Qr x)) ?_|refine Za (an (Zs x)) ?_|refine Za (Zf ..) ?_|refine Za (Xf ..) ?_|refine Za (an (row:=cm m t) rfl) ?_|refine Za (Yl ..) ?_|refine Za rfl ?_
     exact kk _ rfl
    |true=>
     repeat first|refine Ya ?_|refine Xa ?_|refine Za (an (bq x)) ?_|refine Za (an (bR x)) ?_|refine Za (an (bX x)) ?_|refine Za (an (Qr x)) ?_|refine Za (an (Zs x)) ?_|refine Za (Zf ..) ?_|refine Za (Xf ..) ?_|refine Za (an (row:=cm m t) rfl) ?_|refine Za (Yl ..) ?_|refine Za rfl ?_
     refine Xb (c212 _) rfl g163.ok.plain rfl ?_;repeat first|refine Ya ?_|refine Xa ?_|refine Za (an (bq x)) ?_|refine Za (an (bR x)) ?_|refine Za (an (bX x)) ?_|refine Za (an (Qr x)) ?_|refine Za (an (Zs x)) ?_|refine Za (Zf ..) ?_|refine Za (Xf ..) ?_|refine Za (an (row:=cm m t) rfl) ?_|refine Za (Yl ..) ?_|refine Za rfl ?_
     rcases aT (gB x.who) with h2|h2
     ·rw[h2] at kk ⊢;repeat first|refine Ya ?_|refine Xa ?_|refine Qa rfl ?_|refine Yb rfl ?_|refine Zc rfl ?_|refine Qc rfl ?_|refine Za (an (bq x)) ?_|refine Za (an (bR x)) ?_|refine Za (an (bX x)) ?_|refine Za (an (Qr x)) ?_|refine Za (an (Zs x)) ?_|refine Za (Zf ..) ?_|refine Za (Xf ..) ?_|refine Za (an (row:=cm m t) rfl) ?_|refine Za (Yl ..) ?_|refine Za rfl ?_
      exact kk _ rfl
     rw[h2] at kk ⊢;repeat first|refine Ya ?_|refine Xa ?_|refine Za (an (bq x)) ?_|refine Za (an (bR x)) ?_|refine Za (an (bX x)) ?_|refine Za (an (Qr x)) ?_|refine Za (an (Zs x)) ?_|refine Za (Zf ..) ?_|refine Za (Xf ..) ?_|refine Za (an (row:=cm m t) rfl) ?_|refine Za (Yl ..) ?_|refine Za rfl ?_
     rcases aT (decide (x.who=2)) with h3|h3
     ·rw[h3] at kk ⊢;repeat first|refine Ya ?_|refine Xa ?_|refine Za (an (bq x)) ?_|refine Za (an (bR x)) ?_|refine Za (an (bX x)) ?_|refine Za (an (Qr x)) ?_|refine Za (an (Zs x)) ?_|refine Za (Zf ..) ?_|refine Za (Xf ..) ?_|refine Za (an (row:=cm m t) rfl) ?_|refine Za (Yl ..) ?_|refine Za rfl ?_
      exact kk _ (by simp)
     rw[h3] at kk ⊢;repeat first|refine Ya ?_|refine Xa ?_|refine Qa rfl ?_|refine Yb rfl ?_|refine Zc rfl ?_|refine Qc rfl ?_|refine Za (an (bq x)) ?_|refine Za (an (bR x)) ?_|refine Za (an (bX x)) ?_|refine Za (an (Qr x)) ?_|refine Za (an (Zs x)) ?_|refine Za (Zf ..) ?_|refine Za (Xf ..) ?_|refine Za (an (row:=cm m t) rfl) ?_|refine Za (Yl ..) ?_|refine Za rfl ?_
     exact kk _ (by simp)
   rw[h] at hc;have a1:¬(x.op=0∨x.op=1):=by simpa using hc.symm
   repeat first|refine Za (an (bq x)) ?_|refine Za (an (bR x)) ?_|refine Za (an (bX x)) ?_|refine Za (an (Qr x)) ?_|refine Za (an (Zs x)) ?_|refine Za (Zf ..) ?_|refine Za (Xf ..) ?_|refine Za (an (row:=cm m t) rfl) ?_|refine Za (Yl ..) ?_|refine Za rfl ?_
   refine Qh λk1 fo=>?_;have m2:∀c,c=decide (x.op=2∨x.op=4∨x.op=6)→k1 [.bool c] []:=by
    rintro c hc;rw[fo]; clear fo k1;refine Zb (λh=>?_) (λh=>?_)
    ·rw[h] at hc;have a2:x.op=2∨x.op=4∨x.op=6:=by simpa using hc.symm
     have e:gI cs t d x=gB x.who:=by rw[gI,if_neg a1,if_pos a2]
     rw[e] at kk;cases z with
     |false=>
      repeat first|refine Ya ?_|refine Xa ?_|refine Qa rfl ?_|refine Yb rfl ?_|refine Zc rfl ?_|refine Qc rfl ?_|refine Za (an (bq x)) ?_|refine Za (an (bR x)) ?_|refine Za (an (bX x)) ?_|refine Za (an (Qr x)) ?_|refine Za (an (Zs x)) ?_|refine Za (Zf ..) ?_|refine Za (Xf ..) ?_|refine Za (an (row:=cm m t) rfl) ?_|refine Za (Yl ..) ?_|refine Za rfl ?_
      exact kk _ rfl
     |true=>
      repeat first|refine Ya ?_|refine Xa ?_|refine Za (an (bq x)) ?_|refine Za (an (bR x)) ?_|refine Za (an (bX x)) ?_|refine Za (an (Qr x)) ?_|refine Za (an (Zs x)) ?_|refine Za (Zf ..) ?_|refine Za (Xf ..) ?_|refine Za (an (row:=cm m t) rfl) ?_|refine Za (Yl ..) ?_|refine Za rfl ?_
      refine Xb (c212 _) rfl g163.ok.plain rfl ?_;repeat first|refine Ya ?_|refine Xa ?_|refine Za (an (bq x)) ?_|refine Za (an (bR x)) ?_|refine Za (an (bX x)) ?_|refine Za (an (Qr x)) ?_|refine Za (an (Zs x)) ?_|refine Za (Zf ..) ?_|refine Za (Xf ..) ?_|refine Za (an (row:=cm m t) rfl) ?_|refine Za (Yl ..) ?_|refine Za rfl ?_
      exact kk _ (by simp)
    rw[h] at hc;have a2:¬(x.op=2∨x.op=4∨x.op=6):=by simpa using hc.symm
    repeat first|refine Za (an (bq x)) ?_|refine Za (an (bR x)) ?_|refine Za (an (bX x)) ?_|refine Za (an (Qr x)) ?_|refine Za (an (Zs x)) ?_|refine Za (Zf ..) ?_|refine Za (Xf ..) ?_|refine Za (an (row:=cm m t) rfl) ?_|refine Za (Yl ..) ?_|refine Za rfl ?_
    refine Qh λk1 fo=>?_;have m3:∀c,c=decide (x.op=3∨x.op=5)→k1 [.bool c] []:=by
     rintro c hc;rw[fo]; clear fo k1;refine Zb (λh=>?_) (λh=>?_)
     ·rw[h] at hc;have a3:x.op=3∨x.op=5:=by simpa using hc.symm
      have e:gI cs t d x=decide (x.who=0):=by grind [gI]
      rw[e] at kk;cases z with
      |false=>
       repeat first|refine Ya ?_|refine Xa ?_|refine Qa rfl ?_|refine Yb rfl ?_|refine Zc rfl ?_|refine Qc rfl ?_|refine Za (an (bq x)) ?_|refine Za (an (bR x)) ?_|refine Za (an (bX x)) ?_|refine Za (an (Qr x)) ?_|refine Za (an (Zs x)) ?_|refine Za (Zf ..) ?_|refine Za (Xf ..) ?_|refine Za (an (row:=cm m t) rfl) ?_|refine Za (Yl ..) ?_|refine Za rfl ?_
       exact kk _ rfl
      |true=>
       repeat first|refine Ya ?_|refine Xa ?_|refine Za (an (bq x)) ?_|refine Za (an (bR x)) ?_|refine Za (an (bX x)) ?_|refine Za (an (Qr x)) ?_|refine Za (an (Zs x)) ?_|refine Za (Zf ..) ?_|refine Za (Xf ..) ?_|refine Za (an (row:=cm m t) rfl) ?_|refine Za (Yl ..) ?_|refine Za rfl ?_
       exact kk _ (by simp)
     rw[h] at hc;have a3:¬(x.op=3∨x.op=5):=by simpa using hc.symm
     repeat first|refine Za (an (bq x)) ?_|refine Za (an (bR x)) ?_|refine Za (an (bX x)) ?_|refine Za (an (Qr x)) ?_|refine Za (an (Zs x)) ?_|refine Za (Zf ..) ?_|refine Za (Xf ..) ?_|refine Za (an (row:=cm m t) rfl) ?_|refine Za (Yl ..) ?_|refine Za rfl ?_
     refine Zb (λa7=>?_) (λa7=>?_)
     ·have a7:x.op=7:=by simpa using a7
      have e:gI cs t d x=(decide (x.who=0)&&(bJ x.name m).getD false):=by
       rw[gI,if_neg a1,if_neg a2,if_neg a3,if_pos a7,hU];cases bJ x.name m<;>simp
      rw[e] at kk;cases z with
      |false=>
       repeat first|refine Ya ?_|refine Xa ?_|refine Qa rfl ?_|refine Yb rfl ?_|refine Zc rfl ?_|refine Qc rfl ?_|refine Za (an (bq x)) ?_|refine Za (an (bR x)) ?_|refine Za (an (bX x)) ?_|refine Za (an (Qr x)) ?_|refine Za (an (Zs x)) ?_|refine Za (Zf ..) ?_|refine Za (Xf ..) ?_|refine Za (an (row:=cm m t) rfl) ?_|refine Za (Yl ..) ?_|refine Za rfl ?_
       exact kk _ rfl
      |true=>
       repeat first|refine Ya ?_|refine Xa ?_|refine Za (an (bq x)) ?_|refine Za (an (bR x)) ?_|refine Za (an (bX x)) ?_|refine Za (an (Qr x)) ?_|refine Za (an (Zs x)) ?_|refine Za (Zf ..) ?_|refine Za (Xf ..) ?_|refine Za (an (row:=cm m t) rfl) ?_|refine Za (Yl ..) ?_|refine Za rfl ?_
       rcases aT (decide (x.who=0)) with h3|h3
       ·rw[h3] at kk ⊢;repeat first|refine Ya ?_|refine Xa ?_|refine Za (an (bq x)) ?_|refine Za (an (bR x)) ?_|refine Za (an (bX x)) ?_|refine Za (an (Qr x)) ?_|refine Za (an (Zs x)) ?_|refine Za (Zf ..) ?_|refine Za (Xf ..) ?_|refine Za (an (row:=cm m t) rfl) ?_|refine Za (Yl ..) ?_|refine Za rfl ?_
        exact kk _ (by simp)
       rw[h3] at kk ⊢;repeat first|refine Ya ?_|refine Xa ?_|refine Qa rfl ?_|refine Yb rfl ?_|refine Zc rfl ?_|refine Qc rfl ?_|refine Za (an (bq x)) ?_|refine Za (an (bR x)) ?_|refine Za (an (bX x)) ?_|refine Za (an (Qr x)) ?_|refine Za (an (Zs x)) ?_|refine Za (Zf ..) ?_|refine Za (Xf ..) ?_|refine Za (an (row:=cm m t) rfl) ?_|refine Za (Yl ..) ?_|refine Za rfl ?_
       exact kk _ (by simp)
     have a7:x.op≠7:=by simpa using a7
     repeat first|refine Za (an (bq x)) ?_|refine Za (an (bR x)) ?_|refine Za (an (bX x)) ?_|refine Za (an (Qr x)) ?_|refine Za (an (Zs x)) ?_|refine Za (Zf ..) ?_|refine Za (Xf ..) ?_|refine Za (an (row:=cm m t) rfl) ?_|refine Za (Yl ..) ?_|refine Za rfl ?_
     refine Zb (λa8=>?_) (λa8=>?_);rotate_left
     ·grind [gI]
     have a8:x.op=8:=by simpa using a8
     have e:gI cs t d x=(decide (x.who=0)&&(iz cs t x.c&&(bT cs t (d+1) x.bM&&bT cs t (d+1) x.bQ))):=by
      grind [gI]
     rw[e] at kk;have hw:IntKind.i64.wrap (d+1)=d+1:=bc (by omega) (by omega);cases z with
     |false=>
      repeat first|refine Ya ?_|refine Xa ?_|refine Qa rfl ?_|refine Yb rfl ?_|refine Zc rfl ?_|refine Qc rfl ?_|refine Za (an (bq x)) ?_|refine Za (an (bR x)) ?_|refine Za (an (bX x)) ?_|refine Za (an (Qr x)) ?_|refine Za (an (Zs x)) ?_|refine Za (Zf ..) ?_|refine Za (Xf ..) ?_|refine Za (an (row:=cm m t) rfl) ?_|refine Za (Yl ..) ?_|refine Za rfl ?_
      exact kk _ rfl
     |true=>
      repeat first|refine Ya ?_|refine Xa ?_|refine Za (an (bq x)) ?_|refine Za (an (bR x)) ?_|refine Za (an (bX x)) ?_|refine Za (an (Qr x)) ?_|refine Za (an (Zs x)) ?_|refine Za (Zf ..) ?_|refine Za (Xf ..) ?_|refine Za (an (row:=cm m t) rfl) ?_|refine Za (Yl ..) ?_|refine Za rfl ?_
      rcases aT (decide (x.who=0)) with h3|h3
      rotate_left
      ·rw[h3] at kk ⊢;repeat first|refine Ya ?_|refine Xa ?_|refine Qa rfl ?_|refine Yb rfl ?_|refine Zc rfl ?_|refine Qc rfl ?_|refine Za (an (bq x)) ?_|refine Za (an (bR x)) ?_|refine Za (an (bX x)) ?_|refine Za (an (Qr x)) ?_|refine Za (an (Zs x)) ?_|refine Za (Zf ..) ?_|refine Za (Xf ..) ?_|refine Za (an (row:=cm m t) rfl) ?_|refine Za (Yl ..) ?_|refine Za rfl ?_
       exact kk _ (by simp)
      rw[h3] at kk ⊢;repeat first|refine Ya ?_|refine Xa ?_|refine Za (an (bq x)) ?_|refine Za (an (bR x)) ?_|refine Za (an (bX x)) ?_|refine Za (an (Qr x)) ?_|refine Za (an (Zs x)) ?_|refine Za (Zf ..) ?_|refine Za (Xf ..) ?_|refine Za (an (row:=cm m t) rfl) ?_|refine Za (Yl ..) ?_|refine Za rfl ?_
      refine Xb (c213 m cs hU t x.c _ _ (ZdV x) (Y9 iT)) rfl g164.ok.plain rfl ?_;repeat first|refine Ya ?_|refine Xa ?_|refine Za (an (bq x)) ?_|refine Za (an (bR x)) ?_|refine Za (an (bX x)) ?_|refine Za (an (Qr x)) ?_|refine Za (an (Zs x)) ?_|refine Za (Zf ..) ?_|refine Za (Xf ..) ?_|refine Za (an (row:=cm m t) rfl) ?_|refine Za (Yl ..) ?_|refine Za rfl ?_
      rcases aT (iz cs t x.c) with h4|h4
      rotate_left
      ·rw[h4] at kk ⊢;repeat first|refine Ya ?_|refine Xa ?_|refine Qa rfl ?_|refine Yb rfl ?_|refine Zc rfl ?_|refine Qc rfl ?_|refine Za (an (bq x)) ?_|refine Za (an (bR x)) ?_|refine Za (an (bX x)) ?_|refine Za (an (Qr x)) ?_|refine Za (an (Zs x)) ?_|refine Za (Zf ..) ?_|refine Za (Xf ..) ?_|refine Za (an (row:=cm m t) rfl) ?_|refine Za (Yl ..) ?_|refine Za rfl ?_
       exact kk _ (by simp)
      rw[h4] at kk ⊢;repeat first|refine Ya ?_|refine Xa ?_|refine Za (an (bq x)) ?_|refine Za (an (bR x)) ?_|refine Za (an (bX x)) ?_|refine Za (an (Qr x)) ?_|refine Za (an (Zs x)) ?_|refine Za (Zf ..) ?_|refine Za (Xf ..) ?_|refine Za (an (row:=cm m t) rfl) ?_|refine Za (Yl ..) ?_|refine Za rfl ?_
      rw[hw];refine Xb (tG m cs hU t k x.bM (d+1) (by omega) (XR iT) (by omega)) rfl g130.ok.plain rfl ?_;repeat first|refine Ya ?_|refine Xa ?_|refine Za (an (bq x)) ?_|refine Za (an (bR x)) ?_|refine Za (an (bX x)) ?_|refine Za (an (Qr x)) ?_|refine Za (an (Zs x)) ?_|refine Za (Zf ..) ?_|refine Za (Xf ..) ?_|refine Za (an (row:=cm m t) rfl) ?_|refine Za (Yl ..) ?_|refine Za rfl ?_
      rcases aT (bT cs t (d+1) x.bM) with h5|h5
      rotate_left
      ·rw[h5] at kk ⊢;repeat first|refine Ya ?_|refine Xa ?_|refine Qa rfl ?_|refine Yb rfl ?_|refine Zc rfl ?_|refine Qc rfl ?_|refine Za (an (bq x)) ?_|refine Za (an (bR x)) ?_|refine Za (an (bX x)) ?_|refine Za (an (Qr x)) ?_|refine Za (an (Zs x)) ?_|refine Za (Zf ..) ?_|refine Za (Xf ..) ?_|refine Za (an (row:=cm m t) rfl) ?_|refine Za (Yl ..) ?_|refine Za rfl ?_
       exact kk _ (by simp)
      rw[h5] at kk ⊢;repeat first|refine Ya ?_|refine Xa ?_|refine Za (an (bq x)) ?_|refine Za (an (bR x)) ?_|refine Za (an (bX x)) ?_|refine Za (an (Qr x)) ?_|refine Za (an (Zs x)) ?_|refine Za (Zf ..) ?_|refine Za (Xf ..) ?_|refine Za (an (row:=cm m t) rfl) ?_|refine Za (Yl ..) ?_|refine Za rfl ?_
      rw[hw];refine Xb (tG m cs hU t k x.bQ (d+1) (by omega) (YR iT) (by omega)) rfl g130.ok.plain rfl ?_;repeat first|refine Ya ?_|refine Xa ?_|refine Za (an (bq x)) ?_|refine Za (an (bR x)) ?_|refine Za (an (bX x)) ?_|refine Za (an (Qr x)) ?_|refine Za (an (Zs x)) ?_|refine Za (Zf ..) ?_|refine Za (Xf ..) ?_|refine Za (an (row:=cm m t) rfl) ?_|refine Za (Yl ..) ?_|refine Za rfl ?_
      exact kk _ (by simp)
    clear fo;refine Zb (λc1=>m3 _ ?_) (λc1=>?_)
    ·simp at c1; simp[c1]
    refine Za (Zf ..) (m3 _ ?_);simp at c1; simp[c1]
   clear fo;refine Zb (λc1=>m2 _ ?_) (λc1=>?_)
   ·simp at c1; simp[c1]
   refine Za (Zf ..) (Zb (λc2=>m2 _ ?_) (λc2=>?_))
   ·simp at c2; simp[c2]
   refine Za (Zf ..) (m2 _ ?_);simp at c1 c2; simp[c1,c2]
  clear fo;refine Zb (λc1=>m1 _ ?_) (λc1=>?_)
  ·simp at c1; simp[c1]
  refine Za (Zf ..) (m1 _ ?_);simp at c1; simp[c1]
theorem c157(m:List (Tx×Bool))(cs:List Cd)(hU:mu m cs)(t:Bool)(l:List Ef)(d:Int)(hf:bG l=true)(hd:0≤d):PC 130 [.ao (cm m t) 0,ic l,iv d] (.bool (bT cs t d l)):=tG m cs hU t _ l d (Nat.le_refl _) hf hd
end Go.Ah.Tz
end
section
namespace Go.Ah.Tz
open Go.Proofs.Tryz (prog)
attribute [local irreducible] ak.rd ak.pu ak.wr ak.dr ak.gr ak.gw ak.gl ak.gd ak.opt aH W
set_option maxHeartbeats 2000000
theorem c221(m:List (Tx×Bool))(cs:List Cd)(hU:mu m cs)(c:Cd)(hf:f_ c=true)
 (h223:PC 128 [.str c.name] (.bool (dV c.name)))(h124:PC 129 [.agg (b_ c)] (iv (nD c))) :
  PC 94 [.ao (b_ c) 0,.eN (ik m)] (.bool (eR cs c)):=by
 simp only[f_,Bool.and_eq_true,decide_eq_true_eq] at hf;obtain⟨f0,f1,f2,f3⟩:=hf;have bad:eR cs c=false→aa.bool false=aa.bool (eR cs c):=λh=>by rw[h]
 refine Yc hP g94.ok rfl rfl ?_;rw[H2.e]; unfold g94; dsimp only;repeat first|refine Za (an (row:=b_ c) rfl) ?_|refine Za rfl ?_
 refine YK 7 ?_;refine Xk (Za rfl (Xc (Za rfl (Za rfl (XK rfl rfl (Zb (λh=>bad ?_) (λb1=>Za rfl ?_)))))))
 ·have:bz c.cost=false:=by
   rw[Bool.eq_false_iff]; intro hh; simp[bz] at hh; simp at h; omega
  simp[eR,this]
 have b1:0≤c.cost∧c.cost≤999:=by simp at b1; omega
 refine Xk (Za rfl (Xc (Za rfl (Za rfl (XK rfl rfl (Zb (λh=>bad ?_) (λb2=>Za rfl ?_)))))))
 ·have:bz c.cJ=false:=by
   rw[Bool.eq_false_iff]; intro hh; simp[bz] at hh; simp at h; omega
  simp[eR,this]
 have b2:0≤c.cJ∧c.cJ≤999:=by simp at b2; omega
 refine Xk (Za rfl (Xc (Za rfl (Za rfl (XK rfl rfl (Zb (λh=>bad ?_) (λb3=>Za rfl ?_)))))))
 ·have:bz c.bD=false:=by
   rw[Bool.eq_false_iff]; intro hh; simp[bz] at hh; simp at h; omega
  simp[eR,this]
 have b3:0≤c.bD∧c.bD≤999:=by simp at b3; omega
 refine Xk (Za rfl (Xc (Za rfl (Za rfl (XK rfl rfl (Zb (λh=>bad ?_) (λb4=>Za rfl ?_)))))))
 ·have:bz c.cw=false:=by
   rw[Bool.eq_false_iff]; intro hh; simp[bz] at hh; simp at h; omega
  simp[eR,this]
 have b4:0≤c.cw∧c.cw≤999:=by simp at b4; omega
 refine Xk (Za rfl (Xc (Za rfl (Za rfl (XK rfl rfl (Zb (λh=>bad ?_) (λb5=>Za rfl ?_)))))))
 ·have:bz c.dG=false:=by
   rw[Bool.eq_false_iff]; intro hh; simp[bz] at hh; simp at h; omega
  simp[eR,this]
 have b5:0≤c.dG∧c.dG≤999:=by simp at b5; omega
 refine Xk (Za rfl (Xc (Za rfl (Za rfl (XK rfl rfl (Zb (λh=>bad ?_) (λb6=>Za rfl ?_)))))))
 ·have:bz c.eu=false:=by
   rw[Bool.eq_false_iff]; intro hh; simp[bz] at hh; simp at h; omega
  simp[eR,this]
 have b6:0≤c.eu∧c.eu≤999:=by simp at b6; omega
 refine Xk (Za rfl (Yd ?_));have bV:eR cs c=(dV c.name&&(decide (nD c≤200)&&(ft c&&(bT cs true 1 c.ca&&(bT cs false 1 c.dead&&bT cs false 1 c.dJ))))):=by
  have e1:bz c.cost=true:=by simp[bz]; omega
  have e2:bz c.cJ=true:=by simp[bz]; omega
  have e3:bz c.bD=true:=by simp[bz]; omega
  have e4:bz c.cw=true:=by simp[bz]; omega
  have e5:bz c.dG=true:=by simp[bz]; omega
  have e6:bz c.eu=true:=by simp[bz]; omega
  simp only[eR,e1,e2,e3,e4,e5,e6,Bool.true_and];generalize decide (nD c≤200)=w;cases w<;>simp
 rw[bV] at bad ⊢;clear bV;repeat first|refine Za (an (row:=b_ c) rfl) ?_|refine Za rfl ?_
 refine Xb h223 rfl g128.ok.plain rfl ?_;refine Za rfl ?_;refine Qh λk33 wS=>?_;have K3:(dV c.name&&(decide (nD c≤200)&&(ft c&&(bT cs true 1 c.ca&&(bT cs false 1 c.dead&&bT cs false 1 c.dJ)))))=false→k33 [.bool true] []:=by
  intro h;rw[wS];exact Xc (bad h)
 have Wq:dV c.name=true→nD c≤200→(c.unit=true→1≤c.bD)→k33 [.bool false] []:=by
  intro n1 n2 n3;rw[wS]; clear wS K3 k33;rw[n1,decide_eq_true n2,Bool.true_and,Bool.true_and] at bad ⊢;refine Yd ?_;repeat first|refine Za (an (row:=b_ c) rfl) ?_|refine Za rfl ?_
  apply oB (ft c=true)
  ·intro hR;cases hu:c.unit with
   |true=>
    repeat first|refine Ya ?_|refine Xa ?_|refine Qa rfl ?_|refine Yb rfl ?_|refine Zc rfl ?_|refine Qc rfl ?_|refine Za (an (row:=b_ c) rfl) ?_|refine Za rfl ?_
    refine Yd (hR ?_);simp[ft,hu,n3 hu]
   |false=>
    repeat first|refine Ya ?_|refine Xa ?_|refine Qa rfl ?_|refine Yb rfl ?_|refine Zc rfl ?_|refine Qc rfl ?_|refine Za (an (row:=b_ c) rfl) ?_|refine Za rfl ?_
    rw[bc (n:=c.cJ+c.bD) (by omega) (by omega),bc (n:=c.cJ+c.bD+c.cw) (by omega) (by omega),bc (n:=c.cJ+c.bD+c.cw+c.dG) (by omega) (by omega),bc (n:=c.cJ+c.bD+c.cw+c.dG+c.eu) (by omega) (by omega)];rcases aT (decide (c.cJ+c.bD+c.cw+c.dG+c.eu>0)) with h|h
    ·rw[h];repeat first|refine Ya ?_|refine Xa ?_|refine Qa rfl ?_|refine Yb rfl ?_|refine Zc rfl ?_|refine Qc rfl ?_|refine Za (an (row:=b_ c) rfl) ?_|refine Za rfl ?_
     refine Xc (bad ?_);have h:¬(c.cJ+c.bD+c.cw+c.dG+c.eu≤0):=by simp at h; omega
     simp[ft,hu,h]
    rw[h];repeat first|refine Ya ?_|refine Xa ?_|refine Za (an (row:=b_ c) rfl) ?_|refine Za rfl ?_
    have h:(c.cJ+c.bD+c.cw+c.dG+c.eu≤0):=by simp at h; omega
    have l1:=YH f2;have l2:=YH f3;rw[cO] at l1 l2;rw[List.length_map,List.length_map,bc (n:=(c.dead.length:Int)+(c.dJ.length:Int)) (by omega) (by omega)];refine Zb (λh2=>bad ?_) (λh2=>hR ?_)
    ·have h2:¬(c.dead.length+c.dJ.length=0):=by simp at h2; omega
     have:ft c=false:=by rw[ft,hu,decide_eq_false h2]; simp
     simp[this]
    ·have h2:(c.dead.length+c.dJ.length=0):=by simp at h2; omega
     rw[ft,hu,decide_eq_true h2,decide_eq_true h]; rfl
  intro b7;rw[b7,Bool.true_and];refine Za rfl (Qb rfl rfl (Za rfl (Za rfl (Za (an (row:=b_ c) rfl) ?_))));refine ZG (c157 m cs hU true c.ca 1 f1 (by omega)) rfl g130.ok.plain rfl rfl ?_;refine Za rfl (Zb (λp1=>?_) (λp1=>?_))
  ·have p1:bT cs true 1 c.ca=false:=by simpa using p1
   rw[p1]; rfl
  have p1:bT cs true 1 c.ca=true:=by simpa using p1
  rw[p1,Bool.true_and];refine Za rfl (Za rfl (Qb rfl rfl (Za rfl (Za rfl (Za (an (row:=b_ c) rfl) ?_)))));refine ZG (c157 m cs hU false c.dead 1 f2 (by omega)) rfl g130.ok.plain rfl rfl ?_;rcases aT (bT cs false 1 c.dead) with p2|p2
  rotate_left
  ·rw[p2];repeat first|refine Ya ?_|refine Xa ?_|refine Qa rfl ?_|refine Yb rfl ?_|refine Zc rfl ?_|refine Qc rfl ?_|refine Za (an (row:=b_ c) rfl) ?_|refine Za rfl ?_
   rfl
  rw[p2];repeat first|refine Ya ?_|refine Xa ?_|refine Za (an (row:=b_ c) rfl) ?_|refine Za rfl ?_
  refine ZG (c157 m cs hU false c.dJ 1 f3 (by omega)) rfl g130.ok.plain rfl rfl ?_;repeat first|refine Ya ?_|refine Xa ?_|refine Za (an (row:=b_ c) rfl) ?_|refine Za rfl ?_
  rfl
 clear wS bad;refine Zb (λn1=>?_) (λn1=>?_)
 ·rw[n1];refine K3 ?_;have n1:dV c.name=false:=by simpa using n1
  rw[n1]; rfl
 have n1:dV c.name=true:=by simpa using n1
 refine Za rfl (Za (an (ov c)) ?_);refine Xb h124 rfl g129.ok.plain rfl ?_;refine Za rfl (Zb (λn2=>?_) (λn2=>?_))
 ·rw[n2];refine K3 ?_;have n2:¬nD c≤200:=by simp at n2; omega
  rw[decide_eq_false n2]; simp
 have n2:nD c≤200:=by simp at n2; omega
 repeat first|refine Za (an (row:=b_ c) rfl) ?_|refine Za rfl ?_
 cases hu:c.unit with
 |false=>
  repeat first|refine Ya ?_|refine Xa ?_|refine Qa rfl ?_|refine Yb rfl ?_|refine Zc rfl ?_|refine Qc rfl ?_|refine Za (an (row:=b_ c) rfl) ?_|refine Za rfl ?_
  exact Wq n1 n2 (λh=>by rw[hu] at h; cases h)
 |true=>
  repeat first|refine Ya ?_|refine Xa ?_|refine Za (an (row:=b_ c) rfl) ?_|refine Za rfl ?_
  rcases aT (decide (c.bD<1)) with h|h
  ·rw[h];refine K3 ?_;have:ft c=false:=by simp at h; simp[ft,hu]; omega
   rw[this]; simp
  ·rw[h];exact Wq n1 n2 (λ_=>by simp at h; omega)
end Go.Ah.Tz
end
section
namespace Go.Ah.Tz
open Go.Proofs.Tryz (prog)
def ko(t:Tx)(v:Bool):List (Tx×Bool)→List (Tx×Bool)
 |[]=>[(t,v)]
 |p::l=>if t==p.1 then (t,v)::l else p::ko t v l
theorem Vc(t:Tx)(v:Bool):∀l,my (.str t) (.bool v) (ik l)=some (ik (ko t v l))
 |[]=>rfl
 |p::l=>by
  simp only[ik,List.map_cons,my,iG,ko];cases h:t==p.1 with
  |true=>rfl
  |false=>
   have:=Vc t v l;simp only[ik] at this;simp only[this]; rfl
theorem Y2(t n:Tx)(v:Bool):∀l,bJ t (ko n v l)=if t==n then some v else bJ t l
 |[]=>by simp[ko,bJ]
 |p::l=>by
  simp only[ko];by_cases h:n==p.1
  ·have e:n=p.1:=by simpa using h
   rw[if_pos h,bJ,bJ,←e];by_cases h2:t==n<;>simp[h2]
  ·rw[if_neg h,bJ,bJ,Y2 t n v l];have e:n≠p.1:=by simpa using h
   by_cases h2:t==p.1
   ·have e2:t=p.1:=by simpa using h2
    have:¬(t==n)=true:=by simp[e2]; exact λh=>e h.symm
    rw[if_pos h2,if_neg this,if_pos h2]
   ·rw[if_neg h2];by_cases h3:t==n<;>simp[h3,h2]
theorem Ja:∀l,sO (ik l)=true
 |[]=>rfl
 |p::l=>by
  have:=Ja l;simp only[ik] at this;simp[ik,sO,aa.ro,this]
theorem ZcI{σ:List ab}{b:Nat}{l:List (Tx×Bool)}(h:ah σ b=.map (ik l))(row:List aa)(j:Nat):Xy σ 1000 [.ao row j,.map b]=some ([.ao row j,.eN (ik l)],[b]):=by
 show Xy σ (998+1+1) _=_;simp[Xy,h,Ja,aa.ro]
theorem S_{σ:List ab}{b:Nat}{l:List (Tx×Bool)}(h:ah σ b=.map (ik l))(t:Tx):Zz true true (.bool false) [.map b,.str t] σ=.ok (.bn [.bool ((bJ t l).getD false),.bool (bJ t l).isSome]) [b] []:=by
 simp only[Zz,v_,mapOf,h,Fc,cond_true];cases bJ t l<;>rfl
theorem LB{σ:List ab}{b:Nat}{l:List (Tx×Bool)}(h:ah σ b=.map (ik l))(t:Tx):Zz true false (.bool false) [.map b,.str t] σ=.ok (.bool ((bJ t l).getD false)) [b] []:=by
 simp only[Zz,v_,mapOf,h,Fc,cond_true];cases bJ t l<;>rfl
theorem D2{σ:List ab}{b:Nat}{l:List (Tx×Bool)}(h:ah σ b=.map (ik l))(t:Tx)(v:Bool):YG true [.map b,.str t,.bool v] σ=.ok .aF [] [(b,.map (ik (ko t v l)))]:=by
 simp only[YG,v_,h,Vc,cond_true]
def jQ:List Cd→Tx→Option Bool
 |[],_=>none
 |c::l,t=>if c.name==t then some c.unit else jQ l t
theorem Uc:∀ (l:List Cd) (t:Tx) (u:Bool),gf l t u=(match jQ l t with
 |none=>false
 | some b=>b || !u)
 |[],_,_=>rfl
 |c::l,t,u=>by
  simp only[gf,jQ];by_cases h:c.name==t
  ·rw[if_pos h,if_pos h]
  ·rw[if_neg h,if_neg h]; exact Uc l t u
theorem LO:∀ (l:List Cd) (c:Cd) (t:Tx),jQ (l ++ [c]) t=(match jQ l t with
 |some b=>some b
 | none=>if c.name == t then some c.unit else none)
 |[],_,_=>rfl
 |d::l,c,t=>by
  simp only[List.cons_append,jQ];by_cases h:d.name==t
  ·rw[if_pos h,if_pos h]
  ·rw[if_neg h,if_neg h]; exact LO l c t
def fV(m:List (Tx×Bool))(l:List Cd):Prop:=∀t,bJ t m=jQ l t
theorem fV.ae{m:List (Tx×Bool)}{l:List Cd}(h:fV m l):mu m l:=by
 intro t u; rw[Uc,h t]<;>cases jQ l t<;>rfl
theorem fV.eo{m:List (Tx×Bool)}{l:List Cd}(h:fV m l){c:Cd}(hc:(bJ c.name m).isSome=true):fV m (l++[c]):=by
 intro t;rw[LO,←h t];cases e:bJ t m with
 |some b=>rfl
 |none=>
  by_cases h2:c.name==t
  ·have:c.name=t:=by simpa using h2
   rw[this,e] at hc; cases hc
  ·rw[if_neg h2]
theorem fV.new{m:List (Tx×Bool)}{l:List Cd}(h:fV m l){c:Cd}(hc:(bJ c.name m).isSome=false):fV (ko c.name c.unit m) (l++[c]):=by
 intro t;rw[LO,←h t,Y2];by_cases h2:t==c.name
 ·have e:t=c.name:=by simpa using h2
  subst e;cases e:bJ c.name m with
  |some b=>rw[e] at hc; cases hc
  |none=>simp
 ·have h3:¬(c.name==t)=true:=by
   intro h; apply h2; simp at h; simp[h]
  rw[if_neg h2,if_neg h3];cases bJ t m<;>rfl
def Seen(m:List (Tx×Bool))(l:List Cd):Prop:=∀t,(bJ t m).getD false=l.any λd=>d.name==t
theorem Seen.put{m:List (Tx×Bool)}{l:List Cd}(h:Seen m l)(c:Cd):Seen (ko c.name true m) (l++[c]):=by
 intro t;rw[Y2,List.any_append,←h t];by_cases h2:t==c.name
 ·have e:t=c.name:=by simpa using h2
  simp[e]
 ·have h3:(c.name==t)=false:=by
   rw[Bool.eq_false_iff]; intro h; apply h2; simp at h; simp[h]
  rw[if_neg h2]; simp[h3]
theorem Xe{σ:List ab}{b:Nat}(x:ab)(h:b<σ.length):ah (σ.set b x) b=x:=Xt (by simp[h])
attribute [local irreducible] ak.rd ak.pu ak.wr ak.dr ak.gr ak.gw ak.gl ak.gd ak.opt aH W
set_option maxHeartbeats 1000000
theorem c180(cs:List Cd)(hf:QE cs=true)(h221:∀m,mu m cs→∀c∈cs,PC 94 [.ao (b_ c) 0,.eN (ik m)] (.bool (eR cs c))) :
  PC 58 [fm cs] (.agg [iv (cW cs).1,iv (cW cs).2]):=by
 simp only[QE,Bool.and_eq_true,decide_eq_true_eq] at hf;obtain⟨f0,f1⟩:=hf;rw[cO] at f0;refine Yc hP g58.ok rfl rfl ?_;rw[H1.e]; unfold g58; dsimp only;refine Qb rfl rfl (Za rfl (Za rfl ?_));refine Zb (λh=>?_) (λh=>?_)
 ·have h:240<cs.length:=by simp at h; omega
  refine Za rfl (Qb rfl rfl (Qi rfl ?_));rw[cW,if_pos h]
 have h:¬240<cs.length:=by simp at h; omega
 rw[cW,if_neg h];refine Qb rfl rfl (Za rfl ?_);refine Xj (ι:=Nat) (λi vs σ=>∃m,vs=[iv i]∧ah σ 0=.box [iv 0,iv 0]∧ah σ 1=.map (ik m)∧1<σ.length∧i≤cs.length∧fV m (cs.take i)) (λi=>cs.length-i) 0 ⟨[],rfl,rfl,rfl,by simp,by omega,λt=>by simp[bJ,jQ]⟩ ?_;rintro i vs σ again ⟨m,rfl,hz,hm,iE,hi,hu⟩ aZ;refine Za rfl ?_;refine Zb (λh=>?_) (λh=>?_)
 ·have oH:i<cs.length:=by simpa using h
  have dc:=λ(s:List ab)=>Zp s b_ false false 12 cs .i64 i oH;have jb:cs.take (i+1)=cs.take i++[cs[i]]:=Yv cs i oH;generalize cs[i]=c at dc jb;refine Qh λk10 mT=>?_;have kk:∀m' σ',fV m' (cs.take i++[c])→ah σ' 0=.box [iv 0,iv 0]→ah σ' 1=.map (ik m')→1<σ'.length→k10 [] σ':=by
   intro m' σ' q1 q2 q3 q4;rw[mT];refine Za (Yj ..) ?_;rw[Qd (n:=i) (by omega)];exact aZ (i+1) _ _ (by omega) ⟨m',rfl,q2,q3,q4,by omega,by rw[jb]; exact q1⟩
  clear mT aZ;refine Za (dc _) (Za (an (ov _)) (Xq (row:=b_ c) (row':=b_ c) rfl rfl rfl ?_));have aG:=Yf σ (ab.box (b_ c));have q_:ah (σ++[ab.box (b_ c)]) 0=.box [iv 0,iv 0]:=Xd _ hz (by simp);have ma:ah (σ++[ab.box (b_ c)]) 1=.map (ik m):=Xd _ hm (by simp);have lq:1<(σ++[ab.box (b_ c)]).length:=by simp; omega
  generalize σ++[ab.box (b_ c)]=base at aG q_ ma lq ⊢;generalize σ.length=b at aG ⊢;refine Za rfl (Za (ld aG rfl) (Za (S_ ma _) (Za rfl (Za rfl (Za rfl ?_)))));refine Zb (λh=>?_) (λh=>?_)
  ·have h:(bJ c.name m).isSome=false:=by simpa using h
   refine Za rfl (Za (ld aG rfl) (Za rfl (Za (ld aG rfl) (Qb (D2 ma _ _) (Xg _ lq) ?_))));exact kk _ _ (hu.new h) (Zd q_ (by simp) (by omega)) (Xe _ lq) (by simpa using lq)
  ·have h:(bJ c.name m).isSome=true:=by simpa using h
   exact kk _ _ (hu.eo h) q_ ma lq
 have h:i=cs.length:=by simp at h; omega
 subst h;rw[List.take_length] at hu;have mc:=h221 m hu.ae;clear aZ hu h221;refine Qb rfl (Yi _ _) (Za rfl ?_);have q_:ah (σ++[ab.map []]) 0=.box [iv 0,iv 0]:=Xd _ hz (by simp);have ma:ah (σ++[ab.map []]) 1=.map (ik m):=Xd _ hm (by simp);have KX:ah (σ++[ab.map []]) σ.length=.map (ik []):=Yf _ _;have lq:σ.length<(σ++[ab.map []]).length:=by simp
 generalize σ++[ab.map []]=base at q_ ma KX lq ⊢;generalize σ.length=b at KX lq iE ⊢;refine Xj (ι:=Nat) (λi vs s=>∃m2,vs=[iv i]∧ah s 0=.box [iv 0,iv 0]∧ah s 1=.map (ik m)∧ah s b=.map (ik m2)∧b<s.length∧i≤cs.length∧Seen m2 (cs.take i)∧fw cs [] cs=fw cs (cs.take i) (cs.drop i)) (λi=>cs.length-i) 0 ⟨[],rfl,q_,ma,KX,lq,by omega,λt=>by simp[bJ],by simp⟩ ?_;clear q_ ma KX lq base hz hm σ;rintro i vs s again ⟨m2,rfl,hz,hm,hs,hl,hi,yM,hu⟩ aZ;refine Za rfl ?_;refine Zb (λh=>?_) (λh=>?_);rotate_left
 ·have h:i=cs.length:=by simp at h; omega
  subst h;rw[List.drop_length,fw] at hu;refine Za rfl (Qb (cM hz rfl rfl rfl) (Xg _ (by show 0<s.length; omega)) (Qi (Zr (by show 0<s.length; omega) rfl) ?_));rw[hu]
 have oH:i<cs.length:=by simpa using h
 have cX:cs.drop i=cs[i]::cs.drop (i+1):=by rw[fA oH]
 have dc:=λ(s:List ab)=>Zp s b_ false false 12 cs .i64 i oH;have jb:cs.take (i+1)=cs.take i++[cs[i]]:=Yv cs i oH;have G3:=mc _ (List.getElem_mem oH);generalize cs[i]=c at dc jb cX G3;rw[cX,fw,←yM c.name] at hu;refine Za (dc _) (Za rfl (Za rfl (Za (an (mA _)) (Za (LB hs _) ?_))));refine Zb (λh=>?_) (λh=>?_)
 ·rw[if_pos h] at hu;refine Za rfl (Za rfl (Za (an (Ko _)) (Za rfl (Qb (cM hz rfl rfl rfl) (Xg _ (by show 0<s.length; omega)) (Qi (Zr (by show 0<s.length; omega) rfl) ?_)))));rw[hu]
 rw[if_neg (by rw[h]; simp)] at hu;refine ZG G3 rfl g94.ok.plain (ZcI hm _ _) rfl ?_;refine Za rfl ?_;refine Zb (λh=>?_) (λh=>?_)
 ·have h:eR cs c=false:=by simpa using h
  rw[h] at hu
  replace hu:fw cs [] cs=(130,c.pl):=hu
  refine Za rfl (Za rfl (Za (an (Ko _)) (Za rfl (Qb (cM hz rfl rfl rfl) (Xg _ (by show 0<s.length; omega)) (Qi (Zr (by show 0<s.length; omega) rfl) ?_)))));rw[hu]
 ·have h:eR cs c=true:=by simpa using h
  rw[h,if_pos rfl] at hu;refine Za rfl (Za rfl (Za (an (mA _)) (Qb (D2 hs _ _) (Xg _ hl) (Za (Yj ..) ?_))));rw[Qd (n:=i) (by omega)];refine aZ (i+1) _ _ (by omega) ⟨_,rfl,?_,?_,Xe _ hl,by simpa using hl,by omega,by rw[jb]; exact yM.put c,by rw[jb]; exact hu⟩
  ·exact Zd hz (by simp) (by omega)
  ·exact Zd hm (by simp) (by omega)
end Go.Ah.Tz
end
section
namespace Go.Ah
inductive GT:Type 1 where
 |leaf
 |node (k np:Nat) (g:eH) (l r:GT)
def GT.get:GT→Nat→Option (Nat×eH)
 |.leaf,_=>none
 |.node k np g l r,f=>match Nat.beq f k with
  |true=>some (np,g)
  |false=>match Nat.blt f k with
   |true=>l.get f
   |false=>r.get f
def GT.Ok(P:Program)(GL:aw):GT→Prop
 |.leaf=>True
 |.node k np g l r=>lU P GL k np g∧l.Ok P GL∧r.Ok P GL
theorem GT.oD{P:Program}{GL:aw}:∀ {t:GT},t.Ok P GL→∀f np g,t.get f=some (np,g)→lU P GL f np g
 |.leaf,_,f,np,g,h=>by simp only[GT.get] at h; cases h
 |.node k np' g' l r,ok,f,np,g,h=>by
  unfold GT.get at h;obtain⟨o1,o2,o3⟩:=ok;split at h
  ·rename_i hb;have:=e9 hb;subst this;cases h;exact o1
  ·split at h
   ·exact GT.oD o2 f np g h
   ·exact GT.oD o3 f np g h
end Go.Ah
end
section
namespace Go.Ah.Tz
open Go.Proofs.Tryz (prog)
set_option maxRecDepth 100000
noncomputable def tb:GT:=(.node 202 2 g202.u (.node 200 2 g200.u (.node 195 1 g195.u .leaf .leaf) (.node 201 1 g201.u .leaf .leaf)) (.node 204 2 g204.u (.node 203 2 g203.u .leaf .leaf) .leaf))
theorem IC:tb.Ok prog aK:=⟨g202.ok,⟨g200.ok,⟨g195.ok,trivial,trivial⟩,⟨g201.ok,trivial,trivial⟩⟩,⟨g204.ok,⟨g203.ok,trivial,trivial⟩,trivial⟩⟩
end Go.Ah.Tz
end
