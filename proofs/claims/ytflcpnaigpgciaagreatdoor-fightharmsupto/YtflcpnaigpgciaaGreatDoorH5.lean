/- Part of the proof that FightHarms holds of the program for arguments that together hold at most 1048576 values and letters; no other condition. -/
import Derived.Test.YtflcpnaigpgciaaGreatDoorH4
import Derived.Shelf.Slices.In.SortNone
set_option linter.all false
section
namespace Go.Ah.Tz
open Go.Proofs.Tryz (prog)
attribute [local irreducible] Ans.rd Ans.pu Ans.wr Ans.dr Ans.gr Ans.gw Ans.gl Ans.gd Ans.opt joinK W
set_option maxHeartbeats 8000000
def runF(go:Int→Bool)(step:Nat→Int→Int):Nat→Nat→Int→Int
 |0,_,a=>a
 |k+1,i,a=>if go a=true then runF go step k (i+1) (step i a) else a
theorem Xan{go:Int→Bool}{step:Nat→Int→Int}{n i:Nat}{a r:Int}(h:i<n)(hg:go a=true)(hr:runF go step (n-i) i a=r):runF go step (n-(i+1)) (i+1) (step i a)=r:=by
 rw[show n-i=n-(i+1)+1 by omega,runF,if_pos hg] at hr; exact hr
theorem X7{go:Int→Bool}{step:Nat→Int→Int}{n i:Nat}{a r:Int}(h:¬i<n∨go a=false)(hr:runF go step (n-i) i a=r):a=r:=by
 cases k:n-i with
 |zero=>rw[k] at hr; exact hr
 |succ m=>
  rcases h with h|h
  ·omega
  ·rw[k,runF,if_neg (by rw[h]; simp)] at hr; exact hr
theorem c174(k:Nat):∀x:Nm,SizeOf.sizeOf x≤k→nmFit x=true→∃n,PC 174 [.agg (nmC x)] (iv n):=by
 induction k with
 |zero=>intro x h _; cases x; simp at h
 |succ k ih=>
  intro x hk hf;have hl:=ZaF hf;rw[bigE] at hl;have hF:∃F:Nat→Int,∀i (h:i<x.kids.length),PC 174 [.agg (nmC x.kids[i])] (iv (F i)):=by
   refine Classical.axiomOfChoice (r:=λ(i:Nat) (n:Int)=>∀(h:i<x.kids.length),PC 174 [.agg (nmC x.kids[i])] (iv n)) (λi=>?_);by_cases h:i<x.kids.length
   ·have hm:=List.getElem_mem h;obtain⟨n,hn⟩:=ih x.kids[i] (by have:=Xbm hm; omega) (Qah hf hm);exact⟨n,λ_=>hn⟩
   ·exact⟨0,λh'=>(h h').elim⟩
  obtain⟨F,hF⟩:=hF;rw[ZF];generalize hr:runF (λ_=>true) (λi a=>min (IntKind.i64.wrap (a+F i)) 100000) (x.kids.length-0) 0 1=r;refine⟨r,Ze hP g174_ok rfl rfl ?_⟩;unfold g174;refine Qd rfl rfl ?_;refine Xo (ι:=Nat) (λi vs σ=>(∃a,vs=[iv i,iv a]∧runF (λ_=>true) (λi a=>min (IntKind.i64.wrap (a+F i)) 100000) (x.kids.length-i) i a=r)∧hget σ 0=.box [iv8 x.op,iv x.n,iv8 x.who,.rsl false false 4 (x.kids.map nmC)]∧i≤x.kids.length) (λi=>x.kids.length-i) 0 ⟨⟨1,rfl,hr⟩,rfl,by omega⟩ ?_;rintro i vs σ again ⟨⟨a,rfl,hr⟩,hB,hi⟩ hag;refine Ya rfl (Ya (ld hB rfl) (Ya (Yf ..) ?_));rw[List.length_map];refine Ya (Yy ..) (Yc (λh=>?_) (λh=>?_))
  ·have h:i<x.kids.length:=by simpa using h
   refine Ya rfl (Ya (ld hB rfl) (Ya (Xv _ nmC false false 4 x.kids .i64 i h) (Ya (v:=.agg (nmC x.kids[i])) (ldr (by rw[ZF]; rfl)) ?_)));refine Qe (hF i h) rfl g174_ok.plain (by rw[ZF]; rfl) (Ya (Zn ..) (Ya (Yag ..) (Ya (Zn ..) ?_)));rw[Xg (n:=i) (by omega)];exact hag (i+1) _ _ (by omega) ⟨⟨_,rfl,Xan h rfl hr⟩,hB,by omega⟩
  ·exact congrArg iv (X7 (.inl (by simpa using h)) hr)
theorem c175(k:Nat):∀x:Cn,SizeOf.sizeOf x≤k→cnFit x=true→∃n,PC 175 [.agg (cnC x)] (iv n):=by
 induction k with
 |zero=>intro x h _; cases x; simp at h
 |succ k ih=>
  intro x hk hf;have hl1:=Y5 hf;have hl2:=Z5 hf;rw[bigE] at hl1 hl2;have hF:∃F:Nat→Int,∀i (h:i<x.nums.length),PC 174 [.agg (nmC x.nums[i])] (iv (F i)):=by
   refine Classical.axiomOfChoice (r:=λ(i:Nat) (n:Int)=>∀(h:i<x.nums.length),PC 174 [.agg (nmC x.nums[i])] (iv n)) (λi=>?_);by_cases h:i<x.nums.length
   ·obtain⟨n,hn⟩:=c174 _ x.nums[i] (Nat.le_refl _) (Zag hf (List.getElem_mem h));exact⟨n,λ_=>hn⟩
   ·exact⟨0,λh'=>(h h').elim⟩
  have hG:∃F:Nat→Int,∀i (h:i<x.kids.length),PC 175 [.agg (cnC x.kids[i])] (iv (F i)):=by
   refine Classical.axiomOfChoice (r:=λ(i:Nat) (n:Int)=>∀(h:i<x.kids.length),PC 175 [.agg (cnC x.kids[i])] (iv n)) (λi=>?_);by_cases h:i<x.kids.length
   ·have hm:=List.getElem_mem h;obtain⟨n,hn⟩:=ih x.kids[i] (by have:=Ybh hm; omega) (Qaf hf hm);exact⟨n,λ_=>hn⟩
   ·exact⟨0,λh'=>(h h').elim⟩
  obtain⟨F,hF⟩:=hF;obtain⟨G,hG⟩:=hG;rw[YU];generalize hr:runF (λ_=>true) (λi a=>min (IntKind.i64.wrap (a+F i)) 100000) (x.nums.length-0) 0 1=r;generalize hr2:runF (λ_=>true) (λi a=>min (IntKind.i64.wrap (a+G i)) 100000) (x.kids.length-0) 0 r=r2;refine⟨r2,Ze hP g175_ok rfl rfl ?_⟩;unfold g175;refine Qd rfl rfl ?_;refine Xo (ι:=Nat) (λi vs σ=>(∃a,vs=[iv i,iv a]∧runF (λ_=>true) (λi a=>min (IntKind.i64.wrap (a+F i)) 100000) (x.nums.length-i) i a=r)∧hget σ 0=.box [iv8 x.op,iv8 x.who,.str x.name,.rsl false false 4 (x.nums.map nmC),.rsl false false 5 (x.kids.map cnC)]∧i≤x.nums.length) (λi=>x.nums.length-i) 0 ⟨⟨1,rfl,hr⟩,rfl,by omega⟩ ?_;rintro i vs σ again ⟨⟨a,rfl,hr⟩,hB,hi⟩ hag;refine Ya rfl (Ya (ld hB rfl) (Ya (Yf ..) ?_));rw[List.length_map];refine Ya (Yy ..) (Yc (λh=>?_) (λh=>?_))
  ·have h:i<x.nums.length:=by simpa using h
   refine Ya rfl (Ya (ld hB rfl) (Ya (Xv _ nmC false false 4 x.nums .i64 i h) (Ya (v:=.agg (nmC x.nums[i])) (ldr (by rw[ZF]; rfl)) ?_)));refine Qe (hF i h) rfl g174_ok.plain (by rw[ZF]; rfl) (Ya (Zn ..) (Ya (Yag ..) (Ya (Zn ..) ?_)));rw[Xg (n:=i) (by omega)];exact hag (i+1) _ _ (by omega) ⟨⟨_,rfl,Xan h rfl hr⟩,hB,by omega⟩
  obtain rfl:=X7 (.inl (by simpa using h)) hr;clear hag again hr h hi;refine Xo (ι:=Nat) (λi vs σ=>(∃a,vs=[iv i,iv a]∧runF (λ_=>true) (λi a=>min (IntKind.i64.wrap (a+G i)) 100000) (x.kids.length-i) i a=r2)∧hget σ 0=.box [iv8 x.op,iv8 x.who,.str x.name,.rsl false false 4 (x.nums.map nmC),.rsl false false 5 (x.kids.map cnC)]∧i≤x.kids.length) (λi=>x.kids.length-i) 0 ⟨⟨_,rfl,hr2⟩,hB,by omega⟩ ?_;rintro i vs σ again ⟨⟨a,rfl,hr⟩,hB,hi⟩ hag;refine Ya rfl (Ya (ld hB rfl) (Ya (Yf ..) ?_));rw[List.length_map];refine Ya (Yy ..) (Yc (λh=>?_) (λh=>?_))
  ·have h:i<x.kids.length:=by simpa using h
   refine Ya rfl (Ya (ld hB rfl) (Ya (Xv _ cnC false false 5 x.kids .i64 i h) (Ya (v:=.agg (cnC x.kids[i])) (ldr (by rw[YU]; rfl)) ?_)));refine Qe (hG i h) rfl g175_ok.plain (by rw[YU]; rfl) (Ya (Zn ..) (Ya (Yag ..) (Ya (Zn ..) ?_)));rw[Xg (n:=i) (by omega)];exact hag (i+1) _ _ (by omega) ⟨⟨_,rfl,Xan h rfl hr⟩,hB,by omega⟩
  ·exact congrArg iv (X7 (.inl (by simpa using h)) hr)
theorem told{α:Type}(l:List α){Q:α→Int→Prop}(h:∀x∈l,∃n,Q x n):∃F:Nat→Int,∀i (h:i<l.length),Q l[i] (F i):=by
 refine Classical.axiomOfChoice (r:=λ(i:Nat) (n:Int)=>∀(h:i<l.length),Q l[i] n) (λi=>?_);by_cases hi:i<l.length
 ·obtain⟨n,hn⟩:=h l[i] (List.getElem_mem hi);exact⟨n,λ_=>hn⟩
 ·exact⟨0,λh'=>(hi h').elim⟩
theorem c135(k:Nat):∀l:List Ef,SizeOf.sizeOf l≤k→lsFit l=true→∃n,PC 135 [efV l] (iv n):=by
 induction k with
 |zero=>intro l h _; cases l<;>simp at h
 |succ k ih=>
  intro l hk hf;have hl:=ZP hf;rw[bigE] at hl;have hm:∀x∈l,efFit x=true∧SizeOf.sizeOf x<SizeOf.sizeOf l:=λx hx=>⟨by simp only[lsFit,Bool.and_eq_true] at hf; exact Xal hf.2 x hx,List.sizeOf_lt_of_mem hx⟩;obtain⟨F1,h1⟩:=told l (Q:=λx n=>PC 174 [.agg (nmC x.n)] (iv n)) (λx hx=>c174 _ x.n (Nat.le_refl _) (ZaB (hm x hx).1));obtain⟨F2,h2⟩:=told l (Q:=λx n=>PC 175 [.agg (cnC x.c)] (iv n)) (λx hx=>c175 _ x.c (Nat.le_refl _) (Yal (hm x hx).1));obtain⟨F3,h3⟩:=told l (Q:=λx n=>PC 135 [efV x.thn] (iv n)) (λx hx=>ih x.thn (by have:=(Qav x).1; have:=(hm x hx).2; omega) (Y0 (hm x hx).1));obtain⟨F4,h4⟩:=told l (Q:=λx n=>PC 135 [efV x.els] (iv n)) (λx hx=>ih x.els (by have:=(Qav x).2; have:=(hm x hx).2; omega) (Z0 (hm x hx).1))
  let st:Nat→Int→Int:=λi a=>IntKind.i64.wrap (IntKind.i64.wrap (IntKind.i64.wrap (IntKind.i64.wrap (a+F1 i)+F2 i)+F3 i)+F4 i)
  generalize hr:runF (λa=>decide (a<100000)) st (l.length-0) 0 l.length=r;refine⟨min r 100000,Ze hP g135_ok rfl rfl ?_⟩;unfold g135;refine Ya (Yf ..) ?_;rw[List.length_map];refine Xo (ι:=Nat) (λi vs σ=>(∃a,vs=[iv i,iv a]∧runF (λa=>decide (a<100000)) st (l.length-i) i a=r)∧i≤l.length) (λi=>l.length-i) 0 ⟨⟨_,rfl,hr⟩,by omega⟩ ?_;rintro i vs σ again ⟨⟨a,rfl,hr⟩,hi⟩ hag;refine Ya (Yf ..) ?_;rw[List.length_map];refine Ya (Yy ..) (Qcc (λ_=>rfl) (λ_=>Yy ..) (Yc (λh=>?_) (λh=>?_)))
  ·simp only[Bool.and_eq_true,decide_eq_true_eq] at h;obtain⟨h,hlt⟩:=h;have h:i<l.length:=by omega
   have hix:=λσ=>Xv σ efC false false 14 l .i64 i h
   replace h1:=h1 i h
   replace h2:=h2 i h
   replace h3:=h3 i h
   replace h4:=h4 i h
   have hR:=Xan h (decide_eq_true hlt) hr;generalize l[i]=x at hix h1 h2 h3 h4;refine Ys (hix _) (Yo _) (Yp rfl (Ys (ldr (efLdN x)) (Yo _) (Zq h1 rfl g174_ok.plain (by rw[ZF]; rfl) (Yp (Zn ..) ?_))));refine Ys (hix _) (Yo _) (Yp rfl (Ys (ldr (efLdC x)) (Yo _) (Zq h2 rfl g175_ok.plain (by rw[YU]; rfl) (Yp (Zn ..) ?_))));refine Ys (hix _) (Yo _) (Yp rfl (Ys (ldr (Xp x)) (Yo _) (Zq h3 rfl g135_ok.plain rfl (Yp (Zn ..) ?_))));refine Ys (hix _) (Yo _) (Yp rfl (Ys (ldr (Qp x)) (Yo _) (Zq h4 rfl g135_ok.plain rfl (Yp (Zn ..) (Y4 (Zab (by simp[allRd])) ?_)))));refine Ya (Zn ..) ?_;rw[Xg (n:=i) (by omega)];exact hag (i+1) _ _ (by omega) ⟨⟨_,rfl,hR⟩,by omega⟩
  ·refine Ya (Yag ..) (congrArg iv ?_);rw[X7 (a:=a) ?_ hr];simp only[Bool.and_eq_false_iff,decide_eq_false_iff_not] at h;rcases h with h|h
   ·exact .inl (by omega)
   ·exact .inr (decide_eq_false h)
theorem c133(b:Bk)(hf:bkFit b=true):∃q:Bool,PC 133 [bkV b] (.bool q):=by
 simp only[bkFit,Q9,Bool.and_eq_true,decide_eq_true_eq] at hf;obtain⟨⟨f0,f3⟩,f1,f2⟩:=hf;rw[bigE] at f0 f1;have hm:∀x∈b.cards,lsFit x.played=true∧lsFit x.dead=true∧lsFit x.dawn=true:=λx hx=>by
  have:=List.all_eq_true.1 f3 x hx;simp only[cdFit,Bool.and_eq_true] at this;exact⟨this.2.1,this.2.2.1,this.2.2.2⟩
 obtain⟨F1,h1⟩:=told b.cards (Q:=λx n=>PC 135 [efV x.played] (iv n)) (λx hx=>c135 _ _ (Nat.le_refl _) (hm x hx).1);obtain⟨F2,h2⟩:=told b.cards (Q:=λx n=>PC 135 [efV x.dead] (iv n)) (λx hx=>c135 _ _ (Nat.le_refl _) (hm x hx).2.1);obtain⟨F3,h3⟩:=told b.cards (Q:=λx n=>PC 135 [efV x.dawn] (iv n)) (λx hx=>c135 _ _ (Nat.le_refl _) (hm x hx).2.2)
 let st:Nat→Int→Int:=λi a=>IntKind.i64.wrap (IntKind.i64.wrap (IntKind.i64.wrap (a+F1 i)+F2 i)+F3 i)
 let st2:Nat→Int→Int:=λi a=>IntKind.i64.wrap (IntKind.i64.wrap (a+((b.formats[i]?).map λf=>(f.banned.length:Int)).getD 0)+((b.formats[i]?).map λf=>(f.single.length:Int)).getD 0)
 generalize hr:runF (λa=>decide (a≤6000)) st (b.cards.length-0) 0 (IntKind.i64.wrap (b.cards.length+b.formats.length))=r;generalize hr2:runF (λa=>decide (a≤6000)) st2 (b.formats.length-0) 0 r=r2;refine⟨decide (r2>6000),Ze hP g133_ok rfl rfl ?_⟩;unfold g133;refine Qd (v:=.bptr 0 0) (rd:=[]) (up:=[(0,.box (bkC b))]) rfl rfl ?_;have lc:∀σ,Yd [cdV b.cards] σ=.ok (iv b.cards.length) [] []:=λσ=>by rw[Yf,List.length_map]
 have lf:∀σ,Yd [foV b.formats] σ=.ok (iv b.formats.length) [] []:=λσ=>by rw[Yf,List.length_map]
 refine Ya rfl (Ya rfl (Ya (lc _) (Ya rfl (Ya rfl (Ya (lf _) (Ya (Zn ..) ?_))))));refine Xo (ι:=Nat) (λi vs σ=>(∃a,vs=[iv i,iv a]∧runF (λa=>decide (a≤6000)) st (b.cards.length-i) i a=r)∧hget σ 0=.box (bkC b)∧i≤b.cards.length) (λi=>b.cards.length-i) 0 ⟨⟨_,rfl,hr⟩,rfl,by omega⟩ ?_;rintro i vs σ again ⟨⟨a,rfl,hr⟩,hB,hi⟩ hag;refine Ya rfl (Ya (ld hB rfl) (Ya (lc _) (Ya (Yy ..) (Qcc (λ_=>rfl) (λ_=>YbY ..) (Yc (λh=>?_) (λh=>?_))))))
 ·simp only[Bool.and_eq_true,decide_eq_true_eq] at h;obtain⟨h,hlt⟩:=h;have h:i<b.cards.length:=by omega
  have hix:=Xv σ cdC false false 12 b.cards .i64 i h
  replace h1:=h1 i h
  replace h2:=h2 i h
  replace h3:=h3 i h
  have hR:=Xan h (decide_eq_true hlt) hr;generalize b.cards[i]=x at hix h1 h2 h3;refine Ya rfl (Ya (ld hB rfl) (Ya hix (Ya (ldr (cdLd x)) (Qz (row:=cdC x) (row':=cdC x) rfl rfl rfl ?_))));have hx:=Qh σ (.box (cdC x));refine Yp rfl (Ys (ld hx rfl) (Yo _) (Zq h1 rfl g135_ok.plain rfl (Yp (Zn ..) ?_)));refine Yp rfl (Ys (ld hx rfl) (Yo _) (Zq h2 rfl g135_ok.plain rfl (Yp (Zn ..) ?_)));refine Yp rfl (Ys (ld hx rfl) (Yo _) (Zq h3 rfl g135_ok.plain rfl (Yp (Zn ..) (Y4 (Zab (by simp[allRd])) ?_))));refine Ya (Zn ..) ?_;rw[Xg (n:=i) (by omega)];exact hag (i+1) _ _ (by omega) ⟨⟨_,rfl,hR⟩,Xf _ hB (by simp),by omega⟩
 obtain rfl:=X7 (a:=a) (by
  simp only[Bool.and_eq_false_iff,decide_eq_false_iff_not] at h;rcases h with h|h
  ·exact .inl (by omega)
  ·exact .inr (decide_eq_false h)) hr
 clear hag again hr h hi;refine Xo (ι:=Nat) (λi vs σ=>(∃a,vs=[iv i,iv a]∧runF (λa=>decide (a≤6000)) st2 (b.formats.length-i) i a=r2)∧hget σ 0=.box (bkC b)∧i≤b.formats.length) (λi=>b.formats.length-i) 0 ⟨⟨_,rfl,hr2⟩,hB,by omega⟩ ?_;rintro i vs σ again ⟨⟨a,rfl,hr⟩,hB,hi⟩ hag;refine Ya rfl (Ya (ld hB rfl) (Ya (lf _) (Ya (Yy ..) (Qcc (λ_=>rfl) (λ_=>YbY ..) (Yc (λh=>?_) (λh=>?_))))))
 ·simp only[Bool.and_eq_true,decide_eq_true_eq] at h;obtain⟨h,hlt⟩:=h;have h:i<b.formats.length:=by omega
  have hix:=Xv σ foC false false 7 b.formats .i64 i h;have hR:=Xan h (decide_eq_true hlt) hr;have e:b.formats[i]?=some b.formats[i]:=by simp[h]
  simp only[st2,e,Option.map_some,Option.getD_some] at hR;generalize b.formats[i]=f at hix hR;refine Ya rfl (Ya (ld hB rfl) (Ya hix (Ya rfl (Ya (v:=txV f.banned) (rd:=[]) (ldr rfl) (Ya (v:=iv f.banned.length) (rd:=[]) (by simp[Yf]) (Ya (Zn ..) ?_))))));refine Ya rfl (Ya (ld hB rfl) (Ya hix (Ya rfl (Ya (v:=txV f.single) (rd:=[]) (ldr rfl) (Ya (v:=iv f.single.length) (rd:=[]) (by simp[Yf]) (Ya (Zn ..) ?_))))));refine Ya (Zn ..) ?_;rw[Xg (n:=i) (by omega)];exact hag (i+1) _ _ (by omega) ⟨⟨_,rfl,hR⟩,hB,by omega⟩
 obtain rfl:=X7 (a:=a) (by
  simp only[Bool.and_eq_false_iff,decide_eq_false_iff_not] at h;rcases h with h|h
  ·exact .inl (by omega)
  ·exact .inr (decide_eq_false h)) hr
 exact Ya (YY ..) rfl
theorem c134(s:St):∃q:Bool,PC 134 [stV s] (.bool q):=by
 apply Exists.intro;refine Ze hP g134_ok rfl rfl ?_;unfold g134;refine Qd rfl rfl (Ya rfl (Ya rfl (Ya (Yf ..) (XH 3 (Yl ?_)))));refine Ya rfl (Yh (Ya rfl (Ya rfl (Ya rfl (Qd rfl rfl (Qd rfl rfl ?_))))))
 iterate 5 refine Ya rfl (Ya rfl (Ya (Yf ..) (Ya (Zn ..) ?_)))
 refine Ya (Zn ..) (Yl ?_);refine Ya rfl (Yh (Ya rfl (Ya rfl (Ya rfl (Qd rfl rfl (Qd rfl rfl ?_))))))
 iterate 5 refine Ya rfl (Ya rfl (Ya (Yf ..) (Ya (Zn ..) ?_)))
 refine Ya (Zn ..) (Yl ?_);exact Ya rfl (Yg (Ya (YY ..) rfl))
theorem c92(b:Bk)(hf:bkFit b=true)(s:St)(l:List Ef)(hl:lsFit l=true):∃q:Bool,PC 92 [bkV b,stV s,efV l] (.bool q):=by
 obtain⟨q1,h1⟩:=c133 b hf;obtain⟨q2,h2⟩:=c134 s;obtain⟨q3,h3⟩:=c135 _ l (Nat.le_refl _) hl;apply Exists.intro;refine Ze hP g92_ok rfl rfl ?_;unfold g92;refine Qd (v:=.bptr 0 0) (rd:=[]) (up:=[(0,.box (bkC b))]) rfl rfl ?_;refine Qd (v:=.bptr 1 0) (rd:=[]) (up:=[(1,.box (stC s))]) rfl rfl ?_;refine Ya rfl (Ya rfl (Ya (Yf ..) (Ya (YY ..) ?_)));refine Zbd (v1:=bkV b) (λ_=>rfl) (λ_ k hk=>Qe h1 rfl g133_ok.plain rfl hk) ?_;refine Zbd (v1:=stV s) (λ_=>rfl) (λ_ k hk=>Qe h2 rfl g134_ok.plain rfl hk) ?_;exact Zcf (v1:=efV l) (u0:=iv q3) (λ_=>rfl) (λ_ k hk=>Qe h3 rfl g135_ok.plain rfl hk) (λ_=>YY ..) rfl
theorem c43(b:Bk)(hf:bkFit b=true)(s:St){x y:AVal}{n m:Int}(hx:∀σ,Yd [x] σ=.ok (iv n) [] [])(hy:∀σ,Yd [y] σ=.ok (iv m) [] []):∃q:Bool,PC 43 [bkV b,stV s,x,y] (.bool q):=by
 obtain⟨q,h92⟩:=c92 b hf s [] rfl;apply Exists.intro;refine Ze hP g43_ok rfl rfl ?_;unfold g43;refine Qd (v:=.bptr 0 0) (rd:=[]) (up:=[(0,.box (bkC b))]) rfl rfl ?_;refine Qd (v:=.bptr 1 0) (rd:=[]) (up:=[(1,.box (stC s))]) rfl rfl ?_;refine Ya rfl (Ya rfl (ZQ (rd:=[]) h92 rfl g92_ok.plain (.cons (Bor.ro rfl) <| .cons (Bor.ro rfl) <| .cons (Bor.weak (Bor.ro rfl) (λM u d=>d.nils_rsl 14)) .nil) rfl ?_));refine Xas (λ_=>rfl) (λ_=>hx _) (λ_=>YY ..) ?_;exact Xas (λ_=>rfl) (λ_=>hy _) (λ_=>YY ..) rfl
end Go.Ah.Tz
end
section
namespace Go.Ah
def SortN(P:Program)(f:FuncId):Prop:=∀(p:Option Addr) (cap:Nat) (w:World),Calls P f #[.slice p 0 cap] w λe w'=>e=.returned (.tuple #[])∧w'=w
section
variable {P:Program} {GL:Globs}
theorem Xbg{f:FuncId}(hs:SortN P f){h0:Hp}{b:Nat}{ex:Bool}:ACall P GL f [.sl b 0 0 ex] h0 (.tup []) [] []:=by
 intro w0 L g h w vs r hx _ _
 match vs,hx with
 |[v],hx=>
 have hd:=hx.1;have key:∃p cap,v=.slice p 0 cap:=by
  cases hd with
  |slv _ _ _ cb a ec hv=>exact⟨_,_,rfl⟩
  |sl _ _ _ _ _ cb cap ec hv h1 h2 h3=>exact⟨_,_,rfl⟩
 obtain⟨p,cap,rfl⟩:=key;refine(hs p cap w).mono ?_;rintro e w' ⟨rfl,rfl⟩;exact⟨_,rfl,g,Gm.Le.refl _,r,.tup _ [] #[] rfl (by simp)⟩
end
end Go.Ah
namespace Go.Ah.Tz
open Go.Proofs.Tryz (prog)
attribute [local irreducible] Ans.rd Ans.pu Ans.wr Ans.dr Ans.gr Ans.gw Ans.gl Ans.gd Ans.opt joinK W
set_option maxHeartbeats 8000000
theorem Xbf{n:Nat}(h:n≤1000000000):IntKind.i64.wrap (((n+1:Nat):Int)-1)=(n:Int):=by
 rw[IntWalk.i64_in _ (by omega)]; omega
def XcK(l:List Int):Prop:=∀i (h:i+1<l.length),l[i]≠l[i+1]
theorem Qcm{l:List Int}(hs:l.Pairwise (·≤·))(ha:XcK l):l.Nodup:=by
 rw[List.nodup_iff_pairwise_ne,List.pairwise_iff_getElem];rw[List.pairwise_iff_getElem] at hs;intro i j hi hj hij e;have h1:l[i]≤l[i+1]:=hs i (i+1) hi (by omega) (by omega);have h2:l[i+1]≤l[j]:=by
  by_cases h:i+1=j
  ·subst h; exact Int.le_refl _
  ·exact hs (i+1) j (by omega) hj (by omega)
 have:=ha i (by omega);omega
theorem c137{σ:List ABlk}{b:Nat}{l:List Int}(hb:hget σ b=.rows 1 (l.map cel))(hs:l.Pairwise (·≤·))(hl:l.length≤1000000000){K:AVal→List ABlk→Prop}(hK:∀(m:Nat) τ,decide ((m:Int)<l.length) = !decide l.Nodup→K (.sl b 0 m false) τ) :
  g137 VV [.sl b 0 l.length false] σ K:=by
 have hyes:l.Nodup→∀τ,K (.sl b 0 l.length false) τ:=λh τ=>hK _ τ (by rw[decide_eq_false (by omega),decide_eq_true h]; rfl);unfold g137;refine Ya rfl (Ya (Yy ..) (Yc (λh=>?_) (λh=>?_)))
 ·refine hyes ?_ _;have h:l.length<2:=by simp at h; omega
  match l,h with
  |[],_=>simp
  |[x],_=>simp
  |_::_::_,h=>simp at h; omega
 have hn2:2≤l.length:=by simp at h; omega
 clear h;refine Xo (ι:=Nat) (λi vs τ=>vs=[iv (i+1:Nat)]∧τ=σ∧i+1≤l.length∧∀j (h:j<i) (h2:j+1<l.length),l[j]≠l[j+1]) (λi=>l.length-i) 0 ⟨rfl,rfl,by omega,λj h=>by omega⟩ ?_;rintro i vs τ again ⟨rfl,rfl,hi,hap⟩ hag;refine Ya rfl (Ya (Yy ..) (Yc (λh=>?_) (λh=>?_)));rotate_left
 ·have h:i+1=l.length:=by simp at h; omega
  exact hyes (Qcm hs λj hj=>hap j (by omega) hj) _
 have h:i+1<l.length:=by simp at h; omega
 have ix:∀(τ:List ABlk) (L:List Int) (n:Nat),hget τ b=.rows 1 (L.map cel)→n<l.length→Qa 1 [.sl b 0 l.length false,iv n] τ=.ok (.ptr b n 0) [b] []:=λτ L n hb hn=>by
  have:=XbD τ b 0 l.length false 1 (L.map cel) .i64 n hn hb;rw[Nat.zero_add] at this; exact this
 have gt:∀ {L:List Int} {n:Nat} (h:n<L.length),(L.map cel)[n]?=some (cel L[n]):=λh=>by simp[h]
 refine Ya (ix _ l _ hb h) (Ya (v:=iv l[i+1]) (ldp hb (gt h) rfl) (Ya (Qbj ..) ?_));rw[Xbf (by omega)];refine Ya (ix _ l _ hb (by omega)) (Ya (v:=iv l[i]) (ldp hb (gt (by omega)) rfl) (Ya (Zh ..) (Yc (λhq=>?_) (λhq=>?_))));rotate_left
 ·have hq:¬l[i+1]=l[i]:=by simpa using hq
  refine Ya (Zn ..) ?_;rw[Xg (n:=i+1) (by omega)];refine hag (i+1) _ _ (by omega) ⟨rfl,rfl,by omega,λj h1 h2=>?_⟩;by_cases e:j=i
  ·subst e; exact λe=>hq e.symm
  ·exact hap j (by omega) h2
 have hq:l[i+1]=l[i]:=by simpa using hq
 have hnd:¬l.Nodup:=λhn=>by
  have h1:=List.pairwise_iff_getElem.1 (List.nodup_iff_pairwise_ne.1 hn) i (i+1) (by omega) h (by omega);exact h1 hq.symm
 replace hK:∀(m:Nat) τ,m<l.length→K (.sl b 0 m false) τ:=λm τ hm=>hK m τ (by rw[decide_eq_true (by omega),decide_eq_false hnd]; rfl)
 clear hyes hap hag hq;obtain⟨v,rd,hv,⟨_,rfl,rfl⟩|⟨h0,_⟩⟩:=Qcu (n:=l.length) (i:=i+1) (ex:=false) hb (by omega);rotate_left
 ·omega
 refine Ya hv ?_;have ix2:∀(τ:List ABlk) (L:List Int) (n:Nat),hget τ b=.rows 1 (L.map cel)→n<l.length-(i+1)→Qa 1 [.sl b (i+1) (l.length-(i+1)) false,iv n] τ=.ok (.ptr b (i+1+n) 0) [b] []:=λτ L n hb hn=>
  XbD τ b (i+1) (l.length-(i+1)) false 1 (L.map cel) .i64 n hn hb
 refine Xo (ι:=Nat) (λj vs τ=>∃(m:Nat) (L:List Int),vs=[iv (j+1:Nat),iv m]∧hget τ b=.rows 1 (L.map cel)∧L.length=l.length∧m≤i+1+j∧i+1+(j+1)≤l.length) (λj=>l.length-j) 0 ⟨i+1,l,rfl,hb,rfl,by omega,by omega⟩ ?_;clear hb;rintro j vs τ again ⟨m,L,rfl,hb,hL,hm,hj⟩ hag;have hbl:=Xi hb (by simp);refine Ya rfl (Ya (Yy ..) (Yc (λh=>?_) (λh=>?_)))
 ·have h:j+1<l.length-(i+1):=by simp at h; omega
  refine Qm λk17 hk=>?_;have hl1:i+1+(j+1)<L.length:=by omega
  have hl0:i+1+j<L.length:=by omega
  refine Ya (ix2 _ L _ hb h) (Ya (v:=iv L[i+1+(j+1)]) (ldp hb (gt hl1) rfl) (Ya (Qbj ..) ?_));rw[Xbf (by omega)];refine Ya (ix2 _ L _ hb (by omega)) (Ya (v:=iv L[i+1+j]) (ldp hb (gt hl0) rfl) (Ya (YI ..) (Yc (λ_=>?_) (λ_=>?_))))
  ·refine Ya (ix2 _ L _ hb h) (Ya (v:=iv L[i+1+(j+1)]) (ldp hb (gt hl1) rfl) (Ya (ix _ L _ hb (by omega)) ?_));refine Qd (Ycl hb (by omega) _) (Zo _ hbl) (Ya (Zn ..) ?_);rw[Xg (n:=m) (by omega),hk];refine Ya (Zn ..) ?_;rw[Xg (n:=j+1) (by omega)];exact hag (j+1) _ _ (by omega) ⟨m+1,_,rfl,Qk _ hbl,by simpa using hL,by omega,by omega⟩
  ·rw[hk];refine Ya (Zn ..) ?_;rw[Xg (n:=j+1) (by omega)];exact hag (j+1) _ _ (by omega) ⟨m,L,rfl,hb,hL,by omega,by omega⟩
 have hmn:m<l.length:=by omega
 obtain⟨v,rd,hv,⟨_,rfl,rfl⟩|⟨h0,_⟩⟩:=Qcu (n:=l.length) (i:=m) (ex:=false) hb (by omega);rotate_left
 ·omega
 refine Ya hv ?_;have hc:Yab 1 [.int .i64 0] [.sl b m (l.length-m) false] τ=.ok .junk [] [(b,.rows 1 (over m (List.replicate (l.length-m) [.int .i64 0]) (L.map cel)))]:=by
  show (match hget τ b with
   |.rows s rs=>bif Nat.beq s 1&&Nat.ble (m+(l.length-m)) rs.length then SRes.ok .junk [] [(b,.rows 1 (over m (List.replicate (l.length-m) [.int .i64 0]) rs))] else .stop
   | _=>.stop)=_
  rw[hb];have:Nat.ble (m+(l.length-m)) (L.map cel).length=true:=Nat.ble_eq_true_of_le (by simp; omega);simp only[this,Nat.beq_refl,Bool.and_self,cond_true]
 refine Qd hc (Zo _ hbl) ?_;refine Ya (v:=.sl b 0 m false) (rd:=[b]) ?_ (hK m _ hmn);show (match hget (τ.set b _) b with
  |.rows s _=>bif Nat.beq s 1&&Nat.ble m l.length then SRes.ok (.sl b 0 m false) [b] [] else .stop
  | _=>.stop)=_
 rw[Qk _ hbl];have:Nat.ble m l.length=true:=Nat.ble_eq_true_of_le (by omega);simp only[this,Nat.beq_refl,Bool.and_self,cond_true]
theorem c95(h89:SortC prog 89)(hn:SortN prog 89)(l:List Int)(hl:l.length≤1000000000):PC 95 [rowV l] (.bool (!decide l.Nodup)):=by
 refine Ze hP g95_ok rfl rfl ?_;unfold g95;refine QaR (c96 l hl) rfl g96_ok.plain rfl ?_;simp only[Yv,List.map_cons,List.map_nil,Y7,AVal.ren,Xz,List.length_nil,Nat.zero_add,List.nil_append];have key:∀σ,hget σ 0=.rows 1 ((srt l).map cel)→VV.call (.call 137) [.sl 0 0 l.length false] σ λt9_2 σ=>VV.rd (Yd [t9_2] σ) λt10_3=>VV.rd (Yd [rowV l] σ) λt12_4=>VV.rd (Qg .lss false [t10_3,t12_4] σ) λt13_5=>t13_5=.bool (!decide l.Nodup):=λσ hb=>by
  have hln:=Qbo l;refine Xs hP rfl g137_ok rfl ?_;rw[←hln];refine c137 hb (XcR l) (by omega) (λm τ hm=>?_);refine Ya rfl (Ya (Yf ..) ?_);rw[List.length_map];refine Ya (Yy ..) ?_;rw[hln,decide_eq_decide.2 (Qcq l).nodup_iff] at hm;exact congrArg AVal.bool hm
 by_cases h0:l=[]
 ·subst h0;refine XK rfl g89_ok.plain (Xbg hn) (Yo _) ?_;exact key _ (by rw[show srt []=[] from List.eq_nil_of_length_eq_zero (Qbo [])]; rfl)
 ·exact ZcK h89 rfl h0 hl (key _ rfl)
end Go.Ah.Tz
end
section
namespace Go.Ah.Tz
open Go.Proofs.Tryz (prog)
def ZG(s:St)(side:Int):Sd:=if side=0 then s.s0 else s.s1
theorem Xch{s:St}{id:Int}(h:(unitR s id).2.2=true):∃(k:Nat) (u:Th),(unitR s id).2.1=k∧(ZG s (unitR s id).1).units[k]?=some u∧u.id=id∧((unitR s id).1=0∨(unitR s id).1=1):=by
 unfold unitR at h ⊢;cases q0:fnd s.s0.units id with
 |some k=>obtain⟨u,hk,hi⟩:=Yap q0; exact⟨k,u,rfl,hk,hi,.inl rfl⟩
 |none=>
  cases q1:fnd s.s1.units id with
  |some k=>obtain⟨u,hk,hi⟩:=Yap q1; exact⟨k,u,rfl,hk,hi,.inr rfl⟩
  |none=>rw[q0,q1] at h; cases h
structure CP (τ:List ABlk) (n:Nat) (t:St):Prop where
 box:hget τ (n+11)=.box (stO t n)
 key:∀i x,(stB t)[i]?=some x→hget τ (n+i)=x
def ubk(side:Int):Nat:=if side=0 then 4 else 9
def uof(side:Int):Nat:=if side=0 then 7 else 15
theorem CP.units{τ:List ABlk}{n:Nat}{t:St}(h:CP τ n t){side:Int}(hs:side=0∨side=1):hget τ (n+ubk side)=.rows 4 ((ZG t side).units.map thC)∧(∀σ,Xe 2 8 [.bptr (n+11) (0+7),iv side] σ=.ok (.bptr (n+11) (uof side)) [] []) ∧
  partA false (uof side+6) 1 (stO t n)=some (.sl (n+ubk side) 0 (ZG t side).units.length false):=by
 rcases hs with rfl|rfl
 ·exact⟨h.key 4 _ rfl,λ_=>rfl,rfl⟩
 ·exact⟨h.key 9 _ rfl,λ_=>rfl,rfl⟩
end Go.Ah.Tz
end
section
namespace Go.Ah.Tz
open Go.Proofs.Tryz (prog)
attribute [local irreducible] Ans.rd Ans.pu Ans.wr Ans.dr Ans.gr Ans.gw Ans.gl Ans.gd Ans.opt joinK W
set_option maxHeartbeats 8000000
theorem Gr.set{σ τ:List ABlk}{n k:Nat}{rows:List (List AVal)}{v:AVal}(h:Gr σ n rows k v τ){c:Nat}(hc:c<σ.length)(x:ABlk):Gr (σ.set c x) n rows k v (τ.set c x):=by
 obtain⟨h1,h2,h3⟩:=h;refine⟨by simpa using h1,λd hd=>?_,?_⟩
 ·have hd':d<σ.length:=by simpa using hd
  by_cases e:d=c
  ·subst e; rw[Qk _ (by omega),Qk _ hc]
  ·rw[Yj _ (by omega) e,Yj _ hd' e]; exact h2 d hd'
 ·rcases h3 with h3|⟨q1,b,q2,q3,q4,q5⟩
  ·exact .inl h3
  ·exact .inr ⟨q1,b,by simpa using q2,q3,Qi q4 (by simp) (by omega),q5⟩
theorem Gr.op{σ0 σ:List ABlk}{n by_ k:Nat}{rows:List (List AVal)}{v:AVal}{cs:List AVal}(hg:Gr σ0 n rows k v σ)(hr:cs.all AVal.cell=true)(hroom:(2*(k+1)+192)*by_≤2 ^ 48) :
  ∃v' rd up σ',Zi n by_ [v,.sl σ.length 0 1 true] (σ++[.rows n [cs]])=.ok v' rd up∧upL (σ++[.rows n [cs]]) up=some σ'∧Gr σ0 n (rows++[cs]) (k+1) v' σ':=by
 obtain⟨g1,g2,hg⟩:=hg;have hnew:=Qh σ (.rows n [cs]);rcases hg with ⟨rfl,rfl,rfl⟩|⟨hk,b,hb0,rfl,hb,hl⟩
 ·have e:=XZ n by_ (ex2:=true) hnew rfl (YS hr) (by simpa using hroom);refine⟨_,_,_,_,e,Zt _ _,by simp; omega,λc hc=>?_,.inr ⟨by omega,_,?_,rfl,by have:=Qh (σ++[ABlk.rows n [cs]]) (.rows n [cs]); simpa using this,rfl⟩⟩
  ·rw[Xq _ (by simp; omega),Xq _ (by omega),g2 c hc]
  ·simp; omega
 ·have e:=QZ n by_ (ex:=false) (ex2:=true) (Xf [.rows n [cs]] hb (by simp)) hnew hl rfl (YS hr) hroom;have hlt:=Xi hb (by simp);refine⟨_,_,_,_,e,Q8 _ _ (by simp; omega),by simp; omega,λc hc=>?_,.inr ⟨by omega,_,?_,rfl,?_,by simp[hl]⟩⟩
  ·rw[Xq _ (by simp; omega),Yj _ (by simp; omega) (by omega),Xq _ (by omega),g2 c hc]
  ·simp; omega
  ·have:=Qh ((σ++[ABlk.rows n [cs]]).set b .dead) (.rows n (rows++[cs]));simpa using this
end Go.Ah.Tz
end
section
namespace Go.Ah.Tz
open Go.Shelf Go.Proofs
open Go.Proofs.Tryz (prog)
theorem sortn89:SortN prog 89:=λp cap w=>Any.slices_Sort_int_none lays89 p cap w
end Go.Ah.Tz
end
section
namespace Go.Ah
theorem Zb8:∀ {l:List AVal} {i:Nat} {x:AVal},roL l=true→l[i]?=some x→x.ro=true
 |[],i,x,_,e=>by simp at e
 |y::l,0,x,h,e=>by simp only[roL,Bool.and_eq_true] at h; simp at e; subst e; exact h.1
 |y::l,i+1,x,h,e=>by simp only[roL,Bool.and_eq_true] at h; exact Zb8 h.2 (by simpa using e)
section
variable {P:Program} {GL:Globs}
theorem Rep.eat{w0:World}{L:Ln}{g:Gm}{h:Hp}{w:World}(r:Rep GL w0 L g h w){b sz len:Nat}{ex:Bool}{rs:List (List AVal)}(hb:h b=some (.rows sz rs))(hl:rs.length=len)(hro:∀q∈rs,roL q=true){u:Value}(d:g.den (.sl b 0 len ex) u) :
  ∃M,MLe g.M M∧Rep GL w0 L ⟨M,g.c⟩ (hup h b .dead) w∧Den M noOwn (.rsl false false sz rs) u:=by
 cases d with
 |slv _ _ _ cb p ec hv=>
  have:rs=[]:=List.length_eq_zero_iff.1 hl;subst this;exact⟨g.M,MLe.refl _,r.kill hb,.rsl _ _ _ _ [] _ _ 0 0 (λ_ _=>undef) (by simp) (by simp) (by simp) (by simp) (by simp) (by simp) (by simp) (by simp)⟩
 |sl _ _ _ _ _ cb cap ec hv h1 h2 h3=>
  subst hl;obtain⟨e1,arr,T,ho',hs,hle2,hrow,hden⟩:=r.rowsBlk hb ec hv;obtain⟨hle,r2⟩:=r.freeze hb rfl ec hv ho';refine⟨_,hle.m,r2,?_⟩;rw[Nat.zero_mul];have hin:∀i j,i<rs.length→j<sz→i*sz+j<arr.size:=by
   intro i j hi hj;have:(i+1)*sz≤rs.length*sz:=Nat.mul_le_mul_right sz (by omega);rw[Nat.succ_mul] at this; omega
  refine .rsl _ false false sz rs (some ⟨cb.blk,0,none⟩) cap cb.blk 0 (λi j=>(arr[i*sz+j]?).getD undef) (by simp) (by simp) (λ_=>rfl) (by simp) h1 hrow (λi j hi hj=>?_) (λi row j x q1 q2=>?_)
  ·have:=hin i j hi hj;simp[mcell,mup,this]
  ·have hi:i<rs.length:=(YLG q1).1;have hj:j<sz:=by rw[←hrow i row q1]; exact(YLG q2).1
   have:=hin i j hi hj;have e:arr[i*sz+j]?=some arr[i*sz+j]:=by simp[this]
   rw[e];exact Den.ro (Den.mono hle.m (hden i row j x _ q1 q2 e) (CLe.refl _)) (Zb8 (hro row (List.mem_of_getElem? q1)) q2) _
theorem DenL.snoc{g:Gm}{x:AVal}:∀ {xs:List AVal} {vs:List Value},DenL g (xs++[x]) vs→∃us u,vs=us++[u]∧DenL g xs us∧g.den x u
 |[],[u],h=>⟨[],u,rfl,trivial,h.1⟩
 |y::xs,v::vs,h=>by
  obtain⟨us,u,rfl,h1,h2⟩:=DenL.snoc h.2;exact⟨v::us,u,rfl,⟨h.1,h1⟩,h2⟩
theorem DenL.snoc_mk{g:Gm}{x:AVal}{u:Value}(hu:g.den x u):∀ {xs:List AVal} {us:List Value},DenL g xs us→DenL g (xs++[x]) (us++[u])
 |[],[],_=>⟨hu,trivial⟩
 |y::xs,v::vs,h=>⟨h.1,DenL.snoc_mk hu h.2⟩
theorem PCall.eat{f:FuncId}{pre:List AVal}{b sz len:Nat}{ex:Bool}{rs:List (List AVal)}{v:AVal}{h0:Hp}(hc:PCall P GL f (pre++[.rsl false false sz rs]) v)(hpre:roL pre=true)(hb:h0 b=some (.rows sz rs))(hl:rs.length=len)(hro:∀q∈rs,roL q=true) :
  ACall P GL f (pre++[.sl b 0 len ex]) h0 v [] [(b,.dead)]:=by
 intro w0 L g h w vs r hx _ hup;have hb':h b=some (.rows sz rs):=by rw[hup (b,_) (List.mem_singleton.2 rfl)]; exact hb
 obtain⟨us,u,rfl,h1,h2⟩:=DenL.snoc hx;obtain⟨M,hM,r2,hd⟩:=r.eat hb' hl hro h2;refine(hc w M _ r2.stable r2.globs (DenL.snoc_mk (g:=⟨M,noOwn⟩) hd (Zay hpre (h1.mono (g':=⟨M,g.c⟩) ⟨hM,CLe.refl _⟩) noOwn))).mono ?_;rintro e w' ⟨y,he,k,M',hle,hst,hsrc,hdv⟩;exact⟨y,he,⟨M',g.c⟩,⟨hM.trans hle,CLe.refl _⟩,r2.after k hle hst hsrc,hdv.mono (MLe.refl _) (CLe.noOwn _)⟩
theorem ZaL{k:MK}{xs pre:List AVal}{f:FuncId}{v:AVal}{σ:List ABlk}{b sz len:Nat}{ex:Bool}{rs:List (List AVal)}(h:PCall P GL f (pre++[.rsl false false sz rs]) v)(hc:Yr k xs=some (f,pre++[.sl b 0 len ex]))(hp':Yi P f=true)(hpre:roL pre=true)(hb:hget σ b=.rows sz rs)(hl:rs.length=len)(hro:∀q∈rs,roL q=true)
 {K:AVal→List ABlk→Prop}(hK:K v (σ.set b .dead)):(W P GL).call k xs σ K:=
 XK hc hp' (h.eat hpre (QE hb (by simp)) hl hro) (Zo _ (Xi hb (by simp))) hK
theorem Ybg{k:MK}{xs pre:List AVal}{f:FuncId}{v:AVal}{σ:List ABlk}{b sz len:Nat}{ex:Bool}{rs:List (List AVal)}(h:PCall P GL f (pre++[.rsl false false sz rs]) v)(hc:Yr k xs=some (f,pre++[.sl b 0 len ex]))(hp':Yi P f=true)(hpre:roL pre=true)(hb:hget σ b=.rows sz rs)(hl:rs.length=len)(hro:∀q∈rs,roL q=true)
 {K:AVal→List Nat×List Nat→List ABlk→Prop}(hK:K v ([],[b]) (σ.set b .dead)):(W P GL).dcall k xs σ K:=
 XY hc hp' (h.eat hpre (QE hb (by simp)) hl hro) (Zo _ (Xi hb (by simp))) hK
end
end Go.Ah
end
section
namespace Go.Ah
section
variable {P:Program} {GL:Globs}
def honly(h:Hp)(rd:List Nat):Hp:=λb=>if b∈rd then h b else (h b).map λ_=>.dead
theorem YM{h:Hp}{rd:List Nat}{b:Nat}{blk:ABlk}(e:honly h rd b=some blk)(hl:blk.live=true):b∈rd∧h b=some blk:=by
 unfold honly at e;by_cases hb:b∈rd
 ·rw[if_pos hb] at e; exact⟨hb,e⟩
 ·rw[if_neg hb] at e;obtain⟨x,_,rfl⟩:=Option.map_eq_some_iff.1 e;simp[ABlk.live] at hl
theorem Rep.only{w0:World}{L:Ln}{g:Gm}{h:Hp}{w:World}(r:Rep GL w0 L g h w)(rd:List Nat):Rep GL w0 L g (honly h rd) w where
 keeps:=r.keeps
 stable:=r.stable
 src:=r.src
 globs:=r.globs
 empt:=λb e=>r.empt b (by
  unfold honly at e;split at e
  ·exact e
  ·simpa using e)
 dom:=λb blk e=>by
  unfold honly at e;split at e
  ·exact r.dom b blk e
  ·obtain⟨x,hx,_⟩:=Option.map_eq_some_iff.1 e;exact r.dom b x hx
 own:=λb blk cb e hl=>r.own b blk cb (YM e hl).2 hl
 hollow:=λb blk cb e hl=>r.hollow b blk cb (YM e hl).2 hl
 inj:=λb b' blk blk' cb cb' e e' hl hl'=>r.inj b b' blk blk' cb cb' (YM e hl).2 (YM e' hl').2 hl hl'
def killed(rd:List Nat):List (Nat×ABlk):=rd.map λb=>(b,.dead)
theorem Rep.give{w0:World}{L:Ln}{w:World}(c:Own):∀(rd:List Nat) {M0:Nat→Option Obj} {h:Hp},Rep GL w0 L ⟨M0,c⟩ h w→(∀b∈rd,∃blk,h b=some blk) →
  ∃M,MLe M0 M∧Rep GL w0 L ⟨M,c⟩ (hups h (killed rd)) w∧∀b∈rd,∀blk cb o,h b=some blk→blk.live=true→c b=some cb→cb.virt=false→w.heap[cb.blk]?=some o→M cb.blk=some o
 |[],M0,h,r,_=>⟨M0,MLe.refl _,r,λb hb=>absurd hb (by simp)⟩
 |b::rd,M0,h,r,hin=>by
  obtain⟨blk,hb⟩:=hin b (List.mem_cons_self);have hin':∀c∈rd,∃blk,hup h b .dead c=some blk:=λc hc=>by
   by_cases e:c=b
   ·subst e; exact⟨_,Qq _ _ _⟩
   ·rw[Qn _ _ e]; exact hin c (List.mem_cons_of_mem _ hc)
  obtain⟨cb,ec⟩:=r.dom b blk hb;have key:∃M1,MLe M0 M1∧Rep GL w0 L ⟨M1,c⟩ (hup h b .dead) w∧(blk.live=true→cb.virt=false→∀o,w.heap[cb.blk]?=some o→M1 cb.blk=some o):=by
   by_cases hl:blk.live=true∧cb.virt=false
   ·obtain⟨_,_,o,ho,_⟩:=r.own b blk cb hb hl.1 ec hl.2;obtain⟨q1,q2⟩:=r.freeze hb hl.1 ec hl.2 ho;refine⟨_,q1.m,q2,λ_ _ o' ho'=>?_⟩;rw[ho] at ho'; cases ho';simp[mup]
   ·exact⟨M0,MLe.refl _,r.kill hb,λh1 h2=>absurd ⟨h1,h2⟩ hl⟩
  obtain⟨M1,m1,r1,k1⟩:=key;obtain⟨M,m2,r2,k2⟩:=Rep.give c rd r1 hin';refine⟨M,m1.trans m2,r2,λx hx blk' cb' o e1 e2 e3 e4 e5=>?_⟩;by_cases e:x=b
  ·subst e;have e3':c x=some cb:=ec;rw[hb] at e1; cases e1;rw[e3'] at e3; cases e3;exact m2 _ _ (k1 e2 e4 o e5)
  ·rcases List.mem_cons.1 hx with h'|h'
   ·exact absurd h' e
   ·exact k2 x h' blk' cb' o (by rw[Qn _ _ e]; exact e1) e2 e3 e4 e5
theorem PCall.give{f:FuncId}{xs ys:List AVal}{v:AVal}{rd:List Nat}{h0:Hp}(hc:PCall P GL f ys v)(hb:BorL h0 rd xs ys)(hin:∀b∈rd,∃blk,h0 b=some blk):ACall P GL f xs h0 v rd (killed rd):=by
 intro w0 L g h w vs r hx hrd _;obtain⟨M,hM,r2,hcov⟩:=Rep.give g.c rd (M0:=g.M) r (λb hb'=>by rw[hrd b hb']; exact hin b hb');have cov:Cov g (honly h rd) w M:=⟨hM,λb blk cb o e hl ec hv ho=>hcov b (YM e hl).1 blk cb o (YM e hl).2 hl ec hv ho⟩;have hd:=hb GL w0 L g (honly h rd) w M (r.only rd) cov (λb hb'=>by unfold honly; rw[if_pos hb']; exact hrd b hb') vs hx;refine(hc w M _ r2.stable r2.globs hd).mono ?_;rintro e w' ⟨y,he,k,M',hle,hst,hsrc,hdv⟩;exact⟨y,he,⟨M',g.c⟩,⟨hM.trans hle,CLe.refl _⟩,r2.after k hle hst hsrc,hdv.mono (MLe.refl _) (CLe.noOwn _)⟩
def killL(σ:List ABlk)(rd:List Nat):List ABlk:=rd.foldl (λσ b=>σ.set b .dead) σ
theorem YbA:∀(rd:List Nat) (σ:List ABlk),(∀b∈rd,b<σ.length)→upL σ (killed rd)=some (killL σ rd)
 |[],_,_=>rfl
 |b::rd,σ,h=>by
  have hb:=h b List.mem_cons_self;show (bif Nat.beq b σ.length then upL (σ ++ [.dead]) (killed rd) else (match Qx b .dead σ with
   |some σ'=>upL σ' (killed rd)
   | none=>none))=_
  have:Nat.beq b σ.length=false:=by
   cases e:Nat.beq b σ.length with
   |false=>rfl
   |true=>have:=YNB e; omega
  rw[this,Q3 hb];exact YbA rd (σ.set b .dead) (λc hc=>by simpa using h c (List.mem_cons_of_mem _ hc))
theorem Zbg{k:MK}{xs ys zs:List AVal}{f:FuncId}{v:AVal}{rd:List Nat}(h:PCall P GL f zs v){σ:List ABlk}(hc:Yr k xs=some (f,ys))(hp':Yi P f=true)(hb:BorL (hp σ) rd ys zs)(hin:∀b∈rd,hget σ b≠.dead){K:AVal→List ABlk→Prop}(hK:K v (killL σ rd)):(W P GL).call k xs σ K:=
 XK hc hp' (h.give hb λb hb'=>⟨_,QE rfl (hin b hb')⟩) (YbA rd σ λb hb'=>Xi rfl (hin b hb')) hK
end
end Go.Ah
end
section
namespace Go.Ah.Tz
open Go.Proofs.Tryz (prog)
def XB:List (Int×Int)→Int→Option (Int×Int)
 |[],_=>none
 |p::l,a=>if p.1=a then some p else XB l a
def pairI:List (Int×Int)→Int→Int→Int
 |[],_,_=>-1
 |p::l,i,a=>if p.1=a then i else pairI l (i+1) a
theorem XaQ(a:Int):∀(l:List (Int×Int)) (i:Nat),(∃(k:Nat) (h:k<l.length),pairI l i a=((i+k:Nat):Int)∧XB l a=some l[k]∧l[k].1=a)∨(pairI l i a = -1∧XB l a=none)
 |[],_=>.inr ⟨rfl,rfl⟩
 |p::l,i=>by
  unfold pairI XB;by_cases h:p.1=a
  ·rw[if_pos h,if_pos h]; exact .inl ⟨0,by simp,rfl,rfl,h⟩
  ·rw[if_neg h,if_neg h];rcases XaQ a l (i+1) with ⟨k,hk,h1,h2,h3⟩|⟨h1,h2⟩
   ·refine .inl ⟨k+1,by simpa using hk,?_,by simpa using h2,by simpa using h3⟩;rw[show ((i:Int)+1)=((i+1:Nat):Int) by push_cast; rfl,h1]; congr 1; omega
   ·refine .inr ⟨?_,h2⟩;rw[show ((i:Int)+1)=((i+1:Nat):Int) by push_cast; rfl,h1]
def Yai(s:St)(p:Int×Int):Bool:=((unitR s p.2).2.2 && !decide ((unitR s p.2).1=s.mover))&&s.attack.any λx=>decide (x=p.1)
def ZK(s:St)(l:List (Int×Int)):Bool:=l.all (Yai s)&&(decide (l.map (·.1)).Nodup&&decide (l.map (·.2)).Nodup)
attribute [local irreducible] Ans.rd Ans.pu Ans.wr Ans.dr Ans.gr Ans.gw Ans.gl Ans.gd Ans.opt joinK W
set_option maxHeartbeats 8000000
theorem c104(p:Int×Int)(a:Int):PC 104 [.agg (prC p),.rptr [iv a] 0] (.bool (decide (p.1=a))):=by
 refine Ze hP g104_ok rfl rfl ?_;unfold g104;exact Qd (v:=.bptr 0 0) (rd:=[]) (up:=[(0,.box (prC p))]) rfl rfl (Ya rfl (Ya (v:=iv p.1) (rd:=[0]) rfl (Ya (ldr rfl) (Ya (Zh ..) rfl))))
theorem c139(l:List (Int×Int))(hl:l.length≤1000000000)(a:Int):PC 139 [prV l,.func (.func 104) [] [.rptr [iv a] 0]] (iv (pairI l 0 a)):=by
 refine Ze hP g139_ok rfl rfl ?_;unfold g139;refine Ya (v:=iv l.length) (rd:=[]) (by simp[Yf]) ?_;refine Xo (ι:=Nat) (λi vs _=>vs=[iv i]∧i≤l.length∧pairI l 0 a=pairI (l.drop i) i a) (λi=>l.length-i) 0 ⟨rfl,by omega,rfl⟩ ?_;rintro i vs σ again ⟨rfl,hi,hu⟩ hag;refine Ya (Yy ..) (Yc (λh=>?_) (λh=>?_))
 ·have h:i<l.length:=by simpa using h
  rw[YLD h,pairI] at hu;refine Ya (Xv _ prC false false 2 l .i64 i h) (Ya (v:=.agg (prC l[i])) (ldr rfl) ?_);refine Qe (c104 l[i] a) rfl g104_ok.plain rfl (Yc (λq=>?_) (λq=>?_))
  ·rw[hu,if_pos (by simpa using q)]; rfl
  ·rw[if_neg (by simpa using q)] at hu;refine Ya (Zn ..) ?_;rw[Xg (n:=i) (by omega)];exact hag (i+1) _ _ (by omega) ⟨rfl,by omega,by rw[hu]; push_cast; rfl⟩
 ·have h:i=l.length:=by simp at h; omega
  subst h;rw[List.drop_length] at hu;rw[hu]; rfl
theorem c103(l:List (Int×Int))(hl:l.length≤1000000000)(a:Int):PC 103 [prV l,.func (.func 104) [] [.rptr [iv a] 0]] (.tup [.agg (prC ((XB l a).getD (0,0))),.bool (XB l a).isSome]):=by
 refine Ze hP g103_ok rfl rfl ?_;unfold g103;refine Qd (v:=.bptr 0 0) (rd:=[]) (up:=[(0,.box [iv 0,iv 0])]) rfl rfl ?_;refine Qe (c139 l hl a) rfl g139_ok.plain rfl ?_;rcases XaQ a l 0 with ⟨k,hk,h1,h2,_⟩|⟨h1,h2⟩
 ·have h1:pairI l 0 a=(k:Int):=by simpa using h1
  rw[h1,h2];refine Ya (Zal ..) ?_;rw[decide_eq_true (by omega)];refine Yh (Ya (Xv _ prC false false 2 l .i64 k hk) (Ya (v:=.agg (prC l[k])) (ldr rfl) (Qd (v:=.junk) (rd:=[]) (up:=[(0,.box (prC l[k]))]) rfl rfl (Ql rfl rfl))))
 ·have h1:pairI l 0 a = -1:=by simpa using h1
  rw[h1,h2];refine Ya (Zal ..) (Yg (Ya (v:=.agg [iv 0,iv 0]) (rd:=[0]) rfl (Qd (v:=.junk) (rd:=[]) (up:=[(0,.box [iv 0,iv 0])]) rfl rfl (Ql rfl rfl))))
def Tw(a d:List Int)(va vd:AVal)(τ:List ABlk):Prop:=
 (a=[]∧d=[]∧va=.nils∧vd=.nils)∨(∃p q,p≠q∧1≤p∧1≤q∧va=.sl p 0 a.length false∧vd=.sl q 0 d.length false∧hget τ p=.rows 1 (a.map cel)∧hget τ q=.rows 1 (d.map cel))
theorem Tw.ri{a d:List Int}{va vd:AVal}{τ:List ABlk}(h:Tw a d va vd τ):(∃rd,RI τ rd va a)∧∃rd,RI τ rd vd d:=by
 rcases h with ⟨rfl,rfl,rfl,rfl⟩|⟨p,q,_,_,_,rfl,rfl,h1,h2⟩
 ·exact⟨⟨[],RI.nils⟩,⟨[],RI.nils⟩⟩
 ·exact⟨⟨[p],RI.own h1 (by simp) rfl⟩,⟨[q],RI.own h2 (by simp) rfl⟩⟩
theorem c100(h89:SortC prog 89)(hn:SortN prog 89)(s:St)(hs:StLe 1000000000 s)(l:List (Int×Int))(hl:l.length≤1000000000)(hsa:s.attack.length≤1000000000):PC 100 [stV s,prV l] (.bool (ZK s l)):=by
 refine Ze hP g100_ok rfl rfl ?_;unfold g100;refine Qd (v:=.bptr 0 0) (rd:=[]) (up:=[(0,.box (stC s))]) rfl rfl ?_;refine Ya (v:=iv l.length) (rd:=[]) (by simp[Yf]) ?_;refine Xo (ι:=Nat) (λi vs τ=>∃va vd,vs=[iv i,va,vd]∧i≤l.length∧hget τ 0=.box (stC s)∧Tw ((l.take i).map (·.1)) ((l.take i).map (·.2)) va vd τ∧l.all (Yai s)=(l.drop i).all (Yai s)) (λi=>l.length-i) 0 ⟨_,_,rfl,by omega,rfl,.inl ⟨rfl,rfl,rfl,rfl⟩,rfl⟩ ?_;rintro i vs τ again ⟨va,vd,rfl,hi,h0,hT,hall⟩ hag;refine Ya (Yy ..) (Yc (λh=>?_) (λh=>?_))
 ·have h:i<l.length:=by simpa using h
  have htk:l.take (i+1)=l.take i++[l[i]]:=by rw[List.take_succ_eq_append_getElem h]
  have hix:=λ(t:List ABlk)=>Xv t prC false false 2 l .i64 i h;rw[YLD h,List.all_cons] at hall;have hlen:(l.take i).length=i:=by simp; omega
  generalize l[i]=p at hix htk hall;refine Ya (hix _) (Ya (v:=.agg (prC p)) (rd:=[]) (ldr rfl) ?_);refine Qz (row:=prC p) (row':=prC p) rfl rfl rfl ?_;have hB:=Qh τ (ABlk.box (prC p));have h0':=Xf [ABlk.box (prC p)] h0 (by simp);have hlt0:=Xi h0 (by simp);refine Ya (ld h0' rfl) (Ya rfl (Ya (v:=iv p.2) (ld hB rfl) ?_));refine Qe (c71 s hs p.2) rfl g71_ok.plain rfl (Ya rfl (Ya rfl (Ya rfl (Ya rfl ?_))));refine Zcv (v3:=iv s.mover) (λ_=>rfl) (λ_=>rfl) (λ_=>ld h0' rfl) (λ_=>Zh ..) ?_;refine Ybd (v2:=rowV s.attack) (v4:=iv p.1) (u0:=.bool (s.attack.any λx=>decide (x=p.1))) (λ_=>rfl) (λ_=>ld h0' rfl) (λ_=>rfl) (λ_=>ld hB rfl) (λ_ k hk=>Qe (c138 s.attack hsa p.1) rfl g138_ok.plain rfl hk) (λ_=>rfl) ?_;have hpk:(((!(unitR s p.2).2.2||decide ((unitR s p.2).1=s.mover)) || !(s.attack.any λx=>decide (x=p.1)))) = !Yai s p:=by
   rw[Yai]; cases (unitR s p.2).2.2<;>cases decide ((unitR s p.2).1=s.mover)<;>simp
  rw[hpk];refine Yc (λhk=>?_) (λhk=>?_)
  ·have hk:Yai s p=false:=by simpa using hk
   rw[ZK,hall,hk]; rfl
  have hk:Yai s p=true:=by simpa using hk
  rw[hk,Bool.true_and] at hall;clear hpk hk;have hgo:∀va' vd' τ',hget τ' 0=.box (stC s)→Tw (((l.take i).map (·.1))++[p.1]) (((l.take i).map (·.2))++[p.2]) va' vd' τ'→again [iv (i+1),va',vd'] τ':=λva' vd' τ' q0 q1=>by
   refine hag (i+1) _ _ (by omega) ⟨va',vd',rfl,by omega,q0,by rw[htk,List.map_append,List.map_append]; exact q1,hall⟩
  have hla:((l.take i).map (·.1)).length=i:=by simpa using hlen
  have hld:((l.take i).map (·.2)).length=i:=by simpa using hlen
  generalize (l.take i).map (·.1)=a at hT hgo hla;generalize (l.take i).map (·.2)=d at hT hgo hld;refine Yp rfl (Ys (v:=iv p.1) (ld hB rfl) (Yo _) (Ys (QbX 1 _ _ _ [iv p.1] rfl rfl) (Zt _ _) ?_));have hn1:=Qh (τ++[ABlk.box (prC p)]) (.rows 1 [[iv p.1]]);have hB1:=Xf [ABlk.rows 1 [[iv p.1]]] hB (by simp);have h01:=Xf [ABlk.rows 1 [[iv p.1]]] h0' (by simp);rcases hT with ⟨rfl,rfl,rfl,rfl⟩|⟨pa,pd,hne,hp1,hq1,rfl,rfl,hpa,hpd⟩
  ·refine Ys (XZ 1 8 hn1 rfl rfl (by simp)) (Zt _ _) ?_;have hB2:=Xf [ABlk.rows 1 [[iv p.1]]] hB1 (by simp);refine Yp rfl (Ys (v:=iv p.2) (ld hB2 rfl) (Yo _) (Ys (QbX 1 _ _ _ [iv p.2] rfl rfl) (Zt _ _) ?_));have hn2:=Qh ((τ++[ABlk.box (prC p)]++[ABlk.rows 1 [[iv p.1]]])++[ABlk.rows 1 [[iv p.1]]]) (.rows 1 [[iv p.2]]);refine Ys (XZ 1 8 hn2 rfl rfl (by simp)) (Zt _ _) (Y4 ?_ ?_)
   ·simp[Zf,List.range,List.range.loop,ZD,Z1,ZB,apart2,disj]
   refine Ya (Zn ..) ?_;rw[Xg (n:=i) (by omega)];refine hgo _ _ _ (Xf _ (Xf _ (Xf _ h01 (by simp)) (by simp)) (by simp)) (.inr ⟨_,_,?_,?_,?_,rfl,rfl,Xf _ (Xf _ (Qh _ _) (by simp)) (by simp),Qh _ _⟩)
   ·simp
   ·simp
   ·simp
  ·have hlp:=Xi hpa (by simp);have hlq:=Xi hpd (by simp);have hpa1:=Xf [ABlk.rows 1 [[iv p.1]]] (Xf [ABlk.box (prC p)] hpa (by simp)) (by simp);have hpd1:=Xf [ABlk.rows 1 [[iv p.1]]] (Xf [ABlk.box (prC p)] hpd (by simp)) (by simp);refine Ys (QZ 1 8 hpa1 hn1 (by simp) rfl rfl (by simp[hla]; omega)) (Q8 _ _ (by simp; omega)) ?_;have hB2:=Xf [ABlk.rows 1 (a.map cel++[[iv p.1]])] (Qi (c:=pa) (x:=.dead) hB1 (by simp) (by omega)) (by simp);have h02:=Xf [ABlk.rows 1 (a.map cel++[[iv p.1]])] (Qi (c:=pa) (x:=.dead) h01 (by simp) (by omega)) (by simp);have hpd2:=Xf [ABlk.rows 1 (a.map cel++[[iv p.1]])] (Qi (c:=pa) (x:=.dead) hpd1 (by simp) (by omega)) (by simp);have hnp:=Qh ((τ++[ABlk.box (prC p)]++[ABlk.rows 1 [[iv p.1]]]).set pa .dead) (.rows 1 (a.map cel++[[iv p.1]]));have hl3:((τ++[ABlk.box (prC p)]++[ABlk.rows 1 [[iv p.1]]]).set pa .dead++[ABlk.rows 1 (a.map cel++[[iv p.1]])]).length=τ.length+3:=by simp
   have hl2:((τ++[ABlk.box (prC p)]++[ABlk.rows 1 [[iv p.1]]]).set pa .dead).length=τ.length+2:=by simp
   have hl2':(τ++[ABlk.box (prC p)]++[ABlk.rows 1 [[iv p.1]]]).length=τ.length+2:=by simp
   have hl1':(τ++[ABlk.box (prC p)]).length=τ.length+1:=by simp
   rw[hl2] at hnp;rw[hl2',hl1'];generalize (τ++[ABlk.box (prC p)]++[ABlk.rows 1 [[iv p.1]]]).set pa .dead++[ABlk.rows 1 (a.map cel++[[iv p.1]])]=τ2 at hB2 h02 hpd2 hnp hl3 ⊢;refine Yp rfl (Ys (v:=iv p.2) (ld hB2 rfl) (Yo _) (Ys (QbX 1 _ _ _ [iv p.2] rfl rfl) (Zt _ _) ?_));have hn2:=Qh τ2 (.rows 1 [[iv p.2]]);have hpd3:=Xf [ABlk.rows 1 [[iv p.2]]] hpd2 (by simp);rw[hl3] at hn2 ⊢;refine Ys (QZ 1 8 hpd3 hn2 (by simp) rfl rfl (by simp[hld]; omega)) (Q8 _ _ (by simp; omega)) (Y4 ?_ ?_)
   ·have e1:¬τ.length=pa:=by omega
    have e2:¬τ.length+1=pa:=by omega
    have e5:¬τ.length=pd:=by omega
    simp[Zf,List.range,List.range.loop,ZD,Z1,ZB,apart2,disj,e1,e2,e5,hl3];omega
   refine Ya (Zn ..) ?_;rw[Xg (n:=i) (by omega)];refine hgo _ _ _ (Xf _ (Qi (Xf _ h02 (by simp)) (by simp) (by omega)) (by simp)) (.inr ⟨τ.length+2,τ.length+4,by omega,by omega,by omega,?_,?_,Xf _ (Qi (Xf _ (hnp.trans (by rw[List.map_append]; rfl)) (by simp)) (by simp) (by omega)) (by simp),?_⟩)
   ·simp
   ·simp[hl3]
   ·have:=Qh ((τ2++[ABlk.rows 1 [[iv p.2]]]).set pd .dead) (.rows 1 (d.map cel++[[iv p.2]]));simp only[List.length_set,List.length_append,hl3,List.length_singleton] at this;rw[List.map_append]; exact this
 have h:i=l.length:=by simp at h; omega
 subst h;rw[List.drop_length,List.all_nil] at hall;rw[List.take_length] at hT;obtain⟨⟨r1,hA⟩,r2,hD⟩:=hT.ri;refine ZQ (rd:=r1) (c95 h89 hn (l.map λx=>x.1) (by simpa using hl)) rfl g95_ok.plain (.cons (show Bor _ _ _ (rowV (l.map λx=>x.1)) from hA) .nil) rfl (Ya rfl ?_);refine Zcd (v1:=vd) (u0:=.bool (!decide (l.map (·.2)).Nodup)) (λ_=>rfl) (λ_ k hk=>ZQ (rd:=r2) (c95 h89 hn (l.map λx=>x.2) (by simpa using hl)) rfl g95_ok.plain (.cons (show Bor _ _ _ (rowV (l.map λx=>x.2)) from hD) .nil) rfl hk) (λ_=>rfl) ?_;rw[ZK,hall];simp
end Go.Ah.Tz
end
section
namespace Go.Ah.Tz
open Go.Proofs.Tryz (prog)
def powId(b:Bk)(s:St)(id:Int):Int×Int:=if (unitR s id).2.2 then powF b (ZG s (unitR s id).1).units (unitR s id).2.1 else (0,0)
def powV(b:Bk)(s:St)(id:Int):AVal:=.tup [iv (powId b s id).1,iv (powId b s id).2,.bool (unitR s id).2.2]
def powN(b:Bk)(s:St)(id:Int):Int:=max (powId b s id).1 0
theorem Zb7{b:Bk}{s:St}{id:Int}(h:(unitR s id).2.2=false):powN b s id=0:=by simp[powN,powId,h]
attribute [local irreducible] Ans.rd Ans.pu Ans.wr Ans.dr Ans.gr Ans.gw Ans.gl Ans.gd Ans.opt joinK W
set_option maxHeartbeats 8000000
theorem c54(b:Bk)(hf:bkFit b=true)(hsm:Zs b.cards)(s:St)(hs:StLe 1000000000 s)(hm:mayR (bkR b).1 b s true=true)(id:Int):PC 54 [bkV b,stV s,iv id] (powV b s id):=by
 refine Ze hP g54_ok rfl rfl ?_;unfold g54;refine Qd (v:=.bptr 0 0) (rd:=[]) (up:=[(0,.box (bkC b))]) rfl rfl ?_;refine Qd (v:=.bptr 1 0) (rd:=[]) (up:=[(1,.box (stC s))]) rfl rfl ?_;refine c56n b hf hsm s hs (n0:=2) (n:=13) rfl rfl rfl rfl (λh=>by rw[hm] at h; cases h) (λ_=>?_);refine Ya rfl (Yg (Ya (ld (row:=stC s) rfl rfl) (Qe (c71 s hs id) rfl g71_ok.plain rfl (Ya rfl (Ya rfl (Ya rfl (Ya rfl ?_)))))));rcases XbO s id with ⟨k,u,hu,hk⟩|⟨k,u,hu,hk⟩|hu
 ·have e:powV b s id=.tup [iv (powF b s.s0.units k).1,iv (powF b s.s0.units k).2,.bool true]:=by simp[powV,powId,hu,ZG]
  rw[e,hu];refine Yg ?_;refine ZQ (rd:=[0,2,3,4,5,6,7,8,9,10,11,12,13]) (c75_0 b s hs.s0.units (Qa7 hm) k) rfl g75_ok.plain (.cons (Bor.box (row:=mv2 s) rfl (by decide) (.cons (Bor.box (row:=bkC b) rfl (by decide) (BorL.ro rfl)) ?_)) <| .cons (Bor.ro rfl) <| .cons (Bor.ro rfl) .nil) rfl ?_
  ·exact SB.mk (s:=s) (RI.own rfl (by decide) rfl) (RI.own rfl (by decide) rfl) (RI.own rfl (by decide) rfl) (RI.own rfl (by decide) rfl) (RT.own rfl (by decide) rfl) (RI.own rfl (by decide) rfl) (RI.own rfl (by decide) rfl) (RI.own rfl (by decide) rfl) (RI.own rfl (by decide) rfl) (RT.own rfl (by decide) rfl) (RI.own rfl (by decide) rfl)
  exact Ya rfl (Ya rfl rfl)
 ·have e:powV b s id=.tup [iv (powF b s.s1.units k).1,iv (powF b s.s1.units k).2,.bool true]:=by simp[powV,powId,hu,ZG]
  rw[e,hu];refine Yg ?_;refine ZQ (rd:=[0,2,3,4,5,6,7,8,9,10,11,12,13]) (c75_1 b s hs.s1.units (Za8 hm) k) rfl g75_ok.plain (.cons (Bor.box (row:=mv2 s) rfl (by decide) (.cons (Bor.box (row:=bkC b) rfl (by decide) (BorL.ro rfl)) ?_)) <| .cons (Bor.ro rfl) <| .cons (Bor.ro rfl) .nil) rfl ?_
  ·exact SB.mk (s:=s) (RI.own rfl (by decide) rfl) (RI.own rfl (by decide) rfl) (RI.own rfl (by decide) rfl) (RI.own rfl (by decide) rfl) (RT.own rfl (by decide) rfl) (RI.own rfl (by decide) rfl) (RI.own rfl (by decide) rfl) (RI.own rfl (by decide) rfl) (RI.own rfl (by decide) rfl) (RT.own rfl (by decide) rfl) (RI.own rfl (by decide) rfl)
  exact Ya rfl (Ya rfl rfl)
 ·have e:powV b s id=.tup [iv 0,iv 0,.bool false]:=by simp[powV,powId,hu]
  rw[e,hu];exact Yh rfl
end Go.Ah.Tz
end
section
namespace Go.Ah.Tz
open Go.Proofs.Tryz (prog)
abbrev ivF:Int→AVal:=λn=>iv n
def powM(b:Bk)(s:St)(l:List Th):List (Int×Int):=l.map λu=>(u.id,powN b s u.id)
theorem Xa9(b:Bk)(s:St)(l:List Th):(powM b s l).map (·.1)=l.map Th.id:=by simp[powM]
theorem Qa9(b:Bk)(s:St)(id:Int):∀l:List Th,(ilook id (powM b s l))=if id∈l.map Th.id then some (powN b s id) else none
 |[]=>rfl
 |u::l=>by
  show (if id==u.id then some (powN b s u.id) else ilook id (powM b s l))=_;by_cases e:id=u.id
  ·subst e; simp
  ·rw[if_neg (by simpa using e),Qa9 b s id l];simp[e]
theorem Xcn(b:Bk)(s:St)(id:Int):(ilook id (powM b s (s.s0.units++s.s1.units))).getD 0=powN b s id:=by
 rw[Qa9];split
 ·rfl
 ·rename_i h;refine(Zb7 ?_).symm;cases h2:(unitR s id).2.2 with
  |false=>rfl
  |true=>
   obtain⟨k,u,_,h3,rfl,_⟩:=Xch h2;refine absurd ?_ h;have hm:=List.mem_of_getElem? h3;rw[ZG] at hm;refine List.mem_map.2 ⟨u,?_,rfl⟩;split at hm<;>simp[hm]
structure PwB (b:Bk) (s:St) (M:List (Int×Int)) (τ:List ABlk):Prop where
 k0:hget τ 0=.box (bkC b)
 k1:hget τ 1=.box (stC s)
 k2:hget τ 2=.box zStC
 k3:hget τ 3=.map (mpG ivF M)
theorem PwB.app{b:Bk}{s:St}{M:List (Int×Int)}{τ:List ABlk}(h:PwB b s M τ)(l:List ABlk):PwB b s M (τ++l):=
 ⟨Xf _ h.k0 (by simp),Xf _ h.k1 (by simp),Xf _ h.k2 (by simp),Xf _ h.k3 (by simp)⟩
attribute [local irreducible] Ans.rd Ans.pu Ans.wr Ans.dr Ans.gr Ans.gw Ans.gl Ans.gd Ans.opt joinK W
set_option maxHeartbeats 8000000
theorem Yb7(b:Bk)(hf:bkFit b=true)(hsm:Zs b.cards)(s:St)(hs:StLe 1000000000 s)(hm:mayR (bkR b).1 b s true=true)(U:List Th)(hU:U.length≤1000000000)(M:List (Int×Int))(hn:(M.map (·.1)++U.map Th.id).Nodup){τ:List ABlk}(h0:PwB b s M τ){K:List ABlk→Prop}(hK:∀τ',PwB b s (M++powM b s U) τ'→K τ') :
  VV.loop (λag30 v31 σ=>
  VV.rd (Qg .lss false [(Go.Ah.h0 v31),iv U.length] σ) λt53_32=>
  VV.test t53_32 (
  VV.rd (Qa 4 [thV U,(Go.Ah.h0 v31)] σ) λt54_33=>
  VV.rd (Zc true 4 [t54_33] σ) λt55_34=>
  VV.wr (Xc [(.int .i64 0),(.int .i64 0),(.int .i64 0),(.bool false)] [] σ) σ λt13_35 σ=>
  VV.wr (Zb 4 [t13_35,t55_34] σ) σ λ_ σ=>
  VV.rd (Zc true 2 [.bptr 0 0] σ) λt57_36=>
  VV.rd (Zc true 23 [.bptr 1 0] σ) λt58_37=>
  VV.rd (Za 0 [t13_35] σ) λt59_38=>
  VV.rd (Zc false 1 [t59_38] σ) λt60_39=>
  VV.call (.call 54) [t57_36,t58_37,t60_39] σ λt61_40 σ=>
  VV.rd (Qb 0 [t61_40] σ) λt62_41=>
  VV.rd (Qb 1 [t61_40] σ) λt63_42=>
  VV.rd (Qb 2 [t61_40] σ) λt64_43=>
  VV.rd (Za 0 [t13_35] σ) λt66_44=>
  VV.rd (Zc false 1 [t66_44] σ) λt67_45=>
  VV.rd (Zas [t62_41,(.int .i64 0)] σ) λt69_46=>
  VV.wr (Qv false [.map 3,t67_45,t69_46] σ) σ λ_ σ=>
  VV.rd (Qg .add false [(Go.Ah.h0 v31),(.int .i64 1)] σ) λt70_47=>
  ag30 [t70_47] σ) (K σ)) [(.int .i64 0)] τ:=by
 refine Xo (ι:=Nat) (λi vs τ=>vs=[iv i]∧i≤U.length∧PwB b s (M++powM b s (U.take i)) τ) (λi=>U.length-i) 0 ⟨rfl,by omega,by simpa[powM] using h0⟩ ?_;clear h0;rintro i vs τ again ⟨rfl,hi,h0⟩ hag;refine Ya (Yy ..) (Yc (λh=>?_) (λh=>?_))
 ·have h:i<U.length:=by simpa using h
  have htk:U.take (i+1)=U.take i++[U[i]]:=by rw[List.take_succ_eq_append_getElem h]
  have hix:=λ(t:List ABlk)=>Xv t thC false false 4 U .i64 i h;have hnin:ilook U[i].id (M++powM b s (U.take i))=none:=by
   have hk:=Q6 U[i].id (M++powM b s (U.take i));rw[List.map_append,Xa9] at hk;have:(M.map (·.1)++(U.take i).map Th.id).contains U[i].id=false:=by
    rw[←List.take_append_drop i U,List.map_append,←List.append_assoc] at hn;have h3:=(List.nodup_append.1 hn).2.2;cases hc:(M.map (·.1)++(U.take i).map Th.id).contains U[i].id with
    |false=>rfl
    |true=>
     refine absurd rfl (h3 U[i].id (by simpa using hc) U[i].id (List.mem_map.2 ⟨U[i],?_,rfl⟩));rw[YLD h]; exact List.mem_cons_self
   rw[this] at hk;simpa using hk
  generalize U[i]=u at hix htk hnin;refine Ya (hix _) (Ya (v:=.agg (thC u)) (rd:=[]) (ldr rfl) (Qz (row:=thC u) (row':=thC u) rfl rfl rfl ?_));have hB:=Qh τ (ABlk.box (thC u));have h1:=h0.app [.box (thC u)];refine Ya (ld h1.k0 rfl) (Ya (ld h1.k1 rfl) (Ya rfl (Ya (v:=iv u.id) (ld hB rfl) ?_)));refine Qe (c54 b hf hsm s hs hm u.id) rfl g54_ok.plain rfl (Ya rfl (Ya rfl (Ya rfl (Ya rfl (Ya (v:=iv u.id) (ld hB rfl) (Ya (QaA ..) ?_))))));refine Qd (QbY ivF h1.k3 u.id (powN b s u.id) hnin) (Zo _ (Xi h1.k3 (by simp))) (Ya (Zn ..) ?_);rw[Xg (n:=i) (by omega)];refine hag (i+1) _ _ (by omega) ⟨rfl,by omega,Qi h1.k0 (by simp) (by decide),Qi h1.k1 (by simp) (by decide),Qi h1.k2 (by simp) (by decide),?_⟩;rw[Qk _ (Xi h1.k3 (by simp)),htk];simp[powM]
 ·have h:i=U.length:=by simp at h; omega
  subst h;rw[List.take_length] at h0;exact hK _ h0
end Go.Ah.Tz
end
section
namespace Go.Ah.Tz
open Go.Proofs.Tryz (prog)
inductive FS where
 |harm (id n:Int)
 |block (a d:Int)
def fsOf(b:Bk)(s:St)(l:List (Int×Int))(a:Int):List FS:=match XB l a with
 |none=>[.harm 0 (powN b s a)]
 |some p=>[.block a p.2,.harm p.2 (powN b s a),.harm a (powN b s p.2)]
def fsAll(b:Bk)(s:St)(l:List (Int×Int)):List Int→List FS
 |[]=>[]
 |a::r=>fsOf b s l a++fsAll b s l r
theorem Qa4(b:Bk)(s:St)(l:List (Int×Int))(x y:List Int):fsAll b s l (x++y)=fsAll b s l x++fsAll b s l y:=by
 induction x with
 |nil=>rfl
 |cons a x ih=>simp[fsAll,ih]
theorem Za5(b:Bk)(s:St)(l:List (Int×Int))(x:List Int):(fsAll b s l x).length≤3*x.length:=by
 induction x with
 |nil=>simp[fsAll]
 |cons a x ih=>
  have:(fsOf b s l a).length≤3:=by unfold fsOf; split<;>simp
  simp[fsAll]; omega
def evM(e:Ev):List AVal:=if e.kind=12 then evN e else evC e
def fsGo(b:Bk)(mv:Int):List FS→St→List Ev→St×List Ev×Int
 |[],t,l=>(t,l,0)
 |.block a d::r,t,l=>fsGo b mv r t (l++[⟨12,mv,0,a,d,0,[]⟩])
 |.harm id n::r,t,l=>if (harmF b t id (1-mv) n).2.2=0 then fsGo b mv r (harmF b t id (1-mv) n).1 (l++[(harmF b t id (1-mv) n).2.1]) else (zSt,[],(harmF b t id (1-mv) n).2.2)
def Q5(r:St×List Ev×Int):St×List Ev×Int:=if r.2.2=0 then ({ r.1 with attack:=[],phase:=0 },r.2.1,0) else (zSt,[],r.2.2)
def fightR(b:Bk)(s:St)(l:List (Int×Int)):St×List Ev×Int:=
 if mayR (bkR b).1 b s false=true then (if (decide (s.phase≠1) || !ZK s l)=true then (zSt,[],2) else Q5 (fsGo b s.mover (fsAll b s l s.attack) s [])) else (zSt,[],170)
@[reducible] def ZaN(r:St×List Ev×Int):AVal:=.tup [stV r.1,.rsl false false 7 (r.2.1.map evM),iv r.2.2]
theorem Zac{σ:List ABlk}(e:Int):∃rd,Bor (Go.Ah.hp σ) rd (.tup [.agg zStC,.nils,iv e]) (ZaN (zSt,[],e)):=
 ⟨[],Bor.tup (.cons SB.zero.agg <| .cons (Bor.weak (Bor.ro rfl) (λM u d=>d.nils_rsl 7)) <| .cons (Bor.ro rfl) .nil)⟩
inductive FnV (n:Nat) (τ:List ABlk):FS→AVal→Prop
 |harm {p q:Nat} {id k:Int}:n+14≤p→n+14≤q→hget τ p=.box [iv id]→hget τ q=.box [iv k]→FnV n τ (.harm id k) (.func (.func 102) [] [.bptr 0 0,.bptr (n+11) 0,.bptr p 0,.bptr 1 0,.bptr q 0,.bptr (n+12) 0])
 |block {p q:Nat} {a a' d:Int}:n+14≤p→n+14≤q→hget τ p=.box [iv a]→hget τ q=.box [iv a',iv d]→FnV n τ (.block a d) (.func (.func 105) [] [.bptr (n+12) 0,.bptr 1 0,.bptr p 0,.bptr q 0])
def Bx(e:Nat)(τ τ':List ABlk):Prop:=τ.length≤τ'.length∧∀c y,c≠e→hget τ c=.box y→hget τ' c=.box y
theorem Bx.app(e:Nat)(τ l:List ABlk):Bx e τ (τ++l):=⟨by simp,λc y _ h=>Xf _ h (by simp)⟩
theorem Bx.trans{e:Nat}{a b c:List ABlk}(h:Bx e a b)(k:Bx e b c):Bx e a c:=⟨Nat.le_trans h.1 k.1,λx y hx h1=>k.2 x y hx (h.2 x y hx h1)⟩
theorem FnV.bx{n:Nat}{τ τ':List ABlk}{x:FS}{v:AVal}(h:FnV n τ x v)(k:∀c y,n+14≤c→hget τ c=.box y→hget τ' c=.box y):FnV n τ' x v:=by
 cases h with
 |harm h1 h2 h3 h4=>exact .harm h1 h2 (k _ _ h1 h3) (k _ _ h2 h4)
 |block h1 h2 h3 h4=>exact .block h1 h2 (k _ _ h1 h3) (k _ _ h2 h4)
def SR(n:Nat)(τ:List ABlk)(S:List FS)(v:AVal):Prop:=
 (S=[]∧v=.nils)∨∃R rows,n+14≤R∧0<S.length∧v=.sl R 0 S.length false∧hget τ R=.rows 1 rows∧rows.length=S.length∧∀i (h:i<S.length),∃fv,rows[i]?=some [fv]∧fv.cell=true∧FnV n τ S[i] fv
structure SX (b:Bk) (s:St) (M:List (Int×Int)) (n:Nat) (S:List FS) (v:AVal) (τ:List ABlk):Prop where
 ln:n+14≤τ.length
 n4:4≤n
 pw:PwB b s M τ
 cp:CP τ n s
 ev:hget τ (n+12)=.box [.nils]
 st:hget τ (n+13)=.box [v]
 row:SR n τ S v
theorem SX.app{b:Bk}{s:St}{M:List (Int×Int)}{n:Nat}{S:List FS}{v:AVal}{τ:List ABlk}(h:SX b s M n S v τ)(l:List ABlk):SX b s M n S v (τ++l):=by
 refine⟨by have:=h.ln; simp; omega,h.n4,h.pw.app l,⟨Xf _ h.cp.box (by simp),λi x hx=>?_⟩,Xf _ h.ev (by simp),Xf _ h.st (by simp),?_⟩
 ·have hi:i<11:=(YLG hx).1;have:=h.ln;rw[Xq l (by omega)]; exact h.cp.key i x hx
 ·rcases h.row with h1|⟨R,rows,h1,h2,h3,h4,h5,h6⟩
  ·exact .inl h1
  ·refine .inr ⟨R,rows,h1,h2,h3,Xf _ h4 (by simp),h5,λi hi=>?_⟩;obtain⟨fv,q1,q2,q3⟩:=h6 i hi;exact⟨fv,q1,q2,q3.bx (λc y _ hy=>Xf _ hy (by simp))⟩
theorem FnV.cell{n:Nat}{τ:List ABlk}{x:FS}{v:AVal}(h:FnV n τ x v):v.cell=true:=by cases h<;>rfl
theorem SX.upd{b:Bk}{s:St}{M:List (Int×Int)}{n:Nat}{S S':List FS}{v v':AVal}{τ τ':List ABlk}(h:SX b s M n S v τ){R:Nat}(hR:n+14≤R)(hA:Agr τ τ' [n+13,R])(hst:hget τ' (n+13)=.box [v'])(hrow:SR n τ' S' v'):SX b s M n S' v' τ':=by
 have hl:=h.ln;have n4:=h.n4;refine⟨Nat.le_trans hl hA.1,n4,⟨hA.get h.pw.k0 (by simp) (by simp; omega),hA.get h.pw.k1 (by simp) (by simp; omega),hA.get h.pw.k2 (by simp) (by simp; omega),hA.get h.pw.k3 (by simp) (by simp; omega)⟩,⟨hA.get h.cp.box (by simp) (by simp; omega),λi x hx=>?_⟩,hA.get h.ev (by simp) (by simp; omega),hst,hrow⟩;have hi:i<11:=(YLG hx).1;rw[hA.2 (n+i) (by omega) (by simp; omega)]; exact h.cp.key i x hx
theorem Agr.bx{n R:Nat}{τ τ':List ABlk}(hA:Agr τ τ' [n,R])(hR:∀ y,hget τ R≠.box y):Bx n τ τ':=⟨hA.1,λc y hc hy=>hA.get hy (by simp) (by
 have:c≠R:=λe=>hR y (e ▸ hy);simp[hc,this])⟩
attribute [local irreducible] Ans.rd Ans.pu Ans.wr Ans.dr Ans.gr Ans.gw Ans.gl Ans.gd Ans.opt joinK W
set_option maxHeartbeats 8000000
theorem Qcv{b:Bk}{s:St}{M:List (Int×Int)}{n:Nat}{S:List FS}{v:AVal}{τ:List ABlk}(h:SX b s M n S v τ)(hS:S.length≤1000000){x:FS}{fv:AVal}(hx:FnV n τ x fv){K:AVal→List ABlk→Prop}(hK:∀v' τ',SX b s M n (S++[x]) v' τ'→Bx (n+13) τ τ'→K .junk τ') :
  VV.wr (Zg 1 1 [.nilf] [(0,1)] [fv] τ) τ λt σ=>VV.wr (Zi 1 8 [v,t] σ) σ λt2 σ=>VV.wr (Zb 1 [.bptr (n+13) 0,t2] σ) σ K:=by
 have hc:=hx.cell;have hrc:Qu [[fv]]=true:=by cases hx<;>rfl
 have hl:=h.ln;have n4:=h.n4;refine Qd (QbX 1 τ fv [.nilf] [fv] (by cases hx<;>rfl) rfl) (Zt _ _) ?_;have hnew:=Qh τ (.rows 1 [[fv]]);have hcl:∀(m:Nat),cellsOf (.sl m 0 (S.length+1) false)=some [.sl m 0 (S.length+1) false]:=λm=>rfl;rcases h.row with ⟨rfl,rfl⟩|⟨R,rows,r1,r2,rfl,r4,r5,r6⟩
 ·refine Qd (XZ 1 8 hnew rfl hrc (by simp)) (Zt _ _) ?_;have hst:=Xf [.rows 1 [[fv]]] (Xf [.rows 1 [[fv]]] h.st (by simp)) (by simp);refine Qd (stv (row':=[.sl (τ.length + 1) 0 1 false]) hst (by simp; rfl) rfl rfl) (Zo _ (Xi hst (by simp))) ?_;have hA:Agr τ ((τ ++ [ABlk.rows 1 [[fv]]] ++ [ABlk.rows 1 [[fv]]]).set (n + 13) (.box [.sl (τ.length + 1) 0 1 false])) [n + 13,τ.length]:=⟨by simp; try omega,λc hc hn=>by
   simp only[List.mem_cons,List.not_mem_nil,or_false,not_or] at hn;rw[Yj _ (by simp; omega) hn.1,Xq _ (by simp; omega),Xq _ hc]⟩
  refine hK _ _ (h.upd (v':=.sl (τ.length+1) 0 1 false) (by omega) hA (Qk _ (Xi hst (by simp))) (.inr ⟨τ.length+1,[[fv]],by omega,by simp,rfl,?_,rfl,λi hi=>?_⟩)) (hA.bx (λy hc=>Nat.lt_irrefl _ (Xi hc (by simp))))
  ·have:=Qh (τ++[ABlk.rows 1 [[fv]]]) (.rows 1 [[fv]]);exact Qi (by simpa using this) (by simp) (by omega)
  ·obtain rfl:i=0:=by simp at hi; omega
   exact⟨fv,rfl,hc,hx.bx (λc y hc hy=>(hA.bx (λy hc=>Nat.lt_irrefl _ (Xi hc (by simp)))).2 c y (by omega) hy)⟩
 ·refine Qd (QZ 1 8 (Xf _ r4 (by simp)) hnew r5 rfl hrc (by omega)) (Q8 _ _ (by have:=Xi r4 (by simp); simp; omega)) ?_;have hst:=Xf [.rows 1 (rows ++ [[fv]])] (Qi (c:=R) (x:=.dead) (Xf [.rows 1 [[fv]]] h.st (by simp)) (by simp) (by omega)) (by simp);refine Qd (stv (row':=[.sl (τ.length + 1) 0 (S.length + 1) false]) hst (by simp; rfl) rfl rfl) (Zo _ (Xi hst (by simp))) ?_;have hA:Agr τ (((τ ++ [ABlk.rows 1 [[fv]]]).set R .dead ++ [ABlk.rows 1 (rows ++ [[fv]])]).set (n + 13) (.box [.sl (τ.length + 1) 0 (S.length + 1) false])) [n + 13,R]:=⟨by simp; try omega,λc hc hn=>by
   simp only[List.mem_cons,List.not_mem_nil,or_false,not_or] at hn;rw[Yj _ (by simp; omega) hn.1,Xq _ (by simp; omega),Yj _ (by simp; omega) hn.2,Xq _ hc]⟩
  have hbx:=hA.bx (λy=>by rw[r4]; simp);have hlen:(S++[x]).length=S.length+1:=by simp
  refine hK _ _ (h.upd (v':=.sl (τ.length+1) 0 (S.length+1) false) r1 hA (Qk _ (Xi hst (by simp))) (.inr ⟨τ.length+1,rows++[[fv]],by omega,by simp,by rw[hlen],?_,by simp[r5],λi hi=>?_⟩)) hbx
  ·have:=Qh ((τ++[ABlk.rows 1 [[fv]]]).set R .dead) (.rows 1 (rows++[[fv]]));exact Qi (by simpa using this) (by simp) (by omega)
  ·by_cases hi2:i<S.length
   ·obtain⟨w,q1,q2,q3⟩:=r6 i hi2;refine⟨w,by rw[List.getElem?_append_left (by omega)]; exact q1,q2,?_⟩;rw[List.getElem_append_left hi2];exact q3.bx (λc y hc hy=>hbx.2 c y (by omega) hy)
   ·obtain rfl:i=S.length:=by omega
    refine⟨fv,by rw[List.getElem?_append_right (by omega),r5]; simp,hc,?_⟩;rw[List.getElem_append_right (by omega)];simpa using hx.bx (λc y hc hy=>hbx.2 c y (by omega) hy)
theorem w101{b:Bk}{s:St}{M:List (Int×Int)}{n:Nat}{S:List FS}{v:AVal}{τ:List ABlk}(h:SX b s M n S v τ)(hS:S.length≤1000000)(id k:Int){K:AVal→List ABlk→Prop}(hK:∀v' τ',SX b s M n (S++[.harm id k]) v' τ'→Bx (n+13) τ τ'→K (.tup []) τ') :
  VV.call .callv [.func (.func 101) [] [.bptr (n+13) 0,.bptr 0 0,.bptr (n+11) 0,.bptr 1 0,.bptr (n+12) 0],iv id,iv k] τ K:=by
 refine Xs hP rfl g101_ok rfl ?_;unfold g101;refine Qd (v:=.bptr τ.length 0) (rd:=[]) (up:=[(τ.length,.box [iv id])]) rfl (Zt _ _) ?_;refine Qd (v:=.bptr (τ++[ABlk.box [iv id]]).length 0) (rd:=[]) (up:=[((τ++[ABlk.box [iv id]]).length,.box [iv k])]) rfl (Zt _ _) ?_;have h1:=(h.app [.box [iv id]]).app [.box [iv k]];have b1:=(Bx.app (n+13) τ [.box [iv id]]).trans (Bx.app (n+13) _ [.box [iv k]]);refine Ya (ld h1.st rfl) (Ya (Xag ..) (Qcv h1 hS (x:=.harm id k) (.harm h.ln (by have:=h.ln; simp; omega) (Xf _ (Qh _ _) (by simp)) (Qh _ _)) (λv' τ' h2 b2=>hK v' τ' h2 (b1.trans b2))))
end Go.Ah.Tz
end
section
namespace Go.Ah.Tz
open Go.Proofs.Tryz (prog)
def EvR(n:Nat)(τ:List ABlk)(l:List Ev)(v:AVal):Prop:=
 (l=[]∧v=.nils)∨∃Q,n+14≤Q∧0<l.length∧v=.sl Q 0 l.length false∧hget τ Q=.rows 7 (l.map evM)
def TB(n:Nat)(s t:St)(τ:List ABlk):Prop:=(t=s∧CP τ n s)∨hget τ (n+11)=.box (stC t)
theorem TB.keep{n:Nat}{s t:St}{τ τ':List ABlk}(h:TB n s t τ)(k:∀c,c<n+12→hget τ' c=hget τ c):TB n s t τ':=by
 rcases h with ⟨h1,h2⟩|h1
 ·refine .inl ⟨h1,by rw[k _ (by omega)]; exact h2.box,λi x hx=>?_⟩;have hi:i<11:=(YLG hx).1;rw[k _ (by omega)]; exact h2.key i x hx
 ·exact .inr (by rw[k _ (by omega)]; exact h1)
theorem TB.sb{n:Nat}{s t:St}{τ:List ABlk}(h:TB n s t τ):∃cs rd,hget τ (n+11)=.box cs∧cs.length=23∧partA true 0 23 cs=some (.agg cs)∧SB τ rd cs t∧(∀c∈rd,n≤c∧c<n+11)∧(∀c∈rd,hget τ c≠.dead):=by
 rcases h with ⟨rfl,h2⟩|h1
 ·refine⟨_,(List.range 11).map (n + ·),h2.box,rfl,rfl,SB.copy h2.key λi hi=>List.mem_map.2 ⟨i,List.mem_range.2 hi,rfl⟩,λc hc=>?_,λc hc=>?_⟩
  ·obtain⟨i,hi,rfl⟩:=List.mem_map.1 hc;have:=List.mem_range.1 hi; omega
  ·obtain⟨i,hi,rfl⟩:=List.mem_map.1 hc;have:=List.mem_range.1 hi;have hl:i<(stB t).length:=by simpa[stB,sdB] using this
   rw[h2.key i _ (List.getElem?_eq_getElem hl)]
   match i,this with
   |0,_|1,_|2,_|3,_|4,_|5,_|6,_|7,_|8,_|9,_|10,_=>simp[stB,sdB]
 ·exact⟨_,[],h1,rfl,rfl,SB.ro t,by simp,by simp⟩
structure RX (b:Bk) (s:St) (n:Nat) (l:List Ev) (v:AVal) (τ:List ABlk):Prop where
 ln:n+14≤τ.length
 n4:4≤n
 k0:hget τ 0=.box (bkC b)
 k1:hget τ 1=.box (stC s)
 k2:hget τ 2=.box zStC
 ev:hget τ (n+12)=.box [v]
 row:EvR n τ l v
def Kp2(n:Nat)(τ τ':List ABlk):Prop:=τ.length≤τ'.length∧∀c y,hget τ c=y→y≠.dead→(c<n∨n+13≤c)→(∀rs,y≠.rows 7 rs)→hget τ' c=y
theorem Kp2.trans{n:Nat}{a b c:List ABlk}(h:Kp2 n a b)(k:Kp2 n b c):Kp2 n a c:=⟨Nat.le_trans h.1 k.1,λx y h1 h2 h3 h4=>k.2 x y (h.2 x y h1 h2 h3 h4) h2 h3 h4⟩
theorem Agr.kp2{n:Nat}{τ τ':List ABlk}{e:List Nat}(h:Agr τ τ' e)(he:∀ c∈e,(n≤c∧c < n + 13)∨(∃ rs,hget τ c=.rows 7 rs)):Kp2 n τ τ':=⟨h.1,λc y h1 h2 h3 h4=>h.get h1 h2 (λhc=>by
 rcases he c hc with q|⟨rs,q⟩
 ·omega
 ·exact h4 rs (h1.symm.trans q))⟩
theorem SR.kp2{n:Nat}{τ τ':List ABlk}{S:List FS}{v:AVal}(h:SR n τ S v)(k:Kp2 n τ τ'):SR n τ' S v:=by
 rcases h with h|⟨R,rows,h1,h2,h3,h4,h5,h6⟩
 ·exact .inl h
 ·refine .inr ⟨R,rows,h1,h2,h3,k.2 R _ h4 (by simp) (by omega) (by simp),h5,λi hi=>?_⟩;obtain⟨fv,q1,q2,q3⟩:=h6 i hi;exact⟨fv,q1,q2,q3.bx (λc y hc hy=>k.2 c _ hy (by simp) (by omega) (by simp))⟩
theorem RX.upd{b:Bk}{s:St}{n:Nat}{l l':List Ev}{v v':AVal}{τ τ':List ABlk}(h:RX b s n l v τ){e:List Nat}(he:∀c∈e,n≤c)(hA:Agr τ τ' e)(hev:hget τ' (n+12)=.box [v'])(hrow:EvR n τ' l' v'):RX b s n l' v' τ':=by
 have hl:=h.ln;have n4:=h.n4;have hn:∀c,c<n→c∉e:=λc hc hm=>by have:=he c hm; omega
 exact⟨Nat.le_trans hl hA.1,n4,hA.get h.k0 (by simp) (hn _ (by omega)),hA.get h.k1 (by simp) (hn _ (by omega)),hA.get h.k2 (by simp) (hn _ (by omega)),hev,hrow⟩
theorem RX.mono{b:Bk}{s:St}{n:Nat}{l:List Ev}{v:AVal}{τ τ':List ABlk}(h:RX b s n l v τ){e:List Nat}(he:∀c∈e,n≤c∧c<n+12)(hA:Agr τ τ' e):RX b s n l v τ':=by
 refine h.upd (λc hc=>(he c hc).1) hA (hA.get h.ev (by simp) (λhc=>by have:=he _ hc; omega)) ?_;rcases h.row with h1|⟨Q,h1,h2,h3,h4⟩
 ·exact .inl h1
 ·exact .inr ⟨Q,h1,h2,h3,hA.get h4 (by simp) (λhc=>by have:=he _ hc; omega)⟩
theorem Qa5:∀(rd:List Nat) (σ:List ABlk),Agr σ (killL σ rd) rd
 |[],σ=>⟨Nat.le_refl _,λ_ _ _=>rfl⟩
 |b::rd,σ=>by
  have h:=Qa5 rd (σ.set b .dead);refine⟨by have:=h.1; simpa[killL] using this,λc hc hn=>?_⟩;simp only[List.mem_cons,not_or] at hn;show hget (killL (σ.set b .dead) rd) c=_;rw[h.2 c (by simpa using hc) hn.2,Yj _ hc hn.1]
attribute [local irreducible] Ans.rd Ans.pu Ans.wr Ans.dr Ans.gr Ans.gw Ans.gl Ans.gd Ans.opt joinK W
set_option maxHeartbeats 8000000
theorem Xct{b:Bk}{s:St}{n:Nat}{l:List Ev}{v:AVal}{τ:List ABlk}(h:RX b s n l v τ)(hl:l.length≤1000000)(e:Ev){K:AVal→List ABlk→Prop}(hK:∀v' τ',RX b s n (l++[e]) v' τ'→Kp2 n τ τ'→(∀c,c<n+12→hget τ' c=hget τ c)→K .junk τ') :
  VV.wr (Zg 7 1 zEvC [(0,7)] [.agg (evM e)] τ) τ λt σ=>VV.wr (Zi 7 72 [v,t] σ) σ λt2 σ=>VV.wr (Zb 1 [.bptr (n+12) 0,t2] σ) σ K:=by
 have hrc:Qu [evM e]=true:=by unfold evM; split<;>rfl
 have hln:=h.ln;refine Qd (QbX 7 τ (.agg (evM e)) zEvC (evM e) (by unfold evM; split<;>rfl) (by unfold evM; split<;>rfl)) (Zt _ _) ?_;have hnew:=Qh τ (.rows 7 [evM e]);have hlen:(l++[e]).length=l.length+1:=by simp
 rcases h.row with ⟨rfl,rfl⟩|⟨Q,r1,r2,rfl,r4⟩
 ·refine Qd (XZ 7 72 hnew rfl hrc (by simp)) (Zt _ _) ?_;have hst:=Xf [.rows 7 [evM e]] (Xf [.rows 7 [evM e]] h.ev (by simp)) (by simp);refine Qd (stv (row':=[.sl (τ.length + 1) 0 1 false]) hst (by simp; rfl) rfl rfl) (Zo _ (Xi hst (by simp))) ?_;have hA:Agr τ ((τ ++ [ABlk.rows 7 [evM e]] ++ [ABlk.rows 7 [evM e]]).set (n + 12) (.box [.sl (τ.length + 1) 0 1 false])) [n + 12]:=⟨by simp; try omega,λc hc hn=>by
   rw[Yj _ (by simp; omega) (by simpa using hn),Xq _ (by simp; omega),Xq _ hc]⟩
  refine hK (.sl (τ.length+1) 0 1 false) _ (h.upd (e:=[n+12]) (by simp) hA (Qk _ (Xi hst (by simp))) (.inr ⟨τ.length+1,by omega,by simp,rfl,?_⟩)) (hA.kp2 (by simp)) (λc hc=>hA.2 c (by omega) (by simp; omega));have:=Qh (τ++[ABlk.rows 7 [evM e]]) (.rows 7 [evM e]);exact Qi (by simpa using this) (by simp) (by omega)
 ·refine Qd (QZ 7 72 (Xf _ r4 (by simp)) hnew (by simp) rfl hrc (by omega)) (Q8 _ _ (by have:=Xi r4 (by simp); simp; omega)) ?_;have hst:=Xf [.rows 7 (l.map evM ++ [evM e])] (Qi (c:=Q) (x:=.dead) (Xf [.rows 7 [evM e]] h.ev (by simp)) (by simp) (by omega)) (by simp);refine Qd (stv (row':=[.sl (τ.length + 1) 0 (l.length + 1) false]) hst (by simp; rfl) rfl rfl) (Zo _ (Xi hst (by simp))) ?_;have hA:Agr τ (((τ ++ [ABlk.rows 7 [evM e]]).set Q .dead ++ [ABlk.rows 7 (l.map evM ++ [evM e])]).set (n + 12) (.box [.sl (τ.length + 1) 0 (l.length + 1) false])) [n + 12,Q]:=⟨by simp; try omega,λc hc hn=>by
   simp only[List.mem_cons,List.not_mem_nil,or_false,not_or] at hn;rw[Yj _ (by simp; omega) hn.1,Xq _ (by simp; omega),Yj _ (by simp; omega) hn.2,Xq _ hc]⟩
  refine hK (.sl (τ.length+1) 0 (l.length+1) false) _ (h.upd (e:=[n+12,Q]) (by simp; omega) hA (Qk _ (Xi hst (by simp))) (.inr ⟨τ.length+1,by omega,by simp,by rw[hlen],?_⟩)) (hA.kp2 (by simp only[List.mem_cons,List.not_mem_nil,or_false]; rintro c (rfl|rfl); exact .inl (by omega); exact .inr ⟨_,r4⟩)) (λc hc=>hA.2 c (by omega) (by simp; omega));have:=Qh ((τ++[ABlk.rows 7 [evM e]]).set Q .dead) (.rows 7 (l.map evM++[evM e]));exact Qi (by simpa using this) (by simp) (by omega)
theorem ZbT{s:St}{kd k:Int}{v:Int×Int}(h:(chgP s kd k v).2.2=0):(chgP s kd k v).2.1.kind=kd:=by
 unfold chgP at *;by_cases c:wIn v.1=true
 ·rw[if_pos c]
 ·rw[if_neg c] at h; cases h
theorem Za2{s:St}{kd k:Int}{i:Nat}{id:Int}{u:Th}{v:Int×Int}(h:(chgU s kd k i id u v).2.2=0):(chgU s kd k i id u v).2.1.kind=kd:=by
 unfold chgU at *;by_cases c:wIn v.1=true
 ·rw[if_pos c]
 ·rw[if_neg c] at h; cases h
theorem QbS{s:St}{kd id k:Int}{fP:Int→Int×Int}{fU:Th→Int×Int}(h:(chgF kd fP fU s id k).2.2=0):(chgF kd fP fU s id k).2.1.kind=kd:=by
 unfold chgF at *;by_cases c:id=0
 ·rw[if_pos c] at *; exact ZbT h
 rw[if_neg c] at *;by_cases c:id<0
 ·rw[if_pos c] at h; cases h
 rw[if_neg c] at *;cases q0:fnd s.s0.units id with
 |some i=>rw[q0] at h; exact Za2 h
 |none=>
  rw[q0] at h;cases q1:fnd s.s1.units id with
  |some i=>rw[q1] at h; exact Za2 h
  |none=>rw[q1] at h; cases h
theorem Xb2{b:Bk}{t:St}{id k n:Int}(h:(harmF b t id k n).2.2=0):evC (harmF b t id k n).2.1=evM (harmF b t id k n).2.1:=by
 have:(harmF b t id k n).2.1.kind=5:=QbS h;unfold evM;rw[if_neg (by rw[this]; decide)]
theorem XcV(b:Bk)(hf:bkFit b=true)(hsm:Zs b.cards)(he:(bkR b).1=0){s:St}(hmv:s.mover=0∨s.mover=1){n:Nat}{t:St}{l:List Ev}{v:AVal}{τ:List ABlk}(h:RX b s n l v τ)(hT:TB n s t τ)(hM:MayP b t)(hl:l.length≤1000000){x:FS}{fv:AVal}(hx:FnV n τ x fv){K:AVal→List ABlk→Prop}
 (hOk:∀t' e v' τ',(∀r,fsGo b s.mover (x::r) t l=fsGo b s.mover r t' (l++[e]))→MayP b t'→RX b s n (l++[e]) v' τ'→TB n s t' τ'→Kp2 n τ τ'→K (iv 0) τ')
 (hBad:∀e τ',e≠0→(∀r,fsGo b s.mover (x::r) t l=(zSt,[],e))→Kp2 n τ τ'→K (iv e) τ') :
  VV.call .callv [fv] τ K:=by
 have hln:=h.ln;cases hx with
 |block h1 h2 h3 h4=>
  rename_i p q a a' d;refine Xs hP rfl g105_ok rfl ?_;unfold g105;refine Ya (ld h.ev rfl) (Ya rfl (Ya (v:=iv s.mover) (ld h.k1 rfl) (Ya (ld h3 rfl) (Ya rfl (Ya (v:=iv d) (ld h4 rfl) (Ya (v:=.agg (evN ⟨12,s.mover,0,a,d,0,[]⟩)) (rd:=[]) rfl ?_))))));refine Xct h hl ⟨12,s.mover,0,a,d,0,[]⟩ (λv' τ' h2 hk hk2=>?_);exact hOk t _ v' τ' (λr=>rfl) hM h2 (hT.keep hk2) hk
 |harm h1 h2 h3 h4=>
  rename_i p q id k;refine Xs hP rfl g102_ok rfl ?_;unfold g102;obtain⟨cs,rd,b1,b2,b3,b4,b5,b6⟩:=hT.sb;have h0:1-s.mover=0∨1-s.mover=1:=by omega
  have hmt:mayR (bkR b).1 b t true=true:=Ybm.2 ⟨he,hM⟩;refine Ya (ld h.k0 rfl) (Ya (ld b1 b3) (Ya (ld h3 rfl) (Ya rfl (Ya (v:=iv s.mover) (ld h.k1 rfl) (Ya (Qbj ..) (Ya (ld h4 rfl) ?_))))));rw[wrapI (n:=1-s.mover) (by omega) (by omega)];refine Zbg (rd:=rd) (c22 b hf hsm t (hM.le.mono (by decide)) hmt id (1-s.mover) k h0) rfl g22_ok.plain (.cons (Bor.ro rfl) <| .cons b4.agg <| .cons (Bor.ro rfl) <| .cons (Bor.ro rfl) <| .cons (Bor.ro rfl) .nil) b6 ?_;have hkeep:=ZbK hM h0 (id:=id) (n:=k);have hgo:∀r,fsGo b s.mover (.harm id k::r) t l=if (harmF b t id (1-s.mover) k).2.2=0 then fsGo b s.mover r (harmF b t id (1-s.mover) k).1 (l++[(harmF b t id (1-s.mover) k).2.1]) else (zSt,[],(harmF b t id (1-s.mover) k).2.2):=λr=>rfl
  have hkd:=Xb2 (b:=b) (t:=t) (id:=id) (k:=1 - s.mover) (n:=k);generalize harmF b t id (1 - s.mover) k=r at hkeep hgo hkd;obtain⟨t',ev,e⟩:=r;have hA0:=Qa5 rd τ;have hR0:=h.mono (λc hc=>⟨(b5 c hc).1,by have:=(b5 c hc).2; omega⟩) hA0;have hK0:Kp2 n τ (killL τ rd):=hA0.kp2 (λc hc=>.inl (by have:=b5 c hc; omega));have c1:=hA0.get b1 (by simp) (λhc=>by have:=b5 _ hc; omega);clear hA0 h1 h2 h3 h4 b4 b5 b6 hT h;have hln:n + 14≤(killL τ rd).length:=hR0.ln;generalize killL τ rd=τ0 at hR0 hK0 c1 hln ⊢;refine Ya rfl (Ya rfl (Ya rfl ?_));refine Qd (v:=.bptr τ0.length 0) (rd:=[]) (up:=[(τ0.length,.box zStC)]) rfl (Zt _ _) ?_;refine Qd (v:=.bptr (τ0 ++ [ABlk.box zStC]).length 0) (rd:=[]) (up:=[((τ0 ++ [ABlk.box zStC]).length,.box zEvC)]) rfl (Zt _ _) ?_;have n7:=Xf [ABlk.box zEvC] (Qh τ0 (.box zStC)) (by simp);have n8:=Qh (τ0 ++ [ABlk.box zStC]) (.box zEvC);refine Qd (stv (row':=stC t') n7 rfl rfl rfl) (Zo _ (Xi n7 (by simp))) ?_;have n8':=Qi (c:=τ0.length) (x:=.box (stC t')) n8 (by simp) (by simp);refine Qd (stv (row':=evC ev) n8' rfl rfl rfl) (Zo _ (Xi n8' (by simp))) ?_;have m8:=Qk (.box (evC ev)) (Xi n8' (by simp));have m7:=Qi (c:=(τ0 ++ [ABlk.box zStC]).length) (x:=.box (evC ev)) (Qk (.box (stC t')) (Xi n7 (by simp))) (by simp) (by simp);have hA:Agr τ0 (((τ0 ++ [ABlk.box zStC] ++ [ABlk.box zEvC]).set τ0.length (.box (stC t'))).set (τ0 ++ [ABlk.box zStC]).length (.box (evC ev))) []:=⟨by simp; try omega,λc hc _=>by
   rw[Yj _ (by simp; omega) (by simp; omega),Yj _ (by simp; omega) (by omega),Xq _ (by simp; omega),Xq _ hc]⟩
  have hp8:n+14≤(τ0++[ABlk.box zStC]).length:=by simp; omega
  generalize ((τ0++[ABlk.box zStC]++[ABlk.box zEvC]).set τ0.length (.box (stC t'))).set (τ0++[ABlk.box zStC]).length (.box (evC ev))=τ1 at m8 m7 hA ⊢;generalize (τ0++[ABlk.box zStC]).length=p8 at m8 hp8 ⊢;generalize τ0.length=p7 at m7 hln ⊢;have hR:=hR0.mono (by simp) hA;have hK1:Kp2 n τ τ1:=hK0.trans (hA.kp2 (by simp));refine Ya (Zh ..) (Yc (λhz=>?_) (λhz=>?_))
  ·have hz:e=0:=by simpa using hz
   subst hz;refine Ya (ld m7 rfl) ?_;have b1':=hA.get c1 (by simp) (by simp);refine Qd (stv (row':=stC t') b1' rfl rfl (Z8 _ _ (by rw[b2]; rfl))) (Zo _ (Xi b1' (by simp))) ?_;have hA2:=Agr.set τ1 (n+11) (.box (stC t'));have hR2:=hR.mono (λc hc=>by simp at hc; omega) hA2;refine Ya (ld hR2.ev rfl) (Ya (ld (hA2.get m8 (by simp) (by simp; omega)) rfl) ?_);have hT2:TB n s t' (τ1.set (n+11) (.box (stC t'))):=.inr (Qk _ (Xi b1' (by simp)));rw[show [iv8 ev.kind,iv ev.side,iv ev.card,iv ev.id,iv ev.other,iv ev.n,rowV ev.cards]=evM ev from hkd rfl];refine Xct hR2 hl ev (λv' τ' h2 hk hk2=>?_);exact hOk t' ev v' τ' (λr=>by rw[hgo]; exact if_pos rfl) (hkeep rfl).1 h2 (hT2.keep hk2) (hK1.trans ((hA2.kp2 (λc hc=>.inl (by simp at hc; omega))).trans hk))
  ·have hz:e≠0:=by simpa using hz
   exact hBad e τ1 hz (λr=>by rw[hgo]; exact if_neg hz) hK1
end Go.Ah.Tz
end
section
namespace Go.Ah.Tz
open Go.Proofs.Tryz (prog)
attribute [local irreducible] Ans.rd Ans.pu Ans.wr Ans.dr Ans.gr Ans.gw Ans.gl Ans.gd Ans.opt joinK W
set_option maxHeartbeats 8000000
theorem Ycr{s:St}(hs:StLe 1000000000 s){σ:List ABlk}{n:Nat}(hn:σ.length=n){K:AVal→AVal→List ABlk→Prop}(hK:∀τ,τ.length=n+12→(∀c y,hget σ c=y→y≠.dead→hget τ c=y)→CP τ n s→K (.bptr (n+11) 0) .junk τ) :
  VV.call (.call 59) [stV s] σ λv σ=>VV.wr (Xc zStC [] σ) σ λt σ=>VV.wr (Zb 23 [t,v] σ) σ (K t):=by
 subst hn;refine w59 hs (SB.ro (rd:=[]) s) ?_;have hl:(σ++stB s).length=σ.length+11:=by simp[stB,sdB]
 refine Qz (row:=stO s σ.length) (row':=stO s σ.length) rfl rfl rfl ?_;have h11:=Qh (σ++stB s) (.box (stO s σ.length));rw[hl] at h11 ⊢;refine hK _ (by simp[stB,sdB]) (λc y h hd=>Xf _ (Xf _ h hd) hd) ⟨h11,λi x hx=>?_⟩;have hi:i<11:=(YLG hx).1;exact YL (by rw[List.getElem?_append_left (by omega),List.getElem?_append_right (by omega)]; simpa using hx)
theorem ZcP(e:Ev):roL (evM e)=true:=by unfold evM; split<;>rfl
theorem EvR.bor{n:Nat}{τ:List ABlk}{l:List Ev}{v:AVal}(h:EvR n τ l v):∃rd,(∀c∈rd,n+14≤c)∧Bor (Go.Ah.hp τ) rd v (.rsl false false 7 (l.map evM)):=by
 rcases h with ⟨rfl,rfl⟩|⟨Q,h1,h2,rfl,h4⟩
 ·exact⟨[],by simp,Bor.weak (Bor.ro rfl) (λM u d=>d.nils_rsl 7)⟩
 ·refine⟨[Q],by simpa using h1,Bor.own h4 (by simp) (by simp) (XaA _ _ (by simp)) (λr hr=>?_)⟩;obtain⟨e,_,rfl⟩:=List.mem_map.1 hr;exact ZcP e
@[reducible] def endC(t s:St)(n:Nat):List AVal:=stQ t .nils (.sl (n+1) 0 s.s0.deck.length false) (.sl (n+2) 0 s.s0.hand.length false) (.sl (n+3) 0 s.s0.grave.length false) (.sl (n+4) 0 s.s0.units.length false) (.sl (n+5) 0 s.s0.told.length false) (.sl (n+6) 0 s.s1.deck.length false) (.sl (n+7) 0 s.s1.hand.length false) (.sl (n+8) 0 s.s1.grave.length false) (.sl (n+9) 0 s.s1.units.length false) (.sl (n+10) 0 s.s1.told.length false)
@[reducible] def endF(t s:St):List AVal:=stQ t .nils (rowV s.s0.deck) (rowV s.s0.hand) (rowV s.s0.grave) (thV s.s0.units) (rowV s.s0.told) (rowV s.s1.deck) (rowV s.s1.hand) (rowV s.s1.grave) (thV s.s1.units) (rowV s.s1.told)
theorem YcB{τ:List ABlk}{n:Nat}{s:St}(key:∀i x,1≤i→(stB s)[i]?=some x→hget τ (n+i)=x):∃rd,SB τ rd (endC { s with attack:=[],phase:=0 } s n) { s with attack:=[],phase:=0 }:=by
 have hin:∀ i,i < 11→n + i∈(List.range 11).map (n + ·):=λi hi=>List.mem_map.2 ⟨i,List.mem_range.2 hi,rfl⟩;exact⟨(List.range 11).map (n + ·),SB.mk RI.nils (RI.own (key 1 _ (by decide) rfl) (hin 1 (by decide)) rfl) (RI.own (key 2 _ (by decide) rfl) (hin 2 (by decide)) rfl) (RI.own (key 3 _ (by decide) rfl) (hin 3 (by decide)) rfl) (RT.own (key 4 _ (by decide) rfl) (hin 4 (by decide)) rfl) (RI.own (key 5 _ (by decide) rfl) (hin 5 (by decide)) rfl)
  (RI.own (key 6 _ (by decide) rfl) (hin 6 (by decide)) rfl) (RI.own (key 7 _ (by decide) rfl) (hin 7 (by decide)) rfl) (RI.own (key 8 _ (by decide) rfl) (hin 8 (by decide)) rfl) (RT.own (key 9 _ (by decide) rfl) (hin 9 (by decide)) rfl) (RI.own (key 10 _ (by decide) rfl) (hin 10 (by decide)) rfl)⟩
theorem ZcB{τ:List ABlk}(s:St):SB τ [] (endF { s with attack:=[],phase:=0 } s) { s with attack:=[],phase:=0 }:=
 SB.mk RI.nils (RI.ro _) (RI.ro _) (RI.ro _) (Bor.ro rfl) (RI.ro _) (RI.ro _) (RI.ro _) (RI.ro _) (Bor.ro rfl) (RI.ro _)
theorem YcI(b:Bk){s t:St}{n:Nat}{l:List Ev}{ev:AVal}{τ:List ABlk}(hR:RX b s n l ev τ)(hT:TB n s t τ) :
  VV.rd (Za 5 [.bptr (n+11) 0] τ) λt127_102=>
  VV.wr (Zb 1 [t127_102,.nils] τ) τ λ_ σ=>
  VV.rd (Za 2 [.bptr (n+11) 0] σ) λt128_103=>
  VV.wr (Zb 1 [t128_103,(.int .i8 0)] σ) σ λ_ σ=>
  VV.dr (Zc true 23 [.bptr (n+11) 0] σ) σ λt129_104 l105 σ=>
  VV.dr (Zc false 1 [.bptr (n+12) 0] σ) σ λt130_106 l107 σ=>
  VV.dr (Zb 23 [.bptr 2 0,t129_104] σ) σ λ_ l108 σ=>
  VV.gd (Zf [[],[],[0],[0,1,2],[0,1,2,3]] [l105,l107,l108,([],[]),([],[])]) <|
  VV.opt (cellV true 23 (.bptr 2 0) σ) λr109=>
  (λv' σ=>∃rd,Bor (Go.Ah.hp σ) rd v' (ZaN ({ t with attack:=[],phase:=0 },l,0))) (.tup [r109,t130_106,(.int .i64 0)]) σ:=by
 have hln:=hR.ln;have hn4:=hR.n4;have key:∀cs1 cs2:List AVal,cs2.length=23→cellsOf (.agg cs2)=some cs2→partA true 0 23 cs2=some (.agg cs2)→(∀τ',Agr τ τ' [2,n+11]→∃rd,SB τ' rd cs2 { t with attack:=[],phase:=0 }) →
  VV.dr (Zc true 23 [.bptr (n+11) 0] ((τ.set (n+11) (.box cs1)).set (n+11) (.box cs2))) ((τ.set (n+11) (.box cs1)).set (n+11) (.box cs2)) λt129_104 l105 σ=>
  VV.dr (Zc false 1 [.bptr (n+12) 0] σ) σ λt130_106 l107 σ=>
  VV.dr (Zb 23 [.bptr 2 0,t129_104] σ) σ λ_ l108 σ=>
  VV.gd (Zf [[],[],[0],[0,1,2],[0,1,2,3]] [l105,l107,l108,([],[]),([],[])]) <|
  VV.opt (cellV true 23 (.bptr 2 0) σ) λr109=>
  (λv' σ=>∃rd,Bor (Go.Ah.hp σ) rd v' (ZaN ({ t with attack:=[],phase:=0 },l,0))) (.tup [r109,t130_106,(.int .i64 0)]) σ:=by
  intro cs1 cs2 hlen hc hp hsb;have h2:hget ((τ.set (n + 11) (.box cs1)).set (n + 11) (.box cs2)) 2=.box zStC:=Qi (Qi hR.k2 (by simp) (by omega)) (by simp) (by omega);have hev:hget ((τ.set (n + 11) (.box cs1)).set (n + 11) (.box cs2)) (n + 12)=.box [ev]:=Qi (Qi hR.ev (by simp) (by omega)) (by simp) (by omega);have hst:hget ((τ.set (n + 11) (.box cs1)).set (n + 11) (.box cs2)) (n + 11)=.box cs2:=Qk _ (by simp; omega);have hA:Agr τ (((τ.set (n + 11) (.box cs1)).set (n + 11) (.box cs2)).set 2 (.box cs2)) [2,n + 11]:=⟨by simp,λc hc hn=>by
   simp only[List.mem_cons,List.not_mem_nil,or_false,not_or] at hn;rw[Yj _ (by simp; omega) hn.1,Yj _ (by simp; omega) hn.2,Yj _ hc hn.2]⟩
  generalize (τ.set (n+11) (.box cs1)).set (n+11) (.box cs2)=σ at h2 hev hst hA ⊢;refine Ys (ld hst hp) (Yo _) (Ys (ld hev (v:=ev) rfl) (Yo _) (Ys (stv (row':=cs2) h2 hc (by rw[hlen]; rfl) (Z8 _ _ (by rw[hlen]; rfl))) (Zo _ (Xi h2 (by simp))) (Y4 ?_ ?_)))
  ·simp[Zf,List.range,List.range.loop,ZD,Z1,ZB,apart2,disj]
  refine Ql (Qa1 (Qk _ (Xi h2 (by simp))) hp) ?_;obtain⟨rd,hsb⟩:=hsb _ hA;have hrow:EvR n (σ.set 2 (.box cs2)) l ev:=by
   rcases hR.row with h1|⟨Q,h1,h2,h3,h4⟩
   ·exact .inl h1
   ·exact .inr ⟨Q,h1,h2,h3,hA.get h4 (by simp) (by simp; omega)⟩
  obtain⟨rd2,_,hE⟩:=hrow.bor;exact⟨rd++rd2,Bor.tup (.cons (Bor.more hsb.agg (by simp +contextual)) <| .cons (Bor.more hE (by simp +contextual)) <| .cons (Bor.ro rfl) .nil)⟩
 rcases hT with ⟨rfl,hcp⟩|hT
 ·have hb:=hcp.box;refine Ya rfl (Qd (stv (row':=endC t t n) hb rfl rfl rfl) (Zo _ (Xi hb (by simp))) ?_);have hb1:=Qk (.box (endC t t n)) (Xi hb (by simp));refine Ya rfl (Qd (stv (row':=endC { t with attack:=[],phase:=0 } t n) hb1 rfl rfl rfl) (Zo _ (Xi hb1 (by simp))) ?_);refine key _ _ rfl rfl rfl (λτ' hA=>YcB λi x hi hx=>?_);have hi:i<11:=(YLG hx).1;rw[hA.2 (n+i) (by omega) (by simp; omega)]; exact hcp.key i x hx
 ·refine Ya rfl (Qd (stv (row':=endF t t) hT rfl rfl rfl) (Zo _ (Xi hT (by simp))) ?_);have hb1:=Qk (.box (endF t t)) (Xi hT (by simp));refine Ya rfl (Qd (stv (row':=endF { t with attack:=[],phase:=0 } t) hb1 rfl rfl rfl) (Zo _ (Xi hb1 (by simp))) ?_);exact key _ _ rfl rfl rfl (λτ' hA=>⟨[],ZcB t⟩)
theorem XcI(b:Bk)(hf:bkFit b=true)(hsm:Zs b.cards)(he:(bkR b).1=0){s:St}(hM:MayP b s)(hmv:s.mover=0∨s.mover=1){M:List (Int×Int)}{n:Nat}{S:List FS}(hS:S.length≤100000){v:AVal}{τ:List ABlk}(h:SX b s M n S v τ) :
  VV.rd (Zc false 1 [.bptr (n+13) 0] τ) λt114_90=>
  VV.rd (Yd [t114_90] τ) λt115_91=>
  VV.loop (λag92 v93 σ=>
  VV.rd (Qg .lss false [(Go.Ah.h0 v93),t115_91] σ) λt117_94=>
  VV.test t117_94 (
  VV.rd (Qa 1 [t114_90,(Go.Ah.h0 v93)] σ) λt118_95=>
  VV.rd (Zc false 1 [t118_95] σ) λt119_96=>
  VV.call .callv [t119_96] σ λt121_97 σ=>
  VV.rd (Qg .neq false [t121_97,(.int .i64 0)] σ) λt123_98=>
  VV.test t123_98 (
  VV.rd (Qc zStC [] [] σ) λt124_99=>
  VV.wr (Zb 23 [.bptr 2 0,t124_99] σ) σ λ_ σ=>
  VV.opt (cellV true 23 (.bptr 2 0) σ) λr100=>
  (λv' σ=>∃rd,Bor (Go.Ah.hp σ) rd v' (ZaN (Q5 (fsGo b s.mover S s [])))) (.tup [r100,.nils,t121_97]) σ) (
  VV.rd (Qg .add false [(Go.Ah.h0 v93),(.int .i64 1)] σ) λt126_101=>
  ag92 [t126_101] σ)) (
  VV.rd (Za 5 [.bptr (n+11) 0] σ) λt127_102=>
  VV.wr (Zb 1 [t127_102,.nils] σ) σ λ_ σ=>
  VV.rd (Za 2 [.bptr (n+11) 0] σ) λt128_103=>
  VV.wr (Zb 1 [t128_103,(.int .i8 0)] σ) σ λ_ σ=>
  VV.dr (Zc true 23 [.bptr (n+11) 0] σ) σ λt129_104 l105 σ=>
  VV.dr (Zc false 1 [.bptr (n+12) 0] σ) σ λt130_106 l107 σ=>
  VV.dr (Zb 23 [.bptr 2 0,t129_104] σ) σ λ_ l108 σ=>
  VV.gd (Zf [[],[],[0],[0,1,2],[0,1,2,3]] [l105,l107,l108,([],[]),([],[])]) <|
  VV.opt (cellV true 23 (.bptr 2 0) σ) λr109=>
  (λv' σ=>∃ rd,Bor (Go.Ah.hp σ) rd v' (ZaN (Q5 (fsGo b s.mover S s [])))) (.tup [r109,t130_106,(.int .i64 0)]) σ)) [(.int .i64 0)] τ:=by
 have hl:Yd [v] τ=.ok (iv S.length) [] []:=by
  rcases h.row with ⟨rfl,rfl⟩|⟨R,rows,_,_,rfl,_,_,_⟩<;>rfl
 refine Ya (ld h.st rfl) (Ya hl ?_);have hRX:RX b s n [] .nils τ:=⟨h.ln,h.n4,h.pw.k0,h.pw.k1,h.pw.k2,h.ev,.inl ⟨rfl,rfl⟩⟩;refine Xo (ι:=Nat) (λi vs τ=>∃t l ev,vs=[iv i]∧i≤S.length∧RX b s n l ev τ∧TB n s t τ∧MayP b t∧SR n τ S v∧l.length≤i∧fsGo b s.mover S s []=fsGo b s.mover (S.drop i) t l) (λi=>S.length-i) 0 ⟨s,[],.nils,rfl,by omega,hRX,.inl ⟨rfl,h.cp⟩,hM,h.row,by simp,rfl⟩ ?_;clear hRX hl h hM;rintro i vs τ again ⟨t,l,ev,rfl,hi,hR,hT,hM,hSR,hll,hgo⟩ hag;refine Ya (Yy ..) (Yc (λh=>?_) (λh=>?_))
 ·have h:i<S.length:=by simpa using h
  rcases hSR with ⟨rfl,_⟩|⟨R,rows,r1,r2,rfl,r4,r5,r6⟩
  ·simp at h
  obtain⟨fv,q1,q2,q3⟩:=r6 i h;rw[YLD h] at hgo;refine Ya (v:=.ptr R i 0) (rd:=[R]) ?_ (Ya (v:=fv) (rd:=[R]) (ldp r4 q1 (by generalize S[i]=x at q3; cases q3<;>rfl)) ?_)
  ·have:=XbD τ R 0 S.length false 1 rows .i64 i h r4;rw[Nat.zero_add] at this; exact this
  have hSR:SR n τ S (.sl R 0 S.length false):=.inr ⟨R,rows,r1,r2,rfl,r4,r5,r6⟩;refine XcV b hf hsm he hmv hR hT hM (by omega) q3 (λt' e v' τ' hg hM' hR' hT' hk=>?_) (λe τ' hz hg hk=>?_)
  ·refine Ya (YI ..) (Yg (Ya (Zn ..) ?_));rw[Xg (n:=i) (by omega)];exact hag (i+1) _ _ (by omega) ⟨t',_,v',rfl,by omega,hR',hT',hM',hSR.kp2 hk,by simp; omega,by rw[hgo,hg]⟩
  ·have k2:=hk.2 2 _ hR.k2 (by simp) (by have:=hR.n4; omega) (by simp);refine Ya (YI ..) ?_;rw[decide_eq_true hz];refine Yh (Ya rfl (Qd (stv (row':=zStC) k2 rfl rfl rfl) (Zo _ (Xi k2 (by simp))) (Ql (Qa1 (Qk _ (Xi k2 (by simp))) rfl) ?_)));rw[hgo,hg,Q5,if_neg hz];exact Zac e
 have h:i=S.length:=by simp at h; omega
 subst h;rw[List.drop_length] at hgo;rw[hgo,fsGo,Q5,if_pos rfl];exact YcI b hR hT
theorem c48(h89:SortC prog 89)(hn:SortN prog 89)(b:Bk)(hf:bkFit b=true)(hsm:Zs b.cards)(s:St)(hs:StLe 1000000000 s)(l:List (Int×Int))(hl:l.length≤1000000000):PC 48 [bkV b,stV s,prV l] (ZaN (fightR b s l)):=by
 refine YE hP g48_ok rfl ?_;unfold g48;refine Qd (v:=.bptr 0 0) (rd:=[]) (up:=[(0,.box (bkC b))]) rfl rfl ?_;refine Qd (v:=.bptr 1 0) (rd:=[]) (up:=[(1,.box (stC s))]) rfl rfl ?_;refine Qd (v:=.bptr 2 0) (rd:=[]) (up:=[(2,.box zStC)]) rfl rfl ?_;refine Ya rfl (Ya rfl (Qe (c55 b hf hsm s hs) rfl g55_ok.plain rfl (Ya (YI ..) ?_)));rcases YBE (mayR (bkR b).1 b s false) with hm|hm
 rotate_left
 ·rw[fightR,if_neg (by rw[hm]; simp),hm];exact Yh (Ya rfl (Qd rfl rfl (Ql rfl (Zac 170))))
 rw[fightR,if_pos hm,hm];have hmb:=Qbw hm;obtain⟨he,hM⟩:=Ybm.1 hmb;have hatl:s.attack.length≤7:=by
  by_cases hp:s.phase=1
  ·exact(hM.at_.2 hp).2.1
  ·rw[hM.at_.1 hp]; simp
 refine Yg (Ya rfl (Ya rfl (Ya (YI ..) ?_)));refine Ycf (v1:=stV s) (v2:=prV l) (u0:=.bool (ZK s l)) (λ_=>rfl) (λ_=>rfl) (λ_ k hk=>Qe (c100 h89 hn s hs l hl (by omega)) rfl g100_ok.plain rfl hk) (λ_=>rfl) (Yc (λh=>?_) (λh=>?_))
 ·rw[if_pos h];exact Ya rfl (Qd rfl rfl (Ql rfl (Zac 2)))
 rw[if_neg (by rw[h]; simp)];clear h;have hmv:s.mover=0∨s.mover=1:=by have:=hM.hd; unfold HdP at this; omega
 refine Qd (v:=.map 3) (rd:=[]) (up:=[(3,.map [])]) rfl rfl (Ya rfl (Ya rfl (XH 3 (Yl ?_))));have hnd:(([]:List (Int×Int)).map (·.1)++s.s0.units.map Th.id).Nodup:=by
  have:=hM.un.2;rw[List.map_append,List.nodup_append] at this;simpa using this.1
 have w1:IntKind.i64.wrap (0+1)=1:=by decide
 have w2:IntKind.i64.wrap (1+1)=2:=by decide
 refine Ya rfl (Yh (Ya rfl ?_));refine Qz (row:=sdC s.s0) (row':=sdC s.s0) rfl rfl rfl (Ya rfl (Ya (v:=thV s.s0.units) (ld (Qh _ _) rfl) (Ya (v:=iv s.s0.units.length) (rd:=[]) (by simp[Yf]) ?_)));refine Yb7 b hf hsm s hs hmb s.s0.units (by have:=hM.le.s0.units; omega) [] hnd (h0:=⟨rfl,rfl,rfl,rfl⟩) (λτ1 h1=>?_);refine Ya rfl ?_;rw[w1];refine Yl (Ya rfl (Yh (Ya rfl ?_)));refine Qz (row:=sdC s.s1) (row':=sdC s.s1) rfl rfl rfl (Ya rfl (Ya (v:=thV s.s1.units) (ld (Qh _ _) rfl) (Ya (v:=iv s.s1.units.length) (rd:=[]) (by simp[Yf]) ?_)));refine Yb7 b hf hsm s hs hmb s.s1.units (by have:=hM.le.s1.units; omega) _ ?_ (h0:=h1.app _) (λτ2 h2=>?_)
 ·rw[List.nil_append,Xa9,←List.map_append]; exact hM.un.2
 refine Ya rfl ?_;rw[w2];refine Yl (Ya rfl (Yg ?_));rw[List.nil_append,powM,powM,←List.map_append] at h2;have h2:PwB b s (powM b s (s.s0.units++s.s1.units)) τ2:=h2;have hlk:=λid=>Xcn b s id;generalize powM b s (s.s0.units++s.s1.units)=M at h2 hlk;clear h1 hnd w1 w2;have n4:=Xi h2.k3 (by simp);refine Ya (ld h2.k1 rfl) (Ycr hs rfl (λτ3 hlen hk hcp=>?_));generalize τ2.length=n at hlen hcp n4 ⊢;have h3:PwB b s M τ3:=⟨hk 0 _ h2.k0 (by simp),hk 1 _ h2.k1 (by simp),hk 2 _ h2.k2 (by simp),hk 3 _ h2.k3 (by simp)⟩;refine Qd (v:=.bptr τ3.length 0) (rd:=[]) (up:=[(τ3.length,.box [.nils])]) rfl (Zt _ _) ?_;refine Qd (v:=.bptr (τ3++[ABlk.box [.nils]]).length 0) (rd:=[]) (up:=[((τ3++[ABlk.box [.nils]]).length,.box [.nils])]) rfl (Zt _ _) ?_;have hX:SX b s M n (fsAll b s l (s.attack.take 0)) .nils (τ3++[ABlk.box [.nils]]++[ABlk.box [.nils]]):=by
  have e1:=Qh τ3 (.box [.nils]);have e2:=Qh (τ3++[ABlk.box [.nils]]) (.box [.nils]);rw[show (τ3++[ABlk.box [.nils]]).length=n+13 by simp[hlen]] at e2;rw[hlen] at e1;refine⟨by simp[hlen],by omega,(h3.app _).app _,⟨Xf _ (Xf _ hcp.box (by simp)) (by simp),λi x hx=>?_⟩,Xf _ e1 (by simp),e2,.inl ⟨rfl,rfl⟩⟩;have hi:i<11:=(YLG hx).1;rw[Xq _ (by simp; omega),Xq _ (by omega)]; exact hcp.key i x hx
 have e13:(τ3++[ABlk.box [AVal.nils]]).length=n+13:=by simp[hlen]
 rw[e13,hlen];clear hcp h3 h2 hk;generalize τ3++[ABlk.box [.nils]]++[ABlk.box [.nils]]=τ4 at hX ⊢;refine Ya (Xag ..) (Ya rfl (Ya (v:=rowV s.attack) (ld hX.pw.k1 rfl) (Ya (v:=iv s.attack.length) (rd:=[]) (by simp[Yf]) ?_)));refine Xo (ι:=Nat) (λi vs τ=>vs=[iv i]∧i≤s.attack.length∧∃v,SX b s M n (fsAll b s l (s.attack.take i)) v τ) (λi=>s.attack.length-i) 0 ⟨rfl,by omega,_,hX⟩ ?_;clear hX;rintro i vs τ again ⟨rfl,hi,v,hX⟩ hag;refine Ya (Yy ..) (Yc (λh=>?_) (λh=>?_));rotate_left
 ·have h:i=s.attack.length:=by simp at h; omega
  subst h;rw[List.take_length] at hX;exact XcI b hf hsm he hM hmv (by have:=Za5 b s l s.attack; omega) hX
 have h:i<s.attack.length:=by simpa using h
 have htk:s.attack.take (i+1)=s.attack.take i++[s.attack[i]]:=by rw[List.take_succ_eq_append_getElem h]
 have hix:=λ(t:List ABlk)=>Xv t cel false false 1 s.attack .i64 i h;have hlen:(fsAll b s l (s.attack.take i)).length≤100000:=by
  have:=Za5 b s l (s.attack.take i);simp at this; omega
 generalize s.attack[i]=a at htk hix;have hlast:∀v' τ',SX b s M n (fsAll b s l (s.attack.take i)++fsOf b s l a) v' τ'→again [iv (i+1)] τ':=λv' τ' hX'=>by
  refine hag (i+1) _ _ (by omega) ⟨rfl,by omega,v',?_⟩;rw[htk,Qa4];simpa[fsAll] using hX'
 generalize fsAll b s l (s.attack.take i)=S at hX hlen hlast;refine Qm λk61 hk61=>?_;refine Ya (hix _) (Ya (v:=iv a) (rd:=[]) (ldr rfl) (Qz (row:=[iv a]) (row':=[iv a]) rfl rfl rfl ?_));have hB:=Qh τ (ABlk.box [iv a]);have hX1:=hX.app [.box [iv a]];have hpa:n+14≤τ.length:=hX.ln;clear hX;generalize τ++[ABlk.box [iv a]]=τ5 at hB hX1 ⊢;generalize τ.length=pa at hB hpa ⊢;refine Ya (Xag ..) (ZQ (rd:=[pa]) (c103 l hl a) rfl g103_ok.plain (.cons (Bor.ro rfl) <| .cons (Bor.func .nil (.cons (Bor.box (row:=[iv a]) (QE hB (by simp)) (by simp) (BorL.ro rfl)) .nil)) .nil) (by cases XB l a<;>rfl) (Ya rfl (Ya rfl ?_)));refine Qz (row:=prC ((XB l a).getD (0,0))) (row':=prC ((XB l a).getD (0,0))) rfl rfl rfl (Ya rfl ?_);have hB2:=Qh τ5 (ABlk.box (prC ((XB l a).getD (0,0))));have hB1:=Xf [ABlk.box (prC ((XB l a).getD (0,0)))] hB (by simp);have hX2:=hX1.app [.box (prC ((XB l a).getD (0,0)))];have hpb:n+14≤τ5.length:=hX1.ln;clear hX1 hB;generalize τ5++[ABlk.box (prC ((XB l a).getD (0,0)))]=τ6 at hB1 hB2 hX2 ⊢;generalize τ5.length=pb at hB2 hpb ⊢;have hlook:∀ {τ':List ABlk} (id:Int),hget τ' 3=.map (mpG ivF M)→Zp false false (.int .i64 0) [.map 3,iv id] τ'=.ok (iv (powN b s id)) [3] []:=λid h=>by
  have:=XaT ivF (.int .i64 0) false h id;rw[←hlk id];refine this.trans ?_;cases ilook id M<;>rfl
 cases hp:XB l a with
 |none=>
  rw[hp] at hB2;have e:fsOf b s l a=[.harm 0 (powN b s a)]:=by simp[fsOf,hp]
  rw[e] at hlast;refine Yh (Ya (ld hB1 rfl) (Ya (hlook a hX2.pw.k3) (w101 hX2 (by omega) 0 (powN b s a) (λv' τ' h1 _=>?_))));rw[hk61];refine Ya (Zn ..) ?_;rw[Xg (n:=i) (by omega)];exact hlast v' τ' h1
 |some p=>
  rw[hp] at hB2;have hB2:hget τ6 pb=.box [iv p.1,iv p.2]:=hB2;have e:fsOf b s l a=[.block a p.2,.harm p.2 (powN b s a),.harm a (powN b s p.2)]:=by simp[fsOf,hp]
  rw[e] at hlast;refine Yg (Ya (ld hX2.st rfl) (Ya (Xag ..) (Qcv hX2 (by omega) (x:=.block a p.2) (.block hpa hpb hB1 hB2) (λv1 τ7 hX3 b3=>?_))));have hB13:=b3.2 pa _ (by omega) hB1;have hB23:=b3.2 pb _ (by omega) hB2;refine Ya rfl (Ya (v:=iv p.2) (ld hB23 rfl) (Ya (ld hB13 rfl) (Ya (hlook a hX3.pw.k3) (w101 hX3 (by simp; omega) p.2 (powN b s a) (λv2 τ8 hX4 b4=>?_)))));have hB14:=b4.2 pa _ (by omega) hB13;have hB24:=b4.2 pb _ (by omega) hB23;refine Ya (ld hB14 rfl) (Ya rfl (Ya (v:=iv p.2) (ld hB24 rfl) (Ya (hlook p.2 hX4.pw.k3) (w101 hX4 (by simp; omega) a (powN b s p.2) (λv3 τ9 hX5 _=>?_)))));rw[hk61];refine Ya (Zn ..) ?_;rw[Xg (n:=i) (by omega)];exact hlast v3 τ9 (by simpa using hX5)
end Go.Ah.Tz
end
section
namespace Go.Ah.Tz
open Go.Proofs.Tryz (prog)
structure RY (b:Bk) (s:St) (l:List Ev) (v:AVal) (τ:List ABlk):Prop where
 ln:15≤τ.length
 k0:hget τ 0=.box (bkC b)
 k1:hget τ 1=.box (stC s)
 k2:hget τ 2=.box zStC
 row:EvR 1 τ l v
theorem Yan{a:Int}{p:Int×Int}:∀ {l:List (Int×Int)},XB l a=some p→p∈l∧p.1=a
 |[],h=>by cases h
 |q::l,h=>by
  unfold XB at h;split at h
  ·cases h; rename_i h2; exact⟨List.mem_cons_self,h2⟩
  ·exact⟨List.mem_cons_of_mem _ (Yan h).1,(Yan h).2⟩
theorem ZbA{b:Bk}{s:St}(hM:MayP b s){id:Int}(h:(unitR s id).2.2=true):1≤id:=by
 obtain⟨k,u,_,h2,rfl,h4⟩:=Xch h;have hm:=List.mem_of_getElem? h2;have:=hM.un.1 u (by
  rcases h4 with h4|h4<;>rw[h4] at hm
  ·exact List.mem_append_left _ hm
  ·exact List.mem_append_right _ hm)
 simp only[XJ,Bool.and_eq_true,decide_eq_true_eq] at this;exact this.2.2.2.2.2.1
theorem Ycn{b:Bk}{s:St}(hM:MayP b s){l:List (Int×Int)}(h:ZK s l=true){a:Int}{p:Int×Int}(hp:XB l a=some p):1≤p.2:=by
 have hm:=(Yan hp).1;simp only[ZK,Bool.and_eq_true] at h;have:=List.all_eq_true.1 h.1 p hm;simp only[Yai,Bool.and_eq_true] at this;exact ZbA hM this.1.1
end Go.Ah.Tz
end
section
namespace Go.Ah.Tz
open Go.Proofs.Tryz (prog)
theorem Za4{b:Bk}{s:St}{l:List (Int×Int)}(h:(fightR b s l).2.2=0):(bkR b).1=0∧MayP b s∧(s.mover=0∨s.mover=1)∧mayR (bkR b).1 b s false=true∧s.phase=1∧ZK s l=true∧(fsGo b s.mover (fsAll b s l s.attack) s []).2.2=0 ∧
  fightR b s l=({ (fsGo b s.mover (fsAll b s l s.attack) s []).1 with attack:=[],phase:=0 },(fsGo b s.mover (fsAll b s l s.attack) s []).2.1,0):=by
 unfold fightR at h ⊢;by_cases h1:mayR (bkR b).1 b s false=true;rotate_left
 ·rw[if_neg h1] at h; cases h
 rw[if_pos h1] at h ⊢;by_cases h2:(decide (s.phase≠1) || !ZK s l)=true
 ·rw[if_pos h2] at h; cases h
 rw[if_neg h2] at h ⊢;obtain⟨he,hM⟩:=Ybm.1 (Qbw h1);have hmv:s.mover=0∨s.mover=1:=by have:=hM.hd; unfold HdP at this; omega
 have h2':s.phase=1∧ZK s l=true:=by simpa using h2
 unfold Q5 at h ⊢;by_cases h3:(fsGo b s.mover (fsAll b s l s.attack) s []).2.2=0
 ·rw[if_pos h3]; exact⟨he,hM,hmv,h1,h2'.1,h2'.2,h3,rfl⟩
 ·rw[if_neg h3] at h; exact absurd h h3
attribute [local irreducible] Ans.rd Ans.pu Ans.wr Ans.dr Ans.gr Ans.gw Ans.gl Ans.gd Ans.opt joinK W
set_option maxHeartbeats 8000000
theorem Zak{side:Int}(hs:side=0∨side=1)(k:Nat):(∀σ,Xe 2 8 [.bptr k (0+7),iv side] σ=.ok (.bptr k (uof side)) [] [])∧∀s,partA false (uof side+0) 1 (stC s)=some (iv (ZG s side).life):=by
 rcases hs with rfl|rfl<;>exact⟨λ_=>rfl,λ_=>rfl⟩
end Go.Ah.Tz
end
section
namespace Go.Ah.Tz
open Go.Proofs.Tryz (prog)
structure Fk (mv:Int) (t t':St):Prop where
 u0:t'.s0.units.length=t.s0.units.length
 u1:t'.s1.units.length=t.s1.units.length
 m0:t'.s0.mana=t.s0.mana
 m1:t'.s1.mana=t.s1.mana
 lf:(ZG t' mv).life=(ZG t mv).life
theorem Fk.rfl'(mv:Int)(t:St):Fk mv t t:=⟨rfl,rfl,rfl,rfl,rfl⟩
theorem Fk.trans{mv:Int}{a b c:St}(h:Fk mv a b)(k:Fk mv b c):Fk mv a c:=⟨k.u0.trans h.u0,k.u1.trans h.u1,k.m0.trans h.m0,k.m1.trans h.m1,k.lf.trans h.lf⟩
def SameL(t t':St):Prop:=t'.s0.life=t.s0.life∧t'.s1.life=t.s1.life
def SameU(t t':St):Prop:=t'.s0.units=t.s0.units∧t'.s1.units=t.s1.units
theorem Zcy{mv:Int}(hmv:mv=0∨mv=1){s:St}{kd:Int}{v:Int×Int}(h:(chgP s kd (1-mv) v).2.2=0):Fk mv s (chgP s kd (1-mv) v).1∧SameU s (chgP s kd (1-mv) v).1:=by
 unfold chgP at *;by_cases c:wIn v.1=true
 ·rw[if_pos c];rcases hmv with rfl|rfl<;>exact⟨⟨rfl,rfl,rfl,rfl,rfl⟩,rfl,rfl⟩
 ·rw[if_neg c] at h; cases h
theorem YbT{mv:Int}(hmv:mv=0∨mv=1){s:St}{kd k:Int}(hk:k=0∨k=1){i:Nat}{id:Int}{u:Th}{v:Int×Int}(h:(chgU s kd k i id u v).2.2=0):Fk mv s (chgU s kd k i id u v).1∧SameL s (chgU s kd k i id u v).1:=by
 unfold chgU at *;by_cases c:wIn v.1=true
 ·rw[if_pos c];rcases hmv with rfl|rfl<;>rcases hk with rfl|rfl<;>exact⟨⟨by simp[St.put,St.side],by simp[St.put,St.side],rfl,rfl,rfl⟩,rfl,rfl⟩
 ·rw[if_neg c] at h; cases h
theorem Qcx{mv:Int}(hmv:mv=0∨mv=1){s:St}{kd id:Int}{fP:Int→Int×Int}{fU:Th→Int×Int}(h:(chgF kd fP fU s id (1-mv)).2.2=0):Fk mv s (chgF kd fP fU s id (1-mv)).1∧(id=0→SameU s (chgF kd fP fU s id (1-mv)).1)∧(id≠0→SameL s (chgF kd fP fU s id (1-mv)).1):=by
 unfold chgF at *;by_cases c:id=0
 ·rw[if_pos c] at *;have:=Zcy hmv h;exact⟨this.1,λ_=>this.2,λq=>absurd c q⟩
 rw[if_neg c] at *;by_cases c2:id<0
 ·rw[if_pos c2] at h; cases h
 rw[if_neg c2] at *;cases q0:fnd s.s0.units id with
 |some i=>
  rw[q0] at h;have:=YbT hmv (.inl rfl) h;exact⟨this.1,λq=>absurd q c,λ_=>this.2⟩
 |none=>
  rw[q0] at h;cases q1:fnd s.s1.units id with
  |some i=>
   rw[q1] at h;have:=YbT hmv (.inr rfl) h;exact⟨this.1,λq=>absurd q c,λ_=>this.2⟩
  |none=>rw[q1] at h; cases h
def FS.who:FS→Option Int
 |.harm id _=>some id
 |.block _ _=>none
theorem Xbl{b:Bk}{mv:Int}(hmv:mv=0∨mv=1):∀(S:List FS) (t:St) (l:List Ev),(fsGo b mv S t l).2.2=0→Fk mv t (fsGo b mv S t l).1∧((∀x∈S,x.who≠some 0)→SameL t (fsGo b mv S t l).1)∧((∀x∈S,∀id,x.who=some id→id=0)→SameU t (fsGo b mv S t l).1)
 |[],t,l,_=>⟨Fk.rfl' _ _,λ_=>⟨rfl,rfl⟩,λ_=>⟨rfl,rfl⟩⟩
 |.block a d::S,t,l,h=>by
  have:=Xbl hmv S t _ h;exact⟨this.1,λq=>this.2.1 (λx hx=>q x (List.mem_cons_of_mem _ hx)),λq=>this.2.2 (λx hx=>q x (List.mem_cons_of_mem _ hx))⟩
 |.harm id n::S,t,l,h=>by
  unfold fsGo at h ⊢;by_cases c:(harmF b t id (1-mv) n).2.2=0
  ·rw[if_pos c] at h ⊢;have h1:=Qcx hmv c;have h2:=Xbl hmv S _ _ h;refine⟨Fk.trans h1.1 h2.1,λq=>?_,λq=>?_⟩
   ·have k1:=h1.2.2 (λe=>q _ List.mem_cons_self (by rw[e]; rfl));have k2:=h2.2.1 (λx hx=>q x (List.mem_cons_of_mem _ hx));exact⟨k2.1.trans k1.1,k2.2.trans k1.2⟩
   ·have k1:=h1.2.1 (q _ List.mem_cons_self id rfl);have k2:=h2.2.2 (λx hx=>q x (List.mem_cons_of_mem _ hx));exact⟨k2.1.trans k1.1,k2.2.trans k1.2⟩
  ·rw[if_neg c] at h; exact absurd h c
theorem XaC{b:Bk}{s:St}{l:List (Int×Int)}{x:FS}:∀ {at_:List Int},x∈fsAll b s l at_→∃a∈at_,x∈fsOf b s l a
 |[],h=>by cases h
 |a::r,h=>by
  rcases List.mem_append.1 h with h|h
  ·exact⟨a,List.mem_cons_self,h⟩
  ·obtain⟨a',h1,h2⟩:=XaC h;exact⟨a',List.mem_cons_of_mem _ h1,h2⟩
theorem QaF{a:Int}:∀ {l:List (Int×Int)},a∈l.map (·.1)→∃p,XB l a=some p
 |[],h=>by simp at h
 |p::l,h=>by
  unfold XB;by_cases c:p.1=a
  ·exact⟨p,if_pos c⟩
  ·rw[if_neg c];refine QaF ?_;simp only[List.map_cons,List.mem_cons] at h;rcases h with h|h
   ·exact absurd h.symm c
   ·exact h
theorem Qbk{b:Bk}{s:St}{l:List (Int×Int)}(h:(fightR b s l).2.2=0):Fk s.mover s (fightR b s l).1∧(fightR b s l).1.attack=[]∧(fightR b s l).1.phase=0∧(l.length=s.attack.length→SameL s (fightR b s l).1)∧(l=[]→SameU s (fightR b s l).1):=by
 obtain⟨he,hM,hmv,h1,h2,h3,h4,h5⟩:=Za4 h;rw[h5];obtain⟨k1,k2,k3⟩:=Xbl hmv _ _ _ h4;refine⟨⟨k1.u0,k1.u1,k1.m0,k1.m1,?_⟩,rfl,rfl,λhl=>?_,λhl=>?_⟩
 ·have:=k1.lf;unfold ZG at this ⊢;split<;>rename_i c
  ·rw[if_pos c] at this; rw[if_pos c] at this; exact this
  ·rw[if_neg c] at this; rw[if_neg c] at this; exact this
 ·refine k2 (λx hx=>?_);obtain⟨a,ha,hx⟩:=XaC hx;have hat:=(hM.at_.2 h2).2.2;have ha1:=ZbA hM (hat.2 a ha).1;simp only[ZK,Bool.and_eq_true,decide_eq_true_eq] at h3;have hin:a∈l.map (·.1):=by
   apply Classical.byContradiction;intro hc;have:=Ya9 (l:=a :: l.map (·.1)) (m:=s.attack) (List.nodup_cons.2 ⟨hc,h3.2.1⟩) (λy hy=>by
    rcases List.mem_cons.1 hy with rfl|hy
    ·exact ha
    ·obtain⟨p,hp,rfl⟩:=List.mem_map.1 hy;have:=List.all_eq_true.1 h3.1 p hp;simp only[Yai,Bool.and_eq_true,List.any_eq_true,decide_eq_true_eq] at this;obtain⟨w,hw,e⟩:=this.2;exact e ▸ hw)
   simp at this; omega
  obtain⟨p,hp⟩:=QaF hin;have hp2:=Ycn hM (by simp only[ZK,Bool.and_eq_true,decide_eq_true_eq]; exact h3) hp;rw[fsOf,hp] at hx;simp only[List.mem_cons,List.not_mem_nil,or_false] at hx;rcases hx with rfl|rfl|rfl
  ·simp[FS.who]
  ·simp[FS.who]; omega
  ·simp[FS.who]; omega
 ·subst hl;refine k3 (λx hx id hw=>?_);obtain⟨a,ha,hx⟩:=XaC hx;have hx:x=.harm 0 (powN b s a):=by simpa[fsOf,XB] using hx
  subst hx;simpa[FS.who] using hw.symm
theorem eqThC(u:Th)(σ:List ABlk):Qb8 true [false,false,false,true] [.agg (thC u),.agg (thC u)] σ=.ok (.bool false) [] []:=by
 have h:XE [false,false,false,true] (thC u) (thC u)=some true:=by simp[XE,XaM,thC,ikEq]
 simp only[Qb8,h,cond_true,Bool.not_true]
theorem ZcF{P:Program}{GL:Globs}{c d:Bool}{K:AVal→Prop}{r1:SRes}{r2:AVal→SRes}{r3:AVal→AVal→SRes}{r4:AVal→AVal→AVal→SRes}{r5:AVal→AVal→AVal→AVal→SRes}{r6:AVal→AVal→AVal→AVal→AVal→SRes}{r7:AVal→AVal→AVal→AVal→AVal→AVal→SRes}{r8:AVal→AVal→AVal→AVal→AVal→AVal→AVal→SRes}{r9:AVal→AVal→AVal→AVal→AVal→AVal→AVal→AVal→SRes}{r10:AVal→AVal→AVal→AVal→AVal→AVal→AVal→AVal→AVal→SRes}{r11:AVal→AVal→AVal→AVal→AVal→AVal→AVal→AVal→AVal→AVal→SRes}{r12:AVal→AVal→AVal→AVal→AVal→AVal→AVal→AVal→AVal→AVal→AVal→SRes}{r13:AVal→AVal→AVal→AVal→AVal→AVal→AVal→AVal→AVal→AVal→AVal→AVal→SRes}{r14:AVal→AVal→AVal→AVal→AVal→AVal→AVal→AVal→AVal→AVal→AVal→AVal→AVal→SRes}{r15:AVal→AVal→AVal→AVal→AVal→AVal→AVal→AVal→AVal→AVal→AVal→AVal→AVal→AVal→SRes}{σ:List ABlk}{v1 v2 v3 v4 v5 v6 v7 v8 v9 v10 v11 v12 v13 v14:AVal}{q1 q2 q3 q4 q5 q6 q7 q8 q9 q10 q11 q12 q13 q14 q15:List Nat}(h1:c=true→r1=.ok v1 q1 [])(h2:c=true→r2 v1=.ok v2 q2 [])(h3:c=true→r3 v1 v2=.ok v3 q3 [])(h4:c=true→r4 v1 v2 v3=.ok v4 q4 [])(h5:c=true→r5 v1 v2 v3 v4=.ok v5 q5 [])(h6:c=true→r6 v1 v2 v3 v4 v5=.ok v6 q6 [])(h7:c=true→r7 v1 v2 v3 v4 v5 v6=.ok v7 q7 [])(h8:c=true→r8 v1 v2 v3 v4 v5 v6 v7=.ok v8 q8 [])(h9:c=true→r9 v1 v2 v3 v4 v5 v6 v7 v8=.ok v9 q9 [])(h10:c=true→r10 v1 v2 v3 v4 v5 v6 v7 v8 v9=.ok v10 q10 [])(h11:c=true→r11 v1 v2 v3 v4 v5 v6 v7 v8 v9 v10=.ok v11 q11 [])(h12:c=true→r12 v1 v2 v3 v4 v5 v6 v7 v8 v9 v10 v11=.ok v12 q12 [])(h13:c=true→r13 v1 v2 v3 v4 v5 v6 v7 v8 v9 v10 v11 v12=.ok v13 q13 [])(h14:c=true→r14 v1 v2 v3 v4 v5 v6 v7 v8 v9 v10 v11 v12 v13=.ok v14 q14 [])(h15:c=true→r15 v1 v2 v3 v4 v5 v6 v7 v8 v9 v10 v11 v12 v13 v14=.ok (.bool d) q15 [])(hK:K (.bool (c&&d))) :
  (W P GL).gr (.bool c) true (λk=>(W P GL).rd r1 k) λt1=>(W P GL).gr (.bool c) true (λk=>(W P GL).rd (r2 t1) k) λt2=>(W P GL).gr (.bool c) true (λk=>(W P GL).rd (r3 t1 t2) k) λt3=>(W P GL).gr (.bool c) true (λk=>(W P GL).rd (r4 t1 t2 t3) k) λt4=>(W P GL).gr (.bool c) true (λk=>(W P GL).rd (r5 t1 t2 t3 t4) k) λt5=>(W P GL).gr (.bool c) true (λk=>(W P GL).rd (r6 t1 t2 t3 t4 t5) k) λt6=>(W P GL).gr (.bool c) true (λk=>(W P GL).rd (r7 t1 t2 t3 t4 t5 t6) k) λt7=>(W P GL).gr (.bool c) true (λk=>(W P GL).rd (r8 t1 t2 t3 t4 t5 t6 t7) k) λt8=>(W P GL).gr (.bool c) true (λk=>(W P GL).rd (r9 t1 t2 t3 t4 t5 t6 t7 t8) k) λt9=>(W P GL).gr (.bool c) true (λk=>(W P GL).rd (r10 t1 t2 t3 t4 t5 t6 t7 t8 t9) k) λt10=>(W P GL).gr (.bool c) true (λk=>(W P GL).rd (r11 t1 t2 t3 t4 t5 t6 t7 t8 t9 t10) k) λt11=>(W P GL).gr (.bool c) true (λk=>(W P GL).rd (r12 t1 t2 t3 t4 t5 t6 t7 t8 t9 t10 t11) k) λt12=>(W P GL).gr (.bool c) true (λk=>(W P GL).rd (r13 t1 t2 t3 t4 t5 t6 t7 t8 t9 t10 t11 t12) k) λt13=>(W P GL).gr (.bool c) true (λk=>(W P GL).rd (r14 t1 t2 t3 t4 t5 t6 t7 t8 t9 t10 t11 t12 t13) k) λt14=>(W P GL).gr (.bool c) true (λk=>(W P GL).rd (r15 t1 t2 t3 t4 t5 t6 t7 t8 t9 t10 t11 t12 t13 t14) k) λt15=>(W P GL).rd (Ym [.bool c,t15,.bool false] σ) K:=by
 cases c with
 |true=>exact Yb (Ya (h1 rfl) (Yb (Ya (h2 rfl) (Yb (Ya (h3 rfl) (Yb (Ya (h4 rfl) (Yb (Ya (h5 rfl) (Yb (Ya (h6 rfl) (Yb (Ya (h7 rfl) (Yb (Ya (h8 rfl) (Yb (Ya (h9 rfl) (Yb (Ya (h10 rfl) (Yb (Ya (h11 rfl) (Yb (Ya (h12 rfl) (Yb (Ya (h13 rfl) (Yb (Ya (h14 rfl) (Yb (Ya (h15 rfl) (Ya rfl hK))))))))))))))))))))))))))))))
 |false=>exact Xb rfl (Xb rfl (Xb rfl (Xb rfl (Xb rfl (Xb rfl (Xb rfl (Xb rfl (Xb rfl (Xb rfl (Xb rfl (Xb rfl (Xb rfl (Xb rfl (Xb rfl (Ya rfl hK)))))))))))))))
attribute [local irreducible] Ans.rd Ans.pu Ans.wr Ans.dr Ans.gr Ans.gw Ans.gl Ans.gd Ans.opt joinK W
set_option maxHeartbeats 8000000
theorem c13(h89:SortC prog 89)(hn:SortN prog 89)(h44:PC 44 [] (.bool true))(b:Bk)(hf:bkFit b=true)(hsm:Zs b.cards)(s:St)(hs2:StLe 2000000 s)(l:List (Int×Int))(hl:l.length≤1000000000):PC 13 [bkV b,stV s,prV l] (.bool true):=by
 have hs:StLe 1000000000 s:=hs2.mono (by decide);obtain⟨q,h43⟩:=c43 b hf s (x:=.nils) (y:=prV l) (n:=0) (m:=l.length) (λσ=>rfl) (λσ=>by rw[Yf,List.length_map]);have h48:=c48 h89 hn b hf hsm s hs l hl;have hfk:=Qbk (b:=b) (s:=s) (l:=l);have hok:=Za4 (b:=b) (s:=s) (l:=l);generalize fightR b s l=r at h48 hfk hok;have w1:IntKind.i64.wrap (0+1)=1:=by decide
 have w2:IntKind.i64.wrap (1+1)=2:=by decide
 refine Ze hP g13_ok rfl rfl ?_;unfold g13;refine Qd (v:=.bptr 0 0) (rd:=[]) (up:=[(0,.box (bkC b))]) rfl rfl ?_;refine Qd (v:=.bptr 1 0) (rd:=[]) (up:=[(1,.box (stC s))]) rfl rfl ?_;refine Ya rfl (Ya rfl (Qe h43 rfl g43_ok.plain rfl ?_));refine Yc (λ_=>Qe h44 rfl g44_ok.plain rfl rfl) (λ_=>?_);refine Ya rfl (Ya rfl (Qe h48 rfl g48_ok.plain rfl (Ya rfl (Ya rfl (Ya rfl ?_)))));refine Qz (row:=stC r.1) (row':=stC r.1) rfl rfl rfl (Ya (YI ..) (Yc (λ_=>Qe h44 rfl g44_ok.plain rfl rfl) (λhz=>?_)));have hz:r.2.2=0:=by simpa using hz
 obtain⟨k1,k2,k3,k4,k5⟩:=hfk hz;have hmv:=(hok hz).2.2.1;clear hfk hok h48 hz;refine XH 3 (Yl ?_);refine Ya rfl (Yh (Ya rfl (Ya rfl (Ya rfl (Ya (v:=thV r.1.s0.units) (rd:=[2]) rfl (Ya (v:=iv r.1.s0.units.length) (rd:=[]) (by simp[Yf]) (Ya rfl (Ya rfl (Ya rfl (Ya (v:=thV s.s0.units) (rd:=[1]) rfl (Ya (v:=iv s.s0.units.length) (rd:=[]) (by simp[Yf]) (Ya (YI ..) ?_))))))))))));rw[decide_eq_false (by rw[k1.u0]; simp)];refine Xce (v5:=iv r.1.s0.mana) (v10:=iv s.s0.mana) (λ_=>rfl) (λ_=>rfl) (λ_=>rfl) (λ_=>rfl) (λ_=>rfl) (λ_=>rfl) (λ_=>rfl) (λ_=>rfl) (λ_=>rfl) (λ_=>rfl) (λ_=>YI ..) ?_;rw[decide_eq_false (by rw[k1.m0]; simp)];refine Yg (Ya rfl ?_);rw[w1];refine Yl ?_;refine Ya rfl (Yh (Ya rfl (Ya rfl (Ya rfl (Ya (v:=thV r.1.s1.units) (rd:=[2]) rfl (Ya (v:=iv r.1.s1.units.length) (rd:=[]) (by simp[Yf]) (Ya rfl (Ya rfl (Ya rfl (Ya (v:=thV s.s1.units) (rd:=[1]) rfl (Ya (v:=iv s.s1.units.length) (rd:=[]) (by simp[Yf]) (Ya (YI ..) ?_))))))))))));rw[decide_eq_false (by rw[k1.u1]; simp)];refine Xce (v5:=iv r.1.s1.mana) (v10:=iv s.s1.mana) (λ_=>rfl) (λ_=>rfl) (λ_=>rfl) (λ_=>rfl) (λ_=>rfl) (λ_=>rfl) (λ_=>rfl) (λ_=>rfl) (λ_=>rfl) (λ_=>rfl) (λ_=>YI ..) ?_;rw[decide_eq_false (by rw[k1.m1]; simp)];refine Yg (Ya rfl ?_);rw[w2];refine Yl ?_;refine Ya rfl (Yg ?_);have hlf:=k1.lf;have hmA:∀k σ,Xe 2 8 [.bptr k (0+7),iv s.mover] σ=.ok (.bptr k (uof s.mover)) [] []:=λk=>(Zak hmv k).1;have hmL:∀x:St,partA false (uof s.mover+0) 1 (stC x)=some (iv (ZG x s.mover).life):=(Zak hmv 0).2;have hfo:1-s.mover=0∨1-s.mover=1:=by omega
 have hfA:∀k σ,Xe 2 8 [.bptr k (0+7),iv (1-s.mover)] σ=.ok (.bptr k (uof (1-s.mover))) [] []:=λk=>(Zak hfo k).1;have hfL:∀x:St,partA false (uof (1-s.mover)+0) 1 (stC x)=some (iv (ZG x (1-s.mover)).life):=(Zak hfo 0).2;refine Ya rfl (Ya (v:=iv s.mover) (rd:=[1]) rfl (Ya rfl (Ya (hmA 2 _) (Ya rfl (Ya (ld (row:=stC r.1) rfl (hmL r.1)) ?_)))));refine Ya rfl (Ya (v:=iv s.mover) (rd:=[1]) rfl (Ya rfl (Ya (hmA 1 _) (Ya rfl (Ya (ld (row:=stC s) rfl (hmL s)) (Ya (YI ..) ?_))))));rw[decide_eq_false (by rw[hlf]; simp)];refine Zcv (v2:=rowV r.1.attack) (v3:=iv 0) (λ_=>rfl) (λ_=>rfl) (λ_=>by rw[Yf,List.length_map,k2]; rfl) (λ_=>YI ..) ?_;refine Xas (v2:=iv8 0) (λ_=>rfl) (λ_=>by rw[←k3]; rfl) (λ_=>YI ..) ?_;refine Yg (Ya (v:=iv l.length) (rd:=[]) (by simp[Yf]) (Ya rfl (Ya (v:=rowV s.attack) (rd:=[1]) rfl (Ya (v:=iv s.attack.length) (rd:=[]) (by simp[Yf]) (Ya (Zh ..) ?_)))));have wm:IntKind.i64.wrap (1-s.mover)=1-s.mover:=wrapI (by omega) (by omega);refine ZcF (v2:=iv s.mover) (v3:=iv (1-s.mover)) (v7:=iv (ZG r.1 (1-s.mover)).life) (v9:=iv s.mover) (v10:=iv (1-s.mover)) (v14:=iv (ZG s (1-s.mover)).life) (λ_=>rfl) (λ_=>rfl) (λ_=>by rw[←wm]; exact Qbj ..) (λ_=>rfl) (λ_=>hfA 2 _) (λ_=>rfl) (λ_=>ld (row:=stC r.1) rfl (hfL r.1)) (λ_=>rfl) (λ_=>rfl) (λ_=>by rw[←wm]; exact Qbj ..) (λ_=>rfl) (λ_=>hfA 1 _) (λ_=>rfl) (λ_=>ld (row:=stC s) rfl (hfL s)) (λ_=>YI ..) ?_;have hlast:(decide ((l.length:Int)=s.attack.length)&&decide ((ZG r.1 (1-s.mover)).life≠(ZG s (1-s.mover)).life))=false:=by
  by_cases c:l.length=s.attack.length
  ·have:=k4 c;rcases hfo with e|e<;>rw[e]<;>simp[ZG,this.1,this.2]
  ·have:¬(l.length:Int)=s.attack.length:=by omega
   simp[this]
 rw[hlast];refine Yg (Ya (v:=iv l.length) (rd:=[]) (by simp[Yf]) (Ya (YY ..) (Yc (λ_=>Qe h44 rfl g44_ok.plain rfl rfl) (λh=>?_))));have hl0:l=[]:=by
  have:¬(l.length:Int)>0:=by simpa using h
  exact List.length_eq_zero_iff.1 (by omega)
 have k5:=k5 hl0;refine XH 3 (Yl ?_);refine Ya rfl (Yh ?_);refine Xo (ι:=Nat) (λi vs τ=>vs=[iv i]∧i≤s.s0.units.length∧hget τ 1=.box (stC s)∧hget τ 2=.box (stC r.1)) (λi=>s.s0.units.length-i) 0 ⟨rfl,by omega,rfl,rfl⟩ ?_
 skip
 rintro i vs τ0 again ⟨rfl,hi,y1,y2⟩ hag;refine Ya rfl (Ya rfl (Ya rfl (Ya (v:=thV s.s0.units) (rd:=[2]) (ld y2 (by rw[←k5.1]; rfl)) (Ya (v:=iv s.s0.units.length) (rd:=[]) (by simp[Yf]) (Ya (Yy ..) (Yc (λh=>?_) (λh=>?_)))))))
 ·have h:i<s.s0.units.length:=by simpa using h
  have hix:=λ(t:List ABlk)=>Xv t thC false false 4 s.s0.units .i64 i h;refine Ya rfl (Ya rfl (Ya rfl (Ya (v:=thV s.s0.units) (rd:=[2]) (ld y2 (by rw[←k5.1]; rfl)) (Ya (hix _) (Ya (v:=.agg (thC s.s0.units[i])) (rd:=[]) (ldr rfl) ?_)))));refine Ya rfl (Ya rfl (Ya rfl (Ya (v:=thV s.s0.units) (rd:=[1]) (ld y1 rfl) (Ya (hix _) (Ya (v:=.agg (thC s.s0.units[i])) (rd:=[]) (ldr rfl) (Ya (eqThC ..) (Yg (Ya (Zn ..) ?_))))))));rw[Xg (n:=i) (by have:=hs.s0.units; omega)];exact hag (i+1) _ _ (by omega) ⟨rfl,by omega,y1,y2⟩
 clear hag again;refine Ya rfl ?_;rw[w1];refine Yl ?_;refine Ya rfl (Yh ?_);refine Xo (ι:=Nat) (λi vs τ=>vs=[iv i]∧i≤s.s1.units.length∧hget τ 1=.box (stC s)∧hget τ 2=.box (stC r.1)) (λi=>s.s1.units.length-i) 0 ⟨rfl,by omega,y1,y2⟩ ?_;clear y1 y2;rintro i vs τ1 again ⟨rfl,hi,y1,y2⟩ hag;refine Ya rfl (Ya rfl (Ya rfl (Ya (v:=thV s.s1.units) (rd:=[2]) (ld y2 (by rw[←k5.2]; rfl)) (Ya (v:=iv s.s1.units.length) (rd:=[]) (by simp[Yf]) (Ya (Yy ..) (Yc (λh=>?_) (λh=>?_)))))))
 ·have h:i<s.s1.units.length:=by simpa using h
  have hix:=λ(t:List ABlk)=>Xv t thC false false 4 s.s1.units .i64 i h;refine Ya rfl (Ya rfl (Ya rfl (Ya (v:=thV s.s1.units) (rd:=[2]) (ld y2 (by rw[←k5.2]; rfl)) (Ya (hix _) (Ya (v:=.agg (thC s.s1.units[i])) (rd:=[]) (ldr rfl) ?_)))));refine Ya rfl (Ya rfl (Ya rfl (Ya (v:=thV s.s1.units) (rd:=[1]) (ld y1 rfl) (Ya (hix _) (Ya (v:=.agg (thC s.s1.units[i])) (rd:=[]) (ldr rfl) (Ya (eqThC ..) (Yg (Ya (Zn ..) ?_))))))));rw[Xg (n:=i) (by have:=hs.s1.units; omega)];exact hag (i+1) _ _ (by omega) ⟨rfl,by omega,y1,y2⟩
 clear hag again;refine Ya rfl ?_;rw[w2];refine Yl ?_;exact Ya rfl (Yg (Qe h44 rfl g44_ok.plain rfl rfl))
end Go.Ah.Tz
end
section
namespace Go.Ah.Tz
open Go.Proofs.Tryz (prog)
set_option maxRecDepth 100000
def tb44:GT:=(.node 171 4 g171 (.node 105 4 g105 (.node 66 4 g66 (.node 55 2 g55 (.node 48 3 g48 (.node 44 0 g44 (.node 22 5 g22 .leaf .leaf) (.node 45 3 g45 .leaf .leaf)) (.node 54 3 g54 (.node 50 3 g50 .leaf .leaf) .leaf)) (.node 59 1 g59 (.node 57 1 g57 (.node 56 2 g56 .leaf .leaf) .leaf) (.node 65 1 g65 (.node 64 7 g64 .leaf .leaf) .leaf))) (.node 96 1 g96 (.node 93 0 g93 (.node 75 3 g75 (.node 71 2 g71 .leaf .leaf) (.node 89 1 g89 .leaf .leaf)) (.node 95 1 g95 (.node 94 0 g94 .leaf .leaf) .leaf)) (.node 102 6 g102 (.node 101 7 g101 (.node 100 2 g100 .leaf .leaf) .leaf) (.node 104 2 g104 (.node 103 2 g103 .leaf .leaf) .leaf)))) (.node 143 1 g143 (.node 128 4 g128 (.node 119 2 g119 (.node 112 1 g112 (.node 111 3 g111 .leaf .leaf) (.node 118 2 g118 .leaf .leaf)) (.node 124 1 g124 (.node 120 2 g120 .leaf .leaf) .leaf)) (.node 137 1 g137 (.node 136 0 g136 (.node 129 1 g129 .leaf .leaf) .leaf) (.node 139 2 g139 (.node 138 2 g138 .leaf .leaf) .leaf))) (.node 165 3 g165 (.node 157 3 g157 (.node 155 2 g155 (.node 144 4 g144 .leaf .leaf) (.node 156 2 g156 .leaf .leaf)) (.node 164 3 g164 (.node 163 3 g163 .leaf .leaf) .leaf)) (.node 168 3 g168 (.node 167 3 g167 (.node 166 3 g166 .leaf .leaf) .leaf) (.node 170 4 g170 (.node 169 2 g169 .leaf .leaf) .leaf))))) (.node 223 1 g223 (.node 209 1 g209 (.node 182 1 g182 (.node 179 1 g179 (.node 173 1 g173 (.node 172 1 g172 .leaf .leaf) (.node 176 2 g176 .leaf .leaf)) (.node 181 1 g181 (.node 180 1 g180 .leaf .leaf) .leaf)) (.node 185 2 g185 (.node 184 1 g184 (.node 183 1 g183 .leaf .leaf) .leaf) (.node 208 2 g208 (.node 186 2 g186 .leaf .leaf) .leaf))) (.node 217 1 g217 (.node 213 2 g213 (.node 211 2 g211 (.node 210 1 g210 .leaf .leaf) (.node 212 1 g212 .leaf .leaf)) (.node 216 1 g216 (.node 215 4 g215 .leaf .leaf) .leaf)) (.node 220 1 g220 (.node 219 5 g219 (.node 218 3 g218 .leaf .leaf) .leaf) (.node 222 2 g222 (.node 221 2 g221 .leaf .leaf) .leaf)))) (.node 250 2 g250 (.node 239 2 g239 (.node 236 2 g236 (.node 234 4 g234 (.node 224 2 g224 .leaf .leaf) (.node 235 2 g235 .leaf .leaf)) (.node 238 2 g238 (.node 237 2 g237 .leaf .leaf) .leaf)) (.node 242 1 g242 (.node 241 1 g241 (.node 240 3 g240 .leaf .leaf) .leaf) (.node 244 2 g244 (.node 243 2 g243 .leaf .leaf) .leaf))) (.node 256 1 g256 (.node 253 2 g253 (.node 252 1 g252 (.node 251 1 g251 .leaf .leaf) .leaf) (.node 255 2 g255 (.node 254 1 g254 .leaf .leaf) .leaf)) (.node 259 2 g259 (.node 258 0 g258 (.node 257 1 g257 .leaf .leaf) .leaf) (.node 264 1 g264 (.node 263 0 g263 .leaf .leaf) .leaf))))))
theorem QcG:tb44.Ok prog GL0:=⟨g171_ok,⟨g105_ok,⟨g66_ok,⟨g55_ok,⟨g48_ok,⟨g44_ok,⟨g22_ok,trivial,trivial⟩,⟨g45_ok,trivial,trivial⟩⟩,⟨g54_ok,⟨g50_ok,trivial,trivial⟩,trivial⟩⟩,⟨g59_ok,⟨g57_ok,⟨g56_ok,trivial,trivial⟩,trivial⟩,⟨g65_ok,⟨g64_ok,trivial,trivial⟩,trivial⟩⟩⟩,⟨g96_ok,⟨g93_ok,⟨g75_ok,⟨g71_ok,trivial,trivial⟩,⟨g89_ok,trivial,trivial⟩⟩,⟨g95_ok,⟨g94_ok,trivial,trivial⟩,trivial⟩⟩,⟨g102_ok,⟨g101_ok,⟨g100_ok,trivial,trivial⟩,trivial⟩,⟨g104_ok,⟨g103_ok,trivial,trivial⟩,trivial⟩⟩⟩⟩,⟨g143_ok,⟨g128_ok,⟨g119_ok,⟨g112_ok,⟨g111_ok,trivial,trivial⟩,⟨g118_ok,trivial,trivial⟩⟩,⟨g124_ok,⟨g120_ok,trivial,trivial⟩,trivial⟩⟩,⟨g137_ok,⟨g136_ok,⟨g129_ok,trivial,trivial⟩,trivial⟩,⟨g139_ok,⟨g138_ok,trivial,trivial⟩,trivial⟩⟩⟩,⟨g165_ok,⟨g157_ok,⟨g155_ok,⟨g144_ok,trivial,trivial⟩,⟨g156_ok,trivial,trivial⟩⟩,⟨g164_ok,⟨g163_ok,trivial,trivial⟩,trivial⟩⟩,⟨g168_ok,⟨g167_ok,⟨g166_ok,trivial,trivial⟩,trivial⟩,⟨g170_ok,⟨g169_ok,trivial,trivial⟩,trivial⟩⟩⟩⟩⟩,⟨g223_ok,⟨g209_ok,⟨g182_ok,⟨g179_ok,⟨g173_ok,⟨g172_ok,trivial,trivial⟩,⟨g176_ok,trivial,trivial⟩⟩,⟨g181_ok,⟨g180_ok,trivial,trivial⟩,trivial⟩⟩,⟨g185_ok,⟨g184_ok,⟨g183_ok,trivial,trivial⟩,trivial⟩,⟨g208_ok,⟨g186_ok,trivial,trivial⟩,trivial⟩⟩⟩,⟨g217_ok,⟨g213_ok,⟨g211_ok,⟨g210_ok,trivial,trivial⟩,⟨g212_ok,trivial,trivial⟩⟩,⟨g216_ok,⟨g215_ok,trivial,trivial⟩,trivial⟩⟩,⟨g220_ok,⟨g219_ok,⟨g218_ok,trivial,trivial⟩,trivial⟩,⟨g222_ok,⟨g221_ok,trivial,trivial⟩,trivial⟩⟩⟩⟩,⟨g250_ok,⟨g239_ok,⟨g236_ok,⟨g234_ok,⟨g224_ok,trivial,trivial⟩,⟨g235_ok,trivial,trivial⟩⟩,⟨g238_ok,⟨g237_ok,trivial,trivial⟩,trivial⟩⟩,⟨g242_ok,⟨g241_ok,⟨g240_ok,trivial,trivial⟩,trivial⟩,⟨g244_ok,⟨g243_ok,trivial,trivial⟩,trivial⟩⟩⟩,⟨g256_ok,⟨g253_ok,⟨g252_ok,⟨g251_ok,trivial,trivial⟩,trivial⟩,⟨g255_ok,⟨g254_ok,trivial,trivial⟩,trivial⟩⟩,⟨g259_ok,⟨g258_ok,⟨g257_ok,trivial,trivial⟩,trivial⟩,⟨g264_ok,⟨g263_ok,trivial,trivial⟩,trivial⟩⟩⟩⟩⟩⟩
end Go.Ah.Tz
end
section
namespace Go.Ah.Tz
open Go.Proofs.Tryz (prog)
set_option maxRecDepth 1000000
theorem hT44:∀f np g,tb44.get f=some (np,g)→GQ f np g:=GT.get_ok QcG
def b20V:AVal:=(.agg [(.rsl true false 12 [[(.str [73,109,112]),(.bool true),(.int .i64 1),(.int .i64 2),(.int .i64 3),(.int .i64 1),(.int .i64 0),(.int .i64 0),.nils,.nils,.nils,(.int .i64 0)],[(.str [69,108,102]),(.bool true),(.int .i64 2),(.int .i64 1),(.int .i64 1),(.int .i64 0),(.int .i64 1),(.int .i64 0),.nils,.nils,.nils,(.int .i64 0)],[(.str [66,111,108,116]),(.bool false),(.int .i64 1),(.int .i64 0),(.int .i64 0),(.int .i64 0),(.int .i64 0),(.int .i64 0),(.rsl true false 14 [[(.int .i8 0),(.int .i8 2),(.int .i8 0),(.int .i64 3),(.int .i8 0),.nils,(.str []),(.int .i8 0),(.int .i8 0),(.str []),.nils,.nils,.nils,.nils]]),.nils,.nils,(.int .i64 0)]]),(.rsl true false 7 [[(.str [115,116,100]),(.int .i64 0),(.int .i64 60),(.int .i64 60),.nils,.nils,(.int .i64 0)]])])
def m22V:AVal:=(.agg [(.int .i64 1),(.int .i64 0),(.int .i8 0),(.bool false),(.int .i8 0),.nils,(.int .i64 4),(.int .i64 20),(.int .i64 3),(.int .i64 3),(.rsl true false 1 [[(.int .i64 0)],[(.int .i64 1)],[(.int .i64 2)]]),(.rsl true false 1 [[(.int .i64 2)],[(.int .i64 0)]]),.nils,(.rsl false false 4 [[(.int .i64 1),(.int .i64 0),(.int .i64 0),(.bool false)],[(.int .i64 3),(.int .i64 1),(.int .i64 0),(.bool false)]]),.nils,(.int .i64 20),(.int .i64 3),(.int .i64 3),(.rsl true false 1 [[(.int .i64 0)],[(.int .i64 1)],[(.int .i64 2)]]),(.rsl true false 1 [[(.int .i64 2)],[(.int .i64 0)]]),.nils,(.rsl true false 4 [[(.int .i64 2),(.int .i64 1),(.int .i64 0),(.bool false)]]),.nils])
def s45V:AVal:=(.agg [(.int .i64 1),(.int .i64 0),(.int .i8 1),(.bool true),(.int .i8 0),(.rsl false false 1 [[(.int .i64 1)],[(.int .i64 3)]]),(.int .i64 4),(.int .i64 20),(.int .i64 3),(.int .i64 3),(.rsl false false 1 [[(.int .i64 0)],[(.int .i64 1)],[(.int .i64 2)]]),(.rsl false false 1 [[(.int .i64 2)],[(.int .i64 0)]]),.nils,(.rsl false false 4 [[(.int .i64 1),(.int .i64 0),(.int .i64 0),(.bool true)],[(.int .i64 3),(.int .i64 1),(.int .i64 0),(.bool true)]]),.nils,(.int .i64 20),(.int .i64 3),(.int .i64 3),(.rsl false false 1 [[(.int .i64 0)],[(.int .i64 1)],[(.int .i64 2)]]),(.rsl false false 1 [[(.int .i64 2)],[(.int .i64 0)]]),.nils,(.rsl false false 4 [[(.int .i64 2),(.int .i64 1),(.int .i64 0),(.bool false)]]),.nils])
def s48V:AVal:=(.agg [(.int .i64 1),(.int .i64 0),(.int .i8 0),(.bool true),(.int .i8 0),.nils,(.int .i64 4),(.int .i64 20),(.int .i64 3),(.int .i64 3),(.rsl false false 1 [[(.int .i64 0)],[(.int .i64 1)],[(.int .i64 2)]]),(.rsl false false 1 [[(.int .i64 2)],[(.int .i64 0)]]),.nils,(.rsl false false 4 [[(.int .i64 1),(.int .i64 0),(.int .i64 0),(.bool true)],[(.int .i64 3),(.int .i64 1),(.int .i64 0),(.bool true)]]),.nils,(.int .i64 19),(.int .i64 3),(.int .i64 3),(.rsl false false 1 [[(.int .i64 0)],[(.int .i64 1)],[(.int .i64 2)]]),(.rsl false false 1 [[(.int .i64 2)],[(.int .i64 0)]]),.nils,(.rsl false false 4 [[(.int .i64 2),(.int .i64 1),(.int .i64 3),(.bool false)]]),.nils])
def s00V:AVal:=(.agg [(.int .i64 0),(.int .i64 0),(.int .i8 0),(.bool false),(.int .i8 0),.nils,(.int .i64 0),(.int .i64 0),(.int .i64 0),(.int .i64 0),.nils,.nils,.nils,.nils,.nils,(.int .i64 0),(.int .i64 0),(.int .i64 0),.nils,.nils,.nils,.nils,.nils])
def r13:AVal:=.rsl false false 1 [[.int .i64 1],[.int .i64 3]]
def r2:AVal:=.rsl false false 1 [[.int .i64 2]]
def r12:AVal:=.rsl false false 2 [[.int .i64 1,.int .i64 2]]
theorem p93:PC 93 [] b20V:=Qau hP hT44 (much:=1000000000) 60 (by kernel_rfl)
theorem p94:PC 94 [] m22V:=Qau hP hT44 (much:=1000000000) 60 (by kernel_rfl)
theorem p143:PC 143 [b20V] (.agg [.int .i64 0,.int .i64 0]):=Qau hP hT44 (much:=1000000000) 60 (by kernel_rfl)
def kn44:Known:=[(143,[b20V],.agg [.int .i64 0,.int .i64 0])]
theorem QaV:KnOk prog GL0 kn44:=⟨⟨⟨g143_ok.plain,rfl,rfl⟩,p143⟩,trivial⟩
theorem p45a:PC 45 [b20V,m22V,r13] (.tup [s45V,(.rsl false false 7 [[(.int .i8 11),(.int .i64 0),(.int .i64 0),(.int .i64 1),(.int .i64 0),(.int .i64 0),.nils],[(.int .i8 11),(.int .i64 0),(.int .i64 0),(.int .i64 3),(.int .i64 0),(.int .i64 0),.nils]]),(.int .i64 0)]):=Zav hP hT44 (much:=1000000000) QaV 60 (by kernel_rfl)
theorem p45b:PC 45 [b20V,m22V,r2] (.tup [s00V,.nils,(.int .i64 2)]):=Zav hP hT44 (much:=1000000000) QaV 60 (by kernel_rfl)
theorem p48:PC 48 [b20V,s45V,r12] (.tup [s48V,(.rsl false false 7 [[(.int .i8 12),(.int .i64 0),(.int .i64 0),(.int .i64 1),(.int .i64 2),(.int .i64 0),.nils],[(.int .i8 5),(.int .i64 1),(.int .i64 0),(.int .i64 2),(.int .i64 0),(.int .i64 3),.nils],[(.int .i8 5),(.int .i64 0),(.int .i64 0),(.int .i64 1),(.int .i64 0),(.int .i64 0),.nils],[(.int .i8 5),(.int .i64 1),(.int .i64 0),(.int .i64 0),(.int .i64 0),(.int .i64 1),.nils]]),(.int .i64 0)]):=Zav hP hT44 (much:=1000000000) QaV 60 (by kernel_rfl)
theorem p50:PC 50 [b20V,s45V,.nils] (.tup [(.int .i64 4),(.int .i64 0)]):=Zav hP hT44 (much:=1000000000) QaV 60 (by kernel_rfl)
attribute [local irreducible] Ans.rd Ans.pu Ans.wr Ans.dr Ans.gr Ans.gw Ans.gl Ans.gd Ans.opt joinK W
set_option maxHeartbeats 8000000
theorem p44:PC 44 [] (.bool true):=by
 refine Ze hP g44_ok rfl rfl ?_;unfold g44;refine Qe p93 rfl g93_ok.plain rfl (Qe p94 rfl g94_ok.plain rfl (Qd rfl rfl ?_));refine ZaL (pre:=[b20V,m22V]) p45a rfl g45_ok.plain rfl rfl rfl (by simp) (Ya rfl (Ya rfl (Ya rfl (Qd rfl rfl (Qd rfl rfl ?_)))));refine Zq p93 rfl g93_ok.plain rfl (Ys (v:=s45V) rfl rfl (Yp rfl (Ys rfl rfl ?_)));refine Ybg (pre:=[b20V,s45V]) p48 rfl g48_ok.plain rfl rfl rfl (by simp) (Yp rfl (Yp rfl (Yp rfl (Ys rfl rfl (Ys rfl rfl (Y4 (by kernel_rfl) ?_))))));refine Zq p93 rfl g93_ok.plain rfl (Ys (v:=s45V) rfl rfl (Zq p50 rfl g50_ok.plain rfl (Yp rfl (Yp rfl (Y4 (by kernel_rfl) ?_)))));refine Qe p93 rfl g93_ok.plain rfl (Qe p94 rfl g94_ok.plain rfl (Qd rfl rfl ?_));refine ZaL (pre:=[b20V,m22V]) p45b rfl g45_ok.plain rfl rfl rfl (by simp) (Ya rfl (Ya rfl (Ya rfl (Qd rfl rfl (Qd rfl rfl ?_)))));repeat first|refine Yb (Ya rfl ?_)|refine Ya rfl ?_
 rfl
end Go.Ah.Tz
end
section
namespace Go.Proofs.YtflcpnaigpgciaaGreatDoor
open Go.ChangeShapes Go.WideShapes Go.ChangeAt Go.RowKit Go.Ah Go.Ah.Tz
set_option maxRecDepth 100000
theorem Ybk:Rows.fightHarmsUptoRow.laid=[("unicode.White_Space",Rows.laid_unicode_White_Space),("strings.asciiSpace",Lib.tabData .u8 spaces)]:=by kernel_rfl
theorem XaB(H:Type)(enc:TypeId×Value→H)(W:World)(base:Nat)(args:Array Value)(ds gs:List (DataW H))(before:List MemPlace)
 (hval:∀(j:Nat) t v,Tryz.f13.params[j]?=some t→args[j]?=some v→Value.okWide Tryz.prog W .any base t v)
 (hW:DataW.Whole enc Tryz.prog Tryz.f13.params.toList Rows.fightHarmsSpec.vars false W args.toList ds gs before)(hk:Rows.uptoSmall H (ds++gs)=true)(hL:laidMetH Tryz.prog Rows.fightHarmsUptoRow.laid W) :
  Calls Tryz.prog 13 args W λe W'=>∃v,e=.returned v∧Rows.fightHarmsSpec.post enc Tryz.prog Tryz.f13 false true false false W args v W':=by
 have hW':=hW;have hlt:=hW.lt;obtain⟨p,q,hA0,hV,rfl,hfz,hnd⟩:=hW;have hA:DataW.TrodAll enc Tryz.prog W 0 (λ_=>true) true Tryz.f13.params.toList args.toList ds p:=hA0;rw[Tryz.params13] at hA hval;obtain⟨v0,vs,d0,ds,p0,p,hargs,rfl,rfl,h0,r⟩:=trodAll_cons hA;obtain⟨v1,vs,d1,ds,p1,p,rfl,rfl,rfl,h1,r⟩:=trodAll_cons r;obtain⟨v2,vs,d2,ds,p2,p,rfl,rfl,rfl,h2,r⟩:=trodAll_cons r;obtain⟨rfl,rfl,rfl⟩:=trodAll_nil r;obtain rfl:args = #[v0,v1,v2]:=by cases args; simp_all
 obtain⟨rfl,rfl⟩:=trodVars_none hV;have hbk:Rows.uptoBulkAll [d0,d1,d2]≤1048576:=of_decide_eq_true hk;simp only[Rows.uptoBulkAll] at hbk;obtain⟨b,hf,hsm,e0⟩:=ZcM (hval 0 _ v0 rfl rfl) h0 (by omega);obtain⟨s,hs,e1⟩:=Zcz (hval 1 _ v1 rfl rfl) h1 (by omega);obtain⟨a2,l2,e2⟩:=d_prs (hval 2 _ v2 rfl rfl) h2 (by omega);have hg:=Qcy Ybk (show laidMet Tryz.prog Rows.fightHarmsUptoRow.laid W from hL);refine(c13 sort89 sortn89 p44 b hf hsm s hs a2 l2 W (λk=>W.heap[k]?) [v0,v1,v2] (λ_ _ h=>h) hg ⟨e0,e1,e2,trivial⟩).mono ?_;rintro e W' ⟨u,rfl,hkeep,M',_,_,_,hd⟩;cases hd;have hb:=hkeep.below;refine⟨_,rfl,QaW (pa:=p0++(p1++(p2++[]))) (pv:=[]) hW' (λ_ _ _=>trodAll_cons_mk (shut_bool Ybf _) trodAll_mk0) (λsp hsp=>?_) (λ_ _=>rfl) rfl hb (ok_one (by kernel_rfl) rfl (okWide_bool_mk Ybf _))⟩;rw[Tryz.params13];refine trodAll_cons_mk (Qbi r_bk.1 r_bk.2 h0 hb hlt (λp hp=>by simp[hp]) hsp) <| trodAll_cons_mk (Qbi r_st.1 r_st.2 h1 hb hlt (λp hp=>by simp[hp]) hsp) <| trodAll_cons_mk (Qbi YcR.1 YcR.2 h2 hb hlt (λp hp=>by simp[hp]) hsp) trodAll_mk0
def YW:Array Value:=#[.agg #[.slice none 0 0,.slice none 0 0],.agg #[.int .i64 0,.int .i64 0,.int .i8 0,.bool false,.int .i8 0,.slice none 0 0,.int .i64 0,.int .i64 0,.int .i64 0,.int .i64 0,.slice none 0 0,.slice none 0 0,.slice none 0 0,.slice none 0 0,.slice none 0 0,.int .i64 0,.int .i64 0,.int .i64 0,.slice none 0 0,.slice none 0 0,.slice none 0 0,.slice none 0 0,.slice none 0 0],.slice none 0 0]
theorem XbJ(os:Os):laidMet Tryz.prog Rows.fightHarmsUptoRow.laid ((Zbj os).forCall (λ_ _=>0) ⟨#[],YW,[]⟩).memory:=
 laidMet_of_run' 8 (by kernel_rfl) (by kernel_rfl)
theorem Qa3(os:Os){H:Type}(enc:TypeId×Value→H):∃places,DataW.whole enc Tryz.prog ((Zbj os).forCall (λ_ _=>0) ⟨#[],YW,[]⟩).memory Tryz.f13.params.toList Rows.fightHarmsSpec.vars false YW.toList 8 =
  some ([.agg [.nil,.nil],.agg [.lit (.int .i64 0),.lit (.int .i64 0),.lit (.int .i8 0),.lit (.bool false),.lit (.int .i8 0),.nil,.lit (.int .i64 0),.agg [.agg [.lit (.int .i64 0),.lit (.int .i64 0),.lit (.int .i64 0),.nil,.nil,.nil,.nil,.nil],.agg [.lit (.int .i64 0),.lit (.int .i64 0),.lit (.int .i64 0),.nil,.nil,.nil,.nil,.nil]]],.nil],[],places):=⟨[],by kernel_rfl⟩
theorem YaU(os:Os)(started:os.Started)(H:Type)(enc:TypeId×Value→H)(F:Stop.Interp) :
  ReturnsInHanded {} Tryz.checked os 13 .any ((Rows.OpenSpec.upto Rows.fightHarmsSpec).preRow enc Tryz.prog Tryz.f13 Rows.fightHarmsUptoRow.domain false Rows.fightHarmsUptoRow.laid) (((Rows.OpenSpec.upto Rows.fightHarmsSpec).at F).post enc Tryz.prog Tryz.f13 false true false false):=by
 obtain⟨places,hx⟩:=Qa3 os enc;refine returnsInHanded_of_row (C:=Tryz.checked) (s:=Rows.OpenSpec.upto Rows.fightHarmsSpec) d_own started (by kernel_rfl) Tryz.func13
  (witness_row_atRef (enc:=enc) (C:=Tryz.checked) false (Zbj os) YW rfl (by kernel_rfl) (by kernel_rfl) (by kernel_rfl)
   (OpenSpec.preRow_of_cond 8 hx (by kernel_rfl) (λk hk=>by cases hk; kernel_rfl) (by kernel_rfl) (XbJ os))) ?_
 intro W base args ds gs before hval hW _ hcond _ hL _ _;exact XaB H enc W base args ds gs before hval hW (hcond _ rfl) hL
theorem XbZ:Tryz.prog.funcNamed Rows.fightHarmsUptoRow.func=some 13:=by kernel_rfl
theorem QbZ:(Rows.fightHarmsUptoRow.wf (OpenSpec.ofChange (Rows.OpenSpec.upto Rows.fightHarmsSpec).bare))=true:=by kernel_rfl
theorem Zb0:(laidOutB Tryz.prog)=true:=by kernel_rfl
theorem Yb0:(mapsRowed Tryz.prog)=true:=by kernel_rfl
theorem Xb0:(Tryz.f13.params.all (Tryz.prog.readableRec ·))=true:=by kernel_rfl
theorem Qb0:(namedTie Tryz.prog Rows.fightHarmsUptoRow.named (Rows.OpenSpec.upto Rows.fightHarmsSpec).bare.vars)=true:=by kernel_rfl
theorem Zb1:(Rows.fightHarmsUptoRow.stops==[])=true:=by kernel_rfl
theorem Yb1:(Tryz.prog.stops==[])=true:=by kernel_rfl
theorem Xb1:(Rows.fightHarmsUptoRow.knobs==[])=true:=by kernel_rfl
theorem Qb1:(Tryz.prog.stopKnobs==[])=true:=by kernel_rfl
theorem QbD:(Rows.fightHarmsUptoRow.inPlace==Tryz.prog.inPlace 13)=true:=by kernel_rfl
theorem ZbE:(Rows.fightHarmsUptoRow.unfollowed==Tryz.prog.unfollowed 13)=true:=by kernel_rfl
theorem YbE:(Rows.fightHarmsUptoRow.recurses==Tryz.prog.recurses 13)=true:=by kernel_rfl
theorem XbE:(Rows.fightHarmsUptoRow.named==Tryz.prog.varsNamed 13)=true:=by kernel_rfl
theorem QbE:(Rows.fightHarmsUptoRow.maps==(Tryz.f13.params.toList++(Rows.OpenSpec.upto Rows.fightHarmsSpec).bare.plain.varTypes Tryz.prog).any (Tryz.prog.mapsRec ·))=true:=by kernel_rfl
theorem ZbF:(Rows.fightHarmsUptoRow.ifaces==(Tryz.f13.params.toList++(Rows.OpenSpec.upto Rows.fightHarmsSpec).bare.plain.varTypes Tryz.prog).any (Tryz.prog.ifacesRec ·))=true:=by kernel_rfl
theorem YbF:(Rows.fightHarmsUptoRow.mapsOut==Tryz.prog.mapsAmong Tryz.f13.resultTypes.toList)=true:=by kernel_rfl
theorem XbF:(Rows.fightHarmsUptoRow.loops==(Tryz.f13.params.toList++(Rows.OpenSpec.upto Rows.fightHarmsSpec).bare.plain.varTypes Tryz.prog).any (Tryz.prog.loopsFrom ·))=true:=by kernel_rfl
theorem QbF:(Rows.fightHarmsUptoRow.wideKeys==(Tryz.f13.params.toList++(Rows.OpenSpec.upto Rows.fightHarmsSpec).bare.plain.varTypes Tryz.prog++Tryz.f13.resultTypes.toList).any (Tryz.prog.wideKeysFrom ·))=true:=by kernel_rfl
theorem ZbG:((Rows.OpenSpec.upto Rows.fightHarmsSpec).bare.vars.all (Tryz.prog.varReadable ·))=true:=by kernel_rfl
theorem YbG:(Tryz.f13.resultTypes.all (λt=>Tryz.prog.readableRec t&&decide (t<Tryz.prog.types.size)))=true:=by kernel_rfl
theorem XbG:(Rows.fightHarmsUptoRow.ifacesOut==Tryz.f13.resultTypes.toList.any (Tryz.prog.ifacesRec ·))=true:=by kernel_rfl
theorem QbG:(Rows.fightHarmsUptoRow.loopsOut==Tryz.f13.resultTypes.toList.any (Tryz.prog.loopsFrom ·))=true:=by kernel_rfl
theorem ZbH:(Rows.fightHarmsUptoRow.plainKeys==Tryz.prog.plainKeys)=true:=by kernel_rfl
theorem YbH:(Rows.fightHarmsUptoRow.shortTexts.isNone)=true:=by kernel_rfl
theorem XbH:(Tryz.prog.stopsHeard)=true:=by kernel_rfl
theorem QbH:(Tryz.prog.mayEnter)=true:=by kernel_rfl
theorem ZbI:(Rows.fightHarmsUptoRow.lifted==Tryz.prog.liftsFinal)=true:=by kernel_rfl
theorem YbI:(Tryz.prog.make==some Rows.fightHarmsUptoRow.make)=true:=by kernel_rfl
theorem XbI:(Rows.fightHarmsUptoRow.kinds==(if Rows.fightHarmsUptoRow.domain.isEmpty then [] else Tryz.f13.params.toList.map λt=>match Tryz.prog.underlying t with|some (.int k)=>some k|_=>none))=true:=by kernel_rfl
theorem QbI:(Rows.fightHarmsUptoRow.pinned==Rows.fightHarmsUptoRow.pinnedBy)=true:=by kernel_rfl
theorem ZbJ:(Rows.fightHarmsUptoRow.veiled==(Tryz.f13.params.toList++(Rows.OpenSpec.upto Rows.fightHarmsSpec).bare.plain.varTypes Tryz.prog++Tryz.f13.resultTypes.toList).any (Tryz.prog.veiledRec ·))=true:=by kernel_rfl
theorem YbJ:(Rows.fightHarmsUptoRow.veiledFits Tryz.prog Tryz.f13.params.toList (Tryz.f13.params.toList++(Rows.OpenSpec.upto Rows.fightHarmsSpec).bare.plain.varTypes Tryz.prog++Tryz.f13.resultTypes.toList))=true:=by kernel_rfl
theorem ZaU:joinedFacts Tryz.prog 13 Tryz.f13 (Rows.OpenSpec.upto Rows.fightHarmsSpec).bare Rows.fightHarmsUptoRow=true:=(Zl (Zl (Zl (Zl (Zl (Zl (Zl (Zl (Zl (Zl (Zl (Zl (Zl (Zl (Zl (Zl (Zl (Zl (Zl (Zl (Zl (Zl (Zl (Zl (Zl (Zl (Zl (Zl (Zl (Zl (Zl QbZ Zb0) Yb0) Xb0) Qb0) Zb1) Yb1) Xb1) Qb1) QbD) ZbE) YbE) XbE) QbE) ZbF) YbF) XbF) QbF) ZbG) YbG) XbG) QbG) ZbH) YbH) XbH) QbH) ZbI) YbI) XbI) QbI) ZbJ) YbJ)
theorem Xbk:Rows.FightHarmsUptoSaid:=
 OpenClaim.holds_of_cond 13 Tryz.f13 rfl rfl rfl rfl rfl rfl rfl ⟨rfl,rfl,rfl,rfl,rfl⟩ rfl rfl rfl rfl rfl XbZ Tryz.func13 ZaU
  (of_decide_eq_true (by kernel_rfl)) (by unfold Func.isWrapper; first|(rw[if_pos (by decide +kernel)]; kernel_rfl)|(rw[if_neg (by decide +kernel)]; exact⟨rfl,rfl⟩))
  (λos started H enc _ F=>by rw[OpenClaim.pre_eq_preRow]; exact YaU os started H enc F)
theorem Xa3(f:FuncId)(fn:Func)(hf:Tryz.pinned.checked.prog.funcNamed "baize/baizelaw22.FightHarms" = some f)(hfn:Tryz.pinned.checked.prog.funcs[f]?=some fn) :
  true=Tryz.pinned.checked.prog.looks []∧∀(j:Nat) t,fn.params[j]?=some t→Tryz.pinned.checked.prog.wantsStandIn t=false:=by
 obtain rfl:f=13:=Option.some.inj ((show Tryz.prog.funcNamed "baize/baizelaw22.FightHarms" = some 13 by kernel_rfl).symm.trans hf) |>.symm;obtain rfl:fn=Tryz.f13:=(Option.some.inj (Tryz.func13.symm.trans hfn)).symm;refine⟨by kernel_rfl,λj t ht=>?_⟩;rw[Tryz.params13] at ht;have hm:t∈[Qcf,Ycg,ZaI]:=by simpa using Array.mem_of_getElem? ht
 have hall:([Qcf,Ycg,ZaI].all λu=>!Tryz.prog.wantsStandIn u)=true:=by kernel_rfl
 exact(show Tryz.prog.wantsStandIn t=false by simpa using List.all_eq_true.1 hall t hm)
theorem fightHarms_upto_card:Rows.FightHarmsUptoCardSaid:=
 Claim7.holds_tied_plain_at .later [] _ _ _ _ Xbk (λ_ h=>by cases h) (by kernel_rfl) (λ_ h=>by cases h) fightHarmsUpto_row_tie rfl ⟨rfl,rfl⟩ (by kernel_rfl) rfl Xa3 (by kernel_rfl)
#print axioms fightHarms_upto_card
end Go.Proofs.YtflcpnaigpgciaaGreatDoor
end
