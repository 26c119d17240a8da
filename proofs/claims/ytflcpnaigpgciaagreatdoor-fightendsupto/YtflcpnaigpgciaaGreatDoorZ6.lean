/- Part of the proof that FightEnds holds of the program for arguments that together hold at most 1048576 values and letters; no other condition. -/
import Derived.Test.YtflcpnaigpgciaaGreatDoorZ5
set_option linter.all false
section
namespace Go.Ah.Tz
open Go.Proofs.Tryz (prog)
inductive FS where
 |aK (id n:Int)
 |block (a d:Int)
def lr(b:Bk)(s:St)(l:List (Int×Int))(a:Int):List FS:=match XD l a with
 |none=>[.aK 0 (bT b s a)]
 |some p=>[.block a p.2,.aK p.2 (bT b s a),.aK a (bT b s p.2)]
def cY(b:Bk)(s:St)(l:List (Int×Int)):List Int→List FS
 |[]=>[]
 |a::r=>lr b s l a++cY b s l r
theorem Sh(b:Bk)(s:St)(l:List (Int×Int))(x y:List Int):cY b s l (x++y)=cY b s l x++cY b s l y:=by
 induction x with
 |nil=>rfl
 |cons a x ih=>simp[cY,ih]
theorem Iu(b:Bk)(s:St)(l:List (Int×Int))(x:List Int):(cY b s l x).length≤3*x.length:=by
 induction x with
 |nil=>simp[cY]
 |cons a x ih=>
  have:(lr b s l a).length≤3:=by unfold lr; split<;>simp
  simp[cY]; omega
def eL(e:Ev):List aa:=if e.kind=12 then PI e else sK e
def di(b:Bk)(mv:Int):List FS→St→List Ev→St×List Ev×Int
 |[],t,l=>(t,l,0)
 |.block a d::r,t,l=>di b mv r t (l++[⟨12,mv,0,a,d,0,[]⟩])
 |.aK id n::r,t,l=>if (cz b t id (1-mv) n).2.2=0 then di b mv r (cz b t id (1-mv) n).1 (l++[(cz b t id (1-mv) n).2.1]) else (h_,[],(cz b t id (1-mv) n).2.2)
def QM(r:St×List Ev×Int):St×List Ev×Int:=if r.2.2=0 then ({ r.1 with ak:=[],phase:=0 },r.2.1,0) else (h_,[],r.2.2)
def bO(b:Bk)(s:St)(l:List (Int×Int)):St×List Ev×Int:=
 if bt (ej b).1 b s false=true then (if (decide (s.phase≠1) || !Qu s l)=true then (h_,[],2) else QM (di b s.mover (cY b s l s.ak) s [])) else (h_,[],170)
@[reducible] def Z7(r:St×List Ev×Int):aa:=.aG [eC r.1,.ax false false 7 (r.2.1.map eL),iv r.2.2]
theorem XL{σ:List ab}(e:Int):∃rd,aS (Go.Ah.hp σ) rd (.aG [.agg bo,.af,iv e]) (Z7 (h_,[],e)):=
 ⟨[],aS.aG (.cons SB.zero.agg <| .cons (aS.jl (aS.ro rfl) (λM u d=>d.eU 7)) <| .cons (aS.ro rfl) .nil)⟩
inductive vl (n:Nat) (τ:List ab):FS→aa→Prop
 |aK {p q:Nat} {id k:Int}:n+14≤p→n+14≤q→ah τ p=.box [iv id]→ah τ q=.box [iv k]→vl n τ (.aK id k) (.func (.func 102) [] [.an 0 0,.an (n+11) 0,.an p 0,.an 1 0,.an q 0,.an (n+12) 0])
 |block {p q:Nat} {a a' d:Int}:n+14≤p→n+14≤q→ah τ p=.box [iv a]→ah τ q=.box [iv a',iv d]→vl n τ (.block a d) (.func (.func 105) [] [.an (n+12) 0,.an 1 0,.an p 0,.an q 0])
def Bx(e:Nat)(τ τ':List ab):Prop:=τ.length≤τ'.length∧∀c y,c≠e→ah τ c=.box y→ah τ' c=.box y
theorem Bx.app(e:Nat)(τ l:List ab):Bx e τ (τ++l):=⟨by simp,λc y _ h=>Zg _ h (by simp)⟩
theorem Bx.trans{e:Nat}{a b c:List ab}(h:Bx e a b)(k:Bx e b c):Bx e a c:=⟨Nat.le_trans h.1 k.1,λx y hx h1=>k.2 x y hx (h.2 x y hx h1)⟩
theorem vl.bx{n:Nat}{τ τ':List ab}{x:FS}{v:aa}(h:vl n τ x v)(k:∀c y,n+14≤c→ah τ c=.box y→ah τ' c=.box y):vl n τ' x v:=by
 cases h with
 |aK h1 h2 h3 h4=>exact .aK h1 h2 (k _ _ h1 h3) (k _ _ h2 h4)
 |block h1 h2 h3 h4=>exact .block h1 h2 (k _ _ h1 h3) (k _ _ h2 h4)
def SR(n:Nat)(τ:List ab)(S:List FS)(v:aa):Prop:=
 (S=[]∧v=.af)∨∃R rows,n+14≤R∧0<S.length∧v=.sl R 0 S.length false∧ah τ R=.rows 1 rows∧rows.length=S.length∧∀i (h:i<S.length),∃fv,rows[i]?=some [fv]∧fv.cell=true∧vl n τ S[i] fv
structure SX (b:Bk) (s:St) (M:List (Int×Int)) (n:Nat) (S:List FS) (v:aa) (τ:List ab):Prop where
 ln:n+14≤τ.length
 n4:4≤n
 pw:vC b s M τ
 cp:CP τ n s
 ev:ah τ (n+12)=.box [.af]
 st:ah τ (n+13)=.box [v]
 row:SR n τ S v
theorem SX.app{b:Bk}{s:St}{M:List (Int×Int)}{n:Nat}{S:List FS}{v:aa}{τ:List ab}(h:SX b s M n S v τ)(l:List ab):SX b s M n S v (τ++l):=by
 refine⟨by have:=h.ln; simp; omega,h.n4,h.pw.app l,⟨Zg _ h.cp.box (by simp),λi x hx=>?_⟩,Zg _ h.ev (by simp),Zg _ h.st (by simp),?_⟩
 ·have hi:i<11:=(cJ hx).1;have:=h.ln;rw[Yp l (by omega)]; exact h.cp.key i x hx
 ·rcases h.row with h1|⟨R,rows,h1,h2,h3,h4,h5,h6⟩
  ·exact .inl h1
  ·refine .inr ⟨R,rows,h1,h2,h3,Zg _ h4 (by simp),h5,λi hi=>?_⟩;obtain⟨fv,q1,q2,q3⟩:=h6 i hi;exact⟨fv,q1,q2,q3.bx (λc y _ hy=>Zg _ hy (by simp))⟩
theorem vl.cell{n:Nat}{τ:List ab}{x:FS}{v:aa}(h:vl n τ x v):v.cell=true:=by cases h<;>rfl
theorem SX.Ds{b:Bk}{s:St}{M:List (Int×Int)}{n:Nat}{S S':List FS}{v v':aa}{τ τ':List ab}(h:SX b s M n S v τ){R:Nat}(hR:n+14≤R)(hA:jm τ τ' [n+13,R])(dM:ah τ' (n+13)=.box [v'])(cI:SR n τ' S' v'):SX b s M n S' v' τ':=by
 have hl:=h.ln;have n4:=h.n4;refine⟨Nat.le_trans hl hA.1,n4,⟨hA.get h.pw.k0 (by simp) (by simp; omega),hA.get h.pw.k1 (by simp) (by simp; omega),hA.get h.pw.k2 (by simp) (by simp; omega),hA.get h.pw.k3 (by simp) (by simp; omega)⟩,⟨hA.get h.cp.box (by simp) (by simp; omega),λi x hx=>?_⟩,hA.get h.ev (by simp) (by simp; omega),dM,cI⟩;have hi:i<11:=(cJ hx).1;rw[hA.2 (n+i) (by omega) (by simp; omega)]; exact h.cp.key i x hx
theorem jm.bx{n R:Nat}{τ τ':List ab}(hA:jm τ τ' [n,R])(hR:∀ y,ah τ R≠.box y):Bx n τ τ':=⟨hA.1,λc y hc hy=>hA.get hy (by simp) (by
 have:c≠R:=λe=>hR y (e ▸ hy);simp[hc,this])⟩
attribute [local irreducible] al.rd al.pu al.wr al.dr al.gr al.gw al.gl al.gd al.opt au W
set_option maxHeartbeats 8000000
theorem NJ{b:Bk}{s:St}{M:List (Int×Int)}{n:Nat}{S:List FS}{v:aa}{τ:List ab}(h:SX b s M n S v τ)(hS:S.length≤1000000){x:FS}{fv:aa}(hx:vl n τ x fv){K:aa→List ab→Prop}(hK:∀v' τ',SX b s M n (S++[x]) v' τ'→Bx (n+13) τ τ'→K .aI τ') :
  VV.wr (Xi 1 1 [.ct] [(0,1)] [fv] τ) τ λt σ=>VV.wr (Qj 1 8 [v,t] σ) σ λt2 σ=>VV.wr (Xb 1 [.an (n+13) 0,t2] σ) σ K:=by
 have hc:=hx.cell;have yG:Qw [[fv]]=true:=by cases hx<;>rfl
 have hl:=h.ln;have n4:=h.n4;refine Ze (vD 1 τ fv [.ct] [fv] (by cases hx<;>rfl) rfl) (Yq _ _) ?_;have eu:=Zi τ (.rows 1 [[fv]]);have qW:∀(m:Nat),cellsOf (.sl m 0 (S.length+1) false)=some [.sl m 0 (S.length+1) false]:=λm=>rfl;rcases h.row with ⟨rfl,rfl⟩|⟨R,rows,r1,r2,rfl,r4,r5,r6⟩
 ·refine Ze (Y1 1 8 eu rfl yG (by simp)) (Yq _ _) ?_;have dM:=Zg [.rows 1 [[fv]]] (Zg [.rows 1 [[fv]]] h.st (by simp)) (by simp);refine Ze (iy (row':=[.sl (τ.length + 1) 0 1 false]) dM (by simp; rfl) rfl rfl) (Xn _ (Qh dM (by simp))) ?_;have hA:jm τ ((τ ++ [ab.rows 1 [[fv]]] ++ [ab.rows 1 [[fv]]]).set (n + 13) (.box [.sl (τ.length + 1) 0 1 false])) [n + 13,τ.length]:=⟨by simp; try omega,λc hc hn=>by
   simp only[List.mem_cons,List.not_mem_nil,or_false,not_or] at hn;rw[Yi _ (by simp; omega) hn.1,Yp _ (by simp; omega),Yp _ hc]⟩
  refine hK _ _ (h.Ds (v':=.sl (τ.length+1) 0 1 false) (by omega) hA (Xj _ (Qh dM (by simp))) (.inr ⟨τ.length+1,[[fv]],by omega,by simp,rfl,?_,rfl,λi hi=>?_⟩)) (hA.bx (λy hc=>Nat.lt_irrefl _ (Qh hc (by simp))))
  ·have:=Zi (τ++[ab.rows 1 [[fv]]]) (.rows 1 [[fv]]);exact Zj (by simpa using this) (by simp) (by omega)
  ·obtain rfl:i=0:=by simp at hi; omega
   exact⟨fv,rfl,hc,hx.bx (λc y hc hy=>(hA.bx (λy hc=>Nat.lt_irrefl _ (Qh hc (by simp)))).2 c y (by omega) hy)⟩
 ·refine Ze (QT 1 8 (Zg _ r4 (by simp)) eu r5 rfl yG (by omega)) (QY _ _ (by have:=Qh r4 (by simp); simp; omega)) ?_;have dM:=Zg [.rows 1 (rows ++ [[fv]])] (Zj (c:=R) (x:=.dead) (Zg [.rows 1 [[fv]]] h.st (by simp)) (by simp) (by omega)) (by simp);refine Ze (iy (row':=[.sl (τ.length + 1) 0 (S.length + 1) false]) dM (by simp; rfl) rfl rfl) (Xn _ (Qh dM (by simp))) ?_;have hA:jm τ (((τ ++ [ab.rows 1 [[fv]]]).set R .dead ++ [ab.rows 1 (rows ++ [[fv]])]).set (n + 13) (.box [.sl (τ.length + 1) 0 (S.length + 1) false])) [n + 13,R]:=⟨by simp; try omega,λc hc hn=>by
   simp only[List.mem_cons,List.not_mem_nil,or_false,not_or] at hn;rw[Yi _ (by simp; omega) hn.1,Yp _ (by simp; omega),Yi _ (by simp; omega) hn.2,Yp _ hc]⟩
  have pP:=hA.bx (λy=>by rw[r4]; simp);have hlen:(S++[x]).length=S.length+1:=by simp
  refine hK _ _ (h.Ds (v':=.sl (τ.length+1) 0 (S.length+1) false) r1 hA (Xj _ (Qh dM (by simp))) (.inr ⟨τ.length+1,rows++[[fv]],by omega,by simp,by rw[hlen],?_,by simp[r5],λi hi=>?_⟩)) pP
  ·have:=Zi ((τ++[ab.rows 1 [[fv]]]).set R .dead) (.rows 1 (rows++[[fv]]));exact Zj (by simpa using this) (by simp) (by omega)
  ·by_cases tm:i<S.length
   ·obtain⟨w,q1,q2,q3⟩:=r6 i tm;refine⟨w,by rw[List.getElem?_append_left (by omega)]; exact q1,q2,?_⟩;rw[List.getElem_append_left tm];exact q3.bx (λc y hc hy=>pP.2 c y (by omega) hy)
   ·obtain rfl:i=S.length:=by omega
    refine⟨fv,by rw[List.getElem?_append_right (by omega),r5]; simp,hc,?_⟩;rw[List.getElem_append_right (by omega)];simpa using hx.bx (λc y hc hy=>pP.2 c y (by omega) hy)
theorem w101{b:Bk}{s:St}{M:List (Int×Int)}{n:Nat}{S:List FS}{v:aa}{τ:List ab}(h:SX b s M n S v τ)(hS:S.length≤1000000)(id k:Int){K:aa→List ab→Prop}(hK:∀v' τ',SX b s M n (S++[.aK id k]) v' τ'→Bx (n+13) τ τ'→K (.aG []) τ') :
  VV.call .cH [.func (.func 101) [] [.an (n+13) 0,.an 0 0,.an (n+11) 0,.an 1 0,.an (n+12) 0],iv id,iv k] τ K:=by
 refine Yu hP rfl rN rfl ?_;unfold g101;refine Ze (v:=.an τ.length 0) (rd:=[]) (up:=[(τ.length,.box [iv id])]) rfl (Yq _ _) ?_;refine Ze (v:=.an (τ++[ab.box [iv id]]).length 0) (rd:=[]) (up:=[((τ++[ab.box [iv id]]).length,.box [iv k])]) rfl (Yq _ _) ?_;have h1:=(h.app [.box [iv id]]).app [.box [iv k]];have b1:=(Bx.app (n+13) τ [.box [iv id]]).trans (Bx.app (n+13) _ [.box [iv k]]);refine Za (ld h1.st rfl) (Za (Hd ..) (NJ h1 hS (x:=.aK id k) (.aK h.ln (by have:=h.ln; simp; omega) (Zg _ (Zi _ _) (by simp)) (Zi _ _)) (λv' τ' h2 b2=>hK v' τ' h2 (b1.trans b2))))
end Go.Ah.Tz
end
section
namespace Go.Ah.Tz
open Go.Proofs.Tryz (prog)
def y7(n:Nat)(τ:List ab)(l:List Ev)(v:aa):Prop:=
 (l=[]∧v=.af)∨∃Q,n+14≤Q∧0<l.length∧v=.sl Q 0 l.length false∧ah τ Q=.rows 7 (l.map eL)
def TB(n:Nat)(s t:St)(τ:List ab):Prop:=(t=s∧CP τ n s)∨ah τ (n+11)=.box (bX t)
theorem TB.sX{n:Nat}{s t:St}{τ τ':List ab}(h:TB n s t τ)(k:∀c,c<n+12→ah τ' c=ah τ c):TB n s t τ':=by
 rcases h with ⟨h1,h2⟩|h1
 ·refine .inl ⟨h1,by rw[k _ (by omega)]; exact h2.box,λi x hx=>?_⟩;have hi:i<11:=(cJ hx).1;rw[k _ (by omega)]; exact h2.key i x hx
 ·exact .inr (by rw[k _ (by omega)]; exact h1)
theorem TB.sb{n:Nat}{s t:St}{τ:List ab}(h:TB n s t τ):∃cs rd,ah τ (n+11)=.box cs∧cs.length=23∧aF true 0 23 cs=some (.agg cs)∧SB τ rd cs t∧(∀c∈rd,n≤c∧c<n+11)∧(∀c∈rd,ah τ c≠.dead):=by
 rcases h with ⟨rfl,h2⟩|h1
 ·refine⟨_,(List.range 11).map (n + ·),h2.box,rfl,rfl,SB.copy h2.key λi hi=>List.mem_map.2 ⟨i,List.mem_range.2 hi,rfl⟩,λc hc=>?_,λc hc=>?_⟩
  ·obtain⟨i,hi,rfl⟩:=List.mem_map.1 hc;have:=List.mem_range.1 hi; omega
  ·obtain⟨i,hi,rfl⟩:=List.mem_map.1 hc;have:=List.mem_range.1 hi;have hl:i<(iC t).length:=by simpa[iC,tu] using this
   rw[h2.key i _ (List.getElem?_eq_getElem hl)]
   match i,this with
   |0,_|1,_|2,_|3,_|4,_|5,_|6,_|7,_|8,_|9,_|10,_=>simp[iC,tu]
 ·exact⟨_,[],h1,rfl,rfl,SB.ro t,by simp,by simp⟩
structure RX (b:Bk) (s:St) (n:Nat) (l:List Ev) (v:aa) (τ:List ab):Prop where
 ln:n+14≤τ.length
 n4:4≤n
 k0:ah τ 0=.box (ed b)
 k1:ah τ 1=.box (bX s)
 k2:ah τ 2=.box bo
 ev:ah τ (n+12)=.box [v]
 row:y7 n τ l v
def tC(n:Nat)(τ τ':List ab):Prop:=τ.length≤τ'.length∧∀c y,ah τ c=y→y≠.dead→(c<n∨n+13≤c)→(∀rs,y≠.rows 7 rs)→ah τ' c=y
theorem tC.trans{n:Nat}{a b c:List ab}(h:tC n a b)(k:tC n b c):tC n a c:=⟨Nat.le_trans h.1 k.1,λx y h1 h2 h3 h4=>k.2 x y (h.2 x y h1 h2 h3 h4) h2 h3 h4⟩
theorem jm.Ar{n:Nat}{τ τ':List ab}{e:List Nat}(h:jm τ τ' e)(he:∀ c∈e,(n≤c∧c < n + 13)∨(∃ rs,ah τ c=.rows 7 rs)):tC n τ τ':=⟨h.1,λc y h1 h2 h3 h4=>h.get h1 h2 (λhc=>by
 rcases he c hc with q|⟨rs,q⟩
 ·omega
 ·exact h4 rs (h1.symm.trans q))⟩
theorem SR.Ar{n:Nat}{τ τ':List ab}{S:List FS}{v:aa}(h:SR n τ S v)(k:tC n τ τ'):SR n τ' S v:=by
 rcases h with h|⟨R,rows,h1,h2,h3,h4,h5,h6⟩
 ·exact .inl h
 ·refine .inr ⟨R,rows,h1,h2,h3,k.2 R _ h4 (by simp) (by omega) (by simp),h5,λi hi=>?_⟩;obtain⟨fv,q1,q2,q3⟩:=h6 i hi;exact⟨fv,q1,q2,q3.bx (λc y hc hy=>k.2 c _ hy (by simp) (by omega) (by simp))⟩
theorem RX.Ds{b:Bk}{s:St}{n:Nat}{l l':List Ev}{v v':aa}{τ τ':List ab}(h:RX b s n l v τ){e:List Nat}(he:∀c∈e,n≤c)(hA:jm τ τ' e)(H5:ah τ' (n+12)=.box [v'])(cI:y7 n τ' l' v'):RX b s n l' v' τ':=by
 have hl:=h.ln;have n4:=h.n4;have hn:∀c,c<n→c∉e:=λc hc hm=>by have:=he c hm; omega
 exact⟨Nat.le_trans hl hA.1,n4,hA.get h.k0 (by simp) (hn _ (by omega)),hA.get h.k1 (by simp) (hn _ (by omega)),hA.get h.k2 (by simp) (hn _ (by omega)),H5,cI⟩
theorem RX.mono{b:Bk}{s:St}{n:Nat}{l:List Ev}{v:aa}{τ τ':List ab}(h:RX b s n l v τ){e:List Nat}(he:∀c∈e,n≤c∧c<n+12)(hA:jm τ τ' e):RX b s n l v τ':=by
 refine h.Ds (λc hc=>(he c hc).1) hA (hA.get h.ev (by simp) (λhc=>by have:=he _ hc; omega)) ?_;rcases h.row with h1|⟨Q,h1,h2,h3,h4⟩
 ·exact .inl h1
 ·exact .inr ⟨Q,h1,h2,h3,hA.get h4 (by simp) (λhc=>by have:=he _ hc; omega)⟩
theorem JL:∀(rd:List Nat) (σ:List ab),jm σ (gM σ rd) rd
 |[],σ=>⟨Nat.le_refl _,λ_ _ _=>rfl⟩
 |b::rd,σ=>by
  have h:=JL rd (σ.set b .dead);refine⟨by have:=h.1; simpa[gM] using this,λc hc hn=>?_⟩;simp only[List.mem_cons,not_or] at hn;show ah (gM (σ.set b .dead) rd) c=_;rw[h.2 c (by simpa using hc) hn.2,Yi _ hc hn.1]
attribute [local irreducible] al.rd al.pu al.wr al.dr al.gr al.gw al.gl al.gd al.opt au W
set_option maxHeartbeats 8000000
theorem Pn{b:Bk}{s:St}{n:Nat}{l:List Ev}{v:aa}{τ:List ab}(h:RX b s n l v τ)(hl:l.length≤1000000)(e:Ev){K:aa→List ab→Prop}(hK:∀v' τ',RX b s n (l++[e]) v' τ'→tC n τ τ'→(∀c,c<n+12→ah τ' c=ah τ c)→K .aI τ') :
  VV.wr (Xi 7 1 dp [(0,7)] [.agg (eL e)] τ) τ λt σ=>VV.wr (Qj 7 72 [v,t] σ) σ λt2 σ=>VV.wr (Xb 1 [.an (n+12) 0,t2] σ) σ K:=by
 have yG:Qw [eL e]=true:=by unfold eL; split<;>rfl
 have eJ:=h.ln;refine Ze (vD 7 τ (.agg (eL e)) dp (eL e) (by unfold eL; split<;>rfl) (by unfold eL; split<;>rfl)) (Yq _ _) ?_;have eu:=Zi τ (.rows 7 [eL e]);have hlen:(l++[e]).length=l.length+1:=by simp
 rcases h.row with ⟨rfl,rfl⟩|⟨Q,r1,r2,rfl,r4⟩
 ·refine Ze (Y1 7 72 eu rfl yG (by simp)) (Yq _ _) ?_;have dM:=Zg [.rows 7 [eL e]] (Zg [.rows 7 [eL e]] h.ev (by simp)) (by simp);refine Ze (iy (row':=[.sl (τ.length + 1) 0 1 false]) dM (by simp; rfl) rfl rfl) (Xn _ (Qh dM (by simp))) ?_;have hA:jm τ ((τ ++ [ab.rows 7 [eL e]] ++ [ab.rows 7 [eL e]]).set (n + 12) (.box [.sl (τ.length + 1) 0 1 false])) [n + 12]:=⟨by simp; try omega,λc hc hn=>by
   rw[Yi _ (by simp; omega) (by simpa using hn),Yp _ (by simp; omega),Yp _ hc]⟩
  refine hK (.sl (τ.length+1) 0 1 false) _ (h.Ds (e:=[n+12]) (by simp) hA (Xj _ (Qh dM (by simp))) (.inr ⟨τ.length+1,by omega,by simp,rfl,?_⟩)) (hA.Ar (by simp)) (λc hc=>hA.2 c (by omega) (by simp; omega));have:=Zi (τ++[ab.rows 7 [eL e]]) (.rows 7 [eL e]);exact Zj (by simpa using this) (by simp) (by omega)
 ·refine Ze (QT 7 72 (Zg _ r4 (by simp)) eu (by simp) rfl yG (by omega)) (QY _ _ (by have:=Qh r4 (by simp); simp; omega)) ?_;have dM:=Zg [.rows 7 (l.map eL ++ [eL e])] (Zj (c:=Q) (x:=.dead) (Zg [.rows 7 [eL e]] h.ev (by simp)) (by simp) (by omega)) (by simp);refine Ze (iy (row':=[.sl (τ.length + 1) 0 (l.length + 1) false]) dM (by simp; rfl) rfl rfl) (Xn _ (Qh dM (by simp))) ?_;have hA:jm τ (((τ ++ [ab.rows 7 [eL e]]).set Q .dead ++ [ab.rows 7 (l.map eL ++ [eL e])]).set (n + 12) (.box [.sl (τ.length + 1) 0 (l.length + 1) false])) [n + 12,Q]:=⟨by simp; try omega,λc hc hn=>by
   simp only[List.mem_cons,List.not_mem_nil,or_false,not_or] at hn;rw[Yi _ (by simp; omega) hn.1,Yp _ (by simp; omega),Yi _ (by simp; omega) hn.2,Yp _ hc]⟩
  refine hK (.sl (τ.length+1) 0 (l.length+1) false) _ (h.Ds (e:=[n+12,Q]) (by simp; omega) hA (Xj _ (Qh dM (by simp))) (.inr ⟨τ.length+1,by omega,by simp,by rw[hlen],?_⟩)) (hA.Ar (by simp only[List.mem_cons,List.not_mem_nil,or_false]; rintro c (rfl|rfl); exact .inl (by omega); exact .inr ⟨_,r4⟩)) (λc hc=>hA.2 c (by omega) (by simp; omega));have:=Zi ((τ++[ab.rows 7 [eL e]]).set Q .dead) (.rows 7 (l.map eL++[eL e]));exact Zj (by simpa using this) (by simp) (by omega)
theorem TC{s:St}{kd k:Int}{v:Int×Int}(h:(nD s kd k v).2.2=0):(nD s kd k v).2.1.kind=kd:=by
 unfold nD at *;by_cases c:gk v.1=true
 ·rw[if_pos c]
 ·rw[if_neg c] at h; cases h
theorem Nq{s:St}{kd k:Int}{i:Nat}{id:Int}{u:Th}{v:Int×Int}(h:(jT s kd k i id u v).2.2=0):(jT s kd k i id u v).2.1.kind=kd:=by
 unfold jT at *;by_cases c:gk v.1=true
 ·rw[if_pos c]
 ·rw[if_neg c] at h; cases h
theorem Sb{s:St}{kd id k:Int}{fP:Int→Int×Int}{fU:Th→Int×Int}(h:(im kd fP fU s id k).2.2=0):(im kd fP fU s id k).2.1.kind=kd:=by
 unfold im at *;by_cases c:id=0
 ·rw[if_pos c] at *; exact TC h
 rw[if_neg c] at *;by_cases c:id<0
 ·rw[if_pos c] at h; cases h
 rw[if_neg c] at *;cases q0:ga s.s0.ae id with
 |some i=>rw[q0] at h; exact Nq h
 |none=>
  rw[q0] at h;cases q1:ga s.s1.ae id with
  |some i=>rw[q1] at h; exact Nq h
  |none=>rw[q1] at h; cases h
theorem Og{b:Bk}{t:St}{id k n:Int}(h:(cz b t id k n).2.2=0):sK (cz b t id k n).2.1=eL (cz b t id k n).2.1:=by
 have:(cz b t id k n).2.1.kind=5:=Sb h;unfold eL;rw[if_neg (by rw[this]; decide)]
theorem TP(b:Bk)(hf:bE b=true)(fS:Zu b.ai)(he:(ej b).1=0){s:St}(oW:s.mover=0∨s.mover=1){n:Nat}{t:St}{l:List Ev}{v:aa}{τ:List ab}(h:RX b s n l v τ)(hT:TB n s t τ)(hM:eo b t)(hl:l.length≤1000000){x:FS}{fv:aa}(hx:vl n τ x fv){K:aa→List ab→Prop}
 (PU:∀t' e v' τ',(∀r,di b s.mover (x::r) t l=di b s.mover r t' (l++[e]))→eo b t'→RX b s n (l++[e]) v' τ'→TB n s t' τ'→tC n τ τ'→K (iv 0) τ')
 (Ky:∀e τ',e≠0→(∀r,di b s.mover (x::r) t l=(h_,[],e))→tC n τ τ'→K (iv e) τ') :
  VV.call .cH [fv] τ K:=by
 have eJ:=h.ln;cases hx with
 |block h1 h2 h3 h4=>
  rename_i p q a a' d;refine Yu hP rfl rP rfl ?_;unfold g105;refine Za (ld h.ev rfl) (Za rfl (Za (v:=iv s.mover) (ld h.k1 rfl) (Za (ld h3 rfl) (Za rfl (Za (v:=iv d) (ld h4 rfl) (Za (v:=.agg (PI ⟨12,s.mover,0,a,d,0,[]⟩)) (rd:=[]) rfl ?_))))));refine Pn h hl ⟨12,s.mover,0,a,d,0,[]⟩ (λv' τ' h2 hk oV=>?_);exact PU t _ v' τ' (λr=>rfl) hM h2 (hT.sX oV) hk
 |aK h1 h2 h3 h4=>
  rename_i p q id k;refine Yu hP rfl rO rfl ?_;unfold g102;obtain⟨cs,rd,b1,b2,b3,b4,b5,b6⟩:=hT.sb;have h0:1-s.mover=0∨1-s.mover=1:=by omega
  have K4:bt (ej b).1 b t true=true:=zb.2 ⟨he,hM⟩;refine Za (ld h.k0 rfl) (Za (ld b1 b3) (Za (ld h3 rfl) (Za rfl (Za (v:=iv s.mover) (ld h.k1 rfl) (Za (sG ..) (Za (ld h4 rfl) ?_))))));rw[aY (n:=1-s.mover) (by omega) (by omega)];refine Sk (rd:=rd) (c22 b hf fS t (hM.le.mono (by decide)) K4 id (1-s.mover) k h0) rfl oI.plain (.cons (aS.ro rfl) <| .cons b4.agg <| .cons (aS.ro rfl) <| .cons (aS.ro rfl) <| .cons (aS.ro rfl) .nil) b6 ?_;have na:=Jx hM h0 (id:=id) (n:=k);have gv:∀r,di b s.mover (.aK id k::r) t l=if (cz b t id (1-s.mover) k).2.2=0 then di b s.mover r (cz b t id (1-s.mover) k).1 (l++[(cz b t id (1-s.mover) k).2.1]) else (h_,[],(cz b t id (1-s.mover) k).2.2):=λr=>rfl
  have Fe:=Og (b:=b) (t:=t) (id:=id) (k:=1 - s.mover) (n:=k);generalize cz b t id (1 - s.mover) k=r at na gv Fe;obtain⟨t',ev,e⟩:=r;have ti:=JL rd τ;have zI:=h.mono (λc hc=>⟨(b5 c hc).1,by have:=(b5 c hc).2; omega⟩) ti;have PR:tC n τ (gM τ rd):=ti.Ar (λc hc=>.inl (by have:=b5 c hc; omega));have c1:=ti.get b1 (by simp) (λhc=>by have:=b5 _ hc; omega);clear ti h1 h2 h3 h4 b4 b5 b6 hT h;have eJ:n + 14≤(gM τ rd).length:=zI.ln;generalize gM τ rd=τ0 at zI PR c1 eJ ⊢;refine Za rfl (Za rfl (Za rfl ?_));refine Ze (v:=.an τ0.length 0) (rd:=[]) (up:=[(τ0.length,.box bo)]) rfl (Yq _ _) ?_;refine Ze (v:=.an (τ0 ++ [ab.box bo]).length 0) (rd:=[]) (up:=[((τ0 ++ [ab.box bo]).length,.box dp)]) rfl (Yq _ _) ?_;have n7:=Zg [ab.box dp] (Zi τ0 (.box bo)) (by simp);have n8:=Zi (τ0 ++ [ab.box bo]) (.box dp);refine Ze (iy (row':=bX t') n7 rfl rfl rfl) (Xn _ (Qh n7 (by simp))) ?_;have yP:=Zj (c:=τ0.length) (x:=.box (bX t')) n8 (by simp) (by simp);refine Ze (iy (row':=sK ev) yP rfl rfl rfl) (Xn _ (Qh yP (by simp))) ?_;have m8:=Xj (.box (sK ev)) (Qh yP (by simp));have m7:=Zj (c:=(τ0 ++ [ab.box bo]).length) (x:=.box (sK ev)) (Xj (.box (bX t')) (Qh n7 (by simp))) (by simp) (by simp);have hA:jm τ0 (((τ0 ++ [ab.box bo] ++ [ab.box dp]).set τ0.length (.box (bX t'))).set (τ0 ++ [ab.box bo]).length (.box (sK ev))) []:=⟨by simp; try omega,λc hc _=>by
   rw[Yi _ (by simp; omega) (by simp; omega),Yi _ (by simp; omega) (by omega),Yp _ (by simp; omega),Yp _ hc]⟩
  have K8:n+14≤(τ0++[ab.box bo]).length:=by simp; omega
  generalize ((τ0++[ab.box bo]++[ab.box dp]).set τ0.length (.box (bX t'))).set (τ0++[ab.box bo]).length (.box (sK ev))=τ1 at m8 m7 hA ⊢;generalize (τ0++[ab.box bo]).length=p8 at m8 K8 ⊢;generalize τ0.length=p7 at m7 eJ ⊢;have hR:=zI.mono (by simp) hA;have PS:tC n τ τ1:=PR.trans (hA.Ar (by simp));refine Za (Qf ..) (Zc (λhz=>?_) (λhz=>?_))
  ·have hz:e=0:=by simpa using hz
   subst hz;refine Za (ld m7 rfl) ?_;have J7:=hA.get c1 (by simp) (by simp);refine Ze (iy (row':=bX t') J7 rfl rfl (ZI _ _ (by rw[b2]; rfl))) (Xn _ (Qh J7 (by simp))) ?_;have yu:=jm.set τ1 (n+11) (.box (bX t'));have vu:=hR.mono (λc hc=>by simp at hc; omega) yu;refine Za (ld vu.ev rfl) (Za (ld (yu.get m8 (by simp) (by simp; omega)) rfl) ?_);have yw:TB n s t' (τ1.set (n+11) (.box (bX t'))):=.inr (Xj _ (Qh J7 (by simp)));rw[show [ar ev.kind,iv ev.side,iv ev.card,iv ev.id,iv ev.other,iv ev.n,bd ev.ai]=eL ev from Fe rfl];refine Pn vu hl ev (λv' τ' h2 hk oV=>?_);exact PU t' ev v' τ' (λr=>by rw[gv]; exact if_pos rfl) (na rfl).1 h2 (yw.sX oV) (PS.trans ((yu.Ar (λc hc=>.inl (by simp at hc; omega))).trans hk))
  ·have hz:e≠0:=by simpa using hz
   exact Ky e τ1 hz (λr=>by rw[gv]; exact if_neg hz) PS
end Go.Ah.Tz
end
section
namespace Go.Ah.Tz
open Go.Proofs.Tryz (prog)
attribute [local irreducible] al.rd al.pu al.wr al.dr al.gr al.gw al.gl al.gd al.opt au W
set_option maxHeartbeats 8000000
theorem U2{s:St}(hs:cw 1000000000 s){σ:List ab}{n:Nat}(hn:σ.length=n){K:aa→aa→List ab→Prop}(hK:∀τ,τ.length=n+12→(∀c y,ah σ c=y→y≠.dead→ah τ c=y)→CP τ n s→K (.an (n+11) 0) .aI τ) :
  VV.call (.call 59) [eC s] σ λv σ=>VV.wr (Xe bo [] σ) σ λt σ=>VV.wr (Xb 23 [t,v] σ) σ (K t):=by
 subst hn;refine w59 hs (SB.ro (rd:=[]) s) ?_;have hl:(σ++iC s).length=σ.length+11:=by simp[iC,tu]
 refine Yt (row:=jP s σ.length) (row':=jP s σ.length) rfl rfl rfl ?_;have h11:=Zi (σ++iC s) (.box (jP s σ.length));rw[hl] at h11 ⊢;refine hK _ (by simp[iC,tu]) (λc y h hd=>Zg _ (Zg _ h hd) hd) ⟨h11,λi x hx=>?_⟩;have hi:i<11:=(cJ hx).1;exact ZN (by rw[List.getElem?_append_left (by omega),List.getElem?_append_right (by omega)]; simpa using hx)
theorem MI(e:Ev):el (eL e)=true:=by unfold eL; split<;>rfl
theorem y7.PB{n:Nat}{τ:List ab}{l:List Ev}{v:aa}(h:y7 n τ l v):∃rd,(∀c∈rd,n+14≤c)∧aS (Go.Ah.hp τ) rd v (.ax false false 7 (l.map eL)):=by
 rcases h with ⟨rfl,rfl⟩|⟨Q,h1,h2,rfl,h4⟩
 ·exact⟨[],by simp,aS.jl (aS.ro rfl) (λM u d=>d.eU 7)⟩
 ·refine⟨[Q],by simpa using h1,aS.own h4 (by simp) (by simp) (Jo _ _ (by simp)) (λr hr=>?_)⟩;obtain⟨e,_,rfl⟩:=List.mem_map.1 hr;exact MI e
@[reducible] def qH(t s:St)(n:Nat):List aa:=F_ t .af (.sl (n+1) 0 s.s0.bJ.length false) (.sl (n+2) 0 s.s0.hand.length false) (.sl (n+3) 0 s.s0.aR.length false) (.sl (n+4) 0 s.s0.ae.length false) (.sl (n+5) 0 s.s0.told.length false) (.sl (n+6) 0 s.s1.bJ.length false) (.sl (n+7) 0 s.s1.hand.length false) (.sl (n+8) 0 s.s1.aR.length false) (.sl (n+9) 0 s.s1.ae.length false) (.sl (n+10) 0 s.s1.told.length false)
@[reducible] def qI(t s:St):List aa:=F_ t .af (bd s.s0.bJ) (bd s.s0.hand) (bd s.s0.aR) (nA s.s0.ae) (bd s.s0.told) (bd s.s1.bJ) (bd s.s1.hand) (bd s.s1.aR) (nA s.s1.ae) (bd s.s1.told)
theorem OY{τ:List ab}{n:Nat}{s:St}(key:∀i x,1≤i→(iC s)[i]?=some x→ah τ (n+i)=x):∃rd,SB τ rd (qH { s with ak:=[],phase:=0 } s n) { s with ak:=[],phase:=0 }:=by
 have cv:∀ i,i < 11→n + i∈(List.range 11).map (n + ·):=λi hi=>List.mem_map.2 ⟨i,List.mem_range.2 hi,rfl⟩;exact⟨(List.range 11).map (n + ·),SB.mk RI.af (RI.own (key 1 _ (by decide) rfl) (cv 1 (by decide)) rfl) (RI.own (key 2 _ (by decide) rfl) (cv 2 (by decide)) rfl) (RI.own (key 3 _ (by decide) rfl) (cv 3 (by decide)) rfl) (RT.own (key 4 _ (by decide) rfl) (cv 4 (by decide)) rfl) (RI.own (key 5 _ (by decide) rfl) (cv 5 (by decide)) rfl)
  (RI.own (key 6 _ (by decide) rfl) (cv 6 (by decide)) rfl) (RI.own (key 7 _ (by decide) rfl) (cv 7 (by decide)) rfl) (RI.own (key 8 _ (by decide) rfl) (cv 8 (by decide)) rfl) (RT.own (key 9 _ (by decide) rfl) (cv 9 (by decide)) rfl) (RI.own (key 10 _ (by decide) rfl) (cv 10 (by decide)) rfl)⟩
theorem Mq{τ:List ab}(s:St):SB τ [] (qI { s with ak:=[],phase:=0 } s) { s with ak:=[],phase:=0 }:=
 SB.mk RI.af (RI.ro _) (RI.ro _) (RI.ro _) (aS.ro rfl) (RI.ro _) (RI.ro _) (RI.ro _) (RI.ro _) (aS.ro rfl) (RI.ro _)
theorem Wd(b:Bk){s t:St}{n:Nat}{l:List Ev}{ev:aa}{τ:List ab}(hR:RX b s n l ev τ)(hT:TB n s t τ) :
  VV.rd (Ya 5 [.an (n+11) 0] τ) λnq=>
  VV.wr (Xb 1 [nq,.af] τ) τ λ_ σ=>
  VV.rd (Ya 2 [.an (n+11) 0] σ) λnr=>
  VV.wr (Xb 1 [nr,(.int .i8 0)] σ) σ λ_ σ=>
  VV.dr (Zd true 23 [.an (n+11) 0] σ) σ λiR l105 σ=>
  VV.dr (Zd false 1 [.an (n+12) 0] σ) σ λiS l107 σ=>
  VV.dr (Xb 23 [.an 2 0,iR] σ) σ λ_ l108 σ=>
  VV.gd (Zh [[],[],[0],[0,1,2],[0,1,2,3]] [l105,l107,l108,([],[]),([],[])]) <|
  VV.opt (av true 23 (.an 2 0) σ) λr109=>
  (λv' σ=>∃rd,aS (Go.Ah.hp σ) rd v' (Z7 ({ t with ak:=[],phase:=0 },l,0))) (.aG [r109,iS,(.int .i64 0)]) σ:=by
 have eJ:=hR.ln;have hn4:=hR.n4;have key:∀pL ir:List aa,ir.length=23→cellsOf (.agg ir)=some ir→aF true 0 23 ir=some (.agg ir)→(∀τ',jm τ τ' [2,n+11]→∃rd,SB τ' rd ir { t with ak:=[],phase:=0 }) →
  VV.dr (Zd true 23 [.an (n+11) 0] ((τ.set (n+11) (.box pL)).set (n+11) (.box ir))) ((τ.set (n+11) (.box pL)).set (n+11) (.box ir)) λiR l105 σ=>
  VV.dr (Zd false 1 [.an (n+12) 0] σ) σ λiS l107 σ=>
  VV.dr (Xb 23 [.an 2 0,iR] σ) σ λ_ l108 σ=>
  VV.gd (Zh [[],[],[0],[0,1,2],[0,1,2,3]] [l105,l107,l108,([],[]),([],[])]) <|
  VV.opt (av true 23 (.an 2 0) σ) λr109=>
  (λv' σ=>∃rd,aS (Go.Ah.hp σ) rd v' (Z7 ({ t with ak:=[],phase:=0 },l,0))) (.aG [r109,iS,(.int .i64 0)]) σ:=by
  intro pL ir hlen hc hp uN;have h2:ah ((τ.set (n + 11) (.box pL)).set (n + 11) (.box ir)) 2=.box bo:=Zj (Zj hR.k2 (by simp) (by omega)) (by simp) (by omega);have H5:ah ((τ.set (n + 11) (.box pL)).set (n + 11) (.box ir)) (n + 12)=.box [ev]:=Zj (Zj hR.ev (by simp) (by omega)) (by simp) (by omega);have dM:ah ((τ.set (n + 11) (.box pL)).set (n + 11) (.box ir)) (n + 11)=.box ir:=Xj _ (by simp; omega);have hA:jm τ (((τ.set (n + 11) (.box pL)).set (n + 11) (.box ir)).set 2 (.box ir)) [2,n + 11]:=⟨by simp,λc hc hn=>by
   simp only[List.mem_cons,List.not_mem_nil,or_false,not_or] at hn;rw[Yi _ (by simp; omega) hn.1,Yi _ (by simp; omega) hn.2,Yi _ hc hn.2]⟩
  generalize (τ.set (n+11) (.box pL)).set (n+11) (.box ir)=σ at h2 H5 dM hA ⊢;refine Yk (ld dM hp) (Yl _) (Yk (ld H5 (v:=ev) rfl) (Yl _) (Yk (iy (row':=ir) h2 hc (by rw[hlen]; rfl) (ZI _ _ (by rw[hlen]; rfl))) (Xn _ (Qh h2 (by simp))) (XJ ?_ ?_)))
  ·simp[Zh,List.range,List.range.loop,QC,X2,QB,fF,fR]
  refine Ql (Z1 (Xj _ (Qh h2 (by simp))) hp) ?_;obtain⟨rd,uN⟩:=uN _ hA;have cI:y7 n (σ.set 2 (.box ir)) l ev:=by
   rcases hR.row with h1|⟨Q,h1,h2,h3,h4⟩
   ·exact .inl h1
   ·exact .inr ⟨Q,h1,h2,h3,hA.get h4 (by simp) (by simp; omega)⟩
  obtain⟨Dp,_,hE⟩:=cI.PB;exact⟨rd++Dp,aS.aG (.cons (aS.more uN.agg (by simp +contextual)) <| .cons (aS.more hE (by simp +contextual)) <| .cons (aS.ro rfl) .nil)⟩
 rcases hT with ⟨rfl,mq⟩|hT
 ·have hb:=mq.box;refine Za rfl (Ze (iy (row':=qH t t n) hb rfl rfl rfl) (Xn _ (Qh hb (by simp))) ?_);have ny:=Xj (.box (qH t t n)) (Qh hb (by simp));refine Za rfl (Ze (iy (row':=qH { t with ak:=[],phase:=0 } t n) ny rfl rfl rfl) (Xn _ (Qh ny (by simp))) ?_);refine key _ _ rfl rfl rfl (λτ' hA=>OY λi x hi hx=>?_);have hi:i<11:=(cJ hx).1;rw[hA.2 (n+i) (by omega) (by simp; omega)]; exact mq.key i x hx
 ·refine Za rfl (Ze (iy (row':=qI t t) hT rfl rfl rfl) (Xn _ (Qh hT (by simp))) ?_);have ny:=Xj (.box (qI t t)) (Qh hT (by simp));refine Za rfl (Ze (iy (row':=qI { t with ak:=[],phase:=0 } t) ny rfl rfl rfl) (Xn _ (Qh ny (by simp))) ?_);exact key _ _ rfl rfl rfl (λτ' hA=>⟨[],Mq t⟩)
theorem U_(b:Bk)(hf:bE b=true)(fS:Zu b.ai)(he:(ej b).1=0){s:St}(hM:eo b s)(oW:s.mover=0∨s.mover=1){M:List (Int×Int)}{n:Nat}{S:List FS}(hS:S.length≤100000){v:aa}{τ:List ab}(h:SX b s M n S v τ) :
  VV.rd (Zd false 1 [.an (n+13) 0] τ) λsx=>
  VV.rd (Yf [sx] τ) λxL=>
  VV.loop (λJ5 v93 σ=>
  VV.rd (Yj .lss false [(Go.Ah.h0 v93),xL] σ) λxM=>
  VV.test xM (
  VV.rd (Yb 1 [sx,(Go.Ah.h0 v93)] σ) λxN=>
  VV.rd (Zd false 1 [xN] σ) λxO=>
  VV.call .cH [xO] σ λsy σ=>
  VV.rd (Yj .neq false [sy,(.int .i64 0)] σ) λxP=>
  VV.test xP (
  VV.rd (Qe bo [] [] σ) λxQ=>
  VV.wr (Xb 23 [.an 2 0,xQ] σ) σ λ_ σ=>
  VV.opt (av true 23 (.an 2 0) σ) λr100=>
  (λv' σ=>∃rd,aS (Go.Ah.hp σ) rd v' (Z7 (QM (di b s.mover S s [])))) (.aG [r100,.af,sy]) σ) (
  VV.rd (Yj .add false [(Go.Ah.h0 v93),(.int .i64 1)] σ) λu7=>
  J5 [u7] σ)) (
  VV.rd (Ya 5 [.an (n+11) 0] σ) λnq=>
  VV.wr (Xb 1 [nq,.af] σ) σ λ_ σ=>
  VV.rd (Ya 2 [.an (n+11) 0] σ) λnr=>
  VV.wr (Xb 1 [nr,(.int .i8 0)] σ) σ λ_ σ=>
  VV.dr (Zd true 23 [.an (n+11) 0] σ) σ λiR l105 σ=>
  VV.dr (Zd false 1 [.an (n+12) 0] σ) σ λiS l107 σ=>
  VV.dr (Xb 23 [.an 2 0,iR] σ) σ λ_ l108 σ=>
  VV.gd (Zh [[],[],[0],[0,1,2],[0,1,2,3]] [l105,l107,l108,([],[]),([],[])]) <|
  VV.opt (av true 23 (.an 2 0) σ) λr109=>
  (λv' σ=>∃ rd,aS (Go.Ah.hp σ) rd v' (Z7 (QM (di b s.mover S s [])))) (.aG [r109,iS,(.int .i64 0)]) σ)) [(.int .i64 0)] τ:=by
 have hl:Yf [v] τ=.ok (iv S.length) [] []:=by
  rcases h.row with ⟨rfl,rfl⟩|⟨R,rows,_,_,rfl,_,_,_⟩<;>rfl
 refine Za (ld h.st rfl) (Za hl ?_);have PW:RX b s n [] .af τ:=⟨h.ln,h.n4,h.pw.k0,h.pw.k1,h.pw.k2,h.ev,.inl ⟨rfl,rfl⟩⟩;refine Zl (ι:=Nat) (λi vs τ=>∃t l ev,vs=[iv i]∧i≤S.length∧RX b s n l ev τ∧TB n s t τ∧eo b t∧SR n τ S v∧l.length≤i∧di b s.mover S s []=di b s.mover (S.drop i) t l) (λi=>S.length-i) 0 ⟨s,[],.af,rfl,by omega,PW,.inl ⟨rfl,h.cp⟩,hM,h.row,by simp,rfl⟩ ?_;clear PW hl h hM;rintro i vs τ again ⟨t,l,ev,rfl,hi,hR,hT,hM,Kz,Ri,gv⟩ aM;refine Za (Qv ..) (Zc (λh=>?_) (λh=>?_))
 ·have h:i<S.length:=by simpa using h
  rcases Kz with ⟨rfl,_⟩|⟨R,rows,r1,r2,rfl,r4,r5,r6⟩
  ·simp at h
  obtain⟨fv,q1,q2,q3⟩:=r6 i h;rw[eD h] at gv;refine Za (v:=.ptr R i 0) (rd:=[R]) ?_ (Za (v:=fv) (rd:=[R]) (xj r4 q1 (by generalize S[i]=x at q3; cases q3<;>rfl)) ?_)
  ·have:=vK τ R 0 S.length false 1 rows .i64 i h r4;rw[Nat.zero_add] at this; exact this
  have Kz:SR n τ S (.sl R 0 S.length false):=.inr ⟨R,rows,r1,r2,rfl,r4,r5,r6⟩;refine TP b hf fS he oW hR hT hM (by omega) q3 (λt' e v' τ' hg WJ WL WM hk=>?_) (λe τ' hz hg hk=>?_)
  ·refine Za (XN ..) (Xh (Za (Xk ..) ?_));rw[Zf (n:=i) (by omega)];exact aM (i+1) _ _ (by omega) ⟨t',_,v',rfl,by omega,WL,WM,WJ,Kz.Ar hk,by simp; omega,by rw[gv,hg]⟩
  ·have k2:=hk.2 2 _ hR.k2 (by simp) (by have:=hR.n4; omega) (by simp);refine Za (XN ..) ?_;rw[decide_eq_true hz];refine Ye (Za rfl (Ze (iy (row':=bo) k2 rfl rfl rfl) (Xn _ (Qh k2 (by simp))) (Ql (Z1 (Xj _ (Qh k2 (by simp))) rfl) ?_)));rw[gv,hg,QM,if_neg hz];exact XL e
 have h:i=S.length:=by simp at h; omega
 subst h;rw[List.drop_length] at gv;rw[gv,di,QM,if_pos rfl];exact Wd b hR hT
theorem c48(h89:mD prog 89)(hn:nJ prog 89)(b:Bk)(hf:bE b=true)(fS:Zu b.ai)(s:St)(hs:cw 1000000000 s)(l:List (Int×Int))(hl:l.length≤1000000000):PC 48 [eY b,eC s,qu l] (Z7 (bO b s l)):=by
 refine Zy hP mV rfl ?_;unfold g48;refine Ze (v:=.an 0 0) (rd:=[]) (up:=[(0,.box (ed b))]) rfl rfl ?_;refine Ze (v:=.an 1 0) (rd:=[]) (up:=[(1,.box (bX s))]) rfl rfl ?_;refine Ze (v:=.an 2 0) (rd:=[]) (up:=[(2,.box bo)]) rfl rfl ?_;refine Za rfl (Za rfl (Qc (c55 b hf fS s hs) rfl oP.plain rfl (Za (XN ..) ?_)));rcases aL (bt (ej b).1 b s false) with hm|hm
 rotate_left
 ·rw[bO,if_neg (by rw[hm]; simp),hm];exact Ye (Za rfl (Ze rfl rfl (Ql rfl (XL 170))))
 rw[bO,if_pos hm,hm];have uI:=Is hm;obtain⟨he,hM⟩:=zb.1 uI;have KE:s.ak.length≤7:=by
  by_cases hp:s.phase=1
  ·exact(hM.at_.2 hp).2.1
  ·rw[hM.at_.1 hp]; simp
 refine Xh (Za rfl (Za rfl (Za (XN ..) ?_)));refine ME (v1:=eC s) (v2:=qu l) (u0:=.bool (Qu s l)) (λ_=>rfl) (λ_=>rfl) (λ_ k hk=>Qc (c100 h89 hn s hs l hl (by omega)) rfl nX.plain rfl hk) (λ_=>rfl) (Zc (λh=>?_) (λh=>?_))
 ·rw[if_pos h];exact Za rfl (Ze rfl rfl (Ql rfl (XL 2)))
 rw[if_neg (by rw[h]; simp)];clear h;have oW:s.mover=0∨s.mover=1:=by have:=hM.hd; unfold GK at this; omega
 refine Ze (v:=.map 3) (rd:=[]) (up:=[(3,.map [])]) rfl rfl (Za rfl (Za rfl (XF 3 (Xm ?_))));have Fm:(([]:List (Int×Int)).map (·.1)++s.s0.ae.map Th.id).Nodup:=by
  have:=hM.un.2;rw[List.map_append,List.nodup_append] at this;simpa using this.1
 have w1:IntKind.i64.wrap (0+1)=1:=by decide
 have w2:IntKind.i64.wrap (1+1)=2:=by decide
 refine Za rfl (Ye (Za rfl ?_));refine Yt (row:=pn s.s0) (row':=pn s.s0) rfl rfl rfl (Za rfl (Za (v:=nA s.s0.ae) (ld (Zi _ _) rfl) (Za (v:=iv s.s0.ae.length) (rd:=[]) (by simp[Yh]) ?_)));refine NN b hf fS s hs uI s.s0.ae (by have:=hM.le.s0.ae; omega) [] Fm (h0:=⟨rfl,rfl,rfl,rfl⟩) (λτ1 h1=>?_);refine Za rfl ?_;rw[w1];refine Xm (Za rfl (Ye (Za rfl ?_)));refine Yt (row:=pn s.s1) (row':=pn s.s1) rfl rfl rfl (Za rfl (Za (v:=nA s.s1.ae) (ld (Zi _ _) rfl) (Za (v:=iv s.s1.ae.length) (rd:=[]) (by simp[Yh]) ?_)));refine NN b hf fS s hs uI s.s1.ae (by have:=hM.le.s1.ae; omega) _ ?_ (h0:=h1.app _) (λτ2 h2=>?_)
 ·rw[List.nil_append,MC,←List.map_append]; exact hM.un.2
 refine Za rfl ?_;rw[w2];refine Xm (Za rfl (Xh ?_));rw[List.nil_append,jI,jI,←List.map_append] at h2;have h2:vC b s (jI b s (s.s0.ae++s.s1.ae)) τ2:=h2;have Rh:=λid=>UY b s id;generalize jI b s (s.s0.ae++s.s1.ae)=M at h2 Rh;clear h1 Fm w1 w2;have n4:=Qh h2.k3 (by simp);refine Za (ld h2.k1 rfl) (U2 hs rfl (λτ3 hlen hk mq=>?_));generalize τ2.length=n at hlen mq n4 ⊢;have h3:vC b s M τ3:=⟨hk 0 _ h2.k0 (by simp),hk 1 _ h2.k1 (by simp),hk 2 _ h2.k2 (by simp),hk 3 _ h2.k3 (by simp)⟩;refine Ze (v:=.an τ3.length 0) (rd:=[]) (up:=[(τ3.length,.box [.af])]) rfl (Yq _ _) ?_;refine Ze (v:=.an (τ3++[ab.box [.af]]).length 0) (rd:=[]) (up:=[((τ3++[ab.box [.af]]).length,.box [.af])]) rfl (Yq _ _) ?_;have hX:SX b s M n (cY b s l (s.ak.take 0)) .af (τ3++[ab.box [.af]]++[ab.box [.af]]):=by
  have e1:=Zi τ3 (.box [.af]);have e2:=Zi (τ3++[ab.box [.af]]) (.box [.af]);rw[show (τ3++[ab.box [.af]]).length=n+13 by simp[hlen]] at e2;rw[hlen] at e1;refine⟨by simp[hlen],by omega,(h3.app _).app _,⟨Zg _ (Zg _ mq.box (by simp)) (by simp),λi x hx=>?_⟩,Zg _ e1 (by simp),e2,.inl ⟨rfl,rfl⟩⟩;have hi:i<11:=(cJ hx).1;rw[Yp _ (by simp; omega),Yp _ (by omega)]; exact mq.key i x hx
 have e13:(τ3++[ab.box [aa.af]]).length=n+13:=by simp[hlen]
 rw[e13,hlen];clear mq h3 h2 hk;generalize τ3++[ab.box [.af]]++[ab.box [.af]]=τ4 at hX ⊢;refine Za (Hd ..) (Za rfl (Za (v:=bd s.ak) (ld hX.pw.k1 rfl) (Za (v:=iv s.ak.length) (rd:=[]) (by simp[Yh]) ?_)));refine Zl (ι:=Nat) (λi vs τ=>vs=[iv i]∧i≤s.ak.length∧∃v,SX b s M n (cY b s l (s.ak.take i)) v τ) (λi=>s.ak.length-i) 0 ⟨rfl,by omega,_,hX⟩ ?_;clear hX;rintro i vs τ again ⟨rfl,hi,v,hX⟩ aM;refine Za (Qv ..) (Zc (λh=>?_) (λh=>?_));rotate_left
 ·have h:i=s.ak.length:=by simp at h; omega
  subst h;rw[List.take_length] at hX;exact U_ b hf fS he hM oW (by have:=Iu b s l s.ak; omega) hX
 have h:i<s.ak.length:=by simpa using h
 have hJ:s.ak.take (i+1)=s.ak.take i++[s.ak[i]]:=by rw[List.take_succ_eq_append_getElem h]
 have bW:=λ(t:List ab)=>Zp t bL false false 1 s.ak .i64 i h;have hlen:(cY b s l (s.ak.take i)).length≤100000:=by
  have:=Iu b s l (s.ak.take i);simp at this; omega
 generalize s.ak[i]=a at hJ bW;have pZ:∀v' τ',SX b s M n (cY b s l (s.ak.take i)++lr b s l a) v' τ'→again [iv (i+1)] τ':=λv' τ' WQ=>by
  refine aM (i+1) _ _ (by omega) ⟨rfl,by omega,v',?_⟩;rw[hJ,Sh];simpa[cY] using WQ
 generalize cY b s l (s.ak.take i)=S at hX hlen pZ;refine Qk λk61 Fa=>?_;refine Za (bW _) (Za (v:=iv a) (rd:=[]) (aj rfl) (Yt (row:=[iv a]) (row':=[iv a]) rfl rfl rfl ?_));have hB:=Zi τ (ab.box [iv a]);have H2:=hX.app [.box [iv a]];have xh:n+14≤τ.length:=hX.ln;clear hX;generalize τ++[ab.box [iv a]]=τ5 at hB H2 ⊢;generalize τ.length=pa at hB xh ⊢;refine Za (Hd ..) (ZP (rd:=[pa]) (c103 l hl a) rfl nY.plain (.cons (aS.ro rfl) <| .cons (aS.func .nil (.cons (aS.box (row:=[iv a]) (ZE hB (by simp)) (by simp) (bM.ro rfl)) .nil)) .nil) (by cases XD l a<;>rfl) (Za rfl (Za rfl ?_)));refine Yt (row:=fV ((XD l a).getD (0,0))) (row':=fV ((XD l a).getD (0,0))) rfl rfl rfl (Za rfl ?_);have dB:=Zi τ5 (ab.box (fV ((XD l a).getD (0,0))));have cK:=Zg [ab.box (fV ((XD l a).getD (0,0)))] hB (by simp);have EK:=H2.app [.box (fV ((XD l a).getD (0,0)))];have Rr:n+14≤τ5.length:=H2.ln;clear H2 hB;generalize τ5++[ab.box (fV ((XD l a).getD (0,0)))]=τ6 at cK dB EK ⊢;generalize τ5.length=pb at dB Rr ⊢;have uH:∀ {τ':List ab} (id:Int),ah τ' 3=.map (pg Ih M)→Qr false false (.int .i64 0) [.map 3,iv id] τ'=.ok (iv (bT b s id)) [3] []:=λid h=>by
  have:=G6 Ih (.int .i64 0) false h id;rw[←Rh id];refine this.trans ?_;cases cf id M<;>rfl
 cases hp:XD l a with
 |none=>
  rw[hp] at dB;have e:lr b s l a=[.aK 0 (bT b s a)]:=by simp[lr,hp]
  rw[e] at pZ;refine Ye (Za (ld cK rfl) (Za (uH a EK.pw.k3) (w101 EK (by omega) 0 (bT b s a) (λv' τ' h1 _=>?_))));rw[Fa];refine Za (Xk ..) ?_;rw[Zf (n:=i) (by omega)];exact pZ v' τ' h1
 |some p=>
  rw[hp] at dB;have dB:ah τ6 pb=.box [iv p.1,iv p.2]:=dB;have e:lr b s l a=[.block a p.2,.aK p.2 (bT b s a),.aK a (bT b s p.2)]:=by simp[lr,hp]
  rw[e] at pZ;refine Xh (Za (ld EK.st rfl) (Za (Hd ..) (NJ EK (by omega) (x:=.block a p.2) (.block xh Rr cK dB) (λv1 τ7 KD b3=>?_))));have EI:=b3.2 pa _ (by omega) cK;have EJ:=b3.2 pb _ (by omega) dB;refine Za rfl (Za (v:=iv p.2) (ld EJ rfl) (Za (ld EI rfl) (Za (uH a KD.pw.k3) (w101 KD (by simp; omega) p.2 (bT b s a) (λv2 τ8 PZ b4=>?_)))));have Kw:=b4.2 pa _ (by omega) EI;have Kx:=b4.2 pb _ (by omega) EJ;refine Za (ld Kw rfl) (Za rfl (Za (v:=iv p.2) (ld Kx rfl) (Za (uH p.2 PZ.pw.k3) (w101 PZ (by simp; omega) a (bT b s p.2) (λv3 τ9 WS _=>?_)))));rw[Fa];refine Za (Xk ..) ?_;rw[Zf (n:=i) (by omega)];exact pZ v3 τ9 (by simpa using WS)
end Go.Ah.Tz
end
section
namespace Go.Ah.Tz
open Go.Proofs.Tryz (prog)
def mN(p q:Int×Int):Bool:=decide (q.1=p.1)||decide (q.2=p.2)
theorem OU(s:St)(l:List (Int×Int))(p:Int×Int):Qu s (l++[p])=(Qu s l&&(XO s p && !(l.any (mN p)))):=by
 have key:∀(f:Int×Int→Int),decide ((l++[p]).map f).Nodup=(decide (l.map f).Nodup && !(l.any λq=>decide (f q=f p))):=λf=>by
  rw[Bool.eq_iff_iff];simp only[List.map_append,List.map_cons,List.map_nil,decide_eq_true_eq,Bool.and_eq_true,Bool.not_eq_true',List.any_eq_false,List.nodup_append];constructor
  ·rintro⟨h1,_,h3⟩;exact⟨h1,λq hq=>by simpa using h3 (f q) (List.mem_map.2 ⟨q,hq,rfl⟩) (f p) (by simp)⟩
  ·rintro⟨h1,h2⟩;refine⟨h1,by simp,λx hx y hy=>?_⟩;obtain⟨q,hq,rfl⟩:=List.mem_map.1 hx;simp at hy; subst hy;simpa using h2 q hq
 have hor:l.any (mN p)=((l.any λq=>decide (q.1=p.1))||(l.any λq=>decide (q.2=p.2))):=by
  clear key
  induction l with
  |nil=>rfl
  |cons q l ih=>simp only[List.any_cons,ih,mN]; cases decide (q.1=p.1)<;>cases decide (q.2=p.2)<;>cases (l.any λq=>decide (q.1=p.1))<;>simp
 rw[Qu,Qu,key (·.1),key (·.2),List.all_append,hor];simp only[List.all_cons,List.all_nil,Bool.and_true];cases l.all (XO s)<;>cases XO s p<;>cases decide (l.map (·.1)).Nodup<;>cases decide (l.map (·.2)).Nodup<;>cases (l.any λq=>decide (q.1=p.1))<;>cases (l.any λq=>decide (q.2=p.2))<;>rfl
theorem Sp{s:St}{x y:List (Int×Int)}(h:Qu s x=false):Qu s (x++y)=false:=by
 cases hc:Qu s (x++y) with
 |false=>rfl
 |true=>
  simp only[Qu,Bool.and_eq_true,decide_eq_true_eq,List.all_append,List.map_append,List.nodup_append] at hc;simp only[Qu,hc.1.1,hc.2.1.1,hc.2.2.1,decide_true,Bool.and_self] at h;cases h
theorem Sf(l:List Int)(x:Int):l.contains x=l.any λy=>decide (y=x):=by
 induction l with
 |nil=>rfl
 |cons a l ih=>
  rw[List.contains_cons,ih,List.any_cons]
  congr 1
  by_cases h:a=x
  ·subst h; simp
  ·rw[decide_eq_false h]; simpa using λe=>h e.symm
attribute [local irreducible] al.rd al.pu al.wr al.dr al.gr al.gw al.gl al.gd al.opt au W
set_option maxHeartbeats 8000000
theorem c107(l:List (Int×Int))(hl:l.length≤1000000000)(a:Int):PC 107 [qu l,iv a] (iv (((XD l a).map (·.2)).getD 0)):=by
 refine Qd hP rR rfl rfl ?_;unfold g107;refine Zl (ι:=Nat) (λi vs _=>vs=[iv i]∧i≤l.length∧XD l a=XD (l.drop i) a) (λi=>l.length-i) 0 ⟨rfl,by omega,rfl⟩ ?_;rintro i vs σ again ⟨rfl,hi,hu⟩ aM;refine Za (v:=iv l.length) (rd:=[]) (by simp[Yh]) (Za (Qv ..) (Zc (λh=>?_) (λh=>?_)))
 ·have h:i<l.length:=by simpa using h
  rw[eD h,XD] at hu;have bW:=λ(τ:List ab)=>Zp τ fV false false 2 l .i64 i h;generalize l[i]=p at hu bW;refine Za (bW _) (Za rfl (Za (v:=iv p.1) (rd:=[]) (aj rfl) (Za (Qf ..) (Zc (λq=>?_) (λq=>?_)))))
  ·have q:p.1=a:=by simpa using q
   rw[hu,if_pos q];exact Za (bW _) (Za rfl (Za (v:=iv p.2) (rd:=[]) (aj rfl) rfl))
  ·have q:¬p.1=a:=by simpa using q
   rw[if_neg q] at hu;refine Za (Xk ..) ?_;rw[Zf (n:=i) (by omega)];exact aM (i+1) _ _ (by omega) ⟨rfl,by omega,hu⟩
 ·have h:i=l.length:=by simp at h; omega
  subst h;rw[List.drop_length] at hu;rw[hu]; rfl
theorem c106(s:St)(hs:cw 1000000000 s)(l:List (Int×Int))(hl:l.length≤1000000000):PC 106 [eC s,qu l] (.bool (Qu s l)):=by
 refine Qd hP rQ rfl rfl ?_;unfold g106;refine Ze (v:=.an 0 0) (rd:=[]) (up:=[(0,.box (bX s))]) rfl rfl ?_;refine Zl (ι:=Nat) (λi vs τ=>vs=[iv i]∧i≤l.length∧ah τ 0=.box (bX s)∧Qu s (l.take i)=true) (λi=>l.length-i) 0 ⟨rfl,by omega,rfl,rfl⟩ ?_;rintro i vs τ again ⟨rfl,hi,h0,fK⟩ aM;refine Za (v:=iv l.length) (rd:=[]) (by simp[Yh]) (Za (Qv ..) (Zc (λh=>?_) (λh=>?_)));rotate_left
 ·have h:i=l.length:=by simp at h; omega
  subst h;rw[List.take_length] at fK;rw[fK]
 have h:i<l.length:=by simpa using h
 have hJ:l.take (i+1)=l.take i++[l[i]]:=by rw[List.take_succ_eq_append_getElem h]
 have bW:=λ(τ:List ab)=>Zp τ fV false false 2 l .i64 i h;have ux:Qu s (l.take (i+1))=false→Qu s l=false:=λhf=>by
  rw[←List.take_append_drop (i+1) l]; exact Sp hf
 rw[hJ,OU,fK,Bool.true_and] at ux;have uB:Qu s (l.take (i+1))=(XO s l[i] && !((l.take i).any (mN l[i]))):=by rw[hJ,OU,fK,Bool.true_and]
 clear hJ;generalize l[i]=p at bW ux uB;refine Za (bW _) (Za (v:=.agg (fV p)) (rd:=[]) (aj rfl) (Yt (row:=fV p) (row':=fV p) rfl rfl rfl ?_));have hB:=Zi τ (ab.box (fV p));have pz:=Zg [ab.box (fV p)] h0 (by simp);clear h0;generalize τ++[ab.box (fV p)]=τ1 at hB pz ⊢;generalize τ.length=tb at hB ⊢;refine Za (ld pz rfl) (Za rfl (Za (v:=iv p.2) (ld hB rfl) (Qc (c23 s hs p.2) rfl mU.plain rfl (Za rfl (Za rfl (Za rfl (Za rfl (Za (v:=bd s.ak) (ld pz rfl) (Za rfl (Za (v:=iv p.1) (ld hB rfl) ?_))))))))));refine Qc (c98 s.ak hs.ak p.1) rfl um.plain rfl (Za rfl ?_);refine vm (λ_=>rfl) (λ_=>rfl) ?_;refine NI (v3:=iv s.mover) (λ_=>rfl) (λ_=>rfl) (λ_=>ld pz rfl) (λ_=>Qf ..) ?_;have H':(((!(s.ak.contains p.1) || !(aH s p.2).2.2)||decide ((aH s p.2).1=s.mover))) = !XO s p:=by
  rw[XO,Sf]; cases (aH s p.2).2.2<;>cases decide ((aH s p.2).1=s.mover)<;>cases (s.ak.any λx=>decide (x=p.1))<;>rfl
 rw[H'];refine Zc (λhk=>?_) (λhk=>?_)
 ·rw[ux (by rw[show XO s p=false by simpa using hk]; rfl)]
 have hk:XO s p=true:=by simpa using hk
 rw[hk,Bool.true_and] at ux uB;refine Zl (ι:=Nat) (λk vs τ=>vs=[iv k]∧k≤i∧ah τ 0=.box (bX s)∧ah τ tb=.box (fV p)∧(l.take k).any (mN p)=false) (λk=>i-k) 0 ⟨rfl,by omega,pz,hB,rfl⟩ ?_;clear pz hB;rintro k vs τ mH ⟨rfl,hki,pz,hB,Dk⟩ lu;refine Za (Qv ..) (Zc (λh2=>?_) (λh2=>?_))
 ·have h2:k<i:=by simpa using h2
  have kH:k<l.length:=by omega
  have zT:=λ(τ:List ab)=>Zp τ fV false false 2 l .i64 k kH;have FE:l.take (k+1)=l.take k++[l[k]]:=by rw[List.take_succ_eq_append_getElem kH]
  have nf:l[k]∈l.take i:=List.mem_iff_getElem.2 ⟨k,by simp; omega,by simp⟩;generalize l[k]=q at zT FE nf;refine Za (zT _) (Za rfl (Za (v:=iv q.1) (rd:=[]) (aj rfl) (Za rfl (Za (v:=iv p.1) (ld hB rfl) (Za (Qf ..) ?_)))));refine OA (v3:=.ay (fV q) 0) (v4:=.ay (fV q) 1) (v5:=iv q.2) (v7:=iv p.2) (λ_=>rfl) (λ_=>rfl) (λ_=>zT _) (λ_=>rfl) (λ_=>aj rfl) (λ_=>rfl) (λ_=>ld hB rfl) (λ_=>Qf ..) ?_;refine Zc (λhc=>?_) (λhc=>?_)
  ·rw[ux];have:(l.take i).any (mN p)=true:=List.any_eq_true.2 ⟨q,nf,hc⟩;rw[this]; rfl
  ·refine Za (Xk ..) ?_;rw[Zf (n:=k) (by omega)];refine lu (k+1) _ _ (by omega) ⟨rfl,by omega,pz,hB,?_⟩;rw[FE,List.any_append,Dk];have hc:mN p q=false:=hc;simp[hc]
 ·have h2:k=i:=by simp at h2; omega
  subst h2;refine Za (Xk ..) ?_;rw[Zf (n:=k) (by omega)];exact aM (k+1) _ _ (by omega) ⟨rfl,by omega,pz,by rw[uB,Dk]; rfl⟩
end Go.Ah.Tz
end
section
namespace Go.Ah.Tz
open Go.Proofs.Tryz (prog)
def tQ(c:Cd):Prop:=(0≤c.bC∧c.bC≤999)∧(0≤c.bU∧c.bU≤999)∧(0≤c.aT∧c.aT≤999)∧(0≤c.cG∧c.cG≤999)∧(0≤c.dq∧c.dq≤999)
theorem N5(cs:List Cd):∀(l pre:List Cd),(fk cs pre l).1=0→∀c∈l,tQ c
 |[],_,_,c,hc=>absurd hc (by simp)
 |d::l,pre,h,c,hc=>by
  unfold fk at h;split at h
  ·cases h
  ·split at h
   ·rename_i h2;rcases List.mem_cons.1 hc with rfl|hc
    ·simp only[eE,aQ,Bool.and_eq_true,decide_eq_true_eq] at h2;obtain⟨_,_,h3,h4,hs,h5,h6,_⟩:=h2;exact⟨hs,h3,h4,h5,h6⟩
    ·exact N5 cs l _ h c hc
   ·cases h
theorem Ud{b:Bk}(h:(ej b).1=0):∀c∈b.ai,tQ c:=by
 unfold ej at h;split at h
 ·rename_i h1; exact absurd h h1
 ·rename_i h1;have h1:(dF b.ai).1=0:=by simpa using h1
  unfold dF at h1;split at h1
  ·cases h1
  ·exact N5 _ _ _ h1
theorem Hn{b:Bk}(h:(ej b).1=0)(k:Int):tQ (Zz b k):=by
 unfold Zz;cases e:b.ai[k.toNat]? with
 |none=>exact⟨⟨Int.le_refl _,by decide⟩,⟨Int.le_refl _,by decide⟩,⟨Int.le_refl _,by decide⟩,⟨Int.le_refl _,by decide⟩,⟨Int.le_refl _,by decide⟩⟩
 |some c=>exact Ud h c (List.mem_of_getElem? e)
def kB(b:Bk)(place:Int):List Th→Int→Int×Int→Int×Int
 |[],_,a=>a
 |u::l,i,a=>kB b place l (i+1) (if i=place then a else (IntKind.i64.wrap (a.1+(Zz b u.card).cG),IntKind.i64.wrap (a.2+(Zz b u.card).dq)))
def fw(f g:Th→Int)(place:Int):List Th→Int→Int
 |[],_=>0
 |u::l,i=>(if i=place then f u else g u)+fw f g place l (i+1)
theorem NQ(f g f':Th→Int)(place:Int):∀(l:List Th) (i:Int),place<i→fw f g place l i=fw f' g place l i
 |[],_,_=>rfl
 |u::l,i,h=>by
  unfold fw;rw[if_neg (by omega),if_neg (by omega),NQ f g f' place l (i+1) (by omega)]
theorem I2(f g:Th→Int)(place:Int):∀(l:List Th) (i:Int) (k:Nat) (u:Th),l[k]?=some u→i+k=place→fw f g place l i=f u+fw (λ_=>0) g place l i
 |[],_,_,_,h,_=>by simp at h
 |v::l,i,0,u,h,e=>by
  simp at h; subst h;unfold fw;rw[if_pos (by omega),if_pos (by omega),NQ f g (λ_=>0) place l (i+1) (by omega)];omega
 |v::l,i,k+1,u,h,e=>by
  unfold fw;rw[if_neg (by omega),if_neg (by omega),I2 f g place l (i+1) k u (by simpa using h) (by omega)];omega
theorem Js{b:Bk}(h:(ej b).1=0)(place:Int):∀(l:List Th) (i:Int) (a:Int×Int),0≤a.1→0≤a.2→a.1+999*l.length≤1000000000000→a.2+999*l.length≤1000000000000 →
  iQ b place l i a=(a.1+fw (λu=>(Zz b u.card).bU) (λu=>(Zz b u.card).cG) place l i,a.2+fw (λu=>(Zz b u.card).aT) (λu=>(Zz b u.card).dq) place l i)
 |[],_,a,_,_,_,_=>by simp[iQ,fw]
 |u::l,i,a,h1,h2,h3,h4=>by
  obtain⟨_,⟨q1,q2⟩,⟨q3,q4⟩,⟨q5,q6⟩,q7,q8⟩:=Hn h u.card;simp only[List.length_cons] at h3 h4;unfold iQ fw;split
  ·rw[aY (by omega) (by omega),aY (by omega) (by omega),Js h place l _ _ (by show 0≤a.1+_; omega) (by show 0≤a.2+_; omega) (by show a.1+_+_≤_; omega) (by show a.2+_+_≤_; omega)];simp only[Prod.mk.injEq]; omega
  ·rw[aY (by omega) (by omega),aY (by omega) (by omega),Js h place l _ _ (by show 0≤a.1+_; omega) (by show 0≤a.2+_; omega) (by show a.1+_+_≤_; omega) (by show a.2+_+_≤_; omega)];simp only[Prod.mk.injEq]; omega
theorem I0{b:Bk}(h:(ej b).1=0)(place:Int):∀(l:List Th) (i:Int) (a:Int×Int),0≤a.1→0≤a.2→a.1+999*l.length≤1000000000000→a.2+999*l.length≤1000000000000 →
  kB b place l i a=(a.1+fw (λ_=>0) (λu=>(Zz b u.card).cG) place l i,a.2+fw (λ_=>0) (λu=>(Zz b u.card).dq) place l i)
 |[],_,a,_,_,_,_=>by simp[kB,fw]
 |u::l,i,a,h1,h2,h3,h4=>by
  obtain⟨_,⟨q1,q2⟩,⟨q3,q4⟩,⟨q5,q6⟩,q7,q8⟩:=Hn h u.card;simp only[List.length_cons] at h3 h4;unfold kB fw;split
  ·rw[I0 h place l _ _ h1 h2 (by omega) (by omega)];simp only[Prod.mk.injEq]; omega
  ·rw[aY (by omega) (by omega),aY (by omega) (by omega),I0 h place l _ _ (by show 0≤a.1+_; omega) (by show 0≤a.2+_; omega) (by show a.1+_+_≤_; omega) (by show a.2+_+_≤_; omega)];simp only[Prod.mk.injEq]; omega
theorem U7{b:Bk}(h:(ej b).1=0){l:List Th}(hl:l.length≤1000000){k:Nat}{u:Th}(hk:l[k]?=some u):kB b k l 0 ((Zz b u.card).bU,(Zz b u.card).aT)=hZ b l k:=by
 obtain⟨_,⟨q1,q2⟩,⟨q3,q4⟩,_⟩:=Hn h u.card;rw[hZ,Js h k l 0 (0,0) (Int.le_refl _) (Int.le_refl _) (by show (0:Int) + _≤_; omega) (by show (0:Int) + _≤_; omega),I0 h k l 0 _ q1 q3 (by show (Zz b u.card).bU + _≤_; omega) (by show (Zz b u.card).aT + _≤_; omega),
  I2 (λu=>(Zz b u.card).bU) _ k l 0 k u hk (by simp),I2 (λu=>(Zz b u.card).aT) _ k l 0 k u hk (by simp)]
 simp
end Go.Ah.Tz
end
section
namespace Go.Ah.Tz
open Go.Proofs.Tryz (prog)
attribute [local irreducible] al.rd al.pu al.wr al.dr al.gr al.gw al.gl al.gd al.opt au W
set_option maxHeartbeats 8000000
theorem c177(b:Bk)(he:(ej b).1=0)(s:St){side:Int}(hs:side=0∨side=1)(hl:(Yv s side).ae.length≤1000000)(hu:∀u∈(Yv s side).ae,0≤u.card∧u.card.toNat<b.ai.length){k:Nat}{u:Th}(hk:(Yv s side).ae[k]?=some u) :
  PC 177 [eY b,eC s,iv side,iv k] (.aG [iv (hZ b (Yv s side).ae k).1,iv (hZ b (Yv s side).ae k).2]):=by
 refine Qd hP r_ rfl rfl ?_;unfold g177;have hj:∀σ,Yg 2 8 [.an 1 (0+7),iv side] σ=.ok (.an 1 (yX side)) [] []:=by rcases hs with rfl|rfl<;>exact λ_=>rfl
 have hU:aF false (yX side+6) 1 (bX s)=some (nA (Yv s side).ae):=by rcases hs with rfl|rfl<;>rfl
 rw[←U7 he hl hk];have hm:=List.mem_of_getElem? hk;have kH:k<(Yv s side).ae.length:=(cJ hk).1;generalize (Yv s side).ae=U at hl hu hk hU hm kH ⊢;refine Ze (v:=.an 0 0) (rd:=[]) (up:=[(0,.box (ed b))]) rfl rfl ?_;refine Ze (v:=.an 1 0) (rd:=[]) (up:=[(1,.box (bX s))]) rfl rfl ?_;have pS:=λ(t:List ab)=>vJ t cD false false 12 b.ai .i64 u.card (hu u hm).1 (hu u hm).2;have se:Zz b u.card=b.ai[u.card.toNat]'(hu u hm).2:=by simp[Zz,List.getElem?_eq_getElem (hu u hm).2]
 have bW:=λ(t:List ab)=>Zp t bf false false 4 U .i64 k kH;rw[(cJ hk).2] at bW;rw[se];generalize b.ai[u.card.toNat]'(hu u hm).2=c at pS ⊢;refine Za rfl (Za (hj _) (Za rfl (Za (ld rfl hU) ?_)));refine Za rfl (Za (v:=gG b.ai) rfl (Za (bW _) (Za rfl (Za (v:=iv u.card) (rd:=[]) (aj rfl) (Za (pS _) (Za rfl (Za (aj (tR _)) ?_)))))));refine Za rfl (Za (v:=gG b.ai) rfl (Za (bW _) (Za rfl (Za (v:=iv u.card) (rd:=[]) (aj rfl) (Za (pS _) (Za rfl (Za (aj (tS _)) ?_)))))));clear pS bW se hm;refine Zl (ι:=Nat) (λi vs τ=>(∃a:Int×Int,vs=[iv i,iv a.1,iv a.2]∧kB b k U 0 (c.bU,c.aT)=kB b k (U.drop i) i a)∧i≤U.length∧ah τ 0=.box (ed b)) (λi=>U.length-i) 0 ⟨⟨_,rfl,rfl⟩,by omega,rfl⟩ ?_;rintro i vs τ again ⟨⟨a,rfl,hr⟩,hi,h0⟩ aM;refine Za (v:=iv U.length) (rd:=[]) (by simp[Yh]) (Za (Qv ..) (Zc (λh=>?_) (λh=>?_)));rotate_left
 ·have h:i=U.length:=by simp at h; omega
  subst h;rw[List.drop_length,kB] at hr;show aa.aG [iv a.1,iv a.2]=_;rw[hr]
 have h:i<U.length:=by simpa using h
 have hm:=List.getElem_mem h;have bW:=λ(t:List ab)=>Zp t bf false false 4 U .i64 i h;rw[eD h,kB] at hr;generalize U[i]=w at hm bW hr;have pS:=λ(t:List ab)=>vJ t cD false false 12 b.ai .i64 w.card (hu w hm).1 (hu w hm).2;have se:Zz b w.card=b.ai[w.card.toNat]'(hu w hm).2:=by simp[Zz,List.getElem?_eq_getElem (hu w hm).2]
 rw[se] at hr;generalize b.ai[w.card.toNat]'(hu w hm).2=d at pS hr;refine Qk λk26 E9=>?_;refine Za (XN ..) (Zc (λdL=>?_) (λdL=>?_))
 ·have dL:(i:Int)≠k:=by simpa using dL
  rw[if_neg dL] at hr;refine Za rfl (Za (ld h0 rfl) (Za (bW _) (Za rfl (Za (v:=iv w.card) (rd:=[]) (aj rfl) (Za (pS _) (Za rfl (Za (aj (tT _)) (Za (Xk ..) ?_))))))));refine Za rfl (Za (ld h0 rfl) (Za (bW _) (Za rfl (Za (v:=iv w.card) (rd:=[]) (aj rfl) (Za (pS _) (Za rfl (Za (aj (tU _)) (Za (Xk ..) ?_))))))));rw[E9];refine Za (Xk ..) ?_;rw[Zf (n:=i) (by omega)];exact aM (i+1) _ _ (by omega) ⟨⟨_,rfl,by rw[hr]; push_cast; rfl⟩,by omega,h0⟩
 ·have dL:(i:Int)=k:=by simpa using dL
  rw[if_pos dL] at hr;rw[E9];refine Za (Xk ..) ?_;rw[Zf (n:=i) (by omega)];exact aM (i+1) _ _ (by omega) ⟨⟨a,rfl,by rw[hr]; push_cast; rfl⟩,by omega,h0⟩
theorem Ed(b:Bk)(hf:bE b=true)(s:St)(hs:cw 1000000000 s)(hm:bt (ej b).1 b s true=true)(id:Int)(h67:PC 67 [eY b] (.agg [iv (ej b).1,iv (ej b).2])):PC 140 [eY b,eC s,iv id] (nk b s id):=by
 obtain⟨he,hM⟩:=zb.1 hm;refine Qd hP rW rfl rfl ?_;unfold g140;refine Ze (v:=.an 0 0) (rd:=[]) (up:=[(0,.box (ed b))]) rfl rfl ?_;refine Ze (v:=.an 1 0) (rd:=[]) (up:=[(1,.box (bX s))]) rfl rfl ?_;refine Za (v:=eC s) (rd:=[1]) rfl (Qc (c23 s hs id) rfl mU.plain rfl (Za rfl (Za rfl (Za rfl (Za (v:=eY b) (rd:=[0]) rfl (Za (v:=eC s) (rd:=[1]) rfl ?_))))));refine Qc (c25 b s hs true _ _ h67) rfl oK.plain rfl (Za rfl ?_);rw[hm];refine vm (λ_=>rfl) (λ_=>rfl) (Zc (λh=>?_) (λh=>?_))
 ·have h:(aH s id).2.2=false:=by simpa using h
  simp[nk,kA,h]
 have h:(aH s id).2.2=true:=by simpa using h
 obtain⟨k,u,h1,h2,_,h4⟩:=GO h;refine Za (v:=eY b) (rd:=[0]) rfl (Za (v:=eC s) (rd:=[1]) rfl ?_);have e:nk b s id=.aG [iv (hZ b (Yv s (aH s id).1).ae k).1,iv (hZ b (Yv s (aH s id).1).ae k).2,.bool true]:=by simp[nk,kA,h,h1]
 rw[e,h1];have Rv:(Yv s (aH s id).1).ae.length≤1000000∧∀u∈(Yv s (aH s id).1).ae,0≤u.card∧u.card.toNat<b.ai.length:=by
  rcases h4 with h4|h4<;>rw[h4]
  ·exact⟨hM.le.s0.ae,HD hm⟩
  ·exact⟨hM.le.s1.ae,Ho hm⟩
 exact Qc (c177 b he s h4 Rv.1 Rv.2 h2) rfl r_.plain rfl (Za rfl (Za rfl rfl))
theorem c108(b:Bk)(hf:bE b=true)(s:St)(hs:cw 1000000000 s)(hm:bt (ej b).1 b s true=true)(id:Int)(h67:PC 67 [eY b] (.agg [iv (ej b).1,iv (ej b).2])):PC 108 [eY b,eC s,iv id] (iv (bT b s id)):=by
 refine Qd hP n_ rfl rfl ?_;unfold g108;refine Ze (v:=.an 0 0) (rd:=[]) (up:=[(0,.box (ed b))]) rfl rfl ?_;refine Ze (v:=.an 1 0) (rd:=[]) (up:=[(1,.box (bX s))]) rfl rfl ?_;refine Za (v:=eY b) (rd:=[0]) rfl (Za (v:=eC s) (rd:=[1]) rfl (Qc (Ed b hf s hs hm id h67) rfl rW.plain rfl (Za rfl (Za rfl (Za rfl (Za (vn ..) rfl))))))
end Go.Ah.Tz
end
section
namespace Go.Ah.Tz
open Go.Proofs.Tryz (prog)
theorem UK{kd:Int}{fP:Int→Int×Int}{fU:Th→Int×Int}{s:St}{id sd side:Int}{k:Nat}(h0:0<id)(hu:aH s id=(side,(k:Int),true)):im kd fP fU s id sd=jT s kd side k id (((Yv s side).ae[k]?).getD default) (fU (((Yv s side).ae[k]?).getD default)):=by
 unfold im;rw[if_neg (by omega),if_neg (by omega)];unfold aH at hu;cases q0:ga s.s0.ae id with
 |some i=>
  rw[q0] at hu;simp only[Prod.mk.injEq,and_true] at hu;obtain⟨rfl,h2⟩:=hu;have h2:i=k:=by omega
  subst h2; rfl
 |none=>
  rw[q0] at hu;cases q1:ga s.s1.ae id with
  |some i=>
   rw[q1] at hu;simp only[Prod.mk.injEq,and_true] at hu;obtain⟨rfl,h2⟩:=hu;have h2:i=k:=by omega
   subst h2; rfl
  |none=>rw[q1] at hu; simp at hu
theorem VQ{kd:Int}{fP:Int→Int×Int}{fU:Th→Int×Int}{s:St}{id sd:Int}(h0:0<id)(hu:(aH s id).2.2=false):im kd fP fU s id sd=(h_,qB,4):=by
 unfold im;rw[if_neg (by omega),if_neg (by omega)];unfold aH at hu;cases q0:ga s.s0.ae id with
 |some i=>rw[q0] at hu; cases hu
 |none=>
  rw[q0] at hu;cases q1:ga s.s1.ae id with
  |some i=>rw[q1] at hu; cases hu
  |none=>rfl
theorem CP.LS{τ:List ab}{n:Nat}{s:St}(h:CP τ n s){side:Int}(hs:side=0∨side=1)(k:Nat)(u':Th) :
  CP (τ.set (n+tw side) (.rows 4 (((Yv s side).ae.set k u').map bf))) n (s.put side { s.side side with ae:=(s.side side).ae.set k u' }):=by
 have hb:=h.box;rcases hs with rfl|rfl
 ·have bj:=Qh (h.key 4 _ rfl) (by simp);refine⟨?_,λi x hx=>?_⟩
  ·rw[Yi _ (Qh hb (by simp)) (by show n+11≠n+4; omega),hb];simp[St.put,St.side]
  ·by_cases e:i=4
   ·subst e;rw[show tw 0=4 from rfl,Xj _ bj];cases hx; rfl
   ·have uQ:(iC s)[i]?=some x:=by
     rw[←hx]
     match i,e with
     |0,_|1,_|2,_|3,_|5,_|6,_|7,_|8,_|9,_|10,_=>rfl
     |i+11,_=>rfl
    have hi:i<11:=(cJ uQ).1;rw[Yi _ (by have:=Qh hb (by simp); omega) (by show n+i≠n+4; omega)]; exact h.key i x uQ
 ·have bj:=Qh (h.key 9 _ rfl) (by simp);refine⟨?_,λi x hx=>?_⟩
  ·rw[Yi _ (Qh hb (by simp)) (by show n+11≠n+9; omega),hb];simp[St.put,St.side]
  ·by_cases e:i=9
   ·subst e;rw[show tw 1=9 from rfl,Xj _ bj];cases hx; rfl
   ·have uQ:(iC s)[i]?=some x:=by
     rw[←hx]
     match i,e with
     |0,_|1,_|2,_|3,_|4,_|5,_|6,_|7,_|8,_|10,_=>rfl
     |i+11,_=>rfl
    have hi:i<11:=(cJ uQ).1;rw[Yi _ (by have:=Qh hb (by simp); omega) (by show n+i≠n+9; omega)]; exact h.key i x uQ
theorem CP.LR{τ:List ab}{n:Nat}{s:St}(h:CP τ n s){side:Int}(hs:side=0∨side=1)(x:Int) :
  CP (τ.set (n+11) (.box (jP (s.put side { s.side side with aW:=x }) n))) n (s.put side { s.side side with aW:=x }):=by
 have bj:=Qh h.box (by simp);refine⟨Xj _ bj,λi y hy=>?_⟩;have Ig:(iC s)[i]?=some y:=by rcases hs with rfl|rfl<;>exact hy
 have hi:i<11:=(cJ Ig).1;rw[Yi _ (by omega) (by omega)]; exact h.key i y Ig
theorem Wr{σ:List ab}{b k:Nat}{l:List Th}{u':Th}(hb:ah σ b=.rows 4 (l.map bf))(hk:k<l.length):Xb 4 [.ptr b k 0,.agg (bf u')] σ=.ok .aI [] [(b,.rows 4 ((l.set k u').map bf))]:=by
 have h1:nth (l.map bf) k=some (bf l[k]):=by rw[QU,List.getElem?_map,List.getElem?_eq_getElem hk]; rfl
 have h2:Yz k (bf u') (l.map bf)=some ((l.set k u').map bf):=by
  rw[Z3 (by simpa using hk),List.map_set]
 show (match ah σ b with
   |.rows sz rs=>match nth rs k with
    |some row=>match cellsOf (.agg (bf u')) with
     | some cs=>bif Nat.beq cs.length 4 then (match bR 0 cs row with
      |some row'=>match Yz k row' rs with
       |some iu=>az.ok .aI [] [(b,.rows sz iu)]
       |none=>.stop
      | none=>.stop) else .stop
     |none=>.stop
    |none=>.stop
   | _=>.stop)=_
 rw[hb];simp only[h1];show (match Yz k (bf u') (l.map bf) with
  |some iu=>az.ok .aI [] [(b,.rows 4 iu)]
  | none=>.stop)=_
 rw[h2]
attribute [local irreducible] al.rd al.pu al.wr al.dr al.gr al.gw al.gl al.gd al.opt au W
set_option maxHeartbeats 8000000
theorem Hs{τ:List ab}{cs ec:List aa}{e:Int}{y:aa}(x2:ah τ 2=.box bo)(x3:ah τ 3=.box dp)(tk:cs.length=23)(jy:cellsOf (.agg cs)=some cs)(W2:aF true 0 23 cs=some (.agg cs))(P4:ec.length=7)(W8:cellsOf (.agg ec)=some ec)(W9:aF true 0 7 ec=some (.agg ec))
 (h:∀τ',jm τ τ' [2,3]→∃rd,aS (Go.Ah.hp τ') rd (.aG [.agg cs,.agg ec,iv e]) y) :
  VV.wr (Xb 23 [.an 2 0,.agg cs] τ) τ λ_ σ=>VV.wr (Xb 7 [.an 3 0,.agg ec] σ) σ λ_ σ=>VV.opt (av true 23 (.an 2 0) σ) λr=>VV.opt (av true 7 (.an 3 0) σ) λr2=>(λv' σ=>∃rd,aS (Go.Ah.hp σ) rd v' y) (.aG [r,r2,iv e]) σ:=by
 refine Ze (iy (row':=cs) x2 jy (by rw[tk]; rfl) (ZI _ _ (by rw[tk]; rfl))) (Xn _ (Qh x2 (by simp))) ?_;have CV:=Zj (c:=2) (x:=.box cs) x3 (by simp) (by decide);refine Ze (iy (row':=ec) CV W8 (by rw[P4]; rfl) (ZI _ _ (by rw[P4]; rfl))) (Xn _ (Qh CV (by simp))) ?_;refine Ql (Z1 (Zj (Xj _ (Qh x2 (by simp))) (by simp) (by decide)) W2) (Ql (Z1 (Xj _ (Qh CV (by simp))) W9) ?_);refine h _ ⟨by simp,λc hc hn=>?_⟩;simp only[List.mem_cons,List.not_mem_nil,or_false,not_or] at hn;rw[Yi _ (by simpa using hc) hn.2,Yi _ hc hn.1]
theorem HL{τ:List ab}(e:Int)(x2:ah τ 2=.box bo)(x3:ah τ 3=.box dp) :
  VV.rd (Qe bo [] [] τ) λBj=>VV.rd (Qe dp [] [] τ) λBl=>VV.wr (Xb 23 [.an 2 0,Bj] τ) τ λ_ σ=>VV.wr (Xb 7 [.an 3 0,Bl] σ) σ λ_ σ=>VV.opt (av true 23 (.an 2 0) σ) λr=>VV.opt (av true 7 (.an 3 0) σ) λr2=>(λv' σ=>∃rd,aS (Go.Ah.hp σ) rd v' (lC (h_,qB,e))) (.aG [r,r2,iv e]) σ:=
 Za rfl (Za rfl (Hs (cs:=bo) (ec:=dp) x2 x3 rfl rfl rfl rfl rfl rfl λ_ _=>⟨[],s6 e⟩))
theorem c141(b:Bk)(hf:bE b=true)(s:St)(hs:cw 1000000000 s)(hm:bt (ej b).1 b s true=true)(h67:PC 67 [eY b] (.agg [iv (ej b).1,iv (ej b).2]))(id sd n:Int)(h0:sd=0∨sd=1):PC 141 [eY b,eC s,iv id,iv sd,iv n,.bool false] (lC (cz b s id sd n)):=by
 obtain⟨he,hM⟩:=zb.1 hm;refine Zy hP rZ rfl ?_;unfold g141;refine Ze (v:=.an 0 0) (rd:=[]) (up:=[(0,.box (ed b))]) rfl rfl ?_;refine Ze (v:=.an 1 0) (rd:=[]) (up:=[(1,.box (bX s))]) rfl rfl ?_;refine Ze (v:=.an 2 0) (rd:=[]) (up:=[(2,.box bo)]) rfl rfl ?_;refine Ze (v:=.an 3 0) (rd:=[]) (up:=[(3,.box dp)]) rfl rfl ?_;refine Za (v:=eY b) (rd:=[0]) rfl (Za (v:=eC s) (rd:=[1]) rfl ?_);refine Qc (c25 b s hs true _ _ h67) rfl oK.plain rfl (Za rfl ?_);rw[hm];refine Xh (Qk λk12 KX=>Xh ?_);rw[KX];refine Za (vn ..) (Za (ZK ..) (Za (v:=eC s) (rd:=[1]) rfl (Mx hs (n:=4) rfl (λτ hlen pP mq=>?_))));have x0:ah τ 0=.box (ed b):=pP 0 _ rfl;have x1:ah τ 1=.box (bX s):=pP 1 _ rfl;have x2:ah τ 2=.box bo:=pP 2 _ rfl;have x3:ah τ 3=.box dp:=pP 3 _ rfl;have hlen:τ.length=16:=hlen;clear pP;have wZ:min (max n 0) 4000000=dA n:=rfl;rw[wZ];unfold cz;refine Za (ZZ ..) (Zc (λiA=>?_) (λiA=>?_))
 ·have iA:0<id:=by simpa using iA
  refine Za (ld x1 rfl) (Qc (c23 s hs id) rfl mU.plain rfl (Za rfl (Za rfl (Za rfl (Za rfl (Zc (λhk=>?_) (λhk=>?_)))))))
  ·have hk:(aH s id).2.2=false:=by simpa using hk
   rw[VQ iA hk];exact HL 4 x2 x3
  have hk:(aH s id).2.2=true:=by simpa using hk
  obtain⟨k,u,h1,h2,h3,h4⟩:=GO hk;have Rw:aH s id=((aH s id).1,(k:Int),true):=by rw[←h1,←hk]
  rw[UK iA Rw,h1];generalize (aH s id).1=side at h2 h4 ⊢;clear Rw h1 hk;rw[h2];unfold jT;simp only[Option.getD_some];have kH:k<(Yv s side).ae.length:=(cJ h2).1;obtain⟨z1,z2,z3⟩:=mq.ae h4;have E3:((Yv s side).ae.map bf)[k]?=some (bf u):=by rw[List.getElem?_map,h2]; rfl
  have pA:0≤u.card∧u.card.toNat<b.ai.length:=by
   have qd:=List.mem_of_getElem? h2;rcases h4 with rfl|rfl
   ·exact HD hm u qd
   ·exact Ho hm u qd
  have E5:0≤u.aK∧u.aK≤1000000:=by
   have:=hM.un.1 u (by
    have qd:=List.mem_of_getElem? h2;rcases h4 with rfl|rfl
    ·exact List.mem_append_left _ qd
    ·exact List.mem_append_right _ qd)
   simp only[Qt,Bool.and_eq_true,decide_eq_true_eq] at this;exact⟨this.2.2.2.1,this.2.2.2.2.1⟩
  have E6:0≤jj b u (dA n)∧jj b u (dA n)≤4000000:=by
   obtain⟨⟨q1,q2⟩,_⟩:=Hn he u.card;have q1:0≤ZQ b u.card:=q1;have q2:ZQ b u.card≤999:=q2;unfold jj dA;rw[aY (by omega) (by omega)];omega
  have bW:=λ(t:List ab) (ht:ah t (4+tw side)=.rows 4 ((Yv s side).ae.map bf))=>vK t (4+tw side) 0 (Yv s side).ae.length false 4 ((Yv s side).ae.map bf) .i64 k kH ht;simp only[Nat.zero_add] at bW;refine Za rfl (Za (z2 _) (Za rfl (Za (ld mq.box z3) (Za (bW _ z1) (Za (v:=.agg (bf u)) (xj z1 E3 rfl) (Yt (row:=bf u) (row':=bf u) rfl rfl rfl ?_))))));have hB:=Zi τ (ab.box (bf u));have hub:tw side=4∨tw side=9:=by rcases h4 with rfl|rfl; exact .inl rfl; exact .inr rfl
  have y0:=Zg [ab.box (bf u)] x0 (by simp);rw[hlen] at hB ⊢;refine Qk λk37 zY=>Xh ?_;have pS:=λ(t:List ab)=>vJ t cD false false 12 b.ai .i64 u.card pA.1 pA.2;have Dl:ZQ b u.card=(b.ai[u.card.toNat]'pA.2).bC:=by simp[ZQ,List.getElem?_eq_getElem pA.2]
  refine Za rfl (Za (v:=gG b.ai) (ld y0 rfl) (Za rfl (Za (v:=iv u.card) (ld hB rfl) (Za (pS _) (Za rfl (Za (aj (yk _)) (Za (sG ..) (Za (vn ..) ?_))))))));rw[←Dl];clear pS Dl;have P8:max (IntKind.i64.wrap (dA n-ZQ b u.card)) 0=jj b u (dA n):=rfl;rw[P8];refine Za rfl (Za (v:=iv u.aK) (ld hB rfl) (Za (Xk ..) (Za rfl ?_)));have Rn:-1000000≤IntKind.i64.wrap (u.aK+jj b u (dA n)):=by rw[aY (by omega) (by omega)]; omega
  clear E5 E6 P8;generalize jj b u (dA n)=q at Rn zY ⊢;generalize IntKind.i64.wrap (u.aK+q)=nh at Rn zY ⊢;refine Ze (iy (row':=bf { u with aK:=nh }) hB rfl rfl rfl) (Xn _ (Qh hB (by simp))) ?_;have dB:=Xj (.box (bf { u with aK:=nh })) (Qh hB (by simp));have L5:=Zj (c:=16) (x:=.box (bf { u with aK:=nh })) (Zg [ab.box (bf u)] x2 (by simp)) (by simp) (by decide);have CV:=Zj (c:=16) (x:=.box (bf { u with aK:=nh })) (Zg [ab.box (bf u)] x3 (by simp)) (by simp) (by decide);have w8:CP ((τ++[ab.box (bf u)]).set 16 (.box (bf { u with aK:=nh }))) 4 s:=by
   refine⟨Zj (Zg _ mq.box (by simp)) (by simp) (by decide),λi x hx=>?_⟩;have hi:i<11:=(cJ hx).1;rw[Yi _ (by simp; omega) (by omega),Yp _ (by omega)]; exact mq.key i x hx
  rw[zY];refine Za rfl (Za (v:=iv nh) (ld dB rfl) (Za (ZZ ..) (Zc (λhb=>?_) (λhb=>?_))))
  ·have hb:nh>1000000:=by simpa using hb
   rw[if_neg (by unfold gk; simp; omega)];exact HL 171 L5 CV
  have hb:nh≤1000000:=by simpa using hb
  rw[if_pos (by unfold gk; simp; omega)];clear mq x2 x3 x0 x1 z1 z3 hB y0;generalize (τ++[ab.box (bf u)]).set 16 (.box (bf { u with aK:=nh }))=σ at dB L5 CV w8 ⊢;obtain⟨z1,_,z3⟩:=w8.ae h4;refine Zk rfl (Zk (z2 _) (Zk rfl (Yk (ld w8.box z3) (Yl _) (Yk (v:=.agg (bf { u with aK:=nh })) (ld dB rfl) (Yl _) (Yk (bW _ z1) (Yl _) (Yk (Wr z1 kH) (Xn _ (Qh z1 (by simp))) (XJ ?_ ?_)))))))
  ·rcases hub with e|e<;>rw[e]<;>simp[Zh,List.range,List.range.loop,QC,X2,QB,fF,fR]
  have kO:=w8.LS h4 k { u with aK:=nh };have vj:=Zj (c:=4+tw side) (x:=.rows 4 (((Yv s side).ae.set k { u with aK:=nh }).map bf)) L5 (by simp) (by omega);have vk:=Zj (c:=4+tw side) (x:=.rows 4 (((Yv s side).ae.set k { u with aK:=nh }).map bf)) CV (by simp) (by omega);generalize σ.set (4+tw side) (.rows 4 (((Yv s side).ae.set k { u with aK:=nh }).map bf))=σ2 at kO vj vk ⊢;refine Za (ld kO.box rfl) (Za (v:=.agg [ar 5,iv side,iv 0,iv id,iv 0,iv q,.af]) (rd:=[]) rfl ?_);refine Hs vj vk rfl rfl rfl rfl rfl rfl (λτ' hA=>?_);have zO:CP τ' 4 (s.put side { s.side side with ae:=(s.side side).ae.set k { u with aK:=nh } }):=by
   refine⟨hA.get kO.box (by simp) (by decide),λi x hx=>?_⟩;have hi:i<11:=(cJ hx).1;have:=Qh kO.box (by simp);rw[hA.2 (4+i) (by omega) (by simp; omega)]; exact kO.key i x hx
  obtain⟨rd,uN⟩:=zO.sb;exact⟨rd,ry (r:=(_,⟨5,side,0,id,0,q,[]⟩,0)) uN (zt (e:=⟨5,side,0,id,0,q,[]⟩) RI.af)⟩
 have iA:id≤0:=by simpa using iA
 refine Za (Qv ..) (Zc (λhn=>?_) (λhn=>?_))
 ·have hn:id<0:=by simpa using hn
  unfold im;rw[if_neg (by omega),if_pos hn];exact HL 4 x2 x3
 have hn:id=0:=by simp at hn; omega
 subst hn;have KH:im 5 (λl=>(IntKind.i64.wrap (l-dA n),dA n)) (λu=>(IntKind.i64.wrap (u.aK+jj b u (dA n)),jj b u (dA n))) s 0 sd=(if gk (IntKind.i64.wrap ((s.side sd).aW-dA n)) then (s.put sd { s.side sd with aW:=IntKind.i64.wrap ((s.side sd).aW-dA n) },⟨5,sd,0,0,0,dA n,[]⟩,0) else (h_,qB,171)):=rfl;rw[KH];obtain⟨_,z2,_⟩:=mq.ae h0;have z3:aF false (yX sd+0) 1 (jP s 4)=some (iv (s.side sd).aW):=by rcases h0 with rfl|rfl<;>rfl
 refine Za (Qv ..) ?_;refine vm (v1:=iv sd) (λ_=>rfl) (λ_=>ZZ ..) ?_;rw[show (decide (sd<0)||decide (sd>1))=false by rcases h0 with rfl|rfl<;>rfl];refine Xh (Za rfl (Za (z2 _) (Za rfl (Za (ld mq.box z3) (Za (sG ..) ?_)))));refine Qk λk98 Fb=>Xh ?_;rw[Fb];clear Fb k98;show VV.call (.call 116) [iv (IntKind.i64.wrap ((s.side sd).aW-dA n))] τ _;generalize IntKind.i64.wrap ((s.side sd).aW-dA n)=x;refine Qc (c116 x) rfl i_.plain rfl (Za rfl (Zc (λhw=>?_) (λhw=>?_)))
 ·have hw:gk x=false:=by simpa using hw
  rw[if_neg (by rw[hw]; decide)];exact HL 171 x2 x3
 have hw:gk x=true:=by simpa using hw
 rw[if_pos hw];have dM:∀(K:aa→List ab→Prop),K .aI (τ.set 15 (.box (jP (s.put sd { s.side sd with aW:=x }) 4)))→VV.wr (Xb 1 [.an 15 (yX sd+0),iv x] τ) τ K:=λK hK=>by
  refine Ze (iy (row':=jP (s.put sd { s.side sd with aW:=x }) 4) mq.box rfl rfl ?_) (Xn _ (Qh mq.box (by simp))) hK;rcases h0 with rfl|rfl<;>rfl
 refine Za rfl (Za (z2 _) (Za rfl (dM _ ?_)));have kO:=mq.LR h0 x;have vj:=Zj (c:=15) (x:=.box (jP (s.put sd { s.side sd with aW:=x }) 4)) x2 (by simp) (by decide);have vk:=Zj (c:=15) (x:=.box (jP (s.put sd { s.side sd with aW:=x }) 4)) x3 (by simp) (by decide);have kO:CP (τ.set 15 (.box (jP (s.put sd { s.side sd with aW:=x }) 4))) 4 (s.put sd { s.side sd with aW:=x }):=kO;generalize τ.set 15 (.box (jP (s.put sd { s.side sd with aW:=x }) 4))=σ2 at kO vj vk ⊢;refine Za (ld kO.box rfl) (Za (v:=.agg [ar 5,iv sd,iv 0,iv 0,iv 0,iv (dA n),.af]) (rd:=[]) rfl ?_);refine Hs vj vk rfl rfl rfl rfl rfl rfl (λτ' hA=>?_);have zO:CP τ' 4 (s.put sd { s.side sd with aW:=x }):=by
  refine⟨hA.get kO.box (by simp) (by decide),λi y hy=>?_⟩;have hi:i<11:=(cJ hy).1;have:=Qh kO.box (by simp);rw[hA.2 (4+i) (by omega) (by simp; omega)]; exact kO.key i y hy
 obtain⟨rd,uN⟩:=zO.sb;exact⟨rd,ry (r:=(_,⟨5,sd,0,0,0,dA n,[]⟩,0)) uN (zt (e:=⟨5,sd,0,0,0,dA n,[]⟩) RI.af)⟩
theorem c109(b:Bk)(hf:bE b=true)(s:St)(hs:cw 1000000000 s)(hm:bt (ej b).1 b s true=true)(h67:PC 67 [eY b] (.agg [iv (ej b).1,iv (ej b).2]))(id sd n:Int)(h0:sd=0∨sd=1):PC 109 [eY b,eC s,iv id,iv sd,iv n] (lC (cz b s id sd n)):=by
 refine Zy hP rS rfl ?_;unfold g109;refine Ze (v:=.an 0 0) (rd:=[]) (up:=[(0,.box (ed b))]) rfl rfl ?_;refine Ze (v:=.an 1 0) (rd:=[]) (up:=[(1,.box (bX s))]) rfl rfl ?_;refine Ze (v:=.an 2 0) (rd:=[]) (up:=[(2,.box bo)]) rfl rfl ?_;refine Ze (v:=.an 3 0) (rd:=[]) (up:=[(3,.box dp)]) rfl rfl ?_;refine Za (v:=eY b) (rd:=[0]) rfl (Za (v:=eC s) (rd:=[1]) rfl (Qc (c141 b hf s hs hm h67 id sd n h0) rfl rZ.plain rfl (Za rfl (Za rfl (Za rfl ?_)))));exact Hs rfl rfl rfl rfl rfl rfl rfl rfl (λτ' _=>⟨[],aS.ro rfl⟩)
end Go.Ah.Tz
end
section
namespace Go.Ah.Tz
open Go.Proofs.Tryz (prog)
theorem G5:∀ {a b:List Nat},(∀x∈a,x∉b)→fR a b=true
 |[],_,_=>rfl
 |x::a,b,h=>by
  have h1:b.contains x=false:=by
   cases hc:b.contains x with
   |false=>rfl
   |true=>exact absurd (by simpa using hc) (h x List.mem_cons_self)
  simp only[fR,h1,Bool.not_false,Bool.true_and];exact G5 λy hy=>h y (List.mem_cons_of_mem _ hy)
theorem VI(rd:List Nat):(iI rd).map (·.1)=rd:=by simp[iI,Function.comp_def]
structure RY (b:Bk) (s:St) (l:List Ev) (v:aa) (τ:List ab):Prop where
 ln:15≤τ.length
 k0:ah τ 0=.box (ed b)
 k1:ah τ 1=.box (bX s)
 k2:ah τ 2=.box bo
 row:y7 1 τ l v
theorem RY.mono{b:Bk}{s:St}{l:List Ev}{v:aa}{τ τ':List ab}(h:RY b s l v τ){e:List Nat}(he:∀c∈e,3≤c∧c<15)(hA:jm τ τ' e):RY b s l v τ':=by
 have hn:∀c,(c<3∨15≤c)→c∉e:=λc hc hm=>by have:=he c hm; omega
 refine⟨Nat.le_trans h.ln hA.1,hA.get h.k0 (by simp) (hn _ (by omega)),hA.get h.k1 (by simp) (hn _ (by omega)),hA.get h.k2 (by simp) (hn _ (by omega)),?_⟩;rcases h.row with h1|⟨Q,h1,h2,h3,h4⟩
 ·exact .inl h1
 ·exact .inr ⟨Q,h1,h2,h3,hA.get h4 (by simp) (hn _ (by omega))⟩
attribute [local irreducible] al.rd al.pu al.wr al.dr al.gr al.gw al.gl al.gd al.opt au W
set_option maxHeartbeats 8000000
theorem Oy{b:Bk}{s:St}{l:List Ev}{v:aa}{τ:List ab}(h:RY b s l v τ)(hl:l.length≤1000000)(e:Ev){K:aa→List ab→Prop}(hK:∀v' τ',RY b s (l++[e]) v' τ'→(∀c y,ah τ c=y→y≠.dead→(∀rs,y≠.rows 7 rs)→ah τ' c=y)→K v' τ') :
  VV.wr (Xi 7 1 dp [(0,7)] [.agg (eL e)] τ) τ λt σ=>VV.wr (Qj 7 72 [v,t] σ) σ K:=by
 have yG:Qw [eL e]=true:=by unfold eL; split<;>rfl
 have eJ:=h.ln;refine Ze (vD 7 τ (.agg (eL e)) dp (eL e) (by unfold eL; split<;>rfl) (by unfold eL; split<;>rfl)) (Yq _ _) ?_;have eu:=Zi τ (.rows 7 [eL e]);have hlen:(l++[e]).length=l.length+1:=by simp
 rcases h.row with ⟨rfl,rfl⟩|⟨Q,r1,r2,rfl,r4⟩
 ·refine Ze (Y1 7 72 eu rfl yG (by simp)) (Yq _ _) ?_;have ho:∀c y,ah τ c=y→y≠.dead→ah (τ++[ab.rows 7 [eL e]]++[ab.rows 7 [eL e]]) c=y:=λc y h1 h2=>Zg _ (Zg _ h1 h2) h2;refine hK _ _ ⟨by simp; omega,ho _ _ h.k0 (by simp),ho _ _ h.k1 (by simp),ho _ _ h.k2 (by simp),.inr ⟨_,?_,by simp,rfl,Zi _ _⟩⟩ (λc y h1 h2 _=>ho c y h1 h2);simp; omega
 ·have Ff:=Qh r4 (by simp);refine Ze (QT 7 72 (Zg _ r4 (by simp)) eu (by simp) rfl yG (by omega)) (QY _ _ (by simp; omega)) ?_;have ho:∀c y,ah τ c=y→y≠.dead→(∀rs,y≠.rows 7 rs)→ah ((τ++[ab.rows 7 [eL e]]).set Q .dead++[ab.rows 7 (l.map eL++[eL e])]) c=y:=λc y h1 h2 h3=>Zg _ (Zj (Zg _ h1 h2) h2 (λq=>h3 (l.map eL) (by rw[←h1,←q,r4]))) h2;refine hK _ _ ⟨by simp; omega,ho _ _ h.k0 (by simp) (by simp),ho _ _ h.k1 (by simp) (by simp),ho _ _ h.k2 (by simp) (by simp),.inr ⟨_,?_,by simp,by rw[hlen],?_⟩⟩ ho
  ·simp; omega
  ·have:=Zi ((τ++[ab.rows 7 [eL e]]).set Q .dead) (.rows 7 (l.map eL++[eL e]));simpa using this
theorem Pz(b:Bk)(hf:bE b=true)(he:(ej b).1=0)(h67:PC 67 [eY b] (.agg [iv (ej b).1,iv (ej b).2])){s:St}(oW:s.mover=0∨s.mover=1){X Y:List Int}(hXY:X.length=Y.length)(KD:X.length≤1000){pX pY:Nat}{ex ey:Bool}{t0:St}{l0:List Ev}{rest:List FS}{v:aa}{τ:List ab}(h:RY b s l0 v τ)(hT:TB 3 s t0 τ)(hM:eo b t0)(hl:l0.length≤100000)
 (yD:ah τ pX=.rows 1 (X.map bL))(yE:ah τ pY=.rows 1 (Y.map bL))(WR:15≤pX)(WT:15≤pY){K:aa→List ab→Prop}
 (hK:∀t l v' τ',di b s.mover (List.zipWith FS.aK X Y++rest) t0 l0=di b s.mover rest t l→eo b t→RY b s l v' τ'→TB 3 s t τ'→l.length≤l0.length+X.length→K v' τ') :
  VV.loop (λJ3 v53 σ=>
  VV.rd (Yf [.sl pX 0 X.length ex] σ) λB0=>
  VV.rd (Yj .lss false [(Go.Ah.h0 v53),B0] σ) λB4=>
  VV.test B4 (
  VV.dr (Zd true 2 [.an 0 0] σ) σ λCa l57 σ=>
  VV.dr (Zd true 23 [.an 14 0] σ) σ λCb l59 σ=>
  VV.dr (Yb 1 [.sl pX 0 X.length ex,(Go.Ah.h0 v53)] σ) σ λCi l61 σ=>
  VV.dr (Zd false 1 [Ci] σ) σ λCm l63 σ=>
  VV.pu (Ya 1 [.an 1 0] σ) λCr=>
  VV.dr (Zd false 1 [Cr] σ) σ λCv l66 σ=>
  VV.pu (Yj .sub false [(.int .i64 1),Cv] σ) λCz=>
  VV.dr (Yb 1 [.sl pY 0 Y.length ey,(Go.Ah.h0 v53)] σ) σ λCI l69 σ=>
  VV.dr (Zd false 1 [CI] σ) σ λCL l71 σ=>
  VV.aE (.call 109) [Ca,Cb,Cm,Cz,CL] σ λnu l73 σ=>
  VV.pu (Xc 0 [nu] σ) λCS=>
  VV.pu (Xc 1 [nu] σ) λxq=>
  VV.pu (Xc 2 [nu] σ) λsv=>
  VV.dr (Xe bo [] σ) σ λvf l78 σ=>
  VV.dr (Xe dp [] σ) σ λvg l80 σ=>
  VV.dr (Xb 23 [vf,CS] σ) σ λ_ l81 σ=>
  VV.dr (Xb 7 [vg,xq] σ) σ λ_ l82 σ=>
  VV.gd (Zh [[],[],[],[],[2,3],[2,3,4],[],[6],[6,7],[],[],[9,10],[9,10,11],[0,1,2,3,4,5,6,7,8,9,10,11,12],[0,1,2,3,4,5,6,7,8,9,10,11,12,13],[0,1,2,3,4,5,6,7,8,9,10,11,12,13,14],[0,1,2,3,4,5,6,7,8,9,10,11,12,13,14],[0,1,2,3,4,5,6,7,8,9,10,11,12,13,14],[],[],[0,1,2,3,4,5,6,7,8,9,10,11,12,13,14,15,18,19],[0,1,2,3,4,5,6,7,8,9,10,11,12,13,14,15,16,18,19,20],[0,1,2,3,4,5,6,7,8,9,10,11,12,13,14,15,16,17,18,19,20,21]] [l57,l59,([],[]),([],[]),l61,l63,([],[]),l66,([],[]),([],[]),([],[]),l69,l71,l73,([],[]),([],[]),([],[]),([],[]),l78,l80,l81,l82,([],[])]) <|
  VV.rd (Yj .neq false [sv,(.int .i64 0)] σ) λxv=>
  VV.test xv (
  VV.rd (Qe bo [] [] σ) λxx=>
  VV.wr (Xb 23 [.an 2 0,xx] σ) σ λ_ σ=>
  VV.opt (av true 23 (.an 2 0) σ) λr85=>
  (λv' σ=>∃rd,aS (Go.Ah.hp σ) rd v' (Z7 (QM (di b s.mover (List.zipWith FS.aK X Y++rest) t0 l0)))) (.aG [r85,.af,sv]) σ) (
  VV.rd (Zd true 23 [vf] σ) λxA=>
  VV.wr (Xb 23 [.an 14 0,xA] σ) σ λ_ σ=>
  VV.rd (Zd true 7 [vg] σ) λxD=>
  VV.wr (Xi 7 1 dp [(0,7)] [xD] σ) σ λxF σ=>
  VV.wr (Qj 7 72 [(Go.Ah.h1 v53),xF] σ) σ λxH σ=>
  VV.rd (Yj .add false [(Go.Ah.h0 v53),(.int .i64 1)] σ) λB9=>
  J3 [B9,xH] σ)) (K (Go.Ah.h1 v53) σ)) [(.int .i64 0),v] τ:=by
 refine Zl (ι:=Nat) (λk vs τ=>∃t l v,vs=[iv k,v]∧k≤X.length∧RY b s l v τ∧TB 3 s t τ∧eo b t∧l.length≤l0.length+k∧ah τ pX=.rows 1 (X.map bL)∧ah τ pY=.rows 1 (Y.map bL)∧di b s.mover (List.zipWith FS.aK X Y++rest) t0 l0=di b s.mover (List.zipWith FS.aK (X.drop k) (Y.drop k)++rest) t l) (λk=>X.length-k) 0 ⟨t0,l0,v,rfl,by omega,h,hT,hM,by omega,yD,yE,rfl⟩ ?_;clear h hT hM yD yE;rintro k vs τ again ⟨t,l,v,rfl,hk,hR,hT,hM,Ri,yD,yE,gv⟩ aM;refine Za (v:=iv X.length) (rd:=[]) rfl (Za (Qv ..) (Zc (λh=>?_) (λh=>?_)));rotate_left
 ·have h:k=X.length:=by simp at h; omega
  subst h;rw[List.drop_length,List.zipWith_nil_left,List.nil_append] at gv;exact hK t l v τ gv hM hR hT Ri
 have h:k<X.length:=by simpa using h
 have hY:k<Y.length:=by omega
 rw[eD h,eD hY,List.zipWith_cons_cons,List.cons_append] at gv;have P6:(X.map bL)[k]?=some (bL X[k]):=by simp[h]
 have P7:(Y.map bL)[k]?=some (bL Y[k]):=by simp[hY]
 generalize X[k]=id at gv P6;generalize Y[k]=n at gv P7;have iX:∀σ,ah σ pX=.rows 1 (X.map bL)→Yb 1 [.sl pX 0 X.length ex,iv k] σ=.ok (.ptr pX k 0) [pX] []:=λσ hσ=>by
  have:=vK σ pX 0 X.length ex 1 (X.map bL) .i64 k h hσ
  rwa [Nat.zero_add] at this
 have iY:∀σ,ah σ pY=.rows 1 (Y.map bL)→Yb 1 [.sl pY 0 Y.length ey,iv k] σ=.ok (.ptr pY k 0) [pY] []:=λσ hσ=>by
  have:=vK σ pY 0 Y.length ey 1 (Y.map bL) .i64 k hY hσ
  rwa [Nat.zero_add] at this
 obtain⟨cs,rd,b1,b2,b3,b4,b5,b6⟩:=hT.sb;have h0:1-s.mover=0∨1-s.mover=1:=by omega
 have K4:bt (ej b).1 b t true=true:=zb.2 ⟨he,hM⟩;refine Yk (ld hR.k0 rfl) (Yl _) (Yk (ld b1 b3) (Yl _) (Yk (iX _ yD) (Yl _) (Yk (xj yD P6 rfl) (Yl _) (Zk rfl (Yk (v:=iv s.mover) (ld hR.k1 rfl) (Yl _) (Zk (sG ..) (Yk (iY _ yE) (Yl _) (Yk (xj yE P7 rfl) (Yl _) ?_))))))));rw[aY (n:=1-s.mover) (by omega) (by omega)];refine Ul (rd:=rd) (c109 b hf t (hM.le.mono (by decide)) K4 h67 id (1-s.mover) n h0) rfl rS.plain (.cons (aS.ro rfl) <| .cons b4.agg <| .cons (aS.ro rfl) <| .cons (aS.ro rfl) <| .cons (aS.ro rfl) .nil) b6 ?_;have na:=Jx hM h0 (id:=id) (n:=n);have E4:di b s.mover (.aK id n::(List.zipWith FS.aK (X.drop (k+1)) (Y.drop (k+1))++rest)) t l=if (cz b t id (1-s.mover) n).2.2=0 then di b s.mover (List.zipWith FS.aK (X.drop (k+1)) (Y.drop (k+1))++rest) (cz b t id (1-s.mover) n).1 (l++[(cz b t id (1-s.mover) n).2.1]) else (h_,[],(cz b t id (1-s.mover) n).2.2):=rfl
 rw[E4] at gv;clear E4;have Fe:=Og (b:=b) (t:=t) (id:=id) (k:=1-s.mover) (n:=n);generalize cz b t id (1-s.mover) n=r at na gv Fe;obtain⟨t',ev,e⟩:=r;have ti:=JL rd τ;have hlX:=Qh yD (by simp);have hlY:=Qh yE (by simp);have zI:=hR.mono (λc hc=>⟨(b5 c hc).1,by have:=(b5 c hc).2; omega⟩) ti;have c1:=ti.get b1 (by simp) (λhc=>by have:=b5 _ hc; omega);have qX:=ti.get yD (by simp) (λhc=>by have:=b5 _ hc; omega);have qY:=ti.get yE (by simp) (λhc=>by have:=b5 _ hc; omega);have cO:∀x,15≤x→fR rd [x]=true:=λx hx=>G5 λc hc=>by have:=b5 c hc; simp; omega
 have W6:∀x,15≤x→fR [x] rd=true:=λx hx=>G5 λc hc=>by simp at hc; subst hc; intro h; have:=b5 _ h; omega
 clear ti b4 b5 b6 hT yD yE hM;have Rj:pX<(gM τ rd).length:=by rw[Jq]; exact hlX
 have Rk:pY<(gM τ rd).length:=by rw[Jq]; exact hlY
 generalize gM τ rd=τ0 at zI c1 qX qY Rj Rk ⊢;have eJ:=zI.ln;refine Zk rfl (Zk rfl (Zk rfl ?_));refine Yk (v:=.an τ0.length 0) (rd:=[]) (up:=[(τ0.length,.box bo)]) rfl (Yq _ _) ?_;refine Yk (v:=.an (τ0++[ab.box bo]).length 0) (rd:=[]) (up:=[((τ0++[ab.box bo]).length,.box dp)]) rfl (Yq _ _) ?_;have n7:=Zg [ab.box dp] (Zi τ0 (.box bo)) (by simp);have n8:=Zi (τ0++[ab.box bo]) (.box dp);refine Yk (iy (row':=bX t') n7 rfl rfl rfl) (Xn _ (Qh n7 (by simp))) ?_;have yP:=Zj (c:=τ0.length) (x:=.box (bX t')) n8 (by simp) (by simp);refine Yk (iy (row':=sK ev) yP rfl rfl rfl) (Xn _ (Qh yP (by simp))) (XJ ?_ ?_)
 ·have e8:(τ0++[ab.box bo]).length=τ0.length+1:=by simp
  rw[e8,VI];have a1:=cO τ0.length (by omega);have a2:=cO (τ0.length+1) (by omega);have a0:fR rd []=true:=G5 λc _=>by simp
  have a5:τ0≠[]:=by rintro rfl; simp at eJ
  simp only[List.map_cons,List.map_nil];simp[Zh,List.range,List.range.loop,QC,X2,QB,fF,a1,a2];simp[fR,a0,a5];omega
 have m8:=Xj (.box (sK ev)) (Qh yP (by simp));have m7:=Zj (c:=(τ0 ++ [ab.box bo]).length) (x:=.box (sK ev)) (Xj (.box (bX t')) (Qh n7 (by simp))) (by simp) (by simp);have hA:jm τ0 (((τ0 ++ [ab.box bo] ++ [ab.box dp]).set τ0.length (.box (bX t'))).set (τ0 ++ [ab.box bo]).length (.box (sK ev))) []:=⟨by simp; try omega,λc hc _=>by
  rw[Yi _ (by simp; omega) (by simp; omega),Yi _ (by simp; omega) (by omega),Yp _ (by simp; omega),Yp _ hc]⟩
 have K8:16≤(τ0++[ab.box bo]).length:=by simp; omega
 generalize ((τ0++[ab.box bo]++[ab.box dp]).set τ0.length (.box (bX t'))).set (τ0++[ab.box bo]).length (.box (sK ev))=τ1 at m8 m7 hA ⊢;generalize (τ0++[ab.box bo]).length=p8 at m8 K8 ⊢;clear n7 n8 yP cO W6 Rj Rk;generalize τ0.length=p7 at m7 eJ ⊢;have tj:=zI.mono (by simp) hA;have d1:=hA.get c1 (by simp) (by simp);have rX:=hA.get qX (by simp) (by simp);have rY:=hA.get qY (by simp) (by simp);refine Za (XN ..) (Zc (λhz=>?_) (λhz=>?_))
 ·have hz:e≠0:=by simpa using hz
  refine Za rfl (Ze (iy (row':=bo) tj.k2 rfl rfl rfl) (Xn _ (Qh tj.k2 (by simp))) (Ql (Z1 (Xj _ (Qh tj.k2 (by simp))) rfl) ?_));rw[gv,if_neg hz,QM,if_neg hz];exact XL e
 have hz:e=0:=by simpa using hz
 subst hz;rw[if_pos rfl] at gv;refine Za (ld m7 rfl) (Ze (iy (row':=bX t') d1 rfl rfl (ZI _ _ (by rw[b2]; rfl))) (Xn _ (Qh d1 (by simp))) ?_);have yu:=jm.set τ1 (3+11) (.box (bX t'));have vu:=tj.mono (λc hc=>by simp at hc; omega) yu;refine Za (ld (yu.get m8 (by simp) (by simp; omega)) rfl) ?_;have yw:ah (τ1.set (3+11) (.box (bX t'))) 14=.box (bX t'):=Xj _ (Qh d1 (by simp));have rX2:=yu.get rX (by simp) (by simp; omega);have rY2:=yu.get rY (by simp) (by simp; omega);rw[show [ar ev.kind,iv ev.side,iv ev.card,iv ev.id,iv ev.other,iv ev.n,bd ev.ai]=eL ev from Fe rfl];refine Oy vu (by omega) ev (λv' τ' h2 oV=>Za (Xk ..) ?_);rw[Zf (n:=k) (by omega)];exact aM (k+1) _ _ (by omega) ⟨t',_,v',rfl,by omega,h2,.inr (oV 14 _ yw (by simp) (by simp)),(na rfl).1,by simp; omega,oV _ _ rX2 (by simp) (by simp),oV _ _ rY2 (by simp) (by simp),gv⟩
end Go.Ah.Tz
end
section
namespace Go.Ah.Tz
open Go.Proofs.Tryz (prog)
theorem IA{a:Int}{p:Int×Int}:∀ {l:List (Int×Int)},XD l a=some p→p∈l∧p.1=a
 |[],h=>by cases h
 |q::l,h=>by
  unfold XD at h;split at h
  ·cases h; rename_i h2; exact⟨List.mem_cons_self,h2⟩
  ·exact⟨List.mem_cons_of_mem _ (IA h).1,(IA h).2⟩
theorem TW{b:Bk}{s:St}(hM:eo b s){id:Int}(h:(aH s id).2.2=true):1≤id:=by
 obtain⟨k,u,_,h2,rfl,h4⟩:=GO h;have hm:=List.mem_of_getElem? h2;have:=hM.un.1 u (by
  rcases h4 with h4|h4<;>rw[h4] at hm
  ·exact List.mem_append_left _ hm
  ·exact List.mem_append_right _ hm)
 simp only[Qt,Bool.and_eq_true,decide_eq_true_eq] at this;exact this.2.2.2.2.2.1
theorem V3{b:Bk}{s:St}(hM:eo b s){l:List (Int×Int)}(h:Qu s l=true){a:Int}{p:Int×Int}(hp:XD l a=some p):1≤p.2:=by
 have hm:=(IA hp).1;simp only[Qu,Bool.and_eq_true] at h;have:=List.all_eq_true.1 h.1 p hm;simp only[XO,Bool.and_eq_true] at this;exact TW hM this.1.1
theorem TB.FM{n:Nat}{s t:St}{τ τ':List ab}(h:TB n s t τ)(k:∀c y,ah τ c=y→y≠.dead→(∀rs,y≠.rows 7 rs)→ah τ' c=y):TB n s t τ':=by
 rcases h with ⟨h1,h2⟩|h1
 ·refine .inl ⟨h1,k _ _ h2.box (by simp) (by simp),λi x hx=>?_⟩;have hi:i<11:=(cJ hx).1;have hk:=h2.key i x hx
  match i,hi with
  |0,_|1,_|2,_|3,_|4,_|5,_|6,_|7,_|8,_|9,_|10,_=>cases hx; exact k _ _ hk (by simp) (by simp)
 ·exact .inr (k _ _ h1 (by simp) (by simp))
attribute [local irreducible] al.rd al.pu al.wr al.dr al.gr al.gw al.gl al.gd al.opt au W
set_option maxHeartbeats 8000000
theorem T2(b:Bk){s t:St}{l:List Ev}{ev:aa}{τ:List ab}(hR:RY b s l ev τ)(hT:TB 3 s t τ) :
  VV.rd (Ya 5 [.an 14 0] τ) λxJ=>
  VV.wr (Xb 1 [xJ,.af] τ) τ λ_ σ=>
  VV.rd (Ya 2 [.an 14 0] σ) λxK=>
  VV.wr (Xb 1 [xK,(.int .i8 0)] σ) σ λ_ σ=>
  VV.rd (Zd true 23 [.an 14 0] σ) λpo=>
  VV.wr (Xb 23 [.an 2 0,po] σ) σ λ_ σ=>
  VV.opt (av true 23 (.an 2 0) σ) λr95=>
  (λv' σ=>∃rd,aS (Go.Ah.hp σ) rd v' (Z7 ({ t with ak:=[],phase:=0 },l,0))) (.aG [r95,ev,(.int .i64 0)]) σ:=by
 have eJ:=hR.ln;have key:∀pL ir:List aa,ir.length=23→cellsOf (.agg ir)=some ir→aF true 0 23 ir=some (.agg ir)→(∀τ',jm τ τ' [2,14]→∃rd,SB τ' rd ir { t with ak:=[],phase:=0 }) →
  VV.rd (Zd true 23 [.an 14 0] ((τ.set 14 (.box pL)).set 14 (.box ir))) λpo=>
  VV.wr (Xb 23 [.an 2 0,po] ((τ.set 14 (.box pL)).set 14 (.box ir))) ((τ.set 14 (.box pL)).set 14 (.box ir)) λ_ σ=>
  VV.opt (av true 23 (.an 2 0) σ) λr95=>
  (λv' σ=>∃rd,aS (Go.Ah.hp σ) rd v' (Z7 ({ t with ak:=[],phase:=0 },l,0))) (.aG [r95,ev,(.int .i64 0)]) σ:=by
  intro pL ir hlen hc hp uN;have h2:ah ((τ.set 14 (.box pL)).set 14 (.box ir)) 2=.box bo:=Zj (Zj hR.k2 (by simp) (by omega)) (by simp) (by omega);have dM:ah ((τ.set 14 (.box pL)).set 14 (.box ir)) 14=.box ir:=Xj _ (by simp; omega);have hA:jm τ (((τ.set 14 (.box pL)).set 14 (.box ir)).set 2 (.box ir)) [2,14]:=⟨by simp,λc hc hn=>by
   simp only[List.mem_cons,List.not_mem_nil,or_false,not_or] at hn;rw[Yi _ (by simp; omega) hn.1,Yi _ (by simp; omega) hn.2,Yi _ hc hn.2]⟩
  generalize (τ.set 14 (.box pL)).set 14 (.box ir)=σ at h2 dM hA ⊢;refine Za (ld dM hp) (Ze (iy (row':=ir) h2 hc (by rw[hlen]; rfl) (ZI _ _ (by rw[hlen]; rfl))) (Xn _ (Qh h2 (by simp))) ?_);refine Ql (Z1 (Xj _ (Qh h2 (by simp))) hp) ?_;obtain⟨rd,uN⟩:=uN _ hA;have cI:y7 1 (σ.set 2 (.box ir)) l ev:=by
   rcases hR.row with h1|⟨Q,h1,h2,h3,h4⟩
   ·exact .inl h1
   ·exact .inr ⟨Q,h1,h2,h3,hA.get h4 (by simp) (by simp; omega)⟩
  obtain⟨Dp,_,hE⟩:=cI.PB;exact⟨rd++Dp,aS.aG (.cons (aS.more uN.agg (by simp +contextual)) <| .cons (aS.more hE (by simp +contextual)) <| .cons (aS.ro rfl) .nil)⟩
 rcases hT with ⟨rfl,mq⟩|hT
 ·have hb:=mq.box;refine Za rfl (Ze (iy (row':=qH t t 3) hb rfl rfl rfl) (Xn _ (Qh hb (by simp))) ?_);have ny:=Xj (.box (qH t t 3)) (Qh hb (by simp));refine Za rfl (Ze (iy (row':=qH { t with ak:=[],phase:=0 } t 3) ny rfl rfl rfl) (Xn _ (Qh ny (by simp))) ?_);refine key _ _ rfl rfl rfl (λτ' hA=>OY λi x hi hx=>?_);have hi:i<11:=(cJ hx).1;rw[hA.2 (3+i) (by omega) (by simp; omega)]; exact mq.key i x hx
 ·refine Za rfl (Ze (iy (row':=qI t t) hT rfl rfl rfl) (Xn _ (Qh hT (by simp))) ?_);have ny:=Xj (.box (qI t t)) (Qh hT (by simp));refine Za rfl (Ze (iy (row':=qI { t with ak:=[],phase:=0 } t) ny rfl rfl rfl) (Xn _ (Qh ny (by simp))) ?_);exact key _ _ rfl rfl rfl (λτ' hA=>⟨[],Mq t⟩)
theorem c49(b:Bk)(hf:bE b=true)(s:St)(hs:cw 1000000000 s)(l:List (Int×Int))(hl:l.length≤1000000000):PC 49 [eY b,eC s,qu l] (Z7 (bO b s l)):=by
 have h67:=c67 b hf;refine Zy hP qK rfl ?_;unfold g49;refine Ze (v:=.an 0 0) (rd:=[]) (up:=[(0,.box (ed b))]) rfl rfl ?_;refine Ze (v:=.an 1 0) (rd:=[]) (up:=[(1,.box (bX s))]) rfl rfl ?_;refine Ze (v:=.an 2 0) (rd:=[]) (up:=[(2,.box bo)]) rfl rfl ?_;refine Za rfl (Za rfl (Qc (c16 b s hs _ _ h67) rfl uc.plain rfl (Za (XN ..) ?_)));rcases aL (bt (ej b).1 b s false) with hm|hm
 rotate_left
 ·rw[bO,if_neg (by rw[hm]; simp),hm];exact Ye (Za rfl (Ze rfl rfl (Ql rfl (XL 170))))
 rw[bO,if_pos hm,hm];have uI:=Is hm;obtain⟨he,hM⟩:=zb.1 uI;have KE:s.ak.length≤7:=by
  by_cases hp:s.phase=1
  ·exact(hM.at_.2 hp).2.1
  ·rw[hM.at_.1 hp]; simp
 refine Xh (Za rfl (Za rfl (Za (XN ..) ?_)));refine ME (v1:=eC s) (v2:=qu l) (u0:=.bool (Qu s l)) (λ_=>rfl) (λ_=>rfl) (λ_ k hk=>Qc (c106 s hs l hl) rfl rQ.plain rfl hk) (λ_=>rfl) (Zc (λh=>?_) (λh=>?_))
 ·rw[if_pos h];exact Za rfl (Ze rfl rfl (Ql rfl (XL 2)))
 rw[if_neg (by rw[h]; simp)];have Fv:Qu s l=true:=by simp only[Bool.or_eq_false_iff,Bool.not_eq_false'] at h; exact h.2
 clear h;have oW:s.mover=0∨s.mover=1:=by have:=hM.hd; unfold GK at this; omega
 refine Za rfl (Mx hs (n:=3) rfl (λτ hlen pP mq=>?_));have x0:ah τ 0=.box (ed b):=pP 0 _ rfl;have x1:ah τ 1=.box (bX s):=pP 1 _ rfl;have x2:ah τ 2=.box bo:=pP 2 _ rfl;have hlen:τ.length=15:=hlen;clear pP;refine Zl (ι:=Nat) (λi vs τ=>∃t es v,vs=[iv i,v]∧i≤s.ak.length∧RY b s es v τ∧TB 3 s t τ∧eo b t∧es.length≤3*i∧di b s.mover (cY b s l s.ak) s []=di b s.mover (cY b s l (s.ak.drop i)) t es) (λi=>s.ak.length-i) 0 ⟨s,[],.af,rfl,by omega,⟨by omega,x0,x1,x2,.inl ⟨rfl,rfl⟩⟩,.inl ⟨rfl,mq⟩,hM,by simp,rfl⟩ ?_;clear x0 x1 x2 hlen mq;rintro i vs τ again ⟨t,es,v,rfl,hi,hR,hT,PT,hel,gv⟩ aM;refine Za rfl (Za (v:=bd s.ak) (ld hR.k1 rfl) (Za (v:=iv s.ak.length) (rd:=[]) (by simp[Yh]) (Za (Qv ..) (Zc (λh=>?_) (λh=>?_)))));rotate_left
 ·have h:i=s.ak.length:=by simp at h; omega
  subst h;rw[List.drop_length,cY,di] at gv;rw[gv,QM,if_pos rfl];exact T2 b hR hT
 have h:i<s.ak.length:=by simpa using h
 have bW:=λ(t:List ab)=>Zp t bL false false 1 s.ak .i64 i h;rw[eD h,cY] at gv;generalize s.ak[i]=a at bW gv;have yC:∀t nN v' τ',di b s.mover (cY b s l s.ak) s []=di b s.mover (cY b s l (s.ak.drop (i+1))) t nN→eo b t→RY b s nN v' τ'→TB 3 s t τ'→nN.length≤3*i+3→again [iv (i+1),v'] τ':=λt nN v' τ' q1 q2 q3 q4 q5=>aM (i+1) _ _ (by omega) ⟨t,nN,v',rfl,by omega,q3,q4,q2,by omega,q1⟩;refine Za rfl (Za (v:=bd s.ak) (ld hR.k1 rfl) (Za (bW _) (Za (v:=iv a) (rd:=[]) (aj rfl) (Qc (c107 l hl a) rfl rR.plain rfl ?_))));refine Ze (vD 1 τ (iv 0) [iv 0] [iv 0] rfl rfl) (Yq _ _) ?_;have Ae:=Zi τ (ab.rows 1 [[iv 0]]);have tj:=hR.mono (by simp) (jm.app τ [.rows 1 [[iv 0]]]);have KB:=hT.sX (τ':=τ++[.rows 1 [[iv 0]]]) (λc hc=>Yp _ (by have:=hR.ln; omega));have ny:15≤τ.length:=hR.ln;clear hR hT;generalize τ++[ab.rows 1 [[iv 0]]]=τ1 at Ae tj KB ⊢;generalize τ.length=p1 at Ae ny ⊢;refine Za (ld tj.k0 rfl) (Za (ld tj.k1 rfl) (Qc (c108 b hf s hs uI a h67) rfl n_.plain rfl ?_));refine Ze (vD 1 τ1 (iv (bT b s a)) [iv 0] [iv (bT b s a)] rfl rfl) (Yq _ _) ?_;have Ag:=Zi τ1 (ab.rows 1 [[iv (bT b s a)]]);have Af:=Zg [ab.rows 1 [[iv (bT b s a)]]] Ae (by simp);have vu:=tj.mono (by simp) (jm.app τ1 [.rows 1 [[iv (bT b s a)]]]);have yw:=KB.sX (τ':=τ1++[.rows 1 [[iv (bT b s a)]]]) (λc hc=>Yp _ (by have:=tj.ln; omega));have kG:15≤τ1.length:=tj.ln;clear tj KB Ae;generalize τ1++[ab.rows 1 [[iv (bT b s a)]]]=τ2 at Ag Af vu yw ⊢;generalize τ1.length=p2 at Ag kG ⊢;refine Za (ZZ ..) (Qk λk39 E'=>?_);cases xh:XD l a with
 |none=>
  have e:lr b s l a=List.zipWith FS.aK [0] [bT b s a]:=by simp[lr,xh]
  rw[e] at gv;refine Xh ?_;rw[E',gv];refine Pz b hf he h67 oW (X:=[0]) (Y:=[bT b s a]) rfl (by simp) vu yw PT (by omega) Af Ag ny kG (K:=λv σ=>VV.rd (Yj .add false [iv i,.int .i64 1] σ) λrD=>again [rD,v] σ) (λt' l' v' τ' q1 q2 q3 q4 q5=>Za (Xk ..) ?_);rw[Zf (n:=i) (by omega)];exact yC t' l' v' τ' (gv.trans q1) q2 q3 q4 (by simp at q5; omega)
 |some p=>
  have hpp:=V3 hM Fv xh;have e:lr b s l a=.block a p.2::List.zipWith FS.aK [p.2,a] [bT b s a,bT b s p.2]:=by simp[lr,xh]
  rw[e,List.cons_append,di] at gv;have hd:decide ((((some p).map (·.2)).getD 0)>0)=true:=by simp; omega
  show VV.test (.bool (decide ((((some p).map (·.2)).getD 0) > 0))) _ _;rw[hd];refine Ye (Za rfl (Za (v:=iv s.mover) (ld vu.k1 rfl) (Za (v:=.agg (eL ⟨12,s.mover,0,a,p.2,0,[]⟩)) (rd:=[]) rfl ?_)));refine Oy vu (by omega) ⟨12,s.mover,0,a,p.2,0,[]⟩ (λv3 τ3 H0 ho=>?_);have PX:=yw.FM ho;have Ai:=ho p2 _ Ag (by simp) (by simp);clear Af ho vu yw Ag;refine Ze (v:=.sl τ3.length 0 2 true) (rd:=[]) (up:=[(τ3.length,.rows 1 [[iv p.2],[iv a]])]) rfl (Yq _ _) ?_;have Fw:=Zi τ3 (ab.rows 1 [[iv p.2],[iv a]]);have xg:=Zg [ab.rows 1 [[iv p.2],[iv a]]] Ai (by simp);have ur:=H0.mono (by simp) (jm.app τ3 [.rows 1 [[iv p.2],[iv a]]]);have KC:=PX.sX (τ':=τ3 ++ [.rows 1 [[iv p.2],[iv a]]]) (λc hc=>Yp _ (by have:=H0.ln; omega));have pP:15≤τ3.length:=H0.ln;have KG:p2 < τ3.length:=Qh Ai (by simp);clear H0 PX Ai;generalize τ3 ++ [ab.rows 1 [[iv p.2],[iv a]]]=τ4 at Fw xg ur KC ⊢;generalize τ3.length=px at Fw pP KG ⊢;refine Za (ld ur.k0 rfl) (Za (ld ur.k1 rfl) (Qc (c108 b hf s hs uI p.2 h67) rfl n_.plain rfl ?_));refine Ze (vD 1 τ4 (iv (bT b s p.2)) [iv 0] [iv (bT b s p.2)] rfl rfl) (Yq _ _) ?_;have eu:=Zi τ4 (ab.rows 1 [[iv (bT b s p.2)]]);have Aj:=Zg [ab.rows 1 [[iv (bT b s p.2)]]] xg (by simp);have Lb:=Zg [ab.rows 1 [[iv (bT b s p.2)]]] Fw (by simp);have bj:=Qh Aj (by simp);refine Ze (QT 1 8 Aj eu rfl rfl rfl (by simp)) (QY _ _ bj) ?_;have yv:jm τ4 ((τ4 ++ [ab.rows 1 [[iv (bT b s p.2)]]]).set p2 .dead ++ [ab.rows 1 ([[iv (bT b s a)]] ++ [[iv (bT b s p.2)]])]) [p2]:=⟨by simp; omega,λc hc hn=>by
   rw[Yp _ (by simp; omega),Yi _ (by simp; omega) (by simpa using hn),Yp _ hc]⟩
  have Ak:=Zi ((τ4++[ab.rows 1 [[iv (bT b s p.2)]]]).set p2 .dead) (ab.rows 1 ([[iv (bT b s a)]]++[[iv (bT b s p.2)]]));have Re:((τ4++[ab.rows 1 [[iv (bT b s p.2)]]]).set p2 .dead).length=(τ4++[ab.rows 1 [[iv (bT b s p.2)]]]).length:=by simp
  rw[Re] at Ak;have Fx:=yv.get Fw (by simp) (by simp; omega);have PV:RY b s (es++[⟨12,s.mover,0,a,p.2,0,[]⟩]) v3 ((τ4++[ab.rows 1 [[iv (bT b s p.2)]]]).set p2 .dead++[ab.rows 1 ([[iv (bT b s a)]]++[[iv (bT b s p.2)]])]):=by
   refine⟨Nat.le_trans ur.ln yv.1,yv.get ur.k0 (by simp) (by simp; omega),yv.get ur.k1 (by simp) (by simp; omega),yv.get ur.k2 (by simp) (by simp; omega),?_⟩;rcases ur.row with h1|⟨Q,h1,h2,h3,h4⟩
   ·exact .inl h1
   ·exact .inr ⟨Q,h1,h2,h3,yv.get h4 (by simp) (λhc=>by simp at hc; subst hc; rw[xg] at h4; cases h4)⟩
  have PY:=KC.sX (λc hc=>yv.2 c (by have:=ur.ln; omega) (by simp; omega));have sM:15≤(τ4++[ab.rows 1 [[iv (bT b s p.2)]]]).length:=by have:=ur.ln; simp; omega
  clear yv ur KC Fw xg eu Aj Lb bj Re;generalize (τ4++[ab.rows 1 [[iv (bT b s p.2)]]]).set p2 .dead++[ab.rows 1 ([[iv (bT b s a)]]++[[iv (bT b s p.2)]])]=τ6 at Ak Fx PV PY ⊢;generalize (τ4++[ab.rows 1 [[iv (bT b s p.2)]]]).length=py at Ak sM ⊢;rw[E',gv];refine Pz b hf he h67 oW (X:=[p.2,a]) (Y:=[bT b s a,bT b s p.2]) rfl (by simp) PV PY PT (by simp; omega) Fx Ak pP sM (K:=λv σ=>VV.rd (Yj .add false [iv i,.int .i64 1] σ) λrD=>again [rD,v] σ) (λt' l' v' τ' q1 q2 q3 q4 q5=>Za (Xk ..) ?_);rw[Zf (n:=i) (by omega)];exact yC t' l' v' τ' (gv.trans q1) q2 q3 q4 (by simp at q5; omega)
end Go.Ah.Tz
end
section
namespace Go.Ah.Tz
open Go.Proofs.Tryz (prog)
theorem JQ{b:Bk}{mv:Int}(oW:mv=0∨mv=1):∀(S:List FS) (t:St) (l:List Ev),eo b t→(di b mv S t l).2.2=0→eo b (di b mv S t l).1∧(di b mv S t l).2.1.length=l.length+S.length
 |[],t,l,hM,_=>⟨hM,rfl⟩
 |.block a d::S,t,l,hM,h=>by
  have:=JQ oW S t _ hM h;refine⟨this.1,this.2.trans ?_⟩;simp; omega
 |.aK id n::S,t,l,hM,h=>by
  unfold di at h ⊢;by_cases c:(cz b t id (1-mv) n).2.2=0
  ·rw[if_pos c] at h ⊢;have:=JQ oW S _ _ (Jx hM (by omega) c).1 h;refine⟨this.1,this.2.trans ?_⟩;simp; omega
  ·rw[if_neg c] at h; exact absurd h c
theorem R5(b:Bk)(t:St)(id k n:Int):(cz b t id k n).2.1.ai=[]:=by
 unfold cz im nD jT;split
 ·split<;>rfl
 ·split
  ·rfl
  ·cases ga t.s0.ae id with
   |some i=>simp only; split<;>rfl
   |none=>
    cases ga t.s1.ae id with
    |some i=>simp only; split<;>rfl
    |none=>rfl
theorem Iy{b:Bk}{mv:Int}:∀(S:List FS) (t:St) (l:List Ev),(∀e∈l,e.ai=[])→∀e∈(di b mv S t l).2.1,e.ai=[]
 |[],t,l,hl=>hl
 | .block a d :: S,t,l,hl=>Iy S t _ (by
   intro e he;rcases List.mem_append.1 he with h|h
   ·exact hl e h
   ·simp at h; subst h; rfl)
 |.aK id n::S,t,l,hl=>by
  unfold di;split
  ·refine Iy S _ _ (λe he=>?_);rcases List.mem_append.1 he with h|h
   ·exact hl e h
   ·simp at h; subst h; exact R5 _ _ _ _ _
  ·simp
theorem HC{b:Bk}{s:St}{l:List (Int×Int)}(h:(bO b s l).2.2=0):(ej b).1=0∧eo b s∧(s.mover=0∨s.mover=1)∧bt (ej b).1 b s false=true∧s.phase=1∧Qu s l=true∧(di b s.mover (cY b s l s.ak) s []).2.2=0 ∧
  bO b s l=({ (di b s.mover (cY b s l s.ak) s []).1 with ak:=[],phase:=0 },(di b s.mover (cY b s l s.ak) s []).2.1,0):=by
 unfold bO at h ⊢;by_cases h1:bt (ej b).1 b s false=true;rotate_left
 ·rw[if_neg h1] at h; cases h
 rw[if_pos h1] at h ⊢;by_cases h2:(decide (s.phase≠1) || !Qu s l)=true
 ·rw[if_pos h2] at h; cases h
 rw[if_neg h2] at h ⊢;obtain⟨he,hM⟩:=zb.1 (Is h1);have oW:s.mover=0∨s.mover=1:=by have:=hM.hd; unfold GK at this; omega
 have HX:s.phase=1∧Qu s l=true:=by simpa using h2
 unfold QM at h ⊢;by_cases h3:(di b s.mover (cY b s l s.ak) s []).2.2=0
 ·rw[if_pos h3]; exact⟨he,hM,oW,h1,HX.1,HX.2,h3,rfl⟩
 ·rw[if_neg h3] at h; exact absurd h h3
theorem NV{b:Bk}{s:St}{l:List (Int×Int)}(h:(bO b s l).2.2≠0):(bO b s l).1=h_∧(bO b s l).2.1=[]:=by
 unfold bO at h ⊢;split
 ·split
  ·exact⟨rfl,rfl⟩
  ·rename_i h1 h2;rw[if_pos h1,if_neg h2] at h;unfold QM at h ⊢;split
   ·rename_i h3; rw[if_pos h3] at h; exact absurd rfl h
   ·exact⟨rfl,rfl⟩
 ·exact⟨rfl,rfl⟩
theorem Sx:cw 1000000 h_:=⟨by simp[h_],⟨by simp[h_,tz],by simp[h_,tz],by simp[h_,tz],by simp[h_,tz],by simp[h_,tz]⟩,⟨by simp[h_,tz],by simp[h_,tz],by simp[h_,tz],by simp[h_,tz],by simp[h_,tz]⟩⟩
theorem Vb{b:Bk}{s:St}{l:List (Int×Int)}:cw 1000000 (bO b s l).1∧(bO b s l).2.1.length≤100:=by
 by_cases h:(bO b s l).2.2=0
 ·obtain⟨he,hM,oW,h1,h2,h3,h4,h5⟩:=HC h;rw[h5];obtain⟨k1,k2⟩:=JQ oW _ _ _ hM h4;have hle:=k1.le;refine⟨⟨by simp,hle.s0,hle.s1⟩,?_⟩;show (di b s.mover (cY b s l s.ak) s []).2.1.length≤100;have:=Iu b s l s.ak;have:=(hM.at_.2 h2).2.1;rw[k2]; simp; omega
 ·obtain⟨q1,q2⟩:=NV h;rw[q1,q2]; exact⟨Sx,by simp⟩
def xT(b:Bk)(s:St)(l:List (Int×Int)):aa:=if (bO b s l).2.2=0 then .aG [iv (IntKind.i64.wrap ((Yv s (1-s.mover)).aW-(Yv (bO b s l).1 (1-s.mover)).aW)),iv 0] else .aG [iv 0,iv (bO b s l).2.2]
attribute [local irreducible] al.rd al.pu al.wr al.dr al.gr al.gw al.gl al.gd al.opt au W
set_option maxHeartbeats 8000000
theorem G0{side:Int}(hs:side=0∨side=1)(k:Nat):(∀σ,Yg 2 8 [.an k (0+7),iv side] σ=.ok (.an k (yX side)) [] [])∧∀s,aF false (yX side+0) 1 (bX s)=some (iv (Yv s side).aW):=by
 rcases hs with rfl|rfl<;>exact⟨λ_=>rfl,λ_=>rfl⟩
theorem c50(b:Bk)(s:St)(l:List (Int×Int))(h48:PC 48 [eY b,eC s,qu l] (Z7 (bO b s l))):PC 50 [eY b,eC s,qu l] (xT b s l):=by
 refine Qd hP oN rfl (by unfold xT; split<;>rfl) ?_;unfold g50;refine Ze (v:=.an 0 0) (rd:=[]) (up:=[(0,.box (ed b))]) rfl rfl ?_;refine Ze (v:=.an 1 0) (rd:=[]) (up:=[(1,.box (bX s))]) rfl rfl ?_;refine Za (v:=eY b) (rd:=[0]) rfl (Za (v:=eC s) (rd:=[1]) rfl (Qc h48 rfl mV.plain rfl (Za rfl (Za rfl (Za rfl ?_)))));have de:=HC (b:=b) (s:=s) (l:=l);unfold xT;generalize bO b s l=r at de;refine Yt (row:=bX r.1) (row':=bX r.1) rfl rfl rfl (Za (XN ..) (Zc (λh=>?_) (λh=>?_)))
 ·have h:r.2.2≠0:=by simpa using h
  rw[if_neg h]
 have h:r.2.2=0:=by simpa using h
 rw[if_pos h];have oW:=(de h).2.2.1;obtain⟨j1,j2⟩:=G0 (side:=1-s.mover) (by omega) 1;obtain⟨j3,_⟩:=G0 (side:=1-s.mover) (by omega) 2;refine Za rfl (Za (v:=iv s.mover) (rd:=[1]) rfl (Za (sG ..) ?_));rw[aY (n:=1-s.mover) (by omega) (by omega)];exact Za rfl (Za (j1 _) (Za rfl (Za (ld (row:=bX s) rfl (j2 s)) (Za rfl (Za (j3 _) (Za rfl (Za (ld (row:=bX r.1) rfl (j2 r.1)) (Za (sG ..) rfl))))))))
theorem c51(b:Bk)(s:St)(l:List (Int×Int))(h49:PC 49 [eY b,eC s,qu l] (Z7 (bO b s l))):PC 51 [eY b,eC s,qu l] (xT b s l):=by
 refine Qd hP uh rfl (by unfold xT; split<;>rfl) ?_;unfold g51;refine Ze (v:=.an 0 0) (rd:=[]) (up:=[(0,.box (ed b))]) rfl rfl ?_;refine Ze (v:=.an 1 0) (rd:=[]) (up:=[(1,.box (bX s))]) rfl rfl ?_;refine Za (v:=eY b) (rd:=[0]) rfl (Za (v:=eC s) (rd:=[1]) rfl (Qc h49 rfl qK.plain rfl (Za rfl (Za rfl (Za rfl ?_)))));have de:=HC (b:=b) (s:=s) (l:=l);unfold xT;generalize bO b s l=r at de;refine Yt (row:=bX r.1) (row':=bX r.1) rfl rfl rfl (Za (XN ..) (Zc (λh=>?_) (λh=>?_)))
 ·have h:r.2.2≠0:=by simpa using h
  rw[if_neg h]
 have h:r.2.2=0:=by simpa using h
 rw[if_pos h];have oW:=(de h).2.2.1;obtain⟨j1,j2⟩:=G0 (side:=1-s.mover) (by omega) 1;obtain⟨j3,_⟩:=G0 (side:=1-s.mover) (by omega) 2;refine Za rfl (Za (v:=iv s.mover) (rd:=[1]) rfl (Za (sG ..) ?_));rw[aY (n:=1-s.mover) (by omega) (by omega)];refine Za rfl (Za (j1 _) (Za rfl (Za (ld (row:=bX s) rfl (j2 s)) (Za rfl (Za (v:=iv s.mover) (rd:=[1]) rfl (Za (sG ..) ?_))))));rw[aY (n:=1-s.mover) (by omega) (by omega)];exact Za rfl (Za (j3 _) (Za rfl (Za (ld (row:=bX r.1) rfl (j2 r.1)) (Za (sG ..) rfl))))
theorem J_(l:List Ev)(hl:l.length≤1000000000)(hc:∀e∈l,e.ai.length≤1000000000):PC 47 [.ax false false 7 (l.map eL),.ax false false 7 (l.map eL)] (.bool true):=by
 refine c47 (by simpa using hl) (λr hr=>?_);obtain⟨e,he,rfl⟩:=List.mem_map.1 hr;refine⟨by unfold eL; split<;>rfl,MI e,?_⟩;unfold eL;split
 ·have:=c99 e e (x:=.af) (y:=.af) rfl rfl rfl rfl (q:=true) (λσ k hk=>ZP (rd:=[]) (c62 [] [] (by simp)) rfl fe.plain (.cons (aS.jl (aS.ro rfl) (λM u d=>d.eU 1)) <| .cons (aS.jl (aS.ro rfl) (λM u d=>d.eU 1)) .nil) rfl hk);rw[M5] at this;exact this
 ·have:=c99 e e (x:=bd e.ai) (y:=bd e.ai) rfl rfl rfl rfl (q:=true) (λσ k hk=>Qc (c62 e.ai e.ai (by have:=hc e he; omega)) rfl fe.plain rfl (by simpa using hk));rw[M5] at this;exact this
theorem UM{b:Bk}{s:St}{l:List (Int×Int)}:∀e∈(bO b s l).2.1,e.ai.length≤1000000000:=by
 by_cases h:(bO b s l).2.2=0
 ·obtain⟨_,_,_,_,_,_,_,h5⟩:=HC h;rw[h5];intro e he;rw[Iy _ _ _ (by simp) e he]; simp
 ·rw[(NV h).2]; simp
theorem c11(h89:mD prog 89)(hn:nJ prog 89)(h44:PC 44 [] (.bool true))(b:Bk)(hf:bE b=true)(fS:Zu b.ai)(s:St)(o_:cw 2000000 s)(l:List (Int×Int))(hl:l.length≤1000000000):PC 11 [eY b,eC s,qu l] (.bool true):=by
 have hs:cw 1000000000 s:=o_.mono (by decide);obtain⟨q,h43⟩:=c43 b hf s (x:=.af) (y:=qu l) (n:=0) (m:=l.length) (λσ=>rfl) (λσ=>by rw[Yh,List.length_map]);have h48:=c48 h89 hn b hf fS s hs l hl;have h49:=c49 b hf s hs l hl;have h50:=c50 b s l h48;have h51:=c51 b s l h49;have hle:=Vb (b:=b) (s:=s) (l:=l);have se:=UM (b:=b) (s:=s) (l:=l);obtain⟨n,g,ht⟩:∃n g:Int,xT b s l=.aG [iv n,iv g]:=by unfold xT; split<;>exact⟨_,_,rfl⟩
 rw[ht] at h50 h51;generalize bO b s l=r at h48 h49 hle se;refine Qd hP zw rfl rfl ?_;unfold g11;refine Ze (v:=.an 0 0) (rd:=[]) (up:=[(0,.box (ed b))]) rfl rfl ?_;refine Ze (v:=.an 1 0) (rd:=[]) (up:=[(1,.box (bX s))]) rfl rfl ?_;refine Za rfl (Za rfl (Qc h43 rfl uf.plain rfl ?_));refine Zc (λ_=>Qc h44 rfl oM.plain rfl rfl) (λ_=>?_);refine Za rfl (Za rfl (Qc h48 rfl mV.plain rfl (Za rfl (Za rfl (Za rfl ?_)))));refine Yt (row:=bX r.1) (row':=bX r.1) rfl rfl rfl ?_;refine Za rfl (Za rfl (Qc h49 rfl qK.plain rfl (Za rfl (Za rfl (Za rfl ?_)))));refine Yt (row:=bX r.1) (row':=bX r.1) rfl rfl rfl ?_;refine Za rfl (Za rfl (Qc h50 rfl oN.plain rfl (Za rfl (Za rfl ?_))));refine Za rfl (Za rfl (Qc h51 rfl uh.plain rfl (Za rfl (Za rfl ?_))));refine Za (Qf ..) ?_;rw[decide_eq_true rfl];refine Xa (Za (v:=eC r.1) (rd:=[2]) rfl (Xa (Za (v:=eC r.1) (rd:=[3]) rfl (Zb (Qc (J9 r.1 (hle.1.mono (by decide))) rfl ue.plain rfl (Za rfl ?_))))));refine Xa (Za rfl (Xa (Za rfl (Zb (Qc (J_ r.2.1 (by omega) se) rfl ug.plain rfl (Za rfl ?_))))));refine Xa (Za rfl (Xa (Za rfl (Xa (Za (Qf ..) ?_)))));rw[show decide (n=n)=true from decide_eq_true rfl];refine Za rfl (Xa (Za rfl (Xa (Za rfl (Xa (Za (Qf ..) ?_))))));rw[show decide (g=g)=true from decide_eq_true rfl];refine Za rfl ?_;exact Zb (Qc h44 rfl oM.plain rfl (Za rfl rfl))
end Go.Ah.Tz
end
section
namespace Go.Ah.Tz
open Go.Proofs.Tryz (prog)
set_option maxRecDepth 100000
def Gn:GT:=(.node 171 4 g171 (.node 105 4 g105 (.node 66 4 g66 (.node 55 2 g55 (.node 48 3 g48 (.node 44 0 g44 (.node 22 5 g22 .leaf .leaf) (.node 45 3 g45 .leaf .leaf)) (.node 54 3 g54 (.node 50 3 g50 .leaf .leaf) .leaf)) (.node 59 1 g59 (.node 57 1 g57 (.node 56 2 g56 .leaf .leaf) .leaf) (.node 65 1 g65 (.node 64 7 g64 .leaf .leaf) .leaf))) (.node 96 1 g96 (.node 93 0 g93 (.node 75 3 g75 (.node 71 2 g71 .leaf .leaf) (.node 89 1 g89 .leaf .leaf)) (.node 95 1 g95 (.node 94 0 g94 .leaf .leaf) .leaf)) (.node 102 6 g102 (.node 101 7 g101 (.node 100 2 g100 .leaf .leaf) .leaf) (.node 104 2 g104 (.node 103 2 g103 .leaf .leaf) .leaf)))) (.node 143 1 g143 (.node 128 4 g128 (.node 119 2 g119 (.node 112 1 g112 (.node 111 3 g111 .leaf .leaf) (.node 118 2 g118 .leaf .leaf)) (.node 124 1 g124 (.node 120 2 g120 .leaf .leaf) .leaf)) (.node 137 1 g137 (.node 136 0 g136 (.node 129 1 g129 .leaf .leaf) .leaf) (.node 139 2 g139 (.node 138 2 g138 .leaf .leaf) .leaf))) (.node 165 3 g165 (.node 157 3 g157 (.node 155 2 g155 (.node 144 4 g144 .leaf .leaf) (.node 156 2 g156 .leaf .leaf)) (.node 164 3 g164 (.node 163 3 g163 .leaf .leaf) .leaf)) (.node 168 3 g168 (.node 167 3 g167 (.node 166 3 g166 .leaf .leaf) .leaf) (.node 170 4 g170 (.node 169 2 g169 .leaf .leaf) .leaf))))) (.node 223 1 g223 (.node 209 1 g209 (.node 182 1 g182 (.node 179 1 g179 (.node 173 1 g173 (.node 172 1 g172 .leaf .leaf) (.node 176 2 g176 .leaf .leaf)) (.node 181 1 g181 (.node 180 1 g180 .leaf .leaf) .leaf)) (.node 185 2 g185 (.node 184 1 g184 (.node 183 1 g183 .leaf .leaf) .leaf) (.node 208 2 g208 (.node 186 2 g186 .leaf .leaf) .leaf))) (.node 217 1 g217 (.node 213 2 g213 (.node 211 2 g211 (.node 210 1 g210 .leaf .leaf) (.node 212 1 g212 .leaf .leaf)) (.node 216 1 g216 (.node 215 4 g215 .leaf .leaf) .leaf)) (.node 220 1 g220 (.node 219 5 g219 (.node 218 3 g218 .leaf .leaf) .leaf) (.node 222 2 g222 (.node 221 2 g221 .leaf .leaf) .leaf)))) (.node 250 2 g250 (.node 239 2 g239 (.node 236 2 g236 (.node 234 4 g234 (.node 224 2 g224 .leaf .leaf) (.node 235 2 g235 .leaf .leaf)) (.node 238 2 g238 (.node 237 2 g237 .leaf .leaf) .leaf)) (.node 242 1 g242 (.node 241 1 g241 (.node 240 3 g240 .leaf .leaf) .leaf) (.node 244 2 g244 (.node 243 2 g243 .leaf .leaf) .leaf))) (.node 256 1 g256 (.node 253 2 g253 (.node 252 1 g252 (.node 251 1 g251 .leaf .leaf) .leaf) (.node 255 2 g255 (.node 254 1 g254 .leaf .leaf) .leaf)) (.node 259 2 g259 (.node 258 0 g258 (.node 257 1 g257 .leaf .leaf) .leaf) (.node 264 1 g264 (.node 263 0 g263 .leaf .leaf) .leaf))))))
theorem SL:Gn.Ok prog rH:=⟨wk,⟨rP,⟨mX,⟨oP,⟨mV,⟨oM,⟨oI,trivial,trivial⟩,⟨qJ,trivial,trivial⟩⟩,⟨oO,⟨oN,trivial,trivial⟩,trivial⟩⟩,⟨mW,⟨g_,⟨qL,trivial,trivial⟩,trivial⟩,⟨qO,⟨jx,trivial,trivial⟩,trivial⟩⟩⟩,⟨iF,⟨m_,⟨kN,⟨iE,trivial,trivial⟩,⟨qQ,trivial,trivial⟩⟩,⟨oQ,⟨qR,trivial,trivial⟩,trivial⟩⟩,⟨rO,⟨rN,⟨nX,trivial,trivial⟩,trivial⟩,⟨nZ,⟨nY,trivial,trivial⟩,trivial⟩⟩⟩⟩,⟨kh,⟨vS,⟨kg,⟨iZ,⟨ke,trivial,trivial⟩,⟨kf,trivial,trivial⟩⟩,⟨lE,⟨lD,trivial,trivial⟩,trivial⟩⟩,⟨rV,⟨vU,⟨vT,trivial,trivial⟩,trivial⟩,⟨oj,⟨oi,trivial,trivial⟩,trivial⟩⟩⟩,⟨wc,⟨gb,⟨ot,⟨lF,trivial,trivial⟩,⟨ou,trivial,trivial⟩⟩,⟨wb,⟨wa,trivial,trivial⟩,trivial⟩⟩,⟨wh,⟨wg,⟨we,trivial,trivial⟩,trivial⟩,⟨wj,⟨wi,trivial,trivial⟩,trivial⟩⟩⟩⟩⟩,⟨km,⟨lT,⟨lM,⟨lJ,⟨wo,⟨wm,trivial,trivial⟩,⟨ow,trivial,trivial⟩⟩,⟨lL,⟨lK,trivial,trivial⟩,trivial⟩⟩,⟨lP,⟨lO,⟨lN,trivial,trivial⟩,trivial⟩,⟨lS,⟨lQ,trivial,trivial⟩,trivial⟩⟩⟩,⟨wE,⟨kl,⟨jd,⟨jc,trivial,trivial⟩,⟨gV,trivial,trivial⟩⟩,⟨wD,⟨wC,trivial,trivial⟩,trivial⟩⟩,⟨wH,⟨wG,⟨wF,trivial,trivial⟩,trivial⟩,⟨gg,⟨lU,trivial,trivial⟩,trivial⟩⟩⟩⟩,⟨eM,⟨ma,⟨gX,⟨wL,⟨lV,trivial,trivial⟩,⟨gW,trivial,trivial⟩⟩,⟨l_,⟨lZ,trivial,trivial⟩,trivial⟩⟩,⟨mf,⟨me,⟨mc,trivial,trivial⟩,trivial⟩,⟨mg,⟨oJ,trivial,trivial⟩,trivial⟩⟩⟩,⟨mj,⟨mh,⟨gZ,⟨gY,trivial,trivial⟩,trivial⟩,⟨mi,⟨ko,trivial,trivial⟩,trivial⟩⟩,⟨mn,⟨mm,⟨ml,trivial,trivial⟩,trivial⟩,⟨oL,⟨mo,trivial,trivial⟩,trivial⟩⟩⟩⟩⟩⟩
end Go.Ah.Tz
end
section
namespace Go.Ah.Tz
open Go.Proofs.Tryz (prog)
set_option maxRecDepth 1000000
theorem qT:∀f np g,Gn.get f=some (np,g)→GQ f np g:=GT.oS SL
def nB:aa:=(.agg [(.ax true false 12 [[(.str [73,109,112]),(.bool true),(.int .i64 1),(.int .i64 2),(.int .i64 3),(.int .i64 1),(.int .i64 0),(.int .i64 0),.af,.af,.af,(.int .i64 0)],[(.str [69,108,102]),(.bool true),(.int .i64 2),(.int .i64 1),(.int .i64 1),(.int .i64 0),(.int .i64 1),(.int .i64 0),.af,.af,.af,(.int .i64 0)],[(.str [66,111,108,116]),(.bool false),(.int .i64 1),(.int .i64 0),(.int .i64 0),(.int .i64 0),(.int .i64 0),(.int .i64 0),(.ax true false 14 [[(.int .i8 0),(.int .i8 2),(.int .i8 0),(.int .i64 3),(.int .i8 0),.af,(.str []),(.int .i8 0),(.int .i8 0),(.str []),.af,.af,.af,.af]]),.af,.af,(.int .i64 0)]]),(.ax true false 7 [[(.str [115,116,100]),(.int .i64 0),(.int .i64 60),(.int .i64 60),.af,.af,(.int .i64 0)]])])
def uW:aa:=(.agg [(.int .i64 1),(.int .i64 0),(.int .i8 0),(.bool false),(.int .i8 0),.af,(.int .i64 4),(.int .i64 20),(.int .i64 3),(.int .i64 3),(.ax true false 1 [[(.int .i64 0)],[(.int .i64 1)],[(.int .i64 2)]]),(.ax true false 1 [[(.int .i64 2)],[(.int .i64 0)]]),.af,(.ax false false 4 [[(.int .i64 1),(.int .i64 0),(.int .i64 0),(.bool false)],[(.int .i64 3),(.int .i64 1),(.int .i64 0),(.bool false)]]),.af,(.int .i64 20),(.int .i64 3),(.int .i64 3),(.ax true false 1 [[(.int .i64 0)],[(.int .i64 1)],[(.int .i64 2)]]),(.ax true false 1 [[(.int .i64 2)],[(.int .i64 0)]]),.af,(.ax true false 4 [[(.int .i64 2),(.int .i64 1),(.int .i64 0),(.bool false)]]),.af])
def s8:aa:=(.agg [(.int .i64 1),(.int .i64 0),(.int .i8 1),(.bool true),(.int .i8 0),(.ax false false 1 [[(.int .i64 1)],[(.int .i64 3)]]),(.int .i64 4),(.int .i64 20),(.int .i64 3),(.int .i64 3),(.ax false false 1 [[(.int .i64 0)],[(.int .i64 1)],[(.int .i64 2)]]),(.ax false false 1 [[(.int .i64 2)],[(.int .i64 0)]]),.af,(.ax false false 4 [[(.int .i64 1),(.int .i64 0),(.int .i64 0),(.bool true)],[(.int .i64 3),(.int .i64 1),(.int .i64 0),(.bool true)]]),.af,(.int .i64 20),(.int .i64 3),(.int .i64 3),(.ax false false 1 [[(.int .i64 0)],[(.int .i64 1)],[(.int .i64 2)]]),(.ax false false 1 [[(.int .i64 2)],[(.int .i64 0)]]),.af,(.ax false false 4 [[(.int .i64 2),(.int .i64 1),(.int .i64 0),(.bool false)]]),.af])
def LI:aa:=(.agg [(.int .i64 1),(.int .i64 0),(.int .i8 0),(.bool true),(.int .i8 0),.af,(.int .i64 4),(.int .i64 20),(.int .i64 3),(.int .i64 3),(.ax false false 1 [[(.int .i64 0)],[(.int .i64 1)],[(.int .i64 2)]]),(.ax false false 1 [[(.int .i64 2)],[(.int .i64 0)]]),.af,(.ax false false 4 [[(.int .i64 1),(.int .i64 0),(.int .i64 0),(.bool true)],[(.int .i64 3),(.int .i64 1),(.int .i64 0),(.bool true)]]),.af,(.int .i64 19),(.int .i64 3),(.int .i64 3),(.ax false false 1 [[(.int .i64 0)],[(.int .i64 1)],[(.int .i64 2)]]),(.ax false false 1 [[(.int .i64 2)],[(.int .i64 0)]]),.af,(.ax false false 4 [[(.int .i64 2),(.int .i64 1),(.int .i64 3),(.bool false)]]),.af])
def LH:aa:=(.agg [(.int .i64 0),(.int .i64 0),(.int .i8 0),(.bool false),(.int .i8 0),.af,(.int .i64 0),(.int .i64 0),(.int .i64 0),(.int .i64 0),.af,.af,.af,.af,.af,(.int .i64 0),(.int .i64 0),(.int .i64 0),.af,.af,.af,.af,.af])
def r13:aa:=.ax false false 1 [[.int .i64 1],[.int .i64 3]]
def r2:aa:=.ax false false 1 [[.int .i64 2]]
def r12:aa:=.ax false false 2 [[.int .i64 1,.int .i64 2]]
theorem p93:PC 93 [] nB:=GP hP qT (much:=1000000000) 60 (by kernel_rfl)
theorem p94:PC 94 [] uW:=GP hP qT (much:=1000000000) 60 (by kernel_rfl)
theorem p143:PC 143 [nB] (.agg [.int .i64 0,.int .i64 0]):=GP hP qT (much:=1000000000) 60 (by kernel_rfl)
def Lr:my:=[(143,[nB],.agg [.int .i64 0,.int .i64 0])]
theorem Hg:tB prog rH Lr:=⟨⟨⟨kh.plain,rfl,rfl⟩,p143⟩,trivial⟩
theorem LB:PC 45 [nB,uW,r13] (.aG [s8,(.ax false false 7 [[(.int .i8 11),(.int .i64 0),(.int .i64 0),(.int .i64 1),(.int .i64 0),(.int .i64 0),.af],[(.int .i8 11),(.int .i64 0),(.int .i64 0),(.int .i64 3),(.int .i64 0),(.int .i64 0),.af]]),(.int .i64 0)]):=Hv hP qT (much:=1000000000) Hg 60 (by kernel_rfl)
theorem LC:PC 45 [nB,uW,r2] (.aG [LH,.af,(.int .i64 2)]):=Hv hP qT (much:=1000000000) Hg 60 (by kernel_rfl)
theorem p48:PC 48 [nB,s8,r12] (.aG [LI,(.ax false false 7 [[(.int .i8 12),(.int .i64 0),(.int .i64 0),(.int .i64 1),(.int .i64 2),(.int .i64 0),.af],[(.int .i8 5),(.int .i64 1),(.int .i64 0),(.int .i64 2),(.int .i64 0),(.int .i64 3),.af],[(.int .i8 5),(.int .i64 0),(.int .i64 0),(.int .i64 1),(.int .i64 0),(.int .i64 0),.af],[(.int .i8 5),(.int .i64 1),(.int .i64 0),(.int .i64 0),(.int .i64 0),(.int .i64 1),.af]]),(.int .i64 0)]):=Hv hP qT (much:=1000000000) Hg 60 (by kernel_rfl)
theorem p50:PC 50 [nB,s8,.af] (.aG [(.int .i64 4),(.int .i64 0)]):=Hv hP qT (much:=1000000000) Hg 60 (by kernel_rfl)
attribute [local irreducible] al.rd al.pu al.wr al.dr al.gr al.gw al.gl al.gd al.opt au W
set_option maxHeartbeats 8000000
theorem p44:PC 44 [] (.bool true):=by
 refine Qd hP oM rfl rfl ?_;unfold g44;refine Qc p93 rfl m_.plain rfl (Qc p94 rfl qR.plain rfl (Ze rfl rfl ?_));refine NU (pre:=[nB,uW]) LB rfl qJ.plain rfl rfl rfl (by simp) (Za rfl (Za rfl (Za rfl (Ze rfl rfl (Ze rfl rfl ?_)))));refine Qn p93 rfl m_.plain rfl (Yk (v:=s8) rfl rfl (Zk rfl (Yk rfl rfl ?_)));refine VX (pre:=[nB,s8]) p48 rfl mV.plain rfl rfl rfl (by simp) (Zk rfl (Zk rfl (Zk rfl (Yk rfl rfl (Yk rfl rfl (XJ (by kernel_rfl) ?_))))));refine Qn p93 rfl m_.plain rfl (Yk (v:=s8) rfl rfl (Qn p50 rfl oN.plain rfl (Zk rfl (Zk rfl (XJ (by kernel_rfl) ?_)))));refine Qc p93 rfl m_.plain rfl (Qc p94 rfl qR.plain rfl (Ze rfl rfl ?_));refine NU (pre:=[nB,uW]) LC rfl qJ.plain rfl rfl rfl (by simp) (Za rfl (Za rfl (Za rfl (Ze rfl rfl (Ze rfl rfl ?_)))));repeat first|refine Xa (Za rfl ?_)|refine Za rfl ?_
 rfl
end Go.Ah.Tz
end
section
namespace Go.Proofs.YtflcpnaigpgciaaGreatDoor
open Go.ChangeShapes Go.WideShapes Go.ChangeAt Go.RowKit Go.Ah Go.Ah.Tz
set_option maxRecDepth 100000
theorem VH:Rows.fightEndsUptoRow.laid=[("unicode.White_Space",Rows.laid_unicode_White_Space),("strings.asciiSpace",Lib.tabData .u8 fN)]:=by kernel_rfl
theorem Up(H:Type)(enc:TypeId×Value→H)(W:World)(base:Nat)(args:Array Value)(ds gs:List (DataW H))(before:List MemPlace)
 (sT:∀(j:Nat) t v,Tryz.f11.params[j]?=some t→args[j]?=some v→Value.okWide Tryz.prog W .any base t v)
 (hW:DataW.Whole enc Tryz.prog Tryz.f11.params.toList Rows.fightEndsSpec.vars false W args.toList ds gs before)(hk:Rows.uptoSmall H (ds++gs)=true)(hL:laidMetH Tryz.prog Rows.fightEndsUptoRow.laid W) :
  Calls Tryz.prog 11 args W λe W'=>∃v,e=.returned v∧Rows.fightEndsSpec.post enc Tryz.prog Tryz.f11 false true false false W args v W':=by
 have WO:=hW;have bj:=hW.lt;obtain⟨p,q,ti,hV,rfl,hfz,Fm⟩:=hW;have hA:DataW.TrodAll enc Tryz.prog W 0 (λ_=>true) true Tryz.f11.params.toList args.toList ds p:=ti;rw[Tryz.params11] at hA sT;obtain⟨v0,vs,d0,ds,p0,p,uv,rfl,rfl,h0,r⟩:=trodAll_cons hA;obtain⟨v1,vs,d1,ds,p1,p,rfl,rfl,rfl,h1,r⟩:=trodAll_cons r;obtain⟨v2,vs,d2,ds,p2,p,rfl,rfl,rfl,h2,r⟩:=trodAll_cons r;obtain⟨rfl,rfl,rfl⟩:=trodAll_nil r;obtain rfl:args = #[v0,v1,v2]:=by cases args; simp_all
 obtain⟨rfl,rfl⟩:=trodVars_none hV;have WZ:Rows.uptoBulkAll [d0,d1,d2]≤1048576:=of_decide_eq_true hk;simp only[Rows.uptoBulkAll] at WZ;obtain⟨b,hf,fS,e0⟩:=T4 (sT 0 _ v0 rfl rfl) h0 (by omega);obtain⟨s,hs,e1⟩:=TY (sT 1 _ v1 rfl rfl) h1 (by omega);obtain⟨a2,l2,e2⟩:=Ex (sT 2 _ v2 rfl rfl) h2 (by omega);have hg:=U4 VH (show laidMet Tryz.prog Rows.fightEndsUptoRow.laid W from hL);refine(c11 Az xp p44 b hf fS s hs a2 l2 W (λk=>W.heap[k]?) [v0,v1,v2] (λ_ _ h=>h) hg ⟨e0,e1,e2,trivial⟩).mono ?_;rintro e W' ⟨u,rfl,na,M',_,_,_,hd⟩;cases hd;have hb:=na.below;refine⟨_,rfl,S6 (pa:=p0++(p1++(p2++[]))) (pv:=[]) WO (λ_ _ _=>trodAll_cons_mk (shut_bool D5 _) trodAll_mk0) (λsp sR=>?_) (λ_ _=>rfl) rfl hb (ok_one (by kernel_rfl) rfl (okWide_bool_mk D5 _))⟩;rw[Tryz.params11];refine trodAll_cons_mk (I' FV.1 FV.2 h0 hb bj (λp hp=>by simp[hp]) sR) <| trodAll_cons_mk (I' FW.1 FW.2 h1 hb bj (λp hp=>by simp[hp]) sR) <| trodAll_cons_mk (I' NB.1 NB.2 h2 hb bj (λp hp=>by simp[hp]) sR) trodAll_mk0
def Ha:Array Value:=#[.agg #[.slice none 0 0,.slice none 0 0],.agg #[.int .i64 0,.int .i64 0,.int .i8 0,.bool false,.int .i8 0,.slice none 0 0,.int .i64 0,.int .i64 0,.int .i64 0,.int .i64 0,.slice none 0 0,.slice none 0 0,.slice none 0 0,.slice none 0 0,.slice none 0 0,.int .i64 0,.int .i64 0,.int .i64 0,.slice none 0 0,.slice none 0 0,.slice none 0 0,.slice none 0 0,.slice none 0 0],.slice none 0 0]
theorem Wg(os:Os):laidMet Tryz.prog Rows.fightEndsUptoRow.laid ((IE os).forCall (λ_ _=>0) ⟨#[],Ha,[]⟩).memory:=
 laidMet_of_run' 8 (by kernel_rfl) (by kernel_rfl)
theorem VY(os:Os){H:Type}(enc:TypeId×Value→H):∃places,DataW.whole enc Tryz.prog ((IE os).forCall (λ_ _=>0) ⟨#[],Ha,[]⟩).memory Tryz.f11.params.toList Rows.fightEndsSpec.vars false Ha.toList 8 =
  some ([.agg [.nil,.nil],.agg [.lit (.int .i64 0),.lit (.int .i64 0),.lit (.int .i8 0),.lit (.bool false),.lit (.int .i8 0),.nil,.lit (.int .i64 0),.agg [.agg [.lit (.int .i64 0),.lit (.int .i64 0),.lit (.int .i64 0),.nil,.nil,.nil,.nil,.nil],.agg [.lit (.int .i64 0),.lit (.int .i64 0),.lit (.int .i64 0),.nil,.nil,.nil,.nil,.nil]]],.nil],[],places):=⟨[],by kernel_rfl⟩
theorem Sg(os:Os)(started:os.Started)(H:Type)(enc:TypeId×Value→H)(F:Stop.Interp) :
  ReturnsInHanded {} Tryz.checked os 11 .any ((Rows.OpenSpec.upto Rows.fightEndsSpec).preRow enc Tryz.prog Tryz.f11 Rows.fightEndsUptoRow.domain false Rows.fightEndsUptoRow.laid) (((Rows.OpenSpec.upto Rows.fightEndsSpec).at F).post enc Tryz.prog Tryz.f11 false true false false):=by
 obtain⟨places,hx⟩:=VY os enc;refine returnsInHanded_of_row (C:=Tryz.checked) (s:=Rows.OpenSpec.upto Rows.fightEndsSpec) Ew started (by kernel_rfl) Tryz.func11
  (witness_row_atRef (enc:=enc) (C:=Tryz.checked) false (IE os) Ha rfl (by kernel_rfl) (by kernel_rfl) (by kernel_rfl)
   (OpenSpec.preRow_of_cond 8 hx (by kernel_rfl) (λk hk=>by cases hk; kernel_rfl) (by kernel_rfl) (Wg os))) ?_
 intro W base args ds gs before sT hW _ pR _ hL _ _;exact Up H enc W base args ds gs before sT hW (pR _ rfl) hL
theorem Uf:Tryz.prog.funcNamed Rows.fightEndsUptoRow.func=some 11:=by kernel_rfl
theorem S1:(Rows.fightEndsUptoRow.wf (OpenSpec.ofChange (Rows.OpenSpec.upto Rows.fightEndsSpec).bare))=true:=by kernel_rfl
theorem Ws:(laidOutB Tryz.prog)=true:=by kernel_rfl
theorem Vo:(mapsRowed Tryz.prog)=true:=by kernel_rfl
theorem Ug:(Tryz.f11.params.all (Tryz.prog.readableRec ·))=true:=by kernel_rfl
theorem S2:(namedTie Tryz.prog Rows.fightEndsUptoRow.named (Rows.OpenSpec.upto Rows.fightEndsSpec).bare.vars)=true:=by kernel_rfl
theorem Wt:(Rows.fightEndsUptoRow.stops==[])=true:=by kernel_rfl
theorem Vp:(Tryz.prog.stops==[])=true:=by kernel_rfl
theorem Uh:(Rows.fightEndsUptoRow.knobs==[])=true:=by kernel_rfl
theorem S3:(Tryz.prog.stopKnobs==[])=true:=by kernel_rfl
theorem Uu:(Rows.fightEndsUptoRow.inPlace==Tryz.prog.inPlace 11)=true:=by kernel_rfl
theorem Ti:(Rows.fightEndsUptoRow.unfollowed==Tryz.prog.unfollowed 11)=true:=by kernel_rfl
theorem RU:(Rows.fightEndsUptoRow.recurses==Tryz.prog.recurses 11)=true:=by kernel_rfl
theorem VA:(Rows.fightEndsUptoRow.named==Tryz.prog.varsNamed 11)=true:=by kernel_rfl
theorem Uv:(Rows.fightEndsUptoRow.maps==(Tryz.f11.params.toList++(Rows.OpenSpec.upto Rows.fightEndsSpec).bare.plain.varTypes Tryz.prog).any (Tryz.prog.mapsRec ·))=true:=by kernel_rfl
theorem Tj:(Rows.fightEndsUptoRow.ifaces==(Tryz.f11.params.toList++(Rows.OpenSpec.upto Rows.fightEndsSpec).bare.plain.varTypes Tryz.prog).any (Tryz.prog.ifacesRec ·))=true:=by kernel_rfl
theorem RW:(Rows.fightEndsUptoRow.mapsOut==Tryz.prog.mapsAmong Tryz.f11.resultTypes.toList)=true:=by kernel_rfl
theorem VB:(Rows.fightEndsUptoRow.loops==(Tryz.f11.params.toList++(Rows.OpenSpec.upto Rows.fightEndsSpec).bare.plain.varTypes Tryz.prog).any (Tryz.prog.loopsFrom ·))=true:=by kernel_rfl
theorem Uw:(Rows.fightEndsUptoRow.wideKeys==(Tryz.f11.params.toList++(Rows.OpenSpec.upto Rows.fightEndsSpec).bare.plain.varTypes Tryz.prog++Tryz.f11.resultTypes.toList).any (Tryz.prog.wideKeysFrom ·))=true:=by kernel_rfl
theorem Tk:((Rows.OpenSpec.upto Rows.fightEndsSpec).bare.vars.all (Tryz.prog.varReadable ·))=true:=by kernel_rfl
theorem RZ:(Tryz.f11.resultTypes.all (λt=>Tryz.prog.readableRec t&&decide (t<Tryz.prog.types.size)))=true:=by kernel_rfl
theorem VC:(Rows.fightEndsUptoRow.ifacesOut==Tryz.f11.resultTypes.toList.any (Tryz.prog.ifacesRec ·))=true:=by kernel_rfl
theorem Ux:(Rows.fightEndsUptoRow.loopsOut==Tryz.f11.resultTypes.toList.any (Tryz.prog.loopsFrom ·))=true:=by kernel_rfl
theorem Tl:(Rows.fightEndsUptoRow.plainKeys==Tryz.prog.plainKeys)=true:=by kernel_rfl
theorem R0:(Rows.fightEndsUptoRow.shortTexts.isNone)=true:=by kernel_rfl
theorem VD:(Tryz.prog.stopsHeard)=true:=by kernel_rfl
theorem Uy:(Tryz.prog.mayEnter)=true:=by kernel_rfl
theorem Tm:(Rows.fightEndsUptoRow.lifted==Tryz.prog.liftsFinal)=true:=by kernel_rfl
theorem R1:(Tryz.prog.make==some Rows.fightEndsUptoRow.make)=true:=by kernel_rfl
theorem Wf:(Rows.fightEndsUptoRow.kinds==(if Rows.fightEndsUptoRow.domain.isEmpty then [] else Tryz.f11.params.toList.map λt=>match Tryz.prog.underlying t with|some (.int k)=>some k|_=>none))=true:=by kernel_rfl
theorem Va:(Rows.fightEndsUptoRow.pinned==Rows.fightEndsUptoRow.pinnedBy)=true:=by kernel_rfl
theorem T5:(Rows.fightEndsUptoRow.veiled==(Tryz.f11.params.toList++(Rows.OpenSpec.upto Rows.fightEndsSpec).bare.plain.varTypes Tryz.prog++Tryz.f11.resultTypes.toList).any (Tryz.prog.veiledRec ·))=true:=by kernel_rfl
theorem SP:(Rows.fightEndsUptoRow.veiledFits Tryz.prog Tryz.f11.params.toList (Tryz.f11.params.toList++(Rows.OpenSpec.upto Rows.fightEndsSpec).bare.plain.varTypes Tryz.prog++Tryz.f11.resultTypes.toList))=true:=by kernel_rfl
theorem TE:joinedFacts Tryz.prog 11 Tryz.f11 (Rows.OpenSpec.upto Rows.fightEndsSpec).bare Rows.fightEndsUptoRow=true:=(Yo (Yo (Yo (Yo (Yo (Yo (Yo (Yo (Yo (Yo (Yo (Yo (Yo (Yo (Yo (Yo (Yo (Yo (Yo (Yo (Yo (Yo (Yo (Yo (Yo (Yo (Yo (Yo (Yo (Yo (Yo S1 Ws) Vo) Ug) S2) Wt) Vp) Uh) S3) Uu) Ti) RU) VA) Uv) Tj) RW) VB) Uw) Tk) RZ) VC) Ux) Tl) R0) VD) Uy) Tm) R1) Wf) Va) T5) SP)
theorem UC:Rows.FightEndsUptoSaid:=
 OpenClaim.holds_of_cond 11 Tryz.f11 rfl rfl rfl rfl rfl rfl rfl ⟨rfl,rfl,rfl,rfl,rfl⟩ rfl rfl rfl rfl rfl Uf Tryz.func11 TE
  (of_decide_eq_true (by kernel_rfl)) (by unfold Func.isWrapper; first|(rw[if_pos (by decide +kernel)]; kernel_rfl)|(rw[if_neg (by decide +kernel)]; exact⟨rfl,rfl⟩))
  (λos started H enc _ F=>by rw[OpenClaim.pre_eq_preRow]; exact Sg os started H enc F)
theorem Sn(f:FuncId)(fn:Func)(hf:Tryz.pinned.checked.prog.funcNamed "baize/baizelaw22.FightEnds" = some f)(vw:Tryz.pinned.checked.prog.funcs[f]?=some fn) :
  true=Tryz.pinned.checked.prog.looks []∧∀(j:Nat) t,fn.params[j]?=some t→Tryz.pinned.checked.prog.wantsStandIn t=false:=by
 obtain rfl:f=11:=Option.some.inj ((show Tryz.prog.funcNamed "baize/baizelaw22.FightEnds" = some 11 by kernel_rfl).symm.trans hf) |>.symm;obtain rfl:fn=Tryz.f11:=(Option.some.inj (Tryz.func11.symm.trans vw)).symm;refine⟨by kernel_rfl,λj t ht=>?_⟩;rw[Tryz.params11] at ht;have hm:t∈[tG,tJ,tH]:=by simpa using Array.mem_of_getElem? ht
 have fK:([tG,tJ,tH].all λu=>!Tryz.prog.wantsStandIn u)=true:=by kernel_rfl
 exact(show Tryz.prog.wantsStandIn t=false by simpa using List.all_eq_true.1 fK t hm)
theorem fightEnds_upto_card:Rows.FightEndsUptoCardSaid:=
 Claim7.holds_tied_plain_at .later [] _ _ _ _ UC (λ_ h=>by cases h) (by kernel_rfl) (λ_ h=>by cases h) fightEndsUpto_row_tie rfl ⟨rfl,rfl⟩ (by kernel_rfl) rfl Sn (by kernel_rfl)
#print axioms fightEnds_upto_card
end Go.Proofs.YtflcpnaigpgciaaGreatDoor
end
