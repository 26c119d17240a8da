/- Part of the proof that FightEnds holds of the program for arguments that together hold at most 1048576 values and letters; no other condition. -/
import Derived.WalkKit
import Derived.IntWalk
import Derived.Deep.LoopGhost
set_option linter.all false
section
theorem aL(b:Bool):b=true∨b=false:=Bool.eq_false_or_eq_true b
theorem cJ{α:Type}{l:List α}{i:Nat}{a:α}:l[i]?=some a→∃h:i<l.length,l[i]=a:=List.getElem?_eq_some_iff.1
theorem eZ{n m:Nat}:Nat.beq n m=true→n=m:=Nat.eq_of_beq_eq_true
theorem fQ{n m:Nat}:Nat.ble n m=true→n≤m:=Nat.le_of_ble_eq_true
theorem eD{α:Type}{i:Nat}{l:List α}(h:i<l.length):l.drop i=l[i]::l.drop (i+1):=List.drop_eq_getElem_cons h
namespace Go.Ah
open Go.RowKit (Below)
inductive aa where
 |aI
 |bool (b:Bool)
 |int (k:IntKind) (n:Int)
 |str (s:List UInt8)
 |bQ
 |an (b j:Nat)
 |ptr (b i j:Nat)
 |ay (row:List aa) (j:Nat)
 |af
 |cj
 |sl (b off len:Nat) (ex:Bool)
 |ax (ex nn:Bool) (sz:Nat) (rows:List (List aa))
 |map (b:Nat)
 |dZ (es:List (aa×aa))
 |bD
 |func (fn:Fn) (first captured:List aa)
 |ct
 |iface (t:TypeId) (v:aa)
 |dX
 |agg (cs:List aa)
 |aG (vs:List aa)
 |when (cs:List (Bool×Bool)) (x:aa)
 |iter (b:Nat)
 deriving Inhabited
structure CB where
 blk:Nat
 sz:Nat
 Dq:Nat
 cS:Bool
def fL(M:Nat→Option Obj)(b o:Nat):Option Value:=
 match M b with
 |some (.cells c _ _)=>c[o]?
 |_=>none
abbrev Own:=Nat→Option CB
def aV:Own:=λ_=>none
inductive Den (M:Nat→Option Obj):Own→aa→Value→Prop
 |aI (c:Own) (v:Value):Den M c .aI v
 |bool (c:Own) (b:Bool):Den M c (.bool b) (.bool b)
 |int (c:Own) (k:IntKind) (n:Int):Den M c (.int k n) (.int k n)
 |str (c:Own) (s:ByteArray):Den M c (.str s.data.toList) (.string s)
 |bQ (c:Own):Den M c .bQ (.pointer none)
 |an (c:Own) (b j:Nat) (cb:CB):c b=some cb→Den M c (.an b j) (.pointer (some ⟨cb.blk,j,none⟩))
 |ptr (c:Own) (b i j:Nat) (cb:CB):c b=some cb→Den M c (.ptr b i j) (.pointer (some ⟨cb.blk,i*cb.sz+j,none⟩))
 |ay (c:Own) (row:List aa) (j blk off:Nat) (f:Nat→Value) :
   (∀k,k<row.length→fL M blk (off+k)=some (f k)) →
   (∀k x,row[k]?=some x→Den M aV x (f k)) →
   Den M c (.ay row j) (.pointer (some ⟨blk,off+j,none⟩))
 |af (c:Own):Den M c .af (.slice none 0 0)
 |cj (c:Own) (a:Option Addr):Den M c .cj (.slice a 0 0)
 |sl (c:Own) (b off len:Nat) (ex:Bool) (cb:CB) (cap:Nat):c b=some cb→cb.cS=false→len≤cap→(off+cap)*cb.sz=cb.Dq →
   (ex=true→cap=len)→Den M c (.sl b off len ex) (.slice (some ⟨cb.blk,off*cb.sz,none⟩) len cap)
 |mu (c:Own) (b:Nat) (ex:Bool) (cb:CB) (a:Option Addr):c b=some cb→cb.cS=true→Den M c (.sl b 0 0 ex) (.slice a 0 0)
 |ax (c:Own) (ex nn:Bool) (sz:Nat) (rows:List (List aa)) (a:Option Addr) (cap blk off:Nat) (f:Nat→Nat→Value) :
   (ex=true→cap=rows.length)→(nn=true→a.isSome=true)→(rows≠[]→a=some ⟨blk,off,none⟩)→(a=none→cap=0)→rows.length≤cap →
   (∀(i:Nat) (row:List aa),rows[i]?=some row→row.length=sz) →
   (∀i j,i<rows.length→j<sz→fL M blk (off+(i*sz+j))=some (f i j)) →
   (∀i row j x,rows[i]?=some row→row[j]?=some x→Den M aV x (f i j)) →
   Den M c (.ax ex nn sz rows) (.slice a rows.length cap)
 |map (c:Own) (b:Nat) (cb:CB):c b=some cb→Den M c (.map b) (.map (some cb.blk))
 |dZ (c:Own) (es:List (aa×aa)) (blk:Nat) (arr:Array MapEntry) (clock:Nat):M blk=some (.map arr clock)→arr.size=es.length →
   (∀(i:Nat) (k x:aa) (e:MapEntry),es[i]?=some (k,x)→arr[i]?=some e→Den M aV k e.key) →
   (∀(i:Nat) (k x:aa) (e:MapEntry),es[i]?=some (k,x)→arr[i]?=some e→Den M aV x e.val) →
   Den M c (.dZ es) (.map (some blk))
 |bD (c:Own):Den M c .bD (.map none)
 |func (c:Own) (fn:Fn) (first captured:List aa) (vs ws:Array Value):vs.size=first.length→ws.size=captured.length →
   (∀(i:Nat) (x:aa) (v:Value),first[i]?=some x→vs[i]?=some v→Den M c x v)→(∀(i:Nat) (x:aa) (v:Value),captured[i]?=some x→ws[i]?=some v→Den M c x v) →
   Den M c (.func fn first captured) (.func fn vs ws)
 |ct (c:Own):Den M c .ct .nilFunc
 |iface (c:Own) (t:TypeId) (x:aa) (v:Value):Den M c x v→Den M c (.iface t x) (.iface t v)
 |dX (c:Own):Den M c .dX .nilIface
 |agg (c:Own) (cs:List aa) (vs:Array Value):vs.size=cs.length→(∀(i:Nat) (x:aa) (v:Value),cs[i]?=some x→vs[i]?=some v→Den M c x v)→Den M c (.agg cs) (.agg vs)
 |aG (c:Own) (cs:List aa) (vs:Array Value):vs.size=cs.length→(∀(i:Nat) (x:aa) (v:Value),cs[i]?=some x→vs[i]?=some v→Den M c x v)→Den M c (.aG cs) (.tuple vs)
 |when (c:Own) (cs:List (Bool×Bool)) (x:aa) (v:Value):((∀p∈cs,p.1=p.2)→Den M c x v)→(¬(∀p∈cs,p.1=p.2)→v=undef)→Den M c (.when cs x) v
 |iter (c:Own) (b:Nat) (cb:CB):c b=some cb→Den M c (.iter b) (.pointer (some ⟨cb.blk,0,none⟩))
def fE(M M':Nat→Option Obj):Prop:=∀b o,M b=some o→M' b=some o
def eF(c c':Own):Prop:=∀b cb,c b=some cb→c' b=some cb
theorem fE.refl(M:Nat→Option Obj):fE M M:=λ_ _ h=>h
theorem fE.trans{a b c:Nat→Option Obj}(h:fE a b)(k:fE b c):fE a c:=λx o e=>k x o (h x o e)
theorem eF.refl(c:Own):eF c c:=λ_ _ h=>h
theorem eF.trans{a b c:Own}(h:eF a b)(k:eF b c):eF a c:=λx o e=>k x o (h x o e)
theorem eF.aV(c:Own):eF aV c:=λ_ _ h=>by simp[Ah.aV] at h
theorem Mf{M M':Nat→Option Obj}(h:fE M M'){b o:Nat}{v:Value}(e:fL M b o=some v):fL M' b o=some v:=by
 unfold fL at *;cases hb:M b with
 |none=>simp[hb] at e
 |some x=>rw[h b x hb]; simpa[hb] using e
theorem Den.mono{M M':Nat→Option Obj}(hM:fE M M'){c:Own}{x:aa}{v:Value}(h:Den M c x v):∀ {c':Own},eF c c'→Den M' c' x v:=by
 induction h with
 |aI=>intros; exact .aI _ _
 |bool=>intros; exact .bool _ _
 |int=>intros; exact .int _ _ _
 |str=>intros; exact .str _ _
 |bQ=>intros; exact .bQ _
 |an c b j cb e=>intro c' hc; exact .an _ _ _ _ (hc _ _ e)
 |ptr c b i j cb e=>intro c' hc; exact .ptr _ _ _ _ _ (hc _ _ e)
 |ay c row j blk off f h1 h2 ih=>intro c' hc; exact .ay _ _ _ _ _ f (λk hk=>Mf hM (h1 k hk)) (λk x e=>ih k x e (eF.refl _))
 |af=>intros; exact .af _
 |cj=>intros; exact .cj _ _
 |sl c b off len ex cb cap e h1 h2 h3 h4=>intro c' hc; exact .sl _ _ _ _ _ _ _ (hc _ _ e) h1 h2 h3 h4
 |mu c b ex cb a e h1=>intro c' hc; exact .mu _ _ _ _ _ (hc _ _ e) h1
 |ax c ex nn sz rows a cap blk off f h1 h2 h3 zH h4 h5 h6 h7 ih=>
  intro c' hc; exact .ax _ _ _ _ _ _ _ blk off f h1 h2 h3 zH h4 h5 (λi j hi hj=>Mf hM (h6 i j hi hj)) (λi row j x e1 e2=>ih i row j x e1 e2 (eF.refl _))
 |map c b cb e=>intro c' hc; exact .map _ _ _ (hc _ _ e)
 |dZ c es blk arr clock e h1 h2 h3 sV sW=>
  intro c' hc; exact .dZ _ _ _ _ _ (hM _ _ e) h1 (λi k x en e1 e2=>sV i k x en e1 e2 (eF.refl _)) (λi k x en e1 e2=>sW i k x en e1 e2 (eF.refl _))
 |bD=>intros; exact .bD _
 |func c fn first captured vs ws h1 h2 h3 h4 sV sW=>
  intro c' hc; exact .func _ _ _ _ _ _ h1 h2 (λi x v e1 e2=>sV i x v e1 e2 hc) (λi x v e1 e2=>sW i x v e1 e2 hc)
 |ct=>intros; exact .ct _
 |iface c t x v h ih=>intro c' hc; exact .iface _ _ _ _ (ih hc)
 |dX=>intros; exact .dX _
 |agg c cs vs h1 h2 ih=>intro c' hc; exact .agg _ _ _ h1 (λi x v e1 e2=>ih i x v e1 e2 hc)
 |aG c cs vs h1 h2 ih=>intro c' hc; exact .aG _ _ _ h1 (λi x v e1 e2=>ih i x v e1 e2 hc)
 |when c cs x v h h2 ih=>intro c' hc; exact .when _ _ _ _ (λhp=>ih hp hc) h2
 |iter c b cb e=>intro c' hc; exact .iter _ _ _ (hc _ _ e)
def aa.cell:aa→Bool
 |.aI | .agg _ | .aG _ | .when ..=>false
 |_=>true
theorem Den.so{M:Nat→Option Obj}{c:Own}{x:aa}{v:Value}(h:Den M c x v)(hx:x.cell=true):v.oneCell'=true:=by
 cases h<;>simp_all [aa.cell,Value.oneCell']
inductive ab where
 |dead
 |box (row:List aa)
 |rows (sz:Nat) (rows:List (List aa))
 |map (es:List (aa×aa))
 |dN (s:List UInt8) (pos:Nat)
 deriving Inhabited
def ab.live:ab→Bool
 |.dead=>false
 |_=>true
def iD(M:Nat→Option Obj)(c:Own)(cb:CB)(o:Obj):ab→Prop
 |.dead=>True
 |.box row=>∃arr T,o=.cells arr T (0,0)∧arr.size=row.length∧∀(j:Nat) (x:aa) (v:Value),row[j]?=some x→arr[j]?=some v→Den M c x v
 |.rows sz rows=>cb.sz=sz∧∃arr T,o=.cells arr T (0,0)∧arr.size=cb.Dq∧rows.length*sz≤cb.Dq∧(∀(i:Nat) (row:List aa),rows[i]?=some row→row.length=sz) ∧
   ∀(i:Nat) (row:List aa) (j:Nat) (x:aa) (v:Value),rows[i]?=some row→row[j]?=some x→arr[i*sz+j]?=some v→Den M c x v
 |.map es=>∃arr clock,o=.map arr clock∧arr.size=es.length∧(∀(i:Nat) (k x:aa) (e:MapEntry),es[i]?=some (k,x)→arr[i]?=some e→Den M c k e.key∧Den M c x e.val)
 |.dN s p=>o=.stringIter ⟨s.toArray⟩ p
theorem iD.mono{M M':Nat→Option Obj}(hM:fE M M'){c c':Own}(hc:eF c c'){cb:CB}{o:Obj}{b:ab}(h:iD M c cb o b):iD M' c' cb o b:=by
 cases b with
 |dead=>trivial
 |box row=>obtain⟨arr,T,h1,h2,h3⟩:=h; exact⟨arr,T,h1,h2,λj x v e1 e2=>(h3 j x v e1 e2).mono hM hc⟩
 |rows sz rows=>obtain⟨h0,arr,T,h1,h2,h3,h4,h5⟩:=h; exact⟨h0,arr,T,h1,h2,h3,h4,λi row j x v e1 e2 e3=>(h5 i row j x v e1 e2 e3).mono hM hc⟩
 |map es=>obtain⟨arr,clock,h1,h2,h3⟩:=h; exact⟨arr,clock,h1,h2,λi k x e e1 e2=>⟨(h3 i k x e e1 e2).1.mono hM hc,(h3 i k x e e1 e2).2.mono hM hc⟩⟩
 |dN s p=>exact h
structure Ln where
 l:List Nat
 M0:Nat→Option Obj
structure fX (L:Ln) (w w':World):Prop where
 os:w'.os=w.os
 tape:w'.tape=w.tape
 output:w'.output=w.output
 size:w.heap.size≤w'.heap.size
 block:∀k,k<w.heap.size→k∉L.l→w'.heap[k]?=w.heap[k]?
theorem fX.refl(L:Ln)(w:World):fX L w w:=⟨rfl,rfl,rfl,Nat.le_refl _,λ_ _ _=>rfl⟩
theorem fX.below{M:Nat→Option Obj}{w w':World}(h:fX ⟨[],M⟩ w w'):Below w.heap.size w w':=⟨h.os,h.tape,h.output,h.size,λk hk=>h.block k hk (by simp)⟩
abbrev Hp:=Nat→Option ab
def dH(h:Hp)(b:Nat)(x:ab):Hp:=λn=>if n=b then some x else h n
def ca(h:Hp):List (Nat×ab)→Hp
 |[]=>h
 |(b,x)::r=>ca (dH h b x) r
structure Gm where
 M:Nat→Option Obj
 c:Own
structure Gm.Le (g g':Gm):Prop where
 m:fE g.M g'.M
 c:eF g.c g'.c
theorem Gm.Le.refl(g:Gm):g.Le g:=⟨fE.refl _,eF.refl _⟩
theorem Gm.Le.trans{a b c:Gm}(h:a.Le b)(k:b.Le c):a.Le c:=⟨h.m.trans k.m,h.c.trans k.c⟩
def Gm.den(g:Gm)(x:aa)(v:Value):Prop:=Den g.M g.c x v
theorem Gm.jV{g g':Gm}(h:g.Le g'){x:aa}{v:Value}(d:g.den x v):g'.den x v:=Den.mono h.m d h.c
abbrev aA:=List (Nat×List aa)
structure a_ (GL:aA) (w0:World) (L:Ln) (g:Gm) (h:Hp) (w:World):Prop where
 keeps:fX L w0 w
 aJ:∀b o,g.M b=some o→w.heap[b]?=some o
 src:∀b o,g.M b=some o→L.M0 b=some o∨w0.heap.size≤b∨b∈L.l
 bz:∀p∈GL,Den g.M aV (.ay p.2 0) (.pointer (some ⟨p.1,0,none⟩))
 dc:∀b,h b=none→g.c b=none
 ig:∀b blk,h b=some blk→∃cb,g.c b=some cb
 own:∀b blk cb,h b=some blk→blk.live=true→g.c b=some cb→cb.cS=false→g.M cb.blk=none∧(cb.blk∈L.l∨w0.heap.size≤cb.blk)∧∃o,w.heap[cb.blk]?=some o∧iD g.M g.c cb o blk
 aN:∀b blk cb,h b=some blk→blk.live=true→g.c b=some cb→cb.cS=true→blk=.rows cb.sz []
 inj:∀b b' blk blk' cb cV,h b=some blk→h b'=some blk'→blk.live=true→blk'.live=true→g.c b=some cb→g.c b'=some cV→cb.cS=false→cV.cS=false→cb.blk=cV.blk→b=b'
end Go.Ah
end
section
namespace Go.Ah
theorem Xs(h:Hp)(b:Nat)(x:ab):dH h b x b=some x:=by simp[dH]
theorem Xq(h:Hp){b n:Nat}(x:ab)(e:n≠b):dH h b x n=h n:=by simp[dH,e]
def gq(c:Own)(b:Nat)(x:CB):Own:=λn=>if n=b then some x else c n
theorem Xv(c:Own)(b:Nat)(x:CB):gq c b x b=some x:=by simp[gq]
theorem YT(c:Own){b n:Nat}(x:CB)(e:n≠b):gq c b x n=c n:=by simp[gq,e]
theorem eF.gq{c:Own}{b:Nat}{x:CB}(h:c b=none):eF c (gq c b x):=by
 intro n cb e;by_cases hn:n=b
 ·subst hn; rw[h] at e; cases e
 ·rw[YT _ _ hn]; exact e
theorem fX.trans'{L:Ln}{a b c:World}(h:fX L a b)(os:c.os=b.os)(tape:c.tape=b.tape)(output:c.output=b.output)(size:b.heap.size≤c.heap.size)
 (block:∀k,k<a.heap.size→k∉L.l→c.heap[k]?=b.heap[k]?):fX L a c:=
 ⟨os.trans h.os,tape.trans h.tape,output.trans h.output,Nat.le_trans h.size size,λk hk hl=>(block k hk hl).trans (h.block k hk hl)⟩
section
variable {GL:aA} {w0:World} {L:Ln} {g:Gm} {h:Hp} {w:World}
theorem a_.dh(r:a_ GL w0 L g h w){b:Nat}{blk:ab}{cb:CB}(e:h b=some blk)(hl:blk.live=true)(ec:g.c b=some cb)(hv:cb.cS=false):cb.blk<w.heap.size:=by
 obtain⟨_,_,o,ho,_⟩:=r.own b blk cb e hl ec hv;exact(Array.getElem?_eq_some_iff.1 ho).1
theorem a_.eg(r:a_ GL w0 L g h w){b:Nat}{o:Obj}(e:g.M b=some o):b<w.heap.size:=
 (Array.getElem?_eq_some_iff.1 (r.aJ b o e)).1
theorem a_.drew(r:a_ GL w0 L g h w):a_ GL w0 L g h w.drew:=
 { r with keeps:=r.keeps.trans' rfl rfl rfl (Nat.le_refl _) (λ_ _ _=>rfl),aJ:=r.aJ,own:=r.own }
theorem a_.alloc(r:a_ GL w0 L g h w){nb:Nat}(hn:h nb=none){o:Obj}{blk:ab}{cb:CB}(hb:cb.blk=w.heap.size)(hv:cb.cS=false)(z_:blk.live=true)
 (ok:iD g.M (gq g.c nb cb) cb o blk):a_ GL w0 L ⟨g.M,gq g.c nb cb⟩ (dH h nb blk) (w.alloc o) where
 keeps:=r.keeps.trans' rfl rfl rfl (by simp) (λk hk _=>by
  show (w.heap.push o)[k]?=_;have:=r.keeps.size;rw[Array.getElem?_push,if_neg (by omega)])
 aJ:=λb o' e=>by
  have:=r.eg e;show (w.heap.push o)[b]?=_;rw[Array.getElem?_push,if_neg (by omega)]; exact r.aJ b o' e
 bz:=r.bz
 src:=r.src
 dc:=λb e=>by
  by_cases iz:b=nb
  ·subst iz; rw[Xs] at e; cases e
  ·rw[Xq _ _ iz] at e; show gq g.c nb cb b=none; rw[YT _ _ iz]; exact r.dc b e
 ig:=λb blk' e=>by
  by_cases iz:b=nb
  ·subst iz; exact⟨cb,Xv _ _ _⟩
  ·rw[Xq _ _ iz] at e; obtain⟨x,hx⟩:=r.ig b blk' e; exact⟨x,by show gq g.c nb cb b=_; rw[YT _ _ iz]; exact hx⟩
 own:=λb blk' cV e hl ec ni=>by
  have Dg:=r.dc nb hn;by_cases iz:b=nb
  ·subst iz;rw[Xs] at e; cases e;have:cV=cb:=by have:gq g.c b cb b=some cV:=ec; rw[Xv] at this; exact(Option.some.inj this).symm
   subst this;refine⟨?_,.inr (by rw[hb]; exact r.keeps.size),o,?_,ok⟩
   ·cases hM:g.M cV.blk with
    |none=>rfl
    |some x=>have:=r.eg hM; omega
   ·show (w.heap.push o)[cV.blk]?=_; rw[hb]; simp
  ·rw[Xq _ _ iz] at e;have fo:g.c b=some cV:=by have:gq g.c nb cb b=some cV:=ec; rwa [YT _ _ iz] at this
   obtain⟨h1,h2,o',ho,de⟩:=r.own b blk' cV e hl fo ni;have:=r.dh e hl fo ni;refine⟨h1,h2,o',?_,de.mono (fE.refl _) (eF.gq Dg)⟩;show (w.heap.push o)[cV.blk]?=_;rw[Array.getElem?_push,if_neg (by omega)]; exact ho
 aN:=λb blk' cV e hl ec ni=>by
  by_cases iz:b=nb
  ·subst iz;have:cV=cb:=by have:gq g.c b cb b=some cV:=ec; rw[Xv] at this; exact(Option.some.inj this).symm
   subst this; rw[hv] at ni; cases ni
  ·rw[Xq _ _ iz] at e;have fo:g.c b=some cV:=by have:gq g.c nb cb b=some cV:=ec; rwa [YT _ _ iz] at this
   exact r.aN b blk' cV e hl fo ni
 inj:=λb b' Ea Eb nK nw e1 e2 l1 l2 c1 c2 v1 v2 gu=>by
  have key:∀b blk' cV,dH h nb blk b=some blk'→blk'.live=true→gq g.c nb cb b=some cV→cV.cS=false→b≠nb→cV.blk<w.heap.size:=by
   intro b blk' cV e hl ec ni iz;rw[Xq _ _ iz] at e; rw[YT _ _ iz] at ec;exact r.dh e hl ec ni
  by_cases h1:b=nb
  ·by_cases h2:b'=nb
   ·rw[h1,h2]
   ·have:=key b' Eb nw e2 l2 c2 v2 h2;subst h1;have rJ:gq g.c b cb b=some nK:=c1;rw[Xv] at rJ; cases rJ; omega
  ·by_cases h2:b'=nb
   ·have:=key b Ea nK e1 l1 c1 v1 h1;subst h2;have pt:gq g.c b' cb b'=some nw:=c2;rw[Xv] at pt; cases pt; omega
   ·rw[Xq _ _ h1] at e1; rw[Xq _ _ h2] at e2;have rJ:g.c b=some nK:=by have:gq g.c nb cb b=some nK:=c1; rwa [YT _ _ h1] at this
    have pt:g.c b'=some nw:=by have:gq g.c nb cb b'=some nw:=c2; rwa [YT _ _ h2] at this
    exact r.inj b b' Ea Eb nK nw e1 e2 l1 l2 rJ pt v1 v2 gu
theorem a_.iJ(r:a_ GL w0 L g h w){nb:Nat}(hn:h nb=none)(cb:CB):g.Le ⟨g.M,gq g.c nb cb⟩:=⟨fE.refl _,eF.gq (r.dc nb hn)⟩
theorem a_.write(r:a_ GL w0 L g h w){b:Nat}{blk blk':ab}{cb:CB}(e:h b=some blk)(hl:blk.live=true)(ec:g.c b=some cb)(hv:cb.cS=false)(kP:blk'.live=true)
 {o':Obj}{w':World}(uK:w'.os=w.os)(uP:w'.tape=w.tape)(qf:w'.output=w.output)(pU:w'.heap=w.heap.setIfInBounds cb.blk o')
 (ok:iD g.M g.c cb o' blk'):a_ GL w0 L g (dH h b blk') w':=by
 have bj:=r.dh e hl ec hv;obtain⟨hM,cv,_⟩:=r.own b blk cb e hl ec hv;have other:∀k,k≠cb.blk→w'.heap[k]?=w.heap[k]?:=by
  intro k hk; rw[pU,Array.getElem?_setIfInBounds_ne (λe=>hk e.symm)]
 exact {
  keeps:=r.keeps.trans' uK uP qf (by rw[pU]; simp) (λk hk kH=>other k (by
   rintro rfl;rcases cv with cv|cv
   ·exact kH cv
   ·omega))
  aJ:=λk o ek=>by rw[other k (by rintro rfl; rw[hM] at ek; cases ek)]; exact r.aJ k o ek
  bz:=r.bz
  src:=r.src
  dc:=λn en=>by
   by_cases hn:n=b
   ·subst hn; rw[Xs] at en; cases en
   ·rw[Xq _ _ hn] at en; exact r.dc n en
  ig:=λn x en=>by
   by_cases hn:n=b
   ·subst hn; exact⟨cb,ec⟩
   ·rw[Xq _ _ hn] at en; exact r.ig n x en
  own:=λn x cV en eJ kZ nP=>by
   by_cases hn:n=b
   ·subst hn; rw[Xs] at en; cases en;rw[ec] at kZ; cases kZ;exact⟨hM,cv,o',by rw[pU]; simp[bj],ok⟩
   ·rw[Xq _ _ hn] at en;obtain⟨h1,h2,o,ho,de⟩:=r.own n x cV en eJ kZ nP;refine⟨h1,h2,o,?_,de⟩;rw[other _ (λeq=>hn (r.inj n b x blk cV cb en e eJ hl kZ ec nP hv eq))]; exact ho
  aN:=λn x cV en eJ kZ nP=>by
   by_cases hn:n=b
   ·subst hn; rw[ec] at kZ; cases kZ; rw[hv] at nP; cases nP
   ·rw[Xq _ _ hn] at en; exact r.aN n x cV en eJ kZ nP
  inj:=λn n' x x' nK nw e1 e2 l1 l2 c1 c2 v1 v2 gu=>by
   have back:∀n x,dH h b blk' n=some x→x.live=true→∃y,h n=some y∧y.live=true:=by
    intro n x en eJ;by_cases hn:n=b
    ·subst hn; exact⟨blk,e,hl⟩
    ·rw[Xq _ _ hn] at en; exact⟨x,en,eJ⟩
   obtain⟨y1,f1,g1⟩:=back n x e1 l1;obtain⟨y2,f2,g2⟩:=back n' x' e2 l2;exact r.inj n n' y1 y2 nK nw f1 f2 g1 g2 c1 c2 v1 v2 gu }
theorem a_.kill(r:a_ GL w0 L g h w){b:Nat}{blk:ab}(e:h b=some blk):a_ GL w0 L g (dH h b .dead) w where
 keeps:=r.keeps
 aJ:=r.aJ
 bz:=r.bz
 src:=r.src
 dc:=λn en=>by
  by_cases hn:n=b
  ·subst hn; rw[Xs] at en; cases en
  ·rw[Xq _ _ hn] at en; exact r.dc n en
 ig:=λn x en=>by
  by_cases hn:n=b
  ·subst hn; exact r.ig n blk e
  ·rw[Xq _ _ hn] at en; exact r.ig n x en
 own:=λn x cV en eJ=>by
  by_cases hn:n=b
  ·subst hn; rw[Xs] at en; cases en; simp[ab.live] at eJ
  ·rw[Xq _ _ hn] at en; exact r.own n x cV en eJ
 aN:=λn x cV en eJ=>by
  by_cases hn:n=b
  ·subst hn; rw[Xs] at en; cases en; simp[ab.live] at eJ
  ·rw[Xq _ _ hn] at en; exact r.aN n x cV en eJ
 inj:=λn n' x x' nK nw e1 e2 l1 l2=>by
  have back:∀n x,dH h b .dead n=some x→x.live=true→h n=some x:=by
   intro n x en eJ;by_cases hn:n=b
   ·subst hn; rw[Xs] at en; cases en; simp[ab.live] at eJ
   ·rwa [Xq _ _ hn] at en
  exact r.inj n n' x x' nK nw (back n x e1 l1) (back n' x' e2 l2) l1 l2
theorem a_.ghost(r:a_ GL w0 L g h w){nb:Nat}(hn:h nb=none)(sz:Nat):a_ GL w0 L ⟨g.M,gq g.c nb ⟨0,sz,0,true⟩⟩ (dH h nb (.rows sz [])) w:=by
 have Dg:=r.dc nb hn;have Er:=eF.gq (x:=⟨0,sz,0,true⟩) Dg;have tP:∀n cb,gq g.c nb ⟨0,sz,0,true⟩ n=some cb→cb.cS=false→g.c n=some cb∧n≠nb:=by
  intro n cb e hv;by_cases iz:n=nb
  ·subst iz; rw[Xv] at e; cases e; cases hv
  ·rw[YT _ _ iz] at e; exact⟨e,iz⟩
 exact {
  keeps:=r.keeps
  aJ:=r.aJ
  bz:=r.bz
  src:=r.src
  dc:=λn en=>by
   by_cases iz:n=nb
   ·subst iz; rw[Xs] at en; cases en
   ·rw[Xq _ _ iz] at en; show gq g.c nb _ n=none; rw[YT _ _ iz]; exact r.dc n en
  ig:=λn x en=>by
   by_cases iz:n=nb
   ·subst iz; exact⟨_,Xv _ _ _⟩
   ·rw[Xq _ _ iz] at en; obtain⟨x,hx⟩:=r.ig n x en; exact⟨x,by show gq g.c nb _ n=_; rw[YT _ _ iz]; exact hx⟩
  own:=λn x cb en eJ kZ nP=>by
   obtain⟨ec,iz⟩:=tP n cb kZ nP;rw[Xq _ _ iz] at en;obtain⟨h1,h2,o,ho,de⟩:=r.own n x cb en eJ ec nP;exact⟨h1,h2,o,ho,de.mono (fE.refl _) Er⟩
  aN:=λn x cb en eJ kZ nP=>by
   by_cases iz:n=nb
   ·subst iz; rw[Xs] at en; cases en;have:gq g.c n ⟨0,sz,0,true⟩ n=some cb:=kZ;rw[Xv] at this; cases this; rfl
   ·rw[Xq _ _ iz] at en;have:gq g.c nb ⟨0,sz,0,true⟩ n=some cb:=kZ;rw[YT _ _ iz] at this;exact r.aN n x cb en eJ this nP
  inj:=λn n' x x' nK nw e1 e2 l1 l2 c1 c2 v1 v2 gu=>by
   obtain⟨d1,n1⟩:=tP n nK c1 v1;obtain⟨d2,n2⟩:=tP n' nw c2 v2;rw[Xq _ _ n1] at e1; rw[Xq _ _ n2] at e2;exact r.inj n n' x x' nK nw e1 e2 l1 l2 d1 d2 v1 v2 gu }
def lk(M:Nat→Option Obj)(b:Nat)(o:Obj):Nat→Option Obj:=λn=>if n=b then some o else M n
theorem a_.freeze(r:a_ GL w0 L g h w){b:Nat}{blk:ab}{cb:CB}{o:Obj}(e:h b=some blk)(hl:blk.live=true)(ec:g.c b=some cb)(hv:cb.cS=false)(ho:w.heap[cb.blk]?=some o) :
  g.Le ⟨lk g.M cb.blk o,g.c⟩∧a_ GL w0 L ⟨lk g.M cb.blk o,g.c⟩ (dH h b .dead) w:=by
 obtain⟨hM,cv,_⟩:=r.own b blk cb e hl ec hv;have Au:fE g.M (lk g.M cb.blk o):=by
  intro n x en;by_cases hn:n=cb.blk
  ·subst hn; rw[hM] at en; cases en
  ·simp[lk,hn,en]
 have k:=r.kill e;refine⟨⟨Au,eF.refl _⟩,?_⟩;exact {
  keeps:=k.keeps
  aJ:=λn x en=>by
   by_cases hn:n=cb.blk
   ·subst hn;have:lk g.M cb.blk o cb.blk=some x:=en;simp[lk] at this; subst this; exact ho
   ·have:lk g.M cb.blk o n=some x:=en;simp[lk,hn] at this; exact r.aJ n x this
  bz:=λp hp=>(r.bz p hp).mono Au (eF.refl _)
  src:=λn x en=>by
   by_cases hn:n=cb.blk
   ·subst hn; rcases cv with h1|h1
    ·exact .inr (.inr h1)
    ·exact .inr (.inl h1)
   ·have:lk g.M cb.blk o n=some x:=en;simp[lk,hn] at this; exact r.src n x this
  dc:=k.dc
  ig:=k.ig
  own:=λn x cV en eJ kZ nP=>by
   obtain⟨h1,h2,o',dV,de⟩:=k.own n x cV en eJ kZ nP;have Fl:n≠b:=by rintro rfl; rw[Xs] at en; cases en; simp[ab.live] at eJ
   have PH:=en;rw[Xq _ _ Fl] at PH;have dL:cV.blk≠cb.blk:=λeq=>Fl (r.inj n b x blk cV cb PH e eJ hl kZ ec nP hv eq);exact⟨by show lk g.M cb.blk o cV.blk=none; simp[lk,dL,h1],h2,o',dV,de.mono Au (eF.refl _)⟩
  aN:=k.aN
  inj:=k.inj }
end
end Go.Ah
end
section
namespace Go.Ah
def nth{α:Type}:List α→Nat→Option α
 |[],_=>none
 |x::_,0=>some x
 |_::l,n+1=>nth l n
def fm{α:Type}:Nat→List α→List α
 |0,l=>l
 |_+1,[]=>[]
 |n+1,_::l=>fm n l
def takeN{α:Type}:Nat→List α→Option (List α)
 |0,_=>some []
 |_+1,[]=>none
 |n+1,x::l=>match takeN n l with
  |some r=>some (x::r)
  |none=>none
def bR{α:Type}:Nat→List α→List α→Option (List α)
 |_,[],l=>some l
 |0,_::_,[]=>none
 |0,c::cs,_::l=>match bR 0 cs l with
  |some r=>some (c::r)
  |none=>none
 |_+1,_::_,[]=>none
 |j+1,c::cs,x::l=>match bR j (c::cs) l with
  |some r=>some (x::r)
  |none=>none
def Yz{α:Type}:Nat→α→List α→Option (List α)
 |_,_,[]=>none
 |0,c,_::l=>some (c::l)
 |j+1,c,x::l=>match Yz j c l with
  |some r=>some (x::r)
  |none=>none
def chunk{α:Type}(sz:Nat):Nat→List α→Option (List (List α))
 |0,_=>some []
 |n+1,l=>match takeN sz l,chunk sz n (fm sz l) with
  |some r,some rs=>some (r::rs)
  |_,_=>none
theorem QU{α:Type}(l:List α)(n:Nat):nth l n=l[n]?:=by
 induction l generalizing n with
 |nil=>simp[nth]
 |cons x l ih=>cases n with
  |zero=>simp[nth]
  |succ n=>simp[nth,ih]
theorem Hi{α:Type}(n:Nat)(l:List α):fm n l=l.drop n:=by
 induction n generalizing l with
 |zero=>simp[fm]
 |succ n ih=>cases l with
  |nil=>simp[fm]
  |cons x l=>simp[fm,ih]
theorem IB{α:Type}{n:Nat}{l r:List α}(h:takeN n l=some r):r.length=n∧n≤l.length∧∀i,i<n→r[i]?=l[i]?:=by
 induction n generalizing l r with
 |zero=>simp only[takeN] at h; cases h; exact⟨rfl,Nat.zero_le _,λi hi=>by omega⟩
 |succ n ih=>
  cases l with
  |nil=>simp[takeN] at h
  |cons x l=>
   simp only[takeN] at h;cases ht:takeN n l with
   |none=>simp[ht] at h
   |some r'=>
    simp only[ht] at h; cases h;obtain⟨h1,h2,h3⟩:=ih ht;refine⟨by simp[h1],by simp; omega,λi hi=>?_⟩;cases i with
    |zero=>simp
    |succ i=>simp; exact h3 i (by omega)
theorem JO{α:Type}{j:Nat}{cs l r:List α}(h:bR j cs l=some r):r.length=l.length∧(cs≠[]→j+cs.length≤l.length)∧∀i,r[i]?=if j≤i∧i<j+cs.length then cs[i-j]? else l[i]?:=by
 induction l generalizing j cs r with
 |nil=>
  cases cs with
  |nil=>simp only[bR] at h; cases h; exact⟨rfl,λh=>(h rfl).elim,λi=>by simp⟩
  |cons c cs=>cases j<;>simp[bR] at h
 |cons x l ih=>
  cases cs with
  |nil=>simp only[bR] at h; cases h; exact⟨rfl,λh=>(h rfl).elim,λi=>by simp; omega⟩
  |cons c cs=>
   cases j with
   |zero=>
    simp only[bR] at h;cases ht:bR 0 cs l with
    |none=>simp[ht] at h
    |some r'=>
     simp only[ht] at h; cases h;obtain⟨h1,h2,h3⟩:=ih ht;refine⟨by simp[h1],λ_=>?_,λi=>?_⟩
     ·cases cs with
      |nil=>simp
      |cons d ds=>have:=h2 (by simp); simp at this ⊢; omega
     ·cases i with
      |zero=>simp
      |succ i=>
       simp only[List.getElem?_cons_succ,h3 i];by_cases hi:i<cs.length<;>simp[hi]
   |succ j=>
    simp only[bR] at h;cases ht:bR j (c::cs) l with
    |none=>simp[ht] at h
    |some r'=>
     simp only[ht] at h; cases h;obtain⟨h1,h2,h3⟩:=ih ht;refine⟨by simp[h1],λ_=>?_,λi=>?_⟩
     ·have:=h2 (by simp); simp at this ⊢; omega
     ·cases i with
      |zero=>simp
      |succ i=>
       simp only[List.getElem?_cons_succ,h3 i];by_cases hi:j≤i∧i<j+(c::cs).length
       ·rw[if_pos hi,if_pos (by omega)]; congr 1; omega
       ·rw[if_neg hi,if_neg (by omega)]
theorem TK{α:Type}{j:Nat}{c:α}{l r:List α}(h:Yz j c l=some r):r.length=l.length∧j<l.length∧∀i,r[i]?=if i=j then some c else l[i]?:=by
 induction l generalizing j r with
 |nil=>cases j<;>simp[Yz] at h
 |cons x l ih=>
  cases j with
  |zero=>simp only[Yz] at h; cases h; exact⟨rfl,by simp,λi=>by cases i<;>simp⟩
  |succ j=>
   simp only[Yz] at h;cases ht:Yz j c l with
   |none=>simp[ht] at h
   |some r'=>
    simp only[ht] at h; cases h;obtain⟨h1,h2,h3⟩:=ih ht;refine⟨by simp[h1],by simp; omega,λi=>?_⟩;cases i with
    |zero=>simp
    |succ i=>simp[h3 i]
theorem UA{α:Type}{sz n:Nat}{l:List α}{rs:List (List α)}(h:chunk sz n l=some rs):rs.length=n∧(n*sz≤l.length∨n=0)∧(∀(i:Nat) (row:List α),rs[i]?=some row→row.length=sz) ∧
  ∀(i:Nat) (row:List α) (j:Nat) (x:α),rs[i]?=some row→row[j]?=some x→l[i*sz+j]?=some x:=by
 induction n generalizing l rs with
 |zero=>simp only[chunk] at h; cases h; exact⟨rfl,.inr rfl,by simp,by simp⟩
 |succ n ih=>
  simp only[chunk] at h;cases ht:takeN sz l with
  |none=>simp[ht] at h
  |some r=>
   cases hc:chunk sz n (fm sz l) with
   |none=>simp[ht,hc] at h
   |some iu=>
    simp only[ht,hc] at h; cases h;obtain⟨t1,t2,t3⟩:=IB ht;obtain⟨h1,h2,h3,h4⟩:=ih hc;rw[Hi] at h2 h4;refine⟨by simp[h1],.inl ?_,λi row e=>?_,λi row j x e1 e2=>?_⟩
    ·rw[List.length_drop] at h2;rw[Nat.succ_mul];rcases h2 with h2|h2
     ·omega
     ·subst h2; omega
    ·cases i with
     |zero=>simp at e; rw[←e]; exact t1
     |succ i=>simp at e; exact h3 i row e
    ·cases i with
     |zero=>
      simp at e1; subst e1;have:j<sz:=by rw[←t1]; exact(cJ e2).1
      rw[t3 j this] at e2; simpa using e2
     |succ i=>
      simp at e1;have:=h4 i row j x e1 e2;rw[List.getElem?_drop] at this;rw[←this]; congr 1; rw[Nat.succ_mul]; omega
def mG:Value→Option aa
 |.bool b=>some (.bool b)
 |.int k n=>some (.int k n)
 |.string s=>some (.str s.data.toList)
 |.pointer none=>some .bQ
 |.slice none 0 0=>some .af
 |.map none=>some .bD
 |.nilFunc=>some .ct
 |.nilIface=>some .dX
 |_=>none
def XC:List Value→Option (List aa)
 |[]=>some []
 |v::l=>match mG v,XC l with
  |some x,some r=>some (x::r)
  |_,_=>none
def nS:Value→Option aa
 |.agg cs=>(XC cs.toList).map .agg
 |v=>mG v
theorem MV{M:Nat→Option Obj}{c:Own}{v:Value}{x:aa}(h:mG v=some x):Den M c x v:=by
 unfold mG at h;split at h<;>first|(cases h; constructor)|cases h
theorem YK{M:Nat→Option Obj}{c:Own}{l:List Value}{xs:List aa}(h:XC l=some xs):l.length=xs.length∧∀(i:Nat) (x:aa) (v:Value),xs[i]?=some x→l[i]?=some v→Den M c x v:=by
 induction l generalizing xs with
 |nil=>simp only[XC] at h; cases h; exact⟨rfl,by simp⟩
 |cons v l ih=>
  simp only[XC] at h;cases hv:mG v with
  |none=>simp[hv] at h
  |some x=>
   cases hl:XC l with
   |none=>simp[hv,hl] at h
   |some r=>
    simp only[hv,hl] at h; cases h;obtain⟨h1,h2⟩:=ih hl;refine⟨by simp[h1],λi y u e1 e2=>?_⟩;cases i with
    |zero=>simp at e1 e2; subst e1 e2; exact MV hv
    |succ i=>simp at e1 e2; exact h2 i y u e1 e2
theorem Hh{M:Nat→Option Obj}{c:Own}{v:Value}{x:aa}(h:nS v=some x):Den M c x v:=by
 unfold nS at h;split at h
 ·rename_i cs;cases hc:XC cs.toList with
  |none=>simp[hc] at h
  |some xs=>
   simp[hc] at h; subst h;obtain⟨h1,h2⟩:=YK (M:=M) (c:=c) hc;exact .agg _ _ _ (by simpa using h1) (λi x v e1 e2=>h2 i x v e1 (by simpa using e2))
 ·exact MV h
abbrev Frame:=List (Nat×aa)
def bn:Frame→Nat→aa
 |[],_=>.aI
 |(k,v)::r,n=>bif Nat.beq k n then v else bn r n
inductive tD where
 |t (n:Nat)
 |c (v:aa)
 deriving Inhabited
def ev(ρ:Frame):tD→aa
 |.t n=>bn ρ n
 |.c v=>v
inductive jR (GL:aA):Operand→tD→Prop
 |tmp (t:Nat):jR GL (.tmp t) (.t t)
 |const (v:Value) (x:aa):nS v=some x→jR GL (.const v) (.c x)
 |EF (g:Nat) (row:List aa):(g,row)∈GL→jR GL (.global g) (.c (.ay row 0))
 |func (f:FuncId):jR GL (.func f) (.c (.func (.func f) [] []))
structure df (n:Nat) (g:Gm) (ρ:Frame) (a:Act):Prop where
 size:a.tmps.size=n
 slot:∀t,g.den (bn ρ t) (a.tmps.getD t undef)
 defers:a.defers=[]
theorem df.mono{n:Nat}{g g':Gm}{ρ:Frame}{a:Act}(h:df n g ρ a)(hg:g.Le g'):df n g' ρ a:=⟨h.size,λt=>Gm.jV hg (h.slot t),h.defers⟩
theorem XG(ρ:Frame)(d:Nat)(v:aa)(t:Nat):bn ((d,v)::ρ) t=if t=d then v else bn ρ t:=by
 simp only[bn];by_cases h:t=d
 ·subst h; simp[Nat.beq_refl]
 ·rw[if_neg h];have:Nat.beq d t=false:=by
   cases hb:Nat.beq d t with
   |false=>rfl
   |true=>exact(h (eZ hb).symm).elim
  rw[this]; rfl
theorem df.put{n:Nat}{g:Gm}{ρ:Frame}{a:Act}(h:df n g ρ a){d:Nat}(hd:d<n){x:aa}{v:Value}(hx:g.den x v):df n g ((d,x)::ρ) (a.put (some d) v):=by
 refine⟨by simp[Act.put,h.size],λt=>?_,h.defers⟩;rw[XG];have hs:=h.size;by_cases ht:t=d
 ·subst ht;simp only[if_true,Act.put];have:(a.tmps.setIfInBounds t v).getD t undef=v:=by
   simp[Array.getD_eq_getD_getElem?,hs,hd]
  rw[this]; exact hx
 ·rw[if_neg ht];have:(a.put (some d) v).tmps.getD t undef=a.tmps.getD t undef:=by
   simp[Act.put,Array.getD_eq_getD_getElem?,Array.getElem?_setIfInBounds_ne (λe=>ht e.symm)]
  rw[this]; exact h.slot t
theorem df.RG{GL:aA}{w0:World}{L:Ln}{g:Gm}{h:Hp}{w:World}(r:a_ GL w0 L g h w){n:Nat}{ρ:Frame}{a:Act}(d:df n g ρ a){x:Operand}{y:tD}(ok:jR GL x y):g.den (ev ρ y) (a.eval x):=by
 cases ok with
 |tmp t=>exact d.slot t
 |const v x e=>exact Hh e
 |EF gl row e=>exact(r.bz _ e).mono (fE.refl _) (eF.aV _)
 |func f=>exact .func _ _ _ _ _ _ rfl rfl (by simp) (by simp)
inductive dD where
 |ptr|slice|iface|func|map
 deriving Inhabited
inductive MK where
 |mv
 |pick
 |alloc (z:List aa)
 |box
 |build (z:List aa) (ps:List (Nat×Nat))
 |kM (sz n:Nat) (z:List aa) (ps:List (Nat×Nat))
 |load (agg:Bool) (n:Nat)
 |store (n:Nat)
 |nilCheck
 |bin (op:BinOp) (isBool:Bool)
 |mR (c:dD) (neq left:Bool)
 |yq (neq:Bool) (ls:List Bool)
 |un (op:UnOp)
 |conv (k:IntKind)
 |gj (t:TypeId)
 |iL (fn:Fn) (n:Nat)
 |makeMap
 |fieldAddr (off:Nat)
 |field (agg:Bool) (off n:Nat)
 |eS (len k_:Nat)
 |dW (k_:Nat)
 |qi (agg:Bool) (len k_:Nat)
 |jE
 |extract (i:Nat)
 |cu (k_:Nat) (lo hi mx:Bool)
 |dg (lo hi:Bool)
 |ql
 |iK
 |qk (n:Nat)
 |kR
 |min2
 |max2
 |append (k_ bytes:Nat) (z:List aa)
 |call (f:FuncId)
 |cH
 |lookup (str ok:Bool) (z:aa)
 |jG (str:Bool)
 |range
 |next
 |d_ (t:TypeId) (ok:Bool) (z:aa)
 |invoke (name:String) (tbl:List (TypeId×FuncId))
 |fG (k_:Nat) (z:List aa)
 |qm (k_ bytes:Nat) (z:List aa)
 |jS (k_:Nat)
 deriving Inhabited
def ea(P:Program)(t:TypeId):Option Bool:=
 match P.underlying t with
 |some (.struct _)=>some true
 |some (.array _ _)=>some true
 |some _=>some false
 |none=>none
def size?(P:Program)(t:TypeId):Option Nat:=(P.info? t).map (·.size)
def dz(P:Program)(t:TypeId):Option Value:=(P.info? t).bind (·.zero)
def dG(P:Program)(t:TypeId):Option TypeId:=
 match P.underlying t with
 |some (.slice e)=>some e
 |_=>none
def sJ(P:Program)(t:TypeId):Option dD:=
 match P.underlying t with
 |some (.pointer _)=>some .ptr
 |some (.slice _)=>some .slice
 |some (.interface _)=>some .iface
 |some (.func _ _ _)=>some .func
 |some (.map _ _)=>some .map
 |_=>none
def iM:dD→Value
 |.ptr=>.pointer none
 |.slice=>.slice none 0 0
 |.iface=>.nilIface
 |.func=>.nilFunc
 |.map=>.map none
def lh(P:Program)(t:TypeId):Option Bool:=
 match P.underlying t with
 |some (.int _)=>some false
 |some .bool=>some true
 |_=>none
def pf(P:Program)(t:TypeId):Option (List Bool):=
 match P.underlying t with
 |some (.struct fs)=>
  if fs.toList.all (λf=>f.name != "_")&&(fs.toList.map (·.offset)==List.range' 0 fs.toList.length) then fs.toList.mapM (λf=>lh P f.type) else none
 |_=>none
def Xl(P:Program)(f:FuncId):Bool:=
 match P.funcs[f]? with
 |some fn=>fn.name != "runtime.NumGoroutine" && fn.body.isSome
 |none=>false
def sC(P:Program)(k:TypeId):Bool→Prop
 |true=>P.underlying k=some .string
 |false=>∃q,P.underlying k=some (.int q)
inductive bH (P:Program) (GL:aA):Op→MK→List Operand→Prop
 |move (x:Operand):bH P GL (.move x) .mv [x]
 |assign (x:Operand):bH P GL (.assign x) .mv [x]
 |pick (c a b:Operand):bH P GL (.pick c a b) .pick [c,a,b]
 |alloc (t:TypeId) (v:Value) (z:List aa):dz P t=some v→XC v.cells.toList=some z→bH P GL (.alloc t) (.alloc z) []
 |box (t:TypeId) (x:Operand):bH P GL (.box t x) .box [x]
 |buildStruct (t:TypeId) (fs:Array Field) (v:Value) (z:List aa) (parts:Array (Nat×Operand)) (places ps:List (Nat×Nat)) :
   P.underlying t=some (.struct fs)→dz P t=some v→XC v.cells.toList=some z→fs.toList.mapM (λf=>(P.info? f.type).map λi=>(f.offset,i.size))=some places →
   parts.toList.map (λp=>places[p.1]?)=ps.map some→bH P GL (.build t parts) (.build z ps) (parts.toList.map (·.2))
 |mL (t:TypeId) (n:Nat) (e:TypeId) (v:Value) (z:List aa) (parts:Array (Nat×Operand)) (ps:List (Nat×Nat)) (sz:Nat) :
   P.underlying t=some (.array n e)→dz P t=some v→XC v.cells.toList=some z→size? P e=some sz →
   parts.toList.map (λp=>(p.1*sz,sz))=ps→bH P GL (.build t parts) (.build z ps) (parts.toList.map (·.2))
 |buildSlice (t:TypeId) (n:Nat) (e:TypeId) (v:Value) (z0 z:List aa) (parts:Array (Nat×Operand)) (ps:List (Nat×Nat)) (sz:Nat) :
   dG P t=some e→size? P e=some sz→n*sz≤2 ^ 24→n*sz≠0→dz P e=some v→v.cells.size=sz→XC v.cells.toList=some z0→(List.replicate n z0).flatten=z →
   parts.toList.map (λp=>(p.1*sz,sz))=ps→bH P GL (.buildSlice t n parts) (.kM sz n z ps) (parts.toList.map (·.2))
 |kY (t e:TypeId) (sz:Nat) (parts:Array (Nat×Operand)):dG P t=some e→size? P e=some sz→parts.toList=[]→bH P GL (.buildSlice t 0 parts) (.jS sz) []
 |makeSlice (t:TypeId) (l:Operand) (e:TypeId) (v:Value) (n cd:Nat) (z:List aa):dG P t=some e→size? P e=some n→(P.info? e).map (·.bytes)=some cd→n≠0→dz P e=some v→v.cells.size=n→XC v.cells.toList=some z →
   bH P GL (.makeSlice t l l) (.qm n cd z) [l]
 |load (t:TypeId) (x:Operand) (agg:Bool) (n:Nat):ea P t=some agg→size? P t=some n→bH P GL (.load t x) (.load agg n) [x]
 |store (t:TypeId) (x y:Operand) (n:Nat):size? P t=some n→bH P GL (.store t x y) (.store n) [x,y]
 |nilCheck (x:Operand):bH P GL (.nilCheck x) .nilCheck [x]
 |bin (op:BinOp) (t t':TypeId) (x y:Operand) (b:Bool):(b=true→P.underlying t=some .bool)→bH P GL (.binOp op t x y t') (.bin op b) [x,y]
 |ub (c:dD) (neq:Bool) (t t':TypeId) (x:Operand):sJ P t=some c→bH P GL (.binOp (if neq then .neq else .eql) t x (.const (iM c)) t') (.mR c neq false) [x,.const (iM c)]
 |ua (c:dD) (neq:Bool) (t t':TypeId) (y:Operand):sJ P t=some c→bH P GL (.binOp (if neq then .neq else .eql) t (.const (iM c)) y t') (.mR c neq true) [.const (iM c),y]
 |yq (neq:Bool) (t t':TypeId) (x y:Operand) (ls:List Bool):pf P t=some ls→P.stoodInHeld t=false→P.eqGuardType P.depth t=false →
   bH P GL (.binOp (if neq then .neq else .eql) t x y t') (.yq neq ls) [x,y]
 |un (op:UnOp) (t:TypeId) (x:Operand):bH P GL (.unOp op t x) (.un op) [x]
 |conv (s d:TypeId) (x:Operand) (k:IntKind):(P.underlying s).isSome=true→P.underlying d=some (.int k)→bH P GL (.convert s d x) (.conv k) [x]
 |gj (t:TypeId) (x:Operand):P.concrete t=true→bH P GL (.makeInterface t x) (.gj t) [x]
 |iL (fn:Fn) (xs ys:Array Operand):bH P GL (.makeFunc fn xs ys) (.iL fn xs.size) (xs.toList++ys.toList)
 |makeMap (t:TypeId):bH P GL (.makeMap t none) .makeMap []
 |fieldAddr (t:TypeId) (x:Operand) (f:Nat) (fs:Array Field) (fd:Field) (n:Nat):P.underlying t=some (.struct fs)→fs[f]?=some fd→size? P fd.type=some n→n≠0 →
   bH P GL (.fieldAddr t x f) (.fieldAddr fd.offset) [x]
 |field (t:TypeId) (x:Operand) (f:Nat) (fs:Array Field) (fd:Field) (agg:Bool) (n:Nat):P.underlying t=some (.struct fs)→fs[f]?=some fd→size? P fd.type=some n→ea P fd.type=some agg →
   bH P GL (.field t x f) (.field agg fd.offset n) [x]
 |eS (t:TypeId) (x i:Operand) (len:Nat) (e:TypeId) (n:Nat):P.underlying t=some (.array len e)→size? P e=some n→bH P GL (.indexAddr t x i) (.eS len n) [x,i]
 |dW (t:TypeId) (x i:Operand) (e:TypeId) (n:Nat):P.underlying t=some (.slice e)→size? P e=some n→bH P GL (.indexAddr t x i) (.dW n) [x,i]
 |qi (t:TypeId) (x i:Operand) (len:Nat) (e:TypeId) (n:Nat) (agg:Bool):P.underlying t=some (.array len e)→size? P e=some n→ea P e=some agg →
   bH P GL (.index t x i) (.qi agg len n) [x,i]
 |jE (t:TypeId) (x i:Operand):P.underlying t=some .string→bH P GL (.index t x i) .jE [x,i]
 |extract (x:Operand) (i:Nat):bH P GL (.extract x i) (.extract i) [x]
 |cu (t:TypeId) (x:Operand) (lo hi mx:Option Operand) (e:TypeId) (n:Nat):P.underlying t=some (.slice e)→size? P e=some n →
   bH P GL (.slice t x lo hi mx) (.cu n lo.isSome hi.isSome mx.isSome) ([x]++lo.toList++hi.toList++mx.toList)
 |dg (t:TypeId) (x:Operand) (lo hi:Option Operand):P.underlying t=some .string →
   bH P GL (.slice t x lo hi none) (.dg lo.isSome hi.isSome) ([x]++lo.toList++hi.toList)
 |ql (t e:TypeId) (x:Operand):P.underlying t=some (.slice e)→bH P GL (.call ⟨.builtin .len,#[x],#[t]⟩) .ql [x]
 |iK (t:TypeId) (x:Operand):P.underlying t=some .string→bH P GL (.call ⟨.builtin .len,#[x],#[t]⟩) .iK [x]
 |qk (t e:TypeId) (n:Nat) (x:Operand):P.underlying t=some (.array n e)→bH P GL (.call ⟨.builtin .len,#[x],#[t]⟩) (.qk n) [x]
 |kR (t k e:TypeId) (x:Operand):P.underlying t=some (.map k e)→bH P GL (.call ⟨.builtin .len,#[x],#[t]⟩) .kR [x]
 |min2 (ts:Array TypeId) (x y:Operand):bH P GL (.call ⟨.builtin .min,#[x,y],ts⟩) .min2 [x,y]
 |max2 (ts:Array TypeId) (x y:Operand):bH P GL (.call ⟨.builtin .max,#[x,y],ts⟩) .max2 [x,y]
 |append (t t' e:TypeId) (x y:Operand) (n cd:Nat) (v:Value) (z:List aa):P.underlying t=some (.slice e)→(∃d,P.underlying t'=some d∧(∀k,d≠.int k))→size? P e=some n→P.bytesOf e=cd→dz P e=some v →
   v.cells.size=n→XC v.cells.toList=some z→cd≠0→n≠0→bH P GL (.call ⟨.builtin .append,#[x,y],#[t,t']⟩) (.append n cd z) [x,y]
 |call (f:FuncId) (xs:Array Operand) (ts:Array TypeId):Xl P f=true→bH P GL (.call ⟨.value (.func f),xs,ts⟩) (.call f) xs.toList
 |cH (x:Operand) (xs:Array Operand) (ts:Array TypeId):bH P GL (.call ⟨.value x,xs,ts⟩) .cH (x::xs.toList)
 |lookup (t k e:TypeId) (x i:Operand) (str ok:Bool) (v:Value) (z:aa):P.underlying t=some (.map k e)→sC P k str→dz P e=some v→nS v=some z →
   bH P GL (.lookup t x i ok) (.lookup str ok z) [x,i]
 |mapUpdate (t k e:TypeId) (x i y:Operand) (str:Bool):P.underlying t=some (.map k e)→sC P k str→bH P GL (.mapUpdate t x i y) (.jG str) [x,i,y]
 |mapInsert (t k e:TypeId) (x i y:Operand) (str:Bool):P.underlying t=some (.map k e)→sC P k str→bH P GL (.insert t x i y) (.jG str) [x,i,y]
 |fG (t e:TypeId) (x:Operand) (n:Nat) (v:Value) (z:List aa):dG P t=some e→size? P e=some n→n≠0→dz P e=some v→v.cells.size=n→XC v.cells.toList=some z →
   bH P GL (.call ⟨.builtin .clear,#[x],#[t]⟩) (.fG n z) [x]
 |range (t:TypeId) (x:Operand):P.underlying t=some .string→bH P GL (.range t x) .range [x]
 |next (x:Operand):bH P GL (.next x true) .next [x]
 |d_ (x:Operand) (t u:TypeId) (ok:Bool) (v:Value) (z:aa):P.concrete u=true→(P.underlying u).isSome=true→dz P u=some v→nS v=some z→bH P GL (.typeAssert x t u ok) (.d_ u ok z) [x]
inductive az where
 |ok (v:aa) (rd:List Nat) (up:List (Nat×ab))
 |stop
def ah:List ab→Nat→ab
 |[],_=>.dead
 |b::_,0=>b
 |_::l,n+1=>ah l n
def cellsOf:aa→Option (List aa)
 |.agg cs=>bif cs.all aa.cell then some cs else none
 |.aI=>none
 |.aG _=>none
 |.when ..=>none
 |x=>some [x]
def fill:List aa→List (Nat×Nat)→List aa→Option (List aa)
 |z,[],[]=>some z
 |z,(off,sz)::ps,x::xs=>match cellsOf x with
  | some cs=>bif Nat.beq cs.length sz && !(Nat.beq sz 0) then (match bR off cs z with
   |some z'=>fill z' ps xs
   | none=>none) else none
  |none=>none
 |_,_,_=>none
def gK:IntKind→IntKind→Bool
 |.i8,.i8 | .i16,.i16 | .i32,.i32 | .i64,.i64 | .u8,.u8 | .u16,.u16 | .u32,.u32 | .u64,.u64=>true
 |_,_=>false
theorem Q4{a b:IntKind}(h:gK a b=true):a=b:=by cases a<;>cases b<;>first|rfl|cases h
def lq(op:BinOp)(k:IntKind)(a b:Int):Option aa:=
 match op with
 |.add=>some (.int k (k.wrap (a+b)))
 |.sub=>some (.int k (k.wrap (a-b)))
 |.mul=>some (.int k (k.wrap (a*b)))
 |.eql=>some (.bool (a==b))
 |.neq=>some (.bool (a != b))
 |.lss=>some (.bool (a<b))
 |.leq=>some (.bool (a≤b))
 |.gtr=>some (.bool (a>b))
 |.geq=>some (.bool (a ≥ b))
 |.and=>some (.int k (bits .and k a b))
 |.or=>some (.int k (bits .or k a b))
 |.xor=>some (.int k (bits .xor k a b))
 |.andNot=>some (.int k (bits .andNot k a b))
 |_=>none
def vL(op:BinOp)(k k':IntKind)(a b:Int):Option aa:=
 match b with
 |.ofNat n=>match op with
  |.shl=>some (.int k (k.wrap (a*2 ^ (min n k.bits))))
  |.shr=>some (.int k (a.fdiv (2 ^ (min n k.bits))))
  |.quo=>bif Nat.beq n 0 then none else bif gK k k' then some (.int k (k.wrap (a.tdiv (.ofNat n)))) else none
  |.rem=>bif Nat.beq n 0 then none else bif gK k k' then some (.int k (a.tmod (.ofNat n))) else none
  |_=>none
 |.negSucc n=>match op with
  |.quo=>bif gK k k' then some (.int k (k.wrap (a.tdiv (.negSucc n)))) else none
  |.rem=>bif gK k k' then some (.int k (a.tmod (.negSucc n))) else none
  |_=>none
def mr:dD→aa→Option Bool
 |.ptr,.bQ=>some true
 |.ptr,.an ..=>some false
 |.ptr,.ptr ..=>some false
 |.ptr,.ay ..=>some false
 |.slice,.af=>some true
 |.slice,.ax _ true _ _=>some false
 |.slice,.ax _ false _ (_::_)=>some false
 |.slice,.sl _ _ (_+1) _=>some false
 |.func,.func ..=>some false
 |.func,.ct=>some true
 |.iface,.iface ..=>some false
 |.iface,.dX=>some true
 |.map,.map _=>some false
 |.map,.dZ _=>some false
 |.map,.bD=>some true
 |_,_=>none
def CW:Bool→aa→aa→Option Bool
 |false,.int k a,.int k' b=>bif gK k k' then some (a==b) else none
 |true,.bool a,.bool b=>some (a==b)
 |_,_,_=>none
def XM:List Bool→List aa→List aa→Option Bool
 |[],[],[]=>some true
 |l::ls,x::xs,y::ys=>match CW l x y,XM ls xs ys with
  |some a,some b=>some (a&&b)
  |_,_=>none
 |_,_,_=>none
def aF(agg:Bool)(off n:Nat)(cs:List aa):Option aa:=
 match agg with
 |true=>match takeN n (fm off cs) with
  |some r=>some (.agg r)
  |none=>none
 |false=>nth cs off
def Qi(xs:List aa)(σ:List ab):az:=match xs with
  |[x]=>.ok x [] []
  |_=>.stop
def Pp(xs:List aa)(σ:List ab):az:=match xs with
  |[.bool c,.bool a,.bool b]=>.ok (.bool (bif c then a else b)) [] []
  |_=>.stop
def Xe(z:List aa)(xs:List aa)(σ:List ab):az:=match xs with
  |[]=>.ok (.an σ.length 0) [] [(σ.length,.box z)]
  |_=>.stop
def Zm(xs:List aa)(σ:List ab):az:=match xs with
  |[x]=>match cellsOf x with
   |some cs=>.ok (.an σ.length 0) [] [(σ.length,.box cs)]
   |none=>.stop
  |_=>.stop
def Qe(z:List aa)(ps:List (Nat×Nat))(xs:List aa)(σ:List ab):az:=match fill z ps xs with
  |some cs=>.ok (.agg cs) [] []
  |none=>.stop
def Xi(sz:Nat)(n:Nat)(z:List aa)(ps:List (Nat×Nat))(xs:List aa)(σ:List ab):az:=match fill z ps xs with
  |some cs=>match chunk sz n cs with
   |some rs=>.ok (.sl σ.length 0 n true) [] [(σ.length,.rows sz rs)]
   |none=>.stop
  |none=>.stop
def HE(sz:Nat)(xs:List aa)(σ:List ab):az:=match xs with
  |[]=>.ok (.ax true true sz []) [] []
  |_=>.stop
def ML(agg:Bool)(n:Nat)(xs:List aa)(σ:List ab):az:=match xs with
  |[.an b j]=>match ah σ b with
   |.box row=>match aF agg j n row with
    |some v=>.ok v [b] []
    |none=>.stop
   |_=>.stop
  |[.ay row j]=>match aF agg j n row with
   |some v=>.ok v [] []
   |none=>.stop
  |_=>.stop
def MS(n:Nat)(xs:List aa)(σ:List ab):az:=match xs with
  |[.an b j,x]=>match ah σ b with
   |.box row=>match cellsOf x with
    | some cs=>bif Nat.beq cs.length n then (match bR j cs row with
     |some row'=>.ok .aI [] [(b,.box row')]
     | none=>.stop) else .stop
    |none=>.stop
   |_=>.stop
  |_=>.stop
def Qa(xs:List aa)(σ:List ab):az:=match xs with
  |[.an b j]=>.ok (.an b j) [] []
  |[.ptr b i j]=>.ok (.ptr b i j) [] []
  |[.ay row j]=>.ok (.ay row j) [] []
  |[.func (.func f) a b]=>.ok (.func (.func f) a b) [] []
  |[.iface t v]=>.ok (.iface t v) [] []
  |_=>.stop
def Yj(op:BinOp)(isBool:Bool)(xs:List aa)(σ:List ab):az:=match xs with
  |[.int k a,.int k' b]=>match (bif gK k k' then lq op k a b else none) with
   |some v=>.ok v [] []
   |none=>match vL op k k' a b with
    |some v=>.ok v [] []
    |none=>.stop
  |[.str a,.str b]=>match op with
   |.eql=>.ok (.bool (a==b)) [] []
   |.neq=>.ok (.bool (!(a==b))) [] []
   |_=>.stop
  | [.bool a,.bool b]=>bif isBool then (match op with
   |.eql=>.ok (.bool (a==b)) [] []
   |.neq=>.ok (.bool (!(a==b))) [] []
   | _=>.stop) else .stop
  |_=>.stop
def YV(c:dD)(neq:Bool)(left:Bool)(xs:List aa)(σ:List ab):az:=match xs with
  |[x,y]=>match mr c (bif left then y else x) with
   |some b=>.ok (.bool (bif neq then !b else b)) [] []
   |none=>.stop
  |_=>.stop
def DZ(neq:Bool)(ls:List Bool)(xs:List aa)(σ:List ab):az:=match xs with
  |[.agg a,.agg b]=>match XM ls a b with
   |some r=>.ok (.bool (bif neq then !r else r)) [] []
   |none=>.stop
  |_=>.stop
def Xp(op:UnOp)(xs:List aa)(σ:List ab):az:=match xs with
  |[.bool b]=>match op with
   |.not=>.ok (.bool (!b)) [] []
   |_=>.stop
  |[.int k n]=>match op with
   |.neg=>.ok (.int k (k.wrap (0-n))) [] []
   |.xor=>.ok (.int k (bits .xor k (if k.signed then -1 else k.max) n)) [] []
   |_=>.stop
  |_=>.stop
def ZJ(k:IntKind)(xs:List aa)(σ:List ab):az:=match xs with
  |[.int _ n]=>.ok (.int k (k.wrap n)) [] []
  |_=>.stop
def YC(t:TypeId)(xs:List aa)(σ:List ab):az:=match xs with
  |[x]=>.ok (.iface t x) [] []
  |_=>.stop
def Qp(fn:Fn)(n:Nat)(xs:List aa)(σ:List ab):az:=match takeN n xs with
  |some a=>.ok (.func fn a (fm n xs)) [] []
  |none=>.stop
def ZG(xs:List aa)(σ:List ab):az:=match xs with
  |[]=>.ok (.map σ.length) [] [(σ.length,.map [])]
  |_=>.stop
def Ya(off:Nat)(xs:List aa)(σ:List ab):az:=match xs with
  |[.an b j]=>.ok (.an b (j+off)) [] []
  |[.ptr b i j]=>.ok (.ptr b i (j+off)) [] []
  |[.ay row j]=>.ok (.ay row (j+off)) [] []
  |_=>.stop
def DG(agg:Bool)(off:Nat)(n:Nat)(xs:List aa)(σ:List ab):az:=match xs with
  |[.agg cs]=>match aF agg off n cs with
   |some v=>.ok v [] []
   |none=>.stop
  |_=>.stop
def Yg(len:Nat)(k_:Nat)(xs:List aa)(σ:List ab):az:=match xs with
  |[.an b j,.int _ (.ofNat i)]=>bif Nat.blt i len then .ok (.an b (j+i*k_)) [] [] else .stop
  |[.ptr b r j,.int _ (.ofNat i)]=>bif Nat.blt i len then .ok (.ptr b r (j+i*k_)) [] [] else .stop
  |[.ay row j,.int _ (.ofNat i)]=>bif Nat.blt i len then .ok (.ay row (j+i*k_)) [] [] else .stop
  |_=>.stop
def tE(agg:Bool)(len:Nat)(k_:Nat)(xs:List aa)(σ:List ab):az:=match xs with
  | [.agg cs,.int _ (.ofNat i)]=>bif Nat.blt i len then (match aF agg (i * k_) k_ cs with
   |some v=>.ok v [] []
   | none=>.stop) else .stop
  |_=>.stop
def Xc(i:Nat)(xs:List aa)(σ:List ab):az:=match xs with
  |[.aG vs]=>match nth vs i with
   |some v=>.ok v [] []
   |none=>.stop
  |_=>.stop
def Yf(xs:List aa)(σ:List ab):az:=match xs with
  |[.af]=>.ok (.int .i64 0) [] []
  |[.cj]=>.ok (.int .i64 0) [] []
  |[.sl _ _ n _]=>.ok (.int .i64 n) [] []
  |[.ax _ _ _ rows]=>.ok (.int .i64 rows.length) [] []
  |_=>.stop
def Qs(xs:List aa)(σ:List ab):az:=match xs with
  |[.str s]=>.ok (.int .i64 s.length) [] []
  |_=>.stop
def Jf(n:Nat)(xs:List aa)(σ:List ab):az:=match xs with
  |[_]=>.ok (.int .i64 n) [] []
  |_=>.stop
def NH(xs:List aa)(σ:List ab):az:=match xs with
  |[.bD]=>.ok (.int .i64 0) [] []
  |[.map b]=>match ah σ b with
   |.map es=>.ok (.int .i64 es.length) [b] []
   |_=>.stop
  |[.dZ es]=>.ok (.int .i64 es.length) [] []
  |_=>.stop
def YJ(xs:List aa)(σ:List ab):az:=match xs with
  |[.int k a,.int _ b]=>.ok (.int k (if b<a then b else a)) [] []
  |_=>.stop
def tI(xs:List aa)(σ:List ab):az:=match xs with
  |[.int k a,.int _ b]=>.ok (.int k (if b>a then b else a)) [] []
  |_=>.stop
def JW(xs:List aa)(σ:List ab):az:=match xs with
  |[.str s]=>.ok (.iter σ.length) [] [(σ.length,.dN s 0)]
  |_=>.stop
def DH(t:TypeId)(ok:Bool)(z:aa)(xs:List aa)(σ:List ab):az:=match xs with
  |[.iface u v]=>bif Nat.beq u t then .ok (bif ok then .aG [v,.bool true] else v) [] [] else (bif ok then .ok (.aG [z,.bool false]) [] [] else .stop)
  |[.dX]=>bif ok then .ok (.aG [z,.bool false]) [] [] else .stop
  |_=>.stop
def qo(k:MK)(xs:List aa)(σ:List ab):az:=
 match k with
 |.mv=>Qi xs σ
 |.pick=>Pp xs σ
 |.alloc z=>Xe z xs σ
 |.box=>Zm xs σ
 |.build z ps=>Qe z ps xs σ
 |.kM sz n z ps=>Xi sz n z ps xs σ
 |.jS sz=>HE sz xs σ
 |.load agg n=>ML agg n xs σ
 |.store n=>MS n xs σ
 |.nilCheck=>Qa xs σ
 |.bin op isBool=>Yj op isBool xs σ
 |.mR c neq left=>YV c neq left xs σ
 |.yq neq ls=>DZ neq ls xs σ
 |.un op=>Xp op xs σ
 |.conv k=>ZJ k xs σ
 |.gj t=>YC t xs σ
 |.iL fn n=>Qp fn n xs σ
 |.makeMap=>ZG xs σ
 |.fieldAddr off=>Ya off xs σ
 |.field agg off n=>DG agg off n xs σ
 |.eS len k_=>Yg len k_ xs σ
 |.qi agg len k_=>tE agg len k_ xs σ
 |.extract i=>Xc i xs σ
 |.ql=>Yf xs σ
 |.iK=>Qs xs σ
 |.qk n=>Jf n xs σ
 |.kR=>NH xs σ
 |.min2=>YJ xs σ
 |.max2=>tI xs σ
 |.range=>JW xs σ
 |.d_ t ok z=>DH t ok z xs σ
 |_=>.stop
end Go.Ah
end
section
namespace Go.Ah
def bZ(g:Gm):List aa→List Value→Prop
 |[],[]=>True
 |x::xs,v::vs=>g.den x v∧bZ g xs vs
 |_,_=>False
theorem bZ.mono{g g':Gm}(h:g.Le g'):∀ {xs:List aa} {vs:List Value},bZ g xs vs→bZ g' xs vs
 |[],[],_=>trivial
 |_::_,_::_,⟨d,r⟩=>⟨Gm.jV h d,bZ.mono h r⟩
theorem bZ.length{g:Gm}:∀ {xs:List aa} {vs:List Value},bZ g xs vs→xs.length=vs.length
 |[],[],_=>rfl
 |_::_,_::_,⟨_,r⟩=>by simp[bZ.length r]
theorem bZ.get{g:Gm}:∀ {xs:List aa} {vs:List Value},bZ g xs vs→∀(i:Nat) (x:aa) (v:Value),xs[i]?=some x→vs[i]?=some v→g.den x v
 |[],[],_,_,_,_,e,_=>by simp at e
 |x::xs,v::vs,⟨d,r⟩,i,y,u,e1,e2=>by
  cases i with
  |zero=>simp at e1 e2; subst e1 e2; exact d
  |succ i=>simp at e1 e2; exact bZ.get r i y u e1 e2
theorem bZ.jH{g:Gm}:∀ {xs:List aa} {vs:List Value},xs.length=vs.length→(∀(i:Nat) (x:aa) (v:Value),xs[i]?=some x→vs[i]?=some v→g.den x v)→bZ g xs vs
 |[],[],_,_=>trivial
 |[],_::_,e,_=>by simp at e
 |_::_,[],e,_=>by simp at e
 |x::xs,v::vs,e,h=>⟨h 0 x v rfl rfl,bZ.jH (by simpa using e) (λi y u e1 e2=>h (i+1) y u (by simpa using e1) (by simpa using e2))⟩
def Out(P:Program)(GL:aA)(w0:World)(L:Ln)(g:Gm)(h':Hp)(x:aa):Result Next→Prop
 |.ok (.value u) w'=>∃g',g.Le g'∧a_ GL w0 L g' h' w'∧g'.den x u
 |.ok .skip w'=>∃g',g.Le g'∧a_ GL w0 L g' h' w'∧x=.aI
 |.ok (.enter f args) w'=>Calls P f args w' λe yY=>∃u,e=.returned u∧∃g',g.Le g'∧a_ GL w0 L g' h' yY∧g'.den x u
 |_=>False
def aD(P:Program)(GL:aA)(k:MK)(xs:List aa)(h0:Hp)(v:aa)(rd:List Nat)(up:List (Nat×ab)):Prop:=
 ∀(o:Oper) (os:List Operand),bH P GL o.op k os→∀(w0:World) (L:Ln) (g:Gm) (h:Hp) (w:World) (a:Act),a_ GL w0 L g h w→bZ g xs (os.map a.eval) →
  (∀b∈rd,h b=h0 b)→(∀p∈up,h p.1=h0 p.1)→Out P GL w0 L g (ca h up) v ((execOp a.eval o).run P w)
def hp(σ:List ab):Hp:=λb=>σ[b]?
theorem vE(σ:List ab):hp σ σ.length=none:=by simp[hp]
theorem zf{σ:List ab}{b:Nat}{x:ab}(h:ah σ b=x)(hx:x≠.dead):hp σ b=some x:=by
 unfold hp
 induction σ generalizing b with
 |nil=>simp[ah] at h; exact(hx h.symm).elim
 |cons y σ ih=>cases b with
  |zero=>simp[ah] at h; simp[h]
  |succ b=>simp[ah] at h; simpa using ih h
section
variable {P:Program} {GL:aA}
theorem Out.here{w0:World}{L:Ln}{g:Gm}{h:Hp}{w:World}{x:aa}{u:Value}(r:a_ GL w0 L g h w)(d:g.den x u):Out P GL w0 L g (ca h []) x (.ok (.value u) w):=
 ⟨g,Gm.Le.refl g,r,d⟩
theorem IL(x:aa)(h0:Hp):aD P GL .mv [x] h0 x [] []:=by
 intro o os hc w0 L g h w a r hx _ _;generalize ho:o.op=op at hc;cases hc with
 |move y=>simp only[execOp,ho,Sem.run_pure]; exact Out.here r hx.1
 |assign y=>simp only[execOp,ho,Sem.run_pure]; exact Out.here r hx.1
theorem ZA{g:Gm}{b:Bool}{v:Value}(h:g.den (.bool b) v):v=.bool b:=by cases h; rfl
theorem Zq{g:Gm}{k:IntKind}{n:Int}{v:Value}(h:g.den (.int k n) v):v=.int k n:=by cases h; rfl
theorem Y8{g:Gm}{s:List UInt8}{v:Value}(h:g.den (.str s) v):∃t:ByteArray,v=.string t∧t.data.toList=s:=by cases h; exact⟨_,rfl,rfl⟩
theorem TU(c x y:Bool)(h0:Hp):aD P GL .pick [.bool c,.bool x,.bool y] h0 (.bool (bif c then x else y)) [] []:=by
 intro o os hc w0 L g h w a r hx _ _;generalize ho:o.op=op at hc;cases hc with
 |pick oc oa ob=>
  obtain⟨h1,h2,h3,_⟩:=hx;have e1:=ZA h1; have e2:=ZA h2; have e3:=ZA h3;simp only[execOp,ho,e1,e2,e3,asBool];simp;refine Out.here r ?_;cases c<;>exact .bool _ _
theorem XY{t:TypeId}{v:Value}(h:dz P t=some v)(w:World):(zeroValue t).run P w=.ok v w:=by
 unfold dz at h;unfold zeroValue typeInfo;cases hi:P.info? t with
 |none=>simp[hi] at h
 |some i=>simp[hi] at h; simp[hi,h]
theorem YA{t:TypeId}{n:Nat}(h:size? P t=some n)(w:World):(sizeOf t).run P w=.ok n w:=by
 unfold size? at h;unfold sizeOf typeInfo;cases hi:P.info? t with
 |none=>simp[hi] at h
 |some i=>simp[hi] at h; simp[hi,h]
theorem ZV{t:TypeId}{b:Bool}(h:ea P t=some b)(w:World):(isAgg t).run P w=.ok b w:=by
 unfold ea at h;unfold isAgg;cases hu:P.underlying t with
 |none=>simp[hu] at h
 |some d=>
  simp only[Sem.run_bind,run_underlying hu,Result.andThen_ok];cases d<;>simp_all
theorem O3(h:Hp)(b:Nat)(x:ab):ca h [(b,x)]=dH h b x:=rfl
theorem a_.box{w0:World}{L:Ln}{g:Gm}{h:Hp}{w:World}(r:a_ GL w0 L g h w){nb:Nat}(hn:h nb=none)(row:List aa)(arr:Array Value)(T:TypeId)
 (hs:arr.size=row.length)(hd:∀(j:Nat) (x:aa) (v:Value),row[j]?=some x→arr[j]?=some v→g.den x v) :
  ∃g',g.Le g'∧a_ GL w0 L g' (dH h nb (.box row)) (w.alloc (.cells arr T))∧g'.den (.an nb 0) (.pointer (some ⟨w.heap.size,0,none⟩)):=by
 refine⟨_,r.iJ hn ⟨w.heap.size,0,0,false⟩,r.alloc hn (cb:=⟨w.heap.size,0,0,false⟩) rfl rfl rfl ⟨arr,T,rfl,hs,λj x v e1 e2=>?_⟩,.an _ _ _ _ (Xv _ _ _)⟩;exact Gm.jV (r.iJ hn ⟨w.heap.size,0,0,false⟩) (hd j x v e1 e2)
theorem VP{v:Value}(h:v.oneCell'=true):v.cells = #[v]:=by cases v<;>simp_all [Value.cells,Value.oneCell']
theorem Q3{g:Gm}{x:aa}{cs:List aa}{v:Value}(h:cellsOf x=some cs)(d:g.den x v) :
  v.cells.size=cs.length∧(∀(j:Nat) (y:aa) (u:Value),cs[j]?=some y→v.cells[j]?=some u→g.den y u)∧(∀y∈cs,y.cell=true):=by
 have one:∀y:aa,y.cell=true→cellsOf y=some [y]→cellsOf y=some cs→g.den y v →
   v.cells.size=cs.length∧(∀(j:Nat) (y:aa) (u:Value),cs[j]?=some y→v.cells[j]?=some u→g.den y u)∧(∀y∈cs,y.cell=true):=by
  intro y hy e1 e2 dy;rw[e1] at e2; cases e2;have hc:=VP (Den.so dy hy);rw[hc];refine⟨rfl,λj z u e1 e2=>?_,by simpa using hy⟩;cases j with
  |zero=>simp at e1 e2; subst e1 e2; exact dy
  |succ j=>simp at e1
 cases x with
 |agg xs=>
  simp only[cellsOf] at h;cases ha:xs.all aa.cell with
  |false=>simp[ha] at h
  |true=>
   simp[ha] at h; subst h;cases d with
   |agg _ _ vs h1 h2=>exact⟨h1,λj y u e1 e2=>h2 j y u e1 e2,by simpa[List.all_eq_true] using ha⟩
 |aI=>simp[cellsOf] at h
 |aG vs=>simp[cellsOf] at h
 |when cs x=>simp[cellsOf] at h
 |_=>exact one _ rfl rfl h d
theorem Hm{l:List Value}{xs:List aa}(h:XC l=some xs):∀y∈xs,y.cell=true:=by
 induction l generalizing xs with
 |nil=>simp only[XC] at h; cases h; simp
 |cons v l ih=>
  simp only[XC] at h;cases hv:mG v with
  |none=>simp[hv] at h
  |some x=>
   cases hl:XC l with
   |none=>simp[hv,hl] at h
   |some r=>
    simp only[hv,hl] at h; cases h;intro y hy;rcases List.mem_cons.1 hy with rfl|hy
    ·unfold mG at hv; split at hv<;>first|(cases hv; rfl)|cases hv
    ·exact ih hl y hy
theorem Wi(z:List aa)(h0:Hp)(nb:Nat)(hn:h0 nb=none):aD P GL (.alloc z) [] h0 (.an nb 0) [] [(nb,.box z)]:=by
 intro o os hc w0 L g h w a r _ _ dJ;have iB:h nb=none:=by rw[dJ _ (List.mem_singleton.2 rfl)]; exact hn
 generalize ho:o.op=op at hc;cases hc with
 |alloc t v z hz dd=>
  simp only[execOp,ho,Instr.alloc,Sem.run_bind,XY hz,Result.andThen_ok,newVar,newRow,run_newObj,Sem.run_pure];obtain⟨h1,h2⟩:=YK (M:=g.M) (c:=g.c) dd;exact a_.box r iB z v.cells t (by simpa using h1) (λj x u e1 e2=>h2 j x u e1 (by simpa using e2))
theorem T1(x:aa)(cs:List aa)(jA:cellsOf x=some cs)(h0:Hp)(nb:Nat)(hn:h0 nb=none):aD P GL .box [x] h0 (.an nb 0) [] [(nb,.box cs)]:=by
 intro o os hc w0 L g h w a r hx _ dJ;have iB:h nb=none:=by rw[dJ _ (List.mem_singleton.2 rfl)]; exact hn
 generalize ho:o.op=op at hc;cases hc with
 |box t y=>
  simp only[execOp,ho,Instr.box,newVar,newRow,Sem.run_bind,run_newObj,Result.andThen_ok,Sem.run_pure];obtain⟨h1,h2,_⟩:=Q3 jA hx.1;exact a_.box r iB cs _ t h1 h2
theorem D2{g:Gm}{agg:Bool}{off n:Nat}{cs:List aa}{x:aa}{arr:Array Value}(h:aF agg off n cs=some x)(hlen:cs.length≤arr.size)
 (hd:∀(j:Nat) (y:aa) (u:Value),cs[j]?=some y→arr[j]?=some u→g.den y u) :
  (agg=true→(n≠0→off+n≤arr.size)∧g.den x (.agg (arr.extract off (off+n))))∧(agg=false→∃u,arr[off]?=some u∧g.den x u):=by
 cases agg with
 |true=>
  simp only[aF] at h;cases ht:takeN n (fm off cs) with
  |none=>simp[ht] at h
  |some r=>
   simp only[ht] at h; cases h;obtain⟨h1,h2,h3⟩:=IB ht;rw[Hi,List.length_drop] at h2;refine⟨λ_=>⟨λhn=>by omega,?_⟩,by simp⟩;refine .agg _ _ _ (by simp; omega) (λj y u e1 e2=>?_);have hj:j<n:=by rw[←h1]; exact(cJ e1).1
   rw[h3 j hj,Hi,List.getElem?_drop] at e1;have bj:off+j<arr.size:=by have:=(cJ e1).1; omega
   refine hd _ y u e1 ?_;obtain⟨KV,e2⟩:=Array.getElem?_eq_some_iff.1 e2;rw[Array.getElem_extract] at e2;simp[bj,e2]
 |false=>
  simp only[aF,QU] at h;refine⟨by simp,λ_=>?_⟩;have bj:off<arr.size:=by have:=(cJ h).1; omega
  exact⟨arr[off],by simp[bj],hd off x _ h (by simp[bj])⟩
end
end Go.Ah
end
section
namespace Go.Ah
section
variable {P:Program} {GL:aA}
theorem YO(b o n:Nat):Addr.add ⟨b,o,none⟩ n=⟨b,o+n,none⟩:=by
 unfold Addr.add; split<;>simp_all
theorem I1{t:TypeId}{agg:Bool}{n:Nat}(ha:ea P t=some agg)(hn:size? P t=some n){w:World}{b:Nat}{arr:Array Value}{T:TypeId}{fr:Nat×Nat}
 (hb:∀o v,arr[o]?=some v→w.cell? ⟨b,o,none⟩=some v)(off:Nat) :
  (agg=true→(n≠0→off+n≤arr.size)→(loadVar t ⟨b,off,none⟩).run P w=.ok (.agg (arr.extract off (off+n))) w) ∧
  (agg=false→∀v,arr[off]?=some v→(loadVar t ⟨b,off,none⟩).run P w=.ok v w):=by
 have _:=T; have _:=fr;constructor
 ·rintro rfl hle;have hl:=run_loadCells_list (P:=P) w ⟨b,off,none⟩ (arr.extract off (off + n)).toList (λj v e=>by
   rw[YO];refine hb _ _ ?_;have e':(arr.extract off (off+n))[j]?=some v:=by rwa [Array.getElem?_toList] at e
   obtain⟨hj,e2⟩:=Array.getElem?_eq_some_iff.1 e';rw[Array.getElem_extract] at e2;simp at hj;have:off+j<arr.size:=by omega
   simp[this,e2])
  have hlen:(arr.extract off (off+n)).toList.length=n:=by
   simp;by_cases h0:n=0
   ·subst h0; omega
   ·have:=hle h0; omega
  rw[hlen] at hl;simp only[loadVar,Sem.run_bind,ZV ha,Result.andThen_ok,Sem.run_ite,if_true,YA hn,hl,Sem.run_pure,Array.toArray_toList]
 ·rintro rfl v e;simp only[loadVar,Sem.run_bind,ZV ha,Result.andThen_ok,Sem.run_ite,Bool.false_eq_true,if_false,run_load,hb _ _ e]
theorem XS{w:World}{b:Nat}{arr:Array Value}{T:TypeId}{fr:Nat×Nat}(h:w.heap[b]?=some (.cells arr T fr)):∀o v,arr[o]?=some v→w.cell? ⟨b,o,none⟩=some v:=by
 intro o v e; rw[cell_of_row w b o arr T fr h]; exact e
theorem VU(agg:Bool)(n b j:Nat)(row:List aa)(v:aa)(h0:Hp)(hb:h0 b=some (.box row))(hv:aF agg j n row=some v) :
  aD P GL (.load agg n) [.an b j] h0 v [b] []:=by
 intro o os hc w0 L g h w a r hx cB _;have bq:h b=some (.box row):=by rw[cB b (List.mem_singleton.2 rfl)]; exact hb
 generalize ho:o.op=op at hc;cases hc with
 |load t x _ _ ha hn=>
  have d:=hx.1;generalize hu:a.eval x=u0 at d;cases d with
  |an _ _ _ cb ec=>
  cases bc:cb.cS with
  |true=>have:=r.aN b _ cb bq rfl ec bc; cases this
  |false=>
  obtain⟨_,_,o',dV,arr,T,rfl,hs,bY⟩:=r.own b _ cb bq rfl ec bc;obtain⟨p1,p2⟩:=D2 (g:=g) hv (by omega) bY;obtain⟨l1,l2⟩:=I1 ha hn (T:=T) (fr:=(0,0)) (XS dV) j;cases agg with
  |true=>
   obtain⟨q1,q2⟩:=p1 rfl;simp only[execOp,ho,Instr.loadAt,hu,Instr.sureAddr,Sem.run_bind,Sem.run_pure,Result.andThen_ok,l1 rfl q1];exact Out.here r q2
  |false=>
   obtain⟨u,q1,q2⟩:=p2 rfl;simp only[execOp,ho,Instr.loadAt,hu,Instr.sureAddr,Sem.run_bind,Sem.run_pure,Result.andThen_ok,l2 rfl u q1];exact Out.here r q2
theorem Jy{w0:World}{L:Ln}{g:Gm}{h:Hp}{w:World}(r:a_ GL w0 L g h w){b o:Nat}{v:Value}(e:fL g.M b o=some v):w.cell? ⟨b,o,none⟩=some v:=by
 unfold fL at e;cases hb:g.M b with
 |none=>simp[hb] at e
 |some x=>
  cases x with
  |cells c t fr=>simp[hb] at e; exact XS (r.aJ b _ hb) o v e
  |_=>simp[hb] at e
theorem Un{w0:World}{L:Ln}{g:Gm}{h:Hp}{w:World}(r:a_ GL w0 L g h w){t:TypeId}{agg:Bool}{n:Nat}(ha:ea P t=some agg)(hn:size? P t=some n)
 {row:List aa}{j:Nat}{v:aa}(hv:aF agg j n row=some v){blk off:Nat}{f:Nat→Value}(h1:∀k,k<row.length→fL g.M blk (off+k)=some (f k))
 (h2:∀k x,row[k]?=some x→Den g.M aV x (f k)):∃u,(loadVar t ⟨blk,off+j,none⟩).run P w=.ok u w∧g.den v u:=by
 have key:=D2 (g:=g) (arr:=((List.range row.length).map f).toArray) hv (by simp) (λk y u e1 e2=>by
  have hk:=(cJ e1).1;simp[hk] at e2; subst e2;exact(h2 k y e1).mono (fE.refl _) (eF.aV _))
 cases agg with
 |true=>
  obtain⟨q1,q2⟩:=key.1 rfl;simp only[List.size_toArray,List.length_map,List.length_range] at q1;have hl:=run_loadCells (P:=P) w ⟨blk,off + j,none⟩ n (λk=>f (j + k)) (λk hk=>by
   rw[YO];have:=h1 (j + k) (by have:=q1 (by omega); omega);rw[show off + j + k=off + (j + k) by omega];exact Jy r this)
  refine⟨_,by simp only[loadVar,Sem.run_bind,ZV ha,Result.andThen_ok,Sem.run_ite,if_true,YA hn,hl,Sem.run_pure]; rfl,?_⟩;have:((List.range n).map λk=>f (j+k)).toArray=(((List.range row.length).map f).toArray).extract j (j+n):=by
   apply Array.ext
   ·simp;by_cases h0:n=0
    ·subst h0; omega
    ·have:=q1 h0; omega
   ·intro i hi1 tm;simp
  rw[this]; exact q2
 |false=>
  obtain⟨u,q1,q2⟩:=key.2 rfl;have hj:j<row.length:=by
   have:=(Array.getElem?_eq_some_iff.1 q1).1; simpa using this
  simp[hj] at q1; subst q1;refine⟨f j,?_,q2⟩;simp only[loadVar,Sem.run_bind,ZV ha,Result.andThen_ok,Sem.run_ite,Bool.false_eq_true,if_false,run_load,Jy r (h1 j hj)]
theorem UO(agg:Bool)(n j:Nat)(row:List aa)(v:aa)(h0:Hp)(hv:aF agg j n row=some v) :
  aD P GL (.load agg n) [.ay row j] h0 v [] []:=by
 intro o os hc w0 L g h w a r hx _ _;generalize ho:o.op=op at hc;cases hc with
 |load t x _ _ ha hn=>
  have d:=hx.1;generalize hu:a.eval x=u0 at d;cases d with
  |ay _ _ _ blk off f h1 h2=>
   obtain⟨u,q1,q2⟩:=Un r ha hn hv h1 h2;simp only[execOp,ho,Instr.loadAt,hu,Instr.sureAddr,Sem.run_bind,Sem.run_pure,Result.andThen_ok,q1];exact Out.here r q2
end
end Go.Ah
end
section
namespace Go.Ah
section
variable {P:Program} {GL:aA}
theorem Hb(w:World)(g:Nat)(sn cs:Array Value)(t:TypeId)(fr:Nat×Nat)(hg:w.heap[g]?=some (.cells sn t fr)):(w.setRow g cs).heap=w.heap.setIfInBounds g (.cells cs t fr):=by
 apply Array.ext_getElem?;intro k;have bj:g<w.heap.size:=(Array.getElem?_eq_some_iff.1 hg).1;by_cases hk:k=g
 ·subst hk;rw[setRow_heap w k sn cs t fr hg]; simp[bj]
 ·rw[setRow_other w g k cs hk,Array.getElem?_setIfInBounds_ne (λe=>hk e.symm)]
theorem G7{x:aa}{g:Gm}{v:Value}(hx:x.cell=true)(d:g.den x v):v.oneCell'=true:=Den.so d hx
theorem Vg(n b j:Nat)(row row' cs:List aa)(x:aa)(h0:Hp)(hb:h0 b=some (.box row))(jA:cellsOf x=some cs)(hlen:cs.length=n)(sR:bR j cs row=some row') :
  aD P GL (.store n) [.an b j,x] h0 .aI [] [(b,.box row')]:=by
 intro o os hc w0 L g h w a r hx _ dJ;have bq:h b=some (.box row):=by rw[dJ _ (List.mem_singleton.2 rfl)]; exact hb
 generalize ho:o.op=op at hc;cases hc with
 |store t y z _ hn=>
  obtain⟨d,dx,_⟩:=hx;generalize hu:a.eval y=u0 at d;cases d with
  |an _ _ _ cb ec=>
  cases bc:cb.cS with
  |true=>have:=r.aN b _ cb bq rfl ec bc; cases this
  |false=>
  obtain⟨_,_,o',dV,arr,T,rfl,hs,bY⟩:=r.own b _ cb bq rfl ec bc;obtain⟨c1,c2,c3⟩:=Q3 jA dx;obtain⟨s1,s2,s3⟩:=JO sR;have oX:∀v∈(a.eval z).cells.toList,v.oneCell'=true:=by
   intro v hv;obtain⟨i,hi⟩:=List.mem_iff_getElem?.1 hv;rw[Array.getElem?_toList] at hi;have bj:i<cs.length:=by rw[←c1]; exact(Array.getElem?_eq_some_iff.1 hi).1
   exact G7 (c3 cs[i] (List.getElem_mem bj)) (c2 i cs[i] v (by simp[bj]) hi)
  have ff:j+0+(a.eval z).cells.toList.length≤arr.size∨cs=[]:=by
   by_cases q_:cs=[]
   ·exact .inr q_
   ·left; have:=s2 q_; simp[c1]; omega
  have zP:∃e_,(storeCells ⟨cb.blk,j,none⟩ (a.eval z).cells.toList).run P w=.ok () (w.setRow cb.blk e_)∧e_.size=row'.length ∧
    ∀(k:Nat) (y:aa) (u:Value),row'[k]?=some y→e_[k]?=some u→g.den y u:=by
   rcases ff with ff|q_
   ·refine⟨_,run_storeCells_at P cb.blk j T _ 0 arr w dV ff oX,?_,λk y u e1 e2=>?_⟩
    ·have hL:(a.eval z).cells.toList.length=cs.length:=by rw[Array.length_toList]; exact c1
     rw[hL] at ff;simp only[List.size_toArray,List.length_append,List.length_take,List.length_drop,hL,Array.length_toList];omega
    ·rw[s3 k] at e1;by_cases hk:j≤k∧k<j+cs.length
     ·rw[if_pos hk] at e1;refine c2 (k-j) y u e1 ?_;have:k-j<(a.eval z).cells.size:=by omega
      rw[List.getElem?_toArray,List.append_assoc,List.getElem?_append_right (by simp; omega),List.getElem?_append_left (by simp; omega)] at e2;rw[←e2,Array.getElem?_toList]; congr 1; simp; omega
     ·rw[if_neg hk] at e1;refine bY k y u e1 ?_;have kH:k<row.length:=(cJ e1).1;by_cases eN:k<j
      ·rw[List.getElem?_toArray,List.append_assoc,List.getElem?_append_left (by simp; omega)] at e2;rw[List.getElem?_take_of_lt (by omega)] at e2;simpa using e2
      ·rw[List.getElem?_toArray,List.getElem?_append_right (by simp; omega)] at e2;simp at e2;rw[←e2]; congr 1; omega
   ·subst q_;have W1:(a.eval z).cells.toList=[]:=by
     have:(a.eval z).cells.size=0:=by rw[c1]; rfl
     simpa using this
    have cI:row'=row:=by simp[bR] at sR; exact sR.symm
    subst cI;exact⟨arr,by rw[W1]; simp only[storeCells]; rw[setRow_self w cb.blk arr T (0,0) dV]; rfl,hs,bY⟩
  obtain⟨e_,f1,f2,f3⟩:=zP;have ei:(a.eval z).cells.size=n:=by rw[c1,hlen]
  have bS:(execOp a.eval o).run P w=.ok .skip (w.setRow cb.blk e_):=by
   simp only[execOp,ho,Instr.storeAt,hu,Instr.sureAddr,storeVar,Sem.run_bind,Sem.run_pure,Result.andThen_ok,YA hn,Sem.run_ite];simp[ei,f1]
  rw[bS];refine⟨g,Gm.Le.refl g,?_,rfl⟩;exact r.write bq rfl ec bc rfl rfl rfl rfl (Hb w _ arr e_ T (0,0) dV) ⟨e_,T,rfl,f2,λk y u e1 e2=>f3 k y u e1 e2⟩
theorem ZO(x:aa)(qz:(∃b j,x=.an b j)∨(∃b i j,x=.ptr b i j)∨(∃row j,x=.ay row j)∨(∃f a b,x=.func (.func f) a b)∨(∃t v,x=.iface t v))(h0:Hp) :
  aD P GL .nilCheck [x] h0 x [] []:=by
 intro o os hc w0 L g h w a r hx _ _;generalize ho:o.op=op at hc;cases hc with
 |nilCheck y=>
  have d:=hx.1;have d0:=d;generalize hu:a.eval y=u0 at d d0;rcases qz with ⟨b,j,rfl⟩|⟨b,i,j,rfl⟩|⟨row,j,rfl⟩|⟨f,xs,ys,rfl⟩|⟨t,v,rfl⟩
  ·cases d; simp only[execOp,ho,hu,Sem.run_pure]; exact Out.here r d0
  ·cases d; simp only[execOp,ho,hu,Sem.run_pure]; exact Out.here r d0
  ·cases d; simp only[execOp,ho,hu,Sem.run_pure]; exact Out.here r d0
  ·cases d; simp only[execOp,ho,hu,Sem.run_pure]; exact Out.here r d0
  ·cases d; simp only[execOp,ho,hu,Sem.run_pure]; exact Out.here r d0
theorem QF{o:Oper}{op:BinOp}{t t':TypeId}{x y:Operand}(ho:o.op=.binOp op t x y t'){a:Act}{u v z:Value}{w:World}(hu:a.eval x=u)(hv:a.eval y=v)
 (hg:(eqGuard op t x y u v).run P w=.ok () w)(hr:(binOp op t u v).run P w=.ok z w):(execOp a.eval o).run P w=.ok (.value z) w:=by
 simp only[execOp,ho,Sem.run_bind,hu,hv,hg,hr,Result.andThen_ok,Sem.run_pure]
theorem Wp{op:BinOp}{k:IntKind}{a b:Int}{v:aa}(h:lq op k a b=some v)(t:TypeId)(w:World){g:Gm}:∃u,(binOp op t (.int k a) (.int k b)).run P w=.ok u w∧g.den v u:=by
 cases op<;>simp only[lq,Option.some.injEq] at h<;>first
  |cases h; done
  |(subst h; refine⟨_,by simp only[binOp_add,binOp_sub,binOp_mul,binOp_eql,binOp_neq,binOp_lss,binOp_leq,binOp_gtr,binOp_geq,binOp_and,binOp_or,binOp_xor,binOp_andNot,intBits_and,intBits_or,intBits_xor,intBits_andNot,Op.intArith,Sem.run_pure]<;>rfl,?_⟩; constructor)
theorem TR(op:BinOp)(ib:Bool)(k:IntKind)(m n:Int)(v:aa)(hv:lq op k m n=some v)(h0:Hp):aD P GL (.bin op ib) [.int k m,.int k n] h0 v [] []:=by
 intro o os hc w0 L g h w a r hx _ _;generalize ho:o.op=xm at hc;cases hc with
 |bin _ t t' x y _ _=>
  obtain⟨d1,d2,_⟩:=hx;obtain⟨z,h1,h2⟩:=Wp (P:=P) (g:=g) hv t w;rw[QF ho (Zq d1) (Zq d2) (by rw[eqGuard_at_int]; rfl) h1];exact Out.here r h2
theorem Vl{op:BinOp}{k k':IntKind}{a b:Int}{v:aa}(h:vL op k k' a b=some v)(t:TypeId)(w:World){g:Gm}:∃u,(binOp op t (.int k a) (.int k' b)).run P w=.ok u w∧g.den v u:=by
 unfold vL at h;split at h
 ·rename_i n;split at h
  ·cases h;refine⟨_,?_,Den.int _ _ _⟩;have:¬(Int.ofNat n<0):=by simp
   simp only[binOp,Op.shift,if_neg this,Sem.run_pure]; rfl
  ·cases h;refine⟨_,?_,Den.int _ _ _⟩;have:¬(Int.ofNat n<0):=by simp
   simp only[binOp,Op.shift,if_neg this,Sem.run_pure]; rfl
  ·cases h0:Nat.beq n 0<;>rw[h0] at h
   ·cases hk:gK k k'<;>rw[hk] at h
    ·cases h
    ·cases h;have:=Q4 hk; subst this;refine⟨_,?_,Den.int _ _ _⟩;have hn:¬(Int.ofNat n=0):=by intro e; have:n=0:=(by simpa using e); subst this; cases h0
     simp only[binOp,Op.intDiv,ne_eq,not_true_eq_false,if_false,if_neg hn,Sem.run_pure]
   ·cases h
  ·cases h0:Nat.beq n 0<;>rw[h0] at h
   ·cases hk:gK k k'<;>rw[hk] at h
    ·cases h
    ·cases h;have:=Q4 hk; subst this;refine⟨_,?_,Den.int _ _ _⟩;have hn:¬(Int.ofNat n=0):=by intro e; have:n=0:=(by simpa using e); subst this; cases h0
     simp only[binOp,Op.intDiv,ne_eq,not_true_eq_false,if_false,if_neg hn,Sem.run_pure]
   ·cases h
  ·cases h
 ·rename_i n;split at h
  ·cases hk:gK k k'<;>rw[hk] at h
   ·cases h
   ·cases h;have:=Q4 hk; subst this;refine⟨_,?_,Den.int _ _ _⟩;have hn:¬(Int.negSucc n=0):=by intro e; cases e
    simp only[binOp,Op.intDiv,ne_eq,not_true_eq_false,if_false,if_neg hn,Sem.run_pure]
  ·cases hk:gK k k'<;>rw[hk] at h
   ·cases h
   ·cases h;have:=Q4 hk; subst this;refine⟨_,?_,Den.int _ _ _⟩;have hn:¬(Int.negSucc n=0):=by intro e; cases e
    simp only[binOp,Op.intDiv,ne_eq,not_true_eq_false,if_false,if_neg hn,Sem.run_pure]
  ·cases h
theorem Sz(op:BinOp)(ib:Bool)(k k':IntKind)(m n:Int)(v:aa)(hv:vL op k k' m n=some v)(h0:Hp):aD P GL (.bin op ib) [.int k m,.int k' n] h0 v [] []:=by
 intro o os hc w0 L g h w a r hx _ _;generalize ho:o.op=xm at hc;cases hc with
 |bin _ t t' x y _ _=>
  obtain⟨d1,d2,_⟩:=hx;obtain⟨z,h1,h2⟩:=Vl (P:=P) (g:=g) hv t w;rw[QF ho (Zq d1) (Zq d2) (by rw[eqGuard_at_int]; rfl) h1];exact Out.here r h2
theorem Pe(s:ByteArray):s.toList=s.data.toList:=ByteArray.toList_eq s
theorem Ob(op:BinOp)(ib:Bool)(s t:List UInt8)(neq:Bool)(qy:op=if neq then .neq else .eql)(h0:Hp):aD P GL (.bin op ib) [.str s,.str t] h0 (.bool (bif neq then !(s==t) else s==t)) [] []:=by
 intro o os hc w0 L g h w a r hx _ _;generalize ho:o.op=xm at hc;cases hc with
 |bin _ ty t' x y _ _=>
  obtain⟨d1,d2,_⟩:=hx;obtain⟨s',e1,rfl⟩:=Y8 d1;obtain⟨t',e2,rfl⟩:=Y8 d2;subst qy;cases neq
  ·rw[QF ho e1 e2 (by rw[eqGuard_at_string]; rfl) (z:=.bool (s'.data.toList==t'.data.toList)) (by simp[binOp,Op.stringOp,Pe])];exact Out.here r (.bool _ _)
  ·rw[QF ho e1 e2 (by rw[eqGuard_at_string]; rfl) (z:=.bool (!(s'.data.toList==t'.data.toList))) (by simp[binOp,Op.stringOp,Pe])];exact Out.here r (.bool _ _)
theorem O5(op:BinOp)(m n:Bool)(neq:Bool)(qy:op=if neq then .neq else .eql)(h0:Hp):aD P GL (.bin op true) [.bool m,.bool n] h0 (.bool (bif neq then !(m==n) else m==n)) [] []:=by
 intro o os hc w0 L g h w a r hx _ _;generalize ho:o.op=xm at hc;cases hc with
 |bin _ ty t' x y _ hb=>
  obtain⟨d1,d2,_⟩:=hx;subst qy;cases neq
  ·rw[QF ho (ZA d1) (ZA d2) (by rw[eqGuard_at_bool]; rfl) (run_eql_bool w ty m n (hb rfl))];exact Out.here r (.bool _ _)
  ·rw[QF ho (ZA d1) (ZA d2) (by rw[eqGuard_at_bool]; rfl) (run_neq_bool w ty m n (hb rfl))];exact Out.here r (.bool _ _)
theorem R9(b:Bool)(h0:Hp):aD P GL (.un .not) [.bool b] h0 (.bool (!b)) [] []:=by
 intro o os hc w0 L g h w a r hx _ _;generalize ho:o.op=xm at hc;cases hc with
 |un _ t x=>simp only[execOp,ho,ZA hx.1,Op.unary,Sem.run_bind,Sem.run_pure,Result.andThen_ok]; exact Out.here r (.bool _ _)
theorem Tv(k:IntKind)(n:Int)(h0:Hp):aD P GL (.un .neg) [.int k n] h0 (.int k (k.wrap (0-n))) [] []:=by
 intro o os hc w0 L g h w a r hx _ _;generalize ho:o.op=xm at hc;cases hc with
 |un _ t x=>simp only[execOp,ho,Zq hx.1,Op.unary,Op.intArith,Sem.run_bind,Sem.run_pure,Result.andThen_ok]; exact Out.here r (.int _ _ _)
theorem U0(k k':IntKind)(n:Int)(h0:Hp):aD P GL (.conv k) [.int k' n] h0 (.int k (k.wrap n)) [] []:=by
 intro o os hc w0 L g h w a r hx _ _;generalize ho:o.op=xm at hc;cases hc with
 |conv s d x _ hs hd=>
  obtain⟨ds,W5⟩:=Option.isSome_iff_exists.1 hs;simp only[execOp,ho,Zq hx.1,convert,Sem.run_bind,run_underlying W5,run_underlying hd,Result.andThen_ok,Conv.intToInt,Sem.run_pure];exact Out.here r (.int _ _ _)
theorem UT(t:TypeId)(x:aa)(h0:Hp):aD P GL (.gj t) [x] h0 (.iface t x) [] []:=by
 intro o os hc w0 L g h w a r hx _ _;generalize ho:o.op=xm at hc;cases hc with
 |gj _ y qZ=>
  simp only[execOp,ho,Sem.run_bind,run_makeInterface w t _ qZ,Result.andThen_ok,Sem.run_pure];exact Out.here r (.iface _ _ _ _ hx.1)
theorem R8(fn:Fn)(n:Nat)(xs ys:List aa)(hn:xs.length=n)(h0:Hp):aD P GL (.iL fn n) (xs++ys) h0 (.func fn xs ys) [] []:=by
 intro o os hc w0 L g h w a r hx _ _;generalize ho:o.op=xm at hc;cases hc with
 |iL _ us vs=>
  simp only[execOp,ho,Instr.makeFunc,Sem.run_bind,Sem.run_pure,Result.andThen_ok];have hl:=hx.length;simp at hl;refine Out.here r (.func _ _ _ _ _ _ (by simp[hn]) (by simp; omega) (λi x v e1 e2=>?_) (λi x v e1 e2=>?_))
  ·have hi:=(cJ e1).1;refine hx.get i x v (by rw[List.getElem?_append_left hi]; exact e1) ?_;simp at e2;obtain⟨z,hz,rfl⟩:=e2;have tm:=(Array.getElem?_eq_some_iff.1 hz).1;rw[List.map_append,List.getElem?_append_left (by simp; omega)];simp[hz]
  ·have hi:=(cJ e1).1;refine hx.get (xs.length+i) x v (by rw[List.getElem?_append_right (by omega)]; simpa using e1) ?_;simp at e2;obtain⟨z,hz,rfl⟩:=e2;rw[List.map_append,List.getElem?_append_right (by simp; omega)];simp[hn,hz]
theorem V0(h0:Hp)(nb:Nat)(hn:h0 nb=none):aD P GL .makeMap [] h0 (.map nb) [] [(nb,.map [])]:=by
 intro o os hc w0 L g h w a r _ _ dJ;have iB:h nb=none:=by rw[dJ _ (List.mem_singleton.2 rfl)]; exact hn
 generalize ho:o.op=op at hc;cases hc with
 |makeMap t=>
  simp only[execOp,ho,Instr.makeMap,Option.map_none,Sem.run_bind,run_newObj,Sem.run_pure,Result.andThen_ok];exact⟨_,r.iJ iB ⟨w.heap.size,0,0,false⟩,r.alloc iB (cb:=⟨w.heap.size,0,0,false⟩) rfl rfl rfl ⟨#[],0,rfl,rfl,by simp⟩,.map _ _ _ (Xv _ _ _)⟩
theorem MW(i:Nat):(Int.ofNat i).toNat=i:=rfl
theorem RQ{t:TypeId}{n:Nat}(hn:size? P t=some n)(h0:n≠0)(a:Addr)(fd:Field)(ht:fd.type=t)(w:World):(fieldPlace a fd).run P w=.ok (a.add fd.offset) w:=by
 subst ht;simp only[fieldPlace,Sem.run_bind,YA hn,Result.andThen_ok,h0,if_false,Sem.run_pure]
theorem Y6(off:Nat)(x y:aa)(Lk:(∃b j,x=.an b j∧y=.an b (j+off))∨(∃b i j,x=.ptr b i j∧y=.ptr b i (j+off))∨(∃row j,x=.ay row j∧y=.ay row (j+off)))(h0:Hp) :
  aD P GL (.fieldAddr off) [x] h0 y [] []:=by
 intro o os hc w0 L g h w a r hx _ _;generalize ho:o.op=op at hc;cases hc with
 |fieldAddr t z f fs fd n hu hf hn kI=>
  have d:=hx.1;generalize gP:a.eval z=u0 at d;have key:∀b o',(execOp a.eval o).run P w=.ok (.value (.pointer (some ⟨b,o'+fd.offset,none⟩))) w∨a.eval z≠.pointer (some ⟨b,o',none⟩):=by
   intro b o';by_cases he:a.eval z=.pointer (some ⟨b,o',none⟩)
   ·left;simp only[execOp,ho,he,Instr.fieldAt,Sem.run_bind,run_underlying hu,Result.andThen_ok,hf,Instr.sureAddr,Sem.run_pure,RQ hn kI _ fd rfl,YO]
   ·exact .inr he
  rcases Lk with ⟨b,j,rfl,rfl⟩|⟨b,i,j,rfl,rfl⟩|⟨row,j,rfl,rfl⟩
  ·cases d with
   |an _ _ _ cb ec=>
    rw[(key cb.blk j).resolve_right (λdL=>dL gP)];exact Out.here r (.an _ _ _ _ ec)
  ·cases d with
   |ptr _ _ _ _ cb ec=>
    rw[(key cb.blk (i*cb.sz+j)).resolve_right (λdL=>dL gP),Nat.add_assoc];exact Out.here r (.ptr _ _ _ _ _ ec)
  ·cases d with
   |ay _ _ _ blk FQ f' h1 h2=>
    rw[(key blk (FQ+j)).resolve_right (λdL=>dL gP),Nat.add_assoc];exact Out.here r (.ay _ _ _ _ _ f' h1 h2)
theorem Ni{t:TypeId}{agg:Bool}{n:Nat}(ha:ea P t=some agg)(hn:size? P t=some n){g:Gm}{cs:List aa}{arr:Array Value}{off:Nat}{v:aa}(hv:aF agg off n cs=some v)(hs:arr.size=cs.length)
 (hd:∀(j:Nat) (y:aa) (u:Value),cs[j]?=some y→arr[j]?=some u→g.den y u)(w:World):∃u,(part t arr off).run P w=.ok u w∧g.den v u:=by
 obtain⟨p1,p2⟩:=D2 (g:=g) hv (by omega) hd;cases agg with
 |true=>
  obtain⟨_,q2⟩:=p1 rfl;exact⟨_,by simp only[part,Sem.run_bind,ZV ha,Result.andThen_ok,if_true,YA hn,Sem.run_pure],q2⟩
 |false=>
  obtain⟨u,q1,q2⟩:=p2 rfl;refine⟨u,?_,q2⟩;simp only[part,Sem.run_bind,ZV ha,Result.andThen_ok,Bool.false_eq_true,if_false,q1,Sem.run_pure]
theorem Vf(agg:Bool)(off n:Nat)(cs:List aa)(v:aa)(hv:aF agg off n cs=some v)(h0:Hp):aD P GL (.field agg off n) [.agg cs] h0 v [] []:=by
 intro o os hc w0 L g h w a r hx _ _;generalize ho:o.op=op at hc;cases hc with
 |field t z f fs fd _ _ hu hf hn ha=>
  have d:=hx.1;generalize gP:a.eval z=u0 at d;cases d with
  |agg _ _ vs h1 h2=>
   obtain⟨u,q1,q2⟩:=Ni ha hn hv h1 h2 w;simp only[execOp,ho,gP,Instr.field,Sem.run_bind,run_underlying hu,Result.andThen_ok,hf,asAgg,Sem.run_pure,q1];exact Out.here r q2
theorem TT(agg:Bool)(len n:Nat)(cs:List aa)(v:aa)(k:IntKind)(i:Nat)(hi:i<len)(hv:aF agg (i*n) n cs=some v)(h0:Hp):aD P GL (.qi agg len n) [.agg cs,.int k (.ofNat i)] h0 v [] []:=by
 intro o os hc w0 L g h w a r hx _ _;generalize ho:o.op=op at hc;cases hc with
 |qi t z y _ e _ _ hu hn ha=>
  obtain⟨d,d2,_⟩:=hx;generalize gP:a.eval z=u0 at d;cases d with
  |agg _ _ vs h1 h2=>
   obtain⟨u,q1,q2⟩:=Ni ha hn hv h1 h2 w;simp only[execOp,ho,gP,Zq d2,Instr.index,asIntOf,Sem.run_bind,run_underlying hu,Result.andThen_ok,Sem.run_pure];rw[if_pos ⟨Int.natCast_nonneg i,Int.ofNat_lt.2 hi⟩];simp only[Sem.run_bind,YA hn,Result.andThen_ok,MW,q1];exact Out.here r q2
theorem Jt(len n:Nat)(x y:aa)(k:IntKind)(i:Nat)(hi:i<len)
 (Lk:(∃b j,x=.an b j∧y=.an b (j+i*n))∨(∃b r j,x=.ptr b r j∧y=.ptr b r (j+i*n))∨(∃row j,x=.ay row j∧y=.ay row (j+i*n)))(h0:Hp) :
  aD P GL (.eS len n) [x,.int k (.ofNat i)] h0 y [] []:=by
 intro o os hc w0 L g h w a r hx _ _;generalize ho:o.op=op at hc;cases hc with
 |eS t z q _ e _ hu hn=>
  obtain⟨d,d2,_⟩:=hx;generalize gP:a.eval z=u0 at d;have key:∀b o',a.eval z=.pointer (some ⟨b,o',none⟩)→(execOp a.eval o).run P w=.ok (.value (.pointer (some ⟨b,o'+i*n,none⟩))) w:=by
   intro b o' he;simp only[execOp,ho,he,Zq d2,Instr.indexAt,asIntOf,Sem.run_bind,run_underlying hu,Result.andThen_ok,Instr.sureAddr,Sem.run_pure];rw[if_pos ⟨Int.natCast_nonneg i,Int.ofNat_lt.2 hi⟩];simp only[Sem.run_bind,YA hn,Result.andThen_ok,MW,Sem.run_pure,YO]
  rcases Lk with ⟨b,j,rfl,rfl⟩|⟨b,r',j,rfl,rfl⟩|⟨row,j,rfl,rfl⟩
  ·cases d with
   |an _ _ _ cb ec=>rw[key _ _ gP]; exact Out.here r (.an _ _ _ _ ec)
  ·cases d with
   |ptr _ _ _ _ cb ec=>rw[key _ _ gP,Nat.add_assoc]; exact Out.here r (.ptr _ _ _ _ _ ec)
  ·cases d with
   |ay _ _ _ blk FQ f' h1 h2=>rw[key _ _ gP,Nat.add_assoc]; exact Out.here r (.ay _ _ _ _ _ f' h1 h2)
theorem Sq(i:Nat)(vs:List aa)(v:aa)(hv:vs[i]?=some v)(h0:Hp):aD P GL (.extract i) [.aG vs] h0 v [] []:=by
 intro o os hc w0 L g h w a r hx _ _;generalize ho:o.op=op at hc;cases hc with
 |extract z _=>
  have d:=hx.1;generalize gP:a.eval z=u0 at d;cases d with
  |aG _ _ us h1 h2=>
   have bj:i<us.size:=by rw[h1]; exact(cJ hv).1
   have he:us[i]?=some us[i]:=by simp[bj]
   simp only[execOp,ho,gP,Instr.extract,he,Sem.run_bind,Sem.run_pure,Result.andThen_ok];exact Out.here r (h2 i v _ hv he)
theorem G'(x:aa)(n:Int)(qz:(x=.af∧n=0)∨(x=.cj∧n=0)∨(∃b o l e,x=.sl b o l e∧n=l)∨(∃e q s rows,x=.ax e q s rows∧n=rows.length))(h0:Hp):aD P GL .ql [x] h0 (.int .i64 n) [] []:=by
 intro o os hc w0 L g h w a r hx _ _;generalize ho:o.op=op at hc;cases hc with
 |ql t e z hu=>
  have d:=hx.1;generalize gP:a.eval z=u0 at d;have key:∀p m c,a.eval z=.slice p m c→(execOp a.eval o).run P w=.ok (.value (.int .i64 m)) w:=by
   intro p m c he;simp[execOp,ho,resolve,invoke,builtin,Builtin.len_,he,run_underlying hu,goInt]
  rcases qz with ⟨rfl,rfl⟩|⟨rfl,rfl⟩|⟨b,o',l,e',rfl,rfl⟩|⟨e',q,s,rows,rfl,rfl⟩
  ·cases d; rw[key _ _ _ gP]; exact Out.here r (.int _ _ _)
  ·cases d; rw[key _ _ _ gP]; exact Out.here r (.int _ _ _)
  ·cases d<;>(rw[key _ _ _ gP]; exact Out.here r (.int _ _ _))
  ·cases d; rw[key _ _ _ gP]; exact Out.here r (.int _ _ _)
theorem VK(s:List UInt8)(h0:Hp):aD P GL .iK [.str s] h0 (.int .i64 s.length) [] []:=by
 intro o os hc w0 L g h w a r hx _ _;generalize ho:o.op=op at hc;cases hc with
 |iK t z hu=>
  obtain⟨s',e1,rfl⟩:=Y8 hx.1;have:(execOp a.eval o).run P w=.ok (.value (.int .i64 s'.size)) w:=by
   simp[execOp,ho,resolve,invoke,builtin,Builtin.len_,e1,run_underlying hu,goInt]
  rw[this,show (s'.size:Int)=(s'.data.toList.length:Nat) by simp];exact Out.here r (.int _ _ _)
theorem SA(n:Nat)(x:aa)(h0:Hp):aD P GL (.qk n) [x] h0 (.int .i64 n) [] []:=by
 intro o os hc w0 L g h w a r _ _ _;generalize ho:o.op=op at hc;cases hc with
 |qk t e _ z hu=>
  have:(execOp a.eval o).run P w=.ok (.value (.int .i64 n)) w:=by
   simp[execOp,ho,resolve,invoke,builtin,Builtin.len_,run_underlying hu,goInt]
  rw[this]; exact Out.here r (.int _ _ _)
theorem U1(k k':IntKind)(x y:Int)(h0:Hp):aD P GL .min2 [.int k x,.int k' y] h0 (.int k (if y<x then y else x)) [] []:=by
 intro o os hc w0 L g h w a r hx _ _;generalize ho:o.op=op at hc;cases hc with
 |min2 ts p q=>
  have:(execOp a.eval o).run P w=.ok (.value (.int k (if y<x then y else x))) w:=by
   simp[execOp,ho,resolve,invoke,builtin,Zq hx.1,Zq hx.2.1,run_min_int2]
  rw[this]; exact Out.here r (.int _ _ _)
theorem V6(k k':IntKind)(x y:Int)(h0:Hp):aD P GL .max2 [.int k x,.int k' y] h0 (.int k (if y>x then y else x)) [] []:=by
 intro o os hc w0 L g h w a r hx _ _;generalize ho:o.op=op at hc;cases hc with
 |max2 ts p q=>
  have:(execOp a.eval o).run P w=.ok (.value (.int k (if y>x then y else x))) w:=by
   simp[execOp,ho,resolve,invoke,builtin,Zq hx.1,Zq hx.2.1,run_max_int2]
  rw[this]; exact Out.here r (.int _ _ _)
end
end Go.Ah
end
section
namespace Go.Ah
section
variable {P:Program} {GL:aA}
theorem Nr(off:Nat):∀(l:List Value) (j:Nat) (cells:Array Value),off+j+l.length≤cells.size →
  ((l.zipIdx j).foldl (λ(cs:Array Value) (p:Value×Nat)=>cs.setIfInBounds (off+p.2) p.1) cells).size=cells.size ∧
  ∀k:Nat,((l.zipIdx j).foldl (λ(cs:Array Value) (p:Value×Nat)=>cs.setIfInBounds (off+p.2) p.1) cells)[k]?=if off+j≤k∧k<off+j+l.length then l[k-(off+j)]? else cells[k]?
 |[],j,cells,_=>by simp; intro k h1 h2; omega
 |v::l,j,cells,h=>by
  simp only[List.zipIdx_cons,List.foldl_cons];simp only[List.length_cons] at h;obtain⟨h1,h2⟩:=Nr off l (j+1) (cells.setIfInBounds (off+j) v) (by simp; omega);refine⟨by rw[h1]; simp,λk=>?_⟩;rw[h2 k];by_cases hk:k=off+j
  ·subst hk;rw[if_neg (by omega),if_pos (by simp)];simp[show off+j<cells.size by omega]
  ·by_cases oV:off+(j+1)≤k∧k<off+(j+1)+l.length
   ·rw[if_pos oV,if_pos (by simp; omega)];rw[show k-(off+j)=(k-(off+(j+1)))+1 by omega]; simp
   ·rw[if_neg oV,if_neg (by simp; omega)];rw[Array.getElem?_setIfInBounds_ne (λe=>hk e.symm)]
theorem Hj{g:Gm}{place:Nat→Option (Nat×Nat)}:∀(parts:List (Nat×Value)) (ps:List (Nat×Nat)) (xs:List aa) (z cs:List aa) (cells:Array Value),
  fill z ps xs=some cs→parts.map (λp=>place p.1)=ps.map some→bZ g xs (parts.map (·.2))→cells.size=z.length →
  (∀(j:Nat) (y:aa) (u:Value),z[j]?=some y→cells[j]?=some u→g.den y u)→(∀y∈z,y.cell=true) →
  ∃bN,Instr.fill place cells parts=some bN∧bN.size=cs.length∧(∀(j:Nat) (y:aa) (u:Value),cs[j]?=some y→bN[j]?=some u→g.den y u)∧cs.length=z.length∧(∀y∈cs,y.cell=true)
 |[],ps,xs,z,cs,cells,hf,hp,hx,hs,hd,hc=>by
  have:ps=[]:=by simpa using hp.symm
  subst this;cases xs with
  |nil=>simp only[fill] at hf; cases hf; exact⟨cells,rfl,hs,hd,rfl,hc⟩
  |cons x xs=>exact hx.elim
 |(i,v)::parts,ps,xs,z,cs,cells,hf,hp,hx,hs,hd,hc=>by
  cases ps with
  |nil=>simp at hp
  |cons p ps=>
   obtain⟨off,sz⟩:=p;simp only[List.map_cons,List.cons.injEq] at hp;obtain⟨Ae,Ag⟩:=hp;cases xs with
   |nil=>exact hx.elim
   |cons x xs=>
    obtain⟨dx,uQ⟩:=hx;simp only[fill] at hf;cases sg:cellsOf x with
    |none=>simp[sg] at hf
    |some c1=>
     simp only[sg] at hf;cases hb:Nat.beq c1.length sz && !(Nat.beq sz 0) with
     |false=>simp[hb] at hf
     |true=>
      have bq:=hb;simp only[Bool.and_eq_true,Bool.not_eq_true'] at bq;have ei:c1.length=sz:=eZ bq.1;have aab:sz≠0:=by intro e; subst e; simp[Nat.beq] at bq
      simp only[hb,cond_true] at hf;cases sR:bR off c1 z with
      |none=>simp[sR] at hf
      |some z'=>
       simp only[sR] at hf;obtain⟨e1,e2,e3⟩:=Q3 sg dx;obtain⟨s1,s2,s3⟩:=JO sR;have pc:v.cells.size=sz:=by rw[e1,ei]
       have yN:c1≠[]:=by rintro rfl; simp at ei; omega
       have ff:=s2 yN;obtain⟨l1,l2⟩:=Nr off v.cells.toList 0 cells (by simp[e1]; omega);obtain⟨bN,f1,f2,f3,f4,f5⟩:=Hj parts ps xs z' cs _ hf Ag uQ (by rw[l1,hs,s1]) (λj y u q1 q2=>by
         rw[l2 j] at q2; rw[s3 j] at q1;simp only[Nat.add_zero,Array.length_toList,e1] at q2;by_cases hj:off≤j∧j<off+c1.length
         ·rw[if_pos hj] at q1 q2;exact e2 _ y u q1 (by simpa using q2)
         ·rw[if_neg hj] at q1 q2;exact hd j y u q1 q2) (λy hy=>by
         obtain⟨j,hj⟩:=List.mem_iff_getElem?.1 hy;rw[s3 j] at hj;by_cases Q_:off≤j∧j<off+c1.length
         ·rw[if_pos Q_] at hj; exact e3 y (List.mem_of_getElem? hj)
         ·rw[if_neg Q_] at hj; exact hc y (List.mem_of_getElem? hj))
       refine⟨bN,?_,f2,f3,by rw[f4,s1],f5⟩;simp only[Instr.fill,Ae,pc];rw[if_neg (by simp; rw[hs]; omega),←f1]
       congr 1
       rw[←Array.foldl_toList]; simp
theorem Ve(z:List aa)(ps:List (Nat×Nat))(xs cs:List aa)(hf:fill z ps xs=some cs)(h0:Hp):aD P GL (.build z ps) xs h0 (.agg cs) [] []:=by
 intro o os hc w0 L g h w a r hx _ _;generalize ho:o.op=op at hc;cases hc with
 |buildStruct t fs v _ parts places _ hu hz dd Ia tq=>
  obtain⟨it,KT,zS⟩:∃it,P.info? t=some it∧it.zero=some v:=by
   unfold dz at hz; cases hi:P.info? t with
   |none=>simp[hi] at hz
   |some it=>simp[hi] at hz; exact⟨it,rfl,hz⟩
  obtain⟨c1,c2⟩:=YK (M:=g.M) (c:=g.c) dd;obtain⟨bN,f1,f2,f3,_,_⟩:=Hj (g:=g) (place:=(places.toArray[·]?)) (parts.map λp=>(p.1,a.eval p.2)).toList ps xs z cs v.cells hf (by rw[Array.toList_map,List.map_map]; simpa[Function.comp_def] using tq) (by rw[Array.toList_map,List.map_map]; rw[List.map_map] at hx; exact hx) (by simpa using c1) (λj y u e1 e2=>c2 j y u e1 (by simpa using e2)) (Hm dd);have hb:P.built t (parts.map λp=>(p.1,a.eval p.2)).toList=some bN:=by
   unfold Program.built; simp only[KT,hu,zS,Ia]; exact f1
  simp only[execOp,ho,Sem.run_bind,run_build w t _ bN hb,Result.andThen_ok,Sem.run_pure];exact Out.here r (.agg _ _ _ f2 f3)
 |mL t n e v _ parts _ sz hu hz dd hs tq=>
  obtain⟨it,KT,zS⟩:∃it,P.info? t=some it∧it.zero=some v:=by
   unfold dz at hz; cases hi:P.info? t with
   |none=>simp[hi] at hz
   |some it=>simp[hi] at hz; exact⟨it,rfl,hz⟩
  obtain⟨ie,uC,oU⟩:∃ie,P.info? e=some ie∧ie.size=sz:=by
   unfold size? at hs; cases hi:P.info? e with
   |none=>simp[hi] at hs
   |some ie=>simp[hi] at hs; exact⟨ie,rfl,hs⟩
  obtain⟨c1,c2⟩:=YK (M:=g.M) (c:=g.c) dd;obtain⟨bN,f1,f2,f3,_,_⟩:=Hj (g:=g) (place:=λi=>some (i*ie.size,ie.size)) (parts.map λp=>(p.1,a.eval p.2)).toList ps xs z cs v.cells hf (by rw[←tq,oU]; simp) (by rw[Array.toList_map,List.map_map]; rw[List.map_map] at hx; exact hx) (by simpa using c1) (λj y u e1 e2=>c2 j y u e1 (by simpa using e2)) (Hm dd);have hb:P.built t (parts.map λp=>(p.1,a.eval p.2)).toList=some bN:=by
   unfold Program.built; simp only[KT,hu,zS,uC]; exact f1
  simp only[execOp,ho,Sem.run_bind,run_build w t _ bN hb,Result.andThen_ok,Sem.run_pure];exact Out.here r (.agg _ _ _ f2 f3)
theorem US{z:List aa}{n k:Nat}(hk:k<n*z.length):((List.replicate n z).flatten)[k]?=z[k%z.length]?:=by
 induction n generalizing k with
 |zero=>simp at hk
 |succ n ih=>
  simp only[List.replicate_succ,List.flatten_cons];by_cases h:k<z.length
  ·rw[List.getElem?_append_left h,Nat.mod_eq_of_lt h]
  ·rw[List.getElem?_append_right (by omega),ih (by rw[Nat.succ_mul] at hk; omega)];rw[Nat.mod_eq_sub_mod (by omega:k ≥ z.length)]
theorem a_.ph{w0:World}{L:Ln}{g:Gm}{h:Hp}{w:World}(r:a_ GL w0 L g h w){nb:Nat}(hn:h nb=none)(sz:Nat)(rs:List (List aa))(arr:Array Value)(T:TypeId)(len cap:Nat)(ex:Bool)
 (hs:cap*sz=arr.size)(hlen:len≤cap)(hex:ex=true→cap=len)(Al:rs.length≤cap)(cI:∀(i:Nat) (row:List aa),rs[i]?=some row→row.length=sz)
 (hd:∀(i:Nat) (row:List aa) (j:Nat) (x:aa) (v:Value),rs[i]?=some row→row[j]?=some x→arr[i*sz+j]?=some v→g.den x v) :
  ∃g',g.Le g'∧a_ GL w0 L g' (dH h nb (.rows sz rs)) (w.alloc (.cells arr T))∧g'.den (.sl nb 0 len ex) (.slice (some ⟨w.heap.size,0,none⟩) len cap):=by
 have hle:=r.iJ hn ⟨w.heap.size,sz,arr.size,false⟩;have h1:rs.length*sz≤arr.size:=Nat.le_trans (Nat.mul_le_mul_right sz Al) (Nat.le_of_eq hs);have kr:Den g.M (gq g.c nb ⟨w.heap.size,sz,arr.size,false⟩) (.sl nb 0 len ex) (.slice (some ⟨w.heap.size,0*sz,none⟩) len cap):=
  .sl _ _ _ _ _ _ _ (Xv _ _ _) rfl hlen (by simpa using hs) hex
 rw[Nat.zero_mul] at kr;exact⟨_,hle,r.alloc hn (cb:=⟨w.heap.size,sz,arr.size,false⟩) rfl rfl rfl ⟨rfl,arr,T,rfl,rfl,h1,cI,λi row j x v e1 e2 e3=>Gm.jV hle (hd i row j x v e1 e2 e3)⟩,kr⟩
theorem Tt(sz n:Nat)(z:List aa)(ps:List (Nat×Nat))(xs cs:List aa)(rs:List (List aa))(hf:fill z ps xs=some cs)(KH:chunk sz n cs=some rs)(h0:Hp)(nb:Nat)(hn:h0 nb=none) :
  aD P GL (.kM sz n z ps) xs h0 (.sl nb 0 n true) [] [(nb,.rows sz rs)]:=by
 intro o os hc w0 L g h w a r hx _ dJ;have iB:h nb=none:=by rw[dJ _ (List.mem_singleton.2 rfl)]; exact hn
 generalize ho:o.op=op at hc;cases hc with
 |buildSlice t _ e v z0 _ parts _ _ hu hs Lg oY hz pc dd sP tq=>
  obtain⟨ie,uC,oU⟩:∃ie,P.info? e=some ie∧ie.size=sz:=by
   unfold size? at hs; cases hi:P.info? e with
   |none=>simp[hi] at hs
   |some ie=>simp[hi] at hs; exact⟨ie,rfl,hs⟩
  have P_:ie.zero=some v:=by unfold dz at hz; simpa[uC] using hz
  have pD:P.underlying t=some (.slice e):=by
   unfold dG at hu;split at hu
   ·rename_i e' h'; cases hu; exact h'
   ·cases hu
  obtain⟨c1,c2⟩:=YK (M:=g.M) (c:=g.c) dd;have yN:z0.length=sz:=by rw[←c1,Array.length_toList,pc]
  have Ap:z.length=n*sz:=by rw[←sP]; simp[yN]
  obtain⟨k1,k2,k3,k4⟩:=UA KH;have zP:∀mM:Array Value,mM.size=n*sz→(∀k v',mM[k]?=some v'→v.cells[k%sz]?=some v') →
    ∃bN,Instr.fill (λi=>some (i*ie.size,ie.size)) mM (parts.map λp=>(p.1,a.eval p.2)).toList=some bN∧bN.size=cs.length∧(∀(j:Nat) (y:aa) (u:Value),cs[j]?=some y→bN[j]?=some u→g.den y u)∧cs.length=z.length:=by
   intro mM hs0 Rx;obtain⟨bN,f1,f2,f3,f4,_⟩:=Hj (g:=g) (place:=λi=>some (i*ie.size,ie.size)) (parts.map λp=>(p.1,a.eval p.2)).toList ps xs z cs mM hf (by rw[←tq,oU]; simp) (by rw[Array.toList_map,List.map_map]; rw[List.map_map] at hx; exact hx) (by rw[hs0,Ap])
    (λj y u e1 e2=>by
     have hj:j<n*z0.length:=by rw[yN,←Ap]; exact(cJ e1).1
     rw[← sP,US hj,yN] at e1;exact c2 _ y u e1 (by rw[Array.getElem?_toList]; exact Rx j u e2))
    (λy hy=>by
     rw[← sP] at hy;simp only[List.mem_flatten,List.mem_replicate] at hy;obtain⟨l,⟨_,rfl⟩,hyl⟩:=hy;exact Hm dd y hyl)
   exact⟨bN,f1,f2,f3,f4⟩
  have w9:∀bN:Array Value,bN.size=cs.length→cs.length=z.length→(∀(j:Nat) (y:aa) (u:Value),cs[j]?=some y→bN[j]?=some u→g.den y u) →
    Out P GL w0 L g (ca h [(nb,.rows sz rs)]) (.sl nb 0 n true) (.ok (.value (.slice (some ⟨w.heap.size,0,none⟩) n n)) (w.alloc (.cells bN e))):=by
   intro bN f2 f4 f3;refine a_.ph r iB sz rs bN e n n true (by rw[f2,f4,Ap]) (Nat.le_refl _) (λ_=>rfl) (by omega) k3 (λi row j x v' e1 e2 e3=>?_);exact f3 _ x v' (k4 i row j x e1 e2) e3
  have Lh:0 < sz:=Nat.pos_of_ne_zero (λe=>oY (by rw[e]; simp));obtain⟨bN,f1,f2,f3,f4⟩:=zP ((Array.range (n * ie.size)).map (v.cells[· % v.cells.size]!)) (by simp[oU]) (λk v' e1=>by
   obtain⟨eN,hk⟩:=Array.getElem?_eq_some_iff.1 e1;simp at hk;subst hk;have:k%sz<v.cells.size:=by rw[pc]; exact Nat.mod_lt _ Lh
   rw[pc,Array.getElem?_eq_getElem this,getElem!_pos v.cells (k % sz) this])
  have bS:(Instr.buildSlice t n (parts.map λp=>(p.1,a.eval p.2))).run P w=.ok (.slice (some ⟨w.heap.size,0,none⟩) n n) (w.alloc (.cells bN e)):=by
   have hs1:¬n*ie.size>2 ^ 24:=by rw[oU]; omega
   have o_:¬n*ie.size=0:=by rw[oU]; exact oY
   simp only[Instr.buildSlice,sizeOf,typeInfo,zeroValue,newRow,Sem.run_bind,run_underlying pD,Result.andThen_ok,run_program,uC,Sem.run_pure,if_neg hs1,if_neg o_,P_,f1,run_newObj];rfl
  simp only[execOp,ho,Sem.run_bind,bS,Result.andThen_ok,Sem.run_pure];exact w9 bN f2 f4 f3
theorem TF(b:Nat)(es:List (aa×aa))(h0:Hp)(hb:h0 b=some (.map es)):aD P GL .kR [.map b] h0 (.int .i64 es.length) [b] []:=by
 intro o os hc w0 L g h w a r hx cB _;have bq:h b=some (.map es):=by rw[cB b (List.mem_singleton.2 rfl)]; exact hb
 generalize ho:o.op=op at hc;cases hc with
 |kR t k e z hu=>
  have d:=hx.1;generalize gP:a.eval z=u0 at d;cases d with
  |map _ _ cb ec=>
  cases bc:cb.cS with
  |true=>have:=r.aN b _ cb bq rfl ec bc; cases this
  |false=>
  obtain⟨_,_,o',dV,arr,clock,rfl,hs,bY⟩:=r.own b _ cb bq rfl ec bc;have ah:(getObj cb.blk).run P w=.ok (.map arr clock) w:=by simp[getObj,Sem.run,dV]
  have:(execOp a.eval o).run P w=.ok (.value (.int .i64 es.length)) w:=by
   simp[execOp,ho,resolve,invoke,builtin,Builtin.len_,gP,run_underlying hu,ah,goInt,hs]
  rw[this]; exact Out.here r (.int _ _ _)
theorem UN(h0:Hp):aD P GL .kR [.bD] h0 (.int .i64 0) [] []:=by
 intro o os hc w0 L g h w a r hx _ _;generalize ho:o.op=op at hc;cases hc with
 |kR t k e z hu=>
  have d:=hx.1;generalize gP:a.eval z=u0 at d;cases d with
  |bD=>
  have:(execOp a.eval o).run P w=.ok (.value (.int .i64 0)) w:=by
   simp[execOp,ho,resolve,invoke,builtin,Builtin.len_,gP,run_underlying hu,goInt]
  rw[this]; exact Out.here r (.int _ _ _)
theorem Si(es:List (aa×aa))(h0:Hp):aD P GL .kR [.dZ es] h0 (.int .i64 es.length) [] []:=by
 intro o os hc w0 L g h w a r hx _ _;generalize ho:o.op=op at hc;cases hc with
 |kR t k e z hu=>
  have d:=hx.1;generalize gP:a.eval z=u0 at d;cases d with
  |dZ _ _ blk arr clock hM hs h1 h2=>
  have ah:(getObj blk).run P w=.ok (.map arr clock) w:=by simp[getObj,Sem.run,r.aJ _ _ hM]
  have:(execOp a.eval o).run P w=.ok (.value (.int .i64 es.length)) w:=by
   simp[execOp,ho,resolve,invoke,builtin,Builtin.len_,gP,run_underlying hu,ah,goInt,hs]
  rw[this]; exact Out.here r (.int _ _ _)
theorem Wk(s:List UInt8)(h0:Hp)(nb:Nat)(hn:h0 nb=none):aD P GL .range [.str s] h0 (.iter nb) [] [(nb,.dN s 0)]:=by
 intro o os hc w0 L g h w a r hx _ dJ;have iB:h nb=none:=by rw[dJ _ (List.mem_singleton.2 rfl)]; exact hn
 generalize ho:o.op=op at hc;cases hc with
 |range t x hu=>
  obtain⟨s',e1,rfl⟩:=Y8 hx.1;have:(execOp a.eval o).run P w=.ok (.value (.pointer (some ⟨w.heap.size,0,none⟩))) (w.alloc (.stringIter s' 0)):=by
   simp only[execOp,ho,Instr.range,e1,Sem.run_bind,run_underlying hu,Result.andThen_ok,run_newObj,Sem.run_pure]; rfl
  rw[this];exact⟨_,r.iJ iB ⟨w.heap.size,0,0,false⟩,r.alloc iB (cb:=⟨w.heap.size,0,0,false⟩) rfl rfl rfl (by show _=_; rfl),.iter _ _ _ (Xv _ _ _)⟩
theorem ZH{t:TypeId}(h:P.concrete t=true)(h2:(P.underlying t).isSome=true):∃d,P.underlying t=some d∧∀ms,d≠.interface ms:=by
 obtain⟨d,hd⟩:=Option.isSome_iff_exists.1 h2;refine⟨d,hd,λms e=>?_⟩;subst e;simp[Program.concrete,hd] at h
theorem Iw(t:TypeId)(ok:Bool)(z v:aa)(u:TypeId)(h0:Hp) :
  aD P GL (.d_ t ok z) [.iface t v] h0 (bif ok then .aG [v,.bool true] else v) [] []∧(u≠t→aD P GL (.d_ t true z) [.iface u v] h0 (.aG [z,.bool false]) [] [])∧aD P GL (.d_ t true z) [.dX] h0 (.aG [z,.bool false]) [] []:=by
 refine⟨?_,?_,?_⟩
 ·intro o os hc w0 L g h w a r hx _ _;generalize ho:o.op=op at hc;cases hc with
  |d_ y tx _ _ zv _ qZ qh hz yx=>
   have d:=hx.1;generalize gP:a.eval y=u0 at d;cases d with
   |iface _ _ _ v' dv=>
   obtain⟨d',pB,qe⟩:=ZH qZ qh;have:(Instr.typeAssert (.iface t v') tx t ok).run P w=.ok (if ok then .tuple #[v',.bool true] else v') w:=by
    simp only[Instr.typeAssert,Sem.run_bind,run_underlying pB,Result.andThen_ok];cases d'<;>first|(exact absurd rfl (qe _))|simp
   simp only[execOp,ho,gP,Sem.run_bind,this,Result.andThen_ok,Sem.run_pure];refine Out.here r ?_;cases ok
   ·exact dv
   ·refine .aG _ _ _ rfl (λi x v e1 e2=>?_)
    match i with
    |0=>simp at e1 e2; subst e1 e2; exact dv
    |1=>simp at e1 e2; subst e1 e2; exact .bool _ _
    |n+2=>simp at e1
 ·intro dL o os hc w0 L g h w a r hx _ _;generalize ho:o.op=op at hc;cases hc with
  |d_ y tx _ _ zv _ qZ qh hz yx=>
   have d:=hx.1;generalize gP:a.eval y=u0 at d;cases d with
   |iface _ _ _ v' dv=>
   obtain⟨d',pB,qe⟩:=ZH qZ qh;have:(Instr.typeAssert (.iface u v') tx t true).run P w=.ok (.tuple #[zv,.bool false]) w:=by
    simp only[Instr.typeAssert,Sem.run_bind,run_underlying pB,Result.andThen_ok];cases d'<;>first|(exact absurd rfl (qe _))|simp[dL,XY hz]
   simp only[execOp,ho,gP,Sem.run_bind,this,Result.andThen_ok,Sem.run_pure];refine Out.here r (.aG _ _ _ rfl (λi x v e1 e2=>?_))
   match i with
   |0=>simp at e1 e2; subst e1 e2; exact Hh yx
   |1=>simp at e1 e2; subst e1 e2; exact .bool _ _
   |n+2=>simp at e1
 ·intro o os hc w0 L g h w a r hx _ _;generalize ho:o.op=op at hc;cases hc with
  |d_ y tx _ _ zv _ qZ qh hz yx=>
   have d:=hx.1;generalize gP:a.eval y=u0 at d;cases d with
   |dX=>
   obtain⟨d',pB,qe⟩:=ZH qZ qh;have:(Instr.typeAssert .nilIface tx t true).run P w=.ok (.tuple #[zv,.bool false]) w:=by
    simp only[Instr.typeAssert,Sem.run_bind,run_underlying pB,Result.andThen_ok];cases d'<;>first|(exact absurd rfl (qe _))|simp[XY hz]
   simp only[execOp,ho,gP,Sem.run_bind,this,Result.andThen_ok,Sem.run_pure];refine Out.here r (.aG _ _ _ rfl (λi x v e1 e2=>?_))
   match i with
   |0=>simp at e1 e2; subst e1 e2; exact Hh yx
   |1=>simp at e1 e2; subst e1 e2; exact .bool _ _
   |n+2=>simp at e1
end
end Go.Ah
end
section
namespace Go.Ah
section
variable {P:Program} {GL:aA}
def kX:dD→Bool→Value→Prop
 |.ptr,true,v=>v=.pointer none
 |.ptr,false,v=>∃a,v=.pointer (some a)
 |.slice,true,v=>v=.slice none 0 0
 |.slice,false,v=>∃a l c,v=.slice (some a) l c
 |.iface,true,v=>v=.nilIface
 |.iface,false,v=>∃t u,v=.iface t u
 |.func,true,v=>v=.nilFunc
 |.func,false,v=>∃f p q,v=.func f p q
 |.map,true,v=>v=.map none
 |.map,false,v=>∃m,v=.map (some m)
theorem OR{c:dD}{z:aa}{b:Bool}(h:mr c z=some b){g:Gm}{v:Value}(d:g.den z v):kX c b v:=by
 cases d<;>cases c<;>simp only[mr] at h<;>first
  |(cases h; done)
  |(cases h; simp only[kX]; done)
  |(cases h; exact⟨_,rfl⟩)
  |(cases h; exact⟨_,_,rfl⟩)
  |(cases h; exact⟨_,_,_,rfl⟩)
  |skip
 ·rename_i b' off len ex cb cap _ _ _ _ _;cases len with
  |zero=>cases h
  |succ n=>cases h; exact⟨_,_,_,rfl⟩
 ·rename_i nn _ rows a _ _ _ _ _ h2 h3 _ _ _ _ _;cases nn
  ·cases rows with
   |nil=>cases h
   |cons r rs=>
    cases h;have:=h3 (by simp);subst this;exact⟨_,_,_,rfl⟩
  ·cases h;obtain⟨a',WU⟩:=Option.isSome_iff_exists.1 (h2 rfl);subst WU; exact⟨_,_,_,rfl⟩
theorem Vv{c:dD}{t:TypeId}(ht:sJ P t=some c){b:Bool}{v:Value}(hv:kX c b v)(w:World)(d:Nat) :
  (Op.equalIn (d+1) t v (iM c)).run P w=.ok b w∧(Op.equalIn (d+1) t (iM c) v).run P w=.ok b w:=by
 unfold sJ at ht;cases hu:P.underlying t with
 |none=>simp[hu] at ht
 |some ty=>
  unfold Op.equalIn;simp only[Sem.run_bind,run_underlying hu,Result.andThen_ok];cases ty<;>simp only[hu] at ht<;>cases ht<;>cases b<;>simp only[kX] at hv<;>first
   |(subst hv; exact⟨rfl,rfl⟩)
   |(obtain⟨x,rfl⟩:=hv; exact⟨rfl,rfl⟩)
   |(obtain⟨x,y,rfl⟩:=hv; exact⟨rfl,rfl⟩)
   |(obtain⟨x,y,z,rfl⟩:=hv; exact⟨rfl,rfl⟩)
theorem MD{c:dD}{t:TypeId}(ht:sJ P t=some c){b:Bool}{v:Value}(hv:kX c b v)(neq:Bool)(w:World) :
  (binOp (if neq then .neq else .eql) t v (iM c)).run P w=.ok (.bool (bif neq then !b else b)) w∧(binOp (if neq then .neq else .eql) t (iM c) v).run P w=.ok (.bool (bif neq then !b else b)) w:=by
 obtain⟨h1,h2⟩:=Vv ht hv w 9999;have e1:∀x y:Value,(Op.equalIn (9999+1) t x y).run P w=.ok b w→((do pure (.bool (←Op.equal t x y)):Sem Value).run P w=.ok (.bool b) w)∧((do pure (.bool (!(←Op.equal t x y))):Sem Value).run P w=.ok (.bool (!b)) w):=by
  intro x y hr;have jh:(Op.equal t x y).run P w=.ok b w:=hr;constructor<;>simp only[Sem.run_bind,jh,Result.andThen_ok,Sem.run_pure]
 have f1:=e1 _ _ h1;have f2:=e1 _ _ h2;cases neq<;>cases c<;>cases b<;>simp only[kX] at hv<;>first
  |(subst hv; first|exact⟨f1.1,f2.1⟩|exact⟨f1.2,f2.2⟩)
  |(obtain⟨x,rfl⟩:=hv; first|exact⟨f1.1,f2.1⟩|exact⟨f1.2,f2.2⟩)
  |(obtain⟨x,y,rfl⟩:=hv; first|exact⟨f1.1,f2.1⟩|exact⟨f1.2,f2.2⟩)
  |(obtain⟨x,y,z,rfl⟩:=hv; first|exact⟨f1.1,f2.1⟩|exact⟨f1.2,f2.2⟩)
theorem NS{c:dD}{t:TypeId}(neq:Bool){b:Bool}{v:Value}(hv:kX c b v)(x:Operand) :
  eqGuard (if neq then .neq else .eql) t x (.const (iM c)) v (iM c)=pure ()∧eqGuard (if neq then .neq else .eql) t (.const (iM c)) x (iM c) v=pure ():=by
 cases c<;>cases b<;>simp only[kX] at hv<;>cases neq<;>first
  |(subst hv; constructor<;>first|rfl|simp[eqGuard,iM])
  |(obtain⟨x,rfl⟩:=hv; constructor<;>rfl)
  |(obtain⟨x,y,rfl⟩:=hv; constructor<;>rfl)
  |(obtain⟨x,y,z,rfl⟩:=hv; constructor<;>rfl)
theorem Wj(c:dD)(neq left:Bool)(x y:aa)(b:Bool)(hb:mr c (bif left then y else x)=some b)(h0:Hp):aD P GL (.mR c neq left) [x,y] h0 (.bool (bif neq then !b else b)) [] []:=by
 intro o os hc w0 L g h w a r hx _ _;generalize ho:o.op=op at hc;cases hc with
 |ub _ _ t t' p ht=>
  have hn:=OR hb hx.1;rw[QF ho rfl (v:=iM c) rfl (by rw[(NS neq hn p).1]; rfl) (MD ht hn neq w).1];exact Out.here r (.bool _ _)
 |ua _ _ t t' q ht=>
  have hn:=OR hb hx.2.1;rw[QF ho (u:=iM c) rfl rfl (by rw[(NS neq hn q).2]; rfl) (MD ht hn neq w).2];exact Out.here r (.bool _ _)
theorem S8(k:IntKind)(ex nn:Bool)(sz:Nat)(rows:List (List aa))(row:List aa)(i:Int)(E7:0≤i)(hi:rows[i.toNat]?=some row)(h0:Hp) :
  aD P GL (.dW sz) [.ax ex nn sz rows,.int k i] h0 (.ay row 0) [] []:=by
 intro o os hc w0 L g h w a r hx _ _;generalize ho:o.op=op at hc;cases hc with
 |dW t z q e _ hu hn=>
  obtain⟨d,d2,_⟩:=hx;generalize gP:a.eval z=u0 at d;cases d with
  |ax _ _ _ _ _ p cap blk off f h1 h2 h3 h4 h5 h6 h7 h8=>
   have bj:i.toNat<rows.length:=(cJ hi).1;have dL:rows≠[]:=by intro e; rw[e] at bj; simp at bj
   have hp:=h3 dL;subst hp;have K0:i<rows.length:=by omega
   simp only[execOp,ho,gP,Zq d2,Instr.indexAt,asIntOf,Sem.run_bind,run_underlying hu,Result.andThen_ok,Sem.run_pure];rw[if_pos ⟨E7,K0⟩];simp only[Sem.run_bind,YA hn,Result.andThen_ok,Sem.run_pure,YO];have hl:=h6 _ row hi;have hd:Den g.M g.c (.ay row 0) (.pointer (some ⟨blk,(off+i.toNat*sz)+0,none⟩)):=
    .ay _ _ _ _ _ (f i.toNat) (λk hk=>by rw[Nat.add_assoc]; exact h7 _ _ bj (by omega)) (λk x e=>h8 _ row k x hi e)
   exact Out.here r hd
theorem a_.dw{w0:World}{L:Ln}{g:Gm}{h:Hp}{w:World}(r:a_ GL w0 L g h w){b:Nat}{sz:Nat}{rs:List (List aa)}{cb:CB}(hb:h b=some (.rows sz rs))(ec:g.c b=some cb)(hv:cb.cS=false) :
  cb.sz=sz∧∃arr T,w.heap[cb.blk]?=some (.cells arr T (0,0))∧arr.size=cb.Dq∧rs.length*sz≤cb.Dq∧(∀(i:Nat) (row:List aa),rs[i]?=some row→row.length=sz) ∧
   ∀(i:Nat) (row:List aa) (j:Nat) (x:aa) (v:Value),rs[i]?=some row→row[j]?=some x→arr[i*sz+j]?=some v→g.den x v:=by
 obtain⟨_,_,o',dV,h1,arr,T,rfl,h2,h3,h4,h5⟩:=r.own b _ cb hb rfl ec hv;exact⟨h1,arr,T,dV,h2,h3,h4,h5⟩
theorem a_.eX{w0:World}{L:Ln}{g:Gm}{h:Hp}{w:World}(r:a_ GL w0 L g h w){b:Nat}{sz:Nat}{rs:List (List aa)}{cb:CB}(hb:h b=some (.rows sz rs))(ec:g.c b=some cb)(hv:cb.cS=true):cb.sz=sz∧rs=[]:=by
 have:=r.aN b _ cb hb rfl ec hv;injection this with e1 e2
 exact⟨e1.symm,e2⟩
theorem Um(k:IntKind)(ex:Bool)(sz b o' len:Nat)(rs:List (List aa))(i:Int)(E7:0≤i)(hi:i<len)(h0:Hp)(hb:h0 b=some (.rows sz rs)) :
  aD P GL (.dW sz) [.sl b o' len ex,.int k i] h0 (.ptr b (o'+i.toNat) 0) [b] []:=by
 intro o os hc w0 L g h w a r hx cB _;have bq:h b=some (.rows sz rs):=by rw[cB b (List.mem_singleton.2 rfl)]; exact hb
 generalize ho:o.op=op at hc;cases hc with
 |dW t z q e _ hu hn=>
  obtain⟨d,d2,_⟩:=hx;generalize gP:a.eval z=u0 at d;cases d with
  |mu=>simp at hi; omega
  |sl _ _ _ _ _ cb cap ec hv h1 h2 h3=>
   obtain⟨e1,_⟩:=r.dw bq ec hv;simp only[execOp,ho,gP,Zq d2,Instr.indexAt,asIntOf,Sem.run_bind,run_underlying hu,Result.andThen_ok,Sem.run_pure];rw[if_pos ⟨E7,hi⟩];simp only[Sem.run_bind,YA hn,Result.andThen_ok,Sem.run_pure,YO];have hd:Den g.M g.c (.ptr b (o'+i.toNat) 0) (.pointer (some ⟨cb.blk,(o'+i.toNat)*cb.sz+0,none⟩)):=.ptr _ _ _ _ _ ec;rw[e1,Nat.add_mul,Nat.add_zero] at hd;rw[e1];exact Out.here r hd
theorem R7(k:IntKind)(s:List UInt8)(i:Int)(c:UInt8)(E7:0≤i)(hi:s[i.toNat]?=some c)(h0:Hp):aD P GL .jE [.str s,.int k i] h0 (.int .u8 c.toNat) [] []:=by
 intro o os hc w0 L g h w a r hx _ _;generalize ho:o.op=op at hc;cases hc with
 |jE t z q hu=>
  obtain⟨d,d2,_⟩:=hx;obtain⟨s',e1,rfl⟩:=Y8 d;have hs:s'[i.toNat]?=some c:=by
   have bj:i.toNat<s'.data.toList.length:=(cJ hi).1;have ah:=(cJ hi).2;have xc:i.toNat<s'.size:=by simpa using bj
   rw[getElem?_pos s' i.toNat xc]
   congr 1
  simp only[execOp,ho,e1,Zq d2,Instr.index,asIntOf,Sem.run_bind,run_underlying hu,Result.andThen_ok,Sem.run_pure,if_pos E7,hs];exact Out.here r (.int _ _ _)
theorem Vt(agg:Bool)(n b i j sz:Nat)(rs:List (List aa))(row:List aa)(v:aa)(h0:Hp)(hb:h0 b=some (.rows sz rs))(hi:rs[i]?=some row)(hv:aF agg j n row=some v) :
  aD P GL (.load agg n) [.ptr b i j] h0 v [b] []:=by
 intro o os hc w0 L g h w a r hx cB _;have bq:h b=some (.rows sz rs):=by rw[cB b (List.mem_singleton.2 rfl)]; exact hb
 generalize ho:o.op=op at hc;cases hc with
 |load t x _ _ ha hn=>
  have d:=hx.1;generalize hu:a.eval x=u0 at d;cases d with
  |ptr _ _ _ _ cb ec=>
  cases bc:cb.cS with
  |true=>have:=(r.eX bq ec bc).2; subst this; simp at hi
  |false=>
  obtain⟨e1,arr,T,dV,hs,hle,cI,bY⟩:=r.dw bq ec bc;have pV:i<rs.length:=(cJ hi).1;have hbound:i*sz+sz≤arr.size:=by
   rw[hs,←Nat.succ_mul]; exact Nat.le_trans (Nat.mul_le_mul_right sz pV) hle
  have Am:∀(k:Nat) (y:aa) (u:Value),row[k]?=some y→(arr.extract (i*sz) (i*sz+sz))[k]?=some u→g.den y u:=by
   intro k y u e2 e3;obtain⟨hk,e3⟩:=Array.getElem?_eq_some_iff.1 e3;rw[Array.getElem_extract] at e3;simp at hk;have tn:i*sz+k<arr.size:=by omega
   exact bY i row k y u hi e2 (by rw[Array.getElem?_eq_getElem tn,e3])
  obtain⟨p1,p2⟩:=D2 (g:=g) hv (by rw[cI i row hi]; simp; omega) Am;obtain⟨l1,l2⟩:=I1 ha hn (T:=T) (fr:=(0,0)) (XS dV) (i*sz+j);rw[e1] at hu;cases agg with
  |true=>
   obtain⟨q1,q2⟩:=p1 rfl;have KN:(arr.extract (i*sz) (i*sz+sz)).extract j (j+n)=arr.extract (i*sz+j) (i*sz+j+n):=by
    by_cases kI:n=0
    ·subst kI;apply Array.ext
     ·simp; omega
     ·intro k eN oV; simp at eN; omega
    ·have:=q1 kI;simp at this;apply Array.ext
     ·simp; omega
     ·intro k eN oV; simp[Nat.add_assoc]
   rw[KN] at q2;have LD:n≠0→i*sz+j+n≤arr.size:=λkI=>by have:=q1 kI; simp at this; omega
   simp only[execOp,ho,Instr.loadAt,hu,Instr.sureAddr,Sem.run_bind,Sem.run_pure,Result.andThen_ok,l1 rfl LD];exact Out.here r q2
  |false=>
   obtain⟨u,q1,q2⟩:=p2 rfl;obtain⟨hk,q1⟩:=Array.getElem?_eq_some_iff.1 q1;rw[Array.getElem_extract] at q1;simp at hk;have tn:i*sz+j<arr.size:=by omega
   simp only[execOp,ho,Instr.loadAt,hu,Instr.sureAddr,Sem.run_bind,Sem.run_pure,Result.andThen_ok,l2 rfl u (by rw[Array.getElem?_eq_getElem tn,q1])];exact Out.here r q2
theorem Z0{w:World}{blk j:Nat}{arr:Array Value}{T:TypeId}(ho:w.heap[blk]?=some (.cells arr T (0,0)))(vs:List Value)(hv:∀v∈vs,v.oneCell'=true)(ff:vs≠[]→j+vs.length≤arr.size) :
  ∃e_,(storeCells ⟨blk,j,none⟩ vs).run P w=.ok () (w.setRow blk e_)∧e_.size=arr.size∧∀k,e_[k]?=if j≤k∧k<j+vs.length then vs[k-j]? else arr[k]?:=by
 by_cases h0:vs=[]
 ·subst h0;refine⟨arr,?_,rfl,λk=>by rw[if_neg (by simp)]⟩;simp only[storeCells]; rw[setRow_self w blk arr T (0,0) ho]; rfl
 ·have hf:=ff h0;refine⟨_,run_storeCells_at P blk j T vs 0 arr w ho (by omega) hv,?_,λk=>?_⟩
  ·simp only[List.size_toArray,List.length_append,List.length_take,List.length_drop,Array.length_toList]; omega
  ·by_cases hk:j≤k∧k<j+vs.length
   ·rw[if_pos hk,List.getElem?_toArray,List.append_assoc,List.getElem?_append_right (by simp; omega),List.getElem?_append_left (by simp; omega)]
    congr 1; simp; omega
   ·rw[if_neg hk];by_cases eN:k<j
    ·rw[List.getElem?_toArray,List.append_assoc,List.getElem?_append_left (by simp; omega),List.getElem?_take_of_lt (by omega)];simp
    ·rw[List.getElem?_toArray,List.getElem?_append_right (by simp; omega)];simp
     congr 1; omega
theorem RR(n b i j sz:Nat)(rs iu:List (List aa))(row row' cs:List aa)(x:aa)(h0:Hp)(hb:h0 b=some (.rows sz rs))(hi:rs[i]?=some row)(jA:cellsOf x=some cs)(hlen:cs.length=n)(sR:bR j cs row=some row')(uO:iu=rs.set i row') :
  aD P GL (.store n) [.ptr b i j,x] h0 .aI [] [(b,.rows sz iu)]:=by
 intro o os hc w0 L g h w a r hx _ dJ;have bq:h b=some (.rows sz rs):=by rw[dJ _ (List.mem_singleton.2 rfl)]; exact hb
 generalize ho:o.op=op at hc;cases hc with
 |store t y z _ hn=>
  obtain⟨d,dx,_⟩:=hx;generalize hu:a.eval y=u0 at d;cases d with
  |ptr _ _ _ _ cb ec=>
  cases bc:cb.cS with
  |true=>have:=(r.eX bq ec bc).2; subst this; simp at hi
  |false=>
  obtain⟨e1,arr,T,dV,hs,hle,cI,bY⟩:=r.dw bq ec bc;obtain⟨c1,c2,c3⟩:=Q3 jA dx;obtain⟨s1,s2,s3⟩:=JO sR;have pV:i<rs.length:=(cJ hi).1;have yJ:=cI i row hi;have hbound:i*sz+sz≤arr.size:=by
   rw[hs,←Nat.succ_mul]; exact Nat.le_trans (Nat.mul_le_mul_right sz pV) hle
  have hL:(a.eval z).cells.toList.length=cs.length:=by rw[Array.length_toList]; exact c1
  have oX:∀v∈(a.eval z).cells.toList,v.oneCell'=true:=by
   intro v hv;obtain⟨i,hi⟩:=List.mem_iff_getElem?.1 hv;have bj:i<cs.length:=by rw[←hL]; exact(cJ hi).1
   exact G7 (c3 cs[i] (List.getElem_mem bj)) (c2 i cs[i] v (by simp[bj]) (by rwa [Array.getElem?_toList] at hi))
  obtain⟨e_,f1,f2,f3⟩:=Z0 (P:=P) dV (a.eval z).cells.toList oX (j:=i * sz + j) (by
   intro dL;have:cs≠[]:=by intro e; rw[e] at hL; exact dL (List.length_eq_zero_iff.1 hL)
   have:=s2 this;omega)
  have ei:(a.eval z).cells.size=n:=by rw[c1,hlen]
  rw[e1] at hu;have bS:(execOp a.eval o).run P w=.ok .skip (w.setRow cb.blk e_):=by
   simp only[execOp,ho,Instr.storeAt,hu,Instr.sureAddr,storeVar,Sem.run_bind,Sem.run_pure,Result.andThen_ok,YA hn,Sem.run_ite];simp[ei,f1]
  rw[bS];refine⟨g,Gm.Le.refl g,?_,rfl⟩;refine r.write bq rfl ec bc rfl rfl rfl rfl (Hb w _ arr e_ T (0,0) dV) ⟨e1,e_,T,rfl,by rw[f2,hs],by subst uO; simpa using hle,?_,?_⟩
  ·intro i' xo e2;subst uO;by_cases E8:i'=i
   ·subst E8; simp[pV] at e2; subst e2; rw[s1,yJ]
   ·rw[List.getElem?_set_ne (λe=>E8 e.symm)] at e2; exact cI i' xo e2
  ·intro i' xo k y u e2 e3 e4;subst uO;rw[f3,hL] at e4;by_cases E8:i'=i
   ·subst E8; simp[pV] at e2; subst e2;have hk:k<sz:=by rw[←yJ,←s1]; exact(cJ e3).1
    rw[s3 k] at e3;by_cases Ra:j≤k∧k<j+cs.length
    ·rw[if_pos Ra] at e3;rw[if_pos (by omega)] at e4;refine c2 (k-j) y u e3 ?_;rw[Array.getElem?_toList] at e4;rw[←e4]; congr 1; omega
    ·rw[if_neg Ra] at e3;rw[if_neg (by omega)] at e4;exact bY i' row k y u hi e3 e4
   ·rw[List.getElem?_set_ne (λe=>E8 e.symm)] at e2;have hk:k<sz:=by rw[←cI i' xo e2]; exact(cJ e3).1
    have qf:¬(i*sz+j≤i'*sz+k∧i'*sz+k<i*sz+j+cs.length):=by
     intro ⟨q1,q2⟩;by_cases q_:cs=[]
     ·subst q_; simp at q2; omega
     ·have H7:=s2 q_;rcases Nat.lt_or_ge i' i with bj|zQ
      ·have:i'*sz+sz≤i*sz:=by rw[←Nat.succ_mul]; exact Nat.mul_le_mul_right sz bj
       omega
      ·have bj:i<i':=by omega
       have:i*sz+sz≤i'*sz:=by rw[←Nat.succ_mul]; exact Nat.mul_le_mul_right sz bj
       omega
    rw[if_neg qf] at e4;exact bY i' xo k y u e2 e3 e4
end
end Go.Ah
end
section
namespace Go.Ah
section
variable {P:Program} {GL:aA}
theorem R6{g:Gm}{l r:Bool}{a b:aa}(h:CW l a b=some r){t:TypeId}(ht:lh P t=some l){v u:Value}(hv:g.den a v)(hu:g.den b u)(d:Nat)(w:World):(Op.equalIn (d+1) t v u).run P w=.ok r w:=by
 have Dm:∃ty,P.underlying t=some ty∧((l=false∧∃q,ty=.int q)∨(l=true∧ty=.bool)):=by
  unfold lh at ht;cases hu:P.underlying t with
  |none=>simp[hu] at ht
  |some ty=>cases ty<;>simp_all
 obtain⟨ty,Dm,hl⟩:=Dm;rcases hl with ⟨rfl,q,rfl⟩|⟨rfl,rfl⟩
 ·cases hv<;>cases hu<;>simp only[CW] at h<;>try (cases h; done)
  rename_i k a k' b;cases hk:gK k k' with
  |false=>simp[hk] at h
  |true=>
   have:=Q4 hk;subst this;simp[hk] at h; subst h;have:=run_equalIn_int (P:=P) w d t k q a b Dm;simpa using this
 ·cases hv<;>cases hu<;>simp only[CW] at h<;>try (cases h; done)
  cases h;exact run_equalIn_bool' w d t _ _ Dm
theorem OJ{g:Gm}(d:Nat)(xs ys:Array Value)(w:World):∀(fs:List Field) (k:Nat) (ls:List Bool) (as bs:List aa) (r:Bool),XM ls as bs=some r →
  fs.all (λf=>f.name != "_")=true→fs.mapM (λf=>lh P f.type)=some ls→fs.map (·.offset)=List.range' k fs.length →
  (∀(i:Nat) (x:aa),as[i]?=some x→∃v,xs[k+i]?=some v∧g.den x v)→(∀(i:Nat) (x:aa),bs[i]?=some x→∃v,ys[k+i]?=some v∧g.den x v) →
  (Op.eqFields (d+1) xs ys fs:Sem Bool).run P w=.ok r w
 |[],k,ls,as,bs,r,he,_,hm,_,_,_=>by
  simp at hm; subst hm;cases as<;>cases bs<;>simp only[XM] at he<;>first|(cases he; rfl)|cases he
 |f::fs,k,ls,as,bs,r,he,fK,hm,Fs,hx,hy=>by
  simp only[List.mapM_cons,Option.bind_eq_bind,Option.pure_def] at hm;cases Dj:lh P f.type with
  |none=>simp[Dj] at hm
  |some l=>
  cases K3:fs.mapM (λf=>lh P f.type) with
  |none=>simp[Dj,K3] at hm
  |some RC=>
  simp[Dj,K3] at hm; subst hm;cases as with
  |nil=>simp[XM] at he
  |cons a as=>
   cases bs with
   |nil=>simp[XM] at he
   |cons b bs=>
    simp only[XM] at he;cases h1:CW l a b with
    |none=>simp[h1] at he
    |some r1=>
     cases h2:XM RC as bs with
     |none=>simp[h1,h2] at he
     |some r2=>
      simp only[h1,h2] at he; cases he;simp only[List.all_cons,Bool.and_eq_true,bne_iff_ne] at fK;obtain⟨Fk,EL⟩:=fK;simp only[List.map_cons,List.length_cons,List.range'_succ,List.cons.injEq] at Fs;obtain⟨hk,Ft⟩:=Fs;obtain⟨v,Ry,hv2⟩:=hx 0 a rfl;obtain⟨u,nz,sS⟩:=hy 0 b rfl;rw[Nat.add_zero] at Ry nz;have ih:=OJ d xs ys w fs (k+1) RC as bs r2 h2 EL K3 Ft (λi x e=>by have:=hx (i+1) x (by simpa using e); rwa [show k+1+i=k+(i+1) by omega]) (λi x e=>by have:=hy (i+1) x (by simpa using e); rwa [show k+1+i=k+(i+1) by omega]);have yF:∀(arr:Array Value) (z:Value),arr[k]?=some z→(part f.type arr f.offset).run P w=.ok z w:=by
       intro arr z hz;have ha:ea P f.type=some false:=by
        unfold lh at Dj;unfold ea;cases hu:P.underlying f.type with
        |none=>simp[hu] at Dj
        |some ty=>cases ty<;>simp_all
       simp only[part,Sem.run_bind,ZV ha,Result.andThen_ok,Bool.false_eq_true,if_false,hk,hz,Sem.run_pure]
      simp only[Op.eqFields];rw[if_pos Fk];simp only[Sem.run_bind,yF xs v Ry,yF ys u nz,R6 h1 Dj hv2 sS,Result.andThen_ok];cases r1
      ·simp
      ·simp[ih]
theorem SK(neq:Bool)(ls:List Bool)(as bs:List aa)(r:Bool)(hr:XM ls as bs=some r)(h0:Hp):aD P GL (.yq neq ls) [.agg as,.agg bs] h0 (.bool (bif neq then !r else r)) [] []:=by
 intro o os hc w0 L g h w a r' hx _ _;generalize ho:o.op=op at hc;cases hc with
 |yq _ t t' x y _ hl hs hg=>
  obtain⟨d1,d2,_⟩:=hx;generalize nz:a.eval x=u1 at d1;generalize sS:a.eval y=u2 at d2;cases d1 with
  |agg _ _ vs q1 q2=>
  cases d2 with
  |agg _ _ us q3 q4=>
  have dM:∃fs,P.underlying t=some (.struct fs)∧fs.toList.all (λf=>f.name != "_")=true∧fs.toList.map (·.offset)=List.range' 0 fs.toList.length∧fs.toList.mapM (λf=>lh P f.type)=some ls:=by
   unfold pf at hl;split at hl
   ·rename_i fs E1;refine⟨fs,E1,?_⟩;split at hl
    ·rename_i pR;simp only[Bool.and_eq_true,beq_iff_eq] at pR;exact⟨pR.1,pR.2,hl⟩
    ·cases hl
   ·cases hl
  obtain⟨fs,f1,f2,f3,f4⟩:=dM;have Dh:P.fieldsOf t=fs:=by simp[Program.fieldsOf,f1]
  have bS:(Op.equalIn 10000 t (.agg vs) (.agg us)).run P w=.ok r w:=by
   rw[show (10000:Nat)=9998+1+1 from rfl,run_equalIn_struct w (9998+1) t vs us (by rw[Dh]; exact f1) hs,Dh];refine OJ (g:=g) 9998 vs us w fs.toList 0 ls as bs r hr f2 f4 f3 (λi x e=>?_) (λi x e=>?_)
   ·have hi:i<vs.size:=by rw[q1]; exact(cJ e).1
    exact⟨vs[i],by simp[hi],q2 i x _ e (by simp[hi])⟩
   ·have hi:i<us.size:=by rw[q3]; exact(cJ e).1
    exact⟨us[i],by simp[hi],q4 i x _ e (by simp[hi])⟩
  cases neq
  ·rw[QF ho nz sS (run_eqGuard_agg w _ t x y vs us hg) (z:=.bool r) (by show (binOp .eql t _ _).run P w=_; rw[run_eql_struct,bS]; rfl)];exact Out.here r' (.bool _ _)
  ·rw[QF ho nz sS (run_eqGuard_agg w _ t x y vs us hg) (z:=.bool (!r)) (by show (binOp .neq t _ _).run P w=_; rw[run_neq_struct,bS]; rfl)];exact Out.here r' (.bool _ _)
end
end Go.Ah
end
section
namespace Go.Ah
def gL:aa→aa→Option Bool
 |.int k a,.int k' b=>bif gK k k' then some (a==b) else none
 |.str a,.str b=>some (a==b)
 |_,_=>none
def gD(k:aa):List (aa×aa)→Option (Option aa)
 |[]=>some none
 |(q,x)::es=>match gL k q with
  |some true=>some (some x)
  |some false=>gD k es
  |none=>none
def mK(k v:aa):List (aa×aa)→Option (List (aa×aa))
 |[]=>some [(k,v)]
 |(q,x)::es=>match gL k q with
  |some true=>some ((k,v)::es)
  |some false=>match mK k v es with
   |some nN=>some ((q,x)::nN)
   |none=>none
  |none=>none
def eb(g:Gm)(es:List (aa×aa))(l:List MapEntry):Prop:=
 l.length=es.length∧∀(i:Nat) (k x:aa) (e:MapEntry),es[i]?=some (k,x)→l[i]?=some e→g.den k e.key∧g.den x e.val
section
variable {P:Program} {GL:aA}
def iW(d:TypeDesc)(k:aa):Prop:=(∃z n z',k=.int z n∧d=.int z')∨(∃s,k=.str s∧d=.string)
theorem Ns{g:Gm}{k q:aa}{r:Bool}(h:gL k q=some r){u v:Value}(hu:g.den k u)(hv:g.den q v){d:TypeDesc}(ff:iW d k) :
  Instr.sameNow d u v=some r:=by
 rcases ff with ⟨z,n,z',rfl,rfl⟩|⟨s,rfl,rfl⟩
 ·cases q<;>simp only[gL] at h<;>try (cases h; done)
  cases hu; cases hv;rename_i k2 m;cases hk:gK z k2 with
  |false=>simp[hk] at h
  |true=>
   have:=Q4 hk;subst this;simp[hk] at h; subst h;simp[Instr.sameNow]
 ·cases q<;>simp only[gL] at h<;>try (cases h; done)
  cases hu; cases hv;cases h;rename_i a b;simp only[Instr.sameNow]
  congr 1
  rw[beq_toListBytes,ByteArray.toList_eq,ByteArray.toList_eq]
theorem Mk{g:Gm}{k:aa}{u:Value}(hu:g.den k u){d:TypeDesc}(ff:iW d k):∀(es:List (aa×aa)) (l:List MapEntry) (i:Nat) (r:Option aa),eb g es l→gD k es=some r →
  (r=none→Instr.findNow d u l i=some none)∧(∀x,r=some x→∃j v,Instr.findNow d u l i=some (some (j,v))∧g.den x v∧i≤j∧∃e,l[j-i]?=some e∧v=e.val)
 |[],l,i,r,⟨hl,_⟩,h=>by
  have:l=[]:=List.length_eq_zero_iff.1 (by simpa using hl);subst this;simp only[gD] at h; cases h;exact⟨λ_=>rfl,λx e=>by cases e⟩
 |(q,x)::es,l,i,r,⟨hl,hd⟩,h=>by
  cases l with
  |nil=>simp at hl
  |cons e l=>
   obtain⟨d1,d2⟩:=hd 0 q x e rfl rfl;simp only[gD] at h;cases hk:gL k q with
   |none=>simp[hk] at h
   |some b=>
    have rj:=Ns hk hu d1 ff;cases b with
    |true=>
     simp only[hk] at h; cases h;refine⟨λe=>(by cases e),λy ey=>?_⟩;cases ey;exact⟨i,e.val,by simp[Instr.findNow,rj],d2,Nat.le_refl _,e,by simp,rfl⟩
    |false=>
     simp only[hk] at h;obtain⟨i1,i2⟩:=Mk hu ff es l (i+1) r ⟨by simpa using hl,λj k' x' e' q1 q2=>hd (j+1) k' x' e' (by simpa using q1) (by simpa using q2)⟩ h;refine⟨λe0=>by simp[Instr.findNow,rj,i1 e0],λy ey=>?_⟩;obtain⟨j,v,f1,f2,f3,e',f4,f5⟩:=i2 y ey;refine⟨j,v,by simp[Instr.findNow,rj,f1],f2,by omega,e',?_,f5⟩;rw[show j-i=(j-(i+1))+1 by omega]; simpa using f4
theorem Mn{t:TypeId}{d:TypeDesc}(hd:P.underlying t=some d){k:aa}(ff:iW d k){g:Gm}{u:Value}(hu:g.den k u)(b:Bool)(n:Nat)(w:World):(Instr.checkKey b (n+1) t u).run P w=.ok () w:=by
 rcases ff with ⟨z,m,z',rfl,rfl⟩|⟨s,rfl,rfl⟩
 ·cases hu; simp only[Instr.checkKey,Sem.run_bind,run_underlying hd,Result.andThen_ok,Sem.run_pure]
 ·cases hu; simp only[Instr.checkKey,Sem.run_bind,run_underlying hd,Result.andThen_ok,Sem.run_pure]
theorem ZM{t:TypeId}{d:TypeDesc}(hd:P.underlying t=some d){u:Value}{l:List MapEntry}{r:Option (Nat×Value)}(h:Instr.findNow d u l 0=some r)(w:World):(Instr.findKey t u l).run P w=.ok r w:=by
 simp only[Instr.findKey,Sem.run_bind,run_underlying hd,Result.andThen_ok,h,Sem.run_pure]
def jo(ok:Bool)(z:aa)(r:Option aa):aa:=
 bif ok then .aG [r.getD z,.bool r.isSome] else r.getD z
theorem VJ{t k e:TypeId}{d:TypeDesc}{v:Value}{z:aa}(ht:P.underlying t=some (.map k e))(hd:P.underlying k=some d)(hz:dz P e=some v)(yx:nS v=some z){g:Gm}{q:aa}{u m:Value}(hu:g.den q u)(ff:iW d q)
 {w:World}{es:List (aa×aa)}{arr:Array MapEntry}(hm:(m=.map none∧arr = #[])∨∃b clock,m=.map (some b)∧w.heap[b]?=some (.map arr clock))(EX:eb g es arr.toList){r:Option aa}(hr:gD q es=some r)(ok:Bool) :
  ∃x,(Instr.lookup t m u ok).run P w=.ok x w∧g.den (jo ok z r) x:=by
 obtain⟨f1,f2⟩:=Mk hu ff es arr.toList 0 r EX hr;have zN:=λw'=>Mn (P:=P) hd ff hu arr.isEmpty 9999 w';have w9:∀v' b,g.den (r.getD z) v'→b=r.isSome→g.den (jo ok z r) (if ok then .tuple #[v',.bool b] else v'):=by
  intro v' b h2 h3;subst h3;cases ok
  ·exact h2
  ·refine .aG _ _ _ rfl (λi x v e1 e2=>?_)
   match i with
   |0=>simp at e1 e2; subst e1 e2; exact h2
   |1=>simp at e1 e2; subst e1 e2; exact .bool _ _
   |n+2=>simp at e1
 cases r with
 |none=>
  refine⟨_,?_,w9 v false (Hh yx) rfl⟩;unfold Instr.lookup;rcases hm with ⟨rfl,rfl⟩|⟨b,clock,rfl,hb⟩
  ·simp only[Sem.run_bind,run_underlying ht,Result.andThen_ok,Sem.run_pure,zN w,ZM hd (f1 rfl),XY hz]
  ·have hg:(getObj b).run P w=.ok (.map arr clock) w:=by simp[getObj,Sem.run,hb]
   simp only[Sem.run_bind,run_underlying ht,Result.andThen_ok,Sem.run_pure,hg,zN w,ZM hd (f1 rfl),XY hz]
 |some x=>
  obtain⟨j,v',g1,g2,_⟩:=f2 x rfl;refine⟨_,?_,w9 v' true g2 rfl⟩;unfold Instr.lookup;rcases hm with ⟨rfl,rfl⟩|⟨b,clock,rfl,hb⟩
  ·simp only[Sem.run_bind,run_underlying ht,Result.andThen_ok,Sem.run_pure,zN w,ZM hd g1]
  ·have hg:(getObj b).run P w=.ok (.map arr clock) w:=by simp[getObj,Sem.run,hb]
   simp only[Sem.run_bind,run_underlying ht,Result.andThen_ok,Sem.run_pure,hg,zN w,ZM hd g1]
inductive pG (h0:Hp):aa→List (aa×aa)→List Nat→Prop
 |own (b:Nat) (es:List (aa×aa)):h0 b=some (.map es)→pG h0 (.map b) es [b]
 |row (es:List (aa×aa)):pG h0 (.dZ es) es []
 |nil:pG h0 .bD [] []
def jQ:Bool→aa→Prop
 |true,k=>∃s,k=.str s
 |false,k=>∃q n,k=.int q n
theorem MZ{t:TypeId}{str:Bool}(ht:sC P t str){k:aa}(hk:jQ str k):∃d,P.underlying t=some d∧iW d k:=by
 cases str
 ·obtain⟨q,hq⟩:=ht; obtain⟨q',n,rfl⟩:=hk; exact⟨_,hq,.inl ⟨_,_,_,rfl,rfl⟩⟩
 ·obtain⟨s,rfl⟩:=hk; exact⟨_,ht,.inr ⟨_,rfl,rfl⟩⟩
theorem UF(str ok:Bool)(z m k:aa)(es:List (aa×aa))(rd:List Nat)(r:Option aa)(h0:Hp)(hm:pG h0 m es rd)(hk:jQ str k)(hr:gD k es=some r):aD P GL (.lookup str ok z) [m,k] h0 (jo ok z r) rd []:=by
 intro o os hc w0 L g h w a rp hx cB _;generalize ho:o.op=op at hc;cases hc with
 |lookup t kt e x i _ _ v _ ht z6 hz yx=>
  obtain⟨d1,d2,_⟩:=hx;obtain⟨d,hd,ff⟩:=MZ z6 hk;generalize nz:a.eval x=u1 at d1;have K1:∃arr:Array MapEntry,((u1=.map none∧arr = #[])∨∃b clock,u1=.map (some b)∧w.heap[b]?=some (.map arr clock))∧eb g es arr.toList:=by
   cases hm with
   |own b _ hb=>
    have bq:h b=some (.map es):=by rw[cB b (List.mem_singleton.2 rfl)]; exact hb
    cases d1 with
    |map _ _ cb ec=>
    cases bc:cb.cS with
    |true=>have:=rp.aN b _ cb bq rfl ec bc; cases this
    |false=>
    obtain⟨_,_,o',dV,arr,clock,rfl,hs,bY⟩:=rp.own b _ cb bq rfl ec bc;exact⟨arr,.inr ⟨_,clock,rfl,dV⟩,by simpa using hs,λi k x e e1 e2=>bY i k x e e1 (by simpa using e2)⟩
   |row _=>
    cases d1 with
    |dZ _ _ blk arr clock hM hs h1 h2=>
    exact⟨arr,.inr ⟨_,clock,rfl,rp.aJ _ _ hM⟩,by simpa using hs,λi k x e e1 e2=>⟨(h1 i k x e e1 (by simpa using e2)).mono (fE.refl _) (eF.aV _),(h2 i k x e e1 (by simpa using e2)).mono (fE.refl _) (eF.aV _)⟩⟩
   |nil=>
    cases d1;exact⟨#[],.inl ⟨rfl,rfl⟩,rfl,by simp⟩
  obtain⟨arr,oW,EX⟩:=K1;obtain⟨y,f1,f2⟩:=VJ ht hd hz yx d2 ff oW EX hr ok;simp only[execOp,ho,nz,Sem.run_bind,f1,Result.andThen_ok,Sem.run_pure];exact Out.here rp f2
theorem VT{g:Gm}{k q:aa}(h:gL k q=some true){u v:Value}(hu:g.den k u)(hv:g.den q v)(n:Nat):Instr.sameBits n v u=true:=by
 cases k<;>cases q<;>simp only[gL] at h<;>try (cases h; done)
 ·rename_i k1 a k2 b;cases hk:gK k1 k2 with
  |false=>simp[hk] at h
  |true=>
   have:=Q4 hk; subst this;simp[hk] at h;cases hu; cases hv; subst h;cases n<;>simp[Instr.sameBits]
 ·cases hu; cases hv;rename_i a b;simp at h;have WX:(b:ByteArray)==a:=by rw[beq_toListBytes,ByteArray.toList_eq,ByteArray.toList_eq]; simp[h]
  cases n<;>simpa[Instr.sameBits] using WX
theorem Np{g:Gm}{k x:aa}{u y:Value}(hu:g.den k u)(hy:g.den x y){d:TypeDesc}(ff:iW d k):∀(es nN:List (aa×aa)) (l:List MapEntry) (i:Nat),eb g es l→mK k x es=some nN →
  (Instr.findNow d u l i=some none∧∀e:MapEntry,e.key=u→e.val=y→eb g nN (l++[e])) ∨
  (∃j v,Instr.findNow d u l i=some (some (i+j,v))∧j<l.length∧(∃e,l[j]?=some e∧∀n,Instr.sameBits n e.key u=true)∧eb g nN (l.modify j λe=>{ e with key:=u,val:=y }))
 |[],nN,l,i,⟨hl,_⟩,h=>by
  have:l=[]:=List.length_eq_zero_iff.1 (by simpa using hl);subst this;simp only[mK] at h; cases h;refine .inl ⟨rfl,λe h1 h2=>⟨rfl,λj k' x' e' q1 q2=>?_⟩⟩;cases j with
  |zero=>simp at q1 q2; obtain⟨rfl,rfl⟩:=q1; subst q2; rw[h1,h2]; exact⟨hu,hy⟩
  |succ j=>simp at q1
 |(q,z)::es,nN,l,i,⟨hl,hd⟩,h=>by
  cases l with
  |nil=>simp at hl
  |cons e l=>
   obtain⟨d1,d2⟩:=hd 0 q z e rfl rfl;have yI:eb g es l:=⟨by simpa using hl,λj k' x' e' q1 q2=>hd (j+1) k' x' e' (by simpa using q1) (by simpa using q2)⟩;simp only[mK] at h;cases hk:gL k q with
   |none=>simp[hk] at h
   |some b=>
    have rj:=Ns hk hu d1 ff;cases b with
    |true=>
     simp only[hk] at h; cases h;refine .inr ⟨0,e.val,by simp[Instr.findNow,rj],by simp,⟨e,rfl,λn=>VT hk hu d1 n⟩,by simpa using hl,λj k' x' e' q1 q2=>?_⟩;cases j with
     |zero=>simp at q1 q2; obtain⟨rfl,rfl⟩:=q1; subst q2; exact⟨hu,hy⟩
     |succ j=>simp at q1 q2; exact yI.2 j k' x' e' q1 q2
    |false=>
     simp only[hk] at h;cases hp:mK k x es with
     |none=>simp[hp] at h
     |some WB=>
      simp only[hp] at h; cases h;rcases Np hu hy ff es WB l (i+1) yI hp with ⟨f1,f2⟩|⟨j,v,f1,f2,f3,f4⟩
      ·refine .inl ⟨by simp[Instr.findNow,rj,f1],λe0 h1 h2=>?_⟩;obtain⟨g1,g2⟩:=f2 e0 h1 h2;refine⟨by simpa using g1,λj k' x' e' q1 q2=>?_⟩;cases j with
       |zero=>simp at q1 q2; obtain⟨rfl,rfl⟩:=q1; subst q2; exact⟨d1,d2⟩
       |succ j=>simp at q1 q2; exact g2 j k' x' e' q1 q2
      ·refine .inr ⟨j+1,v,by simp[Instr.findNow,rj,f1]; omega,by simp; omega,by simpa using f3,?_⟩;obtain⟨g1,g2⟩:=f4;refine⟨by simpa using g1,λj' k' x' e' q1 q2=>?_⟩;cases j' with
       |zero=>simp at q1 q2; obtain⟨rfl,rfl⟩:=q1; subst q2; exact⟨d1,d2⟩
       |succ j'=>simp at q1 q2; exact g2 j' k' x' e' q1 q2
theorem Tu(str:Bool)(b:Nat)(k x:aa)(es nN:List (aa×aa))(h0:Hp)(hb:h0 b=some (.map es))(hk:jQ str k)(hp:mK k x es=some nN):aD P GL (.jG str) [.map b,k,x] h0 .aI [] [(b,.map nN)]:=by
 intro o os hc w0 L g h w a r hx _ dJ;have bq:h b=some (.map es):=by rw[dJ _ (List.mem_singleton.2 rfl)]; exact hb
 have main:∀(t kt e:TypeId) (om ok ox:Operand),P.underlying t=some (.map kt e)→sC P kt str→bZ g [.map b,k,x] (List.map a.eval [om,ok,ox]) →
   ∃w',(Instr.mapUpdate t (a.eval om) (a.eval ok) (a.eval ox)).run P w=.ok () w'∧a_ GL w0 L g (dH h b (.map nN)) w':=by
  intro t kt e om ok ox ht z6 ⟨d1,d2,d3,_⟩;obtain⟨d,hd,ff⟩:=MZ z6 hk;generalize nz:a.eval om=u1 at d1;cases d1 with
  |map _ _ cb ec=>
  cases bc:cb.cS with
  |true=>have:=r.aN b _ cb bq rfl ec bc; cases this
  |false=>
  obtain⟨_,_,o',dV,arr,clock,rfl,hs,bY⟩:=r.own b _ cb bq rfl ec bc;have hg:(getObj cb.blk).run P w=.ok (.map arr clock) w:=by simp[getObj,Sem.run,dV]
  have dM:∀Ax,(setObj cb.blk Ax).run P w=.ok () { w with heap:=w.heap.setIfInBounds cb.blk Ax }:=by intro Ax; simp[setObj,Sem.run,dV]
  have EX:eb g es arr.toList:=⟨by simpa using hs,λi k x e e1 e2=>bY i k x e e1 (by simpa using e2)⟩;have zN:=Mn (P:=P) hd ff d2 false 9999 w;rcases Np d2 d3 ff es nN arr.toList 0 EX hp with ⟨f1,f2⟩|⟨j,v,f1,f2,⟨e0,f3,WD⟩,f4⟩
  ·refine⟨_,by simp only[Instr.mapUpdate,Sem.run_bind,run_underlying ht,Result.andThen_ok,hg,zN,ZM hd f1,dM]; rfl,?_⟩;refine r.write bq rfl ec bc rfl rfl rfl rfl rfl ?_;obtain⟨g1,g2⟩:=f2 { key:=a.eval ok,val:=a.eval ox,born:=clock } rfl rfl;exact⟨_,_,rfl,by simpa using g1,λi k x e e1 e2=>g2 i k x e e1 (by rw[←Array.getElem?_toList,Array.toList_push] at e2; exact e2)⟩
  ·rw[Nat.zero_add] at f1;have FB:(Instr.keyThatStays (((arr[j]?).map (·.key)).getD (a.eval ok)) (a.eval ok)).run P w=.ok (a.eval ok) w:=by
    rw[Array.getElem?_toList] at f3;rw[f3];simp[Instr.keyThatStays,WD 10000]
   refine⟨_,by simp only[Instr.mapUpdate,Sem.run_bind,run_underlying ht,Result.andThen_ok,hg,zN,ZM hd f1,FB,dM]; rfl,?_⟩;refine r.write bq rfl ec bc rfl rfl rfl rfl rfl ?_;obtain⟨g1,g2⟩:=f4;exact⟨_,_,rfl,by simpa using g1,λi k x e e1 e2=>g2 i k x e e1 (by rw[←Array.getElem?_toList] at e2; simpa[Array.toList_modify] using e2)⟩
 generalize ho:o.op=op at hc;cases hc with
 |mapUpdate t kt e om ok ox _ ht z6=>
  obtain⟨w',f1,f2⟩:=main t kt e om ok ox ht z6 hx;simp only[execOp,ho,Sem.run_bind,f1,Result.andThen_ok,Sem.run_pure];exact⟨g,Gm.Le.refl g,f2,rfl⟩
 |mapInsert t kt e om ok ox _ ht z6=>
  obtain⟨w',f1,f2⟩:=main t kt e om ok ox ht z6 hx;simp only[execOp,ho,Sem.run_bind,f1,Result.andThen_ok,Sem.run_pure];exact⟨g,Gm.Le.refl g,f2,rfl⟩
theorem Nj(b:Nat)(s:List UInt8)(pos:Nat)(h0:Hp)(hb:h0 b=some (.dN s pos)) :
  (pos<s.length→aD P GL .next [.iter b] h0 (.aG [.bool true,.int .i64 pos,.int .i32 (Utf8.decode ⟨s.toArray⟩ pos).1]) [] [(b,.dN s (pos+(Utf8.decode ⟨s.toArray⟩ pos).2))]) ∧
  (s.length≤pos→aD P GL .next [.iter b] h0 (.aG [.bool false]) [b] []):=by
 constructor
 ·intro bj o os hc w0 L g h w a r hx _ dJ;have bq:h b=some (.dN s pos):=by rw[dJ _ (List.mem_singleton.2 rfl)]; exact hb
  generalize ho:o.op=op at hc;cases hc with
  |next x=>
   have d:=hx.1;generalize gP:a.eval x=u0 at d;cases d with
   |iter _ _ cb ec=>
   cases bc:cb.cS with
   |true=>have:=r.aN b _ cb bq rfl ec bc; cases this
   |false=>
   obtain⟨_,_,o',dV,de⟩:=r.own b _ cb bq rfl ec bc;have Ad:o'=.stringIter ⟨s.toArray⟩ pos:=de;subst Ad;have hg:(getObj cb.blk).run P w=.ok (.stringIter ⟨s.toArray⟩ pos) w:=by simp[getObj,Sem.run,dV]
   have dM:∀Ax,(setObj cb.blk Ax).run P w=.ok () { w with heap:=w.heap.setIfInBounds cb.blk Ax }:=by intro Ax; simp[setObj,Sem.run,dV]
   have ei:pos<(⟨s.toArray⟩:ByteArray).size:=by show pos<s.toArray.size; simpa using bj
   have bS:(Instr.next (.pointer (some ⟨cb.blk,0,none⟩)) true o.type).run P w=.ok (.tuple #[.bool true,.int .i64 pos,.int .i32 (Utf8.decode ⟨s.toArray⟩ pos).1]) { w with heap:=w.heap.setIfInBounds cb.blk (.stringIter ⟨s.toArray⟩ (pos+(Utf8.decode ⟨s.toArray⟩ pos).2)) }:=by
    simp only[Instr.next,Sem.run_bind,hg,Result.andThen_ok,if_pos ei,dM,Sem.run_pure,goInt]
   simp only[execOp,ho,gP,Sem.run_bind,bS,Result.andThen_ok,Sem.run_pure];refine⟨g,Gm.Le.refl g,r.write bq rfl ec bc rfl rfl rfl rfl rfl rfl,.aG _ _ _ rfl (λi x v e1 e2=>?_)⟩
   match i with
   |0=>simp at e1 e2; subst e1 e2; exact .bool _ _
   |1=>simp at e1 e2; subst e1 e2; exact .int _ _ _
   |2=>simp at e1 e2; subst e1 e2; exact .int _ _ _
   |n+3=>simp at e1
 ·intro zQ o os hc w0 L g h w a r hx cB _;have bq:h b=some (.dN s pos):=by rw[cB b (List.mem_singleton.2 rfl)]; exact hb
  generalize ho:o.op=op at hc;cases hc with
  |next x=>
   have d:=hx.1;generalize gP:a.eval x=u0 at d;cases d with
   |iter _ _ cb ec=>
   cases bc:cb.cS with
   |true=>have:=r.aN b _ cb bq rfl ec bc; cases this
   |false=>
   obtain⟨_,_,o',dV,de⟩:=r.own b _ cb bq rfl ec bc;have Ad:o'=.stringIter ⟨s.toArray⟩ pos:=de;subst Ad;have hg:(getObj cb.blk).run P w=.ok (.stringIter ⟨s.toArray⟩ pos) w:=by simp[getObj,Sem.run,dV]
   have ei:¬pos<(⟨s.toArray⟩:ByteArray).size:=by show ¬pos<s.toArray.size; simpa using zQ
   have bS:(Instr.next (.pointer (some ⟨cb.blk,0,none⟩)) true o.type).run P w=.ok (.tuple #[.bool false]) w:=by
    simp only[Instr.next,Sem.run_bind,hg,Result.andThen_ok,if_neg ei,Sem.run_pure]
   simp only[execOp,ho,gP,Sem.run_bind,bS,Result.andThen_ok,Sem.run_pure];refine Out.here r (.aG _ _ _ rfl (λi x v e1 e2=>?_))
   match i with
   |0=>simp at e1 e2; subst e1 e2; exact .bool _ _
   |n+1=>simp at e1
theorem Zn(k:IntKind)(i:Int)(y:Nat)(code:BoundsCode)(h0:0≤i)(h1:i≤y)(w:World):(Instr.sliceBound (.int k i) y code).run P w=.ok i.toNat w:=by
 simp only[Instr.sliceBound,asIntOf,Sem.run_bind,Sem.run_pure,Result.andThen_ok,if_pos (And.intro h0 h1)]
def cut(l h:Nat)(rows:List (List aa)):List (List aa):=(rows.take h).drop l
theorem GN{l h:Nat}{rows:List (List aa)}{i:Nat}{row:List aa}(e:(cut l h rows)[i]?=some row):rows[l+i]?=some row∧l+i<h:=by
 unfold cut at e;rw[List.getElem?_drop] at e;have bj:l+i<(rows.take h).length:=(cJ e).1;simp at bj;rw[List.getElem?_take_of_lt (by omega)] at e;exact⟨e,by omega⟩
theorem QQ{l h:Nat}{rows:List (List aa)}(hh:h≤rows.length):(cut l h rows).length=h-l:=by
 unfold cut; simp; omega
theorem JV{g:Gm}{ex nn:Bool}{sz:Nat}{rows:List (List aa)}{p:Option Addr}{len cap:Nat}(d:g.den (.ax ex nn sz rows) (.slice p len cap)){l h m:Nat}(hl:l≤h)(hh:h≤rows.length)(hm:h≤m)(hmc:m≤cap)(yr:Bool)(hex:yr=true→m=h) :
  g.den (.ax yr nn sz (cut l h rows)) (.slice (if m=l then p else p.map (·.add (l*sz))) (h-l) (m-l)):=by
 cases d with
 |ax _ _ _ _ _ _ _ blk off f h1 h2 h3 h4 h5 h6 h7 h8=>
  have hlen:=QQ (l:=l) hh;rw[←hlen];refine .ax _ yr nn sz (cut l h rows) _ (m-l) blk (off+l*sz) (λi j=>f (l+i) j) (λe=>by rw[hlen,hex e]) (λe=>?_) (λe=>?_) (λe=>?_) (by rw[hlen]; omega) (λi row e=>h6 _ row (GN e).1) (λi j hi hj=>?_) (λi row j x e1 e2=>h8 _ row j x (GN e1).1 e2)
  ·split
   ·exact h2 e
   ·simp[h2 e]
  ·have dL:h-l≠0:=by rw[←hlen]; intro e0; exact e (List.length_eq_zero_iff.1 e0)
   have hr:rows≠[]:=by intro e0; subst e0; simp at hh; omega
   rw[if_neg (by omega),h3 hr];simp[YO]
  ·split at e
   ·have:=h4 e; omega
   ·simp at e; have:=h4 e; omega
  ·rw[hlen] at hi;have:=h7 (l+i) j (by omega) hj;rw[←this]; congr 1; rw[Nat.add_mul]; omega
theorem XE{o:Oper}{t e:TypeId}{x:Operand}{lo hi mx:Option Operand}(ho:o.op=.slice t x lo hi mx)(hu:P.underlying t=some (.slice e)){n:Nat}(hn:size? P e=some n){a:Act}{p:Option Addr}{len cap:Nat}(hx:a.eval x=.slice p len cap){w:World}{l h m:Nat}
 (hb:(Instr.sliceBounds true len cap (lo.map a.eval) (hi.map a.eval) (mx.map a.eval)).run P w=.ok (l,h,m) w) :
  (execOp a.eval o).run P w=.ok (.value (.slice (if m=l then p else p.map (·.add (l*n))) (h-l) (m-l))) w:=by
 have h1:(Instr.slice t (.slice p len cap) (lo.map a.eval) (hi.map a.eval) (mx.map a.eval)).run P w=.ok (.slice (if m=l then p else p.map (·.add (l*n))) (h-l) (m-l)) w:=by
  simp only[Instr.slice,Sem.run_bind,run_underlying hu,Result.andThen_ok,hb,YA hn,Sem.run_pure]
 have h2:(Instr.sliceAt t (.slice p len cap) (lo.map a.eval) (hi.map a.eval) (mx.map a.eval)).run P w=.ok (.slice (if m=l then p else p.map (·.add (l*n))) (h-l) (m-l)) w:=by
  simp only[Instr.sliceAt,Sem.run_bind,run_underlying hu,Result.andThen_ok,h1]
 simp only[execOp,ho,hx,Sem.run_bind,h2,Result.andThen_ok,Sem.run_pure]
theorem DP{g:Gm}{ex nn:Bool}{sz:Nat}{rows:List (List aa)}{v:Value}(d:g.den (.ax ex nn sz rows) v):∃p cap,v=.slice p rows.length cap∧rows.length≤cap∧(ex=true→cap=rows.length):=by
 cases d with
 |ax _ _ _ _ _ p cap blk off f h1 h2 h3 h4 h5 h6 h7 h8=>exact⟨p,cap,rfl,h5,h1⟩
theorem XB{op:Op}{n:Nat}{bl bh bm:Bool}{os:List Operand}(hc:bH P GL op (.cu n bl bh bm) os) :
  ∃(t:TypeId) (x:Operand) (lo hi mx:Option Operand) (e:TypeId),op=.slice t x lo hi mx∧bl=lo.isSome∧bh=hi.isSome∧bm=mx.isSome∧os=[x]++lo.toList++hi.toList++mx.toList∧P.underlying t=some (.slice e)∧size? P e=some n:=by
 cases hc with
 |cu t x lo hi mx e _ hu hn=>exact⟨t,x,lo,hi,mx,e,rfl,rfl,rfl,rfl,rfl,hu,hn⟩
theorem Z4{op:Op}{bl bh:Bool}{os:List Operand}(hc:bH P GL op (.dg bl bh) os) :
  ∃(t:TypeId) (x:Operand) (lo hi:Option Operand),op=.slice t x lo hi none∧bl=lo.isSome∧bh=hi.isSome∧os=[x]++lo.toList++hi.toList∧P.underlying t=some .string:=by
 cases hc with
 |dg t x lo hi hu=>exact⟨t,x,lo,hi,rfl,rfl,rfl,rfl,hu⟩
theorem VW(ex nn:Bool)(sz:Nat)(rows:List (List aa))(k:IntKind)(i:Int)(h1:0≤i)(h2:i≤rows.length)(h0:Hp) :
  aD P GL (.cu sz true false false) [.ax ex nn sz rows,.int k i] h0 (.ax ex nn sz (cut i.toNat rows.length rows)) [] []:=by
 intro o os hc w0 L g hp w a r hx _ _;obtain⟨t,x,lo,hi,mx,e,ho,ik,eR,nd,rfl,hu,hn⟩:=XB hc;obtain⟨lo,rfl⟩:∃z,lo=some z:=Option.isSome_iff_exists.1 ik.symm;obtain rfl:hi=none:=by cases hi<;>first|rfl|cases eR
 obtain rfl:mx=none:=by cases mx<;>first|rfl|cases nd
 obtain⟨d,d2,_⟩:=hx;obtain⟨p,cap,hv,tk,jy⟩:=DP d;rw[hv] at d;have hb:(Instr.sliceBounds true rows.length cap (some (.int k i)) none none).run P w=.ok (i.toNat,rows.length,cap) w:=by
  simp only[Instr.sliceBounds,Sem.run_bind,Sem.run_pure,Result.andThen_ok,Zn k i rows.length _ h1 h2]
 rw[XE ho hu hn hv (l:=i.toNat) (h:=rows.length) (m:=cap) (by simpa[Zq d2] using hb)];exact Out.here r (JV d (by omega) (Nat.le_refl _) tk (Nat.le_refl _) ex jy)
theorem Sj(ex nn:Bool)(sz:Nat)(rows:List (List aa))(k:IntKind)(i:Int)(h1:0≤i)(h2:i≤rows.length)(h0:Hp) :
  aD P GL (.cu sz false true false) [.ax ex nn sz rows,.int k i] h0 (.ax false nn sz (cut 0 i.toNat rows)) [] []:=by
 intro o os hc w0 L g hp w a r hx _ _;obtain⟨t,x,lo,hi,mx,e,ho,ik,eR,nd,rfl,hu,hn⟩:=XB hc;obtain rfl:lo=none:=by cases lo<;>first|rfl|cases ik
 obtain⟨hi,rfl⟩:∃z,hi=some z:=Option.isSome_iff_exists.1 eR.symm;obtain rfl:mx=none:=by cases mx<;>first|rfl|cases nd
 obtain⟨d,d2,_⟩:=hx;obtain⟨p,cap,hv,tk,jy⟩:=DP d;rw[hv] at d;have hb:(Instr.sliceBounds true rows.length cap none (some (.int k i)) none).run P w=.ok (0,i.toNat,cap) w:=by
  simp only[Instr.sliceBounds,Sem.run_bind,Sem.run_pure,Result.andThen_ok,Zn k i cap _ h1 (by omega)]
 rw[XE ho hu hn hv (l:=0) (h:=i.toNat) (m:=cap) (by simpa[Zq d2] using hb)];exact Out.here r (JV d (by omega) (by omega) (by omega) (Nat.le_refl _) false (by simp))
theorem Uq(ex nn:Bool)(sz:Nat)(rows:List (List aa))(k k':IntKind)(i j:Int)(h1:0≤i)(h2:i≤j)(h3:j≤rows.length)(h0:Hp) :
  aD P GL (.cu sz true true false) [.ax ex nn sz rows,.int k i,.int k' j] h0 (.ax false nn sz (cut i.toNat j.toNat rows)) [] []:=by
 intro o os hc w0 L g hp w a r hx _ _;obtain⟨t,x,lo,hi,mx,e,ho,ik,eR,nd,rfl,hu,hn⟩:=XB hc;obtain⟨lo,rfl⟩:∃z,lo=some z:=Option.isSome_iff_exists.1 ik.symm;obtain⟨hi,rfl⟩:∃z,hi=some z:=Option.isSome_iff_exists.1 eR.symm;obtain rfl:mx=none:=by cases mx<;>first|rfl|cases nd
 obtain⟨d,d2,d3,_⟩:=hx;obtain⟨p,cap,hv,tk,jy⟩:=DP d;rw[hv] at d;have hb:(Instr.sliceBounds true rows.length cap (some (.int k i)) (some (.int k' j)) none).run P w=.ok (i.toNat,j.toNat,cap) w:=by
  simp only[Instr.sliceBounds,Sem.run_bind,Sem.run_pure,Result.andThen_ok,Zn k' j cap _ (by omega) (by omega),Zn k i j.toNat _ h1 (by omega)]
 rw[XE ho hu hn hv (l:=i.toNat) (h:=j.toNat) (m:=cap) (by simpa[Zq d2,Zq d3] using hb)];exact Out.here r (JV d (by omega) (by omega) (by omega) (Nat.le_refl _) false (by simp))
theorem TG(s:List UInt8)(k k':IntKind)(i j:Int)(h1:0≤i)(h2:i≤j)(h3:j≤s.length)(h0:Hp) :
  aD P GL (.dg true true) [.str s,.int k i,.int k' j] h0 (.str ((s.take j.toNat).drop i.toNat)) [] []:=by
 intro o os hc w0 L g hp w a r hx _ _;obtain⟨t,x,lo,hi,ho,ik,eR,rfl,hu⟩:=Z4 hc;obtain⟨lo,rfl⟩:∃z,lo=some z:=Option.isSome_iff_exists.1 ik.symm;obtain⟨hi,rfl⟩:∃z,hi=some z:=Option.isSome_iff_exists.1 eR.symm;obtain⟨d,d2,d3,_⟩:=hx;obtain⟨s',e1,rfl⟩:=Y8 d;have ei:s'.data.toList.length=s'.size:=by simp
 have bS:(execOp a.eval o).run P w=.ok (.value (.string (s'.extract i.toNat j.toNat))) w:=by
  simp only[execOp,ho,e1,Instr.sliceAt,Instr.slice,Sem.run_bind,run_underlying hu,Result.andThen_ok,Option.map_some,Zq d2,Zq d3,Option.map_none,Option.isSome_none,Bool.false_eq_true,if_false,Instr.sliceBounds,Sem.run_pure,Zn k' j s'.size _ (by omega) (by omega),Zn k i j.toNat _ h1 (by omega)]
 rw[bS];have:((s'.data.toList.take j.toNat).drop i.toNat)=(s'.extract i.toNat j.toNat).data.toList:=by
  rw[ByteArray.data_extract,Array.toList_extract]; simp[List.extract,List.drop_take]
 rw[this];exact Out.here r (.str _ _)
end
end Go.Ah
end
section
namespace Go.Ah
section
variable {P:Program} {GL:aA}
theorem S9(sY cap:Nat)(h:cap<sY):Builtin.nextslicecap sY cap≤2*sY+192:=by
 unfold Builtin.nextslicecap;split
 ·omega
 ·split
  ·omega
  ·have key:∀(r c:Nat),c≤2*sY+192→Builtin.growBy sY r c≤2*sY+192:=by
    intro r
    induction r with
    |zero=>intro c hc; simpa[Builtin.growBy] using hc
    |succ r ih=>
     intro c hc;simp only[Builtin.growBy];split
     ·exact hc
     ·exact ih _ (by omega)
   exact key 4 cap (by omega)
theorem XR{t t' e:TypeId}{d:TypeDesc}{n cd:Nat}{z:Value}(ht:P.underlying t=some (.slice e))(hd:P.underlying t'=some d)(qe:∀k,d≠.int k)(hn:size? P e=some n)(sM:P.bytesOf e=cd)(hz:dz P e=some z)(nE:cd≠0)
 {w:World}{base:Option Addr}{len cap m:Nat}{y:Value}{newv:Array Value}(hy:(Builtin.lenOf y).run P w=.ok m w)(ty:TypeId) :
  (len + m≤cap→(Builtin.firstCells n m y).run P w=.ok newv w→(base=none→(Builtin.append_ #[t,t'] ty #[.slice base len cap,y]).run P w=.ok (.slice base (len + m) cap) w) ∧
   (∀ a w',base=some a→(storeCells (a.add (len * n)) newv.toList).run P w=.ok () w'→(Builtin.append_ #[t,t'] ty #[.slice base len cap,y]).run P w=.ok (.slice base (len + m) cap) w')) ∧
  (cap < len + m→(2 * (len + m) + 192) * cd≤2 ^ 48→∀ s5,(Builtin.firstCells n len (.slice base len cap)).run P w.drew=.ok s5 w.drew→(Builtin.firstCells n m y).run P w.drew=.ok newv w.drew →
   ∃ nc,len + m≤nc∧(Builtin.append_ #[t,t'] ty #[.slice base len cap,y]).run P w=.ok (.slice (some ⟨w.heap.size,0,none⟩) (len + m) nc) (w.drew.alloc (.cells (s5 ++ newv ++ Builtin.zeroCells z.cells (nc - (len + m))) e))):=by
 obtain⟨ie,uC,oU⟩:∃ie,P.info? e=some ie∧ie.size=n:=by
  unfold size? at hn; cases hi:P.info? e with
  |none=>simp[hi] at hn
  |some ie=>simp[hi] at hn; exact⟨ie,rfl,hn⟩
 have uy:ie.bytes=cd:=by simpa[Program.bytesOf,uC] using sM
 have P_:ie.zero=some z:=by unfold dz at hz; simpa[uC] using hz
 constructor
 ·intro hle eu;constructor
  ·intro hb;subst hb;simp only[Builtin.append_,List.getElem?_toArray,List.getElem?_cons_zero,List.getElem?_cons_succ,Sem.run_bind,run_underlying ht,Result.andThen_ok,YA hn,run_underlying hd,Sem.run_pure,Bool.false_eq_true,if_false,hy,if_pos hle,Bool.not_false,if_true,eu]
  ·intro a w' hb dM;subst hb;simp only[Builtin.append_,List.getElem?_toArray,List.getElem?_cons_zero,List.getElem?_cons_succ,Sem.run_bind,run_underlying ht,Result.andThen_ok,YA hn,run_underlying hd,Sem.run_pure,Bool.false_eq_true,if_false,hy,if_pos hle,Bool.not_false,if_true,eu,dM]
 ·intro bj cr s5 hold eu;have wZ:=S9 (len+m) cap bj;have h48:¬Builtin.nextslicecap (len+m) cap*ie.bytes>2 ^ 48:=by
   rw[uy];have:=Nat.mul_le_mul_right cd wZ;omega
  have De:¬(((len+m:Nat):Int)>IntKind.i64.max∧(False∨ie.bytes=0)):=by
   rw[uy]; intro h; rcases h.2 with h|h
   ·cases h
   ·exact nE h
  have K5:¬len+m≤cap:=by omega
  refine⟨(Question.appendCap (len+m) cap e).cut (w.tape w.drawn (.appendCap (len+m) cap e)),by simp[Question.cut],?_⟩;simp only[Builtin.append_,List.getElem?_toArray,List.getElem?_cons_zero,List.getElem?_cons_succ,Sem.run_bind,run_underlying ht,Result.andThen_ok,YA hn,run_underlying hd,Sem.run_pure,Bool.false_eq_true,if_false,hy,if_neg K5,Bool.not_false,if_true,typeInfo,run_program,uC,if_neg De];simp only[Sem.run_bind,run_program,Result.andThen_ok,uC,Sem.run_pure,if_neg h48,run_choose,Question.forced,Bool.false_eq_true,if_false,run_askRoom,World.drew_eq,hold,eu,XY hz,newRow,run_newObj,World.alloc_eq];rfl
inductive gC (h0:Hp) (sz:Nat):aa→List (List aa)→List Nat→Prop
 |row (ex nn:Bool) (rows:List (List aa)):gC h0 sz (.ax ex nn sz rows) rows []
 |af:gC h0 sz .af [] []
 |cj:gC h0 sz .cj [] []
 |own (b off len:Nat) (ex:Bool) (rs:List (List aa)):h0 b=some (.rows sz rs)→off+len≤rs.length→gC h0 sz (.sl b off len ex) (cut off (off+len) rs) [b]
def kL(g:Gm)(sz:Nat)(rs:List (List aa))(arr:Array Value):Prop:=
 arr.size=rs.length*sz∧(∀(i:Nat) (row:List aa),rs[i]?=some row→row.length=sz) ∧
 ∀(i:Nat) (row:List aa) (j:Nat) (x:aa) (v:Value),rs[i]?=some row→row[j]?=some x→arr[i*sz+j]?=some v→g.den x v
theorem DI{w0:World}{L:Ln}{g:Gm}{h h0:Hp}{w:World}(r:a_ GL w0 L g h w){sz:Nat}{y:aa}{ys:List (List aa)}{rd:List Nat}(hs:gC h0 sz y ys rd)(cB:∀b∈rd,h b=h0 b){v:Value}(d:g.den y v) :
  ∃(p:Option Addr) (cap:Nat) (newv:Array Value),v=.slice p ys.length cap∧(Builtin.firstCells sz ys.length v).run P w=.ok newv w∧kL g sz ys newv∧(∀z∈newv.toList,ys≠[]→True):=by
 cases hs with
 |af=>
  cases d;exact⟨none,0,#[],rfl,rfl,⟨by simp,by simp,by simp⟩,by simp⟩
 |cj=>
  cases d with
  |cj _ p=>
  refine⟨p,0,#[],rfl,?_,⟨by simp,by simp,by simp⟩,by simp⟩;cases p with
  |none=>rfl
  |some a=>simp[Builtin.firstCells,loadCells,loadCellsFrom]
 |row ex nn rows=>
  cases d with
  |ax _ _ _ _ _ p cap blk off f h1 h2 h3 h4 h5 h6 h7 h8=>
  by_cases dL:ys=[]
  ·subst dL;refine⟨p,cap,#[],rfl,?_,⟨by simp,by simp,by simp⟩,by simp⟩;cases p with
   |none=>rfl
   |some a=>simp[Builtin.firstCells,loadCells,loadCellsFrom]
  ·have hp:=h3 dL;subst hp;have hl:=run_loadCells (P:=P) w ⟨blk,off,none⟩ (ys.length * sz) (λk=>f (k / sz) (k % sz)) (λk hk=>by
    have ei:0 < sz:=Nat.pos_of_ne_zero (λe=>by subst e; simp at hk);rw[YO];have PO:=h7 (k / sz) (k % sz) ((Nat.div_lt_iff_lt_mul ei).2 hk) (Nat.mod_lt _ ei);rw[Nat.mul_comm,Nat.div_add_mod] at PO;exact Jy r PO)
   refine⟨_,cap,_,rfl,by simp only[Builtin.firstCells]; exact hl,⟨by simp,h6,λi row j x u e1 e2 e3=>?_⟩,by simp⟩;have hi:i<ys.length:=(cJ e1).1;have hj:j<sz:=by rw[←h6 i row e1]; exact(cJ e2).1
   have bj:i*sz+j<ys.length*sz:=by
    have:(i+1)*sz≤ys.length*sz:=Nat.mul_le_mul_right sz hi;rw[Nat.succ_mul] at this; omega
   simp[bj] at e3;have hdiv:(i*sz+j)/sz=i:=by rw[Nat.mul_comm,Nat.mul_add_div (by omega),Nat.div_eq_of_lt hj]; rfl
   rw[hdiv,Nat.mod_eq_of_lt hj] at e3;subst e3;exact(h8 i row j x e1 e2).mono (fE.refl _) (eF.aV _)
 |own b off len ex rs hb hle=>
  have bq:h b=some (.rows sz rs):=by rw[cB b (List.mem_singleton.2 rfl)]; exact hb
  have qW:(cut off (off+len) rs).length=len:=by rw[QQ hle]; omega
  cases d with
  |mu _ _ _ cb p ec hv=>
   have:=(r.eX bq ec hv).2;subst this;simp at hle;refine⟨p,0,#[],by simp[cut],?_,⟨by simp[cut],by simp[cut],by simp[cut]⟩,by simp⟩;have:(cut 0 (0+0) ([]:List (List aa))).length=0:=by simp[cut]
   rw[this];cases p with
   |none=>rfl
   |some a=>simp[Builtin.firstCells,loadCells,loadCellsFrom]
  |sl _ _ _ _ _ cb cap ec hv h1 h2 h3=>
   obtain⟨e1,arr,T,dV,hs,kp,cI,bY⟩:=r.dw bq ec hv;rw[e1] at h2 ⊢;have hbound:off*sz+len*sz≤arr.size:=by
    rw[hs]; refine Nat.le_trans ?_ kp;rw[←Nat.add_mul]; exact Nat.mul_le_mul_right sz hle
   have hl:=run_loadCells (P:=P) w ⟨cb.blk,off * sz,none⟩ (len * sz) (λk=>(arr[off * sz + k]?).getD undef) (λk hk=>by
    rw[YO];have:off*sz+k<arr.size:=by omega
    refine XS dV _ _ ?_;simp[this])
   refine⟨_,cap,_,by rw[qW],by rw[qW]; simp only[Builtin.firstCells]; exact hl,⟨by rw[qW]; simp,λi row e=>cI _ row (GN e).1,λi row j x u q1 q2 q3=>?_⟩,by simp⟩;obtain⟨c1,c2⟩:=GN q1;have hj:j<sz:=by rw[←cI _ row c1]; exact(cJ q2).1
   have hi:i<len:=by omega
   have bj:i*sz+j<len*sz:=by
    have:(i+1)*sz≤len*sz:=Nat.mul_le_mul_right sz hi;rw[Nat.succ_mul] at this; omega
   have Fg:off*sz+(i*sz+j)<arr.size:=by omega
   simp[bj,Fg] at q3;refine bY _ row j x u c1 q2 ?_;rw[Nat.add_mul,Nat.add_assoc];simp[Fg,q3]
theorem YR{o:Oper}{t t':TypeId}{x y:Operand}(ho:o.op=.call ⟨.builtin .append,#[x,y],#[t,t']⟩){a:Act}{u v z:Value}(hu:a.eval x=u)(hv:a.eval y=v){w w':World}
 (hr:(Builtin.append_ #[t,t'] o.type #[u,v]).run P w=.ok z w'):(execOp a.eval o).run P w=.ok (.value z) w':=by
 simp only[execOp,ho,resolve,Sem.run_bind,Sem.run_pure,Result.andThen_ok,invoke,builtin];simp[hu,hv,hr]
theorem a_.move{w0:World}{L:Ln}{g:Gm}{h:Hp}{w:World}(r:a_ GL w0 L g h w){b nb:Nat}{blk blk':ab}{cb:CB}(e:h b=some blk)(hl:blk.live=true)(ec:g.c b=some cb)(hv:cb.cS=false)(kP:blk'.live=true)(hn:h nb=none)
 {o':Obj}{w':World}(uK:w'.os=w.os)(uP:w'.tape=w.tape)(qf:w'.output=w.output)(pU:w'.heap=w.heap.setIfInBounds cb.blk o')
 (ok:iD g.M g.c cb o' blk'):g.Le ⟨g.M,gq g.c nb cb⟩∧a_ GL w0 L ⟨g.M,gq g.c nb cb⟩ (dH (dH h b .dead) nb blk') w':=by
 have r1:=r.write e hl ec hv kP uK uP qf pU ok;have H4:=r.dc nb hn;have Er:eF g.c (gq g.c nb cb):=eF.gq H4;have Fl:nb≠b:=by rintro rfl; rw[e] at hn; cases hn
 have ah:∀n x,dH (dH h b .dead) nb blk' n=some x→x.live=true→(n=nb∧x=blk')∨(n≠nb∧n≠b∧h n=some x):=by
  intro n x en eJ;by_cases h1:n=nb
  ·subst h1; rw[Xs] at en; cases en; exact .inl ⟨rfl,rfl⟩
  ·rw[Xq _ _ h1] at en;by_cases h2:n=b
   ·subst h2; rw[Xs] at en; cases en; simp[ab.live] at eJ
   ·rw[Xq _ _ h2] at en; exact .inr ⟨h1,h2,en⟩
 have uz:∀n cV,n≠nb→gq g.c nb cb n=some cV→g.c n=some cV:=by intro n cV h1 h2; rwa [YT _ _ h1] at h2
 refine⟨⟨fE.refl _,Er⟩,?_⟩;exact {
  keeps:=r1.keeps
  aJ:=r1.aJ
  bz:=r1.bz
  src:=r1.src
  dc:=λn en=>by
   by_cases h1:n=nb
   ·subst h1; rw[Xs] at en; cases en
   ·rw[Xq _ _ h1] at en;show gq g.c nb cb n=none;rw[YT _ _ h1];by_cases h2:n=b
    ·subst h2; rw[Xs] at en; cases en
    ·rw[Xq _ _ h2] at en; exact r.dc n en
  ig:=λn x en=>by
   by_cases h1:n=nb
   ·subst h1; exact⟨cb,Xv _ _ _⟩
   ·rw[Xq _ _ h1] at en;have:∃q,g.c n=some q:=by
     by_cases h2:n=b
     ·subst h2; exact⟨cb,ec⟩
     ·rw[Xq _ _ h2] at en; exact r.ig n x en
    obtain⟨q,hq⟩:=this;exact⟨q,by show gq g.c nb cb n=_; rw[YT _ _ h1]; exact hq⟩
  own:=λn x cV en eJ kZ nP=>by
   rcases ah n x en eJ with ⟨rfl,rfl⟩|⟨h1,h2,h3⟩
   ·have:gq g.c n cb n=some cV:=kZ;rw[Xv] at this; cases this;obtain⟨q1,q2,o2,q3,q4⟩:=r1.own b x cb (Xs _ _ _) kP ec hv;exact⟨q1,q2,o2,q3,q4.mono (fE.refl _) Er⟩
   ·obtain⟨q1,q2,o2,q3,q4⟩:=r1.own n x cV (by rw[Xq _ _ h2]; exact h3) eJ (uz n cV h1 kZ) nP;exact⟨q1,q2,o2,q3,q4.mono (fE.refl _) Er⟩
  aN:=λn x cV en eJ kZ nP=>by
   rcases ah n x en eJ with ⟨rfl,rfl⟩|⟨h1,h2,h3⟩
   ·have:gq g.c n cb n=some cV:=kZ;rw[Xv] at this; cases this; rw[hv] at nP; cases nP
   ·exact r.aN n x cV h3 eJ (uz n cV h1 kZ) nP
  inj:=λn n' x x' nK nw e1 e2 l1 l2 c1 c2 v1 v2 gu=>by
   have tr:∀n x cV,dH (dH h b .dead) nb blk' n=some x→x.live=true→gq g.c nb cb n=some cV→∃m y,h m=some y∧y.live=true∧g.c m=some cV∧((n=nb∧m=b)∨(n≠nb∧m=n∧n≠b)):=by
    intro n x cV en eJ kZ;rcases ah n x en eJ with ⟨rfl,rfl⟩|⟨h1,h2,h3⟩
    ·rw[Xv] at kZ; cases kZ; exact⟨b,blk,e,hl,ec,.inl ⟨rfl,rfl⟩⟩
    ·exact⟨n,x,h3,eJ,uz n cV h1 kZ,.inr ⟨h1,rfl,h2⟩⟩
   obtain⟨m1,y1,f1,f2,f3,f4⟩:=tr n x nK e1 l1 c1;obtain⟨m2,y2,g1,g2,g3,g4⟩:=tr n' x' nw e2 l2 c2;have:=r.inj m1 m2 y1 y2 nK nw f1 g1 f2 g2 f3 g3 v1 v2 gu;rcases f4 with ⟨a1,a2⟩|⟨a1,a2,a3⟩<;>rcases g4 with ⟨b1,b2⟩|⟨b1,b2,b3⟩
   ·rw[a1,b1]
   ·exact(b3 (by rw[←b2,←this,a2])).elim
   ·exact(a3 (by rw[←a2,this,b2])).elim
   ·rw[← a2,← b2,this] }
theorem S7{g:Gm}{sz:Nat}{rs ys:List (List aa)}{a b c:Array Value}(h1:kL g sz rs a)(h2:kL g sz ys b) :
  (∀(i:Nat) (row:List aa),(rs++ys)[i]?=some row→row.length=sz) ∧
  ∀(i:Nat) (row:List aa) (j:Nat) (x:aa) (v:Value),(rs++ys)[i]?=some row→row[j]?=some x→(a++b++c)[i*sz+j]?=some v→g.den x v:=by
 obtain⟨s1,l1,d1⟩:=h1;obtain⟨s2,l2,d2⟩:=h2;constructor
 ·intro i row e;by_cases hi:i<rs.length
  ·rw[List.getElem?_append_left hi] at e; exact l1 i row e
  ·rw[List.getElem?_append_right (by omega)] at e; exact l2 _ row e
 ·intro i row j x v e1 e2 e3;by_cases hi:i<rs.length
  ·rw[List.getElem?_append_left hi] at e1;have hj:j<sz:=by rw[←l1 i row e1]; exact(cJ e2).1
   have bj:i*sz+j<a.size:=by
    rw[s1];have:(i+1)*sz≤rs.length*sz:=Nat.mul_le_mul_right sz hi;rw[Nat.succ_mul] at this; omega
   rw[Array.append_assoc,Array.getElem?_append_left bj] at e3;exact d1 i row j x v e1 e2 e3
  ·rw[List.getElem?_append_right (by omega)] at e1;have tm:i-rs.length<ys.length:=(cJ e1).1;have hj:j<sz:=by rw[←l2 _ row e1]; exact(cJ e2).1
   have zQ:a.size≤i*sz+j:=by
    rw[s1];have:rs.length*sz≤i*sz:=Nat.mul_le_mul_right sz (by omega);omega
   have Am:i*sz+j-a.size=(i-rs.length)*sz+j:=by
    rw[s1,Nat.sub_mul];have:rs.length*sz≤i*sz:=Nat.mul_le_mul_right sz (by omega);omega
   have bj:(i-rs.length)*sz+j<b.size:=by
    rw[s2];have:(i-rs.length+1)*sz≤ys.length*sz:=Nat.mul_le_mul_right sz tm;rw[Nat.succ_mul] at this; omega
   rw[Array.append_assoc,Array.getElem?_append_right zQ,Am,Array.getElem?_append_left bj] at e3;exact d2 _ row j x v e1 e2 e3
theorem OT(z:Array Value)(n:Nat):(Builtin.zeroCells z n).size=n*z.size:=by simp[Builtin.zeroCells]
inductive mF (h0:Hp) (sz:Nat):aa→List (List aa)→List (Nat×ab)→Prop
 |af:mF h0 sz .af [] []
 |cj:mF h0 sz .cj [] []
 |own (b len:Nat) (ex:Bool) (rs:List (List aa)):h0 b=some (.rows sz rs)→rs.length=len→mF h0 sz (.sl b 0 len ex) rs [(b,.dead)]
theorem V9(rs:List (List aa))(n:Nat)(h:rs.length=n):cut 0 (0+n) rs=rs:=by unfold cut; simp[←h]
theorem mF.src{h0:Hp}{sz:Nat}{x:aa}{rs:List (List aa)}{kill:List (Nat×ab)}(hv:mF h0 sz x rs kill):gC h0 sz x rs (kill.map (·.1)):=by
 cases hv with
 |af=>exact .af
 |cj=>exact .cj
 |own b len ex _ hb hl=>have:=gC.own (h0:=h0) (sz:=sz) b 0 len ex rs hb (by omega); rwa [V9 rs len hl] at this
theorem Mh(n cd:Nat)(z:List aa)(x y:aa)(rs ys:List (List aa))(rd:List Nat)(kill:List (Nat×ab))(h0:Hp)(nb:Nat)(hn:h0 nb=none)(qz:mF h0 n x rs kill)(yM:gC h0 n y ys rd)
 (qW:∀row∈ys,∀x∈row,aa.cell x=true)(cr:(2*(rs.length+ys.length)+192)*cd≤2 ^ 48) :
  aD P GL (.append n cd z) [x,y] h0 (.sl nb 0 (rs.length+ys.length) false) rd (kill++[(nb,.rows n (rs++ys))]):=by
 intro o os hc w0 L g h w a r hx cB dJ;have iB:h nb=none:=by rw[dJ (nb,.rows n (rs++ys)) (by simp)]; exact hn
 have uF:∀p∈kill,h p.1=h0 p.1:=λp hp=>dJ p (by simp[hp]);generalize ho:o.op=op at hc;cases hc with
 |append t t' e ox oy _ _ v _ ht FD ei sM hz pc dd nE kI=>
  obtain⟨d,hd,qe⟩:=FD;obtain⟨d1,d2,_⟩:=hx;generalize nz:a.eval ox=u1 at d1;generalize sS:a.eval oy=u2 at d2;obtain⟨p1,sI,s5,e1,f1,RH,_⟩:=DI (P:=P) r.drew qz.src (λb hb=>by
   obtain⟨q,hq,rfl⟩:=List.mem_map.1 hb; exact uF q hq) d1
  obtain⟨p2,Eo,newv,e2,f2,ru,_⟩:=DI (P:=P) r yM cB d2;obtain⟨p2',PE,yQ,e2',WC,FX,_⟩:=DI (P:=P) r.drew yM cB d2;have iG:(Builtin.lenOf u2).run P w=.ok ys.length w:=by rw[e2]; rfl
  have si:sI<rs.length+ys.length→Out P GL w0 L g (ca h (kill++[(nb,.rows n (rs++ys))])) (.sl nb 0 (rs.length+ys.length) false) ((execOp a.eval o).run P w):=by
   intro bj;obtain⟨nc,Dk,bS⟩:=(XR ht hd qe ei sM hz nE (base:=p1) (len:=rs.length) (cap:=sI) (newv:=yQ) iG o.type).2 bj cr s5 (by rw[←e1]; exact f1) WC;rw[YR ho (by rw[nz]; exact e1) sS bS];obtain⟨q1,q2⟩:=S7 (c:=Builtin.zeroCells v.cells (nc-(rs.length+ys.length))) RH FX;have hkr:∃h1,h1=ca h kill∧a_ GL w0 L g h1 w.drew∧h1 nb=none:=by
    cases qz with
    |af=>exact⟨h,rfl,r.drew,iB⟩
    |cj=>exact⟨h,rfl,r.drew,iB⟩
    |own b len ex _ hb hl=>
     have bq:h b=some (.rows n rs):=by rw[uF (b,.dead) (by simp)]; exact hb
     refine⟨_,rfl,r.drew.kill bq,?_⟩;show dH h b .dead nb=none;rw[Xq _ _ (by rintro rfl; rw[bq] at iB; cases iB)]; exact iB
   obtain⟨h1,Z_,rk,xf⟩:=hkr;obtain⟨g',X',Y_,E2⟩:=a_.ph rk xf n (rs++ys) (s5++yQ++Builtin.zeroCells v.cells (nc-(rs.length+ys.length))) e (rs.length+ys.length) nc false
    (by
      simp only[Array.size_append,RH.1,FX.1,OT,pc,Nat.sub_mul,Nat.add_mul];have:(rs.length + ys.length) * n≤nc * n:=Nat.mul_le_mul_right n Dk;rw[Nat.add_mul] at this; omega) Dk (by simp) (by simp; exact Dk) q1 q2
   refine⟨g',X',?_,E2⟩;have:ca h (kill++[(nb,.rows n (rs++ys))])=dH h1 nb (.rows n (rs++ys)):=by
    rw[Z_];cases qz<;>rfl
   rw[this]; exact Y_
  have kq:rs=[]→ys=[]→u1=.slice p1 0 0→a_ GL w0 L g (ca h kill) w→ca h kill nb=none→Out P GL w0 L g (ca h (kill++[(nb,.rows n (rs++ys))])) (.sl nb 0 (rs.length+ys.length) false) ((execOp a.eval o).run P w):=by
   rintro rfl rfl gP rk xf;have Fq:newv.toList=[]:=by have:=ru.1; simp at this; simp[this]
   have bS:(Builtin.append_ #[t,t'] o.type #[.slice p1 0 0,u2]).run P w=.ok (.slice p1 0 0) w:=by
    obtain⟨k1,k2⟩:=(XR ht hd qe ei sM hz nE (base:=p1) (len:=0) (cap:=0) (newv:=newv) iG o.type).1 (by simp) f2;cases p1 with
    |none=>exact k1 rfl
    |some ad=>exact k2 ad w rfl (by rw[Fq]; rfl)
   rw[YR ho (by rw[nz]; exact gP) sS bS];have hg:=rk.ghost xf n;refine⟨⟨g.M,gq g.c nb ⟨0,n,0,true⟩⟩,⟨fE.refl _,eF.gq (rk.dc nb xf)⟩,?_,.mu _ _ _ _ _ (Xv _ _ _) rfl⟩;have:ca h (kill++[(nb,.rows n ([]++[]))])=dH (ca h kill) nb (.rows n []):=by cases qz<;>rfl
   rw[this]; exact hg
  have aac:=qz;cases qz with
  |af=>
   cases d1;injection e1 with Dc Kb HM
   by_cases sU:ys=[]
   ·exact kq rfl sU (by rw[←Dc]) r iB
   ·refine si ?_;have:0<ys.length:=List.length_pos_iff.2 sU;simp; omega
  |cj=>
   cases d1;injection e1 with Dc Kb HM
   by_cases sU:ys=[]
   ·exact kq rfl sU (by rw[←Dc]) r iB
   ·refine si ?_;have:0<ys.length:=List.length_pos_iff.2 sU;simp; omega
  |own b len ex _ hb hl=>
   have bq:h b=some (.rows n rs):=by rw[uF (b,.dead) (by simp)]; exact hb
   have Fl:nb≠b:=by rintro rfl; rw[bq] at iB; cases iB
   cases d1 with
   |mu _ _ _ cb p ec hv=>
    injection e1 with Dc Kb HM
    have Al:=(r.eX bq ec hv).2;subst Al;by_cases sU:ys=[]
    ·exact kq rfl sU (by rw[←Dc]) (r.kill bq) (by show dH h b .dead nb=none; rw[Xq _ _ Fl]; exact iB)
    ·refine si ?_;have:0<ys.length:=List.length_pos_iff.2 sU;simp; omega
   |sl _ _ _ _ _ cb cap ec hv h1 h2 h3=>
    injection e1 with Dc Kb HM
    subst HM;by_cases hle:rs.length+ys.length≤cap
    ·obtain⟨z1,arr,T,dV,hs,kp,cI,bY⟩:=r.dw bq ec hv;rw[z1] at h2;simp only[Nat.zero_add] at h2;have jA:cap*n≤arr.size:=by rw[hs]; exact Nat.le_of_eq h2
     have oX:∀u∈newv.toList,u.oneCell'=true:=by
      intro u hu;obtain⟨q,hq⟩:=List.mem_iff_getElem?.1 hu;rw[Array.getElem?_toList] at hq;have Lc:q<ys.length*n:=by rw[←ru.1]; exact(Array.getElem?_eq_some_iff.1 hq).1
      have tp:0<n:=Nat.pos_of_ne_zero kI;have hi:q/n<ys.length:=(Nat.div_lt_iff_lt_mul tp).2 Lc;have qg:ys[q/n]?=some ys[q/n]:=by simp[hi]
      have Ff:=ru.2.1 _ _ qg;have hj:q%n<ys[q/n].length:=by rw[Ff]; exact Nat.mod_lt _ tp
      refine G7 (qW _ (List.getElem_mem hi) _ (List.getElem_mem hj)) (ru.2.2 (q/n) _ (q%n) _ u qg (by simp[hj]) ?_);rw[Nat.mul_comm,Nat.div_add_mod]; exact hq
     obtain⟨e_,s1,s2,s3⟩:=Z0 (P:=P) dV newv.toList oX (j:=rs.length * n) (by
      intro _;rw[Array.length_toList (xs:=newv),ru.1,← Nat.add_mul];exact Nat.le_trans (Nat.mul_le_mul_right n hle) jA)
     have bS:=((XR ht hd qe ei sM hz nE (base:=some ⟨cb.blk,0 * cb.sz,none⟩) (len:=rs.length) (cap:=cap) (newv:=newv) iG o.type).1 hle f2).2 ⟨cb.blk,0 * cb.sz,none⟩ (w.setRow cb.blk e_) rfl (by
      rw[YO,Nat.zero_mul,Nat.zero_add]; exact s1)
     rw[YR ho (by rw[nz,←hl]) sS bS];have de:iD g.M g.c cb (.cells e_ T (0,0)) (.rows n (rs++ys)):=by
      refine⟨z1,e_,T,rfl,by rw[s2,hs],?_,?_,?_⟩
      ·rw[List.length_append]; exact Nat.le_trans (Nat.mul_le_mul_right n hle) (Nat.le_of_eq h2)
      ·intro i row q;by_cases hi:i<rs.length
       ·rw[List.getElem?_append_left hi] at q; exact cI i row q
       ·rw[List.getElem?_append_right (by omega)] at q; exact ru.2.1 _ row q
      ·intro i row j x0 u q1 q2 q3;rw[s3,Array.length_toList (xs:=newv),ru.1] at q3;by_cases hi:i<rs.length
       ·rw[List.getElem?_append_left hi] at q1;have hj:j<n:=by rw[←cI i row q1]; exact(cJ q2).1
        have bj:i*n+j<rs.length*n:=by
         have:(i+1)*n≤rs.length*n:=Nat.mul_le_mul_right n hi;rw[Nat.succ_mul] at this; omega
        rw[if_neg (by omega)] at q3;exact bY i row j x0 u q1 q2 q3
       ·rw[List.getElem?_append_right (by omega)] at q1;have tm:i-rs.length<ys.length:=(cJ q1).1;have hj:j<n:=by rw[←ru.2.1 _ row q1]; exact(cJ q2).1
        have h5:rs.length*n≤i*n:=Nat.mul_le_mul_right n (by omega);have h6:(i-rs.length+1)*n≤ys.length*n:=Nat.mul_le_mul_right n tm;rw[Nat.succ_mul,Nat.sub_mul] at h6;rw[if_pos (by omega)] at q3;refine ru.2.2 _ row j x0 u q1 q2 ?_;rw[Array.getElem?_toList] at q3;rw[←q3,Nat.sub_mul]; congr 1; omega
     obtain⟨k1,k2⟩:=r.move bq rfl ec hv (blk':=.rows n (rs++ys)) rfl iB (w':=w.setRow cb.blk e_) rfl rfl rfl (Hb w _ arr e_ T (0,0) dV) de;refine⟨_,k1,k2,?_⟩;have pB:Den g.M (gq g.c nb cb) (.sl nb 0 (rs.length+ys.length) false) (.slice (some ⟨cb.blk,0*cb.sz,none⟩) (rs.length+ys.length) cap):=
      .sl _ _ _ _ _ cb cap (Xv _ _ _) hv hle (by rw[z1]; simpa using h2) (by simp)
     exact pB
    ·exact si (by omega)
end
end Go.Ah
end
section
namespace Go.Ah
mutual
def aa.ro:aa→Bool
 |.bool _=>true
 |.int _ _=>true
 |.str _=>true
 |.bQ=>true
 |.ay _ _=>true
 |.af=>true
 |.cj=>true
 |.ax _ _ _ _=>true
 |.dZ _=>true
 |.bD=>true
 |.func _ xs ys=>el xs&&el ys
 |.ct=>true
 |.iface _ v=>v.ro
 |.dX=>true
 |.agg cs=>el cs
 |.aG cs=>el cs
 |.when _ x=>x.ro
 |.aI=>true
 |_=>false
def el:List aa→Bool
 |[]=>true
 |x::xs=>x.ro&&el xs
end
theorem Dx:∀ {xs:List aa} {i:Nat} {x:aa},el xs=true→xs[i]?=some x→x.ro=true
 |[],i,x,_,e=>by simp at e
 |y::xs,0,x,h,e=>by simp[el] at h; simp at e; subst e; exact h.1
 |y::xs,i+1,x,h,e=>by simp[el] at h; simp at e; exact Dx h.2 e
theorem Den.ro{M:Nat→Option Obj}{c:Own}{x:aa}{v:Value}(h:Den M c x v):x.ro=true→∀c',Den M c' x v:=by
 induction h with
 |aI=>intro _ c'; exact .aI _ _
 |bool=>intro _ c'; exact .bool _ _
 |int=>intro _ c'; exact .int _ _ _
 |str=>intro _ c'; exact .str _ _
 |bQ=>intro _ c'; exact .bQ _
 |an=>intro h; simp[aa.ro] at h
 |ptr=>intro h; simp[aa.ro] at h
 |ay c row j blk off f h1 h2 ih=>intro _ c'; exact .ay _ _ _ _ _ f h1 h2
 |af=>intro _ c'; exact .af _
 |cj=>intro _ c'; exact .cj _ _
 |sl=>intro h; simp[aa.ro] at h
 |mu=>intro h; simp[aa.ro] at h
 |ax c ex nn sz rows a cap blk off f h1 h2 h3 zH h4 h5 h6 h7 ih=>intro _ c'; exact .ax _ _ _ _ _ _ _ blk off f h1 h2 h3 zH h4 h5 h6 h7
 |map=>intro h; simp[aa.ro] at h
 |dZ c es blk arr clock e h1 h2 h3 sV sW=>intro _ c'; exact .dZ _ _ _ _ _ e h1 h2 h3
 |bD=>intro _ c'; exact .bD _
 |func c fn first captured vs ws h1 h2 h3 h4 sV sW=>
  intro h c';simp[aa.ro] at h;exact .func _ _ _ _ _ _ h1 h2 (λi x v e1 e2=>sV i x v e1 e2 (Dx h.1 e1) c') (λi x v e1 e2=>sW i x v e1 e2 (Dx h.2 e1) c')
 |ct=>intro _ c'; exact .ct _
 |iface c t x v h ih=>intro hr c'; exact .iface _ _ _ _ (ih (by simpa[aa.ro] using hr) c')
 |dX=>intro _ c'; exact .dX _
 |agg c cs vs h1 h2 ih=>intro h c'; exact .agg _ _ _ h1 (λi x v e1 e2=>ih i x v e1 e2 (Dx (by simpa[aa.ro] using h) e1) c')
 |aG c cs vs h1 h2 ih=>intro h c'; exact .aG _ _ _ h1 (λi x v e1 e2=>ih i x v e1 e2 (Dx (by simpa[aa.ro] using h) e1) c')
 |when c cs x v h h2 ih=>intro hr c'; exact .when _ _ _ _ (λhp=>ih hp (by simpa[aa.ro] using hr) c') h2
 |iter=>intro h; simp[aa.ro] at h
section
variable {P:Program} {GL:aA}
theorem Su{M:Nat→Option Obj}{b:Nat}{o:Obj}(h:M b=none):fE M (lk M b o):=by
 intro n x en;by_cases hn:n=b
 ·subst hn; rw[h] at en; cases en
 ·simp[lk,hn,en]
theorem a_.zk{w0:World}{L:Ln}{g:Gm}{h:Hp}{w:World}(r:a_ GL w0 L g h w)(o:Obj):g.Le ⟨lk g.M w.heap.size o,g.c⟩∧a_ GL w0 L ⟨lk g.M w.heap.size o,g.c⟩ h (w.alloc o):=by
 have hM:g.M w.heap.size=none:=by
  cases hm:g.M w.heap.size with
  |none=>rfl
  |some x=>have:=r.eg hm; omega
 have Au:=Su (o:=o) hM;have uM:∀k,k<w.heap.size→(w.alloc o).heap[k]?=w.heap[k]?:=by
  intro k hk; show (w.heap.push o)[k]?=_; rw[Array.getElem?_push,if_neg (by omega)]
 refine⟨⟨Au,eF.refl _⟩,?_⟩;exact {
  keeps:=r.keeps.trans' rfl rfl rfl (by simp) (λk hk _=>uM k (by have:=r.keeps.size; omega))
  aJ:=λb x e=>by
   by_cases hb:b=w.heap.size
   ·subst hb;have:lk g.M w.heap.size o w.heap.size=some x:=e;simp[lk] at this; subst this;show (w.heap.push o)[w.heap.size]?=_; simp
   ·have e':lk g.M w.heap.size o b=some x:=e;simp[lk,hb] at e';rw[uM b (r.eg e')]; exact r.aJ b x e'
  bz:=λp hp=>(r.bz p hp).mono Au (eF.refl _)
  src:=λb x e=>by
   by_cases hb:b=w.heap.size
   ·subst hb; exact .inr (.inl r.keeps.size)
   ·have e':lk g.M w.heap.size o b=some x:=e;simp[lk,hb] at e'; exact r.src b x e'
  dc:=r.dc
  ig:=r.ig
  own:=λb blk cb e hl ec hv=>by
   obtain⟨h1,h2,o',dV,de⟩:=r.own b blk cb e hl ec hv;have bj:=r.dh e hl ec hv;refine⟨?_,h2,o',by rw[uM _ bj]; exact dV,de.mono Au (eF.refl _)⟩;show lk g.M w.heap.size o cb.blk=none;simp[lk,h1]; omega
  aN:=r.aN
  inj:=r.inj }
theorem TJ(sz:Nat)(h0:Hp):aD P GL (.jS sz) [] h0 (.ax true true sz []) [] []:=by
 intro o os hc w0 L g h w a r hx _ _;generalize ho:o.op=op at hc;cases hc with
 |kY t e _ parts he hs hp=>
  have hpe:parts = #[]:=by cases parts; simpa using hp
  subst hpe;have pD:P.underlying t=some (.slice e):=by
   unfold dG at he;split at he
   ·rename_i e' h'; cases he; exact h'
   ·cases he
  obtain⟨q1,q2⟩:=r.zk (.cells #[] e);have bS:(execOp a.eval o).run P w=.ok (.value (.slice (some ⟨w.heap.size,0,none⟩) 0 0)) (w.alloc (.cells #[] e)):=by
   have h1:(Instr.buildSlice t 0 #[]).run P w=.ok (.slice (some ⟨w.heap.size,0,none⟩) 0 0) (w.alloc (.cells #[] e)):=by
    simp only[Instr.buildSlice,Sem.run_bind,run_underlying pD,Result.andThen_ok,YA hs,Nat.zero_mul];simp[Instr.fill,newRow];have:Array.map (λ_:Nat=>(default:Value)) (Array.range 0) = #[]:=by simp[Array.range]
    rw[this]
   simp only[execOp,ho,Sem.run_bind];simp[h1]
  rw[bS];exact⟨_,q1,q2,.ax _ _ _ _ [] _ _ w.heap.size 0 (λ_ _=>undef) (by simp) (by simp) (by simp) (by simp) (by simp) (by simp) (by simp) (by simp)⟩
theorem T9{k:IntKind}{n:Int}(w:World):(asInt (.int k n)).run P w=.ok n w:=rfl
theorem T'(n cd len:Nat)(z:List aa)(k:IntKind)(cr:cd*len≤2 ^ 48)(hlen:len<2 ^ 62)(h0:Hp)(nb:Nat)(hn:h0 nb=none) :
  aD P GL (.qm n cd z) [.int k len] h0 (.sl nb 0 len true) [] [(nb,.rows n (List.replicate len z))]:=by
 intro o os hc w0 L g h w a r hx _ dJ;have iB:h nb=none:=by rw[dJ _ (List.mem_singleton.2 rfl)]; exact hn
 generalize ho:o.op=op at hc;cases hc with
 |makeSlice t l e v _ _ _ he hs hb kI hz pc dd=>
  obtain⟨ie,uC,oU⟩:∃ie,P.info? e=some ie∧ie.bytes=cd:=by
   cases hi:P.info? e with
   |none=>simp[hi] at hb
   |some ie=>simp[hi] at hb; exact⟨ie,rfl,hb⟩
  have pD:P.underlying t=some (.slice e):=by
   unfold dG at he;split at he
   ·rename_i e' h'; cases he; exact h'
   ·cases he
  have hl:=Zq hx.1;have hw:IntKind.i64.wrap (len:Int)=len:=IntWalk.i64_in _ ⟨by omega,by omega⟩;obtain⟨c1,c2⟩:=YK (M:=g.M) (c:=g.c) dd;have yN:z.length=n:=by rw[←c1,Array.length_toList,pc]
  let cells:Array Value:=if len*n=0 then #[] else (Array.range (len*n)).map (v.cells[· % v.cells.size]!)
  have jA:cells.size=len*n:=by
   simp only[cells]; split
   ·simp_all
   ·simp
  have bS:(execOp a.eval o).run P w=.ok (.value (.slice (some ⟨w.heap.size,0,none⟩) len len)) (w.alloc (.cells cells e)):=by
   have h1:(Instr.makeSlice t (.int k len) (.int k len)).run P w=.ok (.slice (some ⟨w.heap.size,0,none⟩) len len) (w.alloc (.cells cells e)):=by
    have g1:¬((len:Int)<0∨(ie.bytes:Int)*len>2 ^ 48):=by
     rw[oU];intro hh;rcases hh with hh|hh
     ·omega
     ·have hr:cd*len≤281474976710656:=cr;have h2:=Int.ofNat_le.2 hr;rw[Int.natCast_mul] at h2;have e:(2:Int) ^ 48=281474976710656:=by rfl
      rw[e] at hh;exact absurd h2 (by omega)
    have g2:¬((len:Int)<0∨(len:Int)>len):=by omega
    simp only[Instr.makeSlice,Sem.run_bind,run_underlying pD,Result.andThen_ok,T9,typeInfo,run_program,uC,Sem.run_pure,hw];simp[g1,g2,run_askRoom,YA hs,XY hz];have g3:¬(((len:Int)<0∨281474976710656<(ie.bytes:Int)*len)∨(len:Int)<0):=by
     rintro (q|q)
     ·exact g1 q
     ·exact g1 (.inl q)
    rw[if_neg g3];by_cases FH:len*n=0
    ·have hc:cells = #[]:=by simp only[cells]; rw[if_pos FH]
     have hm:Array.map (λ_:Nat=>(default:Value)) (Array.range 0) = #[]:=by simp[Array.range]
     rw[if_pos FH,hc,FH,hm];rfl
    ·have hc:cells=(Array.range (len*n)).map (v.cells[· % v.cells.size]!):=by simp only[cells]; rw[if_neg FH]
     rw[if_neg FH,hc];rfl
   simp only[execOp,ho,hl,Sem.run_bind,h1,Result.andThen_ok,Sem.run_pure]
  rw[bS];refine a_.ph r iB n (List.replicate len z) cells e len len true (by rw[jA]) (Nat.le_refl _) (λ_=>rfl) (by simp) (λi row e=>?_) (λi row j x v' e1 e2 e3=>?_)
  ·rw[List.getElem?_replicate] at e;split at e
   ·cases e; exact yN
   ·cases e
  ·rw[List.getElem?_replicate] at e1;split at e1
   ·rename_i hi;cases e1;have hj:j<n:=by rw[←yN]; exact(cJ e2).1
    refine c2 j x v' e2 ?_;have bj:i*n+j<len*n:=by
     have:(i+1)*n≤len*n:=Nat.mul_le_mul_right n hi;rw[Nat.succ_mul] at this; omega
    have dL:¬len*n=0:=by omega
    simp only[cells,if_neg dL] at e3;obtain⟨q1,q2⟩:=Array.getElem?_eq_some_iff.1 e3;simp only[Array.getElem_map,Array.getElem_range] at q2;rw[pc,Nat.mul_comm i n,Nat.mul_add_mod,Nat.mod_eq_of_lt hj,getElem!_pos v.cells j (by omega)] at q2;rw[Array.getElem?_toList,Array.getElem?_eq_getElem (by omega),q2]
   ·cases e1
theorem VM(k:IntKind)(n:Int)(h0:Hp):aD P GL (.un .xor) [.int k n] h0 (.int k (bits .xor k (if k.signed then -1 else k.max) n)) [] []:=by
 intro o os hc w0 L g h w a r hx _ _;generalize ho:o.op=xm at hc;cases hc with
 |un _ t x=>
  simp only[execOp,ho,Zq hx.1,Op.unary,intBits_xor,Sem.run_bind,Sem.run_pure,Result.andThen_ok];exact Out.here r (.int _ _ _)
end
end Go.Ah
end
section
namespace Go.Ah
mutual
def aa.flat:aa→Bool
 |.bool _=>true
 |.int _ _=>true
 |.str _=>true
 |.bQ=>true
 |.af=>true
 |.bD=>true
 |.func _ xs ys=>jX xs&&jX ys
 |.ct=>true
 |.iface _ v=>v.flat
 |.dX=>true
 |.agg cs=>jX cs
 |.aG cs=>jX cs
 |.aI=>true
 |_=>false
def jX:List aa→Bool
 |[]=>true
 |x::xs=>x.flat&&jX xs
end
theorem X8:∀ {xs:List aa} {i:Nat} {x:aa},jX xs=true→xs[i]?=some x→x.flat=true
 |[],i,x,_,e=>by simp at e
 |y::xs,0,x,h,e=>by simp[jX] at h; simp at e; subst e; exact h.1
 |y::xs,i+1,x,h,e=>by simp[jX] at h; simp at e; exact X8 h.2 e
theorem Den.flat{M:Nat→Option Obj}{c:Own}{x:aa}{v:Value}(h:Den M c x v):x.flat=true→∀M' c',Den M' c' x v:=by
 induction h with
 |aI=>intro _ _ c'; exact .aI _ _
 |bool=>intro _ _ c'; exact .bool _ _
 |int=>intro _ _ c'; exact .int _ _ _
 |str=>intro _ _ c'; exact .str _ _
 |bQ=>intro _ _ c'; exact .bQ _
 |af=>intro _ _ c'; exact .af _
 |bD=>intro _ _ c'; exact .bD _
 |func c fn first captured vs ws h1 h2 h3 h4 sV sW=>
  intro h M' c';simp[aa.flat] at h;exact .func _ _ _ _ _ _ h1 h2 (λi x v e1 e2=>sV i x v e1 e2 (X8 h.1 e1) M' c') (λi x v e1 e2=>sW i x v e1 e2 (X8 h.2 e1) M' c')
 |ct=>intro _ _ c'; exact .ct _
 |iface c t x v h ih=>intro hr M' c'; exact .iface _ _ _ _ (ih (by simpa[aa.flat] using hr) M' c')
 |dX=>intro _ _ c'; exact .dX _
 |agg c cs vs h1 h2 ih=>intro h M' c'; exact .agg _ _ _ h1 (λi x v e1 e2=>ih i x v e1 e2 (X8 (by simpa[aa.flat] using h) e1) M' c')
 |aG c cs vs h1 h2 ih=>intro h M' c'; exact .aG _ _ _ h1 (λi x v e1 e2=>ih i x v e1 e2 (X8 (by simpa[aa.flat] using h) e1) M' c')
 |_=>intro h; simp[aa.flat] at h
section
variable {P:Program} {GL:aA}
def fD(P:Program)(GL:aA)(f:FuncId)(xs:List aa)(h0:Hp)(v:aa)(rd:List Nat)(up:List (Nat×ab)):Prop:=
 ∀(w0:World) (L:Ln) (g:Gm) (h:Hp) (w:World) (vs:List Value),a_ GL w0 L g h w→bZ g xs vs→(∀b∈rd,h b=h0 b)→(∀p∈up,h p.1=h0 p.1) →
  Calls P f vs.toArray w λe yY=>∃u,e=.returned u∧∃g',g.Le g'∧a_ GL w0 L g' (ca h up) yY∧g'.den v u
theorem YY{f:FuncId}(hp:Xl P f=true)(args:Array Value)(w:World):(callFunc f args).run P w=.ok (.enter f args) w:=by
 unfold Xl at hp;cases hf:P.funcs[f]? with
 |none=>simp[hf] at hp
 |some fn=>
  simp[hf] at hp;obtain⟨b,hb⟩:=Option.isSome_iff_exists.1 hp.2;simp[callFunc,hf,hp.1,hb]
theorem V5{f:FuncId}{xs:List aa}{h0:Hp}{v:aa}{rd:List Nat}{up:List (Nat×ab)}(hc:fD P GL f xs h0 v rd up):aD P GL (.call f) xs h0 v rd up:=by
 intro o os sg w0 L g h w a r hx cB dJ;generalize ho:o.op=op at sg;cases sg with
 |call _ args ts hp=>
  have bS:(execOp a.eval o).run P w=.ok (.enter f (args.map a.eval)) w:=by
   simp only[execOp,ho,resolve,Sem.run_bind,Act.eval,Deferred.ofValue,Sem.run_pure,Result.andThen_ok,invoke];rw[YY hp];simp
  rw[bS];have:=hc w0 L g h w _ r hx cB dJ
  rwa [←Array.toList_map,Array.toArray_toList] at this
theorem T_{f:FuncId}{first captured xs:List aa}{h0:Hp}{v:aa}{rd:List Nat}{up:List (Nat×ab)}(hp:Xl P f=true)(hc:fD P GL f (first++xs++captured) h0 v rd up) :
  aD P GL .cH (.func (.func f) first captured::xs) h0 v rd up:=by
 intro o os sg w0 L g h w a r hx cB dJ;generalize ho:o.op=op at sg;cases sg with
 |cH x args ts=>
  obtain⟨d,dr⟩:=hx;generalize hu:a.eval x=u0 at d;cases d with
  |func _ _ _ _ vs ws h1 h2 h3 h4=>
   have bS:(execOp a.eval o).run P w=.ok (.enter f (vs++args.map a.eval++ws)) w:=by
    simp only[execOp,ho,resolve,Sem.run_bind,hu,Deferred.ofValue,Sem.run_pure,Result.andThen_ok,invoke];rw[YY hp]
   rw[bS];have hl:=dr.length;simp at hl;have:=hc w0 L g h w (vs ++ args.map a.eval ++ ws).toList r (bZ.jH (by simp[h1,h2,hl]) (λi y u e1 e2=>by
    simp only[Array.toList_append] at e2;by_cases hi:i<first.length
    ·rw[List.append_assoc,List.getElem?_append_left hi] at e1;rw[List.append_assoc,List.getElem?_append_left (by simpa[h1] using hi)] at e2;exact h3 i y u e1 (by simpa using e2)
    ·by_cases tm:i<first.length+xs.length
     ·rw[List.append_assoc,List.getElem?_append_right (by omega),List.getElem?_append_left (by omega)] at e1;rw[List.append_assoc,List.getElem?_append_right (by simp; omega),List.getElem?_append_left (by simp; omega)] at e2;refine dr.get (i-first.length) y u e1 ?_;simpa[h1] using e2
     ·rw[List.getElem?_append_right (by simp; omega)] at e1;rw[List.getElem?_append_right (by simp; omega)] at e2;refine h4 (i - (first ++ xs).length) y u e1 ?_;simpa[h1,hl] using e2)) cB dJ
   rwa [Array.toArray_toList] at this
def cm(P:Program)(GL:aA)(f:FuncId)(xs:List aa)(v:aa):Prop:=
 ∀(w:World) (M:Nat→Option Obj) (vs:List Value),(∀b o,M b=some o→w.heap[b]?=some o)→(∀p∈GL,Den M aV (.ay p.2 0) (.pointer (some ⟨p.1,0,none⟩)))→bZ ⟨M,aV⟩ xs vs →
  Calls P f vs.toArray w λe w'=>∃u,e=.returned u∧fX ⟨[],M⟩ w w'∧∃M',fE M M'∧(∀b o,M' b=some o→w'.heap[b]?=some o)∧(∀b o,M' b=some o→M b=some o∨w.heap.size≤b)∧Den M' aV v u
def pj:Hp:=λ_=>none
theorem a_.start(w:World)(M:Nat→Option Obj)(hM:∀b o,M b=some o→w.heap[b]?=some o)(hg:∀p∈GL,Den M aV (.ay p.2 0) (.pointer (some ⟨p.1,0,none⟩))):a_ GL w ⟨[],M⟩ ⟨M,aV⟩ pj w where
 keeps:=fX.refl _ _
 aJ:=hM
 src:=λ_ _ e=>.inl e
 bz:=hg
 dc:=λ_ _=>rfl
 ig:=λ_ _ e=>by cases e
 own:=λ_ _ _ e=>by cases e
 aN:=λ_ _ _ e=>by cases e
 inj:=λ_ _ _ _ _ _ e=>by cases e
theorem a_.after{w0:World}{L:Ln}{g:Gm}{h:Hp}{w w':World}(r:a_ GL w0 L g h w){M M':Nat→Option Obj}(k:fX ⟨[],M⟩ w w')(hle:fE g.M M')(dM:∀b o,M' b=some o→w'.heap[b]?=some o)(ji:∀b o,M' b=some o→g.M b=some o∨w.heap.size≤b) :
  a_ GL w0 L ⟨M',g.c⟩ h w' where
 keeps:=r.keeps.trans' k.os k.tape k.output k.size (λb hb _=>k.block b (by have:=r.keeps.size; omega) (by simp))
 aJ:=dM
 src:=λb o e=>by
  rcases ji b o e with h1|h1
  ·exact r.src b o h1
  ·exact .inr (.inl (by have:=r.keeps.size; omega))
 bz:=λp hp=>(r.bz p hp).mono hle (eF.refl _)
 dc:=r.dc
 ig:=r.ig
 own:=λb blk cb e hl ec hv=>by
  obtain⟨h1,h2,o,ho,de⟩:=r.own b blk cb e hl ec hv;have bj:=r.dh e hl ec hv;refine⟨?_,h2,o,by rw[k.block _ bj (by simp)]; exact ho,de.mono hle (eF.refl _)⟩;show M' cb.blk=none;cases hm:M' cb.blk with
  |none=>rfl
  |some x=>
   rcases ji _ _ hm with h3|h3
   ·rw[h1] at h3; cases h3
   ·omega
 aN:=r.aN
 inj:=r.inj
theorem Hl{M:Nat→Option Obj}{c:Own}:∀ {xs:List aa} {vs:List Value},el xs=true→bZ ⟨M,c⟩ xs vs→∀c',bZ ⟨M,c'⟩ xs vs
 |[],[],_,_,_=>trivial
 |x::xs,v::vs,h,⟨d,r⟩,c'=>by simp[el] at h; exact⟨Den.ro d h.1 c',Hl h.2 r c'⟩
theorem cm.here{f:FuncId}{xs:List aa}{v:aa}(hc:cm P GL f xs v)(xi:el xs=true)(h0:Hp):fD P GL f xs h0 v [] []:=by
 intro w0 L g h w vs r hx _ _;refine(hc w g.M vs r.aJ r.bz (Hl xi hx aV)).mono ?_;rintro e w' ⟨u,he,k,M',hle,dM,ji,hd⟩;exact⟨u,he,⟨M',g.c⟩,⟨hle,eF.refl _⟩,r.after k hle dM ji,hd.mono (fE.refl _) (eF.aV _)⟩
def World.all(w:World):Nat→Option Obj:=λb=>w.heap[b]?
def xS(g:Gm)(h:Hp)(w:World)(M2:Nat→Option Obj):Prop:=
 fE g.M M2∧∀b blk cb o,h b=some blk→blk.live=true→g.c b=some cb→cb.cS=false→w.heap[cb.blk]?=some o→M2 cb.blk=some o
def aS(h0:Hp)(rd:List Nat)(x y:aa):Prop:=
 ∀(GL:aA) (w0:World) (L:Ln) (g:Gm) (h:Hp) (w:World) (M2:Nat→Option Obj),a_ GL w0 L g h w→xS g h w M2→(∀b∈rd,h b=h0 b)→∀v,g.den x v→Den M2 aV y v
def bM(h0:Hp)(rd:List Nat)(xs ys:List aa):Prop:=
 ∀(GL:aA) (w0:World) (L:Ln) (g:Gm) (h:Hp) (w:World) (M2:Nat→Option Obj),a_ GL w0 L g h w→xS g h w M2→(∀b∈rd,h b=h0 b)→∀vs,bZ g xs vs→bZ ⟨M2,aV⟩ ys vs
theorem a_.rm{w0:World}{L:Ln}{g:Gm}{h:Hp}{w:World}(r:a_ GL w0 L g h w):fE g.M (World.all w):=λb o e=>r.aJ b o e
theorem a_.rL{w0:World}{L:Ln}{g:Gm}{h:Hp}{w:World}(r:a_ GL w0 L g h w):xS g h w (World.all w):=⟨r.rm,λ_ _ _ _ _ _ _ _ e=>e⟩
theorem cm.rn{f:FuncId}{xs ys:List aa}{v:aa}{rd:List Nat}{h0:Hp}(hc:cm P GL f ys v)(hb:bM h0 rd xs ys)(hv:v.flat=true):fD P GL f xs h0 v rd []:=by
 intro w0 L g h w vs r hx cB _;refine(hc w (World.all w) vs (λ_ _ e=>e) (λp hp=>(r.bz p hp).mono r.rm (eF.refl _)) (hb GL w0 L g h w _ r r.rL cB vs hx)).mono ?_;rintro e w' ⟨u,he,k,M',hle,dM,ji,hd⟩;refine⟨u,he,g,Gm.Le.refl _,?_,Den.flat hd hv _ _⟩;exact r.after k (fE.refl _) (λb o e=>by rw[k.block b (r.eg e) (by simp)]; exact r.aJ b o e) (λb o e=>.inl e)
theorem aS.ro{h0:Hp}{rd:List Nat}{x:aa}(hx:x.ro=true):aS h0 rd x x:=by
 intro GL w0 L g h w M2 r hM _ v d;exact Den.ro (Den.mono hM.1 d (eF.refl _)) hx _
theorem bM.nil{h0:Hp}{rd:List Nat}:bM h0 rd [] []:=by
 intro GL w0 L g h w M2 r hM _ vs d;cases vs with
 |nil=>trivial
 |cons v vs=>exact d.elim
theorem bM.cons{h0:Hp}{rd:List Nat}{x y:aa}{xs ys:List aa}(h1:aS h0 rd x y)(h2:bM h0 rd xs ys):bM h0 rd (x::xs) (y::ys):=by
 intro GL w0 L g h w M2 r hM cB vs d;cases vs with
 |nil=>exact d.elim
 |cons v vs=>exact⟨h1 GL w0 L g h w M2 r hM cB v d.1,h2 GL w0 L g h w M2 r hM cB vs d.2⟩
theorem bM.get{h0:Hp}{rd:List Nat}{xs ys:List aa}(hb:bM h0 rd xs ys){GL:aA}{w0:World}{L:Ln}{g:Gm}{h:Hp}{w:World}{M2:Nat→Option Obj}(r:a_ GL w0 L g h w)(hM:xS g h w M2)(cB:∀b∈rd,h b=h0 b){vs:List Value}(hl:xs.length=vs.length)
 (hd:∀(i:Nat) (x:aa) (v:Value),xs[i]?=some x→vs[i]?=some v→g.den x v):ys.length=vs.length∧∀(i:Nat) (y:aa) (v:Value),ys[i]?=some y→vs[i]?=some v→Den M2 aV y v:=by
 have:=hb GL w0 L g h w M2 r hM cB vs (bZ.jH hl hd);exact⟨this.length,λi y v e1 e2=>this.get i y v e1 e2⟩
theorem aS.box{h0:Hp}{rd:List Nat}{b j:Nat}{row row':List aa}(hb:h0 b=some (.box row))(cv:b∈rd)(hr:bM h0 rd row row'):aS h0 rd (.an b j) (.ay row' j):=by
 intro GL w0 L g h w M2 r hM cB v d;have bq:h b=some (.box row):=by rw[cB b cv]; exact hb
 cases d with
 |an _ _ _ cb ec=>
 cases bc:cb.cS with
 |true=>have:=r.aN b _ cb bq rfl ec bc; cases this
 |false=>
 obtain⟨_,_,o',dV,arr,T,rfl,hs,bY⟩:=r.own b _ cb bq rfl ec bc;obtain⟨hl,hd⟩:=hr.get r hM cB (vs:=arr.toList) (by simp[hs]) (λi x v e1 e2=>bY i x v e1 (by simpa using e2));have pB:Den M2 aV (.ay row' j) (.pointer (some ⟨cb.blk,0+j,none⟩)):=by
  refine .ay _ _ _ _ _ (λk=>(arr[k]?).getD undef) (λk hk=>?_) (λk x e=>?_)
  ·have tn:k<arr.size:=by simpa[hl] using hk
   have hw:M2 cb.blk=some (.cells arr T (0,0)):=hM.2 b _ cb _ bq rfl ec (by assumption) dV;simp[fL,hw,tn]
  ·have hk:k<arr.size:=by have:=(cJ e).1; simpa[hl] using this
   simp only[Array.getElem?_eq_getElem hk,Option.getD_some];exact hd k x _ e (by simp[hk])
 rwa [Nat.zero_add] at pB
theorem aS.iface{h0:Hp}{rd:List Nat}{t:TypeId}{x y:aa}(h1:aS h0 rd x y):aS h0 rd (.iface t x) (.iface t y):=by
 intro GL w0 L g h w M2 r hM cB v d;cases d with
 |iface _ _ _ v' dv=>exact .iface _ _ _ _ (h1 GL w0 L g h w M2 r hM cB v' dv)
theorem aS.agg{h0:Hp}{rd:List Nat}{xs ys:List aa}(h1:bM h0 rd xs ys):aS h0 rd (.agg xs) (.agg ys):=by
 intro GL w0 L g h w M2 r hM cB v d;cases d with
 |agg _ _ vs hs hd=>
  obtain⟨hl,pB⟩:=h1.get r hM cB (vs:=vs.toList) (by simp[hs]) (λi x v e1 e2=>hd i x v e1 (by simpa using e2));exact .agg _ _ _ (by simpa using hl.symm) (λi x v e1 e2=>pB i x v e1 (by simpa using e2))
theorem aS.func{h0:Hp}{rd:List Nat}{fn:Fn}{xs ys yZ RK:List aa}(h1:bM h0 rd xs yZ)(h2:bM h0 rd ys RK):aS h0 rd (.func fn xs ys) (.func fn yZ RK):=by
 intro GL w0 L g h w M2 r hM cB v d;cases d with
 |func _ _ _ _ vs ws q1 q2 q3 q4=>
  obtain⟨hl,pB⟩:=h1.get r hM cB (vs:=vs.toList) (by simp[q1]) (λi x v e1 e2=>q3 i x v e1 (by simpa using e2));obtain⟨eR,tl⟩:=h2.get r hM cB (vs:=ws.toList) (by simp[q2]) (λi x v e1 e2=>q4 i x v e1 (by simpa using e2));exact .func _ _ _ _ _ _ (by simpa using hl.symm) (by simpa using eR.symm) (λi x v e1 e2=>pB i x v e1 (by simpa using e2)) (λi x v e1 e2=>tl i x v e1 (by simpa using e2))
theorem aS.map{h0:Hp}{rd:List Nat}{b:Nat}{es:List (aa×aa)}(hb:h0 b=some (.map es))(cv:b∈rd)(jO:∀p∈es,p.1.ro=true∧p.2.ro=true):aS h0 rd (.map b) (.dZ es):=by
 intro GL w0 L g h w M2 r hM cB v d;have bq:h b=some (.map es):=by rw[cB b cv]; exact hb
 cases d with
 |map _ _ cb ec=>
 cases bc:cb.cS with
 |true=>have:=r.aN b _ cb bq rfl ec bc; cases this
 |false=>
 obtain⟨_,_,o',dV,arr,clock,rfl,hs,bY⟩:=r.own b _ cb bq rfl ec bc;have hw:M2 cb.blk=some (.map arr clock):=hM.2 b _ cb _ bq rfl ec bc dV;exact .dZ _ _ _ arr clock hw hs (λi k x e e1 e2=>Den.ro ((bY i k x e e1 e2).1.mono hM.1 (eF.refl _)) (jO _ (List.mem_of_getElem? e1)).1 _)
  (λi k x e e1 e2=>Den.ro ((bY i k x e e1 e2).2.mono hM.1 (eF.refl _)) (jO _ (List.mem_of_getElem? e1)).2 _)
theorem aS.sl{h0:Hp}{rd:List Nat}{b off len sz:Nat}{ex:Bool}{rs iu:List (List aa)}(hb:h0 b=some (.rows sz rs))(cv:b∈rd)(hle:off+len≤rs.length)(hl:iu.length=len)
 (hr:∀(i:Nat) (row row':List aa),rs[off+i]?=some row→iu[i]?=some row'→bM h0 rd row row'):aS h0 rd (.sl b off len ex) (.ax ex false sz iu):=by
 intro GL w0 L g h w M2 r hM cB v d;have bq:h b=some (.rows sz rs):=by rw[cB b cv]; exact hb
 cases d with
 |mu _ _ _ cb p ec hv=>
  have:iu=[]:=List.length_eq_zero_iff.1 hl;subst this;exact .ax _ _ _ _ [] _ _ 0 0 (λ_ _=>undef) (by simp) (by simp) (by simp) (by simp) (by simp) (by simp) (by simp) (by simp)
 |sl _ _ _ _ _ cb cap ec hv h1 h2 h3=>
  obtain⟨e1,arr,T,dV,hs,kp,cI,bY⟩:=r.dw bq ec hv;have hw:M2 cb.blk=some (.cells arr T (0,0)):=hM.2 b _ cb _ bq rfl ec (by assumption) dV;have ah:∀i,i<len→∃row,rs[off+i]?=some row:=λi hi=>⟨rs[off+i]'(by omega),by simp[show off+i<rs.length by omega]⟩;have lz:∀i j,i<len→j<sz→(off+i)*sz+j<arr.size:=by
   intro i j hi hj;have:(off+i+1)*sz≤rs.length*sz:=Nat.mul_le_mul_right sz (by omega);rw[Nat.succ_mul] at this; omega
  have key:∀i row row',rs[off+i]?=some row→iu[i]?=some row'→row'.length=sz∧∀(j:Nat) (y:aa),row'[j]?=some y→Den M2 aV y ((arr[(off+i)*sz+j]?).getD undef):=by
   intro i row row' q1 q2;have hi:i<len:=by rw[←hl]; exact(cJ q2).1
   have yJ:=cI _ _ q1;obtain⟨k1,k2⟩:=(hr i row row' q1 q2).get r hM cB (vs:=(arr.extract ((off + i) * sz) ((off + i) * sz + sz)).toList) (by
     have:=lz i 0 hi;simp[yJ];by_cases h0:sz=0
     ·subst h0; simp
     ·have:=lz i (sz-1) hi (by omega); omega) (λj x v q3 q4=>by
    have hj:j<sz:=by rw[←yJ]; exact(cJ q3).1
    have bj:=lz i j hi hj;rw[Array.getElem?_toList] at q4;obtain⟨_,q4⟩:=Array.getElem?_eq_some_iff.1 q4;rw[Array.getElem_extract] at q4;exact bY _ row j x v q1 q3 (by rw[Array.getElem?_eq_getElem bj,q4]))
   have hlen:(arr.extract ((off+i)*sz) ((off+i)*sz+sz)).toList.length=sz:=by
    simp;by_cases h0:sz=0
    ·subst h0; simp
    ·have:=lz i (sz-1) hi (by omega); omega
   refine⟨by rw[k1,hlen],λj y q3=>?_⟩;have hj:j<sz:=by rw[←hlen,←k1]; exact(cJ q3).1
   have bj:=lz i j hi hj;simp only[Array.getElem?_eq_getElem bj,Option.getD_some];refine k2 j y _ q3 ?_;rw[Array.getElem?_toList,Array.getElem?_eq_getElem (by simp; omega),Array.getElem_extract]
  have lB:Den M2 aV (.ax ex false sz iu) (.slice (some ⟨cb.blk,off*sz,none⟩) iu.length cap):=by
   refine .ax _ ex false sz iu _ cap cb.blk (off*sz) (λi j=>(arr[(off+i)*sz+j]?).getD undef) (λe=>by rw[hl]; exact h3 e) (by simp) (λ_=>rfl) (λe=>by cases e) (by rw[hl]; exact h1) (λi row' q=>?_) (λi j hi hj=>?_) (λi row' j y q1 q2=>?_)
   ·obtain⟨row,Lf⟩:=ah i (by rw[←hl]; exact(cJ q).1);exact(key i row row' Lf q).1
   ·rw[hl] at hi;have bj:=lz i j hi hj;rw[show off*sz+(i*sz+j)=(off+i)*sz+j by rw[Nat.add_mul]; omega];simp[fL,hw,bj]
   ·obtain⟨row,Lf⟩:=ah i (by rw[←hl]; exact(cJ q1).1);exact(key i row row' Lf q1).2 j y q2
  rw[hl,←e1] at lB;rw[e1] at lB ⊢;exact lB
end
end Go.Ah
end
section
namespace Go.Ah
structure aO where
 dst:Option Nat
 k:MK
 xs:List tD
 guard:Option (Nat×Bool)
 deriving Inhabited
def lp{α β:Type}(R:α→β→Prop):List α→List β→Prop
 |[],[]=>True
 |x::xs,y::ys=>R x y∧lp R xs ys
 |_,_=>False
structure gQ (P:Program) (GL:aA) (n:Nat) (ops:Array Oper) (o:Oper) (m:aO):Prop where
 dst:o.dst=m.dst
 lt:∀d,m.dst=some d→d<n
 op:∃os,bH P GL o.op m.k os∧lp (jR GL) os m.xs
 guard:match o.guard,m.guard with
  |none,none=>True
  |some (j,w),some (s,w')=>w=w'∧(ops[j]?).bind (·.dst)=some s
  |_,_=>False
def dO(cs:List (Bool×Bool)):Prop:=∀p∈cs,p.1=p.2
inductive cx (ρ:Frame):Option (Nat×Bool)→List (Bool×Bool)→Prop
 |none:cx ρ none []
 |bool (s:Nat) (w c:Bool):bn ρ s=.bool c→cx ρ (some (s,w)) [(c,w)]
 |when (s:Nat) (w c:Bool) (cs:List (Bool×Bool)):bn ρ s=.when cs (.bool c)→cx ρ (some (s,w)) (cs++[(c,w)])
def vG(H:Prop)(x y:aa):Prop:=x=y∨∃cs,x=.when cs y∧(H→dO cs)
def vQ(d:Nat):Frame→Frame
 |[]=>[]
 |(k,u)::r=>match Nat.beq k d with
  |true=>r
  |false=>(k,u)::vQ d r
theorem O_{d t:Nat}(h:t≠d):∀(ρ:Frame),bn (vQ d ρ) t=bn ρ t
 |[]=>rfl
 |(k,u)::r=>by
  simp only[vQ];split
  ·rename_i e;have:=eZ e;subst this;rw[XG,if_neg h]
  ·rw[XG,XG,O_ h r]
def bK(d:Option Nat)(v:aa)(ρ:Frame):Frame:=
 match d with
 |some d=>(d,v)::vQ d ρ
 |none=>ρ
theorem X1(d:Option Nat)(v:aa)(ρ:Frame)(t:Nat):bn (bK d v ρ) t=if d=some t then v else bn ρ t:=by
 cases d with
 |none=>simp[bK]
 |some d=>
  simp only[bK,XG];by_cases h:t=d
  ·subst h; simp
  ·rw[if_neg h,if_neg (λe=>h (Option.some.inj e).symm),O_ h]
def gy:List ab→List (Nat×ab)→Option (List ab)
 |σ,[]=>some σ
 | σ,(b,x) :: r=>bif Nat.beq b σ.length then gy (σ ++ [x]) r else (match Yz b x σ with
  |some σ'=>gy σ' r
  | none=>none)
abbrev Log:=List (List Nat×List Nat)
def y8(P:Program)(GL:aA)(w0:World)(L:Ln)(g:Gm)(R:aa→List ab→Prop):Result Next→Prop
 |.ok (.value u) w'=>∃g' x σ',R x σ'∧g.Le g'∧a_ GL w0 L g' (hp σ') w'∧g'.den x u
 |.ok .skip w'=>∃g' σ',R .aI σ'∧g.Le g'∧a_ GL w0 L g' (hp σ') w'
 |.ok (.enter f args) w'=>Calls P f args w' λe yY=>∃u,e=.returned u∧∃g' x σ',R x σ'∧g.Le g'∧a_ GL w0 L g' (hp σ') yY∧g'.den x u
 |_=>False
def mA(P:Program)(GL:aA)(k:MK)(xs:List aa)(σ:List ab)(R:aa→List ab→Prop):Prop:=
 ∀(o:Oper) (os:List Operand),bH P GL o.op k os→∀(w0:World) (L:Ln) (g:Gm) (w:World) (a:Act),a_ GL w0 L g (hp σ) w→bZ g xs (os.map a.eval)→y8 P GL w0 L g R ((execOp a.eval o).run P w)
inductive dE (fl:Bool) (P:Program) (GL:aA) (o:aO) (ρ:Frame) (σ:List ab) (lg:Log) (K:Frame→List ab→Log→Prop):Prop
 |run (cs:List (Bool×Bool)) (ys:List aa) (v:aa) (rd:List Nat) (up:List (Nat×ab)) (σ':List ab):cx ρ o.guard cs→dO cs→lp (vG True) (o.xs.map (ev ρ)) ys→aD P GL o.k ys (hp σ) v rd up →
   gy σ up=some σ'→K (bK o.dst v ρ) σ' (lg++[(rd,up.map (·.1))])→dE fl P GL o ρ σ lg K
 |skip (cs:List (Bool×Bool)):cx ρ o.guard cs→¬dO cs→K (bK o.dst .aI ρ) σ (lg++[([],[])])→dE fl P GL o ρ σ lg K
 |lazy (cs:List (Bool×Bool)) (ys:List aa) (v:aa) (rd:List Nat):cx ρ o.guard cs→lp (vG (dO cs)) (o.xs.map (ev ρ)) ys→(dO cs→aD P GL o.k ys (hp σ) v rd []) →
   K (bK o.dst (.when cs v) ρ) σ (lg++[(rd,[])])→dE fl P GL o ρ σ lg K
 |pick (cs:List (Bool×Bool)) (x y z:aa) (c p q:Bool) (v:aa):cx ρ o.guard cs→o.k=.pick→o.xs.map (ev ρ)=[x,y,z]→vG (dO cs) x (.bool c)→vG (dO cs∧c=true) y (.bool p)→vG (dO cs∧c=false) z (.bool q) →
   (v=.when cs (.bool (bif c then p else q))∨(cs=[]∧v=.bool (bif c then p else q)))→K (bK o.dst v ρ) σ (lg++[([],[])])→dE fl P GL o ρ σ lg K
 |rel (cs:List (Bool×Bool)) (ys:List aa) (R:aa→List ab→Prop):fl=false→cx ρ o.guard cs→dO cs→lp (vG True) (o.xs.map (ev ρ)) ys→mA P GL o.k ys σ R →
   (∀v σ',R v σ'→K (bK o.dst v ρ) σ' (lg++[([],[])]))→dE fl P GL o ρ σ lg K
def je(fl:Bool)(P:Program)(GL:aA):List aO→Frame→List ab→Log→(Frame→List ab→Log→Prop)→Prop
 |[],ρ,σ,lg,Q=>Q ρ σ lg
 |o::r,ρ,σ,lg,Q=>dE fl P GL o ρ σ lg λρ' σ' jF=>je fl P GL r ρ' σ' jF Q
theorem dE.mono{fl:Bool}{P:Program}{GL:aA}{o:aO}{ρ:Frame}{σ:List ab}{lg:Log}{K K':Frame→List ab→Log→Prop}(h:∀ρ σ lg,K ρ σ lg→K' ρ σ lg)(s:dE fl P GL o ρ σ lg K):dE fl P GL o ρ σ lg K':=by
 cases s with
 |run cs ys v rd up σ' h1 h2 h3 h4 h5 h6=>exact .run cs ys v rd up σ' h1 h2 h3 h4 h5 (h _ _ _ h6)
 |skip cs h1 h2 h3=>exact .skip cs h1 h2 (h _ _ _ h3)
 |lazy cs ys v rd h1 h2 h3 h4=>exact .lazy cs ys v rd h1 h2 h3 (h _ _ _ h4)
 |pick cs x y z c p q v h1 h2 h3 h4 h5 h6 h7 h8=>exact .pick cs x y z c p q v h1 h2 h3 h4 h5 h6 h7 (h _ _ _ h8)
 |rel cs ys R h0 h1 h2 h3 h4 h5=>exact .rel cs ys R h0 h1 h2 h3 h4 (λv σ' hr=>h _ _ _ (h5 v σ' hr))
theorem DR:∀(up:List (Nat×ab)) (σ σ':List ab),gy σ up=some σ'→ca (hp σ) up=hp σ'
 |[],σ,σ',h=>by simp only[gy] at h; cases h; rfl
 |(b,x)::r,σ,σ',h=>by
  simp only[gy] at h;cases hb:Nat.beq b σ.length with
  |true=>
   simp only[hb,cond_true] at h;have:=DR r _ _ h;rw[←this];show ca (dH (hp σ) b x) r=_
   congr 1
   funext n
   have e:b=σ.length:=eZ hb;subst e;by_cases hn:n=σ.length
   ·subst hn; simp[dH,hp]
   ·rw[Xq _ _ hn]; unfold hp;by_cases bj:n<σ.length
    ·rw[List.getElem?_append_left bj]
    ·rw[List.getElem?_eq_none (by omega),List.getElem?_eq_none (by simp; omega)]
  |false=>
   simp only[hb,cond_false] at h;cases hs:Yz b x σ with
   |none=>simp[hs] at h
   |some σ1=>
    simp only[hs] at h;have:=DR r _ _ h;rw[←this];show ca (dH (hp σ) b x) r=_
    congr 1
    funext n
    obtain⟨s1,s2,s3⟩:=TK hs;unfold dH hp;rw[s3 n]
section
variable {P:Program} {GL:aA}
def Du(GL:aA)(w0:World)(L:Ln)(n:Nat)(g:Gm)(K:Frame→List ab→Log→Prop)(a:Act)(w:World):Prop:=
 ∃g' ρ σ lg,g.Le g'∧a_ GL w0 L g' (hp σ) w∧df n g' ρ a∧K ρ σ lg
theorem zi{H:Prop}(hH:H){x y:aa}(h:vG H x y){g:Gm}{v:Value}(d:g.den x v):g.den y v:=by
 rcases h with rfl|⟨cs,rfl,h2⟩
 ·exact d
 ·cases d with
  |when _ _ _ _ h3 _=>exact h3 (h2 hH)
theorem C6{H:Prop}(hH:H){g:Gm}:∀ {xs ys:List aa} {vs:List Value},lp (vG H) xs ys→bZ g xs vs→bZ g ys vs
 |[],[],[],_,_=>trivial
 |[],[],_::_,_,d=>d.elim
 |_::_,_::_,[],_,d=>d.elim
 |_::_,_::_,_::_,⟨h1,h2⟩,⟨d1,d2⟩=>⟨zi hH h1 d1,C6 hH h2 d2⟩
theorem DK{w0:World}{L:Ln}{g:Gm}{h:Hp}{w:World}(r:a_ GL w0 L g h w){n:Nat}{ρ:Frame}{a:Act}(d:df n g ρ a):∀ {os:List Operand} {xs:List tD},lp (jR GL) os xs→bZ g (xs.map (ev ρ)) (os.map a.eval)
 |[],[],_=>trivial
 |_::_,_::_,⟨h1,h2⟩=>⟨df.RG r d h1,DK r d h2⟩
theorem df.bK{n:Nat}{g:Gm}{ρ:Frame}{a:Act}(h:df n g ρ a){d:Option Nat}(hd:∀t,d=some t→t<n){x:aa}{v:Value}(hx:g.den x v):df n g (bK d x ρ) (a.put d v):=by
 cases d with
 |none=>exact h
 |some t=>
  have:=h.put (hd t rfl) hx;refine⟨this.size,λs=>?_,this.defers⟩;have hs:=this.slot s;rw[XG] at hs;rw[X1];by_cases e:s=t
  ·subst e; simpa using hs
  ·rw[if_neg e] at hs;rw[if_neg (λq=>e (Option.some.inj q).symm)];exact hs
theorem Out.upon{w0:World}{L:Ln}{g:Gm}{h':Hp}{x:aa}{res:Result Next}(ho:Out P GL w0 L g h' x res){o:Oper}{a:Act}{next:Act→World→Prop}{Q:Exit→Act→World→Prop}
 (hk:∀g' u w',g.Le g'→a_ GL w0 L g' h' w'→g'.den x u→next (a.put o.dst u) w'):o.upon P a next Q res:=by
 cases res with
 |halt x w=>exact ho.elim
 |ok nx w=>
  cases nx with
  |value u=>obtain⟨g',h1,h2,h3⟩:=ho; exact hk g' u w h1 h2 h3
  |skip=>obtain⟨g',h1,h2,h3⟩:=ho; subst h3; exact hk g' undef w h1 h2 (.aI _ _)
  |enter f args=>
   refine Calls.mono ho ?_;rintro e w' ⟨u,rfl,g',h1,h2,h3⟩;exact hk g' u w' h1 h2 h3
  |_=>exact ho.elim
theorem Zs{n:Nat}{ops:Array Oper}{o:Oper}{m:aO}(ok:gQ P GL n ops o m){ρ:Frame}{g:Gm}{a:Act}(d:df n g ρ a){cs:List (Bool×Bool)}(hg:cx ρ m.guard cs) :
  (dO cs→Region.wanted o (yielded ops a.tmps)=true)∧(¬dO cs→Region.wanted o (yielded ops a.tmps)=false):=by
 have gv:=ok.guard;unfold Region.wanted;cases h1:m.guard with
 |none=>
  rw[h1] at hg gv;cases hg;cases h2:o.guard with
  |none=>exact⟨λ_=>rfl,λh=>(h (by simp[dO])).elim⟩
  |some p=>simp[h2] at gv
 |some sw=>
  obtain⟨s,w⟩:=sw;rw[h1] at hg gv;cases h2:o.guard with
  |none=>simp[h2] at gv
  |some jw=>
   obtain⟨j,w'⟩:=jw;simp only[h2] at gv;obtain⟨rfl,hs⟩:=gv;have kr:=d.slot s;have hy:∀v,a.tmps.getD s undef=v→yielded ops a.tmps j=match v with | .bool b=>some b|_=>none:=by
    intro v hv;unfold yielded;rw[hs];simp only[Option.bind_some];by_cases bj:s<a.tmps.size
    ·rw[Array.getElem?_eq_getElem bj];have:a.tmps[s]=v:=by simpa[Array.getD_eq_getD_getElem?,bj] using hv
     rw[this]; cases v<;>rfl
    ·rw[Array.getElem?_eq_none (by omega)];have:v=undef:=by rw[←hv]; simp[Array.getD_eq_getD_getElem?,Array.getElem?_eq_none (Nat.le_of_not_lt bj)]
     subst this; rfl
   show (dO cs→(yielded ops a.tmps j==some _)=true)∧(¬dO cs→(yielded ops a.tmps j==some _)=false);cases hg with
   |bool _ _ c hc=>
    rw[hc] at kr;have hv:=ZA kr;rw[hy _ hv];constructor
    ·intro h; have:=h (c,w') (by simp); simp at this; simp[this]
    ·intro h; simp; intro e; exact h (by simp[dO,e])
   |when _ _ c cs hc=>
    rw[hc] at kr;cases kr with
    |when _ _ _ _ h3 h4=>
    constructor
    ·intro h;have hv:=ZA (h3 (λp hp=>h p (by simp[hp])));rw[hy _ hv];have:=h (c,w') (by simp); simp at this; simp[this]
    ·intro h;by_cases jA:dO cs
     ·have hv:=ZA (h3 jA);rw[hy _ hv];simp; intro e;exact h (λp hp=>by
       rcases List.mem_append.1 hp with h1|h1
       ·exact jA p h1
       ·simp at h1; subst h1; exact e)
     ·have hv:=h4 jA;rw[hy _ hv]; simp[undef]
theorem y8.upon{w0:World}{L:Ln}{g:Gm}{R:aa→List ab→Prop}{res:Result Next}(ho:y8 P GL w0 L g R res){o:Oper}{a:Act}{next:Act→World→Prop}{Q:Exit→Act→World→Prop}
 (hk:∀g' x σ' u w',R x σ'→g.Le g'→a_ GL w0 L g' (hp σ') w'→g'.den x u→next (a.put o.dst u) w'):o.upon P a next Q res:=by
 cases res with
 |halt x w=>exact ho.elim
 |ok nx w=>
  cases nx with
  |value u=>obtain⟨g',x,σ',h0,h1,h2,h3⟩:=ho; exact hk g' x σ' u w h0 h1 h2 h3
  |skip=>obtain⟨g',σ',h0,h1,h2⟩:=ho; exact hk g' .aI σ' undef w h0 h1 h2 (.aI _ _)
  |enter f args=>
   refine Calls.mono ho ?_;rintro e w' ⟨u,rfl,g',x,σ',h0,h1,h2,h3⟩;exact hk g' x σ' u w' h0 h1 h2 h3
  |_=>exact ho.elim
theorem UH{fl:Bool}{n:Nat}{ops:Array Oper}{o:Oper}{m:aO}(ok:gQ P GL n ops o m){ρ:Frame}{σ:List ab}{lg:Log}{K:Frame→List ab→Log→Prop}(s:dE fl P GL m ρ σ lg K){w0:World}{L:Ln}{g:Gm}{w:World}(r:a_ GL w0 L g (hp σ) w){a:Act}(d:df n g ρ a)
 (next:Act→World→Prop)(Q:Exit→Act→World→Prop)(hn:∀a' w',Du GL w0 L n g K a' w'→next a' w') :
  if Region.wanted o (yielded ops a.tmps) then o.wp P a w next Q∨(o.asks P a w∧LetsOut Q) else next (a.put o.dst undef) w:=by
 obtain⟨os,jn,uK⟩:=ok.op;have lA:=DK r d uK;cases s with
 |run cs ys v rd up σ' h1 h2 h3 h4 h5 h6=>
  rw[if_pos ((Zs ok d h1).1 h2)];left;have bY:=C6 trivial h3 lA;have ho:=h4 o os jn w0 L g (hp σ) w a r bY (λ_ _=>rfl) (λ_ _=>rfl);rw[DR up σ σ' h5] at ho;refine ho.upon (λg' u w' hle hr hu=>hn _ _ ⟨g',_,σ',_,hle,hr,?_,h6⟩);rw[ok.dst];exact(d.mono hle).bK ok.lt hu
 |skip cs h1 h2 h3=>
  rw[if_neg (by rw[(Zs ok d h1).2 h2]; simp)];refine hn _ _ ⟨g,_,σ,_,Gm.Le.refl g,r,?_,h3⟩;rw[ok.dst];exact d.bK ok.lt (.aI _ _)
 |lazy cs ys v rd h1 h2 h3 h4=>
  by_cases hh:dO cs
  ·rw[if_pos ((Zs ok d h1).1 hh)];left;have bY:=C6 hh h2 lA;have ho:=h3 hh o os jn w0 L g (hp σ) w a r bY (λ_ _=>rfl) (λ_ h=>by cases h);refine ho.upon (λg' u w' hle hr hu=>hn _ _ ⟨g',_,σ,_,hle,hr,?_,h4⟩);rw[ok.dst];exact(d.mono hle).bK ok.lt (.when _ _ _ _ (λ_=>hu) (λh=>(h hh).elim))
  ·rw[if_neg (by rw[(Zs ok d h1).2 hh]; simp)];refine hn _ _ ⟨g,_,σ,_,Gm.Le.refl g,r,?_,h4⟩;rw[ok.dst];exact d.bK ok.lt (.when _ _ _ _ (λh=>(hh h).elim) (λ_=>rfl))
 |pick cs x y z c p q v h1 hk xi hx hy hz hv h8=>
  rw[xi] at lA;have jz:=jn;rw[hk] at jz;generalize qy:o.op=op at jz;cases jz with
  |pick oc oa ob=>
   obtain⟨d1,d2,d3,_⟩:=lA;by_cases hh:dO cs
   ·rw[if_pos ((Zs ok d h1).1 hh)];left;have e1:=ZA (zi hh hx d1);have lB:g.den (.bool (bif c then p else q)) (if c then a.eval oa else a.eval ob):=by
     cases c
     ·exact zi ⟨hh,rfl⟩ hz d3
     ·exact zi ⟨hh,rfl⟩ hy d2
    have bS:(execOp a.eval o).run P w=.ok (.value (if c then a.eval oa else a.eval ob)) w:=by
     simp only[execOp,qy,e1,asBool];simp
    unfold Oper.wp;rw[bS];refine hn _ _ ⟨g,_,σ,_,Gm.Le.refl g,r,?_,h8⟩;rw[ok.dst];rcases hv with rfl|⟨rfl,rfl⟩
    ·exact d.bK ok.lt (.when _ _ _ _ (λ_=>lB) (λh=>(h hh).elim))
    ·exact d.bK ok.lt lB
   ·rw[if_neg (by rw[(Zs ok d h1).2 hh]; simp)];refine hn _ _ ⟨g,_,σ,_,Gm.Le.refl g,r,?_,h8⟩;rw[ok.dst];rcases hv with rfl|⟨rfl,rfl⟩
    ·exact d.bK ok.lt (.when _ _ _ _ (λh=>(hh h).elim) (λ_=>rfl))
    ·exact(hh (by simp[dO])).elim
 |rel cs ys R h0 h1 h2 h3 h4 h5=>
  rw[if_pos ((Zs ok d h1).1 h2)];left;have bY:=C6 trivial h3 lA;refine(h4 o os jn w0 L g w a r bY).upon (λg' x σ' u w' hR hle hr hu=>hn _ _ ⟨g',_,σ',_,hle,hr,?_,h5 x σ' hR⟩);rw[ok.dst];exact(d.mono hle).bK ok.lt hu
theorem M_{fl:Bool}{n:Nat}{ops:Array Oper}{w0:World}{L:Ln}(Q:Exit→Act→World→Prop)(K:Frame→List ab→Log→Prop):∀(ms:List aO) (i:Nat) (ρ:Frame) (σ:List ab) (lg:Log) (g:Gm) (a:Act) (w:World),
  (∀(j:Nat) (m:aO),ms[j]?=some m→∃o,ops[i+j]?=some o∧gQ P GL n ops o m)→je fl P GL ms ρ σ lg K→a_ GL w0 L g (hp σ) w→df n g ρ a →
  (∀a' w',Du GL w0 L n g K a' w'→Q .normal a' w')→wpOps P ops Q (List.range' i ms.length) a w
 |[],i,ρ,σ,lg,g,a,w,_,hw,r,d,hq=>hq a w ⟨g,ρ,σ,lg,Gm.Le.refl g,r,d,hw⟩
 |m::ms,i,ρ,σ,lg,g,a,w,de,hw,r,d,hq=>by
  obtain⟨o,ho,ok⟩:=de 0 m rfl;rw[Nat.add_zero] at ho;simp only[List.length_cons,List.range'_succ,wpOps,ho];refine UH ok hw r d _ Q (λa' w' ⟨g',ρ',σ',jF,hle,hr,hd,hk⟩=>?_);exact M_ Q K ms (i + 1) ρ' σ' jF g' a' w' (λj m' e=>by
   have:=de (j+1) m' (by simpa using e)
   rwa [show i + (j + 1)=i + 1 + j by omega] at this) hk hr hd (λa2 w2 ⟨g2,ρ2,σ2,lg2,kp,tt,tl,oV⟩=>hq a2 w2 ⟨g2,ρ2,σ2,lg2,hle.trans kp,tt,tl,oV⟩)
end
end Go.Ah
end
section
namespace Go.Ah
section
variable {P:Program} {GL:aA}
theorem G9{σ:List ab}{b:Nat}{row:List aa}(h:ah σ b=.box row):hp σ b=some (.box row):=zf h (by simp)
theorem GS{σ:List ab}{b:Nat}{es:List (aa×aa)}(h:ah σ b=.map es):hp σ b=some (.map es):=zf h (by simp)
theorem Qm{b:Bool}{x:az}{v:aa}{rd:List Nat}{up:List (Nat×ab)}(h:(bif b then x else .stop)=.ok v rd up):b=true∧x=.ok v rd up:=by
 cases b
 ·cases h
 ·exact⟨rfl,h⟩
theorem JN{k:MK}{xs:List aa}{σ:List ab}{v:aa}{rd:List Nat}{up:List (Nat×ab)}(h:qo k xs σ=.ok v rd up):aD P GL k xs (hp σ) v rd up:=by
 cases k<;>simp only[qo,Qi,Pp,Xe,Zm,Qe,Xi,HE,ML,MS,Qa,Yj,YV,DZ,Xp,ZJ,YC,Qp,ZG,Ya,DG,Yg,tE,Xc,Yf,Qs,Jf,NH,YJ,tI,JW,DH] at h
 case mv=>split at h<;>cases h; exact IL _ _
 case pick=>split at h<;>cases h; exact TU _ _ _ _
 case alloc z=>split at h<;>cases h; exact Wi _ _ _ (vE σ)
 case box=>
  split at h
  ·split at h
   ·rename_i hc; cases h; exact T1 _ _ hc _ _ (vE σ)
   ·cases h
  ·cases h
 case build z ps=>
  split at h
  ·rename_i hf; cases h; exact Ve _ _ _ _ hf _
  ·cases h
 case kM sz n z ps=>
  split at h
  ·rename_i hf;split at h
   ·rename_i hc; cases h; exact Tt _ _ _ _ _ _ _ hf hc _ _ (vE σ)
   ·cases h
  ·cases h
 case jS sz=>split at h<;>cases h; exact TJ _ _
 case load agg n=>
  split at h
  ·split at h
   ·rename_i hb;split at h
    ·rename_i hv; cases h; exact VU _ _ _ _ _ _ _ (G9 hb) hv
    ·cases h
   ·cases h
  ·split at h
   ·rename_i hv; cases h; exact UO _ _ _ _ _ _ hv
   ·cases h
  ·cases h
 case store n=>
  split at h
  ·split at h
   ·rename_i hb;split at h
    ·rename_i hc
     replace h:=Qm h; obtain⟨W0,h⟩:=h
     split at h
     ·rename_i hs; cases h; exact Vg _ _ _ _ _ _ _ _ (G9 hb) hc (eZ W0) hs
     ·cases h
    ·cases h
   ·cases h
  ·cases h
 case nilCheck=>
  split at h<;>cases h
  ·exact ZO _ (.inl ⟨_,_,rfl⟩) _
  ·exact ZO _ (.inr (.inl ⟨_,_,_,rfl⟩)) _
  ·exact ZO _ (.inr (.inr (.inl ⟨_,_,rfl⟩))) _
  ·exact ZO _ (.inr (.inr (.inr (.inl ⟨_,_,_,rfl⟩)))) _
  ·exact ZO _ (.inr (.inr (.inr (.inr ⟨_,_,rfl⟩)))) _
 case bin op ib=>
  split at h
  ·rename_i k a k' b;split at h
   ·rename_i hv; cases h;cases hk:gK k k'<;>rw[hk] at hv
    ·cases hv
    ·have:=Q4 hk;subst this;exact TR _ _ _ _ _ _ hv _
   ·split at h
    ·rename_i hv; cases h; exact Sz _ _ _ _ _ _ _ hv _
    ·cases h
  ·split at h<;>cases h
   ·exact Ob _ _ _ _ false rfl _
   ·exact Ob _ _ _ _ true rfl _
  ·replace h:=Qm h; obtain⟨hk,h⟩:=h
   subst hk;split at h<;>cases h
   ·exact O5 _ _ _ false rfl _
   ·exact O5 _ _ _ true rfl _
  ·cases h
 case mR c neq left=>
  split at h
  ·split at h
   ·rename_i hb; cases h; exact Wj _ _ _ _ _ _ hb _
   ·cases h
  ·cases h
 case yq neq ls=>
  split at h
  ·split at h
   ·rename_i hb; cases h; exact SK _ _ _ _ _ hb _
   ·cases h
  ·cases h
 case un op=>
  split at h
  ·split at h<;>cases h; exact R9 _ _
  ·split at h<;>cases h
   ·exact Tv _ _ _
   ·exact VM _ _ _
  ·cases h
 case conv k=>split at h<;>cases h; exact U0 _ _ _ _
 case gj t=>split at h<;>cases h; exact UT _ _ _
 case iL fn n=>
  split at h
  ·rename_i ht;cases h;obtain⟨t1,t2,t3⟩:=IB ht;rename_i a;have hx:xs=a++fm n xs:=by
    rw[Hi];have:a=xs.take n:=by
     apply List.ext_getElem?;intro i;by_cases hi:i<n
     ·rw[t3 i hi,List.getElem?_take_of_lt hi]
     ·rw[List.getElem?_eq_none (by omega),List.getElem?_eq_none (by simp; omega)]
    rw[this,List.take_append_drop]
   have:=R8 (P:=P) (GL:=GL) fn n a (fm n xs) t1 (hp σ)
   rwa [←hx] at this
  ·cases h
 case makeMap=>split at h<;>cases h; exact V0 _ _ (vE σ)
 case fieldAddr off=>
  split at h<;>cases h
  ·exact Y6 _ _ _ (.inl ⟨_,_,rfl,rfl⟩) _
  ·exact Y6 _ _ _ (.inr (.inl ⟨_,_,_,rfl,rfl⟩)) _
  ·exact Y6 _ _ _ (.inr (.inr ⟨_,_,rfl,rfl⟩)) _
 case field agg off n=>
  split at h
  ·split at h
   ·rename_i hv; cases h; exact Vf _ _ _ _ _ hv _
   ·cases h
  ·cases h
 case eS len k_=>
  split at h
  ·replace h:=Qm h; obtain⟨hb,h⟩:=h
   cases h; exact Jt _ _ _ _ _ _ (fQ hb) (.inl ⟨_,_,rfl,rfl⟩) _
  ·replace h:=Qm h; obtain⟨hb,h⟩:=h
   cases h; exact Jt _ _ _ _ _ _ (fQ hb) (.inr (.inl ⟨_,_,_,rfl,rfl⟩)) _
  ·replace h:=Qm h; obtain⟨hb,h⟩:=h
   cases h; exact Jt _ _ _ _ _ _ (fQ hb) (.inr (.inr ⟨_,_,rfl,rfl⟩)) _
  ·cases h
 case qi agg len k_=>
  split at h
  ·replace h:=Qm h; obtain⟨hb,h⟩:=h
   split at h
   ·rename_i hv; cases h; exact TT _ _ _ _ _ _ _ (fQ hb) hv _
   ·cases h
  ·cases h
 case extract i=>
  split at h
  ·split at h
   ·rename_i hv; cases h; rw[QU] at hv; exact Sq _ _ _ hv _
   ·cases h
  ·cases h
 case ql=>
  split at h<;>cases h
  ·exact G' _ _ (.inl ⟨rfl,rfl⟩) _
  ·exact G' _ _ (.inr (.inl ⟨rfl,rfl⟩)) _
  ·exact G' _ _ (.inr (.inr (.inl ⟨_,_,_,_,rfl,rfl⟩))) _
  ·exact G' _ _ (.inr (.inr (.inr ⟨_,_,_,_,rfl,rfl⟩))) _
 case iK=>split at h<;>cases h; exact VK _ _
 case qk n=>split at h<;>cases h; exact SA _ _ _
 case kR=>
  split at h
  ·cases h; exact UN _
  ·split at h
   ·rename_i hb; cases h; exact TF _ _ _ (GS hb)
   ·cases h
  ·cases h; exact Si _ _
  ·cases h
 case min2=>split at h<;>cases h; exact U1 _ _ _ _ _
 case max2=>split at h<;>cases h; exact V6 _ _ _ _ _
 case range=>split at h<;>cases h; exact Wk _ _ _ (vE σ)
 case d_ t ok z=>
  split at h
  ·rename_i u v0;cases hb:Nat.beq u t with
   |true=>
    rw[hb] at h;have:=eZ hb;subst this;cases h; exact(Iw _ _ _ _ 0 _).1
   |false=>
    rw[hb] at h
    replace h:=Qm h; obtain⟨de,h⟩:=h
    subst de;cases h;exact(Iw _ true _ _ _ _).2.1 (λe=>by rw[e,Nat.beq_refl] at hb; cases hb)
  ·replace h:=Qm h; obtain⟨de,h⟩:=h
   subst de;cases h;exact(Iw _ true _ .aI 0 _).2.2
  ·cases h
 all_goals cases h
end
abbrev Cons:=List (List (Bool×Bool)×(Bool×Bool))
inductive Io where
 |done (ρ:Frame) (σ:List ab) (lg:Log) (c:Cons)
 |stop (rest:List aO) (ρ:Frame) (σ:List ab) (lg:Log) (c:Cons)
def zd(P:Program)(GL:aA)(step:MK→List aa→List ab→az):Prop:=∀ {k:MK} {xs:List aa} {σ:List ab} {v:aa} {rd:List Nat} {up:List (Nat×ab)},step k xs σ=.ok v rd up→aD P GL k xs (hp σ) v rd up
end Go.Ah
end
section
namespace Go.Ah
inductive cW where
 |skip
 |region (id:Nat) (ms:List aO) (draw:Option (List (List Nat)))
 |seq (a b:cW)
 |cond (c:tD) (a b:cW)
 |block (id:Nat) (a:cW)
 |loop (a:cW)
 |exit (id:Nat)
 |scope (a:cW)
 |label (l:Nat)
 |ret
 deriving Inhabited
def X2(lg:Log)(i:Nat):List Nat×List Nat:=(lg[i]?).getD ([],[])
def fR:List Nat→List Nat→Bool
 |[],_=>true
 |x::a,b=>!(b.contains x)&&fR a b
def QC(hd:List (List Nat))(i:Nat):List Nat:=(hd[i]?).getD []
def fF(p q:List Nat×List Nat):Bool:=fR p.1 q.2&&(fR p.2 q.1&&fR p.2 q.2)
def QB(h:List Nat)(q:List Nat×List Nat):Nat→Log→Bool
 |_,[]=>true
 |i,p::r=>(h.contains i||fF p q)&&QB h q (i+1) r
def Zh(hd:List (List Nat))(lg:Log):Bool:=
 (List.range lg.length).all λj=>QB (QC hd j) (X2 lg j) 0 (lg.take j)
def waits(o:Oper):List Nat:=(o.after.toList.filter (Region.binds .any)).map (·.on)
def kD(m:aO):List Nat:=(m.xs.filterMap fun | .t n=>some n | .c _=>none)++(match m.guard with|some (s,_)=>[s]|none=>[])
def fY(m:aO):List Nat:=m.dst.toList
def DT(ops:List Oper)(ms:List aO)(hd:List (List Nat)):Bool:=
 let idx:=List.range ms.length
 Nat.beq ops.length ms.length&&Nat.beq hd.length ms.length &&
 (idx.all λj=>(waits (ops.getD j default)).all λi=>Nat.blt i j) &&
 (idx.all λj=>(QC hd j).all λi=>Nat.blt i j&&((waits (ops.getD j default)).contains i||(waits (ops.getD j default)).any λk=>(QC hd k).contains i)) &&
 (idx.all λj=>(List.range j).all λi=>
  let a:=ms.getD i default
  let b:=ms.getD j default
  (QC hd j).contains i || (fR (fY a) (kD b) && fR (fY a) (fY b) && fR (kD a) (fY b)))
inductive cC (P:Program) (GL:aA) (n:Nat):Code→cW→Prop
 |skip:cC P GL n .skip .skip
 |region (id:Nat) (ops:Array Oper) (ms:List aO):ops.size=ms.length→(∀(j:Nat) (m:aO),ms[j]?=some m→∃o,ops[j]?=some o∧gQ P GL n ops o m)→cC P GL n (.region id ops false) (.region id ms none)
 |draw (id:Nat) (ops:Array Oper) (ms:List aO) (hd:List (List Nat)):ops.size=ms.length→(∀(j:Nat) (m:aO),ms[j]?=some m→∃o,ops[j]?=some o∧gQ P GL n ops o m)→DT ops.toList ms hd=true →
   cC P GL n (.region id ops true) (.region id ms (some hd))
 |seq (a b:Code) (x y:cW):cC P GL n a x→cC P GL n b y→cC P GL n (.seq a b) (.seq x y)
 |cond (c:Operand) (d:tD) (a b:Code) (x y:cW):jR GL c d→cC P GL n a x→cC P GL n b y→cC P GL n (.cond c a b) (.cond d x y)
 |block (id:Nat) (a:Code) (x:cW):cC P GL n a x→cC P GL n (.block id a) (.block id x)
 |loop (a:Code) (x:cW):cC P GL n a x→cC P GL n (.loop a) (.loop x)
 |exit (id:Nat):cC P GL n (.exit id) (.exit id)
 |scope (a:Code) (x:cW):cC P GL n a x→cC P GL n (.scope a) (.scope x)
 |label (l:Nat):cC P GL n (.label l) (.label l)
 |ret:cC P GL n .ret .ret
inductive Dt where
 |normal
 |exit (id:Nat)
 |ret
abbrev dK:=Dt→Frame→List ab→Prop
def mz(GL:aA)(w0:World)(L:Ln)(n:Nat)(g:Gm)(Q:dK):Exit→Act→World→Prop
 |.normal,a,w=>∃g' ρ σ,g.Le g'∧a_ GL w0 L g' (hp σ) w∧df n g' ρ a∧Q .normal ρ σ
 |.exit id,a,w=>∃g' ρ σ,g.Le g'∧a_ GL w0 L g' (hp σ) w∧df n g' ρ a∧Q (.exit id) ρ σ
 |.ret,a,w=>∃g' ρ σ,g.Le g'∧a_ GL w0 L g' (hp σ) w∧df n g' ρ a∧Q .ret ρ σ
 |_,_,_=>False
theorem mz.mono{GL:aA}{w0:World}{L:Ln}{n:Nat}{g g':Gm}(hg:g.Le g'){Q Q':dK}(h:∀e ρ σ,Q e ρ σ→Q' e ρ σ):∀(e:Exit) (a:Act) (w:World),mz GL w0 L n g' Q e a w→mz GL w0 L n g Q' e a w:=by
 intro e a w hl;cases e<;>first
  |exact hl.elim
  |(obtain⟨g2,ρ,σ,h1,h2,h3,h4⟩:=hl; exact⟨g2,ρ,σ,hg.trans h1,h2,h3,h _ _ _ h4⟩)
def gm(P:Program)(GL:aA)(n:Nat)(m:cW)(ρ:Frame)(σ:List ab)(Q:dK):Prop:=
 ∀c,cC P GL n c m→∀(w0:World) (L:Ln) (g:Gm) (a:Act) (w:World),a_ GL w0 L g (hp σ) w→df n g ρ a→c.wp P (mz GL w0 L n g Q) a w
def dK.andThen(k:Frame→List ab→Prop)(Q:dK):dK
 |.normal,ρ,σ=>k ρ σ
 |e,ρ,σ=>Q e ρ σ
def dK.inBlock(id:Nat)(Q:dK):dK
 |.exit Ll,ρ,σ=>if Ll=id then Q .normal ρ σ else Q (.exit Ll) ρ σ
 |e,ρ,σ=>Q e ρ σ
section
variable {P:Program} {GL:aA} {n:Nat} {ρ:Frame} {σ:List ab} {Q:dK}
theorem gm.mono{m:cW}{Q':dK}(h:gm P GL n m ρ σ Q)(hq:∀e ρ σ,Q e ρ σ→Q' e ρ σ):gm P GL n m ρ σ Q':=
 λc hc w0 L g a w r d=>wp_mono (h c hc w0 L g a w r d) (mz.mono (Gm.Le.refl g) hq)
theorem Uc(h:Q .normal ρ σ):gm P GL n .skip ρ σ Q:=by
 intro c hc w0 L g a w r d;cases hc with
 |skip=>exact wp_skip ⟨g,ρ,σ,Gm.Le.refl g,r,d,h⟩
theorem TA{l:Nat}(h:Q .normal ρ σ):gm P GL n (.label l) ρ σ Q:=by
 intro c hc w0 L g a w r d;cases hc with
 |label=>exact wp_label ⟨g,ρ,σ,Gm.Le.refl g,r,d,h⟩
theorem Vk{id:Nat}(h:Q (.exit id) ρ σ):gm P GL n (.exit id) ρ σ Q:=by
 intro c hc w0 L g a w r d;cases hc with
 |exit=>exact wp_exit ⟨g,ρ,σ,Gm.Le.refl g,r,d,h⟩
theorem V8(h:Q .ret ρ σ):gm P GL n .ret ρ σ Q:=by
 intro c hc w0 L g a w r d;cases hc with
 |ret=>exact wp_ret ⟨g,ρ,σ,Gm.Le.refl g,r,d,h⟩
theorem U3{x y:cW}(h:gm P GL n x ρ σ (dK.andThen (λρ σ=>gm P GL n y ρ σ Q) Q)):gm P GL n (.seq x y) ρ σ Q:=by
 intro c hc w0 L g a w r d;cases hc with
 |seq c1 c2 _ _ h1 h2=>
  refine wp_seq (wp_mono (h c1 h1 w0 L g a w r d) (λe a' w' hl=>?_));cases e with
  |normal=>
   obtain⟨g',ρ',σ',k1,k2,k3,k4⟩:=hl;exact wp_mono (k4 c2 h2 w0 L g' a' w' k2 k3) (mz.mono k1 (λ_ _ _ q=>q))
  |_=>exact hl
theorem Wo{o:tD}{b:Bool}{x y:cW}(ho:ev ρ o=.bool b)(ht:b=true→gm P GL n x ρ σ Q)(hf:b=false→gm P GL n y ρ σ Q):gm P GL n (.cond o x y) ρ σ Q:=by
 intro c hc w0 L g a w r d;cases hc with
 |cond oc _ c1 c2 _ _ qy h1 h2=>
  have hd:=df.RG r d qy;rw[ho] at hd;exact wp_cond_split (ZA hd) (λe=>ht e c1 h1 w0 L g a w r d) (λe=>hf e c2 h2 w0 L g a w r d)
theorem UI{id:Nat}{x:cW}(h:gm P GL n x ρ σ (dK.inBlock id Q)):gm P GL n (.block id x) ρ σ Q:=by
 intro c hc w0 L g a w r d;cases hc with
 |block _ c1 _ h1=>
  refine wp_block (wp_mono (h c1 h1 w0 L g a w r d) (λe a' w' hl=>?_));cases e with
  |exit Ll=>
   obtain⟨g',ρ',σ',k1,k2,k3,k4⟩:=hl;simp only[Exit.inBlock];simp only[dK.inBlock] at k4;split
   ·rename_i e; rw[if_pos e] at k4; exact⟨g',ρ',σ',k1,k2,k3,k4⟩
   ·rename_i e; rw[if_neg e] at k4; exact⟨g',ρ',σ',k1,k2,k3,k4⟩
  |_=>exact hl
theorem Sa{x:cW}(h:gm P GL n x ρ σ Q):gm P GL n (.scope x) ρ σ Q:=by
 intro c hc w0 L g a w r d;cases hc with
 |scope c1 _ h1=>
  refine wp_scope_straight (wp_mono (h c1 h1 w0 L g a w r d) (λe a' w' hl=>?_));cases e with
  |goto l=>exact hl.elim
  |_=>exact hl
theorem Uz{id:Nat}{ms:List aO}(h:je false P GL ms ρ σ [] (λρ' σ' _=>Q .normal ρ' σ')):gm P GL n (.region id ms none) ρ σ Q:=by
 intro c hc w0 L g a w r d;cases hc with
 |region _ ops _ ei de=>
  refine wp_region ?_;rw[List.range_eq_range',ei];refine M_ (n:=n) (w0:=w0) (L:=L) _ (λρ' σ' _=>Q .normal ρ' σ') ms 0 ρ σ [] g a w (λj m e=>by simpa using de j m e) h r d (λa' w' ⟨g',ρ',σ',jF,k1,k2,k3,k4⟩=>⟨g',ρ',σ',k1,k2,k3,k4⟩)
def tA(ρ ρ':Frame):Prop:=∀t,bn ρ t=bn ρ' t∨bn ρ t=.aI
theorem df.jl{g:Gm}{ρ ρ':Frame}{a:Act}(h:df n g ρ' a)(hl:tA ρ ρ'):df n g ρ a:=
 ⟨h.size,λt=>by
  rcases hl t with e|e
  ·rw[e]; exact h.slot t
  ·rw[e]; exact .aI _ _,h.defers⟩
theorem SY{m:cW}{ρ':Frame}(hl:tA ρ' ρ)(h:gm P GL n m ρ' σ Q):gm P GL n m ρ σ Q:=
 λc hc w0 L g a w r d=>h c hc w0 L g a w r (d.jl hl)
end
end Go.Ah
end
section
namespace Go.Ah
inductive RV where
 |t (n:Nat)
 |c (s:Nat) (agg:Bool) (n:Nat)
 deriving Inhabited
structure s_ where
 np:Nat
 n:Nat
 body:cW
 fh:List RV
 deriving Inhabited
inductive sF (P:Program):ResultVar→RV→Prop
 |tmp (t:Nat):sF P (.tmp t) (.t t)
 |cell (s:Nat) (t:TypeId) (agg:Bool) (n:Nat):ea P t=some agg→size? P t=some n→sF P (.cell s t) (.c s agg n)
structure kK (P:Program) (GL:aA) (f:FuncId) (F:s_):Prop where
 ok:∃fn c,P.funcs[f]?=some fn∧fn.body=some c∧fn.ntmps=F.n∧cC P GL F.n c F.body∧lp (sF P) fn.results.toList F.fh
 np:F.np≤F.n
def rz(ρ:Frame)(σ:List ab):RV→Option aa
 |.t n=>some (bn ρ n)
 |.c s agg n=>match bn ρ s with
  |.an b j=>match ah σ b with
   |.box row=>aF agg j n row
   |_=>none
  |_=>none
def nG(ρ:Frame)(σ:List ab):List RV→Option (List aa)
 |[]=>some []
 |r::rs=>match rz ρ σ r,nG ρ σ rs with
  |some v,some vs=>some (v::vs)
  |_,_=>none
def u3:List aa→aa
 |[v]=>v
 |vs=>.aG vs
def fW(rs:List RV)(ρ:Frame)(σ:List ab):Option aa:=
 match nG ρ σ rs with
 |some vs=>some (u3 vs)
 |none=>none
def Q8:Nat→List aa→Frame
 |_,[]=>[]
 |i,x::xs=>(i,x)::Q8 (i+1) xs
def dP(xs:List aa):Frame:=Q8 0 xs
theorem M7:∀(xs:List aa) (i t:Nat),bn (Q8 i xs) t=if i≤t then (xs[t-i]?).getD .aI else .aI
 |[],i,t=>by simp[Q8,bn]
 |x::xs,i,t=>by
  simp only[Q8,XG];by_cases h:t=i
  ·subst h; simp
  ·rw[if_neg h,M7 xs (i+1) t];by_cases h2:i≤t
   ·rw[if_pos h2,if_pos (by omega),show t-i=(t-(i+1))+1 by omega]; simp
   ·rw[if_neg h2,if_neg (by omega)]
section
variable {P:Program} {GL:aA}
theorem Z2{g:Gm}{xs:List aa}{vs:List Value}(d:bZ g xs vs){n:Nat}(hn:xs.length≤n):df n g (dP xs) { tmps:=vs.toArray++Array.replicate (n-vs.toArray.size) undef,defers:=[] }:=by
 have hl:=d.length;refine⟨by simp; omega,λt=>?_,rfl⟩;unfold dP;rw[M7];rw[if_pos (Nat.zero_le t),Nat.sub_zero];by_cases ht:t<xs.length
 ·have hx:xs[t]?=some xs[t]:=by simp[ht]
  have hv:vs[t]?=some (vs[t]'(by omega)):=by simp[show t<vs.length by omega]
  rw[hx];have:(vs.toArray++Array.replicate (n-vs.toArray.size) undef).getD t undef=vs[t]'(by omega):=by
   rw[Array.getD_eq_getD_getElem?,Array.getElem?_append_left (by simpa using (show t<vs.length by omega))];simp[show t<vs.length by omega]
  rw[this];exact d.get t _ _ hx hv
 ·rw[List.getElem?_eq_none (by omega)];exact .aI _ _
def DV(a:Act)(r:ResultVar):Sem Value:=match r with
 |.tmp t=>pure (a.tmps.getD t undef)
 |.cell s t=>do loadVar t (←asAddr (a.tmps.getD s undef))
theorem MQ{n:Nat}{w0:World}{L:Ln}{g:Gm}{ρ:Frame}{σ:List ab}{a:Act}{w:World}(r:a_ GL w0 L g (hp σ) w)(d:df n g ρ a):∀ {rs:List ResultVar} {qs:List RV} {vs:List aa},lp (sF P) rs qs→nG ρ σ qs=some vs →
  ∃us:List Value,(rs.mapM (DV a)).run P w=.ok us w∧bZ g vs us
 |[],[],vs,_,h=>by simp only[nG] at h; cases h; exact⟨[],rfl,trivial⟩
 |rv::rs,q::qs,vs,⟨h1,h2⟩,h=>by
  simp only[nG] at h;cases e1:rz ρ σ q with
  |none=>simp[e1] at h
  |some v=>
   cases e2:nG ρ σ qs with
   |none=>simp[e1,e2] at h
   |some GH=>
    simp only[e1,e2] at h; cases h;obtain⟨us,k1,k2⟩:=MQ r d h2 e2;cases h1 with
    |tmp t=>
     simp only[rz] at e1; cases e1;refine⟨a.tmps.getD t undef::us,?_,d.slot t,k2⟩;simp only[List.mapM_cons,DV,Sem.run_bind,Sem.run_pure,Result.andThen_ok,k1]
    |cell s t agg m ha hm=>
     simp only[rz] at e1;have hs:=d.slot s;split at e1
     ·rename_i b j hb;rw[hb] at hs;split at e1
      ·rename_i row cI;have bq:=G9 cI;generalize hu:a.tmps.getD s undef=u0 at hs;cases hs with
       |an _ _ _ cb ec=>
       cases bc:cb.cS with
       |true=>have:=r.aN b _ cb bq rfl ec bc; cases this
       |false=>
       obtain⟨_,_,o',dV,arr,T,rfl,ei,bY⟩:=r.own b _ cb bq rfl ec bc;obtain⟨p1,p2⟩:=D2 (g:=g) e1 (by omega) bY;obtain⟨l1,l2⟩:=I1 (P:=P) ha hm (T:=T) (fr:=(0,0)) (XS dV) j;have:∃u,(loadVar t ⟨cb.blk,j,none⟩).run P w=.ok u w∧g.den v u:=by
        cases agg with
        |true=>obtain⟨q1,q2⟩:=p1 rfl; exact⟨_,l1 rfl q1,q2⟩
        |false=>obtain⟨u,q1,q2⟩:=p2 rfl; exact⟨u,l2 rfl u q1,q2⟩
       obtain⟨u,q1,q2⟩:=this;refine⟨u::us,?_,q2,k2⟩;simp only[List.mapM_cons,DV,Sem.run_bind,hu,asAddr,Sem.run_pure,Result.andThen_ok,q1,k1]
      ·cases e1
     ·cases e1
theorem Dy{n:Nat}{w0:World}{L:Ln}{g:Gm}{ρ:Frame}{σ:List ab}{a:Act}{w:World}(r:a_ GL w0 L g (hp σ) w)(d:df n g ρ a){fn:Func}{qs:List RV}{v:aa}(h:lp (sF P) fn.results.toList qs)(hv:fW qs ρ σ=some v) :
  ∃u,(results fn a.tmps).run P w=.ok u w∧g.den v u:=by
 unfold fW at hv;cases hl:nG ρ σ qs with
 |none=>simp[hl] at hv
 |some vs=>
  simp only[hl] at hv; cases hv;obtain⟨us,k1,k2⟩:=MQ (P:=P) r d h hl;have hm:(fn.results.mapM (DV a)).run P w=.ok us.toArray w:=by
   rw[Array.mapM_eq_mapM_toList,Sem.run_map,k1]; rfl
  have hlen:=k2.length;refine⟨if h:us.toArray.size=1 then us.toArray[0] else .tuple us.toArray,?_,?_⟩
  ·unfold results;rw[Sem.run_bind];refine Eq.trans (congrArg (λr=>Result.andThen r _) (Eq.trans (?_:_=(fn.results.mapM (DV a)).run P w) hm)) rfl
   congr 2
  ·cases vs with
   |nil=>
    have:us=[]:=List.length_eq_zero_iff.1 (by simpa using hlen.symm);subst this;exact .aG _ _ _ rfl (by simp)
   |cons x xs=>
    cases us with
    |nil=>simp at hlen
    |cons u us=>
     cases xs with
     |nil=>
      have:us=[]:=List.length_eq_zero_iff.1 (by simpa using hlen.symm);subst this;exact k2.1
     |cons y ys=>
      rw[dif_neg (by simp only[List.length_cons] at hlen; simp only[List.size_toArray,List.length_cons]; omega)];exact .aG _ _ _ (by simpa using hlen.symm) (λi z z' e1 e2=>k2.get i z z' e1 (by simpa using e2))
theorem N2{f:FuncId}{F:s_}(ok:kK P GL f F){xs:List aa}(hn:xs.length=F.np){v:aa}(hv:v.ro=true)
 (h:gm P GL F.n F.body (dP xs) [] (λe ρ σ=>(e=.normal∨e=.ret)∧fW F.fh ρ σ=some v)):cm P GL f xs v:=by
 intro w M vs hM hg hx;obtain⟨fn,c,h1,h2,h3,h4,h5⟩:=ok.ok;have r0:=a_.start (GL:=GL) w M hM hg;have hh:hp []=pj:=by funext b; simp[hp,pj]
 rw[←hh] at r0;have d0:=Z2 hx (n:=F.n) (by rw[hn]; exact ok.np);refine calls_of_wp h1 h2 ?_;rw[h3];refine wp_mono (h c h4 w ⟨[],M⟩ _ _ w r0 d0) (λe a' w' hl=>?_);have fin:∀g' ρ σ,(⟨M,aV⟩:Gm).Le g'→a_ GL w ⟨[],M⟩ g' (hp σ) w'→df F.n g' ρ a'→fW F.fh ρ σ=some v→∃u,(results fn a'.tmps).run P w'=.ok u w'∧(∃u',Ending.returned u=.returned u'∧fX ⟨[],M⟩ w w'∧∃M',fE M M'∧(∀b o,M' b=some o→w'.heap[b]?=some o)∧(∀b o,M' b=some o→M b=some o∨w.heap.size≤b)∧Den M' aV v u'):=by
  intro g' ρ σ hle hr hd oZ;obtain⟨u,k1,k2⟩:=Dy hr hd h5 oZ;exact⟨u,k1,u,rfl,hr.keeps,g'.M,hle.m,hr.aJ,λb o e=>by
   rcases hr.src b o e with q|q|q
   ·exact .inl q
   ·exact .inr q
   ·simp at q,Den.ro k2 hv _⟩
 cases e with
 |normal=>obtain⟨g',ρ,σ,k1,k2,k3,k4⟩:=hl; exact⟨k3.defers,fin g' ρ σ k1 k2 k3 k4.2⟩
 |ret=>obtain⟨g',ρ,σ,k1,k2,k3,k4⟩:=hl; exact⟨k3.defers,fin g' ρ σ k1 k2 k3 k4.2⟩
 |exit id=>obtain⟨g',ρ,σ,k1,k2,k3,k4⟩:=hl; rcases k4.1 with q|q<;>cases q
 |_=>exact hl.elim
theorem X9{f:FuncId}{F:s_}(ok:kK P GL f F){xs:List aa}(hn:xs.length=F.np){σ:List ab}{R:aa→List ab→Prop}
 (h:gm P GL F.n F.body (dP xs) σ (λe ρ σ'=>(e=.normal∨e=.ret)∧∃v,fW F.fh ρ σ'=some v∧R v σ')) :
  ∀(w0:World) (L:Ln) (g:Gm) (w:World) (vs:List Value),a_ GL w0 L g (hp σ) w→bZ g xs vs→Calls P f vs.toArray w λe yY=>∃u,e=.returned u∧∃g' x σ',R x σ'∧g.Le g'∧a_ GL w0 L g' (hp σ') yY∧g'.den x u:=by
 intro w0 L g w vs r hx;obtain⟨fn,c,h1,h2,h3,h4,h5⟩:=ok.ok;have d0:=Z2 hx (n:=F.n) (by rw[hn]; exact ok.np);refine calls_of_wp h1 h2 ?_;rw[h3];refine wp_mono (h c h4 w0 L g _ w r d0) (λe a' w' hl=>?_);have fin:∀g' ρ σ',g.Le g'→a_ GL w0 L g' (hp σ') w'→df F.n g' ρ a'→(∃v,fW F.fh ρ σ'=some v∧R v σ')→∃u,(results fn a'.tmps).run P w'=.ok u w'∧(∃u',Ending.returned u=.returned u'∧∃g' x σ',R x σ'∧g.Le g'∧a_ GL w0 L g' (hp σ') w'∧g'.den x u'):=by
  rintro g' ρ σ' hle hr hd ⟨v,oZ,hR⟩;obtain⟨u,k1,k2⟩:=Dy hr hd h5 oZ;exact⟨u,k1,u,rfl,g',v,σ',hR,hle,hr,k2⟩
 cases e with
 |normal=>obtain⟨g',ρ,σ',k1,k2,k3,k4⟩:=hl; exact⟨k3.defers,fin g' ρ σ' k1 k2 k3 k4.2⟩
 |ret=>obtain⟨g',ρ,σ',k1,k2,k3,k4⟩:=hl; exact⟨k3.defers,fin g' ρ σ' k1 k2 k3 k4.2⟩
 |exit id=>obtain⟨g',ρ,σ',k1,k2,k3,k4⟩:=hl; rcases k4.1 with q|q<;>cases q
 |_=>exact hl.elim
end
end Go.Ah
end
section
namespace Go.Ah
section
variable {P:Program} {GL:aA}
theorem a_.kC{w0:World}{L:Ln}{g:Gm}{h:Hp}{w:World}(r:a_ GL w0 L g h w){b sz:Nat}{rs:List (List aa)}(hb:h b=some (.rows sz rs))(k:Nat):a_ GL w0 L g (dH h b (.rows sz (rs.take k))) w:=by
 have back:∀n x,dH h b (.rows sz (rs.take k)) n=some x→x.live=true→∃y,h n=some y∧y.live=true:=by
  intro n x en eJ;by_cases hn:n=b
  ·subst hn; exact⟨_,hb,rfl⟩
  ·rw[Xq _ _ hn] at en; exact⟨x,en,eJ⟩
 exact {
  keeps:=r.keeps
  aJ:=r.aJ
  src:=r.src
  bz:=r.bz
  dc:=λn en=>by
   by_cases hn:n=b
   ·subst hn; rw[Xs] at en; cases en
   ·rw[Xq _ _ hn] at en; exact r.dc n en
  ig:=λn x en=>by
   by_cases hn:n=b
   ·subst hn; exact r.ig n _ hb
   ·rw[Xq _ _ hn] at en; exact r.ig n x en
  own:=λn x cb en eJ ec hv=>by
   by_cases hn:n=b
   ·subst hn; rw[Xs] at en; cases en;obtain⟨k1,k2,o,k3,k4,arr,T,k5,k6,k7,k8,k9⟩:=r.own n _ cb hb rfl ec hv;refine⟨k1,k2,o,k3,k4,arr,T,k5,k6,?_,λi row e=>?_,λi row j x v e1 e2 e3=>?_⟩
    ·refine Nat.le_trans (Nat.mul_le_mul_right _ ?_) k7;simp; omega
    ·rw[List.getElem?_take] at e;split at e
     ·exact k8 i row e
     ·cases e
    ·rw[List.getElem?_take] at e1;split at e1
     ·exact k9 i row j x v e1 e2 e3
     ·cases e1
   ·rw[Xq _ _ hn] at en; exact r.own n x cb en eJ ec hv
  aN:=λn x cb en eJ ec hv=>by
   by_cases hn:n=b
   ·subst hn; rw[Xs] at en; cases en;have:=r.aN n _ cb hb rfl ec hv;cases this;simp
   ·rw[Xq _ _ hn] at en; exact r.aN n x cb en eJ ec hv
  inj:=λn n' x x' nK nw e1 e2 l1 l2 c1 c2 v1 v2 gu=>by
   obtain⟨y1,f1,g1⟩:=back n x e1 l1;obtain⟨y2,f2,g2⟩:=back n' x' e2 l2;exact r.inj n n' y1 y2 nK nw f1 f2 g1 g2 c1 c2 v1 v2 gu }
def over(p:Nat)(ys rs:List (List aa)):List (List aa):=rs.take p++ys++rs.drop (p+ys.length)
theorem Mv{p:Nat}{ys rs:List (List aa)}(hp:p+ys.length≤rs.length)(i:Nat):(over p ys rs)[i]?=if p≤i∧i<p+ys.length then ys[i-p]? else rs[i]?:=by
 unfold over;by_cases h1:i<p
 ·rw[List.append_assoc,List.getElem?_append_left (by simp; omega),List.getElem?_take_of_lt h1,if_neg (by omega)]
 ·by_cases h2:i<p+ys.length
  ·rw[List.append_assoc,List.getElem?_append_right (by simp; omega),List.getElem?_append_left (by simp; omega),if_pos (by omega)]
   congr 1; simp; omega
  ·rw[List.append_assoc,List.getElem?_append_right (by simp; omega),List.getElem?_append_right (by simp; omega),List.getElem?_drop,if_neg (by omega)]
   congr 1; simp; omega
theorem TI{p:Nat}{ys rs:List (List aa)}(hp:p+ys.length≤rs.length):(over p ys rs).length=rs.length:=by
 unfold over; simp; omega
theorem NY{g:Gm}{n:Nat}{ys:List (List aa)}{newv:Array Value}(kI:n≠0)(ra:kL g n ys newv)(qW:∀row∈ys,∀x∈row,aa.cell x=true):∀u∈newv.toList,u.oneCell'=true:=by
 intro u hu;obtain⟨q,hq⟩:=List.mem_iff_getElem?.1 hu;rw[Array.getElem?_toList] at hq;have Lc:q<ys.length*n:=by rw[←ra.1]; exact(Array.getElem?_eq_some_iff.1 hq).1
 have tp:0<n:=Nat.pos_of_ne_zero kI;have hi:q/n<ys.length:=(Nat.div_lt_iff_lt_mul tp).2 Lc;have qg:ys[q/n]?=some ys[q/n]:=by simp[hi]
 have Ff:=ra.2.1 _ _ qg;have hj:q%n<ys[q/n].length:=by rw[Ff]; exact Nat.mod_lt _ tp
 refine G7 (qW _ (List.getElem_mem hi) _ (List.getElem_mem hj)) (ra.2.2 (q/n) _ (q%n) _ u qg (by simp[hj]) ?_);rw[Nat.mul_comm,Nat.div_add_mod]; exact hq
theorem a_.qq{w0:World}{L:Ln}{g:Gm}{h:Hp}{w:World}(r:a_ GL w0 L g h w){b n:Nat}{rs ys:List (List aa)}{cb:CB}{newv:Array Value}(hb:h b=some (.rows n rs))(ec:g.c b=some cb)(hv:cb.cS=false){p:Nat}(hp:p+ys.length≤rs.length)
 (ra:kL g n ys newv)(oX:∀u∈newv.toList,u.oneCell'=true) :
  ∃w',(storeCells ⟨cb.blk,p*n,none⟩ newv.toList).run P w=.ok () w'∧a_ GL w0 L g (dH h b (.rows n (over p ys rs))) w':=by
 obtain⟨z1,arr,T,dV,hs,kp,cI,bY⟩:=r.dw hb ec hv;obtain⟨e_,s1,s2,s3⟩:=Z0 (P:=P) dV newv.toList oX (j:=p * n) (by
  intro _;rw[Array.length_toList (xs:=newv),ra.1,← Nat.add_mul,hs];exact Nat.le_trans (Nat.mul_le_mul_right n hp) kp)
 refine⟨_,s1,r.write hb rfl ec hv rfl (w':=w.setRow cb.blk e_) rfl rfl rfl (Hb w _ arr e_ T (0,0) dV) ⟨z1,e_,T,rfl,by rw[s2,hs],by rw[TI hp]; exact kp,λi row q=>?_,λi row j x0 u q1 q2 q3=>?_⟩⟩
 ·rw[Mv hp] at q;split at q
  ·exact ra.2.1 _ row q
  ·exact cI i row q
 ·rw[Mv hp] at q1;rw[s3,Array.length_toList (xs:=newv),ra.1] at q3;split at q1
  ·rename_i hi;have hj:j<n:=by rw[←ra.2.1 _ row q1]; exact(cJ q2).1
   have h5:p*n≤i*n:=Nat.mul_le_mul_right n hi.1;have h6:(i-p+1)*n≤ys.length*n:=Nat.mul_le_mul_right n (by omega);rw[Nat.succ_mul,Nat.sub_mul] at h6;rw[if_pos (by omega)] at q3;refine ra.2.2 _ row j x0 u q1 q2 ?_;rw[Array.getElem?_toList] at q3;rw[←q3,Nat.sub_mul]; congr 1; omega
  ·rename_i hi;have hj:j<n:=by rw[←cI i row q1]; exact(cJ q2).1
   refine bY i row j x0 u q1 q2 ?_;rw[if_neg] at q3
   ·exact q3
   ·rintro⟨k1,k2⟩;apply hi;by_cases hip:i<p
    ·have:(i+1)*n≤p*n:=Nat.mul_le_mul_right n hip;rw[Nat.succ_mul] at this; omega
    ·refine⟨by omega,?_⟩;by_cases tm:i<p+ys.length
     ·exact tm
     ·have:(p+ys.length)*n≤i*n:=Nat.mul_le_mul_right n (by omega);rw[Nat.add_mul] at this; omega
theorem O4{w0:World}{L:Ln}{g:Gm}{h:Hp}{w:World}(r:a_ GL w0 L g h w){b n off cap:Nat}{rs:List (List aa)}{cb:CB}(hb:h b=some (.rows n rs))(kI:n≠0)(ec:g.c b=some cb)(hv:cb.cS=false)(h2:(off+cap)*cb.sz=cb.Dq):rs.length≤off+cap:=by
 obtain⟨z1,arr,T,dV,hs,kp,_⟩:=r.dw hb ec hv;rw[z1] at h2;rw[←h2] at kp;exact Nat.le_of_mul_le_mul_right kp (Nat.pos_of_ne_zero kI)
theorem RM(n cd:Nat)(z:List aa)(y:aa)(b off len:Nat)(ex:Bool)(rs ys:List (List aa))(rd:List Nat)(h0:Hp)(hb:h0 b=some (.rows n rs))(yM:gC h0 n y ys rd)
 (qW:∀row∈ys,∀x∈row,aa.cell x=true)(cr:off+len+ys.length≤rs.length) :
  aD P GL (.append n cd z) [.sl b off len ex,y] h0 (.sl b off (len+ys.length) false) rd [(b,.rows n (over (off+len) ys rs))]:=by
 intro o os hc w0 L g h w a r hx cB dJ;have bq:h b=some (.rows n rs):=by rw[dJ (b,_) (List.mem_singleton.2 rfl)]; exact hb
 generalize ho:o.op=op at hc;cases hc with
 |append t t' e ox oy _ _ v _ ht FD ei sM hz pc dd nE kI=>
  obtain⟨d,hd,qe⟩:=FD;obtain⟨d1,d2,_⟩:=hx;generalize nz:a.eval ox=u1 at d1;generalize sS:a.eval oy=u2 at d2;obtain⟨p2,Eo,newv,e2,f2,ru,_⟩:=DI (P:=P) r yM cB d2;have iG:(Builtin.lenOf u2).run P w=.ok ys.length w:=by rw[e2]; rfl
  rw[O3];cases d1 with
  |mu _ _ _ cb p ec hv=>
   have Al:=(r.eX bq ec hv).2;subst Al;have sU:ys=[]:=by simpa using cr
   subst sU;have Fq:newv.toList=[]:=by have:=ru.1; simp at this; simp[this]
   have bS:(Builtin.append_ #[t,t'] o.type #[.slice p 0 0,u2]).run P w=.ok (.slice p 0 0) w:=by
    obtain⟨k1,k2⟩:=(XR ht hd qe ei sM hz nE (base:=p) (len:=0) (cap:=0) (newv:=newv) iG o.type).1 (by simp) f2;cases p with
    |none=>exact k1 rfl
    |some ad=>exact k2 ad w rfl (by rw[Fq]; rfl)
   rw[YR ho nz sS bS];refine⟨g,Gm.Le.refl _,?_,.mu _ _ _ cb _ ec hv⟩;have:=r.kC bq 0;exact this
  |sl _ _ _ _ _ cb cap ec hv h1 h2 h3=>
   have wZ:=O4 r bq kI ec hv h2;have z1:=(r.dw bq ec hv).1;obtain⟨w',s1,s2⟩:=r.qq (P:=P) bq ec hv cr ru (NY kI ru qW);have bS:=((XR ht hd qe ei sM hz nE (base:=some ⟨cb.blk,off * cb.sz,none⟩) (len:=len) (cap:=cap) (newv:=newv) iG o.type).1 (by omega) f2).2 ⟨cb.blk,off * cb.sz,none⟩ w' rfl (by
    rw[YO,z1,← Nat.add_mul]; exact s1)
   rw[YR ho nz sS bS];exact⟨g,Gm.Le.refl _,s2,.sl _ _ _ _ _ cb cap ec hv (by omega) h2 (by simp)⟩
theorem Vx(n cd:Nat)(z:List aa)(y:aa)(b len:Nat)(ex:Bool)(rs ys:List (List aa))(rd:List Nat)(h0:Hp)(nb:Nat)(hn:h0 nb=none)(hb:h0 b=some (.rows n rs))(hle:len≤rs.length)(yM:gC h0 n y ys rd)(Ld:b∉rd)
 (qW:∀row∈ys,∀x∈row,aa.cell x=true)(cr:(2*(len+ys.length)+192)*cd≤2 ^ 48) :
  aD P GL (.append n cd z) [.sl b 0 len ex,y] h0 (.sl nb 0 (len+ys.length) false) rd [(b,.dead),(nb,.rows n (rs.take len++ys))]:=by
 intro o os hc w0 L g h w a r hx cB dJ;have bq:h b=some (.rows n rs):=by rw[dJ (b,.dead) (by simp)]; exact hb
 have Ac:h nb=none:=by rw[dJ (nb,.rows n (rs.take len++ys)) (by simp)]; exact hn
 have dL:nb≠b:=by rintro rfl; rw[bq] at Ac; cases Ac
 have hl:(rs.take len).length=len:=by simp; omega
 have r':=r.kC bq len;have hy1:gC (dH h b (.rows n (rs.take len))) n y ys rd:=by
  cases yM with
  |row ex nn rows=>exact .row _ _ _
  |af=>exact .af
  |cj=>exact .cj
  |own b2 aae aad ex2 sr kG kp=>
   have KF:b2≠b:=by rintro rfl; simp at Ld
   exact .own _ _ _ _ _ (by rw[Xq _ _ KF,cB b2 (by simp)]; exact kG) kp
 have:=Mh (P:=P) (GL:=GL) n cd z (.sl b 0 len ex) y (rs.take len) ys rd [(b,.dead)] (dH h b (.rows n (rs.take len))) nb (by rw[Xq _ _ dL]; exact Ac) (.own b len ex _ (Xs _ _ _) hl) hy1 qW (by rw[hl]; exact cr)
  o os hc w0 L g _ w a r' hx (λ_ _=>rfl) (λ_ _=>rfl)
 rw[hl] at this;have e:ca (dH h b (.rows n (rs.take len))) ([(b,.dead)]++[(nb,.rows n (rs.take len++ys))])=ca h [(b,.dead),(nb,.rows n (rs.take len++ys))]:=by
  funext q
  simp only[ca,List.cons_append,List.nil_append,dH];split
  ·rfl
  ·split<;>rfl
 rw[e] at this;exact this
theorem SU(n:Nat)(z:List aa)(b off len:Nat)(ex:Bool)(rs:List (List aa))(h0:Hp)(hb:h0 b=some (.rows n rs))(cr:off+len≤rs.length) :
  aD P GL (.fG n z) [.sl b off len ex] h0 .aI [] [(b,.rows n (over off (List.replicate len z) rs))]:=by
 intro o os hc w0 L g h w a r hx cB dJ;have bq:h b=some (.rows n rs):=by rw[dJ (b,_) (List.mem_singleton.2 rfl)]; exact hb
 generalize ho:o.op=op at hc;cases hc with
 |fG t e ox _ v _ he ei kI hz pc dd=>
  obtain⟨d1,_⟩:=hx;generalize nz:a.eval ox=u1 at d1;obtain⟨Ap,hzd⟩:=YK (M:=g.M) (c:=g.c) dd;have FG:z.length=n:=by rw[←Ap]; simpa using pc
  have ng:P.underlying t=some (.slice e):=by
   unfold dG at he; split at he
   ·rename_i hu; cases he; exact hu
   ·cases he
  have out:∀w',(Builtin.clear_ #[t] o.type #[u1]).run P w=.ok (.tuple #[]) w'→(execOp a.eval o).run P w=.ok (.value (.tuple #[])) w':=by
   intro w' hr;simp only[execOp,ho,resolve,Sem.run_bind,Sem.run_pure,Result.andThen_ok,invoke,builtin];simp[nz,hr]
  rw[O3];have Fz:(List.replicate len z).length=len:=by simp
  cases d1 with
  |mu _ _ _ cb p ec hv=>
   have Al:=(r.eX bq ec hv).2;subst Al;rw[out w (by
    cases p <;> simp[Builtin.clear_,Sem.run_bind,run_underlying ng])]
   exact⟨g,Gm.Le.refl _,r.kC bq 0,.aI _ _⟩
  |sl _ _ _ _ _ cb cap ec hv h1 h2 h3=>
   have z1:=(r.dw bq ec hv).1;have Rx:v.cells.size≠0:=by rw[pc]; exact kI
   have ra:kL g n (List.replicate len z) (Builtin.zeroCells v.cells len):=by
    refine⟨by rw[OT,pc,Fz],λi row q=>?_,λi row j x u q1 q2 q3=>?_⟩
    ·rw[List.getElem?_replicate] at q;split at q
     ·cases q; exact FG
     ·cases q
    ·rw[List.getElem?_replicate] at q1;split at q1
     ·rename_i hi;cases q1;have hj:j<n:=by rw[←FG]; exact(cJ q2).1
      have bj:i*n+j<len*n:=by
       have:(i+1)*n≤len*n:=Nat.mul_le_mul_right n hi;rw[Nat.succ_mul] at this; omega
      have K2:(i*n+j)%n=j:=by rw[Nat.mul_comm,Nat.mul_add_mod,Nat.mod_eq_of_lt hj]
      have hq:(Builtin.zeroCells v.cells len)[i*n+j]?=v.cells[j]?:=by
       have KV:j<v.cells.size:=by rw[pc]; exact hj
       simp[Builtin.zeroCells,pc,bj,K2];rw[getElem!_pos v.cells j KV,Array.getElem?_eq_getElem KV]
      rw[hq] at q3;exact hzd j x u q2 (by simpa using q3)
     ·cases q1
   have W3:=Hm dd;obtain⟨w',s1,s2⟩:=r.qq (P:=P) bq ec hv (p:=off) (ys:=List.replicate len z) (by rw[Fz]; exact cr) ra (NY kI ra (λrow cI x hx=>by
    have:=(List.mem_replicate.1 cI).2;subst this; exact W3 x hx))
   by_cases H9:len=0
   ·subst H9;rw[out w (by simp[Builtin.clear_,Sem.run_bind,run_underlying ng])];refine⟨g,Gm.Le.refl _,?_,.aI _ _⟩;have hov:over off (List.replicate 0 z) rs=rs.take rs.length:=by
     simp[over]
    rw[hov];exact r.kC bq rs.length
   ·rw[out w' (by
     cases len with
     |zero=>exact(H9 rfl).elim
     |succ len=>
      rw[z1];simp only[Builtin.clear_,Sem.run_bind,Sem.run_pure,Result.andThen_ok];simp[run_underlying ng,XY hz,s1])]
    exact⟨g,Gm.Le.refl _,s2,.aI _ _⟩
theorem QZ(n:Nat)(z:List aa)(x:aa)(h0:Hp)(qz:x=.af∨x=.cj∨∃e nn sz,x=.ax e nn sz []):aD P GL (.fG n z) [x] h0 .aI [] []:=by
 intro o os hc w0 L g h w a r hx cB dJ;generalize ho:o.op=op at hc;cases hc with
 |fG t e ox _ v _ he ei kI hz pc dd=>
  obtain⟨d1,_⟩:=hx;generalize nz:a.eval ox=u1 at d1;have ng:P.underlying t=some (.slice e):=by
   unfold dG at he; split at he
   ·rename_i hu; cases he; exact hu
   ·cases he
  have Dl:∃p cap,u1=.slice p 0 cap:=by
   rcases qz with rfl|rfl|⟨_,_,_,rfl⟩
   ·cases d1; exact⟨_,_,rfl⟩
   ·cases d1; exact⟨_,_,rfl⟩
   ·cases d1; exact⟨_,_,rfl⟩
  obtain⟨p,cap,rfl⟩:=Dl;have bS:(execOp a.eval o).run P w=.ok (.value (.tuple #[])) w:=by
   simp only[execOp,ho,resolve,Sem.run_bind,Sem.run_pure,Result.andThen_ok,invoke,builtin];cases p<;>simp[nz,Builtin.clear_,Sem.run_bind,run_underlying ng]
  rw[bS];exact Out.here r (.aI _ _)
end
end Go.Ah
end
section
namespace Go.Ah
section
variable {P:Program} {GL:aA}
theorem Uo(s:List UInt8)(k:IntKind)(i:Int)(h1:0≤i)(h2:i≤s.length)(h0:Hp) :
  aD P GL (.dg true false) [.str s,.int k i] h0 (.str (s.drop i.toNat)) [] []:=by
 intro o os hc w0 L g hp w a r hx _ _;obtain⟨t,x,lo,hi,ho,ik,eR,rfl,hu⟩:=Z4 hc;obtain⟨lo,rfl⟩:∃z,lo=some z:=Option.isSome_iff_exists.1 ik.symm;obtain rfl:hi=none:=by cases hi<;>first|rfl|cases eR
 obtain⟨d,d2,_⟩:=hx;obtain⟨s',e1,rfl⟩:=Y8 d;have ei:s'.data.toList.length=s'.size:=by simp
 have bS:(execOp a.eval o).run P w=.ok (.value (.string (s'.extract i.toNat s'.size))) w:=by
  simp only[execOp,ho,e1,Instr.sliceAt,Instr.slice,Sem.run_bind,run_underlying hu,Result.andThen_ok,Option.map_some,Zq d2,Option.map_none,Option.isSome_none,Bool.false_eq_true,if_false,Instr.sliceBounds,Sem.run_pure,Zn k i s'.size _ h1 (by omega)]
 rw[bS];have:s'.data.toList.drop i.toNat=(s'.extract i.toNat s'.size).data.toList:=by
  rw[ByteArray.data_extract,Array.toList_extract]; simp only[List.extract_eq_take_drop];rw[List.take_of_length_le (by simp)]
 rw[this];exact Out.here r (.str _ _)
theorem Vw(s:List UInt8)(k:IntKind)(i:Int)(h1:0≤i)(h2:i≤s.length)(h0:Hp) :
  aD P GL (.dg false true) [.str s,.int k i] h0 (.str (s.take i.toNat)) [] []:=by
 intro o os hc w0 L g hp w a r hx _ _;obtain⟨t,x,lo,hi,ho,ik,eR,rfl,hu⟩:=Z4 hc;obtain rfl:lo=none:=by cases lo<;>first|rfl|cases ik
 obtain⟨hi,rfl⟩:∃z,hi=some z:=Option.isSome_iff_exists.1 eR.symm;obtain⟨d,d2,_⟩:=hx;obtain⟨s',e1,rfl⟩:=Y8 d;have ei:s'.data.toList.length=s'.size:=by simp
 have bS:(execOp a.eval o).run P w=.ok (.value (.string (s'.extract 0 i.toNat))) w:=by
  simp only[execOp,ho,e1,Instr.sliceAt,Instr.slice,Sem.run_bind,run_underlying hu,Result.andThen_ok,Option.map_some,Zq d2,Option.map_none,Option.isSome_none,Bool.false_eq_true,if_false,Instr.sliceBounds,Sem.run_pure,Zn k i s'.size _ h1 (by omega)]
 rw[bS];have:s'.data.toList.take i.toNat=(s'.extract 0 i.toNat).data.toList:=by
  rw[ByteArray.data_extract,Array.toList_extract]; simp[List.extract]
 rw[this];exact Out.here r (.str _ _)
theorem RP(n cd:Nat)(z:List aa)(x y:aa)(rd:List Nat)(h0:Hp)(qz:x=.af∨x=.cj∨(∃b o l e,x=.sl b o l e)∨∃e nn sz rows,x=.ax e nn sz rows)(yM:gC h0 n y [] rd) :
  aD P GL (.append n cd z) [x,y] h0 x rd []:=by
 intro o os hc w0 L g h w a r hx cB _;generalize ho:o.op=op at hc;cases hc with
 |append t t' e ox oy _ _ v _ ht FD ei sM hz pc dd nE kI=>
  obtain⟨d,hd,qe⟩:=FD;obtain⟨d1,d2,_⟩:=hx;generalize nz:a.eval ox=u1 at d1;generalize sS:a.eval oy=u2 at d2;obtain⟨p1,As,sI,e1,hle⟩:∃p len cap,u1=.slice p len cap∧len≤cap:=by
   rcases qz with rfl|rfl|⟨b,o',l,e',rfl⟩|⟨e',nn,sz,rows,rfl⟩
   ·cases d1; exact⟨_,_,_,rfl,Nat.le_refl _⟩
   ·cases d1; exact⟨_,_,_,rfl,Nat.le_refl _⟩
   ·cases d1 with
    |mu=>exact⟨_,_,_,rfl,Nat.le_refl _⟩
    |sl _ _ _ _ _ cb cap ec hv h1=>exact⟨_,_,_,rfl,h1⟩
   ·obtain⟨p,cap,q1,q2,_⟩:=DP d1; exact⟨p,_,cap,q1,q2⟩
  subst e1;obtain⟨p2,Eo,newv,e2,f2,ru,_⟩:=DI (P:=P) r yM cB d2;have iG:(Builtin.lenOf u2).run P w=.ok 0 w:=by rw[e2]; rfl
  have Fq:newv.toList=[]:=by have:=ru.1; simp at this; simp[this]
  have bS:(Builtin.append_ #[t,t'] o.type #[.slice p1 As sI,u2]).run P w=.ok (.slice p1 As sI) w:=by
   obtain⟨k1,k2⟩:=(XR ht hd qe ei sM hz nE (base:=p1) (len:=As) (cap:=sI) (newv:=newv) iG o.type).1 (by simpa using hle) f2;cases p1 with
   |none=>exact k1 rfl
   |some ad=>exact k2 ad w rfl (by rw[Fq]; rfl)
  rw[YR ho nz sS bS];exact Out.here r d1
theorem aD.jl{k:MK}{x x':aa}{xs:List aa}{h0:Hp}{v:aa}{rd:List Nat}{up:List (Nat×ab)}(hw:∀(g:Gm) (u:Value),g.den x u→g.den x' u)(h:aD P GL k (x'::xs) h0 v rd up):aD P GL k (x::xs) h0 v rd up:=by
 intro o os hc w0 L g hp w a r hx cB dH;refine h o os hc w0 L g hp w a r ?_ cB dH;generalize os.map a.eval=vs at hx;cases vs with
 |nil=>exact hx
 |cons v vs=>exact⟨hw g v hx.1,hx.2⟩
theorem VL(x y:aa)(h0:Hp):aD P GL .pick [.bool true,x,y] h0 x [] []:=by
 intro o os hc w0 L g h w a r hx _ _;generalize ho:o.op=op at hc;cases hc with
 |pick oc oa ob=>
  obtain⟨d1,d2,d3,_⟩:=hx;have e1:=ZA d1;have bS:(execOp a.eval o).run P w=.ok (.value (a.eval oa)) w:=by
   simp only[execOp,ho,e1,asBool];simp
  rw[bS];exact Out.here r d2
theorem UG(x y:aa)(h0:Hp):aD P GL .pick [.bool false,x,y] h0 y [] []:=by
 intro o os hc w0 L g h w a r hx _ _;generalize ho:o.op=op at hc;cases hc with
 |pick oc oa ob=>
  obtain⟨d1,d2,d3,_⟩:=hx;have e1:=ZA d1;have bS:(execOp a.eval o).run P w=.ok (.value (a.eval ob)) w:=by
   simp only[execOp,ho,e1,asBool];simp
  rw[bS];exact Out.here r d3
theorem XT{g:Gm}{b off len:Nat}{ex:Bool}{cb:CB}{p:Option Addr}{FN cap:Nat}(ec:g.c b=some cb)(d:g.den (.sl b off len ex) (.slice p FN cap)) :
  FN=len∧len≤cap∧(ex=true→cap=len)∧∀ {l h:Nat},l≤h→h≤cap→∀yr:Bool,(yr=true→cap=h)→(l<h∨(l=0)) →
   g.den (.sl b (off+l) (h-l) yr) (.slice (if cap=l then p else p.map (·.add (l*cb.sz))) (h-l) (cap-l)):=by
 cases d with
 |mu _ _ _ cV _ fo hv=>
  rw[ec] at fo; cases fo;refine⟨rfl,Nat.le_refl _,λ_=>rfl,λ{l h} hl hh yr hex hs=>?_⟩;have:h=0:=by omega
  subst this;have:l=0:=by omega
  subst this;exact .mu _ _ _ cb _ ec hv
 |sl _ _ _ _ _ cV _ fo hv h1 h2 h3=>
  rw[ec] at fo; cases fo;refine⟨rfl,h1,h3,λ{l h} hl hh yr hex hs=>?_⟩;have uu:(if cap=l then some (⟨cb.blk,off*cb.sz,none⟩:Addr) else (some (⟨cb.blk,off*cb.sz,none⟩:Addr)).map (·.add (l*cb.sz)))=some ⟨cb.blk,(off+l)*cb.sz,none⟩:=by
   split
   ·have:l=0:=by omega
    subst this; simp
   ·simp[YO,Nat.add_mul]
  rw[uu];refine .sl _ _ _ _ _ cb _ ec hv (by omega) ?_ (λe=>by rw[hex e]);rw[show off+l+(cap-l)=off+cap by omega]; exact h2
theorem T8{w0:World}{L:Ln}{g:Gm}{h:Hp}{w:World}(r:a_ GL w0 L g h w){b n off len cap:Nat}{ex:Bool}{rs:List (List aa)}{p:Option Addr}(hb:h b=some (.rows n rs))(kI:n≠0)(d:g.den (.sl b off len ex) (.slice p len cap)):rs.length≤off+cap:=by
 cases d with
 |mu _ _ _ cb p ec hv=>have:=(r.eX hb ec hv).2; subst this; simp
 |sl _ _ _ _ _ cb cap ec hv h1 h2 h3=>exact O4 r hb kI ec hv h2
theorem Q9{g:Gm}{b off len:Nat}{ex:Bool}{v:Value}(d:g.den (.sl b off len ex) v):∃cb p cap,g.c b=some cb∧v=.slice p len cap∧(p=none→cap=0):=by
 cases d with
 |mu _ _ _ cb p ec hv=>exact⟨cb,p,0,ec,rfl,λ_=>rfl⟩
 |sl _ _ _ _ _ cb cap ec=>exact⟨cb,_,cap,ec,rfl,λe=>by cases e⟩
theorem IK{w0:World}{L:Ln}{g:Gm}{h:Hp}{w:World}(r:a_ GL w0 L g h w){b sz:Nat}{rs:List (List aa)}{cb:CB}(hb:h b=some (.rows sz rs))(ec:g.c b=some cb):cb.sz=sz:=by
 cases hv:cb.cS with
 |true=>have:=r.aN b _ cb hb rfl ec hv; cases this; rfl
 |false=>exact(r.dw hb ec hv).1
theorem Vu(ex:Bool)(sz b off len:Nat)(rs:List (List aa))(k:IntKind)(i:Int)(h1:0≤i)(h2:i<len)(h0:Hp)(hb:h0 b=some (.rows sz rs)) :
  aD P GL (.cu sz true false false) [.sl b off len ex,.int k i] h0 (.sl b (off+i.toNat) (len-i.toNat) ex) [b] []:=by
 intro o os hc w0 L g hp w a r hx cB _;obtain⟨t,x,lo,hi,mx,e,ho,ik,eR,nd,rfl,hu,hn⟩:=XB hc;obtain⟨lo,rfl⟩:∃z,lo=some z:=Option.isSome_iff_exists.1 ik.symm;obtain rfl:hi=none:=by cases hi<;>first|rfl|cases eR
 obtain rfl:mx=none:=by cases mx<;>first|rfl|cases nd
 obtain⟨d,d2,_⟩:=hx;obtain⟨cb,p,cap,ec,hv,_⟩:=Q9 d;have ei:=IK r ((cB b (by simp)).trans hb) ec;rw[hv] at d;obtain⟨_,tk,jy,sO⟩:=XT ec d;have hb:(Instr.sliceBounds true len cap (some (.int k i)) none none).run P w=.ok (i.toNat,len,cap) w:=by
  simp only[Instr.sliceBounds,Sem.run_bind,Sem.run_pure,Result.andThen_ok,Zn k i len _ h1 (by omega)]
 rw[XE ho hu hn hv (l:=i.toNat) (h:=len) (m:=cap) (by simpa[Zq d2] using hb)];rw[←ei];exact Out.here r (sO (by omega) tk ex jy (by omega))
theorem Tc(ex:Bool)(sz b off len:Nat)(k:IntKind)(i:Int)(h1:i=len)(h0:Hp) :
  aD P GL (.cu sz true false false) [.sl b off len ex,.int k i] h0 (.ax false false sz []) [] []:=by
 intro o os hc w0 L g hp w a r hx cB _;obtain⟨t,x,lo,hi,mx,e,ho,ik,eR,nd,rfl,hu,hn⟩:=XB hc;obtain⟨lo,rfl⟩:∃z,lo=some z:=Option.isSome_iff_exists.1 ik.symm;obtain rfl:hi=none:=by cases hi<;>first|rfl|cases eR
 obtain rfl:mx=none:=by cases mx<;>first|rfl|cases nd
 obtain⟨d,d2,_⟩:=hx;obtain⟨cb,p,cap,ec,hv,kq⟩:=Q9 d;rw[hv] at d;obtain⟨_,tk,jy,_⟩:=XT ec d;have hb:(Instr.sliceBounds true len cap (some (.int k i)) none none).run P w=.ok (i.toNat,len,cap) w:=by
  simp only[Instr.sliceBounds,Sem.run_bind,Sem.run_pure,Result.andThen_ok,Zn k i len _ (by omega) (by omega)]
 rw[XE ho hu hn hv (l:=i.toNat) (h:=len) (m:=cap) (by simpa[Zq d2] using hb)];refine Out.here r ?_;rw[show len-i.toNat=([]:List (List aa)).length by simp; omega];refine .ax _ _ _ _ [] _ _ 0 0 (λ_ _=>undef) (by simp) (by simp) (by simp) (λe=>?_) (by simp) (by simp) (by simp) (by simp);split at e
 ·omega
 ·simp at e; have:=kq e; omega
theorem RO(ex:Bool)(sz b off len:Nat)(rs:List (List aa))(k:IntKind)(i:Int)(h1:0≤i)(h2:i≤len)(h0:Hp)(hb:h0 b=some (.rows sz rs)) :
  aD P GL (.cu sz false true false) [.sl b off len ex,.int k i] h0 (.sl b off i.toNat false) [b] []:=by
 intro o os hc w0 L g hp w a r hx cB _;obtain⟨t,x,lo,hi,mx,e,ho,ik,eR,nd,rfl,hu,hn⟩:=XB hc;obtain rfl:lo=none:=by cases lo<;>first|rfl|cases ik
 obtain⟨hi,rfl⟩:∃z,hi=some z:=Option.isSome_iff_exists.1 eR.symm;obtain rfl:mx=none:=by cases mx<;>first|rfl|cases nd
 obtain⟨d,d2,_⟩:=hx;obtain⟨cb,p,cap,ec,hv,_⟩:=Q9 d;have ei:=IK r ((cB b (by simp)).trans hb) ec;rw[hv] at d;obtain⟨_,tk,jy,sO⟩:=XT ec d;have hb:(Instr.sliceBounds true len cap none (some (.int k i)) none).run P w=.ok (0,i.toNat,cap) w:=by
  simp only[Instr.sliceBounds,Sem.run_bind,Sem.run_pure,Result.andThen_ok,Zn k i cap _ h1 (by omega)]
 rw[XE ho hu hn hv (l:=0) (h:=i.toNat) (m:=cap) (by simpa[Zq d2] using hb)];rw[←ei];have:=sO (l:=0) (h:=i.toNat) (by omega) (by omega) false (by simp) (.inr rfl);exact Out.here r this
theorem Ur(ex:Bool)(sz b off len:Nat)(rs:List (List aa))(k k':IntKind)(i j:Int)(h1:0≤i)(h2:i<j∨(i=0∧0≤j))(h3:j≤len∨(sz≠0∧off+j.toNat≤rs.length))(h0:Hp)(hb:h0 b=some (.rows sz rs)) :
  aD P GL (.cu sz true true false) [.sl b off len ex,.int k i,.int k' j] h0 (.sl b (off+i.toNat) (j.toNat-i.toNat) false) [b] []:=by
 intro o os hc w0 L g hp w a r hx cB _;obtain⟨t,x,lo,hi,mx,e,ho,ik,eR,nd,rfl,hu,hn⟩:=XB hc;obtain⟨lo,rfl⟩:∃z,lo=some z:=Option.isSome_iff_exists.1 ik.symm;obtain⟨hi,rfl⟩:∃z,hi=some z:=Option.isSome_iff_exists.1 eR.symm;obtain rfl:mx=none:=by cases mx<;>first|rfl|cases nd
 obtain⟨d,d2,d3,_⟩:=hx;obtain⟨cb,p,cap,ec,hv,_⟩:=Q9 d;have ei:=IK r ((cB b (by simp)).trans hb) ec;rw[hv] at d;obtain⟨_,tk,jy,sO⟩:=XT ec d;have hjc:j≤cap:=by
  rcases h3 with h3|⟨h3,h4⟩
  ·omega
  ·have:=T8 r ((cB b (by simp)).trans hb) h3 d;omega
 have hb:(Instr.sliceBounds true len cap (some (.int k i)) (some (.int k' j)) none).run P w=.ok (i.toNat,j.toNat,cap) w:=by
  simp only[Instr.sliceBounds,Sem.run_bind,Sem.run_pure,Result.andThen_ok,Zn k' j cap _ (by omega) (by omega),Zn k i j.toNat _ h1 (by omega)]
 rw[XE ho hu hn hv (l:=i.toNat) (h:=j.toNat) (m:=cap) (by simpa[Zq d2,Zq d3] using hb)];rw[←ei];exact Out.here r (sO (by omega) (by omega) false (by simp) (by omega))
theorem S_(ex:Bool)(sz b off len:Nat)(k k' Lq:IntKind)(i j m:Int)(h1:0≤i)(h2:i≤j)(h3:j≤m)(h4:m≤len)(h0:Hp) :
  aD P GL (.cu sz true true true) [.sl b off len ex,.int k i,.int k' j,.int Lq m] h0 .aI [] []:=by
 intro o os hc w0 L g hp w a r hx cB _;obtain⟨t,x,lo,hi,mx,e,ho,ik,eR,nd,rfl,hu,hn⟩:=XB hc;obtain⟨lo,rfl⟩:∃z,lo=some z:=Option.isSome_iff_exists.1 ik.symm;obtain⟨hi,rfl⟩:∃z,hi=some z:=Option.isSome_iff_exists.1 eR.symm;obtain⟨mx,rfl⟩:∃z,mx=some z:=Option.isSome_iff_exists.1 nd.symm;obtain⟨d,d2,d3,d4,_⟩:=hx;obtain⟨cb,p,cap,ec,hv,_⟩:=Q9 d;rw[hv] at d;obtain⟨_,tk,jy,sO⟩:=XT ec d;have hb:(Instr.sliceBounds true len cap (some (.int k i)) (some (.int k' j)) (some (.int Lq m))).run P w=.ok (i.toNat,j.toNat,m.toNat) w:=by
  simp only[Instr.sliceBounds,Sem.run_bind,Sem.run_pure,Result.andThen_ok,Zn Lq m cap _ (by omega) (by omega),Zn k' j m.toNat _ (by omega) (by omega),Zn k i j.toNat _ h1 (by omega)]
 rw[XE ho hu hn hv (l:=i.toNat) (h:=j.toNat) (m:=m.toNat) (by simpa[Zq d2,Zq d3,Zq d4] using hb)];exact Out.here r (.aI _ _)
theorem Tb(sz:Nat)(x:aa)(qz:x=.af∨x=.cj∨(∃b o l e,x=.sl b o l e)∨∃e nn s rows,x=.ax e nn s rows)(k k':IntKind)(h0:Hp) :
  aD P GL (.cu sz false true true) [x,.int k 0,.int k' 0] h0 .cj [] []:=by
 intro o os hc w0 L g hp w a r hx cB _;obtain⟨t,y,lo,hi,mx,e,ho,ik,eR,nd,rfl,hu,hn⟩:=XB hc;obtain rfl:lo=none:=by cases lo<;>first|rfl|cases ik
 obtain⟨hi,rfl⟩:∃z,hi=some z:=Option.isSome_iff_exists.1 eR.symm;obtain⟨mx,rfl⟩:∃z,mx=some z:=Option.isSome_iff_exists.1 nd.symm;obtain⟨d,d2,d3,_⟩:=hx;have Dl:∃p len cap,a.eval y=.slice p len cap:=by
  generalize nz:a.eval y=u1 at d;rcases qz with rfl|rfl|⟨_,_,_,_,rfl⟩|⟨_,_,_,_,rfl⟩
  ·cases d; exact⟨_,_,_,rfl⟩
  ·cases d; exact⟨_,_,_,rfl⟩
  ·cases d<;>exact⟨_,_,_,rfl⟩
  ·cases d; exact⟨_,_,_,rfl⟩
 obtain⟨p,len,cap,hv⟩:=Dl;have hb:(Instr.sliceBounds true len cap none (some (.int k 0)) (some (.int k' 0))).run P w=.ok (0,0,0) w:=by
  simp only[Instr.sliceBounds,Sem.run_bind,Sem.run_pure,Result.andThen_ok,Zn k' 0 cap _ (by omega) (by omega),Zn k 0 _ _ (by omega) (by omega)];rfl
 rw[XE ho hu hn hv (l:=0) (h:=0) (m:=0) (by simpa[Zq d2,Zq d3] using hb)];exact Out.here r (.cj _ _)
end
theorem Qx{α:Type}{b:Bool}{x:Option α}{v:α}(h:(bif b then x else none)=some v):b=true∧x=some v:=by
 cases b
 ·cases h
 ·exact⟨rfl,h⟩
theorem XW{α:Type}{b:Bool}{x y v:α}(h:(bif b then x else y)=v):(b=true∧x=v)∨(b=false∧y=v):=by
 cases b
 ·exact .inr ⟨rfl,h⟩
 ·exact .inl ⟨rfl,h⟩
def Z5:Bool→aa→Bool
 |true,.str _=>true
 |false,.int _ _=>true
 |_,_=>false
theorem Me{s:Bool}{k:aa}(h:Z5 s k=true):jQ s k:=by
 cases s<;>cases k<;>simp_all [Z5,jQ]
def Qw:List (List aa)→Bool
 |[]=>true
 |r::rs=>r.all aa.cell&&Qw rs
theorem Q5:∀ {rs:List (List aa)},Qw rs=true→∀row∈rs,∀x∈row,aa.cell x=true
 |[],_,_,hm,_,_=>by cases hm
 |r::rs,h,row,hm,x,hx=>by
  simp only[Qw,Bool.and_eq_true] at h;cases hm with
  |head=>exact List.all_eq_true.1 h.1 x hx
  |tail _ hm=>exact Q5 h.2 row hm x hx
def QG(sz:Nat)(σ:List ab):aa→Option (List (List aa)×List Nat)
 |.ax _ _ s rows=>bif Nat.beq s sz then some (rows,[]) else none
 |.af=>some ([],[])
 |.cj=>some ([],[])
 |.sl b off len _=>match ah σ b with
  |.rows s rs=>bif Nat.beq s sz&&Nat.ble (off+len) rs.length then some (cut off (off+len) rs,[b]) else none
  |_=>none
 |_=>none
theorem GX{sz:Nat}{σ:List ab}{y:aa}{ys:List (List aa)}{rd:List Nat}(h:QG sz σ y=some (ys,rd)):gC (hp σ) sz y ys rd:=by
 unfold QG at h;split at h
 ·replace h:=Qx h; obtain⟨hb,h⟩:=h
  have:=eZ hb; subst this;cases h; exact .row _ _ _
 ·cases h; exact .af
 ·cases h; exact .cj
 ·split at h
  ·rename_i hg
   replace h:=Qx h; obtain⟨hb,h⟩:=h
   simp only[Bool.and_eq_true] at hb;have:=eZ hb.1;subst this;cases h;exact .own _ _ _ _ _ (zf hg (by simp)) (fQ hb.2)
  ·cases h
 ·cases h
def D1:aa→aa
 |.ax true _ _ []=>.cj
 |x=>x
theorem R_(x:aa)(g:Gm)(u:Value)(d:g.den x u):g.den (D1 x) u:=by
 unfold D1;split
 ·obtain⟨p,cap,q1,_,q3⟩:=DP d;have:=q3 rfl;rw[q1,this];exact .cj _ _
 ·exact d
def Hu:aa→Bool
 |.af=>true
 |.cj=>true
 |.sl ..=>true
 |.ax ..=>true
 |_=>false
theorem Md{x:aa}(h:Hu x=true):x=.af∨x=.cj∨(∃b o l e,x=.sl b o l e)∨∃e nn sz rows,x=.ax e nn sz rows:=by
 cases x<;>simp_all [Hu]
def mapOf(σ:List ab):aa→Option (List (aa×aa)×List Nat)
 |.map b=>match ah σ b with
  |.map es=>some (es,[b])
  |_=>none
 |.dZ es=>some (es,[])
 |.bD=>some ([],[])
 |_=>none
theorem Wu{σ:List ab}{m:aa}{es:List (aa×aa)}{rd:List Nat}(h:mapOf σ m=some (es,rd)):pG (hp σ) m es rd:=by
 unfold mapOf at h;split at h
 ·split at h
  ·rename_i hg; cases h; exact .own _ _ (GS hg)
  ·cases h
 ·cases h; exact .row _
 ·cases h; exact .nil
 ·cases h
def Xo(xs:List aa)(σ:List ab):az:=match xs with
  |[.bool true,x,_]=>.ok x [] []
  |[.bool false,_,y]=>.ok y [] []
  |_=>.stop
def Yb(sz:Nat)(xs:List aa)(σ:List ab):az:=match xs with
  | [.ax e n s rows,.int _ (.ofNat i)]=>bif Nat.beq s sz then (match nth rows i with
   |some row=>.ok (.ay row 0) [] []
   | none=>.stop) else .stop
  | [.sl b o len _,.int _ (.ofNat i)]=>bif Nat.blt i len then (match ah σ b with
   |.rows s _=>bif Nat.beq s sz then .ok (.ptr b (o+i) 0) [b] [] else .stop
   | _=>.stop) else .stop
  |_=>.stop
def Xx(xs:List aa)(σ:List ab):az:=match xs with
  |[.str s,.int _ (.ofNat i)]=>match nth s i with
   |some c=>.ok (.int .u8 c.toNat) [] []
   |none=>.stop
  |_=>.stop
def Zd(agg:Bool)(n:Nat)(xs:List aa)(σ:List ab):az:=match xs with
  |[.ptr b i j]=>match ah σ b with
   |.rows _ rs=>match nth rs i with
    |some row=>match aF agg j n row with
     |some v=>.ok v [b] []
     |none=>.stop
    |none=>.stop
   |_=>.stop
  |xs=>qo (.load agg n) xs σ
def Xb(n:Nat)(xs:List aa)(σ:List ab):az:=match xs with
  |[.ptr b i j,x]=>match ah σ b with
   |.rows sz rs=>match nth rs i with
    |some row=>match cellsOf x with
     | some cs=>bif Nat.beq cs.length n then (match bR j cs row with
      |some row'=>match Yz i row' rs with
       |some iu=>.ok .aI [] [(b,.rows sz iu)]
       |none=>.stop
      | none=>.stop) else .stop
     |none=>.stop
    |none=>.stop
   |_=>.stop
  |xs=>qo (.store n) xs σ
def ZW(sz:Nat)(xs:List aa)(σ:List ab):az:=match xs with
  |[.ax e n s rows,.int _ (.ofNat i)]=>bif Nat.beq s sz&&Nat.ble i rows.length then .ok (.ax e n sz (cut i rows.length rows)) [] [] else .stop
  |[.sl b off len e,.int _ (.ofNat i)]=>match ah σ b with
   |.rows s _=>bif Nat.beq s sz then (bif Nat.blt i len then .ok (.sl b (off+i) (len-i) e) [b] [] else bif Nat.beq i len then .ok (.ax false false sz []) [] [] else .stop) else .stop
   |_=>.stop
  |_=>.stop
def Z8(sz:Nat)(xs:List aa)(σ:List ab):az:=match xs with
  |[.ax e n s rows,.int _ (.ofNat i)]=>bif Nat.beq s sz&&Nat.ble i rows.length then .ok (.ax false n sz (cut 0 i rows)) [] [] else .stop
  |[.sl b off len e,.int _ (.ofNat i)]=>match ah σ b with
   |.rows s _=>bif Nat.beq s sz&&Nat.ble i len then .ok (.sl b off i false) [b] [] else .stop
   |_=>.stop
  |_=>.stop
def Jn(sz:Nat)(xs:List aa)(σ:List ab):az:=match xs with
  |[.ax e n s rows,.int _ (.ofNat i),.int _ (.ofNat j)]=>bif Nat.beq s sz&&(Nat.ble i j&&Nat.ble j rows.length) then .ok (.ax false n sz (cut i j rows)) [] [] else .stop
  |[.sl b off len e,.int _ (.ofNat i),.int _ (.ofNat j)]=>match ah σ b with
   |.rows s rs=>bif Nat.beq s sz&&((Nat.blt i j||Nat.beq i 0)&&(Nat.ble j len||(!(Nat.beq sz 0)&&Nat.ble (off+j) rs.length))) then .ok (.sl b (off+i) (j-i) false) [b] [] else .stop
   |_=>.stop
  |_=>.stop
def Q0(xs:List aa)(σ:List ab):az:=match xs with
  |[.str s,.int _ (.ofNat i),.int _ (.ofNat j)]=>bif Nat.ble i j&&Nat.ble j s.length then .ok (.str ((s.take j).drop i)) [] [] else .stop
  |_=>.stop
def Iv(xs:List aa)(σ:List ab):az:=match xs with
  |[.str s,.int _ (.ofNat i)]=>bif Nat.ble i s.length then .ok (.str (s.drop i)) [] [] else .stop
  |_=>.stop
def L'(xs:List aa)(σ:List ab):az:=match xs with
  |[.str s,.int _ (.ofNat i)]=>bif Nat.ble i s.length then .ok (.str (s.take i)) [] [] else .stop
  |_=>.stop
def JT(n:Nat)(cd:Nat)(z:List aa)(xs:List aa)(σ:List ab):az:=match xs with
  |[.int _ (.ofNat len)]=>bif Nat.ble (cd*len) (2 ^ 48)&&Nat.blt len (2 ^ 62) then .ok (.sl σ.length 0 len true) [] [(σ.length,.rows n (List.replicate len z))] else .stop
  |_=>.stop
def QK(n cd:Nat)(σ:List ab)(rs:List (List aa))(kill:List (Nat×ab))(y:aa):az:=match QG n σ y with
 |some (ys,rd)=>bif Qw ys&&Nat.ble ((2*(rs.length+ys.length)+192)*cd) (2 ^ 48) then
   .ok (.sl σ.length 0 (rs.length+ys.length) false) rd (kill++[(σ.length,.rows n (rs++ys))]) else .stop
 |none=>.stop
def I8(n cd:Nat)(σ:List ab)(b off len:Nat)(rs:List (List aa))(y:aa):az:=match QG n σ y with
 | some (ys,rd)=>bif Qw ys then (bif Nat.ble (off + len + ys.length) rs.length then .ok (.sl b off (len + ys.length) false) rd [(b,.rows n (over (off + len) ys rs))]
   else bif Nat.beq off 0&&(Nat.ble len rs.length&&(!(rd.contains b)&&Nat.ble ((2*(len+ys.length)+192)*cd) (2 ^ 48))) then
    .ok (.sl σ.length 0 (len + ys.length) false) rd [(b,.dead),(σ.length,.rows n (rs.take len ++ ys))] else .stop) else .stop
 |none=>.stop
def Qj(n:Nat)(cd:Nat)(xs:List aa)(σ:List ab):az:=match xs with
  |[x,y]=>match D1 x with
   |.af=>QK n cd σ [] [] y
   |.cj=>QK n cd σ [] [] y
   |.sl b off len _=>match ah σ b with
    |.rows s rs=>bif Nat.beq s n then (bif Nat.beq off 0&&Nat.beq rs.length len then QK n cd σ rs [(b,.dead)] y else I8 n cd σ b off len rs y) else .stop
    |_=>.stop
   |x=>match QG n σ y with
    |some ([],rd)=>bif Hu x then .ok x rd [] else .stop
    |_=>.stop
  |_=>.stop
def ze(n:Nat)(z:List aa)(xs:List aa)(σ:List ab):az:=match xs with
  |[.sl b off len _]=>match ah σ b with
   |.rows s rs=>bif Nat.beq s n&&Nat.ble (off+len) rs.length then .ok .aI [] [(b,.rows n (over off (List.replicate len z) rs))] else .stop
   |_=>.stop
  |[.af]=>.ok .aI [] []
  |[.cj]=>.ok .aI [] []
  |[.ax _ _ _ []]=>.ok .aI [] []
  |_=>.stop
def HB(xs:List aa)(σ:List ab):az:=match xs with
  |[.sl _ _ len _,.int _ (.ofNat i),.int _ (.ofNat j),.int _ (.ofNat m)]=>bif Nat.ble i j&&(Nat.ble j m&&Nat.ble m len) then .ok .aI [] [] else .stop
  |_=>.stop
def IX(xs:List aa)(σ:List ab):az:=match xs with
  |[x,.int _ (.ofNat 0),.int _ (.ofNat 0)]=>bif Hu x then .ok .cj [] [] else .stop
  |_=>.stop
def Qr(str:Bool)(ok:Bool)(z:aa)(xs:List aa)(σ:List ab):az:=match xs with
  | [m,q]=>bif Z5 str q then (match mapOf σ m with
   |some (es,rd)=>match gD q es with
    |some r=>.ok (jo ok z r) rd []
    |none=>.stop
   | none=>.stop) else .stop
  |_=>.stop
def Xz(str:Bool)(xs:List aa)(σ:List ab):az:=match xs with
  | [.map b,q,x]=>bif Z5 str q then (match ah σ b with
   |.map es=>match mK q x es with
    |some nN=>.ok .aI [] [(b,.map nN)]
    |none=>.stop
   | _=>.stop) else .stop
  |_=>.stop
def Dz(xs:List aa)(σ:List ab):az:=match xs with
  |[.iter b]=>match ah σ b with
   |.dN s pos=>bif Nat.blt pos s.length then .ok (.aG [.bool true,.int .i64 pos,.int .i32 (Utf8.decode ⟨s.toArray⟩ pos).1]) [] [(b,.dN s (pos+(Utf8.decode ⟨s.toArray⟩ pos).2))]
    else .ok (.aG [.bool false]) [b] []
   |_=>.stop
  |_=>.stop
def fI(k:MK)(xs:List aa)(σ:List ab):az:=
 match k with
 |.pick=>Xo xs σ
 |.dW sz=>Yb sz xs σ
 |.jE=>Xx xs σ
 |.load agg n=>Zd agg n xs σ
 |.store n=>Xb n xs σ
 |.cu sz true false false=>ZW sz xs σ
 |.cu sz false true false=>Z8 sz xs σ
 |.cu sz true true false=>Jn sz xs σ
 |.cu _ true true true=>HB xs σ
 |.cu _ false true true=>IX xs σ
 |.fG n z=>ze n z xs σ
 |.dg true true=>Q0 xs σ
 |.dg true false=>Iv xs σ
 |.dg false true=>L' xs σ
 |.qm n cd z=>JT n cd z xs σ
 |.append n cd _=>Qj n cd xs σ
 |.lookup str ok z=>Qr str ok z xs σ
 |.jG str=>Xz str xs σ
 |.next=>Dz xs σ
 |k=>qo k xs σ
theorem OI{α:Type}:∀ {l l':List α} {i:Nat} {c:α},Yz i c l=some l'→l'=l.set i c
 |[],_,_,_,h=>by simp[Yz] at h
 |x::l,l',0,c,h=>by simp[Yz] at h; subst h; rfl
 |x::l,l',i+1,c,h=>by
  simp only[Yz] at h;cases e:Yz i c l with
  |none=>simp[e] at h
  |some r=>simp[e] at h; subst h; rw[OI e]; rfl
theorem YD{σ:List ab}{b sz:Nat}{rs:List (List aa)}(h:ah σ b=.rows sz rs):hp σ b=some (.rows sz rs):=zf h (by simp)
theorem I3{P:Program}{GL:aA}{n cd:Nat}{z:List aa}{σ:List ab}{x:aa}{rs:List (List aa)}{kill:List (Nat×ab)}{y v:aa}{rd:List Nat}{up:List (Nat×ab)}(hx:mF (hp σ) n x rs kill)(h:QK n cd σ rs kill y=.ok v rd up):aD P GL (.append n cd z) [x,y] (hp σ) v rd up:=by
 unfold QK at h;split at h
 ·rename_i hy
  replace h:=Qm h; obtain⟨hs,h⟩:=h
  simp only[Bool.and_eq_true] at hs;cases h;exact Mh _ _ _ _ _ _ _ _ _ _ _ (vE σ) hx (GX hy) (Q5 hs.1) (fQ hs.2)
 ·cases h
theorem R'{P:Program}{GL:aA}{n cd:Nat}{z:List aa}{σ:List ab}{b off len:Nat}{ex:Bool}{rs:List (List aa)}{y v:aa}{rd:List Nat}{up:List (Nat×ab)}(hb:hp σ b=some (.rows n rs))(h:I8 n cd σ b off len rs y=.ok v rd up):aD P GL (.append n cd z) [.sl b off len ex,y] (hp σ) v rd up:=by
 unfold I8 at h;split at h
 ·rename_i hy
  replace h:=Qm h; obtain⟨hc,h⟩:=h
  replace h:=XW h
  rcases h with ⟨hs,h⟩|⟨_,h⟩
  ·cases h;exact RM _ _ _ _ _ _ _ _ _ _ _ _ hb (GX hy) (Q5 hc) (fQ hs)
  ·replace h:=Qm h; obtain⟨hs,h⟩:=h
   simp only[Bool.and_eq_true,Bool.not_eq_true'] at hs;have:=eZ hs.1; subst this;cases h;exact Vx _ _ _ _ _ _ _ _ _ _ _ _ (vE σ) hb (fQ hs.2.1) (GX hy) (by simpa using hs.2.2.1) (Q5 hc) (fQ hs.2.2.2)
 ·cases h
theorem Sl{P:Program}{GL:aA}{n cd:Nat}{z:List aa}{xs:List aa}{σ:List ab}{v:aa}{rd:List Nat}{up:List (Nat×ab)}(h:Qj n cd xs σ=.ok v rd up):aD P GL (.append n cd z) xs (hp σ) v rd up:=by
 unfold Qj at h;split at h
 ·rename_i x y;refine aD.jl (R_ x) ?_;split at h
  ·rename_i hx; rw[hx]; exact I3 .af h
  ·rename_i hx; rw[hx]; exact I3 .cj h
  ·rename_i b off len ex hx;rw[hx];split at h
   ·rename_i s rs hg
    replace h:=Qm h; obtain⟨hs,h⟩:=h
    have:=eZ hs; subst this
    replace h:=XW h
    rcases h with ⟨hq,h⟩|⟨_,h⟩
    ·simp only[Bool.and_eq_true] at hq;have:=eZ hq.1; subst this;exact I3 (.own _ _ _ _ (YD hg) (eZ hq.2)) h
    ·exact R' (YD hg) h
   ·cases h
  ·split at h
   ·rename_i hy
    replace h:=Qm h; obtain⟨hs,h⟩:=h
    cases h;exact RP _ _ _ _ _ _ _ (Md hs) (GX hy)
   ·cases h
 ·cases h
theorem R2{P:Program}{GL:aA}{n:Nat}{z:List aa}{xs:List aa}{σ:List ab}{v:aa}{rd:List Nat}{up:List (Nat×ab)}(h:ze n z xs σ=.ok v rd up):aD P GL (.fG n z) xs (hp σ) v rd up:=by
 unfold ze at h;split at h
 ·split at h
  ·rename_i hg
   replace h:=Qm h; obtain⟨hs,h⟩:=h
   simp only[Bool.and_eq_true] at hs;have:=eZ hs.1; subst this;cases h;exact SU _ _ _ _ _ _ _ _ (YD hg) (fQ hs.2)
  ·cases h
 ·cases h; exact QZ _ _ _ _ (.inl rfl)
 ·cases h; exact QZ _ _ _ _ (.inr (.inl rfl))
 ·cases h; exact QZ _ _ _ _ (.inr (.inr ⟨_,_,_,rfl⟩))
 ·cases h
theorem VS{P:Program}{GL:aA}{n:Nat}{xs:List aa}{σ:List ab}{v:aa}{rd:List Nat}{up:List (Nat×ab)}(h:HB xs σ=.ok v rd up):aD P GL (.cu n true true true) xs (hp σ) v rd up:=by
 unfold HB at h;split at h
 ·replace h:=Qm h; obtain⟨hs,h⟩:=h
  simp only[Bool.and_eq_true] at hs;cases h;exact S_ _ _ _ _ _ _ _ _ _ _ _ (Int.natCast_nonneg _) (Int.ofNat_le.2 (fQ hs.1)) (Int.ofNat_le.2 (fQ hs.2.1)) (Int.ofNat_le.2 (fQ hs.2.2)) _
 ·cases h
theorem UL{P:Program}{GL:aA}{n:Nat}{xs:List aa}{σ:List ab}{v:aa}{rd:List Nat}{up:List (Nat×ab)}(h:IX xs σ=.ok v rd up):aD P GL (.cu n false true true) xs (hp σ) v rd up:=by
 unfold IX at h;split at h
 ·replace h:=Qm h; obtain⟨hs,h⟩:=h
  cases h;exact Tb _ _ (Md hs) _ _ _
 ·cases h
theorem ZD{P:Program}{GL:aA}:zd P GL fI:=by
 intro k xs σ v rd up h;unfold fI at h;simp only[Xo,Yb,Xx,Zd,Xb,ZW,Z8,Jn,Q0,Iv,L',JT,Qr,Xz,Dz] at h;split at h
 ·split at h
  ·cases h; exact VL _ _ _
  ·cases h; exact UG _ _ _
  ·cases h
 ·split at h
  ·replace h:=Qm h; obtain⟨hs,h⟩:=h
   have:=eZ hs; subst this;split at h
   ·rename_i hn; cases h; rw[QU] at hn; exact S8 _ _ _ _ _ _ _ (Int.natCast_nonneg _) hn _
   ·cases h
  ·replace h:=Qm h; obtain⟨bj,h⟩:=h
   split at h
   ·rename_i hg
    replace h:=Qm h; obtain⟨hs,h⟩:=h
    have:=eZ hs; subst this;cases h;exact Um _ _ _ _ _ _ _ _ (Int.natCast_nonneg _) (Int.ofNat_lt.2 (fQ bj)) _ (YD hg)
   ·cases h
  ·cases h
 ·split at h
  ·split at h
   ·rename_i hn; cases h; rw[QU] at hn; exact R7 _ _ _ _ (Int.natCast_nonneg _) hn _
   ·cases h
  ·cases h
 ·split at h
  ·split at h
   ·rename_i hg;split at h
    ·rename_i hn;split at h
     ·rename_i hv; cases h; rw[QU] at hn; exact Vt _ _ _ _ _ _ _ _ _ _ (YD hg) hn hv
     ·cases h
    ·cases h
   ·cases h
  ·exact JN h
 ·split at h
  ·split at h
   ·rename_i hg;split at h
    ·rename_i hn;split at h
     ·rename_i hc
      replace h:=Qm h; obtain⟨hl,h⟩:=h
      split at h
      ·rename_i hs;split at h
       ·rename_i dM;cases h;rw[QU] at hn;exact RR _ _ _ _ _ _ _ _ _ _ _ _ (YD hg) hn hc (eZ hl) hs (OI dM)
       ·cases h
      ·cases h
     ·cases h
    ·cases h
   ·cases h
  ·exact JN h
 ·split at h
  ·replace h:=Qm h; obtain⟨hs,h⟩:=h
   simp only[Bool.and_eq_true] at hs;have:=eZ hs.1; subst this;cases h;exact VW _ _ _ _ _ _ (Int.natCast_nonneg _) (Int.ofNat_le.2 (fQ hs.2)) _
  ·split at h
   ·rename_i hg
    replace h:=Qm h; obtain⟨hs,h⟩:=h
    have:=eZ hs; subst this
    replace h:=XW h; rcases h with ⟨bj,h⟩|⟨_,h⟩
    ·cases h;exact Vu _ _ _ _ _ _ _ _ (Int.natCast_nonneg _) (Int.ofNat_lt.2 (fQ bj)) _ (YD hg)
    ·replace h:=Qm h; obtain⟨he,h⟩:=h
     have:=eZ he;subst this;cases h;exact Tc _ _ _ _ _ _ _ rfl _
   ·cases h
  ·cases h
 ·split at h
  ·replace h:=Qm h; obtain⟨hs,h⟩:=h
   simp only[Bool.and_eq_true] at hs;have:=eZ hs.1; subst this;cases h;exact Sj _ _ _ _ _ _ (Int.natCast_nonneg _) (Int.ofNat_le.2 (fQ hs.2)) _
  ·split at h
   ·rename_i hg
    replace h:=Qm h; obtain⟨hs,h⟩:=h
    simp only[Bool.and_eq_true] at hs;have:=eZ hs.1; subst this;cases h;exact RO _ _ _ _ _ _ _ _ (Int.natCast_nonneg _) (Int.ofNat_le.2 (fQ hs.2)) _ (YD hg)
   ·cases h
  ·cases h
 ·split at h
  ·replace h:=Qm h; obtain⟨hs,h⟩:=h
   simp only[Bool.and_eq_true] at hs;have:=eZ hs.1; subst this;cases h;exact Uq _ _ _ _ _ _ _ _ (Int.natCast_nonneg _) (Int.ofNat_le.2 (fQ hs.2.1)) (Int.ofNat_le.2 (fQ hs.2.2)) _
  ·split at h
   ·rename_i hg
    replace h:=Qm h; obtain⟨hs,h⟩:=h
    simp only[Bool.and_eq_true,Bool.or_eq_true] at hs;have:=eZ hs.1; subst this;cases h;refine Ur _ _ _ _ _ _ _ _ _ _ (Int.natCast_nonneg _) ?_ ?_ _ (YD hg)
    ·rcases hs.2.1 with q|q
     ·exact .inl (Int.ofNat_lt.2 (fQ q))
     ·have:=eZ q; subst this; exact .inr ⟨rfl,Int.natCast_nonneg _⟩
    ·rcases hs.2.2 with q|q
     ·exact .inl (Int.ofNat_le.2 (fQ q))
     ·simp only[Bool.and_eq_true,Bool.not_eq_true'] at q;exact .inr ⟨(λe0=>by rw[e0] at q; cases q.1),fQ q.2⟩
   ·cases h
  ·cases h
 ·exact VS h
 ·exact UL h
 ·exact R2 h
 ·split at h
  ·replace h:=Qm h; obtain⟨hs,h⟩:=h
   simp only[Bool.and_eq_true] at hs;cases h;exact TG _ _ _ _ _ (Int.natCast_nonneg _) (Int.ofNat_le.2 (fQ hs.1)) (Int.ofNat_le.2 (fQ hs.2)) _
  ·cases h
 ·split at h
  ·replace h:=Qm h; obtain⟨hs,h⟩:=h
   cases h;exact Uo _ _ _ (Int.natCast_nonneg _) (Int.ofNat_le.2 (fQ hs)) _
  ·cases h
 ·split at h
  ·replace h:=Qm h; obtain⟨hs,h⟩:=h
   cases h;exact Vw _ _ _ (Int.natCast_nonneg _) (Int.ofNat_le.2 (fQ hs)) _
  ·cases h
 ·split at h
  ·replace h:=Qm h; obtain⟨hs,h⟩:=h
   simp only[Bool.and_eq_true] at hs;cases h;exact T' _ _ _ _ _ (fQ hs.1) (fQ hs.2) _ _ (vE σ)
  ·cases h
 ·exact Sl h
 ·split at h
  ·replace h:=Qm h; obtain⟨hs,h⟩:=h
   split at h
   ·rename_i hm;split at h
    ·rename_i hl; cases h; exact UF _ _ _ _ _ _ _ _ _ (Wu hm) (Me hs) hl
    ·cases h
   ·cases h
  ·cases h
 ·split at h
  ·replace h:=Qm h; obtain⟨hs,h⟩:=h
   split at h
   ·rename_i hm;split at h
    ·rename_i hl; cases h; exact Tu _ _ _ _ _ _ _ (GS hm) (Me hs) hl
    ·cases h
   ·cases h
  ·cases h
 ·split at h
  ·split at h
   ·rename_i hg
    replace h:=XW h; rcases h with ⟨bj,h⟩|⟨bj,h⟩
    ·cases h;exact(Nj _ _ _ _ (zf hg (by simp))).1 (fQ bj)
    ·cases h;refine(Nj _ _ _ _ (zf hg (by simp))).2 ?_;exact Nat.le_of_not_lt (λq=>by rw[show Nat.blt _ _=true from Nat.ble_eq_true_of_le q] at bj; cases bj)
   ·cases h
  ·cases h
 ·exact JN h
def uJ:List (Bool×Bool)→Bool
 |[]=>true
 |(true,true)::r=>uJ r
 |(false,false)::r=>uJ r
 |_=>false
def vo:Cons→Bool
 |[]=>true
 | (G,(x,y)) :: r=>(bif uJ G then (match x,y with
  |true,true=>true
  |false,false=>true
  | _,_=>false) else ew G || false) && vo r
where ew:List (Bool×Bool)→Bool
 |[]=>false
 |(true,false)::_=>true
 |(false,true)::_=>true
 |_::r=>ew r
theorem I5:∀ {c:List (Bool×Bool)},vo.ew c=true→¬dO c
 |[],h=>by simp[vo.ew] at h
 |(true,false)::r,h=>λq=>by have:=q _ (List.mem_cons_self ..); cases this
 |(false,true)::r,h=>λq=>by have:=q _ (List.mem_cons_self ..); cases this
 |(true,true)::r,h=>λq=>I5 (c:=r) h (λp hp=>q p (List.mem_cons_of_mem _ hp))
 |(false,false)::r,h=>λq=>I5 (c:=r) h (λp hp=>q p (List.mem_cons_of_mem _ hp))
theorem Qo{H:Prop}:∀(xs:List aa),lp (vG H) xs xs
 |[]=>trivial
 |x::xs=>⟨.inl rfl,Qo xs⟩
end Go.Ah
end
