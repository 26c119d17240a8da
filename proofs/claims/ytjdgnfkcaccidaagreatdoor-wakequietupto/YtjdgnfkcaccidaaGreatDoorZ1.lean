/- Part of the proof that WakeQuiet holds of the program for arguments that together hold at most 1048576 values and letters; no other condition. -/
import Derived.WalkKit
import Derived.IntWalk
import Derived.ChangeKeysEq
import Derived.Deep.LoopGhost
set_option linter.all false
section
theorem aT(b:Bool):b=true∨b=false:=Bool.eq_false_or_eq_true b
theorem gn{α:Type}{l:List α}{i:Nat}{a:α}:l[i]?=some a→∃h:i<l.length,l[i]=a:=List.getElem?_eq_some_iff.1
theorem e9{n m:Nat}:Nat.beq n m=true→n=m:=Nat.eq_of_beq_eq_true
theorem gE{n m:Nat}:Nat.ble n m=true→n≤m:=Nat.le_of_ble_eq_true
theorem fA{α:Type}{i:Nat}{l:List α}(h:i<l.length):l.drop i=l[i]::l.drop (i+1):=List.drop_eq_getElem_cons h
namespace Go.Ah
open Go.RowKit (Below)
inductive aa where
 |aF
 |bool (b:Bool)
 |int (k:IntKind) (n:Int)
 |str (s:List UInt8)
 |ei
 |ai (b j:Nat)
 |ptr (b i j:Nat)
 |ao (row:List aa) (j:Nat)
 |aq
 |cK
 |sl (b off len:Nat) (ex:Bool)
 |ax (ex nn:Bool) (sz:Nat) (rows:List (List aa))
 |map (b:Nat)
 |eN (es:List (aa×aa))
 |cB
 |func (fn:Fn) (first captured:List aa)
 |bx
 |iface (t:TypeId) (v:aa)
 |cV
 |agg (cs:List aa)
 |bn (vs:List aa)
 |when (cs:List (Bool×Bool)) (x:aa)
 |iter (b:Nat)
 deriving Inhabited
structure CB where
 aE:Nat
 sz:Nat
 Du:Nat
 cS:Bool
 base:Nat
def gN(M:Nat→Option Obj)(b o:Nat):Option Value:=
 match M b with
 |some (.cells c _ _)=>c[o]?
 |_=>none
abbrev Own:=Nat→Option CB
def bg:Own:=λ_=>none
inductive Den (M:Nat→Option Obj):Own→aa→Value→Prop
 |aF (c:Own) (v:Value):Den M c .aF v
 |bool (c:Own) (b:Bool):Den M c (.bool b) (.bool b)
 |int (c:Own) (k:IntKind) (n:Int):Den M c (.int k n) (.int k n)
 |str (c:Own) (s:ByteArray):Den M c (.str s.data.toList) (.string s)
 |ei (c:Own):Den M c .ei (.pointer none)
 |ai (c:Own) (b j:Nat) (cb:CB):c b=some cb→Den M c (.ai b j) (.pointer (some ⟨cb.aE,j,none⟩))
 |ptr (c:Own) (b i j:Nat) (cb:CB):c b=some cb→Den M c (.ptr b i j) (.pointer (some ⟨cb.aE,cb.base+i*cb.sz+j,none⟩))
 |ao (c:Own) (row:List aa) (j aE off:Nat) (f:Nat→Value) :
   (∀k,k<row.length→gN M aE (off+k)=some (f k)) →
   (∀k x,row[k]?=some x→Den M bg x (f k)) →
   Den M c (.ao row j) (.pointer (some ⟨aE,off+j,none⟩))
 |aq (c:Own):Den M c .aq (.slice none 0 0)
 |cK (c:Own) (a:Option Addr):Den M c .cK (.slice a 0 0)
 |sl (c:Own) (b off len:Nat) (ex:Bool) (cb:CB) (cap:Nat):c b=some cb→cb.cS=false→len≤cap→cb.base+(off+cap)*cb.sz=cb.Du →
   (ex=true→cap=len)→Den M c (.sl b off len ex) (.slice (some ⟨cb.aE,cb.base+off*cb.sz,none⟩) len cap)
 |nO (c:Own) (b:Nat) (ex:Bool) (cb:CB) (a:Option Addr):c b=some cb→cb.cS=true→Den M c (.sl b 0 0 ex) (.slice a 0 0)
 |sle (c:Own) (b off:Nat) (ex:Bool) (cb:CB) (a:Option Addr):c b=some cb→cb.cS=false→cb.sz≠0→cb.base+off*cb.sz=cb.Du→Den M c (.sl b off 0 ex) (.slice a 0 0)
 |ax (c:Own) (ex nn:Bool) (sz:Nat) (rows:List (List aa)) (a:Option Addr) (cap aE off:Nat) (f:Nat→Nat→Value) :
   (ex=true→cap=rows.length)→(nn=true→a.isSome=true)→(rows≠[]→a=some ⟨aE,off,none⟩)→(a=none→cap=0)→rows.length≤cap →
   (∀(i:Nat) (row:List aa),rows[i]?=some row→row.length=sz) →
   (∀i j,i<rows.length→j<sz→gN M aE (off+(i*sz+j))=some (f i j)) →
   (∀i row j x,rows[i]?=some row→row[j]?=some x→Den M bg x (f i j)) →
   Den M c (.ax ex nn sz rows) (.slice a rows.length cap)
 |map (c:Own) (b:Nat) (cb:CB):c b=some cb→Den M c (.map b) (.map (some cb.aE))
 |eN (c:Own) (es:List (aa×aa)) (aE:Nat) (arr:Array MapEntry) (clock:Nat):M aE=some (.map arr clock)→arr.size=es.length →
   (∀(i:Nat) (k x:aa) (e:MapEntry),es[i]?=some (k,x)→arr[i]?=some e→Den M bg k e.key) →
   (∀(i:Nat) (k x:aa) (e:MapEntry),es[i]?=some (k,x)→arr[i]?=some e→Den M bg x e.val) →
   Den M c (.eN es) (.map (some aE))
 |cB (c:Own):Den M c .cB (.map none)
 |func (c:Own) (fn:Fn) (first captured:List aa) (vs ws:Array Value):vs.size=first.length→ws.size=captured.length →
   (∀(i:Nat) (x:aa) (v:Value),first[i]?=some x→vs[i]?=some v→Den M c x v)→(∀(i:Nat) (x:aa) (v:Value),captured[i]?=some x→ws[i]?=some v→Den M c x v) →
   Den M c (.func fn first captured) (.func fn vs ws)
 |bx (c:Own):Den M c .bx .nilFunc
 |iface (c:Own) (t:TypeId) (x:aa) (v:Value):Den M c x v→Den M c (.iface t x) (.iface t v)
 |cV (c:Own):Den M c .cV .nilIface
 |agg (c:Own) (cs:List aa) (vs:Array Value):vs.size=cs.length→(∀(i:Nat) (x:aa) (v:Value),cs[i]?=some x→vs[i]?=some v→Den M c x v)→Den M c (.agg cs) (.agg vs)
 |bn (c:Own) (cs:List aa) (vs:Array Value):vs.size=cs.length→(∀(i:Nat) (x:aa) (v:Value),cs[i]?=some x→vs[i]?=some v→Den M c x v)→Den M c (.bn cs) (.tuple vs)
 |when (c:Own) (cs:List (Bool×Bool)) (x:aa) (v:Value):((∀p∈cs,p.1=p.2)→Den M c x v)→(¬(∀p∈cs,p.1=p.2)→v=undef)→Den M c (.when cs x) v
 |iter (c:Own) (b:Nat) (cb:CB):c b=some cb→Den M c (.iter b) (.pointer (some ⟨cb.aE,0,none⟩))
def gZ(M M':Nat→Option Obj):Prop:=∀b o,M b=some o→M' b=some o
def fH(c c':Own):Prop:=∀b cb,c b=some cb→c' b=some cb
theorem gZ.refl(M:Nat→Option Obj):gZ M M:=λ_ _ h=>h
theorem gZ.trans{a b c:Nat→Option Obj}(h:gZ a b)(k:gZ b c):gZ a c:=λx o e=>k x o (h x o e)
theorem fH.refl(c:Own):fH c c:=λ_ _ h=>h
theorem fH.trans{a b c:Own}(h:fH a b)(k:fH b c):fH a c:=λx o e=>k x o (h x o e)
theorem fH.bg(c:Own):fH bg c:=λ_ _ h=>by simp[Ah.bg] at h
theorem RU{M M':Nat→Option Obj}(h:gZ M M'){b o:Nat}{v:Value}(e:gN M b o=some v):gN M' b o=some v:=by
 unfold gN at *;cases hb:M b with
 |none=>simp[hb] at e
 |some x=>rw[h b x hb]; simpa[hb] using e
theorem Den.mono{M M':Nat→Option Obj}(hM:gZ M M'){c:Own}{x:aa}{v:Value}(h:Den M c x v):∀ {c':Own},fH c c'→Den M' c' x v:=by
 induction h with
 |aF=>intros; exact .aF _ _
 |bool=>intros; exact .bool _ _
 |int=>intros; exact .int _ _ _
 |str=>intros; exact .str _ _
 |ei=>intros; exact .ei _
 |ai c b j cb e=>intro c' hc; exact .ai _ _ _ _ (hc _ _ e)
 |ptr c b i j cb e=>intro c' hc; exact .ptr _ _ _ _ _ (hc _ _ e)
 |ao c row j aE off f h1 h2 ih=>intro c' hc; exact .ao _ _ _ _ _ f (λk hk=>RU hM (h1 k hk)) (λk x e=>ih k x e (fH.refl _))
 |aq=>intros; exact .aq _
 |cK=>intros; exact .cK _ _
 |sl c b off len ex cb cap e h1 h2 h3 h4=>intro c' hc; exact .sl _ _ _ _ _ _ _ (hc _ _ e) h1 h2 h3 h4
 |nO c b ex cb a e h1=>intro c' hc; exact .nO _ _ _ _ _ (hc _ _ e) h1
 |sle c b off ex cb a e h1 h2 h3=>intro c' hc; exact .sle _ _ _ _ _ _ (hc _ _ e) h1 h2 h3
 |ax c ex nn sz rows a cap aE off f h1 h2 h3 wF h4 h5 h6 h7 ih=>
  intro c' hc; exact .ax _ _ _ _ _ _ _ aE off f h1 h2 h3 wF h4 h5 (λi j hi hj=>RU hM (h6 i j hi hj)) (λi row j x e1 e2=>ih i row j x e1 e2 (fH.refl _))
 |map c b cb e=>intro c' hc; exact .map _ _ _ (hc _ _ e)
 |eN c es aE arr clock e h1 h2 h3 sL sM=>
  intro c' hc; exact .eN _ _ _ _ _ (hM _ _ e) h1 (λi k x en e1 e2=>sL i k x en e1 e2 (fH.refl _)) (λi k x en e1 e2=>sM i k x en e1 e2 (fH.refl _))
 |cB=>intros; exact .cB _
 |func c fn first captured vs ws h1 h2 h3 h4 sL sM=>
  intro c' hc; exact .func _ _ _ _ _ _ h1 h2 (λi x v e1 e2=>sL i x v e1 e2 hc) (λi x v e1 e2=>sM i x v e1 e2 hc)
 |bx=>intros; exact .bx _
 |iface c t x v h ih=>intro c' hc; exact .iface _ _ _ _ (ih hc)
 |cV=>intros; exact .cV _
 |agg c cs vs h1 h2 ih=>intro c' hc; exact .agg _ _ _ h1 (λi x v e1 e2=>ih i x v e1 e2 hc)
 |bn c cs vs h1 h2 ih=>intro c' hc; exact .bn _ _ _ h1 (λi x v e1 e2=>ih i x v e1 e2 hc)
 |when c cs x v h h2 ih=>intro c' hc; exact .when _ _ _ _ (λhp=>ih hp hc) h2
 |iter c b cb e=>intro c' hc; exact .iter _ _ _ (hc _ _ e)
def aa.cell:aa→Bool
 |.aF | .agg _ | .bn _ | .when ..=>false
 |_=>true
theorem Den.sg{M:Nat→Option Obj}{c:Own}{x:aa}{v:Value}(h:Den M c x v)(hx:x.cell=true):v.oneCell'=true:=by
 cases h<;>simp_all [aa.cell,Value.oneCell']
inductive ab where
 |dead
 |box (row:List aa)
 |rows (sz:Nat) (rows:List (List aa))
 |map (es:List (aa×aa))
 |eF (s:List UInt8) (pos:Nat)
 deriving Inhabited
def ab.live:ab→Bool
 |.dead=>false
 |_=>true
def iq(M:Nat→Option Obj)(c:Own)(cb:CB)(o:Obj):ab→Prop
 |.dead=>True
 |.box row=>∃arr T,o=.cells arr T (0,0)∧arr.size=row.length∧∀(j:Nat) (x:aa) (v:Value),row[j]?=some x→arr[j]?=some v→Den M c x v
 |.rows sz rows=>cb.sz=sz∧∃arr T,o=.cells arr T (0,0)∧arr.size=cb.Du∧cb.base+rows.length*sz≤cb.Du∧(∀(i:Nat) (row:List aa),rows[i]?=some row→row.length=sz) ∧
   ∀(i:Nat) (row:List aa) (j:Nat) (x:aa) (v:Value),rows[i]?=some row→row[j]?=some x→arr[cb.base+i*sz+j]?=some v→Den M c x v
 |.map es=>∃arr clock,o=.map arr clock∧arr.size=es.length∧(∀(i:Nat) (k x:aa) (e:MapEntry),es[i]?=some (k,x)→arr[i]?=some e→Den M c k e.key∧Den M c x e.val)
 |.eF s p=>o=.stringIter ⟨s.toArray⟩ p
theorem iq.mono{M M':Nat→Option Obj}(hM:gZ M M'){c c':Own}(hc:fH c c'){cb:CB}{o:Obj}{b:ab}(h:iq M c cb o b):iq M' c' cb o b:=by
 cases b with
 |dead=>trivial
 |box row=>obtain⟨arr,T,h1,h2,h3⟩:=h; exact⟨arr,T,h1,h2,λj x v e1 e2=>(h3 j x v e1 e2).mono hM hc⟩
 |rows sz rows=>obtain⟨h0,arr,T,h1,h2,h3,h4,h5⟩:=h; exact⟨h0,arr,T,h1,h2,h3,h4,λi row j x v e1 e2 e3=>(h5 i row j x v e1 e2 e3).mono hM hc⟩
 |map es=>obtain⟨arr,clock,h1,h2,h3⟩:=h; exact⟨arr,clock,h1,h2,λi k x e e1 e2=>⟨(h3 i k x e e1 e2).1.mono hM hc,(h3 i k x e e1 e2).2.mono hM hc⟩⟩
 |eF s p=>exact h
structure Ln where
 l:List Nat
 M0:Nat→Option Obj
structure gY (L:Ln) (w w':World):Prop where
 os:w'.os=w.os
 tape:w'.tape=w.tape
 output:w'.output=w.output
 size:w.heap.size≤w'.heap.size
 block:∀k,k<w.heap.size→k∉L.l→w'.heap[k]?=w.heap[k]?
theorem gY.refl(L:Ln)(w:World):gY L w w:=⟨rfl,rfl,rfl,Nat.le_refl _,λ_ _ _=>rfl⟩
theorem gY.below{M:Nat→Option Obj}{w w':World}(h:gY ⟨[],M⟩ w w'):Below w.heap.size w w':=⟨h.os,h.tape,h.output,h.size,λk hk=>h.block k hk (by simp)⟩
abbrev Hp:=Nat→Option ab
def eA(h:Hp)(b:Nat)(x:ab):Hp:=λn=>if n=b then some x else h n
def cq(h:Hp):List (Nat×ab)→Hp
 |[]=>h
 |(b,x)::r=>cq (eA h b x) r
structure Gm where
 M:Nat→Option Obj
 c:Own
structure Gm.Le (g g':Gm):Prop where
 m:gZ g.M g'.M
 c:fH g.c g'.c
theorem Gm.Le.refl(g:Gm):g.Le g:=⟨gZ.refl _,fH.refl _⟩
theorem Gm.Le.trans{a b c:Gm}(h:a.Le b)(k:b.Le c):a.Le c:=⟨h.m.trans k.m,h.c.trans k.c⟩
def Gm.den(g:Gm)(x:aa)(v:Value):Prop:=Den g.M g.c x v
theorem Gm.kE{g g':Gm}(h:g.Le g'){x:aa}{v:Value}(d:g.den x v):g'.den x v:=Den.mono h.m d h.c
abbrev aw:=List (Nat×List aa)
structure br (GL:aw) (w0:World) (L:Ln) (g:Gm) (h:Hp) (w:World):Prop where
 keeps:gY L w0 w
 aR:∀b o,g.M b=some o→w.heap[b]?=some o
 src:∀b o,g.M b=some o→L.M0 b=some o∨w0.heap.size≤b∨b∈L.l
 bY:∀p∈GL,Den g.M bg (.ao p.2 0) (.pointer (some ⟨p.1,0,none⟩))
 dD:∀b,h b=none→g.c b=none
 iM:∀b aE,h b=some aE→∃cb,g.c b=some cb
 own:∀b aE cb,h b=some aE→aE.live=true→g.c b=some cb→cb.cS=false→g.M cb.aE=none∧(cb.aE∈L.l∨w0.heap.size≤cb.aE)∧∃o,w.heap[cb.aE]?=some o∧iq g.M g.c cb o aE
 aX:∀b aE cb,h b=some aE→aE.live=true→g.c b=some cb→cb.cS=true→aE=.rows cb.sz []
 inj:∀b b' aE blk' cb dR,h b=some aE→h b'=some blk'→aE.live=true→blk'.live=true→g.c b=some cb→g.c b'=some dR→cb.cS=false→dR.cS=false→cb.aE=dR.aE→b=b'
end Go.Ah
end
section
namespace Go.Ah
theorem Qu(h:Hp)(b:Nat)(x:ab):eA h b x b=some x:=by simp[eA]
theorem Yq(h:Hp){b n:Nat}(x:ab)(e:n≠b):eA h b x n=h n:=by simp[eA,e]
def kr(c:Own)(b:Nat)(x:CB):Own:=λn=>if n=b then some x else c n
theorem Xz(c:Own)(b:Nat)(x:CB):kr c b x b=some x:=by simp[kr]
theorem Q3(c:Own){b n:Nat}(x:CB)(e:n≠b):kr c b x n=c n:=by simp[kr,e]
theorem fH.kr{c:Own}{b:Nat}{x:CB}(h:c b=none):fH c (kr c b x):=by
 intro n cb e
 grind [Q3]
theorem gY.trans'{L:Ln}{a b c:World}(h:gY L a b)(os:c.os=b.os)(tape:c.tape=b.tape)(output:c.output=b.output)(size:b.heap.size≤c.heap.size)
 (block:∀k,k<a.heap.size→k∉L.l→c.heap[k]?=b.heap[k]?):gY L a c:=
 ⟨os.trans h.os,tape.trans h.tape,output.trans h.output,Nat.le_trans h.size size,λk hk hl=>(block k hk hl).trans (h.block k hk hl)⟩
section
variable {GL:aw} {w0:World} {L:Ln} {g:Gm} {h:Hp} {w:World}
theorem br.dw(r:br GL w0 L g h w){b:Nat}{aE:ab}{cb:CB}(e:h b=some aE)(hl:aE.live=true)(ec:g.c b=some cb)(hv:cb.cS=false):cb.aE<w.heap.size:=by
 obtain⟨_,_,o,ho,_⟩:=r.own b aE cb e hl ec hv
 grind
theorem br.fG(r:br GL w0 L g h w){b:Nat}{o:Obj}(e:g.M b=some o):b<w.heap.size:=
 (Array.getElem?_eq_some_iff.1 (r.aR b o e)).1
theorem br.drew(r:br GL w0 L g h w):br GL w0 L g h w.drew:=
 { r with keeps:=r.keeps.trans' rfl rfl rfl (Nat.le_refl _) (λ_ _ _=>rfl),aR:=r.aR,own:=r.own }
theorem br.alloc(r:br GL w0 L g h w){nb:Nat}(hn:h nb=none){o:Obj}{aE:ab}{cb:CB}(hb:cb.aE=w.heap.size)(hv:cb.cS=false)(yG:aE.live=true)
 (ok:iq g.M (kr g.c nb cb) cb o aE):br GL w0 L ⟨g.M,kr g.c nb cb⟩ (eA h nb aE) (w.alloc o) where
 keeps:=r.keeps.trans' rfl rfl rfl (by simp) (λk hk _=>by
  show (w.heap.push o)[k]?=_;have:=r.keeps.size
  grind)
 aR:=λb o' e=>by
  have:=r.fG e;show (w.heap.push o)[b]?=_;rw[Array.getElem?_push,if_neg (by omega)]; exact r.aR b o' e
 bY:=r.bY
 src:=r.src
 dD:=λb e=>by
  by_cases mP:b=nb
  ·subst mP; rw[Qu] at e; cases e
  ·rw[Yq _ _ mP] at e; show kr g.c nb cb b=none; rw[Q3 _ _ mP]; exact r.dD b e
 iM:=λb blk' e=>by
  by_cases mP:b=nb
  ·simp_all [Xz]
  ·rw[Yq _ _ mP] at e; obtain⟨x,hx⟩:=r.iM b blk' e; simp_all [Q3]
 own:=λb blk' dR e hl ec qt=>by
  have D7:=r.dD nb hn;by_cases mP:b=nb
  ·subst mP;rw[Qu] at e; cases e;have:dR=cb:=by grind [Xz]
   subst this;refine⟨?_,.inr (by rw[hb]; exact r.keeps.size),o,?_,ok⟩
   ·cases hM:g.M dR.aE with
    |none=>rfl
    |some x=>have:=r.fG hM; omega
   ·show (w.heap.push o)[dR.aE]?=_; rw[hb]; simp
  ·rw[Yq _ _ mP] at e;have fW:g.c b=some dR:=by simp_all [Q3]
   obtain⟨h1,h2,o',ho,bV⟩:=r.own b blk' dR e hl fW qt;have:=r.dw e hl fW qt;refine⟨h1,h2,o',?_,bV.mono (gZ.refl _) (fH.kr D7)⟩;show (w.heap.push o)[dR.aE]?=_
   grind
 aX:=λb blk' dR e hl ec qt=>by
  by_cases mP:b=nb
  ·grind [Xz]
  ·rw[Yq _ _ mP] at e;have fW:g.c b=some dR:=by simp_all [Q3]
   exact r.aX b blk' dR e hl fW qt
 inj:=λb b' NG NH qo cb2 e1 e2 l1 l2 c1 c2 v1 v2 gu=>by
  have key:∀b blk' dR,eA h nb aE b=some blk'→blk'.live=true→kr g.c nb cb b=some dR→dR.cS=false→b≠nb→dR.aE<w.heap.size:=by
   intro b blk' dR e hl ec qt mP;rw[Yq _ _ mP] at e; rw[Q3 _ _ mP] at ec;exact r.dw e hl ec qt
  by_cases h1:b=nb
  ·grind [Xz]
  ·by_cases h2:b'=nb
   ·grind [Xz]
   ·rw[Yq _ _ h1] at e1; rw[Yq _ _ h2] at e2;have tD:g.c b=some qo:=by simp_all [Q3]
    have pg:g.c b'=some cb2:=by simp_all [Q3]
    exact r.inj b b' NG NH qo cb2 e1 e2 l1 l2 tD pg v1 v2 gu
theorem br.jo(r:br GL w0 L g h w){nb:Nat}(hn:h nb=none)(cb:CB):g.Le ⟨g.M,kr g.c nb cb⟩:=⟨gZ.refl _,fH.kr (r.dD nb hn)⟩
theorem br.write(r:br GL w0 L g h w){b:Nat}{aE blk':ab}{cb:CB}(e:h b=some aE)(hl:aE.live=true)(ec:g.c b=some cb)(hv:cb.cS=false)(lq:blk'.live=true)
 {o':Obj}{w':World}(sG:w'.os=w.os)(uK:w'.tape=w.tape)(mY:w'.output=w.output)(ux:w'.heap=w.heap.setIfInBounds cb.aE o')
 (ok:iq g.M g.c cb o' blk'):br GL w0 L g (eA h b blk') w':=by
 have cp:=r.dw e hl ec hv;obtain⟨hM,cY,_⟩:=r.own b aE cb e hl ec hv;have other:∀k,k≠cb.aE→w'.heap[k]?=w.heap[k]?:=by
  grind
 exact {
  keeps:=r.keeps.trans' sG uK mY (by rw[ux]; simp) (λk hk mW=>other k (by
   grind))
  aR:=λk o ek=>by rw[other k (by rintro rfl; rw[hM] at ek; cases ek)]; exact r.aR k o ek
  bY:=r.bY
  src:=r.src
  dD:=λn en=>by
   by_cases hn:n=b
   ·subst hn; rw[Qu] at en; cases en
   ·rw[Yq _ _ hn] at en; exact r.dD n en
  iM:=λn x en=>by
   by_cases hn:n=b
   ·subst hn; exact⟨cb,ec⟩
   ·rw[Yq _ _ hn] at en; exact r.iM n x en
  own:=λn x dR en iE oX pM=>by
   by_cases hn:n=b
   ·simp_all [Qu]
   ·rw[Yq _ _ hn] at en;obtain⟨h1,h2,o,ho,bV⟩:=r.own n x dR en iE oX pM;refine⟨h1,h2,o,?_,bV⟩;rw[other _ (λeq=>hn (r.inj n b x aE dR cb en e iE hl oX ec pM hv eq))]; exact ho
  aX:=λn x dR en iE oX pM=>by
   by_cases hn:n=b
   ·simp_all
   ·rw[Yq _ _ hn] at en; exact r.aX n x dR en iE oX pM
  inj:=λn n' x x' qo cb2 e1 e2 l1 l2 c1 c2 v1 v2 gu=>by
   have back:∀n x,eA h b blk' n=some x→x.live=true→∃y,h n=some y∧y.live=true:=by
    grind [Yq]
   obtain⟨y1,f1,g1⟩:=back n x e1 l1;obtain⟨y2,f2,g2⟩:=back n' x' e2 l2;exact r.inj n n' y1 y2 qo cb2 f1 f2 g1 g2 c1 c2 v1 v2 gu }
theorem br.kill(r:br GL w0 L g h w){b:Nat}{aE:ab}(e:h b=some aE):br GL w0 L g (eA h b .dead) w where
 keeps:=r.keeps
 aR:=r.aR
 bY:=r.bY
 src:=r.src
 dD:=λn en=>by
  by_cases hn:n=b
  ·subst hn; rw[Qu] at en; cases en
  ·rw[Yq _ _ hn] at en; exact r.dD n en
 iM:=λn x en=>by
  by_cases hn:n=b
  ·subst hn; exact r.iM n aE e
  ·rw[Yq _ _ hn] at en; exact r.iM n x en
 own:=λn x dR en iE=>by
  by_cases hn:n=b
  ·grind [ab.live,Qu]
  ·rw[Yq _ _ hn] at en; exact r.own n x dR en iE
 aX:=λn x dR en iE=>by
  by_cases hn:n=b
  ·grind [ab.live,Qu]
  ·rw[Yq _ _ hn] at en; exact r.aX n x dR en iE
 inj:=λn n' x x' qo cb2 e1 e2 l1 l2=>by
  have back:∀n x,eA h b .dead n=some x→x.live=true→h n=some x:=by
   grind [ab.live,Qu,Yq]
  exact r.inj n n' x x' qo cb2 (back n x e1 l1) (back n' x' e2 l2) l1 l2
theorem br.ghost(r:br GL w0 L g h w){nb:Nat}(hn:h nb=none)(sz:Nat):br GL w0 L ⟨g.M,kr g.c nb ⟨0,sz,0,true,0⟩⟩ (eA h nb (.rows sz [])) w:=by
 have D7:=r.dD nb hn;have FW:=fH.kr (x:=⟨0,sz,0,true,0⟩) D7;have tL:∀n cb,kr g.c nb ⟨0,sz,0,true,0⟩ n=some cb→cb.cS=false→g.c n=some cb∧n≠nb:=by
  grind [Xz,Q3]
 exact {
  keeps:=r.keeps
  aR:=r.aR
  bY:=r.bY
  src:=r.src
  dD:=λn en=>by
   by_cases mP:n=nb
   ·simp_all [Qu]
   ·rw[Yq _ _ mP] at en; show kr g.c nb _ n=none; rw[Q3 _ _ mP]; exact r.dD n en
  iM:=λn x en=>by
   by_cases mP:n=nb
   ·simp_all [Xz]
   ·rw[Yq _ _ mP] at en; obtain⟨x,hx⟩:=r.iM n x en; simp_all [Q3]
  own:=λn x cb en iE oX pM=>by
   obtain⟨ec,mP⟩:=tL n cb oX pM;rw[Yq _ _ mP] at en;obtain⟨h1,h2,o,ho,bV⟩:=r.own n x cb en iE ec pM;exact⟨h1,h2,o,ho,bV.mono (gZ.refl _) FW⟩
  aX:=λn x cb en iE oX pM=>by
   by_cases mP:n=nb
   ·grind [Qu,Xz]
   ·rw[Yq _ _ mP] at en;have:kr g.c nb ⟨0,sz,0,true,0⟩ n=some cb:=oX;rw[Q3 _ _ mP] at this;exact r.aX n x cb en iE this pM
  inj:=λn n' x x' qo cb2 e1 e2 l1 l2 c1 c2 v1 v2 gu=>by
   obtain⟨d1,n1⟩:=tL n qo c1 v1;obtain⟨d2,n2⟩:=tL n' cb2 c2 v2;rw[Yq _ _ n1] at e1; rw[Yq _ _ n2] at e2;exact r.inj n n' x x' qo cb2 e1 e2 l1 l2 d1 d2 v1 v2 gu }
def mi(M:Nat→Option Obj)(b:Nat)(o:Obj):Nat→Option Obj:=λn=>if n=b then some o else M n
theorem br.freeze(r:br GL w0 L g h w){b:Nat}{aE:ab}{cb:CB}{o:Obj}(e:h b=some aE)(hl:aE.live=true)(ec:g.c b=some cb)(hv:cb.cS=false)(ho:w.heap[cb.aE]?=some o) :
  g.Le ⟨mi g.M cb.aE o,g.c⟩∧br GL w0 L ⟨mi g.M cb.aE o,g.c⟩ (eA h b .dead) w:=by
 obtain⟨hM,cY,_⟩:=r.own b aE cb e hl ec hv;have Ap:gZ g.M (mi g.M cb.aE o):=by
  intro n x en
  grind [mi]
 have k:=r.kill e;refine⟨⟨Ap,fH.refl _⟩,?_⟩;exact {
  keeps:=k.keeps
  aR:=λn x en=>by
   by_cases hn:n=cb.aE
   ·simp_all [mi]
   ·have:mi g.M cb.aE o n=some x:=en;simp[mi,hn] at this; exact r.aR n x this
  bY:=λp hp=>(r.bY p hp).mono Ap (fH.refl _)
  src:=λn x en=>by
   by_cases hn:n=cb.aE
   ·grind
   ·have:mi g.M cb.aE o n=some x:=en;simp[mi,hn] at this; exact r.src n x this
  dD:=k.dD
  iM:=k.iM
  own:=λn x dR en iE oX pM=>by
   obtain⟨h1,h2,o',eI,bV⟩:=k.own n x dR en iE oX pM;have Aa:n≠b:=by rintro rfl; grind [ab.live,Qu]
   have VF:=en;rw[Yq _ _ Aa] at VF;have cL:dR.aE≠cb.aE:=λeq=>Aa (r.inj n b x aE dR cb VF e iE hl oX ec pM hv eq);exact⟨by simp_all [mi],h2,o',eI,bV.mono Ap (fH.refl _)⟩
  aX:=k.aX
  inj:=k.inj }
end
end Go.Ah
end
section
namespace Go.Ah
def nth{α:Type}:List α→Nat→Option α
 |[],_=>none
 |x::_,0=>some x
 |_::l,n+1=>nth l n
def iB{α:Type}:Nat→List α→List α
 |0,l=>l
 |_+1,[]=>[]
 |n+1,_::l=>iB n l
def takeN{α:Type}:Nat→List α→Option (List α)
 |0,_=>some []
 |_+1,[]=>none
 |n+1,x::l=>match takeN n l with
  |some r=>some (x::r)
  |none=>none
def cr{α:Type}:Nat→List α→List α→Option (List α)
 |_,[],l=>some l
 |0,_::_,[]=>none
 |0,c::cs,_::l=>match cr 0 cs l with
  |some r=>some (c::r)
  |none=>none
 |_+1,_::_,[]=>none
 |j+1,c::cs,x::l=>match cr j (c::cs) l with
  |some r=>some (x::r)
  |none=>none
def YM{α:Type}:Nat→α→List α→Option (List α)
 |_,_,[]=>none
 |0,c,_::l=>some (c::l)
 |j+1,c,x::l=>match YM j c l with
  |some r=>some (x::r)
  |none=>none
def chunk{α:Type}(sz:Nat):Nat→List α→Option (List (List α))
 |0,_=>some []
 |n+1,l=>match takeN sz l,chunk sz n (iB sz l) with
  |some r,some rs=>some (r::rs)
  |_,_=>none
theorem Y7{α:Type}(l:List α)(n:Nat):nth l n=l[n]?:=by
 induction l generalizing n with
 |nil=>simp[nth]
 |cons x l ih=>cases n<;>simp_all [nth]
theorem Jx{α:Type}(n:Nat)(l:List α):iB n l=l.drop n:=by
 induction n generalizing l with
 |zero=>simp[iB]
 |succ n ih=>cases l<;>simp_all [iB]
theorem Mr{α:Type}{n:Nat}{l r:List α}(h:takeN n l=some r):r.length=n∧n≤l.length∧∀i,i<n→r[i]?=l[i]?:=by
 induction n generalizing l r with
 |zero=>simp_all [takeN]
 |succ n ih=>
  cases l<;>grind [takeN]
theorem Lm{α:Type}{j:Nat}{cs l r:List α}(h:cr j cs l=some r):r.length=l.length∧(cs≠[]→j+cs.length≤l.length)∧∀i,r[i]?=if j≤i∧i<j+cs.length then cs[i-j]? else l[i]?:=by
 induction l generalizing j cs r with
 |nil=>
  cases cs with
  |nil=>simp_all [cr]
  |cons c cs=>cases j<;>simp[cr] at h
 |cons x l ih=>
  cases cs with
  |nil=>simp only[cr] at h; grind
  |cons c cs=>
   cases j with
   |zero=>
    grind [cr]
   |succ j=>
    simp only[cr] at h;cases ht:cr j (c::cs) l<;>grind
theorem Zb8{α:Type}{j:Nat}{c:α}{l r:List α}(h:YM j c l=some r):r.length=l.length∧j<l.length∧∀i,r[i]?=if i=j then some c else l[i]?:=by
 induction l generalizing j r with
 |nil=>cases j<;>simp[YM] at h
 |cons x l ih=>
  cases j with
  |zero=>simp only[YM] at h; grind
  |succ j=>
   grind [YM]
theorem Qcq{α:Type}{sz n:Nat}{l:List α}{rs:List (List α)}(h:chunk sz n l=some rs):rs.length=n∧(n*sz≤l.length∨n=0)∧(∀(i:Nat) (row:List α),rs[i]?=some row→row.length=sz) ∧
  ∀(i:Nat) (row:List α) (j:Nat) (x:α),rs[i]?=some row→row[j]?=some x→l[i*sz+j]?=some x:=by
 induction n generalizing l rs with
 |zero=>simp_all [chunk]
 |succ n ih=>
  simp only[chunk] at h;cases ht:takeN sz l with
  |none=>simp[ht] at h
  |some r=>
   cases hc:chunk sz n (iB sz l) with
   |none=>simp[ht,hc] at h
   |some rs'=>
    simp only[ht,hc] at h; cases h;obtain⟨t1,t2,t3⟩:=Mr ht;obtain⟨h1,h2,h3,h4⟩:=ih hc;rw[Jx] at h2 h4;refine⟨by simp[h1],.inl ?_,λi row e=>?_,λi row j x e1 e2=>?_⟩
    ·grind
    ·grind
    ·cases i with
     |zero=>
      grind
     |succ i=>
      simp at e1
      grind
def nQ:Value→Option aa
 |.bool b=>some (.bool b)
 |.int k n=>some (.int k n)
 |.string s=>some (.str s.data.toList)
 |.pointer none=>some .ei
 |.slice none 0 0=>some .aq
 |.map none=>some .cB
 |.nilFunc=>some .bx
 |.nilIface=>some .cV
 |_=>none
def QL:List Value→Option (List aa)
 |[]=>some []
 |v::l=>match nQ v,QL l with
  |some x,some r=>some (x::r)
  |_,_=>none
def ou:Value→Option aa
 |.agg cs=>(QL cs.toList).map .agg
 |v=>nQ v
theorem SH{M:Nat→Option Obj}{c:Own}{v:Value}{x:aa}(h:nQ v=some x):Den M c x v:=by
 unfold nQ at h;split at h<;>first|(cases h; constructor)|cases h
theorem ZT{M:Nat→Option Obj}{c:Own}{l:List Value}{xs:List aa}(h:QL l=some xs):l.length=xs.length∧∀(i:Nat) (x:aa) (v:Value),xs[i]?=some x→l[i]?=some v→Den M c x v:=by
 induction l generalizing xs with
 |nil=>simp_all [QL]
 |cons v l ih=>
  grind [QL,SH]
theorem JT{M:Nat→Option Obj}{c:Own}{v:Value}{x:aa}(h:ou v=some x):Den M c x v:=by
 unfold ou at h;split at h
 ·rename_i cs;cases hc:QL cs.toList with
  |none=>simp[hc] at h
  |some xs=>
   simp[hc] at h; subst h;obtain⟨h1,h2⟩:=ZT (M:=M) (c:=c) hc;exact .agg _ _ _ (by simpa using h1) (λi x v e1 e2=>h2 i x v e1 (by simpa using e2))
 ·exact SH h
abbrev Frame:=List (Nat×aa)
def bB:Frame→Nat→aa
 |[],_=>.aF
 |(k,v)::r,n=>bif Nat.beq k n then v else bB r n
inductive ql where
 |t (n:Nat)
 |c (v:aa)
 deriving Inhabited
def ev(ρ:Frame):ql→aa
 |.t n=>bB ρ n
 |.c v=>v
inductive jN (GL:aw):Operand→ql→Prop
 |tmp (t:Nat):jN GL (.tmp t) (.t t)
 |const (v:Value) (x:aa):ou v=some x→jN GL (.const v) (.c x)
 |Ge (g:Nat) (row:List aa):(g,row)∈GL→jN GL (.global g) (.c (.ao row 0))
 |func (f:FuncId):jN GL (.func f) (.c (.func (.func f) [] []))
structure cD (n:Nat) (g:Gm) (ρ:Frame) (a:Act):Prop where
 size:a.tmps.size=n
 slot:∀t,g.den (bB ρ t) (a.tmps.getD t undef)
 defers:a.defers=[]
theorem cD.mono{n:Nat}{g g':Gm}{ρ:Frame}{a:Act}(h:cD n g ρ a)(hg:g.Le g'):cD n g' ρ a:=⟨h.size,λt=>Gm.kE hg (h.slot t),h.defers⟩
theorem QR(ρ:Frame)(d:Nat)(v:aa)(t:Nat):bB ((d,v)::ρ) t=if t=d then v else bB ρ t:=by
 simp only[bB];by_cases h:t=d
 ·subst h; simp[Nat.beq_refl]
 ·rw[if_neg h]
  grind [e9]
theorem cD.put{n:Nat}{g:Gm}{ρ:Frame}{a:Act}(h:cD n g ρ a){d:Nat}(hd:d<n){x:aa}{v:Value}(hx:g.den x v):cD n g ((d,x)::ρ) (a.put (some d) v):=by
 refine⟨by simp[Act.put,h.size],λt=>?_,h.defers⟩;rw[QR];have hs:=h.size;by_cases ht:t=d
 ·simp_all [Act.put]
 ·rw[if_neg ht];have:(a.put (some d) v).tmps.getD t undef=a.tmps.getD t undef:=by
   simp[Act.put,Array.getD_eq_getD_getElem?,Array.getElem?_setIfInBounds_ne (λe=>ht e.symm)]
  rw[this]; exact h.slot t
theorem cD.Wz{GL:aw}{w0:World}{L:Ln}{g:Gm}{h:Hp}{w:World}(r:br GL w0 L g h w){n:Nat}{ρ:Frame}{a:Act}(d:cD n g ρ a){x:Operand}{y:ql}(ok:jN GL x y):g.den (ev ρ y) (a.eval x):=by
 cases ok with
 |tmp t=>exact d.slot t
 |const v x e=>exact JT e
 |Ge gl row e=>exact(r.bY _ e).mono (gZ.refl _) (fH.bg _)
 |func f=>exact .func _ _ _ _ _ _ rfl rfl (by simp) (by simp)
inductive ea where
 |ptr|slice|iface|func|map
 deriving Inhabited
inductive MK where
 |mv
 |pick
 |alloc (z:List aa)
 |box
 |build (z:List aa) (ps:List (Nat×Nat))
 |lh (sz n:Nat) (z:List aa) (ps:List (Nat×Nat))
 |load (agg:Bool) (n:Nat)
 |store (n:Nat)
 |nilCheck
 |bin (op:BinOp) (isBool:Bool)
 |mJ (c:ea) (neq left:Bool)
 |yp (neq:Bool) (ls:List Bool)
 |un (op:UnOp)
 |conv (k:IntKind)
 |h_ (t:TypeId)
 |jr (fn:Fn) (n:Nat)
 |makeMap
 |fieldAddr (off:Nat)
 |field (agg:Bool) (off n:Nat)
 |fL (len lL:Nat)
 |eL (lL:Nat)
 |pO (agg:Bool) (len lL:Nat)
 |j_
 |extract (i:Nat)
 |cx (lL:Nat) (lo hi mx:Bool)
 |ej (lo hi:Bool)
 |pR
 |jq
 |pQ (n:Nat)
 |lx
 |min2
 |max2
 |append (lL bytes:Nat) (z:List aa)
 |call (f:FuncId)
 |jh
 |lookup (str ok:Bool) (z:aa)
 |kf (str:Bool)
 |range
 |next
 |eO (t:TypeId) (ok:Bool) (z:aa)
 |invoke (name:String) (nw:List (TypeId×FuncId))
 |gG (lL:Nat) (z:List aa)
 |pT (lL bytes:Nat) (z:List aa)
 |kD (lL:Nat)
 |bad
 |fI (nw:List TypeId)
 deriving Inhabited
def eS(P:Program)(t:TypeId):Option Bool:=
 match P.underlying t with
 |some (.struct _)=>some true
 |some (.array _ _)=>some true
 |some _=>some false
 |none=>none
def size?(P:Program)(t:TypeId):Option Nat:=(P.info? t).map (·.size)
def dI(P:Program)(t:TypeId):Option Value:=(P.info? t).bind (·.zero)
def eg(P:Program)(t:TypeId):Option TypeId:=
 match P.underlying t with
 |some (.slice e)=>some e
 |_=>none
def sr(P:Program)(t:TypeId):Option ea:=
 match P.underlying t with
 |some (.pointer _)=>some .ptr
 |some (.slice _)=>some .slice
 |some (.interface _)=>some .iface
 |some (.func _ _ _)=>some .func
 |some (.map _ _)=>some .map
 |_=>none
def js:ea→Value
 |.ptr=>.pointer none
 |.slice=>.slice none 0 0
 |.iface=>.nilIface
 |.func=>.nilFunc
 |.map=>.map none
def lM(P:Program)(t:TypeId):Option Bool:=
 match P.underlying t with
 |some (.int _)=>some false
 |some .bool=>some true
 |_=>none
def oN(P:Program)(t:TypeId):Option (List Bool):=
 match P.underlying t with
 |some (.struct fs)=>
  if fs.toList.all (λf=>f.name != "_")&&(fs.toList.map (·.offset)==List.range' 0 fs.toList.length) then fs.toList.mapM (λf=>lM P f.type) else none
 |_=>none
def Qj(P:Program)(f:FuncId):Bool:=
 match P.funcs[f]? with
 |some fn=>fn.name != "runtime.NumGoroutine" && fn.body.isSome
 |none=>false
def JJ(P:Program)(name:String)(t:TypeId):Option FuncId:=
 match P.info? t with
 |none=>none
 |some i=>match i.methods.find? (·.name==name) with
  |none=>none
  |some m=>match m.path.isEmpty,m.func,P.underlying t with
   |true,some (f,true),some (.pointer _)=>some f
   |true,some (_,false),some (.pointer _)=>none
   |true,some (f,false),some _=>some f
   |_,_,_=>none
def Vb(P:Program)(name:String):List (TypeId×FuncId):=(List.range P.types.size).filterMap λt=>match JJ P name t with
 |some f=>bif Qj P f then some (t,f) else none
 |none=>none
def Fl(t:Nat):List (Nat×Nat)→Option Nat
 |[]=>none
 |(u,f)::r=>bif Nat.beq t u then some f else Fl t r
theorem Mz{t f:Nat}:∀ {l:List (Nat×Nat)},Fl t l=some f→(t,f)∈l
 |[],h=>by cases h
 |(u,g)::r,h=>by
  unfold Fl at h;cases hb:Nat.beq t u with
  |true=>rw[hb] at h; cases h; rw[e9 hb]; simp
  |false=>rw[hb] at h; exact List.mem_cons_of_mem _ (Mz h)
def so(P:Program)(k:TypeId):Bool→Prop
 |true=>P.underlying k=some .string
 |false=>∃q,P.underlying k=some (.int q)
inductive bW (P:Program) (GL:aw):Op→MK→List Operand→Prop
 |move (x:Operand):bW P GL (.move x) .mv [x]
 |assign (x:Operand):bW P GL (.assign x) .mv [x]
 |pick (c a b:Operand):bW P GL (.pick c a b) .pick [c,a,b]
 |alloc (t:TypeId) (v:Value) (z:List aa):dI P t=some v→QL v.cells.toList=some z→bW P GL (.alloc t) (.alloc z) []
 |box (t:TypeId) (x:Operand):bW P GL (.box t x) .box [x]
 |buildStruct (t:TypeId) (fs:Array Field) (v:Value) (z:List aa) (parts:Array (Nat×Operand)) (places ps:List (Nat×Nat)) :
   P.underlying t=some (.struct fs)→dI P t=some v→QL v.cells.toList=some z→fs.toList.mapM (λf=>(P.info? f.type).map λi=>(f.offset,i.size))=some places →
   parts.toList.map (λp=>places[p.1]?)=ps.map some→bW P GL (.build t parts) (.build z ps) (parts.toList.map (·.2))
 |mz (t:TypeId) (n:Nat) (e:TypeId) (v:Value) (z:List aa) (parts:Array (Nat×Operand)) (ps:List (Nat×Nat)) (sz:Nat) :
   P.underlying t=some (.array n e)→dI P t=some v→QL v.cells.toList=some z→size? P e=some sz →
   parts.toList.map (λp=>(p.1*sz,sz))=ps→bW P GL (.build t parts) (.build z ps) (parts.toList.map (·.2))
 |buildSlice (t:TypeId) (n:Nat) (e:TypeId) (v:Value) (z0 z:List aa) (parts:Array (Nat×Operand)) (ps:List (Nat×Nat)) (sz:Nat) :
   eg P t=some e→size? P e=some sz→n*sz≤2 ^ 24→n*sz≠0→dI P e=some v→v.cells.size=sz→QL v.cells.toList=some z0→(List.replicate n z0).flatten=z →
   parts.toList.map (λp=>(p.1*sz,sz))=ps→bW P GL (.buildSlice t n parts) (.lh sz n z ps) (parts.toList.map (·.2))
 |lK (t e:TypeId) (sz:Nat) (parts:Array (Nat×Operand)):eg P t=some e→size? P e=some sz→parts.toList=[]→bW P GL (.buildSlice t 0 parts) (.kD sz) []
 |makeSlice (t:TypeId) (l:Operand) (e:TypeId) (v:Value) (n by_:Nat) (z:List aa):eg P t=some e→size? P e=some n→(P.info? e).map (·.bytes)=some by_→n≠0→dI P e=some v→v.cells.size=n→QL v.cells.toList=some z →
   bW P GL (.makeSlice t l l) (.pT n by_ z) [l]
 |load (t:TypeId) (x:Operand) (agg:Bool) (n:Nat):eS P t=some agg→size? P t=some n→bW P GL (.load t x) (.load agg n) [x]
 |store (t:TypeId) (x y:Operand) (n:Nat):size? P t=some n→bW P GL (.store t x y) (.store n) [x,y]
 |nilCheck (x:Operand):bW P GL (.nilCheck x) .nilCheck [x]
 |bin (op:BinOp) (t t':TypeId) (x y:Operand) (b:Bool):(b=true→P.underlying t=some .bool)→bW P GL (.binOp op t x y t') (.bin op b) [x,y]
 |tZ (c:ea) (neq:Bool) (t t':TypeId) (x:Operand):sr P t=some c→bW P GL (.binOp (if neq then .neq else .eql) t x (.const (js c)) t') (.mJ c neq false) [x,.const (js c)]
 |tY (c:ea) (neq:Bool) (t t':TypeId) (y:Operand):sr P t=some c→bW P GL (.binOp (if neq then .neq else .eql) t (.const (js c)) y t') (.mJ c neq true) [.const (js c),y]
 |yp (neq:Bool) (t t':TypeId) (x y:Operand) (ls:List Bool):oN P t=some ls→P.stoodInHeld t=false→P.eqGuardType P.depth t=false →
   bW P GL (.binOp (if neq then .neq else .eql) t x y t') (.yp neq ls) [x,y]
 |un (op:UnOp) (t:TypeId) (x:Operand):bW P GL (.unOp op t x) (.un op) [x]
 |conv (s d:TypeId) (x:Operand) (k:IntKind):(P.underlying s).isSome=true→P.underlying d=some (.int k)→bW P GL (.convert s d x) (.conv k) [x]
 |h_ (t:TypeId) (x:Operand):P.concrete t=true→bW P GL (.makeInterface t x) (.h_ t) [x]
 |jr (fn:Fn) (xs ys:Array Operand):bW P GL (.makeFunc fn xs ys) (.jr fn xs.size) (xs.toList++ys.toList)
 |makeMap (t:TypeId):bW P GL (.makeMap t none) .makeMap []
 |fieldAddr (t:TypeId) (x:Operand) (f:Nat) (fs:Array Field) (fd:Field) (n:Nat):P.underlying t=some (.struct fs)→fs[f]?=some fd→size? P fd.type=some n→n≠0 →
   bW P GL (.fieldAddr t x f) (.fieldAddr fd.offset) [x]
 |field (t:TypeId) (x:Operand) (f:Nat) (fs:Array Field) (fd:Field) (agg:Bool) (n:Nat):P.underlying t=some (.struct fs)→fs[f]?=some fd→size? P fd.type=some n→eS P fd.type=some agg →
   bW P GL (.field t x f) (.field agg fd.offset n) [x]
 |fL (t:TypeId) (x i:Operand) (len:Nat) (e:TypeId) (n:Nat):P.underlying t=some (.array len e)→size? P e=some n→bW P GL (.indexAddr t x i) (.fL len n) [x,i]
 |eL (t:TypeId) (x i:Operand) (e:TypeId) (n:Nat):P.underlying t=some (.slice e)→size? P e=some n→bW P GL (.indexAddr t x i) (.eL n) [x,i]
 |pO (t:TypeId) (x i:Operand) (len:Nat) (e:TypeId) (n:Nat) (agg:Bool):P.underlying t=some (.array len e)→size? P e=some n→eS P e=some agg →
   bW P GL (.index t x i) (.pO agg len n) [x,i]
 |j_ (t:TypeId) (x i:Operand):P.underlying t=some .string→bW P GL (.index t x i) .j_ [x,i]
 |extract (x:Operand) (i:Nat):bW P GL (.extract x i) (.extract i) [x]
 |cx (t:TypeId) (x:Operand) (lo hi mx:Option Operand) (e:TypeId) (n:Nat):P.underlying t=some (.slice e)→size? P e=some n →
   bW P GL (.slice t x lo hi mx) (.cx n lo.isSome hi.isSome mx.isSome) ([x]++lo.toList++hi.toList++mx.toList)
 |ej (t:TypeId) (x:Operand) (lo hi:Option Operand):P.underlying t=some .string →
   bW P GL (.slice t x lo hi none) (.ej lo.isSome hi.isSome) ([x]++lo.toList++hi.toList)
 |pR (t e:TypeId) (x:Operand):P.underlying t=some (.slice e)→bW P GL (.call ⟨.builtin .len,#[x],#[t]⟩) .pR [x]
 |jq (t:TypeId) (x:Operand):P.underlying t=some .string→bW P GL (.call ⟨.builtin .len,#[x],#[t]⟩) .jq [x]
 |pQ (t e:TypeId) (n:Nat) (x:Operand):P.underlying t=some (.array n e)→bW P GL (.call ⟨.builtin .len,#[x],#[t]⟩) (.pQ n) [x]
 |lx (t k e:TypeId) (x:Operand):P.underlying t=some (.map k e)→bW P GL (.call ⟨.builtin .len,#[x],#[t]⟩) .lx [x]
 |min2 (ts:Array TypeId) (x y:Operand):bW P GL (.call ⟨.builtin .min,#[x,y],ts⟩) .min2 [x,y]
 |max2 (ts:Array TypeId) (x y:Operand):bW P GL (.call ⟨.builtin .max,#[x,y],ts⟩) .max2 [x,y]
 |append (t t' e:TypeId) (x y:Operand) (n by_:Nat) (v:Value) (z:List aa):P.underlying t=some (.slice e)→(∃d,P.underlying t'=some d∧(∀k,d≠.int k))→size? P e=some n→P.bytesOf e=by_→dI P e=some v →
   v.cells.size=n→QL v.cells.toList=some z→by_≠0→n≠0→bW P GL (.call ⟨.builtin .append,#[x,y],#[t,t']⟩) (.append n by_ z) [x,y]
 |call (f:FuncId) (xs:Array Operand) (ts:Array TypeId):Qj P f=true→bW P GL (.call ⟨.value (.func f),xs,ts⟩) (.call f) xs.toList
 |jh (x:Operand) (xs:Array Operand) (ts:Array TypeId):bW P GL (.call ⟨.value x,xs,ts⟩) .jh (x::xs.toList)
 |invoke (x:Operand) (name:String) (xs:Array Operand) (ts:Array TypeId) (nw:List (TypeId×FuncId)):(∀p∈nw,JJ P name p.1=some p.2∧Qj P p.2=true)→bW P GL (.call ⟨.invoke x name,xs,ts⟩) (.invoke name nw) (x::xs.toList)
 |lookup (t k e:TypeId) (x i:Operand) (str ok:Bool) (v:Value) (z:aa):P.underlying t=some (.map k e)→so P k str→dI P e=some v→ou v=some z →
   bW P GL (.lookup t x i ok) (.lookup str ok z) [x,i]
 |mapUpdate (t k e:TypeId) (x i y:Operand) (str:Bool):P.underlying t=some (.map k e)→so P k str→bW P GL (.mapUpdate t x i y) (.kf str) [x,i,y]
 |mapInsert (t k e:TypeId) (x i y:Operand) (str:Bool):P.underlying t=some (.map k e)→so P k str→bW P GL (.insert t x i y) (.kf str) [x,i,y]
 |gG (t e:TypeId) (x:Operand) (n:Nat) (v:Value) (z:List aa):eg P t=some e→size? P e=some n→n≠0→dI P e=some v→v.cells.size=n→QL v.cells.toList=some z →
   bW P GL (.call ⟨.builtin .clear,#[x],#[t]⟩) (.gG n z) [x]
 |range (t:TypeId) (x:Operand):P.underlying t=some .string→bW P GL (.range t x) .range [x]
 |next (x:Operand):bW P GL (.next x true) .next [x]
 |eO (x:Operand) (t u:TypeId) (ok:Bool) (v:Value) (z:aa):P.concrete u=true→(P.underlying u).isSome=true→dI P u=some v→ou v=some z→bW P GL (.typeAssert x t u ok) (.eO u ok z) [x]
 |bad (o:Op):bW P GL o .bad []
 |fI (x:Operand) (t u:TypeId) (ms:Array (String×TypeId)) (nw:List TypeId):P.underlying u=some (.interface ms)→dI P u=some .nilIface→(∀q∈nw,∃i,P.info? q=some i∧Instr.missingMethod ms i.methods=none)→bW P GL (.typeAssert x t u true) (.fI nw) [x]
inductive az where
 |ok (v:aa) (rd:List Nat) (up:List (Nat×ab))
 |stop
def ah:List ab→Nat→ab
 |[],_=>.dead
 |b::_,0=>b
 |_::l,n+1=>ah l n
def cellsOf:aa→Option (List aa)
 |.agg cs=>bif cs.all aa.cell then some cs else none
 |.aF=>none
 |.bn _=>none
 |.when ..=>none
 |x=>some [x]
def fill:List aa→List (Nat×Nat)→List aa→Option (List aa)
 |z,[],[]=>some z
 |z,(off,sz)::ps,x::xs=>match cellsOf x with
  | some cs=>bif Nat.beq cs.length sz && !(Nat.beq sz 0) then (match cr off cs z with
   |some z'=>fill z' ps xs
   | none=>none) else none
  |none=>none
 |_,_,_=>none
def jc:IntKind→IntKind→Bool
 |.i8,.i8 | .i16,.i16 | .i32,.i32 | .i64,.i64 | .u8,.u8 | .u16,.u16 | .u32,.u32 | .u64,.u64=>true
 |_,_=>false
theorem we{a b:IntKind}(h:jc a b=true):a=b:=by cases a<;>cases b<;>first|rfl|cases h
def lf(op:BinOp)(k:IntKind)(a b:Int):Option aa:=
 match op with
 |.add=>some (.int k (k.wrap (a+b)))
 |.sub=>some (.int k (k.wrap (a-b)))
 |.mul=>some (.int k (k.wrap (a*b)))
 |.eql=>some (.bool (a==b))
 |.neq=>some (.bool (a != b))
 |.lss=>some (.bool (a<b))
 |.leq=>some (.bool (a≤b))
 |.gtr=>some (.bool (a>b))
 |.geq=>some (.bool (a ≥ b))
 |.and=>some (.int k (bits .and k a b))
 |.or=>some (.int k (bits .or k a b))
 |.xor=>some (.int k (bits .xor k a b))
 |.andNot=>some (.int k (bits .andNot k a b))
 |_=>none
def wt(op:BinOp)(k k':IntKind)(a b:Int):Option aa:=
 match b with
 |.ofNat n=>match op with
  |.shl=>some (.int k (k.wrap (a*2 ^ (min n k.bits))))
  |.shr=>some (.int k (a.fdiv (2 ^ (min n k.bits))))
  |.quo=>bif Nat.beq n 0 then none else bif jc k k' then some (.int k (k.wrap (a.tdiv (.ofNat n)))) else none
  |.rem=>bif Nat.beq n 0 then none else bif jc k k' then some (.int k (a.tmod (.ofNat n))) else none
  |_=>none
 |.negSucc n=>match op with
  |.quo=>bif jc k k' then some (.int k (k.wrap (a.tdiv (.negSucc n)))) else none
  |.rem=>bif jc k k' then some (.int k (a.tmod (.negSucc n))) else none
  |_=>none
def mj:ea→aa→Option Bool
 |.ptr,.ei=>some true
 |.ptr,.ai ..=>some false
 |.ptr,.ptr ..=>some false
 |.ptr,.ao ..=>some false
 |.slice,.aq=>some true
 |.slice,.ax _ true _ _=>some false
 |.slice,.ax _ false _ (_::_)=>some false
 |.slice,.sl _ _ (_+1) _=>some false
 |.func,.func ..=>some false
 |.func,.bx=>some true
 |.iface,.iface ..=>some false
 |.iface,.cV=>some true
 |.map,.map _=>some false
 |.map,.eN _=>some false
 |.map,.cB=>some true
 |_,_=>none
def DE:Bool→aa→aa→Option Bool
 |false,.int k a,.int k' b=>bif jc k k' then some (a==b) else none
 |true,.bool a,.bool b=>some (a==b)
 |_,_,_=>none
def XV:List Bool→List aa→List aa→Option Bool
 |[],[],[]=>some true
 |l::ls,x::xs,y::ys=>match DE l x y,XV ls xs ys with
  |some a,some b=>some (a&&b)
  |_,_=>none
 |_,_,_=>none
def aL(agg:Bool)(off n:Nat)(cs:List aa):Option aa:=
 match agg with
 |true=>match takeN n (iB off cs) with
  |some r=>some (.agg r)
  |none=>none
 |false=>nth cs off
def Q9(xs:List aa)(σ:List ab):az:=match xs with
  |[x]=>.ok x [] []
  |_=>.stop
def M7(xs:List aa)(σ:List ab):az:=match xs with
  |[.bool c,.bool a,.bool b]=>.ok (.bool (bif c then a else b)) [] []
  |_=>.stop
def Zy(z:List aa)(xs:List aa)(σ:List ab):az:=match xs with
  |[]=>.ok (.ai σ.length 0) [] [(σ.length,.box z)]
  |_=>.stop
def tl(xs:List aa)(σ:List ab):az:=match xs with
  |[x]=>match cellsOf x with
   |some cs=>.ok (.ai σ.length 0) [] [(σ.length,.box cs)]
   |none=>.stop
  |_=>.stop
def QM(z:List aa)(ps:List (Nat×Nat))(xs:List aa)(σ:List ab):az:=match fill z ps xs with
  |some cs=>.ok (.agg cs) [] []
  |none=>.stop
def Yy(sz:Nat)(n:Nat)(z:List aa)(ps:List (Nat×Nat))(xs:List aa)(σ:List ab):az:=match fill z ps xs with
  |some cs=>match chunk sz n cs with
   |some rs=>.ok (.sl σ.length 0 n true) [] [(σ.length,.rows sz rs)]
   |none=>.stop
  |none=>.stop
def QN(sz:Nat)(xs:List aa)(σ:List ab):az:=match xs with
  |[]=>.ok (.ax true true sz []) [] []
  |_=>.stop
def Lj(agg:Bool)(n:Nat)(xs:List aa)(σ:List ab):az:=match xs with
  |[.ai b j]=>match ah σ b with
   |.box row=>match aL agg j n row with
    |some v=>.ok v [b] []
    |none=>.stop
   |_=>.stop
  |[.ao row j]=>match aL agg j n row with
   |some v=>.ok v [] []
   |none=>.stop
  |_=>.stop
def Ms(n:Nat)(xs:List aa)(σ:List ab):az:=match xs with
  |[.ai b j,x]=>match ah σ b with
   |.box row=>match cellsOf x with
    | some cs=>bif Nat.beq cs.length n then (match cr j cs row with
     |some row'=>.ok .aF [] [(b,.box row')]
     | none=>.stop) else .stop
    |none=>.stop
   |_=>.stop
  |_=>.stop
def Zi(xs:List aa)(σ:List ab):az:=match xs with
  |[.ai b j]=>.ok (.ai b j) [] []
  |[.ptr b i j]=>.ok (.ptr b i j) [] []
  |[.ao row j]=>.ok (.ao row j) [] []
  |[.func (.func f) a b]=>.ok (.func (.func f) a b) [] []
  |[.iface t v]=>.ok (.iface t v) [] []
  |_=>.stop
def Qn(op:BinOp)(isBool:Bool)(xs:List aa)(σ:List ab):az:=match xs with
  |[.int k a,.int k' b]=>match (bif jc k k' then lf op k a b else none) with
   |some v=>.ok v [] []
   |none=>match wt op k k' a b with
    |some v=>.ok v [] []
    |none=>.stop
  |[.str a,.str b]=>match op with
   |.eql=>.ok (.bool (a==b)) [] []
   |.neq=>.ok (.bool (!(a==b))) [] []
   |.add=>bif Nat.ble (a.length+b.length) 1099511627776 then .ok (.str (a++b)) [] [] else .stop
   |_=>.stop
  | [.bool a,.bool b]=>bif isBool then (match op with
   |.eql=>.ok (.bool (a==b)) [] []
   |.neq=>.ok (.bool (!(a==b))) [] []
   | _=>.stop) else .stop
  |_=>.stop
def X9(c:ea)(neq:Bool)(left:Bool)(xs:List aa)(σ:List ab):az:=match xs with
  |[x,y]=>match mj c (bif left then y else x) with
   |some b=>.ok (.bool (bif neq then !b else b)) [] []
   |none=>.stop
  |_=>.stop
def DY(neq:Bool)(ls:List Bool)(xs:List aa)(σ:List ab):az:=match xs with
  |[.agg a,.agg b]=>match XV ls a b with
   |some r=>.ok (.bool (bif neq then !r else r)) [] []
   |none=>.stop
  |_=>.stop
def pd(op:UnOp)(xs:List aa)(σ:List ab):az:=match xs with
  |[.bool b]=>match op with
   |.not=>.ok (.bool (!b)) [] []
   |_=>.stop
  |[.int k n]=>match op with
   |.neg=>.ok (.int k (k.wrap (0-n))) [] []
   |.xor=>.ok (.int k (bits .xor k (if k.signed then -1 else k.max) n)) [] []
   |_=>.stop
  |_=>.stop
def DI(k:IntKind)(xs:List aa)(σ:List ab):az:=match xs with
  |[.int _ n]=>.ok (.int k (k.wrap n)) [] []
  |_=>.stop
def XE(t:TypeId)(xs:List aa)(σ:List ab):az:=match xs with
  |[x]=>.ok (.iface t x) [] []
  |_=>.stop
def XS(fn:Fn)(n:Nat)(xs:List aa)(σ:List ab):az:=match takeN n xs with
  |some a=>.ok (.func fn a (iB n xs)) [] []
  |none=>.stop
def ZO(xs:List aa)(σ:List ab):az:=match xs with
  |[]=>.ok (.map σ.length) [] [(σ.length,.map [])]
  |_=>.stop
def Ze(off:Nat)(xs:List aa)(σ:List ab):az:=match xs with
  |[.ai b j]=>.ok (.ai b (j+off)) [] []
  |[.ptr b i j]=>.ok (.ptr b i (j+off)) [] []
  |[.ao row j]=>.ok (.ao row (j+off)) [] []
  |_=>.stop
def Z5(agg:Bool)(off:Nat)(n:Nat)(xs:List aa)(σ:List ab):az:=match xs with
  |[.agg cs]=>match aL agg off n cs with
   |some v=>.ok v [] []
   |none=>.stop
  |_=>.stop
def Yt(len:Nat)(lL:Nat)(xs:List aa)(σ:List ab):az:=match xs with
  |[.ai b j,.int _ (.ofNat i)]=>bif Nat.blt i len then .ok (.ai b (j+i*lL)) [] [] else .stop
  |[.ptr b r j,.int _ (.ofNat i)]=>bif Nat.blt i len then .ok (.ptr b r (j+i*lL)) [] [] else .stop
  |[.ao row j,.int _ (.ofNat i)]=>bif Nat.blt i len then .ok (.ao row (j+i*lL)) [] [] else .stop
  |_=>.stop
def Mv(agg:Bool)(len:Nat)(lL:Nat)(xs:List aa)(σ:List ab):az:=match xs with
  | [.agg cs,.int _ (.ofNat i)]=>bif Nat.blt i len then (match aL agg (i * lL) lL cs with
   |some v=>.ok v [] []
   | none=>.stop) else .stop
  |_=>.stop
def Ql(i:Nat)(xs:List aa)(σ:List ab):az:=match xs with
  |[.bn vs]=>match nth vs i with
   |some v=>.ok v [] []
   |none=>.stop
  |_=>.stop
def Yp(xs:List aa)(σ:List ab):az:=match xs with
  |[.aq]=>.ok (.int .i64 0) [] []
  |[.cK]=>.ok (.int .i64 0) [] []
  |[.sl _ _ n _]=>.ok (.int .i64 n) [] []
  |[.ax _ _ _ rows]=>.ok (.int .i64 rows.length) [] []
  |_=>.stop
def YS(xs:List aa)(σ:List ab):az:=match xs with
  |[.str s]=>.ok (.int .i64 s.length) [] []
  |_=>.stop
def Jd(n:Nat)(xs:List aa)(σ:List ab):az:=match xs with
  |[_]=>.ok (.int .i64 n) [] []
  |_=>.stop
def LU(xs:List aa)(σ:List ab):az:=match xs with
  |[.cB]=>.ok (.int .i64 0) [] []
  |[.map b]=>match ah σ b with
   |.map es=>.ok (.int .i64 es.length) [b] []
   |_=>.stop
  |[.eN es]=>.ok (.int .i64 es.length) [] []
  |_=>.stop
def EV(xs:List aa)(σ:List ab):az:=match xs with
  |[.int k a,.int _ b]=>.ok (.int k (if b<a then b else a)) [] []
  |_=>.stop
def Fb(xs:List aa)(σ:List ab):az:=match xs with
  |[.int k a,.int _ b]=>.ok (.int k (if b>a then b else a)) [] []
  |_=>.stop
def M5(xs:List aa)(σ:List ab):az:=match xs with
  |[.str s]=>.ok (.iter σ.length) [] [(σ.length,.eF s 0)]
  |_=>.stop
def XN(t:TypeId)(ok:Bool)(z:aa)(xs:List aa)(σ:List ab):az:=match xs with
  |[.iface u v]=>bif Nat.beq u t then .ok (bif ok then .bn [v,.bool true] else v) [] [] else (bif ok then .ok (.bn [z,.bool false]) [] [] else .stop)
  |[.cV]=>bif ok then .ok (.bn [z,.bool false]) [] [] else .stop
  |_=>.stop
def jL:List Nat→Nat→Bool
 |[],_=>false
 |x::l,n=>Nat.beq x n||jL l n
theorem R7:∀ {l:List Nat} {n:Nat},jL l n=true→n∈l
 |[],_,h=>by cases h
 |x::l,n,h=>by
  simp only[jL,Bool.or_eq_true] at h;rcases h with h|h
  ·rw[e9 h]; simp
  ·exact List.mem_cons_of_mem _ (R7 h)
def Lz(nw:List TypeId)(xs:List aa)(σ:List ab):az:=match xs with
  |[.iface u v]=>bif jL nw u then .ok (.bn [.iface u v,.bool true]) [] [] else .stop
  |[.cV]=>.ok (.bn [.cV,.bool false]) [] []
  |_=>.stop
def pV(k:MK)(xs:List aa)(σ:List ab):az:=
 match k with
 |.mv=>Q9 xs σ
 |.pick=>M7 xs σ
 |.alloc z=>Zy z xs σ
 |.box=>tl xs σ
 |.build z ps=>QM z ps xs σ
 |.lh sz n z ps=>Yy sz n z ps xs σ
 |.kD sz=>QN sz xs σ
 |.load agg n=>Lj agg n xs σ
 |.store n=>Ms n xs σ
 |.nilCheck=>Zi xs σ
 |.bin op isBool=>Qn op isBool xs σ
 |.mJ c neq left=>X9 c neq left xs σ
 |.yp neq ls=>DY neq ls xs σ
 |.un op=>pd op xs σ
 |.conv k=>DI k xs σ
 |.h_ t=>XE t xs σ
 |.jr fn n=>XS fn n xs σ
 |.makeMap=>ZO xs σ
 |.fieldAddr off=>Ze off xs σ
 |.field agg off n=>Z5 agg off n xs σ
 |.fL len lL=>Yt len lL xs σ
 |.pO agg len lL=>Mv agg len lL xs σ
 |.extract i=>Ql i xs σ
 |.pR=>Yp xs σ
 |.jq=>YS xs σ
 |.pQ n=>Jd n xs σ
 |.lx=>LU xs σ
 |.min2=>EV xs σ
 |.max2=>Fb xs σ
 |.range=>M5 xs σ
 |.eO t ok z=>XN t ok z xs σ
 |.fI nw=>Lz nw xs σ
 |_=>.stop
end Go.Ah
end
section
namespace Go.Ah
def df(g:Gm):List aa→List Value→Prop
 |[],[]=>True
 |x::xs,v::vs=>g.den x v∧df g xs vs
 |_,_=>False
theorem df.mono{g g':Gm}(h:g.Le g'):∀ {xs:List aa} {vs:List Value},df g xs vs→df g' xs vs
 |[],[],_=>trivial
 |_::_,_::_,⟨d,r⟩=>⟨Gm.kE h d,df.mono h r⟩
theorem df.length{g:Gm}:∀ {xs:List aa} {vs:List Value},df g xs vs→xs.length=vs.length
 |[],[],_=>rfl
 |_::_,_::_,⟨_,r⟩=>by simp[df.length r]
theorem df.get{g:Gm}:∀ {xs:List aa} {vs:List Value},df g xs vs→∀(i:Nat) (x:aa) (v:Value),xs[i]?=some x→vs[i]?=some v→g.den x v
 |[],[],_,_,_,_,e,_=>by simp at e
 |x::xs,v::vs,⟨d,r⟩,i,y,u,e1,e2=>by
  cases i with
  |zero=>simp at e1 e2; subst e1 e2; exact d
  |succ i=>simp at e1 e2; exact df.get r i y u e1 e2
theorem df.kh{g:Gm}:∀ {xs:List aa} {vs:List Value},xs.length=vs.length→(∀(i:Nat) (x:aa) (v:Value),xs[i]?=some x→vs[i]?=some v→g.den x v)→df g xs vs
 |[],[],_,_=>trivial
 |[],_::_,e,_=>by simp at e
 |_::_,[],e,_=>by simp at e
 |x::xs,v::vs,e,h=>⟨h 0 x v rfl rfl,df.kh (by simpa using e) (λi y u e1 e2=>h (i+1) y u (by simpa using e1) (by simpa using e2))⟩
def Out(P:Program)(GL:aw)(w0:World)(L:Ln)(g:Gm)(h':Hp)(x:aa):Result Next→Prop
 |.ok (.value u) w'=>∃g',g.Le g'∧br GL w0 L g' h' w'∧g'.den x u
 |.ok .skip w'=>∃g',g.Le g'∧br GL w0 L g' h' w'∧x=.aF
 |.ok (.enter f args) w'=>Calls P f args w' λe xI=>∃u,e=.returned u∧∃g',g.Le g'∧br GL w0 L g' h' xI∧g'.den x u
 |_=>False
def aC(P:Program)(GL:aw)(k:MK)(xs:List aa)(h0:Hp)(v:aa)(rd:List Nat)(up:List (Nat×ab)):Prop:=
 ∀(o:Oper) (os:List Operand),bW P GL o.op k os→∀(w0:World) (L:Ln) (g:Gm) (h:Hp) (w:World) (a:Act),br GL w0 L g h w→df g xs (os.map a.eval) →
  (∀b∈rd,h b=h0 b)→(∀p∈up,h p.1=h0 p.1)→Out P GL w0 L g (cq h up) v ((execOp a.eval o).run P w)
def hp(σ:List ab):Hp:=λb=>σ[b]?
theorem vY(σ:List ab):hp σ σ.length=none:=by simp[hp]
theorem zm{σ:List ab}{b:Nat}{x:ab}(h:ah σ b=x)(hx:x≠.dead):hp σ b=some x:=by
 unfold hp
 induction σ generalizing b with
 |nil=>simp_all [ah]
 |cons y σ ih=>cases b<;>simp_all [ah]
section
variable {P:Program} {GL:aw}
theorem Out.here{w0:World}{L:Ln}{g:Gm}{h:Hp}{w:World}{x:aa}{u:Value}(r:br GL w0 L g h w)(d:g.den x u):Out P GL w0 L g (cq h []) x (.ok (.value u) w):=
 ⟨g,Gm.Le.refl g,r,d⟩
theorem Md(x:aa)(h0:Hp):aC P GL .mv [x] h0 x [] []:=by
 intro o os hc w0 L g h w a r hx _ _;generalize ho:o.op=op at hc;cases hc with
 |move y=>simp only[execOp,ho,Sem.run_pure]; exact Out.here r hx.1
 |assign y=>simp only[execOp,ho,Sem.run_pure]; exact Out.here r hx.1
theorem QC{g:Gm}{b:Bool}{v:Value}(h:g.den (.bool b) v):v=.bool b:=by cases h; rfl
theorem Xp{g:Gm}{k:IntKind}{n:Int}{v:Value}(h:g.den (.int k n) v):v=.int k n:=by cases h; rfl
theorem Q8{g:Gm}{s:List UInt8}{v:Value}(h:g.den (.str s) v):∃t:ByteArray,v=.string t∧t.data.toList=s:=by cases h; exact⟨_,rfl,rfl⟩
theorem Xdr(c x y:Bool)(h0:Hp):aC P GL .pick [.bool c,.bool x,.bool y] h0 (.bool (bif c then x else y)) [] []:=by
 intro o os hc w0 L g h w a r hx _ _;generalize ho:o.op=op at hc;cases hc with
 |pick oc oa ob=>
  obtain⟨h1,h2,h3,_⟩:=hx;have e1:=QC h1; have e2:=QC h2; have e3:=QC h3;simp only[execOp,ho,e1,e2,e3,asBool];simp
  grind [Out.here]
theorem Z8{t:TypeId}{v:Value}(h:dI P t=some v)(w:World):(zeroValue t).run P w=.ok v w:=by
 unfold dI at h;unfold zeroValue typeInfo;cases hi:P.info? t<;>simp_all
theorem ZD{t:TypeId}{n:Nat}(h:size? P t=some n)(w:World):(sizeOf t).run P w=.ok n w:=by
 unfold size? at h;unfold sizeOf typeInfo;cases hi:P.info? t<;>simp_all
theorem Q4{t:TypeId}{b:Bool}(h:eS P t=some b)(w:World):(isAgg t).run P w=.ok b w:=by
 unfold eS at h;unfold isAgg;cases hu:P.underlying t with
 |none=>simp[hu] at h
 |some d=>
  simp only[Sem.run_bind,run_underlying hu,Result.andThen_ok];cases d<;>simp_all
theorem Vi(h:Hp)(b:Nat)(x:ab):cq h [(b,x)]=eA h b x:=rfl
theorem br.box{w0:World}{L:Ln}{g:Gm}{h:Hp}{w:World}(r:br GL w0 L g h w){nb:Nat}(hn:h nb=none)(row:List aa)(arr:Array Value)(T:TypeId)
 (hs:arr.size=row.length)(hd:∀(j:Nat) (x:aa) (v:Value),row[j]?=some x→arr[j]?=some v→g.den x v) :
  ∃g',g.Le g'∧br GL w0 L g' (eA h nb (.box row)) (w.alloc (.cells arr T))∧g'.den (.ai nb 0) (.pointer (some ⟨w.heap.size,0,none⟩)):=by
 refine⟨_,r.jo hn ⟨w.heap.size,0,0,false,0⟩,r.alloc hn (cb:=⟨w.heap.size,0,0,false,0⟩) rfl rfl rfl ⟨arr,T,rfl,hs,λj x v e1 e2=>?_⟩,.ai _ _ _ _ (Xz _ _ _)⟩;exact Gm.kE (r.jo hn ⟨w.heap.size,0,0,false,0⟩) (hd j x v e1 e2)
theorem XcJ{v:Value}(h:v.oneCell'=true):v.cells = #[v]:=by cases v<;>simp_all [Value.cells,Value.oneCell']
theorem Jb{g:Gm}{x:aa}{cs:List aa}{v:Value}(h:cellsOf x=some cs)(d:g.den x v) :
  v.cells.size=cs.length∧(∀(j:Nat) (y:aa) (u:Value),cs[j]?=some y→v.cells[j]?=some u→g.den y u)∧(∀y∈cs,y.cell=true):=by
 have one:∀y:aa,y.cell=true→cellsOf y=some [y]→cellsOf y=some cs→g.den y v →
   v.cells.size=cs.length∧(∀(j:Nat) (y:aa) (u:Value),cs[j]?=some y→v.cells[j]?=some u→g.den y u)∧(∀y∈cs,y.cell=true):=by
  intro y hy e1 e2 dy;rw[e1] at e2; cases e2;have hc:=XcJ (Den.sg dy hy)
  grind
 cases x with
 |agg xs=>
  simp only[cellsOf] at h;cases ha:xs.all aa.cell with
  |false=>simp[ha] at h
  |true=>
   simp[ha] at h; subst h;cases d with
   |agg _ _ vs h1 h2=>exact⟨h1,λj y u e1 e2=>h2 j y u e1 e2,by simpa[List.all_eq_true] using ha⟩
 |aF=>simp[cellsOf] at h
 |bn vs=>simp[cellsOf] at h
 |when cs x=>simp[cellsOf] at h
 |_=>exact one _ rfl rfl h d
theorem Je{l:List Value}{xs:List aa}(h:QL l=some xs):∀y∈xs,y.cell=true:=by
 induction l generalizing xs with
 |nil=>simp only[QL] at h; cases h; simp
 |cons v l ih=>
  simp only[QL] at h;cases hv:nQ v with
  |none=>simp[hv] at h
  |some x=>
   cases hl:QL l with
   |none=>simp[hv,hl] at h
   |some r=>
    simp only[hv,hl] at h; cases h;intro y hy;rcases List.mem_cons.1 hy with rfl|hy
    ·unfold nQ at hv; split at hv<;>first|(cases hv; rfl)|cases hv
    ·exact ih hl y hy
theorem W5(z:List aa)(h0:Hp)(nb:Nat)(hn:h0 nb=none):aC P GL (.alloc z) [] h0 (.ai nb 0) [] [(nb,.box z)]:=by
 intro o os hc w0 L g h w a r _ _ gy;have ja:h nb=none:=by simp_all
 generalize ho:o.op=op at hc;cases hc with
 |alloc t v z hz dt=>
  simp only[execOp,ho,Instr.alloc,Sem.run_bind,Z8 hz,Result.andThen_ok,newVar,newRow,run_newObj,Sem.run_pure];obtain⟨h1,h2⟩:=ZT (M:=g.M) (c:=g.c) dt;exact br.box r ja z v.cells t (by simpa using h1) (λj x u e1 e2=>h2 j x u e1 (by simpa using e2))
theorem YdJ(x:aa)(cs:List aa)(gC:cellsOf x=some cs)(h0:Hp)(nb:Nat)(hn:h0 nb=none):aC P GL .box [x] h0 (.ai nb 0) [] [(nb,.box cs)]:=by
 intro o os hc w0 L g h w a r hx _ gy;have ja:h nb=none:=by simp_all
 generalize ho:o.op=op at hc;cases hc with
 |box t y=>
  simp only[execOp,ho,Instr.box,newVar,newRow,Sem.run_bind,run_newObj,Result.andThen_ok,Sem.run_pure];obtain⟨h1,h2,_⟩:=Jb gC hx.1;exact br.box r ja cs _ t h1 h2
theorem EH{g:Gm}{agg:Bool}{off n:Nat}{cs:List aa}{x:aa}{arr:Array Value}(h:aL agg off n cs=some x)(hlen:cs.length≤arr.size)
 (hd:∀(j:Nat) (y:aa) (u:Value),cs[j]?=some y→arr[j]?=some u→g.den y u) :
  (agg=true→(n≠0→off+n≤arr.size)∧g.den x (.agg (arr.extract off (off+n))))∧(agg=false→∃u,arr[off]?=some u∧g.den x u):=by
 cases agg with
 |true=>
  simp only[aL] at h;cases ht:takeN n (iB off cs) with
  |none=>simp[ht] at h
  |some r=>
   simp only[ht] at h; cases h;obtain⟨h1,h2,h3⟩:=Mr ht;rw[Jx,List.length_drop] at h2;refine⟨λ_=>⟨λhn=>by omega,?_⟩,by simp⟩;refine .agg _ _ _ (by simp; omega) (λj y u e1 e2=>?_);have hj:j<n:=by grind
   rw[h3 j hj,Jx,List.getElem?_drop] at e1;have cp:off+j<arr.size:=by omega
   refine hd _ y u e1 ?_
   grind
 |false=>
  simp only[aL,Y7] at h;refine⟨by simp,λ_=>?_⟩;have cp:off<arr.size:=by grind
  exact⟨arr[off],by simp[cp],hd off x _ h (by simp[cp])⟩
end
end Go.Ah
end
section
namespace Go.Ah
section
variable {P:Program} {GL:aw}
theorem YT(b o n:Nat):Addr.add ⟨b,o,none⟩ n=⟨b,o+n,none⟩:=by
 unfold Addr.add; split<;>simp_all
theorem My{t:TypeId}{agg:Bool}{n:Nat}(ha:eS P t=some agg)(hn:size? P t=some n){w:World}{b:Nat}{arr:Array Value}{T:TypeId}{fr:Nat×Nat}
 (hb:∀o v,arr[o]?=some v→w.cell? ⟨b,o,none⟩=some v)(off:Nat) :
  (agg=true→(n≠0→off+n≤arr.size)→(loadVar t ⟨b,off,none⟩).run P w=.ok (.agg (arr.extract off (off+n))) w) ∧
  (agg=false→∀v,arr[off]?=some v→(loadVar t ⟨b,off,none⟩).run P w=.ok v w):=by
 have _:=T; have _:=fr;constructor
 ·rintro rfl hle;have hl:=run_loadCells_list (P:=P) w ⟨b,off,none⟩ (arr.extract off (off + n)).toList (λj v e=>by
   grind [YT])
  have hlen:(arr.extract off (off+n)).toList.length=n:=by
   grind
  rw[hlen] at hl;simp only[loadVar,Sem.run_bind,Q4 ha,Result.andThen_ok,Sem.run_ite,if_true,ZD hn,hl,Sem.run_pure,Array.toArray_toList]
 simp_all [loadVar,Q4]
theorem Z3{w:World}{b:Nat}{arr:Array Value}{T:TypeId}{fr:Nat×Nat}(h:w.heap[b]?=some (.cells arr T fr)):∀o v,arr[o]?=some v→w.cell? ⟨b,o,none⟩=some v:=by
 grind [cell_of_row]
theorem WX(agg:Bool)(n b j:Nat)(row:List aa)(v:aa)(h0:Hp)(hb:h0 b=some (.box row))(hv:aL agg j n row=some v) :
  aC P GL (.load agg n) [.ai b j] h0 v [b] []:=by
 intro o os hc w0 L g h w a r hx cH _;have bZ:h b=some (.box row):=by simp_all
 generalize ho:o.op=op at hc;cases hc with
 |load t x _ _ ha hn=>
  have d:=hx.1;generalize hu:a.eval x=u0 at d;cases d with
  |ai _ _ _ cb ec=>
  cases bP:cb.cS with
  |true=>have:=r.aX b _ cb bZ rfl ec bP; cases this
  |false=>
  obtain⟨_,_,o',eI,arr,T,rfl,hs,cI⟩:=r.own b _ cb bZ rfl ec bP;obtain⟨p1,p2⟩:=EH (g:=g) hv (by omega) cI;obtain⟨l1,l2⟩:=My ha hn (T:=T) (fr:=(0,0)) (Z3 eI) j;cases agg with
  |true=>
   simp_all [execOp,Instr.loadAt,Instr.sureAddr,Out.here]
  |false=>
   obtain⟨u,q1,q2⟩:=p2 rfl;simp_all [execOp,Instr.loadAt,Instr.sureAddr,Out.here]
theorem M4{w0:World}{L:Ln}{g:Gm}{h:Hp}{w:World}(r:br GL w0 L g h w){b o:Nat}{v:Value}(e:gN g.M b o=some v):w.cell? ⟨b,o,none⟩=some v:=by
 unfold gN at e;cases hb:g.M b with
 |none=>simp[hb] at e
 |some x=>
  cases x with
  |cells c t fr=>simp[hb] at e; exact Z3 (r.aR b _ hb) o v e
  |_=>simp[hb] at e
theorem Xbc{w0:World}{L:Ln}{g:Gm}{h:Hp}{w:World}(r:br GL w0 L g h w){t:TypeId}{agg:Bool}{n:Nat}(ha:eS P t=some agg)(hn:size? P t=some n)
 {row:List aa}{j:Nat}{v:aa}(hv:aL agg j n row=some v){aE off:Nat}{f:Nat→Value}(h1:∀k,k<row.length→gN g.M aE (off+k)=some (f k))
 (h2:∀k x,row[k]?=some x→Den g.M bg x (f k)):∃u,(loadVar t ⟨aE,off+j,none⟩).run P w=.ok u w∧g.den v u:=by
 have key:=EH (g:=g) (arr:=((List.range row.length).map f).toArray) hv (by simp) (λk y u e1 e2=>by
  have hk:=(gn e1).1;simp[hk] at e2; subst e2;exact(h2 k y e1).mono (gZ.refl _) (fH.bg _))
 cases agg with
 |true=>
  obtain⟨q1,q2⟩:=key.1 rfl;simp only[List.size_toArray,List.length_map,List.length_range] at q1;have hl:=run_loadCells (P:=P) w ⟨aE,off + j,none⟩ n (λk=>f (j + k)) (λk hk=>by
   grind [YT,M4])
  refine⟨_,by simp only[loadVar,Sem.run_bind,Q4 ha,Result.andThen_ok,Sem.run_ite,if_true,ZD hn,hl,Sem.run_pure]; rfl,?_⟩;have:((List.range n).map λk=>f (j+k)).toArray=(((List.range row.length).map f).toArray).extract j (j+n):=by
   grind
  rw[this]; exact q2
 |false=>
  obtain⟨u,q1,q2⟩:=key.2 rfl;have hj:j<row.length:=by
   grind
  simp[hj] at q1; subst q1;refine⟨f j,?_,q2⟩;simp only[loadVar,Sem.run_bind,Q4 ha,Result.andThen_ok,Sem.run_ite,Bool.false_eq_true,if_false,run_load,M4 r (h1 j hj)]
theorem ZbV(agg:Bool)(n j:Nat)(row:List aa)(v:aa)(h0:Hp)(hv:aL agg j n row=some v) :
  aC P GL (.load agg n) [.ao row j] h0 v [] []:=by
 intro o os hc w0 L g h w a r hx _ _;generalize ho:o.op=op at hc;cases hc with
 |load t x _ _ ha hn=>
  have d:=hx.1;generalize hu:a.eval x=u0 at d;cases d with
  |ao _ _ _ aE off f h1 h2=>
   obtain⟨u,q1,q2⟩:=Xbc r ha hn hv h1 h2;simp_all [execOp,Instr.loadAt,Instr.sureAddr,Out.here]
end
end Go.Ah
end
section
namespace Go.Ah
section
variable {P:Program} {GL:aw}
theorem Kk(w:World)(g:Nat)(eo cs:Array Value)(t:TypeId)(fr:Nat×Nat)(hg:w.heap[g]?=some (.cells eo t fr)):(w.setRow g cs).heap=w.heap.setIfInBounds g (.cells cs t fr):=by
 apply Array.ext_getElem?
 grind [setRow_heap,setRow_other]
theorem Kc{x:aa}{g:Gm}{v:Value}(hx:x.cell=true)(d:g.den x v):v.oneCell'=true:=Den.sg d hx
theorem Zc4(n b j:Nat)(row row' cs:List aa)(x:aa)(h0:Hp)(hb:h0 b=some (.box row))(gC:cellsOf x=some cs)(hlen:cs.length=n)(sa:cr j cs row=some row') :
  aC P GL (.store n) [.ai b j,x] h0 .aF [] [(b,.box row')]:=by
 intro o os hc w0 L g h w a r hx _ gy;have bZ:h b=some (.box row):=by simp_all
 generalize ho:o.op=op at hc;cases hc with
 |store t y z _ hn=>
  obtain⟨d,dx,_⟩:=hx;generalize hu:a.eval y=u0 at d;cases d with
  |ai _ _ _ cb ec=>
  cases bP:cb.cS with
  |true=>have:=r.aX b _ cb bZ rfl ec bP; cases this
  |false=>
  obtain⟨_,_,o',eI,arr,T,rfl,hs,cI⟩:=r.own b _ cb bZ rfl ec bP;obtain⟨c1,c2,c3⟩:=Jb gC dx;obtain⟨s1,s2,s3⟩:=Lm sa;have jm:∀v∈(a.eval z).cells.toList,v.oneCell'=true:=by
   grind [List.mem_iff_getElem?,Kc,List.getElem_mem]
  have eh:j+0+(a.eval z).cells.toList.length≤arr.size∨cs=[]:=by
   grind
  have sD:∃fD,(storeCells ⟨cb.aE,j,none⟩ (a.eval z).cells.toList).run P w=.ok () (w.setRow cb.aE fD)∧fD.size=row'.length ∧
    ∀(k:Nat) (y:aa) (u:Value),row'[k]?=some y→fD[k]?=some u→g.den y u:=by
   rcases eh with eh|wM
   ·refine⟨_,run_storeCells_at P cb.aE j T _ 0 arr w eI eh jm,?_,λk y u e1 e2=>?_⟩
    ·grind
    ·rw[s3 k] at e1;by_cases hk:j≤k∧k<j+cs.length
     ·grind
     ·rw[if_neg hk] at e1;refine cI k y u e1 ?_;have mW:k<row.length:=(gn e1).1;by_cases fo:k<j
      ·grind
      grind
   ·subst wM;have Ox:(a.eval z).cells.toList=[]:=by
     grind
    have dT:row'=row:=by simp[cr] at sa; exact sa.symm
    subst dT;exact⟨arr,by rw[Ox]; simp only[storeCells]; rw[setRow_self w cb.aE arr T (0,0) eI]; rfl,hs,cI⟩
  obtain⟨fD,f1,f2,f3⟩:=sD;have dU:(a.eval z).cells.size=n:=by rw[c1,hlen]
  have bL:(execOp a.eval o).run P w=.ok .skip (w.setRow cb.aE fD):=by
   simp_all [execOp,Instr.storeAt,Instr.sureAddr,storeVar,ZD]
  rw[bL];refine⟨g,Gm.Le.refl g,?_,rfl⟩;exact r.write bZ rfl ec bP rfl rfl rfl rfl (Kk w _ arr fD T (0,0) eI) ⟨fD,T,rfl,f2,λk y u e1 e2=>f3 k y u e1 e2⟩
theorem YX(x:aa)(qu:(∃b j,x=.ai b j)∨(∃b i j,x=.ptr b i j)∨(∃row j,x=.ao row j)∨(∃f a b,x=.func (.func f) a b)∨(∃t v,x=.iface t v))(h0:Hp) :
  aC P GL .nilCheck [x] h0 x [] []:=by
 intro o os hc w0 L g h w a r hx _ _;generalize ho:o.op=op at hc;cases hc with
 |nilCheck y=>
  have d:=hx.1;have d0:=d;generalize hu:a.eval y=u0 at d d0;rcases qu with ⟨b,j,rfl⟩|⟨b,i,j,rfl⟩|⟨row,j,rfl⟩|⟨f,xs,ys,rfl⟩|⟨t,v,rfl⟩
  ·cases d; simp_all [execOp,Out.here]
  ·cases d; simp_all [execOp,Out.here]
  ·cases d; simp_all [execOp,Out.here]
  ·cases d; simp_all [execOp,Out.here]
  ·cases d; simp_all [execOp,Out.here]
theorem QJ{o:Oper}{op:BinOp}{t t':TypeId}{x y:Operand}(ho:o.op=.binOp op t x y t'){a:Act}{u v z:Value}{w:World}(hu:a.eval x=u)(hv:a.eval y=v)
 (hg:(eqGuard op t x y u v).run P w=.ok () w)(hr:(binOp op t u v).run P w=.ok z w):(execOp a.eval o).run P w=.ok (.value z) w:=by
 simp_all [execOp]
theorem Qde{op:BinOp}{k:IntKind}{a b:Int}{v:aa}(h:lf op k a b=some v)(t:TypeId)(w:World){g:Gm}:∃u,(binOp op t (.int k a) (.int k b)).run P w=.ok u w∧g.den v u:=by
 cases op<;>simp only[lf,Option.some.injEq] at h<;>first
  |cases h; done
  |(subst h; refine⟨_,by simp only[binOp_add,binOp_sub,binOp_mul,binOp_eql,binOp_neq,binOp_lss,binOp_leq,binOp_gtr,binOp_geq,binOp_and,binOp_or,binOp_xor,binOp_andNot,intBits_and,intBits_or,intBits_xor,intBits_andNot,Op.intArith,Sem.run_pure]<;>rfl,?_⟩; constructor)
theorem Xdp(op:BinOp)(ib:Bool)(k:IntKind)(m n:Int)(v:aa)(hv:lf op k m n=some v)(h0:Hp):aC P GL (.bin op ib) [.int k m,.int k n] h0 v [] []:=by
 intro o os hc w0 L g h w a r hx _ _;generalize ho:o.op=vJ at hc;cases hc with
 |bin _ t t' x y _ _=>
  obtain⟨d1,d2,_⟩:=hx;obtain⟨z,h1,h2⟩:=Qde (P:=P) (g:=g) hv t w;rw[QJ ho (Xp d1) (Xp d2) (by rw[eqGuard_at_int]; rfl) h1];exact Out.here r h2
theorem Zdf{op:BinOp}{k k':IntKind}{a b:Int}{v:aa}(h:wt op k k' a b=some v)(t:TypeId)(w:World){g:Gm}:∃u,(binOp op t (.int k a) (.int k' b)).run P w=.ok u w∧g.den v u:=by
 unfold wt at h;split at h
 ·rename_i n;split at h
  ·cases h;refine⟨_,?_,Den.int _ _ _⟩;rfl
  ·cases h;refine⟨_,?_,Den.int _ _ _⟩;rfl
  ·cases h0:Nat.beq n 0<;>rw[h0] at h
   ·cases hk:jc k k'<;>rw[hk] at h
    ·cases h
    ·cases h;have:=we hk; subst this;refine⟨_,?_,Den.int _ _ _⟩;have hn:¬(Int.ofNat n=0):=by intro e; simp_all
     simp_all [binOp,Op.intDiv]
   ·cases h
  ·cases h0:Nat.beq n 0<;>rw[h0] at h
   ·cases hk:jc k k'<;>rw[hk] at h
    ·cases h
    ·cases h;have:=we hk; subst this;refine⟨_,?_,Den.int _ _ _⟩;have hn:¬(Int.ofNat n=0):=by intro e; simp_all
     simp_all [binOp,Op.intDiv]
   ·cases h
  ·cases h
 ·rename_i n;split at h
  ·cases hk:jc k k'<;>rw[hk] at h
   ·cases h
   ·cases h;have:=we hk; subst this;refine⟨_,?_,Den.int _ _ _⟩;simp[binOp,Op.intDiv]
  ·cases hk:jc k k'<;>rw[hk] at h
   ·cases h
   ·cases h;have:=we hk; subst this;refine⟨_,?_,Den.int _ _ _⟩;simp[binOp,Op.intDiv]
  ·cases h
theorem Qdp(op:BinOp)(ib:Bool)(k k':IntKind)(m n:Int)(v:aa)(hv:wt op k k' m n=some v)(h0:Hp):aC P GL (.bin op ib) [.int k m,.int k' n] h0 v [] []:=by
 intro o os hc w0 L g h w a r hx _ _;generalize ho:o.op=vJ at hc;cases hc with
 |bin _ t t' x y _ _=>
  obtain⟨d1,d2,_⟩:=hx;obtain⟨z,h1,h2⟩:=Zdf (P:=P) (g:=g) hv t w;rw[QJ ho (Xp d1) (Xp d2) (by rw[eqGuard_at_int]; rfl) h1];exact Out.here r h2
theorem RL(s:ByteArray):s.toList=s.data.toList:=ByteArray.toList_eq s
theorem Tq(op:BinOp)(ib:Bool)(s t:List UInt8)(neq:Bool)(mX:op=if neq then .neq else .eql)(h0:Hp):aC P GL (.bin op ib) [.str s,.str t] h0 (.bool (bif neq then !(s==t) else s==t)) [] []:=by
 intro o os hc w0 L g h w a r hx _ _;generalize ho:o.op=vJ at hc;cases hc with
 |bin _ ty t' x y _ _=>
  obtain⟨d1,d2,_⟩:=hx;obtain⟨s',e1,rfl⟩:=Q8 d1;obtain⟨t',e2,rfl⟩:=Q8 d2;subst mX;cases neq
  ·rw[QJ ho e1 e2 (by rw[eqGuard_at_string]; rfl) (z:=.bool (s'.data.toList==t'.data.toList)) (by simp[binOp,Op.stringOp,RL])];exact Out.here r (.bool _ _)
  ·rw[QJ ho e1 e2 (by rw[eqGuard_at_string]; rfl) (z:=.bool (!(s'.data.toList==t'.data.toList))) (by simp[binOp,Op.stringOp,RL])];exact Out.here r (.bool _ _)
theorem Ydp(ib:Bool)(s t:List UInt8)(hl:Nat.ble (s.length+t.length) 1099511627776=true)(h0:Hp):aC P GL (.bin .add ib) [.str s,.str t] h0 (.str (s++t)) [] []:=by
 intro o os hc w0 L g h w a r hx _ _;generalize ho:o.op=vJ at hc;cases hc with
 |bin _ ty t' x y _ _=>
  obtain⟨d1,d2,_⟩:=hx;obtain⟨s',e1,rfl⟩:=Q8 d1;obtain⟨t',e2,rfl⟩:=Q8 d2;have hl:=gE hl;have h1:s'.size=s'.data.toList.length:=by simp only[Array.length_toList]; rfl
  have h2:t'.size=t'.data.toList.length:=by simp only[Array.length_toList]; rfl
  have hm:IntKind.i64.max=9223372036854775807:=rfl;have me:¬(((s'.size+t'.size:Nat):Int)>IntKind.i64.max):=by rw[hm]; omega
  rw[QJ ho e1 e2 (by rw[eqGuard_at_string]; rfl) (z:=.string (s'++t')) (by simp only[binOp,Op.stringOp]; rw[if_neg me]; rfl)];refine Out.here r ?_;have:(s'++t').data.toList=s'.data.toList++t'.data.toList:=by rfl
  rw[←this];exact .str _ _
theorem Ur(op:BinOp)(m n:Bool)(neq:Bool)(mX:op=if neq then .neq else .eql)(h0:Hp):aC P GL (.bin op true) [.bool m,.bool n] h0 (.bool (bif neq then !(m==n) else m==n)) [] []:=by
 intro o os hc w0 L g h w a r hx _ _;generalize ho:o.op=vJ at hc;cases hc with
 |bin _ ty t' x y _ hb=>
  obtain⟨d1,d2,_⟩:=hx;subst mX;cases neq
  ·rw[QJ ho (QC d1) (QC d2) (by rw[eqGuard_at_bool]; rfl) (run_eql_bool w ty m n (hb rfl))];exact Out.here r (.bool _ _)
  ·rw[QJ ho (QC d1) (QC d2) (by rw[eqGuard_at_bool]; rfl) (run_neq_bool w ty m n (hb rfl))];exact Out.here r (.bool _ _)
theorem Xcy(b:Bool)(h0:Hp):aC P GL (.un .not) [.bool b] h0 (.bool (!b)) [] []:=by
 intro o os hc w0 L g h w a r hx _ _;generalize ho:o.op=vJ at hc;cases hc with
 |un _ t x=>simp only[execOp,ho,QC hx.1,Op.unary,Sem.run_bind,Sem.run_pure,Result.andThen_ok]; exact Out.here r (.bool _ _)
theorem Ycy(k:IntKind)(n:Int)(h0:Hp):aC P GL (.un .neg) [.int k n] h0 (.int k (k.wrap (0-n))) [] []:=by
 intro o os hc w0 L g h w a r hx _ _;generalize ho:o.op=vJ at hc;cases hc with
 |un _ t x=>simp only[execOp,ho,Xp hx.1,Op.unary,Op.intArith,Sem.run_bind,Sem.run_pure,Result.andThen_ok]; exact Out.here r (.int _ _ _)
theorem Ydq(k k':IntKind)(n:Int)(h0:Hp):aC P GL (.conv k) [.int k' n] h0 (.int k (k.wrap n)) [] []:=by
 intro o os hc w0 L g h w a r hx _ _;generalize ho:o.op=vJ at hc;cases hc with
 |conv s d x _ hs hd=>
  obtain⟨ds,KM⟩:=Option.isSome_iff_exists.1 hs;simp only[execOp,ho,Xp hx.1,convert,Sem.run_bind,run_underlying KM,run_underlying hd,Result.andThen_ok,Conv.intToInt,Sem.run_pure];exact Out.here r (.int _ _ _)
theorem WO(t:TypeId)(x:aa)(h0:Hp):aC P GL (.h_ t) [x] h0 (.iface t x) [] []:=by
 intro o os hc w0 L g h w a r hx _ _;generalize ho:o.op=vJ at hc;cases hc with
 |h_ _ y qO=>
  simp only[execOp,ho,Sem.run_bind,run_makeInterface w t _ qO,Result.andThen_ok,Sem.run_pure];exact Out.here r (.iface _ _ _ _ hx.1)
theorem Xcx(fn:Fn)(n:Nat)(xs ys:List aa)(hn:xs.length=n)(h0:Hp):aC P GL (.jr fn n) (xs++ys) h0 (.func fn xs ys) [] []:=by
 intro o os hc w0 L g h w a r hx _ _;generalize ho:o.op=vJ at hc;cases hc with
 |jr _ us vs=>
  simp only[execOp,ho,Instr.makeFunc,Sem.run_bind,Sem.run_pure,Result.andThen_ok];have hl:=hx.length;simp at hl;refine Out.here r (.func _ _ _ _ _ _ (by simp[hn]) (by simp; omega) (λi x v e1 e2=>?_) (λi x v e1 e2=>?_))
  ·have hi:=(gn e1).1;refine hx.get i x v (by grind) ?_
   grind
  ·have hi:=(gn e1).1;refine hx.get (xs.length+i) x v (by simp_all) ?_;simp_all
theorem Xb7(h0:Hp)(nb:Nat)(hn:h0 nb=none):aC P GL .makeMap [] h0 (.map nb) [] [(nb,.map [])]:=by
 intro o os hc w0 L g h w a r _ _ gy;have ja:h nb=none:=by simp_all
 generalize ho:o.op=op at hc;cases hc with
 |makeMap t=>
  simp only[execOp,ho,Instr.makeMap,Option.map_none,Sem.run_bind,run_newObj,Sem.run_pure,Result.andThen_ok];exact⟨_,r.jo ja ⟨w.heap.size,0,0,false,0⟩,r.alloc ja (cb:=⟨w.heap.size,0,0,false,0⟩) rfl rfl rfl ⟨#[],0,rfl,rfl,by simp⟩,.map _ _ _ (Xz _ _ _)⟩
theorem Xbh{t:TypeId}{n:Nat}(hn:size? P t=some n)(h0:n≠0)(a:Addr)(fd:Field)(ht:fd.type=t)(w:World):(fieldPlace a fd).run P w=.ok (a.add fd.offset) w:=by
 simp_all [fieldPlace,ZD]
theorem Mt(off:Nat)(x y:aa)(PB:(∃b j,x=.ai b j∧y=.ai b (j+off))∨(∃b i j,x=.ptr b i j∧y=.ptr b i (j+off))∨(∃row j,x=.ao row j∧y=.ao row (j+off)))(h0:Hp) :
  aC P GL (.fieldAddr off) [x] h0 y [] []:=by
 intro o os hc w0 L g h w a r hx _ _;generalize ho:o.op=op at hc;cases hc with
 |fieldAddr t z f fs fd n hu hf hn jK=>
  have d:=hx.1;generalize ij:a.eval z=u0 at d;have key:∀b o',(execOp a.eval o).run P w=.ok (.value (.pointer (some ⟨b,o'+fd.offset,none⟩))) w∨a.eval z≠.pointer (some ⟨b,o',none⟩):=by
   intro b o';by_cases he:a.eval z=.pointer (some ⟨b,o',none⟩)
   ·left;simp only[execOp,ho,he,Instr.fieldAt,Sem.run_bind,run_underlying hu,Result.andThen_ok,hf,Instr.sureAddr,Sem.run_pure,Xbh hn jK _ fd rfl,YT]
   ·exact .inr he
  rcases PB with ⟨b,j,rfl,rfl⟩|⟨b,i,j,rfl,rfl⟩|⟨row,j,rfl,rfl⟩
  ·cases d with
   |ai _ _ _ cb ec=>
    rw[(key cb.aE j).resolve_right (λcL=>cL ij)];exact Out.here r (.ai _ _ _ _ ec)
  ·cases d with
   |ptr _ _ _ _ cb ec=>
    rw[(key cb.aE (cb.base+i*cb.sz+j)).resolve_right (λcL=>cL ij),Nat.add_assoc];exact Out.here r (.ptr _ _ _ _ _ ec)
  ·cases d with
   |ao _ _ _ aE HJ f' h1 h2=>
    rw[(key aE (HJ+j)).resolve_right (λcL=>cL ij),Nat.add_assoc];exact Out.here r (.ao _ _ _ _ _ f' h1 h2)
theorem Tp{t:TypeId}{agg:Bool}{n:Nat}(ha:eS P t=some agg)(hn:size? P t=some n){g:Gm}{cs:List aa}{arr:Array Value}{off:Nat}{v:aa}(hv:aL agg off n cs=some v)(hs:arr.size=cs.length)
 (hd:∀(j:Nat) (y:aa) (u:Value),cs[j]?=some y→arr[j]?=some u→g.den y u)(w:World):∃u,(part t arr off).run P w=.ok u w∧g.den v u:=by
 obtain⟨p1,p2⟩:=EH (g:=g) hv (by omega) hd;cases agg with
 |true=>
  simp_all [part,Q4,ZD]
 |false=>
  obtain⟨u,q1,q2⟩:=p2 rfl;simp_all [part,Q4]
theorem Zc3(agg:Bool)(off n:Nat)(cs:List aa)(v:aa)(hv:aL agg off n cs=some v)(h0:Hp):aC P GL (.field agg off n) [.agg cs] h0 v [] []:=by
 intro o os hc w0 L g h w a r hx _ _;generalize ho:o.op=op at hc;cases hc with
 |field t z f fs fd _ _ hu hf hn ha=>
  have d:=hx.1;generalize ij:a.eval z=u0 at d;cases d with
  |agg _ _ vs h1 h2=>
   obtain⟨u,q1,q2⟩:=Tp ha hn hv h1 h2 w;simp_all [execOp,Instr.field,asAgg,run_underlying,Out.here]
theorem Xdq(agg:Bool)(len n:Nat)(cs:List aa)(v:aa)(k:IntKind)(i:Nat)(hi:i<len)(hv:aL agg (i*n) n cs=some v)(h0:Hp):aC P GL (.pO agg len n) [.agg cs,.int k (.ofNat i)] h0 v [] []:=by
 intro o os hc w0 L g h w a r hx _ _;generalize ho:o.op=op at hc;cases hc with
 |pO t z y _ e _ _ hu hn ha=>
  obtain⟨d,d2,_⟩:=hx;generalize ij:a.eval z=u0 at d;cases d with
  |agg _ _ vs h1 h2=>
   obtain⟨u,q1,q2⟩:=Tp ha hn hv h1 h2 w;simp only[execOp,ho,ij,Xp d2,Instr.index,asIntOf,Sem.run_bind,run_underlying hu,Result.andThen_ok,Sem.run_pure];simp_all [ZD,Out.here]
theorem LS(len n:Nat)(x y:aa)(k:IntKind)(i:Nat)(hi:i<len)
 (PB:(∃b j,x=.ai b j∧y=.ai b (j+i*n))∨(∃b r j,x=.ptr b r j∧y=.ptr b r (j+i*n))∨(∃row j,x=.ao row j∧y=.ao row (j+i*n)))(h0:Hp) :
  aC P GL (.fL len n) [x,.int k (.ofNat i)] h0 y [] []:=by
 intro o os hc w0 L g h w a r hx _ _;generalize ho:o.op=op at hc;cases hc with
 |fL t z q _ e _ hu hn=>
  obtain⟨d,d2,_⟩:=hx;generalize ij:a.eval z=u0 at d;have key:∀b o',a.eval z=.pointer (some ⟨b,o',none⟩)→(execOp a.eval o).run P w=.ok (.value (.pointer (some ⟨b,o'+i*n,none⟩))) w:=by
   intro b o' he;simp only[execOp,ho,he,Xp d2,Instr.indexAt,asIntOf,Sem.run_bind,run_underlying hu,Result.andThen_ok,Instr.sureAddr,Sem.run_pure];rw[if_pos ⟨Int.natCast_nonneg i,Int.ofNat_lt.2 hi⟩];simp_all [ZD,YT]
  rcases PB with ⟨b,j,rfl,rfl⟩|⟨b,r',j,rfl,rfl⟩|⟨row,j,rfl,rfl⟩
  ·cases d with
   |ai _ _ _ cb ec=>rw[key _ _ ij]; exact Out.here r (.ai _ _ _ _ ec)
  ·cases d with
   |ptr _ _ _ _ cb ec=>rw[key _ _ ij,Nat.add_assoc]; exact Out.here r (.ptr _ _ _ _ _ ec)
  ·cases d with
   |ao _ _ _ aE HJ f' h1 h2=>rw[key _ _ ij,Nat.add_assoc]; exact Out.here r (.ao _ _ _ _ _ f' h1 h2)
theorem Yb7(i:Nat)(vs:List aa)(v:aa)(hv:vs[i]?=some v)(h0:Hp):aC P GL (.extract i) [.bn vs] h0 v [] []:=by
 intro o os hc w0 L g h w a r hx _ _;generalize ho:o.op=op at hc;cases hc with
 |extract z _=>
  have d:=hx.1;generalize ij:a.eval z=u0 at d;cases d with
  |bn _ _ us h1 h2=>
   have cp:i<us.size:=by grind
   have he:us[i]?=some us[i]:=by simp[cp]
   simp only[execOp,ho,ij,Instr.extract,he,Sem.run_bind,Sem.run_pure,Result.andThen_ok];exact Out.here r (h2 i v _ hv he)
theorem JO(x:aa)(n:Int)(qu:(x=.aq∧n=0)∨(x=.cK∧n=0)∨(∃b o l e,x=.sl b o l e∧n=l)∨(∃e q s rows,x=.ax e q s rows∧n=rows.length))(h0:Hp):aC P GL .pR [x] h0 (.int .i64 n) [] []:=by
 intro o os hc w0 L g h w a r hx _ _;generalize ho:o.op=op at hc;cases hc with
 |pR t e z hu=>
  have d:=hx.1;generalize ij:a.eval z=u0 at d;have key:∀p m c,a.eval z=.slice p m c→(execOp a.eval o).run P w=.ok (.value (.int .i64 m)) w:=by
   intro p m c he;simp[execOp,ho,resolve,invoke,builtin,Builtin.len_,he,run_underlying hu,goInt]
  rcases qu with ⟨rfl,rfl⟩|⟨rfl,rfl⟩|⟨b,o',l,e',rfl,rfl⟩|⟨e',q,s,rows,rfl,rfl⟩
  ·cases d; rw[key _ _ _ ij]; exact Out.here r (.int _ _ _)
  ·cases d; rw[key _ _ _ ij]; exact Out.here r (.int _ _ _)
  ·cases d<;>(rw[key _ _ _ ij]; exact Out.here r (.int _ _ _))
  ·cases d; rw[key _ _ _ ij]; exact Out.here r (.int _ _ _)
theorem Qcw(s:List UInt8)(h0:Hp):aC P GL .jq [.str s] h0 (.int .i64 s.length) [] []:=by
 intro o os hc w0 L g h w a r hx _ _;generalize ho:o.op=op at hc;cases hc with
 |jq t z hu=>
  obtain⟨s',e1,rfl⟩:=Q8 hx.1;have:(execOp a.eval o).run P w=.ok (.value (.int .i64 s'.size)) w:=by
   simp[execOp,ho,resolve,invoke,builtin,Builtin.len_,e1,run_underlying hu,goInt]
  rw[this,show (s'.size:Int)=(s'.data.toList.length:Nat) by simp];exact Out.here r (.int _ _ _)
theorem Qdq(n:Nat)(x:aa)(h0:Hp):aC P GL (.pQ n) [x] h0 (.int .i64 n) [] []:=by
 intro o os hc w0 L g h w a r _ _ _;generalize ho:o.op=op at hc;cases hc with
 |pQ t e _ z hu=>
  have:(execOp a.eval o).run P w=.ok (.value (.int .i64 n)) w:=by
   simp[execOp,ho,resolve,invoke,builtin,Builtin.len_,run_underlying hu,goInt]
  rw[this]; exact Out.here r (.int _ _ _)
theorem Ydr(k k':IntKind)(x y:Int)(h0:Hp):aC P GL .min2 [.int k x,.int k' y] h0 (.int k (if y<x then y else x)) [] []:=by
 intro o os hc w0 L g h w a r hx _ _;generalize ho:o.op=op at hc;cases hc with
 |min2 ts p q=>
  have:(execOp a.eval o).run P w=.ok (.value (.int k (if y<x then y else x))) w:=by
   simp[execOp,ho,resolve,invoke,builtin,Xp hx.1,Xp hx.2.1,run_min_int2]
  rw[this]; exact Out.here r (.int _ _ _)
theorem Zdr(k k':IntKind)(x y:Int)(h0:Hp):aC P GL .max2 [.int k x,.int k' y] h0 (.int k (if y>x then y else x)) [] []:=by
 intro o os hc w0 L g h w a r hx _ _;generalize ho:o.op=op at hc;cases hc with
 |max2 ts p q=>
  have:(execOp a.eval o).run P w=.ok (.value (.int k (if y>x then y else x))) w:=by
   simp[execOp,ho,resolve,invoke,builtin,Xp hx.1,Xp hx.2.1,run_max_int2]
  rw[this]; exact Out.here r (.int _ _ _)
end
end Go.Ah
end
section
namespace Go.Ah
section
variable {P:Program} {GL:aw}
theorem UP(off:Nat):∀(l:List Value) (j:Nat) (cells:Array Value),off+j+l.length≤cells.size →
  ((l.zipIdx j).foldl (λ(cs:Array Value) (p:Value×Nat)=>cs.setIfInBounds (off+p.2) p.1) cells).size=cells.size ∧
  ∀k:Nat,((l.zipIdx j).foldl (λ(cs:Array Value) (p:Value×Nat)=>cs.setIfInBounds (off+p.2) p.1) cells)[k]?=if off+j≤k∧k<off+j+l.length then l[k-(off+j)]? else cells[k]?
 |[],j,cells,_=>by simp; intro k h1 h2; omega
 |v::l,j,cells,h=>by
  simp only[List.zipIdx_cons,List.foldl_cons];simp only[List.length_cons] at h;obtain⟨h1,h2⟩:=UP off l (j+1) (cells.setIfInBounds (off+j) v) (by simp; omega)
  grind
theorem Jy{g:Gm}{place:Nat→Option (Nat×Nat)}:∀(parts:List (Nat×Value)) (ps:List (Nat×Nat)) (xs:List aa) (z cs:List aa) (cells:Array Value),
  fill z ps xs=some cs→parts.map (λp=>place p.1)=ps.map some→df g xs (parts.map (·.2))→cells.size=z.length →
  (∀(j:Nat) (y:aa) (u:Value),z[j]?=some y→cells[j]?=some u→g.den y u)→(∀y∈z,y.cell=true) →
  ∃cA,Instr.fill place cells parts=some cA∧cA.size=cs.length∧(∀(j:Nat) (y:aa) (u:Value),cs[j]?=some y→cA[j]?=some u→g.den y u)∧cs.length=z.length∧(∀y∈cs,y.cell=true)
 |[],ps,xs,z,cs,cells,hf,hp,hx,hs,hd,hc=>by
  have:ps=[]:=by simpa using hp.symm
  subst this;cases xs with
  |nil=>simp only[fill] at hf; cases hf; exact⟨cells,rfl,hs,hd,rfl,hc⟩
  |cons x xs=>exact hx.elim
 |(i,v)::parts,ps,xs,z,cs,cells,hf,hp,hx,hs,hd,hc=>by
  cases ps with
  |nil=>simp at hp
  |cons p ps=>
   obtain⟨off,sz⟩:=p;simp only[List.map_cons,List.cons.injEq] at hp;obtain⟨hp1,hp2⟩:=hp;cases xs with
   |nil=>exact hx.elim
   |cons x xs=>
    obtain⟨dx,Ht⟩:=hx;simp only[fill] at hf;cases oG:cellsOf x with
    |none=>simp[oG] at hf
    |some c1=>
     simp only[oG] at hf;cases hb:Nat.beq c1.length sz && !(Nat.beq sz 0) with
     |false=>simp[hb] at hf
     |true=>
      have bZ:=hb;simp only[Bool.and_eq_true,Bool.not_eq_true'] at bZ;have dU:c1.length=sz:=e9 bZ.1;have aao:sz≠0:=by intro e; subst e; simp[Nat.beq] at bZ
      simp only[hb,cond_true] at hf;cases sa:cr off c1 z with
      |none=>simp[sa] at hf
      |some z'=>
       simp only[sa] at hf;obtain⟨e1,e2,e3⟩:=Jb oG dx;obtain⟨s1,s2,s3⟩:=Lm sa;have qZ:v.cells.size=sz:=by rw[e1,dU]
       have Hu:c1≠[]:=by rintro rfl; simp at dU; omega
       have eh:=s2 Hu;obtain⟨l1,l2⟩:=UP off v.cells.toList 0 cells (by simp[e1]; omega);obtain⟨cA,f1,f2,f3,f4,f5⟩:=Jy parts ps xs z' cs _ hf hp2 Ht (by rw[l1,hs,s1]) (λj y u q1 q2=>by
         grind) (λy hy=>by
         obtain⟨j,hj⟩:=List.mem_iff_getElem?.1 hy
         grind)
       refine⟨cA,?_,f2,f3,by rw[f4,s1],f5⟩;simp only[Instr.fill,hp1,qZ];rw[if_neg (by simp; rw[hs]; omega),←f1]
       congr 1
       rw[←Array.foldl_toList]; simp
theorem Zc2(z:List aa)(ps:List (Nat×Nat))(xs cs:List aa)(hf:fill z ps xs=some cs)(h0:Hp):aC P GL (.build z ps) xs h0 (.agg cs) [] []:=by
 intro o os hc w0 L g h w a r hx _ _;generalize ho:o.op=op at hc;cases hc with
 |buildStruct t fs v _ parts places _ hu hz dt G' sH=>
  obtain⟨it,hit,OV⟩:∃it,P.info? t=some it∧it.zero=some v:=by
   unfold dI at hz; cases hi:P.info? t<;>simp_all
  obtain⟨c1,c2⟩:=ZT (M:=g.M) (c:=g.c) dt;obtain⟨cA,f1,f2,f3,_,_⟩:=Jy (g:=g) (place:=(places.toArray[·]?)) (parts.map λp=>(p.1,a.eval p.2)).toList ps xs z cs v.cells hf (by simp_all [Function.comp_def]) (by rw[Array.toList_map,List.map_map]; rw[List.map_map] at hx; exact hx) (by simpa using c1) (λj y u e1 e2=>c2 j y u e1 (by simpa using e2)) (Je dt);have hb:P.built t (parts.map λp=>(p.1,a.eval p.2)).toList=some cA:=by
   simp_all [Program.built]
  simp only[execOp,ho,Sem.run_bind,run_build w t _ cA hb,Result.andThen_ok,Sem.run_pure];exact Out.here r (.agg _ _ _ f2 f3)
 |mz t n e v _ parts _ sz hu hz dt hs sH=>
  obtain⟨it,hit,OV⟩:∃it,P.info? t=some it∧it.zero=some v:=by
   unfold dI at hz; cases hi:P.info? t<;>simp_all
  obtain⟨ie,yD,pD⟩:∃ie,P.info? e=some ie∧ie.size=sz:=by
   simp_all [size?]
  obtain⟨c1,c2⟩:=ZT (M:=g.M) (c:=g.c) dt;obtain⟨cA,f1,f2,f3,_,_⟩:=Jy (g:=g) (place:=λi=>some (i*ie.size,ie.size)) (parts.map λp=>(p.1,a.eval p.2)).toList ps xs z cs v.cells hf (by rw[←sH,pD]; simp) (by rw[Array.toList_map,List.map_map]; rw[List.map_map] at hx; exact hx) (by simpa using c1) (λj y u e1 e2=>c2 j y u e1 (by simpa using e2)) (Je dt);have hb:P.built t (parts.map λp=>(p.1,a.eval p.2)).toList=some cA:=by
   simp_all [Program.built]
  simp only[execOp,ho,Sem.run_bind,run_build w t _ cA hb,Result.andThen_ok,Sem.run_pure];exact Out.here r (.agg _ _ _ f2 f3)
theorem Yb3{z:List aa}{n k:Nat}(hk:k<n*z.length):((List.replicate n z).flatten)[k]?=z[k%z.length]?:=by
 induction n generalizing k with
 |zero=>simp at hk
 |succ n ih=>
  simp only[List.replicate_succ,List.flatten_cons];by_cases h:k<z.length<;>grind [Nat.mod_eq_of_lt,Nat.mod_eq_sub_mod]
theorem br.oQ{w0:World}{L:Ln}{g:Gm}{h:Hp}{w:World}(r:br GL w0 L g h w){nb:Nat}(hn:h nb=none)(sz:Nat)(rs:List (List aa))(arr:Array Value)(T:TypeId)(len cap:Nat)(ex:Bool)
 (hs:cap*sz=arr.size)(hlen:len≤cap)(hex:ex=true→cap=len)(yL:rs.length≤cap)(dT:∀(i:Nat) (row:List aa),rs[i]?=some row→row.length=sz)
 (hd:∀(i:Nat) (row:List aa) (j:Nat) (x:aa) (v:Value),rs[i]?=some row→row[j]?=some x→arr[i*sz+j]?=some v→g.den x v) :
  ∃g',g.Le g'∧br GL w0 L g' (eA h nb (.rows sz rs)) (w.alloc (.cells arr T))∧g'.den (.sl nb 0 len ex) (.slice (some ⟨w.heap.size,0,none⟩) len cap):=by
 have hle:=r.jo hn ⟨w.heap.size,sz,arr.size,false,0⟩;have h1:rs.length*sz≤arr.size:=Nat.le_trans (Nat.mul_le_mul_right sz yL) (Nat.le_of_eq hs);have jW:Den g.M (kr g.c nb ⟨w.heap.size,sz,arr.size,false,0⟩) (.sl nb 0 len ex) (.slice (some ⟨w.heap.size,0+0*sz,none⟩) len cap):=
  .sl _ _ _ _ _ _ _ (Xz _ _ _) rfl hlen (by simpa using hs) hex
 rw[Nat.zero_mul] at jW;exact⟨_,hle,r.alloc hn (cb:=⟨w.heap.size,sz,arr.size,false,0⟩) rfl rfl rfl ⟨rfl,arr,T,rfl,rfl,(Nat.zero_add _).symm▸h1,dT,λi row j x v e1 e2 e3=>Gm.kE hle (hd i row j x v e1 e2 (by rw[←e3]; simp))⟩,jW⟩
theorem Zcw(sz n:Nat)(z:List aa)(ps:List (Nat×Nat))(xs cs:List aa)(rs:List (List aa))(hf:fill z ps xs=some cs)(hch:chunk sz n cs=some rs)(h0:Hp)(nb:Nat)(hn:h0 nb=none) :
  aC P GL (.lh sz n z ps) xs h0 (.sl nb 0 n true) [] [(nb,.rows sz rs)]:=by
 intro o os hc w0 L g h w a r hx _ gy;have ja:h nb=none:=by simp_all
 generalize ho:o.op=op at hc;cases hc with
 |buildSlice t _ e v z0 _ parts _ _ hu hs Px pG hz qZ dt sY sH=>
  obtain⟨ie,yD,pD⟩:∃ie,P.info? e=some ie∧ie.size=sz:=by
   simp_all [size?]
  have VX:ie.zero=some v:=by simp_all [dI]
  have o7:P.underlying t=some (.slice e):=by
   grind [eg]
  obtain⟨c1,c2⟩:=ZT (M:=g.M) (c:=g.c) dt;have Hu:z0.length=sz:=by rw[←c1,Array.length_toList,qZ]
  have Ee:z.length=n*sz:=by rw[←sY]; simp[Hu]
  obtain⟨k1,k2,k3,k4⟩:=Qcq hch;have sD:∀mB:Array Value,mB.size=n*sz→(∀k v',mB[k]?=some v'→v.cells[k%sz]?=some v') →
    ∃cA,Instr.fill (λi=>some (i*ie.size,ie.size)) mB (parts.map λp=>(p.1,a.eval p.2)).toList=some cA∧cA.size=cs.length∧(∀(j:Nat) (y:aa) (u:Value),cs[j]?=some y→cA[j]?=some u→g.den y u)∧cs.length=z.length:=by
   intro mB hs0 hv0;obtain⟨cA,f1,f2,f3,f4,_⟩:=Jy (g:=g) (place:=λi=>some (i*ie.size,ie.size)) (parts.map λp=>(p.1,a.eval p.2)).toList ps xs z cs mB hf (by rw[←sH,pD]; simp) (by rw[Array.toList_map,List.map_map]; rw[List.map_map] at hx; exact hx) (by rw[hs0,Ee])
    (λj y u e1 e2=>by
     have hj:j<n*z0.length:=by grind
     rw[← sY,Yb3 hj,Hu] at e1;exact c2 _ y u e1 (by simp_all))
    (λy hy=>by
     rw[← sY] at hy;simp only[List.mem_flatten,List.mem_replicate] at hy;obtain⟨l,⟨_,rfl⟩,xn⟩:=hy;exact Je dt y xn)
   exact⟨cA,f1,f2,f3,f4⟩
  have lY:∀cA:Array Value,cA.size=cs.length→cs.length=z.length→(∀(j:Nat) (y:aa) (u:Value),cs[j]?=some y→cA[j]?=some u→g.den y u) →
    Out P GL w0 L g (cq h [(nb,.rows sz rs)]) (.sl nb 0 n true) (.ok (.value (.slice (some ⟨w.heap.size,0,none⟩) n n)) (w.alloc (.cells cA e))):=by
   intro cA f2 f4 f3;refine br.oQ r ja sz rs cA e n n true (by rw[f2,f4,Ee]) (Nat.le_refl _) (λ_=>rfl) (by omega) k3 (λi row j x v' e1 e2 e3=>?_);exact f3 _ x v' (k4 i row j x e1 e2) e3
  have aap:0 < sz:=Nat.pos_of_ne_zero (λe=>pG (by rw[e]; simp));obtain⟨cA,f1,f2,f3,f4⟩:=sD ((Array.range (n * ie.size)).map (v.cells[· % v.cells.size]!)) (by simp[pD]) (λk v' e1=>by
   grind [Nat.mod_lt])
  have bL:(Instr.buildSlice t n (parts.map λp=>(p.1,a.eval p.2))).run P w=.ok (.slice (some ⟨w.heap.size,0,none⟩) n n) (w.alloc (.cells cA e)):=by
   have hs1:¬n*ie.size>2 ^ 24:=by rw[pD]; omega
   have pJ:¬n*ie.size=0:=by rw[pD]; exact pG
   simp only[Instr.buildSlice,sizeOf,typeInfo,zeroValue,newRow,Sem.run_bind,run_underlying o7,Result.andThen_ok,run_program,yD,Sem.run_pure,if_neg hs1,if_neg pJ,VX,f1,run_newObj];rfl
  grind [execOp,Sem.run_bind,Result.andThen_ok,Sem.run_pure]
theorem YbU(b:Nat)(es:List (aa×aa))(h0:Hp)(hb:h0 b=some (.map es)):aC P GL .lx [.map b] h0 (.int .i64 es.length) [b] []:=by
 intro o os hc w0 L g h w a r hx cH _;have bZ:h b=some (.map es):=by simp_all
 generalize ho:o.op=op at hc;cases hc with
 |lx t k e z hu=>
  have d:=hx.1;generalize ij:a.eval z=u0 at d;cases d with
  |map _ _ cb ec=>
  cases bP:cb.cS with
  |true=>have:=r.aX b _ cb bZ rfl ec bP; cases this
  |false=>
  obtain⟨_,_,o',eI,arr,clock,rfl,hs,cI⟩:=r.own b _ cb bZ rfl ec bP;have ah:(getObj cb.aE).run P w=.ok (.map arr clock) w:=by simp[getObj,Sem.run,eI]
  have:(execOp a.eval o).run P w=.ok (.value (.int .i64 es.length)) w:=by
   simp[execOp,ho,resolve,invoke,builtin,Builtin.len_,ij,run_underlying hu,ah,goInt,hs]
  rw[this]; exact Out.here r (.int _ _ _)
theorem ZbU(h0:Hp):aC P GL .lx [.cB] h0 (.int .i64 0) [] []:=by
 intro o os hc w0 L g h w a r hx _ _;generalize ho:o.op=op at hc;cases hc with
 |lx t k e z hu=>
  have d:=hx.1;generalize ij:a.eval z=u0 at d;cases d with
  |cB=>
  have:(execOp a.eval o).run P w=.ok (.value (.int .i64 0)) w:=by
   simp[execOp,ho,resolve,invoke,builtin,Builtin.len_,ij,run_underlying hu,goInt]
  rw[this]; exact Out.here r (.int _ _ _)
theorem XbU(es:List (aa×aa))(h0:Hp):aC P GL .lx [.eN es] h0 (.int .i64 es.length) [] []:=by
 intro o os hc w0 L g h w a r hx _ _;generalize ho:o.op=op at hc;cases hc with
 |lx t k e z hu=>
  have d:=hx.1;generalize ij:a.eval z=u0 at d;cases d with
  |eN _ _ aE arr clock hM hs h1 h2=>
  have ah:(getObj aE).run P w=.ok (.map arr clock) w:=by simp[getObj,Sem.run,r.aR _ _ hM]
  have:(execOp a.eval o).run P w=.ok (.value (.int .i64 es.length)) w:=by
   simp[execOp,ho,resolve,invoke,builtin,Builtin.len_,ij,run_underlying hu,ah,goInt,hs]
  rw[this]; exact Out.here r (.int _ _ _)
theorem W7(s:List UInt8)(h0:Hp)(nb:Nat)(hn:h0 nb=none):aC P GL .range [.str s] h0 (.iter nb) [] [(nb,.eF s 0)]:=by
 intro o os hc w0 L g h w a r hx _ gy;have ja:h nb=none:=by simp_all
 generalize ho:o.op=op at hc;cases hc with
 |range t x hu=>
  obtain⟨s',e1,rfl⟩:=Q8 hx.1;have:(execOp a.eval o).run P w=.ok (.value (.pointer (some ⟨w.heap.size,0,none⟩))) (w.alloc (.stringIter s' 0)):=by
   simp_all [execOp,Instr.range,run_underlying]
  rw[this];exact⟨_,r.jo ja ⟨w.heap.size,0,0,false,0⟩,r.alloc ja (cb:=⟨w.heap.size,0,0,false,0⟩) rfl rfl rfl (by show _=_; rfl),.iter _ _ _ (Xz _ _ _)⟩
theorem XP{t:TypeId}(h:P.concrete t=true)(h2:(P.underlying t).isSome=true):∃d,P.underlying t=some d∧∀ms,d≠.interface ms:=by
 grind [Program.concrete,Option.isSome_iff_exists]
theorem LX(t:TypeId)(ok:Bool)(z v:aa)(u:TypeId)(h0:Hp) :
  aC P GL (.eO t ok z) [.iface t v] h0 (bif ok then .bn [v,.bool true] else v) [] []∧(u≠t→aC P GL (.eO t true z) [.iface u v] h0 (.bn [z,.bool false]) [] [])∧aC P GL (.eO t true z) [.cV] h0 (.bn [z,.bool false]) [] []:=by
 refine⟨?_,?_,?_⟩
 ·intro o os hc w0 L g h w a r hx _ _;generalize ho:o.op=op at hc;cases hc with
  |eO y tx _ _ zv _ qO m7 hz yt=>
   have d:=hx.1;generalize ij:a.eval y=u0 at d;cases d with
   |iface _ _ _ v' dv=>
   obtain⟨d',nI,o0⟩:=XP qO m7;have:(Instr.typeAssert (.iface t v') tx t ok).run P w=.ok (if ok then .tuple #[v',.bool true] else v') w:=by
    simp_all [Instr.typeAssert,run_underlying]
   simp only[execOp,ho,ij,Sem.run_bind,this,Result.andThen_ok,Sem.run_pure];refine Out.here r ?_;cases ok
   ·exact dv
   ·refine .bn _ _ _ rfl (λi x v e1 e2=>?_)
    match i with
    |0=>simp at e1 e2; subst e1 e2; exact dv
    |1=>simp at e1 e2; subst e1 e2; exact .bool _ _
    |n+2=>simp at e1
 ·intro cL o os hc w0 L g h w a r hx _ _;generalize ho:o.op=op at hc;cases hc with
  |eO y tx _ _ zv _ qO m7 hz yt=>
   have d:=hx.1;generalize ij:a.eval y=u0 at d;cases d with
   |iface _ _ _ v' dv=>
   obtain⟨d',nI,o0⟩:=XP qO m7;have:(Instr.typeAssert (.iface u v') tx t true).run P w=.ok (.tuple #[zv,.bool false]) w:=by
    simp_all [Instr.typeAssert,run_underlying,Z8]
   simp only[execOp,ho,ij,Sem.run_bind,this,Result.andThen_ok,Sem.run_pure];refine Out.here r (.bn _ _ _ rfl (λi x v e1 e2=>?_))
   match i with
   |0=>simp at e1 e2; subst e1 e2; exact JT yt
   |1=>simp at e1 e2; subst e1 e2; exact .bool _ _
   |n+2=>simp at e1
 ·intro o os hc w0 L g h w a r hx _ _;generalize ho:o.op=op at hc;cases hc with
  |eO y tx _ _ zv _ qO m7 hz yt=>
   have d:=hx.1;generalize ij:a.eval y=u0 at d;cases d with
   |cV=>
   obtain⟨d',nI,o0⟩:=XP qO m7;have:(Instr.typeAssert .nilIface tx t true).run P w=.ok (.tuple #[zv,.bool false]) w:=by
    simp_all [Instr.typeAssert,run_underlying,Z8]
   simp only[execOp,ho,ij,Sem.run_bind,this,Result.andThen_ok,Sem.run_pure];refine Out.here r (.bn _ _ _ rfl (λi x v e1 e2=>?_))
   match i with
   |0=>simp at e1 e2; subst e1 e2; exact JT yt
   |1=>simp at e1 e2; subst e1 e2; exact .bool _ _
   |n+2=>simp at e1
theorem Xc1{t:TypeId}{i:TypeInfo}(h:P.info? t=some i)(w:World):(typeInfo t).run P w=.ok i w:=by
 simp_all [typeInfo]
theorem WN(nw:List TypeId)(u:TypeId)(v:aa)(h0:Hp)(hu:u∈nw):aC P GL (.fI nw) [.iface u v] h0 (.bn [.iface u v,.bool true]) [] []:=by
 intro o os hc w0 L g h w a r hx _ _;generalize ho:o.op=op at hc;cases hc with
 |fI y tx t ms _ KZ hz We=>
  have d:=hx.1;generalize ij:a.eval y=u0 at d;cases d with
  |iface _ _ _ v' dv=>
  obtain⟨i,hi,hm⟩:=We u hu;have:(Instr.typeAssert (.iface u v') tx t true).run P w=.ok (.tuple #[.iface u v',.bool true]) w:=by
   simp_all [Instr.typeAssert,run_underlying,Xc1]
  simp only[execOp,ho,ij,Sem.run_bind,this,Result.andThen_ok,Sem.run_pure];refine Out.here r (.bn _ _ _ rfl (λi x v e1 e2=>?_))
  match i with
  |0=>simp at e1 e2; subst e1 e2; exact .iface _ _ _ _ dv
  |1=>simp at e1 e2; subst e1 e2; exact .bool _ _
  |n+2=>simp at e1
theorem WW(nw:List TypeId)(h0:Hp):aC P GL (.fI nw) [.cV] h0 (.bn [.cV,.bool false]) [] []:=by
 intro o os hc w0 L g h w a r hx _ _;generalize ho:o.op=op at hc;cases hc with
 |fI y tx t ms _ KZ hz We=>
  have d:=hx.1;generalize ij:a.eval y=u0 at d;cases d with
  |cV=>
  have:(Instr.typeAssert .nilIface tx t true).run P w=.ok (.tuple #[.nilIface,.bool false]) w:=by
   simp_all [Instr.typeAssert,run_underlying,Z8]
  simp only[execOp,ho,ij,Sem.run_bind,this,Result.andThen_ok,Sem.run_pure];refine Out.here r (.bn _ _ _ rfl (λi x v e1 e2=>?_))
  match i with
  |0=>simp at e1 e2; subst e1 e2; exact .cV _
  |1=>simp at e1 e2; subst e1 e2; exact .bool _ _
  |n+2=>simp at e1
end
end Go.Ah
end
section
namespace Go.Ah
section
variable {P:Program} {GL:aw}
def lG:ea→Bool→Value→Prop
 |.ptr,true,v=>v=.pointer none
 |.ptr,false,v=>∃a,v=.pointer (some a)
 |.slice,true,v=>v=.slice none 0 0
 |.slice,false,v=>∃a l c,v=.slice (some a) l c
 |.iface,true,v=>v=.nilIface
 |.iface,false,v=>∃t u,v=.iface t u
 |.func,true,v=>v=.nilFunc
 |.func,false,v=>∃f p q,v=.func f p q
 |.map,true,v=>v=.map none
 |.map,false,v=>∃m,v=.map (some m)
theorem SZ{c:ea}{z:aa}{b:Bool}(h:mj c z=some b){g:Gm}{v:Value}(d:g.den z v):lG c b v:=by
 cases d<;>cases c<;>simp only[mj] at h<;>first
  |(cases h; done)
  |(cases h; simp only[lG]; done)
  |(cases h; exact⟨_,rfl⟩)
  |(cases h; exact⟨_,_,rfl⟩)
  |(cases h; exact⟨_,_,_,rfl⟩)
  |skip
 ·rename_i b' off len ex cb cap _ _ _ _ _;cases len with
  |zero=>cases h
  |succ n=>cases h; exact⟨_,_,_,rfl⟩
 ·rename_i nn _ rows a _ _ _ _ _ h2 h3 _ _ _ _ _;cases nn
  ·cases rows with
   |nil=>cases h
   |cons r rs=>
    cases h;have:=h3 (by simp);subst this;exact⟨_,_,_,rfl⟩
  ·cases h;obtain⟨a',vz⟩:=Option.isSome_iff_exists.1 (h2 rfl);subst vz; exact⟨_,_,_,rfl⟩
theorem Ybc{c:ea}{t:TypeId}(ht:sr P t=some c){b:Bool}{v:Value}(hv:lG c b v)(w:World)(d:Nat) :
  (Op.equalIn (d+1) t v (js c)).run P w=.ok b w∧(Op.equalIn (d+1) t (js c) v).run P w=.ok b w:=by
 unfold sr at ht;cases hu:P.underlying t with
 |none=>simp[hu] at ht
 |some ty=>
  unfold Op.equalIn;simp only[Sem.run_bind,run_underlying hu,Result.andThen_ok];cases ty<;>simp only[hu] at ht<;>cases ht<;>cases b<;>simp only[lG] at hv<;>first
   |(subst hv; exact⟨rfl,rfl⟩)
   |(obtain⟨x,rfl⟩:=hv; exact⟨rfl,rfl⟩)
   |(obtain⟨x,y,rfl⟩:=hv; exact⟨rfl,rfl⟩)
   |(obtain⟨x,y,z,rfl⟩:=hv; exact⟨rfl,rfl⟩)
theorem TX{c:ea}{t:TypeId}(ht:sr P t=some c){b:Bool}{v:Value}(hv:lG c b v)(neq:Bool)(w:World) :
  (binOp (if neq then .neq else .eql) t v (js c)).run P w=.ok (.bool (bif neq then !b else b)) w∧(binOp (if neq then .neq else .eql) t (js c) v).run P w=.ok (.bool (bif neq then !b else b)) w:=by
 obtain⟨h1,h2⟩:=Ybc ht hv w 9999;have e1:∀x y:Value,(Op.equalIn (9999+1) t x y).run P w=.ok b w→((do pure (.bool (←Op.equal t x y)):Sem Value).run P w=.ok (.bool b) w)∧((do pure (.bool (!(←Op.equal t x y))):Sem Value).run P w=.ok (.bool (!b)) w):=by
  intro x y hr;have jV:(Op.equal t x y).run P w=.ok b w:=hr;simp_all
 have f1:=e1 _ _ h1;have f2:=e1 _ _ h2;cases neq<;>cases c<;>cases b<;>simp only[lG] at hv<;>first
  |(subst hv; first|exact⟨f1.1,f2.1⟩|exact⟨f1.2,f2.2⟩)
  |(obtain⟨x,rfl⟩:=hv; first|exact⟨f1.1,f2.1⟩|exact⟨f1.2,f2.2⟩)
  |(obtain⟨x,y,rfl⟩:=hv; first|exact⟨f1.1,f2.1⟩|exact⟨f1.2,f2.2⟩)
  |(obtain⟨x,y,z,rfl⟩:=hv; first|exact⟨f1.1,f2.1⟩|exact⟨f1.2,f2.2⟩)
theorem Sy{c:ea}{t:TypeId}(neq:Bool){b:Bool}{v:Value}(hv:lG c b v)(x:Operand) :
  eqGuard (if neq then .neq else .eql) t x (.const (js c)) v (js c)=pure ()∧eqGuard (if neq then .neq else .eql) t (.const (js c)) x (js c) v=pure ():=by
 cases c<;>cases b<;>simp only[lG] at hv<;>cases neq<;>first
  |(subst hv; constructor<;>first|rfl|simp[eqGuard,js])
  |(obtain⟨x,rfl⟩:=hv; constructor<;>rfl)
  |(obtain⟨x,y,rfl⟩:=hv; constructor<;>rfl)
  |(obtain⟨x,y,z,rfl⟩:=hv; constructor<;>rfl)
theorem W6(c:ea)(neq left:Bool)(x y:aa)(b:Bool)(hb:mj c (bif left then y else x)=some b)(h0:Hp):aC P GL (.mJ c neq left) [x,y] h0 (.bool (bif neq then !b else b)) [] []:=by
 intro o os hc w0 L g h w a r hx _ _;generalize ho:o.op=op at hc;cases hc with
 |tZ _ _ t t' p ht=>
  have hn:=SZ hb hx.1;rw[QJ ho rfl (v:=js c) rfl (by rw[(Sy neq hn p).1]; rfl) (TX ht hn neq w).1];exact Out.here r (.bool _ _)
 |tY _ _ t t' q ht=>
  have hn:=SZ hb hx.2.1;rw[QJ ho (u:=js c) rfl rfl (by rw[(Sy neq hn q).2]; rfl) (TX ht hn neq w).2];exact Out.here r (.bool _ _)
theorem XaU(k:IntKind)(ex nn:Bool)(sz:Nat)(rows:List (List aa))(row:List aa)(i:Int)(GN:0≤i)(hi:rows[i.toNat]?=some row)(h0:Hp) :
  aC P GL (.eL sz) [.ax ex nn sz rows,.int k i] h0 (.ao row 0) [] []:=by
 intro o os hc w0 L g h w a r hx _ _;generalize ho:o.op=op at hc;cases hc with
 |eL t z q e _ hu hn=>
  obtain⟨d,d2,_⟩:=hx;generalize ij:a.eval z=u0 at d;cases d with
  |ax _ _ _ _ _ p cap aE off f h1 h2 h3 h4 h5 h6 h7 h8=>
   have cp:i.toNat<rows.length:=(gn hi).1;have cL:rows≠[]:=by intro e; rw[e] at cp; simp at cp
   have hp:=h3 cL;subst hp;have O5:i<rows.length:=by omega
   simp only[execOp,ho,ij,Xp d2,Instr.indexAt,asIntOf,Sem.run_bind,run_underlying hu,Result.andThen_ok,Sem.run_pure];rw[if_pos ⟨GN,O5⟩];simp only[Sem.run_bind,ZD hn,Result.andThen_ok,Sem.run_pure,YT];have hl:=h6 _ row hi;have hd:Den g.M g.c (.ao row 0) (.pointer (some ⟨aE,(off+i.toNat*sz)+0,none⟩)):=
    .ao _ _ _ _ _ (f i.toNat) (λk hk=>by grind) (λk x e=>h8 _ row k x hi e)
   exact Out.here r hd
theorem br.eQ{w0:World}{L:Ln}{g:Gm}{h:Hp}{w:World}(r:br GL w0 L g h w){b:Nat}{sz:Nat}{rs:List (List aa)}{cb:CB}(hb:h b=some (.rows sz rs))(ec:g.c b=some cb)(hv:cb.cS=false) :
  cb.sz=sz∧∃arr T,w.heap[cb.aE]?=some (.cells arr T (0,0))∧arr.size=cb.Du∧cb.base+rs.length*sz≤cb.Du∧(∀(i:Nat) (row:List aa),rs[i]?=some row→row.length=sz) ∧
   ∀(i:Nat) (row:List aa) (j:Nat) (x:aa) (v:Value),rs[i]?=some row→row[j]?=some x→arr[cb.base+i*sz+j]?=some v→g.den x v:=by
 obtain⟨_,_,o',eI,h1,arr,T,rfl,h2,h3,h4,h5⟩:=r.own b _ cb hb rfl ec hv;exact⟨h1,arr,T,eI,h2,h3,h4,h5⟩
theorem br.fR{w0:World}{L:Ln}{g:Gm}{h:Hp}{w:World}(r:br GL w0 L g h w){b:Nat}{sz:Nat}{rs:List (List aa)}{cb:CB}(hb:h b=some (.rows sz rs))(ec:g.c b=some cb)(hv:cb.cS=true):cb.sz=sz∧rs=[]:=by
 have:=r.aX b _ cb hb rfl ec hv;simp_all
theorem YaU(k:IntKind)(ex:Bool)(sz b o' len:Nat)(rs:List (List aa))(i:Int)(GN:0≤i)(hi:i<len)(h0:Hp)(hb:h0 b=some (.rows sz rs)) :
  aC P GL (.eL sz) [.sl b o' len ex,.int k i] h0 (.ptr b (o'+i.toNat) 0) [b] []:=by
 intro o os hc w0 L g h w a r hx cH _;have bZ:h b=some (.rows sz rs):=by simp_all
 generalize ho:o.op=op at hc;cases hc with
 |eL t z q e _ hu hn=>
  obtain⟨d,d2,_⟩:=hx;generalize ij:a.eval z=u0 at d;cases d with
  |nO=>simp at hi; omega
  |sle=>simp at hi; omega
  |sl _ _ _ _ _ cb cap ec hv h1 h2 h3=>
   obtain⟨e1,_⟩:=r.eQ bZ ec hv;simp only[execOp,ho,ij,Xp d2,Instr.indexAt,asIntOf,Sem.run_bind,run_underlying hu,Result.andThen_ok,Sem.run_pure];rw[if_pos ⟨GN,hi⟩];simp only[Sem.run_bind,ZD hn,Result.andThen_ok,Sem.run_pure,YT];have hd:Den g.M g.c (.ptr b (o'+i.toNat) 0) (.pointer (some ⟨cb.aE,cb.base+(o'+i.toNat)*cb.sz+0,none⟩)):=.ptr _ _ _ _ _ ec;rw[e1,Nat.add_mul,Nat.add_zero,←Nat.add_assoc] at hd;rw[e1];exact Out.here r hd
theorem Ycw(k:IntKind)(s:List UInt8)(i:Int)(c:UInt8)(GN:0≤i)(hi:s[i.toNat]?=some c)(h0:Hp):aC P GL .j_ [.str s,.int k i] h0 (.int .u8 c.toNat) [] []:=by
 intro o os hc w0 L g h w a r hx _ _;generalize ho:o.op=op at hc;cases hc with
 |j_ t z q hu=>
  obtain⟨d,d2,_⟩:=hx;obtain⟨s',e1,rfl⟩:=Q8 d;have hs:s'[i.toNat]?=some c:=by
   have cp:i.toNat<s'.data.toList.length:=(gn hi).1;have ah:=(gn hi).2;have wU:i.toNat<s'.size:=by simpa using cp
   rw[getElem?_pos s' i.toNat wU]
   congr 1
  simp only[execOp,ho,e1,Xp d2,Instr.index,asIntOf,Sem.run_bind,run_underlying hu,Result.andThen_ok,Sem.run_pure,if_pos GN,hs];exact Out.here r (.int _ _ _)
theorem WR(agg:Bool)(n b i j sz:Nat)(rs:List (List aa))(row:List aa)(v:aa)(h0:Hp)(hb:h0 b=some (.rows sz rs))(hi:rs[i]?=some row)(hv:aL agg j n row=some v) :
  aC P GL (.load agg n) [.ptr b i j] h0 v [b] []:=by
 intro o os hc w0 L g h w a r hx cH _;have bZ:h b=some (.rows sz rs):=by simp_all
 generalize ho:o.op=op at hc;cases hc with
 |load t x _ _ ha hn=>
  have d:=hx.1;generalize hu:a.eval x=u0 at d;cases d with
  |ptr _ _ _ _ cb ec=>
  cases bP:cb.cS with
  |true=>have:=(r.fR bZ ec bP).2; subst this; simp at hi
  |false=>
  obtain⟨e1,arr,T,eI,hs,hle,dT,cI⟩:=r.eQ bZ ec bP;have oH:i<rs.length:=(gn hi).1;have hbound:cb.base+i*sz+sz≤arr.size:=by
   have:(i+1)*sz≤rs.length*sz:=Nat.mul_le_mul_right sz oH;rw[Nat.succ_mul] at this; omega
  have m8:∀(k:Nat) (y:aa) (u:Value),row[k]?=some y→(arr.extract (cb.base+i*sz) (cb.base+i*sz+sz))[k]?=some u→g.den y u:=by
   grind
  obtain⟨p1,p2⟩:=EH (g:=g) hv (by rw[dT i row hi]; simp; omega) m8;obtain⟨l1,l2⟩:=My ha hn (T:=T) (fr:=(0,0)) (Z3 eI) (cb.base+i*sz+j);rw[e1] at hu;cases agg with
  |true=>
   obtain⟨q1,q2⟩:=p1 rfl;have OI:(arr.extract (cb.base+i*sz) (cb.base+i*sz+sz)).extract j (j+n)=arr.extract (cb.base+i*sz+j) (cb.base+i*sz+j+n):=by
    grind
   rw[OI] at q2;have WA:n≠0→cb.base+i*sz+j+n≤arr.size:=λjK=>by have:=q1 jK; simp at this; omega
   simp_all [execOp,Instr.loadAt,Instr.sureAddr,Out.here]
  |false=>
   obtain⟨u,q1,q2⟩:=p2 rfl;obtain⟨hk,q1⟩:=Array.getElem?_eq_some_iff.1 q1;rw[Array.getElem_extract] at q1;simp at hk;have uy:cb.base+i*sz+j<arr.size:=by omega
   simp_all [execOp,Instr.loadAt,Instr.sureAddr,Out.here]
theorem Li{w:World}{aE j:Nat}{arr:Array Value}{T:TypeId}(ho:w.heap[aE]?=some (.cells arr T (0,0)))(vs:List Value)(hv:∀v∈vs,v.oneCell'=true)(eh:vs≠[]→j+vs.length≤arr.size) :
  ∃fD,(storeCells ⟨aE,j,none⟩ vs).run P w=.ok () (w.setRow aE fD)∧fD.size=arr.size∧∀k,fD[k]?=if j≤k∧k<j+vs.length then vs[k-j]? else arr[k]?:=by
 by_cases h0:vs=[]
 ·subst h0;refine⟨arr,?_,rfl,λk=>by rw[if_neg (by simp)]⟩;simp only[storeCells]; rw[setRow_self w aE arr T (0,0) ho]; rfl
 ·have hf:=eh h0;refine⟨_,run_storeCells_at P aE j T vs 0 arr w ho (by omega) hv,?_,λk=>?_⟩
  ·simp only[List.size_toArray,List.length_append,List.length_take,List.length_drop,Array.length_toList]; omega
  ·by_cases hk:j≤k∧k<j+vs.length
   ·rw[if_pos hk,List.getElem?_toArray,List.append_assoc,List.getElem?_append_right (by simp; omega),List.getElem?_append_left (by simp; omega)]
    congr 1; simp; omega
   ·rw[if_neg hk];by_cases fo:k<j
    ·rw[List.getElem?_toArray,List.append_assoc,List.getElem?_append_left (by simp; omega),List.getElem?_take_of_lt (by omega)];simp
    ·rw[List.getElem?_toArray,List.getElem?_append_right (by simp; omega)];simp
     congr 1; omega
theorem Zbj(n b i j sz:Nat)(rs rs':List (List aa))(row row' cs:List aa)(x:aa)(h0:Hp)(hb:h0 b=some (.rows sz rs))(hi:rs[i]?=some row)(gC:cellsOf x=some cs)(hlen:cs.length=n)(sa:cr j cs row=some row')(xj:rs'=rs.set i row') :
  aC P GL (.store n) [.ptr b i j,x] h0 .aF [] [(b,.rows sz rs')]:=by
 intro o os hc w0 L g h w a r hx _ gy;have bZ:h b=some (.rows sz rs):=by simp_all
 generalize ho:o.op=op at hc;cases hc with
 |store t y z _ hn=>
  obtain⟨d,dx,_⟩:=hx;generalize hu:a.eval y=u0 at d;cases d with
  |ptr _ _ _ _ cb ec=>
  cases bP:cb.cS with
  |true=>have:=(r.fR bZ ec bP).2; subst this; simp at hi
  |false=>
  obtain⟨e1,arr,T,eI,hs,hle,dT,cI⟩:=r.eQ bZ ec bP;obtain⟨c1,c2,c3⟩:=Jb gC dx;obtain⟨s1,s2,s3⟩:=Lm sa;have oH:i<rs.length:=(gn hi).1;have Ag:=dT i row hi;have hbound:cb.base+i*sz+sz≤arr.size:=by
   have:(i+1)*sz≤rs.length*sz:=Nat.mul_le_mul_right sz oH;rw[Nat.succ_mul] at this; omega
  have hL:(a.eval z).cells.toList.length=cs.length:=by rw[Array.length_toList]; exact c1
  have jm:∀v∈(a.eval z).cells.toList,v.oneCell'=true:=by
   grind [List.mem_iff_getElem?,Kc,List.getElem_mem]
  obtain⟨fD,f1,f2,f3⟩:=Li (P:=P) eI (a.eval z).cells.toList jm (j:=cb.base + i * sz + j) (by
   grind [List.length_eq_zero_iff])
  have dU:(a.eval z).cells.size=n:=by rw[c1,hlen]
  rw[e1] at hu;have bL:(execOp a.eval o).run P w=.ok .skip (w.setRow cb.aE fD):=by
   simp_all [execOp,Instr.storeAt,Instr.sureAddr,storeVar,ZD]
  rw[bL];refine⟨g,Gm.Le.refl g,?_,rfl⟩;refine r.write bZ rfl ec bP rfl rfl rfl rfl (Kk w _ arr fD T (0,0) eI) ⟨e1,fD,T,rfl,by rw[f2,hs],by subst xj; simpa using hle,?_,?_⟩
  ·grind
  ·intro i' nj k y u e2 e3 e4;subst xj;rw[f3,hL] at e4;by_cases VU:i'=i
   ·subst VU; simp[oH] at e2; subst e2;have hk:k<sz:=by grind
    rw[s3 k] at e3;by_cases V0:j≤k∧k<j+cs.length
    ·rw[if_pos V0] at e3;rw[if_pos (by omega)] at e4;refine c2 (k-j) y u e3 ?_;rw[Array.getElem?_toList] at e4;rw[←e4]; congr 1; omega
    ·rw[if_neg V0] at e3;rw[if_neg (by omega)] at e4;exact cI i' row k y u hi e3 e4
   ·rw[List.getElem?_set_ne (λe=>VU e.symm)] at e2;have hk:k<sz:=by grind
    have mY:¬(cb.base+i*sz+j≤cb.base+i'*sz+k∧cb.base+i'*sz+k<cb.base+i*sz+j+cs.length):=by
     intro ⟨q1,q2⟩;by_cases wM:cs=[]
     ·subst wM; simp at q2; omega
     ·have nJ:=s2 wM;rcases Nat.lt_or_ge i' i with cp|D_
      ·have:(i'+1)*sz≤i*sz:=Nat.mul_le_mul_right sz cp
       grind
      ·have cp:i<i':=by omega
       have:(i+1)*sz≤i'*sz:=Nat.mul_le_mul_right sz cp
       grind
    rw[if_neg mY] at e4;exact cI i' nj k y u e2 e3 e4
end
end Go.Ah
end
section
namespace Go.Ah
section
variable {P:Program} {GL:aw}
theorem Ycv{g:Gm}{l r:Bool}{a b:aa}(h:DE l a b=some r){t:TypeId}(ht:lM P t=some l){v u:Value}(hv:g.den a v)(hu:g.den b u)(d:Nat)(w:World):(Op.equalIn (d+1) t v u).run P w=.ok r w:=by
 have KY:∃ty,P.underlying t=some ty∧((l=false∧∃q,ty=.int q)∨(l=true∧ty=.bool)):=by
  grind [lM]
 obtain⟨ty,KY,hl⟩:=KY;rcases hl with ⟨rfl,q,rfl⟩|⟨rfl,rfl⟩
 ·cases hv<;>cases hu<;>simp only[DE] at h<;>try (cases h; done)
  grind [we,run_equalIn_int]
 ·cases hv<;>cases hu<;>simp only[DE] at h<;>try (cases h; done)
  simp_all [run_equalIn_bool']
theorem SF{g:Gm}(d:Nat)(xs ys:Array Value)(w:World):∀(fs:List Field) (k:Nat) (ls:List Bool) (as bs:List aa) (r:Bool),XV ls as bs=some r →
  fs.all (λf=>f.name != "_")=true→fs.mapM (λf=>lM P f.type)=some ls→fs.map (·.offset)=List.range' k fs.length →
  (∀(i:Nat) (x:aa),as[i]?=some x→∃v,xs[k+i]?=some v∧g.den x v)→(∀(i:Nat) (x:aa),bs[i]?=some x→∃v,ys[k+i]?=some v∧g.den x v) →
  (Op.eqFields (d+1) xs ys fs:Sem Bool).run P w=.ok r w
 |[],k,ls,as,bs,r,he,_,hm,_,_,_=>by
  simp at hm; subst hm;cases as<;>cases bs<;>simp only[XV] at he<;>first|(cases he; rfl)|cases he
 |f::fs,k,ls,as,bs,r,he,iD,hm,G9,hx,hy=>by
  simp only[List.mapM_cons,Option.bind_eq_bind,Option.pure_def] at hm;cases z7:lM P f.type with
  |none=>simp[z7] at hm
  |some l=>
  cases wV:fs.mapM (λf=>lM P f.type) with
  |none=>simp[z7,wV] at hm
  |some Wt=>
  simp[z7,wV] at hm; subst hm;cases as with
  |nil=>simp[XV] at he
  |cons a as=>
   cases bs with
   |nil=>simp[XV] at he
   |cons b bs=>
    simp only[XV] at he;cases h1:DE l a b with
    |none=>simp[h1] at he
    |some r1=>
     cases h2:XV Wt as bs with
     |none=>simp[h1,h2] at he
     |some r2=>
      simp only[h1,h2] at he; cases he;simp only[List.all_cons,Bool.and_eq_true,bne_iff_ne] at iD;obtain⟨G4,ud⟩:=iD;simp only[List.map_cons,List.length_cons,List.range'_succ,List.cons.injEq] at G9;obtain⟨hk,G_⟩:=G9;obtain⟨v,Wg,Wh⟩:=hx 0 a rfl;obtain⟨u,mh,pL⟩:=hy 0 b rfl;rw[Nat.add_zero] at Wg mh;have ih:=SF d xs ys w fs (k+1) Wt as bs r2 h2 ud wV G_ (λi x e=>by have:=hx (i+1) x (by simpa using e); rwa [show k+1+i=k+(i+1) by omega]) (λi x e=>by have:=hy (i+1) x (by simpa using e); grind);have yI:∀(arr:Array Value) (z:Value),arr[k]?=some z→(part f.type arr f.offset).run P w=.ok z w:=by
       intro arr z hz;have ha:eS P f.type=some false:=by
        grind [lM,eS]
       simp_all [part,Q4]
      simp only[Op.eqFields];rw[if_pos G4];simp only[Sem.run_bind,yI xs v Wg,yI ys u mh,Ycv h1 z7 Wh pL,Result.andThen_ok];cases r1<;>simp_all
theorem XdJ(neq:Bool)(ls:List Bool)(as bs:List aa)(r:Bool)(hr:XV ls as bs=some r)(h0:Hp):aC P GL (.yp neq ls) [.agg as,.agg bs] h0 (.bool (bif neq then !r else r)) [] []:=by
 intro o os hc w0 L g h w a r' hx _ _;generalize ho:o.op=op at hc;cases hc with
 |yp _ t t' x y _ hl hs hg=>
  obtain⟨d1,d2,_⟩:=hx;generalize mh:a.eval x=u1 at d1;generalize pL:a.eval y=u2 at d2;cases d1 with
  |agg _ _ vs q1 q2=>
  cases d2 with
  |agg _ _ us q3 q4=>
  have fT:∃fs,P.underlying t=some (.struct fs)∧fs.toList.all (λf=>f.name != "_")=true∧fs.toList.map (·.offset)=List.range' 0 fs.toList.length∧fs.toList.mapM (λf=>lM P f.type)=some ls:=by
   grind [oN]
  obtain⟨fs,f1,f2,f3,f4⟩:=fT;have D9:P.fieldsOf t=fs:=by simp[Program.fieldsOf,f1]
  have bL:(Op.equalIn 10000 t (.agg vs) (.agg us)).run P w=.ok r w:=by
   rw[show (10000:Nat)=9998+1+1 from rfl,run_equalIn_struct w (9998+1) t vs us (by rw[D9]; exact f1) hs,D9];refine SF (g:=g) 9998 vs us w fs.toList 0 ls as bs r hr f2 f4 f3 (λi x e=>?_) (λi x e=>?_)
   ·have hi:i<vs.size:=by grind
    exact⟨vs[i],by simp[hi],q2 i x _ e (by simp[hi])⟩
   ·have hi:i<us.size:=by grind
    exact⟨us[i],by simp[hi],q4 i x _ e (by simp[hi])⟩
  cases neq
  ·rw[QJ ho mh pL (run_eqGuard_agg w _ t x y vs us hg) (z:=.bool r) (by show (binOp .eql t _ _).run P w=_; rw[run_eql_struct,bL]; rfl)];exact Out.here r' (.bool _ _)
  ·rw[QJ ho mh pL (run_eqGuard_agg w _ t x y vs us hg) (z:=.bool (!r)) (by show (binOp .neq t _ _).run P w=_; rw[run_neq_struct,bL]; rfl)];exact Out.here r' (.bool _ _)
end
end Go.Ah
end
section
namespace Go.Ah
def iG:aa→aa→Option Bool
 |.int k a,.int k' b=>bif jc k k' then some (a==b) else none
 |.str a,.str b=>some (a==b)
 |_,_=>none
def ir(k:aa):List (aa×aa)→Option (Option aa)
 |[]=>some none
 |(q,x)::es=>match iG k q with
  |some true=>some (some x)
  |some false=>ir k es
  |none=>none
def my(k v:aa):List (aa×aa)→Option (List (aa×aa))
 |[]=>some [(k,v)]
 |(q,x)::es=>match iG k q with
  |some true=>some ((k,v)::es)
  |some false=>match my k v es with
   |some rS=>some ((q,x)::rS)
   |none=>none
  |none=>none
def eV(g:Gm)(es:List (aa×aa))(l:List MapEntry):Prop:=
 l.length=es.length∧∀(i:Nat) (k x:aa) (e:MapEntry),es[i]?=some (k,x)→l[i]?=some e→g.den k e.key∧g.den x e.val
section
variable {P:Program} {GL:aw}
def jD(d:TypeDesc)(k:aa):Prop:=(∃z n z',k=.int z n∧d=.int z')∨(∃s,k=.str s∧d=.string)
theorem RH{g:Gm}{k q:aa}{r:Bool}(h:iG k q=some r){u v:Value}(hu:g.den k u)(hv:g.den q v){d:TypeDesc}(eh:jD d k) :
  Instr.sameNow d u v=some r:=by
 rcases eh with ⟨z,n,z',rfl,rfl⟩|⟨s,rfl,rfl⟩
 ·cases q<;>simp only[iG] at h<;>try (cases h; done)
  cases hu; cases hv<;>grind [Instr.sameNow,we]
 ·cases q<;>simp only[iG] at h<;>try (cases h; done)
  cases hu; cases hv<;>simp_all [Instr.sameNow,beq_toListBytes,ByteArray.toList_eq]
theorem TK{g:Gm}{k:aa}{u:Value}(hu:g.den k u){d:TypeDesc}(eh:jD d k):∀(es:List (aa×aa)) (l:List MapEntry) (i:Nat) (r:Option aa),eV g es l→ir k es=some r →
  (r=none→Instr.findNow d u l i=some none)∧(∀x,r=some x→∃j v,Instr.findNow d u l i=some (some (j,v))∧g.den x v∧i≤j∧∃e,l[j-i]?=some e∧v=e.val)
 |[],l,i,r,⟨hl,_⟩,h=>by
  have:l=[]:=List.length_eq_zero_iff.1 (by simpa using hl);subst this;simp only[ir] at h; cases h;exact⟨λ_=>rfl,λx e=>by cases e⟩
 |(q,x)::es,l,i,r,⟨hl,hd⟩,h=>by
  cases l with
  |nil=>simp at hl
  |cons e l=>
   obtain⟨d1,d2⟩:=hd 0 q x e rfl rfl;simp only[ir] at h;cases hk:iG k q with
   |none=>simp[hk] at h
   |some b=>
    have uD:=RH hk hu d1 eh;cases b with
    |true=>
     simp only[hk] at h; cases h;refine⟨λe=>(by cases e),λy ey=>?_⟩;cases ey;exact⟨i,e.val,by simp[Instr.findNow,uD],d2,Nat.le_refl _,e,by simp,rfl⟩
    |false=>
     simp only[hk] at h;obtain⟨i1,i2⟩:=TK hu eh es l (i+1) r ⟨by simpa using hl,λj k' x' e' q1 q2=>hd (j+1) k' x' e' (by simpa using q1) (by simpa using q2)⟩ h
     grind [Instr.findNow]
theorem TL{t:TypeId}{d:TypeDesc}(hd:P.underlying t=some d){k:aa}(eh:jD d k){g:Gm}{u:Value}(hu:g.den k u)(b:Bool)(n:Nat)(w:World):(Instr.checkKey b (n+1) t u).run P w=.ok () w:=by
 rcases eh with ⟨z,m,z',rfl,rfl⟩|⟨s,rfl,rfl⟩<;>simp_all [Instr.checkKey,run_underlying]
theorem Kh{t:TypeId}{d:TypeDesc}(hd:P.underlying t=some d){u:Value}{l:List MapEntry}{r:Option (Nat×Value)}(h:Instr.findNow d u l 0=some r)(w:World):(Instr.findKey t u l).run P w=.ok r w:=by
 simp_all [Instr.findKey,run_underlying]
def jX(ok:Bool)(z:aa)(r:Option aa):aa:=
 bif ok then .bn [r.getD z,.bool r.isSome] else r.getD z
theorem Xcv{t k e:TypeId}{d:TypeDesc}{v:Value}{z:aa}(ht:P.underlying t=some (.map k e))(hd:P.underlying k=some d)(hz:dI P e=some v)(yt:ou v=some z){g:Gm}{q:aa}{u m:Value}(hu:g.den q u)(eh:jD d q)
 {w:World}{es:List (aa×aa)}{arr:Array MapEntry}(hm:(m=.map none∧arr = #[])∨∃b clock,m=.map (some b)∧w.heap[b]?=some (.map arr clock))(GD:eV g es arr.toList){r:Option aa}(hr:ir q es=some r)(ok:Bool) :
  ∃x,(Instr.lookup t m u ok).run P w=.ok x w∧g.den (jX ok z r) x:=by
 obtain⟨f1,f2⟩:=TK hu eh es arr.toList 0 r GD hr;have Oz:=λw'=>TL (P:=P) hd eh hu arr.isEmpty 9999 w';have lY:∀v' b,g.den (r.getD z) v'→b=r.isSome→g.den (jX ok z r) (if ok then .tuple #[v',.bool b] else v'):=by
  intro v' b h2 h3;subst h3;cases ok
  ·exact h2
  ·refine .bn _ _ _ rfl (λi x v e1 e2=>?_)
   match i with
   |0=>simp at e1 e2; subst e1 e2; exact h2
   |1=>simp at e1 e2; subst e1 e2; exact .bool _ _
   |n+2=>simp at e1
 cases r with
 |none=>
  refine⟨_,?_,lY v false (JT yt) rfl⟩;unfold Instr.lookup;rcases hm with ⟨rfl,rfl⟩|⟨b,clock,rfl,hb⟩<;>simp_all [getObj,Sem.run,run_underlying,Kh,Z8]
 |some x=>
  obtain⟨j,v',g1,g2,_⟩:=f2 x rfl;refine⟨_,?_,lY v' true g2 rfl⟩;unfold Instr.lookup;rcases hm with ⟨rfl,rfl⟩|⟨b,clock,rfl,hb⟩<;>simp_all [getObj,Sem.run,run_underlying,Kh]
inductive pb (h0:Hp):aa→List (aa×aa)→List Nat→Prop
 |own (b:Nat) (es:List (aa×aa)):h0 b=some (.map es)→pb h0 (.map b) es [b]
 |row (es:List (aa×aa)):pb h0 (.eN es) es []
 |nil:pb h0 .cB [] []
def kz:Bool→aa→Prop
 |true,k=>∃s,k=.str s
 |false,k=>∃q n,k=.int q n
theorem SX{t:TypeId}{str:Bool}(ht:so P t str){k:aa}(hk:kz str k):∃d,P.underlying t=some d∧jD d k:=by
 cases str
 ·obtain⟨q,hq⟩:=ht; obtain⟨q',n,rfl⟩:=hk; exact⟨_,hq,.inl ⟨_,_,_,rfl,rfl⟩⟩
 ·obtain⟨s,rfl⟩:=hk; exact⟨_,ht,.inr ⟨_,rfl,rfl⟩⟩
theorem Zcx(str ok:Bool)(z m k:aa)(es:List (aa×aa))(rd:List Nat)(r:Option aa)(h0:Hp)(hm:pb h0 m es rd)(hk:kz str k)(hr:ir k es=some r):aC P GL (.lookup str ok z) [m,k] h0 (jX ok z r) rd []:=by
 intro o os hc w0 L g h w a rp hx cH _;generalize ho:o.op=op at hc;cases hc with
 |lookup t kt e x i _ _ v _ ht zX hz yt=>
  obtain⟨d1,d2,_⟩:=hx;obtain⟨d,hd,eh⟩:=SX zX hk;generalize mh:a.eval x=u1 at d1;have O_:∃arr:Array MapEntry,((u1=.map none∧arr = #[])∨∃b clock,u1=.map (some b)∧w.heap[b]?=some (.map arr clock))∧eV g es arr.toList:=by
   cases hm with
   |own b _ hb=>
    have bZ:h b=some (.map es):=by simp_all
    cases d1 with
    |map _ _ cb ec=>
    cases bP:cb.cS with
    |true=>have:=rp.aX b _ cb bZ rfl ec bP; cases this
    |false=>
    obtain⟨_,_,o',eI,arr,clock,rfl,hs,cI⟩:=rp.own b _ cb bZ rfl ec bP;exact⟨arr,.inr ⟨_,clock,rfl,eI⟩,by simpa using hs,λi k x e e1 e2=>cI i k x e e1 (by simpa using e2)⟩
   |row _=>
    cases d1 with
    |eN _ _ aE arr clock hM hs h1 h2=>
    exact⟨arr,.inr ⟨_,clock,rfl,rp.aR _ _ hM⟩,by simpa using hs,λi k x e e1 e2=>⟨(h1 i k x e e1 (by simpa using e2)).mono (gZ.refl _) (fH.bg _),(h2 i k x e e1 (by simpa using e2)).mono (gZ.refl _) (fH.bg _)⟩⟩
   |nil=>
    cases d1;exact⟨#[],.inl ⟨rfl,rfl⟩,rfl,by simp⟩
  obtain⟨arr,vF,GD⟩:=O_;obtain⟨y,f1,f2⟩:=Xcv ht hd hz yt d2 eh vF GD hr ok;simp_all [execOp,Out.here]
theorem XbT{g:Gm}{k q:aa}(h:iG k q=some true){u v:Value}(hu:g.den k u)(hv:g.den q v)(n:Nat):Instr.sameBits n v u=true:=by
 cases k<;>cases q<;>simp only[iG] at h<;>try (cases h; done)
 ·rename_i k1 a k2 b;cases hk:jc k1 k2 with
  |false=>simp[hk] at h
  |true=>
   have:=we hk; subst this;simp[hk] at h;cases hu; cases hv; simp_all [Instr.sameBits]
 ·cases hu; cases hv<;>simp_all [Instr.sameBits,beq_toListBytes,ByteArray.toList_eq]
theorem SI{g:Gm}{k x:aa}{u y:Value}(hu:g.den k u)(hy:g.den x y){d:TypeDesc}(eh:jD d k):∀(es rS:List (aa×aa)) (l:List MapEntry) (i:Nat),eV g es l→my k x es=some rS →
  (Instr.findNow d u l i=some none∧∀e:MapEntry,e.key=u→e.val=y→eV g rS (l++[e])) ∨
  (∃j v,Instr.findNow d u l i=some (some (i+j,v))∧j<l.length∧(∃e,l[j]?=some e∧∀n,Instr.sameBits n e.key u=true)∧eV g rS (l.modify j λe=>{ e with key:=u,val:=y }))
 |[],rS,l,i,⟨hl,_⟩,h=>by
  have:l=[]:=List.length_eq_zero_iff.1 (by simpa using hl);subst this;simp only[my] at h; cases h;refine .inl ⟨rfl,λe h1 h2=>⟨rfl,λj k' x' e' q1 q2=>?_⟩⟩
  grind
 |(q,z)::es,rS,l,i,⟨hl,hd⟩,h=>by
  cases l with
  |nil=>simp at hl
  |cons e l=>
   obtain⟨d1,d2⟩:=hd 0 q z e rfl rfl;have n9:eV g es l:=⟨by simpa using hl,λj k' x' e' q1 q2=>hd (j+1) k' x' e' (by simpa using q1) (by simpa using q2)⟩;simp only[my] at h;cases hk:iG k q with
   |none=>simp[hk] at h
   |some b=>
    have uD:=RH hk hu d1 eh;cases b with
    |true=>
     simp only[hk] at h; cases h;refine .inr ⟨0,e.val,by simp[Instr.findNow,uD],by simp,⟨e,rfl,λn=>XbT hk hu d1 n⟩,by simpa using hl,λj k' x' e' q1 q2=>?_⟩
     grind
    |false=>
     simp only[hk] at h;cases hp:my k x es with
     |none=>simp[hp] at h
     |some es2=>
      simp only[hp] at h; cases h;rcases SI hu hy eh es es2 l (i+1) n9 hp with ⟨f1,f2⟩|⟨j,v,f1,f2,f3,f4⟩
      ·refine .inl ⟨by simp[Instr.findNow,uD,f1],λe0 h1 h2=>?_⟩;obtain⟨g1,g2⟩:=f2 e0 h1 h2;refine⟨by simpa using g1,λj k' x' e' q1 q2=>?_⟩
       grind
      ·refine .inr ⟨j+1,v,by simp[Instr.findNow,uD,f1]; omega,by simp; omega,by simpa using f3,?_⟩;obtain⟨g1,g2⟩:=f4;refine⟨by simpa using g1,λj' k' x' e' q1 q2=>?_⟩
       grind
theorem Ycx(str:Bool)(b:Nat)(k x:aa)(es rS:List (aa×aa))(h0:Hp)(hb:h0 b=some (.map es))(hk:kz str k)(hp:my k x es=some rS):aC P GL (.kf str) [.map b,k,x] h0 .aF [] [(b,.map rS)]:=by
 intro o os hc w0 L g h w a r hx _ gy;have bZ:h b=some (.map es):=by simp_all
 have main:∀(t kt e:TypeId) (om ok ox:Operand),P.underlying t=some (.map kt e)→so P kt str→df g [.map b,k,x] (List.map a.eval [om,ok,ox]) →
   ∃w',(Instr.mapUpdate t (a.eval om) (a.eval ok) (a.eval ox)).run P w=.ok () w'∧br GL w0 L g (eA h b (.map rS)) w':=by
  intro t kt e om ok ox ht zX ⟨d1,d2,d3,_⟩;obtain⟨d,hd,eh⟩:=SX zX hk;generalize mh:a.eval om=u1 at d1;cases d1 with
  |map _ _ cb ec=>
  cases bP:cb.cS with
  |true=>have:=r.aX b _ cb bZ rfl ec bP; cases this
  |false=>
  obtain⟨_,_,o',eI,arr,clock,rfl,hs,cI⟩:=r.own b _ cb bZ rfl ec bP;have hg:(getObj cb.aE).run P w=.ok (.map arr clock) w:=by simp[getObj,Sem.run,eI]
  have fT:∀Au,(setObj cb.aE Au).run P w=.ok () { w with heap:=w.heap.setIfInBounds cb.aE Au }:=by intro Au; simp[setObj,Sem.run,eI]
  have GD:eV g es arr.toList:=⟨by simpa using hs,λi k x e e1 e2=>cI i k x e e1 (by simpa using e2)⟩;have Oz:=TL (P:=P) hd eh d2 false 9999 w;rcases SI d2 d3 eh es rS arr.toList 0 GD hp with ⟨f1,f2⟩|⟨j,v,f1,f2,⟨e0,f3,f3'⟩,f4⟩
  ·refine⟨_,by simp only[Instr.mapUpdate,Sem.run_bind,run_underlying ht,Result.andThen_ok,hg,Oz,Kh hd f1,fT]; rfl,?_⟩;refine r.write bZ rfl ec bP rfl rfl rfl rfl rfl ?_;obtain⟨g1,g2⟩:=f2 { key:=a.eval ok,val:=a.eval ox,born:=clock } rfl rfl;exact⟨_,_,rfl,by simpa using g1,λi k x e e1 e2=>g2 i k x e e1 (by grind)⟩
  ·rw[Nat.zero_add] at f1;have Hm:(Instr.keyThatStays (((arr[j]?).map (·.key)).getD (a.eval ok)) (a.eval ok)).run P w=.ok (a.eval ok) w:=by
    simp_all [Instr.keyThatStays]
   refine⟨_,by simp only[Instr.mapUpdate,Sem.run_bind,run_underlying ht,Result.andThen_ok,hg,Oz,Kh hd f1,Hm,fT]; rfl,?_⟩;refine r.write bZ rfl ec bP rfl rfl rfl rfl rfl ?_;obtain⟨g1,g2⟩:=f4;exact⟨_,_,rfl,by simpa using g1,λi k x e e1 e2=>g2 i k x e e1 (by grind)⟩
 generalize ho:o.op=op at hc;cases hc with
 |mapUpdate t kt e om ok ox _ ht zX=>
  obtain⟨w',f1,f2⟩:=main t kt e om ok ox ht zX hx;simp only[execOp,ho,Sem.run_bind,f1,Result.andThen_ok,Sem.run_pure];exact⟨g,Gm.Le.refl g,f2,rfl⟩
 |mapInsert t kt e om ok ox _ ht zX=>
  obtain⟨w',f1,f2⟩:=main t kt e om ok ox ht zX hx;simp only[execOp,ho,Sem.run_bind,f1,Result.andThen_ok,Sem.run_pure];exact⟨g,Gm.Le.refl g,f2,rfl⟩
theorem Si(b:Nat)(s:List UInt8)(pos:Nat)(h0:Hp)(hb:h0 b=some (.eF s pos)) :
  (pos<s.length→aC P GL .next [.iter b] h0 (.bn [.bool true,.int .i64 pos,.int .i32 (Utf8.decode ⟨s.toArray⟩ pos).1]) [] [(b,.eF s (pos+(Utf8.decode ⟨s.toArray⟩ pos).2))]) ∧
  (s.length≤pos→aC P GL .next [.iter b] h0 (.bn [.bool false]) [b] []):=by
 constructor
 ·intro cp o os hc w0 L g h w a r hx _ gy;have bZ:h b=some (.eF s pos):=by simp_all
  generalize ho:o.op=op at hc;cases hc with
  |next x=>
   have d:=hx.1;generalize ij:a.eval x=u0 at d;cases d with
   |iter _ _ cb ec=>
   cases bP:cb.cS with
   |true=>have:=r.aX b _ cb bZ rfl ec bP; cases this
   |false=>
   obtain⟨_,_,o',eI,bV⟩:=r.own b _ cb bZ rfl ec bP;have sF:o'=.stringIter ⟨s.toArray⟩ pos:=bV;subst sF;have hg:(getObj cb.aE).run P w=.ok (.stringIter ⟨s.toArray⟩ pos) w:=by simp[getObj,Sem.run,eI]
   have fT:∀Au,(setObj cb.aE Au).run P w=.ok () { w with heap:=w.heap.setIfInBounds cb.aE Au }:=by intro Au; simp[setObj,Sem.run,eI]
   have dU:pos<(⟨s.toArray⟩:ByteArray).size:=by show pos<s.toArray.size; simpa using cp
   have bL:(Instr.next (.pointer (some ⟨cb.aE,0,none⟩)) true o.type).run P w=.ok (.tuple #[.bool true,.int .i64 pos,.int .i32 (Utf8.decode ⟨s.toArray⟩ pos).1]) { w with heap:=w.heap.setIfInBounds cb.aE (.stringIter ⟨s.toArray⟩ (pos+(Utf8.decode ⟨s.toArray⟩ pos).2)) }:=by
    simp only[Instr.next,Sem.run_bind,hg,Result.andThen_ok,if_pos dU,fT,Sem.run_pure,goInt]
   simp only[execOp,ho,ij,Sem.run_bind,bL,Result.andThen_ok,Sem.run_pure];refine⟨g,Gm.Le.refl g,r.write bZ rfl ec bP rfl rfl rfl rfl rfl rfl,.bn _ _ _ rfl (λi x v e1 e2=>?_)⟩
   match i with
   |0=>simp at e1 e2; subst e1 e2; exact .bool _ _
   |1=>simp at e1 e2; subst e1 e2; exact .int _ _ _
   |2=>simp at e1 e2; subst e1 e2; exact .int _ _ _
   |n+3=>simp at e1
 ·intro D_ o os hc w0 L g h w a r hx cH _;have bZ:h b=some (.eF s pos):=by simp_all
  generalize ho:o.op=op at hc;cases hc with
  |next x=>
   have d:=hx.1;generalize ij:a.eval x=u0 at d;cases d with
   |iter _ _ cb ec=>
   cases bP:cb.cS with
   |true=>have:=r.aX b _ cb bZ rfl ec bP; cases this
   |false=>
   obtain⟨_,_,o',eI,bV⟩:=r.own b _ cb bZ rfl ec bP;have sF:o'=.stringIter ⟨s.toArray⟩ pos:=bV;subst sF;have hg:(getObj cb.aE).run P w=.ok (.stringIter ⟨s.toArray⟩ pos) w:=by simp[getObj,Sem.run,eI]
   have dU:¬pos<(⟨s.toArray⟩:ByteArray).size:=by show ¬pos<s.toArray.size; simpa using D_
   have bL:(Instr.next (.pointer (some ⟨cb.aE,0,none⟩)) true o.type).run P w=.ok (.tuple #[.bool false]) w:=by
    simp only[Instr.next,Sem.run_bind,hg,Result.andThen_ok,if_neg dU,Sem.run_pure]
   simp only[execOp,ho,ij,Sem.run_bind,bL,Result.andThen_ok,Sem.run_pure];refine Out.here r (.bn _ _ _ rfl (λi x v e1 e2=>?_))
   match i with
   |0=>simp at e1 e2; subst e1 e2; exact .bool _ _
   |n+1=>simp at e1
theorem Qk(k:IntKind)(i:Int)(y:Nat)(code:BoundsCode)(h0:0≤i)(h1:i≤y)(w:World):(Instr.sliceBound (.int k i) y code).run P w=.ok i.toNat w:=by
 simp_all [Instr.sliceBound,asIntOf]
def cut(l h:Nat)(rows:List (List aa)):List (List aa):=(rows.take h).drop l
theorem J5{l h:Nat}{rows:List (List aa)}{i:Nat}{row:List aa}(e:(cut l h rows)[i]?=some row):rows[l+i]?=some row∧l+i<h:=by
 grind [cut]
theorem Fa{l h:Nat}{rows:List (List aa)}(hh:h≤rows.length):(cut l h rows).length=h-l:=by
 unfold cut; simp; omega
theorem J6{g:Gm}{ex nn:Bool}{sz:Nat}{rows:List (List aa)}{p:Option Addr}{len cap:Nat}(d:g.den (.ax ex nn sz rows) (.slice p len cap)){l h m:Nat}(hl:l≤h)(hh:h≤rows.length)(hm:h≤m)(hmc:m≤cap)(sW:Bool)(hex:sW=true→m=h) :
  g.den (.ax sW nn sz (cut l h rows)) (.slice (if m=l then p else p.map (·.add (l*sz))) (h-l) (m-l)):=by
 cases d with
 |ax _ _ _ _ _ _ _ aE off f h1 h2 h3 h4 h5 h6 h7 h8=>
  have hlen:=Fa (l:=l) hh;rw[←hlen];refine .ax _ sW nn sz (cut l h rows) _ (m-l) aE (off+l*sz) (λi j=>f (l+i) j) (λe=>by rw[hlen,hex e]) (λe=>?_) (λe=>?_) (λe=>?_) (by rw[hlen]; omega) (λi row e=>h6 _ row (J5 e).1) (λi j hi hj=>?_) (λi row j x e1 e2=>h8 _ row j x (J5 e1).1 e2)
  ·grind
  ·have cL:h-l≠0:=by grind
   have hr:rows≠[]:=by intro e0; subst e0; simp at hh; omega
   rw[if_neg (by omega),h3 hr];simp[YT]
  ·split at e<;>simp_all
  grind
theorem ZA{o:Oper}{t e:TypeId}{x:Operand}{lo hi mx:Option Operand}(ho:o.op=.slice t x lo hi mx)(hu:P.underlying t=some (.slice e)){n:Nat}(hn:size? P e=some n){a:Act}{p:Option Addr}{len cap:Nat}(hx:a.eval x=.slice p len cap){w:World}{l h m:Nat}
 (hb:(Instr.sliceBounds true len cap (lo.map a.eval) (hi.map a.eval) (mx.map a.eval)).run P w=.ok (l,h,m) w) :
  (execOp a.eval o).run P w=.ok (.value (.slice (if m=l then p else p.map (·.add (l*n))) (h-l) (m-l))) w:=by
 have h1:(Instr.slice t (.slice p len cap) (lo.map a.eval) (hi.map a.eval) (mx.map a.eval)).run P w=.ok (.slice (if m=l then p else p.map (·.add (l*n))) (h-l) (m-l)) w:=by
  simp_all [Instr.slice,run_underlying,ZD]
 simp_all [Instr.sliceAt,execOp,run_underlying]
theorem DS{g:Gm}{ex nn:Bool}{sz:Nat}{rows:List (List aa)}{v:Value}(d:g.den (.ax ex nn sz rows) v):∃p cap,v=.slice p rows.length cap∧rows.length≤cap∧(ex=true→cap=rows.length):=by
 cases d<;>grind
theorem Yw{op:Op}{n:Nat}{bl bh bm:Bool}{os:List Operand}(hc:bW P GL op (.cx n bl bh bm) os) :
  ∃(t:TypeId) (x:Operand) (lo hi mx:Option Operand) (e:TypeId),op=.slice t x lo hi mx∧bl=lo.isSome∧bh=hi.isSome∧bm=mx.isSome∧os=[x]++lo.toList++hi.toList++mx.toList∧P.underlying t=some (.slice e)∧size? P e=some n:=by
 cases hc<;>grind
theorem M6{op:Op}{bl bh:Bool}{os:List Operand}(hc:bW P GL op (.ej bl bh) os) :
  ∃(t:TypeId) (x:Operand) (lo hi:Option Operand),op=.slice t x lo hi none∧bl=lo.isSome∧bh=hi.isSome∧os=[x]++lo.toList++hi.toList∧P.underlying t=some .string:=by
 cases hc<;>grind
theorem WY(ex nn:Bool)(sz:Nat)(rows:List (List aa))(k:IntKind)(i:Int)(h1:0≤i)(h2:i≤rows.length)(h0:Hp) :
  aC P GL (.cx sz true false false) [.ax ex nn sz rows,.int k i] h0 (.ax ex nn sz (cut i.toNat rows.length rows)) [] []:=by
 intro o os hc w0 L g hp w a r hx _ _;obtain⟨t,x,lo,hi,mx,e,ho,fj,eX,l_,rfl,hu,hn⟩:=Yw hc;obtain⟨lo,rfl⟩:∃z,lo=some z:=Option.isSome_iff_exists.1 fj.symm;obtain rfl:hi=none:=by cases hi<;>first|rfl|cases eX
 obtain rfl:mx=none:=by cases mx<;>first|rfl|cases l_
 obtain⟨d,d2,_⟩:=hx;obtain⟨p,cap,hv,vA,j7⟩:=DS d;rw[hv] at d;have hb:(Instr.sliceBounds true rows.length cap (some (.int k i)) none none).run P w=.ok (i.toNat,rows.length,cap) w:=by
  grind [Instr.sliceBounds,Sem.run_bind,Sem.run_pure,Result.andThen_ok,Qk]
 rw[ZA ho hu hn hv (l:=i.toNat) (h:=rows.length) (m:=cap) (by simpa[Xp d2] using hb)];exact Out.here r (J6 d (by omega) (Nat.le_refl _) vA (Nat.le_refl _) ex j7)
theorem XbV(ex nn:Bool)(sz:Nat)(rows:List (List aa))(k:IntKind)(i:Int)(h1:0≤i)(h2:i≤rows.length)(h0:Hp) :
  aC P GL (.cx sz false true false) [.ax ex nn sz rows,.int k i] h0 (.ax false nn sz (cut 0 i.toNat rows)) [] []:=by
 intro o os hc w0 L g hp w a r hx _ _;obtain⟨t,x,lo,hi,mx,e,ho,fj,eX,l_,rfl,hu,hn⟩:=Yw hc;obtain rfl:lo=none:=by cases lo<;>first|rfl|cases fj
 obtain⟨hi,rfl⟩:∃z,hi=some z:=Option.isSome_iff_exists.1 eX.symm;obtain rfl:mx=none:=by cases mx<;>first|rfl|cases l_
 obtain⟨d,d2,_⟩:=hx;obtain⟨p,cap,hv,vA,j7⟩:=DS d;rw[hv] at d;have hb:(Instr.sliceBounds true rows.length cap none (some (.int k i)) none).run P w=.ok (0,i.toNat,cap) w:=by
  grind [Instr.sliceBounds,Sem.run_bind,Sem.run_pure,Result.andThen_ok,Qk]
 rw[ZA ho hu hn hv (l:=0) (h:=i.toNat) (m:=cap) (by simpa[Xp d2] using hb)];exact Out.here r (J6 d (by omega) (by omega) (by omega) (Nat.le_refl _) false (by simp))
theorem Xbi(ex nn:Bool)(sz:Nat)(rows:List (List aa))(k k':IntKind)(i j:Int)(h1:0≤i)(h2:i≤j)(h3:j≤rows.length)(h0:Hp) :
  aC P GL (.cx sz true true false) [.ax ex nn sz rows,.int k i,.int k' j] h0 (.ax false nn sz (cut i.toNat j.toNat rows)) [] []:=by
 intro o os hc w0 L g hp w a r hx _ _;obtain⟨t,x,lo,hi,mx,e,ho,fj,eX,l_,rfl,hu,hn⟩:=Yw hc;obtain⟨lo,rfl⟩:∃z,lo=some z:=Option.isSome_iff_exists.1 fj.symm;obtain⟨hi,rfl⟩:∃z,hi=some z:=Option.isSome_iff_exists.1 eX.symm;obtain rfl:mx=none:=by cases mx<;>first|rfl|cases l_
 obtain⟨d,d2,d3,_⟩:=hx;obtain⟨p,cap,hv,vA,j7⟩:=DS d;rw[hv] at d;have hb:(Instr.sliceBounds true rows.length cap (some (.int k i)) (some (.int k' j)) none).run P w=.ok (i.toNat,j.toNat,cap) w:=by
  simp only[Instr.sliceBounds,Sem.run_bind,Sem.run_pure,Result.andThen_ok,Qk k' j cap _ (by omega) (by omega),Qk k i j.toNat _ h1 (by omega)]
 rw[ZA ho hu hn hv (l:=i.toNat) (h:=j.toNat) (m:=cap) (by simpa[Xp d2,Xp d3] using hb)];exact Out.here r (J6 d (by omega) (by omega) (by omega) (Nat.le_refl _) false (by simp))
theorem Ybi(ex nn:Bool)(sz:Nat)(rows:List (List aa))(k k':IntKind)(i:Int)(h1:0≤i)(h2:i≤rows.length)(h0:Hp) :
  aC P GL (.cx sz false true true) [.ax ex nn sz rows,.int k i,.int k' i] h0 (.ax true nn sz (cut 0 i.toNat rows)) [] []:=by
 intro o os hc w0 L g hp w a r hx _ _;obtain⟨t,x,lo,hi,mx,e,ho,fj,eX,l_,rfl,hu,hn⟩:=Yw hc;obtain rfl:lo=none:=by cases lo<;>first|rfl|cases fj
 obtain⟨hi,rfl⟩:∃z,hi=some z:=Option.isSome_iff_exists.1 eX.symm;obtain⟨mx,rfl⟩:∃z,mx=some z:=Option.isSome_iff_exists.1 l_.symm;obtain⟨d,d2,d3,_⟩:=hx;obtain⟨p,cap,hv,vA,j7⟩:=DS d;rw[hv] at d;have hb:(Instr.sliceBounds true rows.length cap none (some (.int k i)) (some (.int k' i))).run P w=.ok (0,i.toNat,i.toNat) w:=by
  simp only[Instr.sliceBounds,Sem.run_bind,Sem.run_pure,Result.andThen_ok,if_true,Qk k' i cap _ h1 (by omega),Qk k i i.toNat _ h1 (by omega)]
 rw[ZA ho hu hn hv (l:=0) (h:=i.toNat) (m:=i.toNat) (by simpa[Xp d2,Xp d3] using hb)];exact Out.here r (J6 d (by omega) (by omega) (Nat.le_refl _) (by omega) true (λ_=>rfl))
theorem YbV(s:List UInt8)(k k':IntKind)(i j:Int)(h1:0≤i)(h2:i≤j)(h3:j≤s.length)(h0:Hp) :
  aC P GL (.ej true true) [.str s,.int k i,.int k' j] h0 (.str ((s.take j.toNat).drop i.toNat)) [] []:=by
 intro o os hc w0 L g hp w a r hx _ _;obtain⟨t,x,lo,hi,ho,fj,eX,rfl,hu⟩:=M6 hc;obtain⟨lo,rfl⟩:∃z,lo=some z:=Option.isSome_iff_exists.1 fj.symm;obtain⟨hi,rfl⟩:∃z,hi=some z:=Option.isSome_iff_exists.1 eX.symm;obtain⟨d,d2,d3,_⟩:=hx;obtain⟨s',e1,rfl⟩:=Q8 d;have dU:s'.data.toList.length=s'.size:=by simp
 have bL:(execOp a.eval o).run P w=.ok (.value (.string (s'.extract i.toNat j.toNat))) w:=by
  simp only[execOp,ho,e1,Instr.sliceAt,Instr.slice,Sem.run_bind,run_underlying hu,Result.andThen_ok,Option.map_some,Xp d2,Xp d3,Option.map_none,Option.isSome_none,Bool.false_eq_true,if_false,Instr.sliceBounds,Sem.run_pure,Qk k' j s'.size _ (by omega) (by omega),Qk k i j.toNat _ h1 (by omega)]
 rw[bL];have:((s'.data.toList.take j.toNat).drop i.toNat)=(s'.extract i.toNat j.toNat).data.toList:=by
  simp[List.drop_take]
 rw[this];exact Out.here r (.str _ _)
end
end Go.Ah
end
section
namespace Go.Ah
section
variable {P:Program} {GL:aw}
theorem Xa9(As cap:Nat)(h:cap<As):Builtin.nextslicecap As cap≤2*As+192:=by
 grind [Builtin.nextslicecap,Builtin.growBy]
theorem ZL{t t' e:TypeId}{d:TypeDesc}{n by_:Nat}{z:Value}(ht:P.underlying t=some (.slice e))(hd:P.underlying t'=some d)(o0:∀k,d≠.int k)(hn:size? P e=some n)(rU:P.bytesOf e=by_)(hz:dI P e=some z)(ln:by_≠0)
 {w:World}{base:Option Addr}{len cap m:Nat}{y:Value}{newv:Array Value}(hy:(Builtin.lenOf y).run P w=.ok m w)(ty:TypeId) :
  (len + m≤cap→(Builtin.firstCells n m y).run P w=.ok newv w→(base=none→(Builtin.append_ #[t,t'] ty #[.slice base len cap,y]).run P w=.ok (.slice base (len + m) cap) w) ∧
   (∀ a w',base=some a→(storeCells (a.add (len * n)) newv.toList).run P w=.ok () w'→(Builtin.append_ #[t,t'] ty #[.slice base len cap,y]).run P w=.ok (.slice base (len + m) cap) w')) ∧
  (cap < len + m→(2 * (len + m) + 192) * by_≤2 ^ 48→∀ oS,(Builtin.firstCells n len (.slice base len cap)).run P w.drew=.ok oS w.drew→(Builtin.firstCells n m y).run P w.drew=.ok newv w.drew →
   ∃ nc,len + m≤nc∧(Builtin.append_ #[t,t'] ty #[.slice base len cap,y]).run P w=.ok (.slice (some ⟨w.heap.size,0,none⟩) (len + m) nc) (w.drew.alloc (.cells (oS ++ newv ++ Builtin.zeroCells z.cells (nc - (len + m))) e))):=by
 obtain⟨ie,yD,pD⟩:∃ie,P.info? e=some ie∧ie.size=n:=by
  simp_all [size?]
 have zO:ie.bytes=by_:=by simpa[Program.bytesOf,yD] using rU
 have VX:ie.zero=some z:=by simp_all [dI]
 constructor
 ·intro hle jl;constructor
  ·intro hb;subst hb;simp only[Builtin.append_,List.getElem?_toArray,List.getElem?_cons_zero,List.getElem?_cons_succ,Sem.run_bind,run_underlying ht,Result.andThen_ok,ZD hn,run_underlying hd,Sem.run_pure,Bool.false_eq_true,if_false,hy,if_pos hle,Bool.not_false,if_true,jl]
  ·intro a w' hb fT;subst hb;simp only[Builtin.append_,List.getElem?_toArray,List.getElem?_cons_zero,List.getElem?_cons_succ,Sem.run_bind,run_underlying ht,Result.andThen_ok,ZD hn,run_underlying hd,Sem.run_pure,Bool.false_eq_true,if_false,hy,if_pos hle,Bool.not_false,if_true,jl,fT]
 ·intro cp ct oS hold jl;have oF:=Xa9 (len+m) cap cp;have h48:¬Builtin.nextslicecap (len+m) cap*ie.bytes>2 ^ 48:=by
   rw[zO];have:=Nat.mul_le_mul_right by_ oF;omega
  have Gs:¬(((len+m:Nat):Int)>IntKind.i64.max∧(False∨ie.bytes=0)):=by
   simp_all
  have Pc:¬len+m≤cap:=by omega
  refine⟨(Question.appendCap (len+m) cap e).cut (w.tape w.drawn (.appendCap (len+m) cap e)),by simp[Question.cut],?_⟩;simp only[Builtin.append_,List.getElem?_toArray,List.getElem?_cons_zero,List.getElem?_cons_succ,Sem.run_bind,run_underlying ht,Result.andThen_ok,ZD hn,run_underlying hd,Sem.run_pure,Bool.false_eq_true,if_false,hy,if_neg Pc,Bool.not_false,if_true,typeInfo,run_program,yD,if_neg Gs];simp only[Sem.run_bind,run_program,Result.andThen_ok,yD,Sem.run_pure,if_neg h48,run_choose,Question.forced,Bool.false_eq_true,if_false,run_askRoom,World.drew_eq,hold,jl,Z8 hz,newRow,run_newObj,World.alloc_eq];rfl
inductive g_ (h0:Hp) (sz:Nat):aa→List (List aa)→List Nat→Prop
 |row (ex nn:Bool) (rows:List (List aa)):g_ h0 sz (.ax ex nn sz rows) rows []
 |aq:g_ h0 sz .aq [] []
 |cK:g_ h0 sz .cK [] []
 |own (b off len:Nat) (ex:Bool) (rs:List (List aa)):h0 b=some (.rows sz rs)→off+len≤rs.length→g_ h0 sz (.sl b off len ex) (cut off (off+len) rs) [b]
def kY(g:Gm)(sz:Nat)(rs:List (List aa))(arr:Array Value):Prop:=
 arr.size=rs.length*sz∧(∀(i:Nat) (row:List aa),rs[i]?=some row→row.length=sz) ∧
 ∀(i:Nat) (row:List aa) (j:Nat) (x:aa) (v:Value),rs[i]?=some row→row[j]?=some x→arr[i*sz+j]?=some v→g.den x v
theorem QX{w0:World}{L:Ln}{g:Gm}{h h0:Hp}{w:World}(r:br GL w0 L g h w){sz:Nat}{y:aa}{ys:List (List aa)}{rd:List Nat}(hs:g_ h0 sz y ys rd)(cH:∀b∈rd,h b=h0 b){v:Value}(d:g.den y v) :
  ∃(p:Option Addr) (cap:Nat) (newv:Array Value),v=.slice p ys.length cap∧(Builtin.firstCells sz ys.length v).run P w=.ok newv w∧kY g sz ys newv∧(∀z∈newv.toList,ys≠[]→True):=by
 cases hs with
 |aq=>
  cases d;exact⟨none,0,#[],rfl,rfl,⟨by simp,by simp,by simp⟩,by simp⟩
 |cK=>
  cases d with
  |cK _ p=>
  refine⟨p,0,#[],rfl,?_,⟨by simp,by simp,by simp⟩,by simp⟩;cases p<;>simp_all [Builtin.firstCells,loadCells,loadCellsFrom]
 |row ex nn rows=>
  cases d with
  |ax _ _ _ _ _ p cap aE off f h1 h2 h3 h4 h5 h6 h7 h8=>
  by_cases cL:ys=[]
  ·subst cL;refine⟨p,cap,#[],rfl,?_,⟨by simp,by simp,by simp⟩,by simp⟩;cases p<;>simp_all [Builtin.firstCells,loadCells,loadCellsFrom]
  ·have hp:=h3 cL;subst hp;have hl:=run_loadCells (P:=P) w ⟨aE,off,none⟩ (ys.length * sz) (λk=>f (k / sz) (k % sz)) (λk hk=>by
    grind [YT,Nat.div_lt_iff_lt_mul,Nat.mod_lt,Nat.div_add_mod,M4])
   refine⟨_,cap,_,rfl,by simp only[Builtin.firstCells]; exact hl,⟨by simp,h6,λi row j x u e1 e2 e3=>?_⟩,by simp⟩;have hi:i<ys.length:=(gn e1).1;have hj:j<sz:=by grind
   have cp:i*sz+j<ys.length*sz:=by
    grind
   simp[cp] at e3;have hdiv:(i*sz+j)/sz=i:=by grind [Nat.mul_comm,Nat.mul_add_div,Nat.div_eq_of_lt]
   rw[hdiv,Nat.mod_eq_of_lt hj] at e3;subst e3;exact(h8 i row j x e1 e2).mono (gZ.refl _) (fH.bg _)
 |own b off len ex rs hb hle=>
  have bZ:h b=some (.rows sz rs):=by simp_all
  have ny:(cut off (off+len) rs).length=len:=by rw[Fa hle]; omega
  cases d with
  |nO _ _ _ cb p ec hv=>
   have:=(r.fR bZ ec hv).2;subst this;simp at hle;refine⟨p,0,#[],by simp[cut],?_,⟨by simp[cut],by simp[cut],by simp[cut]⟩,by simp⟩;have:(cut 0 (0+0) ([]:List (List aa))).length=0:=by simp[cut]
   rw[this];cases p<;>simp_all [Builtin.firstCells,loadCells,loadCellsFrom]
  |sle _ _ _ _ cb p ec hv _ _=>
   have sA:cut off (off+0) rs=[]:=by simp[cut]
   rw[sA];refine⟨p,0,#[],by simp,?_,⟨by simp,by simp,by simp⟩,by simp⟩;cases p<;>simp_all [Builtin.firstCells,loadCells,loadCellsFrom]
  |sl _ _ _ _ _ cb cap ec hv h1 h2 h3=>
   obtain⟨e1,arr,T,eI,hs,iU,dT,cI⟩:=r.eQ bZ ec hv;rw[e1] at h2 ⊢;have hbound:cb.base+off*sz+len*sz≤arr.size:=by
    rw[hs]; refine Nat.le_trans ?_ iU;rw[Nat.add_assoc,←Nat.add_mul]; simp_all [Nat.mul_le_mul_right]
   have hl:=run_loadCells (P:=P) w ⟨cb.aE,cb.base + off * sz,none⟩ (len * sz) (λk=>(arr[cb.base + off * sz + k]?).getD undef) (λk hk=>by
    grind [YT,Z3])
   refine⟨_,cap,_,by rw[ny],by rw[ny]; simp only[Builtin.firstCells]; exact hl,⟨by rw[ny]; simp,λi row e=>dT _ row (J5 e).1,λi row j x u q1 q2 q3=>?_⟩,by simp⟩;obtain⟨c1,c2⟩:=J5 q1;have hj:j<sz:=by grind
   have hi:i<len:=by omega
   have cp:i*sz+j<len*sz:=by
    grind
   have O4:cb.base+off*sz+(i*sz+j)<arr.size:=by omega
   simp[cp,O4] at q3
   grind
theorem QK{o:Oper}{t t':TypeId}{x y:Operand}(ho:o.op=.call ⟨.builtin .append,#[x,y],#[t,t']⟩){a:Act}{u v z:Value}(hu:a.eval x=u)(hv:a.eval y=v){w w':World}
 (hr:(Builtin.append_ #[t,t'] o.type #[u,v]).run P w=.ok z w'):(execOp a.eval o).run P w=.ok (.value z) w':=by
 simp_all [execOp,resolve,invoke,builtin]
theorem br.move{w0:World}{L:Ln}{g:Gm}{h:Hp}{w:World}(r:br GL w0 L g h w){b nb:Nat}{aE blk0 blk':ab}{cb cb2:CB}(e:h b=some aE)(hl:aE.live=true)(ec:g.c b=some cb)(hv:cb.cS=false)(wT:blk0.live=true)(lq:blk'.live=true)(hn:h nb=none)
 {o':Obj}{w':World}(sG:w'.os=w.os)(uK:w'.tape=w.tape)(mY:w'.output=w.output)(ux:w'.heap=w.heap.setIfInBounds cb.aE o')
 (ok:iq g.M g.c cb o' blk0)(ll:cb2.aE=cb.aE)(Wh:cb2.cS=false)(ok2:iq g.M g.c cb2 o' blk'):g.Le ⟨g.M,kr g.c nb cb2⟩∧br GL w0 L ⟨g.M,kr g.c nb cb2⟩ (eA (eA h b .dead) nb blk') w':=by
 have r1:=r.write e hl ec hv wT sG uK mY ux ok;have KK:=r.dD nb hn;have FW:fH g.c (kr g.c nb cb2):=fH.kr KK;have Aa:nb≠b:=by rintro rfl; rw[e] at hn; cases hn
 have ah:∀n x,eA (eA h b .dead) nb blk' n=some x→x.live=true→(n=nb∧x=blk')∨(n≠nb∧n≠b∧h n=some x):=by
  intro n x en iE;by_cases h1:n=nb
  ·simp_all [Qu]
  grind [ab.live,Yq,Qu]
 have yw:∀n dR,n≠nb→kr g.c nb cb2 n=some dR→g.c n=some dR:=by simp_all [Q3]
 refine⟨⟨gZ.refl _,FW⟩,?_⟩;exact {
  keeps:=r1.keeps
  aR:=r1.aR
  bY:=r1.bY
  src:=r1.src
  dD:=λn en=>by
   by_cases h1:n=nb
   ·subst h1; rw[Qu] at en; cases en
   ·rw[Yq _ _ h1] at en;show kr g.c nb cb2 n=none;rw[Q3 _ _ h1];by_cases h2:n=b
    ·subst h2; rw[Qu] at en; cases en
    ·rw[Yq _ _ h2] at en; exact r.dD n en
  iM:=λn x en=>by
   by_cases h1:n=nb
   ·simp_all [Xz]
   ·rw[Yq _ _ h1] at en;have:∃q,g.c n=some q:=by
     by_cases h2:n=b
     ·subst h2; exact⟨cb,ec⟩
     ·rw[Yq _ _ h2] at en; exact r.iM n x en
    simp_all [Q3]
  own:=λn x dR en iE oX pM=>by
   rcases ah n x en iE with ⟨rfl,rfl⟩|⟨h1,h2,h3⟩
   ·have:kr g.c n cb2 n=some dR:=oX;rw[Xz] at this; cases this;obtain⟨q1,q2,o2,q3,q4⟩:=r1.own b blk0 cb (Qu _ _ _) wT ec hv;have cp:=r.dw e hl ec hv;rw[ll];exact⟨q1,q2,o',by simp_all,ok2.mono (gZ.refl _) FW⟩
   ·obtain⟨q1,q2,o2,q3,q4⟩:=r1.own n x dR (by rw[Yq _ _ h2]; exact h3) iE (yw n dR h1 oX) pM;exact⟨q1,q2,o2,q3,q4.mono (gZ.refl _) FW⟩
  aX:=λn x dR en iE oX pM=>by
   rcases ah n x en iE with ⟨rfl,rfl⟩|⟨h1,h2,h3⟩
   ·simp_all [Xz]
   ·exact r.aX n x dR h3 iE (yw n dR h1 oX) pM
  inj:=λn n' x x' ca1 ca2 e1 e2 l1 l2 c1 c2 v1 v2 gu=>by
   have tr:∀n x dR,eA (eA h b .dead) nb blk' n=some x→x.live=true→kr g.c nb cb2 n=some dR→dR.cS=false→∃m y NU,h m=some y∧y.live=true∧g.c m=some NU∧NU.cS=false∧NU.aE=dR.aE∧((n=nb∧m=b)∨(n≠nb∧m=n∧n≠b)):=by
    intro n x dR en iE oX pM;rcases ah n x en iE with ⟨rfl,rfl⟩|⟨h1,h2,h3⟩
    ·rw[Xz] at oX; grind
    grind
   obtain⟨m1,y1,k1,f1,f2,f3,fv,fb,f4⟩:=tr n x ca1 e1 l1 c1 v1;obtain⟨m2,y2,k2,g1,g2,g9993,gv,gb,g9994⟩:=tr n' x' ca2 e2 l2 c2 v2;have:=r.inj m1 m2 y1 y2 k1 k2 f1 g1 f2 g2 f3 g9993 fv gv (by rw[fb,gb]; exact gu);omega }
theorem TJ{g:Gm}{sz:Nat}{rs ys:List (List aa)}{a b c:Array Value}(h1:kY g sz rs a)(h2:kY g sz ys b) :
  (∀(i:Nat) (row:List aa),(rs++ys)[i]?=some row→row.length=sz) ∧
  ∀(i:Nat) (row:List aa) (j:Nat) (x:aa) (v:Value),(rs++ys)[i]?=some row→row[j]?=some x→(a++b++c)[i*sz+j]?=some v→g.den x v:=by
 obtain⟨s1,l1,d1⟩:=h1;obtain⟨s2,l2,d2⟩:=h2;constructor
 ·grind
 ·intro i row j x v e1 e2 e3;by_cases hi:i<rs.length
  ·rw[List.getElem?_append_left hi] at e1;have hj:j<sz:=by grind
   have cp:i*sz+j<a.size:=by
    rw[s1];have:(i+1)*sz≤rs.length*sz:=Nat.mul_le_mul_right sz hi;rw[Nat.succ_mul] at this; omega
   grind
  ·rw[List.getElem?_append_right (by omega)] at e1;have vD:i-rs.length<ys.length:=(gn e1).1;have hj:j<sz:=by grind
   have D_:a.size≤i*sz+j:=by
    rw[s1];have:rs.length*sz≤i*sz:=Nat.mul_le_mul_right sz (by omega);omega
   have m8:i*sz+j-a.size=(i-rs.length)*sz+j:=by
    rw[s1,Nat.sub_mul];have:rs.length*sz≤i*sz:=Nat.mul_le_mul_right sz (by omega);omega
   have cp:(i-rs.length)*sz+j<b.size:=by
    rw[s2];have:(i-rs.length+1)*sz≤ys.length*sz:=Nat.mul_le_mul_right sz vD;rw[Nat.succ_mul] at this; omega
   grind
theorem TO(z:Array Value)(n:Nat):(Builtin.zeroCells z n).size=n*z.size:=by simp[Builtin.zeroCells]
inductive lH (h0:Hp) (sz:Nat):aa→List (List aa)→List (Nat×ab)→Prop
 |aq:lH h0 sz .aq [] []
 |cK:lH h0 sz .cK [] []
 |own (b off len:Nat) (ex:Bool) (rs:List (List aa)):h0 b=some (.rows sz rs)→rs.length=off+len→lH h0 sz (.sl b off len ex) (rs.drop off) [(b,.dead)]
theorem YdB(rs:List (List aa))(o n:Nat)(h:rs.length=o+n):cut o (o+n) rs=rs.drop o:=by grind [cut]
theorem lH.src{h0:Hp}{sz:Nat}{x:aa}{rs:List (List aa)}{kill:List (Nat×ab)}(hv:lH h0 sz x rs kill):g_ h0 sz x rs (kill.map (·.1)):=by
 cases hv with
 |aq=>exact .aq
 |cK=>exact .cK
 |own b off len ex rs hb hl=>have:=g_.own (h0:=h0) (sz:=sz) b off len ex rs hb (by omega); rwa [YdB rs off len hl] at this
theorem S2(n by_:Nat)(z:List aa)(x y:aa)(rs ys:List (List aa))(rd:List Nat)(kill:List (Nat×ab))(h0:Hp)(nb:Nat)(hn:h0 nb=none)(qu:lH h0 n x rs kill)(uL:g_ h0 n y ys rd)
 (ny:∀row∈ys,∀x∈row,aa.cell x=true)(ct:(2*(rs.length+ys.length)+192)*by_≤2 ^ 48) :
  aC P GL (.append n by_ z) [x,y] h0 (.sl nb 0 (rs.length+ys.length) false) rd (kill++[(nb,.rows n (rs++ys))]):=by
 intro o os hc w0 L g h w a r hx cH gy;have ja:h nb=none:=by rw[gy (nb,.rows n (rs++ys)) (by simp)]; exact hn
 have V2:∀p∈kill,h p.1=h0 p.1:=λp hp=>gy p (by simp[hp]);generalize ho:o.op=op at hc;cases hc with
 |append t t' e ox oy _ _ v _ ht Aj dU rU hz qZ dt ln jK=>
  obtain⟨d,hd,o0⟩:=Aj;obtain⟨d1,d2,_⟩:=hx;generalize mh:a.eval ox=u1 at d1;generalize pL:a.eval oy=u2 at d2;obtain⟨p1,pj,oS,e1,f1,HQ,_⟩:=QX (P:=P) r.drew qu.src (λb hb=>by
   grind) d1
  obtain⟨p2,zy,newv,e2,f2,o9,_⟩:=QX (P:=P) r uL cH d2;obtain⟨p2',FU,pW,Kv,N7,uV,_⟩:=QX (P:=P) r.drew uL cH d2;have gL:(Builtin.lenOf u2).run P w=.ok ys.length w:=by rw[e2]; rfl
  have GM:pj<rs.length+ys.length→Out P GL w0 L g (cq h (kill++[(nb,.rows n (rs++ys))])) (.sl nb 0 (rs.length+ys.length) false) ((execOp a.eval o).run P w):=by
   intro cp;obtain⟨nc,G5,bL⟩:=(ZL ht hd o0 dU rU hz ln (base:=p1) (len:=rs.length) (cap:=pj) (newv:=pW) gL o.type).2 cp ct oS (by rw[←e1]; exact f1) N7;rw[QK ho (by rw[mh]; exact e1) pL bL];obtain⟨q1,q2⟩:=TJ (c:=Builtin.zeroCells v.cells (nc-(rs.length+ys.length))) HQ uV;have gV:∃h1,h1=cq h kill∧br GL w0 L g h1 w.drew∧h1 nb=none:=by
    cases qu with
    |aq=>exact⟨h,rfl,r.drew,ja⟩
    |cK=>exact⟨h,rfl,r.drew,ja⟩
    |own b off len ex xu hb hl=>
     have bZ:h b=some (.rows n xu):=by simp_all
     refine⟨_,rfl,r.drew.kill bZ,?_⟩;show eA h b .dead nb=none;rw[Yq _ _ (by rintro rfl; rw[bZ] at ja; cases ja)]; exact ja
   obtain⟨h1,hh1,rk,wW⟩:=gV;obtain⟨g',hg1,hg2,wR⟩:=br.oQ rk wW n (rs++ys) (oS++pW++Builtin.zeroCells v.cells (nc-(rs.length+ys.length))) e (rs.length+ys.length) nc false
    (by
      simp only[Array.size_append,HQ.1,uV.1,TO,qZ,Nat.sub_mul,Nat.add_mul];have:(rs.length + ys.length) * n≤nc * n:=Nat.mul_le_mul_right n G5;rw[Nat.add_mul] at this; omega) G5 (by simp) (by simp; exact G5) q1 q2
   refine⟨g',hg1,?_,wR⟩;have:cq h (kill++[(nb,.rows n (rs++ys))])=eA h1 nb (.rows n (rs++ys)):=by
    rw[hh1];cases qu<;>rfl
   rw[this]; exact hg2
  have jT:rs=[]→ys=[]→u1=.slice p1 0 0→br GL w0 L g (cq h kill) w→cq h kill nb=none→Out P GL w0 L g (cq h (kill++[(nb,.rows n (rs++ys))])) (.sl nb 0 (rs.length+ys.length) false) ((execOp a.eval o).run P w):=by
   rintro Hh rfl ij rk wW;have wY:newv.toList=[]:=by have:=o9.1; simp at this; simp[this]
   have bL:(Builtin.append_ #[t,t'] o.type #[.slice p1 0 0,u2]).run P w=.ok (.slice p1 0 0) w:=by
    obtain⟨k1,k2⟩:=(ZL ht hd o0 dU rU hz ln (base:=p1) (len:=0) (cap:=0) (newv:=newv) gL o.type).1 (by simp) f2;cases p1 with
    |none=>exact k1 rfl
    |some ad=>exact k2 ad w rfl (by rw[wY]; rfl)
   rw[QK ho (by rw[mh]; exact ij) pL bL];have hg:=rk.ghost wW n;refine⟨⟨g.M,kr g.c nb ⟨0,n,0,true,0⟩⟩,⟨gZ.refl _,fH.kr (rk.dD nb wW)⟩,?_,by rw[Hh]; exact .nO _ _ _ _ _ (Xz _ _ _) rfl⟩;have hk:∀v,cq h (kill++[(nb,v)])=eA (cq h kill) nb v:=by intro v; cases qu<;>rfl
   rw[hk,Hh]; exact hg
  have aaq:=qu;cases qu with
  |aq=>
   cases d1;injection e1 with ym Ku F7
   by_cases pN:ys=[]
   ·exact jT rfl pN (by rw[←ym]) r ja
   grind
  |cK=>
   cases d1;injection e1 with ym Ku F7
   by_cases pN:ys=[]
   ·exact jT rfl pN (by rw[←ym]) r ja
   grind
  |own b off len ex xu hb hl=>
   have bZ:h b=some (.rows n xu):=by simp_all
   have Aa:nb≠b:=by rintro rfl; rw[bZ] at ja; cases ja
   have D':(xu.drop off).length=len:=by rw[List.length_drop]; omega
   cases d1 with
   |nO _ _ _ cb p ec hv=>
    injection e1 with ym Ku F7
    have yL:=(r.fR bZ ec hv).2;subst yL;by_cases pN:ys=[]
    ·exact jT (by simp) pN (by rw[←ym]) (r.kill bZ) (by show eA h b .dead nb=none; rw[Yq _ _ Aa]; exact ja)
    grind
   |sle _ _ _ _ cb p ec hv _ _=>
    injection e1 with ym Ku F7
    have KL:xu.drop off=[]:=List.length_eq_zero_iff.1 D';by_cases pN:ys=[]
    ·exact jT KL pN (by rw[←ym]) (r.kill bZ) (by show eA h b .dead nb=none; rw[Yq _ _ Aa]; exact ja)
    grind
   |sl _ _ _ _ _ cb cap ec hv h1 h2 h3=>
    injection e1 with ym Ku F7
    subst F7;by_cases hle:(xu.drop off).length+ys.length≤cap
    ·obtain⟨z1,arr,T,eI,hs,iU,Hf,GB⟩:=r.eQ bZ ec hv;rw[z1] at h2;rw[Nat.add_mul,←Nat.add_assoc] at h2;have gC:cb.base+off*n+cap*n≤arr.size:=by rw[hs]; exact Nat.le_of_eq h2
     have dT:∀(i:Nat) (row:List aa),(xu.drop off)[i]?=some row→row.length=n:=λi row q=>Hf (off+i) row (by rw[List.getElem?_drop] at q; exact q);have cI:∀(i:Nat) (row:List aa) (j:Nat) (x:aa) (v:Value),(xu.drop off)[i]?=some row→row[j]?=some x→arr[cb.base+off*n+i*n+j]?=some v→g.den x v:=λi row j x v q1 q2 q3=>GB (off+i) row j x v (by rw[List.getElem?_drop] at q1; exact q1) q2 (by grind);generalize aam:xu.drop off=rs at *;have jm:∀u∈newv.toList,u.oneCell'=true:=by
      intro u hu;obtain⟨q,hq⟩:=List.mem_iff_getElem?.1 hu;rw[Array.getElem?_toList] at hq;have Ae:q<ys.length*n:=by rw[←o9.1]; grind
      have Eb:0<n:=Nat.pos_of_ne_zero jK;have hi:q/n<ys.length:=(Nat.div_lt_iff_lt_mul Eb).2 Ae;have pH:ys[q/n]?=some ys[q/n]:=by simp[hi]
      have O2:=o9.2.1 _ _ pH;have hj:q%n<ys[q/n].length:=by rw[O2]; exact Nat.mod_lt _ Eb
      refine Kc (ny _ (List.getElem_mem hi) _ (List.getElem_mem hj)) (o9.2.2 (q/n) _ (q%n) _ u pH (by simp[hj]) ?_)
      grind [Nat.div_add_mod]
     have hmul:(rs.length + ys.length) * n≤cap * n:=Nat.mul_le_mul_right n hle;obtain⟨fD,s1,s2,s3⟩:=Li (P:=P) eI newv.toList jm (j:=cb.base + off * n + rs.length * n) (by
      intro _;rw[Array.length_toList (xs:=newv),o9.1]
      grind)
     have bL:=((ZL ht hd o0 dU rU hz ln (base:=some ⟨cb.aE,cb.base + off * cb.sz,none⟩) (len:=rs.length) (cap:=cap) (newv:=newv) gL o.type).1 hle f2).2 ⟨cb.aE,cb.base + off * cb.sz,none⟩ (w.setRow cb.aE fD) rfl (by
      rw[YT,z1]; exact s1)
     rw[QK ho (by rw[mh,←D']) pL bL];have Pf:iq g.M g.c cb (.cells fD T (0,0)) (.rows n []):=by
      refine⟨z1,fD,T,rfl,by rw[s2,hs],by simp; omega,by simp,by simp⟩
     have bV:iq g.M g.c { cb with base:=cb.base+off*n } (.cells fD T (0,0)) (.rows n (rs++ys)):=by
      refine⟨z1,fD,T,rfl,by rw[s2,hs],?_,?_,?_⟩
      ·rw[List.length_append]; grind
      ·intro i row q;by_cases hi:i<rs.length
       ·grind
       ·rw[List.getElem?_append_right (by omega)] at q; exact o9.2.1 _ row q
      ·intro i row j x0 u q1 q2 q3;rw[s3,Array.length_toList (xs:=newv),o9.1] at q3;by_cases hi:i<rs.length
       ·rw[List.getElem?_append_left hi] at q1;have hj:j<n:=by grind
        have cp:i*n+j<rs.length*n:=by
         have:(i+1)*n≤rs.length*n:=Nat.mul_le_mul_right n hi;rw[Nat.succ_mul] at this; omega
        rw[if_neg (by grind)] at q3;exact cI i row j x0 u q1 q2 q3
       ·rw[List.getElem?_append_right (by omega)] at q1;have vD:i-rs.length<ys.length:=(gn q1).1;have hj:j<n:=by rw[←o9.2.1 _ row q1]; grind
        have h5:rs.length*n≤i*n:=Nat.mul_le_mul_right n (by omega);have h6:(i-rs.length+1)*n≤ys.length*n:=Nat.mul_le_mul_right n vD;rw[Nat.succ_mul,Nat.sub_mul] at h6;rw[if_pos (by grind)] at q3;refine o9.2.2 _ row j x0 u q1 q2 ?_;rw[Array.getElem?_toList] at q3
        grind
     obtain⟨k1,k2⟩:=r.move bZ rfl ec hv (blk0:=.rows n []) (blk':=.rows n (rs++ys)) (cb2:={ cb with base:=cb.base+off*n }) rfl rfl ja (w':=w.setRow cb.aE fD) rfl rfl rfl (Kk w _ arr fD T (0,0) eI) Pf rfl hv bV;refine⟨_,k1,k2,?_⟩;have nI:Den g.M (kr g.c nb { cb with base:=cb.base+off*n }) (.sl nb 0 (rs.length+ys.length) false) (.slice (some ⟨cb.aE,cb.base+off*n+0*cb.sz,none⟩) (rs.length+ys.length) cap):=
      .sl _ _ _ _ _ { cb with base:=cb.base+off*n } cap (Xz _ _ _) hv hle (by grind) (by simp)
     rw[Nat.zero_mul,Nat.add_zero] at nI;have e3:cb.base+off*cb.sz=cb.base+off*n:=by rw[z1]
     rw[e3];exact nI
    ·exact GM (by omega)
end
end Go.Ah
end
section
namespace Go.Ah
mutual
def aa.ro:aa→Bool
 |.bool _=>true
 |.int _ _=>true
 |.str _=>true
 |.ei=>true
 |.ao _ _=>true
 |.aq=>true
 |.cK=>true
 |.ax _ _ _ _=>true
 |.eN _=>true
 |.cB=>true
 |.func _ xs ys=>fz xs&&fz ys
 |.bx=>true
 |.iface _ v=>v.ro
 |.cV=>true
 |.agg cs=>fz cs
 |.bn cs=>fz cs
 |.when _ x=>x.ro
 |.aF=>true
 |_=>false
def fz:List aa→Bool
 |[]=>true
 |x::xs=>x.ro&&fz xs
end
theorem Fk:∀ {xs:List aa} {i:Nat} {x:aa},fz xs=true→xs[i]?=some x→x.ro=true
 |[],i,x,_,e=>by simp at e
 |y::xs,0,x,h,e=>by simp_all [fz]
 |y::xs,i+1,x,h,e=>by simp[fz] at h; simp at e; exact Fk h.2 e
theorem Den.ro{M:Nat→Option Obj}{c:Own}{x:aa}{v:Value}(h:Den M c x v):x.ro=true→∀c',Den M c' x v:=by
 induction h with
 |aF=>intro _ c'; exact .aF _ _
 |bool=>intro _ c'; exact .bool _ _
 |int=>intro _ c'; exact .int _ _ _
 |str=>intro _ c'; exact .str _ _
 |ei=>intro _ c'; exact .ei _
 |ai=>intro h; simp[aa.ro] at h
 |ptr=>intro h; simp[aa.ro] at h
 |ao c row j aE off f h1 h2 ih=>intro _ c'; exact .ao _ _ _ _ _ f h1 h2
 |aq=>intro _ c'; exact .aq _
 |cK=>intro _ c'; exact .cK _ _
 |sl=>intro h; simp[aa.ro] at h
 |nO=>intro h; simp[aa.ro] at h
 |sle=>intro h; simp[aa.ro] at h
 |ax c ex nn sz rows a cap aE off f h1 h2 h3 wF h4 h5 h6 h7 ih=>intro _ c'; exact .ax _ _ _ _ _ _ _ aE off f h1 h2 h3 wF h4 h5 h6 h7
 |map=>intro h; simp[aa.ro] at h
 |eN c es aE arr clock e h1 h2 h3 sL sM=>intro _ c'; exact .eN _ _ _ _ _ e h1 h2 h3
 |cB=>intro _ c'; exact .cB _
 |func c fn first captured vs ws h1 h2 h3 h4 sL sM=>
  intro h c';simp[aa.ro] at h;exact .func _ _ _ _ _ _ h1 h2 (λi x v e1 e2=>sL i x v e1 e2 (Fk h.1 e1) c') (λi x v e1 e2=>sM i x v e1 e2 (Fk h.2 e1) c')
 |bx=>intro _ c'; exact .bx _
 |iface c t x v h ih=>intro hr c'; exact .iface _ _ _ _ (ih (by simpa[aa.ro] using hr) c')
 |cV=>intro _ c'; exact .cV _
 |agg c cs vs h1 h2 ih=>intro h c'; exact .agg _ _ _ h1 (λi x v e1 e2=>ih i x v e1 e2 (Fk (by simpa[aa.ro] using h) e1) c')
 |bn c cs vs h1 h2 ih=>intro h c'; exact .bn _ _ _ h1 (λi x v e1 e2=>ih i x v e1 e2 (Fk (by simpa[aa.ro] using h) e1) c')
 |when c cs x v h h2 ih=>intro hr c'; exact .when _ _ _ _ (λhp=>ih hp (by simpa[aa.ro] using hr) c') h2
 |iter=>intro h; simp[aa.ro] at h
section
variable {P:Program} {GL:aw}
theorem ZdZ{M:Nat→Option Obj}{b:Nat}{o:Obj}(h:M b=none):gZ M (mi M b o):=by
 intro n x en
 grind [mi]
theorem br.tw{w0:World}{L:Ln}{g:Gm}{h:Hp}{w:World}(r:br GL w0 L g h w)(o:Obj):g.Le ⟨mi g.M w.heap.size o,g.c⟩∧br GL w0 L ⟨mi g.M w.heap.size o,g.c⟩ h (w.alloc o):=by
 have hM:g.M w.heap.size=none:=by
  cases hm:g.M w.heap.size with
  |none=>rfl
  |some x=>have:=r.fG hm; omega
 have Ap:=ZdZ (o:=o) hM;have uH:∀k,k<w.heap.size→(w.alloc o).heap[k]?=w.heap[k]?:=by
  intro k hk; show (w.heap.push o)[k]?=_; grind
 refine⟨⟨Ap,fH.refl _⟩,?_⟩;exact {
  keeps:=r.keeps.trans' rfl rfl rfl (by simp) (λk hk _=>uH k (by have:=r.keeps.size; omega))
  aR:=λb x e=>by
   by_cases hb:b=w.heap.size
   ·subst hb;have:mi g.M w.heap.size o w.heap.size=some x:=e;simp[mi] at this; subst this;show (w.heap.push o)[w.heap.size]?=_; simp
   ·have e':mi g.M w.heap.size o b=some x:=e;simp[mi,hb] at e';rw[uH b (r.fG e')]; exact r.aR b x e'
  bY:=λp hp=>(r.bY p hp).mono Ap (fH.refl _)
  src:=λb x e=>by
   by_cases hb:b=w.heap.size
   ·subst hb; exact .inr (.inl r.keeps.size)
   ·have e':mi g.M w.heap.size o b=some x:=e;simp[mi,hb] at e'; exact r.src b x e'
  dD:=r.dD
  iM:=r.iM
  own:=λb aE cb e hl ec hv=>by
   obtain⟨h1,h2,o',eI,bV⟩:=r.own b aE cb e hl ec hv;have cp:=r.dw e hl ec hv;refine⟨?_,h2,o',by rw[uH _ cp]; exact eI,bV.mono Ap (fH.refl _)⟩
   grind [mi]
  aX:=r.aX
  inj:=r.inj }
theorem Zb7(sz:Nat)(h0:Hp):aC P GL (.kD sz) [] h0 (.ax true true sz []) [] []:=by
 intro o os hc w0 L g h w a r hx _ _;generalize ho:o.op=op at hc;cases hc with
 |lK t e _ parts he hs hp=>
  have hpe:parts = #[]:=by cases parts; simpa using hp
  subst hpe;have o7:P.underlying t=some (.slice e):=by
   grind [eg]
  obtain⟨q1,q2⟩:=r.tw (.cells #[] e);have bL:(execOp a.eval o).run P w=.ok (.value (.slice (some ⟨w.heap.size,0,none⟩) 0 0)) (w.alloc (.cells #[] e)):=by
   have h1:(Instr.buildSlice t 0 #[]).run P w=.ok (.slice (some ⟨w.heap.size,0,none⟩) 0 0) (w.alloc (.cells #[] e)):=by
    simp only[Instr.buildSlice,Sem.run_bind,run_underlying o7,Result.andThen_ok,ZD hs,Nat.zero_mul];simp[Instr.fill,newRow,Array.range]
   simp_all [execOp]
  rw[bL];exact⟨_,q1,q2,.ax _ _ _ _ [] _ _ w.heap.size 0 (λ_ _=>undef) (by simp) (by simp) (by simp) (by simp) (by simp) (by simp) (by simp) (by simp)⟩
theorem Zc1{k:IntKind}{n:Int}(w:World):(asInt (.int k n)).run P w=.ok n w:=rfl
theorem Yc3(n by_ len:Nat)(z:List aa)(k:IntKind)(ct:by_*len≤2 ^ 48)(hlen:len<2 ^ 62)(h0:Hp)(nb:Nat)(hn:h0 nb=none) :
  aC P GL (.pT n by_ z) [.int k len] h0 (.sl nb 0 len true) [] [(nb,.rows n (List.replicate len z))]:=by
 intro o os hc w0 L g h w a r hx _ gy;have ja:h nb=none:=by simp_all
 generalize ho:o.op=op at hc;cases hc with
 |makeSlice t l e v _ _ _ he hs hb jK hz qZ dt=>
  obtain⟨ie,yD,pD⟩:∃ie,P.info? e=some ie∧ie.bytes=by_:=by
   simp_all
  have o7:P.underlying t=some (.slice e):=by
   grind [eg]
  have hl:=Xp hx.1;have hw:IntKind.i64.wrap (len:Int)=len:=IntWalk.i64_in _ ⟨by omega,by omega⟩;obtain⟨c1,c2⟩:=ZT (M:=g.M) (c:=g.c) dt;have Hu:z.length=n:=by rw[←c1,Array.length_toList,qZ]
  let cells:Array Value:=if len*n=0 then #[] else (Array.range (len*n)).map (v.cells[· % v.cells.size]!)
  have gC:cells.size=len*n:=by
   grind
  have bL:(execOp a.eval o).run P w=.ok (.value (.slice (some ⟨w.heap.size,0,none⟩) len len)) (w.alloc (.cells cells e)):=by
   have h1:(Instr.makeSlice t (.int k len) (.int k len)).run P w=.ok (.slice (some ⟨w.heap.size,0,none⟩) len len) (w.alloc (.cells cells e)):=by
    have g1:¬((len:Int)<0∨(ie.bytes:Int)*len>2 ^ 48):=by
     grind
    have g2:¬((len:Int)<0∨(len:Int)>len):=by omega
    simp only[Instr.makeSlice,Sem.run_bind,run_underlying o7,Result.andThen_ok,Zc1,typeInfo,run_program,yD,Sem.run_pure,hw];simp[g1,g2,run_askRoom,ZD hs,Z8 hz];have g9993:¬(((len:Int)<0∨281474976710656<(ie.bytes:Int)*len)∨(len:Int)<0):=by
     omega
    rw[if_neg g9993];by_cases Hw:len*n=0
    ·have hc:cells = #[]:=by simp only[cells]; rw[if_pos Hw]
     have hm:Array.map (λ_:Nat=>(default:Value)) (Array.range 0) = #[]:=by simp[Array.range]
     rw[if_pos Hw,hc,Hw,hm];rfl
    ·have hc:cells=(Array.range (len*n)).map (v.cells[· % v.cells.size]!):=by simp only[cells]; rw[if_neg Hw]
     rw[if_neg Hw,hc];rfl
   simp_all [execOp]
  rw[bL];refine br.oQ r ja n (List.replicate len z) cells e len len true (by rw[gC]) (Nat.le_refl _) (λ_=>rfl) (by simp) (λi row e=>?_) (λi row j x v' e1 e2 e3=>?_)
  ·grind
  ·rw[List.getElem?_replicate] at e1;split at e1
   ·rename_i hi;cases e1;have hj:j<n:=by grind
    refine c2 j x v' e2 ?_;have cp:i*n+j<len*n:=by
     grind
    have cL:¬len*n=0:=by omega
    simp only[cells,if_neg cL] at e3;simp_all [Nat.mod_eq_of_lt]
   ·cases e1
theorem Qcy(k:IntKind)(n:Int)(h0:Hp):aC P GL (.un .xor) [.int k n] h0 (.int k (bits .xor k (if k.signed then -1 else k.max) n)) [] []:=by
 intro o os hc w0 L g h w a r hx _ _;generalize ho:o.op=vJ at hc;cases hc with
 |un _ t x=>
  simp only[execOp,ho,Xp hx.1,Op.unary,intBits_xor,Sem.run_bind,Sem.run_pure,Result.andThen_ok];exact Out.here r (.int _ _ _)
end
end Go.Ah
end
section
namespace Go.Ah
mutual
def aa.flat:aa→Bool
 |.bool _=>true
 |.int _ _=>true
 |.str _=>true
 |.ei=>true
 |.aq=>true
 |.cB=>true
 |.func _ xs ys=>kG xs&&kG ys
 |.bx=>true
 |.iface _ v=>v.flat
 |.cV=>true
 |.agg cs=>kG cs
 |.bn cs=>kG cs
 |.aF=>true
 |_=>false
def kG:List aa→Bool
 |[]=>true
 |x::xs=>x.flat&&kG xs
end
theorem Ex:∀ {xs:List aa} {i:Nat} {x:aa},kG xs=true→xs[i]?=some x→x.flat=true
 |[],i,x,_,e=>by simp at e
 |y::xs,0,x,h,e=>by simp_all [kG]
 |y::xs,i+1,x,h,e=>by simp[kG] at h; simp at e; exact Ex h.2 e
theorem Den.flat{M:Nat→Option Obj}{c:Own}{x:aa}{v:Value}(h:Den M c x v):x.flat=true→∀M' c',Den M' c' x v:=by
 induction h with
 |aF=>intro _ _ c'; exact .aF _ _
 |bool=>intro _ _ c'; exact .bool _ _
 |int=>intro _ _ c'; exact .int _ _ _
 |str=>intro _ _ c'; exact .str _ _
 |ei=>intro _ _ c'; exact .ei _
 |aq=>intro _ _ c'; exact .aq _
 |cB=>intro _ _ c'; exact .cB _
 |func c fn first captured vs ws h1 h2 h3 h4 sL sM=>
  intro h M' c';simp[aa.flat] at h;exact .func _ _ _ _ _ _ h1 h2 (λi x v e1 e2=>sL i x v e1 e2 (Ex h.1 e1) M' c') (λi x v e1 e2=>sM i x v e1 e2 (Ex h.2 e1) M' c')
 |bx=>intro _ _ c'; exact .bx _
 |iface c t x v h ih=>intro hr M' c'; exact .iface _ _ _ _ (ih (by simpa[aa.flat] using hr) M' c')
 |cV=>intro _ _ c'; exact .cV _
 |agg c cs vs h1 h2 ih=>intro h M' c'; exact .agg _ _ _ h1 (λi x v e1 e2=>ih i x v e1 e2 (Ex (by simpa[aa.flat] using h) e1) M' c')
 |bn c cs vs h1 h2 ih=>intro h M' c'; exact .bn _ _ _ h1 (λi x v e1 e2=>ih i x v e1 e2 (Ex (by simpa[aa.flat] using h) e1) M' c')
 |_=>intro h; simp[aa.flat] at h
section
variable {P:Program} {GL:aw}
def im(P:Program)(GL:aw)(f:FuncId)(xs:List aa)(h0:Hp)(v:aa)(rd:List Nat)(up:List (Nat×ab)):Prop:=
 ∀(w0:World) (L:Ln) (g:Gm) (h:Hp) (w:World) (vs:List Value),br GL w0 L g h w→df g xs vs→(∀b∈rd,h b=h0 b)→(∀p∈up,h p.1=h0 p.1) →
  Calls P f vs.toArray w λe xI=>∃u,e=.returned u∧∃g',g.Le g'∧br GL w0 L g' (cq h up) xI∧g'.den v u
theorem ZX{f:FuncId}(hp:Qj P f=true)(args:Array Value)(w:World):(callFunc f args).run P w=.ok (.enter f args) w:=by
 unfold Qj at hp;cases hf:P.funcs[f]? with
 |none=>simp[hf] at hp
 |some fn=>
  simp[hf] at hp;obtain⟨b,hb⟩:=Option.isSome_iff_exists.1 hp.2;simp[callFunc,hf,hp.1,hb]
theorem Zdq{f:FuncId}{xs:List aa}{h0:Hp}{v:aa}{rd:List Nat}{up:List (Nat×ab)}(hc:im P GL f xs h0 v rd up):aC P GL (.call f) xs h0 v rd up:=by
 intro o os oG w0 L g h w a r hx cH gy;generalize ho:o.op=op at oG;cases oG with
 |call _ args ts hp=>
  have bL:(execOp a.eval o).run P w=.ok (.enter f (args.map a.eval)) w:=by
   simp_all [execOp,resolve,Act.eval,Deferred.ofValue,invoke,ZX]
  rw[bL];have:=hc w0 L g h w _ r hx cH gy
  rwa [←Array.toList_map,Array.toArray_toList] at this
theorem Yc2{f:FuncId}{first captured xs:List aa}{h0:Hp}{v:aa}{rd:List Nat}{up:List (Nat×ab)}(hp:Qj P f=true)(hc:im P GL f (first++xs++captured) h0 v rd up) :
  aC P GL .jh (.func (.func f) first captured::xs) h0 v rd up:=by
 intro o os oG w0 L g h w a r hx cH gy;generalize ho:o.op=op at oG;cases oG with
 |jh x args ts=>
  obtain⟨d,dr⟩:=hx;generalize hu:a.eval x=u0 at d;cases d with
  |func _ _ _ _ vs ws h1 h2 h3 h4=>
   have bL:(execOp a.eval o).run P w=.ok (.enter f (vs++args.map a.eval++ws)) w:=by
    simp_all [execOp,resolve,Deferred.ofValue,invoke,ZX]
   rw[bL];have hl:=dr.length;simp at hl;have:=hc w0 L g h w (vs ++ args.map a.eval ++ ws).toList r (df.kh (by simp[h1,h2,hl]) (λi y u e1 e2=>by
    simp only[Array.toList_append] at e2;by_cases hi:i<first.length
    ·rw[List.append_assoc,List.getElem?_append_left hi] at e1;rw[List.append_assoc,List.getElem?_append_left (by simpa[h1] using hi)] at e2;exact h3 i y u e1 (by simpa using e2)
    ·by_cases vD:i<first.length+xs.length
     ·rw[List.append_assoc,List.getElem?_append_right (by omega),List.getElem?_append_left (by omega)] at e1;rw[List.append_assoc,List.getElem?_append_right (by simp; omega),List.getElem?_append_left (by simp; omega)] at e2;refine dr.get (i-first.length) y u e1 ?_;simpa[h1] using e2
     ·rw[List.getElem?_append_right (by simp; omega)] at e1;rw[List.getElem?_append_right (by simp; omega)] at e2;refine h4 (i - (first ++ xs).length) y u e1 ?_;simpa[h1,hl] using e2)) cH gy
   rwa [Array.toArray_toList] at this
theorem U2{P:Program}{name:String}{t:TypeId}{f:FuncId}(h:JJ P name t=some f)(hp:Qj P f=true)(v:Value)(args:Array Value)(w:World) :
  (callMethod (.iface t v) name args).run P w=.ok (.enter f (#[v]++args)) w:=by
 unfold JJ at h;split at h
 ·cases h
 ·rename_i i hi;split at h
  ·cases h
  ·rename_i m hm;have GK:∃k,P.types.size+Made.depth=k+1:=⟨P.types.size+Made.depth-1,by rfl⟩;obtain⟨k,hk⟩:=GK;have V8:m.path.isEmpty=true→m.path.toList=[]:=λh=>by simpa using h
   have key:(method (k+1) t v name).run P w=.ok (f,v) w:=by
    unfold method;simp only[Sem.run_bind,run_typeInfo w hi,Result.andThen_ok,hm];split at h<;>simp_all [follow,receiverAt,Place.get,run_underlying]
   unfold callMethod;simp only[Sem.run_bind,show (program).run P w=.ok P w from rfl,Result.andThen_ok,hk,key];rw[ZX hp]
theorem Xcw{name:String}{nw:List (TypeId×FuncId)}{f:FuncId}{ty:TypeId}{x:aa}{xs:List aa}{h0:Hp}{v:aa}{rd:List Nat}{up:List (Nat×ab)}(hl:Fl ty nw=some f)(hc:im P GL f (x::xs) h0 v rd up) :
  aC P GL (.invoke name nw) (.iface ty x::xs) h0 v rd up:=by
 intro o os oG w0 L g h w a r hx cH gy;generalize ho:o.op=op at oG;cases oG with
 |invoke y _ args ts _ bV=>
  obtain⟨d,dr⟩:=hx;generalize hu:a.eval y=u0 at d;cases d with
  |iface _ _ _ vv Hs=>
   obtain⟨k1,k2⟩:=bV _ (Mz hl);have bL:(execOp a.eval o).run P w=.ok (.enter f (#[vv]++args.map a.eval)) w:=by
    simp only[execOp,ho,resolve,Sem.run_bind,hu,Sem.run_pure,Result.andThen_ok,invoke];have e0:(#[Value.iface ty vv]++args.map a.eval)[0]?=some (Value.iface ty vv):=by grind
    have e1:(#[Value.iface ty vv]++args.map a.eval).extract 1 (#[Value.iface ty vv]++args.map a.eval).size=args.map a.eval:=by
     simp
    grind [U2]
   rw[bL];have:=hc w0 L g h w (vv::(args.map a.eval).toList) r ⟨Hs,by rwa [Array.toList_map]⟩ cH gy;have e2:(vv::(args.map a.eval).toList).toArray = #[vv]++args.map a.eval:=by apply Array.ext'; simp
   rw[e2] at this;exact this
def dM(P:Program)(GL:aw)(f:FuncId)(xs:List aa)(v:aa):Prop:=
 ∀(w:World) (M:Nat→Option Obj) (vs:List Value),(∀b o,M b=some o→w.heap[b]?=some o)→(∀p∈GL,Den M bg (.ao p.2 0) (.pointer (some ⟨p.1,0,none⟩)))→df ⟨M,bg⟩ xs vs →
  Calls P f vs.toArray w λe w'=>∃u,e=.returned u∧gY ⟨[],M⟩ w w'∧∃M',gZ M M'∧(∀b o,M' b=some o→w'.heap[b]?=some o)∧(∀b o,M' b=some o→M b=some o∨w.heap.size≤b)∧Den M' bg v u
def nf:Hp:=λ_=>none
theorem br.start(w:World)(M:Nat→Option Obj)(hM:∀b o,M b=some o→w.heap[b]?=some o)(hg:∀p∈GL,Den M bg (.ao p.2 0) (.pointer (some ⟨p.1,0,none⟩))):br GL w ⟨[],M⟩ ⟨M,bg⟩ nf w where
 keeps:=gY.refl _ _
 aR:=hM
 src:=λ_ _ e=>.inl e
 bY:=hg
 dD:=λ_ _=>rfl
 iM:=λ_ _ e=>by cases e
 own:=λ_ _ _ e=>by cases e
 aX:=λ_ _ _ e=>by cases e
 inj:=λ_ _ _ _ _ _ e=>by cases e
theorem br.after{w0:World}{L:Ln}{g:Gm}{h:Hp}{w w':World}(r:br GL w0 L g h w){M M':Nat→Option Obj}(k:gY ⟨[],M⟩ w w')(hle:gZ g.M M')(fT:∀b o,M' b=some o→w'.heap[b]?=some o)(kJ:∀b o,M' b=some o→g.M b=some o∨w.heap.size≤b) :
  br GL w0 L ⟨M',g.c⟩ h w' where
 keeps:=r.keeps.trans' k.os k.tape k.output k.size (λb hb _=>k.block b (by have:=r.keeps.size; omega) (by simp))
 aR:=fT
 src:=λb o e=>by
  rcases kJ b o e with h1|h1
  ·exact r.src b o h1
  ·exact .inr (.inl (by have:=r.keeps.size; omega))
 bY:=λp hp=>(r.bY p hp).mono hle (fH.refl _)
 dD:=r.dD
 iM:=r.iM
 own:=λb aE cb e hl ec hv=>by
  obtain⟨h1,h2,o,ho,bV⟩:=r.own b aE cb e hl ec hv;have cp:=r.dw e hl ec hv;refine⟨?_,h2,o,by rw[k.block _ cp (by simp)]; exact ho,bV.mono hle (fH.refl _)⟩;show M' cb.aE=none;cases hm:M' cb.aE<;>grind
 aX:=r.aX
 inj:=r.inj
theorem Nj{M:Nat→Option Obj}{c:Own}:∀ {xs:List aa} {vs:List Value},fz xs=true→df ⟨M,c⟩ xs vs→∀c',df ⟨M,c'⟩ xs vs
 |[],[],_,_,_=>trivial
 |x::xs,v::vs,h,⟨d,r⟩,c'=>by simp[fz] at h; exact⟨Den.ro d h.1 c',Nj h.2 r c'⟩
theorem dM.here{f:FuncId}{xs:List aa}{v:aa}(hc:dM P GL f xs v)(xm:fz xs=true)(h0:Hp):im P GL f xs h0 v [] []:=by
 intro w0 L g h w vs r hx _ _;refine(hc w g.M vs r.aR r.bY (Nj xm hx bg)).mono ?_;rintro e w' ⟨u,he,k,M',hle,fT,kJ,hd⟩;exact⟨u,he,⟨M',g.c⟩,⟨hle,fH.refl _⟩,r.after k hle fT kJ,hd.mono (gZ.refl _) (fH.bg _)⟩
def World.all(w:World):Nat→Option Obj:=λb=>w.heap[b]?
def vN(g:Gm)(h:Hp)(w:World)(M2:Nat→Option Obj):Prop:=
 gZ g.M M2∧∀b aE cb o,h b=some aE→aE.live=true→g.c b=some cb→cb.cS=false→w.heap[cb.aE]?=some o→M2 cb.aE=some o
def aB(h0:Hp)(rd:List Nat)(x y:aa):Prop:=
 ∀(GL:aw) (w0:World) (L:Ln) (g:Gm) (h:Hp) (w:World) (M2:Nat→Option Obj),br GL w0 L g h w→vN g h w M2→(∀b∈rd,h b=h0 b)→∀v,g.den x v→Den M2 bg y v
def bp(h0:Hp)(rd:List Nat)(xs ys:List aa):Prop:=
 ∀(GL:aw) (w0:World) (L:Ln) (g:Gm) (h:Hp) (w:World) (M2:Nat→Option Obj),br GL w0 L g h w→vN g h w M2→(∀b∈rd,h b=h0 b)→∀vs,df g xs vs→df ⟨M2,bg⟩ ys vs
theorem br.rf{w0:World}{L:Ln}{g:Gm}{h:Hp}{w:World}(r:br GL w0 L g h w):gZ g.M (World.all w):=λb o e=>r.aR b o e
theorem br.rP{w0:World}{L:Ln}{g:Gm}{h:Hp}{w:World}(r:br GL w0 L g h w):vN g h w (World.all w):=⟨r.rf,λ_ _ _ _ _ _ _ _ e=>e⟩
theorem dM.pS{f:FuncId}{xs ys:List aa}{v:aa}{rd:List Nat}{h0:Hp}(hc:dM P GL f ys v)(hb:bp h0 rd xs ys)(hv:v.flat=true):im P GL f xs h0 v rd []:=by
 intro w0 L g h w vs r hx cH _;refine(hc w (World.all w) vs (λ_ _ e=>e) (λp hp=>(r.bY p hp).mono r.rf (fH.refl _)) (hb GL w0 L g h w _ r r.rP cH vs hx)).mono ?_;rintro e w' ⟨u,he,k,M',hle,fT,kJ,hd⟩;refine⟨u,he,g,Gm.Le.refl _,?_,Den.flat hd hv _ _⟩;exact r.after k (gZ.refl _) (λb o e=>by rw[k.block b (r.fG e) (by simp)]; exact r.aR b o e) (λb o e=>.inl e)
theorem aB.ro{h0:Hp}{rd:List Nat}{x:aa}(hx:x.ro=true):aB h0 rd x x:=by
 intro GL w0 L g h w M2 r hM _ v d;exact Den.ro (Den.mono hM.1 d (fH.refl _)) hx _
theorem bp.nil{h0:Hp}{rd:List Nat}:bp h0 rd [] []:=by
 intro GL w0 L g h w M2 r hM _ vs d;cases vs with
 |nil=>trivial
 |cons v vs=>exact d.elim
theorem bp.cons{h0:Hp}{rd:List Nat}{x y:aa}{xs ys:List aa}(h1:aB h0 rd x y)(h2:bp h0 rd xs ys):bp h0 rd (x::xs) (y::ys):=by
 intro GL w0 L g h w M2 r hM cH vs d;cases vs with
 |nil=>exact d.elim
 |cons v vs=>exact⟨h1 GL w0 L g h w M2 r hM cH v d.1,h2 GL w0 L g h w M2 r hM cH vs d.2⟩
theorem bp.get{h0:Hp}{rd:List Nat}{xs ys:List aa}(hb:bp h0 rd xs ys){GL:aw}{w0:World}{L:Ln}{g:Gm}{h:Hp}{w:World}{M2:Nat→Option Obj}(r:br GL w0 L g h w)(hM:vN g h w M2)(cH:∀b∈rd,h b=h0 b){vs:List Value}(hl:xs.length=vs.length)
 (hd:∀(i:Nat) (x:aa) (v:Value),xs[i]?=some x→vs[i]?=some v→g.den x v):ys.length=vs.length∧∀(i:Nat) (y:aa) (v:Value),ys[i]?=some y→vs[i]?=some v→Den M2 bg y v:=by
 have:=hb GL w0 L g h w M2 r hM cH vs (df.kh hl hd);exact⟨this.length,λi y v e1 e2=>this.get i y v e1 e2⟩
theorem aB.box{h0:Hp}{rd:List Nat}{b j:Nat}{row row':List aa}(hb:h0 b=some (.box row))(cY:b∈rd)(hr:bp h0 rd row row'):aB h0 rd (.ai b j) (.ao row' j):=by
 intro GL w0 L g h w M2 r hM cH v d;have bZ:h b=some (.box row):=by rw[cH b cY]; exact hb
 cases d with
 |ai _ _ _ cb ec=>
 cases bP:cb.cS with
 |true=>have:=r.aX b _ cb bZ rfl ec bP; cases this
 |false=>
 obtain⟨_,_,o',eI,arr,T,rfl,hs,cI⟩:=r.own b _ cb bZ rfl ec bP;obtain⟨hl,hd⟩:=hr.get r hM cH (vs:=arr.toList) (by simp[hs]) (λi x v e1 e2=>cI i x v e1 (by simpa using e2));have nI:Den M2 bg (.ao row' j) (.pointer (some ⟨cb.aE,0+j,none⟩)):=by
  refine .ao _ _ _ _ _ (λk=>(arr[k]?).getD undef) (λk hk=>?_) (λk x e=>?_)
  ·have uy:k<arr.size:=by simpa[hl] using hk
   have hw:M2 cb.aE=some (.cells arr T (0,0)):=hM.2 b _ cb _ bZ rfl ec (by assumption) eI;simp[gN,hw,uy]
  ·have hk:k<arr.size:=by have:=(gn e).1; simpa[hl] using this
   simp only[Array.getElem?_eq_getElem hk,Option.getD_some];exact hd k x _ e (by simp[hk])
 rwa [Nat.zero_add] at nI
theorem aB.iface{h0:Hp}{rd:List Nat}{t:TypeId}{x y:aa}(h1:aB h0 rd x y):aB h0 rd (.iface t x) (.iface t y):=by
 intro GL w0 L g h w M2 r hM cH v d;cases d with
 |iface _ _ _ v' dv=>exact .iface _ _ _ _ (h1 GL w0 L g h w M2 r hM cH v' dv)
theorem aB.agg{h0:Hp}{rd:List Nat}{xs ys:List aa}(h1:bp h0 rd xs ys):aB h0 rd (.agg xs) (.agg ys):=by
 intro GL w0 L g h w M2 r hM cH v d;cases d with
 |agg _ _ vs hs hd=>
  obtain⟨hl,nI⟩:=h1.get r hM cH (vs:=vs.toList) (by simp[hs]) (λi x v e1 e2=>hd i x v e1 (by simpa using e2));exact .agg _ _ _ (by simpa using hl.symm) (λi x v e1 e2=>nI i x v e1 (by simpa using e2))
theorem aB.func{h0:Hp}{rd:List Nat}{fn:Fn}{xs ys xJ WD:List aa}(h1:bp h0 rd xs xJ)(h2:bp h0 rd ys WD):aB h0 rd (.func fn xs ys) (.func fn xJ WD):=by
 intro GL w0 L g h w M2 r hM cH v d;cases d with
 |func _ _ _ _ vs ws q1 q2 q3 q4=>
  obtain⟨hl,nI⟩:=h1.get r hM cH (vs:=vs.toList) (by simp[q1]) (λi x v e1 e2=>q3 i x v e1 (by simpa using e2));obtain⟨eX,qq⟩:=h2.get r hM cH (vs:=ws.toList) (by simp[q2]) (λi x v e1 e2=>q4 i x v e1 (by simpa using e2));exact .func _ _ _ _ _ _ (by simpa using hl.symm) (by simpa using eX.symm) (λi x v e1 e2=>nI i x v e1 (by simpa using e2)) (λi x v e1 e2=>qq i x v e1 (by simpa using e2))
theorem aB.map{h0:Hp}{rd:List Nat}{b:Nat}{es:List (aa×aa)}(hb:h0 b=some (.map es))(cY:b∈rd)(kV:∀p∈es,p.1.ro=true∧p.2.ro=true):aB h0 rd (.map b) (.eN es):=by
 intro GL w0 L g h w M2 r hM cH v d;have bZ:h b=some (.map es):=by rw[cH b cY]; exact hb
 cases d with
 |map _ _ cb ec=>
 cases bP:cb.cS with
 |true=>have:=r.aX b _ cb bZ rfl ec bP; cases this
 |false=>
 obtain⟨_,_,o',eI,arr,clock,rfl,hs,cI⟩:=r.own b _ cb bZ rfl ec bP;have hw:M2 cb.aE=some (.map arr clock):=hM.2 b _ cb _ bZ rfl ec bP eI;exact .eN _ _ _ arr clock hw hs (λi k x e e1 e2=>Den.ro ((cI i k x e e1 e2).1.mono hM.1 (fH.refl _)) (kV _ (List.mem_of_getElem? e1)).1 _)
  (λi k x e e1 e2=>Den.ro ((cI i k x e e1 e2).2.mono hM.1 (fH.refl _)) (kV _ (List.mem_of_getElem? e1)).2 _)
theorem aB.sl{h0:Hp}{rd:List Nat}{b off len sz:Nat}{ex:Bool}{rs rs':List (List aa)}(hb:h0 b=some (.rows sz rs))(cY:b∈rd)(hle:off+len≤rs.length)(hl:rs'.length=len)
 (hr:∀(i:Nat) (row row':List aa),rs[off+i]?=some row→rs'[i]?=some row'→bp h0 rd row row'):aB h0 rd (.sl b off len ex) (.ax ex false sz rs'):=by
 intro GL w0 L g h w M2 r hM cH v d;have bZ:h b=some (.rows sz rs):=by rw[cH b cY]; exact hb
 cases d with
 |nO _ _ _ cb p ec hv=>
  have:rs'=[]:=List.length_eq_zero_iff.1 hl;subst this;exact .ax _ _ _ _ [] _ _ 0 0 (λ_ _=>undef) (by simp) (by simp) (by simp) (by simp) (by simp) (by simp) (by simp) (by simp)
 |sle _ _ _ _ cb p ec hv=>
  have:rs'=[]:=List.length_eq_zero_iff.1 hl;subst this;exact .ax _ _ _ _ [] _ _ 0 0 (λ_ _=>undef) (by simp) (by simp) (by simp) (by simp) (by simp) (by simp) (by simp) (by simp)
 |sl _ _ _ _ _ cb cap ec hv h1 h2 h3=>
  obtain⟨e1,arr,T,eI,hs,iU,dT,cI⟩:=r.eQ bZ ec hv;have hw:M2 cb.aE=some (.cells arr T (0,0)):=hM.2 b _ cb _ bZ rfl ec (by assumption) eI;have ah:∀i,i<len→∃row,rs[off+i]?=some row:=λi hi=>⟨rs[off+i]'(by omega),by simp[show off+i<rs.length by omega]⟩;have l9:∀i j,i<len→j<sz→cb.base+(off+i)*sz+j<arr.size:=by
   intro i j hi hj;have:(off+i+1)*sz≤rs.length*sz:=Nat.mul_le_mul_right sz (by omega);rw[Nat.succ_mul] at this; omega
  have key:∀i row row',rs[off+i]?=some row→rs'[i]?=some row'→row'.length=sz∧∀(j:Nat) (y:aa),row'[j]?=some y→Den M2 bg y ((arr[cb.base+(off+i)*sz+j]?).getD undef):=by
   intro i row row' q1 q2;have hi:i<len:=by rw[←hl]; exact(gn q2).1
   have Ag:=dT _ _ q1;obtain⟨k1,k2⟩:=(hr i row row' q1 q2).get r hM cH (vs:=(arr.extract (cb.base + (off + i) * sz) (cb.base + (off + i) * sz + sz)).toList) (by
     have:=l9 i 0 hi;simp[Ag];by_cases h0:sz=0
     ·subst h0; simp
     ·have:=l9 i (sz-1) hi (by omega); omega) (λj x v q3 q4=>by
    have hj:j<sz:=by rw[←Ag]; exact(gn q3).1
    have cp:=l9 i j hi hj;rw[Array.getElem?_toList] at q4;obtain⟨_,q4⟩:=Array.getElem?_eq_some_iff.1 q4;rw[Array.getElem_extract] at q4;exact cI _ row j x v q1 q3 (by rw[Array.getElem?_eq_getElem cp,q4]))
   have hlen:(arr.extract (cb.base+(off+i)*sz) (cb.base+(off+i)*sz+sz)).toList.length=sz:=by
    simp;by_cases h0:sz=0
    ·subst h0; simp
    ·have:=l9 i (sz-1) hi (by omega); omega
   refine⟨by rw[k1,hlen],λj y q3=>?_⟩;have hj:j<sz:=by rw[←hlen,←k1]; exact(gn q3).1
   have cp:=l9 i j hi hj;simp only[Array.getElem?_eq_getElem cp,Option.getD_some];refine k2 j y _ q3 ?_;rw[Array.getElem?_toList,Array.getElem?_eq_getElem (by simp; omega),Array.getElem_extract]
  have mf:Den M2 bg (.ax ex false sz rs') (.slice (some ⟨cb.aE,cb.base+off*sz,none⟩) rs'.length cap):=by
   refine .ax _ ex false sz rs' _ cap cb.aE (cb.base+off*sz) (λi j=>(arr[cb.base+(off+i)*sz+j]?).getD undef) (λe=>by rw[hl]; exact h3 e) (by simp) (λ_=>rfl) (λe=>by cases e) (by rw[hl]; exact h1) (λi row' q=>?_) (λi j hi hj=>?_) (λi row' j y q1 q2=>?_)
   ·obtain⟨row,Ps⟩:=ah i (by rw[←hl]; exact(gn q).1);exact(key i row row' Ps q).1
   ·rw[hl] at hi;have cp:=l9 i j hi hj;rw[show cb.base+off*sz+(i*sz+j)=cb.base+(off+i)*sz+j by rw[Nat.add_mul]; omega];simp[gN,hw,cp]
   ·obtain⟨row,Ps⟩:=ah i (by rw[←hl]; exact(gn q1).1);exact(key i row row' Ps q1).2 j y q2
  rw[hl,←e1] at mf;rw[e1] at mf ⊢;exact mf
end
end Go.Ah
end
section
namespace Go.Ah
structure aI where
 dst:Option Nat
 k:MK
 xs:List ql
 guard:Option (Nat×Bool)
 deriving Inhabited
def kv{α β:Type}(R:α→β→Prop):List α→List β→Prop
 |[],[]=>True
 |x::xs,y::ys=>R x y∧kv R xs ys
 |_,_=>False
structure e_ (P:Program) (GL:aw) (n:Nat) (ops:Array Oper) (o:Oper) (m:aI):Prop where
 dst:o.dst=m.dst
 lt:∀d,m.dst=some d→d<n
 op:∃os,bW P GL o.op m.k os∧kv (jN GL) os m.xs
 guard:match o.guard,m.guard with
  |none,none=>True
  |some (j,w),some (s,w')=>w=w'∧(ops[j]?).bind (·.dst)=some s
  |_,_=>False
def d_(cs:List (Bool×Bool)):Prop:=∀p∈cs,p.1=p.2
inductive cZ (ρ:Frame):Option (Nat×Bool)→List (Bool×Bool)→Prop
 |none:cZ ρ none []
 |bool (s:Nat) (w c:Bool):bB ρ s=.bool c→cZ ρ (some (s,w)) [(c,w)]
 |when (s:Nat) (w c:Bool) (cs:List (Bool×Bool)):bB ρ s=.when cs (.bool c)→cZ ρ (some (s,w)) (cs++[(c,w)])
def vW(H:Prop)(x y:aa):Prop:=x=y∨∃cs,x=.when cs y∧(H→d_ cs)
def su(d:Nat):Frame→Frame
 |[]=>[]
 |(k,u)::r=>match Nat.beq k d with
  |true=>r
  |false=>(k,u)::su d r
theorem RF{d t:Nat}(h:t≠d):∀(ρ:Frame),bB (su d ρ) t=bB ρ t
 |[]=>rfl
 |(k,u)::r=>by
  simp only[su];split<;>simp_all [QR,RF]
def cc(d:Option Nat)(v:aa)(ρ:Frame):Frame:=
 match d with
 |some d=>(d,v)::su d ρ
 |none=>ρ
theorem Y4(d:Option Nat)(v:aa)(ρ:Frame)(t:Nat):bB (cc d v ρ) t=if d=some t then v else bB ρ t:=by
 cases d with
 |none=>simp[cc]
 |some d=>
  simp only[cc,QR];by_cases h:t=d
  ·subst h; simp
  ·rw[if_neg h,if_neg (λe=>h (Option.some.inj e).symm),RF h]
def gP:List ab→List (Nat×ab)→Option (List ab)
 |σ,[]=>some σ
 | σ,(b,x) :: r=>bif Nat.beq b σ.length then gP (σ ++ [x]) r else (match YM b x σ with
  |some σ'=>gP σ' r
  | none=>none)
abbrev Log:=List (List Nat×List Nat)
def y7(P:Program)(GL:aw)(w0:World)(L:Ln)(g:Gm)(R:aa→List ab→Prop):Result Next→Prop
 |.ok (.value u) w'=>∃g' x σ',R x σ'∧g.Le g'∧br GL w0 L g' (hp σ') w'∧g'.den x u
 |.ok .skip w'=>∃g' σ',R .aF σ'∧g.Le g'∧br GL w0 L g' (hp σ') w'
 |.ok (.enter f args) w'=>Calls P f args w' λe xI=>∃u,e=.returned u∧∃g' x σ',R x σ'∧g.Le g'∧br GL w0 L g' (hp σ') xI∧g'.den x u
 |_=>False
def mm(P:Program)(GL:aw)(k:MK)(xs:List aa)(σ:List ab)(R:aa→List ab→Prop):Prop:=
 ∀(o:Oper) (os:List Operand),bW P GL o.op k os→∀(w0:World) (L:Ln) (g:Gm) (w:World) (a:Act),br GL w0 L g (hp σ) w→df g xs (os.map a.eval)→y7 P GL w0 L g R ((execOp a.eval o).run P w)
inductive dN (fl:Bool) (P:Program) (GL:aw) (o:aI) (ρ:Frame) (σ:List ab) (lg:Log) (K:Frame→List ab→Log→Prop):Prop
 |run (cs:List (Bool×Bool)) (ys:List aa) (v:aa) (rd:List Nat) (up:List (Nat×ab)) (σ':List ab):cZ ρ o.guard cs→d_ cs→kv (vW True) (o.xs.map (ev ρ)) ys→aC P GL o.k ys (hp σ) v rd up →
   gP σ up=some σ'→K (cc o.dst v ρ) σ' (lg++[(rd,up.map (·.1))])→dN fl P GL o ρ σ lg K
 |skip (cs:List (Bool×Bool)):cZ ρ o.guard cs→¬d_ cs→K (cc o.dst .aF ρ) σ (lg++[([],[])])→dN fl P GL o ρ σ lg K
 |lazy (cs:List (Bool×Bool)) (ys:List aa) (v:aa) (rd:List Nat):cZ ρ o.guard cs→kv (vW (d_ cs)) (o.xs.map (ev ρ)) ys→(d_ cs→aC P GL o.k ys (hp σ) v rd []) →
   K (cc o.dst (.when cs v) ρ) σ (lg++[(rd,[])])→dN fl P GL o ρ σ lg K
 |pick (cs:List (Bool×Bool)) (x y z:aa) (c p q:Bool) (v:aa):cZ ρ o.guard cs→o.k=.pick→o.xs.map (ev ρ)=[x,y,z]→vW (d_ cs) x (.bool c)→vW (d_ cs∧c=true) y (.bool p)→vW (d_ cs∧c=false) z (.bool q) →
   (v=.when cs (.bool (bif c then p else q))∨(cs=[]∧v=.bool (bif c then p else q)))→K (cc o.dst v ρ) σ (lg++[([],[])])→dN fl P GL o ρ σ lg K
 |rel (cs:List (Bool×Bool)) (ys:List aa) (R:aa→List ab→Prop):fl=false→cZ ρ o.guard cs→d_ cs→kv (vW True) (o.xs.map (ev ρ)) ys→mm P GL o.k ys σ R →
   (∀v σ',R v σ'→K (cc o.dst v ρ) σ' (lg++[([],[])]))→dN fl P GL o ρ σ lg K
def gS(fl:Bool)(P:Program)(GL:aw):List aI→Frame→List ab→Log→(Frame→List ab→Log→Prop)→Prop
 |[],ρ,σ,lg,Q=>Q ρ σ lg
 |o::r,ρ,σ,lg,Q=>dN fl P GL o ρ σ lg λρ' σ' iP=>gS fl P GL r ρ' σ' iP Q
theorem dN.mono{fl:Bool}{P:Program}{GL:aw}{o:aI}{ρ:Frame}{σ:List ab}{lg:Log}{K K':Frame→List ab→Log→Prop}(h:∀ρ σ lg,K ρ σ lg→K' ρ σ lg)(s:dN fl P GL o ρ σ lg K):dN fl P GL o ρ σ lg K':=by
 cases s with
 |run cs ys v rd up σ' h1 h2 h3 h4 h5 h6=>exact .run cs ys v rd up σ' h1 h2 h3 h4 h5 (h _ _ _ h6)
 |skip cs h1 h2 h3=>exact .skip cs h1 h2 (h _ _ _ h3)
 |lazy cs ys v rd h1 h2 h3 h4=>exact .lazy cs ys v rd h1 h2 h3 (h _ _ _ h4)
 |pick cs x y z c p q v h1 h2 h3 h4 h5 h6 h7 h8=>exact .pick cs x y z c p q v h1 h2 h3 h4 h5 h6 h7 (h _ _ _ h8)
 |rel cs ys R h0 h1 h2 h3 h4 h5=>exact .rel cs ys R h0 h1 h2 h3 h4 (λv σ' hr=>h _ _ _ (h5 v σ' hr))
theorem ET:∀(up:List (Nat×ab)) (σ σ':List ab),gP σ up=some σ'→cq (hp σ) up=hp σ'
 |[],σ,σ',h=>by simp only[gP] at h; cases h; rfl
 |(b,x)::r,σ,σ',h=>by
  simp only[gP] at h;cases hb:Nat.beq b σ.length with
  |true=>
   simp only[hb,cond_true] at h;have:=ET r _ _ h;rw[←this];show cq (eA (hp σ) b x) r=_
   congr 1
   grind [eA,hp,e9]
  |false=>
   simp only[hb,cond_false] at h;cases hs:YM b x σ with
   |none=>simp[hs] at h
   |some σ1=>
    simp only[hs] at h;have:=ET r _ _ h;rw[←this];show cq (eA (hp σ) b x) r=_
    congr 1
    funext n
    obtain⟨s1,s2,s3⟩:=Zb8 hs;unfold eA hp;rw[s3 n]
section
variable {P:Program} {GL:aw}
def vQ(GL:aw)(w0:World)(L:Ln)(n:Nat)(g:Gm)(K:Frame→List ab→Log→Prop)(a:Act)(w:World):Prop:=
 ∃g' ρ σ lg,g.Le g'∧br GL w0 L g' (hp σ) w∧cD n g' ρ a∧K ρ σ lg
theorem zn{H:Prop}(hH:H){x y:aa}(h:vW H x y){g:Gm}{v:Value}(d:g.den x v):g.den y v:=by
 rcases h with rfl|⟨cs,rfl,h2⟩
 ·exact d
 ·cases d with
  |when _ _ _ _ h3 _=>exact h3 (h2 hH)
theorem DM{H:Prop}(hH:H){g:Gm}:∀ {xs ys:List aa} {vs:List Value},kv (vW H) xs ys→df g xs vs→df g ys vs
 |[],[],[],_,_=>trivial
 |[],[],_::_,_,d=>d.elim
 |_::_,_::_,[],_,d=>d.elim
 |_::_,_::_,_::_,⟨h1,h2⟩,⟨d1,d2⟩=>⟨zn hH h1 d1,DM hH h2 d2⟩
theorem ES{w0:World}{L:Ln}{g:Gm}{h:Hp}{w:World}(r:br GL w0 L g h w){n:Nat}{ρ:Frame}{a:Act}(d:cD n g ρ a):∀ {os:List Operand} {xs:List ql},kv (jN GL) os xs→df g (xs.map (ev ρ)) (os.map a.eval)
 |[],[],_=>trivial
 |_::_,_::_,⟨h1,h2⟩=>⟨cD.Wz r d h1,ES r d h2⟩
theorem cD.cc{n:Nat}{g:Gm}{ρ:Frame}{a:Act}(h:cD n g ρ a){d:Option Nat}(hd:∀t,d=some t→t<n){x:aa}{v:Value}(hx:g.den x v):cD n g (cc d x ρ) (a.put d v):=by
 cases d with
 |none=>exact h
 |some t=>
  have:=h.put (hd t rfl) hx;refine⟨this.size,λs=>?_,this.defers⟩;have hs:=this.slot s;rw[QR] at hs;rw[Y4]
  grind
theorem Out.upon{w0:World}{L:Ln}{g:Gm}{h':Hp}{x:aa}{res:Result Next}(ho:Out P GL w0 L g h' x res){o:Oper}{a:Act}{next:Act→World→Prop}{Q:Exit→Act→World→Prop}
 (hk:∀g' u w',g.Le g'→br GL w0 L g' h' w'→g'.den x u→next (a.put o.dst u) w'):o.upon P a next Q res:=by
 cases res with
 |halt x w=>exact ho.elim
 |ok nx w=>
  cases nx with
  |value u=>obtain⟨g',h1,h2,h3⟩:=ho; exact hk g' u w h1 h2 h3
  |skip=>obtain⟨g',h1,h2,h3⟩:=ho; subst h3; exact hk g' undef w h1 h2 (.aF _ _)
  |enter f args=>
   refine Calls.mono ho ?_
   grind
  |_=>exact ho.elim
theorem Zt{n:Nat}{ops:Array Oper}{o:Oper}{m:aI}(ok:e_ P GL n ops o m){ρ:Frame}{g:Gm}{a:Act}(d:cD n g ρ a){cs:List (Bool×Bool)}(hg:cZ ρ m.guard cs) :
  (d_ cs→Region.wanted o (yielded ops a.tmps)=true)∧(¬d_ cs→Region.wanted o (yielded ops a.tmps)=false):=by
 have rY:=ok.guard;unfold Region.wanted;cases h1:m.guard with
 |none=>
  rw[h1] at hg rY;cases hg;cases h2:o.guard<;>simp_all [d_]
 |some sw=>
  obtain⟨s,w⟩:=sw;rw[h1] at hg rY;cases h2:o.guard with
  |none=>simp[h2] at rY
  |some jw=>
   obtain⟨j,w'⟩:=jw;simp only[h2] at rY;obtain⟨rfl,hs⟩:=rY;have jW:=d.slot s;have hy:∀v,a.tmps.getD s undef=v→yielded ops a.tmps j=match v with | .bool b=>some b|_=>none:=by
    intro v hv;unfold yielded;rw[hs];simp only[Option.bind_some];by_cases cp:s<a.tmps.size
    ·rw[Array.getElem?_eq_getElem cp];have:a.tmps[s]=v:=by simp_all
     rw[this]; cases v<;>rfl
    grind [undef]
   show (d_ cs→(yielded ops a.tmps j==some _)=true)∧(¬d_ cs→(yielded ops a.tmps j==some _)=false);cases hg with
   |bool _ _ c hc=>
    rw[hc] at jW;have hv:=QC jW;simp_all [d_]
   |when _ _ c cs hc=>
    rw[hc] at jW;cases jW with
    |when _ _ _ _ h3 h4=>
    constructor
    ·intro h;have hv:=QC (h3 (λp hp=>h p (by simp[hp])));rw[hy _ hv];have:=h (c,w') (by simp); simp at this; simp[this]
    ·intro h;by_cases gC:d_ cs
     ·have hv:=QC (h3 gC);rw[hy _ hv];simp; intro e;exact h (λp hp=>by
       rcases List.mem_append.1 hp with h1|h1
       ·exact gC p h1
       ·simp at h1; subst h1; exact e)
     ·have hv:=h4 gC;rw[hy _ hv]; simp[undef]
theorem y7.upon{w0:World}{L:Ln}{g:Gm}{R:aa→List ab→Prop}{res:Result Next}(ho:y7 P GL w0 L g R res){o:Oper}{a:Act}{next:Act→World→Prop}{Q:Exit→Act→World→Prop}
 (hk:∀g' x σ' u w',R x σ'→g.Le g'→br GL w0 L g' (hp σ') w'→g'.den x u→next (a.put o.dst u) w'):o.upon P a next Q res:=by
 cases res with
 |halt x w=>exact ho.elim
 |ok nx w=>
  cases nx with
  |value u=>obtain⟨g',x,σ',h0,h1,h2,h3⟩:=ho; exact hk g' x σ' u w h0 h1 h2 h3
  |skip=>obtain⟨g',σ',h0,h1,h2⟩:=ho; exact hk g' .aF σ' undef w h0 h1 h2 (.aF _ _)
  |enter f args=>
   refine Calls.mono ho ?_
   grind
  |_=>exact ho.elim
theorem T7{fl:Bool}{n:Nat}{ops:Array Oper}{o:Oper}{m:aI}(ok:e_ P GL n ops o m){ρ:Frame}{σ:List ab}{lg:Log}{K:Frame→List ab→Log→Prop}(s:dN fl P GL m ρ σ lg K){w0:World}{L:Ln}{g:Gm}{w:World}(r:br GL w0 L g (hp σ) w){a:Act}(d:cD n g ρ a)
 (next:Act→World→Prop)(Q:Exit→Act→World→Prop)(hn:∀a' w',vQ GL w0 L n g K a' w'→next a' w') :
  if Region.wanted o (yielded ops a.tmps) then o.wp P a w next Q∨(o.asks P a w∧LetsOut Q) else next (a.put o.dst undef) w:=by
 obtain⟨os,jS,sG⟩:=ok.op;have kI:=ES r d sG;cases s with
 |run cs ys v rd up σ' h1 h2 h3 h4 h5 h6=>
  rw[if_pos ((Zt ok d h1).1 h2)];left;have cI:=DM trivial h3 kI;have ho:=h4 o os jS w0 L g (hp σ) w a r cI (λ_ _=>rfl) (λ_ _=>rfl);rw[ET up σ σ' h5] at ho;refine ho.upon (λg' u w' hle hr hu=>hn _ _ ⟨g',_,σ',_,hle,hr,?_,h6⟩);rw[ok.dst];exact(d.mono hle).cc ok.lt hu
 |skip cs h1 h2 h3=>
  rw[if_neg (by rw[(Zt ok d h1).2 h2]; simp)];refine hn _ _ ⟨g,_,σ,_,Gm.Le.refl g,r,?_,h3⟩;rw[ok.dst];exact d.cc ok.lt (.aF _ _)
 |lazy cs ys v rd h1 h2 h3 h4=>
  by_cases hh:d_ cs
  ·rw[if_pos ((Zt ok d h1).1 hh)];left;have cI:=DM hh h2 kI;have ho:=h3 hh o os jS w0 L g (hp σ) w a r cI (λ_ _=>rfl) (λ_ h=>by cases h);refine ho.upon (λg' u w' hle hr hu=>hn _ _ ⟨g',_,σ,_,hle,hr,?_,h4⟩);rw[ok.dst];exact(d.mono hle).cc ok.lt (.when _ _ _ _ (λ_=>hu) (λh=>(h hh).elim))
  ·rw[if_neg (by rw[(Zt ok d h1).2 hh]; simp)];refine hn _ _ ⟨g,_,σ,_,Gm.Le.refl g,r,?_,h4⟩;rw[ok.dst];exact d.cc ok.lt (.when _ _ _ _ (λh=>(hh h).elim) (λ_=>rfl))
 |pick cs x y z c p q v h1 hk xm hx hy hz hv h8=>
  rw[xm] at kI;have j8:=jS;rw[hk] at j8;generalize mX:o.op=op at j8;cases j8 with
  |pick oc oa ob=>
   obtain⟨d1,d2,d3,_⟩:=kI;by_cases hh:d_ cs
   ·rw[if_pos ((Zt ok d h1).1 hh)];left;have e1:=QC (zn hh hx d1);have mf:g.den (.bool (bif c then p else q)) (if c then a.eval oa else a.eval ob):=by
     cases c
     ·exact zn ⟨hh,rfl⟩ hz d3
     ·exact zn ⟨hh,rfl⟩ hy d2
    have bL:(execOp a.eval o).run P w=.ok (.value (if c then a.eval oa else a.eval ob)) w:=by
     simp_all [execOp,asBool]
    unfold Oper.wp;rw[bL];refine hn _ _ ⟨g,_,σ,_,Gm.Le.refl g,r,?_,h8⟩;rw[ok.dst];rcases hv with rfl|⟨rfl,rfl⟩
    ·exact d.cc ok.lt (.when _ _ _ _ (λ_=>mf) (λh=>(h hh).elim))
    ·exact d.cc ok.lt mf
   ·rw[if_neg (by rw[(Zt ok d h1).2 hh]; simp)];refine hn _ _ ⟨g,_,σ,_,Gm.Le.refl g,r,?_,h8⟩;rw[ok.dst];rcases hv with rfl|⟨rfl,rfl⟩
    ·exact d.cc ok.lt (.when _ _ _ _ (λh=>(hh h).elim) (λ_=>rfl))
    ·exact(hh (by simp[d_])).elim
 |rel cs ys R h0 h1 h2 h3 h4 h5=>
  rw[if_pos ((Zt ok d h1).1 h2)];left;have cI:=DM trivial h3 kI;refine(h4 o os jS w0 L g w a r cI).upon (λg' x σ' u w' hR hle hr hu=>hn _ _ ⟨g',_,σ',_,hle,hr,?_,h5 x σ' hR⟩);rw[ok.dst];exact(d.mono hle).cc ok.lt hu
theorem X7{fl:Bool}{n:Nat}{ops:Array Oper}{w0:World}{L:Ln}(Q:Exit→Act→World→Prop)(K:Frame→List ab→Log→Prop):∀(ms:List aI) (i:Nat) (ρ:Frame) (σ:List ab) (lg:Log) (g:Gm) (a:Act) (w:World),
  (∀(j:Nat) (m:aI),ms[j]?=some m→∃o,ops[i+j]?=some o∧e_ P GL n ops o m)→gS fl P GL ms ρ σ lg K→br GL w0 L g (hp σ) w→cD n g ρ a →
  (∀a' w',vQ GL w0 L n g K a' w'→Q .normal a' w')→wpOps P ops Q (List.range' i ms.length) a w
 |[],i,ρ,σ,lg,g,a,w,_,hw,r,d,hq=>hq a w ⟨g,ρ,σ,lg,Gm.Le.refl g,r,d,hw⟩
 |m::ms,i,ρ,σ,lg,g,a,w,bV,hw,r,d,hq=>by
  obtain⟨o,ho,ok⟩:=bV 0 m rfl;rw[Nat.add_zero] at ho;simp only[List.length_cons,List.range'_succ,wpOps,ho];refine T7 ok hw r d _ Q (λa' w' ⟨g',ρ',σ',iP,hle,hr,hd,hk⟩=>?_);exact X7 Q K ms (i + 1) ρ' σ' iP g' a' w' (λj m' e=>by
   have:=bV (j+1) m' (by simpa using e)
   rwa [show i + (j + 1)=i + 1 + j by omega] at this) hk hr hd (λa2 w2 ⟨g2,ρ2,σ2,lg2,iU,He,qq,yE⟩=>hq a2 w2 ⟨g2,ρ2,σ2,lg2,hle.trans iU,He,qq,yE⟩)
end
end Go.Ah
end
section
namespace Go.Ah
section
variable {P:Program} {GL:aw}
theorem ZP{σ:List ab}{b:Nat}{row:List aa}(h:ah σ b=.box row):hp σ b=some (.box row):=zm h (by simp)
theorem E'{σ:List ab}{b:Nat}{es:List (aa×aa)}(h:ah σ b=.map es):hp σ b=some (.map es):=zm h (by simp)
theorem Yk{b:Bool}{x:az}{v:aa}{rd:List Nat}{up:List (Nat×ab)}(h:(bif b then x else .stop)=.ok v rd up):b=true∧x=.ok v rd up:=by
 grind
theorem Mx{k:MK}{xs:List aa}{σ:List ab}{v:aa}{rd:List Nat}{up:List (Nat×ab)}(h:pV k xs σ=.ok v rd up):aC P GL k xs (hp σ) v rd up:=by
 cases k<;>simp only[pV,Q9,M7,Zy,tl,QM,Yy,QN,Lj,Ms,Zi,Qn,X9,DY,pd,DI,XE,XS,ZO,Ze,Z5,Yt,Mv,Ql,Yp,YS,Jd,LU,EV,Fb,M5,XN,Lz] at h
 case mv=>split at h<;>cases h; exact Md _ _
 case pick=>split at h<;>cases h; exact Xdr _ _ _ _
 case alloc z=>split at h<;>cases h; exact W5 _ _ _ (vY σ)
 case box=>
  split at h
  ·split at h
   ·rename_i hc; cases h; exact YdJ _ _ hc _ _ (vY σ)
   ·cases h
  ·cases h
 case build z ps=>
  split at h
  ·rename_i hf; cases h; exact Zc2 _ _ _ _ hf _
  ·cases h
 case lh sz n z ps=>
  split at h
  ·rename_i hf;split at h
   ·rename_i hc; cases h; exact Zcw _ _ _ _ _ _ _ hf hc _ _ (vY σ)
   ·cases h
  ·cases h
 case kD sz=>split at h<;>cases h; exact Zb7 _ _
 case load agg n=>
  split at h
  ·split at h
   ·rename_i hb;split at h
    ·rename_i hv; cases h; exact WX _ _ _ _ _ _ _ (ZP hb) hv
    ·cases h
   ·cases h
  ·split at h
   ·rename_i hv; cases h; exact ZbV _ _ _ _ _ _ hv
   ·cases h
  ·cases h
 case store n=>
  split at h
  ·split at h
   ·rename_i hb;split at h
    ·rename_i hc
     replace h:=Yk h; obtain⟨hbq,h⟩:=h
     split at h
     ·rename_i hs; cases h; exact Zc4 _ _ _ _ _ _ _ _ (ZP hb) hc (e9 hbq) hs
     ·cases h
    ·cases h
   ·cases h
  ·cases h
 case nilCheck=>
  split at h<;>cases h
  ·exact YX _ (.inl ⟨_,_,rfl⟩) _
  ·exact YX _ (.inr (.inl ⟨_,_,_,rfl⟩)) _
  ·exact YX _ (.inr (.inr (.inl ⟨_,_,rfl⟩))) _
  ·exact YX _ (.inr (.inr (.inr (.inl ⟨_,_,_,rfl⟩)))) _
  ·exact YX _ (.inr (.inr (.inr (.inr ⟨_,_,rfl⟩)))) _
 case bin op ib=>
  split at h
  ·rename_i k a k' b;split at h
   ·rename_i hv; cases h;cases hk:jc k k'<;>rw[hk] at hv
    ·cases hv
    ·have:=we hk;subst this;exact Xdp _ _ _ _ _ _ hv _
   ·split at h
    ·rename_i hv; cases h; exact Qdp _ _ _ _ _ _ _ hv _
    ·cases h
  ·split at h
   ·cases h; exact Tq _ _ _ _ false rfl _
   ·cases h; exact Tq _ _ _ _ true rfl _
   ·replace h:=Yk h; obtain⟨hk,h⟩:=h
    cases h; exact Ydp _ _ _ hk _
   ·cases h
  ·replace h:=Yk h; obtain⟨hk,h⟩:=h
   subst hk;split at h<;>cases h
   ·exact Ur _ _ _ false rfl _
   ·exact Ur _ _ _ true rfl _
  ·cases h
 case mJ c neq left=>
  split at h
  ·split at h
   ·rename_i hb; cases h; exact W6 _ _ _ _ _ _ hb _
   ·cases h
  ·cases h
 case yp neq ls=>
  split at h
  ·split at h
   ·rename_i hb; cases h; exact XdJ _ _ _ _ _ hb _
   ·cases h
  ·cases h
 case un op=>
  split at h
  ·split at h<;>cases h; exact Xcy _ _
  ·split at h<;>cases h
   ·exact Ycy _ _ _
   ·exact Qcy _ _ _
  ·cases h
 case conv k=>split at h<;>cases h; exact Ydq _ _ _ _
 case h_ t=>split at h<;>cases h; exact WO _ _ _
 case jr fn n=>
  split at h
  ·rename_i ht;cases h;obtain⟨t1,t2,t3⟩:=Mr ht;rename_i a;have hx:xs=a++iB n xs:=by
    rw[Jx];have:a=xs.take n:=by
     apply List.ext_getElem?;intro i;by_cases hi:i<n
     ·rw[t3 i hi,List.getElem?_take_of_lt hi]
     ·rw[List.getElem?_eq_none (by omega),List.getElem?_eq_none (by simp; omega)]
    rw[this,List.take_append_drop]
   have:=Xcx (P:=P) (GL:=GL) fn n a (iB n xs) t1 (hp σ)
   rwa [←hx] at this
  ·cases h
 case makeMap=>split at h<;>cases h; exact Xb7 _ _ (vY σ)
 case fieldAddr off=>
  split at h<;>cases h
  ·exact Mt _ _ _ (.inl ⟨_,_,rfl,rfl⟩) _
  ·exact Mt _ _ _ (.inr (.inl ⟨_,_,_,rfl,rfl⟩)) _
  ·exact Mt _ _ _ (.inr (.inr ⟨_,_,rfl,rfl⟩)) _
 case field agg off n=>
  split at h
  ·split at h
   ·rename_i hv; cases h; exact Zc3 _ _ _ _ _ hv _
   ·cases h
  ·cases h
 case fL len lL=>
  split at h
  ·replace h:=Yk h; obtain⟨hb,h⟩:=h
   cases h; exact LS _ _ _ _ _ _ (gE hb) (.inl ⟨_,_,rfl,rfl⟩) _
  ·replace h:=Yk h; obtain⟨hb,h⟩:=h
   cases h; exact LS _ _ _ _ _ _ (gE hb) (.inr (.inl ⟨_,_,_,rfl,rfl⟩)) _
  ·replace h:=Yk h; obtain⟨hb,h⟩:=h
   cases h; exact LS _ _ _ _ _ _ (gE hb) (.inr (.inr ⟨_,_,rfl,rfl⟩)) _
  ·cases h
 case pO agg len lL=>
  split at h
  ·replace h:=Yk h; obtain⟨hb,h⟩:=h
   split at h
   ·rename_i hv; cases h; exact Xdq _ _ _ _ _ _ _ (gE hb) hv _
   ·cases h
  ·cases h
 case extract i=>
  split at h
  ·split at h
   ·rename_i hv; cases h; rw[Y7] at hv; exact Yb7 _ _ _ hv _
   ·cases h
  ·cases h
 case pR=>
  split at h<;>cases h
  ·exact JO _ _ (.inl ⟨rfl,rfl⟩) _
  ·exact JO _ _ (.inr (.inl ⟨rfl,rfl⟩)) _
  ·exact JO _ _ (.inr (.inr (.inl ⟨_,_,_,_,rfl,rfl⟩))) _
  ·exact JO _ _ (.inr (.inr (.inr ⟨_,_,_,_,rfl,rfl⟩))) _
 case jq=>split at h<;>cases h; exact Qcw _ _
 case pQ n=>split at h<;>cases h; exact Qdq _ _ _
 case lx=>
  split at h
  ·cases h; exact ZbU _
  ·split at h
   ·rename_i hb; cases h; exact YbU _ _ _ (E' hb)
   ·cases h
  ·cases h; exact XbU _ _
  ·cases h
 case min2=>split at h<;>cases h; exact Ydr _ _ _ _ _
 case max2=>split at h<;>cases h; exact Zdr _ _ _ _ _
 case range=>split at h<;>cases h; exact W7 _ _ _ (vY σ)
 case eO t ok z=>
  split at h
  ·rename_i u v0;cases hb:Nat.beq u t with
   |true=>
    rw[hb] at h;have:=e9 hb;subst this;cases h; exact(LX _ _ _ _ 0 _).1
   |false=>
    rw[hb] at h
    replace h:=Yk h; obtain⟨bV,h⟩:=h
    subst bV;cases h;exact(LX _ true _ _ _ _).2.1 (λe=>by rw[e,Nat.beq_refl] at hb; cases hb)
  ·replace h:=Yk h; obtain⟨bV,h⟩:=h
   subst bV;cases h;exact(LX _ true _ .aF 0 _).2.2
  ·cases h
 case fI nw=>
  split at h
  ·replace h:=Yk h; obtain⟨bV,h⟩:=h
   cases h; exact WN _ _ _ _ (R7 bV)
  ·cases h; exact WW _ _
  ·cases h
 all_goals cases h
end
def tj{α β:Type}:List α→(List α→β)→β
 |[],k=>k []
 |x::l,k=>tj l λl=>k (x::l)
theorem Fg{α β:Type}:∀(l:List α) (k:List α→β),tj l k=k l
 |[],_=>rfl
 |x::l,k=>Fg l λl=>k (x::l)
abbrev Cons:=List (List (Bool×Bool)×(Bool×Bool))
def xK(c:Cons):Prop:=∀p∈c,d_ p.1→p.2.1=p.2.2
inductive Lb where
 |done (ρ:Frame) (σ:List ab) (lg:Log) (c:Cons)
 |stop (rest:List aI) (ρ:Frame) (σ:List ab) (lg:Log) (c:Cons)
theorem xK.map{G cs:List (Bool×Bool)}(h:xK (cs.map λq=>(G,q)))(hG:d_ G):d_ cs:=λp hp=>h (G,p) (List.mem_map.2 ⟨p,hp,rfl⟩) hG
def zd(P:Program)(GL:aw)(step:MK→List aa→List ab→az):Prop:=∀ {k:MK} {xs:List aa} {σ:List ab} {v:aa} {rd:List Nat} {up:List (Nat×ab)},step k xs σ=.ok v rd up→aC P GL k xs (hp σ) v rd up
end Go.Ah
end
section
namespace Go.Ah
inductive cN where
 |skip
 |region (id:Nat) (ms:List aI) (draw:Option (List (List Nat)))
 |seq (a b:cN)
 |cond (c:ql) (a b:cN)
 |block (id:Nat) (a:cN)
 |loop (a:cN)
 |exit (id:Nat)
 |scope (a:cN)
 |label (l:Nat)
 |ret
 deriving Inhabited
def XF(lg:Log)(i:Nat):List Nat×List Nat:=(lg[i]?).getD ([],[])
def eZ:List Nat→List Nat→Bool
 |[],_=>true
 |x::a,b=>!(b.contains x)&&eZ a b
def Qq(hd:List (List Nat))(i:Nat):List Nat:=(hd[i]?).getD []
def c9(p q:List Nat×List Nat):Bool:=eZ p.1 q.2&&(eZ p.2 q.1&&eZ p.2 q.2)
def Zu(h:List Nat)(q:List Nat×List Nat):Nat→Log→Bool
 |_,[]=>true
 |i,p::r=>(h.contains i||c9 p q)&&Zu h q (i+1) r
def Xn(hd:List (List Nat))(lg:Log):Bool:=
 (List.range lg.length).all λj=>Zu (Qq hd j) (XF lg j) 0 (lg.take j)
def waits(o:Oper):List Nat:=(o.after.toList.filter (Region.binds .any)).map (·.on)
def gQ(m:aI):List Nat:=(m.xs.filterMap fun | .t n=>some n | .c _=>none)++(match m.guard with|some (s,_)=>[s]|none=>[])
def dP(m:aI):List Nat:=m.dst.toList
def vX(ops:List Oper)(ms:List aI)(hd:List (List Nat)):Bool:=
 let idx:=List.range ms.length
 Nat.beq ops.length ms.length&&Nat.beq hd.length ms.length &&
 (idx.all λj=>(waits (ops.getD j default)).all λi=>Nat.blt i j) &&
 (idx.all λj=>(Qq hd j).all λi=>Nat.blt i j&&((waits (ops.getD j default)).contains i||(waits (ops.getD j default)).any λk=>(Qq hd k).contains i)) &&
 (idx.all λj=>(List.range j).all λi=>
  let a:=ms.getD i default
  let b:=ms.getD j default
  (Qq hd j).contains i || (eZ (dP a) (gQ b) && eZ (dP a) (dP b) && eZ (gQ a) (dP b)))
inductive ck (P:Program) (GL:aw) (n:Nat):Code→cN→Prop
 |skip:ck P GL n .skip .skip
 |region (id:Nat) (ops:Array Oper) (ms:List aI):ops.size=ms.length→(∀(j:Nat) (m:aI),ms[j]?=some m→∃o,ops[j]?=some o∧e_ P GL n ops o m)→ck P GL n (.region id ops false) (.region id ms none)
 |draw (id:Nat) (ops:Array Oper) (ms:List aI) (hd:List (List Nat)):ops.size=ms.length→(∀(j:Nat) (m:aI),ms[j]?=some m→∃o,ops[j]?=some o∧e_ P GL n ops o m)→vX ops.toList ms hd=true →
   ck P GL n (.region id ops true) (.region id ms (some hd))
 |seq (a b:Code) (x y:cN):ck P GL n a x→ck P GL n b y→ck P GL n (.seq a b) (.seq x y)
 |cond (c:Operand) (d:ql) (a b:Code) (x y:cN):jN GL c d→ck P GL n a x→ck P GL n b y→ck P GL n (.cond c a b) (.cond d x y)
 |block (id:Nat) (a:Code) (x:cN):ck P GL n a x→ck P GL n (.block id a) (.block id x)
 |loop (a:Code) (x:cN):ck P GL n a x→ck P GL n (.loop a) (.loop x)
 |exit (id:Nat):ck P GL n (.exit id) (.exit id)
 |scope (a:Code) (x:cN):ck P GL n a x→ck P GL n (.scope a) (.scope x)
 |label (l:Nat):ck P GL n (.label l) (.label l)
 |ret:ck P GL n .ret .ret
inductive En where
 |normal
 |exit (id:Nat)
 |ret
abbrev dK:=En→Frame→List ab→Prop
def ml(GL:aw)(w0:World)(L:Ln)(n:Nat)(g:Gm)(Q:dK):Exit→Act→World→Prop
 |.normal,a,w=>∃g' ρ σ,g.Le g'∧br GL w0 L g' (hp σ) w∧cD n g' ρ a∧Q .normal ρ σ
 |.exit id,a,w=>∃g' ρ σ,g.Le g'∧br GL w0 L g' (hp σ) w∧cD n g' ρ a∧Q (.exit id) ρ σ
 |.ret,a,w=>∃g' ρ σ,g.Le g'∧br GL w0 L g' (hp σ) w∧cD n g' ρ a∧Q .ret ρ σ
 |_,_,_=>False
theorem ml.mono{GL:aw}{w0:World}{L:Ln}{n:Nat}{g g':Gm}(hg:g.Le g'){Q Q':dK}(h:∀e ρ σ,Q e ρ σ→Q' e ρ σ):∀(e:Exit) (a:Act) (w:World),ml GL w0 L n g' Q e a w→ml GL w0 L n g Q' e a w:=by
 intro e a w hl;cases e<;>first
  |exact hl.elim
  |(obtain⟨g2,ρ,σ,h1,h2,h3,h4⟩:=hl; exact⟨g2,ρ,σ,hg.trans h1,h2,h3,h _ _ _ h4⟩)
def gR(P:Program)(GL:aw)(n:Nat)(m:cN)(ρ:Frame)(σ:List ab)(Q:dK):Prop:=
 ∀c,ck P GL n c m→∀(w0:World) (L:Ln) (g:Gm) (a:Act) (w:World),br GL w0 L g (hp σ) w→cD n g ρ a→c.wp P (ml GL w0 L n g Q) a w
def dK.andThen(k:Frame→List ab→Prop)(Q:dK):dK
 |.normal,ρ,σ=>k ρ σ
 |e,ρ,σ=>Q e ρ σ
def dK.inBlock(id:Nat)(Q:dK):dK
 |.exit PE,ρ,σ=>if PE=id then Q .normal ρ σ else Q (.exit PE) ρ σ
 |e,ρ,σ=>Q e ρ σ
section
variable {P:Program} {GL:aw} {n:Nat} {ρ:Frame} {σ:List ab} {Q:dK}
theorem gR.mono{m:cN}{Q':dK}(h:gR P GL n m ρ σ Q)(hq:∀e ρ σ,Q e ρ σ→Q' e ρ σ):gR P GL n m ρ σ Q':=
 λc hc w0 L g a w r d=>wp_mono (h c hc w0 L g a w r d) (ml.mono (Gm.Le.refl g) hq)
theorem Yde(h:Q .normal ρ σ):gR P GL n .skip ρ σ Q:=by
 intro c hc w0 L g a w r d;cases hc with
 |skip=>exact wp_skip ⟨g,ρ,σ,Gm.Le.refl g,r,d,h⟩
theorem Z'{l:Nat}(h:Q .normal ρ σ):gR P GL n (.label l) ρ σ Q:=by
 intro c hc w0 L g a w r d;cases hc with
 |label=>exact wp_label ⟨g,ρ,σ,Gm.Le.refl g,r,d,h⟩
theorem Zde{id:Nat}(h:Q (.exit id) ρ σ):gR P GL n (.exit id) ρ σ Q:=by
 intro c hc w0 L g a w r d;cases hc with
 |exit=>exact wp_exit ⟨g,ρ,σ,Gm.Le.refl g,r,d,h⟩
theorem Ydz(h:Q .ret ρ σ):gR P GL n .ret ρ σ Q:=by
 intro c hc w0 L g a w r d;cases hc with
 |ret=>exact wp_ret ⟨g,ρ,σ,Gm.Le.refl g,r,d,h⟩
theorem Xdz{x y:cN}(h:gR P GL n x ρ σ (dK.andThen (λρ σ=>gR P GL n y ρ σ Q) Q)):gR P GL n (.seq x y) ρ σ Q:=by
 intro c hc w0 L g a w r d;cases hc with
 |seq c1 c2 _ _ h1 h2=>
  refine wp_seq (wp_mono (h c1 h1 w0 L g a w r d) (λe a' w' hl=>?_));cases e with
  |normal=>
   obtain⟨g',ρ',σ',k1,k2,k3,k4⟩:=hl;exact wp_mono (k4 c2 h2 w0 L g' a' w' k2 k3) (ml.mono k1 (λ_ _ _ q=>q))
  |_=>exact hl
theorem Qdd{o:ql}{b:Bool}{x y:cN}(ho:ev ρ o=.bool b)(ht:b=true→gR P GL n x ρ σ Q)(hf:b=false→gR P GL n y ρ σ Q):gR P GL n (.cond o x y) ρ σ Q:=by
 intro c hc w0 L g a w r d;cases hc with
 |cond oc _ c1 c2 _ _ mX h1 h2=>
  have hd:=cD.Wz r d mX;rw[ho] at hd;exact wp_cond_split (QC hd) (λe=>ht e c1 h1 w0 L g a w r d) (λe=>hf e c2 h2 w0 L g a w r d)
theorem XcG{id:Nat}{x:cN}(h:gR P GL n x ρ σ (dK.inBlock id Q)):gR P GL n (.block id x) ρ σ Q:=by
 intro c hc w0 L g a w r d;cases hc with
 |block _ c1 _ h1=>
  refine wp_block (wp_mono (h c1 h1 w0 L g a w r d) (λe a' w' hl=>?_));cases e with
  |exit PE=>
   obtain⟨g',ρ',σ',k1,k2,k3,k4⟩:=hl;simp only[Exit.inBlock];simp only[dK.inBlock] at k4;split
   ·rename_i e; rw[if_pos e] at k4; exact⟨g',ρ',σ',k1,k2,k3,k4⟩
   ·rename_i e; rw[if_neg e] at k4; exact⟨g',ρ',σ',k1,k2,k3,k4⟩
  |_=>exact hl
theorem ZcH{x:cN}(h:gR P GL n x ρ σ Q):gR P GL n (.scope x) ρ σ Q:=by
 intro c hc w0 L g a w r d;cases hc with
 |scope c1 _ h1=>
  refine wp_scope_straight (wp_mono (h c1 h1 w0 L g a w r d) (λe a' w' hl=>?_));cases e with
  |goto l=>exact hl.elim
  |_=>exact hl
theorem Qcp{id:Nat}{ms:List aI}(h:gS false P GL ms ρ σ [] (λρ' σ' _=>Q .normal ρ' σ')):gR P GL n (.region id ms none) ρ σ Q:=by
 intro c hc w0 L g a w r d;cases hc with
 |region _ ops _ dU bV=>
  refine wp_region ?_;rw[List.range_eq_range',dU];refine X7 (n:=n) (w0:=w0) (L:=L) _ (λρ' σ' _=>Q .normal ρ' σ') ms 0 ρ σ [] g a w (λj m e=>by simpa using bV j m e) h r d (λa' w' ⟨g',ρ',σ',iP,k1,k2,k3,k4⟩=>⟨g',ρ',σ',k1,k2,k3,k4⟩)
def sS(ρ ρ':Frame):Prop:=∀t,bB ρ t=bB ρ' t∨bB ρ t=.aF
theorem cD.cy{g:Gm}{ρ ρ':Frame}{a:Act}(h:cD n g ρ' a)(hl:sS ρ ρ'):cD n g ρ a:=
 ⟨h.size,λt=>by
  rcases hl t with e|e
  ·rw[e]; exact h.slot t
  ·rw[e]; exact .aF _ _,h.defers⟩
theorem Xde{m:cN}{ρ':Frame}(hl:sS ρ' ρ)(h:gR P GL n m ρ' σ Q):gR P GL n m ρ σ Q:=
 λc hc w0 L g a w r d=>h c hc w0 L g a w r (d.cy hl)
def DZ:Frame→Frame→Prop
 |[],_=>True
 |(t,v)::r,ρ=>bB ρ t=v∧DZ r ρ
theorem DZ.le:∀ {r ρ:Frame},DZ r ρ→sS r ρ
 |[],_,_,t=>.inr rfl
 |(s,v)::r,ρ,⟨h1,h2⟩,t=>by
  rw[QR];by_cases e:t=s
  ·simp_all
  ·rw[if_neg e]; exact DZ.le h2 t
end
end Go.Ah
end
section
namespace Go.Ah
inductive RV where
 |t (n:Nat)
 |c (s:Nat) (agg:Bool) (n:Nat)
 deriving Inhabited
structure sT where
 np:Nat
 n:Nat
 body:cN
 fF:List RV
 deriving Inhabited
inductive qB (P:Program):ResultVar→RV→Prop
 |tmp (t:Nat):qB P (.tmp t) (.t t)
 |cell (s:Nat) (t:TypeId) (agg:Bool) (n:Nat):eS P t=some agg→size? P t=some n→qB P (.cell s t) (.c s agg n)
structure kX (P:Program) (GL:aw) (f:FuncId) (F:sT):Prop where
 ok:∃fn c,P.funcs[f]?=some fn∧fn.body=some c∧fn.ntmps=F.n∧ck P GL F.n c F.body∧kv (qB P) fn.results.toList F.fF
 np:F.np≤F.n
def qf(ρ:Frame)(σ:List ab):RV→Option aa
 |.t n=>some (bB ρ n)
 |.c s agg n=>match bB ρ s with
  |.ai b j=>match ah σ b with
   |.box row=>aL agg j n row
   |_=>none
  |_=>none
def ni(ρ:Frame)(σ:List ab):List RV→Option (List aa)
 |[]=>some []
 |r::rs=>match qf ρ σ r,ni ρ σ rs with
  |some v,some vs=>some (v::vs)
  |_,_=>none
def og:List aa→aa
 |[v]=>v
 |vs=>.bn vs
def gA(rs:List RV)(ρ:Frame)(σ:List ab):Option aa:=
 match ni ρ σ rs with
 |some vs=>some (og vs)
 |none=>none
def Fe:Nat→List aa→Frame
 |_,[]=>[]
 |i,x::xs=>(i,x)::Fe (i+1) xs
def dS(xs:List aa):Frame:=Fe 0 xs
theorem RB:∀(xs:List aa) (i t:Nat),bB (Fe i xs) t=if i≤t then (xs[t-i]?).getD .aF else .aF
 |[],i,t=>by simp[Fe,bB]
 |x::xs,i,t=>by
  simp only[Fe,QR];by_cases h:t=i
  ·subst h; simp
  ·rw[if_neg h,RB xs (i+1) t]
   grind
section
variable {P:Program} {GL:aw}
theorem Y1{g:Gm}{xs:List aa}{vs:List Value}(d:df g xs vs){n:Nat}(hn:xs.length≤n):cD n g (dS xs) { tmps:=vs.toArray++Array.replicate (n-vs.toArray.size) undef,defers:=[] }:=by
 have hl:=d.length;refine⟨by simp; omega,λt=>?_,rfl⟩;unfold dS;rw[RB];rw[if_pos (Nat.zero_le t),Nat.sub_zero];by_cases ht:t<xs.length
 ·have hx:xs[t]?=some xs[t]:=by simp[ht]
  have hv:vs[t]?=some (vs[t]'(by omega)):=by simp[show t<vs.length by omega]
  rw[hx];have:(vs.toArray++Array.replicate (n-vs.toArray.size) undef).getD t undef=vs[t]'(by omega):=by
   rw[Array.getD_eq_getD_getElem?,Array.getElem?_append_left (by grind)];simp[show t<vs.length by omega]
  rw[this];exact d.get t _ _ hx hv
 ·rw[List.getElem?_eq_none (by omega)];exact .aF _ _
def E1(a:Act)(r:ResultVar):Sem Value:=match r with
 |.tmp t=>pure (a.tmps.getD t undef)
 |.cell s t=>do loadVar t (←asAddr (a.tmps.getD s undef))
theorem T8{n:Nat}{w0:World}{L:Ln}{g:Gm}{ρ:Frame}{σ:List ab}{a:Act}{w:World}(r:br GL w0 L g (hp σ) w)(d:cD n g ρ a):∀ {rs:List ResultVar} {qs:List RV} {vs:List aa},kv (qB P) rs qs→ni ρ σ qs=some vs →
  ∃us:List Value,(rs.mapM (E1 a)).run P w=.ok us w∧df g vs us
 |[],[],vs,_,h=>by simp only[ni] at h; cases h; exact⟨[],rfl,trivial⟩
 |rv::rs,q::qs,vs,⟨h1,h2⟩,h=>by
  simp only[ni] at h;cases e1:qf ρ σ q with
  |none=>simp[e1] at h
  |some v=>
   cases e2:ni ρ σ qs with
   |none=>simp[e1,e2] at h
   |some IX=>
    simp only[e1,e2] at h; cases h;obtain⟨us,k1,k2⟩:=T8 r d h2 e2;cases h1 with
    |tmp t=>
     simp only[qf] at e1; cases e1;refine⟨a.tmps.getD t undef::us,?_,d.slot t,k2⟩;simp_all [E1]
    |cell s t agg m ha hm=>
     simp only[qf] at e1;have hs:=d.slot s;split at e1
     ·rename_i b j hb;rw[hb] at hs;split at e1
      ·rename_i row dT;have bZ:=ZP dT;generalize hu:a.tmps.getD s undef=u0 at hs;cases hs with
       |ai _ _ _ cb ec=>
       cases bP:cb.cS with
       |true=>have:=r.aX b _ cb bZ rfl ec bP; cases this
       |false=>
       obtain⟨_,_,o',eI,arr,T,rfl,dU,cI⟩:=r.own b _ cb bZ rfl ec bP;obtain⟨p1,p2⟩:=EH (g:=g) e1 (by omega) cI;obtain⟨l1,l2⟩:=My (P:=P) ha hm (T:=T) (fr:=(0,0)) (Z3 eI) j;have:∃u,(loadVar t ⟨cb.aE,j,none⟩).run P w=.ok u w∧g.den v u:=by
        cases agg<;>grind
       obtain⟨u,q1,q2⟩:=this;refine⟨u::us,?_,q2,k2⟩;simp_all [E1,asAddr]
      ·cases e1
     ·cases e1
theorem DB{n:Nat}{w0:World}{L:Ln}{g:Gm}{ρ:Frame}{σ:List ab}{a:Act}{w:World}(r:br GL w0 L g (hp σ) w)(d:cD n g ρ a){fn:Func}{qs:List RV}{v:aa}(h:kv (qB P) fn.results.toList qs)(hv:gA qs ρ σ=some v) :
  ∃u,(results fn a.tmps).run P w=.ok u w∧g.den v u:=by
 unfold gA at hv;cases hl:ni ρ σ qs with
 |none=>simp[hl] at hv
 |some vs=>
  simp only[hl] at hv; cases hv;obtain⟨us,k1,k2⟩:=T8 (P:=P) r d h hl;have hm:(fn.results.mapM (E1 a)).run P w=.ok us.toArray w:=by
   simp_all [Array.mapM_eq_mapM_toList]
  have hlen:=k2.length;refine⟨if h:us.toArray.size=1 then us.toArray[0] else .tuple us.toArray,?_,?_⟩
  ·unfold results;rw[Sem.run_bind];refine Eq.trans (congrArg (λr=>Result.andThen r _) (Eq.trans (?_:_=(fn.results.mapM (E1 a)).run P w) hm)) rfl
   congr 2
  ·cases vs with
   |nil=>
    have:us=[]:=List.length_eq_zero_iff.1 (by simpa using hlen.symm);subst this;exact .bn _ _ _ rfl (by simp)
   |cons x xs=>
    cases us with
    |nil=>simp at hlen
    |cons u us=>
     cases xs with
     |nil=>
      have:us=[]:=List.length_eq_zero_iff.1 (by simpa using hlen.symm);subst this;exact k2.1
     |cons y ys=>
      rw[dif_neg (by grind)];exact .bn _ _ _ (by simpa using hlen.symm) (λi z z' e1 e2=>k2.get i z z' e1 (by simpa using e2))
theorem UL{f:FuncId}{F:sT}(ok:kX P GL f F){xs:List aa}(hn:xs.length=F.np){v:aa}(hv:v.ro=true)
 (h:gR P GL F.n F.body (dS xs) [] (λe ρ σ=>(e=.normal∨e=.ret)∧gA F.fF ρ σ=some v)):dM P GL f xs v:=by
 intro w M vs hM hg hx;obtain⟨fn,c,h1,h2,h3,h4,h5⟩:=ok.ok;have r0:=br.start (GL:=GL) w M hM hg;have hh:hp []=nf:=by funext b; simp[hp,nf]
 rw[←hh] at r0;have d0:=Y1 hx (n:=F.n) (by rw[hn]; exact ok.np);refine calls_of_wp h1 h2 ?_;rw[h3];refine wp_mono (h c h4 w ⟨[],M⟩ _ _ w r0 d0) (λe a' w' hl=>?_);have fin:∀g' ρ σ,(⟨M,bg⟩:Gm).Le g'→br GL w ⟨[],M⟩ g' (hp σ) w'→cD F.n g' ρ a'→gA F.fF ρ σ=some v→∃u,(results fn a'.tmps).run P w'=.ok u w'∧(∃u',Ending.returned u=.returned u'∧gY ⟨[],M⟩ w w'∧∃M',gZ M M'∧(∀b o,M' b=some o→w'.heap[b]?=some o)∧(∀b o,M' b=some o→M b=some o∨w.heap.size≤b)∧Den M' bg v u'):=by
  intro g' ρ σ hle hr hd mZ;obtain⟨u,k1,k2⟩:=DB hr hd h5 mZ;exact⟨u,k1,u,rfl,hr.keeps,g'.M,hle.m,hr.aR,λb o e=>by
   rcases hr.src b o e with q | q | q <;> simp_all,Den.ro k2 hv _⟩
 cases e with
 |normal=>obtain⟨g',ρ,σ,k1,k2,k3,k4⟩:=hl; exact⟨k3.defers,fin g' ρ σ k1 k2 k3 k4.2⟩
 |ret=>obtain⟨g',ρ,σ,k1,k2,k3,k4⟩:=hl; exact⟨k3.defers,fin g' ρ σ k1 k2 k3 k4.2⟩
 |exit id=>obtain⟨g',ρ,σ,k1,k2,k3,k4⟩:=hl; rcases k4.1 with q|q<;>cases q
 |_=>exact hl.elim
theorem Mu{f:FuncId}{F:sT}(ok:kX P GL f F){xs:List aa}(hn:xs.length=F.np){σ:List ab}{R:aa→List ab→Prop}
 (h:gR P GL F.n F.body (dS xs) σ (λe ρ σ'=>(e=.normal∨e=.ret)∧∃v,gA F.fF ρ σ'=some v∧R v σ')) :
  ∀(w0:World) (L:Ln) (g:Gm) (w:World) (vs:List Value),br GL w0 L g (hp σ) w→df g xs vs→Calls P f vs.toArray w λe xI=>∃u,e=.returned u∧∃g' x σ',R x σ'∧g.Le g'∧br GL w0 L g' (hp σ') xI∧g'.den x u:=by
 intro w0 L g w vs r hx;obtain⟨fn,c,h1,h2,h3,h4,h5⟩:=ok.ok;have d0:=Y1 hx (n:=F.n) (by rw[hn]; exact ok.np);refine calls_of_wp h1 h2 ?_;rw[h3];refine wp_mono (h c h4 w0 L g _ w r d0) (λe a' w' hl=>?_);have fin:∀g' ρ σ',g.Le g'→br GL w0 L g' (hp σ') w'→cD F.n g' ρ a'→(∃v,gA F.fF ρ σ'=some v∧R v σ')→∃u,(results fn a'.tmps).run P w'=.ok u w'∧(∃u',Ending.returned u=.returned u'∧∃g' x σ',R x σ'∧g.Le g'∧br GL w0 L g' (hp σ') w'∧g'.den x u'):=by
  rintro g' ρ σ' hle hr hd ⟨v,mZ,hR⟩;obtain⟨u,k1,k2⟩:=DB hr hd h5 mZ
  grind
 cases e with
 |normal=>obtain⟨g',ρ,σ',k1,k2,k3,k4⟩:=hl; exact⟨k3.defers,fin g' ρ σ' k1 k2 k3 k4.2⟩
 |ret=>obtain⟨g',ρ,σ',k1,k2,k3,k4⟩:=hl; exact⟨k3.defers,fin g' ρ σ' k1 k2 k3 k4.2⟩
 |exit id=>obtain⟨g',ρ,σ',k1,k2,k3,k4⟩:=hl; rcases k4.1 with q|q<;>cases q
 |_=>exact hl.elim
end
end Go.Ah
end
section
namespace Go.Ah
section
variable {P:Program} {GL:aw}
theorem br.iK{w0:World}{L:Ln}{g:Gm}{h:Hp}{w:World}(r:br GL w0 L g h w){b sz:Nat}{rs:List (List aa)}(hb:h b=some (.rows sz rs))(k:Nat):br GL w0 L g (eA h b (.rows sz (rs.take k))) w:=by
 have back:∀n x,eA h b (.rows sz (rs.take k)) n=some x→x.live=true→∃y,h n=some y∧y.live=true:=by
  intro n x en iE;by_cases hn:n=b
  ·subst hn; exact⟨_,hb,rfl⟩
  ·rw[Yq _ _ hn] at en; exact⟨x,en,iE⟩
 exact {
  keeps:=r.keeps
  aR:=r.aR
  src:=r.src
  bY:=r.bY
  dD:=λn en=>by
   by_cases hn:n=b
   ·subst hn; rw[Qu] at en; cases en
   ·rw[Yq _ _ hn] at en; exact r.dD n en
  iM:=λn x en=>by
   by_cases hn:n=b
   ·subst hn; exact r.iM n _ hb
   ·rw[Yq _ _ hn] at en; exact r.iM n x en
  own:=λn x cb en iE ec hv=>by
   by_cases hn:n=b
   ·subst hn; rw[Qu] at en; cases en;obtain⟨k1,k2,o,k3,k4,arr,T,k5,k6,k7,k8,k9⟩:=r.own n _ cb hb rfl ec hv;refine⟨k1,k2,o,k3,k4,arr,T,k5,k6,?_,λi row e=>?_,λi row j x v e1 e2 e3=>?_⟩
    ·refine Nat.le_trans (Nat.add_le_add_left (Nat.mul_le_mul_right _ ?_) _) k7;simp; omega
    ·rw[List.getElem?_take] at e;split at e
     ·exact k8 i row e
     ·cases e
    ·rw[List.getElem?_take] at e1;split at e1
     ·exact k9 i row j x v e1 e2 e3
     ·cases e1
   ·rw[Yq _ _ hn] at en; exact r.own n x cb en iE ec hv
  aX:=λn x cb en iE ec hv=>by
   by_cases hn:n=b
   ·subst hn; rw[Qu] at en; cases en;have:=r.aX n _ cb hb rfl ec hv;cases this;simp
   ·rw[Yq _ _ hn] at en; exact r.aX n x cb en iE ec hv
  inj:=λn n' x x' qo cb2 e1 e2 l1 l2 c1 c2 v1 v2 gu=>by
   obtain⟨y1,f1,g1⟩:=back n x e1 l1;obtain⟨y2,f2,g2⟩:=back n' x' e2 l2;exact r.inj n n' y1 y2 qo cb2 f1 f2 g1 g2 c1 c2 v1 v2 gu }
def over(p:Nat)(ys rs:List (List aa)):List (List aa):=rs.take p++ys++rs.drop (p+ys.length)
theorem Up{p:Nat}{ys rs:List (List aa)}(hp:p+ys.length≤rs.length)(i:Nat):(over p ys rs)[i]?=if p≤i∧i<p+ys.length then ys[i-p]? else rs[i]?:=by
 unfold over;by_cases h1:i<p<;>grind
theorem Yb5{p:Nat}{ys rs:List (List aa)}(hp:p+ys.length≤rs.length):(over p ys rs).length=rs.length:=by
 unfold over; simp; omega
theorem U5{g:Gm}{n:Nat}{ys:List (List aa)}{newv:Array Value}(jK:n≠0)(ra:kY g n ys newv)(ny:∀row∈ys,∀x∈row,aa.cell x=true):∀u∈newv.toList,u.oneCell'=true:=by
 intro u hu;obtain⟨q,hq⟩:=List.mem_iff_getElem?.1 hu;rw[Array.getElem?_toList] at hq;have Ae:q<ys.length*n:=by rw[←ra.1]; grind
 have Eb:0<n:=Nat.pos_of_ne_zero jK;have hi:q/n<ys.length:=(Nat.div_lt_iff_lt_mul Eb).2 Ae;have pH:ys[q/n]?=some ys[q/n]:=by simp[hi]
 have O2:=ra.2.1 _ _ pH;have hj:q%n<ys[q/n].length:=by rw[O2]; exact Nat.mod_lt _ Eb
 refine Kc (ny _ (List.getElem_mem hi) _ (List.getElem_mem hj)) (ra.2.2 (q/n) _ (q%n) _ u pH (by simp[hj]) ?_)
 grind [Nat.div_add_mod]
theorem br.pY{w0:World}{L:Ln}{g:Gm}{h:Hp}{w:World}(r:br GL w0 L g h w){b n:Nat}{rs ys:List (List aa)}{cb:CB}{newv:Array Value}(hb:h b=some (.rows n rs))(ec:g.c b=some cb)(hv:cb.cS=false){p:Nat}(hp:p+ys.length≤rs.length)
 (ra:kY g n ys newv)(jm:∀u∈newv.toList,u.oneCell'=true) :
  ∃w',(storeCells ⟨cb.aE,cb.base+p*n,none⟩ newv.toList).run P w=.ok () w'∧br GL w0 L g (eA h b (.rows n (over p ys rs))) w':=by
 obtain⟨z1,arr,T,eI,hs,iU,dT,cI⟩:=r.eQ hb ec hv;obtain⟨fD,s1,s2,s3⟩:=Li (P:=P) eI newv.toList jm (j:=cb.base + p * n) (by
  intro _;rw[Array.length_toList (xs:=newv),ra.1,Nat.add_assoc,← Nat.add_mul,hs];exact Nat.le_trans (Nat.add_le_add_left (Nat.mul_le_mul_right n hp) _) iU)
 refine⟨_,s1,r.write hb rfl ec hv rfl (w':=w.setRow cb.aE fD) rfl rfl rfl (Kk w _ arr fD T (0,0) eI) ⟨z1,fD,T,rfl,by rw[s2,hs],by rw[Yb5 hp]; exact iU,λi row q=>?_,λi row j x0 u q1 q2 q3=>?_⟩⟩
 ·rw[Up hp] at q;split at q
  ·exact ra.2.1 _ row q
  ·exact dT i row q
 ·rw[Up hp] at q1;rw[s3,Array.length_toList (xs:=newv),ra.1] at q3;split at q1
  ·rename_i hi;have hj:j<n:=by rw[←ra.2.1 _ row q1]; grind
   have h5:p*n≤i*n:=Nat.mul_le_mul_right n hi.1;have h6:(i-p+1)*n≤ys.length*n:=Nat.mul_le_mul_right n (by omega);rw[Nat.succ_mul,Nat.sub_mul] at h6;rw[if_pos (by omega)] at q3;refine ra.2.2 _ row j x0 u q1 q2 ?_
   grind
  ·rename_i hi;have hj:j<n:=by grind
   refine cI i row j x0 u q1 q2 ?_;rw[if_neg] at q3
   ·exact q3
   ·rintro⟨k1,k2⟩;apply hi;by_cases hip:i<p
    ·have:(i+1)*n≤p*n:=Nat.mul_le_mul_right n hip;rw[Nat.succ_mul] at this; omega
    ·refine⟨by omega,?_⟩;by_cases vD:i<p+ys.length
     ·exact vD
     ·have:(p+ys.length)*n≤i*n:=Nat.mul_le_mul_right n (by omega);rw[Nat.add_mul] at this; omega
theorem JX{w0:World}{L:Ln}{g:Gm}{h:Hp}{w:World}(r:br GL w0 L g h w){b n off cap:Nat}{rs:List (List aa)}{cb:CB}(hb:h b=some (.rows n rs))(jK:n≠0)(ec:g.c b=some cb)(hv:cb.cS=false)(h2:cb.base+(off+cap)*cb.sz=cb.Du):rs.length≤off+cap:=by
 obtain⟨z1,arr,T,eI,hs,iU,_⟩:=r.eQ hb ec hv;rw[z1] at h2;rw[←h2] at iU;exact Nat.le_of_mul_le_mul_right (Nat.le_of_add_le_add_left iU) (Nat.pos_of_ne_zero jK)
theorem XbE(n by_:Nat)(z:List aa)(y:aa)(b off len:Nat)(ex:Bool)(rs ys:List (List aa))(rd:List Nat)(h0:Hp)(hb:h0 b=some (.rows n rs))(uL:g_ h0 n y ys rd)
 (ny:∀row∈ys,∀x∈row,aa.cell x=true)(ct:off+len+ys.length≤rs.length) :
  aC P GL (.append n by_ z) [.sl b off len ex,y] h0 (.sl b off (len+ys.length) false) rd [(b,.rows n (over (off+len) ys rs))]:=by
 intro o os hc w0 L g h w a r hx cH gy;have bZ:h b=some (.rows n rs):=by simp_all
 generalize ho:o.op=op at hc;cases hc with
 |append t t' e ox oy _ _ v _ ht Aj dU rU hz qZ dt ln jK=>
  obtain⟨d,hd,o0⟩:=Aj;obtain⟨d1,d2,_⟩:=hx;generalize mh:a.eval ox=u1 at d1;generalize pL:a.eval oy=u2 at d2;obtain⟨p2,zy,newv,e2,f2,o9,_⟩:=QX (P:=P) r uL cH d2;have gL:(Builtin.lenOf u2).run P w=.ok ys.length w:=by rw[e2]; rfl
  rw[Vi];cases d1 with
  |nO _ _ _ cb p ec hv=>
   have yL:=(r.fR bZ ec hv).2;subst yL;have pN:ys=[]:=by simpa using ct
   subst pN;have wY:newv.toList=[]:=by have:=o9.1; simp at this; simp[this]
   have bL:(Builtin.append_ #[t,t'] o.type #[.slice p 0 0,u2]).run P w=.ok (.slice p 0 0) w:=by
    obtain⟨k1,k2⟩:=(ZL ht hd o0 dU rU hz ln (base:=p) (len:=0) (cap:=0) (newv:=newv) gL o.type).1 (by simp) f2;cases p with
    |none=>exact k1 rfl
    |some ad=>exact k2 ad w rfl (by rw[wY]; rfl)
   rw[QK ho mh pL bL];refine⟨g,Gm.Le.refl _,?_,.nO _ _ _ cb _ ec hv⟩;have:=r.iK bZ 0;exact this
  |sle _ _ _ _ cb p ec hv g1 g2=>
   have oF:=JX (off:=off) (cap:=0) r bZ jK ec hv (by simpa using g2);have pN:ys=[]:=List.length_eq_zero_iff.1 (by omega);subst pN;have wY:newv.toList=[]:=by have:=o9.1; simp at this; simp[this]
   have bL:(Builtin.append_ #[t,t'] o.type #[.slice p 0 0,u2]).run P w=.ok (.slice p 0 0) w:=by
    obtain⟨k1,k2⟩:=(ZL ht hd o0 dU rU hz ln (base:=p) (len:=0) (cap:=0) (newv:=newv) gL o.type).1 (by simp) f2;cases p with
    |none=>exact k1 rfl
    |some ad=>exact k2 ad w rfl (by rw[wY]; rfl)
   rw[QK ho mh pL bL];refine⟨g,Gm.Le.refl _,?_,.sle _ _ _ _ cb _ ec hv g1 g2⟩;have yH:over (off+0) [] rs=rs.take rs.length:=by simp[over]
   rw[yH];exact r.iK bZ rs.length
  |sl _ _ _ _ _ cb cap ec hv h1 h2 h3=>
   have oF:=JX r bZ jK ec hv h2;have z1:=(r.eQ bZ ec hv).1;obtain⟨w',s1,s2⟩:=r.pY (P:=P) bZ ec hv ct o9 (U5 jK o9 ny);have bL:=((ZL ht hd o0 dU rU hz ln (base:=some ⟨cb.aE,cb.base + off * cb.sz,none⟩) (len:=len) (cap:=cap) (newv:=newv) gL o.type).1 (by omega) f2).2 ⟨cb.aE,cb.base + off * cb.sz,none⟩ w' rfl (by
    simp_all [YT,Nat.add_assoc,Nat.add_mul])
   rw[QK ho mh pL bL];exact⟨g,Gm.Le.refl _,s2,.sl _ _ _ _ _ cb cap ec hv (by omega) h2 (by simp)⟩
theorem W3(n by_:Nat)(z:List aa)(y:aa)(b len:Nat)(ex:Bool)(rs ys:List (List aa))(rd:List Nat)(h0:Hp)(nb:Nat)(hn:h0 nb=none)(hb:h0 b=some (.rows n rs))(hle:len≤rs.length)(uL:g_ h0 n y ys rd)(Pp:b∉rd)
 (ny:∀row∈ys,∀x∈row,aa.cell x=true)(ct:(2*(len+ys.length)+192)*by_≤2 ^ 48) :
  aC P GL (.append n by_ z) [.sl b 0 len ex,y] h0 (.sl nb 0 (len+ys.length) false) rd [(b,.dead),(nb,.rows n (rs.take len++ys))]:=by
 intro o os hc w0 L g h w a r hx cH gy;have bZ:h b=some (.rows n rs):=by simp_all
 have Pa:h nb=none:=by simp_all
 have cL:nb≠b:=by grind
 have hl:(rs.take len).length=len:=by simp; omega
 have r':=r.iK bZ len;have hy1:g_ (eA h b (.rows n (rs.take len))) n y ys rd:=by
  cases uL with
  |row ex nn rows=>exact .row _ _ _
  |aq=>exact .aq
  |cK=>exact .cK
  |own b2 aau m9 yq rs2 ll iU=>
   have aae:b2≠b:=by rintro rfl; simp at Pp
   exact .own _ _ _ _ _ (by simp_all [Yq]) iU
 have:=S2 (P:=P) (GL:=GL) n by_ z (.sl b 0 len ex) y (rs.take len) ys rd [(b,.dead)] (eA h b (.rows n (rs.take len))) nb (by rw[Yq _ _ cL]; exact Pa) (by have:=lH.own (h0:=eA h b (.rows n (rs.take len))) (sz:=n) b 0 len ex _ (Qu _ _ _) (by rw[hl]; omega); simpa using this) hy1 ny (by rw[hl]; exact ct)
  o os hc w0 L g _ w a r' hx (λ_ _=>rfl) (λ_ _=>rfl)
 rw[hl] at this;have e:cq (eA h b (.rows n (rs.take len))) ([(b,.dead)]++[(nb,.rows n (rs.take len++ys))])=cq h [(b,.dead),(nb,.rows n (rs.take len++ys))]:=by
  funext q
  simp_all [cq,eA]
 rw[e] at this;exact this
theorem Xc2(n:Nat)(z:List aa)(b off len:Nat)(ex:Bool)(rs:List (List aa))(h0:Hp)(hb:h0 b=some (.rows n rs))(ct:off+len≤rs.length) :
  aC P GL (.gG n z) [.sl b off len ex] h0 .aF [] [(b,.rows n (over off (List.replicate len z) rs))]:=by
 intro o os hc w0 L g h w a r hx cH gy;have bZ:h b=some (.rows n rs):=by simp_all
 generalize ho:o.op=op at hc;cases hc with
 |gG t e ox _ v _ he dU jK hz qZ dt=>
  obtain⟨d1,_⟩:=hx;generalize mh:a.eval ox=u1 at d1;obtain⟨Ee,hzd⟩:=ZT (M:=g.M) (c:=g.c) dt;have aas:z.length=n:=by rw[←Ee]; simpa using qZ
  have oL:P.underlying t=some (.slice e):=by
   grind [eg]
  have out:∀w',(Builtin.clear_ #[t] o.type #[u1]).run P w=.ok (.tuple #[]) w'→(execOp a.eval o).run P w=.ok (.value (.tuple #[])) w':=by
   simp_all [execOp,resolve,invoke,builtin]
  rw[Vi];have wZ:(List.replicate len z).length=len:=by simp
  cases d1 with
  |nO _ _ _ cb p ec hv=>
   have yL:=(r.fR bZ ec hv).2;subst yL;rw[out w (by
    cases p <;> simp[Builtin.clear_,Sem.run_bind,run_underlying oL])]
   exact⟨g,Gm.Le.refl _,r.iK bZ 0,.aF _ _⟩
  |sle _ _ _ _ cb p ec hv _ _=>
   rw[out w (by
    cases p <;> simp[Builtin.clear_,Sem.run_bind,run_underlying oL])]
   refine⟨g,Gm.Le.refl _,?_,.aF _ _⟩;have yH:over off (List.replicate 0 z) rs=rs.take rs.length:=by simp[over]
   rw[yH];exact r.iK bZ rs.length
  |sl _ _ _ _ _ cb cap ec hv h1 h2 h3=>
   have z1:=(r.eQ bZ ec hv).1;have hv0:v.cells.size≠0:=by rw[qZ]; exact jK
   have ra:kY g n (List.replicate len z) (Builtin.zeroCells v.cells len):=by
    refine⟨by rw[TO,qZ,wZ],λi row q=>?_,λi row j x u q1 q2 q3=>?_⟩
    ·grind
    ·rw[List.getElem?_replicate] at q1;split at q1
     ·rename_i hi;cases q1;have hj:j<n:=by grind
      have cp:i*n+j<len*n:=by
       have:(i+1)*n≤len*n:=Nat.mul_le_mul_right n hi;rw[Nat.succ_mul] at this; omega
      have aak:(i*n+j)%n=j:=by simp_all [Nat.mod_eq_of_lt]
      have hq:(Builtin.zeroCells v.cells len)[i*n+j]?=v.cells[j]?:=by
       simp_all [Builtin.zeroCells]
      rw[hq] at q3;exact hzd j x u q2 (by simpa using q3)
     ·cases q1
   have hcz:=Je dt;obtain⟨w',s1,s2⟩:=r.pY (P:=P) bZ ec hv (p:=off) (ys:=List.replicate len z) (by rw[wZ]; exact ct) ra (U5 jK ra (λrow dT x hx=>by
    simp_all))
   by_cases wT:len=0
   ·subst wT;rw[out w (by simp_all [Builtin.clear_,run_underlying])];refine⟨g,Gm.Le.refl _,?_,.aF _ _⟩;have yH:over off (List.replicate 0 z) rs=rs.take rs.length:=by
     simp[over]
    rw[yH];exact r.iK bZ rs.length
   ·rw[out w' (by
     cases len with
     |zero=>exact(wT rfl).elim
     |succ len=>
      rw[z1];simp only[Builtin.clear_,Sem.run_bind,Sem.run_pure,Result.andThen_ok];simp_all [run_underlying,Z8])]
    exact⟨g,Gm.Le.refl _,s2,.aF _ _⟩
theorem LQ(n:Nat)(z:List aa)(x:aa)(h0:Hp)(qu:x=.aq∨x=.cK∨∃e nn sz,x=.ax e nn sz []):aC P GL (.gG n z) [x] h0 .aF [] []:=by
 intro o os hc w0 L g h w a r hx cH gy;generalize ho:o.op=op at hc;cases hc with
 |gG t e ox _ v _ he dU jK hz qZ dt=>
  obtain⟨d1,_⟩:=hx;generalize mh:a.eval ox=u1 at d1;have oL:P.underlying t=some (.slice e):=by
   grind [eg]
  have Pu:∃p cap,u1=.slice p 0 cap:=by
   rcases qu with rfl|rfl|⟨_,_,_,rfl⟩
   ·cases d1; exact⟨_,_,rfl⟩
   ·cases d1; exact⟨_,_,rfl⟩
   ·cases d1; exact⟨_,_,rfl⟩
  obtain⟨p,cap,rfl⟩:=Pu;have bL:(execOp a.eval o).run P w=.ok (.value (.tuple #[])) w:=by
   simp only[execOp,ho,resolve,Sem.run_bind,Sem.run_pure,Result.andThen_ok,invoke,builtin];cases p<;>simp[mh,Builtin.clear_,Sem.run_bind,run_underlying oL]
  rw[bL];exact Out.here r (.aF _ _)
end
end Go.Ah
end
section
namespace Go.Ah
section
variable {P:Program} {GL:aw}
theorem Xbd(s:List UInt8)(k:IntKind)(i:Int)(h1:0≤i)(h2:i≤s.length)(h0:Hp) :
  aC P GL (.ej true false) [.str s,.int k i] h0 (.str (s.drop i.toNat)) [] []:=by
 intro o os hc w0 L g hp w a r hx _ _;obtain⟨t,x,lo,hi,ho,fj,eX,rfl,hu⟩:=M6 hc;obtain⟨lo,rfl⟩:∃z,lo=some z:=Option.isSome_iff_exists.1 fj.symm;obtain rfl:hi=none:=by cases hi<;>first|rfl|cases eX
 obtain⟨d,d2,_⟩:=hx;obtain⟨s',e1,rfl⟩:=Q8 d;have dU:s'.data.toList.length=s'.size:=by simp
 have bL:(execOp a.eval o).run P w=.ok (.value (.string (s'.extract i.toNat s'.size))) w:=by
  simp only[execOp,ho,e1,Instr.sliceAt,Instr.slice,Sem.run_bind,run_underlying hu,Result.andThen_ok,Option.map_some,Xp d2,Option.map_none,Option.isSome_none,Bool.false_eq_true,if_false,Instr.sliceBounds,Sem.run_pure,Qk k i s'.size _ h1 (by omega)]
 rw[bL];have:s'.data.toList.drop i.toNat=(s'.extract i.toNat s'.size).data.toList:=by
  simp[List.take_of_length_le]
 rw[this];exact Out.here r (.str _ _)
theorem Ybd(s:List UInt8)(k:IntKind)(i:Int)(h1:0≤i)(h2:i≤s.length)(h0:Hp) :
  aC P GL (.ej false true) [.str s,.int k i] h0 (.str (s.take i.toNat)) [] []:=by
 intro o os hc w0 L g hp w a r hx _ _;obtain⟨t,x,lo,hi,ho,fj,eX,rfl,hu⟩:=M6 hc;obtain rfl:lo=none:=by cases lo<;>first|rfl|cases fj
 obtain⟨hi,rfl⟩:∃z,hi=some z:=Option.isSome_iff_exists.1 eX.symm;obtain⟨d,d2,_⟩:=hx;obtain⟨s',e1,rfl⟩:=Q8 d;have dU:s'.data.toList.length=s'.size:=by simp
 have bL:(execOp a.eval o).run P w=.ok (.value (.string (s'.extract 0 i.toNat))) w:=by
  simp only[execOp,ho,e1,Instr.sliceAt,Instr.slice,Sem.run_bind,run_underlying hu,Result.andThen_ok,Option.map_some,Xp d2,Option.map_none,Option.isSome_none,Bool.false_eq_true,if_false,Instr.sliceBounds,Sem.run_pure,Qk k i s'.size _ h1 (by omega)]
 rw[bL];have:s'.data.toList.take i.toNat=(s'.extract 0 i.toNat).data.toList:=by
  simp
 rw[this];exact Out.here r (.str _ _)
theorem TN(n by_:Nat)(z:List aa)(x y:aa)(rd:List Nat)(h0:Hp)(qu:x=.aq∨x=.cK∨(∃b o l e,x=.sl b o l e)∨∃e nn sz rows,x=.ax e nn sz rows)(uL:g_ h0 n y [] rd) :
  aC P GL (.append n by_ z) [x,y] h0 x rd []:=by
 intro o os hc w0 L g h w a r hx cH _;generalize ho:o.op=op at hc;cases hc with
 |append t t' e ox oy _ _ v _ ht Aj dU rU hz qZ dt ln jK=>
  obtain⟨d,hd,o0⟩:=Aj;obtain⟨d1,d2,_⟩:=hx;generalize mh:a.eval ox=u1 at d1;generalize pL:a.eval oy=u2 at d2;obtain⟨p1,oO,pj,e1,hle⟩:∃p len cap,u1=.slice p len cap∧len≤cap:=by
   rcases qu with rfl|rfl|⟨b,o',l,e',rfl⟩|⟨e',nn,sz,rows,rfl⟩
   ·cases d1; exact⟨_,_,_,rfl,Nat.le_refl _⟩
   ·cases d1; exact⟨_,_,_,rfl,Nat.le_refl _⟩
   ·cases d1<;>grind
   grind [DS]
  subst e1;obtain⟨p2,zy,newv,e2,f2,o9,_⟩:=QX (P:=P) r uL cH d2;have gL:(Builtin.lenOf u2).run P w=.ok 0 w:=by rw[e2]; rfl
  have wY:newv.toList=[]:=by have:=o9.1; simp at this; simp[this]
  have bL:(Builtin.append_ #[t,t'] o.type #[.slice p1 oO pj,u2]).run P w=.ok (.slice p1 oO pj) w:=by
   obtain⟨k1,k2⟩:=(ZL ht hd o0 dU rU hz ln (base:=p1) (len:=oO) (cap:=pj) (newv:=newv) gL o.type).1 (by simpa using hle) f2;cases p1 with
   |none=>exact k1 rfl
   |some ad=>exact k2 ad w rfl (by rw[wY]; rfl)
  rw[QK ho mh pL bL];exact Out.here r d1
theorem aC.cy{k:MK}{x x':aa}{xs:List aa}{h0:Hp}{v:aa}{rd:List Nat}{up:List (Nat×ab)}(hw:∀(g:Gm) (u:Value),g.den x u→g.den x' u)(h:aC P GL k (x'::xs) h0 v rd up):aC P GL k (x::xs) h0 v rd up:=by
 intro o os hc w0 L g hp w a r hx cH eA;refine h o os hc w0 L g hp w a r ?_ cH eA;generalize os.map a.eval=vs at hx;cases vs with
 |nil=>exact hx
 |cons v vs=>exact⟨hw g v hx.1,hx.2⟩
theorem Qcx(x y:aa)(h0:Hp):aC P GL .pick [.bool true,x,y] h0 x [] []:=by
 intro o os hc w0 L g h w a r hx _ _;generalize ho:o.op=op at hc;cases hc with
 |pick oc oa ob=>
  obtain⟨d1,d2,d3,_⟩:=hx;have e1:=QC d1;simp_all [execOp,asBool,Out.here]
theorem Zcy(x y:aa)(h0:Hp):aC P GL .pick [.bool false,x,y] h0 y [] []:=by
 intro o os hc w0 L g h w a r hx _ _;generalize ho:o.op=op at hc;cases hc with
 |pick oc oa ob=>
  obtain⟨d1,d2,d3,_⟩:=hx;have e1:=QC d1;simp_all [execOp,asBool,Out.here]
theorem QT{g:Gm}{b off len:Nat}{ex:Bool}{cb:CB}{p:Option Addr}{HD cap:Nat}(ec:g.c b=some cb)(d:g.den (.sl b off len ex) (.slice p HD cap)) :
  HD=len∧len≤cap∧(ex=true→cap=len)∧∀ {l h:Nat},l≤h→h≤cap→∀sW:Bool,(sW=true→cap=h)→(l<h∨(l=0)) →
   g.den (.sl b (off+l) (h-l) sW) (.slice (if cap=l then p else p.map (·.add (l*cb.sz))) (h-l) (cap-l)):=by
 cases d with
 |nO _ _ _ dR _ fW hv=>
  rw[ec] at fW; cases fW;refine⟨rfl,Nat.le_refl _,λ_=>rfl,λ{l h} hl hh sW hex hs=>?_⟩;have:h=0:=by omega
  subst this;have:l=0:=by omega
  subst this;exact .nO _ _ _ cb _ ec hv
 |sle _ _ _ _ dR _ fW hv h1 h2=>
  rw[ec] at fW; cases fW;refine⟨rfl,Nat.le_refl _,λ_=>rfl,λ{l h} hl hh sW hex hs=>?_⟩;have:h=0:=by omega
  subst this;have:l=0:=by omega
  subst this;exact .sle _ _ _ _ cb _ ec hv h1 h2
 |sl _ _ _ _ _ dR _ fW hv h1 h2 h3=>
  rw[ec] at fW; cases fW;refine⟨rfl,h1,h3,λ{l h} hl hh sW hex hs=>?_⟩;have uc:(if cap=l then some (⟨cb.aE,cb.base+off*cb.sz,none⟩:Addr) else (some (⟨cb.aE,cb.base+off*cb.sz,none⟩:Addr)).map (·.add (l*cb.sz)))=some ⟨cb.aE,cb.base+(off+l)*cb.sz,none⟩:=by
   grind [YT]
  rw[uc];refine .sl _ _ _ _ _ cb _ ec hv (by omega) ?_ (λe=>by rw[hex e])
  grind
theorem QcY{w0:World}{L:Ln}{g:Gm}{h:Hp}{w:World}(r:br GL w0 L g h w){b n off len cap:Nat}{ex:Bool}{rs:List (List aa)}{p:Option Addr}(hb:h b=some (.rows n rs))(jK:n≠0)(d:g.den (.sl b off len ex) (.slice p len cap)):rs.length≤off+cap:=by
 cases d with
 |nO _ _ _ cb p ec hv=>have:=(r.fR hb ec hv).2; subst this; simp
 |sle _ _ _ _ cb p ec hv h1 h2=>exact JX (off:=off) (cap:=0) r hb jK ec hv (by simpa using h2)
 |sl _ _ _ _ _ cb cap ec hv h1 h2 h3=>exact JX r hb jK ec hv h2
theorem D0{g:Gm}{b off len:Nat}{ex:Bool}{v:Value}(d:g.den (.sl b off len ex) v):∃cb p cap,g.c b=some cb∧v=.slice p len cap∧(p=none→cap=0):=by
 cases d<;>grind
theorem Jm{w0:World}{L:Ln}{g:Gm}{h:Hp}{w:World}(r:br GL w0 L g h w){b sz:Nat}{rs:List (List aa)}{cb:CB}(hb:h b=some (.rows sz rs))(ec:g.c b=some cb):cb.sz=sz:=by
 cases hv:cb.cS with
 |true=>have:=r.aX b _ cb hb rfl ec hv; cases this; rfl
 |false=>exact(r.eQ hb ec hv).1
theorem ZaV(ex:Bool)(sz b off len:Nat)(rs:List (List aa))(k:IntKind)(i:Int)(h1:0≤i)(h2:i<len)(h0:Hp)(hb:h0 b=some (.rows sz rs)) :
  aC P GL (.cx sz true false false) [.sl b off len ex,.int k i] h0 (.sl b (off+i.toNat) (len-i.toNat) ex) [b] []:=by
 intro o os hc w0 L g hp w a r hx cH _;obtain⟨t,x,lo,hi,mx,e,ho,fj,eX,l_,rfl,hu,hn⟩:=Yw hc;obtain⟨lo,rfl⟩:∃z,lo=some z:=Option.isSome_iff_exists.1 fj.symm;obtain rfl:hi=none:=by cases hi<;>first|rfl|cases eX
 obtain rfl:mx=none:=by cases mx<;>first|rfl|cases l_
 obtain⟨d,d2,_⟩:=hx;obtain⟨cb,p,cap,ec,hv,_⟩:=D0 d;have dU:=Jm r ((cH b (by simp)).trans hb) ec;rw[hv] at d;obtain⟨_,vA,j7,sA⟩:=QT ec d;have hb:(Instr.sliceBounds true len cap (some (.int k i)) none none).run P w=.ok (i.toNat,len,cap) w:=by
  grind [Instr.sliceBounds,Sem.run_bind,Sem.run_pure,Result.andThen_ok,Qk]
 grind [ZA,Xp,Out.here]
theorem WI(ex:Bool)(sz b off len:Nat)(k:IntKind)(i:Int)(h1:i=len)(h0:Hp) :
  aC P GL (.cx sz true false false) [.sl b off len ex,.int k i] h0 (.ax false (Nat.blt 0 len) sz []) [] []:=by
 intro o os hc w0 L g hp w a r hx cH _;obtain⟨t,x,lo,hi,mx,e,ho,fj,eX,l_,rfl,hu,hn⟩:=Yw hc;obtain⟨lo,rfl⟩:∃z,lo=some z:=Option.isSome_iff_exists.1 fj.symm;obtain rfl:hi=none:=by cases hi<;>first|rfl|cases eX
 obtain rfl:mx=none:=by cases mx<;>first|rfl|cases l_
 obtain⟨d,d2,_⟩:=hx;obtain⟨cb,p,cap,ec,hv,jT⟩:=D0 d;rw[hv] at d;have m7:Nat.blt 0 len=true→p.isSome=true:=by
  intro e;generalize hq:(Value.slice p len cap)=q at d;cases d with
  |sl=>cases hq; rfl
  |nO=>cases hq; cases e
  |sle=>cases hq; cases e
 obtain⟨_,vA,j7,_⟩:=QT ec d;have hb:(Instr.sliceBounds true len cap (some (.int k i)) none none).run P w=.ok (i.toNat,len,cap) w:=by
  grind [Instr.sliceBounds,Sem.run_bind,Sem.run_pure,Result.andThen_ok,Qk]
 rw[ZA ho hu hn hv (l:=i.toNat) (h:=len) (m:=cap) (by simpa[Xp d2] using hb)];refine Out.here r ?_;rw[show len-i.toNat=([]:List (List aa)).length by simp; omega];refine .ax _ _ _ _ [] _ _ 0 0 (λ_ _=>undef) (by simp) (λe=>by have:=m7 e; split<;>simp[this]) (by simp) (λe=>?_) (by simp) (by simp) (by simp) (by simp);split at e
 ·omega
 ·simp at e; have:=jT e; omega
theorem XaJ(ex:Bool)(sz b off len:Nat)(rs:List (List aa))(k:IntKind)(i:Int)(h1:i=len)(hz:sz≠0)(h0:Hp)(hb:h0 b=some (.rows sz rs)) :
  aC P GL (.cx sz true false false) [.sl b off len ex,.int k i] h0 (.sl b (off+len) 0 ex) [b] []:=by
 intro o os hc w0 L g hp w a r hx cH _;obtain⟨t,x,lo,hi,mx,e,ho,fj,eX,l_,rfl,hu,hn⟩:=Yw hc;obtain⟨lo,rfl⟩:∃z,lo=some z:=Option.isSome_iff_exists.1 fj.symm;obtain rfl:hi=none:=by cases hi<;>first|rfl|cases eX
 obtain rfl:mx=none:=by cases mx<;>first|rfl|cases l_
 obtain⟨d,d2,_⟩:=hx;obtain⟨cb,p,cap,ec,hv,_⟩:=D0 d;have dU:=Jm r ((cH b (by simp)).trans hb) ec;rw[hv] at d;obtain⟨_,vA,j7,_⟩:=QT ec d;have zL:(Instr.sliceBounds true len cap (some (.int k i)) none none).run P w=.ok (i.toNat,len,cap) w:=by
  grind [Instr.sliceBounds,Sem.run_bind,Sem.run_pure,Result.andThen_ok,Qk]
 rw[ZA ho hu hn hv (l:=i.toNat) (h:=len) (m:=cap) (by simpa[Xp d2] using zL)];have hi:i.toNat=len:=by omega
 rw[hi,←dU];refine Out.here r ?_;rw[Nat.sub_self];generalize hq:(Value.slice p len cap)=q at d;cases d with
 |nO _ _ _ dR _ fW Hr=>
  cases hq<;>grind
 |sle _ _ _ _ dR _ fW Hr g1 g2=>
  cases hq<;>grind
 |sl _ _ _ _ _ dR _ fW Hr g1 g2 g9993=>
  rw[ec] at fW; cases fW;cases hq;by_cases oF:cap=len
  ·subst oF;rw[if_pos rfl,Nat.sub_self];exact .sle _ _ _ _ cb _ ec Hr (by rw[dU]; exact hz) g2
  ·rw[if_neg oF];have:=Den.sl (M:=g.M) g.c b (off+len) 0 ex cb (cap-len) ec Hr (Nat.zero_le _) (by grind) (λe=>absurd (g9993 e) oF);show Den g.M g.c _ _
   grind [YT]
theorem XaO(sz:Nat)(k:IntKind)(h0:Hp):aC P GL (.cx sz true false false) [.aq,.int k 0] h0 .aq [] []:=by
 intro o os hc w0 L g hp w a r hx cH _;obtain⟨t,x,lo,hi,mx,e,ho,fj,eX,l_,rfl,hu,hn⟩:=Yw hc;obtain⟨lo,rfl⟩:∃z,lo=some z:=Option.isSome_iff_exists.1 fj.symm;obtain rfl:hi=none:=by cases hi<;>first|rfl|cases eX
 obtain rfl:mx=none:=by cases mx<;>first|rfl|cases l_
 obtain⟨d,d2,_⟩:=hx;have hv:a.eval x=.slice none 0 0:=by
  generalize a.eval x=u at d;cases d; rfl
 have hb:(Instr.sliceBounds true 0 0 (some (.int k 0)) none none).run P w=.ok (0,0,0) w:=by
  rfl
 rw[ZA ho hu hn hv (l:=0) (h:=0) (m:=0) (by simpa[Xp d2] using hb)];exact Out.here r (.aq _)
theorem YaO(sz:Nat)(k:IntKind)(h0:Hp):aC P GL (.cx sz false true false) [.aq,.int k 0] h0 .aq [] []:=by
 intro o os hc w0 L g hp w a r hx cH _;obtain⟨t,x,lo,hi,mx,e,ho,fj,eX,l_,rfl,hu,hn⟩:=Yw hc;obtain rfl:lo=none:=by cases lo<;>first|rfl|cases fj
 obtain⟨hi,rfl⟩:∃z,hi=some z:=Option.isSome_iff_exists.1 eX.symm;obtain rfl:mx=none:=by cases mx<;>first|rfl|cases l_
 obtain⟨d,d2,_⟩:=hx;have hv:a.eval x=.slice none 0 0:=by
  generalize a.eval x=u at d;cases d; rfl
 have hb:(Instr.sliceBounds true 0 0 none (some (.int k 0)) none).run P w=.ok (0,0,0) w:=by
  rfl
 rw[ZA ho hu hn hv (l:=0) (h:=0) (m:=0) (by simpa[Xp d2] using hb)];exact Out.here r (.aq _)
theorem WJ(ex:Bool)(sz b off len:Nat)(rs:List (List aa))(k:IntKind)(i:Int)(h1:0≤i)(h2:i≤len)(h0:Hp)(hb:h0 b=some (.rows sz rs)) :
  aC P GL (.cx sz false true false) [.sl b off len ex,.int k i] h0 (.sl b off i.toNat false) [b] []:=by
 intro o os hc w0 L g hp w a r hx cH _;obtain⟨t,x,lo,hi,mx,e,ho,fj,eX,l_,rfl,hu,hn⟩:=Yw hc;obtain rfl:lo=none:=by cases lo<;>first|rfl|cases fj
 obtain⟨hi,rfl⟩:∃z,hi=some z:=Option.isSome_iff_exists.1 eX.symm;obtain rfl:mx=none:=by cases mx<;>first|rfl|cases l_
 obtain⟨d,d2,_⟩:=hx;obtain⟨cb,p,cap,ec,hv,_⟩:=D0 d;have dU:=Jm r ((cH b (by simp)).trans hb) ec;rw[hv] at d;obtain⟨_,vA,j7,sA⟩:=QT ec d;have hb:(Instr.sliceBounds true len cap none (some (.int k i)) none).run P w=.ok (0,i.toNat,cap) w:=by
  grind [Instr.sliceBounds,Sem.run_bind,Sem.run_pure,Result.andThen_ok,Qk]
 rw[ZA ho hu hn hv (l:=0) (h:=i.toNat) (m:=cap) (by simpa[Xp d2] using hb)];rw[←dU];have:=sA (l:=0) (h:=i.toNat) (by omega) (by omega) false (by simp) (.inr rfl);exact Out.here r this
theorem YaJ(ex:Bool)(sz b off len:Nat)(rs:List (List aa))(k k':IntKind)(i j:Int)(h1:0≤i)(h2:i<j∨(i=0∧0≤j))(h3:j≤len∨(sz≠0∧off+j.toNat≤rs.length))(h0:Hp)(hb:h0 b=some (.rows sz rs)) :
  aC P GL (.cx sz true true false) [.sl b off len ex,.int k i,.int k' j] h0 (.sl b (off+i.toNat) (j.toNat-i.toNat) false) [b] []:=by
 intro o os hc w0 L g hp w a r hx cH _;obtain⟨t,x,lo,hi,mx,e,ho,fj,eX,l_,rfl,hu,hn⟩:=Yw hc;obtain⟨lo,rfl⟩:∃z,lo=some z:=Option.isSome_iff_exists.1 fj.symm;obtain⟨hi,rfl⟩:∃z,hi=some z:=Option.isSome_iff_exists.1 eX.symm;obtain rfl:mx=none:=by cases mx<;>first|rfl|cases l_
 obtain⟨d,d2,d3,_⟩:=hx;obtain⟨cb,p,cap,ec,hv,_⟩:=D0 d;have dU:=Jm r ((cH b (by simp)).trans hb) ec;rw[hv] at d;obtain⟨_,vA,j7,sA⟩:=QT ec d;have hjc:j≤cap:=by
  rcases h3 with h3|⟨h3,h4⟩
  ·omega
  ·have:=QcY r ((cH b (by simp)).trans hb) h3 d;omega
 have hb:(Instr.sliceBounds true len cap (some (.int k i)) (some (.int k' j)) none).run P w=.ok (i.toNat,j.toNat,cap) w:=by
  simp only[Instr.sliceBounds,Sem.run_bind,Sem.run_pure,Result.andThen_ok,Qk k' j cap _ (by omega) (by omega),Qk k i j.toNat _ h1 (by omega)]
 rw[ZA ho hu hn hv (l:=i.toNat) (h:=j.toNat) (m:=cap) (by simpa[Xp d2,Xp d3] using hb)]
 grind [Out.here]
theorem W1(ex:Bool)(sz b off len:Nat)(k k' PH:IntKind)(i j m:Int)(h1:0≤i)(h2:i≤j)(h3:j≤m)(h4:m≤len)(h0:Hp) :
  aC P GL (.cx sz true true true) [.sl b off len ex,.int k i,.int k' j,.int PH m] h0 .aF [] []:=by
 intro o os hc w0 L g hp w a r hx cH _;obtain⟨t,x,lo,hi,mx,e,ho,fj,eX,l_,rfl,hu,hn⟩:=Yw hc;obtain⟨lo,rfl⟩:∃z,lo=some z:=Option.isSome_iff_exists.1 fj.symm;obtain⟨hi,rfl⟩:∃z,hi=some z:=Option.isSome_iff_exists.1 eX.symm;obtain⟨mx,rfl⟩:∃z,mx=some z:=Option.isSome_iff_exists.1 l_.symm;obtain⟨d,d2,d3,d4,_⟩:=hx;obtain⟨cb,p,cap,ec,hv,_⟩:=D0 d;rw[hv] at d;obtain⟨_,vA,j7,sA⟩:=QT ec d;have hb:(Instr.sliceBounds true len cap (some (.int k i)) (some (.int k' j)) (some (.int PH m))).run P w=.ok (i.toNat,j.toNat,m.toNat) w:=by
  simp only[Instr.sliceBounds,Sem.run_bind,Sem.run_pure,Result.andThen_ok,Qk PH m cap _ (by omega) (by omega),Qk k' j m.toNat _ (by omega) (by omega),Qk k i j.toNat _ h1 (by omega)]
 rw[ZA ho hu hn hv (l:=i.toNat) (h:=j.toNat) (m:=m.toNat) (by grind [Xp])];exact Out.here r (.aF _ _)
theorem W4(sz:Nat)(x:aa)(qu:x=.aq∨x=.cK∨(∃b o l e,x=.sl b o l e)∨∃e nn s rows,x=.ax e nn s rows)(k k':IntKind)(h0:Hp) :
  aC P GL (.cx sz false true true) [x,.int k 0,.int k' 0] h0 .cK [] []:=by
 intro o os hc w0 L g hp w a r hx cH _;obtain⟨t,y,lo,hi,mx,e,ho,fj,eX,l_,rfl,hu,hn⟩:=Yw hc;obtain rfl:lo=none:=by cases lo<;>first|rfl|cases fj
 obtain⟨hi,rfl⟩:∃z,hi=some z:=Option.isSome_iff_exists.1 eX.symm;obtain⟨mx,rfl⟩:∃z,mx=some z:=Option.isSome_iff_exists.1 l_.symm;obtain⟨d,d2,d3,_⟩:=hx;have Pu:∃p len cap,a.eval y=.slice p len cap:=by
  generalize mh:a.eval y=u1 at d;rcases qu with rfl|rfl|⟨_,_,_,_,rfl⟩|⟨_,_,_,_,rfl⟩
  ·cases d; exact⟨_,_,_,rfl⟩
  ·cases d; exact⟨_,_,_,rfl⟩
  ·cases d<;>exact⟨_,_,_,rfl⟩
  ·cases d; exact⟨_,_,_,rfl⟩
 obtain⟨p,len,cap,hv⟩:=Pu;have hb:(Instr.sliceBounds true len cap none (some (.int k 0)) (some (.int k' 0))).run P w=.ok (0,0,0) w:=by
  rfl
 rw[ZA ho hu hn hv (l:=0) (h:=0) (m:=0) (by simpa[Xp d2,Xp d3] using hb)];exact Out.here r (.cK _ _)
end
theorem ZE{α:Type}{b:Bool}{x:Option α}{v:α}(h:(bif b then x else none)=some v):b=true∧x=some v:=by
 grind
theorem ZR{α:Type}{b:Bool}{x y v:α}(h:(bif b then x else y)=v):(b=true∧x=v)∨(b=false∧y=v):=by
 grind
def v_:Bool→aa→Bool
 |true,.str _=>true
 |false,.int _ _=>true
 |_,_=>false
theorem RR{s:Bool}{k:aa}(h:v_ s k=true):kz s k:=by
 cases s<;>cases k<;>simp_all [v_,kz]
def Xs:List (List aa)→Bool
 |[]=>true
 |r::rs=>r.all aa.cell&&Xs rs
theorem JC:∀ {rs:List (List aa)},Xs rs=true→∀row∈rs,∀x∈row,aa.cell x=true
 |[],_,_,hm,_,_=>by cases hm
 |r::rs,h,row,hm,x,hx=>by
  simp only[Xs,Bool.and_eq_true] at h;cases hm with
  |head=>exact List.all_eq_true.1 h.1 x hx
  |tail _ hm=>exact JC h.2 row hm x hx
def Qp(sz:Nat)(σ:List ab):aa→Option (List (List aa)×List Nat)
 |.ax _ _ s rows=>bif Nat.beq s sz then some (rows,[]) else none
 |.aq=>some ([],[])
 |.cK=>some ([],[])
 |.sl b off len _=>match ah σ b with
  |.rows s rs=>bif Nat.beq s sz&&Nat.ble (off+len) rs.length then some (cut off (off+len) rs,[b]) else none
  |_=>none
 |_=>none
theorem Z2{sz:Nat}{σ:List ab}{y:aa}{ys:List (List aa)}{rd:List Nat}(h:Qp sz σ y=some (ys,rd)):g_ (hp σ) sz y ys rd:=by
 unfold Qp at h;split at h
 ·replace h:=ZE h; obtain⟨hb,h⟩:=h
  have:=e9 hb; subst this;cases h; exact .row _ _ _
 ·cases h; exact .aq
 ·cases h; exact .cK
 ·split at h
  ·rename_i hg
   replace h:=ZE h; obtain⟨hb,h⟩:=h
   simp only[Bool.and_eq_true] at hb;have:=e9 hb.1;subst this;cases h;exact .own _ _ _ _ _ (zm hg (by simp)) (gE hb.2)
  ·cases h
 ·cases h
def zh:aa→aa
 |.ax true _ _ []=>.cK
 |x=>x
theorem QU(x:aa)(g:Gm)(u:Value)(d:g.den x u):g.den (zh x) u:=by
 unfold zh;split
 ·obtain⟨p,cap,q1,_,q3⟩:=DS d;have:=q3 rfl;rw[q1,this];exact .cK _ _
 ·exact d
def EO:aa→Bool
 |.aq=>true
 |.cK=>true
 |.sl ..=>true
 |.ax ..=>true
 |_=>false
theorem Lh{x:aa}(h:EO x=true):x=.aq∨x=.cK∨(∃b o l e,x=.sl b o l e)∨∃e nn sz rows,x=.ax e nn sz rows:=by
 cases x<;>simp_all [EO]
def mapOf(σ:List ab):aa→Option (List (aa×aa)×List Nat)
 |.map b=>match ah σ b with
  |.map es=>some (es,[b])
  |_=>none
 |.eN es=>some (es,[])
 |.cB=>some ([],[])
 |_=>none
theorem Ydm{σ:List ab}{m:aa}{es:List (aa×aa)}{rd:List Nat}(h:mapOf σ m=some (es,rd)):pb (hp σ) m es rd:=by
 unfold mapOf at h;split at h
 ·split at h
  ·rename_i hg; cases h; exact .own _ _ (E' hg)
  ·cases h
 ·cases h; exact .row _
 ·cases h; exact .nil
 ·cases h
def Ym(xs:List aa)(σ:List ab):az:=match xs with
  |[.bool true,x,_]=>.ok x [] []
  |[.bool false,_,y]=>.ok y [] []
  |_=>.stop
def Zm(sz:Nat)(xs:List aa)(σ:List ab):az:=match xs with
  | [.ax e n s rows,.int _ (.ofNat i)]=>bif Nat.beq s sz then (match nth rows i with
   |some row=>.ok (.ao row 0) [] []
   | none=>.stop) else .stop
  | [.sl b o len _,.int _ (.ofNat i)]=>bif Nat.blt i len then (match ah σ b with
   |.rows s _=>bif Nat.beq s sz then .ok (.ptr b (o+i) 0) [b] [] else .stop
   | _=>.stop) else .stop
  |_=>.stop
def QO(xs:List aa)(σ:List ab):az:=match xs with
  |[.str s,.int _ (.ofNat i)]=>match nth s i with
   |some c=>.ok (.int .u8 c.toNat) [] []
   |none=>.stop
  |_=>.stop
def Xh(agg:Bool)(n:Nat)(xs:List aa)(σ:List ab):az:=match xs with
  |[.ptr b i j]=>match ah σ b with
   |.rows _ rs=>match nth rs i with
    |some row=>match aL agg j n row with
     |some v=>.ok v [b] []
     |none=>.stop
    |none=>.stop
   |_=>.stop
  |xs=>pV (.load agg n) xs σ
def Qm(n:Nat)(xs:List aa)(σ:List ab):az:=match xs with
  |[.ptr b i j,x]=>match ah σ b with
   |.rows sz rs=>match nth rs i with
    |some row=>match cellsOf x with
     | some cs=>bif Nat.beq cs.length n then (match cr j cs row with
      |some row'=>match YM i row' rs with
       |some rs'=>.ok .aF [] [(b,.rows sz rs')]
       |none=>.stop
      | none=>.stop) else .stop
     |none=>.stop
    |none=>.stop
   |_=>.stop
  |xs=>pV (.store n) xs σ
def ZI(sz:Nat)(xs:List aa)(σ:List ab):az:=match xs with
  |[.ax e n s rows,.int _ (.ofNat i)]=>bif Nat.beq s sz&&Nat.ble i rows.length then .ok (.ax e n sz (cut i rows.length rows)) [] [] else .stop
  |[.sl b off len e,.int _ (.ofNat i)]=>match ah σ b with
   |.rows s _=>bif Nat.beq s sz then (bif Nat.blt i len then .ok (.sl b (off+i) (len-i) e) [b] [] else bif Nat.beq i len then (bif Nat.beq sz 3 then .ok (.sl b (off+len) 0 e) [b] [] else .ok (.ax false (Nat.blt 0 len) sz []) [] []) else .stop) else .stop
   |_=>.stop
  |[.aq,.int _ (.ofNat 0)]=>.ok .aq [] []
  |_=>.stop
def ZJ(sz:Nat)(xs:List aa)(σ:List ab):az:=match xs with
  |[.ax e n s rows,.int _ (.ofNat i)]=>bif Nat.beq s sz&&Nat.ble i rows.length then .ok (.ax false n sz (cut 0 i rows)) [] [] else .stop
  |[.sl b off len e,.int _ (.ofNat i)]=>match ah σ b with
   |.rows s _=>bif Nat.beq s sz&&Nat.ble i len then .ok (.sl b off i false) [b] [] else .stop
   |_=>.stop
  |[.aq,.int _ (.ofNat 0)]=>.ok .aq [] []
  |_=>.stop
def YN(sz:Nat)(xs:List aa)(σ:List ab):az:=match xs with
  |[.ax e n s rows,.int _ (.ofNat i),.int _ (.ofNat j)]=>bif Nat.beq s sz&&(Nat.ble i j&&Nat.ble j rows.length) then .ok (.ax false n sz (cut i j rows)) [] [] else .stop
  |[.sl b off len e,.int _ (.ofNat i),.int _ (.ofNat j)]=>match ah σ b with
   |.rows s rs=>bif Nat.beq s sz&&((Nat.blt i j||Nat.beq i 0)&&(Nat.ble j len||(!(Nat.beq sz 0)&&Nat.ble (off+j) rs.length))) then .ok (.sl b (off+i) (j-i) false) [b] [] else .stop
   |_=>.stop
  |_=>.stop
def QD(xs:List aa)(σ:List ab):az:=match xs with
  |[.str s,.int _ (.ofNat i),.int _ (.ofNat j)]=>bif Nat.ble i j&&Nat.ble j s.length then .ok (.str ((s.take j).drop i)) [] [] else .stop
  |_=>.stop
def XB(xs:List aa)(σ:List ab):az:=match xs with
  |[.str s,.int _ (.ofNat i)]=>bif Nat.ble i s.length then .ok (.str (s.drop i)) [] [] else .stop
  |_=>.stop
def QB(xs:List aa)(σ:List ab):az:=match xs with
  |[.str s,.int _ (.ofNat i)]=>bif Nat.ble i s.length then .ok (.str (s.take i)) [] [] else .stop
  |_=>.stop
def X8(n:Nat)(by_:Nat)(z:List aa)(xs:List aa)(σ:List ab):az:=match xs with
  |[.int _ (.ofNat len)]=>bif Nat.ble (by_*len) (2 ^ 48)&&Nat.blt len (2 ^ 62) then .ok (.sl σ.length 0 len true) [] [(σ.length,.rows n (List.replicate len z))] else .stop
  |_=>.stop
def QH(n by_:Nat)(σ:List ab)(rs:List (List aa))(kill:List (Nat×ab))(y:aa):az:=match Qp n σ y with
 |some (ys,rd)=>bif Xs ys&&Nat.ble ((2*(rs.length+ys.length)+192)*by_) (2 ^ 48) then
   .ok (.sl σ.length 0 (rs.length+ys.length) false) rd (kill++[(σ.length,.rows n (rs++ys))]) else .stop
 |none=>.stop
def DD(n by_:Nat)(σ:List ab)(b off len:Nat)(rs:List (List aa))(y:aa):az:=match Qp n σ y with
 | some (ys,rd)=>bif Xs ys then (bif Nat.ble (off + len + ys.length) rs.length then .ok (.sl b off (len + ys.length) false) rd [(b,.rows n (over (off + len) ys rs))]
   else bif Nat.beq off 0&&(Nat.ble len rs.length&&(!(rd.contains b)&&Nat.ble ((2*(len+ys.length)+192)*by_) (2 ^ 48))) then
    .ok (.sl σ.length 0 (len + ys.length) false) rd [(b,.dead),(σ.length,.rows n (rs.take len ++ ys))] else .stop) else .stop
 |none=>.stop
def wk:List (List aa)→Bool
 |[]=>true
 |r::rs=>fz r&&wk rs
theorem RX:∀ {rs:List (List aa)},wk rs=true→∀(i:Nat) (row:List aa),rs[i]?=some row→∀(j:Nat) (x:aa),row[j]?=some x→x.ro=true
 |r::rs,h,0,row,e,j,x,ex=>by
  simp at e; subst e;simp only[wk,Bool.and_eq_true] at h;have:∀(l:List aa),fz l=true→∀(j:Nat) (x:aa),l[j]?=some x→x.ro=true:=by
   intro l
   induction l<;>grind [fz]
  exact this _ h.1 j x ex
 |r::rs,h,i+1,row,e,j,x,ex=>by
  simp only[wk,Bool.and_eq_true] at h;exact RX h.2 i row (by simpa using e) j x ex
theorem Zbi{P:Program}{GL:aw}(n by_:Nat)(z:List aa)(nn:Bool)(y:aa)(rs ys:List (List aa))(rd:List Nat)(h0:Hp)(uL:g_ h0 n y ys rd)(kV:wk (rs++ys)=true)(ct:(2*(rs.length+ys.length)+192)*by_≤2 ^ 48) :
  aC P GL (.append n by_ z) [.ax true nn n rs,y] h0 (.ax false false n (rs++ys)) rd []:=by
 intro o os hc w0 L g h w a r hx cH _;generalize ho:o.op=op at hc;cases hc with
 |append t t' e ox oy _ _ v _ ht Aj dU rU hz qZ dt ln jK=>
  obtain⟨d,hd,o0⟩:=Aj;obtain⟨d1,d2,_⟩:=hx;generalize mh:a.eval ox=u1 at d1;generalize pL:a.eval oy=u2 at d2;obtain⟨p1,pj,oS,e1,f1,HQ,_⟩:=QX (P:=P) (h0:=h0) r.drew (.row true nn rs) (λb hb=>by cases hb) d1;obtain⟨p2,zy,newv,e2,f2,o9,_⟩:=QX (P:=P) r uL cH d2;obtain⟨p2',FU,pW,Kv,N7,uV,_⟩:=QX (P:=P) r.drew uL cH d2;have gL:(Builtin.lenOf u2).run P w=.ok ys.length w:=by rw[e2]; rfl
  have oF:pj=rs.length:=by
   rw[e1] at d1;cases d1<;>simp_all
  subst oF;by_cases pN:ys=[]
  ·subst pN;have wY:newv.toList=[]:=by have:=o9.1; simp at this; simp[this]
   have bL:(Builtin.append_ #[t,t'] o.type #[.slice p1 rs.length rs.length,u2]).run P w=.ok (.slice p1 rs.length rs.length) w:=by
    obtain⟨k1,k2⟩:=(ZL ht hd o0 dU rU hz ln (base:=p1) (len:=rs.length) (cap:=rs.length) (newv:=newv) gL o.type).1 (by simp) f2;cases p1 with
    |none=>exact k1 rfl
    |some ad=>exact k2 ad w rfl (by rw[wY]; rfl)
   rw[QK ho (by rw[mh]; exact e1) pL bL];refine Out.here r ?_;rw[List.append_nil,←e1];cases d1 with
   |ax _ _ _ _ _ a' cap aE off f q1 q2 q3 q4 q5 q6 q7 q8=>exact .ax _ _ _ _ _ a' cap aE off f (λh=>by cases h) (λh=>by cases h) q3 q4 q5 q6 q7 q8
  ·have pG:0<ys.length:=List.length_pos_iff.2 pN;obtain⟨nc,G5,bL⟩:=(ZL ht hd o0 dU rU hz ln (base:=p1) (len:=rs.length) (cap:=rs.length) (newv:=pW) gL o.type).2 (by omega) ct oS (by rw[←e1]; exact f1) N7;rw[QK ho (by rw[mh]; exact e1) pL bL];obtain⟨q1,q2⟩:=TJ (c:=Builtin.zeroCells v.cells (nc-(rs.length+ys.length))) HQ uV;generalize mN:oS++pW++Builtin.zeroCells v.cells (nc-(rs.length+ys.length))=arr at q2;have Hk:(rs++ys).length*n≤arr.size:=by
    rw[←mN];simp only[Array.size_append,HQ.1,uV.1,List.length_append,Nat.add_mul];omega
   obtain⟨hle,wZ⟩:=r.drew.tw (.cells arr e);refine⟨_,hle,wZ,?_⟩;have hl:rs.length+ys.length=(rs++ys).length:=(List.length_append).symm;rw[hl];refine .ax _ _ _ _ _ _ nc w.heap.size 0 (λi j=>(arr[i*n+j]?).getD undef) (λh=>by cases h) (λh=>by cases h) (λ_=>rfl) (λh=>by cases h) (by rw[←hl]; exact G5) q1 (λi j hi hj=>?_) (λi row j x NW Kv=>?_)
   ·have cp:i*n+j<arr.size:=by
     have:(i+1)*n≤(rs++ys).length*n:=Nat.mul_le_mul_right n hi;rw[Nat.succ_mul] at this; omega
    rw[Nat.zero_add];unfold gN;have:mi g.M w.drew.heap.size (.cells arr e) w.heap.size=some (.cells arr e):=by simp[mi]
    grind
   ·have hi:i<(rs++ys).length:=(gn NW).1;have hj:j<n:=by grind
    have cp:i*n+j<arr.size:=by
     have:(i+1)*n≤(rs++ys).length*n:=Nat.mul_le_mul_right n hi;rw[Nat.succ_mul] at this; omega
    have hdn:=q2 i row j x arr[i*n+j] NW Kv (by simp[cp]);have:(arr[i*n+j]?).getD undef=arr[i*n+j]:=by simp[cp]
    show Den _ _ x ((arr[i*n+j]?).getD undef);rw[this];exact(Den.mono hle.m hdn (fH.refl _)).ro (RX kV i row NW j x Kv) _
def Zl(n:Nat)(by_:Nat)(xs:List aa)(σ:List ab):az:=match xs with
  |[.ax true false s rs,y]=>match Qp n σ y with
   |some (ys,rd)=>bif Nat.beq s n&&(wk (rs++ys)&&Nat.ble ((2*(rs.length+ys.length)+192)*by_) (2 ^ 48)) then .ok (.ax false false n (rs++ys)) rd [] else .stop
   |none=>.stop
  |[x,y]=>match zh x with
   |.aq=>QH n by_ σ [] [] y
   |.cK=>match Qp n σ y with
    |some ([],rd)=>bif EO x then .ok x rd [] else .stop
    |_=>QH n by_ σ [] [] y
   |.sl b off len _=>match ah σ b with
    |.rows s rs=>bif Nat.beq s n then (bif Nat.beq rs.length (len+off) then QH n by_ σ (rs.drop off) [(b,.dead)] y else DD n by_ σ b off len rs y) else .stop
    |_=>.stop
   |x=>match Qp n σ y with
    |some ([],rd)=>bif EO x then .ok x rd [] else .stop
    |_=>.stop
  |_=>.stop
def Q2(n:Nat)(z:List aa)(xs:List aa)(σ:List ab):az:=match xs with
  |[.sl b off len _]=>match ah σ b with
   |.rows s rs=>bif Nat.beq s n&&Nat.ble (off+len) rs.length then .ok .aF [] [(b,.rows n (over off (List.replicate len z) rs))] else .stop
   |_=>.stop
  |[.aq]=>.ok .aF [] []
  |[.cK]=>.ok .aF [] []
  |[.ax _ _ _ []]=>.ok .aF [] []
  |_=>.stop
def YJ(xs:List aa)(σ:List ab):az:=match xs with
  |[.sl _ _ len _,.int _ (.ofNat i),.int _ (.ofNat j),.int _ (.ofNat m)]=>bif Nat.ble i j&&(Nat.ble j m&&Nat.ble m len) then .ok .aF [] [] else .stop
  |_=>.stop
def QG(sz:Nat)(xs:List aa)(σ:List ab):az:=match xs with
  | [x,.int _ (.ofNat i),.int _ (.ofNat j)]=>bif Nat.beq i 0 && Nat.beq j 0 then (bif EO x then .ok .cK [] [] else .stop) else (match x with
   |.ax _ nn s rows=>bif Nat.beq s sz&&(Nat.beq i j&&Nat.ble i rows.length) then .ok (.ax true nn s (cut 0 i rows)) [] [] else .stop
   | _=>.stop)
  |_=>.stop
def Zz(str:Bool)(ok:Bool)(z:aa)(xs:List aa)(σ:List ab):az:=match xs with
  | [m,q]=>bif v_ str q then (match mapOf σ m with
   |some (es,rd)=>match ir q es with
    |some r=>.ok (jX ok z r) rd []
    |none=>.stop
   | none=>.stop) else .stop
  |_=>.stop
def YG(str:Bool)(xs:List aa)(σ:List ab):az:=match xs with
  | [.map b,q,x]=>bif v_ str q then (match ah σ b with
   |.map es=>match my q x es with
    |some rS=>.ok .aF [] [(b,.map rS)]
    |none=>.stop
   | _=>.stop) else .stop
  |_=>.stop
def Eu(xs:List aa)(σ:List ab):az:=match xs with
  |[.iter b]=>match ah σ b with
   |.eF s pos=>bif Nat.blt pos s.length then .ok (.bn [.bool true,.int .i64 pos,.int .i32 (Utf8.decode ⟨s.toArray⟩ pos).1]) [] [(b,.eF s (pos+(Utf8.decode ⟨s.toArray⟩ pos).2))]
    else .ok (.bn [.bool false]) [b] []
   |_=>.stop
  |_=>.stop
def ed(k:MK)(xs:List aa)(σ:List ab):az:=
 match k with
 |.pick=>Ym xs σ
 |.eL sz=>Zm sz xs σ
 |.j_=>QO xs σ
 |.load agg n=>Xh agg n xs σ
 |.store n=>Qm n xs σ
 |.cx sz true false false=>ZI sz xs σ
 |.cx sz false true false=>ZJ sz xs σ
 |.cx sz true true false=>YN sz xs σ
 |.cx _ true true true=>YJ xs σ
 |.cx sz false true true=>QG sz xs σ
 |.gG n z=>Q2 n z xs σ
 |.ej true true=>QD xs σ
 |.ej true false=>XB xs σ
 |.ej false true=>QB xs σ
 |.pT n by_ z=>X8 n by_ z xs σ
 |.append n by_ _=>Zl n by_ xs σ
 |.lookup str ok z=>Zz str ok z xs σ
 |.kf str=>YG str xs σ
 |.next=>Eu xs σ
 |k=>pV k xs σ
theorem RY{α:Type}:∀ {l l':List α} {i:Nat} {c:α},YM i c l=some l'→l'=l.set i c
 |[],_,_,_,h=>by simp[YM] at h
 |x::l,l',0,c,h=>by simp[YM] at h; subst h; rfl
 |x::l,l',i+1,c,h=>by
  simp only[YM] at h;cases e:YM i c l with
  |none=>simp[e] at h
  |some r=>simp[e] at h; subst h; rw[RY e]; rfl
theorem ZH{σ:List ab}{b sz:Nat}{rs:List (List aa)}(h:ah σ b=.rows sz rs):hp σ b=some (.rows sz rs):=zm h (by simp)
theorem LN{P:Program}{GL:aw}{n by_:Nat}{z:List aa}{σ:List ab}{x:aa}{rs:List (List aa)}{kill:List (Nat×ab)}{y v:aa}{rd:List Nat}{up:List (Nat×ab)}(hx:lH (hp σ) n x rs kill)(h:QH n by_ σ rs kill y=.ok v rd up):aC P GL (.append n by_ z) [x,y] (hp σ) v rd up:=by
 unfold QH at h;split at h
 ·rename_i hy
  replace h:=Yk h; obtain⟨hs,h⟩:=h
  simp only[Bool.and_eq_true] at hs
  grind [S2,vY,Z2,JC,gE]
 ·cases h
theorem ZcG{P:Program}{GL:aw}{n by_:Nat}{z:List aa}{σ:List ab}{b off len:Nat}{ex:Bool}{rs:List (List aa)}{y v:aa}{rd:List Nat}{up:List (Nat×ab)}(hb:hp σ b=some (.rows n rs))(h:DD n by_ σ b off len rs y=.ok v rd up):aC P GL (.append n by_ z) [.sl b off len ex,y] (hp σ) v rd up:=by
 unfold DD at h;split at h
 ·rename_i hy
  replace h:=Yk h; obtain⟨hc,h⟩:=h
  replace h:=ZR h
  rcases h with ⟨hs,h⟩|⟨_,h⟩
  ·grind [XbE,Z2,JC,gE]
  ·replace h:=Yk h; obtain⟨hs,h⟩:=h
   simp only[Bool.and_eq_true,Bool.not_eq_true'] at hs
   grind [e9,W3,vY,gE,Z2,JC]
 ·cases h
theorem YbZ{P:Program}{GL:aw}{n by_:Nat}{z:List aa}{xs:List aa}{σ:List ab}{v:aa}{rd:List Nat}{up:List (Nat×ab)}(h:Zl n by_ xs σ=.ok v rd up):aC P GL (.append n by_ z) xs (hp σ) v rd up:=by
 unfold Zl at h;split at h
 ·split at h
  ·rename_i hy
   replace h:=Yk h; obtain⟨hs,h⟩:=h
   simp only[Bool.and_eq_true] at hs
   grind [e9,Zbi,Z2,gE]
  ·cases h
 ·rename_i x y _;split at h
  ·rename_i hx; refine aC.cy (QU x) ?_; rw[hx]; exact LN .aq h
  ·rename_i hx;split at h
   ·rename_i hy
    replace h:=Yk h; grind [TN,Lh,Z2]
   ·refine aC.cy (QU x) ?_; rw[hx]; exact LN .cK h
  ·rename_i b off len ex hx;refine aC.cy (QU x) ?_;rw[hx];split at h
   ·rename_i s rs hg
    replace h:=Yk h; obtain⟨hs,h⟩:=h
    have:=e9 hs; subst this
    replace h:=ZR h
    rcases h with ⟨hq,h⟩|⟨_,h⟩
    ·exact LN (.own _ _ _ _ _ (ZH hg) ((e9 hq).trans (Nat.add_comm _ _))) h
    ·exact ZcG (ZH hg) h
   ·cases h
  ·refine aC.cy (QU x) ?_;split at h
   ·rename_i hy
    replace h:=Yk h; grind [TN,Lh,Z2]
   ·cases h
 ·cases h
theorem Ycq{P:Program}{GL:aw}{n:Nat}{z:List aa}{xs:List aa}{σ:List ab}{v:aa}{rd:List Nat}{up:List (Nat×ab)}(h:Q2 n z xs σ=.ok v rd up):aC P GL (.gG n z) xs (hp σ) v rd up:=by
 unfold Q2 at h;split at h
 ·split at h
  ·rename_i hg
   replace h:=Yk h; obtain⟨hs,h⟩:=h
   simp only[Bool.and_eq_true] at hs
   grind [e9,Xc2,ZH,gE]
  ·cases h
 ·cases h; exact LQ _ _ _ _ (.inl rfl)
 ·cases h; simp[LQ]
 ·cases h; simp[LQ]
 ·cases h
theorem WT{P:Program}{GL:aw}{n:Nat}{xs:List aa}{σ:List ab}{v:aa}{rd:List Nat}{up:List (Nat×ab)}(h:YJ xs σ=.ok v rd up):aC P GL (.cx n true true true) xs (hp σ) v rd up:=by
 unfold YJ at h;split at h
 ·replace h:=Yk h; obtain⟨hs,h⟩:=h
  simp only[Bool.and_eq_true] at hs;cases h<;>simp_all [W1]
 ·cases h
theorem ZbJ{P:Program}{GL:aw}{n:Nat}{xs:List aa}{σ:List ab}{v:aa}{rd:List Nat}{up:List (Nat×ab)}(h:QG n xs σ=.ok v rd up):aC P GL (.cx n false true true) xs (hp σ) v rd up:=by
 unfold QG at h;split at h
 ·rename_i x k i k' j
  replace h:=ZR h
  rcases h with ⟨hq,h⟩|⟨_,h⟩
  ·simp only[Bool.and_eq_true] at hq;have h1:=e9 hq.1;have h2:=e9 hq.2;subst h1; subst h2
   replace h:=Yk h; grind [W4,Lh]
  ·split at h
   ·replace h:=Yk h; obtain⟨hs,h⟩:=h
    simp only[Bool.and_eq_true] at hs;have h1:=e9 hs.1;have h2:=e9 hs.2.1;subst h1; subst h2;cases h;exact Ybi _ _ _ _ _ _ (Int.ofNat i) (Int.natCast_nonneg _) (Int.ofNat_le.2 (gE hs.2.2)) _
   ·cases h
 ·cases h
theorem XJ{P:Program}{GL:aw}:zd P GL ed:=by
 intro k xs σ v rd up h;unfold ed at h;simp only[Ym,Zm,QO,Xh,Qm,ZI,ZJ,YN,QD,XB,QB,X8,Zz,YG,Eu] at h;split at h
 ·split at h
  ·cases h; exact Qcx _ _ _
  ·cases h; exact Zcy _ _ _
  ·cases h
 ·split at h
  ·replace h:=Yk h; obtain⟨hs,h⟩:=h
   have:=e9 hs; subst this;split at h
   ·rename_i hn; cases h; rw[Y7] at hn; exact XaU _ _ _ _ _ _ _ (Int.natCast_nonneg _) hn _
   ·cases h
  ·replace h:=Yk h; obtain⟨cp,h⟩:=h
   split at h
   ·rename_i hg
    replace h:=Yk h; obtain⟨hs,h⟩:=h
    have:=e9 hs; subst this;cases h;exact YaU _ _ _ _ _ _ _ _ (Int.natCast_nonneg _) (Int.ofNat_lt.2 (gE cp)) _ (ZH hg)
   ·cases h
  ·cases h
 ·split at h
  ·split at h
   ·rename_i hn; cases h; rw[Y7] at hn; exact Ycw _ _ _ _ (Int.natCast_nonneg _) hn _
   ·cases h
  ·cases h
 ·split at h
  ·split at h
   ·rename_i hg;split at h
    ·rename_i hn;split at h
     ·rename_i hv; cases h; rw[Y7] at hn; exact WR _ _ _ _ _ _ _ _ _ _ (ZH hg) hn hv
     ·cases h
    ·cases h
   ·cases h
  ·exact Mx h
 ·split at h
  ·split at h
   ·rename_i hg;split at h
    ·rename_i hn;split at h
     ·rename_i hc
      replace h:=Yk h; obtain⟨hl,h⟩:=h
      split at h
      ·rename_i hs;split at h
       ·rename_i fT;cases h;rw[Y7] at hn;exact Zbj _ _ _ _ _ _ _ _ _ _ _ _ (ZH hg) hn hc (e9 hl) hs (RY fT)
       ·cases h
      ·cases h
     ·cases h
    ·cases h
   ·cases h
  ·exact Mx h
 ·split at h
  ·replace h:=Yk h; obtain⟨hs,h⟩:=h
   simp only[Bool.and_eq_true] at hs;have:=e9 hs.1; subst this;cases h;exact WY _ _ _ _ _ _ (Int.natCast_nonneg _) (Int.ofNat_le.2 (gE hs.2)) _
  ·split at h
   ·rename_i hg
    replace h:=Yk h; obtain⟨hs,h⟩:=h
    have:=e9 hs; subst this
    replace h:=ZR h; rcases h with ⟨cp,h⟩|⟨_,h⟩
    ·cases h;exact ZaV _ _ _ _ _ _ _ _ (Int.natCast_nonneg _) (Int.ofNat_lt.2 (gE cp)) _ (ZH hg)
    ·replace h:=Yk h; obtain⟨he,h⟩:=h
     have:=e9 he;subst this
     replace h:=ZR h; rcases h with ⟨h3,h⟩|⟨_,h⟩
     ·cases h;have:=e9 h3;exact XaJ _ _ _ _ _ _ _ _ rfl (by omega) _ (ZH hg)
     ·cases h;exact WI _ _ _ _ _ _ _ rfl _
   ·cases h
  ·cases h; exact XaO _ _ _
  ·cases h
 ·split at h
  ·replace h:=Yk h; obtain⟨hs,h⟩:=h
   simp only[Bool.and_eq_true] at hs;have:=e9 hs.1; subst this;cases h;exact XbV _ _ _ _ _ _ (Int.natCast_nonneg _) (Int.ofNat_le.2 (gE hs.2)) _
  ·split at h
   ·rename_i hg
    replace h:=Yk h; obtain⟨hs,h⟩:=h
    simp only[Bool.and_eq_true] at hs;have:=e9 hs.1; subst this;cases h;exact WJ _ _ _ _ _ _ _ _ (Int.natCast_nonneg _) (Int.ofNat_le.2 (gE hs.2)) _ (ZH hg)
   ·cases h
  ·cases h; exact YaO _ _ _
  ·cases h
 ·split at h
  ·replace h:=Yk h; obtain⟨hs,h⟩:=h
   simp only[Bool.and_eq_true] at hs;have:=e9 hs.1; subst this;cases h;exact Xbi _ _ _ _ _ _ _ _ (Int.natCast_nonneg _) (Int.ofNat_le.2 (gE hs.2.1)) (Int.ofNat_le.2 (gE hs.2.2)) _
  ·split at h
   ·rename_i hg
    replace h:=Yk h; obtain⟨hs,h⟩:=h
    simp only[Bool.and_eq_true,Bool.or_eq_true] at hs;have:=e9 hs.1; subst this;cases h;refine YaJ _ _ _ _ _ _ _ _ _ _ (Int.natCast_nonneg _) ?_ ?_ _ (ZH hg)
    ·rcases hs.2.1 with q|q
     ·exact .inl (Int.ofNat_lt.2 (gE q))
     ·have:=e9 q; subst this; exact .inr ⟨rfl,Int.natCast_nonneg _⟩
    ·rcases hs.2.2 with q|q
     ·exact .inl (Int.ofNat_le.2 (gE q))
     ·simp only[Bool.and_eq_true,Bool.not_eq_true'] at q;exact .inr ⟨(λe0=>by rw[e0] at q; cases q.1),gE q.2⟩
   ·cases h
  ·cases h
 ·exact WT h
 ·exact ZbJ h
 ·exact Ycq h
 ·split at h
  ·replace h:=Yk h; obtain⟨hs,h⟩:=h
   simp only[Bool.and_eq_true] at hs;cases h;exact YbV _ _ _ _ _ (Int.natCast_nonneg _) (Int.ofNat_le.2 (gE hs.1)) (Int.ofNat_le.2 (gE hs.2)) _
  ·cases h
 ·split at h
  ·replace h:=Yk h; obtain⟨hs,h⟩:=h
   cases h;exact Xbd _ _ _ (Int.natCast_nonneg _) (Int.ofNat_le.2 (gE hs)) _
  ·cases h
 ·split at h
  ·replace h:=Yk h; obtain⟨hs,h⟩:=h
   cases h;exact Ybd _ _ _ (Int.natCast_nonneg _) (Int.ofNat_le.2 (gE hs)) _
  ·cases h
 ·split at h
  ·replace h:=Yk h; obtain⟨hs,h⟩:=h
   simp only[Bool.and_eq_true] at hs;cases h;exact Yc3 _ _ _ _ _ (gE hs.1) (gE hs.2) _ _ (vY σ)
  ·cases h
 ·exact YbZ h
 ·split at h
  ·replace h:=Yk h; obtain⟨hs,h⟩:=h
   split at h
   ·rename_i hm;split at h
    ·rename_i hl; cases h; exact Zcx _ _ _ _ _ _ _ _ _ (Ydm hm) (RR hs) hl
    ·cases h
   ·cases h
  ·cases h
 ·split at h
  ·replace h:=Yk h; obtain⟨hs,h⟩:=h
   split at h
   ·rename_i hm;split at h
    ·rename_i hl; cases h; exact Ycx _ _ _ _ _ _ _ (E' hm) (RR hs) hl
    ·cases h
   ·cases h
  ·cases h
 ·split at h
  ·split at h
   ·rename_i hg
    replace h:=ZR h; rcases h with ⟨cp,h⟩|⟨cp,h⟩
    ·cases h;exact(Si _ _ _ _ (zm hg (by simp))).1 (gE cp)
    ·cases h;refine(Si _ _ _ _ (zm hg (by simp))).2 ?_;exact Nat.le_of_not_lt (λq=>by rw[show Nat.blt _ _=true from Nat.ble_eq_true_of_le q] at cp; cases cp)
   ·cases h
  ·cases h
 ·exact Mx h
def uF:List (Bool×Bool)→Bool
 |[]=>true
 |(true,true)::r=>uF r
 |(false,false)::r=>uF r
 |_=>false
def vo:Cons→Bool
 |[]=>true
 | (G,(x,y)) :: r=>(bif uF G then (match x,y with
  |true,true=>true
  |false,false=>true
  | _,_=>false) else ff G || false) && vo r
where ff:List (Bool×Bool)→Bool
 |[]=>false
 |(true,false)::_=>true
 |(false,true)::_=>true
 |_::r=>ff r
theorem M3:∀ {c:List (Bool×Bool)},vo.ff c=true→¬d_ c
 |[],h=>by simp[vo.ff] at h
 |(true,false)::r,h=>λq=>by have:=q _ (List.mem_cons_self ..); cases this
 |(false,true)::r,h=>λq=>by have:=q _ (List.mem_cons_self ..); cases this
 |(true,true)::r,h=>λq=>M3 (c:=r) h (λp hp=>q p (List.mem_cons_of_mem _ hp))
 |(false,false)::r,h=>λq=>M3 (c:=r) h (λp hp=>q p (List.mem_cons_of_mem _ hp))
theorem Yo{H:Prop}:∀(xs:List aa),kv (vW H) xs xs
 |[]=>trivial
 |x::xs=>⟨.inl rfl,Yo xs⟩
end Go.Ah
end
