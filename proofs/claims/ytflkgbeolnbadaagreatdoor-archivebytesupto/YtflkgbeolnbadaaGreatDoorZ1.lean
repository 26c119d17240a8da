/- Part of the proof that ArchiveBytes holds of the program for arguments that together hold at most 1048576 values and letters; no other condition. -/
import Derived.WalkKit
import Derived.Test.YtflkgbeolnbadaaGreatDoorProg
import Derived.IntWalk
import Derived.ChangeKeysEq
import Derived.RangeFuncLeaves
import Derived.Scope
import Derived.Sort.LoopGhostIn
set_option linter.all false
section
theorem YBE(b:Bool):b=true∨b=false:=Bool.eq_false_or_eq_true b
theorem YLG{α:Type}{l:List α}{i:Nat}{a:α}:l[i]?=some a→∃h:i<l.length,l[i]=a:=List.getElem?_eq_some_iff.1
theorem YNB{n m:Nat}:Nat.beq n m=true→n=m:=Nat.eq_of_beq_eq_true
theorem YNL{n m:Nat}:Nat.ble n m=true→n≤m:=Nat.le_of_ble_eq_true
theorem YIN{c:Prop}{h:Decidable c}(hnc:¬c){α:Sort _}{t e:α}:ite c t e=e:=if_neg hnc
theorem YIP{c:Prop}{h:Decidable c}(hc:c){α:Sort _}{t e:α}:ite c t e=t:=if_pos hc
theorem YDE{p:Prop}[Decidable p]:(decide p=true)=p:=decide_eq_true_eq
theorem YDT{p:Prop}[inst:Decidable p]:p→decide p=true:=decide_eq_true
theorem YDF{p:Prop}[inst:Decidable p]:¬p→decide p=false:=decide_eq_false
theorem YDN{p:Prop}{h:Decidable p}:(decide p=false)↔¬p:=decide_eq_false_iff_not
theorem YLD{α:Type}{i:Nat}{l:List α}(h:i<l.length):l.drop i=l[i]::l.drop (i+1):=List.drop_eq_getElem_cons h
namespace Go.Ah
structure LRec where
 n:Nat
 ps:Array Tmp
 a:Code
 b:Code
def XB(n:Nat):Code→List LRec
 |.rangeFunc _ ps a b=>⟨n,ps,a,b⟩::(XB n a++XB n b)
 |.seq a b | .cond _ a b=>XB n a++XB n b
 |.block _ a | .loop a | .scope a=>XB n a
 |_=>[]
def lpsOf(P:Program)(id:Nat):Option LRec:=(P.funcs[id/16]?).bind λf=>f.body.bind λc=>(XB f.ntmps c)[id%16]?
noncomputable def lps (id:Nat):Option LRec:=lpsOf Go.Proofs.Tryz.prog id
def POk(P:Program):Prop:=P.follows .mixedOrders=true∧∀id,lpsOf P id=lps id
def QN:Code→Nat
 |.rangeFunc _ _ a b=>QN a+QN b+1
 |.seq a b | .cond _ a b=>QN a+QN b
 |.block _ a | .loop a | .scope a=>QN a
 |_=>0
theorem XL(n:Nat)(c:Code):(XB n c).length=QN c:=by
 induction c<;>simp_all [XB,QN]
end Go.Ah
end
section
namespace Go.Ah
open Go.RowKit (Below)
inductive AVal where
 |junk
 |bool (b:Bool)
 |int (k:IntKind) (n:Int)
 |str (s:List UInt8)
 |nilp
 |bptr (b j:Nat)
 |ptr (b i j:Nat)
 |rptr (row:List AVal) (j:Nat)
 |nils
 |cap0
 |sl (b off len:Nat) (ex:Bool)
 |rsl (ex nn:Bool) (sz:Nat) (rows:List (List AVal))
 |map (b:Nat)
 |rmap (es:List (AVal×AVal))
 |nilmap
 |func (fn:Fn) (first captured:List AVal)
 |nilf
 |iface (t:TypeId) (v:AVal)
 |nili
 |agg (cs:List AVal)
 |tup (vs:List AVal)
 |when (cs:List (Bool×Bool)) (x:AVal)
 |iter (b:Nat)
 |bsl (b j len cap:Nat)
 deriving Inhabited
structure CB where
 blk:Nat
 sz:Nat
 tot:Nat
 virt:Bool
 base:Nat
def mcell(M:Nat→Option Obj)(b o:Nat):Option Value:=
 match M b with
 |some (.cells c _ _)=>c[o]?
 |_=>none
abbrev Own:=Nat→Option CB
def noOwn:Own:=λ_=>none
inductive Den (M:Nat→Option Obj):Own→AVal→Value→Prop
 |junk (c:Own) (v:Value):Den M c .junk v
 |bool (c:Own) (b:Bool):Den M c (.bool b) (.bool b)
 |int (c:Own) (k:IntKind) (n:Int):Den M c (.int k n) (.int k n)
 |str (c:Own) (s:ByteArray):Den M c (.str s.data.toList) (.string s)
 |nilp (c:Own):Den M c .nilp (.pointer none)
 |bptr (c:Own) (b j:Nat) (cb:CB):c b=some cb→Den M c (.bptr b j) (.pointer (some ⟨cb.blk,j,none⟩))
 |ptr (c:Own) (b i j:Nat) (cb:CB):c b=some cb→Den M c (.ptr b i j) (.pointer (some ⟨cb.blk,cb.base+i*cb.sz+j,none⟩))
 |rptr (c:Own) (row:List AVal) (j blk off:Nat) (f:Nat→Value) :
   (∀k,k<row.length→mcell M blk (off+k)=some (f k)) →
   (∀k x,row[k]?=some x→Den M noOwn x (f k)) →
   Den M c (.rptr row j) (.pointer (some ⟨blk,off+j,none⟩))
 |nils (c:Own):Den M c .nils (.slice none 0 0)
 |cap0 (c:Own) (a:Option Addr):Den M c .cap0 (.slice a 0 0)
 |sl (c:Own) (b off len:Nat) (ex:Bool) (cb:CB) (cap:Nat):c b=some cb→cb.virt=false→len≤cap→cb.base+(off+cap)*cb.sz=cb.tot →
   (ex=true→cap=len)→Den M c (.sl b off len ex) (.slice (some ⟨cb.blk,cb.base+off*cb.sz,none⟩) len cap)
 |slv (c:Own) (b:Nat) (ex:Bool) (cb:CB) (a:Option Addr):c b=some cb→cb.virt=true→Den M c (.sl b 0 0 ex) (.slice a 0 0)
 |sle (c:Own) (b off:Nat) (ex:Bool) (cb:CB) (a:Option Addr):c b=some cb→cb.virt=false→cb.sz≠0→cb.base+off*cb.sz=cb.tot→Den M c (.sl b off 0 ex) (.slice a 0 0)
 |rsl (c:Own) (ex nn:Bool) (sz:Nat) (rows:List (List AVal)) (a:Option Addr) (cap blk off:Nat) (f:Nat→Nat→Value) :
   (ex=true→cap=rows.length)→(nn=true→a.isSome=true)→(rows≠[]→a=some ⟨blk,off,none⟩)→(a=none→cap=0)→rows.length≤cap →
   (∀(i:Nat) (row:List AVal),rows[i]?=some row→row.length=sz) →
   (∀i j,i<rows.length→j<sz→mcell M blk (off+(i*sz+j))=some (f i j)) →
   (∀i row j x,rows[i]?=some row→row[j]?=some x→Den M noOwn x (f i j)) →
   Den M c (.rsl ex nn sz rows) (.slice a rows.length cap)
 |map (c:Own) (b:Nat) (cb:CB):c b=some cb→Den M c (.map b) (.map (some cb.blk))
 |rmap (c:Own) (es:List (AVal×AVal)) (blk:Nat) (arr:Array MapEntry) (clock:Nat):M blk=some (.map arr clock)→arr.size=es.length →
   (∀(i:Nat) (k x:AVal) (e:MapEntry),es[i]?=some (k,x)→arr[i]?=some e→Den M noOwn k e.key) →
   (∀(i:Nat) (k x:AVal) (e:MapEntry),es[i]?=some (k,x)→arr[i]?=some e→Den M noOwn x e.val) →
   Den M c (.rmap es) (.map (some blk))
 |nilmap (c:Own):Den M c .nilmap (.map none)
 |func (c:Own) (fn:Fn) (first captured:List AVal) (vs ws:Array Value):vs.size=first.length→ws.size=captured.length →
   (∀(i:Nat) (x:AVal) (v:Value),first[i]?=some x→vs[i]?=some v→Den M c x v)→(∀(i:Nat) (x:AVal) (v:Value),captured[i]?=some x→ws[i]?=some v→Den M c x v) →
   Den M c (.func fn first captured) (.func fn vs ws)
 |nilf (c:Own):Den M c .nilf .nilFunc
 |iface (c:Own) (t:TypeId) (x:AVal) (v:Value):Den M c x v→Den M c (.iface t x) (.iface t v)
 |nili (c:Own):Den M c .nili .nilIface
 |agg (c:Own) (cs:List AVal) (vs:Array Value):vs.size=cs.length→(∀(i:Nat) (x:AVal) (v:Value),cs[i]?=some x→vs[i]?=some v→Den M c x v)→Den M c (.agg cs) (.agg vs)
 |tup (c:Own) (cs:List AVal) (vs:Array Value):vs.size=cs.length→(∀(i:Nat) (x:AVal) (v:Value),cs[i]?=some x→vs[i]?=some v→Den M c x v)→Den M c (.tup cs) (.tuple vs)
 |when (c:Own) (cs:List (Bool×Bool)) (x:AVal) (v:Value):((∀p∈cs,p.1=p.2)→Den M c x v)→(¬(∀p∈cs,p.1=p.2)→v=undef)→Den M c (.when cs x) v
 |iter (c:Own) (b:Nat) (cb:CB):c b=some cb→cb.base=0→Den M c (.iter b) (.pointer (some ⟨cb.blk,0,none⟩))
 |yld (c:Own) (b:Nat) (cb:CB):c b=some cb→cb.base=1→Den M c (.iter b) (.func (.yield cb.blk) #[] #[])
 |bsl (c:Own) (b j len cap:Nat) (cb:CB):c b=some cb→len≤cap→Den M c (.bsl b j len cap) (.slice (some ⟨cb.blk,j,none⟩) len cap)
def MLe(M M':Nat→Option Obj):Prop:=∀b o,M b=some o→M' b=some o
def CLe(c c':Own):Prop:=∀b cb,c b=some cb→c' b=some cb
theorem MLe.refl(M:Nat→Option Obj):MLe M M:=λ_ _ h=>h
theorem MLe.trans{a b c:Nat→Option Obj}(h:MLe a b)(k:MLe b c):MLe a c:=λx o e=>k x o (h x o e)
theorem CLe.refl(c:Own):CLe c c:=λ_ _ h=>h
theorem CLe.trans{a b c:Own}(h:CLe a b)(k:CLe b c):CLe a c:=λx o e=>k x o (h x o e)
theorem CLe.noOwn(c:Own):CLe noOwn c:=λ_ _ h=>by simp[Ah.noOwn] at h
def Zdf:Obj→Bool
 |.cells .. | .map ..=>true
 |_=>false
def MLw(M M':Nat→Option Obj):Prop:=∀b o,M b=some o→Zdf o=true→M' b=some o
theorem MLe.w{M M':Nat→Option Obj}(h:MLe M M'):MLw M M':=λb o e _=>h b o e
theorem Qa4{M M':Nat→Option Obj}(h:MLw M M'){b o:Nat}{v:Value}(e:mcell M b o=some v):mcell M' b o=some v:=by
 unfold mcell at *;cases hb:M b with
 |none=>simp[hb] at e
 |some x=>
  cases x with
  |cells c t f=>rw[h b _ hb rfl]; simpa[hb] using e
  |_=>simp[hb] at e
theorem Den.monoW{M M':Nat→Option Obj}(hM:MLw M M'){c:Own}{x:AVal}{v:Value}(h:Den M c x v):∀ {c':Own},CLe c c'→Den M' c' x v:=by
 induction h with
 |junk=>intros; exact .junk _ _
 |bool=>intros; exact .bool _ _
 |int=>intros; exact .int _ _ _
 |str=>intros; exact .str _ _
 |nilp=>intros; exact .nilp _
 |bptr c b j cb e=>intro c' hc; exact .bptr _ _ _ _ (hc _ _ e)
 |ptr c b i j cb e=>intro c' hc; exact .ptr _ _ _ _ _ (hc _ _ e)
 |rptr c row j blk off f h1 h2 ih=>intro c' hc; exact .rptr _ _ _ _ _ f (λk hk=>Qa4 hM (h1 k hk)) (λk x e=>ih k x e (CLe.refl _))
 |nils=>intros; exact .nils _
 |cap0=>intros; exact .cap0 _ _
 |sl c b off len ex cb cap e h1 h2 h3 h4=>intro c' hc; exact .sl _ _ _ _ _ _ _ (hc _ _ e) h1 h2 h3 h4
 |slv c b ex cb a e h1=>intro c' hc; exact .slv _ _ _ _ _ (hc _ _ e) h1
 |sle c b off ex cb a e h1 h2 h3=>intro c' hc; exact .sle _ _ _ _ _ _ (hc _ _ e) h1 h2 h3
 |rsl c ex nn sz rows a cap blk off f h1 h2 h3 h3' h4 h5 h6 h7 ih=>
  intro c' hc; exact .rsl _ _ _ _ _ _ _ blk off f h1 h2 h3 h3' h4 h5 (λi j hi hj=>Qa4 hM (h6 i j hi hj)) (λi row j x e1 e2=>ih i row j x e1 e2 (CLe.refl _))
 |map c b cb e=>intro c' hc; exact .map _ _ _ (hc _ _ e)
 |rmap c es blk arr clock e h1 h2 h3 ih1 ih2=>
  intro c' hc; exact .rmap _ _ _ _ _ (hM _ _ e rfl) h1 (λi k x en e1 e2=>ih1 i k x en e1 e2 (CLe.refl _)) (λi k x en e1 e2=>ih2 i k x en e1 e2 (CLe.refl _))
 |nilmap=>intros; exact .nilmap _
 |func c fn first captured vs ws h1 h2 h3 h4 ih1 ih2=>
  intro c' hc; exact .func _ _ _ _ _ _ h1 h2 (λi x v e1 e2=>ih1 i x v e1 e2 hc) (λi x v e1 e2=>ih2 i x v e1 e2 hc)
 |nilf=>intros; exact .nilf _
 |iface c t x v h ih=>intro c' hc; exact .iface _ _ _ _ (ih hc)
 |nili=>intros; exact .nili _
 |agg c cs vs h1 h2 ih=>intro c' hc; exact .agg _ _ _ h1 (λi x v e1 e2=>ih i x v e1 e2 hc)
 |tup c cs vs h1 h2 ih=>intro c' hc; exact .tup _ _ _ h1 (λi x v e1 e2=>ih i x v e1 e2 hc)
 |when c cs x v h h2 ih=>intro c' hc; exact .when _ _ _ _ (λhp=>ih hp hc) h2
 |iter c b cb e h1=>intro c' hc; exact .iter _ _ _ (hc _ _ e) h1
 |yld c b cb e h1=>intro c' hc; exact .yld _ _ _ (hc _ _ e) h1
 |bsl c b j len cap cb e h1=>intro c' hc; exact .bsl _ _ _ _ _ _ (hc _ _ e) h1
theorem Den.mono{M M':Nat→Option Obj}(hM:MLe M M'){c:Own}{x:AVal}{v:Value}(h:Den M c x v){c':Own}(hc:CLe c c'):Den M' c' x v:=h.monoW hM.w hc
def AVal.cell:AVal→Bool
 |.junk | .agg _ | .tup _ | .when ..=>false
 |_=>true
theorem Den.oneCell{M:Nat→Option Obj}{c:Own}{x:AVal}{v:Value}(h:Den M c x v)(hx:x.cell=true):v.oneCell'=true:=by
 cases h<;>simp_all [AVal.cell,Value.oneCell']
inductive ABlk where
 |dead
 |box (row:List AVal)
 |rows (sz:Nat) (rows:List (List AVal))
 |map (es:List (AVal×AVal))
 |siter (s:List UInt8) (pos:Nat)
 |full (sz:Nat) (rows:List (List AVal))
 |lp (id:Nat) (row:List AVal) (st:Nat)
 deriving Inhabited
def ABlk.live:ABlk→Bool
 |.dead=>false
 |_=>true
def QcW:Nat→Code
 |0=>.ret
 |j+1=>.exit j
def LSt:Nat→Loop→Prop
 |0,r=>r.state=.ready∧r.pending=none
 |1,_=>True
 |j+2,r=>r.state=.done∧r.pending=some (QcW j)
abbrev PZ:=AVal→List ABlk→Prop
abbrev noZ:PZ:=λ_ _=>False
def BlkOk(M:Nat→Option Obj)(c:Own)(cb:CB)(o:Obj):ABlk→Prop
 |.dead=>True
 |.box row=>∃arr T,o=.cells arr T (0,0)∧arr.size=row.length∧∀(j:Nat) (x:AVal) (v:Value),row[j]?=some x→arr[j]?=some v→Den M c x v
 |.rows sz rows=>cb.sz=sz∧∃arr T,o=.cells arr T (0,0)∧arr.size=cb.tot∧cb.base+rows.length*sz≤cb.tot∧(∀(i:Nat) (row:List AVal),rows[i]?=some row→row.length=sz) ∧
   ∀(i:Nat) (row:List AVal) (j:Nat) (x:AVal) (v:Value),rows[i]?=some row→row[j]?=some x→arr[cb.base+i*sz+j]?=some v→Den M c x v
 |.map es=>∃arr clock,o=.map arr clock∧arr.size=es.length∧(∀(i:Nat) (k x:AVal) (e:MapEntry),es[i]?=some (k,x)→arr[i]?=some e→Den M c k e.key∧Den M c x e.val)
 |.siter s p=>o=.stringIter ⟨s.toArray⟩ p∧cb.base=0
 |.full sz rows=>cb.base+rows.length*sz=cb.tot∧cb.sz=sz∧∃arr T,o=.cells arr T (0,0)∧arr.size=cb.tot∧cb.base+rows.length*sz≤cb.tot∧(∀(i:Nat) (row:List AVal),rows[i]?=some row→row.length=sz) ∧
   ∀(i:Nat) (row:List AVal) (j:Nat) (x:AVal) (v:Value),rows[i]?=some row→row[j]?=some x→arr[cb.base+i*sz+j]?=some v→Den M c x v
 |.lp id row st=>cb.base=1∧∃(r:Loop) (lr:LRec),o=.loop r∧lps id=some lr∧r.params=lr.ps∧r.assign=lr.a∧r.body=lr.b∧r.tmps.size=lr.n∧LSt st r∧∀(j:Nat) (x:AVal) (v:Value),row[j]?=some x→r.tmps[j]?=some v→Den M c x v
theorem BlkOk.monoW{M M':Nat→Option Obj}(hM:MLw M M'){c c':Own}(hc:CLe c c'){cb:CB}{o:Obj}{b:ABlk}(h:BlkOk M c cb o b):BlkOk M' c' cb o b:=by
 cases b with
 |dead=>trivial
 |box row=>obtain⟨arr,T,h1,h2,h3⟩:=h; exact⟨arr,T,h1,h2,λj x v e1 e2=>(h3 j x v e1 e2).monoW hM hc⟩
 |rows sz rows=>obtain⟨h0,arr,T,h1,h2,h3,h4,h5⟩:=h; exact⟨h0,arr,T,h1,h2,h3,h4,λi row j x v e1 e2 e3=>(h5 i row j x v e1 e2 e3).monoW hM hc⟩
 |map es=>obtain⟨arr,clock,h1,h2,h3⟩:=h; exact⟨arr,clock,h1,h2,λi k x e e1 e2=>⟨(h3 i k x e e1 e2).1.monoW hM hc,(h3 i k x e e1 e2).2.monoW hM hc⟩⟩
 |siter s p=>exact h
 |full sz rows=>obtain⟨hq,h0,arr,T,h1,h2,h3,h4,h5⟩:=h; exact⟨hq,h0,arr,T,h1,h2,h3,h4,λi row j x v e1 e2 e3=>(h5 i row j x v e1 e2 e3).monoW hM hc⟩
 |lp id row st=>obtain⟨h0,r,lr,h1,h2,h3,h4,h5,h6,h7,h8⟩:=h; exact⟨h0,r,lr,h1,h2,h3,h4,h5,h6,h7,λj x v e1 e2=>(h8 j x v e1 e2).monoW hM hc⟩
theorem BlkOk.mono{M M':Nat→Option Obj}(hM:MLe M M'){c c':Own}(hc:CLe c c'){cb:CB}{o:Obj}{b:ABlk}(h:BlkOk M c cb o b):BlkOk M' c' cb o b:=h.monoW hM.w hc
structure Ln where
 l:List Nat
 M0:Nat→Option Obj
structure Keeps (L:Ln) (w w':World):Prop where
 os:w'.os=w.os
 tape:w'.tape=w.tape
 output:w'.output=w.output
 size:w.heap.size≤w'.heap.size
 block:∀k,k<w.heap.size→k∉L.l→w'.heap[k]?=w.heap[k]?
theorem Keeps.refl(L:Ln)(w:World):Keeps L w w:=⟨rfl,rfl,rfl,Nat.le_refl _,λ_ _ _=>rfl⟩
theorem Keeps.below{M:Nat→Option Obj}{w w':World}(h:Keeps ⟨[],M⟩ w w'):Below w.heap.size w w':=⟨h.os,h.tape,h.output,h.size,λk hk=>h.block k hk (by simp)⟩
abbrev Hp:=Nat→Option ABlk
def hup(h:Hp)(b:Nat)(x:ABlk):Hp:=λn=>if n=b then some x else h n
def hups(h:Hp):List (Nat×ABlk)→Hp
 |[]=>h
 |(b,x)::r=>hups (hup h b x) r
structure Gm where
 M:Nat→Option Obj
 c:Own
 dk:List Nat
def MkLe(M:Nat→Option Obj)(mk:List Nat)(M':Nat→Option Obj)(mk':List Nat):Prop:=∃l:List Nat,mk'=l++mk∧l.Nodup∧∀r∈l,M r=none∧M' r=some (.deferred (some []))
theorem MkLe.refl(M M':Nat→Option Obj)(mk:List Nat):MkLe M mk M' mk:=⟨[],rfl,.nil,by simp⟩
structure Gm.Le (g g':Gm):Prop where
 m:MLe g.M g'.M
 c:CLe g.c g'.c
 k:g'.dk=g.dk
theorem Gm.Le.refl(g:Gm):g.Le g:=⟨MLe.refl _,CLe.refl _,rfl⟩
theorem Gm.Le.trans{a b c:Gm}(h:a.Le b)(k:b.Le c):a.Le c:=⟨h.m.trans k.m,h.c.trans k.c,k.k.trans h.k⟩
structure Gm.LeK (g g':Gm):Prop where
 m:MLe g.M g'.M
 c:CLe g.c g'.c
 k:MkLe g.M g.dk g'.M g'.dk
theorem Gm.Le.toK{a b:Gm}(h:a.Le b):a.LeK b:=⟨h.m,h.c,by rw[h.k]; exact MkLe.refl _ _ _⟩
theorem Gm.LeK.refl(g:Gm):g.LeK g:=(Gm.Le.refl g).toK
theorem Gm.LeK.trans{a b c:Gm}(h:a.LeK b)(k:b.LeK c):a.LeK c:=⟨h.m.trans k.m,h.c.trans k.c,by
 obtain⟨l1,e1,n1,p1⟩:=h.k;obtain⟨l2,e2,n2,p2⟩:=k.k;refine⟨l2++l1,by rw[e2,e1,List.append_assoc],List.nodup_append.2 ⟨n2,n1,?_⟩,λr hr=>?_⟩
 ·rintro r h2 s h1 rfl;have:=(p2 r h2).1;rw[(p1 r h1).2] at this;cases this
 ·rcases List.mem_append.1 hr with h2|h1
  ·refine⟨?_,(p2 r h2).2⟩;cases ha:a.M r with
   |none=>rfl
   |some o=>have:=h.m _ _ ha; rw[(p2 r h2).1] at this; cases this
  ·exact⟨(p1 r h1).1,k.m _ _ (p1 r h1).2⟩⟩
def Gm.den(g:Gm)(x:AVal)(v:Value):Prop:=Den g.M g.c x v
theorem Gm.den_mono{g g':Gm}(h:g.Le g'){x:AVal}{v:Value}(d:g.den x v):g'.den x v:=Den.mono h.m d h.c
abbrev Globs:=List (Nat×List AVal)
structure Rep (GL:Globs) (w0:World) (L:Ln) (g:Gm) (h:Hp) (w:World):Prop where
 keeps:Keeps L w0 w
 stable:∀b o,g.M b=some o→w.heap[b]?=some o
 src:∀b o,g.M b=some o→L.M0 b=some o∨w0.heap.size≤b∨b∈L.l
 globs:∀p∈GL,Den g.M noOwn (.rptr p.2 0) (.pointer (some ⟨p.1,0,none⟩))
 empt:∀b,h b=none→g.c b=none
 dom:∀b blk,h b=some blk→∃cb,g.c b=some cb
 own:∀b blk cb,h b=some blk→blk.live=true→g.c b=some cb→cb.virt=false→g.M cb.blk=none∧(cb.blk∈L.l∨w0.heap.size≤cb.blk)∧∃o,w.heap[cb.blk]?=some o∧BlkOk g.M g.c cb o blk
 hollow:∀b blk cb,h b=some blk→blk.live=true→g.c b=some cb→cb.virt=true→blk=.rows cb.sz []
 inj:∀b b' blk blk' cb cb',h b=some blk→h b'=some blk'→blk.live=true→blk'.live=true→g.c b=some cb→g.c b'=some cb'→cb.virt=false→cb'.virt=false→cb.blk=cb'.blk→b=b'
 mks:∀r∈g.dk,w0.heap.size≤r
end Go.Ah
end
section
namespace Go.Ah
theorem Zl(h:Hp)(b:Nat)(x:ABlk):hup h b x b=some x:=by simp[hup]
theorem Yk(h:Hp){b n:Nat}(x:ABlk)(e:n≠b):hup h b x n=h n:=by simp[hup,e]
def cup(c:Own)(b:Nat)(x:CB):Own:=λn=>if n=b then some x else c n
theorem Yq(c:Own)(b:Nat)(x:CB):cup c b x b=some x:=by simp[cup]
theorem XP(c:Own){b n:Nat}(x:CB)(e:n≠b):cup c b x n=c n:=by simp[cup,e]
theorem CLe.cup{c:Own}{b:Nat}{x:CB}(h:c b=none):CLe c (cup c b x):=by
 intro n cb e
 grind [XP]
theorem Keeps.trans'{L:Ln}{a b c:World}(h:Keeps L a b)(os:c.os=b.os)(tape:c.tape=b.tape)(output:c.output=b.output)(size:b.heap.size≤c.heap.size)
 (block:∀k,k<a.heap.size→k∉L.l→c.heap[k]?=b.heap[k]?):Keeps L a c:=
 ⟨os.trans h.os,tape.trans h.tape,output.trans h.output,Nat.le_trans h.size size,λk hk hl=>(block k hk hl).trans (h.block k hk hl)⟩
section
variable {GL:Globs} {w0:World} {L:Ln} {g:Gm} {h:Hp} {w:World}
theorem Rep.lt_of_own(r:Rep GL w0 L g h w){b:Nat}{blk:ABlk}{cb:CB}(e:h b=some blk)(hl:blk.live=true)(ec:g.c b=some cb)(hv:cb.virt=false):cb.blk<w.heap.size:=by
 obtain⟨_,_,o,ho,_⟩:=r.own b blk cb e hl ec hv
 grind
theorem Rep.stable_lt(r:Rep GL w0 L g h w){b:Nat}{o:Obj}(e:g.M b=some o):b<w.heap.size:=
 (Array.getElem?_eq_some_iff.1 (r.stable b o e)).1
theorem Rep.drew(r:Rep GL w0 L g h w):Rep GL w0 L g h w.drew:=
 { r with keeps:=r.keeps.trans' rfl rfl rfl (Nat.le_refl _) (λ_ _ _=>rfl),stable:=r.stable,own:=r.own }
theorem Rep.alloc(r:Rep GL w0 L g h w){nb:Nat}(hn:h nb=none){o:Obj}{blk:ABlk}{cb:CB}(hb:cb.blk=w.heap.size)(hv:cb.virt=false)(hlv:blk.live=true)
 (ok:BlkOk g.M (cup g.c nb cb) cb o blk):Rep GL w0 L ⟨g.M,cup g.c nb cb,g.dk⟩ (hup h nb blk) (w.alloc o) where
 keeps:=r.keeps.trans' rfl rfl rfl (by simp) (λk hk _=>by
  show (w.heap.push o)[k]?=_;have:=r.keeps.size
  grind)
 stable:=λb o' e=>by
  have:=r.stable_lt e;show (w.heap.push o)[b]?=_;rw[Array.getElem?_push,YIN (by omega)]; exact r.stable b o' e
 globs:=r.globs
 src:=r.src
 mks:=r.mks
 empt:=λb e=>by
  by_cases hbn:b=nb
  ·subst hbn; rw[Zl] at e; cases e
  ·rw[Yk _ _ hbn] at e; show cup g.c nb cb b=none; rw[XP _ _ hbn]; exact r.empt b e
 dom:=λb blk' e=>by
  by_cases hbn:b=nb
  ·simp_all [Yq]
  ·rw[Yk _ _ hbn] at e; obtain⟨x,hx⟩:=r.dom b blk' e; simp_all [XP]
 own:=λb blk' cb' e hl ec hv'=>by
  have hcc:=r.empt nb hn;by_cases hbn:b=nb
  ·subst hbn;rw[Zl] at e; cases e;have:cb'=cb:=by grind [Yq]
   subst this;refine⟨?_,.inr (by rw[hb]; exact r.keeps.size),o,?_,ok⟩
   ·cases hM:g.M cb'.blk with
    |none=>rfl
    |some x=>have:=r.stable_lt hM; omega
   ·show (w.heap.push o)[cb'.blk]?=_; rw[hb]; simp
  ·rw[Yk _ _ hbn] at e;have ec':g.c b=some cb':=by simp_all [XP]
   obtain⟨h1,h2,o',ho,hok⟩:=r.own b blk' cb' e hl ec' hv';have:=r.lt_of_own e hl ec' hv';refine⟨h1,h2,o',?_,hok.mono (MLe.refl _) (CLe.cup hcc)⟩;show (w.heap.push o)[cb'.blk]?=_
   grind
 hollow:=λb blk' cb' e hl ec hv'=>by
  by_cases hbn:b=nb
  ·grind [Yq]
  ·rw[Yk _ _ hbn] at e;have ec':g.c b=some cb':=by simp_all [XP]
   exact r.hollow b blk' cb' e hl ec' hv'
 inj:=λb b' blk1 blk2 cb1 cb2 e1 e2 l1 l2 c1 c2 v1 v2 hblk=>by
  have key:∀b blk' cb',hup h nb blk b=some blk'→blk'.live=true→cup g.c nb cb b=some cb'→cb'.virt=false→b≠nb→cb'.blk<w.heap.size:=by
   intro b blk' cb' e hl ec hv' hbn;rw[Yk _ _ hbn] at e; rw[XP _ _ hbn] at ec;exact r.lt_of_own e hl ec hv'
  by_cases h1:b=nb
  ·grind [Yq]
  ·by_cases h2:b'=nb
   ·grind [Yq]
   ·rw[Yk _ _ h1] at e1; rw[Yk _ _ h2] at e2;have c1':g.c b=some cb1:=by simp_all [XP]
    have c2':g.c b'=some cb2:=by simp_all [XP]
    exact r.inj b b' blk1 blk2 cb1 cb2 e1 e2 l1 l2 c1' c2' v1 v2 hblk
theorem Rep.le_alloc(r:Rep GL w0 L g h w){nb:Nat}(hn:h nb=none)(cb:CB):g.Le ⟨g.M,cup g.c nb cb,g.dk⟩:=⟨MLe.refl _,CLe.cup (r.empt nb hn),rfl⟩
theorem Rep.write(r:Rep GL w0 L g h w){b:Nat}{blk blk':ABlk}{cb:CB}(e:h b=some blk)(hl:blk.live=true)(ec:g.c b=some cb)(hv:cb.virt=false)(hl':blk'.live=true)
 {o':Obj}{w':World}(hos:w'.os=w.os)(htape:w'.tape=w.tape)(hout:w'.output=w.output)(hheap:w'.heap=w.heap.setIfInBounds cb.blk o')
 (ok:BlkOk g.M g.c cb o' blk'):Rep GL w0 L g (hup h b blk') w':=by
 have hlt:=r.lt_of_own e hl ec hv;obtain⟨hM,hin,_⟩:=r.own b blk cb e hl ec hv;have other:∀k,k≠cb.blk→w'.heap[k]?=w.heap[k]?:=by
  grind
 exact {
  keeps:=r.keeps.trans' hos htape hout (by rw[hheap]; simp) (λk hk hkl=>other k (by
   grind))
  stable:=λk o ek=>by rw[other k (by rintro rfl; rw[hM] at ek; cases ek)]; exact r.stable k o ek
  globs:=r.globs
  src:=r.src
  mks:=r.mks
  empt:=λn en=>by
   by_cases hn:n=b
   ·subst hn; rw[Zl] at en; cases en
   ·rw[Yk _ _ hn] at en; exact r.empt n en
  dom:=λn x en=>by
   by_cases hn:n=b
   ·subst hn; exact⟨cb,ec⟩
   ·rw[Yk _ _ hn] at en; exact r.dom n x en
  own:=λn x cb' en hln ecn hvn=>by
   by_cases hn:n=b
   ·simp_all [Zl]
   ·rw[Yk _ _ hn] at en;obtain⟨h1,h2,o,ho,hok⟩:=r.own n x cb' en hln ecn hvn;refine⟨h1,h2,o,?_,hok⟩;rw[other _ (λeq=>hn (r.inj n b x blk cb' cb en e hln hl ecn ec hvn hv eq))]; exact ho
  hollow:=λn x cb' en hln ecn hvn=>by
   by_cases hn:n=b
   ·simp_all
   ·rw[Yk _ _ hn] at en; exact r.hollow n x cb' en hln ecn hvn
  inj:=λn n' x x' cb1 cb2 e1 e2 l1 l2 c1 c2 v1 v2 hblk=>by
   have back:∀n x,hup h b blk' n=some x→x.live=true→∃y,h n=some y∧y.live=true:=by
    grind [Yk]
   obtain⟨y1,f1,g1⟩:=back n x e1 l1;obtain⟨y2,f2,g2⟩:=back n' x' e2 l2;exact r.inj n n' y1 y2 cb1 cb2 f1 f2 g1 g2 c1 c2 v1 v2 hblk }
theorem Rep.kill(r:Rep GL w0 L g h w){b:Nat}{blk:ABlk}(e:h b=some blk):Rep GL w0 L g (hup h b .dead) w where
 keeps:=r.keeps
 stable:=r.stable
 globs:=r.globs
 src:=r.src
 mks:=r.mks
 empt:=λn en=>by
  by_cases hn:n=b
  ·subst hn; rw[Zl] at en; cases en
  ·rw[Yk _ _ hn] at en; exact r.empt n en
 dom:=λn x en=>by
  by_cases hn:n=b
  ·subst hn; exact r.dom n blk e
  ·rw[Yk _ _ hn] at en; exact r.dom n x en
 own:=λn x cb' en hln=>by
  by_cases hn:n=b
  ·grind [ABlk.live,Zl]
  ·rw[Yk _ _ hn] at en; exact r.own n x cb' en hln
 hollow:=λn x cb' en hln=>by
  by_cases hn:n=b
  ·grind [ABlk.live,Zl]
  ·rw[Yk _ _ hn] at en; exact r.hollow n x cb' en hln
 inj:=λn n' x x' cb1 cb2 e1 e2 l1 l2=>by
  have back:∀n x,hup h b .dead n=some x→x.live=true→h n=some x:=by
   grind [ABlk.live,Zl,Yk]
  exact r.inj n n' x x' cb1 cb2 (back n x e1 l1) (back n' x' e2 l2) l1 l2
theorem Rep.ghost(r:Rep GL w0 L g h w){nb:Nat}(hn:h nb=none)(sz:Nat):Rep GL w0 L ⟨g.M,cup g.c nb ⟨0,sz,0,true,0⟩,g.dk⟩ (hup h nb (.rows sz [])) w:=by
 have hcc:=r.empt nb hn;have cle:=CLe.cup (x:=⟨0,sz,0,true,0⟩) hcc;have cback:∀n cb,cup g.c nb ⟨0,sz,0,true,0⟩ n=some cb→cb.virt=false→g.c n=some cb∧n≠nb:=by
  grind [Yq,XP]
 exact {
  keeps:=r.keeps
  stable:=r.stable
  globs:=r.globs
  src:=r.src
  mks:=r.mks
  empt:=λn en=>by
   by_cases hbn:n=nb
   ·simp_all [Zl]
   ·rw[Yk _ _ hbn] at en; show cup g.c nb _ n=none; rw[XP _ _ hbn]; exact r.empt n en
  dom:=λn x en=>by
   by_cases hbn:n=nb
   ·simp_all [Yq]
   ·rw[Yk _ _ hbn] at en; obtain⟨x,hx⟩:=r.dom n x en; simp_all [XP]
  own:=λn x cb en hln ecn hvn=>by
   obtain⟨ec,hbn⟩:=cback n cb ecn hvn;rw[Yk _ _ hbn] at en;obtain⟨h1,h2,o,ho,hok⟩:=r.own n x cb en hln ec hvn;exact⟨h1,h2,o,ho,hok.mono (MLe.refl _) cle⟩
  hollow:=λn x cb en hln ecn hvn=>by
   by_cases hbn:n=nb
   ·grind [Zl,Yq]
   ·rw[Yk _ _ hbn] at en;have:cup g.c nb ⟨0,sz,0,true,0⟩ n=some cb:=ecn;rw[XP _ _ hbn] at this;exact r.hollow n x cb en hln this hvn
  inj:=λn n' x x' cb1 cb2 e1 e2 l1 l2 c1 c2 v1 v2 hblk=>by
   obtain⟨d1,n1⟩:=cback n cb1 c1 v1;obtain⟨d2,n2⟩:=cback n' cb2 c2 v2;rw[Yk _ _ n1] at e1; rw[Yk _ _ n2] at e2;exact r.inj n n' x x' cb1 cb2 e1 e2 l1 l2 d1 d2 v1 v2 hblk }
def mup(M:Nat→Option Obj)(b:Nat)(o:Obj):Nat→Option Obj:=λn=>if n=b then some o else M n
def shutM(l:List Nat)(M:Nat→Option Obj):Nat→Option Obj:=λb=>if b∈l then none else M b
def shutW:List Nat→World→World
 |[],w=>w
 |r::l,w=>shutW l { w with heap:=w.heap.setIfInBounds r (.deferred none) }
theorem YbK{l:List Nat}{M:Nat→Option Obj}(h:∀r∈l,M r=some (.deferred (some []))):MLw M (shutM l M):=by
 intro b o e hd;unfold shutM;split
 ·rename_i hb;rw[h b hb] at e; cases e; cases hd
 ·exact e
theorem Rep.shut1{dk:List Nat}(r:Rep GL w0 L g h w){q:Nat}(hq:g.M q=some (.deferred (some [])))(hlo:w0.heap.size≤q)(hmk:∀r∈dk,w0.heap.size≤r) :
  Rep GL w0 L ⟨shutM [q] g.M,g.c,dk⟩ h { w with heap:=w.heap.setIfInBounds q (.deferred none) }:=by
 have hw:MLw g.M (shutM [q] g.M):=YbK (by simpa using hq);have oth:∀k,k≠q→(w.heap.setIfInBounds q (.deferred none))[k]?=w.heap[k]?:=by grind
 exact {
  keeps:=r.keeps.trans' rfl rfl rfl (by simp) (λk hk _=>oth k (by omega))
  stable:=λb o e=>by
   have e:shutM [q] g.M b=some o:=e;unfold shutM at e;split at e
   ·cases e
   ·rename_i hb;show (w.heap.setIfInBounds q (.deferred none))[b]?=some o;rw[oth b (by simpa using hb)]; exact r.stable b o e
  src:=λb o e=>by
   have e:shutM [q] g.M b=some o:=e;unfold shutM at e;split at e
   ·cases e
   ·exact r.src b o e
  globs:=λp hp=>(r.globs p hp).monoW hw (CLe.refl _)
  empt:=r.empt
  dom:=r.dom
  own:=λb blk cb e hl ec hv=>by
   obtain⟨h1,h2,o,h3,h4⟩:=r.own b blk cb e hl ec hv;have hne:cb.blk≠q:=by rintro rfl; rw[hq] at h1; cases h1
   refine⟨?_,h2,o,?_,h4.monoW hw (CLe.refl _)⟩
   ·show shutM [q] g.M cb.blk=none;unfold shutM; split<;>first|rfl|exact h1
   ·show (w.heap.setIfInBounds q (.deferred none))[cb.blk]?=some o;rw[oth _ hne]; exact h3
  hollow:=r.hollow
  inj:=r.inj
  mks:=hmk }
theorem Rep.shut:∀(l:List Nat) {g:Gm} {w:World} {dk:List Nat},Rep GL w0 L g h w→l.Nodup→(∀r∈l,g.M r=some (.deferred (some []))∧w0.heap.size≤r)→(∀r∈dk,w0.heap.size≤r) →
  Rep GL w0 L ⟨shutM l g.M,g.c,dk⟩ h (shutW l w)
 |[],g,w,dk,r,_,_,hmk=>by
  have:shutM [] g.M=g.M:=by funext b; simp[shutM]
  rw[this];exact { r with mks:=hmk }
 |q::l,g,w,dk,r,hn,hl,hmk=>by
  have hq:=hl q (by simp);have hnq:=List.nodup_cons.1 hn;have r1:=r.shut1 hq.1 hq.2 (dk:=dk) hmk;have:=Rep.shut l r1 hnq.2 (λx hx=>⟨by
   show shutM [q] g.M x=_;unfold shutM;rw[YIN (by simp; rintro rfl; exact hnq.1 hx)];exact(hl x (by simp[hx])).1,(hl x (by simp[hx])).2⟩) hmk
  have e:shutM l (shutM [q] g.M)=shutM (q::l) g.M:=by
   funext b
   simp only[shutM,List.mem_cons,List.not_mem_nil,or_false]
   grind
  rw[←e];exact this
end
end Go.Ah
end
section
namespace Go.Ah
def nth{α:Type}:List α→Nat→Option α
 |[],_=>none
 |x::_,0=>some x
 |_::l,n+1=>nth l n
def dropN{α:Type}:Nat→List α→List α
 |0,l=>l
 |_+1,[]=>[]
 |n+1,_::l=>dropN n l
def takeN{α:Type}:Nat→List α→Option (List α)
 |0,_=>some []
 |_+1,[]=>none
 |n+1,x::l=>match takeN n l with
  |some r=>some (x::r)
  |none=>none
def splice{α:Type}:Nat→List α→List α→Option (List α)
 |_,[],l=>some l
 |0,_::_,[]=>none
 |0,c::cs,_::l=>match splice 0 cs l with
  |some r=>some (c::r)
  |none=>none
 |_+1,_::_,[]=>none
 |j+1,c::cs,x::l=>match splice j (c::cs) l with
  |some r=>some (x::r)
  |none=>none
def ZO{α:Type}:Nat→α→List α→Option (List α)
 |_,_,[]=>none
 |0,c,_::l=>some (c::l)
 |j+1,c,x::l=>match ZO j c l with
  |some r=>some (x::r)
  |none=>none
def chunk{α:Type}(sz:Nat):Nat→List α→Option (List (List α))
 |0,_=>some []
 |n+1,l=>match takeN sz l,chunk sz n (dropN sz l) with
  |some r,some rs=>some (r::rs)
  |_,_=>none
theorem YU{α:Type}(l:List α)(n:Nat):nth l n=l[n]?:=by
 induction l generalizing n with
 |nil=>simp[nth]
 |cons x l ih=>cases n<;>simp_all [nth]
theorem Zat{α:Type}(n:Nat)(l:List α):dropN n l=l.drop n:=by
 induction n generalizing l with
 |zero=>simp[dropN]
 |succ n ih=>cases l<;>simp_all [dropN]
theorem XaD{α:Type}{n:Nat}{l r:List α}(h:takeN n l=some r):r.length=n∧n≤l.length∧∀i,i<n→r[i]?=l[i]?:=by
 induction n generalizing l r with
 |zero=>simp_all [takeN]
 |succ n ih=>
  cases l<;>grind [takeN]
theorem Z5{α:Type}{j:Nat}{cs l r:List α}(h:splice j cs l=some r):r.length=l.length∧(cs≠[]→j+cs.length≤l.length)∧∀i,r[i]?=if j≤i∧i<j+cs.length then cs[i-j]? else l[i]?:=by
 induction l generalizing j cs r with
 |nil=>
  cases cs with
  |nil=>simp_all [splice]
  |cons c cs=>cases j<;>simp[splice] at h
 |cons x l ih=>
  cases cs with
  |nil=>simp only[splice] at h; grind
  |cons c cs=>
   cases j with
   |zero=>
    grind [splice]
   |succ j=>
    simp only[splice] at h;cases ht:splice j (c::cs) l<;>grind
theorem ZbK{α:Type}{j:Nat}{c:α}{l r:List α}(h:ZO j c l=some r):r.length=l.length∧j<l.length∧∀i,r[i]?=if i=j then some c else l[i]?:=by
 induction l generalizing j r with
 |nil=>cases j<;>simp[ZO] at h
 |cons x l ih=>
  cases j with
  |zero=>simp only[ZO] at h; grind
  |succ j=>
   grind [ZO]
theorem Qa0{α:Type}{sz n:Nat}{l:List α}{rs:List (List α)}(h:chunk sz n l=some rs):rs.length=n∧(n*sz≤l.length∨n=0)∧(∀(i:Nat) (row:List α),rs[i]?=some row→row.length=sz) ∧
  ∀(i:Nat) (row:List α) (j:Nat) (x:α),rs[i]?=some row→row[j]?=some x→l[i*sz+j]?=some x:=by
 induction n generalizing l rs with
 |zero=>simp_all [chunk]
 |succ n ih=>
  simp only[chunk] at h;cases ht:takeN sz l with
  |none=>simp[ht] at h
  |some r=>
   cases hc:chunk sz n (dropN sz l) with
   |none=>simp[ht,hc] at h
   |some rs'=>
    simp only[ht,hc] at h; cases h;obtain⟨t1,t2,t3⟩:=XaD ht;obtain⟨h1,h2,h3,h4⟩:=ih hc;rw[Zat] at h2 h4;refine⟨by simp[h1],.inl ?_,λi row e=>?_,λi row j x e1 e2=>?_⟩
    ·grind
    ·grind
    ·cases i with
     |zero=>
      grind
     |succ i=>
      simp at e1
      grind
def aCell:Value→Option AVal
 |.bool b=>some (.bool b)
 |.int k n=>some (.int k n)
 |.string s=>some (.str s.data.toList)
 |.pointer none=>some .nilp
 |.slice none 0 0=>some .nils
 |.map none=>some .nilmap
 |.nilFunc=>some .nilf
 |.nilIface=>some .nili
 |_=>none
def QC:List Value→Option (List AVal)
 |[]=>some []
 |v::l=>match aCell v,QC l with
  |some x,some r=>some (x::r)
  |_,_=>none
def aVal:Value→Option AVal
 |.agg cs=>(QC cs.toList).map .agg
 |v=>aCell v
theorem Xbj{M:Nat→Option Obj}{c:Own}{v:Value}{x:AVal}(h:aCell v=some x):Den M c x v:=by
 unfold aCell at h;split at h<;>first|(cases h; constructor)|cases h
theorem YH{M:Nat→Option Obj}{c:Own}{l:List Value}{xs:List AVal}(h:QC l=some xs):l.length=xs.length∧∀(i:Nat) (x:AVal) (v:Value),xs[i]?=some x→l[i]?=some v→Den M c x v:=by
 induction l generalizing xs with
 |nil=>simp_all [QC]
 |cons v l ih=>
  grind [QC,Xbj]
theorem Qan{M:Nat→Option Obj}{c:Own}{v:Value}{x:AVal}(h:aVal v=some x):Den M c x v:=by
 unfold aVal at h;split at h
 ·rename_i cs;cases hc:QC cs.toList with
  |none=>simp[hc] at h
  |some xs=>
   simp[hc] at h; subst h;obtain⟨h1,h2⟩:=YH (M:=M) (c:=c) hc;exact .agg _ _ _ (by simpa using h1) (λi x v e1 e2=>h2 i x v e1 (by simpa using e2))
 ·exact Xbj h
abbrev Frame:=List (Nat×AVal)
def fget:Frame→Nat→AVal
 |[],_=>.junk
 |(k,v)::r,n=>bif Nat.beq k n then v else fget r n
inductive Opd where
 |t (n:Nat)
 |c (v:AVal)
 deriving Inhabited
def ev(ρ:Frame):Opd→AVal
 |.t n=>fget ρ n
 |.c v=>v
inductive OpdOk (GL:Globs):Operand→Opd→Prop
 |tmp (t:Nat):OpdOk GL (.tmp t) (.t t)
 |const (v:Value) (x:AVal):aVal v=some x→OpdOk GL (.const v) (.c x)
 |glob (g:Nat) (row:List AVal):(g,row)∈GL→OpdOk GL (.global g) (.c (.rptr row 0))
 |func (f:FuncId):OpdOk GL (.func f) (.c (.func (.func f) [] []))
structure DenF (n:Nat) (g:Gm) (ρ:Frame) (a:Act):Prop where
 size:a.tmps.size=n
 slot:∀t,g.den (fget ρ t) (a.tmps.getD t undef)
 defers:a.defers=g.dk.map λr=>{ target:=.collected r,args:=#[] }
theorem DenF.nil{n:Nat}{g:Gm}{ρ:Frame}{a:Act}(h:DenF n g ρ a):DenF n g [] a:=⟨h.size,λ_=>.junk _ _,h.defers⟩
theorem DenF.mono{n:Nat}{g g':Gm}{ρ:Frame}{a:Act}(h:DenF n g ρ a)(hg:g.Le g'):DenF n g' ρ a:=⟨h.size,λt=>Gm.den_mono hg (h.slot t),by rw[hg.k]; exact h.defers⟩
theorem ZA(ρ:Frame)(d:Nat)(v:AVal)(t:Nat):fget ((d,v)::ρ) t=if t=d then v else fget ρ t:=by
 simp only[fget];by_cases h:t=d
 ·subst h; simp[Nat.beq_refl]
 ·rw[YIN h]
  grind [YNB]
theorem DenF.put{n:Nat}{g:Gm}{ρ:Frame}{a:Act}(h:DenF n g ρ a){d:Nat}(hd:d<n){x:AVal}{v:Value}(hx:g.den x v):DenF n g ((d,x)::ρ) (a.put (some d) v):=by
 refine⟨by simp[Act.put,h.size],λt=>?_,h.defers⟩;rw[ZA];have hs:=h.size;by_cases ht:t=d
 ·simp_all [Act.put]
 ·rw[YIN ht];have:(a.put (some d) v).tmps.getD t undef=a.tmps.getD t undef:=by
   simp[Act.put,Array.getD_eq_getD_getElem?,Array.getElem?_setIfInBounds_ne (λe=>ht e.symm)]
  rw[this]; exact h.slot t
theorem DenF.opd{GL:Globs}{w0:World}{L:Ln}{g:Gm}{h:Hp}{w:World}(r:Rep GL w0 L g h w){n:Nat}{ρ:Frame}{a:Act}(d:DenF n g ρ a){x:Operand}{y:Opd}(ok:OpdOk GL x y):g.den (ev ρ y) (a.eval x):=by
 cases ok with
 |tmp t=>exact d.slot t
 |const v x e=>exact Qan e
 |glob gl row e=>exact(r.globs _ e).mono (MLe.refl _) (CLe.noOwn _)
 |func f=>exact .func _ _ _ _ _ _ rfl rfl (by simp) (by simp)
inductive NilCls where
 |ptr|slice|iface|func|map
 deriving Inhabited
inductive XK where
 |sliceA (len esz:Nat) (lo hi:Bool)
 |copyS (esz:Nat)
 |toStr
 |same
 |arrP (n:Nat)
 |look (ok:Bool) (z:AVal)
 |upd
 |eqT (neq:Bool) (n:Nat)
 |panic
 deriving Inhabited
inductive MK where
 |x (q:XK)
 |mv
 |pick
 |alloc (z:List AVal)
 |box
 |build (z:List AVal) (ps:List (Nat×Nat))
 |buildS (sz n:Nat) (z:List AVal) (ps:List (Nat×Nat))
 |load (agg:Bool) (n:Nat)
 |store (n:Nat)
 |nilCheck
 |bin (op:BinOp) (isBool:Bool)
 |eqNil (c:NilCls) (neq left:Bool)
 |eqS (neq:Bool) (ls:List Bool)
 |un (op:UnOp)
 |conv (k:IntKind)
 |mkIface (t:TypeId)
 |mkFunc (fn:Fn) (n:Nat)
 |makeMap
 |fieldAddr (off:Nat)
 |field (agg:Bool) (off n:Nat)
 |idxAddrA (len esz:Nat)
 |idxAddrS (esz:Nat)
 |idxA (agg:Bool) (len esz:Nat)
 |idxStr
 |extract (i:Nat)
 |sliceS (esz:Nat) (lo hi mx:Bool)
 |sliceStr (lo hi:Bool)
 |lenS
 |lenStr
 |lenA (n:Nat)
 |lenM
 |min2
 |max2
 |append (esz bytes:Nat) (z:List AVal)
 |call (f:FuncId)
 |callv
 |lookup (str ok:Bool) (z:AVal)
 |mapUpd (str:Bool)
 |range
 |next
 |assertT (t:TypeId) (ok:Bool) (z:AVal)
 |invoke (name:String) (tbl:List (TypeId×FuncId))
 |clearS (esz:Nat) (z:List AVal)
 |makeS (esz bytes:Nat) (z:List AVal)
 |buildS0 (esz:Nat)
 |bad
 |assertI (tbl:List TypeId)
 deriving Inhabited
def isAgg?(P:Program)(t:TypeId):Option Bool:=
 match P.underlying t with
 |some (.struct _)=>some true
 |some (.array _ _)=>some true
 |some _=>some false
 |none=>none
def size?(P:Program)(t:TypeId):Option Nat:=(P.info? t).map (·.size)
def zero?(P:Program)(t:TypeId):Option Value:=(P.info? t).bind (·.zero)
def elemS?(P:Program)(t:TypeId):Option TypeId:=
 match P.underlying t with
 |some (.slice e)=>some e
 |_=>none
def clsT(P:Program)(t:TypeId):Option NilCls:=
 match P.underlying t with
 |some (.pointer _)=>some .ptr
 |some (.slice _)=>some .slice
 |some (.interface _)=>some .iface
 |some (.func _ _ _)=>some .func
 |some (.map _ _)=>some .map
 |_=>none
def nilV:NilCls→Value
 |.ptr=>.pointer none
 |.slice=>.slice none 0 0
 |.iface=>.nilIface
 |.func=>.nilFunc
 |.map=>.map none
def leaf?(P:Program)(t:TypeId):Option Bool:=
 match P.underlying t with
 |some (.int _)=>some false
 |some .bool=>some true
 |_=>none
def leaves?(P:Program)(t:TypeId):Option (List Bool):=
 match P.underlying t with
 |some (.struct fs)=>
  if fs.toList.all (λf=>f.name != "_")&&(fs.toList.map (·.offset)==List.range' 0 fs.toList.length) then fs.toList.mapM (λf=>leaf? P f.type) else none
 |_=>none
def Qi(P:Program)(f:FuncId):Bool:=
 match P.funcs[f]? with
 |some fn=>fn.name != "runtime.NumGoroutine" && fn.body.isSome
 |none=>false
def ZbS(P:Program)(name:String)(t:TypeId):Option FuncId:=
 match P.info? t with
 |none=>none
 |some i=>match i.methods.find? (·.name==name) with
  |none=>none
  |some m=>match m.path.isEmpty,m.func,P.underlying t with
   |true,some (f,true),some (.pointer _)=>some f
   |true,some (_,false),some (.pointer _)=>none
   |true,some (f,false),some _=>some f
   |_,_,_=>none
def Yct(P:Program)(name:String):List (TypeId×FuncId):=(List.range P.types.size).filterMap λt=>match ZbS P name t with
 |some f=>bif Qi P f then some (t,f) else none
 |none=>none
def ZaV(t:Nat):List (Nat×Nat)→Option Nat
 |[]=>none
 |(u,f)::r=>bif Nat.beq t u then some f else ZaV t r
theorem Zan{t f:Nat}:∀ {l:List (Nat×Nat)},ZaV t l=some f→(t,f)∈l
 |[],h=>by cases h
 |(u,g)::r,h=>by
  unfold ZaV at h;cases hb:Nat.beq t u with
  |true=>rw[hb] at h; cases h; rw[YNB hb]; simp
  |false=>rw[hb] at h; exact List.mem_cons_of_mem _ (Zan h)
def KeyT(P:Program)(k:TypeId):Bool→Prop
 |true=>P.underlying k=some .string
 |false=>∃q,P.underlying k=some (.int q)
def KeySI(P:Program)(k:TypeId):Prop:=∃f0 f1 i,P.underlying k=some (.struct #[f0,f1])∧f0.name≠"_"∧f1.name≠"_"∧f0.offset=0∧f1.offset=1 ∧
 P.underlying f0.type=some .string∧P.underlying f1.type=some (.int i)∧P.stoodInHeld k=false
inductive CompX (P:Program):Op→XK→List Operand→Prop
 |sliceA (t:TypeId) (x:Operand) (lo hi:Option Operand) (len:Nat) (e:TypeId) (n:Nat):P.underlying t=some (.array len e)→size? P e=some n →
   CompX P (.slice t x lo hi none) (.sliceA len n lo.isSome hi.isSome) ([x]++lo.toList++hi.toList)
 |copyS (t t' e:TypeId) (x y:Operand) (n:Nat):P.underlying t=some (.slice e)→size? P e=some n→n≠0→CompX P (.call ⟨.builtin .copy,#[x,y],#[t,t']⟩) (.copyS n) [x,y]
 |toStr (s d e:TypeId) (x:Operand):P.underlying s=some (.slice e)→P.underlying e=some (.int .u8)→P.underlying d=some .string→CompX P (.convert s d x) .toStr [x]
 |same (s e:TypeId) (x:Operand):P.underlying s=some (.slice e)→P.underlying e=some (.int .u8)→CompX P (.convert s s x) .same [x]
 |arrP (t:TypeId) (x:Operand) (n:Nat) (e:TypeId):P.underlying t=some (.array n e)→CompX P (.sliceToArrayPointer t x) (.arrP n) [x]
 |look (t k e:TypeId) (x i:Operand) (ok:Bool) (v:Value) (z:AVal):P.underlying t=some (.map k e)→KeySI P k→zero? P e=some v→aVal v=some z→CompX P (.lookup t x i ok) (.look ok z) [x,i]
 |upd (t k e:TypeId) (x i y:Operand):P.underlying t=some (.map k e)→KeySI P k→CompX P (.mapUpdate t x i y) .upd [x,i,y]
 |ins (t k e:TypeId) (x i y:Operand):P.underlying t=some (.map k e)→KeySI P k→CompX P (.insert t x i y) .upd [x,i,y]
 |eqT (neq:Bool) (t t' e:TypeId) (x y:Operand) (n:Nat) (i:TypeInfo):P.underlying t=some (.array n e)→P.underlying e=some .string→P.info? e=some i→P.cellsOf e=1→P.eqGuardType P.depth t=false →
   CompX P (.binOp (if neq then .neq else .eql) t x y t') (.eqT neq n) [x,y]
 |panic (x:Operand):CompX P (.panic x) .panic [x]
def QbF:Op→Bool
 |.defer _=>true
 |_=>false
inductive Comp (P:Program) (GL:Globs):Op→MK→List Operand→Prop
 |move (x:Operand):Comp P GL (.move x) .mv [x]
 |assign (x:Operand):Comp P GL (.assign x) .mv [x]
 |pick (c a b:Operand):Comp P GL (.pick c a b) .pick [c,a,b]
 |alloc (t:TypeId) (v:Value) (z:List AVal):zero? P t=some v→QC v.cells.toList=some z→Comp P GL (.alloc t) (.alloc z) []
 |box (t:TypeId) (x:Operand):Comp P GL (.box t x) .box [x]
 |buildStruct (t:TypeId) (fs:Array Field) (v:Value) (z:List AVal) (parts:Array (Nat×Operand)) (places ps:List (Nat×Nat)) :
   P.underlying t=some (.struct fs)→zero? P t=some v→QC v.cells.toList=some z→fs.toList.mapM (λf=>(P.info? f.type).map λi=>(f.offset,i.size))=some places →
   parts.toList.map (λp=>places[p.1]?)=ps.map some→Comp P GL (.build t parts) (.build z ps) (parts.toList.map (·.2))
 |buildArray (t:TypeId) (n:Nat) (e:TypeId) (v:Value) (z:List AVal) (parts:Array (Nat×Operand)) (ps:List (Nat×Nat)) (sz:Nat) :
   P.underlying t=some (.array n e)→zero? P t=some v→QC v.cells.toList=some z→size? P e=some sz →
   parts.toList.map (λp=>(p.1*sz,sz))=ps→Comp P GL (.build t parts) (.build z ps) (parts.toList.map (·.2))
 |buildSlice (t:TypeId) (n:Nat) (e:TypeId) (v:Value) (z0 z:List AVal) (parts:Array (Nat×Operand)) (ps:List (Nat×Nat)) (sz:Nat) :
   elemS? P t=some e→size? P e=some sz→n*sz≤2 ^ 24→n*sz≠0→zero? P e=some v→v.cells.size=sz→QC v.cells.toList=some z0→(List.replicate n z0).flatten=z →
   parts.toList.map (λp=>(p.1*sz,sz))=ps→Comp P GL (.buildSlice t n parts) (.buildS sz n z ps) (parts.toList.map (·.2))
 |buildSlice0 (t e:TypeId) (sz:Nat) (parts:Array (Nat×Operand)):elemS? P t=some e→size? P e=some sz→parts.toList=[]→Comp P GL (.buildSlice t 0 parts) (.buildS0 sz) []
 |makeSlice (t:TypeId) (l:Operand) (e:TypeId) (v:Value) (n by_:Nat) (z:List AVal):elemS? P t=some e→size? P e=some n→(P.info? e).map (·.bytes)=some by_→n≠0→zero? P e=some v→v.cells.size=n→QC v.cells.toList=some z →
   Comp P GL (.makeSlice t l l) (.makeS n by_ z) [l]
 |load (t:TypeId) (x:Operand) (agg:Bool) (n:Nat):isAgg? P t=some agg→size? P t=some n→Comp P GL (.load t x) (.load agg n) [x]
 |store (t:TypeId) (x y:Operand) (n:Nat):size? P t=some n→Comp P GL (.store t x y) (.store n) [x,y]
 |nilCheck (x:Operand):Comp P GL (.nilCheck x) .nilCheck [x]
 |bin (op:BinOp) (t t':TypeId) (x y:Operand) (b:Bool):(b=true→P.underlying t=some .bool)→Comp P GL (.binOp op t x y t') (.bin op b) [x,y]
 |eqNilR (c:NilCls) (neq:Bool) (t t':TypeId) (x:Operand):clsT P t=some c→Comp P GL (.binOp (if neq then .neq else .eql) t x (.const (nilV c)) t') (.eqNil c neq false) [x,.const (nilV c)]
 |eqNilL (c:NilCls) (neq:Bool) (t t':TypeId) (y:Operand):clsT P t=some c→Comp P GL (.binOp (if neq then .neq else .eql) t (.const (nilV c)) y t') (.eqNil c neq true) [.const (nilV c),y]
 |eqS (neq:Bool) (t t':TypeId) (x y:Operand) (ls:List Bool):leaves? P t=some ls→P.stoodInHeld t=false→P.eqGuardType P.depth t=false →
   Comp P GL (.binOp (if neq then .neq else .eql) t x y t') (.eqS neq ls) [x,y]
 |un (op:UnOp) (t:TypeId) (x:Operand):Comp P GL (.unOp op t x) (.un op) [x]
 |conv (s d:TypeId) (x:Operand) (k:IntKind):(P.underlying s).isSome=true→P.underlying d=some (.int k)→Comp P GL (.convert s d x) (.conv k) [x]
 |mkIface (t:TypeId) (x:Operand):P.concrete t=true→Comp P GL (.makeInterface t x) (.mkIface t) [x]
 |mkFunc (fn:Fn) (xs ys:Array Operand):Comp P GL (.makeFunc fn xs ys) (.mkFunc fn xs.size) (xs.toList++ys.toList)
 |makeMap (t:TypeId):Comp P GL (.makeMap t none) .makeMap []
 |fieldAddr (t:TypeId) (x:Operand) (f:Nat) (fs:Array Field) (fd:Field) (n:Nat):P.underlying t=some (.struct fs)→fs[f]?=some fd→size? P fd.type=some n→n≠0 →
   Comp P GL (.fieldAddr t x f) (.fieldAddr fd.offset) [x]
 |field (t:TypeId) (x:Operand) (f:Nat) (fs:Array Field) (fd:Field) (agg:Bool) (n:Nat):P.underlying t=some (.struct fs)→fs[f]?=some fd→size? P fd.type=some n→isAgg? P fd.type=some agg →
   Comp P GL (.field t x f) (.field agg fd.offset n) [x]
 |idxAddrA (t:TypeId) (x i:Operand) (len:Nat) (e:TypeId) (n:Nat):P.underlying t=some (.array len e)→size? P e=some n→Comp P GL (.indexAddr t x i) (.idxAddrA len n) [x,i]
 |idxAddrS (t:TypeId) (x i:Operand) (e:TypeId) (n:Nat):P.underlying t=some (.slice e)→size? P e=some n→Comp P GL (.indexAddr t x i) (.idxAddrS n) [x,i]
 |idxA (t:TypeId) (x i:Operand) (len:Nat) (e:TypeId) (n:Nat) (agg:Bool):P.underlying t=some (.array len e)→size? P e=some n→isAgg? P e=some agg →
   Comp P GL (.index t x i) (.idxA agg len n) [x,i]
 |idxStr (t:TypeId) (x i:Operand):P.underlying t=some .string→Comp P GL (.index t x i) .idxStr [x,i]
 |extract (x:Operand) (i:Nat):Comp P GL (.extract x i) (.extract i) [x]
 |sliceS (t:TypeId) (x:Operand) (lo hi mx:Option Operand) (e:TypeId) (n:Nat):P.underlying t=some (.slice e)→size? P e=some n →
   Comp P GL (.slice t x lo hi mx) (.sliceS n lo.isSome hi.isSome mx.isSome) ([x]++lo.toList++hi.toList++mx.toList)
 |sliceStr (t:TypeId) (x:Operand) (lo hi:Option Operand):P.underlying t=some .string →
   Comp P GL (.slice t x lo hi none) (.sliceStr lo.isSome hi.isSome) ([x]++lo.toList++hi.toList)
 |lenS (t e:TypeId) (x:Operand):P.underlying t=some (.slice e)→Comp P GL (.call ⟨.builtin .len,#[x],#[t]⟩) .lenS [x]
 |lenStr (t:TypeId) (x:Operand):P.underlying t=some .string→Comp P GL (.call ⟨.builtin .len,#[x],#[t]⟩) .lenStr [x]
 |lenA (t e:TypeId) (n:Nat) (x:Operand):P.underlying t=some (.array n e)→Comp P GL (.call ⟨.builtin .len,#[x],#[t]⟩) (.lenA n) [x]
 |lenM (t k e:TypeId) (x:Operand):P.underlying t=some (.map k e)→Comp P GL (.call ⟨.builtin .len,#[x],#[t]⟩) .lenM [x]
 |min2 (ts:Array TypeId) (x y:Operand):Comp P GL (.call ⟨.builtin .min,#[x,y],ts⟩) .min2 [x,y]
 |max2 (ts:Array TypeId) (x y:Operand):Comp P GL (.call ⟨.builtin .max,#[x,y],ts⟩) .max2 [x,y]
 |append (t t' e:TypeId) (x y:Operand) (n by_:Nat) (v:Value) (z:List AVal):P.underlying t=some (.slice e)→(∃d,P.underlying t'=some d∧(∀k,d≠.int k))→size? P e=some n→P.bytesOf e=by_→zero? P e=some v →
   v.cells.size=n→QC v.cells.toList=some z→by_≠0→n≠0→Comp P GL (.call ⟨.builtin .append,#[x,y],#[t,t']⟩) (.append n by_ z) [x,y]
 |call (f:FuncId) (xs:Array Operand) (ts:Array TypeId):Qi P f=true→Comp P GL (.call ⟨.value (.func f),xs,ts⟩) (.call f) xs.toList
 |callv (x:Operand) (xs:Array Operand) (ts:Array TypeId):Comp P GL (.call ⟨.value x,xs,ts⟩) .callv (x::xs.toList)
 |invoke (x:Operand) (name:String) (xs:Array Operand) (ts:Array TypeId) (tbl:List (TypeId×FuncId)):(∀p∈tbl,ZbS P name p.1=some p.2∧Qi P p.2=true)→Comp P GL (.call ⟨.invoke x name,xs,ts⟩) (.invoke name tbl) (x::xs.toList)
 |lookup (t k e:TypeId) (x i:Operand) (str ok:Bool) (v:Value) (z:AVal):P.underlying t=some (.map k e)→KeyT P k str→zero? P e=some v→aVal v=some z →
   Comp P GL (.lookup t x i ok) (.lookup str ok z) [x,i]
 |mapUpdate (t k e:TypeId) (x i y:Operand) (str:Bool):P.underlying t=some (.map k e)→KeyT P k str→Comp P GL (.mapUpdate t x i y) (.mapUpd str) [x,i,y]
 |mapInsert (t k e:TypeId) (x i y:Operand) (str:Bool):P.underlying t=some (.map k e)→KeyT P k str→Comp P GL (.insert t x i y) (.mapUpd str) [x,i,y]
 |clearS (t e:TypeId) (x:Operand) (n:Nat) (v:Value) (z:List AVal):elemS? P t=some e→size? P e=some n→n≠0→zero? P e=some v→v.cells.size=n→QC v.cells.toList=some z →
   Comp P GL (.call ⟨.builtin .clear,#[x],#[t]⟩) (.clearS n z) [x]
 |range (t:TypeId) (x:Operand):P.underlying t=some .string→Comp P GL (.range t x) .range [x]
 |next (x:Operand):Comp P GL (.next x true) .next [x]
 |assertT (x:Operand) (t u:TypeId) (ok:Bool) (v:Value) (z:AVal):P.concrete u=true→(P.underlying u).isSome=true→zero? P u=some v→aVal v=some z→Comp P GL (.typeAssert x t u ok) (.assertT u ok z) [x]
 |bad (o:Op):QbF o=false→Comp P GL o .bad []
 |x (o:Op) (q:XK) (os:List Operand):CompX P o q os→Comp P GL o (.x q) os
 |assertI (x:Operand) (t u:TypeId) (ms:Array (String×TypeId)) (tbl:List TypeId):P.underlying u=some (.interface ms)→zero? P u=some .nilIface→(∀q∈tbl,∃i,P.info? q=some i∧Instr.missingMethod ms i.methods=none)→Comp P GL (.typeAssert x t u true) (.assertI tbl) [x]
inductive SRes where
 |ok (v:AVal) (rd:List Nat) (up:List (Nat×ABlk))
 |stop
abbrev KT:=AVal→List ABlk→Prop
abbrev KTs:=List AVal→List ABlk→Prop
def hget:List ABlk→Nat→ABlk
 |[],_=>.dead
 |b::_,0=>b
 |_::l,n+1=>hget l n
def cellsOf:AVal→Option (List AVal)
 |.agg cs=>bif cs.all AVal.cell then some cs else none
 |.junk=>none
 |.tup _=>none
 |.when ..=>none
 |x=>some [x]
def fill:List AVal→List (Nat×Nat)→List AVal→Option (List AVal)
 |z,[],[]=>some z
 |z,(off,sz)::ps,x::xs=>match cellsOf x with
  | some cs=>bif Nat.beq cs.length sz && !(Nat.beq sz 0) then (match splice off cs z with
   |some z'=>fill z' ps xs
   | none=>none) else none
  |none=>none
 |_,_,_=>none
def ikEq:IntKind→IntKind→Bool
 |.i8,.i8 | .i16,.i16 | .i32,.i32 | .i64,.i64 | .u8,.u8 | .u16,.u16 | .u32,.u32 | .u64,.u64=>true
 |_,_=>false
theorem YQ{a b:IntKind}(h:ikEq a b=true):a=b:=by cases a<;>cases b<;>first|rfl|cases h
def binI(op:BinOp)(k:IntKind)(a b:Int):Option AVal:=
 match op with
 |.add=>some (.int k (k.wrap (a+b)))
 |.sub=>some (.int k (k.wrap (a-b)))
 |.mul=>some (.int k (k.wrap (a*b)))
 |.eql=>some (.bool (a==b))
 |.neq=>some (.bool (a != b))
 |.lss=>some (.bool (a<b))
 |.leq=>some (.bool (a≤b))
 |.gtr=>some (.bool (a>b))
 |.geq=>some (.bool (a ≥ b))
 |.and=>some (.int k (bits .and k a b))
 |.or=>some (.int k (bits .or k a b))
 |.xor=>some (.int k (bits .xor k a b))
 |.andNot=>some (.int k (bits .andNot k a b))
 |_=>none
def binX(op:BinOp)(k k':IntKind)(a b:Int):Option AVal:=
 match b with
 |.ofNat n=>match op with
  |.shl=>some (.int k (k.wrap (a*2 ^ (min n k.bits))))
  |.shr=>some (.int k (a.fdiv (2 ^ (min n k.bits))))
  |.quo=>bif Nat.beq n 0 then none else bif ikEq k k' then some (.int k (k.wrap (a.tdiv (.ofNat n)))) else none
  |.rem=>bif Nat.beq n 0 then none else bif ikEq k k' then some (.int k (a.tmod (.ofNat n))) else none
  |_=>none
 |.negSucc n=>match op with
  |.quo=>bif ikEq k k' then some (.int k (k.wrap (a.tdiv (.negSucc n)))) else none
  |.rem=>bif ikEq k k' then some (.int k (a.tmod (.negSucc n))) else none
  |_=>none
def nilness:NilCls→AVal→Option Bool
 |.ptr,.nilp=>some true
 |.ptr,.bptr ..=>some false
 |.ptr,.ptr ..=>some false
 |.ptr,.rptr ..=>some false
 |.slice,.nils=>some true
 |.slice,.rsl _ true _ _=>some false
 |.slice,.rsl _ false _ (_::_)=>some false
 |.slice,.sl _ _ (_+1) _=>some false
 |.slice,.bsl ..=>some false
 |.func,.func ..=>some false
 |.func,.nilf=>some true
 |.iface,.iface ..=>some false
 |.iface,.nili=>some true
 |.map,.map _=>some false
 |.map,.rmap _=>some false
 |.map,.nilmap=>some true
 |_,_=>none
def Xa1:Bool→AVal→AVal→Option Bool
 |false,.int k a,.int k' b=>bif ikEq k k' then some (a==b) else none
 |true,.bool a,.bool b=>some (a==b)
 |_,_,_=>none
def QK:List Bool→List AVal→List AVal→Option Bool
 |[],[],[]=>some true
 |l::ls,x::xs,y::ys=>match Xa1 l x y,QK ls xs ys with
  |some a,some b=>some (a&&b)
  |_,_=>none
 |_,_,_=>none
def partA(agg:Bool)(off n:Nat)(cs:List AVal):Option AVal:=
 match agg with
 |true=>match takeN n (dropN off cs) with
  |some r=>some (.agg r)
  |none=>none
 |false=>nth cs off
def Qcx(xs:List AVal)(σ:List ABlk):SRes:=match xs with
  |[x]=>.ok x [] []
  |_=>.stop
def Xak(xs:List AVal)(σ:List ABlk):SRes:=match xs with
  |[.bool c,.bool a,.bool b]=>.ok (.bool (bif c then a else b)) [] []
  |_=>.stop
def ZC(z:List AVal)(xs:List AVal)(σ:List ABlk):SRes:=match xs with
  |[]=>.ok (.bptr σ.length 0) [] [(σ.length,.box z)]
  |_=>.stop
def Xaw(xs:List AVal)(σ:List ABlk):SRes:=match xs with
  |[x]=>match cellsOf x with
   |some cs=>.ok (.bptr σ.length 0) [] [(σ.length,.box cs)]
   |none=>.stop
  |_=>.stop
def XN(z:List AVal)(ps:List (Nat×Nat))(xs:List AVal)(σ:List ABlk):SRes:=match fill z ps xs with
  |some cs=>.ok (.agg cs) [] []
  |none=>.stop
def XE(sz:Nat)(n:Nat)(z:List AVal)(ps:List (Nat×Nat))(xs:List AVal)(σ:List ABlk):SRes:=match fill z ps xs with
  |some cs=>match chunk sz n cs with
   |some rs=>.ok (.sl σ.length 0 n true) [] [(σ.length,.rows sz rs)]
   |none=>.stop
  |none=>.stop
def QD(sz:Nat)(xs:List AVal)(σ:List ABlk):SRes:=match xs with
  |[]=>.ok (.rsl true true sz []) [] []
  |_=>.stop
def Qaj(agg:Bool)(n:Nat)(xs:List AVal)(σ:List ABlk):SRes:=match xs with
  |[.bptr b j]=>match hget σ b with
   |.box row=>match partA agg j n row with
    |some v=>.ok v [b] []
    |none=>.stop
   |_=>.stop
  |[.rptr row j]=>match partA agg j n row with
   |some v=>.ok v [] []
   |none=>.stop
  |_=>.stop
def ZX(n:Nat)(xs:List AVal)(σ:List ABlk):SRes:=match xs with
  |[.bptr b j,x]=>match hget σ b with
   |.box row=>match cellsOf x with
    | some cs=>bif Nat.beq cs.length n then (match splice j cs row with
     |some row'=>.ok .junk [] [(b,.box row')]
     | none=>.stop) else .stop
    |none=>.stop
   |_=>.stop
  |_=>.stop
def Qj(xs:List AVal)(σ:List ABlk):SRes:=match xs with
  |[.bptr b j]=>.ok (.bptr b j) [] []
  |[.ptr b i j]=>.ok (.ptr b i j) [] []
  |[.rptr row j]=>.ok (.rptr row j) [] []
  |[.func (.func f) a b]=>.ok (.func (.func f) a b) [] []
  |[.iface t v]=>.ok (.iface t v) [] []
  |_=>.stop
def Zq(op:BinOp)(isBool:Bool)(xs:List AVal)(σ:List ABlk):SRes:=match xs with
  |[.int k a,.int k' b]=>match (bif ikEq k k' then binI op k a b else none) with
   |some v=>.ok v [] []
   |none=>match binX op k k' a b with
    |some v=>.ok v [] []
    |none=>.stop
  |[.str a,.str b]=>match op with
   |.eql=>.ok (.bool (a==b)) [] []
   |.neq=>.ok (.bool (!(a==b))) [] []
   |.add=>bif Nat.ble (a.length+b.length) 1099511627776 then .ok (.str (a++b)) [] [] else .stop
   |_=>.stop
  | [.bool a,.bool b]=>bif isBool then (match op with
   |.eql=>.ok (.bool (a==b)) [] []
   |.neq=>.ok (.bool (!(a==b))) [] []
   | _=>.stop) else .stop
  |_=>.stop
def YR(c:NilCls)(neq:Bool)(left:Bool)(xs:List AVal)(σ:List ABlk):SRes:=match xs with
  |[x,y]=>match nilness c (bif left then y else x) with
   |some b=>.ok (.bool (bif neq then !b else b)) [] []
   |none=>.stop
  |_=>.stop
def XaC(neq:Bool)(ls:List Bool)(xs:List AVal)(σ:List ABlk):SRes:=match xs with
  |[.agg a,.agg b]=>match QK ls a b with
   |some r=>.ok (.bool (bif neq then !r else r)) [] []
   |none=>.stop
  |_=>.stop
def YbI(op:UnOp)(xs:List AVal)(σ:List ABlk):SRes:=match xs with
  |[.bool b]=>match op with
   |.not=>.ok (.bool (!b)) [] []
   |_=>.stop
  |[.int k n]=>match op with
   |.neg=>.ok (.int k (k.wrap (0-n))) [] []
   |.xor=>.ok (.int k (bits .xor k (if k.signed then -1 else k.max) n)) [] []
   |_=>.stop
  |_=>.stop
def QQ(k:IntKind)(xs:List AVal)(σ:List ABlk):SRes:=match xs with
  |[.int _ n]=>.ok (.int k (k.wrap n)) [] []
  |_=>.stop
def Zy(t:TypeId)(xs:List AVal)(σ:List ABlk):SRes:=match xs with
  |[x]=>.ok (.iface t x) [] []
  |_=>.stop
def QL(fn:Fn)(n:Nat)(xs:List AVal)(σ:List ABlk):SRes:=match takeN n xs with
  |some a=>.ok (.func fn a (dropN n xs)) [] []
  |none=>.stop
def ZE(xs:List AVal)(σ:List ABlk):SRes:=match xs with
  |[]=>.ok (.map σ.length) [] [(σ.length,.map [])]
  |_=>.stop
def Ye(off:Nat)(xs:List AVal)(σ:List ABlk):SRes:=match xs with
  |[.bptr b j]=>.ok (.bptr b (j+off)) [] []
  |[.ptr b i j]=>.ok (.ptr b i (j+off)) [] []
  |[.rptr row j]=>.ok (.rptr row (j+off)) [] []
  |_=>.stop
def XR(agg:Bool)(off:Nat)(n:Nat)(xs:List AVal)(σ:List ABlk):SRes:=match xs with
  |[.agg cs]=>match partA agg off n cs with
   |some v=>.ok v [] []
   |none=>.stop
  |_=>.stop
def Xs(len:Nat)(esz:Nat)(xs:List AVal)(σ:List ABlk):SRes:=match xs with
  |[.bptr b j,.int _ (.ofNat i)]=>bif Nat.blt i len then .ok (.bptr b (j+i*esz)) [] [] else .stop
  |[.ptr b r j,.int _ (.ofNat i)]=>bif Nat.blt i len then .ok (.ptr b r (j+i*esz)) [] [] else .stop
  |[.rptr row j,.int _ (.ofNat i)]=>bif Nat.blt i len then .ok (.rptr row (j+i*esz)) [] [] else .stop
  |_=>.stop
def Qaa(agg:Bool)(len:Nat)(esz:Nat)(xs:List AVal)(σ:List ABlk):SRes:=match xs with
  | [.agg cs,.int _ (.ofNat i)]=>bif Nat.blt i len then (match partA agg (i * esz) esz cs with
   |some v=>.ok v [] []
   | none=>.stop) else .stop
  |_=>.stop
def Zv(i:Nat)(xs:List AVal)(σ:List ABlk):SRes:=match xs with
  |[.tup vs]=>match nth vs i with
   |some v=>.ok v [] []
   |none=>.stop
  |_=>.stop
def QU(xs:List AVal)(σ:List ABlk):SRes:=match xs with
  |[.nils]=>.ok (.int .i64 0) [] []
  |[.cap0]=>.ok (.int .i64 0) [] []
  |[.sl _ _ n _]=>.ok (.int .i64 n) [] []
  |[.rsl _ _ _ rows]=>.ok (.int .i64 rows.length) [] []
  |_=>.stop
def YG(xs:List AVal)(σ:List ABlk):SRes:=match xs with
  |[.str s]=>.ok (.int .i64 s.length) [] []
  |_=>.stop
def Zab(n:Nat)(xs:List AVal)(σ:List ABlk):SRes:=match xs with
  |[_]=>.ok (.int .i64 n) [] []
  |_=>.stop
def Xaj(xs:List AVal)(σ:List ABlk):SRes:=match xs with
  |[.nilmap]=>.ok (.int .i64 0) [] []
  |[.map b]=>match hget σ b with
   |.map es=>.ok (.int .i64 es.length) [b] []
   |_=>.stop
  |[.rmap es]=>.ok (.int .i64 es.length) [] []
  |_=>.stop
def Yak(xs:List AVal)(σ:List ABlk):SRes:=match xs with
  |[.int k a,.int _ b]=>.ok (.int k (if b<a then b else a)) [] []
  |_=>.stop
def Zak(xs:List AVal)(σ:List ABlk):SRes:=match xs with
  |[.int k a,.int _ b]=>.ok (.int k (if b>a then b else a)) [] []
  |_=>.stop
def QW(xs:List AVal)(σ:List ABlk):SRes:=match xs with
  |[.str s]=>.ok (.iter σ.length) [] [(σ.length,.siter s 0)]
  |_=>.stop
def YC(t:TypeId)(ok:Bool)(z:AVal)(xs:List AVal)(σ:List ABlk):SRes:=match xs with
  |[.iface u v]=>bif Nat.beq u t then .ok (bif ok then .tup [v,.bool true] else v) [] [] else (bif ok then .ok (.tup [z,.bool false]) [] [] else .stop)
  |[.nili]=>bif ok then .ok (.tup [z,.bool false]) [] [] else .stop
  |_=>.stop
def memN:List Nat→Nat→Bool
 |[],_=>false
 |x::l,n=>Nat.beq x n||memN l n
theorem Zct:∀ {l:List Nat} {n:Nat},memN l n=true→n∈l
 |[],_,h=>by cases h
 |x::l,n,h=>by
  simp only[memN,Bool.or_eq_true] at h;rcases h with h|h
  ·rw[YNB h]; simp
  ·exact List.mem_cons_of_mem _ (Zct h)
def Qbu(tbl:List TypeId)(xs:List AVal)(σ:List ABlk):SRes:=match xs with
  |[.iface u v]=>bif memN tbl u then .ok (.tup [.iface u v,.bool true]) [] [] else .stop
  |[.nili]=>.ok (.tup [.nili,.bool false]) [] []
  |_=>.stop
def mstep(k:MK)(xs:List AVal)(σ:List ABlk):SRes:=
 match k with
 |.mv=>Qcx xs σ
 |.pick=>Xak xs σ
 |.alloc z=>ZC z xs σ
 |.box=>Xaw xs σ
 |.build z ps=>XN z ps xs σ
 |.buildS sz n z ps=>XE sz n z ps xs σ
 |.buildS0 sz=>QD sz xs σ
 |.load agg n=>Qaj agg n xs σ
 |.store n=>ZX n xs σ
 |.nilCheck=>Qj xs σ
 |.bin op isBool=>Zq op isBool xs σ
 |.eqNil c neq left=>YR c neq left xs σ
 |.eqS neq ls=>XaC neq ls xs σ
 |.un op=>YbI op xs σ
 |.conv k=>QQ k xs σ
 |.mkIface t=>Zy t xs σ
 |.mkFunc fn n=>QL fn n xs σ
 |.makeMap=>ZE xs σ
 |.fieldAddr off=>Ye off xs σ
 |.field agg off n=>XR agg off n xs σ
 |.idxAddrA len esz=>Xs len esz xs σ
 |.idxA agg len esz=>Qaa agg len esz xs σ
 |.extract i=>Zv i xs σ
 |.lenS=>QU xs σ
 |.lenStr=>YG xs σ
 |.lenA n=>Zab n xs σ
 |.lenM=>Xaj xs σ
 |.min2=>Yak xs σ
 |.max2=>Zak xs σ
 |.range=>QW xs σ
 |.assertT t ok z=>YC t ok z xs σ
 |.assertI tbl=>Qbu tbl xs σ
 |_=>.stop
end Go.Ah
end
section
namespace Go.Ah
def DenL(g:Gm):List AVal→List Value→Prop
 |[],[]=>True
 |x::xs,v::vs=>g.den x v∧DenL g xs vs
 |_,_=>False
theorem DenL.mono{g g':Gm}(h:g.Le g'):∀ {xs:List AVal} {vs:List Value},DenL g xs vs→DenL g' xs vs
 |[],[],_=>trivial
 |_::_,_::_,⟨d,r⟩=>⟨Gm.den_mono h d,DenL.mono h r⟩
theorem DenL.length{g:Gm}:∀ {xs:List AVal} {vs:List Value},DenL g xs vs→xs.length=vs.length
 |[],[],_=>rfl
 |_::_,_::_,⟨_,r⟩=>by simp[DenL.length r]
theorem DenL.get{g:Gm}:∀ {xs:List AVal} {vs:List Value},DenL g xs vs→∀(i:Nat) (x:AVal) (v:Value),xs[i]?=some x→vs[i]?=some v→g.den x v
 |[],[],_,_,_,_,e,_=>by simp at e
 |x::xs,v::vs,⟨d,r⟩,i,y,u,e1,e2=>by
  cases i with
  |zero=>simp at e1 e2; subst e1 e2; exact d
  |succ i=>simp at e1 e2; exact DenL.get r i y u e1 e2
theorem DenL.of_get{g:Gm}:∀ {xs:List AVal} {vs:List Value},xs.length=vs.length→(∀(i:Nat) (x:AVal) (v:Value),xs[i]?=some x→vs[i]?=some v→g.den x v)→DenL g xs vs
 |[],[],_,_=>trivial
 |[],_::_,e,_=>by simp at e
 |_::_,[],e,_=>by simp at e
 |x::xs,v::vs,e,h=>⟨h 0 x v rfl rfl,DenL.of_get (by simpa using e) (λi y u e1 e2=>h (i+1) y u (by simpa using e1) (by simpa using e2))⟩
def Out(P:Program)(GL:Globs)(w0:World)(L:Ln)(g:Gm)(h':Hp)(x:AVal):Result Next→Prop
 |.ok (.value u) w'=>∃g',g.Le g'∧Rep GL w0 L g' h' w'∧g'.den x u
 |.ok .skip w'=>∃g',g.Le g'∧Rep GL w0 L g' h' w'∧x=.junk
 |.ok (.enter f args) w'=>Calls P f args w' λe w''=>∃u,e=.returned u∧∃g',g.Le g'∧Rep GL w0 L g' h' w''∧g'.den x u
 |_=>False
def OpSem(P:Program)(GL:Globs)(k:MK)(xs:List AVal)(h0:Hp)(v:AVal)(rd:List Nat)(up:List (Nat×ABlk)):Prop:=
 ∀(o:Oper) (os:List Operand),Comp P GL o.op k os→∀(w0:World) (L:Ln) (g:Gm) (h:Hp) (w:World) (a:Act),Rep GL w0 L g h w→DenL g xs (os.map a.eval) →
  (∀b∈rd,h b=h0 b)→(∀p∈up,h p.1=h0 p.1)→Out P GL w0 L g (hups h up) v ((execOp a.eval o).run P w)
def hp(σ:List ABlk):Hp:=λb=>σ[b]?
theorem Z6(σ:List ABlk):hp σ σ.length=none:=by simp[hp]
theorem XW{σ:List ABlk}{b:Nat}{x:ABlk}(h:hget σ b=x)(hx:x≠.dead):hp σ b=some x:=by
 unfold hp
 induction σ generalizing b with
 |nil=>simp_all [hget]
 |cons y σ ih=>cases b<;>simp_all [hget]
section
variable {P:Program} {GL:Globs} {Z:PZ}
theorem Out.here{w0:World}{L:Ln}{g:Gm}{h:Hp}{w:World}{x:AVal}{u:Value}(r:Rep GL w0 L g h w)(d:g.den x u):Out P GL w0 L g (hups h []) x (.ok (.value u) w):=
 ⟨g,Gm.Le.refl g,r,d⟩
theorem XcA(x:AVal)(h0:Hp):OpSem P GL .mv [x] h0 x [] []:=by
 intro o os hc w0 L g h w a r hx _ _;generalize ho:o.op=op at hc;cases hc with
 |move y=>simp only[execOp,ho,Sem.run_pure]; exact Out.here r hx.1
 |assign y=>simp only[execOp,ho,Sem.run_pure]; exact Out.here r hx.1
theorem Yt{g:Gm}{b:Bool}{v:Value}(h:g.den (.bool b) v):v=.bool b:=by cases h; rfl
theorem Xh{g:Gm}{k:IntKind}{n:Int}{v:Value}(h:g.den (.int k n) v):v=.int k n:=by cases h; rfl
theorem QP{g:Gm}{s:List UInt8}{v:Value}(h:g.den (.str s) v):∃t:ByteArray,v=.string t∧t.data.toList=s:=by cases h; exact⟨_,rfl,rfl⟩
theorem QcS(c x y:Bool)(h0:Hp):OpSem P GL .pick [.bool c,.bool x,.bool y] h0 (.bool (bif c then x else y)) [] []:=by
 intro o os hc w0 L g h w a r hx _ _;generalize ho:o.op=op at hc;cases hc with
 |pick oc oa ob=>
  obtain⟨h1,h2,h3,_⟩:=hx;have e1:=Yt h1; have e2:=Yt h2; have e3:=Yt h3;simp only[execOp,ho,e1,e2,e3,asBool];simp
  grind [Out.here]
theorem QO{t:TypeId}{v:Value}(h:zero? P t=some v)(w:World):(zeroValue t).run P w=.ok v w:=by
 unfold zero? at h;unfold zeroValue typeInfo;cases hi:P.info? t<;>simp_all
theorem Qq{t:TypeId}{n:Nat}(h:size? P t=some n)(w:World):(sizeOf t).run P w=.ok n w:=by
 unfold size? at h;unfold sizeOf typeInfo;cases hi:P.info? t<;>simp_all
theorem Qx{t:TypeId}{b:Bool}(h:isAgg? P t=some b)(w:World):(isAgg t).run P w=.ok b w:=by
 unfold isAgg? at h;unfold isAgg;cases hu:P.underlying t with
 |none=>simp[hu] at h
 |some d=>
  simp only[Sem.run_bind,run_underlying hu,Result.andThen_ok];cases d<;>simp_all
theorem XbQ(h:Hp)(b:Nat)(x:ABlk):hups h [(b,x)]=hup h b x:=rfl
theorem Rep.box{w0:World}{L:Ln}{g:Gm}{h:Hp}{w:World}(r:Rep GL w0 L g h w){nb:Nat}(hn:h nb=none)(row:List AVal)(arr:Array Value)(T:TypeId)
 (hs:arr.size=row.length)(hd:∀(j:Nat) (x:AVal) (v:Value),row[j]?=some x→arr[j]?=some v→g.den x v) :
  ∃g',g.Le g'∧Rep GL w0 L g' (hup h nb (.box row)) (w.alloc (.cells arr T))∧g'.den (.bptr nb 0) (.pointer (some ⟨w.heap.size,0,none⟩)):=by
 refine⟨_,r.le_alloc hn ⟨w.heap.size,0,0,false,0⟩,r.alloc hn (cb:=⟨w.heap.size,0,0,false,0⟩) rfl rfl rfl ⟨arr,T,rfl,hs,λj x v e1 e2=>?_⟩,.bptr _ _ _ _ (Yq _ _ _)⟩;exact Gm.den_mono (r.le_alloc hn ⟨w.heap.size,0,0,false,0⟩) (hd j x v e1 e2)
theorem Yck{v:Value}(h:v.oneCell'=true):v.cells = #[v]:=by cases v<;>simp_all [Value.cells,Value.oneCell']
theorem Q1{g:Gm}{x:AVal}{cs:List AVal}{v:Value}(h:cellsOf x=some cs)(d:g.den x v) :
  v.cells.size=cs.length∧(∀(j:Nat) (y:AVal) (u:Value),cs[j]?=some y→v.cells[j]?=some u→g.den y u)∧(∀y∈cs,y.cell=true):=by
 have one:∀y:AVal,y.cell=true→cellsOf y=some [y]→cellsOf y=some cs→g.den y v →
   v.cells.size=cs.length∧(∀(j:Nat) (y:AVal) (u:Value),cs[j]?=some y→v.cells[j]?=some u→g.den y u)∧(∀y∈cs,y.cell=true):=by
  intro y hy e1 e2 dy;rw[e1] at e2; cases e2;have hc:=Yck (Den.oneCell dy hy)
  grind
 cases x with
 |agg xs=>
  simp only[cellsOf] at h;cases ha:xs.all AVal.cell with
  |false=>simp[ha] at h
  |true=>
   simp[ha] at h; subst h;cases d with
   |agg _ _ vs h1 h2=>exact⟨h1,λj y u e1 e2=>h2 j y u e1 e2,by simpa[List.all_eq_true] using ha⟩
 |junk=>simp[cellsOf] at h
 |tup vs=>simp[cellsOf] at h
 |when cs x=>simp[cellsOf] at h
 |_=>exact one _ rfl rfl h d
theorem Xad{l:List Value}{xs:List AVal}(h:QC l=some xs):∀y∈xs,y.cell=true:=by
 induction l generalizing xs with
 |nil=>simp only[QC] at h; cases h; simp
 |cons v l ih=>
  simp only[QC] at h;cases hv:aCell v with
  |none=>simp[hv] at h
  |some x=>
   cases hl:QC l with
   |none=>simp[hv,hl] at h
   |some r=>
    simp only[hv,hl] at h; cases h;intro y hy;rcases List.mem_cons.1 hy with rfl|hy
    ·unfold aCell at hv; split at hv<;>first|(cases hv; rfl)|cases hv
    ·exact ih hl y hy
theorem Xcy(z:List AVal)(h0:Hp)(nb:Nat)(hn:h0 nb=none):OpSem P GL (.alloc z) [] h0 (.bptr nb 0) [] [(nb,.box z)]:=by
 intro o os hc w0 L g h w a r _ _ hup';have hn':h nb=none:=by simp_all
 generalize ho:o.op=op at hc;cases hc with
 |alloc t v z hz hcells=>
  simp only[execOp,ho,Instr.alloc,Sem.run_bind,QO hz,Result.andThen_ok,newVar,newRow,run_newObj,Sem.run_pure];obtain⟨h1,h2⟩:=YH (M:=g.M) (c:=g.c) hcells;exact Rep.box r hn' z v.cells t (by simpa using h1) (λj x u e1 e2=>h2 j x u e1 (by simpa using e2))
theorem Zc4(x:AVal)(cs:List AVal)(hcs:cellsOf x=some cs)(h0:Hp)(nb:Nat)(hn:h0 nb=none):OpSem P GL .box [x] h0 (.bptr nb 0) [] [(nb,.box cs)]:=by
 intro o os hc w0 L g h w a r hx _ hup';have hn':h nb=none:=by simp_all
 generalize ho:o.op=op at hc;cases hc with
 |box t y=>
  simp only[execOp,ho,Instr.box,newVar,newRow,Sem.run_bind,run_newObj,Result.andThen_ok,Sem.run_pure];obtain⟨h1,h2,_⟩:=Q1 hcs hx.1;exact Rep.box r hn' cs _ t h1 h2
theorem Zaa{g:Gm}{agg:Bool}{off n:Nat}{cs:List AVal}{x:AVal}{arr:Array Value}(h:partA agg off n cs=some x)(hlen:cs.length≤arr.size)
 (hd:∀(j:Nat) (y:AVal) (u:Value),cs[j]?=some y→arr[j]?=some u→g.den y u) :
  (agg=true→(n≠0→off+n≤arr.size)∧g.den x (.agg (arr.extract off (off+n))))∧(agg=false→∃u,arr[off]?=some u∧g.den x u):=by
 cases agg with
 |true=>
  simp only[partA] at h;cases ht:takeN n (dropN off cs) with
  |none=>simp[ht] at h
  |some r=>
   simp only[ht] at h; cases h;obtain⟨h1,h2,h3⟩:=XaD ht;rw[Zat,List.length_drop] at h2;refine⟨λ_=>⟨λhn=>by omega,?_⟩,by simp⟩;refine .agg _ _ _ (by simp; omega) (λj y u e1 e2=>?_);have hj:j<n:=by grind
   rw[h3 j hj,Zat,List.getElem?_drop] at e1;have hlt:off+j<arr.size:=by omega
   refine hd _ y u e1 ?_
   grind
 |false=>
  simp only[partA,YU] at h;refine⟨by simp,λ_=>?_⟩;have hlt:off<arr.size:=by grind
  exact⟨arr[off],by simp[hlt],hd off x _ h (by simp[hlt])⟩
end
end Go.Ah
end
section
namespace Go.Ah
section
variable {P:Program} {GL:Globs} {Z:PZ}
theorem ZD(b o n:Nat):Addr.add ⟨b,o,none⟩ n=⟨b,o+n,none⟩:=by
 unfold Addr.add; split<;>simp_all
theorem X4{t:TypeId}{agg:Bool}{n:Nat}(ha:isAgg? P t=some agg)(hn:size? P t=some n){w:World}{b:Nat}{arr:Array Value}{T:TypeId}{fr:Nat×Nat}
 (hb:∀o v,arr[o]?=some v→w.cell? ⟨b,o,none⟩=some v)(off:Nat) :
  (agg=true→(n≠0→off+n≤arr.size)→(loadVar t ⟨b,off,none⟩).run P w=.ok (.agg (arr.extract off (off+n))) w) ∧
  (agg=false→∀v,arr[off]?=some v→(loadVar t ⟨b,off,none⟩).run P w=.ok v w):=by
 have _:=T; have _:=fr;constructor
 ·rintro rfl hle;have hl:=run_loadCells_list (P:=P) w ⟨b,off,none⟩ (arr.extract off (off + n)).toList (λj v e=>by
   grind [ZD])
  have hlen:(arr.extract off (off+n)).toList.length=n:=by
   grind
  rw[hlen] at hl;simp only[loadVar,Sem.run_bind,Qx ha,Result.andThen_ok,Sem.run_ite,if_true,Qq hn,hl,Sem.run_pure,Array.toArray_toList]
 simp_all [loadVar,Qx]
theorem QE{w:World}{b:Nat}{arr:Array Value}{T:TypeId}{fr:Nat×Nat}(h:w.heap[b]?=some (.cells arr T fr)):∀o v,arr[o]?=some v→w.cell? ⟨b,o,none⟩=some v:=by
 grind [cell_of_row]
theorem Zbx(agg:Bool)(n b j:Nat)(row:List AVal)(v:AVal)(h0:Hp)(hb:h0 b=some (.box row))(hv:partA agg j n row=some v) :
  OpSem P GL (.load agg n) [.bptr b j] h0 v [b] []:=by
 intro o os hc w0 L g h w a r hx hrd _;have hb':h b=some (.box row):=by simp_all
 generalize ho:o.op=op at hc;cases hc with
 |load t x _ _ ha hn=>
  have d:=hx.1;generalize hu:a.eval x=u0 at d;cases d with
  |bptr _ _ _ cb ec=>
  cases hvirt:cb.virt with
  |true=>have:=r.hollow b _ cb hb' rfl ec hvirt; cases this
  |false=>
  obtain⟨_,_,o',ho',arr,T,rfl,hs,hden⟩:=r.own b _ cb hb' rfl ec hvirt;obtain⟨p1,p2⟩:=Zaa (g:=g) hv (by omega) hden;obtain⟨l1,l2⟩:=X4 ha hn (T:=T) (fr:=(0,0)) (QE ho') j;cases agg with
  |true=>
   simp_all [execOp,Instr.loadAt,Instr.sureAddr,Out.here]
  |false=>
   obtain⟨u,q1,q2⟩:=p2 rfl;simp_all [execOp,Instr.loadAt,Instr.sureAddr,Out.here]
theorem YaB{w0:World}{L:Ln}{g:Gm}{h:Hp}{w:World}(r:Rep GL w0 L g h w){b o:Nat}{v:Value}(e:mcell g.M b o=some v):w.cell? ⟨b,o,none⟩=some v:=by
 unfold mcell at e;cases hb:g.M b with
 |none=>simp[hb] at e
 |some x=>
  cases x with
  |cells c t fr=>simp[hb] at e; exact QE (r.stable b _ hb) o v e
  |_=>simp[hb] at e
theorem XaS{w0:World}{L:Ln}{g:Gm}{h:Hp}{w:World}(r:Rep GL w0 L g h w){t:TypeId}{agg:Bool}{n:Nat}(ha:isAgg? P t=some agg)(hn:size? P t=some n)
 {row:List AVal}{j:Nat}{v:AVal}(hv:partA agg j n row=some v){blk off:Nat}{f:Nat→Value}(h1:∀k,k<row.length→mcell g.M blk (off+k)=some (f k))
 (h2:∀k x,row[k]?=some x→Den g.M noOwn x (f k)):∃u,(loadVar t ⟨blk,off+j,none⟩).run P w=.ok u w∧g.den v u:=by
 have key:=Zaa (g:=g) (arr:=((List.range row.length).map f).toArray) hv (by simp) (λk y u e1 e2=>by
  have hk:=(YLG e1).1;simp[hk] at e2; subst e2;exact(h2 k y e1).mono (MLe.refl _) (CLe.noOwn _))
 cases agg with
 |true=>
  obtain⟨q1,q2⟩:=key.1 rfl;simp only[List.size_toArray,List.length_map,List.length_range] at q1;have hl:=run_loadCells (P:=P) w ⟨blk,off + j,none⟩ n (λk=>f (j + k)) (λk hk=>by
   grind [ZD,YaB])
  refine⟨_,by simp only[loadVar,Sem.run_bind,Qx ha,Result.andThen_ok,Sem.run_ite,if_true,Qq hn,hl,Sem.run_pure]; rfl,?_⟩;have:((List.range n).map λk=>f (j+k)).toArray=(((List.range row.length).map f).toArray).extract j (j+n):=by
   grind
  rw[this]; exact q2
 |false=>
  obtain⟨u,q1,q2⟩:=key.2 rfl;have hj:j<row.length:=by
   grind
  simp[hj] at q1; subst q1;refine⟨f j,?_,q2⟩;simp only[loadVar,Sem.run_bind,Qx ha,Result.andThen_ok,Sem.run_ite,Bool.false_eq_true,if_false,run_load,YaB r (h1 j hj)]
theorem Ybx(agg:Bool)(n j:Nat)(row:List AVal)(v:AVal)(h0:Hp)(hv:partA agg j n row=some v) :
  OpSem P GL (.load agg n) [.rptr row j] h0 v [] []:=by
 intro o os hc w0 L g h w a r hx _ _;generalize ho:o.op=op at hc;cases hc with
 |load t x _ _ ha hn=>
  have d:=hx.1;generalize hu:a.eval x=u0 at d;cases d with
  |rptr _ _ _ blk off f h1 h2=>
   obtain⟨u,q1,q2⟩:=XaS r ha hn hv h1 h2;simp_all [execOp,Instr.loadAt,Instr.sureAddr,Out.here]
end
end Go.Ah
end
section
namespace Go.Ah
section
variable {P:Program} {GL:Globs} {Z:PZ}
theorem Q0(w:World)(g:Nat)(old cs:Array Value)(t:TypeId)(fr:Nat×Nat)(hg:w.heap[g]?=some (.cells old t fr)):(w.setRow g cs).heap=w.heap.setIfInBounds g (.cells cs t fr):=by
 apply Array.ext_getElem?
 grind [setRow_heap,setRow_other]
theorem Xar{x:AVal}{g:Gm}{v:Value}(hx:x.cell=true)(d:g.den x v):v.oneCell'=true:=Den.oneCell d hx
theorem ZcB(n b j:Nat)(row row' cs:List AVal)(x:AVal)(h0:Hp)(hb:h0 b=some (.box row))(hcs:cellsOf x=some cs)(hlen:cs.length=n)(hsp:splice j cs row=some row') :
  OpSem P GL (.store n) [.bptr b j,x] h0 .junk [] [(b,.box row')]:=by
 intro o os hc w0 L g h w a r hx _ hup';have hb':h b=some (.box row):=by simp_all
 generalize ho:o.op=op at hc;cases hc with
 |store t y z _ hn=>
  obtain⟨d,dx,_⟩:=hx;generalize hu:a.eval y=u0 at d;cases d with
  |bptr _ _ _ cb ec=>
  cases hvirt:cb.virt with
  |true=>have:=r.hollow b _ cb hb' rfl ec hvirt; cases this
  |false=>
  obtain⟨_,_,o',ho',arr,T,rfl,hs,hden⟩:=r.own b _ cb hb' rfl ec hvirt;obtain⟨c1,c2,c3⟩:=Q1 hcs dx;obtain⟨s1,s2,s3⟩:=Z5 hsp;have hone:∀v∈(a.eval z).cells.toList,v.oneCell'=true:=by
   grind [List.mem_iff_getElem?,Xar,List.getElem_mem]
  have hfit:j+0+(a.eval z).cells.toList.length≤arr.size∨cs=[]:=by
   grind
  have hfin:∃cur',(storeCells ⟨cb.blk,j,none⟩ (a.eval z).cells.toList).run P w=.ok () (w.setRow cb.blk cur')∧cur'.size=row'.length ∧
    ∀(k:Nat) (y:AVal) (u:Value),row'[k]?=some y→cur'[k]?=some u→g.den y u:=by
   rcases hfit with hfit|hcs0
   ·refine⟨_,run_storeCells_at P cb.blk j T _ 0 arr w ho' hfit hone,?_,λk y u e1 e2=>?_⟩
    ·grind
    ·rw[s3 k] at e1;by_cases hk:j≤k∧k<j+cs.length
     ·grind
     ·rw[YIN hk] at e1;refine hden k y u e1 ?_;have hkl:k<row.length:=(YLG e1).1;by_cases hk1:k<j
      ·grind
      grind
   ·subst hcs0;have hc0:(a.eval z).cells.toList=[]:=by
     grind
    have hrow:row'=row:=by simp[splice] at hsp; exact hsp.symm
    subst hrow;exact⟨arr,by rw[hc0]; simp only[storeCells]; rw[setRow_self w cb.blk arr T (0,0) ho']; rfl,hs,hden⟩
  obtain⟨cur',f1,f2,f3⟩:=hfin;have hsz:(a.eval z).cells.size=n:=by rw[c1,hlen]
  have hrun:(execOp a.eval o).run P w=.ok .skip (w.setRow cb.blk cur'):=by
   simp_all [execOp,Instr.storeAt,Instr.sureAddr,storeVar,Qq]
  rw[hrun];refine⟨g,Gm.Le.refl g,?_,rfl⟩;exact r.write hb' rfl ec hvirt rfl rfl rfl rfl (Q0 w _ arr cur' T (0,0) ho') ⟨cur',T,rfl,f2,λk y u e1 e2=>f3 k y u e1 e2⟩
theorem YN(x:AVal)(hx0:(∃b j,x=.bptr b j)∨(∃b i j,x=.ptr b i j)∨(∃row j,x=.rptr row j)∨(∃f a b,x=.func (.func f) a b)∨(∃t v,x=.iface t v))(h0:Hp) :
  OpSem P GL .nilCheck [x] h0 x [] []:=by
 intro o os hc w0 L g h w a r hx _ _;generalize ho:o.op=op at hc;cases hc with
 |nilCheck y=>
  have d:=hx.1;have d0:=d;generalize hu:a.eval y=u0 at d d0;rcases hx0 with ⟨b,j,rfl⟩|⟨b,i,j,rfl⟩|⟨row,j,rfl⟩|⟨f,xs,ys,rfl⟩|⟨t,v,rfl⟩
  ·cases d; simp_all [execOp,Out.here]
  ·cases d; simp_all [execOp,Out.here]
  ·cases d; simp_all [execOp,Out.here]
  ·cases d; simp_all [execOp,Out.here]
  ·cases d; simp_all [execOp,Out.here]
theorem Xu{o:Oper}{op:BinOp}{t t':TypeId}{x y:Operand}(ho:o.op=.binOp op t x y t'){a:Act}{u v z:Value}{w:World}(hu:a.eval x=u)(hv:a.eval y=v)
 (hg:(eqGuard op t x y u v).run P w=.ok () w)(hr:(binOp op t u v).run P w=.ok z w):(execOp a.eval o).run P w=.ok (.value z) w:=by
 simp_all [execOp]
theorem YcI{op:BinOp}{k:IntKind}{a b:Int}{v:AVal}(h:binI op k a b=some v)(t:TypeId)(w:World){g:Gm}:∃u,(binOp op t (.int k a) (.int k b)).run P w=.ok u w∧g.den v u:=by
 cases op<;>simp only[binI,Option.some.injEq] at h<;>first
  |cases h; done
  |(subst h; refine⟨_,by simp only[binOp_add,binOp_sub,binOp_mul,binOp_eql,binOp_neq,binOp_lss,binOp_leq,binOp_gtr,binOp_geq,binOp_and,binOp_or,binOp_xor,binOp_andNot,intBits_and,intBits_or,intBits_xor,intBits_andNot,Op.intArith,Sem.run_pure]<;>rfl,?_⟩; constructor)
theorem YcQ(op:BinOp)(ib:Bool)(k:IntKind)(m n:Int)(v:AVal)(hv:binI op k m n=some v)(h0:Hp):OpSem P GL (.bin op ib) [.int k m,.int k n] h0 v [] []:=by
 intro o os hc w0 L g h w a r hx _ _;generalize ho:o.op=op' at hc;cases hc with
 |bin _ t t' x y _ _=>
  obtain⟨d1,d2,_⟩:=hx;obtain⟨z,h1,h2⟩:=YcI (P:=P) (g:=g) hv t w;rw[Xu ho (Xh d1) (Xh d2) (by rw[eqGuard_at_int]; rfl) h1];exact Out.here r h2
theorem XcI{op:BinOp}{k k':IntKind}{a b:Int}{v:AVal}(h:binX op k k' a b=some v)(t:TypeId)(w:World){g:Gm}:∃u,(binOp op t (.int k a) (.int k' b)).run P w=.ok u w∧g.den v u:=by
 unfold binX at h;split at h
 ·rename_i n;split at h
  ·cases h;refine⟨_,?_,Den.int _ _ _⟩;rfl
  ·cases h;refine⟨_,?_,Den.int _ _ _⟩;rfl
  ·cases h0:Nat.beq n 0<;>rw[h0] at h
   ·cases hk:ikEq k k'<;>rw[hk] at h
    ·cases h
    ·cases h;have:=YQ hk; subst this;refine⟨_,?_,Den.int _ _ _⟩;have hn:¬(Int.ofNat n=0):=by intro e; simp_all
     simp_all [binOp,Op.intDiv]
   ·cases h
  ·cases h0:Nat.beq n 0<;>rw[h0] at h
   ·cases hk:ikEq k k'<;>rw[hk] at h
    ·cases h
    ·cases h;have:=YQ hk; subst this;refine⟨_,?_,Den.int _ _ _⟩;have hn:¬(Int.ofNat n=0):=by intro e; simp_all
     simp_all [binOp,Op.intDiv]
   ·cases h
  ·cases h
 ·rename_i n;split at h
  ·cases hk:ikEq k k'<;>rw[hk] at h
   ·cases h
   ·cases h;have:=YQ hk; subst this;refine⟨_,?_,Den.int _ _ _⟩;simp[binOp,Op.intDiv]
  ·cases hk:ikEq k k'<;>rw[hk] at h
   ·cases h
   ·cases h;have:=YQ hk; subst this;refine⟨_,?_,Den.int _ _ _⟩;simp[binOp,Op.intDiv]
  ·cases h
theorem XcQ(op:BinOp)(ib:Bool)(k k':IntKind)(m n:Int)(v:AVal)(hv:binX op k k' m n=some v)(h0:Hp):OpSem P GL (.bin op ib) [.int k m,.int k' n] h0 v [] []:=by
 intro o os hc w0 L g h w a r hx _ _;generalize ho:o.op=op' at hc;cases hc with
 |bin _ t t' x y _ _=>
  obtain⟨d1,d2,_⟩:=hx;obtain⟨z,h1,h2⟩:=XcI (P:=P) (g:=g) hv t w;rw[Xu ho (Xh d1) (Xh d2) (by rw[eqGuard_at_int]; rfl) h1];exact Out.here r h2
theorem Xbz(s:ByteArray):s.toList=s.data.toList:=ByteArray.toList_eq s
theorem ZbX(op:BinOp)(ib:Bool)(s t:List UInt8)(neq:Bool)(hop:op=if neq then .neq else .eql)(h0:Hp):OpSem P GL (.bin op ib) [.str s,.str t] h0 (.bool (bif neq then !(s==t) else s==t)) [] []:=by
 intro o os hc w0 L g h w a r hx _ _;generalize ho:o.op=op' at hc;cases hc with
 |bin _ ty t' x y _ _=>
  obtain⟨d1,d2,_⟩:=hx;obtain⟨s',e1,rfl⟩:=QP d1;obtain⟨t',e2,rfl⟩:=QP d2;subst hop;cases neq
  ·rw[Xu ho e1 e2 (by rw[eqGuard_at_string]; rfl) (z:=.bool (s'.data.toList==t'.data.toList)) (by simp[binOp,Op.stringOp,Xbz])];exact Out.here r (.bool _ _)
  ·rw[Xu ho e1 e2 (by rw[eqGuard_at_string]; rfl) (z:=.bool (!(s'.data.toList==t'.data.toList))) (by simp[binOp,Op.stringOp,Xbz])];exact Out.here r (.bool _ _)
theorem ZcQ(ib:Bool)(s t:List UInt8)(hl:Nat.ble (s.length+t.length) 1099511627776=true)(h0:Hp):OpSem P GL (.bin .add ib) [.str s,.str t] h0 (.str (s++t)) [] []:=by
 intro o os hc w0 L g h w a r hx _ _;generalize ho:o.op=op' at hc;cases hc with
 |bin _ ty t' x y _ _=>
  obtain⟨d1,d2,_⟩:=hx;obtain⟨s',e1,rfl⟩:=QP d1;obtain⟨t',e2,rfl⟩:=QP d2;have hl:=YNL hl;have h1:s'.size=s'.data.toList.length:=by simp only[Array.length_toList]; rfl
  have h2:t'.size=t'.data.toList.length:=by simp only[Array.length_toList]; rfl
  have hm:IntKind.i64.max=9223372036854775807:=rfl;have hno:¬(((s'.size+t'.size:Nat):Int)>IntKind.i64.max):=by rw[hm]; omega
  rw[Xu ho e1 e2 (by rw[eqGuard_at_string]; rfl) (z:=.string (s'++t')) (by simp only[binOp,Op.stringOp]; rw[YIN hno]; rfl)];refine Out.here r ?_;have:(s'++t').data.toList=s'.data.toList++t'.data.toList:=by rfl
  rw[←this];exact .str _ _
theorem QbW(op:BinOp)(m n:Bool)(neq:Bool)(hop:op=if neq then .neq else .eql)(h0:Hp):OpSem P GL (.bin op true) [.bool m,.bool n] h0 (.bool (bif neq then !(m==n) else m==n)) [] []:=by
 intro o os hc w0 L g h w a r hx _ _;generalize ho:o.op=op' at hc;cases hc with
 |bin _ ty t' x y _ hb=>
  obtain⟨d1,d2,_⟩:=hx;subst hop;cases neq
  ·rw[Xu ho (Yt d1) (Yt d2) (by rw[eqGuard_at_bool]; rfl) (run_eql_bool w ty m n (hb rfl))];exact Out.here r (.bool _ _)
  ·rw[Xu ho (Yt d1) (Yt d2) (by rw[eqGuard_at_bool]; rfl) (run_neq_bool w ty m n (hb rfl))];exact Out.here r (.bool _ _)
theorem Qcc(b:Bool)(h0:Hp):OpSem P GL (.un .not) [.bool b] h0 (.bool (!b)) [] []:=by
 intro o os hc w0 L g h w a r hx _ _;generalize ho:o.op=op' at hc;cases hc with
 |un _ t x=>simp only[execOp,ho,Yt hx.1,Op.unary,Sem.run_bind,Sem.run_pure,Result.andThen_ok]; exact Out.here r (.bool _ _)
theorem Xcc(k:IntKind)(n:Int)(h0:Hp):OpSem P GL (.un .neg) [.int k n] h0 (.int k (k.wrap (0-n))) [] []:=by
 intro o os hc w0 L g h w a r hx _ _;generalize ho:o.op=op' at hc;cases hc with
 |un _ t x=>simp only[execOp,ho,Xh hx.1,Op.unary,Op.intArith,Sem.run_bind,Sem.run_pure,Result.andThen_ok]; exact Out.here r (.int _ _ _)
theorem ZcR(k k':IntKind)(n:Int)(h0:Hp):OpSem P GL (.conv k) [.int k' n] h0 (.int k (k.wrap n)) [] []:=by
 intro o os hc w0 L g h w a r hx _ _;generalize ho:o.op=op' at hc;cases hc with
 |conv s d x _ hs hd=>
  obtain⟨ds,hds⟩:=Option.isSome_iff_exists.1 hs;simp only[execOp,ho,Xh hx.1,convert,Sem.run_bind,run_underlying hds,run_underlying hd,Result.andThen_ok,Conv.intToInt,Sem.run_pure];exact Out.here r (.int _ _ _)
theorem QbJ(t:TypeId)(x:AVal)(h0:Hp):OpSem P GL (.mkIface t) [x] h0 (.iface t x) [] []:=by
 intro o os hc w0 L g h w a r hx _ _;generalize ho:o.op=op' at hc;cases hc with
 |mkIface _ y hcon=>
  simp only[execOp,ho,Sem.run_bind,run_makeInterface w t _ hcon,Result.andThen_ok,Sem.run_pure];exact Out.here r (.iface _ _ _ _ hx.1)
theorem Ycb(fn:Fn)(n:Nat)(xs ys:List AVal)(hn:xs.length=n)(h0:Hp):OpSem P GL (.mkFunc fn n) (xs++ys) h0 (.func fn xs ys) [] []:=by
 intro o os hc w0 L g h w a r hx _ _;generalize ho:o.op=op' at hc;cases hc with
 |mkFunc _ us vs=>
  simp only[execOp,ho,Instr.makeFunc,Sem.run_bind,Sem.run_pure,Result.andThen_ok];have hl:=hx.length;simp at hl;refine Out.here r (.func _ _ _ _ _ _ (by simp[hn]) (by simp; omega) (λi x v e1 e2=>?_) (λi x v e1 e2=>?_))
  ·have hi:=(YLG e1).1;refine hx.get i x v (by grind) ?_
   grind
  ·have hi:=(YLG e1).1;refine hx.get (xs.length+i) x v (by simp_all) ?_;simp_all
theorem XbJ(h0:Hp)(nb:Nat)(hn:h0 nb=none):OpSem P GL .makeMap [] h0 (.map nb) [] [(nb,.map [])]:=by
 intro o os hc w0 L g h w a r _ _ hup';have hn':h nb=none:=by simp_all
 generalize ho:o.op=op at hc;cases hc with
 |makeMap t=>
  simp only[execOp,ho,Instr.makeMap,Option.map_none,Sem.run_bind,run_newObj,Sem.run_pure,Result.andThen_ok];exact⟨_,r.le_alloc hn' ⟨w.heap.size,0,0,false,0⟩,r.alloc hn' (cb:=⟨w.heap.size,0,0,false,0⟩) rfl rfl rfl ⟨#[],0,rfl,rfl,by simp⟩,.map _ _ _ (Yq _ _ _)⟩
theorem QaX{t:TypeId}{n:Nat}(hn:size? P t=some n)(h0:n≠0)(a:Addr)(fd:Field)(ht:fd.type=t)(w:World):(fieldPlace a fd).run P w=.ok (a.add fd.offset) w:=by
 simp_all [fieldPlace,Qq]
theorem Q4(off:Nat)(x y:AVal)(hxy:(∃b j,x=.bptr b j∧y=.bptr b (j+off))∨(∃b i j,x=.ptr b i j∧y=.ptr b i (j+off))∨(∃row j,x=.rptr row j∧y=.rptr row (j+off)))(h0:Hp) :
  OpSem P GL (.fieldAddr off) [x] h0 y [] []:=by
 intro o os hc w0 L g h w a r hx _ _;generalize ho:o.op=op at hc;cases hc with
 |fieldAddr t z f fs fd n hu hf hn hn0=>
  have d:=hx.1;generalize hu0:a.eval z=u0 at d;have key:∀b o',(execOp a.eval o).run P w=.ok (.value (.pointer (some ⟨b,o'+fd.offset,none⟩))) w∨a.eval z≠.pointer (some ⟨b,o',none⟩):=by
   intro b o';by_cases he:a.eval z=.pointer (some ⟨b,o',none⟩)
   ·left;simp only[execOp,ho,he,Instr.fieldAt,Sem.run_bind,run_underlying hu,Result.andThen_ok,hf,Instr.sureAddr,Sem.run_pure,QaX hn hn0 _ fd rfl,ZD]
   ·exact .inr he
  rcases hxy with ⟨b,j,rfl,rfl⟩|⟨b,i,j,rfl,rfl⟩|⟨row,j,rfl,rfl⟩
  ·cases d with
   |bptr _ _ _ cb ec=>
    rw[(key cb.blk j).resolve_right (λhne=>hne hu0)];exact Out.here r (.bptr _ _ _ _ ec)
  ·cases d with
   |ptr _ _ _ _ cb ec=>
    rw[(key cb.blk (cb.base+i*cb.sz+j)).resolve_right (λhne=>hne hu0),Nat.add_assoc];exact Out.here r (.ptr _ _ _ _ _ ec)
  ·cases d with
   |rptr _ _ _ blk off' f' h1 h2=>
    rw[(key blk (off'+j)).resolve_right (λhne=>hne hu0),Nat.add_assoc];exact Out.here r (.rptr _ _ _ _ _ f' h1 h2)
theorem XbW{t:TypeId}{agg:Bool}{n:Nat}(ha:isAgg? P t=some agg)(hn:size? P t=some n){g:Gm}{cs:List AVal}{arr:Array Value}{off:Nat}{v:AVal}(hv:partA agg off n cs=some v)(hs:arr.size=cs.length)
 (hd:∀(j:Nat) (y:AVal) (u:Value),cs[j]?=some y→arr[j]?=some u→g.den y u)(w:World):∃u,(part t arr off).run P w=.ok u w∧g.den v u:=by
 obtain⟨p1,p2⟩:=Zaa (g:=g) hv (by omega) hd;cases agg with
 |true=>
  simp_all [part,Qx,Qq]
 |false=>
  obtain⟨u,q1,q2⟩:=p2 rfl;simp_all [part,Qx]
theorem Qcz(agg:Bool)(off n:Nat)(cs:List AVal)(v:AVal)(hv:partA agg off n cs=some v)(h0:Hp):OpSem P GL (.field agg off n) [.agg cs] h0 v [] []:=by
 intro o os hc w0 L g h w a r hx _ _;generalize ho:o.op=op at hc;cases hc with
 |field t z f fs fd _ _ hu hf hn ha=>
  have d:=hx.1;generalize hu0:a.eval z=u0 at d;cases d with
  |agg _ _ vs h1 h2=>
   obtain⟨u,q1,q2⟩:=XbW ha hn hv h1 h2 w;simp_all [execOp,Instr.field,asAgg,run_underlying,Out.here]
theorem XcR(agg:Bool)(len n:Nat)(cs:List AVal)(v:AVal)(k:IntKind)(i:Nat)(hi:i<len)(hv:partA agg (i*n) n cs=some v)(h0:Hp):OpSem P GL (.idxA agg len n) [.agg cs,.int k (.ofNat i)] h0 v [] []:=by
 intro o os hc w0 L g h w a r hx _ _;generalize ho:o.op=op at hc;cases hc with
 |idxA t z y _ e _ _ hu hn ha=>
  obtain⟨d,d2,_⟩:=hx;generalize hu0:a.eval z=u0 at d;cases d with
  |agg _ _ vs h1 h2=>
   obtain⟨u,q1,q2⟩:=XbW ha hn hv h1 h2 w;simp only[execOp,ho,hu0,Xh d2,Instr.index,asIntOf,Sem.run_bind,run_underlying hu,Result.andThen_ok,Sem.run_pure];simp_all [Qq,Out.here]
theorem Xab(len n:Nat)(x y:AVal)(k:IntKind)(i:Nat)(hi:i<len)
 (hxy:(∃b j,x=.bptr b j∧y=.bptr b (j+i*n))∨(∃b r j,x=.ptr b r j∧y=.ptr b r (j+i*n))∨(∃row j,x=.rptr row j∧y=.rptr row (j+i*n)))(h0:Hp) :
  OpSem P GL (.idxAddrA len n) [x,.int k (.ofNat i)] h0 y [] []:=by
 intro o os hc w0 L g h w a r hx _ _;generalize ho:o.op=op at hc;cases hc with
 |idxAddrA t z q _ e _ hu hn=>
  obtain⟨d,d2,_⟩:=hx;generalize hu0:a.eval z=u0 at d;have key:∀b o',a.eval z=.pointer (some ⟨b,o',none⟩)→(execOp a.eval o).run P w=.ok (.value (.pointer (some ⟨b,o'+i*n,none⟩))) w:=by
   intro b o' he;simp only[execOp,ho,he,Xh d2,Instr.indexAt,asIntOf,Sem.run_bind,run_underlying hu,Result.andThen_ok,Instr.sureAddr,Sem.run_pure];rw[YIP ⟨Int.natCast_nonneg i,Int.ofNat_lt.2 hi⟩];simp_all [Qq,ZD]
  rcases hxy with ⟨b,j,rfl,rfl⟩|⟨b,r',j,rfl,rfl⟩|⟨row,j,rfl,rfl⟩
  ·cases d with
   |bptr _ _ _ cb ec=>rw[key _ _ hu0]; exact Out.here r (.bptr _ _ _ _ ec)
  ·cases d with
   |ptr _ _ _ _ cb ec=>rw[key _ _ hu0,Nat.add_assoc]; exact Out.here r (.ptr _ _ _ _ _ ec)
  ·cases d with
   |rptr _ _ _ blk off' f' h1 h2=>rw[key _ _ hu0,Nat.add_assoc]; exact Out.here r (.rptr _ _ _ _ _ f' h1 h2)
theorem YbJ(i:Nat)(vs:List AVal)(v:AVal)(hv:vs[i]?=some v)(h0:Hp):OpSem P GL (.extract i) [.tup vs] h0 v [] []:=by
 intro o os hc w0 L g h w a r hx _ _;generalize ho:o.op=op at hc;cases hc with
 |extract z _=>
  have d:=hx.1;generalize hu0:a.eval z=u0 at d;cases d with
  |tup _ _ us h1 h2=>
   have hlt:i<us.size:=by grind
   have he:us[i]?=some us[i]:=by simp[hlt]
   simp only[execOp,ho,hu0,Instr.extract,he,Sem.run_bind,Sem.run_pure,Result.andThen_ok];exact Out.here r (h2 i v _ hv he)
theorem ZaL(x:AVal)(n:Int)(hx0:(x=.nils∧n=0)∨(x=.cap0∧n=0)∨(∃b o l e,x=.sl b o l e∧n=l)∨(∃e q s rows,x=.rsl e q s rows∧n=rows.length))(h0:Hp):OpSem P GL .lenS [x] h0 (.int .i64 n) [] []:=by
 intro o os hc w0 L g h w a r hx _ _;generalize ho:o.op=op at hc;cases hc with
 |lenS t e z hu=>
  have d:=hx.1;generalize hu0:a.eval z=u0 at d;have key:∀p m c,a.eval z=.slice p m c→(execOp a.eval o).run P w=.ok (.value (.int .i64 m)) w:=by
   intro p m c he;simp[execOp,ho,resolve,invoke,builtin,Builtin.len_,he,run_underlying hu,goInt]
  rcases hx0 with ⟨rfl,rfl⟩|⟨rfl,rfl⟩|⟨b,o',l,e',rfl,rfl⟩|⟨e',q,s,rows,rfl,rfl⟩
  ·cases d; rw[key _ _ _ hu0]; exact Out.here r (.int _ _ _)
  ·cases d; rw[key _ _ _ hu0]; exact Out.here r (.int _ _ _)
  ·cases d<;>(rw[key _ _ _ hu0]; exact Out.here r (.int _ _ _))
  ·cases d; rw[key _ _ _ hu0]; exact Out.here r (.int _ _ _)
theorem Xca(s:List UInt8)(h0:Hp):OpSem P GL .lenStr [.str s] h0 (.int .i64 s.length) [] []:=by
 intro o os hc w0 L g h w a r hx _ _;generalize ho:o.op=op at hc;cases hc with
 |lenStr t z hu=>
  obtain⟨s',e1,rfl⟩:=QP hx.1;have:(execOp a.eval o).run P w=.ok (.value (.int .i64 s'.size)) w:=by
   simp[execOp,ho,resolve,invoke,builtin,Builtin.len_,e1,run_underlying hu,goInt]
  rw[this,show (s'.size:Int)=(s'.data.toList.length:Nat) by simp];exact Out.here r (.int _ _ _)
theorem QcR(n:Nat)(x:AVal)(h0:Hp):OpSem P GL (.lenA n) [x] h0 (.int .i64 n) [] []:=by
 intro o os hc w0 L g h w a r _ _ _;generalize ho:o.op=op at hc;cases hc with
 |lenA t e _ z hu=>
  have:(execOp a.eval o).run P w=.ok (.value (.int .i64 n)) w:=by
   simp[execOp,ho,resolve,invoke,builtin,Builtin.len_,run_underlying hu,goInt]
  rw[this]; exact Out.here r (.int _ _ _)
theorem XcS(k k':IntKind)(x y:Int)(h0:Hp):OpSem P GL .min2 [.int k x,.int k' y] h0 (.int k (if y<x then y else x)) [] []:=by
 intro o os hc w0 L g h w a r hx _ _;generalize ho:o.op=op at hc;cases hc with
 |min2 ts p q=>
  have:(execOp a.eval o).run P w=.ok (.value (.int k (if y<x then y else x))) w:=by
   simp[execOp,ho,resolve,invoke,builtin,Xh hx.1,Xh hx.2.1,run_min_int2]
  rw[this]; exact Out.here r (.int _ _ _)
theorem YcS(k k':IntKind)(x y:Int)(h0:Hp):OpSem P GL .max2 [.int k x,.int k' y] h0 (.int k (if y>x then y else x)) [] []:=by
 intro o os hc w0 L g h w a r hx _ _;generalize ho:o.op=op at hc;cases hc with
 |max2 ts p q=>
  have:(execOp a.eval o).run P w=.ok (.value (.int k (if y>x then y else x))) w:=by
   simp[execOp,ho,resolve,invoke,builtin,Xh hx.1,Xh hx.2.1,run_max_int2]
  rw[this]; exact Out.here r (.int _ _ _)
end
end Go.Ah
end
section
namespace Go.Ah
section
variable {P:Program} {GL:Globs} {Z:PZ}
theorem Zbp(off:Nat):∀(l:List Value) (j:Nat) (cells:Array Value),off+j+l.length≤cells.size →
  ((l.zipIdx j).foldl (λ(cs:Array Value) (p:Value×Nat)=>cs.setIfInBounds (off+p.2) p.1) cells).size=cells.size ∧
  ∀k:Nat,((l.zipIdx j).foldl (λ(cs:Array Value) (p:Value×Nat)=>cs.setIfInBounds (off+p.2) p.1) cells)[k]?=if off+j≤k∧k<off+j+l.length then l[k-(off+j)]? else cells[k]?
 |[],j,cells,_=>by simp; intro k h1 h2; omega
 |v::l,j,cells,h=>by
  simp only[List.zipIdx_cons,List.foldl_cons];simp only[List.length_cons] at h;obtain⟨h1,h2⟩:=Zbp off l (j+1) (cells.setIfInBounds (off+j) v) (by simp; omega)
  grind
theorem XaJ{g:Gm}{place:Nat→Option (Nat×Nat)}:∀(parts:List (Nat×Value)) (ps:List (Nat×Nat)) (xs:List AVal) (z cs:List AVal) (cells:Array Value),
  fill z ps xs=some cs→parts.map (λp=>place p.1)=ps.map some→DenL g xs (parts.map (·.2))→cells.size=z.length →
  (∀(j:Nat) (y:AVal) (u:Value),z[j]?=some y→cells[j]?=some u→g.den y u)→(∀y∈z,y.cell=true) →
  ∃cells',Instr.fill place cells parts=some cells'∧cells'.size=cs.length∧(∀(j:Nat) (y:AVal) (u:Value),cs[j]?=some y→cells'[j]?=some u→g.den y u)∧cs.length=z.length∧(∀y∈cs,y.cell=true)
 |[],ps,xs,z,cs,cells,hf,hp,hx,hs,hd,hc=>by
  have:ps=[]:=by simpa using hp.symm
  subst this;cases xs with
  |nil=>simp only[fill] at hf; cases hf; exact⟨cells,rfl,hs,hd,rfl,hc⟩
  |cons x xs=>exact hx.elim
 |(i,v)::parts,ps,xs,z,cs,cells,hf,hp,hx,hs,hd,hc=>by
  cases ps with
  |nil=>simp at hp
  |cons p ps=>
   obtain⟨off,sz⟩:=p;simp only[List.map_cons,List.cons.injEq] at hp;obtain⟨hp1,hp2⟩:=hp;cases xs with
   |nil=>exact hx.elim
   |cons x xs=>
    obtain⟨dx,hx'⟩:=hx;simp only[fill] at hf;cases hco:cellsOf x with
    |none=>simp[hco] at hf
    |some c1=>
     simp only[hco] at hf;cases hb:Nat.beq c1.length sz && !(Nat.beq sz 0) with
     |false=>simp[hb] at hf
     |true=>
      have hb':=hb;simp only[Bool.and_eq_true,Bool.not_eq_true'] at hb';have hsz:c1.length=sz:=YNB hb'.1;have hsz0:sz≠0:=by intro e; subst e; simp[Nat.beq] at hb'
      simp only[hb,cond_true] at hf;cases hsp:splice off c1 z with
      |none=>simp[hsp] at hf
      |some z'=>
       simp only[hsp] at hf;obtain⟨e1,e2,e3⟩:=Q1 hco dx;obtain⟨s1,s2,s3⟩:=Z5 hsp;have hvs:v.cells.size=sz:=by rw[e1,hsz]
       have hz0:c1≠[]:=by rintro rfl; simp at hsz; omega
       have hfit:=s2 hz0;obtain⟨l1,l2⟩:=Zbp off v.cells.toList 0 cells (by simp[e1]; omega);obtain⟨cells',f1,f2,f3,f4,f5⟩:=XaJ parts ps xs z' cs _ hf hp2 hx' (by rw[l1,hs,s1]) (λj y u q1 q2=>by
         grind) (λy hy=>by
         obtain⟨j,hj⟩:=List.mem_iff_getElem?.1 hy
         grind)
       refine⟨cells',?_,f2,f3,by rw[f4,s1],f5⟩;simp only[Instr.fill,hp1,hvs];rw[YIN (by simp; rw[hs]; omega),←f1]
       congr 1
       rw[←Array.foldl_toList]; simp
theorem Qcy(z:List AVal)(ps:List (Nat×Nat))(xs cs:List AVal)(hf:fill z ps xs=some cs)(h0:Hp):OpSem P GL (.build z ps) xs h0 (.agg cs) [] []:=by
 intro o os hc w0 L g h w a r hx _ _;generalize ho:o.op=op at hc;cases hc with
 |buildStruct t fs v _ parts places _ hu hz hcells hpl hps=>
  obtain⟨it,hit,hitz⟩:∃it,P.info? t=some it∧it.zero=some v:=by
   unfold zero? at hz; cases hi:P.info? t<;>simp_all
  obtain⟨c1,c2⟩:=YH (M:=g.M) (c:=g.c) hcells;obtain⟨cells',f1,f2,f3,_,_⟩:=XaJ (g:=g) (place:=(places.toArray[·]?)) (parts.map λp=>(p.1,a.eval p.2)).toList ps xs z cs v.cells hf (by simp_all [Function.comp_def]) (by rw[Array.toList_map,List.map_map]; rw[List.map_map] at hx; exact hx) (by simpa using c1) (λj y u e1 e2=>c2 j y u e1 (by simpa using e2)) (Xad hcells);have hb:P.built t (parts.map λp=>(p.1,a.eval p.2)).toList=some cells':=by
   simp_all [Program.built]
  simp only[execOp,ho,Sem.run_bind,run_build w t _ cells' hb,Result.andThen_ok,Sem.run_pure];exact Out.here r (.agg _ _ _ f2 f3)
 |buildArray t n e v _ parts _ sz hu hz hcells hs hps=>
  obtain⟨it,hit,hitz⟩:∃it,P.info? t=some it∧it.zero=some v:=by
   unfold zero? at hz; cases hi:P.info? t<;>simp_all
  obtain⟨ie,hie,hies⟩:∃ie,P.info? e=some ie∧ie.size=sz:=by
   simp_all [size?]
  obtain⟨c1,c2⟩:=YH (M:=g.M) (c:=g.c) hcells;obtain⟨cells',f1,f2,f3,_,_⟩:=XaJ (g:=g) (place:=λi=>some (i*ie.size,ie.size)) (parts.map λp=>(p.1,a.eval p.2)).toList ps xs z cs v.cells hf (by rw[←hps,hies]; simp) (by rw[Array.toList_map,List.map_map]; rw[List.map_map] at hx; exact hx) (by simpa using c1) (λj y u e1 e2=>c2 j y u e1 (by simpa using e2)) (Xad hcells);have hb:P.built t (parts.map λp=>(p.1,a.eval p.2)).toList=some cells':=by
   simp_all [Program.built]
  simp only[execOp,ho,Sem.run_bind,run_build w t _ cells' hb,Result.andThen_ok,Sem.run_pure];exact Out.here r (.agg _ _ _ f2 f3)
theorem YbF{z:List AVal}{n k:Nat}(hk:k<n*z.length):((List.replicate n z).flatten)[k]?=z[k%z.length]?:=by
 induction n generalizing k with
 |zero=>simp at hk
 |succ n ih=>
  simp only[List.replicate_succ,List.flatten_cons];by_cases h:k<z.length<;>grind [Nat.mod_eq_of_lt,Nat.mod_eq_sub_mod]
theorem Rep.newRows{w0:World}{L:Ln}{g:Gm}{h:Hp}{w:World}(r:Rep GL w0 L g h w){nb:Nat}(hn:h nb=none)(sz:Nat)(rs:List (List AVal))(arr:Array Value)(T:TypeId)(len cap:Nat)(ex:Bool)
 (hs:cap*sz=arr.size)(hlen:len≤cap)(hex:ex=true→cap=len)(hrs:rs.length≤cap)(hrow:∀(i:Nat) (row:List AVal),rs[i]?=some row→row.length=sz)
 (hd:∀(i:Nat) (row:List AVal) (j:Nat) (x:AVal) (v:Value),rs[i]?=some row→row[j]?=some x→arr[i*sz+j]?=some v→g.den x v) :
  ∃g',g.Le g'∧Rep GL w0 L g' (hup h nb (.rows sz rs)) (w.alloc (.cells arr T))∧g'.den (.sl nb 0 len ex) (.slice (some ⟨w.heap.size,0,none⟩) len cap):=by
 have hle:=r.le_alloc hn ⟨w.heap.size,sz,arr.size,false,0⟩;have h1:rs.length*sz≤arr.size:=Nat.le_trans (Nat.mul_le_mul_right sz hrs) (Nat.le_of_eq hs);have hslot:Den g.M (cup g.c nb ⟨w.heap.size,sz,arr.size,false,0⟩) (.sl nb 0 len ex) (.slice (some ⟨w.heap.size,0+0*sz,none⟩) len cap):=
  .sl _ _ _ _ _ _ _ (Yq _ _ _) rfl hlen (by simpa using hs) hex
 rw[Nat.zero_mul] at hslot;exact⟨_,hle,r.alloc hn (cb:=⟨w.heap.size,sz,arr.size,false,0⟩) rfl rfl rfl ⟨rfl,arr,T,rfl,rfl,(Nat.zero_add _).symm▸h1,hrow,λi row j x v e1 e2 e3=>Gm.den_mono hle (hd i row j x v e1 e2 (by rw[←e3]; simp))⟩,hslot⟩
theorem Qb9(sz n:Nat)(z:List AVal)(ps:List (Nat×Nat))(xs cs:List AVal)(rs:List (List AVal))(hf:fill z ps xs=some cs)(hch:chunk sz n cs=some rs)(h0:Hp)(nb:Nat)(hn:h0 nb=none) :
  OpSem P GL (.buildS sz n z ps) xs h0 (.sl nb 0 n true) [] [(nb,.rows sz rs)]:=by
 intro o os hc w0 L g h w a r hx _ hup';have hn':h nb=none:=by simp_all
 generalize ho:o.op=op at hc;cases hc with
 |buildSlice t _ e v z0 _ parts _ _ hu hs hsmall hpos hz hvs hcells hfl hps=>
  obtain⟨ie,hie,hies⟩:∃ie,P.info? e=some ie∧ie.size=sz:=by
   simp_all [size?]
  have hiz:ie.zero=some v:=by simp_all [zero?]
  have hue:P.underlying t=some (.slice e):=by
   grind [elemS?]
  obtain⟨c1,c2⟩:=YH (M:=g.M) (c:=g.c) hcells;have hz0:z0.length=sz:=by rw[←c1,Array.length_toList,hvs]
  have hzl:z.length=n*sz:=by rw[←hfl]; simp[hz0]
  obtain⟨k1,k2,k3,k4⟩:=Qa0 hch;have hfin:∀cells0:Array Value,cells0.size=n*sz→(∀k v',cells0[k]?=some v'→v.cells[k%sz]?=some v') →
    ∃cells',Instr.fill (λi=>some (i*ie.size,ie.size)) cells0 (parts.map λp=>(p.1,a.eval p.2)).toList=some cells'∧cells'.size=cs.length∧(∀(j:Nat) (y:AVal) (u:Value),cs[j]?=some y→cells'[j]?=some u→g.den y u)∧cs.length=z.length:=by
   intro cells0 hs0 hv0;obtain⟨cells',f1,f2,f3,f4,_⟩:=XaJ (g:=g) (place:=λi=>some (i*ie.size,ie.size)) (parts.map λp=>(p.1,a.eval p.2)).toList ps xs z cs cells0 hf (by rw[←hps,hies]; simp) (by rw[Array.toList_map,List.map_map]; rw[List.map_map] at hx; exact hx) (by rw[hs0,hzl])
    (λj y u e1 e2=>by
     have hj:j<n*z0.length:=by grind
     rw[← hfl,YbF hj,hz0] at e1;exact c2 _ y u e1 (by simp_all))
    (λy hy=>by
     rw[← hfl] at hy;simp only[List.mem_flatten,List.mem_replicate] at hy;obtain⟨l,⟨_,rfl⟩,hyl⟩:=hy;exact Xad hcells y hyl)
   exact⟨cells',f1,f2,f3,f4⟩
  have hend:∀cells':Array Value,cells'.size=cs.length→cs.length=z.length→(∀(j:Nat) (y:AVal) (u:Value),cs[j]?=some y→cells'[j]?=some u→g.den y u) →
    Out P GL w0 L g (hups h [(nb,.rows sz rs)]) (.sl nb 0 n true) (.ok (.value (.slice (some ⟨w.heap.size,0,none⟩) n n)) (w.alloc (.cells cells' e))):=by
   intro cells' f2 f4 f3;refine Rep.newRows r hn' sz rs cells' e n n true (by rw[f2,f4,hzl]) (Nat.le_refl _) (λ_=>rfl) (by omega) k3 (λi row j x v' e1 e2 e3=>?_);exact f3 _ x v' (k4 i row j x e1 e2) e3
  have hszp:0 < sz:=Nat.pos_of_ne_zero (λe=>hpos (by rw[e]; simp));obtain⟨cells',f1,f2,f3,f4⟩:=hfin ((Array.range (n * ie.size)).map (v.cells[· % v.cells.size]!)) (by simp[hies]) (λk v' e1=>by
   grind [Nat.mod_lt])
  have hrun:(Instr.buildSlice t n (parts.map λp=>(p.1,a.eval p.2))).run P w=.ok (.slice (some ⟨w.heap.size,0,none⟩) n n) (w.alloc (.cells cells' e)):=by
   have hs1:¬n*ie.size>2 ^ 24:=by rw[hies]; omega
   have hs2:¬n*ie.size=0:=by rw[hies]; exact hpos
   simp only[Instr.buildSlice,sizeOf,typeInfo,zeroValue,newRow,Sem.run_bind,run_underlying hue,Result.andThen_ok,run_program,hie,Sem.run_pure,YIN hs1,YIN hs2,hiz,f1,run_newObj];rfl
  grind [execOp,Sem.run_bind,Result.andThen_ok,Sem.run_pure]
theorem Xbw(b:Nat)(es:List (AVal×AVal))(h0:Hp)(hb:h0 b=some (.map es)):OpSem P GL .lenM [.map b] h0 (.int .i64 es.length) [b] []:=by
 intro o os hc w0 L g h w a r hx hrd _;have hb':h b=some (.map es):=by simp_all
 generalize ho:o.op=op at hc;cases hc with
 |lenM t k e z hu=>
  have d:=hx.1;generalize hu0:a.eval z=u0 at d;cases d with
  |map _ _ cb ec=>
  cases hvirt:cb.virt with
  |true=>have:=r.hollow b _ cb hb' rfl ec hvirt; cases this
  |false=>
  obtain⟨_,_,o',ho',arr,clock,rfl,hs,hden⟩:=r.own b _ cb hb' rfl ec hvirt;have hget:(getObj cb.blk).run P w=.ok (.map arr clock) w:=by simp[getObj,Sem.run,ho']
  have:(execOp a.eval o).run P w=.ok (.value (.int .i64 es.length)) w:=by
   simp[execOp,ho,resolve,invoke,builtin,Builtin.len_,hu0,run_underlying hu,hget,goInt,hs]
  rw[this]; exact Out.here r (.int _ _ _)
theorem Ybw(h0:Hp):OpSem P GL .lenM [.nilmap] h0 (.int .i64 0) [] []:=by
 intro o os hc w0 L g h w a r hx _ _;generalize ho:o.op=op at hc;cases hc with
 |lenM t k e z hu=>
  have d:=hx.1;generalize hu0:a.eval z=u0 at d;cases d with
  |nilmap=>
  have:(execOp a.eval o).run P w=.ok (.value (.int .i64 0)) w:=by
   simp[execOp,ho,resolve,invoke,builtin,Builtin.len_,hu0,run_underlying hu,goInt]
  rw[this]; exact Out.here r (.int _ _ _)
theorem Qbw(es:List (AVal×AVal))(h0:Hp):OpSem P GL .lenM [.rmap es] h0 (.int .i64 es.length) [] []:=by
 intro o os hc w0 L g h w a r hx _ _;generalize ho:o.op=op at hc;cases hc with
 |lenM t k e z hu=>
  have d:=hx.1;generalize hu0:a.eval z=u0 at d;cases d with
  |rmap _ _ blk arr clock hM hs h1 h2=>
  have hget:(getObj blk).run P w=.ok (.map arr clock) w:=by simp[getObj,Sem.run,r.stable _ _ hM]
  have:(execOp a.eval o).run P w=.ok (.value (.int .i64 es.length)) w:=by
   simp[execOp,ho,resolve,invoke,builtin,Builtin.len_,hu0,run_underlying hu,hget,goInt,hs]
  rw[this]; exact Out.here r (.int _ _ _)
theorem QcA(s:List UInt8)(h0:Hp)(nb:Nat)(hn:h0 nb=none):OpSem P GL .range [.str s] h0 (.iter nb) [] [(nb,.siter s 0)]:=by
 intro o os hc w0 L g h w a r hx _ hup';have hn':h nb=none:=by simp_all
 generalize ho:o.op=op at hc;cases hc with
 |range t x hu=>
  obtain⟨s',e1,rfl⟩:=QP hx.1;have:(execOp a.eval o).run P w=.ok (.value (.pointer (some ⟨w.heap.size,0,none⟩))) (w.alloc (.stringIter s' 0)):=by
   simp_all [execOp,Instr.range,run_underlying]
  rw[this];exact⟨_,r.le_alloc hn' ⟨w.heap.size,0,0,false,0⟩,r.alloc hn' (cb:=⟨w.heap.size,0,0,false,0⟩) rfl rfl rfl ⟨rfl,rfl⟩,.iter _ _ _ (Yq _ _ _) rfl⟩
theorem XF{t:TypeId}(h:P.concrete t=true)(h2:(P.underlying t).isSome=true):∃d,P.underlying t=some d∧∀ms,d≠.interface ms:=by
 grind [Program.concrete,Option.isSome_iff_exists]
theorem Xam(t:TypeId)(ok:Bool)(z v:AVal)(u:TypeId)(h0:Hp) :
  OpSem P GL (.assertT t ok z) [.iface t v] h0 (bif ok then .tup [v,.bool true] else v) [] []∧(u≠t→OpSem P GL (.assertT t true z) [.iface u v] h0 (.tup [z,.bool false]) [] [])∧OpSem P GL (.assertT t true z) [.nili] h0 (.tup [z,.bool false]) [] []:=by
 refine⟨?_,?_,?_⟩
 ·intro o os hc w0 L g h w a r hx _ _;generalize ho:o.op=op at hc;cases hc with
  |assertT y tx _ _ zv _ hcon hsome hz haz=>
   have d:=hx.1;generalize hu0:a.eval y=u0 at d;cases d with
   |iface _ _ _ v' dv=>
   obtain⟨d',hd',hni⟩:=XF hcon hsome;have:(Instr.typeAssert (.iface t v') tx t ok).run P w=.ok (if ok then .tuple #[v',.bool true] else v') w:=by
    simp_all [Instr.typeAssert,run_underlying]
   simp only[execOp,ho,hu0,Sem.run_bind,this,Result.andThen_ok,Sem.run_pure];refine Out.here r ?_;cases ok
   ·exact dv
   ·refine .tup _ _ _ rfl (λi x v e1 e2=>?_)
    match i with
    |0=>simp at e1 e2; subst e1 e2; exact dv
    |1=>simp at e1 e2; subst e1 e2; exact .bool _ _
    |n+2=>simp at e1
 ·intro hne o os hc w0 L g h w a r hx _ _;generalize ho:o.op=op at hc;cases hc with
  |assertT y tx _ _ zv _ hcon hsome hz haz=>
   have d:=hx.1;generalize hu0:a.eval y=u0 at d;cases d with
   |iface _ _ _ v' dv=>
   obtain⟨d',hd',hni⟩:=XF hcon hsome;have:(Instr.typeAssert (.iface u v') tx t true).run P w=.ok (.tuple #[zv,.bool false]) w:=by
    simp_all [Instr.typeAssert,run_underlying,QO]
   simp only[execOp,ho,hu0,Sem.run_bind,this,Result.andThen_ok,Sem.run_pure];refine Out.here r (.tup _ _ _ rfl (λi x v e1 e2=>?_))
   match i with
   |0=>simp at e1 e2; subst e1 e2; exact Qan haz
   |1=>simp at e1 e2; subst e1 e2; exact .bool _ _
   |n+2=>simp at e1
 ·intro o os hc w0 L g h w a r hx _ _;generalize ho:o.op=op at hc;cases hc with
  |assertT y tx _ _ zv _ hcon hsome hz haz=>
   have d:=hx.1;generalize hu0:a.eval y=u0 at d;cases d with
   |nili=>
   obtain⟨d',hd',hni⟩:=XF hcon hsome;have:(Instr.typeAssert .nilIface tx t true).run P w=.ok (.tuple #[zv,.bool false]) w:=by
    simp_all [Instr.typeAssert,run_underlying,QO]
   simp only[execOp,ho,hu0,Sem.run_bind,this,Result.andThen_ok,Sem.run_pure];refine Out.here r (.tup _ _ _ rfl (λi x v e1 e2=>?_))
   match i with
   |0=>simp at e1 e2; subst e1 e2; exact Qan haz
   |1=>simp at e1 e2; subst e1 e2; exact .bool _ _
   |n+2=>simp at e1
theorem Xcx{t:TypeId}{i:TypeInfo}(h:P.info? t=some i)(w:World):(typeInfo t).run P w=.ok i w:=by
 simp_all [typeInfo]
theorem QbI(tbl:List TypeId)(u:TypeId)(v:AVal)(h0:Hp)(hu:u∈tbl):OpSem P GL (.assertI tbl) [.iface u v] h0 (.tup [.iface u v,.bool true]) [] []:=by
 intro o os hc w0 L g h w a r hx _ _;generalize ho:o.op=op at hc;cases hc with
 |assertI y tx t ms _ hun hz htb=>
  have d:=hx.1;generalize hu0:a.eval y=u0 at d;cases d with
  |iface _ _ _ v' dv=>
  obtain⟨i,hi,hm⟩:=htb u hu;have:(Instr.typeAssert (.iface u v') tx t true).run P w=.ok (.tuple #[.iface u v',.bool true]) w:=by
   simp_all [Instr.typeAssert,run_underlying,Xcx]
  simp only[execOp,ho,hu0,Sem.run_bind,this,Result.andThen_ok,Sem.run_pure];refine Out.here r (.tup _ _ _ rfl (λi x v e1 e2=>?_))
  match i with
  |0=>simp at e1 e2; subst e1 e2; exact .iface _ _ _ _ dv
  |1=>simp at e1 e2; subst e1 e2; exact .bool _ _
  |n+2=>simp at e1
theorem Qbv(tbl:List TypeId)(h0:Hp):OpSem P GL (.assertI tbl) [.nili] h0 (.tup [.nili,.bool false]) [] []:=by
 intro o os hc w0 L g h w a r hx _ _;generalize ho:o.op=op at hc;cases hc with
 |assertI y tx t ms _ hun hz htb=>
  have d:=hx.1;generalize hu0:a.eval y=u0 at d;cases d with
  |nili=>
  have:(Instr.typeAssert .nilIface tx t true).run P w=.ok (.tuple #[.nilIface,.bool false]) w:=by
   simp_all [Instr.typeAssert,run_underlying,QO]
  simp only[execOp,ho,hu0,Sem.run_bind,this,Result.andThen_ok,Sem.run_pure];refine Out.here r (.tup _ _ _ rfl (λi x v e1 e2=>?_))
  match i with
  |0=>simp at e1 e2; subst e1 e2; exact .nili _
  |1=>simp at e1 e2; subst e1 e2; exact .bool _ _
  |n+2=>simp at e1
end
end Go.Ah
end
section
namespace Go.Ah
section
variable {P:Program} {GL:Globs} {Z:PZ}
def NilIs:NilCls→Bool→Value→Prop
 |.ptr,true,v=>v=.pointer none
 |.ptr,false,v=>∃a,v=.pointer (some a)
 |.slice,true,v=>v=.slice none 0 0
 |.slice,false,v=>∃a l c,v=.slice (some a) l c
 |.iface,true,v=>v=.nilIface
 |.iface,false,v=>∃t u,v=.iface t u
 |.func,true,v=>v=.nilFunc
 |.func,false,v=>∃f p q,v=.func f p q
 |.map,true,v=>v=.map none
 |.map,false,v=>∃m,v=.map (some m)
theorem Qa5{c:NilCls}{z:AVal}{b:Bool}(h:nilness c z=some b){g:Gm}{v:Value}(d:g.den z v):NilIs c b v:=by
 cases d<;>cases c<;>simp only[nilness] at h<;>first
  |(cases h; done)
  |(cases h; simp only[NilIs]; done)
  |(cases h; exact⟨_,rfl⟩)
  |(cases h; exact⟨_,_,rfl⟩)
  |(cases h; exact⟨_,_,_,rfl⟩)
  |skip
 ·rename_i b' off len ex cb cap _ _ _ _ _;cases len with
  |zero=>cases h
  |succ n=>cases h; exact⟨_,_,_,rfl⟩
 ·rename_i nn _ rows a _ _ _ _ _ h2 h3 _ _ _ _ _;cases nn
  ·cases rows with
   |nil=>cases h
   |cons r rs=>
    cases h;have:=h3 (by simp);subst this;exact⟨_,_,_,rfl⟩
  ·cases h;obtain⟨a',ha'⟩:=Option.isSome_iff_exists.1 (h2 rfl);subst ha'; exact⟨_,_,_,rfl⟩
theorem YaS{c:NilCls}{t:TypeId}(ht:clsT P t=some c){b:Bool}{v:Value}(hv:NilIs c b v)(w:World)(d:Nat) :
  (Op.equalIn (d+1) t v (nilV c)).run P w=.ok b w∧(Op.equalIn (d+1) t (nilV c) v).run P w=.ok b w:=by
 unfold clsT at ht;cases hu:P.underlying t with
 |none=>simp[hu] at ht
 |some ty=>
  unfold Op.equalIn;simp only[Sem.run_bind,run_underlying hu,Result.andThen_ok];cases ty<;>simp only[hu] at ht<;>cases ht<;>cases b<;>simp only[NilIs] at hv<;>first
   |(subst hv; exact⟨rfl,rfl⟩)
   |(obtain⟨x,rfl⟩:=hv; exact⟨rfl,rfl⟩)
   |(obtain⟨x,y,rfl⟩:=hv; exact⟨rfl,rfl⟩)
   |(obtain⟨x,y,z,rfl⟩:=hv; exact⟨rfl,rfl⟩)
theorem Ybu{c:NilCls}{t:TypeId}(ht:clsT P t=some c){b:Bool}{v:Value}(hv:NilIs c b v)(neq:Bool)(w:World) :
  (binOp (if neq then .neq else .eql) t v (nilV c)).run P w=.ok (.bool (bif neq then !b else b)) w∧(binOp (if neq then .neq else .eql) t (nilV c) v).run P w=.ok (.bool (bif neq then !b else b)) w:=by
 obtain⟨h1,h2⟩:=YaS ht hv w 9999;have e1:∀x y:Value,(Op.equalIn (9999+1) t x y).run P w=.ok b w→((do pure (.bool (←Op.equal t x y)):Sem Value).run P w=.ok (.bool b) w)∧((do pure (.bool (!(←Op.equal t x y))):Sem Value).run P w=.ok (.bool (!b)) w):=by
  intro x y hr;have hr':(Op.equal t x y).run P w=.ok b w:=hr;simp_all
 have f1:=e1 _ _ h1;have f2:=e1 _ _ h2;cases neq<;>cases c<;>cases b<;>simp only[NilIs] at hv<;>first
  |(subst hv; first|exact⟨f1.1,f2.1⟩|exact⟨f1.2,f2.2⟩)
  |(obtain⟨x,rfl⟩:=hv; first|exact⟨f1.1,f2.1⟩|exact⟨f1.2,f2.2⟩)
  |(obtain⟨x,y,rfl⟩:=hv; first|exact⟨f1.1,f2.1⟩|exact⟨f1.2,f2.2⟩)
  |(obtain⟨x,y,z,rfl⟩:=hv; first|exact⟨f1.1,f2.1⟩|exact⟨f1.2,f2.2⟩)
theorem XaO{c:NilCls}{t:TypeId}(neq:Bool){b:Bool}{v:Value}(hv:NilIs c b v)(x:Operand) :
  eqGuard (if neq then .neq else .eql) t x (.const (nilV c)) v (nilV c)=pure ()∧eqGuard (if neq then .neq else .eql) t (.const (nilV c)) x (nilV c) v=pure ():=by
 cases c<;>cases b<;>simp only[NilIs] at hv<;>cases neq<;>first
  |(subst hv; constructor<;>first|rfl|simp[eqGuard,nilV])
  |(obtain⟨x,rfl⟩:=hv; constructor<;>rfl)
  |(obtain⟨x,y,rfl⟩:=hv; constructor<;>rfl)
  |(obtain⟨x,y,z,rfl⟩:=hv; constructor<;>rfl)
theorem Xcz(c:NilCls)(neq left:Bool)(x y:AVal)(b:Bool)(hb:nilness c (bif left then y else x)=some b)(h0:Hp):OpSem P GL (.eqNil c neq left) [x,y] h0 (.bool (bif neq then !b else b)) [] []:=by
 intro o os hc w0 L g h w a r hx _ _;generalize ho:o.op=op at hc;cases hc with
 |eqNilR _ _ t t' p ht=>
  have hn:=Qa5 hb hx.1;rw[Xu ho rfl (v:=nilV c) rfl (by rw[(XaO neq hn p).1]; rfl) (Ybu ht hn neq w).1];exact Out.here r (.bool _ _)
 |eqNilL _ _ t t' q ht=>
  have hn:=Qa5 hb hx.2.1;rw[Xu ho (u:=nilV c) rfl rfl (by rw[(XaO neq hn q).2]; rfl) (Ybu ht hn neq w).2];exact Out.here r (.bool _ _)
theorem ZaI(k:IntKind)(ex nn:Bool)(sz:Nat)(rows:List (List AVal))(row:List AVal)(i:Int)(hi0:0≤i)(hi:rows[i.toNat]?=some row)(h0:Hp) :
  OpSem P GL (.idxAddrS sz) [.rsl ex nn sz rows,.int k i] h0 (.rptr row 0) [] []:=by
 intro o os hc w0 L g h w a r hx _ _;generalize ho:o.op=op at hc;cases hc with
 |idxAddrS t z q e _ hu hn=>
  obtain⟨d,d2,_⟩:=hx;generalize hu0:a.eval z=u0 at d;cases d with
  |rsl _ _ _ _ _ p cap blk off f h1 h2 h3 h4 h5 h6 h7 h8=>
   have hlt:i.toNat<rows.length:=(YLG hi).1;have hne:rows≠[]:=by intro e; rw[e] at hlt; simp at hlt
   have hp:=h3 hne;subst hp;have hlti:i<rows.length:=by omega
   simp only[execOp,ho,hu0,Xh d2,Instr.indexAt,asIntOf,Sem.run_bind,run_underlying hu,Result.andThen_ok,Sem.run_pure];rw[YIP ⟨hi0,hlti⟩];simp only[Sem.run_bind,Qq hn,Result.andThen_ok,Sem.run_pure,ZD];have hl:=h6 _ row hi;have hd:Den g.M g.c (.rptr row 0) (.pointer (some ⟨blk,(off+i.toNat*sz)+0,none⟩)):=
    .rptr _ _ _ _ _ (f i.toNat) (λk hk=>by grind) (λk x e=>h8 _ row k x hi e)
   exact Out.here r hd
theorem Rep.rowsBlk{w0:World}{L:Ln}{g:Gm}{h:Hp}{w:World}(r:Rep GL w0 L g h w){b:Nat}{sz:Nat}{rs:List (List AVal)}{cb:CB}(hb:h b=some (.rows sz rs))(ec:g.c b=some cb)(hv:cb.virt=false) :
  cb.sz=sz∧∃arr T,w.heap[cb.blk]?=some (.cells arr T (0,0))∧arr.size=cb.tot∧cb.base+rs.length*sz≤cb.tot∧(∀(i:Nat) (row:List AVal),rs[i]?=some row→row.length=sz) ∧
   ∀(i:Nat) (row:List AVal) (j:Nat) (x:AVal) (v:Value),rs[i]?=some row→row[j]?=some x→arr[cb.base+i*sz+j]?=some v→g.den x v:=by
 obtain⟨_,_,o',ho',h1,arr,T,rfl,h2,h3,h4,h5⟩:=r.own b _ cb hb rfl ec hv;exact⟨h1,arr,T,ho',h2,h3,h4,h5⟩
theorem Rep.virtRows{w0:World}{L:Ln}{g:Gm}{h:Hp}{w:World}(r:Rep GL w0 L g h w){b:Nat}{sz:Nat}{rs:List (List AVal)}{cb:CB}(hb:h b=some (.rows sz rs))(ec:g.c b=some cb)(hv:cb.virt=true):cb.sz=sz∧rs=[]:=by
 have:=r.hollow b _ cb hb rfl ec hv;simp_all
theorem QaH(k:IntKind)(ex:Bool)(sz b o' len:Nat)(rs:List (List AVal))(i:Int)(hi0:0≤i)(hi:i<len)(h0:Hp)(hb:h0 b=some (.rows sz rs)) :
  OpSem P GL (.idxAddrS sz) [.sl b o' len ex,.int k i] h0 (.ptr b (o'+i.toNat) 0) [b] []:=by
 intro o os hc w0 L g h w a r hx hrd _;have hb':h b=some (.rows sz rs):=by simp_all
 generalize ho:o.op=op at hc;cases hc with
 |idxAddrS t z q e _ hu hn=>
  obtain⟨d,d2,_⟩:=hx;generalize hu0:a.eval z=u0 at d;cases d with
  |slv=>simp at hi; omega
  |sle=>simp at hi; omega
  |sl _ _ _ _ _ cb cap ec hv h1 h2 h3=>
   obtain⟨e1,_⟩:=r.rowsBlk hb' ec hv;simp only[execOp,ho,hu0,Xh d2,Instr.indexAt,asIntOf,Sem.run_bind,run_underlying hu,Result.andThen_ok,Sem.run_pure];rw[YIP ⟨hi0,hi⟩];simp only[Sem.run_bind,Qq hn,Result.andThen_ok,Sem.run_pure,ZD];have hd:Den g.M g.c (.ptr b (o'+i.toNat) 0) (.pointer (some ⟨cb.blk,cb.base+(o'+i.toNat)*cb.sz+0,none⟩)):=.ptr _ _ _ _ _ ec;rw[e1,Nat.add_mul,Nat.add_zero,←Nat.add_assoc] at hd;rw[e1];exact Out.here r hd
theorem Zca(k:IntKind)(s:List UInt8)(i:Int)(c:UInt8)(hi0:0≤i)(hi:s[i.toNat]?=some c)(h0:Hp):OpSem P GL .idxStr [.str s,.int k i] h0 (.int .u8 c.toNat) [] []:=by
 intro o os hc w0 L g h w a r hx _ _;generalize ho:o.op=op at hc;cases hc with
 |idxStr t z q hu=>
  obtain⟨d,d2,_⟩:=hx;obtain⟨s',e1,rfl⟩:=QP d;have hs:s'[i.toNat]?=some c:=by
   have hlt:i.toNat<s'.data.toList.length:=(YLG hi).1;have hget:=(YLG hi).2;have hlt':i.toNat<s'.size:=by simpa using hlt
   rw[getElem?_pos s' i.toNat hlt']
   congr 1
  simp only[execOp,ho,e1,Xh d2,Instr.index,asIntOf,Sem.run_bind,run_underlying hu,Result.andThen_ok,Sem.run_pure,YIP hi0,hs];exact Out.here r (.int _ _ _)
theorem Xbh(agg:Bool)(n b i j sz:Nat)(rs:List (List AVal))(row:List AVal)(v:AVal)(h0:Hp)(hb:h0 b=some (.rows sz rs))(hi:rs[i]?=some row)(hv:partA agg j n row=some v) :
  OpSem P GL (.load agg n) [.ptr b i j] h0 v [b] []:=by
 intro o os hc w0 L g h w a r hx hrd _;have hb':h b=some (.rows sz rs):=by simp_all
 generalize ho:o.op=op at hc;cases hc with
 |load t x _ _ ha hn=>
  have d:=hx.1;generalize hu:a.eval x=u0 at d;cases d with
  |ptr _ _ _ _ cb ec=>
  cases hvirt:cb.virt with
  |true=>have:=(r.virtRows hb' ec hvirt).2; subst this; simp at hi
  |false=>
  obtain⟨e1,arr,T,ho',hs,hle,hrow,hden⟩:=r.rowsBlk hb' ec hvirt;have hil:i<rs.length:=(YLG hi).1;have hbound:cb.base+i*sz+sz≤arr.size:=by
   have:(i+1)*sz≤rs.length*sz:=Nat.mul_le_mul_right sz hil;rw[Nat.succ_mul] at this; omega
  have hsub:∀(k:Nat) (y:AVal) (u:Value),row[k]?=some y→(arr.extract (cb.base+i*sz) (cb.base+i*sz+sz))[k]?=some u→g.den y u:=by
   grind
  obtain⟨p1,p2⟩:=Zaa (g:=g) hv (by rw[hrow i row hi]; simp; omega) hsub;obtain⟨l1,l2⟩:=X4 ha hn (T:=T) (fr:=(0,0)) (QE ho') (cb.base+i*sz+j);rw[e1] at hu;cases agg with
  |true=>
   obtain⟨q1,q2⟩:=p1 rfl;have hext:(arr.extract (cb.base+i*sz) (cb.base+i*sz+sz)).extract j (j+n)=arr.extract (cb.base+i*sz+j) (cb.base+i*sz+j+n):=by
    grind
   rw[hext] at q2;have q1':n≠0→cb.base+i*sz+j+n≤arr.size:=λhn0=>by have:=q1 hn0; simp at this; omega
   simp_all [execOp,Instr.loadAt,Instr.sureAddr,Out.here]
  |false=>
   obtain⟨u,q1,q2⟩:=p2 rfl;obtain⟨hk,q1⟩:=Array.getElem?_eq_some_iff.1 q1;rw[Array.getElem_extract] at q1;simp at hk;have hk':cb.base+i*sz+j<arr.size:=by omega
   simp_all [execOp,Instr.loadAt,Instr.sureAddr,Out.here]
theorem XX{w:World}{blk j:Nat}{arr:Array Value}{T:TypeId}(ho:w.heap[blk]?=some (.cells arr T (0,0)))(vs:List Value)(hv:∀v∈vs,v.oneCell'=true)(hfit:vs≠[]→j+vs.length≤arr.size) :
  ∃cur',(storeCells ⟨blk,j,none⟩ vs).run P w=.ok () (w.setRow blk cur')∧cur'.size=arr.size∧∀k,cur'[k]?=if j≤k∧k<j+vs.length then vs[k-j]? else arr[k]?:=by
 by_cases h0:vs=[]
 ·subst h0;refine⟨arr,?_,rfl,λk=>by rw[YIN (by simp)]⟩;simp only[storeCells]; rw[setRow_self w blk arr T (0,0) ho]; rfl
 ·have hf:=hfit h0;refine⟨_,run_storeCells_at P blk j T vs 0 arr w ho (by omega) hv,?_,λk=>?_⟩
  ·simp only[List.size_toArray,List.length_append,List.length_take,List.length_drop,Array.length_toList]; omega
  ·by_cases hk:j≤k∧k<j+vs.length
   ·rw[YIP hk,List.getElem?_toArray,List.append_assoc,List.getElem?_append_right (by simp; omega),List.getElem?_append_left (by simp; omega)]
    congr 1; simp; omega
   ·rw[YIN hk];by_cases hk1:k<j
    ·rw[List.getElem?_toArray,List.append_assoc,List.getElem?_append_left (by simp; omega),List.getElem?_take_of_lt (by omega)];simp
    ·rw[List.getElem?_toArray,List.getElem?_append_right (by simp; omega)];simp
     congr 1; omega
theorem YaZ(n b i j sz:Nat)(rs rs':List (List AVal))(row row' cs:List AVal)(x:AVal)(h0:Hp)(hb:h0 b=some (.rows sz rs))(hi:rs[i]?=some row)(hcs:cellsOf x=some cs)(hlen:cs.length=n)(hsp:splice j cs row=some row')(hset:rs'=rs.set i row') :
  OpSem P GL (.store n) [.ptr b i j,x] h0 .junk [] [(b,.rows sz rs')]:=by
 intro o os hc w0 L g h w a r hx _ hup';have hb':h b=some (.rows sz rs):=by simp_all
 generalize ho:o.op=op at hc;cases hc with
 |store t y z _ hn=>
  obtain⟨d,dx,_⟩:=hx;generalize hu:a.eval y=u0 at d;cases d with
  |ptr _ _ _ _ cb ec=>
  cases hvirt:cb.virt with
  |true=>have:=(r.virtRows hb' ec hvirt).2; subst this; simp at hi
  |false=>
  obtain⟨e1,arr,T,ho',hs,hle,hrow,hden⟩:=r.rowsBlk hb' ec hvirt;obtain⟨c1,c2,c3⟩:=Q1 hcs dx;obtain⟨s1,s2,s3⟩:=Z5 hsp;have hil:i<rs.length:=(YLG hi).1;have hrl:=hrow i row hi;have hbound:cb.base+i*sz+sz≤arr.size:=by
   have:(i+1)*sz≤rs.length*sz:=Nat.mul_le_mul_right sz hil;rw[Nat.succ_mul] at this; omega
  have hL:(a.eval z).cells.toList.length=cs.length:=by rw[Array.length_toList]; exact c1
  have hone:∀v∈(a.eval z).cells.toList,v.oneCell'=true:=by
   grind [List.mem_iff_getElem?,Xar,List.getElem_mem]
  obtain⟨cur',f1,f2,f3⟩:=XX (P:=P) ho' (a.eval z).cells.toList hone (j:=cb.base + i * sz + j) (by
   grind [List.length_eq_zero_iff])
  have hsz:(a.eval z).cells.size=n:=by rw[c1,hlen]
  rw[e1] at hu;have hrun:(execOp a.eval o).run P w=.ok .skip (w.setRow cb.blk cur'):=by
   simp_all [execOp,Instr.storeAt,Instr.sureAddr,storeVar,Qq]
  rw[hrun];refine⟨g,Gm.Le.refl g,?_,rfl⟩;refine r.write hb' rfl ec hvirt rfl rfl rfl rfl (Q0 w _ arr cur' T (0,0) ho') ⟨e1,cur',T,rfl,by rw[f2,hs],by subst hset; simpa using hle,?_,?_⟩
  ·grind
  ·intro i' row1 k y u e2 e3 e4;subst hset;rw[f3,hL] at e4;by_cases hii:i'=i
   ·subst hii; simp[hil] at e2; subst e2;have hk:k<sz:=by grind
    rw[s3 k] at e3;by_cases hjk:j≤k∧k<j+cs.length
    ·rw[YIP hjk] at e3;rw[YIP (by omega)] at e4;refine c2 (k-j) y u e3 ?_;rw[Array.getElem?_toList] at e4;rw[←e4]; congr 1; omega
    ·rw[YIN hjk] at e3;rw[YIN (by omega)] at e4;exact hden i' row k y u hi e3 e4
   ·rw[List.getElem?_set_ne (λe=>hii e.symm)] at e2;have hk:k<sz:=by grind
    have hout:¬(cb.base+i*sz+j≤cb.base+i'*sz+k∧cb.base+i'*sz+k<cb.base+i*sz+j+cs.length):=by
     intro ⟨q1,q2⟩;by_cases hcs0:cs=[]
     ·subst hcs0; simp at q2; omega
     ·have hjl:=s2 hcs0;rcases Nat.lt_or_ge i' i with hlt|hge
      ·have:(i'+1)*sz≤i*sz:=Nat.mul_le_mul_right sz hlt
       grind
      ·have hlt:i<i':=by omega
       have:(i+1)*sz≤i'*sz:=Nat.mul_le_mul_right sz hlt
       grind
    rw[YIN hout] at e4;exact hden i' row1 k y u e2 e3 e4
end
end Go.Ah
end
section
namespace Go.Ah
section
variable {P:Program} {GL:Globs} {Z:PZ}
theorem Qb8{g:Gm}{l r:Bool}{a b:AVal}(h:Xa1 l a b=some r){t:TypeId}(ht:leaf? P t=some l){v u:Value}(hv:g.den a v)(hu:g.den b u)(d:Nat)(w:World):(Op.equalIn (d+1) t v u).run P w=.ok r w:=by
 have hty:∃ty,P.underlying t=some ty∧((l=false∧∃q,ty=.int q)∨(l=true∧ty=.bool)):=by
  grind [leaf?]
 obtain⟨ty,hty,hl⟩:=hty;rcases hl with ⟨rfl,q,rfl⟩|⟨rfl,rfl⟩
 ·cases hv<;>cases hu<;>simp only[Xa1] at h<;>try (cases h; done)
  grind [YQ,run_equalIn_int]
 ·cases hv<;>cases hu<;>simp only[Xa1] at h<;>try (cases h; done)
  simp_all [run_equalIn_bool']
theorem XaG{g:Gm}(d:Nat)(xs ys:Array Value)(w:World):∀(fs:List Field) (k:Nat) (ls:List Bool) (az bs:List AVal) (r:Bool),QK ls az bs=some r →
  fs.all (λf=>f.name != "_")=true→fs.mapM (λf=>leaf? P f.type)=some ls→fs.map (·.offset)=List.range' k fs.length →
  (∀(i:Nat) (x:AVal),az[i]?=some x→∃v,xs[k+i]?=some v∧g.den x v)→(∀(i:Nat) (x:AVal),bs[i]?=some x→∃v,ys[k+i]?=some v∧g.den x v) →
  (Op.eqFields (d+1) xs ys fs:Sem Bool).run P w=.ok r w
 |[],k,ls,az,bs,r,he,_,hm,_,_,_=>by
  simp at hm; subst hm;cases az<;>cases bs<;>simp only[QK] at he<;>first|(cases he; rfl)|cases he
 |f::fs,k,ls,az,bs,r,he,hall,hm,hoff,hx,hy=>by
  simp only[List.mapM_cons,Option.bind_eq_bind,Option.pure_def] at hm;cases hlf:leaf? P f.type with
  |none=>simp[hlf] at hm
  |some l=>
  cases hms:fs.mapM (λf=>leaf? P f.type) with
  |none=>simp[hlf,hms] at hm
  |some ls'=>
  simp[hlf,hms] at hm; subst hm;cases az with
  |nil=>simp[QK] at he
  |cons a az=>
   cases bs with
   |nil=>simp[QK] at he
   |cons b bs=>
    simp only[QK] at he;cases h1:Xa1 l a b with
    |none=>simp[h1] at he
    |some r1=>
     cases h2:QK ls' az bs with
     |none=>simp[h1,h2] at he
     |some r2=>
      simp only[h1,h2] at he; cases he;simp only[List.all_cons,Bool.and_eq_true,bne_iff_ne] at hall;obtain⟨hname,hall'⟩:=hall;simp only[List.map_cons,List.length_cons,List.range'_succ,List.cons.injEq] at hoff;obtain⟨hk,hoff'⟩:=hoff;obtain⟨v,hv1,hv2⟩:=hx 0 a rfl;obtain⟨u,hu1,hu2⟩:=hy 0 b rfl;rw[Nat.add_zero] at hv1 hu1;have ih:=XaG d xs ys w fs (k+1) ls' az bs r2 h2 hall' hms hoff' (λi x e=>by have:=hx (i+1) x (by simpa using e); rwa [show k+1+i=k+(i+1) by omega]) (λi x e=>by have:=hy (i+1) x (by simpa using e); grind);have hpart:∀(arr:Array Value) (z:Value),arr[k]?=some z→(part f.type arr f.offset).run P w=.ok z w:=by
       intro arr z hz;have ha:isAgg? P f.type=some false:=by
        grind [leaf?,isAgg?]
       simp_all [part,Qx]
      simp only[Op.eqFields];rw[YIP hname];simp only[Sem.run_bind,hpart xs v hv1,hpart ys u hu1,Qb8 h1 hlf hv2 hu2,Result.andThen_ok];cases r1<;>simp_all
theorem Yc4(neq:Bool)(ls:List Bool)(az bs:List AVal)(r:Bool)(hr:QK ls az bs=some r)(h0:Hp):OpSem P GL (.eqS neq ls) [.agg az,.agg bs] h0 (.bool (bif neq then !r else r)) [] []:=by
 intro o os hc w0 L g h w a r' hx _ _;generalize ho:o.op=op at hc;cases hc with
 |eqS _ t t' x y _ hl hs hg=>
  obtain⟨d1,d2,_⟩:=hx;generalize hu1:a.eval x=u1 at d1;generalize hu2:a.eval y=u2 at d2;cases d1 with
  |agg _ _ vs q1 q2=>
  cases d2 with
  |agg _ _ us q3 q4=>
  have hst:∃fs,P.underlying t=some (.struct fs)∧fs.toList.all (λf=>f.name != "_")=true∧fs.toList.map (·.offset)=List.range' 0 fs.toList.length∧fs.toList.mapM (λf=>leaf? P f.type)=some ls:=by
   grind [leaves?]
  obtain⟨fs,f1,f2,f3,f4⟩:=hst;have hfo:P.fieldsOf t=fs:=by simp[Program.fieldsOf,f1]
  have hrun:(Op.equalIn 10000 t (.agg vs) (.agg us)).run P w=.ok r w:=by
   rw[show (10000:Nat)=9998+1+1 from rfl,run_equalIn_struct w (9998+1) t vs us (by rw[hfo]; exact f1) hs,hfo];refine XaG (g:=g) 9998 vs us w fs.toList 0 ls az bs r hr f2 f4 f3 (λi x e=>?_) (λi x e=>?_)
   ·have hi:i<vs.size:=by grind
    exact⟨vs[i],by simp[hi],q2 i x _ e (by simp[hi])⟩
   ·have hi:i<us.size:=by grind
    exact⟨us[i],by simp[hi],q4 i x _ e (by simp[hi])⟩
  cases neq
  ·rw[Xu ho hu1 hu2 (run_eqGuard_agg w _ t x y vs us hg) (z:=.bool r) (by show (binOp .eql t _ _).run P w=_; rw[run_eql_struct,hrun]; rfl)];exact Out.here r' (.bool _ _)
  ·rw[Xu ho hu1 hu2 (run_eqGuard_agg w _ t x y vs us hg) (z:=.bool (!r)) (by show (binOp .neq t _ _).run P w=_; rw[run_neq_struct,hrun]; rfl)];exact Out.here r' (.bool _ _)
end
end Go.Ah
end
section
namespace Go.Ah
def keyEq:AVal→AVal→Option Bool
 |.int k a,.int k' b=>bif ikEq k k' then some (a==b) else none
 |.str a,.str b=>some (a==b)
 |_,_=>none
def alook(k:AVal):List (AVal×AVal)→Option (Option AVal)
 |[]=>some none
 |(q,x)::es=>match keyEq k q with
  |some true=>some (some x)
  |some false=>alook k es
  |none=>none
def aput(k v:AVal):List (AVal×AVal)→Option (List (AVal×AVal))
 |[]=>some [(k,v)]
 |(q,x)::es=>match keyEq k q with
  |some true=>some ((k,v)::es)
  |some false=>match aput k v es with
   |some es'=>some ((q,x)::es')
   |none=>none
  |none=>none
def EntriesOk(g:Gm)(es:List (AVal×AVal))(l:List MapEntry):Prop:=
 l.length=es.length∧∀(i:Nat) (k x:AVal) (e:MapEntry),es[i]?=some (k,x)→l[i]?=some e→g.den k e.key∧g.den x e.val
section
variable {P:Program} {GL:Globs} {Z:PZ}
def KeyFits(d:TypeDesc)(k:AVal):Prop:=(∃z n z',k=.int z n∧d=.int z')∨(∃s,k=.str s∧d=.string)
theorem Ybq{g:Gm}{k q:AVal}{r:Bool}(h:keyEq k q=some r){u v:Value}(hu:g.den k u)(hv:g.den q v){d:TypeDesc}(hfit:KeyFits d k) :
  Instr.sameNow d u v=some r:=by
 rcases hfit with ⟨z,n,z',rfl,rfl⟩|⟨s,rfl,rfl⟩
 ·cases q<;>simp only[keyEq] at h<;>try (cases h; done)
  cases hu; cases hv<;>grind [Instr.sameNow,YQ]
 ·cases q<;>simp only[keyEq] at h<;>try (cases h; done)
  cases hu; cases hv<;>simp_all [Instr.sameNow,beq_toListBytes,ByteArray.toList_eq]
theorem ZaE{g:Gm}{k:AVal}{u:Value}(hu:g.den k u){d:TypeDesc}(hfit:KeyFits d k):∀(es:List (AVal×AVal)) (l:List MapEntry) (i:Nat) (r:Option AVal),EntriesOk g es l→alook k es=some r →
  (r=none→Instr.findNow d u l i=some none)∧(∀x,r=some x→∃j v,Instr.findNow d u l i=some (some (j,v))∧g.den x v∧i≤j∧∃e,l[j-i]?=some e∧v=e.val)
 |[],l,i,r,⟨hl,_⟩,h=>by
  have:l=[]:=List.length_eq_zero_iff.1 (by simpa using hl);subst this;simp only[alook] at h; cases h;exact⟨λ_=>rfl,λx e=>by cases e⟩
 |(q,x)::es,l,i,r,⟨hl,hd⟩,h=>by
  cases l with
  |nil=>simp at hl
  |cons e l=>
   obtain⟨d1,d2⟩:=hd 0 q x e rfl rfl;simp only[alook] at h;cases hk:keyEq k q with
   |none=>simp[hk] at h
   |some b=>
    have hnow:=Ybq hk hu d1 hfit;cases b with
    |true=>
     simp only[hk] at h; cases h;refine⟨λe=>(by cases e),λy ey=>?_⟩;cases ey;exact⟨i,e.val,by simp[Instr.findNow,hnow],d2,Nat.le_refl _,e,by simp,rfl⟩
    |false=>
     simp only[hk] at h;obtain⟨i1,i2⟩:=ZaE hu hfit es l (i+1) r ⟨by simpa using hl,λj k' x' e' q1 q2=>hd (j+1) k' x' e' (by simpa using q1) (by simpa using q2)⟩ h
     grind [Instr.findNow]
theorem YaG{t:TypeId}{d:TypeDesc}(hd:P.underlying t=some d){k:AVal}(hfit:KeyFits d k){g:Gm}{u:Value}(hu:g.den k u)(b:Bool)(n:Nat)(w:World):(Instr.checkKey b (n+1) t u).run P w=.ok () w:=by
 rcases hfit with ⟨z,m,z',rfl,rfl⟩|⟨s,rfl,rfl⟩<;>simp_all [Instr.checkKey,run_underlying]
theorem Z4{t:TypeId}{d:TypeDesc}(hd:P.underlying t=some d){u:Value}{l:List MapEntry}{r:Option (Nat×Value)}(h:Instr.findNow d u l 0=some r)(w:World):(Instr.findKey t u l).run P w=.ok r w:=by
 simp_all [Instr.findKey,run_underlying]
def lookV(ok:Bool)(z:AVal)(r:Option AVal):AVal:=
 bif ok then .tup [r.getD z,.bool r.isSome] else r.getD z
theorem Yb9{t k e:TypeId}{d:TypeDesc}{v:Value}{z:AVal}(ht:P.underlying t=some (.map k e))(hd:P.underlying k=some d)(hz:zero? P e=some v)(haz:aVal v=some z){g:Gm}{q:AVal}{u m:Value}(hu:g.den q u)(hfit:KeyFits d q)
 {w:World}{es:List (AVal×AVal)}{arr:Array MapEntry}(hm:(m=.map none∧arr = #[])∨∃b clock,m=.map (some b)∧w.heap[b]?=some (.map arr clock))(hes:EntriesOk g es arr.toList){r:Option AVal}(hr:alook q es=some r)(ok:Bool) :
  ∃x,(Instr.lookup t m u ok).run P w=.ok x w∧g.den (lookV ok z r) x:=by
 obtain⟨f1,f2⟩:=ZaE hu hfit es arr.toList 0 r hes hr;have hck:=λw'=>YaG (P:=P) hd hfit hu arr.isEmpty 9999 w';have hend:∀v' b,g.den (r.getD z) v'→b=r.isSome→g.den (lookV ok z r) (if ok then .tuple #[v',.bool b] else v'):=by
  intro v' b h2 h3;subst h3;cases ok
  ·exact h2
  ·refine .tup _ _ _ rfl (λi x v e1 e2=>?_)
   match i with
   |0=>simp at e1 e2; subst e1 e2; exact h2
   |1=>simp at e1 e2; subst e1 e2; exact .bool _ _
   |n+2=>simp at e1
 cases r with
 |none=>
  refine⟨_,?_,hend v false (Qan haz) rfl⟩;unfold Instr.lookup;rcases hm with ⟨rfl,rfl⟩|⟨b,clock,rfl,hb⟩<;>simp_all [getObj,Sem.run,run_underlying,Z4,QO]
 |some x=>
  obtain⟨j,v',g1,g2,_⟩:=f2 x rfl;refine⟨_,?_,hend v' true g2 rfl⟩;unfold Instr.lookup;rcases hm with ⟨rfl,rfl⟩|⟨b,clock,rfl,hb⟩<;>simp_all [getObj,Sem.run,run_underlying,Z4]
inductive MapIs (h0:Hp):AVal→List (AVal×AVal)→List Nat→Prop
 |own (b:Nat) (es:List (AVal×AVal)):h0 b=some (.map es)→MapIs h0 (.map b) es [b]
 |row (es:List (AVal×AVal)):MapIs h0 (.rmap es) es []
 |nil:MapIs h0 .nilmap [] []
def KeyKind:Bool→AVal→Prop
 |true,k=>∃s,k=.str s
 |false,k=>∃q n,k=.int q n
theorem Za3{t:TypeId}{str:Bool}(ht:KeyT P t str){k:AVal}(hk:KeyKind str k):∃d,P.underlying t=some d∧KeyFits d k:=by
 cases str
 ·obtain⟨q,hq⟩:=ht; obtain⟨q',n,rfl⟩:=hk; exact⟨_,hq,.inl ⟨_,_,_,rfl,rfl⟩⟩
 ·obtain⟨s,rfl⟩:=hk; exact⟨_,ht,.inr ⟨_,rfl,rfl⟩⟩
theorem Qca(str ok:Bool)(z m k:AVal)(es:List (AVal×AVal))(rd:List Nat)(r:Option AVal)(h0:Hp)(hm:MapIs h0 m es rd)(hk:KeyKind str k)(hr:alook k es=some r):OpSem P GL (.lookup str ok z) [m,k] h0 (lookV ok z r) rd []:=by
 intro o os hc w0 L g h w a rp hx hrd _;generalize ho:o.op=op at hc;cases hc with
 |lookup t kt e x i _ _ v _ ht hkt hz haz=>
  obtain⟨d1,d2,_⟩:=hx;obtain⟨d,hd,hfit⟩:=Za3 hkt hk;generalize hu1:a.eval x=u1 at d1;have hmap:∃arr:Array MapEntry,((u1=.map none∧arr = #[])∨∃b clock,u1=.map (some b)∧w.heap[b]?=some (.map arr clock))∧EntriesOk g es arr.toList:=by
   cases hm with
   |own b _ hb=>
    have hb':h b=some (.map es):=by simp_all
    cases d1 with
    |map _ _ cb ec=>
    cases hvirt:cb.virt with
    |true=>have:=rp.hollow b _ cb hb' rfl ec hvirt; cases this
    |false=>
    obtain⟨_,_,o',ho',arr,clock,rfl,hs,hden⟩:=rp.own b _ cb hb' rfl ec hvirt;exact⟨arr,.inr ⟨_,clock,rfl,ho'⟩,by simpa using hs,λi k x e e1 e2=>hden i k x e e1 (by simpa using e2)⟩
   |row _=>
    cases d1 with
    |rmap _ _ blk arr clock hM hs h1 h2=>
    exact⟨arr,.inr ⟨_,clock,rfl,rp.stable _ _ hM⟩,by simpa using hs,λi k x e e1 e2=>⟨(h1 i k x e e1 (by simpa using e2)).mono (MLe.refl _) (CLe.noOwn _),(h2 i k x e e1 (by simpa using e2)).mono (MLe.refl _) (CLe.noOwn _)⟩⟩
   |nil=>
    cases d1;exact⟨#[],.inl ⟨rfl,rfl⟩,rfl,by simp⟩
  obtain⟨arr,hmv,hes⟩:=hmap;obtain⟨y,f1,f2⟩:=Yb9 ht hd hz haz d2 hfit hmv hes hr ok;simp_all [execOp,Out.here]
theorem Zbv{g:Gm}{k q:AVal}(h:keyEq k q=some true){u v:Value}(hu:g.den k u)(hv:g.den q v)(n:Nat):Instr.sameBits n v u=true:=by
 cases k<;>cases q<;>simp only[keyEq] at h<;>try (cases h; done)
 ·rename_i k1 a k2 b;cases hk:ikEq k1 k2 with
  |false=>simp[hk] at h
  |true=>
   have:=YQ hk; subst this;simp[hk] at h;cases hu; cases hv; simp_all [Instr.sameBits]
 ·cases hu; cases hv<;>simp_all [Instr.sameBits,beq_toListBytes,ByteArray.toList_eq]
theorem Xbk{g:Gm}{k x:AVal}{u y:Value}(hu:g.den k u)(hy:g.den x y){d:TypeDesc}(hfit:KeyFits d k):∀(es es':List (AVal×AVal)) (l:List MapEntry) (i:Nat),EntriesOk g es l→aput k x es=some es' →
  (Instr.findNow d u l i=some none∧∀e:MapEntry,e.key=u→e.val=y→EntriesOk g es' (l++[e])) ∨
  (∃j v,Instr.findNow d u l i=some (some (i+j,v))∧j<l.length∧(∃e,l[j]?=some e∧∀n,Instr.sameBits n e.key u=true)∧EntriesOk g es' (l.modify j λe=>{ e with key:=u,val:=y }))
 |[],es',l,i,⟨hl,_⟩,h=>by
  have:l=[]:=List.length_eq_zero_iff.1 (by simpa using hl);subst this;simp only[aput] at h; cases h;refine .inl ⟨rfl,λe h1 h2=>⟨rfl,λj k' x' e' q1 q2=>?_⟩⟩
  grind
 |(q,z)::es,es',l,i,⟨hl,hd⟩,h=>by
  cases l with
  |nil=>simp at hl
  |cons e l=>
   obtain⟨d1,d2⟩:=hd 0 q z e rfl rfl;have hrest:EntriesOk g es l:=⟨by simpa using hl,λj k' x' e' q1 q2=>hd (j+1) k' x' e' (by simpa using q1) (by simpa using q2)⟩;simp only[aput] at h;cases hk:keyEq k q with
   |none=>simp[hk] at h
   |some b=>
    have hnow:=Ybq hk hu d1 hfit;cases b with
    |true=>
     simp only[hk] at h; cases h;refine .inr ⟨0,e.val,by simp[Instr.findNow,hnow],by simp,⟨e,rfl,λn=>Zbv hk hu d1 n⟩,by simpa using hl,λj k' x' e' q1 q2=>?_⟩
     grind
    |false=>
     simp only[hk] at h;cases hp:aput k x es with
     |none=>simp[hp] at h
     |some es2=>
      simp only[hp] at h; cases h;rcases Xbk hu hy hfit es es2 l (i+1) hrest hp with ⟨f1,f2⟩|⟨j,v,f1,f2,f3,f4⟩
      ·refine .inl ⟨by simp[Instr.findNow,hnow,f1],λe0 h1 h2=>?_⟩;obtain⟨g1,g2⟩:=f2 e0 h1 h2;refine⟨by simpa using g1,λj k' x' e' q1 q2=>?_⟩
       grind
      ·refine .inr ⟨j+1,v,by simp[Instr.findNow,hnow,f1]; omega,by simp; omega,by simpa using f3,?_⟩;obtain⟨g1,g2⟩:=f4;refine⟨by simpa using g1,λj' k' x' e' q1 q2=>?_⟩
       grind
theorem Zcb(str:Bool)(b:Nat)(k x:AVal)(es es':List (AVal×AVal))(h0:Hp)(hb:h0 b=some (.map es))(hk:KeyKind str k)(hp:aput k x es=some es'):OpSem P GL (.mapUpd str) [.map b,k,x] h0 .junk [] [(b,.map es')]:=by
 intro o os hc w0 L g h w a r hx _ hup';have hb':h b=some (.map es):=by simp_all
 have main:∀(t kt e:TypeId) (om ok ox:Operand),P.underlying t=some (.map kt e)→KeyT P kt str→DenL g [.map b,k,x] (List.map a.eval [om,ok,ox]) →
   ∃w',(Instr.mapUpdate t (a.eval om) (a.eval ok) (a.eval ox)).run P w=.ok () w'∧Rep GL w0 L g (hup h b (.map es')) w':=by
  intro t kt e om ok ox ht hkt ⟨d1,d2,d3,_⟩;obtain⟨d,hd,hfit⟩:=Za3 hkt hk;generalize hu1:a.eval om=u1 at d1;cases d1 with
  |map _ _ cb ec=>
  cases hvirt:cb.virt with
  |true=>have:=r.hollow b _ cb hb' rfl ec hvirt; cases this
  |false=>
  obtain⟨_,_,o',ho',arr,clock,rfl,hs,hden⟩:=r.own b _ cb hb' rfl ec hvirt;have hg:(getObj cb.blk).run P w=.ok (.map arr clock) w:=by simp[getObj,Sem.run,ho']
  have hst:∀o'',(setObj cb.blk o'').run P w=.ok () { w with heap:=w.heap.setIfInBounds cb.blk o'' }:=by intro o''; simp[setObj,Sem.run,ho']
  have hes:EntriesOk g es arr.toList:=⟨by simpa using hs,λi k x e e1 e2=>hden i k x e e1 (by simpa using e2)⟩;have hck:=YaG (P:=P) hd hfit d2 false 9999 w;rcases Xbk d2 d3 hfit es es' arr.toList 0 hes hp with ⟨f1,f2⟩|⟨j,v,f1,f2,⟨e0,f3,f3'⟩,f4⟩
  ·refine⟨_,by simp only[Instr.mapUpdate,Sem.run_bind,run_underlying ht,Result.andThen_ok,hg,hck,Z4 hd f1,hst]; rfl,?_⟩;refine r.write hb' rfl ec hvirt rfl rfl rfl rfl rfl ?_;obtain⟨g1,g2⟩:=f2 { key:=a.eval ok,val:=a.eval ox,born:=clock } rfl rfl;exact⟨_,_,rfl,by simpa using g1,λi k x e e1 e2=>g2 i k x e e1 (by grind)⟩
  ·rw[Nat.zero_add] at f1;have hstay:(Instr.keyThatStays (((arr[j]?).map (·.key)).getD (a.eval ok)) (a.eval ok)).run P w=.ok (a.eval ok) w:=by
    simp_all [Instr.keyThatStays]
   refine⟨_,by simp only[Instr.mapUpdate,Sem.run_bind,run_underlying ht,Result.andThen_ok,hg,hck,Z4 hd f1,hstay,hst]; rfl,?_⟩;refine r.write hb' rfl ec hvirt rfl rfl rfl rfl rfl ?_;obtain⟨g1,g2⟩:=f4;exact⟨_,_,rfl,by simpa using g1,λi k x e e1 e2=>g2 i k x e e1 (by grind)⟩
 generalize ho:o.op=op at hc;cases hc with
 |mapUpdate t kt e om ok ox _ ht hkt=>
  obtain⟨w',f1,f2⟩:=main t kt e om ok ox ht hkt hx;simp only[execOp,ho,Sem.run_bind,f1,Result.andThen_ok,Sem.run_pure];exact⟨g,Gm.Le.refl g,f2,rfl⟩
 |mapInsert t kt e om ok ox _ ht hkt=>
  obtain⟨w',f1,f2⟩:=main t kt e om ok ox ht hkt hx;simp only[execOp,ho,Sem.run_bind,f1,Result.andThen_ok,Sem.run_pure];exact⟨g,Gm.Le.refl g,f2,rfl⟩
theorem YbX(b:Nat)(s:List UInt8)(pos:Nat)(h0:Hp)(hb:h0 b=some (.siter s pos)) :
  (pos<s.length→OpSem P GL .next [.iter b] h0 (.tup [.bool true,.int .i64 pos,.int .i32 (Utf8.decode ⟨s.toArray⟩ pos).1]) [] [(b,.siter s (pos+(Utf8.decode ⟨s.toArray⟩ pos).2))]) ∧
  (s.length≤pos→OpSem P GL .next [.iter b] h0 (.tup [.bool false]) [b] []):=by
 constructor
 ·intro hlt o os hc w0 L g h w a r hx _ hup';have hb':h b=some (.siter s pos):=by simp_all
  generalize ho:o.op=op at hc;cases hc with
  |next x=>
   have d:=hx.1;generalize hu0:a.eval x=u0 at d;cases d with
   |yld _ _ cb ec hb1=>
    exfalso;cases hvirt:cb.virt with
    |true=>have:=r.hollow b _ cb hb' rfl ec hvirt; cases this
    |false=>
     obtain⟨_,_,o',ho',hok⟩:=r.own b _ cb hb' rfl ec hvirt;have:=hok.2;omega
   |iter _ _ cb ec hb0=>
   cases hvirt:cb.virt with
   |true=>have:=r.hollow b _ cb hb' rfl ec hvirt; cases this
   |false=>
   obtain⟨_,_,o',ho',hok⟩:=r.own b _ cb hb' rfl ec hvirt;have hok':o'=.stringIter ⟨s.toArray⟩ pos:=hok.1;subst hok';have hg:(getObj cb.blk).run P w=.ok (.stringIter ⟨s.toArray⟩ pos) w:=by simp[getObj,Sem.run,ho']
   have hst:∀o'',(setObj cb.blk o'').run P w=.ok () { w with heap:=w.heap.setIfInBounds cb.blk o'' }:=by intro o''; simp[setObj,Sem.run,ho']
   have hsz:pos<(⟨s.toArray⟩:ByteArray).size:=by show pos<s.toArray.size; simpa using hlt
   have hrun:(Instr.next (.pointer (some ⟨cb.blk,0,none⟩)) true o.type).run P w=.ok (.tuple #[.bool true,.int .i64 pos,.int .i32 (Utf8.decode ⟨s.toArray⟩ pos).1]) { w with heap:=w.heap.setIfInBounds cb.blk (.stringIter ⟨s.toArray⟩ (pos+(Utf8.decode ⟨s.toArray⟩ pos).2)) }:=by
    simp only[Instr.next,Sem.run_bind,hg,Result.andThen_ok,YIP hsz,hst,Sem.run_pure,goInt]
   simp only[execOp,ho,hu0,Sem.run_bind,hrun,Result.andThen_ok,Sem.run_pure];refine⟨g,Gm.Le.refl g,r.write hb' rfl ec hvirt rfl rfl rfl rfl rfl ⟨rfl,hb0⟩,.tup _ _ _ rfl (λi x v e1 e2=>?_)⟩
   match i with
   |0=>simp at e1 e2; subst e1 e2; exact .bool _ _
   |1=>simp at e1 e2; subst e1 e2; exact .int _ _ _
   |2=>simp at e1 e2; subst e1 e2; exact .int _ _ _
   |n+3=>simp at e1
 ·intro hge o os hc w0 L g h w a r hx hrd _;have hb':h b=some (.siter s pos):=by simp_all
  generalize ho:o.op=op at hc;cases hc with
  |next x=>
   have d:=hx.1;generalize hu0:a.eval x=u0 at d;cases d with
   |yld _ _ cb ec hb1=>
    exfalso;cases hvirt:cb.virt with
    |true=>have:=r.hollow b _ cb hb' rfl ec hvirt; cases this
    |false=>
     obtain⟨_,_,o',ho',hok⟩:=r.own b _ cb hb' rfl ec hvirt;have:=hok.2;omega
   |iter _ _ cb ec hb0=>
   cases hvirt:cb.virt with
   |true=>have:=r.hollow b _ cb hb' rfl ec hvirt; cases this
   |false=>
   obtain⟨_,_,o',ho',hok⟩:=r.own b _ cb hb' rfl ec hvirt;have hok':o'=.stringIter ⟨s.toArray⟩ pos:=hok.1;subst hok';have hg:(getObj cb.blk).run P w=.ok (.stringIter ⟨s.toArray⟩ pos) w:=by simp[getObj,Sem.run,ho']
   have hsz:¬pos<(⟨s.toArray⟩:ByteArray).size:=by show ¬pos<s.toArray.size; simpa using hge
   have hrun:(Instr.next (.pointer (some ⟨cb.blk,0,none⟩)) true o.type).run P w=.ok (.tuple #[.bool false]) w:=by
    simp only[Instr.next,Sem.run_bind,hg,Result.andThen_ok,YIN hsz,Sem.run_pure]
   simp only[execOp,ho,hu0,Sem.run_bind,hrun,Result.andThen_ok,Sem.run_pure];refine Out.here r (.tup _ _ _ rfl (λi x v e1 e2=>?_))
   match i with
   |0=>simp at e1 e2; subst e1 e2; exact .bool _ _
   |n+1=>simp at e1
theorem Zf(k:IntKind)(i:Int)(y:Nat)(code:BoundsCode)(h0:0≤i)(h1:i≤y)(w:World):(Instr.sliceBound (.int k i) y code).run P w=.ok i.toNat w:=by
 simp_all [Instr.sliceBound,asIntOf]
def cut(l h:Nat)(rows:List (List AVal)):List (List AVal):=(rows.take h).drop l
theorem Xbb{l h:Nat}{rows:List (List AVal)}{i:Nat}{row:List AVal}(e:(cut l h rows)[i]?=some row):rows[l+i]?=some row∧l+i<h:=by
 grind [cut]
theorem XY{l h:Nat}{rows:List (List AVal)}(hh:h≤rows.length):(cut l h rows).length=h-l:=by
 unfold cut; simp; omega
theorem Zbc{g:Gm}{ex nn:Bool}{sz:Nat}{rows:List (List AVal)}{p:Option Addr}{len cap:Nat}(d:g.den (.rsl ex nn sz rows) (.slice p len cap)){l h m:Nat}(hl:l≤h)(hh:h≤rows.length)(hm:h≤m)(hmc:m≤cap)(ex':Bool)(hex:ex'=true→m=h) :
  g.den (.rsl ex' nn sz (cut l h rows)) (.slice (if m=l then p else p.map (·.add (l*sz))) (h-l) (m-l)):=by
 cases d with
 |rsl _ _ _ _ _ _ _ blk off f h1 h2 h3 h4 h5 h6 h7 h8=>
  have hlen:=XY (l:=l) hh;rw[←hlen];refine .rsl _ ex' nn sz (cut l h rows) _ (m-l) blk (off+l*sz) (λi j=>f (l+i) j) (λe=>by rw[hlen,hex e]) (λe=>?_) (λe=>?_) (λe=>?_) (by rw[hlen]; omega) (λi row e=>h6 _ row (Xbb e).1) (λi j hi hj=>?_) (λi row j x e1 e2=>h8 _ row j x (Xbb e1).1 e2)
  ·grind
  ·have hne:h-l≠0:=by grind
   have hr:rows≠[]:=by intro e0; subst e0; simp at hh; omega
   rw[YIN (by omega),h3 hr];simp[ZD]
  ·split at e<;>simp_all
  grind
theorem Yo{o:Oper}{t e:TypeId}{x:Operand}{lo hi mx:Option Operand}(ho:o.op=.slice t x lo hi mx)(hu:P.underlying t=some (.slice e)){n:Nat}(hn:size? P e=some n){a:Act}{p:Option Addr}{len cap:Nat}(hx:a.eval x=.slice p len cap){w:World}{l h m:Nat}
 (hb:(Instr.sliceBounds true len cap (lo.map a.eval) (hi.map a.eval) (mx.map a.eval)).run P w=.ok (l,h,m) w) :
  (execOp a.eval o).run P w=.ok (.value (.slice (if m=l then p else p.map (·.add (l*n))) (h-l) (m-l))) w:=by
 have h1:(Instr.slice t (.slice p len cap) (lo.map a.eval) (hi.map a.eval) (mx.map a.eval)).run P w=.ok (.slice (if m=l then p else p.map (·.add (l*n))) (h-l) (m-l)) w:=by
  simp_all [Instr.slice,run_underlying,Qq]
 simp_all [Instr.sliceAt,execOp,run_underlying]
theorem X0{g:Gm}{ex nn:Bool}{sz:Nat}{rows:List (List AVal)}{v:Value}(d:g.den (.rsl ex nn sz rows) v):∃p cap,v=.slice p rows.length cap∧rows.length≤cap∧(ex=true→cap=rows.length):=by
 cases d<;>grind
theorem Ym{op:Op}{n:Nat}{bl bh bm:Bool}{os:List Operand}(hc:Comp P GL op (.sliceS n bl bh bm) os) :
  ∃(t:TypeId) (x:Operand) (lo hi mx:Option Operand) (e:TypeId),op=.slice t x lo hi mx∧bl=lo.isSome∧bh=hi.isSome∧bm=mx.isSome∧os=[x]++lo.toList++hi.toList++mx.toList∧P.underlying t=some (.slice e)∧size? P e=some n:=by
 cases hc<;>grind
theorem Y2{op:Op}{bl bh:Bool}{os:List Operand}(hc:Comp P GL op (.sliceStr bl bh) os) :
  ∃(t:TypeId) (x:Operand) (lo hi:Option Operand),op=.slice t x lo hi none∧bl=lo.isSome∧bh=hi.isSome∧os=[x]++lo.toList++hi.toList∧P.underlying t=some .string:=by
 cases hc<;>grind
theorem Zby(ex nn:Bool)(sz:Nat)(rows:List (List AVal))(k:IntKind)(i:Int)(h1:0≤i)(h2:i≤rows.length)(h0:Hp) :
  OpSem P GL (.sliceS sz true false false) [.rsl ex nn sz rows,.int k i] h0 (.rsl ex nn sz (cut i.toNat rows.length rows)) [] []:=by
 intro o os hc w0 L g hp w a r hx _ _;obtain⟨t,x,lo,hi,mx,e,ho,hl1,hl2,hl3,rfl,hu,hn⟩:=Ym hc;obtain⟨lo,rfl⟩:∃z,lo=some z:=Option.isSome_iff_exists.1 hl1.symm;obtain rfl:hi=none:=by cases hi<;>first|rfl|cases hl2
 obtain rfl:mx=none:=by cases mx<;>first|rfl|cases hl3
 obtain⟨d,d2,_⟩:=hx;obtain⟨p,cap,hv,hc1,hc2⟩:=X0 d;rw[hv] at d;have hb:(Instr.sliceBounds true rows.length cap (some (.int k i)) none none).run P w=.ok (i.toNat,rows.length,cap) w:=by
  grind [Instr.sliceBounds,Sem.run_bind,Sem.run_pure,Result.andThen_ok,Zf]
 rw[Yo ho hu hn hv (l:=i.toNat) (h:=rows.length) (m:=cap) (by simpa[Xh d2] using hb)];exact Out.here r (Zbc d (by omega) (Nat.le_refl _) hc1 (Nat.le_refl _) ex hc2)
theorem Qbx(ex nn:Bool)(sz:Nat)(rows:List (List AVal))(k:IntKind)(i:Int)(h1:0≤i)(h2:i≤rows.length)(h0:Hp) :
  OpSem P GL (.sliceS sz false true false) [.rsl ex nn sz rows,.int k i] h0 (.rsl false nn sz (cut 0 i.toNat rows)) [] []:=by
 intro o os hc w0 L g hp w a r hx _ _;obtain⟨t,x,lo,hi,mx,e,ho,hl1,hl2,hl3,rfl,hu,hn⟩:=Ym hc;obtain rfl:lo=none:=by cases lo<;>first|rfl|cases hl1
 obtain⟨hi,rfl⟩:∃z,hi=some z:=Option.isSome_iff_exists.1 hl2.symm;obtain rfl:mx=none:=by cases mx<;>first|rfl|cases hl3
 obtain⟨d,d2,_⟩:=hx;obtain⟨p,cap,hv,hc1,hc2⟩:=X0 d;rw[hv] at d;have hb:(Instr.sliceBounds true rows.length cap none (some (.int k i)) none).run P w=.ok (0,i.toNat,cap) w:=by
  grind [Instr.sliceBounds,Sem.run_bind,Sem.run_pure,Result.andThen_ok,Zf]
 rw[Yo ho hu hn hv (l:=0) (h:=i.toNat) (m:=cap) (by simpa[Xh d2] using hb)];exact Out.here r (Zbc d (by omega) (by omega) (by omega) (Nat.le_refl _) false (by simp))
theorem QaY(ex nn:Bool)(sz:Nat)(rows:List (List AVal))(k k':IntKind)(i j:Int)(h1:0≤i)(h2:i≤j)(h3:j≤rows.length)(h0:Hp) :
  OpSem P GL (.sliceS sz true true false) [.rsl ex nn sz rows,.int k i,.int k' j] h0 (.rsl false nn sz (cut i.toNat j.toNat rows)) [] []:=by
 intro o os hc w0 L g hp w a r hx _ _;obtain⟨t,x,lo,hi,mx,e,ho,hl1,hl2,hl3,rfl,hu,hn⟩:=Ym hc;obtain⟨lo,rfl⟩:∃z,lo=some z:=Option.isSome_iff_exists.1 hl1.symm;obtain⟨hi,rfl⟩:∃z,hi=some z:=Option.isSome_iff_exists.1 hl2.symm;obtain rfl:mx=none:=by cases mx<;>first|rfl|cases hl3
 obtain⟨d,d2,d3,_⟩:=hx;obtain⟨p,cap,hv,hc1,hc2⟩:=X0 d;rw[hv] at d;have hb:(Instr.sliceBounds true rows.length cap (some (.int k i)) (some (.int k' j)) none).run P w=.ok (i.toNat,j.toNat,cap) w:=by
  simp only[Instr.sliceBounds,Sem.run_bind,Sem.run_pure,Result.andThen_ok,Zf k' j cap _ (by omega) (by omega),Zf k i j.toNat _ h1 (by omega)]
 rw[Yo ho hu hn hv (l:=i.toNat) (h:=j.toNat) (m:=cap) (by simpa[Xh d2,Xh d3] using hb)];exact Out.here r (Zbc d (by omega) (by omega) (by omega) (Nat.le_refl _) false (by simp))
theorem XaY(ex nn:Bool)(sz:Nat)(rows:List (List AVal))(k k':IntKind)(i:Int)(h1:0≤i)(h2:i≤rows.length)(h0:Hp) :
  OpSem P GL (.sliceS sz false true true) [.rsl ex nn sz rows,.int k i,.int k' i] h0 (.rsl true nn sz (cut 0 i.toNat rows)) [] []:=by
 intro o os hc w0 L g hp w a r hx _ _;obtain⟨t,x,lo,hi,mx,e,ho,hl1,hl2,hl3,rfl,hu,hn⟩:=Ym hc;obtain rfl:lo=none:=by cases lo<;>first|rfl|cases hl1
 obtain⟨hi,rfl⟩:∃z,hi=some z:=Option.isSome_iff_exists.1 hl2.symm;obtain⟨mx,rfl⟩:∃z,mx=some z:=Option.isSome_iff_exists.1 hl3.symm;obtain⟨d,d2,d3,_⟩:=hx;obtain⟨p,cap,hv,hc1,hc2⟩:=X0 d;rw[hv] at d;have hb:(Instr.sliceBounds true rows.length cap none (some (.int k i)) (some (.int k' i))).run P w=.ok (0,i.toNat,i.toNat) w:=by
  simp only[Instr.sliceBounds,Sem.run_bind,Sem.run_pure,Result.andThen_ok,if_true,Zf k' i cap _ h1 (by omega),Zf k i i.toNat _ h1 (by omega)]
 rw[Yo ho hu hn hv (l:=0) (h:=i.toNat) (m:=i.toNat) (by simpa[Xh d2,Xh d3] using hb)];exact Out.here r (Zbc d (by omega) (by omega) (Nat.le_refl _) (by omega) true (λ_=>rfl))
theorem Xbx(s:List UInt8)(k k':IntKind)(i j:Int)(h1:0≤i)(h2:i≤j)(h3:j≤s.length)(h0:Hp) :
  OpSem P GL (.sliceStr true true) [.str s,.int k i,.int k' j] h0 (.str ((s.take j.toNat).drop i.toNat)) [] []:=by
 intro o os hc w0 L g hp w a r hx _ _;obtain⟨t,x,lo,hi,ho,hl1,hl2,rfl,hu⟩:=Y2 hc;obtain⟨lo,rfl⟩:∃z,lo=some z:=Option.isSome_iff_exists.1 hl1.symm;obtain⟨hi,rfl⟩:∃z,hi=some z:=Option.isSome_iff_exists.1 hl2.symm;obtain⟨d,d2,d3,_⟩:=hx;obtain⟨s',e1,rfl⟩:=QP d;have hsz:s'.data.toList.length=s'.size:=by simp
 have hrun:(execOp a.eval o).run P w=.ok (.value (.string (s'.extract i.toNat j.toNat))) w:=by
  simp only[execOp,ho,e1,Instr.sliceAt,Instr.slice,Sem.run_bind,run_underlying hu,Result.andThen_ok,Option.map_some,Xh d2,Xh d3,Option.map_none,Option.isSome_none,Bool.false_eq_true,if_false,Instr.sliceBounds,Sem.run_pure,Zf k' j s'.size _ (by omega) (by omega),Zf k i j.toNat _ h1 (by omega)]
 rw[hrun];have:((s'.data.toList.take j.toNat).drop i.toNat)=(s'.extract i.toNat j.toNat).data.toList:=by
  simp[List.drop_take]
 rw[this];exact Out.here r (.str _ _)
end
end Go.Ah
end
section
namespace Go.Ah
section
variable {P:Program} {GL:Globs} {Z:PZ}
theorem YaQ(need cap:Nat)(h:cap<need):Builtin.nextslicecap need cap≤2*need+192:=by
 grind [Builtin.nextslicecap,Builtin.growBy]
theorem Qy{t t' e:TypeId}{d:TypeDesc}{n by_:Nat}{z:Value}(ht:P.underlying t=some (.slice e))(hd:P.underlying t'=some d)(hni:∀k,d≠.int k)(hn:size? P e=some n)(hby:P.bytesOf e=by_)(hz:zero? P e=some z)(hby0:by_≠0)
 {w:World}{base:Option Addr}{len cap m:Nat}{y:Value}{newv:Array Value}(hy:(Builtin.lenOf y).run P w=.ok m w)(ty:TypeId) :
  (len + m≤cap→(Builtin.firstCells n m y).run P w=.ok newv w→(base=none→(Builtin.append_ #[t,t'] ty #[.slice base len cap,y]).run P w=.ok (.slice base (len + m) cap) w) ∧
   (∀ a w',base=some a→(storeCells (a.add (len * n)) newv.toList).run P w=.ok () w'→(Builtin.append_ #[t,t'] ty #[.slice base len cap,y]).run P w=.ok (.slice base (len + m) cap) w')) ∧
  (cap < len + m→(2 * (len + m) + 192) * by_≤2 ^ 48→∀ oldv,(Builtin.firstCells n len (.slice base len cap)).run P w.drew=.ok oldv w.drew→(Builtin.firstCells n m y).run P w.drew=.ok newv w.drew →
   ∃ nc,len + m≤nc∧(Builtin.append_ #[t,t'] ty #[.slice base len cap,y]).run P w=.ok (.slice (some ⟨w.heap.size,0,none⟩) (len + m) nc) (w.drew.alloc (.cells (oldv ++ newv ++ Builtin.zeroCells z.cells (nc - (len + m))) e))):=by
 obtain⟨ie,hie,hies⟩:∃ie,P.info? e=some ie∧ie.size=n:=by
  simp_all [size?]
 have hbytes:ie.bytes=by_:=by simpa[Program.bytesOf,hie] using hby
 have hiz:ie.zero=some z:=by simp_all [zero?]
 constructor
 ·intro hle hnew;constructor
  ·intro hb;subst hb;simp only[Builtin.append_,List.getElem?_toArray,List.getElem?_cons_zero,List.getElem?_cons_succ,Sem.run_bind,run_underlying ht,Result.andThen_ok,Qq hn,run_underlying hd,Sem.run_pure,Bool.false_eq_true,if_false,hy,YIP hle,Bool.not_false,if_true,hnew]
  ·intro a w' hb hst;subst hb;simp only[Builtin.append_,List.getElem?_toArray,List.getElem?_cons_zero,List.getElem?_cons_succ,Sem.run_bind,run_underlying ht,Result.andThen_ok,Qq hn,run_underlying hd,Sem.run_pure,Bool.false_eq_true,if_false,hy,YIP hle,Bool.not_false,if_true,hnew,hst]
 ·intro hlt hroom oldv hold hnew;have hcap:=YaQ (len+m) cap hlt;have h48:¬Builtin.nextslicecap (len+m) cap*ie.bytes>2 ^ 48:=by
   rw[hbytes];have:=Nat.mul_le_mul_right by_ hcap;omega
  have hb0:¬(((len+m:Nat):Int)>IntKind.i64.max∧(False∨ie.bytes=0)):=by
   simp_all
  have hnle:¬len+m≤cap:=by omega
  refine⟨(Question.appendCap (len+m) cap e).cut (w.tape w.drawn (.appendCap (len+m) cap e)),by simp[Question.cut],?_⟩;simp only[Builtin.append_,List.getElem?_toArray,List.getElem?_cons_zero,List.getElem?_cons_succ,Sem.run_bind,run_underlying ht,Result.andThen_ok,Qq hn,run_underlying hd,Sem.run_pure,Bool.false_eq_true,if_false,hy,YIN hnle,Bool.not_false,if_true,typeInfo,run_program,hie,YIN hb0];simp only[Sem.run_bind,run_program,Result.andThen_ok,hie,Sem.run_pure,YIN h48,run_choose,Question.forced,Bool.false_eq_true,if_false,run_askRoom,World.drew_eq,hold,hnew,QO hz,newRow,run_newObj,World.alloc_eq];rfl
inductive SrcIs (h0:Hp) (sz:Nat):AVal→List (List AVal)→List Nat→Prop
 |row (ex nn:Bool) (rows:List (List AVal)):SrcIs h0 sz (.rsl ex nn sz rows) rows []
 |nils:SrcIs h0 sz .nils [] []
 |cap0:SrcIs h0 sz .cap0 [] []
 |own (b off len:Nat) (ex:Bool) (rs:List (List AVal)):h0 b=some (.rows sz rs)→off+len≤rs.length→SrcIs h0 sz (.sl b off len ex) (cut off (off+len) rs) [b]
 |box (b j len cap:Nat) (row:List AVal) (ys:List (List AVal)):h0 b=some (.box row)→chunk sz len (row.drop j)=some ys→SrcIs h0 sz (.bsl b j len cap) ys [b]
 |str (s:List UInt8):sz=1→SrcIs h0 sz (.str s) (s.map λc=>[.int .u8 c.toNat]) []
def RowsAt(g:Gm)(sz:Nat)(rs:List (List AVal))(arr:Array Value):Prop:=
 arr.size=rs.length*sz∧(∀(i:Nat) (row:List AVal),rs[i]?=some row→row.length=sz) ∧
 ∀(i:Nat) (row:List AVal) (j:Nat) (x:AVal) (v:Value),rs[i]?=some row→row[j]?=some x→arr[i*sz+j]?=some v→g.den x v
theorem Zbi{w0:World}{L:Ln}{g:Gm}{h h0:Hp}{w:World}(r:Rep GL w0 L g h w){sz:Nat}{y:AVal}{ys:List (List AVal)}{rd:List Nat}(hs:SrcIs h0 sz y ys rd)(hrd:∀b∈rd,h b=h0 b){v:Value}(d:g.den y v) :
  ∃F:Nat→Value,(Builtin.lenOf v).run P w=.ok ys.length w∧(∀m,m≤ys.length→(Builtin.firstCells sz m v).run P w=.ok ((List.range (m*sz)).map F).toArray w)∧(∀(i:Nat) (row:List AVal),ys[i]?=some row→row.length=sz) ∧
   (∀(i:Nat) (row:List AVal) (j:Nat) (x:AVal),ys[i]?=some row→row[j]?=some x→g.den x (F (i*sz+j)))∧((∀s,y≠.str s)→∃p cap,v=.slice p ys.length cap):=by
 have zero:∀(p:Option Addr) (cap m:Nat),m≤0→(Builtin.firstCells sz m (.slice p 0 cap)).run P w=.ok ((List.range (m*sz)).map λ_=>undef).toArray w:=by
  intro p cap m hm;obtain rfl:m=0:=by omega
  cases p<;>simp[Builtin.firstCells,loadCells,loadCellsFrom]
 cases hs with
 |nils=>
  cases d;exact⟨λ_=>undef,rfl,λm hm=>zero _ 0 m hm,by simp,by simp,λ_=>⟨_,_,rfl⟩⟩
 |cap0=>
  cases d with
  |cap0 _ p=>exact⟨λ_=>undef,rfl,λm hm=>zero _ 0 m hm,by simp,by simp,λ_=>⟨_,_,rfl⟩⟩
 |row ex nn rows=>
  cases d with
  |rsl _ _ _ _ _ p cap blk off f h1 h2 h3 h4 h5 h6 h7 h8=>
  by_cases hne:ys=[]
  ·subst hne;exact⟨λ_=>undef,rfl,λm hm=>zero _ _ m hm,by simp,by simp,λ_=>⟨_,_,rfl⟩⟩
  ·have hp:=h3 hne;subst hp;refine⟨λk=>f (k/sz) (k%sz),rfl,λm hm=>?_,h6,λi row j x e1 e2=>?_,λ_=>⟨_,_,rfl⟩⟩
   ·simp only[Builtin.firstCells];refine run_loadCells (P:=P) w ⟨blk,off,none⟩ (m*sz) (λk=>f (k/sz) (k%sz)) (λk hk=>?_);have hk:k<ys.length*sz:=Nat.lt_of_lt_of_le hk (Nat.mul_le_mul_right sz hm)
    grind [ZD,Nat.div_lt_iff_lt_mul,Nat.mod_lt,Nat.div_add_mod,YaB]
   ·have hj:j<sz:=by grind
    have hdiv:(i*sz+j)/sz=i:=by grind [Nat.mul_comm,Nat.mul_add_div,Nat.div_eq_of_lt]
    have hmod:(i*sz+j)%sz=j:=by rw[Nat.mul_comm,Nat.mul_add_mod,Nat.mod_eq_of_lt hj]
    show g.den x (f _ _);rw[hdiv,hmod];exact(h8 i row j x e1 e2).mono (MLe.refl _) (CLe.noOwn _)
 |own b off len ex rs hb hle=>
  have hb':h b=some (.rows sz rs):=by simp_all
  have hcl:(cut off (off+len) rs).length=len:=by rw[XY hle]; omega
  rw[hcl];cases d with
  |slv _ _ _ cb p ec hv=>
   have:=(r.virtRows hb' ec hv).2;subst this;exact⟨λ_=>undef,rfl,λm hm=>zero _ _ m hm,by simp[cut],by simp[cut],λ_=>⟨_,_,rfl⟩⟩
  |sle _ _ _ _ cb p ec hv _ _=>
   have hcut:cut off (off+0) rs=[]:=by simp[cut]
   rw[hcut];exact⟨λ_=>undef,rfl,λm hm=>zero _ _ m hm,by simp,by simp,λ_=>⟨_,_,rfl⟩⟩
  |sl _ _ _ _ _ cb cap ec hv h1 h2 h3=>
   obtain⟨e1,arr,T,ho',hs,hle2,hrow,hden⟩:=r.rowsBlk hb' ec hv;rw[e1] at h2 ⊢;have hbound:cb.base+off*sz+len*sz≤arr.size:=by
    rw[hs]; refine Nat.le_trans ?_ hle2;rw[Nat.add_assoc,←Nat.add_mul]; simp_all [Nat.mul_le_mul_right]
   refine⟨λk=>(arr[cb.base+off*sz+k]?).getD undef,rfl,λm hm=>?_,λi row e=>hrow _ row (Xbb e).1,λi row j x q1 q2=>?_,λ_=>⟨_,_,rfl⟩⟩
   ·simp only[Builtin.firstCells];refine run_loadCells (P:=P) w ⟨cb.blk,cb.base+off*sz,none⟩ (m*sz) (λk=>(arr[cb.base+off*sz+k]?).getD undef) (λk hk=>?_);have hk:k<len*sz:=Nat.lt_of_lt_of_le hk (Nat.mul_le_mul_right sz hm)
    grind [ZD,QE]
   ·obtain⟨c1,c2⟩:=Xbb q1;have hj:j<sz:=by grind
    have hi:i<len:=by omega
    have hlt:i*sz+j<len*sz:=by
     have:(i+1)*sz≤len*sz:=Nat.mul_le_mul_right sz hi;rw[Nat.succ_mul] at this; omega
    have hlt2:cb.base+off*sz+(i*sz+j)<arr.size:=by omega
    have hq:(arr[cb.base+off*sz+(i*sz+j)]?).getD undef=arr[cb.base+off*sz+(i*sz+j)]:=by simp[hlt2]
    show g.den x ((arr[cb.base+off*sz+(i*sz+j)]?).getD undef);rw[hq];refine hden (off+i) row j x _ c1 q2 ?_;rw[Nat.add_mul,←Nat.add_assoc,Nat.add_assoc];simp[hlt2]
 |box b j len cap row _ hb hch=>
  have hb':h b=some (.box row):=by simp_all
  obtain⟨c1,c2,c3,c4⟩:=Qa0 hch;cases d with
  |bsl _ _ _ _ _ cb ec hle=>
  cases hvirt:cb.virt with
  |true=>have:=r.hollow b _ cb hb' rfl ec hvirt; cases this
  |false=>
  obtain⟨_,_,o',ho',arr,T,rfl,hs,hden⟩:=r.own b _ cb hb' rfl ec hvirt;rw[c1];have hbound:len=0∨sz=0∨j+len*sz≤arr.size:=by
   rcases c2 with c2|c2
   ·by_cases h0:len=0
    ·exact .inl h0
    ·by_cases h1:sz=0
     ·exact .inr (.inl h1)
     ·have:0<len*sz:=Nat.mul_pos (Nat.pos_of_ne_zero h0) (Nat.pos_of_ne_zero h1);simp only[List.length_drop] at c2; omega
   ·exact .inl c2
  refine⟨λk=>(arr[j+k]?).getD undef,rfl,λm hm=>?_,c3,λi row' j' x q1 q2=>?_,λ_=>⟨_,_,rfl⟩⟩
  ·simp only[Builtin.firstCells];refine run_loadCells (P:=P) w ⟨cb.blk,j,none⟩ (m*sz) (λk=>(arr[j+k]?).getD undef) (λk hk=>?_);have hk:k<len*sz:=Nat.lt_of_lt_of_le hk (Nat.mul_le_mul_right sz hm);have hlt:j+k<arr.size:=by
    rcases hbound with h|h|h
    ·subst h; omega
    ·subst h; omega
    ·omega
   rw[ZD];exact QE ho' _ _ (by simp[hlt])
  ·have hx:=c4 i row' j' x q1 q2;rw[List.getElem?_drop] at hx;have hlt:j+(i*sz+j')<arr.size:=by rw[hs]; exact(YLG hx).1
   have hq:(arr[j+(i*sz+j')]?).getD undef=arr[j+(i*sz+j')]:=by simp[hlt]
   show g.den x ((arr[j+(i*sz+j')]?).getD undef);rw[hq];exact hden _ x _ hx (by simp[hlt])
 |str s hsz=>
  subst hsz;cases d with
  |str _ t=>
  refine⟨λk=>.int .u8 ((t.data.toList[k]?).getD 0).toNat,by rw[List.length_map]; rfl,λm hm=>?_,?_,?_,λh=>(h _ rfl).elim⟩
  ·simp only[List.length_map] at hm;show Result.ok _ w=_
   congr 1
   have hm':m≤t.size:=hm;apply Array.ext
   ·simp[ByteArray.data_extract]; omega
   ·intro i h1 h2;simp only[List.size_toArray,List.length_map,List.length_range,Nat.mul_one] at h2;have hi:i<t.data.size:=by simpa using Nat.lt_of_lt_of_le h2 hm
    simp only[ByteArray.data_extract,Array.getElem_map,Array.getElem_extract,List.getElem_toArray,List.getElem_map,List.getElem_range,Array.getElem?_toList,Nat.zero_add];rw[Array.getElem?_eq_getElem hi]; rfl
  ·intro i row e;simp only[List.getElem?_map] at e;cases hq:(t.data.toList)[i]?<;>simp_all;subst e; rfl
  ·intro i row j x e1 e2;simp only[List.getElem?_map] at e1;cases hq:(t.data.toList)[i]? with
   |none=>simp_all
   |some c=>
    rw[hq] at e1;cases e1;cases j with
    |zero=>cases e2; simp only[Nat.mul_one,Nat.add_zero,hq]; exact .int _ _ _
    |succ j=>simp at e2
theorem QaR{g:Gm}{sz:Nat}{ys:List (List AVal)}{F:Nat→Value}(h1:∀(i:Nat) (row:List AVal),ys[i]?=some row→row.length=sz)(h2:∀(i:Nat) (row:List AVal) (j:Nat) (x:AVal),ys[i]?=some row→row[j]?=some x→g.den x (F (i*sz+j))) :
  RowsAt g sz ys ((List.range (ys.length*sz)).map F).toArray:=by
 refine⟨by simp,h1,λi row j x u e1 e2 e3=>?_⟩;have hi:i<ys.length:=(YLG e1).1;have hj:j<sz:=by grind
 have hlt:i*sz+j<ys.length*sz:=by
  have:(i+1)*sz≤ys.length*sz:=Nat.mul_le_mul_right sz hi;rw[Nat.succ_mul] at this; omega
 simp[hlt] at e3;subst e3;exact h2 i row j x e1 e2
theorem Xac{w0:World}{L:Ln}{g:Gm}{h h0:Hp}{w:World}(r:Rep GL w0 L g h w){sz:Nat}{y:AVal}{ys:List (List AVal)}{rd:List Nat}(hs:SrcIs h0 sz y ys rd)(hrd:∀b∈rd,h b=h0 b){v:Value}(d:g.den y v) :
  ∃newv:Array Value,(Builtin.lenOf v).run P w=.ok ys.length w∧(Builtin.firstCells sz ys.length v).run P w=.ok newv w∧RowsAt g sz ys newv:=by
 obtain⟨F,h1,h2,h3,h4,_⟩:=Zbi (P:=P) r hs hrd d;exact⟨_,h1,h2 _ (Nat.le_refl _),QaR h3 h4⟩
theorem YaU{w0:World}{L:Ln}{g:Gm}{h h0:Hp}{w:World}(r:Rep GL w0 L g h w){sz:Nat}{y:AVal}{ys:List (List AVal)}{rd:List Nat}(hs:SrcIs h0 sz y ys rd)(hrd:∀b∈rd,h b=h0 b){v:Value}(d:g.den y v)(hns:∀s,y≠.str s:=by simp) :
  ∃(p:Option Addr) (cap:Nat) (newv:Array Value),v=.slice p ys.length cap∧(Builtin.firstCells sz ys.length v).run P w=.ok newv w∧RowsAt g sz ys newv∧(∀z∈newv.toList,ys≠[]→True):=by
 obtain⟨F,h1,h2,h3,h4,h5⟩:=Zbi (P:=P) r hs hrd d;obtain⟨p,cap,e⟩:=h5 hns;exact⟨p,cap,_,e,h2 _ (Nat.le_refl _),QaR h3 h4,by simp⟩
theorem Xy{o:Oper}{t t':TypeId}{x y:Operand}(ho:o.op=.call ⟨.builtin .append,#[x,y],#[t,t']⟩){a:Act}{u v z:Value}(hu:a.eval x=u)(hv:a.eval y=v){w w':World}
 (hr:(Builtin.append_ #[t,t'] o.type #[u,v]).run P w=.ok z w'):(execOp a.eval o).run P w=.ok (.value z) w':=by
 simp_all [execOp,resolve,invoke,builtin]
theorem Rep.move{w0:World}{L:Ln}{g:Gm}{h:Hp}{w:World}(r:Rep GL w0 L g h w){b nb:Nat}{blk blk0 blk':ABlk}{cb cb2:CB}(e:h b=some blk)(hl:blk.live=true)(ec:g.c b=some cb)(hv:cb.virt=false)(hl0:blk0.live=true)(hl':blk'.live=true)(hn:h nb=none)
 {o':Obj}{w':World}(hos:w'.os=w.os)(htape:w'.tape=w.tape)(hout:w'.output=w.output)(hheap:w'.heap=w.heap.setIfInBounds cb.blk o')
 (ok:BlkOk g.M g.c cb o' blk0)(hb2:cb2.blk=cb.blk)(hv2:cb2.virt=false)(ok2:BlkOk g.M g.c cb2 o' blk'):g.Le ⟨g.M,cup g.c nb cb2,g.dk⟩∧Rep GL w0 L ⟨g.M,cup g.c nb cb2,g.dk⟩ (hup (hup h b .dead) nb blk') w':=by
 have r1:=r.write e hl ec hv hl0 hos htape hout hheap ok;have hcn:=r.empt nb hn;have cle:CLe g.c (cup g.c nb cb2):=CLe.cup hcn;have hnb:nb≠b:=by rintro rfl; rw[e] at hn; cases hn
 have hget:∀n x,hup (hup h b .dead) nb blk' n=some x→x.live=true→(n=nb∧x=blk')∨(n≠nb∧n≠b∧h n=some x):=by
  intro n x en hln;by_cases h1:n=nb
  ·simp_all [Zl]
  grind [ABlk.live,Yk,Zl]
 have hcget:∀n cb',n≠nb→cup g.c nb cb2 n=some cb'→g.c n=some cb':=by simp_all [XP]
 refine⟨⟨MLe.refl _,cle,rfl⟩,?_⟩;exact {
  keeps:=r1.keeps
  stable:=r1.stable
  globs:=r1.globs
  mks:=r.mks
  src:=r1.src
  empt:=λn en=>by
   by_cases h1:n=nb
   ·subst h1; rw[Zl] at en; cases en
   ·rw[Yk _ _ h1] at en;show cup g.c nb cb2 n=none;rw[XP _ _ h1];by_cases h2:n=b
    ·subst h2; rw[Zl] at en; cases en
    ·rw[Yk _ _ h2] at en; exact r.empt n en
  dom:=λn x en=>by
   by_cases h1:n=nb
   ·simp_all [Yq]
   ·rw[Yk _ _ h1] at en;have:∃q,g.c n=some q:=by
     by_cases h2:n=b
     ·subst h2; exact⟨cb,ec⟩
     ·rw[Yk _ _ h2] at en; exact r.dom n x en
    simp_all [XP]
  own:=λn x cb' en hln ecn hvn=>by
   rcases hget n x en hln with ⟨rfl,rfl⟩|⟨h1,h2,h3⟩
   ·have:cup g.c n cb2 n=some cb':=ecn;rw[Yq] at this; cases this;obtain⟨q1,q2,o2,q3,q4⟩:=r1.own b blk0 cb (Zl _ _ _) hl0 ec hv;have hlt:=r.lt_of_own e hl ec hv;rw[hb2];exact⟨q1,q2,o',by simp_all,ok2.mono (MLe.refl _) cle⟩
   ·obtain⟨q1,q2,o2,q3,q4⟩:=r1.own n x cb' (by rw[Yk _ _ h2]; exact h3) hln (hcget n cb' h1 ecn) hvn;exact⟨q1,q2,o2,q3,q4.mono (MLe.refl _) cle⟩
  hollow:=λn x cb' en hln ecn hvn=>by
   rcases hget n x en hln with ⟨rfl,rfl⟩|⟨h1,h2,h3⟩
   ·simp_all [Yq]
   ·exact r.hollow n x cb' h3 hln (hcget n cb' h1 ecn) hvn
  inj:=λn n' x x' ca1 ca2 e1 e2 l1 l2 c1 c2 v1 v2 hblk=>by
   have tr:∀n x cb',hup (hup h b .dead) nb blk' n=some x→x.live=true→cup g.c nb cb2 n=some cb'→cb'.virt=false→∃m y cbm,h m=some y∧y.live=true∧g.c m=some cbm∧cbm.virt=false∧cbm.blk=cb'.blk∧((n=nb∧m=b)∨(n≠nb∧m=n∧n≠b)):=by
    intro n x cb' en hln ecn hvn;rcases hget n x en hln with ⟨rfl,rfl⟩|⟨h1,h2,h3⟩
    ·rw[Yq] at ecn; grind
    grind
   obtain⟨m1,y1,k1,f1,f2,f3,fv,fb,f4⟩:=tr n x ca1 e1 l1 c1 v1;obtain⟨m2,y2,k2,g1,g2,g3,gv,gb,g4⟩:=tr n' x' ca2 e2 l2 c2 v2;have:=r.inj m1 m2 y1 y2 k1 k2 f1 g1 f2 g2 f3 g3 fv gv (by rw[fb,gb]; exact hblk);omega }
theorem Q3{g:Gm}{sz:Nat}{rs ys:List (List AVal)}{a b c:Array Value}(h1:RowsAt g sz rs a)(h2:RowsAt g sz ys b) :
  (∀(i:Nat) (row:List AVal),(rs++ys)[i]?=some row→row.length=sz) ∧
  ∀(i:Nat) (row:List AVal) (j:Nat) (x:AVal) (v:Value),(rs++ys)[i]?=some row→row[j]?=some x→(a++b++c)[i*sz+j]?=some v→g.den x v:=by
 obtain⟨s1,l1,d1⟩:=h1;obtain⟨s2,l2,d2⟩:=h2;constructor
 ·grind
 ·intro i row j x v e1 e2 e3;by_cases hi:i<rs.length
  ·rw[List.getElem?_append_left hi] at e1;have hj:j<sz:=by grind
   have hlt:i*sz+j<a.size:=by
    rw[s1];have:(i+1)*sz≤rs.length*sz:=Nat.mul_le_mul_right sz hi;rw[Nat.succ_mul] at this; omega
   grind
  ·rw[List.getElem?_append_right (by omega)] at e1;have hi2:i-rs.length<ys.length:=(YLG e1).1;have hj:j<sz:=by grind
   have hge:a.size≤i*sz+j:=by
    rw[s1];have:rs.length*sz≤i*sz:=Nat.mul_le_mul_right sz (by omega);omega
   have hsub:i*sz+j-a.size=(i-rs.length)*sz+j:=by
    rw[s1,Nat.sub_mul];have:rs.length*sz≤i*sz:=Nat.mul_le_mul_right sz (by omega);omega
   have hlt:(i-rs.length)*sz+j<b.size:=by
    rw[s2];have:(i-rs.length+1)*sz≤ys.length*sz:=Nat.mul_le_mul_right sz hi2;rw[Nat.succ_mul] at this; omega
   grind
theorem QX(z:Array Value)(n:Nat):(Builtin.zeroCells z n).size=n*z.size:=by simp[Builtin.zeroCells]
inductive VecIs (h0:Hp) (sz:Nat):AVal→List (List AVal)→List (Nat×ABlk)→Prop
 |nils:VecIs h0 sz .nils [] []
 |cap0:VecIs h0 sz .cap0 [] []
 |own (b off len:Nat) (ex:Bool) (rs:List (List AVal)):h0 b=some (.rows sz rs)→rs.length=off+len→VecIs h0 sz (.sl b off len ex) (rs.drop off) [(b,.dead)]
theorem Xcl(rs:List (List AVal))(o n:Nat)(h:rs.length=o+n):cut o (o+n) rs=rs.drop o:=by grind [cut]
theorem VecIs.src{h0:Hp}{sz:Nat}{x:AVal}{rs:List (List AVal)}{kill:List (Nat×ABlk)}(hv:VecIs h0 sz x rs kill):SrcIs h0 sz x rs (kill.map (·.1)):=by
 cases hv with
 |nils=>exact .nils
 |cap0=>exact .cap0
 |own b off len ex rs hb hl=>have:=SrcIs.own (h0:=h0) (sz:=sz) b off len ex rs hb (by omega); rwa [Xcl rs off len hl] at this
theorem Qa7(n by_:Nat)(z:List AVal)(x y:AVal)(rs ys:List (List AVal))(rd:List Nat)(kill:List (Nat×ABlk))(h0:Hp)(nb:Nat)(hn:h0 nb=none)(hx0:VecIs h0 n x rs kill)(hy0:SrcIs h0 n y ys rd)
 (hcl:∀row∈ys,∀x∈row,AVal.cell x=true)(hroom:(2*(rs.length+ys.length)+192)*by_≤2 ^ 48) :
  OpSem P GL (.append n by_ z) [x,y] h0 (.sl nb 0 (rs.length+ys.length) false) rd (kill++[(nb,.rows n (rs++ys))]):=by
 intro o os hc w0 L g h w a r hx hrd hup';have hn':h nb=none:=by rw[hup' (nb,.rows n (rs++ys)) (by simp)]; exact hn
 have hkill:∀p∈kill,h p.1=h0 p.1:=λp hp=>hup' p (by simp[hp]);generalize ho:o.op=op at hc;cases hc with
 |append t t' e ox oy _ _ v _ ht htd hsz hby hz hvs hcells hby0 hn0=>
  obtain⟨d,hd,hni⟩:=htd;obtain⟨d1,d2,_⟩:=hx;generalize hu1:a.eval ox=u1 at d1;generalize hu2:a.eval oy=u2 at d2;obtain⟨p1,cap1,oldv,e1,f1,ra1,_⟩:=YaU (P:=P) r.drew hx0.src (λb hb=>by
   grind) d1 (by rintro s rfl; cases hx0)
  obtain⟨newv,e2,f2,ra2⟩:=Xac (P:=P) r hy0 hrd d2;obtain⟨newv',_,f2',ra2'⟩:=Xac (P:=P) r.drew hy0 hrd d2;have hlen2:(Builtin.lenOf u2).run P w=.ok ys.length w:=e2;have hgrow:cap1<rs.length+ys.length→Out P GL w0 L g (hups h (kill++[(nb,.rows n (rs++ys))])) (.sl nb 0 (rs.length+ys.length) false) ((execOp a.eval o).run P w):=by
   intro hlt;obtain⟨nc,hnc,hrun⟩:=(Qy ht hd hni hsz hby hz hby0 (base:=p1) (len:=rs.length) (cap:=cap1) (newv:=newv') hlen2 o.type).2 hlt hroom oldv (by rw[←e1]; exact f1) f2';rw[Xy ho (by rw[hu1]; exact e1) hu2 hrun];obtain⟨q1,q2⟩:=Q3 (c:=Builtin.zeroCells v.cells (nc-(rs.length+ys.length))) ra1 ra2';have hkr:∃h1,h1=hups h kill∧Rep GL w0 L g h1 w.drew∧h1 nb=none:=by
    cases hx0 with
    |nils=>exact⟨h,rfl,r.drew,hn'⟩
    |cap0=>exact⟨h,rfl,r.drew,hn'⟩
    |own b off len ex rs0 hb hl=>
     have hb':h b=some (.rows n rs0):=by simp_all
     refine⟨_,rfl,r.drew.kill hb',?_⟩;show hup h b .dead nb=none;rw[Yk _ _ (by rintro rfl; rw[hb'] at hn'; cases hn')]; exact hn'
   obtain⟨h1,hh1,rk,hn1⟩:=hkr;obtain⟨g',hg1,hg2,hg3⟩:=Rep.newRows rk hn1 n (rs++ys) (oldv++newv'++Builtin.zeroCells v.cells (nc-(rs.length+ys.length))) e (rs.length+ys.length) nc false
    (by
      simp only[Array.size_append,ra1.1,ra2'.1,QX,hvs,Nat.sub_mul,Nat.add_mul];have:(rs.length + ys.length) * n≤nc * n:=Nat.mul_le_mul_right n hnc;rw[Nat.add_mul] at this; omega) hnc (by simp) (by simp; exact hnc) q1 q2
   refine⟨g',hg1,?_,hg3⟩;have:hups h (kill++[(nb,.rows n (rs++ys))])=hup h1 nb (.rows n (rs++ys)):=by
    rw[hh1];cases hx0<;>rfl
   rw[this]; exact hg2
  have hnone:rs=[]→ys=[]→u1=.slice p1 0 0→Rep GL w0 L g (hups h kill) w→hups h kill nb=none→Out P GL w0 L g (hups h (kill++[(nb,.rows n (rs++ys))])) (.sl nb 0 (rs.length+ys.length) false) ((execOp a.eval o).run P w):=by
   rintro hrs0 rfl hu0 rk hn1;have hnv:newv.toList=[]:=by have:=ra2.1; simp at this; simp[this]
   have hrun:(Builtin.append_ #[t,t'] o.type #[.slice p1 0 0,u2]).run P w=.ok (.slice p1 0 0) w:=by
    obtain⟨k1,k2⟩:=(Qy ht hd hni hsz hby hz hby0 (base:=p1) (len:=0) (cap:=0) (newv:=newv) hlen2 o.type).1 (by simp) f2;cases p1 with
    |none=>exact k1 rfl
    |some ad=>exact k2 ad w rfl (by rw[hnv]; rfl)
   rw[Xy ho (by rw[hu1]; exact hu0) hu2 hrun];have hg:=rk.ghost hn1 n;refine⟨⟨g.M,cup g.c nb ⟨0,n,0,true,0⟩,g.dk⟩,⟨MLe.refl _,CLe.cup (rk.empt nb hn1),rfl⟩,?_,by rw[hrs0]; exact .slv _ _ _ _ _ (Yq _ _ _) rfl⟩;have hk:∀v,hups h (kill++[(nb,v)])=hup (hups h kill) nb v:=by intro v; cases hx0<;>rfl
   rw[hk,hrs0]; exact hg
  have hx0':=hx0;cases hx0 with
  |nils=>
   cases d1;injection e1 with e1a e1b e1c
   by_cases hys:ys=[]
   ·exact hnone rfl hys (by rw[←e1a]) r hn'
   grind
  |cap0=>
   cases d1;injection e1 with e1a e1b e1c
   by_cases hys:ys=[]
   ·exact hnone rfl hys (by rw[←e1a]) r hn'
   grind
  |own b off len ex rs0 hb hl=>
   have hb':h b=some (.rows n rs0):=by simp_all
   have hnb:nb≠b:=by rintro rfl; rw[hb'] at hn'; cases hn'
   have hll:(rs0.drop off).length=len:=by rw[List.length_drop]; omega
   cases d1 with
   |slv _ _ _ cb p ec hv=>
    injection e1 with e1a e1b e1c
    have hrs:=(r.virtRows hb' ec hv).2;subst hrs;by_cases hys:ys=[]
    ·exact hnone (by simp) hys (by rw[←e1a]) (r.kill hb') (by show hup h b .dead nb=none; rw[Yk _ _ hnb]; exact hn')
    grind
   |sle _ _ _ _ cb p ec hv _ _=>
    injection e1 with e1a e1b e1c
    have hd0:rs0.drop off=[]:=List.length_eq_zero_iff.1 hll;by_cases hys:ys=[]
    ·exact hnone hd0 hys (by rw[←e1a]) (r.kill hb') (by show hup h b .dead nb=none; rw[Yk _ _ hnb]; exact hn')
    grind
   |sl _ _ _ _ _ cb cap ec hv h1 h2 h3=>
    injection e1 with e1a e1b e1c
    subst e1c;by_cases hle:(rs0.drop off).length+ys.length≤cap
    ·obtain⟨z1,arr,T,ho',hs,hle2,hrow0,hden0⟩:=r.rowsBlk hb' ec hv;rw[z1] at h2;rw[Nat.add_mul,←Nat.add_assoc] at h2;have hcs:cb.base+off*n+cap*n≤arr.size:=by rw[hs]; exact Nat.le_of_eq h2
     have hrow:∀(i:Nat) (row:List AVal),(rs0.drop off)[i]?=some row→row.length=n:=λi row q=>hrow0 (off+i) row (by rw[List.getElem?_drop] at q; exact q);have hden:∀(i:Nat) (row:List AVal) (j:Nat) (x:AVal) (v:Value),(rs0.drop off)[i]?=some row→row[j]?=some x→arr[cb.base+off*n+i*n+j]?=some v→g.den x v:=λi row j x v q1 q2 q3=>hden0 (off+i) row j x v (by rw[List.getElem?_drop] at q1; exact q1) q2 (by grind);generalize hrsE:rs0.drop off=rs at *;have hone:∀u∈newv.toList,u.oneCell'=true:=by
      intro u hu;obtain⟨q,hq⟩:=List.mem_iff_getElem?.1 hu;rw[Array.getElem?_toList] at hq;have hql:q<ys.length*n:=by rw[←ra2.1]; grind
      have hnp:0<n:=Nat.pos_of_ne_zero hn0;have hi:q/n<ys.length:=(Nat.div_lt_iff_lt_mul hnp).2 hql;have hrowq:ys[q/n]?=some ys[q/n]:=by simp[hi]
      have hlq:=ra2.2.1 _ _ hrowq;have hj:q%n<ys[q/n].length:=by rw[hlq]; exact Nat.mod_lt _ hnp
      refine Xar (hcl _ (List.getElem_mem hi) _ (List.getElem_mem hj)) (ra2.2.2 (q/n) _ (q%n) _ u hrowq (by simp[hj]) ?_)
      grind [Nat.div_add_mod]
     have hmul:(rs.length + ys.length) * n≤cap * n:=Nat.mul_le_mul_right n hle;obtain⟨cur',s1,s2,s3⟩:=XX (P:=P) ho' newv.toList hone (j:=cb.base + off * n + rs.length * n) (by
      intro _;rw[Array.length_toList (xs:=newv),ra2.1]
      grind)
     have hrun:=((Qy ht hd hni hsz hby hz hby0 (base:=some ⟨cb.blk,cb.base + off * cb.sz,none⟩) (len:=rs.length) (cap:=cap) (newv:=newv) hlen2 o.type).1 hle f2).2 ⟨cb.blk,cb.base + off * cb.sz,none⟩ (w.setRow cb.blk cur') rfl (by
      rw[ZD,z1]; exact s1)
     rw[Xy ho (by rw[hu1,←hll]) hu2 hrun];have hok0:BlkOk g.M g.c cb (.cells cur' T (0,0)) (.rows n []):=by
      refine⟨z1,cur',T,rfl,by rw[s2,hs],by simp; omega,by simp,by simp⟩
     have hok:BlkOk g.M g.c { cb with base:=cb.base+off*n } (.cells cur' T (0,0)) (.rows n (rs++ys)):=by
      refine⟨z1,cur',T,rfl,by rw[s2,hs],?_,?_,?_⟩
      ·rw[List.length_append]; grind
      ·intro i row q;by_cases hi:i<rs.length
       ·grind
       ·rw[List.getElem?_append_right (by omega)] at q; exact ra2.2.1 _ row q
      ·intro i row j x0 u q1 q2 q3;rw[s3,Array.length_toList (xs:=newv),ra2.1] at q3;by_cases hi:i<rs.length
       ·rw[List.getElem?_append_left hi] at q1;have hj:j<n:=by grind
        have hlt:i*n+j<rs.length*n:=by
         have:(i+1)*n≤rs.length*n:=Nat.mul_le_mul_right n hi;rw[Nat.succ_mul] at this; omega
        rw[YIN (by grind)] at q3;exact hden i row j x0 u q1 q2 q3
       ·rw[List.getElem?_append_right (by omega)] at q1;have hi2:i-rs.length<ys.length:=(YLG q1).1;have hj:j<n:=by rw[←ra2.2.1 _ row q1]; grind
        have h5:rs.length*n≤i*n:=Nat.mul_le_mul_right n (by omega);have h6:(i-rs.length+1)*n≤ys.length*n:=Nat.mul_le_mul_right n hi2;rw[Nat.succ_mul,Nat.sub_mul] at h6;rw[YIP (by grind)] at q3;refine ra2.2.2 _ row j x0 u q1 q2 ?_;rw[Array.getElem?_toList] at q3
        grind
     obtain⟨k1,k2⟩:=r.move hb' rfl ec hv (blk0:=.rows n []) (blk':=.rows n (rs++ys)) (cb2:={ cb with base:=cb.base+off*n }) rfl rfl hn' (w':=w.setRow cb.blk cur') rfl rfl rfl (Q0 w _ arr cur' T (0,0) ho') hok0 rfl hv hok;refine⟨_,k1,k2,?_⟩;have hd':Den g.M (cup g.c nb { cb with base:=cb.base+off*n }) (.sl nb 0 (rs.length+ys.length) false) (.slice (some ⟨cb.blk,cb.base+off*n+0*cb.sz,none⟩) (rs.length+ys.length) cap):=
      .sl _ _ _ _ _ { cb with base:=cb.base+off*n } cap (Yq _ _ _) hv hle (by grind) (by simp)
     rw[Nat.zero_mul,Nat.add_zero] at hd';have e3:cb.base+off*cb.sz=cb.base+off*n:=by rw[z1]
     rw[e3];exact hd'
    ·exact hgrow (by omega)
end
end Go.Ah
end
section
namespace Go.Ah
mutual
def AVal.ro:AVal→Bool
 |.bool _=>true
 |.int _ _=>true
 |.str _=>true
 |.nilp=>true
 |.rptr _ _=>true
 |.nils=>true
 |.cap0=>true
 |.rsl _ _ _ _=>true
 |.rmap _=>true
 |.nilmap=>true
 |.func _ xs ys=>roL xs&&roL ys
 |.nilf=>true
 |.iface _ v=>v.ro
 |.nili=>true
 |.agg cs=>roL cs
 |.tup cs=>roL cs
 |.when _ x=>x.ro
 |.junk=>true
 |_=>false
def roL:List AVal→Bool
 |[]=>true
 |x::xs=>x.ro&&roL xs
end
theorem QaB:∀ {xs:List AVal} {i:Nat} {x:AVal},roL xs=true→xs[i]?=some x→x.ro=true
 |[],i,x,_,e=>by simp at e
 |y::xs,0,x,h,e=>by simp_all [roL]
 |y::xs,i+1,x,h,e=>by simp[roL] at h; simp at e; exact QaB h.2 e
theorem Den.ro{M:Nat→Option Obj}{c:Own}{x:AVal}{v:Value}(h:Den M c x v):x.ro=true→∀c',Den M c' x v:=by
 induction h with
 |junk=>intro _ c'; exact .junk _ _
 |bool=>intro _ c'; exact .bool _ _
 |int=>intro _ c'; exact .int _ _ _
 |str=>intro _ c'; exact .str _ _
 |nilp=>intro _ c'; exact .nilp _
 |bptr=>intro h; simp[AVal.ro] at h
 |ptr=>intro h; simp[AVal.ro] at h
 |rptr c row j blk off f h1 h2 ih=>intro _ c'; exact .rptr _ _ _ _ _ f h1 h2
 |nils=>intro _ c'; exact .nils _
 |cap0=>intro _ c'; exact .cap0 _ _
 |sl=>intro h; simp[AVal.ro] at h
 |slv=>intro h; simp[AVal.ro] at h
 |sle=>intro h; simp[AVal.ro] at h
 |rsl c ex nn sz rows a cap blk off f h1 h2 h3 h3' h4 h5 h6 h7 ih=>intro _ c'; exact .rsl _ _ _ _ _ _ _ blk off f h1 h2 h3 h3' h4 h5 h6 h7
 |map=>intro h; simp[AVal.ro] at h
 |rmap c es blk arr clock e h1 h2 h3 ih1 ih2=>intro _ c'; exact .rmap _ _ _ _ _ e h1 h2 h3
 |nilmap=>intro _ c'; exact .nilmap _
 |func c fn first captured vs ws h1 h2 h3 h4 ih1 ih2=>
  intro h c';simp[AVal.ro] at h;exact .func _ _ _ _ _ _ h1 h2 (λi x v e1 e2=>ih1 i x v e1 e2 (QaB h.1 e1) c') (λi x v e1 e2=>ih2 i x v e1 e2 (QaB h.2 e1) c')
 |nilf=>intro _ c'; exact .nilf _
 |iface c t x v h ih=>intro hr c'; exact .iface _ _ _ _ (ih (by simpa[AVal.ro] using hr) c')
 |nili=>intro _ c'; exact .nili _
 |agg c cs vs h1 h2 ih=>intro h c'; exact .agg _ _ _ h1 (λi x v e1 e2=>ih i x v e1 e2 (QaB (by simpa[AVal.ro] using h) e1) c')
 |tup c cs vs h1 h2 ih=>intro h c'; exact .tup _ _ _ h1 (λi x v e1 e2=>ih i x v e1 e2 (QaB (by simpa[AVal.ro] using h) e1) c')
 |when c cs x v h h2 ih=>intro hr c'; exact .when _ _ _ _ (λhp=>ih hp (by simpa[AVal.ro] using hr) c') h2
 |iter=>intro h; simp[AVal.ro] at h
 |yld=>intro h; simp[AVal.ro] at h
 |bsl=>intro h; simp[AVal.ro] at h
section
variable {P:Program} {GL:Globs} {Z:PZ}
theorem Xct{M:Nat→Option Obj}{b:Nat}{o:Obj}(h:M b=none):MLe M (mup M b o):=by
 intro n x en
 grind [mup]
theorem Rep.allocM{w0:World}{L:Ln}{g:Gm}{h:Hp}{w:World}(r:Rep GL w0 L g h w)(o:Obj):g.Le ⟨mup g.M w.heap.size o,g.c,g.dk⟩∧Rep GL w0 L ⟨mup g.M w.heap.size o,g.c,g.dk⟩ h (w.alloc o):=by
 have hM:g.M w.heap.size=none:=by
  cases hm:g.M w.heap.size with
  |none=>rfl
  |some x=>have:=r.stable_lt hm; omega
 have mle:=Xct (o:=o) hM;have hpush:∀k,k<w.heap.size→(w.alloc o).heap[k]?=w.heap[k]?:=by
  intro k hk; show (w.heap.push o)[k]?=_; grind
 refine⟨⟨mle,CLe.refl _,rfl⟩,?_⟩;exact {
  keeps:=r.keeps.trans' rfl rfl rfl (by simp) (λk hk _=>hpush k (by have:=r.keeps.size; omega))
  stable:=λb x e=>by
   by_cases hb:b=w.heap.size
   ·subst hb;have:mup g.M w.heap.size o w.heap.size=some x:=e;simp[mup] at this; subst this;show (w.heap.push o)[w.heap.size]?=_; simp
   ·have e':mup g.M w.heap.size o b=some x:=e;simp[mup,hb] at e';rw[hpush b (r.stable_lt e')]; exact r.stable b x e'
  globs:=λp hp=>(r.globs p hp).mono mle (CLe.refl _)
  mks:=r.mks
  src:=λb x e=>by
   by_cases hb:b=w.heap.size
   ·subst hb; exact .inr (.inl r.keeps.size)
   ·have e':mup g.M w.heap.size o b=some x:=e;simp[mup,hb] at e'; exact r.src b x e'
  empt:=r.empt
  dom:=r.dom
  own:=λb blk cb e hl ec hv=>by
   obtain⟨h1,h2,o',ho',hok⟩:=r.own b blk cb e hl ec hv;have hlt:=r.lt_of_own e hl ec hv;refine⟨?_,h2,o',by rw[hpush _ hlt]; exact ho',hok.mono mle (CLe.refl _)⟩
   grind [mup]
  hollow:=r.hollow
  inj:=r.inj }
theorem ZbJ(sz:Nat)(h0:Hp):OpSem P GL (.buildS0 sz) [] h0 (.rsl true true sz []) [] []:=by
 intro o os hc w0 L g h w a r hx _ _;generalize ho:o.op=op at hc;cases hc with
 |buildSlice0 t e _ parts he hs hp=>
  have hpe:parts = #[]:=by cases parts; simpa using hp
  subst hpe;have hue:P.underlying t=some (.slice e):=by
   grind [elemS?]
  obtain⟨q1,q2⟩:=r.allocM (.cells #[] e);have hrun:(execOp a.eval o).run P w=.ok (.value (.slice (some ⟨w.heap.size,0,none⟩) 0 0)) (w.alloc (.cells #[] e)):=by
   have h1:(Instr.buildSlice t 0 #[]).run P w=.ok (.slice (some ⟨w.heap.size,0,none⟩) 0 0) (w.alloc (.cells #[] e)):=by
    simp only[Instr.buildSlice,Sem.run_bind,run_underlying hue,Result.andThen_ok,Qq hs,Nat.zero_mul];simp[Instr.fill,newRow,Array.range]
   simp_all [execOp]
  rw[hrun];exact⟨_,q1,q2,.rsl _ _ _ _ [] _ _ w.heap.size 0 (λ_ _=>undef) (by simp) (by simp) (by simp) (by simp) (by simp) (by simp) (by simp) (by simp)⟩
theorem Ycx{k:IntKind}{n:Int}(w:World):(asInt (.int k n)).run P w=.ok n w:=rfl
theorem YcA(n by_ len:Nat)(z:List AVal)(k:IntKind)(hroom:by_*len≤2 ^ 48)(hlen:len<2 ^ 62)(h0:Hp)(nb:Nat)(hn:h0 nb=none) :
  OpSem P GL (.makeS n by_ z) [.int k len] h0 (.sl nb 0 len true) [] [(nb,.rows n (List.replicate len z))]:=by
 intro o os hc w0 L g h w a r hx _ hup';have hn':h nb=none:=by simp_all
 generalize ho:o.op=op at hc;cases hc with
 |makeSlice t l e v _ _ _ he hs hb hn0 hz hvs hcells=>
  obtain⟨ie,hie,hies⟩:∃ie,P.info? e=some ie∧ie.bytes=by_:=by
   simp_all
  have hue:P.underlying t=some (.slice e):=by
   grind [elemS?]
  have hl:=Xh hx.1;have hw:IntKind.i64.wrap (len:Int)=len:=IntWalk.i64_in _ ⟨by omega,by omega⟩;obtain⟨c1,c2⟩:=YH (M:=g.M) (c:=g.c) hcells;have hz0:z.length=n:=by rw[←c1,Array.length_toList,hvs]
  let cells:Array Value:=if len*n=0 then #[] else (Array.range (len*n)).map (v.cells[· % v.cells.size]!)
  have hcs:cells.size=len*n:=by
   grind
  have hrun:(execOp a.eval o).run P w=.ok (.value (.slice (some ⟨w.heap.size,0,none⟩) len len)) (w.alloc (.cells cells e)):=by
   have h1:(Instr.makeSlice t (.int k len) (.int k len)).run P w=.ok (.slice (some ⟨w.heap.size,0,none⟩) len len) (w.alloc (.cells cells e)):=by
    have g1:¬((len:Int)<0∨(ie.bytes:Int)*len>2 ^ 48):=by
     grind
    have g2:¬((len:Int)<0∨(len:Int)>len):=by omega
    simp only[Instr.makeSlice,Sem.run_bind,run_underlying hue,Result.andThen_ok,Ycx,typeInfo,run_program,hie,Sem.run_pure,hw];simp[g1,g2,run_askRoom,Qq hs,QO hz];have g3:¬(((len:Int)<0∨281474976710656<(ie.bytes:Int)*len)∨(len:Int)<0):=by
     omega
    rw[YIN g3];by_cases hzz:len*n=0
    ·have hc:cells = #[]:=by simp only[cells]; rw[YIP hzz]
     have hm:Array.map (λ_:Nat=>(default:Value)) (Array.range 0) = #[]:=by simp[Array.range]
     rw[YIP hzz,hc,hzz,hm];rfl
    ·have hc:cells=(Array.range (len*n)).map (v.cells[· % v.cells.size]!):=by simp only[cells]; rw[YIN hzz]
     rw[YIN hzz,hc];rfl
   simp_all [execOp]
  rw[hrun];refine Rep.newRows r hn' n (List.replicate len z) cells e len len true (by rw[hcs]) (Nat.le_refl _) (λ_=>rfl) (by simp) (λi row e=>?_) (λi row j x v' e1 e2 e3=>?_)
  ·grind
  ·rw[List.getElem?_replicate] at e1;split at e1
   ·rename_i hi;cases e1;have hj:j<n:=by grind
    refine c2 j x v' e2 ?_;have hlt:i*n+j<len*n:=by
     grind
    have hne:¬len*n=0:=by omega
    simp only[cells,YIN hne] at e3;simp_all [Nat.mod_eq_of_lt]
   ·cases e1
theorem Zcd(k:IntKind)(n:Int)(h0:Hp):OpSem P GL (.un .xor) [.int k n] h0 (.int k (bits .xor k (if k.signed then -1 else k.max) n)) [] []:=by
 intro o os hc w0 L g h w a r hx _ _;generalize ho:o.op=op' at hc;cases hc with
 |un _ t x=>
  simp only[execOp,ho,Xh hx.1,Op.unary,intBits_xor,Sem.run_bind,Sem.run_pure,Result.andThen_ok];exact Out.here r (.int _ _ _)
end
end Go.Ah
end
section
namespace Go.Ah
mutual
def AVal.flat:AVal→Bool
 |.bool _=>true
 |.int _ _=>true
 |.str _=>true
 |.nilp=>true
 |.nils=>true
 |.nilmap=>true
 |.func _ xs ys=>flatL xs&&flatL ys
 |.nilf=>true
 |.iface _ v=>v.flat
 |.nili=>true
 |.agg cs=>flatL cs
 |.tup cs=>flatL cs
 |.junk=>true
 |_=>false
def flatL:List AVal→Bool
 |[]=>true
 |x::xs=>x.flat&&flatL xs
end
theorem Z8:∀ {xs:List AVal} {i:Nat} {x:AVal},flatL xs=true→xs[i]?=some x→x.flat=true
 |[],i,x,_,e=>by simp at e
 |y::xs,0,x,h,e=>by simp_all [flatL]
 |y::xs,i+1,x,h,e=>by simp[flatL] at h; simp at e; exact Z8 h.2 e
theorem Den.flat{M:Nat→Option Obj}{c:Own}{x:AVal}{v:Value}(h:Den M c x v):x.flat=true→∀M' c',Den M' c' x v:=by
 induction h with
 |junk=>intro _ _ c'; exact .junk _ _
 |bool=>intro _ _ c'; exact .bool _ _
 |int=>intro _ _ c'; exact .int _ _ _
 |str=>intro _ _ c'; exact .str _ _
 |nilp=>intro _ _ c'; exact .nilp _
 |nils=>intro _ _ c'; exact .nils _
 |nilmap=>intro _ _ c'; exact .nilmap _
 |func c fn first captured vs ws h1 h2 h3 h4 ih1 ih2=>
  intro h M' c';simp[AVal.flat] at h;exact .func _ _ _ _ _ _ h1 h2 (λi x v e1 e2=>ih1 i x v e1 e2 (Z8 h.1 e1) M' c') (λi x v e1 e2=>ih2 i x v e1 e2 (Z8 h.2 e1) M' c')
 |nilf=>intro _ _ c'; exact .nilf _
 |iface c t x v h ih=>intro hr M' c'; exact .iface _ _ _ _ (ih (by simpa[AVal.flat] using hr) M' c')
 |nili=>intro _ _ c'; exact .nili _
 |agg c cs vs h1 h2 ih=>intro h M' c'; exact .agg _ _ _ h1 (λi x v e1 e2=>ih i x v e1 e2 (Z8 (by simpa[AVal.flat] using h) e1) M' c')
 |tup c cs vs h1 h2 ih=>intro h M' c'; exact .tup _ _ _ h1 (λi x v e1 e2=>ih i x v e1 e2 (Z8 (by simpa[AVal.flat] using h) e1) M' c')
 |_=>intro h; simp[AVal.flat] at h
section
variable {P:Program} {GL:Globs} {Z:PZ}
def ACall(P:Program)(GL:Globs)(f:FuncId)(xs:List AVal)(h0:Hp)(v:AVal)(rd:List Nat)(up:List (Nat×ABlk)):Prop:=
 ∀(w0:World) (L:Ln) (g:Gm) (h:Hp) (w:World) (vs:List Value),Rep GL w0 L g h w→DenL g xs vs→(∀b∈rd,h b=h0 b)→(∀p∈up,h p.1=h0 p.1) →
  Calls P f vs.toArray w λe w''=>∃u,e=.returned u∧∃g',g.Le g'∧Rep GL w0 L g' (hups h up) w''∧g'.den v u
theorem QB{f:FuncId}(hp:Qi P f=true)(args:Array Value)(w:World):(callFunc f args).run P w=.ok (.enter f args) w:=by
 unfold Qi at hp;cases hf:P.funcs[f]? with
 |none=>simp[hf] at hp
 |some fn=>
  simp[hf] at hp;obtain⟨b,hb⟩:=Option.isSome_iff_exists.1 hp.2;simp[callFunc,hf,hp.1,hb]
theorem QcQ{f:FuncId}{xs:List AVal}{h0:Hp}{v:AVal}{rd:List Nat}{up:List (Nat×ABlk)}(hc:ACall P GL f xs h0 v rd up):OpSem P GL (.call f) xs h0 v rd up:=by
 intro o os hco w0 L g h w a r hx hrd hup';generalize ho:o.op=op at hco;cases hco with
 |call _ args ts hp=>
  have hrun:(execOp a.eval o).run P w=.ok (.enter f (args.map a.eval)) w:=by
   simp_all [execOp,resolve,Act.eval,Deferred.ofValue,invoke,QB]
  rw[hrun];have:=hc w0 L g h w _ r hx hrd hup'
  rwa [←Array.toList_map,Array.toArray_toList] at this
theorem Zcz{f:FuncId}{first captured xs:List AVal}{h0:Hp}{v:AVal}{rd:List Nat}{up:List (Nat×ABlk)}(hp:Qi P f=true)(hc:ACall P GL f (first++xs++captured) h0 v rd up) :
  OpSem P GL .callv (.func (.func f) first captured::xs) h0 v rd up:=by
 intro o os hco w0 L g h w a r hx hrd hup';generalize ho:o.op=op at hco;cases hco with
 |callv x args ts=>
  obtain⟨d,dr⟩:=hx;generalize hu:a.eval x=u0 at d;cases d with
  |func _ _ _ _ vs ws h1 h2 h3 h4=>
   have hrun:(execOp a.eval o).run P w=.ok (.enter f (vs++args.map a.eval++ws)) w:=by
    simp_all [execOp,resolve,Deferred.ofValue,invoke,QB]
   rw[hrun];have hl:=dr.length;simp at hl;have:=hc w0 L g h w (vs ++ args.map a.eval ++ ws).toList r (DenL.of_get (by simp[h1,h2,hl]) (λi y u e1 e2=>by
    simp only[Array.toList_append] at e2;by_cases hi:i<first.length
    ·rw[List.append_assoc,List.getElem?_append_left hi] at e1;rw[List.append_assoc,List.getElem?_append_left (by simpa[h1] using hi)] at e2;exact h3 i y u e1 (by simpa using e2)
    ·by_cases hi2:i<first.length+xs.length
     ·rw[List.append_assoc,List.getElem?_append_right (by omega),List.getElem?_append_left (by omega)] at e1;rw[List.append_assoc,List.getElem?_append_right (by simp; omega),List.getElem?_append_left (by simp; omega)] at e2;refine dr.get (i-first.length) y u e1 ?_;simpa[h1] using e2
     ·rw[List.getElem?_append_right (by simp; omega)] at e1;rw[List.getElem?_append_right (by simp; omega)] at e2;refine h4 (i - (first ++ xs).length) y u e1 ?_;simpa[h1,hl] using e2)) hrd hup'
   rwa [Array.toArray_toList] at this
theorem Za5{P:Program}{name:String}{t:TypeId}{f:FuncId}(h:ZbS P name t=some f)(hp:Qi P f=true)(v:Value)(args:Array Value)(w:World) :
  (callMethod (.iface t v) name args).run P w=.ok (.enter f (#[v]++args)) w:=by
 unfold ZbS at h;split at h
 ·cases h
 ·rename_i i hi;split at h
  ·cases h
  ·rename_i m hm;have hfuel:∃k,P.types.size+Made.depth=k+1:=⟨P.types.size+Made.depth-1,by rfl⟩;obtain⟨k,hk⟩:=hfuel;have hpath:m.path.isEmpty=true→m.path.toList=[]:=λh=>by simpa using h
   have key:(method (k+1) t v name).run P w=.ok (f,v) w:=by
    unfold method;simp only[Sem.run_bind,run_typeInfo w hi,Result.andThen_ok,hm];split at h<;>simp_all [follow,receiverAt,Place.get,run_underlying]
   unfold callMethod;simp only[Sem.run_bind,show (program).run P w=.ok P w from rfl,Result.andThen_ok,hk,key];rw[QB hp]
theorem Yca{name:String}{tbl:List (TypeId×FuncId)}{f:FuncId}{ty:TypeId}{x:AVal}{xs:List AVal}{h0:Hp}{v:AVal}{rd:List Nat}{up:List (Nat×ABlk)}(hl:ZaV ty tbl=some f)(hc:ACall P GL f (x::xs) h0 v rd up) :
  OpSem P GL (.invoke name tbl) (.iface ty x::xs) h0 v rd up:=by
 intro o os hco w0 L g h w a r hx hrd hup';generalize ho:o.op=op at hco;cases hco with
 |invoke y _ args ts _ hok=>
  obtain⟨d,dr⟩:=hx;generalize hu:a.eval y=u0 at d;cases d with
  |iface _ _ _ vv hvv=>
   obtain⟨k1,k2⟩:=hok _ (Zan hl);have hrun:(execOp a.eval o).run P w=.ok (.enter f (#[vv]++args.map a.eval)) w:=by
    simp only[execOp,ho,resolve,Sem.run_bind,hu,Sem.run_pure,Result.andThen_ok,invoke];have e0:(#[Value.iface ty vv]++args.map a.eval)[0]?=some (Value.iface ty vv):=by grind
    have e1:(#[Value.iface ty vv]++args.map a.eval).extract 1 (#[Value.iface ty vv]++args.map a.eval).size=args.map a.eval:=by
     simp
    grind [Za5]
   rw[hrun];have:=hc w0 L g h w (vv::(args.map a.eval).toList) r ⟨hvv,by rwa [Array.toList_map]⟩ hrd hup';have e2:(vv::(args.map a.eval).toList).toArray = #[vv]++args.map a.eval:=by apply Array.ext'; simp
   rw[e2] at this;exact this
def PCall(P:Program)(GL:Globs)(f:FuncId)(xs:List AVal)(v:AVal):Prop:=
 ∀(w:World) (M:Nat→Option Obj) (vs:List Value),(∀b o,M b=some o→w.heap[b]?=some o)→(∀p∈GL,Den M noOwn (.rptr p.2 0) (.pointer (some ⟨p.1,0,none⟩)))→DenL ⟨M,noOwn,[]⟩ xs vs →
  Calls P f vs.toArray w λe w'=>∃u,e=.returned u∧Keeps ⟨[],M⟩ w w'∧∃M',MLe M M'∧(∀b o,M' b=some o→w'.heap[b]?=some o)∧(∀b o,M' b=some o→M b=some o∨w.heap.size≤b)∧Den M' noOwn v u
def noHp:Hp:=λ_=>none
theorem Rep.start(w:World)(M:Nat→Option Obj)(hM:∀b o,M b=some o→w.heap[b]?=some o)(hg:∀p∈GL,Den M noOwn (.rptr p.2 0) (.pointer (some ⟨p.1,0,none⟩))):Rep GL w ⟨[],M⟩ ⟨M,noOwn,[]⟩ noHp w where
 keeps:=Keeps.refl _ _
 stable:=hM
 src:=λ_ _ e=>.inl e
 mks:=λ_ q=>by cases q
 globs:=hg
 empt:=λ_ _=>rfl
 dom:=λ_ _ e=>by cases e
 own:=λ_ _ _ e=>by cases e
 hollow:=λ_ _ _ e=>by cases e
 inj:=λ_ _ _ _ _ _ e=>by cases e
theorem Rep.after{w0:World}{L:Ln}{g:Gm}{h:Hp}{w w':World}(r:Rep GL w0 L g h w){M M':Nat→Option Obj}(k:Keeps ⟨[],M⟩ w w')(hle:MLe g.M M')(hst:∀b o,M' b=some o→w'.heap[b]?=some o)(hsrc:∀b o,M' b=some o→g.M b=some o∨w.heap.size≤b) :
  Rep GL w0 L ⟨M',g.c,g.dk⟩ h w' where
 keeps:=r.keeps.trans' k.os k.tape k.output k.size (λb hb _=>k.block b (by have:=r.keeps.size; omega) (by simp))
 stable:=hst
 src:=λb o e=>by
  rcases hsrc b o e with h1|h1
  ·exact r.src b o h1
  ·exact .inr (.inl (by have:=r.keeps.size; omega))
 mks:=r.mks
 globs:=λp hp=>(r.globs p hp).mono hle (CLe.refl _)
 empt:=r.empt
 dom:=r.dom
 own:=λb blk cb e hl ec hv=>by
  obtain⟨h1,h2,o,ho,hok⟩:=r.own b blk cb e hl ec hv;have hlt:=r.lt_of_own e hl ec hv;refine⟨?_,h2,o,by rw[k.block _ hlt (by simp)]; exact ho,hok.mono hle (CLe.refl _)⟩;show M' cb.blk=none;cases hm:M' cb.blk<;>grind
 hollow:=r.hollow
 inj:=r.inj
theorem Ybh{M:Nat→Option Obj}{c:Own}{mk:List Nat}:∀ {xs:List AVal} {vs:List Value},roL xs=true→DenL ⟨M,c,mk⟩ xs vs→∀c' mk',DenL ⟨M,c',mk'⟩ xs vs
 |[],[],_,_,_,_=>trivial
 |x::xs,v::vs,h,⟨d,r⟩,c',mk'=>by simp[roL] at h; exact⟨Den.ro d h.1 c',Ybh h.2 r c' mk'⟩
theorem PCall.here{f:FuncId}{xs:List AVal}{v:AVal}(hc:PCall P GL f xs v)(hxs:roL xs=true)(h0:Hp):ACall P GL f xs h0 v [] []:=by
 intro w0 L g h w vs r hx _ _;refine(hc w g.M vs r.stable r.globs (Ybh hxs hx noOwn [])).mono ?_;rintro e w' ⟨u,he,k,M',hle,hst,hsrc,hd⟩;exact⟨u,he,⟨M',g.c,g.dk⟩,⟨hle,CLe.refl _,rfl⟩,r.after k hle hst hsrc,hd.mono (MLe.refl _) (CLe.noOwn _)⟩
def World.all(w:World):Nat→Option Obj:=λb=>w.heap[b]?
def Cov(g:Gm)(h:Hp)(w:World)(M2:Nat→Option Obj):Prop:=
 MLe g.M M2∧∀b blk cb o,h b=some blk→blk.live=true→g.c b=some cb→cb.virt=false→w.heap[cb.blk]?=some o→M2 cb.blk=some o
def Bor(h0:Hp)(rd:List Nat)(x y:AVal):Prop:=
 ∀(GL:Globs) (w0:World) (L:Ln) (g:Gm) (h:Hp) (w:World) (M2:Nat→Option Obj),Rep GL w0 L g h w→Cov g h w M2→(∀b∈rd,h b=h0 b)→∀v,g.den x v→Den M2 noOwn y v
def BorL(h0:Hp)(rd:List Nat)(xs ys:List AVal):Prop:=
 ∀(GL:Globs) (w0:World) (L:Ln) (g:Gm) (h:Hp) (w:World) (M2:Nat→Option Obj),Rep GL w0 L g h w→Cov g h w M2→(∀b∈rd,h b=h0 b)→∀vs,DenL g xs vs→DenL ⟨M2,noOwn,[]⟩ ys vs
theorem Rep.le_all{w0:World}{L:Ln}{g:Gm}{h:Hp}{w:World}(r:Rep GL w0 L g h w):MLe g.M (World.all w):=λb o e=>r.stable b o e
theorem Rep.cov_all{w0:World}{L:Ln}{g:Gm}{h:Hp}{w:World}(r:Rep GL w0 L g h w):Cov g h w (World.all w):=⟨r.le_all,λ_ _ _ _ _ _ _ _ e=>e⟩
theorem PCall.lend{f:FuncId}{xs ys:List AVal}{v:AVal}{rd:List Nat}{h0:Hp}(hc:PCall P GL f ys v)(hb:BorL h0 rd xs ys)(hv:v.flat=true):ACall P GL f xs h0 v rd []:=by
 intro w0 L g h w vs r hx hrd _;refine(hc w (World.all w) vs (λ_ _ e=>e) (λp hp=>(r.globs p hp).mono r.le_all (CLe.refl _)) (hb GL w0 L g h w _ r r.cov_all hrd vs hx)).mono ?_;rintro e w' ⟨u,he,k,M',hle,hst,hsrc,hd⟩;refine⟨u,he,g,Gm.Le.refl _,?_,Den.flat hd hv _ _⟩;exact r.after k (MLe.refl _) (λb o e=>by rw[k.block b (r.stable_lt e) (by simp)]; exact r.stable b o e) (λb o e=>.inl e)
theorem Bor.ro{h0:Hp}{rd:List Nat}{x:AVal}(hx:x.ro=true):Bor h0 rd x x:=by
 intro GL w0 L g h w M2 r hM _ v d;exact Den.ro (Den.mono hM.1 d (CLe.refl _)) hx _
theorem BorL.nil{h0:Hp}{rd:List Nat}:BorL h0 rd [] []:=by
 intro GL w0 L g h w M2 r hM _ vs d;cases vs with
 |nil=>trivial
 |cons v vs=>exact d.elim
theorem BorL.cons{h0:Hp}{rd:List Nat}{x y:AVal}{xs ys:List AVal}(h1:Bor h0 rd x y)(h2:BorL h0 rd xs ys):BorL h0 rd (x::xs) (y::ys):=by
 intro GL w0 L g h w M2 r hM hrd vs d;cases vs with
 |nil=>exact d.elim
 |cons v vs=>exact⟨h1 GL w0 L g h w M2 r hM hrd v d.1,h2 GL w0 L g h w M2 r hM hrd vs d.2⟩
theorem BorL.get{h0:Hp}{rd:List Nat}{xs ys:List AVal}(hb:BorL h0 rd xs ys){GL:Globs}{w0:World}{L:Ln}{g:Gm}{h:Hp}{w:World}{M2:Nat→Option Obj}(r:Rep GL w0 L g h w)(hM:Cov g h w M2)(hrd:∀b∈rd,h b=h0 b){vs:List Value}(hl:xs.length=vs.length)
 (hd:∀(i:Nat) (x:AVal) (v:Value),xs[i]?=some x→vs[i]?=some v→g.den x v):ys.length=vs.length∧∀(i:Nat) (y:AVal) (v:Value),ys[i]?=some y→vs[i]?=some v→Den M2 noOwn y v:=by
 have:=hb GL w0 L g h w M2 r hM hrd vs (DenL.of_get hl hd);exact⟨this.length,λi y v e1 e2=>this.get i y v e1 e2⟩
theorem Bor.box{h0:Hp}{rd:List Nat}{b j:Nat}{row row':List AVal}(hb:h0 b=some (.box row))(hin:b∈rd)(hr:BorL h0 rd row row'):Bor h0 rd (.bptr b j) (.rptr row' j):=by
 intro GL w0 L g h w M2 r hM hrd v d;have hb':h b=some (.box row):=by rw[hrd b hin]; exact hb
 cases d with
 |bptr _ _ _ cb ec=>
 cases hvirt:cb.virt with
 |true=>have:=r.hollow b _ cb hb' rfl ec hvirt; cases this
 |false=>
 obtain⟨_,_,o',ho',arr,T,rfl,hs,hden⟩:=r.own b _ cb hb' rfl ec hvirt;obtain⟨hl,hd⟩:=hr.get r hM hrd (vs:=arr.toList) (by simp[hs]) (λi x v e1 e2=>hden i x v e1 (by simpa using e2));have hd':Den M2 noOwn (.rptr row' j) (.pointer (some ⟨cb.blk,0+j,none⟩)):=by
  refine .rptr _ _ _ _ _ (λk=>(arr[k]?).getD undef) (λk hk=>?_) (λk x e=>?_)
  ·have hk':k<arr.size:=by simpa[hl] using hk
   have hw:M2 cb.blk=some (.cells arr T (0,0)):=hM.2 b _ cb _ hb' rfl ec (by assumption) ho';simp[mcell,hw,hk']
  ·have hk:k<arr.size:=by have:=(YLG e).1; simpa[hl] using this
   simp only[Array.getElem?_eq_getElem hk,Option.getD_some];exact hd k x _ e (by simp[hk])
 rwa [Nat.zero_add] at hd'
theorem Bor.iface{h0:Hp}{rd:List Nat}{t:TypeId}{x y:AVal}(h1:Bor h0 rd x y):Bor h0 rd (.iface t x) (.iface t y):=by
 intro GL w0 L g h w M2 r hM hrd v d;cases d with
 |iface _ _ _ v' dv=>exact .iface _ _ _ _ (h1 GL w0 L g h w M2 r hM hrd v' dv)
theorem Bor.agg{h0:Hp}{rd:List Nat}{xs ys:List AVal}(h1:BorL h0 rd xs ys):Bor h0 rd (.agg xs) (.agg ys):=by
 intro GL w0 L g h w M2 r hM hrd v d;cases d with
 |agg _ _ vs hs hd=>
  obtain⟨hl,hd'⟩:=h1.get r hM hrd (vs:=vs.toList) (by simp[hs]) (λi x v e1 e2=>hd i x v e1 (by simpa using e2));exact .agg _ _ _ (by simpa using hl.symm) (λi x v e1 e2=>hd' i x v e1 (by simpa using e2))
theorem Bor.func{h0:Hp}{rd:List Nat}{fn:Fn}{xs ys xs' ys':List AVal}(h1:BorL h0 rd xs xs')(h2:BorL h0 rd ys ys'):Bor h0 rd (.func fn xs ys) (.func fn xs' ys'):=by
 intro GL w0 L g h w M2 r hM hrd v d;cases d with
 |func _ _ _ _ vs ws q1 q2 q3 q4=>
  obtain⟨hl,hd'⟩:=h1.get r hM hrd (vs:=vs.toList) (by simp[q1]) (λi x v e1 e2=>q3 i x v e1 (by simpa using e2));obtain⟨hl2,hd2⟩:=h2.get r hM hrd (vs:=ws.toList) (by simp[q2]) (λi x v e1 e2=>q4 i x v e1 (by simpa using e2));exact .func _ _ _ _ _ _ (by simpa using hl.symm) (by simpa using hl2.symm) (λi x v e1 e2=>hd' i x v e1 (by simpa using e2)) (λi x v e1 e2=>hd2 i x v e1 (by simpa using e2))
theorem Bor.map{h0:Hp}{rd:List Nat}{b:Nat}{es:List (AVal×AVal)}(hb:h0 b=some (.map es))(hin:b∈rd)(hro:∀p∈es,p.1.ro=true∧p.2.ro=true):Bor h0 rd (.map b) (.rmap es):=by
 intro GL w0 L g h w M2 r hM hrd v d;have hb':h b=some (.map es):=by rw[hrd b hin]; exact hb
 cases d with
 |map _ _ cb ec=>
 cases hvirt:cb.virt with
 |true=>have:=r.hollow b _ cb hb' rfl ec hvirt; cases this
 |false=>
 obtain⟨_,_,o',ho',arr,clock,rfl,hs,hden⟩:=r.own b _ cb hb' rfl ec hvirt;have hw:M2 cb.blk=some (.map arr clock):=hM.2 b _ cb _ hb' rfl ec hvirt ho';exact .rmap _ _ _ arr clock hw hs (λi k x e e1 e2=>Den.ro ((hden i k x e e1 e2).1.mono hM.1 (CLe.refl _)) (hro _ (List.mem_of_getElem? e1)).1 _)
  (λi k x e e1 e2=>Den.ro ((hden i k x e e1 e2).2.mono hM.1 (CLe.refl _)) (hro _ (List.mem_of_getElem? e1)).2 _)
theorem Bor.sl{h0:Hp}{rd:List Nat}{b off len sz:Nat}{ex:Bool}{rs rs':List (List AVal)}(hb:h0 b=some (.rows sz rs))(hin:b∈rd)(hle:off+len≤rs.length)(hl:rs'.length=len)
 (hr:∀(i:Nat) (row row':List AVal),rs[off+i]?=some row→rs'[i]?=some row'→BorL h0 rd row row'):Bor h0 rd (.sl b off len ex) (.rsl ex false sz rs'):=by
 intro GL w0 L g h w M2 r hM hrd v d;have hb':h b=some (.rows sz rs):=by rw[hrd b hin]; exact hb
 cases d with
 |slv _ _ _ cb p ec hv=>
  have:rs'=[]:=List.length_eq_zero_iff.1 hl;subst this;exact .rsl _ _ _ _ [] _ _ 0 0 (λ_ _=>undef) (by simp) (by simp) (by simp) (by simp) (by simp) (by simp) (by simp) (by simp)
 |sle _ _ _ _ cb p ec hv=>
  have:rs'=[]:=List.length_eq_zero_iff.1 hl;subst this;exact .rsl _ _ _ _ [] _ _ 0 0 (λ_ _=>undef) (by simp) (by simp) (by simp) (by simp) (by simp) (by simp) (by simp) (by simp)
 |sl _ _ _ _ _ cb cap ec hv h1 h2 h3=>
  obtain⟨e1,arr,T,ho',hs,hle2,hrow,hden⟩:=r.rowsBlk hb' ec hv;have hw:M2 cb.blk=some (.cells arr T (0,0)):=hM.2 b _ cb _ hb' rfl ec (by assumption) ho';have hget:∀i,i<len→∃row,rs[off+i]?=some row:=λi hi=>⟨rs[off+i]'(by omega),by simp[show off+i<rs.length by omega]⟩;have hin2:∀i j,i<len→j<sz→cb.base+(off+i)*sz+j<arr.size:=by
   intro i j hi hj;have:(off+i+1)*sz≤rs.length*sz:=Nat.mul_le_mul_right sz (by omega);rw[Nat.succ_mul] at this; omega
  have key:∀i row row',rs[off+i]?=some row→rs'[i]?=some row'→row'.length=sz∧∀(j:Nat) (y:AVal),row'[j]?=some y→Den M2 noOwn y ((arr[cb.base+(off+i)*sz+j]?).getD undef):=by
   intro i row row' q1 q2;have hi:i<len:=by rw[←hl]; exact(YLG q2).1
   have hrl:=hrow _ _ q1;obtain⟨k1,k2⟩:=(hr i row row' q1 q2).get r hM hrd (vs:=(arr.extract (cb.base + (off + i) * sz) (cb.base + (off + i) * sz + sz)).toList) (by
     have:=hin2 i 0 hi;simp[hrl];by_cases h0:sz=0
     ·subst h0; simp
     ·have:=hin2 i (sz-1) hi (by omega); omega) (λj x v q3 q4=>by
    have hj:j<sz:=by rw[←hrl]; exact(YLG q3).1
    have hlt:=hin2 i j hi hj;rw[Array.getElem?_toList] at q4;obtain⟨_,q4⟩:=Array.getElem?_eq_some_iff.1 q4;rw[Array.getElem_extract] at q4;exact hden _ row j x v q1 q3 (by rw[Array.getElem?_eq_getElem hlt,q4]))
   have hlen:(arr.extract (cb.base+(off+i)*sz) (cb.base+(off+i)*sz+sz)).toList.length=sz:=by
    simp;by_cases h0:sz=0
    ·subst h0; simp
    ·have:=hin2 i (sz-1) hi (by omega); omega
   refine⟨by rw[k1,hlen],λj y q3=>?_⟩;have hj:j<sz:=by rw[←hlen,←k1]; exact(YLG q3).1
   have hlt:=hin2 i j hi hj;simp only[Array.getElem?_eq_getElem hlt,Option.getD_some];refine k2 j y _ q3 ?_;rw[Array.getElem?_toList,Array.getElem?_eq_getElem (by simp; omega),Array.getElem_extract]
  have hres:Den M2 noOwn (.rsl ex false sz rs') (.slice (some ⟨cb.blk,cb.base+off*sz,none⟩) rs'.length cap):=by
   refine .rsl _ ex false sz rs' _ cap cb.blk (cb.base+off*sz) (λi j=>(arr[cb.base+(off+i)*sz+j]?).getD undef) (λe=>by rw[hl]; exact h3 e) (by simp) (λ_=>rfl) (λe=>by cases e) (by rw[hl]; exact h1) (λi row' q=>?_) (λi j hi hj=>?_) (λi row' j y q1 q2=>?_)
   ·obtain⟨row,hrw⟩:=hget i (by rw[←hl]; exact(YLG q).1);exact(key i row row' hrw q).1
   ·rw[hl] at hi;have hlt:=hin2 i j hi hj;rw[show cb.base+off*sz+(i*sz+j)=cb.base+(off+i)*sz+j by rw[Nat.add_mul]; omega];simp[mcell,hw,hlt]
   ·obtain⟨row,hrw⟩:=hget i (by rw[←hl]; exact(YLG q1).1);exact(key i row row' hrw q1).2 j y q2
  rw[hl,←e1] at hres;rw[e1] at hres ⊢;exact hres
end
end Go.Ah
end
section
namespace Go.Ah
structure MOper where
 dst:Option Nat
 k:MK
 xs:List Opd
 guard:Option (Nat×Bool)
 deriving Inhabited
def All2{α β:Type}(R:α→β→Prop):List α→List β→Prop
 |[],[]=>True
 |x::xs,y::ys=>R x y∧All2 R xs ys
 |_,_=>False
structure OperOk (P:Program) (GL:Globs) (n:Nat) (ops:Array Oper) (o:Oper) (m:MOper):Prop where
 dst:o.dst=m.dst
 lt:∀d,m.dst=some d→d<n
 op:∃os,Comp P GL o.op m.k os∧All2 (OpdOk GL) os m.xs
 guard:match o.guard,m.guard with
  |none,none=>True
  |some (j,w),some (s,w')=>w=w'∧(ops[j]?).bind (·.dst)=some s
  |_,_=>False
def Hold(cs:List (Bool×Bool)):Prop:=∀p∈cs,p.1=p.2
inductive GuardIs (ρ:Frame):Option (Nat×Bool)→List (Bool×Bool)→Prop
 |none:GuardIs ρ none []
 |bool (s:Nat) (w c:Bool):fget ρ s=.bool c→GuardIs ρ (some (s,w)) [(c,w)]
 |when (s:Nat) (w c:Bool) (cs:List (Bool×Bool)):fget ρ s=.when cs (.bool c)→GuardIs ρ (some (s,w)) (cs++[(c,w)])
def Unw(H:Prop)(x y:AVal):Prop:=x=y∨∃cs,x=.when cs y∧(H→Hold cs)
def fdel(d:Nat):Frame→Frame
 |[]=>[]
 |(k,u)::r=>match Nat.beq k d with
  |true=>r
  |false=>(k,u)::fdel d r
theorem Qbo{d t:Nat}(h:t≠d):∀(ρ:Frame),fget (fdel d ρ) t=fget ρ t
 |[]=>rfl
 |(k,u)::r=>by
  simp only[fdel];split<;>simp_all [ZA,Qbo]
def putF(d:Option Nat)(v:AVal)(ρ:Frame):Frame:=
 match d with
 |some d=>(d,v)::fdel d ρ
 |none=>ρ
theorem ZQ(d:Option Nat)(v:AVal)(ρ:Frame)(t:Nat):fget (putF d v ρ) t=if d=some t then v else fget ρ t:=by
 cases d with
 |none=>simp[putF]
 |some d=>
  simp only[putF,ZA];by_cases h:t=d
  ·subst h; simp
  ·rw[YIN h,YIN (λe=>h (Option.some.inj e).symm),Qbo h]
def upL:List ABlk→List (Nat×ABlk)→Option (List ABlk)
 |σ,[]=>some σ
 | σ,(b,x) :: r=>bif Nat.beq b σ.length then upL (σ ++ [x]) r else (match ZO b x σ with
  |some σ'=>upL σ' r
  | none=>none)
abbrev Log:=List (List Nat×List Nat)
def wz(rnd:Option Nat):Fence:={ Fence.wide with round:=rnd }
theorem YY{rnd:Option Nat}{n:Nat}{P:Program}{f:FuncId}{args:Array Value}{w:World}{R:Ending→World→Prop}:CallsIn (wz rnd) n P f args w R↔Calls P f args w R:=
 show CallsIn Fence.wide n P f args w R↔_ from callsIn_wide
theorem Qah{rnd:Option Nat}{p:Prop}(h:(wz rnd).depth.isSome=true):p:=by simp[wz,Fence.wide] at h
def OutE(GL:Globs)(w0:World)(L:Ln)(g:Gm)(R Z:PZ):Ending→World→Prop
 |.returned u,w=>∃g' x σ',R x σ'∧g.Le g'∧Rep GL w0 L g' (hp σ') w∧g'.den x u
 |.panicked ch,w=>∃u g' x σ',ch=[{ v:=u,recovered:=false }]∧Z x σ'∧g.Le g'∧Rep GL w0 L g' (hp σ') w∧g'.den x u
 |.outgrown,_=>False
theorem OutE.of{GL:Globs}{w0:World}{L:Ln}{g:Gm}{R Z:PZ}{e:Ending}{w:World}(h:∃u,e=.returned u∧∃g' x σ',R x σ'∧g.Le g'∧Rep GL w0 L g' (hp σ') w∧g'.den x u):OutE GL w0 L g R Z e w:=by
 obtain⟨u,rfl,h⟩:=h;exact h
def OutR(P:Program)(GL:Globs)(w0:World)(L:Ln)(g:Gm)(R Z:PZ):Result Next→Prop
 |.ok (.value u) w'=>∃g' x σ',R x σ'∧g.Le g'∧Rep GL w0 L g' (hp σ') w'∧g'.den x u
 |.ok .skip w'=>∃g' σ',R .junk σ'∧g.Le g'∧Rep GL w0 L g' (hp σ') w'
 |.ok (.enter f args) w'=>Calls P f args w' (OutE GL w0 L g R Z)
 |.ok (.round l f tmps assign body) w'=>RoundIn Fence.wide 0 P l f tmps assign body w' (OutE GL w0 L g R Z)
 |.halt (.panic u) w'=>∃g' x σ',Z x σ'∧g.Le g'∧Rep GL w0 L g' (hp σ') w'∧g'.den x u
 |_=>False
def OpRelP(P:Program)(GL:Globs)(k:MK)(xs:List AVal)(σ:List ABlk)(R Z:PZ):Prop:=
 ∀(o:Oper) (os:List Operand),Comp P GL o.op k os→∀(w0:World) (L:Ln) (g:Gm) (w:World) (a:Act),Rep GL w0 L g (hp σ) w→DenL g xs (os.map a.eval)→OutR P GL w0 L g R Z ((execOp a.eval o).run P w)
abbrev OpRel(P:Program)(GL:Globs)(k:MK)(xs:List AVal)(σ:List ABlk)(R:PZ):Prop:=OpRelP P GL k xs σ R noZ
inductive StepR (fl:Bool) (P:Program) (GL:Globs) (Z:PZ) (o:MOper) (ρ:Frame) (σ:List ABlk) (lg:Log) (K:Frame→List ABlk→Log→Prop):Prop
 |run (cs:List (Bool×Bool)) (ys:List AVal) (v:AVal) (rd:List Nat) (up:List (Nat×ABlk)) (σ':List ABlk):GuardIs ρ o.guard cs→Hold cs→All2 (Unw True) (o.xs.map (ev ρ)) ys→OpSem P GL o.k ys (hp σ) v rd up →
   upL σ up=some σ'→K (putF o.dst v ρ) σ' (lg++[(rd,up.map (·.1))])→StepR fl P GL Z o ρ σ lg K
 |skip (cs:List (Bool×Bool)):GuardIs ρ o.guard cs→¬Hold cs→K (putF o.dst .junk ρ) σ (lg++[([],[])])→StepR fl P GL Z o ρ σ lg K
 |lazy (cs:List (Bool×Bool)) (ys:List AVal) (v:AVal) (rd:List Nat):GuardIs ρ o.guard cs→All2 (Unw (Hold cs)) (o.xs.map (ev ρ)) ys→(Hold cs→OpSem P GL o.k ys (hp σ) v rd []) →
   K (putF o.dst (.when cs v) ρ) σ (lg++[(rd,[])])→StepR fl P GL Z o ρ σ lg K
 |pick (cs:List (Bool×Bool)) (x y z:AVal) (c p q:Bool) (v:AVal):GuardIs ρ o.guard cs→o.k=.pick→o.xs.map (ev ρ)=[x,y,z]→Unw (Hold cs) x (.bool c)→Unw (Hold cs∧c=true) y (.bool p)→Unw (Hold cs∧c=false) z (.bool q) →
   (v=.when cs (.bool (bif c then p else q))∨(cs=[]∧v=.bool (bif c then p else q)))→K (putF o.dst v ρ) σ (lg++[([],[])])→StepR fl P GL Z o ρ σ lg K
 |rel (cs:List (Bool×Bool)) (ys:List AVal) (R:KT):fl=false→GuardIs ρ o.guard cs→Hold cs→All2 (Unw True) (o.xs.map (ev ρ)) ys→OpRelP P GL o.k ys σ R Z →
   (∀v σ',R v σ'→K (putF o.dst v ρ) σ' (lg++[([],[])]))→StepR fl P GL Z o ρ σ lg K
def AwpR(fl:Bool)(P:Program)(GL:Globs)(Z:PZ):List MOper→Frame→List ABlk→Log→(Frame→List ABlk→Log→Prop)→Prop
 |[],ρ,σ,lg,Q=>Q ρ σ lg
 |o::r,ρ,σ,lg,Q=>StepR fl P GL Z o ρ σ lg λρ' σ' lg'=>AwpR fl P GL Z r ρ' σ' lg' Q
theorem StepR.mono{fl:Bool}{P:Program}{GL:Globs}{Z:PZ}{o:MOper}{ρ:Frame}{σ:List ABlk}{lg:Log}{K K':Frame→List ABlk→Log→Prop}(h:∀ρ σ lg,K ρ σ lg→K' ρ σ lg)(s:StepR fl P GL Z o ρ σ lg K):StepR fl P GL Z o ρ σ lg K':=by
 cases s with
 |run cs ys v rd up σ' h1 h2 h3 h4 h5 h6=>exact .run cs ys v rd up σ' h1 h2 h3 h4 h5 (h _ _ _ h6)
 |skip cs h1 h2 h3=>exact .skip cs h1 h2 (h _ _ _ h3)
 |lazy cs ys v rd h1 h2 h3 h4=>exact .lazy cs ys v rd h1 h2 h3 (h _ _ _ h4)
 |pick cs x y z c p q v h1 h2 h3 h4 h5 h6 h7 h8=>exact .pick cs x y z c p q v h1 h2 h3 h4 h5 h6 h7 (h _ _ _ h8)
 |rel cs ys R h0 h1 h2 h3 h4 h5=>exact .rel cs ys R h0 h1 h2 h3 h4 (λv σ' hr=>h _ _ _ (h5 v σ' hr))
theorem Yay:∀(up:List (Nat×ABlk)) (σ σ':List ABlk),upL σ up=some σ'→hups (hp σ) up=hp σ'
 |[],σ,σ',h=>by simp only[upL] at h; cases h; rfl
 |(b,x)::r,σ,σ',h=>by
  simp only[upL] at h;cases hb:Nat.beq b σ.length with
  |true=>
   simp only[hb,cond_true] at h;have:=Yay r _ _ h;rw[←this];show hups (hup (hp σ) b x) r=_
   congr 1
   grind [hup,hp,YNB]
  |false=>
   simp only[hb,cond_false] at h;cases hs:ZO b x σ with
   |none=>simp[hs] at h
   |some σ1=>
    simp only[hs] at h;have:=Yay r _ _ h;rw[←this];show hups (hup (hp σ) b x) r=_
    congr 1
    funext n
    obtain⟨s1,s2,s3⟩:=ZbK hs;unfold hup hp;rw[s3 n]
section
variable {P:Program} {GL:Globs} {Z:PZ}
def Lift(GL:Globs)(w0:World)(L:Ln)(n:Nat)(g:Gm)(K:Frame→List ABlk→Log→Prop)(a:Act)(w:World):Prop:=
 ∃g' ρ σ lg,g.Le g'∧Rep GL w0 L g' (hp σ) w∧DenF n g' ρ a∧K ρ σ lg
theorem Yan{H:Prop}(hH:H){x y:AVal}(h:Unw H x y){g:Gm}{v:Value}(d:g.den x v):g.den y v:=by
 rcases h with rfl|⟨cs,rfl,h2⟩
 ·exact d
 ·cases d with
  |when _ _ _ _ h3 _=>exact h3 (h2 hH)
theorem Qag{H:Prop}(hH:H){g:Gm}:∀ {xs ys:List AVal} {vs:List Value},All2 (Unw H) xs ys→DenL g xs vs→DenL g ys vs
 |[],[],[],_,_=>trivial
 |[],[],_::_,_,d=>d.elim
 |_::_,_::_,[],_,d=>d.elim
 |_::_,_::_,_::_,⟨h1,h2⟩,⟨d1,d2⟩=>⟨Yan hH h1 d1,Qag hH h2 d2⟩
theorem Qav{w0:World}{L:Ln}{g:Gm}{h:Hp}{w:World}(r:Rep GL w0 L g h w){n:Nat}{ρ:Frame}{a:Act}(d:DenF n g ρ a):∀ {os:List Operand} {xs:List Opd},All2 (OpdOk GL) os xs→DenL g (xs.map (ev ρ)) (os.map a.eval)
 |[],[],_=>trivial
 |_::_,_::_,⟨h1,h2⟩=>⟨DenF.opd r d h1,Qav r d h2⟩
theorem DenF.putF{n:Nat}{g:Gm}{ρ:Frame}{a:Act}(h:DenF n g ρ a){d:Option Nat}(hd:∀t,d=some t→t<n){x:AVal}{v:Value}(hx:g.den x v):DenF n g (putF d x ρ) (a.put d v):=by
 cases d with
 |none=>exact h
 |some t=>
  have:=h.put (hd t rfl) hx;refine⟨this.size,λs=>?_,this.defers⟩;have hs:=this.slot s;rw[ZA] at hs;rw[ZQ]
  grind
theorem Qad{o:Oper}{k:MK}{os:List Operand}(hc:Comp P GL o.op k os)(rnd:Option Nat)(ρ:Operand→Value):o.semAt rnd ρ=execOp ρ o:=by
 refine Oper.semAt_eq rnd ρ o (λc e=>?_);rw[e] at hc;cases hc with
 |bad _ h=>simp[QbF] at h
 |x _ _ _ h=>cases h
theorem Out.upon{w0:World}{L:Ln}{g:Gm}{h':Hp}{x:AVal}{w:World}{o:Oper}{a:Act}(ho:Out P GL w0 L g h' x ((execOp a.eval o).run P w)){k:MK}{os:List Operand}(hc:Comp P GL o.op k os)(rnd:Option Nat){next:Act→World→Prop}{Q:Exit→Act→World→Prop}
 (hk:∀g' u w',g.Le g'→Rep GL w0 L g' h' w'→g'.den x u→next (a.put o.dst u) w'):o.wpIn (wz rnd) 0 P a w next Q:=by
 refine⟨λ_ _=>trivial,?_⟩;rw[Qad hc];generalize (execOp a.eval o).run P w=res at ho;cases res with
 |halt x w=>exact ho.elim
 |ok nx w=>
  cases nx with
  |value u=>obtain⟨g',h1,h2,h3⟩:=ho; exact hk g' u w h1 h2 h3
  |skip=>obtain⟨g',h1,h2,h3⟩:=ho; subst h3; exact hk g' undef w h1 h2 (.junk _ _)
  |enter f args=>
   refine⟨Qah,YY.2 (Calls.mono ho ?_)⟩
   grind
  |_=>exact ho.elim
theorem Zm{n:Nat}{ops:Array Oper}{o:Oper}{m:MOper}(ok:OperOk P GL n ops o m){ρ:Frame}{g:Gm}{a:Act}(d:DenF n g ρ a){cs:List (Bool×Bool)}(hg:GuardIs ρ m.guard cs) :
  (Hold cs→Region.wanted o (yielded ops a.tmps)=true)∧(¬Hold cs→Region.wanted o (yielded ops a.tmps)=false):=by
 have hgo:=ok.guard;unfold Region.wanted;cases h1:m.guard with
 |none=>
  rw[h1] at hg hgo;cases hg;cases h2:o.guard<;>simp_all [Hold]
 |some sw=>
  obtain⟨s,w⟩:=sw;rw[h1] at hg hgo;cases h2:o.guard with
  |none=>simp[h2] at hgo
  |some jw=>
   obtain⟨j,w'⟩:=jw;simp only[h2] at hgo;obtain⟨rfl,hs⟩:=hgo;have hslot:=d.slot s;have hy:∀v,a.tmps.getD s undef=v→yielded ops a.tmps j=match v with | .bool b=>some b|_=>none:=by
    intro v hv;unfold yielded;rw[hs];simp only[Option.bind_some];by_cases hlt:s<a.tmps.size
    ·rw[Array.getElem?_eq_getElem hlt];have:a.tmps[s]=v:=by simp_all
     rw[this]; cases v<;>rfl
    grind [undef]
   show (Hold cs→(yielded ops a.tmps j==some _)=true)∧(¬Hold cs→(yielded ops a.tmps j==some _)=false);cases hg with
   |bool _ _ c hc=>
    rw[hc] at hslot;have hv:=Yt hslot;simp_all [Hold]
   |when _ _ c cs hc=>
    rw[hc] at hslot;cases hslot with
    |when _ _ _ _ h3 h4=>
    constructor
    ·intro h;have hv:=Yt (h3 (λp hp=>h p (by simp[hp])));rw[hy _ hv];have:=h (c,w') (by simp); simp at this; simp[this]
    ·intro h;by_cases hcs:Hold cs
     ·have hv:=Yt (h3 hcs);rw[hy _ hv];simp; intro e;exact h (λp hp=>by
       rcases List.mem_append.1 hp with h1|h1
       ·exact hcs p h1
       ·simp at h1; subst h1; exact e)
     ·have hv:=h4 hcs;rw[hy _ hv]; simp[undef]
theorem OutR.upon{w0:World}{L:Ln}{g:Gm}{R Z:PZ}{w:World}{o:Oper}{a:Act}(ho:OutR P GL w0 L g R Z ((execOp a.eval o).run P w)){k:MK}{os:List Operand}(hc:Comp P GL o.op k os)(rnd:Option Nat){next:Act→World→Prop}{Q:Exit→Act→World→Prop}
 (hk:∀g' x σ' u w',R x σ'→g.Le g'→Rep GL w0 L g' (hp σ') w'→g'.den x u→next (a.put o.dst u) w')
 (hz:∀g' x σ' u w',Z x σ'→g.Le g'→Rep GL w0 L g' (hp σ') w'→g'.den x u→Q (.panic [{ v:=u,recovered:=false }]) a w'):o.wpIn (wz rnd) 0 P a w next Q:=by
 refine⟨λ_ _=>trivial,?_⟩;rw[Qad hc];generalize (execOp a.eval o).run P w=res at ho;cases res with
 |halt x w=>
  cases x with
  |panic u=>obtain⟨g',x,σ',h0,h1,h2,h3⟩:=ho; exact hz g' x σ' u w h0 h1 h2 h3
  |_=>exact ho.elim
 |ok nx w=>
  cases nx with
  |value u=>obtain⟨g',x,σ',h0,h1,h2,h3⟩:=ho; exact hk g' x σ' u w h0 h1 h2 h3
  |skip=>obtain⟨g',σ',h0,h1,h2⟩:=ho; exact hk g' .junk σ' undef w h0 h1 h2 (.junk _ _)
  |enter f args=>
   refine⟨Qah,YY.2 (Calls.mono ho λe w' h=>?_)⟩;cases e with
   |returned u=>obtain⟨g',x,σ',h0,h1,h2,h3⟩:=h; exact hk g' x σ' u w' h0 h1 h2 h3
   |panicked ch=>obtain⟨u,g',x,σ',rfl,h0,h1,h2,h3⟩:=h; exact hz g' x σ' u w' h0 h1 h2 h3
   |outgrown=>exact h.elim
  |round l f tmps assign body=>
   refine⟨Qah,RoundIn.mono (show RoundIn (wz rnd) 0 P l f tmps assign body w _ from ho) λe w' h=>?_⟩;cases e with
   |returned u=>obtain⟨g',x,σ',h0,h1,h2,h3⟩:=h; exact hk g' x σ' u w' h0 h1 h2 h3
   |panicked ch=>obtain⟨u,g',x,σ',rfl,h0,h1,h2,h3⟩:=h; exact hz g' x σ' u w' h0 h1 h2 h3
   |outgrown=>exact h.elim
  |_=>exact ho.elim
theorem Ya8{fl:Bool}{n:Nat}{ops:Array Oper}{o:Oper}{m:MOper}(ok:OperOk P GL n ops o m){ρ:Frame}{σ:List ABlk}{lg:Log}{K:Frame→List ABlk→Log→Prop}(s:StepR fl P GL Z m ρ σ lg K){w0:World}{L:Ln}{g:Gm}{w:World}(r:Rep GL w0 L g (hp σ) w){a:Act}(d:DenF n g ρ a)
 (rnd:Option Nat)(next:Act→World→Prop)(Q:Exit→Act→World→Prop)(hn:∀a' w',Lift GL w0 L n g K a' w'→next a' w')(hz:∀g' x σ' u w',Z x σ'→g.Le g'→Rep GL w0 L g' (hp σ') w'→DenF n g' [] a→g'.den x u→Q (.panic [{ v:=u,recovered:=false }]) a w') :
  if Region.wanted o (yielded ops a.tmps) then o.wpIn (wz rnd) 0 P a w next Q else (∀f,o.about P w a.eval=some f→(wz rnd).fn f)∧next (a.put o.dst undef) w:=by
 obtain⟨os,hcomp,hos⟩:=ok.op;have hops:=Qav r d hos;cases s with
 |run cs ys v rd up σ' h1 h2 h3 h4 h5 h6=>
  rw[YIP ((Zm ok d h1).1 h2)];have hden:=Qag trivial h3 hops;have ho:=h4 o os hcomp w0 L g (hp σ) w a r hden (λ_ _=>rfl) (λ_ _=>rfl);rw[Yay up σ σ' h5] at ho;refine ho.upon hcomp rnd (λg' u w' hle hr hu=>hn _ _ ⟨g',_,σ',_,hle,hr,?_,h6⟩);rw[ok.dst];exact(d.mono hle).putF ok.lt hu
 |skip cs h1 h2 h3=>
  rw[YIN (by rw[(Zm ok d h1).2 h2]; simp)];refine⟨λ_ _=>trivial,hn _ _ ⟨g,_,σ,_,Gm.Le.refl g,r,?_,h3⟩⟩;rw[ok.dst];exact d.putF ok.lt (.junk _ _)
 |lazy cs ys v rd h1 h2 h3 h4=>
  by_cases hh:Hold cs
  ·rw[YIP ((Zm ok d h1).1 hh)];have hden:=Qag hh h2 hops;have ho:=h3 hh o os hcomp w0 L g (hp σ) w a r hden (λ_ _=>rfl) (λ_ h=>by cases h);refine ho.upon hcomp rnd (λg' u w' hle hr hu=>hn _ _ ⟨g',_,σ,_,hle,hr,?_,h4⟩);rw[ok.dst];exact(d.mono hle).putF ok.lt (.when _ _ _ _ (λ_=>hu) (λh=>(h hh).elim))
  ·rw[YIN (by rw[(Zm ok d h1).2 hh]; simp)];refine⟨λ_ _=>trivial,hn _ _ ⟨g,_,σ,_,Gm.Le.refl g,r,?_,h4⟩⟩;rw[ok.dst];exact d.putF ok.lt (.when _ _ _ _ (λh=>(hh h).elim) (λ_=>rfl))
 |pick cs x y z c p q v h1 hk hxs hx hy hz hv h8=>
  rw[hxs] at hops;have hcomp':=hcomp;rw[hk] at hcomp';generalize hop:o.op=op at hcomp';cases hcomp' with
  |pick oc oa ob=>
   obtain⟨d1,d2,d3,_⟩:=hops;by_cases hh:Hold cs
   ·rw[YIP ((Zm ok d h1).1 hh)];have e1:=Yt (Yan hh hx d1);have hres:g.den (.bool (bif c then p else q)) (if c then a.eval oa else a.eval ob):=by
     cases c
     ·exact Yan ⟨hh,rfl⟩ hz d3
     ·exact Yan ⟨hh,rfl⟩ hy d2
    have hrun:(execOp a.eval o).run P w=.ok (.value (if c then a.eval oa else a.eval ob)) w:=by
     simp_all [execOp,asBool]
    refine⟨λ_ _=>trivial,?_⟩;rw[Qad hcomp,hrun];refine hn _ _ ⟨g,_,σ,_,Gm.Le.refl g,r,?_,h8⟩;rw[ok.dst];rcases hv with rfl|⟨rfl,rfl⟩
    ·exact d.putF ok.lt (.when _ _ _ _ (λ_=>hres) (λh=>(h hh).elim))
    ·exact d.putF ok.lt hres
   ·rw[YIN (by rw[(Zm ok d h1).2 hh]; simp)];refine⟨λ_ _=>trivial,hn _ _ ⟨g,_,σ,_,Gm.Le.refl g,r,?_,h8⟩⟩;rw[ok.dst];rcases hv with rfl|⟨rfl,rfl⟩
    ·exact d.putF ok.lt (.when _ _ _ _ (λh=>(hh h).elim) (λ_=>rfl))
    ·exact(hh (by simp[Hold])).elim
 |rel cs ys R h0 h1 h2 h3 h4 h5=>
  rw[YIP ((Zm ok d h1).1 h2)];have hden:=Qag trivial h3 hops;refine(h4 o os hcomp w0 L g w a r hden).upon hcomp rnd (λg' x σ' u w' hR hle hr hu=>hn _ _ ⟨g',_,σ',_,hle,hr,?_,h5 x σ' hR⟩) (λg' x σ' u w' hZ hle hr hu=>hz g' x σ' u w' hZ hle hr (d.mono hle).nil hu);rw[ok.dst];exact(d.mono hle).putF ok.lt hu
theorem Yaa{fl:Bool}{n:Nat}{ops:Array Oper}{w0:World}{L:Ln}(rnd:Option Nat)(Q:Exit→Act→World→Prop)(K:Frame→List ABlk→Log→Prop):∀(ms:List MOper) (i:Nat) (ρ:Frame) (σ:List ABlk) (lg:Log) (g:Gm) (a:Act) (w:World),
  (∀(j:Nat) (m:MOper),ms[j]?=some m→∃o,ops[i+j]?=some o∧OperOk P GL n ops o m)→AwpR fl P GL Z ms ρ σ lg K→Rep GL w0 L g (hp σ) w→DenF n g ρ a →
  (∀a' w',Lift GL w0 L n g K a' w'→Q .normal a' w')→(∀g' x σ' u a' w',Z x σ'→g.Le g'→Rep GL w0 L g' (hp σ') w'→DenF n g' [] a'→g'.den x u→Q (.panic [{ v:=u,recovered:=false }]) a' w')→wpOpsIn (wz rnd) 0 P ops Q (List.range' i ms.length) a w
 |[],i,ρ,σ,lg,g,a,w,_,hw,r,d,hq,_=>hq a w ⟨g,ρ,σ,lg,Gm.Le.refl g,r,d,hw⟩
 |m::ms,i,ρ,σ,lg,g,a,w,hok,hw,r,d,hq,hz=>by
  obtain⟨o,ho,ok⟩:=hok 0 m rfl;rw[Nat.add_zero] at ho;simp only[List.length_cons,List.range'_succ,wpOpsIn,ho];refine Ya8 ok hw r d rnd _ Q (λa' w' ⟨g',ρ',σ',lg',hle,hr,hd,hk⟩=>?_) (λg' x σ' u w' q1 q2 q3 q4 q5=>hz g' x σ' u a w' q1 q2 q3 q4 q5);exact Yaa rnd Q K ms (i + 1) ρ' σ' lg' g' a' w' (λj m' e=>by
   have:=hok (j+1) m' (by simpa using e)
   rwa [show i + (j + 1)=i + 1 + j by omega] at this) hk hr hd (λa2 w2 ⟨g2,ρ2,σ2,lg2,hle2,hr2,hd2,hk2⟩=>hq a2 w2 ⟨g2,ρ2,σ2,lg2,hle.trans hle2,hr2,hd2,hk2⟩) (λg2 x σ2 u a2 w2 q1 q2=>hz g2 x σ2 u a2 w2 q1 (hle.trans q2))
end
end Go.Ah
end
section
namespace Go.Ah
section
variable {P:Program} {GL:Globs} {Z:PZ}
theorem Xat{σ:List ABlk}{b:Nat}{row:List AVal}(h:hget σ b=.box row):hp σ b=some (.box row):=XW h (by simp)
theorem Qat{σ:List ABlk}{b:Nat}{es:List (AVal×AVal)}(h:hget σ b=.map es):hp σ b=some (.map es):=XW h (by simp)
theorem Qc{b:Bool}{x:SRes}{v:AVal}{rd:List Nat}{up:List (Nat×ABlk)}(h:(bif b then x else .stop)=.ok v rd up):b=true∧x=.ok v rd up:=by
 grind
theorem Yam{k:MK}{xs:List AVal}{σ:List ABlk}{v:AVal}{rd:List Nat}{up:List (Nat×ABlk)}(h:mstep k xs σ=.ok v rd up):OpSem P GL k xs (hp σ) v rd up:=by
 cases k<;>simp only[mstep,Qcx,Xak,ZC,Xaw,XN,XE,QD,Qaj,ZX,Qj,Zq,YR,XaC,YbI,QQ,Zy,QL,ZE,Ye,XR,Xs,Qaa,Zv,QU,YG,Zab,Xaj,Yak,Zak,QW,YC,Qbu] at h
 case mv=>split at h<;>cases h; exact XcA _ _
 case pick=>split at h<;>cases h; exact QcS _ _ _ _
 case alloc z=>split at h<;>cases h; exact Xcy _ _ _ (Z6 σ)
 case box=>
  split at h
  ·split at h
   ·rename_i hc; cases h; exact Zc4 _ _ hc _ _ (Z6 σ)
   ·cases h
  ·cases h
 case build z ps=>
  split at h
  ·rename_i hf; cases h; exact Qcy _ _ _ _ hf _
  ·cases h
 case buildS sz n z ps=>
  split at h
  ·rename_i hf;split at h
   ·rename_i hc; cases h; exact Qb9 _ _ _ _ _ _ _ hf hc _ _ (Z6 σ)
   ·cases h
  ·cases h
 case buildS0 sz=>split at h<;>cases h; exact ZbJ _ _
 case load agg n=>
  split at h
  ·split at h
   ·rename_i hb;split at h
    ·rename_i hv; cases h; exact Zbx _ _ _ _ _ _ _ (Xat hb) hv
    ·cases h
   ·cases h
  ·split at h
   ·rename_i hv; cases h; exact Ybx _ _ _ _ _ _ hv
   ·cases h
  ·cases h
 case store n=>
  split at h
  ·split at h
   ·rename_i hb;split at h
    ·rename_i hc
     replace h:=Qc h; obtain⟨hbq,h⟩:=h
     split at h
     ·rename_i hs; cases h; exact ZcB _ _ _ _ _ _ _ _ (Xat hb) hc (YNB hbq) hs
     ·cases h
    ·cases h
   ·cases h
  ·cases h
 case nilCheck=>
  split at h<;>cases h
  ·exact YN _ (.inl ⟨_,_,rfl⟩) _
  ·exact YN _ (.inr (.inl ⟨_,_,_,rfl⟩)) _
  ·exact YN _ (.inr (.inr (.inl ⟨_,_,rfl⟩))) _
  ·exact YN _ (.inr (.inr (.inr (.inl ⟨_,_,_,rfl⟩)))) _
  ·exact YN _ (.inr (.inr (.inr (.inr ⟨_,_,rfl⟩)))) _
 case bin op ib=>
  split at h
  ·rename_i k a k' b;split at h
   ·rename_i hv; cases h;cases hk:ikEq k k'<;>rw[hk] at hv
    ·cases hv
    ·have:=YQ hk;subst this;exact YcQ _ _ _ _ _ _ hv _
   ·split at h
    ·rename_i hv; cases h; exact XcQ _ _ _ _ _ _ _ hv _
    ·cases h
  ·split at h
   ·cases h; exact ZbX _ _ _ _ false rfl _
   ·cases h; exact ZbX _ _ _ _ true rfl _
   ·replace h:=Qc h; obtain⟨hk,h⟩:=h
    cases h; exact ZcQ _ _ _ hk _
   ·cases h
  ·replace h:=Qc h; obtain⟨hk,h⟩:=h
   subst hk;split at h<;>cases h
   ·exact QbW _ _ _ false rfl _
   ·exact QbW _ _ _ true rfl _
  ·cases h
 case eqNil c neq left=>
  split at h
  ·split at h
   ·rename_i hb; cases h; exact Xcz _ _ _ _ _ _ hb _
   ·cases h
  ·cases h
 case eqS neq ls=>
  split at h
  ·split at h
   ·rename_i hb; cases h; exact Yc4 _ _ _ _ _ hb _
   ·cases h
  ·cases h
 case un op=>
  split at h
  ·split at h<;>cases h; exact Qcc _ _
  ·split at h<;>cases h
   ·exact Xcc _ _ _
   ·exact Zcd _ _ _
  ·cases h
 case conv k=>split at h<;>cases h; exact ZcR _ _ _ _
 case mkIface t=>split at h<;>cases h; exact QbJ _ _ _
 case mkFunc fn n=>
  split at h
  ·rename_i ht;cases h;obtain⟨t1,t2,t3⟩:=XaD ht;rename_i a;have hx:xs=a++dropN n xs:=by
    rw[Zat];have:a=xs.take n:=by
     apply List.ext_getElem?;intro i;by_cases hi:i<n
     ·rw[t3 i hi,List.getElem?_take_of_lt hi]
     ·rw[List.getElem?_eq_none (by omega),List.getElem?_eq_none (by simp; omega)]
    rw[this,List.take_append_drop]
   have:=Ycb (P:=P) (GL:=GL) fn n a (dropN n xs) t1 (hp σ)
   rwa [←hx] at this
  ·cases h
 case makeMap=>split at h<;>cases h; exact XbJ _ _ (Z6 σ)
 case fieldAddr off=>
  split at h<;>cases h
  ·exact Q4 _ _ _ (.inl ⟨_,_,rfl,rfl⟩) _
  ·exact Q4 _ _ _ (.inr (.inl ⟨_,_,_,rfl,rfl⟩)) _
  ·exact Q4 _ _ _ (.inr (.inr ⟨_,_,rfl,rfl⟩)) _
 case field agg off n=>
  split at h
  ·split at h
   ·rename_i hv; cases h; exact Qcz _ _ _ _ _ hv _
   ·cases h
  ·cases h
 case idxAddrA len esz=>
  split at h
  ·replace h:=Qc h; obtain⟨hb,h⟩:=h
   cases h; exact Xab _ _ _ _ _ _ (YNL hb) (.inl ⟨_,_,rfl,rfl⟩) _
  ·replace h:=Qc h; obtain⟨hb,h⟩:=h
   cases h; exact Xab _ _ _ _ _ _ (YNL hb) (.inr (.inl ⟨_,_,_,rfl,rfl⟩)) _
  ·replace h:=Qc h; obtain⟨hb,h⟩:=h
   cases h; exact Xab _ _ _ _ _ _ (YNL hb) (.inr (.inr ⟨_,_,rfl,rfl⟩)) _
  ·cases h
 case idxA agg len esz=>
  split at h
  ·replace h:=Qc h; obtain⟨hb,h⟩:=h
   split at h
   ·rename_i hv; cases h; exact XcR _ _ _ _ _ _ _ (YNL hb) hv _
   ·cases h
  ·cases h
 case extract i=>
  split at h
  ·split at h
   ·rename_i hv; cases h; rw[YU] at hv; exact YbJ _ _ _ hv _
   ·cases h
  ·cases h
 case lenS=>
  split at h<;>cases h
  ·exact ZaL _ _ (.inl ⟨rfl,rfl⟩) _
  ·exact ZaL _ _ (.inr (.inl ⟨rfl,rfl⟩)) _
  ·exact ZaL _ _ (.inr (.inr (.inl ⟨_,_,_,_,rfl,rfl⟩))) _
  ·exact ZaL _ _ (.inr (.inr (.inr ⟨_,_,_,_,rfl,rfl⟩))) _
 case lenStr=>split at h<;>cases h; exact Xca _ _
 case lenA n=>split at h<;>cases h; exact QcR _ _ _
 case lenM=>
  split at h
  ·cases h; exact Ybw _
  ·split at h
   ·rename_i hb; cases h; exact Xbw _ _ _ (Qat hb)
   ·cases h
  ·cases h; exact Qbw _ _
  ·cases h
 case min2=>split at h<;>cases h; exact XcS _ _ _ _ _
 case max2=>split at h<;>cases h; exact YcS _ _ _ _ _
 case range=>split at h<;>cases h; exact QcA _ _ _ (Z6 σ)
 case assertT t ok z=>
  split at h
  ·rename_i u v0;cases hb:Nat.beq u t with
   |true=>
    rw[hb] at h;have:=YNB hb;subst this;cases h; exact(Xam _ _ _ _ 0 _).1
   |false=>
    rw[hb] at h
    replace h:=Qc h; obtain⟨hok,h⟩:=h
    subst hok;cases h;exact(Xam _ true _ _ _ _).2.1 (λe=>by rw[e,Nat.beq_refl] at hb; cases hb)
  ·replace h:=Qc h; obtain⟨hok,h⟩:=h
   subst hok;cases h;exact(Xam _ true _ .junk 0 _).2.2
  ·cases h
 case assertI tbl=>
  split at h
  ·replace h:=Qc h; obtain⟨hok,h⟩:=h
   cases h; exact QbI _ _ _ _ (Zct hok)
  ·cases h; exact Qbv _ _
  ·cases h
 all_goals cases h
end
def Zac{α β:Type}:List α→(List α→β)→β
 |[],k=>k []
 |x::l,k=>Zac l λl=>k (x::l)
theorem Yac{α β:Type}:∀(l:List α) (k:List α→β),Zac l k=k l
 |[],_=>rfl
 |x::l,k=>Yac l λl=>k (x::l)
abbrev Cons:=List (List (Bool×Bool)×(Bool×Bool))
def StepOk(P:Program)(GL:Globs)(step:MK→List AVal→List ABlk→SRes):Prop:=∀ {k:MK} {xs:List AVal} {σ:List ABlk} {v:AVal} {rd:List Nat} {up:List (Nat×ABlk)},step k xs σ=.ok v rd up→OpSem P GL k xs (hp σ) v rd up
end Go.Ah
end
section
namespace Go.Ah
inductive MCode where
 |skip
 |region (id:Nat) (ms:List MOper) (draw:Option (List (List Nat)))
 |seq (a b:MCode)
 |cond (c:Opd) (a b:MCode)
 |block (id:Nat) (a:MCode)
 |loop (a:MCode)
 |exit (id:Nat)
 |scope (a:MCode)
 |label (l:Nat)
 |ret
 |rangeF (d:Opd) (id:Nat) (ps:List Nat) (x y:MCode)
 deriving Inhabited
def MCode.norf:MCode→Bool
 |.seq a b | .cond _ a b=>a.norf&&b.norf
 |.block _ a | .loop a | .scope a=>a.norf
 |.rangeF ..=>false
 |_=>true
def Qp(lg:Log)(i:Nat):List Nat×List Nat:=(lg[i]?).getD ([],[])
def disj:List Nat→List Nat→Bool
 |[],_=>true
 |x::a,b=>!(b.contains x)&&disj a b
def Yj(hd:List (List Nat))(i:Nat):List Nat:=(hd[i]?).getD []
def apart2(p q:List Nat×List Nat):Bool:=disj p.1 q.2&&(disj p.2 q.1&&disj p.2 q.2)
def Xj(h:List Nat)(q:List Nat×List Nat):Nat→Log→Bool
 |_,[]=>true
 |i,p::r=>(h.contains i||apart2 p q)&&Xj h q (i+1) r
def Xf(hd:List (List Nat))(lg:Log):Bool:=
 (List.range lg.length).all λj=>Xj (Yj hd j) (Qp lg j) 0 (lg.take j)
def waits(o:Oper):List Nat:=(o.after.toList.filter (Region.binds .any)).map (·.on)
def usesT(m:MOper):List Nat:=(m.xs.filterMap fun | .t n=>some n | .c _=>none)++(match m.guard with|some (s,_)=>[s]|none=>[])
def defsT(m:MOper):List Nat:=m.dst.toList
def Qas(ops:List Oper)(ms:List MOper)(hd:List (List Nat)):Bool:=
 let idx:=List.range ms.length
 Nat.beq ops.length ms.length&&Nat.beq hd.length ms.length &&
 (idx.all λj=>(waits (ops.getD j default)).all λi=>Nat.blt i j) &&
 (idx.all λj=>(Yj hd j).all λi=>Nat.blt i j&&((waits (ops.getD j default)).contains i||(waits (ops.getD j default)).any λk=>(Yj hd k).contains i)) &&
 (idx.all λj=>(List.range j).all λi=>
  let a:=ms.getD i default
  let b:=ms.getD j default
  (Yj hd j).contains i || (disj (defsT a) (usesT b) && disj (defsT a) (defsT b) && disj (usesT a) (defsT b)))
inductive CodeOk (P:Program) (GL:Globs) (n:Nat):Code→MCode→Prop
 |skip:CodeOk P GL n .skip .skip
 |region (id:Nat) (ops:Array Oper) (ms:List MOper):ops.size=ms.length→(∀(j:Nat) (m:MOper),ms[j]?=some m→∃o,ops[j]?=some o∧OperOk P GL n ops o m)→CodeOk P GL n (.region id ops false) (.region id ms none)
 |draw (id:Nat) (ops:Array Oper) (ms:List MOper) (hd:List (List Nat)):ops.size=ms.length→(∀(j:Nat) (m:MOper),ms[j]?=some m→∃o,ops[j]?=some o∧OperOk P GL n ops o m)→Qas ops.toList ms hd=true →
   CodeOk P GL n (.region id ops true) (.region id ms (some hd))
 |seq (a b:Code) (x y:MCode):CodeOk P GL n a x→CodeOk P GL n b y→CodeOk P GL n (.seq a b) (.seq x y)
 |cond (c:Operand) (d:Opd) (a b:Code) (x y:MCode):OpdOk GL c d→CodeOk P GL n a x→CodeOk P GL n b y→CodeOk P GL n (.cond c a b) (.cond d x y)
 |block (id:Nat) (a:Code) (x:MCode):CodeOk P GL n a x→CodeOk P GL n (.block id a) (.block id x)
 |loop (a:Code) (x:MCode):CodeOk P GL n a x→CodeOk P GL n (.loop a) (.loop x)
 |exit (id:Nat):CodeOk P GL n (.exit id) (.exit id)
 |scope (a:Code) (x:MCode):CodeOk P GL n a x→CodeOk P GL n (.scope a) (.scope x)
 |label (l:Nat):CodeOk P GL n (.label l) (.label l)
 |ret:CodeOk P GL n .ret .ret
 |rangeF (f:Operand) (d:Opd) (ps:Array Tmp) (a b:Code) (x y:MCode) (id:Nat):OpdOk GL f d→CodeOk P GL n a x→CodeOk P GL n b y→lpsOf P id=some ⟨n,ps,a,b⟩→(∀t∈ps.toList,t<n)→CodeOk P GL n (.rangeFunc f ps a b) (.rangeF d id ps.toList x y)
 |rf (f:Operand) (ps:Array Tmp) (a b:Code):CodeOk P GL n (.rangeFunc f ps a b) (.cond (.c .junk) .skip .skip)
inductive AExit where
 |normal
 |exit (id:Nat)
 |ret
abbrev APost:=AExit→Frame→List ABlk→Prop
def LiftQ(GL:Globs)(Z:PZ)(w0:World)(L:Ln)(n:Nat)(g:Gm)(Q:APost):Exit→Act→World→Prop
 |.normal,a,w=>∃g' ρ σ,g.LeK g'∧Rep GL w0 L g' (hp σ) w∧DenF n g' ρ a∧Q .normal ρ σ
 |.exit id,a,w=>∃g' ρ σ,g.LeK g'∧Rep GL w0 L g' (hp σ) w∧DenF n g' ρ a∧Q (.exit id) ρ σ
 |.ret,a,w=>∃g' ρ σ,g.LeK g'∧Rep GL w0 L g' (hp σ) w∧DenF n g' ρ a∧Q .ret ρ σ
 |.panic ch,a,w=>∃g' x σ u,ch=[{ v:=u,recovered:=false }]∧g.LeK g'∧Rep GL w0 L g' (hp σ) w∧DenF n g' [] a∧g'.den x u∧Z x σ
 |_,_,_=>False
theorem LiftQ.mono{GL:Globs}{Z:PZ}{w0:World}{L:Ln}{n:Nat}{g g':Gm}(hg:g.LeK g'){Q Q':APost}(h:∀e ρ σ,Q e ρ σ→Q' e ρ σ):∀(e:Exit) (a:Act) (w:World),LiftQ GL Z w0 L n g' Q e a w→LiftQ GL Z w0 L n g Q' e a w:=by
 intro e a w hl;cases e<;>first
  |exact hl.elim
  |(obtain⟨g2,ρ,σ,h1,h2,h3,h4⟩:=hl; exact⟨g2,ρ,σ,hg.trans h1,h2,h3,h _ _ _ h4⟩)
  |(obtain⟨g2,x,σ,u,h0,h1,h2⟩:=hl; exact⟨g2,x,σ,u,h0,hg.trans h1,h2⟩)
def Awp(P:Program)(GL:Globs)(Z:PZ)(n:Nat)(m:MCode)(ρ:Frame)(σ:List ABlk)(Q:APost):Prop:=
 ∀c,CodeOk P GL n c m→∀rnd:Option Nat,(rnd=none∨m.norf=true)→∀(w0:World) (L:Ln) (g:Gm) (a:Act) (w:World),Rep GL w0 L g (hp σ) w→DenF n g ρ a→c.wpIn (wz rnd) 0 P (LiftQ GL Z w0 L n g Q) a w
def APost.andThen(k:Frame→List ABlk→Prop)(Q:APost):APost
 |.normal,ρ,σ=>k ρ σ
 |e,ρ,σ=>Q e ρ σ
def APost.inBlock(id:Nat)(Q:APost):APost
 |.exit id',ρ,σ=>if id'=id then Q .normal ρ σ else Q (.exit id') ρ σ
 |e,ρ,σ=>Q e ρ σ
theorem YJ{P:Program}{b:Go.Frame}{a:Act}{k:List Item}{cs:List Go.Frame}{w:World}{c:Code}:step P (lone (b.atR a (.code (.scope c)::k)) cs w)=.next (lone (b.atR a (.code c::.inScope c::k)) cs w):=
 step_lone_go (by simp[stepG,stepG.exec,Go.Frame.atR])
theorem Xbi{P:Program}{b:Go.Frame}{a:Act}{k:List Item}{cs:List Go.Frame}{w:World}{c:Code}:step P (lone (b.atR a (.inScope c::k)) cs w)=.next (lone (b.atR a k) cs w):=
 step_lone_go (by simp[stepG,stepG.exec,Go.Frame.atR])
theorem Xan{F:Fence}{n:Nat}{P:Program}{Q:Exit→Act→World→Prop}{a:Act}{w:World}{c:Code}(h:c.wpIn F n P (Exit.noGoto Q) a w):(Code.scope c).wpIn F n P Q a w:=by
 intro b k cs hro hb hr;have h0:(lone (b.atR a (.code (.scope c)::k)) cs w).fenced P F:=fenced_calm hb hr rfl;obtain⟨e,a₁,w₁,hq,harr⟩:=h b (.inScope c::k) cs hro hb hr;cases e with
 |normal=>exact⟨.normal,a₁,w₁,hq,.head h0 YJ (StepsIn.trans harr (.one (fenced_calm (fr:=b.atR a₁ (.inScope c::k)) hb hr rfl) Xbi))⟩
 |exit id=>
  have hx:exitTo id (.inScope c::k)=exitTo id k:=by simp[exitTo]
  exact⟨.exit id,a₁,w₁,hq,λk' hk=>.head h0 YJ (harr.1 k' (by rw[hx]; exact hk)),λhr' hk=>let ⟨k₁,h1,h2⟩:=harr.2 hr' (by rw[hx]; exact hk); ⟨k₁,h1,.head h0 YJ h2⟩⟩
 |goto l=>exact hq.elim
 |ret=>exact⟨_,a₁,w₁,hq,.of_steps (.one h0 YJ) harr⟩
 |panic ch=>exact⟨_,a₁,w₁,hq,.of_steps (.one h0 YJ) harr⟩
 |outgrown=>exact⟨_,a₁,w₁,hq,.of_steps (.one h0 YJ) harr⟩
section
variable {P:Program} {GL:Globs} {Z:PZ} {n:Nat} {ρ:Frame} {σ:List ABlk} {Q:APost}
theorem Awp.mono{m:MCode}{Q':APost}(h:Awp P GL Z n m ρ σ Q)(hq:∀e ρ σ,Q e ρ σ→Q' e ρ σ):Awp P GL Z n m ρ σ Q':=
 λc hc rnd hr w0 L g a w r d=>wpIn_mono (h c hc rnd hr w0 L g a w r d) (LiftQ.mono (Gm.LeK.refl g) hq)
theorem YcH(h:Q .normal ρ σ):Awp P GL Z n .skip ρ σ Q:=by
 intro c hc rnd hr w0 L g a w r d;cases hc with
 |skip=>exact wpIn_skip ⟨g,ρ,σ,Gm.LeK.refl g,r,d,h⟩
theorem Qci{l:Nat}(h:Q .normal ρ σ):Awp P GL Z n (.label l) ρ σ Q:=by
 intro c hc rnd hr w0 L g a w r d;cases hc with
 |label=>exact wpIn_label ⟨g,ρ,σ,Gm.LeK.refl g,r,d,h⟩
theorem ZcH{id:Nat}(h:Q (.exit id) ρ σ):Awp P GL Z n (.exit id) ρ σ Q:=by
 intro c hc rnd hr w0 L g a w r d;cases hc with
 |exit=>exact wpIn_exit ⟨g,ρ,σ,Gm.LeK.refl g,r,d,h⟩
theorem XcY(h:Q .ret ρ σ):Awp P GL Z n .ret ρ σ Q:=by
 intro c hc rnd hr w0 L g a w r d;cases hc with
 |ret=>exact wpIn_ret ⟨g,ρ,σ,Gm.LeK.refl g,r,d,h⟩
theorem QcY{x y:MCode}(h:Awp P GL Z n x ρ σ (APost.andThen (λρ σ=>Awp P GL Z n y ρ σ Q) Q)):Awp P GL Z n (.seq x y) ρ σ Q:=by
 intro c hc rnd hr w0 L g a w r d;cases hc with
 |seq c1 c2 _ _ h1 h2=>
  refine wpIn_seq (wpIn_mono (h c1 h1 rnd (hr.imp id λq=>(by simp only[MCode.norf,Bool.and_eq_true] at q; exact q.1)) w0 L g a w r d) (λe a' w' hl=>?_));cases e with
  |normal=>
   obtain⟨g',ρ',σ',k1,k2,k3,k4⟩:=hl;exact wpIn_mono (k4 c2 h2 rnd (hr.imp id λq=>(by simp only[MCode.norf,Bool.and_eq_true] at q; exact q.2)) w0 L g' a' w' k2 k3) (LiftQ.mono k1 (λ_ _ _ q=>q))
  |_=>exact hl
theorem QcG{o:Opd}{b:Bool}{x y:MCode}(ho:ev ρ o=.bool b)(ht:b=true→Awp P GL Z n x ρ σ Q)(hf:b=false→Awp P GL Z n y ρ σ Q):Awp P GL Z n (.cond o x y) ρ σ Q:=by
 intro c hc rnd hr w0 L g a w r d;cases hc with
 |cond oc _ c1 c2 _ _ hop h1 h2=>
  have hd:=DenF.opd r d hop;rw[ho] at hd;exact wpIn_cond_split (Yt hd) (λe=>ht e c1 h1 rnd (hr.imp id λq=>(by simp only[MCode.norf,Bool.and_eq_true] at q; exact q.1)) w0 L g a w r d) (λe=>hf e c2 h2 rnd (hr.imp id λq=>(by simp only[MCode.norf,Bool.and_eq_true] at q; exact q.2)) w0 L g a w r d)
 |rf=>cases ho
theorem Xci{id:Nat}{x:MCode}(h:Awp P GL Z n x ρ σ (APost.inBlock id Q)):Awp P GL Z n (.block id x) ρ σ Q:=by
 intro c hc rnd hr w0 L g a w r d;cases hc with
 |block _ c1 _ h1=>
  refine wpIn_block (wpIn_mono (h c1 h1 rnd hr w0 L g a w r d) (λe a' w' hl=>?_));cases e with
  |exit id'=>
   obtain⟨g',ρ',σ',k1,k2,k3,k4⟩:=hl;simp only[Exit.inBlock];simp only[APost.inBlock] at k4;split
   ·rename_i e; rw[YIP e] at k4; exact⟨g',ρ',σ',k1,k2,k3,k4⟩
   ·rename_i e; rw[YIN e] at k4; exact⟨g',ρ',σ',k1,k2,k3,k4⟩
  |_=>exact hl
theorem Zcj{x:MCode}(h:Awp P GL Z n x ρ σ Q):Awp P GL Z n (.scope x) ρ σ Q:=by
 intro c hc rnd hr w0 L g a w r d;cases hc with
 |scope c1 _ h1=>
  refine Xan (wpIn_mono (h c1 h1 rnd hr w0 L g a w r d) (λe a' w' hl=>?_));cases e with
  |goto l=>exact hl.elim
  |_=>exact hl
theorem Zb5{id:Nat}{ms:List MOper}(h:AwpR false P GL Z ms ρ σ [] (λρ' σ' _=>Q .normal ρ' σ')):Awp P GL Z n (.region id ms none) ρ σ Q:=by
 intro c hc rnd hr w0 L g a w r d;cases hc with
 |region _ ops _ hsz hok=>
  refine wpIn_region ?_;rw[List.range_eq_range',hsz];refine Yaa (n:=n) (w0:=w0) (L:=L) rnd _ (λρ' σ' _=>Q .normal ρ' σ') ms 0 ρ σ [] g a w (λj m e=>by simpa using hok j m e) h r d (λa' w' ⟨g',ρ',σ',lg',k1,k2,k3,k4⟩=>⟨g',ρ',σ',k1.toK,k2,k3,k4⟩) (λg' x σ' u a' w' q1 q2 q3 q4 q5=>⟨g',x,σ',u,rfl,q2.toK,q3,q4,q5,q1⟩)
def FLe(ρ ρ':Frame):Prop:=∀t,fget ρ t=fget ρ' t∨fget ρ t=.junk
theorem DenF.weak{g:Gm}{ρ ρ':Frame}{a:Act}(h:DenF n g ρ' a)(hl:FLe ρ ρ'):DenF n g ρ a:=
 ⟨h.size,λt=>by
  rcases hl t with e|e
  ·rw[e]; exact h.slot t
  ·rw[e]; exact .junk _ _,h.defers⟩
theorem XcH{m:MCode}{ρ':Frame}(hl:FLe ρ' ρ)(h:Awp P GL Z n m ρ' σ Q):Awp P GL Z n m ρ σ Q:=
 λc hc rnd hr w0 L g a w r d=>h c hc rnd hr w0 L g a w r (d.weak hl)
def Qab:Frame→Frame→Prop
 |[],_=>True
 |(t,v)::r,ρ=>fget ρ t=v∧Qab r ρ
theorem Qab.le:∀ {r ρ:Frame},Qab r ρ→FLe r ρ
 |[],_,_,t=>.inr rfl
 |(s,v)::r,ρ,⟨h1,h2⟩,t=>by
  rw[ZA];by_cases e:t=s
  ·simp_all
  ·rw[YIN e]; exact Qab.le h2 t
end
end Go.Ah
end
section
namespace Go.Ah
inductive RV where
 |t (n:Nat)
 |c (s:Nat) (agg:Bool) (n:Nat)
 deriving Inhabited
structure MFn where
 np:Nat
 n:Nat
 body:MCode
 rets:List RV
 deriving Inhabited
inductive RvOk (P:Program):ResultVar→RV→Prop
 |tmp (t:Nat):RvOk P (.tmp t) (.t t)
 |cell (s:Nat) (t:TypeId) (agg:Bool) (n:Nat):isAgg? P t=some agg→size? P t=some n→RvOk P (.cell s t) (.c s agg n)
structure FnOk (P:Program) (GL:Globs) (f:FuncId) (F:MFn):Prop where
 ok:∃fn c,P.funcs[f]?=some fn∧fn.body=some c∧fn.ntmps=F.n∧CodeOk P GL F.n c F.body∧All2 (RvOk P) fn.results.toList F.rets
 np:F.np≤F.n
def ret1(ρ:Frame)(σ:List ABlk):RV→Option AVal
 |.t n=>some (fget ρ n)
 |.c s agg n=>match fget ρ s with
  |.bptr b j=>match hget σ b with
   |.box row=>partA agg j n row
   |_=>none
  |_=>none
def retL(ρ:Frame)(σ:List ABlk):List RV→Option (List AVal)
 |[]=>some []
 |r::rs=>match ret1 ρ σ r,retL ρ σ rs with
  |some v,some vs=>some (v::vs)
  |_,_=>none
def retOf:List AVal→AVal
 |[v]=>v
 |vs=>.tup vs
def retV(rs:List RV)(ρ:Frame)(σ:List ABlk):Option AVal:=
 match retL ρ σ rs with
 |some vs=>some (retOf vs)
 |none=>none
def Y8:Nat→List AVal→Frame
 |_,[]=>[]
 |i,x::xs=>(i,x)::Y8 (i+1) xs
def frame0(xs:List AVal):Frame:=Y8 0 xs
theorem YW:∀(xs:List AVal) (i t:Nat),fget (Y8 i xs) t=if i≤t then (xs[t-i]?).getD .junk else .junk
 |[],i,t=>by simp[Y8,fget]
 |x::xs,i,t=>by
  simp only[Y8,ZA];by_cases h:t=i
  ·subst h; simp
  ·rw[YIN h,YW xs (i+1) t]
   grind
section
variable {P:Program} {GL:Globs} {Z:PZ}
theorem ZaA{g:Gm}(hmk:g.dk=[]){xs:List AVal}{vs:List Value}(d:DenL g xs vs){n:Nat}(hn:xs.length≤n):DenF n g (frame0 xs) { tmps:=vs.toArray++Array.replicate (n-vs.toArray.size) undef,defers:=[] }:=by
 have hl:=d.length;refine⟨by simp; omega,λt=>?_,by simp[hmk]⟩;unfold frame0;rw[YW];rw[YIP (Nat.zero_le t),Nat.sub_zero];by_cases ht:t<xs.length
 ·have hx:xs[t]?=some xs[t]:=by simp[ht]
  have hv:vs[t]?=some (vs[t]'(by omega)):=by simp[show t<vs.length by omega]
  rw[hx];have:(vs.toArray++Array.replicate (n-vs.toArray.size) undef).getD t undef=vs[t]'(by omega):=by
   rw[Array.getD_eq_getD_getElem?,Array.getElem?_append_left (by grind)];simp[show t<vs.length by omega]
  rw[this];exact d.get t _ _ hx hv
 ·rw[List.getElem?_eq_none (by omega)];exact .junk _ _
def Ybt(a:Act)(r:ResultVar):Sem Value:=match r with
 |.tmp t=>pure (a.tmps.getD t undef)
 |.cell s t=>do loadVar t (←asAddr (a.tmps.getD s undef))
theorem Xcw{n:Nat}{w0:World}{L:Ln}{g:Gm}{ρ:Frame}{σ:List ABlk}{a:Act}{w:World}(r:Rep GL w0 L g (hp σ) w)(d:DenF n g ρ a):∀ {rs:List ResultVar} {qs:List RV} {vs:List AVal},All2 (RvOk P) rs qs→retL ρ σ qs=some vs →
  ∃us:List Value,(rs.mapM (Ybt a)).run P w=.ok us w∧DenL g vs us
 |[],[],vs,_,h=>by simp only[retL] at h; cases h; exact⟨[],rfl,trivial⟩
 |rv::rs,q::qs,vs,⟨h1,h2⟩,h=>by
  simp only[retL] at h;cases e1:ret1 ρ σ q with
  |none=>simp[e1] at h
  |some v=>
   cases e2:retL ρ σ qs with
   |none=>simp[e1,e2] at h
   |some vs'=>
    simp only[e1,e2] at h; cases h;obtain⟨us,k1,k2⟩:=Xcw r d h2 e2;cases h1 with
    |tmp t=>
     simp only[ret1] at e1; cases e1;refine⟨a.tmps.getD t undef::us,?_,d.slot t,k2⟩;simp_all [Ybt]
    |cell s t agg m ha hm=>
     simp only[ret1] at e1;have hs:=d.slot s;split at e1
     ·rename_i b j hb;rw[hb] at hs;split at e1
      ·rename_i row hrow;have hb':=Xat hrow;generalize hu:a.tmps.getD s undef=u0 at hs;cases hs with
       |bptr _ _ _ cb ec=>
       cases hvirt:cb.virt with
       |true=>have:=r.hollow b _ cb hb' rfl ec hvirt; cases this
       |false=>
       obtain⟨_,_,o',ho',arr,T,rfl,hsz,hden⟩:=r.own b _ cb hb' rfl ec hvirt;obtain⟨p1,p2⟩:=Zaa (g:=g) e1 (by omega) hden;obtain⟨l1,l2⟩:=X4 (P:=P) ha hm (T:=T) (fr:=(0,0)) (QE ho') j;have:∃u,(loadVar t ⟨cb.blk,j,none⟩).run P w=.ok u w∧g.den v u:=by
        cases agg<;>grind
       obtain⟨u,q1,q2⟩:=this;refine⟨u::us,?_,q2,k2⟩;simp_all [Ybt,asAddr]
      ·cases e1
     ·cases e1
theorem XU{n:Nat}{w0:World}{L:Ln}{g:Gm}{ρ:Frame}{σ:List ABlk}{a:Act}{w:World}(r:Rep GL w0 L g (hp σ) w)(d:DenF n g ρ a){fn:Func}{qs:List RV}{v:AVal}(h:All2 (RvOk P) fn.results.toList qs)(hv:retV qs ρ σ=some v) :
  ∃u,(results fn a.tmps).run P w=.ok u w∧g.den v u:=by
 unfold retV at hv;cases hl:retL ρ σ qs with
 |none=>simp[hl] at hv
 |some vs=>
  simp only[hl] at hv; cases hv;obtain⟨us,k1,k2⟩:=Xcw (P:=P) r d h hl;have hm:(fn.results.mapM (Ybt a)).run P w=.ok us.toArray w:=by
   simp_all [Array.mapM_eq_mapM_toList]
  have hlen:=k2.length;refine⟨if h:us.toArray.size=1 then us.toArray[0] else .tuple us.toArray,?_,?_⟩
  ·unfold results;rw[Sem.run_bind];refine Eq.trans (congrArg (λr=>Result.andThen r _) (Eq.trans (?_:_=(fn.results.mapM (Ybt a)).run P w) hm)) rfl
   congr 2
  ·cases vs with
   |nil=>
    have:us=[]:=List.length_eq_zero_iff.1 (by simpa using hlen.symm);subst this;exact .tup _ _ _ rfl (by simp)
   |cons x xs=>
    cases us with
    |nil=>simp at hlen
    |cons u us=>
     cases xs with
     |nil=>
      have:us=[]:=List.length_eq_zero_iff.1 (by simpa using hlen.symm);subst this;exact k2.1
     |cons y ys=>
      rw[dif_neg (by grind)];exact .tup _ _ _ (by simpa using hlen.symm) (λi z z' e1 e2=>k2.get i z z' e1 (by simpa using e2))
theorem QaE{fn:Func}{tmps:Array Value}{R:Ending→World→Prop}:∀(l:List Nat) (w:World),l.Nodup→(∀r∈l,w.heap[r]?=some (.deferred (some [])))→(∃u,(results fn tmps).run P (shutW l w)=.ok u (shutW l w)∧R (.returned u) (shutW l w)) →
  LeavesInM (wz none) 0 P fn tmps R (l.map λr=>{ target:=.collected r,args:=#[] }) .returning w
 |[],w,_,_,h=>h
 |r::l,w,hn,hl,h=>by
  have hr:=hl r (by simp);have hnq:=List.nodup_cons.1 hn;refine⟨by simp,.inl ⟨r,_,rfl,?_,QaE l { w with heap:=w.heap.setIfInBounds r (.deferred none) } hnq.2 (λx hx=>?_) h⟩⟩
  ·simp[Instr.takeDeferred,getObj,setObj,Sem.run_bind,Sem.run,hr,Result.andThen]
  ·have:=hl x (by simp[hx]);have hne:x≠r:=by rintro rfl; exact hnq.1 hx
   show (w.heap.setIfInBounds r (.deferred none))[x]?=_
   grind
theorem DenL.mk'{g:Gm}{mk:List Nat}{xs:List AVal}{vs:List Value}(d:DenL g xs vs):DenL ⟨g.M,g.c,mk⟩ xs vs:=DenL.of_get d.length (λi x v e1 e2=>d.get i x v e1 e2)
theorem Zau{fn:Func}{tmps:Array Value}{ch:List PanicEntry}{R:Ending→World→Prop}:∀(l:List Nat) (w:World),l.Nodup→(∀r∈l,w.heap[r]?=some (.deferred (some [])))→R (.panicked ch) (shutW l w) →
  LeavesInM (wz none) 0 P fn tmps R (l.map λr=>{ target:=.collected r,args:=#[] }) (.panicking ch) w
 |[],w,_,_,h=>h
 |r::l,w,hn,hl,h=>by
  have hr:=hl r (by simp);have hnq:=List.nodup_cons.1 hn;refine⟨by simp,.inl ⟨r,_,rfl,?_,Zau l { w with heap:=w.heap.setIfInBounds r (.deferred none) } hnq.2 (λx hx=>?_) h⟩⟩
  ·simp[Instr.takeDeferred,getObj,setObj,Sem.run_bind,Sem.run,hr,Result.andThen]
  ·have:=hl x (by simp[hx]);have hne:x≠r:=by rintro rfl; exact hnq.1 hx
   show (w.heap.setIfInBounds r (.deferred none))[x]?=_
   grind
theorem Xa0{f:FuncId}{F:MFn}(ok:FnOk P GL f F){xs:List AVal}(hn:xs.length=F.np){vs:List Value}{g:Gm}(hx:DenL g xs vs){w0:World}{L:Ln}{σ:List ABlk}{w:World}(r:Rep GL w0 L g (hp σ) w)(hmk:g.dk=[]){Q:APost}
 (h:Awp P GL Z F.n F.body (frame0 xs) σ Q)(hq:∀e ρ σ,Q e ρ σ→e=.normal∨e=.ret){R:Ending→World→Prop}
 (fin:∀fn,All2 (RvOk P) fn.results.toList F.rets→∀(a':Act) (w':World) e g' ρ σ',g.Le g'→Rep GL w0 L g' (hp σ') w'→DenF F.n g' ρ a'→Q e ρ σ'→∃u,(results fn a'.tmps).run P w'=.ok u w'∧R (.returned u) w')
 (finZ:∀(w':World) g' x σ' u,g.Le g'→Rep GL w0 L g' (hp σ') w'→g'.den x u→Z x σ'→R (.panicked [{ v:=u,recovered:=false }]) w'):Calls P f vs.toArray w R:=by
 obtain⟨fn,c,h1,h2,h3,h4,h5⟩:=ok.ok;have d0:=ZaA hmk hx (n:=F.n) (by rw[hn]; exact ok.np);refine YY.1 (callsIn_of_wp_marks (F:=wz none) (n:=0) h1 h2 trivial ?_);rw[h3];refine wpIn_mono (h c h4 none (.inl rfl) w0 L g _ w r d0) (λe a' w' hl=>?_);have keyZ:∀g' x σ' u,g.LeK g'→Rep GL w0 L g' (hp σ') w'→DenF F.n g' [] a'→g'.den x u→Z x σ'→LeavesInM (wz none) 0 P fn a'.tmps R a'.defers (.panicking [{ v:=u,recovered:=false }]) w':=by
  intro g' x σ' u k1 k2 k3 k4 k5;obtain⟨l,e1,e2,e3⟩:=k1.k;rw[hmk,List.append_nil] at e1;rw[k3.defers,e1];refine Zau l w' e2 (λr hr=>k2.stable r _ (e3 r hr).2) ?_;have hw:=YbK (M:=g'.M) (l:=l) (λr hr=>(e3 r hr).2);have hml:MLe g.M (shutM l g'.M):=by
   intro b o eb;unfold shutM;rw[YIN]
   ·exact k1.m b o eb
   ·intro hb; rw[(e3 b hb).1] at eb; cases eb
  exact finZ (shutW l w') ⟨shutM l g'.M,g'.c,[]⟩ x σ' u ⟨hml,k1.c,hmk.symm⟩
   (k2.shut l e2 (λr hr=>⟨(e3 r hr).2,k2.mks r (by rw[e1]; exact hr)⟩) (by simp)) (Den.monoW hw k4 (CLe.refl _)) k5
 have key:∀e g' ρ σ',g.LeK g'→Rep GL w0 L g' (hp σ') w'→DenF F.n g' ρ a'→Q e ρ σ'→LeavesInM (wz none) 0 P fn a'.tmps R a'.defers .returning w':=by
  intro e g' ρ σ' k1 k2 k3 k4;obtain⟨l,e1,e2,e3⟩:=k1.k;rw[hmk,List.append_nil] at e1;rw[k3.defers,e1];refine QaE l w' e2 (λr hr=>k2.stable r _ (e3 r hr).2) ?_;have hw:=YbK (M:=g'.M) (l:=l) (λr hr=>(e3 r hr).2);have hml:MLe g.M (shutM l g'.M):=by
   intro b o eb;unfold shutM;rw[YIN]
   ·exact k1.m b o eb
   ·intro hb; rw[(e3 b hb).1] at eb; cases eb
  exact fin fn h5 { a' with defers:=[] } (shutW l w') e ⟨shutM l g'.M,g'.c,[]⟩ ρ σ' ⟨hml,k1.c,hmk.symm⟩
   (k2.shut l e2 (λr hr=>⟨(e3 r hr).2,k2.mks r (by rw[e1]; exact hr)⟩) (by simp)) ⟨k3.size,λt=>(k3.slot t).monoW hw (CLe.refl _),rfl⟩ k4
 cases e with
 |normal=>obtain⟨g',ρ,σ,k1,k2,k3,k4⟩:=hl; exact key _ g' ρ σ k1 k2 k3 k4
 |ret=>obtain⟨g',ρ,σ,k1,k2,k3,k4⟩:=hl; exact key _ g' ρ σ k1 k2 k3 k4
 |panic ch=>obtain⟨g',x,σ',u,rfl,k1,k2,k3,k4,k5⟩:=hl; exact keyZ g' x σ' u k1 k2 k3 k4 k5
 |exit id=>obtain⟨g',ρ,σ,k1,k2,k3,k4⟩:=hl; rcases hq _ _ _ k4 with q|q<;>cases q
 |_=>exact hl.elim
theorem Yar{f:FuncId}{F:MFn}(ok:FnOk P GL f F){xs:List AVal}(hn:xs.length=F.np){vs:List Value}{g:Gm}(hx:DenL g xs vs){w0:World}{L:Ln}{σ:List ABlk}{w:World}(r:Rep GL w0 L g (hp σ) w)(hmk:g.dk=[]){Q:APost}
 (h:Awp P GL noZ F.n F.body (frame0 xs) σ Q)(hq:∀e ρ σ,Q e ρ σ→e=.normal∨e=.ret){R:Ending→World→Prop}
 (fin:∀fn,All2 (RvOk P) fn.results.toList F.rets→∀(a':Act) (w':World) e g' ρ σ',g.Le g'→Rep GL w0 L g' (hp σ') w'→DenF F.n g' ρ a'→Q e ρ σ'→∃u,(results fn a'.tmps).run P w'=.ok u w'∧R (.returned u) w'):Calls P f vs.toArray w R:=
 Xa0 ok hn hx r hmk h hq fin (λ_ _ _ _ _ _ _ _ q=>q.elim)
theorem QaF{f:FuncId}{F:MFn}(ok:FnOk P GL f F){xs:List AVal}(hn:xs.length=F.np){v:AVal}(hv:v.ro=true)
 (h:Awp P GL noZ F.n F.body (frame0 xs) [] (λe ρ σ=>(e=.normal∨e=.ret)∧retV F.rets ρ σ=some v)):PCall P GL f xs v:=by
 intro w M vs hM hg hx;have r0:=Rep.start (GL:=GL) w M hM hg;have hh:hp []=noHp:=by funext b; simp[hp,noHp]
 rw[←hh] at r0;refine Yar ok hn hx r0 rfl h  (λ_ _ _ q=>q.1) (λfn h5 a' w'=>?_);have fin:∀g' ρ σ,(⟨M,noOwn,[]⟩:Gm).Le g'→Rep GL w ⟨[],M⟩ g' (hp σ) w'→DenF F.n g' ρ a'→retV F.rets ρ σ=some v→∃u,(results fn a'.tmps).run P w'=.ok u w'∧(∃u',Ending.returned u=.returned u'∧Keeps ⟨[],M⟩ w w'∧∃M',MLe M M'∧(∀b o,M' b=some o→w'.heap[b]?=some o)∧(∀b o,M' b=some o→M b=some o∨w.heap.size≤b)∧Den M' noOwn v u'):=by
  intro g' ρ σ hle hr hd hret;obtain⟨u,k1,k2⟩:=XU hr hd h5 hret;exact⟨u,k1,u,rfl,hr.keeps,g'.M,hle.m,hr.stable,λb o e=>by
   rcases hr.src b o e with q | q | q <;> simp_all,Den.ro k2 hv _⟩
 exact λe g' ρ σ k1 k2 k3 k4=>fin g' ρ σ k1 k2 k3 k4.2
theorem Zaw{f:FuncId}{F:MFn}(ok:FnOk P GL f F){xs:List AVal}(hn:xs.length=F.np){σ:List ABlk}{R:PZ}
 (h:Awp P GL Z F.n F.body (frame0 xs) σ (λe ρ σ'=>(e=.normal∨e=.ret)∧∃v,retV F.rets ρ σ'=some v∧R v σ')) :
  ∀(w0:World) (L:Ln) (g:Gm) (w:World) (vs:List Value),Rep GL w0 L g (hp σ) w→DenL g xs vs→Calls P f vs.toArray w (OutE GL w0 L g R Z):=by
 intro w0 L g w vs r hx;refine Xa0 ok hn (hx.mk' (mk:=[])) ({ r with mks:=by simp }:Rep GL w0 L ⟨g.M,g.c,[]⟩ (hp σ) w) rfl h (λ_ _ _ q=>q.1) (λfn h5 a' w' e g' ρ σ' hle hr hd q=>?_) (λw' g' x σ' u hle hr hd hz=>?_)
 ·obtain⟨_,v,hret,hR⟩:=q;obtain⟨u,k1,k2⟩:=XU hr hd h5 hret;exact⟨u,k1,⟨g'.M,g'.c,g.dk⟩,v,σ',hR,⟨hle.m,hle.c,rfl⟩,{ hr with mks:=r.mks },k2⟩
 ·exact⟨u,⟨g'.M,g'.c,g.dk⟩,x,σ',rfl,hz,⟨hle.m,hle.c,rfl⟩,{ hr with mks:=r.mks },hd⟩
theorem Zbs{f:FuncId}{F:MFn}(ok:FnOk P GL f F){xs:List AVal}(hn:xs.length=F.np){σ:List ABlk}{R:PZ}
 (h:Awp P GL noZ F.n F.body (frame0 xs) σ (λe ρ σ'=>(e=.normal∨e=.ret)∧∃v,retV F.rets ρ σ'=some v∧R v σ')) :
  ∀(w0:World) (L:Ln) (g:Gm) (w:World) (vs:List Value),Rep GL w0 L g (hp σ) w→DenL g xs vs→Calls P f vs.toArray w λe w''=>∃u,e=.returned u∧∃g' x σ',R x σ'∧g.Le g'∧Rep GL w0 L g' (hp σ') w''∧g'.den x u:=by
 intro w0 L g w vs r hx;refine(Zaw ok hn h w0 L g w vs r hx).mono (λe w'' k=>?_);cases e with
 |returned u=>exact⟨u,rfl,k⟩
 |panicked ch=>obtain⟨_,_,_,_,_,q,_⟩:=k; exact q.elim
 |outgrown=>exact k.elim
end
end Go.Ah
end
section
namespace Go.Ah
section
variable {P:Program} {GL:Globs} {Z:PZ}
theorem Rep.takeRows{w0:World}{L:Ln}{g:Gm}{h:Hp}{w:World}(r:Rep GL w0 L g h w){b sz:Nat}{rs:List (List AVal)}(hb:h b=some (.rows sz rs))(k:Nat):Rep GL w0 L g (hup h b (.rows sz (rs.take k))) w:=by
 have back:∀n x,hup h b (.rows sz (rs.take k)) n=some x→x.live=true→∃y,h n=some y∧y.live=true:=by
  intro n x en hln;by_cases hn:n=b
  ·subst hn; exact⟨_,hb,rfl⟩
  ·rw[Yk _ _ hn] at en; exact⟨x,en,hln⟩
 exact {
  keeps:=r.keeps
  stable:=r.stable
  src:=r.src
  mks:=r.mks
  globs:=r.globs
  empt:=λn en=>by
   by_cases hn:n=b
   ·subst hn; rw[Zl] at en; cases en
   ·rw[Yk _ _ hn] at en; exact r.empt n en
  dom:=λn x en=>by
   by_cases hn:n=b
   ·subst hn; exact r.dom n _ hb
   ·rw[Yk _ _ hn] at en; exact r.dom n x en
  own:=λn x cb en hln ec hv=>by
   by_cases hn:n=b
   ·subst hn; rw[Zl] at en; cases en;obtain⟨k1,k2,o,k3,k4,arr,T,k5,k6,k7,k8,k9⟩:=r.own n _ cb hb rfl ec hv;refine⟨k1,k2,o,k3,k4,arr,T,k5,k6,?_,λi row e=>?_,λi row j x v e1 e2 e3=>?_⟩
    ·refine Nat.le_trans (Nat.add_le_add_left (Nat.mul_le_mul_right _ ?_) _) k7;simp; omega
    ·rw[List.getElem?_take] at e;split at e
     ·exact k8 i row e
     ·cases e
    ·rw[List.getElem?_take] at e1;split at e1
     ·exact k9 i row j x v e1 e2 e3
     ·cases e1
   ·rw[Yk _ _ hn] at en; exact r.own n x cb en hln ec hv
  hollow:=λn x cb en hln ec hv=>by
   by_cases hn:n=b
   ·subst hn; rw[Zl] at en; cases en;have:=r.hollow n _ cb hb rfl ec hv;cases this;simp
   ·rw[Yk _ _ hn] at en; exact r.hollow n x cb en hln ec hv
  inj:=λn n' x x' cb1 cb2 e1 e2 l1 l2 c1 c2 v1 v2 hblk=>by
   obtain⟨y1,f1,g1⟩:=back n x e1 l1;obtain⟨y2,f2,g2⟩:=back n' x' e2 l2;exact r.inj n n' y1 y2 cb1 cb2 f1 f2 g1 g2 c1 c2 v1 v2 hblk }
def over(p:Nat)(ys rs:List (List AVal)):List (List AVal):=rs.take p++ys++rs.drop (p+ys.length)
theorem QbT{p:Nat}{ys rs:List (List AVal)}(hp:p+ys.length≤rs.length)(i:Nat):(over p ys rs)[i]?=if p≤i∧i<p+ys.length then ys[i-p]? else rs[i]?:=by
 unfold over;by_cases h1:i<p<;>grind
theorem XbH{p:Nat}{ys rs:List (List AVal)}(hp:p+ys.length≤rs.length):(over p ys rs).length=rs.length:=by
 unfold over; simp; omega
theorem Ya7{g:Gm}{n:Nat}{ys:List (List AVal)}{newv:Array Value}(hn0:n≠0)(ra:RowsAt g n ys newv)(hcl:∀row∈ys,∀x∈row,AVal.cell x=true):∀u∈newv.toList,u.oneCell'=true:=by
 intro u hu;obtain⟨q,hq⟩:=List.mem_iff_getElem?.1 hu;rw[Array.getElem?_toList] at hq;have hql:q<ys.length*n:=by rw[←ra.1]; grind
 have hnp:0<n:=Nat.pos_of_ne_zero hn0;have hi:q/n<ys.length:=(Nat.div_lt_iff_lt_mul hnp).2 hql;have hrowq:ys[q/n]?=some ys[q/n]:=by simp[hi]
 have hlq:=ra.2.1 _ _ hrowq;have hj:q%n<ys[q/n].length:=by rw[hlq]; exact Nat.mod_lt _ hnp
 refine Xar (hcl _ (List.getElem_mem hi) _ (List.getElem_mem hj)) (ra.2.2 (q/n) _ (q%n) _ u hrowq (by simp[hj]) ?_)
 grind [Nat.div_add_mod]
theorem Rep.overRows{w0:World}{L:Ln}{g:Gm}{h:Hp}{w:World}(r:Rep GL w0 L g h w){b n:Nat}{rs ys:List (List AVal)}{cb:CB}{newv:Array Value}(hb:h b=some (.rows n rs))(ec:g.c b=some cb)(hv:cb.virt=false){p:Nat}(hp:p+ys.length≤rs.length)
 (ra:RowsAt g n ys newv)(hone:∀u∈newv.toList,u.oneCell'=true) :
  ∃w',(storeCells ⟨cb.blk,cb.base+p*n,none⟩ newv.toList).run P w=.ok () w'∧Rep GL w0 L g (hup h b (.rows n (over p ys rs))) w':=by
 obtain⟨z1,arr,T,ho',hs,hle2,hrow,hden⟩:=r.rowsBlk hb ec hv;obtain⟨cur',s1,s2,s3⟩:=XX (P:=P) ho' newv.toList hone (j:=cb.base + p * n) (by
  intro _;rw[Array.length_toList (xs:=newv),ra.1,Nat.add_assoc,← Nat.add_mul,hs];exact Nat.le_trans (Nat.add_le_add_left (Nat.mul_le_mul_right n hp) _) hle2)
 refine⟨_,s1,r.write hb rfl ec hv rfl (w':=w.setRow cb.blk cur') rfl rfl rfl (Q0 w _ arr cur' T (0,0) ho') ⟨z1,cur',T,rfl,by rw[s2,hs],by rw[XbH hp]; exact hle2,λi row q=>?_,λi row j x0 u q1 q2 q3=>?_⟩⟩
 ·rw[QbT hp] at q;split at q
  ·exact ra.2.1 _ row q
  ·exact hrow i row q
 ·rw[QbT hp] at q1;rw[s3,Array.length_toList (xs:=newv),ra.1] at q3;split at q1
  ·rename_i hi;have hj:j<n:=by rw[←ra.2.1 _ row q1]; grind
   have h5:p*n≤i*n:=Nat.mul_le_mul_right n hi.1;have h6:(i-p+1)*n≤ys.length*n:=Nat.mul_le_mul_right n (by omega);rw[Nat.succ_mul,Nat.sub_mul] at h6;rw[YIP (by omega)] at q3;refine ra.2.2 _ row j x0 u q1 q2 ?_
   grind
  ·rename_i hi;have hj:j<n:=by grind
   refine hden i row j x0 u q1 q2 ?_;rw[YIN] at q3
   ·exact q3
   ·rintro⟨k1,k2⟩;apply hi;by_cases hip:i<p
    ·have:(i+1)*n≤p*n:=Nat.mul_le_mul_right n hip;rw[Nat.succ_mul] at this; omega
    ·refine⟨by omega,?_⟩;by_cases hi2:i<p+ys.length
     ·exact hi2
     ·have:(p+ys.length)*n≤i*n:=Nat.mul_le_mul_right n (by omega);rw[Nat.add_mul] at this; omega
theorem XaK{w0:World}{L:Ln}{g:Gm}{h:Hp}{w:World}(r:Rep GL w0 L g h w){b n off cap:Nat}{rs:List (List AVal)}{cb:CB}(hb:h b=some (.rows n rs))(hn0:n≠0)(ec:g.c b=some cb)(hv:cb.virt=false)(h2:cb.base+(off+cap)*cb.sz=cb.tot):rs.length≤off+cap:=by
 obtain⟨z1,arr,T,ho',hs,hle2,_⟩:=r.rowsBlk hb ec hv;rw[z1] at h2;rw[←h2] at hle2;exact Nat.le_of_mul_le_mul_right (Nat.le_of_add_le_add_left hle2) (Nat.pos_of_ne_zero hn0)
theorem Qaw(n by_:Nat)(z:List AVal)(y:AVal)(b off len:Nat)(ex:Bool)(rs ys:List (List AVal))(rd:List Nat)(h0:Hp)(hb:h0 b=some (.rows n rs))(hy0:SrcIs h0 n y ys rd)
 (hcl:∀row∈ys,∀x∈row,AVal.cell x=true)(hroom:off+len+ys.length≤rs.length) :
  OpSem P GL (.append n by_ z) [.sl b off len ex,y] h0 (.sl b off (len+ys.length) false) rd [(b,.rows n (over (off+len) ys rs))]:=by
 intro o os hc w0 L g h w a r hx hrd hup';have hb':h b=some (.rows n rs):=by simp_all
 generalize ho:o.op=op at hc;cases hc with
 |append t t' e ox oy _ _ v _ ht htd hsz hby hz hvs hcells hby0 hn0=>
  obtain⟨d,hd,hni⟩:=htd;obtain⟨d1,d2,_⟩:=hx;generalize hu1:a.eval ox=u1 at d1;generalize hu2:a.eval oy=u2 at d2;obtain⟨newv,e2,f2,ra2⟩:=Xac (P:=P) r hy0 hrd d2;have hlen2:(Builtin.lenOf u2).run P w=.ok ys.length w:=e2;rw[XbQ];cases d1 with
  |slv _ _ _ cb p ec hv=>
   have hrs:=(r.virtRows hb' ec hv).2;subst hrs;have hys:ys=[]:=by simpa using hroom
   subst hys;have hnv:newv.toList=[]:=by have:=ra2.1; simp at this; simp[this]
   have hrun:(Builtin.append_ #[t,t'] o.type #[.slice p 0 0,u2]).run P w=.ok (.slice p 0 0) w:=by
    obtain⟨k1,k2⟩:=(Qy ht hd hni hsz hby hz hby0 (base:=p) (len:=0) (cap:=0) (newv:=newv) hlen2 o.type).1 (by simp) f2;cases p with
    |none=>exact k1 rfl
    |some ad=>exact k2 ad w rfl (by rw[hnv]; rfl)
   rw[Xy ho hu1 hu2 hrun];refine⟨g,Gm.Le.refl _,?_,.slv _ _ _ cb _ ec hv⟩;have:=r.takeRows hb' 0;exact this
  |sle _ _ _ _ cb p ec hv g1 g2=>
   have hcap:=XaK (off:=off) (cap:=0) r hb' hn0 ec hv (by simpa using g2);have hys:ys=[]:=List.length_eq_zero_iff.1 (by omega);subst hys;have hnv:newv.toList=[]:=by have:=ra2.1; simp at this; simp[this]
   have hrun:(Builtin.append_ #[t,t'] o.type #[.slice p 0 0,u2]).run P w=.ok (.slice p 0 0) w:=by
    obtain⟨k1,k2⟩:=(Qy ht hd hni hsz hby hz hby0 (base:=p) (len:=0) (cap:=0) (newv:=newv) hlen2 o.type).1 (by simp) f2;cases p with
    |none=>exact k1 rfl
    |some ad=>exact k2 ad w rfl (by rw[hnv]; rfl)
   rw[Xy ho hu1 hu2 hrun];refine⟨g,Gm.Le.refl _,?_,.sle _ _ _ _ cb _ ec hv g1 g2⟩;have hov:over (off+0) [] rs=rs.take rs.length:=by simp[over]
   rw[hov];exact r.takeRows hb' rs.length
  |sl _ _ _ _ _ cb cap ec hv h1 h2 h3=>
   have hcap:=XaK r hb' hn0 ec hv h2;have z1:=(r.rowsBlk hb' ec hv).1;obtain⟨w',s1,s2⟩:=r.overRows (P:=P) hb' ec hv hroom ra2 (Ya7 hn0 ra2 hcl);have hrun:=((Qy ht hd hni hsz hby hz hby0 (base:=some ⟨cb.blk,cb.base + off * cb.sz,none⟩) (len:=len) (cap:=cap) (newv:=newv) hlen2 o.type).1 (by omega) f2).2 ⟨cb.blk,cb.base + off * cb.sz,none⟩ w' rfl (by
    simp_all [ZD,Nat.add_assoc,Nat.add_mul])
   rw[Xy ho hu1 hu2 hrun];exact⟨g,Gm.Le.refl _,s2,.sl _ _ _ _ _ cb cap ec hv (by omega) h2 (by simp)⟩
theorem ZaY(n by_:Nat)(z:List AVal)(y:AVal)(b len:Nat)(ex:Bool)(rs ys:List (List AVal))(rd:List Nat)(h0:Hp)(nb:Nat)(hn:h0 nb=none)(hb:h0 b=some (.rows n rs))(hle:len≤rs.length)(hy0:SrcIs h0 n y ys rd)(hrdb:b∉rd)
 (hcl:∀row∈ys,∀x∈row,AVal.cell x=true)(hroom:(2*(len+ys.length)+192)*by_≤2 ^ 48) :
  OpSem P GL (.append n by_ z) [.sl b 0 len ex,y] h0 (.sl nb 0 (len+ys.length) false) rd [(b,.dead),(nb,.rows n (rs.take len++ys))]:=by
 intro o os hc w0 L g h w a r hx hrd hup';have hb':h b=some (.rows n rs):=by simp_all
 have hnb':h nb=none:=by simp_all
 have hne:nb≠b:=by grind
 have hl:(rs.take len).length=len:=by simp; omega
 have r':=r.takeRows hb' len;have hy1:SrcIs (hup h b (.rows n (rs.take len))) n y ys rd:=by
  cases hy0 with
  |row ex nn rows=>exact .row _ _ _
  |nils=>exact .nils
  |cap0=>exact .cap0
  |str s hz=>exact .str _ hz
  |box b2 j2 len2 cap2 row2 _ hb2 hch2=>
   have hb2n:b2≠b:=by rintro rfl; rw[hb] at hb2; cases hb2
   exact .box _ _ _ _ _ _ (by rw[Yk _ _ hb2n,hrd b2 (by simp)]; exact hb2) hch2
  |own b2 off2 len2 ex2 rs2 hb2 hle2=>
   have hb2n:b2≠b:=by rintro rfl; simp at hrdb
   exact .own _ _ _ _ _ (by simp_all [Yk]) hle2
 have:=Qa7 (P:=P) (GL:=GL) n by_ z (.sl b 0 len ex) y (rs.take len) ys rd [(b,.dead)] (hup h b (.rows n (rs.take len))) nb (by rw[Yk _ _ hne]; exact hnb') (by have:=VecIs.own (h0:=hup h b (.rows n (rs.take len))) (sz:=n) b 0 len ex _ (Zl _ _ _) (by rw[hl]; omega); simpa using this) hy1 hcl (by rw[hl]; exact hroom)
  o os hc w0 L g _ w a r' hx (λ_ _=>rfl) (λ_ _=>rfl)
 rw[hl] at this;have e:hups (hup h b (.rows n (rs.take len))) ([(b,.dead)]++[(nb,.rows n (rs.take len++ys))])=hups h [(b,.dead),(nb,.rows n (rs.take len++ys))]:=by
  funext q
  simp_all [hups,hup]
 rw[e] at this;exact this
theorem Rep.swapBlk{w0:World}{L:Ln}{g:Gm}{h:Hp}{w:World}(r:Rep GL w0 L g h w){b:Nat}{blk blk':ABlk}{cb:CB}(hb:h b=some blk)(hl:blk.live=true)(hl':blk'.live=true)(ec:g.c b=some cb)(hv:cb.virt=false)
 (ok:∀o,BlkOk g.M g.c cb o blk→BlkOk g.M g.c cb o blk'):Rep GL w0 L g (hup h b blk') w:=by
 obtain⟨_,_,o,ho,hok⟩:=r.own b blk cb hb hl ec hv;refine r.write hb hl ec hv hl' (o':=o) rfl rfl rfl ?_ (ok o hok);refine Array.ext_getElem? λi=>?_;by_cases hi:cb.blk=i
 ·subst hi;have:cb.blk<w.heap.size:=by grind
  grind
 ·rw[Array.getElem?_setIfInBounds_ne hi]
theorem Rep.fullBlk{w0:World}{L:Ln}{g:Gm}{h:Hp}{w:World}(r:Rep GL w0 L g h w){b sz:Nat}{rs:List (List AVal)}(hb:h b=some (.full sz rs)):∃cb,g.c b=some cb∧cb.virt=false∧cb.sz=sz∧cb.base+rs.length*sz=cb.tot:=by
 obtain⟨cb,ec⟩:=r.dom b _ hb;have hv:cb.virt=false:=by
  cases hv:cb.virt with
  |false=>rfl
  |true=>have:=r.hollow b _ cb hb rfl ec hv; cases this
 obtain⟨_,_,o,_,q,z,_⟩:=r.own b _ cb hb rfl ec hv;exact⟨cb,ec,hv,z,q⟩
theorem Rep.hide{w0:World}{L:Ln}{g:Gm}{h:Hp}{w:World}(r:Rep GL w0 L g h w){b sz:Nat}{rs:List (List AVal)}(hb:h b=some (.full sz rs))(k:Nat):Rep GL w0 L g (hup h b (.rows sz (rs.take k))) w:=by
 obtain⟨cb,ec,hv,_⟩:=r.fullBlk hb;refine r.swapBlk hb rfl rfl ec hv ?_;rintro o ⟨_,h0,arr,T,h1,h2,h3,h4,h5⟩;refine⟨h0,arr,T,h1,h2,Nat.le_trans (Nat.add_le_add_left (Nat.mul_le_mul_right _ (by simp; omega)) _) h3,λi row e=>?_,λi row j x v e1 e2 e3=>?_⟩
 ·rw[List.getElem?_take] at e; grind
 ·rw[List.getElem?_take] at e1; grind
theorem Out.map{w0:World}{L:Ln}{g:Gm}{h1 h2:Hp}{x:AVal}{res:Result Next}(f:∀g' w',g.Le g'→Rep GL w0 L g' h1 w'→Rep GL w0 L g' h2 w')(q:Out P GL w0 L g h1 x res):Out P GL w0 L g h2 x res:=by
 cases res with
 |ok nx w'=>
  cases nx with
  |value u=>obtain⟨g',k1,k2,k3⟩:=q; exact⟨g',k1,f _ _ k1 k2,k3⟩
  |skip=>obtain⟨g',k1,k2,k3⟩:=q; exact⟨g',k1,f _ _ k1 k2,k3⟩
  |enter fn args=>
   refine Calls.mono q ?_;rintro e w'' ⟨u,he,g',k1,k2,k3⟩;exact⟨u,he,g',k1,f _ _ k1 k2,k3⟩
  |_=>exact q.elim
 |_=>exact q.elim
theorem SrcIs.keep{h0 h:Hp}{n:Nat}{y:AVal}{ys:List (List AVal)}{rd:List Nat}(hy:SrcIs h0 n y ys rd){b m:Nat}{rs:List (List AVal)}(hb:h0 b=some (.full m rs))(hrd:∀c∈rd,h c=h0 c)(x:ABlk):SrcIs (hup h b x) n y ys rd:=by
 cases hy with
 |row ex nn rows=>exact .row _ _ _
 |nils=>exact .nils
 |cap0=>exact .cap0
 |str s hz=>exact .str _ hz
 |box b2 j2 len2 cap2 row2 _ hb2 hch2=>
  have hb2n:b2≠b:=by rintro rfl; rw[hb] at hb2; cases hb2
  exact .box _ _ _ _ _ _ (by rw[Yk _ _ hb2n,hrd b2 (by simp)]; exact hb2) hch2
 |own b2 off2 len2 ex2 rs2 hb2 hle2=>
  have hb2n:b2≠b:=by rintro rfl; rw[hb] at hb2; cases hb2
  exact .own _ _ _ _ _ (by rw[Yk _ _ hb2n,hrd b2 (by simp)]; exact hb2) hle2
theorem QaS(n by_:Nat)(z:List AVal)(y:AVal)(b len:Nat)(ex:Bool)(rs ys:List (List AVal))(rd:List Nat)(h0:Hp)(hb:h0 b=some (.full n rs))(hy0:SrcIs h0 n y ys rd)
 (hcl:∀row∈ys,∀x∈row,AVal.cell x=true)(hroom:len+ys.length≤rs.length) :
  OpSem P GL (.append n by_ z) [.sl b 0 len ex,y] h0 (.sl b 0 (len+ys.length) false) rd [(b,.full n (over len ys rs))]:=by
 intro o os hc w0 L g h w a r hx hrd hup';have hb':h b=some (.full n rs):=by simp_all
 obtain⟨cb,ec,hv,hz,hq⟩:=r.fullBlk hb';have r':=r.hide hb' rs.length;rw[List.take_length] at r';have:=Qaw (P:=P) (GL:=GL) n by_ z y b 0 len ex rs ys rd (hup h b (.rows n rs)) (Zl _ _ _) (hy0.keep hb hrd _) hcl (by omega) o os hc w0 L g _ w a r' hx (λ_ _=>rfl) (λ_ _=>rfl);refine this.map λg' w' hle k=>?_;have ec':=hle.c b cb ec;have k2:=k.swapBlk (blk':=.full n (over len ys rs)) (Zl _ _ _) rfl rfl ec' hv (by
  rintro o ⟨k0,arr,T,k1,k2,k3,k4,k5⟩;have hl:(over len ys rs).length=rs.length:=by simp[over]; omega
  simp only[Nat.zero_add] at k3 k4 k5;exact⟨by rw[hl]; exact hq,k0,arr,T,k1,k2,k3,k4,k5⟩)
 have e:hup (hups (hup h b (.rows n rs)) [(b,.rows n (over (0+len) ys rs))]) b (.full n (over len ys rs))=hups h [(b,.full n (over len ys rs))]:=by
  funext q
  simp[hups,hup];split<;>rfl
 rw[e] at k2;exact k2
theorem ZaT(n by_:Nat)(z:List AVal)(y:AVal)(b len:Nat)(ex:Bool)(rs ys:List (List AVal))(rd:List Nat)(h0:Hp)(nb:Nat)(hn:h0 nb=none)(hb:h0 b=some (.full n rs))(hy0:SrcIs h0 n y ys rd)
 (hcl:∀row∈ys,∀x∈row,AVal.cell x=true)(hle:len≤rs.length)(hfull:rs.length<len+ys.length)(hroom:(2*(len+ys.length)+192)*by_≤2 ^ 48) :
  OpSem P GL (.append n by_ z) [.sl b 0 len ex,y] h0 (.sl nb 0 (len+ys.length) false) (b::rd) [(nb,.rows n (rs.take len++ys))]:=by
 intro o os hc w0 L g h w a r hx hrd hup';have hn':h nb=none:=by rw[hup' (nb,.rows n (rs.take len++ys)) (by simp)]; exact hn
 have hb':h b=some (.full n rs):=by rw[hrd b (by simp)]; exact hb
 have hrd':∀c∈rd,h c=h0 c:=λc hc=>hrd c (by simp[hc]);obtain⟨cb,ec,hv,hzs,hq⟩:=r.fullBlk hb';have r':=r.hide hb' len;generalize ho:o.op=op at hc;cases hc with
 |append t t' e ox oy _ _ v _ ht htd hsz hby hz hvs hcells hby0 hn0=>
  obtain⟨d,hd,hni⟩:=htd;obtain⟨d1,d2,_⟩:=hx;generalize hu1:a.eval ox=u1 at d1;generalize hu2:a.eval oy=u2 at d2;have hl:(rs.take len).length=len:=by simp; omega
  have hsrc:SrcIs (hup h b (.rows n (rs.take len))) n (.sl b 0 len ex) (rs.take len) [b]:=by
   have:=SrcIs.own (h0:=hup h b (.rows n (rs.take len))) (sz:=n) b 0 len ex _ (Zl _ _ _) (by omega)
   rwa [Xcl _ 0 len (by omega),List.drop_zero] at this
  obtain⟨p1,cap1,oldv,e1,f1,ra1,_⟩:=YaU (P:=P) r'.drew hsrc (λ_ _=>rfl) d1;obtain⟨newv,e2,f2,ra2⟩:=Xac (P:=P) r hy0 hrd' d2;obtain⟨newv',_,f2',ra2'⟩:=Xac (P:=P) r.drew hy0 hrd' d2;have hlen2:(Builtin.lenOf u2).run P w=.ok ys.length w:=e2;rw[hl] at e1 f1;have hcap:cap1≤rs.length:=by
   rw[e1] at d1;cases d1 with
   |slv _ _ _ cb2 _ ec2 hv2=>exact Nat.zero_le _
   |sle _ _ _ _ cb2 _ ec2 hv2=>exact Nat.zero_le _
   |sl _ _ _ _ _ cb2 _ ec2 hv2 h1 h2 h3=>
    have:cb2=cb:=by rw[ec] at ec2; cases ec2; rfl
    subst this;rw[←hq,hzs] at h2;have h4:(0+cap1)*n=rs.length*n:=Nat.add_left_cancel h2;have:=Nat.eq_of_mul_eq_mul_right (Nat.pos_of_ne_zero hn0) h4;omega
  obtain⟨nc,hnc,hrun⟩:=(Qy ht hd hni hsz hby hz hby0 (base:=p1) (len:=len) (cap:=cap1) (newv:=newv') hlen2 o.type).2 (by omega) hroom oldv (by rw[←e1]; exact f1) f2';rw[Xy ho (by rw[hu1]; exact e1) hu2 hrun];obtain⟨q1,q2⟩:=Q3 (c:=Builtin.zeroCells v.cells (nc-(len+ys.length))) ra1 ra2';obtain⟨g',hg1,hg2,hg3⟩:=Rep.newRows r.drew hn' n (rs.take len++ys) (oldv++newv'++Builtin.zeroCells v.cells (nc-(len+ys.length))) e (len+ys.length) nc false
   (by
     have h1:=ra1.1;rw[hl] at h1;simp only[Array.size_append,h1,ra2'.1,QX,hvs,Nat.sub_mul,Nat.add_mul];have:(len + ys.length) * n≤nc * n:=Nat.mul_le_mul_right n hnc;rw[Nat.add_mul] at this; omega) hnc (by simp) (by rw[List.length_append,hl]; exact hnc) q1 q2
  exact⟨g',hg1,hg2,hg3⟩
theorem Ycz(n:Nat)(z:List AVal)(b off len:Nat)(ex:Bool)(rs:List (List AVal))(h0:Hp)(hb:h0 b=some (.rows n rs))(hroom:off+len≤rs.length) :
  OpSem P GL (.clearS n z) [.sl b off len ex] h0 .junk [] [(b,.rows n (over off (List.replicate len z) rs))]:=by
 intro o os hc w0 L g h w a r hx hrd hup';have hb':h b=some (.rows n rs):=by simp_all
 generalize ho:o.op=op at hc;cases hc with
 |clearS t e ox _ v _ he hsz hn0 hz hvs hcells=>
  obtain⟨d1,_⟩:=hx;generalize hu1:a.eval ox=u1 at d1;obtain⟨hzl,hzd⟩:=YH (M:=g.M) (c:=g.c) hcells;have hzl':z.length=n:=by rw[←hzl]; simpa using hvs
  have hunder:P.underlying t=some (.slice e):=by
   grind [elemS?]
  have out:∀w',(Builtin.clear_ #[t] o.type #[u1]).run P w=.ok (.tuple #[]) w'→(execOp a.eval o).run P w=.ok (.value (.tuple #[])) w':=by
   simp_all [execOp,resolve,invoke,builtin]
  rw[XbQ];have hrep:(List.replicate len z).length=len:=by simp
  cases d1 with
  |slv _ _ _ cb p ec hv=>
   have hrs:=(r.virtRows hb' ec hv).2;subst hrs;rw[out w (by
    cases p <;> simp[Builtin.clear_,Sem.run_bind,run_underlying hunder])]
   exact⟨g,Gm.Le.refl _,r.takeRows hb' 0,.junk _ _⟩
  |sle _ _ _ _ cb p ec hv _ _=>
   rw[out w (by
    cases p <;> simp[Builtin.clear_,Sem.run_bind,run_underlying hunder])]
   refine⟨g,Gm.Le.refl _,?_,.junk _ _⟩;have hov:over off (List.replicate 0 z) rs=rs.take rs.length:=by simp[over]
   rw[hov];exact r.takeRows hb' rs.length
  |sl _ _ _ _ _ cb cap ec hv h1 h2 h3=>
   have z1:=(r.rowsBlk hb' ec hv).1;have hv0:v.cells.size≠0:=by rw[hvs]; exact hn0
   have ra:RowsAt g n (List.replicate len z) (Builtin.zeroCells v.cells len):=by
    refine⟨by rw[QX,hvs,hrep],λi row q=>?_,λi row j x u q1 q2 q3=>?_⟩
    ·grind
    ·rw[List.getElem?_replicate] at q1;split at q1
     ·rename_i hi;cases q1;have hj:j<n:=by grind
      have hlt:i*n+j<len*n:=by
       have:(i+1)*n≤len*n:=Nat.mul_le_mul_right n hi;rw[Nat.succ_mul] at this; omega
      have hmod:(i*n+j)%n=j:=by simp_all [Nat.mod_eq_of_lt]
      have hq:(Builtin.zeroCells v.cells len)[i*n+j]?=v.cells[j]?:=by
       simp_all [Builtin.zeroCells]
      rw[hq] at q3;exact hzd j x u q2 (by simpa using q3)
     ·cases q1
   have hcz:=Xad hcells;obtain⟨w',s1,s2⟩:=r.overRows (P:=P) hb' ec hv (p:=off) (ys:=List.replicate len z) (by rw[hrep]; exact hroom) ra (Ya7 hn0 ra (λrow hrow x hx=>by
    simp_all))
   by_cases hl0:len=0
   ·subst hl0;rw[out w (by simp_all [Builtin.clear_,run_underlying])];refine⟨g,Gm.Le.refl _,?_,.junk _ _⟩;have hov:over off (List.replicate 0 z) rs=rs.take rs.length:=by
     simp[over]
    rw[hov];exact r.takeRows hb' rs.length
   ·rw[out w' (by
     cases len with
     |zero=>exact(hl0 rfl).elim
     |succ len=>
      rw[z1];simp only[Builtin.clear_,Sem.run_bind,Sem.run_pure,Result.andThen_ok];simp_all [run_underlying,QO])]
    exact⟨g,Gm.Le.refl _,s2,.junk _ _⟩
theorem YX(n:Nat)(z:List AVal)(x:AVal)(h0:Hp)(hx0:x=.nils∨x=.cap0∨∃e nn sz,x=.rsl e nn sz []):OpSem P GL (.clearS n z) [x] h0 .junk [] []:=by
 intro o os hc w0 L g h w a r hx hrd hup';generalize ho:o.op=op at hc;cases hc with
 |clearS t e ox _ v _ he hsz hn0 hz hvs hcells=>
  obtain⟨d1,_⟩:=hx;generalize hu1:a.eval ox=u1 at d1;have hunder:P.underlying t=some (.slice e):=by
   grind [elemS?]
  have hsh:∃p cap,u1=.slice p 0 cap:=by
   rcases hx0 with rfl|rfl|⟨_,_,_,rfl⟩
   ·cases d1; exact⟨_,_,rfl⟩
   ·cases d1; exact⟨_,_,rfl⟩
   ·cases d1; exact⟨_,_,rfl⟩
  obtain⟨p,cap,rfl⟩:=hsh;have hrun:(execOp a.eval o).run P w=.ok (.value (.tuple #[])) w:=by
   simp only[execOp,ho,resolve,Sem.run_bind,Sem.run_pure,Result.andThen_ok,invoke,builtin];cases p<;>simp[hu1,Builtin.clear_,Sem.run_bind,run_underlying hunder]
  rw[hrun];exact Out.here r (.junk _ _)
end
end Go.Ah
end
section
namespace Go.Ah
section
variable {P:Program} {GL:Globs} {Z:PZ}
def bndL(lo hi:Option (IntKind×Nat)):List AVal:=(lo.map λp=>AVal.int p.1 p.2).toList++(hi.map λp=>AVal.int p.1 p.2).toList
def bl:Option (IntKind×Nat)→Nat
 |some p=>p.2
 |none=>0
def bh(n:Nat):Option (IntKind×Nat)→Nat
 |some p=>p.2
 |none=>n
theorem YbW{lo hi:Option (IntKind×Nat)}{lo' hi':Option Operand}(h1:lo.isSome=lo'.isSome)(h2:hi.isSome=hi'.isSome){a:Act}{g:Gm}(d:DenL g (bndL lo hi) ((lo'.toList++hi'.toList).map a.eval)){isS:Bool}{len cap:Nat}
 (hl:bl lo≤bh len hi)(hh:bh len hi≤cap)(w:World):(Instr.sliceBounds isS len cap (lo'.map a.eval) (hi'.map a.eval) none).run P w=.ok (bl lo,bh len hi,cap) w:=by
 have key:∀(k:IntKind) (n y:Nat) (code:BoundsCode),n≤y→(Instr.sliceBound (.int k n) y code).run P w=.ok n w:=λk n y code h=>by
  have:=Zf (P:=P) k n y code (Int.natCast_nonneg _) (Int.ofNat_le.2 h) w;simpa using this
 rcases lo with _|⟨k,i⟩<;>rcases lo' with _|x<;>simp at h1<;>rcases hi with _|⟨k',j⟩<;>rcases hi' with _|y<;>simp at h2 <;>
  simp only[bndL,Option.map_none,Option.map_some,Option.toList_none,Option.toList_some,List.nil_append,List.append_nil,List.cons_append,List.map_cons,List.map_nil,DenL] at d<;>simp only[bl,bh] at hl hh ⊢
 ·simp only[Instr.sliceBounds,Option.map_none,Sem.run_bind,Sem.run_pure,Result.andThen_ok]
 ·simp only[Instr.sliceBounds,Option.map_none,Option.map_some,Xh d.1,Sem.run_bind,Sem.run_pure,Result.andThen_ok,key k' j cap _ hh]
 ·simp only[Instr.sliceBounds,Option.map_none,Option.map_some,Xh d.1,Sem.run_bind,Sem.run_pure,Result.andThen_ok,key k i len _ hl]
 ·simp only[Instr.sliceBounds,Option.map_some,Xh d.1,Xh d.2.1,Sem.run_bind,Sem.run_pure,Result.andThen_ok,key k' j cap _ hh,key k i j _ hl]
def bslV(b j l h m n:Nat):AVal:=bif Nat.beq m l then .bsl b j 0 0 else .bsl b (j+l*n) (h-l) (m-l)
theorem YbM{g:Gm}{b j l h m n:Nat}{cb:CB}(ec:g.c b=some cb)(h1:l≤h)(h2:h≤m) :
  g.den (bslV b j l h m n) (.slice (some (if m=l then ⟨cb.blk,j,none⟩ else Addr.add ⟨cb.blk,j,none⟩ (l*n))) (h-l) (m-l)):=by
 unfold bslV;by_cases e:m=l
 ·subst e;have h3:h-m=0:=by omega
  rw[YIP rfl,Nat.sub_self,h3,show Nat.beq m m=true from Nat.beq_refl m];exact .bsl _ _ _ _ _ _ ec (Nat.le_refl _)
 ·have:Nat.beq m l=false:=by cases hb:Nat.beq m l with|false=>rfl|true=>exact(e (YNB hb)).elim
  rw[YIN e,this,ZD];exact .bsl _ _ _ _ _ _ ec (by omega)
theorem Xbn{op:Op}{len n:Nat}{a b:Bool}{os:List Operand}(hc:CompX P op (.sliceA len n a b) os) :
  ∃(t:TypeId) (x:Operand) (lo hi:Option Operand) (e:TypeId),op=.slice t x lo hi none∧a=lo.isSome∧b=hi.isSome∧os=[x]++lo.toList++hi.toList∧P.underlying t=some (.array len e)∧size? P e=some n:=by
 cases hc<;>grind
theorem Zcc(len n b j:Nat)(lo hi:Option (IntKind×Nat))(hl:bl lo≤bh len hi)(hh:bh len hi≤len)(h0:Hp) :
  OpSem P GL (.x (.sliceA len n lo.isSome hi.isSome)) (.bptr b j::bndL lo hi) h0 (bslV b j (bl lo) (bh len hi) len n) [] []:=by
 intro o os hc w0 L g h w a r hx _ _;generalize ho:o.op=op at hc;cases hc with
 |x _ _ _ hc=>
  obtain⟨t,x,lo',hi',e,rfl,q1,q2,rfl,ht,hn⟩:=Xbn hc;obtain⟨d1,d2⟩:=hx;generalize hu:a.eval x=u0 at d1;cases d1 with
  |bptr _ _ _ cb ec=>
  have hb:=YbW (P:=P) q1 q2 d2 (isS:=false) hl hh w;have hrun:(execOp a.eval o).run P w=.ok (.value (.slice (some (if len=bl lo then ⟨cb.blk,j,none⟩ else Addr.add ⟨cb.blk,j,none⟩ (bl lo*n))) (bh len hi-bl lo) (len-bl lo))) w:=by
   simp_all [execOp,Instr.sliceAt,Instr.sureAddr,run_underlying,Qq]
  rw[hrun];exact Out.here r (YbM ec hl hh)
theorem Ycc(sz b j n cap:Nat)(lo hi:Option (IntKind×Nat))(hl:bl lo≤bh n hi)(hh:bh n hi≤cap)(h0:Hp) :
  OpSem P GL (.sliceS sz lo.isSome hi.isSome false) (.bsl b j n cap::bndL lo hi) h0 (bslV b j (bl lo) (bh n hi) cap sz) [] []:=by
 intro o os hc w0 L g hp w a r hx _ _;obtain⟨t,x,lo',hi',mx,e,ho,q1,q2,hl3,rfl,hu,hn⟩:=Ym hc;obtain rfl:mx=none:=by cases mx<;>first|rfl|cases hl3
 simp only[Option.toList_none,List.append_nil,List.cons_append,List.nil_append,List.map_cons] at hx;obtain⟨d1,d2⟩:=hx;generalize hv:a.eval x=u0 at d1;cases d1 with
 |bsl _ _ _ _ _ cb ec hle=>
 rw[Yo ho hu hn hv (l:=bl lo) (h:=bh n hi) (m:=cap) (YbW (P:=P) q1 q2 d2 (isS:=true) hl hh w)];have:=YbM (n:=sz) ec hl hh (j:=j);have e2:(if cap=bl lo then some (⟨cb.blk,j,none⟩:Addr) else Option.map (λx:Addr=>x.add (bl lo*sz)) (some (⟨cb.blk,j,none⟩:Addr)))=some (if cap=bl lo then (⟨cb.blk,j,none⟩:Addr) else Addr.add ⟨cb.blk,j,none⟩ (bl lo*sz)):=by
  split<;>rfl
 rw[e2];exact Out.here r this
theorem Zbw(k:IntKind)(sz b j n cap i:Nat)(hi:i<n)(h0:Hp):OpSem P GL (.idxAddrS sz) [.bsl b j n cap,.int k i] h0 (.bptr b (j+i*sz)) [] []:=by
 intro o os hc w0 L g h w a r hx hrd _;generalize ho:o.op=op at hc;cases hc with
 |idxAddrS t z q e _ hu hn=>
  obtain⟨d,d2,_⟩:=hx;generalize hu0:a.eval z=u0 at d;cases d with
  |bsl _ _ _ _ _ cb ec hle=>
   simp only[execOp,ho,hu0,Xh d2,Instr.indexAt,asIntOf,Sem.run_bind,run_underlying hu,Result.andThen_ok,Sem.run_pure];rw[YIP ⟨Int.natCast_nonneg _,Int.ofNat_lt.2 hi⟩];simp only[Sem.run_bind,Qq hn,Result.andThen_ok,Sem.run_pure,ZD,Int.toNat_natCast];exact Out.here r (.bptr _ _ _ _ ec)
theorem ZcS(b j n cap:Nat)(h0:Hp):OpSem P GL .lenS [.bsl b j n cap] h0 (.int .i64 n) [] []:=by
 intro o os hc w0 L g h w a r hx _ _;generalize ho:o.op=op at hc;cases hc with
 |lenS t e z hu=>
  have d:=hx.1;generalize hu0:a.eval z=u0 at d;cases d with
  |bsl _ _ _ _ _ cb ec hle=>
   have:(execOp a.eval o).run P w=.ok (.value (.int .i64 n)) w:=by
    simp[execOp,ho,resolve,invoke,builtin,Builtin.len_,hu0,run_underlying hu,goInt]
   rw[this];exact Out.here r (.int _ _ _)
theorem QaJ{n:Nat}:∀ {ys:List (List AVal)},(∀(i:Nat) (row:List AVal),ys[i]?=some row→row.length=n)→ys.flatten.length=ys.length*n ∧
  ∀k x,ys.flatten[k]?=some x→∃i j row,k=i*n+j∧ys[i]?=some row∧row[j]?=some x
 |[],_=>⟨by simp,by simp⟩
 |r::ys,h=>by
  obtain⟨h1,h2⟩:=QaJ (ys:=ys) (λi row e=>h (i+1) row (by simpa using e));have hr:=h 0 r rfl;refine⟨by simp[h1,hr,Nat.add_mul,Nat.add_comm],λk x e=>?_⟩;rw[List.flatten_cons,List.getElem?_append] at e;split at e
  ·exact⟨0,k,r,by omega,rfl,e⟩
  ·obtain⟨i,j,row,e1,e2,e3⟩:=h2 _ _ e;exact⟨i+1,j,row,by rw[Nat.succ_mul]; omega,by simpa using e2,e3⟩
theorem YcR(n b j len cap:Nat)(y:AVal)(ys:List (List AVal))(rd:List Nat)(row row':List AVal)(h0:Hp)(hb:h0 b=some (.box row))(hy0:SrcIs h0 n y ys rd)
 (hcl:∀r∈ys,∀x∈r,AVal.cell x=true)(hsp:splice j ((ys.take len).flatten) row=some row') :
  OpSem P GL (.x (.copyS n)) [.bsl b j len cap,y] h0 (.int .i64 (Nat.min ys.length len)) rd [(b,.box row')]:=by
 intro o os hc w0 L g h w a r hx hrd hup';have hb':h b=some (.box row):=by simp_all
 generalize ho:o.op=op at hc;cases hc with
 |x _ _ _ hc=>
 cases hc with
 |copyS t t' e x1 x2 _ ht hn hn0=>
  obtain⟨d1,d2,_⟩:=hx;generalize hu1:a.eval x1=u1 at d1;generalize hu2:a.eval x2=u2 at d2;obtain⟨F,f1,f2,f3,f4,_⟩:=Zbi (P:=P) r hy0 hrd d2;cases d1 with
  |bsl _ _ _ _ _ cb ec hle=>
  cases hvirt:cb.virt with
  |true=>have:=r.hollow b _ cb hb' rfl ec hvirt; cases this
  |false=>
  obtain⟨_,_,o',ho',arr,T,rfl,hs,hden⟩:=r.own b _ cb hb' rfl ec hvirt;have hm:Nat.min ys.length len≤ys.length:=Nat.min_le_left _ _;have f2':=f2 _ hm;obtain⟨s1,s2,s3⟩:=Z5 hsp;have hrows:∀(i:Nat) (row:List AVal),(ys.take len)[i]?=some row→row.length=n:=λi row e=>by
   rw[List.getElem?_take] at e;split at e
   ·exact f3 i row e
   ·cases e
  obtain⟨l1,l2⟩:=QaJ hrows;have hlen:(ys.take len).length=Nat.min ys.length len:=by rw[List.length_take,Nat.min_comm]
  rw[hlen] at l1;generalize hM:Nat.min ys.length len=m at *;have hval:∀k x,((ys.take len).flatten)[k]?=some x→x.cell=true∧g.den x (F k):=by
   intro k x e;obtain⟨i,j',row2,e1,e2,e3⟩:=l2 k x e;have e2':ys[i]?=some row2:=by
    rw[List.getElem?_take] at e2;split at e2
    ·exact e2
    ·cases e2
   exact⟨hcl row2 (List.mem_of_getElem? e2') x (List.mem_of_getElem? e3),by rw[e1]; exact f4 i row2 j' x e2' e3⟩
  have hone:∀v∈(List.range (m*n)).map F,v.oneCell'=true:=by
   intro v hv;obtain⟨k,hk,rfl⟩:=List.mem_map.1 hv;have hk:k<((ys.take len).flatten).length:=by rw[l1]; exact List.mem_range.1 hk
   obtain⟨h1,h2⟩:=hval k _ (List.getElem?_eq_getElem hk);exact Xar h1 h2
  have hst:∃cur',(storeCells ⟨cb.blk,j,none⟩ ((List.range (m*n)).map F)).run P w=.ok () (w.setRow cb.blk cur')∧cur'.size=row'.length∧∀(k:Nat) (y:AVal) (u:Value),row'[k]?=some y→cur'[k]?=some u→g.den y u:=by
   by_cases hz:m*n=0
   ·have hc0:(ys.take len).flatten=[]:=List.length_eq_zero_iff.1 (by rw[l1,hz]);rw[hc0] at hsp;have hrow:row'=row:=by simp[splice] at hsp; exact hsp.symm
    subst hrow;exact⟨arr,by rw[hz]; simp only[List.range_zero,List.map_nil,storeCells]; rw[setRow_self w cb.blk arr T (0,0) ho']; rfl,hs,hden⟩
   ·have hfit:j+0+((List.range (m*n)).map F).length≤arr.size:=by
     have:=s2 (by intro e; rw[e] at l1; exact hz l1.symm);simp only[List.length_map,List.length_range]; omega
    refine⟨_,run_storeCells_at P cb.blk j T _ 0 arr w ho' hfit hone,?_,λk y u e1 e2=>?_⟩
    ·simp only[List.length_map,List.length_range] at hfit;simp; omega
    ·rw[s3 k,l1] at e1;simp only[List.length_map,List.length_range,Nat.add_zero,Nat.zero_add] at hfit e2;by_cases hk:j≤k∧k<j+m*n
     ·rw[YIP hk] at e1;have:=(hval _ _ e1).2;have hu:u=F (k-j):=by
       simp only[List.getElem?_toArray] at e2;rw[List.getElem?_append_left (by simp; omega),List.getElem?_append_right (by simp; omega)] at e2;simp only[List.length_take,Array.length_toList] at e2;rw[Nat.min_eq_left (by omega)] at e2;rw[List.getElem?_map,List.getElem?_range (by omega)] at e2;simpa using e2.symm
      rw[hu]; exact this
     ·rw[YIN hk] at e1;refine hden k y u e1 ?_;simp only[List.getElem?_toArray] at e2;by_cases hk1:k<j
      ·rw[List.getElem?_append_left (by simp; omega),List.getElem?_append_left (by simp; omega),List.getElem?_take_of_lt hk1] at e2;simpa using e2
      ·rw[List.getElem?_append_right (by simp; omega)] at e2;simp only[List.length_append,List.length_take,Array.length_toList,List.length_map,List.length_range] at e2;rw[Nat.min_eq_left (by omega),List.getElem?_drop,show j+m*n+(k-(j+m*n))=k by omega] at e2;simpa using e2
  obtain⟨cur',g1,g2,g3⟩:=hst;have hrun:(execOp a.eval o).run P w=.ok (.value (.int .i64 m)) (w.setRow cb.blk cur'):=by
   have:(Builtin.copy_ #[t,t'] o.type #[.slice (some ⟨cb.blk,j,none⟩) len cap,u2]).run P w=.ok (.int .i64 m) (w.setRow cb.blk cur'):=by
    simp[Builtin.copy_,run_underlying ht,f1,hM,Qq hn,f2',g1,goInt]
   simp_all [execOp,resolve,invoke,builtin]
  rw[hrun];refine⟨g,Gm.Le.refl g,?_,.int _ _ _⟩;exact r.write hb' rfl ec hvirt rfl rfl rfl rfl (Q0 w _ arr cur' T (0,0) ho') ⟨cur',T,rfl,g2,g3⟩
theorem Zbu(w:World):∀ (l:List UInt8) (s:ByteArray),(forIn (m:=Sem) (l.map λc=>Value.int .u8 (c.toNat:Int)) s (λc s=>do
  match c with
  |.int .u8 n=>pure (ForInStep.yield (s.push (UInt8.ofNat n.toNat)))
  |_=>do
   stuck "bytesToString: byte expected"
   pure (ForInStep.yield s))).run P w=.ok ⟨s.data ++ l.toArray⟩ w
 |[],s=>by simp[Sem.run_pure]
 |c::l,s=>by
  have ih:=Zbu w l (s.push c);simp only[List.map_cons,List.forIn_cons,Sem.run_bind,Sem.run_pure,Result.andThen_ok,Int.toNat_natCast,UInt8.ofNat_toNat];rw[ih]
  congr 1
  simp[ByteArray.push]
theorem YcB(y:AVal)(s:List UInt8)(rd:List Nat)(h0:Hp)(hy0:SrcIs h0 1 y (s.map λc=>[.int .u8 c.toNat]) rd)(hns:∀s,y≠.str s) :
  OpSem P GL (.x .toStr) [y] h0 (.str s) rd []:=by
 intro o os hc w0 L g h w a r hx hrd _;generalize ho:o.op=op at hc;cases hc with
 |x _ _ _ hc=>
 cases hc with
 |toStr st dt e x hs he hd=>
  obtain⟨d1,_⟩:=hx;generalize hu1:a.eval x=u1 at d1;obtain⟨F,f1,f2,f3,f4,f5⟩:=Zbi (P:=P) r hy0 hrd d1;obtain⟨p,cap,hv⟩:=f5 hns;simp only[List.length_map] at hv f2;have f2':=f2 s.length (Nat.le_refl _);rw[hv,Nat.mul_one] at f2';have hF:(List.range s.length).map F=s.map λc=>Value.int .u8 (c.toNat:Int):=by
   apply List.ext_getElem
   ·simp
   ·intro i h1 h2;simp only[List.length_map,List.length_range] at h1;have:=f4 i [.int .u8 (s[i].toNat:Int)] 0 (.int .u8 (s[i].toNat:Int)) (by simp[h1]) rfl;simp only[Nat.mul_one,Nat.add_zero] at this;simp only[List.getElem_map,List.getElem_range];exact Xh this
  have hrun:(Conv.bytesToString u1).run P w=.ok (.string ⟨s.toArray⟩) w:=by
   rw[hv];cases p with
   |none=>
    simp only[Builtin.firstCells,Sem.run_pure,Result.ok.injEq,and_true] at f2';have:s=[]:=by
     have:=congrArg Array.size f2';simp at this;exact List.length_eq_zero_iff.1 this.symm
    subst this;rfl
   |some ad=>
    simp only[Builtin.firstCells,Nat.mul_one] at f2';unfold Conv.bytesToString;simp only[Sem.run_bind,f2',Result.andThen_ok,hF];have:=Zbu (P:=P) w s .empty;simp only[List.forIn_toArray];refine Eq.trans (congrArg (λr=>Result.andThen r _) this) ?_;simp[Sem.run_pure]
  have hrun2:(execOp a.eval o).run P w=.ok (.value (.string ⟨s.toArray⟩)) w:=by
   simp[execOp,ho,convert,run_underlying hs,run_underlying hd,run_underlying he,hu1,hv];rw[hv] at hrun;simp[hrun]
  rw[hrun2];have:=Den.str (M:=g.M) g.c ⟨s.toArray⟩;simp only at this;exact Out.here r this
theorem Rep.toM{w0:World}{L:Ln}{g:Gm}{h:Hp}{w:World}(r:Rep GL w0 L g h w){b:Nat}{blk:ABlk}{cb:CB}(e:h b=some blk)(hl:blk.live=true)(ec:g.c b=some cb)(hv:cb.virt=false)
 {o':Obj}{w':World}(hos:w'.os=w.os)(htape:w'.tape=w.tape)(hout:w'.output=w.output)(hheap:w'.heap=w.heap.setIfInBounds cb.blk o') :
  g.Le ⟨mup g.M cb.blk o',g.c,g.dk⟩∧Rep GL w0 L ⟨mup g.M cb.blk o',g.c,g.dk⟩ (hup h b .dead) w':=by
 have hlt:=r.lt_of_own e hl ec hv;obtain⟨hM,hin,_⟩:=r.own b blk cb e hl ec hv;have mle:=Xct (o:=o') hM;have other:∀k,k≠cb.blk→w'.heap[k]?=w.heap[k]?:=by
  grind
 have hb0:∀n x,hup h b .dead n=some x→x.live=true→n≠b∧h n=some x:=by
  intro n x en hln;by_cases hn:n=b
  ·subst hn; rw[Zl] at en; cases en; cases hln
  ·rw[Yk _ _ hn] at en; exact⟨hn,en⟩
 refine⟨⟨mle,CLe.refl _,rfl⟩,?_⟩;exact {
  keeps:=r.keeps.trans' hos htape hout (by rw[hheap]; simp) (λk hk hkl=>other k (by
   grind))
  stable:=λk o ek=>by
   by_cases hk:k=cb.blk
   ·subst hk;have:mup g.M cb.blk o' cb.blk=some o:=ek;simp[mup] at this; subst this;rw[hheap]; simp[hlt]
   ·have ek':mup g.M cb.blk o' k=some o:=ek;simp[mup,hk] at ek';rw[other k hk]; exact r.stable k o ek'
  globs:=λp hp=>(r.globs p hp).mono mle (CLe.refl _)
  mks:=r.mks
  src:=λk o ek=>by
   by_cases hk:k=cb.blk
   ·subst hk; rcases hin with hin|hin
    ·exact .inr (.inr hin)
    ·exact .inr (.inl hin)
   ·have ek':mup g.M cb.blk o' k=some o:=ek;simp[mup,hk] at ek'; exact r.src k o ek'
  empt:=λn en=>by
   by_cases hn:n=b
   ·subst hn; rw[Zl] at en; cases en
   ·rw[Yk _ _ hn] at en; exact r.empt n en
  dom:=λn x en=>by
   by_cases hn:n=b
   ·subst hn; exact⟨cb,ec⟩
   ·rw[Yk _ _ hn] at en; exact r.dom n x en
  own:=λn x cb' en hln ecn hvn=>by
   obtain⟨hn,en⟩:=hb0 n x en hln;obtain⟨h1,h2,o,ho,hok⟩:=r.own n x cb' en hln ecn hvn;have hne:cb'.blk≠cb.blk:=λeq=>hn (r.inj n b x blk cb' cb en e hln hl ecn ec hvn hv eq);refine⟨?_,h2,o,by rw[other _ hne]; exact ho,hok.mono mle (CLe.refl _)⟩;show mup g.M cb.blk o' cb'.blk=none;simp[mup,hne,h1]
  hollow:=λn x cb' en hln ecn hvn=>by
   obtain⟨hn,en⟩:=hb0 n x en hln;exact r.hollow n x cb' en hln ecn hvn
  inj:=λn n' x x' cb1 cb2 e1 e2 l1 l2 c1 c2 v1 v2 hblk=>by
   obtain⟨_,e1⟩:=hb0 n x e1 l1;obtain⟨_,e2⟩:=hb0 n' x' e2 l2;exact r.inj n n' x x' cb1 cb2 e1 e2 l1 l2 c1 c2 v1 v2 hblk }
end
end Go.Ah
end
