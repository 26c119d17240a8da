/- Part of the proof that WakeRests holds of the program for arguments that together hold at most 1048576 values and letters; no other condition. -/
import Derived.WalkKit
import Derived.IntWalk
import Derived.ChangeKeysEq
import Derived.Deep.LoopGhost
set_option linter.all false
open Array renaming ext_getElem?->zDs,getD_eq_getD_getElem?->zBU,getElem?_eq_getElem->zBD,getElem?_eq_some_iff->zCF,getElem?_setIfInBounds_ne->zBb,getElem?_toList->zBM,getElem_extract->zBx,length_toList->zAy,range->zCN,replicate->zBq,size_append->zDy,toArray_toList->zCB,toList_map->zBn
open Bool renaming and_eq_true->AI,false_eq_true->zAS,not_false->zBw
open Go.Act renaming put->zDb
open Go.Addr renaming add->zDz
open Go.Builtin renaming append_->zBE,clear_->zBt,firstCells->zBA,lenOf->zCK,len_->zCC,nextslicecap->zCb,zeroCells->zAx
open Go.ByteArray renaming toList_eq->zCa
open Go.Calls renaming mono->zDN
open Go.Deferred renaming ofValue->zCl
open Go.Ending renaming returned->zCV
open Go.Instr renaming buildSlice->zCO,fill->zDI,findNow->zBT,indexAt->zDT,keyThatStays->zDr,loadAt->zCU,lookup->zDa,mapUpdate->zDE,next->zDH,sameBits->zCg,sameNow->zDS,slice->zDD,sliceAt->zDY,sliceBound->zEE,sliceBounds->zAO,sureAddr->zBW,typeAssert->zBH
open Go.IntKind renaming i64->BY
open Go.Op renaming equalIn->zCc,intDiv->zDe,stringOp->zDt
open Go.Region renaming wanted->zCm
open Go.Result renaming andThen_ok->AS
open Go.Sem renaming run->zCZ,run_bind->OF,run_ite->zDo,run_pure->zAA
open Go.Utf8 renaming decode->zBc
open Go.Value renaming iface->zBz
open List renaming append_assoc->zAa,getElem?_append->zDl,getElem?_append_left->zAV,getElem?_append_right->zAQ,getElem?_cons_succ->zCQ,getElem?_cons_zero->zCP,getElem?_drop->zCs,getElem?_eq_none->zCd,getElem?_replicate->zBd,getElem?_take->zCI,getElem?_take_of_lt->zDV,getElem?_toArray->zBY,getElem_mem->AT,length_append->By,length_cons->IS,length_drop->zDB,length_eq_zero_iff->zAW,map_cons->zAN,map_map->zCE,mem_cons_of_mem->zAn,mem_iff_getElem?->zBi,mem_of_getElem?->zAK,range->zAC,range'->zBG,range'_succ->zDF,replicate->zAd,size_toArray->zEB
open List.cons renaming injEq->zCL
open Nat renaming add_assoc->zBQ,add_le_add_left->zCp,add_mul->zBX,add_zero->zBj,beq->IN,beq_refl->zBf,ble->zAP,blt->zAi,div_add_mod->zDG,div_lt_iff_lt_mul->zCe,le_refl->IT,le_trans->zAY,mod_eq_of_lt->zCT,mod_lt->zDQ,mul_le_mul_right->zAE,pos_of_ne_zero->zBr,sub_mul->zCn,succ_mul->zBP,zero_add->No,zero_le->zBB,zero_mul->zDf
open Option renaming getD_some->zAo,isSome_iff_exists->zAB,map_none->zCy
open Option.some renaming inj->zBy,injEq->zBl
section
theorem cA(b:Bool):b=true∨b=false:=Bool.eq_false_or_eq_true b
theorem gK{α:Type}{l:List α}{i:Nat}{a:α}:l[i]?=some a→∃h:i<l.length,l[i]=a:=List.getElem?_eq_some_iff.1
theorem fV{n m:Nat}:IN n m=true→n=m:=Nat.eq_of_beq_eq_true
theorem ik{n m:Nat}:zAP n m=true→n<=m:=Nat.le_of_ble_eq_true
theorem aE{c:Prop}{h:Decidable c}(wP:¬c){α:Sort _}{t e:α}:ite c t e=e:=if_neg wP
theorem aJ{c:Prop}{h:Decidable c}(hc:c){α:Sort _}{t e:α}:ite c t e=t:=if_pos hc
theorem fE{p:Prop}[Decidable p]:(decide p=true)=p:=decide_eq_true_eq
theorem fk{p:Prop}[inst:Decidable p]:p→decide p=true:=decide_eq_true
theorem gm{p:Prop}[inst:Decidable p]:¬p→decide p=false:=decide_eq_false
theorem sG{p:Prop}{h:Decidable p}:(decide p=false)↔¬p:=decide_eq_false_iff_not
theorem gI{α:Type}{i:Nat}{l:List α}(h:i<l.length):l.drop i=l[i]::l.drop (i+1):=List.drop_eq_getElem_cons h
namespace Go.Ah
open Go.RowKit (Below)
inductive aa where
 |aQ
 |bool (b:Bool)
 |int (k:IntKind) (n:Int)
 |str (s:List UInt8)
 |fj
 |ak (b j:Nat)
 |ptr (b i j:Nat)
 |aq (row:List aa) (j:Nat)
 |an
 |cS
 |sl (b off len:Nat) (ex:Bool)
 |aU (ex nn:Bool) (sz:Nat) (rows:List (List aa))
 |map (b:Nat)
 |fL (es:List (aa×aa))
 |cQ
 |func (fn:Fn) (first captured:List aa)
 |bH
 |iface (t:TypeId) (v:aa)
 |dp
 |agg (cs:List aa)
 |bp (vs:List aa)
 |when (cs:List (Bool×Bool)) (x:aa)
 |iter (b:Nat)
 deriving Inhabited
structure CB where
 blk:Nat
 sz:Nat
 vu:Nat
 cK:Bool
 base:Nat
def iL(M:Nat→Option Obj)(b o:Nat):Option Value:=
 match M b with
 |some (.cells c _ _)=>c[o]?
 |_=>none
abbrev Own:=Nat→Option CB
def bA:Own:=λ_=>none
inductive Den (M:Nat→Option Obj):Own→aa→Value→Prop
 |aQ (c:Own) (v:Value):Den M c .aQ v
 |bool (c:Own) (b:Bool):Den M c (.bool b) (.bool b)
 |int (c:Own) (k:IntKind) (n:Int):Den M c (.int k n) (.int k n)
 |str (c:Own) (s:ByteArray):Den M c (.str s.data.toList) (.string s)
 |fj (c:Own):Den M c .fj (.pointer none)
 |ak (c:Own) (b j:Nat) (cb:CB):c b=some cb→Den M c (.ak b j) (.pointer (some ⟨cb.blk,j,none⟩))
 |ptr (c:Own) (b i j:Nat) (cb:CB):c b=some cb→Den M c (.ptr b i j) (.pointer (some ⟨cb.blk,cb.base+i*cb.sz+j,none⟩))
 |aq (c:Own) (row:List aa) (j blk off:Nat) (f:Nat→Value) :
   (∀k,k<row.length→iL M blk (off+k)=some (f k)) →
   (∀k x,row[k]?=some x→Den M bA x (f k)) →
   Den M c (.aq row j) (.pointer (some ⟨blk,off+j,none⟩))
 |an (c:Own):Den M c .an (.slice none 0 0)
 |cS (c:Own) (a:Option Addr):Den M c .cS (.slice a 0 0)
 |sl (c:Own) (b off len:Nat) (ex:Bool) (cb:CB) (cap:Nat):c b=some cb→cb.cK=false→len<=cap→cb.base+(off+cap)*cb.sz=cb.vu →
   (ex=true→cap=len)→Den M c (.sl b off len ex) (.slice (some ⟨cb.blk,cb.base+off*cb.sz,none⟩) len cap)
 |oV (c:Own) (b:Nat) (ex:Bool) (cb:CB) (a:Option Addr):c b=some cb→cb.cK=true→Den M c (.sl b 0 0 ex) (.slice a 0 0)
 |sle (c:Own) (b off:Nat) (ex:Bool) (cb:CB) (a:Option Addr):c b=some cb→cb.cK=false→cb.sz≠0→cb.base+off*cb.sz=cb.vu→Den M c (.sl b off 0 ex) (.slice a 0 0)
 |aU (c:Own) (ex nn:Bool) (sz:Nat) (rows:List (List aa)) (a:Option Addr) (cap blk off:Nat) (f:Nat→Nat→Value) :
   (ex=true→cap=rows.length)→(nn=true→a.isSome=true)→(rows≠[]→a=some ⟨blk,off,none⟩)→(a=none→cap=0)→rows.length<=cap →
   (∀(i:Nat) (row:List aa),rows[i]?=some row→row.length=sz) →
   (∀i j,i<rows.length→j<sz→iL M blk (off+(i*sz+j))=some (f i j)) →
   (∀i row j x,rows[i]?=some row→row[j]?=some x→Den M bA x (f i j)) →
   Den M c (.aU ex nn sz rows) (.slice a rows.length cap)
 |map (c:Own) (b:Nat) (cb:CB):c b=some cb→Den M c (.map b) (.map (some cb.blk))
 |fL (c:Own) (es:List (aa×aa)) (blk:Nat) (arr:Array MapEntry) (clock:Nat):M blk=some (.map arr clock)→arr.size=es.length →
   (∀(i:Nat) (k x:aa) (e:MapEntry),es[i]?=some (k,x)→arr[i]?=some e→Den M bA k e.key) →
   (∀(i:Nat) (k x:aa) (e:MapEntry),es[i]?=some (k,x)→arr[i]?=some e→Den M bA x e.val) →
   Den M c (.fL es) (.map (some blk))
 |cQ (c:Own):Den M c .cQ (.map none)
 |func (c:Own) (fn:Fn) (first captured:List aa) (vs ws:Array Value):vs.size=first.length→ws.size=captured.length →
   (∀(i:Nat) (x:aa) (v:Value),first[i]?=some x→vs[i]?=some v→Den M c x v)→(∀(i:Nat) (x:aa) (v:Value),captured[i]?=some x→ws[i]?=some v→Den M c x v) →
   Den M c (.func fn first captured) (.func fn vs ws)
 |bH (c:Own):Den M c .bH .nilFunc
 |iface (c:Own) (t:TypeId) (x:aa) (v:Value):Den M c x v→Den M c (.iface t x) (.iface t v)
 |dp (c:Own):Den M c .dp .nilIface
 |agg (c:Own) (cs:List aa) (vs:Array Value):vs.size=cs.length→(∀(i:Nat) (x:aa) (v:Value),cs[i]?=some x→vs[i]?=some v→Den M c x v)→Den M c (.agg cs) (.agg vs)
 |bp (c:Own) (cs:List aa) (vs:Array Value):vs.size=cs.length→(∀(i:Nat) (x:aa) (v:Value),cs[i]?=some x→vs[i]?=some v→Den M c x v)→Den M c (.bp cs) (.tuple vs)
 |when (c:Own) (cs:List (Bool×Bool)) (x:aa) (v:Value):((∀p∈cs,p.1=p.2)→Den M c x v)→(¬(∀p∈cs,p.1=p.2)→v=undef)→Den M c (.when cs x) v
 |iter (c:Own) (b:Nat) (cb:CB):c b=some cb→Den M c (.iter b) (.pointer (some ⟨cb.blk,0,none⟩))
def i9(M M':Nat→Option Obj):Prop:=∀b o,M b=some o→M' b=some o
def gH(c c':Own):Prop:=∀b cb,c b=some cb→c' b=some cb
theorem i9.refl(M:Nat→Option Obj):i9 M M:=λ_ _ h=>h
theorem i9.trans{a b c:Nat→Option Obj}(h:i9 a b)(k:i9 b c):i9 a c:=λx o e=>k x o (h x o e)
theorem gH.refl(c:Own):gH c c:=λ_ _ h=>h
theorem gH.trans{a b c:Own}(h:gH a b)(k:gH b c):gH a c:=λx o e=>k x o (h x o e)
theorem gH.bA(c:Own):gH bA c:=λ_ _ h=>by simp[Ah.bA]at h
theorem Wq{M M':Nat→Option Obj}(h:i9 M M'){b o:Nat}{v:Value}(e:iL M b o=some v):iL M' b o=some v:=by
 unfold iL at *;cases hb:M b with
 |none=>simp[hb]at e
 |some x=>rw[h b x hb];simpa[hb]using e
theorem Den.mono{M M':Nat→Option Obj}(hM:i9 M M'){c:Own}{x:aa}{v:Value}(h:Den M c x v):∀ {c':Own},gH c c'→Den M' c' x v:=by
 induction h with
 |aQ=>intros;exact .aQ _ _
 |bool=>intros;exact .bool _ _
 |int=>intros;exact .int _ _ _
 |str=>intros;exact .str _ _
 |fj=>intros;exact .fj _
 |ak c b j cb e=>intro c' hc;exact .ak _ _ _ _ (hc _ _ e)
 |ptr c b i j cb e=>intro c' hc;exact .ptr _ _ _ _ _ (hc _ _ e)
 |aq c row j blk off f h1 h2 ih=>intro c' hc;exact .aq _ _ _ _ _ f (λk hk=>Wq hM (h1 k hk)) (λk x e=>ih k x e (gH.refl _))
 |an=>intros;exact .an _
 |cS=>intros;exact .cS _ _
 |sl c b off len ex cb cap e h1 h2 h3 h4=>intro c' hc;exact .sl _ _ _ _ _ _ _ (hc _ _ e) h1 h2 h3 h4
 |oV c b ex cb a e h1=>intro c' hc;exact .oV _ _ _ _ _ (hc _ _ e) h1
 |sle c b off ex cb a e h1 h2 h3=>intro c' hc;exact .sle _ _ _ _ _ _ (hc _ _ e) h1 h2 h3
 |aU c ex nn sz rows a cap blk off f h1 h2 h3 uH h4 h5 h6 h7 ih=>
  intro c' hc;exact .aU _ _ _ _ _ _ _ blk off f h1 h2 h3 uH h4 h5 (λi j hi hj=>Wq hM (h6 i j hi hj)) (λi row j x e1 e2=>ih i row j x e1 e2 (gH.refl _))
 |map c b cb e=>intro c' hc;exact .map _ _ _ (hc _ _ e)
 |fL c es blk arr clock e h1 h2 h3 u6 u7=>
  intro c' hc;exact .fL _ _ _ _ _ (hM _ _ e) h1 (λi k x en e1 e2=>u6 i k x en e1 e2 (gH.refl _)) (λi k x en e1 e2=>u7 i k x en e1 e2 (gH.refl _))
 |cQ=>intros;exact .cQ _
 |func c fn first captured vs ws h1 h2 h3 h4 u6 u7=>
  intro c' hc;exact .func _ _ _ _ _ _ h1 h2 (λi x v e1 e2=>u6 i x v e1 e2 hc) (λi x v e1 e2=>u7 i x v e1 e2 hc)
 |bH=>intros;exact .bH _
 |iface c t x v h ih=>intro c' hc;exact .iface _ _ _ _ (ih hc)
 |dp=>intros;exact .dp _
 |agg c cs vs h1 h2 ih=>intro c' hc;exact .agg _ _ _ h1 (λi x v e1 e2=>ih i x v e1 e2 hc)
 |bp c cs vs h1 h2 ih=>intro c' hc;exact .bp _ _ _ h1 (λi x v e1 e2=>ih i x v e1 e2 hc)
 |when c cs x v h h2 ih=>intro c' hc;exact .when _ _ _ _ (λhp=>ih hp hc) h2
 |iter c b cb e=>intro c' hc;exact .iter _ _ _ (hc _ _ e)
def aa.cell:aa→Bool
 |.aQ | .agg _ | .bp _ | .when ..=>false
 |_=>true
theorem Den.uh{M:Nat→Option Obj}{c:Own}{x:aa}{v:Value}(h:Den M c x v)(hx:x.cell=true):v.oneCell'=true:=by
 cases h<;>simp_all [aa.cell,Value.oneCell']
inductive ab where
 |dead
 |box (row:List aa)
 |rows (sz:Nat) (rows:List (List aa))
 |map (es:List (aa×aa))
 |fw (s:List UInt8) (pos:Nat)
 |full (sz:Nat) (rows:List (List aa))
 deriving Inhabited
def ab.live:ab→Bool
 |.dead=>false
 |_=>true
def iG(M:Nat→Option Obj)(c:Own)(cb:CB)(o:Obj):ab→Prop
 |.dead=>True
 |.box row=>∃arr T,o=.cells arr T (0,0)∧arr.size=row.length∧∀(j:Nat) (x:aa) (v:Value),row[j]?=some x→arr[j]?=some v→Den M c x v
 |.rows sz rows=>cb.sz=sz∧∃arr T,o=.cells arr T (0,0)∧arr.size=cb.vu∧cb.base+rows.length*sz<=cb.vu∧(∀(i:Nat) (row:List aa),rows[i]?=some row→row.length=sz) ∧
   ∀(i:Nat) (row:List aa) (j:Nat) (x:aa) (v:Value),rows[i]?=some row→row[j]?=some x→arr[cb.base+i*sz+j]?=some v→Den M c x v
 |.map es=>∃arr clock,o=.map arr clock∧arr.size=es.length∧(∀(i:Nat) (k x:aa) (e:MapEntry),es[i]?=some (k,x)→arr[i]?=some e→Den M c k e.key∧Den M c x e.val)
 |.fw s p=>o=.stringIter ⟨s.toArray⟩ p
 |.full sz rows=>cb.base+rows.length*sz=cb.vu∧cb.sz=sz∧∃arr T,o=.cells arr T (0,0)∧arr.size=cb.vu∧cb.base+rows.length*sz<=cb.vu∧(∀(i:Nat) (row:List aa),rows[i]?=some row→row.length=sz) ∧
   ∀(i:Nat) (row:List aa) (j:Nat) (x:aa) (v:Value),rows[i]?=some row→row[j]?=some x→arr[cb.base+i*sz+j]?=some v→Den M c x v
theorem iG.mono{M M':Nat→Option Obj}(hM:i9 M M'){c c':Own}(hc:gH c c'){cb:CB}{o:Obj}{b:ab}(h:iG M c cb o b):iG M' c' cb o b:=by
 cases b with
 |dead=>trivial
 |box row=>obtain⟨arr,T,h1,h2,h3⟩:=h;exact⟨arr,T,h1,h2,λj x v e1 e2=>(h3 j x v e1 e2).mono hM hc⟩
 |rows sz rows=>obtain⟨h0,arr,T,h1,h2,h3,h4,h5⟩:=h;exact⟨h0,arr,T,h1,h2,h3,h4,λi row j x v e1 e2 e3=>(h5 i row j x v e1 e2 e3).mono hM hc⟩
 |map es=>obtain⟨arr,clock,h1,h2,h3⟩:=h;exact⟨arr,clock,h1,h2,λi k x e e1 e2=>⟨(h3 i k x e e1 e2).1.mono hM hc,(h3 i k x e e1 e2).2.mono hM hc⟩⟩
 |fw s p=>exact h
 |full sz rows=>obtain⟨hq,h0,arr,T,h1,h2,h3,h4,h5⟩:=h;exact⟨hq,h0,arr,T,h1,h2,h3,h4,λi row j x v e1 e2 e3=>(h5 i row j x v e1 e2 e3).mono hM hc⟩
structure Ln where
 l:List Nat
 M0:Nat→Option Obj
structure i7 (L:Ln) (w w':World):Prop where
 os:w'.os=w.os
 tape:w'.tape=w.tape
 output:w'.output=w.output
 size:w.heap.size<=w'.heap.size
 block:∀k,k<w.heap.size→k∉L.l→w'.heap[k]?=w.heap[k]?
theorem i7.refl(L:Ln)(w:World):i7 L w w:=⟨rfl,rfl,rfl,IT _,λ_ _ _=>rfl⟩
theorem i7.below{M:Nat→Option Obj}{w w':World}(h:i7 ⟨[],M⟩ w w'):Below w.heap.size w w':=⟨h.os,h.tape,h.output,h.size,λk hk=>h.block k hk (by simp)⟩
abbrev Hp:=Nat→Option ab
def ei(h:Hp)(b:Nat)(x:ab):Hp:=λn=>if n=b then some x else h n
def cw(h:Hp):List (Nat×ab)→Hp
 |[]=>h
 |(b,x)::r=>cw (ei h b x) r
structure Gm where
 M:Nat→Option Obj
 c:Own
structure Gm.Le (g g':Gm):Prop where
 m:i9 g.M g'.M
 c:gH g.c g'.c
theorem Gm.Le.refl(g:Gm):g.Le g:=⟨i9.refl _,gH.refl _⟩
theorem Gm.Le.trans{a b c:Gm}(h:a.Le b)(k:b.Le c):a.Le c:=⟨h.m.trans k.m,h.c.trans k.c⟩
def Gm.den(g:Gm)(x:aa)(v:Value):Prop:=Den g.M g.c x v
theorem Gm.lQ{g g':Gm}(h:g.Le g'){x:aa}{v:Value}(d:g.den x v):g'.den x v:=Den.mono h.m d h.c
abbrev ar:=List (Nat×List aa)
structure bx (GL:ar) (w0:World) (L:Ln) (g:Gm) (h:Hp) (w:World):Prop where
 keeps:i7 L w0 w
 aX:∀b o,g.M b=some o→w.heap[b]?=some o
 src:∀b o,g.M b=some o→L.M0 b=some o∨w0.heap.size<=b∨b∈L.l
 cr:∀p∈GL,Den g.M bA (.aq p.2 0) (.pointer (some ⟨p.1,0,none⟩))
 d_:∀b,h b=none→g.c b=none
 jn:∀b blk,h b=some blk→∃cb,g.c b=some cb
 own:∀b blk cb,h b=some blk→blk.live=true→g.c b=some cb→cb.cK=false→g.M cb.blk=none∧(cb.blk∈L.l∨w0.heap.size<=cb.blk)∧∃o,w.heap[cb.blk]?=some o∧iG g.M g.c cb o blk
 bc:∀b blk cb,h b=some blk→blk.live=true→g.c b=some cb→cb.cK=true→blk=.rows cb.sz []
 inj:∀b b' blk blk' cb eN,h b=some blk→h b'=some blk'→blk.live=true→blk'.live=true→g.c b=some cb→g.c b'=some eN→cb.cK=false→eN.cK=false→cb.blk=eN.blk→b=b'
end Go.Ah
end
section
namespace Go.Ah
theorem Qr(h:Hp)(b:Nat)(x:ab):ei h b x b=some x:=by simp[ei]
theorem Xp(h:Hp){b n:Nat}(x:ab)(e:n≠b):ei h b x n=h n:=by simp[ei,e]
def lK(c:Own)(b:Nat)(x:CB):Own:=λn=>if n=b then some x else c n
theorem Zz(c:Own)(b:Nat)(x:CB):lK c b x b=some x:=by simp[lK]
theorem X5(c:Own){b n:Nat}(x:CB)(e:n≠b):lK c b x n=c n:=by simp[lK,e]
theorem gH.lK{c:Own}{b:Nat}{x:CB}(h:c b=none):gH c (lK c b x):=by
 intro n cb e
 grind [X5]
theorem i7.trans'{L:Ln}{a b c:World}(h:i7 L a b)(os:c.os=b.os)(tape:c.tape=b.tape)(output:c.output=b.output)(size:b.heap.size<=c.heap.size)
 (block:∀k,k<a.heap.size→k∉L.l→c.heap[k]?=b.heap[k]?):i7 L a c:=
 ⟨os.trans h.os,tape.trans h.tape,output.trans h.output,zAY h.size size,λk hk hl=>(block k hk hl).trans (h.block k hk hl)⟩
section
variable {GL:ar} {w0:World} {L:Ln} {g:Gm} {h:Hp} {w:World}
theorem bx.dW(r:bx GL w0 L g h w){b:Nat}{blk:ab}{cb:CB}(e:h b=some blk)(hl:blk.live=true)(ec:g.c b=some cb)(hv:cb.cK=false):cb.blk<w.heap.size:=by
 obtain⟨_,_,o,ho,_⟩:=r.own b blk cb e hl ec hv
 grind
theorem bx.gG(r:bx GL w0 L g h w){b:Nat}{o:Obj}(e:g.M b=some o):b<w.heap.size:=
 (zCF.1 (r.aX b o e)).1
theorem bx.drew(r:bx GL w0 L g h w):bx GL w0 L g h w.drew:=
 { r with keeps:=r.keeps.trans' rfl rfl rfl (IT _) (λ_ _ _=>rfl),aX:=r.aX,own:=r.own }
theorem bx.alloc(r:bx GL w0 L g h w){nb:Nat}(hn:h nb=none){o:Obj}{blk:ab}{cb:CB}(hb:cb.blk=w.heap.size)(hv:cb.cK=false)(BF:blk.live=true)
 (ok:iG g.M (lK g.c nb cb) cb o blk):bx GL w0 L ⟨g.M,lK g.c nb cb⟩ (ei h nb blk) (w.alloc o) where
 keeps:=r.keeps.trans' rfl rfl rfl (by simp) (λk hk _=>by
  show (w.heap.push o)[k]?=_;have:=r.keeps.size
  grind)
 aX:=λb o' e=>by
  have:=r.gG e;show (w.heap.push o)[b]?=_;rw[Array.getElem?_push,aE (by omega)];exact r.aX b o' e
 cr:=r.cr
 src:=r.src
 d_:=λb e=>by
  by_cases ov:b=nb
  ·subst ov;rw[Qr]at e;cases e
  ·rw[Xp _ _ ov]at e;show lK g.c nb cb b=none;rw[X5 _ _ ov];exact r.d_ b e
 jn:=λb blk' e=>by
  by_cases ov:b=nb
  ·simp_all [Zz]
  ·rw[Xp _ _ ov]at e;obtain⟨x,hx⟩:=r.jn b blk' e;simp_all [X5]
 own:=λb blk' eN e hl ec ss=>by
  have yr:=r.d_ nb hn;by_cases ov:b=nb
  ·subst ov;rw[Qr]at e;cases e;have:eN=cb:=by grind [Zz]
   subst this;refine⟨?_,.inr (by rw[hb];exact r.keeps.size),o,?_,ok⟩
   ·cases hM:g.M eN.blk with
    |none=>rfl
    |some x=>have:=r.gG hM;omega
   ·show (w.heap.push o)[eN.blk]?=_;rw[hb];simp
  ·rw[Xp _ _ ov]at e;have gN:g.c b=some eN:=by simp_all [X5]
   obtain⟨h1,h2,o',ho,bQ⟩:=r.own b blk' eN e hl gN ss;have:=r.dW e hl gN ss;refine⟨h1,h2,o',?_,bQ.mono (i9.refl _) (gH.lK yr)⟩;show (w.heap.push o)[eN.blk]?=_
   grind
 bc:=λb blk' eN e hl ec ss=>by
  by_cases ov:b=nb
  ·grind [Zz]
  ·rw[Xp _ _ ov]at e;have gN:g.c b=some eN:=by simp_all [X5]
   exact r.bc b blk' eN e hl gN ss
 inj:=λb b' S8 S9 sg cb2 e1 e2 l1 l2 c1 c2 v1 v2 iC=>by
  have key:∀b blk' eN,ei h nb blk b=some blk'→blk'.live=true→lK g.c nb cb b=some eN→eN.cK=false→b≠nb→eN.blk<w.heap.size:=by
   intro b blk' eN e hl ec ss ov;rw[Xp _ _ ov]at e;rw[X5 _ _ ov]at ec;exact r.dW e hl ec ss
  by_cases h1:b=nb
  ·grind [Zz]
  ·by_cases h2:b'=nb
   ·grind [Zz]
   ·rw[Xp _ _ h1]at e1;rw[Xp _ _ h2]at e2;have sN:g.c b=some sg:=by simp_all [X5]
    have qR:g.c b'=some cb2:=by simp_all [X5]
    exact r.inj b b' S8 S9 sg cb2 e1 e2 l1 l2 sN qR v1 v2 iC
theorem bx.j7(r:bx GL w0 L g h w){nb:Nat}(hn:h nb=none)(cb:CB):g.Le ⟨g.M,lK g.c nb cb⟩:=⟨i9.refl _,gH.lK (r.d_ nb hn)⟩
theorem bx.write(r:bx GL w0 L g h w){b:Nat}{blk blk':ab}{cb:CB}(e:h b=some blk)(hl:blk.live=true)(ec:g.c b=some cb)(hv:cb.cK=false)(lX:blk'.live=true)
 {o':Obj}{w':World}(uT:w'.os=w.os)(wY:w'.tape=w.tape)(oF:w'.output=w.output)(wG:w'.heap=w.heap.setIfInBounds cb.blk o')
 (ok:iG g.M g.c cb o' blk'):bx GL w0 L g (ei h b blk') w':=by
 have b_:=r.dW e hl ec hv;obtain⟨hM,di,_⟩:=r.own b blk cb e hl ec hv;have other:∀k,k≠cb.blk→w'.heap[k]?=w.heap[k]?:=by
  grind
 exact {
  keeps:=r.keeps.trans' uT wY oF (by rw[wG];simp) (λk hk mw=>other k (by
   grind))
  aX:=λk o ek=>by rw[other k (by rintro rfl;rw[hM]at ek;cases ek)];exact r.aX k o ek
  cr:=r.cr
  src:=r.src
  d_:=λn en=>by
   by_cases hn:n=b
   ·subst hn;rw[Qr]at en;cases en
   ·rw[Xp _ _ hn]at en;exact r.d_ n en
  jn:=λn x en=>by
   by_cases hn:n=b
   ·subst hn;exact⟨cb,ec⟩
   ·rw[Xp _ _ hn]at en;exact r.jn n x en
  own:=λn x eN en ji qy rF=>by
   by_cases hn:n=b
   ·simp_all [Qr]
   ·rw[Xp _ _ hn]at en;obtain⟨h1,h2,o,ho,bQ⟩:=r.own n x eN en ji qy rF;refine⟨h1,h2,o,?_,bQ⟩;rw[other _ (λeq=>hn (r.inj n b x blk eN cb en e ji hl qy ec rF hv eq))];exact ho
  bc:=λn x eN en ji qy rF=>by
   by_cases hn:n=b
   ·simp_all
   ·rw[Xp _ _ hn]at en;exact r.bc n x eN en ji qy rF
  inj:=λn n' x x' sg cb2 e1 e2 l1 l2 c1 c2 v1 v2 iC=>by
   have back:∀n x,ei h b blk' n=some x→x.live=true→∃y,h n=some y∧y.live=true:=by
    grind [Xp]
   obtain⟨y1,f1,g1⟩:=back n x e1 l1;obtain⟨y2,f2,g2⟩:=back n' x' e2 l2;exact r.inj n n' y1 y2 sg cb2 f1 f2 g1 g2 c1 c2 v1 v2 iC }
theorem bx.kill(r:bx GL w0 L g h w){b:Nat}{blk:ab}(e:h b=some blk):bx GL w0 L g (ei h b .dead) w where
 keeps:=r.keeps
 aX:=r.aX
 cr:=r.cr
 src:=r.src
 d_:=λn en=>by
  by_cases hn:n=b
  ·subst hn;rw[Qr]at en;cases en
  ·rw[Xp _ _ hn]at en;exact r.d_ n en
 jn:=λn x en=>by
  by_cases hn:n=b
  ·subst hn;exact r.jn n blk e
  ·rw[Xp _ _ hn]at en;exact r.jn n x en
 own:=λn x eN en ji=>by
  by_cases hn:n=b
  ·grind [ab.live,Qr]
  ·rw[Xp _ _ hn]at en;exact r.own n x eN en ji
 bc:=λn x eN en ji=>by
  by_cases hn:n=b
  ·grind [ab.live,Qr]
  ·rw[Xp _ _ hn]at en;exact r.bc n x eN en ji
 inj:=λn n' x x' sg cb2 e1 e2 l1 l2=>by
  have back:∀n x,ei h b .dead n=some x→x.live=true→h n=some x:=by
   grind [ab.live,Qr,Xp]
  exact r.inj n n' x x' sg cb2 (back n x e1 l1) (back n' x' e2 l2) l1 l2
theorem bx.ghost(r:bx GL w0 L g h w){nb:Nat}(hn:h nb=none)(sz:Nat):bx GL w0 L ⟨g.M,lK g.c nb ⟨0,sz,0,true,0⟩⟩ (ei h nb (.rows sz [])) w:=by
 have yr:=r.d_ nb hn;have Jj:=gH.lK (x:=⟨0,sz,0,true,0⟩) yr;have vR:∀n cb,lK g.c nb ⟨0,sz,0,true,0⟩ n=some cb→cb.cK=false→g.c n=some cb∧n≠nb:=by
  grind [Zz,X5]
 exact {
  keeps:=r.keeps
  aX:=r.aX
  cr:=r.cr
  src:=r.src
  d_:=λn en=>by
   by_cases ov:n=nb
   ·simp_all [Qr]
   ·rw[Xp _ _ ov]at en;show lK g.c nb _ n=none;rw[X5 _ _ ov];exact r.d_ n en
  jn:=λn x en=>by
   by_cases ov:n=nb
   ·simp_all [Zz]
   ·rw[Xp _ _ ov]at en;obtain⟨x,hx⟩:=r.jn n x en;simp_all [X5]
  own:=λn x cb en ji qy rF=>by
   obtain⟨ec,ov⟩:=vR n cb qy rF;rw[Xp _ _ ov]at en;obtain⟨h1,h2,o,ho,bQ⟩:=r.own n x cb en ji ec rF;exact⟨h1,h2,o,ho,bQ.mono (i9.refl _) Jj⟩
  bc:=λn x cb en ji qy rF=>by
   by_cases ov:n=nb
   ·grind [Qr,Zz]
   ·rw[Xp _ _ ov]at en;have:lK g.c nb ⟨0,sz,0,true,0⟩ n=some cb:=qy;rw[X5 _ _ ov]at this;exact r.bc n x cb en ji this rF
  inj:=λn n' x x' sg cb2 e1 e2 l1 l2 c1 c2 v1 v2 iC=>by
   obtain⟨d1,n1⟩:=vR n sg c1 v1;obtain⟨d2,n2⟩:=vR n' cb2 c2 v2;rw[Xp _ _ n1]at e1;rw[Xp _ _ n2]at e2;exact r.inj n n' x x' sg cb2 e1 e2 l1 l2 d1 d2 v1 v2 iC }
def nI(M:Nat→Option Obj)(b:Nat)(o:Obj):Nat→Option Obj:=λn=>if n=b then some o else M n
theorem bx.freeze(r:bx GL w0 L g h w){b:Nat}{blk:ab}{cb:CB}{o:Obj}(e:h b=some blk)(hl:blk.live=true)(ec:g.c b=some cb)(hv:cb.cK=false)(ho:w.heap[cb.blk]?=some o) :
  g.Le ⟨nI g.M cb.blk o,g.c⟩∧bx GL w0 L ⟨nI g.M cb.blk o,g.c⟩ (ei h b .dead) w:=by
 obtain⟨hM,di,_⟩:=r.own b blk cb e hl ec hv;have DD:i9 g.M (nI g.M cb.blk o):=by
  intro n x en
  grind [nI]
 have k:=r.kill e;refine⟨⟨DD,gH.refl _⟩,?_⟩;exact {
  keeps:=k.keeps
  aX:=λn x en=>by
   by_cases hn:n=cb.blk
   ·simp_all [nI]
   ·have:nI g.M cb.blk o n=some x:=en;simp[nI,hn]at this;exact r.aX n x this
  cr:=λp hp=>(r.cr p hp).mono DD (gH.refl _)
  src:=λn x en=>by
   by_cases hn:n=cb.blk
   ·grind
   ·have:nI g.M cb.blk o n=some x:=en;simp[nI,hn]at this;exact r.src n x this
  d_:=k.d_
  jn:=k.jn
  own:=λn x eN en ji qy rF=>by
   obtain⟨h1,h2,o',fO,bQ⟩:=k.own n x eN en ji qy rF;have yw:n≠b:=by rintro rfl;grind [ab.live,Qr]
   have en':=en;rw[Xp _ _ yw]at en';have cO:eN.blk≠cb.blk:=λeq=>yw (r.inj n b x blk eN cb en' e ji hl qy ec rF hv eq);exact⟨by simp_all [nI],h2,o',fO,bQ.mono DD (gH.refl _)⟩
  bc:=k.bc
  inj:=k.inj }
end
end Go.Ah
end
section
namespace Go.Ah
def nth{α:Type}:List α→Nat→Option α
 |[],_=>none
 |x::_,0=>some x
 |_::l,n+1=>nth l n
def jb{α:Type}:Nat→List α→List α
 |0,l=>l
 |_+1,[]=>[]
 |n+1,_::l=>jb n l
def takeN{α:Type}:Nat→List α→Option (List α)
 |0,_=>some []
 |_+1,[]=>none
 |n+1,x::l=>match takeN n l with
  |some r=>some (x::r)
  |none=>none
def cc{α:Type}:Nat→List α→List α→Option (List α)
 |_,[],l=>some l
 |0,_::_,[]=>none
 |0,c::cs,_::l=>match cc 0 cs l with
  |some r=>some (c::r)
  |none=>none
 |_+1,_::_,[]=>none
 |j+1,c::cs,x::l=>match cc j (c::cs) l with
  |some r=>some (x::r)
  |none=>none
def QF{α:Type}:Nat→α→List α→Option (List α)
 |_,_,[]=>none
 |0,c,_::l=>some (c::l)
 |j+1,c,x::l=>match QF j c l with
  |some r=>some (x::r)
  |none=>none
def chunk{α:Type}(sz:Nat):Nat→List α→Option (List (List α))
 |0,_=>some []
 |n+1,l=>match takeN sz l,chunk sz n (jb sz l)with
  |some r,some rs=>some (r::rs)
  |_,_=>none
theorem Y7{α:Type}(l:List α)(n:Nat):nth l n=l[n]?:=by
 induction l generalizing n with
 |nil=>simp[nth]
 |cons x l ih=>cases n<;>simp_all [nth]
theorem Nh{α:Type}(n:Nat)(l:List α):jb n l=l.drop n:=by
 induction n generalizing l with
 |zero=>simp[jb]
 |succ n ih=>cases l<;>simp_all [jb]
theorem RD{α:Type}{n:Nat}{l r:List α}(h:takeN n l=some r):r.length=n∧n<=l.length∧∀i,i<n→r[i]?=l[i]?:=by
 induction n generalizing l r with
 |zero=>simp_all [takeN]
 |succ n ih=>
  cases l<;>grind [takeN]
theorem Se{α:Type}{j:Nat}{cs l r:List α}(h:cc j cs l=some r):r.length=l.length∧(cs≠[]→j+cs.length<=l.length)∧∀i,r[i]?=if j<=i∧i<j+cs.length then cs[i-j]? else l[i]?:=by
 induction l generalizing j cs r with
 |nil=>
  cases cs with
  |nil=>simp_all [cc]
  |cons c cs=>cases j<;>simp[cc]at h
 |cons x l ih=>
  cases cs with
  |nil=>simp only[cc]at h;grind
  |cons c cs=>
   cases j with
   |zero=>
    grind [cc]
   |succ j=>
    simp only[cc]at h;cases ht:cc j (c::cs) l<;>grind
theorem Qcs{α:Type}{j:Nat}{c:α}{l r:List α}(h:QF j c l=some r):r.length=l.length∧j<l.length∧∀i,r[i]?=if i=j then some c else l[i]?:=by
 induction l generalizing j r with
 |nil=>cases j<;>simp[QF]at h
 |cons x l ih=>
  cases j with
  |zero=>simp only[QF]at h;grind
  |succ j=>
   grind [QF]
theorem QcN{α:Type}{sz n:Nat}{l:List α}{rs:List (List α)}(h:chunk sz n l=some rs):rs.length=n∧(n*sz<=l.length∨n=0)∧(∀(i:Nat) (row:List α),rs[i]?=some row→row.length=sz) ∧
  ∀(i:Nat) (row:List α) (j:Nat) (x:α),rs[i]?=some row→row[j]?=some x→l[i*sz+j]?=some x:=by
 induction n generalizing l rs with
 |zero=>simp_all [chunk]
 |succ n ih=>
  simp only[chunk]at h;cases ht:takeN sz l with
  |none=>simp[ht]at h
  |some r=>
   cases hc:chunk sz n (jb sz l)with
   |none=>simp[ht,hc]at h
   |some rs'=>
    simp only[ht,hc]at h;cases h;obtain⟨t1,t2,t3⟩:=RD ht;obtain⟨h1,h2,h3,h4⟩:=ih hc;rw[Nh]at h2 h4;refine⟨by simp[h1],.inl ?_,λi row e=>?_,λi row j x e1 e2=>?_⟩
    ·grind
    ·grind
    ·cases i with
     |zero=>
      grind
     |succ i=>
      simp at e1
      grind
def pw:Value→Option aa
 |.bool b=>some (.bool b)
 |.int k n=>some (.int k n)
 |.string s=>some (.str s.data.toList)
 |.pointer none=>some .fj
 |.slice none 0 0=>some .an
 |.map none=>some .cQ
 |.nilFunc=>some .bH
 |.nilIface=>some .dp
 |_=>none
def ZM:List Value→Option (List aa)
 |[]=>some []
 |v::l=>match pw v,ZM l with
  |some x,some r=>some (x::r)
  |_,_=>none
def pP:Value→Option aa
 |.agg cs=>(ZM cs.toList).map .agg
 |v=>pw v
theorem YbY{M:Nat→Option Obj}{c:Own}{v:Value}{x:aa}(h:pw v=some x):Den M c x v:=by
 unfold pw at h;split at h<;>first|(cases h;constructor)|cases h
theorem YU{M:Nat→Option Obj}{c:Own}{l:List Value}{xs:List aa}(h:ZM l=some xs):l.length=xs.length∧∀(i:Nat) (x:aa) (v:Value),xs[i]?=some x→l[i]?=some v→Den M c x v:=by
 induction l generalizing xs with
 |nil=>simp_all [ZM]
 |cons v l ih=>
  grind [ZM,YbY]
theorem Ng{M:Nat→Option Obj}{c:Own}{v:Value}{x:aa}(h:pP v=some x):Den M c x v:=by
 unfold pP at h;split at h
 ·rename_i cs;cases hc:ZM cs.toList with
  |none=>simp[hc]at h
  |some xs=>
   simp[hc]at h;subst h;obtain⟨h1,h2⟩:=YU (M:=M) (c:=c) hc;exact .agg _ _ _ (by simpa using h1) (λi x v e1 e2=>h2 i x v e1 (by simpa using e2))
 ·exact YbY h
abbrev Frame:=List (Nat×aa)
def bL:Frame→Nat→aa
 |[],_=>.aQ
 |(k,v)::r,n=>bif IN k n then v else bL r n
inductive se where
 |t (n:Nat)
 |c (v:aa)
 deriving Inhabited
def ev(ρ:Frame):se→aa
 |.t n=>bL ρ n
 |.c v=>v
inductive kR (GL:ar):Operand→se→Prop
 |tmp (t:Nat):kR GL (.tmp t) (.t t)
 |const (v:Value) (x:aa):pP v=some x→kR GL (.const v) (.c x)
 |JH (g:Nat) (row:List aa):(g,row)∈GL→kR GL (.global g) (.c (.aq row 0))
 |func (f:FuncId):kR GL (.func f) (.c (.func (.func f) [] []))
structure cR (n:Nat) (g:Gm) (ρ:Frame) (a:Act):Prop where
 size:a.tmps.size=n
 slot:∀t,g.den (bL ρ t) (a.tmps.getD t undef)
 defers:a.defers=[]
theorem cR.mono{n:Nat}{g g':Gm}{ρ:Frame}{a:Act}(h:cR n g ρ a)(hg:g.Le g'):cR n g' ρ a:=⟨h.size,λt=>Gm.lQ hg (h.slot t),h.defers⟩
theorem XS(ρ:Frame)(d:Nat)(v:aa)(t:Nat):bL ((d,v)::ρ) t=if t=d then v else bL ρ t:=by
 simp only[bL];by_cases h:t=d
 ·subst h;simp[zBf]
 ·rw[aE h]
  grind [fV]
theorem cR.put{n:Nat}{g:Gm}{ρ:Frame}{a:Act}(h:cR n g ρ a){d:Nat}(hd:d<n){x:aa}{v:Value}(hx:g.den x v):cR n g ((d,x)::ρ) (a.put (some d) v):=by
 refine⟨by simp[zDb,h.size],λt=>?_,h.defers⟩;rw[XS];have hs:=h.size;by_cases ht:t=d
 ·simp_all [zDb]
 ·rw[aE ht];have:(a.put (some d) v).tmps.getD t undef=a.tmps.getD t undef:=by
   simp[zDb,zBU,zBb (λe=>ht e.symm)]
  rw[this];exact h.slot t
theorem cR.opd{GL:ar}{w0:World}{L:Ln}{g:Gm}{h:Hp}{w:World}(r:bx GL w0 L g h w){n:Nat}{ρ:Frame}{a:Act}(d:cR n g ρ a){x:Operand}{y:se}(ok:kR GL x y):g.den (ev ρ y) (a.eval x):=by
 cases ok with
 |tmp t=>exact d.slot t
 |const v x e=>exact Ng e
 |JH gl row e=>exact(r.cr _ e).mono (i9.refl _) (gH.bA _)
 |func f=>exact .func _ _ _ _ _ _ rfl rfl (by simp) (by simp)
inductive eV where
 |ptr|slice|iface|func|map
 deriving Inhabited
inductive MK where
 |mv
 |pick
 |alloc (z:List aa)
 |box
 |build (z:List aa) (ps:List (Nat×Nat))
 |mF (sz n:Nat) (z:List aa) (ps:List (Nat×Nat))
 |load (agg:Bool) (n:Nat)
 |store (n:Nat)
 |nilCheck
 |bin (op:BinOp) (isBool:Bool)
 |oe (c:eV) (neq left:Bool)
 |Bs (neq:Bool) (ls:List Bool)
 |un (op:UnOp)
 |conv (k:IntKind)
 |jc (t:TypeId)
 |j_ (fn:Fn) (n:Nat)
 |makeMap
 |fieldAddr (off:Nat)
 |field (agg:Bool) (off n:Nat)
 |gR (len mT:Nat)
 |fI (mT:Nat)
 |rI (agg:Bool) (len mT:Nat)
 |ly
 |extract (i:Nat)
 |cJ (mT:Nat) (lo hi mx:Bool)
 |ff (lo hi:Bool)
 |rN
 |j9
 |rM (n:Nat)
 |mK
 |min2
 |max2
 |append (mT bytes:Nat) (z:List aa)
 |call (f:FuncId)
 |jZ
 |lookup (str ok:Bool) (z:aa)
 |lz (str:Bool)
 |range
 |next
 |fN (t:TypeId) (ok:Bool) (z:aa)
 |invoke (name:String) (o0:List (TypeId×FuncId))
 |iI (mT:Nat) (z:List aa)
 |rO (mT bytes:Nat) (z:List aa)
 |lP (mT:Nat)
 |bad
 |gJ (o0:List TypeId)
 deriving Inhabited
def fS(P:Program)(t:TypeId):Option Bool:=
 match P.underlying t with
 |some (.struct _)=>some true
 |some (.array _ _)=>some true
 |some _=>some false
 |none=>none
def size?(P:Program)(t:TypeId):Option Nat:=(P.info? t).map (·.size)
def eu(P:Program)(t:TypeId):Option Value:=(P.info? t).bind (·.zero)
def eY(P:Program)(t:TypeId):Option TypeId:=
 match P.underlying t with
 |some (.slice e)=>some e
 |_=>none
def uE(P:Program)(t:TypeId):Option eV:=
 match P.underlying t with
 |some (.pointer _)=>some .ptr
 |some (.slice _)=>some .slice
 |some (.interface _)=>some .iface
 |some (.func _ _ _)=>some .func
 |some (.map _ _)=>some .map
 |_=>none
def ke:eV→Value
 |.ptr=>.pointer none
 |.slice=>.slice none 0 0
 |.iface=>.nilIface
 |.func=>.nilFunc
 |.map=>.map none
def mY(P:Program)(t:TypeId):Option Bool:=
 match P.underlying t with
 |some (.int _)=>some false
 |some .bool=>some true
 |_=>none
def qj(P:Program)(t:TypeId):Option (List Bool):=
 match P.underlying t with
 |some (.struct fs)=>
  if fs.toList.all (λf=>f.name != "_")&&(fs.toList.map (·.offset)==zBG 0 fs.toList.length)then fs.toList.mapM (λf=>mY P f.type)else none
 |_=>none
def Zh(P:Program)(f:FuncId):Bool:=
 match P.funcs[f]? with
 |some fn=>fn.name != "runtime.NumGoroutine" && fn.body.isSome
 |none=>false
def M5(P:Program)(name:String)(t:TypeId):Option FuncId:=
 match P.info? t with
 |none=>none
 |some i=>match i.methods.find? (·.name==name)with
  |none=>none
  |some m=>match m.path.isEmpty,m.func,P.underlying t with
   |true,some (f,true),some (.pointer _)=>some f
   |true,some (_,false),some (.pointer _)=>none
   |true,some (f,false),some _=>some f
   |_,_,_=>none
def Zdo(P:Program)(name:String):List (TypeId×FuncId):=(zAC P.types.size).filterMap λt=>match M5 P name t with
 |some f=>bif Zh P f then some (t,f)else none
 |none=>none
def HS(t:Nat):List (Nat×Nat)→Option Nat
 |[]=>none
 |(u,f)::r=>bif IN t u then some f else HS t r
theorem Pl{t f:Nat}:∀ {l:List (Nat×Nat)},HS t l=some f→(t,f)∈l
 |[],h=>by cases h
 |(u,g)::r,h=>by
  unfold HS at h;cases hb:IN t u with
  |true=>rw[hb]at h;cases h;rw[fV hb];simp
  |false=>rw[hb]at h;exact zAn _ (Pl h)
def uA(P:Program)(k:TypeId):Bool→Prop
 |true=>P.underlying k=some .string
 |false=>∃q,P.underlying k=some (.int q)
inductive cp (P:Program) (GL:ar):Op→MK→List Operand→Prop
 |move (x:Operand):cp P GL (.move x) .mv [x]
 |assign (x:Operand):cp P GL (.assign x) .mv [x]
 |pick (c a b:Operand):cp P GL (.pick c a b) .pick [c,a,b]
 |alloc (t:TypeId) (v:Value) (z:List aa):eu P t=some v→ZM v.cells.toList=some z→cp P GL (.alloc t) (.alloc z) []
 |box (t:TypeId) (x:Operand):cp P GL (.box t x) .box [x]
 |buildStruct (t:TypeId) (fs:Array Field) (v:Value) (z:List aa) (parts:Array (Nat×Operand)) (places ps:List (Nat×Nat)) :
   P.underlying t=some (.struct fs)→eu P t=some v→ZM v.cells.toList=some z→fs.toList.mapM (λf=>(P.info? f.type).map λi=>(f.offset,i.size))=some places →
   parts.toList.map (λp=>places[p.1]?)=ps.map some→cp P GL (.build t parts) (.build z ps) (parts.toList.map (·.2))
 |nT (t:TypeId) (n:Nat) (e:TypeId) (v:Value) (z:List aa) (parts:Array (Nat×Operand)) (ps:List (Nat×Nat)) (sz:Nat) :
   P.underlying t=some (.array n e)→eu P t=some v→ZM v.cells.toList=some z→size? P e=some sz →
   parts.toList.map (λp=>(p.1*sz,sz))=ps→cp P GL (.build t parts) (.build z ps) (parts.toList.map (·.2))
 |buildSlice (t:TypeId) (n:Nat) (e:TypeId) (v:Value) (z0 z:List aa) (parts:Array (Nat×Operand)) (ps:List (Nat×Nat)) (sz:Nat) :
   eY P t=some e→size? P e=some sz→n*sz<=2 ^ 24→n*sz≠0→eu P e=some v→v.cells.size=sz→ZM v.cells.toList=some z0→(zAd n z0).flatten=z →
   parts.toList.map (λp=>(p.1*sz,sz))=ps→cp P GL (.buildSlice t n parts) (.mF sz n z ps) (parts.toList.map (·.2))
 |mS (t e:TypeId) (sz:Nat) (parts:Array (Nat×Operand)):eY P t=some e→size? P e=some sz→parts.toList=[]→cp P GL (.buildSlice t 0 parts) (.lP sz) []
 |makeSlice (t:TypeId) (l:Operand) (e:TypeId) (v:Value) (n by_:Nat) (z:List aa):eY P t=some e→size? P e=some n→(P.info? e).map (·.bytes)=some by_→n≠0→eu P e=some v→v.cells.size=n→ZM v.cells.toList=some z →
   cp P GL (.makeSlice t l l) (.rO n by_ z) [l]
 |load (t:TypeId) (x:Operand) (agg:Bool) (n:Nat):fS P t=some agg→size? P t=some n→cp P GL (.load t x) (.load agg n) [x]
 |store (t:TypeId) (x y:Operand) (n:Nat):size? P t=some n→cp P GL (.store t x y) (.store n) [x,y]
 |nilCheck (x:Operand):cp P GL (.nilCheck x) .nilCheck [x]
 |bin (op:BinOp) (t t':TypeId) (x y:Operand) (b:Bool):(b=true→P.underlying t=some .bool)→cp P GL (.binOp op t x y t') (.bin op b) [x,y]
 |v_ (c:eV) (neq:Bool) (t t':TypeId) (x:Operand):uE P t=some c→cp P GL (.binOp (if neq then .neq else .eql) t x (.const (ke c)) t') (.oe c neq false) [x,.const (ke c)]
 |vZ (c:eV) (neq:Bool) (t t':TypeId) (y:Operand):uE P t=some c→cp P GL (.binOp (if neq then .neq else .eql) t (.const (ke c)) y t') (.oe c neq true) [.const (ke c),y]
 |Bs (neq:Bool) (t t':TypeId) (x y:Operand) (ls:List Bool):qj P t=some ls→P.stoodInHeld t=false→P.eqGuardType P.depth t=false →
   cp P GL (.binOp (if neq then .neq else .eql) t x y t') (.Bs neq ls) [x,y]
 |un (op:UnOp) (t:TypeId) (x:Operand):cp P GL (.unOp op t x) (.un op) [x]
 |conv (s d:TypeId) (x:Operand) (k:IntKind):(P.underlying s).isSome=true→P.underlying d=some (.int k)→cp P GL (.convert s d x) (.conv k) [x]
 |jc (t:TypeId) (x:Operand):P.concrete t=true→cp P GL (.makeInterface t x) (.jc t) [x]
 |j_ (fn:Fn) (xs ys:Array Operand):cp P GL (.makeFunc fn xs ys) (.j_ fn xs.size) (xs.toList++ys.toList)
 |makeMap (t:TypeId):cp P GL (.makeMap t none) .makeMap []
 |fieldAddr (t:TypeId) (x:Operand) (f:Nat) (fs:Array Field) (fd:Field) (n:Nat):P.underlying t=some (.struct fs)→fs[f]?=some fd→size? P fd.type=some n→n≠0 →
   cp P GL (.fieldAddr t x f) (.fieldAddr fd.offset) [x]
 |field (t:TypeId) (x:Operand) (f:Nat) (fs:Array Field) (fd:Field) (agg:Bool) (n:Nat):P.underlying t=some (.struct fs)→fs[f]?=some fd→size? P fd.type=some n→fS P fd.type=some agg →
   cp P GL (.field t x f) (.field agg fd.offset n) [x]
 |gR (t:TypeId) (x i:Operand) (len:Nat) (e:TypeId) (n:Nat):P.underlying t=some (.array len e)→size? P e=some n→cp P GL (.indexAddr t x i) (.gR len n) [x,i]
 |fI (t:TypeId) (x i:Operand) (e:TypeId) (n:Nat):P.underlying t=some (.slice e)→size? P e=some n→cp P GL (.indexAddr t x i) (.fI n) [x,i]
 |rI (t:TypeId) (x i:Operand) (len:Nat) (e:TypeId) (n:Nat) (agg:Bool):P.underlying t=some (.array len e)→size? P e=some n→fS P e=some agg →
   cp P GL (.index t x i) (.rI agg len n) [x,i]
 |ly (t:TypeId) (x i:Operand):P.underlying t=some .string→cp P GL (.index t x i) .ly [x,i]
 |extract (x:Operand) (i:Nat):cp P GL (.extract x i) (.extract i) [x]
 |cJ (t:TypeId) (x:Operand) (lo hi mx:Option Operand) (e:TypeId) (n:Nat):P.underlying t=some (.slice e)→size? P e=some n →
   cp P GL (.slice t x lo hi mx) (.cJ n lo.isSome hi.isSome mx.isSome) ([x]++lo.toList++hi.toList++mx.toList)
 |ff (t:TypeId) (x:Operand) (lo hi:Option Operand):P.underlying t=some .string →
   cp P GL (.slice t x lo hi none) (.ff lo.isSome hi.isSome) ([x]++lo.toList++hi.toList)
 |rN (t e:TypeId) (x:Operand):P.underlying t=some (.slice e)→cp P GL (.call ⟨.builtin .len,#[x],#[t]⟩) .rN [x]
 |j9 (t:TypeId) (x:Operand):P.underlying t=some .string→cp P GL (.call ⟨.builtin .len,#[x],#[t]⟩) .j9 [x]
 |rM (t e:TypeId) (n:Nat) (x:Operand):P.underlying t=some (.array n e)→cp P GL (.call ⟨.builtin .len,#[x],#[t]⟩) (.rM n) [x]
 |mK (t k e:TypeId) (x:Operand):P.underlying t=some (.map k e)→cp P GL (.call ⟨.builtin .len,#[x],#[t]⟩) .mK [x]
 |min2 (ts:Array TypeId) (x y:Operand):cp P GL (.call ⟨.builtin .min,#[x,y],ts⟩) .min2 [x,y]
 |max2 (ts:Array TypeId) (x y:Operand):cp P GL (.call ⟨.builtin .max,#[x,y],ts⟩) .max2 [x,y]
 |append (t t' e:TypeId) (x y:Operand) (n by_:Nat) (v:Value) (z:List aa):P.underlying t=some (.slice e)→(∃d,P.underlying t'=some d∧(∀k,d≠.int k))→size? P e=some n→P.bytesOf e=by_→eu P e=some v →
   v.cells.size=n→ZM v.cells.toList=some z→by_≠0→n≠0→cp P GL (.call ⟨.builtin .append,#[x,y],#[t,t']⟩) (.append n by_ z) [x,y]
 |call (f:FuncId) (xs:Array Operand) (ts:Array TypeId):Zh P f=true→cp P GL (.call ⟨.value (.func f),xs,ts⟩) (.call f) xs.toList
 |jZ (x:Operand) (xs:Array Operand) (ts:Array TypeId):cp P GL (.call ⟨.value x,xs,ts⟩) .jZ (x::xs.toList)
 |invoke (x:Operand) (name:String) (xs:Array Operand) (ts:Array TypeId) (o0:List (TypeId×FuncId)):(∀p∈o0,M5 P name p.1=some p.2∧Zh P p.2=true)→cp P GL (.call ⟨.invoke x name,xs,ts⟩) (.invoke name o0) (x::xs.toList)
 |lookup (t k e:TypeId) (x i:Operand) (str ok:Bool) (v:Value) (z:aa):P.underlying t=some (.map k e)→uA P k str→eu P e=some v→pP v=some z →
   cp P GL (.lookup t x i ok) (.lookup str ok z) [x,i]
 |mapUpdate (t k e:TypeId) (x i y:Operand) (str:Bool):P.underlying t=some (.map k e)→uA P k str→cp P GL (.mapUpdate t x i y) (.lz str) [x,i,y]
 |mapInsert (t k e:TypeId) (x i y:Operand) (str:Bool):P.underlying t=some (.map k e)→uA P k str→cp P GL (.insert t x i y) (.lz str) [x,i,y]
 |iI (t e:TypeId) (x:Operand) (n:Nat) (v:Value) (z:List aa):eY P t=some e→size? P e=some n→n≠0→eu P e=some v→v.cells.size=n→ZM v.cells.toList=some z →
   cp P GL (.call ⟨.builtin .clear,#[x],#[t]⟩) (.iI n z) [x]
 |range (t:TypeId) (x:Operand):P.underlying t=some .string→cp P GL (.range t x) .range [x]
 |next (x:Operand):cp P GL (.next x true) .next [x]
 |fN (x:Operand) (t u:TypeId) (ok:Bool) (v:Value) (z:aa):P.concrete u=true→(P.underlying u).isSome=true→eu P u=some v→pP v=some z→cp P GL (.typeAssert x t u ok) (.fN u ok z) [x]
 |bad (o:Op):cp P GL o .bad []
 |gJ (x:Operand) (t u:TypeId) (ms:Array (String×TypeId)) (o0:List TypeId):P.underlying u=some (.interface ms)→eu P u=some .nilIface→(∀q∈o0,∃i,P.info? q=some i∧Instr.missingMethod ms i.methods=none)→cp P GL (.typeAssert x t u true) (.gJ o0) [x]
inductive aA where
 |ok (v:aa) (rd:List Nat) (up:List (Nat×ab))
 |stop
abbrev KT:=aa→List ab→Prop
abbrev mC:=List aa→List ab→Prop
def aj:List ab→Nat→ab
 |[],_=>.dead
 |b::_,0=>b
 |_::l,n+1=>aj l n
def cellsOf:aa→Option (List aa)
 |.agg cs=>bif cs.all aa.cell then some cs else none
 |.aQ=>none
 |.bp _=>none
 |.when ..=>none
 |x=>some [x]
def fill:List aa→List (Nat×Nat)→List aa→Option (List aa)
 |z,[],[]=>some z
 |z,(off,sz)::ps,x::xs=>match cellsOf x with
  | some cs=>bif IN cs.length sz && !(IN sz 0)then (match cc off cs z with
   |some z'=>fill z' ps xs
   | none=>none)else none
  |none=>none
 |_,_,_=>none
def jU:IntKind→IntKind→Bool
 |.i8,.i8 | .i16,.i16 | .i32,.i32 | .i64,.i64 | .u8,.u8 | .u16,.u16 | .u32,.u32 | .u64,.u64=>true
 |_,_=>false
theorem yW{a b:IntKind}(h:jU a b=true):a=b:=by cases a<;>cases b<;>first|rfl|cases h
def nd(op:BinOp)(k:IntKind)(a b:Int):Option aa:=
 match op with
 |.add=>some (.int k (k.wrap (a+b)))
 |.sub=>some (.int k (k.wrap (a-b)))
 |.mul=>some (.int k (k.wrap (a*b)))
 |.eql=>some (.bool (a==b))
 |.neq=>some (.bool (a != b))
 |.lss=>some (.bool (a<b))
 |.leq=>some (.bool (a<=b))
 |.gtr=>some (.bool (a>b))
 |.geq=>some (.bool (a >= b))
 |.and=>some (.int k (bits .and k a b))
 |.or=>some (.int k (bits .or k a b))
 |.xor=>some (.int k (bits .xor k a b))
 |.andNot=>some (.int k (bits .andNot k a b))
 |_=>none
def zi(op:BinOp)(k k':IntKind)(a b:Int):Option aa:=
 match b with
 |.ofNat n=>match op with
  |.shl=>some (.int k (k.wrap (a*2 ^ (min n k.bits))))
  |.shr=>some (.int k (a.fdiv (2 ^ (min n k.bits))))
  |.quo=>bif IN n 0 then none else bif jU k k' then some (.int k (k.wrap (a.tdiv (.ofNat n))))else none
  |.rem=>bif IN n 0 then none else bif jU k k' then some (.int k (a.tmod (.ofNat n)))else none
  |_=>none
 |.negSucc n=>match op with
  |.quo=>bif jU k k' then some (.int k (k.wrap (a.tdiv (.negSucc n))))else none
  |.rem=>bif jU k k' then some (.int k (a.tmod (.negSucc n)))else none
  |_=>none
def nK:eV→aa→Option Bool
 |.ptr,.fj=>some true
 |.ptr,.ak ..=>some false
 |.ptr,.ptr ..=>some false
 |.ptr,.aq ..=>some false
 |.slice,.an=>some true
 |.slice,.aU _ true _ _=>some false
 |.slice,.aU _ false _ (_::_)=>some false
 |.slice,.sl _ _ (_+1) _=>some false
 |.func,.func ..=>some false
 |.func,.bH=>some true
 |.iface,.iface ..=>some false
 |.iface,.dp=>some true
 |.map,.map _=>some false
 |.map,.fL _=>some false
 |.map,.cQ=>some true
 |_,_=>none
def GA:Bool→aa→aa→Option Bool
 |false,.int k a,.int k' b=>bif jU k k' then some (a==b)else none
 |true,.bool a,.bool b=>some (a==b)
 |_,_,_=>none
def XX:List Bool→List aa→List aa→Option Bool
 |[],[],[]=>some true
 |l::ls,x::xs,y::ys=>match GA l x y,XX ls xs ys with
  |some a,some b=>some (a&&b)
  |_,_=>none
 |_,_,_=>none
def aK(agg:Bool)(off n:Nat)(cs:List aa):Option aa:=
 match agg with
 |true=>match takeN n (jb off cs)with
  |some r=>some (.agg r)
  |none=>none
 |false=>nth cs off
def qM(xs:List aa)(σ:List ab):aA:=match xs with
  |[x]=>.ok x [] []
  |_=>.stop
def Sc(xs:List aa)(σ:List ab):aA:=match xs with
  |[.bool c,.bool a,.bool b]=>.ok (.bool (bif c then a else b)) [] []
  |_=>.stop
def Qs(z:List aa)(xs:List aa)(σ:List ab):aA:=match xs with
  |[]=>.ok (.ak σ.length 0) [] [(σ.length,.box z)]
  |_=>.stop
def tL(xs:List aa)(σ:List ab):aA:=match xs with
  |[x]=>match cellsOf x with
   |some cs=>.ok (.ak σ.length 0) [] [(σ.length,.box cs)]
   |none=>.stop
  |_=>.stop
def QM(z:List aa)(ps:List (Nat×Nat))(xs:List aa)(σ:List ab):aA:=match fill z ps xs with
  |some cs=>.ok (.agg cs) [] []
  |none=>.stop
def Yp(sz:Nat)(n:Nat)(z:List aa)(ps:List (Nat×Nat))(xs:List aa)(σ:List ab):aA:=match fill z ps xs with
  |some cs=>match chunk sz n cs with
   |some rs=>.ok (.sl σ.length 0 n true) [] [(σ.length,.rows sz rs)]
   |none=>.stop
  |none=>.stop
def YO(sz:Nat)(xs:List aa)(σ:List ab):aA:=match xs with
  |[]=>.ok (.aU true true sz []) [] []
  |_=>.stop
def Pg(agg:Bool)(n:Nat)(xs:List aa)(σ:List ab):aA:=match xs with
  |[.ak b j]=>match aj σ b with
   |.box row=>match aK agg j n row with
    |some v=>.ok v [b] []
    |none=>.stop
   |_=>.stop
  |[.aq row j]=>match aK agg j n row with
   |some v=>.ok v [] []
   |none=>.stop
  |_=>.stop
def Pp(n:Nat)(xs:List aa)(σ:List ab):aA:=match xs with
  |[.ak b j,x]=>match aj σ b with
   |.box row=>match cellsOf x with
    | some cs=>bif IN cs.length n then (match cc j cs row with
     |some row'=>.ok .aQ [] [(b,.box row')]
     | none=>.stop)else .stop
    |none=>.stop
   |_=>.stop
  |_=>.stop
def Xl(xs:List aa)(σ:List ab):aA:=match xs with
  |[.ak b j]=>.ok (.ak b j) [] []
  |[.ptr b i j]=>.ok (.ptr b i j) [] []
  |[.aq row j]=>.ok (.aq row j) [] []
  |[.func (.func f) a b]=>.ok (.func (.func f) a b) [] []
  |[.iface t v]=>.ok (.iface t v) [] []
  |_=>.stop
def Ym(op:BinOp)(isBool:Bool)(xs:List aa)(σ:List ab):aA:=match xs with
  |[.int k a,.int k' b]=>match (bif jU k k' then nd op k a b else none)with
   |some v=>.ok v [] []
   |none=>match zi op k k' a b with
    |some v=>.ok v [] []
    |none=>.stop
  |[.str a,.str b]=>match op with
   |.eql=>.ok (.bool (a==b)) [] []
   |.neq=>.ok (.bool (!(a==b))) [] []
   |.add=>bif zAP (a.length+b.length) 1099511627776 then .ok (.str (a++b)) [] []else .stop
   |_=>.stop
  | [.bool a,.bool b]=>bif isBool then (match op with
   |.eql=>.ok (.bool (a==b)) [] []
   |.neq=>.ok (.bool (!(a==b))) [] []
   | _=>.stop)else .stop
  |_=>.stop
def RF(c:eV)(neq:Bool)(left:Bool)(xs:List aa)(σ:List ab):aA:=match xs with
  |[x,y]=>match nK c (bif left then y else x)with
   |some b=>.ok (.bool (bif neq then !b else b)) [] []
   |none=>.stop
  |_=>.stop
def Cx(neq:Bool)(ls:List Bool)(xs:List aa)(σ:List ab):aA:=match xs with
  |[.agg a,.agg b]=>match XX ls a b with
   |some r=>.ok (.bool (bif neq then !r else r)) [] []
   |none=>.stop
  |_=>.stop
def tH(op:UnOp)(xs:List aa)(σ:List ab):aA:=match xs with
  |[.bool b]=>match op with
   |.not=>.ok (.bool (!b)) [] []
   |_=>.stop
  |[.int k n]=>match op with
   |.neg=>.ok (.int k (k.wrap (0-n))) [] []
   |.xor=>.ok (.int k (bits .xor k (if k.signed then -1 else k.max) n)) [] []
   |_=>.stop
  |_=>.stop
def GM(k:IntKind)(xs:List aa)(σ:List ab):aA:=match xs with
  |[.int _ n]=>.ok (.int k (k.wrap n)) [] []
  |_=>.stop
def XF(t:TypeId)(xs:List aa)(σ:List ab):aA:=match xs with
  |[x]=>.ok (.iface t x) [] []
  |_=>.stop
def YT(fn:Fn)(n:Nat)(xs:List aa)(σ:List ab):aA:=match takeN n xs with
  |some a=>.ok (.func fn a (jb n xs)) [] []
  |none=>.stop
def XO(xs:List aa)(σ:List ab):aA:=match xs with
  |[]=>.ok (.map σ.length) [] [(σ.length,.map [])]
  |_=>.stop
def Xb(off:Nat)(xs:List aa)(σ:List ab):aA:=match xs with
  |[.ak b j]=>.ok (.ak b (j+off)) [] []
  |[.ptr b i j]=>.ok (.ptr b i (j+off)) [] []
  |[.aq row j]=>.ok (.aq row (j+off)) [] []
  |_=>.stop
def Z8(agg:Bool)(off:Nat)(n:Nat)(xs:List aa)(σ:List ab):aA:=match xs with
  |[.agg cs]=>match aK agg off n cs with
   |some v=>.ok v [] []
   |none=>.stop
  |_=>.stop
def Yk(len:Nat)(mT:Nat)(xs:List aa)(σ:List ab):aA:=match xs with
  |[.ak b j,.int _ (.ofNat i)]=>bif zAi i len then .ok (.ak b (j+i*mT)) [] []else .stop
  |[.ptr b r j,.int _ (.ofNat i)]=>bif zAi i len then .ok (.ptr b r (j+i*mT)) [] []else .stop
  |[.aq row j,.int _ (.ofNat i)]=>bif zAi i len then .ok (.aq row (j+i*mT)) [] []else .stop
  |_=>.stop
def Rw(agg:Bool)(len:Nat)(mT:Nat)(xs:List aa)(σ:List ab):aA:=match xs with
  | [.agg cs,.int _ (.ofNat i)]=>bif zAi i len then (match aK agg (i * mT) mT cs with
   |some v=>.ok v [] []
   | none=>.stop)else .stop
  |_=>.stop
def Xi(i:Nat)(xs:List aa)(σ:List ab):aA:=match xs with
  |[.bp vs]=>match nth vs i with
   |some v=>.ok v [] []
   |none=>.stop
  |_=>.stop
def Qn(xs:List aa)(σ:List ab):aA:=match xs with
  |[.an]=>.ok (.int .i64 0) [] []
  |[.cS]=>.ok (.int .i64 0) [] []
  |[.sl _ _ n _]=>.ok (.int .i64 n) [] []
  |[.aU _ _ _ rows]=>.ok (.int .i64 rows.length) [] []
  |_=>.stop
def ZT(xs:List aa)(σ:List ab):aA:=match xs with
  |[.str s]=>.ok (.int .i64 s.length) [] []
  |_=>.stop
def MU(n:Nat)(xs:List aa)(σ:List ab):aA:=match xs with
  |[_]=>.ok (.int .i64 n) [] []
  |_=>.stop
def PX(xs:List aa)(σ:List ab):aA:=match xs with
  |[.cQ]=>.ok (.int .i64 0) [] []
  |[.map b]=>match aj σ b with
   |.map es=>.ok (.int .i64 es.length) [b] []
   |_=>.stop
  |[.fL es]=>.ok (.int .i64 es.length) [] []
  |_=>.stop
def HJ(xs:List aa)(σ:List ab):aA:=match xs with
  |[.int k a,.int _ b]=>.ok (.int k (if b<a then b else a)) [] []
  |_=>.stop
def Ic(xs:List aa)(σ:List ab):aA:=match xs with
  |[.int k a,.int _ b]=>.ok (.int k (if b>a then b else a)) [] []
  |_=>.stop
def P7(xs:List aa)(σ:List ab):aA:=match xs with
  |[.str s]=>.ok (.iter σ.length) [] [(σ.length,.fw s 0)]
  |_=>.stop
def ZO(t:TypeId)(ok:Bool)(z:aa)(xs:List aa)(σ:List ab):aA:=match xs with
  |[.iface u v]=>bif IN u t then .ok (bif ok then .bp [v,.bool true]else v) [] []else (bif ok then .ok (.bp [z,.bool false]) [] []else .stop)
  |[.dp]=>bif ok then .ok (.bp [z,.bool false]) [] []else .stop
  |_=>.stop
def kP:List Nat→Nat→Bool
 |[],_=>false
 |x::l,n=>IN x n||kP l n
theorem W3:∀ {l:List Nat} {n:Nat},kP l n=true→n∈l
 |[],_,h=>by cases h
 |x::l,n,h=>by
  simp only[kP,Bool.or_eq_true]at h;rcases h with h|h
  ·rw[fV h];simp
  ·exact zAn _ (W3 h)
def R0(o0:List TypeId)(xs:List aa)(σ:List ab):aA:=match xs with
  |[.iface u v]=>bif kP o0 u then .ok (.bp [.iface u v,.bool true]) [] []else .stop
  |[.dp]=>.ok (.bp [.dp,.bool false]) [] []
  |_=>.stop
def rQ(k:MK)(xs:List aa)(σ:List ab):aA:=
 match k with
 |.mv=>qM xs σ
 |.pick=>Sc xs σ
 |.alloc z=>Qs z xs σ
 |.box=>tL xs σ
 |.build z ps=>QM z ps xs σ
 |.mF sz n z ps=>Yp sz n z ps xs σ
 |.lP sz=>YO sz xs σ
 |.load agg n=>Pg agg n xs σ
 |.store n=>Pp n xs σ
 |.nilCheck=>Xl xs σ
 |.bin op isBool=>Ym op isBool xs σ
 |.oe c neq left=>RF c neq left xs σ
 |.Bs neq ls=>Cx neq ls xs σ
 |.un op=>tH op xs σ
 |.conv k=>GM k xs σ
 |.jc t=>XF t xs σ
 |.j_ fn n=>YT fn n xs σ
 |.makeMap=>XO xs σ
 |.fieldAddr off=>Xb off xs σ
 |.field agg off n=>Z8 agg off n xs σ
 |.gR len mT=>Yk len mT xs σ
 |.rI agg len mT=>Rw agg len mT xs σ
 |.extract i=>Xi i xs σ
 |.rN=>Qn xs σ
 |.j9=>ZT xs σ
 |.rM n=>MU n xs σ
 |.mK=>PX xs σ
 |.min2=>HJ xs σ
 |.max2=>Ic xs σ
 |.range=>P7 xs σ
 |.fN t ok z=>ZO t ok z xs σ
 |.gJ o0=>R0 o0 xs σ
 |_=>.stop
end Go.Ah
end
section
namespace Go.Ah
def dM(g:Gm):List aa→List Value→Prop
 |[],[]=>True
 |x::xs,v::vs=>g.den x v∧dM g xs vs
 |_,_=>False
theorem dM.mono{g g':Gm}(h:g.Le g'):∀ {xs:List aa} {vs:List Value},dM g xs vs→dM g' xs vs
 |[],[],_=>trivial
 |_::_,_::_,⟨d,r⟩=>⟨Gm.lQ h d,dM.mono h r⟩
theorem dM.length{g:Gm}:∀ {xs:List aa} {vs:List Value},dM g xs vs→xs.length=vs.length
 |[],[],_=>rfl
 |_::_,_::_,⟨_,r⟩=>by simp[dM.length r]
theorem dM.get{g:Gm}:∀ {xs:List aa} {vs:List Value},dM g xs vs→∀(i:Nat) (x:aa) (v:Value),xs[i]?=some x→vs[i]?=some v→g.den x v
 |[],[],_,_,_,_,e,_=>by simp at e
 |x::xs,v::vs,⟨d,r⟩,i,y,u,e1,e2=>by
  cases i with
  |zero=>simp at e1 e2;subst e1 e2;exact d
  |succ i=>simp at e1 e2;exact dM.get r i y u e1 e2
theorem dM.lE{g:Gm}:∀ {xs:List aa} {vs:List Value},xs.length=vs.length→(∀(i:Nat) (x:aa) (v:Value),xs[i]?=some x→vs[i]?=some v→g.den x v)→dM g xs vs
 |[],[],_,_=>trivial
 |[],_::_,e,_=>by simp at e
 |_::_,[],e,_=>by simp at e
 |x::xs,v::vs,e,h=>⟨h 0 x v rfl rfl,dM.lE (by simpa using e) (λi y u e1 e2=>h (i+1) y u (by simpa using e1) (by simpa using e2))⟩
def Out(P:Program)(GL:ar)(w0:World)(L:Ln)(g:Gm)(h':Hp)(x:aa):Result Next→Prop
 |.ok (.value u) w'=>∃g',g.Le g'∧bx GL w0 L g' h' w'∧g'.den x u
 |.ok .skip w'=>∃g',g.Le g'∧bx GL w0 L g' h' w'∧x=.aQ
 |.ok (.enter f args) w'=>Calls P f args w' λe xW=>∃u,e=.returned u∧∃g',g.Le g'∧bx GL w0 L g' h' xW∧g'.den x u
 |_=>False
def aD(P:Program)(GL:ar)(k:MK)(xs:List aa)(h0:Hp)(v:aa)(rd:List Nat)(up:List (Nat×ab)):Prop:=
 ∀(o:Oper) (os:List Operand),cp P GL o.op k os→∀(w0:World) (L:Ln) (g:Gm) (h:Hp) (w:World) (a:Act),bx GL w0 L g h w→dM g xs (os.map a.eval) →
  (∀b∈rd,h b=h0 b)→(∀p∈up,h p.1=h0 p.1)→Out P GL w0 L g (cw h up) v ((execOp a.eval o).run P w)
def hp(σ:List ab):Hp:=λb=>σ[b]?
theorem yd(σ:List ab):hp σ σ.length=none:=by simp[hp]
theorem Q6{σ:List ab}{b:Nat}{x:ab}(h:aj σ b=x)(hx:x≠.dead):hp σ b=some x:=by
 unfold hp
 induction σ generalizing b with
 |nil=>simp_all [aj]
 |cons y σ ih=>cases b<;>simp_all [aj]
section
variable {P:Program} {GL:ar}
theorem Out.here{w0:World}{L:Ln}{g:Gm}{h:Hp}{w:World}{x:aa}{u:Value}(r:bx GL w0 L g h w)(d:g.den x u):Out P GL w0 L g (cw h []) x (.ok (.value u) w):=
 ⟨g,Gm.Le.refl g,r,d⟩
theorem Rs(x:aa)(h0:Hp):aD P GL .mv [x] h0 x [] []:=by
 intro o os hc w0 L g h w a r hx _ _;generalize ho:o.op=op at hc;cases hc with
 |move y=>simp only[execOp,ho,zAA];exact Out.here r hx.1
 |assign y=>simp only[execOp,ho,zAA];exact Out.here r hx.1
theorem ZD{g:Gm}{b:Bool}{v:Value}(h:g.den (.bool b) v):v=.bool b:=by cases h;rfl
theorem Zp{g:Gm}{k:IntKind}{n:Int}{v:Value}(h:g.den (.int k n) v):v=.int k n:=by cases h;rfl
theorem yb{g:Gm}{s:List UInt8}{v:Value}(h:g.den (.str s) v):∃t:ByteArray,v=.string t∧t.data.toList=s:=by cases h;exact⟨_,rfl,rfl⟩
theorem ZdU(c x y:Bool)(h0:Hp):aD P GL .pick [.bool c,.bool x,.bool y] h0 (.bool (bif c then x else y)) [] []:=by
 intro o os hc w0 L g h w a r hx _ _;generalize ho:o.op=op at hc;cases hc with
 |pick oc oa ob=>
  obtain⟨h1,h2,h3,_⟩:=hx;have e1:=ZD h1;have e2:=ZD h2;have e3:=ZD h3;simp only[execOp,ho,e1,e2,e3,asBool];simp
  grind [Out.here]
theorem AR{t:TypeId}{v:Value}(h:eu P t=some v)(w:World):(zeroValue t).run P w=.ok v w:=by
 unfold eu at h;unfold zeroValue typeInfo;cases hi:P.info? t<;>simp_all
theorem YD{t:TypeId}{n:Nat}(h:size? P t=some n)(w:World):(sizeOf t).run P w=.ok n w:=by
 unfold size? at h;unfold sizeOf typeInfo;cases hi:P.info? t<;>simp_all
theorem X7{t:TypeId}{b:Bool}(h:fS P t=some b)(w:World):(isAgg t).run P w=.ok b w:=by
 unfold fS at h;unfold isAgg;cases hu:P.underlying t with
 |none=>simp[hu]at h
 |some d=>
  simp only[OF,run_underlying hu,AS];cases d<;>simp_all
theorem YcE(h:Hp)(b:Nat)(x:ab):cw h [(b,x)]=ei h b x:=rfl
theorem bx.box{w0:World}{L:Ln}{g:Gm}{h:Hp}{w:World}(r:bx GL w0 L g h w){nb:Nat}(hn:h nb=none)(row:List aa)(arr:Array Value)(T:TypeId)
 (hs:arr.size=row.length)(hd:∀(j:Nat) (x:aa) (v:Value),row[j]?=some x→arr[j]?=some v→g.den x v) :
  ∃g',g.Le g'∧bx GL w0 L g' (ei h nb (.box row)) (w.alloc (.cells arr T))∧g'.den (.ak nb 0) (.pointer (some ⟨w.heap.size,0,none⟩)):=by
 refine⟨_,r.j7 hn ⟨w.heap.size,0,0,false,0⟩,r.alloc hn (cb:=⟨w.heap.size,0,0,false,0⟩) rfl rfl rfl ⟨arr,T,rfl,hs,λj x v e1 e2=>?_⟩,.ak _ _ _ _ (Zz _ _ _)⟩;exact Gm.lQ (r.j7 hn ⟨w.heap.size,0,0,false,0⟩) (hd j x v e1 e2)
theorem Xc8{v:Value}(h:v.oneCell'=true):v.cells = #[v]:=by cases v<;>simp_all [Value.cells,Value.oneCell']
theorem Od{g:Gm}{x:aa}{cs:List aa}{v:Value}(h:cellsOf x=some cs)(d:g.den x v) :
  v.cells.size=cs.length∧(∀(j:Nat) (y:aa) (u:Value),cs[j]?=some y→v.cells[j]?=some u→g.den y u)∧(∀y∈cs,y.cell=true):=by
 have one:∀y:aa,y.cell=true→cellsOf y=some [y]→cellsOf y=some cs→g.den y v →
   v.cells.size=cs.length∧(∀(j:Nat) (y:aa) (u:Value),cs[j]?=some y→v.cells[j]?=some u→g.den y u)∧(∀y∈cs,y.cell=true):=by
  intro y hy e1 e2 dy;rw[e1]at e2;cases e2;have hc:=Xc8 (Den.uh dy hy)
  grind
 cases x with
 |agg xs=>
  simp only[cellsOf]at h;cases ha:xs.all aa.cell with
  |false=>simp[ha]at h
  |true=>
   simp[ha]at h;subst h;cases d with
   |agg _ _ vs h1 h2=>exact⟨h1,λj y u e1 e2=>h2 j y u e1 e2,by simpa[List.all_eq_true]using ha⟩
 |aQ=>simp[cellsOf]at h
 |bp vs=>simp[cellsOf]at h
 |when cs x=>simp[cellsOf]at h
 |_=>exact one _ rfl rfl h d
theorem Nu{l:List Value}{xs:List aa}(h:ZM l=some xs):∀y∈xs,y.cell=true:=by
 induction l generalizing xs with
 |nil=>simp only[ZM]at h;cases h;simp
 |cons v l ih=>
  simp only[ZM]at h;cases hv:pw v with
  |none=>simp[hv]at h
  |some x=>
   cases hl:ZM l with
   |none=>simp[hv,hl]at h
   |some r=>
    simp only[hv,hl]at h;cases h;intro y hy;rcases List.mem_cons.1 hy with rfl|hy
    ·unfold pw at hv;split at hv<;>first|(cases hv;rfl)|cases hv
    ·exact ih hl y hy
theorem Qds(z:List aa)(h0:Hp)(nb:Nat)(hn:h0 nb=none):aD P GL (.alloc z) [] h0 (.ak nb 0) [] [(nb,.box z)]:=by
 intro o os hc w0 L g h w a r _ _ gD;have jJ:h nb=none:=by simp_all
 generalize ho:o.op=op at hc;cases hc with
 |alloc t v z hz dJ=>
  simp only[execOp,ho,Instr.alloc,OF,AR hz,AS,newVar,newRow,run_newObj,zAA];obtain⟨h1,h2⟩:=YU (M:=g.M) (c:=g.c) dJ;exact bx.box r jJ z v.cells t (by simpa using h1) (λj x u e1 e2=>h2 j x u e1 (by simpa using e2))
theorem Qee(x:aa)(cs:List aa)(gu:cellsOf x=some cs)(h0:Hp)(nb:Nat)(hn:h0 nb=none):aD P GL .box [x] h0 (.ak nb 0) [] [(nb,.box cs)]:=by
 intro o os hc w0 L g h w a r hx _ gD;have jJ:h nb=none:=by simp_all
 generalize ho:o.op=op at hc;cases hc with
 |box t y=>
  simp only[execOp,ho,Instr.box,newVar,newRow,OF,run_newObj,AS,zAA];obtain⟨h1,h2,_⟩:=Od gu hx.1;exact bx.box r jJ cs _ t h1 h2
theorem ID{g:Gm}{agg:Bool}{off n:Nat}{cs:List aa}{x:aa}{arr:Array Value}(h:aK agg off n cs=some x)(hlen:cs.length<=arr.size)
 (hd:∀(j:Nat) (y:aa) (u:Value),cs[j]?=some y→arr[j]?=some u→g.den y u) :
  (agg=true→(n≠0→off+n<=arr.size)∧g.den x (.agg (arr.extract off (off+n))))∧(agg=false→∃u,arr[off]?=some u∧g.den x u):=by
 cases agg with
 |true=>
  simp only[aK]at h;cases ht:takeN n (jb off cs)with
  |none=>simp[ht]at h
  |some r=>
   simp only[ht]at h;cases h;obtain⟨h1,h2,h3⟩:=RD ht;rw[Nh,zDB]at h2;refine⟨λ_=>⟨λhn=>by omega,?_⟩,by simp⟩;refine .agg _ _ _ (by simp;omega) (λj y u e1 e2=>?_);have hj:j<n:=by grind
   rw[h3 j hj,Nh,zCs]at e1;have b_:off+j<arr.size:=by omega
   refine hd _ y u e1 ?_
   grind
 |false=>
  simp only[aK,Y7]at h;refine⟨by simp,λ_=>?_⟩;have b_:off<arr.size:=by grind
  exact⟨arr[off],by simp[b_],hd off x _ h (by simp[b_])⟩
end
end Go.Ah
end
section
namespace Go.Ah
section
variable {P:Program} {GL:ar}
theorem XU(b o n:Nat):zDz ⟨b,o,none⟩ n=⟨b,o+n,none⟩:=by
 unfold zDz;split<;>simp_all
theorem P1{t:TypeId}{agg:Bool}{n:Nat}(ha:fS P t=some agg)(hn:size? P t=some n){w:World}{b:Nat}{arr:Array Value}{T:TypeId}{fr:Nat×Nat}
 (hb:∀o v,arr[o]?=some v→w.cell? ⟨b,o,none⟩=some v)(off:Nat) :
  (agg=true→(n≠0→off+n<=arr.size)→(loadVar t ⟨b,off,none⟩).run P w=.ok (.agg (arr.extract off (off+n))) w) ∧
  (agg=false→∀v,arr[off]?=some v→(loadVar t ⟨b,off,none⟩).run P w=.ok v w):=by
 have _:=T;have _:=fr;constructor
 ·rintro rfl hle;have hl:=run_loadCells_list (P:=P) w ⟨b,off,none⟩ (arr.extract off (off + n)).toList (λj v e=>by
   grind [XU])
  have hlen:(arr.extract off (off+n)).toList.length=n:=by
   grind
  rw[hlen]at hl;simp only[loadVar,OF,X7 ha,AS,zDo,if_true,YD hn,hl,zAA,zCB]
 simp_all [loadVar,X7]
theorem Q4{w:World}{b:Nat}{arr:Array Value}{T:TypeId}{fr:Nat×Nat}(h:w.heap[b]?=some (.cells arr T fr)):∀o v,arr[o]?=some v→w.cell? ⟨b,o,none⟩=some v:=by
 grind [cell_of_row]
theorem Zcd(agg:Bool)(n b j:Nat)(row:List aa)(v:aa)(h0:Hp)(hb:h0 b=some (.box row))(hv:aK agg j n row=some v) :
  aD P GL (.load agg n) [.ak b j] h0 v [b] []:=by
 intro o os hc w0 L g h w a r hx dc _;have cj:h b=some (.box row):=by simp_all
 generalize ho:o.op=op at hc;cases hc with
 |load t x _ _ ha hn=>
  have d:=hx.1;generalize hu:a.eval x=u0 at d;cases d with
  |ak _ _ _ cb ec=>
  cases bW:cb.cK with
  |true=>have:=r.bc b _ cb cj rfl ec bW;cases this
  |false=>
  obtain⟨_,_,o',fO,arr,T,rfl,hs,c7⟩:=r.own b _ cb cj rfl ec bW;obtain⟨p1,p2⟩:=ID (g:=g) hv (by omega) c7;obtain⟨l1,l2⟩:=P1 ha hn (T:=T) (fr:=(0,0)) (Q4 fO) j;cases agg with
  |true=>
   simp_all [execOp,zCU,zBW,Out.here]
  |false=>
   obtain⟨u,q1,q2⟩:=p2 rfl;simp_all [execOp,zCU,zBW,Out.here]
theorem RC{w0:World}{L:Ln}{g:Gm}{h:Hp}{w:World}(r:bx GL w0 L g h w){b o:Nat}{v:Value}(e:iL g.M b o=some v):w.cell? ⟨b,o,none⟩=some v:=by
 unfold iL at e;cases hb:g.M b with
 |none=>simp[hb]at e
 |some x=>
  cases x with
  |cells c t fr=>simp[hb]at e;exact Q4 (r.aX b _ hb) o v e
  |_=>simp[hb]at e
theorem Zbp{w0:World}{L:Ln}{g:Gm}{h:Hp}{w:World}(r:bx GL w0 L g h w){t:TypeId}{agg:Bool}{n:Nat}(ha:fS P t=some agg)(hn:size? P t=some n)
 {row:List aa}{j:Nat}{v:aa}(hv:aK agg j n row=some v){blk off:Nat}{f:Nat→Value}(h1:∀k,k<row.length→iL g.M blk (off+k)=some (f k))
 (h2:∀k x,row[k]?=some x→Den g.M bA x (f k)):∃u,(loadVar t ⟨blk,off+j,none⟩).run P w=.ok u w∧g.den v u:=by
 have key:=ID (g:=g) (arr:=((zAC row.length).map f).toArray) hv (by simp) (λk y u e1 e2=>by
  have hk:=(gK e1).1;simp[hk]at e2;subst e2;exact(h2 k y e1).mono (i9.refl _) (gH.bA _))
 cases agg with
 |true=>
  obtain⟨q1,q2⟩:=key.1 rfl;simp only[zEB,List.length_map,List.length_range]at q1;have hl:=run_loadCells (P:=P) w ⟨blk,off + j,none⟩ n (λk=>f (j + k)) (λk hk=>by
   grind [XU,RC])
  refine⟨_,by simp only[loadVar,OF,X7 ha,AS,zDo,if_true,YD hn,hl,zAA];rfl,?_⟩;have:((zAC n).map λk=>f (j+k)).toArray=(((zAC row.length).map f).toArray).extract j (j+n):=by
   grind
  rw[this];exact q2
 |false=>
  obtain⟨u,q1,q2⟩:=key.2 rfl;have hj:j<row.length:=by
   grind
  simp[hj]at q1;subst q1;refine⟨f j,?_,q2⟩;simp only[loadVar,OF,X7 ha,AS,zDo,zAS,if_false,run_load,RC r (h1 j hj)]
theorem Ycd(agg:Bool)(n j:Nat)(row:List aa)(v:aa)(h0:Hp)(hv:aK agg j n row=some v) :
  aD P GL (.load agg n) [.aq row j] h0 v [] []:=by
 intro o os hc w0 L g h w a r hx _ _;generalize ho:o.op=op at hc;cases hc with
 |load t x _ _ ha hn=>
  have d:=hx.1;generalize hu:a.eval x=u0 at d;cases d with
  |aq _ _ _ blk off f h1 h2=>
   obtain⟨u,q1,q2⟩:=Zbp r ha hn hv h1 h2;simp_all [execOp,zCU,zBW,Out.here]
end
end Go.Ah
end
section
namespace Go.Ah
section
variable {P:Program} {GL:ar}
theorem Nx(w:World)(g:Nat)(fQ cs:Array Value)(t:TypeId)(fr:Nat×Nat)(hg:w.heap[g]?=some (.cells fQ t fr)):(w.setRow g cs).heap=w.heap.setIfInBounds g (.cells cs t fr):=by
 apply zDs
 grind [setRow_heap,setRow_other]
theorem N8{x:aa}{g:Gm}{v:Value}(hx:x.cell=true)(d:g.den x v):v.oneCell'=true:=Den.uh d hx
theorem Zdv(n b j:Nat)(row row' cs:List aa)(x:aa)(h0:Hp)(hb:h0 b=some (.box row))(gu:cellsOf x=some cs)(hlen:cs.length=n)(uc:cc j cs row=some row') :
  aD P GL (.store n) [.ak b j,x] h0 .aQ [] [(b,.box row')]:=by
 intro o os hc w0 L g h w a r hx _ gD;have cj:h b=some (.box row):=by simp_all
 generalize ho:o.op=op at hc;cases hc with
 |store t y z _ hn=>
  obtain⟨d,dx,_⟩:=hx;generalize hu:a.eval y=u0 at d;cases d with
  |ak _ _ _ cb ec=>
  cases bW:cb.cK with
  |true=>have:=r.bc b _ cb cj rfl ec bW;cases this
  |false=>
  obtain⟨_,_,o',fO,arr,T,rfl,hs,c7⟩:=r.own b _ cb cj rfl ec bW;obtain⟨c1,c2,c3⟩:=Od gu dx;obtain⟨s1,s2,s3⟩:=Se uc;have oE:∀v∈(a.eval z).cells.toList,v.oneCell'=true:=by
   grind [zBi,N8,AT]
  have dB:j+0+(a.eval z).cells.toList.length<=arr.size∨cs=[]:=by
   grind
  have sV:∃gA,(storeCells ⟨cb.blk,j,none⟩ (a.eval z).cells.toList).run P w=.ok () (w.setRow cb.blk gA)∧gA.size=row'.length ∧
    ∀(k:Nat) (y:aa) (u:Value),row'[k]?=some y→gA[k]?=some u→g.den y u:=by
   rcases dB with dB|zD
   ·refine⟨_,run_storeCells_at P cb.blk j T _ 0 arr w fO dB oE,?_,λk y u e1 e2=>?_⟩
    ·grind
    ·rw[s3 k]at e1;by_cases hk:j<=k∧k<j+cs.length
     ·grind
     ·rw[aE hk]at e1;refine c7 k y u e1 ?_;have mw:k<row.length:=(gK e1).1;by_cases mW:k<j
      ·grind
      grind
   ·subst zD;have pf:(a.eval z).cells.toList=[]:=by
     grind
    have dN:row'=row:=by simp[cc]at uc;exact uc.symm
    subst dN;exact⟨arr,by rw[pf];simp only[storeCells];rw[setRow_self w cb.blk arr T (0,0) fO];rfl,hs,c7⟩
  obtain⟨gA,f1,f2,f3⟩:=sV;have eL:(a.eval z).cells.size=n:=by rw[c1,hlen]
  have ba:(execOp a.eval o).run P w=.ok .skip (w.setRow cb.blk gA):=by
   simp_all [execOp,Instr.storeAt,zBW,storeVar,YD]
  rw[ba];refine⟨g,Gm.Le.refl g,?_,rfl⟩;exact r.write cj rfl ec bW rfl rfl rfl rfl (Nx w _ arr gA T (0,0) fO) ⟨gA,T,rfl,f2,λk y u e1 e2=>f3 k y u e1 e2⟩
theorem ZZ(x:aa)(su:(∃b j,x=.ak b j)∨(∃b i j,x=.ptr b i j)∨(∃row j,x=.aq row j)∨(∃f a b,x=.func (.func f) a b)∨(∃t v,x=.iface t v))(h0:Hp) :
  aD P GL .nilCheck [x] h0 x [] []:=by
 intro o os hc w0 L g h w a r hx _ _;generalize ho:o.op=op at hc;cases hc with
 |nilCheck y=>
  have d:=hx.1;have d0:=d;generalize hu:a.eval y=u0 at d d0;rcases su with ⟨b,j,rfl⟩|⟨b,i,j,rfl⟩|⟨row,j,rfl⟩|⟨f,xs,ys,rfl⟩|⟨t,v,rfl⟩
  ·cases d;simp_all [execOp,Out.here]
  ·cases d;simp_all [execOp,Out.here]
  ·cases d;simp_all [execOp,Out.here]
  ·cases d;simp_all [execOp,Out.here]
  ·cases d;simp_all [execOp,Out.here]
theorem ZK{o:Oper}{op:BinOp}{t t':TypeId}{x y:Operand}(ho:o.op=.binOp op t x y t'){a:Act}{u v z:Value}{w:World}(hu:a.eval x=u)(hv:a.eval y=v)
 (hg:(eqGuard op t x y u v).run P w=.ok () w)(hr:(binOp op t u v).run P w=.ok z w):(execOp a.eval o).run P w=.ok (.value z) w:=by
 simp_all [execOp]
theorem QdG{op:BinOp}{k:IntKind}{a b:Int}{v:aa}(h:nd op k a b=some v)(t:TypeId)(w:World){g:Gm}:∃u,(binOp op t (.int k a) (.int k b)).run P w=.ok u w∧g.den v u:=by
 cases op<;>simp only[nd,zBl]at h<;>first
  |cases h;done
  |(subst h;refine⟨_,by simp only[binOp_add,binOp_sub,binOp_mul,binOp_eql,binOp_neq,binOp_lss,binOp_leq,binOp_gtr,binOp_geq,binOp_and,binOp_or,binOp_xor,binOp_andNot,intBits_and,intBits_or,intBits_xor,intBits_andNot,Op.intArith,zAA]<;>rfl,?_⟩;constructor)
theorem ZdS(op:BinOp)(ib:Bool)(k:IntKind)(m n:Int)(v:aa)(hv:nd op k m n=some v)(h0:Hp):aD P GL (.bin op ib) [.int k m,.int k n] h0 v [] []:=by
 intro o os hc w0 L g h w a r hx _ _;generalize ho:o.op=yD at hc;cases hc with
 |bin _ t t' x y _ _=>
  obtain⟨d1,d2,_⟩:=hx;obtain⟨z,h1,h2⟩:=QdG (P:=P) (g:=g) hv t w;rw[ZK ho (Zp d1) (Zp d2) (by rw[eqGuard_at_int];rfl) h1];exact Out.here r h2
theorem ZdH{op:BinOp}{k k':IntKind}{a b:Int}{v:aa}(h:zi op k k' a b=some v)(t:TypeId)(w:World){g:Gm}:∃u,(binOp op t (.int k a) (.int k' b)).run P w=.ok u w∧g.den v u:=by
 unfold zi at h;split at h
 ·rename_i n;split at h
  ·cases h;refine⟨_,?_,Den.int _ _ _⟩;rfl
  ·cases h;refine⟨_,?_,Den.int _ _ _⟩;rfl
  ·cases h0:IN n 0<;>rw[h0]at h
   ·cases hk:jU k k'<;>rw[hk]at h
    ·cases h
    ·cases h;have:=yW hk;subst this;refine⟨_,?_,Den.int _ _ _⟩;have hn:¬(Int.ofNat n=0):=by intro e;simp_all
     simp_all [binOp,zDe]
   ·cases h
  ·cases h0:IN n 0<;>rw[h0]at h
   ·cases hk:jU k k'<;>rw[hk]at h
    ·cases h
    ·cases h;have:=yW hk;subst this;refine⟨_,?_,Den.int _ _ _⟩;have hn:¬(Int.ofNat n=0):=by intro e;simp_all
     simp_all [binOp,zDe]
   ·cases h
  ·cases h
 ·rename_i n;split at h
  ·cases hk:jU k k'<;>rw[hk]at h
   ·cases h
   ·cases h;have:=yW hk;subst this;refine⟨_,?_,Den.int _ _ _⟩;simp[binOp,zDe]
  ·cases hk:jU k k'<;>rw[hk]at h
   ·cases h
   ·cases h;have:=yW hk;subst this;refine⟨_,?_,Den.int _ _ _⟩;simp[binOp,zDe]
  ·cases h
theorem YdS(op:BinOp)(ib:Bool)(k k':IntKind)(m n:Int)(v:aa)(hv:zi op k k' m n=some v)(h0:Hp):aD P GL (.bin op ib) [.int k m,.int k' n] h0 v [] []:=by
 intro o os hc w0 L g h w a r hx _ _;generalize ho:o.op=yD at hc;cases hc with
 |bin _ t t' x y _ _=>
  obtain⟨d1,d2,_⟩:=hx;obtain⟨z,h1,h2⟩:=ZdH (P:=P) (g:=g) hv t w;rw[ZK ho (Zp d1) (Zp d2) (by rw[eqGuard_at_int];rfl) h1];exact Out.here r h2
theorem Ycg(s:ByteArray):s.toList=s.data.toList:=zCa s
theorem XcJ(op:BinOp)(ib:Bool)(s t:List UInt8)(neq:Bool)(hY:op=if neq then .neq else .eql)(h0:Hp):aD P GL (.bin op ib) [.str s,.str t] h0 (.bool (bif neq then !(s==t)else s==t)) [] []:=by
 intro o os hc w0 L g h w a r hx _ _;generalize ho:o.op=yD at hc;cases hc with
 |bin _ ty t' x y _ _=>
  obtain⟨d1,d2,_⟩:=hx;obtain⟨s',e1,rfl⟩:=yb d1;obtain⟨t',e2,rfl⟩:=yb d2;subst hY;cases neq
  ·rw[ZK ho e1 e2 (by rw[eqGuard_at_string];rfl) (z:=.bool (s'.data.toList==t'.data.toList)) (by simp[binOp,zDt,Ycg])];exact Out.here r (.bool _ _)
  ·rw[ZK ho e1 e2 (by rw[eqGuard_at_string];rfl) (z:=.bool (!(s'.data.toList==t'.data.toList))) (by simp[binOp,zDt,Ycg])];exact Out.here r (.bool _ _)
theorem QdR(ib:Bool)(s t:List UInt8)(hl:zAP (s.length+t.length) 1099511627776=true)(h0:Hp):aD P GL (.bin .add ib) [.str s,.str t] h0 (.str (s++t)) [] []:=by
 intro o os hc w0 L g h w a r hx _ _;generalize ho:o.op=yD at hc;cases hc with
 |bin _ ty t' x y _ _=>
  obtain⟨d1,d2,_⟩:=hx;obtain⟨s',e1,rfl⟩:=yb d1;obtain⟨t',e2,rfl⟩:=yb d2;have hl:=ik hl;have h1:s'.size=s'.data.toList.length:=by simp only[zAy];rfl
  have h2:t'.size=t'.data.toList.length:=by simp only[zAy];rfl
  have hm:BY.max=9223372036854775807:=rfl;have lZ:¬(((s'.size+t'.size:Nat):Int)>BY.max):=by rw[hm];omega
  rw[ZK ho e1 e2 (by rw[eqGuard_at_string];rfl) (z:=.string (s'++t')) (by simp only[binOp,zDt];rw[aE lZ];rfl)];refine Out.here r ?_;have:(s'++t').data.toList=s'.data.toList++t'.data.toList:=by rfl
  rw[←this];exact .str _ _
theorem YcJ(op:BinOp)(m n:Bool)(neq:Bool)(hY:op=if neq then .neq else .eql)(h0:Hp):aD P GL (.bin op true) [.bool m,.bool n] h0 (.bool (bif neq then !(m==n)else m==n)) [] []:=by
 intro o os hc w0 L g h w a r hx _ _;generalize ho:o.op=yD at hc;cases hc with
 |bin _ ty t' x y _ hb=>
  obtain⟨d1,d2,_⟩:=hx;subst hY;cases neq
  ·rw[ZK ho (ZD d1) (ZD d2) (by rw[eqGuard_at_bool];rfl) (run_eql_bool w ty m n (hb rfl))];exact Out.here r (.bool _ _)
  ·rw[ZK ho (ZD d1) (ZD d2) (by rw[eqGuard_at_bool];rfl) (run_neq_bool w ty m n (hb rfl))];exact Out.here r (.bool _ _)
theorem QcW(b:Bool)(h0:Hp):aD P GL (.un .not) [.bool b] h0 (.bool (!b)) [] []:=by
 intro o os hc w0 L g h w a r hx _ _;generalize ho:o.op=yD at hc;cases hc with
 |un _ t x=>simp only[execOp,ho,ZD hx.1,Op.unary,OF,zAA,AS];exact Out.here r (.bool _ _)
theorem XcW(k:IntKind)(n:Int)(h0:Hp):aD P GL (.un .neg) [.int k n] h0 (.int k (k.wrap (0-n))) [] []:=by
 intro o os hc w0 L g h w a r hx _ _;generalize ho:o.op=yD at hc;cases hc with
 |un _ t x=>simp only[execOp,ho,Zp hx.1,Op.unary,Op.intArith,OF,zAA,AS];exact Out.here r (.int _ _ _)
theorem QdS(k k':IntKind)(n:Int)(h0:Hp):aD P GL (.conv k) [.int k' n] h0 (.int k (k.wrap n)) [] []:=by
 intro o os hc w0 L g h w a r hx _ _;generalize ho:o.op=yD at hc;cases hc with
 |conv s d x _ hs hd=>
  obtain⟨ds,C7⟩:=zAB.1 hs;simp only[execOp,ho,Zp hx.1,convert,OF,run_underlying C7,run_underlying hd,AS,Conv.intToInt,zAA];exact Out.here r (.int _ _ _)
theorem Xcs(t:TypeId)(x:aa)(h0:Hp):aD P GL (.jc t) [x] h0 (.iface t x) [] []:=by
 intro o os hc w0 L g h w a r hx _ _;generalize ho:o.op=yD at hc;cases hc with
 |jc _ y sU=>
  simp only[execOp,ho,OF,run_makeInterface w t _ sU,AS,zAA];exact Out.here r (.iface _ _ _ _ hx.1)
theorem QcV(fn:Fn)(n:Nat)(xs ys:List aa)(hn:xs.length=n)(h0:Hp):aD P GL (.j_ fn n) (xs++ys) h0 (.func fn xs ys) [] []:=by
 intro o os hc w0 L g h w a r hx _ _;generalize ho:o.op=yD at hc;cases hc with
 |j_ _ us vs=>
  simp only[execOp,ho,Instr.makeFunc,OF,zAA,AS];have hl:=hx.length;simp at hl;refine Out.here r (.func _ _ _ _ _ _ (by simp[hn]) (by simp;omega) (λi x v e1 e2=>?_) (λi x v e1 e2=>?_))
  ·have hi:=(gK e1).1;refine hx.get i x v (by grind) ?_
   grind
  ·have hi:=(gK e1).1;refine hx.get (xs.length+i) x v (by simp_all) ?_;simp_all
theorem Ycs(h0:Hp)(nb:Nat)(hn:h0 nb=none):aD P GL .makeMap [] h0 (.map nb) [] [(nb,.map [])]:=by
 intro o os hc w0 L g h w a r _ _ gD;have jJ:h nb=none:=by simp_all
 generalize ho:o.op=op at hc;cases hc with
 |makeMap t=>
  simp only[execOp,ho,Instr.makeMap,zCy,OF,run_newObj,zAA,AS];exact⟨_,r.j7 jJ ⟨w.heap.size,0,0,false,0⟩,r.alloc jJ (cb:=⟨w.heap.size,0,0,false,0⟩) rfl rfl rfl ⟨#[],0,rfl,rfl,by simp⟩,.map _ _ _ (Zz _ _ _)⟩
theorem Ybv{t:TypeId}{n:Nat}(hn:size? P t=some n)(h0:n≠0)(a:Addr)(fd:Field)(ht:fd.type=t)(w:World):(fieldPlace a fd).run P w=.ok (a.add fd.offset) w:=by
 simp_all [fieldPlace,YD]
theorem Pr(off:Nat)(x y:aa)(U1:(∃b j,x=.ak b j∧y=.ak b (j+off))∨(∃b i j,x=.ptr b i j∧y=.ptr b i (j+off))∨(∃row j,x=.aq row j∧y=.aq row (j+off)))(h0:Hp) :
  aD P GL (.fieldAddr off) [x] h0 y [] []:=by
 intro o os hc w0 L g h w a r hx _ _;generalize ho:o.op=op at hc;cases hc with
 |fieldAddr t z f fs fd n hu hf hn kI=>
  have d:=hx.1;generalize iT:a.eval z=u0 at d;have key:∀b o',(execOp a.eval o).run P w=.ok (.value (.pointer (some ⟨b,o'+fd.offset,none⟩))) w∨a.eval z≠.pointer (some ⟨b,o',none⟩):=by
   intro b o';by_cases he:a.eval z=.pointer (some ⟨b,o',none⟩)
   ·left;simp only[execOp,ho,he,Instr.fieldAt,OF,run_underlying hu,AS,hf,zBW,zAA,Ybv hn kI _ fd rfl,XU]
   ·exact .inr he
  rcases U1 with ⟨b,j,rfl,rfl⟩|⟨b,i,j,rfl,rfl⟩|⟨row,j,rfl,rfl⟩
  ·cases d with
   |ak _ _ _ cb ec=>
    rw[(key cb.blk j).resolve_right (λcO=>cO iT)];exact Out.here r (.ak _ _ _ _ ec)
  ·cases d with
   |ptr _ _ _ _ cb ec=>
    rw[(key cb.blk (cb.base+i*cb.sz+j)).resolve_right (λcO=>cO iT),zBQ];exact Out.here r (.ptr _ _ _ _ _ ec)
  ·cases d with
   |aq _ _ _ blk Ll f' h1 h2=>
    rw[(key blk (Ll+j)).resolve_right (λcO=>cO iT),zBQ];exact Out.here r (.aq _ _ _ _ _ f' h1 h2)
theorem XcI{t:TypeId}{agg:Bool}{n:Nat}(ha:fS P t=some agg)(hn:size? P t=some n){g:Gm}{cs:List aa}{arr:Array Value}{off:Nat}{v:aa}(hv:aK agg off n cs=some v)(hs:arr.size=cs.length)
 (hd:∀(j:Nat) (y:aa) (u:Value),cs[j]?=some y→arr[j]?=some u→g.den y u)(w:World):∃u,(part t arr off).run P w=.ok u w∧g.den v u:=by
 obtain⟨p1,p2⟩:=ID (g:=g) hv (by omega) hd;cases agg with
 |true=>
  simp_all [part,X7,YD]
 |false=>
  obtain⟨u,q1,q2⟩:=p2 rfl;simp_all [part,X7]
theorem Zdu(agg:Bool)(off n:Nat)(cs:List aa)(v:aa)(hv:aK agg off n cs=some v)(h0:Hp):aD P GL (.field agg off n) [.agg cs] h0 v [] []:=by
 intro o os hc w0 L g h w a r hx _ _;generalize ho:o.op=op at hc;cases hc with
 |field t z f fs fd _ _ hu hf hn ha=>
  have d:=hx.1;generalize iT:a.eval z=u0 at d;cases d with
  |agg _ _ vs h1 h2=>
   obtain⟨u,q1,q2⟩:=XcI ha hn hv h1 h2 w;simp_all [execOp,Instr.field,asAgg,run_underlying,Out.here]
theorem ZdT(agg:Bool)(len n:Nat)(cs:List aa)(v:aa)(k:IntKind)(i:Nat)(hi:i<len)(hv:aK agg (i*n) n cs=some v)(h0:Hp):aD P GL (.rI agg len n) [.agg cs,.int k (.ofNat i)] h0 v [] []:=by
 intro o os hc w0 L g h w a r hx _ _;generalize ho:o.op=op at hc;cases hc with
 |rI t z y _ e _ _ hu hn ha=>
  obtain⟨d,d2,_⟩:=hx;generalize iT:a.eval z=u0 at d;cases d with
  |agg _ _ vs h1 h2=>
   obtain⟨u,q1,q2⟩:=XcI ha hn hv h1 h2 w;simp only[execOp,ho,iT,Zp d2,Instr.index,asIntOf,OF,run_underlying hu,AS,zAA];simp_all [YD,Out.here]
theorem P_(len n:Nat)(x y:aa)(k:IntKind)(i:Nat)(hi:i<len)
 (U1:(∃b j,x=.ak b j∧y=.ak b (j+i*n))∨(∃b r j,x=.ptr b r j∧y=.ptr b r (j+i*n))∨(∃row j,x=.aq row j∧y=.aq row (j+i*n)))(h0:Hp) :
  aD P GL (.gR len n) [x,.int k (.ofNat i)] h0 y [] []:=by
 intro o os hc w0 L g h w a r hx _ _;generalize ho:o.op=op at hc;cases hc with
 |gR t z q _ e _ hu hn=>
  obtain⟨d,d2,_⟩:=hx;generalize iT:a.eval z=u0 at d;have key:∀b o',a.eval z=.pointer (some ⟨b,o',none⟩)→(execOp a.eval o).run P w=.ok (.value (.pointer (some ⟨b,o'+i*n,none⟩))) w:=by
   intro b o' he;simp only[execOp,ho,he,Zp d2,zDT,asIntOf,OF,run_underlying hu,AS,zBW,zAA];rw[aJ ⟨Int.natCast_nonneg i,Int.ofNat_lt.2 hi⟩];simp_all [YD,XU]
  rcases U1 with ⟨b,j,rfl,rfl⟩|⟨b,r',j,rfl,rfl⟩|⟨row,j,rfl,rfl⟩
  ·cases d with
   |ak _ _ _ cb ec=>rw[key _ _ iT];exact Out.here r (.ak _ _ _ _ ec)
  ·cases d with
   |ptr _ _ _ _ cb ec=>rw[key _ _ iT,zBQ];exact Out.here r (.ptr _ _ _ _ _ ec)
  ·cases d with
   |aq _ _ _ blk Ll f' h1 h2=>rw[key _ _ iT,zBQ];exact Out.here r (.aq _ _ _ _ _ f' h1 h2)
theorem Zcs(i:Nat)(vs:List aa)(v:aa)(hv:vs[i]?=some v)(h0:Hp):aD P GL (.extract i) [.bp vs] h0 v [] []:=by
 intro o os hc w0 L g h w a r hx _ _;generalize ho:o.op=op at hc;cases hc with
 |extract z _=>
  have d:=hx.1;generalize iT:a.eval z=u0 at d;cases d with
  |bp _ _ us h1 h2=>
   have b_:i<us.size:=by grind
   have he:us[i]?=some us[i]:=by simp[b_]
   simp only[execOp,ho,iT,Instr.extract,he,OF,zAA,AS];exact Out.here r (h2 i v _ hv he)
theorem M3(x:aa)(n:Int)(su:(x=.an∧n=0)∨(x=.cS∧n=0)∨(∃b o l e,x=.sl b o l e∧n=l)∨(∃e q s rows,x=.aU e q s rows∧n=rows.length))(h0:Hp):aD P GL .rN [x] h0 (.int .i64 n) [] []:=by
 intro o os hc w0 L g h w a r hx _ _;generalize ho:o.op=op at hc;cases hc with
 |rN t e z hu=>
  have d:=hx.1;generalize iT:a.eval z=u0 at d;have key:∀p m c,a.eval z=.slice p m c→(execOp a.eval o).run P w=.ok (.value (.int .i64 m)) w:=by
   intro p m c he;simp[execOp,ho,resolve,invoke,builtin,zCC,he,run_underlying hu,goInt]
  rcases su with ⟨rfl,rfl⟩|⟨rfl,rfl⟩|⟨b,o',l,e',rfl,rfl⟩|⟨e',q,s,rows,rfl,rfl⟩
  ·cases d;rw[key _ _ _ iT];exact Out.here r (.int _ _ _)
  ·cases d;rw[key _ _ _ iT];exact Out.here r (.int _ _ _)
  ·cases d<;>(rw[key _ _ _ iT];exact Out.here r (.int _ _ _))
  ·cases d;rw[key _ _ _ iT];exact Out.here r (.int _ _ _)
theorem ZcV(s:List UInt8)(h0:Hp):aD P GL .j9 [.str s] h0 (.int .i64 s.length) [] []:=by
 intro o os hc w0 L g h w a r hx _ _;generalize ho:o.op=op at hc;cases hc with
 |j9 t z hu=>
  obtain⟨s',e1,rfl⟩:=yb hx.1;have:(execOp a.eval o).run P w=.ok (.value (.int .i64 s'.size)) w:=by
   simp[execOp,ho,resolve,invoke,builtin,zCC,e1,run_underlying hu,goInt]
  rw[this,show (s'.size:Int)=(s'.data.toList.length:Nat) by simp];exact Out.here r (.int _ _ _)
theorem YdT(n:Nat)(x:aa)(h0:Hp):aD P GL (.rM n) [x] h0 (.int .i64 n) [] []:=by
 intro o os hc w0 L g h w a r _ _ _;generalize ho:o.op=op at hc;cases hc with
 |rM t e _ z hu=>
  have:(execOp a.eval o).run P w=.ok (.value (.int .i64 n)) w:=by
   simp[execOp,ho,resolve,invoke,builtin,zCC,run_underlying hu,goInt]
  rw[this];exact Out.here r (.int _ _ _)
theorem QdT(k k':IntKind)(x y:Int)(h0:Hp):aD P GL .min2 [.int k x,.int k' y] h0 (.int k (if y<x then y else x)) [] []:=by
 intro o os hc w0 L g h w a r hx _ _;generalize ho:o.op=op at hc;cases hc with
 |min2 ts p q=>
  have:(execOp a.eval o).run P w=.ok (.value (.int k (if y<x then y else x))) w:=by
   simp[execOp,ho,resolve,invoke,builtin,Zp hx.1,Zp hx.2.1,run_min_int2]
  rw[this];exact Out.here r (.int _ _ _)
theorem XdT(k k':IntKind)(x y:Int)(h0:Hp):aD P GL .max2 [.int k x,.int k' y] h0 (.int k (if y>x then y else x)) [] []:=by
 intro o os hc w0 L g h w a r hx _ _;generalize ho:o.op=op at hc;cases hc with
 |max2 ts p q=>
  have:(execOp a.eval o).run P w=.ok (.value (.int k (if y>x then y else x))) w:=by
   simp[execOp,ho,resolve,invoke,builtin,Zp hx.1,Zp hx.2.1,run_max_int2]
  rw[this];exact Out.here r (.int _ _ _)
end
end Go.Ah
end
section
namespace Go.Ah
section
variable {P:Program} {GL:ar}
theorem Wh(off:Nat):∀(l:List Value) (j:Nat) (cells:Array Value),off+j+l.length<=cells.size →
  ((l.zipIdx j).foldl (λ(cs:Array Value) (p:Value×Nat)=>cs.setIfInBounds (off+p.2) p.1) cells).size=cells.size ∧
  ∀k:Nat,((l.zipIdx j).foldl (λ(cs:Array Value) (p:Value×Nat)=>cs.setIfInBounds (off+p.2) p.1) cells)[k]?=if off+j<=k∧k<off+j+l.length then l[k-(off+j)]? else cells[k]?
 |[],j,cells,_=>by simp;intro k h1 h2;omega
 |v::l,j,cells,h=>by
  simp only[List.zipIdx_cons,List.foldl_cons];simp only[IS]at h;obtain⟨h1,h2⟩:=Wh off l (j+1) (cells.setIfInBounds (off+j) v) (by simp;omega)
  grind
theorem N_{g:Gm}{place:Nat→Option (Nat×Nat)}:∀(parts:List (Nat×Value)) (ps:List (Nat×Nat)) (xs:List aa) (z cs:List aa) (cells:Array Value),
  fill z ps xs=some cs→parts.map (λp=>place p.1)=ps.map some→dM g xs (parts.map (·.2))→cells.size=z.length →
  (∀(j:Nat) (y:aa) (u:Value),z[j]?=some y→cells[j]?=some u→g.den y u)→(∀y∈z,y.cell=true) →
  ∃cP,zDI place cells parts=some cP∧cP.size=cs.length∧(∀(j:Nat) (y:aa) (u:Value),cs[j]?=some y→cP[j]?=some u→g.den y u)∧cs.length=z.length∧(∀y∈cs,y.cell=true)
 |[],ps,xs,z,cs,cells,hf,hp,hx,hs,hd,hc=>by
  have:ps=[]:=by simpa using hp.symm
  subst this;cases xs with
  |nil=>simp only[fill]at hf;cases hf;exact⟨cells,rfl,hs,hd,rfl,hc⟩
  |cons x xs=>exact hx.elim
 |(i,v)::parts,ps,xs,z,cs,cells,hf,hp,hx,hs,hd,hc=>by
  cases ps with
  |nil=>simp at hp
  |cons p ps=>
   obtain⟨off,sz⟩:=p;simp only[zAN,zCL]at hp;obtain⟨OV,vp⟩:=hp;cases xs with
   |nil=>exact hx.elim
   |cons x xs=>
    obtain⟨dx,K0⟩:=hx;simp only[fill]at hf;cases pY:cellsOf x with
    |none=>simp[pY]at hf
    |some c1=>
     simp only[pY]at hf;cases hb:IN c1.length sz && !(IN sz 0)with
     |false=>simp[hb]at hf
     |true=>
      have cj:=hb;simp only[AI,Bool.not_eq_true']at cj;have eL:c1.length=sz:=fV cj.1;have aaF:sz≠0:=by intro e;subst e;simp[IN]at cj
      simp only[hb,cond_true]at hf;cases uc:cc off c1 z with
      |none=>simp[uc]at hf
      |some z'=>
       simp only[uc]at hf;obtain⟨e1,e2,e3⟩:=Od pY dx;obtain⟨s1,s2,s3⟩:=Se uc;have rG:v.cells.size=sz:=by rw[e1,eL]
       have K1:c1≠[]:=by rintro rfl;simp at eL;omega
       have dB:=s2 K1;obtain⟨l1,l2⟩:=Wh off v.cells.toList 0 cells (by simp[e1];omega);obtain⟨cP,f1,f2,f3,f4,f5⟩:=N_ parts ps xs z' cs _ hf vp K0 (by rw[l1,hs,s1]) (λj y u q1 q2=>by
         grind) (λy hy=>by
         obtain⟨j,hj⟩:=zBi.1 hy
         grind)
       refine⟨cP,?_,f2,f3,by rw[f4,s1],f5⟩;simp only[zDI,OV,rG];rw[aE (by simp;rw[hs];omega),←f1]
       congr 1
       rw[←Array.foldl_toList];simp
theorem Zdt(z:List aa)(ps:List (Nat×Nat))(xs cs:List aa)(hf:fill z ps xs=some cs)(h0:Hp):aD P GL (.build z ps) xs h0 (.agg cs) [] []:=by
 intro o os hc w0 L g h w a r hx _ _;generalize ho:o.op=op at hc;cases hc with
 |buildStruct t fs v _ parts places _ hu hz dJ KF uU=>
  obtain⟨it,hit,Uj⟩:∃it,P.info? t=some it∧it.zero=some v:=by
   unfold eu at hz;cases hi:P.info? t<;>simp_all
  obtain⟨c1,c2⟩:=YU (M:=g.M) (c:=g.c) dJ;obtain⟨cP,f1,f2,f3,_,_⟩:=N_ (g:=g) (place:=(places.toArray[·]?)) (parts.map λp=>(p.1,a.eval p.2)).toList ps xs z cs v.cells hf (by simp_all [Function.comp_def]) (by rw[zBn,zCE];rw[zCE]at hx;exact hx) (by simpa using c1) (λj y u e1 e2=>c2 j y u e1 (by simpa using e2)) (Nu dJ);have hb:P.built t (parts.map λp=>(p.1,a.eval p.2)).toList=some cP:=by
   simp_all [Program.built]
  simp only[execOp,ho,OF,run_build w t _ cP hb,AS,zAA];exact Out.here r (.agg _ _ _ f2 f3)
 |nT t n e v _ parts _ sz hu hz dJ hs uU=>
  obtain⟨it,hit,Uj⟩:∃it,P.info? t=some it∧it.zero=some v:=by
   unfold eu at hz;cases hi:P.info? t<;>simp_all
  obtain⟨ie,BE,rr⟩:∃ie,P.info? e=some ie∧ie.size=sz:=by
   simp_all [size?]
  obtain⟨c1,c2⟩:=YU (M:=g.M) (c:=g.c) dJ;obtain⟨cP,f1,f2,f3,_,_⟩:=N_ (g:=g) (place:=λi=>some (i*ie.size,ie.size)) (parts.map λp=>(p.1,a.eval p.2)).toList ps xs z cs v.cells hf (by rw[←uU,rr];simp) (by rw[zBn,zCE];rw[zCE]at hx;exact hx) (by simpa using c1) (λj y u e1 e2=>c2 j y u e1 (by simpa using e2)) (Nu dJ);have hb:P.built t (parts.map λp=>(p.1,a.eval p.2)).toList=some cP:=by
   simp_all [Program.built]
  simp only[execOp,ho,OF,run_build w t _ cP hb,AS,zAA];exact Out.here r (.agg _ _ _ f2 f3)
theorem Zco{z:List aa}{n k:Nat}(hk:k<n*z.length):((zAd n z).flatten)[k]?=z[k%z.length]?:=by
 induction n generalizing k with
 |zero=>simp at hk
 |succ n ih=>
  simp only[List.replicate_succ,List.flatten_cons];by_cases h:k<z.length<;>grind [zCT,Nat.mod_eq_sub_mod]
theorem bx.nJ{w0:World}{L:Ln}{g:Gm}{h:Hp}{w:World}(r:bx GL w0 L g h w){nb:Nat}(hn:h nb=none)(sz:Nat)(rs:List (List aa))(arr:Array Value)(T:TypeId)(len cap:Nat)(ex:Bool)
 (hs:cap*sz=arr.size)(hlen:len<=cap)(hex:ex=true→cap=len)(wW:rs.length<=cap)(dN:∀(i:Nat) (row:List aa),rs[i]?=some row→row.length=sz)
 (hd:∀(i:Nat) (row:List aa) (j:Nat) (x:aa) (v:Value),rs[i]?=some row→row[j]?=some x→arr[i*sz+j]?=some v→g.den x v) :
  ∃g',g.Le g'∧bx GL w0 L g' (ei h nb (.rows sz rs)) (w.alloc (.cells arr T))∧g'.den (.sl nb 0 len ex) (.slice (some ⟨w.heap.size,0,none⟩) len cap):=by
 have hle:=r.j7 hn ⟨w.heap.size,sz,arr.size,false,0⟩;have h1:rs.length*sz<=arr.size:=zAY (zAE sz wW) (Nat.le_of_eq hs);have kZ:Den g.M (lK g.c nb ⟨w.heap.size,sz,arr.size,false,0⟩) (.sl nb 0 len ex) (.slice (some ⟨w.heap.size,0+0*sz,none⟩) len cap):=
  .sl _ _ _ _ _ _ _ (Zz _ _ _) rfl hlen (by simpa using hs) hex
 rw[zDf]at kZ;exact⟨_,hle,r.alloc hn (cb:=⟨w.heap.size,sz,arr.size,false,0⟩) rfl rfl rfl ⟨rfl,arr,T,rfl,rfl,(No _).symm▸h1,dN,λi row j x v e1 e2 e3=>Gm.lQ hle (hd i row j x v e1 e2 (by rw[←e3];simp))⟩,kZ⟩
theorem YcU(sz n:Nat)(z:List aa)(ps:List (Nat×Nat))(xs cs:List aa)(rs:List (List aa))(hf:fill z ps xs=some cs)(hch:chunk sz n cs=some rs)(h0:Hp)(nb:Nat)(hn:h0 nb=none) :
  aD P GL (.mF sz n z ps) xs h0 (.sl nb 0 n true) [] [(nb,.rows sz rs)]:=by
 intro o os hc w0 L g h w a r hx _ gD;have jJ:h nb=none:=by simp_all
 generalize ho:o.op=op at hc;cases hc with
 |buildSlice t _ e v z0 _ parts _ _ hu hs UY qd hz rG dJ rm uU=>
  obtain⟨ie,BE,rr⟩:∃ie,P.info? e=some ie∧ie.size=sz:=by
   simp_all [size?]
  have hiz:ie.zero=some v:=by simp_all [eu]
  have qG:P.underlying t=some (.slice e):=by
   grind [eY]
  obtain⟨c1,c2⟩:=YU (M:=g.M) (c:=g.c) dJ;have K1:z0.length=sz:=by rw[←c1,zAy,rG]
  have Hd:z.length=n*sz:=by rw[←rm];simp[K1]
  obtain⟨k1,k2,k3,k4⟩:=QcN hch;have sV:∀nV:Array Value,nV.size=n*sz→(∀k v',nV[k]?=some v'→v.cells[k%sz]?=some v') →
    ∃cP,zDI (λi=>some (i*ie.size,ie.size)) nV (parts.map λp=>(p.1,a.eval p.2)).toList=some cP∧cP.size=cs.length∧(∀(j:Nat) (y:aa) (u:Value),cs[j]?=some y→cP[j]?=some u→g.den y u)∧cs.length=z.length:=by
   intro nV hs0 hv0;obtain⟨cP,f1,f2,f3,f4,_⟩:=N_ (g:=g) (place:=λi=>some (i*ie.size,ie.size)) (parts.map λp=>(p.1,a.eval p.2)).toList ps xs z cs nV hf (by rw[←uU,rr];simp) (by rw[zBn,zCE];rw[zCE]at hx;exact hx) (by rw[hs0,Hd])
    (λj y u e1 e2=>by
     have hj:j<n*z0.length:=by grind
     rw[← rm,Zco hj,K1]at e1;exact c2 _ y u e1 (by simp_all))
    (λy hy=>by
     rw[← rm]at hy;simp only[List.mem_flatten,List.mem_replicate]at hy;obtain⟨l,⟨_,rfl⟩,hyl⟩:=hy;exact Nu dJ y hyl)
   exact⟨cP,f1,f2,f3,f4⟩
  have ny:∀cP:Array Value,cP.size=cs.length→cs.length=z.length→(∀(j:Nat) (y:aa) (u:Value),cs[j]?=some y→cP[j]?=some u→g.den y u) →
    Out P GL w0 L g (cw h [(nb,.rows sz rs)]) (.sl nb 0 n true) (.ok (.value (.slice (some ⟨w.heap.size,0,none⟩) n n)) (w.alloc (.cells cP e))):=by
   intro cP f2 f4 f3;refine bx.nJ r jJ sz rs cP e n n true (by rw[f2,f4,Hd]) (IT _) (λ_=>rfl) (by omega) k3 (λi row j x v' e1 e2 e3=>?_);exact f3 _ x v' (k4 i row j x e1 e2) e3
  have aaG:0 < sz:=zBr (λe=>qd (by rw[e];simp));obtain⟨cP,f1,f2,f3,f4⟩:=sV ((zCN (n * ie.size)).map (v.cells[· % v.cells.size]!)) (by simp[rr]) (λk v' e1=>by
   grind [zDQ])
  have ba:(zCO t n (parts.map λp=>(p.1,a.eval p.2))).run P w=.ok (.slice (some ⟨w.heap.size,0,none⟩) n n) (w.alloc (.cells cP e)):=by
   have hs1:¬n*ie.size>2 ^ 24:=by rw[rr];omega
   have qf:¬n*ie.size=0:=by rw[rr];exact qd
   simp only[zCO,sizeOf,typeInfo,zeroValue,newRow,OF,run_underlying qG,AS,run_program,BE,zAA,aE hs1,aE qf,hiz,f1,run_newObj];rfl
  grind [execOp,OF,AS,zAA]
theorem Xcc(b:Nat)(es:List (aa×aa))(h0:Hp)(hb:h0 b=some (.map es)):aD P GL .mK [.map b] h0 (.int .i64 es.length) [b] []:=by
 intro o os hc w0 L g h w a r hx dc _;have cj:h b=some (.map es):=by simp_all
 generalize ho:o.op=op at hc;cases hc with
 |mK t k e z hu=>
  have d:=hx.1;generalize iT:a.eval z=u0 at d;cases d with
  |map _ _ cb ec=>
  cases bW:cb.cK with
  |true=>have:=r.bc b _ cb cj rfl ec bW;cases this
  |false=>
  obtain⟨_,_,o',fO,arr,clock,rfl,hs,c7⟩:=r.own b _ cb cj rfl ec bW;have aj:(getObj cb.blk).run P w=.ok (.map arr clock) w:=by simp[getObj,zCZ,fO]
  have:(execOp a.eval o).run P w=.ok (.value (.int .i64 es.length)) w:=by
   simp[execOp,ho,resolve,invoke,builtin,zCC,iT,run_underlying hu,aj,goInt,hs]
  rw[this];exact Out.here r (.int _ _ _)
theorem Ycc(h0:Hp):aD P GL .mK [.cQ] h0 (.int .i64 0) [] []:=by
 intro o os hc w0 L g h w a r hx _ _;generalize ho:o.op=op at hc;cases hc with
 |mK t k e z hu=>
  have d:=hx.1;generalize iT:a.eval z=u0 at d;cases d with
  |cQ=>
  have:(execOp a.eval o).run P w=.ok (.value (.int .i64 0)) w:=by
   simp[execOp,ho,resolve,invoke,builtin,zCC,iT,run_underlying hu,goInt]
  rw[this];exact Out.here r (.int _ _ _)
theorem Qcc(es:List (aa×aa))(h0:Hp):aD P GL .mK [.fL es] h0 (.int .i64 es.length) [] []:=by
 intro o os hc w0 L g h w a r hx _ _;generalize ho:o.op=op at hc;cases hc with
 |mK t k e z hu=>
  have d:=hx.1;generalize iT:a.eval z=u0 at d;cases d with
  |fL _ _ blk arr clock hM hs h1 h2=>
  have aj:(getObj blk).run P w=.ok (.map arr clock) w:=by simp[getObj,zCZ,r.aX _ _ hM]
  have:(execOp a.eval o).run P w=.ok (.value (.int .i64 es.length)) w:=by
   simp[execOp,ho,resolve,invoke,builtin,zCC,iT,run_underlying hu,aj,goInt,hs]
  rw[this];exact Out.here r (.int _ _ _)
theorem Qdu(s:List UInt8)(h0:Hp)(nb:Nat)(hn:h0 nb=none):aD P GL .range [.str s] h0 (.iter nb) [] [(nb,.fw s 0)]:=by
 intro o os hc w0 L g h w a r hx _ gD;have jJ:h nb=none:=by simp_all
 generalize ho:o.op=op at hc;cases hc with
 |range t x hu=>
  obtain⟨s',e1,rfl⟩:=yb hx.1;have:(execOp a.eval o).run P w=.ok (.value (.pointer (some ⟨w.heap.size,0,none⟩))) (w.alloc (.stringIter s' 0)):=by
   simp_all [execOp,Instr.range,run_underlying]
  rw[this];exact⟨_,r.j7 jJ ⟨w.heap.size,0,0,false,0⟩,r.alloc jJ (cb:=⟨w.heap.size,0,0,false,0⟩) rfl rfl rfl (by show _=_;rfl),.iter _ _ _ (Zz _ _ _)⟩
theorem QQ{t:TypeId}(h:P.concrete t=true)(h2:(P.underlying t).isSome=true):∃d,P.underlying t=some d∧∀ms,d≠.interface ms:=by
 grind [Program.concrete,zAB]
theorem Pk(t:TypeId)(ok:Bool)(z v:aa)(u:TypeId)(h0:Hp) :
  aD P GL (.fN t ok z) [.iface t v] h0 (bif ok then .bp [v,.bool true]else v) [] []∧(u≠t→aD P GL (.fN t true z) [.iface u v] h0 (.bp [z,.bool false]) [] [])∧aD P GL (.fN t true z) [.dp] h0 (.bp [z,.bool false]) [] []:=by
 refine⟨?_,?_,?_⟩
 ·intro o os hc w0 L g h w a r hx _ _;generalize ho:o.op=op at hc;cases hc with
  |fN y tx _ _ zv _ sU oI hz Bv=>
   have d:=hx.1;generalize iT:a.eval y=u0 at d;cases d with
   |iface _ _ _ v' dv=>
   obtain⟨d',pj,pH⟩:=QQ sU oI;have:(zBH (.iface t v') tx t ok).run P w=.ok (if ok then .tuple #[v',.bool true]else v') w:=by
    simp_all [zBH,run_underlying]
   simp only[execOp,ho,iT,OF,this,AS,zAA];refine Out.here r ?_;cases ok
   ·exact dv
   ·refine .bp _ _ _ rfl (λi x v e1 e2=>?_)
    match i with
    |0=>simp at e1 e2;subst e1 e2;exact dv
    |1=>simp at e1 e2;subst e1 e2;exact .bool _ _
    |n+2=>simp at e1
 ·intro cO o os hc w0 L g h w a r hx _ _;generalize ho:o.op=op at hc;cases hc with
  |fN y tx _ _ zv _ sU oI hz Bv=>
   have d:=hx.1;generalize iT:a.eval y=u0 at d;cases d with
   |iface _ _ _ v' dv=>
   obtain⟨d',pj,pH⟩:=QQ sU oI;have:(zBH (.iface u v') tx t true).run P w=.ok (.tuple #[zv,.bool false]) w:=by
    simp_all [zBH,run_underlying,AR]
   simp only[execOp,ho,iT,OF,this,AS,zAA];refine Out.here r (.bp _ _ _ rfl (λi x v e1 e2=>?_))
   match i with
   |0=>simp at e1 e2;subst e1 e2;exact Ng Bv
   |1=>simp at e1 e2;subst e1 e2;exact .bool _ _
   |n+2=>simp at e1
 ·intro o os hc w0 L g h w a r hx _ _;generalize ho:o.op=op at hc;cases hc with
  |fN y tx _ _ zv _ sU oI hz Bv=>
   have d:=hx.1;generalize iT:a.eval y=u0 at d;cases d with
   |dp=>
   obtain⟨d',pj,pH⟩:=QQ sU oI;have:(zBH .nilIface tx t true).run P w=.ok (.tuple #[zv,.bool false]) w:=by
    simp_all [zBH,run_underlying,AR]
   simp only[execOp,ho,iT,OF,this,AS,zAA];refine Out.here r (.bp _ _ _ rfl (λi x v e1 e2=>?_))
   match i with
   |0=>simp at e1 e2;subst e1 e2;exact Ng Bv
   |1=>simp at e1 e2;subst e1 e2;exact .bool _ _
   |n+2=>simp at e1
theorem Xds{t:TypeId}{i:TypeInfo}(h:P.info? t=some i)(w:World):(typeInfo t).run P w=.ok i w:=by
 simp_all [typeInfo]
theorem Xcr(o0:List TypeId)(u:TypeId)(v:aa)(h0:Hp)(hu:u∈o0):aD P GL (.gJ o0) [.iface u v] h0 (.bp [.iface u v,.bool true]) [] []:=by
 intro o os hc w0 L g h w a r hx _ _;generalize ho:o.op=op at hc;cases hc with
 |gJ y tx t ms _ ta hz htb=>
  have d:=hx.1;generalize iT:a.eval y=u0 at d;cases d with
  |iface _ _ _ v' dv=>
  obtain⟨i,hi,hm⟩:=htb u hu;have:(zBH (.iface u v') tx t true).run P w=.ok (.tuple #[.iface u v',.bool true]) w:=by
   simp_all [zBH,run_underlying,Xds]
  simp only[execOp,ho,iT,OF,this,AS,zAA];refine Out.here r (.bp _ _ _ rfl (λi x v e1 e2=>?_))
  match i with
  |0=>simp at e1 e2;subst e1 e2;exact .iface _ _ _ _ dv
  |1=>simp at e1 e2;subst e1 e2;exact .bool _ _
  |n+2=>simp at e1
theorem Zcc(o0:List TypeId)(h0:Hp):aD P GL (.gJ o0) [.dp] h0 (.bp [.dp,.bool false]) [] []:=by
 intro o os hc w0 L g h w a r hx _ _;generalize ho:o.op=op at hc;cases hc with
 |gJ y tx t ms _ ta hz htb=>
  have d:=hx.1;generalize iT:a.eval y=u0 at d;cases d with
  |dp=>
  have:(zBH .nilIface tx t true).run P w=.ok (.tuple #[.nilIface,.bool false]) w:=by
   simp_all [zBH,run_underlying,AR]
  simp only[execOp,ho,iT,OF,this,AS,zAA];refine Out.here r (.bp _ _ _ rfl (λi x v e1 e2=>?_))
  match i with
  |0=>simp at e1 e2;subst e1 e2;exact .dp _
  |1=>simp at e1 e2;subst e1 e2;exact .bool _ _
  |n+2=>simp at e1
end
end Go.Ah
end
section
namespace Go.Ah
section
variable {P:Program} {GL:ar}
def mQ:eV→Bool→Value→Prop
 |.ptr,true,v=>v=.pointer none
 |.ptr,false,v=>∃a,v=.pointer (some a)
 |.slice,true,v=>v=.slice none 0 0
 |.slice,false,v=>∃a l c,v=.slice (some a) l c
 |.iface,true,v=>v=.nilIface
 |.iface,false,v=>∃t u,v=.iface t u
 |.func,true,v=>v=.nilFunc
 |.func,false,v=>∃f p q,v=.func f p q
 |.map,true,v=>v=.map none
 |.map,false,v=>∃m,v=.map (some m)
theorem XbF{c:eV}{z:aa}{b:Bool}(h:nK c z=some b){g:Gm}{v:Value}(d:g.den z v):mQ c b v:=by
 cases d<;>cases c<;>simp only[nK]at h<;>first
  |(cases h;done)
  |(cases h;simp only[mQ];done)
  |(cases h;exact⟨_,rfl⟩)
  |(cases h;exact⟨_,_,rfl⟩)
  |(cases h;exact⟨_,_,_,rfl⟩)
  |skip
 ·rename_i b' off len ex cb cap _ _ _ _ _;cases len with
  |zero=>cases h
  |succ n=>cases h;exact⟨_,_,_,rfl⟩
 ·rename_i nn _ rows a _ _ _ _ _ h2 h3 _ _ _ _ _;cases nn
  ·cases rows with
   |nil=>cases h
   |cons r rs=>
    cases h;have:=h3 (by simp);subst this;exact⟨_,_,_,rfl⟩
  ·cases h;obtain⟨a',TU⟩:=zAB.1 (h2 rfl);subst TU;exact⟨_,_,_,rfl⟩
theorem Qbo{c:eV}{t:TypeId}(ht:uE P t=some c){b:Bool}{v:Value}(hv:mQ c b v)(w:World)(d:Nat) :
  (zCc (d+1) t v (ke c)).run P w=.ok b w∧(zCc (d+1) t (ke c) v).run P w=.ok b w:=by
 unfold uE at ht;cases hu:P.underlying t with
 |none=>simp[hu]at ht
 |some ty=>
  unfold zCc;simp only[OF,run_underlying hu,AS];cases ty<;>simp only[hu]at ht<;>cases ht<;>cases b<;>simp only[mQ]at hv<;>first
   |(subst hv;exact⟨rfl,rfl⟩)
   |(obtain⟨x,rfl⟩:=hv;exact⟨rfl,rfl⟩)
   |(obtain⟨x,y,rfl⟩:=hv;exact⟨rfl,rfl⟩)
   |(obtain⟨x,y,z,rfl⟩:=hv;exact⟨rfl,rfl⟩)
theorem Xcb{c:eV}{t:TypeId}(ht:uE P t=some c){b:Bool}{v:Value}(hv:mQ c b v)(neq:Bool)(w:World) :
  (binOp (if neq then .neq else .eql) t v (ke c)).run P w=.ok (.bool (bif neq then !b else b)) w∧(binOp (if neq then .neq else .eql) t (ke c) v).run P w=.ok (.bool (bif neq then !b else b)) w:=by
 obtain⟨h1,h2⟩:=Qbo ht hv w 9999;have e1:∀x y:Value,(zCc (9999+1) t x y).run P w=.ok b w→((do pure (.bool (←Op.equal t x y)):Sem Value).run P w=.ok (.bool b) w)∧((do pure (.bool (!(←Op.equal t x y))):Sem Value).run P w=.ok (.bool (!b)) w):=by
  intro x y hr;have jS:(Op.equal t x y).run P w=.ok b w:=hr;simp_all
 have f1:=e1 _ _ h1;have f2:=e1 _ _ h2;cases neq<;>cases c<;>cases b<;>simp only[mQ]at hv<;>first
  |(subst hv;first|exact⟨f1.1,f2.1⟩|exact⟨f1.2,f2.2⟩)
  |(obtain⟨x,rfl⟩:=hv;first|exact⟨f1.1,f2.1⟩|exact⟨f1.2,f2.2⟩)
  |(obtain⟨x,y,rfl⟩:=hv;first|exact⟨f1.1,f2.1⟩|exact⟨f1.2,f2.2⟩)
  |(obtain⟨x,y,z,rfl⟩:=hv;first|exact⟨f1.1,f2.1⟩|exact⟨f1.2,f2.2⟩)
theorem Xbi{c:eV}{t:TypeId}(neq:Bool){b:Bool}{v:Value}(hv:mQ c b v)(x:Operand) :
  eqGuard (if neq then .neq else .eql) t x (.const (ke c)) v (ke c)=pure ()∧eqGuard (if neq then .neq else .eql) t (.const (ke c)) x (ke c) v=pure ():=by
 cases c<;>cases b<;>simp only[mQ]at hv<;>cases neq<;>first
  |(subst hv;constructor<;>first|rfl|simp[eqGuard,ke])
  |(obtain⟨x,rfl⟩:=hv;constructor<;>rfl)
  |(obtain⟨x,y,rfl⟩:=hv;constructor<;>rfl)
  |(obtain⟨x,y,z,rfl⟩:=hv;constructor<;>rfl)
theorem Qdt(c:eV)(neq left:Bool)(x y:aa)(b:Bool)(hb:nK c (bif left then y else x)=some b)(h0:Hp):aD P GL (.oe c neq left) [x,y] h0 (.bool (bif neq then !b else b)) [] []:=by
 intro o os hc w0 L g h w a r hx _ _;generalize ho:o.op=op at hc;cases hc with
 |v_ _ _ t t' p ht=>
  have hn:=XbF hb hx.1;rw[ZK ho rfl (v:=ke c) rfl (by rw[(Xbi neq hn p).1];rfl) (Xcb ht hn neq w).1];exact Out.here r (.bool _ _)
 |vZ _ _ t t' q ht=>
  have hn:=XbF hb hx.2.1;rw[ZK ho (u:=ke c) rfl rfl (by rw[(Xbi neq hn q).2];rfl) (Xcb ht hn neq w).2];exact Out.here r (.bool _ _)
theorem Qa3(k:IntKind)(ex nn:Bool)(sz:Nat)(rows:List (List aa))(row:List aa)(i:Int)(Kd:0<=i)(hi:rows[i.toNat]?=some row)(h0:Hp) :
  aD P GL (.fI sz) [.aU ex nn sz rows,.int k i] h0 (.aq row 0) [] []:=by
 intro o os hc w0 L g h w a r hx _ _;generalize ho:o.op=op at hc;cases hc with
 |fI t z q e _ hu hn=>
  obtain⟨d,d2,_⟩:=hx;generalize iT:a.eval z=u0 at d;cases d with
  |aU _ _ _ _ _ p cap blk off f h1 h2 h3 h4 h5 h6 h7 h8=>
   have b_:i.toNat<rows.length:=(gK hi).1;have cO:rows≠[]:=by intro e;rw[e]at b_;simp at b_
   have hp:=h3 cO;subst hp;have Uv:i<rows.length:=by omega
   simp only[execOp,ho,iT,Zp d2,zDT,asIntOf,OF,run_underlying hu,AS,zAA];rw[aJ ⟨Kd,Uv⟩];simp only[OF,YD hn,AS,zAA,XU];have hl:=h6 _ row hi;have hd:Den g.M g.c (.aq row 0) (.pointer (some ⟨blk,(off+i.toNat*sz)+0,none⟩)):=
    .aq _ _ _ _ _ (f i.toNat) (λk hk=>by grind) (λk x e=>h8 _ row k x hi e)
   exact Out.here r hd
theorem bx.fR{w0:World}{L:Ln}{g:Gm}{h:Hp}{w:World}(r:bx GL w0 L g h w){b:Nat}{sz:Nat}{rs:List (List aa)}{cb:CB}(hb:h b=some (.rows sz rs))(ec:g.c b=some cb)(hv:cb.cK=false) :
  cb.sz=sz∧∃arr T,w.heap[cb.blk]?=some (.cells arr T (0,0))∧arr.size=cb.vu∧cb.base+rs.length*sz<=cb.vu∧(∀(i:Nat) (row:List aa),rs[i]?=some row→row.length=sz) ∧
   ∀(i:Nat) (row:List aa) (j:Nat) (x:aa) (v:Value),rs[i]?=some row→row[j]?=some x→arr[cb.base+i*sz+j]?=some v→g.den x v:=by
 obtain⟨_,_,o',fO,h1,arr,T,rfl,h2,h3,h4,h5⟩:=r.own b _ cb hb rfl ec hv;exact⟨h1,arr,T,fO,h2,h3,h4,h5⟩
theorem bx.gV{w0:World}{L:Ln}{g:Gm}{h:Hp}{w:World}(r:bx GL w0 L g h w){b:Nat}{sz:Nat}{rs:List (List aa)}{cb:CB}(hb:h b=some (.rows sz rs))(ec:g.c b=some cb)(hv:cb.cK=true):cb.sz=sz∧rs=[]:=by
 have:=r.bc b _ cb hb rfl ec hv;simp_all
theorem Xa3(k:IntKind)(ex:Bool)(sz b o' len:Nat)(rs:List (List aa))(i:Int)(Kd:0<=i)(hi:i<len)(h0:Hp)(hb:h0 b=some (.rows sz rs)) :
  aD P GL (.fI sz) [.sl b o' len ex,.int k i] h0 (.ptr b (o'+i.toNat) 0) [b] []:=by
 intro o os hc w0 L g h w a r hx dc _;have cj:h b=some (.rows sz rs):=by simp_all
 generalize ho:o.op=op at hc;cases hc with
 |fI t z q e _ hu hn=>
  obtain⟨d,d2,_⟩:=hx;generalize iT:a.eval z=u0 at d;cases d with
  |oV=>simp at hi;omega
  |sle=>simp at hi;omega
  |sl _ _ _ _ _ cb cap ec hv h1 h2 h3=>
   obtain⟨e1,_⟩:=r.fR cj ec hv;simp only[execOp,ho,iT,Zp d2,zDT,asIntOf,OF,run_underlying hu,AS,zAA];rw[aJ ⟨Kd,hi⟩];simp only[OF,YD hn,AS,zAA,XU];have hd:Den g.M g.c (.ptr b (o'+i.toNat) 0) (.pointer (some ⟨cb.blk,cb.base+(o'+i.toNat)*cb.sz+0,none⟩)):=.ptr _ _ _ _ _ ec;rw[e1,zBX,zBj,←zBQ]at hd;rw[e1];exact Out.here r hd
theorem XcU(k:IntKind)(s:List UInt8)(i:Int)(c:UInt8)(Kd:0<=i)(hi:s[i.toNat]?=some c)(h0:Hp):aD P GL .ly [.str s,.int k i] h0 (.int .u8 c.toNat) [] []:=by
 intro o os hc w0 L g h w a r hx _ _;generalize ho:o.op=op at hc;cases hc with
 |ly t z q hu=>
  obtain⟨d,d2,_⟩:=hx;obtain⟨s',e1,rfl⟩:=yb d;have hs:s'[i.toNat]?=some c:=by
   have b_:i.toNat<s'.data.toList.length:=(gK hi).1;have aj:=(gK hi).2;have zM:i.toNat<s'.size:=by simpa using b_
   rw[getElem?_pos s' i.toNat zM]
   congr 1
  simp only[execOp,ho,e1,Zp d2,Instr.index,asIntOf,OF,run_underlying hu,AS,zAA,aJ Kd,hs];exact Out.here r (.int _ _ _)
theorem YbV(agg:Bool)(n b i j sz:Nat)(rs:List (List aa))(row:List aa)(v:aa)(h0:Hp)(hb:h0 b=some (.rows sz rs))(hi:rs[i]?=some row)(hv:aK agg j n row=some v) :
  aD P GL (.load agg n) [.ptr b i j] h0 v [b] []:=by
 intro o os hc w0 L g h w a r hx dc _;have cj:h b=some (.rows sz rs):=by simp_all
 generalize ho:o.op=op at hc;cases hc with
 |load t x _ _ ha hn=>
  have d:=hx.1;generalize hu:a.eval x=u0 at d;cases d with
  |ptr _ _ _ _ cb ec=>
  cases bW:cb.cK with
  |true=>have:=(r.gV cj ec bW).2;subst this;simp at hi
  |false=>
  obtain⟨e1,arr,T,fO,hs,hle,dN,c7⟩:=r.fR cj ec bW;have pZ:i<rs.length:=(gK hi).1;have hbound:cb.base+i*sz+sz<=arr.size:=by
   have:(i+1)*sz<=rs.length*sz:=zAE sz pZ;rw[zBP]at this;omega
  have oJ:∀(k:Nat) (y:aa) (u:Value),row[k]?=some y→(arr.extract (cb.base+i*sz) (cb.base+i*sz+sz))[k]?=some u→g.den y u:=by
   grind
  obtain⟨p1,p2⟩:=ID (g:=g) hv (by rw[dN i row hi];simp;omega) oJ;obtain⟨l1,l2⟩:=P1 ha hn (T:=T) (fr:=(0,0)) (Q4 fO) (cb.base+i*sz+j);rw[e1]at hu;cases agg with
  |true=>
   obtain⟨q1,q2⟩:=p1 rfl;have T9:(arr.extract (cb.base+i*sz) (cb.base+i*sz+sz)).extract j (j+n)=arr.extract (cb.base+i*sz+j) (cb.base+i*sz+j+n):=by
    grind
   rw[T9]at q2;have q1':n≠0→cb.base+i*sz+j+n<=arr.size:=λkI=>by have:=q1 kI;simp at this;omega
   simp_all [execOp,zCU,zBW,Out.here]
  |false=>
   obtain⟨u,q1,q2⟩:=p2 rfl;obtain⟨hk,q1⟩:=zCF.1 q1;rw[zBx]at q1;simp at hk;have wH:cb.base+i*sz+j<arr.size:=by omega
   simp_all [execOp,zCU,zBW,Out.here]
theorem RG{w:World}{blk j:Nat}{arr:Array Value}{T:TypeId}(ho:w.heap[blk]?=some (.cells arr T (0,0)))(vs:List Value)(hv:∀v∈vs,v.oneCell'=true)(dB:vs≠[]→j+vs.length<=arr.size) :
  ∃gA,(storeCells ⟨blk,j,none⟩ vs).run P w=.ok () (w.setRow blk gA)∧gA.size=arr.size∧∀k,gA[k]?=if j<=k∧k<j+vs.length then vs[k-j]? else arr[k]?:=by
 by_cases h0:vs=[]
 ·subst h0;refine⟨arr,?_,rfl,λk=>by rw[aE (by simp)]⟩;simp only[storeCells];rw[setRow_self w blk arr T (0,0) ho];rfl
 ·have hf:=dB h0;refine⟨_,run_storeCells_at P blk j T vs 0 arr w ho (by omega) hv,?_,λk=>?_⟩
  ·simp only[zEB,By,List.length_take,zDB,zAy];omega
  ·by_cases hk:j<=k∧k<j+vs.length
   ·rw[aJ hk,zBY,zAa,zAQ (by simp;omega),zAV (by simp;omega)]
    congr 1;simp;omega
   ·rw[aE hk];by_cases mW:k<j
    ·rw[zBY,zAa,zAV (by simp;omega),zDV (by omega)];simp
    ·rw[zBY,zAQ (by simp;omega)];simp
     congr 1;omega
theorem Zbx(n b i j sz:Nat)(rs rs':List (List aa))(row row' cs:List aa)(x:aa)(h0:Hp)(hb:h0 b=some (.rows sz rs))(hi:rs[i]?=some row)(gu:cellsOf x=some cs)(hlen:cs.length=n)(uc:cc j cs row=some row')(zT:rs'=rs.set i row') :
  aD P GL (.store n) [.ptr b i j,x] h0 .aQ [] [(b,.rows sz rs')]:=by
 intro o os hc w0 L g h w a r hx _ gD;have cj:h b=some (.rows sz rs):=by simp_all
 generalize ho:o.op=op at hc;cases hc with
 |store t y z _ hn=>
  obtain⟨d,dx,_⟩:=hx;generalize hu:a.eval y=u0 at d;cases d with
  |ptr _ _ _ _ cb ec=>
  cases bW:cb.cK with
  |true=>have:=(r.gV cj ec bW).2;subst this;simp at hi
  |false=>
  obtain⟨e1,arr,T,fO,hs,hle,dN,c7⟩:=r.fR cj ec bW;obtain⟨c1,c2,c3⟩:=Od gu dx;obtain⟨s1,s2,s3⟩:=Se uc;have pZ:i<rs.length:=(gK hi).1;have s_:=dN i row hi;have hbound:cb.base+i*sz+sz<=arr.size:=by
   have:(i+1)*sz<=rs.length*sz:=zAE sz pZ;rw[zBP]at this;omega
  have hL:(a.eval z).cells.toList.length=cs.length:=by rw[zAy];exact c1
  have oE:∀v∈(a.eval z).cells.toList,v.oneCell'=true:=by
   grind [zBi,N8,AT]
  obtain⟨gA,f1,f2,f3⟩:=RG (P:=P) fO (a.eval z).cells.toList oE (j:=cb.base + i * sz + j) (by
   grind [zAW])
  have eL:(a.eval z).cells.size=n:=by rw[c1,hlen]
  rw[e1]at hu;have ba:(execOp a.eval o).run P w=.ok .skip (w.setRow cb.blk gA):=by
   simp_all [execOp,Instr.storeAt,zBW,storeVar,YD]
  rw[ba];refine⟨g,Gm.Le.refl g,?_,rfl⟩;refine r.write cj rfl ec bW rfl rfl rfl rfl (Nx w _ arr gA T (0,0) fO) ⟨e1,gA,T,rfl,by rw[f2,hs],by subst zT;simpa using hle,?_,?_⟩
  ·grind
  ·intro i' oU k y u e2 e3 e4;subst zT;rw[f3,hL]at e4;by_cases hii:i'=i
   ·subst hii;simp[pZ]at e2;subst e2;have hk:k<sz:=by grind
    rw[s3 k]at e3;by_cases qE:j<=k∧k<j+cs.length
    ·rw[aJ qE]at e3;rw[aJ (by omega)]at e4;refine c2 (k-j) y u e3 ?_;rw[zBM]at e4;rw[←e4];congr 1;omega
    ·rw[aE qE]at e3;rw[aE (by omega)]at e4;exact c7 i' row k y u hi e3 e4
   ·rw[List.getElem?_set_ne (λe=>hii e.symm)]at e2;have hk:k<sz:=by grind
    have oF:¬(cb.base+i*sz+j<=cb.base+i'*sz+k∧cb.base+i'*sz+k<cb.base+i*sz+j+cs.length):=by
     intro ⟨q1,q2⟩;by_cases zD:cs=[]
     ·subst zD;simp at q2;omega
     ·have t_:=s2 zD;rcases Nat.lt_or_ge i' i with b_|vn
      ·have:(i'+1)*sz<=i*sz:=zAE sz b_
       grind
      ·have b_:i<i':=by omega
       have:(i+1)*sz<=i'*sz:=zAE sz b_
       grind
    rw[aE oF]at e4;exact c7 i' oU k y u e2 e3 e4
end
end Go.Ah
end
section
namespace Go.Ah
section
variable {P:Program} {GL:ar}
theorem YcT{g:Gm}{l r:Bool}{a b:aa}(h:GA l a b=some r){t:TypeId}(ht:mY P t=some l){v u:Value}(hv:g.den a v)(hu:g.den b u)(d:Nat)(w:World):(zCc (d+1) t v u).run P w=.ok r w:=by
 have O3:∃ty,P.underlying t=some ty∧((l=false∧∃q,ty=.int q)∨(l=true∧ty=.bool)):=by
  grind [mY]
 obtain⟨ty,O3,hl⟩:=O3;rcases hl with ⟨rfl,q,rfl⟩|⟨rfl,rfl⟩
 ·cases hv<;>cases hu<;>simp only[GA]at h<;>try (cases h;done)
  grind [yW,run_equalIn_int]
 ·cases hv<;>cases hu<;>simp only[GA]at h<;>try (cases h;done)
  simp_all [run_equalIn_bool']
theorem Za2{g:Gm}(d:Nat)(xs ys:Array Value)(w:World):∀(fs:List Field) (k:Nat) (ls:List Bool) (as bs:List aa) (r:Bool),XX ls as bs=some r →
  fs.all (λf=>f.name != "_")=true→fs.mapM (λf=>mY P f.type)=some ls→fs.map (·.offset)=zBG k fs.length →
  (∀(i:Nat) (x:aa),as[i]?=some x→∃v,xs[k+i]?=some v∧g.den x v)→(∀(i:Nat) (x:aa),bs[i]?=some x→∃v,ys[k+i]?=some v∧g.den x v) →
  (Op.eqFields (d+1) xs ys fs:Sem Bool).run P w=.ok r w
 |[],k,ls,as,bs,r,he,_,hm,_,_,_=>by
  simp at hm;subst hm;cases as<;>cases bs<;>simp only[XX]at he<;>first|(cases he;rfl)|cases he
 |f::fs,k,ls,as,bs,r,he,iK,hm,KC,hx,hy=>by
  simp only[List.mapM_cons,Option.bind_eq_bind,Option.pure_def]at hm;cases Dk:mY P f.type with
  |none=>simp[Dk]at hm
  |some l=>
  cases zN:fs.mapM (λf=>mY P f.type)with
  |none=>simp[Dk,zN]at hm
  |some ls'=>
  simp[Dk,zN]at hm;subst hm;cases as with
  |nil=>simp[XX]at he
  |cons a as=>
   cases bs with
   |nil=>simp[XX]at he
   |cons b bs=>
    simp only[XX]at he;cases h1:GA l a b with
    |none=>simp[h1]at he
    |some r1=>
     cases h2:XX ls' as bs with
     |none=>simp[h1,h2]at he
     |some r2=>
      simp only[h1,h2]at he;cases he;simp only[List.all_cons,AI,bne_iff_ne]at iK;obtain⟨Kz,wi⟩:=iK;simp only[zAN,IS,zDF,zCL]at KC;obtain⟨hk,KD⟩:=KC;obtain⟨v,hv1,KV⟩:=hx 0 a rfl;obtain⟨u,jT,qg⟩:=hy 0 b rfl;rw[zBj]at hv1 jT;have ih:=Za2 d xs ys w fs (k+1) ls' as bs r2 h2 wi zN KD (λi x e=>by have:=hx (i+1) x (by simpa using e);rwa [show k+1+i=k+(i+1) by omega]) (λi x e=>by have:=hy (i+1) x (by simpa using e);grind);have BH:∀(arr:Array Value) (z:Value),arr[k]?=some z→(part f.type arr f.offset).run P w=.ok z w:=by
       intro arr z hz;have ha:fS P f.type=some false:=by
        grind [mY,fS]
       simp_all [part,X7]
      simp only[Op.eqFields];rw[aJ Kz];simp only[OF,BH xs v hv1,BH ys u jT,YcT h1 Dk KV qg,AS];cases r1<;>simp_all
theorem Zef(neq:Bool)(ls:List Bool)(as bs:List aa)(r:Bool)(hr:XX ls as bs=some r)(h0:Hp):aD P GL (.Bs neq ls) [.agg as,.agg bs] h0 (.bool (bif neq then !r else r)) [] []:=by
 intro o os hc w0 L g h w a r' hx _ _;generalize ho:o.op=op at hc;cases hc with
 |Bs _ t t' x y _ hl hs hg=>
  obtain⟨d1,d2,_⟩:=hx;generalize jT:a.eval x=u1 at d1;generalize qg:a.eval y=u2 at d2;cases d1 with
  |agg _ _ vs q1 q2=>
  cases d2 with
  |agg _ _ us q3 q4=>
  have ir:∃fs,P.underlying t=some (.struct fs)∧fs.toList.all (λf=>f.name != "_")=true∧fs.toList.map (·.offset)=zBG 0 fs.toList.length∧fs.toList.mapM (λf=>mY P f.type)=some ls:=by
   grind [qj]
  obtain⟨fs,f1,f2,f3,f4⟩:=ir;have G5:P.fieldsOf t=fs:=by simp[Program.fieldsOf,f1]
  have ba:(zCc 10000 t (.agg vs) (.agg us)).run P w=.ok r w:=by
   rw[show (10000:Nat)=9998+1+1 from rfl,run_equalIn_struct w (9998+1) t vs us (by rw[G5];exact f1) hs,G5];refine Za2 (g:=g) 9998 vs us w fs.toList 0 ls as bs r hr f2 f4 f3 (λi x e=>?_) (λi x e=>?_)
   ·have hi:i<vs.size:=by grind
    exact⟨vs[i],by simp[hi],q2 i x _ e (by simp[hi])⟩
   ·have hi:i<us.size:=by grind
    exact⟨us[i],by simp[hi],q4 i x _ e (by simp[hi])⟩
  cases neq
  ·rw[ZK ho jT qg (run_eqGuard_agg w _ t x y vs us hg) (z:=.bool r) (by show (binOp .eql t _ _).run P w=_;rw[run_eql_struct,ba];rfl)];exact Out.here r' (.bool _ _)
  ·rw[ZK ho jT qg (run_eqGuard_agg w _ t x y vs us hg) (z:=.bool (!r)) (by show (binOp .neq t _ _).run P w=_;rw[run_neq_struct,ba];rfl)];exact Out.here r' (.bool _ _)
end
end Go.Ah
end
section
namespace Go.Ah
def jz:aa→aa→Option Bool
 |.int k a,.int k' b=>bif jU k k' then some (a==b)else none
 |.str a,.str b=>some (a==b)
 |_,_=>none
def jq(k:aa):List (aa×aa)→Option (Option aa)
 |[]=>some none
 |(q,x)::es=>match jz k q with
  |some true=>some (some x)
  |some false=>jq k es
  |none=>none
def nS(k v:aa):List (aa×aa)→Option (List (aa×aa))
 |[]=>some [(k,v)]
 |(q,x)::es=>match jz k q with
  |some true=>some ((k,v)::es)
  |some false=>match nS k v es with
   |some tS=>some ((q,x)::tS)
   |none=>none
  |none=>none
def fT(g:Gm)(es:List (aa×aa))(l:List MapEntry):Prop:=
 l.length=es.length∧∀(i:Nat) (k x:aa) (e:MapEntry),es[i]?=some (k,x)→l[i]?=some e→g.den k e.key∧g.den x e.val
section
variable {P:Program} {GL:ar}
def kE(d:TypeDesc)(k:aa):Prop:=(∃z n z',k=.int z n∧d=.int z')∨(∃s,k=.str s∧d=.string)
theorem Wj{g:Gm}{k q:aa}{r:Bool}(h:jz k q=some r){u v:Value}(hu:g.den k u)(hv:g.den q v){d:TypeDesc}(dB:kE d k) :
  zDS d u v=some r:=by
 rcases dB with ⟨z,n,z',rfl,rfl⟩|⟨s,rfl,rfl⟩
 ·cases q<;>simp only[jz]at h<;>try (cases h;done)
  cases hu;cases hv<;>grind [zDS,yW]
 ·cases q<;>simp only[jz]at h<;>try (cases h;done)
  cases hu;cases hv<;>simp_all [zDS,beq_toListBytes,zCa]
theorem Ya0{g:Gm}{k:aa}{u:Value}(hu:g.den k u){d:TypeDesc}(dB:kE d k):∀(es:List (aa×aa)) (l:List MapEntry) (i:Nat) (r:Option aa),fT g es l→jq k es=some r →
  (r=none→zBT d u l i=some none)∧(∀x,r=some x→∃j v,zBT d u l i=some (some (j,v))∧g.den x v∧i<=j∧∃e,l[j-i]?=some e∧v=e.val)
 |[],l,i,r,⟨hl,_⟩,h=>by
  have:l=[]:=zAW.1 (by simpa using hl);subst this;simp only[jq]at h;cases h;exact⟨λ_=>rfl,λx e=>by cases e⟩
 |(q,x)::es,l,i,r,⟨hl,hd⟩,h=>by
  cases l with
  |nil=>simp at hl
  |cons e l=>
   obtain⟨d1,d2⟩:=hd 0 q x e rfl rfl;simp only[jq]at h;cases hk:jz k q with
   |none=>simp[hk]at h
   |some b=>
    have wQ:=Wj hk hu d1 dB;cases b with
    |true=>
     simp only[hk]at h;cases h;refine⟨λe=>(by cases e),λy ey=>?_⟩;cases ey;exact⟨i,e.val,by simp[zBT,wQ],d2,IT _,e,by simp,rfl⟩
    |false=>
     simp only[hk]at h;obtain⟨i1,i2⟩:=Ya0 hu dB es l (i+1) r ⟨by simpa using hl,λj k' x' e' q1 q2=>hd (j+1) k' x' e' (by simpa using q1) (by simpa using q2)⟩ h
     grind [zBT]
theorem Wc{t:TypeId}{d:TypeDesc}(hd:P.underlying t=some d){k:aa}(dB:kE d k){g:Gm}{u:Value}(hu:g.den k u)(b:Bool)(n:Nat)(w:World):(Instr.checkKey b (n+1) t u).run P w=.ok () w:=by
 rcases dB with ⟨z,m,z',rfl,rfl⟩|⟨s,rfl,rfl⟩<;>simp_all [Instr.checkKey,run_underlying]
theorem Nt{t:TypeId}{d:TypeDesc}(hd:P.underlying t=some d){u:Value}{l:List MapEntry}{r:Option (Nat×Value)}(h:zBT d u l 0=some r)(w:World):(Instr.findKey t u l).run P w=.ok r w:=by
 simp_all [Instr.findKey,run_underlying]
def la(ok:Bool)(z:aa)(r:Option aa):aa:=
 bif ok then .bp [r.getD z,.bool r.isSome]else r.getD z
theorem XcT{t k e:TypeId}{d:TypeDesc}{v:Value}{z:aa}(ht:P.underlying t=some (.map k e))(hd:P.underlying k=some d)(hz:eu P e=some v)(Bv:pP v=some z){g:Gm}{q:aa}{u m:Value}(hu:g.den q u)(dB:kE d q)
 {w:World}{es:List (aa×aa)}{arr:Array MapEntry}(hm:(m=.map none∧arr = #[])∨∃b clock,m=.map (some b)∧w.heap[b]?=some (.map arr clock))(J6:fT g es arr.toList){r:Option aa}(hr:jq q es=some r)(ok:Bool) :
  ∃x,(zDa t m u ok).run P w=.ok x w∧g.den (la ok z r) x:=by
 obtain⟨f1,f2⟩:=Ya0 hu dB es arr.toList 0 r J6 hr;have T1:=λw'=>Wc (P:=P) hd dB hu arr.isEmpty 9999 w';have ny:∀v' b,g.den (r.getD z) v'→b=r.isSome→g.den (la ok z r) (if ok then .tuple #[v',.bool b]else v'):=by
  intro v' b h2 h3;subst h3;cases ok
  ·exact h2
  ·refine .bp _ _ _ rfl (λi x v e1 e2=>?_)
   match i with
   |0=>simp at e1 e2;subst e1 e2;exact h2
   |1=>simp at e1 e2;subst e1 e2;exact .bool _ _
   |n+2=>simp at e1
 cases r with
 |none=>
  refine⟨_,?_,ny v false (Ng Bv) rfl⟩;unfold zDa;rcases hm with ⟨rfl,rfl⟩|⟨b,clock,rfl,hb⟩<;>simp_all [getObj,zCZ,run_underlying,Nt,AR]
 |some x=>
  obtain⟨j,v',g1,g2,_⟩:=f2 x rfl;refine⟨_,?_,ny v' true g2 rfl⟩;unfold zDa;rcases hm with ⟨rfl,rfl⟩|⟨b,clock,rfl,hb⟩<;>simp_all [getObj,zCZ,run_underlying,Nt]
inductive qK (h0:Hp):aa→List (aa×aa)→List Nat→Prop
 |own (b:Nat) (es:List (aa×aa)):h0 b=some (.map es)→qK h0 (.map b) es [b]
 |row (es:List (aa×aa)):qK h0 (.fL es) es []
 |nil:qK h0 .cQ [] []
def lM:Bool→aa→Prop
 |true,k=>∃s,k=.str s
 |false,k=>∃q n,k=.int q n
theorem XbD{t:TypeId}{str:Bool}(ht:uA P t str){k:aa}(hk:lM str k):∃d,P.underlying t=some d∧kE d k:=by
 cases str
 ·obtain⟨q,hq⟩:=ht;obtain⟨q',n,rfl⟩:=hk;exact⟨_,hq,.inl ⟨_,_,_,rfl,rfl⟩⟩
 ·obtain⟨s,rfl⟩:=hk;exact⟨_,ht,.inr ⟨_,rfl,rfl⟩⟩
theorem YcV(str ok:Bool)(z m k:aa)(es:List (aa×aa))(rd:List Nat)(r:Option aa)(h0:Hp)(hm:qK h0 m es rd)(hk:lM str k)(hr:jq k es=some r):aD P GL (.lookup str ok z) [m,k] h0 (la ok z r) rd []:=by
 intro o os hc w0 L g h w a rp hx dc _;generalize ho:o.op=op at hc;cases hc with
 |lookup t kt e x i _ _ v _ ht Di hz Bv=>
  obtain⟨d1,d2,_⟩:=hx;obtain⟨d,hd,dB⟩:=XbD Di hk;generalize jT:a.eval x=u1 at d1;have Uz:∃arr:Array MapEntry,((u1=.map none∧arr = #[])∨∃b clock,u1=.map (some b)∧w.heap[b]?=some (.map arr clock))∧fT g es arr.toList:=by
   cases hm with
   |own b _ hb=>
    have cj:h b=some (.map es):=by simp_all
    cases d1 with
    |map _ _ cb ec=>
    cases bW:cb.cK with
    |true=>have:=rp.bc b _ cb cj rfl ec bW;cases this
    |false=>
    obtain⟨_,_,o',fO,arr,clock,rfl,hs,c7⟩:=rp.own b _ cb cj rfl ec bW;exact⟨arr,.inr ⟨_,clock,rfl,fO⟩,by simpa using hs,λi k x e e1 e2=>c7 i k x e e1 (by simpa using e2)⟩
   |row _=>
    cases d1 with
    |fL _ _ blk arr clock hM hs h1 h2=>
    exact⟨arr,.inr ⟨_,clock,rfl,rp.aX _ _ hM⟩,by simpa using hs,λi k x e e1 e2=>⟨(h1 i k x e e1 (by simpa using e2)).mono (i9.refl _) (gH.bA _),(h2 i k x e e1 (by simpa using e2)).mono (i9.refl _) (gH.bA _)⟩⟩
   |nil=>
    cases d1;exact⟨#[],.inl ⟨rfl,rfl⟩,rfl,by simp⟩
  obtain⟨arr,BG,J6⟩:=Uz;obtain⟨y,f1,f2⟩:=XcT ht hd hz Bv d2 dB BG J6 hr ok;simp_all [execOp,Out.here]
theorem Qcb{g:Gm}{k q:aa}(h:jz k q=some true){u v:Value}(hu:g.den k u)(hv:g.den q v)(n:Nat):zCg n v u=true:=by
 cases k<;>cases q<;>simp only[jz]at h<;>try (cases h;done)
 ·rename_i k1 a k2 b;cases hk:jU k1 k2 with
  |false=>simp[hk]at h
  |true=>
   have:=yW hk;subst this;simp[hk]at h;cases hu;cases hv;simp_all [zCg]
 ·cases hu;cases hv<;>simp_all [zCg,beq_toListBytes,zCa]
theorem YbZ{g:Gm}{k x:aa}{u y:Value}(hu:g.den k u)(hy:g.den x y){d:TypeDesc}(dB:kE d k):∀(es tS:List (aa×aa)) (l:List MapEntry) (i:Nat),fT g es l→nS k x es=some tS →
  (zBT d u l i=some none∧∀e:MapEntry,e.key=u→e.val=y→fT g tS (l++[e])) ∨
  (∃j v,zBT d u l i=some (some (i+j,v))∧j<l.length∧(∃e,l[j]?=some e∧∀n,zCg n e.key u=true)∧fT g tS (l.modify j λe=>{ e with key:=u,val:=y }))
 |[],tS,l,i,⟨hl,_⟩,h=>by
  have:l=[]:=zAW.1 (by simpa using hl);subst this;simp only[nS]at h;cases h;refine .inl ⟨rfl,λe h1 h2=>⟨rfl,λj k' x' e' q1 q2=>?_⟩⟩
  grind
 |(q,z)::es,tS,l,i,⟨hl,hd⟩,h=>by
  cases l with
  |nil=>simp at hl
  |cons e l=>
   obtain⟨d1,d2⟩:=hd 0 q z e rfl rfl;have mX:fT g es l:=⟨by simpa using hl,λj k' x' e' q1 q2=>hd (j+1) k' x' e' (by simpa using q1) (by simpa using q2)⟩;simp only[nS]at h;cases hk:jz k q with
   |none=>simp[hk]at h
   |some b=>
    have wQ:=Wj hk hu d1 dB;cases b with
    |true=>
     simp only[hk]at h;cases h;refine .inr ⟨0,e.val,by simp[zBT,wQ],by simp,⟨e,rfl,λn=>Qcb hk hu d1 n⟩,by simpa using hl,λj k' x' e' q1 q2=>?_⟩
     grind
    |false=>
     simp only[hk]at h;cases hp:nS k x es with
     |none=>simp[hp]at h
     |some es2=>
      simp only[hp]at h;cases h;rcases YbZ hu hy dB es es2 l (i+1) mX hp with ⟨f1,f2⟩|⟨j,v,f1,f2,f3,f4⟩
      ·refine .inl ⟨by simp[zBT,wQ,f1],λe0 h1 h2=>?_⟩;obtain⟨g1,g2⟩:=f2 e0 h1 h2;refine⟨by simpa using g1,λj k' x' e' q1 q2=>?_⟩
       grind
      ·refine .inr ⟨j+1,v,by simp[zBT,wQ,f1];omega,by simp;omega,by simpa using f3,?_⟩;obtain⟨g1,g2⟩:=f4;refine⟨by simpa using g1,λj' k' x' e' q1 q2=>?_⟩
       grind
theorem XcV(str:Bool)(b:Nat)(k x:aa)(es tS:List (aa×aa))(h0:Hp)(hb:h0 b=some (.map es))(hk:lM str k)(hp:nS k x es=some tS):aD P GL (.lz str) [.map b,k,x] h0 .aQ [] [(b,.map tS)]:=by
 intro o os hc w0 L g h w a r hx _ gD;have cj:h b=some (.map es):=by simp_all
 have main:∀(t kt e:TypeId) (om ok ox:Operand),P.underlying t=some (.map kt e)→uA P kt str→dM g [.map b,k,x] (List.map a.eval [om,ok,ox]) →
   ∃w',(zDE t (a.eval om) (a.eval ok) (a.eval ox)).run P w=.ok () w'∧bx GL w0 L g (ei h b (.map tS)) w':=by
  intro t kt e om ok ox ht Di ⟨d1,d2,d3,_⟩;obtain⟨d,hd,dB⟩:=XbD Di hk;generalize jT:a.eval om=u1 at d1;cases d1 with
  |map _ _ cb ec=>
  cases bW:cb.cK with
  |true=>have:=r.bc b _ cb cj rfl ec bW;cases this
  |false=>
  obtain⟨_,_,o',fO,arr,clock,rfl,hs,c7⟩:=r.own b _ cb cj rfl ec bW;have hg:(getObj cb.blk).run P w=.ok (.map arr clock) w:=by simp[getObj,zCZ,fO]
  have ir:∀DI,(setObj cb.blk DI).run P w=.ok () { w with heap:=w.heap.setIfInBounds cb.blk DI }:=by intro DI;simp[setObj,zCZ,fO]
  have J6:fT g es arr.toList:=⟨by simpa using hs,λi k x e e1 e2=>c7 i k x e e1 (by simpa using e2)⟩;have T1:=Wc (P:=P) hd dB d2 false 9999 w;rcases YbZ d2 d3 dB es tS arr.toList 0 J6 hp with ⟨f1,f2⟩|⟨j,v,f1,f2,⟨e0,f3,f3'⟩,f4⟩
  ·refine⟨_,by simp only[zDE,OF,run_underlying ht,AS,hg,T1,Nt hd f1,ir];rfl,?_⟩;refine r.write cj rfl ec bW rfl rfl rfl rfl rfl ?_;obtain⟨g1,g2⟩:=f2 { key:=a.eval ok,val:=a.eval ox,born:=clock } rfl rfl;exact⟨_,_,rfl,by simpa using g1,λi k x e e1 e2=>g2 i k x e e1 (by grind)⟩
  ·rw[No]at f1;have KR:(zDr (((arr[j]?).map (·.key)).getD (a.eval ok)) (a.eval ok)).run P w=.ok (a.eval ok) w:=by
    simp_all [zDr]
   refine⟨_,by simp only[zDE,OF,run_underlying ht,AS,hg,T1,Nt hd f1,KR,ir];rfl,?_⟩;refine r.write cj rfl ec bW rfl rfl rfl rfl rfl ?_;obtain⟨g1,g2⟩:=f4;exact⟨_,_,rfl,by simpa using g1,λi k x e e1 e2=>g2 i k x e e1 (by grind)⟩
 generalize ho:o.op=op at hc;cases hc with
 |mapUpdate t kt e om ok ox _ ht Di=>
  obtain⟨w',f1,f2⟩:=main t kt e om ok ox ht Di hx;simp only[execOp,ho,OF,f1,AS,zAA];exact⟨g,Gm.Le.refl g,f2,rfl⟩
 |mapInsert t kt e om ok ox _ ht Di=>
  obtain⟨w',f1,f2⟩:=main t kt e om ok ox ht Di hx;simp only[execOp,ho,OF,f1,AS,zAA];exact⟨g,Gm.Le.refl g,f2,rfl⟩
theorem WK(b:Nat)(s:List UInt8)(pos:Nat)(h0:Hp)(hb:h0 b=some (.fw s pos)) :
  (pos<s.length→aD P GL .next [.iter b] h0 (.bp [.bool true,.int .i64 pos,.int .i32 (zBc ⟨s.toArray⟩ pos).1]) [] [(b,.fw s (pos+(zBc ⟨s.toArray⟩ pos).2))]) ∧
  (s.length<=pos→aD P GL .next [.iter b] h0 (.bp [.bool false]) [b] []):=by
 constructor
 ·intro b_ o os hc w0 L g h w a r hx _ gD;have cj:h b=some (.fw s pos):=by simp_all
  generalize ho:o.op=op at hc;cases hc with
  |next x=>
   have d:=hx.1;generalize iT:a.eval x=u0 at d;cases d with
   |iter _ _ cb ec=>
   cases bW:cb.cK with
   |true=>have:=r.bc b _ cb cj rfl ec bW;cases this
   |false=>
   obtain⟨_,_,o',fO,bQ⟩:=r.own b _ cb cj rfl ec bW;have uS:o'=.stringIter ⟨s.toArray⟩ pos:=bQ;subst uS;have hg:(getObj cb.blk).run P w=.ok (.stringIter ⟨s.toArray⟩ pos) w:=by simp[getObj,zCZ,fO]
   have ir:∀DI,(setObj cb.blk DI).run P w=.ok () { w with heap:=w.heap.setIfInBounds cb.blk DI }:=by intro DI;simp[setObj,zCZ,fO]
   have eL:pos<(⟨s.toArray⟩:ByteArray).size:=by show pos<s.toArray.size;simpa using b_
   have ba:(zDH (.pointer (some ⟨cb.blk,0,none⟩)) true o.type).run P w=.ok (.tuple #[.bool true,.int .i64 pos,.int .i32 (zBc ⟨s.toArray⟩ pos).1]) { w with heap:=w.heap.setIfInBounds cb.blk (.stringIter ⟨s.toArray⟩ (pos+(zBc ⟨s.toArray⟩ pos).2)) }:=by
    simp only[zDH,OF,hg,AS,aJ eL,ir,zAA,goInt]
   simp only[execOp,ho,iT,OF,ba,AS,zAA];refine⟨g,Gm.Le.refl g,r.write cj rfl ec bW rfl rfl rfl rfl rfl rfl,.bp _ _ _ rfl (λi x v e1 e2=>?_)⟩
   match i with
   |0=>simp at e1 e2;subst e1 e2;exact .bool _ _
   |1=>simp at e1 e2;subst e1 e2;exact .int _ _ _
   |2=>simp at e1 e2;subst e1 e2;exact .int _ _ _
   |n+3=>simp at e1
 ·intro vn o os hc w0 L g h w a r hx dc _;have cj:h b=some (.fw s pos):=by simp_all
  generalize ho:o.op=op at hc;cases hc with
  |next x=>
   have d:=hx.1;generalize iT:a.eval x=u0 at d;cases d with
   |iter _ _ cb ec=>
   cases bW:cb.cK with
   |true=>have:=r.bc b _ cb cj rfl ec bW;cases this
   |false=>
   obtain⟨_,_,o',fO,bQ⟩:=r.own b _ cb cj rfl ec bW;have uS:o'=.stringIter ⟨s.toArray⟩ pos:=bQ;subst uS;have hg:(getObj cb.blk).run P w=.ok (.stringIter ⟨s.toArray⟩ pos) w:=by simp[getObj,zCZ,fO]
   have eL:¬pos<(⟨s.toArray⟩:ByteArray).size:=by show ¬pos<s.toArray.size;simpa using vn
   have ba:(zDH (.pointer (some ⟨cb.blk,0,none⟩)) true o.type).run P w=.ok (.tuple #[.bool false]) w:=by
    simp only[zDH,OF,hg,AS,aE eL,zAA]
   simp only[execOp,ho,iT,OF,ba,AS,zAA];refine Out.here r (.bp _ _ _ rfl (λi x v e1 e2=>?_))
   match i with
   |0=>simp at e1 e2;subst e1 e2;exact .bool _ _
   |n+1=>simp at e1
theorem Qk(k:IntKind)(i:Int)(y:Nat)(code:BoundsCode)(h0:0<=i)(h1:i<=y)(w:World):(zEE (.int k i) y code).run P w=.ok i.toNat w:=by
 simp_all [zEE,asIntOf]
def cut(l h:Nat)(rows:List (List aa)):List (List aa):=(rows.take h).drop l
theorem Og{l h:Nat}{rows:List (List aa)}{i:Nat}{row:List aa}(e:(cut l h rows)[i]?=some row):rows[l+i]?=some row∧l+i<h:=by
 grind [cut]
theorem Hu{l h:Nat}{rows:List (List aa)}(hh:h<=rows.length):(cut l h rows).length=h-l:=by
 unfold cut;simp;omega
theorem N1{g:Gm}{ex nn:Bool}{sz:Nat}{rows:List (List aa)}{p:Option Addr}{len cap:Nat}(d:g.den (.aU ex nn sz rows) (.slice p len cap)){l h m:Nat}(hl:l<=h)(hh:h<=rows.length)(hm:h<=m)(hmc:m<=cap)(vj:Bool)(hex:vj=true→m=h) :
  g.den (.aU vj nn sz (cut l h rows)) (.slice (if m=l then p else p.map (·.add (l*sz))) (h-l) (m-l)):=by
 cases d with
 |aU _ _ _ _ _ _ _ blk off f h1 h2 h3 h4 h5 h6 h7 h8=>
  have hlen:=Hu (l:=l) hh;rw[←hlen];refine .aU _ vj nn sz (cut l h rows) _ (m-l) blk (off+l*sz) (λi j=>f (l+i) j) (λe=>by rw[hlen,hex e]) (λe=>?_) (λe=>?_) (λe=>?_) (by rw[hlen];omega) (λi row e=>h6 _ row (Og e).1) (λi j hi hj=>?_) (λi row j x e1 e2=>h8 _ row j x (Og e1).1 e2)
  ·grind
  ·have cO:h-l≠0:=by grind
   have hr:rows≠[]:=by intro e0;subst e0;simp at hh;omega
   rw[aE (by omega),h3 hr];simp[XU]
  ·split at e<;>simp_all
  grind
theorem ZA{o:Oper}{t e:TypeId}{x:Operand}{lo hi mx:Option Operand}(ho:o.op=.slice t x lo hi mx)(hu:P.underlying t=some (.slice e)){n:Nat}(hn:size? P e=some n){a:Act}{p:Option Addr}{len cap:Nat}(hx:a.eval x=.slice p len cap){w:World}{l h m:Nat}
 (hb:(zAO true len cap (lo.map a.eval) (hi.map a.eval) (mx.map a.eval)).run P w=.ok (l,h,m) w) :
  (execOp a.eval o).run P w=.ok (.value (.slice (if m=l then p else p.map (·.add (l*n))) (h-l) (m-l))) w:=by
 have h1:(zDD t (.slice p len cap) (lo.map a.eval) (hi.map a.eval) (mx.map a.eval)).run P w=.ok (.slice (if m=l then p else p.map (·.add (l*n))) (h-l) (m-l)) w:=by
  simp_all [zDD,run_underlying,YD]
 simp_all [zDY,execOp,run_underlying]
theorem Gp{g:Gm}{ex nn:Bool}{sz:Nat}{rows:List (List aa)}{v:Value}(d:g.den (.aU ex nn sz rows) v):∃p cap,v=.slice p rows.length cap∧rows.length<=cap∧(ex=true→cap=rows.length):=by
 cases d<;>grind
theorem Zv{op:Op}{n:Nat}{bl bh bm:Bool}{os:List Operand}(hc:cp P GL op (.cJ n bl bh bm) os) :
  ∃(t:TypeId) (x:Operand) (lo hi mx:Option Operand) (e:TypeId),op=.slice t x lo hi mx∧bl=lo.isSome∧bh=hi.isSome∧bm=mx.isSome∧os=[x]++lo.toList++hi.toList++mx.toList∧P.underlying t=some (.slice e)∧size? P e=some n:=by
 cases hc<;>grind
theorem RH{op:Op}{bl bh:Bool}{os:List Operand}(hc:cp P GL op (.ff bl bh) os) :
  ∃(t:TypeId) (x:Operand) (lo hi:Option Operand),op=.slice t x lo hi none∧bl=lo.isSome∧bh=hi.isSome∧os=[x]++lo.toList++hi.toList∧P.underlying t=some .string:=by
 cases hc<;>grind
theorem Zce(ex nn:Bool)(sz:Nat)(rows:List (List aa))(k:IntKind)(i:Int)(h1:0<=i)(h2:i<=rows.length)(h0:Hp) :
  aD P GL (.cJ sz true false false) [.aU ex nn sz rows,.int k i] h0 (.aU ex nn sz (cut i.toNat rows.length rows)) [] []:=by
 intro o os hc w0 L g hp w a r hx _ _;obtain⟨t,x,lo,hi,mx,e,ho,gk,dU,lY,rfl,hu,hn⟩:=Zv hc;obtain⟨lo,rfl⟩:∃z,lo=some z:=zAB.1 gk.symm;obtain rfl:hi=none:=by cases hi<;>first|rfl|cases dU
 obtain rfl:mx=none:=by cases mx<;>first|rfl|cases lY
 obtain⟨d,d2,_⟩:=hx;obtain⟨p,cap,hv,vm,kN⟩:=Gp d;rw[hv]at d;have hb:(zAO true rows.length cap (some (.int k i)) none none).run P w=.ok (i.toNat,rows.length,cap) w:=by
  grind [zAO,OF,zAA,AS,Qk]
 rw[ZA ho hu hn hv (l:=i.toNat) (h:=rows.length) (m:=cap) (by simpa[Zp d2]using hb)];exact Out.here r (N1 d (by omega) (IT _) vm (IT _) ex kN)
theorem Qcd(ex nn:Bool)(sz:Nat)(rows:List (List aa))(k:IntKind)(i:Int)(h1:0<=i)(h2:i<=rows.length)(h0:Hp) :
  aD P GL (.cJ sz false true false) [.aU ex nn sz rows,.int k i] h0 (.aU false nn sz (cut 0 i.toNat rows)) [] []:=by
 intro o os hc w0 L g hp w a r hx _ _;obtain⟨t,x,lo,hi,mx,e,ho,gk,dU,lY,rfl,hu,hn⟩:=Zv hc;obtain rfl:lo=none:=by cases lo<;>first|rfl|cases gk
 obtain⟨hi,rfl⟩:∃z,hi=some z:=zAB.1 dU.symm;obtain rfl:mx=none:=by cases mx<;>first|rfl|cases lY
 obtain⟨d,d2,_⟩:=hx;obtain⟨p,cap,hv,vm,kN⟩:=Gp d;rw[hv]at d;have hb:(zAO true rows.length cap none (some (.int k i)) none).run P w=.ok (0,i.toNat,cap) w:=by
  grind [zAO,OF,zAA,AS,Qk]
 rw[ZA ho hu hn hv (l:=0) (h:=i.toNat) (m:=cap) (by simpa[Zp d2]using hb)];exact Out.here r (N1 d (by omega) (by omega) (by omega) (IT _) false (by simp))
theorem Xbw(ex nn:Bool)(sz:Nat)(rows:List (List aa))(k k':IntKind)(i j:Int)(h1:0<=i)(h2:i<=j)(h3:j<=rows.length)(h0:Hp) :
  aD P GL (.cJ sz true true false) [.aU ex nn sz rows,.int k i,.int k' j] h0 (.aU false nn sz (cut i.toNat j.toNat rows)) [] []:=by
 intro o os hc w0 L g hp w a r hx _ _;obtain⟨t,x,lo,hi,mx,e,ho,gk,dU,lY,rfl,hu,hn⟩:=Zv hc;obtain⟨lo,rfl⟩:∃z,lo=some z:=zAB.1 gk.symm;obtain⟨hi,rfl⟩:∃z,hi=some z:=zAB.1 dU.symm;obtain rfl:mx=none:=by cases mx<;>first|rfl|cases lY
 obtain⟨d,d2,d3,_⟩:=hx;obtain⟨p,cap,hv,vm,kN⟩:=Gp d;rw[hv]at d;have hb:(zAO true rows.length cap (some (.int k i)) (some (.int k' j)) none).run P w=.ok (i.toNat,j.toNat,cap) w:=by
  simp only[zAO,OF,zAA,AS,Qk k' j cap _ (by omega) (by omega),Qk k i j.toNat _ h1 (by omega)]
 rw[ZA ho hu hn hv (l:=i.toNat) (h:=j.toNat) (m:=cap) (by simpa[Zp d2,Zp d3]using hb)];exact Out.here r (N1 d (by omega) (by omega) (by omega) (IT _) false (by simp))
theorem Ybw(ex nn:Bool)(sz:Nat)(rows:List (List aa))(k k':IntKind)(i:Int)(h1:0<=i)(h2:i<=rows.length)(h0:Hp) :
  aD P GL (.cJ sz false true true) [.aU ex nn sz rows,.int k i,.int k' i] h0 (.aU true nn sz (cut 0 i.toNat rows)) [] []:=by
 intro o os hc w0 L g hp w a r hx _ _;obtain⟨t,x,lo,hi,mx,e,ho,gk,dU,lY,rfl,hu,hn⟩:=Zv hc;obtain rfl:lo=none:=by cases lo<;>first|rfl|cases gk
 obtain⟨hi,rfl⟩:∃z,hi=some z:=zAB.1 dU.symm;obtain⟨mx,rfl⟩:∃z,mx=some z:=zAB.1 lY.symm;obtain⟨d,d2,d3,_⟩:=hx;obtain⟨p,cap,hv,vm,kN⟩:=Gp d;rw[hv]at d;have hb:(zAO true rows.length cap none (some (.int k i)) (some (.int k' i))).run P w=.ok (0,i.toNat,i.toNat) w:=by
  simp only[zAO,OF,zAA,AS,if_true,Qk k' i cap _ h1 (by omega),Qk k i i.toNat _ h1 (by omega)]
 rw[ZA ho hu hn hv (l:=0) (h:=i.toNat) (m:=i.toNat) (by simpa[Zp d2,Zp d3]using hb)];exact Out.here r (N1 d (by omega) (by omega) (IT _) (by omega) true (λ_=>rfl))
theorem Xcd(s:List UInt8)(k k':IntKind)(i j:Int)(h1:0<=i)(h2:i<=j)(h3:j<=s.length)(h0:Hp) :
  aD P GL (.ff true true) [.str s,.int k i,.int k' j] h0 (.str ((s.take j.toNat).drop i.toNat)) [] []:=by
 intro o os hc w0 L g hp w a r hx _ _;obtain⟨t,x,lo,hi,ho,gk,dU,rfl,hu⟩:=RH hc;obtain⟨lo,rfl⟩:∃z,lo=some z:=zAB.1 gk.symm;obtain⟨hi,rfl⟩:∃z,hi=some z:=zAB.1 dU.symm;obtain⟨d,d2,d3,_⟩:=hx;obtain⟨s',e1,rfl⟩:=yb d;have eL:s'.data.toList.length=s'.size:=by simp
 have ba:(execOp a.eval o).run P w=.ok (.value (.string (s'.extract i.toNat j.toNat))) w:=by
  simp only[execOp,ho,e1,zDY,zDD,OF,run_underlying hu,AS,Option.map_some,Zp d2,Zp d3,zCy,Option.isSome_none,zAS,if_false,zAO,zAA,Qk k' j s'.size _ (by omega) (by omega),Qk k i j.toNat _ h1 (by omega)]
 rw[ba];have:((s'.data.toList.take j.toNat).drop i.toNat)=(s'.extract i.toNat j.toNat).data.toList:=by
  simp[List.drop_take]
 rw[this];exact Out.here r (.str _ _)
end
end Go.Ah
end
section
namespace Go.Ah
section
variable {P:Program} {GL:ar}
theorem Ybm(DF cap:Nat)(h:cap<DF):zCb DF cap<=2*DF+192:=by
 grind [zCb,Builtin.growBy]
theorem ZI{t t' e:TypeId}{d:TypeDesc}{n by_:Nat}{z:Value}(ht:P.underlying t=some (.slice e))(hd:P.underlying t'=some d)(pH:∀k,d≠.int k)(hn:size? P e=some n)(sk:P.bytesOf e=by_)(hz:eu P e=some z)(ln:by_≠0)
 {w:World}{base:Option Addr}{len cap m:Nat}{y:Value}{newv:Array Value}(hy:(zCK y).run P w=.ok m w)(ty:TypeId) :
  (len + m<=cap→(zBA n m y).run P w=.ok newv w→(base=none→(zBE #[t,t'] ty #[.slice base len cap,y]).run P w=.ok (.slice base (len + m) cap) w) ∧
   (∀ a w',base=some a→(storeCells (a.add (len * n)) newv.toList).run P w=.ok () w'→(zBE #[t,t'] ty #[.slice base len cap,y]).run P w=.ok (.slice base (len + m) cap) w')) ∧
  (cap < len + m→(2 * (len + m) + 192) * by_<=2 ^ 48→∀ nD,(zBA n len (.slice base len cap)).run P w.drew=.ok nD w.drew→(zBA n m y).run P w.drew=.ok newv w.drew →
   ∃ nc,len + m<=nc∧(zBE #[t,t'] ty #[.slice base len cap,y]).run P w=.ok (.slice (some ⟨w.heap.size,0,none⟩) (len + m) nc) (w.drew.alloc (.cells (nD ++ newv ++ zAx z.cells (nc - (len + m))) e))):=by
 obtain⟨ie,BE,rr⟩:∃ie,P.info? e=some ie∧ie.size=n:=by
  simp_all [size?]
 have C4:ie.bytes=by_:=by simpa[Program.bytesOf,BE]using sk
 have hiz:ie.zero=some z:=by simp_all [eu]
 constructor
 ·intro hle j4;constructor
  ·intro hb;subst hb;simp only[zBE,zBY,zCP,zCQ,OF,run_underlying ht,AS,YD hn,run_underlying hd,zAA,zAS,if_false,hy,aJ hle,zBw,if_true,j4]
  ·intro a w' hb ir;subst hb;simp only[zBE,zBY,zCP,zCQ,OF,run_underlying ht,AS,YD hn,run_underlying hd,zAA,zAS,if_false,hy,aJ hle,zBw,if_true,j4,ir]
 ·intro b_ bM nD hold j4;have pg:=Ybm (len+m) cap b_;have h48:¬zCb (len+m) cap*ie.bytes>2 ^ 48:=by
   rw[C4];have:=zAE by_ pg;omega
  have zy:¬(((len+m:Nat):Int)>BY.max∧(False∨ie.bytes=0)):=by
   simp_all
  have UD:¬len+m<=cap:=by omega
  refine⟨(Question.appendCap (len+m) cap e).cut (w.tape w.drawn (.appendCap (len+m) cap e)),by simp[Question.cut],?_⟩;simp only[zBE,zBY,zCP,zCQ,OF,run_underlying ht,AS,YD hn,run_underlying hd,zAA,zAS,if_false,hy,aE UD,zBw,if_true,typeInfo,run_program,BE,aE zy];simp only[OF,run_program,AS,BE,zAA,aE h48,run_choose,Question.forced,zAS,if_false,run_askRoom,World.drew_eq,hold,j4,AR hz,newRow,run_newObj,World.alloc_eq];rfl
inductive fF (h0:Hp) (sz:Nat):aa→List (List aa)→List Nat→Prop
 |row (ex nn:Bool) (rows:List (List aa)):fF h0 sz (.aU ex nn sz rows) rows []
 |an:fF h0 sz .an [] []
 |cS:fF h0 sz .cS [] []
 |own (b off len:Nat) (ex:Bool) (rs:List (List aa)):h0 b=some (.rows sz rs)→off+len<=rs.length→fF h0 sz (.sl b off len ex) (cut off (off+len) rs) [b]
def mD(g:Gm)(sz:Nat)(rs:List (List aa))(arr:Array Value):Prop:=
 arr.size=rs.length*sz∧(∀(i:Nat) (row:List aa),rs[i]?=some row→row.length=sz) ∧
 ∀(i:Nat) (row:List aa) (j:Nat) (x:aa) (v:Value),rs[i]?=some row→row[j]?=some x→arr[i*sz+j]?=some v→g.den x v
theorem XK{w0:World}{L:Ln}{g:Gm}{h h0:Hp}{w:World}(r:bx GL w0 L g h w){sz:Nat}{y:aa}{ys:List (List aa)}{rd:List Nat}(hs:fF h0 sz y ys rd)(dc:∀b∈rd,h b=h0 b){v:Value}(d:g.den y v) :
  ∃(p:Option Addr) (cap:Nat) (newv:Array Value),v=.slice p ys.length cap∧(zBA sz ys.length v).run P w=.ok newv w∧mD g sz ys newv∧(∀z∈newv.toList,ys≠[]→True):=by
 cases hs with
 |an=>
  cases d;exact⟨none,0,#[],rfl,rfl,⟨by simp,by simp,by simp⟩,by simp⟩
 |cS=>
  cases d with
  |cS _ p=>
  refine⟨p,0,#[],rfl,?_,⟨by simp,by simp,by simp⟩,by simp⟩;cases p<;>simp_all [zBA,loadCells,loadCellsFrom]
 |row ex nn rows=>
  cases d with
  |aU _ _ _ _ _ p cap blk off f h1 h2 h3 h4 h5 h6 h7 h8=>
  by_cases cO:ys=[]
  ·subst cO;refine⟨p,cap,#[],rfl,?_,⟨by simp,by simp,by simp⟩,by simp⟩;cases p<;>simp_all [zBA,loadCells,loadCellsFrom]
  ·have hp:=h3 cO;subst hp;have hl:=run_loadCells (P:=P) w ⟨blk,off,none⟩ (ys.length * sz) (λk=>f (k / sz) (k % sz)) (λk hk=>by
    grind [XU,zCe,zDQ,zDG,RC])
   refine⟨_,cap,_,rfl,by simp only[zBA];exact hl,⟨by simp,h6,λi row j x u e1 e2 e3=>?_⟩,by simp⟩;have hi:i<ys.length:=(gK e1).1;have hj:j<sz:=by grind
   have b_:i*sz+j<ys.length*sz:=by
    grind
   simp[b_]at e3;have hdiv:(i*sz+j)/sz=i:=by grind [Nat.mul_comm,Nat.mul_add_div,Nat.div_eq_of_lt]
   rw[hdiv,zCT hj]at e3;subst e3;exact(h8 i row j x e1 e2).mono (i9.refl _) (gH.bA _)
 |own b off len ex rs hb hle=>
  have cj:h b=some (.rows sz rs):=by simp_all
  have kH:(cut off (off+len) rs).length=len:=by rw[Hu hle];omega
  cases d with
  |oV _ _ _ cb p ec hv=>
   have:=(r.gV cj ec hv).2;subst this;simp at hle;refine⟨p,0,#[],by simp[cut],?_,⟨by simp[cut],by simp[cut],by simp[cut]⟩,by simp⟩;have:(cut 0 (0+0) ([]:List (List aa))).length=0:=by simp[cut]
   rw[this];cases p<;>simp_all [zBA,loadCells,loadCellsFrom]
  |sle _ _ _ _ cb p ec hv _ _=>
   have uM:cut off (off+0) rs=[]:=by simp[cut]
   rw[uM];refine⟨p,0,#[],by simp,?_,⟨by simp,by simp,by simp⟩,by simp⟩;cases p<;>simp_all [zBA,loadCells,loadCellsFrom]
  |sl _ _ _ _ _ cb cap ec hv h1 h2 h3=>
   obtain⟨e1,arr,T,fO,hs,lr,dN,c7⟩:=r.fR cj ec hv;rw[e1]at h2 ⊢;have hbound:cb.base+off*sz+len*sz<=arr.size:=by
    rw[hs];refine zAY ?_ lr;rw[zBQ,←zBX];simp_all [zAE]
   have hl:=run_loadCells (P:=P) w ⟨cb.blk,cb.base + off * sz,none⟩ (len * sz) (λk=>(arr[cb.base + off * sz + k]?).getD undef) (λk hk=>by
    grind [XU,Q4])
   refine⟨_,cap,_,by rw[kH],by rw[kH];simp only[zBA];exact hl,⟨by rw[kH];simp,λi row e=>dN _ row (Og e).1,λi row j x u q1 q2 q3=>?_⟩,by simp⟩;obtain⟨c1,c2⟩:=Og q1;have hj:j<sz:=by grind
   have hi:i<len:=by omega
   have b_:i*sz+j<len*sz:=by
    grind
   have Uu:cb.base+off*sz+(i*sz+j)<arr.size:=by omega
   simp[b_,Uu]at q3
   grind
theorem QH{o:Oper}{t t':TypeId}{x y:Operand}(ho:o.op=.call ⟨.builtin .append,#[x,y],#[t,t']⟩){a:Act}{u v z:Value}(hu:a.eval x=u)(hv:a.eval y=v){w w':World}
 (hr:(zBE #[t,t'] o.type #[u,v]).run P w=.ok z w'):(execOp a.eval o).run P w=.ok (.value z) w':=by
 simp_all [execOp,resolve,invoke,builtin]
theorem bx.move{w0:World}{L:Ln}{g:Gm}{h:Hp}{w:World}(r:bx GL w0 L g h w){b nb:Nat}{blk blk0 blk':ab}{cb cb2:CB}(e:h b=some blk)(hl:blk.live=true)(ec:g.c b=some cb)(hv:cb.cK=false)(vo:blk0.live=true)(lX:blk'.live=true)(hn:h nb=none)
 {o':Obj}{w':World}(uT:w'.os=w.os)(wY:w'.tape=w.tape)(oF:w'.output=w.output)(wG:w'.heap=w.heap.setIfInBounds cb.blk o')
 (ok:iG g.M g.c cb o' blk0)(lV:cb2.blk=cb.blk)(KV:cb2.cK=false)(ok2:iG g.M g.c cb2 o' blk'):g.Le ⟨g.M,lK g.c nb cb2⟩∧bx GL w0 L ⟨g.M,lK g.c nb cb2⟩ (ei (ei h b .dead) nb blk') w':=by
 have r1:=r.write e hl ec hv vo uT wY oF wG ok;have OK:=r.d_ nb hn;have Jj:gH g.c (lK g.c nb cb2):=gH.lK OK;have yw:nb≠b:=by rintro rfl;rw[e]at hn;cases hn
 have aj:∀n x,ei (ei h b .dead) nb blk' n=some x→x.live=true→(n=nb∧x=blk')∨(n≠nb∧n≠b∧h n=some x):=by
  intro n x en ji;by_cases h1:n=nb
  ·simp_all [Qr]
  grind [ab.live,Xp,Qr]
 have Bz:∀n eN,n≠nb→lK g.c nb cb2 n=some eN→g.c n=some eN:=by simp_all [X5]
 refine⟨⟨i9.refl _,Jj⟩,?_⟩;exact {
  keeps:=r1.keeps
  aX:=r1.aX
  cr:=r1.cr
  src:=r1.src
  d_:=λn en=>by
   by_cases h1:n=nb
   ·subst h1;rw[Qr]at en;cases en
   ·rw[Xp _ _ h1]at en;show lK g.c nb cb2 n=none;rw[X5 _ _ h1];by_cases h2:n=b
    ·subst h2;rw[Qr]at en;cases en
    ·rw[Xp _ _ h2]at en;exact r.d_ n en
  jn:=λn x en=>by
   by_cases h1:n=nb
   ·simp_all [Zz]
   ·rw[Xp _ _ h1]at en;have:∃q,g.c n=some q:=by
     by_cases h2:n=b
     ·subst h2;exact⟨cb,ec⟩
     ·rw[Xp _ _ h2]at en;exact r.jn n x en
    simp_all [X5]
  own:=λn x eN en ji qy rF=>by
   rcases aj n x en ji with ⟨rfl,rfl⟩|⟨h1,h2,h3⟩
   ·have:lK g.c n cb2 n=some eN:=qy;rw[Zz]at this;cases this;obtain⟨q1,q2,o2,q3,q4⟩:=r1.own b blk0 cb (Qr _ _ _) vo ec hv;have b_:=r.dW e hl ec hv;rw[lV];exact⟨q1,q2,o',by simp_all,ok2.mono (i9.refl _) Jj⟩
   ·obtain⟨q1,q2,o2,q3,q4⟩:=r1.own n x eN (by rw[Xp _ _ h2];exact h3) ji (Bz n eN h1 qy) rF;exact⟨q1,q2,o2,q3,q4.mono (i9.refl _) Jj⟩
  bc:=λn x eN en ji qy rF=>by
   rcases aj n x en ji with ⟨rfl,rfl⟩|⟨h1,h2,h3⟩
   ·simp_all [Zz]
   ·exact r.bc n x eN h3 ji (Bz n eN h1 qy) rF
  inj:=λn n' x x' ca1 ca2 e1 e2 l1 l2 c1 c2 v1 v2 iC=>by
   have tr:∀n x eN,ei (ei h b .dead) nb blk' n=some x→x.live=true→lK g.c nb cb2 n=some eN→eN.cK=false→∃m y To,h m=some y∧y.live=true∧g.c m=some To∧To.cK=false∧To.blk=eN.blk∧((n=nb∧m=b)∨(n≠nb∧m=n∧n≠b)):=by
    intro n x eN en ji qy rF;rcases aj n x en ji with ⟨rfl,rfl⟩|⟨h1,h2,h3⟩
    ·rw[Zz]at qy;grind
    grind
   obtain⟨m1,y1,k1,f1,f2,f3,fv,fb,f4⟩:=tr n x ca1 e1 l1 c1 v1;obtain⟨m2,y2,k2,g1,g2,g9993,gv,gb,g9994⟩:=tr n' x' ca2 e2 l2 c2 v2;have:=r.inj m1 m2 y1 y2 k1 k2 f1 g1 f2 g2 f3 g9993 fv gv (by rw[fb,gb];exact iC);omega }
theorem Sk{g:Gm}{sz:Nat}{rs ys:List (List aa)}{a b c:Array Value}(h1:mD g sz rs a)(h2:mD g sz ys b) :
  (∀(i:Nat) (row:List aa),(rs++ys)[i]?=some row→row.length=sz) ∧
  ∀(i:Nat) (row:List aa) (j:Nat) (x:aa) (v:Value),(rs++ys)[i]?=some row→row[j]?=some x→(a++b++c)[i*sz+j]?=some v→g.den x v:=by
 obtain⟨s1,l1,d1⟩:=h1;obtain⟨s2,l2,d2⟩:=h2;constructor
 ·grind
 ·intro i row j x v e1 e2 e3;by_cases hi:i<rs.length
  ·rw[zAV hi]at e1;have hj:j<sz:=by grind
   have b_:i*sz+j<a.size:=by
    rw[s1];have:(i+1)*sz<=rs.length*sz:=zAE sz hi;rw[zBP]at this;omega
   grind
  ·rw[zAQ (by omega)]at e1;have tZ:i-rs.length<ys.length:=(gK e1).1;have hj:j<sz:=by grind
   have vn:a.size<=i*sz+j:=by
    rw[s1];have:rs.length*sz<=i*sz:=zAE sz (by omega);omega
   have oJ:i*sz+j-a.size=(i-rs.length)*sz+j:=by
    rw[s1,zCn];have:rs.length*sz<=i*sz:=zAE sz (by omega);omega
   have b_:(i-rs.length)*sz+j<b.size:=by
    rw[s2];have:(i-rs.length+1)*sz<=ys.length*sz:=zAE sz tZ;rw[zBP]at this;omega
   grind
theorem P8(z:Array Value)(n:Nat):(zAx z n).size=n*z.size:=by simp[zAx]
inductive mR (h0:Hp) (sz:Nat):aa→List (List aa)→List (Nat×ab)→Prop
 |an:mR h0 sz .an [] []
 |cS:mR h0 sz .cS [] []
 |own (b off len:Nat) (ex:Bool) (rs:List (List aa)):h0 b=some (.rows sz rs)→rs.length=off+len→mR h0 sz (.sl b off len ex) (rs.drop off) [(b,.dead)]
theorem Ydd(rs:List (List aa))(o n:Nat)(h:rs.length=o+n):cut o (o+n) rs=rs.drop o:=by grind [cut]
theorem mR.src{h0:Hp}{sz:Nat}{x:aa}{rs:List (List aa)}{kill:List (Nat×ab)}(hv:mR h0 sz x rs kill):fF h0 sz x rs (kill.map (·.1)):=by
 cases hv with
 |an=>exact .an
 |cS=>exact .cS
 |own b off len ex rs hb hl=>have:=fF.own (h0:=h0) (sz:=sz) b off len ex rs hb (by omega);rwa [Ydd rs off len hl]at this
theorem ZbJ(n by_:Nat)(z:List aa)(x y:aa)(rs ys:List (List aa))(rd:List Nat)(kill:List (Nat×ab))(h0:Hp)(nb:Nat)(hn:h0 nb=none)(su:mR h0 n x rs kill)(sv:fF h0 n y ys rd)
 (kH:∀row∈ys,∀x∈row,aa.cell x=true)(bM:(2*(rs.length+ys.length)+192)*by_<=2 ^ 48) :
  aD P GL (.append n by_ z) [x,y] h0 (.sl nb 0 (rs.length+ys.length) false) rd (kill++[(nb,.rows n (rs++ys))]):=by
 intro o os hc w0 L g h w a r hx dc gD;have jJ:h nb=none:=by rw[gD (nb,.rows n (rs++ys)) (by simp)];exact hn
 have aai:∀p∈kill,h p.1=h0 p.1:=λp hp=>gD p (by simp[hp]);generalize ho:o.op=op at hc;cases hc with
 |append t t' e ox oy _ _ v _ ht zU eL sk hz rG dJ ln kI=>
  obtain⟨d,hd,pH⟩:=zU;obtain⟨d1,d2,_⟩:=hx;generalize jT:a.eval ox=u1 at d1;generalize qg:a.eval oy=u2 at d2;obtain⟨p1,nf,nD,e1,f1,B4,_⟩:=XK (P:=P) r.drew su.src (λb hb=>by
   grind) d1
  obtain⟨p2,zl,newv,e2,f2,qo,_⟩:=XK (P:=P) r sv dc d2;obtain⟨p2',Bc,mZ,Jv,JA,rV,_⟩:=XK (P:=P) r.drew sv dc d2;have fH:(zCK u2).run P w=.ok ys.length w:=by rw[e2];rfl
  have Ka:nf<rs.length+ys.length→Out P GL w0 L g (cw h (kill++[(nb,.rows n (rs++ys))])) (.sl nb 0 (rs.length+ys.length) false) ((execOp a.eval o).run P w):=by
   intro b_;obtain⟨nc,wP,ba⟩:=(ZI ht hd pH eL sk hz ln (base:=p1) (len:=rs.length) (cap:=nf) (newv:=mZ) fH o.type).2 b_ bM nD (by rw[←e1];exact f1) JA;rw[QH ho (by rw[jT];exact e1) qg ba];obtain⟨q1,q2⟩:=Sk (c:=zAx v.cells (nc-(rs.length+ys.length))) B4 rV;have gC:∃h1,h1=cw h kill∧bx GL w0 L g h1 w.drew∧h1 nb=none:=by
    cases su with
    |an=>exact⟨h,rfl,r.drew,jJ⟩
    |cS=>exact⟨h,rfl,r.drew,jJ⟩
    |own b off len ex Af hb hl=>
     have cj:h b=some (.rows n Af):=by simp_all
     refine⟨_,rfl,r.drew.kill cj,?_⟩;show ei h b .dead nb=none;rw[Xp _ _ (by rintro rfl;rw[cj]at jJ;cases jJ)];exact jJ
   obtain⟨h1,hh1,rk,G9⟩:=gC;obtain⟨g',Ue,Uf,so⟩:=bx.nJ rk G9 n (rs++ys) (nD++mZ++zAx v.cells (nc-(rs.length+ys.length))) e (rs.length+ys.length) nc false
    (by
      simp only[zDy,B4.1,rV.1,P8,rG,zCn,zBX];have:(rs.length + ys.length) * n<=nc * n:=zAE n wP;rw[zBX]at this;omega) wP (by simp) (by simp;exact wP) q1 q2
   refine⟨g',Ue,?_,so⟩;have:cw h (kill++[(nb,.rows n (rs++ys))])=ei h1 nb (.rows n (rs++ys)):=by
    rw[hh1];cases su<;>rfl
   rw[this];exact Uf
  have kW:rs=[]→ys=[]→u1=.slice p1 0 0→bx GL w0 L g (cw h kill) w→cw h kill nb=none→Out P GL w0 L g (cw h (kill++[(nb,.rows n (rs++ys))])) (.sl nb 0 (rs.length+ys.length) false) ((execOp a.eval o).run P w):=by
   rintro KM rfl iT rk G9;have zP:newv.toList=[]:=by have:=qo.1;simp at this;simp[this]
   have ba:(zBE #[t,t'] o.type #[.slice p1 0 0,u2]).run P w=.ok (.slice p1 0 0) w:=by
    obtain⟨k1,k2⟩:=(ZI ht hd pH eL sk hz ln (base:=p1) (len:=0) (cap:=0) (newv:=newv) fH o.type).1 (by simp) f2;cases p1 with
    |none=>exact k1 rfl
    |some ad=>exact k2 ad w rfl (by rw[zP];rfl)
   rw[QH ho (by rw[jT];exact iT) qg ba];have hg:=rk.ghost G9 n;refine⟨⟨g.M,lK g.c nb ⟨0,n,0,true,0⟩⟩,⟨i9.refl _,gH.lK (rk.d_ nb G9)⟩,?_,by rw[KM];exact .oV _ _ _ _ _ (Zz _ _ _) rfl⟩;have hk:∀v,cw h (kill++[(nb,v)])=ei (cw h kill) nb v:=by intro v;cases su<;>rfl
   rw[hk,KM];exact hg
  have aaI:=su;cases su with
  |an=>
   cases d1;injection e1 with Bp Ov Ju
   by_cases rH:ys=[]
   ·exact kW rfl rH (by rw[←Bp]) r jJ
   grind
  |cS=>
   cases d1;injection e1 with Bp Ov Ju
   by_cases rH:ys=[]
   ·exact kW rfl rH (by rw[←Bp]) r jJ
   grind
  |own b off len ex Af hb hl=>
   have cj:h b=some (.rows n Af):=by simp_all
   have yw:nb≠b:=by rintro rfl;rw[cj]at jJ;cases jJ
   have Ku:(Af.drop off).length=len:=by rw[zDB];omega
   cases d1 with
   |oV _ _ _ cb p ec hv=>
    injection e1 with Bp Ov Ju
    have wW:=(r.gV cj ec hv).2;subst wW;by_cases rH:ys=[]
    ·exact kW (by simp) rH (by rw[←Bp]) (r.kill cj) (by show ei h b .dead nb=none;rw[Xp _ _ yw];exact jJ)
    grind
   |sle _ _ _ _ cb p ec hv _ _=>
    injection e1 with Bp Ov Ju
    have zE:Af.drop off=[]:=zAW.1 Ku;by_cases rH:ys=[]
    ·exact kW zE rH (by rw[←Bp]) (r.kill cj) (by show ei h b .dead nb=none;rw[Xp _ _ yw];exact jJ)
    grind
   |sl _ _ _ _ _ cb cap ec hv h1 h2 h3=>
    injection e1 with Bp Ov Ju
    subst Ju;by_cases hle:(Af.drop off).length+ys.length<=cap
    ·obtain⟨z1,arr,T,fO,hs,lr,KK,J5⟩:=r.fR cj ec hv;rw[z1]at h2;rw[zBX,←zBQ]at h2;have gu:cb.base+off*n+cap*n<=arr.size:=by rw[hs];exact Nat.le_of_eq h2
     have dN:∀(i:Nat) (row:List aa),(Af.drop off)[i]?=some row→row.length=n:=λi row q=>KK (off+i) row (by rw[zCs]at q;exact q);have c7:∀(i:Nat) (row:List aa) (j:Nat) (x:aa) (v:Value),(Af.drop off)[i]?=some row→row[j]?=some x→arr[cb.base+off*n+i*n+j]?=some v→g.den x v:=λi row j x v q1 q2 q3=>J5 (off+i) row j x v (by rw[zCs]at q1;exact q1) q2 (by grind);generalize aaD:Af.drop off=rs at *;have oE:∀u∈newv.toList,u.oneCell'=true:=by
      intro u hu;obtain⟨q,hq⟩:=zBi.1 hu;rw[zBM]at hq;have yy:q<ys.length*n:=by rw[←qo.1];grind
      have G_:0<n:=zBr kI;have hi:q/n<ys.length:=(zCe G_).2 yy;have rE:ys[q/n]?=some ys[q/n]:=by simp[hi]
      have Us:=qo.2.1 _ _ rE;have hj:q%n<ys[q/n].length:=by rw[Us];exact zDQ _ G_
      refine N8 (kH _ (AT hi) _ (AT hj)) (qo.2.2 (q/n) _ (q%n) _ u rE (by simp[hj]) ?_)
      grind [zDG]
     have hmul:(rs.length + ys.length) * n<=cap * n:=zAE n hle;obtain⟨gA,s1,s2,s3⟩:=RG (P:=P) fO newv.toList oE (j:=cb.base + off * n + rs.length * n) (by
      intro _;rw[zAy (xs:=newv),qo.1]
      grind)
     have ba:=((ZI ht hd pH eL sk hz ln (base:=some ⟨cb.blk,cb.base + off * cb.sz,none⟩) (len:=rs.length) (cap:=cap) (newv:=newv) fH o.type).1 hle f2).2 ⟨cb.blk,cb.base + off * cb.sz,none⟩ (w.setRow cb.blk gA) rfl (by
      rw[XU,z1];exact s1)
     rw[QH ho (by rw[jT,←Ku]) qg ba];have UG:iG g.M g.c cb (.cells gA T (0,0)) (.rows n []):=by
      refine⟨z1,gA,T,rfl,by rw[s2,hs],by simp;omega,by simp,by simp⟩
     have bQ:iG g.M g.c { cb with base:=cb.base+off*n } (.cells gA T (0,0)) (.rows n (rs++ys)):=by
      refine⟨z1,gA,T,rfl,by rw[s2,hs],?_,?_,?_⟩
      ·rw[By];grind
      ·intro i row q;by_cases hi:i<rs.length
       ·grind
       ·rw[zAQ (by omega)]at q;exact qo.2.1 _ row q
      ·intro i row j x0 u q1 q2 q3;rw[s3,zAy (xs:=newv),qo.1]at q3;by_cases hi:i<rs.length
       ·rw[zAV hi]at q1;have hj:j<n:=by grind
        have b_:i*n+j<rs.length*n:=by
         have:(i+1)*n<=rs.length*n:=zAE n hi;rw[zBP]at this;omega
        rw[aE (by grind)]at q3;exact c7 i row j x0 u q1 q2 q3
       ·rw[zAQ (by omega)]at q1;have tZ:i-rs.length<ys.length:=(gK q1).1;have hj:j<n:=by rw[←qo.2.1 _ row q1];grind
        have h5:rs.length*n<=i*n:=zAE n (by omega);have h6:(i-rs.length+1)*n<=ys.length*n:=zAE n tZ;rw[zBP,zCn]at h6;rw[aJ (by grind)]at q3;refine qo.2.2 _ row j x0 u q1 q2 ?_;rw[zBM]at q3
        grind
     obtain⟨k1,k2⟩:=r.move cj rfl ec hv (blk0:=.rows n []) (blk':=.rows n (rs++ys)) (cb2:={ cb with base:=cb.base+off*n }) rfl rfl jJ (w':=w.setRow cb.blk gA) rfl rfl rfl (Nx w _ arr gA T (0,0) fO) UG rfl hv bQ;refine⟨_,k1,k2,?_⟩;have pj:Den g.M (lK g.c nb { cb with base:=cb.base+off*n }) (.sl nb 0 (rs.length+ys.length) false) (.slice (some ⟨cb.blk,cb.base+off*n+0*cb.sz,none⟩) (rs.length+ys.length) cap):=
      .sl _ _ _ _ _ { cb with base:=cb.base+off*n } cap (Zz _ _ _) hv hle (by grind) (by simp)
     rw[zDf,zBj]at pj;have e3:cb.base+off*cb.sz=cb.base+off*n:=by rw[z1]
     rw[e3];exact pj
    ·exact Ka (by omega)
end
end Go.Ah
end
section
namespace Go.Ah
mutual
def aa.ro:aa→Bool
 |.bool _=>true
 |.int _ _=>true
 |.str _=>true
 |.fj=>true
 |.aq _ _=>true
 |.an=>true
 |.cS=>true
 |.aU _ _ _ _=>true
 |.fL _=>true
 |.cQ=>true
 |.func _ xs ys=>ga xs&&ga ys
 |.bH=>true
 |.iface _ v=>v.ro
 |.dp=>true
 |.agg cs=>ga cs
 |.bp cs=>ga cs
 |.when _ x=>x.ro
 |.aQ=>true
 |_=>false
def ga:List aa→Bool
 |[]=>true
 |x::xs=>x.ro&&ga xs
end
theorem Io:∀ {xs:List aa} {i:Nat} {x:aa},ga xs=true→xs[i]?=some x→x.ro=true
 |[],i,x,_,e=>by simp at e
 |y::xs,0,x,h,e=>by simp_all [ga]
 |y::xs,i+1,x,h,e=>by simp[ga]at h;simp at e;exact Io h.2 e
theorem Den.ro{M:Nat→Option Obj}{c:Own}{x:aa}{v:Value}(h:Den M c x v):x.ro=true→∀c',Den M c' x v:=by
 induction h with
 |aQ=>intro _ c';exact .aQ _ _
 |bool=>intro _ c';exact .bool _ _
 |int=>intro _ c';exact .int _ _ _
 |str=>intro _ c';exact .str _ _
 |fj=>intro _ c';exact .fj _
 |ak=>intro h;simp[aa.ro]at h
 |ptr=>intro h;simp[aa.ro]at h
 |aq c row j blk off f h1 h2 ih=>intro _ c';exact .aq _ _ _ _ _ f h1 h2
 |an=>intro _ c';exact .an _
 |cS=>intro _ c';exact .cS _ _
 |sl=>intro h;simp[aa.ro]at h
 |oV=>intro h;simp[aa.ro]at h
 |sle=>intro h;simp[aa.ro]at h
 |aU c ex nn sz rows a cap blk off f h1 h2 h3 uH h4 h5 h6 h7 ih=>intro _ c';exact .aU _ _ _ _ _ _ _ blk off f h1 h2 h3 uH h4 h5 h6 h7
 |map=>intro h;simp[aa.ro]at h
 |fL c es blk arr clock e h1 h2 h3 u6 u7=>intro _ c';exact .fL _ _ _ _ _ e h1 h2 h3
 |cQ=>intro _ c';exact .cQ _
 |func c fn first captured vs ws h1 h2 h3 h4 u6 u7=>
  intro h c';simp[aa.ro]at h;exact .func _ _ _ _ _ _ h1 h2 (λi x v e1 e2=>u6 i x v e1 e2 (Io h.1 e1) c') (λi x v e1 e2=>u7 i x v e1 e2 (Io h.2 e1) c')
 |bH=>intro _ c';exact .bH _
 |iface c t x v h ih=>intro hr c';exact .iface _ _ _ _ (ih (by simpa[aa.ro]using hr) c')
 |dp=>intro _ c';exact .dp _
 |agg c cs vs h1 h2 ih=>intro h c';exact .agg _ _ _ h1 (λi x v e1 e2=>ih i x v e1 e2 (Io (by simpa[aa.ro]using h) e1) c')
 |bp c cs vs h1 h2 ih=>intro h c';exact .bp _ _ _ h1 (λi x v e1 e2=>ih i x v e1 e2 (Io (by simpa[aa.ro]using h) e1) c')
 |when c cs x v h h2 ih=>intro hr c';exact .when _ _ _ _ (λhp=>ih hp (by simpa[aa.ro]using hr) c') h2
 |iter=>intro h;simp[aa.ro]at h
section
variable {P:Program} {GL:ar}
theorem Zew{M:Nat→Option Obj}{b:Nat}{o:Obj}(h:M b=none):i9 M (nI M b o):=by
 intro n x en
 grind [nI]
theorem bx.vI{w0:World}{L:Ln}{g:Gm}{h:Hp}{w:World}(r:bx GL w0 L g h w)(o:Obj):g.Le ⟨nI g.M w.heap.size o,g.c⟩∧bx GL w0 L ⟨nI g.M w.heap.size o,g.c⟩ h (w.alloc o):=by
 have hM:g.M w.heap.size=none:=by
  cases hm:g.M w.heap.size with
  |none=>rfl
  |some x=>have:=r.gG hm;omega
 have DD:=Zew (o:=o) hM;have wT:∀k,k<w.heap.size→(w.alloc o).heap[k]?=w.heap[k]?:=by
  intro k hk;show (w.heap.push o)[k]?=_;grind
 refine⟨⟨DD,gH.refl _⟩,?_⟩;exact {
  keeps:=r.keeps.trans' rfl rfl rfl (by simp) (λk hk _=>wT k (by have:=r.keeps.size;omega))
  aX:=λb x e=>by
   by_cases hb:b=w.heap.size
   ·subst hb;have:nI g.M w.heap.size o w.heap.size=some x:=e;simp[nI]at this;subst this;show (w.heap.push o)[w.heap.size]?=_;simp
   ·have e':nI g.M w.heap.size o b=some x:=e;simp[nI,hb]at e';rw[wT b (r.gG e')];exact r.aX b x e'
  cr:=λp hp=>(r.cr p hp).mono DD (gH.refl _)
  src:=λb x e=>by
   by_cases hb:b=w.heap.size
   ·subst hb;exact .inr (.inl r.keeps.size)
   ·have e':nI g.M w.heap.size o b=some x:=e;simp[nI,hb]at e';exact r.src b x e'
  d_:=r.d_
  jn:=r.jn
  own:=λb blk cb e hl ec hv=>by
   obtain⟨h1,h2,o',fO,bQ⟩:=r.own b blk cb e hl ec hv;have b_:=r.dW e hl ec hv;refine⟨?_,h2,o',by rw[wT _ b_];exact fO,bQ.mono DD (gH.refl _)⟩
   grind [nI]
  bc:=r.bc
  inj:=r.inj }
theorem Qcr(sz:Nat)(h0:Hp):aD P GL (.lP sz) [] h0 (.aU true true sz []) [] []:=by
 intro o os hc w0 L g h w a r hx _ _;generalize ho:o.op=op at hc;cases hc with
 |mS t e _ parts he hs hp=>
  have hpe:parts = #[]:=by cases parts;simpa using hp
  subst hpe;have qG:P.underlying t=some (.slice e):=by
   grind [eY]
  obtain⟨q1,q2⟩:=r.vI (.cells #[] e);have ba:(execOp a.eval o).run P w=.ok (.value (.slice (some ⟨w.heap.size,0,none⟩) 0 0)) (w.alloc (.cells #[] e)):=by
   have h1:(zCO t 0 #[]).run P w=.ok (.slice (some ⟨w.heap.size,0,none⟩) 0 0) (w.alloc (.cells #[] e)):=by
    simp only[zCO,OF,run_underlying qG,AS,YD hs,zDf];simp[zDI,newRow,zCN]
   simp_all [execOp]
  rw[ba];exact⟨_,q1,q2,.aU _ _ _ _ [] _ _ w.heap.size 0 (λ_ _=>undef) (by simp) (by simp) (by simp) (by simp) (by simp) (by simp) (by simp) (by simp)⟩
theorem Zds{k:IntKind}{n:Int}(w:World):(asInt (.int k n)).run P w=.ok n w:=rfl
theorem Ydu(n by_ len:Nat)(z:List aa)(k:IntKind)(bM:by_*len<=2 ^ 48)(hlen:len<2 ^ 62)(h0:Hp)(nb:Nat)(hn:h0 nb=none) :
  aD P GL (.rO n by_ z) [.int k len] h0 (.sl nb 0 len true) [] [(nb,.rows n (zAd len z))]:=by
 intro o os hc w0 L g h w a r hx _ gD;have jJ:h nb=none:=by simp_all
 generalize ho:o.op=op at hc;cases hc with
 |makeSlice t l e v _ _ _ he hs hb kI hz rG dJ=>
  obtain⟨ie,BE,rr⟩:∃ie,P.info? e=some ie∧ie.bytes=by_:=by
   simp_all
  have qG:P.underlying t=some (.slice e):=by
   grind [eY]
  have hl:=Zp hx.1;have hw:BY.wrap (len:Int)=len:=IntWalk.i64_in _ ⟨by omega,by omega⟩;obtain⟨c1,c2⟩:=YU (M:=g.M) (c:=g.c) dJ;have K1:z.length=n:=by rw[←c1,zAy,rG]
  let cells:Array Value:=if len*n=0 then #[]else (zCN (len*n)).map (v.cells[· % v.cells.size]!)
  have gu:cells.size=len*n:=by
   grind
  have ba:(execOp a.eval o).run P w=.ok (.value (.slice (some ⟨w.heap.size,0,none⟩) len len)) (w.alloc (.cells cells e)):=by
   have h1:(Instr.makeSlice t (.int k len) (.int k len)).run P w=.ok (.slice (some ⟨w.heap.size,0,none⟩) len len) (w.alloc (.cells cells e)):=by
    have g1:¬((len:Int)<0∨(ie.bytes:Int)*len>2 ^ 48):=by
     grind
    have g2:¬((len:Int)<0∨(len:Int)>len):=by omega
    simp only[Instr.makeSlice,OF,run_underlying qG,AS,Zds,typeInfo,run_program,BE,zAA,hw];simp[g1,g2,run_askRoom,YD hs,AR hz];have g9993:¬(((len:Int)<0∨281474976710656<(ie.bytes:Int)*len)∨(len:Int)<0):=by
     omega
    rw[aE g9993];by_cases K2:len*n=0
    ·have hc:cells = #[]:=by simp only[cells];rw[aJ K2]
     have hm:Array.map (λ_:Nat=>(default:Value)) (zCN 0) = #[]:=by simp[zCN]
     rw[aJ K2,hc,K2,hm];rfl
    ·have hc:cells=(zCN (len*n)).map (v.cells[· % v.cells.size]!):=by simp only[cells];rw[aE K2]
     rw[aE K2,hc];rfl
   simp_all [execOp]
  rw[ba];refine bx.nJ r jJ n (zAd len z) cells e len len true (by rw[gu]) (IT _) (λ_=>rfl) (by simp) (λi row e=>?_) (λi row j x v' e1 e2 e3=>?_)
  ·grind
  ·rw[zBd]at e1;split at e1
   ·rename_i hi;cases e1;have hj:j<n:=by grind
    refine c2 j x v' e2 ?_;have b_:i*n+j<len*n:=by
     grind
    have cO:¬len*n=0:=by omega
    simp only[cells,aE cO]at e3;simp_all [zCT]
   ·cases e1
theorem ZcX(k:IntKind)(n:Int)(h0:Hp):aD P GL (.un .xor) [.int k n] h0 (.int k (bits .xor k (if k.signed then -1 else k.max) n)) [] []:=by
 intro o os hc w0 L g h w a r hx _ _;generalize ho:o.op=yD at hc;cases hc with
 |un _ t x=>
  simp only[execOp,ho,Zp hx.1,Op.unary,intBits_xor,OF,zAA,AS];exact Out.here r (.int _ _ _)
end
end Go.Ah
end
section
namespace Go.Ah
mutual
def aa.flat:aa→Bool
 |.bool _=>true
 |.int _ _=>true
 |.str _=>true
 |.fj=>true
 |.an=>true
 |.cQ=>true
 |.func _ xs ys=>lT xs&&lT ys
 |.bH=>true
 |.iface _ v=>v.flat
 |.dp=>true
 |.agg cs=>lT cs
 |.bp cs=>lT cs
 |.aQ=>true
 |_=>false
def lT:List aa→Bool
 |[]=>true
 |x::xs=>x.flat&&lT xs
end
theorem Ig:∀ {xs:List aa} {i:Nat} {x:aa},lT xs=true→xs[i]?=some x→x.flat=true
 |[],i,x,_,e=>by simp at e
 |y::xs,0,x,h,e=>by simp_all [lT]
 |y::xs,i+1,x,h,e=>by simp[lT]at h;simp at e;exact Ig h.2 e
theorem Den.flat{M:Nat→Option Obj}{c:Own}{x:aa}{v:Value}(h:Den M c x v):x.flat=true→∀M' c',Den M' c' x v:=by
 induction h with
 |aQ=>intro _ _ c';exact .aQ _ _
 |bool=>intro _ _ c';exact .bool _ _
 |int=>intro _ _ c';exact .int _ _ _
 |str=>intro _ _ c';exact .str _ _
 |fj=>intro _ _ c';exact .fj _
 |an=>intro _ _ c';exact .an _
 |cQ=>intro _ _ c';exact .cQ _
 |func c fn first captured vs ws h1 h2 h3 h4 u6 u7=>
  intro h M' c';simp[aa.flat]at h;exact .func _ _ _ _ _ _ h1 h2 (λi x v e1 e2=>u6 i x v e1 e2 (Ig h.1 e1) M' c') (λi x v e1 e2=>u7 i x v e1 e2 (Ig h.2 e1) M' c')
 |bH=>intro _ _ c';exact .bH _
 |iface c t x v h ih=>intro hr M' c';exact .iface _ _ _ _ (ih (by simpa[aa.flat]using hr) M' c')
 |dp=>intro _ _ c';exact .dp _
 |agg c cs vs h1 h2 ih=>intro h M' c';exact .agg _ _ _ h1 (λi x v e1 e2=>ih i x v e1 e2 (Ig (by simpa[aa.flat]using h) e1) M' c')
 |bp c cs vs h1 h2 ih=>intro h M' c';exact .bp _ _ _ h1 (λi x v e1 e2=>ih i x v e1 e2 (Ig (by simpa[aa.flat]using h) e1) M' c')
 |_=>intro h;simp[aa.flat]at h
section
variable {P:Program} {GL:ar}
def jo(P:Program)(GL:ar)(f:FuncId)(xs:List aa)(h0:Hp)(v:aa)(rd:List Nat)(up:List (Nat×ab)):Prop:=
 ∀(w0:World) (L:Ln) (g:Gm) (h:Hp) (w:World) (vs:List Value),bx GL w0 L g h w→dM g xs vs→(∀b∈rd,h b=h0 b)→(∀p∈up,h p.1=h0 p.1) →
  Calls P f vs.toArray w λe xW=>∃u,e=.returned u∧∃g',g.Le g'∧bx GL w0 L g' (cw h up) xW∧g'.den v u
theorem QY{f:FuncId}(hp:Zh P f=true)(args:Array Value)(w:World):(callFunc f args).run P w=.ok (.enter f args) w:=by
 unfold Zh at hp;cases hf:P.funcs[f]? with
 |none=>simp[hf]at hp
 |some fn=>
  simp[hf]at hp;obtain⟨b,hb⟩:=zAB.1 hp.2;simp[callFunc,hf,hp.1,hb]
theorem XdS{f:FuncId}{xs:List aa}{h0:Hp}{v:aa}{rd:List Nat}{up:List (Nat×ab)}(hc:jo P GL f xs h0 v rd up):aD P GL (.call f) xs h0 v rd up:=by
 intro o os pY w0 L g h w a r hx dc gD;generalize ho:o.op=op at pY;cases pY with
 |call _ args ts hp=>
  have ba:(execOp a.eval o).run P w=.ok (.enter f (args.map a.eval)) w:=by
   simp_all [execOp,resolve,Act.eval,zCl,invoke,QY]
  rw[ba];have:=hc w0 L g h w _ r hx dc gD
  rwa [←zBn,zCB]at this
theorem Ydt{f:FuncId}{first captured xs:List aa}{h0:Hp}{v:aa}{rd:List Nat}{up:List (Nat×ab)}(hp:Zh P f=true)(hc:jo P GL f (first++xs++captured) h0 v rd up) :
  aD P GL .jZ (.func (.func f) first captured::xs) h0 v rd up:=by
 intro o os pY w0 L g h w a r hx dc gD;generalize ho:o.op=op at pY;cases pY with
 |jZ x args ts=>
  obtain⟨d,dr⟩:=hx;generalize hu:a.eval x=u0 at d;cases d with
  |func _ _ _ _ vs ws h1 h2 h3 h4=>
   have ba:(execOp a.eval o).run P w=.ok (.enter f (vs++args.map a.eval++ws)) w:=by
    simp_all [execOp,resolve,zCl,invoke,QY]
   rw[ba];have hl:=dr.length;simp at hl;have:=hc w0 L g h w (vs ++ args.map a.eval ++ ws).toList r (dM.lE (by simp[h1,h2,hl]) (λi y u e1 e2=>by
    simp only[Array.toList_append]at e2;by_cases hi:i<first.length
    ·rw[zAa,zAV hi]at e1;rw[zAa,zAV (by simpa[h1]using hi)]at e2;exact h3 i y u e1 (by simpa using e2)
    ·by_cases tZ:i<first.length+xs.length
     ·rw[zAa,zAQ (by omega),zAV (by omega)]at e1;rw[zAa,zAQ (by simp;omega),zAV (by simp;omega)]at e2;refine dr.get (i-first.length) y u e1 ?_;simpa[h1]using e2
     ·rw[zAQ (by simp;omega)]at e1;rw[zAQ (by simp;omega)]at e2;refine h4 (i - (first ++ xs).length) y u e1 ?_;simpa[h1,hl]using e2)) dc gD
   rwa [zCB]at this
theorem ZbF{P:Program}{name:String}{t:TypeId}{f:FuncId}(h:M5 P name t=some f)(hp:Zh P f=true)(v:Value)(args:Array Value)(w:World) :
  (callMethod (.iface t v) name args).run P w=.ok (.enter f (#[v]++args)) w:=by
 unfold M5 at h;split at h
 ·cases h
 ·rename_i i hi;split at h
  ·cases h
  ·rename_i m hm;have J':∃k,P.types.size+Made.depth=k+1:=⟨P.types.size+Made.depth-1,by rfl⟩;obtain⟨k,hk⟩:=J';have aaj:m.path.isEmpty=true→m.path.toList=[]:=λh=>by simpa using h
   have key:(method (k+1) t v name).run P w=.ok (f,v) w:=by
    unfold method;simp only[OF,run_typeInfo w hi,AS,hm];split at h<;>simp_all [follow,receiverAt,Place.get,run_underlying]
   unfold callMethod;simp only[OF,show (program).run P w=.ok P w from rfl,AS,hk,key];rw[QY hp]
theorem QcU{name:String}{o0:List (TypeId×FuncId)}{f:FuncId}{ty:TypeId}{x:aa}{xs:List aa}{h0:Hp}{v:aa}{rd:List Nat}{up:List (Nat×ab)}(hl:HS ty o0=some f)(hc:jo P GL f (x::xs) h0 v rd up) :
  aD P GL (.invoke name o0) (.iface ty x::xs) h0 v rd up:=by
 intro o os pY w0 L g h w a r hx dc gD;generalize ho:o.op=op at pY;cases pY with
 |invoke y _ args ts _ bQ=>
  obtain⟨d,dr⟩:=hx;generalize hu:a.eval y=u0 at d;cases d with
  |iface _ _ _ vv KY=>
   obtain⟨k1,k2⟩:=bQ _ (Pl hl);have ba:(execOp a.eval o).run P w=.ok (.enter f (#[vv]++args.map a.eval)) w:=by
    simp only[execOp,ho,resolve,OF,hu,zAA,AS,invoke];have e0:(#[zBz ty vv]++args.map a.eval)[0]?=some (zBz ty vv):=by grind
    have e1:(#[zBz ty vv]++args.map a.eval).extract 1 (#[zBz ty vv]++args.map a.eval).size=args.map a.eval:=by
     simp
    grind [ZbF]
   rw[ba];have:=hc w0 L g h w (vv::(args.map a.eval).toList) r ⟨KY,by rwa [zBn]⟩ dc gD;have e2:(vv::(args.map a.eval).toList).toArray = #[vv]++args.map a.eval:=by apply Array.ext';simp
   rw[e2]at this;exact this
def dK(P:Program)(GL:ar)(f:FuncId)(xs:List aa)(v:aa):Prop:=
 ∀(w:World) (M:Nat→Option Obj) (vs:List Value),(∀b o,M b=some o→w.heap[b]?=some o)→(∀p∈GL,Den M bA (.aq p.2 0) (.pointer (some ⟨p.1,0,none⟩)))→dM ⟨M,bA⟩ xs vs →
  Calls P f vs.toArray w λe w'=>∃u,e=.returned u∧i7 ⟨[],M⟩ w w'∧∃M',i9 M M'∧(∀b o,M' b=some o→w'.heap[b]?=some o)∧(∀b o,M' b=some o→M b=some o∨w.heap.size<=b)∧Den M' bA v u
def oQ:Hp:=λ_=>none
theorem bx.start(w:World)(M:Nat→Option Obj)(hM:∀b o,M b=some o→w.heap[b]?=some o)(hg:∀p∈GL,Den M bA (.aq p.2 0) (.pointer (some ⟨p.1,0,none⟩))):bx GL w ⟨[],M⟩ ⟨M,bA⟩ oQ w where
 keeps:=i7.refl _ _
 aX:=hM
 src:=λ_ _ e=>.inl e
 cr:=hg
 d_:=λ_ _=>rfl
 jn:=λ_ _ e=>by cases e
 own:=λ_ _ _ e=>by cases e
 bc:=λ_ _ _ e=>by cases e
 inj:=λ_ _ _ _ _ _ e=>by cases e
theorem bx.after{w0:World}{L:Ln}{g:Gm}{h:Hp}{w w':World}(r:bx GL w0 L g h w){M M':Nat→Option Obj}(k:i7 ⟨[],M⟩ w w')(hle:i9 g.M M')(ir:∀b o,M' b=some o→w'.heap[b]?=some o)(kO:∀b o,M' b=some o→g.M b=some o∨w.heap.size<=b) :
  bx GL w0 L ⟨M',g.c⟩ h w' where
 keeps:=r.keeps.trans' k.os k.tape k.output k.size (λb hb _=>k.block b (by have:=r.keeps.size;omega) (by simp))
 aX:=ir
 src:=λb o e=>by
  rcases kO b o e with h1|h1
  ·exact r.src b o h1
  ·exact .inr (.inl (by have:=r.keeps.size;omega))
 cr:=λp hp=>(r.cr p hp).mono hle (gH.refl _)
 d_:=r.d_
 jn:=r.jn
 own:=λb blk cb e hl ec hv=>by
  obtain⟨h1,h2,o,ho,bQ⟩:=r.own b blk cb e hl ec hv;have b_:=r.dW e hl ec hv;refine⟨?_,h2,o,by rw[k.block _ b_ (by simp)];exact ho,bQ.mono hle (gH.refl _)⟩;show M' cb.blk=none;cases hm:M' cb.blk<;>grind
 bc:=r.bc
 inj:=r.inj
theorem RP{M:Nat→Option Obj}{c:Own}:∀ {xs:List aa} {vs:List Value},ga xs=true→dM ⟨M,c⟩ xs vs→∀c',dM ⟨M,c'⟩ xs vs
 |[],[],_,_,_=>trivial
 |x::xs,v::vs,h,⟨d,r⟩,c'=>by simp[ga]at h;exact⟨Den.ro d h.1 c',RP h.2 r c'⟩
theorem dK.here{f:FuncId}{xs:List aa}{v:aa}(hc:dK P GL f xs v)(zY:ga xs=true)(h0:Hp):jo P GL f xs h0 v [] []:=by
 intro w0 L g h w vs r hx _ _;refine(hc w g.M vs r.aX r.cr (RP zY hx bA)).mono ?_;rintro e w' ⟨u,he,k,M',hle,ir,kO,hd⟩;exact⟨u,he,⟨M',g.c⟩,⟨hle,gH.refl _⟩,r.after k hle ir kO,hd.mono (i9.refl _) (gH.bA _)⟩
def World.all(w:World):Nat→Option Obj:=λb=>w.heap[b]?
def yI(g:Gm)(h:Hp)(w:World)(M2:Nat→Option Obj):Prop:=
 i9 g.M M2∧∀b blk cb o,h b=some blk→blk.live=true→g.c b=some cb→cb.cK=false→w.heap[cb.blk]?=some o→M2 cb.blk=some o
def aB(h0:Hp)(rd:List Nat)(x y:aa):Prop:=
 ∀(GL:ar) (w0:World) (L:Ln) (g:Gm) (h:Hp) (w:World) (M2:Nat→Option Obj),bx GL w0 L g h w→yI g h w M2→(∀b∈rd,h b=h0 b)→∀v,g.den x v→Den M2 bA y v
def bu(h0:Hp)(rd:List Nat)(xs ys:List aa):Prop:=
 ∀(GL:ar) (w0:World) (L:Ln) (g:Gm) (h:Hp) (w:World) (M2:Nat→Option Obj),bx GL w0 L g h w→yI g h w M2→(∀b∈rd,h b=h0 b)→∀vs,dM g xs vs→dM ⟨M2,bA⟩ ys vs
theorem bx.te{w0:World}{L:Ln}{g:Gm}{h:Hp}{w:World}(r:bx GL w0 L g h w):i9 g.M (World.all w):=λb o e=>r.aX b o e
theorem bx.tQ{w0:World}{L:Ln}{g:Gm}{h:Hp}{w:World}(r:bx GL w0 L g h w):yI g h w (World.all w):=⟨r.te,λ_ _ _ _ _ _ _ _ e=>e⟩
theorem dK.qk{f:FuncId}{xs ys:List aa}{v:aa}{rd:List Nat}{h0:Hp}(hc:dK P GL f ys v)(hb:bu h0 rd xs ys)(hv:v.flat=true):jo P GL f xs h0 v rd []:=by
 intro w0 L g h w vs r hx dc _;refine(hc w (World.all w) vs (λ_ _ e=>e) (λp hp=>(r.cr p hp).mono r.te (gH.refl _)) (hb GL w0 L g h w _ r r.tQ dc vs hx)).mono ?_;rintro e w' ⟨u,he,k,M',hle,ir,kO,hd⟩;refine⟨u,he,g,Gm.Le.refl _,?_,Den.flat hd hv _ _⟩;exact r.after k (i9.refl _) (λb o e=>by rw[k.block b (r.gG e) (by simp)];exact r.aX b o e) (λb o e=>.inl e)
theorem aB.ro{h0:Hp}{rd:List Nat}{x:aa}(hx:x.ro=true):aB h0 rd x x:=by
 intro GL w0 L g h w M2 r hM _ v d;exact Den.ro (Den.mono hM.1 d (gH.refl _)) hx _
theorem bu.nil{h0:Hp}{rd:List Nat}:bu h0 rd [] []:=by
 intro GL w0 L g h w M2 r hM _ vs d;cases vs with
 |nil=>trivial
 |cons v vs=>exact d.elim
theorem bu.cons{h0:Hp}{rd:List Nat}{x y:aa}{xs ys:List aa}(h1:aB h0 rd x y)(h2:bu h0 rd xs ys):bu h0 rd (x::xs) (y::ys):=by
 intro GL w0 L g h w M2 r hM dc vs d;cases vs with
 |nil=>exact d.elim
 |cons v vs=>exact⟨h1 GL w0 L g h w M2 r hM dc v d.1,h2 GL w0 L g h w M2 r hM dc vs d.2⟩
theorem bu.get{h0:Hp}{rd:List Nat}{xs ys:List aa}(hb:bu h0 rd xs ys){GL:ar}{w0:World}{L:Ln}{g:Gm}{h:Hp}{w:World}{M2:Nat→Option Obj}(r:bx GL w0 L g h w)(hM:yI g h w M2)(dc:∀b∈rd,h b=h0 b){vs:List Value}(hl:xs.length=vs.length)
 (hd:∀(i:Nat) (x:aa) (v:Value),xs[i]?=some x→vs[i]?=some v→g.den x v):ys.length=vs.length∧∀(i:Nat) (y:aa) (v:Value),ys[i]?=some y→vs[i]?=some v→Den M2 bA y v:=by
 have:=hb GL w0 L g h w M2 r hM dc vs (dM.lE hl hd);exact⟨this.length,λi y v e1 e2=>this.get i y v e1 e2⟩
theorem aB.box{h0:Hp}{rd:List Nat}{b j:Nat}{row row':List aa}(hb:h0 b=some (.box row))(di:b∈rd)(hr:bu h0 rd row row'):aB h0 rd (.ak b j) (.aq row' j):=by
 intro GL w0 L g h w M2 r hM dc v d;have cj:h b=some (.box row):=by rw[dc b di];exact hb
 cases d with
 |ak _ _ _ cb ec=>
 cases bW:cb.cK with
 |true=>have:=r.bc b _ cb cj rfl ec bW;cases this
 |false=>
 obtain⟨_,_,o',fO,arr,T,rfl,hs,c7⟩:=r.own b _ cb cj rfl ec bW;obtain⟨hl,hd⟩:=hr.get r hM dc (vs:=arr.toList) (by simp[hs]) (λi x v e1 e2=>c7 i x v e1 (by simpa using e2));have pj:Den M2 bA (.aq row' j) (.pointer (some ⟨cb.blk,0+j,none⟩)):=by
  refine .aq _ _ _ _ _ (λk=>(arr[k]?).getD undef) (λk hk=>?_) (λk x e=>?_)
  ·have wH:k<arr.size:=by simpa[hl]using hk
   have hw:M2 cb.blk=some (.cells arr T (0,0)):=hM.2 b _ cb _ cj rfl ec (by assumption) fO;simp[iL,hw,wH]
  ·have hk:k<arr.size:=by have:=(gK e).1;simpa[hl]using this
   simp only[zBD hk,zAo];exact hd k x _ e (by simp[hk])
 rwa [No]at pj
theorem aB.iface{h0:Hp}{rd:List Nat}{t:TypeId}{x y:aa}(h1:aB h0 rd x y):aB h0 rd (.iface t x) (.iface t y):=by
 intro GL w0 L g h w M2 r hM dc v d;cases d with
 |iface _ _ _ v' dv=>exact .iface _ _ _ _ (h1 GL w0 L g h w M2 r hM dc v' dv)
theorem aB.agg{h0:Hp}{rd:List Nat}{xs ys:List aa}(h1:bu h0 rd xs ys):aB h0 rd (.agg xs) (.agg ys):=by
 intro GL w0 L g h w M2 r hM dc v d;cases d with
 |agg _ _ vs hs hd=>
  obtain⟨hl,pj⟩:=h1.get r hM dc (vs:=vs.toList) (by simp[hs]) (λi x v e1 e2=>hd i x v e1 (by simpa using e2));exact .agg _ _ _ (by simpa using hl.symm) (λi x v e1 e2=>pj i x v e1 (by simpa using e2))
theorem aB.func{h0:Hp}{rd:List Nat}{fn:Fn}{xs ys AD ys':List aa}(h1:bu h0 rd xs AD)(h2:bu h0 rd ys ys'):aB h0 rd (.func fn xs ys) (.func fn AD ys'):=by
 intro GL w0 L g h w M2 r hM dc v d;cases d with
 |func _ _ _ _ vs ws q1 q2 q3 q4=>
  obtain⟨hl,pj⟩:=h1.get r hM dc (vs:=vs.toList) (by simp[q1]) (λi x v e1 e2=>q3 i x v e1 (by simpa using e2));obtain⟨dU,sm⟩:=h2.get r hM dc (vs:=ws.toList) (by simp[q2]) (λi x v e1 e2=>q4 i x v e1 (by simpa using e2));exact .func _ _ _ _ _ _ (by simpa using hl.symm) (by simpa using dU.symm) (λi x v e1 e2=>pj i x v e1 (by simpa using e2)) (λi x v e1 e2=>sm i x v e1 (by simpa using e2))
theorem aB.map{h0:Hp}{rd:List Nat}{b:Nat}{es:List (aa×aa)}(hb:h0 b=some (.map es))(di:b∈rd)(kY:∀p∈es,p.1.ro=true∧p.2.ro=true):aB h0 rd (.map b) (.fL es):=by
 intro GL w0 L g h w M2 r hM dc v d;have cj:h b=some (.map es):=by rw[dc b di];exact hb
 cases d with
 |map _ _ cb ec=>
 cases bW:cb.cK with
 |true=>have:=r.bc b _ cb cj rfl ec bW;cases this
 |false=>
 obtain⟨_,_,o',fO,arr,clock,rfl,hs,c7⟩:=r.own b _ cb cj rfl ec bW;have hw:M2 cb.blk=some (.map arr clock):=hM.2 b _ cb _ cj rfl ec bW fO;exact .fL _ _ _ arr clock hw hs (λi k x e e1 e2=>Den.ro ((c7 i k x e e1 e2).1.mono hM.1 (gH.refl _)) (kY _ (zAK e1)).1 _)
  (λi k x e e1 e2=>Den.ro ((c7 i k x e e1 e2).2.mono hM.1 (gH.refl _)) (kY _ (zAK e1)).2 _)
theorem aB.sl{h0:Hp}{rd:List Nat}{b off len sz:Nat}{ex:Bool}{rs rs':List (List aa)}(hb:h0 b=some (.rows sz rs))(di:b∈rd)(hle:off+len<=rs.length)(hl:rs'.length=len)
 (hr:∀(i:Nat) (row row':List aa),rs[off+i]?=some row→rs'[i]?=some row'→bu h0 rd row row'):aB h0 rd (.sl b off len ex) (.aU ex false sz rs'):=by
 intro GL w0 L g h w M2 r hM dc v d;have cj:h b=some (.rows sz rs):=by rw[dc b di];exact hb
 cases d with
 |oV _ _ _ cb p ec hv=>
  have:rs'=[]:=zAW.1 hl;subst this;exact .aU _ _ _ _ [] _ _ 0 0 (λ_ _=>undef) (by simp) (by simp) (by simp) (by simp) (by simp) (by simp) (by simp) (by simp)
 |sle _ _ _ _ cb p ec hv=>
  have:rs'=[]:=zAW.1 hl;subst this;exact .aU _ _ _ _ [] _ _ 0 0 (λ_ _=>undef) (by simp) (by simp) (by simp) (by simp) (by simp) (by simp) (by simp) (by simp)
 |sl _ _ _ _ _ cb cap ec hv h1 h2 h3=>
  obtain⟨e1,arr,T,fO,hs,lr,dN,c7⟩:=r.fR cj ec hv;have hw:M2 cb.blk=some (.cells arr T (0,0)):=hM.2 b _ cb _ cj rfl ec (by assumption) fO;have aj:∀i,i<len→∃row,rs[off+i]?=some row:=λi hi=>⟨rs[off+i]'(by omega),by simp[show off+i<rs.length by omega]⟩;have nz:∀i j,i<len→j<sz→cb.base+(off+i)*sz+j<arr.size:=by
   intro i j hi hj;have:(off+i+1)*sz<=rs.length*sz:=zAE sz (by omega);rw[zBP]at this;omega
  have key:∀i row row',rs[off+i]?=some row→rs'[i]?=some row'→row'.length=sz∧∀(j:Nat) (y:aa),row'[j]?=some y→Den M2 bA y ((arr[cb.base+(off+i)*sz+j]?).getD undef):=by
   intro i row row' q1 q2;have hi:i<len:=by rw[←hl];exact(gK q2).1
   have s_:=dN _ _ q1;obtain⟨k1,k2⟩:=(hr i row row' q1 q2).get r hM dc (vs:=(arr.extract (cb.base + (off + i) * sz) (cb.base + (off + i) * sz + sz)).toList) (by
     have:=nz i 0 hi;simp[s_];by_cases h0:sz=0
     ·subst h0;simp
     ·have:=nz i (sz-1) hi (by omega);omega) (λj x v q3 q4=>by
    have hj:j<sz:=by rw[←s_];exact(gK q3).1
    have b_:=nz i j hi hj;rw[zBM]at q4;obtain⟨_,q4⟩:=zCF.1 q4;rw[zBx]at q4;exact c7 _ row j x v q1 q3 (by rw[zBD b_,q4]))
   have hlen:(arr.extract (cb.base+(off+i)*sz) (cb.base+(off+i)*sz+sz)).toList.length=sz:=by
    simp;by_cases h0:sz=0
    ·subst h0;simp
    ·have:=nz i (sz-1) hi (by omega);omega
   refine⟨by rw[k1,hlen],λj y q3=>?_⟩;have hj:j<sz:=by rw[←hlen,←k1];exact(gK q3).1
   have b_:=nz i j hi hj;simp only[zBD b_,zAo];refine k2 j y _ q3 ?_;rw[zBM,zBD (by simp;omega),zBx]
  have nB:Den M2 bA (.aU ex false sz rs') (.slice (some ⟨cb.blk,cb.base+off*sz,none⟩) rs'.length cap):=by
   refine .aU _ ex false sz rs' _ cap cb.blk (cb.base+off*sz) (λi j=>(arr[cb.base+(off+i)*sz+j]?).getD undef) (λe=>by rw[hl];exact h3 e) (by simp) (λ_=>rfl) (λe=>by cases e) (by rw[hl];exact h1) (λi row' q=>?_) (λi j hi hj=>?_) (λi row' j y q1 q2=>?_)
   ·obtain⟨row,UT⟩:=aj i (by rw[←hl];exact(gK q).1);exact(key i row row' UT q).1
   ·rw[hl]at hi;have b_:=nz i j hi hj;rw[show cb.base+off*sz+(i*sz+j)=cb.base+(off+i)*sz+j by rw[zBX];omega];simp[iL,hw,b_]
   ·obtain⟨row,UT⟩:=aj i (by rw[←hl];exact(gK q1).1);exact(key i row row' UT q1).2 j y q2
  rw[hl,←e1]at nB;rw[e1]at nB ⊢;exact nB
end
end Go.Ah
end
section
namespace Go.Ah
structure aM where
 dst:Option Nat
 k:MK
 xs:List se
 guard:Option (Nat×Bool)
 deriving Inhabited
def lL{α β:Type}(R:α→β→Prop):List α→List β→Prop
 |[],[]=>True
 |x::xs,y::ys=>R x y∧lL R xs ys
 |_,_=>False
structure gf (P:Program) (GL:ar) (n:Nat) (ops:Array Oper) (o:Oper) (m:aM):Prop where
 dst:o.dst=m.dst
 lt:∀d,m.dst=some d→d<n
 op:∃os,cp P GL o.op m.k os∧lL (kR GL) os m.xs
 guard:match o.guard,m.guard with
  |none,none=>True
  |some (j,w),some (s,w')=>w=w'∧(ops[j]?).bind (·.dst)=some s
  |_,_=>False
def eE(cs:List (Bool×Bool)):Prop:=∀p∈cs,p.1=p.2
inductive dD (ρ:Frame):Option (Nat×Bool)→List (Bool×Bool)→Prop
 |none:dD ρ none []
 |bool (s:Nat) (w c:Bool):bL ρ s=.bool c→dD ρ (some (s,w)) [(c,w)]
 |when (s:Nat) (w c:Bool) (cs:List (Bool×Bool)):bL ρ s=.when cs (.bool c)→dD ρ (some (s,w)) (cs++[(c,w)])
def yT(H:Prop)(x y:aa):Prop:=x=y∨∃cs,x=.when cs y∧(H→eE cs)
def uF(d:Nat):Frame→Frame
 |[]=>[]
 |(k,u)::r=>match IN k d with
  |true=>r
  |false=>(k,u)::uF d r
theorem Xb4{d t:Nat}(h:t≠d):∀(ρ:Frame),bL (uF d ρ) t=bL ρ t
 |[]=>rfl
 |(k,u)::r=>by
  simp only[uF];split<;>simp_all [XS,Xb4]
def cz(d:Option Nat)(v:aa)(ρ:Frame):Frame:=
 match d with
 |some d=>(d,v)::uF d ρ
 |none=>ρ
theorem X6(d:Option Nat)(v:aa)(ρ:Frame)(t:Nat):bL (cz d v ρ) t=if d=some t then v else bL ρ t:=by
 cases d with
 |none=>simp[cz]
 |some d=>
  simp only[cz,XS];by_cases h:t=d
  ·subst h;simp
  ·rw[aE h,aE (λe=>h (zBy e).symm),Xb4 h]
def gp:List ab→List (Nat×ab)→Option (List ab)
 |σ,[]=>some σ
 | σ,(b,x) :: r=>bif IN b σ.length then gp (σ ++ [x]) r else (match QF b x σ with
  |some σ'=>gp σ' r
  | none=>none)
abbrev Log:=List (List Nat×List Nat)
def Ca(P:Program)(GL:ar)(w0:World)(L:Ln)(g:Gm)(R:KT):Result Next→Prop
 |.ok (.value u) w'=>∃g' x σ',R x σ'∧g.Le g'∧bx GL w0 L g' (hp σ') w'∧g'.den x u
 |.ok .skip w'=>∃g' σ',R .aQ σ'∧g.Le g'∧bx GL w0 L g' (hp σ') w'
 |.ok (.enter f args) w'=>Calls P f args w' λe xW=>∃u,e=.returned u∧∃g' x σ',R x σ'∧g.Le g'∧bx GL w0 L g' (hp σ') xW∧g'.den x u
 |_=>False
def nM(P:Program)(GL:ar)(k:MK)(xs:List aa)(σ:List ab)(R:KT):Prop:=
 ∀(o:Oper) (os:List Operand),cp P GL o.op k os→∀(w0:World) (L:Ln) (g:Gm) (w:World) (a:Act),bx GL w0 L g (hp σ) w→dM g xs (os.map a.eval)→Ca P GL w0 L g R ((execOp a.eval o).run P w)
inductive eF (fl:Bool) (P:Program) (GL:ar) (o:aM) (ρ:Frame) (σ:List ab) (lg:Log) (K:Frame→List ab→Log→Prop):Prop
 |run (cs:List (Bool×Bool)) (ys:List aa) (v:aa) (rd:List Nat) (up:List (Nat×ab)) (σ':List ab):dD ρ o.guard cs→eE cs→lL (yT True) (o.xs.map (ev ρ)) ys→aD P GL o.k ys (hp σ) v rd up →
   gp σ up=some σ'→K (cz o.dst v ρ) σ' (lg++[(rd,up.map (·.1))])→eF fl P GL o ρ σ lg K
 |skip (cs:List (Bool×Bool)):dD ρ o.guard cs→¬eE cs→K (cz o.dst .aQ ρ) σ (lg++[([],[])])→eF fl P GL o ρ σ lg K
 |lazy (cs:List (Bool×Bool)) (ys:List aa) (v:aa) (rd:List Nat):dD ρ o.guard cs→lL (yT (eE cs)) (o.xs.map (ev ρ)) ys→(eE cs→aD P GL o.k ys (hp σ) v rd []) →
   K (cz o.dst (.when cs v) ρ) σ (lg++[(rd,[])])→eF fl P GL o ρ σ lg K
 |pick (cs:List (Bool×Bool)) (x y z:aa) (c p q:Bool) (v:aa):dD ρ o.guard cs→o.k=.pick→o.xs.map (ev ρ)=[x,y,z]→yT (eE cs) x (.bool c)→yT (eE cs∧c=true) y (.bool p)→yT (eE cs∧c=false) z (.bool q) →
   (v=.when cs (.bool (bif c then p else q))∨(cs=[]∧v=.bool (bif c then p else q)))→K (cz o.dst v ρ) σ (lg++[([],[])])→eF fl P GL o ρ σ lg K
 |rel (cs:List (Bool×Bool)) (ys:List aa) (R:KT):fl=false→dD ρ o.guard cs→eE cs→lL (yT True) (o.xs.map (ev ρ)) ys→nM P GL o.k ys σ R →
   (∀v σ',R v σ'→K (cz o.dst v ρ) σ' (lg++[([],[])]))→eF fl P GL o ρ σ lg K
def iU(fl:Bool)(P:Program)(GL:ar):List aM→Frame→List ab→Log→(Frame→List ab→Log→Prop)→Prop
 |[],ρ,σ,lg,Q=>Q ρ σ lg
 |o::r,ρ,σ,lg,Q=>eF fl P GL o ρ σ lg λρ' σ' jF=>iU fl P GL r ρ' σ' jF Q
theorem eF.mono{fl:Bool}{P:Program}{GL:ar}{o:aM}{ρ:Frame}{σ:List ab}{lg:Log}{K K':Frame→List ab→Log→Prop}(h:∀ρ σ lg,K ρ σ lg→K' ρ σ lg)(s:eF fl P GL o ρ σ lg K):eF fl P GL o ρ σ lg K':=by
 cases s with
 |run cs ys v rd up σ' h1 h2 h3 h4 h5 h6=>exact .run cs ys v rd up σ' h1 h2 h3 h4 h5 (h _ _ _ h6)
 |skip cs h1 h2 h3=>exact .skip cs h1 h2 (h _ _ _ h3)
 |lazy cs ys v rd h1 h2 h3 h4=>exact .lazy cs ys v rd h1 h2 h3 (h _ _ _ h4)
 |pick cs x y z c p q v h1 h2 h3 h4 h5 h6 h7 h8=>exact .pick cs x y z c p q v h1 h2 h3 h4 h5 h6 h7 (h _ _ _ h8)
 |rel cs ys R h0 h1 h2 h3 h4 h5=>exact .rel cs ys R h0 h1 h2 h3 h4 (λv σ' hr=>h _ _ _ (h5 v σ' hr))
theorem Ht:∀(up:List (Nat×ab)) (σ σ':List ab),gp σ up=some σ'→cw (hp σ) up=hp σ'
 |[],σ,σ',h=>by simp only[gp]at h;cases h;rfl
 |(b,x)::r,σ,σ',h=>by
  simp only[gp]at h;cases hb:IN b σ.length with
  |true=>
   simp only[hb,cond_true]at h;have:=Ht r _ _ h;rw[←this];show cw (ei (hp σ) b x) r=_
   congr 1
   grind [ei,hp,fV]
  |false=>
   simp only[hb,cond_false]at h;cases hs:QF b x σ with
   |none=>simp[hs]at h
   |some σ1=>
    simp only[hs]at h;have:=Ht r _ _ h;rw[←this];show cw (ei (hp σ) b x) r=_
    congr 1
    funext n
    obtain⟨s1,s2,s3⟩:=Qcs hs;unfold ei hp;rw[s3 n]
section
variable {P:Program} {GL:ar}
def yK(GL:ar)(w0:World)(L:Ln)(n:Nat)(g:Gm)(K:Frame→List ab→Log→Prop)(a:Act)(w:World):Prop:=
 ∃g' ρ σ lg,g.Le g'∧bx GL w0 L g' (hp σ) w∧cR n g' ρ a∧K ρ σ lg
theorem Ck{H:Prop}(hH:H){x y:aa}(h:yT H x y){g:Gm}{v:Value}(d:g.den x v):g.den y v:=by
 rcases h with rfl|⟨cs,rfl,h2⟩
 ·exact d
 ·cases d with
  |when _ _ _ _ h3 _=>exact h3 (h2 hH)
theorem Gt{H:Prop}(hH:H){g:Gm}:∀ {xs ys:List aa} {vs:List Value},lL (yT H) xs ys→dM g xs vs→dM g ys vs
 |[],[],[],_,_=>trivial
 |[],[],_::_,_,d=>d.elim
 |_::_,_::_,[],_,d=>d.elim
 |_::_,_::_,_::_,⟨h1,h2⟩,⟨d1,d2⟩=>⟨Ck hH h1 d1,Gt hH h2 d2⟩
theorem HH{w0:World}{L:Ln}{g:Gm}{h:Hp}{w:World}(r:bx GL w0 L g h w){n:Nat}{ρ:Frame}{a:Act}(d:cR n g ρ a):∀ {os:List Operand} {xs:List se},lL (kR GL) os xs→dM g (xs.map (ev ρ)) (os.map a.eval)
 |[],[],_=>trivial
 |_::_,_::_,⟨h1,h2⟩=>⟨cR.opd r d h1,HH r d h2⟩
theorem cR.cz{n:Nat}{g:Gm}{ρ:Frame}{a:Act}(h:cR n g ρ a){d:Option Nat}(hd:∀t,d=some t→t<n){x:aa}{v:Value}(hx:g.den x v):cR n g (cz d x ρ) (a.put d v):=by
 cases d with
 |none=>exact h
 |some t=>
  have:=h.put (hd t rfl) hx;refine⟨this.size,λs=>?_,this.defers⟩;have hs:=this.slot s;rw[XS]at hs;rw[X6]
  grind
theorem Out.upon{w0:World}{L:Ln}{g:Gm}{h':Hp}{x:aa}{res:Result Next}(ho:Out P GL w0 L g h' x res){o:Oper}{a:Act}{next:Act→World→Prop}{Q:Exit→Act→World→Prop}
 (hk:∀g' u w',g.Le g'→bx GL w0 L g' h' w'→g'.den x u→next (a.put o.dst u) w'):o.upon P a next Q res:=by
 cases res with
 |halt x w=>exact ho.elim
 |ok nx w=>
  cases nx with
  |value u=>obtain⟨g',h1,h2,h3⟩:=ho;exact hk g' u w h1 h2 h3
  |skip=>obtain⟨g',h1,h2,h3⟩:=ho;subst h3;exact hk g' undef w h1 h2 (.aQ _ _)
  |enter f args=>
   refine zDN ho ?_
   grind
  |_=>exact ho.elim
theorem Xt{n:Nat}{ops:Array Oper}{o:Oper}{m:aM}(ok:gf P GL n ops o m){ρ:Frame}{g:Gm}{a:Act}(d:cR n g ρ a){cs:List (Bool×Bool)}(hg:dD ρ m.guard cs) :
  (eE cs→zCm o (yielded ops a.tmps)=true)∧(¬eE cs→zCm o (yielded ops a.tmps)=false):=by
 have rq:=ok.guard;unfold zCm;cases h1:m.guard with
 |none=>
  rw[h1]at hg rq;cases hg;cases h2:o.guard<;>simp_all [eE]
 |some sw=>
  obtain⟨s,w⟩:=sw;rw[h1]at hg rq;cases h2:o.guard with
  |none=>simp[h2]at rq
  |some jw=>
   obtain⟨j,w'⟩:=jw;simp only[h2]at rq;obtain⟨rfl,hs⟩:=rq;have kZ:=d.slot s;have hy:∀v,a.tmps.getD s undef=v→yielded ops a.tmps j=match v with | .bool b=>some b|_=>none:=by
    intro v hv;unfold yielded;rw[hs];simp only[Option.bind_some];by_cases b_:s<a.tmps.size
    ·rw[zBD b_];have:a.tmps[s]=v:=by simp_all
     rw[this];cases v<;>rfl
    grind [undef]
   show (eE cs→(yielded ops a.tmps j==some _)=true)∧(¬eE cs→(yielded ops a.tmps j==some _)=false);cases hg with
   |bool _ _ c hc=>
    rw[hc]at kZ;have hv:=ZD kZ;simp_all [eE]
   |when _ _ c cs hc=>
    rw[hc]at kZ;cases kZ with
    |when _ _ _ _ h3 h4=>
    constructor
    ·intro h;have hv:=ZD (h3 (λp hp=>h p (by simp[hp])));rw[hy _ hv];have:=h (c,w') (by simp);simp at this;simp[this]
    ·intro h;by_cases gu:eE cs
     ·have hv:=ZD (h3 gu);rw[hy _ hv];simp;intro e;exact h (λp hp=>by
       rcases List.mem_append.1 hp with h1|h1
       ·exact gu p h1
       ·simp at h1;subst h1;exact e)
     ·have hv:=h4 gu;rw[hy _ hv];simp[undef]
theorem Ca.upon{w0:World}{L:Ln}{g:Gm}{R:KT}{res:Result Next}(ho:Ca P GL w0 L g R res){o:Oper}{a:Act}{next:Act→World→Prop}{Q:Exit→Act→World→Prop}
 (hk:∀g' x σ' u w',R x σ'→g.Le g'→bx GL w0 L g' (hp σ') w'→g'.den x u→next (a.put o.dst u) w'):o.upon P a next Q res:=by
 cases res with
 |halt x w=>exact ho.elim
 |ok nx w=>
  cases nx with
  |value u=>obtain⟨g',x,σ',h0,h1,h2,h3⟩:=ho;exact hk g' x σ' u w h0 h1 h2 h3
  |skip=>obtain⟨g',σ',h0,h1,h2⟩:=ho;exact hk g' .aQ σ' undef w h0 h1 h2 (.aQ _ _)
  |enter f args=>
   refine zDN ho ?_
   grind
  |_=>exact ho.elim
theorem Wv{fl:Bool}{n:Nat}{ops:Array Oper}{o:Oper}{m:aM}(ok:gf P GL n ops o m){ρ:Frame}{σ:List ab}{lg:Log}{K:Frame→List ab→Log→Prop}(s:eF fl P GL m ρ σ lg K){w0:World}{L:Ln}{g:Gm}{w:World}(r:bx GL w0 L g (hp σ) w){a:Act}(d:cR n g ρ a)
 (next:Act→World→Prop)(Q:Exit→Act→World→Prop)(hn:∀a' w',yK GL w0 L n g K a' w'→next a' w') :
  if zCm o (yielded ops a.tmps)then o.wp P a w next Q∨(o.asks P a w∧LetsOut Q)else next (a.put o.dst undef) w:=by
 obtain⟨os,kV,uT⟩:=ok.op;have l_:=HH r d uT;cases s with
 |run cs ys v rd up σ' h1 h2 h3 h4 h5 h6=>
  rw[aJ ((Xt ok d h1).1 h2)];left;have c7:=Gt trivial h3 l_;have ho:=h4 o os kV w0 L g (hp σ) w a r c7 (λ_ _=>rfl) (λ_ _=>rfl);rw[Ht up σ σ' h5]at ho;refine ho.upon (λg' u w' hle hr hu=>hn _ _ ⟨g',_,σ',_,hle,hr,?_,h6⟩);rw[ok.dst];exact(d.mono hle).cz ok.lt hu
 |skip cs h1 h2 h3=>
  rw[aE (by rw[(Xt ok d h1).2 h2];simp)];refine hn _ _ ⟨g,_,σ,_,Gm.Le.refl g,r,?_,h3⟩;rw[ok.dst];exact d.cz ok.lt (.aQ _ _)
 |lazy cs ys v rd h1 h2 h3 h4=>
  by_cases hh:eE cs
  ·rw[aJ ((Xt ok d h1).1 hh)];left;have c7:=Gt hh h2 l_;have ho:=h3 hh o os kV w0 L g (hp σ) w a r c7 (λ_ _=>rfl) (λ_ h=>by cases h);refine ho.upon (λg' u w' hle hr hu=>hn _ _ ⟨g',_,σ,_,hle,hr,?_,h4⟩);rw[ok.dst];exact(d.mono hle).cz ok.lt (.when _ _ _ _ (λ_=>hu) (λh=>(h hh).elim))
  ·rw[aE (by rw[(Xt ok d h1).2 hh];simp)];refine hn _ _ ⟨g,_,σ,_,Gm.Le.refl g,r,?_,h4⟩;rw[ok.dst];exact d.cz ok.lt (.when _ _ _ _ (λh=>(hh h).elim) (λ_=>rfl))
 |pick cs x y z c p q v h1 hk zY hx hy hz hv h8=>
  rw[zY]at l_;have lp:=kV;rw[hk]at lp;generalize hY:o.op=op at lp;cases lp with
  |pick oc oa ob=>
   obtain⟨d1,d2,d3,_⟩:=l_;by_cases hh:eE cs
   ·rw[aJ ((Xt ok d h1).1 hh)];left;have e1:=ZD (Ck hh hx d1);have nB:g.den (.bool (bif c then p else q)) (if c then a.eval oa else a.eval ob):=by
     cases c
     ·exact Ck ⟨hh,rfl⟩ hz d3
     ·exact Ck ⟨hh,rfl⟩ hy d2
    have ba:(execOp a.eval o).run P w=.ok (.value (if c then a.eval oa else a.eval ob)) w:=by
     simp_all [execOp,asBool]
    unfold Oper.wp;rw[ba];refine hn _ _ ⟨g,_,σ,_,Gm.Le.refl g,r,?_,h8⟩;rw[ok.dst];rcases hv with rfl|⟨rfl,rfl⟩
    ·exact d.cz ok.lt (.when _ _ _ _ (λ_=>nB) (λh=>(h hh).elim))
    ·exact d.cz ok.lt nB
   ·rw[aE (by rw[(Xt ok d h1).2 hh];simp)];refine hn _ _ ⟨g,_,σ,_,Gm.Le.refl g,r,?_,h8⟩;rw[ok.dst];rcases hv with rfl|⟨rfl,rfl⟩
    ·exact d.cz ok.lt (.when _ _ _ _ (λh=>(hh h).elim) (λ_=>rfl))
    ·exact(hh (by simp[eE])).elim
 |rel cs ys R h0 h1 h2 h3 h4 h5=>
  rw[aJ ((Xt ok d h1).1 h2)];left;have c7:=Gt trivial h3 l_;refine(h4 o os kV w0 L g w a r c7).upon (λg' x σ' u w' hR hle hr hu=>hn _ _ ⟨g',_,σ',_,hle,hr,?_,h5 x σ' hR⟩);rw[ok.dst];exact(d.mono hle).cz ok.lt hu
theorem MR{fl:Bool}{n:Nat}{ops:Array Oper}{w0:World}{L:Ln}(Q:Exit→Act→World→Prop)(K:Frame→List ab→Log→Prop):∀(ms:List aM) (i:Nat) (ρ:Frame) (σ:List ab) (lg:Log) (g:Gm) (a:Act) (w:World),
  (∀(j:Nat) (m:aM),ms[j]?=some m→∃o,ops[i+j]?=some o∧gf P GL n ops o m)→iU fl P GL ms ρ σ lg K→bx GL w0 L g (hp σ) w→cR n g ρ a →
  (∀a' w',yK GL w0 L n g K a' w'→Q .normal a' w')→wpOps P ops Q (zBG i ms.length) a w
 |[],i,ρ,σ,lg,g,a,w,_,hw,r,d,hq=>hq a w ⟨g,ρ,σ,lg,Gm.Le.refl g,r,d,hw⟩
 |m::ms,i,ρ,σ,lg,g,a,w,bQ,hw,r,d,hq=>by
  obtain⟨o,ho,ok⟩:=bQ 0 m rfl;rw[zBj]at ho;simp only[IS,zDF,wpOps,ho];refine Wv ok hw r d _ Q (λa' w' ⟨g',ρ',σ',jF,hle,hr,hd,hk⟩=>?_);exact MR Q K ms (i + 1) ρ' σ' jF g' a' w' (λj m' e=>by
   have:=bQ (j+1) m' (by simpa using e)
   rwa [show i + (j + 1)=i + 1 + j by omega]at this) hk hr hd (λa2 w2 ⟨g2,ρ2,σ2,lg2,lr,Hb,sm,sr⟩=>hq a2 w2 ⟨g2,ρ2,σ2,lg2,hle.trans lr,Hb,sm,sr⟩)
end
end Go.Ah
end
section
namespace Go.Ah
section
variable {P:Program} {GL:ar}
theorem ZQ{σ:List ab}{b:Nat}{row:List aa}(h:aj σ b=.box row):hp σ b=some (.box row):=Q6 h (by simp)
theorem Ia{σ:List ab}{b:Nat}{es:List (aa×aa)}(h:aj σ b=.map es):hp σ b=some (.map es):=Q6 h (by simp)
theorem Xh{b:Bool}{x:aA}{v:aa}{rd:List Nat}{up:List (Nat×ab)}(h:(bif b then x else .stop)=.ok v rd up):b=true∧x=.ok v rd up:=by
 grind
theorem Pj{k:MK}{xs:List aa}{σ:List ab}{v:aa}{rd:List Nat}{up:List (Nat×ab)}(h:rQ k xs σ=.ok v rd up):aD P GL k xs (hp σ) v rd up:=by
 cases k<;>simp only[rQ,qM,Sc,Qs,tL,QM,Yp,YO,Pg,Pp,Xl,Ym,RF,Cx,tH,GM,XF,YT,XO,Xb,Z8,Yk,Rw,Xi,Qn,ZT,MU,PX,HJ,Ic,P7,ZO,R0]at h
 case mv=>split at h<;>cases h;exact Rs _ _
 case pick=>split at h<;>cases h;exact ZdU _ _ _ _
 case alloc z=>split at h<;>cases h;exact Qds _ _ _ (yd σ)
 case box=>
  split at h
  ·split at h
   ·rename_i hc;cases h;exact Qee _ _ hc _ _ (yd σ)
   ·cases h
  ·cases h
 case build z ps=>
  split at h
  ·rename_i hf;cases h;exact Zdt _ _ _ _ hf _
  ·cases h
 case mF sz n z ps=>
  split at h
  ·rename_i hf;split at h
   ·rename_i hc;cases h;exact YcU _ _ _ _ _ _ _ hf hc _ _ (yd σ)
   ·cases h
  ·cases h
 case lP sz=>split at h<;>cases h;exact Qcr _ _
 case load agg n=>
  split at h
  ·split at h
   ·rename_i hb;split at h
    ·rename_i hv;cases h;exact Zcd _ _ _ _ _ _ _ (ZQ hb) hv
    ·cases h
   ·cases h
  ·split at h
   ·rename_i hv;cases h;exact Ycd _ _ _ _ _ _ hv
   ·cases h
  ·cases h
 case store n=>
  split at h
  ·split at h
   ·rename_i hb;split at h
    ·rename_i hc
     replace h:=Xh h;obtain⟨hbq,h⟩:=h
     split at h
     ·rename_i hs;cases h;exact Zdv _ _ _ _ _ _ _ _ (ZQ hb) hc (fV hbq) hs
     ·cases h
    ·cases h
   ·cases h
  ·cases h
 case nilCheck=>
  split at h<;>cases h
  ·exact ZZ _ (.inl ⟨_,_,rfl⟩) _
  ·exact ZZ _ (.inr (.inl ⟨_,_,_,rfl⟩)) _
  ·exact ZZ _ (.inr (.inr (.inl ⟨_,_,rfl⟩))) _
  ·exact ZZ _ (.inr (.inr (.inr (.inl ⟨_,_,_,rfl⟩)))) _
  ·exact ZZ _ (.inr (.inr (.inr (.inr ⟨_,_,rfl⟩)))) _
 case bin op ib=>
  split at h
  ·rename_i k a k' b;split at h
   ·rename_i hv;cases h;cases hk:jU k k'<;>rw[hk]at hv
    ·cases hv
    ·have:=yW hk;subst this;exact ZdS _ _ _ _ _ _ hv _
   ·split at h
    ·rename_i hv;cases h;exact YdS _ _ _ _ _ _ _ hv _
    ·cases h
  ·split at h
   ·cases h;exact XcJ _ _ _ _ false rfl _
   ·cases h;exact XcJ _ _ _ _ true rfl _
   ·replace h:=Xh h;obtain⟨hk,h⟩:=h
    cases h;exact QdR _ _ _ hk _
   ·cases h
  ·replace h:=Xh h;obtain⟨hk,h⟩:=h
   subst hk;split at h<;>cases h
   ·exact YcJ _ _ _ false rfl _
   ·exact YcJ _ _ _ true rfl _
  ·cases h
 case oe c neq left=>
  split at h
  ·split at h
   ·rename_i hb;cases h;exact Qdt _ _ _ _ _ _ hb _
   ·cases h
  ·cases h
 case Bs neq ls=>
  split at h
  ·split at h
   ·rename_i hb;cases h;exact Zef _ _ _ _ _ hb _
   ·cases h
  ·cases h
 case un op=>
  split at h
  ·split at h<;>cases h;exact QcW _ _
  ·split at h<;>cases h
   ·exact XcW _ _ _
   ·exact ZcX _ _ _
  ·cases h
 case conv k=>split at h<;>cases h;exact QdS _ _ _ _
 case jc t=>split at h<;>cases h;exact Xcs _ _ _
 case j_ fn n=>
  split at h
  ·rename_i ht;cases h;obtain⟨t1,t2,t3⟩:=RD ht;rename_i a;have hx:xs=a++jb n xs:=by
    rw[Nh];have:a=xs.take n:=by
     apply List.ext_getElem?;intro i;by_cases hi:i<n
     ·rw[t3 i hi,zDV hi]
     ·rw[zCd (by omega),zCd (by simp;omega)]
    rw[this,List.take_append_drop]
   have:=QcV (P:=P) (GL:=GL) fn n a (jb n xs) t1 (hp σ)
   rwa [←hx]at this
  ·cases h
 case makeMap=>split at h<;>cases h;exact Ycs _ _ (yd σ)
 case fieldAddr off=>
  split at h<;>cases h
  ·exact Pr _ _ _ (.inl ⟨_,_,rfl,rfl⟩) _
  ·exact Pr _ _ _ (.inr (.inl ⟨_,_,_,rfl,rfl⟩)) _
  ·exact Pr _ _ _ (.inr (.inr ⟨_,_,rfl,rfl⟩)) _
 case field agg off n=>
  split at h
  ·split at h
   ·rename_i hv;cases h;exact Zdu _ _ _ _ _ hv _
   ·cases h
  ·cases h
 case gR len mT=>
  split at h
  ·replace h:=Xh h;obtain⟨hb,h⟩:=h
   cases h;exact P_ _ _ _ _ _ _ (ik hb) (.inl ⟨_,_,rfl,rfl⟩) _
  ·replace h:=Xh h;obtain⟨hb,h⟩:=h
   cases h;exact P_ _ _ _ _ _ _ (ik hb) (.inr (.inl ⟨_,_,_,rfl,rfl⟩)) _
  ·replace h:=Xh h;obtain⟨hb,h⟩:=h
   cases h;exact P_ _ _ _ _ _ _ (ik hb) (.inr (.inr ⟨_,_,rfl,rfl⟩)) _
  ·cases h
 case rI agg len mT=>
  split at h
  ·replace h:=Xh h;obtain⟨hb,h⟩:=h
   split at h
   ·rename_i hv;cases h;exact ZdT _ _ _ _ _ _ _ (ik hb) hv _
   ·cases h
  ·cases h
 case extract i=>
  split at h
  ·split at h
   ·rename_i hv;cases h;rw[Y7]at hv;exact Zcs _ _ _ hv _
   ·cases h
  ·cases h
 case rN=>
  split at h<;>cases h
  ·exact M3 _ _ (.inl ⟨rfl,rfl⟩) _
  ·exact M3 _ _ (.inr (.inl ⟨rfl,rfl⟩)) _
  ·exact M3 _ _ (.inr (.inr (.inl ⟨_,_,_,_,rfl,rfl⟩))) _
  ·exact M3 _ _ (.inr (.inr (.inr ⟨_,_,_,_,rfl,rfl⟩))) _
 case j9=>split at h<;>cases h;exact ZcV _ _
 case rM n=>split at h<;>cases h;exact YdT _ _ _
 case mK=>
  split at h
  ·cases h;exact Ycc _
  ·split at h
   ·rename_i hb;cases h;exact Xcc _ _ _ (Ia hb)
   ·cases h
  ·cases h;exact Qcc _ _
  ·cases h
 case min2=>split at h<;>cases h;exact QdT _ _ _ _ _
 case max2=>split at h<;>cases h;exact XdT _ _ _ _ _
 case range=>split at h<;>cases h;exact Qdu _ _ _ (yd σ)
 case fN t ok z=>
  split at h
  ·rename_i u v0;cases hb:IN u t with
   |true=>
    rw[hb]at h;have:=fV hb;subst this;cases h;exact(Pk _ _ _ _ 0 _).1
   |false=>
    rw[hb]at h
    replace h:=Xh h;obtain⟨bQ,h⟩:=h
    subst bQ;cases h;exact(Pk _ true _ _ _ _).2.1 (λe=>by rw[e,zBf]at hb;cases hb)
  ·replace h:=Xh h;obtain⟨bQ,h⟩:=h
   subst bQ;cases h;exact(Pk _ true _ .aQ 0 _).2.2
  ·cases h
 case gJ o0=>
  split at h
  ·replace h:=Xh h;obtain⟨bQ,h⟩:=h
   cases h;exact Xcr _ _ _ _ (W3 bQ)
  ·cases h;exact Zcc _ _
  ·cases h
 all_goals cases h
end
def vB{α β:Type}:List α→(List α→β)→β
 |[],k=>k []
 |x::l,k=>vB l λl=>k (x::l)
theorem IE{α β:Type}:∀(l:List α) (k:List α→β),vB l k=k l
 |[],_=>rfl
 |x::l,k=>IE l λl=>k (x::l)
abbrev Cons:=List (List (Bool×Bool)×(Bool×Bool))
def AG(c:Cons):Prop:=∀p∈c,eE p.1→p.2.1=p.2.2
inductive Pf where
 |done (ρ:Frame) (σ:List ab) (lg:Log) (c:Cons)
 |stop (rest:List aM) (ρ:Frame) (σ:List ab) (lg:Log) (c:Cons)
theorem AG.map{G cs:List (Bool×Bool)}(h:AG (cs.map λq=>(G,q)))(hG:eE G):eE cs:=λp hp=>h (G,p) (List.mem_map.2 ⟨p,hp,rfl⟩) hG
def Cj(P:Program)(GL:ar)(step:MK→List aa→List ab→aA):Prop:=∀ {k:MK} {xs:List aa} {σ:List ab} {v:aa} {rd:List Nat} {up:List (Nat×ab)},step k xs σ=.ok v rd up→aD P GL k xs (hp σ) v rd up
end Go.Ah
end
section
namespace Go.Ah
inductive dd where
 |skip
 |region (id:Nat) (ms:List aM) (draw:Option (List (List Nat)))
 |seq (a b:dd)
 |cond (c:se) (a b:dd)
 |block (id:Nat) (a:dd)
 |loop (a:dd)
 |exit (id:Nat)
 |scope (a:dd)
 |label (l:Nat)
 |ret
 deriving Inhabited
def Qv(lg:Log)(i:Nat):List Nat×List Nat:=(lg[i]?).getD ([],[])
def dZ:List Nat→List Nat→Bool
 |[],_=>true
 |x::a,b=>!(b.contains x)&&dZ a b
def Zn(hd:List (List Nat))(i:Nat):List Nat:=(hd[i]?).getD []
def cf(p q:List Nat×List Nat):Bool:=dZ p.1 q.2&&(dZ p.2 q.1&&dZ p.2 q.2)
def Xn(h:List Nat)(q:List Nat×List Nat):Nat→Log→Bool
 |_,[]=>true
 |i,p::r=>(h.contains i||cf p q)&&Xn h q (i+1) r
def Zj(hd:List (List Nat))(lg:Log):Bool:=
 (zAC lg.length).all λj=>Xn (Zn hd j) (Qv lg j) 0 (lg.take j)
def waits(o:Oper):List Nat:=(o.after.toList.filter (Region.binds .any)).map (·.on)
def iQ(m:aM):List Nat:=(m.xs.filterMap fun | .t n=>some n | .c _=>none)++(match m.guard with|some (s,_)=>[s]|none=>[])
def eJ(m:aM):List Nat:=m.dst.toList
def yM(ops:List Oper)(ms:List aM)(hd:List (List Nat)):Bool:=
 let idx:=zAC ms.length
 IN ops.length ms.length&&IN hd.length ms.length &&
 (idx.all λj=>(waits (ops.getD j default)).all λi=>zAi i j) &&
 (idx.all λj=>(Zn hd j).all λi=>zAi i j&&((waits (ops.getD j default)).contains i||(waits (ops.getD j default)).any λk=>(Zn hd k).contains i)) &&
 (idx.all λj=>(zAC j).all λi=>
  let a:=ms.getD i default
  let b:=ms.getD j default
  (Zn hd j).contains i || (dZ (eJ a) (iQ b) && dZ (eJ a) (eJ b) && dZ (iQ a) (eJ b)))
inductive cD (P:Program) (GL:ar) (n:Nat):Code→dd→Prop
 |skip:cD P GL n .skip .skip
 |region (id:Nat) (ops:Array Oper) (ms:List aM):ops.size=ms.length→(∀(j:Nat) (m:aM),ms[j]?=some m→∃o,ops[j]?=some o∧gf P GL n ops o m)→cD P GL n (.region id ops false) (.region id ms none)
 |draw (id:Nat) (ops:Array Oper) (ms:List aM) (hd:List (List Nat)):ops.size=ms.length→(∀(j:Nat) (m:aM),ms[j]?=some m→∃o,ops[j]?=some o∧gf P GL n ops o m)→yM ops.toList ms hd=true →
   cD P GL n (.region id ops true) (.region id ms (some hd))
 |seq (a b:Code) (x y:dd):cD P GL n a x→cD P GL n b y→cD P GL n (.seq a b) (.seq x y)
 |cond (c:Operand) (d:se) (a b:Code) (x y:dd):kR GL c d→cD P GL n a x→cD P GL n b y→cD P GL n (.cond c a b) (.cond d x y)
 |block (id:Nat) (a:Code) (x:dd):cD P GL n a x→cD P GL n (.block id a) (.block id x)
 |loop (a:Code) (x:dd):cD P GL n a x→cD P GL n (.loop a) (.loop x)
 |exit (id:Nat):cD P GL n (.exit id) (.exit id)
 |scope (a:Code) (x:dd):cD P GL n a x→cD P GL n (.scope a) (.scope x)
 |label (l:Nat):cD P GL n (.label l) (.label l)
 |ret:cD P GL n .ret .ret
inductive Ho where
 |normal
 |exit (id:Nat)
 |ret
abbrev eD:=Ho→Frame→List ab→Prop
def nL(GL:ar)(w0:World)(L:Ln)(n:Nat)(g:Gm)(Q:eD):Exit→Act→World→Prop
 |.normal,a,w=>∃g' ρ σ,g.Le g'∧bx GL w0 L g' (hp σ) w∧cR n g' ρ a∧Q .normal ρ σ
 |.exit id,a,w=>∃g' ρ σ,g.Le g'∧bx GL w0 L g' (hp σ) w∧cR n g' ρ a∧Q (.exit id) ρ σ
 |.ret,a,w=>∃g' ρ σ,g.Le g'∧bx GL w0 L g' (hp σ) w∧cR n g' ρ a∧Q .ret ρ σ
 |_,_,_=>False
theorem nL.mono{GL:ar}{w0:World}{L:Ln}{n:Nat}{g g':Gm}(hg:g.Le g'){Q Q':eD}(h:∀e ρ σ,Q e ρ σ→Q' e ρ σ):∀(e:Exit) (a:Act) (w:World),nL GL w0 L n g' Q e a w→nL GL w0 L n g Q' e a w:=by
 intro e a w hl;cases e<;>first
  |exact hl.elim
  |(obtain⟨g2,ρ,σ,h1,h2,h3,h4⟩:=hl;exact⟨g2,ρ,σ,hg.trans h1,h2,h3,h _ _ _ h4⟩)
def iR(P:Program)(GL:ar)(n:Nat)(m:dd)(ρ:Frame)(σ:List ab)(Q:eD):Prop:=
 ∀c,cD P GL n c m→∀(w0:World) (L:Ln) (g:Gm) (a:Act) (w:World),bx GL w0 L g (hp σ) w→cR n g ρ a→c.wp P (nL GL w0 L n g Q) a w
def eD.andThen(k:Frame→List ab→Prop)(Q:eD):eD
 |.normal,ρ,σ=>k ρ σ
 |e,ρ,σ=>Q e ρ σ
def eD.inBlock(id:Nat)(Q:eD):eD
 |.exit K3,ρ,σ=>if K3=id then Q .normal ρ σ else Q (.exit K3) ρ σ
 |e,ρ,σ=>Q e ρ σ
section
variable {P:Program} {GL:ar} {n:Nat} {ρ:Frame} {σ:List ab} {Q:eD}
theorem iR.mono{m:dd}{Q':eD}(h:iR P GL n m ρ σ Q)(hq:∀e ρ σ,Q e ρ σ→Q' e ρ σ):iR P GL n m ρ σ Q':=
 λc hc w0 L g a w r d=>wp_mono (h c hc w0 L g a w r d) (nL.mono (Gm.Le.refl g) hq)
theorem YdG(h:Q .normal ρ σ):iR P GL n .skip ρ σ Q:=by
 intro c hc w0 L g a w r d;cases hc with
 |skip=>exact wp_skip ⟨g,ρ,σ,Gm.Le.refl g,r,d,h⟩
theorem Yc5{l:Nat}(h:Q .normal ρ σ):iR P GL n (.label l) ρ σ Q:=by
 intro c hc w0 L g a w r d;cases hc with
 |label=>exact wp_label ⟨g,ρ,σ,Gm.Le.refl g,r,d,h⟩
theorem ZdG{id:Nat}(h:Q (.exit id) ρ σ):iR P GL n (.exit id) ρ σ Q:=by
 intro c hc w0 L g a w r d;cases hc with
 |exit=>exact wp_exit ⟨g,ρ,σ,Gm.Le.refl g,r,d,h⟩
theorem Xd4(h:Q .ret ρ σ):iR P GL n .ret ρ σ Q:=by
 intro c hc w0 L g a w r d;cases hc with
 |ret=>exact wp_ret ⟨g,ρ,σ,Gm.Le.refl g,r,d,h⟩
theorem Qd4{x y:dd}(h:iR P GL n x ρ σ (eD.andThen (λρ σ=>iR P GL n y ρ σ Q) Q)):iR P GL n (.seq x y) ρ σ Q:=by
 intro c hc w0 L g a w r d;cases hc with
 |seq c1 c2 _ _ h1 h2=>
  refine wp_seq (wp_mono (h c1 h1 w0 L g a w r d) (λe a' w' hl=>?_));cases e with
  |normal=>
   obtain⟨g',ρ',σ',k1,k2,k3,k4⟩:=hl;exact wp_mono (k4 c2 h2 w0 L g' a' w' k2 k3) (nL.mono k1 (λ_ _ _ q=>q))
  |_=>exact hl
theorem QdF{o:se}{b:Bool}{x y:dd}(ho:ev ρ o=.bool b)(ht:b=true→iR P GL n x ρ σ Q)(hf:b=false→iR P GL n y ρ σ Q):iR P GL n (.cond o x y) ρ σ Q:=by
 intro c hc w0 L g a w r d;cases hc with
 |cond oc _ c1 c2 _ _ hY h1 h2=>
  have hd:=cR.opd r d hY;rw[ho]at hd;exact wp_cond_split (ZD hd) (λe=>ht e c1 h1 w0 L g a w r d) (λe=>hf e c2 h2 w0 L g a w r d)
theorem Zc5{id:Nat}{x:dd}(h:iR P GL n x ρ σ (eD.inBlock id Q)):iR P GL n (.block id x) ρ σ Q:=by
 intro c hc w0 L g a w r d;cases hc with
 |block _ c1 _ h1=>
  refine wp_block (wp_mono (h c1 h1 w0 L g a w r d) (λe a' w' hl=>?_));cases e with
  |exit K3=>
   obtain⟨g',ρ',σ',k1,k2,k3,k4⟩:=hl;simp only[Exit.inBlock];simp only[eD.inBlock]at k4;split
   ·rename_i e;rw[aJ e]at k4;exact⟨g',ρ',σ',k1,k2,k3,k4⟩
   ·rename_i e;rw[aE e]at k4;exact⟨g',ρ',σ',k1,k2,k3,k4⟩
  |_=>exact hl
theorem Xc5{x:dd}(h:iR P GL n x ρ σ Q):iR P GL n (.scope x) ρ σ Q:=by
 intro c hc w0 L g a w r d;cases hc with
 |scope c1 _ h1=>
  refine wp_scope_straight (wp_mono (h c1 h1 w0 L g a w r d) (λe a' w' hl=>?_));cases e with
  |goto l=>exact hl.elim
  |_=>exact hl
theorem XcM{id:Nat}{ms:List aM}(h:iU false P GL ms ρ σ [] (λρ' σ' _=>Q .normal ρ' σ')):iR P GL n (.region id ms none) ρ σ Q:=by
 intro c hc w0 L g a w r d;cases hc with
 |region _ ops _ eL bQ=>
  refine wp_region ?_;rw[List.range_eq_range',eL];refine MR (n:=n) (w0:=w0) (L:=L) _ (λρ' σ' _=>Q .normal ρ' σ') ms 0 ρ σ [] g a w (λj m e=>by simpa using bQ j m e) h r d (λa' w' ⟨g',ρ',σ',jF,k1,k2,k3,k4⟩=>⟨g',ρ',σ',k1,k2,k3,k4⟩)
def vd(ρ ρ':Frame):Prop:=∀t,bL ρ t=bL ρ' t∨bL ρ t=.aQ
theorem cR.dY{g:Gm}{ρ ρ':Frame}{a:Act}(h:cR n g ρ' a)(hl:vd ρ ρ'):cR n g ρ a:=
 ⟨h.size,λt=>by
  rcases hl t with e|e
  ·rw[e];exact h.slot t
  ·rw[e];exact .aQ _ _,h.defers⟩
theorem XdG{m:dd}{ρ':Frame}(hl:vd ρ' ρ)(h:iR P GL n m ρ' σ Q):iR P GL n m ρ σ Q:=
 λc hc w0 L g a w r d=>h c hc w0 L g a w r (d.dY hl)
def Gw:Frame→Frame→Prop
 |[],_=>True
 |(t,v)::r,ρ=>bL ρ t=v∧Gw r ρ
theorem Gw.le:∀ {r ρ:Frame},Gw r ρ→vd r ρ
 |[],_,_,t=>.inr rfl
 |(s,v)::r,ρ,⟨h1,h2⟩,t=>by
  rw[XS];by_cases e:t=s
  ·simp_all
  ·rw[aE e];exact Gw.le h2 t
end
end Go.Ah
end
section
namespace Go.Ah
inductive RV where
 |t (n:Nat)
 |c (s:Nat) (agg:Bool) (n:Nat)
 deriving Inhabited
structure ve where
 np:Nat
 n:Nat
 body:dd
 gE:List RV
 deriving Inhabited
inductive sF (P:Program):ResultVar→RV→Prop
 |tmp (t:Nat):sF P (.tmp t) (.t t)
 |cell (s:Nat) (t:TypeId) (agg:Bool) (n:Nat):fS P t=some agg→size? P t=some n→sF P (.cell s t) (.c s agg n)
structure mA (P:Program) (GL:ar) (f:FuncId) (F:ve):Prop where
 ok:∃fn c,P.funcs[f]?=some fn∧fn.body=some c∧fn.ntmps=F.n∧cD P GL F.n c F.body∧lL (sF P) fn.results.toList F.gE
 np:F.np<=F.n
def rY(ρ:Frame)(σ:List ab):RV→Option aa
 |.t n=>some (bL ρ n)
 |.c s agg n=>match bL ρ s with
  |.ak b j=>match aj σ b with
   |.box row=>aK agg j n row
   |_=>none
  |_=>none
def oT(ρ:Frame)(σ:List ab):List RV→Option (List aa)
 |[]=>some []
 |r::rs=>match rY ρ σ r,oT ρ σ rs with
  |some v,some vs=>some (v::vs)
  |_,_=>none
def pL:List aa→aa
 |[v]=>v
 |vs=>.bp vs
def iE(rs:List RV)(ρ:Frame)(σ:List ab):Option aa:=
 match oT ρ σ rs with
 |some vs=>some (pL vs)
 |none=>none
def HM:Nat→List aa→Frame
 |_,[]=>[]
 |i,x::xs=>(i,x)::HM (i+1) xs
def eO(xs:List aa):Frame:=HM 0 xs
theorem YaB:∀(xs:List aa) (i t:Nat),bL (HM i xs) t=if i<=t then (xs[t-i]?).getD .aQ else .aQ
 |[],i,t=>by simp[HM,bL]
 |x::xs,i,t=>by
  simp only[HM,XS];by_cases h:t=i
  ·subst h;simp
  ·rw[aE h,YaB xs (i+1) t]
   grind
section
variable {P:Program} {GL:ar}
theorem X3{g:Gm}{xs:List aa}{vs:List Value}(d:dM g xs vs){n:Nat}(hn:xs.length<=n):cR n g (eO xs) { tmps:=vs.toArray++zBq (n-vs.toArray.size) undef,defers:=[] }:=by
 have hl:=d.length;refine⟨by simp;omega,λt=>?_,rfl⟩;unfold eO;rw[YaB];rw[aJ (zBB t),Nat.sub_zero];by_cases ht:t<xs.length
 ·have hx:xs[t]?=some xs[t]:=by simp[ht]
  have hv:vs[t]?=some (vs[t]'(by omega)):=by simp[show t<vs.length by omega]
  rw[hx];have:(vs.toArray++zBq (n-vs.toArray.size) undef).getD t undef=vs[t]'(by omega):=by
   rw[zBU,Array.getElem?_append_left (by grind)];simp[show t<vs.length by omega]
  rw[this];exact d.get t _ _ hx hv
 ·rw[zCd (by omega)];exact .aQ _ _
def HT(a:Act)(r:ResultVar):Sem Value:=match r with
 |.tmp t=>pure (a.tmps.getD t undef)
 |.cell s t=>do loadVar t (←asAddr (a.tmps.getD s undef))
theorem Xdr{n:Nat}{w0:World}{L:Ln}{g:Gm}{ρ:Frame}{σ:List ab}{a:Act}{w:World}(r:bx GL w0 L g (hp σ) w)(d:cR n g ρ a):∀ {rs:List ResultVar} {qs:List RV} {vs:List aa},lL (sF P) rs qs→oT ρ σ qs=some vs →
  ∃us:List Value,(rs.mapM (HT a)).run P w=.ok us w∧dM g vs us
 |[],[],vs,_,h=>by simp only[oT]at h;cases h;exact⟨[],rfl,trivial⟩
 |rv::rs,q::qs,vs,⟨h1,h2⟩,h=>by
  simp only[oT]at h;cases e1:rY ρ σ q with
  |none=>simp[e1]at h
  |some v=>
   cases e2:oT ρ σ qs with
   |none=>simp[e1,e2]at h
   |some MD=>
    simp only[e1,e2]at h;cases h;obtain⟨us,k1,k2⟩:=Xdr r d h2 e2;cases h1 with
    |tmp t=>
     simp only[rY]at e1;cases e1;refine⟨a.tmps.getD t undef::us,?_,d.slot t,k2⟩;simp_all [HT]
    |cell s t agg m ha hm=>
     simp only[rY]at e1;have hs:=d.slot s;split at e1
     ·rename_i b j hb;rw[hb]at hs;split at e1
      ·rename_i row dN;have cj:=ZQ dN;generalize hu:a.tmps.getD s undef=u0 at hs;cases hs with
       |ak _ _ _ cb ec=>
       cases bW:cb.cK with
       |true=>have:=r.bc b _ cb cj rfl ec bW;cases this
       |false=>
       obtain⟨_,_,o',fO,arr,T,rfl,eL,c7⟩:=r.own b _ cb cj rfl ec bW;obtain⟨p1,p2⟩:=ID (g:=g) e1 (by omega) c7;obtain⟨l1,l2⟩:=P1 (P:=P) ha hm (T:=T) (fr:=(0,0)) (Q4 fO) j;have:∃u,(loadVar t ⟨cb.blk,j,none⟩).run P w=.ok u w∧g.den v u:=by
        cases agg<;>grind
       obtain⟨u,q1,q2⟩:=this;refine⟨u::us,?_,q2,k2⟩;simp_all [HT,asAddr]
      ·cases e1
     ·cases e1
theorem GN{n:Nat}{w0:World}{L:Ln}{g:Gm}{ρ:Frame}{σ:List ab}{a:Act}{w:World}(r:bx GL w0 L g (hp σ) w)(d:cR n g ρ a){fn:Func}{qs:List RV}{v:aa}(h:lL (sF P) fn.results.toList qs)(hv:iE qs ρ σ=some v) :
  ∃u,(results fn a.tmps).run P w=.ok u w∧g.den v u:=by
 unfold iE at hv;cases hl:oT ρ σ qs with
 |none=>simp[hl]at hv
 |some vs=>
  simp only[hl]at hv;cases hv;obtain⟨us,k1,k2⟩:=Xdr (P:=P) r d h hl;have hm:(fn.results.mapM (HT a)).run P w=.ok us.toArray w:=by
   simp_all [Array.mapM_eq_mapM_toList]
  have hlen:=k2.length;refine⟨if h:us.toArray.size=1 then us.toArray[0]else .tuple us.toArray,?_,?_⟩
  ·unfold results;rw[OF];refine Eq.trans (congrArg (λr=>Result.andThen r _) (Eq.trans (?_:_=(fn.results.mapM (HT a)).run P w) hm)) rfl
   congr 2
  ·cases vs with
   |nil=>
    have:us=[]:=zAW.1 (by simpa using hlen.symm);subst this;exact .bp _ _ _ rfl (by simp)
   |cons x xs=>
    cases us with
    |nil=>simp at hlen
    |cons u us=>
     cases xs with
     |nil=>
      have:us=[]:=zAW.1 (by simpa using hlen.symm);subst this;exact k2.1
     |cons y ys=>
      rw[dif_neg (by grind)];exact .bp _ _ _ (by simpa using hlen.symm) (λi z z' e1 e2=>k2.get i z z' e1 (by simpa using e2))
theorem Y_{f:FuncId}{F:ve}(ok:mA P GL f F){xs:List aa}(hn:xs.length=F.np){v:aa}(hv:v.ro=true)
 (h:iR P GL F.n F.body (eO xs) [] (λe ρ σ=>(e=.normal∨e=.ret)∧iE F.gE ρ σ=some v)):dK P GL f xs v:=by
 intro w M vs hM hg hx;obtain⟨fn,c,h1,h2,h3,h4,h5⟩:=ok.ok;have r0:=bx.start (GL:=GL) w M hM hg;have hh:hp []=oQ:=by funext b;simp[hp,oQ]
 rw[←hh]at r0;have d0:=X3 hx (n:=F.n) (by rw[hn];exact ok.np);refine calls_of_wp h1 h2 ?_;rw[h3];refine wp_mono (h c h4 w ⟨[],M⟩ _ _ w r0 d0) (λe a' w' hl=>?_);have fin:∀g' ρ σ,(⟨M,bA⟩:Gm).Le g'→bx GL w ⟨[],M⟩ g' (hp σ) w'→cR F.n g' ρ a'→iE F.gE ρ σ=some v→∃u,(results fn a'.tmps).run P w'=.ok u w'∧(∃u',zCV u=.returned u'∧i7 ⟨[],M⟩ w w'∧∃M',i9 M M'∧(∀b o,M' b=some o→w'.heap[b]?=some o)∧(∀b o,M' b=some o→M b=some o∨w.heap.size<=b)∧Den M' bA v u'):=by
  intro g' ρ σ hle hr hd oH;obtain⟨u,k1,k2⟩:=GN hr hd h5 oH;exact⟨u,k1,u,rfl,hr.keeps,g'.M,hle.m,hr.aX,λb o e=>by
   rcases hr.src b o e with q | q | q <;> simp_all,Den.ro k2 hv _⟩
 cases e with
 |normal=>obtain⟨g',ρ,σ,k1,k2,k3,k4⟩:=hl;exact⟨k3.defers,fin g' ρ σ k1 k2 k3 k4.2⟩
 |ret=>obtain⟨g',ρ,σ,k1,k2,k3,k4⟩:=hl;exact⟨k3.defers,fin g' ρ σ k1 k2 k3 k4.2⟩
 |exit id=>obtain⟨g',ρ,σ,k1,k2,k3,k4⟩:=hl;rcases k4.1 with q|q<;>cases q
 |_=>exact hl.elim
theorem Ps{f:FuncId}{F:ve}(ok:mA P GL f F){xs:List aa}(hn:xs.length=F.np){σ:List ab}{R:KT}
 (h:iR P GL F.n F.body (eO xs) σ (λe ρ σ'=>(e=.normal∨e=.ret)∧∃v,iE F.gE ρ σ'=some v∧R v σ')) :
  ∀(w0:World) (L:Ln) (g:Gm) (w:World) (vs:List Value),bx GL w0 L g (hp σ) w→dM g xs vs→Calls P f vs.toArray w λe xW=>∃u,e=.returned u∧∃g' x σ',R x σ'∧g.Le g'∧bx GL w0 L g' (hp σ') xW∧g'.den x u:=by
 intro w0 L g w vs r hx;obtain⟨fn,c,h1,h2,h3,h4,h5⟩:=ok.ok;have d0:=X3 hx (n:=F.n) (by rw[hn];exact ok.np);refine calls_of_wp h1 h2 ?_;rw[h3];refine wp_mono (h c h4 w0 L g _ w r d0) (λe a' w' hl=>?_);have fin:∀g' ρ σ',g.Le g'→bx GL w0 L g' (hp σ') w'→cR F.n g' ρ a'→(∃v,iE F.gE ρ σ'=some v∧R v σ')→∃u,(results fn a'.tmps).run P w'=.ok u w'∧(∃u',zCV u=.returned u'∧∃g' x σ',R x σ'∧g.Le g'∧bx GL w0 L g' (hp σ') w'∧g'.den x u'):=by
  rintro g' ρ σ' hle hr hd ⟨v,oH,hR⟩;obtain⟨u,k1,k2⟩:=GN hr hd h5 oH
  grind
 cases e with
 |normal=>obtain⟨g',ρ,σ',k1,k2,k3,k4⟩:=hl;exact⟨k3.defers,fin g' ρ σ' k1 k2 k3 k4.2⟩
 |ret=>obtain⟨g',ρ,σ',k1,k2,k3,k4⟩:=hl;exact⟨k3.defers,fin g' ρ σ' k1 k2 k3 k4.2⟩
 |exit id=>obtain⟨g',ρ,σ',k1,k2,k3,k4⟩:=hl;rcases k4.1 with q|q<;>cases q
 |_=>exact hl.elim
end
end Go.Ah
end
section
namespace Go.Ah
section
variable {P:Program} {GL:ar}
theorem bx.jB{w0:World}{L:Ln}{g:Gm}{h:Hp}{w:World}(r:bx GL w0 L g h w){b sz:Nat}{rs:List (List aa)}(hb:h b=some (.rows sz rs))(k:Nat):bx GL w0 L g (ei h b (.rows sz (rs.take k))) w:=by
 have back:∀n x,ei h b (.rows sz (rs.take k)) n=some x→x.live=true→∃y,h n=some y∧y.live=true:=by
  intro n x en ji;by_cases hn:n=b
  ·subst hn;exact⟨_,hb,rfl⟩
  ·rw[Xp _ _ hn]at en;exact⟨x,en,ji⟩
 exact {
  keeps:=r.keeps
  aX:=r.aX
  src:=r.src
  cr:=r.cr
  d_:=λn en=>by
   by_cases hn:n=b
   ·subst hn;rw[Qr]at en;cases en
   ·rw[Xp _ _ hn]at en;exact r.d_ n en
  jn:=λn x en=>by
   by_cases hn:n=b
   ·subst hn;exact r.jn n _ hb
   ·rw[Xp _ _ hn]at en;exact r.jn n x en
  own:=λn x cb en ji ec hv=>by
   by_cases hn:n=b
   ·subst hn;rw[Qr]at en;cases en;obtain⟨k1,k2,o,k3,k4,arr,T,k5,k6,k7,k8,k9⟩:=r.own n _ cb hb rfl ec hv;refine⟨k1,k2,o,k3,k4,arr,T,k5,k6,?_,λi row e=>?_,λi row j x v e1 e2 e3=>?_⟩
    ·refine zAY (zCp (zAE _ ?_) _) k7;simp;omega
    ·rw[zCI]at e;split at e
     ·exact k8 i row e
     ·cases e
    ·rw[zCI]at e1;split at e1
     ·exact k9 i row j x v e1 e2 e3
     ·cases e1
   ·rw[Xp _ _ hn]at en;exact r.own n x cb en ji ec hv
  bc:=λn x cb en ji ec hv=>by
   by_cases hn:n=b
   ·subst hn;rw[Qr]at en;cases en;have:=r.bc n _ cb hb rfl ec hv;cases this;simp
   ·rw[Xp _ _ hn]at en;exact r.bc n x cb en ji ec hv
  inj:=λn n' x x' sg cb2 e1 e2 l1 l2 c1 c2 v1 v2 iC=>by
   obtain⟨y1,f1,g1⟩:=back n x e1 l1;obtain⟨y2,f2,g2⟩:=back n' x' e2 l2;exact r.inj n n' y1 y2 sg cb2 f1 f2 g1 g2 c1 c2 v1 v2 iC }
def over(p:Nat)(ys rs:List (List aa)):List (List aa):=rs.take p++ys++rs.drop (p+ys.length)
theorem XcH{p:Nat}{ys rs:List (List aa)}(hp:p+ys.length<=rs.length)(i:Nat):(over p ys rs)[i]?=if p<=i∧i<p+ys.length then ys[i-p]? else rs[i]?:=by
 unfold over;by_cases h1:i<p<;>grind
theorem Qcp{p:Nat}{ys rs:List (List aa)}(hp:p+ys.length<=rs.length):(over p ys rs).length=rs.length:=by
 unfold over;simp;omega
theorem YbI{g:Gm}{n:Nat}{ys:List (List aa)}{newv:Array Value}(kI:n≠0)(ra:mD g n ys newv)(kH:∀row∈ys,∀x∈row,aa.cell x=true):∀u∈newv.toList,u.oneCell'=true:=by
 intro u hu;obtain⟨q,hq⟩:=zBi.1 hu;rw[zBM]at hq;have yy:q<ys.length*n:=by rw[←ra.1];grind
 have G_:0<n:=zBr kI;have hi:q/n<ys.length:=(zCe G_).2 yy;have rE:ys[q/n]?=some ys[q/n]:=by simp[hi]
 have Us:=ra.2.1 _ _ rE;have hj:q%n<ys[q/n].length:=by rw[Us];exact zDQ _ G_
 refine N8 (kH _ (AT hi) _ (AT hj)) (ra.2.2 (q/n) _ (q%n) _ u rE (by simp[hj]) ?_)
 grind [zDG]
theorem bx.rS{w0:World}{L:Ln}{g:Gm}{h:Hp}{w:World}(r:bx GL w0 L g h w){b n:Nat}{rs ys:List (List aa)}{cb:CB}{newv:Array Value}(hb:h b=some (.rows n rs))(ec:g.c b=some cb)(hv:cb.cK=false){p:Nat}(hp:p+ys.length<=rs.length)
 (ra:mD g n ys newv)(oE:∀u∈newv.toList,u.oneCell'=true) :
  ∃w',(storeCells ⟨cb.blk,cb.base+p*n,none⟩ newv.toList).run P w=.ok () w'∧bx GL w0 L g (ei h b (.rows n (over p ys rs))) w':=by
 obtain⟨z1,arr,T,fO,hs,lr,dN,c7⟩:=r.fR hb ec hv;obtain⟨gA,s1,s2,s3⟩:=RG (P:=P) fO newv.toList oE (j:=cb.base + p * n) (by
  intro _;rw[zAy (xs:=newv),ra.1,zBQ,← zBX,hs];exact zAY (zCp (zAE n hp) _) lr)
 refine⟨_,s1,r.write hb rfl ec hv rfl (w':=w.setRow cb.blk gA) rfl rfl rfl (Nx w _ arr gA T (0,0) fO) ⟨z1,gA,T,rfl,by rw[s2,hs],by rw[Qcp hp];exact lr,λi row q=>?_,λi row j x0 u q1 q2 q3=>?_⟩⟩
 ·rw[XcH hp]at q;split at q
  ·exact ra.2.1 _ row q
  ·exact dN i row q
 ·rw[XcH hp]at q1;rw[s3,zAy (xs:=newv),ra.1]at q3;split at q1
  ·rename_i hi;have hj:j<n:=by rw[←ra.2.1 _ row q1];grind
   have h5:p*n<=i*n:=zAE n hi.1;have h6:(i-p+1)*n<=ys.length*n:=zAE n (by omega);rw[zBP,zCn]at h6;rw[aJ (by omega)]at q3;refine ra.2.2 _ row j x0 u q1 q2 ?_
   grind
  ·rename_i hi;have hj:j<n:=by grind
   refine c7 i row j x0 u q1 q2 ?_;rw[aE]at q3
   ·exact q3
   ·rintro⟨k1,k2⟩;apply hi;by_cases hip:i<p
    ·have:(i+1)*n<=p*n:=zAE n hip;rw[zBP]at this;omega
    ·refine⟨by omega,?_⟩;by_cases tZ:i<p+ys.length
     ·exact tZ
     ·have:(p+ys.length)*n<=i*n:=zAE n (by omega);rw[zBX]at this;omega
theorem Nn{w0:World}{L:Ln}{g:Gm}{h:Hp}{w:World}(r:bx GL w0 L g h w){b n off cap:Nat}{rs:List (List aa)}{cb:CB}(hb:h b=some (.rows n rs))(kI:n≠0)(ec:g.c b=some cb)(hv:cb.cK=false)(h2:cb.base+(off+cap)*cb.sz=cb.vu):rs.length<=off+cap:=by
 obtain⟨z1,arr,T,fO,hs,lr,_⟩:=r.fR hb ec hv;rw[z1]at h2;rw[←h2]at lr;exact Nat.le_of_mul_le_mul_right (Nat.le_of_add_le_add_left lr) (zBr kI)
theorem YaR(n by_:Nat)(z:List aa)(y:aa)(b off len:Nat)(ex:Bool)(rs ys:List (List aa))(rd:List Nat)(h0:Hp)(hb:h0 b=some (.rows n rs))(sv:fF h0 n y ys rd)
 (kH:∀row∈ys,∀x∈row,aa.cell x=true)(bM:off+len+ys.length<=rs.length) :
  aD P GL (.append n by_ z) [.sl b off len ex,y] h0 (.sl b off (len+ys.length) false) rd [(b,.rows n (over (off+len) ys rs))]:=by
 intro o os hc w0 L g h w a r hx dc gD;have cj:h b=some (.rows n rs):=by simp_all
 generalize ho:o.op=op at hc;cases hc with
 |append t t' e ox oy _ _ v _ ht zU eL sk hz rG dJ ln kI=>
  obtain⟨d,hd,pH⟩:=zU;obtain⟨d1,d2,_⟩:=hx;generalize jT:a.eval ox=u1 at d1;generalize qg:a.eval oy=u2 at d2;obtain⟨p2,zl,newv,e2,f2,qo,_⟩:=XK (P:=P) r sv dc d2;have fH:(zCK u2).run P w=.ok ys.length w:=by rw[e2];rfl
  rw[YcE];cases d1 with
  |oV _ _ _ cb p ec hv=>
   have wW:=(r.gV cj ec hv).2;subst wW;have rH:ys=[]:=by simpa using bM
   subst rH;have zP:newv.toList=[]:=by have:=qo.1;simp at this;simp[this]
   have ba:(zBE #[t,t'] o.type #[.slice p 0 0,u2]).run P w=.ok (.slice p 0 0) w:=by
    obtain⟨k1,k2⟩:=(ZI ht hd pH eL sk hz ln (base:=p) (len:=0) (cap:=0) (newv:=newv) fH o.type).1 (by simp) f2;cases p with
    |none=>exact k1 rfl
    |some ad=>exact k2 ad w rfl (by rw[zP];rfl)
   rw[QH ho jT qg ba];refine⟨g,Gm.Le.refl _,?_,.oV _ _ _ cb _ ec hv⟩;have:=r.jB cj 0;exact this
  |sle _ _ _ _ cb p ec hv g1 g2=>
   have pg:=Nn (off:=off) (cap:=0) r cj kI ec hv (by simpa using g2);have rH:ys=[]:=zAW.1 (by omega);subst rH;have zP:newv.toList=[]:=by have:=qo.1;simp at this;simp[this]
   have ba:(zBE #[t,t'] o.type #[.slice p 0 0,u2]).run P w=.ok (.slice p 0 0) w:=by
    obtain⟨k1,k2⟩:=(ZI ht hd pH eL sk hz ln (base:=p) (len:=0) (cap:=0) (newv:=newv) fH o.type).1 (by simp) f2;cases p with
    |none=>exact k1 rfl
    |some ad=>exact k2 ad w rfl (by rw[zP];rfl)
   rw[QH ho jT qg ba];refine⟨g,Gm.Le.refl _,?_,.sle _ _ _ _ cb _ ec hv g1 g2⟩;have yx:over (off+0) [] rs=rs.take rs.length:=by simp[over]
   rw[yx];exact r.jB cj rs.length
  |sl _ _ _ _ _ cb cap ec hv h1 h2 h3=>
   have pg:=Nn r cj kI ec hv h2;have z1:=(r.fR cj ec hv).1;obtain⟨w',s1,s2⟩:=r.rS (P:=P) cj ec hv bM qo (YbI kI qo kH);have ba:=((ZI ht hd pH eL sk hz ln (base:=some ⟨cb.blk,cb.base + off * cb.sz,none⟩) (len:=len) (cap:=cap) (newv:=newv) fH o.type).1 (by omega) f2).2 ⟨cb.blk,cb.base + off * cb.sz,none⟩ w' rfl (by
    simp_all [XU,zBQ,zBX])
   rw[QH ho jT qg ba];exact⟨g,Gm.Le.refl _,s2,.sl _ _ _ _ _ cb cap ec hv (by omega) h2 (by simp)⟩
theorem Qbv(n by_:Nat)(z:List aa)(y:aa)(b len:Nat)(ex:Bool)(rs ys:List (List aa))(rd:List Nat)(h0:Hp)(nb:Nat)(hn:h0 nb=none)(hb:h0 b=some (.rows n rs))(hle:len<=rs.length)(sv:fF h0 n y ys rd)(UQ:b∉rd)
 (kH:∀row∈ys,∀x∈row,aa.cell x=true)(bM:(2*(len+ys.length)+192)*by_<=2 ^ 48) :
  aD P GL (.append n by_ z) [.sl b 0 len ex,y] h0 (.sl nb 0 (len+ys.length) false) rd [(b,.dead),(nb,.rows n (rs.take len++ys))]:=by
 intro o os hc w0 L g h w a r hx dc gD;have cj:h b=some (.rows n rs):=by simp_all
 have UB:h nb=none:=by simp_all
 have cO:nb≠b:=by grind
 have hl:(rs.take len).length=len:=by simp;omega
 have r':=r.jB cj len;have hy1:fF (ei h b (.rows n (rs.take len))) n y ys rd:=by
  cases sv with
  |row ex nn rows=>exact .row _ _ _
  |an=>exact .an
  |cS=>exact .cS
  |own b2 Vz j8 ex2 rs2 lV lr=>
   have J0:b2≠b:=by rintro rfl;simp at UQ
   exact .own _ _ _ _ _ (by simp_all [Xp]) lr
 have:=ZbJ (P:=P) (GL:=GL) n by_ z (.sl b 0 len ex) y (rs.take len) ys rd [(b,.dead)] (ei h b (.rows n (rs.take len))) nb (by rw[Xp _ _ cO];exact UB) (by have:=mR.own (h0:=ei h b (.rows n (rs.take len))) (sz:=n) b 0 len ex _ (Qr _ _ _) (by rw[hl];omega);simpa using this) hy1 kH (by rw[hl];exact bM)
  o os hc w0 L g _ w a r' hx (λ_ _=>rfl) (λ_ _=>rfl)
 rw[hl]at this;have e:cw (ei h b (.rows n (rs.take len))) ([(b,.dead)]++[(nb,.rows n (rs.take len++ys))])=cw h [(b,.dead),(nb,.rows n (rs.take len++ys))]:=by
  funext q
  simp_all [cw,ei]
 rw[e]at this;exact this
theorem bx.qp{w0:World}{L:Ln}{g:Gm}{h:Hp}{w:World}(r:bx GL w0 L g h w){b:Nat}{blk blk':ab}{cb:CB}(hb:h b=some blk)(hl:blk.live=true)(lX:blk'.live=true)(ec:g.c b=some cb)(hv:cb.cK=false)
 (ok:∀o,iG g.M g.c cb o blk→iG g.M g.c cb o blk'):bx GL w0 L g (ei h b blk') w:=by
 obtain⟨_,_,o,ho,bQ⟩:=r.own b blk cb hb hl ec hv;refine r.write hb hl ec hv lX (o':=o) rfl rfl rfl ?_ (ok o bQ);refine zDs λi=>?_;by_cases hi:cb.blk=i
 ·subst hi;have:cb.blk<w.heap.size:=by grind
  grind
 ·rw[zBb hi]
theorem bx.pU{w0:World}{L:Ln}{g:Gm}{h:Hp}{w:World}(r:bx GL w0 L g h w){b sz:Nat}{rs:List (List aa)}(hb:h b=some (.full sz rs)):∃cb,g.c b=some cb∧cb.cK=false∧cb.sz=sz∧cb.base+rs.length*sz=cb.vu:=by
 obtain⟨cb,ec⟩:=r.jn b _ hb;have hv:cb.cK=false:=by
  cases hv:cb.cK with
  |false=>rfl
  |true=>have:=r.bc b _ cb hb rfl ec hv;cases this
 obtain⟨_,_,o,_,q,z,_⟩:=r.own b _ cb hb rfl ec hv;exact⟨cb,ec,hv,z,q⟩
theorem bx.Dd{w0:World}{L:Ln}{g:Gm}{h:Hp}{w:World}(r:bx GL w0 L g h w){b sz:Nat}{rs:List (List aa)}(hb:h b=some (.full sz rs))(k:Nat):bx GL w0 L g (ei h b (.rows sz (rs.take k))) w:=by
 obtain⟨cb,ec,hv,_⟩:=r.pU hb;refine r.qp hb rfl rfl ec hv ?_;rintro o ⟨_,h0,arr,T,h1,h2,h3,h4,h5⟩;refine⟨h0,arr,T,h1,h2,zAY (zCp (zAE _ (by simp;omega)) _) h3,λi row e=>?_,λi row j x v e1 e2 e3=>?_⟩
 ·rw[zCI]at e;grind
 ·rw[zCI]at e1;grind
theorem bx.DK{w0:World}{L:Ln}{g:Gm}{h:Hp}{w:World}(r:bx GL w0 L g h w){b sz:Nat}{ex:Bool}{rs:List (List aa)}(hb:h b=some (.rows sz rs))(wW:rs≠[]){v:Value}{n:Nat}(hn:n=rs.length)(d:g.den (.sl b 0 n ex) v) :
  ∃m,bx GL w0 L g (ei h b (.full sz (rs++zAd m (zAd sz .aQ)))) w:=by
 cases d with
 |oV=>exact absurd (zAW.1 hn.symm) wW
 |sle=>exact absurd (zAW.1 hn.symm) wW
 |sl _ _ _ _ _ cb cap ec hv h1 h2 h3=>
  subst hn;refine⟨cap-rs.length,r.qp hb rfl rfl ec hv ?_⟩;rintro o ⟨k0,arr,T,k1,k2,k3,k4,k5⟩;have hl:(rs++zAd (cap-rs.length) (zAd sz aa.aQ)).length=cap:=by simp;omega
  have hq:cb.base+cap*sz=cb.vu:=by simp_all
  refine⟨by rw[hl];exact hq,k0,arr,T,k1,k2,by rw[hl];omega,λi row e=>?_,λi row j x v e1 e2 e3=>?_⟩
  ·rw[zDl]at e;split at e
   ·exact k4 i row e
   ·rw[zBd]at e;grind
  ·rw[zDl]at e1;split at e1
   ·exact k5 i row j x v e1 e2 e3
   ·rw[zBd]at e1;split at e1
    ·cases e1;rw[zBd]at e2;split at e2
     ·cases e2;exact .aQ _ _
     ·cases e2
    ·cases e1
theorem Out.map{w0:World}{L:Ln}{g:Gm}{h1 h2:Hp}{x:aa}{res:Result Next}(f:∀g' w',g.Le g'→bx GL w0 L g' h1 w'→bx GL w0 L g' h2 w')(q:Out P GL w0 L g h1 x res):Out P GL w0 L g h2 x res:=by
 cases res with
 |ok nx w'=>
  cases nx with
  |value u=>obtain⟨g',k1,k2,k3⟩:=q;exact⟨g',k1,f _ _ k1 k2,k3⟩
  |skip=>obtain⟨g',k1,k2,k3⟩:=q;exact⟨g',k1,f _ _ k1 k2,k3⟩
  |enter fn args=>
   refine zDN q ?_;rintro e xW ⟨u,he,g',k1,k2,k3⟩;exact⟨u,he,g',k1,f _ _ k1 k2,k3⟩
  |_=>exact q.elim
 |_=>exact q.elim
theorem fF.bT{h0 h:Hp}{n:Nat}{y:aa}{ys:List (List aa)}{rd:List Nat}(hy:fF h0 n y ys rd){b m:Nat}{rs:List (List aa)}(hb:h0 b=some (.full m rs))(dc:∀c∈rd,h c=h0 c)(x:ab):fF (ei h b x) n y ys rd:=by
 cases hy with
 |row ex nn rows=>exact .row _ _ _
 |an=>exact .an
 |cS=>exact .cS
 |own b2 Vz j8 ex2 rs2 lV lr=>
  have J0:b2≠b:=by rintro rfl;rw[hb]at lV;cases lV
  exact .own _ _ _ _ _ (by rw[Xp _ _ J0,dc b2 (by simp)];exact lV) lr
theorem Xbp(n by_:Nat)(z:List aa)(y:aa)(b len:Nat)(ex:Bool)(rs ys:List (List aa))(rd:List Nat)(h0:Hp)(hb:h0 b=some (.full n rs))(sv:fF h0 n y ys rd)
 (kH:∀row∈ys,∀x∈row,aa.cell x=true)(bM:len+ys.length<=rs.length) :
  aD P GL (.append n by_ z) [.sl b 0 len ex,y] h0 (.sl b 0 (len+ys.length) false) rd [(b,.full n (over len ys rs))]:=by
 intro o os hc w0 L g h w a r hx dc gD;have cj:h b=some (.full n rs):=by simp_all
 obtain⟨cb,ec,hv,hz,hq⟩:=r.pU cj;have r':=r.Dd cj rs.length;rw[List.take_length]at r';have:=YaR (P:=P) (GL:=GL) n by_ z y b 0 len ex rs ys rd (ei h b (.rows n rs)) (Qr _ _ _) (sv.bT hb dc _) kH (by omega) o os hc w0 L g _ w a r' hx (λ_ _=>rfl) (λ_ _=>rfl);refine this.map λg' w' hle k=>?_;have gN:=hle.c b cb ec;have k2:=k.qp (blk':=.full n (over len ys rs)) (Qr _ _ _) rfl rfl gN hv (by
  rintro o ⟨k0,arr,T,k1,k2,k3,k4,k5⟩;have hl:(over len ys rs).length=rs.length:=by simp[over];omega
  simp only[No]at k3 k4 k5;exact⟨by rw[hl];exact hq,k0,arr,T,k1,k2,k3,k4,k5⟩)
 have e:ei (cw (ei h b (.rows n rs)) [(b,.rows n (over (0+len) ys rs))]) b (.full n (over len ys rs))=cw h [(b,.full n (over len ys rs))]:=by
  funext q
  simp[cw,ei];split<;>rfl
 rw[e]at k2;exact k2
theorem Qbp(n by_:Nat)(z:List aa)(y:aa)(b len:Nat)(ex:Bool)(rs ys:List (List aa))(rd:List Nat)(h0:Hp)(nb:Nat)(hn:h0 nb=none)(hb:h0 b=some (.full n rs))(sv:fF h0 n y ys rd)
 (kH:∀row∈ys,∀x∈row,aa.cell x=true)(hle:len<=rs.length)(aaf:rs.length<len+ys.length)(bM:(2*(len+ys.length)+192)*by_<=2 ^ 48) :
  aD P GL (.append n by_ z) [.sl b 0 len ex,y] h0 (.sl nb 0 (len+ys.length) false) (b::rd) [(nb,.rows n (rs.take len++ys))]:=by
 intro o os hc w0 L g h w a r hx dc gD;have jJ:h nb=none:=by rw[gD (nb,.rows n (rs.take len++ys)) (by simp)];exact hn
 have cj:h b=some (.full n rs):=by rw[dc b (by simp)];exact hb
 have KJ:∀c∈rd,h c=h0 c:=λc hc=>dc c (by simp[hc]);obtain⟨cb,ec,hv,hzs,hq⟩:=r.pU cj;have r':=r.Dd cj len;generalize ho:o.op=op at hc;cases hc with
 |append t t' e ox oy _ _ v _ ht zU eL sk hz rG dJ ln kI=>
  obtain⟨d,hd,pH⟩:=zU;obtain⟨d1,d2,_⟩:=hx;generalize jT:a.eval ox=u1 at d1;generalize qg:a.eval oy=u2 at d2;have hl:(rs.take len).length=len:=by simp;omega
  have kO:fF (ei h b (.rows n (rs.take len))) n (.sl b 0 len ex) (rs.take len) [b]:=by
   have:=fF.own (h0:=ei h b (.rows n (rs.take len))) (sz:=n) b 0 len ex _ (Qr _ _ _) (by omega)
   rwa [Ydd _ 0 len (by omega),List.drop_zero]at this
  obtain⟨p1,nf,nD,e1,f1,B4,_⟩:=XK (P:=P) r'.drew kO (λ_ _=>rfl) d1;obtain⟨p2,zl,newv,e2,f2,qo,_⟩:=XK (P:=P) r sv KJ d2;obtain⟨p2',Bc,mZ,Jv,JA,rV,_⟩:=XK (P:=P) r.drew sv KJ d2;have fH:(zCK u2).run P w=.ok ys.length w:=by rw[e2];rfl
  rw[hl]at e1 f1;have pg:nf<=rs.length:=by
   rw[e1]at d1;cases d1 with
   |oV _ _ _ cb2 _ GV KV=>exact zBB _
   |sle _ _ _ _ cb2 _ GV KV=>exact zBB _
   |sl _ _ _ _ _ cb2 _ GV KV h1 h2 h3=>
    have:cb2=cb:=by rw[ec]at GV;cases GV;rfl
    subst this;rw[←hq,hzs]at h2;have h4:(0+nf)*n=rs.length*n:=Nat.add_left_cancel h2;have:=Nat.eq_of_mul_eq_mul_right (zBr kI) h4;omega
  obtain⟨nc,wP,ba⟩:=(ZI ht hd pH eL sk hz ln (base:=p1) (len:=len) (cap:=nf) (newv:=mZ) fH o.type).2 (by omega) bM nD (by rw[←e1];exact f1) JA;rw[QH ho (by rw[jT];exact e1) qg ba];obtain⟨q1,q2⟩:=Sk (c:=zAx v.cells (nc-(len+ys.length))) B4 rV;obtain⟨g',Ue,Uf,so⟩:=bx.nJ r.drew jJ n (rs.take len++ys) (nD++mZ++zAx v.cells (nc-(len+ys.length))) e (len+ys.length) nc false
   (by
     have h1:=B4.1;rw[hl]at h1;simp only[zDy,h1,rV.1,P8,rG,zCn,zBX];have:(len + ys.length) * n<=nc * n:=zAE n wP;rw[zBX]at this;omega) wP (by simp) (by rw[By,hl];exact wP) q1 q2
  exact⟨g',Ue,Uf,so⟩
theorem Xdt(n:Nat)(z:List aa)(b off len:Nat)(ex:Bool)(rs:List (List aa))(h0:Hp)(hb:h0 b=some (.rows n rs))(bM:off+len<=rs.length) :
  aD P GL (.iI n z) [.sl b off len ex] h0 .aQ [] [(b,.rows n (over off (zAd len z) rs))]:=by
 intro o os hc w0 L g h w a r hx dc gD;have cj:h b=some (.rows n rs):=by simp_all
 generalize ho:o.op=op at hc;cases hc with
 |iI t e ox _ v _ he eL kI hz rG dJ=>
  obtain⟨d1,_⟩:=hx;generalize jT:a.eval ox=u1 at d1;obtain⟨Hd,hzd⟩:=YU (M:=g.M) (c:=g.c) dJ;have aaK:z.length=n:=by rw[←Hd];simpa using rG
  have qh:P.underlying t=some (.slice e):=by
   grind [eY]
  have out:∀w',(zBt #[t] o.type #[u1]).run P w=.ok (.tuple #[]) w'→(execOp a.eval o).run P w=.ok (.value (.tuple #[])) w':=by
   simp_all [execOp,resolve,invoke,builtin]
  rw[YcE];have zQ:(zAd len z).length=len:=by simp
  cases d1 with
  |oV _ _ _ cb p ec hv=>
   have wW:=(r.gV cj ec hv).2;subst wW;rw[out w (by
    cases p <;> simp[zBt,OF,run_underlying qh])]
   exact⟨g,Gm.Le.refl _,r.jB cj 0,.aQ _ _⟩
  |sle _ _ _ _ cb p ec hv _ _=>
   rw[out w (by
    cases p <;> simp[zBt,OF,run_underlying qh])]
   refine⟨g,Gm.Le.refl _,?_,.aQ _ _⟩;have yx:over off (zAd 0 z) rs=rs.take rs.length:=by simp[over]
   rw[yx];exact r.jB cj rs.length
  |sl _ _ _ _ _ cb cap ec hv h1 h2 h3=>
   have z1:=(r.fR cj ec hv).1;have hv0:v.cells.size≠0:=by rw[rG];exact kI
   have ra:mD g n (zAd len z) (zAx v.cells len):=by
    refine⟨by rw[P8,rG,zQ],λi row q=>?_,λi row j x u q1 q2 q3=>?_⟩
    ·grind
    ·rw[zBd]at q1;split at q1
     ·rename_i hi;cases q1;have hj:j<n:=by grind
      have b_:i*n+j<len*n:=by
       have:(i+1)*n<=len*n:=zAE n hi;rw[zBP]at this;omega
      have aaA:(i*n+j)%n=j:=by simp_all [zCT]
      have hq:(zAx v.cells len)[i*n+j]?=v.cells[j]?:=by
       simp_all [zAx]
      rw[hq]at q3;exact hzd j x u q2 (by simpa using q3)
     ·cases q1
   have hcz:=Nu dJ;obtain⟨w',s1,s2⟩:=r.rS (P:=P) cj ec hv (p:=off) (ys:=zAd len z) (by rw[zQ];exact bM) ra (YbI kI ra (λrow dN x hx=>by
    simp_all))
   by_cases vo:len=0
   ·subst vo;rw[out w (by simp_all [zBt,run_underlying])];refine⟨g,Gm.Le.refl _,?_,.aQ _ _⟩;have yx:over off (zAd 0 z) rs=rs.take rs.length:=by
     simp[over]
    rw[yx];exact r.jB cj rs.length
   ·rw[out w' (by
     cases len with
     |zero=>exact(vo rfl).elim
     |succ len=>
      rw[z1];simp only[zBt,OF,zAA,AS];simp_all [run_underlying,AR])]
    exact⟨g,Gm.Le.refl _,s2,.aQ _ _⟩
theorem Sj(n:Nat)(z:List aa)(x:aa)(h0:Hp)(su:x=.an∨x=.cS∨∃e nn sz,x=.aU e nn sz []):aD P GL (.iI n z) [x] h0 .aQ [] []:=by
 intro o os hc w0 L g h w a r hx dc gD;generalize ho:o.op=op at hc;cases hc with
 |iI t e ox _ v _ he eL kI hz rG dJ=>
  obtain⟨d1,_⟩:=hx;generalize jT:a.eval ox=u1 at d1;have qh:P.underlying t=some (.slice e):=by
   grind [eY]
  have O2:∃p cap,u1=.slice p 0 cap:=by
   rcases su with rfl|rfl|⟨_,_,_,rfl⟩
   ·cases d1;exact⟨_,_,rfl⟩
   ·cases d1;exact⟨_,_,rfl⟩
   ·cases d1;exact⟨_,_,rfl⟩
  obtain⟨p,cap,rfl⟩:=O2;have ba:(execOp a.eval o).run P w=.ok (.value (.tuple #[])) w:=by
   simp only[execOp,ho,resolve,OF,zAA,AS,invoke,builtin];cases p<;>simp[jT,zBt,OF,run_underlying qh]
  rw[ba];exact Out.here r (.aQ _ _)
end
end Go.Ah
end
