/- Part of the proof that WakeDawns holds of the program for arguments that together hold at most 1048576 values and letters; no other condition. -/
import Derived.WalkKit
import Derived.IntWalk
import Derived.ChangeKeysEq
import Derived.Deep.LoopGhost
set_option linter.all false
open Array renaming ext_getElem?->zDs,getD_eq_getD_getElem?->zBU,getElem?_eq_getElem->zBF,getElem?_eq_some_iff->zCF,getElem?_setIfInBounds_ne->zBb,getElem?_toList->zBO,getElem_extract->zBx,length_toList->zAz,range->zCN,replicate->zBp,size_append->zDy,toArray_toList->zCB,toList_map->zBn
open Bool renaming and_eq_true->AI,false_eq_true->zAW,not_false->zBw
open Go.Act renaming put->zDb
open Go.Addr renaming add->zDz
open Go.Builtin renaming append_->zBG,clear_->zBs,firstCells->zBB,lenOf->zCK,len_->zCC,nextslicecap->zCb,zeroCells->zAy
open Go.ByteArray renaming toList_eq->zCa
open Go.Calls renaming mono->zDO
open Go.Deferred renaming ofValue->zCl
open Go.Ending renaming returned->zCV
open Go.Instr renaming buildSlice->zCO,fill->zDJ,findNow->zBT,indexAt->zDT,keyThatStays->zDr,loadAt->zCU,lookup->zDa,mapUpdate->zDF,next->zDI,sameBits->zCg,sameNow->zDS,slice->zDE,sliceAt->zDY,sliceBound->zEE,sliceBounds->zAQ,sureAddr->zBW,typeAssert->zBJ
open Go.IntKind renaming i64->BY
open Go.Op renaming equalIn->zCc,intDiv->zDe,stringOp->zDt
open Go.Region renaming wanted->zCm
open Go.Result renaming andThen_ok->AS
open Go.Sem renaming run->zCZ,run_bind->OF,run_ite->zDo,run_pure->zAA
open Go.Utf8 renaming decode->zBc
open Go.Value renaming iface->zBz
open List renaming append_assoc->zAb,getElem?_append->zDl,getElem?_append_left->zAU,getElem?_append_right->zAO,getElem?_cons_succ->zCQ,getElem?_cons_zero->zCP,getElem?_drop->zCt,getElem?_eq_none->zCd,getElem?_replicate->zBd,getElem?_take->zCI,getElem?_take_of_lt->zDV,getElem?_toArray->zBY,getElem_mem->AT,length_append->By,length_cons->IS,length_drop->zDC,length_eq_zero_iff->zAc,map_cons->zAN,map_map->zCE,mem_cons_of_mem->zAr,mem_iff_getElem?->zBi,mem_of_getElem?->zAI,range->zAB,range'->zBI,range'_succ->zDG,replicate->zAf,size_toArray->zEB
open List.cons renaming injEq->zCL
open Nat renaming add_assoc->zBR,add_le_add_left->zCq,add_mul->zBX,add_zero->zBj,beq->IT,beq_refl->zBf,ble->zAR,blt->zAn,div_add_mod->zDH,div_lt_iff_lt_mul->zCe,le_refl->No,le_trans->zAX,mod_eq_of_lt->zCT,mod_lt->zDQ,mul_le_mul_right->zAE,pos_of_ne_zero->zBq,sub_mul->zCn,succ_mul->zBQ,zero_add->IN,zero_le->zAZ,zero_mul->zDf
open Option renaming getD_some->zAt,isSome_iff_exists->zAC,map_none->zCz
open Option.some renaming inj->zBy,injEq->zBl
section
theorem cD(b:Bool):b=true∨b=false:=Bool.eq_false_or_eq_true b
theorem gE{α:Type}{l:List α}{i:Nat}{a:α}:l[i]?=some a→∃h:i<l.length,l[i]=a:=List.getElem?_eq_some_iff.1
theorem fY{n m:Nat}:IT n m=true→n=m:=Nat.eq_of_beq_eq_true
theorem iy{n m:Nat}:zAR n m=true→n<=m:=Nat.le_of_ble_eq_true
theorem aB{c:Prop}{h:Decidable c}(xn:¬c){α:Sort _}{t e:α}:ite c t e=e:=if_neg xn
theorem aI{c:Prop}{h:Decidable c}(hc:c){α:Sort _}{t e:α}:ite c t e=t:=if_pos hc
theorem fD{p:Prop}[Decidable p]:(decide p=true)=p:=decide_eq_true_eq
theorem eX{p:Prop}[inst:Decidable p]:p→decide p=true:=decide_eq_true
theorem gB{p:Prop}[inst:Decidable p]:¬p→decide p=false:=decide_eq_false
theorem s9{p:Prop}{h:Decidable p}:(decide p=false)↔¬p:=decide_eq_false_iff_not
theorem gK{α:Type}{i:Nat}{l:List α}(h:i<l.length):l.drop i=l[i]::l.drop (i+1):=List.drop_eq_getElem_cons h
namespace Go.Ah
open Go.RowKit (Below)
inductive aa where
 |aQ
 |bool (b:Bool)
 |int (k:IntKind) (n:Int)
 |str (s:List UInt8)
 |fo
 |ak (b j:Nat)
 |ptr (b i j:Nat)
 |aq (row:List aa) (j:Nat)
 |al
 |cY
 |sl (b off len:Nat) (ex:Bool)
 |aW (ex nn:Bool) (sz:Nat) (rows:List (List aa))
 |map (b:Nat)
 |fN (es:List (aa×aa))
 |cW
 |func (fn:Fn) (first captured:List aa)
 |bK
 |iface (t:TypeId) (v:aa)
 |dw
 |agg (cs:List aa)
 |bp (vs:List aa)
 |when (cs:List (Bool×Bool)) (x:aa)
 |iter (b:Nat)
 deriving Inhabited
structure CB where
 blk:Nat
 sz:Nat
 vL:Nat
 cR:Bool
 base:Nat
def iR(M:Nat→Option Obj)(b o:Nat):Option Value:=
 match M b with
 |some (.cells c _ _)=>c[o]?
 |_=>none
abbrev Own:=Nat→Option CB
def bA:Own:=λ_=>none
inductive Den (M:Nat→Option Obj):Own→aa→Value→Prop
 |aQ (c:Own) (v:Value):Den M c .aQ v
 |bool (c:Own) (b:Bool):Den M c (.bool b) (.bool b)
 |int (c:Own) (k:IntKind) (n:Int):Den M c (.int k n) (.int k n)
 |str (c:Own) (s:ByteArray):Den M c (.str s.data.toList) (.string s)
 |fo (c:Own):Den M c .fo (.pointer none)
 |ak (c:Own) (b j:Nat) (cb:CB):c b=some cb→Den M c (.ak b j) (.pointer (some ⟨cb.blk,j,none⟩))
 |ptr (c:Own) (b i j:Nat) (cb:CB):c b=some cb→Den M c (.ptr b i j) (.pointer (some ⟨cb.blk,cb.base+i*cb.sz+j,none⟩))
 |aq (c:Own) (row:List aa) (j blk off:Nat) (f:Nat→Value) :
   (∀k,k<row.length→iR M blk (off+k)=some (f k)) →
   (∀k x,row[k]?=some x→Den M bA x (f k)) →
   Den M c (.aq row j) (.pointer (some ⟨blk,off+j,none⟩))
 |al (c:Own):Den M c .al (.slice none 0 0)
 |cY (c:Own) (a:Option Addr):Den M c .cY (.slice a 0 0)
 |sl (c:Own) (b off len:Nat) (ex:Bool) (cb:CB) (cap:Nat):c b=some cb→cb.cR=false→len<=cap→cb.base+(off+cap)*cb.sz=cb.vL →
   (ex=true→cap=len)→Den M c (.sl b off len ex) (.slice (some ⟨cb.blk,cb.base+off*cb.sz,none⟩) len cap)
 |pg (c:Own) (b:Nat) (ex:Bool) (cb:CB) (a:Option Addr):c b=some cb→cb.cR=true→Den M c (.sl b 0 0 ex) (.slice a 0 0)
 |sle (c:Own) (b off:Nat) (ex:Bool) (cb:CB) (a:Option Addr):c b=some cb→cb.cR=false→cb.sz≠0→cb.base+off*cb.sz=cb.vL→Den M c (.sl b off 0 ex) (.slice a 0 0)
 |aW (c:Own) (ex nn:Bool) (sz:Nat) (rows:List (List aa)) (a:Option Addr) (cap blk off:Nat) (f:Nat→Nat→Value) :
   (ex=true→cap=rows.length)→(nn=true→a.isSome=true)→(rows≠[]→a=some ⟨blk,off,none⟩)→(a=none→cap=0)→rows.length<=cap →
   (∀(i:Nat) (row:List aa),rows[i]?=some row→row.length=sz) →
   (∀i j,i<rows.length→j<sz→iR M blk (off+(i*sz+j))=some (f i j)) →
   (∀i row j x,rows[i]?=some row→row[j]?=some x→Den M bA x (f i j)) →
   Den M c (.aW ex nn sz rows) (.slice a rows.length cap)
 |map (c:Own) (b:Nat) (cb:CB):c b=some cb→Den M c (.map b) (.map (some cb.blk))
 |fN (c:Own) (es:List (aa×aa)) (blk:Nat) (arr:Array MapEntry) (clock:Nat):M blk=some (.map arr clock)→arr.size=es.length →
   (∀(i:Nat) (k x:aa) (e:MapEntry),es[i]?=some (k,x)→arr[i]?=some e→Den M bA k e.key) →
   (∀(i:Nat) (k x:aa) (e:MapEntry),es[i]?=some (k,x)→arr[i]?=some e→Den M bA x e.val) →
   Den M c (.fN es) (.map (some blk))
 |cW (c:Own):Den M c .cW (.map none)
 |func (c:Own) (fn:Fn) (first captured:List aa) (vs ws:Array Value):vs.size=first.length→ws.size=captured.length →
   (∀(i:Nat) (x:aa) (v:Value),first[i]?=some x→vs[i]?=some v→Den M c x v)→(∀(i:Nat) (x:aa) (v:Value),captured[i]?=some x→ws[i]?=some v→Den M c x v) →
   Den M c (.func fn first captured) (.func fn vs ws)
 |bK (c:Own):Den M c .bK .nilFunc
 |iface (c:Own) (t:TypeId) (x:aa) (v:Value):Den M c x v→Den M c (.iface t x) (.iface t v)
 |dw (c:Own):Den M c .dw .nilIface
 |agg (c:Own) (cs:List aa) (vs:Array Value):vs.size=cs.length→(∀(i:Nat) (x:aa) (v:Value),cs[i]?=some x→vs[i]?=some v→Den M c x v)→Den M c (.agg cs) (.agg vs)
 |bp (c:Own) (cs:List aa) (vs:Array Value):vs.size=cs.length→(∀(i:Nat) (x:aa) (v:Value),cs[i]?=some x→vs[i]?=some v→Den M c x v)→Den M c (.bp cs) (.tuple vs)
 |when (c:Own) (cs:List (Bool×Bool)) (x:aa) (v:Value):((∀p∈cs,p.1=p.2)→Den M c x v)→(¬(∀p∈cs,p.1=p.2)→v=undef)→Den M c (.when cs x) v
 |iter (c:Own) (b:Nat) (cb:CB):c b=some cb→Den M c (.iter b) (.pointer (some ⟨cb.blk,0,none⟩))
def i9(M M':Nat→Option Obj):Prop:=∀b o,M b=some o→M' b=some o
def gD(c c':Own):Prop:=∀b cb,c b=some cb→c' b=some cb
theorem i9.refl(M:Nat→Option Obj):i9 M M:=λ_ _ h=>h
theorem i9.trans{a b c:Nat→Option Obj}(h:i9 a b)(k:i9 b c):i9 a c:=λx o e=>k x o (h x o e)
theorem gD.refl(c:Own):gD c c:=λ_ _ h=>h
variable{c:Own}
theorem gD.trans{a b:Own}(h:gD a b)(k:gD b c):gD a c:=λx o e=>k x o (h x o e)
theorem gD.bA(c:Own):gD bA c:=λ_ _ h=>by simp[Ah.bA]at h
variable{v:Value}
variable{M M':Nat→Option Obj}
theorem YbJ(h:i9 M M'){b o:Nat}(e:iR M b o=some v):iR M' b o=some v:=by
 unfold iR at *;cases hb:M b with
 |none=>simp[hb]at e
 |some x=>rw[h b x hb];simpa[hb]using e
variable{x:aa}
theorem Den.mono(hM:i9 M M')(h:Den M c x v):∀ {c':Own},gD c c'→Den M' c' x v:=by
 induction h with
 |aQ=>intros;exact .aQ _ _
 |bool=>intros;exact .bool _ _
 |int=>intros;exact .int _ _ _
 |str=>intros;exact .str _ _
 |fo=>intros;exact .fo _
 |ak c b j cb e=>intro c' hc;exact .ak _ _ _ _ (hc _ _ e)
 |ptr c b i j cb e=>intro c' hc;exact .ptr _ _ _ _ _ (hc _ _ e)
 |aq c row j blk off f h1 h2 ih=>intro c' hc;exact .aq _ _ _ _ _ f (λk hk=>YbJ hM (h1 k hk)) (λk x e=>ih k x e (gD.refl _))
 |al=>intros;exact .al _
 |cY=>intros;exact .cY _ _
 |sl c b off len ex cb cap e h1 h2 h3 h4=>intro c' hc;exact .sl _ _ _ _ _ _ _ (hc _ _ e) h1 h2 h3 h4
 |pg c b ex cb a e h1=>intro c' hc;exact .pg _ _ _ _ _ (hc _ _ e) h1
 |sle c b off ex cb a e h1 h2 h3=>intro c' hc;exact .sle _ _ _ _ _ _ (hc _ _ e) h1 h2 h3
 |aW c ex nn sz rows a cap blk off f h1 h2 h3 uZ h4 h5 h6 h7 ih=>
  intro c' hc;exact .aW _ _ _ _ _ _ _ blk off f h1 h2 h3 uZ h4 h5 (λi j hi hj=>YbJ hM (h6 i j hi hj)) (λi row j x e1 e2=>ih i row j x e1 e2 (gD.refl _))
 |map c b cb e=>intro c' hc;exact .map _ _ _ (hc _ _ e)
 |fN c es blk arr clock e h1 h2 h3 vo vp=>
  intro c' hc;exact .fN _ _ _ _ _ (hM _ _ e) h1 (λi k x en e1 e2=>vo i k x en e1 e2 (gD.refl _)) (λi k x en e1 e2=>vp i k x en e1 e2 (gD.refl _))
 |cW=>intros;exact .cW _
 |func c fn first captured vs ws h1 h2 h3 h4 vo vp=>
  intro c' hc;exact .func _ _ _ _ _ _ h1 h2 (λi x v e1 e2=>vo i x v e1 e2 hc) (λi x v e1 e2=>vp i x v e1 e2 hc)
 |bK=>intros;exact .bK _
 |iface c t x v h ih=>intro c' hc;exact .iface _ _ _ _ (ih hc)
 |dw=>intros;exact .dw _
 |agg c cs vs h1 h2 ih=>intro c' hc;exact .agg _ _ _ h1 (λi x v e1 e2=>ih i x v e1 e2 hc)
 |bp c cs vs h1 h2 ih=>intro c' hc;exact .bp _ _ _ h1 (λi x v e1 e2=>ih i x v e1 e2 hc)
 |when c cs x v h h2 ih=>intro c' hc;exact .when _ _ _ _ (λhp=>ih hp hc) h2
 |iter c b cb e=>intro c' hc;exact .iter _ _ _ (hc _ _ e)
def aa.cell:aa→Bool
 |.aQ | .agg _ | .bp _ | .when ..=>false
 |_=>true
theorem Den.uK(h:Den M c x v)(hx:x.cell=true):v.oneCell'=true:=by
 cases h<;>simp_all [aa.cell,Value.oneCell']
inductive ab where
 |dead
 |box (row:List aa)
 |rows (sz:Nat) (rows:List (List aa))
 |map (es:List (aa×aa))
 |fz (s:List UInt8) (pos:Nat)
 |full (sz:Nat) (rows:List (List aa))
 deriving Inhabited
def ab.live:ab→Bool
 |.dead=>false
 |_=>true
def iL(M:Nat→Option Obj)(c:Own)(cb:CB)(o:Obj):ab→Prop
 |.dead=>True
 |.box row=>∃arr T,o=.cells arr T (0,0)∧arr.size=row.length∧∀(j:Nat) (x:aa) (v:Value),row[j]?=some x→arr[j]?=some v→Den M c x v
 |.rows sz rows=>cb.sz=sz∧∃arr T,o=.cells arr T (0,0)∧arr.size=cb.vL∧cb.base+rows.length*sz<=cb.vL∧(∀(i:Nat) (row:List aa),rows[i]?=some row→row.length=sz) ∧
   ∀(i:Nat) (row:List aa) (j:Nat) (x:aa) (v:Value),rows[i]?=some row→row[j]?=some x→arr[cb.base+i*sz+j]?=some v→Den M c x v
 |.map es=>∃arr clock,o=.map arr clock∧arr.size=es.length∧(∀(i:Nat) (k x:aa) (e:MapEntry),es[i]?=some (k,x)→arr[i]?=some e→Den M c k e.key∧Den M c x e.val)
 |.fz s p=>o=.stringIter ⟨s.toArray⟩ p
 |.full sz rows=>cb.base+rows.length*sz=cb.vL∧cb.sz=sz∧∃arr T,o=.cells arr T (0,0)∧arr.size=cb.vL∧cb.base+rows.length*sz<=cb.vL∧(∀(i:Nat) (row:List aa),rows[i]?=some row→row.length=sz) ∧
   ∀(i:Nat) (row:List aa) (j:Nat) (x:aa) (v:Value),rows[i]?=some row→row[j]?=some x→arr[cb.base+i*sz+j]?=some v→Den M c x v
theorem iL.mono(hM:i9 M M'){c':Own}(hc:gD c c'){cb:CB}{o:Obj}{b:ab}(h:iL M c cb o b):iL M' c' cb o b:=by
 cases b with
 |dead=>trivial
 |box row=>obtain⟨arr,T,h1,h2,h3⟩:=h;exact⟨arr,T,h1,h2,λj x v e1 e2=>(h3 j x v e1 e2).mono hM hc⟩
 |rows sz rows=>obtain⟨h0,arr,T,h1,h2,h3,h4,h5⟩:=h;exact⟨h0,arr,T,h1,h2,h3,h4,λi row j x v e1 e2 e3=>(h5 i row j x v e1 e2 e3).mono hM hc⟩
 |map es=>obtain⟨arr,clock,h1,h2,h3⟩:=h;exact⟨arr,clock,h1,h2,λi k x e e1 e2=>⟨(h3 i k x e e1 e2).1.mono hM hc,(h3 i k x e e1 e2).2.mono hM hc⟩⟩
 |fz s p=>exact h
 |full sz rows=>obtain⟨hq,h0,arr,T,h1,h2,h3,h4,h5⟩:=h;exact⟨hq,h0,arr,T,h1,h2,h3,h4,λi row j x v e1 e2 e3=>(h5 i row j x v e1 e2 e3).mono hM hc⟩
structure Ln where
 l:List Nat
 M0:Nat→Option Obj
structure jg (L:Ln) (w w':World):Prop where
 os:w'.os=w.os
 tape:w'.tape=w.tape
 output:w'.output=w.output
 size:w.heap.size<=w'.heap.size
 block:∀k,k<w.heap.size→k∉L.l→w'.heap[k]?=w.heap[k]?
theorem jg.refl(L:Ln)(w:World):jg L w w:=⟨rfl,rfl,rfl,No _,λ_ _ _=>rfl⟩
theorem jg.below{w w':World}(h:jg ⟨[],M⟩ w w'):Below w.heap.size w w':=⟨h.os,h.tape,h.output,h.size,λk hk=>h.block k hk (by simp)⟩
abbrev Hp:=Nat→Option ab
def eo(h:Hp)(b:Nat)(x:ab):Hp:=λn=>if n=b then some x else h n
def cz(h:Hp):List (Nat×ab)→Hp
 |[]=>h
 |(b,x)::r=>cz (eo h b x) r
structure Gm where
 M:Nat→Option Obj
 c:Own
structure Gm.Le (g g':Gm):Prop where
 m:i9 g.M g'.M
 c:gD g.c g'.c
theorem Gm.Le.refl(g:Gm):g.Le g:=⟨i9.refl _,gD.refl _⟩
theorem Gm.Le.trans{a b c:Gm}(h:a.Le b)(k:b.Le c):a.Le c:=⟨h.m.trans k.m,h.c.trans k.c⟩
def Gm.den(g:Gm)(x:aa)(v:Value):Prop:=Den g.M g.c x v
theorem Gm.l_{g g':Gm}(h:g.Le g')(d:g.den x v):g'.den x v:=Den.mono h.m d h.c
abbrev aw:=List (Nat×List aa)
structure bx (GL:aw) (w0:World) (L:Ln) (g:Gm) (h:Hp) (w:World):Prop where
 keeps:jg L w0 w
 aZ:∀b o,g.M b=some o→w.heap[b]?=some o
 src:∀b o,g.M b=some o→L.M0 b=some o∨w0.heap.size<=b∨b∈L.l
 cr:∀p∈GL,Den g.M bA (.aq p.2 0) (.pointer (some ⟨p.1,0,none⟩))
 ed:∀b,h b=none→g.c b=none
 jy:∀b blk,h b=some blk→∃cb,g.c b=some cb
 own:∀b blk cb,h b=some blk→blk.live=true→g.c b=some cb→cb.cR=false→g.M cb.blk=none∧(cb.blk∈L.l∨w0.heap.size<=cb.blk)∧∃o,w.heap[cb.blk]?=some o∧iL g.M g.c cb o blk
 bn:∀b blk cb,h b=some blk→blk.live=true→g.c b=some cb→cb.cR=true→blk=.rows cb.sz []
 inj:∀b b' blk blk' cb eP,h b=some blk→h b'=some blk'→blk.live=true→blk'.live=true→g.c b=some cb→g.c b'=some eP→cb.cR=false→eP.cR=false→cb.blk=eP.blk→b=b'
end Go.Ah
end
section
namespace Go.Ah
theorem Qs(h:Hp)(b:Nat)(x:ab):eo h b x b=some x:=by simp[eo]
variable{b:Nat}
theorem Qq(h:Hp){n:Nat}(x:ab)(e:n≠b):eo h b x n=h n:=by simp[eo,e]
def lV(c:Own)(b:Nat)(x:CB):Own:=λn=>if n=b then some x else c n
theorem Xz(c:Own)(b:Nat)(x:CB):lV c b x b=some x:=by simp[lV]
theorem Y7(c:Own){n:Nat}(x:CB)(e:n≠b):lV c b x n=c n:=by simp[lV,e]
theorem gD.lV{c:Own}{x:CB}(h:c b=none):gD c (lV c b x):=by
 intro n cb e
 grind [Y7]
theorem jg.trans'{L:Ln}{a b c:World}(h:jg L a b)(os:c.os=b.os)(tape:c.tape=b.tape)(output:c.output=b.output)(size:b.heap.size<=c.heap.size)
 (block:∀k,k<a.heap.size→k∉L.l→c.heap[k]?=b.heap[k]?):jg L a c:=
 ⟨os.trans h.os,tape.trans h.tape,output.trans h.output,zAX h.size size,λk hk hl=>(block k hk hl).trans (h.block k hk hl)⟩
section
variable {GL:aw} {w0:World} {L:Ln} {g:Gm} {h:Hp} {w:World}
variable{cb:CB}
variable{blk:ab}
theorem bx.d_(r:bx GL w0 L g h w)(e:h b=some blk)(hl:blk.live=true)(ec:g.c b=some cb)(hv:cb.cR=false):cb.blk<w.heap.size:=by
 obtain⟨_,_,o,ho,_⟩:=r.own b blk cb e hl ec hv
 grind
variable{o:Obj}
theorem bx.gQ(r:bx GL w0 L g h w)(e:g.M b=some o):b<w.heap.size:=
 (zCF.1 (r.aZ b o e)).1
theorem bx.drew(r:bx GL w0 L g h w):bx GL w0 L g h w.drew:=
 { r with keeps:=r.keeps.trans' rfl rfl rfl (No _) (λ_ _ _=>rfl),aZ:=r.aZ,own:=r.own }
variable{nb:Nat}
theorem bx.alloc(r:bx GL w0 L g h w)(hn:h nb=none)(hb:cb.blk=w.heap.size)(hv:cb.cR=false)(B2:blk.live=true)
 (ok:iL g.M (lV g.c nb cb) cb o blk):bx GL w0 L ⟨g.M,lV g.c nb cb⟩ (eo h nb blk) (w.alloc o) where
 keeps:=r.keeps.trans' rfl rfl rfl (by simp) (λk hk _=>by
  show (w.heap.push o)[k]?=_;have:=r.keeps.size
  grind)
 aZ:=λb o' e=>by
  have:=r.gQ e;show (w.heap.push o)[b]?=_;rw[Array.getElem?_push,aB (by omega)];exact r.aZ b o' e
 cr:=r.cr
 src:=r.src
 ed:=λb e=>by
  by_cases oL:b=nb
  ·subst oL;rw[Qs]at e;cases e
  ·rw[Qq _ _ oL]at e;show lV g.c nb cb b=none;rw[Y7 _ _ oL];exact r.ed b e
 jy:=λb blk' e=>by
  by_cases oL:b=nb
  ·simp_all [Xz]
  ·rw[Qq _ _ oL]at e;obtain⟨x,hx⟩:=r.jy b blk' e;simp_all [Y7]
 own:=λb blk' eP e hl ec sR=>by
  have qm:=r.ed nb hn;by_cases oL:b=nb
  ·subst oL;rw[Qs]at e;cases e;have:eP=cb:=by grind [Xz]
   subst this;refine⟨?_,.inr (by rw[hb];exact r.keeps.size),o,?_,ok⟩
   ·cases hM:g.M eP.blk with
    |none=>rfl
    |some x=>have:=r.gQ hM;omega
   ·show (w.heap.push o)[eP.blk]?=_;rw[hb];simp
  ·rw[Qq _ _ oL]at e;have gX:g.c b=some eP:=by simp_all [Y7]
   obtain⟨h1,h2,o',ho,bR⟩:=r.own b blk' eP e hl gX sR;have:=r.d_ e hl gX sR;refine⟨h1,h2,o',?_,bR.mono (i9.refl _) (gD.lV qm)⟩;show (w.heap.push o)[eP.blk]?=_
   grind
 bn:=λb blk' eP e hl ec sR=>by
  by_cases oL:b=nb
  ·grind [Xz]
  ·rw[Qq _ _ oL]at e;have gX:g.c b=some eP:=by simp_all [Y7]
   exact r.bn b blk' eP e hl gX sR
 inj:=λb b' TM TN sL cb2 e1 e2 l1 l2 c1 c2 v1 v2 iI=>by
  have key:∀b blk' eP,eo h nb blk b=some blk'→blk'.live=true→lV g.c nb cb b=some eP→eP.cR=false→b≠nb→eP.blk<w.heap.size:=by
   intro b blk' eP e hl ec sR oL;rw[Qq _ _ oL]at e;rw[Y7 _ _ oL]at ec;exact r.d_ e hl ec sR
  by_cases h1:b=nb
  ·grind [Xz]
  ·by_cases h2:b'=nb
   ·grind [Xz]
   ·rw[Qq _ _ h1]at e1;rw[Qq _ _ h2]at e2;have tf:g.c b=some sL:=by simp_all [Y7]
    have rA:g.c b'=some cb2:=by simp_all [Y7]
    exact r.inj b b' TM TN sL cb2 e1 e2 l1 l2 tf rA v1 v2 iI
theorem bx.kv(r:bx GL w0 L g h w)(hn:h nb=none)(cb:CB):g.Le ⟨g.M,lV g.c nb cb⟩:=⟨i9.refl _,gD.lV (r.ed nb hn)⟩
theorem bx.write(r:bx GL w0 L g h w){blk':ab}(e:h b=some blk)(hl:blk.live=true)(ec:g.c b=some cb)(hv:cb.cR=false)(ml:blk'.live=true)
 {o':Obj}{w':World}(vh:w'.os=w.os)(xx:w'.tape=w.tape)(oS:w'.output=w.output)(wW:w'.heap=w.heap.setIfInBounds cb.blk o')
 (ok:iL g.M g.c cb o' blk'):bx GL w0 L g (eo h b blk') w':=by
 have cc:=r.d_ e hl ec hv;obtain⟨hM,dc,_⟩:=r.own b blk cb e hl ec hv;have other:∀k,k≠cb.blk→w'.heap[k]?=w.heap[k]?:=by
  grind
 exact {
  keeps:=r.keeps.trans' vh xx oS (by rw[wW];simp) (λk hk lW=>other k (by
   grind))
  aZ:=λk o ek=>by rw[other k (by rintro rfl;rw[hM]at ek;cases ek)];exact r.aZ k o ek
  cr:=r.cr
  src:=r.src
  ed:=λn en=>by
   by_cases hn:n=b
   ·subst hn;rw[Qs]at en;cases en
   ·rw[Qq _ _ hn]at en;exact r.ed n en
  jy:=λn x en=>by
   by_cases hn:n=b
   ·subst hn;exact⟨cb,ec⟩
   ·rw[Qq _ _ hn]at en;exact r.jy n x en
  own:=λn x eP en jr qU r_=>by
   by_cases hn:n=b
   ·simp_all [Qs]
   ·rw[Qq _ _ hn]at en;obtain⟨h1,h2,o,ho,bR⟩:=r.own n x eP en jr qU r_;refine⟨h1,h2,o,?_,bR⟩;rw[other _ (λeq=>hn (r.inj n b x blk eP cb en e jr hl qU ec r_ hv eq))];exact ho
  bn:=λn x eP en jr qU r_=>by
   by_cases hn:n=b
   ·simp_all
   ·rw[Qq _ _ hn]at en;exact r.bn n x eP en jr qU r_
  inj:=λn n' x x' sL cb2 e1 e2 l1 l2 c1 c2 v1 v2 iI=>by
   have back:∀n x,eo h b blk' n=some x→x.live=true→∃y,h n=some y∧y.live=true:=by
    grind [Qq]
   obtain⟨y1,f1,g1⟩:=back n x e1 l1;obtain⟨y2,f2,g2⟩:=back n' x' e2 l2;exact r.inj n n' y1 y2 sL cb2 f1 f2 g1 g2 c1 c2 v1 v2 iI }
theorem bx.kill(r:bx GL w0 L g h w)(e:h b=some blk):bx GL w0 L g (eo h b .dead) w where
 keeps:=r.keeps
 aZ:=r.aZ
 cr:=r.cr
 src:=r.src
 ed:=λn en=>by
  by_cases hn:n=b
  ·subst hn;rw[Qs]at en;cases en
  ·rw[Qq _ _ hn]at en;exact r.ed n en
 jy:=λn x en=>by
  by_cases hn:n=b
  ·subst hn;exact r.jy n blk e
  ·rw[Qq _ _ hn]at en;exact r.jy n x en
 own:=λn x eP en jr=>by
  by_cases hn:n=b
  ·grind [ab.live,Qs]
  ·rw[Qq _ _ hn]at en;exact r.own n x eP en jr
 bn:=λn x eP en jr=>by
  by_cases hn:n=b
  ·grind [ab.live,Qs]
  ·rw[Qq _ _ hn]at en;exact r.bn n x eP en jr
 inj:=λn n' x x' sL cb2 e1 e2 l1 l2=>by
  have back:∀n x,eo h b .dead n=some x→x.live=true→h n=some x:=by
   grind [ab.live,Qs,Qq]
  exact r.inj n n' x x' sL cb2 (back n x e1 l1) (back n' x' e2 l2) l1 l2
theorem bx.ghost(r:bx GL w0 L g h w)(hn:h nb=none)(sz:Nat):bx GL w0 L ⟨g.M,lV g.c nb ⟨0,sz,0,true,0⟩⟩ (eo h nb (.rows sz [])) w:=by
 have qm:=r.ed nb hn;have JK:=gD.lV (x:=⟨0,sz,0,true,0⟩) qm;have wh:∀n cb,lV g.c nb ⟨0,sz,0,true,0⟩ n=some cb→cb.cR=false→g.c n=some cb∧n≠nb:=by
  grind [Xz,Y7]
 exact {
  keeps:=r.keeps
  aZ:=r.aZ
  cr:=r.cr
  src:=r.src
  ed:=λn en=>by
   by_cases oL:n=nb
   ·simp_all [Qs]
   ·rw[Qq _ _ oL]at en;show lV g.c nb _ n=none;rw[Y7 _ _ oL];exact r.ed n en
  jy:=λn x en=>by
   by_cases oL:n=nb
   ·simp_all [Xz]
   ·rw[Qq _ _ oL]at en;obtain⟨x,hx⟩:=r.jy n x en;simp_all [Y7]
  own:=λn x cb en jr qU r_=>by
   obtain⟨ec,oL⟩:=wh n cb qU r_;rw[Qq _ _ oL]at en;obtain⟨h1,h2,o,ho,bR⟩:=r.own n x cb en jr ec r_;exact⟨h1,h2,o,ho,bR.mono (i9.refl _) JK⟩
  bn:=λn x cb en jr qU r_=>by
   by_cases oL:n=nb
   ·grind [Qs,Xz]
   ·rw[Qq _ _ oL]at en;have:lV g.c nb ⟨0,sz,0,true,0⟩ n=some cb:=qU;rw[Y7 _ _ oL]at this;exact r.bn n x cb en jr this r_
  inj:=λn n' x x' sL cb2 e1 e2 l1 l2 c1 c2 v1 v2 iI=>by
   obtain⟨d1,n1⟩:=wh n sL c1 v1;obtain⟨d2,n2⟩:=wh n' cb2 c2 v2;rw[Qq _ _ n1]at e1;rw[Qq _ _ n2]at e2;exact r.inj n n' x x' sL cb2 e1 e2 l1 l2 d1 d2 v1 v2 iI }
def nT(M:Nat→Option Obj)(b:Nat)(o:Obj):Nat→Option Obj:=λn=>if n=b then some o else M n
theorem bx.freeze(r:bx GL w0 L g h w)(e:h b=some blk)(hl:blk.live=true)(ec:g.c b=some cb)(hv:cb.cR=false)(ho:w.heap[cb.blk]?=some o) :
  g.Le ⟨nT g.M cb.blk o,g.c⟩∧bx GL w0 L ⟨nT g.M cb.blk o,g.c⟩ (eo h b .dead) w:=by
 obtain⟨hM,dc,_⟩:=r.own b blk cb e hl ec hv;have DZ:i9 g.M (nT g.M cb.blk o):=by
  intro n x en
  grind [nT]
 have k:=r.kill e;refine⟨⟨DZ,gD.refl _⟩,?_⟩;exact {
  keeps:=k.keeps
  aZ:=λn x en=>by
   by_cases hn:n=cb.blk
   ·simp_all [nT]
   ·have:nT g.M cb.blk o n=some x:=en;simp[nT,hn]at this;exact r.aZ n x this
  cr:=λp hp=>(r.cr p hp).mono DZ (gD.refl _)
  src:=λn x en=>by
   by_cases hn:n=cb.blk
   ·grind
   ·have:nT g.M cb.blk o n=some x:=en;simp[nT,hn]at this;exact r.src n x this
  ed:=k.ed
  jy:=k.jy
  own:=λn x eP en jr qU r_=>by
   obtain⟨h1,h2,o',fR,bR⟩:=k.own n x eP en jr qU r_;have yN:n≠b:=by rintro rfl;grind [ab.live,Qs]
   have en':=en;rw[Qq _ _ yN]at en';have cU:eP.blk≠cb.blk:=λeq=>yN (r.inj n b x blk eP cb en' e jr hl qU ec r_ hv eq);exact⟨by simp_all [nT],h2,o',fR,bR.mono DZ (gD.refl _)⟩
  bn:=k.bn
  inj:=k.inj }
end
end Go.Ah
end
section
namespace Go.Ah
def nth{α:Type}:List α→Nat→Option α
 |[],_=>none
 |x::_,0=>some x
 |_::l,n+1=>nth l n
def jk{α:Type}:Nat→List α→List α
 |0,l=>l
 |_+1,[]=>[]
 |n+1,_::l=>jk n l
def takeN{α:Type}:Nat→List α→Option (List α)
 |0,_=>some []
 |_+1,[]=>none
 |n+1,x::l=>match takeN n l with
  |some r=>some (x::r)
  |none=>none
def bX{α:Type}:Nat→List α→List α→Option (List α)
 |_,[],l=>some l
 |0,_::_,[]=>none
 |0,c::cs,_::l=>match bX 0 cs l with
  |some r=>some (c::r)
  |none=>none
 |_+1,_::_,[]=>none
 |j+1,c::cs,x::l=>match bX j (c::cs) l with
  |some r=>some (x::r)
  |none=>none
def YC{α:Type}:Nat→α→List α→Option (List α)
 |_,_,[]=>none
 |0,c,_::l=>some (c::l)
 |j+1,c,x::l=>match YC j c l with
  |some r=>some (x::r)
  |none=>none
def chunk{α:Type}(sz:Nat):Nat→List α→Option (List (List α))
 |0,_=>some []
 |n+1,l=>match takeN sz l,chunk sz n (jk sz l)with
  |some r,some rs=>some (r::rs)
  |_,_=>none
variable{α:Type}
theorem Y3(l:List α)(n:Nat):nth l n=l[n]?:=by
 induction l generalizing n with
 |nil=>simp[nth]
 |cons x l ih=>cases n<;>simp_all [nth]
theorem NO(n:Nat)(l:List α):jk n l=l.drop n:=by
 induction n generalizing l with
 |zero=>simp[jk]
 |succ n ih=>cases l<;>simp_all [jk]
variable{n:Nat}
theorem R8{l r:List α}(h:takeN n l=some r):r.length=n∧n<=l.length∧∀i,i<n→r[i]?=l[i]?:=by
 induction n generalizing l r with
 |zero=>simp_all [takeN]
 |succ n ih=>
  cases l<;>grind [takeN]
theorem S1{j:Nat}{cs l r:List α}(h:bX j cs l=some r):r.length=l.length∧(cs≠[]→j+cs.length<=l.length)∧∀i,r[i]?=if j<=i∧i<j+cs.length then cs[i-j]? else l[i]?:=by
 induction l generalizing j cs r with
 |nil=>
  cases cs with
  |nil=>simp_all [bX]
  |cons c cs=>cases j<;>simp[bX]at h
 |cons x l ih=>
  cases cs with
  |nil=>simp only[bX]at h;grind
  |cons c cs=>
   cases j with
   |zero=>
    grind [bX]
   |succ j=>
    simp only[bX]at h;cases ht:bX j (c::cs) l<;>grind
theorem Xcx{j:Nat}{c:α}{l r:List α}(h:YC j c l=some r):r.length=l.length∧j<l.length∧∀i,r[i]?=if i=j then some c else l[i]?:=by
 induction l generalizing j r with
 |nil=>cases j<;>simp[YC]at h
 |cons x l ih=>
  cases j with
  |zero=>simp only[YC]at h;grind
  |succ j=>
   grind [YC]
theorem QcU{sz:Nat}{l:List α}{rs:List (List α)}(h:chunk sz n l=some rs):rs.length=n∧(n*sz<=l.length∨n=0)∧(∀(i:Nat) (row:List α),rs[i]?=some row→row.length=sz) ∧
  ∀(i:Nat) (row:List α) (j:Nat) (x:α),rs[i]?=some row→row[j]?=some x→l[i*sz+j]?=some x:=by
 induction n generalizing l rs with
 |zero=>simp_all [chunk]
 |succ n ih=>
  simp only[chunk]at h;cases ht:takeN sz l with
  |none=>simp[ht]at h
  |some r=>
   cases hc:chunk sz n (jk sz l)with
   |none=>simp[ht,hc]at h
   |some rs'=>
    simp only[ht,hc]at h;cases h;obtain⟨t1,t2,t3⟩:=R8 ht;obtain⟨h1,h2,h3,h4⟩:=ih hc;rw[NO]at h2 h4;refine⟨by simp[h1],.inl ?_,λi row e=>?_,λi row j x e1 e2=>?_⟩
    ·grind
    ·grind
    ·cases i with
     |zero=>
      grind
     |succ i=>
      simp at e1
      grind
def pJ:Value→Option aa
 |.bool b=>some (.bool b)
 |.int k n=>some (.int k n)
 |.string s=>some (.str s.data.toList)
 |.pointer none=>some .fo
 |.slice none 0 0=>some .al
 |.map none=>some .cW
 |.nilFunc=>some .bK
 |.nilIface=>some .dw
 |_=>none
def ZN:List Value→Option (List aa)
 |[]=>some []
 |v::l=>match pJ v,ZN l with
  |some x,some r=>some (x::r)
  |_,_=>none
def qe:Value→Option aa
 |.agg cs=>(ZN cs.toList).map .agg
 |v=>pJ v
variable{x:aa}
variable{v:Value}
variable{c:Own}
variable{M:Nat→Option Obj}
theorem Yb2(h:pJ v=some x):Den M c x v:=by
 unfold pJ at h;split at h<;>first|(cases h;constructor)|cases h
theorem QV{l:List Value}{xs:List aa}(h:ZN l=some xs):l.length=xs.length∧∀(i:Nat) (x:aa) (v:Value),xs[i]?=some x→l[i]?=some v→Den M c x v:=by
 induction l generalizing xs with
 |nil=>simp_all [ZN]
 |cons v l ih=>
  grind [ZN,Yb2]
theorem NN(h:qe v=some x):Den M c x v:=by
 unfold qe at h;split at h
 ·rename_i cs;cases hc:ZN cs.toList with
  |none=>simp[hc]at h
  |some xs=>
   simp[hc]at h;subst h;obtain⟨h1,h2⟩:=QV (M:=M) (c:=c) hc;exact .agg _ _ _ (by simpa using h1) (λi x v e1 e2=>h2 i x v e1 (by simpa using e2))
 ·exact Yb2 h
abbrev Frame:=List (Nat×aa)
def bN:Frame→Nat→aa
 |[],_=>.aQ
 |(k,v)::r,n=>bif IT k n then v else bN r n
inductive sJ where
 |t (n:Nat)
 |c (v:aa)
 deriving Inhabited
def ev(ρ:Frame):sJ→aa
 |.t n=>bN ρ n
 |.c v=>v
inductive k_ (GL:aw):Operand→sJ→Prop
 |tmp (t:Nat):k_ GL (.tmp t) (.t t)
 |const (v:Value) (x:aa):qe v=some x→k_ GL (.const v) (.c x)
 |J6 (g:Nat) (row:List aa):(g,row)∈GL→k_ GL (.global g) (.c (.aq row 0))
 |func (f:FuncId):k_ GL (.func f) (.c (.func (.func f) [] []))
structure cX (n:Nat) (g:Gm) (ρ:Frame) (a:Act):Prop where
 size:a.tmps.size=n
 slot:∀t,g.den (bN ρ t) (a.tmps.getD t undef)
 defers:a.defers=[]
variable{a:Act}
variable{ρ:Frame}
variable{g:Gm}
theorem cX.mono{g':Gm}(h:cX n g ρ a)(hg:g.Le g'):cX n g' ρ a:=⟨h.size,λt=>Gm.l_ hg (h.slot t),h.defers⟩
theorem XT(ρ:Frame)(d:Nat)(v:aa)(t:Nat):bN ((d,v)::ρ) t=if t=d then v else bN ρ t:=by
 simp only[bN];by_cases h:t=d
 ·subst h;simp[zBf]
 ·rw[aB h]
  grind [fY]
theorem cX.put(h:cX n g ρ a){d:Nat}(hd:d<n)(hx:g.den x v):cX n g ((d,x)::ρ) (a.put (some d) v):=by
 refine⟨by simp[zDb,h.size],λt=>?_,h.defers⟩;rw[XT];have hs:=h.size;by_cases ht:t=d
 ·simp_all [zDb]
 ·rw[aB ht];have:(a.put (some d) v).tmps.getD t undef=a.tmps.getD t undef:=by
   simp[zDb,zBU,zBb (λe=>ht e.symm)]
  rw[this];exact h.slot t
theorem cX.opd{GL:aw}{w0:World}{L:Ln}{h:Hp}{w:World}(r:bx GL w0 L g h w)(d:cX n g ρ a){x:Operand}{y:sJ}(ok:k_ GL x y):g.den (ev ρ y) (a.eval x):=by
 cases ok with
 |tmp t=>exact d.slot t
 |const v x e=>exact NN e
 |J6 gl row e=>exact(r.cr _ e).mono (i9.refl _) (gD.bA _)
 |func f=>exact .func _ _ _ _ _ _ rfl rfl (by simp) (by simp)
inductive gj where
 |ptr|slice|iface|func|map
 deriving Inhabited
inductive MK where
 |mv
 |pick
 |alloc (z:List aa)
 |box
 |build (z:List aa) (ps:List (Nat×Nat))
 |mP (sz n:Nat) (z:List aa) (ps:List (Nat×Nat))
 |load (agg:Bool) (n:Nat)
 |store (n:Nat)
 |nilCheck
 |bin (op:BinOp) (isBool:Bool)
 |oG (c:gj) (neq left:Bool)
 |BO (neq:Bool) (ls:List Bool)
 |un (op:UnOp)
 |conv (k:IntKind)
 |jl (t:TypeId)
 |kF (fn:Fn) (n:Nat)
 |makeMap
 |fieldAddr (off:Nat)
 |field (agg:Bool) (off n:Nat)
 |hZ (len nd:Nat)
 |fK (nd:Nat)
 |se (agg:Bool) (len nd:Nat)
 |lM
 |extract (i:Nat)
 |cQ (nd:Nat) (lo hi mx:Bool)
 |fj (lo hi:Bool)
 |sj
 |kE
 |sg (n:Nat)
 |mV
 |min2
 |max2
 |append (nd bytes:Nat) (z:List aa)
 |call (f:FuncId)
 |kf
 |lookup (str ok:Bool) (z:aa)
 |lO (str:Bool)
 |range
 |next
 |fQ (t:TypeId) (ok:Bool) (z:aa)
 |invoke (name:String) (pq:List (TypeId×FuncId))
 |iN (nd:Nat) (z:List aa)
 |sk (nd bytes:Nat) (z:List aa)
 |lZ (nd:Nat)
 |bad
 |gR (pq:List TypeId)
 deriving Inhabited
def fV(P:Program)(t:TypeId):Option Bool:=
 match P.underlying t with
 |some (.struct _)=>some true
 |some (.array _ _)=>some true
 |some _=>some false
 |none=>none
def size?(P:Program)(t:TypeId):Option Nat:=(P.info? t).map (·.size)
def eA(P:Program)(t:TypeId):Option Value:=(P.info? t).bind (·.zero)
def fe(P:Program)(t:TypeId):Option TypeId:=
 match P.underlying t with
 |some (.slice e)=>some e
 |_=>none
def uW(P:Program)(t:TypeId):Option gj:=
 match P.underlying t with
 |some (.pointer _)=>some .ptr
 |some (.slice _)=>some .slice
 |some (.interface _)=>some .iface
 |some (.func _ _ _)=>some .func
 |some (.map _ _)=>some .map
 |_=>none
def kG:gj→Value
 |.ptr=>.pointer none
 |.slice=>.slice none 0 0
 |.iface=>.nilIface
 |.func=>.nilFunc
 |.map=>.map none
def nk(P:Program)(t:TypeId):Option Bool:=
 match P.underlying t with
 |some (.int _)=>some false
 |some .bool=>some true
 |_=>none
def qB(P:Program)(t:TypeId):Option (List Bool):=
 match P.underlying t with
 |some (.struct fs)=>
  if fs.toList.all (λf=>f.name != "_")&&(fs.toList.map (·.offset)==zBI 0 fs.toList.length)then fs.toList.mapM (λf=>nk P f.type)else none
 |_=>none
def Zh(P:Program)(f:FuncId):Bool:=
 match P.funcs[f]? with
 |some fn=>fn.name != "runtime.NumGoroutine" && fn.body.isSome
 |none=>false
def ND(P:Program)(name:String)(t:TypeId):Option FuncId:=
 match P.info? t with
 |none=>none
 |some i=>match i.methods.find? (·.name==name)with
  |none=>none
  |some m=>match m.path.isEmpty,m.func,P.underlying t with
   |true,some (f,true),some (.pointer _)=>some f
   |true,some (_,false),some (.pointer _)=>none
   |true,some (f,false),some _=>some f
   |_,_,_=>none
def Zdv(P:Program)(name:String):List (TypeId×FuncId):=(zAB P.types.size).filterMap λt=>match ND P name t with
 |some f=>bif Zh P f then some (t,f)else none
 |none=>none
def Iw(t:Nat):List (Nat×Nat)→Option Nat
 |[]=>none
 |(u,f)::r=>bif IT t u then some f else Iw t r
theorem Ru{t f:Nat}:∀ {l:List (Nat×Nat)},Iw t l=some f→(t,f)∈l
 |[],h=>by cases h
 |(u,g)::r,h=>by
  unfold Iw at h;cases hb:IT t u with
  |true=>rw[hb]at h;cases h;rw[fY hb];simp
  |false=>rw[hb]at h;exact zAr _ (Ru h)
def uR(P:Program)(k:TypeId):Bool→Prop
 |true=>P.underlying k=some .string
 |false=>∃q,P.underlying k=some (.int q)
inductive cu (P:Program) (GL:aw):Op→MK→List Operand→Prop
 |move (x:Operand):cu P GL (.move x) .mv [x]
 |assign (x:Operand):cu P GL (.assign x) .mv [x]
 |pick (c a b:Operand):cu P GL (.pick c a b) .pick [c,a,b]
 |alloc (t:TypeId) (v:Value) (z:List aa):eA P t=some v→ZN v.cells.toList=some z→cu P GL (.alloc t) (.alloc z) []
 |box (t:TypeId) (x:Operand):cu P GL (.box t x) .box [x]
 |buildStruct (t:TypeId) (fs:Array Field) (v:Value) (z:List aa) (parts:Array (Nat×Operand)) (places ps:List (Nat×Nat)) :
   P.underlying t=some (.struct fs)→eA P t=some v→ZN v.cells.toList=some z→fs.toList.mapM (λf=>(P.info? f.type).map λi=>(f.offset,i.size))=some places →
   parts.toList.map (λp=>places[p.1]?)=ps.map some→cu P GL (.build t parts) (.build z ps) (parts.toList.map (·.2))
 |oj (t:TypeId) (n:Nat) (e:TypeId) (v:Value) (z:List aa) (parts:Array (Nat×Operand)) (ps:List (Nat×Nat)) (sz:Nat) :
   P.underlying t=some (.array n e)→eA P t=some v→ZN v.cells.toList=some z→size? P e=some sz →
   parts.toList.map (λp=>(p.1*sz,sz))=ps→cu P GL (.build t parts) (.build z ps) (parts.toList.map (·.2))
 |buildSlice (t:TypeId) (n:Nat) (e:TypeId) (v:Value) (z0 z:List aa) (parts:Array (Nat×Operand)) (ps:List (Nat×Nat)) (sz:Nat) :
   fe P t=some e→size? P e=some sz→n*sz<=2 ^ 24→n*sz≠0→eA P e=some v→v.cells.size=sz→ZN v.cells.toList=some z0→(zAf n z0).flatten=z →
   parts.toList.map (λp=>(p.1*sz,sz))=ps→cu P GL (.buildSlice t n parts) (.mP sz n z ps) (parts.toList.map (·.2))
 |na (t e:TypeId) (sz:Nat) (parts:Array (Nat×Operand)):fe P t=some e→size? P e=some sz→parts.toList=[]→cu P GL (.buildSlice t 0 parts) (.lZ sz) []
 |makeSlice (t:TypeId) (l:Operand) (e:TypeId) (v:Value) (n by_:Nat) (z:List aa):fe P t=some e→size? P e=some n→(P.info? e).map (·.bytes)=some by_→n≠0→eA P e=some v→v.cells.size=n→ZN v.cells.toList=some z →
   cu P GL (.makeSlice t l l) (.sk n by_ z) [l]
 |load (t:TypeId) (x:Operand) (agg:Bool) (n:Nat):fV P t=some agg→size? P t=some n→cu P GL (.load t x) (.load agg n) [x]
 |store (t:TypeId) (x y:Operand) (n:Nat):size? P t=some n→cu P GL (.store t x y) (.store n) [x,y]
 |nilCheck (x:Operand):cu P GL (.nilCheck x) .nilCheck [x]
 |bin (op:BinOp) (t t':TypeId) (x y:Operand) (b:Bool):(b=true→P.underlying t=some .bool)→cu P GL (.binOp op t x y t') (.bin op b) [x,y]
 |wA (c:gj) (neq:Bool) (t t':TypeId) (x:Operand):uW P t=some c→cu P GL (.binOp (if neq then .neq else .eql) t x (.const (kG c)) t') (.oG c neq false) [x,.const (kG c)]
 |wz (c:gj) (neq:Bool) (t t':TypeId) (y:Operand):uW P t=some c→cu P GL (.binOp (if neq then .neq else .eql) t (.const (kG c)) y t') (.oG c neq true) [.const (kG c),y]
 |BO (neq:Bool) (t t':TypeId) (x y:Operand) (ls:List Bool):qB P t=some ls→P.stoodInHeld t=false→P.eqGuardType P.depth t=false →
   cu P GL (.binOp (if neq then .neq else .eql) t x y t') (.BO neq ls) [x,y]
 |un (op:UnOp) (t:TypeId) (x:Operand):cu P GL (.unOp op t x) (.un op) [x]
 |conv (s d:TypeId) (x:Operand) (k:IntKind):(P.underlying s).isSome=true→P.underlying d=some (.int k)→cu P GL (.convert s d x) (.conv k) [x]
 |jl (t:TypeId) (x:Operand):P.concrete t=true→cu P GL (.makeInterface t x) (.jl t) [x]
 |kF (fn:Fn) (xs ys:Array Operand):cu P GL (.makeFunc fn xs ys) (.kF fn xs.size) (xs.toList++ys.toList)
 |makeMap (t:TypeId):cu P GL (.makeMap t none) .makeMap []
 |fieldAddr (t:TypeId) (x:Operand) (f:Nat) (fs:Array Field) (fd:Field) (n:Nat):P.underlying t=some (.struct fs)→fs[f]?=some fd→size? P fd.type=some n→n≠0 →
   cu P GL (.fieldAddr t x f) (.fieldAddr fd.offset) [x]
 |field (t:TypeId) (x:Operand) (f:Nat) (fs:Array Field) (fd:Field) (agg:Bool) (n:Nat):P.underlying t=some (.struct fs)→fs[f]?=some fd→size? P fd.type=some n→fV P fd.type=some agg →
   cu P GL (.field t x f) (.field agg fd.offset n) [x]
 |hZ (t:TypeId) (x i:Operand) (len:Nat) (e:TypeId) (n:Nat):P.underlying t=some (.array len e)→size? P e=some n→cu P GL (.indexAddr t x i) (.hZ len n) [x,i]
 |fK (t:TypeId) (x i:Operand) (e:TypeId) (n:Nat):P.underlying t=some (.slice e)→size? P e=some n→cu P GL (.indexAddr t x i) (.fK n) [x,i]
 |se (t:TypeId) (x i:Operand) (len:Nat) (e:TypeId) (n:Nat) (agg:Bool):P.underlying t=some (.array len e)→size? P e=some n→fV P e=some agg →
   cu P GL (.index t x i) (.se agg len n) [x,i]
 |lM (t:TypeId) (x i:Operand):P.underlying t=some .string→cu P GL (.index t x i) .lM [x,i]
 |extract (x:Operand) (i:Nat):cu P GL (.extract x i) (.extract i) [x]
 |cQ (t:TypeId) (x:Operand) (lo hi mx:Option Operand) (e:TypeId) (n:Nat):P.underlying t=some (.slice e)→size? P e=some n →
   cu P GL (.slice t x lo hi mx) (.cQ n lo.isSome hi.isSome mx.isSome) ([x]++lo.toList++hi.toList++mx.toList)
 |fj (t:TypeId) (x:Operand) (lo hi:Option Operand):P.underlying t=some .string →
   cu P GL (.slice t x lo hi none) (.fj lo.isSome hi.isSome) ([x]++lo.toList++hi.toList)
 |sj (t e:TypeId) (x:Operand):P.underlying t=some (.slice e)→cu P GL (.call ⟨.builtin .len,#[x],#[t]⟩) .sj [x]
 |kE (t:TypeId) (x:Operand):P.underlying t=some .string→cu P GL (.call ⟨.builtin .len,#[x],#[t]⟩) .kE [x]
 |sg (t e:TypeId) (n:Nat) (x:Operand):P.underlying t=some (.array n e)→cu P GL (.call ⟨.builtin .len,#[x],#[t]⟩) (.sg n) [x]
 |mV (t k e:TypeId) (x:Operand):P.underlying t=some (.map k e)→cu P GL (.call ⟨.builtin .len,#[x],#[t]⟩) .mV [x]
 |min2 (ts:Array TypeId) (x y:Operand):cu P GL (.call ⟨.builtin .min,#[x,y],ts⟩) .min2 [x,y]
 |max2 (ts:Array TypeId) (x y:Operand):cu P GL (.call ⟨.builtin .max,#[x,y],ts⟩) .max2 [x,y]
 |append (t t' e:TypeId) (x y:Operand) (n by_:Nat) (v:Value) (z:List aa):P.underlying t=some (.slice e)→(∃d,P.underlying t'=some d∧(∀k,d≠.int k))→size? P e=some n→P.bytesOf e=by_→eA P e=some v →
   v.cells.size=n→ZN v.cells.toList=some z→by_≠0→n≠0→cu P GL (.call ⟨.builtin .append,#[x,y],#[t,t']⟩) (.append n by_ z) [x,y]
 |call (f:FuncId) (xs:Array Operand) (ts:Array TypeId):Zh P f=true→cu P GL (.call ⟨.value (.func f),xs,ts⟩) (.call f) xs.toList
 |kf (x:Operand) (xs:Array Operand) (ts:Array TypeId):cu P GL (.call ⟨.value x,xs,ts⟩) .kf (x::xs.toList)
 |invoke (x:Operand) (name:String) (xs:Array Operand) (ts:Array TypeId) (pq:List (TypeId×FuncId)):(∀p∈pq,ND P name p.1=some p.2∧Zh P p.2=true)→cu P GL (.call ⟨.invoke x name,xs,ts⟩) (.invoke name pq) (x::xs.toList)
 |lookup (t k e:TypeId) (x i:Operand) (str ok:Bool) (v:Value) (z:aa):P.underlying t=some (.map k e)→uR P k str→eA P e=some v→qe v=some z →
   cu P GL (.lookup t x i ok) (.lookup str ok z) [x,i]
 |mapUpdate (t k e:TypeId) (x i y:Operand) (str:Bool):P.underlying t=some (.map k e)→uR P k str→cu P GL (.mapUpdate t x i y) (.lO str) [x,i,y]
 |mapInsert (t k e:TypeId) (x i y:Operand) (str:Bool):P.underlying t=some (.map k e)→uR P k str→cu P GL (.insert t x i y) (.lO str) [x,i,y]
 |iN (t e:TypeId) (x:Operand) (n:Nat) (v:Value) (z:List aa):fe P t=some e→size? P e=some n→n≠0→eA P e=some v→v.cells.size=n→ZN v.cells.toList=some z →
   cu P GL (.call ⟨.builtin .clear,#[x],#[t]⟩) (.iN n z) [x]
 |range (t:TypeId) (x:Operand):P.underlying t=some .string→cu P GL (.range t x) .range [x]
 |next (x:Operand):cu P GL (.next x true) .next [x]
 |fQ (x:Operand) (t u:TypeId) (ok:Bool) (v:Value) (z:aa):P.concrete u=true→(P.underlying u).isSome=true→eA P u=some v→qe v=some z→cu P GL (.typeAssert x t u ok) (.fQ u ok z) [x]
 |bad (o:Op):cu P GL o .bad []
 |gR (x:Operand) (t u:TypeId) (ms:Array (String×TypeId)) (pq:List TypeId):P.underlying u=some (.interface ms)→eA P u=some .nilIface→(∀q∈pq,∃i,P.info? q=some i∧Instr.missingMethod ms i.methods=none)→cu P GL (.typeAssert x t u true) (.gR pq) [x]
inductive aN where
 |ok (v:aa) (rd:List Nat) (up:List (Nat×ab))
 |stop
abbrev KT:=aa→List ab→Prop
abbrev nA:=List aa→List ab→Prop
def ai:List ab→Nat→ab
 |[],_=>.dead
 |b::_,0=>b
 |_::l,n+1=>ai l n
def cellsOf:aa→Option (List aa)
 |.agg cs=>bif cs.all aa.cell then some cs else none
 |.aQ=>none
 |.bp _=>none
 |.when ..=>none
 |x=>some [x]
def fill:List aa→List (Nat×Nat)→List aa→Option (List aa)
 |z,[],[]=>some z
 |z,(off,sz)::ps,x::xs=>match cellsOf x with
  | some cs=>bif IT cs.length sz && !(IT sz 0)then (match bX off cs z with
   |some z'=>fill z' ps xs
   | none=>none)else none
  |none=>none
 |_,_,_=>none
def j7:IntKind→IntKind→Bool
 |.i8,.i8 | .i16,.i16 | .i32,.i32 | .i64,.i64 | .u8,.u8 | .u16,.u16 | .u32,.u32 | .u64,.u64=>true
 |_,_=>false
theorem zA{a b:IntKind}(h:j7 a b=true):a=b:=by cases a<;>cases b<;>first|rfl|cases h
def nC(op:BinOp)(k:IntKind)(a b:Int):Option aa:=
 match op with
 |.add=>some (.int k (k.wrap (a+b)))
 |.sub=>some (.int k (k.wrap (a-b)))
 |.mul=>some (.int k (k.wrap (a*b)))
 |.eql=>some (.bool (a==b))
 |.neq=>some (.bool (a != b))
 |.lss=>some (.bool (a<b))
 |.leq=>some (.bool (a<=b))
 |.gtr=>some (.bool (a>b))
 |.geq=>some (.bool (a >= b))
 |.and=>some (.int k (bits .and k a b))
 |.or=>some (.int k (bits .or k a b))
 |.xor=>some (.int k (bits .xor k a b))
 |.andNot=>some (.int k (bits .andNot k a b))
 |_=>none
def zD(op:BinOp)(k k':IntKind)(a b:Int):Option aa:=
 match b with
 |.ofNat n=>match op with
  |.shl=>some (.int k (k.wrap (a*2 ^ (min n k.bits))))
  |.shr=>some (.int k (a.fdiv (2 ^ (min n k.bits))))
  |.quo=>bif IT n 0 then none else bif j7 k k' then some (.int k (k.wrap (a.tdiv (.ofNat n))))else none
  |.rem=>bif IT n 0 then none else bif j7 k k' then some (.int k (a.tmod (.ofNat n)))else none
  |_=>none
 |.negSucc n=>match op with
  |.quo=>bif j7 k k' then some (.int k (k.wrap (a.tdiv (.negSucc n))))else none
  |.rem=>bif j7 k k' then some (.int k (a.tmod (.negSucc n)))else none
  |_=>none
def nV:gj→aa→Option Bool
 |.ptr,.fo=>some true
 |.ptr,.ak ..=>some false
 |.ptr,.ptr ..=>some false
 |.ptr,.aq ..=>some false
 |.slice,.al=>some true
 |.slice,.aW _ true _ _=>some false
 |.slice,.aW _ false _ (_::_)=>some false
 |.slice,.sl _ _ (_+1) _=>some false
 |.func,.func ..=>some false
 |.func,.bK=>some true
 |.iface,.iface ..=>some false
 |.iface,.dw=>some true
 |.map,.map _=>some false
 |.map,.fN _=>some false
 |.map,.cW=>some true
 |_,_=>none
def GK:Bool→aa→aa→Option Bool
 |false,.int k a,.int k' b=>bif j7 k k' then some (a==b)else none
 |true,.bool a,.bool b=>some (a==b)
 |_,_,_=>none
def YZ:List Bool→List aa→List aa→Option Bool
 |[],[],[]=>some true
 |l::ls,x::xs,y::ys=>match GK l x y,YZ ls xs ys with
  |some a,some b=>some (a&&b)
  |_,_=>none
 |_,_,_=>none
def aK(agg:Bool)(off n:Nat)(cs:List aa):Option aa:=
 match agg with
 |true=>match takeN n (jk off cs)with
  |some r=>some (.agg r)
  |none=>none
 |false=>nth cs off
def rl(xs:List aa)(σ:List ab):aN:=match xs with
  |[x]=>.ok x [] []
  |_=>.stop
def PO(xs:List aa)(σ:List ab):aN:=match xs with
  |[.bool c,.bool a,.bool b]=>.ok (.bool (bif c then a else b)) [] []
  |_=>.stop
def Zs(z:List aa)(xs:List aa)(σ:List ab):aN:=match xs with
  |[]=>.ok (.ak σ.length 0) [] [(σ.length,.box z)]
  |_=>.stop
def ub(xs:List aa)(σ:List ab):aN:=match xs with
  |[x]=>match cellsOf x with
   |some cs=>.ok (.ak σ.length 0) [] [(σ.length,.box cs)]
   |none=>.stop
  |_=>.stop
def ZO(z:List aa)(ps:List (Nat×Nat))(xs:List aa)(σ:List ab):aN:=match fill z ps xs with
  |some cs=>.ok (.agg cs) [] []
  |none=>.stop
def Xq(sz:Nat)(n:Nat)(z:List aa)(ps:List (Nat×Nat))(xs:List aa)(σ:List ab):aN:=match fill z ps xs with
  |some cs=>match chunk sz n cs with
   |some rs=>.ok (.sl σ.length 0 n true) [] [(σ.length,.rows sz rs)]
   |none=>.stop
  |none=>.stop
def QP(sz:Nat)(xs:List aa)(σ:List ab):aN:=match xs with
  |[]=>.ok (.aW true true sz []) [] []
  |_=>.stop
def Rp(agg:Bool)(n:Nat)(xs:List aa)(σ:List ab):aN:=match xs with
  |[.ak b j]=>match ai σ b with
   |.box row=>match aK agg j n row with
    |some v=>.ok v [b] []
    |none=>.stop
   |_=>.stop
  |[.aq row j]=>match aK agg j n row with
   |some v=>.ok v [] []
   |none=>.stop
  |_=>.stop
def Sh(n:Nat)(xs:List aa)(σ:List ab):aN:=match xs with
  |[.ak b j,x]=>match ai σ b with
   |.box row=>match cellsOf x with
    | some cs=>bif IT cs.length n then (match bX j cs row with
     |some row'=>.ok .aQ [] [(b,.box row')]
     | none=>.stop)else .stop
    |none=>.stop
   |_=>.stop
  |_=>.stop
def Ql(xs:List aa)(σ:List ab):aN:=match xs with
  |[.ak b j]=>.ok (.ak b j) [] []
  |[.ptr b i j]=>.ok (.ptr b i j) [] []
  |[.aq row j]=>.ok (.aq row j) [] []
  |[.func (.func f) a b]=>.ok (.func (.func f) a b) [] []
  |[.iface t v]=>.ok (.iface t v) [] []
  |_=>.stop
def Zn(op:BinOp)(isBool:Bool)(xs:List aa)(σ:List ab):aN:=match xs with
  |[.int k a,.int k' b]=>match (bif j7 k k' then nC op k a b else none)with
   |some v=>.ok v [] []
   |none=>match zD op k k' a b with
    |some v=>.ok v [] []
    |none=>.stop
  |[.str a,.str b]=>match op with
   |.eql=>.ok (.bool (a==b)) [] []
   |.neq=>.ok (.bool (!(a==b))) [] []
   |.add=>bif zAR (a.length+b.length) 1099511627776 then .ok (.str (a++b)) [] []else .stop
   |_=>.stop
  | [.bool a,.bool b]=>bif isBool then (match op with
   |.eql=>.ok (.bool (a==b)) [] []
   |.neq=>.ok (.bool (!(a==b))) [] []
   | _=>.stop)else .stop
  |_=>.stop
def PW(c:gj)(neq:Bool)(left:Bool)(xs:List aa)(σ:List ab):aN:=match xs with
  |[x,y]=>match nV c (bif left then y else x)with
   |some b=>.ok (.bool (bif neq then !b else b)) [] []
   |none=>.stop
  |_=>.stop
def CJ(neq:Bool)(ls:List Bool)(xs:List aa)(σ:List ab):aN:=match xs with
  |[.agg a,.agg b]=>match YZ ls a b with
   |some r=>.ok (.bool (bif neq then !r else r)) [] []
   |none=>.stop
  |_=>.stop
def t_(op:UnOp)(xs:List aa)(σ:List ab):aN:=match xs with
  |[.bool b]=>match op with
   |.not=>.ok (.bool (!b)) [] []
   |_=>.stop
  |[.int k n]=>match op with
   |.neg=>.ok (.int k (k.wrap (0-n))) [] []
   |.xor=>.ok (.int k (bits .xor k (if k.signed then -1 else k.max) n)) [] []
   |_=>.stop
  |_=>.stop
def G0(k:IntKind)(xs:List aa)(σ:List ab):aN:=match xs with
  |[.int _ n]=>.ok (.int k (k.wrap n)) [] []
  |_=>.stop
def XG(t:TypeId)(xs:List aa)(σ:List ab):aN:=match xs with
  |[x]=>.ok (.iface t x) [] []
  |_=>.stop
def YU(fn:Fn)(n:Nat)(xs:List aa)(σ:List ab):aN:=match takeN n xs with
  |some a=>.ok (.func fn a (jk n xs)) [] []
  |none=>.stop
def ZQ(xs:List aa)(σ:List ab):aN:=match xs with
  |[]=>.ok (.map σ.length) [] [(σ.length,.map [])]
  |_=>.stop
def Zc(off:Nat)(xs:List aa)(σ:List ab):aN:=match xs with
  |[.ak b j]=>.ok (.ak b (j+off)) [] []
  |[.ptr b i j]=>.ok (.ptr b i (j+off)) [] []
  |[.aq row j]=>.ok (.aq row (j+off)) [] []
  |_=>.stop
def Q9(agg:Bool)(off:Nat)(n:Nat)(xs:List aa)(σ:List ab):aN:=match xs with
  |[.agg cs]=>match aK agg off n cs with
   |some v=>.ok v [] []
   |none=>.stop
  |_=>.stop
def Yk(len:Nat)(nd:Nat)(xs:List aa)(σ:List ab):aN:=match xs with
  |[.ak b j,.int _ (.ofNat i)]=>bif zAn i len then .ok (.ak b (j+i*nd)) [] []else .stop
  |[.ptr b r j,.int _ (.ofNat i)]=>bif zAn i len then .ok (.ptr b r (j+i*nd)) [] []else .stop
  |[.aq row j,.int _ (.ofNat i)]=>bif zAn i len then .ok (.aq row (j+i*nd)) [] []else .stop
  |_=>.stop
def SZ(agg:Bool)(len:Nat)(nd:Nat)(xs:List aa)(σ:List ab):aN:=match xs with
  | [.agg cs,.int _ (.ofNat i)]=>bif zAn i len then (match aK agg (i * nd) nd cs with
   |some v=>.ok v [] []
   | none=>.stop)else .stop
  |_=>.stop
def Qj(i:Nat)(xs:List aa)(σ:List ab):aN:=match xs with
  |[.bp vs]=>match nth vs i with
   |some v=>.ok v [] []
   |none=>.stop
  |_=>.stop
def Yn(xs:List aa)(σ:List ab):aN:=match xs with
  |[.al]=>.ok (.int .i64 0) [] []
  |[.cY]=>.ok (.int .i64 0) [] []
  |[.sl _ _ n _]=>.ok (.int .i64 n) [] []
  |[.aW _ _ _ rows]=>.ok (.int .i64 rows.length) [] []
  |_=>.stop
def ZU(xs:List aa)(σ:List ab):aN:=match xs with
  |[.str s]=>.ok (.int .i64 s.length) [] []
  |_=>.stop
def OK(n:Nat)(xs:List aa)(σ:List ab):aN:=match xs with
  |[_]=>.ok (.int .i64 n) [] []
  |_=>.stop
def R9(xs:List aa)(σ:List ab):aN:=match xs with
  |[.cW]=>.ok (.int .i64 0) [] []
  |[.map b]=>match ai σ b with
   |.map es=>.ok (.int .i64 es.length) [b] []
   |_=>.stop
  |[.fN es]=>.ok (.int .i64 es.length) [] []
  |_=>.stop
def IG(xs:List aa)(σ:List ab):aN:=match xs with
  |[.int k a,.int _ b]=>.ok (.int k (if b<a then b else a)) [] []
  |_=>.stop
def I7(xs:List aa)(σ:List ab):aN:=match xs with
  |[.int k a,.int _ b]=>.ok (.int k (if b>a then b else a)) [] []
  |_=>.stop
def S6(xs:List aa)(σ:List ab):aN:=match xs with
  |[.str s]=>.ok (.iter σ.length) [] [(σ.length,.fz s 0)]
  |_=>.stop
def XP(t:TypeId)(ok:Bool)(z:aa)(xs:List aa)(σ:List ab):aN:=match xs with
  |[.iface u v]=>bif IT u t then .ok (bif ok then .bp [v,.bool true]else v) [] []else (bif ok then .ok (.bp [z,.bool false]) [] []else .stop)
  |[.dw]=>bif ok then .ok (.bp [z,.bool false]) [] []else .stop
  |_=>.stop
def kY:List Nat→Nat→Bool
 |[],_=>false
 |x::l,n=>IT x n||kY l n
theorem Qdu:∀ {l:List Nat} {n:Nat},kY l n=true→n∈l
 |[],_,h=>by cases h
 |x::l,n,h=>by
  simp only[kY,Bool.or_eq_true]at h;rcases h with h|h
  ·rw[fY h];simp
  ·exact zAr _ (Qdu h)
def Tg(pq:List TypeId)(xs:List aa)(σ:List ab):aN:=match xs with
  |[.iface u v]=>bif kY pq u then .ok (.bp [.iface u v,.bool true]) [] []else .stop
  |[.dw]=>.ok (.bp [.dw,.bool false]) [] []
  |_=>.stop
def sn(k:MK)(xs:List aa)(σ:List ab):aN:=
 match k with
 |.mv=>rl xs σ
 |.pick=>PO xs σ
 |.alloc z=>Zs z xs σ
 |.box=>ub xs σ
 |.build z ps=>ZO z ps xs σ
 |.mP sz n z ps=>Xq sz n z ps xs σ
 |.lZ sz=>QP sz xs σ
 |.load agg n=>Rp agg n xs σ
 |.store n=>Sh n xs σ
 |.nilCheck=>Ql xs σ
 |.bin op isBool=>Zn op isBool xs σ
 |.oG c neq left=>PW c neq left xs σ
 |.BO neq ls=>CJ neq ls xs σ
 |.un op=>t_ op xs σ
 |.conv k=>G0 k xs σ
 |.jl t=>XG t xs σ
 |.kF fn n=>YU fn n xs σ
 |.makeMap=>ZQ xs σ
 |.fieldAddr off=>Zc off xs σ
 |.field agg off n=>Q9 agg off n xs σ
 |.hZ len nd=>Yk len nd xs σ
 |.se agg len nd=>SZ agg len nd xs σ
 |.extract i=>Qj i xs σ
 |.sj=>Yn xs σ
 |.kE=>ZU xs σ
 |.sg n=>OK n xs σ
 |.mV=>R9 xs σ
 |.min2=>IG xs σ
 |.max2=>I7 xs σ
 |.range=>S6 xs σ
 |.fQ t ok z=>XP t ok z xs σ
 |.gR pq=>Tg pq xs σ
 |_=>.stop
end Go.Ah
end
section
namespace Go.Ah
def dR(g:Gm):List aa→List Value→Prop
 |[],[]=>True
 |x::xs,v::vs=>g.den x v∧dR g xs vs
 |_,_=>False
variable{g:Gm}
theorem dR.mono{g':Gm}(h:g.Le g'):∀ {xs:List aa} {vs:List Value},dR g xs vs→dR g' xs vs
 |[],[],_=>trivial
 |_::_,_::_,⟨d,r⟩=>⟨Gm.l_ h d,dR.mono h r⟩
theorem dR.length:∀ {xs:List aa} {vs:List Value},dR g xs vs→xs.length=vs.length
 |[],[],_=>rfl
 |_::_,_::_,⟨_,r⟩=>by simp[dR.length r]
theorem dR.get:∀ {xs:List aa} {vs:List Value},dR g xs vs→∀(i:Nat) (x:aa) (v:Value),xs[i]?=some x→vs[i]?=some v→g.den x v
 |[],[],_,_,_,_,e,_=>by simp at e
 |x::xs,v::vs,⟨d,r⟩,i,y,u,e1,e2=>by
  cases i with
  |zero=>simp at e1 e2;subst e1 e2;exact d
  |succ i=>simp at e1 e2;exact dR.get r i y u e1 e2
theorem dR.lR:∀ {xs:List aa} {vs:List Value},xs.length=vs.length→(∀(i:Nat) (x:aa) (v:Value),xs[i]?=some x→vs[i]?=some v→g.den x v)→dR g xs vs
 |[],[],_,_=>trivial
 |[],_::_,e,_=>by simp at e
 |_::_,[],e,_=>by simp at e
 |x::xs,v::vs,e,h=>⟨h 0 x v rfl rfl,dR.lR (by simpa using e) (λi y u e1 e2=>h (i+1) y u (by simpa using e1) (by simpa using e2))⟩
def Out(P:Program)(GL:aw)(w0:World)(L:Ln)(g:Gm)(h':Hp)(x:aa):Result Next→Prop
 |.ok (.value u) w'=>∃g',g.Le g'∧bx GL w0 L g' h' w'∧g'.den x u
 |.ok .skip w'=>∃g',g.Le g'∧bx GL w0 L g' h' w'∧x=.aQ
 |.ok (.enter f args) w'=>Calls P f args w' λe ym=>∃u,e=.returned u∧∃g',g.Le g'∧bx GL w0 L g' h' ym∧g'.den x u
 |_=>False
def aD(P:Program)(GL:aw)(k:MK)(xs:List aa)(h0:Hp)(v:aa)(rd:List Nat)(up:List (Nat×ab)):Prop:=
 ∀(o:Oper) (os:List Operand),cu P GL o.op k os→∀(w0:World) (L:Ln) (g:Gm) (h:Hp) (w:World) (a:Act),bx GL w0 L g h w→dR g xs (os.map a.eval) →
  (∀b∈rd,h b=h0 b)→(∀p∈up,h p.1=h0 p.1)→Out P GL w0 L g (cz h up) v ((execOp a.eval o).run P w)
def hp(σ:List ab):Hp:=λb=>σ[b]?
theorem yx(σ:List ab):hp σ σ.length=none:=by simp[hp]
theorem X8{σ:List ab}{b:Nat}{x:ab}(h:ai σ b=x)(hx:x≠.dead):hp σ b=some x:=by
 unfold hp
 induction σ generalizing b with
 |nil=>simp_all [ai]
 |cons y σ ih=>cases b<;>simp_all [ai]
section
variable {P:Program} {GL:aw}
variable{x:aa}
theorem Out.here{w0:World}{L:Ln}{h:Hp}{w:World}{u:Value}(r:bx GL w0 L g h w)(d:g.den x u):Out P GL w0 L g (cz h []) x (.ok (.value u) w):=
 ⟨g,Gm.Le.refl g,r,d⟩
theorem R2(x:aa)(h0:Hp):aD P GL .mv [x] h0 x [] []:=by
 intro o os hc w0 L g h w a r hx _ _;generalize ho:o.op=op at hc;cases hc with
 |move y=>simp only[execOp,ho,zAA];exact Out.here r hx.1
 |assign y=>simp only[execOp,ho,zAA];exact Out.here r hx.1
variable{v:Value}
theorem YE{b:Bool}(h:g.den (.bool b) v):v=.bool b:=by cases h;rfl
theorem Xp{k:IntKind}{n:Int}(h:g.den (.int k n) v):v=.int k n:=by cases h;rfl
theorem yt{s:List UInt8}(h:g.den (.str s) v):∃t:ByteArray,v=.string t∧t.data.toList=s:=by cases h;exact⟨_,rfl,rfl⟩
theorem Yd1(c x y:Bool)(h0:Hp):aD P GL .pick [.bool c,.bool x,.bool y] h0 (.bool (bif c then x else y)) [] []:=by
 intro o os hc w0 L g h w a r hx _ _;generalize ho:o.op=op at hc;cases hc with
 |pick oc oa ob=>
  obtain⟨h1,h2,h3,_⟩:=hx;have e1:=YE h1;have e2:=YE h2;have e3:=YE h3;simp only[execOp,ho,e1,e2,e3,asBool];simp
  grind [Out.here]
variable{t:TypeId}
theorem A8(h:eA P t=some v)(w:World):(zeroValue t).run P w=.ok v w:=by
 unfold eA at h;unfold zeroValue typeInfo;cases hi:P.info? t<;>simp_all
theorem XE{n:Nat}(h:size? P t=some n)(w:World):(sizeOf t).run P w=.ok n w:=by
 unfold size? at h;unfold sizeOf typeInfo;cases hi:P.info? t<;>simp_all
theorem Y9{b:Bool}(h:fV P t=some b)(w:World):(isAgg t).run P w=.ok b w:=by
 unfold fV at h;unfold isAgg;cases hu:P.underlying t with
 |none=>simp[hu]at h
 |some d=>
  simp only[OF,run_underlying hu,AS];cases d<;>simp_all
theorem YcK(h:Hp)(b:Nat)(x:ab):cz h [(b,x)]=eo h b x:=rfl
theorem bx.box{w0:World}{L:Ln}{h:Hp}{w:World}(r:bx GL w0 L g h w){nb:Nat}(hn:h nb=none)(row:List aa)(arr:Array Value)(T:TypeId)
 (hs:arr.size=row.length)(hd:∀(j:Nat) (x:aa) (v:Value),row[j]?=some x→arr[j]?=some v→g.den x v) :
  ∃g',g.Le g'∧bx GL w0 L g' (eo h nb (.box row)) (w.alloc (.cells arr T))∧g'.den (.ak nb 0) (.pointer (some ⟨w.heap.size,0,none⟩)):=by
 refine⟨_,r.kv hn ⟨w.heap.size,0,0,false,0⟩,r.alloc hn (cb:=⟨w.heap.size,0,0,false,0⟩) rfl rfl rfl ⟨arr,T,rfl,hs,λj x v e1 e2=>?_⟩,.ak _ _ _ _ (Xz _ _ _)⟩;exact Gm.l_ (r.kv hn ⟨w.heap.size,0,0,false,0⟩) (hd j x v e1 e2)
theorem Zdf(h:v.oneCell'=true):v.cells = #[v]:=by cases v<;>simp_all [Value.cells,Value.oneCell']
theorem NT{cs:List aa}(h:cellsOf x=some cs)(d:g.den x v) :
  v.cells.size=cs.length∧(∀(j:Nat) (y:aa) (u:Value),cs[j]?=some y→v.cells[j]?=some u→g.den y u)∧(∀y∈cs,y.cell=true):=by
 have one:∀y:aa,y.cell=true→cellsOf y=some [y]→cellsOf y=some cs→g.den y v →
   v.cells.size=cs.length∧(∀(j:Nat) (y:aa) (u:Value),cs[j]?=some y→v.cells[j]?=some u→g.den y u)∧(∀y∈cs,y.cell=true):=by
  intro y hy e1 e2 dy;rw[e1]at e2;cases e2;have hc:=Zdf (Den.uK dy hy)
  grind
 cases x with
 |agg xs=>
  simp only[cellsOf]at h;cases ha:xs.all aa.cell with
  |false=>simp[ha]at h
  |true=>
   simp[ha]at h;subst h;cases d with
   |agg _ _ vs h1 h2=>exact⟨h1,λj y u e1 e2=>h2 j y u e1 e2,by simpa[List.all_eq_true]using ha⟩
 |aQ=>simp[cellsOf]at h
 |bp vs=>simp[cellsOf]at h
 |when cs x=>simp[cellsOf]at h
 |_=>exact one _ rfl rfl h d
theorem Nr{l:List Value}{xs:List aa}(h:ZN l=some xs):∀y∈xs,y.cell=true:=by
 induction l generalizing xs with
 |nil=>simp only[ZN]at h;cases h;simp
 |cons v l ih=>
  simp only[ZN]at h;cases hv:pJ v with
  |none=>simp[hv]at h
  |some x=>
   cases hl:ZN l with
   |none=>simp[hv,hl]at h
   |some r=>
    simp only[hv,hl]at h;cases h;intro y hy;rcases List.mem_cons.1 hy with rfl|hy
    ·unfold pJ at hv;split at hv<;>first|(cases hv;rfl)|cases hv
    ·exact ih hl y hy
theorem Qdz(z:List aa)(h0:Hp)(nb:Nat)(hn:h0 nb=none):aD P GL (.alloc z) [] h0 (.ak nb 0) [] [(nb,.box z)]:=by
 intro o os hc w0 L g h w a r _ _ gO;have jT:h nb=none:=by simp_all
 generalize ho:o.op=op at hc;cases hc with
 |alloc t v z hz dN=>
  simp only[execOp,ho,Instr.alloc,OF,A8 hz,AS,newVar,newRow,run_newObj,zAA];obtain⟨h1,h2⟩:=QV (M:=g.M) (c:=g.c) dN;exact bx.box r jT z v.cells t (by simpa using h1) (λj x u e1 e2=>h2 j x u e1 (by simpa using e2))
theorem Zem(x:aa)(cs:List aa)(gH:cellsOf x=some cs)(h0:Hp)(nb:Nat)(hn:h0 nb=none):aD P GL .box [x] h0 (.ak nb 0) [] [(nb,.box cs)]:=by
 intro o os hc w0 L g h w a r hx _ gO;have jT:h nb=none:=by simp_all
 generalize ho:o.op=op at hc;cases hc with
 |box t y=>
  simp only[execOp,ho,Instr.box,newVar,newRow,OF,run_newObj,AS,zAA];obtain⟨h1,h2,_⟩:=NT gH hx.1;exact bx.box r jT cs _ t h1 h2
theorem IK{agg:Bool}{off n:Nat}{cs:List aa}{arr:Array Value}(h:aK agg off n cs=some x)(hlen:cs.length<=arr.size)
 (hd:∀(j:Nat) (y:aa) (u:Value),cs[j]?=some y→arr[j]?=some u→g.den y u) :
  (agg=true→(n≠0→off+n<=arr.size)∧g.den x (.agg (arr.extract off (off+n))))∧(agg=false→∃u,arr[off]?=some u∧g.den x u):=by
 cases agg with
 |true=>
  simp only[aK]at h;cases ht:takeN n (jk off cs)with
  |none=>simp[ht]at h
  |some r=>
   simp only[ht]at h;cases h;obtain⟨h1,h2,h3⟩:=R8 ht;rw[NO,zDC]at h2;refine⟨λ_=>⟨λhn=>by omega,?_⟩,by simp⟩;refine .agg _ _ _ (by simp;omega) (λj y u e1 e2=>?_);have hj:j<n:=by grind
   rw[h3 j hj,NO,zCt]at e1;have cc:off+j<arr.size:=by omega
   refine hd _ y u e1 ?_
   grind
 |false=>
  simp only[aK,Y3]at h;refine⟨by simp,λ_=>?_⟩;have cc:off<arr.size:=by grind
  exact⟨arr[off],by simp[cc],hd off x _ h (by simp[cc])⟩
end
end Go.Ah
end
section
namespace Go.Ah
section
variable {P:Program} {GL:aw}
theorem ZW(b o n:Nat):zDz ⟨b,o,none⟩ n=⟨b,o+n,none⟩:=by
 unfold zDz;split<;>simp_all
variable{b:Nat}
variable{w:World}
theorem Rt{t:TypeId}{agg:Bool}{n:Nat}(ha:fV P t=some agg)(hn:size? P t=some n){arr:Array Value}{T:TypeId}{fr:Nat×Nat}
 (hb:∀o v,arr[o]?=some v→w.cell? ⟨b,o,none⟩=some v)(off:Nat) :
  (agg=true→(n≠0→off+n<=arr.size)→(loadVar t ⟨b,off,none⟩).run P w=.ok (.agg (arr.extract off (off+n))) w) ∧
  (agg=false→∀v,arr[off]?=some v→(loadVar t ⟨b,off,none⟩).run P w=.ok v w):=by
 have _:=T;have _:=fr;constructor
 ·rintro rfl hle;have hl:=run_loadCells_list (P:=P) w ⟨b,off,none⟩ (arr.extract off (off + n)).toList (λj v e=>by
   grind [ZW])
  have hlen:(arr.extract off (off+n)).toList.length=n:=by
   grind
  rw[hlen]at hl;simp only[loadVar,OF,Y9 ha,AS,zDo,if_true,XE hn,hl,zAA,zCB]
 simp_all [loadVar,Y9]
theorem X6{arr:Array Value}{T:TypeId}{fr:Nat×Nat}(h:w.heap[b]?=some (.cells arr T fr)):∀o v,arr[o]?=some v→w.cell? ⟨b,o,none⟩=some v:=by
 grind [cell_of_row]
theorem Ych(agg:Bool)(n b j:Nat)(row:List aa)(v:aa)(h0:Hp)(hb:h0 b=some (.box row))(hv:aK agg j n row=some v) :
  aD P GL (.load agg n) [.ak b j] h0 v [b] []:=by
 intro o os hc w0 L g h w a r hx cO _;have cj:h b=some (.box row):=by simp_all
 generalize ho:o.op=op at hc;cases hc with
 |load t x _ _ ha hn=>
  have d:=hx.1;generalize hu:a.eval x=u0 at d;cases d with
  |ak _ _ _ cb ec=>
  cases b_:cb.cR with
  |true=>have:=r.bn b _ cb cj rfl ec b_;cases this
  |false=>
  obtain⟨_,_,o',fR,arr,T,rfl,hs,c_⟩:=r.own b _ cb cj rfl ec b_;obtain⟨p1,p2⟩:=IK (g:=g) hv (by omega) c_;obtain⟨l1,l2⟩:=Rt ha hn (T:=T) (fr:=(0,0)) (X6 fR) j;cases agg with
  |true=>
   simp_all [execOp,zCU,zBW,Out.here]
  |false=>
   obtain⟨u,q1,q2⟩:=p2 rfl;simp_all [execOp,zCU,zBW,Out.here]
theorem S5{w0:World}{L:Ln}{g:Gm}{h:Hp}(r:bx GL w0 L g h w){o:Nat}{v:Value}(e:iR g.M b o=some v):w.cell? ⟨b,o,none⟩=some v:=by
 unfold iR at e;cases hb:g.M b with
 |none=>simp[hb]at e
 |some x=>
  cases x with
  |cells c t fr=>simp[hb]at e;exact X6 (r.aZ b _ hb) o v e
  |_=>simp[hb]at e
theorem Qbt{w0:World}{L:Ln}{g:Gm}{h:Hp}(r:bx GL w0 L g h w){t:TypeId}{agg:Bool}{n:Nat}(ha:fV P t=some agg)(hn:size? P t=some n)
 {row:List aa}{j:Nat}{v:aa}(hv:aK agg j n row=some v){blk off:Nat}{f:Nat→Value}(h1:∀k,k<row.length→iR g.M blk (off+k)=some (f k))
 (h2:∀k x,row[k]?=some x→Den g.M bA x (f k)):∃u,(loadVar t ⟨blk,off+j,none⟩).run P w=.ok u w∧g.den v u:=by
 have key:=IK (g:=g) (arr:=((zAB row.length).map f).toArray) hv (by simp) (λk y u e1 e2=>by
  have hk:=(gE e1).1;simp[hk]at e2;subst e2;exact(h2 k y e1).mono (i9.refl _) (gD.bA _))
 cases agg with
 |true=>
  obtain⟨q1,q2⟩:=key.1 rfl;simp only[zEB,List.length_map,List.length_range]at q1;have hl:=run_loadCells (P:=P) w ⟨blk,off + j,none⟩ n (λk=>f (j + k)) (λk hk=>by
   grind [ZW,S5])
  refine⟨_,by simp only[loadVar,OF,Y9 ha,AS,zDo,if_true,XE hn,hl,zAA];rfl,?_⟩;have:((zAB n).map λk=>f (j+k)).toArray=(((zAB row.length).map f).toArray).extract j (j+n):=by
   grind
  rw[this];exact q2
 |false=>
  obtain⟨u,q1,q2⟩:=key.2 rfl;have hj:j<row.length:=by
   grind
  simp[hj]at q1;subst q1;refine⟨f j,?_,q2⟩;simp only[loadVar,OF,Y9 ha,AS,zDo,zAW,if_false,run_load,S5 r (h1 j hj)]
theorem Xch(agg:Bool)(n j:Nat)(row:List aa)(v:aa)(h0:Hp)(hv:aK agg j n row=some v) :
  aD P GL (.load agg n) [.aq row j] h0 v [] []:=by
 intro o os hc w0 L g h w a r hx _ _;generalize ho:o.op=op at hc;cases hc with
 |load t x _ _ ha hn=>
  have d:=hx.1;generalize hu:a.eval x=u0 at d;cases d with
  |aq _ _ _ blk off f h1 h2=>
   obtain⟨u,q1,q2⟩:=Qbt r ha hn hv h1 h2;simp_all [execOp,zCU,zBW,Out.here]
end
end Go.Ah
end
section
namespace Go.Ah
section
variable {P:Program} {GL:aw}
theorem Oz(w:World)(g:Nat)(fS cs:Array Value)(t:TypeId)(fr:Nat×Nat)(hg:w.heap[g]?=some (.cells fS t fr)):(w.setRow g cs).heap=w.heap.setIfInBounds g (.cells cs t fr):=by
 apply zDs
 grind [setRow_heap,setRow_other]
variable{g:Gm}
theorem Ox{x:aa}{v:Value}(hx:x.cell=true)(d:g.den x v):v.oneCell'=true:=Den.uK d hx
theorem ZdC(n b j:Nat)(row row' cs:List aa)(x:aa)(h0:Hp)(hb:h0 b=some (.box row))(gH:cellsOf x=some cs)(hlen:cs.length=n)(uG:bX j cs row=some row') :
  aD P GL (.store n) [.ak b j,x] h0 .aQ [] [(b,.box row')]:=by
 intro o os hc w0 L g h w a r hx _ gO;have cj:h b=some (.box row):=by simp_all
 generalize ho:o.op=op at hc;cases hc with
 |store t y z _ hn=>
  obtain⟨d,dx,_⟩:=hx;generalize hu:a.eval y=u0 at d;cases d with
  |ak _ _ _ cb ec=>
  cases b_:cb.cR with
  |true=>have:=r.bn b _ cb cj rfl ec b_;cases this
  |false=>
  obtain⟨_,_,o',fR,arr,T,rfl,hs,c_⟩:=r.own b _ cb cj rfl ec b_;obtain⟨c1,c2,c3⟩:=NT gH dx;obtain⟨s1,s2,s3⟩:=S1 uG;have oR:∀v∈(a.eval z).cells.toList,v.oneCell'=true:=by
   grind [zBi,Ox,AT]
  have dE:j+0+(a.eval z).cells.toList.length<=arr.size∨cs=[]:=by
   grind
  have tq:∃gL,(storeCells ⟨cb.blk,j,none⟩ (a.eval z).cells.toList).run P w=.ok () (w.setRow cb.blk gL)∧gL.size=row'.length ∧
    ∀(k:Nat) (y:aa) (u:Value),row'[k]?=some y→gL[k]?=some u→g.den y u:=by
   rcases dE with dE|zV
   ·refine⟨_,run_storeCells_at P cb.blk j T _ 0 arr w fR dE oR,?_,λk y u e1 e2=>?_⟩
    ·grind
    ·rw[s3 k]at e1;by_cases hk:j<=k∧k<j+cs.length
     ·grind
     ·rw[aB hk]at e1;refine c_ k y u e1 ?_;have lW:k<row.length:=(gE e1).1;by_cases ni:k<j
      ·grind
      grind
   ·subst zV;have pC:(a.eval z).cells.toList=[]:=by
     grind
    have ee:row'=row:=by simp[bX]at uG;exact uG.symm
    subst ee;exact⟨arr,by rw[pC];simp only[storeCells];rw[setRow_self w cb.blk arr T (0,0) fR];rfl,hs,c_⟩
  obtain⟨gL,f1,f2,f3⟩:=tq;have eN:(a.eval z).cells.size=n:=by rw[c1,hlen]
  have bg:(execOp a.eval o).run P w=.ok .skip (w.setRow cb.blk gL):=by
   simp_all [execOp,Instr.storeAt,zBW,storeVar,XE]
  rw[bg];refine⟨g,Gm.Le.refl g,?_,rfl⟩;exact r.write cj rfl ec b_ rfl rfl rfl rfl (Oz w _ arr gL T (0,0) fR) ⟨gL,T,rfl,f2,λk y u e1 e2=>f3 k y u e1 e2⟩
theorem Q0(x:aa)(sS:(∃b j,x=.ak b j)∨(∃b i j,x=.ptr b i j)∨(∃row j,x=.aq row j)∨(∃f a b,x=.func (.func f) a b)∨(∃t v,x=.iface t v))(h0:Hp) :
  aD P GL .nilCheck [x] h0 x [] []:=by
 intro o os hc w0 L g h w a r hx _ _;generalize ho:o.op=op at hc;cases hc with
 |nilCheck y=>
  have d:=hx.1;have d0:=d;generalize hu:a.eval y=u0 at d d0;rcases sS with ⟨b,j,rfl⟩|⟨b,i,j,rfl⟩|⟨row,j,rfl⟩|⟨f,xs,ys,rfl⟩|⟨t,v,rfl⟩
  ·cases d;simp_all [execOp,Out.here]
  ·cases d;simp_all [execOp,Out.here]
  ·cases d;simp_all [execOp,Out.here]
  ·cases d;simp_all [execOp,Out.here]
  ·cases d;simp_all [execOp,Out.here]
variable{t:TypeId}
variable{op:BinOp}
theorem YK{o:Oper}{t':TypeId}{x y:Operand}(ho:o.op=.binOp op t x y t'){a:Act}{u v z:Value}{w:World}(hu:a.eval x=u)(hv:a.eval y=v)
 (hg:(eqGuard op t x y u v).run P w=.ok () w)(hr:(binOp op t u v).run P w=.ok z w):(execOp a.eval o).run P w=.ok (.value z) w:=by
 simp_all [execOp]
variable{v:aa}
theorem XdN{k:IntKind}{a b:Int}(h:nC op k a b=some v)(t:TypeId)(w:World):∃u,(binOp op t (.int k a) (.int k b)).run P w=.ok u w∧g.den v u:=by
 cases op<;>simp only[nC,zBl]at h<;>first
  |cases h;done
  |(subst h;refine⟨_,by simp only[binOp_add,binOp_sub,binOp_mul,binOp_eql,binOp_neq,binOp_lss,binOp_leq,binOp_gtr,binOp_geq,binOp_and,binOp_or,binOp_xor,binOp_andNot,intBits_and,intBits_or,intBits_xor,intBits_andNot,Op.intArith,zAA]<;>rfl,?_⟩;constructor)
theorem YdZ(op:BinOp)(ib:Bool)(k:IntKind)(m n:Int)(v:aa)(hv:nC op k m n=some v)(h0:Hp):aD P GL (.bin op ib) [.int k m,.int k n] h0 v [] []:=by
 intro o os hc w0 L g h w a r hx _ _;generalize ho:o.op=yV at hc;cases hc with
 |bin _ t t' x y _ _=>
  obtain⟨d1,d2,_⟩:=hx;obtain⟨z,h1,h2⟩:=XdN (P:=P) (g:=g) hv t w;rw[YK ho (Xp d1) (Xp d2) (by rw[eqGuard_at_int];rfl) h1];exact Out.here r h2
theorem QdN{k k':IntKind}{a b:Int}(h:zD op k k' a b=some v)(t:TypeId)(w:World):∃u,(binOp op t (.int k a) (.int k' b)).run P w=.ok u w∧g.den v u:=by
 unfold zD at h;split at h
 ·rename_i n;split at h
  ·cases h;refine⟨_,?_,Den.int _ _ _⟩;rfl
  ·cases h;refine⟨_,?_,Den.int _ _ _⟩;rfl
  ·cases h0:IT n 0<;>rw[h0]at h
   ·cases hk:j7 k k'<;>rw[hk]at h
    ·cases h
    ·cases h;have:=zA hk;subst this;refine⟨_,?_,Den.int _ _ _⟩;have hn:¬(Int.ofNat n=0):=by intro e;simp_all
     simp_all [binOp,zDe]
   ·cases h
  ·cases h0:IT n 0<;>rw[h0]at h
   ·cases hk:j7 k k'<;>rw[hk]at h
    ·cases h
    ·cases h;have:=zA hk;subst this;refine⟨_,?_,Den.int _ _ _⟩;have hn:¬(Int.ofNat n=0):=by intro e;simp_all
     simp_all [binOp,zDe]
   ·cases h
  ·cases h
 ·rename_i n;split at h
  ·cases hk:j7 k k'<;>rw[hk]at h
   ·cases h
   ·cases h;have:=zA hk;subst this;refine⟨_,?_,Den.int _ _ _⟩;simp[binOp,zDe]
  ·cases hk:j7 k k'<;>rw[hk]at h
   ·cases h
   ·cases h;have:=zA hk;subst this;refine⟨_,?_,Den.int _ _ _⟩;simp[binOp,zDe]
  ·cases h
theorem XdZ(op:BinOp)(ib:Bool)(k k':IntKind)(m n:Int)(v:aa)(hv:zD op k k' m n=some v)(h0:Hp):aD P GL (.bin op ib) [.int k m,.int k' n] h0 v [] []:=by
 intro o os hc w0 L g h w a r hx _ _;generalize ho:o.op=yV at hc;cases hc with
 |bin _ t t' x y _ _=>
  obtain⟨d1,d2,_⟩:=hx;obtain⟨z,h1,h2⟩:=QdN (P:=P) (g:=g) hv t w;rw[YK ho (Xp d1) (Xp d2) (by rw[eqGuard_at_int];rfl) h1];exact Out.here r h2
theorem Zcl(s:ByteArray):s.toList=s.data.toList:=zCa s
theorem QcP(op:BinOp)(ib:Bool)(s t:List UInt8)(neq:Bool)(im:op=if neq then .neq else .eql)(h0:Hp):aD P GL (.bin op ib) [.str s,.str t] h0 (.bool (bif neq then !(s==t)else s==t)) [] []:=by
 intro o os hc w0 L g h w a r hx _ _;generalize ho:o.op=yV at hc;cases hc with
 |bin _ ty t' x y _ _=>
  obtain⟨d1,d2,_⟩:=hx;obtain⟨s',e1,rfl⟩:=yt d1;obtain⟨t',e2,rfl⟩:=yt d2;subst im;cases neq
  ·rw[YK ho e1 e2 (by rw[eqGuard_at_string];rfl) (z:=.bool (s'.data.toList==t'.data.toList)) (by simp[binOp,zDt,Zcl])];exact Out.here r (.bool _ _)
  ·rw[YK ho e1 e2 (by rw[eqGuard_at_string];rfl) (z:=.bool (!(s'.data.toList==t'.data.toList))) (by simp[binOp,zDt,Zcl])];exact Out.here r (.bool _ _)
theorem ZdZ(ib:Bool)(s t:List UInt8)(hl:zAR (s.length+t.length) 1099511627776=true)(h0:Hp):aD P GL (.bin .add ib) [.str s,.str t] h0 (.str (s++t)) [] []:=by
 intro o os hc w0 L g h w a r hx _ _;generalize ho:o.op=yV at hc;cases hc with
 |bin _ ty t' x y _ _=>
  obtain⟨d1,d2,_⟩:=hx;obtain⟨s',e1,rfl⟩:=yt d1;obtain⟨t',e2,rfl⟩:=yt d2;have hl:=iy hl;have h1:s'.size=s'.data.toList.length:=by simp only[zAz];rfl
  have h2:t'.size=t'.data.toList.length:=by simp only[zAz];rfl
  have hm:BY.max=9223372036854775807:=rfl;have mn:¬(((s'.size+t'.size:Nat):Int)>BY.max):=by rw[hm];omega
  rw[YK ho e1 e2 (by rw[eqGuard_at_string];rfl) (z:=.string (s'++t')) (by simp only[binOp,zDt];rw[aB mn];rfl)];refine Out.here r ?_;have:(s'++t').data.toList=s'.data.toList++t'.data.toList:=by rfl
  rw[←this];exact .str _ _
theorem XcP(op:BinOp)(m n:Bool)(neq:Bool)(im:op=if neq then .neq else .eql)(h0:Hp):aD P GL (.bin op true) [.bool m,.bool n] h0 (.bool (bif neq then !(m==n)else m==n)) [] []:=by
 intro o os hc w0 L g h w a r hx _ _;generalize ho:o.op=yV at hc;cases hc with
 |bin _ ty t' x y _ hb=>
  obtain⟨d1,d2,_⟩:=hx;subst im;cases neq
  ·rw[YK ho (YE d1) (YE d2) (by rw[eqGuard_at_bool];rfl) (run_eql_bool w ty m n (hb rfl))];exact Out.here r (.bool _ _)
  ·rw[YK ho (YE d1) (YE d2) (by rw[eqGuard_at_bool];rfl) (run_neq_bool w ty m n (hb rfl))];exact Out.here r (.bool _ _)
theorem Xc3(b:Bool)(h0:Hp):aD P GL (.un .not) [.bool b] h0 (.bool (!b)) [] []:=by
 intro o os hc w0 L g h w a r hx _ _;generalize ho:o.op=yV at hc;cases hc with
 |un _ t x=>simp only[execOp,ho,YE hx.1,Op.unary,OF,zAA,AS];exact Out.here r (.bool _ _)
theorem Yc3(k:IntKind)(n:Int)(h0:Hp):aD P GL (.un .neg) [.int k n] h0 (.int k (k.wrap (0-n))) [] []:=by
 intro o os hc w0 L g h w a r hx _ _;generalize ho:o.op=yV at hc;cases hc with
 |un _ t x=>simp only[execOp,ho,Xp hx.1,Op.unary,Op.intArith,OF,zAA,AS];exact Out.here r (.int _ _ _)
theorem Zd0(k k':IntKind)(n:Int)(h0:Hp):aD P GL (.conv k) [.int k' n] h0 (.int k (k.wrap n)) [] []:=by
 intro o os hc w0 L g h w a r hx _ _;generalize ho:o.op=yV at hc;cases hc with
 |conv s d x _ hs hd=>
  obtain⟨ds,Ds⟩:=zAC.1 hs;simp only[execOp,ho,Xp hx.1,convert,OF,run_underlying Ds,run_underlying hd,AS,Conv.intToInt,zAA];exact Out.here r (.int _ _ _)
theorem Ycx(t:TypeId)(x:aa)(h0:Hp):aD P GL (.jl t) [x] h0 (.iface t x) [] []:=by
 intro o os hc w0 L g h w a r hx _ _;generalize ho:o.op=yV at hc;cases hc with
 |jl _ y tp=>
  simp only[execOp,ho,OF,run_makeInterface w t _ tp,AS,zAA];exact Out.here r (.iface _ _ _ _ hx.1)
theorem Xc2(fn:Fn)(n:Nat)(xs ys:List aa)(hn:xs.length=n)(h0:Hp):aD P GL (.kF fn n) (xs++ys) h0 (.func fn xs ys) [] []:=by
 intro o os hc w0 L g h w a r hx _ _;generalize ho:o.op=yV at hc;cases hc with
 |kF _ us vs=>
  simp only[execOp,ho,Instr.makeFunc,OF,zAA,AS];have hl:=hx.length;simp at hl;refine Out.here r (.func _ _ _ _ _ _ (by simp[hn]) (by simp;omega) (λi x v e1 e2=>?_) (λi x v e1 e2=>?_))
  ·have hi:=(gE e1).1;refine hx.get i x v (by grind) ?_
   grind
  ·have hi:=(gE e1).1;refine hx.get (xs.length+i) x v (by simp_all) ?_;simp_all
theorem Zcx(h0:Hp)(nb:Nat)(hn:h0 nb=none):aD P GL .makeMap [] h0 (.map nb) [] [(nb,.map [])]:=by
 intro o os hc w0 L g h w a r _ _ gO;have jT:h nb=none:=by simp_all
 generalize ho:o.op=op at hc;cases hc with
 |makeMap t=>
  simp only[execOp,ho,Instr.makeMap,zCz,OF,run_newObj,zAA,AS];exact⟨_,r.kv jT ⟨w.heap.size,0,0,false,0⟩,r.alloc jT (cb:=⟨w.heap.size,0,0,false,0⟩) rfl rfl rfl ⟨#[],0,rfl,rfl,by simp⟩,.map _ _ _ (Xz _ _ _)⟩
theorem Xbz{n:Nat}(hn:size? P t=some n)(h0:n≠0)(a:Addr)(fd:Field)(ht:fd.type=t)(w:World):(fieldPlace a fd).run P w=.ok (a.add fd.offset) w:=by
 simp_all [fieldPlace,XE]
theorem Sk(off:Nat)(x y:aa)(VD:(∃b j,x=.ak b j∧y=.ak b (j+off))∨(∃b i j,x=.ptr b i j∧y=.ptr b i (j+off))∨(∃row j,x=.aq row j∧y=.aq row (j+off)))(h0:Hp) :
  aD P GL (.fieldAddr off) [x] h0 y [] []:=by
 intro o os hc w0 L g h w a r hx _ _;generalize ho:o.op=op at hc;cases hc with
 |fieldAddr t z f fs fd n hu hf hn kS=>
  have d:=hx.1;generalize iZ:a.eval z=u0 at d;have key:∀b o',(execOp a.eval o).run P w=.ok (.value (.pointer (some ⟨b,o'+fd.offset,none⟩))) w∨a.eval z≠.pointer (some ⟨b,o',none⟩):=by
   intro b o';by_cases he:a.eval z=.pointer (some ⟨b,o',none⟩)
   ·left;simp only[execOp,ho,he,Instr.fieldAt,OF,run_underlying hu,AS,hf,zBW,zAA,Xbz hn kS _ fd rfl,ZW]
   ·exact .inr he
  rcases VD with ⟨b,j,rfl,rfl⟩|⟨b,i,j,rfl,rfl⟩|⟨row,j,rfl,rfl⟩
  ·cases d with
   |ak _ _ _ cb ec=>
    rw[(key cb.blk j).resolve_right (λcU=>cU iZ)];exact Out.here r (.ak _ _ _ _ ec)
  ·cases d with
   |ptr _ _ _ _ cb ec=>
    rw[(key cb.blk (cb.base+i*cb.sz+j)).resolve_right (λcU=>cU iZ),zBR];exact Out.here r (.ptr _ _ _ _ _ ec)
  ·cases d with
   |aq _ _ _ blk LR f' h1 h2=>
    rw[(key blk (LR+j)).resolve_right (λcU=>cU iZ),zBR];exact Out.here r (.aq _ _ _ _ _ f' h1 h2)
theorem QcO{agg:Bool}{n:Nat}(ha:fV P t=some agg)(hn:size? P t=some n){cs:List aa}{arr:Array Value}{off:Nat}(hv:aK agg off n cs=some v)(hs:arr.size=cs.length)
 (hd:∀(j:Nat) (y:aa) (u:Value),cs[j]?=some y→arr[j]?=some u→g.den y u)(w:World):∃u,(part t arr off).run P w=.ok u w∧g.den v u:=by
 obtain⟨p1,p2⟩:=IK (g:=g) hv (by omega) hd;cases agg with
 |true=>
  simp_all [part,Y9,XE]
 |false=>
  obtain⟨u,q1,q2⟩:=p2 rfl;simp_all [part,Y9]
theorem ZdB(agg:Bool)(off n:Nat)(cs:List aa)(v:aa)(hv:aK agg off n cs=some v)(h0:Hp):aD P GL (.field agg off n) [.agg cs] h0 v [] []:=by
 intro o os hc w0 L g h w a r hx _ _;generalize ho:o.op=op at hc;cases hc with
 |field t z f fs fd _ _ hu hf hn ha=>
  have d:=hx.1;generalize iZ:a.eval z=u0 at d;cases d with
  |agg _ _ vs h1 h2=>
   obtain⟨u,q1,q2⟩:=QcO ha hn hv h1 h2 w;simp_all [execOp,Instr.field,asAgg,run_underlying,Out.here]
theorem Yd0(agg:Bool)(len n:Nat)(cs:List aa)(v:aa)(k:IntKind)(i:Nat)(hi:i<len)(hv:aK agg (i*n) n cs=some v)(h0:Hp):aD P GL (.se agg len n) [.agg cs,.int k (.ofNat i)] h0 v [] []:=by
 intro o os hc w0 L g h w a r hx _ _;generalize ho:o.op=op at hc;cases hc with
 |se t z y _ e _ _ hu hn ha=>
  obtain⟨d,d2,_⟩:=hx;generalize iZ:a.eval z=u0 at d;cases d with
  |agg _ _ vs h1 h2=>
   obtain⟨u,q1,q2⟩:=QcO ha hn hv h1 h2 w;simp only[execOp,ho,iZ,Xp d2,Instr.index,asIntOf,OF,run_underlying hu,AS,zAA];simp_all [XE,Out.here]
theorem P1(len n:Nat)(x y:aa)(k:IntKind)(i:Nat)(hi:i<len)
 (VD:(∃b j,x=.ak b j∧y=.ak b (j+i*n))∨(∃b r j,x=.ptr b r j∧y=.ptr b r (j+i*n))∨(∃row j,x=.aq row j∧y=.aq row (j+i*n)))(h0:Hp) :
  aD P GL (.hZ len n) [x,.int k (.ofNat i)] h0 y [] []:=by
 intro o os hc w0 L g h w a r hx _ _;generalize ho:o.op=op at hc;cases hc with
 |hZ t z q _ e _ hu hn=>
  obtain⟨d,d2,_⟩:=hx;generalize iZ:a.eval z=u0 at d;have key:∀b o',a.eval z=.pointer (some ⟨b,o',none⟩)→(execOp a.eval o).run P w=.ok (.value (.pointer (some ⟨b,o'+i*n,none⟩))) w:=by
   intro b o' he;simp only[execOp,ho,he,Xp d2,zDT,asIntOf,OF,run_underlying hu,AS,zBW,zAA];rw[aI ⟨Int.natCast_nonneg i,Int.ofNat_lt.2 hi⟩];simp_all [XE,ZW]
  rcases VD with ⟨b,j,rfl,rfl⟩|⟨b,r',j,rfl,rfl⟩|⟨row,j,rfl,rfl⟩
  ·cases d with
   |ak _ _ _ cb ec=>rw[key _ _ iZ];exact Out.here r (.ak _ _ _ _ ec)
  ·cases d with
   |ptr _ _ _ _ cb ec=>rw[key _ _ iZ,zBR];exact Out.here r (.ptr _ _ _ _ _ ec)
  ·cases d with
   |aq _ _ _ blk LR f' h1 h2=>rw[key _ _ iZ,zBR];exact Out.here r (.aq _ _ _ _ _ f' h1 h2)
theorem Qcw(i:Nat)(vs:List aa)(v:aa)(hv:vs[i]?=some v)(h0:Hp):aD P GL (.extract i) [.bp vs] h0 v [] []:=by
 intro o os hc w0 L g h w a r hx _ _;generalize ho:o.op=op at hc;cases hc with
 |extract z _=>
  have d:=hx.1;generalize iZ:a.eval z=u0 at d;cases d with
  |bp _ _ us h1 h2=>
   have cc:i<us.size:=by grind
   have he:us[i]?=some us[i]:=by simp[cc]
   simp only[execOp,ho,iZ,Instr.extract,he,OF,zAA,AS];exact Out.here r (h2 i v _ hv he)
theorem OZ(x:aa)(n:Int)(sS:(x=.al∧n=0)∨(x=.cY∧n=0)∨(∃b o l e,x=.sl b o l e∧n=l)∨(∃e q s rows,x=.aW e q s rows∧n=rows.length))(h0:Hp):aD P GL .sj [x] h0 (.int .i64 n) [] []:=by
 intro o os hc w0 L g h w a r hx _ _;generalize ho:o.op=op at hc;cases hc with
 |sj t e z hu=>
  have d:=hx.1;generalize iZ:a.eval z=u0 at d;have key:∀p m c,a.eval z=.slice p m c→(execOp a.eval o).run P w=.ok (.value (.int .i64 m)) w:=by
   intro p m c he;simp[execOp,ho,resolve,invoke,builtin,zCC,he,run_underlying hu,goInt]
  rcases sS with ⟨rfl,rfl⟩|⟨rfl,rfl⟩|⟨b,o',l,e',rfl,rfl⟩|⟨e',q,s,rows,rfl,rfl⟩
  ·cases d;rw[key _ _ _ iZ];exact Out.here r (.int _ _ _)
  ·cases d;rw[key _ _ _ iZ];exact Out.here r (.int _ _ _)
  ·cases d<;>(rw[key _ _ _ iZ];exact Out.here r (.int _ _ _))
  ·cases d;rw[key _ _ _ iZ];exact Out.here r (.int _ _ _)
theorem Qc1(s:List UInt8)(h0:Hp):aD P GL .kE [.str s] h0 (.int .i64 s.length) [] []:=by
 intro o os hc w0 L g h w a r hx _ _;generalize ho:o.op=op at hc;cases hc with
 |kE t z hu=>
  obtain⟨s',e1,rfl⟩:=yt hx.1;have:(execOp a.eval o).run P w=.ok (.value (.int .i64 s'.size)) w:=by
   simp[execOp,ho,resolve,invoke,builtin,zCC,e1,run_underlying hu,goInt]
  rw[this,show (s'.size:Int)=(s'.data.toList.length:Nat) by simp];exact Out.here r (.int _ _ _)
theorem Xd0(n:Nat)(x:aa)(h0:Hp):aD P GL (.sg n) [x] h0 (.int .i64 n) [] []:=by
 intro o os hc w0 L g h w a r _ _ _;generalize ho:o.op=op at hc;cases hc with
 |sg t e _ z hu=>
  have:(execOp a.eval o).run P w=.ok (.value (.int .i64 n)) w:=by
   simp[execOp,ho,resolve,invoke,builtin,zCC,run_underlying hu,goInt]
  rw[this];exact Out.here r (.int _ _ _)
theorem Zd1(k k':IntKind)(x y:Int)(h0:Hp):aD P GL .min2 [.int k x,.int k' y] h0 (.int k (if y<x then y else x)) [] []:=by
 intro o os hc w0 L g h w a r hx _ _;generalize ho:o.op=op at hc;cases hc with
 |min2 ts p q=>
  have:(execOp a.eval o).run P w=.ok (.value (.int k (if y<x then y else x))) w:=by
   simp[execOp,ho,resolve,invoke,builtin,Xp hx.1,Xp hx.2.1,run_min_int2]
  rw[this];exact Out.here r (.int _ _ _)
theorem Qd0(k k':IntKind)(x y:Int)(h0:Hp):aD P GL .max2 [.int k x,.int k' y] h0 (.int k (if y>x then y else x)) [] []:=by
 intro o os hc w0 L g h w a r hx _ _;generalize ho:o.op=op at hc;cases hc with
 |max2 ts p q=>
  have:(execOp a.eval o).run P w=.ok (.value (.int k (if y>x then y else x))) w:=by
   simp[execOp,ho,resolve,invoke,builtin,Xp hx.1,Xp hx.2.1,run_max_int2]
  rw[this];exact Out.here r (.int _ _ _)
end
end Go.Ah
end
section
namespace Go.Ah
section
variable {P:Program} {GL:aw}
theorem Zb9(off:Nat):∀(l:List Value) (j:Nat) (cells:Array Value),off+j+l.length<=cells.size →
  ((l.zipIdx j).foldl (λ(cs:Array Value) (p:Value×Nat)=>cs.setIfInBounds (off+p.2) p.1) cells).size=cells.size ∧
  ∀k:Nat,((l.zipIdx j).foldl (λ(cs:Array Value) (p:Value×Nat)=>cs.setIfInBounds (off+p.2) p.1) cells)[k]?=if off+j<=k∧k<off+j+l.length then l[k-(off+j)]? else cells[k]?
 |[],j,cells,_=>by simp;intro k h1 h2;omega
 |v::l,j,cells,h=>by
  simp only[List.zipIdx_cons,List.foldl_cons];simp only[IS]at h;obtain⟨h1,h2⟩:=Zb9 off l (j+1) (cells.setIfInBounds (off+j) v) (by simp;omega)
  grind
theorem OU{g:Gm}{place:Nat→Option (Nat×Nat)}:∀(parts:List (Nat×Value)) (ps:List (Nat×Nat)) (xs:List aa) (z cs:List aa) (cells:Array Value),
  fill z ps xs=some cs→parts.map (λp=>place p.1)=ps.map some→dR g xs (parts.map (·.2))→cells.size=z.length →
  (∀(j:Nat) (y:aa) (u:Value),z[j]?=some y→cells[j]?=some u→g.den y u)→(∀y∈z,y.cell=true) →
  ∃cV,zDJ place cells parts=some cV∧cV.size=cs.length∧(∀(j:Nat) (y:aa) (u:Value),cs[j]?=some y→cV[j]?=some u→g.den y u)∧cs.length=z.length∧(∀y∈cs,y.cell=true)
 |[],ps,xs,z,cs,cells,hf,hp,hx,hs,hd,hc=>by
  have:ps=[]:=by simpa using hp.symm
  subst this;cases xs with
  |nil=>simp only[fill]at hf;cases hf;exact⟨cells,rfl,hs,hd,rfl,hc⟩
  |cons x xs=>exact hx.elim
 |(i,v)::parts,ps,xs,z,cs,cells,hf,hp,hx,hs,hd,hc=>by
  cases ps with
  |nil=>simp at hp
  |cons p ps=>
   obtain⟨off,sz⟩:=p;simp only[zAN,zCL]at hp;obtain⟨Ps,mI⟩:=hp;cases xs with
   |nil=>exact hx.elim
   |cons x xs=>
    obtain⟨dx,DT⟩:=hx;simp only[fill]at hf;cases qo:cellsOf x with
    |none=>simp[qo]at hf
    |some c1=>
     simp only[qo]at hf;cases hb:IT c1.length sz && !(IT sz 0)with
     |false=>simp[hb]at hf
     |true=>
      have cj:=hb;simp only[AI,Bool.not_eq_true']at cj;have eN:c1.length=sz:=fY cj.1;have aaF:sz≠0:=by intro e;subst e;simp[IT]at cj
      simp only[hb,cond_true]at hf;cases uG:bX off c1 z with
      |none=>simp[uG]at hf
      |some z'=>
       simp only[uG]at hf;obtain⟨e1,e2,e3⟩:=NT qo dx;obtain⟨s1,s2,s3⟩:=S1 uG;have sa:v.cells.size=sz:=by rw[e1,eN]
       have Lu:c1≠[]:=by rintro rfl;simp at eN;omega
       have dE:=s2 Lu;obtain⟨l1,l2⟩:=Zb9 off v.cells.toList 0 cells (by simp[e1];omega);obtain⟨cV,f1,f2,f3,f4,f5⟩:=OU parts ps xs z' cs _ hf mI DT (by rw[l1,hs,s1]) (λj y u q1 q2=>by
         grind) (λy hy=>by
         obtain⟨j,hj⟩:=zBi.1 hy
         grind)
       refine⟨cV,?_,f2,f3,by rw[f4,s1],f5⟩;simp only[zDJ,Ps,sa];rw[aB (by simp;rw[hs];omega),←f1]
       congr 1
       rw[←Array.foldl_toList];simp
theorem ZdA(z:List aa)(ps:List (Nat×Nat))(xs cs:List aa)(hf:fill z ps xs=some cs)(h0:Hp):aD P GL (.build z ps) xs h0 (.agg cs) [] []:=by
 intro o os hc w0 L g h w a r hx _ _;generalize ho:o.op=op at hc;cases hc with
 |buildStruct t fs v _ parts places _ hu hz dN K7 vi=>
  obtain⟨it,hit,UU⟩:∃it,P.info? t=some it∧it.zero=some v:=by
   unfold eA at hz;cases hi:P.info? t<;>simp_all
  obtain⟨c1,c2⟩:=QV (M:=g.M) (c:=g.c) dN;obtain⟨cV,f1,f2,f3,_,_⟩:=OU (g:=g) (place:=(places.toArray[·]?)) (parts.map λp=>(p.1,a.eval p.2)).toList ps xs z cs v.cells hf (by simp_all [Function.comp_def]) (by rw[zBn,zCE];rw[zCE]at hx;exact hx) (by simpa using c1) (λj y u e1 e2=>c2 j y u e1 (by simpa using e2)) (Nr dN);have hb:P.built t (parts.map λp=>(p.1,a.eval p.2)).toList=some cV:=by
   simp_all [Program.built]
  simp only[execOp,ho,OF,run_build w t _ cV hb,AS,zAA];exact Out.here r (.agg _ _ _ f2 f3)
 |oj t n e v _ parts _ sz hu hz dN hs vi=>
  obtain⟨it,hit,UU⟩:∃it,P.info? t=some it∧it.zero=some v:=by
   unfold eA at hz;cases hi:P.info? t<;>simp_all
  obtain⟨ie,BZ,rP⟩:∃ie,P.info? e=some ie∧ie.size=sz:=by
   simp_all [size?]
  obtain⟨c1,c2⟩:=QV (M:=g.M) (c:=g.c) dN;obtain⟨cV,f1,f2,f3,_,_⟩:=OU (g:=g) (place:=λi=>some (i*ie.size,ie.size)) (parts.map λp=>(p.1,a.eval p.2)).toList ps xs z cs v.cells hf (by rw[←vi,rP];simp) (by rw[zBn,zCE];rw[zCE]at hx;exact hx) (by simpa using c1) (λj y u e1 e2=>c2 j y u e1 (by simpa using e2)) (Nr dN);have hb:P.built t (parts.map λp=>(p.1,a.eval p.2)).toList=some cV:=by
   simp_all [Program.built]
  simp only[execOp,ho,OF,run_build w t _ cV hb,AS,zAA];exact Out.here r (.agg _ _ _ f2 f3)
theorem Qcs{z:List aa}{n k:Nat}(hk:k<n*z.length):((zAf n z).flatten)[k]?=z[k%z.length]?:=by
 induction n generalizing k with
 |zero=>simp at hk
 |succ n ih=>
  simp only[List.replicate_succ,List.flatten_cons];by_cases h:k<z.length<;>grind [zCT,Nat.mod_eq_sub_mod]
theorem bx.nU{w0:World}{L:Ln}{g:Gm}{h:Hp}{w:World}(r:bx GL w0 L g h w){nb:Nat}(hn:h nb=none)(sz:Nat)(rs:List (List aa))(arr:Array Value)(T:TypeId)(len cap:Nat)(ex:Bool)
 (hs:cap*sz=arr.size)(hlen:len<=cap)(hex:ex=true→cap=len)(xv:rs.length<=cap)(ee:∀(i:Nat) (row:List aa),rs[i]?=some row→row.length=sz)
 (hd:∀(i:Nat) (row:List aa) (j:Nat) (x:aa) (v:Value),rs[i]?=some row→row[j]?=some x→arr[i*sz+j]?=some v→g.den x v) :
  ∃g',g.Le g'∧bx GL w0 L g' (eo h nb (.rows sz rs)) (w.alloc (.cells arr T))∧g'.den (.sl nb 0 len ex) (.slice (some ⟨w.heap.size,0,none⟩) len cap):=by
 have hle:=r.kv hn ⟨w.heap.size,sz,arr.size,false,0⟩;have h1:rs.length*sz<=arr.size:=zAX (zAE sz xv) (Nat.le_of_eq hs);have lp:Den g.M (lV g.c nb ⟨w.heap.size,sz,arr.size,false,0⟩) (.sl nb 0 len ex) (.slice (some ⟨w.heap.size,0+0*sz,none⟩) len cap):=
  .sl _ _ _ _ _ _ _ (Xz _ _ _) rfl hlen (by simpa using hs) hex
 rw[zDf]at lp;exact⟨_,hle,r.alloc hn (cb:=⟨w.heap.size,sz,arr.size,false,0⟩) rfl rfl rfl ⟨rfl,arr,T,rfl,rfl,(IN _).symm▸h1,ee,λi row j x v e1 e2 e3=>Gm.l_ hle (hd i row j x v e1 e2 (by rw[←e3];simp))⟩,lp⟩
theorem Zc1(sz n:Nat)(z:List aa)(ps:List (Nat×Nat))(xs cs:List aa)(rs:List (List aa))(hf:fill z ps xs=some cs)(hch:chunk sz n cs=some rs)(h0:Hp)(nb:Nat)(hn:h0 nb=none) :
  aD P GL (.mP sz n z ps) xs h0 (.sl nb 0 n true) [] [(nb,.rows sz rs)]:=by
 intro o os hc w0 L g h w a r hx _ gO;have jT:h nb=none:=by simp_all
 generalize ho:o.op=op at hc;cases hc with
 |buildSlice t _ e v z0 _ parts _ _ hu hs Vz qt hz sa dN rN vi=>
  obtain⟨ie,BZ,rP⟩:∃ie,P.info? e=some ie∧ie.size=sz:=by
   simp_all [size?]
  have hiz:ie.zero=some v:=by simp_all [eA]
  have q_:P.underlying t=some (.slice e):=by
   grind [fe]
  obtain⟨c1,c2⟩:=QV (M:=g.M) (c:=g.c) dN;have Lu:z0.length=sz:=by rw[←c1,zAz,sa]
  have HE:z.length=n*sz:=by rw[←rN];simp[Lu]
  obtain⟨k1,k2,k3,k4⟩:=QcU hch;have tq:∀ou:Array Value,ou.size=n*sz→(∀k v',ou[k]?=some v'→v.cells[k%sz]?=some v') →
    ∃cV,zDJ (λi=>some (i*ie.size,ie.size)) ou (parts.map λp=>(p.1,a.eval p.2)).toList=some cV∧cV.size=cs.length∧(∀(j:Nat) (y:aa) (u:Value),cs[j]?=some y→cV[j]?=some u→g.den y u)∧cs.length=z.length:=by
   intro ou hs0 hv0;obtain⟨cV,f1,f2,f3,f4,_⟩:=OU (g:=g) (place:=λi=>some (i*ie.size,ie.size)) (parts.map λp=>(p.1,a.eval p.2)).toList ps xs z cs ou hf (by rw[←vi,rP];simp) (by rw[zBn,zCE];rw[zCE]at hx;exact hx) (by rw[hs0,HE])
    (λj y u e1 e2=>by
     have hj:j<n*z0.length:=by grind
     rw[← rN,Qcs hj,Lu]at e1;exact c2 _ y u e1 (by simp_all))
    (λy hy=>by
     rw[← rN]at hy;simp only[List.mem_flatten,List.mem_replicate]at hy;obtain⟨l,⟨_,rfl⟩,hyl⟩:=hy;exact Nr dN y hyl)
   exact⟨cV,f1,f2,f3,f4⟩
  have nK:∀cV:Array Value,cV.size=cs.length→cs.length=z.length→(∀(j:Nat) (y:aa) (u:Value),cs[j]?=some y→cV[j]?=some u→g.den y u) →
    Out P GL w0 L g (cz h [(nb,.rows sz rs)]) (.sl nb 0 n true) (.ok (.value (.slice (some ⟨w.heap.size,0,none⟩) n n)) (w.alloc (.cells cV e))):=by
   intro cV f2 f4 f3;refine bx.nU r jT sz rs cV e n n true (by rw[f2,f4,HE]) (No _) (λ_=>rfl) (by omega) k3 (λi row j x v' e1 e2 e3=>?_);exact f3 _ x v' (k4 i row j x e1 e2) e3
  have aaG:0 < sz:=zBq (λe=>qt (by rw[e];simp));obtain⟨cV,f1,f2,f3,f4⟩:=tq ((zCN (n * ie.size)).map (v.cells[· % v.cells.size]!)) (by simp[rP]) (λk v' e1=>by
   grind [zDQ])
  have bg:(zCO t n (parts.map λp=>(p.1,a.eval p.2))).run P w=.ok (.slice (some ⟨w.heap.size,0,none⟩) n n) (w.alloc (.cells cV e)):=by
   have hs1:¬n*ie.size>2 ^ 24:=by rw[rP];omega
   have qw:¬n*ie.size=0:=by rw[rP];exact qt
   simp only[zCO,sizeOf,typeInfo,zeroValue,newRow,OF,run_underlying q_,AS,run_program,BZ,zAA,aB hs1,aB qw,hiz,f1,run_newObj];rfl
  grind [execOp,OF,AS,zAA]
theorem Qcg(b:Nat)(es:List (aa×aa))(h0:Hp)(hb:h0 b=some (.map es)):aD P GL .mV [.map b] h0 (.int .i64 es.length) [b] []:=by
 intro o os hc w0 L g h w a r hx cO _;have cj:h b=some (.map es):=by simp_all
 generalize ho:o.op=op at hc;cases hc with
 |mV t k e z hu=>
  have d:=hx.1;generalize iZ:a.eval z=u0 at d;cases d with
  |map _ _ cb ec=>
  cases b_:cb.cR with
  |true=>have:=r.bn b _ cb cj rfl ec b_;cases this
  |false=>
  obtain⟨_,_,o',fR,arr,clock,rfl,hs,c_⟩:=r.own b _ cb cj rfl ec b_;have ai:(getObj cb.blk).run P w=.ok (.map arr clock) w:=by simp[getObj,zCZ,fR]
  have:(execOp a.eval o).run P w=.ok (.value (.int .i64 es.length)) w:=by
   simp[execOp,ho,resolve,invoke,builtin,zCC,iZ,run_underlying hu,ai,goInt,hs]
  rw[this];exact Out.here r (.int _ _ _)
theorem Xcg(h0:Hp):aD P GL .mV [.cW] h0 (.int .i64 0) [] []:=by
 intro o os hc w0 L g h w a r hx _ _;generalize ho:o.op=op at hc;cases hc with
 |mV t k e z hu=>
  have d:=hx.1;generalize iZ:a.eval z=u0 at d;cases d with
  |cW=>
  have:(execOp a.eval o).run P w=.ok (.value (.int .i64 0)) w:=by
   simp[execOp,ho,resolve,invoke,builtin,zCC,iZ,run_underlying hu,goInt]
  rw[this];exact Out.here r (.int _ _ _)
theorem Zch(es:List (aa×aa))(h0:Hp):aD P GL .mV [.fN es] h0 (.int .i64 es.length) [] []:=by
 intro o os hc w0 L g h w a r hx _ _;generalize ho:o.op=op at hc;cases hc with
 |mV t k e z hu=>
  have d:=hx.1;generalize iZ:a.eval z=u0 at d;cases d with
  |fN _ _ blk arr clock hM hs h1 h2=>
  have ai:(getObj blk).run P w=.ok (.map arr clock) w:=by simp[getObj,zCZ,r.aZ _ _ hM]
  have:(execOp a.eval o).run P w=.ok (.value (.int .i64 es.length)) w:=by
   simp[execOp,ho,resolve,invoke,builtin,zCC,iZ,run_underlying hu,ai,goInt,hs]
  rw[this];exact Out.here r (.int _ _ _)
theorem QdB(s:List UInt8)(h0:Hp)(nb:Nat)(hn:h0 nb=none):aD P GL .range [.str s] h0 (.iter nb) [] [(nb,.fz s 0)]:=by
 intro o os hc w0 L g h w a r hx _ gO;have jT:h nb=none:=by simp_all
 generalize ho:o.op=op at hc;cases hc with
 |range t x hu=>
  obtain⟨s',e1,rfl⟩:=yt hx.1;have:(execOp a.eval o).run P w=.ok (.value (.pointer (some ⟨w.heap.size,0,none⟩))) (w.alloc (.stringIter s' 0)):=by
   simp_all [execOp,Instr.range,run_underlying]
  rw[this];exact⟨_,r.kv jT ⟨w.heap.size,0,0,false,0⟩,r.alloc jT (cb:=⟨w.heap.size,0,0,false,0⟩) rfl rfl rfl (by show _=_;rfl),.iter _ _ _ (Xz _ _ _)⟩
theorem QR{t:TypeId}(h:P.concrete t=true)(h2:(P.underlying t).isSome=true):∃d,P.underlying t=some d∧∀ms,d≠.interface ms:=by
 grind [Program.concrete,zAC]
theorem PS(t:TypeId)(ok:Bool)(z v:aa)(u:TypeId)(h0:Hp) :
  aD P GL (.fQ t ok z) [.iface t v] h0 (bif ok then .bp [v,.bool true]else v) [] []∧(u≠t→aD P GL (.fQ t true z) [.iface u v] h0 (.bp [z,.bool false]) [] [])∧aD P GL (.fQ t true z) [.dw] h0 (.bp [z,.bool false]) [] []:=by
 refine⟨?_,?_,?_⟩
 ·intro o os hc w0 L g h w a r hx _ _;generalize ho:o.op=op at hc;cases hc with
  |fQ y tx _ _ zv _ tp oW hz BQ=>
   have d:=hx.1;generalize iZ:a.eval y=u0 at d;cases d with
   |iface _ _ _ v' dv=>
   obtain⟨d',pE,pU⟩:=QR tp oW;have:(zBJ (.iface t v') tx t ok).run P w=.ok (if ok then .tuple #[v',.bool true]else v') w:=by
    simp_all [zBJ,run_underlying]
   simp only[execOp,ho,iZ,OF,this,AS,zAA];refine Out.here r ?_;cases ok
   ·exact dv
   ·refine .bp _ _ _ rfl (λi x v e1 e2=>?_)
    match i with
    |0=>simp at e1 e2;subst e1 e2;exact dv
    |1=>simp at e1 e2;subst e1 e2;exact .bool _ _
    |n+2=>simp at e1
 ·intro cU o os hc w0 L g h w a r hx _ _;generalize ho:o.op=op at hc;cases hc with
  |fQ y tx _ _ zv _ tp oW hz BQ=>
   have d:=hx.1;generalize iZ:a.eval y=u0 at d;cases d with
   |iface _ _ _ v' dv=>
   obtain⟨d',pE,pU⟩:=QR tp oW;have:(zBJ (.iface u v') tx t true).run P w=.ok (.tuple #[zv,.bool false]) w:=by
    simp_all [zBJ,run_underlying,A8]
   simp only[execOp,ho,iZ,OF,this,AS,zAA];refine Out.here r (.bp _ _ _ rfl (λi x v e1 e2=>?_))
   match i with
   |0=>simp at e1 e2;subst e1 e2;exact NN BQ
   |1=>simp at e1 e2;subst e1 e2;exact .bool _ _
   |n+2=>simp at e1
 ·intro o os hc w0 L g h w a r hx _ _;generalize ho:o.op=op at hc;cases hc with
  |fQ y tx _ _ zv _ tp oW hz BQ=>
   have d:=hx.1;generalize iZ:a.eval y=u0 at d;cases d with
   |dw=>
   obtain⟨d',pE,pU⟩:=QR tp oW;have:(zBJ .nilIface tx t true).run P w=.ok (.tuple #[zv,.bool false]) w:=by
    simp_all [zBJ,run_underlying,A8]
   simp only[execOp,ho,iZ,OF,this,AS,zAA];refine Out.here r (.bp _ _ _ rfl (λi x v e1 e2=>?_))
   match i with
   |0=>simp at e1 e2;subst e1 e2;exact NN BQ
   |1=>simp at e1 e2;subst e1 e2;exact .bool _ _
   |n+2=>simp at e1
theorem Xdz{t:TypeId}{i:TypeInfo}(h:P.info? t=some i)(w:World):(typeInfo t).run P w=.ok i w:=by
 simp_all [typeInfo]
theorem Ycw(pq:List TypeId)(u:TypeId)(v:aa)(h0:Hp)(hu:u∈pq):aD P GL (.gR pq) [.iface u v] h0 (.bp [.iface u v,.bool true]) [] []:=by
 intro o os hc w0 L g h w a r hx _ _;generalize ho:o.op=op at hc;cases hc with
 |gR y tx t ms _ tC hz htb=>
  have d:=hx.1;generalize iZ:a.eval y=u0 at d;cases d with
  |iface _ _ _ v' dv=>
  obtain⟨i,hi,hm⟩:=htb u hu;have:(zBJ (.iface u v') tx t true).run P w=.ok (.tuple #[.iface u v',.bool true]) w:=by
   simp_all [zBJ,run_underlying,Xdz]
  simp only[execOp,ho,iZ,OF,this,AS,zAA];refine Out.here r (.bp _ _ _ rfl (λi x v e1 e2=>?_))
  match i with
  |0=>simp at e1 e2;subst e1 e2;exact .iface _ _ _ _ dv
  |1=>simp at e1 e2;subst e1 e2;exact .bool _ _
  |n+2=>simp at e1
theorem Ycg(pq:List TypeId)(h0:Hp):aD P GL (.gR pq) [.dw] h0 (.bp [.dw,.bool false]) [] []:=by
 intro o os hc w0 L g h w a r hx _ _;generalize ho:o.op=op at hc;cases hc with
 |gR y tx t ms _ tC hz htb=>
  have d:=hx.1;generalize iZ:a.eval y=u0 at d;cases d with
  |dw=>
  have:(zBJ .nilIface tx t true).run P w=.ok (.tuple #[.nilIface,.bool false]) w:=by
   simp_all [zBJ,run_underlying,A8]
  simp only[execOp,ho,iZ,OF,this,AS,zAA];refine Out.here r (.bp _ _ _ rfl (λi x v e1 e2=>?_))
  match i with
  |0=>simp at e1 e2;subst e1 e2;exact .dw _
  |1=>simp at e1 e2;subst e1 e2;exact .bool _ _
  |n+2=>simp at e1
end
end Go.Ah
end
section
namespace Go.Ah
section
variable {P:Program} {GL:aw}
def m9:gj→Bool→Value→Prop
 |.ptr,true,v=>v=.pointer none
 |.ptr,false,v=>∃a,v=.pointer (some a)
 |.slice,true,v=>v=.slice none 0 0
 |.slice,false,v=>∃a l c,v=.slice (some a) l c
 |.iface,true,v=>v=.nilIface
 |.iface,false,v=>∃t u,v=.iface t u
 |.func,true,v=>v=.nilFunc
 |.func,false,v=>∃f p q,v=.func f p q
 |.map,true,v=>v=.map none
 |.map,false,v=>∃m,v=.map (some m)
variable{g:Gm}
variable{v:Value}
variable{b:Bool}
variable{c:gj}
theorem ZbK{z:aa}(h:nV c z=some b)(d:g.den z v):m9 c b v:=by
 cases d<;>cases c<;>simp only[nV]at h<;>first
  |(cases h;done)
  |(cases h;simp only[m9];done)
  |(cases h;exact⟨_,rfl⟩)
  |(cases h;exact⟨_,_,rfl⟩)
  |(cases h;exact⟨_,_,_,rfl⟩)
  |skip
 ·rename_i b' off len ex cb cap _ _ _ _ _;cases len with
  |zero=>cases h
  |succ n=>cases h;exact⟨_,_,_,rfl⟩
 ·rename_i nn _ rows a _ _ _ _ _ h2 h3 _ _ _ _ _;cases nn
  ·cases rows with
   |nil=>cases h
   |cons r rs=>
    cases h;have:=h3 (by simp);subst this;exact⟨_,_,_,rfl⟩
  ·cases h;obtain⟨a',Uu⟩:=zAC.1 (h2 rfl);subst Uu;exact⟨_,_,_,rfl⟩
variable{t:TypeId}
theorem Xbt(ht:uW P t=some c)(hv:m9 c b v)(w:World)(d:Nat) :
  (zCc (d+1) t v (kG c)).run P w=.ok b w∧(zCc (d+1) t (kG c) v).run P w=.ok b w:=by
 unfold uW at ht;cases hu:P.underlying t with
 |none=>simp[hu]at ht
 |some ty=>
  unfold zCc;simp only[OF,run_underlying hu,AS];cases ty<;>simp only[hu]at ht<;>cases ht<;>cases b<;>simp only[m9]at hv<;>first
   |(subst hv;exact⟨rfl,rfl⟩)
   |(obtain⟨x,rfl⟩:=hv;exact⟨rfl,rfl⟩)
   |(obtain⟨x,y,rfl⟩:=hv;exact⟨rfl,rfl⟩)
   |(obtain⟨x,y,z,rfl⟩:=hv;exact⟨rfl,rfl⟩)
theorem Qcf(ht:uW P t=some c)(hv:m9 c b v)(neq:Bool)(w:World) :
  (binOp (if neq then .neq else .eql) t v (kG c)).run P w=.ok (.bool (bif neq then !b else b)) w∧(binOp (if neq then .neq else .eql) t (kG c) v).run P w=.ok (.bool (bif neq then !b else b)) w:=by
 obtain⟨h1,h2⟩:=Xbt ht hv w 9999;have e1:∀x y:Value,(zCc (9999+1) t x y).run P w=.ok b w→((do pure (.bool (←Op.equal t x y)):Sem Value).run P w=.ok (.bool b) w)∧((do pure (.bool (!(←Op.equal t x y))):Sem Value).run P w=.ok (.bool (!b)) w):=by
  intro x y hr;have j4:(Op.equal t x y).run P w=.ok b w:=hr;simp_all
 have f1:=e1 _ _ h1;have f2:=e1 _ _ h2;cases neq<;>cases c<;>cases b<;>simp only[m9]at hv<;>first
  |(subst hv;first|exact⟨f1.1,f2.1⟩|exact⟨f1.2,f2.2⟩)
  |(obtain⟨x,rfl⟩:=hv;first|exact⟨f1.1,f2.1⟩|exact⟨f1.2,f2.2⟩)
  |(obtain⟨x,y,rfl⟩:=hv;first|exact⟨f1.1,f2.1⟩|exact⟨f1.2,f2.2⟩)
  |(obtain⟨x,y,z,rfl⟩:=hv;first|exact⟨f1.1,f2.1⟩|exact⟨f1.2,f2.2⟩)
theorem Zbn(neq:Bool)(hv:m9 c b v)(x:Operand) :
  eqGuard (if neq then .neq else .eql) t x (.const (kG c)) v (kG c)=pure ()∧eqGuard (if neq then .neq else .eql) t (.const (kG c)) x (kG c) v=pure ():=by
 cases c<;>cases b<;>simp only[m9]at hv<;>cases neq<;>first
  |(subst hv;constructor<;>first|rfl|simp[eqGuard,kG])
  |(obtain⟨x,rfl⟩:=hv;constructor<;>rfl)
  |(obtain⟨x,y,rfl⟩:=hv;constructor<;>rfl)
  |(obtain⟨x,y,z,rfl⟩:=hv;constructor<;>rfl)
theorem QdA(c:gj)(neq left:Bool)(x y:aa)(b:Bool)(hb:nV c (bif left then y else x)=some b)(h0:Hp):aD P GL (.oG c neq left) [x,y] h0 (.bool (bif neq then !b else b)) [] []:=by
 intro o os hc w0 L g h w a r hx _ _;generalize ho:o.op=op at hc;cases hc with
 |wA _ _ t t' p ht=>
  have hn:=ZbK hb hx.1;rw[YK ho rfl (v:=kG c) rfl (by rw[(Zbn neq hn p).1];rfl) (Qcf ht hn neq w).1];exact Out.here r (.bool _ _)
 |wz _ _ t t' q ht=>
  have hn:=ZbK hb hx.2.1;rw[YK ho (u:=kG c) rfl rfl (by rw[(Zbn neq hn q).2];rfl) (Qcf ht hn neq w).2];exact Out.here r (.bool _ _)
theorem Qa7(k:IntKind)(ex nn:Bool)(sz:Nat)(rows:List (List aa))(row:List aa)(i:Int)(KD:0<=i)(hi:rows[i.toNat]?=some row)(h0:Hp) :
  aD P GL (.fK sz) [.aW ex nn sz rows,.int k i] h0 (.aq row 0) [] []:=by
 intro o os hc w0 L g h w a r hx _ _;generalize ho:o.op=op at hc;cases hc with
 |fK t z q e _ hu hn=>
  obtain⟨d,d2,_⟩:=hx;generalize iZ:a.eval z=u0 at d;cases d with
  |aW _ _ _ _ _ p cap blk off f h1 h2 h3 h4 h5 h6 h7 h8=>
   have cc:i.toNat<rows.length:=(gE hi).1;have cU:rows≠[]:=by intro e;rw[e]at cc;simp at cc
   have hp:=h3 cU;subst hp;have U9:i<rows.length:=by omega
   simp only[execOp,ho,iZ,Xp d2,zDT,asIntOf,OF,run_underlying hu,AS,zAA];rw[aI ⟨KD,U9⟩];simp only[OF,XE hn,AS,zAA,ZW];have hl:=h6 _ row hi;have hd:Den g.M g.c (.aq row 0) (.pointer (some ⟨blk,(off+i.toNat*sz)+0,none⟩)):=
    .aq _ _ _ _ _ (f i.toNat) (λk hk=>by grind) (λk x e=>h8 _ row k x hi e)
   exact Out.here r hd
variable{w:World}
theorem bx.fT{w0:World}{L:Ln}{h:Hp}(r:bx GL w0 L g h w){b:Nat}{sz:Nat}{rs:List (List aa)}{cb:CB}(hb:h b=some (.rows sz rs))(ec:g.c b=some cb)(hv:cb.cR=false) :
  cb.sz=sz∧∃arr T,w.heap[cb.blk]?=some (.cells arr T (0,0))∧arr.size=cb.vL∧cb.base+rs.length*sz<=cb.vL∧(∀(i:Nat) (row:List aa),rs[i]?=some row→row.length=sz) ∧
   ∀(i:Nat) (row:List aa) (j:Nat) (x:aa) (v:Value),rs[i]?=some row→row[j]?=some x→arr[cb.base+i*sz+j]?=some v→g.den x v:=by
 obtain⟨_,_,o',fR,h1,arr,T,rfl,h2,h3,h4,h5⟩:=r.own b _ cb hb rfl ec hv;exact⟨h1,arr,T,fR,h2,h3,h4,h5⟩
theorem bx.h_{w0:World}{L:Ln}{h:Hp}(r:bx GL w0 L g h w){b:Nat}{sz:Nat}{rs:List (List aa)}{cb:CB}(hb:h b=some (.rows sz rs))(ec:g.c b=some cb)(hv:cb.cR=true):cb.sz=sz∧rs=[]:=by
 have:=r.bn b _ cb hb rfl ec hv;simp_all
theorem Xa7(k:IntKind)(ex:Bool)(sz b o' len:Nat)(rs:List (List aa))(i:Int)(KD:0<=i)(hi:i<len)(h0:Hp)(hb:h0 b=some (.rows sz rs)) :
  aD P GL (.fK sz) [.sl b o' len ex,.int k i] h0 (.ptr b (o'+i.toNat) 0) [b] []:=by
 intro o os hc w0 L g h w a r hx cO _;have cj:h b=some (.rows sz rs):=by simp_all
 generalize ho:o.op=op at hc;cases hc with
 |fK t z q e _ hu hn=>
  obtain⟨d,d2,_⟩:=hx;generalize iZ:a.eval z=u0 at d;cases d with
  |pg=>simp at hi;omega
  |sle=>simp at hi;omega
  |sl _ _ _ _ _ cb cap ec hv h1 h2 h3=>
   obtain⟨e1,_⟩:=r.fT cj ec hv;simp only[execOp,ho,iZ,Xp d2,zDT,asIntOf,OF,run_underlying hu,AS,zAA];rw[aI ⟨KD,hi⟩];simp only[OF,XE hn,AS,zAA,ZW];have hd:Den g.M g.c (.ptr b (o'+i.toNat) 0) (.pointer (some ⟨cb.blk,cb.base+(o'+i.toNat)*cb.sz+0,none⟩)):=.ptr _ _ _ _ _ ec;rw[e1,zBX,zBj,←zBR]at hd;rw[e1];exact Out.here r hd
theorem Yc1(k:IntKind)(s:List UInt8)(i:Int)(c:UInt8)(KD:0<=i)(hi:s[i.toNat]?=some c)(h0:Hp):aD P GL .lM [.str s,.int k i] h0 (.int .u8 c.toNat) [] []:=by
 intro o os hc w0 L g h w a r hx _ _;generalize ho:o.op=op at hc;cases hc with
 |lM t z q hu=>
  obtain⟨d,d2,_⟩:=hx;obtain⟨s',e1,rfl⟩:=yt d;have hs:s'[i.toNat]?=some c:=by
   have cc:i.toNat<s'.data.toList.length:=(gE hi).1;have ai:=(gE hi).2;have Ac:i.toNat<s'.size:=by simpa using cc
   rw[getElem?_pos s' i.toNat Ac]
   congr 1
  simp only[execOp,ho,e1,Xp d2,Instr.index,asIntOf,OF,run_underlying hu,AS,zAA,aI KD,hs];exact Out.here r (.int _ _ _)
theorem XbZ(agg:Bool)(n b i j sz:Nat)(rs:List (List aa))(row:List aa)(v:aa)(h0:Hp)(hb:h0 b=some (.rows sz rs))(hi:rs[i]?=some row)(hv:aK agg j n row=some v) :
  aD P GL (.load agg n) [.ptr b i j] h0 v [b] []:=by
 intro o os hc w0 L g h w a r hx cO _;have cj:h b=some (.rows sz rs):=by simp_all
 generalize ho:o.op=op at hc;cases hc with
 |load t x _ _ ha hn=>
  have d:=hx.1;generalize hu:a.eval x=u0 at d;cases d with
  |ptr _ _ _ _ cb ec=>
  cases b_:cb.cR with
  |true=>have:=(r.h_ cj ec b_).2;subst this;simp at hi
  |false=>
  obtain⟨e1,arr,T,fR,hs,hle,ee,c_⟩:=r.fT cj ec b_;have qp:i<rs.length:=(gE hi).1;have hbound:cb.base+i*sz+sz<=arr.size:=by
   have:(i+1)*sz<=rs.length*sz:=zAE sz qp;rw[zBQ]at this;omega
  have oX:∀(k:Nat) (y:aa) (u:Value),row[k]?=some y→(arr.extract (cb.base+i*sz) (cb.base+i*sz+sz))[k]?=some u→g.den y u:=by
   grind
  obtain⟨p1,p2⟩:=IK (g:=g) hv (by rw[ee i row hi];simp;omega) oX;obtain⟨l1,l2⟩:=Rt ha hn (T:=T) (fr:=(0,0)) (X6 fR) (cb.base+i*sz+j);rw[e1]at hu;cases agg with
  |true=>
   obtain⟨q1,q2⟩:=p1 rfl;have UI:(arr.extract (cb.base+i*sz) (cb.base+i*sz+sz)).extract j (j+n)=arr.extract (cb.base+i*sz+j) (cb.base+i*sz+j+n):=by
    grind
   rw[UI]at q2;have q1':n≠0→cb.base+i*sz+j+n<=arr.size:=λkS=>by have:=q1 kS;simp at this;omega
   simp_all [execOp,zCU,zBW,Out.here]
  |false=>
   obtain⟨u,q1,q2⟩:=p2 rfl;obtain⟨hk,q1⟩:=zCF.1 q1;rw[zBx]at q1;simp at hk;have wX:cb.base+i*sz+j<arr.size:=by omega
   simp_all [execOp,zCU,zBW,Out.here]
theorem PX{blk j:Nat}{arr:Array Value}{T:TypeId}(ho:w.heap[blk]?=some (.cells arr T (0,0)))(vs:List Value)(hv:∀v∈vs,v.oneCell'=true)(dE:vs≠[]→j+vs.length<=arr.size) :
  ∃gL,(storeCells ⟨blk,j,none⟩ vs).run P w=.ok () (w.setRow blk gL)∧gL.size=arr.size∧∀k,gL[k]?=if j<=k∧k<j+vs.length then vs[k-j]? else arr[k]?:=by
 by_cases h0:vs=[]
 ·subst h0;refine⟨arr,?_,rfl,λk=>by rw[aB (by simp)]⟩;simp only[storeCells];rw[setRow_self w blk arr T (0,0) ho];rfl
 ·have hf:=dE h0;refine⟨_,run_storeCells_at P blk j T vs 0 arr w ho (by omega) hv,?_,λk=>?_⟩
  ·simp only[zEB,By,List.length_take,zDC,zAz];omega
  ·by_cases hk:j<=k∧k<j+vs.length
   ·rw[aI hk,zBY,zAb,zAO (by simp;omega),zAU (by simp;omega)]
    congr 1;simp;omega
   ·rw[aB hk];by_cases ni:k<j
    ·rw[zBY,zAb,zAU (by simp;omega),zDV (by omega)];simp
    ·rw[zBY,zAO (by simp;omega)];simp
     congr 1;omega
theorem YbB(n b i j sz:Nat)(rs rs':List (List aa))(row row' cs:List aa)(x:aa)(h0:Hp)(hb:h0 b=some (.rows sz rs))(hi:rs[i]?=some row)(gH:cellsOf x=some cs)(hlen:cs.length=n)(uG:bX j cs row=some row')(Ak:rs'=rs.set i row') :
  aD P GL (.store n) [.ptr b i j,x] h0 .aQ [] [(b,.rows sz rs')]:=by
 intro o os hc w0 L g h w a r hx _ gO;have cj:h b=some (.rows sz rs):=by simp_all
 generalize ho:o.op=op at hc;cases hc with
 |store t y z _ hn=>
  obtain⟨d,dx,_⟩:=hx;generalize hu:a.eval y=u0 at d;cases d with
  |ptr _ _ _ _ cb ec=>
  cases b_:cb.cR with
  |true=>have:=(r.h_ cj ec b_).2;subst this;simp at hi
  |false=>
  obtain⟨e1,arr,T,fR,hs,hle,ee,c_⟩:=r.fT cj ec b_;obtain⟨c1,c2,c3⟩:=NT gH dx;obtain⟨s1,s2,s3⟩:=S1 uG;have qp:i<rs.length:=(gE hi).1;have tB:=ee i row hi;have hbound:cb.base+i*sz+sz<=arr.size:=by
   have:(i+1)*sz<=rs.length*sz:=zAE sz qp;rw[zBQ]at this;omega
  have hL:(a.eval z).cells.toList.length=cs.length:=by rw[zAz];exact c1
  have oR:∀v∈(a.eval z).cells.toList,v.oneCell'=true:=by
   grind [zBi,Ox,AT]
  obtain⟨gL,f1,f2,f3⟩:=PX (P:=P) fR (a.eval z).cells.toList oR (j:=cb.base + i * sz + j) (by
   grind [zAc])
  have eN:(a.eval z).cells.size=n:=by rw[c1,hlen]
  rw[e1]at hu;have bg:(execOp a.eval o).run P w=.ok .skip (w.setRow cb.blk gL):=by
   simp_all [execOp,Instr.storeAt,zBW,storeVar,XE]
  rw[bg];refine⟨g,Gm.Le.refl g,?_,rfl⟩;refine r.write cj rfl ec b_ rfl rfl rfl rfl (Oz w _ arr gL T (0,0) fR) ⟨e1,gL,T,rfl,by rw[f2,hs],by subst Ak;simpa using hle,?_,?_⟩
  ·grind
  ·intro i' pf k y u e2 e3 e4;subst Ak;rw[f3,hL]at e4;by_cases hii:i'=i
   ·subst hii;simp[qp]at e2;subst e2;have hk:k<sz:=by grind
    rw[s3 k]at e3;by_cases qY:j<=k∧k<j+cs.length
    ·rw[aI qY]at e3;rw[aI (by omega)]at e4;refine c2 (k-j) y u e3 ?_;rw[zBO]at e4;rw[←e4];congr 1;omega
    ·rw[aB qY]at e3;rw[aB (by omega)]at e4;exact c_ i' row k y u hi e3 e4
   ·rw[List.getElem?_set_ne (λe=>hii e.symm)]at e2;have hk:k<sz:=by grind
    have oS:¬(cb.base+i*sz+j<=cb.base+i'*sz+k∧cb.base+i'*sz+k<cb.base+i*sz+j+cs.length):=by
     intro ⟨q1,q2⟩;by_cases zV:cs=[]
     ·subst zV;simp at q2;omega
     ·have uC:=s2 zV;rcases Nat.lt_or_ge i' i with cc|vH
      ·have:(i'+1)*sz<=i*sz:=zAE sz cc
       grind
      ·have cc:i<i':=by omega
       have:(i+1)*sz<=i'*sz:=zAE sz cc
       grind
    rw[aB oS]at e4;exact c_ i' pf k y u e2 e3 e4
end
end Go.Ah
end
section
namespace Go.Ah
section
variable {P:Program} {GL:aw}
theorem Zc0{g:Gm}{l r:Bool}{a b:aa}(h:GK l a b=some r){t:TypeId}(ht:nk P t=some l){v u:Value}(hv:g.den a v)(hu:g.den b u)(d:Nat)(w:World):(zCc (d+1) t v u).run P w=.ok r w:=by
 have Pz:∃ty,P.underlying t=some ty∧((l=false∧∃q,ty=.int q)∨(l=true∧ty=.bool)):=by
  grind [nk]
 obtain⟨ty,Pz,hl⟩:=Pz;rcases hl with ⟨rfl,q,rfl⟩|⟨rfl,rfl⟩
 ·cases hv<;>cases hu<;>simp only[GK]at h<;>try (cases h;done)
  grind [zA,run_equalIn_int]
 ·cases hv<;>cases hu<;>simp only[GK]at h<;>try (cases h;done)
  simp_all [run_equalIn_bool']
theorem Za6{g:Gm}(d:Nat)(xs ys:Array Value)(w:World):∀(fs:List Field) (k:Nat) (ls:List Bool) (as bs:List aa) (r:Bool),YZ ls as bs=some r →
  fs.all (λf=>f.name != "_")=true→fs.mapM (λf=>nk P f.type)=some ls→fs.map (·.offset)=zBI k fs.length →
  (∀(i:Nat) (x:aa),as[i]?=some x→∃v,xs[k+i]?=some v∧g.den x v)→(∀(i:Nat) (x:aa),bs[i]?=some x→∃v,ys[k+i]?=some v∧g.den x v) →
  (Op.eqFields (d+1) xs ys fs:Sem Bool).run P w=.ok r w
 |[],k,ls,as,bs,r,he,_,hm,_,_,_=>by
  simp at hm;subst hm;cases as<;>cases bs<;>simp only[YZ]at he<;>first|(cases he;rfl)|cases he
 |f::fs,k,ls,as,bs,r,he,iP,hm,K4,hx,hy=>by
  simp only[List.mapM_cons,Option.bind_eq_bind,Option.pure_def]at hm;cases DH:nk P f.type with
  |none=>simp[DH]at hm
  |some l=>
  cases Ad:fs.mapM (λf=>nk P f.type)with
  |none=>simp[DH,Ad]at hm
  |some ls'=>
  simp[DH,Ad]at hm;subst hm;cases as with
  |nil=>simp[YZ]at he
  |cons a as=>
   cases bs with
   |nil=>simp[YZ]at he
   |cons b bs=>
    simp only[YZ]at he;cases h1:GK l a b with
    |none=>simp[h1]at he
    |some r1=>
     cases h2:YZ ls' as bs with
     |none=>simp[h1,h2]at he
     |some r2=>
      simp only[h1,h2]at he;cases he;simp only[List.all_cons,AI,bne_iff_ne]at iP;obtain⟨K1,wH⟩:=iP;simp only[zAN,IS,zDG,zCL]at K4;obtain⟨hk,K5⟩:=K4;obtain⟨v,hv1,Lp⟩:=hx 0 a rfl;obtain⟨u,j6,qx⟩:=hy 0 b rfl;rw[zBj]at hv1 j6;have ih:=Za6 d xs ys w fs (k+1) ls' as bs r2 h2 wH Ad K5 (λi x e=>by have:=hx (i+1) x (by simpa using e);rwa [show k+1+i=k+(i+1) by omega]) (λi x e=>by have:=hy (i+1) x (by simpa using e);grind);have B5:∀(arr:Array Value) (z:Value),arr[k]?=some z→(part f.type arr f.offset).run P w=.ok z w:=by
       intro arr z hz;have ha:fV P f.type=some false:=by
        grind [nk,fV]
       simp_all [part,Y9]
      simp only[Op.eqFields];rw[aI K1];simp only[OF,B5 xs v hv1,B5 ys u j6,Zc0 h1 DH Lp qx,AS];cases r1<;>simp_all
theorem Yem(neq:Bool)(ls:List Bool)(as bs:List aa)(r:Bool)(hr:YZ ls as bs=some r)(h0:Hp):aD P GL (.BO neq ls) [.agg as,.agg bs] h0 (.bool (bif neq then !r else r)) [] []:=by
 intro o os hc w0 L g h w a r' hx _ _;generalize ho:o.op=op at hc;cases hc with
 |BO _ t t' x y _ hl hs hg=>
  obtain⟨d1,d2,_⟩:=hx;generalize j6:a.eval x=u1 at d1;generalize qx:a.eval y=u2 at d2;cases d1 with
  |agg _ _ vs q1 q2=>
  cases d2 with
  |agg _ _ us q3 q4=>
  have ic:∃fs,P.underlying t=some (.struct fs)∧fs.toList.all (λf=>f.name != "_")=true∧fs.toList.map (·.offset)=zBI 0 fs.toList.length∧fs.toList.mapM (λf=>nk P f.type)=some ls:=by
   grind [qB]
  obtain⟨fs,f1,f2,f3,f4⟩:=ic;have Hv:P.fieldsOf t=fs:=by simp[Program.fieldsOf,f1]
  have bg:(zCc 10000 t (.agg vs) (.agg us)).run P w=.ok r w:=by
   rw[show (10000:Nat)=9998+1+1 from rfl,run_equalIn_struct w (9998+1) t vs us (by rw[Hv];exact f1) hs,Hv];refine Za6 (g:=g) 9998 vs us w fs.toList 0 ls as bs r hr f2 f4 f3 (λi x e=>?_) (λi x e=>?_)
   ·have hi:i<vs.size:=by grind
    exact⟨vs[i],by simp[hi],q2 i x _ e (by simp[hi])⟩
   ·have hi:i<us.size:=by grind
    exact⟨us[i],by simp[hi],q4 i x _ e (by simp[hi])⟩
  cases neq
  ·rw[YK ho j6 qx (run_eqGuard_agg w _ t x y vs us hg) (z:=.bool r) (by show (binOp .eql t _ _).run P w=_;rw[run_eql_struct,bg];rfl)];exact Out.here r' (.bool _ _)
  ·rw[YK ho j6 qx (run_eqGuard_agg w _ t x y vs us hg) (z:=.bool (!r)) (by show (binOp .neq t _ _).run P w=_;rw[run_neq_struct,bg];rfl)];exact Out.here r' (.bool _ _)
end
end Go.Ah
end
section
namespace Go.Ah
def jJ:aa→aa→Option Bool
 |.int k a,.int k' b=>bif j7 k k' then some (a==b)else none
 |.str a,.str b=>some (a==b)
 |_,_=>none
def jB(k:aa):List (aa×aa)→Option (Option aa)
 |[]=>some none
 |(q,x)::es=>match jJ k q with
  |some true=>some (some x)
  |some false=>jB k es
  |none=>none
def oi(k v:aa):List (aa×aa)→Option (List (aa×aa))
 |[]=>some [(k,v)]
 |(q,x)::es=>match jJ k q with
  |some true=>some ((k,v)::es)
  |some false=>match oi k v es with
   |some um=>some ((q,x)::um)
   |none=>none
  |none=>none
def fX(g:Gm)(es:List (aa×aa))(l:List MapEntry):Prop:=
 l.length=es.length∧∀(i:Nat) (k x:aa) (e:MapEntry),es[i]?=some (k,x)→l[i]?=some e→g.den k e.key∧g.den x e.val
section
variable {P:Program} {GL:aw}
def kO(d:TypeDesc)(k:aa):Prop:=(∃z n z',k=.int z n∧d=.int z')∨(∃s,k=.str s∧d=.string)
variable{d:TypeDesc}
variable{k q:aa}
variable{u v:Value}
variable{g:Gm}
theorem Ycb{r:Bool}(h:jJ k q=some r)(hu:g.den k u)(hv:g.den q v)(dE:kO d k) :
  zDS d u v=some r:=by
 rcases dE with ⟨z,n,z',rfl,rfl⟩|⟨s,rfl,rfl⟩
 ·cases q<;>simp only[jJ]at h<;>try (cases h;done)
  cases hu;cases hv<;>grind [zDS,zA]
 ·cases q<;>simp only[jJ]at h<;>try (cases h;done)
  cases hu;cases hv<;>simp_all [zDS,beq_toListBytes,zCa]
theorem Ya4(hu:g.den k u)(dE:kO d k):∀(es:List (aa×aa)) (l:List MapEntry) (i:Nat) (r:Option aa),fX g es l→jB k es=some r →
  (r=none→zBT d u l i=some none)∧(∀x,r=some x→∃j v,zBT d u l i=some (some (j,v))∧g.den x v∧i<=j∧∃e,l[j-i]?=some e∧v=e.val)
 |[],l,i,r,⟨hl,_⟩,h=>by
  have:l=[]:=zAc.1 (by simpa using hl);subst this;simp only[jB]at h;cases h;exact⟨λ_=>rfl,λx e=>by cases e⟩
 |(q,x)::es,l,i,r,⟨hl,hd⟩,h=>by
  cases l with
  |nil=>simp at hl
  |cons e l=>
   obtain⟨d1,d2⟩:=hd 0 q x e rfl rfl;simp only[jB]at h;cases hk:jJ k q with
   |none=>simp[hk]at h
   |some b=>
    have xo:=Ycb hk hu d1 dE;cases b with
    |true=>
     simp only[hk]at h;cases h;refine⟨λe=>(by cases e),λy ey=>?_⟩;cases ey;exact⟨i,e.val,by simp[zBT,xo],d2,No _,e,by simp,rfl⟩
    |false=>
     simp only[hk]at h;obtain⟨i1,i2⟩:=Ya4 hu dE es l (i+1) r ⟨by simpa using hl,λj k' x' e' q1 q2=>hd (j+1) k' x' e' (by simpa using q1) (by simpa using q2)⟩ h
     grind [zBT]
variable{t:TypeId}
theorem WR(hd:P.underlying t=some d)(dE:kO d k)(hu:g.den k u)(b:Bool)(n:Nat)(w:World):(Instr.checkKey b (n+1) t u).run P w=.ok () w:=by
 rcases dE with ⟨z,m,z',rfl,rfl⟩|⟨s,rfl,rfl⟩<;>simp_all [Instr.checkKey,run_underlying]
theorem OI(hd:P.underlying t=some d){l:List MapEntry}{r:Option (Nat×Value)}(h:zBT d u l 0=some r)(w:World):(Instr.findKey t u l).run P w=.ok r w:=by
 simp_all [Instr.findKey,run_underlying]
def lu(ok:Bool)(z:aa)(r:Option aa):aa:=
 bif ok then .bp [r.getD z,.bool r.isSome]else r.getD z
theorem Yc0{k e:TypeId}{z:aa}(ht:P.underlying t=some (.map k e))(hd:P.underlying k=some d)(hz:eA P e=some v)(BQ:qe v=some z){m:Value}(hu:g.den q u)(dE:kO d q)
 {w:World}{es:List (aa×aa)}{arr:Array MapEntry}(hm:(m=.map none∧arr = #[])∨∃b clock,m=.map (some b)∧w.heap[b]?=some (.map arr clock))(Kv:fX g es arr.toList){r:Option aa}(hr:jB q es=some r)(ok:Bool) :
  ∃x,(zDa t m u ok).run P w=.ok x w∧g.den (lu ok z r) x:=by
 obtain⟨f1,f2⟩:=Ya4 hu dE es arr.toList 0 r Kv hr;have UA:=λw'=>WR (P:=P) hd dE hu arr.isEmpty 9999 w';have nK:∀v' b,g.den (r.getD z) v'→b=r.isSome→g.den (lu ok z r) (if ok then .tuple #[v',.bool b]else v'):=by
  intro v' b h2 h3;subst h3;cases ok
  ·exact h2
  ·refine .bp _ _ _ rfl (λi x v e1 e2=>?_)
   match i with
   |0=>simp at e1 e2;subst e1 e2;exact h2
   |1=>simp at e1 e2;subst e1 e2;exact .bool _ _
   |n+2=>simp at e1
 cases r with
 |none=>
  refine⟨_,?_,nK v false (NN BQ) rfl⟩;unfold zDa;rcases hm with ⟨rfl,rfl⟩|⟨b,clock,rfl,hb⟩<;>simp_all [getObj,zCZ,run_underlying,OI,A8]
 |some x=>
  obtain⟨j,v',g1,g2,_⟩:=f2 x rfl;refine⟨_,?_,nK v' true g2 rfl⟩;unfold zDa;rcases hm with ⟨rfl,rfl⟩|⟨b,clock,rfl,hb⟩<;>simp_all [getObj,zCZ,run_underlying,OI]
inductive rj (h0:Hp):aa→List (aa×aa)→List Nat→Prop
 |own (b:Nat) (es:List (aa×aa)):h0 b=some (.map es)→rj h0 (.map b) es [b]
 |row (es:List (aa×aa)):rj h0 (.fN es) es []
 |nil:rj h0 .cW [] []
def lY:Bool→aa→Prop
 |true,k=>∃s,k=.str s
 |false,k=>∃q n,k=.int q n
theorem ZbI{str:Bool}(ht:uR P t str)(hk:lY str k):∃d,P.underlying t=some d∧kO d k:=by
 cases str
 ·obtain⟨q,hq⟩:=ht;obtain⟨q',n,rfl⟩:=hk;exact⟨_,hq,.inl ⟨_,_,_,rfl,rfl⟩⟩
 ·obtain⟨s,rfl⟩:=hk;exact⟨_,ht,.inr ⟨_,rfl,rfl⟩⟩
theorem Zc2(str ok:Bool)(z m k:aa)(es:List (aa×aa))(rd:List Nat)(r:Option aa)(h0:Hp)(hm:rj h0 m es rd)(hk:lY str k)(hr:jB k es=some r):aD P GL (.lookup str ok z) [m,k] h0 (lu ok z r) rd []:=by
 intro o os hc w0 L g h w a rp hx cO _;generalize ho:o.op=op at hc;cases hc with
 |lookup t kt e x i _ _ v _ ht DE hz BQ=>
  obtain⟨d1,d2,_⟩:=hx;obtain⟨d,hd,dE⟩:=ZbI DE hk;generalize j6:a.eval x=u1 at d1;have Vb:∃arr:Array MapEntry,((u1=.map none∧arr = #[])∨∃b clock,u1=.map (some b)∧w.heap[b]?=some (.map arr clock))∧fX g es arr.toList:=by
   cases hm with
   |own b _ hb=>
    have cj:h b=some (.map es):=by simp_all
    cases d1 with
    |map _ _ cb ec=>
    cases b_:cb.cR with
    |true=>have:=rp.bn b _ cb cj rfl ec b_;cases this
    |false=>
    obtain⟨_,_,o',fR,arr,clock,rfl,hs,c_⟩:=rp.own b _ cb cj rfl ec b_;exact⟨arr,.inr ⟨_,clock,rfl,fR⟩,by simpa using hs,λi k x e e1 e2=>c_ i k x e e1 (by simpa using e2)⟩
   |row _=>
    cases d1 with
    |fN _ _ blk arr clock hM hs h1 h2=>
    exact⟨arr,.inr ⟨_,clock,rfl,rp.aZ _ _ hM⟩,by simpa using hs,λi k x e e1 e2=>⟨(h1 i k x e e1 (by simpa using e2)).mono (i9.refl _) (gD.bA _),(h2 i k x e e1 (by simpa using e2)).mono (i9.refl _) (gD.bA _)⟩⟩
   |nil=>
    cases d1;exact⟨#[],.inl ⟨rfl,rfl⟩,rfl,by simp⟩
  obtain⟨arr,B4,Kv⟩:=Vb;obtain⟨y,f1,f2⟩:=Yc0 ht hd hz BQ d2 dE B4 Kv hr ok;simp_all [execOp,Out.here]
theorem Zcg(h:jJ k q=some true)(hu:g.den k u)(hv:g.den q v)(n:Nat):zCg n v u=true:=by
 cases k<;>cases q<;>simp only[jJ]at h<;>try (cases h;done)
 ·rename_i k1 a k2 b;cases hk:j7 k1 k2 with
  |false=>simp[hk]at h
  |true=>
   have:=zA hk;subst this;simp[hk]at h;cases hu;cases hv;simp_all [zCg]
 ·cases hu;cases hv<;>simp_all [zCg,beq_toListBytes,zCa]
theorem Yb3{x:aa}{y:Value}(hu:g.den k u)(hy:g.den x y)(dE:kO d k):∀(es um:List (aa×aa)) (l:List MapEntry) (i:Nat),fX g es l→oi k x es=some um →
  (zBT d u l i=some none∧∀e:MapEntry,e.key=u→e.val=y→fX g um (l++[e])) ∨
  (∃j v,zBT d u l i=some (some (i+j,v))∧j<l.length∧(∃e,l[j]?=some e∧∀n,zCg n e.key u=true)∧fX g um (l.modify j λe=>{ e with key:=u,val:=y }))
 |[],um,l,i,⟨hl,_⟩,h=>by
  have:l=[]:=zAc.1 (by simpa using hl);subst this;simp only[oi]at h;cases h;refine .inl ⟨rfl,λe h1 h2=>⟨rfl,λj k' x' e' q1 q2=>?_⟩⟩
  grind
 |(q,z)::es,um,l,i,⟨hl,hd⟩,h=>by
  cases l with
  |nil=>simp at hl
  |cons e l=>
   obtain⟨d1,d2⟩:=hd 0 q z e rfl rfl;have nj:fX g es l:=⟨by simpa using hl,λj k' x' e' q1 q2=>hd (j+1) k' x' e' (by simpa using q1) (by simpa using q2)⟩;simp only[oi]at h;cases hk:jJ k q with
   |none=>simp[hk]at h
   |some b=>
    have xo:=Ycb hk hu d1 dE;cases b with
    |true=>
     simp only[hk]at h;cases h;refine .inr ⟨0,e.val,by simp[zBT,xo],by simp,⟨e,rfl,λn=>Zcg hk hu d1 n⟩,by simpa using hl,λj k' x' e' q1 q2=>?_⟩
     grind
    |false=>
     simp only[hk]at h;cases hp:oi k x es with
     |none=>simp[hp]at h
     |some es2=>
      simp only[hp]at h;cases h;rcases Yb3 hu hy dE es es2 l (i+1) nj hp with ⟨f1,f2⟩|⟨j,v,f1,f2,f3,f4⟩
      ·refine .inl ⟨by simp[zBT,xo,f1],λe0 h1 h2=>?_⟩;obtain⟨g1,g2⟩:=f2 e0 h1 h2;refine⟨by simpa using g1,λj k' x' e' q1 q2=>?_⟩
       grind
      ·refine .inr ⟨j+1,v,by simp[zBT,xo,f1];omega,by simp;omega,by simpa using f3,?_⟩;obtain⟨g1,g2⟩:=f4;refine⟨by simpa using g1,λj' k' x' e' q1 q2=>?_⟩
       grind
theorem Yc2(str:Bool)(b:Nat)(k x:aa)(es um:List (aa×aa))(h0:Hp)(hb:h0 b=some (.map es))(hk:lY str k)(hp:oi k x es=some um):aD P GL (.lO str) [.map b,k,x] h0 .aQ [] [(b,.map um)]:=by
 intro o os hc w0 L g h w a r hx _ gO;have cj:h b=some (.map es):=by simp_all
 have main:∀(t kt e:TypeId) (om ok ox:Operand),P.underlying t=some (.map kt e)→uR P kt str→dR g [.map b,k,x] (List.map a.eval [om,ok,ox]) →
   ∃w',(zDF t (a.eval om) (a.eval ok) (a.eval ox)).run P w=.ok () w'∧bx GL w0 L g (eo h b (.map um)) w':=by
  intro t kt e om ok ox ht DE ⟨d1,d2,d3,_⟩;obtain⟨d,hd,dE⟩:=ZbI DE hk;generalize j6:a.eval om=u1 at d1;cases d1 with
  |map _ _ cb ec=>
  cases b_:cb.cR with
  |true=>have:=r.bn b _ cb cj rfl ec b_;cases this
  |false=>
  obtain⟨_,_,o',fR,arr,clock,rfl,hs,c_⟩:=r.own b _ cb cj rfl ec b_;have hg:(getObj cb.blk).run P w=.ok (.map arr clock) w:=by simp[getObj,zCZ,fR]
  have ic:∀D4,(setObj cb.blk D4).run P w=.ok () { w with heap:=w.heap.setIfInBounds cb.blk D4 }:=by intro D4;simp[setObj,zCZ,fR]
  have Kv:fX g es arr.toList:=⟨by simpa using hs,λi k x e e1 e2=>c_ i k x e e1 (by simpa using e2)⟩;have UA:=WR (P:=P) hd dE d2 false 9999 w;rcases Yb3 d2 d3 dE es um arr.toList 0 Kv hp with ⟨f1,f2⟩|⟨j,v,f1,f2,⟨e0,f3,f3'⟩,f4⟩
  ·refine⟨_,by simp only[zDF,OF,run_underlying ht,AS,hg,UA,OI hd f1,ic];rfl,?_⟩;refine r.write cj rfl ec b_ rfl rfl rfl rfl rfl ?_;obtain⟨g1,g2⟩:=f2 { key:=a.eval ok,val:=a.eval ox,born:=clock } rfl rfl;exact⟨_,_,rfl,by simpa using g1,λi k x e e1 e2=>g2 i k x e e1 (by grind)⟩
  ·rw[IN]at f1;have Lk:(zDr (((arr[j]?).map (·.key)).getD (a.eval ok)) (a.eval ok)).run P w=.ok (a.eval ok) w:=by
    simp_all [zDr]
   refine⟨_,by simp only[zDF,OF,run_underlying ht,AS,hg,UA,OI hd f1,Lk,ic];rfl,?_⟩;refine r.write cj rfl ec b_ rfl rfl rfl rfl rfl ?_;obtain⟨g1,g2⟩:=f4;exact⟨_,_,rfl,by simpa using g1,λi k x e e1 e2=>g2 i k x e e1 (by grind)⟩
 generalize ho:o.op=op at hc;cases hc with
 |mapUpdate t kt e om ok ox _ ht DE=>
  obtain⟨w',f1,f2⟩:=main t kt e om ok ox ht DE hx;simp only[execOp,ho,OF,f1,AS,zAA];exact⟨g,Gm.Le.refl g,f2,rfl⟩
 |mapInsert t kt e om ok ox _ ht DE=>
  obtain⟨w',f1,f2⟩:=main t kt e om ok ox ht DE hx;simp only[execOp,ho,OF,f1,AS,zAA];exact⟨g,Gm.Le.refl g,f2,rfl⟩
theorem ZcQ(b:Nat)(s:List UInt8)(pos:Nat)(h0:Hp)(hb:h0 b=some (.fz s pos)) :
  (pos<s.length→aD P GL .next [.iter b] h0 (.bp [.bool true,.int .i64 pos,.int .i32 (zBc ⟨s.toArray⟩ pos).1]) [] [(b,.fz s (pos+(zBc ⟨s.toArray⟩ pos).2))]) ∧
  (s.length<=pos→aD P GL .next [.iter b] h0 (.bp [.bool false]) [b] []):=by
 constructor
 ·intro cc o os hc w0 L g h w a r hx _ gO;have cj:h b=some (.fz s pos):=by simp_all
  generalize ho:o.op=op at hc;cases hc with
  |next x=>
   have d:=hx.1;generalize iZ:a.eval x=u0 at d;cases d with
   |iter _ _ cb ec=>
   cases b_:cb.cR with
   |true=>have:=r.bn b _ cb cj rfl ec b_;cases this
   |false=>
   obtain⟨_,_,o',fR,bR⟩:=r.own b _ cb cj rfl ec b_;have vg:o'=.stringIter ⟨s.toArray⟩ pos:=bR;subst vg;have hg:(getObj cb.blk).run P w=.ok (.stringIter ⟨s.toArray⟩ pos) w:=by simp[getObj,zCZ,fR]
   have ic:∀D4,(setObj cb.blk D4).run P w=.ok () { w with heap:=w.heap.setIfInBounds cb.blk D4 }:=by intro D4;simp[setObj,zCZ,fR]
   have eN:pos<(⟨s.toArray⟩:ByteArray).size:=by show pos<s.toArray.size;simpa using cc
   have bg:(zDI (.pointer (some ⟨cb.blk,0,none⟩)) true o.type).run P w=.ok (.tuple #[.bool true,.int .i64 pos,.int .i32 (zBc ⟨s.toArray⟩ pos).1]) { w with heap:=w.heap.setIfInBounds cb.blk (.stringIter ⟨s.toArray⟩ (pos+(zBc ⟨s.toArray⟩ pos).2)) }:=by
    simp only[zDI,OF,hg,AS,aI eN,ic,zAA,goInt]
   simp only[execOp,ho,iZ,OF,bg,AS,zAA];refine⟨g,Gm.Le.refl g,r.write cj rfl ec b_ rfl rfl rfl rfl rfl rfl,.bp _ _ _ rfl (λi x v e1 e2=>?_)⟩
   match i with
   |0=>simp at e1 e2;subst e1 e2;exact .bool _ _
   |1=>simp at e1 e2;subst e1 e2;exact .int _ _ _
   |2=>simp at e1 e2;subst e1 e2;exact .int _ _ _
   |n+3=>simp at e1
 ·intro vH o os hc w0 L g h w a r hx cO _;have cj:h b=some (.fz s pos):=by simp_all
  generalize ho:o.op=op at hc;cases hc with
  |next x=>
   have d:=hx.1;generalize iZ:a.eval x=u0 at d;cases d with
   |iter _ _ cb ec=>
   cases b_:cb.cR with
   |true=>have:=r.bn b _ cb cj rfl ec b_;cases this
   |false=>
   obtain⟨_,_,o',fR,bR⟩:=r.own b _ cb cj rfl ec b_;have vg:o'=.stringIter ⟨s.toArray⟩ pos:=bR;subst vg;have hg:(getObj cb.blk).run P w=.ok (.stringIter ⟨s.toArray⟩ pos) w:=by simp[getObj,zCZ,fR]
   have eN:¬pos<(⟨s.toArray⟩:ByteArray).size:=by show ¬pos<s.toArray.size;simpa using vH
   have bg:(zDI (.pointer (some ⟨cb.blk,0,none⟩)) true o.type).run P w=.ok (.tuple #[.bool false]) w:=by
    simp only[zDI,OF,hg,AS,aB eN,zAA]
   simp only[execOp,ho,iZ,OF,bg,AS,zAA];refine Out.here r (.bp _ _ _ rfl (λi x v e1 e2=>?_))
   match i with
   |0=>simp at e1 e2;subst e1 e2;exact .bool _ _
   |n+1=>simp at e1
theorem Zl(k:IntKind)(i:Int)(y:Nat)(code:BoundsCode)(h0:0<=i)(h1:i<=y)(w:World):(zEE (.int k i) y code).run P w=.ok i.toNat w:=by
 simp_all [zEE,asIntOf]
def cut(l h:Nat)(rows:List (List aa)):List (List aa):=(rows.take h).drop l
variable{rows:List (List aa)}
variable{l h:Nat}
theorem NU{i:Nat}{row:List aa}(e:(cut l h rows)[i]?=some row):rows[l+i]?=some row∧l+i<h:=by
 grind [cut]
theorem Il(hh:h<=rows.length):(cut l h rows).length=h-l:=by
 unfold cut;simp;omega
theorem NV{ex nn:Bool}{sz:Nat}{p:Option Addr}{len cap:Nat}(d:g.den (.aW ex nn sz rows) (.slice p len cap)){m:Nat}(hl:l<=h)(hh:h<=rows.length)(hm:h<=m)(hmc:m<=cap)(vD:Bool)(hex:vD=true→m=h) :
  g.den (.aW vD nn sz (cut l h rows)) (.slice (if m=l then p else p.map (·.add (l*sz))) (h-l) (m-l)):=by
 cases d with
 |aW _ _ _ _ _ _ _ blk off f h1 h2 h3 h4 h5 h6 h7 h8=>
  have hlen:=Il (l:=l) hh;rw[←hlen];refine .aW _ vD nn sz (cut l h rows) _ (m-l) blk (off+l*sz) (λi j=>f (l+i) j) (λe=>by rw[hlen,hex e]) (λe=>?_) (λe=>?_) (λe=>?_) (by rw[hlen];omega) (λi row e=>h6 _ row (NU e).1) (λi j hi hj=>?_) (λi row j x e1 e2=>h8 _ row j x (NU e1).1 e2)
  ·grind
  ·have cU:h-l≠0:=by grind
   have hr:rows≠[]:=by intro e0;subst e0;simp at hh;omega
   rw[aB (by omega),h3 hr];simp[ZW]
  ·split at e<;>simp_all
  grind
theorem ZA{o:Oper}{e:TypeId}{x:Operand}{lo hi mx:Option Operand}(ho:o.op=.slice t x lo hi mx)(hu:P.underlying t=some (.slice e)){n:Nat}(hn:size? P e=some n){a:Act}{p:Option Addr}{len cap:Nat}(hx:a.eval x=.slice p len cap){w:World}{m:Nat}
 (hb:(zAQ true len cap (lo.map a.eval) (hi.map a.eval) (mx.map a.eval)).run P w=.ok (l,h,m) w) :
  (execOp a.eval o).run P w=.ok (.value (.slice (if m=l then p else p.map (·.add (l*n))) (h-l) (m-l))) w:=by
 have h1:(zDE t (.slice p len cap) (lo.map a.eval) (hi.map a.eval) (mx.map a.eval)).run P w=.ok (.slice (if m=l then p else p.map (·.add (l*n))) (h-l) (m-l)) w:=by
  simp_all [zDE,run_underlying,XE]
 simp_all [zDY,execOp,run_underlying]
theorem Hh{ex nn:Bool}{sz:Nat}(d:g.den (.aW ex nn sz rows) v):∃p cap,v=.slice p rows.length cap∧rows.length<=cap∧(ex=true→cap=rows.length):=by
 cases d<;>grind
theorem Yw{op:Op}{n:Nat}{bl bh bm:Bool}{os:List Operand}(hc:cu P GL op (.cQ n bl bh bm) os) :
  ∃(t:TypeId) (x:Operand) (lo hi mx:Option Operand) (e:TypeId),op=.slice t x lo hi mx∧bl=lo.isSome∧bh=hi.isSome∧bm=mx.isSome∧os=[x]++lo.toList++hi.toList++mx.toList∧P.underlying t=some (.slice e)∧size? P e=some n:=by
 cases hc<;>grind
theorem PY{op:Op}{bl bh:Bool}{os:List Operand}(hc:cu P GL op (.fj bl bh) os) :
  ∃(t:TypeId) (x:Operand) (lo hi:Option Operand),op=.slice t x lo hi none∧bl=lo.isSome∧bh=hi.isSome∧os=[x]++lo.toList++hi.toList∧P.underlying t=some .string:=by
 cases hc<;>grind
theorem Yci(ex nn:Bool)(sz:Nat)(rows:List (List aa))(k:IntKind)(i:Int)(h1:0<=i)(h2:i<=rows.length)(h0:Hp) :
  aD P GL (.cQ sz true false false) [.aW ex nn sz rows,.int k i] h0 (.aW ex nn sz (cut i.toNat rows.length rows)) [] []:=by
 intro o os hc w0 L g hp w a r hx _ _;obtain⟨t,x,lo,hi,mx,e,ho,gz,dO,mm,rfl,hu,hn⟩:=Yw hc;obtain⟨lo,rfl⟩:∃z,lo=some z:=zAC.1 gz.symm;obtain rfl:hi=none:=by cases hi<;>first|rfl|cases dO
 obtain rfl:mx=none:=by cases mx<;>first|rfl|cases mm
 obtain⟨d,d2,_⟩:=hx;obtain⟨p,cap,hv,vG,kX⟩:=Hh d;rw[hv]at d;have hb:(zAQ true rows.length cap (some (.int k i)) none none).run P w=.ok (i.toNat,rows.length,cap) w:=by
  grind [zAQ,OF,zAA,AS,Zl]
 rw[ZA ho hu hn hv (l:=i.toNat) (h:=rows.length) (m:=cap) (by simpa[Xp d2]using hb)];exact Out.here r (NV d (by omega) (No _) vG (No _) ex kX)
theorem Zci(ex nn:Bool)(sz:Nat)(rows:List (List aa))(k:IntKind)(i:Int)(h1:0<=i)(h2:i<=rows.length)(h0:Hp) :
  aD P GL (.cQ sz false true false) [.aW ex nn sz rows,.int k i] h0 (.aW false nn sz (cut 0 i.toNat rows)) [] []:=by
 intro o os hc w0 L g hp w a r hx _ _;obtain⟨t,x,lo,hi,mx,e,ho,gz,dO,mm,rfl,hu,hn⟩:=Yw hc;obtain rfl:lo=none:=by cases lo<;>first|rfl|cases gz
 obtain⟨hi,rfl⟩:∃z,hi=some z:=zAC.1 dO.symm;obtain rfl:mx=none:=by cases mx<;>first|rfl|cases mm
 obtain⟨d,d2,_⟩:=hx;obtain⟨p,cap,hv,vG,kX⟩:=Hh d;rw[hv]at d;have hb:(zAQ true rows.length cap none (some (.int k i)) none).run P w=.ok (0,i.toNat,cap) w:=by
  grind [zAQ,OF,zAA,AS,Zl]
 rw[ZA ho hu hn hv (l:=0) (h:=i.toNat) (m:=cap) (by simpa[Xp d2]using hb)];exact Out.here r (NV d (by omega) (by omega) (by omega) (No _) false (by simp))
theorem QbA(ex nn:Bool)(sz:Nat)(rows:List (List aa))(k k':IntKind)(i j:Int)(h1:0<=i)(h2:i<=j)(h3:j<=rows.length)(h0:Hp) :
  aD P GL (.cQ sz true true false) [.aW ex nn sz rows,.int k i,.int k' j] h0 (.aW false nn sz (cut i.toNat j.toNat rows)) [] []:=by
 intro o os hc w0 L g hp w a r hx _ _;obtain⟨t,x,lo,hi,mx,e,ho,gz,dO,mm,rfl,hu,hn⟩:=Yw hc;obtain⟨lo,rfl⟩:∃z,lo=some z:=zAC.1 gz.symm;obtain⟨hi,rfl⟩:∃z,hi=some z:=zAC.1 dO.symm;obtain rfl:mx=none:=by cases mx<;>first|rfl|cases mm
 obtain⟨d,d2,d3,_⟩:=hx;obtain⟨p,cap,hv,vG,kX⟩:=Hh d;rw[hv]at d;have hb:(zAQ true rows.length cap (some (.int k i)) (some (.int k' j)) none).run P w=.ok (i.toNat,j.toNat,cap) w:=by
  simp only[zAQ,OF,zAA,AS,Zl k' j cap _ (by omega) (by omega),Zl k i j.toNat _ h1 (by omega)]
 rw[ZA ho hu hn hv (l:=i.toNat) (h:=j.toNat) (m:=cap) (by simpa[Xp d2,Xp d3]using hb)];exact Out.here r (NV d (by omega) (by omega) (by omega) (No _) false (by simp))
theorem XbA(ex nn:Bool)(sz:Nat)(rows:List (List aa))(k k':IntKind)(i:Int)(h1:0<=i)(h2:i<=rows.length)(h0:Hp) :
  aD P GL (.cQ sz false true true) [.aW ex nn sz rows,.int k i,.int k' i] h0 (.aW true nn sz (cut 0 i.toNat rows)) [] []:=by
 intro o os hc w0 L g hp w a r hx _ _;obtain⟨t,x,lo,hi,mx,e,ho,gz,dO,mm,rfl,hu,hn⟩:=Yw hc;obtain rfl:lo=none:=by cases lo<;>first|rfl|cases gz
 obtain⟨hi,rfl⟩:∃z,hi=some z:=zAC.1 dO.symm;obtain⟨mx,rfl⟩:∃z,mx=some z:=zAC.1 mm.symm;obtain⟨d,d2,d3,_⟩:=hx;obtain⟨p,cap,hv,vG,kX⟩:=Hh d;rw[hv]at d;have hb:(zAQ true rows.length cap none (some (.int k i)) (some (.int k' i))).run P w=.ok (0,i.toNat,i.toNat) w:=by
  simp only[zAQ,OF,zAA,AS,if_true,Zl k' i cap _ h1 (by omega),Zl k i i.toNat _ h1 (by omega)]
 rw[ZA ho hu hn hv (l:=0) (h:=i.toNat) (m:=i.toNat) (by simpa[Xp d2,Xp d3]using hb)];exact Out.here r (NV d (by omega) (by omega) (No _) (by omega) true (λ_=>rfl))
theorem Qch(s:List UInt8)(k k':IntKind)(i j:Int)(h1:0<=i)(h2:i<=j)(h3:j<=s.length)(h0:Hp) :
  aD P GL (.fj true true) [.str s,.int k i,.int k' j] h0 (.str ((s.take j.toNat).drop i.toNat)) [] []:=by
 intro o os hc w0 L g hp w a r hx _ _;obtain⟨t,x,lo,hi,ho,gz,dO,rfl,hu⟩:=PY hc;obtain⟨lo,rfl⟩:∃z,lo=some z:=zAC.1 gz.symm;obtain⟨hi,rfl⟩:∃z,hi=some z:=zAC.1 dO.symm;obtain⟨d,d2,d3,_⟩:=hx;obtain⟨s',e1,rfl⟩:=yt d;have eN:s'.data.toList.length=s'.size:=by simp
 have bg:(execOp a.eval o).run P w=.ok (.value (.string (s'.extract i.toNat j.toNat))) w:=by
  simp only[execOp,ho,e1,zDY,zDE,OF,run_underlying hu,AS,Option.map_some,Xp d2,Xp d3,zCz,Option.isSome_none,zAW,if_false,zAQ,zAA,Zl k' j s'.size _ (by omega) (by omega),Zl k i j.toNat _ h1 (by omega)]
 rw[bg];have:((s'.data.toList.take j.toNat).drop i.toNat)=(s'.extract i.toNat j.toNat).data.toList:=by
  simp[List.drop_take]
 rw[this];exact Out.here r (.str _ _)
end
end Go.Ah
end
section
namespace Go.Ah
section
variable {P:Program} {GL:aw}
theorem Qbq(D1 cap:Nat)(h:cap<D1):zCb D1 cap<=2*D1+192:=by
 grind [zCb,Builtin.growBy]
variable{w:World}
theorem QI{t t' e:TypeId}{d:TypeDesc}{n by_:Nat}{z:Value}(ht:P.underlying t=some (.slice e))(hd:P.underlying t'=some d)(pU:∀k,d≠.int k)(hn:size? P e=some n)(sM:P.bytesOf e=by_)(hz:eA P e=some z)(lF:by_≠0)
 {base:Option Addr}{len cap m:Nat}{y:Value}{newv:Array Value}(hy:(zCK y).run P w=.ok m w)(ty:TypeId) :
  (len + m<=cap→(zBB n m y).run P w=.ok newv w→(base=none→(zBG #[t,t'] ty #[.slice base len cap,y]).run P w=.ok (.slice base (len + m) cap) w) ∧
   (∀ a w',base=some a→(storeCells (a.add (len * n)) newv.toList).run P w=.ok () w'→(zBG #[t,t'] ty #[.slice base len cap,y]).run P w=.ok (.slice base (len + m) cap) w')) ∧
  (cap < len + m→(2 * (len + m) + 192) * by_<=2 ^ 48→∀ nP,(zBB n len (.slice base len cap)).run P w.drew=.ok nP w.drew→(zBB n m y).run P w.drew=.ok newv w.drew →
   ∃ nc,len + m<=nc∧(zBG #[t,t'] ty #[.slice base len cap,y]).run P w=.ok (.slice (some ⟨w.heap.size,0,none⟩) (len + m) nc) (w.drew.alloc (.cells (nP ++ newv ++ zAy z.cells (nc - (len + m))) e))):=by
 obtain⟨ie,BZ,rP⟩:∃ie,P.info? e=some ie∧ie.size=n:=by
  simp_all [size?]
 have Dm:ie.bytes=by_:=by simpa[Program.bytesOf,BZ]using sM
 have hiz:ie.zero=some z:=by simp_all [eA]
 constructor
 ·intro hle kh;constructor
  ·intro hb;subst hb;simp only[zBG,zBY,zCP,zCQ,OF,run_underlying ht,AS,XE hn,run_underlying hd,zAA,zAW,if_false,hy,aI hle,zBw,if_true,kh]
  ·intro a w' hb ic;subst hb;simp only[zBG,zBY,zCP,zCQ,OF,run_underlying ht,AS,XE hn,run_underlying hd,zAA,zAW,if_false,hy,aI hle,zBw,if_true,kh,ic]
 ·intro cc bH nP hold kh;have pD:=Qbq (len+m) cap cc;have h48:¬zCb (len+m) cap*ie.bytes>2 ^ 48:=by
   rw[Dm];have:=zAE by_ pD;omega
  have zQ:¬(((len+m:Nat):Int)>BY.max∧(False∨ie.bytes=0)):=by
   simp_all
  have Vf:¬len+m<=cap:=by omega
  refine⟨(Question.appendCap (len+m) cap e).cut (w.tape w.drawn (.appendCap (len+m) cap e)),by simp[Question.cut],?_⟩;simp only[zBG,zBY,zCP,zCQ,OF,run_underlying ht,AS,XE hn,run_underlying hd,zAA,zAW,if_false,hy,aB Vf,zBw,if_true,typeInfo,run_program,BZ,aB zQ];simp only[OF,run_program,AS,BZ,zAA,aB h48,run_choose,Question.forced,zAW,if_false,run_askRoom,World.drew_eq,hold,kh,A8 hz,newRow,run_newObj,World.alloc_eq];rfl
inductive fG (h0:Hp) (sz:Nat):aa→List (List aa)→List Nat→Prop
 |row (ex nn:Bool) (rows:List (List aa)):fG h0 sz (.aW ex nn sz rows) rows []
 |al:fG h0 sz .al [] []
 |cY:fG h0 sz .cY [] []
 |own (b off len:Nat) (ex:Bool) (rs:List (List aa)):h0 b=some (.rows sz rs)→off+len<=rs.length→fG h0 sz (.sl b off len ex) (cut off (off+len) rs) [b]
def mN(g:Gm)(sz:Nat)(rs:List (List aa))(arr:Array Value):Prop:=
 arr.size=rs.length*sz∧(∀(i:Nat) (row:List aa),rs[i]?=some row→row.length=sz) ∧
 ∀(i:Nat) (row:List aa) (j:Nat) (x:aa) (v:Value),rs[i]?=some row→row[j]?=some x→arr[i*sz+j]?=some v→g.den x v
variable{sz:Nat}
variable{g:Gm}
theorem ZL{w0:World}{L:Ln}{h h0:Hp}(r:bx GL w0 L g h w){y:aa}{ys:List (List aa)}{rd:List Nat}(hs:fG h0 sz y ys rd)(cO:∀b∈rd,h b=h0 b){v:Value}(d:g.den y v) :
  ∃(p:Option Addr) (cap:Nat) (newv:Array Value),v=.slice p ys.length cap∧(zBB sz ys.length v).run P w=.ok newv w∧mN g sz ys newv∧(∀z∈newv.toList,ys≠[]→True):=by
 cases hs with
 |al=>
  cases d;exact⟨none,0,#[],rfl,rfl,⟨by simp,by simp,by simp⟩,by simp⟩
 |cY=>
  cases d with
  |cY _ p=>
  refine⟨p,0,#[],rfl,?_,⟨by simp,by simp,by simp⟩,by simp⟩;cases p<;>simp_all [zBB,loadCells,loadCellsFrom]
 |row ex nn rows=>
  cases d with
  |aW _ _ _ _ _ p cap blk off f h1 h2 h3 h4 h5 h6 h7 h8=>
  by_cases cU:ys=[]
  ·subst cU;refine⟨p,cap,#[],rfl,?_,⟨by simp,by simp,by simp⟩,by simp⟩;cases p<;>simp_all [zBB,loadCells,loadCellsFrom]
  ·have hp:=h3 cU;subst hp;have hl:=run_loadCells (P:=P) w ⟨blk,off,none⟩ (ys.length * sz) (λk=>f (k / sz) (k % sz)) (λk hk=>by
    grind [ZW,zCe,zDQ,zDH,S5])
   refine⟨_,cap,_,rfl,by simp only[zBB];exact hl,⟨by simp,h6,λi row j x u e1 e2 e3=>?_⟩,by simp⟩;have hi:i<ys.length:=(gE e1).1;have hj:j<sz:=by grind
   have cc:i*sz+j<ys.length*sz:=by
    grind
   simp[cc]at e3;have hdiv:(i*sz+j)/sz=i:=by grind [Nat.mul_comm,Nat.mul_add_div,Nat.div_eq_of_lt]
   rw[hdiv,zCT hj]at e3;subst e3;exact(h8 i row j x e1 e2).mono (i9.refl _) (gD.bA _)
 |own b off len ex rs hb hle=>
  have cj:h b=some (.rows sz rs):=by simp_all
  have kR:(cut off (off+len) rs).length=len:=by rw[Il hle];omega
  cases d with
  |pg _ _ _ cb p ec hv=>
   have:=(r.h_ cj ec hv).2;subst this;simp at hle;refine⟨p,0,#[],by simp[cut],?_,⟨by simp[cut],by simp[cut],by simp[cut]⟩,by simp⟩;have:(cut 0 (0+0) ([]:List (List aa))).length=0:=by simp[cut]
   rw[this];cases p<;>simp_all [zBB,loadCells,loadCellsFrom]
  |sle _ _ _ _ cb p ec hv _ _=>
   have u_:cut off (off+0) rs=[]:=by simp[cut]
   rw[u_];refine⟨p,0,#[],by simp,?_,⟨by simp,by simp,by simp⟩,by simp⟩;cases p<;>simp_all [zBB,loadCells,loadCellsFrom]
  |sl _ _ _ _ _ cb cap ec hv h1 h2 h3=>
   obtain⟨e1,arr,T,fR,hs,lK,ee,c_⟩:=r.fT cj ec hv;rw[e1]at h2 ⊢;have hbound:cb.base+off*sz+len*sz<=arr.size:=by
    rw[hs];refine zAX ?_ lK;rw[zBR,←zBX];simp_all [zAE]
   have hl:=run_loadCells (P:=P) w ⟨cb.blk,cb.base + off * sz,none⟩ (len * sz) (λk=>(arr[cb.base + off * sz + k]?).getD undef) (λk hk=>by
    grind [ZW,X6])
   refine⟨_,cap,_,by rw[kR],by rw[kR];simp only[zBB];exact hl,⟨by rw[kR];simp,λi row e=>ee _ row (NU e).1,λi row j x u q1 q2 q3=>?_⟩,by simp⟩;obtain⟨c1,c2⟩:=NU q1;have hj:j<sz:=by grind
   have hi:i<len:=by omega
   have cc:i*sz+j<len*sz:=by
    grind
   have U7:cb.base+off*sz+(i*sz+j)<arr.size:=by omega
   simp[cc,U7]at q3
   grind
theorem XI{o:Oper}{t t':TypeId}{x y:Operand}(ho:o.op=.call ⟨.builtin .append,#[x,y],#[t,t']⟩){a:Act}{u v z:Value}(hu:a.eval x=u)(hv:a.eval y=v){w':World}
 (hr:(zBG #[t,t'] o.type #[u,v]).run P w=.ok z w'):(execOp a.eval o).run P w=.ok (.value z) w':=by
 simp_all [execOp,resolve,invoke,builtin]
theorem bx.move{w0:World}{L:Ln}{h:Hp}(r:bx GL w0 L g h w){b nb:Nat}{blk blk0 blk':ab}{cb cb2:CB}(e:h b=some blk)(hl:blk.live=true)(ec:g.c b=some cb)(hv:cb.cR=false)(uE:blk0.live=true)(ml:blk'.live=true)(hn:h nb=none)
 {o':Obj}{w':World}(vh:w'.os=w.os)(xx:w'.tape=w.tape)(oS:w'.output=w.output)(wW:w'.heap=w.heap.setIfInBounds cb.blk o')
 (ok:iL g.M g.c cb o' blk0)(mi:cb2.blk=cb.blk)(Lp:cb2.cR=false)(ok2:iL g.M g.c cb2 o' blk'):g.Le ⟨g.M,lV g.c nb cb2⟩∧bx GL w0 L ⟨g.M,lV g.c nb cb2⟩ (eo (eo h b .dead) nb blk') w':=by
 have r1:=r.write e hl ec hv uE vh xx oS wW ok;have Pj:=r.ed nb hn;have JK:gD g.c (lV g.c nb cb2):=gD.lV Pj;have yN:nb≠b:=by rintro rfl;rw[e]at hn;cases hn
 have ai:∀n x,eo (eo h b .dead) nb blk' n=some x→x.live=true→(n=nb∧x=blk')∨(n≠nb∧n≠b∧h n=some x):=by
  intro n x en jr;by_cases h1:n=nb
  ·simp_all [Qs]
  grind [ab.live,Qq,Qs]
 have BS:∀n eP,n≠nb→lV g.c nb cb2 n=some eP→g.c n=some eP:=by simp_all [Y7]
 refine⟨⟨i9.refl _,JK⟩,?_⟩;exact {
  keeps:=r1.keeps
  aZ:=r1.aZ
  cr:=r1.cr
  src:=r1.src
  ed:=λn en=>by
   by_cases h1:n=nb
   ·subst h1;rw[Qs]at en;cases en
   ·rw[Qq _ _ h1]at en;show lV g.c nb cb2 n=none;rw[Y7 _ _ h1];by_cases h2:n=b
    ·subst h2;rw[Qs]at en;cases en
    ·rw[Qq _ _ h2]at en;exact r.ed n en
  jy:=λn x en=>by
   by_cases h1:n=nb
   ·simp_all [Xz]
   ·rw[Qq _ _ h1]at en;have:∃q,g.c n=some q:=by
     by_cases h2:n=b
     ·subst h2;exact⟨cb,ec⟩
     ·rw[Qq _ _ h2]at en;exact r.jy n x en
    simp_all [Y7]
  own:=λn x eP en jr qU r_=>by
   rcases ai n x en jr with ⟨rfl,rfl⟩|⟨h1,h2,h3⟩
   ·have:lV g.c n cb2 n=some eP:=qU;rw[Xz]at this;cases this;obtain⟨q1,q2,o2,q3,q4⟩:=r1.own b blk0 cb (Qs _ _ _) uE ec hv;have cc:=r.d_ e hl ec hv;rw[mi];exact⟨q1,q2,o',by simp_all,ok2.mono (i9.refl _) JK⟩
   ·obtain⟨q1,q2,o2,q3,q4⟩:=r1.own n x eP (by rw[Qq _ _ h2];exact h3) jr (BS n eP h1 qU) r_;exact⟨q1,q2,o2,q3,q4.mono (i9.refl _) JK⟩
  bn:=λn x eP en jr qU r_=>by
   rcases ai n x en jr with ⟨rfl,rfl⟩|⟨h1,h2,h3⟩
   ·simp_all [Xz]
   ·exact r.bn n x eP h3 jr (BS n eP h1 qU) r_
  inj:=λn n' x x' ca1 ca2 e1 e2 l1 l2 c1 c2 v1 v2 iI=>by
   have tr:∀n x eP,eo (eo h b .dead) nb blk' n=some x→x.live=true→lV g.c nb cb2 n=some eP→eP.cR=false→∃m y T2,h m=some y∧y.live=true∧g.c m=some T2∧T2.cR=false∧T2.blk=eP.blk∧((n=nb∧m=b)∨(n≠nb∧m=n∧n≠b)):=by
    intro n x eP en jr qU r_;rcases ai n x en jr with ⟨rfl,rfl⟩|⟨h1,h2,h3⟩
    ·rw[Xz]at qU;grind
    grind
   obtain⟨m1,y1,k1,f1,f2,f3,fv,fb,f4⟩:=tr n x ca1 e1 l1 c1 v1;obtain⟨m2,y2,k2,g1,g2,g9993,gv,gb,g9994⟩:=tr n' x' ca2 e2 l2 c2 v2;have:=r.inj m1 m2 y1 y2 k1 k2 f1 g1 f2 g2 f3 g9993 fv gv (by rw[fb,gb];exact iI);omega }
theorem RB{rs ys:List (List aa)}{a b c:Array Value}(h1:mN g sz rs a)(h2:mN g sz ys b) :
  (∀(i:Nat) (row:List aa),(rs++ys)[i]?=some row→row.length=sz) ∧
  ∀(i:Nat) (row:List aa) (j:Nat) (x:aa) (v:Value),(rs++ys)[i]?=some row→row[j]?=some x→(a++b++c)[i*sz+j]?=some v→g.den x v:=by
 obtain⟨s1,l1,d1⟩:=h1;obtain⟨s2,l2,d2⟩:=h2;constructor
 ·grind
 ·intro i row j x v e1 e2 e3;by_cases hi:i<rs.length
  ·rw[zAU hi]at e1;have hj:j<sz:=by grind
   have cc:i*sz+j<a.size:=by
    rw[s1];have:(i+1)*sz<=rs.length*sz:=zAE sz hi;rw[zBQ]at this;omega
   grind
  ·rw[zAO (by omega)]at e1;have uB:i-rs.length<ys.length:=(gE e1).1;have hj:j<sz:=by grind
   have vH:a.size<=i*sz+j:=by
    rw[s1];have:rs.length*sz<=i*sz:=zAE sz (by omega);omega
   have oX:i*sz+j-a.size=(i-rs.length)*sz+j:=by
    rw[s1,zCn];have:rs.length*sz<=i*sz:=zAE sz (by omega);omega
   have cc:(i-rs.length)*sz+j<b.size:=by
    rw[s2];have:(i-rs.length+1)*sz<=ys.length*sz:=zAE sz uB;rw[zBQ]at this;omega
   grind
theorem Si(z:Array Value)(n:Nat):(zAy z n).size=n*z.size:=by simp[zAy]
inductive m_ (h0:Hp) (sz:Nat):aa→List (List aa)→List (Nat×ab)→Prop
 |al:m_ h0 sz .al [] []
 |cY:m_ h0 sz .cY [] []
 |own (b off len:Nat) (ex:Bool) (rs:List (List aa)):h0 b=some (.rows sz rs)→rs.length=off+len→m_ h0 sz (.sl b off len ex) (rs.drop off) [(b,.dead)]
theorem Qdj(rs:List (List aa))(o n:Nat)(h:rs.length=o+n):cut o (o+n) rs=rs.drop o:=by grind [cut]
theorem m_.src{h0:Hp}{x:aa}{rs:List (List aa)}{kill:List (Nat×ab)}(hv:m_ h0 sz x rs kill):fG h0 sz x rs (kill.map (·.1)):=by
 cases hv with
 |al=>exact .al
 |cY=>exact .cY
 |own b off len ex rs hb hl=>have:=fG.own (h0:=h0) (sz:=sz) b off len ex rs hb (by omega);rwa [Qdj rs off len hl]at this
theorem XbN(n by_:Nat)(z:List aa)(x y:aa)(rs ys:List (List aa))(rd:List Nat)(kill:List (Nat×ab))(h0:Hp)(nb:Nat)(hn:h0 nb=none)(sS:m_ h0 n x rs kill)(sT:fG h0 n y ys rd)
 (kR:∀row∈ys,∀x∈row,aa.cell x=true)(bH:(2*(rs.length+ys.length)+192)*by_<=2 ^ 48) :
  aD P GL (.append n by_ z) [x,y] h0 (.sl nb 0 (rs.length+ys.length) false) rd (kill++[(nb,.rows n (rs++ys))]):=by
 intro o os hc w0 L g h w a r hx cO gO;have jT:h nb=none:=by rw[gO (nb,.rows n (rs++ys)) (by simp)];exact hn
 have aai:∀p∈kill,h p.1=h0 p.1:=λp hp=>gO p (by simp[hp]);generalize ho:o.op=op at hc;cases hc with
 |append t t' e ox oy _ _ v _ ht Al eN sM hz sa dN lF kS=>
  obtain⟨d,hd,pU⟩:=Al;obtain⟨d1,d2,_⟩:=hx;generalize j6:a.eval ox=u1 at d1;generalize qx:a.eval oy=u2 at d2;obtain⟨p1,nD,nP,e1,f1,Cp,_⟩:=ZL (P:=P) r.drew sS.src (λb hb=>by
   grind) d1
  obtain⟨p2,zG,newv,e2,f2,qH,_⟩:=ZL (P:=P) r sT cO d2;obtain⟨p2',Bv,nt,JV,J0,su,_⟩:=ZL (P:=P) r.drew sT cO d2;have fJ:(zCK u2).run P w=.ok ys.length w:=by rw[e2];rfl
  have KB:nD<rs.length+ys.length→Out P GL w0 L g (cz h (kill++[(nb,.rows n (rs++ys))])) (.sl nb 0 (rs.length+ys.length) false) ((execOp a.eval o).run P w):=by
   intro cc;obtain⟨nc,xn,bg⟩:=(QI ht hd pU eN sM hz lF (base:=p1) (len:=rs.length) (cap:=nD) (newv:=nt) fJ o.type).2 cc bH nP (by rw[←e1];exact f1) J0;rw[XI ho (by rw[j6];exact e1) qx bg];obtain⟨q1,q2⟩:=RB (c:=zAy v.cells (nc-(rs.length+ys.length))) Cp su;have gN:∃h1,h1=cz h kill∧bx GL w0 L g h1 w.drew∧h1 nb=none:=by
    cases sS with
    |al=>exact⟨h,rfl,r.drew,jT⟩
    |cY=>exact⟨h,rfl,r.drew,jT⟩
    |own b off len ex Az hb hl=>
     have cj:h b=some (.rows n Az):=by simp_all
     refine⟨_,rfl,r.drew.kill cj,?_⟩;show eo h b .dead nb=none;rw[Qq _ _ (by rintro rfl;rw[cj]at jT;cases jT)];exact jT
   obtain⟨h1,hh1,rk,Hy⟩:=gN;obtain⟨g',UP,UQ,sP⟩:=bx.nU rk Hy n (rs++ys) (nP++nt++zAy v.cells (nc-(rs.length+ys.length))) e (rs.length+ys.length) nc false
    (by
      simp only[zDy,Cp.1,su.1,Si,sa,zCn,zBX];have:(rs.length + ys.length) * n<=nc * n:=zAE n xn;rw[zBX]at this;omega) xn (by simp) (by simp;exact xn) q1 q2
   refine⟨g',UP,?_,sP⟩;have:cz h (kill++[(nb,.rows n (rs++ys))])=eo h1 nb (.rows n (rs++ys)):=by
    rw[hh1];cases sS<;>rfl
   rw[this];exact UQ
  have ll:rs=[]→ys=[]→u1=.slice p1 0 0→bx GL w0 L g (cz h kill) w→cz h kill nb=none→Out P GL w0 L g (cz h (kill++[(nb,.rows n (rs++ys))])) (.sl nb 0 (rs.length+ys.length) false) ((execOp a.eval o).run P w):=by
   rintro Lf rfl iZ rk Hy;have Af:newv.toList=[]:=by have:=qH.1;simp at this;simp[this]
   have bg:(zBG #[t,t'] o.type #[.slice p1 0 0,u2]).run P w=.ok (.slice p1 0 0) w:=by
    obtain⟨k1,k2⟩:=(QI ht hd pU eN sM hz lF (base:=p1) (len:=0) (cap:=0) (newv:=newv) fJ o.type).1 (by simp) f2;cases p1 with
    |none=>exact k1 rfl
    |some ad=>exact k2 ad w rfl (by rw[Af];rfl)
   rw[XI ho (by rw[j6];exact iZ) qx bg];have hg:=rk.ghost Hy n;refine⟨⟨g.M,lV g.c nb ⟨0,n,0,true,0⟩⟩,⟨i9.refl _,gD.lV (rk.ed nb Hy)⟩,?_,by rw[Lf];exact .pg _ _ _ _ _ (Xz _ _ _) rfl⟩;have hk:∀v,cz h (kill++[(nb,v)])=eo (cz h kill) nb v:=by intro v;cases sS<;>rfl
   rw[hk,Lf];exact hg
  have aaI:=sS;cases sS with
  |al=>
   cases d1;injection e1 with BK O6 JU
   by_cases sc:ys=[]
   ·exact ll rfl sc (by rw[←BK]) r jT
   grind
  |cY=>
   cases d1;injection e1 with BK O6 JU
   by_cases sc:ys=[]
   ·exact ll rfl sc (by rw[←BK]) r jT
   grind
  |own b off len ex Az hb hl=>
   have cj:h b=some (.rows n Az):=by simp_all
   have yN:nb≠b:=by rintro rfl;rw[cj]at jT;cases jT
   have KV:(Az.drop off).length=len:=by rw[zDC];omega
   cases d1 with
   |pg _ _ _ cb p ec hv=>
    injection e1 with BK O6 JU
    have xv:=(r.h_ cj ec hv).2;subst xv;by_cases sc:ys=[]
    ·exact ll (by simp) sc (by rw[←BK]) (r.kill cj) (by show eo h b .dead nb=none;rw[Qq _ _ yN];exact jT)
    grind
   |sle _ _ _ _ cb p ec hv _ _=>
    injection e1 with BK O6 JU
    have zW:Az.drop off=[]:=zAc.1 KV;by_cases sc:ys=[]
    ·exact ll zW sc (by rw[←BK]) (r.kill cj) (by show eo h b .dead nb=none;rw[Qq _ _ yN];exact jT)
    grind
   |sl _ _ _ _ _ cb cap ec hv h1 h2 h3=>
    injection e1 with BK O6 JU
    subst JU;by_cases hle:(Az.drop off).length+ys.length<=cap
    ·obtain⟨z1,arr,T,fR,hs,lK,Lc,Ku⟩:=r.fT cj ec hv;rw[z1]at h2;rw[zBX,←zBR]at h2;have gH:cb.base+off*n+cap*n<=arr.size:=by rw[hs];exact Nat.le_of_eq h2
     have ee:∀(i:Nat) (row:List aa),(Az.drop off)[i]?=some row→row.length=n:=λi row q=>Lc (off+i) row (by rw[zCt]at q;exact q);have c_:∀(i:Nat) (row:List aa) (j:Nat) (x:aa) (v:Value),(Az.drop off)[i]?=some row→row[j]?=some x→arr[cb.base+off*n+i*n+j]?=some v→g.den x v:=λi row j x v q1 q2 q3=>Ku (off+i) row j x v (by rw[zCt]at q1;exact q1) q2 (by grind);generalize aaD:Az.drop off=rs at *;have oR:∀u∈newv.toList,u.oneCell'=true:=by
      intro u hu;obtain⟨q,hq⟩:=zBi.1 hu;rw[zBO]at hq;have yP:q<ys.length*n:=by rw[←qH.1];grind
      have Hz:0<n:=zBq kS;have hi:q/n<ys.length:=(zCe Hz).2 yP;have rZ:ys[q/n]?=some ys[q/n]:=by simp[hi]
      have U5:=qH.2.1 _ _ rZ;have hj:q%n<ys[q/n].length:=by rw[U5];exact zDQ _ Hz
      refine Ox (kR _ (AT hi) _ (AT hj)) (qH.2.2 (q/n) _ (q%n) _ u rZ (by simp[hj]) ?_)
      grind [zDH]
     have hmul:(rs.length + ys.length) * n<=cap * n:=zAE n hle;obtain⟨gL,s1,s2,s3⟩:=PX (P:=P) fR newv.toList oR (j:=cb.base + off * n + rs.length * n) (by
      intro _;rw[zAz (xs:=newv),qH.1]
      grind)
     have bg:=((QI ht hd pU eN sM hz lF (base:=some ⟨cb.blk,cb.base + off * cb.sz,none⟩) (len:=rs.length) (cap:=cap) (newv:=newv) fJ o.type).1 hle f2).2 ⟨cb.blk,cb.base + off * cb.sz,none⟩ (w.setRow cb.blk gL) rfl (by
      rw[ZW,z1];exact s1)
     rw[XI ho (by rw[j6,←KV]) qx bg];have Vi:iL g.M g.c cb (.cells gL T (0,0)) (.rows n []):=by
      refine⟨z1,gL,T,rfl,by rw[s2,hs],by simp;omega,by simp,by simp⟩
     have bR:iL g.M g.c { cb with base:=cb.base+off*n } (.cells gL T (0,0)) (.rows n (rs++ys)):=by
      refine⟨z1,gL,T,rfl,by rw[s2,hs],?_,?_,?_⟩
      ·rw[By];grind
      ·intro i row q;by_cases hi:i<rs.length
       ·grind
       ·rw[zAO (by omega)]at q;exact qH.2.1 _ row q
      ·intro i row j x0 u q1 q2 q3;rw[s3,zAz (xs:=newv),qH.1]at q3;by_cases hi:i<rs.length
       ·rw[zAU hi]at q1;have hj:j<n:=by grind
        have cc:i*n+j<rs.length*n:=by
         have:(i+1)*n<=rs.length*n:=zAE n hi;rw[zBQ]at this;omega
        rw[aB (by grind)]at q3;exact c_ i row j x0 u q1 q2 q3
       ·rw[zAO (by omega)]at q1;have uB:i-rs.length<ys.length:=(gE q1).1;have hj:j<n:=by rw[←qH.2.1 _ row q1];grind
        have h5:rs.length*n<=i*n:=zAE n (by omega);have h6:(i-rs.length+1)*n<=ys.length*n:=zAE n uB;rw[zBQ,zCn]at h6;rw[aI (by grind)]at q3;refine qH.2.2 _ row j x0 u q1 q2 ?_;rw[zBO]at q3
        grind
     obtain⟨k1,k2⟩:=r.move cj rfl ec hv (blk0:=.rows n []) (blk':=.rows n (rs++ys)) (cb2:={ cb with base:=cb.base+off*n }) rfl rfl jT (w':=w.setRow cb.blk gL) rfl rfl rfl (Oz w _ arr gL T (0,0) fR) Vi rfl hv bR;refine⟨_,k1,k2,?_⟩;have pE:Den g.M (lV g.c nb { cb with base:=cb.base+off*n }) (.sl nb 0 (rs.length+ys.length) false) (.slice (some ⟨cb.blk,cb.base+off*n+0*cb.sz,none⟩) (rs.length+ys.length) cap):=
      .sl _ _ _ _ _ { cb with base:=cb.base+off*n } cap (Xz _ _ _) hv hle (by grind) (by simp)
     rw[zDf,zBj]at pE;have e3:cb.base+off*cb.sz=cb.base+off*n:=by rw[z1]
     rw[e3];exact pE
    ·exact KB (by omega)
end
end Go.Ah
end
section
namespace Go.Ah
mutual
def aa.ro:aa→Bool
 |.bool _=>true
 |.int _ _=>true
 |.str _=>true
 |.fo=>true
 |.aq _ _=>true
 |.al=>true
 |.cY=>true
 |.aW _ _ _ _=>true
 |.fN _=>true
 |.cW=>true
 |.func _ xs ys=>gh xs&&gh ys
 |.bK=>true
 |.iface _ v=>v.ro
 |.dw=>true
 |.agg cs=>gh cs
 |.bp cs=>gh cs
 |.when _ x=>x.ro
 |.aQ=>true
 |_=>false
def gh:List aa→Bool
 |[]=>true
 |x::xs=>x.ro&&gh xs
end
theorem Jf:∀ {xs:List aa} {i:Nat} {x:aa},gh xs=true→xs[i]?=some x→x.ro=true
 |[],i,x,_,e=>by simp at e
 |y::xs,0,x,h,e=>by simp_all [gh]
 |y::xs,i+1,x,h,e=>by simp[gh]at h;simp at e;exact Jf h.2 e
theorem Den.ro{M:Nat→Option Obj}{c:Own}{x:aa}{v:Value}(h:Den M c x v):x.ro=true→∀c',Den M c' x v:=by
 induction h with
 |aQ=>intro _ c';exact .aQ _ _
 |bool=>intro _ c';exact .bool _ _
 |int=>intro _ c';exact .int _ _ _
 |str=>intro _ c';exact .str _ _
 |fo=>intro _ c';exact .fo _
 |ak=>intro h;simp[aa.ro]at h
 |ptr=>intro h;simp[aa.ro]at h
 |aq c row j blk off f h1 h2 ih=>intro _ c';exact .aq _ _ _ _ _ f h1 h2
 |al=>intro _ c';exact .al _
 |cY=>intro _ c';exact .cY _ _
 |sl=>intro h;simp[aa.ro]at h
 |pg=>intro h;simp[aa.ro]at h
 |sle=>intro h;simp[aa.ro]at h
 |aW c ex nn sz rows a cap blk off f h1 h2 h3 uZ h4 h5 h6 h7 ih=>intro _ c';exact .aW _ _ _ _ _ _ _ blk off f h1 h2 h3 uZ h4 h5 h6 h7
 |map=>intro h;simp[aa.ro]at h
 |fN c es blk arr clock e h1 h2 h3 vo vp=>intro _ c';exact .fN _ _ _ _ _ e h1 h2 h3
 |cW=>intro _ c';exact .cW _
 |func c fn first captured vs ws h1 h2 h3 h4 vo vp=>
  intro h c';simp[aa.ro]at h;exact .func _ _ _ _ _ _ h1 h2 (λi x v e1 e2=>vo i x v e1 e2 (Jf h.1 e1) c') (λi x v e1 e2=>vp i x v e1 e2 (Jf h.2 e1) c')
 |bK=>intro _ c';exact .bK _
 |iface c t x v h ih=>intro hr c';exact .iface _ _ _ _ (ih (by simpa[aa.ro]using hr) c')
 |dw=>intro _ c';exact .dw _
 |agg c cs vs h1 h2 ih=>intro h c';exact .agg _ _ _ h1 (λi x v e1 e2=>ih i x v e1 e2 (Jf (by simpa[aa.ro]using h) e1) c')
 |bp c cs vs h1 h2 ih=>intro h c';exact .bp _ _ _ h1 (λi x v e1 e2=>ih i x v e1 e2 (Jf (by simpa[aa.ro]using h) e1) c')
 |when c cs x v h h2 ih=>intro hr c';exact .when _ _ _ _ (λhp=>ih hp (by simpa[aa.ro]using hr) c') h2
 |iter=>intro h;simp[aa.ro]at h
section
variable {P:Program} {GL:aw}
theorem QeD{M:Nat→Option Obj}{b:Nat}{o:Obj}(h:M b=none):i9 M (nT M b o):=by
 intro n x en
 grind [nT]
theorem bx.vX{w0:World}{L:Ln}{g:Gm}{h:Hp}{w:World}(r:bx GL w0 L g h w)(o:Obj):g.Le ⟨nT g.M w.heap.size o,g.c⟩∧bx GL w0 L ⟨nT g.M w.heap.size o,g.c⟩ h (w.alloc o):=by
 have hM:g.M w.heap.size=none:=by
  cases hm:g.M w.heap.size with
  |none=>rfl
  |some x=>have:=r.gQ hm;omega
 have DZ:=QeD (o:=o) hM;have xr:∀k,k<w.heap.size→(w.alloc o).heap[k]?=w.heap[k]?:=by
  intro k hk;show (w.heap.push o)[k]?=_;grind
 refine⟨⟨DZ,gD.refl _⟩,?_⟩;exact {
  keeps:=r.keeps.trans' rfl rfl rfl (by simp) (λk hk _=>xr k (by have:=r.keeps.size;omega))
  aZ:=λb x e=>by
   by_cases hb:b=w.heap.size
   ·subst hb;have:nT g.M w.heap.size o w.heap.size=some x:=e;simp[nT]at this;subst this;show (w.heap.push o)[w.heap.size]?=_;simp
   ·have e':nT g.M w.heap.size o b=some x:=e;simp[nT,hb]at e';rw[xr b (r.gQ e')];exact r.aZ b x e'
  cr:=λp hp=>(r.cr p hp).mono DZ (gD.refl _)
  src:=λb x e=>by
   by_cases hb:b=w.heap.size
   ·subst hb;exact .inr (.inl r.keeps.size)
   ·have e':nT g.M w.heap.size o b=some x:=e;simp[nT,hb]at e';exact r.src b x e'
  ed:=r.ed
  jy:=r.jy
  own:=λb blk cb e hl ec hv=>by
   obtain⟨h1,h2,o',fR,bR⟩:=r.own b blk cb e hl ec hv;have cc:=r.d_ e hl ec hv;refine⟨?_,h2,o',by rw[xr _ cc];exact fR,bR.mono DZ (gD.refl _)⟩
   grind [nT]
  bn:=r.bn
  inj:=r.inj }
theorem Xcw(sz:Nat)(h0:Hp):aD P GL (.lZ sz) [] h0 (.aW true true sz []) [] []:=by
 intro o os hc w0 L g h w a r hx _ _;generalize ho:o.op=op at hc;cases hc with
 |na t e _ parts he hs hp=>
  have hpe:parts = #[]:=by cases parts;simpa using hp
  subst hpe;have q_:P.underlying t=some (.slice e):=by
   grind [fe]
  obtain⟨q1,q2⟩:=r.vX (.cells #[] e);have bg:(execOp a.eval o).run P w=.ok (.value (.slice (some ⟨w.heap.size,0,none⟩) 0 0)) (w.alloc (.cells #[] e)):=by
   have h1:(zCO t 0 #[]).run P w=.ok (.slice (some ⟨w.heap.size,0,none⟩) 0 0) (w.alloc (.cells #[] e)):=by
    simp only[zCO,OF,run_underlying q_,AS,XE hs,zDf];simp[zDJ,newRow,zCN]
   simp_all [execOp]
  rw[bg];exact⟨_,q1,q2,.aW _ _ _ _ [] _ _ w.heap.size 0 (λ_ _=>undef) (by simp) (by simp) (by simp) (by simp) (by simp) (by simp) (by simp) (by simp)⟩
theorem Zdz{k:IntKind}{n:Int}(w:World):(asInt (.int k n)).run P w=.ok n w:=rfl
theorem YdB(n by_ len:Nat)(z:List aa)(k:IntKind)(bH:by_*len<=2 ^ 48)(hlen:len<2 ^ 62)(h0:Hp)(nb:Nat)(hn:h0 nb=none) :
  aD P GL (.sk n by_ z) [.int k len] h0 (.sl nb 0 len true) [] [(nb,.rows n (zAf len z))]:=by
 intro o os hc w0 L g h w a r hx _ gO;have jT:h nb=none:=by simp_all
 generalize ho:o.op=op at hc;cases hc with
 |makeSlice t l e v _ _ _ he hs hb kS hz sa dN=>
  obtain⟨ie,BZ,rP⟩:∃ie,P.info? e=some ie∧ie.bytes=by_:=by
   simp_all
  have q_:P.underlying t=some (.slice e):=by
   grind [fe]
  have hl:=Xp hx.1;have hw:BY.wrap (len:Int)=len:=IntWalk.i64_in _ ⟨by omega,by omega⟩;obtain⟨c1,c2⟩:=QV (M:=g.M) (c:=g.c) dN;have Lu:z.length=n:=by rw[←c1,zAz,sa]
  let cells:Array Value:=if len*n=0 then #[]else (zCN (len*n)).map (v.cells[· % v.cells.size]!)
  have gH:cells.size=len*n:=by
   grind
  have bg:(execOp a.eval o).run P w=.ok (.value (.slice (some ⟨w.heap.size,0,none⟩) len len)) (w.alloc (.cells cells e)):=by
   have h1:(Instr.makeSlice t (.int k len) (.int k len)).run P w=.ok (.slice (some ⟨w.heap.size,0,none⟩) len len) (w.alloc (.cells cells e)):=by
    have g1:¬((len:Int)<0∨(ie.bytes:Int)*len>2 ^ 48):=by
     grind
    have g2:¬((len:Int)<0∨(len:Int)>len):=by omega
    simp only[Instr.makeSlice,OF,run_underlying q_,AS,Zdz,typeInfo,run_program,BZ,zAA,hw];simp[g1,g2,run_askRoom,XE hs,A8 hz];have g9993:¬(((len:Int)<0∨281474976710656<(ie.bytes:Int)*len)∨(len:Int)<0):=by
     omega
    rw[aB g9993];by_cases Lv:len*n=0
    ·have hc:cells = #[]:=by simp only[cells];rw[aI Lv]
     have hm:Array.map (λ_:Nat=>(default:Value)) (zCN 0) = #[]:=by simp[zCN]
     rw[aI Lv,hc,Lv,hm];rfl
    ·have hc:cells=(zCN (len*n)).map (v.cells[· % v.cells.size]!):=by simp only[cells];rw[aB Lv]
     rw[aB Lv,hc];rfl
   simp_all [execOp]
  rw[bg];refine bx.nU r jT n (zAf len z) cells e len len true (by rw[gH]) (No _) (λ_=>rfl) (by simp) (λi row e=>?_) (λi row j x v' e1 e2 e3=>?_)
  ·grind
  ·rw[zBd]at e1;split at e1
   ·rename_i hi;cases e1;have hj:j<n:=by grind
    refine c2 j x v' e2 ?_;have cc:i*n+j<len*n:=by
     grind
    have cU:¬len*n=0:=by omega
    simp only[cells,aB cU]at e3;simp_all [zCT]
   ·cases e1
theorem Qc3(k:IntKind)(n:Int)(h0:Hp):aD P GL (.un .xor) [.int k n] h0 (.int k (bits .xor k (if k.signed then -1 else k.max) n)) [] []:=by
 intro o os hc w0 L g h w a r hx _ _;generalize ho:o.op=yV at hc;cases hc with
 |un _ t x=>
  simp only[execOp,ho,Xp hx.1,Op.unary,intBits_xor,OF,zAA,AS];exact Out.here r (.int _ _ _)
end
end Go.Ah
end
section
namespace Go.Ah
mutual
def aa.flat:aa→Bool
 |.bool _=>true
 |.int _ _=>true
 |.str _=>true
 |.fo=>true
 |.al=>true
 |.cW=>true
 |.func _ xs ys=>mf xs&&mf ys
 |.bK=>true
 |.iface _ v=>v.flat
 |.dw=>true
 |.agg cs=>mf cs
 |.bp cs=>mf cs
 |.aQ=>true
 |_=>false
def mf:List aa→Bool
 |[]=>true
 |x::xs=>x.flat&&mf xs
end
theorem HV:∀ {xs:List aa} {i:Nat} {x:aa},mf xs=true→xs[i]?=some x→x.flat=true
 |[],i,x,_,e=>by simp at e
 |y::xs,0,x,h,e=>by simp_all [mf]
 |y::xs,i+1,x,h,e=>by simp[mf]at h;simp at e;exact HV h.2 e
variable{M:Nat→Option Obj}
variable{x:aa}
theorem Den.flat{c:Own}{v:Value}(h:Den M c x v):x.flat=true→∀M' c',Den M' c' x v:=by
 induction h with
 |aQ=>intro _ _ c';exact .aQ _ _
 |bool=>intro _ _ c';exact .bool _ _
 |int=>intro _ _ c';exact .int _ _ _
 |str=>intro _ _ c';exact .str _ _
 |fo=>intro _ _ c';exact .fo _
 |al=>intro _ _ c';exact .al _
 |cW=>intro _ _ c';exact .cW _
 |func c fn first captured vs ws h1 h2 h3 h4 vo vp=>
  intro h M' c';simp[aa.flat]at h;exact .func _ _ _ _ _ _ h1 h2 (λi x v e1 e2=>vo i x v e1 e2 (HV h.1 e1) M' c') (λi x v e1 e2=>vp i x v e1 e2 (HV h.2 e1) M' c')
 |bK=>intro _ _ c';exact .bK _
 |iface c t x v h ih=>intro hr M' c';exact .iface _ _ _ _ (ih (by simpa[aa.flat]using hr) M' c')
 |dw=>intro _ _ c';exact .dw _
 |agg c cs vs h1 h2 ih=>intro h M' c';exact .agg _ _ _ h1 (λi x v e1 e2=>ih i x v e1 e2 (HV (by simpa[aa.flat]using h) e1) M' c')
 |bp c cs vs h1 h2 ih=>intro h M' c';exact .bp _ _ _ h1 (λi x v e1 e2=>ih i x v e1 e2 (HV (by simpa[aa.flat]using h) e1) M' c')
 |_=>intro h;simp[aa.flat]at h
section
variable {P:Program} {GL:aw}
def je(P:Program)(GL:aw)(f:FuncId)(xs:List aa)(h0:Hp)(v:aa)(rd:List Nat)(up:List (Nat×ab)):Prop:=
 ∀(w0:World) (L:Ln) (g:Gm) (h:Hp) (w:World) (vs:List Value),bx GL w0 L g h w→dR g xs vs→(∀b∈rd,h b=h0 b)→(∀p∈up,h p.1=h0 p.1) →
  Calls P f vs.toArray w λe ym=>∃u,e=.returned u∧∃g',g.Le g'∧bx GL w0 L g' (cz h up) ym∧g'.den v u
variable{f:FuncId}
theorem X0(hp:Zh P f=true)(args:Array Value)(w:World):(callFunc f args).run P w=.ok (.enter f args) w:=by
 unfold Zh at hp;cases hf:P.funcs[f]? with
 |none=>simp[hf]at hp
 |some fn=>
  simp[hf]at hp;obtain⟨b,hb⟩:=zAC.1 hp.2;simp[callFunc,hf,hp.1,hb]
variable{up:List (Nat×ab)}
variable{v:aa}
variable{xs ys:List aa}
variable{rd:List Nat}
variable{h0 h:Hp}
theorem QdZ(hc:je P GL f xs h0 v rd up):aD P GL (.call f) xs h0 v rd up:=by
 intro o os qo w0 L g h w a r hx cO gO;generalize ho:o.op=op at qo;cases qo with
 |call _ args ts hp=>
  have bg:(execOp a.eval o).run P w=.ok (.enter f (args.map a.eval)) w:=by
   simp_all [execOp,resolve,Act.eval,zCl,invoke,X0]
  rw[bg];have:=hc w0 L g h w _ r hx cO gO
  rwa [←zBn,zCB]at this
theorem YdA{first captured:List aa}(hp:Zh P f=true)(hc:je P GL f (first++xs++captured) h0 v rd up) :
  aD P GL .kf (.func (.func f) first captured::xs) h0 v rd up:=by
 intro o os qo w0 L g h w a r hx cO gO;generalize ho:o.op=op at qo;cases qo with
 |kf x args ts=>
  obtain⟨d,dr⟩:=hx;generalize hu:a.eval x=u0 at d;cases d with
  |func _ _ _ _ vs ws h1 h2 h3 h4=>
   have bg:(execOp a.eval o).run P w=.ok (.enter f (vs++args.map a.eval++ws)) w:=by
    simp_all [execOp,resolve,zCl,invoke,X0]
   rw[bg];have hl:=dr.length;simp at hl;have:=hc w0 L g h w (vs ++ args.map a.eval ++ ws).toList r (dR.lR (by simp[h1,h2,hl]) (λi y u e1 e2=>by
    simp only[Array.toList_append]at e2;by_cases hi:i<first.length
    ·rw[zAb,zAU hi]at e1;rw[zAb,zAU (by simpa[h1]using hi)]at e2;exact h3 i y u e1 (by simpa using e2)
    ·by_cases uB:i<first.length+xs.length
     ·rw[zAb,zAO (by omega),zAU (by omega)]at e1;rw[zAb,zAO (by simp;omega),zAU (by simp;omega)]at e2;refine dr.get (i-first.length) y u e1 ?_;simpa[h1]using e2
     ·rw[zAO (by simp;omega)]at e1;rw[zAO (by simp;omega)]at e2;refine h4 (i - (first ++ xs).length) y u e1 ?_;simpa[h1,hl]using e2)) cO gO
   rwa [zCB]at this
theorem XbJ{P:Program}{name:String}{t:TypeId}(h:ND P name t=some f)(hp:Zh P f=true)(v:Value)(args:Array Value)(w:World) :
  (callMethod (.iface t v) name args).run P w=.ok (.enter f (#[v]++args)) w:=by
 unfold ND at h;split at h
 ·cases h
 ·rename_i i hi;split at h
  ·cases h
  ·rename_i m hm;have KA:∃k,P.types.size+Made.depth=k+1:=⟨P.types.size+Made.depth-1,by rfl⟩;obtain⟨k,hk⟩:=KA;have aaj:m.path.isEmpty=true→m.path.toList=[]:=λh=>by simpa using h
   have key:(method (k+1) t v name).run P w=.ok (f,v) w:=by
    unfold method;simp only[OF,run_typeInfo w hi,AS,hm];split at h<;>simp_all [follow,receiverAt,Place.get,run_underlying]
   unfold callMethod;simp only[OF,show (program).run P w=.ok P w from rfl,AS,hk,key];rw[X0 hp]
theorem Xc1{name:String}{pq:List (TypeId×FuncId)}{ty:TypeId}(hl:Iw ty pq=some f)(hc:je P GL f (x::xs) h0 v rd up) :
  aD P GL (.invoke name pq) (.iface ty x::xs) h0 v rd up:=by
 intro o os qo w0 L g h w a r hx cO gO;generalize ho:o.op=op at qo;cases qo with
 |invoke y _ args ts _ bR=>
  obtain⟨d,dr⟩:=hx;generalize hu:a.eval y=u0 at d;cases d with
  |iface _ _ _ vv Ls=>
   obtain⟨k1,k2⟩:=bR _ (Ru hl);have bg:(execOp a.eval o).run P w=.ok (.enter f (#[vv]++args.map a.eval)) w:=by
    simp only[execOp,ho,resolve,OF,hu,zAA,AS,invoke];have e0:(#[zBz ty vv]++args.map a.eval)[0]?=some (zBz ty vv):=by grind
    have e1:(#[zBz ty vv]++args.map a.eval).extract 1 (#[zBz ty vv]++args.map a.eval).size=args.map a.eval:=by
     simp
    grind [XbJ]
   rw[bg];have:=hc w0 L g h w (vv::(args.map a.eval).toList) r ⟨Ls,by rwa [zBn]⟩ cO gO;have e2:(vv::(args.map a.eval).toList).toArray = #[vv]++args.map a.eval:=by apply Array.ext';simp
   rw[e2]at this;exact this
def di(P:Program)(GL:aw)(f:FuncId)(xs:List aa)(v:aa):Prop:=
 ∀(w:World) (M:Nat→Option Obj) (vs:List Value),(∀b o,M b=some o→w.heap[b]?=some o)→(∀p∈GL,Den M bA (.aq p.2 0) (.pointer (some ⟨p.1,0,none⟩)))→dR ⟨M,bA⟩ xs vs →
  Calls P f vs.toArray w λe w'=>∃u,e=.returned u∧jg ⟨[],M⟩ w w'∧∃M',i9 M M'∧(∀b o,M' b=some o→w'.heap[b]?=some o)∧(∀b o,M' b=some o→M b=some o∨w.heap.size<=b)∧Den M' bA v u
def pb:Hp:=λ_=>none
theorem bx.start(w:World)(M:Nat→Option Obj)(hM:∀b o,M b=some o→w.heap[b]?=some o)(hg:∀p∈GL,Den M bA (.aq p.2 0) (.pointer (some ⟨p.1,0,none⟩))):bx GL w ⟨[],M⟩ ⟨M,bA⟩ pb w where
 keeps:=jg.refl _ _
 aZ:=hM
 src:=λ_ _ e=>.inl e
 cr:=hg
 ed:=λ_ _=>rfl
 jy:=λ_ _ e=>by cases e
 own:=λ_ _ _ e=>by cases e
 bn:=λ_ _ _ e=>by cases e
 inj:=λ_ _ _ _ _ _ e=>by cases e
variable{g:Gm}
variable{L:Ln}
variable{w0 w:World}
theorem bx.after{w':World}(r:bx GL w0 L g h w){M':Nat→Option Obj}(k:jg ⟨[],M⟩ w w')(hle:i9 g.M M')(ic:∀b o,M' b=some o→w'.heap[b]?=some o)(j5:∀b o,M' b=some o→g.M b=some o∨w.heap.size<=b) :
  bx GL w0 L ⟨M',g.c⟩ h w' where
 keeps:=r.keeps.trans' k.os k.tape k.output k.size (λb hb _=>k.block b (by have:=r.keeps.size;omega) (by simp))
 aZ:=ic
 src:=λb o e=>by
  rcases j5 b o e with h1|h1
  ·exact r.src b o h1
  ·exact .inr (.inl (by have:=r.keeps.size;omega))
 cr:=λp hp=>(r.cr p hp).mono hle (gD.refl _)
 ed:=r.ed
 jy:=r.jy
 own:=λb blk cb e hl ec hv=>by
  obtain⟨h1,h2,o,ho,bR⟩:=r.own b blk cb e hl ec hv;have cc:=r.d_ e hl ec hv;refine⟨?_,h2,o,by rw[k.block _ cc (by simp)];exact ho,bR.mono hle (gD.refl _)⟩;show M' cb.blk=none;cases hm:M' cb.blk<;>grind
 bn:=r.bn
 inj:=r.inj
theorem RJ{c:Own}:∀ {xs:List aa} {vs:List Value},gh xs=true→dR ⟨M,c⟩ xs vs→∀c',dR ⟨M,c'⟩ xs vs
 |[],[],_,_,_=>trivial
 |x::xs,v::vs,h,⟨d,r⟩,c'=>by simp[gh]at h;exact⟨Den.ro d h.1 c',RJ h.2 r c'⟩
theorem di.here(hc:di P GL f xs v)(Ap:gh xs=true)(h0:Hp):je P GL f xs h0 v [] []:=by
 intro w0 L g h w vs r hx _ _;refine(hc w g.M vs r.aZ r.cr (RJ Ap hx bA)).mono ?_;rintro e w' ⟨u,he,k,M',hle,ic,j5,hd⟩;exact⟨u,he,⟨M',g.c⟩,⟨hle,gD.refl _⟩,r.after k hle ic j5,hd.mono (i9.refl _) (gD.bA _)⟩
def World.all(w:World):Nat→Option Obj:=λb=>w.heap[b]?
def yq(g:Gm)(h:Hp)(w:World)(M2:Nat→Option Obj):Prop:=
 i9 g.M M2∧∀b blk cb o,h b=some blk→blk.live=true→g.c b=some cb→cb.cR=false→w.heap[cb.blk]?=some o→M2 cb.blk=some o
def aA(h0:Hp)(rd:List Nat)(x y:aa):Prop:=
 ∀(GL:aw) (w0:World) (L:Ln) (g:Gm) (h:Hp) (w:World) (M2:Nat→Option Obj),bx GL w0 L g h w→yq g h w M2→(∀b∈rd,h b=h0 b)→∀v,g.den x v→Den M2 bA y v
def bd(h0:Hp)(rd:List Nat)(xs ys:List aa):Prop:=
 ∀(GL:aw) (w0:World) (L:Ln) (g:Gm) (h:Hp) (w:World) (M2:Nat→Option Obj),bx GL w0 L g h w→yq g h w M2→(∀b∈rd,h b=h0 b)→∀vs,dR g xs vs→dR ⟨M2,bA⟩ ys vs
theorem bx.tF(r:bx GL w0 L g h w):i9 g.M (World.all w):=λb o e=>r.aZ b o e
theorem bx.ui(r:bx GL w0 L g h w):yq g h w (World.all w):=⟨r.tF,λ_ _ _ _ _ _ _ _ e=>e⟩
theorem di.qE(hc:di P GL f ys v)(hb:bd h0 rd xs ys)(hv:v.flat=true):je P GL f xs h0 v rd []:=by
 intro w0 L g h w vs r hx cO _;refine(hc w (World.all w) vs (λ_ _ e=>e) (λp hp=>(r.cr p hp).mono r.tF (gD.refl _)) (hb GL w0 L g h w _ r r.ui cO vs hx)).mono ?_;rintro e w' ⟨u,he,k,M',hle,ic,j5,hd⟩;refine⟨u,he,g,Gm.Le.refl _,?_,Den.flat hd hv _ _⟩;exact r.after k (i9.refl _) (λb o e=>by rw[k.block b (r.gQ e) (by simp)];exact r.aZ b o e) (λb o e=>.inl e)
theorem aA.ro(hx:x.ro=true):aA h0 rd x x:=by
 intro GL w0 L g h w M2 r hM _ v d;exact Den.ro (Den.mono hM.1 d (gD.refl _)) hx _
theorem bd.nil:bd h0 rd [] []:=by
 intro GL w0 L g h w M2 r hM _ vs d;cases vs with
 |nil=>trivial
 |cons v vs=>exact d.elim
theorem bd.cons{y:aa}(h1:aA h0 rd x y)(h2:bd h0 rd xs ys):bd h0 rd (x::xs) (y::ys):=by
 intro GL w0 L g h w M2 r hM cO vs d;cases vs with
 |nil=>exact d.elim
 |cons v vs=>exact⟨h1 GL w0 L g h w M2 r hM cO v d.1,h2 GL w0 L g h w M2 r hM cO vs d.2⟩
theorem bd.get(hb:bd h0 rd xs ys){GL:aw}{M2:Nat→Option Obj}(r:bx GL w0 L g h w)(hM:yq g h w M2)(cO:∀b∈rd,h b=h0 b){vs:List Value}(hl:xs.length=vs.length)
 (hd:∀(i:Nat) (x:aa) (v:Value),xs[i]?=some x→vs[i]?=some v→g.den x v):ys.length=vs.length∧∀(i:Nat) (y:aa) (v:Value),ys[i]?=some y→vs[i]?=some v→Den M2 bA y v:=by
 have:=hb GL w0 L g h w M2 r hM cO vs (dR.lR hl hd);exact⟨this.length,λi y v e1 e2=>this.get i y v e1 e2⟩
variable{b:Nat}
theorem aA.box{j:Nat}{row row':List aa}(hb:h0 b=some (.box row))(dc:b∈rd)(hr:bd h0 rd row row'):aA h0 rd (.ak b j) (.aq row' j):=by
 intro GL w0 L g h w M2 r hM cO v d;have cj:h b=some (.box row):=by rw[cO b dc];exact hb
 cases d with
 |ak _ _ _ cb ec=>
 cases b_:cb.cR with
 |true=>have:=r.bn b _ cb cj rfl ec b_;cases this
 |false=>
 obtain⟨_,_,o',fR,arr,T,rfl,hs,c_⟩:=r.own b _ cb cj rfl ec b_;obtain⟨hl,hd⟩:=hr.get r hM cO (vs:=arr.toList) (by simp[hs]) (λi x v e1 e2=>c_ i x v e1 (by simpa using e2));have pE:Den M2 bA (.aq row' j) (.pointer (some ⟨cb.blk,0+j,none⟩)):=by
  refine .aq _ _ _ _ _ (λk=>(arr[k]?).getD undef) (λk hk=>?_) (λk x e=>?_)
  ·have wX:k<arr.size:=by simpa[hl]using hk
   have hw:M2 cb.blk=some (.cells arr T (0,0)):=hM.2 b _ cb _ cj rfl ec (by assumption) fR;simp[iR,hw,wX]
  ·have hk:k<arr.size:=by have:=(gE e).1;simpa[hl]using this
   simp only[zBF hk,zAt];exact hd k x _ e (by simp[hk])
 rwa [IN]at pE
theorem aA.iface{t:TypeId}{y:aa}(h1:aA h0 rd x y):aA h0 rd (.iface t x) (.iface t y):=by
 intro GL w0 L g h w M2 r hM cO v d;cases d with
 |iface _ _ _ v' dv=>exact .iface _ _ _ _ (h1 GL w0 L g h w M2 r hM cO v' dv)
theorem aA.agg(h1:bd h0 rd xs ys):aA h0 rd (.agg xs) (.agg ys):=by
 intro GL w0 L g h w M2 r hM cO v d;cases d with
 |agg _ _ vs hs hd=>
  obtain⟨hl,pE⟩:=h1.get r hM cO (vs:=vs.toList) (by simp[hs]) (λi x v e1 e2=>hd i x v e1 (by simpa using e2));exact .agg _ _ _ (by simpa using hl.symm) (λi x v e1 e2=>pE i x v e1 (by simpa using e2))
theorem aA.func{fn:Fn}{AW ys':List aa}(h1:bd h0 rd xs AW)(h2:bd h0 rd ys ys'):aA h0 rd (.func fn xs ys) (.func fn AW ys'):=by
 intro GL w0 L g h w M2 r hM cO v d;cases d with
 |func _ _ _ _ vs ws q1 q2 q3 q4=>
  obtain⟨hl,pE⟩:=h1.get r hM cO (vs:=vs.toList) (by simp[q1]) (λi x v e1 e2=>q3 i x v e1 (by simpa using e2));obtain⟨dO,sN⟩:=h2.get r hM cO (vs:=ws.toList) (by simp[q2]) (λi x v e1 e2=>q4 i x v e1 (by simpa using e2));exact .func _ _ _ _ _ _ (by simpa using hl.symm) (by simpa using dO.symm) (λi x v e1 e2=>pE i x v e1 (by simpa using e2)) (λi x v e1 e2=>sN i x v e1 (by simpa using e2))
theorem aA.map{es:List (aa×aa)}(hb:h0 b=some (.map es))(dc:b∈rd)(ln:∀p∈es,p.1.ro=true∧p.2.ro=true):aA h0 rd (.map b) (.fN es):=by
 intro GL w0 L g h w M2 r hM cO v d;have cj:h b=some (.map es):=by rw[cO b dc];exact hb
 cases d with
 |map _ _ cb ec=>
 cases b_:cb.cR with
 |true=>have:=r.bn b _ cb cj rfl ec b_;cases this
 |false=>
 obtain⟨_,_,o',fR,arr,clock,rfl,hs,c_⟩:=r.own b _ cb cj rfl ec b_;have hw:M2 cb.blk=some (.map arr clock):=hM.2 b _ cb _ cj rfl ec b_ fR;exact .fN _ _ _ arr clock hw hs (λi k x e e1 e2=>Den.ro ((c_ i k x e e1 e2).1.mono hM.1 (gD.refl _)) (ln _ (zAI e1)).1 _)
  (λi k x e e1 e2=>Den.ro ((c_ i k x e e1 e2).2.mono hM.1 (gD.refl _)) (ln _ (zAI e1)).2 _)
theorem aA.sl{off len sz:Nat}{ex:Bool}{rs rs':List (List aa)}(hb:h0 b=some (.rows sz rs))(dc:b∈rd)(hle:off+len<=rs.length)(hl:rs'.length=len)
 (hr:∀(i:Nat) (row row':List aa),rs[off+i]?=some row→rs'[i]?=some row'→bd h0 rd row row'):aA h0 rd (.sl b off len ex) (.aW ex false sz rs'):=by
 intro GL w0 L g h w M2 r hM cO v d;have cj:h b=some (.rows sz rs):=by rw[cO b dc];exact hb
 cases d with
 |pg _ _ _ cb p ec hv=>
  have:rs'=[]:=zAc.1 hl;subst this;exact .aW _ _ _ _ [] _ _ 0 0 (λ_ _=>undef) (by simp) (by simp) (by simp) (by simp) (by simp) (by simp) (by simp) (by simp)
 |sle _ _ _ _ cb p ec hv=>
  have:rs'=[]:=zAc.1 hl;subst this;exact .aW _ _ _ _ [] _ _ 0 0 (λ_ _=>undef) (by simp) (by simp) (by simp) (by simp) (by simp) (by simp) (by simp) (by simp)
 |sl _ _ _ _ _ cb cap ec hv h1 h2 h3=>
  obtain⟨e1,arr,T,fR,hs,lK,ee,c_⟩:=r.fT cj ec hv;have hw:M2 cb.blk=some (.cells arr T (0,0)):=hM.2 b _ cb _ cj rfl ec (by assumption) fR;have ai:∀i,i<len→∃row,rs[off+i]?=some row:=λi hi=>⟨rs[off+i]'(by omega),by simp[show off+i<rs.length by omega]⟩;have nL:∀i j,i<len→j<sz→cb.base+(off+i)*sz+j<arr.size:=by
   intro i j hi hj;have:(off+i+1)*sz<=rs.length*sz:=zAE sz (by omega);rw[zBQ]at this;omega
  have key:∀i row row',rs[off+i]?=some row→rs'[i]?=some row'→row'.length=sz∧∀(j:Nat) (y:aa),row'[j]?=some y→Den M2 bA y ((arr[cb.base+(off+i)*sz+j]?).getD undef):=by
   intro i row row' q1 q2;have hi:i<len:=by rw[←hl];exact(gE q2).1
   have tB:=ee _ _ q1;obtain⟨k1,k2⟩:=(hr i row row' q1 q2).get r hM cO (vs:=(arr.extract (cb.base + (off + i) * sz) (cb.base + (off + i) * sz + sz)).toList) (by
     have:=nL i 0 hi;simp[tB];by_cases h0:sz=0
     ·subst h0;simp
     ·have:=nL i (sz-1) hi (by omega);omega) (λj x v q3 q4=>by
    have hj:j<sz:=by rw[←tB];exact(gE q3).1
    have cc:=nL i j hi hj;rw[zBO]at q4;obtain⟨_,q4⟩:=zCF.1 q4;rw[zBx]at q4;exact c_ _ row j x v q1 q3 (by rw[zBF cc,q4]))
   have hlen:(arr.extract (cb.base+(off+i)*sz) (cb.base+(off+i)*sz+sz)).toList.length=sz:=by
    simp;by_cases h0:sz=0
    ·subst h0;simp
    ·have:=nL i (sz-1) hi (by omega);omega
   refine⟨by rw[k1,hlen],λj y q3=>?_⟩;have hj:j<sz:=by rw[←hlen,←k1];exact(gE q3).1
   have cc:=nL i j hi hj;simp only[zBF cc,zAt];refine k2 j y _ q3 ?_;rw[zBO,zBF (by simp;omega),zBx]
  have nN:Den M2 bA (.aW ex false sz rs') (.slice (some ⟨cb.blk,cb.base+off*sz,none⟩) rs'.length cap):=by
   refine .aW _ ex false sz rs' _ cap cb.blk (cb.base+off*sz) (λi j=>(arr[cb.base+(off+i)*sz+j]?).getD undef) (λe=>by rw[hl];exact h3 e) (by simp) (λ_=>rfl) (λe=>by cases e) (by rw[hl];exact h1) (λi row' q=>?_) (λi j hi hj=>?_) (λi row' j y q1 q2=>?_)
   ·obtain⟨row,Vv⟩:=ai i (by rw[←hl];exact(gE q).1);exact(key i row row' Vv q).1
   ·rw[hl]at hi;have cc:=nL i j hi hj;rw[show cb.base+off*sz+(i*sz+j)=cb.base+(off+i)*sz+j by rw[zBX];omega];simp[iR,hw,cc]
   ·obtain⟨row,Vv⟩:=ai i (by rw[←hl];exact(gE q1).1);exact(key i row row' Vv q1).2 j y q2
  rw[hl,←e1]at nN;rw[e1]at nN ⊢;exact nN
end
end Go.Ah
end
section
namespace Go.Ah
structure aR where
 dst:Option Nat
 k:MK
 xs:List sJ
 guard:Option (Nat×Bool)
 deriving Inhabited
def lX{α β:Type}(R:α→β→Prop):List α→List β→Prop
 |[],[]=>True
 |x::xs,y::ys=>R x y∧lX R xs ys
 |_,_=>False
structure gk (P:Program) (GL:aw) (n:Nat) (ops:Array Oper) (o:Oper) (m:aR):Prop where
 dst:o.dst=m.dst
 lt:∀d,m.dst=some d→d<n
 op:∃os,cu P GL o.op m.k os∧lX (k_ GL) os m.xs
 guard:match o.guard,m.guard with
  |none,none=>True
  |some (j,w),some (s,w')=>w=w'∧(ops[j]?).bind (·.dst)=some s
  |_,_=>False
def eG(cs:List (Bool×Bool)):Prop:=∀p∈cs,p.1=p.2
inductive dH (ρ:Frame):Option (Nat×Bool)→List (Bool×Bool)→Prop
 |none:dH ρ none []
 |bool (s:Nat) (w c:Bool):bN ρ s=.bool c→dH ρ (some (s,w)) [(c,w)]
 |when (s:Nat) (w c:Bool) (cs:List (Bool×Bool)):bN ρ s=.when cs (.bool c)→dH ρ (some (s,w)) (cs++[(c,w)])
def zl(H:Prop)(x y:aa):Prop:=x=y∨∃cs,x=.when cs y∧(H→eG cs)
def uX(d:Nat):Frame→Frame
 |[]=>[]
 |(k,u)::r=>match IT k d with
  |true=>r
  |false=>(k,u)::uX d r
theorem W1{d t:Nat}(h:t≠d):∀(ρ:Frame),bN (uX d ρ) t=bN ρ t
 |[]=>rfl
 |(k,u)::r=>by
  simp only[uX];split<;>simp_all [XT,W1]
def cC(d:Option Nat)(v:aa)(ρ:Frame):Frame:=
 match d with
 |some d=>(d,v)::uX d ρ
 |none=>ρ
theorem Y8(d:Option Nat)(v:aa)(ρ:Frame)(t:Nat):bN (cC d v ρ) t=if d=some t then v else bN ρ t:=by
 cases d with
 |none=>simp[cC]
 |some d=>
  simp only[cC,XT];by_cases h:t=d
  ·subst h;simp
  ·rw[aB h,aB (λe=>h (zBy e).symm),W1 h]
def gC:List ab→List (Nat×ab)→Option (List ab)
 |σ,[]=>some σ
 | σ,(b,x) :: r=>bif IT b σ.length then gC (σ ++ [x]) r else (match YC b x σ with
  |some σ'=>gC σ' r
  | none=>none)
abbrev Log:=List (List Nat×List Nat)
def Cy(P:Program)(GL:aw)(w0:World)(L:Ln)(g:Gm)(R:KT):Result Next→Prop
 |.ok (.value u) w'=>∃g' x σ',R x σ'∧g.Le g'∧bx GL w0 L g' (hp σ') w'∧g'.den x u
 |.ok .skip w'=>∃g' σ',R .aQ σ'∧g.Le g'∧bx GL w0 L g' (hp σ') w'
 |.ok (.enter f args) w'=>Calls P f args w' λe ym=>∃u,e=.returned u∧∃g' x σ',R x σ'∧g.Le g'∧bx GL w0 L g' (hp σ') ym∧g'.den x u
 |_=>False
def nX(P:Program)(GL:aw)(k:MK)(xs:List aa)(σ:List ab)(R:KT):Prop:=
 ∀(o:Oper) (os:List Operand),cu P GL o.op k os→∀(w0:World) (L:Ln) (g:Gm) (w:World) (a:Act),bx GL w0 L g (hp σ) w→dR g xs (os.map a.eval)→Cy P GL w0 L g R ((execOp a.eval o).run P w)
inductive eH (fl:Bool) (P:Program) (GL:aw) (o:aR) (ρ:Frame) (σ:List ab) (lg:Log) (K:Frame→List ab→Log→Prop):Prop
 |run (cs:List (Bool×Bool)) (ys:List aa) (v:aa) (rd:List Nat) (up:List (Nat×ab)) (σ':List ab):dH ρ o.guard cs→eG cs→lX (zl True) (o.xs.map (ev ρ)) ys→aD P GL o.k ys (hp σ) v rd up →
   gC σ up=some σ'→K (cC o.dst v ρ) σ' (lg++[(rd,up.map (·.1))])→eH fl P GL o ρ σ lg K
 |skip (cs:List (Bool×Bool)):dH ρ o.guard cs→¬eG cs→K (cC o.dst .aQ ρ) σ (lg++[([],[])])→eH fl P GL o ρ σ lg K
 |lazy (cs:List (Bool×Bool)) (ys:List aa) (v:aa) (rd:List Nat):dH ρ o.guard cs→lX (zl (eG cs)) (o.xs.map (ev ρ)) ys→(eG cs→aD P GL o.k ys (hp σ) v rd []) →
   K (cC o.dst (.when cs v) ρ) σ (lg++[(rd,[])])→eH fl P GL o ρ σ lg K
 |pick (cs:List (Bool×Bool)) (x y z:aa) (c p q:Bool) (v:aa):dH ρ o.guard cs→o.k=.pick→o.xs.map (ev ρ)=[x,y,z]→zl (eG cs) x (.bool c)→zl (eG cs∧c=true) y (.bool p)→zl (eG cs∧c=false) z (.bool q) →
   (v=.when cs (.bool (bif c then p else q))∨(cs=[]∧v=.bool (bif c then p else q)))→K (cC o.dst v ρ) σ (lg++[([],[])])→eH fl P GL o ρ σ lg K
 |rel (cs:List (Bool×Bool)) (ys:List aa) (R:KT):fl=false→dH ρ o.guard cs→eG cs→lX (zl True) (o.xs.map (ev ρ)) ys→nX P GL o.k ys σ R →
   (∀v σ',R v σ'→K (cC o.dst v ρ) σ' (lg++[([],[])]))→eH fl P GL o ρ σ lg K
def i7(fl:Bool)(P:Program)(GL:aw):List aR→Frame→List ab→Log→(Frame→List ab→Log→Prop)→Prop
 |[],ρ,σ,lg,Q=>Q ρ σ lg
 |o::r,ρ,σ,lg,Q=>eH fl P GL o ρ σ lg λρ' σ' jP=>i7 fl P GL r ρ' σ' jP Q
variable{ρ:Frame}
theorem eH.mono{fl:Bool}{P:Program}{GL:aw}{o:aR}{σ:List ab}{lg:Log}{K K':Frame→List ab→Log→Prop}(h:∀ρ σ lg,K ρ σ lg→K' ρ σ lg)(s:eH fl P GL o ρ σ lg K):eH fl P GL o ρ σ lg K':=by
 cases s with
 |run cs ys v rd up σ' h1 h2 h3 h4 h5 h6=>exact .run cs ys v rd up σ' h1 h2 h3 h4 h5 (h _ _ _ h6)
 |skip cs h1 h2 h3=>exact .skip cs h1 h2 (h _ _ _ h3)
 |lazy cs ys v rd h1 h2 h3 h4=>exact .lazy cs ys v rd h1 h2 h3 (h _ _ _ h4)
 |pick cs x y z c p q v h1 h2 h3 h4 h5 h6 h7 h8=>exact .pick cs x y z c p q v h1 h2 h3 h4 h5 h6 h7 (h _ _ _ h8)
 |rel cs ys R h0 h1 h2 h3 h4 h5=>exact .rel cs ys R h0 h1 h2 h3 h4 (λv σ' hr=>h _ _ _ (h5 v σ' hr))
theorem IF:∀(up:List (Nat×ab)) (σ σ':List ab),gC σ up=some σ'→cz (hp σ) up=hp σ'
 |[],σ,σ',h=>by simp only[gC]at h;cases h;rfl
 |(b,x)::r,σ,σ',h=>by
  simp only[gC]at h;cases hb:IT b σ.length with
  |true=>
   simp only[hb,cond_true]at h;have:=IF r _ _ h;rw[←this];show cz (eo (hp σ) b x) r=_
   congr 1
   grind [eo,hp,fY]
  |false=>
   simp only[hb,cond_false]at h;cases hs:YC b x σ with
   |none=>simp[hs]at h
   |some σ1=>
    simp only[hs]at h;have:=IF r _ _ h;rw[←this];show cz (eo (hp σ) b x) r=_
    congr 1
    funext n
    obtain⟨s1,s2,s3⟩:=Xcx hs;unfold eo hp;rw[s3 n]
section
variable {P:Program} {GL:aw}
def yZ(GL:aw)(w0:World)(L:Ln)(n:Nat)(g:Gm)(K:Frame→List ab→Log→Prop)(a:Act)(w:World):Prop:=
 ∃g' ρ σ lg,g.Le g'∧bx GL w0 L g' (hp σ) w∧cX n g' ρ a∧K ρ σ lg
variable{x:aa}
variable{g:Gm}
theorem CO{H:Prop}(hH:H){y:aa}(h:zl H x y){v:Value}(d:g.den x v):g.den y v:=by
 rcases h with rfl|⟨cs,rfl,h2⟩
 ·exact d
 ·cases d with
  |when _ _ _ _ h3 _=>exact h3 (h2 hH)
theorem GB{H:Prop}(hH:H):∀ {xs ys:List aa} {vs:List Value},lX (zl H) xs ys→dR g xs vs→dR g ys vs
 |[],[],[],_,_=>trivial
 |[],[],_::_,_,d=>d.elim
 |_::_,_::_,[],_,d=>d.elim
 |_::_,_::_,_::_,⟨h1,h2⟩,⟨d1,d2⟩=>⟨CO hH h1 d1,GB hH h2 d2⟩
variable{n:Nat}
variable{L:Ln}
variable{w0:World}
variable{a:Act}
theorem I4{h:Hp}{w:World}(r:bx GL w0 L g h w)(d:cX n g ρ a):∀ {os:List Operand} {xs:List sJ},lX (k_ GL) os xs→dR g (xs.map (ev ρ)) (os.map a.eval)
 |[],[],_=>trivial
 |_::_,_::_,⟨h1,h2⟩=>⟨cX.opd r d h1,I4 r d h2⟩
theorem cX.cC(h:cX n g ρ a){d:Option Nat}(hd:∀t,d=some t→t<n){v:Value}(hx:g.den x v):cX n g (cC d x ρ) (a.put d v):=by
 cases d with
 |none=>exact h
 |some t=>
  have:=h.put (hd t rfl) hx;refine⟨this.size,λs=>?_,this.defers⟩;have hs:=this.slot s;rw[XT]at hs;rw[Y8]
  grind
variable{o:Oper}
theorem Out.upon{h':Hp}{res:Result Next}(ho:Out P GL w0 L g h' x res){next:Act→World→Prop}{Q:Exit→Act→World→Prop}
 (hk:∀g' u w',g.Le g'→bx GL w0 L g' h' w'→g'.den x u→next (a.put o.dst u) w'):o.upon P a next Q res:=by
 cases res with
 |halt x w=>exact ho.elim
 |ok nx w=>
  cases nx with
  |value u=>obtain⟨g',h1,h2,h3⟩:=ho;exact hk g' u w h1 h2 h3
  |skip=>obtain⟨g',h1,h2,h3⟩:=ho;subst h3;exact hk g' undef w h1 h2 (.aQ _ _)
  |enter f args=>
   refine zDO ho ?_
   grind
  |_=>exact ho.elim
theorem Qt{ops:Array Oper}{m:aR}(ok:gk P GL n ops o m)(d:cX n g ρ a){cs:List (Bool×Bool)}(hg:dH ρ m.guard cs) :
  (eG cs→zCm o (yielded ops a.tmps)=true)∧(¬eG cs→zCm o (yielded ops a.tmps)=false):=by
 have rO:=ok.guard;unfold zCm;cases h1:m.guard with
 |none=>
  rw[h1]at hg rO;cases hg;cases h2:o.guard<;>simp_all [eG]
 |some sw=>
  obtain⟨s,w⟩:=sw;rw[h1]at hg rO;cases h2:o.guard with
  |none=>simp[h2]at rO
  |some jw=>
   obtain⟨j,w'⟩:=jw;simp only[h2]at rO;obtain⟨rfl,hs⟩:=rO;have lp:=d.slot s;have hy:∀v,a.tmps.getD s undef=v→yielded ops a.tmps j=match v with | .bool b=>some b|_=>none:=by
    intro v hv;unfold yielded;rw[hs];simp only[Option.bind_some];by_cases cc:s<a.tmps.size
    ·rw[zBF cc];have:a.tmps[s]=v:=by simp_all
     rw[this];cases v<;>rfl
    grind [undef]
   show (eG cs→(yielded ops a.tmps j==some _)=true)∧(¬eG cs→(yielded ops a.tmps j==some _)=false);cases hg with
   |bool _ _ c hc=>
    rw[hc]at lp;have hv:=YE lp;simp_all [eG]
   |when _ _ c cs hc=>
    rw[hc]at lp;cases lp with
    |when _ _ _ _ h3 h4=>
    constructor
    ·intro h;have hv:=YE (h3 (λp hp=>h p (by simp[hp])));rw[hy _ hv];have:=h (c,w') (by simp);simp at this;simp[this]
    ·intro h;by_cases gH:eG cs
     ·have hv:=YE (h3 gH);rw[hy _ hv];simp;intro e;exact h (λp hp=>by
       rcases List.mem_append.1 hp with h1|h1
       ·exact gH p h1
       ·simp at h1;subst h1;exact e)
     ·have hv:=h4 gH;rw[hy _ hv];simp[undef]
theorem Cy.upon{R:KT}{res:Result Next}(ho:Cy P GL w0 L g R res){next:Act→World→Prop}{Q:Exit→Act→World→Prop}
 (hk:∀g' x σ' u w',R x σ'→g.Le g'→bx GL w0 L g' (hp σ') w'→g'.den x u→next (a.put o.dst u) w'):o.upon P a next Q res:=by
 cases res with
 |halt x w=>exact ho.elim
 |ok nx w=>
  cases nx with
  |value u=>obtain⟨g',x,σ',h0,h1,h2,h3⟩:=ho;exact hk g' x σ' u w h0 h1 h2 h3
  |skip=>obtain⟨g',σ',h0,h1,h2⟩:=ho;exact hk g' .aQ σ' undef w h0 h1 h2 (.aQ _ _)
  |enter f args=>
   refine zDO ho ?_
   grind
  |_=>exact ho.elim
theorem YbO{fl:Bool}{ops:Array Oper}{m:aR}(ok:gk P GL n ops o m){σ:List ab}{lg:Log}{K:Frame→List ab→Log→Prop}(s:eH fl P GL m ρ σ lg K){w:World}(r:bx GL w0 L g (hp σ) w)(d:cX n g ρ a)
 (next:Act→World→Prop)(Q:Exit→Act→World→Prop)(hn:∀a' w',yZ GL w0 L n g K a' w'→next a' w') :
  if zCm o (yielded ops a.tmps)then o.wp P a w next Q∨(o.asks P a w∧LetsOut Q)else next (a.put o.dst undef) w:=by
 obtain⟨os,lj,vh⟩:=ok.op;have mq:=I4 r d vh;cases s with
 |run cs ys v rd up σ' h1 h2 h3 h4 h5 h6=>
  rw[aI ((Qt ok d h1).1 h2)];left;have c_:=GB trivial h3 mq;have ho:=h4 o os lj w0 L g (hp σ) w a r c_ (λ_ _=>rfl) (λ_ _=>rfl);rw[IF up σ σ' h5]at ho;refine ho.upon (λg' u w' hle hr hu=>hn _ _ ⟨g',_,σ',_,hle,hr,?_,h6⟩);rw[ok.dst];exact(d.mono hle).cC ok.lt hu
 |skip cs h1 h2 h3=>
  rw[aB (by rw[(Qt ok d h1).2 h2];simp)];refine hn _ _ ⟨g,_,σ,_,Gm.Le.refl g,r,?_,h3⟩;rw[ok.dst];exact d.cC ok.lt (.aQ _ _)
 |lazy cs ys v rd h1 h2 h3 h4=>
  by_cases hh:eG cs
  ·rw[aI ((Qt ok d h1).1 hh)];left;have c_:=GB hh h2 mq;have ho:=h3 hh o os lj w0 L g (hp σ) w a r c_ (λ_ _=>rfl) (λ_ h=>by cases h);refine ho.upon (λg' u w' hle hr hu=>hn _ _ ⟨g',_,σ,_,hle,hr,?_,h4⟩);rw[ok.dst];exact(d.mono hle).cC ok.lt (.when _ _ _ _ (λ_=>hu) (λh=>(h hh).elim))
  ·rw[aB (by rw[(Qt ok d h1).2 hh];simp)];refine hn _ _ ⟨g,_,σ,_,Gm.Le.refl g,r,?_,h4⟩;rw[ok.dst];exact d.cC ok.lt (.when _ _ _ _ (λh=>(hh h).elim) (λ_=>rfl))
 |pick cs x y z c p q v h1 hk Ap hx hy hz hv h8=>
  rw[Ap]at mq;have lG:=lj;rw[hk]at lG;generalize im:o.op=op at lG;cases lG with
  |pick oc oa ob=>
   obtain⟨d1,d2,d3,_⟩:=mq;by_cases hh:eG cs
   ·rw[aI ((Qt ok d h1).1 hh)];left;have e1:=YE (CO hh hx d1);have nN:g.den (.bool (bif c then p else q)) (if c then a.eval oa else a.eval ob):=by
     cases c
     ·exact CO ⟨hh,rfl⟩ hz d3
     ·exact CO ⟨hh,rfl⟩ hy d2
    have bg:(execOp a.eval o).run P w=.ok (.value (if c then a.eval oa else a.eval ob)) w:=by
     simp_all [execOp,asBool]
    unfold Oper.wp;rw[bg];refine hn _ _ ⟨g,_,σ,_,Gm.Le.refl g,r,?_,h8⟩;rw[ok.dst];rcases hv with rfl|⟨rfl,rfl⟩
    ·exact d.cC ok.lt (.when _ _ _ _ (λ_=>nN) (λh=>(h hh).elim))
    ·exact d.cC ok.lt nN
   ·rw[aB (by rw[(Qt ok d h1).2 hh];simp)];refine hn _ _ ⟨g,_,σ,_,Gm.Le.refl g,r,?_,h8⟩;rw[ok.dst];rcases hv with rfl|⟨rfl,rfl⟩
    ·exact d.cC ok.lt (.when _ _ _ _ (λh=>(hh h).elim) (λ_=>rfl))
    ·exact(hh (by simp[eG])).elim
 |rel cs ys R h0 h1 h2 h3 h4 h5=>
  rw[aI ((Qt ok d h1).1 h2)];left;have c_:=GB trivial h3 mq;refine(h4 o os lj w0 L g w a r c_).upon (λg' x σ' u w' hR hle hr hu=>hn _ _ ⟨g',_,σ',_,hle,hr,?_,h5 x σ' hR⟩);rw[ok.dst];exact(d.mono hle).cC ok.lt hu
theorem NS{fl:Bool}{n:Nat}{ops:Array Oper}{w0:World}{L:Ln}(Q:Exit→Act→World→Prop)(K:Frame→List ab→Log→Prop):∀(ms:List aR) (i:Nat) (ρ:Frame) (σ:List ab) (lg:Log) (g:Gm) (a:Act) (w:World),
  (∀(j:Nat) (m:aR),ms[j]?=some m→∃o,ops[i+j]?=some o∧gk P GL n ops o m)→i7 fl P GL ms ρ σ lg K→bx GL w0 L g (hp σ) w→cX n g ρ a →
  (∀a' w',yZ GL w0 L n g K a' w'→Q .normal a' w')→wpOps P ops Q (zBI i ms.length) a w
 |[],i,ρ,σ,lg,g,a,w,_,hw,r,d,hq=>hq a w ⟨g,ρ,σ,lg,Gm.Le.refl g,r,d,hw⟩
 |m::ms,i,ρ,σ,lg,g,a,w,bR,hw,r,d,hq=>by
  obtain⟨o,ho,ok⟩:=bR 0 m rfl;rw[zBj]at ho;simp only[IS,zDG,wpOps,ho];refine YbO ok hw r d _ Q (λa' w' ⟨g',ρ',σ',jP,hle,hr,hd,hk⟩=>?_);exact NS Q K ms (i + 1) ρ' σ' jP g' a' w' (λj m' e=>by
   have:=bR (j+1) m' (by simpa using e)
   rwa [show i + (j + 1)=i + 1 + j by omega]at this) hk hr hd (λa2 w2 ⟨g2,ρ2,σ2,lg2,lK,HC,sN,rS⟩=>hq a2 w2 ⟨g2,ρ2,σ2,lg2,hle.trans lK,HC,sN,rS⟩)
end
end Go.Ah
end
section
namespace Go.Ah
section
variable {P:Program} {GL:aw}
variable{σ:List ab}
theorem ZR{b:Nat}{row:List aa}(h:ai σ b=.box row):hp σ b=some (.box row):=X8 h (by simp)
theorem Ii{b:Nat}{es:List (aa×aa)}(h:ai σ b=.map es):hp σ b=some (.map es):=X8 h (by simp)
theorem Qh{b:Bool}{x:aN}{v:aa}{rd:List Nat}{up:List (Nat×ab)}(h:(bif b then x else .stop)=.ok v rd up):b=true∧x=.ok v rd up:=by
 grind
theorem PR{k:MK}{xs:List aa}{v:aa}{rd:List Nat}{up:List (Nat×ab)}(h:sn k xs σ=.ok v rd up):aD P GL k xs (hp σ) v rd up:=by
 cases k<;>simp only[sn,rl,PO,Zs,ub,ZO,Xq,QP,Rp,Sh,Ql,Zn,PW,CJ,t_,G0,XG,YU,ZQ,Zc,Q9,Yk,SZ,Qj,Yn,ZU,OK,R9,IG,I7,S6,XP,Tg]at h
 case mv=>split at h<;>cases h;exact R2 _ _
 case pick=>split at h<;>cases h;exact Yd1 _ _ _ _
 case alloc z=>split at h<;>cases h;exact Qdz _ _ _ (yx σ)
 case box=>
  split at h
  ·split at h
   ·rename_i hc;cases h;exact Zem _ _ hc _ _ (yx σ)
   ·cases h
  ·cases h
 case build z ps=>
  split at h
  ·rename_i hf;cases h;exact ZdA _ _ _ _ hf _
  ·cases h
 case mP sz n z ps=>
  split at h
  ·rename_i hf;split at h
   ·rename_i hc;cases h;exact Zc1 _ _ _ _ _ _ _ hf hc _ _ (yx σ)
   ·cases h
  ·cases h
 case lZ sz=>split at h<;>cases h;exact Xcw _ _
 case load agg n=>
  split at h
  ·split at h
   ·rename_i hb;split at h
    ·rename_i hv;cases h;exact Ych _ _ _ _ _ _ _ (ZR hb) hv
    ·cases h
   ·cases h
  ·split at h
   ·rename_i hv;cases h;exact Xch _ _ _ _ _ _ hv
   ·cases h
  ·cases h
 case store n=>
  split at h
  ·split at h
   ·rename_i hb;split at h
    ·rename_i hc
     replace h:=Qh h;obtain⟨hbq,h⟩:=h
     split at h
     ·rename_i hs;cases h;exact ZdC _ _ _ _ _ _ _ _ (ZR hb) hc (fY hbq) hs
     ·cases h
    ·cases h
   ·cases h
  ·cases h
 case nilCheck=>
  split at h<;>cases h
  ·exact Q0 _ (.inl ⟨_,_,rfl⟩) _
  ·exact Q0 _ (.inr (.inl ⟨_,_,_,rfl⟩)) _
  ·exact Q0 _ (.inr (.inr (.inl ⟨_,_,rfl⟩))) _
  ·exact Q0 _ (.inr (.inr (.inr (.inl ⟨_,_,_,rfl⟩)))) _
  ·exact Q0 _ (.inr (.inr (.inr (.inr ⟨_,_,rfl⟩)))) _
 case bin op ib=>
  split at h
  ·rename_i k a k' b;split at h
   ·rename_i hv;cases h;cases hk:j7 k k'<;>rw[hk]at hv
    ·cases hv
    ·have:=zA hk;subst this;exact YdZ _ _ _ _ _ _ hv _
   ·split at h
    ·rename_i hv;cases h;exact XdZ _ _ _ _ _ _ _ hv _
    ·cases h
  ·split at h
   ·cases h;exact QcP _ _ _ _ false rfl _
   ·cases h;exact QcP _ _ _ _ true rfl _
   ·replace h:=Qh h;obtain⟨hk,h⟩:=h
    cases h;exact ZdZ _ _ _ hk _
   ·cases h
  ·replace h:=Qh h;obtain⟨hk,h⟩:=h
   subst hk;split at h<;>cases h
   ·exact XcP _ _ _ false rfl _
   ·exact XcP _ _ _ true rfl _
  ·cases h
 case oG c neq left=>
  split at h
  ·split at h
   ·rename_i hb;cases h;exact QdA _ _ _ _ _ _ hb _
   ·cases h
  ·cases h
 case BO neq ls=>
  split at h
  ·split at h
   ·rename_i hb;cases h;exact Yem _ _ _ _ _ hb _
   ·cases h
  ·cases h
 case un op=>
  split at h
  ·split at h<;>cases h;exact Xc3 _ _
  ·split at h<;>cases h
   ·exact Yc3 _ _ _
   ·exact Qc3 _ _ _
  ·cases h
 case conv k=>split at h<;>cases h;exact Zd0 _ _ _ _
 case jl t=>split at h<;>cases h;exact Ycx _ _ _
 case kF fn n=>
  split at h
  ·rename_i ht;cases h;obtain⟨t1,t2,t3⟩:=R8 ht;rename_i a;have hx:xs=a++jk n xs:=by
    rw[NO];have:a=xs.take n:=by
     apply List.ext_getElem?;intro i;by_cases hi:i<n
     ·rw[t3 i hi,zDV hi]
     ·rw[zCd (by omega),zCd (by simp;omega)]
    rw[this,List.take_append_drop]
   have:=Xc2 (P:=P) (GL:=GL) fn n a (jk n xs) t1 (hp σ)
   rwa [←hx]at this
  ·cases h
 case makeMap=>split at h<;>cases h;exact Zcx _ _ (yx σ)
 case fieldAddr off=>
  split at h<;>cases h
  ·exact Sk _ _ _ (.inl ⟨_,_,rfl,rfl⟩) _
  ·exact Sk _ _ _ (.inr (.inl ⟨_,_,_,rfl,rfl⟩)) _
  ·exact Sk _ _ _ (.inr (.inr ⟨_,_,rfl,rfl⟩)) _
 case field agg off n=>
  split at h
  ·split at h
   ·rename_i hv;cases h;exact ZdB _ _ _ _ _ hv _
   ·cases h
  ·cases h
 case hZ len nd=>
  split at h
  ·replace h:=Qh h;obtain⟨hb,h⟩:=h
   cases h;exact P1 _ _ _ _ _ _ (iy hb) (.inl ⟨_,_,rfl,rfl⟩) _
  ·replace h:=Qh h;obtain⟨hb,h⟩:=h
   cases h;exact P1 _ _ _ _ _ _ (iy hb) (.inr (.inl ⟨_,_,_,rfl,rfl⟩)) _
  ·replace h:=Qh h;obtain⟨hb,h⟩:=h
   cases h;exact P1 _ _ _ _ _ _ (iy hb) (.inr (.inr ⟨_,_,rfl,rfl⟩)) _
  ·cases h
 case se agg len nd=>
  split at h
  ·replace h:=Qh h;obtain⟨hb,h⟩:=h
   split at h
   ·rename_i hv;cases h;exact Yd0 _ _ _ _ _ _ _ (iy hb) hv _
   ·cases h
  ·cases h
 case extract i=>
  split at h
  ·split at h
   ·rename_i hv;cases h;rw[Y3]at hv;exact Qcw _ _ _ hv _
   ·cases h
  ·cases h
 case sj=>
  split at h<;>cases h
  ·exact OZ _ _ (.inl ⟨rfl,rfl⟩) _
  ·exact OZ _ _ (.inr (.inl ⟨rfl,rfl⟩)) _
  ·exact OZ _ _ (.inr (.inr (.inl ⟨_,_,_,_,rfl,rfl⟩))) _
  ·exact OZ _ _ (.inr (.inr (.inr ⟨_,_,_,_,rfl,rfl⟩))) _
 case kE=>split at h<;>cases h;exact Qc1 _ _
 case sg n=>split at h<;>cases h;exact Xd0 _ _ _
 case mV=>
  split at h
  ·cases h;exact Xcg _
  ·split at h
   ·rename_i hb;cases h;exact Qcg _ _ _ (Ii hb)
   ·cases h
  ·cases h;exact Zch _ _
  ·cases h
 case min2=>split at h<;>cases h;exact Zd1 _ _ _ _ _
 case max2=>split at h<;>cases h;exact Qd0 _ _ _ _ _
 case range=>split at h<;>cases h;exact QdB _ _ _ (yx σ)
 case fQ t ok z=>
  split at h
  ·rename_i u v0;cases hb:IT u t with
   |true=>
    rw[hb]at h;have:=fY hb;subst this;cases h;exact(PS _ _ _ _ 0 _).1
   |false=>
    rw[hb]at h
    replace h:=Qh h;obtain⟨bR,h⟩:=h
    subst bR;cases h;exact(PS _ true _ _ _ _).2.1 (λe=>by rw[e,zBf]at hb;cases hb)
  ·replace h:=Qh h;obtain⟨bR,h⟩:=h
   subst bR;cases h;exact(PS _ true _ .aQ 0 _).2.2
  ·cases h
 case gR pq=>
  split at h
  ·replace h:=Qh h;obtain⟨bR,h⟩:=h
   cases h;exact Ycw _ _ _ _ (Qdu bR)
  ·cases h;exact Ycg _ _
  ·cases h
 all_goals cases h
end
def vU{α β:Type}:List α→(List α→β)→β
 |[],k=>k []
 |x::l,k=>vU l λl=>k (x::l)
theorem IL{α β:Type}:∀(l:List α) (k:List α→β),vU l k=k l
 |[],_=>rfl
 |x::l,k=>IL l λl=>k (x::l)
abbrev Cons:=List (List (Bool×Bool)×(Bool×Bool))
def AZ(c:Cons):Prop:=∀p∈c,eG p.1→p.2.1=p.2.2
inductive PN where
 |done (ρ:Frame) (σ:List ab) (lg:Log) (c:Cons)
 |stop (rest:List aR) (ρ:Frame) (σ:List ab) (lg:Log) (c:Cons)
theorem AZ.map{G cs:List (Bool×Bool)}(h:AZ (cs.map λq=>(G,q)))(hG:eG G):eG cs:=λp hp=>h (G,p) (List.mem_map.2 ⟨p,hp,rfl⟩) hG
def CI(P:Program)(GL:aw)(step:MK→List aa→List ab→aN):Prop:=∀ {k:MK} {xs:List aa} {σ:List ab} {v:aa} {rd:List Nat} {up:List (Nat×ab)},step k xs σ=.ok v rd up→aD P GL k xs (hp σ) v rd up
end Go.Ah
end
section
namespace Go.Ah
inductive dB where
 |skip
 |region (id:Nat) (ms:List aR) (draw:Option (List (List Nat)))
 |seq (a b:dB)
 |cond (c:sJ) (a b:dB)
 |block (id:Nat) (a:dB)
 |loop (a:dB)
 |exit (id:Nat)
 |scope (a:dB)
 |label (l:Nat)
 |ret
 deriving Inhabited
def Yv(lg:Log)(i:Nat):List Nat×List Nat:=(lg[i]?).getD ([],[])
def dS:List Nat→List Nat→Bool
 |[],_=>true
 |x::a,b=>!(b.contains x)&&dS a b
def Xn(hd:List (List Nat))(i:Nat):List Nat:=(hd[i]?).getD []
def cf(p q:List Nat×List Nat):Bool:=dS p.1 q.2&&(dS p.2 q.1&&dS p.2 q.2)
def Xm(h:List Nat)(q:List Nat×List Nat):Nat→Log→Bool
 |_,[]=>true
 |i,p::r=>(h.contains i||cf p q)&&Xm h q (i+1) r
def Qi(hd:List (List Nat))(lg:Log):Bool:=
 (zAB lg.length).all λj=>Xm (Xn hd j) (Yv lg j) 0 (lg.take j)
def waits(o:Oper):List Nat:=(o.after.toList.filter (Region.binds .any)).map (·.on)
def iW(m:aR):List Nat:=(m.xs.filterMap fun | .t n=>some n | .c _=>none)++(match m.guard with|some (s,_)=>[s]|none=>[])
def eL(m:aR):List Nat:=m.dst.toList
def zy(ops:List Oper)(ms:List aR)(hd:List (List Nat)):Bool:=
 let idx:=zAB ms.length
 IT ops.length ms.length&&IT hd.length ms.length &&
 (idx.all λj=>(waits (ops.getD j default)).all λi=>zAn i j) &&
 (idx.all λj=>(Xn hd j).all λi=>zAn i j&&((waits (ops.getD j default)).contains i||(waits (ops.getD j default)).any λk=>(Xn hd k).contains i)) &&
 (idx.all λj=>(zAB j).all λi=>
  let a:=ms.getD i default
  let b:=ms.getD j default
  (Xn hd j).contains i || (dS (eL a) (iW b) && dS (eL a) (eL b) && dS (iW a) (eL b)))
inductive cG (P:Program) (GL:aw) (n:Nat):Code→dB→Prop
 |skip:cG P GL n .skip .skip
 |region (id:Nat) (ops:Array Oper) (ms:List aR):ops.size=ms.length→(∀(j:Nat) (m:aR),ms[j]?=some m→∃o,ops[j]?=some o∧gk P GL n ops o m)→cG P GL n (.region id ops false) (.region id ms none)
 |draw (id:Nat) (ops:Array Oper) (ms:List aR) (hd:List (List Nat)):ops.size=ms.length→(∀(j:Nat) (m:aR),ms[j]?=some m→∃o,ops[j]?=some o∧gk P GL n ops o m)→zy ops.toList ms hd=true →
   cG P GL n (.region id ops true) (.region id ms (some hd))
 |seq (a b:Code) (x y:dB):cG P GL n a x→cG P GL n b y→cG P GL n (.seq a b) (.seq x y)
 |cond (c:Operand) (d:sJ) (a b:Code) (x y:dB):k_ GL c d→cG P GL n a x→cG P GL n b y→cG P GL n (.cond c a b) (.cond d x y)
 |block (id:Nat) (a:Code) (x:dB):cG P GL n a x→cG P GL n (.block id a) (.block id x)
 |loop (a:Code) (x:dB):cG P GL n a x→cG P GL n (.loop a) (.loop x)
 |exit (id:Nat):cG P GL n (.exit id) (.exit id)
 |scope (a:Code) (x:dB):cG P GL n a x→cG P GL n (.scope a) (.scope x)
 |label (l:Nat):cG P GL n (.label l) (.label l)
 |ret:cG P GL n .ret .ret
inductive HO where
 |normal
 |exit (id:Nat)
 |ret
abbrev eF:=HO→Frame→List ab→Prop
def nW(GL:aw)(w0:World)(L:Ln)(n:Nat)(g:Gm)(Q:eF):Exit→Act→World→Prop
 |.normal,a,w=>∃g' ρ σ,g.Le g'∧bx GL w0 L g' (hp σ) w∧cX n g' ρ a∧Q .normal ρ σ
 |.exit id,a,w=>∃g' ρ σ,g.Le g'∧bx GL w0 L g' (hp σ) w∧cX n g' ρ a∧Q (.exit id) ρ σ
 |.ret,a,w=>∃g' ρ σ,g.Le g'∧bx GL w0 L g' (hp σ) w∧cX n g' ρ a∧Q .ret ρ σ
 |_,_,_=>False
theorem nW.mono{GL:aw}{w0:World}{L:Ln}{n:Nat}{g g':Gm}(hg:g.Le g'){Q Q':eF}(h:∀e ρ σ,Q e ρ σ→Q' e ρ σ):∀(e:Exit) (a:Act) (w:World),nW GL w0 L n g' Q e a w→nW GL w0 L n g Q' e a w:=by
 intro e a w hl;cases e<;>first
  |exact hl.elim
  |(obtain⟨g2,ρ,σ,h1,h2,h3,h4⟩:=hl;exact⟨g2,ρ,σ,hg.trans h1,h2,h3,h _ _ _ h4⟩)
def iX(P:Program)(GL:aw)(n:Nat)(m:dB)(ρ:Frame)(σ:List ab)(Q:eF):Prop:=
 ∀c,cG P GL n c m→∀(w0:World) (L:Ln) (g:Gm) (a:Act) (w:World),bx GL w0 L g (hp σ) w→cX n g ρ a→c.wp P (nW GL w0 L n g Q) a w
def eF.andThen(k:Frame→List ab→Prop)(Q:eF):eF
 |.normal,ρ,σ=>k ρ σ
 |e,ρ,σ=>Q e ρ σ
def eF.inBlock(id:Nat)(Q:eF):eF
 |.exit Lw,ρ,σ=>if Lw=id then Q .normal ρ σ else Q (.exit Lw) ρ σ
 |e,ρ,σ=>Q e ρ σ
section
variable {P:Program} {GL:aw} {n:Nat} {ρ:Frame} {σ:List ab} {Q:eF}
theorem iX.mono{m:dB}{Q':eF}(h:iX P GL n m ρ σ Q)(hq:∀e ρ σ,Q e ρ σ→Q' e ρ σ):iX P GL n m ρ σ Q':=
 λc hc w0 L g a w r d=>wp_mono (h c hc w0 L g a w r d) (nW.mono (Gm.Le.refl g) hq)
theorem ZdN(h:Q .normal ρ σ):iX P GL n .skip ρ σ Q:=by
 intro c hc w0 L g a w r d;cases hc with
 |skip=>exact wp_skip ⟨g,ρ,σ,Gm.Le.refl g,r,d,h⟩
theorem Qdb{l:Nat}(h:Q .normal ρ σ):iX P GL n (.label l) ρ σ Q:=by
 intro c hc w0 L g a w r d;cases hc with
 |label=>exact wp_label ⟨g,ρ,σ,Gm.Le.refl g,r,d,h⟩
theorem QdM{id:Nat}(h:Q (.exit id) ρ σ):iX P GL n (.exit id) ρ σ Q:=by
 intro c hc w0 L g a w r d;cases hc with
 |exit=>exact wp_exit ⟨g,ρ,σ,Gm.Le.refl g,r,d,h⟩
theorem Qeb(h:Q .ret ρ σ):iX P GL n .ret ρ σ Q:=by
 intro c hc w0 L g a w r d;cases hc with
 |ret=>exact wp_ret ⟨g,ρ,σ,Gm.Le.refl g,r,d,h⟩
variable{x:dB}
theorem Zec{y:dB}(h:iX P GL n x ρ σ (eF.andThen (λρ σ=>iX P GL n y ρ σ Q) Q)):iX P GL n (.seq x y) ρ σ Q:=by
 intro c hc w0 L g a w r d;cases hc with
 |seq c1 c2 _ _ h1 h2=>
  refine wp_seq (wp_mono (h c1 h1 w0 L g a w r d) (λe a' w' hl=>?_));cases e with
  |normal=>
   obtain⟨g',ρ',σ',k1,k2,k3,k4⟩:=hl;exact wp_mono (k4 c2 h2 w0 L g' a' w' k2 k3) (nW.mono k1 (λ_ _ _ q=>q))
  |_=>exact hl
theorem XdM{o:sJ}{b:Bool}{y:dB}(ho:ev ρ o=.bool b)(ht:b=true→iX P GL n x ρ σ Q)(hf:b=false→iX P GL n y ρ σ Q):iX P GL n (.cond o x y) ρ σ Q:=by
 intro c hc w0 L g a w r d;cases hc with
 |cond oc _ c1 c2 _ _ im h1 h2=>
  have hd:=cX.opd r d im;rw[ho]at hd;exact wp_cond_split (YE hd) (λe=>ht e c1 h1 w0 L g a w r d) (λe=>hf e c2 h2 w0 L g a w r d)
theorem Xdb{id:Nat}(h:iX P GL n x ρ σ (eF.inBlock id Q)):iX P GL n (.block id x) ρ σ Q:=by
 intro c hc w0 L g a w r d;cases hc with
 |block _ c1 _ h1=>
  refine wp_block (wp_mono (h c1 h1 w0 L g a w r d) (λe a' w' hl=>?_));cases e with
  |exit Lw=>
   obtain⟨g',ρ',σ',k1,k2,k3,k4⟩:=hl;simp only[Exit.inBlock];simp only[eF.inBlock]at k4;split
   ·rename_i e;rw[aI e]at k4;exact⟨g',ρ',σ',k1,k2,k3,k4⟩
   ·rename_i e;rw[aB e]at k4;exact⟨g',ρ',σ',k1,k2,k3,k4⟩
  |_=>exact hl
theorem Zdc(h:iX P GL n x ρ σ Q):iX P GL n (.scope x) ρ σ Q:=by
 intro c hc w0 L g a w r d;cases hc with
 |scope c1 _ h1=>
  refine wp_scope_straight (wp_mono (h c1 h1 w0 L g a w r d) (λe a' w' hl=>?_));cases e with
  |goto l=>exact hl.elim
  |_=>exact hl
theorem XcT{id:Nat}{ms:List aR}(h:i7 false P GL ms ρ σ [] (λρ' σ' _=>Q .normal ρ' σ')):iX P GL n (.region id ms none) ρ σ Q:=by
 intro c hc w0 L g a w r d;cases hc with
 |region _ ops _ eN bR=>
  refine wp_region ?_;rw[List.range_eq_range',eN];refine NS (n:=n) (w0:=w0) (L:=L) _ (λρ' σ' _=>Q .normal ρ' σ') ms 0 ρ σ [] g a w (λj m e=>by simpa using bR j m e) h r d (λa' w' ⟨g',ρ',σ',jP,k1,k2,k3,k4⟩=>⟨g',ρ',σ',k1,k2,k3,k4⟩)
def vy(ρ ρ':Frame):Prop:=∀t,bN ρ t=bN ρ' t∨bN ρ t=.aQ
theorem cX.dP{g:Gm}{ρ ρ':Frame}{a:Act}(h:cX n g ρ' a)(hl:vy ρ ρ'):cX n g ρ a:=
 ⟨h.size,λt=>by
  rcases hl t with e|e
  ·rw[e];exact h.slot t
  ·rw[e];exact .aQ _ _,h.defers⟩
theorem YdN{m:dB}{ρ':Frame}(hl:vy ρ' ρ)(h:iX P GL n m ρ' σ Q):iX P GL n m ρ σ Q:=
 λc hc w0 L g a w r d=>h c hc w0 L g a w r (d.dP hl)
def G6:Frame→Frame→Prop
 |[],_=>True
 |(t,v)::r,ρ=>bN ρ t=v∧G6 r ρ
theorem G6.le:∀ {r ρ:Frame},G6 r ρ→vy r ρ
 |[],_,_,t=>.inr rfl
 |(s,v)::r,ρ,⟨h1,h2⟩,t=>by
  rw[XT];by_cases e:t=s
  ·simp_all
  ·rw[aB e];exact G6.le h2 t
end
end Go.Ah
end
section
namespace Go.Ah
inductive RV where
 |t (n:Nat)
 |c (s:Nat) (agg:Bool) (n:Nat)
 deriving Inhabited
structure vz where
 np:Nat
 n:Nat
 body:dB
 gP:List RV
 deriving Inhabited
inductive sZ (P:Program):ResultVar→RV→Prop
 |tmp (t:Nat):sZ P (.tmp t) (.t t)
 |cell (s:Nat) (t:TypeId) (agg:Bool) (n:Nat):fV P t=some agg→size? P t=some n→sZ P (.cell s t) (.c s agg n)
structure mL (P:Program) (GL:aw) (f:FuncId) (F:vz):Prop where
 ok:∃fn c,P.funcs[f]?=some fn∧fn.body=some c∧fn.ntmps=F.n∧cG P GL F.n c F.body∧lX (sZ P) fn.results.toList F.gP
 np:F.np<=F.n
def sy(ρ:Frame)(σ:List ab):RV→Option aa
 |.t n=>some (bN ρ n)
 |.c s agg n=>match bN ρ s with
  |.ak b j=>match ai σ b with
   |.box row=>aK agg j n row
   |_=>none
  |_=>none
def pe(ρ:Frame)(σ:List ab):List RV→Option (List aa)
 |[]=>some []
 |r::rs=>match sy ρ σ r,pe ρ σ rs with
  |some v,some vs=>some (v::vs)
  |_,_=>none
def pY:List aa→aa
 |[v]=>v
 |vs=>.bp vs
def iK(rs:List RV)(ρ:Frame)(σ:List ab):Option aa:=
 match pe ρ σ rs with
 |some vs=>some (pY vs)
 |none=>none
def I9:Nat→List aa→Frame
 |_,[]=>[]
 |i,x::xs=>(i,x)::I9 (i+1) xs
def eQ(xs:List aa):Frame:=I9 0 xs
theorem ZaE:∀(xs:List aa) (i t:Nat),bN (I9 i xs) t=if i<=t then (xs[t-i]?).getD .aQ else .aQ
 |[],i,t=>by simp[I9,bN]
 |x::xs,i,t=>by
  simp only[I9,XT];by_cases h:t=i
  ·subst h;simp
  ·rw[aB h,ZaE xs (i+1) t]
   grind
section
variable {P:Program} {GL:aw}
variable{xs:List aa}
theorem Y5{g:Gm}{vs:List Value}(d:dR g xs vs){n:Nat}(hn:xs.length<=n):cX n g (eQ xs) { tmps:=vs.toArray++zBp (n-vs.toArray.size) undef,defers:=[] }:=by
 have hl:=d.length;refine⟨by simp;omega,λt=>?_,rfl⟩;unfold eQ;rw[ZaE];rw[aI (zAZ t),Nat.sub_zero];by_cases ht:t<xs.length
 ·have hx:xs[t]?=some xs[t]:=by simp[ht]
  have hv:vs[t]?=some (vs[t]'(by omega)):=by simp[show t<vs.length by omega]
  rw[hx];have:(vs.toArray++zBp (n-vs.toArray.size) undef).getD t undef=vs[t]'(by omega):=by
   rw[zBU,Array.getElem?_append_left (by grind)];simp[show t<vs.length by omega]
  rw[this];exact d.get t _ _ hx hv
 ·rw[zCd (by omega)];exact .aQ _ _
def H9(a:Act)(r:ResultVar):Sem Value:=match r with
 |.tmp t=>pure (a.tmps.getD t undef)
 |.cell s t=>do loadVar t (←asAddr (a.tmps.getD s undef))
theorem Xdy{n:Nat}{w0:World}{L:Ln}{g:Gm}{ρ:Frame}{σ:List ab}{a:Act}{w:World}(r:bx GL w0 L g (hp σ) w)(d:cX n g ρ a):∀ {rs:List ResultVar} {qs:List RV} {vs:List aa},lX (sZ P) rs qs→pe ρ σ qs=some vs →
  ∃us:List Value,(rs.mapM (H9 a)).run P w=.ok us w∧dR g vs us
 |[],[],vs,_,h=>by simp only[pe]at h;cases h;exact⟨[],rfl,trivial⟩
 |rv::rs,q::qs,vs,⟨h1,h2⟩,h=>by
  simp only[pe]at h;cases e1:sy ρ σ q with
  |none=>simp[e1]at h
  |some v=>
   cases e2:pe ρ σ qs with
   |none=>simp[e1,e2]at h
   |some M9=>
    simp only[e1,e2]at h;cases h;obtain⟨us,k1,k2⟩:=Xdy r d h2 e2;cases h1 with
    |tmp t=>
     simp only[sy]at e1;cases e1;refine⟨a.tmps.getD t undef::us,?_,d.slot t,k2⟩;simp_all [H9]
    |cell s t agg m ha hm=>
     simp only[sy]at e1;have hs:=d.slot s;split at e1
     ·rename_i b j hb;rw[hb]at hs;split at e1
      ·rename_i row ee;have cj:=ZR ee;generalize hu:a.tmps.getD s undef=u0 at hs;cases hs with
       |ak _ _ _ cb ec=>
       cases b_:cb.cR with
       |true=>have:=r.bn b _ cb cj rfl ec b_;cases this
       |false=>
       obtain⟨_,_,o',fR,arr,T,rfl,eN,c_⟩:=r.own b _ cb cj rfl ec b_;obtain⟨p1,p2⟩:=IK (g:=g) e1 (by omega) c_;obtain⟨l1,l2⟩:=Rt (P:=P) ha hm (T:=T) (fr:=(0,0)) (X6 fR) j;have:∃u,(loadVar t ⟨cb.blk,j,none⟩).run P w=.ok u w∧g.den v u:=by
        cases agg<;>grind
       obtain⟨u,q1,q2⟩:=this;refine⟨u::us,?_,q2,k2⟩;simp_all [H9,asAddr]
      ·cases e1
     ·cases e1
theorem GV{n:Nat}{w0:World}{L:Ln}{g:Gm}{ρ:Frame}{σ:List ab}{a:Act}{w:World}(r:bx GL w0 L g (hp σ) w)(d:cX n g ρ a){fn:Func}{qs:List RV}{v:aa}(h:lX (sZ P) fn.results.toList qs)(hv:iK qs ρ σ=some v) :
  ∃u,(results fn a.tmps).run P w=.ok u w∧g.den v u:=by
 unfold iK at hv;cases hl:pe ρ σ qs with
 |none=>simp[hl]at hv
 |some vs=>
  simp only[hl]at hv;cases hv;obtain⟨us,k1,k2⟩:=Xdy (P:=P) r d h hl;have hm:(fn.results.mapM (H9 a)).run P w=.ok us.toArray w:=by
   simp_all [Array.mapM_eq_mapM_toList]
  have hlen:=k2.length;refine⟨if h:us.toArray.size=1 then us.toArray[0]else .tuple us.toArray,?_,?_⟩
  ·unfold results;rw[OF];refine Eq.trans (congrArg (λr=>Result.andThen r _) (Eq.trans (?_:_=(fn.results.mapM (H9 a)).run P w) hm)) rfl
   congr 2
  ·cases vs with
   |nil=>
    have:us=[]:=zAc.1 (by simpa using hlen.symm);subst this;exact .bp _ _ _ rfl (by simp)
   |cons x xs=>
    cases us with
    |nil=>simp at hlen
    |cons u us=>
     cases xs with
     |nil=>
      have:us=[]:=zAc.1 (by simpa using hlen.symm);subst this;exact k2.1
     |cons y ys=>
      rw[dif_neg (by grind)];exact .bp _ _ _ (by simpa using hlen.symm) (λi z z' e1 e2=>k2.get i z z' e1 (by simpa using e2))
theorem Xa5{f:FuncId}{F:vz}(ok:mL P GL f F)(hn:xs.length=F.np){v:aa}(hv:v.ro=true)
 (h:iX P GL F.n F.body (eQ xs) [] (λe ρ σ=>(e=.normal∨e=.ret)∧iK F.gP ρ σ=some v)):di P GL f xs v:=by
 intro w M vs hM hg hx;obtain⟨fn,c,h1,h2,h3,h4,h5⟩:=ok.ok;have r0:=bx.start (GL:=GL) w M hM hg;have hh:hp []=pb:=by funext b;simp[hp,pb]
 rw[←hh]at r0;have d0:=Y5 hx (n:=F.n) (by rw[hn];exact ok.np);refine calls_of_wp h1 h2 ?_;rw[h3];refine wp_mono (h c h4 w ⟨[],M⟩ _ _ w r0 d0) (λe a' w' hl=>?_);have fin:∀g' ρ σ,(⟨M,bA⟩:Gm).Le g'→bx GL w ⟨[],M⟩ g' (hp σ) w'→cX F.n g' ρ a'→iK F.gP ρ σ=some v→∃u,(results fn a'.tmps).run P w'=.ok u w'∧(∃u',zCV u=.returned u'∧jg ⟨[],M⟩ w w'∧∃M',i9 M M'∧(∀b o,M' b=some o→w'.heap[b]?=some o)∧(∀b o,M' b=some o→M b=some o∨w.heap.size<=b)∧Den M' bA v u'):=by
  intro g' ρ σ hle hr hd oU;obtain⟨u,k1,k2⟩:=GV hr hd h5 oU;exact⟨u,k1,u,rfl,hr.keeps,g'.M,hle.m,hr.aZ,λb o e=>by
   rcases hr.src b o e with q | q | q <;> simp_all,Den.ro k2 hv _⟩
 cases e with
 |normal=>obtain⟨g',ρ,σ,k1,k2,k3,k4⟩:=hl;exact⟨k3.defers,fin g' ρ σ k1 k2 k3 k4.2⟩
 |ret=>obtain⟨g',ρ,σ,k1,k2,k3,k4⟩:=hl;exact⟨k3.defers,fin g' ρ σ k1 k2 k3 k4.2⟩
 |exit id=>obtain⟨g',ρ,σ,k1,k2,k3,k4⟩:=hl;rcases k4.1 with q|q<;>cases q
 |_=>exact hl.elim
theorem S7{f:FuncId}{F:vz}(ok:mL P GL f F)(hn:xs.length=F.np){σ:List ab}{R:KT}
 (h:iX P GL F.n F.body (eQ xs) σ (λe ρ σ'=>(e=.normal∨e=.ret)∧∃v,iK F.gP ρ σ'=some v∧R v σ')) :
  ∀(w0:World) (L:Ln) (g:Gm) (w:World) (vs:List Value),bx GL w0 L g (hp σ) w→dR g xs vs→Calls P f vs.toArray w λe ym=>∃u,e=.returned u∧∃g' x σ',R x σ'∧g.Le g'∧bx GL w0 L g' (hp σ') ym∧g'.den x u:=by
 intro w0 L g w vs r hx;obtain⟨fn,c,h1,h2,h3,h4,h5⟩:=ok.ok;have d0:=Y5 hx (n:=F.n) (by rw[hn];exact ok.np);refine calls_of_wp h1 h2 ?_;rw[h3];refine wp_mono (h c h4 w0 L g _ w r d0) (λe a' w' hl=>?_);have fin:∀g' ρ σ',g.Le g'→bx GL w0 L g' (hp σ') w'→cX F.n g' ρ a'→(∃v,iK F.gP ρ σ'=some v∧R v σ')→∃u,(results fn a'.tmps).run P w'=.ok u w'∧(∃u',zCV u=.returned u'∧∃g' x σ',R x σ'∧g.Le g'∧bx GL w0 L g' (hp σ') w'∧g'.den x u'):=by
  rintro g' ρ σ' hle hr hd ⟨v,oU,hR⟩;obtain⟨u,k1,k2⟩:=GV hr hd h5 oU
  grind
 cases e with
 |normal=>obtain⟨g',ρ,σ',k1,k2,k3,k4⟩:=hl;exact⟨k3.defers,fin g' ρ σ' k1 k2 k3 k4.2⟩
 |ret=>obtain⟨g',ρ,σ',k1,k2,k3,k4⟩:=hl;exact⟨k3.defers,fin g' ρ σ' k1 k2 k3 k4.2⟩
 |exit id=>obtain⟨g',ρ,σ',k1,k2,k3,k4⟩:=hl;rcases k4.1 with q|q<;>cases q
 |_=>exact hl.elim
end
end Go.Ah
end
section
namespace Go.Ah
section
variable {P:Program} {GL:aw}
variable{b sz p n:Nat}
variable{h:Hp}
variable{L:Ln}
variable{w0 w:World}
variable{rs ys:List (List aa)}
variable{g:Gm}
theorem bx.jL(r:bx GL w0 L g h w)(hb:h b=some (.rows sz rs))(k:Nat):bx GL w0 L g (eo h b (.rows sz (rs.take k))) w:=by
 have back:∀n x,eo h b (.rows sz (rs.take k)) n=some x→x.live=true→∃y,h n=some y∧y.live=true:=by
  intro n x en jr;by_cases hn:n=b
  ·subst hn;exact⟨_,hb,rfl⟩
  ·rw[Qq _ _ hn]at en;exact⟨x,en,jr⟩
 exact {
  keeps:=r.keeps
  aZ:=r.aZ
  src:=r.src
  cr:=r.cr
  ed:=λn en=>by
   by_cases hn:n=b
   ·subst hn;rw[Qs]at en;cases en
   ·rw[Qq _ _ hn]at en;exact r.ed n en
  jy:=λn x en=>by
   by_cases hn:n=b
   ·subst hn;exact r.jy n _ hb
   ·rw[Qq _ _ hn]at en;exact r.jy n x en
  own:=λn x cb en jr ec hv=>by
   by_cases hn:n=b
   ·subst hn;rw[Qs]at en;cases en;obtain⟨k1,k2,o,k3,k4,arr,T,k5,k6,k7,k8,k9⟩:=r.own n _ cb hb rfl ec hv;refine⟨k1,k2,o,k3,k4,arr,T,k5,k6,?_,λi row e=>?_,λi row j x v e1 e2 e3=>?_⟩
    ·refine zAX (zCq (zAE _ ?_) _) k7;simp;omega
    ·rw[zCI]at e;split at e
     ·exact k8 i row e
     ·cases e
    ·rw[zCI]at e1;split at e1
     ·exact k9 i row j x v e1 e2 e3
     ·cases e1
   ·rw[Qq _ _ hn]at en;exact r.own n x cb en jr ec hv
  bn:=λn x cb en jr ec hv=>by
   by_cases hn:n=b
   ·subst hn;rw[Qs]at en;cases en;have:=r.bn n _ cb hb rfl ec hv;cases this;simp
   ·rw[Qq _ _ hn]at en;exact r.bn n x cb en jr ec hv
  inj:=λn n' x x' sL cb2 e1 e2 l1 l2 c1 c2 v1 v2 iI=>by
   obtain⟨y1,f1,g1⟩:=back n x e1 l1;obtain⟨y2,f2,g2⟩:=back n' x' e2 l2;exact r.inj n n' y1 y2 sL cb2 f1 f2 g1 g2 c1 c2 v1 v2 iI }
def over(p:Nat)(ys rs:List (List aa)):List (List aa):=rs.take p++ys++rs.drop (p+ys.length)
theorem XcN(hp:p+ys.length<=rs.length)(i:Nat):(over p ys rs)[i]?=if p<=i∧i<p+ys.length then ys[i-p]? else rs[i]?:=by
 unfold over;by_cases h1:i<p<;>grind
theorem Xcu(hp:p+ys.length<=rs.length):(over p ys rs).length=rs.length:=by
 unfold over;simp;omega
theorem X'{newv:Array Value}(kS:n≠0)(ra:mN g n ys newv)(kR:∀row∈ys,∀x∈row,aa.cell x=true):∀u∈newv.toList,u.oneCell'=true:=by
 intro u hu;obtain⟨q,hq⟩:=zBi.1 hu;rw[zBO]at hq;have yP:q<ys.length*n:=by rw[←ra.1];grind
 have Hz:0<n:=zBq kS;have hi:q/n<ys.length:=(zCe Hz).2 yP;have rZ:ys[q/n]?=some ys[q/n]:=by simp[hi]
 have U5:=ra.2.1 _ _ rZ;have hj:q%n<ys[q/n].length:=by rw[U5];exact zDQ _ Hz
 refine Ox (kR _ (AT hi) _ (AT hj)) (ra.2.2 (q/n) _ (q%n) _ u rZ (by simp[hj]) ?_)
 grind [zDH]
variable{cb:CB}
theorem bx.sq(r:bx GL w0 L g h w){newv:Array Value}(hb:h b=some (.rows n rs))(ec:g.c b=some cb)(hv:cb.cR=false)(hp:p+ys.length<=rs.length)
 (ra:mN g n ys newv)(oR:∀u∈newv.toList,u.oneCell'=true) :
  ∃w',(storeCells ⟨cb.blk,cb.base+p*n,none⟩ newv.toList).run P w=.ok () w'∧bx GL w0 L g (eo h b (.rows n (over p ys rs))) w':=by
 obtain⟨z1,arr,T,fR,hs,lK,ee,c_⟩:=r.fT hb ec hv;obtain⟨gL,s1,s2,s3⟩:=PX (P:=P) fR newv.toList oR (j:=cb.base + p * n) (by
  intro _;rw[zAz (xs:=newv),ra.1,zBR,← zBX,hs];exact zAX (zCq (zAE n hp) _) lK)
 refine⟨_,s1,r.write hb rfl ec hv rfl (w':=w.setRow cb.blk gL) rfl rfl rfl (Oz w _ arr gL T (0,0) fR) ⟨z1,gL,T,rfl,by rw[s2,hs],by rw[Xcu hp];exact lK,λi row q=>?_,λi row j x0 u q1 q2 q3=>?_⟩⟩
 ·rw[XcN hp]at q;split at q
  ·exact ra.2.1 _ row q
  ·exact ee i row q
 ·rw[XcN hp]at q1;rw[s3,zAz (xs:=newv),ra.1]at q3;split at q1
  ·rename_i hi;have hj:j<n:=by rw[←ra.2.1 _ row q1];grind
   have h5:p*n<=i*n:=zAE n hi.1;have h6:(i-p+1)*n<=ys.length*n:=zAE n (by omega);rw[zBQ,zCn]at h6;rw[aI (by omega)]at q3;refine ra.2.2 _ row j x0 u q1 q2 ?_
   grind
  ·rename_i hi;have hj:j<n:=by grind
   refine c_ i row j x0 u q1 q2 ?_;rw[aB]at q3
   ·exact q3
   ·rintro⟨k1,k2⟩;apply hi;by_cases hip:i<p
    ·have:(i+1)*n<=p*n:=zAE n hip;rw[zBQ]at this;omega
    ·refine⟨by omega,?_⟩;by_cases uB:i<p+ys.length
     ·exact uB
     ·have:(p+ys.length)*n<=i*n:=zAE n (by omega);rw[zBX]at this;omega
theorem NZ(r:bx GL w0 L g h w){off cap:Nat}(hb:h b=some (.rows n rs))(kS:n≠0)(ec:g.c b=some cb)(hv:cb.cR=false)(h2:cb.base+(off+cap)*cb.sz=cb.vL):rs.length<=off+cap:=by
 obtain⟨z1,arr,T,fR,hs,lK,_⟩:=r.fT hb ec hv;rw[z1]at h2;rw[←h2]at lK;exact Nat.le_of_mul_le_mul_right (Nat.le_of_add_le_add_left lK) (zBq kS)
theorem WV(n by_:Nat)(z:List aa)(y:aa)(b off len:Nat)(ex:Bool)(rs ys:List (List aa))(rd:List Nat)(h0:Hp)(hb:h0 b=some (.rows n rs))(sT:fG h0 n y ys rd)
 (kR:∀row∈ys,∀x∈row,aa.cell x=true)(bH:off+len+ys.length<=rs.length) :
  aD P GL (.append n by_ z) [.sl b off len ex,y] h0 (.sl b off (len+ys.length) false) rd [(b,.rows n (over (off+len) ys rs))]:=by
 intro o os hc w0 L g h w a r hx cO gO;have cj:h b=some (.rows n rs):=by simp_all
 generalize ho:o.op=op at hc;cases hc with
 |append t t' e ox oy _ _ v _ ht Al eN sM hz sa dN lF kS=>
  obtain⟨d,hd,pU⟩:=Al;obtain⟨d1,d2,_⟩:=hx;generalize j6:a.eval ox=u1 at d1;generalize qx:a.eval oy=u2 at d2;obtain⟨p2,zG,newv,e2,f2,qH,_⟩:=ZL (P:=P) r sT cO d2;have fJ:(zCK u2).run P w=.ok ys.length w:=by rw[e2];rfl
  rw[YcK];cases d1 with
  |pg _ _ _ cb p ec hv=>
   have xv:=(r.h_ cj ec hv).2;subst xv;have sc:ys=[]:=by simpa using bH
   subst sc;have Af:newv.toList=[]:=by have:=qH.1;simp at this;simp[this]
   have bg:(zBG #[t,t'] o.type #[.slice p 0 0,u2]).run P w=.ok (.slice p 0 0) w:=by
    obtain⟨k1,k2⟩:=(QI ht hd pU eN sM hz lF (base:=p) (len:=0) (cap:=0) (newv:=newv) fJ o.type).1 (by simp) f2;cases p with
    |none=>exact k1 rfl
    |some ad=>exact k2 ad w rfl (by rw[Af];rfl)
   rw[XI ho j6 qx bg];refine⟨g,Gm.Le.refl _,?_,.pg _ _ _ cb _ ec hv⟩;have:=r.jL cj 0;exact this
  |sle _ _ _ _ cb p ec hv g1 g2=>
   have pD:=NZ (off:=off) (cap:=0) r cj kS ec hv (by simpa using g2);have sc:ys=[]:=zAc.1 (by omega);subst sc;have Af:newv.toList=[]:=by have:=qH.1;simp at this;simp[this]
   have bg:(zBG #[t,t'] o.type #[.slice p 0 0,u2]).run P w=.ok (.slice p 0 0) w:=by
    obtain⟨k1,k2⟩:=(QI ht hd pU eN sM hz lF (base:=p) (len:=0) (cap:=0) (newv:=newv) fJ o.type).1 (by simp) f2;cases p with
    |none=>exact k1 rfl
    |some ad=>exact k2 ad w rfl (by rw[Af];rfl)
   rw[XI ho j6 qx bg];refine⟨g,Gm.Le.refl _,?_,.sle _ _ _ _ cb _ ec hv g1 g2⟩;have yO:over (off+0) [] rs=rs.take rs.length:=by simp[over]
   rw[yO];exact r.jL cj rs.length
  |sl _ _ _ _ _ cb cap ec hv h1 h2 h3=>
   have pD:=NZ r cj kS ec hv h2;have z1:=(r.fT cj ec hv).1;obtain⟨w',s1,s2⟩:=r.sq (P:=P) cj ec hv bH qH (X' kS qH kR);have bg:=((QI ht hd pU eN sM hz lF (base:=some ⟨cb.blk,cb.base + off * cb.sz,none⟩) (len:=len) (cap:=cap) (newv:=newv) fJ o.type).1 (by omega) f2).2 ⟨cb.blk,cb.base + off * cb.sz,none⟩ w' rfl (by
    simp_all [ZW,zBR,zBX])
   rw[XI ho j6 qx bg];exact⟨g,Gm.Le.refl _,s2,.sl _ _ _ _ _ cb cap ec hv (by omega) h2 (by simp)⟩
theorem ZbA(n by_:Nat)(z:List aa)(y:aa)(b len:Nat)(ex:Bool)(rs ys:List (List aa))(rd:List Nat)(h0:Hp)(nb:Nat)(hn:h0 nb=none)(hb:h0 b=some (.rows n rs))(hle:len<=rs.length)(sT:fG h0 n y ys rd)(Vs:b∉rd)
 (kR:∀row∈ys,∀x∈row,aa.cell x=true)(bH:(2*(len+ys.length)+192)*by_<=2 ^ 48) :
  aD P GL (.append n by_ z) [.sl b 0 len ex,y] h0 (.sl nb 0 (len+ys.length) false) rd [(b,.dead),(nb,.rows n (rs.take len++ys))]:=by
 intro o os hc w0 L g h w a r hx cO gO;have cj:h b=some (.rows n rs):=by simp_all
 have Vd:h nb=none:=by simp_all
 have cU:nb≠b:=by grind
 have hl:(rs.take len).length=len:=by simp;omega
 have r':=r.jL cj len;have hy1:fG (eo h b (.rows n (rs.take len))) n y ys rd:=by
  cases sT with
  |row ex nn rows=>exact .row _ _ _
  |al=>exact .al
  |cY=>exact .cY
  |own b2 Wa kD ex2 rs2 mi lK=>
   have Ko:b2≠b:=by rintro rfl;simp at Vs
   exact .own _ _ _ _ _ (by simp_all [Qq]) lK
 have:=XbN (P:=P) (GL:=GL) n by_ z (.sl b 0 len ex) y (rs.take len) ys rd [(b,.dead)] (eo h b (.rows n (rs.take len))) nb (by rw[Qq _ _ cU];exact Vd) (by have:=m_.own (h0:=eo h b (.rows n (rs.take len))) (sz:=n) b 0 len ex _ (Qs _ _ _) (by rw[hl];omega);simpa using this) hy1 kR (by rw[hl];exact bH)
  o os hc w0 L g _ w a r' hx (λ_ _=>rfl) (λ_ _=>rfl)
 rw[hl]at this;have e:cz (eo h b (.rows n (rs.take len))) ([(b,.dead)]++[(nb,.rows n (rs.take len++ys))])=cz h [(b,.dead),(nb,.rows n (rs.take len++ys))]:=by
  funext q
  simp_all [cz,eo]
 rw[e]at this;exact this
theorem bx.qI(r:bx GL w0 L g h w){blk blk':ab}(hb:h b=some blk)(hl:blk.live=true)(ml:blk'.live=true)(ec:g.c b=some cb)(hv:cb.cR=false)
 (ok:∀o,iL g.M g.c cb o blk→iL g.M g.c cb o blk'):bx GL w0 L g (eo h b blk') w:=by
 obtain⟨_,_,o,ho,bR⟩:=r.own b blk cb hb hl ec hv;refine r.write hb hl ec hv ml (o':=o) rfl rfl rfl ?_ (ok o bR);refine zDs λi=>?_;by_cases hi:cb.blk=i
 ·subst hi;have:cb.blk<w.heap.size:=by grind
  grind
 ·rw[zBb hi]
theorem bx.qj(r:bx GL w0 L g h w)(hb:h b=some (.full sz rs)):∃cb,g.c b=some cb∧cb.cR=false∧cb.sz=sz∧cb.base+rs.length*sz=cb.vL:=by
 obtain⟨cb,ec⟩:=r.jy b _ hb;have hv:cb.cR=false:=by
  cases hv:cb.cR with
  |false=>rfl
  |true=>have:=r.bn b _ cb hb rfl ec hv;cases this
 obtain⟨_,_,o,_,q,z,_⟩:=r.own b _ cb hb rfl ec hv;exact⟨cb,ec,hv,z,q⟩
theorem bx.Dz(r:bx GL w0 L g h w)(hb:h b=some (.full sz rs))(k:Nat):bx GL w0 L g (eo h b (.rows sz (rs.take k))) w:=by
 obtain⟨cb,ec,hv,_⟩:=r.qj hb;refine r.qI hb rfl rfl ec hv ?_;rintro o ⟨_,h0,arr,T,h1,h2,h3,h4,h5⟩;refine⟨h0,arr,T,h1,h2,zAX (zCq (zAE _ (by simp;omega)) _) h3,λi row e=>?_,λi row j x v e1 e2 e3=>?_⟩
 ·rw[zCI]at e;grind
 ·rw[zCI]at e1;grind
theorem bx.D7(r:bx GL w0 L g h w){ex:Bool}(hb:h b=some (.rows sz rs))(xv:rs≠[]){v:Value}(hn:n=rs.length)(d:g.den (.sl b 0 n ex) v) :
  ∃m,bx GL w0 L g (eo h b (.full sz (rs++zAf m (zAf sz .aQ)))) w:=by
 cases d with
 |pg=>exact absurd (zAc.1 hn.symm) xv
 |sle=>exact absurd (zAc.1 hn.symm) xv
 |sl _ _ _ _ _ cb cap ec hv h1 h2 h3=>
  subst hn;refine⟨cap-rs.length,r.qI hb rfl rfl ec hv ?_⟩;rintro o ⟨k0,arr,T,k1,k2,k3,k4,k5⟩;have hl:(rs++zAf (cap-rs.length) (zAf sz aa.aQ)).length=cap:=by simp;omega
  have hq:cb.base+cap*sz=cb.vL:=by simp_all
  refine⟨by rw[hl];exact hq,k0,arr,T,k1,k2,by rw[hl];omega,λi row e=>?_,λi row j x v e1 e2 e3=>?_⟩
  ·rw[zDl]at e;split at e
   ·exact k4 i row e
   ·rw[zBd]at e;grind
  ·rw[zDl]at e1;split at e1
   ·exact k5 i row j x v e1 e2 e3
   ·rw[zBd]at e1;split at e1
    ·cases e1;rw[zBd]at e2;split at e2
     ·cases e2;exact .aQ _ _
     ·cases e2
    ·cases e1
theorem Out.map{h1 h2:Hp}{x:aa}{res:Result Next}(f:∀g' w',g.Le g'→bx GL w0 L g' h1 w'→bx GL w0 L g' h2 w')(q:Out P GL w0 L g h1 x res):Out P GL w0 L g h2 x res:=by
 cases res with
 |ok nx w'=>
  cases nx with
  |value u=>obtain⟨g',k1,k2,k3⟩:=q;exact⟨g',k1,f _ _ k1 k2,k3⟩
  |skip=>obtain⟨g',k1,k2,k3⟩:=q;exact⟨g',k1,f _ _ k1 k2,k3⟩
  |enter fn args=>
   refine zDO q ?_;rintro e ym ⟨u,he,g',k1,k2,k3⟩;exact⟨u,he,g',k1,f _ _ k1 k2,k3⟩
  |_=>exact q.elim
 |_=>exact q.elim
theorem fG.bU{h0:Hp}{y:aa}{rd:List Nat}(hy:fG h0 n y ys rd){m:Nat}(hb:h0 b=some (.full m rs))(cO:∀c∈rd,h c=h0 c)(x:ab):fG (eo h b x) n y ys rd:=by
 cases hy with
 |row ex nn rows=>exact .row _ _ _
 |al=>exact .al
 |cY=>exact .cY
 |own b2 Wa kD ex2 rs2 mi lK=>
  have Ko:b2≠b:=by rintro rfl;rw[hb]at mi;cases mi
  exact .own _ _ _ _ _ (by rw[Qq _ _ Ko,cO b2 (by simp)];exact mi) lK
theorem Ybu(n by_:Nat)(z:List aa)(y:aa)(b len:Nat)(ex:Bool)(rs ys:List (List aa))(rd:List Nat)(h0:Hp)(hb:h0 b=some (.full n rs))(sT:fG h0 n y ys rd)
 (kR:∀row∈ys,∀x∈row,aa.cell x=true)(bH:len+ys.length<=rs.length) :
  aD P GL (.append n by_ z) [.sl b 0 len ex,y] h0 (.sl b 0 (len+ys.length) false) rd [(b,.full n (over len ys rs))]:=by
 intro o os hc w0 L g h w a r hx cO gO;have cj:h b=some (.full n rs):=by simp_all
 obtain⟨cb,ec,hv,hz,hq⟩:=r.qj cj;have r':=r.Dz cj rs.length;rw[List.take_length]at r';have:=WV (P:=P) (GL:=GL) n by_ z y b 0 len ex rs ys rd (eo h b (.rows n rs)) (Qs _ _ _) (sT.bU hb cO _) kR (by omega) o os hc w0 L g _ w a r' hx (λ_ _=>rfl) (λ_ _=>rfl);refine this.map λg' w' hle k=>?_;have gX:=hle.c b cb ec;have k2:=k.qI (blk':=.full n (over len ys rs)) (Qs _ _ _) rfl rfl gX hv (by
  rintro o ⟨k0,arr,T,k1,k2,k3,k4,k5⟩;have hl:(over len ys rs).length=rs.length:=by simp[over];omega
  simp only[IN]at k3 k4 k5;exact⟨by rw[hl];exact hq,k0,arr,T,k1,k2,k3,k4,k5⟩)
 have e:eo (cz (eo h b (.rows n rs)) [(b,.rows n (over (0+len) ys rs))]) b (.full n (over len ys rs))=cz h [(b,.full n (over len ys rs))]:=by
  funext q
  simp[cz,eo];split<;>rfl
 rw[e]at k2;exact k2
theorem Xbu(n by_:Nat)(z:List aa)(y:aa)(b len:Nat)(ex:Bool)(rs ys:List (List aa))(rd:List Nat)(h0:Hp)(nb:Nat)(hn:h0 nb=none)(hb:h0 b=some (.full n rs))(sT:fG h0 n y ys rd)
 (kR:∀row∈ys,∀x∈row,aa.cell x=true)(hle:len<=rs.length)(aaf:rs.length<len+ys.length)(bH:(2*(len+ys.length)+192)*by_<=2 ^ 48) :
  aD P GL (.append n by_ z) [.sl b 0 len ex,y] h0 (.sl nb 0 (len+ys.length) false) (b::rd) [(nb,.rows n (rs.take len++ys))]:=by
 intro o os hc w0 L g h w a r hx cO gO;have jT:h nb=none:=by rw[gO (nb,.rows n (rs.take len++ys)) (by simp)];exact hn
 have cj:h b=some (.full n rs):=by rw[cO b (by simp)];exact hb
 have Lb:∀c∈rd,h c=h0 c:=λc hc=>cO c (by simp[hc]);obtain⟨cb,ec,hv,hzs,hq⟩:=r.qj cj;have r':=r.Dz cj len;generalize ho:o.op=op at hc;cases hc with
 |append t t' e ox oy _ _ v _ ht Al eN sM hz sa dN lF kS=>
  obtain⟨d,hd,pU⟩:=Al;obtain⟨d1,d2,_⟩:=hx;generalize j6:a.eval ox=u1 at d1;generalize qx:a.eval oy=u2 at d2;have hl:(rs.take len).length=len:=by simp;omega
  have j5:fG (eo h b (.rows n (rs.take len))) n (.sl b 0 len ex) (rs.take len) [b]:=by
   have:=fG.own (h0:=eo h b (.rows n (rs.take len))) (sz:=n) b 0 len ex _ (Qs _ _ _) (by omega)
   rwa [Qdj _ 0 len (by omega),List.drop_zero]at this
  obtain⟨p1,nD,nP,e1,f1,Cp,_⟩:=ZL (P:=P) r'.drew j5 (λ_ _=>rfl) d1;obtain⟨p2,zG,newv,e2,f2,qH,_⟩:=ZL (P:=P) r sT Lb d2;obtain⟨p2',Bv,nt,JV,J0,su,_⟩:=ZL (P:=P) r.drew sT Lb d2;have fJ:(zCK u2).run P w=.ok ys.length w:=by rw[e2];rfl
  rw[hl]at e1 f1;have pD:nD<=rs.length:=by
   rw[e1]at d1;cases d1 with
   |pg _ _ _ cb2 _ Hm Lp=>exact zAZ _
   |sle _ _ _ _ cb2 _ Hm Lp=>exact zAZ _
   |sl _ _ _ _ _ cb2 _ Hm Lp h1 h2 h3=>
    have:cb2=cb:=by rw[ec]at Hm;cases Hm;rfl
    subst this;rw[←hq,hzs]at h2;have h4:(0+nD)*n=rs.length*n:=Nat.add_left_cancel h2;have:=Nat.eq_of_mul_eq_mul_right (zBq kS) h4;omega
  obtain⟨nc,xn,bg⟩:=(QI ht hd pU eN sM hz lF (base:=p1) (len:=len) (cap:=nD) (newv:=nt) fJ o.type).2 (by omega) bH nP (by rw[←e1];exact f1) J0;rw[XI ho (by rw[j6];exact e1) qx bg];obtain⟨q1,q2⟩:=RB (c:=zAy v.cells (nc-(len+ys.length))) Cp su;obtain⟨g',UP,UQ,sP⟩:=bx.nU r.drew jT n (rs.take len++ys) (nP++nt++zAy v.cells (nc-(len+ys.length))) e (len+ys.length) nc false
   (by
     have h1:=Cp.1;rw[hl]at h1;simp only[zDy,h1,su.1,Si,sa,zCn,zBX];have:(len + ys.length) * n<=nc * n:=zAE n xn;rw[zBX]at this;omega) xn (by simp) (by rw[By,hl];exact xn) q1 q2
  exact⟨g',UP,UQ,sP⟩
theorem XdA(n:Nat)(z:List aa)(b off len:Nat)(ex:Bool)(rs:List (List aa))(h0:Hp)(hb:h0 b=some (.rows n rs))(bH:off+len<=rs.length) :
  aD P GL (.iN n z) [.sl b off len ex] h0 .aQ [] [(b,.rows n (over off (zAf len z) rs))]:=by
 intro o os hc w0 L g h w a r hx cO gO;have cj:h b=some (.rows n rs):=by simp_all
 generalize ho:o.op=op at hc;cases hc with
 |iN t e ox _ v _ he eN kS hz sa dN=>
  obtain⟨d1,_⟩:=hx;generalize j6:a.eval ox=u1 at d1;obtain⟨HE,hzd⟩:=QV (M:=g.M) (c:=g.c) dN;have aaK:z.length=n:=by rw[←HE];simpa using sa
  have qy:P.underlying t=some (.slice e):=by
   grind [fe]
  have out:∀w',(zBs #[t] o.type #[u1]).run P w=.ok (.tuple #[]) w'→(execOp a.eval o).run P w=.ok (.value (.tuple #[])) w':=by
   simp_all [execOp,resolve,invoke,builtin]
  rw[YcK];have Ag:(zAf len z).length=len:=by simp
  cases d1 with
  |pg _ _ _ cb p ec hv=>
   have xv:=(r.h_ cj ec hv).2;subst xv;rw[out w (by
    cases p <;> simp[zBs,OF,run_underlying qy])]
   exact⟨g,Gm.Le.refl _,r.jL cj 0,.aQ _ _⟩
  |sle _ _ _ _ cb p ec hv _ _=>
   rw[out w (by
    cases p <;> simp[zBs,OF,run_underlying qy])]
   refine⟨g,Gm.Le.refl _,?_,.aQ _ _⟩;have yO:over off (zAf 0 z) rs=rs.take rs.length:=by simp[over]
   rw[yO];exact r.jL cj rs.length
  |sl _ _ _ _ _ cb cap ec hv h1 h2 h3=>
   have z1:=(r.fT cj ec hv).1;have hv0:v.cells.size≠0:=by rw[sa];exact kS
   have ra:mN g n (zAf len z) (zAy v.cells len):=by
    refine⟨by rw[Si,sa,Ag],λi row q=>?_,λi row j x u q1 q2 q3=>?_⟩
    ·grind
    ·rw[zBd]at q1;split at q1
     ·rename_i hi;cases q1;have hj:j<n:=by grind
      have cc:i*n+j<len*n:=by
       have:(i+1)*n<=len*n:=zAE n hi;rw[zBQ]at this;omega
      have aaA:(i*n+j)%n=j:=by simp_all [zCT]
      have hq:(zAy v.cells len)[i*n+j]?=v.cells[j]?:=by
       simp_all [zAy]
      rw[hq]at q3;exact hzd j x u q2 (by simpa using q3)
     ·cases q1
   have hcz:=Nr dN;obtain⟨w',s1,s2⟩:=r.sq (P:=P) cj ec hv (p:=off) (ys:=zAf len z) (by rw[Ag];exact bH) ra (X' kS ra (λrow ee x hx=>by
    simp_all))
   by_cases uE:len=0
   ·subst uE;rw[out w (by simp_all [zBs,run_underlying])];refine⟨g,Gm.Le.refl _,?_,.aQ _ _⟩;have yO:over off (zAf 0 z) rs=rs.take rs.length:=by
     simp[over]
    rw[yO];exact r.jL cj rs.length
   ·rw[out w' (by
     cases len with
     |zero=>exact(uE rfl).elim
     |succ len=>
      rw[z1];simp only[zBs,OF,zAA,AS];simp_all [run_underlying,A8])]
    exact⟨g,Gm.Le.refl _,s2,.aQ _ _⟩
theorem RA(n:Nat)(z:List aa)(x:aa)(h0:Hp)(sS:x=.al∨x=.cY∨∃e nn sz,x=.aW e nn sz []):aD P GL (.iN n z) [x] h0 .aQ [] []:=by
 intro o os hc w0 L g h w a r hx cO gO;generalize ho:o.op=op at hc;cases hc with
 |iN t e ox _ v _ he eN kS hz sa dN=>
  obtain⟨d1,_⟩:=hx;generalize j6:a.eval ox=u1 at d1;have qy:P.underlying t=some (.slice e):=by
   grind [fe]
  have Py:∃p cap,u1=.slice p 0 cap:=by
   rcases sS with rfl|rfl|⟨_,_,_,rfl⟩
   ·cases d1;exact⟨_,_,rfl⟩
   ·cases d1;exact⟨_,_,rfl⟩
   ·cases d1;exact⟨_,_,rfl⟩
  obtain⟨p,cap,rfl⟩:=Py;have bg:(execOp a.eval o).run P w=.ok (.value (.tuple #[])) w:=by
   simp only[execOp,ho,resolve,OF,zAA,AS,invoke,builtin];cases p<;>simp[j6,zBs,OF,run_underlying qy]
  rw[bg];exact Out.here r (.aQ _ _)
end
end Go.Ah
end
