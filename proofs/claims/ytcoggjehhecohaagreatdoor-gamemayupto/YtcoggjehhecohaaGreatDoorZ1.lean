/- Part of the proof of GameMay, for arguments of at most 1048576 values and letters together. -/
import Derived.WalkKit
import Derived.IntWalk
import Derived.ChangeKeysEq
import Derived.Deep.LoopGhost
set_option linter.all false
open Array renaming ext_getElem?->GP,getD_eq_getD_getElem?->EP,getElem?_eq_getElem->D2,getElem?_eq_some_iff->E1,getElem?_setIfInBounds_ne->EF,getElem?_toList->EI,getElem_extract->FM,length_toList->DU,range->Fe,replicate->FB,size_append->Hz,toArray_toList->FR,toList_map->E3
open Bool renaming and_eq_true->AA,false_eq_true->B8,not_false->Ej
open Function renaming comp_def->F8
open Go.Act renaming put->HG
open Go.Addr renaming add->ID
open Go.Builtin renaming append_->D5,clear_->FH,firstCells->D0,lenOf->Fb,len_->FT,nextslicecap->Fw,zeroCells->DT
open Go.ByteArray renaming toList_eq->Fv
open Go.Calls renaming mono->Gz
open Go.Deferred renaming ofValue->GA
open Go.Ending renaming returned->Fm
open Go.Instr renaming buildSlice->Fg,checkKey->LG,fill->Gs,findKey->LY,findNow->EO,index->MQ,indexAt->G6,keyThatStays->Hr,loadAt->Fl,lookup->HF,makeSlice->I0,mapUpdate->Gj,next->Gq,sameBits->F4,sameNow->G3,slice->Gi,sliceAt->HD,sliceBound->IP,sliceBounds->B6,storeAt->LU,sureAddr->ET,typeAssert->EB
open Go.IntKind renaming i64->AF
open Go.IntWalk renaming i64_in->Bb
open Go.Made renaming depth->Mo
open Go.Op renaming eqFields->Mv,equal->MD,equalIn->Fx,intArith->Mu,intDiv->Hc,stringOp->Ht,unary->MC
open Go.Program renaming built->IS
open Go.Region renaming wanted->GB
open Go.Result renaming andThen_ok->AE
open Go.Sem renaming run->Ft,run_bind->AS,run_ite->Hm,run_pure->Ak
open Go.Utf8 renaming decode->EY
open Go.Value renaming iface->FO,oneCell'->Kv
open Int renaming ofNat->Mz
open List renaming append_assoc->Cp,getElem?_append->Hj,getElem?_append_left->Bi,getElem?_append_right->Bc,getElem?_cons_succ->Fi,getElem?_cons_zero->Fh,getElem?_drop->GN,getElem?_eq_none->Fy,getElem?_replicate->Ea,getElem?_take->Fa,getElem?_take_of_lt->G9,getElem?_toArray->EU,getElem_mem->AI,length_append->AT,length_cons->A1,length_drop->Gg,length_eq_zero_iff->Ck,map_cons->B7,map_map->E5,mem_cons_of_mem->DI,mem_iff_getElem?->Et,mem_of_getElem?->Au,range->Ao,range'->ED,range'_succ->Gk,replicate->CD,size_toArray->II
open List.cons renaming injEq->Fc
open Nat renaming add_assoc->EG,add_le_add_left->GH,add_mul->EW,add_zero->FF,beq->AJ,beq_refl->EK,ble->BY,blt->C3,div_add_mod->Gp,div_lt_iff_lt_mul->F3,le_of_eq->Me,le_refl->AO,le_trans->CI,mod_eq_of_lt->Fk,mod_lt->G2,mul_le_mul_right->Av,pos_of_ne_zero->FE,sub_mul->GD,succ_mul->EN,zero_add->Al,zero_le->Bf,zero_mul->He
open Option renaming getD_some->Cw,isSome_iff_exists->An,map_none->Gd
open Option.some renaming inj->GC,injEq->E7
section
theorem cE(b:Bool):b=true\/b=false:=Bool.eq_false_or_eq_true b
theorem eS{b:Type}{l:List b}{i:Nat}{a:b}:l[i]?=some a->∃h:i<l.length,l[i]=a:=List.getElem?_eq_some_iff.1
theorem fK{n m:Nat}:AJ n m=true->n=m:=Nat.eq_of_beq_eq_true
theorem iq{n m:Nat}:BY n m=true->n<=m:=Nat.le_of_ble_eq_true
theorem aB{c:Prop}{h:Decidable c}(b:¬c){d:Sort _}{t e:d}:ite c t e=e:=if_neg b
theorem aE{c:Prop}{h:Decidable c}(hc:c){b:Sort _}{t e:b}:ite c t e=t:=if_pos hc
theorem fe{p:Prop}[Decidable p]:(decide p=true)=p:=decide_eq_true_eq
theorem gA{p:Prop}[inst:Decidable p]:p->decide p=true:=decide_eq_true
theorem i7{p:Prop}[inst:Decidable p]:¬p->decide p=false:=decide_eq_false
theorem pI{p:Prop}{h:Decidable p}:(decide p=false)↔¬p:=decide_eq_false_iff_not
theorem gB{b:Type}{i:Nat}{l:List b}(h:i<l.length):l.drop i=l[i]::l.drop (i+1):=List.drop_eq_getElem_cons h
namespace Go.Ah
open Go.RowKit (Below)
inductive I where
 |aP
 |bool (b:Bool)
 |int (k:IntKind) (n:Int)
 |str (s:List UInt8)
 |dq
 |ak (b j:Nat)
 |ptr (b i j:Nat)
 |al (row:List I) (j:Nat)
 |aq
 |cX
 |sl (b off len:Nat) (ex:Bool)
 |aX (ex nn:Bool) (sz:Nat) (rows:List (List I))
 |map (b:Nat)
 |fI (es:List (I×I))
 |cG
 |func (fn:Fn) (first captured:List I)
 |bH
 |iface (t:TypeId) (v:I)
 |dp
 |agg (cs:List I)
 |bw (vs:List I)
 |when (cs:List (Bool×Bool)) (x:I)
 |iter (b:Nat)
 deriving Inhabited
structure CB where
 aD:Nat
 sz:Nat
 wx:Nat
 cI:Bool
 base:Nat
def iS(M:Nat->Option Obj)(b o:Nat):Option Value:=
 match M b with
 |some (.cells c _ _)=>c[o]?
 |_=>none
abbrev Own:=Nat->Option CB
def bE:Own:=λ_=>none
inductive Den (M:Nat->Option Obj):Own->I->Value->Prop
 |aP (c:Own) (v:Value):Den M c .aP v
 |bool (c:Own) (b:Bool):Den M c (.bool b) (.bool b)
 |int (c:Own) (k:IntKind) (n:Int):Den M c (.int k n) (.int k n)
 |str (c:Own) (s:ByteArray):Den M c (.str s.data.toList) (.string s)
 |dq (c:Own):Den M c .dq (.pointer none)
 |ak (c:Own) (b j:Nat) (cb:CB):c b=some cb->Den M c (.ak b j) (.pointer (some ⟨cb.aD,j,none⟩))
 |ptr (c:Own) (b i j:Nat) (cb:CB):c b=some cb->Den M c (.ptr b i j) (.pointer (some ⟨cb.aD,cb.base+i*cb.sz+j,none⟩))
 |al (c:Own) (row:List I) (j aD off:Nat) (f:Nat->Value) :
   (∀k,k<row.length->iS M aD (off+k)=some (f k)) ->
   (∀k x,row[k]?=some x->Den M bE x (f k)) ->
   Den M c (.al row j) (.pointer (some ⟨aD,off+j,none⟩))
 |aq (c:Own):Den M c .aq (.slice none 0 0)
 |cX (c:Own) (a:Option Addr):Den M c .cX (.slice a 0 0)
 |sl (c:Own) (b off len:Nat) (ex:Bool) (cb:CB) (cap:Nat):c b=some cb->cb.cI=false->len<=cap->cb.base+(off+cap)*cb.sz=cb.wx ->
   (ex=true->cap=len)->Den M c (.sl b off len ex) (.slice (some ⟨cb.aD,cb.base+off*cb.sz,none⟩) len cap)
 |n9 (c:Own) (b:Nat) (ex:Bool) (cb:CB) (a:Option Addr):c b=some cb->cb.cI=true->Den M c (.sl b 0 0 ex) (.slice a 0 0)
 |sle (c:Own) (b off:Nat) (ex:Bool) (cb:CB) (a:Option Addr):c b=some cb->cb.cI=false->cb.sz≠0->cb.base+off*cb.sz=cb.wx->Den M c (.sl b off 0 ex) (.slice a 0 0)
 |aX (c:Own) (ex nn:Bool) (sz:Nat) (rows:List (List I)) (a:Option Addr) (cap aD off:Nat) (f:Nat->Nat->Value) :
   (ex=true->cap=rows.length)->(nn=true->a.isSome=true)->(rows≠[]->a=some ⟨aD,off,none⟩)->(a=none->cap=0)->rows.length<=cap ->
   (∀(i:Nat) (row:List I),rows[i]?=some row->row.length=sz) ->
   (∀i j,i<rows.length->j<sz->iS M aD (off+(i*sz+j))=some (f i j)) ->
   (∀i row j x,rows[i]?=some row->row[j]?=some x->Den M bE x (f i j)) ->
   Den M c (.aX ex nn sz rows) (.slice a rows.length cap)
 |map (c:Own) (b:Nat) (cb:CB):c b=some cb->Den M c (.map b) (.map (some cb.aD))
 |fI (c:Own) (es:List (I×I)) (aD:Nat) (arr:Array MapEntry) (clock:Nat):M aD=some (.map arr clock)->arr.size=es.length ->
   (∀(i:Nat) (k x:I) (e:MapEntry),es[i]?=some (k,x)->arr[i]?=some e->Den M bE k e.key) ->
   (∀(i:Nat) (k x:I) (e:MapEntry),es[i]?=some (k,x)->arr[i]?=some e->Den M bE x e.val) ->
   Den M c (.fI es) (.map (some aD))
 |cG (c:Own):Den M c .cG (.map none)
 |func (c:Own) (fn:Fn) (first captured:List I) (vs ws:Array Value):vs.size=first.length->ws.size=captured.length ->
   (∀(i:Nat) (x:I) (v:Value),first[i]?=some x->vs[i]?=some v->Den M c x v)->(∀(i:Nat) (x:I) (v:Value),captured[i]?=some x->ws[i]?=some v->Den M c x v) ->
   Den M c (.func fn first captured) (.func fn vs ws)
 |bH (c:Own):Den M c .bH .nilFunc
 |iface (c:Own) (t:TypeId) (x:I) (v:Value):Den M c x v->Den M c (.iface t x) (.iface t v)
 |dp (c:Own):Den M c .dp .nilIface
 |agg (c:Own) (cs:List I) (vs:Array Value):vs.size=cs.length->(∀(i:Nat) (x:I) (v:Value),cs[i]?=some x->vs[i]?=some v->Den M c x v)->Den M c (.agg cs) (.agg vs)
 |bw (c:Own) (cs:List I) (vs:Array Value):vs.size=cs.length->(∀(i:Nat) (x:I) (v:Value),cs[i]?=some x->vs[i]?=some v->Den M c x v)->Den M c (.bw cs) (.tuple vs)
 |when (c:Own) (cs:List (Bool×Bool)) (x:I) (v:Value):((∀p∈cs,p.1=p.2)->Den M c x v)->(¬(∀p∈cs,p.1=p.2)->v=undef)->Den M c (.when cs x) v
 |iter (c:Own) (b:Nat) (cb:CB):c b=some cb->Den M c (.iter b) (.pointer (some ⟨cb.aD,0,none⟩))
def iJ(M M':Nat->Option Obj):Prop:=∀b o,M b=some o->M' b=some o
def fW(c c':Own):Prop:=∀b d,c b=some d->c' b=some d
theorem iJ.refl(M:Nat->Option Obj):iJ M M:=λ_ _ h=>h
theorem iJ.trans{a b c:Nat->Option Obj}(h:iJ a b)(k:iJ b c):iJ a c:=λx o e=>k x o (h x o e)
theorem fW.refl(c:Own):fW c c:=λ_ _ h=>h
variable{c:Own}
theorem fW.trans{a b:Own}(h:fW a b)(k:fW b c):fW a c:=λx o e=>k x o (h x o e)
theorem fW.bE(c:Own):fW bE c:=λ_ _ h=>by simp[Ah.bE]at h
variable{v:Value}
variable{M M':Nat->Option Obj}
theorem XbN(h:iJ M M'){b o:Nat}(e:iS M b o=some v):iS M' b o=some v:=by
 unfold iS at *;cases hb:M b with
 |none=>simp[hb]at e
 |some x=>rw[h b x hb];simpa[hb]using e
variable{x:I}
theorem Den.mono(hM:iJ M M')(h:Den M c x v):∀ {c':Own},fW c c'->Den M' c' x v:=by
 induction h with
 |aP=>intros;exact .aP _ _
 |bool=>intros;exact .bool _ _
 |int=>intros;exact .int _ _ _
 |str=>intros;exact .str _ _
 |dq=>intros;exact .dq _
 |ak c b j s e=>intro c' d;exact .ak _ _ _ _ (d _ _ e)
 |ptr c b i j s e=>intro c' d;exact .ptr _ _ _ _ _ (d _ _ e)
 |al c row j aD off f h1 h2 r=>intro c' d;exact .al _ _ _ _ _ f (λk B=>XbN hM (h1 k B)) (λk x e=>r k x e (fW.refl _))
 |aq=>intros;exact .aq _
 |cX=>intros;exact .cX _ _
 |sl c b off len ex s cap e h1 h2 h3 h4=>intro c' d;exact .sl _ _ _ _ _ _ _ (d _ _ e) h1 h2 h3 h4
 |n9 c b ex s a e h1=>intro c' d;exact .n9 _ _ _ _ _ (d _ _ e) h1
 |sle c b off ex s a e h1 h2 h3=>intro c' d;exact .sle _ _ _ _ _ _ (d _ _ e) h1 h2 h3
 |aX c ex G sz rows a cap aD off f h1 h2 h3 C h4 h5 h6 h7 r=>
  intro c' d;exact .aX _ _ _ _ _ _ _ aD off f h1 h2 h3 C h4 h5 (λi j D E=>XbN hM (h6 i j D E)) (λi row j x o p=>r i row j x o p (fW.refl _))
 |map c b s e=>intro c' d;exact .map _ _ _ (d _ _ e)
 |fI c es aD arr clock e h1 h2 h3 w y=>
  intro c' d;exact .fI _ _ _ _ _ (hM _ _ e) h1 (λi k x z o p=>w i k x z o p (fW.refl _)) (λi k x z o p=>y i k x z o p (fW.refl _))
 |cG=>intros;exact .cG _
 |func c fn first captured A ws h1 h2 h3 h4 w y=>
  intro c' d;exact .func _ _ _ _ _ _ h1 h2 (λi x v o p=>w i x v o p d) (λi x v o p=>y i x v o p d)
 |bH=>intros;exact .bH _
 |iface c t x v h r=>intro c' d;exact .iface _ _ _ _ (r d)
 |dp=>intros;exact .dp _
 |agg c cs A h1 h2 r=>intro c' d;exact .agg _ _ _ h1 (λi x v o p=>r i x v o p d)
 |bw c cs A h1 h2 r=>intro c' d;exact .bw _ _ _ h1 (λi x v o p=>r i x v o p d)
 |when c cs x v h h2 r=>intro c' d;exact .when _ _ _ _ (λF=>r F d) h2
 |iter c b s e=>intro c' d;exact .iter _ _ _ (d _ _ e)
def I.cell:I->Bool
 |.aP | .agg _ | .bw _ | .when ..=>false
 |_=>true
theorem Den.u9(h:Den M c x v)(hx:x.cell=true):v.oneCell'=true:=by
 cases h<;>simp_all [I.cell,Kv]
inductive U where
 |dead
 |box (row:List I)
 |rows (sz:Nat) (rows:List (List I))
 |map (es:List (I×I))
 |fo (s:List UInt8) (pos:Nat)
 |full (sz:Nat) (rows:List (List I))
 deriving Inhabited
def U.live:U->Bool
 |.dead=>false
 |_=>true
def iL(M:Nat->Option Obj)(c:Own)(cb:CB)(o:Obj):U->Prop
 |.dead=>True
 |.box row=>∃arr T,o=.cells arr T (0,0)/\arr.size=row.length/\∀(j:Nat) (x:I) (v:Value),row[j]?=some x->arr[j]?=some v->Den M c x v
 |.rows sz rows=>cb.sz=sz/\∃arr T,o=.cells arr T (0,0)/\arr.size=cb.wx/\cb.base+rows.length*sz<=cb.wx/\(∀(i:Nat) (row:List I),rows[i]?=some row->row.length=sz) /\
   ∀(i:Nat) (row:List I) (j:Nat) (x:I) (v:Value),rows[i]?=some row->row[j]?=some x->arr[cb.base+i*sz+j]?=some v->Den M c x v
 |.map es=>∃arr clock,o=.map arr clock/\arr.size=es.length/\(∀(i:Nat) (k x:I) (e:MapEntry),es[i]?=some (k,x)->arr[i]?=some e->Den M c k e.key/\Den M c x e.val)
 |.fo s p=>o=.stringIter ⟨s.toArray⟩ p
 |.full sz rows=>cb.base+rows.length*sz=cb.wx/\cb.sz=sz/\∃arr T,o=.cells arr T (0,0)/\arr.size=cb.wx/\cb.base+rows.length*sz<=cb.wx/\(∀(i:Nat) (row:List I),rows[i]?=some row->row.length=sz) /\
   ∀(i:Nat) (row:List I) (j:Nat) (x:I) (v:Value),rows[i]?=some row->row[j]?=some x->arr[cb.base+i*sz+j]?=some v->Den M c x v
theorem iL.mono(hM:iJ M M'){c':Own}(hc:fW c c'){cb:CB}{o:Obj}{b:U}(h:iL M c cb o b):iL M' c' cb o b:=by
 cases b with
 |dead=>trivial
 |box row=>obtain⟨arr,T,h1,h2,h3⟩:=h;exact⟨arr,T,h1,h2,λj x v d f=>(h3 j x v d f).mono hM hc⟩
 |rows sz rows=>obtain⟨h0,arr,T,h1,h2,h3,h4,h5⟩:=h;exact⟨h0,arr,T,h1,h2,h3,h4,λi row j x v d f e3=>(h5 i row j x v d f e3).mono hM hc⟩
 |map es=>obtain⟨arr,clock,h1,h2,h3⟩:=h;exact⟨arr,clock,h1,h2,λi k x e d f=>⟨(h3 i k x e d f).1.mono hM hc,(h3 i k x e d f).2.mono hM hc⟩⟩
 |fo s p=>exact h
 |full sz rows=>obtain⟨hq,h0,arr,T,h1,h2,h3,h4,h5⟩:=h;exact⟨hq,h0,arr,T,h1,h2,h3,h4,λi row j x v d f e3=>(h5 i row j x v d f e3).mono hM hc⟩
structure Ln where
 l:List Nat
 M0:Nat->Option Obj
structure i6 (L:Ln) (w w':World):Prop where
 os:w'.os=w.os
 tape:w'.tape=w.tape
 output:w'.output=w.output
 size:w.heap.size<=w'.heap.size
 block:∀k,k<w.heap.size->k∉L.l->w'.heap[k]?=w.heap[k]?
theorem i6.refl(L:Ln)(w:World):i6 L w w:=⟨rfl,rfl,rfl,AO _,λ_ _ _=>rfl⟩
theorem i6.below{w w':World}(h:i6 ⟨[],M⟩ w w'):Below w.heap.size w w':=⟨h.os,h.tape,h.output,h.size,λk b=>h.block k b (by simp)⟩
abbrev Hp:=Nat->Option U
def dQ(h:Hp)(b:Nat)(x:U):Hp:=λn=>if n=b then some x else h n
def cx(h:Hp):List (Nat×U)->Hp
 |[]=>h
 |(b,x)::r=>cx (dQ h b x) r
structure Gm where
 M:Nat->Option Obj
 c:Own
structure Gm.Le (g g':Gm):Prop where
 m:iJ g.M g'.M
 c:fW g.c g'.c
theorem Gm.Le.refl(g:Gm):g.Le g:=⟨iJ.refl _,fW.refl _⟩
theorem Gm.Le.trans{a b c:Gm}(h:a.Le b)(k:b.Le c):a.Le c:=⟨h.m.trans k.m,h.c.trans k.c⟩
def Gm.den(g:Gm)(x:I)(v:Value):Prop:=Den g.M g.c x v
theorem Gm.mD{g b:Gm}(h:g.Le b)(d:g.den x v):b.den x v:=Den.mono h.m d h.c
abbrev aw:=List (Nat×List I)
structure bu (GL:aw) (w0:World) (L:Ln) (g:Gm) (h:Hp) (w:World):Prop where
 keeps:i6 L w0 w
 aZ:∀b o,g.M b=some o->w.heap[b]?=some o
 src:∀b o,g.M b=some o->L.M0 b=some o\/w0.heap.size<=b\/b∈L.l
 cr:∀p∈GL,Den g.M bE (.al p.2 0) (.pointer (some ⟨p.1,0,none⟩))
 dU:∀b,h b=none->g.c b=none
 jb:∀b aD,h b=some aD->∃cb,g.c b=some cb
 own:∀b aD cb,h b=some aD->aD.live=true->g.c b=some cb->cb.cI=false->g.M cb.aD=none/\(cb.aD∈L.l\/w0.heap.size<=cb.aD)/\∃o,w.heap[cb.aD]?=some o/\iL g.M g.c cb o aD
 bd:∀b aD cb,h b=some aD->aD.live=true->g.c b=some cb->cb.cI=true->aD=.rows cb.sz []
 inj:∀b b' aD blk' cb ez,h b=some aD->h b'=some blk'->aD.live=true->blk'.live=true->g.c b=some cb->g.c b'=some ez->cb.cI=false->ez.cI=false->cb.aD=ez.aD->b=b'
end Go.Ah
end
section
namespace Go.Ah
theorem Ys(h:Hp)(b:Nat)(x:U):dQ h b x b=some x:=by simp[dQ]
variable{b:Nat}
theorem Yr(h:Hp){n:Nat}(x:U)(e:n≠b):dQ h b x n=h n:=by simp[dQ,e]
def mj(c:Own)(b:Nat)(x:CB):Own:=λn=>if n=b then some x else c n
theorem Yy(c:Own)(b:Nat)(x:CB):mj c b x b=some x:=by simp[mj]
theorem Y8(c:Own){n:Nat}(x:CB)(e:n≠b):mj c b x n=c n:=by simp[mj,e]
theorem fW.mj{c:Own}{x:CB}(h:c b=none):fW c (mj c b x):=by
 intro n d e
 grind [Y8]
theorem i6.trans'{L:Ln}{a b c:World}(h:i6 L a b)(os:c.os=b.os)(tape:c.tape=b.tape)(output:c.output=b.output)(size:b.heap.size<=c.heap.size)
 (block:∀k,k<a.heap.size->k∉L.l->c.heap[k]?=b.heap[k]?):i6 L a c:=
 ⟨os.trans h.os,tape.trans h.tape,output.trans h.output,CI h.size size,λk d f=>(block k d f).trans (h.block k d f)⟩
section
variable {GL:aw} {w0:World} {L:Ln} {g:Gm} {h:Hp} {w:World}
variable{cb:CB}
variable{aD:U}
theorem bu.dX(r:bu GL w0 L g h w)(e:h b=some aD)(hl:aD.live=true)(d:g.c b=some cb)(hv:cb.cI=false):cb.aD<w.heap.size:=by
 obtain⟨_,_,o,f,_⟩:=r.own b aD cb e hl d hv
 grind
variable{o:Obj}
theorem bu.fT(r:bu GL w0 L g h w)(e:g.M b=some o):b<w.heap.size:=
 (E1.1 (r.aZ b o e)).1
theorem bu.drew(r:bu GL w0 L g h w):bu GL w0 L g h w.drew:=
 { r with keeps:=r.keeps.trans' rfl rfl rfl (AO _) (λ_ _ _=>rfl),aZ:=r.aZ,own:=r.own }
variable{nb:Nat}
theorem bu.alloc(r:bu GL w0 L g h w)(hn:h nb=none)(hb:cb.aD=w.heap.size)(hv:cb.cI=false)(zh:aD.live=true)
 (ok:iL g.M (mj g.c nb cb) cb o aD):bu GL w0 L ⟨g.M,mj g.c nb cb⟩ (dQ h nb aD) (w.alloc o) where
 keeps:=r.keeps.trans' rfl rfl rfl (by simp) (λk V _=>by
  show (w.heap.push o)[k]?=_;have:=r.keeps.size
  grind)
 aZ:=λb y e=>by
  have:=r.fT e;show (w.heap.push o)[b]?=_;rw[Array.getElem?_push,aB (by omega)];exact r.aZ b y e
 cr:=r.cr
 src:=r.src
 dU:=λb e=>by
  by_cases f:b=nb
  ·subst f;rw[Ys]at e;cases e
  ·rw[Yr _ _ f]at e;show mj g.c nb cb b=none;rw[Y8 _ _ f];exact r.dU b e
 jb:=λb blk' e=>by
  by_cases f:b=nb
  ·simp_all [Yy]
  ·rw[Yr _ _ f]at e;obtain⟨x,X⟩:=r.jb b blk' e;simp_all [Y8]
 own:=λb blk' d e i p j=>by
  have D:=r.dU nb hn;by_cases f:b=nb
  ·subst f;rw[Ys]at e;cases e;have:d=cb:=by grind [Yy]
   subst this;refine⟨?_,.inr (by rw[hb];exact r.keeps.size),o,?_,ok⟩
   ·cases E:g.M d.aD with
    |none=>rfl
    |some x=>have:=r.fT E;omega
   ·show (w.heap.push o)[d.aD]?=_;rw[hb];simp
  ·rw[Yr _ _ f]at e;have s:g.c b=some d:=by simp_all [Y8]
   obtain⟨h1,h2,y,Y,F⟩:=r.own b blk' d e i s j;have:=r.dX e i s j;refine⟨h1,h2,y,?_,F.mono (iJ.refl _) (fW.mj D)⟩;show (w.heap.push o)[d.aD]?=_
   grind
 bd:=λb blk' d e i p j=>by
  by_cases f:b=nb
  ·grind [Yy]
  ·rw[Yr _ _ f]at e;have s:g.c b=some d:=by simp_all [Y8]
   exact r.bd b blk' d e i s j
 inj:=λb z G H A cb2 B C K N c1 c2 P Q R=>by
  have key:∀b blk' d,dQ h nb aD b=some blk'->blk'.live=true->mj g.c nb cb b=some d->d.cI=false->b≠nb->d.aD<w.heap.size:=by
   intro b blk' d e i p j f;rw[Yr _ _ f]at e;rw[Y8 _ _ f]at p;exact r.dX e i p j
  by_cases h1:b=nb
  ·grind [Yy]
  ·by_cases h2:z=nb
   ·grind [Yy]
   ·rw[Yr _ _ h1]at B;rw[Yr _ _ h2]at C;have S:g.c b=some A:=by simp_all [Y8]
    have T:g.c z=some cb2:=by simp_all [Y8]
    exact r.inj b z G H A cb2 B C K N S T P Q R
theorem bu.ko(r:bu GL w0 L g h w)(hn:h nb=none)(cb:CB):g.Le ⟨g.M,mj g.c nb cb⟩:=⟨iJ.refl _,fW.mj (r.dU nb hn)⟩
theorem bu.write(r:bu GL w0 L g h w){blk':U}(e:h b=some aD)(hl:aD.live=true)(i:g.c b=some cb)(hv:cb.cI=false)(lU:blk'.live=true)
 {o':Obj}{w':World}(C:w'.os=w.os)(D:w'.tape=w.tape)(E:w'.output=w.output)(F:w'.heap=w.heap.setIfInBounds cb.aD o')
 (ok:iL g.M g.c cb o' blk'):bu GL w0 L g (dQ h b blk') w':=by
 have bZ:=r.dX e hl i hv;obtain⟨G,ct,_⟩:=r.own b aD cb e hl i hv;have other:∀k,k≠cb.aD->w'.heap[k]?=w.heap[k]?:=by
  grind
 exact {
  keeps:=r.keeps.trans' C D E (by rw[F];simp) (λk hk jd=>other k (by
   grind))
  aZ:=λk o A=>by rw[other k (by rintro rfl;rw[G]at A;cases A)];exact r.aZ k o A
  cr:=r.cr
  src:=r.src
  dU:=λn d=>by
   by_cases f:n=b
   ·subst f;rw[Ys]at d;cases d
   ·rw[Yr _ _ f]at d;exact r.dU n d
  jb:=λn x d=>by
   by_cases f:n=b
   ·subst f;exact⟨cb,i⟩
   ·rw[Yr _ _ f]at d;exact r.jb n x d
  own:=λn x j d p s z=>by
   by_cases f:n=b
   ·simp_all [Ys]
   ·rw[Yr _ _ f]at d;obtain⟨h1,h2,o,H,K⟩:=r.own n x j d p s z;refine⟨h1,h2,o,?_,K⟩;rw[other _ (λeq=>f (r.inj n b x aD j cb d e p hl s i z hv eq))];exact H
  bd:=λn x j d p s z=>by
   by_cases f:n=b
   ·simp_all
   ·rw[Yr _ _ f]at d;exact r.bd n x j d p s z
  inj:=λn B x N P cb2 Q R S T V X Y v2 iE=>by
   have back:∀n x,dQ h b blk' n=some x->x.live=true->∃y,h n=some y/\y.live=true:=by
    grind [Yr]
   obtain⟨y1,f1,g1⟩:=back n x Q S;obtain⟨y2,f2,g2⟩:=back B N R T;exact r.inj n B y1 y2 P cb2 f1 f2 g1 g2 V X Y v2 iE }
theorem bu.kill(r:bu GL w0 L g h w)(e:h b=some aD):bu GL w0 L g (dQ h b .dead) w where
 keeps:=r.keeps
 aZ:=r.aZ
 cr:=r.cr
 src:=r.src
 dU:=λn d=>by
  by_cases f:n=b
  ·subst f;rw[Ys]at d;cases d
  ·rw[Yr _ _ f]at d;exact r.dU n d
 jb:=λn x d=>by
  by_cases f:n=b
  ·subst f;exact r.jb n aD e
  ·rw[Yr _ _ f]at d;exact r.jb n x d
 own:=λn x i d j=>by
  by_cases f:n=b
  ·grind [U.live,Ys]
  ·rw[Yr _ _ f]at d;exact r.own n x i d j
 bd:=λn x i d j=>by
  by_cases f:n=b
  ·grind [U.live,Ys]
  ·rw[Yr _ _ f]at d;exact r.bd n x i d j
 inj:=λn p x s A cb2 B C y z=>by
  have back:∀n x,dQ h b .dead n=some x->x.live=true->h n=some x:=by
   grind [U.live,Ys,Yr]
  exact r.inj n p x s A cb2 (back n x B y) (back p s C z) y z
theorem bu.ghost(r:bu GL w0 L g h w)(hn:h nb=none)(sz:Nat):bu GL w0 L ⟨g.M,mj g.c nb ⟨0,sz,0,true,0⟩⟩ (dQ h nb (.rows sz [])) w:=by
 have E:=r.dU nb hn;have F:=fW.mj (x:=⟨0,sz,0,true,0⟩) E;have j:∀n cb,mj g.c nb ⟨0,sz,0,true,0⟩ n=some cb->cb.cI=false->g.c n=some cb/\n≠nb:=by
  grind [Yy,Y8]
 exact {
  keeps:=r.keeps
  aZ:=r.aZ
  cr:=r.cr
  src:=r.src
  dU:=λn d=>by
   by_cases f:n=nb
   ·simp_all [Ys]
   ·rw[Yr _ _ f]at d;show mj g.c nb _ n=none;rw[Y8 _ _ f];exact r.dU n d
  jb:=λn x d=>by
   by_cases f:n=nb
   ·simp_all [Yy]
   ·rw[Yr _ _ f]at d;obtain⟨x,Y⟩:=r.jb n x d;simp_all [Y8]
  own:=λn x cb d p s i=>by
   obtain⟨G,f⟩:=j n cb s i;rw[Yr _ _ f]at d;obtain⟨h1,h2,o,H,K⟩:=r.own n x cb d p G i;exact⟨h1,h2,o,H,K.mono (iJ.refl _) F⟩
  bd:=λn x cb d p s i=>by
   by_cases f:n=nb
   ·grind [Ys,Yy]
   ·rw[Yr _ _ f]at d;have:mj g.c nb ⟨0,sz,0,true,0⟩ n=some cb:=s;rw[Y8 _ _ f]at this;exact r.bd n x cb d p this i
  inj:=λn y x N z cb2 A B P Q R S C D T=>by
   obtain⟨d1,n1⟩:=j n z R C;obtain⟨V,X⟩:=j y cb2 S D;rw[Yr _ _ n1]at A;rw[Yr _ _ X]at B;exact r.inj n y x N z cb2 A B P Q d1 V C D T }
def oh(M:Nat->Option Obj)(b:Nat)(o:Obj):Nat->Option Obj:=λn=>if n=b then some o else M n
theorem bu.freeze(r:bu GL w0 L g h w)(e:h b=some aD)(hl:aD.live=true)(s:g.c b=some cb)(hv:cb.cI=false)(ho:w.heap[cb.aD]?=some o) :
  g.Le ⟨oh g.M cb.aD o,g.c⟩/\bu GL w0 L ⟨oh g.M cb.aD o,g.c⟩ (dQ h b .dead) w:=by
 obtain⟨G,H,_⟩:=r.own b aD cb e hl s hv;have f:iJ g.M (oh g.M cb.aD o):=by
  intro n x d
  grind [oh]
 have k:=r.kill e;refine⟨⟨f,fW.refl _⟩,?_⟩;exact {
  keeps:=k.keeps
  aZ:=λn x d=>by
   by_cases i:n=cb.aD
   ·simp_all [oh]
   ·have:oh g.M cb.aD o n=some x:=d;simp[oh,i]at this;exact r.aZ n x this
  cr:=λp C=>(r.cr p C).mono f (fW.refl _)
  src:=λn x d=>by
   by_cases i:n=cb.aD
   ·grind
   ·have:oh g.M cb.aD o n=some x:=d;simp[oh,i]at this;exact r.src n x this
  dU:=k.dU
  jb:=k.jb
  own:=λn x j d y z A=>by
   obtain⟨h1,h2,D,E,F⟩:=k.own n x j d y z A;have B:n≠b:=by rintro rfl;grind [U.live,Ys]
   have en':=d;rw[Yr _ _ B]at en';have K:j.aD≠cb.aD:=λeq=>B (r.inj n b x aD j cb en' e y hl z s A hv eq);exact⟨by simp_all [oh],h2,D,E,F.mono f (fW.refl _)⟩
  bd:=k.bd
  inj:=k.inj }
end
end Go.Ah
end
section
namespace Go.Ah
def nth{b:Type}:List b->Nat->Option b
 |[],_=>none
 |x::_,0=>some x
 |_::l,n+1=>nth l n
def jc{b:Type}:Nat->List b->List b
 |0,l=>l
 |_+1,[]=>[]
 |n+1,_::l=>jc n l
def takeN{b:Type}:Nat->List b->Option (List b)
 |0,_=>some []
 |_+1,[]=>none
 |n+1,x::l=>match takeN n l with
  |some r=>some (x::r)
  |none=>none
def bW{b:Type}:Nat->List b->List b->Option (List b)
 |_,[],l=>some l
 |0,_::_,[]=>none
 |0,c::cs,_::l=>match bW 0 cs l with
  |some r=>some (c::r)
  |none=>none
 |_+1,_::_,[]=>none
 |j+1,c::cs,x::l=>match bW j (c::cs) l with
  |some r=>some (x::r)
  |none=>none
def QF{b:Type}:Nat->b->List b->Option (List b)
 |_,_,[]=>none
 |0,c,_::l=>some (c::l)
 |j+1,c,x::l=>match QF j c l with
  |some r=>some (x::r)
  |none=>none
def chunk{b:Type}(sz:Nat):Nat->List b->Option (List (List b))
 |0,_=>some []
 |n+1,l=>match takeN sz l,chunk sz n (jc sz l)with
  |some r,some rs=>some (r::rs)
  |_,_=>none
variable{α:Type}
theorem Q4(l:List α)(n:Nat):nth l n=l[n]?:=by
 induction l generalizing n with
 |nil=>simp[nth]
 |cons x l b=>cases n<;>simp_all [nth]
theorem OI(n:Nat)(l:List α):jc n l=l.drop n:=by
 induction n generalizing l with
 |zero=>simp[jc]
 |succ n b=>cases l<;>simp_all [jc]
variable{n:Nat}
theorem UQ{l r:List α}(h:takeN n l=some r):r.length=n/\n<=l.length/\∀i,i<n->r[i]?=l[i]?:=by
 induction n generalizing l r with
 |zero=>simp_all [takeN]
 |succ n b=>
  cases l<;>grind [takeN]
theorem Ui{j:Nat}{cs l r:List α}(h:bW j cs l=some r):r.length=l.length/\(cs≠[]->j+cs.length<=l.length)/\∀i,r[i]?=if j<=i/\i<j+cs.length then cs[i-j]? else l[i]?:=by
 induction l generalizing j cs r with
 |nil=>
  cases cs with
  |nil=>simp_all [bW]
  |cons c cs=>cases j<;>simp[bW]at h
 |cons x l b=>
  cases cs with
  |nil=>simp only[bW]at h;grind
  |cons c cs=>
   cases j with
   |zero=>
    grind [bW]
   |succ j=>
    simp only[bW]at h;cases d:bW j (c::cs) l<;>grind
theorem QcD{j:Nat}{c:α}{l r:List α}(h:QF j c l=some r):r.length=l.length/\j<l.length/\∀i,r[i]?=if i=j then some c else l[i]?:=by
 induction l generalizing j r with
 |nil=>cases j<;>simp[QF]at h
 |cons x l b=>
  cases j with
  |zero=>simp only[QF]at h;grind
  |succ j=>
   grind [QF]
theorem Zc3{sz:Nat}{l:List α}{rs:List (List α)}(h:chunk sz n l=some rs):rs.length=n/\(n*sz<=l.length\/n=0)/\(∀(i:Nat) (row:List α),rs[i]?=some row->row.length=sz) /\
  ∀(i:Nat) (row:List α) (j:Nat) (x:α),rs[i]?=some row->row[j]?=some x->l[i*sz+j]?=some x:=by
 induction n generalizing l rs with
 |zero=>simp_all [chunk]
 |succ n f=>
  simp only[chunk]at h;cases b:takeN sz l with
  |none=>simp[b]at h
  |some r=>
   cases d:chunk sz n (jc sz l)with
   |none=>simp[b,d]at h
   |some rs'=>
    simp only[b,d]at h;cases h;obtain⟨t1,p,s⟩:=UQ b;obtain⟨h1,h2,h3,h4⟩:=f d;rw[OI]at h2 h4;refine⟨by simp[h1],.inl ?_,λi row e=>?_,λi row j x o w=>?_⟩
    ·grind
    ·grind
    ·cases i with
     |zero=>
      grind
     |succ i=>
      simp at o
      grind
def qe:Value->Option I
 |.bool b=>some (.bool b)
 |.int k n=>some (.int k n)
 |.string s=>some (.str s.data.toList)
 |.pointer none=>some .dq
 |.slice none 0 0=>some .aq
 |.map none=>some .cG
 |.nilFunc=>some .bH
 |.nilIface=>some .dp
 |_=>none
def XN:List Value->Option (List I)
 |[]=>some []
 |v::l=>match qe v,XN l with
  |some x,some r=>some (x::r)
  |_,_=>none
def qI:Value->Option I
 |.agg cs=>(XN cs.toList).map .agg
 |v=>qe v
variable{x:I}
variable{v:Value}
variable{c:Own}
variable{M:Nat->Option Obj}
theorem Zb6(h:qe v=some x):Den M c x v:=by
 unfold qe at h;split at h<;>first|(cases h;constructor)|cases h
theorem XX{l:List Value}{xs:List I}(h:XN l=some xs):l.length=xs.length/\∀(i:Nat) (x:I) (v:Value),xs[i]?=some x->l[i]?=some v->Den M c x v:=by
 induction l generalizing xs with
 |nil=>simp_all [XN]
 |cons v l b=>
  grind [XN,Zb6]
theorem Pd(h:qI v=some x):Den M c x v:=by
 unfold qI at h;split at h
 ·rename_i cs;cases b:XN cs.toList with
  |none=>simp[b]at h
  |some xs=>
   simp[b]at h;subst h;obtain⟨h1,h2⟩:=XX (M:=M) (c:=c) b;exact .agg _ _ _ (by simpa using h1) (λi x v d f=>h2 i x v d (by simpa using f))
 ·exact Zb6 h
abbrev Frame:=List (Nat×I)
def bM:Frame->Nat->I
 |[],_=>.aP
 |(k,v)::r,n=>bif AJ k n then v else bM r n
inductive td where
 |t (n:Nat)
 |c (v:I)
 deriving Inhabited
def ev(ρ:Frame):td->I
 |.t n=>bM ρ n
 |.c v=>v
inductive lz (GL:aw):Operand->td->Prop
 |tmp (t:Nat):lz GL (.tmp t) (.t t)
 |const (v:Value) (x:I):qI v=some x->lz GL (.const v) (.c x)
 |Lk (g:Nat) (row:List I):(g,row)∈GL->lz GL (.global g) (.c (.al row 0))
 |func (f:FuncId):lz GL (.func f) (.c (.func (.func f) [] []))
structure dc (n:Nat) (g:Gm) (ρ:Frame) (a:Act):Prop where
 size:a.tmps.size=n
 slot:∀t,g.den (bM ρ t) (a.tmps.getD t undef)
 defers:a.defers=[]
variable{a:Act}
variable{ρ:Frame}
variable{g:Gm}
theorem dc.mono{b:Gm}(h:dc n g ρ a)(hg:g.Le b):dc n b ρ a:=⟨h.size,λt=>Gm.mD hg (h.slot t),h.defers⟩
theorem ZV(ρ:Frame)(d:Nat)(v:I)(t:Nat):bM ((d,v)::ρ) t=if t=d then v else bM ρ t:=by
 simp only[bM];by_cases h:t=d
 ·subst h;simp[EK]
 ·rw[aB h]
  grind [fK]
theorem dc.put(h:dc n g ρ a){d:Nat}(hd:d<n)(hx:g.den x v):dc n g ((d,x)::ρ) (a.put (some d) v):=by
 refine⟨by simp[HG,h.size],λt=>?_,h.defers⟩;rw[ZV];have hs:=h.size;by_cases b:t=d
 ·simp_all [HG]
 ·rw[aB b];have:(a.put (some d) v).tmps.getD t undef=a.tmps.getD t undef:=by
   simp[HG,EP,EF (λe=>b e.symm)]
  rw[this];exact h.slot t
theorem dc.opd{GL:aw}{w0:World}{L:Ln}{h:Hp}{w:World}(r:bu GL w0 L g h w)(d:dc n g ρ a){x:Operand}{y:td}(ok:lz GL x y):g.den (ev ρ y) (a.eval x):=by
 cases ok with
 |tmp t=>exact d.slot t
 |const v x e=>exact Pd e
 |Lk gl row e=>exact(r.cr _ e).mono (iJ.refl _) (fW.bE _)
 |func f=>exact .func _ _ _ _ _ _ rfl rfl (by simp) (by simp)
inductive fY where
 |ptr|slice|iface|func|map
 deriving Inhabited
inductive MK where
 |mv
 |pick
 |alloc (z:List I)
 |box
 |build (z:List I) (ps:List (Nat×Nat))
 |mZ (sz n:Nat) (z:List I) (ps:List (Nat×Nat))
 |load (agg:Bool) (n:Nat)
 |store (n:Nat)
 |nilCheck
 |bin (op:BinOp) (isBool:Bool)
 |oQ (c:fY) (neq left:Bool)
 |Cf (neq:Bool) (ls:List Bool)
 |un (op:UnOp)
 |conv (k:IntKind)
 |jg (t:TypeId)
 |kv (fn:Fn) (n:Nat)
 |makeMap
 |fieldAddr (off:Nat)
 |field (agg:Bool) (off n:Nat)
 |gY (len nC:Nat)
 |fE (nC:Nat)
 |sO (agg:Bool) (len nC:Nat)
 |lW
 |extract (i:Nat)
 |cU (nC:Nat) (lo hi mx:Bool)
 |e9 (lo hi:Bool)
 |sR
 |kr
 |sQ (n:Nat)
 |nj
 |min2
 |max2
 |append (nC bytes:Nat) (z:List I)
 |call (f:FuncId)
 |gP
 |lookup (str ok:Bool) (z:I)
 |lY (str:Bool)
 |range
 |next
 |fL (t:TypeId) (ok:Bool) (z:I)
 |invoke (name:String) (pH:List (TypeId×FuncId))
 |iM (nC:Nat) (z:List I)
 |sS (nC bytes:Nat) (z:List I)
 |mC (nC:Nat)
 |bad
 |gL (pH:List TypeId)
 deriving Inhabited
def fN(P:Program)(t:TypeId):Option Bool:=
 match P.underlying t with
 |some (.struct _)=>some true
 |some (.array _ _)=>some true
 |some _=>some false
 |none=>none
def size?(P:Program)(t:TypeId):Option Nat:=(P.info? t).map (·.size)
def eg(P:Program)(t:TypeId):Option Value:=(P.info? t).bind (·.zero)
def eW(P:Program)(t:TypeId):Option TypeId:=
 match P.underlying t with
 |some (.slice e)=>some e
 |_=>none
def vq(P:Program)(t:TypeId):Option fY:=
 match P.underlying t with
 |some (.pointer _)=>some .ptr
 |some (.slice _)=>some .slice
 |some (.interface _)=>some .iface
 |some (.func _ _ _)=>some .func
 |some (.map _ _)=>some .map
 |_=>none
def kz:fY->Value
 |.ptr=>.pointer none
 |.slice=>.slice none 0 0
 |.iface=>.nilIface
 |.func=>.nilFunc
 |.map=>.map none
def nG(P:Program)(t:TypeId):Option Bool:=
 match P.underlying t with
 |some (.int _)=>some false
 |some .bool=>some true
 |_=>none
def ry(P:Program)(t:TypeId):Option (List Bool):=
 match P.underlying t with
 |some (.struct b)=>
  if b.toList.all (λf=>f.name != "_")&&(b.toList.map (·.offset)==ED 0 b.toList.length)then b.toList.mapM (λf=>nG P f.type)else none
 |_=>none
def Qh(P:Program)(f:FuncId):Bool:=
 match P.funcs[f]? with
 |some fn=>fn.name != "runtime.NumGoroutine" && fn.body.isSome
 |none=>false
def PY(P:Program)(name:String)(t:TypeId):Option FuncId:=
 match P.info? t with
 |none=>none
 |some i=>match i.methods.find? (·.name==name)with
  |none=>none
  |some m=>match m.path.isEmpty,m.func,P.underlying t with
   |true,some (f,true),some (.pointer _)=>some f
   |true,some (_,false),some (.pointer _)=>none
   |true,some (f,false),some _=>some f
   |_,_,_=>none
def YdA(P:Program)(name:String):List (TypeId×FuncId):=(Ao P.types.size).filterMap λt=>match PY P name t with
 |some f=>bif Qh P f then some (t,f)else none
 |none=>none
def JE(t:Nat):List (Nat×Nat)->Option Nat
 |[]=>none
 |(u,f)::r=>bif AJ t u then some f else JE t r
theorem SL{t f:Nat}:∀ {l:List (Nat×Nat)},JE t l=some f->(t,f)∈l
 |[],h=>by cases h
 |(u,g)::r,h=>by
  unfold JE at h;cases hb:AJ t u with
  |true=>rw[hb]at h;cases h;rw[fK hb];simp
  |false=>rw[hb]at h;exact DI _ (SL h)
def vk(P:Program)(k:TypeId):Bool->Prop
 |true=>P.underlying k=some .string
 |false=>∃q,P.underlying k=some (.int q)
inductive cz (P:Program) (GL:aw):Op->MK->List Operand->Prop
 |move (x:Operand):cz P GL (.move x) .mv [x]
 |assign (x:Operand):cz P GL (.assign x) .mv [x]
 |pick (c a b:Operand):cz P GL (.pick c a b) .pick [c,a,b]
 |alloc (t:TypeId) (v:Value) (z:List I):eg P t=some v->XN v.cells.toList=some z->cz P GL (.alloc t) (.alloc z) []
 |box (t:TypeId) (x:Operand):cz P GL (.box t x) .box [x]
 |buildStruct (t:TypeId) (fs:Array Field) (v:Value) (z:List I) (parts:Array (Nat×Operand)) (places ps:List (Nat×Nat)) :
   P.underlying t=some (.struct fs)->eg P t=some v->XN v.cells.toList=some z->fs.toList.mapM (λf=>(P.info? f.type).map λi=>(f.offset,i.size))=some places ->
   parts.toList.map (λp=>places[p.1]?)=ps.map some->cz P GL (.build t parts) (.build z ps) (parts.toList.map (·.2))
 |oG (t:TypeId) (n:Nat) (e:TypeId) (v:Value) (z:List I) (parts:Array (Nat×Operand)) (ps:List (Nat×Nat)) (sz:Nat) :
   P.underlying t=some (.array n e)->eg P t=some v->XN v.cells.toList=some z->size? P e=some sz ->
   parts.toList.map (λp=>(p.1*sz,sz))=ps->cz P GL (.build t parts) (.build z ps) (parts.toList.map (·.2))
 |buildSlice (t:TypeId) (n:Nat) (e:TypeId) (v:Value) (z0 z:List I) (parts:Array (Nat×Operand)) (ps:List (Nat×Nat)) (sz:Nat) :
   eW P t=some e->size? P e=some sz->n*sz<=2 ^ 24->n*sz≠0->eg P e=some v->v.cells.size=sz->XN v.cells.toList=some z0->(CD n z0).flatten=z ->
   parts.toList.map (λp=>(p.1*sz,sz))=ps->cz P GL (.buildSlice t n parts) (.mZ sz n z ps) (parts.toList.map (·.2))
 |nA (t e:TypeId) (sz:Nat) (parts:Array (Nat×Operand)):eW P t=some e->size? P e=some sz->parts.toList=[]->cz P GL (.buildSlice t 0 parts) (.mC sz) []
 |makeSlice (t:TypeId) (l:Operand) (e:TypeId) (v:Value) (n by_:Nat) (z:List I):eW P t=some e->size? P e=some n->(P.info? e).map (·.bytes)=some by_->n≠0->eg P e=some v->v.cells.size=n->XN v.cells.toList=some z ->
   cz P GL (.makeSlice t l l) (.sS n by_ z) [l]
 |load (t:TypeId) (x:Operand) (agg:Bool) (n:Nat):fN P t=some agg->size? P t=some n->cz P GL (.load t x) (.load agg n) [x]
 |store (t:TypeId) (x y:Operand) (n:Nat):size? P t=some n->cz P GL (.store t x y) (.store n) [x,y]
 |nilCheck (x:Operand):cz P GL (.nilCheck x) .nilCheck [x]
 |bin (op:BinOp) (t t':TypeId) (x y:Operand) (b:Bool):(b=true->P.underlying t=some .bool)->cz P GL (.binOp op t x y t') (.bin op b) [x,y]
 |xv (c:fY) (neq:Bool) (t t':TypeId) (x:Operand):vq P t=some c->cz P GL (.binOp (if neq then .neq else .eql) t x (.const (kz c)) t') (.oQ c neq false) [x,.const (kz c)]
 |xu (c:fY) (neq:Bool) (t t':TypeId) (y:Operand):vq P t=some c->cz P GL (.binOp (if neq then .neq else .eql) t (.const (kz c)) y t') (.oQ c neq true) [.const (kz c),y]
 |Cf (neq:Bool) (t t':TypeId) (x y:Operand) (ls:List Bool):ry P t=some ls->P.stoodInHeld t=false->P.eqGuardType P.depth t=false ->
   cz P GL (.binOp (if neq then .neq else .eql) t x y t') (.Cf neq ls) [x,y]
 |un (op:UnOp) (t:TypeId) (x:Operand):cz P GL (.unOp op t x) (.un op) [x]
 |conv (s d:TypeId) (x:Operand) (k:IntKind):(P.underlying s).isSome=true->P.underlying d=some (.int k)->cz P GL (.convert s d x) (.conv k) [x]
 |jg (t:TypeId) (x:Operand):P.concrete t=true->cz P GL (.makeInterface t x) (.jg t) [x]
 |kv (fn:Fn) (xs ys:Array Operand):cz P GL (.makeFunc fn xs ys) (.kv fn xs.size) (xs.toList++ys.toList)
 |makeMap (t:TypeId):cz P GL (.makeMap t none) .makeMap []
 |fieldAddr (t:TypeId) (x:Operand) (f:Nat) (fs:Array Field) (fd:Field) (n:Nat):P.underlying t=some (.struct fs)->fs[f]?=some fd->size? P fd.type=some n->n≠0 ->
   cz P GL (.fieldAddr t x f) (.fieldAddr fd.offset) [x]
 |field (t:TypeId) (x:Operand) (f:Nat) (fs:Array Field) (fd:Field) (agg:Bool) (n:Nat):P.underlying t=some (.struct fs)->fs[f]?=some fd->size? P fd.type=some n->fN P fd.type=some agg ->
   cz P GL (.field t x f) (.field agg fd.offset n) [x]
 |gY (t:TypeId) (x i:Operand) (len:Nat) (e:TypeId) (n:Nat):P.underlying t=some (.array len e)->size? P e=some n->cz P GL (.indexAddr t x i) (.gY len n) [x,i]
 |fE (t:TypeId) (x i:Operand) (e:TypeId) (n:Nat):P.underlying t=some (.slice e)->size? P e=some n->cz P GL (.indexAddr t x i) (.fE n) [x,i]
 |sO (t:TypeId) (x i:Operand) (len:Nat) (e:TypeId) (n:Nat) (agg:Bool):P.underlying t=some (.array len e)->size? P e=some n->fN P e=some agg ->
   cz P GL (.index t x i) (.sO agg len n) [x,i]
 |lW (t:TypeId) (x i:Operand):P.underlying t=some .string->cz P GL (.index t x i) .lW [x,i]
 |extract (x:Operand) (i:Nat):cz P GL (.extract x i) (.extract i) [x]
 |cU (t:TypeId) (x:Operand) (lo hi mx:Option Operand) (e:TypeId) (n:Nat):P.underlying t=some (.slice e)->size? P e=some n ->
   cz P GL (.slice t x lo hi mx) (.cU n lo.isSome hi.isSome mx.isSome) ([x]++lo.toList++hi.toList++mx.toList)
 |e9 (t:TypeId) (x:Operand) (lo hi:Option Operand):P.underlying t=some .string ->
   cz P GL (.slice t x lo hi none) (.e9 lo.isSome hi.isSome) ([x]++lo.toList++hi.toList)
 |sR (t e:TypeId) (x:Operand):P.underlying t=some (.slice e)->cz P GL (.call ⟨.builtin .len,#[x],#[t]⟩) .sR [x]
 |kr (t:TypeId) (x:Operand):P.underlying t=some .string->cz P GL (.call ⟨.builtin .len,#[x],#[t]⟩) .kr [x]
 |sQ (t e:TypeId) (n:Nat) (x:Operand):P.underlying t=some (.array n e)->cz P GL (.call ⟨.builtin .len,#[x],#[t]⟩) (.sQ n) [x]
 |nj (t k e:TypeId) (x:Operand):P.underlying t=some (.map k e)->cz P GL (.call ⟨.builtin .len,#[x],#[t]⟩) .nj [x]
 |min2 (ts:Array TypeId) (x y:Operand):cz P GL (.call ⟨.builtin .min,#[x,y],ts⟩) .min2 [x,y]
 |max2 (ts:Array TypeId) (x y:Operand):cz P GL (.call ⟨.builtin .max,#[x,y],ts⟩) .max2 [x,y]
 |append (t t' e:TypeId) (x y:Operand) (n by_:Nat) (v:Value) (z:List I):P.underlying t=some (.slice e)->(∃d,P.underlying t'=some d/\(∀k,d≠.int k))->size? P e=some n->P.bytesOf e=by_->eg P e=some v ->
   v.cells.size=n->XN v.cells.toList=some z->by_≠0->n≠0->cz P GL (.call ⟨.builtin .append,#[x,y],#[t,t']⟩) (.append n by_ z) [x,y]
 |call (f:FuncId) (xs:Array Operand) (ts:Array TypeId):Qh P f=true->cz P GL (.call ⟨.value (.func f),xs,ts⟩) (.call f) xs.toList
 |gP (x:Operand) (xs:Array Operand) (ts:Array TypeId):cz P GL (.call ⟨.value x,xs,ts⟩) .gP (x::xs.toList)
 |invoke (x:Operand) (name:String) (xs:Array Operand) (ts:Array TypeId) (pH:List (TypeId×FuncId)):(∀p∈pH,PY P name p.1=some p.2/\Qh P p.2=true)->cz P GL (.call ⟨.invoke x name,xs,ts⟩) (.invoke name pH) (x::xs.toList)
 |lookup (t k e:TypeId) (x i:Operand) (str ok:Bool) (v:Value) (z:I):P.underlying t=some (.map k e)->vk P k str->eg P e=some v->qI v=some z ->
   cz P GL (.lookup t x i ok) (.lookup str ok z) [x,i]
 |mapUpdate (t k e:TypeId) (x i y:Operand) (str:Bool):P.underlying t=some (.map k e)->vk P k str->cz P GL (.mapUpdate t x i y) (.lY str) [x,i,y]
 |mapInsert (t k e:TypeId) (x i y:Operand) (str:Bool):P.underlying t=some (.map k e)->vk P k str->cz P GL (.insert t x i y) (.lY str) [x,i,y]
 |iM (t e:TypeId) (x:Operand) (n:Nat) (v:Value) (z:List I):eW P t=some e->size? P e=some n->n≠0->eg P e=some v->v.cells.size=n->XN v.cells.toList=some z ->
   cz P GL (.call ⟨.builtin .clear,#[x],#[t]⟩) (.iM n z) [x]
 |range (t:TypeId) (x:Operand):P.underlying t=some .string->cz P GL (.range t x) .range [x]
 |next (x:Operand):cz P GL (.next x true) .next [x]
 |fL (x:Operand) (t u:TypeId) (ok:Bool) (v:Value) (z:I):P.concrete u=true->(P.underlying u).isSome=true->eg P u=some v->qI v=some z->cz P GL (.typeAssert x t u ok) (.fL u ok z) [x]
 |bad (o:Op):cz P GL o .bad []
 |gL (x:Operand) (t u:TypeId) (ms:Array (String×TypeId)) (pH:List TypeId):P.underlying u=some (.interface ms)->eg P u=some .nilIface->(∀q∈pH,∃i,P.info? q=some i/\Instr.missingMethod ms i.methods=none)->cz P GL (.typeAssert x t u true) (.gL pH) [x]
inductive aL where
 |ok (v:I) (rd:List Nat) (up:List (Nat×U))
 |stop
abbrev KT:=I->List U->Prop
abbrev n_:=List I->List U->Prop
def ai:List U->Nat->U
 |[],_=>.dead
 |b::_,0=>b
 |_::l,n+1=>ai l n
def cellsOf:I->Option (List I)
 |.agg cs=>bif cs.all I.cell then some cs else none
 |.aP=>none
 |.bw _=>none
 |.when ..=>none
 |x=>some [x]
def fill:List I->List (Nat×Nat)->List I->Option (List I)
 |z,[],[]=>some z
 |z,(off,sz)::b,x::xs=>match cellsOf x with
  | some cs=>bif AJ cs.length sz && !(AJ sz 0)then (match bW off cs z with
   |some d=>fill d b xs
   | none=>none)else none
  |none=>none
 |_,_,_=>none
def j4:IntKind->IntKind->Bool
 |.i8,.i8 | .i16,.i16 | .i32,.i32 | .i64,.i64 | .u8,.u8 | .u16,.u16 | .u32,.u32 | .u64,.u64=>true
 |_,_=>false
theorem zL{a b:IntKind}(h:j4 a b=true):a=b:=by cases a<;>cases b<;>first|rfl|cases h
def nR(op:BinOp)(k:IntKind)(a b:Int):Option I:=
 match op with
 |.add=>some (.int k (k.wrap (a+b)))
 |.sub=>some (.int k (k.wrap (a-b)))
 |.mul=>some (.int k (k.wrap (a*b)))
 |.eql=>some (.bool (a==b))
 |.neq=>some (.bool (a != b))
 |.lss=>some (.bool (a<b))
 |.leq=>some (.bool (a<=b))
 |.gtr=>some (.bool (a>b))
 |.geq=>some (.bool (a >= b))
 |.and=>some (.int k (bits .and k a b))
 |.or=>some (.int k (bits .or k a b))
 |.xor=>some (.int k (bits .xor k a b))
 |.andNot=>some (.int k (bits .andNot k a b))
 |_=>none
def zW(op:BinOp)(k d:IntKind)(a b:Int):Option I:=
 match b with
 |.ofNat n=>match op with
  |.shl=>some (.int k (k.wrap (a*2 ^ (min n k.bits))))
  |.shr=>some (.int k (a.fdiv (2 ^ (min n k.bits))))
  |.quo=>bif AJ n 0 then none else bif j4 k d then some (.int k (k.wrap (a.tdiv (.ofNat n))))else none
  |.rem=>bif AJ n 0 then none else bif j4 k d then some (.int k (a.tmod (.ofNat n)))else none
  |_=>none
 |.negSucc n=>match op with
  |.quo=>bif j4 k d then some (.int k (k.wrap (a.tdiv (.negSucc n))))else none
  |.rem=>bif j4 k d then some (.int k (a.tmod (.negSucc n)))else none
  |_=>none
def oj:fY->I->Option Bool
 |.ptr,.dq=>some true
 |.ptr,.ak ..=>some false
 |.ptr,.ptr ..=>some false
 |.ptr,.al ..=>some false
 |.slice,.aq=>some true
 |.slice,.aX _ true _ _=>some false
 |.slice,.aX _ false _ (_::_)=>some false
 |.slice,.sl _ _ (_+1) _=>some false
 |.func,.func ..=>some false
 |.func,.bH=>some true
 |.iface,.iface ..=>some false
 |.iface,.dp=>some true
 |.map,.map _=>some false
 |.map,.fI _=>some false
 |.map,.cG=>some true
 |_,_=>none
def Iv:Bool->I->I->Option Bool
 |false,.int k a,.int d b=>bif j4 k d then some (a==b)else none
 |true,.bool a,.bool b=>some (a==b)
 |_,_,_=>none
def Y1:List Bool->List I->List I->Option Bool
 |[],[],[]=>some true
 |l::ls,x::xs,y::d=>match Iv l x y,Y1 ls xs d with
  |some a,some b=>some (a&&b)
  |_,_=>none
 |_,_,_=>none
def aO(agg:Bool)(off n:Nat)(cs:List I):Option I:=
 match agg with
 |true=>match takeN n (jc off cs)with
  |some r=>some (.agg r)
  |none=>none
 |false=>nth cs off
def mi(xs:List I)(J:List U):aL:=match xs with
  |[x]=>.ok x [] []
  |_=>.stop
def US(xs:List I)(J:List U):aL:=match xs with
  |[.bool c,.bool a,.bool b]=>.ok (.bool (bif c then a else b)) [] []
  |_=>.stop
def Zt(z:List I)(xs:List I)(J:List U):aL:=match xs with
  |[]=>.ok (.ak J.length 0) [] [(J.length,.box z)]
  |_=>.stop
def wS(xs:List I)(J:List U):aL:=match xs with
  |[x]=>match cellsOf x with
   |some cs=>.ok (.ak J.length 0) [] [(J.length,.box cs)]
   |none=>.stop
  |_=>.stop
def XJ(z:List I)(ps:List (Nat×Nat))(xs:List I)(J:List U):aL:=match fill z ps xs with
  |some cs=>.ok (.agg cs) [] []
  |none=>.stop
def Yq(sz:Nat)(n:Nat)(z:List I)(ps:List (Nat×Nat))(xs:List I)(J:List U):aL:=match fill z ps xs with
  |some cs=>match chunk sz n cs with
   |some rs=>.ok (.sl J.length 0 n true) [] [(J.length,.rows sz rs)]
   |none=>.stop
  |none=>.stop
def YQ(sz:Nat)(xs:List I)(J:List U):aL:=match xs with
  |[]=>.ok (.aX true true sz []) [] []
  |_=>.stop
def SG(agg:Bool)(n:Nat)(xs:List I)(J:List U):aL:=match xs with
  |[.ak b j]=>match ai J b with
   |.box row=>match aO agg j n row with
    |some v=>.ok v [b] []
    |none=>.stop
   |_=>.stop
  |[.al row j]=>match aO agg j n row with
   |some v=>.ok v [] []
   |none=>.stop
  |_=>.stop
def Ul(n:Nat)(xs:List I)(J:List U):aL:=match xs with
  |[.ak b j,x]=>match ai J b with
   |.box row=>match cellsOf x with
    | some cs=>bif AJ cs.length n then (match bW j cs row with
     |some row'=>.ok .aP [] [(b,.box row')]
     | none=>.stop)else .stop
    |none=>.stop
   |_=>.stop
  |_=>.stop
def Yi(xs:List I)(J:List U):aL:=match xs with
  |[.ak b j]=>.ok (.ak b j) [] []
  |[.ptr b i j]=>.ok (.ptr b i j) [] []
  |[.al row j]=>.ok (.al row j) [] []
  |[.func (.func f) a b]=>.ok (.func (.func f) a b) [] []
  |[.iface t v]=>.ok (.iface t v) [] []
  |_=>.stop
def Qn(op:BinOp)(isBool:Bool)(xs:List I)(J:List U):aL:=match xs with
  |[.int k a,.int d b]=>match (bif j4 k d then nR op k a b else none)with
   |some v=>.ok v [] []
   |none=>match zW op k d a b with
    |some v=>.ok v [] []
    |none=>.stop
  |[.str a,.str b]=>match op with
   |.eql=>.ok (.bool (a==b)) [] []
   |.neq=>.ok (.bool (!(a==b))) [] []
   |.add=>bif BY (a.length+b.length) 1099511627776 then .ok (.str (a++b)) [] []else .stop
   |_=>.stop
  | [.bool a,.bool b]=>bif isBool then (match op with
   |.eql=>.ok (.bool (a==b)) [] []
   |.neq=>.ok (.bool (!(a==b))) [] []
   | _=>.stop)else .stop
  |_=>.stop
def SO(c:fY)(neq:Bool)(left:Bool)(xs:List I)(J:List U):aL:=match xs with
  |[x,y]=>match oj c (bif left then y else x)with
   |some b=>.ok (.bool (bif neq then !b else b)) [] []
   |none=>.stop
  |_=>.stop
def HJ(neq:Bool)(ls:List Bool)(xs:List I)(J:List U):aL:=match xs with
  |[.agg a,.agg b]=>match Y1 ls a b with
   |some r=>.ok (.bool (bif neq then !r else r)) [] []
   |none=>.stop
  |_=>.stop
def qH(op:UnOp)(xs:List I)(J:List U):aL:=match xs with
  |[.bool b]=>match op with
   |.not=>.ok (.bool (!b)) [] []
   |_=>.stop
  |[.int k n]=>match op with
   |.neg=>.ok (.int k (k.wrap (0-n))) [] []
   |.xor=>.ok (.int k (bits .xor k (if k.signed then -1 else k.max) n)) [] []
   |_=>.stop
  |_=>.stop
def Il(k:IntKind)(xs:List I)(J:List U):aL:=match xs with
  |[.int _ n]=>.ok (.int k (k.wrap n)) [] []
  |_=>.stop
def XF(t:TypeId)(xs:List I)(J:List U):aL:=match xs with
  |[x]=>.ok (.iface t x) [] []
  |_=>.stop
def ZN(b:Fn)(n:Nat)(xs:List I)(J:List U):aL:=match takeN n xs with
  |some a=>.ok (.func b a (jc n xs)) [] []
  |none=>.stop
def XQ(xs:List I)(J:List U):aL:=match xs with
  |[]=>.ok (.map J.length) [] [(J.length,.map [])]
  |_=>.stop
def Qc(off:Nat)(xs:List I)(J:List U):aL:=match xs with
  |[.ak b j]=>.ok (.ak b (j+off)) [] []
  |[.ptr b i j]=>.ok (.ptr b i (j+off)) [] []
  |[.al row j]=>.ok (.al row (j+off)) [] []
  |_=>.stop
def Oy(agg:Bool)(off:Nat)(n:Nat)(xs:List I)(J:List U):aL:=match xs with
  |[.agg cs]=>match aO agg off n cs with
   |some v=>.ok v [] []
   |none=>.stop
  |_=>.stop
def Qo(len:Nat)(d:Nat)(xs:List I)(J:List U):aL:=match xs with
  |[.ak b j,.int _ (.ofNat i)]=>bif C3 i len then .ok (.ak b (j+i*d)) [] []else .stop
  |[.ptr b r j,.int _ (.ofNat i)]=>bif C3 i len then .ok (.ptr b r (j+i*d)) [] []else .stop
  |[.al row j,.int _ (.ofNat i)]=>bif C3 i len then .ok (.al row (j+i*d)) [] []else .stop
  |_=>.stop
def Ra(agg:Bool)(len:Nat)(b:Nat)(xs:List I)(J:List U):aL:=match xs with
  | [.agg cs,.int _ (.ofNat i)]=>bif C3 i len then (match aO agg (i * b) b cs with
   |some v=>.ok v [] []
   | none=>.stop)else .stop
  |_=>.stop
def Zk(i:Nat)(xs:List I)(J:List U):aL:=match xs with
  |[.bw b]=>match nth b i with
   |some v=>.ok v [] []
   |none=>.stop
  |_=>.stop
def Yn(xs:List I)(J:List U):aL:=match xs with
  |[.aq]=>.ok (.int .i64 0) [] []
  |[.cX]=>.ok (.int .i64 0) [] []
  |[.sl _ _ n _]=>.ok (.int .i64 n) [] []
  |[.aX _ _ _ rows]=>.ok (.int .i64 rows.length) [] []
  |_=>.stop
def ZW(xs:List I)(J:List U):aL:=match xs with
  |[.str s]=>.ok (.int .i64 s.length) [] []
  |_=>.stop
def Pv(n:Nat)(xs:List I)(J:List U):aL:=match xs with
  |[_]=>.ok (.int .i64 n) [] []
  |_=>.stop
def JB(xs:List I)(J:List U):aL:=match xs with
  |[.cG]=>.ok (.int .i64 0) [] []
  |[.map b]=>match ai J b with
   |.map es=>.ok (.int .i64 es.length) [b] []
   |_=>.stop
  |[.fI es]=>.ok (.int .i64 es.length) [] []
  |_=>.stop
def Jh(xs:List I)(J:List U):aL:=match xs with
  |[.int k a,.int _ b]=>.ok (.int k (if b<a then b else a)) [] []
  |_=>.stop
def H9(xs:List I)(J:List U):aL:=match xs with
  |[.int k a,.int _ b]=>.ok (.int k (if b>a then b else a)) [] []
  |_=>.stop
def UX(xs:List I)(J:List U):aL:=match xs with
  |[.str s]=>.ok (.iter J.length) [] [(J.length,.fo s 0)]
  |_=>.stop
def ZQ(t:TypeId)(ok:Bool)(z:I)(xs:List I)(J:List U):aL:=match xs with
  |[.iface u v]=>bif AJ u t then .ok (bif ok then .bw [v,.bool true]else v) [] []else (bif ok then .ok (.bw [z,.bool false]) [] []else .stop)
  |[.dp]=>bif ok then .ok (.bw [z,.bool false]) [] []else .stop
  |_=>.stop
def lr:List Nat->Nat->Bool
 |[],_=>false
 |x::l,n=>AJ x n||lr l n
theorem ZdA:∀ {l:List Nat} {n:Nat},lr l n=true->n∈l
 |[],_,h=>by cases h
 |x::l,n,h=>by
  simp only[lr,Bool.or_eq_true]at h;rcases h with h|h
  ·rw[fK h];simp
  ·exact DI _ (ZdA h)
def TY(b:List TypeId)(xs:List I)(J:List U):aL:=match xs with
  |[.iface u v]=>bif lr b u then .ok (.bw [.iface u v,.bool true]) [] []else .stop
  |[.dp]=>.ok (.bw [.dp,.bool false]) [] []
  |_=>.stop
def sT(k:MK)(xs:List I)(J:List U):aL:=
 match k with
 |.mv=>mi xs J
 |.pick=>US xs J
 |.alloc z=>Zt z xs J
 |.box=>wS xs J
 |.build z b=>XJ z b xs J
 |.mZ sz n z b=>Yq sz n z b xs J
 |.mC sz=>YQ sz xs J
 |.load agg n=>SG agg n xs J
 |.store n=>Ul n xs J
 |.nilCheck=>Yi xs J
 |.bin op isBool=>Qn op isBool xs J
 |.oQ c neq left=>SO c neq left xs J
 |.Cf neq ls=>HJ neq ls xs J
 |.un op=>qH op xs J
 |.conv k=>Il k xs J
 |.jg t=>XF t xs J
 |.kv fn n=>ZN fn n xs J
 |.makeMap=>XQ xs J
 |.fieldAddr off=>Qc off xs J
 |.field agg off n=>Oy agg off n xs J
 |.gY len d=>Qo len d xs J
 |.sO agg len d=>Ra agg len d xs J
 |.extract i=>Zk i xs J
 |.sR=>Yn xs J
 |.kr=>ZW xs J
 |.sQ n=>Pv n xs J
 |.nj=>JB xs J
 |.min2=>Jh xs J
 |.max2=>H9 xs J
 |.range=>UX xs J
 |.fL t ok z=>ZQ t ok z xs J
 |.gL f=>TY f xs J
 |_=>.stop
end Go.Ah
end
section
namespace Go.Ah
def eh(g:Gm):List I->List Value->Prop
 |[],[]=>True
 |x::xs,v::b=>g.den x v/\eh g xs b
 |_,_=>False
variable{g:Gm}
theorem eh.mono{b:Gm}(h:g.Le b):∀ {xs:List I} {vs:List Value},eh g xs vs->eh b xs vs
 |[],[],_=>trivial
 |_::_,_::_,⟨d,r⟩=>⟨Gm.mD h d,eh.mono h r⟩
theorem eh.length:∀ {xs:List I} {vs:List Value},eh g xs vs->xs.length=vs.length
 |[],[],_=>rfl
 |_::_,_::_,⟨_,r⟩=>by simp[eh.length r]
theorem eh.get:∀ {xs:List I} {vs:List Value},eh g xs vs->∀(i:Nat) (x:I) (v:Value),xs[i]?=some x->vs[i]?=some v->g.den x v
 |[],[],_,_,_,_,e,_=>by simp at e
 |x::xs,v::vs,⟨d,r⟩,i,y,u,b,f=>by
  cases i with
  |zero=>simp at b f;subst b f;exact d
  |succ i=>simp at b f;exact eh.get r i y u b f
theorem eh.ma:∀ {xs:List I} {vs:List Value},xs.length=vs.length->(∀(i:Nat) (x:I) (v:Value),xs[i]?=some x->vs[i]?=some v->g.den x v)->eh g xs vs
 |[],[],_,_=>trivial
 |[],_::_,e,_=>by simp at e
 |_::_,[],e,_=>by simp at e
 |x::xs,v::vs,e,h=>⟨h 0 x v rfl rfl,eh.ma (by simpa using e) (λi y u b d=>h (i+1) y u (by simpa using b) (by simpa using d))⟩
def Out(P:Program)(GL:aw)(w0:World)(L:Ln)(g:Gm)(i:Hp)(x:I):Result Next->Prop
 |.ok (.value u) d=>∃b,g.Le b/\bu GL w0 L b i d/\b.den x u
 |.ok .skip d=>∃b,g.Le b/\bu GL w0 L b i d/\x=.aP
 |.ok (.enter f args) d=>Calls P f args d λe j=>∃u,e=.returned u/\∃b,g.Le b/\bu GL w0 L b i j/\b.den x u
 |_=>False
def aG(P:Program)(GL:aw)(k:MK)(xs:List I)(h0:Hp)(v:I)(rd:List Nat)(up:List (Nat×U)):Prop:=
 ∀(o:Oper) (os:List Operand),cz P GL o.op k os->∀(d:World) (L:Ln) (g:Gm) (h:Hp) (w:World) (a:Act),bu GL d L g h w->eh g xs (os.map a.eval) ->
  (∀b∈rd,h b=h0 b)->(∀p∈up,h p.1=h0 p.1)->Out P GL d L g (cx h up) v ((execOp a.eval o).run P w)
def hp(J:List U):Hp:=λb=>J[b]?
theorem yT(J:List U):hp J J.length=none:=by simp[hp]
theorem wQ{J:List U}{b:Nat}{x:U}(h:ai J b=x)(hx:x≠.dead):hp J b=some x:=by
 unfold hp
 induction J generalizing b with
 |nil=>simp_all [ai]
 |cons y J d=>cases b<;>simp_all [ai]
section
variable {P:Program} {GL:aw}
variable{x:I}
theorem Out.here{w0:World}{L:Ln}{h:Hp}{w:World}{u:Value}(r:bu GL w0 L g h w)(d:g.den x u):Out P GL w0 L g (cx h []) x (.ok (.value u) w):=
 ⟨g,Gm.Le.refl g,r,d⟩
theorem Tl(x:I)(h0:Hp):aG P GL .mv [x] h0 x [] []:=by
 intro o os b i L g h w a r d _ _;generalize f:o.op=op at b;cases b with
 |move y=>simp only[execOp,f,Ak];exact Out.here r d.1
 |assign y=>simp only[execOp,f,Ak];exact Out.here r d.1
variable{v:Value}
theorem QD{b:Bool}(h:g.den (.bool b) v):v=.bool b:=by cases h;rfl
theorem Xp{k:IntKind}{n:Int}(h:g.den (.int k n) v):v=.int k n:=by cases h;rfl
theorem yQ{s:List UInt8}(h:g.den (.str s) v):∃t:ByteArray,v=.string t/\t.data.toList=s:=by cases h;exact⟨_,rfl,rfl⟩
theorem Yee(c x y:Bool)(h0:Hp):aG P GL .pick [.bool c,.bool x,.bool y] h0 (.bool (bif c then x else y)) [] []:=by
 intro o os b p L g h w a r d _ _;generalize f:o.op=op at b;cases b with
 |pick s z A=>
  obtain⟨h1,h2,h3,_⟩:=d;have i:=QD h1;have j:=QD h2;have e3:=QD h3;simp only[execOp,f,i,j,e3,asBool];simp
  grind [Out.here]
variable{t:TypeId}
theorem Bz(h:eg P t=some v)(w:World):(zeroValue t).run P w=.ok v w:=by
 unfold eg at h;unfold zeroValue typeInfo;cases b:P.info? t<;>simp_all
theorem ZE{n:Nat}(h:size? P t=some n)(w:World):(sizeOf t).run P w=.ok n w:=by
 unfold size? at h;unfold sizeOf typeInfo;cases b:P.info? t<;>simp_all
theorem Dg{b:Bool}(h:fN P t=some b)(w:World):(isAgg t).run P w=.ok b w:=by
 unfold fN at h;unfold isAgg;cases hu:P.underlying t with
 |none=>simp[hu]at h
 |some d=>
  simp only[AS,run_underlying hu,AE];cases d<;>simp_all
theorem XcP(h:Hp)(b:Nat)(x:U):cx h [(b,x)]=dQ h b x:=rfl
theorem bu.box{w0:World}{L:Ln}{h:Hp}{w:World}(r:bu GL w0 L g h w){b:Nat}(hn:h b=none)(row:List I)(arr:Array Value)(T:TypeId)
 (hs:arr.size=row.length)(hd:∀(j:Nat) (x:I) (v:Value),row[j]?=some x->arr[j]?=some v->g.den x v) :
  ∃d,g.Le d/\bu GL w0 L d (dQ h b (.box row)) (w.alloc (.cells arr T))/\d.den (.ak b 0) (.pointer (some ⟨w.heap.size,0,none⟩)):=by
 refine⟨_,r.ko hn ⟨w.heap.size,0,0,false,0⟩,r.alloc hn (cb:=⟨w.heap.size,0,0,false,0⟩) rfl rfl rfl ⟨arr,T,rfl,hs,λj x v f i=>?_⟩,.ak _ _ _ _ (Yy _ _ _)⟩;exact Gm.mD (r.ko hn ⟨w.heap.size,0,0,false,0⟩) (hd j x v f i)
theorem Xdi(h:v.oneCell'=true):v.cells = #[v]:=by cases v<;>simp_all [Value.cells,Kv]
theorem Rm{cs:List I}(h:cellsOf x=some cs)(d:g.den x v) :
  v.cells.size=cs.length/\(∀(j:Nat) (y:I) (u:Value),cs[j]?=some y->v.cells[j]?=some u->g.den y u)/\(∀y∈cs,y.cell=true):=by
 have one:∀y:I,y.cell=true->cellsOf y=some [y]->cellsOf y=some cs->g.den y v ->
   v.cells.size=cs.length/\(∀(j:Nat) (y:I) (u:Value),cs[j]?=some y->v.cells[j]?=some u->g.den y u)/\(∀y∈cs,y.cell=true):=by
  intro y o f b p;rw[f]at b;cases b;have s:=Xdi (Den.u9 p o)
  grind
 cases x with
 |agg xs=>
  simp only[cellsOf]at h;cases i:xs.all I.cell with
  |false=>simp[i]at h
  |true=>
   simp[i]at h;subst h;cases d with
   |agg _ _ r h1 h2=>exact⟨h1,λj y u f b=>h2 j y u f b,by simpa[List.all_eq_true]using i⟩
 |aP=>simp[cellsOf]at h
 |bw r=>simp[cellsOf]at h
 |when cs x=>simp[cellsOf]at h
 |_=>exact one _ rfl rfl h d
theorem Rb{l:List Value}{xs:List I}(h:XN l=some xs):∀y∈xs,y.cell=true:=by
 induction l generalizing xs with
 |nil=>simp only[XN]at h;cases h;simp
 |cons v l i=>
  simp only[XN]at h;cases b:qe v with
  |none=>simp[b]at h
  |some x=>
   cases d:XN l with
   |none=>simp[b,d]at h
   |some r=>
    simp only[b,d]at h;cases h;intro y f;rcases List.mem_cons.1 f with rfl|f
    ·unfold qe at b;split at b<;>first|(cases b;rfl)|cases b
    ·exact i d y f
theorem ZdH(z:List I)(h0:Hp)(b:Nat)(hn:h0 b=none):aG P GL (.alloc z) [] h0 (.ak b 0) [] [(b,.box z)]:=by
 intro o os d B L g h w a r _ _ C;have f:h b=none:=by simp_all
 generalize i:o.op=op at d;cases d with
 |alloc t v z p s=>
  simp only[execOp,i,Instr.alloc,AS,Bz p,AE,newVar,newRow,run_newObj,Ak];obtain⟨h1,h2⟩:=XX (M:=g.M) (c:=g.c) s;exact bu.box r f z v.cells t (by simpa using h1) (λj x u y A=>h2 j x u y (by simpa using A))
theorem XeE(x:I)(cs:List I)(hZ:cellsOf x=some cs)(h0:Hp)(b:Nat)(hn:h0 b=none):aG P GL .box [x] h0 (.ak b 0) [] [(b,.box cs)]:=by
 intro o os d p L g h w a r f _ s;have i:h b=none:=by simp_all
 generalize j:o.op=op at d;cases d with
 |box t y=>
  simp only[execOp,j,Instr.box,newVar,newRow,AS,run_newObj,AE,Ak];obtain⟨h1,h2,_⟩:=Rm hZ f.1;exact bu.box r i cs _ t h1 h2
theorem Jk{agg:Bool}{off n:Nat}{cs:List I}{arr:Array Value}(h:aO agg off n cs=some x)(hlen:cs.length<=arr.size)
 (hd:∀(j:Nat) (y:I) (u:Value),cs[j]?=some y->arr[j]?=some u->g.den y u) :
  (agg=true->(n≠0->off+n<=arr.size)/\g.den x (.agg (arr.extract off (off+n))))/\(agg=false->∃u,arr[off]?=some u/\g.den x u):=by
 cases agg with
 |true=>
  simp only[aO]at h;cases b:takeN n (jc off cs)with
  |none=>simp[b]at h
  |some r=>
   simp only[b]at h;cases h;obtain⟨h1,h2,h3⟩:=UQ b;rw[OI,Gg]at h2;refine⟨λ_=>⟨λo=>by omega,?_⟩,by simp⟩;refine .agg _ _ _ (by simp;omega) (λj y u f p=>?_);have i:j<n:=by grind
   rw[h3 j i,OI,GN]at f;have d:off+j<arr.size:=by omega
   refine hd _ y u f ?_
   grind
 |false=>
  simp only[aO,Q4]at h;refine⟨by simp,λ_=>?_⟩;have d:off<arr.size:=by grind
  exact⟨arr[off],by simp[d],hd off x _ h (by simp[d])⟩
end
end Go.Ah
end
section
namespace Go.Ah
section
variable {P:Program} {GL:aw}
theorem QX(b o n:Nat):ID ⟨b,o,none⟩ n=⟨b,o+n,none⟩:=by
 unfold ID;split<;>simp_all
variable{b:Nat}
variable{w:World}
theorem SK{t:TypeId}{agg:Bool}{n:Nat}(ha:fN P t=some agg)(hn:size? P t=some n){arr:Array Value}{T:TypeId}{fr:Nat×Nat}
 (hb:∀o v,arr[o]?=some v->w.cell? ⟨b,o,none⟩=some v)(off:Nat) :
  (agg=true->(n≠0->off+n<=arr.size)->(loadVar t ⟨b,off,none⟩).run P w=.ok (.agg (arr.extract off (off+n))) w) /\
  (agg=false->∀v,arr[off]?=some v->(loadVar t ⟨b,off,none⟩).run P w=.ok v w):=by
 have _:=T;have _:=fr;constructor
 ·rintro rfl hle;have d:=run_loadCells_list (P:=P) w ⟨b,off,none⟩ (arr.extract off (off + n)).toList (λj v e=>by
   grind [QX])
  have hlen:(arr.extract off (off+n)).toList.length=n:=by
   grind
  rw[hlen]at d;simp only[loadVar,AS,Dg ha,AE,Hm,if_true,ZE hn,d,Ak,FR]
 simp_all [loadVar,Dg]
theorem Z8{arr:Array Value}{T:TypeId}{fr:Nat×Nat}(h:w.heap[b]?=some (.cells arr T fr)):∀o v,arr[o]?=some v->w.cell? ⟨b,o,none⟩=some v:=by
 grind [cell_of_row]
theorem Zcn(agg:Bool)(n b j:Nat)(row:List I)(v:I)(h0:Hp)(hb:h0 b=some (.box row))(hv:aO agg j n row=some v) :
  aG P GL (.load agg n) [.ak b j] h0 v [b] []:=by
 intro o os i F L g h w a r z G _;have p:h b=some (.box row):=by simp_all
 generalize H:o.op=op at i;cases i with
 |load t x _ _ A B=>
  have d:=z.1;generalize hu:a.eval x=u0 at d;cases d with
  |ak _ _ _ f s=>
  cases y:f.cI with
  |true=>have:=r.bd b _ f p rfl s y;cases this
  |false=>
  obtain⟨_,_,K,C,arr,T,rfl,hs,D⟩:=r.own b _ f p rfl s y;obtain⟨N,E⟩:=Jk (g:=g) hv (by omega) D;obtain⟨Q,R⟩:=SK A B (T:=T) (fr:=(0,0)) (Z8 C) j;cases agg with
  |true=>
   simp_all [execOp,Fl,ET,Out.here]
  |false=>
   obtain⟨u,V,X⟩:=E rfl;simp_all [execOp,Fl,ET,Out.here]
theorem SF{w0:World}{L:Ln}{g:Gm}{h:Hp}(r:bu GL w0 L g h w){o:Nat}{v:Value}(e:iS g.M b o=some v):w.cell? ⟨b,o,none⟩=some v:=by
 unfold iS at e;cases hb:g.M b with
 |none=>simp[hb]at e
 |some x=>
  cases x with
  |cells c t d=>simp[hb]at e;exact Z8 (r.aZ b _ hb) o v e
  |_=>simp[hb]at e
theorem Zbz{w0:World}{L:Ln}{g:Gm}{h:Hp}(r:bu GL w0 L g h w){t:TypeId}{agg:Bool}{n:Nat}(ha:fN P t=some agg)(hn:size? P t=some n)
 {row:List I}{j:Nat}{v:I}(hv:aO agg j n row=some v){aD off:Nat}{f:Nat->Value}(h1:∀k,k<row.length->iS g.M aD (off+k)=some (f k))
 (h2:∀k x,row[k]?=some x->Den g.M bE x (f k)):∃u,(loadVar t ⟨aD,off+j,none⟩).run P w=.ok u w/\g.den v u:=by
 have key:=Jk (g:=g) (arr:=((Ao row.length).map f).toArray) hv (by simp) (λk y u o p=>by
  have s:=(eS o).1;simp[s]at p;subst p;exact(h2 k y o).mono (iJ.refl _) (fW.bE _))
 cases agg with
 |true=>
  obtain⟨d,i⟩:=key.1 rfl;simp only[II,List.length_map,List.length_range]at d;have A:=run_loadCells (P:=P) w ⟨aD,off + j,none⟩ n (λk=>f (j + k)) (λk s=>by
   grind [QX,SF])
  refine⟨_,by simp only[loadVar,AS,Dg ha,AE,Hm,if_true,ZE hn,A,Ak];rfl,?_⟩;have:((Ao n).map λk=>f (j+k)).toArray=(((Ao row.length).map f).toArray).extract j (j+n):=by
   grind
  rw[this];exact i
 |false=>
  obtain⟨u,d,i⟩:=key.2 rfl;have z:j<row.length:=by
   grind
  simp[z]at d;subst d;refine⟨f j,?_,i⟩;simp only[loadVar,AS,Dg ha,AE,Hm,B8,if_false,run_load,SF r (h1 j z)]
theorem Ycn(agg:Bool)(n j:Nat)(row:List I)(v:I)(h0:Hp)(hv:aO agg j n row=some v) :
  aG P GL (.load agg n) [.al row j] h0 v [] []:=by
 intro o os i z L g h w a r p _ _;generalize A:o.op=op at i;cases i with
 |load t x _ _ s y=>
  have d:=p.1;generalize hu:a.eval x=u0 at d;cases d with
  |al _ _ _ aD off f h1 h2=>
   obtain⟨u,B,C⟩:=Zbz r s y hv h1 h2;simp_all [execOp,Fl,ET,Out.here]
end
end Go.Ah
end
section
namespace Go.Ah
section
variable {P:Program} {GL:aw}
theorem Rf(w:World)(g:Nat)(fG cs:Array Value)(t:TypeId)(fr:Nat×Nat)(hg:w.heap[g]?=some (.cells fG t fr)):(w.setRow g cs).heap=w.heap.setIfInBounds g (.cells cs t fr):=by
 apply GP
 grind [setRow_heap,setRow_other]
variable{g:Gm}
theorem Rp{x:I}{v:Value}(hx:x.cell=true)(d:g.den x v):v.oneCell'=true:=Den.u9 d hx
theorem YdJ(n b j:Nat)(row row' cs:List I)(x:I)(h0:Hp)(hb:h0 b=some (.box row))(hZ:cellsOf x=some cs)(hlen:cs.length=n)(s:bW j cs row=some row') :
  aG P GL (.store n) [.ak b j,x] h0 .aP [] [(b,.box row')]:=by
 intro o os F w0 L g h w a r K _ gG;have A:h b=some (.box row):=by simp_all
 generalize ho:o.op=op at F;cases F with
 |store t y z _ hn=>
  obtain⟨d,N,_⟩:=K;generalize hu:a.eval y=u0 at d;cases d with
  |ak _ _ _ f B=>
  cases C:f.cI with
  |true=>have:=r.bd b _ f A rfl B C;cases this
  |false=>
  obtain⟨_,_,o',D,arr,T,rfl,hs,G⟩:=r.own b _ f A rfl B C;obtain⟨Q,c2,c3⟩:=Rm hZ N;obtain⟨s1,s2,R⟩:=Ui s;have S:∀v∈(a.eval z).cells.toList,v.oneCell'=true:=by
   grind [Et,Rp,AI]
  have E:j+0+(a.eval z).cells.toList.length<=arr.size\/cs=[]:=by
   grind
  have V:∃i,(storeCells ⟨f.aD,j,none⟩ (a.eval z).cells.toList).run P w=.ok () (w.setRow f.aD i)/\i.size=row'.length /\
    ∀(k:Nat) (y:I) (u:Value),row'[k]?=some y->i[k]?=some u->g.den y u:=by
   rcases E with E|X
   ·refine⟨_,run_storeCells_at P f.aD j T _ 0 arr w D E S,?_,λk y u p H=>?_⟩
    ·grind
    ·rw[R k]at p;by_cases Y:j<=k/\k<j+cs.length
     ·grind
     ·rw[aB Y]at p;refine G k y u p ?_;have jd:k<row.length:=(eS p).1;by_cases nE:k<j
      ·grind
      grind
   ·subst X;have oY:(a.eval z).cells.toList=[]:=by
     grind
    have dR:row'=row:=by simp[bW]at s;exact s.symm
    subst dR;exact⟨arr,by rw[oY];simp only[storeCells];rw[setRow_self w f.aD arr T (0,0) D];rfl,hs,G⟩
  obtain⟨i,f1,f2,f3⟩:=V;have ei:(a.eval z).cells.size=n:=by rw[Q,hlen]
  have bJ:(execOp a.eval o).run P w=.ok .skip (w.setRow f.aD i):=by
   simp_all [execOp,LU,ET,storeVar,ZE]
  rw[bJ];refine⟨g,Gm.Le.refl g,?_,rfl⟩;exact r.write A rfl B C rfl rfl rfl rfl (Rf w _ arr i T (0,0) D) ⟨i,T,rfl,f2,λk y u p H=>f3 k y u p H⟩
theorem Z3(x:I)(s:(∃b j,x=.ak b j)\/(∃b i j,x=.ptr b i j)\/(∃row j,x=.al row j)\/(∃f a b,x=.func (.func f) a b)\/(∃t v,x=.iface t v))(h0:Hp) :
  aG P GL .nilCheck [x] h0 x [] []:=by
 intro o os p A L g h w a r z _ _;generalize B:o.op=op at p;cases p with
 |nilCheck y=>
  have d:=z.1;have d0:=d;generalize hu:a.eval y=u0 at d d0;rcases s with ⟨b,j,rfl⟩|⟨b,i,j,rfl⟩|⟨row,j,rfl⟩|⟨f,xs,C,rfl⟩|⟨t,v,rfl⟩
  ·cases d;simp_all [execOp,Out.here]
  ·cases d;simp_all [execOp,Out.here]
  ·cases d;simp_all [execOp,Out.here]
  ·cases d;simp_all [execOp,Out.here]
  ·cases d;simp_all [execOp,Out.here]
variable{t:TypeId}
variable{op:BinOp}
theorem XL{o:Oper}{b:TypeId}{x y:Operand}(ho:o.op=.binOp op t x y b){a:Act}{u v z:Value}{w:World}(hu:a.eval x=u)(hv:a.eval y=v)
 (hg:(eqGuard op t x y u v).run P w=.ok () w)(hr:(binOp op t u v).run P w=.ok z w):(execOp a.eval o).run P w=.ok (.value z) w:=by
 simp_all [execOp]
variable{v:I}
theorem ZdS{k:IntKind}{a b:Int}(h:nR op k a b=some v)(t:TypeId)(w:World):∃u,(binOp op t (.int k a) (.int k b)).run P w=.ok u w/\g.den v u:=by
 cases op<;>simp only[nR,E7]at h<;>first
  |cases h;done
  |(subst h;refine⟨_,by simp only[binOp_add,binOp_sub,binOp_mul,binOp_eql,binOp_neq,binOp_lss,binOp_leq,binOp_gtr,binOp_geq,binOp_and,binOp_or,binOp_xor,binOp_andNot,intBits_and,intBits_or,intBits_xor,intBits_andNot,Mu,Ak]<;>rfl,?_⟩;constructor)
theorem Yec(op:BinOp)(d:Bool)(k:IntKind)(m n:Int)(v:I)(hv:nR op k m n=some v)(h0:Hp):aG P GL (.bin op d) [.int k m,.int k n] h0 v [] []:=by
 intro o os b p L g h w a r f _ _;generalize i:o.op=s at b;cases b with
 |bin _ t A x y _ _=>
  obtain⟨d1,j,_⟩:=f;obtain⟨z,h1,h2⟩:=ZdS (P:=P) (g:=g) hv t w;rw[XL i (Xp d1) (Xp j) (by rw[eqGuard_at_int];rfl) h1];exact Out.here r h2
theorem YdS{k f:IntKind}{a b:Int}(h:zW op k f a b=some v)(t:TypeId)(w:World):∃u,(binOp op t (.int k a) (.int f b)).run P w=.ok u w/\g.den v u:=by
 unfold zW at h;split at h
 ·rename_i n;split at h
  ·cases h;refine⟨_,?_,Den.int _ _ _⟩;rfl
  ·cases h;refine⟨_,?_,Den.int _ _ _⟩;rfl
  ·cases h0:AJ n 0<;>rw[h0]at h
   ·cases d:j4 k f<;>rw[d]at h
    ·cases h
    ·cases h;have:=zL d;subst this;refine⟨_,?_,Den.int _ _ _⟩;have i:¬(Mz n=0):=by intro e;simp_all
     simp_all [binOp,Hc]
   ·cases h
  ·cases h0:AJ n 0<;>rw[h0]at h
   ·cases d:j4 k f<;>rw[d]at h
    ·cases h
    ·cases h;have:=zL d;subst this;refine⟨_,?_,Den.int _ _ _⟩;have i:¬(Mz n=0):=by intro e;simp_all
     simp_all [binOp,Hc]
   ·cases h
  ·cases h
 ·rename_i n;split at h
  ·cases d:j4 k f<;>rw[d]at h
   ·cases h
   ·cases h;have:=zL d;subst this;refine⟨_,?_,Den.int _ _ _⟩;simp[binOp,Hc]
  ·cases d:j4 k f<;>rw[d]at h
   ·cases h
   ·cases h;have:=zL d;subst this;refine⟨_,?_,Den.int _ _ _⟩;simp[binOp,Hc]
  ·cases h
theorem Xec(op:BinOp)(f:Bool)(k b:IntKind)(m n:Int)(v:I)(hv:zW op k b m n=some v)(h0:Hp):aG P GL (.bin op f) [.int k m,.int b n] h0 v [] []:=by
 intro o os d s L g h w a r i _ _;generalize j:o.op=A at d;cases d with
 |bin _ t B x y _ _=>
  obtain⟨d1,p,_⟩:=i;obtain⟨z,h1,h2⟩:=YdS (P:=P) (g:=g) hv t w;rw[XL j (Xp d1) (Xp p) (by rw[eqGuard_at_int];rfl) h1];exact Out.here r h2
theorem Ycq(s:ByteArray):s.toList=s.data.toList:=Fv s
theorem ZcW(op:BinOp)(A:Bool)(s t:List UInt8)(neq:Bool)(mn:op=if neq then .neq else .eql)(h0:Hp):aG P GL (.bin op A) [.str s,.str t] h0 (.bool (bif neq then !(s==t)else s==t)) [] []:=by
 intro o os d D L g h w a r B _ _;generalize f:o.op=E at d;cases d with
 |bin _ ty b x y _ _=>
  obtain⟨d1,C,_⟩:=B;obtain⟨i,j,rfl⟩:=yQ d1;obtain⟨b,p,rfl⟩:=yQ C;subst mn;cases neq
  ·rw[XL f j p (by rw[eqGuard_at_string];rfl) (z:=.bool (i.data.toList==b.data.toList)) (by simp[binOp,Ht,Ycq])];exact Out.here r (.bool _ _)
  ·rw[XL f j p (by rw[eqGuard_at_string];rfl) (z:=.bool (!(i.data.toList==b.data.toList))) (by simp[binOp,Ht,Ycq])];exact Out.here r (.bool _ _)
theorem Zec(i:Bool)(s t:List UInt8)(hl:BY (s.length+t.length) 1099511627776=true)(h0:Hp):aG P GL (.bin .add i) [.str s,.str t] h0 (.str (s++t)) [] []:=by
 intro o os f E L g h w a r j _ _;generalize p:o.op=F at f;cases f with
 |bin _ ty b x y _ _=>
  obtain⟨d1,A,_⟩:=j;obtain⟨d,B,rfl⟩:=yQ d1;obtain⟨b,C,rfl⟩:=yQ A;have hl:=iq hl;have h1:d.size=d.data.toList.length:=by simp only[DU];rfl
  have h2:b.size=b.data.toList.length:=by simp only[DU];rfl
  have hm:AF.max=9223372036854775807:=rfl;have D:¬(((d.size+b.size:Nat):Int)>AF.max):=by rw[hm];omega
  rw[XL p B C (by rw[eqGuard_at_string];rfl) (z:=.string (d++b)) (by simp only[binOp,Ht];rw[aB D];rfl)];refine Out.here r ?_;have:(d++b).data.toList=d.data.toList++b.data.toList:=by rfl
  rw[<-this];exact .str _ _
theorem QcV(op:BinOp)(m n:Bool)(neq:Bool)(mn:op=if neq then .neq else .eql)(h0:Hp):aG P GL (.bin op true) [.bool m,.bool n] h0 (.bool (bif neq then !(m==n)else m==n)) [] []:=by
 intro o os b j L g h w a r i _ _;generalize d:o.op=p at b;cases b with
 |bin _ ty s x y _ hb=>
  obtain⟨d1,f,_⟩:=i;subst mn;cases neq
  ·rw[XL d (QD d1) (QD f) (by rw[eqGuard_at_bool];rfl) (run_eql_bool w ty m n (hb rfl))];exact Out.here r (.bool _ _)
  ·rw[XL d (QD d1) (QD f) (by rw[eqGuard_at_bool];rfl) (run_neq_bool w ty m n (hb rfl))];exact Out.here r (.bool _ _)
theorem Xdc(b:Bool)(h0:Hp):aG P GL (.un .not) [.bool b] h0 (.bool (!b)) [] []:=by
 intro o os d j L g h w a r f _ _;generalize i:o.op=p at d;cases d with
 |un _ t x=>simp only[execOp,i,QD f.1,MC,AS,Ak,AE];exact Out.here r (.bool _ _)
theorem Ydc(k:IntKind)(n:Int)(h0:Hp):aG P GL (.un .neg) [.int k n] h0 (.int k (k.wrap (0-n))) [] []:=by
 intro o os b i L g h w a r d _ _;generalize f:o.op=j at b;cases b with
 |un _ t x=>simp only[execOp,f,Xp d.1,MC,Mu,AS,Ak,AE];exact Out.here r (.int _ _ _)
theorem Zed(k f:IntKind)(n:Int)(h0:Hp):aG P GL (.conv k) [.int f n] h0 (.int k (k.wrap n)) [] []:=by
 intro o os b y L g h w a r i _ _;generalize j:o.op=z at b;cases b with
 |conv s d x _ hs hd=>
  obtain⟨A,p⟩:=An.1 hs;simp only[execOp,j,Xp i.1,convert,AS,run_underlying p,run_underlying hd,AE,Conv.intToInt,Ak];exact Out.here r (.int _ _ _)
theorem XcD(t:TypeId)(x:I)(h0:Hp):aG P GL (.jg t) [x] h0 (.iface t x) [] []:=by
 intro o os b j L g h w a r d _ _;generalize f:o.op=p at b;cases b with
 |jg _ y i=>
  simp only[execOp,f,AS,run_makeInterface w t _ i,AE,Ak];exact Out.here r (.iface _ _ _ _ d.1)
theorem Xdb(f:Fn)(n:Nat)(xs ys:List I)(hn:xs.length=n)(h0:Hp):aG P GL (.kv f n) (xs++ys) h0 (.func f xs ys) [] []:=by
 intro o os j A L g h w a r b _ _;generalize p:o.op=B at j;cases j with
 |kv _ us C=>
  simp only[execOp,p,Instr.makeFunc,AS,Ak,AE];have s:=b.length;simp at s;refine Out.here r (.func _ _ _ _ _ _ (by simp[hn]) (by simp;omega) (λi x v d y=>?_) (λi x v d y=>?_))
  ·have z:=(eS d).1;refine b.get i x v (by grind) ?_
   grind
  ·have z:=(eS d).1;refine b.get (xs.length+i) x v (by simp_all) ?_;simp_all
theorem YcD(h0:Hp)(b:Nat)(hn:h0 b=none):aG P GL .makeMap [] h0 (.map b) [] [(b,.map [])]:=by
 intro o os d j L g h w a r _ _ p;have f:h b=none:=by simp_all
 generalize i:o.op=op at d;cases d with
 |makeMap t=>
  simp only[execOp,i,Instr.makeMap,Gd,AS,run_newObj,Ak,AE];exact⟨_,r.ko f ⟨w.heap.size,0,0,false,0⟩,r.alloc f (cb:=⟨w.heap.size,0,0,false,0⟩) rfl rfl rfl ⟨#[],0,rfl,rfl,by simp⟩,.map _ _ _ (Yy _ _ _)⟩
theorem QbE{n:Nat}(hn:size? P t=some n)(h0:n≠0)(a:Addr)(fd:Field)(ht:fd.type=t)(w:World):(fieldPlace a fd).run P w=.ok (a.add fd.offset) w:=by
 simp_all [fieldPlace,ZE]
theorem UY(off:Nat)(x y:I)(hxy:(∃b j,x=.ak b j/\y=.ak b (j+off))\/(∃b i j,x=.ptr b i j/\y=.ptr b i (j+off))\/(∃row j,x=.al row j/\y=.al row (j+off)))(h0:Hp) :
  aG P GL (.fieldAddr off) [x] h0 y [] []:=by
 intro o os D Q L g h w a r E _ _;generalize F:o.op=op at D;cases D with
 |fieldAddr t z f R fd n hu hf G H=>
  have d:=E.1;generalize B:a.eval z=u0 at d;have key:∀b A,(execOp a.eval o).run P w=.ok (.value (.pointer (some ⟨b,A+fd.offset,none⟩))) w\/a.eval z≠.pointer (some ⟨b,A,none⟩):=by
   intro b A;by_cases he:a.eval z=.pointer (some ⟨b,A,none⟩)
   ·left;simp only[execOp,F,he,Instr.fieldAt,AS,run_underlying hu,AE,hf,ET,Ak,QbE G H _ fd rfl,QX]
   ·exact .inr he
  rcases hxy with ⟨b,j,rfl,rfl⟩|⟨b,i,j,rfl,rfl⟩|⟨row,j,rfl,rfl⟩
  ·cases d with
   |ak _ _ _ p C=>
    rw[(key p.aD j).resolve_right (λs=>s B)];exact Out.here r (.ak _ _ _ _ C)
  ·cases d with
   |ptr _ _ _ _ p C=>
    rw[(key p.aD (p.base+i*p.sz+j)).resolve_right (λs=>s B),EG];exact Out.here r (.ptr _ _ _ _ _ C)
  ·cases d with
   |al _ _ _ aD K N h1 h2=>
    rw[(key aD (K+j)).resolve_right (λs=>s B),EG];exact Out.here r (.al _ _ _ _ _ N h1 h2)
theorem ZcV{agg:Bool}{n:Nat}(ha:fN P t=some agg)(hn:size? P t=some n){cs:List I}{arr:Array Value}{off:Nat}(hv:aO agg off n cs=some v)(hs:arr.size=cs.length)
 (hd:∀(j:Nat) (y:I) (u:Value),cs[j]?=some y->arr[j]?=some u->g.den y u)(w:World):∃u,(part t arr off).run P w=.ok u w/\g.den v u:=by
 obtain⟨d,b⟩:=Jk (g:=g) hv (by omega) hd;cases agg with
 |true=>
  simp_all [part,Dg,ZE]
 |false=>
  obtain⟨u,f,i⟩:=b rfl;simp_all [part,Dg]
theorem YdI(agg:Bool)(off n:Nat)(cs:List I)(v:I)(hv:aO agg off n cs=some v)(h0:Hp):aG P GL (.field agg off n) [.agg cs] h0 v [] []:=by
 intro o os b s L g h w a r i _ _;generalize x:o.op=op at b;cases b with
 |field t z f y fd _ _ hu hf j p=>
  have d:=i.1;generalize A:a.eval z=u0 at d;cases d with
  |agg _ _ B h1 h2=>
   obtain⟨u,C,D⟩:=ZcV p j hv h1 h2 w;simp_all [execOp,Instr.field,asAgg,run_underlying,Out.here]
theorem Yed(agg:Bool)(len n:Nat)(cs:List I)(v:I)(k:IntKind)(i:Nat)(hi:i<len)(hv:aO agg (i*n) n cs=some v)(h0:Hp):aG P GL (.sO agg len n) [.agg cs,.int k (.ofNat i)] h0 v [] []:=by
 intro o os b B L g h w a r f _ _;generalize j:o.op=op at b;cases b with
 |sO t z y _ e _ _ hu p s=>
  obtain⟨d,x,_⟩:=f;generalize A:a.eval z=u0 at d;cases d with
  |agg _ _ C h1 h2=>
   obtain⟨u,D,E⟩:=ZcV s p hv h1 h2 w;simp only[execOp,j,A,Xp x,MQ,asIntOf,AS,run_underlying hu,AE,Ak];simp_all [ZE,Out.here]
theorem UR(len n:Nat)(x y:I)(k:IntKind)(i:Nat)(hi:i<len)
 (hxy:(∃b j,x=.ak b j/\y=.ak b (j+i*n))\/(∃b r j,x=.ptr b r j/\y=.ptr b r (j+i*n))\/(∃row j,x=.al row j/\y=.al row (j+i*n)))(h0:Hp) :
  aG P GL (.gY len n) [x,.int k (.ofNat i)] h0 y [] []:=by
 intro o os A G L g h w a r B _ _;generalize C:o.op=op at A;cases A with
 |gY t z q _ e _ hu H=>
  obtain⟨d,D,_⟩:=B;generalize f:a.eval z=u0 at d;have key:∀b p,a.eval z=.pointer (some ⟨b,p,none⟩)->(execOp a.eval o).run P w=.ok (.value (.pointer (some ⟨b,p+i*n,none⟩))) w:=by
   intro b p he;simp only[execOp,C,he,Xp D,G6,asIntOf,AS,run_underlying hu,AE,ET,Ak];rw[aE ⟨Int.natCast_nonneg i,Int.ofNat_lt.2 hi⟩];simp_all [ZE,QX]
  rcases hxy with ⟨b,j,rfl,rfl⟩|⟨b,K,j,rfl,rfl⟩|⟨row,j,rfl,rfl⟩
  ·cases d with
   |ak _ _ _ E s=>rw[key _ _ f];exact Out.here r (.ak _ _ _ _ s)
  ·cases d with
   |ptr _ _ _ _ E s=>rw[key _ _ f,EG];exact Out.here r (.ptr _ _ _ _ _ s)
  ·cases d with
   |al _ _ _ aD N F h1 h2=>rw[key _ _ f,EG];exact Out.here r (.al _ _ _ _ _ F h1 h2)
theorem ZcD(i:Nat)(vs:List I)(v:I)(hv:vs[i]?=some v)(h0:Hp):aG P GL (.extract i) [.bw vs] h0 v [] []:=by
 intro o os b x L g h w a r f _ _;generalize j:o.op=op at b;cases b with
 |extract z _=>
  have d:=f.1;generalize p:a.eval z=u0 at d;cases d with
  |bw _ _ us h1 h2=>
   have s:i<us.size:=by grind
   have he:us[i]?=some us[i]:=by simp[s]
   simp only[execOp,j,p,Instr.extract,he,AS,Ak,AE];exact Out.here r (h2 i v _ hv he)
theorem Rv(x:I)(n:Int)(j:(x=.aq/\n=0)\/(x=.cX/\n=0)\/(∃b o l e,x=.sl b o l e/\n=l)\/(∃e q s rows,x=.aX e q s rows/\n=rows.length))(h0:Hp):aG P GL .sR [x] h0 (.int .i64 n) [] []:=by
 intro o os i C L g h w a r y _ _;generalize A:o.op=op at i;cases i with
 |sR t e z hu=>
  have d:=y.1;generalize f:a.eval z=u0 at d;have key:∀p m c,a.eval z=.slice p m c->(execOp a.eval o).run P w=.ok (.value (.int .i64 m)) w:=by
   intro p m c he;simp[execOp,A,resolve,invoke,builtin,FT,he,run_underlying hu,goInt]
  rcases j with ⟨rfl,rfl⟩|⟨rfl,rfl⟩|⟨b,D,l,B,rfl,rfl⟩|⟨B,q,s,rows,rfl,rfl⟩
  ·cases d;rw[key _ _ _ f];exact Out.here r (.int _ _ _)
  ·cases d;rw[key _ _ _ f];exact Out.here r (.int _ _ _)
  ·cases d<;>(rw[key _ _ _ f];exact Out.here r (.int _ _ _))
  ·cases d;rw[key _ _ _ f];exact Out.here r (.int _ _ _)
theorem Qda(s:List UInt8)(h0:Hp):aG P GL .kr [.str s] h0 (.int .i64 s.length) [] []:=by
 intro o os d p L g h w a r f _ _;generalize i:o.op=op at d;cases d with
 |kr t z hu=>
  obtain⟨b,j,rfl⟩:=yQ f.1;have:(execOp a.eval o).run P w=.ok (.value (.int .i64 b.size)) w:=by
   simp[execOp,i,resolve,invoke,builtin,FT,j,run_underlying hu,goInt]
  rw[this,show (b.size:Int)=(b.data.toList.length:Nat) by simp];exact Out.here r (.int _ _ _)
theorem Xed(n:Nat)(x:I)(h0:Hp):aG P GL (.sQ n) [x] h0 (.int .i64 n) [] []:=by
 intro o os b f L g h w a r _ _ _;generalize d:o.op=op at b;cases b with
 |sQ t e _ z hu=>
  have:(execOp a.eval o).run P w=.ok (.value (.int .i64 n)) w:=by
   simp[execOp,d,resolve,invoke,builtin,FT,run_underlying hu,goInt]
  rw[this];exact Out.here r (.int _ _ _)
theorem Zee(k f:IntKind)(x y:Int)(h0:Hp):aG P GL .min2 [.int k x,.int f y] h0 (.int k (if y<x then y else x)) [] []:=by
 intro o os b j L g h w a r d _ _;generalize i:o.op=op at b;cases b with
 |min2 s p q=>
  have:(execOp a.eval o).run P w=.ok (.value (.int k (if y<x then y else x))) w:=by
   simp[execOp,i,resolve,invoke,builtin,Xp d.1,Xp d.2.1,run_min_int2]
  rw[this];exact Out.here r (.int _ _ _)
theorem Qed(k f:IntKind)(x y:Int)(h0:Hp):aG P GL .max2 [.int k x,.int f y] h0 (.int k (if y>x then y else x)) [] []:=by
 intro o os b j L g h w a r d _ _;generalize i:o.op=op at b;cases b with
 |max2 s p q=>
  have:(execOp a.eval o).run P w=.ok (.value (.int k (if y>x then y else x))) w:=by
   simp[execOp,i,resolve,invoke,builtin,Xp d.1,Xp d.2.1,run_max_int2]
  rw[this];exact Out.here r (.int _ _ _)
end
end Go.Ah
end
section
namespace Go.Ah
section
variable {P:Program} {GL:aw}
theorem Ycd(off:Nat):∀(l:List Value) (j:Nat) (cells:Array Value),off+j+l.length<=cells.size ->
  ((l.zipIdx j).foldl (λ(cs:Array Value) (p:Value×Nat)=>cs.setIfInBounds (off+p.2) p.1) cells).size=cells.size /\
  ∀k:Nat,((l.zipIdx j).foldl (λ(cs:Array Value) (p:Value×Nat)=>cs.setIfInBounds (off+p.2) p.1) cells)[k]?=if off+j<=k/\k<off+j+l.length then l[k-(off+j)]? else cells[k]?
 |[],j,cells,_=>by simp;intro k h1 h2;omega
 |v::l,j,cells,h=>by
  simp only[List.zipIdx_cons,List.foldl_cons];simp only[A1]at h;obtain⟨h1,h2⟩:=Ycd off l (j+1) (cells.setIfInBounds (off+j) v) (by simp;omega)
  grind
theorem PO{g:Gm}{place:Nat->Option (Nat×Nat)}:∀(parts:List (Nat×Value)) (ps:List (Nat×Nat)) (xs:List I) (z cs:List I) (cells:Array Value),
  fill z ps xs=some cs->parts.map (λp=>place p.1)=ps.map some->eh g xs (parts.map (·.2))->cells.size=z.length ->
  (∀(j:Nat) (y:I) (u:Value),z[j]?=some y->cells[j]?=some u->g.den y u)->(∀y∈z,y.cell=true) ->
  ∃b,Gs place cells parts=some b/\b.size=cs.length/\(∀(j:Nat) (y:I) (u:Value),cs[j]?=some y->b[j]?=some u->g.den y u)/\cs.length=z.length/\(∀y∈cs,y.cell=true)
 |[],ps,xs,z,cs,cells,hf,hp,d,hs,hd,w=>by
  have:ps=[]:=by simpa using hp.symm
  subst this;cases xs with
  |nil=>simp only[fill]at hf;cases hf;exact⟨cells,rfl,hs,hd,rfl,w⟩
  |cons x xs=>exact d.elim
 |(i,v)::parts,ps,xs,z,cs,cells,hf,hp,d,hs,hd,w=>by
  cases ps with
  |nil=>simp at hp
  |cons p ps=>
   obtain⟨off,sz⟩:=p;simp only[B7,Fc]at hp;obtain⟨C,D⟩:=hp;cases xs with
   |nil=>exact d.elim
   |cons x xs=>
    obtain⟨E,F⟩:=d;simp only[fill]at hf;cases o:cellsOf x with
    |none=>simp[o]at hf
    |some f=>
     simp only[o]at hf;cases hb:AJ f.length sz && !(AJ sz 0)with
     |false=>simp[hb]at hf
     |true=>
      have r:=hb;simp only[AA,Bool.not_eq_true']at r;have A:f.length=sz:=fK r.1;have abM:sz≠0:=by intro e;subst e;simp[AJ]at r
      simp only[hb,cond_true]at hf;cases s:bW off f z with
      |none=>simp[s]at hf
      |some G=>
       simp only[s]at hf;obtain⟨B,V,e3⟩:=Rm o E;obtain⟨s1,s2,X⟩:=Ui s;have H:v.cells.size=sz:=by rw[B,A]
       have K:f≠[]:=by rintro rfl;simp at A;omega
       have Y:=s2 K;obtain⟨L,l2⟩:=Ycd off v.cells.toList 0 cells (by simp[B];omega);obtain⟨b,N,Q,R,f4,S⟩:=PO parts ps xs G cs _ hf D F (by rw[L,hs,s1]) (λj y u q1 q2=>by
         grind) (λy T=>by
         obtain⟨j,hj⟩:=Et.1 T
         grind)
       refine⟨b,?_,Q,R,by rw[f4,s1],S⟩;simp only[Gs,C,H];rw[aB (by simp;rw[hs];omega),<-N]
       congr 1
       rw[<-Array.foldl_toList];simp
theorem YdH(z:List I)(ps:List (Nat×Nat))(xs cs:List I)(hf:fill z ps xs=some cs)(h0:Hp):aG P GL (.build z ps) xs h0 (.agg cs) [] []:=by
 intro o os G T L g h w a r s _ _;generalize H:o.op=op at G;cases G with
 |buildStruct t V v _ parts places _ hu x b X K=>
  obtain⟨it,hit,N⟩:∃it,P.info? t=some it/\it.zero=some v:=by
   unfold eg at x;cases Q:P.info? t<;>simp_all
  obtain⟨A,B⟩:=XX (M:=g.M) (c:=g.c) b;obtain⟨d,R,C,D,_,_⟩:=PO (g:=g) (place:=(places.toArray[·]?)) (parts.map λp=>(p.1,a.eval p.2)).toList ps xs z cs v.cells hf (by simp_all [F8]) (by rw[E3,E5];rw[E5]at s;exact s) (by simpa using A) (λj y u E F=>B j y u E (by simpa using F)) (Rb b);have hb:P.built t (parts.map λp=>(p.1,a.eval p.2)).toList=some d:=by
   simp_all [IS]
  simp only[execOp,H,AS,run_build w t _ d hb,AE,Ak];exact Out.here r (.agg _ _ _ C D)
 |oG t n e v _ parts _ sz hu x b hs K=>
  obtain⟨it,hit,N⟩:∃it,P.info? t=some it/\it.zero=some v:=by
   unfold eg at x;cases Q:P.info? t<;>simp_all
  obtain⟨f,Y,S⟩:∃f,P.info? e=some f/\f.size=sz:=by
   simp_all [size?]
  obtain⟨A,B⟩:=XX (M:=g.M) (c:=g.c) b;obtain⟨d,R,C,D,_,_⟩:=PO (g:=g) (place:=λi=>some (i*f.size,f.size)) (parts.map λp=>(p.1,a.eval p.2)).toList ps xs z cs v.cells hf (by rw[<-K,S];simp) (by rw[E3,E5];rw[E5]at s;exact s) (by simpa using A) (λj y u E F=>B j y u E (by simpa using F)) (Rb b);have hb:P.built t (parts.map λp=>(p.1,a.eval p.2)).toList=some d:=by
   simp_all [IS]
  simp only[execOp,H,AS,run_build w t _ d hb,AE,Ak];exact Out.here r (.agg _ _ _ C D)
theorem Qcx{z:List I}{n k:Nat}(hk:k<n*z.length):((CD n z).flatten)[k]?=z[k%z.length]?:=by
 induction n generalizing k with
 |zero=>simp at hk
 |succ n b=>
  simp only[List.replicate_succ,List.flatten_cons];by_cases h:k<z.length<;>grind [Fk,Nat.mod_eq_sub_mod]
theorem bu.oi{w0:World}{L:Ln}{g:Gm}{h:Hp}{w:World}(r:bu GL w0 L g h w){b:Nat}(hn:h b=none)(sz:Nat)(rs:List (List I))(arr:Array Value)(T:TypeId)(len cap:Nat)(ex:Bool)
 (hs:cap*sz=arr.size)(hlen:len<=cap)(hex:ex=true->cap=len)(wt:rs.length<=cap)(o:∀(i:Nat) (row:List I),rs[i]?=some row->row.length=sz)
 (hd:∀(i:Nat) (row:List I) (j:Nat) (x:I) (v:Value),rs[i]?=some row->row[j]?=some x->arr[i*sz+j]?=some v->g.den x v) :
  ∃d,g.Le d/\bu GL w0 L d (dQ h b (.rows sz rs)) (w.alloc (.cells arr T))/\d.den (.sl b 0 len ex) (.slice (some ⟨w.heap.size,0,none⟩) len cap):=by
 have hle:=r.ko hn ⟨w.heap.size,sz,arr.size,false,0⟩;have h1:rs.length*sz<=arr.size:=CI (Av sz wt) (Me hs);have f:Den g.M (mj g.c b ⟨w.heap.size,sz,arr.size,false,0⟩) (.sl b 0 len ex) (.slice (some ⟨w.heap.size,0+0*sz,none⟩) len cap):=
  .sl _ _ _ _ _ _ _ (Yy _ _ _) rfl hlen (by simpa using hs) hex
 rw[He]at f;exact⟨_,hle,r.alloc hn (cb:=⟨w.heap.size,sz,arr.size,false,0⟩) rfl rfl rfl ⟨rfl,arr,T,rfl,rfl,(Al _).symm▸h1,o,λi row j x v p s e3=>Gm.mD hle (hd i row j x v p s (by rw[<-e3];simp))⟩,f⟩
theorem Zda(sz n:Nat)(z:List I)(ps:List (Nat×Nat))(xs cs:List I)(rs:List (List I))(hf:fill z ps xs=some cs)(hch:chunk sz n cs=some rs)(h0:Hp)(f:Nat)(hn:h0 f=none) :
  aG P GL (.mZ sz n z ps) xs h0 (.sl f 0 n true) [] [(f,.rows sz rs)]:=by
 intro o os G T L g h w a r H _ gG;have V:h f=none:=by simp_all
 generalize ho:o.op=op at G;cases G with
 |buildSlice t _ e v z0 _ parts _ _ hu hs aao K hz X N E Y=>
  obtain⟨d,Cx,C⟩:∃d,P.info? e=some d/\d.size=sz:=by
   simp_all [size?]
  have hiz:d.zero=some v:=by simp_all [eg]
  have rP:P.underlying t=some (.slice e):=by
   grind [eW]
  obtain⟨c1,c2⟩:=XX (M:=g.M) (c:=g.c) N;have Q:z0.length=sz:=by rw[<-c1,DU,X]
  have R:z.length=n*sz:=by rw[<-E];simp[Q]
  obtain⟨k1,k2,k3,k4⟩:=Zc3 hch;have tS:∀s:Array Value,s.size=n*sz->(∀k A,s[k]?=some A->v.cells[k%sz]?=some A) ->
    ∃b,Gs (λi=>some (i*d.size,d.size)) s (parts.map λp=>(p.1,a.eval p.2)).toList=some b/\b.size=cs.length/\(∀(j:Nat) (y:I) (u:Value),cs[j]?=some y->b[j]?=some u->g.den y u)/\cs.length=z.length:=by
   intro s hs0 hv0;obtain⟨b,f1,f2,D,f4,_⟩:=PO (g:=g) (place:=λi=>some (i*d.size,d.size)) (parts.map λp=>(p.1,a.eval p.2)).toList ps xs z cs s hf (by rw[<-Y,C];simp) (by rw[E3,E5];rw[E5]at H;exact H) (by rw[hs0,R])
    (λj y u B S=>by
     have hj:j<n*z0.length:=by grind
     rw[<- E,Qcx hj,Q]at B;exact c2 _ y u B (by simp_all))
    (λy F=>by
     rw[<- E]at F;simp only[List.mem_flatten,List.mem_replicate]at F;obtain⟨l,⟨_,rfl⟩,hyl⟩:=F;exact Rb N y hyl)
   exact⟨b,f1,f2,D,f4⟩
  have jK:∀b:Array Value,b.size=cs.length->cs.length=z.length->(∀(j:Nat) (y:I) (u:Value),cs[j]?=some y->b[j]?=some u->g.den y u) ->
    Out P GL T L g (cx h [(f,.rows sz rs)]) (.sl f 0 n true) (.ok (.value (.slice (some ⟨w.heap.size,0,none⟩) n n)) (w.alloc (.cells b e))):=by
   intro b f2 f4 D;refine bu.oi r V sz rs b e n n true (by rw[f2,f4,R]) (AO _) (λ_=>rfl) (by omega) k3 (λi row j x A B S e3=>?_);exact D _ x A (k4 i row j x B S) e3
  have abN:0 < sz:=FE (λe=>K (by rw[e];simp));obtain⟨b,f1,f2,D,f4⟩:=tS ((Fe (n * d.size)).map (v.cells[· % v.cells.size]!)) (by simp[C]) (λk A B=>by
   grind [G2])
  have bJ:(Fg t n (parts.map λp=>(p.1,a.eval p.2))).run P w=.ok (.slice (some ⟨w.heap.size,0,none⟩) n n) (w.alloc (.cells b e)):=by
   have hs1:¬n*d.size>2 ^ 24:=by rw[C];omega
   have sK:¬n*d.size=0:=by rw[C];exact K
   simp only[Fg,sizeOf,typeInfo,zeroValue,newRow,AS,run_underlying rP,AE,run_program,Cx,Ak,aB hs1,aB sK,hiz,f1,run_newObj];rfl
  grind [execOp,AS,AE,Ak]
theorem Xcm(b:Nat)(es:List (I×I))(h0:Hp)(hb:h0 b=some (.map es)):aG P GL .nj [.map b] h0 (.int .i64 es.length) [b] []:=by
 intro o os i C L g h w a r x D _;have j:h b=some (.map es):=by simp_all
 generalize y:o.op=op at i;cases i with
 |nj t k e z hu=>
  have d:=x.1;generalize A:a.eval z=u0 at d;cases d with
  |map _ _ f p=>
  cases s:f.cI with
  |true=>have:=r.bd b _ f j rfl p s;cases this
  |false=>
  obtain⟨_,_,E,B,arr,clock,rfl,hs,F⟩:=r.own b _ f j rfl p s;have ai:(getObj f.aD).run P w=.ok (.map arr clock) w:=by simp[getObj,Ft,B]
  have:(execOp a.eval o).run P w=.ok (.value (.int .i64 es.length)) w:=by
   simp[execOp,y,resolve,invoke,builtin,FT,A,run_underlying hu,ai,goInt,hs]
  rw[this];exact Out.here r (.int _ _ _)
theorem Ycm(h0:Hp):aG P GL .nj [.cG] h0 (.int .i64 0) [] []:=by
 intro o os b p L g h w a r f _ _;generalize i:o.op=op at b;cases b with
 |nj t k e z hu=>
  have d:=f.1;generalize j:a.eval z=u0 at d;cases d with
  |cG=>
  have:(execOp a.eval o).run P w=.ok (.value (.int .i64 0)) w:=by
   simp[execOp,i,resolve,invoke,builtin,FT,j,run_underlying hu,goInt]
  rw[this];exact Out.here r (.int _ _ _)
theorem Qcm(es:List (I×I))(h0:Hp):aG P GL .nj [.fI es] h0 (.int .i64 es.length) [] []:=by
 intro o os b s L g h w a r f _ _;generalize i:o.op=op at b;cases b with
 |nj t k e z hu=>
  have d:=f.1;generalize j:a.eval z=u0 at d;cases d with
  |fI _ _ aD arr clock p hs h1 h2=>
  have ai:(getObj aD).run P w=.ok (.map arr clock) w:=by simp[getObj,Ft,r.aZ _ _ p]
  have:(execOp a.eval o).run P w=.ok (.value (.int .i64 es.length)) w:=by
   simp[execOp,i,resolve,invoke,builtin,FT,j,run_underlying hu,ai,goInt,hs]
  rw[this];exact Out.here r (.int _ _ _)
theorem ZdJ(s:List UInt8)(h0:Hp)(b:Nat)(hn:h0 b=none):aG P GL .range [.str s] h0 (.iter b) [] [(b,.fo s 0)]:=by
 intro o os d p L g h w a r i _ y;have f:h b=none:=by simp_all
 generalize z:o.op=op at d;cases d with
 |range t x hu=>
  obtain⟨j,A,rfl⟩:=yQ i.1;have:(execOp a.eval o).run P w=.ok (.value (.pointer (some ⟨w.heap.size,0,none⟩))) (w.alloc (.stringIter j 0)):=by
   simp_all [execOp,Instr.range,run_underlying]
  rw[this];exact⟨_,r.ko f ⟨w.heap.size,0,0,false,0⟩,r.alloc f (cb:=⟨w.heap.size,0,0,false,0⟩) rfl rfl rfl (by show _=_;rfl),.iter _ _ _ (Yy _ _ _)⟩
theorem YT{t:TypeId}(h:P.concrete t=true)(h2:(P.underlying t).isSome=true):∃d,P.underlying t=some d/\∀ms,d≠.interface ms:=by
 grind [Program.concrete,An]
theorem UU(t:TypeId)(ok:Bool)(z v:I)(u:TypeId)(h0:Hp) :
  aG P GL (.fL t ok z) [.iface t v] h0 (bif ok then .bw [v,.bool true]else v) [] []/\(u≠t->aG P GL (.fL t true z) [.iface u v] h0 (.bw [z,.bool false]) [] [])/\aG P GL (.fL t true z) [.dp] h0 (.bw [z,.bool false]) [] []:=by
 refine⟨?_,?_,?_⟩
 ·intro o os j K L g h w a r p _ _;generalize s:o.op=op at j;cases j with
  |fL y A _ _ F _ B C N G=>
   have d:=p.1;generalize D:a.eval y=u0 at d;cases d with
   |iface _ _ _ E H=>
   obtain⟨Q,R,S⟩:=YT B C;have:(EB (.iface t E) A t ok).run P w=.ok (if ok then .tuple #[E,.bool true]else E) w:=by
    simp_all [EB,run_underlying]
   simp only[execOp,s,D,AS,this,AE,Ak];refine Out.here r ?_;cases ok
   ·exact H
   ·refine .bw _ _ _ rfl (λi x v b f=>?_)
    match i with
    |0=>simp at b f;subst b f;exact H
    |1=>simp at b f;subst b f;exact .bool _ _
    |n+2=>simp at b
 ·intro T o os j K L g h w a r p _ _;generalize s:o.op=op at j;cases j with
  |fL y A _ _ F _ B C N G=>
   have d:=p.1;generalize D:a.eval y=u0 at d;cases d with
   |iface _ _ _ E H=>
   obtain⟨Q,R,S⟩:=YT B C;have:(EB (.iface u E) A t true).run P w=.ok (.tuple #[F,.bool false]) w:=by
    simp_all [EB,run_underlying,Bz]
   simp only[execOp,s,D,AS,this,AE,Ak];refine Out.here r (.bw _ _ _ rfl (λi x v b f=>?_))
   match i with
   |0=>simp at b f;subst b f;exact Pd G
   |1=>simp at b f;subst b f;exact .bool _ _
   |n+2=>simp at b
 ·intro o os j K L g h w a r p _ _;generalize s:o.op=op at j;cases j with
  |fL y A _ _ F _ B C N G=>
   have d:=p.1;generalize D:a.eval y=u0 at d;cases d with
   |dp=>
   obtain⟨Q,R,S⟩:=YT B C;have:(EB .nilIface A t true).run P w=.ok (.tuple #[F,.bool false]) w:=by
    simp_all [EB,run_underlying,Bz]
   simp only[execOp,s,D,AS,this,AE,Ak];refine Out.here r (.bw _ _ _ rfl (λi x v b f=>?_))
   match i with
   |0=>simp at b f;subst b f;exact Pd G
   |1=>simp at b f;subst b f;exact .bool _ _
   |n+2=>simp at b
theorem QdG{t:TypeId}{i:TypeInfo}(h:P.info? t=some i)(w:World):(typeInfo t).run P w=.ok i w:=by
 simp_all [typeInfo]
theorem XcC(j:List TypeId)(u:TypeId)(v:I)(h0:Hp)(hu:u∈j):aG P GL (.gL j) [.iface u v] h0 (.bw [.iface u v,.bool true]) [] []:=by
 intro o os p E L g h w a r z _ _;generalize A:o.op=op at p;cases p with
 |gL y B t ms _ F G htb=>
  have d:=z.1;generalize C:a.eval y=u0 at d;cases d with
  |iface _ _ _ s D=>
  obtain⟨i,H,K⟩:=htb u hu;have:(EB (.iface u s) B t true).run P w=.ok (.tuple #[.iface u s,.bool true]) w:=by
   simp_all [EB,run_underlying,QdG]
  simp only[execOp,A,C,AS,this,AE,Ak];refine Out.here r (.bw _ _ _ rfl (λi x v b f=>?_))
  match i with
  |0=>simp at b f;subst b f;exact .iface _ _ _ _ D
  |1=>simp at b f;subst b f;exact .bool _ _
  |n+2=>simp at b
theorem Zcm(p:List TypeId)(h0:Hp):aG P GL (.gL p) [.dp] h0 (.bw [.dp,.bool false]) [] []:=by
 intro o os j C L g h w a r s _ _;generalize z:o.op=op at j;cases j with
 |gL y A t ms _ D E htb=>
  have d:=s.1;generalize B:a.eval y=u0 at d;cases d with
  |dp=>
  have:(EB .nilIface A t true).run P w=.ok (.tuple #[.nilIface,.bool false]) w:=by
   simp_all [EB,run_underlying,Bz]
  simp only[execOp,z,B,AS,this,AE,Ak];refine Out.here r (.bw _ _ _ rfl (λi x v b f=>?_))
  match i with
  |0=>simp at b f;subst b f;exact .dp _
  |1=>simp at b f;subst b f;exact .bool _ _
  |n+2=>simp at b
end
end Go.Ah
end
section
namespace Go.Ah
section
variable {P:Program} {GL:aw}
def nw:fY->Bool->Value->Prop
 |.ptr,true,v=>v=.pointer none
 |.ptr,false,v=>∃a,v=.pointer (some a)
 |.slice,true,v=>v=.slice none 0 0
 |.slice,false,v=>∃a l c,v=.slice (some a) l c
 |.iface,true,v=>v=.nilIface
 |.iface,false,v=>∃t u,v=.iface t u
 |.func,true,v=>v=.nilFunc
 |.func,false,v=>∃f p q,v=.func f p q
 |.map,true,v=>v=.map none
 |.map,false,v=>∃m,v=.map (some m)
variable{g:Gm}
variable{v:Value}
variable{b:Bool}
variable{c:fY}
theorem YbO{z:I}(h:oj c z=some b)(d:g.den z v):nw c b v:=by
 cases d<;>cases c<;>simp only[oj]at h<;>first
  |(cases h;done)
  |(cases h;simp only[nw];done)
  |(cases h;exact⟨_,rfl⟩)
  |(cases h;exact⟨_,_,rfl⟩)
  |(cases h;exact⟨_,_,_,rfl⟩)
  |skip
 ·rename_i j off len ex o cap _ _ _ _ _;cases len with
  |zero=>cases h
  |succ n=>cases h;exact⟨_,_,_,rfl⟩
 ·rename_i f _ rows a _ _ _ _ _ h2 h3 _ _ _ _ _;cases f
  ·cases rows with
   |nil=>cases h
   |cons r rs=>
    cases h;have:=h3 (by simp);subst this;exact⟨_,_,_,rfl⟩
  ·cases h;obtain⟨p,i⟩:=An.1 (h2 rfl);subst i;exact⟨_,_,_,rfl⟩
variable{t:TypeId}
theorem Qby(ht:vq P t=some c)(hv:nw c b v)(w:World)(d:Nat) :
  (Fx (d+1) t v (kz c)).run P w=.ok b w/\(Fx (d+1) t (kz c) v).run P w=.ok b w:=by
 unfold vq at ht;cases hu:P.underlying t with
 |none=>simp[hu]at ht
 |some ty=>
  unfold Fx;simp only[AS,run_underlying hu,AE];cases ty<;>simp only[hu]at ht<;>cases ht<;>cases b<;>simp only[nw]at hv<;>first
   |(subst hv;exact⟨rfl,rfl⟩)
   |(obtain⟨x,rfl⟩:=hv;exact⟨rfl,rfl⟩)
   |(obtain⟨x,y,rfl⟩:=hv;exact⟨rfl,rfl⟩)
   |(obtain⟨x,y,z,rfl⟩:=hv;exact⟨rfl,rfl⟩)
theorem Xcl(ht:vq P t=some c)(hv:nw c b v)(neq:Bool)(w:World) :
  (binOp (if neq then .neq else .eql) t v (kz c)).run P w=.ok (.bool (bif neq then !b else b)) w/\(binOp (if neq then .neq else .eql) t (kz c) v).run P w=.ok (.bool (bif neq then !b else b)) w:=by
 obtain⟨h1,h2⟩:=Qby ht hv w 9999;have i:∀x y:Value,(Fx (9999+1) t x y).run P w=.ok b w->((do pure (.bool (<-MD t x y)):Sem Value).run P w=.ok (.bool b) w)/\((do pure (.bool (!(<-MD t x y))):Sem Value).run P w=.ok (.bool (!b)) w):=by
  intro x y hr;have j:(MD t x y).run P w=.ok b w:=hr;simp_all
 have d:=i _ _ h1;have f:=i _ _ h2;cases neq<;>cases c<;>cases b<;>simp only[nw]at hv<;>first
  |(subst hv;first|exact⟨d.1,f.1⟩|exact⟨d.2,f.2⟩)
  |(obtain⟨x,rfl⟩:=hv;first|exact⟨d.1,f.1⟩|exact⟨d.2,f.2⟩)
  |(obtain⟨x,y,rfl⟩:=hv;first|exact⟨d.1,f.1⟩|exact⟨d.2,f.2⟩)
  |(obtain⟨x,y,z,rfl⟩:=hv;first|exact⟨d.1,f.1⟩|exact⟨d.2,f.2⟩)
theorem Ybs(neq:Bool)(hv:nw c b v)(x:Operand) :
  eqGuard (if neq then .neq else .eql) t x (.const (kz c)) v (kz c)=pure ()/\eqGuard (if neq then .neq else .eql) t (.const (kz c)) x (kz c) v=pure ():=by
 cases c<;>cases b<;>simp only[nw]at hv<;>cases neq<;>first
  |(subst hv;constructor<;>first|rfl|simp[eqGuard,kz])
  |(obtain⟨x,rfl⟩:=hv;constructor<;>rfl)
  |(obtain⟨x,y,rfl⟩:=hv;constructor<;>rfl)
  |(obtain⟨x,y,z,rfl⟩:=hv;constructor<;>rfl)
theorem ZdI(c:fY)(neq left:Bool)(x y:I)(b:Bool)(hb:oj c (bif left then y else x)=some b)(h0:Hp):aG P GL (.oQ c neq left) [x,y] h0 (.bool (bif neq then !b else b)) [] []:=by
 intro o os i A L g h w a r j _ _;generalize s:o.op=op at i;cases i with
 |xv _ _ t z p f=>
  have d:=YbO hb j.1;rw[XL s rfl (v:=kz c) rfl (by rw[(Ybs neq d p).1];rfl) (Xcl f d neq w).1];exact Out.here r (.bool _ _)
 |xu _ _ t z q f=>
  have d:=YbO hb j.2.1;rw[XL s (u:=kz c) rfl rfl (by rw[(Ybs neq d q).2];rfl) (Xcl f d neq w).2];exact Out.here r (.bool _ _)
theorem Qbb(k:IntKind)(ex y:Bool)(sz:Nat)(rows:List (List I))(row:List I)(i:Int)(A:0<=i)(hi:rows[i.toNat]?=some row)(h0:Hp) :
  aG P GL (.fE sz) [.aX ex y sz rows,.int k i] h0 (.al row 0) [] []:=by
 intro o os j N L g h w a r B _ _;generalize C:o.op=op at j;cases j with
 |fE t z q e _ hu D=>
  obtain⟨d,E,_⟩:=B;generalize F:a.eval z=u0 at d;cases d with
  |aX _ _ _ _ _ p cap aD off f h1 h2 h3 h4 h5 h6 h7 h8=>
   have s:i.toNat<rows.length:=(eS hi).1;have G:rows≠[]:=by intro e;rw[e]at s;simp at s
   have H:=h3 G;subst H;have K:i<rows.length:=by omega
   simp only[execOp,C,F,Xp E,G6,asIntOf,AS,run_underlying hu,AE,Ak];rw[aE ⟨A,K⟩];simp only[AS,ZE D,AE,Ak,QX];have Q:=h6 _ row hi;have hd:Den g.M g.c (.al row 0) (.pointer (some ⟨aD,(off+i.toNat*sz)+0,none⟩)):=
    .al _ _ _ _ _ (f i.toNat) (λk R=>by grind) (λk x e=>h8 _ row k x hi e)
   exact Out.here r hd
variable{w:World}
theorem bu.ff{w0:World}{L:Ln}{h:Hp}(r:bu GL w0 L g h w){b:Nat}{sz:Nat}{rs:List (List I)}{cb:CB}(hb:h b=some (.rows sz rs))(d:g.c b=some cb)(hv:cb.cI=false) :
  cb.sz=sz/\∃arr T,w.heap[cb.aD]?=some (.cells arr T (0,0))/\arr.size=cb.wx/\cb.base+rs.length*sz<=cb.wx/\(∀(i:Nat) (row:List I),rs[i]?=some row->row.length=sz) /\
   ∀(i:Nat) (row:List I) (j:Nat) (x:I) (v:Value),rs[i]?=some row->row[j]?=some x->arr[cb.base+i*sz+j]?=some v->g.den x v:=by
 obtain⟨_,_,o,f,h1,arr,T,rfl,h2,h3,h4,h5⟩:=r.own b _ cb hb rfl d hv;exact⟨h1,arr,T,f,h2,h3,h4,h5⟩
theorem bu.hY{w0:World}{L:Ln}{h:Hp}(r:bu GL w0 L g h w){b:Nat}{sz:Nat}{rs:List (List I)}{cb:CB}(hb:h b=some (.rows sz rs))(d:g.c b=some cb)(hv:cb.cI=true):cb.sz=sz/\rs=[]:=by
 have:=r.bd b _ cb hb rfl d hv;simp_all
theorem Xbb(k:IntKind)(ex:Bool)(sz b o' len:Nat)(rs:List (List I))(i:Int)(x:0<=i)(hi:i<len)(h0:Hp)(hb:h0 b=some (.rows sz rs)) :
  aG P GL (.fE sz) [.sl b o' len ex,.int k i] h0 (.ptr b (o'+i.toNat) 0) [b] []:=by
 intro o os j G L g h w a r y H _;have A:h b=some (.rows sz rs):=by simp_all
 generalize B:o.op=op at j;cases j with
 |fE t z q e _ hu C=>
  obtain⟨d,D,_⟩:=y;generalize E:a.eval z=u0 at d;cases d with
  |n9=>simp at hi;omega
  |sle=>simp at hi;omega
  |sl _ _ _ _ _ f cap p F h1 h2 h3=>
   obtain⟨s,_⟩:=r.ff A p F;simp only[execOp,B,E,Xp D,G6,asIntOf,AS,run_underlying hu,AE,Ak];rw[aE ⟨x,hi⟩];simp only[AS,ZE C,AE,Ak,QX];have hd:Den g.M g.c (.ptr b (o'+i.toNat) 0) (.pointer (some ⟨f.aD,f.base+(o'+i.toNat)*f.sz+0,none⟩)):=.ptr _ _ _ _ _ p;rw[s,EW,FF,<-EG]at hd;rw[s];exact Out.here r hd
theorem Yda(k:IntKind)(s:List UInt8)(i:Int)(c:UInt8)(p:0<=i)(hi:s[i.toNat]?=some c)(h0:Hp):aG P GL .lW [.str s,.int k i] h0 (.int .u8 c.toNat) [] []:=by
 intro o os j E L g h w a r x _ _;generalize y:o.op=op at j;cases j with
 |lW t z q hu=>
  obtain⟨d,A,_⟩:=x;obtain⟨f,B,rfl⟩:=yQ d;have hs:f[i.toNat]?=some c:=by
   have C:i.toNat<f.data.toList.length:=(eS hi).1;have F:=(eS hi).2;have D:i.toNat<f.size:=by simpa using C
   rw[getElem?_pos f i.toNat D]
   congr 1
  simp only[execOp,y,B,Xp A,MQ,asIntOf,AS,run_underlying hu,AE,Ak,aE p,hs];exact Out.here r (.int _ _ _)
theorem Yb4(agg:Bool)(n b i j sz:Nat)(rs:List (List I))(row:List I)(v:I)(h0:Hp)(hb:h0 b=some (.rows sz rs))(hi:rs[i]?=some row)(hv:aO agg j n row=some v) :
  aG P GL (.load agg n) [.ptr b i j] h0 v [b] []:=by
 intro o os s w0 L g h w a r D cZ _;have z:h b=some (.rows sz rs):=by simp_all
 generalize ho:o.op=op at s;cases s with
 |load t x _ _ E F=>
  have d:=D.1;generalize hu:a.eval x=u0 at d;cases d with
  |ptr _ _ _ _ f A=>
  cases B:f.cI with
  |true=>have:=(r.hY z A B).2;subst this;simp at hi
  |false=>
  obtain⟨G,arr,T,H,hs,hle,K,cY⟩:=r.ff z A B;have N:i<rs.length:=(eS hi).1;have hbound:f.base+i*sz+sz<=arr.size:=by
   have:(i+1)*sz<=rs.length*sz:=Av sz N;rw[EN]at this;omega
  have Q:∀(k:Nat) (y:I) (u:Value),row[k]?=some y->(arr.extract (f.base+i*sz) (f.base+i*sz+sz))[k]?=some u->g.den y u:=by
   grind
  obtain⟨R,S⟩:=Jk (g:=g) hv (by rw[K i row hi];simp;omega) Q;obtain⟨l1,l2⟩:=SK E F (T:=T) (fr:=(0,0)) (Z8 H) (f.base+i*sz+j);rw[G]at hu;cases agg with
  |true=>
   obtain⟨p,C⟩:=R rfl;have V:(arr.extract (f.base+i*sz) (f.base+i*sz+sz)).extract j (j+n)=arr.extract (f.base+i*sz+j) (f.base+i*sz+j+n):=by
    grind
   rw[V]at C;have q1':n≠0->f.base+i*sz+j+n<=arr.size:=λX=>by have:=p X;simp at this;omega
   simp_all [execOp,Fl,ET,Out.here]
  |false=>
   obtain⟨u,p,C⟩:=S rfl;obtain⟨Y,p⟩:=E1.1 p;rw[FM]at p;simp at Y;have uT:f.base+i*sz+j<arr.size:=by omega
   simp_all [execOp,Fl,ET,Out.here]
theorem Um{aD j:Nat}{arr:Array Value}{T:TypeId}(ho:w.heap[aD]?=some (.cells arr T (0,0)))(vs:List Value)(hv:∀v∈vs,v.oneCell'=true)(eI:vs≠[]->j+vs.length<=arr.size) :
  ∃d,(storeCells ⟨aD,j,none⟩ vs).run P w=.ok () (w.setRow aD d)/\d.size=arr.size/\∀k,d[k]?=if j<=k/\k<j+vs.length then vs[k-j]? else arr[k]?:=by
 by_cases h0:vs=[]
 ·subst h0;refine⟨arr,?_,rfl,λk=>by rw[aB (by simp)]⟩;simp only[storeCells];rw[setRow_self w aD arr T (0,0) ho];rfl
 ·have hf:=eI h0;refine⟨_,run_storeCells_at P aD j T vs 0 arr w ho (by omega) hv,?_,λk=>?_⟩
  ·simp only[II,AT,List.length_take,Gg,DU];omega
  ·by_cases f:j<=k/\k<j+vs.length
   ·rw[aE f,EU,Cp,Bc (by simp;omega),Bi (by simp;omega)]
    congr 1;simp;omega
   ·rw[aB f];by_cases i:k<j
    ·rw[EU,Cp,Bi (by simp;omega),G9 (by omega)];simp
    ·rw[EU,Bc (by simp;omega)];simp
     congr 1;omega
theorem YbG(n b i j sz:Nat)(rs rs':List (List I))(row row' cs:List I)(x:I)(h0:Hp)(hb:h0 b=some (.rows sz rs))(hi:rs[i]?=some row)(hZ:cellsOf x=some cs)(hlen:cs.length=n)(X:bW j cs row=some row')(G:rs'=rs.set i row') :
  aG P GL (.store n) [.ptr b i j,x] h0 .aP [] [(b,.rows sz rs')]:=by
 intro o os H w0 L g h w a r Y _ gG;have B:h b=some (.rows sz rs):=by simp_all
 generalize ho:o.op=op at H;cases H with
 |store t y z _ hn=>
  obtain⟨d,dx,_⟩:=Y;generalize hu:a.eval y=u0 at d;cases d with
  |ptr _ _ _ _ p C=>
  cases D:p.cI with
  |true=>have:=(r.hY B C D).2;subst this;simp at hi
  |false=>
  obtain⟨K,arr,T,N,hs,hle,dR,Q⟩:=r.ff B C D;obtain⟨R,c2,c3⟩:=Rm hZ dx;obtain⟨s1,s2,s3⟩:=Ui X;have S:i<rs.length:=(eS hi).1;have CH:=dR i row hi;have hbound:p.base+i*sz+sz<=arr.size:=by
   have:(i+1)*sz<=rs.length*sz:=Av sz S;rw[EN]at this;omega
  have hL:(a.eval z).cells.toList.length=cs.length:=by rw[DU];exact R
  have nf:∀v∈(a.eval z).cells.toList,v.oneCell'=true:=by
   grind [Et,Rp,AI]
  obtain⟨E,f1,f2,f3⟩:=Um (P:=P) N (a.eval z).cells.toList nf (j:=p.base + i * sz + j) (by
   grind [Ck])
  have ei:(a.eval z).cells.size=n:=by rw[R,hlen]
  rw[K]at hu;have bJ:(execOp a.eval o).run P w=.ok .skip (w.setRow p.aD E):=by
   simp_all [execOp,LU,ET,storeVar,ZE]
  rw[bJ];refine⟨g,Gm.Le.refl g,?_,rfl⟩;refine r.write B rfl C D rfl rfl rfl rfl (Rf w _ arr E T (0,0) N) ⟨K,E,T,rfl,by rw[f2,hs],by subst G;simpa using hle,?_,?_⟩
  ·grind
  ·intro f py k y u A e3 s;subst G;rw[f3,hL]at s;by_cases hii:f=i
   ·subst hii;simp[S]at A;subst A;have hk:k<sz:=by grind
    rw[s3 k]at e3;by_cases hjk:j<=k/\k<j+cs.length
    ·rw[aE hjk]at e3;rw[aE (by omega)]at s;refine c2 (k-j) y u e3 ?_;rw[EI]at s;rw[<-s];congr 1;omega
    ·rw[aB hjk]at e3;rw[aB (by omega)]at s;exact Q f row k y u hi e3 s
   ·rw[List.getElem?_set_ne (λe=>hii e.symm)]at A;have hk:k<sz:=by grind
    have o_:¬(p.base+i*sz+j<=p.base+f*sz+k/\p.base+f*sz+k<p.base+i*sz+j+cs.length):=by
     intro ⟨q1,q2⟩;by_cases V:cs=[]
     ·subst V;simp at q2;omega
     ·have tW:=s2 V;rcases Nat.lt_or_ge f i with F|IQ
      ·have:(f+1)*sz<=i*sz:=Av sz F
       grind
      ·have F:i<f:=by omega
       have:(i+1)*sz<=f*sz:=Av sz F
       grind
    rw[aB o_]at s;exact Q f py k y u A e3 s
end
end Go.Ah
end
section
namespace Go.Ah
section
variable {P:Program} {GL:aw}
theorem Yc9{g:Gm}{l r:Bool}{a b:I}(h:Iv l a b=some r){t:TypeId}(ht:nG P t=some l){v u:Value}(hv:g.den a v)(hu:g.den b u)(d:Nat)(w:World):(Fx (d+1) t v u).run P w=.ok r w:=by
 have i:∃f,P.underlying t=some f/\((l=false/\∃q,f=.int q)\/(l=true/\f=.bool)):=by
  grind [nG]
 obtain⟨f,i,j⟩:=i;rcases j with ⟨rfl,q,rfl⟩|⟨rfl,rfl⟩
 ·cases hv<;>cases hu<;>simp only[Iv]at h<;>try (cases h;done)
  grind [zL,run_equalIn_int]
 ·cases hv<;>cases hu<;>simp only[Iv]at h<;>try (cases h;done)
  simp_all [run_equalIn_bool']
theorem Zba{g:Gm}(d:Nat)(xs ys:Array Value)(w:World):∀(j:List Field) (k:Nat) (ls:List Bool) (as bs:List I) (r:Bool),Y1 ls as bs=some r ->
  j.all (λf=>f.name != "_")=true->j.mapM (λf=>nG P f.type)=some ls->j.map (·.offset)=ED k j.length ->
  (∀(i:Nat) (x:I),as[i]?=some x->∃v,xs[k+i]?=some v/\g.den x v)->(∀(i:Nat) (x:I),bs[i]?=some x->∃v,ys[k+i]?=some v/\g.den x v) ->
  (Mv (d+1) xs ys j:Sem Bool).run P w=.ok r w
 |[],k,ls,as,bs,r,he,_,hm,_,_,_=>by
  simp at hm;subst hm;cases as<;>cases bs<;>simp only[Y1]at he<;>first|(cases he;rfl)|cases he
 |f::j,k,ls,as,bs,r,he,s,hm,y,A,B=>by
  simp only[List.mapM_cons,Option.bind_eq_bind,Option.pure_def]at hm;cases o:nG P f.type with
  |none=>simp[o]at hm
  |some l=>
  cases p:j.mapM (λf=>nG P f.type)with
  |none=>simp[o,p]at hm
  |some ls'=>
  simp[o,p]at hm;subst hm;cases as with
  |nil=>simp[Y1]at he
  |cons a as=>
   cases bs with
   |nil=>simp[Y1]at he
   |cons b bs=>
    simp only[Y1]at he;cases h1:Iv l a b with
    |none=>simp[h1]at he
    |some r1=>
     cases h2:Y1 ls' as bs with
     |none=>simp[h1,h2]at he
     |some E=>
      simp only[h1,h2]at he;cases he;simp only[List.all_cons,AA,bne_iff_ne]at s;obtain⟨F,G⟩:=s;simp only[B7,A1,Gk,Fc]at y;obtain⟨N,H⟩:=y;obtain⟨v,hv1,K⟩:=A 0 a rfl;obtain⟨u,C,L⟩:=B 0 b rfl;rw[FF]at hv1 C;have Q:=Zba d xs ys w j (k+1) ls' as bs E h2 G p H (λi x e=>by have:=A (i+1) x (by simpa using e);rwa [show k+1+i=k+(i+1) by omega]) (λi x e=>by have:=B (i+1) x (by simpa using e);grind);have D:∀(arr:Array Value) (z:Value),arr[k]?=some z->(part f.type arr f.offset).run P w=.ok z w:=by
       intro arr z R;have S:fN P f.type=some false:=by
        grind [nG,fN]
       simp_all [part,Dg]
      simp only[Mv];rw[aE F];simp only[AS,D xs v hv1,D ys u C,Yc9 h1 o K L,AE];cases r1<;>simp_all
theorem QeE(neq:Bool)(ls:List Bool)(as bs:List I)(r:Bool)(hr:Y1 ls as bs=some r)(h0:Hp):aG P GL (.Cf neq ls) [.agg as,.agg bs] h0 (.bool (bif neq then !r else r)) [] []:=by
 intro o os p V L g h w a s H _ _;generalize A:o.op=op at p;cases p with
 |Cf _ t X x y _ Y hs B=>
  obtain⟨d1,C,_⟩:=H;generalize D:a.eval x=u1 at d1;generalize E:a.eval y=u2 at C;cases d1 with
  |agg _ _ d q1 K=>
  cases C with
  |agg _ _ us q3 N=>
  have Q:∃b,P.underlying t=some (.struct b)/\b.toList.all (λf=>f.name != "_")=true/\b.toList.map (·.offset)=ED 0 b.toList.length/\b.toList.mapM (λf=>nG P f.type)=some ls:=by
   grind [ry]
  obtain⟨b,f1,R,S,T⟩:=Q;have F:P.fieldsOf t=b:=by simp[Program.fieldsOf,f1]
  have G:(Fx 10000 t (.agg d) (.agg us)).run P w=.ok r w:=by
   rw[show (10000:Nat)=9998+1+1 from rfl,run_equalIn_struct w (9998+1) t d us (by rw[F];exact f1) hs,F];refine Zba (g:=g) 9998 d us w b.toList 0 ls as bs r hr R T S (λi x e=>?_) (λi x e=>?_)
   ·have j:i<d.size:=by grind
    exact⟨d[i],by simp[j],K i x _ e (by simp[j])⟩
   ·have j:i<us.size:=by grind
    exact⟨us[i],by simp[j],N i x _ e (by simp[j])⟩
  cases neq
  ·rw[XL A D E (run_eqGuard_agg w _ t x y d us B) (z:=.bool r) (by show (binOp .eql t _ _).run P w=_;rw[run_eql_struct,G];rfl)];exact Out.here s (.bool _ _)
  ·rw[XL A D E (run_eqGuard_agg w _ t x y d us B) (z:=.bool (!r)) (by show (binOp .neq t _ _).run P w=_;rw[run_neq_struct,G];rfl)];exact Out.here s (.bool _ _)
end
end Go.Ah
end
section
namespace Go.Ah
def jA:I->I->Option Bool
 |.int k a,.int d b=>bif j4 k d then some (a==b)else none
 |.str a,.str b=>some (a==b)
 |_,_=>none
def js(k:I):List (I×I)->Option (Option I)
 |[]=>some none
 |(q,x)::es=>match jA k q with
  |some true=>some (some x)
  |some false=>js k es
  |none=>none
def oE(k v:I):List (I×I)->Option (List (I×I))
 |[]=>some [(k,v)]
 |(q,x)::es=>match jA k q with
  |some true=>some ((k,v)::es)
  |some false=>match oE k v es with
   |some b=>some ((q,x)::b)
   |none=>none
  |none=>none
def fR(g:Gm)(es:List (I×I))(l:List MapEntry):Prop:=
 l.length=es.length/\∀(i:Nat) (k x:I) (e:MapEntry),es[i]?=some (k,x)->l[i]?=some e->g.den k e.key/\g.den x e.val
section
variable {P:Program} {GL:aw}
def kS(d:TypeDesc)(k:I):Prop:=(∃z n b,k=.int z n/\d=.int b)\/(∃s,k=.str s/\d=.string)
variable{d:TypeDesc}
variable{k q:I}
variable{u v:Value}
variable{g:Gm}
theorem Xcf{r:Bool}(h:jA k q=some r)(hu:g.den k u)(hv:g.den q v)(eI:kS d k) :
  G3 d u v=some r:=by
 rcases eI with ⟨z,n,b,rfl,rfl⟩|⟨s,rfl,rfl⟩
 ·cases q<;>simp only[jA]at h<;>try (cases h;done)
  cases hu;cases hv<;>grind [G3,zL]
 ·cases q<;>simp only[jA]at h<;>try (cases h;done)
  cases hu;cases hv<;>simp_all [G3,beq_toListBytes,Fv]
theorem Xa7(hu:g.den k u)(eI:kS d k):∀(f:List (I×I)) (l:List MapEntry) (i:Nat) (r:Option I),fR g f l->js k f=some r ->
  (r=none->EO d u l i=some none)/\(∀x,r=some x->∃j v,EO d u l i=some (some (j,v))/\g.den x v/\i<=j/\∃e,l[j-i]?=some e/\v=e.val)
 |[],l,i,r,⟨o,_⟩,h=>by
  have:l=[]:=Ck.1 (by simpa using o);subst this;simp only[js]at h;cases h;exact⟨λ_=>rfl,λx e=>by cases e⟩
 |(q,x)::f,l,i,r,⟨o,hd⟩,h=>by
  cases l with
  |nil=>simp at o
  |cons e l=>
   obtain⟨d1,s⟩:=hd 0 q x e rfl rfl;simp only[js]at h;cases p:jA k q with
   |none=>simp[p]at h
   |some b=>
    have w:=Xcf p hu d1 eI;cases b with
    |true=>
     simp only[p]at h;cases h;refine⟨λe=>(by cases e),λy z=>?_⟩;cases z;exact⟨i,e.val,by simp[EO,w],s,AO _,e,by simp,rfl⟩
    |false=>
     simp only[p]at h;obtain⟨F,G⟩:=Xa7 hu eI f l (i+1) r ⟨by simpa using o,λj A B C D E=>hd (j+1) A B C (by simpa using D) (by simpa using E)⟩ h
     grind [EO]
variable{t:TypeId}
theorem Qa9(hd:P.underlying t=some d)(eI:kS d k)(hu:g.den k u)(b:Bool)(n:Nat)(w:World):(LG b (n+1) t u).run P w=.ok () w:=by
 rcases eI with ⟨z,m,f,rfl,rfl⟩|⟨s,rfl,rfl⟩<;>simp_all [LG,run_underlying]
theorem Pa(hd:P.underlying t=some d){l:List MapEntry}{r:Option (Nat×Value)}(h:EO d u l 0=some r)(w:World):(LY t u l).run P w=.ok r w:=by
 simp_all [LY,run_underlying]
def lK(ok:Bool)(z:I)(r:Option I):I:=
 bif ok then .bw [r.getD z,.bool r.isSome]else r.getD z
theorem Xc9{k e:TypeId}{z:I}(ht:P.underlying t=some (.map k e))(hd:P.underlying k=some d)(hz:eg P e=some v)(A:qI v=some z){m:Value}(hu:g.den q u)(eI:kS d q)
 {w:World}{s:List (I×I)}{arr:Array MapEntry}(hm:(m=.map none/\arr = #[])\/∃b clock,m=.map (some b)/\w.heap[b]?=some (.map arr clock))(B:fR g s arr.toList){r:Option I}(hr:js q s=some r)(ok:Bool) :
  ∃x,(HF t m u ok).run P w=.ok x w/\g.den (lK ok z r) x:=by
 obtain⟨E,f2⟩:=Xa7 hu eI s arr.toList 0 r B hr;have F:=λC=>Qa9 (P:=P) hd eI hu arr.isEmpty 9999 C;have y:∀f b,g.den (r.getD z) f->b=r.isSome->g.den (lK ok z r) (if ok then .tuple #[f,.bool b]else f):=by
  intro f b h2 h3;subst h3;cases ok
  ·exact h2
  ·refine .bw _ _ _ rfl (λi x v o p=>?_)
   match i with
   |0=>simp at o p;subst o p;exact h2
   |1=>simp at o p;subst o p;exact .bool _ _
   |n+2=>simp at o
 cases r with
 |none=>
  refine⟨_,?_,y v false (Pd A) rfl⟩;unfold HF;rcases hm with ⟨rfl,rfl⟩|⟨b,clock,rfl,hb⟩<;>simp_all [getObj,Ft,run_underlying,Pa,Bz]
 |some x=>
  obtain⟨j,f,g1,D,_⟩:=f2 x rfl;refine⟨_,?_,y f true D rfl⟩;unfold HF;rcases hm with ⟨rfl,rfl⟩|⟨b,clock,rfl,hb⟩<;>simp_all [getObj,Ft,run_underlying,Pa]
inductive rV (h0:Hp):I->List (I×I)->List Nat->Prop
 |own (b:Nat) (es:List (I×I)):h0 b=some (.map es)->rV h0 (.map b) es [b]
 |row (es:List (I×I)):rV h0 (.fI es) es []
 |nil:rV h0 .cG [] []
def mz:Bool->I->Prop
 |true,k=>∃s,k=.str s
 |false,k=>∃q n,k=.int q n
theorem YbM{str:Bool}(ht:vk P t str)(hk:mz str k):∃d,P.underlying t=some d/\kS d k:=by
 cases str
 ·obtain⟨q,hq⟩:=ht;obtain⟨b,n,rfl⟩:=hk;exact⟨_,hq,.inl ⟨_,_,_,rfl,rfl⟩⟩
 ·obtain⟨s,rfl⟩:=hk;exact⟨_,ht,.inr ⟨_,rfl,rfl⟩⟩
theorem Zdb(str ok:Bool)(z m k:I)(f:List (I×I))(rd:List Nat)(r:Option I)(h0:Hp)(hm:rV h0 m f rd)(hk:mz str k)(hr:js k f=some r):aG P GL (.lookup str ok z) [m,k] h0 (lK ok z r) rd []:=by
 intro o os B w0 L g h w a s F cZ _;generalize ho:o.op=op at B;cases B with
 |lookup t kt e x i _ _ v _ G H K N=>
  obtain⟨d1,Q,_⟩:=F;obtain⟨d,hd,R⟩:=YbM H hk;generalize lq:a.eval x=u1 at d1;have S:∃arr:Array MapEntry,((u1=.map none/\arr = #[])\/∃b clock,u1=.map (some b)/\w.heap[b]?=some (.map arr clock))/\fR g f arr.toList:=by
   cases hm with
   |own b _ hb=>
    have C:h b=some (.map f):=by simp_all
    cases d1 with
    |map _ _ A D=>
    cases E:A.cI with
    |true=>have:=s.bd b _ A C rfl D E;cases this
    |false=>
    obtain⟨_,_,o',T,arr,clock,rfl,hs,V⟩:=s.own b _ A C rfl D E;exact⟨arr,.inr ⟨_,clock,rfl,T⟩,by simpa using hs,λi k x e j p=>V i k x e j (by simpa using p)⟩
   |row _=>
    cases d1 with
    |fI _ _ aD arr clock X hs h1 h2=>
    exact⟨arr,.inr ⟨_,clock,rfl,s.aZ _ _ X⟩,by simpa using hs,λi k x e j p=>⟨(h1 i k x e j (by simpa using p)).mono (iJ.refl _) (fW.bE _),(h2 i k x e j (by simpa using p)).mono (iJ.refl _) (fW.bE _)⟩⟩
   |nil=>
    cases d1;exact⟨#[],.inl ⟨rfl,rfl⟩,rfl,by simp⟩
  obtain⟨arr,Y,LM⟩:=S;obtain⟨y,f1,f2⟩:=Xc9 G hd K N Q R Y LM hr ok;simp_all [execOp,Out.here]
theorem Qcl(h:jA k q=some true)(hu:g.den k u)(hv:g.den q v)(n:Nat):F4 n v u=true:=by
 cases k<;>cases q<;>simp only[jA]at h<;>try (cases h;done)
 ·rename_i k1 a k2 b;cases f:j4 k1 k2 with
  |false=>simp[f]at h
  |true=>
   have:=zL f;subst this;simp[f]at h;cases hu;cases hv;simp_all [F4]
 ·cases hu;cases hv<;>simp_all [F4,beq_toListBytes,Fv]
theorem Zb7{x:I}{y:Value}(hu:g.den k u)(hy:g.den x y)(eI:kS d k):∀(es f:List (I×I)) (l:List MapEntry) (i:Nat),fR g es l->oE k x es=some f ->
  (EO d u l i=some none/\∀e:MapEntry,e.key=u->e.val=y->fR g f (l++[e])) \/
  (∃j v,EO d u l i=some (some (i+j,v))/\j<l.length/\(∃e,l[j]?=some e/\∀n,F4 n e.key u=true)/\fR g f (l.modify j λe=>{ e with key:=u,val:=y }))
 |[],f,l,i,⟨o,_⟩,h=>by
  have:l=[]:=Ck.1 (by simpa using o);subst this;simp only[oE]at h;cases h;refine .inl ⟨rfl,λe h1 h2=>⟨rfl,λj p r s w A=>?_⟩⟩
  grind
 |(q,z)::es,f,l,i,⟨o,hd⟩,h=>by
  cases l with
  |nil=>simp at o
  |cons e l=>
   obtain⟨d1,K⟩:=hd 0 q z e rfl rfl;have D:fR g es l:=⟨by simpa using o,λj p r s w A=>hd (j+1) p r s (by simpa using w) (by simpa using A)⟩;simp only[oE]at h;cases B:jA k q with
   |none=>simp[B]at h
   |some b=>
    have C:=Xcf B hu d1 eI;cases b with
    |true=>
     simp only[B]at h;cases h;refine .inr ⟨0,e.val,by simp[EO,C],by simp,⟨e,rfl,λn=>Qcl B hu d1 n⟩,by simpa using o,λj p r s w A=>?_⟩
     grind
    |false=>
     simp only[B]at h;cases hp:oE k x es with
     |none=>simp[hp]at h
     |some es2=>
      simp only[hp]at h;cases h;rcases Zb7 hu hy eI es es2 l (i+1) D hp with ⟨f1,f2⟩|⟨j,v,f1,f2,E,F⟩
      ·refine .inl ⟨by simp[EO,C,f1],λG h1 h2=>?_⟩;obtain⟨g1,H⟩:=f2 G h1 h2;refine⟨by simpa using g1,λj p r s w A=>?_⟩
       grind
      ·refine .inr ⟨j+1,v,by simp[EO,C,f1];omega,by simp;omega,by simpa using E,?_⟩;obtain⟨g1,H⟩:=F;refine⟨by simpa using g1,λL p r s w A=>?_⟩
       grind
theorem Ydb(str:Bool)(b:Nat)(k x:I)(es D:List (I×I))(h0:Hp)(hb:h0 b=some (.map es))(hk:mz str k)(hp:oE k x es=some D):aG P GL (.lY str) [.map b,k,x] h0 .aP [] [(b,.map D)]:=by
 intro o os Q w0 L g h w a r R _ gG;have E:h b=some (.map es):=by simp_all
 have main:∀(t s e:TypeId) (f ok p:Operand),P.underlying t=some (.map s e)->vk P s str->eh g [.map b,k,x] (List.map a.eval [f,ok,p]) ->
   ∃F,(Gj t (a.eval f) (a.eval ok) (a.eval p)).run P w=.ok () F/\bu GL w0 L g (dQ h b (.map D)) F:=by
  intro t s e f ok p y B ⟨d1,d2,d3,_⟩;obtain⟨d,hd,S⟩:=YbM B hk;generalize lq:a.eval f=u1 at d1;cases d1 with
  |map _ _ z G=>
  cases H:z.cI with
  |true=>have:=r.bd b _ z E rfl G H;cases this
  |false=>
  obtain⟨_,_,o',T,arr,clock,rfl,hs,cY⟩:=r.own b _ z E rfl G H;have V:(getObj z.aD).run P w=.ok (.map arr clock) w:=by simp[getObj,Ft,T]
  have X:∀K,(setObj z.aD K).run P w=.ok () { w with heap:=w.heap.setIfInBounds z.aD K }:=by intro K;simp[setObj,Ft,T]
  have LM:fR g es arr.toList:=⟨by simpa using hs,λi k x e C N=>cY i k x e C (by simpa using N)⟩;have Y:=Qa9 (P:=P) hd S d2 false 9999 w;rcases Zb7 d2 d3 S es D arr.toList 0 LM hp with ⟨f1,A⟩|⟨j,v,f1,A,⟨e0,f3,f3'⟩,f4⟩
  ·refine⟨_,by simp only[Gj,AS,run_underlying y,AE,V,Y,Pa hd f1,X];rfl,?_⟩;refine r.write E rfl G H rfl rfl rfl rfl rfl ?_;obtain⟨g1,g2⟩:=A { key:=a.eval ok,val:=a.eval p,born:=clock } rfl rfl;exact⟨_,_,rfl,by simpa using g1,λi k x e C N=>g2 i k x e C (by grind)⟩
  ·rw[Al]at f1;have MF:(Hr (((arr[j]?).map (·.key)).getD (a.eval ok)) (a.eval ok)).run P w=.ok (a.eval ok) w:=by
    simp_all [Hr]
   refine⟨_,by simp only[Gj,AS,run_underlying y,AE,V,Y,Pa hd f1,MF,X];rfl,?_⟩;refine r.write E rfl G H rfl rfl rfl rfl rfl ?_;obtain⟨g1,g2⟩:=f4;exact⟨_,_,rfl,by simpa using g1,λi k x e C N=>g2 i k x e C (by grind)⟩
 generalize ho:o.op=op at Q;cases Q with
 |mapUpdate t s e f ok p _ y B=>
  obtain⟨F,f1,A⟩:=main t s e f ok p y B R;simp only[execOp,ho,AS,f1,AE,Ak];exact⟨g,Gm.Le.refl g,A,rfl⟩
 |mapInsert t s e f ok p _ y B=>
  obtain⟨F,f1,A⟩:=main t s e f ok p y B R;simp only[execOp,ho,AS,f1,AE,Ak];exact⟨g,Gm.Le.refl g,A,rfl⟩
theorem YcW(b:Nat)(s:List UInt8)(pos:Nat)(h0:Hp)(hb:h0 b=some (.fo s pos)) :
  (pos<s.length->aG P GL .next [.iter b] h0 (.bw [.bool true,.int .i64 pos,.int .i32 (EY ⟨s.toArray⟩ pos).1]) [] [(b,.fo s (pos+(EY ⟨s.toArray⟩ pos).2))]) /\
  (s.length<=pos->aG P GL .next [.iter b] h0 (.bw [.bool false]) [b] []):=by
 constructor
 ·intro T o os B V L g h w a r D _ gG;have y:h b=some (.fo s pos):=by simp_all
  generalize E:o.op=op at B;cases B with
  |next x=>
   have d:=D.1;generalize F:a.eval x=u0 at d;cases d with
   |iter _ _ f z=>
   cases A:f.cI with
   |true=>have:=r.bd b _ f y rfl z A;cases this
   |false=>
   obtain⟨_,_,G,C,H⟩:=r.own b _ f y rfl z A;have K:G=.stringIter ⟨s.toArray⟩ pos:=H;subst K;have N:(getObj f.aD).run P w=.ok (.stringIter ⟨s.toArray⟩ pos) w:=by simp[getObj,Ft,C]
   have X:∀Q,(setObj f.aD Q).run P w=.ok () { w with heap:=w.heap.setIfInBounds f.aD Q }:=by intro Q;simp[setObj,Ft,C]
   have R:pos<(⟨s.toArray⟩:ByteArray).size:=by show pos<s.toArray.size;simpa using T
   have S:(Gq (.pointer (some ⟨f.aD,0,none⟩)) true o.type).run P w=.ok (.tuple #[.bool true,.int .i64 pos,.int .i32 (EY ⟨s.toArray⟩ pos).1]) { w with heap:=w.heap.setIfInBounds f.aD (.stringIter ⟨s.toArray⟩ (pos+(EY ⟨s.toArray⟩ pos).2)) }:=by
    simp only[Gq,AS,N,AE,aE R,X,Ak,goInt]
   simp only[execOp,E,F,AS,S,AE,Ak];refine⟨g,Gm.Le.refl g,r.write y rfl z A rfl rfl rfl rfl rfl rfl,.bw _ _ _ rfl (λi x v j p=>?_)⟩
   match i with
   |0=>simp at j p;subst j p;exact .bool _ _
   |1=>simp at j p;subst j p;exact .int _ _ _
   |2=>simp at j p;subst j p;exact .int _ _ _
   |n+3=>simp at j
 ·intro Y o os B V L g h w a r D cZ _;have y:h b=some (.fo s pos):=by simp_all
  generalize E:o.op=op at B;cases B with
  |next x=>
   have d:=D.1;generalize F:a.eval x=u0 at d;cases d with
   |iter _ _ f z=>
   cases A:f.cI with
   |true=>have:=r.bd b _ f y rfl z A;cases this
   |false=>
   obtain⟨_,_,G,C,H⟩:=r.own b _ f y rfl z A;have K:G=.stringIter ⟨s.toArray⟩ pos:=H;subst K;have N:(getObj f.aD).run P w=.ok (.stringIter ⟨s.toArray⟩ pos) w:=by simp[getObj,Ft,C]
   have R:¬pos<(⟨s.toArray⟩:ByteArray).size:=by show ¬pos<s.toArray.size;simpa using Y
   have S:(Gq (.pointer (some ⟨f.aD,0,none⟩)) true o.type).run P w=.ok (.tuple #[.bool false]) w:=by
    simp only[Gq,AS,N,AE,aB R,Ak]
   simp only[execOp,E,F,AS,S,AE,Ak];refine Out.here r (.bw _ _ _ rfl (λi x v j p=>?_))
   match i with
   |0=>simp at j p;subst j p;exact .bool _ _
   |n+1=>simp at j
theorem Qk(k:IntKind)(i:Int)(y:Nat)(code:BoundsCode)(h0:0<=i)(h1:i<=y)(w:World):(IP (.int k i) y code).run P w=.ok i.toNat w:=by
 simp_all [IP,asIntOf]
def cut(l h:Nat)(rows:List (List I)):List (List I):=(rows.take h).drop l
variable{rows:List (List I)}
variable{l h:Nat}
theorem PJ{i:Nat}{row:List I}(e:(cut l h rows)[i]?=some row):rows[l+i]?=some row/\l+i<h:=by
 grind [cut]
theorem Jz(hh:h<=rows.length):(cut l h rows).length=h-l:=by
 unfold cut;simp;omega
theorem PK{ex b:Bool}{sz:Nat}{p:Option Addr}{len cap:Nat}(d:g.den (.aX ex b sz rows) (.slice p len cap)){m:Nat}(hl:l<=h)(hh:h<=rows.length)(hm:h<=m)(hmc:m<=cap)(o:Bool)(hex:o=true->m=h) :
  g.den (.aX o b sz (cut l h rows)) (.slice (if m=l then p else p.map (·.add (l*sz))) (h-l) (m-l)):=by
 cases d with
 |aX _ _ _ _ _ _ _ aD off f h1 h2 h3 h4 h5 h6 h7 h8=>
  have hlen:=Jz (l:=l) hh;rw[<-hlen];refine .aX _ o b sz (cut l h rows) _ (m-l) aD (off+l*sz) (λi j=>f (l+i) j) (λe=>by rw[hlen,hex e]) (λe=>?_) (λe=>?_) (λe=>?_) (by rw[hlen];omega) (λi row e=>h6 _ row (PJ e).1) (λi j y z=>?_) (λi row j x r s=>h8 _ row j x (PJ r).1 s)
  ·grind
  ·have A:h-l≠0:=by grind
   have hr:rows≠[]:=by intro w;subst w;simp at hh;omega
   rw[aB (by omega),h3 hr];simp[QX]
  ·split at e<;>simp_all
  grind
theorem Xz{o:Oper}{e:TypeId}{x:Operand}{lo hi b:Option Operand}(ho:o.op=.slice t x lo hi b)(hu:P.underlying t=some (.slice e)){n:Nat}(hn:size? P e=some n){a:Act}{p:Option Addr}{len cap:Nat}(hx:a.eval x=.slice p len cap){w:World}{m:Nat}
 (hb:(B6 true len cap (lo.map a.eval) (hi.map a.eval) (b.map a.eval)).run P w=.ok (l,h,m) w) :
  (execOp a.eval o).run P w=.ok (.value (.slice (if m=l then p else p.map (·.add (l*n))) (h-l) (m-l))) w:=by
 have h1:(Gi t (.slice p len cap) (lo.map a.eval) (hi.map a.eval) (b.map a.eval)).run P w=.ok (.slice (if m=l then p else p.map (·.add (l*n))) (h-l) (m-l)) w:=by
  simp_all [Gi,run_underlying,ZE]
 simp_all [HD,execOp,run_underlying]
theorem HZ{ex b:Bool}{sz:Nat}(d:g.den (.aX ex b sz rows) v):∃p cap,v=.slice p rows.length cap/\rows.length<=cap/\(ex=true->cap=rows.length):=by
 cases d<;>grind
theorem Yw{op:Op}{n:Nat}{f i j:Bool}{os:List Operand}(hc:cz P GL op (.cU n f i j) os) :
  ∃(t:TypeId) (x:Operand) (lo hi b:Option Operand) (e:TypeId),op=.slice t x lo hi b/\f=lo.isSome/\i=hi.isSome/\j=b.isSome/\os=[x]++lo.toList++hi.toList++b.toList/\P.underlying t=some (.slice e)/\size? P e=some n:=by
 cases hc<;>grind
theorem Un{op:Op}{b f:Bool}{os:List Operand}(hc:cz P GL op (.e9 b f) os) :
  ∃(t:TypeId) (x:Operand) (lo hi:Option Operand),op=.slice t x lo hi none/\b=lo.isSome/\f=hi.isSome/\os=[x]++lo.toList++hi.toList/\P.underlying t=some .string:=by
 cases hc<;>grind
theorem Zco(ex b:Bool)(sz:Nat)(rows:List (List I))(k:IntKind)(i:Int)(h1:0<=i)(h2:i<=rows.length)(h0:Hp) :
  aG P GL (.cU sz true false false) [.aX ex b sz rows,.int k i] h0 (.aX ex b sz (cut i.toNat rows.length rows)) [] []:=by
 intro o os A R L g S w a r B _ _;obtain⟨t,x,f,j,s,e,C,D,E,F,rfl,G,H⟩:=Yw A;obtain⟨f,rfl⟩:∃z,f=some z:=An.1 D.symm;obtain rfl:j=none:=by cases j<;>first|rfl|cases E
 obtain rfl:s=none:=by cases s<;>first|rfl|cases F
 obtain⟨d,K,_⟩:=B;obtain⟨p,cap,y,N,Q⟩:=HZ d;rw[y]at d;have hb:(B6 true rows.length cap (some (.int k i)) none none).run P w=.ok (i.toNat,rows.length,cap) w:=by
  grind [B6,AS,Ak,AE,Qk]
 rw[Xz C G H y (l:=i.toNat) (h:=rows.length) (m:=cap) (by simpa[Xp K]using hb)];exact Out.here r (PK d (by omega) (AO _) N (AO _) ex Q)
theorem Qcn(ex b:Bool)(sz:Nat)(rows:List (List I))(k:IntKind)(i:Int)(h1:0<=i)(h2:i<=rows.length)(h0:Hp) :
  aG P GL (.cU sz false true false) [.aX ex b sz rows,.int k i] h0 (.aX false b sz (cut 0 i.toNat rows)) [] []:=by
 intro o os A N L g Q w a r B _ _;obtain⟨t,x,f,j,s,e,C,D,E,F,rfl,G,H⟩:=Yw A;obtain rfl:f=none:=by cases f<;>first|rfl|cases D
 obtain⟨j,rfl⟩:∃z,j=some z:=An.1 E.symm;obtain rfl:s=none:=by cases s<;>first|rfl|cases F
 obtain⟨d,K,_⟩:=B;obtain⟨p,cap,y,R,S⟩:=HZ d;rw[y]at d;have hb:(B6 true rows.length cap none (some (.int k i)) none).run P w=.ok (0,i.toNat,cap) w:=by
  grind [B6,AS,Ak,AE,Qk]
 rw[Xz C G H y (l:=0) (h:=i.toNat) (m:=cap) (by simpa[Xp K]using hb)];exact Out.here r (PK d (by omega) (by omega) (by omega) (AO _) false (by simp))
theorem QbF(ex f:Bool)(sz:Nat)(rows:List (List I))(k b:IntKind)(i j:Int)(h1:0<=i)(h2:i<=j)(h3:j<=rows.length)(h0:Hp) :
  aG P GL (.cU sz true true false) [.aX ex f sz rows,.int k i,.int b j] h0 (.aX false f sz (cut i.toNat j.toNat rows)) [] []:=by
 intro o os C S L g T w a r D _ _;obtain⟨t,x,s,y,A,e,E,F,G,H,rfl,K,N⟩:=Yw C;obtain⟨s,rfl⟩:∃z,s=some z:=An.1 F.symm;obtain⟨y,rfl⟩:∃z,y=some z:=An.1 G.symm;obtain rfl:A=none:=by cases A<;>first|rfl|cases H
 obtain⟨d,Q,R,_⟩:=D;obtain⟨p,cap,B,V,X⟩:=HZ d;rw[B]at d;have hb:(B6 true rows.length cap (some (.int k i)) (some (.int b j)) none).run P w=.ok (i.toNat,j.toNat,cap) w:=by
  simp only[B6,AS,Ak,AE,Qk b j cap _ (by omega) (by omega),Qk k i j.toNat _ h1 (by omega)]
 rw[Xz E K N B (l:=i.toNat) (h:=j.toNat) (m:=cap) (by simpa[Xp Q,Xp R]using hb)];exact Out.here r (PK d (by omega) (by omega) (by omega) (AO _) false (by simp))
theorem XbF(ex f:Bool)(sz:Nat)(rows:List (List I))(k b:IntKind)(i:Int)(h1:0<=i)(h2:i<=rows.length)(h0:Hp) :
  aG P GL (.cU sz false true true) [.aX ex f sz rows,.int k i,.int b i] h0 (.aX true f sz (cut 0 i.toNat rows)) [] []:=by
 intro o os B R L g S w a r C _ _;obtain⟨t,x,j,s,y,e,D,E,F,G,rfl,H,K⟩:=Yw B;obtain rfl:j=none:=by cases j<;>first|rfl|cases E
 obtain⟨s,rfl⟩:∃z,s=some z:=An.1 F.symm;obtain⟨y,rfl⟩:∃z,y=some z:=An.1 G.symm;obtain⟨d,N,Q,_⟩:=C;obtain⟨p,cap,A,T,V⟩:=HZ d;rw[A]at d;have hb:(B6 true rows.length cap none (some (.int k i)) (some (.int b i))).run P w=.ok (0,i.toNat,i.toNat) w:=by
  simp only[B6,AS,Ak,AE,if_true,Qk b i cap _ h1 (by omega),Qk k i i.toNat _ h1 (by omega)]
 rw[Xz D H K A (l:=0) (h:=i.toNat) (m:=i.toNat) (by simpa[Xp N,Xp Q]using hb)];exact Out.here r (PK d (by omega) (by omega) (AO _) (by omega) true (λ_=>rfl))
theorem Xcn(s:List UInt8)(k f:IntKind)(i j:Int)(h1:0<=i)(h2:i<=j)(h3:j<=s.length)(h0:Hp) :
  aG P GL (.e9 true true) [.str s,.int k i,.int f j] h0 (.str ((s.take j.toNat).drop i.toNat)) [] []:=by
 intro o os A Q L g R w a r B _ _;obtain⟨t,x,p,y,C,D,E,rfl,F⟩:=Un A;obtain⟨p,rfl⟩:∃z,p=some z:=An.1 D.symm;obtain⟨y,rfl⟩:∃z,y=some z:=An.1 E.symm;obtain⟨d,G,H,_⟩:=B;obtain⟨b,K,rfl⟩:=yQ d;have S:b.data.toList.length=b.size:=by simp
 have N:(execOp a.eval o).run P w=.ok (.value (.string (b.extract i.toNat j.toNat))) w:=by
  simp only[execOp,C,K,HD,Gi,AS,run_underlying F,AE,Option.map_some,Xp G,Xp H,Gd,Option.isSome_none,B8,if_false,B6,Ak,Qk f j b.size _ (by omega) (by omega),Qk k i j.toNat _ h1 (by omega)]
 rw[N];have:((b.data.toList.take j.toNat).drop i.toNat)=(b.extract i.toNat j.toNat).data.toList:=by
  simp[List.drop_take]
 rw[this];exact Out.here r (.str _ _)
end
end Go.Ah
end
section
namespace Go.Ah
section
variable {P:Program} {GL:aw}
theorem Zbw(b cap:Nat)(h:cap<b):Fw b cap<=2*b+192:=by
 grind [Fw,Builtin.growBy]
variable{w:World}
theorem ZJ{t f e:TypeId}{d:TypeDesc}{n by_:Nat}{z:Value}(ht:P.underlying t=some (.slice e))(hd:P.underlying f=some d)(F:∀k,d≠.int k)(hn:size? P e=some n)(x:P.bytesOf e=by_)(hz:eg P e=some z)(G:by_≠0)
 {base:Option Addr}{len cap m:Nat}{y:Value}{newv:Array Value}(hy:(Fb y).run P w=.ok m w)(j:TypeId) :
  (len + m<=cap->(D0 n m y).run P w=.ok newv w->(base=none->(D5 #[t,f] j #[.slice base len cap,y]).run P w=.ok (.slice base (len + m) cap) w) /\
   (∀ a o,base=some a->(storeCells (a.add (len * n)) newv.toList).run P w=.ok () o->(D5 #[t,f] j #[.slice base len cap,y]).run P w=.ok (.slice base (len + m) cap) o)) /\
  (cap < len + m->(2 * (len + m) + 192) * by_<=2 ^ 48->∀ p,(D0 n len (.slice base len cap)).run P w.drew=.ok p w.drew->(D0 n m y).run P w.drew=.ok newv w.drew ->
   ∃ r,len + m<=r/\(D5 #[t,f] j #[.slice base len cap,y]).run P w=.ok (.slice (some ⟨w.heap.size,0,none⟩) (len + m) r) (w.drew.alloc (.cells (p ++ newv ++ DT z.cells (r - (len + m))) e))):=by
 obtain⟨b,s,H⟩:∃b,P.info? e=some b/\b.size=n:=by
  simp_all [size?]
 have A:b.bytes=by_:=by simpa[Program.bytesOf,s]using x
 have hiz:b.zero=some z:=by simp_all [eg]
 constructor
 ·intro hle i;constructor
  ·intro hb;subst hb;simp only[D5,EU,Fh,Fi,AS,run_underlying ht,AE,ZE hn,run_underlying hd,Ak,B8,if_false,hy,aE hle,Ej,if_true,i]
  ·intro a o hb B;subst hb;simp only[D5,EU,Fh,Fi,AS,run_underlying ht,AE,ZE hn,run_underlying hd,Ak,B8,if_false,hy,aE hle,Ej,if_true,i,B]
 ·intro C K p hold i;have D:=Zbw (len+m) cap C;have h48:¬Fw (len+m) cap*b.bytes>2 ^ 48:=by
   rw[A];have:=Av by_ D;omega
  have E:¬(((len+m:Nat):Int)>AF.max/\(False\/b.bytes=0)):=by
   simp_all
  have aab:¬len+m<=cap:=by omega
  refine⟨(Question.appendCap (len+m) cap e).cut (w.tape w.drawn (.appendCap (len+m) cap e)),by simp[Question.cut],?_⟩;simp only[D5,EU,Fh,Fi,AS,run_underlying ht,AE,ZE hn,run_underlying hd,Ak,B8,if_false,hy,aB aab,Ej,if_true,typeInfo,run_program,s,aB E];simp only[AS,run_program,AE,s,Ak,aB h48,run_choose,Question.forced,B8,if_false,run_askRoom,World.drew_eq,hold,i,Bz hz,newRow,run_newObj,World.alloc_eq];rfl
inductive fy (h0:Hp) (sz:Nat):I->List (List I)->List Nat->Prop
 |row (ex nn:Bool) (rows:List (List I)):fy h0 sz (.aX ex nn sz rows) rows []
 |aq:fy h0 sz .aq [] []
 |cX:fy h0 sz .cX [] []
 |own (b off len:Nat) (ex:Bool) (rs:List (List I)):h0 b=some (.rows sz rs)->off+len<=rs.length->fy h0 sz (.sl b off len ex) (cut off (off+len) rs) [b]
def mW(g:Gm)(sz:Nat)(rs:List (List I))(arr:Array Value):Prop:=
 arr.size=rs.length*sz/\(∀(i:Nat) (row:List I),rs[i]?=some row->row.length=sz) /\
 ∀(i:Nat) (row:List I) (j:Nat) (x:I) (v:Value),rs[i]?=some row->row[j]?=some x->arr[i*sz+j]?=some v->g.den x v
variable{sz:Nat}
variable{g:Gm}
theorem QL{w0:World}{L:Ln}{h h0:Hp}(r:bu GL w0 L g h w){y:I}{ys:List (List I)}{rd:List Nat}(hs:fy h0 sz y ys rd)(cZ:∀b∈rd,h b=h0 b){v:Value}(d:g.den y v) :
  ∃(p:Option Addr) (cap:Nat) (newv:Array Value),v=.slice p ys.length cap/\(D0 sz ys.length v).run P w=.ok newv w/\mW g sz ys newv/\(∀z∈newv.toList,ys≠[]->True):=by
 cases hs with
 |aq=>
  cases d;exact⟨none,0,#[],rfl,rfl,⟨by simp,by simp,by simp⟩,by simp⟩
 |cX=>
  cases d with
  |cX _ p=>
  refine⟨p,0,#[],rfl,?_,⟨by simp,by simp,by simp⟩,by simp⟩;cases p<;>simp_all [D0,loadCells,loadCellsFrom]
 |row ex nn rows=>
  cases d with
  |aX _ _ _ _ _ p cap aD off f h1 h2 h3 h4 h5 h6 h7 h8=>
  by_cases F:ys=[]
  ·subst F;refine⟨p,cap,#[],rfl,?_,⟨by simp,by simp,by simp⟩,by simp⟩;cases p<;>simp_all [D0,loadCells,loadCellsFrom]
  ·have K:=h3 F;subst K;have C:=run_loadCells (P:=P) w ⟨aD,off,none⟩ (ys.length * sz) (λk=>f (k / sz) (k % sz)) (λk N=>by
    grind [QX,F3,G2,Gp,SF])
   refine⟨_,cap,_,rfl,by simp only[D0];exact C,⟨by simp,h6,λi row j x u s Q e3=>?_⟩,by simp⟩;have R:i<ys.length:=(eS s).1;have G:j<sz:=by grind
   have D:i*sz+j<ys.length*sz:=by
    grind
   simp[D]at e3;have hdiv:(i*sz+j)/sz=i:=by grind [Nat.mul_comm,Nat.mul_add_div,Nat.div_eq_of_lt]
   rw[hdiv,Fk G]at e3;subst e3;exact(h8 i row j x s Q).mono (iJ.refl _) (fW.bE _)
 |own b off len ex rs hb hle=>
  have H:h b=some (.rows sz rs):=by simp_all
  have E:(cut off (off+len) rs).length=len:=by rw[Jz hle];omega
  cases d with
  |n9 _ _ _ o p A B=>
   have:=(r.hY H A B).2;subst this;simp at hle;refine⟨p,0,#[],by simp[cut],?_,⟨by simp[cut],by simp[cut],by simp[cut]⟩,by simp⟩;have:(cut 0 (0+0) ([]:List (List I))).length=0:=by simp[cut]
   rw[this];cases p<;>simp_all [D0,loadCells,loadCellsFrom]
  |sle _ _ _ _ o p A B _ _=>
   have S:cut off (off+0) rs=[]:=by simp[cut]
   rw[S];refine⟨p,0,#[],by simp,?_,⟨by simp,by simp,by simp⟩,by simp⟩;cases p<;>simp_all [D0,loadCells,loadCellsFrom]
  |sl _ _ _ _ _ o cap A B h1 h2 h3=>
   obtain⟨s,arr,T,fM,hs,V,X,cY⟩:=r.ff H A B;rw[s]at h2 ⊢;have hbound:o.base+off*sz+len*sz<=arr.size:=by
    rw[hs];refine CI ?_ V;rw[EG,<-EW];simp_all [Av]
   have C:=run_loadCells (P:=P) w ⟨o.aD,o.base + off * sz,none⟩ (len * sz) (λk=>(arr[o.base + off * sz + k]?).getD undef) (λk N=>by
    grind [QX,Z8])
   refine⟨_,cap,_,by rw[E],by rw[E];simp only[D0];exact C,⟨by rw[E];simp,λi row e=>X _ row (PJ e).1,λi row j x u Y q2 q3=>?_⟩,by simp⟩;obtain⟨c1,c2⟩:=PJ Y;have G:j<sz:=by grind
   have R:i<len:=by omega
   have D:i*sz+j<len*sz:=by
    grind
   have W_:o.base+off*sz+(i*sz+j)<arr.size:=by omega
   simp[D,W_]at q3
   grind
theorem QI{o:Oper}{t b:TypeId}{x y:Operand}(ho:o.op=.call ⟨.builtin .append,#[x,y],#[t,b]⟩){a:Act}{u v z:Value}(hu:a.eval x=u)(hv:a.eval y=v){w':World}
 (hr:(D5 #[t,b] o.type #[u,v]).run P w=.ok z w'):(execOp a.eval o).run P w=.ok (.value z) w':=by
 simp_all [execOp,resolve,invoke,builtin]
theorem bu.move{w0:World}{L:Ln}{h:Hp}(r:bu GL w0 L g h w){b d:Nat}{aD blk0 blk':U}{cb cb2:CB}(e:h b=some aD)(hl:aD.live=true)(p:g.c b=some cb)(hv:cb.cI=false)(uX:blk0.live=true)(lU:blk'.live=true)(hn:h d=none)
 {o':Obj}{w':World}(K:w'.os=w.os)(N:w'.tape=w.tape)(Q:w'.output=w.output)(R:w'.heap=w.heap.setIfInBounds cb.aD o')
 (ok:iL g.M g.c cb o' blk0)(j7:cb2.aD=cb.aD)(MI:cb2.cI=false)(ok2:iL g.M g.c cb2 o' blk'):g.Le ⟨g.M,mj g.c d cb2⟩/\bu GL w0 L ⟨g.M,mj g.c d cb2⟩ (dQ (dQ h b .dead) d blk') w':=by
 have r1:=r.write e hl p hv uX K N Q R ok;have S:=r.dU d hn;have z:fW g.c (mj g.c d cb2):=fW.mj S;have Eb:d≠b:=by rintro rfl;rw[e]at hn;cases hn
 have A:∀n x,dQ (dQ h b .dead) d blk' n=some x->x.live=true->(n=d/\x=blk')\/(n≠d/\n≠b/\h n=some x):=by
  intro n x f j;by_cases h1:n=d
  ·simp_all [Ys]
  grind [U.live,Yr,Ys]
 have E:∀n i,n≠d->mj g.c d cb2 n=some i->g.c n=some i:=by simp_all [Y8]
 refine⟨⟨iJ.refl _,z⟩,?_⟩;exact {
  keeps:=r1.keeps
  aZ:=r1.aZ
  cr:=r1.cr
  src:=r1.src
  dU:=λn f=>by
   by_cases h1:n=d
   ·subst h1;rw[Ys]at f;cases f
   ·rw[Yr _ _ h1]at f;show mj g.c d cb2 n=none;rw[Y8 _ _ h1];by_cases h2:n=b
    ·subst h2;rw[Ys]at f;cases f
    ·rw[Yr _ _ h2]at f;exact r.dU n f
  jb:=λn x f=>by
   by_cases h1:n=d
   ·simp_all [Yy]
   ·rw[Yr _ _ h1]at f;have:∃q,g.c n=some q:=by
     by_cases h2:n=b
     ·subst h2;exact⟨cb,p⟩
     ·rw[Yr _ _ h2]at f;exact r.jb n x f
    simp_all [Y8]
  own:=λn x i f j o s=>by
   rcases A n x f j with ⟨rfl,rfl⟩|⟨h1,h2,h3⟩
   ·have:mj g.c n cb2 n=some i:=o;rw[Yy]at this;cases this;obtain⟨B,C,F,G,H⟩:=r1.own b blk0 cb (Ys _ _ _) uX p hv;have bZ:=r.dX e hl p hv;rw[j7];exact⟨B,C,o',by simp_all,ok2.mono (iJ.refl _) z⟩
   ·obtain⟨B,C,F,G,H⟩:=r1.own n x i (by rw[Yr _ _ h2];exact h3) j (E n i h1 o) s;exact⟨B,C,F,G,H.mono (iJ.refl _) z⟩
  bd:=λn x i f j o s=>by
   rcases A n x f j with ⟨rfl,rfl⟩|⟨h1,h2,h3⟩
   ·simp_all [Yy]
   ·exact r.bd n x i h3 j (E n i h1 o) s
  inj:=λn T x V ca1 ca2 X Y l1 l2 c1 c2 v1 v2 iE=>by
   have tr:∀n x i,dQ (dQ h b .dead) d blk' n=some x->x.live=true->mj g.c d cb2 n=some i->i.cI=false->∃m y D,h m=some y/\y.live=true/\g.c m=some D/\D.cI=false/\D.aD=i.aD/\((n=d/\m=b)\/(n≠d/\m=n/\n≠b)):=by
    intro n x i f j o s;rcases A n x f j with ⟨rfl,rfl⟩|⟨h1,h2,h3⟩
    ·rw[Yy]at o;grind
    grind
   obtain⟨m1,y1,k1,f1,f2,f3,fv,fb,f4⟩:=tr n x ca1 X l1 c1 v1;obtain⟨m2,y2,k2,g1,g2,g9993,gv,gb,g9994⟩:=tr T V ca2 Y l2 c2 v2;have:=r.inj m1 m2 y1 y2 k1 k2 f1 g1 f2 g2 f3 g9993 fv gv (by rw[fb,gb];exact iE);omega }
theorem SQ{rs ys:List (List I)}{a b c:Array Value}(h1:mW g sz rs a)(h2:mW g sz ys b) :
  (∀(i:Nat) (row:List I),(rs++ys)[i]?=some row->row.length=sz) /\
  ∀(i:Nat) (row:List I) (j:Nat) (x:I) (v:Value),(rs++ys)[i]?=some row->row[j]?=some x->(a++b++c)[i*sz+j]?=some v->g.den x v:=by
 obtain⟨s1,s,d1⟩:=h1;obtain⟨s2,y,z⟩:=h2;constructor
 ·grind
 ·intro i row j x v d A e3;by_cases f:i<rs.length
  ·rw[Bi f]at d;have o:j<sz:=by grind
   have p:i*sz+j<a.size:=by
    rw[s1];have:(i+1)*sz<=rs.length*sz:=Av sz f;rw[EN]at this;omega
   grind
  ·rw[Bc (by omega)]at d;have r:i-rs.length<ys.length:=(eS d).1;have o:j<sz:=by grind
   have B:a.size<=i*sz+j:=by
    rw[s1];have:rs.length*sz<=i*sz:=Av sz (by omega);omega
   have C:i*sz+j-a.size=(i-rs.length)*sz+j:=by
    rw[s1,GD];have:rs.length*sz<=i*sz:=Av sz (by omega);omega
   have p:(i-rs.length)*sz+j<b.size:=by
    rw[s2];have:(i-rs.length+1)*sz<=ys.length*sz:=Av sz r;rw[EN]at this;omega
   grind
theorem SP(z:Array Value)(n:Nat):(DT z n).size=n*z.size:=by simp[DT]
inductive ny (h0:Hp) (sz:Nat):I->List (List I)->List (Nat×U)->Prop
 |aq:ny h0 sz .aq [] []
 |cX:ny h0 sz .cX [] []
 |own (b off len:Nat) (ex:Bool) (rs:List (List I)):h0 b=some (.rows sz rs)->rs.length=off+len->ny h0 sz (.sl b off len ex) (rs.drop off) [(b,.dead)]
theorem Xdm(rs:List (List I))(o n:Nat)(h:rs.length=o+n):cut o (o+n) rs=rs.drop o:=by grind [cut]
theorem ny.src{h0:Hp}{x:I}{rs:List (List I)}{kill:List (Nat×U)}(hv:ny h0 sz x rs kill):fy h0 sz x rs (kill.map (·.1)):=by
 cases hv with
 |aq=>exact .aq
 |cX=>exact .cX
 |own b off len ex rs hb d=>have:=fy.own (h0:=h0) (sz:=sz) b off len ex rs hb (by omega);rwa [Xdm rs off len d]at this
theorem ZbS(n by_:Nat)(z:List I)(x y:I)(rs ys:List (List I))(rd:List Nat)(kill:List (Nat×U))(h0:Hp)(s:Nat)(hn:h0 s=none)(Q:ny h0 n x rs kill)(tv:fy h0 n y ys rd)
 (mm:∀row∈ys,∀x∈row,I.cell x=true)(bU:(2*(rs.length+ys.length)+192)*by_<=2 ^ 48) :
  aG P GL (.append n by_ z) [x,y] h0 (.sl s 0 (rs.length+ys.length) false) rd (kill++[(s,.rows n (rs++ys))]):=by
 intro o os hc w0 L g h w a r hx cZ gG;have A:h s=none:=by rw[gG (s,.rows n (rs++ys)) (by simp)];exact hn
 have abh:∀p∈kill,h p.1=h0 p.1:=λp hp=>gG p (by simp[hp]);generalize ho:o.op=op at hc;cases hc with
 |append t t' e ox oy _ _ v _ ht AM ei tk hz sM dM lR kU=>
  obtain⟨d,hd,qt⟩:=AM;obtain⟨d1,d2,_⟩:=hx;generalize lq:a.eval ox=u1 at d1;generalize rm:a.eval oy=u2 at d2;obtain⟨R,nS,nZ,G,f1,CV,_⟩:=QL (P:=P) r.drew Q.src (λb hb=>by
   grind) d1
  obtain⟨p2,zZ,newv,e2,f2,C,_⟩:=QL (P:=P) r tv cZ d2;obtain⟨p2',BS,nI,K_,Ld,sY,_⟩:=QL (P:=P) r.drew tv cZ d2;have gV:(Fb u2).run P w=.ok ys.length w:=by rw[e2];rfl
  have LZ:nS<rs.length+ys.length->Out P GL w0 L g (cx h (kill++[(s,.rows n (rs++ys))])) (.sl s 0 (rs.length+ys.length) false) ((execOp a.eval o).run P w):=by
   intro bZ;obtain⟨nc,xV,Y⟩:=(ZJ ht hd qt ei tk hz lR (base:=R) (len:=rs.length) (cap:=nS) (newv:=nI) gV o.type).2 bZ bU nZ (by rw[<-G];exact f1) Ld;rw[QI ho (by rw[lq];exact G) rm Y];obtain⟨B,S⟩:=SQ (c:=DT v.cells (nc-(rs.length+ys.length))) CV sY;have gn:∃h1,h1=cx h kill/\bu GL w0 L g h1 w.drew/\h1 s=none:=by
    cases Q with
    |aq=>exact⟨h,rfl,r.drew,A⟩
    |cX=>exact⟨h,rfl,r.drew,A⟩
    |own b off len ex D hb hl=>
     have E:h b=some (.rows n D):=by simp_all
     refine⟨_,rfl,r.drew.kill E,?_⟩;show dQ h b .dead s=none;rw[Yr _ _ (by rintro rfl;rw[E]at A;cases A)];exact A
   obtain⟨h1,hh1,rk,tY⟩:=gn;obtain⟨g',WJ,WK,Ar⟩:=bu.oi rk tY n (rs++ys) (nZ++nI++DT v.cells (nc-(rs.length+ys.length))) e (rs.length+ys.length) nc false
    (by
      simp only[Hz,CV.1,sY.1,SP,sM,GD,EW];have:(rs.length + ys.length) * n<=nc * n:=Av n xV;rw[EW]at this;omega) xV (by simp) (by simp;exact xV) B S
   refine⟨g',WJ,?_,Ar⟩;have:cx h (kill++[(s,.rows n (rs++ys))])=dQ h1 s (.rows n (rs++ys)):=by
    rw[hh1];cases Q<;>rfl
   rw[this];exact WK
  have lI:rs=[]->ys=[]->u1=.slice R 0 0->bu GL w0 L g (cx h kill) w->cx h kill s=none->Out P GL w0 L g (cx h (kill++[(s,.rows n (rs++ys))])) (.sl s 0 (rs.length+ys.length) false) ((execOp a.eval o).run P w):=by
   rintro MA rfl jm rk tY;have AB:newv.toList=[]:=by have:=C.1;simp at this;simp[this]
   have Y:(D5 #[t,t'] o.type #[.slice R 0 0,u2]).run P w=.ok (.slice R 0 0) w:=by
    obtain⟨k1,k2⟩:=(ZJ ht hd qt ei tk hz lR (base:=R) (len:=0) (cap:=0) (newv:=newv) gV o.type).1 (by simp) f2;cases R with
    |none=>exact k1 rfl
    |some ad=>exact k2 ad w rfl (by rw[AB];rfl)
   rw[QI ho (by rw[lq];exact jm) rm Y];have hg:=rk.ghost tY n;refine⟨⟨g.M,mj g.c s ⟨0,n,0,true,0⟩⟩,⟨iJ.refl _,fW.mj (rk.dU s tY)⟩,?_,by rw[MA];exact .n9 _ _ _ _ _ (Yy _ _ _) rfl⟩;have hk:∀v,cx h (kill++[(s,v)])=dQ (cx h kill) s v:=by intro v;cases Q<;>rfl
   rw[hk,MA];exact hg
  have abO:=Q;cases Q with
  |aq=>
   cases d1;injection G with F RE K9
   by_cases H:ys=[]
   ·exact lI rfl H (by rw[<-F]) r A
   grind
  |cX=>
   cases d1;injection G with F RE K9
   by_cases H:ys=[]
   ·exact lI rfl H (by rw[<-F]) r A
   grind
  |own b off len ex D hb hl=>
   have E:h b=some (.rows n D):=by simp_all
   have Eb:s≠b:=by rintro rfl;rw[E]at A;cases A
   have Mf:(D.drop off).length=len:=by rw[Gg];omega
   cases d1 with
   |n9 _ _ _ f p ec K=>
    injection G with F RE K9
    have wt:=(r.hY E ec K).2;subst wt;by_cases H:ys=[]
    ·exact lI (by simp) H (by rw[<-F]) (r.kill E) (by show dQ h b .dead s=none;rw[Yr _ _ Eb];exact A)
    grind
   |sle _ _ _ _ f p ec K _ _=>
    injection G with F RE K9
    have R_:D.drop off=[]:=Ck.1 Mf;by_cases H:ys=[]
    ·exact lI R_ H (by rw[<-F]) (r.kill E) (by show dQ h b .dead s=none;rw[Yr _ _ Eb];exact A)
    grind
   |sl _ _ _ _ _ f cap ec K h1 h2 h3=>
    injection G with F RE K9
    subst K9;by_cases hle:(D.drop off).length+ys.length<=cap
    ·obtain⟨z1,arr,T,fM,hs,lV,My,LJ⟩:=r.ff E ec K;rw[z1]at h2;rw[EW,<-EG]at h2;have hZ:f.base+off*n+cap*n<=arr.size:=by rw[hs];exact Me h2
     have dR:∀(i:Nat) (row:List I),(D.drop off)[i]?=some row->row.length=n:=λi row q=>My (off+i) row (by rw[GN]at q;exact q);have cY:∀(i:Nat) (row:List I) (j:Nat) (x:I) (v:Value),(D.drop off)[i]?=some row->row[j]?=some x->arr[f.base+off*n+i*n+j]?=some v->g.den x v:=λi row j x v B S V=>LJ (off+i) row j x v (by rw[GN]at B;exact B) S (by grind);generalize abJ:D.drop off=rs at *;have nf:∀u∈newv.toList,u.oneCell'=true:=by
      intro u hu;obtain⟨q,hq⟩:=Et.1 hu;rw[EI]at hq;have yb:q<ys.length*n:=by rw[<-C.1];grind
      have vB:0<n:=FE kU;have X:q/n<ys.length:=(F3 vB).2 yb;have sI:ys[q/n]?=some ys[q/n]:=by simp[X]
      have Mg:=C.2.1 _ _ sI;have hj:q%n<ys[q/n].length:=by rw[Mg];exact G2 _ vB
      refine Rp (mm _ (AI X) _ (AI hj)) (C.2.2 (q/n) _ (q%n) _ u sI (by simp[hj]) ?_)
      grind [Gp]
     have hmul:(rs.length + ys.length) * n<=cap * n:=Av n hle;obtain⟨N,s1,s2,s3⟩:=Um (P:=P) fM newv.toList nf (j:=f.base + off * n + rs.length * n) (by
      intro _;rw[DU (xs:=newv),C.1]
      grind)
     have Y:=((ZJ ht hd qt ei tk hz lR (base:=some ⟨f.aD,f.base + off * f.sz,none⟩) (len:=rs.length) (cap:=cap) (newv:=newv) gV o.type).1 hle f2).2 ⟨f.aD,f.base + off * f.sz,none⟩ (w.setRow f.aD N) rfl (by
      rw[QX,z1];exact s1)
     rw[QI ho (by rw[lq,<-Mf]) rm Y];have aac:iL g.M g.c f (.cells N T (0,0)) (.rows n []):=by
      refine⟨z1,N,T,rfl,by rw[s2,hs],by simp;omega,by simp,by simp⟩
     have bT:iL g.M g.c { f with base:=f.base+off*n } (.cells N T (0,0)) (.rows n (rs++ys)):=by
      refine⟨z1,N,T,rfl,by rw[s2,hs],?_,?_,?_⟩
      ·rw[AT];grind
      ·intro i row q;by_cases X:i<rs.length
       ·grind
       ·rw[Bc (by omega)]at q;exact C.2.1 _ row q
      ·intro i row j x0 u B S V;rw[s3,DU (xs:=newv),C.1]at V;by_cases X:i<rs.length
       ·rw[Bi X]at B;have hj:j<n:=by grind
        have bZ:i*n+j<rs.length*n:=by
         have:(i+1)*n<=rs.length*n:=Av n X;rw[EN]at this;omega
        rw[aB (by grind)]at V;exact cY i row j x0 u B S V
       ·rw[Bc (by omega)]at B;have uS:i-rs.length<ys.length:=(eS B).1;have hj:j<n:=by rw[<-C.2.1 _ row B];grind
        have h5:rs.length*n<=i*n:=Av n (by omega);have h6:(i-rs.length+1)*n<=ys.length*n:=Av n uS;rw[EN,GD]at h6;rw[aE (by grind)]at V;refine C.2.2 _ row j x0 u B S ?_;rw[EI]at V
        grind
     obtain⟨k1,k2⟩:=r.move E rfl ec K (blk0:=.rows n []) (blk':=.rows n (rs++ys)) (cb2:={ f with base:=f.base+off*n }) rfl rfl A (w':=w.setRow f.aD N) rfl rfl rfl (Rf w _ arr N T (0,0) fM) aac rfl K bT;refine⟨_,k1,k2,?_⟩;have pS:Den g.M (mj g.c s { f with base:=f.base+off*n }) (.sl s 0 (rs.length+ys.length) false) (.slice (some ⟨f.aD,f.base+off*n+0*f.sz,none⟩) (rs.length+ys.length) cap):=
      .sl _ _ _ _ _ { f with base:=f.base+off*n } cap (Yy _ _ _) K hle (by grind) (by simp)
     rw[He,FF]at pS;have e3:f.base+off*f.sz=f.base+off*n:=by rw[z1]
     rw[e3];exact pS
    ·exact LZ (by omega)
end
end Go.Ah
end
section
namespace Go.Ah
mutual
def I.ro:I->Bool
 |.bool _=>true
 |.int _ _=>true
 |.str _=>true
 |.dq=>true
 |.al _ _=>true
 |.aq=>true
 |.cX=>true
 |.aX _ _ _ _=>true
 |.fI _=>true
 |.cG=>true
 |.func _ xs b=>fV xs&&fV b
 |.bH=>true
 |.iface _ v=>v.ro
 |.dp=>true
 |.agg cs=>fV cs
 |.bw cs=>fV cs
 |.when _ x=>x.ro
 |.aP=>true
 |_=>false
def fV:List I->Bool
 |[]=>true
 |x::xs=>x.ro&&fV xs
end
theorem JH:∀ {xs:List I} {i:Nat} {x:I},fV xs=true->xs[i]?=some x->x.ro=true
 |[],i,x,_,e=>by simp at e
 |y::xs,0,x,h,e=>by simp_all [fV]
 |y::xs,i+1,x,h,e=>by simp[fV]at h;simp at e;exact JH h.2 e
theorem Den.ro{M:Nat->Option Obj}{c:Own}{x:I}{v:Value}(h:Den M c x v):x.ro=true->∀b,Den M b x v:=by
 induction h with
 |aP=>intro _ b;exact .aP _ _
 |bool=>intro _ b;exact .bool _ _
 |int=>intro _ b;exact .int _ _ _
 |str=>intro _ b;exact .str _ _
 |dq=>intro _ b;exact .dq _
 |ak=>intro h;simp[I.ro]at h
 |ptr=>intro h;simp[I.ro]at h
 |al c row j aD off f h1 h2 o=>intro _ b;exact .al _ _ _ _ _ f h1 h2
 |aq=>intro _ b;exact .aq _
 |cX=>intro _ b;exact .cX _ _
 |sl=>intro h;simp[I.ro]at h
 |n9=>intro h;simp[I.ro]at h
 |sle=>intro h;simp[I.ro]at h
 |aX c ex A sz rows a cap aD off f h1 h2 h3 y h4 h5 h6 h7 o=>intro _ b;exact .aX _ _ _ _ _ _ _ aD off f h1 h2 h3 y h4 h5 h6 h7
 |map=>intro h;simp[I.ro]at h
 |fI c es aD arr clock e h1 h2 h3 r s=>intro _ b;exact .fI _ _ _ _ _ e h1 h2 h3
 |cG=>intro _ b;exact .cG _
 |func c fn first captured w ws h1 h2 h3 h4 r s=>
  intro h b;simp[I.ro]at h;exact .func _ _ _ _ _ _ h1 h2 (λi x v d p=>r i x v d p (JH h.1 d) b) (λi x v d p=>s i x v d p (JH h.2 d) b)
 |bH=>intro _ b;exact .bH _
 |iface c t x v h o=>intro hr b;exact .iface _ _ _ _ (o (by simpa[I.ro]using hr) b)
 |dp=>intro _ b;exact .dp _
 |agg c cs w h1 h2 o=>intro h b;exact .agg _ _ _ h1 (λi x v d p=>o i x v d p (JH (by simpa[I.ro]using h) d) b)
 |bw c cs w h1 h2 o=>intro h b;exact .bw _ _ _ h1 (λi x v d p=>o i x v d p (JH (by simpa[I.ro]using h) d) b)
 |when c cs x v h h2 o=>intro hr b;exact .when _ _ _ _ (λz=>o z (by simpa[I.ro]using hr) b) h2
 |iter=>intro h;simp[I.ro]at h
section
variable {P:Program} {GL:aw}
theorem QeY{M:Nat->Option Obj}{b:Nat}{o:Obj}(h:M b=none):iJ M (oh M b o):=by
 intro n x d
 grind [oh]
theorem bu.wU{w0:World}{L:Ln}{g:Gm}{h:Hp}{w:World}(r:bu GL w0 L g h w)(o:Obj):g.Le ⟨oh g.M w.heap.size o,g.c⟩/\bu GL w0 L ⟨oh g.M w.heap.size o,g.c⟩ h (w.alloc o):=by
 have z:g.M w.heap.size=none:=by
  cases hm:g.M w.heap.size with
  |none=>rfl
  |some x=>have:=r.fT hm;omega
 have f:=QeY (o:=o) z;have i:∀k,k<w.heap.size->(w.alloc o).heap[k]?=w.heap[k]?:=by
  intro k A;show (w.heap.push o)[k]?=_;grind
 refine⟨⟨f,fW.refl _⟩,?_⟩;exact {
  keeps:=r.keeps.trans' rfl rfl rfl (by simp) (λk A _=>i k (by have:=r.keeps.size;omega))
  aZ:=λb x e=>by
   by_cases hb:b=w.heap.size
   ·subst hb;have:oh g.M w.heap.size o w.heap.size=some x:=e;simp[oh]at this;subst this;show (w.heap.push o)[w.heap.size]?=_;simp
   ·have d:oh g.M w.heap.size o b=some x:=e;simp[oh,hb]at d;rw[i b (r.fT d)];exact r.aZ b x d
  cr:=λp B=>(r.cr p B).mono f (fW.refl _)
  src:=λb x e=>by
   by_cases hb:b=w.heap.size
   ·subst hb;exact .inr (.inl r.keeps.size)
   ·have d:oh g.M w.heap.size o b=some x:=e;simp[oh,hb]at d;exact r.src b x d
  dU:=r.dU
  jb:=r.jb
  own:=λb aD C e j s y=>by
   obtain⟨h1,h2,D,E,F⟩:=r.own b aD C e j s y;have G:=r.dX e j s y;refine⟨?_,h2,D,by rw[i _ G];exact E,F.mono f (fW.refl _)⟩
   grind [oh]
  bd:=r.bd
  inj:=r.inj }
theorem QcC(sz:Nat)(h0:Hp):aG P GL (.mC sz) [] h0 (.aX true true sz []) [] []:=by
 intro o os b p L g h w a r s _ _;generalize x:o.op=op at b;cases b with
 |nA t e _ parts he hs hp=>
  have hpe:parts = #[]:=by cases parts;simpa using hp
  subst hpe;have d:P.underlying t=some (.slice e):=by
   grind [eW]
  obtain⟨f,i⟩:=r.wU (.cells #[] e);have j:(execOp a.eval o).run P w=.ok (.value (.slice (some ⟨w.heap.size,0,none⟩) 0 0)) (w.alloc (.cells #[] e)):=by
   have h1:(Fg t 0 #[]).run P w=.ok (.slice (some ⟨w.heap.size,0,none⟩) 0 0) (w.alloc (.cells #[] e)):=by
    simp only[Fg,AS,run_underlying d,AE,ZE hs,He];simp[Gs,newRow,Fe]
   simp_all [execOp]
  rw[j];exact⟨_,f,i,.aX _ _ _ _ [] _ _ w.heap.size 0 (λ_ _=>undef) (by simp) (by simp) (by simp) (by simp) (by simp) (by simp) (by simp) (by simp)⟩
theorem YdG{k:IntKind}{n:Int}(w:World):(asInt (.int k n)).run P w=.ok n w:=rfl
theorem XdI(n by_ len:Nat)(z:List I)(k:IntKind)(T:by_*len<=2 ^ 48)(hlen:len<2 ^ 62)(h0:Hp)(p:Nat)(hn:h0 p=none) :
  aG P GL (.sS n by_ z) [.int k len] h0 (.sl p 0 len true) [] [(p,.rows n (CD len z))]:=by
 intro o os b V L g h w a r y _ X;have A:h p=none:=by simp_all
 generalize Y:o.op=op at b;cases b with
 |makeSlice t l e v _ _ _ he hs hb kU B C D=>
  obtain⟨d,E,sA⟩:∃d,P.info? e=some d/\d.bytes=by_:=by
   simp_all
  have F:P.underlying t=some (.slice e):=by
   grind [eW]
  have hl:=Xp y.1;have hw:AF.wrap (len:Int)=len:=Bb _ ⟨by omega,by omega⟩;obtain⟨G,H⟩:=XX (M:=g.M) (c:=g.c) D;have MN:z.length=n:=by rw[<-G,DU,C]
  let cells:Array Value:=if len*n=0 then #[]else (Fe (len*n)).map (v.cells[· % v.cells.size]!)
  have K:cells.size=len*n:=by
   grind
  have N:(execOp a.eval o).run P w=.ok (.value (.slice (some ⟨w.heap.size,0,none⟩) len len)) (w.alloc (.cells cells e)):=by
   have h1:(I0 t (.int k len) (.int k len)).run P w=.ok (.slice (some ⟨w.heap.size,0,none⟩) len len) (w.alloc (.cells cells e)):=by
    have g1:¬((len:Int)<0\/(d.bytes:Int)*len>2 ^ 48):=by
     grind
    have g2:¬((len:Int)<0\/(len:Int)>len):=by omega
    simp only[I0,AS,run_underlying F,AE,YdG,typeInfo,run_program,E,Ak,hw];simp[g1,g2,run_askRoom,ZE hs,Bz B];have g9993:¬(((len:Int)<0\/281474976710656<(d.bytes:Int)*len)\/(len:Int)<0):=by
     omega
    rw[aB g9993];by_cases f:len*n=0
    ·have b:cells = #[]:=by simp only[cells];rw[aE f]
     have hm:Array.map (λ_:Nat=>(default:Value)) (Fe 0) = #[]:=by simp[Fe]
     rw[aE f,b,f,hm];rfl
    ·have b:cells=(Fe (len*n)).map (v.cells[· % v.cells.size]!):=by simp only[cells];rw[aB f]
     rw[aB f,b];rfl
   simp_all [execOp]
  rw[N];refine bu.oi r A n (CD len z) cells e len len true (by rw[K]) (AO _) (λ_=>rfl) (by simp) (λi row e=>?_) (λi row j x Q s R e3=>?_)
  ·grind
  ·rw[Ea]at s;split at s
   ·rename_i hi;cases s;have hj:j<n:=by grind
    refine H j x Q R ?_;have bZ:i*n+j<len*n:=by
     grind
    have S:¬len*n=0:=by omega
    simp only[cells,aB S]at e3;simp_all [Fk]
   ·cases s
theorem Qdc(k:IntKind)(n:Int)(h0:Hp):aG P GL (.un .xor) [.int k n] h0 (.int k (bits .xor k (if k.signed then -1 else k.max) n)) [] []:=by
 intro o os b i L g h w a r d _ _;generalize f:o.op=j at b;cases b with
 |un _ t x=>
  simp only[execOp,f,Xp d.1,MC,intBits_xor,AS,Ak,AE];exact Out.here r (.int _ _ _)
end
end Go.Ah
end
section
namespace Go.Ah
mutual
def I.flat:I->Bool
 |.bool _=>true
 |.int _ _=>true
 |.str _=>true
 |.dq=>true
 |.aq=>true
 |.cG=>true
 |.func _ xs b=>mF xs&&mF b
 |.bH=>true
 |.iface _ v=>v.flat
 |.dp=>true
 |.agg cs=>mF cs
 |.bw cs=>mF cs
 |.aP=>true
 |_=>false
def mF:List I->Bool
 |[]=>true
 |x::xs=>x.flat&&mF xs
end
theorem Kd:∀ {xs:List I} {i:Nat} {x:I},mF xs=true->xs[i]?=some x->x.flat=true
 |[],i,x,_,e=>by simp at e
 |y::xs,0,x,h,e=>by simp_all [mF]
 |y::xs,i+1,x,h,e=>by simp[mF]at h;simp at e;exact Kd h.2 e
variable{M:Nat->Option Obj}
variable{x:I}
theorem Den.flat{c:Own}{v:Value}(h:Den M c x v):x.flat=true->∀f b,Den f b x v:=by
 induction h with
 |aP=>intro _ _ b;exact .aP _ _
 |bool=>intro _ _ b;exact .bool _ _
 |int=>intro _ _ b;exact .int _ _ _
 |str=>intro _ _ b;exact .str _ _
 |dq=>intro _ _ b;exact .dq _
 |aq=>intro _ _ b;exact .aq _
 |cG=>intro _ _ b;exact .cG _
 |func c fn first captured p ws h1 h2 h3 h4 r s=>
  intro h f b;simp[I.flat]at h;exact .func _ _ _ _ _ _ h1 h2 (λi x v d j=>r i x v d j (Kd h.1 d) f b) (λi x v d j=>s i x v d j (Kd h.2 d) f b)
 |bH=>intro _ _ b;exact .bH _
 |iface c t x v h o=>intro hr f b;exact .iface _ _ _ _ (o (by simpa[I.flat]using hr) f b)
 |dp=>intro _ _ b;exact .dp _
 |agg c cs p h1 h2 o=>intro h f b;exact .agg _ _ _ h1 (λi x v d j=>o i x v d j (Kd (by simpa[I.flat]using h) d) f b)
 |bw c cs p h1 h2 o=>intro h f b;exact .bw _ _ _ h1 (λi x v d j=>o i x v d j (Kd (by simpa[I.flat]using h) d) f b)
 |_=>intro h;simp[I.flat]at h
section
variable {P:Program} {GL:aw}
def im(P:Program)(GL:aw)(f:FuncId)(xs:List I)(h0:Hp)(v:I)(rd:List Nat)(up:List (Nat×U)):Prop:=
 ∀(i:World) (L:Ln) (g:Gm) (h:Hp) (w:World) (j:List Value),bu GL i L g h w->eh g xs j->(∀b∈rd,h b=h0 b)->(∀p∈up,h p.1=h0 p.1) ->
  Calls P f j.toArray w λe o=>∃u,e=.returned u/\∃d,g.Le d/\bu GL i L d (cx h up) o/\d.den v u
variable{f:FuncId}
theorem Q2(hp:Qh P f=true)(args:Array Value)(w:World):(callFunc f args).run P w=.ok (.enter f args) w:=by
 unfold Qh at hp;cases hf:P.funcs[f]? with
 |none=>simp[hf]at hp
 |some fn=>
  simp[hf]at hp;obtain⟨b,hb⟩:=An.1 hp.2;simp[callFunc,hf,hp.1,hb]
variable{up:List (Nat×U)}
variable{v:I}
variable{xs ys:List I}
variable{rd:List Nat}
variable{h0 h:Hp}
theorem Qec(hc:im P GL f xs h0 v rd up):aG P GL (.call f) xs h0 v rd up:=by
 intro o os b d L g h w a r i j p;generalize y:o.op=op at b;cases b with
 |call _ args z hp=>
  have s:(execOp a.eval o).run P w=.ok (.enter f (args.map a.eval)) w:=by
   simp_all [execOp,resolve,Act.eval,GA,invoke,Q2]
  rw[s];have:=hc d L g h w _ r i j p
  rwa [<-E3,FR]at this
theorem XdH{first captured:List I}(hp:Qh P f=true)(hc:im P GL f (first++xs++captured) h0 v rd up) :
  aG P GL .gP (.func (.func f) first captured::xs) h0 v rd up:=by
 intro o os s B L g h w a r C D E;generalize G:o.op=op at s;cases s with
 |gP x args H=>
  obtain⟨d,dr⟩:=C;generalize hu:a.eval x=u0 at d;cases d with
  |func _ _ _ _ z ws h1 h2 h3 h4=>
   have F:(execOp a.eval o).run P w=.ok (.enter f (z++args.map a.eval++ws)) w:=by
    simp_all [execOp,resolve,GA,invoke,Q2]
   rw[F];have p:=dr.length;simp at p;have:=hc B L g h w (z ++ args.map a.eval ++ ws).toList r (eh.ma (by simp[h1,h2,p]) (λi y u j b=>by
    simp only[Array.toList_append]at b;by_cases A:i<first.length
    ·rw[Cp,Bi A]at j;rw[Cp,Bi (by simpa[h1]using A)]at b;exact h3 i y u j (by simpa using b)
    ·by_cases K:i<first.length+xs.length
     ·rw[Cp,Bc (by omega),Bi (by omega)]at j;rw[Cp,Bc (by simp;omega),Bi (by simp;omega)]at b;refine dr.get (i-first.length) y u j ?_;simpa[h1]using b
     ·rw[Bc (by simp;omega)]at j;rw[Bc (by simp;omega)]at b;refine h4 (i - (first ++ xs).length) y u j ?_;simpa[h1,p]using b)) D E
   rwa [FR]at this
theorem QbN{P:Program}{name:String}{t:TypeId}(h:PY P name t=some f)(hp:Qh P f=true)(v:Value)(args:Array Value)(w:World) :
  (callMethod (.iface t v) name args).run P w=.ok (.enter f (#[v]++args)) w:=by
 unfold PY at h;split at h
 ·cases h
 ·rename_i i b;split at h
  ·cases h
  ·rename_i m hm;have d:∃k,P.types.size+Mo=k+1:=⟨P.types.size+Mo-1,by rfl⟩;obtain⟨k,j⟩:=d;have abj:m.path.isEmpty=true->m.path.toList=[]:=λh=>by simpa using h
   have key:(method (k+1) t v name).run P w=.ok (f,v) w:=by
    unfold method;simp only[AS,run_typeInfo w b,AE,hm];split at h<;>simp_all [follow,receiverAt,Place.get,run_underlying]
   unfold callMethod;simp only[AS,show (program).run P w=.ok P w from rfl,AE,j,key];rw[Q2 hp]
theorem Xda{name:String}{j:List (TypeId×FuncId)}{i:TypeId}(hl:JE i j=some f)(hc:im P GL f (x::xs) h0 v rd up) :
  aG P GL (.invoke name j) (.iface i x::xs) h0 v rd up:=by
 intro o os p s L g h w a r z A B;generalize C:o.op=op at p;cases p with
 |invoke y _ args H _ D=>
  obtain⟨d,K⟩:=z;generalize hu:a.eval y=u0 at d;cases d with
  |iface _ _ _ b E=>
   obtain⟨k1,k2⟩:=D _ (SL hl);have F:(execOp a.eval o).run P w=.ok (.enter f (#[b]++args.map a.eval)) w:=by
    simp only[execOp,C,resolve,AS,hu,Ak,AE,invoke];have N:(#[FO i b]++args.map a.eval)[0]?=some (FO i b):=by grind
    have Q:(#[FO i b]++args.map a.eval).extract 1 (#[FO i b]++args.map a.eval).size=args.map a.eval:=by
     simp
    grind [QbN]
   rw[F];have:=hc s L g h w (b::(args.map a.eval).toList) r ⟨E,by rwa [E3]⟩ A B;have G:(b::(args.map a.eval).toList).toArray = #[b]++args.map a.eval:=by apply Array.ext';simp
   rw[G]at this;exact this
def dh(P:Program)(GL:aw)(f:FuncId)(xs:List I)(v:I):Prop:=
 ∀(w:World) (M:Nat->Option Obj) (i:List Value),(∀b o,M b=some o->w.heap[b]?=some o)->(∀p∈GL,Den M bE (.al p.2 0) (.pointer (some ⟨p.1,0,none⟩)))->eh ⟨M,bE⟩ xs i ->
  Calls P f i.toArray w λe j=>∃u,e=.returned u/\i6 ⟨[],M⟩ w j/\∃d,iJ M d/\(∀b o,d b=some o->j.heap[b]?=some o)/\(∀b o,d b=some o->M b=some o\/w.heap.size<=b)/\Den d bE v u
def po:Hp:=λ_=>none
theorem bu.start(w:World)(M:Nat->Option Obj)(hM:∀b o,M b=some o->w.heap[b]?=some o)(hg:∀p∈GL,Den M bE (.al p.2 0) (.pointer (some ⟨p.1,0,none⟩))):bu GL w ⟨[],M⟩ ⟨M,bE⟩ po w where
 keeps:=i6.refl _ _
 aZ:=hM
 src:=λ_ _ e=>.inl e
 cr:=hg
 dU:=λ_ _=>rfl
 jb:=λ_ _ e=>by cases e
 own:=λ_ _ _ e=>by cases e
 bd:=λ_ _ _ e=>by cases e
 inj:=λ_ _ _ _ _ _ e=>by cases e
variable{g:Gm}
variable{L:Ln}
variable{w0 w:World}
theorem bu.after{w':World}(r:bu GL w0 L g h w){M':Nat->Option Obj}(k:i6 ⟨[],M⟩ w w')(hle:iJ g.M M')(dW:∀b o,M' b=some o->w'.heap[b]?=some o)(y:∀b o,M' b=some o->g.M b=some o\/w.heap.size<=b) :
  bu GL w0 L ⟨M',g.c⟩ h w' where
 keeps:=r.keeps.trans' k.os k.tape k.output k.size (λb hb _=>k.block b (by have:=r.keeps.size;omega) (by simp))
 aZ:=dW
 src:=λb o e=>by
  rcases y b o e with h1|h1
  ·exact r.src b o h1
  ·exact .inr (.inl (by have:=r.keeps.size;omega))
 cr:=λp z=>(r.cr p z).mono hle (fW.refl _)
 dU:=r.dU
 jb:=r.jb
 own:=λb aD d e i j s=>by
  obtain⟨h1,h2,o,A,B⟩:=r.own b aD d e i j s;have C:=r.dX e i j s;refine⟨?_,h2,o,by rw[k.block _ C (by simp)];exact A,B.mono hle (fW.refl _)⟩;show M' d.aD=none;cases hm:M' d.aD<;>grind
 bd:=r.bd
 inj:=r.inj
theorem SV{c:Own}:∀ {xs:List I} {vs:List Value},fV xs=true->eh ⟨M,c⟩ xs vs->∀b,eh ⟨M,b⟩ xs vs
 |[],[],_,_,_=>trivial
 |x::xs,v::vs,h,⟨d,r⟩,b=>by simp[fV]at h;exact⟨Den.ro d h.1 b,SV h.2 r b⟩
theorem dh.here(hc:dh P GL f xs v)(b:fV xs=true)(h0:Hp):im P GL f xs h0 v [] []:=by
 intro w0 L g h w d r i _ _;refine(hc w g.M d r.aZ r.cr (SV b i bE)).mono ?_;rintro e s ⟨u,he,k,j,hle,o,p,hd⟩;exact⟨u,he,⟨j,g.c⟩,⟨hle,fW.refl _⟩,r.after k hle o p,hd.mono (iJ.refl _) (fW.bE _)⟩
def World.all(w:World):Nat->Option Obj:=λb=>w.heap[b]?
def wB(g:Gm)(h:Hp)(w:World)(M2:Nat->Option Obj):Prop:=
 iJ g.M M2/\∀b aD d o,h b=some aD->aD.live=true->g.c b=some d->d.cI=false->w.heap[d.aD]?=some o->M2 d.aD=some o
def aA(h0:Hp)(rd:List Nat)(x y:I):Prop:=
 ∀(GL:aw) (w0:World) (L:Ln) (g:Gm) (h:Hp) (w:World) (d:Nat->Option Obj),bu GL w0 L g h w->wB g h w d->(∀b∈rd,h b=h0 b)->∀v,g.den x v->Den d bE y v
def bA(h0:Hp)(rd:List Nat)(xs ys:List I):Prop:=
 ∀(GL:aw) (w0:World) (L:Ln) (g:Gm) (h:Hp) (w:World) (d:Nat->Option Obj),bu GL w0 L g h w->wB g h w d->(∀b∈rd,h b=h0 b)->∀i,eh g xs i->eh ⟨d,bE⟩ ys i
theorem bu.uc(r:bu GL w0 L g h w):iJ g.M (World.all w):=λb o e=>r.aZ b o e
theorem bu.uL(r:bu GL w0 L g h w):wB g h w (World.all w):=⟨r.uc,λ_ _ _ _ _ _ _ _ e=>e⟩
theorem dh.rz(hc:dh P GL f ys v)(hb:bA h0 rd xs ys)(hv:v.flat=true):im P GL f xs h0 v rd []:=by
 intro w0 L g h w d r i j _;refine(hc w (World.all w) d (λ_ _ e=>e) (λp s=>(r.cr p s).mono r.uc (fW.refl _)) (hb GL w0 L g h w _ r r.uL j d i)).mono ?_;rintro e y ⟨u,he,k,z,hle,A,B,hd⟩;refine⟨u,he,g,Gm.Le.refl _,?_,Den.flat hd hv _ _⟩;exact r.after k (iJ.refl _) (λb o e=>by rw[k.block b (r.fT e) (by simp)];exact r.aZ b o e) (λb o e=>.inl e)
theorem aA.ro(hx:x.ro=true):aA h0 rd x x:=by
 intro GL w0 L g h w i r b _ v d;exact Den.ro (Den.mono b.1 d (fW.refl _)) hx _
theorem bA.nil:bA h0 rd [] []:=by
 intro GL w0 L g h w i r j _ b d;cases b with
 |nil=>trivial
 |cons v b=>exact d.elim
theorem bA.cons{y:I}(h1:aA h0 rd x y)(h2:bA h0 rd xs ys):bA h0 rd (x::xs) (y::ys):=by
 intro GL w0 L g h w i r j o b d;cases b with
 |nil=>exact d.elim
 |cons v b=>exact⟨h1 GL w0 L g h w i r j o v d.1,h2 GL w0 L g h w i r j o b d.2⟩
theorem bA.get(hb:bA h0 rd xs ys){GL:aw}{M2:Nat->Option Obj}(r:bu GL w0 L g h w)(hM:wB g h w M2)(d:∀b∈rd,h b=h0 b){vs:List Value}(hl:xs.length=vs.length)
 (hd:∀(i:Nat) (x:I) (v:Value),xs[i]?=some x->vs[i]?=some v->g.den x v):ys.length=vs.length/\∀(i:Nat) (y:I) (v:Value),ys[i]?=some y->vs[i]?=some v->Den M2 bE y v:=by
 have:=hb GL w0 L g h w M2 r hM d vs (eh.ma hl hd);exact⟨this.length,λi y v j o=>this.get i y v j o⟩
variable{b:Nat}
theorem aA.box{j:Nat}{row row':List I}(hb:h0 b=some (.box row))(ct:b∈rd)(hr:bA h0 rd row row'):aA h0 rd (.ak b j) (.al row' j):=by
 intro GL w0 L g h w z r A B v d;have s:h b=some (.box row):=by rw[B b ct];exact hb
 cases d with
 |ak _ _ _ o y=>
 cases C:o.cI with
 |true=>have:=r.bd b _ o s rfl y C;cases this
 |false=>
 obtain⟨_,_,Q,E,arr,T,rfl,hs,F⟩:=r.own b _ o s rfl y C;obtain⟨D,hd⟩:=hr.get r A B (vs:=arr.toList) (by simp[hs]) (λi x v G H=>F i x v G (by simpa using H));have K:Den z bE (.al row' j) (.pointer (some ⟨o.aD,0+j,none⟩)):=by
  refine .al _ _ _ _ _ (λk=>(arr[k]?).getD undef) (λk p=>?_) (λk x e=>?_)
  ·have N:k<arr.size:=by simpa[D]using p
   have hw:z o.aD=some (.cells arr T (0,0)):=A.2 b _ o _ s rfl y (by assumption) E;simp[iS,hw,N]
  ·have p:k<arr.size:=by have:=(eS e).1;simpa[D]using this
   simp only[D2 p,Cw];exact hd k x _ e (by simp[p])
 rwa [Al]at K
theorem aA.iface{t:TypeId}{y:I}(h1:aA h0 rd x y):aA h0 rd (.iface t x) (.iface t y):=by
 intro GL w0 L g h w i r j o v d;cases d with
 |iface _ _ _ p s=>exact .iface _ _ _ _ (h1 GL w0 L g h w i r j o p s)
theorem aA.agg(h1:bA h0 rd xs ys):aA h0 rd (.agg xs) (.agg ys):=by
 intro GL w0 L g h w B r s y v d;cases d with
 |agg _ _ p hs hd=>
  obtain⟨z,A⟩:=h1.get r s y (vs:=p.toList) (by simp[hs]) (λi x v j o=>hd i x v j (by simpa using o));exact .agg _ _ _ (by simpa using z.symm) (λi x v j o=>A i x v j (by simpa using o))
theorem aA.func{s:Fn}{y ys':List I}(h1:bA h0 rd xs y)(h2:bA h0 rd ys ys'):aA h0 rd (.func s xs ys) (.func s y ys'):=by
 intro GL w0 L g h w N r z A v d;cases d with
 |func _ _ _ _ p ws B C D E=>
  obtain⟨F,G⟩:=h1.get r z A (vs:=p.toList) (by simp[B]) (λi x v j o=>D i x v j (by simpa using o));obtain⟨H,K⟩:=h2.get r z A (vs:=ws.toList) (by simp[C]) (λi x v j o=>E i x v j (by simpa using o));exact .func _ _ _ _ _ _ (by simpa using F.symm) (by simpa using H.symm) (λi x v j o=>G i x v j (by simpa using o)) (λi x v j o=>K i x v j (by simpa using o))
theorem aA.map{s:List (I×I)}(hb:h0 b=some (.map s))(ct:b∈rd)(km:∀p∈s,p.1.ro=true/\p.2.ro=true):aA h0 rd (.map b) (.fI s):=by
 intro GL w0 L g h w E r y F v d;have z:h b=some (.map s):=by rw[F b ct];exact hb
 cases d with
 |map _ _ j A=>
 cases B:j.cI with
 |true=>have:=r.bd b _ j z rfl A B;cases this
 |false=>
 obtain⟨_,_,K,G,arr,clock,rfl,hs,D⟩:=r.own b _ j z rfl A B;have H:E j.aD=some (.map arr clock):=y.2 b _ j _ z rfl A B G;exact .fI _ _ _ arr clock H hs (λi k x e o C=>Den.ro ((D i k x e o C).1.mono y.1 (fW.refl _)) (km _ (Au o)).1 _)
  (λi k x e o C=>Den.ro ((D i k x e o C).2.mono y.1 (fW.refl _)) (km _ (Au o)).2 _)
theorem aA.sl{off len sz:Nat}{ex:Bool}{rs rs':List (List I)}(hb:h0 b=some (.rows sz rs))(ct:b∈rd)(hle:off+len<=rs.length)(hl:rs'.length=len)
 (hr:∀(i:Nat) (row row':List I),rs[off+i]?=some row->rs'[i]?=some row'->bA h0 rd row row'):aA h0 rd (.sl b off len ex) (.aX ex false sz rs'):=by
 intro GL w0 L g h w H r Q R v d;have S:h b=some (.rows sz rs):=by rw[R b ct];exact hb
 cases d with
 |n9 _ _ _ o p F K=>
  have:rs'=[]:=Ck.1 hl;subst this;exact .aX _ _ _ _ [] _ _ 0 0 (λ_ _=>undef) (by simp) (by simp) (by simp) (by simp) (by simp) (by simp) (by simp) (by simp)
 |sle _ _ _ _ o p F K=>
  have:rs'=[]:=Ck.1 hl;subst this;exact .aX _ _ _ _ [] _ _ 0 0 (λ_ _=>undef) (by simp) (by simp) (by simp) (by simp) (by simp) (by simp) (by simp) (by simp)
 |sl _ _ _ _ _ o cap F K h1 h2 h3=>
  obtain⟨V,arr,T,Y,hs,lV,dR,cY⟩:=r.ff S F K;have hw:H o.aD=some (.cells arr T (0,0)):=Q.2 b _ o _ S rfl F (by assumption) Y;have ai:∀i,i<len->∃row,rs[off+i]?=some row:=λi s=>⟨rs[off+i]'(by omega),by simp[show off+i<rs.length by omega]⟩;have z:∀i j,i<len->j<sz->o.base+(off+i)*sz+j<arr.size:=by
   intro i j s A;have:(off+i+1)*sz<=rs.length*sz:=Av sz (by omega);rw[EN]at this;omega
  have key:∀i row row',rs[off+i]?=some row->rs'[i]?=some row'->row'.length=sz/\∀(j:Nat) (y:I),row'[j]?=some y->Den H bE y ((arr[o.base+(off+i)*sz+j]?).getD undef):=by
   intro i row row' B G;have s:i<len:=by rw[<-hl];exact(eS G).1
   have X:=dR _ _ B;obtain⟨k1,k2⟩:=(hr i row row' B G).get r Q R (vs:=(arr.extract (o.base + (off + i) * sz) (o.base + (off + i) * sz + sz)).toList) (by
     have:=z i 0 s;simp[X];by_cases h0:sz=0
     ·subst h0;simp
     ·have:=z i (sz-1) s (by omega);omega) (λj x v C D=>by
    have A:j<sz:=by rw[<-X];exact(eS C).1
    have E:=z i j s A;rw[EI]at D;obtain⟨_,D⟩:=E1.1 D;rw[FM]at D;exact cY _ row j x v B C (by rw[D2 E,D]))
   have hlen:(arr.extract (o.base+(off+i)*sz) (o.base+(off+i)*sz+sz)).toList.length=sz:=by
    simp;by_cases h0:sz=0
    ·subst h0;simp
    ·have:=z i (sz-1) s (by omega);omega
   refine⟨by rw[k1,hlen],λj y C=>?_⟩;have A:j<sz:=by rw[<-hlen,<-k1];exact(eS C).1
   have E:=z i j s A;simp only[D2 E,Cw];refine k2 j y _ C ?_;rw[EI,D2 (by simp;omega),FM]
  have N:Den H bE (.aX ex false sz rs') (.slice (some ⟨o.aD,o.base+off*sz,none⟩) rs'.length cap):=by
   refine .aX _ ex false sz rs' _ cap o.aD (o.base+off*sz) (λi j=>(arr[o.base+(off+i)*sz+j]?).getD undef) (λe=>by rw[hl];exact h3 e) (by simp) (λ_=>rfl) (λe=>by cases e) (by rw[hl];exact h1) (λi row' q=>?_) (λi j s A=>?_) (λi row' j y B G=>?_)
   ·obtain⟨row,hrw⟩:=ai i (by rw[<-hl];exact(eS q).1);exact(key i row row' hrw q).1
   ·rw[hl]at s;have E:=z i j s A;rw[show o.base+off*sz+(i*sz+j)=o.base+(off+i)*sz+j by rw[EW];omega];simp[iS,hw,E]
   ·obtain⟨row,hrw⟩:=ai i (by rw[<-hl];exact(eS B).1);exact(key i row row' hrw B).2 j y G
  rw[hl,<-V]at N;rw[V]at N ⊢;exact N
end
end Go.Ah
end
section
namespace Go.Ah
structure aV where
 dst:Option Nat
 k:MK
 xs:List td
 guard:Option (Nat×Bool)
 deriving Inhabited
def mu{b β:Type}(R:b->β->Prop):List b->List β->Prop
 |[],[]=>True
 |x::xs,y::d=>R x y/\mu R xs d
 |_,_=>False
structure fZ (P:Program) (GL:aw) (n:Nat) (ops:Array Oper) (o:Oper) (m:aV):Prop where
 dst:o.dst=m.dst
 lt:∀d,m.dst=some d->d<n
 op:∃os,cz P GL o.op m.k os/\mu (lz GL) os m.xs
 guard:match o.guard,m.guard with
  |none,none=>True
  |some (j,w),some (s,w')=>w=w'/\(ops[j]?).bind (·.dst)=some s
  |_,_=>False
def et(cs:List (Bool×Bool)):Prop:=∀p∈cs,p.1=p.2
inductive dG (ρ:Frame):Option (Nat×Bool)->List (Bool×Bool)->Prop
 |none:dG ρ none []
 |bool (s:Nat) (w c:Bool):bM ρ s=.bool c->dG ρ (some (s,w)) [(c,w)]
 |when (s:Nat) (w c:Bool) (cs:List (Bool×Bool)):bM ρ s=.when cs (.bool c)->dG ρ (some (s,w)) (cs++[(c,w)])
def zD(H:Prop)(x y:I):Prop:=x=y\/∃cs,x=.when cs y/\(H->et cs)
def vr(d:Nat):Frame->Frame
 |[]=>[]
 |(k,u)::r=>match AJ k d with
  |true=>r
  |false=>(k,u)::vr d r
theorem Qcc{d t:Nat}(h:t≠d):∀(ρ:Frame),bM (vr d ρ) t=bM ρ t
 |[]=>rfl
 |(k,u)::r=>by
  simp only[vr];split<;>simp_all [ZV,Qcc]
def cB(d:Option Nat)(v:I)(ρ:Frame):Frame:=
 match d with
 |some d=>(d,v)::vr d ρ
 |none=>ρ
theorem Q9(d:Option Nat)(v:I)(ρ:Frame)(t:Nat):bM (cB d v ρ) t=if d=some t then v else bM ρ t:=by
 cases d with
 |none=>simp[cB]
 |some d=>
  simp only[cB,ZV];by_cases h:t=d
  ·subst h;simp
  ·rw[aB h,aB (λe=>h (GC e).symm),Qcc h]
def h_:List U->List (Nat×U)->Option (List U)
 |J,[]=>some J
 | J,(b,x) :: r=>bif AJ b J.length then h_ (J ++ [x]) r else (match QF b x J with
  |some σ'=>h_ σ' r
  | none=>none)
abbrev Log:=List (List Nat×List Nat)
def tD(P:Program)(GL:aw)(w0:World)(L:Ln)(g:Gm)(R:KT):Result Next->Prop
 |.ok (.value u) d=>∃b x σ',R x σ'/\g.Le b/\bu GL w0 L b (hp σ') d/\b.den x u
 |.ok .skip d=>∃b σ',R .aP σ'/\g.Le b/\bu GL w0 L b (hp σ') d
 |.ok (.enter f args) d=>Calls P f args d λe i=>∃u,e=.returned u/\∃b x σ',R x σ'/\g.Le b/\bu GL w0 L b (hp σ') i/\b.den x u
 |_=>False
def ou(P:Program)(GL:aw)(k:MK)(xs:List I)(J:List U)(R:KT):Prop:=
 ∀(o:Oper) (os:List Operand),cz P GL o.op k os->∀(b:World) (L:Ln) (g:Gm) (w:World) (a:Act),bu GL b L g (hp J) w->eh g xs (os.map a.eval)->tD P GL b L g R ((execOp a.eval o).run P w)
inductive eu (fl:Bool) (P:Program) (GL:aw) (o:aV) (ρ:Frame) (J:List U) (lg:Log) (K:Frame->List U->Log->Prop):Prop
 |run (cs:List (Bool×Bool)) (ys:List I) (v:I) (rd:List Nat) (up:List (Nat×U)) (σ':List U):dG ρ o.guard cs->et cs->mu (zD True) (o.xs.map (ev ρ)) ys->aG P GL o.k ys (hp J) v rd up ->
   h_ J up=some σ'->K (cB o.dst v ρ) σ' (lg++[(rd,up.map (·.1))])->eu fl P GL o ρ J lg K
 |skip (cs:List (Bool×Bool)):dG ρ o.guard cs->¬et cs->K (cB o.dst .aP ρ) J (lg++[([],[])])->eu fl P GL o ρ J lg K
 |lazy (cs:List (Bool×Bool)) (ys:List I) (v:I) (rd:List Nat):dG ρ o.guard cs->mu (zD (et cs)) (o.xs.map (ev ρ)) ys->(et cs->aG P GL o.k ys (hp J) v rd []) ->
   K (cB o.dst (.when cs v) ρ) J (lg++[(rd,[])])->eu fl P GL o ρ J lg K
 |pick (cs:List (Bool×Bool)) (x y z:I) (c p q:Bool) (v:I):dG ρ o.guard cs->o.k=.pick->o.xs.map (ev ρ)=[x,y,z]->zD (et cs) x (.bool c)->zD (et cs/\c=true) y (.bool p)->zD (et cs/\c=false) z (.bool q) ->
   (v=.when cs (.bool (bif c then p else q))\/(cs=[]/\v=.bool (bif c then p else q)))->K (cB o.dst v ρ) J (lg++[([],[])])->eu fl P GL o ρ J lg K
 |rel (cs:List (Bool×Bool)) (ys:List I) (R:KT):fl=false->dG ρ o.guard cs->et cs->mu (zD True) (o.xs.map (ev ρ)) ys->ou P GL o.k ys J R ->
   (∀v σ',R v σ'->K (cB o.dst v ρ) σ' (lg++[([],[])]))->eu fl P GL o ρ J lg K
def iW(fl:Bool)(P:Program)(GL:aw):List aV->Frame->List U->Log->(Frame->List U->Log->Prop)->Prop
 |[],b,J,d,Q=>Q b J d
 |o::r,b,J,d,Q=>eu fl P GL o b J d λρ' σ' f=>iW fl P GL r ρ' σ' f Q
variable{ρ:Frame}
theorem eu.mono{fl:Bool}{P:Program}{GL:aw}{o:aV}{J:List U}{lg:Log}{K K':Frame->List U->Log->Prop}(h:∀ρ J lg,K ρ J lg->K' ρ J lg)(s:eu fl P GL o ρ J lg K):eu fl P GL o ρ J lg K':=by
 cases s with
 |run cs b v rd up σ' h1 h2 h3 h4 h5 h6=>exact .run cs b v rd up σ' h1 h2 h3 h4 h5 (h _ _ _ h6)
 |skip cs h1 h2 h3=>exact .skip cs h1 h2 (h _ _ _ h3)
 |lazy cs b v rd h1 h2 h3 h4=>exact .lazy cs b v rd h1 h2 h3 (h _ _ _ h4)
 |pick cs x y z c p q v h1 h2 h3 h4 h5 h6 h7 h8=>exact .pick cs x y z c p q v h1 h2 h3 h4 h5 h6 h7 (h _ _ _ h8)
 |rel cs b R h0 h1 h2 h3 h4 h5=>exact .rel cs b R h0 h1 h2 h3 h4 (λv σ' hr=>h _ _ _ (h5 v σ' hr))
theorem Ij:∀(up:List (Nat×U)) (J σ':List U),h_ J up=some σ'->cx (hp J) up=hp σ'
 |[],J,σ',h=>by simp only[h_]at h;cases h;rfl
 |(b,x)::r,J,σ',h=>by
  simp only[h_]at h;cases hb:AJ b J.length with
  |true=>
   simp only[hb,cond_true]at h;have:=Ij r _ _ h;rw[<-this];show cx (dQ (hp J) b x) r=_
   congr 1
   grind [dQ,hp,fK]
  |false=>
   simp only[hb,cond_false]at h;cases hs:QF b x J with
   |none=>simp[hs]at h
   |some σ1=>
    simp only[hs]at h;have:=Ij r _ _ h;rw[<-this];show cx (dQ (hp J) b x) r=_
    congr 1
    funext n
    obtain⟨s1,f,d⟩:=QcD hs;unfold dQ hp;rw[d n]
section
variable {P:Program} {GL:aw}
def zp(GL:aw)(w0:World)(L:Ln)(n:Nat)(g:Gm)(K:Frame->List U->Log->Prop)(a:Act)(w:World):Prop:=
 ∃b ρ J d,g.Le b/\bu GL w0 L b (hp J) w/\dc n b ρ a/\K ρ J d
variable{x:I}
variable{g:Gm}
theorem Df{H:Prop}(b:H){y:I}(h:zD H x y){v:Value}(d:g.den x v):g.den y v:=by
 rcases h with rfl|⟨f,rfl,h2⟩
 ·exact d
 ·cases d with
  |when _ _ _ _ h3 _=>exact h3 (h2 b)
theorem Iq{H:Prop}(b:H):∀ {xs ys:List I} {vs:List Value},mu (zD H) xs ys->eh g xs vs->eh g ys vs
 |[],[],[],_,_=>trivial
 |[],[],_::_,_,d=>d.elim
 |_::_,_::_,[],_,d=>d.elim
 |_::_,_::_,_::_,⟨h1,h2⟩,⟨d1,d2⟩=>⟨Df b h1 d1,Iq b h2 d2⟩
variable{n:Nat}
variable{L:Ln}
variable{w0:World}
variable{a:Act}
theorem Jg{h:Hp}{w:World}(r:bu GL w0 L g h w)(d:dc n g ρ a):∀ {os:List Operand} {xs:List td},mu (lz GL) os xs->eh g (xs.map (ev ρ)) (os.map a.eval)
 |[],[],_=>trivial
 |_::_,_::_,⟨h1,h2⟩=>⟨dc.opd r d h1,Jg r d h2⟩
theorem dc.cB(h:dc n g ρ a){d:Option Nat}(hd:∀t,d=some t->t<n){v:Value}(hx:g.den x v):dc n g (cB d x ρ) (a.put d v):=by
 cases d with
 |none=>exact h
 |some t=>
  have:=h.put (hd t rfl) hx;refine⟨this.size,λs=>?_,this.defers⟩;have hs:=this.slot s;rw[ZV]at hs;rw[Q9]
  grind
variable{o:Oper}
theorem Out.upon{d:Hp}{res:Result Next}(ho:Out P GL w0 L g d x res){next:Act->World->Prop}{Q:Exit->Act->World->Prop}
 (hk:∀b u i,g.Le b->bu GL w0 L b d i->b.den x u->next (a.put o.dst u) i):o.upon P a next Q res:=by
 cases res with
 |halt x w=>exact ho.elim
 |ok j w=>
  cases j with
  |value u=>obtain⟨b,h1,h2,h3⟩:=ho;exact hk b u w h1 h2 h3
  |skip=>obtain⟨b,h1,h2,h3⟩:=ho;subst h3;exact hk b undef w h1 h2 (.aP _ _)
  |enter f args=>
   refine Gz ho ?_
   grind
  |_=>exact ho.elim
theorem Zu{ops:Array Oper}{m:aV}(ok:fZ P GL n ops o m)(d:dc n g ρ a){cs:List (Bool×Bool)}(hg:dG ρ m.guard cs) :
  (et cs->GB o (yielded ops a.tmps)=true)/\(¬et cs->GB o (yielded ops a.tmps)=false):=by
 have i:=ok.guard;unfold GB;cases h1:m.guard with
 |none=>
  rw[h1]at hg i;cases hg;cases h2:o.guard<;>simp_all [et]
 |some B=>
  obtain⟨s,w⟩:=B;rw[h1]at hg i;cases h2:o.guard with
  |none=>simp[h2]at i
  |some C=>
   obtain⟨j,D⟩:=C;simp only[h2]at i;obtain⟨rfl,hs⟩:=i;have r:=d.slot s;have y:∀v,a.tmps.getD s undef=v->yielded ops a.tmps j=match v with | .bool b=>some b|_=>none:=by
    intro v f;unfold yielded;rw[hs];simp only[Option.bind_some];by_cases E:s<a.tmps.size
    ·rw[D2 E];have:a.tmps[s]=v:=by simp_all
     rw[this];cases v<;>rfl
    grind [undef]
   show (et cs->(yielded ops a.tmps j==some _)=true)/\(¬et cs->(yielded ops a.tmps j==some _)=false);cases hg with
   |bool _ _ c z=>
    rw[z]at r;have f:=QD r;simp_all [et]
   |when _ _ c cs z=>
    rw[z]at r;cases r with
    |when _ _ _ _ h3 h4=>
    constructor
    ·intro h;have f:=QD (h3 (λp hp=>h p (by simp[hp])));rw[y _ f];have:=h (c,D) (by simp);simp at this;simp[this]
    ·intro h;by_cases A:et cs
     ·have f:=QD (h3 A);rw[y _ f];simp;intro e;exact h (λp hp=>by
       rcases List.mem_append.1 hp with h1|h1
       ·exact A p h1
       ·simp at h1;subst h1;exact e)
     ·have f:=h4 A;rw[y _ f];simp[undef]
theorem tD.upon{R:KT}{res:Result Next}(ho:tD P GL w0 L g R res){next:Act->World->Prop}{Q:Exit->Act->World->Prop}
 (hk:∀b x σ' u d,R x σ'->g.Le b->bu GL w0 L b (hp σ') d->b.den x u->next (a.put o.dst u) d):o.upon P a next Q res:=by
 cases res with
 |halt x w=>exact ho.elim
 |ok i w=>
  cases i with
  |value u=>obtain⟨b,x,σ',h0,h1,h2,h3⟩:=ho;exact hk b x σ' u w h0 h1 h2 h3
  |skip=>obtain⟨b,σ',h0,h1,h2⟩:=ho;exact hk b .aP σ' undef w h0 h1 h2 (.aP _ _)
  |enter f args=>
   refine Gz ho ?_
   grind
  |_=>exact ho.elim
theorem ZbT{fl:Bool}{ops:Array Oper}{m:aV}(ok:fZ P GL n ops o m){J:List U}{lg:Log}{K:Frame->List U->Log->Prop}(s:eu fl P GL m ρ J lg K){w:World}(r:bu GL w0 L g (hp J) w)(d:dc n g ρ a)
 (next:Act->World->Prop)(Q:Exit->Act->World->Prop)(hn:∀F f,zp GL w0 L n g K F f->next F f) :
  if GB o (yielded ops a.tmps)then o.wp P a w next Q\/(o.asks P a w/\LetsOut Q)else next (a.put o.dst undef) w:=by
 obtain⟨os,C,V⟩:=ok.op;have i:=Jg r d V;cases s with
 |run cs G v rd up σ' h1 h2 h3 h4 h5 h6=>
  rw[aE ((Zu ok d h1).1 h2)];left;have j:=Iq trivial h3 i;have D:=h4 o os C w0 L g (hp J) w a r j (λ_ _=>rfl) (λ_ _=>rfl);rw[Ij up J σ' h5]at D;refine D.upon (λA u f hle hr B=>hn _ _ ⟨A,_,σ',_,hle,hr,?_,h6⟩);rw[ok.dst];exact(d.mono hle).cB ok.lt B
 |skip cs h1 h2 h3=>
  rw[aB (by rw[(Zu ok d h1).2 h2];simp)];refine hn _ _ ⟨g,_,J,_,Gm.Le.refl g,r,?_,h3⟩;rw[ok.dst];exact d.cB ok.lt (.aP _ _)
 |lazy cs G v rd h1 h2 h3 h4=>
  by_cases b:et cs
  ·rw[aE ((Zu ok d h1).1 b)];left;have j:=Iq b h2 i;have D:=h3 b o os C w0 L g (hp J) w a r j (λ_ _=>rfl) (λ_ h=>by cases h);refine D.upon (λA u f hle hr B=>hn _ _ ⟨A,_,J,_,hle,hr,?_,h4⟩);rw[ok.dst];exact(d.mono hle).cB ok.lt (.when _ _ _ _ (λ_=>B) (λh=>(h b).elim))
  ·rw[aB (by rw[(Zu ok d h1).2 b];simp)];refine hn _ _ ⟨g,_,J,_,Gm.Le.refl g,r,?_,h4⟩;rw[ok.dst];exact d.cB ok.lt (.when _ _ _ _ (λh=>(b h).elim) (λ_=>rfl))
 |pick cs x y z c p q v h1 X Y hx hy hz H h8=>
  rw[Y]at i;have E:=C;rw[X]at E;generalize mn:o.op=op at E;cases E with
  |pick oc N S=>
   obtain⟨d1,d2,d3,_⟩:=i;by_cases b:et cs
   ·rw[aE ((Zu ok d h1).1 b)];left;have e1:=QD (Df b hx d1);have T:g.den (.bool (bif c then p else q)) (if c then a.eval N else a.eval S):=by
     cases c
     ·exact Df ⟨b,rfl⟩ hz d3
     ·exact Df ⟨b,rfl⟩ hy d2
    have bJ:(execOp a.eval o).run P w=.ok (.value (if c then a.eval N else a.eval S)) w:=by
     simp_all [execOp,asBool]
    unfold Oper.wp;rw[bJ];refine hn _ _ ⟨g,_,J,_,Gm.Le.refl g,r,?_,h8⟩;rw[ok.dst];rcases H with rfl|⟨rfl,rfl⟩
    ·exact d.cB ok.lt (.when _ _ _ _ (λ_=>T) (λh=>(h b).elim))
    ·exact d.cB ok.lt T
   ·rw[aB (by rw[(Zu ok d h1).2 b];simp)];refine hn _ _ ⟨g,_,J,_,Gm.Le.refl g,r,?_,h8⟩;rw[ok.dst];rcases H with rfl|⟨rfl,rfl⟩
    ·exact d.cB ok.lt (.when _ _ _ _ (λh=>(b h).elim) (λ_=>rfl))
    ·exact(b (by simp[et])).elim
 |rel cs G R h0 h1 h2 h3 h4 h5=>
  rw[aE ((Zu ok d h1).1 h2)];left;have j:=Iq trivial h3 i;refine(h4 o os C w0 L g w a r j).upon (λA x σ' u f hR hle hr B=>hn _ _ ⟨A,_,σ',_,hle,hr,?_,h5 x σ' hR⟩);rw[ok.dst];exact(d.mono hle).cB ok.lt B
theorem OA{fl:Bool}{n:Nat}{ops:Array Oper}{w0:World}{L:Ln}(Q:Exit->Act->World->Prop)(K:Frame->List U->Log->Prop):∀(ms:List aV) (i:Nat) (ρ:Frame) (J:List U) (lg:Log) (g:Gm) (a:Act) (w:World),
  (∀(j:Nat) (m:aV),ms[j]?=some m->∃o,ops[i+j]?=some o/\fZ P GL n ops o m)->iW fl P GL ms ρ J lg K->bu GL w0 L g (hp J) w->dc n g ρ a ->
  (∀b f,zp GL w0 L n g K b f->Q .normal b f)->wpOps P ops Q (ED i ms.length) a w
 |[],i,ρ,J,lg,g,a,w,_,hw,r,d,hq=>hq a w ⟨g,ρ,J,lg,Gm.Le.refl g,r,d,hw⟩
 |m::ms,i,ρ,J,lg,g,a,w,p,hw,r,d,hq=>by
  obtain⟨o,s,ok⟩:=p 0 m rfl;rw[FF]at s;simp only[A1,Gk,wpOps,s];refine ZbT ok hw r d _ Q (λb f ⟨y,ρ',σ',z,hle,hr,hd,A⟩=>?_);exact OA Q K ms (i + 1) ρ' σ' z y b f (λj B e=>by
   have:=p (j+1) B (by simpa using e)
   rwa [show i + (j + 1)=i + 1 + j by omega]at this) A hr hd (λC D ⟨E,ρ2,σ2,lg2,F,G,H,N⟩=>hq C D ⟨E,ρ2,σ2,lg2,hle.trans F,G,H,N⟩)
end
end Go.Ah
end
section
namespace Go.Ah
section
variable {P:Program} {GL:aw}
variable{J:List U}
theorem ZS{b:Nat}{row:List I}(h:ai J b=.box row):hp J b=some (.box row):=wQ h (by simp)
theorem JS{b:Nat}{d:List (I×I)}(h:ai J b=.map d):hp J b=some (.map d):=wQ h (by simp)
theorem Xi{b:Bool}{x:aL}{v:I}{rd:List Nat}{up:List (Nat×U)}(h:(bif b then x else .stop)=.ok v rd up):b=true/\x=.ok v rd up:=by
 grind
theorem SJ{k:MK}{xs:List I}{v:I}{rd:List Nat}{up:List (Nat×U)}(h:sT k xs J=.ok v rd up):aG P GL k xs (hp J) v rd up:=by
 cases k<;>simp only[sT,mi,US,Zt,wS,XJ,Yq,YQ,SG,Ul,Yi,Qn,SO,HJ,qH,Il,XF,ZN,XQ,Qc,Oy,Qo,Ra,Zk,Yn,ZW,Pv,JB,Jh,H9,UX,ZQ,TY]at h
 case mv=>split at h<;>cases h;exact Tl _ _
 case pick=>split at h<;>cases h;exact Yee _ _ _ _
 case alloc z=>split at h<;>cases h;exact ZdH _ _ _ (yT J)
 case box=>
  split at h
  ·split at h
   ·rename_i j;cases h;exact XeE _ _ j _ _ (yT J)
   ·cases h
  ·cases h
 case build z r=>
  split at h
  ·rename_i hf;cases h;exact YdH _ _ _ _ hf _
  ·cases h
 case mZ sz n z r=>
  split at h
  ·rename_i hf;split at h
   ·rename_i j;cases h;exact Zda _ _ _ _ _ _ _ hf j _ _ (yT J)
   ·cases h
  ·cases h
 case mC sz=>split at h<;>cases h;exact QcC _ _
 case load agg n=>
  split at h
  ·split at h
   ·rename_i hb;split at h
    ·rename_i d;cases h;exact Zcn _ _ _ _ _ _ _ (ZS hb) d
    ·cases h
   ·cases h
  ·split at h
   ·rename_i d;cases h;exact Ycn _ _ _ _ _ _ d
   ·cases h
  ·cases h
 case store n=>
  split at h
  ·split at h
   ·rename_i hb;split at h
    ·rename_i j
     replace h:=Xi h;obtain⟨hbq,h⟩:=h
     split at h
     ·rename_i hs;cases h;exact YdJ _ _ _ _ _ _ _ _ (ZS hb) j (fK hbq) hs
     ·cases h
    ·cases h
   ·cases h
  ·cases h
 case nilCheck=>
  split at h<;>cases h
  ·exact Z3 _ (.inl ⟨_,_,rfl⟩) _
  ·exact Z3 _ (.inr (.inl ⟨_,_,_,rfl⟩)) _
  ·exact Z3 _ (.inr (.inr (.inl ⟨_,_,rfl⟩))) _
  ·exact Z3 _ (.inr (.inr (.inr (.inl ⟨_,_,_,rfl⟩)))) _
  ·exact Z3 _ (.inr (.inr (.inr (.inr ⟨_,_,rfl⟩)))) _
 case bin op A=>
  split at h
  ·rename_i k a s b;split at h
   ·rename_i d;cases h;cases f:j4 k s<;>rw[f]at d
    ·cases d
    ·have:=zL f;subst this;exact Yec _ _ _ _ _ _ d _
   ·split at h
    ·rename_i d;cases h;exact Xec _ _ _ _ _ _ _ d _
    ·cases h
  ·split at h
   ·cases h;exact ZcW _ _ _ _ false rfl _
   ·cases h;exact ZcW _ _ _ _ true rfl _
   ·replace h:=Xi h;obtain⟨f,h⟩:=h
    cases h;exact Zec _ _ _ f _
   ·cases h
  ·replace h:=Xi h;obtain⟨f,h⟩:=h
   subst f;split at h<;>cases h
   ·exact QcV _ _ _ false rfl _
   ·exact QcV _ _ _ true rfl _
  ·cases h
 case oQ c neq left=>
  split at h
  ·split at h
   ·rename_i hb;cases h;exact ZdI _ _ _ _ _ _ hb _
   ·cases h
  ·cases h
 case Cf neq ls=>
  split at h
  ·split at h
   ·rename_i hb;cases h;exact QeE _ _ _ _ _ hb _
   ·cases h
  ·cases h
 case un op=>
  split at h
  ·split at h<;>cases h;exact Xdc _ _
  ·split at h<;>cases h
   ·exact Ydc _ _ _
   ·exact Qdc _ _ _
  ·cases h
 case conv k=>split at h<;>cases h;exact Zed _ _ _ _
 case jg t=>split at h<;>cases h;exact XcD _ _ _
 case kv fn n=>
  split at h
  ·rename_i w;cases h;obtain⟨t1,B,t3⟩:=UQ w;rename_i a;have x:xs=a++jc n xs:=by
    rw[OI];have:a=xs.take n:=by
     apply List.ext_getElem?;intro i;by_cases p:i<n
     ·rw[t3 i p,G9 p]
     ·rw[Fy (by omega),Fy (by simp;omega)]
    rw[this,List.take_append_drop]
   have:=Xdb (P:=P) (GL:=GL) fn n a (jc n xs) t1 (hp J)
   rwa [<-x]at this
  ·cases h
 case makeMap=>split at h<;>cases h;exact YcD _ _ (yT J)
 case fieldAddr off=>
  split at h<;>cases h
  ·exact UY _ _ _ (.inl ⟨_,_,rfl,rfl⟩) _
  ·exact UY _ _ _ (.inr (.inl ⟨_,_,_,rfl,rfl⟩)) _
  ·exact UY _ _ _ (.inr (.inr ⟨_,_,rfl,rfl⟩)) _
 case field agg off n=>
  split at h
  ·split at h
   ·rename_i d;cases h;exact YdI _ _ _ _ _ d _
   ·cases h
  ·cases h
 case gY len y=>
  split at h
  ·replace h:=Xi h;obtain⟨hb,h⟩:=h
   cases h;exact UR _ _ _ _ _ _ (iq hb) (.inl ⟨_,_,rfl,rfl⟩) _
  ·replace h:=Xi h;obtain⟨hb,h⟩:=h
   cases h;exact UR _ _ _ _ _ _ (iq hb) (.inr (.inl ⟨_,_,_,rfl,rfl⟩)) _
  ·replace h:=Xi h;obtain⟨hb,h⟩:=h
   cases h;exact UR _ _ _ _ _ _ (iq hb) (.inr (.inr ⟨_,_,rfl,rfl⟩)) _
  ·cases h
 case sO agg len y=>
  split at h
  ·replace h:=Xi h;obtain⟨hb,h⟩:=h
   split at h
   ·rename_i d;cases h;exact Yed _ _ _ _ _ _ _ (iq hb) d _
   ·cases h
  ·cases h
 case extract i=>
  split at h
  ·split at h
   ·rename_i d;cases h;rw[Q4]at d;exact ZcD _ _ _ d _
   ·cases h
  ·cases h
 case sR=>
  split at h<;>cases h
  ·exact Rv _ _ (.inl ⟨rfl,rfl⟩) _
  ·exact Rv _ _ (.inr (.inl ⟨rfl,rfl⟩)) _
  ·exact Rv _ _ (.inr (.inr (.inl ⟨_,_,_,_,rfl,rfl⟩))) _
  ·exact Rv _ _ (.inr (.inr (.inr ⟨_,_,_,_,rfl,rfl⟩))) _
 case kr=>split at h<;>cases h;exact Qda _ _
 case sQ n=>split at h<;>cases h;exact Xed _ _ _
 case nj=>
  split at h
  ·cases h;exact Ycm _
  ·split at h
   ·rename_i hb;cases h;exact Xcm _ _ _ (JS hb)
   ·cases h
  ·cases h;exact Qcm _ _
  ·cases h
 case min2=>split at h<;>cases h;exact Zee _ _ _ _ _
 case max2=>split at h<;>cases h;exact Qed _ _ _ _ _
 case range=>split at h<;>cases h;exact ZdJ _ _ _ (yT J)
 case fL t ok z=>
  split at h
  ·rename_i u C;cases hb:AJ u t with
   |true=>
    rw[hb]at h;have:=fK hb;subst this;cases h;exact(UU _ _ _ _ 0 _).1
   |false=>
    rw[hb]at h
    replace h:=Xi h;obtain⟨o,h⟩:=h
    subst o;cases h;exact(UU _ true _ _ _ _).2.1 (λe=>by rw[e,EK]at hb;cases hb)
  ·replace h:=Xi h;obtain⟨o,h⟩:=h
   subst o;cases h;exact(UU _ true _ .aP 0 _).2.2
  ·cases h
 case gL D=>
  split at h
  ·replace h:=Xi h;obtain⟨o,h⟩:=h
   cases h;exact XcC _ _ _ _ (ZdA o)
  ·cases h;exact Zcm _ _
  ·cases h
 all_goals cases h
end
def wO{b β:Type}:List b->(List b->β)->β
 |[],k=>k []
 |x::l,k=>wO l λl=>k (x::l)
theorem Jv{b β:Type}:∀(l:List b) (k:List b->β),wO l k=k l
 |[],_=>rfl
 |x::l,k=>Jv l λl=>k (x::l)
abbrev Cons:=List (List (Bool×Bool)×(Bool×Bool))
def Bj(c:Cons):Prop:=∀p∈c,et p.1->p.2.1=p.2.2
inductive SC where
 |done (ρ:Frame) (J:List U) (lg:Log) (c:Cons)
 |stop (rest:List aV) (ρ:Frame) (J:List U) (lg:Log) (c:Cons)
theorem Bj.map{G cs:List (Bool×Bool)}(h:Bj (cs.map λq=>(G,q)))(hG:et G):et cs:=λp b=>h (G,p) (List.mem_map.2 ⟨p,b,rfl⟩) hG
def Dc(P:Program)(GL:aw)(step:MK->List I->List U->aL):Prop:=∀ {k:MK} {xs:List I} {J:List U} {v:I} {rd:List Nat} {up:List (Nat×U)},step k xs J=.ok v rd up->aG P GL k xs (hp J) v rd up
end Go.Ah
end
section
namespace Go.Ah
inductive dB where
 |skip
 |region (id:Nat) (ms:List aV) (draw:Option (List (List Nat)))
 |seq (a b:dB)
 |cond (c:td) (a b:dB)
 |block (id:Nat) (a:dB)
 |loop (a:dB)
 |exit (id:Nat)
 |scope (a:dB)
 |label (l:Nat)
 |ret
 deriving Inhabited
def Zs(lg:Log)(i:Nat):List Nat×List Nat:=(lg[i]?).getD ([],[])
def df:List Nat->List Nat->Bool
 |[],_=>true
 |x::a,b=>!(b.contains x)&&df a b
def Zl(hd:List (List Nat))(i:Nat):List Nat:=(hd[i]?).getD []
def bF(p q:List Nat×List Nat):Bool:=df p.1 q.2&&(df p.2 q.1&&df p.2 q.2)
def Qj(h:List Nat)(q:List Nat×List Nat):Nat->Log->Bool
 |_,[]=>true
 |i,p::r=>(h.contains i||bF p q)&&Qj h q (i+1) r
def Qg(hd:List (List Nat))(lg:Log):Bool:=
 (Ao lg.length).all λj=>Qj (Zl hd j) (Zs lg j) 0 (lg.take j)
def waits(o:Oper):List Nat:=(o.after.toList.filter (Region.binds .any)).map (·.on)
def iU(m:aV):List Nat:=(m.xs.filterMap fun | .t n=>some n | .c _=>none)++(match m.guard with|some (s,_)=>[s]|none=>[])
def eE(m:aV):List Nat:=m.dst.toList
def zE(ops:List Oper)(ms:List aV)(hd:List (List Nat)):Bool:=
 let idx:=Ao ms.length
 AJ ops.length ms.length&&AJ hd.length ms.length &&
 (idx.all λj=>(waits (ops.getD j default)).all λi=>C3 i j) &&
 (idx.all λj=>(Zl hd j).all λi=>C3 i j&&((waits (ops.getD j default)).contains i||(waits (ops.getD j default)).any λk=>(Zl hd k).contains i)) &&
 (idx.all λj=>(Ao j).all λi=>
  let a:=ms.getD i default
  let b:=ms.getD j default
  (Zl hd j).contains i || (df (eE a) (iU b) && df (eE a) (eE b) && df (iU a) (eE b)))
inductive cD (P:Program) (GL:aw) (n:Nat):Code->dB->Prop
 |skip:cD P GL n .skip .skip
 |region (id:Nat) (ops:Array Oper) (ms:List aV):ops.size=ms.length->(∀(j:Nat) (m:aV),ms[j]?=some m->∃o,ops[j]?=some o/\fZ P GL n ops o m)->cD P GL n (.region id ops false) (.region id ms none)
 |draw (id:Nat) (ops:Array Oper) (ms:List aV) (hd:List (List Nat)):ops.size=ms.length->(∀(j:Nat) (m:aV),ms[j]?=some m->∃o,ops[j]?=some o/\fZ P GL n ops o m)->zE ops.toList ms hd=true ->
   cD P GL n (.region id ops true) (.region id ms (some hd))
 |seq (a b:Code) (x y:dB):cD P GL n a x->cD P GL n b y->cD P GL n (.seq a b) (.seq x y)
 |cond (c:Operand) (d:td) (a b:Code) (x y:dB):lz GL c d->cD P GL n a x->cD P GL n b y->cD P GL n (.cond c a b) (.cond d x y)
 |block (id:Nat) (a:Code) (x:dB):cD P GL n a x->cD P GL n (.block id a) (.block id x)
 |loop (a:Code) (x:dB):cD P GL n a x->cD P GL n (.loop a) (.loop x)
 |exit (id:Nat):cD P GL n (.exit id) (.exit id)
 |scope (a:Code) (x:dB):cD P GL n a x->cD P GL n (.scope a) (.scope x)
 |label (l:Nat):cD P GL n (.label l) (.label l)
 |ret:cD P GL n .ret .ret
inductive Ja where
 |normal
 |exit (id:Nat)
 |ret
abbrev eo:=Ja->Frame->List U->Prop
def ot(GL:aw)(w0:World)(L:Ln)(n:Nat)(g:Gm)(Q:eo):Exit->Act->World->Prop
 |.normal,a,w=>∃b d J,g.Le b/\bu GL w0 L b (hp J) w/\dc n b d a/\Q .normal d J
 |.exit id,a,w=>∃b d J,g.Le b/\bu GL w0 L b (hp J) w/\dc n b d a/\Q (.exit id) d J
 |.ret,a,w=>∃b d J,g.Le b/\bu GL w0 L b (hp J) w/\dc n b d a/\Q .ret d J
 |_,_,_=>False
theorem ot.mono{GL:aw}{w0:World}{L:Ln}{n:Nat}{g d:Gm}(hg:g.Le d){Q Q':eo}(h:∀e b J,Q e b J->Q' e b J):∀(e:Exit) (a:Act) (w:World),ot GL w0 L n d Q e a w->ot GL w0 L n g Q' e a w:=by
 intro e a w f;cases e<;>first
  |exact f.elim
  |(obtain⟨i,b,J,h1,h2,h3,h4⟩:=f;exact⟨i,b,J,hg.trans h1,h2,h3,h _ _ _ h4⟩)
def iV(P:Program)(GL:aw)(n:Nat)(m:dB)(ρ:Frame)(J:List U)(Q:eo):Prop:=
 ∀c,cD P GL n c m->∀(b:World) (L:Ln) (g:Gm) (a:Act) (w:World),bu GL b L g (hp J) w->dc n g ρ a->c.wp P (ot GL b L n g Q) a w
def eo.andThen(k:Frame->List U->Prop)(Q:eo):eo
 |.normal,b,J=>k b J
 |e,b,J=>Q e b J
def eo.inBlock(id:Nat)(Q:eo):eo
 |.exit d,b,J=>if d=id then Q .normal b J else Q (.exit d) b J
 |e,b,J=>Q e b J
section
variable {P:Program} {GL:aw} {n:Nat} {ρ:Frame} {J:List U} {Q:eo}
theorem iV.mono{m:dB}{Q':eo}(h:iV P GL n m ρ J Q)(hq:∀e ρ J,Q e ρ J->Q' e ρ J):iV P GL n m ρ J Q':=
 λc b f L g a w r d=>wp_mono (h c b f L g a w r d) (ot.mono (Gm.Le.refl g) hq)
theorem YdR(h:Q .normal ρ J):iV P GL n .skip ρ J Q:=by
 intro c b f L g a w r d;cases b with
 |skip=>exact wp_skip ⟨g,ρ,J,Gm.Le.refl g,r,d,h⟩
theorem Xdf{l:Nat}(h:Q .normal ρ J):iV P GL n (.label l) ρ J Q:=by
 intro c b f L g a w r d;cases b with
 |label=>exact wp_label ⟨g,ρ,J,Gm.Le.refl g,r,d,h⟩
theorem ZdR{id:Nat}(h:Q (.exit id) ρ J):iV P GL n (.exit id) ρ J Q:=by
 intro c b f L g a w r d;cases b with
 |exit=>exact wp_exit ⟨g,ρ,J,Gm.Le.refl g,r,d,h⟩
theorem Qeo(h:Q .ret ρ J):iV P GL n .ret ρ J Q:=by
 intro c b f L g a w r d;cases b with
 |ret=>exact wp_ret ⟨g,ρ,J,Gm.Le.refl g,r,d,h⟩
variable{x:dB}
theorem Zep{y:dB}(h:iV P GL n x ρ J (eo.andThen (λρ J=>iV P GL n y ρ J Q) Q)):iV P GL n (.seq x y) ρ J Q:=by
 intro c i b L g a w r d;cases i with
 |seq j o _ _ h1 h2=>
  refine wp_seq (wp_mono (h j h1 b L g a w r d) (λe p s f=>?_));cases e with
  |normal=>
   obtain⟨z,ρ',σ',k1,k2,k3,A⟩:=f;exact wp_mono (A o h2 b L z p s k2 k3) (ot.mono k1 (λ_ _ _ q=>q))
  |_=>exact f
theorem QdQ{o:td}{b:Bool}{y:dB}(ho:ev ρ o=.bool b)(ht:b=true->iV P GL n x ρ J Q)(hf:b=false->iV P GL n y ρ J Q):iV P GL n (.cond o x y) ρ J Q:=by
 intro c i f L g a w r d;cases i with
 |cond z _ j p _ _ s h1 h2=>
  have hd:=dc.opd r d s;rw[ho]at hd;exact wp_cond_split (QD hd) (λe=>ht e j h1 f L g a w r d) (λe=>hf e p h2 f L g a w r d)
theorem Ydf{id:Nat}(h:iV P GL n x ρ J (eo.inBlock id Q)):iV P GL n (.block id x) ρ J Q:=by
 intro c j o L g a w r d;cases j with
 |block _ p _ h1=>
  refine wp_block (wp_mono (h p h1 o L g a w r d) (λe s y f=>?_));cases e with
  |exit z=>
   obtain⟨i,ρ',σ',k1,k2,k3,b⟩:=f;simp only[Exit.inBlock];simp only[eo.inBlock]at b;split
   ·rename_i e;rw[aE e]at b;exact⟨i,ρ',σ',k1,k2,k3,b⟩
   ·rename_i e;rw[aB e]at b;exact⟨i,ρ',σ',k1,k2,k3,b⟩
  |_=>exact f
theorem Qdf(h:iV P GL n x ρ J Q):iV P GL n (.scope x) ρ J Q:=by
 intro c f i L g a w r d;cases f with
 |scope j _ h1=>
  refine wp_scope_straight (wp_mono (h j h1 i L g a w r d) (λe o p b=>?_));cases e with
  |goto l=>exact b.elim
  |_=>exact b
theorem Xc0{id:Nat}{ms:List aV}(h:iW false P GL ms ρ J [] (λρ' σ' _=>Q .normal ρ' σ')):iV P GL n (.region id ms none) ρ J Q:=by
 intro c f b L g a w r d;cases f with
 |region _ ops _ i o=>
  refine wp_region ?_;rw[List.range_eq_range',i];refine OA (n:=n) (w0:=b) (L:=L) _ (λρ' σ' _=>Q .normal ρ' σ') ms 0 ρ J [] g a w (λj m e=>by simpa using o j m e) h r d (λy z ⟨p,ρ',σ',A,k1,k2,k3,s⟩=>⟨p,ρ',σ',k1,k2,k3,s⟩)
def vS(ρ ρ':Frame):Prop:=∀t,bM ρ t=bM ρ' t\/bM ρ t=.aP
theorem dc.d_{g:Gm}{ρ ρ':Frame}{a:Act}(h:dc n g ρ' a)(hl:vS ρ ρ'):dc n g ρ a:=
 ⟨h.size,λt=>by
  rcases hl t with e|e
  ·rw[e];exact h.slot t
  ·rw[e];exact .aP _ _,h.defers⟩
theorem XdR{m:dB}{ρ':Frame}(hl:vS ρ' ρ)(h:iV P GL n m ρ' J Q):iV P GL n m ρ J Q:=
 λc b f L g a w r d=>h c b f L g a w r (d.d_ hl)
def HK:Frame->Frame->Prop
 |[],_=>True
 |(t,v)::r,ρ=>bM ρ t=v/\HK r ρ
theorem HK.le:∀ {r ρ:Frame},HK r ρ->vS r ρ
 |[],_,_,t=>.inr rfl
 |(s,v)::r,ρ,⟨h1,h2⟩,t=>by
  rw[ZV];by_cases e:t=s
  ·simp_all
  ·rw[aB e];exact HK.le h2 t
end
end Go.Ah
end
section
namespace Go.Ah
inductive RV where
 |t (n:Nat)
 |c (s:Nat) (agg:Bool) (n:Nat)
 deriving Inhabited
structure vT where
 np:Nat
 n:Nat
 body:dB
 gI:List RV
 deriving Inhabited
inductive tE (P:Program):ResultVar->RV->Prop
 |tmp (t:Nat):tE P (.tmp t) (.t t)
 |cell (s:Nat) (t:TypeId) (agg:Bool) (n:Nat):fN P t=some agg->size? P t=some n->tE P (.cell s t) (.c s agg n)
structure mV (P:Program) (GL:aw) (f:FuncId) (F:vT):Prop where
 ok:∃fn c,P.funcs[f]?=some fn/\fn.body=some c/\fn.ntmps=F.n/\cD P GL F.n c F.body/\mu (tE P) fn.results.toList F.gI
 np:F.np<=F.n
def sZ(ρ:Frame)(J:List U):RV->Option I
 |.t n=>some (bM ρ n)
 |.c s agg n=>match bM ρ s with
  |.ak b j=>match ai J b with
   |.box row=>aO agg j n row
   |_=>none
  |_=>none
def px(ρ:Frame)(J:List U):List RV->Option (List I)
 |[]=>some []
 |r::rs=>match sZ ρ J r,px ρ J rs with
  |some v,some b=>some (v::b)
  |_,_=>none
def qy:List I->I
 |[v]=>v
 |b=>.bw b
def iI(rs:List RV)(ρ:Frame)(J:List U):Option I:=
 match px ρ J rs with
 |some b=>some (qy b)
 |none=>none
def JW:Nat->List I->Frame
 |_,[]=>[]
 |i,x::xs=>(i,x)::JW (i+1) xs
def eH(xs:List I):Frame:=JW 0 xs
theorem YaI:∀(xs:List I) (i t:Nat),bM (JW i xs) t=if i<=t then (xs[t-i]?).getD .aP else .aP
 |[],i,t=>by simp[JW,bM]
 |x::xs,i,t=>by
  simp only[JW,ZV];by_cases h:t=i
  ·subst h;simp
  ·rw[aB h,YaI xs (i+1) t]
   grind
section
variable {P:Program} {GL:aw}
variable{xs:List I}
theorem Z7{g:Gm}{vs:List Value}(d:eh g xs vs){n:Nat}(hn:xs.length<=n):dc n g (eH xs) { tmps:=vs.toArray++FB (n-vs.toArray.size) undef,defers:=[] }:=by
 have j:=d.length;refine⟨by simp;omega,λt=>?_,rfl⟩;unfold eH;rw[YaI];rw[aE (Bf t),Nat.sub_zero];by_cases f:t<xs.length
 ·have b:xs[t]?=some xs[t]:=by simp[f]
  have i:vs[t]?=some (vs[t]'(by omega)):=by simp[show t<vs.length by omega]
  rw[b];have:(vs.toArray++FB (n-vs.toArray.size) undef).getD t undef=vs[t]'(by omega):=by
   rw[EP,Array.getElem?_append_left (by grind)];simp[show t<vs.length by omega]
  rw[this];exact d.get t _ _ b i
 ·rw[Fy (by omega)];exact .aP _ _
def J3(a:Act)(r:ResultVar):Sem Value:=match r with
 |.tmp t=>pure (a.tmps.getD t undef)
 |.cell s t=>do loadVar t (<-asAddr (a.tmps.getD s undef))
theorem XdF{n:Nat}{w0:World}{L:Ln}{g:Gm}{ρ:Frame}{J:List U}{a:Act}{w:World}(r:bu GL w0 L g (hp J) w)(d:dc n g ρ a):∀ {rs:List ResultVar} {o:List RV} {vs:List I},mu (tE P) rs o->px ρ J o=some vs ->
  ∃i:List Value,(rs.mapM (J3 a)).run P w=.ok i w/\eh g vs i
 |[],[],vs,_,h=>by simp only[px]at h;cases h;exact⟨[],rfl,trivial⟩
 |G::rs,q::o,vs,⟨h1,h2⟩,h=>by
  simp only[px]at h;cases f:sZ ρ J q with
  |none=>simp[f]at h
  |some v=>
   cases x:px ρ J o with
   |none=>simp[f,x]at h
   |some H=>
    simp only[f,x]at h;cases h;obtain⟨i,k1,k2⟩:=XdF r d h2 x;cases h1 with
    |tmp t=>
     simp only[sZ]at f;cases f;refine⟨a.tmps.getD t undef::i,?_,d.slot t,k2⟩;simp_all [J3]
    |cell s t agg m B hm=>
     simp only[sZ]at f;have hs:=d.slot s;split at f
     ·rename_i b j hb;rw[hb]at hs;split at f
      ·rename_i row C;have y:=ZS C;generalize hu:a.tmps.getD s undef=u0 at hs;cases hs with
       |ak _ _ _ p z=>
       cases A:p.cI with
       |true=>have:=r.bd b _ p y rfl z A;cases this
       |false=>
       obtain⟨_,_,K,D,arr,T,rfl,N,E⟩:=r.own b _ p y rfl z A;obtain⟨Q,R⟩:=Jk (g:=g) f (by omega) E;obtain⟨S,V⟩:=SK (P:=P) B hm (T:=T) (fr:=(0,0)) (Z8 D) j;have:∃u,(loadVar t ⟨p.aD,j,none⟩).run P w=.ok u w/\g.den v u:=by
        cases agg<;>grind
       obtain⟨u,Y,F⟩:=this;refine⟨u::i,?_,F,k2⟩;simp_all [J3,asAddr]
      ·cases f
     ·cases f
theorem Ii{n:Nat}{w0:World}{L:Ln}{g:Gm}{ρ:Frame}{J:List U}{a:Act}{w:World}(r:bu GL w0 L g (hp J) w)(d:dc n g ρ a){fn:Func}{b:List RV}{v:I}(h:mu (tE P) fn.results.toList b)(hv:iI b ρ J=some v) :
  ∃u,(results fn a.tmps).run P w=.ok u w/\g.den v u:=by
 unfold iI at hv;cases f:px ρ J b with
 |none=>simp[f]at hv
 |some j=>
  simp only[f]at hv;cases hv;obtain⟨us,k1,k2⟩:=XdF (P:=P) r d h f;have o:(fn.results.mapM (J3 a)).run P w=.ok us.toArray w:=by
   simp_all [Array.mapM_eq_mapM_toList]
  have hlen:=k2.length;refine⟨if h:us.toArray.size=1 then us.toArray[0]else .tuple us.toArray,?_,?_⟩
  ·unfold results;rw[AS];refine Eq.trans (congrArg (λr=>Result.andThen r _) (Eq.trans (?_:_=(fn.results.mapM (J3 a)).run P w) o)) rfl
   congr 2
  ·cases j with
   |nil=>
    have:us=[]:=Ck.1 (by simpa using hlen.symm);subst this;exact .bw _ _ _ rfl (by simp)
   |cons x xs=>
    cases us with
    |nil=>simp at hlen
    |cons u us=>
     cases xs with
     |nil=>
      have:us=[]:=Ck.1 (by simpa using hlen.symm);subst this;exact k2.1
     |cons y B=>
      rw[dif_neg (by grind)];exact .bw _ _ _ (by simpa using hlen.symm) (λi z p s A=>k2.get i z p s (by simpa using A))
theorem Xa9{f:FuncId}{F:vT}(ok:mV P GL f F)(hn:xs.length=F.np){v:I}(hv:v.ro=true)
 (h:iV P GL F.n F.body (eH xs) [] (λe d J=>(e=.normal\/e=.ret)/\iI F.gI d J=some v)):dh P GL f xs v:=by
 intro w M G z A B;obtain⟨C,c,h1,h2,h3,h4,h5⟩:=ok.ok;have r0:=bu.start (GL:=GL) w M z A;have D:hp []=po:=by funext b;simp[hp,po]
 rw[<-D]at r0;have d0:=Z7 B (n:=F.n) (by rw[hn];exact ok.np);refine calls_of_wp h1 h2 ?_;rw[h3];refine wp_mono (h c h4 w ⟨[],M⟩ _ _ w r0 d0) (λe x j r=>?_);have fin:∀i d J,(⟨M,bE⟩:Gm).Le i->bu GL w ⟨[],M⟩ i (hp J) j->dc F.n i d x->iI F.gI d J=some v->∃u,(results C x.tmps).run P j=.ok u j/\(∃y,Fm u=.returned y/\i6 ⟨[],M⟩ w j/\∃s,iJ M s/\(∀b o,s b=some o->j.heap[b]?=some o)/\(∀b o,s b=some o->M b=some o\/w.heap.size<=b)/\Den s bE v y):=by
  intro i d J hle hr hd E;obtain⟨u,k1,k2⟩:=Ii hr hd h5 E;exact⟨u,k1,u,rfl,hr.keeps,i.M,hle.m,hr.aZ,λb o e=>by
   rcases hr.src b o e with q | q | q <;> simp_all,Den.ro k2 hv _⟩
 cases e with
 |normal=>obtain⟨i,d,J,k1,k2,k3,p⟩:=r;exact⟨k3.defers,fin i d J k1 k2 k3 p.2⟩
 |ret=>obtain⟨i,d,J,k1,k2,k3,p⟩:=r;exact⟨k3.defers,fin i d J k1 k2 k3 p.2⟩
 |exit id=>obtain⟨i,d,J,k1,k2,k3,p⟩:=r;rcases p.1 with q|q<;>cases q
 |_=>exact r.elim
theorem TI{f:FuncId}{F:vT}(ok:mV P GL f F)(hn:xs.length=F.np){J:List U}{R:KT}
 (h:iV P GL F.n F.body (eH xs) J (λe d σ'=>(e=.normal\/e=.ret)/\∃v,iI F.gI d σ'=some v/\R v σ')) :
  ∀(w0:World) (L:Ln) (g:Gm) (w:World) (vs:List Value),bu GL w0 L g (hp J) w->eh g xs vs->Calls P f vs.toArray w λe y=>∃u,e=.returned u/\∃b x σ',R x σ'/\g.Le b/\bu GL w0 L b (hp σ') y/\b.den x u:=by
 intro w0 L g w vs r z;obtain⟨A,c,h1,h2,h3,h4,h5⟩:=ok.ok;have d0:=Z7 z (n:=F.n) (by rw[hn];exact ok.np);refine calls_of_wp h1 h2 ?_;rw[h3];refine wp_mono (h c h4 w0 L g _ w r d0) (λe p j o=>?_);have fin:∀b d σ',g.Le b->bu GL w0 L b (hp σ') j->dc F.n b d p->(∃v,iI F.gI d σ'=some v/\R v σ')->∃u,(results A p.tmps).run P j=.ok u j/\(∃s,Fm u=.returned s/\∃b x σ',R x σ'/\g.Le b/\bu GL w0 L b (hp σ') j/\b.den x s):=by
  rintro b d σ' hle hr hd ⟨v,B,C⟩;obtain⟨u,k1,k2⟩:=Ii hr hd h5 B
  grind
 cases e with
 |normal=>obtain⟨b,d,σ',k1,k2,k3,i⟩:=o;exact⟨k3.defers,fin b d σ' k1 k2 k3 i.2⟩
 |ret=>obtain⟨b,d,σ',k1,k2,k3,i⟩:=o;exact⟨k3.defers,fin b d σ' k1 k2 k3 i.2⟩
 |exit id=>obtain⟨b,d,σ',k1,k2,k3,i⟩:=o;rcases i.1 with q|q<;>cases q
 |_=>exact o.elim
end
end Go.Ah
end
section
namespace Go.Ah
section
variable {P:Program} {GL:aw}
variable{b sz p n:Nat}
variable{h:Hp}
variable{L:Ln}
variable{w0 w:World}
variable{rs ys:List (List I)}
variable{g:Gm}
theorem bu.jC(r:bu GL w0 L g h w)(hb:h b=some (.rows sz rs))(k:Nat):bu GL w0 L g (dQ h b (.rows sz (rs.take k))) w:=by
 have back:∀n x,dQ h b (.rows sz (rs.take k)) n=some x->x.live=true->∃y,h n=some y/\y.live=true:=by
  intro n x d z;by_cases f:n=b
  ·subst f;exact⟨_,hb,rfl⟩
  ·rw[Yr _ _ f]at d;exact⟨x,d,z⟩
 exact {
  keeps:=r.keeps
  aZ:=r.aZ
  src:=r.src
  cr:=r.cr
  dU:=λn d=>by
   by_cases f:n=b
   ·subst f;rw[Ys]at d;cases d
   ·rw[Yr _ _ f]at d;exact r.dU n d
  jb:=λn x d=>by
   by_cases f:n=b
   ·subst f;exact r.jb n _ hb
   ·rw[Yr _ _ f]at d;exact r.jb n x d
  own:=λn x A d z B C=>by
   by_cases f:n=b
   ·subst f;rw[Ys]at d;cases d;obtain⟨k1,k2,o,k3,F,arr,T,G,H,K,N,Q⟩:=r.own n _ A hb rfl B C;refine⟨k1,k2,o,k3,F,arr,T,G,H,?_,λi row e=>?_,λi row j x v s D e3=>?_⟩
    ·refine CI (GH (Av _ ?_) _) K;simp;omega
    ·rw[Fa]at e;split at e
     ·exact N i row e
     ·cases e
    ·rw[Fa]at s;split at s
     ·exact Q i row j x v s D e3
     ·cases s
   ·rw[Yr _ _ f]at d;exact r.own n x A d z B C
  bd:=λn x A d z B C=>by
   by_cases f:n=b
   ·subst f;rw[Ys]at d;cases d;have:=r.bd n _ A hb rfl B C;cases this;simp
   ·rw[Yr _ _ f]at d;exact r.bd n x A d z B C
  inj:=λn E x R S cb2 s D V X Y c2 v1 v2 iE=>by
   obtain⟨y1,f1,g1⟩:=back n x s V;obtain⟨y2,f2,g2⟩:=back E R D X;exact r.inj n E y1 y2 S cb2 f1 f2 g1 g2 Y c2 v1 v2 iE }
def over(p:Nat)(ys rs:List (List I)):List (List I):=rs.take p++ys++rs.drop (p+ys.length)
theorem XcT(hp:p+ys.length<=rs.length)(i:Nat):(over p ys rs)[i]?=if p<=i/\i<p+ys.length then ys[i-p]? else rs[i]?:=by
 unfold over;by_cases h1:i<p<;>grind
theorem QcA(hp:p+ys.length<=rs.length):(over p ys rs).length=rs.length:=by
 unfold over;simp;omega
theorem YbR{newv:Array Value}(r:n≠0)(d:mW g n ys newv)(mm:∀row∈ys,∀x∈row,I.cell x=true):∀u∈newv.toList,u.oneCell'=true:=by
 intro u s;obtain⟨q,hq⟩:=Et.1 s;rw[EI]at hq;have y:q<ys.length*n:=by rw[<-d.1];grind
 have f:0<n:=FE r;have i:q/n<ys.length:=(F3 f).2 y;have j:ys[q/n]?=some ys[q/n]:=by simp[i]
 have z:=d.2.1 _ _ j;have o:q%n<ys[q/n].length:=by rw[z];exact G2 _ f
 refine Rp (mm _ (AI i) _ (AI o)) (d.2.2 (q/n) _ (q%n) _ u j (by simp[o]) ?_)
 grind [Gp]
variable{cb:CB}
theorem bu.sV(r:bu GL w0 L g h w){newv:Array Value}(hb:h b=some (.rows n rs))(z:g.c b=some cb)(hv:cb.cI=false)(hp:p+ys.length<=rs.length)
 (d:mW g n ys newv)(E:∀u∈newv.toList,u.oneCell'=true) :
  ∃s,(storeCells ⟨cb.aD,cb.base+p*n,none⟩ newv.toList).run P w=.ok () s/\bu GL w0 L g (dQ h b (.rows n (over p ys rs))) s:=by
 obtain⟨F,arr,T,A,hs,B,G,H⟩:=r.ff hb z hv;obtain⟨x,s1,s2,K⟩:=Um (P:=P) A newv.toList E (j:=cb.base + p * n) (by
  intro _;rw[DU (xs:=newv),d.1,EG,<- EW,hs];exact CI (GH (Av n hp) _) B)
 refine⟨_,s1,r.write hb rfl z hv rfl (w':=w.setRow cb.aD x) rfl rfl rfl (Rf w _ arr x T (0,0) A) ⟨F,x,T,rfl,by rw[s2,hs],by rw[QcA hp];exact B,λi row q=>?_,λi row j C u f D o=>?_⟩⟩
 ·rw[XcT hp]at q;split at q
  ·exact d.2.1 _ row q
  ·exact G i row q
 ·rw[XcT hp]at f;rw[K,DU (xs:=newv),d.1]at o;split at f
  ·rename_i y;have N:j<n:=by rw[<-d.2.1 _ row f];grind
   have h5:p*n<=i*n:=Av n y.1;have h6:(i-p+1)*n<=ys.length*n:=Av n (by omega);rw[EN,GD]at h6;rw[aE (by omega)]at o;refine d.2.2 _ row j C u f D ?_
   grind
  ·rename_i y;have N:j<n:=by grind
   refine H i row j C u f D ?_;rw[aB]at o
   ·exact o
   ·rintro⟨k1,k2⟩;apply y;by_cases hip:i<p
    ·have:(i+1)*n<=p*n:=Av n hip;rw[EN]at this;omega
    ·refine⟨by omega,?_⟩;by_cases Q:i<p+ys.length
     ·exact Q
     ·have:(p+ys.length)*n<=i*n:=Av n (by omega);rw[EW]at this;omega
theorem Ru(r:bu GL w0 L g h w){off cap:Nat}(hb:h b=some (.rows n rs))(f:n≠0)(i:g.c b=some cb)(hv:cb.cI=false)(h2:cb.base+(off+cap)*cb.sz=cb.wx):rs.length<=off+cap:=by
 obtain⟨j,arr,T,o,hs,d,_⟩:=r.ff hb i hv;rw[j]at h2;rw[<-h2]at d;exact Nat.le_of_mul_le_mul_right (Nat.le_of_add_le_add_left d) (FE f)
theorem YaY(n by_:Nat)(z:List I)(y:I)(b off len:Nat)(ex:Bool)(rs ys:List (List I))(rd:List Nat)(h0:Hp)(hb:h0 b=some (.rows n rs))(tv:fy h0 n y ys rd)
 (mm:∀row∈ys,∀x∈row,I.cell x=true)(bU:off+len+ys.length<=rs.length) :
  aG P GL (.append n by_ z) [.sl b off len ex,y] h0 (.sl b off (len+ys.length) false) rd [(b,.rows n (over (off+len) ys rs))]:=by
 intro o os hc w0 L g h w a r hx cZ gG;have j:h b=some (.rows n rs):=by simp_all
 generalize B:o.op=op at hc;cases hc with
 |append t t' e ox oy _ _ v _ C AM D E F sM dM G H=>
  obtain⟨d,hd,K⟩:=AM;obtain⟨d1,d2,_⟩:=hx;generalize N:a.eval ox=u1 at d1;generalize Q:a.eval oy=R at d2;obtain⟨p2,zZ,newv,e2,S,A,_⟩:=QL (P:=P) r tv cZ d2;have T:(Fb R).run P w=.ok ys.length w:=by rw[e2];rfl
  rw[XcP];cases d1 with
  |n9 _ _ _ cb p f i=>
   have wt:=(r.hY j f i).2;subst wt;have V:ys=[]:=by simpa using bU
   subst V;have X:newv.toList=[]:=by have:=A.1;simp at this;simp[this]
   have s:(D5 #[t,t'] o.type #[.slice p 0 0,R]).run P w=.ok (.slice p 0 0) w:=by
    obtain⟨k1,k2⟩:=(ZJ C hd K D E F G (base:=p) (len:=0) (cap:=0) (newv:=newv) T o.type).1 (by simp) S;cases p with
    |none=>exact k1 rfl
    |some Y=>exact k2 Y w rfl (by rw[X];rfl)
   rw[QI B N Q s];refine⟨g,Gm.Le.refl _,?_,.n9 _ _ _ cb _ f i⟩;have:=r.jC j 0;exact this
  |sle _ _ _ _ cb p f i g1 g2=>
   have pR:=Ru (off:=off) (cap:=0) r j H f i (by simpa using g2);have V:ys=[]:=Ck.1 (by omega);subst V;have X:newv.toList=[]:=by have:=A.1;simp at this;simp[this]
   have s:(D5 #[t,t'] o.type #[.slice p 0 0,R]).run P w=.ok (.slice p 0 0) w:=by
    obtain⟨k1,k2⟩:=(ZJ C hd K D E F G (base:=p) (len:=0) (cap:=0) (newv:=newv) T o.type).1 (by simp) S;cases p with
    |none=>exact k1 rfl
    |some Y=>exact k2 Y w rfl (by rw[X];rfl)
   rw[QI B N Q s];refine⟨g,Gm.Le.refl _,?_,.sle _ _ _ _ cb _ f i g1 g2⟩;have vF:over (off+0) [] rs=rs.take rs.length:=by simp[over]
   rw[vF];exact r.jC j rs.length
  |sl _ _ _ _ _ cb cap f i h1 h2 h3=>
   have pR:=Ru r j H f i h2;have z1:=(r.ff j f i).1;obtain⟨w',s1,s2⟩:=r.sV (P:=P) j f i bU A (YbR H A mm);have s:=((ZJ C hd K D E F G (base:=some ⟨cb.aD,cb.base + off * cb.sz,none⟩) (len:=len) (cap:=cap) (newv:=newv) T o.type).1 (by omega) S).2 ⟨cb.aD,cb.base + off * cb.sz,none⟩ w' rfl (by
    simp_all [QX,EG,EW])
   rw[QI B N Q s];exact⟨g,Gm.Le.refl _,s2,.sl _ _ _ _ _ cb cap f i (by omega) h2 (by simp)⟩
theorem ZbF(n by_:Nat)(z:List I)(y:I)(b len:Nat)(ex:Bool)(rs ys:List (List I))(rd:List Nat)(h0:Hp)(d:Nat)(hn:h0 d=none)(hb:h0 b=some (.rows n rs))(hle:len<=rs.length)(i:fy h0 n y ys rd)(aal:b∉rd)
 (mm:∀row∈ys,∀x∈row,I.cell x=true)(j:(2*(len+ys.length)+192)*by_<=2 ^ 48) :
  aG P GL (.append n by_ z) [.sl b 0 len ex,y] h0 (.sl d 0 (len+ys.length) false) rd [(b,.dead),(d,.rows n (rs.take len++ys))]:=by
 intro o os s w0 L g h w a r A H K;have B:h b=some (.rows n rs):=by simp_all
 have C:h d=none:=by simp_all
 have D:d≠b:=by grind
 have f:(rs.take len).length=len:=by simp;omega
 have E:=r.jC B len;have hy1:fy (dQ h b (.rows n (rs.take len))) n y ys rd:=by
  cases i with
  |row ex N rows=>exact .row _ _ _
  |aq=>exact .aq
  |cX=>exact .cX
  |own F aaI Q ex2 rs2 R G=>
   have S:F≠b:=by rintro rfl;simp at aal
   exact .own _ _ _ _ _ (by simp_all [Yr]) G
 have:=ZbS (P:=P) (GL:=GL) n by_ z (.sl b 0 len ex) y (rs.take len) ys rd [(b,.dead)] (dQ h b (.rows n (rs.take len))) d (by rw[Yr _ _ D];exact C) (by have:=ny.own (h0:=dQ h b (.rows n (rs.take len))) (sz:=n) b 0 len ex _ (Ys _ _ _) (by rw[f];omega);simpa using this) hy1 mm (by rw[f];exact j)
  o os s w0 L g _ w a E A (λ_ _=>rfl) (λ_ _=>rfl)
 rw[f]at this;have e:cx (dQ h b (.rows n (rs.take len))) ([(b,.dead)]++[(d,.rows n (rs.take len++ys))])=cx h [(b,.dead),(d,.rows n (rs.take len++ys))]:=by
  funext q
  simp_all [cx,dQ]
 rw[e]at this;exact this
theorem bu.rD(r:bu GL w0 L g h w){aD blk':U}(hb:h b=some aD)(hl:aD.live=true)(j:blk'.live=true)(d:g.c b=some cb)(hv:cb.cI=false)
 (ok:∀o,iL g.M g.c cb o aD->iL g.M g.c cb o blk'):bu GL w0 L g (dQ h b blk') w:=by
 obtain⟨_,_,o,x,s⟩:=r.own b aD cb hb hl d hv;refine r.write hb hl d hv j (o':=o) rfl rfl rfl ?_ (ok o s);refine GP λi=>?_;by_cases f:cb.aD=i
 ·subst f;have:cb.aD<w.heap.size:=by grind
  grind
 ·rw[EF f]
theorem bu.qR(r:bu GL w0 L g h w)(hb:h b=some (.full sz rs)):∃cb,g.c b=some cb/\cb.cI=false/\cb.sz=sz/\cb.base+rs.length*sz=cb.wx:=by
 obtain⟨cb,f⟩:=r.jb b _ hb;have d:cb.cI=false:=by
  cases d:cb.cI with
  |false=>rfl
  |true=>have:=r.bd b _ cb hb rfl f d;cases this
 obtain⟨_,_,o,_,q,z,_⟩:=r.own b _ cb hb rfl f d;exact⟨cb,f,d,z,q⟩
theorem bu.DY(r:bu GL w0 L g h w)(hb:h b=some (.full sz rs))(k:Nat):bu GL w0 L g (dQ h b (.rows sz (rs.take k))) w:=by
 obtain⟨cb,d,f,_⟩:=r.qR hb;refine r.rD hb rfl rfl d f ?_;rintro o ⟨_,h0,arr,T,h1,h2,h3,h4,h5⟩;refine⟨h0,arr,T,h1,h2,CI (GH (Av _ (by simp;omega)) _) h3,λi row e=>?_,λi row j x v s y e3=>?_⟩
 ·rw[Fa]at e;grind
 ·rw[Fa]at s;grind
theorem bu.Ex(r:bu GL w0 L g h w){ex:Bool}(hb:h b=some (.rows sz rs))(wt:rs≠[]){v:Value}(hn:n=rs.length)(d:g.den (.sl b 0 n ex) v) :
  ∃m,bu GL w0 L g (dQ h b (.full sz (rs++CD m (CD sz .aP)))) w:=by
 cases d with
 |n9=>exact absurd (Ck.1 hn.symm) wt
 |sle=>exact absurd (Ck.1 hn.symm) wt
 |sl _ _ _ _ _ cb cap z A h1 h2 h3=>
  subst hn;refine⟨cap-rs.length,r.rD hb rfl rfl z A ?_⟩;rintro o ⟨k0,arr,T,k1,k2,k3,B,C⟩;have y:(rs++CD (cap-rs.length) (CD sz I.aP)).length=cap:=by simp;omega
  have hq:cb.base+cap*sz=cb.wx:=by simp_all
  refine⟨by rw[y];exact hq,k0,arr,T,k1,k2,by rw[y];omega,λi row e=>?_,λi row j x v f s e3=>?_⟩
  ·rw[Hj]at e;split at e
   ·exact B i row e
   ·rw[Ea]at e;grind
  ·rw[Hj]at f;split at f
   ·exact C i row j x v f s e3
   ·rw[Ea]at f;split at f
    ·cases f;rw[Ea]at s;split at s
     ·cases s;exact .aP _ _
     ·cases s
    ·cases f
theorem Out.map{h1 h2:Hp}{x:I}{res:Result Next}(f:∀d i,g.Le d->bu GL w0 L d h1 i->bu GL w0 L d h2 i)(q:Out P GL w0 L g h1 x res):Out P GL w0 L g h2 x res:=by
 cases res with
 |ok j i=>
  cases j with
  |value u=>obtain⟨d,k1,k2,k3⟩:=q;exact⟨d,k1,f _ _ k1 k2,k3⟩
  |skip=>obtain⟨d,k1,k2,k3⟩:=q;exact⟨d,k1,f _ _ k1 k2,k3⟩
  |enter fn args=>
   refine Gz q ?_;rintro e o ⟨u,he,d,k1,k2,k3⟩;exact⟨u,he,d,k1,f _ _ k1 k2,k3⟩
  |_=>exact q.elim
 |_=>exact q.elim
theorem fy.cq{h0:Hp}{y:I}{rd:List Nat}(hy:fy h0 n y ys rd){m:Nat}(hb:h0 b=some (.full m rs))(i:∀c∈rd,h c=h0 c)(x:U):fy (dQ h b x) n y ys rd:=by
 cases hy with
 |row ex r rows=>exact .row _ _ _
 |aq=>exact .aq
 |cX=>exact .cX
 |own f aaI s ex2 rs2 d j=>
  have o:f≠b:=by rintro rfl;rw[hb]at d;cases d
  exact .own _ _ _ _ _ (by rw[Yr _ _ o,i f (by simp)];exact d) j
theorem Qbz(n by_:Nat)(z:List I)(y:I)(b len:Nat)(ex:Bool)(rs ys:List (List I))(rd:List Nat)(h0:Hp)(hb:h0 b=some (.full n rs))(s:fy h0 n y ys rd)
 (mm:∀row∈ys,∀x∈row,I.cell x=true)(H:len+ys.length<=rs.length) :
  aG P GL (.append n by_ z) [.sl b 0 len ex,y] h0 (.sl b 0 (len+ys.length) false) rd [(b,.full n (over len ys rs))]:=by
 intro o os A w0 L g h w a r B C K;have d:h b=some (.full n rs):=by simp_all
 obtain⟨cb,D,E,N,hq⟩:=r.qR d;have f:=r.DY d rs.length;rw[List.take_length]at f;have:=YaY (P:=P) (GL:=GL) n by_ z y b 0 len ex rs ys rd (dQ h b (.rows n rs)) (Ys _ _ _) (s.cq hb C _) mm (by omega) o os A w0 L g _ w a f B (λ_ _=>rfl) (λ_ _=>rfl);refine this.map λQ R hle k=>?_;have F:=hle.c b cb D;have k2:=k.rD (blk':=.full n (over len ys rs)) (Ys _ _ _) rfl rfl F E (by
  rintro o ⟨k0,arr,T,k1,k2,k3,i,j⟩;have G:(over len ys rs).length=rs.length:=by simp[over];omega
  simp only[Al]at k3 i j;exact⟨by rw[G];exact hq,k0,arr,T,k1,k2,k3,i,j⟩)
 have e:dQ (cx (dQ h b (.rows n rs)) [(b,.rows n (over (0+len) ys rs))]) b (.full n (over len ys rs))=cx h [(b,.full n (over len ys rs))]:=by
  funext q
  simp[cx,dQ];split<;>rfl
 rw[e]at k2;exact k2
theorem ZbA(n by_:Nat)(z:List I)(y:I)(b len:Nat)(ex:Bool)(rs ys:List (List I))(rd:List Nat)(h0:Hp)(f:Nat)(hn:h0 f=none)(hb:h0 b=some (.full n rs))(F:fy h0 n y ys rd)
 (mm:∀row∈ys,∀x∈row,I.cell x=true)(hle:len<=rs.length)(xO:rs.length<len+ys.length)(X:(2*(len+ys.length)+192)*by_<=2 ^ 48) :
  aG P GL (.append n by_ z) [.sl b 0 len ex,y] h0 (.sl f 0 (len+ys.length) false) (b::rd) [(f,.rows n (rs.take len++ys))]:=by
 intro o os i w0 L g h w a r Y G gG;have jo:h f=none:=by rw[gG (f,.rows n (rs.take len++ys)) (by simp)];exact hn
 have H:h b=some (.full n rs):=by rw[G b (by simp)];exact hb
 have K:∀c∈rd,h c=h0 c:=λc i=>G c (by simp[i]);obtain⟨cb,ec,hv,hzs,hq⟩:=r.qR H;have r':=r.DY H len;generalize ho:o.op=op at i;cases i with
 |append t t' e ox oy _ _ v _ ht AM ei tk hz sM dM lR kU=>
  obtain⟨d,hd,qt⟩:=AM;obtain⟨d1,B,_⟩:=Y;generalize lq:a.eval ox=u1 at d1;generalize rm:a.eval oy=u2 at B;have C:(rs.take len).length=len:=by simp;omega
  have iP:fy (dQ h b (.rows n (rs.take len))) n (.sl b 0 len ex) (rs.take len) [b]:=by
   have:=fy.own (h0:=dQ h b (.rows n (rs.take len))) (sz:=n) b 0 len ex _ (Ys _ _ _) (by omega)
   rwa [Xdm _ 0 len (by omega),List.drop_zero]at this
  obtain⟨p1,D,N,j,Q,R,_⟩:=QL (P:=P) r'.drew iP (λ_ _=>rfl) d1;obtain⟨p2,zZ,newv,e2,f2,rC,_⟩:=QL (P:=P) r F K B;obtain⟨p2',BS,S,K_,Ld,T,_⟩:=QL (P:=P) r.drew F K B;have gV:(Fb u2).run P w=.ok ys.length w:=by rw[e2];rfl
  rw[C]at j Q;have pR:D<=rs.length:=by
   rw[j]at d1;cases d1 with
   |n9 _ _ _ cb2 _ s V=>exact Bf _
   |sle _ _ _ _ cb2 _ s V=>exact Bf _
   |sl _ _ _ _ _ cb2 _ s V h1 h2 h3=>
    have:cb2=cb:=by rw[ec]at s;cases s;rfl
    subst this;rw[<-hq,hzs]at h2;have h4:(0+D)*n=rs.length*n:=Nat.add_left_cancel h2;have:=Nat.eq_of_mul_eq_mul_right (FE kU) h4;omega
  obtain⟨A,E,bJ⟩:=(ZJ ht hd qt ei tk hz lR (base:=p1) (len:=len) (cap:=D) (newv:=S) gV o.type).2 (by omega) X N (by rw[<-j];exact Q) Ld;rw[QI ho (by rw[lq];exact j) rm bJ];obtain⟨q1,q2⟩:=SQ (c:=DT v.cells (A-(len+ys.length))) R T;obtain⟨g',WJ,WK,Ar⟩:=bu.oi r.drew jo n (rs.take len++ys) (N++S++DT v.cells (A-(len+ys.length))) e (len+ys.length) A false
   (by
     have h1:=R.1;rw[C]at h1;simp only[Hz,h1,T.1,SP,sM,GD,EW];have:(len + ys.length) * n<=A * n:=Av n E;rw[EW]at this;omega) E (by simp) (by rw[AT,C];exact E) q1 q2
  exact⟨g',WJ,WK,Ar⟩
theorem QdH(n:Nat)(z:List I)(b off len:Nat)(ex:Bool)(rs:List (List I))(h0:Hp)(hb:h0 b=some (.rows n rs))(S:off+len<=rs.length) :
  aG P GL (.iM n z) [.sl b off len ex] h0 .aP [] [(b,.rows n (over off (CD len z) rs))]:=by
 intro o os D w0 L g h w a r E cZ gG;have d:h b=some (.rows n rs):=by simp_all
 generalize ho:o.op=op at D;cases D with
 |iM t e T _ v _ he ei F hz B G=>
  obtain⟨d1,_⟩:=E;generalize lq:a.eval T=u1 at d1;obtain⟨V,hzd⟩:=XX (M:=g.M) (c:=g.c) G;have abQ:z.length=n:=by rw[<-V];simpa using B
  have H:P.underlying t=some (.slice e):=by
   grind [eW]
  have out:∀y,(FH #[t] o.type #[u1]).run P w=.ok (.tuple #[]) y->(execOp a.eval o).run P w=.ok (.value (.tuple #[])) y:=by
   simp_all [execOp,resolve,invoke,builtin]
  rw[XcP];have K:(CD len z).length=len:=by simp
  cases d1 with
  |n9 _ _ _ cb p f s=>
   have X:=(r.hY d f s).2;subst X;rw[out w (by
    cases p <;> simp[FH,AS,run_underlying H])]
   exact⟨g,Gm.Le.refl _,r.jC d 0,.aP _ _⟩
  |sle _ _ _ _ cb p f s _ _=>
   rw[out w (by
    cases p <;> simp[FH,AS,run_underlying H])]
   refine⟨g,Gm.Le.refl _,?_,.aP _ _⟩;have C:over off (CD 0 z) rs=rs.take rs.length:=by simp[over]
   rw[C];exact r.jC d rs.length
  |sl _ _ _ _ _ cb cap f s h1 h2 h3=>
   have Y:=(r.ff d f s).1;have hv0:v.cells.size≠0:=by rw[B];exact F
   have N:mW g n (CD len z) (DT v.cells len):=by
    refine⟨by rw[SP,B,K],λi row q=>?_,λi row j x u A q2 Q=>?_⟩
    ·grind
    ·rw[Ea]at A;split at A
     ·rename_i hi;cases A;have hj:j<n:=by grind
      have bZ:i*n+j<len*n:=by
       have:(i+1)*n<=len*n:=Av n hi;rw[EN]at this;omega
      have abE:(i*n+j)%n=j:=by simp_all [Fk]
      have hq:(DT v.cells len)[i*n+j]?=v.cells[j]?:=by
       simp_all [DT]
      rw[hq]at Q;exact hzd j x u q2 (by simpa using Q)
     ·cases A
   have Wr:=Rb G;obtain⟨y,s1,s2⟩:=r.sV (P:=P) d f s (p:=off) (ys:=CD len z) (by rw[K];exact S) N (YbR F N (λrow dR x E=>by
    simp_all))
   by_cases R:len=0
   ·subst R;rw[out w (by simp_all [FH,run_underlying])];refine⟨g,Gm.Le.refl _,?_,.aP _ _⟩;have C:over off (CD 0 z) rs=rs.take rs.length:=by
     simp[over]
    rw[C];exact r.jC d rs.length
   ·rw[out y (by
     cases len with
     |zero=>exact(R rfl).elim
     |succ len=>
      rw[Y];simp only[FH,AS,Ak,AE];simp_all [run_underlying,Bz])]
    exact⟨g,Gm.Le.refl _,s2,.aP _ _⟩
theorem TH(n:Nat)(z:List I)(x:I)(h0:Hp)(f:x=.aq\/x=.cX\/∃e i sz,x=.aX e i sz []):aG P GL (.iM n z) [x] h0 .aP [] []:=by
 intro o os d w0 L g h w a r j D E;generalize s:o.op=op at d;cases d with
 |iM t e y _ v _ he F G H K N=>
  obtain⟨d1,_⟩:=j;generalize A:a.eval y=u1 at d1;have B:P.underlying t=some (.slice e):=by
   grind [eW]
  have hsh:∃p cap,u1=.slice p 0 cap:=by
   rcases f with rfl|rfl|⟨_,_,_,rfl⟩
   ·cases d1;exact⟨_,_,rfl⟩
   ·cases d1;exact⟨_,_,rfl⟩
   ·cases d1;exact⟨_,_,rfl⟩
  obtain⟨p,cap,rfl⟩:=hsh;have C:(execOp a.eval o).run P w=.ok (.value (.tuple #[])) w:=by
   simp only[execOp,s,resolve,AS,Ak,AE,invoke,builtin];cases p<;>simp[A,FH,AS,run_underlying B]
  rw[C];exact Out.here r (.aP _ _)
end
end Go.Ah
end
