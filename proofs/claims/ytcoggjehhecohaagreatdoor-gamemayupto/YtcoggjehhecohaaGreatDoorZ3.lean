/- Part of the proof of GameMay, for arguments of at most 1048576 values and letters together. -/
import Derived.Test.YtcoggjehhecohaaGreatDoorZ2
import Derived.DataReads
import Derived.ChangeShapes
import Derived.KernelRfl
import Derived.Test.YtcoggjehhecohaaGreatDoorProg
set_option linter.all false
open BitVec renaming ofInt->GO,toNat_ofInt->Hl
open Bool renaming and_assoc->FL,and_eq_true->AA,and_false->FJ,and_self->C2,and_true->DZ,eq_false_iff->D9,eq_iff_iff->C6,false_and->Ed,false_eq_true->B8,false_or->FD,not_false->Ej,true_and->Ax
open ByteArray renaming size->NF
open Exists renaming intro->Ls
open Go.Addr renaming add->ID
open Go.DataW renaming trod->Fp
open Go.IntKind renaming i64->AF
open Go.IntWalk renaming i64_in->Bb
open Go.Utf8 renaming decode->EY,runeError->EC,valid->Gv
open List renaming all_eq_true->C1,any_cons->HB,any_nil->MP,cons_append->Cz,contains_iff_mem->Ew,drop_drop->LS,drop_eq_nil_of_le->Fq,drop_length->As,drop_take->LQ,drop_zero->GG,flatten_cons->IN,foldl_cons->LB,getElem?_append_left->Bi,getElem?_append_right->Bc,getElem?_eq_getElem->Cv,getElem_mem->AI,getElem_of_mem->FA,getElem_take->Gc,length->GF,length_append->AT,length_cons->A1,length_map->Be,length_nil->Cb,length_take->EM,map->Hw,map_append->A8,map_cons->B7,mem_append->Bd,mem_cons->Az,mem_map->By,mem_take_iff_getElem->Ff,range'->ED,range'_succ->Gk,range_eq_range'->Hi,sizeOf_lt_of_mem->EH,take_append_drop->F5,take_length->C5,take_of_length_le->DN,take_succ_eq_append_getElem->Cq,take_take->LI
open List.cons renaming sizeOf_spec->NB
open Nat renaming add_assoc->EG,beq->AJ,blt->C3,blt_eq->Mw,le_refl->AO,sub_self->Hu,zero_add->Al
open Option renaming bind_eq_some_iff->G0,getD_some->Cw,map_eq_some_iff->Eg
open Option.some renaming injEq->E7
open Or renaming inl->Hg
open SizeOf renaming sizeOf->B3
section
namespace Go.Ah
section
variable {H:Type}
def DL(M:Nat->Option Obj)(xs:List I)(cs:List Value):Prop:=xs.length=cs.length/\∀(i:Nat) (x:I) (v:Value),xs[i]?=some x->cs[i]?=some v->Den M bE x v
theorem DL.nil{M:Nat->Option Obj}:DL M [] []:=⟨rfl,λi x v h=>by simp at h⟩
theorem DL.one{M:Nat->Option Obj}{x:I}{v:Value}(h:Den M bE x v):DL M [x] [v]:=by
 refine⟨rfl,λi y u h1 h2=>?_⟩;cases i with
 |zero=>simp at h1 h2;subst h1;subst h2;exact h
 |succ i=>simp at h1
theorem DL.append{M:Nat->Option Obj}{xs ys:List I}{cs ds:List Value}(h:DL M xs cs)(k:DL M ys ds):DL M (xs++ys) (cs++ds):=by
 refine⟨by simp[h.1,k.1],λi x v h1 h2=>?_⟩;by_cases b:i<xs.length
 ·rw[Bi b]at h1;rw[Bi (by rw[<-h.1];exact b)]at h2;exact h.2 i x v h1 h2
 ·rw[Bc (by omega)]at h1;rw[Bc (by rw[<-h.1];omega),<-h.1]at h2;exact k.2 _ x v h1 h2
def zC{d β f:Type}(R:d->β->f->Prop):List d->List β->List f->Prop
 |[],[],[]=>True
 |a::us,b::i,c::cs=>R a b c/\zC R us i cs
 |_,_,_=>False
def te{d β:Type}(R:d->β->Prop):List d->List β->Prop
 |[],[]=>True
 |a::us,b::f=>R a b/\te R us f
 |_,_=>False
theorem zC.cons{d β f:Type}{R:d->β->f->Prop}{a:d}{i:List d}{bs:List β}{cs:List f}(h:zC R (a::i) bs cs):∃b j c o,bs=b::j/\cs=c::o/\R a b c/\zC R i j o:=by
 match bs,cs,h with
 |b::bs,c::cs,h=>exact⟨b,bs,c,cs,rfl,rfl,h.1,h.2⟩
theorem zC.nil{d β b:Type}{R:d->β->b->Prop}{bs:List β}{cs:List b}(h:zC R [] bs cs):bs=[]/\cs=[]:=by
 match bs,cs,h with
 |[],[],_=>exact⟨rfl,rfl⟩
theorem te.cons{d β:Type}{R:d->β->Prop}{a:d}{f:List d}{bs:List β}(h:te R (a::f) bs):∃b i,bs=b::i/\R a b/\te R f i:=by
 match bs,h with
 |b::bs,h=>exact⟨b,bs,rfl,h.1,h.2⟩
theorem te.length{b β:Type}{R:b->β->Prop}:∀ {us:List b} {bs:List β},te R us bs->us.length=bs.length
 |[],[],_=>rfl
 |_::_,_::_,h=>by simp[te.length h.2]
 |[],_::_,h=>h.elim
 |_::_,[],h=>h.elim
def Typed(P:Program):Nat->TypeId->List I->DataW H->Prop
 |0,_,_,_=>False
 |fuel+1,t,xs,d=>match P.underlying t with
  |some .bool=>∃b,xs=[.bool b]/\d=.lit (.bool b)
  |some (.int k)=>∃n,xs=[.int k n]/\(Lit.int k n).wf=true/\d=.lit (.int k n)
  |some .string=>∃s,xs=[.str s]/\d=.lit (.string s)
  |some (.slice e)=>∃rows,xs=[.aX false false (P.cellsOf e) rows]/\((rows=[]/\d=.nil)\/∃es sp,d=.slice es sp/\te (Typed P fuel e) rows es)
  |some (.struct i)=>∃parts f,xs=parts.flatten/\d=.agg f/\zC (Typed P fuel) (i.toList.map (·.type)) parts f
  |some (.array n e)=>∃parts f,xs=parts.flatten/\d=.agg f/\parts.length=n/\te (Typed P fuel e) parts f
  |_=>False
def qB(P:Program):Nat->List Field->Option Nat
 |o,[]=>some o
 |o,f::r=>bif AJ f.offset o then qB P (o+P.cellsOf f.type) r else none
def Bg(P:Program)(S:List TypeId)(t:TypeId):Bool:=match P.underlying t with
 |some .bool=>AJ (P.cellsOf t) 1
 |some (.int _)=>AJ (P.cellsOf t) 1
 |some .string=>AJ (P.cellsOf t) 1
 |some (.slice e)=>AJ (P.cellsOf t) 1&&(C3 0 (P.cellsOf e)&&S.contains e)
 | some (.struct b)=>(match qB P 0 b.toList with
  |some n=>AJ n (P.cellsOf t)
  | none=>false) && b.toList.all λf=>S.contains f.type
 |some (.array n e)=>AJ (P.cellsOf t) (n*P.cellsOf e)&&S.contains e
 |_=>false
variable {enc:TypeId×Value->H} {P:Program} {w:World} {base:Nat} {spare:Nat->Bool} {held:Bool}
theorem Rt{j β:Type}{f:j->Option β}:∀ {l:List j} {r:List β},l.mapM f=some r->te (λa b=>f a=some b) l r
 |[],r,h=>by simp at h;subst h;trivial
 |a::l,r,h=>by
  rw[List.mapM_cons]at h;cases d:f a with
  |none=>simp[d]at h
  |some b=>
   cases i:l.mapM f with
   |none=>simp[d,i]at h
   |some o=>simp[d,i]at h;subst h;exact⟨d,Rt i⟩
def Ju(enc:TypeId×Value->H)(P:Program)(w:World)(base:Nat)(spare:Nat->Bool)(held:Bool)(fuel:Nat)(t:TypeId)(cs:List Value)(d:DataW H):Prop:=∃b,Fp enc P w base spare held fuel t cs=some (d,b)
def zo(enc:TypeId×Value->H)(P:Program)(w:World)(base:Nat)(spare:Nat->Bool)(held:Bool)(fuel:Nat)(t:TypeId):Prop:=
 ∀cs d,Ju enc P w base spare held fuel t cs d->cs.length=P.cellsOf t/\∃xs,DL (λb=>w.heap[b]?) xs cs/\Typed P fuel t xs d
theorem Vj{a:Addr}{v:Value}(h:w.cell? a=some v):a.spot=none/\iS (λb=>w.heap[b]?) a.block a.off=some v:=by
 unfold World.cell? at h;show _/\(match w.heap[a.block]? with
  |some (.cells c _ _)=>c[a.off]?
  | _=>none)=some v
 cases hb:w.heap[a.block]? with
 |none=>rw[hb]at h;cases h
 |some o=>
  rw[hb]at h;cases o with
  |cells c t d=>
   simp only at h;split at h
   ·cases h
   ·rename_i hs;exact⟨by simpa using hs,h⟩
  |_=>cases h
theorem Yb6(a:Addr)(n:Nat):(a.add n).block=a.block:=by unfold ID;split<;>rfl
theorem Zde(a:Addr)(n:Nat):(a.add n).off=a.off+n:=by unfold ID;split<;>simp_all
theorem Xbq{fuel:Nat}{cs:List Value}:∀ {i:List Field} {o n:Nat} {xs:List (DataW H×List MemPlace)},qB P o i=some n->n<=cs.length->(∀f∈i,zo enc P w base spare held fuel f.type) ->
  te (λ(f:Field) y=>Fp enc P w base spare held fuel f.type ((cs.drop f.offset).take (P.cellsOf f.type))=some y) i xs->o<=n /\
  ∃parts,DL (λb=>w.heap[b]?) parts.flatten ((cs.take n).drop o)/\zC (Typed P fuel) (i.map (·.type)) parts (xs.map (·.1))
 |[],o,n,xs,d,j,hf,h=>by
  simp only[qB,E7]at d;subst d
  match xs,h with
  |[],_=>
   refine⟨AO _,[],?_,trivial⟩;have:(cs.take o).drop o=[]:=by simp
   rw[this];exact DL.nil
 |f::i,o,n,xs,d,j,hf,h=>by
  simp only[qB]at d;cases hb:AJ f.offset o with
  |false=>rw[hb]at d;cases d
  |true=>
   rw[hb]at d;have r:=fK hb;obtain⟨y,A,rfl,h1,h2⟩:=h.cons;obtain⟨hle,parts,hd,h3⟩:=Xbq d j (λg s=>hf g (List.mem_cons_of_mem _ s)) h2;obtain⟨B,p,hp,x⟩:=hf f (List.mem_cons_self ..) _ _ ⟨y.2,h1⟩;refine⟨by omega,p::parts,?_,x,h3⟩;have e:(cs.take n).drop o=(cs.drop f.offset).take (P.cellsOf f.type)++(cs.take n).drop (o+P.cellsOf f.type):=by
    have z:(cs.take n).drop o=((cs.take n).drop o).take (P.cellsOf f.type)++((cs.take n).drop o).drop (P.cellsOf f.type):=(F5 _ _).symm;rw[z,LS,r]
    congr 1
    rw[LQ,LI]
    congr 1
    omega
   rw[IN,e];exact hp.append hd
theorem QbL{fuel:Nat}{e:TypeId}{cs:List Value}(hf:zo enc P w base spare held fuel e):∀ {n o:Nat} {xs:List (DataW H×List MemPlace)},(o+n)*P.cellsOf e<=cs.length ->
  te (λ(i:Nat) y=>Fp enc P w base spare held fuel e ((cs.drop (i*P.cellsOf e)).take (P.cellsOf e))=some y) (ED o n) xs ->
  ∃parts,DL (λb=>w.heap[b]?) parts.flatten ((cs.take ((o+n)*P.cellsOf e)).drop (o*P.cellsOf e))/\parts.length=n/\te (Typed P fuel e) parts (xs.map (·.1))
 |0,o,xs,d,h=>by
  match xs,h with
  |[],_=>
   refine⟨[],?_,rfl,trivial⟩;have:(cs.take ((o+0)*P.cellsOf e)).drop (o*P.cellsOf e)=[]:=by simp
   rw[this];exact DL.nil
 |n+1,o,xs,d,h=>by
  rw[Gk]at h;obtain⟨y,x,rfl,h1,h2⟩:=h.cons;have f:(o+1+n)*P.cellsOf e<=cs.length:=by rw[show o+1+n=o+(n+1) by omega];exact d
  obtain⟨parts,hd,h3,h4⟩:=QbL hf f h2;obtain⟨z,p,hp,j⟩:=hf _ _ ⟨y.2,h1⟩;refine⟨p::parts,?_,by simp[h3],j,h4⟩;have hs:(o+1)*P.cellsOf e=o*P.cellsOf e+P.cellsOf e:=by rw[Nat.add_mul,Nat.one_mul]
  have A:(o+1)*P.cellsOf e<=(o+(n+1))*P.cellsOf e:=Nat.mul_le_mul_right _ (by omega);have r:(cs.take ((o+(n+1))*P.cellsOf e)).drop (o*P.cellsOf e)=(cs.drop (o*P.cellsOf e)).take (P.cellsOf e)++(cs.take ((o+1+n)*P.cellsOf e)).drop ((o+1)*P.cellsOf e):=by
   rw[show o+1+n=o+(n+1) by omega,hs];have s:(cs.take ((o+(n+1))*P.cellsOf e)).drop (o*P.cellsOf e)=((cs.take ((o+(n+1))*P.cellsOf e)).drop (o*P.cellsOf e)).take (P.cellsOf e)++((cs.take ((o+(n+1))*P.cellsOf e)).drop (o*P.cellsOf e)).drop (P.cellsOf e):=(F5 _ _).symm;rw[s,LS]
   congr 1
   rw[LQ,LI]
   congr 1
   omega
  rw[IN,r];exact hp.append hd
theorem Xck{fuel:Nat}{e:TypeId}{a:Addr}(hf:zo enc P w base spare held fuel e)(s:0<P.cellsOf e):∀ {n o:Nat} {xs:List (DataW H×List MemPlace)},
  te (λ(i:Nat) y=>(w.cells? base (a.add (i*P.cellsOf e)) (P.cellsOf e)).bind (Fp enc P w base spare held fuel e)=some y) (ED o n) xs ->
  ∃(rows:List (List I)) (f:Nat->Nat->Value),rows.length=n/\te (Typed P fuel e) rows (xs.map (·.1))/\(n≠0->o=0->a.spot=none)/\(∀(i:Nat) (row:List I),rows[i]?=some row->row.length=P.cellsOf e) /\
   (∀i j,i<n->j<P.cellsOf e->iS (λb=>w.heap[b]?) a.block (a.off+((o+i)*P.cellsOf e+j))=some (f i j))/\(∀(i:Nat) (row:List I) (j:Nat) (x:I),rows[i]?=some row->row[j]?=some x->Den (λb=>w.heap[b]?) bE x (f i j))
 |0,o,xs,h=>by
  match xs,h with
  |[],_=>exact⟨[],λ_ _=>undef,rfl,trivial,λh _=>(h rfl).elim,by simp,by intro i j B;omega,by simp⟩
 |n+1,o,xs,h=>by
  rw[Gk]at h;obtain⟨y,X,rfl,h1,h2⟩:=h.cons;obtain⟨rows,f,C,D,Y,E,F,G⟩:=Xck hf s h2;obtain⟨cs,K,L⟩:=G0.1 h1;obtain⟨_,N,z⟩:=World.cells?_some K;obtain⟨_,xs0,hd,Q⟩:=hf cs y.1 ⟨y.2,L⟩;have R:∀j,j<P.cellsOf e->∃v,cs[j]?=some v/\iS (λb=>w.heap[b]?) a.block (a.off+o*P.cellsOf e+j)=some v:=by
   intro j d;obtain⟨v,p⟩:∃v,cs[j]?=some v:=⟨cs[j]'(by omega),by simp[show j<cs.length by omega]⟩;have:=z j d;rw[p]at this;obtain⟨m1,A⟩:=Vj this;rw[Yb6,Yb6,Zde,Zde]at A;exact⟨v,p,A⟩
  refine⟨xs0::rows,λi j=>match i with|0=>(cs[j]?).getD undef|i+1=>f i j,by simp[C],⟨Q,D⟩,λ_ S=>?_,?_,?_,?_⟩
  ·have:=z 0 s;rw[show cs[0]?=some (cs[0]'(by omega)) by simp[show 0<cs.length by omega]]at this;have:=(Vj this).1;subst S;simpa[ID]using this
  ·intro i row hr;cases i with
   |zero=>simp at hr;subst hr;rw[hd.1,N]
   |succ i=>exact E i row (by simpa using hr)
  ·intro i j B d;cases i with
   |zero=>
    obtain⟨v,T,V⟩:=R j d;simp only[T,Cw,Nat.add_zero];rw[<-EG];exact V
   |succ i=>
    have:=F i j (by omega) d;rw[show o+(i+1)=o+1+i by omega];exact this
  ·intro i row j x hr r;cases i with
   |zero=>
    simp at hr;subst hr;have d:j<cs.length:=by rw[<-hd.1];exact(eS r).1
    have p:cs[j]?=some cs[j]:=by simp[d]
    simp only[p,Cw];exact hd.2 j x _ r p
   |succ i=>exact G i row j x (by simpa using hr) r
theorem Rk{S:List TypeId}(hS:S.all (Bg P S)=true):∀(fuel:Nat) (t:TypeId),t∈S->zo enc P w base spare held fuel t
 |0,t,_=>by
  rintro A d ⟨B,h⟩;simp[Fp]at h
 |fuel+1,t,p=>by
  rintro A d ⟨B,h⟩;have b:=C1.1 hS t p;have s:=λt p=>Rk hS fuel t p;unfold Bg at b;unfold Fp at h;split at h
  case h_1=>
   rename_i hu;rw[hu]at b;cases h;exact⟨(fK b).symm,_,DL.one (.bool _ _),by unfold Typed;rw[hu];exact⟨_,rfl,rfl⟩⟩
  case h_2=>
   rename_i hu;rw[hu]at b;split at h
   ·rename_i C;obtain⟨rfl,D⟩:=C;cases h;exact⟨(fK b).symm,_,DL.one (.int _ _ _),by unfold Typed;rw[hu];exact⟨_,rfl,D,rfl⟩⟩
   ·cases h
  case h_4=>
   rename_i hu;rw[hu]at b;split at h
   ·cases h;exact⟨(fK b).symm,_,DL.one (.str _ _),by unfold Typed;rw[hu];exact⟨_,rfl,rfl⟩⟩
   ·cases h
  case h_7=>
   rename_i e hu;rw[hu]at b;simp only[AA]at b;cases h;refine⟨(fK b.1).symm,_,DL.one (Den.eZ (P.cellsOf e) (.aq _)),?_⟩;unfold Typed;rw[hu];exact⟨[],rfl,.inl ⟨rfl,rfl⟩⟩
  case h_8=>
   rename_i e a len cap hu;rw[hu]at b;simp only[AA]at b;obtain⟨k1,k2,k3⟩:=b;have E:0<P.cellsOf e:=iq k2;simp only at h;split at h
   ·rename_i F;obtain⟨Y,he,h⟩:=G0.1 h;obtain⟨rest,hr,h⟩:=Eg.1 h;cases h;rw[Hi]at he;obtain⟨rows,f,x,G,K,L,N,Q⟩:=Xck (s e (Ew.1 k3)) E (Rt he);refine⟨(fK k1).symm,[.aX false false (P.cellsOf e) rows],DL.one ?_,?_⟩
    ·rw[<-x];refine .aX _ false false (P.cellsOf e) rows (some a) cap a.block a.off f (λh=>by cases h) (λh=>by cases h) (λR=>?_) (λh=>by cases h) (by rw[x];exact F.2.1) L (λi j hi T=>?_) Q
     ·have y:len≠0:=λe=>R (List.length_eq_zero_iff.1 (x.trans e));have:=K y rfl;cases a;simp at this;subst this;rfl
     ·have:=N i j (by omega) T;rw[Al]at this;exact this
    ·unfold Typed;rw[hu];exact⟨rows,rfl,.inr ⟨_,_,rfl,G⟩⟩
   ·cases h
  case h_9=>
   rename_i V hu;rw[hu]at b;simp only[AA]at b;obtain⟨k1,k2⟩:=b;split at h
   ·rename_i z;obtain⟨xs,r,h⟩:=Eg.1 h;cases h;cases p:qB P 0 V.toList with
    |none=>rw[p]at k1;cases k1
    |some n=>
     rw[p]at k1;have y:=fK k1;obtain⟨_,parts,hd,h3⟩:=Xbq p (by omega) (λg X=>s _ (Ew.1 (C1.1 k2 g X))) (Rt r);refine⟨z,parts.flatten,?_,?_⟩
     ·rw[GG,DN (by omega)]at hd;exact hd
     ·unfold Typed;rw[hu];exact⟨parts,_,rfl,rfl,h3⟩
   ·cases h
  case h_10=>
   rename_i n e hu;rw[hu]at b;simp only[AA]at b;obtain⟨k1,k2⟩:=b;have y:=fK k1;split at h
   ·rename_i z;obtain⟨xs,r,h⟩:=Eg.1 h;cases h;rw[Hi]at r;obtain⟨parts,hd,h3,h4⟩:=QbL (s e (Ew.1 k2)) (o:=0) (n:=n) (by rw[Al];omega) (Rt r);refine⟨z,parts.flatten,?_,?_⟩
    ·rw[Nat.zero_mul,GG,Al,DN (by omega)]at hd;exact hd
    ·unfold Typed;rw[hu];exact⟨parts,_,rfl,rfl,h3,h4⟩
   ·cases h
  all_goals first|(rename_i hu;rw[hu]at b;exact absurd (show false=true from b) (by decide))|cases h
end
end Go.Ah
end
section
namespace Go.Ah
section
variable {α β:Type}
abbrev I8{α β:Type}:List α->(List α->β)->β
 |[],k=>k []
 |x::l,k=>I8 l λl=>k (x::l)
theorem Jp{α β:Type}:∀(l:List α) (k:List α->β),I8 l k=k l
 |[],_=>rfl
 |x::l,k=>Jp l λl=>k (x::l)
abbrev RO{α:Type}(d:Nat):Frame->(Frame->α)->α
 |[],k=>k []
 |(q,u)::r,k=>match AJ q d with
  |true=>k r
  |false=>RO d r λr=>k ((q,u)::r)
theorem Yek{α:Type}(d:Nat):∀(ρ:Frame) (k:Frame->α),RO d ρ k=k (vr d ρ)
 |[],_=>rfl
 |(q,u)::r,k=>by
  simp only[RO,vr];cases AJ q d
  ·simp only[];rw[Yek d r]
  ·rfl
abbrev qU:Frame->Nat->(I->β)->β
 |[],_,k=>k .aP
 |(q,v)::r,n,k=>match AJ q n with
  |true=>k v
  |false=>qU r n k
theorem Dm(n:Nat)(k:I->β):∀b,qU b n k=k (bM b n)
 |[]=>rfl
 |(q,v)::r=>by
  simp only[qU,bM];cases AJ q n
  ·exact Dm n k r
  ·rfl
abbrev Lc(ρ:Frame):td->(I->β)->β
 |.t n,k=>qU ρ n k
 |.c v,k=>k v
theorem Pn(ρ:Frame)(x:td)(k:I->β):Lc ρ x k=k (ev ρ x):=by
 cases x
 ·exact Dm ..
 ·rfl
abbrev pP(ρ:Frame):List td->(List I->β)->β
 |[],k=>k []
 |x::r,k=>Lc ρ x λv=>pP ρ r λb=>k (v::b)
theorem T8(ρ:Frame):∀(l:List td) (k:List I->β),pP ρ l k=k (l.map (ev ρ))
 |[],_=>rfl
 |x::r,k=>by simp[Pn,T8]
abbrev lu(d:Option Nat)(v:I)(ρ:Frame)(k:Frame->β):β:=match d with
 |some d=>RO d ρ λr=>k ((d,v)::r)
 |none=>k ρ
theorem YdE(d:Option Nat)(v:I)(ρ:Frame)(k:Frame->β):lu d v ρ k=k (cB d v ρ):=by
 cases d
 ·rfl
 ·simp only[lu,Yek];rfl
abbrev qq(ρ:Frame):List Nat->(List I->β)->β
 |[],k=>k []
 |s::r,k=>qU ρ s λv=>qq ρ r λb=>k (v::b)
theorem TQ(ρ:Frame):∀(l:List Nat) (k:List I->β),qq ρ l k=k (iD ρ l)
 |[],_=>rfl
 |x::r,k=>by simp only[qq,Dm,TQ ρ r];rfl
abbrev qo(l:List Nat):Frame->(Frame->β)->β
 |[],k=>k []
 |(q,v)::r,k=>match ub q l with
  |true=>qo l r k
  |false=>qo l r λr=>k ((q,v)::r)
theorem U6(l:List Nat):∀(ρ:Frame) (k:Frame->β),qo l ρ k=k (dt l ρ)
 |[],_=>rfl
 |(q,v)::r,k=>by
  simp only[qo,dt];cases ub q l<;>simp only[U6 l r]
abbrev yN:List Nat->List I->Frame->(Frame->β)->β
 |[],_,b,k=>k b
 |s::f,d,b,k=>yN f (jM d) b λr=>k ((s,tm d)::r)
theorem Ve:∀(l:List Nat) (vs:List I) (ρ:Frame) (k:Frame->β),yN l vs ρ k=k (mh l vs ρ)
 |[],_,_,_=>rfl
 |s::b,vs,ρ,k=>by simp only[yN,Ve b];rfl
def qC(A:aI α):=A.call
def qD(A:aI α):=A.dT
def qT(A:aI α):=A.test
def qL(A:aI α):=A.loop
def qS(A:aI α):=A.stop
def DD(A:aI α)(o:aV)(ρ:Frame)(J:List U)(K:Frame->List U->α):α:=
 match o.guard with
 |none=>match fj o.k with
  |.mv=>match o.xs with
   |[x]=>Lc ρ x λv=>lu o.dst v ρ λρ=>K ρ J
   |_=>qS A
  |.pu | .rd=>pP ρ o.xs λb=>A.rd (eU o.k b J) λv=>lu o.dst v ρ λρ=>K ρ J
  |.wr=>pP ρ o.xs λb=>A.wr (eU o.k b J) J λv J=>lu o.dst v ρ λρ=>K ρ J
  |.call=>pP ρ o.xs λb=>qC A o.k b J λv J=>lu o.dst v ρ λρ=>K ρ J
 |some (s,w)=>pP ρ o.xs λb=>qU ρ s λc=>match fj o.k with
  |.mv | .pu | .rd=>A.gr c w (λk=>A.rd (eU o.k b J) k) λv=>lu o.dst v ρ λρ=>K ρ J
  |.wr=>A.gw c w (λk=>A.wr (eU o.k b J) J k) J λv J=>lu o.dst v ρ λρ=>K ρ J
  |.call=>A.gw c w (λk=>qC A o.k b J k) J λv J=>lu o.dst v ρ λρ=>K ρ J
theorem Yet(A:aI α)(o:aV)(ρ:Frame)(J:List U)(K:Frame->List U->α):DD A o ρ J K=xr A o ρ J K:=by
 unfold DD xr;simp only[Pn,T8,Dm,YdE];rfl
def oM(A:aI α):List aV->Frame->List U->(Frame->List U->α)->α
 |[],b,J,K=>K b J
 |o::r,b,J,K=>DD A o b J λb J=>oM A r b J K
theorem J_(A:aI α):∀(l:List aV) (ρ:Frame) (J:List U) (K:Frame->List U->α),oM A l ρ J K=jx A l ρ J K
 |[],_,_,_=>rfl
 |o::r,ρ,J,K=>by simp only[oM,jx,Yet,J_ A r]
def xp(A:aI α)(o:aV)(ρ:Frame)(J:List U)(lg:Log)(K:Frame->List U->Log->α):α:=
 match o.guard with
 |none=>match fj o.k with
  |.mv=>match o.xs with
   |[x]=>Lc ρ x λv=>lu o.dst v ρ λρ=>K ρ J (lg++[([],[])])
   |_=>qS A
  |.pu=>pP ρ o.xs λb=>A.pu (eU o.k b J) λv=>lu o.dst v ρ λρ=>K ρ J (lg++[([],[])])
  |.rd | .wr=>pP ρ o.xs λb=>A.dr (eU o.k b J) J λv l J=>lu o.dst v ρ λρ=>K ρ J (lg++[l])
  |.call=>pP ρ o.xs λb=>qD A o.k b J λv l J=>lu o.dst v ρ λρ=>K ρ J (lg++[l])
 |some (s,w)=>pP ρ o.xs λb=>qU ρ s λc=>match fj o.k with
  |.mv | .pu=>A.gr c w (λk=>A.pu (eU o.k b J) k) λv=>lu o.dst v ρ λρ=>K ρ J (lg++[([],[])])
  |.rd | .wr=>A.gl c w (λk=>A.dr (eU o.k b J) J k) J λv l J=>lu o.dst v ρ λρ=>K ρ J (lg++[l])
  |.call=>A.gl c w (λk=>qD A o.k b J k) J λv l J=>lu o.dst v ρ λρ=>K ρ J (lg++[l])
theorem ZdX(A:aI α)(o:aV)(ρ:Frame)(J:List U)(lg:Log)(K:Frame->List U->Log->α):xp A o ρ J lg K=sg A o ρ J lg K:=by
 unfold xp sg;simp only[Pn,T8,Dm,YdE];rfl
def JI(A:aI α):List aV->Frame->List U->Log->(Frame->List U->Log->α)->α
 |[],d,J,b,K=>K d J b
 |o::r,d,J,b,K=>xp A o d J b λd J b=>I8 b λb=>JI A r d J b K
theorem Uu(A:aI α):∀(l:List aV) (ρ:Frame) (J:List U) (lg:Log) (K:Frame->List U->Log->α),JI A l ρ J lg K=Dv A l ρ J lg K
 |[],_,_,_,_=>rfl
 |o::r,ρ,J,lg,K=>by simp only[JI,Dv,ZdX,Uu A r,Jp]
def oN(A:aI α)(hd:List (List Nat)):Nat->wF->Frame->List U->(Frame->List U->α)->α
 |_,[],b,J,K=>K b J
 |lo,(d,true)::r,b,J,K=>oM A d b J λb J=>oN A hd (lo+d.length) r b J K
 |lo,(d,false)::r,b,J,K=>match l_ d with
  |true=>oM A d b J λb J=>oN A hd (lo+d.length) r b J K
  |false=>JI A d b J [] λb J f=>A.gd (Qg (o7 hd lo d.length) f) (oN A hd (lo+d.length) r b J K)
theorem TO(A:aI α)(hd:List (List Nat)):∀(b:Nat) (l:wF) (ρ:Frame) (J:List U) (K:Frame->List U->α),oN A hd b l ρ J K=lD A hd b l ρ J K
 |_,[],_,_,_=>rfl
 |b,(d,true)::r,ρ,J,K=>by simp only[oN,lD,J_,TO A hd _ r]
 |b,(d,false)::r,ρ,J,K=>by simp only[oN,lD,J_,Uu,TO A hd _ r]<;>cases l_ d<;>rfl
def dm(A:aI α):bL->Frame->List U->(Frame->List U->α)->(Nat->Frame->List U->α)->(Frame->List U->α)->α
 |.skip,d,J,K,_,_=>K d J
 |.label _,d,J,K,_,_=>K d J
 |.region _ ms none,d,J,K,_,_=>oM A ms d J K
 |.region _ ms (some hd),d,J,K,_,_=>match l_ ms with
  |true=>oM A ms d J K
  |false=>JI A ms d J [] λd J j=>A.gd (Qg hd j) (K d J)
 |.iG _ o hd,d,J,K,_,_=>oN A hd 0 o d J K
 |.seq a b,d,J,K,E,R=>dm A a d J (λd J=>dm A b d J K E R) E R
 |.cond c a b,d,J,K,E,R=>Lc d c λc=>qT A c (dm A a d J K E R) (dm A b d J K E R)
 |.join lv a,d,J,K,E,R=>c8 (λk=>dm A a d J (λρ' J=>qq ρ' lv λf=>k f J) E R) (λf J=>I8 a.kY λl=>qo l d λr=>yN lv f r λr=>K r J)
 | .block id a,d,J,K,E,R=>dm A a d J K (λi d J=>match AJ i id with
  |true=>K d J
  | false=>E i d J) R
 |.loop lv a,d,J,_,E,R=>qq d lv λf=>qL A (λagain f J=>I8 a.kY λl=>qo l d λr=>yN lv f r λr=>dm A a r J (λρ' J=>qq ρ' lv λf=>again f J) E R) f J
 |.exit id,d,J,_,E,_=>E id d J
 |.scope a,d,J,K,E,R=>dm A a d J K E R
 |.ret,d,J,_,_,R=>R d J
theorem zz(A:aI α):∀(D:bL) (ρ:Frame) (J:List U) (K:Frame->List U->α) (E:Nat->Frame->List U->α) (R:Frame->List U->α),dm A D ρ J K E R=dn A D ρ J K E R
 |.skip,_,_,_,_,_=>rfl
 |.label _,_,_,_,_,_=>rfl
 |.region _ ms none,ρ,J,K,E,R=>by simp only[dm,dn,J_]
 |.region _ ms (some hd),ρ,J,K,E,R=>by simp only[dm,dn,J_,Uu]<;>cases l_ ms<;>rfl
 |.iG _ d hd,ρ,J,K,E,R=>by simp only[dm,dn,TO]
 |.seq a b,ρ,J,K,E,R=>by simp only[dm,dn,zz A a,zz A b]
 |.cond c a b,ρ,J,K,E,R=>by simp only[dm,dn,qT,zz A a,zz A b,Pn]
 |.join lv a,ρ,J,K,E,R=>by simp only[dm,dn,zz A a,TQ,Jp,U6,Ve]
 |.block id a,ρ,J,K,E,R=>by simp only[dm,dn,zz A a]<;>rfl
 |.loop lv a,ρ,J,K,E,R=>by simp only[dm,dn,qL,zz A a,TQ,Jp,U6,Ve]
 |.exit id,_,_,_,_,_=>rfl
 |.scope a,ρ,J,K,E,R=>by simp only[dm,dn,zz A a]
 |.ret,_,_,_,_,_=>rfl
def Dk(A:aI α):List RV->Frame->List U->(List I->α)->α
 |[],_,_,K=>K []
 |.t n::r,b,J,K=>qU b n λv=>Dk A r b J λd=>K (v::d)
 |.c s agg n::r,b,J,K=>qU b s λx=>A.opt (fz agg n x J) λv=>Dk A r b J λd=>K (v::d)
theorem S8(A:aI α):∀(l:List RV) (ρ:Frame) (J:List U) (K:List I->α),Dk A l ρ J K=zI A l ρ J K
 |[],_,_,_=>rfl
 |.t n::r,ρ,J,K=>by simp only[Dk,zI,Dm,S8 A r]
 |.c s agg n::r,ρ,J,K=>by simp only[Dk,zI,Dm,S8 A r]
def mE(A:aI α)(o:Option wC)(xs:List I)(J:List U)(ret:I->List U->α):α:=match o with
 |some D=>I8 (eH xs) λb=>dm A D.body b J (λb J=>Dk A D.gI b J λd=>ret (qy d) J) (λ_ _ _=>qS A) (λb J=>Dk A D.gI b J λd=>ret (qy d) J)
 |none=>qS A
theorem Zet(A:aI α)(D:wC)(xs:List I)(J:List U)(ret:I->List U->α):mE A (some D) xs J ret=xq A D xs J ret:=by
 simp[mE,xq,qS,Jp,zz,S8]
end
theorem zK(n:Nat)(h:n<2 ^ 8):UInt8.ofBitVec (BitVec.ofFin ⟨n,h⟩)=UInt8.ofNat n:=by
 apply UInt8.toNat_inj.1;simp;exact(Nat.mod_eq_of_lt h).symm
section
variable {P:Program} {GL:aw} {f:FuncId} {l:List (Option (List Nat))}
theorem zR{np:Nat}{g:gM}(h:(eD P GL np f l).isSome=true)(hg:∀ {b:Type} (A:aI b) (xs:List I) (J:List U) (ret:I->List U->b),xs.length=np->mE A (eD P GL np f l) xs J ret=g A xs J ret):my P GL f np g:=by
 cases d:eD P GL np f l with
 |none=>rw[d]at h;cases h
 |some D=>
  refine QeV d (λb A xs J ret i=>?_);simp_all [Zet]
end
structure H0 (P:Program) (GL:aw) (f:FuncId) (l:List (Option (List Nat))):Type 1 where
 g:∀ {α:Type},aI α->List U->(I->List U->α)->α
 h:∀ {α:Type} (A:aI α) J ret,mE A (eD P GL 0 f l) [] J ret=g A J ret:=by intros;conv=>lhs;reduce;simp only[Int.reduceOfNat,Int.reduceNegSucc,zK,UInt8.reduceOfNat,qC,qD,qT,qL,qS]
 k:(eD P GL 0 f l).isSome=true:=by kernel_rfl
abbrev H0.u{P:Program}{GL:aw}{f:FuncId}{l:List (Option (List Nat))}(q:H0 P GL f l):gM:=λA xs J r=>match xs with
 |[]=>q.g A J r
 |_=>A.stop
theorem H0.ok{P:Program}{GL:aw}{f:FuncId}{l:List (Option (List Nat))}(q:H0 P GL f l):my P GL f 0 q.u:=zR q.k λA xs J ret b=>by
 match xs,b with
 |[],_=>exact q.h A J ret
structure H1 (P:Program) (GL:aw) (f:FuncId) (l:List (Option (List Nat))):Type 1 where
 g:∀ {α:Type},aI α->I->List U->(I->List U->α)->α
 h:∀ {α:Type} (A:aI α) x J ret,mE A (eD P GL 1 f l) [x] J ret=g A x J ret:=by intros;conv=>lhs;reduce;simp only[Int.reduceOfNat,Int.reduceNegSucc,zK,UInt8.reduceOfNat,qC,qD,qT,qL,qS]
 k:(eD P GL 1 f l).isSome=true:=by kernel_rfl
abbrev H1.u{P:Program}{GL:aw}{f:FuncId}{l:List (Option (List Nat))}(q:H1 P GL f l):gM:=λA xs J r=>match xs with
 |[x]=>q.g A x J r
 |_=>A.stop
theorem H1.ok{P:Program}{GL:aw}{f:FuncId}{l:List (Option (List Nat))}(q:H1 P GL f l):my P GL f 1 q.u:=zR q.k λA xs J ret b=>by
 match xs,b with
 |[x],_=>exact q.h A x J ret
structure H2 (P:Program) (GL:aw) (f:FuncId) (l:List (Option (List Nat))):Type 1 where
 g:∀ {α:Type},aI α->I->I->List U->(I->List U->α)->α
 h:∀ {α:Type} (A:aI α) x y J ret,mE A (eD P GL 2 f l) [x,y] J ret=g A x y J ret:=by intros;conv=>lhs;reduce;simp only[Int.reduceOfNat,Int.reduceNegSucc,zK,UInt8.reduceOfNat,qC,qD,qT,qL,qS]
 k:(eD P GL 2 f l).isSome=true:=by kernel_rfl
abbrev H2.u{P:Program}{GL:aw}{f:FuncId}{l:List (Option (List Nat))}(q:H2 P GL f l):gM:=λA xs J r=>match xs with
 |[x,y]=>q.g A x y J r
 |_=>A.stop
theorem H2.ok{P:Program}{GL:aw}{f:FuncId}{l:List (Option (List Nat))}(q:H2 P GL f l):my P GL f 2 q.u:=zR q.k λA xs J ret b=>by
 match xs,b with
 |[x,y],_=>exact q.h A x y J ret
structure H3 (P:Program) (GL:aw) (f:FuncId) (l:List (Option (List Nat))):Type 1 where
 g:∀ {α:Type},aI α->I->I->I->List U->(I->List U->α)->α
 h:∀ {α:Type} (A:aI α) x y z J ret,mE A (eD P GL 3 f l) [x,y,z] J ret=g A x y z J ret:=by intros;conv=>lhs;reduce;simp only[Int.reduceOfNat,Int.reduceNegSucc,zK,UInt8.reduceOfNat,qC,qD,qT,qL,qS]
 k:(eD P GL 3 f l).isSome=true:=by kernel_rfl
abbrev H3.u{P:Program}{GL:aw}{f:FuncId}{l:List (Option (List Nat))}(q:H3 P GL f l):gM:=λA xs J r=>match xs with
 |[x,y,z]=>q.g A x y z J r
 |_=>A.stop
theorem H3.ok{P:Program}{GL:aw}{f:FuncId}{l:List (Option (List Nat))}(q:H3 P GL f l):my P GL f 3 q.u:=zR q.k λA xs J ret b=>by
 match xs,b with
 |[x,y,z],_=>exact q.h A x y z J ret
structure H4 (P:Program) (GL:aw) (f:FuncId) (l:List (Option (List Nat))):Type 1 where
 g:∀ {α:Type},aI α->I->I->I->I->List U->(I->List U->α)->α
 h:∀ {α:Type} (A:aI α) x y z u J ret,mE A (eD P GL 4 f l) [x,y,z,u] J ret=g A x y z u J ret:=by intros;conv=>lhs;reduce;simp only[Int.reduceOfNat,Int.reduceNegSucc,zK,UInt8.reduceOfNat,qC,qD,qT,qL,qS]
 k:(eD P GL 4 f l).isSome=true:=by kernel_rfl
abbrev H4.u{P:Program}{GL:aw}{f:FuncId}{l:List (Option (List Nat))}(q:H4 P GL f l):gM:=λA xs J r=>match xs with
 |[x,y,z,u]=>q.g A x y z u J r
 |_=>A.stop
theorem H4.ok{P:Program}{GL:aw}{f:FuncId}{l:List (Option (List Nat))}(q:H4 P GL f l):my P GL f 4 q.u:=zR q.k λA xs J ret b=>by
 match xs,b with
 |[x,y,z,u],_=>exact q.h A x y z u J ret
structure H5 (P:Program) (GL:aw) (f:FuncId) (l:List (Option (List Nat))):Type 1 where
 g:∀ {α:Type},aI α->I->I->I->I->I->List U->(I->List U->α)->α
 h:∀ {α:Type} (A:aI α) x y z u v J ret,mE A (eD P GL 5 f l) [x,y,z,u,v] J ret=g A x y z u v J ret:=by intros;conv=>lhs;reduce;simp only[Int.reduceOfNat,Int.reduceNegSucc,zK,UInt8.reduceOfNat,qC,qD,qT,qL,qS]
 k:(eD P GL 5 f l).isSome=true:=by kernel_rfl
abbrev H5.u{P:Program}{GL:aw}{f:FuncId}{l:List (Option (List Nat))}(q:H5 P GL f l):gM:=λA xs J r=>match xs with
 |[x,y,z,u,v]=>q.g A x y z u v J r
 |_=>A.stop
theorem H5.ok{P:Program}{GL:aw}{f:FuncId}{l:List (Option (List Nat))}(q:H5 P GL f l):my P GL f 5 q.u:=zR q.k λA xs J ret b=>by
 match xs,b with
 |[x,y,z,u,v],_=>exact q.h A x y z u v J ret
structure H6 (P:Program) (GL:aw) (f:FuncId) (l:List (Option (List Nat))):Type 1 where
 g:∀ {α:Type},aI α->I->I->I->I->I->I->List U->(I->List U->α)->α
 h:∀ {α:Type} (A:aI α) x y z u v w J ret,mE A (eD P GL 6 f l) [x,y,z,u,v,w] J ret=g A x y z u v w J ret:=by intros;conv=>lhs;reduce;simp only[Int.reduceOfNat,Int.reduceNegSucc,zK,UInt8.reduceOfNat,qC,qD,qT,qL,qS]
 k:(eD P GL 6 f l).isSome=true:=by kernel_rfl
abbrev H6.u{P:Program}{GL:aw}{f:FuncId}{l:List (Option (List Nat))}(q:H6 P GL f l):gM:=λA xs J r=>match xs with
 |[x,y,z,u,v,w]=>q.g A x y z u v w J r
 |_=>A.stop
theorem H6.ok{P:Program}{GL:aw}{f:FuncId}{l:List (Option (List Nat))}(q:H6 P GL f l):my P GL f 6 q.u:=zR q.k λA xs J ret b=>by
 match xs,b with
 |[x,y,z,u,v,w],_=>exact q.h A x y z u v w J ret
structure H7 (P:Program) (GL:aw) (f:FuncId) (l:List (Option (List Nat))):Type 1 where
 g:∀ {α:Type},aI α->I->I->I->I->I->I->I->List U->(I->List U->α)->α
 h:∀ {α:Type} (A:aI α) x y z u v w t J ret,mE A (eD P GL 7 f l) [x,y,z,u,v,w,t] J ret=g A x y z u v w t J ret:=by intros;conv=>lhs;reduce;simp only[Int.reduceOfNat,Int.reduceNegSucc,zK,UInt8.reduceOfNat,qC,qD,qT,qL,qS]
 k:(eD P GL 7 f l).isSome=true:=by kernel_rfl
abbrev H7.u{P:Program}{GL:aw}{f:FuncId}{l:List (Option (List Nat))}(q:H7 P GL f l):gM:=λA xs J r=>match xs with
 |[x,y,z,u,v,w,t]=>q.g A x y z u v w t J r
 |_=>A.stop
theorem H7.ok{P:Program}{GL:aw}{f:FuncId}{l:List (Option (List Nat))}(q:H7 P GL f l):my P GL f 7 q.u:=zR q.k λA xs J ret b=>by
 match xs,b with
 |[x,y,z,u,v,w,t],_=>exact q.h A x y z u v w t J ret
structure H8 (P:Program) (GL:aw) (f:FuncId) (l:List (Option (List Nat))):Type 1 where
 g:∀ {α:Type},aI α->I->I->I->I->I->I->I->I->List U->(I->List U->α)->α
 h:∀ {α:Type} (A:aI α) x y z u v w t s J ret,mE A (eD P GL 8 f l) [x,y,z,u,v,w,t,s] J ret=g A x y z u v w t s J ret:=by intros;conv=>lhs;reduce;simp only[Int.reduceOfNat,Int.reduceNegSucc,zK,UInt8.reduceOfNat,qC,qD,qT,qL,qS]
 k:(eD P GL 8 f l).isSome=true:=by kernel_rfl
abbrev H8.u{P:Program}{GL:aw}{f:FuncId}{l:List (Option (List Nat))}(q:H8 P GL f l):gM:=λA xs J r=>match xs with
 |[x,y,z,u,v,w,t,s]=>q.g A x y z u v w t s J r
 |_=>A.stop
theorem H8.ok{P:Program}{GL:aw}{f:FuncId}{l:List (Option (List Nat))}(q:H8 P GL f l):my P GL f 8 q.u:=zR q.k λA xs J ret b=>by
 match xs,b with
 |[x,y,z,u,v,w,t,s],_=>exact q.h A x y z u v w t s J ret
end Go.Ah
end
section
namespace Go.Ah
variable{α:Type}
variable{l:List (Option (List Nat))}
variable{f:FuncId}
variable{GL:aw}
variable{P:Program}
theorem H0.e(q:H0 P GL f l)(A:aI α)(J:List U)(r:I->List U->α):q.u A [] J r=q.g A  J r:=rfl
theorem H1.e(q:H1 P GL f l)(A:aI α)(b:I)(J:List U)(r:I->List U->α):q.u A [b] J r=q.g A b J r:=rfl
theorem H2.e(q:H2 P GL f l)(A:aI α)(b d:I)(J:List U)(r:I->List U->α):q.u A [b,d] J r=q.g A b d J r:=rfl
theorem H3.e(q:H3 P GL f l)(A:aI α)(b d i:I)(J:List U)(r:I->List U->α):q.u A [b,d,i] J r=q.g A b d i J r:=rfl
theorem H4.e(q:H4 P GL f l)(A:aI α)(b d i j:I)(J:List U)(r:I->List U->α):q.u A [b,d,i,j] J r=q.g A b d i j J r:=rfl
theorem H5.e(q:H5 P GL f l)(A:aI α)(b d i j o:I)(J:List U)(r:I->List U->α):q.u A [b,d,i,j,o] J r=q.g A b d i j o J r:=rfl
theorem H6.e(q:H6 P GL f l)(A:aI α)(b d i j o p:I)(J:List U)(r:I->List U->α):q.u A [b,d,i,j,o,p] J r=q.g A b d i j o p J r:=rfl
theorem H7.e(q:H7 P GL f l)(A:aI α)(b d i j o p s:I)(J:List U)(r:I->List U->α):q.u A [b,d,i,j,o,p,s] J r=q.g A b d i j o p s J r:=rfl
theorem H8.e(q:H8 P GL f l)(A:aI α)(b d i j o p s w:I)(J:List U)(r:I->List U->α):q.u A [b,d,i,j,o,p,s,w] J r=q.g A b d i j o p s w J r:=rfl
theorem bD{xs:List I}{n:Nat}{g:gM}{v:I}(h:dh P GL f xs v)(hg:my P GL f n g){J:List U}{K:I->List U->Prop}(b:K v J)(km:fV xs=true:=by rfl):(W P GL).call (.call f) xs J K:=Qm h rfl hg.plain km b
theorem YX{xs:List I}{n:Nat}{g:gM}{v:I}(h:dh P GL f xs v)(hg:my P GL f n g){J:List U}{K:I->List Nat×List Nat->List U->Prop}(b:K v ([],[]) J)(km:fV xs=true:=by rfl):(W P GL).dT (.call f) xs J K:=Yo h rfl hg.plain km b
end Go.Ah
end
section
namespace Go.Ah.Tz
@[reducible] def O(n:Int):I:=.int .i64 n
@[reducible] def aS(n:Int):I:=.int .i8 n
def aK(n:Int):List I:=[O n]
@[reducible] def aM(l:List Int):I:=.aX false false 1 (l.map aK)
structure Th where
 id:Int
 card:Int
 harm:Int
 e_:Bool
 deriving DecidableEq,Inhabited
def br(t:Th):List I:=[O t.id,O t.card,O t.harm,.bool t.e_]
@[reducible] def ly(l:List Th):I:=.aX false false 4 (l.map br)
structure Sd where
 aY:Int
 aW:Int
 most:Int
 az:List Int
 hand:List Int
 ao:List Int
 af:List Th
 told:List Int
 deriving DecidableEq,Inhabited
@[reducible] def vP(s:Sd):List I:=[O s.aY,O s.aW,O s.most,aM s.az,aM s.hand,aM s.ao,ly s.af,aM s.told]
structure St where
 turn:Int
 mover:Int
 phase:Int
 bq:Bool
 result:Int
 an:List Int
 next:Int
 s0:Sd
 s1:Sd
 deriving DecidableEq,Inhabited
@[reducible] def aH(s:St):List I:=[O s.turn,O s.mover,aS s.phase,.bool s.bq,aS s.result,aM s.an,O s.next,
 O s.s0.aY,O s.s0.aW,O s.s0.most,aM s.s0.az,aM s.s0.hand,aM s.s0.ao,ly s.s0.af,aM s.s0.told,
 O s.s1.aY,O s.s1.aW,O s.s1.most,aM s.s1.az,aM s.s1.hand,aM s.s1.ao,ly s.s1.af,aM s.s1.told]
@[reducible] def bN(s:St):I:=.agg (aH s)
theorem Zd{n:Nat}(h:(n:Int)<4611686018427387904):AF.wrap ((n:Int)+1)=((n+1:Nat):Int):=by
 rw[Bb _ (by omega)];simp
variable{α:Type}
theorem Yv(l:List α)(i:Nat)(h:i<l.length):l.take (i+1)=l.take i++[l[i]]:=by
 rw[Cq h]
theorem Z6{β:Type}(f:α->β)(l:List α)(i:Nat)(h:i<l.length):(l.take i).map f++[f l[i]]=(l.take (i+1)).map f:=by
 rw[Yv l i h,A8];rfl
open Go.Proofs.Tryz (prog)
set_option maxRecDepth 100000
set_option maxHeartbeats 4000000
attribute [local irreducible] aI.rd aI.pu aI.wr aI.dr aI.gr aI.gw aI.gl aI.gd aI.opt c8 tm jM fz Qg qC qD qT qL qS Yh Z4 Zi YR Xf Yu TF XD Kb Xk ZB QK QO ZL YH XE YC XC Xh Zt ZQ Qn wS XJ Yq YQ Il SO HJ Zk Oy Qc Ra Qo Pv JB Yn ZW SG XQ H9 Jh ZN XF mi Yi US UX Ul qH
abbrev GQ(f:FuncId)(n:Nat)(g:gM):Prop:=my prog aQ f n g
abbrev PC(f:FuncId)(xs:List I)(v:I):Prop:=dh prog aQ f xs v
noncomputable abbrev VV:aI Prop:=W prog aQ
def g3:H4 prog aQ 3 [some [999],none,none,none,none]:={g:=_}
def g8:H2 prog aQ 8 [none]:={g:=_}
def g62:H3 prog aQ 62 [some [999],none,none,none,some [],none,none,none,none,some [94],none,none]:={g:=_}
def g7:H2 prog aQ 7 [none,none,some [5],none,none,none]:={g:=_}
def g41:H4 prog aQ 41 [none]:={g:=_}
def g78:H5 prog aQ 78 []:={g:=_}
def g52:H2 prog aQ 52 [none,some [7],none,none,none,some [8],none,none,none]:={g:=_}
def g25:H3 prog aQ 25 [none,none,none,none,none,some [7],none,none,none,none,some [11],none,none,none]:={g:=_}
def g151:H5 prog aQ 151 []:={g:=_}
def g96:H3 prog aQ 96 [none,none,some [23,9],none,some [9],none]:={g:=_}
def g95:H2 prog aQ 95 [none,none,some [22,6],none,none,none,some [34,6],none,some [6],none]:={g:=_}
def g117:H4 prog aQ 117 [none,some [11,10],none]:={g:=_}
def g16:H3 prog aQ 16 [none,none,none]:={g:=_}
def g66:H1 prog aQ 66 [none,none,none]:={g:=_}
def g48:H3 prog aQ 48 [none,none,none,some [42,10],none,none,none]:={g:=_}
def g49:H3 prog aQ 49 [none,none,none,some [46],none,none,none,some [52],none,none,none,some [78],none,some [],none,none,some [116],none,none,none]:={g:=_}
def g4:H3 prog aQ 4 []:={g:=_}
def g44:H5 prog aQ 44 [some [999],some [],none,none,none]:={g:=_}
def g23:H2 prog aQ 23 [none,none,some [5],none,none,none]:={g:=_}
def g63:H4 prog aQ 63 [some [999],none,none,some [46],none,none,none,none,some [17],some [],none,none,some [18],none,none,none,some [97],none,some [],none,none,none,none,some [29],none,none,none]:={g:=_}
def g34:H3 prog aQ 34 [some [999],none,none,none,some [65],none,none,none,none,some [96,15],none,some [15],none,none]:={g:=_}
def g71:H3 prog aQ 71 [some [999],none]:={g:=_}
def g5:H0 prog aQ 5 [some [999]]:={g:=_}
def g13:H3 prog aQ 13 [some [999],none,none,some [25],none,none,none,none,none,some [49,12],none,none,none]:={g:=_}
def g12:H3 prog aQ 12 [some [999],some [],none,some [11],none,none]:={g:=_}
def g6:H3 prog aQ 6 [some [999],none,none]:={g:=_}
def g10:H1 prog aQ 10 [none,some [4,3],none,none]:={g:=_}
def g75:H3 prog aQ 75 [none,none]:={g:=_}
def g35:H2 prog aQ 35 [none]:={g:=_}
def g68:H2 prog aQ 68 [none]:={g:=_}
def g91:H1 prog aQ 91 []:={g:=_}
def g92:H2 prog aQ 92 []:={g:=_}
def g17:H1 prog aQ 17 [none,some [9],none,none]:={g:=_}
def l153{α:Type}(A:aI α)(d x1:I)(J:List U)(ret:I->List U->α):α:=
 A.rd (Yn [d] J) λaa3=>
 A.rd (Yn [x1] J) λaa7=>
 A.rd (Qn .neq false [aa3,aa7] J) λf=>
 A.test f (
 ret (.bool false) J) (
 A.loop (λag3 b J=>
 A.rd (Yn [d] J) λi=>
 A.rd (Qn .lss false [(h0 b),i] J) λj=>
 A.test j (
 A.rd (Zi 4 [d,(h0 b)] J) λo=>
 A.rd (Xf true 4 [o] J) λp=>
 A.rd (Zi 4 [x1,(h0 b)] J) λr=>
 A.rd (Xf true 4 [r] J) λs=>
 A.rd (HJ true [false,false,false,true] [p,s] J) λw=>
 A.test w (
 ret (.bool false) J) (
 A.rd (Qn .add false [(h0 b),(.int .i64 1)] J) λx=>
 ag3 [x] J)) (
 ret (.bool true) J)) [(.int .i64 0)] J)
theorem ZeC(A:aI α)(b x1:I)(J:List U)(ret:I->List U->α):mE A (eD prog aQ 2 24 [none,none,some [5],none,none,none]) [b,x1] J ret=l153 A b x1 J ret:=by kernel_rfl
def g24:H2 prog aQ 24 [none,none,some [5],none,none,none]:=⟨l153,ZeC,by kernel_rfl⟩
def g124:H7 prog aQ 124 [none,some [4,18],none,none,none,some []]:={g:=_}
def g125:H1 prog aQ 125 []:={g:=_}
def g126:H4 prog aQ 126 [none]:={g:=_}
def g50:H1 prog aQ 50 [none,none,none,some [5],none,none,none]:={g:=_}
def g51:H2 prog aQ 51 [none,some [6,5],none,none,none,none,none,some [8,5],none,none,none,none,some [10],none,none,none]:={g:=_}
def g190:H1 prog aQ 190 []:={g:=_}
def g191:H4 prog aQ 191 [none]:={g:=_}
def g73:H2 prog aQ 73 [none,some [9],none,none,none]:={g:=_}
def g144:H3 prog aQ 144 [none]:={g:=_}
def g145:H2 prog aQ 145 [none,none,some [6,5],none,some [5],none]:={g:=_}
def g146:H2 prog aQ 146 []:={g:=_}
def g123:H3 prog aQ 123 [none,some [20,6,7],none,some [6,7],none]:={g:=_}
def g231:H1 prog aQ 231 [none,some [4,3],none,none]:={g:=_}
def g211:H2 prog aQ 211 [some [5],none,none,some [6],none,none,none,none,none,none]:={g:=_}
def g116:H4 prog aQ 116 [none,some [11,10],none]:={g:=_}
def g192:H3 prog aQ 192 [none,some [],none,none,none,none,none,none]:={g:=_}
def g158:H3 prog aQ 158 [some [],none]:={g:=_}
def g36:H3 prog aQ 36 [none,some [7],none,none,none,none,some [31],none]:={g:=_}
def g118:H1 prog aQ 118 []:={g:=_}
def g14:H0 prog aQ 14 []:={g:=_}
def g72:H1 prog aQ 72 []:={g:=_}
def g30:H1 prog aQ 30 [none]:={g:=_}
def g74:H2 prog aQ 74 [none,some [14,5,6],none,none,none]:={g:=_}
def g76:H7 prog aQ 76 []:={g:=_}
def g77:H6 prog aQ 77 [none]:={g:=_}
def g79:H2 prog aQ 79 [none]:={g:=_}
def g80:H2 prog aQ 80 []:={g:=_}
def g81:H4 prog aQ 81 []:={g:=_}
def g9:H1 prog aQ 9 [none,some [4,3],none,none,none,some [6,3],none,none]:={g:=_}
def g11:H1 prog aQ 11 [none,some [4,3],none,none]:={g:=_}
def g69:H2 prog aQ 69 [some [999],none,none,some [7],none,none]:={g:=_}
def g70:H2 prog aQ 70 [some [999],none,some [33,4],none,some [4],none,some [8],none,some [11],none,none]:={g:=_}
def g88:H2 prog aQ 88 []:={g:=_}
def g61:H2 prog aQ 61 [some [999],some [],none]:={g:=_}
def g93:H2 prog aQ 93 [some [999]]:={g:=_}
def g94:H6 prog aQ 94 [some [999],none]:={g:=_}
def g97:H1 prog aQ 97 [some [999],none,none,none,none]:={g:=_}
def g98:H1 prog aQ 98 [some [999],none]:={g:=_}
def g15:H0 prog aQ 15 [some [999]]:={g:=_}
def g31:H1 prog aQ 31 [none,some [10],none,none,none]:={g:=_}
def g32:H2 prog aQ 32 []:={g:=_}
def g33:H2 prog aQ 33 [some [999]]:={g:=_}
def g28:H2 prog aQ 28 [some [999]]:={g:=_}
def g29:H2 prog aQ 29 [some [999]]:={g:=_}
def g18:H1 prog aQ 18 [some [999],none,some [46],none,none,none]:={g:=_}
def g19:H1 prog aQ 19 [some [999]]:={g:=_}
def g20:H1 prog aQ 20 [some [999],none]:={g:=_}
def g21:H1 prog aQ 21 [some [999],none,none,none]:={g:=_}
def g22:H1 prog aQ 22 [some [999],none]:={g:=_}
def g163:H1 prog aQ 163 []:={g:=_}
def g64:H3 prog aQ 64 [none,some [14],none,none,none,none,none,none,none,none,none,none,none,none,none,some [89],none,none,none,none,none,some [116],none,none,none]:={g:=_}
def g37:H1 prog aQ 37 [none]:={g:=_}
def g82:H1 prog aQ 82 [none,none,some [3],none,none,none,some [4],none,none,none,none]:={g:=_}
def g83:H1 prog aQ 83 [none,some [3],none,none,none]:={g:=_}
def g84:H2 prog aQ 84 [none,some [6],none,none,none,none]:={g:=_}
def g85:H1 prog aQ 85 []:={g:=_}
def g86:H3 prog aQ 86 [none,none,some [7],none,none,none]:={g:=_}
def g120:H2 prog aQ 120 [none,some [8],none,none,none]:={g:=_}
def g121:H2 prog aQ 121 []:={g:=_}
def g60:H2 prog aQ 60 [none,some [8],none,none,none]:={g:=_}
def g213:H1 prog aQ 213 []:={g:=_}
def g132:H1 prog aQ 132 []:={g:=_}
def g194:H2 prog aQ 194 [none,some [13],none,some [],none]:={g:=_}
def g65:H1 prog aQ 65 [none]:={g:=_}
def g67:H0 prog aQ 67 []:={g:=_}
def g210:H1 prog aQ 210 []:={g:=_}
def g119:H1 prog aQ 119 [none,none,some [3],none,none,none,none,some [5,3],none,some [3],none]:={g:=_}
def g122:H2 prog aQ 122 []:={g:=_}
def g127:H2 prog aQ 127 [none,some [8],none,none,none]:={g:=_}
def g26:H1 prog aQ 26 [none,some [4,3],none,none]:={g:=_}
def g27:H1 prog aQ 27 [none,some [4,3],none,none,none,some [5,3],none,none]:={g:=_}
def g105:H1 prog aQ 105 [some [999],none]:={g:=_}
def g55:H1 prog aQ 55 [none,none,some [18],none,some [],none,none,some [40],none,none,none,none,none]:={g:=_}
def g106:H2 prog aQ 106 [some [999]]:={g:=_}
def g107:H2 prog aQ 107 [some [999]]:={g:=_}
def g108:H1 prog aQ 108 [some [999]]:={g:=_}
def l297{α:Type}(A:aI α)(b x1 x2:I)(J:List U)(ret:I->List U->α):α:=
 A.wr (wS [x1] J) J λi J=>
 A.rd (Yi [b] J) λw=>
 A.rd (Qc 29 [w] J) λx=>
 A.wr (Xh 1 [x,(.func (.func 78) [] [])] J) J λ_ J=>
 A.rd (Qc 0 [i] J) λy=>
 A.rd (Xf false 1 [y] J) λz=>
 A.rd (Qn .eql false [z,(.int .i8 1)] J) λB=>
 c8 (λj=>
 A.test B (
 A.rd (Yi [b] J) λC=>
 A.rd (Qc 29 [C] J) λD=>
 A.wr (Xh 1 [D,(.func (.func 151) [] [])] J) J λ_ J=>
 j [] J) (
 j [] J)) (λv7 J=>
 A.rd (Qc 1 [i] J) λE=>
 A.rd (Xf false 1 [E] J) λF=>
 A.call (.call 152) [b,F] J λG J=>
 A.rd (TY [280,281] [G] J) λo=>
 A.rd (Zk 0 [o] J) λH=>
 A.rd (Zk 1 [o] J) λK=>
 A.rd (qH .not [K] J) λd=>
 A.gr d false (λk=>A.rd (mi [x2] J) k) λL=>
 A.gr d false (λk=>A.rd (Qn .lss false [L,(.int .i64 0)] J) k) λN=>
 A.rd (Xk [d,(.bool true),N] J) λP=>
 A.test P (
 ret (.int .i64 0) J) (
 A.call (.invoke "baize/effect.harm" [(280,282),(281,283)]) [H,b,x2] J λf J=>
 A.rd (Zk 0 [f] J) λQ=>
 A.rd (Zk 1 [f] J) λR=>
 A.rd (Zk 2 [f] J) λp=>
 A.wr (Zt [(.int .i64 0),(.int .i64 0),(.int .i8 0),(.bool false),(.int .i8 0),.aq,(.int .i64 0),(.int .i64 0),(.int .i64 0),(.int .i64 0),.aq,.aq,.aq,.aq,.aq,(.int .i64 0),(.int .i64 0),(.int .i64 0),.aq,.aq,.aq,.aq,.aq] [] J) J λr J=>
 A.wr (Zt [(.int .i8 0),(.int .i64 0),(.int .i64 0),(.int .i64 0),(.int .i64 0),(.int .i64 0),.aq] [] J) J λs J=>
 A.wr (Xh 23 [r,Q] J) J λ_ J=>
 A.wr (Xh 7 [s,R] J) J λ_ J=>
 A.rd (Qn .neq false [p,(.int .i64 0)] J) λS=>
 A.test S (
 ret p J) (
 A.rd (Xf true 23 [r] J) λT=>
 A.rd (Yi [b] J) λV=>
 A.rd (Qc 2 [V] J) λX=>
 A.wr (Xh 23 [X,T] J) J λ_ J=>
 A.rd (Xf true 7 [s] J) λY=>
 A.call (.call 153) [b,Y] J λaaY J=>
 ret (.int .i64 0) J)))
theorem YeC(A:aI α)(b x1 x2:I)(J:List U)(ret:I->List U->α):mE A (eD prog aQ 3 109 [some [],none,none]) [b,x1,x2] J ret=l297 A b x1 x2 J ret:=by kernel_rfl
def g109:H3 prog aQ 109 [some [],none,none]:=⟨l297,YeC,by kernel_rfl⟩
def g110:H3 prog aQ 110 [some [999],none,some [23],none,none,none]:={g:=_}
def g111:H3 prog aQ 111 [some [999],none,none,none]:={g:=_}
def g112:H3 prog aQ 112 [some [999],none]:={g:=_}
def g113:H3 prog aQ 113 [some [999],none]:={g:=_}
def g114:H3 prog aQ 114 [some [999]]:={g:=_}
def g115:H3 prog aQ 115 [some [999],none]:={g:=_}
def g164:H3 prog aQ 164 [none,none,some [7],none,some [],none,none,none,none,none,none,some [9],some [9],none]:={g:=_}
def g206:H1 prog aQ 206 [none,some [4,3],none,some [3],some [3],none]:={g:=_}
def g134:H2 prog aQ 134 []:={g:=_}
def g135:H2 prog aQ 135 []:={g:=_}
def g136:H2 prog aQ 136 []:={g:=_}
def g137:H2 prog aQ 137 []:={g:=_}
def g138:H2 prog aQ 138 []:={g:=_}
def g139:H3 prog aQ 139 [some [5]]:={g:=_}
def g54:H1 prog aQ 54 []:={g:=_}
def g56:H1 prog aQ 56 []:={g:=_}
def g57:H1 prog aQ 57 [none,some [9],none,none,none]:={g:=_}
def g58:H1 prog aQ 58 []:={g:=_}
def g59:H1 prog aQ 59 [none,some [18],none,none,none,some [69,6],none,none,none,some [75,6],none,none,none]:={g:=_}
def g53:H2 prog aQ 53 [some [999],none]:={g:=_}
def g38:H4 prog aQ 38 [some [999],some []]:={g:=_}
def g39:H3 prog aQ 39 [some [999],none]:={g:=_}
def g40:H3 prog aQ 40 [some [999],none,none]:={g:=_}
def g42:H4 prog aQ 42 [some [999],none]:={g:=_}
def g43:H2 prog aQ 43 [some [999],none]:={g:=_}
def g45:H2 prog aQ 45 [some [999]]:={g:=_}
def g46:H1 prog aQ 46 [some [999],none]:={g:=_}
def g47:H1 prog aQ 47 [some [999]]:={g:=_}
def g99:H4 prog aQ 99 [none,none,some [85],none,none,none,none,some [106],none,none,none]:={g:=_}
def g128:H2 prog aQ 128 [none,none,none]:={g:=_}
def g129:H2 prog aQ 129 [none,some [5],none,some [],none,none,none,none,none,some [52],none,none,none,none,none]:={g:=_}
def g130:H1 prog aQ 130 []:={g:=_}
def g131:H2 prog aQ 131 [none,some [5],none,none,none,some [8,7],none,none,none]:={g:=_}
def g172:H2 prog aQ 172 [none,some [20],none,none,none,some [25],none,none,none]:={g:=_}
def g173:H2 prog aQ 173 []:={g:=_}
def g133:H3 prog aQ 133 [none,none,some [19],none,none,some [9],some [46],none,some [70],none,none,some [82],none,none,none,none]:={g:=_}
def g100:H1 prog aQ 100 [none,none,none]:={g:=_}
def g101:H1 prog aQ 101 [none,some [16],none,none,none]:={g:=_}
def g102:H1 prog aQ 102 [none,some [18],none,none,none]:={g:=_}
def g103:H1 prog aQ 103 []:={g:=_}
def g104:H1 prog aQ 104 []:={g:=_}
def g161:H2 prog aQ 161 [none,some [8],none,none,none]:={g:=_}
def g87:H2 prog aQ 87 [none,some [33],none,none,none,none,some [43],none,none,none,none]:={g:=_}
def g149:H2 prog aQ 149 [none,some [8],none,none,none]:={g:=_}
def g150:H1 prog aQ 150 [some [999]]:={g:=_}
def g152:H2 prog aQ 152 [some [999],none,none,none]:={g:=_}
def g153:H2 prog aQ 153 [some [999]]:={g:=_}
def g154:H2 prog aQ 154 [some [999],none]:={g:=_}
def g155:H1 prog aQ 155 [some [999]]:={g:=_}
def g156:H3 prog aQ 156 [some [999],none,some [11],none,none]:={g:=_}
def g90:H2 prog aQ 90 []:={g:=_}
def g207:H1 prog aQ 207 []:={g:=_}
def g208:H2 prog aQ 208 [some [5],some [6],some [6],none,none,some [7],none,none,none,none,some [8],none,none,none,none]:={g:=_}
def g209:H1 prog aQ 209 []:={g:=_}
def g212:H3 prog aQ 212 [none,some [7],none,none,none]:={g:=_}
def g232:H1 prog aQ 232 [none,some [4,3],none,none,none,some [5,3],none,none]:={g:=_}
def g171:H2 prog aQ 171 [none,some [6],none,none,none]:={g:=_}
def g179:H2 prog aQ 179 []:={g:=_}
def g180:H1 prog aQ 180 [none,none,none,none,some [22,3],none,none]:={g:=_}
def g181:H1 prog aQ 181 [none]:={g:=_}
def g182:H2 prog aQ 182 []:={g:=_}
def g183:H1 prog aQ 183 [none,none,none,none,none,some [20,3],none,none,none,some [32,3],none,none]:={g:=_}
def g184:H2 prog aQ 184 [none,some [8],none,none,none]:={g:=_}
def g89:H1 prog aQ 89 []:={g:=_}
def g147:H2 prog aQ 147 []:={g:=_}
def g162:H1 prog aQ 162 []:={g:=_}
def g165:H2 prog aQ 165 []:={g:=_}
def g166:H2 prog aQ 166 [some [0],some [1],none,none,none]:={g:=_}
def g167:H1 prog aQ 167 [some [3],none,none,some [4,3],none,none]:={g:=_}
def g168:H1 prog aQ 168 [none,none,none,none,none,some [4,3],none,none,none,some [5,3],none,none]:={g:=_}
def g169:H2 prog aQ 169 [some [1,6],some [1,6],none,none,none]:={g:=_}
def g170:H1 prog aQ 170 [none,some [4],none,none,none]:={g:=_}
def g214:H2 prog aQ 214 [some [7,8,9],none,none,none,none,some [10,8],none,none,none,none]:={g:=_}
def g215:H1 prog aQ 215 []:={g:=_}
def g216:H1 prog aQ 216 []:={g:=_}
def g218:H2 prog aQ 218 [none,some [5],none,some [5],none,none,some [66,5],none,none,none,some [71,5],none,none,none,none,some [93,5],none,none,none,none,some [118,5],none,none,none,some [140,5],none,none,none,some [158],none,none,none]:={g:=_}
def g174:H1 prog aQ 174 []:={g:=_}
def g175:H1 prog aQ 175 [none,some [4],none,none,none,none]:={g:=_}
def g176:H2 prog aQ 176 [some [6,7,5],none,some [37],none,none,none,some [47],none,none,some [59],none,none,none,none,none,none,some [85],none,none,none]:={g:=_}
def g177:H1 prog aQ 177 []:={g:=_}
def g178:H2 prog aQ 178 [some [7,5,6],some [26],none,none,none,some [32],none,none,none,none,some [82],none,none,none,none,some [100],none,none,none]:={g:=_}
def g148:H1 prog aQ 148 []:={g:=_}
def g189:H2 prog aQ 189 [some [999],none,none,some [6],none]:={g:=_}
def g142:H2 prog aQ 142 [none]:={g:=_}
def g143:H2 prog aQ 143 []:={g:=_}
def g219:H0 prog aQ 219 []:={g:=_}
def g140:H1 prog aQ 140 [none,some [3],none,none,none]:={g:=_}
def g141:H1 prog aQ 141 []:={g:=_}
def g217:H0 prog aQ 217 []:={g:=_}
def g188:H2 prog aQ 188 [some [],some []]:={g:=_}
def g221:H1 prog aQ 221 [some [999],none]:={g:=_}
def g185:H1 prog aQ 185 [none,some [3],none,some [16],none]:={g:=_}
def g186:H1 prog aQ 186 []:={g:=_}
def g187:H0 prog aQ 187 [none,some [7],none,none]:={g:=_}
def g220:H1 prog aQ 220 [none,some [6,5,3,4],none,none,none,none,some [12],none,none,none,some [12,10,11],none,none,none,none,some [12],none,none,none]:={g:=_}
def g233:H2 prog aQ 233 [some [999],none,some [6,5],none,none,none,none,none,some [5],none,some [49],none,none]:={g:=_}
def g234:H1 prog aQ 234 [some [999],none,none,some [7],none,none,none,none,none,none,none]:={g:=_}
def g240:H2 prog aQ 240 [some [999],none,none]:={g:=_}
def g243:H2 prog aQ 243 [some [999],none,none,some [20],none,none,none,none,none,some [7,8],none,none,none,none]:={g:=_}
def g244:H2 prog aQ 244 [some [999],none,none,some [16],none,none,none,none,none,some [7,8],none,none,none,none]:={g:=_}
def g261:H2 prog aQ 261 [none]:={g:=_}
def g262:H1 prog aQ 262 []:={g:=_}
def g263:H1 prog aQ 263 []:={g:=_}
def g264:H0 prog aQ 264 []:={g:=_}
def g265:H1 prog aQ 265 []:={g:=_}
def g266:H2 prog aQ 266 []:={g:=_}
def g267:H2 prog aQ 267 [none]:={g:=_}
def g268:H2 prog aQ 268 []:={g:=_}
def g269:H2 prog aQ 269 []:={g:=_}
def g270:H2 prog aQ 270 []:={g:=_}
def g271:H2 prog aQ 271 []:={g:=_}
def g272:H2 prog aQ 272 [none]:={g:=_}
def g273:H2 prog aQ 273 []:={g:=_}
def g274:H2 prog aQ 274 []:={g:=_}
def g275:H2 prog aQ 275 []:={g:=_}
def g276:H2 prog aQ 276 []:={g:=_}
def g277:H2 prog aQ 277 []:={g:=_}
def g278:H2 prog aQ 278 []:={g:=_}
def g279:H2 prog aQ 279 [none,some [17],none,none,none,some [40],none,none,none,none,none,none,none,none,none,none,some [121],none,none,none]:={g:=_}
def g282:H3 prog aQ 282 [some [999]]:={g:=_}
def g283:H3 prog aQ 283 [some [999]]:={g:=_}
end Go.Ah.Tz
end
section
namespace Go.Ah.Tz
open Go.Proofs.Tryz (prog)
theorem hP:prog.follows .mixedOrders=true:=by kernel_rfl
theorem c62(a b:List Int)(ha:a.length<4611686018427387904):PC 23 [aM a,aM b] (.bool (decide (a=b))):=by
 refine Xa hP g23.ok rfl rfl ?_;simp only[g23,H2.u,Qe,Ic,QM,HR,Be];refine⟨λh=>?_,λh=>?_⟩
 ·simp at h ⊢;rintro rfl;exact h rfl
 have p:a.length=b.length:=by simp at h;omega
 refine Zh (ι:=Nat) (λi f s=>f=[O i]/\i<=a.length/\a.take i=b.take i) (λi=>a.length-i) 0 ⟨rfl,by omega,by simp⟩ ?_;rintro i f s again ⟨rfl,w,d⟩ j;simp only[Ic,h0,tm,Xy,HR];refine⟨λh=>?_,λh=>?_⟩
 ·have h:i<a.length:=by simpa using h
  simp[Zm _ aK _ _ _ a _ i h,Zm _ aK _ _ _ b _ i (by omega),aK,Zd (n:=i) (by omega)];refine⟨λo e=>?_,λhe=>?_⟩
  ·subst e;exact o rfl
  ·refine j (i+1) _ _ (by omega) ⟨rfl,by omega,?_⟩;rw[Cq h,Cq (by omega),d,he]
 ·have h:¬i<a.length:=by simpa using h
  rw[DN (by omega),DN (by omega)]at d;simp[d]
def gN(n:Nat)(rows:List (List I))(k:Nat)(v:I)(J:List U):Prop:=
 (k=0/\v=.aq/\rows=[])\/(0<k/\∃b,v=.sl b 0 k false/\ai J b=.rows n rows/\rows.length=k)
theorem gN.nil(n:Nat)(J:List U):gN n [] 0 .aq J:=.inl ⟨rfl,rfl,rfl⟩
variable{α:Type}
theorem ZaX{f:α->List I}{l:List α}{m:Nat->Option Nat}(h:∀x,(f x).map (I.cy m)=f x):(l.map f).map (λr=>r.map (I.cy m))=l.map f:=by
 rw[List.map_map];apply List.map_congr_left;intro x _;exact h x
theorem Zeq(m:Nat->Option Nat)(x:Int):(aK x).map (I.cy m)=aK x:=rfl
theorem XeI(m:Nat->Option Nat)(x:Th):(br x).map (I.cy m)=br x:=rfl
theorem c63(a b:List Th)(ha:a.length<4611686018427387904):PC 24 [ly a,ly b] (.bool (decide (a=b))):=by
 refine Xa hP g24.ok rfl rfl ?_;simp only[g24,H2.u,Qe,Ic,QM,HR,Be];refine⟨λh=>?_,λh=>?_⟩
 ·simp at h ⊢;rintro rfl;exact h rfl
 have p:a.length=b.length:=by simp at h;omega
 refine Zh (ι:=Nat) (λi f s=>f=[O i]/\i<=a.length/\a.take i=b.take i) (λi=>a.length-i) 0 ⟨rfl,by omega,by simp⟩ ?_;rintro i f s again ⟨rfl,w,d⟩ o;simp only[Ic,h0,tm,Xy,HR];refine⟨λh=>?_,λh=>?_⟩
 ·have h:i<a.length:=by simpa using h
  have hq:HJ true [false,false,false,true] [.agg (br a[i]),.agg (br b[i])] s=.ok (.bool (!decide (a[i]=b[i]))) [] []:=by
   have:(decide (a[i]=b[i]))=((a[i].id==b[i].id)&&((a[i].card==b[i].card)&&((a[i].harm==b[i].harm)&&((a[i].e_==b[i].e_)&&true)))):=by
    rw[C6];cases h1:a[i];cases h2:b[i];simp
   simp[HJ,Y1,Iv,br,this]
  simp only[Zm _ br _ _ _ a _ i h,Zm _ br _ _ _ b _ i (by omega),Ic,Us,aO,show ∀x,takeN 4 (jc 0 (br x))=some (br x) from λ_=>rfl,hq,HR,Qi,Zd (n:=i) (by omega)];refine⟨λj=>?_,λhe=>?_⟩
  ·simp at j ⊢;intro e;subst e;exact j rfl
  ·refine o (i+1) _ _ (by omega) ⟨rfl,by omega,?_⟩;rw[Cq h,Cq (by omega),d,show a[i]=b[i] by simpa using he]
 ·have h:¬i<a.length:=by simpa using h
  rw[DN (by omega),DN (by omega)]at d;simp[d]
variable{f:(n_)->Prop}
theorem wH{k:n_}(h:f k):c8 f k:=by unfold c8;exact h
variable{agg d:Bool}
variable{row:List I}
variable{v v1:I}
variable{b j k:Nat}
variable{J:List U}
theorem lx{n:Nat}(hb:ai J b=.box row)(hv:aO agg j n row=some v):Xf agg n [.ak b j] J=.ok v [b] []:=by
 rw[XcK,hb];simp only[hv]
theorem MZ{n:Nat}(hv:aO agg j n row=some v):Xf agg n [.al row j] J=.ok v [] []:=by
 rw[Us,hv]
structure On (P:Prop):Prop where
 get:P
theorem Aw{P:Prop}(h:P):On P:=⟨h⟩
variable{A B:Prop}
variable{GL:aw}
variable{P:Program}
theorem ZT{i n:Nat}(h1:i<n->A)(h2:i=n->B)(hi:i<=n:=by omega):(W P GL).test (.bool (decide ((i:Int)<(n:Int)))) A B:=
 Ya (λh=>h1 (by simpa using h)) (λh=>h2 (by simp at h;omega))
theorem ay(k:B)(h:B->A:=by intro k;(repeat (first|refine Z (vX ..) ?_|refine Z (YU ..) ?_|refine Z rfl ?_|refine Qd rfl rfl ?_|refine Zp rfl ?_|refine Xd rfl ?_|refine Ze rfl rfl ?_|refine Xg ?_|refine Yf ?_|refine Xb ?_|refine Yc rfl ?_|refine Xq ?_|refine Xu rfl ?_|refine Xo rfl ?_|refine wH ?_|refine YG rfl ?_|refine XS rfl ?_));exact k):A:=h k
theorem ae(k:B)(h:B->A:=by intro k;(repeat (first|refine Z (Xr ..) ?_|refine Z (QM ..) ?_|refine Z (vn ..) ?_|refine Z rfl ?_|refine Qd rfl rfl ?_|refine Zp rfl ?_|refine Xd rfl ?_|refine Ze rfl rfl ?_|refine Xg ?_|refine Yf ?_|refine Xb ?_|refine Yc rfl ?_|refine Xq ?_|refine Xu rfl ?_|refine Xo rfl ?_|refine wH ?_|refine YG rfl ?_|refine XS rfl ?_));exact k):A:=h k
theorem ax(k:B)(h:On B->A:=by intro k;(repeat (first|refine Z (vX ..) ?_|refine Z (YU ..) ?_|refine Z (Qi ..) ?_|refine Z (Xr ..) ?_|refine Z (QM ..) ?_|refine Z (Xy ..) ?_|refine Z (Y4 ..) ?_|refine Z rfl ?_|refine Z (lx (by assumption) (by rfl)) ?_|refine Z (MZ (by rfl)) ?_|refine Xd rfl ?_|refine Ze (lx (by assumption) (by rfl)) (Yd _) ?_|refine Ze rfl rfl ?_|refine Xg ?_|refine Yf ?_|refine Xb ?_|refine Yc rfl ?_|refine Xq ?_|refine Xu rfl ?_|refine Xo rfl ?_|refine wH ?_|refine YG rfl ?_|refine XS rfl ?_));exact k.get):A:=h (Aw k)
variable{K:I->Prop}
theorem oz{b w:Bool}{r:(I->Prop)->Prop}(h1:b=true->(W P GL).gr (.bool true) w r K)(h0:b=false->(W P GL).gr (.bool false) w r K):(W P GL).gr (.bool b) w r K:=by
 cases b
 ·exact h0 rfl
 ·exact h1 rfl
theorem qG{p:Prop}[Decidable p]{a b:Prop}(h1:p->a)(h0:¬p->b):(W P GL).test (.bool (decide p)) a b:=
 Ya (λh=>h1 (of_decide_eq_true h)) (λh=>h0 (of_decide_eq_false h))
theorem BA{p:Prop}[Decidable p]{w:Bool}{r:(I->Prop)->Prop}(h1:p->decide p=true->(W P GL).gr (.bool true) w r K)(h0:¬p->decide p=false->(W P GL).gr (.bool false) w r K):(W P GL).gr (.bool (decide p)) w r K:=
 by
 by_cases h:p
 ·rw[gA h];exact h1 h (gA h)
 ·rw[i7 h];exact h0 h (i7 h)
theorem ag(k:B)(h:On B->A:=by intro k;(repeat (first|refine Xg ?_|refine Yf ?_|refine Xb ?_|refine Yc rfl ?_|refine Xq ?_|refine Xu rfl ?_|refine YG rfl ?_|refine XS rfl ?_|refine Z (Qi ..) ?_|refine Z (Xr ..) ?_|refine Z (QM ..) ?_|refine Z (Xy ..) ?_|refine Z (Y4 ..) ?_|refine Z (vn ..) ?_|refine Z (by assumption) ?_|refine Z (lx (by assumption) (by assumption)) ?_|refine Z (MZ (by assumption)) ?_|refine Z (lx (by assumption) (by rfl)) ?_|refine Z (MZ (by rfl)) ?_|refine Z rfl ?_));exact k.get):A:=h (Aw k)
theorem Di(c:Nat)(x:U):ai (J.set c .dead++[x]) J.length=x:=by
 grind [Xc]
attribute [local irreducible] aI.rd aI.pu aI.wr aI.dr aI.gr aI.gw aI.gl aI.gd aI.opt c8 W
structure mX (n:Nat) (s:Sd):Prop where
 az:s.az.length<=n
 hand:s.hand.length<=n
 ao:s.ao.length<=n
 af:s.af.length<=n
 told:s.told.length<=n
structure ba (n:Nat) (s:St):Prop where
 an:s.an.length<=n
 s0:mX n s.s0
 s1:mX n s.s1
theorem rW{a b:Sd}:a=b↔a.aY=b.aY/\a.aW=b.aW/\a.most=b.most/\a.az=b.az/\a.hand=b.hand/\a.ao=b.ao/\a.told=b.told/\a.af=b.af:=by
 cases a;cases b<;>grind
theorem X6{a b:St}:a=b↔a.turn=b.turn/\a.mover=b.mover/\a.phase=b.phase/\a.bq=b.bq/\a.result=b.result/\a.next=b.next/\a.an=b.an/\a.s0=b.s0/\a.s1=b.s1:=by
 cases a;cases b<;>grind
set_option maxHeartbeats 1000000
set_option maxRecDepth 10000
theorem c20(a b:St)(ha:ba 1000000000 a):PC 7 [bN a,bN b] (.bool (decide (a=b))):=by
 refine Xa hP g7.ok rfl rfl ?_;rw[H2.e];unfold g7;dsimp only;refine ay ?_;rcases cE (a.turn != b.turn)with h0|h0
 ·rw[h0];refine ay ?_;simp at h0;simp[X6,h0]
 rw[h0];refine ay ?_;rcases cE (a.mover != b.mover)with h1|h1
 ·rw[h1];refine ay ?_;simp at h1;simp[X6,h1]
 rw[h1];refine ay ?_;rcases cE (a.phase != b.phase)with h2|h2
 ·rw[h2];refine ay ?_;simp at h2;simp[X6,h2]
 rw[h2];refine ay ?_;rcases cE (!(a.bq==b.bq))with h3|h3
 ·rw[h3];refine ay ?_;simp at h3;simp[X6,h3]
 rw[h3];refine ay ?_;rcases cE (a.result != b.result)with h4|h4
 ·rw[h4];refine ay ?_;simp at h4;simp[X6,h4]
 rw[h4];refine ay ?_;rcases cE (a.next != b.next)with h5|h5
 ·rw[h5];refine ay ?_;simp at h5;simp[X6,h5]
 rw[h5];refine ay ?_;refine bD (c62 _ _ (by have:=ha.an;omega)) g23.ok ?_;refine ay ?_;rcases cE (!decide (a.an=b.an))with h6|h6
 ·rw[h6];refine Xg ?_;simp at h6;simp[X6,h6]
 rw[h6];refine Yf ?_;have i:AF.wrap (0+1)=1:=by decide
 have o:AF.wrap (1+1)=2:=by decide
 refine ZM 3 (Yk ?_);refine ay ?_;rcases cE (a.s0.aY != b.s0.aY)with h7|h7
 ·rw[h7];refine ay ?_;simp at h7;simp[X6,rW,h7]
 rw[h7];refine ay ?_;rcases cE (a.s0.aW != b.s0.aW)with h8|h8
 ·rw[h8];refine ay ?_;simp at h8;simp[X6,rW,h8]
 rw[h8];refine ay ?_;rcases cE (a.s0.most != b.s0.most)with h9|h9
 ·rw[h9];refine ay ?_;simp at h9;simp[X6,rW,h9]
 rw[h9];refine ay ?_;refine bD (c62 _ _ (by have:=ha.s0.az;omega)) g23.ok ?_;refine ay ?_;rcases cE (!decide (a.s0.az=b.s0.az))with h10|h10
 ·rw[h10];refine ay ?_;simp at h10;simp[X6,rW,h10]
 rw[h10];refine ay ?_;refine bD (c62 _ _ (by have:=ha.s0.hand;omega)) g23.ok ?_;refine ay ?_;rcases cE (!decide (a.s0.hand=b.s0.hand))with h11|h11
 ·rw[h11];refine ay ?_;simp at h11;simp[X6,rW,h11]
 rw[h11];refine ay ?_;refine bD (c62 _ _ (by have:=ha.s0.ao;omega)) g23.ok ?_;refine ay ?_;rcases cE (!decide (a.s0.ao=b.s0.ao))with h12|h12
 ·rw[h12];refine ay ?_;simp at h12;simp[X6,rW,h12]
 rw[h12];refine ay ?_;refine bD (c62 _ _ (by have:=ha.s0.told;omega)) g23.ok ?_;refine ay ?_;rcases cE (!decide (a.s0.told=b.s0.told))with h13|h13
 ·rw[h13];refine ay ?_;simp at h13;simp[X6,rW,h13]
 rw[h13];refine ay ?_;refine bD (c63 _ _ (by have:=ha.s0.af;omega)) g24.ok ?_;refine ay ?_;rcases cE (!decide (a.s0.af=b.s0.af))with h14|h14
 ·rw[h14];refine ay ?_;simp at h14;simp[X6,rW,h14]
 rw[h14];repeat first|refine Xb ?_|refine Xq ?_|refine Z rfl ?_|refine Xd rfl ?_|refine Ze rfl rfl ?_|refine Qd rfl rfl ?_
 refine Yf (Z rfl ?_);rw[i];refine Yk (ay ?_);rcases cE (a.s1.aY != b.s1.aY)with h15|h15
 ·rw[h15];refine ay ?_;simp at h15;simp[X6,rW,h15]
 rw[h15];refine ay ?_;rcases cE (a.s1.aW != b.s1.aW)with h16|h16
 ·rw[h16];refine ay ?_;simp at h16;simp[X6,rW,h16]
 rw[h16];refine ay ?_;rcases cE (a.s1.most != b.s1.most)with h17|h17
 ·rw[h17];refine ay ?_;simp at h17;simp[X6,rW,h17]
 rw[h17];refine ay ?_;refine bD (c62 _ _ (by have:=ha.s1.az;omega)) g23.ok ?_;refine ay ?_;rcases cE (!decide (a.s1.az=b.s1.az))with h18|h18
 ·rw[h18];refine ay ?_;simp at h18;simp[X6,rW,h18]
 rw[h18];refine ay ?_;refine bD (c62 _ _ (by have:=ha.s1.hand;omega)) g23.ok ?_;refine ay ?_;rcases cE (!decide (a.s1.hand=b.s1.hand))with h19|h19
 ·rw[h19];refine ay ?_;simp at h19;simp[X6,rW,h19]
 rw[h19];refine ay ?_;refine bD (c62 _ _ (by have:=ha.s1.ao;omega)) g23.ok ?_;refine ay ?_;rcases cE (!decide (a.s1.ao=b.s1.ao))with h20|h20
 ·rw[h20];refine ay ?_;simp at h20;simp[X6,rW,h20]
 rw[h20];refine ay ?_;refine bD (c62 _ _ (by have:=ha.s1.told;omega)) g23.ok ?_;refine ay ?_;rcases cE (!decide (a.s1.told=b.s1.told))with h21|h21
 ·rw[h21];refine ay ?_;simp at h21;simp[X6,rW,h21]
 rw[h21];refine ay ?_;refine bD (c63 _ _ (by have:=ha.s1.af;omega)) g24.ok ?_;refine ay ?_;rcases cE (!decide (a.s1.af=b.s1.af))with h22|h22
 ·rw[h22];refine ay ?_;simp at h22;simp[X6,rW,h22]
 rw[h22];repeat first|refine Xb ?_|refine Xq ?_|refine Z rfl ?_|refine Xd rfl ?_|refine Ze rfl rfl ?_|refine Qd rfl rfl ?_
 refine Yf (Z rfl ?_);rw[o];refine Yk (Z rfl (Yf ?_));simp_all [X6,rW]
theorem Du(m:Nat->Option Nat)(l:List Int):(U.rows 1 (l.map aK)).dE (I.cy m)=.rows 1 (l.map aK):=by
 simp only[U.dE,ZaX (Zeq m)]
theorem Ro(m:Nat->Option Nat)(l:List Th):(U.rows 4 (l.map br)).dE (I.cy m)=.rows 4 (l.map br):=by
 simp only[U.dE,ZaX (XeI m)]
@[reducible] def CZ(s:Sd)(b:Nat):List I:=[O s.aY,O s.aW,O s.most,.sl b 0 s.az.length false,.sl (b+1) 0 s.hand.length false,.sl (b+2) 0 s.ao.length false,.sl (b+3) 0 s.af.length false,.sl (b+4) 0 s.told.length false]
@[reducible] def rU(s:Sd):List U:=[.rows 1 (s.az.map aK),.rows 1 (s.hand.map aK),.rows 1 (s.ao.map aK),.rows 4 (s.af.map br),.rows 1 (s.told.map aK)]
@[reducible] def jL(s:St)(b:Nat):List I:=[O s.turn,O s.mover,aS s.phase,.bool s.bq,aS s.result,.sl b 0 s.an.length false,O s.next]++CZ s.s0 (b+1)++CZ s.s1 (b+6)
@[reducible] def hJ(s:St):List U:=.rows 1 (s.an.map aK)::rU s.s0++rU s.s1
def gk(l:List Th)(id:Int):Option Nat:=l.findIdx? (λu=>decide (u.id=id))
theorem ZcO{l:List Th}{id:Int}{i:Nat}(h:i<l.length)(h2:l[i].id=id)(hb:∀j (o:j<l.length),j<i->l[j].id≠id):gk l id=some i:=by
 unfold gk;rw[List.findIdx?_eq_some_iff_getElem];exact⟨h,by simpa using h2,λj o=>by simpa using hb j (by omega) o⟩
theorem QcN{l:List Th}{id:Int}(hb:∀j (i:j<l.length),l[j].id≠id):gk l id=none:=by
 unfold gk;rw[List.findIdx?_eq_none_iff];intro x o;obtain⟨j,i,rfl⟩:=FA o;simpa using hb j i
def aC(s:St)(id:Int):Int×Int×Bool:=match gk s.s0.af id with
 |some k=>(0,k,true)
 |none=>match gk s.s1.af id with
  |some k=>(1,k,true)
  |none=>(0,0,false)
def kQ(s:St)(id:Int):I:=.bw [O (aC s id).1,O (aC s id).2.1,.bool (aC s id).2.2]
theorem c23(s:St)(hs:ba 1000000000 s)(id:Int):PC 52 [bN s,O id] (kQ s id):=by
 refine Xa hP g52.ok rfl rfl ?_;rw[H2.e];unfold g52;dsimp only;have x:AF.wrap (0+1)=1:=by decide
 have y:AF.wrap (1+1)=2:=by decide
 have u0:=hs.s0.af;have u1:=hs.s1.af;refine ay (ZM 3 (Yk ?_));refine Z rfl (Xg ?_);refine Zh (ι:=Nat) (λi p J=>p=[O i]/\J=[.box (aH s)]/\i<=s.s0.af.length/\∀j (o:j<s.s0.af.length),j<i->s.s0.af[j].id≠id) (λi=>s.s0.af.length-i) 0 ⟨rfl,rfl,by omega,λj _ h=>by omega⟩ ?_;rintro i p J again ⟨rfl,rfl,C,hb⟩ r;refine ay (Ya (λh=>?_) (λh=>?_))
 ·have h:i<s.s0.af.length:=by simpa using h
  refine ay (Z (Zm _ br _ _ _ _ _ i h) ?_);refine ay (Ya (λh2=>?_) (λh2=>?_))
  ·have h2:s.s0.af[i].id=id:=by simpa using h2
   have hf:gk s.s0.af id=some i:=ZcO h h2 hb;simp[kQ,aC,hf]
  ·have h2:s.s0.af[i].id≠id:=by simpa using h2
   refine Z rfl ?_;rw[Zd (n:=i) (by omega)];refine r (i+1) _ _ (by omega) ⟨rfl,rfl,by omega,λj o hji=>?_⟩;by_cases e:j=i
   ·subst e;exact h2
   ·exact hb j o (by omega)
 have h:¬i<s.s0.af.length:=by simpa using h
 have w:gk s.s0.af id=none:=QcN (λj o=>hb j o (by omega));refine Z rfl ?_;rw[x];refine Yk (Z rfl (Xg ?_));refine Zh (ι:=Nat) (λi p J=>p=[O i]/\J=[.box (aH s)]/\i<=s.s1.af.length/\∀j (o:j<s.s1.af.length),j<i->s.s1.af[j].id≠id) (λi=>s.s1.af.length-i) 0 ⟨rfl,rfl,by omega,λj _ h=>by omega⟩ ?_;rintro i p J again ⟨rfl,rfl,C,hb⟩ r;refine ay (Ya (λh=>?_) (λh=>?_))
 ·have h:i<s.s1.af.length:=by simpa using h
  refine ay (Z (Zm _ br _ _ _ _ _ i h) ?_);refine ay (Ya (λh2=>?_) (λh2=>?_))
  ·have h2:s.s1.af[i].id=id:=by simpa using h2
   have hf:gk s.s1.af id=some i:=ZcO h h2 hb;simp[kQ,aC,w,hf]
  ·have h2:s.s1.af[i].id≠id:=by simpa using h2
   refine Z rfl ?_;rw[Zd (n:=i) (by omega)];refine r (i+1) _ _ (by omega) ⟨rfl,rfl,by omega,λj o hji=>?_⟩;by_cases e:j=i
   ·subst e;exact h2
   ·exact hb j o (by omega)
 have h:¬i<s.s1.af.length:=by simpa using h
 have D:gk s.s1.af id=none:=QcN (λj o=>hb j o (by omega));refine Z rfl ?_;rw[y];refine Yk (Z rfl (Yf ?_));simp[kQ,aC,w,D]
abbrev Tx:=List UInt8
inductive Nm where
 |mk (op n who:Int) (kids:List Nm)
 deriving Inhabited
inductive Cn where
 |mk (op who:Int) (name:Tx) (aF:List Nm) (kids:List Cn)
 deriving Inhabited
inductive Ef where
 |mk (op who:Int) (n:Nm) (name:Tx) (c:Cn) (cL cV:List Ef)
 deriving Inhabited
def Nm.op:Nm->Int | .mk a _ _ _=>a
def Nm.n:Nm->Int | .mk _ a _ _=>a
def Nm.who:Nm->Int | .mk _ _ a _=>a
def Nm.kids:Nm->List Nm | .mk _ _ _ a=>a
def Cn.op:Cn->Int | .mk a _ _ _ _=>a
def Cn.who:Cn->Int | .mk _ a _ _ _=>a
def Cn.name:Cn->Tx | .mk _ _ a _ _=>a
def Cn.aF:Cn->List Nm | .mk _ _ _ a _=>a
def Cn.kids:Cn->List Cn | .mk _ _ _ _ a=>a
def Ef.op:Ef->Int | .mk a _ _ _ _ _ _=>a
def Ef.who:Ef->Int | .mk _ a _ _ _ _ _=>a
def Ef.n:Ef->Nm | .mk _ _ a _ _ _ _=>a
def Ef.name:Ef->Tx | .mk _ _ _ a _ _ _=>a
def Ef.c:Ef->Cn | .mk _ _ _ _ a _ _=>a
def Ef.cL:Ef->List Ef | .mk _ _ _ _ _ a _=>a
def Ef.cV:Ef->List Ef | .mk _ _ _ _ _ _ a=>a
mutual
def cK:Nm->List I
 |.mk op n who kids=>[aS op,O n,aS who,.aX false false 4 (AV kids)]
def AV:List Nm->List (List I)
 |[]=>[]
 |x::l=>cK x::AV l
end
theorem ZdB:∀l,AV l=l.map cK
 |[]=>rfl
 |x::l=>by simp[AV,ZdB l]
theorem YD(x:Nm):cK x=[aS x.op,O x.n,aS x.who,.aX false false 4 (x.kids.map cK)]:=by
 cases x;simp[cK,ZdB,Nm.op,Nm.n,Nm.who,Nm.kids]
mutual
def fA:Cn->List I
 |.mk op who name aF kids=>[aS op,aS who,.str name,.aX false false 4 (aF.map cK),.aX false false 5 (Aa kids)]
def Aa:List Cn->List (List I)
 |[]=>[]
 |x::l=>fA x::Aa l
end
theorem Xdk:∀l,Aa l=l.map fA
 |[]=>rfl
 |x::l=>by simp[Aa,Xdk l]
theorem QN(x:Cn):fA x=[aS x.op,aS x.who,.str x.name,.aX false false 4 (x.aF.map cK),.aX false false 5 (x.kids.map fA)]:=by
 cases x;simp[fA,Xdk,Cn.op,Cn.who,Cn.name,Cn.aF,Cn.kids]
mutual
def bC:Ef->List I
 |.mk op who n name c cL cV=>[aS op,aS who,aS n.op,O n.n,aS n.who,.aX false false 4 (n.kids.map cK),.str name,aS c.op,aS c.who,.str c.name,.aX false false 4 (c.aF.map cK),.aX false false 5 (c.kids.map fA),.aX false false 14 (xt cL),.aX false false 14 (xt cV)]
def xt:List Ef->List (List I)
 |[]=>[]
 |x::l=>bC x::xt l
end
theorem Yds:∀l,xt l=l.map bC
 |[]=>rfl
 |x::l=>by simp[xt,Yds l]
theorem Yz(x:Ef):bC x=[aS x.op,aS x.who,aS x.n.op,O x.n.n,aS x.n.who,.aX false false 4 (x.n.kids.map cK),.str x.name,aS x.c.op,aS x.c.who,.str x.c.name,.aX false false 4 (x.c.aF.map cK),.aX false false 5 (x.c.kids.map fA),.aX false false 14 (x.cL.map bC),.aX false false 14 (x.cV.map bC)]:=by
 cases x;simp[bC,Yds,Ef.op,Ef.who,Ef.n,Ef.name,Ef.c,Ef.cL,Ef.cV]
structure Cd where
 name:Tx
 unit:Bool
 cost:Int
 e8:Int
 cm:Int
 dZ:Int
 f_:Int
 fh:Int
 bp:List Ef
 dead:List Ef
 dw:List Ef
 pl:Int
 deriving Inhabited
@[reducible] def gE(l:List Ef):I:=.aX false false 14 (l.map bC)
def cM(c:Cd):List I:=[.str c.name,.bool c.unit,O c.cost,O c.e8,O c.cm,O c.dZ,O c.f_,O c.fh,gE c.bp,gE c.dead,gE c.dw,O c.pl]
def vR(t:Tx):List I:=[.str t]
@[reducible] def I9(l:List Tx):I:=.aX false false 1 (l.map vR)
structure Fo where
 name:Tx
 least:Int
 most:Int
 jJ:Int
 jk:List Tx
 single:List Tx
 pl:Int
 deriving Inhabited
def oR(f:Fo):List I:=[.str f.name,O f.least,O f.most,O f.jJ,I9 f.jk,I9 f.single,O f.pl]
structure Bk where
 aj:List Cd
 ar:List Fo
 deriving Inhabited
@[reducible] def iX(l:List Cd):I:=.aX false false 12 (l.map cM)
@[reducible] def oT(l:List Fo):I:=.aX false false 7 (l.map oR)
@[reducible] def dd(b:Bk):I:=.agg [iX b.aj,oT b.ar]
def i5(n:Int):Bool:=decide (-1000000<=n)&&decide (n<=1000000)
theorem c116(n:Int):PC 85 [O n] (.bool (i5 n)):=by
 refine Xa hP g85.ok rfl rfl ?_;rw[H1.e];unfold g85;dsimp only;refine Z rfl ?_;rcases cE (decide (n >= -1000000))with h|h
 ·rw[h];refine ay ?_;have i:-1000000<=n:=by simpa using h
  simp[i5,i]
 ·rw[h];refine ay ?_;have i:¬ -1000000<=n:=by simpa using h
  simp[i5,i]
theorem c57(n:Int):PC 91 [O n] (.bool (i5 n)):=by
 refine Xa hP g91.ok rfl rfl ?_;rw[H1.e];unfold g91;dsimp only;refine Z rfl ?_;rcases cE (decide (n >= -1000000))with h|h
 ·rw[h];refine ay ?_;have i:-1000000<=n:=by simpa using h
  simp[i5,i]
 ·rw[h];refine ay ?_;have i:¬ -1000000<=n:=by simpa using h
  simp[i5,i]
def Zn(n:Nat)(l:List Int)(most:Int):Bool:=decide ((l.length:Int)<=most)&&l.all λc=>decide (0<=c)&&decide (c<n)
theorem c117(b:Bk)(l:List Int)(most:Int)(hl:l.length<=1000000000):PC 86 [dd b,aM l,O most] (.bool (Zn b.aj.length l most)):=by
 refine Xa hP g86.ok rfl rfl ?_;rw[H3.e];unfold g86;dsimp only;refine ay (Ya (λh=>?_) (λh=>?_))
 ·have h:most<l.length:=by simpa using h
  have r:¬(l.length:Int)<=most:=by omega
  simp[Zn,r]
 have s:(l.length:Int)<=most:=by simpa using h
 refine Zh (ι:=Nat) (λi p J=>p=[O i]/\J=[.box [iX b.aj,oT b.ar]]/\i<=l.length/\∀j (o:j<l.length),j<i->0<=l[j]/\l[j]<b.aj.length) (λi=>l.length-i) 0 ⟨rfl,rfl,by omega,λj _ h=>by omega⟩ ?_;rintro i p J again ⟨rfl,rfl,D,hb⟩ w;refine ay (Ya (λh=>?_) (λh=>?_))
 ·have h:i<l.length:=by simpa using h
  refine Z (Zm _ aK _ _ _ l _ i h) (ay ?_);have bad:¬(0<=l[i]/\l[i]<b.aj.length)->I.bool false=I.bool (Zn b.aj.length l most):=by
   intro y;have:Zn b.aj.length l most=false:=by
    simp only[Zn,Bool.and_eq_false_iff];right;rw[List.all_eq_false];refine⟨l[i],AI h,?_⟩;simpa using y
   rw[this]
  rcases cE (decide (l[i]<0))with h2|h2
  ·rw[h2];refine ay (bad ?_);have:l[i]<0:=by simpa using h2
   omega
  rw[h2];refine ay ?_;refine Z (Zm _ aK _ _ _ l _ i h) ?_;refine ay ?_;have h2:¬l[i]<0:=by simpa using h2
  refine Ya (λh3=>?_) (λh3=>?_)
  ·refine bad ?_;have:(b.aj.length:Int)<=l[i]:=by simpa using h3
   omega
  ·have:¬(b.aj.length:Int)<=l[i]:=by simpa using h3
   refine Z rfl ?_;rw[Zd (n:=i) (by omega)];refine w (i+1) _ _ (by omega) ⟨rfl,rfl,by omega,λj o hji=>?_⟩;by_cases e:j=i
   ·subst e;omega
   ·exact hb j o (by omega)
 ·have h:¬i<l.length:=by simpa using h
  have:Zn b.aj.length l most=true:=by
   simp only[Zn,AA,fe,C1];refine⟨s,λx z=>?_⟩;obtain⟨j,o,rfl⟩:=FA z;exact hb j o (by omega)
  rw[this]
theorem ld{n:Nat}(hb:ai J b=.box row)(hv:aO agg j n row=some v):Xf agg n [.ak b j] J=.ok v [b] []:=by
 rw[XcK,hb];simp only[hv]
theorem cO{n:Nat}{x:I}{cs row':List I}(hb:ai J b=.box row)(hc:cellsOf x=some cs)(hn:AJ cs.length n=true)(hs:bW j cs row=some row'):Xh n [.ak b j,x] J=.ok .aP [] [(b,.box row')]:=by
 rw[Zds,hb];simp only[hc,hn,cond_true,hs]
theorem Zq{z:List I}{n:Nat}{x:I}{row':List I}{K:I->KT}(hc:cellsOf x=some row)(hn:AJ row.length n=true)(hs:bW 0 row z=some row')
 (i:K (.ak J.length 0) .aP (J++[.box row'])):(W P GL).wr (Zt z [] J) J (λt σ'=>(W P GL).wr (Xh n [t,x] σ') σ' (K t)):=by
 refine Qd (Xet J z) (Qf _ _) (Qd (cO (Xc _ _) hc hn hs) (Ye _ (by simp)) ?_);have:(J++[U.box z]).set J.length (.box row')=J++[.box row']:=by
  rw[List.set_append_right _ _ (AO _)];simp
 rw[this];exact i
def BX(J σ':List U):Prop:=∀c r,ai J c=.box r->ai σ' c=.box r
theorem BX.trans{a b c:List U}(h:BX a b)(k:BX b c):BX a c:=λx r e=>k x r (h x r e)
theorem BX.app(J l:List U):BX J (J++l):=λ_ _ h=>Zb l h
variable{rows:List (List I)}
theorem gN.more{n:Nat}(h:gN n rows k v J)(l:List U):gN n rows k v (J++l):=by
 rcases h with h|⟨h1,b,h2,h3,h4⟩
 ·exact .inl h
 ·exact .inr ⟨h1,b,h2,Zb l h3,h4⟩
theorem gN.len{n:Nat}(h:gN n rows k v J)(σ':List U):Yn [v] σ'=.ok (.int .i64 k) [] []:=by
 rcases h with ⟨rfl,rfl,_⟩|⟨_,b,rfl,_,_⟩<;>rfl
theorem gN.at{n:Nat}(h:gN n rows k v J)(q:IntKind)(j:Nat)(i:j<k) :
  ∃b,Zi n [v,.int q (j:Int)] J=.ok (.ptr b j 0) [b] []/\∃i:j<rows.length,∀agg m w,aO agg 0 m rows[j]=some w->Xf agg m [.ptr b j 0] J=.ok w [b] []:=by
 rcases h with ⟨rfl,rfl,_⟩|⟨_,b,rfl,hb,o⟩
 ·omega
 ·refine⟨b,?_,by omega,λagg m w hw=>?_⟩
  ·have:=Y9 J b 0 k false n rows q j i hb
   rwa [Al]at this
  ·show (match ai J b with
   |.rows _ rs=>match nth rs j with
    |some row=>match aO agg 0 m row with
     |some v=>aL.ok v [b] []
     |none=>.stop
    |none=>.stop
   | _=>.stop)=_
   rw[hb];simp only[Q4,Cv (show j<rows.length by omega),hw]
theorem gN.j9(A:aI α){hold:α->Prop}{n by_:Nat}(hg:gN n rows k v J)(hr:row.all I.cell=true)(o:(2*(k+1)+192)*by_<=2 ^ 48)(K:I->List U->α)
 (p:∀s σ',BX J σ'->gN n (rows++[row]) (k+1) s σ'->hold (K s σ')):hold (A.wr (Yh n by_ [v,.sl J.length 0 1 true] (J++[.rows n [row]])) (J++[.rows n [row]]) K):=by
 rcases hg with ⟨rfl,rfl,rfl⟩|⟨x,b,rfl,hb,w⟩
 ·rw[YcG A n by_ J row hr (by simpa using o)];exact p _ _ ((BX.app _ _).trans (BX.app _ _)) (.inr ⟨by omega,_,rfl,by have:=Xc (J++[.rows n [row]]) (.rows n [row]);simpa using this,rfl⟩)
 ·rw[OD A n by_ J b k false rows row hb w hr o];refine p _ _ (BX.trans (λc r i=>?_) ((BX.app (J.set b .dead) _).trans (BX.app _ _))) (.inr ⟨by omega,_,rfl,?_,by simp[w]⟩)
  ·refine Qa i (by simp) ?_;rintro rfl;rw[hb]at i;cases i
  ·have:=Xc (J.set b .dead++[.rows n [row]]) (.rows n (rows++[row]));simpa using this
theorem wM(J:List U)(f:α->List I)(e n:Bool)(s:Nat)(l:List α)(k:IntKind)(c:Int)(h0:0<=c)(h:c.toNat<l.length):Zi s [.aX e n s (l.map f),.int k c] J=.ok (.al (f l[c.toNat]) 0) [] []:=by
 obtain⟨m,rfl⟩:=Int.eq_ofNat_of_zero_le h0;exact Zm J f e n s l k m (by simpa using h)
def Qv(b:Bk)(next:Int)(u:Th):Bool:=decide (0<=u.card)&&(decide (u.card<b.aj.length)&&(((b.aj[u.card.toNat]?).map Cd.unit).getD false&&(decide (0<=u.harm)&&(decide (u.harm<=1000000)&&(decide (1<=u.id)&&decide (u.id<next))))))
def QA(b:Bk)(next:Int):List Int->List Th->Bool
 |_,[]=>true
 |ids,u::l=>Qv b next u&&(!(ids.contains u.id)&&QA b next (ids++[u.id]) l)
def Yx(n:Nat)(x:Sd):Bool:=i5 x.aY&&(decide (0<=x.aW)&&(i5 x.aW&&(decide (0<=x.most)&&(decide (x.most<=10)&&(Zn n x.az 60&&(Zn n x.hand 10&&(Zn n x.ao 1000000&&(Zn n x.told 1000000&&decide (x.af.length<=7)))))))))
def ZD(b:Bk)(s:St):Bool:=Yx b.aj.length s.s0&&(QA b s.next [] s.s0.af&&(Yx b.aj.length s.s1&&QA b s.next (s.s0.af.map Th.id) s.s1.af))
set_option maxHeartbeats 2000000
def J4(b:Bk)(s:St):Nat->Bool
 |0=>ZD b s
 |1=>Yx b.aj.length s.s1&&QA b s.next (s.s0.af.map Th.id) s.s1.af
 |_=>true
def pj(s:St):Nat->List Int
 |0=>[]
 |1=>s.s0.af.map Th.id
 |_=>s.s0.af.map Th.id++s.s1.af.map Th.id
theorem c68(b:Bk)(s:St)(hs:ba 1000000000 s):PC 51 [dd b,bN s] (.bool (ZD b s)):=by
 refine Xa hP g51.ok rfl rfl ?_;rw[H2.e];unfold g51;dsimp only;refine ay ?_;refine Zh (ι:=Nat) (λj y J=>∃v,y=[O j,v]/\j<=2/\gN 1 ((pj s j).map aK) (pj s j).length v J/\ai J 0=.box [iX b.aj,oT b.ar]/\ai J 1=.box (aH s)/\ZD b s=J4 b s j) (λj=>2-j) 0 ⟨_,rfl,by omega,gN.nil _ _,rfl,rfl,rfl⟩ ?_;rintro j y J Vy ⟨v,rfl,V,o,w,r,hr⟩ X;refine ag (qG (λG=>?_) (λG=>?_));rotate_left
 ·have:j=2:=by omega
  subst this;exact congrArg I.bool hr.symm
 have G:j=0\/j=1:=by omega
 obtain⟨d,hd,hp,hr,Y,uX⟩:∃d,mX 1000000000 d/\(∀J,Qo 2 8 [.ak 1 (0+7),O j] J=.ok (.ak 1 (7+8*j)) [] []/\aO true (7+8*j) 8 (aH s)=some (.agg (vP d)))/\ZD b s=((Yx b.aj.length d&&QA b s.next (pj s j) d.af)&&J4 b s (j+1))/\pj s (j+1)=pj s j++d.af.map Th.id/\(pj s j).length<=1000000000:=by
  rcases G with rfl|rfl
  ·exact⟨_,hs.s0,λ_=>⟨rfl,rfl⟩,by simp[ZD,J4,pj,FL],rfl,by simp[pj]⟩
  ·exact⟨_,hs.s1,λ_=>⟨rfl,rfl⟩,by rw[hr];simp[J4,pj],rfl,by simpa[pj]using hs.s0.af⟩
 generalize pj s j=C at *;refine Z rfl (Z (hp _).1 (Z (ld r (hp []).2) (Zq (row':=vP d) rfl rfl rfl ?_)));have x:=Xc J (.box (vP d))
 replace w:=Zb [.box (vP d)] w
 replace r:=Zb [.box (vP d)] r
 replace o:=o.more [.box (vP d)]
 generalize J.length=N at x ⊢;generalize J ++ [U.box (vP d)]=σ2 at w r x o ⊢;refine ag ?_;repeat' (first
  |refine bD (c116 _) g85.ok ?_
  |refine bD (c117 _ _ _ hd.az) g86.ok ?_
  |refine bD (c117 _ _ _ hd.hand) g86.ok ?_
  |refine bD (c117 _ _ _ hd.ao) g86.ok ?_
  |refine bD (c117 _ _ _ hd.told) g86.ok ?_
  |refine oz (λh=>?_) (λh=>?_)<;>(try rw[h])
  | refine Ya (λh=>?_) (λh=>?_)) <;> (refine ag ?_)
 all_goals first
  |grind [Yx]
  |skip
 have Q:Yx b.aj.length d=true:=by grind [Yx]
 have hul:d.af.length<=7:=by simp[Yx]at Q;omega
 rw[Q,Ax]at hr;refine Zh (ι:=Nat) (λi y J=>∃v,y=[O i,v]/\i<=d.af.length/\gN 1 ((C++(d.af.take i).map Th.id).map aK) (C.length+i) v J/\ai J 0=.box [iX b.aj,oT b.ar]/\ai J 1=.box (aH s)/\ai J N=.box (vP d)/\ZD b s=(QA b s.next (C++(d.af.take i).map Th.id) (d.af.drop i)&&J4 b s (j+1))) (λi=>d.af.length-i) 0 ⟨v,rfl,by omega,by simpa using o,w,r,x,by simpa using hr⟩ ?_;clear w r x o hr;rintro i y σ3 again ⟨v,rfl,hi,o,w,r,x,z⟩ bj;refine ag (qG (λh=>?_) (λh=>?_));rotate_left
 ·have h:i=d.af.length:=by simp at h;omega
  subst h;rw[C5]at o;rw[As,QA,Ax]at z;refine ag ?_;rw[Zd (n:=j) (by omega)];exact X (j+1) _ _ (by omega) ⟨v,rfl,by omega,by rw[Y];simpa using o,w,r,z⟩
 have h:i<d.af.length:=by simpa using h
 have D:=Yv _ _ h;have R:=λJ=>Zm J br false false 4 d.af .i64 i h;rw[gB h,QA]at z;generalize d.af[i]=u at z D R;refine ag (Z (R _) (Z rfl (Zq (row':=br u) rfl rfl rfl ?_)));have S:=Xc σ3 (.box (br u))
 replace w:=Zb [.box (br u)] w
 replace r:=Zb [.box (br u)] r
 replace x:=Zb [.box (br u)] x
 replace o:=o.more [.box (br u)]
 generalize σ3.length=N3 at S ⊢;generalize σ3 ++ [U.box (br u)]=σ4 at w r x S o ⊢;refine ag ?_;repeat' (first
  |(refine BA (λh e=>?_) (λh e=>?_)<;>(try rw[e]))
  |refine Z (wM _ cM _ _ _ _ _ _ (by omega) (by simp at *;omega)) ?_
  |refine oz (λh=>?_) (λh=>?_)<;>(try rw[h])
  | refine Ya (λh=>?_) (λh=>?_)) <;> (refine ag ?_)
 all_goals first
  |grind [Qv]
  |skip
 have bT:Qv b s.next u=true:=by grind [Qv]
 rw[bT,Ax]at z;generalize T:C++(d.af.take i).map Th.id=ids at o z;have jd:ids.length=C.length+i:=by rw[<-T];simp;omega
 refine Zh (ι:=Nat) (λj y J=>y=[O j]/\J=σ4/\j<=ids.length/\∀m (E:m<ids.length),m<j->ids[m]≠u.id) (λj=>ids.length-j) 0 ⟨rfl,rfl,by omega,λm _ h=>by omega⟩ ?_;rintro F y J qJ ⟨rfl,rfl,V,j7⟩ qX;refine Z (o.len _) (ag (qG (λh2=>?_) (λh2=>?_)))
 ·have h2:F<ids.length:=by omega
  obtain⟨bb,e1,tW,e2⟩:=o.at .i64 F (by omega);refine Z e1 (Z (e2 false 1 (O ids[F]) (by simp[aK])) (ag (qG (λh3=>?_) (λh3=>?_))))
  ·have:u.id∈ids:=by rw[<-h3];exact AI h2
   grind
  ·refine ag ?_;rw[Zd (n:=F) (by omega)];exact qX (F+1) _ _ (by omega) ⟨rfl,rfl,by omega,λm E xU=>by grind⟩
 have mL:ids.contains u.id=false:=by
  rw[List.contains_eq_mem,pI];intro E;obtain⟨m,E,e⟩:=FA E;exact j7 m E (by omega) e
 rw[mL,Ej,Ax]at z;refine ag ?_;rw[Rg _ _ _ _ _ [O u.id] rfl rfl];refine o.j9 _ (hold:=λp=>p) rfl (by omega) _ (λv' σ' H zf=>?_);refine ag ?_;rw[Zd (n:=i) (by omega)];have D:C++(d.af.take (i+1)).map Th.id=ids++[u.id]:=by rw[<-T,D];simp
 refine bj (i+1) _ _ (by omega) ⟨v',rfl,by omega,?_,H _ _ w,H _ _ r,H _ _ x,?_⟩
 ·rw[D];simpa[aK,EG]using zf
 ·rw[D];exact z
def fg(s:St):List Int->List Int->Bool
 |_,[]=>true
 |prev,a::l=>((aC s a).2.2&&decide ((aC s a).1=s.mover))&&(!(prev.contains a)&&fg s (prev++[a]) l)
def aJ(e:Int)(b:Bk)(s:St)(bare:Bool):Bool:=
 decide (e=0) && (decide (1<=s.turn) && (decide (s.turn<=4096) && (decide (0<=s.mover) && (decide (s.mover<=1) && (decide (0<=s.phase) && (decide (s.phase<=2) && (decide (0<=s.result) && (decide (s.result<=3) &&
 (((s.result == 0) == (s.phase != 2)) && (decide (1<=s.next) && (decide (s.next<=1000000) && (ZD b s &&
 (if s.phase≠1 then decide (s.an.length=0)else !(decide (s.an.length=0) && !bare) && (s.bq && (decide (s.an.length<=7) && fg s [] s.an)))))))))))))))
theorem c25(b:Bk)(s:St)(hs:ba 1000000000 s)(bare:Bool)(e p:Int)(h67:PC 50 [dd b] (.agg [O e,O p])):PC 25 [dd b,bN s,.bool bare] (.bool (aJ e b s bare)):=by
 refine Xa hP g25.ok rfl rfl ?_;rw[H3.e];unfold g25;dsimp only;refine ay ?_;refine bD h67 g50.ok ?_;refine ay ?_;rcases cE (e != 0)with o|o
 ·rw[o];refine ay ?_;simp at o;simp[aJ,o]
 rw[o];refine ay ?_;rcases cE (decide (s.turn<1))with r|r
 ·rw[r];refine ay ?_
  grind [aJ]
 rw[r];refine ay ?_;rcases cE (decide (s.turn>4096))with w|w
 ·rw[w];refine ay ?_
  grind [aJ]
 rw[w];refine ay ?_;rcases cE (decide (s.mover<0))with x|x
 ·rw[x];refine ay ?_
  grind [aJ]
 rw[x];refine ay ?_;rcases cE (decide (s.mover>1))with y|y
 ·rw[y];refine ay ?_
  grind [aJ]
 rw[y];refine ay ?_;rcases cE (decide (s.phase<0))with z|z
 ·rw[z];refine ay ?_
  grind [aJ]
 rw[z];refine ay ?_;rcases cE (decide (s.phase>2))with C|C
 ·rw[C];refine ay ?_
  grind [aJ]
 rw[C];refine ay ?_;rcases cE (decide (s.result<0))with D|D
 ·rw[D];refine ay ?_
  grind [aJ]
 rw[D];refine ay ?_;refine Ya (λF=>?_) (λF=>?_)
 ·grind [aJ]
 refine ay ?_;rcases cE (!(s.result==0)==(s.phase != 2))with q10|q10
 ·rw[q10];refine ay ?_;simp_all [aJ]
 rw[q10];refine ay ?_;rcases cE (decide (s.next<1))with q11|q11
 ·rw[q11];refine ay ?_
  grind [aJ]
 rw[q11];refine ay ?_;rcases cE (decide (s.next>1000000))with q12|q12
 ·rw[q12];refine ay ?_
  grind [aJ]
 rw[q12];refine ay (bD (c68 b s hs) g51.ok ?_);refine ay (Ya (λq13=>?_) (λq13=>?_))
 ·grind [aJ]
 have R:e=0:=by simpa using o
 have Q10:((s.result==0)==(s.phase != 2))=true:=by
  simp_all
 have Q13:ZD b s=true:=by simpa using q13
 simp at r w x y z C D F q11 q12;have hm:aJ e b s bare=(if s.phase≠1 then decide (s.an.length=0)else !(decide (s.an.length=0) && !bare)&&(s.bq&&(decide (s.an.length<=7)&&fg s [] s.an))):=by
  simp_all [aJ]
 rw[hm];clear hm R Q10 Q13 o r w x y z C D F q10 q11 q12 q13;refine ay (Ya (λh=>?_) (λh=>?_))
 ·have h:s.phase≠1:=by simpa using h
  refine ay ?_;rw[aE h]
  congr 1
  rw[C6];simp
 have h:s.phase=1:=by simpa using h
 rw[aB (by simp[h])];refine ay ?_;rcases cE ((((s.an.map aK).length:Nat):Int)==0)with h1|h1
 ·rw[h1];have h1:s.an=[]:=by simpa using h1
  refine ay ?_;cases bare with
  |false=>
   refine ay ?_;simp[h1]
  |true=>
   refine ay ?_;rcases cE (!s.bq)with h2|h2
   ·rw[h2];refine ay ?_;simp_all
   rw[h2];have h2:s.bq=true:=by simpa using h2
   refine ay ?_;rw[h1];refine Yf (ZM 1 (Yk ?_));refine ay ?_;rw[h1];refine Yf ?_;simp[h2,fg]
 rw[h1];have h1:s.an.length≠0:=by simpa using h1
 refine ay ?_;have S:(decide (s.an.length=0) && !bare)=false:=by simp[h1]
 rw[S,Ej,Ax];rcases cE (!s.bq)with h2|h2
 ·rw[h2];refine ay ?_;simp_all
 rw[h2];have h2:s.bq=true:=by simpa using h2
 rw[h2,Ax];refine ay (Ya (λh3=>?_) (λh3=>?_))
 ·grind
 have h3:s.an.length<=7:=by simp at h3;omega
 rw[gA h3,Ax];have bad:fg s [] s.an=false->I.bool false=I.bool (fg s [] s.an):=λh=>by rw[h]
 generalize L:([]++[U.box [iX b.aj,oT b.ar]]++[U.box (aH s)]:List U)=base;have G:ai base 1=.box (aH s):=by rw[<-L];rfl
 generalize Q:([]++[U.box [iX b.aj,oT b.ar]]:List U).length=N;have hN1:N=1:=by rw[<-Q];rfl
 subst hN1;clear L Q;refine Zh (ι:=Nat) (λi E J=>E=[O i]/\J=base/\i<=s.an.length/\fg s [] s.an=fg s (s.an.take i) (s.an.drop i)) (λi=>s.an.length-i) 0 ⟨rfl,rfl,by omega,by simp⟩ ?_;rintro i E J again ⟨rfl,rfl,hi,hu⟩ V;refine ax (Ya (λh=>?_) (λh=>?_))
 ·have h:i<s.an.length:=by simpa using h
  have X:s.an.drop i=s.an[i]::s.an.drop (i+1):=by rw[gB h]
  rw[X]at hu;refine Ze (ld G rfl) (Yd _) (Xd rfl (Ze (ld G rfl) (Yd _) (Ze (Zm _ aK _ _ _ _ _ i h) (Yd _) (Ze rfl (Yd _) ?_))));refine YX (c23 s hs s.an[i]) g52.ok (ay ?_);generalize H:s.an[i]=a at hu;rcases cE (!(aC s a).2.2)with h4|h4
  ·rw[h4];refine ay (bad ?_);simp_all [fg]
  rw[h4];refine ax (Ya (λh5=>bad ?_) (λh5=>?_))
  ·simp_all [fg]
  have Y:((aC s a).2.2&&decide ((aC s a).1=s.mover))=true:=by
   simp_all
  rw[fg,Y,Ax]at hu;refine Zh (ι:=Nat) (λj E σ2=>E=[O j]/\σ2=J/\j<=i/\∀m (hm:m<s.an.length),m<j->s.an[m]≠a) (λj=>i-j) 0 ⟨rfl,rfl,by omega,λm _ h=>by omega⟩ ?_;rintro j E J qJ ⟨rfl,rfl,hj,j7⟩ qX;refine Z rfl (Ya (λh6=>?_) (λh6=>?_))
  ·have h6:j<i:=by simpa using h6
   repeat first|refine Z (ld G rfl) ?_|refine Z (Zm _ aK _ _ _ s.an _ j (by omega)) ?_|refine Z (Zm _ aK _ _ _ s.an _ i h) ?_|refine Z rfl ?_
   refine Ya (λh7=>bad ?_) (λh7=>?_)
   ·have h7:s.an[j]=a:=by rw[<-H];simpa using h7
    have:a∈s.an.take i:=by
     rw[Ff];exact⟨j,by omega,h7⟩
    rw[hu];simp[this]
   ·have h7:s.an[j]≠a:=by rw[<-H];simpa using h7
    refine Z rfl ?_;rw[Zd (n:=j) (by omega)];refine qX (j+1) _ _ (by omega) ⟨rfl,rfl,by omega,λm hm xU=>?_⟩
    grind
  ·have h6:¬j<i:=by simpa using h6
   have mL:(s.an.take i).contains a=false:=by
    grind [Ff]
   rw[mL,Ej,Ax]at hu;refine Z rfl ?_;rw[Zd (n:=i) (by omega)];refine V (i+1) _ _ (by omega) ⟨rfl,rfl,by omega,?_⟩;rw[Yv _ _ h,H];exact hu
 grind [fg]
theorem c16(b:Bk)(s:St)(hs:ba 1000000000 s)(e p:Int)(h67:PC 50 [dd b] (.agg [O e,O p])):PC 8 [dd b,bN s] (O (bif aJ e b s false then 0 else 170)):=by
 refine Xa hP g8.ok rfl rfl ?_;rw[H2.e];unfold g8;dsimp only;refine ay (bD (c25 b s hs false e p h67) g25.ok (Z rfl (Ya (λh=>?_) (λh=>?_))))
 ·have h:aJ e b s false=false:=by simpa using h
  simp[h]
 ·have h:aJ e b s false=true:=by simpa using h
  simp[h]
abbrev iC:Nat:=1152921504606846975
def CK(n:Int):Bool:=decide (-128<=n)&&decide (n<=127)
def Ek(n:Int):Bool:=decide (-9223372036854775808<=n)&&decide (n<=9223372036854775807)
theorem ZeW{n:Int}(h:CK n=true):-128<=n/\n<=127:=by simpa[CK]using h
mutual
def di:Nm->Bool
 |.mk op n _ kids=>decide (kids.length<=iC)&&(zJ kids&&(CK op&&Ek n))
def zJ:List Nm->Bool
 |[]=>true
 |x::l=>di x&&zJ l
end
theorem UP:∀ {l:List Nm},zJ l=true->∀x∈l,di x=true
 |[],_,_,h=>by simp at h
 |y::l,h,x,i=>by
  simp only[zJ,AA]at h;rcases Az.1 i with rfl|i
  ·exact h.1
  ·exact UP h.2 x i
theorem It{x:Nm}(h:di x=true):x.kids.length<=iC:=by cases x;simp[di]at h;exact h.1
theorem QV{x k:Nm}(h:di x=true)(hk:k∈x.kids):di k=true:=by cases x;simp[di]at h;exact UP h.2.1 k hk
theorem zM{x k:Nm}(hk:k∈x.kids):B3 k<B3 x:=by
 cases x with
 |mk a b c kids=>
  have:=EH (show k∈kids from hk);simp;omega
mutual
def cP:Cn->Bool
 |.mk op _ _ aF kids=>(decide (aF.length<=iC)&&zJ aF)&&(decide (kids.length<=iC)&&(Dr kids&&CK op))
def Dr:List Cn->Bool
 |[]=>true
 |x::l=>cP x&&Dr l
end
theorem YbH:∀ {l:List Cn},Dr l=true->∀x∈l,cP x=true
 |[],_,_,h=>by simp at h
 |y::l,h,x,i=>by
  simp only[Dr,AA]at h;rcases Az.1 i with rfl|i
  ·exact h.1
  ·exact YbH h.2 x i
theorem XY{x:Cn}(h:cP x=true):x.aF.length<=iC:=by cases x;simp[cP]at h;exact h.1.1
theorem YY{x:Cn}(h:cP x=true):x.kids.length<=iC:=by cases x;simp[cP]at h;exact h.2.1
theorem X2{x:Cn}{k:Nm}(h:cP x=true)(hk:k∈x.aF):di k=true:=by cases x;simp[cP]at h;exact UP h.1.2 k hk
theorem Y2{x k:Cn}(h:cP x=true)(hk:k∈x.kids):cP k=true:=by cases x;simp[cP]at h;exact YbH h.2.2.1 k hk
theorem Bo{x k:Cn}(hk:k∈x.kids):B3 k<B3 x:=by
 cases x with
 |mk a b c aF kids=>
  have:=EH (show k∈kids from hk);simp;omega
mutual
def dO:Ef->Bool
 |.mk op _ n _ c cL cV=>di n&&(cP c&&((decide (cL.length<=iC)&&yX cL)&&((decide (cV.length<=iC)&&yX cV)&&CK op)))
def yX:List Ef->Bool
 |[]=>true
 |x::l=>dO x&&yX l
end
theorem UN:∀ {l:List Ef},yX l=true->∀x∈l,dO x=true
 |[],_,_,h=>by simp at h
 |y::l,h,x,i=>by
  simp only[yX,AA]at h;rcases Az.1 i with rfl|i
  ·exact h.1
  ·exact UN h.2 x i
def bz(l:List Ef):Bool:=decide (l.length<=iC)&&yX l
variable{x:Ef}
theorem zP(h:dO x=true):di x.n=true:=by cases x;simp[dO]at h;exact h.1
theorem X9(h:dO x=true):cP x.c=true:=by cases x;simp[dO]at h;exact h.2.1
theorem XP(h:dO x=true):bz x.cL=true:=by cases x;simp_all [dO,bz,Ef.cL]
theorem YP(h:dO x=true):bz x.cV=true:=by cases x;simp_all [dO,bz,Ef.cV]
theorem ZdZ(h:dO x=true):-128<=x.op/\x.op<=127:=by cases x;simp[dO]at h;exact ZeW h.2.2.2.2
theorem YF{l:List Ef}(h:bz l=true):l.length<=iC:=by simp[bz]at h;exact h.1
theorem XV{l:List Ef}(h:bz l=true)(hx:x∈l):dO x=true:=by grind [bz,UN]
theorem ck{n:Int}(h1:-9223372036854775808<=n)(h2:n<=9223372036854775807):AF.wrap n=n:=Bb _ ⟨h1,h2⟩
theorem nq(x:Nm):fV [.agg (cK x)]=true:=by rw[YD];rfl
theorem sU(x:Nm):aO true 0 4 (cK x)=some (.agg (cK x)):=by rw[YD];rfl
theorem se(x:Cn):fV [.agg (fA x)]=true:=by rw[QN];rfl
theorem z_(x:Cn):aO true 0 5 (fA x)=some (.agg (fA x)):=by rw[QN];rfl
theorem bg{n:Nat}(hv:aO agg j n row=some v):Xf agg n [.al row j] J=.ok v [] []:=by
 rw[Us,hv]
mutual
def nJ:Nm->Int
 |.mk _ _ _ kids=>kE 1 kids
def kE:Int->List Nm->Int
 |n,[]=>n
 |n,x::l=>kE (min (n+nJ x) 1073741824) l
end
theorem Yem(x:Nm):nJ x=kE 1 x.kids:=by cases x;rfl
theorem Vb:∀(l:List Nm) (n:Int),0<=n->n<=1073741824->(∀x∈l,0<=nJ x)->0<=kE n l/\kE n l<=1073741824
 |[],n,h1,h2,_=>⟨h1,h2⟩
 |x::l,n,h1,h2,h3=>by
  have:=h3 x (by simp);exact Vb l _ (by omega) (by omega) (λy i=>h3 y (by simp[i]))
theorem Xem:∀(k:Nat) (x:Nm),B3 x<=k->0<=nJ x/\nJ x<=1073741824
 |0,x,h=>by cases x;simp at h
 |k+1,x,h=>by
  rw[Yem];exact Vb _ _ (by omega) (by omega) (λy i=>(Xem k y (by have:=zM i;omega)).1)
theorem Kj(x:Nm):0<=nJ x/\nJ x<=1073741824:=Xem _ x (AO _)
mutual
def qO:Cn->Int
 |.mk _ _ _ aF kids=>oL (kE 1 aF) kids
def oL:Int->List Cn->Int
 |n,[]=>n
 |n,x::l=>oL (min (n+qO x) 1073741824) l
end
theorem Zei(x:Cn):qO x=oL (kE 1 x.aF) x.kids:=by cases x;rfl
theorem Ydk:∀(l:List Cn) (n:Int),0<=n->n<=1073741824->(∀x∈l,0<=qO x)->0<=oL n l/\oL n l<=1073741824
 |[],n,h1,h2,_=>⟨h1,h2⟩
 |x::l,n,h1,h2,h3=>by
  have:=h3 x (by simp);exact Ydk l _ (by omega) (by omega) (λy i=>h3 y (by simp[i]))
theorem Yei:∀(k:Nat) (x:Cn),B3 x<=k->0<=qO x/\qO x<=1073741824
 |0,x,h=>by cases x;simp at h
 |k+1,x,h=>by
  rw[Zei];have h1:=Vb x.aF 1 (by omega) (by omega) (λy _=>(Kj y).1);exact Ydk _ _ h1.1 h1.2 (λy i=>(Yei k y (by have:=Bo i;omega)).1)
theorem Vk(x:Cn):0<=qO x/\qO x<=1073741824:=Yei _ x (AO _)
def cQ(op:Int):Bool:=decide (op=0)||(decide (op=1)||(decide (op=2)||(decide (op=3)||decide (op=5))))
def nt(w:Int):Bool:=decide (w=0)||decide (w=1)
theorem KI:∀(k:Nat) (x:Nm),B3 x<=k->di x=true->PC 231 [.agg (cK x)] (O (nJ x))
 |0,x,h,_=>by cases x;simp at h
 |k+1,x,z,hf=>by
  rw[YD];refine Xa hP g231.ok rfl rfl ?_;rw[H1.e];unfold g231;dsimp only;refine Qd rfl rfl ?_;rw[Yem];have hlen:=It hf;generalize o:([]++[U.box [aS x.op,O x.n,aS x.who,.aX false false 4 (x.kids.map cK)]]:List U)=base;have p:ai base 0=.box [aS x.op,O x.n,aS x.who,.aX false false 4 (x.kids.map cK)]:=by rw[<-o];rfl
  clear o;refine Zh (ι:=Nat) (λi r J=>∃n,r=[O i,O n]/\J=base/\i<=x.kids.length/\0<=n/\n<=1073741824/\kE 1 x.kids=kE n (x.kids.drop i)) (λi=>x.kids.length-i) 0 ⟨1,rfl,rfl,by omega,by omega,by omega,by simp⟩ ?_;rintro i r J again ⟨n,rfl,rfl,D,n1,E,hu⟩ w;repeat first|refine Z (ld p rfl) ?_|refine Z rfl ?_
  refine Ya (λh=>?_) (λh=>?_)
  ·have h:i<x.kids.length:=by simpa using h
   have y:x.kids.drop i=x.kids[i]::x.kids.drop (i+1):=by rw[gB h]
   rw[y,kE]at hu;have s:x.kids[i]∈x.kids:=AI h;refine Z rfl (Z (ld p rfl) (Z (Zm _ cK _ _ _ x.kids _ i h) (Z (bg (sU _)) ?_)));refine Qm (KI k _ (by have:=zM s;omega) (QV hf s)) rfl g231.ok.plain (nq _) ?_;have:=Kj x.kids[i];refine Z (Qi ..) (Z (YU ..) (Z (Qi ..) ?_));rw[Zd (n:=i) (by grind),ck (by omega) (by omega)];exact w (i+1) _ _ (by omega) ⟨_,rfl,rfl,by omega,by omega,by omega,hu⟩
  ·have h:i=x.kids.length:=by simp at h;omega
   subst h;rw[As]at hu;rw[hu];rfl
theorem c76(x:Nm)(hf:di x=true):PC 231 [.agg (cK x)] (O (nJ x)):=KI _ x (AO _) hf
theorem yR{k:n_}(h:f k):c8 f k:=by unfold c8;exact h
theorem de:iC=1152921504606846975:=rfl
theorem m9(x:Ef):aO true 0 14 (bC x)=some (.agg (bC x)):=by rw[Yz];rfl
theorem sk(x:Ef):aO true 2 4 (bC x)=some (.agg (cK x.n)):=by rw[Yz,YD];rfl
theorem oP(x:Ef):aO true 7 5 (bC x)=some (.agg (fA x.c)):=by rw[Yz,QN];rfl
theorem gQ(x:Ef):aO false 0 1 (bC x)=some (aS x.op):=by rw[Yz];rfl
theorem nB(x:Ef):aO false 1 1 (bC x)=some (aS x.who):=by rw[Yz];rfl
theorem Cc(x:Ef):aO false 6 1 (bC x)=some (.str x.name):=by rw[Yz];rfl
theorem Bq(x:Ef):aO false 12 1 (bC x)=some (gE x.cL):=by rw[Yz];rfl
theorem Bm(x:Ef):aO false 13 1 (bC x)=some (gE x.cV):=by rw[Yz];rfl
theorem BH:∀(k:Nat) (x:Cn),B3 x<=k->cP x=true->PC 232 [.agg (fA x)] (O (qO x))
 |0,x,h,_=>by cases x;simp at h
 |k+1,x,H,hf=>by
  rw[QN];refine Xa hP g232.ok rfl rfl ?_;rw[H1.e];unfold g232;dsimp only;refine Qd rfl rfl ?_;rw[Zei];have D:=XY hf;have E:=YY hf;rw[de]at D E;generalize y:([]++[U.box [aS x.op,aS x.who,.str x.name,.aX false false 4 (x.aF.map cK),.aX false false 5 (x.kids.map fA)]]:List U)=base;have z:ai base 0=.box [aS x.op,aS x.who,.str x.name,.aX false false 4 (x.aF.map cK),.aX false false 5 (x.kids.map fA)]:=by rw[<-y];rfl
  clear y;refine Zh (ι:=Nat) (λi o J=>∃n,o=[O i,O n]/\J=base/\i<=x.aF.length/\0<=n/\n<=1073741824/\kE 1 x.aF=kE n (x.aF.drop i)) (λi=>x.aF.length-i) 0 ⟨1,rfl,rfl,by omega,by omega,by omega,by simp⟩ ?_;rintro i o J again ⟨n,rfl,rfl,C,n1,G,hu⟩ p;refine ax (Ya (λh=>?_) (λh=>?_))
  ·have h:i<x.aF.length:=by simpa using h
   have w:x.aF.drop i=x.aF[i]::x.aF.drop (i+1):=by rw[gB h]
   rw[w,kE]at hu;have r:x.aF[i]∈x.aF:=AI h;refine Z rfl (Z (ld z rfl) (Z (Zm _ cK _ _ _ x.aF _ i h) (Z (bg (sU _)) ?_)));refine Qm (c76 _ (X2 hf r)) rfl g231.ok.plain (nq _) ?_;have:=Kj x.aF[i];refine ay ?_;rw[Zd (n:=i) (by omega),ck (by omega) (by omega)];exact p (i+1) _ _ (by omega) ⟨_,rfl,rfl,by omega,by omega,by omega,hu⟩
  have h:i=x.aF.length:=by simp at h;omega
  subst h;rw[As,kE]at hu;rw[hu];clear p hu C;refine Zh (ι:=Nat) (λi o s=>∃m,o=[O i,O m]/\s=J/\i<=x.kids.length/\0<=m/\m<=1073741824/\oL n x.kids=oL m (x.kids.drop i)) (λi=>x.kids.length-i) 0 ⟨n,rfl,rfl,by omega,by omega,by omega,by simp⟩ ?_;rintro i o s again ⟨m,rfl,rfl,C,n1,G,hu⟩ p;refine ax (Ya (λh=>?_) (λh=>?_))
  ·have h:i<x.kids.length:=by simpa using h
   have w:x.kids.drop i=x.kids[i]::x.kids.drop (i+1):=by rw[gB h]
   rw[w,oL]at hu;have r:x.kids[i]∈x.kids:=AI h;refine Z rfl (Z (ld z rfl) (Z (Zm _ fA _ _ _ x.kids _ i h) (Z (bg (z_ _)) ?_)));refine Qm (BH k _ (by have:=Bo r;omega) (Y2 hf r)) rfl g232.ok.plain (se _) ?_;have:=Vk x.kids[i];refine ay ?_;rw[Zd (n:=i) (by omega),ck (by omega) (by omega)];exact p (i+1) _ _ (by omega) ⟨_,rfl,rfl,by omega,by omega,by omega,hu⟩
  ·have h:i=x.kids.length:=by simp at h;omega
   subst h;rw[As]at hu;rw[hu];rfl
theorem c178(x:Cn)(hf:cP x=true):PC 232 [.agg (fA x)] (O (qO x)):=BH _ x (AO _) hf
theorem c121(w:Int):PC 213 [aS w] (.bool (nt w)):=by
 refine Xa hP g213.ok rfl rfl ?_;rw[H1.e];unfold g213;dsimp only;refine Z rfl ?_;rcases cE (w==0)with h1|h1
 ·rw[h1];refine ay ?_;simp at h1;simp[nt,h1]
 rw[h1];refine ay ?_;have h1:w≠0:=by simpa using h1
 exact congrArg I.bool (by rw[C6];simp[nt,h1])
theorem c130(w:Int):PC 210 [aS w] (.bool (cQ w)):=by
 refine Xa hP g210.ok rfl rfl ?_;rw[H1.e];unfold g210;dsimp only;refine Z rfl ?_;rcases cE (w==0)with h0|h0
 ·rw[h0];refine ay ?_;simp at h0;simp[cQ,h0]
 rw[h0];refine ay ?_;rcases cE (w==1)with h1|h1
 ·rw[h1];refine ay ?_;simp at h1;simp[cQ,h1]
 rw[h1];refine ay ?_;rcases cE (w==2)with h2|h2
 ·rw[h2];refine ay ?_;simp at h2;simp[cQ,h2]
 rw[h2];refine ay ?_;rcases cE (w==3)with h3|h3
 ·rw[h3];refine ay ?_;simp at h3;simp[cQ,h3]
 rw[h3];refine ay ?_;simp at h0 h1 h2 h3;exact congrArg I.bool (by rw[C6];simp[cQ,h0,h1,h2,h3])
mutual
def eF:Int->List Ef->Int
 |n,[]=>n
 |n,x::l=>eF (DE n x) l
def DE:Int->Ef->Int
 |n0,.mk op _ i _ c cL cV=>
  if op=8 then min ((if cQ op then min (min (n0+1) 1073741824+nJ i) 1073741824 else min (n0+1) 1073741824)+qO c+eF 0 cL+eF 0 cV) 1073741824 else (if cQ op then min (min (n0+1) 1073741824+nJ i) 1073741824 else min (n0+1) 1073741824)
end
theorem Jo(n:Int)(x:Ef):DE n x=if x.op=8 then min ((if cQ x.op then min (min (n+1) 1073741824+nJ x.n) 1073741824 else min (n+1) 1073741824)+qO x.c+eF 0 x.cL+eF 0 x.cV) 1073741824 else (if cQ x.op then min (min (n+1) 1073741824+nJ x.n) 1073741824 else min (n+1) 1073741824):=by
 cases x;rfl
theorem Rr:∀(k:Nat) (l:List Ef) (n:Int),B3 l<=k->0<=n->n<=1073741824->0<=eF n l/\eF n l<=1073741824
 |0,l,n,h,_,_=>by cases l<;>simp at h
 |k+1,[],n,_,h1,h2=>⟨h1,h2⟩
 |k+1,x::l,n,h,h1,h2=>by
  simp only[NB]at h;have o:B3 x.cL<B3 x/\B3 x.cV<B3 x:=by
   cases x;simp[Ef.cL,Ef.cV];omega
  have p:=Rr k x.cL 0 (by omega) (by omega) (by omega);have r:=Rr k x.cV 0 (by omega) (by omega) (by omega);have s:=Kj x.n;have w:=Vk x.c;have i:0<=DE n x/\DE n x<=1073741824:=by
   rw[Jo];split<;>split<;>omega
  rw[eF];exact Rr k l _ (by omega) i.1 i.2
theorem Kg(l:List Ef):0<=eF 0 l/\eF 0 l<=1073741824:=Rr _ l 0 (AO _) (by omega) (by omega)
theorem Bu(x:Ef):B3 x.cL<B3 x/\B3 x.cV<B3 x:=by
 cases x;simp[Ef.cL,Ef.cV];omega
theorem rZ:∀(k:Nat) (l:List Ef),B3 l<=k->bz l=true->PC 206 [gE l] (O (eF 0 l))
  |0,l,h,_=>by cases l<;>simp at h
  |k+1,l,L,hf=>by
    refine Xa hP g206.ok rfl rfl ?_;rw[H1.e];unfold g206;dsimp only;have hlen:=YF hf;rw[de]at hlen;refine Zh (ι:=Nat) (λi C J=>∃n,C=[O i,O n]/\i<=l.length/\0<=n/\n<=1073741824/\eF 0 l=eF n (l.drop i)) (λi=>l.length-i) 0 ⟨0,rfl,by omega,by omega,by omega,by simp⟩ ?_;rintro i C J again ⟨n,rfl,Q,n1,R,hu⟩ D;refine Z rfl (Z rfl ?_);refine Ya (λh=>?_) (λh=>?_)
    · have h:i<l.length:=by simpa using h
      have E:l.drop i=l[i]::l.drop (i+1):=by rw[gB h]
      rw[E,eF]at hu;have hm:l[i]∈l:=AI h;have F:=EH hm;have r:=XV hf hm;have p:=λ(s:List U)=>Zm s bC false false 14 l .i64 i h;generalize l[i]=x at hu F r p;refine ay (Z (p _) (Z rfl (Z (bg (gQ x)) ?_)));refine bD (c130 _) g210.ok ?_;have S:=Kj x.n;have T:=Vk x.c;have V:=Kg x.cL;have X:=Kg x.cV;rw[ck (n:=n+1) (by omega) (by omega)];have fin:∀m:Int,0<=m->m<=1073741824->DE n x=m->again [O ((i+1:Nat):Int),O m] J:=by
        intro m y G e;exact D (i+1) _ _ (by omega) ⟨m,rfl,by omega,y,G,by rw[hu,e]⟩
      refine yR (Ya (λz=>?_) (λz=>?_))
      all_goals
        first
        | (refine Z (p _) (Z rfl (Z (bg (sk x)) ?_))
           refine Qm (c76 _ (zP r)) rfl g231.ok.plain (nq _) (ay ?_);rw[ck (n:=min (n + 1) 1073741824 + nJ x.n) (by omega) (by omega)])
        |skip
      · have w:(if cQ x.op then min (min (n+1) 1073741824+nJ x.n) 1073741824 else min (n+1) 1073741824)=min (min (n+1) 1073741824+nJ x.n) 1073741824:=by rw[aE z]
        obtain⟨m,hm⟩:∃m,m=min (min (n+1) 1073741824+nJ x.n) 1073741824:=⟨_,rfl⟩;rw[<-hm]
        replace w:=w.trans hm.symm
        have y:0<=m/\m<=1073741824:=by omega
        refine Z (p _) (Z rfl (Z (bg (gQ x)) (Z rfl ?_)));refine Ya (λo=>?_) (λo=>?_)
        · have o:x.op=8:=by simpa using o
          refine Ze (p _) (Yd _) (Xd rfl (Ze (bg (oP x)) (Yd _) ?_));refine Yo (c178 _ (X9 r)) rfl g232.ok.plain (se _) (Xd (Qi ..) (Ze (p _) (Yd _) (Xd rfl (Ze (bg (Bq x)) (Yd _) ?_))));have H:=Bu x;refine YX (rZ k _ (by omega) (XP r)) g206.ok (Xd (Qi ..) (Ze (p _) (Yd _) (Xd rfl (Ze (bg (Bm x)) (Yd _) ?_))));refine YX (rZ k _ (by omega) (YP r)) g206.ok (Xd (Qi ..) (Xd (YU ..) (Xo (by kernel_rfl) (Z (Qi ..) ?_))));rw[Zd (n:=i) (by omega),ck (n:=m+qO x.c) (by omega) (by omega),ck (n:=m+qO x.c+eF 0 x.cL) (by omega) (by omega),ck (n:=m+qO x.c+eF 0 x.cL+eF 0 x.cV) (by omega) (by omega)];exact fin _ (by omega) (by omega) (by rw[Jo,aE o,w])
        · have o:x.op≠8:=by simpa using o
          refine Z (Qi ..) ?_;rw[Zd (n:=i) (by omega)];simp_all [Jo]
      · have w:(if cQ x.op then min (min (n+1) 1073741824+nJ x.n) 1073741824 else min (n+1) 1073741824)=min (n+1) 1073741824:=by rw[aB (by simpa using z)]
        obtain⟨m,hm⟩:∃m,m=min (n+1) 1073741824:=⟨_,rfl⟩;rw[<-hm]
        replace w:=w.trans hm.symm
        have y:0<=m/\m<=1073741824:=by omega
        refine Z (p _) (Z rfl (Z (bg (gQ x)) (Z rfl ?_)));refine Ya (λo=>?_) (λo=>?_)
        · have o:x.op=8:=by simpa using o
          refine Ze (p _) (Yd _) (Xd rfl (Ze (bg (oP x)) (Yd _) ?_));refine Yo (c178 _ (X9 r)) rfl g232.ok.plain (se _) (Xd (Qi ..) (Ze (p _) (Yd _) (Xd rfl (Ze (bg (Bq x)) (Yd _) ?_))));have H:=Bu x;refine YX (rZ k _ (by omega) (XP r)) g206.ok (Xd (Qi ..) (Ze (p _) (Yd _) (Xd rfl (Ze (bg (Bm x)) (Yd _) ?_))));refine YX (rZ k _ (by omega) (YP r)) g206.ok (Xd (Qi ..) (Xd (YU ..) (Xo (by kernel_rfl) (Z (Qi ..) ?_))));rw[Zd (n:=i) (by omega),ck (n:=m+qO x.c) (by omega) (by omega),ck (n:=m+qO x.c+eF 0 x.cL) (by omega) (by omega),ck (n:=m+qO x.c+eF 0 x.cL+eF 0 x.cV) (by omega) (by omega)];exact fin _ (by omega) (by omega) (by rw[Jo,aE o,w])
        · have o:x.op≠8:=by simpa using o
          refine Z (Qi ..) ?_;rw[Zd (n:=i) (by omega)];simp_all [Jo]
    · have h:i=l.length:=by simp at h;omega
      subst h;rw[As]at hu;rw[hu];rfl
theorem c142(l:List Ef)(hf:bz l=true):PC 206 [gE l] (O (eF 0 l)):=rZ _ l (AO _) hf
def fF(x:Nm):Bool:=decide (x.op=0)&&(decide (x.n=0)&&(decide (x.who=0)&&decide (x.kids.length=0)))
def fO(x:Cn):Bool:=decide (x.op=0)&&(decide (x.who=0)&&(x.name==[]&&(decide (x.aF.length=0)&&decide (x.kids.length=0))))
def eK:List Cd->Tx->Bool->Bool
 |[],_,_=>false
 |c::l,t,u=>if c.name==t then c.unit || !u else eK l t u
def BT(cs:List Cd)(t:Bool):List I:=[iX cs,.bool t]
theorem Zj{k:n_}(h:∀i,i=k->f i):c8 f k:=yR (h k rfl)
theorem c110(c:Cd)(h1:bz c.bp=true)(h2:bz c.dead=true)(h3:bz c.dw=true):PC 163 [.agg (cM c)] (O (min (eF 0 c.bp+eF 0 c.dead+eF 0 c.dw) 1073741824)):=by
 refine Xa hP g163.ok rfl rfl ?_;rw[H1.e];unfold g163;dsimp only;refine Qd rfl rfl (Xd rfl (Ze rfl rfl ?_));refine YX (c142 _ h1) g206.ok (Xd rfl (Ze rfl rfl ?_));refine YX (c142 _ h2) g206.ok (Xd (Qi ..) (Xd rfl (Ze rfl rfl ?_)));refine YX (c142 _ h3) g206.ok (Xd (Qi ..) (Xd (YU ..) (Xo (by kernel_rfl) ?_)));have i:=Kg c.bp;have o:=Kg c.dead;have p:=Kg c.dw;rw[ck (n:=eF 0 c.bp+eF 0 c.dead) (by omega) (by omega),ck (by omega) (by omega)]
theorem c225(x:Nm):PC 207 [.agg (cK x)] (.bool (fF x)):=by
 rw[YD];refine Xa hP g207.ok rfl rfl ?_;rw[H1.e];unfold g207;dsimp only;refine ae ?_;rcases cE (decide (x.op=0))with h1|h1
 rotate_left
 ·rw[h1];refine ay ?_;simp at h1;simp[fF,h1]
 rw[h1];refine ae ?_;rcases cE (decide (x.n=0))with h2|h2
 rotate_left
 ·rw[h2];refine ay ?_;simp at h2;simp[fF,h2]
 rw[h2];refine ae ?_;rcases cE (decide (x.who=0))with h3|h3
 rotate_left
 ·rw[h3];refine ay ?_;simp at h3;simp[fF,h3]
 rw[h3];refine ae ?_;simp at h1 h2 h3;simp[fF,h1,h2,h3]
theorem c227(x:Cn):PC 209 [.agg (fA x)] (.bool (fO x)):=by
 rw[QN];refine Xa hP g209.ok rfl rfl ?_;rw[H1.e];unfold g209;dsimp only;refine ae ?_;rcases cE (decide (x.op=0))with h1|h1
 rotate_left
 ·rw[h1];refine ay ?_;simp at h1;simp[fO,h1]
 rw[h1];refine ae ?_;rcases cE (decide (x.who=0))with h2|h2
 rotate_left
 ·rw[h2];refine ay ?_;simp at h2;simp[fO,h2]
 rw[h2];refine ae ?_;rcases cE (x.name==[])with h3|h3
 rotate_left
 ·rw[h3];refine ay ?_;simp at h3;simp[fO,h3]
 rw[h3];refine ae ?_;rcases cE (decide (((x.aF.map cK).length:Int)=0))with h4|h4
 rotate_left
 ·rw[h4];refine ay ?_;simp at h4;simp[fO,h4]
 rw[h4];refine ae ?_;simp at h1 h2 h3 h4;simp[fO,h1,h2,h3,h4]
theorem c187(n:Int):PC 162 [O n] (.bool (decide (0<=n)&&decide (n<=999))):=by
 refine Xa hP g162.ok rfl rfl ?_;rw[H1.e];unfold g162;dsimp only;refine Z rfl ?_;rcases cE (decide (n >= 0))with h|h
 ·rw[h];refine ay ?_;have i:0<=n:=by simpa using h
  simp[i]
 ·rw[h];refine ay ?_;have i:¬0<=n:=by simpa using h
  simp[i]
theorem qi(x:Cd):aO false 0 1 (cM x)=some (.str x.name):=rfl
theorem uK(x:Cd):aO false 1 1 (cM x)=some (.bool x.unit):=rfl
theorem c228(cs:List Cd)(hc:cs.length<=iC)(t:Bool)(nm:Tx)(u:Bool):PC 212 [.al (BT cs t) 0,.str nm,.bool u] (.bool (eK cs nm u)):=by
 refine Xa hP g212.ok rfl rfl ?_;rw[H3.e];unfold g212;dsimp only;rw[de]at hc;refine Zh (ι:=Nat) (λi p J=>p=[O i]/\i<=cs.length/\eK cs nm u=eK (cs.drop i) nm u) (λi=>cs.length-i) 0 ⟨rfl,by omega,by simp⟩ ?_;rintro i p J again ⟨rfl,z,hu⟩ r;refine ay (Ya (λh=>?_) (λh=>?_))
 ·have h:i<cs.length:=by simpa using h
  have w:cs.drop i=cs[i]::cs.drop (i+1):=by rw[gB h]
  rw[w,eK]at hu;have o:=λ(s:List U)=>Zm s cM false false 12 cs .i64 i h;generalize cs[i]=c at hu o;refine ay (Z (o _) (Z rfl (Z (bg (qi c)) (Z (vn ..) ?_))));refine Ya (λh=>?_) (λh=>?_)
  ·rw[aE h]at hu;refine ay (Z (o _) (Z rfl (Z (bg (uK c)) ?_)));rw[hu];cases c.unit<;>repeat (first|refine Xb ?_|refine Yc rfl ?_|refine YG rfl ?_|refine Z rfl ?_)
   ·simp
   ·simp
  ·rw[aB (by simpa using h)]at hu;refine Z (Qi ..) ?_;rw[Zd (n:=i) (by omega)];exact r (i+1) _ _ (by omega) ⟨rfl,by omega,hu⟩
 ·have h:i=cs.length:=by simp at h;omega
  subst h;rw[As]at hu;rw[hu];rfl
def zm(op:Int):Nat:=if 8<=op/\op<=12 then 2 else 0
def kD(t:Bool)(op n who:Int)(len:Nat):Bool:=
 (decide (0<=op)&&(decide (op<=12)&&decide (len=zm op)))
def jh(t:Bool)(op n who:Int):Bool:=
 if op=0 then decide (0<=n)&&(decide (n<=999)&&decide (who=0))else decide (n=0)&&(if 1<=op/\op<=4 then nt who else decide (who=0)&&(decide (op≠7)||t))
mutual
def iF (t:Bool):Nm->Bool
 |.mk op n who kids=>kD t op n who kids.length&&(dI t kids&&jh t op n who)
def dI (t:Bool):List Nm->Bool
 |[]=>true
 |x::l=>iF t x&&dI t l
end
theorem OC(t:Bool)(x:Nm):iF t x=(kD t x.op x.n x.who x.kids.length&&(dI t x.kids&&jh t x.op x.n x.who)):=by cases x;rfl
def oJ(op:Int):Nat:=if 0<=op/\op<=2 then 2 else 0
def pO(op:Int):Nat:=if op=4\/op=5 then 2 else if op=3 then 1 else 0
def jv(op:Int)(l3 l4:Nat):Bool:=decide (0<=op)&&(decide (op<=6)&&(decide (l3=oJ op)&&decide (l4=pO op)))
def i_(cs:List Cd)(op who:Int)(name:Tx):Bool:=if op=6 then nt who&&eK cs name false else decide (who=0)&&name==[]
mutual
def jI (cs:List Cd) (t:Bool):Cn->Bool
 |.mk op who name aF kids=>jv op aF.length kids.length&&(dI t aF&&(ga cs t kids&&i_ cs op who name))
def ga (cs:List Cd) (t:Bool):List Cn->Bool
 |[]=>true
 |x::l=>jI cs t x&&ga cs t l
end
theorem Tf(cs:List Cd)(t:Bool)(x:Cn):jI cs t x=(jv x.op x.aF.length x.kids.length&&(dI t x.aF&&(ga cs t x.kids&&i_ cs x.op x.who x.name))):=by cases x;rfl
theorem KJ(u:I)(t:Bool):∀(k:Nat) (x:Nm),B3 x<=k->di x=true->PC 211 [.al ([u,.bool t]) 0,.agg (cK x)] (.bool (iF t x))
 |0,x,h,_=>by cases x;simp at h
 |k+1,x,Q,hf=>by
  rw[YD];refine Xa hP g211.ok rfl rfl ?_;rw[H2.e];unfold g211;dsimp only;refine Qd rfl rfl ?_;rw[OC];have hlen:=It hf;rw[de]at hlen;generalize s:([]++[U.box [aS x.op,O x.n,aS x.who,.aX false false 4 (x.kids.map cK)]]:List U)=base;have o:ai base 0=.box [aS x.op,O x.n,aS x.who,.aX false false 4 (x.kids.map cK)]:=by rw[<-s];rfl
  clear s;refine ax ?_;have pick:∀K:I->Prop,K (.bool (decide (8<=x.op)&&decide (x.op<=12))) ->
    VV.gr (.bool (decide (x.op >= 8))) true (λk=>VV.rd (Qc 0 [.ak 0 0] base) k) λE=>
    VV.gr (.bool (decide (x.op >= 8))) true (λk=>VV.rd (Xf false 1 [E] base) k) λF=>
    VV.gr (.bool (decide (x.op >= 8))) true (λk=>VV.rd (Qn .leq false [F,(.int .i8 12)] base) k) λG=>
    VV.rd (Xk [.bool (decide (x.op >= 8)),G,(.bool false)] base) K:=by
   intro K R;rcases cE (decide (x.op >= 8))with h|h
   rotate_left
   ·rw[h];refine ay ?_;simp_all
   rw[h];refine ax ?_;simp_all
  refine pick _ ?_;clear pick;refine Zj λw y=>?_;have p:w [O (zm x.op)] base:=by
   rw[y];clear y w;refine ax ?_;have r:¬(0<=x.op/\x.op<=12/\x.kids.length=zm x.op)->I.bool false=I.bool (kD t x.op x.n x.who x.kids.length&&(dI t x.kids&&jh t x.op x.n x.who)):=by
    simp_all [kD]
   rcases cE (decide (x.op<0))with h1|h1
   ·rw[h1];refine ay (r ?_);simp at h1;omega
   rw[h1];refine ax ?_;rcases cE (decide (x.op>12))with h2|h2
   ·rw[h2];refine ay (r ?_);simp at h2;omega
   rw[h2];refine ax (Ya (λh3=>r ?_) (λh3=>?_))
   ·simp at h3;omega
   simp at h1 h2 h3;have z:kD t x.op x.n x.who x.kids.length=true:=by simp[kD];omega
   rw[z,Ax];refine Zh (ι:=Nat) (λi C J=>C=[O i]/\J=base/\i<=x.kids.length/\dI t x.kids=dI t (x.kids.drop i)) (λi=>x.kids.length-i) 0 ⟨rfl,rfl,by omega,by simp⟩ ?_;rintro i C J again ⟨rfl,rfl,H,hu⟩ L;refine ax (Ya (λh=>?_) (λh=>?_))
   ·have h:i<x.kids.length:=by simpa using h
    have N:x.kids.drop i=x.kids[i]::x.kids.drop (i+1):=by rw[gB h]
    rw[N,dI]at hu;have D:x.kids[i]∈x.kids:=AI h;refine Z rfl (Z (ld o rfl) (Z (Zm _ cK _ _ _ x.kids _ i h) (Z (bg (sU _)) ?_)));refine Qm (KJ u t k _ (by have:=zM D;omega) (QV hf D)) rfl g211.ok.plain (by rw[YD];rfl) (Z rfl (Ya (λh4=>?_) (λh4=>?_)))
    ·simp_all
    ·have h4:iF t x.kids[i]=true:=by simpa using h4
     rw[h4,Ax]at hu;refine Z (Qi ..) ?_;rw[Zd (n:=i) (by omega)]
     grind
   have h:i=x.kids.length:=by simp at h;omega
   subst h;rw[As,dI]at hu;rw[hu,Ax];clear L hu H r z;refine Z rfl (Z (ld o rfl) (Z (Xr ..) ?_));refine Ya (λh5=>?_) (λh5=>?_)
   ·have h5:x.op=0:=by simpa using h5
    refine ax ?_;rcases cE (decide (x.n >= 0))with h6|h6
    rotate_left
    ·rw[h6];refine ay ?_;simp[h6,jh,h5]
    rw[h6];refine ax ?_;rcases cE (decide (x.n<=999))with h7|h7
    rotate_left
    ·rw[h7];refine ay ?_;simp[h7,jh,h5]
    rw[h7];refine ax ?_;simp[h6,h7,jh,h5]
   have h5:x.op≠0:=by simpa using h5
   refine ax (Ya (λh6=>?_) (λh6=>?_))
   ·simp_all [jh]
   have h6:x.n=0:=by simpa using h6
   refine ax ?_;have op1:1<=x.op:=by omega
   have aaJ:decide (x.op >= 1)=true:=by simpa using op1
   rw[aaJ];refine ax (Ya (λh7=>?_) (λh7=>?_))
   ·have h7:x.op<=4:=by simpa using h7
    refine Z rfl (Z (ld o rfl) ?_);refine bD (c121 _) g213.ok ?_;simp[jh,h5,h6,h7,op1]
   have h7:¬x.op<=4:=by simpa using h7
   refine Z rfl (Z (ld o rfl) (Z (Xr ..) ?_));rcases cE (decide (x.who=0))with h8|h8
   rotate_left
   ·rw[h8];refine ay ?_;simp[h8,jh,h7]
   rw[h8];repeat first|refine Xb ?_|refine Xq ?_|refine Z (ld o rfl) ?_|refine Z (Xr ..) ?_|refine Z (vn ..) ?_|refine Z rfl ?_
   have h8:x.who=0:=by simpa using h8
   rcases cE (x.op != 7)with h9|h9
   ·rw[h9];repeat first|refine Yc rfl ?_|refine Xu rfl ?_|refine YG rfl ?_|refine XS rfl ?_|refine Z rfl ?_
    have h9:x.op≠7:=by simpa using h9
    simp[jh,h5,h6,h7,h8,h9]
   rw[h9];refine ay ?_;simp_all [jh]
  refine Ya (λh=>?_) (λh=>?_)
  ·have e:zm x.op=2:=by simp at h;simp[zm,h]
   rw[e]at p;exact p
  ·have e:zm x.op=0:=by simp at h;simp[zm];omega
   rw[e]at p;exact p
theorem c77(cs:List Cd)(t:Bool)(x:Nm)(hf:di x=true):PC 211 [.al (BT cs t) 0,.agg (cK x)] (.bool (iF t x)):=KJ (iX cs) t _ x (AO _) hf
theorem BW(cs:List Cd)(t:Bool)(x:Cn):fV [.al (BT cs t) 0,.agg (fA x)]=true:=by rw[QN];rfl
theorem CS(cs:List Cd)(t:Bool)(x:Nm):fV [.al (BT cs t) 0,.agg (cK x)]=true:=by rw[YD];rfl
theorem BO(cs:List Cd)(hZ:cs.length<=iC)(t:Bool):∀(k:Nat) (x:Cn),B3 x<=k->cP x=true->PC 208 [.al (BT cs t) 0,.agg (fA x)] (.bool (jI cs t x))
 |0,x,h,_=>by cases x;simp at h
 |k+1,x,hk,hf=>by
  rw[QN];refine Xa hP g208.ok rfl rfl ?_;rw[H2.e];unfold g208;dsimp only;refine Qd rfl rfl ?_;rw[Tf];have L:=XY hf;have N:=YY hf;rw[de]at L N;generalize G:([]++[U.box [aS x.op,aS x.who,.str x.name,.aX false false 4 (x.aF.map cK),.aX false false 5 (x.kids.map fA)]]:List U)=base;have w:ai base 0=.box [aS x.op,aS x.who,.str x.name,.aX false false 4 (x.aF.map cK),.aX false false 5 (x.kids.map fA)]:=by rw[<-G];rfl
  clear G;refine ax ?_;have pick:∀K:I->Prop,K (.bool (decide (0<=x.op)&&decide (x.op<=2))) ->
    VV.gr (.bool (decide (x.op >= 0))) true (λk=>VV.rd (Qc 0 [.ak 0 0] base) k) λQ=>
    VV.gr (.bool (decide (x.op >= 0))) true (λk=>VV.rd (Xf false 1 [Q] base) k) λR=>
    VV.gr (.bool (decide (x.op >= 0))) true (λk=>VV.rd (Qn .leq false [R,(.int .i8 2)] base) k) λS=>
    VV.rd (Xk [.bool (decide (x.op >= 0)),S,(.bool false)] base) K:=by
   intro K T;rcases cE (decide (x.op >= 0))with h|h
   rotate_left
   ·rw[h];refine ay ?_;simp_all
   rw[h];refine ax ?_;simp_all
  refine pick _ ?_;clear pick;refine Zj λp r=>?_;have o:p [O (oJ x.op)] base:=by
   rw[r];clear r p;repeat first|refine Z (ld w rfl) ?_|refine Z (Xr ..) ?_|refine Z (vn ..) ?_|refine Z rfl ?_
   refine Zj λp r=>?_;have o:p [O (if x.op=3 then 1 else 0:Nat)] base:=by
    rw[r];clear r p;refine ax ?_;have pick:∀K:I->Prop,K (.bool (decide (x.op=4\/x.op=5))) ->
      VV.gr (.bool (decide (x.op=4))) false (λk=>VV.rd (Qc 0 [.ak 0 0] base) k) λV=>
      VV.gr (.bool (decide (x.op=4))) false (λk=>VV.rd (Xf false 1 [V] base) k) λX=>
      VV.gr (.bool (decide (x.op=4))) false (λk=>VV.rd (Qn .eql false [X,(.int .i8 5)] base) k) λY=>
      VV.rd (Xk [.bool (decide (x.op=4)),(.bool true),Y] base) K:=by
     intro K T;rcases cE (decide (x.op=4))with h|h
     ·rw[h];refine ay ?_;simp_all
     rw[h];refine ax ?_;simp_all
    refine pick _ ?_;clear pick;refine Zj λp r=>?_;have o:p [O (pO x.op)] base:=by
     rw[r];clear r p;refine ax ?_;have y:¬(0<=x.op/\x.op<=6/\x.aF.length=oJ x.op/\x.kids.length=pO x.op)->I.bool false=I.bool (jv x.op x.aF.length x.kids.length&&(dI t x.aF&&(ga cs t x.kids&&i_ cs x.op x.who x.name))):=by
      simp_all [jv]
     rcases cE (decide (x.op<0))with h1|h1
     ·rw[h1];refine ay (y ?_);simp at h1;omega
     rw[h1];refine ax ?_;rcases cE (decide (x.op>6))with h2|h2
     ·rw[h2];refine ay (y ?_);simp at h2;omega
     rw[h2];repeat first|refine Xb ?_|refine Xq ?_|refine Z (ld w rfl) ?_|refine Z (Xr ..) ?_|refine Z (vn ..) ?_|refine Z rfl ?_
     rcases cE (((x.aF.map cK).length:Int) != (oJ x.op:Int))with h3|h3
     ·rw[h3];repeat first|refine Yc rfl ?_|refine Xu rfl ?_|refine YG rfl ?_|refine XS rfl ?_|refine Z rfl ?_
      refine Xg (y ?_);simp at h3;omega
     rw[h3];refine ax (Ya (λh4=>y ?_) (λh4=>?_))
     ·simp at h4;omega
     simp at h1 h2 h3 h4;have H:jv x.op x.aF.length x.kids.length=true:=by simp[jv];omega
     rw[H,Ax];refine Zh (ι:=Nat) (λi z J=>z=[O i]/\J=base/\i<=x.aF.length/\dI t x.aF=dI t (x.aF.drop i)) (λi=>x.aF.length-i) 0 ⟨rfl,rfl,by omega,by simp⟩ ?_;rintro i z J again ⟨rfl,rfl,D,hu⟩ E;refine ax (Ya (λh=>?_) (λh=>?_))
     ·have h:i<x.aF.length:=by simpa using h
      have F:x.aF.drop i=x.aF[i]::x.aF.drop (i+1):=by rw[gB h]
      rw[F,dI]at hu;have C:x.aF[i]∈x.aF:=AI h;refine Z rfl (Z (ld w rfl) (Z (Zm _ cK _ _ _ x.aF _ i h) (Z (bg (sU _)) ?_)));refine Qm (c77 cs t _ (X2 hf C)) rfl g211.ok.plain (CS ..) (Z rfl (Ya (λh4=>?_) (λh4=>?_)))
      ·simp_all
      ·have h4:iF t x.aF[i]=true:=by simpa using h4
       rw[h4,Ax]at hu;refine Z (Qi ..) ?_;rw[Zd (n:=i) (by omega)]
       grind
     have h:i=x.aF.length:=by simp at h;omega
     subst h;rw[As,dI]at hu;rw[hu,Ax];clear E hu D y H;refine Zh (ι:=Nat) (λi z s=>z=[O i]/\s=J/\i<=x.kids.length/\ga cs t x.kids=ga cs t (x.kids.drop i)) (λi=>x.kids.length-i) 0 ⟨rfl,rfl,by omega,by simp⟩ ?_;rintro i z s again ⟨rfl,rfl,D,hu⟩ E;refine ax (Ya (λh=>?_) (λh=>?_))
     ·have h:i<x.kids.length:=by simpa using h
      have F:x.kids.drop i=x.kids[i]::x.kids.drop (i+1):=by rw[gB h]
      rw[F,ga]at hu;have C:x.kids[i]∈x.kids:=AI h;refine Z rfl (Z (ld w rfl) (Z (Zm _ fA _ _ _ x.kids _ i h) (Z (bg (z_ _)) ?_)));refine Qm (BO cs hZ t k _ (by have:=Bo C;omega) (Y2 hf C)) rfl g208.ok.plain (BW ..) (Z rfl (Ya (λh4=>?_) (λh4=>?_)))
      ·simp_all
      ·have h4:jI cs t x.kids[i]=true:=by simpa using h4
       rw[h4,Ax]at hu;refine Z (Qi ..) ?_;rw[Zd (n:=i) (by omega)]
       grind
     have h:i=x.kids.length:=by simp at h;omega
     subst h;rw[As,ga]at hu;rw[hu,Ax];clear E hu D;refine ax (Ya (λh5=>?_) (λh5=>?_))
     ·have h5:x.op=6:=by simpa using h5
      refine Z rfl (Z (ld w rfl) ?_);refine bD (c121 _) g213.ok ?_;rcases cE (nt x.who)with h6|h6
      rotate_left
      ·rw[h6];refine ay ?_;simp[i_,h5,h6]
      rw[h6];refine ax (bD (c228 cs hZ t _ _) g212.ok (ax ?_));simp[i_,h5,h6]
     have h5:x.op≠6:=by simpa using h5
     refine ax ?_;rcases cE (decide (x.who=0))with h6|h6
     rotate_left
     ·rw[h6];refine ay ?_;simp[h6,i_,h5]
     rw[h6];refine ax ?_;simp[h6,i_,h5]
    refine Ya (λh=>?_) (λh=>?_)
    ·have e:pO x.op=2:=by simp at h;simp[pO];omega
     rw[e]at o;exact o
    ·have e:pO x.op=if x.op=3 then 1 else 0:=by simp at h;simp[pO];omega
     rw[e]at o;exact o
   refine Ya (λh=>?_) (λh=>?_)
   ·rw[aE (by simpa using h)]at o;exact o
   ·rw[aB (by simpa using h)]at o;exact o
  refine Ya (λh=>?_) (λh=>?_)
  ·have e:oJ x.op=2:=by simp at h;simp[oJ,h]
   rw[e]at o;exact o
  ·have e:oJ x.op=0:=by simp at h;simp[oJ];omega
   rw[e]at o;exact o
theorem c226(cs:List Cd)(hZ:cs.length<=iC)(t:Bool)(x:Cn)(hf:cP x=true):PC 208 [.al (BT cs t) 0,.agg (fA x)] (.bool (jI cs t x)):=BO cs hZ t _ x (AO _) hf
def sm(t:Bool)(op who:Int):Bool:=if op=0\/op=1 then nt who||(decide (who=2)&&t)else decide (who=0)
def lE(t:Bool)(op who:Int):Bool:=
 if op=2\/op=4\/op=6 then nt who else sm t op who
mutual
def qP (cs:List Cd) (t:Bool):Int->Ef->Bool
 | d,.mk op who n name c cL cV=>decide (0<=op) && (decide (op<=8) && (if op=8 then
   decide (who=0)&&(fF n&&(name==[]&&(jI cs t c&&((decide (cL.length<=16)&&(decide (d+1<=8)&&cR cs t (d+1) cL))&&(decide (cV.length<=16)&&(decide (d+1<=8)&&cR cs t (d+1) cV))))))
  else fO c && (decide (cL.length=0) && (decide (cV.length=0) && ((if cQ op then iF t n else fF n) && ((if op=7 then eK cs name true else name == []) && lE t op who))))))
def cR (cs:List Cd) (t:Bool):Int->List Ef->Bool
 |_,[]=>true
 |d,x::l=>qP cs t d x&&cR cs t d l
end
def b_(cs:List Cd)(t:Bool)(d:Int)(l:List Ef):Bool:=decide (l.length<=16)&&(decide (d<=8)&&cR cs t d l)
theorem Dd(cs:List Cd)(t:Bool)(d:Int)(x:Ef):qP cs t d x=(decide (0<=x.op) && (decide (x.op<=8) && (if x.op=8 then
   decide (x.who=0)&&(fF x.n&&(x.name==[]&&(jI cs t x.c&&(b_ cs t (d+1) x.cL&&b_ cs t (d+1) x.cV))))
  else fO x.c && (decide (x.cL.length=0) && (decide (x.cV.length=0) && ((if cQ x.op then iF t x.n else fF x.n) && ((if x.op=7 then eK cs x.name true else x.name == []) && lE t x.op x.who))))))):=by cases x;rfl
theorem ah(k:B)(h:On B->A:=by intro k;(repeat (first|refine Xb ?_|refine Yc rfl ?_|refine Xq ?_|refine Xu rfl ?_|refine YG rfl ?_|refine XS rfl ?_|refine Z (Qi ..) ?_|refine Z (Xr ..) ?_|refine Z (QM ..) ?_|refine Z (Xy ..) ?_|refine Z (Y4 ..) ?_|refine Z (vn ..) ?_|refine Z (by assumption) ?_|refine Z (lx (by assumption) (by assumption)) ?_|refine Z (MZ (by assumption)) ?_|refine Z (lx (by assumption) (by rfl)) ?_|refine Z (MZ (by rfl)) ?_|refine Z rfl ?_));exact k.get):A:=h (Aw k)
theorem tO{R G:Prop}(imp:(True->R)->G)(r:R):G:=imp λ_=>r
theorem Dj{c V:Bool}{a b:Prop}(h:VV.test (.bool V) a b)(e:c=V):VV.test (.bool c) a b:=by rw[e];exact h
set_option maxHeartbeats 4000000
theorem xj(cs:List Cd)(hZ:cs.length<=iC)(t:Bool):∀(k:Nat) (l:List Ef) (d:Int),B3 l<=k->bz l=true->0<=d->PC 164 [.al (BT cs t) 0,gE l,O d] (.bool (b_ cs t d l))
 |0,l,_,h,_,_=>by cases l<;>simp at h
 |k+1,l,d,N,hf,hd=>by
  refine Xa hP g164.ok rfl rfl ?_;rw[H3.e];unfold g164;dsimp only;have hlen:=YF hf;rw[de]at hlen;refine ag ?_;repeat' (first|refine oz (λh=>?_) (λh=>?_)<;>(try rw[h])|refine Ya (λh=>?_) (λh=>?_))<;>refine ag ?_
  all_goals first
   |grind [b_]
   |skip
  have h16:l.length<=16/\d<=8:=by simp_all;omega
  rw[show b_ cs t d l=cR cs t d l by simp[b_,h16]];refine Zh (ι:=Nat) (λi z J=>z=[O i]/\i<=l.length/\cR cs t d l=cR cs t d (l.drop i)) (λi=>l.length-i) 0 ⟨rfl,by omega,by simp⟩ ?_;rintro i z J again ⟨rfl,R,r⟩ w;refine ag (qG (λh=>?_) (λh=>?_));rotate_left
  ·grind [cR]
  have h:i<l.length:=by simpa using h
  rw[gB h,cR]at r;have C:=AI h;have G:=EH C;have p:=XV hf C;have y:=λ(s:List U)=>Zm s bC false false 14 l .i64 i h;generalize l[i]=x at r G p y;have S:=Bu x;have hw:=ck (n:=d+1) (by omega) (by omega);refine wH (Z (y _) (Z (bg (m9 x)) ?_));refine Zq (row:=bC x) (row':=bC x) (by rw[Yz];rfl) (by rw[Yz];rfl) (by rw[Yz];rfl) ?_;have D:=Xc J (.box (bC x));generalize J++[U.box (bC x)]=base at D ⊢;generalize J.length=b at D ⊢;have T:=gQ x;have X:=nB x;have Y:=sk x;have p6:=Cc x;have p7:=oP x;have p12:=Bq x;have p13:=Bm x;rw[Dd]at r;refine ag (BA (λh e=>?_) (λh e=>?_))<;>rw[e]
  ·refine ag ?_
   grind
  refine ag (qG (λh2=>?_) (λh2=>?_))
  ·grind
  refine ag (qG (λH=>?_) (λH=>?_))
  ·refine ag ?_;repeat' (first
    |refine Qm (c225 _) rfl g207.ok.plain (nq _) ?_
    |refine Qm (c226 cs hZ t _ (X9 p)) rfl g208.ok.plain (BW ..) ?_
    | (rw[hw];first
     |refine bD (xj cs hZ t k x.cL (d+1) (by omega) (XP p) (by omega)) g164.ok ?_
     | refine bD (xj cs hZ t k x.cV (d + 1) (by omega) (YP p) (by omega)) g164.ok ?_)
    |refine oz (λh=>?_) (λh=>?_)<;>(try rw[h])
    | refine Ya (λh=>?_) (λh=>?_)) <;> (refine ag ?_)
   all_goals first
    |(rw[Zd (n:=i) (by omega)];exact w (i+1) _ _ (by omega) ⟨rfl,by omega,by grind⟩)
    |grind
  refine ag (Qm (c227 _) rfl g209.ok.plain (se _) ?_);refine ag ?_;repeat' (first|refine oz (λh=>?_) (λh=>?_)<;>(try rw[h])|refine Ya (λh=>?_) (λh=>?_))<;>refine ag ?_
  all_goals first
   |grind
   |skip
  apply tO
  ·intro o;repeat' (first
    |refine bD (c130 _) g210.ok ?_
    |refine Qm (c77 cs t _ (zP p)) rfl g211.ok.plain (CS ..) ?_
    |refine Qm (c225 _) rfl g207.ok.plain (nq _) ?_
    | refine oz (λh=>?_) (λh=>?_) <;> (try rw[h])) <;> (refine ah ?_)
   all_goals exact Dj (V:=!(if cQ x.op then iF t x.n else fF x.n)) (o ⟨⟩) (by grind)
  refine Ya (λE=>by grind) (λE=>?_);refine ag ?_;apply tO
  ·intro o;repeat' (first
    |refine bD (c228 cs hZ t _ _) g212.ok ?_
    |(refine BA (λh e=>?_) (λh e=>?_)<;>(try rw[e]))
    | refine oz (λh=>?_) (λh=>?_) <;> (try rw[h])) <;> (refine ah ?_)
   all_goals exact Dj (V:=!(if x.op=7 then eK cs x.name true else x.name==[])) (o ⟨⟩) (by grind)
  refine Ya (λF=>by grind) (λF=>?_);refine ag ?_;apply tO
  ·intro o;repeat' (first
    |refine Dj (a:=I.bool false=_) (V:=!lE t x.op x.who) (o ⟨⟩) ?_
    |refine wH ?_
    |refine Xg ?_
    |refine Yf ?_
    |refine bD (c121 _) g213.ok ?_
    |(refine BA (λh e=>?_) (λh e=>?_)<;>first|(exfalso;omega)|(try rw[e]))
    |refine qG (λh=>?_) (λh=>?_)<;>try (exfalso;omega)
    | refine oz (λh=>?_) (λh=>?_) <;> (try rw[h])) <;> (refine ah ?_)
   all_goals (clear r w y E F o;grind [lE,sm])
  refine Ya (λL=>by grind) (λL=>?_);refine ag ?_;rw[Zd (n:=i) (by omega)];have a0:0<=x.op:=by omega
  have a1:x.op<=8:=by omega
  exact w (i+1) _ _ (by omega) ⟨rfl,by omega,by clear w y;simp_all⟩
theorem c188(cs:List Cd)(hZ:cs.length<=iC)(t:Bool)(l:List Ef)(d:Int)(hf:bz l=true)(hd:0<=d):PC 164 [.al (BT cs t) 0,gE l,O d] (.bool (b_ cs t d l)):=xj cs hZ t _ l d (AO _) hf hd
def isLet(x:Int):Bool:=decide ((97<=x/\x<=122)\/(65<=x/\x<=90)\/(192<=x/\x<=591/\x≠215/\x≠247))
def jS(x:Int):Bool:=decide (48<=x/\x<=57)
def Nt(x:Int):Int:=AF.wrap (x*2 ^ (min 6 AF.bits))
def vb(x:Int)(c:UInt8):Int:=bits .or .i64 (Nt x) (AF.wrap (bits .and .u8 (c.toNat:Int) 63))
def sX(c:UInt8):Bool:=(bits .and .u8 (c.toNat:Int) 192 != 128)
def fH(s:Tx)(at_:Nat):Nat->Nat->Int->Option Int
 |0,_,x=>some x
 |m+1,i,x=>match s[at_+i]? with
  |none=>none
  |some c=>if sX c then none else fH s at_ m (i+1) (vb x c)
def eO(c:Int):Option (Nat×Int×Int):=
 if 192<=c/\c<224 then some (2,bits .and .i64 c 31,128)else if 224<=c/\c<240 then some (3,bits .and .i64 c 15,2048)else if 240<=c/\c<248 then some (4,bits .and .i64 c 7,65536)else if 128<=c then none else some (1,c,0)
def il(n:Nat)(least:Int):Option Int->Int×Nat
 |none=>(0,0)
 |some y=>if y<least\/1114111<y\/(55296<=y/\y<=57343)then (0,0)else (y,n)
def dY(s:Tx)(at_:Nat):Int×Nat:=match s[at_]? with
 |none=>(0,0)
 |some c=>match eO c.toNat with
  |none=>(0,0)
  |some (n,x,least)=>il n least (fH s at_ (n-1) 1 x)
def Bn(s:Tx)(at_ n:Nat):Prop:=(dY s at_).2=0\/(isLet (dY s at_).1=false/\(n=0\/(jS (dY s at_).1=false/\(dY s at_).1≠39)))
instance (s:Tx) (at_ n:Nat):Decidable (Bn s at_ n):=inferInstanceAs (Decidable (_\/_))
def ee(s:Tx)(at_ n:Nat):Nat×Nat:=
 if _h:at_<s.length then (if i:Bn s at_ n then (at_,n)else ee s (at_+(dY s at_).2) (n+1))else (at_,n)
termination_by s.length-at_
decreasing_by
 have:(dY s at_).2≠0:=λe=>i (Hg e);omega
def kI:List Tx->Tx->Bool
 |[],_=>false
 |k::l,s=>k==s||kI l s
def jU:List Tx:=[[99,97,114,100],
 [117,110,105,116],
 [99,104,97,114,109],
 [102,111,114,109,97,116],
 [112,108,97,121,101,100],
 [100,101,97,100],
 [100,97,119,110],
 [97,117,114,97],
 [115,104,105,101,108,100],
 [104,97,114,109],
 [109,101,110,100],
 [100,114,97,119],
 [103,97,105,110],
 [100,114,111,112],
 [108,111,111,107],
 [115,104,111,119],
 [115,117,109,109,111,110],
 [105,102],
 [101,108,115,101],
 [109,101],
 [102,111,101],
 [116,97,114,103,101,116],
 [108,105,102,101],
 [104,97,110,100],
 [100,101,99,107],
 [117,110,105,116,115],
 [109,97,110,97],
 [99,111,115,116],
 [116,111,112],
 [112,111,119,101,114],
 [109,105,110],
 [109,97,120],
 [110,111,116],
 [97,110,100],
 [111,114],
 [104,111,108,100,115],
 [108,101,97,115,116],
 [109,111,115,116],
 [99,111,112,105,101,115],
 [98,97,110,110,101,100],
 [115,105,110,103,108,101]]
def ej(s:Tx):Bool:=decide (1<=(ee s 0 0).2)&&(decide ((ee s 0 0).2<=24)&&(decide ((ee s 0 0).1=s.length)&&(decide (s.length<=40) && !kI jU s)))
variable{f2:I->aL}
variable{r1:aL}
theorem Dq{c:Bool}(h1:r1=.ok v1 [] [])(h2:f2 v1=.ok (.bool d) [] [])(i:K (.bool (c&&d))) :
  (W P GL).gr (.bool c) true (λk=>(W P GL).rd r1 k) λt1=>(W P GL).gr (.bool c) true (λk=>(W P GL).rd (f2 t1) k) λt2=>(W P GL).rd (Xk [.bool c,t2,.bool false] J) K:=by
 cases c with
 |true=>exact Xb (Z h1 (Xb (Z h2 (Z rfl i))))
 |false=>exact Yc rfl (Yc rfl (Z rfl i))
theorem c198(x:Int):PC 216 [O x] (.bool (jS x)):=by
 refine Xa hP g216.ok rfl rfl ?_;rw[H1.e];unfold g216;dsimp only;refine ag (oz (λh=>?_) (λh=>?_))<;>rw[h]<;>refine ag ?_<;>grind [jS]
theorem c197(x:Int):PC 215 [O x] (.bool (isLet x)):=by
 refine Xa hP g215.ok rfl rfl ?_;rw[H1.e];unfold g215;dsimp only;refine ag ?_;repeat' (first
  |(refine BA (λh e=>?_) (λh e=>?_)<;>first|(exfalso;omega)|(try rw[e]))
  |refine oz (λh=>?_) (λh=>?_)<;>(try rw[h])
  | refine qG (λh=>?_) (λh=>?_) <;> try (exfalso;omega)) <;> (refine ag ?_)
 all_goals grind [isLet]
theorem c196(s:Tx)(hs:s.length<=iC)(a:Nat)(ha:a<s.length):PC 214 [.str s,O a] (.bw [O (dY s a).1,O (dY s a).2]):=by
 rw[de]at hs;refine Xa hP g214.ok rfl rfl ?_;rw[H2.e];unfold g214;dsimp only;refine Z (Ydr _ s .i64 a ha) (Z (Zej ..) ?_);have D:s[a].toNat<256:=s[a].toNat_lt;rw[ck (n:=(s[a].toNat:Int)) (by omega) (by omega)];have hr:dY s a=match eO s[a].toNat with
  |none=>(0,0)
  |some (n,x,least)=>il n least (fH s a (n-1) 1 x):=by
  rw[dY,Cv ha]
 generalize s[a].toNat=N at hr D ⊢;obtain⟨c,E⟩:∃c:Int,c=(N:Int):=⟨_,rfl⟩;rw[<-E]at hr ⊢;have S:0<=c/\c<256:=by omega
 clear E D;refine Z rfl ?_;refine Dq rfl rfl (Zj λF w=>?_);have zero:∀y:Option Int,y=none->∀n least,I.bw [O 0,O 0]=I.bw [O (il n least y).1,O (il n least y).2]:=by
  rintro _ rfl n least;rfl
 have p:∀(n:Nat) (x least:Int),1<=n->n<=4->eO c=some (n,x,least)->F [O n,O x,O least] []:=by
  intro n x least n1 n4 G;rw[w];clear w F;rw[G]at hr
  replace hr:dY s a=il n least (fH s a (n-1) 1 x):=hr
  rw[hr];clear hr G;refine Zh (ι:=Nat) (λi H J=>∃y,H=[O i,O y]/\1<=i/\i<=n/\fH s a (n-1) 1 x=fH s a (n-i) i y) (λi=>n-i) 1 ⟨x,rfl,by omega,by omega,rfl⟩ ?_;rintro i H J again ⟨y,rfl,V,X,hu⟩ L;refine Z rfl (ZT (λh=>?_) (λh=>?_))
  ·have z:∀J,Qn .add false [O a,O i] J=.ok (O ((a+i:Nat):Int)) [] []:=λJ=>by
    rw[Qi,ck (by omega) (by omega)];rfl
   have Q:n-i=(n-(i+1))+1:=by omega
   rw[Q,fH]at hu;refine Z (z _) (Z rfl (Z rfl ?_));rcases cE (decide (((a+i:Nat):Int) >= (s.length:Int)))with h1|h1
   ·rw[h1];repeat first|refine Xb ?_|refine Xq ?_|refine Yc rfl ?_|refine Xu rfl ?_|refine YG rfl ?_|refine XS rfl ?_|refine Z rfl ?_
    refine Xg ?_;have h1:s.length<=a+i:=by simp at h1;omega
    rw[List.getElem?_eq_none h1]at hu;exact zero _ hu _ _
   rw[h1];have h1:a+i<s.length:=by simp at h1;omega
   have C:∀J,YR [.str s,O ((a+i:Nat):Int)] J=.ok (.int .u8 s[a+i].toNat) [] []:=λJ=>Ydr _ s .i64 (a+i) h1;rw[Cv h1]at hu;generalize s[a+i]=q at hu C;repeat first|refine Xb ?_|refine Z (z _) ?_|refine Z (C _) ?_|refine Z rfl ?_
   refine Ya (λh2=>?_) (λh2=>?_)
   ·have h2:sX q=true:=h2;simp only[h2,if_true]at hu;exact zero _ hu _ _
   ·have h2:sX q=false:=h2;simp only[h2,B8,if_false]at hu;refine Z rfl (Z (z _) (Z (C _) (Z rfl (Z (Zej ..) (Z rfl (Z (Qi ..) ?_))))));rw[Zd (n:=i) (by omega)];exact L (i+1) _ _ (by omega) ⟨_,rfl,by omega,by omega,hu⟩
  ·subst h;rw[Hu,fH]at hu;rw[hu];clear hu L zero;refine Z rfl ?_;have bad:(y<least\/1114111<y\/(55296<=y/\y<=57343))->I.bw [O 0,O 0]=I.bw [O (il i least (some y)).1,O (il i least (some y)).2]:=by
    intro hb;rw[il,aE hb];rfl
   have R:¬(y<least\/1114111<y\/(55296<=y/\y<=57343))->I.bw [O y,O i]=I.bw [O (il i least (some y)).1,O (il i least (some y)).2]:=by
    intro hb;rw[il,aB hb]
   refine ag ?_;repeat' (first
    |(refine BA (λh e=>?_) (λh e=>?_)<;>first|(exfalso;omega)|(try rw[e]))
    | refine qG (λh=>?_) (λh=>?_) <;> try (exfalso;omega)) <;> (refine ag ?_)
   all_goals first
    |exact bad (by omega)
    |exact R (by omega)
 clear w;refine Ya (λh=>?_) (λn1=>?_)
 ·have h:192<=c/\c<224:=by simpa using h
  refine Z rfl (p 2 _ _ (by omega) (by omega) ?_);rw[eO,aE h]
 have n1:¬(192<=c/\c<224):=by simp at n1;omega
 refine Z rfl (Dq rfl rfl ?_);refine Ya (λh=>?_) (λo=>?_)
 ·have h:224<=c/\c<240:=by simpa using h
  refine Z rfl (p 3 _ _ (by omega) (by omega) ?_);rw[eO,aB n1,aE h]
 have o:¬(224<=c/\c<240):=by simp at o;omega
 refine Z rfl (Dq rfl rfl ?_);refine Ya (λh=>?_) (λr=>?_)
 ·have h:240<=c/\c<248:=by simpa using h
  refine Z rfl (p 4 _ _ (by omega) (by omega) ?_);rw[eO,aB n1,aB o,aE h]
 have r:¬(240<=c/\c<248):=by simp at r;omega
 refine Z rfl (Ya (λh=>?_) (λh=>?_))
 ·have h:128<=c:=by simpa using h
  have e:eO c=none:=by rw[eO,aB n1,aB o,aB r,aE h]
  rw[hr,e];rfl
 ·have h:¬128<=c:=by simpa using h
  exact p 1 _ _ (by omega) (by omega) (by rw[eO,aB n1,aB o,aB r,aB h])
theorem Yeb{c:Int}{n:Nat}{x least:Int}(h:eO c=some (n,x,least)):n<=4:=by
 grind [eO]
theorem XcV(s:Tx)(a:Nat):(dY s a).2<=4:=by
 unfold dY;split
 ·simp
 ·split
  ·simp
  ·rename_i n x least h;have:=Yeb h;cases fH s a (n-1) 1 x<;>grind [il]
theorem c193(s:Tx)(hs:s.length<=iC)(a0:Nat)(ha0:a0<=s.length):PC 169 [.str s,O a0] (.bw [O (ee s a0 0).1,O (ee s a0 0).2]):=by
 have z:=hs;rw[de]at z;refine Xa hP g169.ok rfl rfl ?_;rw[H2.e];unfold g169;dsimp only;refine Zj λk0 r=>?_;have p:∀a n:Nat,ee s a0 0=(a,n)->k0 [O a,O n] []:=by
  intro a n e;rw[r,e];exact rfl
 clear r;refine Zh (ι:=Nat) (λa w J=>∃n:Nat,w=[O a,O n]/\J=[]/\n<=a/\a<=s.length+4/\ee s a0 0=ee s a n) (λa=>s.length+10-a) a0 ⟨0,rfl,rfl,by omega,by omega,rfl⟩ ?_;rintro a w J again ⟨n,rfl,rfl,D,E,hu⟩ y;refine Z rfl (Z rfl ?_);refine Ya (λh=>?_) (λh=>?_);rotate_left
 ·have h:¬a<s.length:=by simpa using h
  exact p a n (by rw[hu,ee,dif_neg h])
 have h:a<s.length:=by simpa using h
 refine bD (c196 s hs a h) g214.ok (Z rfl (Z rfl ?_));have i:Bn s a n->k0 [O a,O n] []:=λo=>p a n (by rw[hu,ee,dif_pos h,dif_pos o]);have cont:¬Bn s a n->again [O ((a+(dY s a).2:Nat):Int),O ((n+1:Nat):Int)] []:=by
  intro o;have h1:(dY s a).2≠0:=λe=>o (Hg e);have h4:=XcV s a;exact y _ _ _ (by omega) ⟨n+1,rfl,rfl,by omega,by omega,by rw[hu,ee,dif_pos h,dif_neg o]⟩
 have h4:=XcV s a;unfold Bn at i cont;clear y hu p;generalize (dY s a).1=x at i cont ⊢;generalize (dY s a).2=k at i cont h4 ⊢;refine ag ?_;repeat' (first
  |refine bD (c197 _) g215.ok ?_
  |refine bD (c198 _) g216.ok ?_
  |refine oz (λh=>?_) (λh=>?_)<;>(try rw[h])
  | refine Ya (λh=>?_) (λh=>?_)) <;> (refine ag ?_)
 all_goals first
  |exact i (by grind)
  |(rw[Zd (n:=n) (by omega),ck (n:=(a:Int)+(k:Int)) (by omega) (by omega)];exact cont (by grind))
theorem c229:∃e n,PC 217 [] (.aX e n 1 (jU.map vR)):=by
 have o:∃v i,g217.u VV [] [] (λp J=>p=v/\J=i)/\∃e n,DH i v=some (.aX e n 1 (jU.map vR)):=by
  unfold g217;dsimp only[H0.u];apply Ls;apply Ls;apply And.intro
  ·refine Qd rfl rfl ?_;exact⟨rfl,rfl⟩
  ·exact⟨_,_,rfl⟩
 obtain⟨v,i,h1,e,n,h2⟩:=o;exact⟨e,n,Uy hP g217.ok rfl ⟨v,i,h2,h1⟩⟩
theorem yK(x:Tx):aO false 0 1 (vR x)=some (.str x):=rfl
theorem c194(s:Tx):PC 170 [.str s] (.bool (kI jU s)):=by
 refine Xa hP g170.ok rfl rfl ?_;rw[H1.e];unfold g170;dsimp only;obtain⟨e,n,p⟩:=c229;refine bD p g217.ok ?_;have hlen:jU.length=41:=rfl;generalize jU=l at hlen ⊢;refine Zh (ι:=Nat) (λi o J=>o=[O i]/\i<=l.length/\kI l s=kI (l.drop i) s) (λi=>l.length-i) 0 ⟨rfl,by omega,by simp⟩ ?_;rintro i o J again ⟨rfl,y,hu⟩ z;refine Z rfl (Z rfl ?_);refine Ya (λh=>?_) (λh=>?_)
 ·have h:i<l.length:=by simpa using h
  have r:l.drop i=l[i]::l.drop (i+1):=by rw[gB h]
  rw[r,kI]at hu;refine Z (Zm _ vR _ _ _ l .i64 i h) (Z (bg (yK _)) (Z (vn ..) ?_));refine Ya (λh=>?_) (λh=>?_)
  ·rw[hu,h];rfl
  ·rw[h,FD]at hu;refine Z (Qi ..) ?_;rw[Zd (n:=i) (by omega)]
   grind
 ·have h:i=l.length:=by simp at h;omega
  subst h;rw[As]at hu;rw[hu];rfl
theorem c147(s:Tx)(hs:s.length<=iC):PC 130 [.str s] (.bool (ej s)):=by
  refine Xa hP g130.ok rfl rfl ?_;rw[H1.e];unfold g130;dsimp only;have:=c193 s hs 0 (by omega);refine bD this g169.ok ?_;unfold ej;generalize (ee s 0 0).1=e;generalize (ee s 0 0).2=n;refine ag ?_;repeat' (first
    |refine bD (c194 _) g170.ok ?_
    | (refine BA (λh k=>?_) (λh k=>?_) <;> (try rw[k]))) <;> (refine ag ?_)
  all_goals first
    |grind
    | (have q:e=s.length:=by omega
       grind)
    | (have q:e≠s.length:=by omega
       grind)
def cw(n:Int):Bool:=decide (0<=n)&&decide (n<=999)
def i9(c:Cd):Bool:=if c.unit then decide (1<=c.cm)else decide (c.e8+c.cm+c.dZ+c.f_+c.fh<=0)&&decide (c.dead.length+c.dw.length=0)
def pN(c:Cd):Int:=min (eF 0 c.bp+eF 0 c.dead+eF 0 c.dw) 1073741824
def eQ(cs:List Cd)(c:Cd):Bool:=
 ej c.name&&(cw c.cost&&(cw c.e8&&(cw c.cm&&(cw c.dZ&&(cw c.f_&&(cw c.fh&&(i9 c&&(decide (pN c<=200)&&(b_ cs true 1 c.bp&&(b_ cs false 1 c.dead&&b_ cs false 1 c.dw))))))))))
def gq(c:Cd):Bool:=decide (c.name.length<=iC)&&(bz c.bp&&(bz c.dead&&bz c.dw))
def QE(l:List Cd):Bool:=decide (l.length<=iC)&&l.all gq
def eA(cs:List Cd):List Cd->List Cd->Int×Int
 |_,[]=>(0,0)
 |pre,c::l=>if pre.any λd=>d.name==c.name then (101,c.pl)else if eQ cs c then eA cs (pre++[c]) l else (130,c.pl)
def dD(cs:List Cd):Int×Int:=if 240<cs.length then (3,0)else eA cs [] cs
theorem c145(cs:List Cd)(hZ:cs.length<=iC)(c:Cd)(hf:gq c=true):PC 128 [iX cs,.agg (cM c)] (.bool (eQ cs c)):=by
 simp only[gq,AA,fe]at hf;obtain⟨y,s,f2,p⟩:=hf;refine Xa hP g128.ok rfl rfl ?_;rw[H2.e];unfold g128;dsimp only;refine Qd rfl rfl ?_;generalize w:([]++[U.box (cM c)]:List U)=base;have Q:ai base 0=.box (cM c):=by rw[<-w];rfl
 refine ag ?_;apply tO
 ·intro r;repeat' (first
   |refine bD (c147 _ y) g130.ok ?_
   |refine bD (c187 _) g162.ok ?_
   | refine oz (λh=>?_) (λh=>?_) <;> (try rw[h])) <;> (refine ah ?_)
  all_goals exact Dj (V:=!(ej c.name&&(cw c.cost&&(cw c.e8&&(cw c.cm&&(cw c.dZ&&(cw c.f_&&cw c.fh))))))) (r ⟨⟩) (by grind [cw])
 refine Ya (λh=>by grind [eQ]) (λz=>?_);have C:=z;simp only[cw,Bool.not_eq_false',AA,fe]at C;have D:=YF f2;have E:=YF p;rw[de]at D E;have F:=ck (n:=c.e8+c.cm) (by omega) (by omega);have G:=ck (n:=c.e8+c.cm+c.dZ) (by omega) (by omega);have H:=ck (n:=c.e8+c.cm+c.dZ+c.f_) (by omega) (by omega);have L:=ck (n:=c.e8+c.cm+c.dZ+c.f_+c.fh) (by omega) (by omega);have N:=ck (n:=(c.dead.length:Int)+(c.dw.length:Int)) (by omega) (by omega);refine ag ?_;apply tO
 ·intro r;repeat' (refine oz (λh=>?_) (λh=>?_)<;>(try rw[h]))<;>refine ah ?_
  all_goals exact Dj (V:=!i9 c) (r ⟨⟩) (by (try simp only[Be,F,G,H,L,N]);grind [i9])
 refine Ya (λh=>by grind [eQ]) (λR=>?_);rw[show eQ cs c=(decide (pN c<=200)&&(b_ cs true 1 c.bp&&(b_ cs false 1 c.dead&&b_ cs false 1 c.dw))) by grind [eQ]];refine ag ?_;refine(bD (c110 c s f2 p) g163.ok (Z rfl (Ya (λh=>?_) (λh=>?_))))
 ·grind [pN]
 have h:pN c<=200:=by simp at h;unfold pN;omega
 simp only[h,decide_true,Ax];subst w;refine ay (ZH (c188 cs hZ true c.bp 1 s (by omega)) rfl g164.ok.plain rfl rfl ?_);rcases cE (b_ cs true 1 c.bp)with i|i
 rotate_left
 ·rw[i];refine ax ?_;simp[i]
 rw[i];refine ay (ZH (c188 cs hZ false c.dead 1 f2 (by omega)) rfl g164.ok.plain rfl rfl (ay ?_));rcases cE (b_ cs false 1 c.dead)with o|o
 rotate_left
 ·rw[o];refine ay ?_;simp[i,o]
 rw[o];refine ay (ZH (c188 cs hZ false c.dw 1 p (by omega)) rfl g164.ok.plain rfl rfl (ay ?_));simp[i,o]
theorem oH(x:Cd):aO true 0 12 (cM x)=some (.agg (cM x)):=rfl
theorem PW(x:Cd):aO false 11 1 (cM x)=some (O x.pl):=rfl
theorem c113(cs:List Cd)(hf:QE cs=true):PC 82 [iX cs] (.agg [O (dD cs).1,O (dD cs).2]):=by
 simp only[QE,AA,fe]at hf;obtain⟨y,F⟩:=hf;have f02:=y;rw[de]at f02;refine Xa hP g82.ok rfl rfl ?_;rw[H1.e];unfold g82;dsimp only;refine ay (Ya (λh=>?_) (λh=>?_))
 ·have h:240<cs.length:=by simp at h;omega
  refine ay ?_;rw[dD,aE h]
 have h:¬240<cs.length:=by simp at h;omega
 rw[dD,aB h];refine Zh (ι:=Nat) (λi p J=>p=[O i]/\J=[.box [O 0,O 0]]/\i<=cs.length/\eA cs [] cs=eA cs (cs.take i) (cs.drop i)) (λi=>cs.length-i) 0 ⟨rfl,rfl,by omega,by simp⟩ ?_;rintro i p J again ⟨rfl,rfl,r,hu⟩ L;refine Z rfl (Z rfl ?_);refine Ya (λh=>?_) (λh=>?_);rotate_left
 ·have h:i=cs.length:=by simp at h;omega
  subst h;rw[As,eA]at hu;refine ay ?_;rw[hu]
 have r:i<cs.length:=by simpa using h
 have z:cs.drop i=cs[i]::cs.drop (i+1):=by rw[gB r]
 have w:=λ(s:List U)=>Zm s cM false false 12 cs .i64 i r;have C:=C1.1 F _ (AI r);have D:cs.take (i+1)=cs.take i++[cs[i]]:=Yv cs i r;generalize cs[i]=c at z w C D;rw[z,eA]at hu;refine Zh (ι:=Nat) (λj p J=>p=[O j]/\J=[.box [O 0,O 0]]/\j<=i/\(cs.take i).any (λd=>d.name==c.name)=((cs.take i).drop j).any (λd=>d.name==c.name)) (λj=>i-j) 0 ⟨rfl,rfl,by omega,by simp⟩ ?_;rintro j p J N ⟨rfl,rfl,Q,o⟩ R;refine Z rfl (ZT (λh=>?_) (λh=>?_))
 ·have H:j<(cs.take i).length:=by rw[EM];omega
  have E:(cs.take i).drop j=(cs.take i)[j]::(cs.take i).drop (j+1):=by rw[gB H]
  rw[Gc]at E;rw[E,HB]at o;refine Z (Zm _ cM false false 12 cs .i64 j (by omega)) (Z rfl (Z (bg (qi _)) (Z (w _) (Z rfl (Z (bg (qi _)) (Z (vn ..) ?_))))));refine Ya (λh=>?_) (λh=>?_)
  ·rw[h,Bool.true_or]at o;rw[o,aE rfl]at hu;refine Z (w _) (Z rfl (Z (bg (PW _)) ?_));refine ay ?_;rw[hu]
  ·rw[h,FD]at o;refine Z (Qi ..) ?_;rw[Zd (n:=j) (by omega)]
   grind
 subst h;rw[Fq (by rw[EM];omega),MP]at o;rw[o]at hu
 replace hu:eA cs [] cs=if eQ cs c then eA cs (cs.take j++[c]) (cs.drop (j+1))else (130,c.pl):=hu
 rw[<-D]at hu;refine Z (w _) (Z (bg (oH _)) ?_);refine bD (c145 cs y c C) g128.ok (Z rfl (Ya (λh=>?_) (λh=>?_)))
 ·have h:eQ cs c=false:=by simpa using h
  rw[h]at hu
  replace hu:eA cs [] cs=(130,c.pl):=hu
  refine Z (w _) (Z rfl (Z (bg (PW _)) ?_));refine ay ?_;rw[hu]
 ·have h:eQ cs c=true:=by simpa using h
  rw[h,aE rfl]at hu;refine Z (Qi ..) ?_;rw[Zd (n:=j) (by omega)]
  grind
def mT(a:Int):Int:=if a<0\/3<a then 3 else a
def dC(a b:Int):Int:=if mT a=mT b\/mT b=0 then mT a else if mT a=0 then mT b else 3
def HT(a b:Int):Bool:=decide (dC a b=dC b b)
mutual
def ue:Nm->Int
 |.mk op _ _ kids=>if 8<=op/\op<=12 then i4 (if op=6 then 3 else 0) kids else if op=6 then 3 else 0
def i4:Int->List Nm->Int
 |n,[]=>n
 |n,x::l=>i4 (dC n (ue x)) l
end
theorem Zem(x:Nm):ue x=if 8<=x.op/\x.op<=12 then i4 (if x.op=6 then 3 else 0) x.kids else if x.op=6 then 3 else 0:=by cases x;rfl
mutual
def tM:Cn->Int
 |.mk op who _ aF kids=>if op=6 then (if who=0 then 1 else if who=1 then 2 else 3)else oK (i4 0 aF) kids
def oK:Int->List Cn->Int
 |n,[]=>n
 |n,x::l=>oK (dC n (tM x)) l
end
theorem Qeh(x:Cn):tM x=if x.op=6 then (if x.who=0 then 1 else if x.who=1 then 2 else 3)else oK (i4 0 x.aF) x.kids:=by cases x;rfl
mutual
def tP (u:Int):Ef->Bool
 |.mk op _ n _ c cL cV=>if op=5 then HT (dC u (ue n)) 1 else if op=8 then ic (dC u (tM c)) cL&&ic (dC u (tM c)) cV else if op=0\/op=1\/op=2\/op=3 then decide (dC u (ue n)=0)else decide (dC u u=0)
def ic (u:Int):List Ef->Bool
 |[]=>true
 |x::l=>tP u x&&ic u l
end
theorem JJ(u:Int)(x:Ef):tP u x=if x.op=5 then HT (dC u (ue x.n)) 1 else if x.op=8 then ic (dC u (tM x.c)) x.cL&&ic (dC u (tM x.c)) x.cV else if x.op=0\/x.op=1\/x.op=2\/x.op=3 then decide (dC u (ue x.n)=0)else decide (dC u u=0):=by cases x;rfl
theorem YM{c:Bool}(h1:r1=.ok v1 [] [])(h2:f2 v1=.ok (.bool d) [] [])(i:K (.bool (c||d))) :
  (W P GL).gr (.bool c) false (λk=>(W P GL).rd r1 k) λt1=>(W P GL).gr (.bool c) false (λk=>(W P GL).rd (f2 t1) k) λt2=>(W P GL).rd (Xk [.bool c,.bool true,t2] J) K:=by
 cases c with
 |false=>exact Xb (Z h1 (Xb (Z h2 (Z rfl i))))
 |true=>exact Yc rfl (Yc rfl (Z rfl i))
theorem HN{c:Bool}{f3:I->aL}{v2:I}{q1 q2 q3:List Nat}(h1:r1=.ok v1 q1 [])(h2:f2 v1=.ok v2 q2 [])(h3:f3 v2=.ok (.bool d) q3 [])(i:K (.bool (c&&d))) :
  (W P GL).gr (.bool c) true (λk=>(W P GL).rd r1 k) λt1=>(W P GL).gr (.bool c) true (λk=>(W P GL).rd (f2 t1) k) λo=>(W P GL).gr (.bool c) true (λk=>(W P GL).rd (f3 o) k) λt3=>(W P GL).rd (Xk [.bool c,t3,.bool false] J) K:=by
 cases c with
 |true=>exact Xb (Z h1 (Xb (Z h2 (Xb (Z h3 (Z rfl i))))))
 |false=>exact Yc rfl (Yc rfl (Yc rfl (Z rfl i)))
theorem c190(a b:Int):PC 166 [aS a,aS b] (aS (dC a b)):=by
 refine Xa hP g166.ok rfl rfl ?_;rw[H2.e];unfold g166;dsimp only;refine Z rfl (YM rfl rfl ?_);refine Zj λk1 o=>?_;have i:k1 [aS (mT a)] []:=by
  rw[o];clear o k1;refine Z rfl (YM rfl rfl ?_);refine Zj λk1 o=>?_;have i:k1 [aS (mT b)] []:=by
   rw[o];clear o k1;unfold dC;generalize mT a=a;generalize mT b=b;refine Z (Xr ..) ?_;have p:∀K:I->Prop,K (.bool (decide (a=b)||decide (b=0)))->VV.gr (.bool (decide (a=b))) false (λk=>VV.rd (mi [aS b] []) k) λt22=>VV.gr (.bool (decide (a=b))) false (λk=>VV.rd (Qn .eql false [t22,(.int .i8 0)] []) k) λt23=>VV.rd (Xk [.bool (decide (a=b)),(.bool true),t23] []) K:=λK r=>YM rfl (Xr ..) r;refine p _ (Ya (λh=>?_) (λh=>?_))
   ·rw[aE (by simpa using h)];rfl
   have h:¬(a=b\/b=0):=by simpa using h
   rw[aB h];refine Z (Xr ..) (Ya (λh=>?_) (λh=>?_))
   ·rw[aE (by simpa using h)];rfl
   ·rw[aB (by simpa using h)]
  refine Ya (λh=>?_) (λh=>?_)
  ·rw[mT,aE (by simpa using h)]at i;exact i
  ·rw[mT,aB (by simpa using h)]at i;exact i
 refine Ya (λh=>?_) (λh=>?_)
 ·rw[mT,aE (by simpa using h)]at i;exact i
 ·rw[mT,aB (by simpa using h)]at i;exact i
theorem c189(a b:Int):PC 165 [aS a,aS b] (.bool (HT a b)):=by
 refine Xa hP g165.ok rfl rfl ?_;rw[H2.e];unfold g165;dsimp only;refine bD (c190 a b) g166.ok (bD (c190 b b) g166.ok (Z (Xr ..) ?_));rfl
theorem BJ:∀(k:Nat) (x:Nm),B3 x<=k->di x=true->PC 167 [.agg (cK x)] (aS (ue x))
 |0,x,h,_=>by cases x;simp at h
 |k+1,x,D,hf=>by
  rw[YD];refine Xa hP g167.ok rfl rfl ?_;rw[H1.e];unfold g167;dsimp only;refine Qd rfl rfl ?_;rw[Zem];have hlen:=It hf;rw[de]at hlen;generalize r:([]++[U.box [aS x.op,O x.n,aS x.who,.aX false false 4 (x.kids.map cK)]]:List U)=base;have o:ai base 0=.box [aS x.op,O x.n,aS x.who,.aX false false 4 (x.kids.map cK)]:=by rw[<-r];rfl
  clear r;refine Z rfl (Z (ld o rfl) (Z (Xr ..) ?_));refine Zj λk1 s=>?_;have p:k1 [aS (if x.op=6 then 3 else 0)] base:=by
   rw[s];clear s k1;generalize (if x.op=6 then (3:Int)else 0)=n0;refine Z rfl (Z (ld o rfl) (Z rfl ?_));refine HN rfl (ld o rfl) rfl ?_;rw[show (decide (x.op >= 8)&&decide (x.op<=12))=decide (8<=x.op/\x.op<=12) by simp];refine Ya (λh=>?_) (λh=>?_);rotate_left
   ·rw[aB (by simpa using h)];rfl
   rw[aE (by simpa using h)];refine Zh (ι:=Nat) (λi w J=>∃n,w=[O i,aS n]/\J=base/\i<=x.kids.length/\i4 n0 x.kids=i4 n (x.kids.drop i)) (λi=>x.kids.length-i) 0 ⟨n0,rfl,rfl,by omega,by simp⟩ ?_;rintro i w J again ⟨n,rfl,rfl,F,hu⟩ z;repeat first|refine Z (ld o rfl) ?_|refine Z rfl ?_
   refine Ya (λh=>?_) (λh=>?_)
   ·have h:i<x.kids.length:=by simpa using h
    have C:x.kids.drop i=x.kids[i]::x.kids.drop (i+1):=by rw[gB h]
    rw[C,i4]at hu;have y:x.kids[i]∈x.kids:=AI h;refine Z rfl (Z (ld o rfl) (Z (Zm _ cK _ _ _ x.kids _ i h) (Z (bg (sU _)) ?_)));refine Qm (BJ k _ (by have:=zM y;omega) (QV hf y)) rfl g167.ok.plain (nq _) (bD (c190 _ _) g166.ok (Z (Qi ..) ?_));rw[Zd (n:=i) (by omega)];exact z (i+1) _ _ (by omega) ⟨_,rfl,rfl,by omega,hu⟩
   ·have h:i=x.kids.length:=by simp at h;omega
    subst h;rw[As,i4]at hu;rw[hu];rfl
  refine Ya (λh=>?_) (λh=>?_)
  ·have e:x.op=6:=by simpa using h
   rw[aE e]at p;exact p
  ·have e:x.op≠6:=by simpa using h
   rw[aB e]at p;exact p
theorem c191(x:Nm)(hf:di x=true):PC 167 [.agg (cK x)] (aS (ue x)):=BJ _ x (AO _) hf
theorem BK:∀(k:Nat) (x:Cn),B3 x<=k->cP x=true->PC 168 [.agg (fA x)] (aS (tM x))
 |0,x,h,_=>by cases x;simp at h
 |k+1,x,G,hf=>by
  rw[QN];refine Xa hP g168.ok rfl rfl ?_;rw[H1.e];unfold g168;dsimp only;refine Qd rfl rfl ?_;rw[Qeh];have D:=XY hf;have E:=YY hf;rw[de]at D E;generalize z:([]++[U.box [aS x.op,aS x.who,.str x.name,.aX false false 4 (x.aF.map cK),.aX false false 5 (x.kids.map fA)]]:List U)=base;have o:ai base 0=.box [aS x.op,aS x.who,.str x.name,.aX false false 4 (x.aF.map cK),.aX false false 5 (x.kids.map fA)]:=by rw[<-z];rfl
  clear z;refine Z rfl (Z (ld o rfl) (Z (Xr ..) ?_));refine Ya (λh=>?_) (λh=>?_)
  ·rw[aE (by simpa using h)];refine Z rfl (Z (ld o rfl) (Z (Xr ..) ?_));refine Ya (λh=>?_) (λh=>?_)
   ·rw[aE (by simpa using h)]
   rw[aB (by simpa using h)];refine Z (Xr ..) (Ya (λh=>?_) (λh=>?_))
   ·rw[aE (by simpa using h)]
   ·rw[aB (by simpa using h)]
  rw[aB (by simpa using h)];refine Zh (ι:=Nat) (λi p J=>∃n,p=[O i,aS n]/\J=base/\i<=x.aF.length/\i4 0 x.aF=i4 n (x.aF.drop i)) (λi=>x.aF.length-i) 0 ⟨0,rfl,rfl,by omega,by simp⟩ ?_;rintro i p J again ⟨n,rfl,rfl,C,hu⟩ r;repeat first|refine Z (ld o rfl) ?_|refine Z rfl ?_
  refine Ya (λh=>?_) (λh=>?_)
  ·have h:i<x.aF.length:=by simpa using h
   have y:x.aF.drop i=x.aF[i]::x.aF.drop (i+1):=by rw[gB h]
   rw[y,i4]at hu;have w:x.aF[i]∈x.aF:=AI h;refine Z rfl (Z (ld o rfl) (Z (Zm _ cK _ _ _ x.aF _ i h) (Z (bg (sU _)) ?_)));refine Qm (c191 _ (X2 hf w)) rfl g167.ok.plain (nq _) (bD (c190 _ _) g166.ok (Z (Qi ..) ?_));rw[Zd (n:=i) (by omega)];exact r (i+1) _ _ (by omega) ⟨_,rfl,rfl,by omega,hu⟩
  have h:i=x.aF.length:=by simp at h;omega
  subst h;rw[As,i4]at hu;rw[hu];clear r hu C;refine Zh (ι:=Nat) (λi p s=>∃m,p=[O i,aS m]/\s=J/\i<=x.kids.length/\oK n x.kids=oK m (x.kids.drop i)) (λi=>x.kids.length-i) 0 ⟨n,rfl,rfl,by omega,by simp⟩ ?_;rintro i p s again ⟨m,rfl,rfl,C,hu⟩ r;repeat first|refine Z (ld o rfl) ?_|refine Z rfl ?_
  refine Ya (λh=>?_) (λh=>?_)
  ·have h:i<x.kids.length:=by simpa using h
   have y:x.kids.drop i=x.kids[i]::x.kids.drop (i+1):=by rw[gB h]
   rw[y,oK]at hu;have w:x.kids[i]∈x.kids:=AI h;refine Z rfl (Z (ld o rfl) (Z (Zm _ fA _ _ _ x.kids _ i h) (Z (bg (z_ _)) ?_)));refine Qm (BK k _ (by have:=Bo w;omega) (Y2 hf w)) rfl g168.ok.plain (se _) (bD (c190 _ _) g166.ok (Z (Qi ..) ?_));rw[Zd (n:=i) (by omega)];exact r (i+1) _ _ (by omega) ⟨_,rfl,rfl,by omega,hu⟩
  ·have h:i=x.kids.length:=by simp at h;omega
   subst h;rw[As,oK]at hu;rw[hu];rfl
theorem c192(x:Cn)(hf:cP x=true):PC 168 [.agg (fA x)] (aS (tM x)):=BK _ x (AO _) hf
def KR(c:Cd):Bool:=ic 0 c.bp&&(ic 0 c.dead&&ic 0 c.dw)
def ju:List Cd->Int×Int
 |[]=>(0,0)
 |c::l=>if KR c then ju l else (140,c.pl)
theorem Qr{n:Nat}(hb:b<J.length)(hv:aO true j n row=some v):fz true n (.ak b j) (J.set b (.box row))=some v:=by
 simp_all [fz,Qp]
theorem wZ:∀(k:Nat) (l:List Ef) (u:Int),B3 l<=k->bz l=true->PC 129 [aS u,gE l] (.bool (ic u l))
 |0,l,_,h,_=>by cases l<;>simp at h
 |k+1,l,u,E,hf=>by
  refine Xa hP g129.ok rfl rfl ?_;rw[H2.e];unfold g129;dsimp only;have hlen:=YF hf;rw[de]at hlen;refine Zh (ι:=Nat) (λi p J=>p=[O i]/\i<=l.length/\ic u l=ic u (l.drop i)) (λi=>l.length-i) 0 ⟨rfl,by omega,by simp⟩ ?_;rintro i p J again ⟨rfl,G,hu⟩ z;refine Z rfl (Z rfl ?_);refine Ya (λh=>?_) (λh=>?_);rotate_left
  ·have h:i=l.length:=by simp at h;omega
   subst h;rw[As,ic]at hu;rw[hu]
  have h:i<l.length:=by simpa using h
  have C:l.drop i=l[i]::l.drop (i+1):=by rw[gB h]
  rw[C,ic]at hu;have r:l[i]∈l:=AI h;have D:=EH r;have o:=XV hf r;have w:=λ(s:List U)=>Zm s bC false false 14 l .i64 i h;generalize l[i]=x at hu D o w;rw[JJ]at hu;have H:=Bu x;refine wH (Z (w _) (Z (bg (m9 x)) ?_));refine Zq (row:=bC x) (row':=bC x) (by rw[Yz];rfl) (by rw[Yz];rfl) (by rw[Yz];rfl) ?_;have y:=Xc J (.box (bC x));generalize J ++ [U.box (bC x)]=base at y ⊢;generalize J.length=b at y ⊢;have L:=gQ x;have N:=nB x;have Q:=sk x;have R:=oP x;have p12:=Bq x;have p13:=Bm x;refine ag ?_;repeat' (first
   |refine wH ?_
   |refine Qm (c191 _ (zP o)) rfl g167.ok.plain (nq _) ?_
   |refine Qm (c192 _ (X9 o)) rfl g168.ok.plain (se _) ?_
   |refine bD (c190 _ _) g166.ok ?_
   |refine bD (c189 _ _) g165.ok ?_
   |refine bD (wZ k x.cL _ (by omega) (XP o)) g129.ok ?_
   |refine bD (wZ k x.cV _ (by omega) (YP o)) g129.ok ?_
   |refine qG (λh=>?_) (λh=>?_)<;>try (exfalso;omega)
   |refine oz (λh=>?_) (λh=>?_)<;>(try rw[h])
   | refine Ya (λh=>?_) (λh=>?_)) <;> (refine ag ?_)
  all_goals first
   |(rw[Zd (n:=i) (by omega)];exact z (i+1) _ _ (by omega) ⟨rfl,by omega,by grind⟩)
   |grind
theorem c146(l:List Ef)(u:Int)(hf:bz l=true):PC 129 [aS u,gE l] (.bool (ic u l)):=wZ _ l u (AO _) hf
theorem c114(cs:List Cd)(hf:QE cs=true):PC 83 [iX cs] (.agg [O (ju cs).1,O (ju cs).2]):=by
 simp only[QE,AA,fe]at hf;obtain⟨G,H⟩:=hf;rw[de]at G;refine Xa hP g83.ok rfl rfl ?_;rw[H1.e];unfold g83;dsimp only;refine Qd rfl rfl (Zh (ι:=Nat) (λi C J=>C=[O i]/\ai J 0=.box [O 0,O 0]/\0<J.length/\i<=cs.length/\ju cs=ju (cs.drop i)) (λi=>cs.length-i) 0 ⟨rfl,rfl,by simp,by omega,by simp⟩ ?_);rintro i C J again ⟨rfl,r,w,o,hu⟩ L;refine Z rfl (Z rfl ?_);refine Ya (λh=>?_) (λh=>?_);rotate_left
 ·have h:i=cs.length:=by simp at h;omega
  subst h;rw[As,ju]at hu;refine Z rfl (Qd (cO r rfl rfl rfl) (Ye _ w) (Zp (Qr w rfl) ?_));rw[hu]
 have o:i<cs.length:=by simpa using h
 have D:cs.drop i=cs[i]::cs.drop (i+1):=by rw[gB o]
 have E:=λ(s:List U)=>Zm s cM false false 12 cs .i64 i o;have y:=C1.1 H _ (AI o);generalize cs[i]=c at D E y;rw[D,ju]at hu;simp only[gq,AA,fe]at y;obtain⟨g0,g1,N,g9993⟩:=y;refine Z (E _) (Z (bg (oH _)) (Zq (row:=cM c) (row':=cM c) rfl rfl rfl ?_));have F:=Xc J (U.box (cM c));have z:ai (J++[U.box (cM c)]) 0=.box [O 0,O 0]:=Zb _ r;have p:0<(J++[U.box (cM c)]).length:=by simp
 generalize J++[U.box (cM c)]=base at F z p ⊢;generalize J.length=b at F ⊢;clear r w;refine ag ?_;apply tO
 ·intro Q;repeat' (first
   |refine bD (c146 _ 0 g1) g129.ok ?_
   |refine bD (c146 _ 0 N) g129.ok ?_
   |refine bD (c146 _ 0 g9993) g129.ok ?_
   | refine oz (λh=>?_) (λh=>?_) <;> (try rw[h])) <;> (refine ah ?_)
  all_goals exact Dj (V:=!KR c) (Q ⟨⟩) (by grind [KR])
 refine Ya (λR=>?_) (λR=>?_)
 ·have hu:ju cs=(140,c.pl):=by grind
  refine ag (Qd (cO z rfl rfl rfl) (Ye _ p) (Zp (Qr p rfl) ?_));rw[hu]
 refine ag ?_;rw[Zd (n:=i) (by omega)];exact L (i+1) _ _ (by omega) ⟨rfl,z,p,by omega,by grind⟩
def gf:Nat->List Cd->Tx->Nat×Bool
 |_,[],_=>(0,false)
 |i,c::l,t=>if c.name==t then (i,true)else gf (i+1) l t
def iz(cs:List Cd):List Tx->List Tx->Bool
 |_,[]=>true
 |pre,t::l=>((gf 0 cs t).2&&pre.all λp=>!(p==t))&&iz cs (pre++[t]) l
def mH(b:Bk)(pre:List Fo)(f:Fo):Bool:=
 !(pre.any λg=>g.name==f.name)&&(decide (pre.length<240)&&(ej f.name&&(decide (0<=f.least)&&(decide (f.least<=f.most)&&(decide (f.most<=60)&&(decide (0<=f.jJ)&&(decide (f.jJ<=999)&&(iz b.aj [] f.jk&&iz b.aj [] f.single))))))))
def gy(b:Bk):List Fo->List Fo->Int×Int
 |_,[]=>(0,0)
 |pre,f::l=>if mH b pre f then gy b (pre++[f]) l else (151,f.pl)
def bO(b:Bk):Int×Int:=if (dD b.aj).1≠0 then dD b.aj else if (ju b.aj).1≠0 then ju b.aj else gy b [] b.ar
def oS(f:Fo):Bool:=decide (f.name.length<=iC)&&(decide (f.jk.length<=iC)&&decide (f.single.length<=iC))
def aN(b:Bk):Bool:=QE b.aj&&(decide (b.ar.length<=iC)&&b.ar.all oS)
theorem c195(b:Bk)(hc:b.aj.length<=iC)(t:Tx):PC 171 [dd b,.str t] (.bw [O (gf 0 b.aj t).1,.bool (gf 0 b.aj t).2]):=by
 rw[de]at hc;refine Xa hP g171.ok rfl rfl ?_;rw[H2.e];unfold g171;dsimp only;refine Qd rfl rfl ?_;generalize o:([]++[U.box [iX b.aj,oT b.ar]]:List U)=base;have p:ai base 0=.box [iX b.aj,oT b.ar]:=by rw[<-o];rfl
 clear o;generalize b.aj=cs at hc p ⊢;refine Zh (ι:=Nat) (λi r J=>r=[O i]/\J=base/\i<=cs.length/\gf 0 cs t=gf i (cs.drop i) t) (λi=>cs.length-i) 0 ⟨rfl,rfl,by omega,by simp⟩ ?_;rintro i r J again ⟨rfl,rfl,y,hu⟩ z;refine ax (Ya (λh=>?_) (λh=>?_))
 ·have h:i<cs.length:=by simpa using h
  have s:cs.drop i=cs[i]::cs.drop (i+1):=by rw[gB h]
  rw[s,gf]at hu;refine Z rfl (Z (ld p rfl) (Z (Zm _ cM false false 12 cs .i64 i h) (Z rfl (Z (bg (qi _)) (Z (vn ..) ?_)))));refine Ya (λh=>?_) (λh=>?_)
  ·rw[aE h]at hu;rw[hu];rfl
  ·rw[aB (by simpa using h)]at hu;refine Z (Qi ..) ?_;rw[Zd (n:=i) (by omega)]
   grind
 grind [gf]
theorem c148(b:Bk)(hc:b.aj.length<=iC)(l:List Tx)(hl:l.length<=iC):PC 131 [dd b,I9 l] (.bool (iz b.aj [] l)):=by
 rw[de]at hl;refine Xa hP g131.ok rfl rfl ?_;rw[H2.e];unfold g131;dsimp only;refine Qd rfl rfl (Zh (ι:=Nat) (λi o J=>o=[O i]/\J=[]++[U.box [iX b.aj,oT b.ar]]/\i<=l.length/\iz b.aj [] l=iz b.aj (l.take i) (l.drop i)) (λi=>l.length-i) 0 ⟨rfl,rfl,by omega,by simp⟩ ?_);rintro i o J again ⟨rfl,rfl,H,w⟩ L;refine Z rfl (Z rfl ?_);refine Ya (λh=>?_) (λh=>?_);rotate_left
 ·grind [iz]
 have h:i<l.length:=by simpa using h
 have z:l.drop i=l[i]::l.drop (i+1):=by rw[gB h]
 have y:=λ(s:List U)=>Zm s vR false false 1 l .i64 i h;have C:l.take (i+1)=l.take i++[l[i]]:=Yv l i h;generalize l[i]=t at z y C;rw[z,iz,<-C]at w;refine Ze rfl rfl (Ze (y _) rfl (Ze (bg (yK _)) rfl ?_));refine YX (c195 b hc t) g171.ok ?_;refine ay ?_;refine Zh (ι:=Nat) (λk o J=>∃ok,o=[O k,.bool ok]/\J=[]++[U.box [iX b.aj,oT b.ar]]/\k<=i/\((gf 0 b.aj t).2&&(l.take i).all λp=>!(p==t))=(ok&&((l.take i).drop k).all λp=>!(p==t))) (λk=>i-k) 0 ⟨_,rfl,rfl,by omega,by simp⟩ ?_;rintro k o J N ⟨ok,rfl,rfl,Q,r⟩ D;refine Z rfl (ZT (λh2=>?_) (λh2=>?_))
 ·have hkx:k<(l.take i).length:=by rw[EM];omega
  have E:(l.take i).drop k=(l.take i)[k]::(l.take i).drop (k+1):=by rw[gB hkx]
  rw[Gc]at E;rw[E,List.all_cons,<-FL]at r;cases ok with
  |true=>
   have G:=λ(s:List U)=>Zm s vR false false 1 l .i64 k (by omega);repeat first|refine Xb ?_|refine Z (G _) ?_|refine Z (y _) ?_|refine Z (bg (yK _)) ?_|refine Z rfl ?_
   rw[Zd (n:=k) (by omega)];exact D (k+1) _ _ (by omega) ⟨_,rfl,rfl,by omega,by rw[r,Ax]⟩
  |false=>
   refine ay ?_;rw[Zd (n:=k) (by omega)];exact D (k+1) _ _ (by omega) ⟨_,rfl,rfl,by omega,by rw[r];simp⟩
 subst h2;rw[Fq (by rw[EM];omega),List.all_nil,DZ]at r;rw[r]at w;refine Z rfl (Ya (λh3=>?_) (λh3=>?_))
 ·simp_all
 ·have h3:ok=true:=by simpa using h3
  subst h3;rw[Ax]at w;refine Z (Qi ..) ?_;rw[Zd (n:=k) (by omega)]
  grind
theorem Lg(x:Fo):aO true 0 7 (oR x)=some (.agg (oR x)):=rfl
theorem Lh(x:Fo):aO false 0 1 (oR x)=some (.str x.name):=rfl
theorem Li(x:Fo):aO false 6 1 (oR x)=some (O x.pl):=rfl
theorem c115(b:Bk)(hc:b.aj.length<=iC)(tT:b.ar.length<=iC)(k:Nat)(hk:k<b.ar.length)(hf:oS b.ar[k]=true):PC 84 [dd b,O k] (.bool (mH b (b.ar.take k) b.ar[k])):=by
 rw[de]at tT;refine Xa hP g84.ok rfl rfl ?_;rw[H2.e];unfold g84;dsimp only;refine Qd rfl rfl ?_;have D:=λ(s:List U)=>Zm s oR false false 7 b.ar .i64 k hk;generalize b.ar[k]=f at hf D ⊢;simp only[oS,AA,fe]at hf;obtain⟨H,L,f2⟩:=hf;refine Z rfl (Z rfl (Z (D _) (Z (bg (Lg f)) (Zq (row:=oR f) (row':=oR f) rfl rfl rfl ?_))));generalize E:([]++[U.box [iX b.aj,oT b.ar]]++[U.box (oR f)]:List U)=base;have N:ai base 0=.box [iX b.aj,oT b.ar]:=by rw[<-E];rfl
 have Q:ai base 1=.box (oR f):=by rw[<-E];rfl
 clear E;have htl:(b.ar.take k).length=k:=by rw[EM];omega
 refine Zh (ι:=Nat) (λj F J=>F=[O j]/\J=base/\j<=k/\((b.ar.take k).any λg=>g.name==f.name)=(((b.ar.take k).drop j).any λg=>g.name==f.name)) (λj=>k-j) 0 ⟨rfl,rfl,by omega,by simp⟩ ?_;rintro j F J again ⟨rfl,rfl,V,z⟩ R;refine Z rfl (ZT (λh=>?_) (λh=>?_))
 ·have S:j<(b.ar.take k).length:=by omega
  have G:(b.ar.take k).drop j=(b.ar.take k)[j]::(b.ar.take k).drop (j+1):=by rw[gB S]
  rw[Gc]at G;rw[G,HB]at z;refine Z rfl (Z (ld N rfl) (Z (Zm _ oR false false 7 b.ar .i64 j (by omega)) (Z rfl (Z (bg (Lh _)) (Z rfl (Z (ld Q rfl) (Z (vn ..) ?_)))))));refine Ya (λh=>?_) (λh=>?_)
  ·grind [mH]
  ·rw[h,FD]at z;refine Z (Qi ..) ?_;rw[Zd (n:=j) (by omega)]
   grind
 subst h;rw[Fq (by omega),MP]at z;unfold mH;rw[z,htl,Ej,Ax];clear z R D;refine Z rfl ?_;rcases cE (decide ((j:Int) >= 240))with i|i
 ·rw[i];refine ax ?_
  grind
 rw[i];refine ax ?_;have i:j<240:=by simp at i;omega
 refine bD (c147 _ H) g130.ok (ax (Ya (λa2=>?_) (λa2=>?_)))
 ·simp_all
 have a2:ej f.name=true:=by simpa using a2
 rw[gA i,a2,Ax,Ax];clear i a2;refine ax ?_;rcases cE (decide (f.least >= 0))with o|o
 rotate_left
 ·rw[o];refine ax ?_;rfl
 rw[o];refine ax ?_;have o:0<=f.least:=by simpa using o
 rcases cE (decide (f.least<=f.most))with p|p
 rotate_left
 ·rw[p];refine ax ?_;rfl
 rw[p];refine ax ?_;have p:f.least<=f.most:=by simpa using p
 rcases cE (decide (f.most<=60))with r|r
 rotate_left
 ·rw[r];refine ax ?_;rfl
 rw[r];refine ax ?_;have r:f.most<=60:=by simpa using r
 rcases cE (decide (f.jJ >= 0))with w|w
 rotate_left
 ·rw[w];refine ax ?_;rfl
 rw[w];refine ax ?_;have w:0<=f.jJ:=by simpa using w
 rcases cE (decide (f.jJ<=999))with y|y
 rotate_left
 ·rw[y];refine ax ?_;rfl
 rw[y];refine ax ?_;have y:f.jJ<=999:=by simpa using y
 simp only[o,p,r,w,y,decide_true,Ax];refine bD (c148 b hc _ L) g131.ok (ax ?_);rcases cE (iz b.aj [] f.jk)with C|C
 rotate_left
 ·rw[C];refine ax ?_;simp[C]
 rw[C];refine ax (bD (c148 b hc _ f2) g131.ok (ax ?_));simp[C]
theorem c67(b:Bk)(hf:aN b=true):PC 50 [dd b] (.agg [O (bO b).1,O (bO b).2]):=by
 simp only[aN,AA,fe]at hf;obtain⟨o,p,f2⟩:=hf;have f12:=p;rw[de]at f12;have F:b.aj.length<=iC:=by simp_all [QE]
 refine Xa hP g50.ok rfl rfl ?_;rw[H1.e];unfold g50;dsimp only;refine ay ?_;refine bD (c113 _ o) g82.ok ?_;refine ay ?_;unfold bO;refine Ya (λh=>?_) (λh=>?_)
 ·rw[aE (by simpa using h)];refine ay rfl
 rw[aB (by simpa using h)];refine Z rfl (Z rfl ?_);refine bD (c114 _ o) g83.ok (ay (Ya (λh=>?_) (λh=>?_)))
 ·rw[aE (by simpa using h)];refine ay rfl
 rw[aB (by simpa using h)];generalize dD b.aj=r;generalize ju b.aj=w;refine Zh (ι:=Nat) (λi y J=>y=[O i]/\J=[]++[U.box [iX b.aj,oT b.ar]]++[.box [O 0,O 0]]++[.box [O r.1,O r.2]]++[.box [O w.1,O w.2]]/\i<=b.ar.length/\gy b [] b.ar=gy b (b.ar.take i) (b.ar.drop i)) (λi=>b.ar.length-i) 0 ⟨rfl,rfl,by omega,by simp⟩ ?_;rintro i y J again ⟨rfl,rfl,H,hu⟩ L;refine ay (Ya (λh=>?_) (λh=>?_));rotate_left
 ·have h:i=b.ar.length:=by simp at h;omega
  subst h;rw[As,gy]at hu;refine ay ?_;rw[hu]
 have h:i<b.ar.length:=by simpa using h
 have z:b.ar.drop i=b.ar[i]::b.ar.drop (i+1):=by rw[gB h]
 have C:=λ(s:List U)=>Zm s oR false false 7 b.ar .i64 i h;have D:b.ar.take (i+1)=b.ar.take i++[b.ar[i]]:=Yv b.ar i h;have E:=c115 b F p i h (C1.1 f2 _ (AI h));generalize b.ar[i]=f at z C D E;rw[z,gy,<-D]at hu;refine Z rfl (bD E g84.ok (Z rfl (Ya (λh3=>?_) (λh3=>?_))))
 ·rw[aB (by simpa using h3)]at hu;refine Z rfl (Z rfl (Z (C _) (Z rfl (Z (bg (Li _)) ?_))));refine ay ?_;rw[hu]
 ·rw[aE (by simpa using h3)]at hu;refine Z (Qi ..) ?_;rw[Zd (n:=i) (by omega)]
  grind
structure nQ (row:List I) (j:Nat) (x:Nm):Prop where
 h0:aO false (j+0) 1 row=some (aS x.op)
 h1:aO false (j+1) 1 row=some (O x.n)
 h2:aO false (j+2) 1 row=some (aS x.who)
 h3:aO false (j+3) 1 row=some (.aX false false 4 (x.kids.map cK))
theorem rB(x:Nm):nQ (cK x) 0 x:=by rw[YD];exact⟨rfl,rfl,rfl,rfl⟩
theorem CQ(x:Ef):nQ (bC x) 2 x.n:=by rw[Yz];exact⟨rfl,rfl,rfl,rfl⟩
theorem c210(w:Int):PC 175 [aS w] (.bool (cQ w)):=by
 refine Xa hP g175.ok rfl rfl ?_;rw[H1.e];unfold g175;dsimp only;refine ag ?_;repeat' (first|refine wH ?_|refine Ya (λh=>?_) (λh=>?_))<;>refine ag ?_
 all_goals grind [cQ]
theorem c212(w:Int):PC 177 [aS w] (.bool (nt w)):=by
 refine Xa hP g177.ok rfl rfl ?_;rw[H1.e];unfold g177;dsimp only;refine ag (oz (λh=>?_) (λh=>?_))<;>(try rw[h])<;>refine ag ?_<;>grind [nt]
theorem BL(u:I)(t:Bool):∀(k:Nat) (x:Nm) (row:List I) (j:Nat),nQ row j x->B3 x<=k->di x=true->PC 176 [.al [u,.bool t] 0,.al row j] (.bool (iF t x))
 |0,x,_,_,_,h,_=>by cases x;simp at h
 |k+1,x,row,j,⟨F,G,H,L⟩,N,hf=>by
  refine Xa hP g176.ok rfl rfl ?_;rw[H2.e];unfold g176;dsimp only;rw[OC];have hlen:=It hf;rw[de]at hlen;refine ag (Zj λk11 r=>?_);have z:∀(p o:Bool) (s:Int),s=zm x.op->(0<=x.op/\x.op<=12)->(p&&o)=jh t x.op x.n x.who->k11 [.bool p,.bool o,O s] []:=by
   rintro p o _ rfl Q hpo;rw[r];clear r k11;refine ag ?_;repeat' (first|refine oz (λh=>?_) (λh=>?_)<;>(try rw[h])|refine Ya (λh=>?_) (λh=>?_))<;>refine ag ?_
   all_goals first
    |grind [kD]
    |skip
   have C:kD t x.op x.n x.who x.kids.length=true:=by simp at h;simp[kD];omega
   rw[C,show jh t x.op x.n x.who=true by grind,Ax,DZ,Be];refine Zh (ι:=Nat) (λi w J=>w=[O i]/\J=[]/\i<=x.kids.length/\dI t x.kids=dI t (x.kids.drop i)) (λi=>x.kids.length-i) 0 ⟨rfl,rfl,by omega,by simp⟩ ?_;rintro i w J again ⟨rfl,rfl,S,D⟩ E;refine Z rfl (ZT (λh=>?_) (λh=>?_))
   ·rw[gB h,dI]at D;have y:=AI h;refine ag (Z (Zm _ cK _ _ _ x.kids _ i h) ?_);refine bD (BL u t k _ _ 0 (rB _) (by have:=zM y;omega) (QV hf y)) g176.ok (ag (Ya (λh4=>?_) (λh4=>?_)))
    ·grind
    ·refine ag ?_;rw[Zd (n:=i) (by omega)];exact E (i+1) _ _ (by omega) ⟨rfl,rfl,by omega,by grind⟩
   grind [dI]
  clear r;refine ag ?_;repeat' (first
   |refine wH ?_
   |refine bD (c212 _) g177.ok ?_
   |refine oz (λh=>?_) (λh=>?_)<;>(try rw[h])
   | refine Ya (λh=>?_) (λh=>?_)) <;> (refine ag ?_)
  all_goals first
   |exact z _ _ _ (by grind [zm]) (by grind) (by grind [jh])
   |grind [kD]
theorem c211(u:I)(t:Bool)(x:Nm)(row:List I)(j:Nat)(hx:nQ row j x)(hf:di x=true):PC 176 [.al [u,.bool t] 0,.al row j] (.bool (iF t x)):=BL u t _ x row j hx (AO _) hf
def cA(t:Tx):List (Tx×Bool)->Option Bool
 |[]=>none
 |p::l=>if t==p.1 then some p.2 else cA t l
def jn(l:List (Tx×Bool)):List (I×I):=l.map λp=>(I.str p.1,I.bool p.2)
theorem Kc(t:Tx):∀l,js (.str t) (jn l)=some ((cA t l).map I.bool)
 |[]=>rfl
 |p::l=>by
  simp only[jn,B7,js,jA,cA];cases h:t==p.1 with
  |true=>rfl
  |false=>exact Kc t l
def z7(l:List (Tx×Bool))(t:Bool):List I:=[.fI (jn l),.bool t]
theorem Xeu(l:List (Tx×Bool))(t:Tx)(J:List U):Yu true true (.bool false) [.fI (jn l),.str t] J=.ok (.bw [.bool ((cA t l).getD false),.bool (cA t l).isSome]) [] []:=by
 show (match js (.str t) (jn l)with
  |some r=>aL.ok (lK true (.bool false) r) [] []
  | none=>.stop)=_
 rw[Kc];cases cA t l<;>rfl
theorem QcK(l:List (Tx×Bool))(t:Tx)(J:List U):Yu true false (.bool false) [.fI (jn l),.str t] J=.ok (.bool ((cA t l).getD false)) [] []:=by
 show (match js (.str t) (jn l)with
  |some r=>aL.ok (lK false (.bool false) r) [] []
  | none=>.stop)=_
 rw[Kc];cases cA t l<;>rfl
def oC(l:List (Tx×Bool))(cs:List Cd):Prop:=∀t u,eK cs t u=match cA t l with
 |none=>false
 |some b=>b || !u
structure tB (row:List I) (j:Nat) (x:Cn):Prop where
 h0:aO false (j+0) 1 row=some (aS x.op)
 h1:aO false (j+1) 1 row=some (aS x.who)
 h2:aO false (j+2) 1 row=some (.str x.name)
 h3:aO false (j+3) 1 row=some (.aX false false 4 (x.aF.map cK))
 h4:aO false (j+4) 1 row=some (.aX false false 5 (x.kids.map fA))
theorem z8(x:Cn):tB (fA x) 0 x:=by rw[QN];exact⟨rfl,rfl,rfl,rfl,rfl⟩
theorem BV(x:Ef):tB (bC x) 7 x.c:=by rw[Yz];exact⟨rfl,rfl,rfl,rfl,rfl⟩
theorem Xef{c:Bool}{f3 f4 f5:I->aL}{v2 v3 v4:I}{q1 q2 q3 q4 q5:List Nat}(h1:r1=.ok v1 q1 [])(h2:f2 v1=.ok v2 q2 [])(h3:f3 v2=.ok v3 q3 [])(h4:f4 v3=.ok v4 q4 [])(h5:f5 v4=.ok (.bool d) q5 [])(i:K (.bool (c&&d))) :
  (W P GL).gr (.bool c) true (λk=>(W P GL).rd r1 k) λt1=>(W P GL).gr (.bool c) true (λk=>(W P GL).rd (f2 t1) k) λo=>(W P GL).gr (.bool c) true (λk=>(W P GL).rd (f3 o) k) λp=>(W P GL).gr (.bool c) true (λk=>(W P GL).rd (f4 p) k) λr=>(W P GL).gr (.bool c) true (λk=>(W P GL).rd (f5 r) k) λt5=>(W P GL).rd (Xk [.bool c,t5,.bool false] J) K:=by
 cases c with
 |true=>exact Xb (Z h1 (Xb (Z h2 (Xb (Z h3 (Xb (Z h4 (Xb (Z h5 (Z rfl i))))))))))
 |false=>exact Yc rfl (Yc rfl (Yc rfl (Yc rfl (Yc rfl (Z rfl i)))))
theorem BN(l:List (Tx×Bool))(cs:List Cd)(hU:oC l cs)(t:Bool):∀(k:Nat) (x:Cn) (row:List I) (j:Nat),tB row j x->B3 x<=k->cP x=true->PC 178 [.al (z7 l t) 0,.al row j] (.bool (jI cs t x))
 |0,x,_,_,_,h,_=>by cases x;simp at h
 |k+1,x,row,j,⟨Q,R,C,S,T⟩,V,hf=>by
  refine Xa hP g178.ok rfl rfl ?_;rw[H2.e];unfold g178;dsimp only;rw[Tf];have D:=XY hf;have E:=YY hf;rw[de]at D E;have F:=Xeu l x.name [];have hUx:=hU x.name false;refine ag (Xef rfl rfl rfl (bg C) (vn ..) ?_);refine ag (Zj λk13 r=>?_);have G:∀(ok:Bool) (k3 w:Int),k3=oJ x.op->w=pO x.op->(0<=x.op/\x.op<=6)->ok=i_ cs x.op x.who x.name->k13 [.bool ok,O k3,O w] []:=by
   rintro ok _ _ rfl rfl X H;rw[r];clear r k13 F hUx;refine ag ?_;repeat' (first|refine oz (λh=>?_) (λh=>?_)<;>(try rw[h])|refine Ya (λh=>?_) (λh=>?_))<;>refine ag ?_
   all_goals first
    |grind [jv]
    |skip
   rename_i h3;have L:jv x.op x.aF.length x.kids.length=true:=by simp at h3 h;simp[jv];omega
   rw[L,<-H,show ok=true by grind,Ax,DZ,Be];refine Zh (ι:=Nat) (λi o J=>o=[O i]/\J=[]/\i<=x.aF.length/\dI t x.aF=dI t (x.aF.drop i)) (λi=>x.aF.length-i) 0 ⟨rfl,rfl,by omega,by simp⟩ ?_;rintro i o J again ⟨rfl,rfl,y,hu⟩ p;refine Z rfl (ZT (λh=>?_) (λh=>?_))
   ·rw[gB h,dI]at hu;refine ag (Z (Zm _ cK _ _ _ x.aF _ i h) ?_);refine bD (c211 _ t _ _ 0 (rB _) (X2 hf (AI h))) g176.ok (ag (Ya (λh4=>?_) (λh4=>?_)))
    ·grind
    ·refine ag ?_;rw[Zd (n:=i) (by omega)];exact p (i+1) _ _ (by omega) ⟨rfl,rfl,by omega,by grind⟩
   rw[h,As,dI]at hu;rw[hu,Ax];clear p hu y;refine ag ?_;rw[Be];refine(Zh (ι:=Nat) (λi o s=>o=[O i]/\s=[]/\i<=x.kids.length/\ga cs t x.kids=ga cs t (x.kids.drop i)) (λi=>x.kids.length-i) 0 ⟨rfl,rfl,by omega,by simp⟩ ?_);rintro i o s again ⟨rfl,rfl,y,hu⟩ p;refine Z rfl (ZT (λh=>?_) (λh=>?_))
   ·rw[gB h,ga]at hu;have z:=AI h;refine ag (Z (Zm _ fA _ _ _ x.kids _ i h) ?_);refine bD (BN l cs hU t k _ _ 0 (z8 _) (by have:=Bo z;omega) (Y2 hf z)) g178.ok (ag (Ya (λh4=>?_) (λh4=>?_)))
    ·grind
    ·refine ag ?_;rw[Zd (n:=i) (by omega)];exact p (i+1) _ _ (by omega) ⟨rfl,rfl,by omega,by grind⟩
   grind [ga]
  clear r;refine ag ?_;repeat' (first
   |refine wH ?_
   |refine bD (c212 _) g177.ok ?_
   |refine oz (λh=>?_) (λh=>?_)<;>(try rw[h])
   | refine qG (λh=>?_) (λh=>?_) <;> try (exfalso;omega)) <;> (refine ag ?_)
  all_goals first
   |exact G _ _ _ (by grind [oJ]) (by grind [pO]) (by omega) (by grind [i_])
   |grind [jv]
theorem c213(l:List (Tx×Bool))(cs:List Cd)(hU:oC l cs)(t:Bool)(x:Cn)(row:List I)(j:Nat)(hx:tB row j x)(hf:cP x=true):PC 178 [.al (z7 l t) 0,.al row j] (.bool (jI cs t x)):=BN l cs hU t _ x row j hx (AO _) hf
def vj(x:Ef):Bool:=((cQ x.op||fF x.n)&&(decide (x.op=7)||x.name==[]))&&(decide (x.op=8)||(decide (x.c.op=0)&&(decide (x.c.who=0)&&(x.c.name==[]&&decide (x.c.aF.length+x.c.kids.length+x.cL.length+x.cV.length=0)))))
theorem c209(x:Ef)(hf:dO x=true):PC 174 [.al (bC x) 0] (.bool (vj x)):=by
 have i:=XY (X9 hf);have o:=YY (X9 hf);have p:=YF (XP hf);have r:=YF (YP hf);rw[de]at i o p r;have s:=ck (n:=(x.c.aF.length:Int)+x.c.kids.length) (by omega) (by omega);have w:=ck (n:=(x.c.aF.length:Int)+x.c.kids.length+x.cL.length) (by omega) (by omega);have y:=ck (n:=(x.c.aF.length:Int)+x.c.kids.length+x.cL.length+x.cV.length) (by omega) (by omega);have z:(x.c.aF.length:Int)+x.c.kids.length+x.cL.length+x.cV.length=0↔x.c.aF.length+x.c.kids.length+x.cL.length+x.cV.length=0:=by omega
 rw[Yz];refine Xa hP g174.ok rfl rfl ?_;rw[H1.e];unfold g174;dsimp only;refine ae (bD (c210 _) g175.ok (ae ?_));repeat' (refine oz (λh=>?_) (λh=>?_)<;>(try rw[h])<;>refine ae ?_)
 all_goals ((try simp only[Be,s,w,y,z]);grind [vj,fF])
def sj(cs:List Cd)(t:Bool)(d:Int)(x:Ef):Bool:=
 if x.op=0\/x.op=1 then nt x.who||(decide (x.who=2)&&t)
 else if x.op=2\/x.op=4\/x.op=6 then nt x.who
 else if x.op=3\/x.op=5 then decide (x.who=0)
 else if x.op=7 then decide (x.who=0)&&eK cs x.name true
 else if x.op=8 then decide (x.who=0)&&(jI cs t x.c&&(b_ cs t (d+1) x.cL&&b_ cs t (d+1) x.cV))
 else false
theorem YdB(x:Ef):(decide (x.c.op=0)&&(decide (x.c.who=0)&&(x.c.name==[]&&decide (x.c.aF.length+x.c.kids.length+x.cL.length+x.cV.length=0))))=(fO x.c&&(decide (x.cL.length=0)&&decide (x.cV.length=0))):=by
 grind [fO]
theorem XeU(cs:List Cd)(t:Bool)(d:Int)(x:Ef):qP cs t d x=((vj x&&(!cQ x.op||iF t x.n))&&sj cs t d x):=by
 rw[Dd,vj,YdB];by_cases hr:0<=x.op/\x.op<=8;rotate_left
 ·grind [sj]
 obtain⟨r1,i⟩:=hr;rw[gA r1,gA i,Ax,Ax];generalize fO x.c=o;generalize decide (x.cL.length=0)=p;generalize decide (x.cV.length=0)=r;generalize fF x.n=s;generalize iF t x.n=w;generalize (x.name==[])=y;unfold sj lE sm
 grind [cQ]
theorem YeU(x:Ef):nQ (bC x) (0+2) x.n:=CQ x
theorem ZeU(x:Ef):tB (bC x) (0+7) x.c:=BV x
theorem xi(m:List (Tx×Bool))(cs:List Cd)(hU:oC m cs)(t:Bool):∀(k:Nat) (l:List Ef) (d:Int),B3 l<=k->bz l=true->0<=d->PC 133 [.al (z7 m t) 0,gE l,O d] (.bool (b_ cs t d l))
 |0,l,_,h,_,_=>by cases l<;>simp at h
 |k+1,l,d,G,hf,hd=>by
  refine Xa hP g133.ok rfl rfl ?_;rw[H3.e];unfold g133;dsimp only;have hlen:=YF hf;rw[de]at hlen;refine Z rfl (Z rfl ?_);refine YM rfl rfl (Ya (λh=>?_) (λh=>?_))
  ·grind [b_]
  have h:l.length<=16/\d<=8:=by simp at h;omega
  have w:b_ cs t d l=cR cs t d l:=by simp[b_,h]
  rw[w];clear w;refine Z rfl (Zh (ι:=Nat) (λi y J=>y=[O i]/\J=[]/\i<=l.length/\cR cs t d l=cR cs t d (l.drop i)) (λi=>l.length-i) 0 ⟨rfl,rfl,by omega,by simp⟩ ?_);rintro i y J again ⟨rfl,rfl,L,p⟩ D;refine Z rfl (Ya (λh=>?_) (λh=>?_));rotate_left
  ·grind [cR]
  have r:i<l.length:=by simpa using h
  have E:l.drop i=l[i]::l.drop (i+1):=by rw[gB r]
  rw[E,cR]at p;have z:l[i]∈l:=AI r;have F:=EH z;have o:=XV hf z;have C:=λ(s:List U)=>Zm s bC false false 14 l .i64 i r;generalize l[i]=x at p F o C;have N:=Bu x;rename_i hd8;obtain⟨h16,Q⟩:=hd8;have hw:AF.wrap (d + 1)=d + 1:=ck (by omega) (by omega);rw[XeU]at p;have R:=gQ x;have S:=nB x;have T:=Cc x;have p12:=Bq x;have p13:=Bm x;have V:=QcK m x.name [];have hUx:=hU x.name true;refine Z (C _) (bD (c209 x o) g174.ok (ag ?_));repeat' (first
   |refine wH ?_
   |refine bD (c210 _) g175.ok ?_
   |refine bD (c211 _ t x.n _ _ (YeU x) (zP o)) g176.ok ?_
   |refine bD (c212 _) g177.ok ?_
   |refine bD (c213 m cs hU t x.c _ _ (ZeU x) (X9 o)) g178.ok ?_
   | (rw[hw];first
    |refine bD (xi m cs hU t k x.cL (d+1) (by omega) (XP o) (by omega)) g133.ok ?_
    | refine bD (xi m cs hU t k x.cV (d + 1) (by omega) (YP o) (by omega)) g133.ok ?_)
   |(refine BA (λh e=>?_) (λh e=>?_)<;>first|(exfalso;omega)|(try rw[e]))
   |refine qG (λh=>?_) (λh=>?_)<;>try (exfalso;omega)
   |refine oz (λh=>?_) (λh=>?_)<;>(try rw[h])
   | refine Ya (λh=>?_) (λh=>?_)) <;> (refine ag ?_)
  all_goals first
   |(rw[Zd (n:=i) (by omega)];refine D (i+1) _ _ (by omega) ⟨rfl,rfl,by omega,?_⟩;grind [sj])
   |grind [sj]
theorem c157(m:List (Tx×Bool))(cs:List Cd)(hU:oC m cs)(t:Bool)(l:List Ef)(d:Int)(hf:bz l=true)(hd:0<=d):PC 133 [.al (z7 m t) 0,gE l,O d] (.bool (b_ cs t d l)):=xi m cs hU t _ l d (AO _) hf hd
theorem K0(F:Prop){R G:Prop}(imp:(F->R)->G)(r:F->R):G:=imp r
theorem c221(m:List (Tx×Bool))(cs:List Cd)(hU:oC m cs)(c:Cd)(hf:gq c=true)
 (h223:PC 89 [.str c.name] (.bool (ej c.name)))(h124:PC 132 [.agg (cM c)] (O (pN c))) :
  PC 87 [.al (cM c) 0,.fI (jn m)] (.bool (eQ cs c)):=by
 simp only[gq,AA,fe]at hf;obtain⟨f0,R,f2,z⟩:=hf;have bad:eQ cs c=false->I.bool false=I.bool (eQ cs c):=λh=>by rw[h]
 refine Xa hP g87.ok rfl rfl ?_;rw[H2.e];unfold g87;dsimp only;refine ay (ZM 7 (Yk ?_));refine ay (YM rfl rfl (Ya (λh=>bad ?_) (λC=>Z rfl ?_)))
 ·have:cw c.cost=false:=by
   rw[D9];intro i;simp[cw]at i;simp at h;omega
  simp[eQ,this]
 have C:0<=c.cost/\c.cost<=999:=by simp at C;omega
 refine Yk (ay (YM rfl rfl (Ya (λh=>bad ?_) (λD=>Z rfl ?_))))
 ·have:cw c.e8=false:=by
   rw[D9];intro i;simp[cw]at i;simp at h;omega
  simp[eQ,this]
 have D:0<=c.e8/\c.e8<=999:=by simp at D;omega
 refine Yk (ay (YM rfl rfl (Ya (λh=>bad ?_) (λE=>Z rfl ?_))))
 ·have:cw c.cm=false:=by
   rw[D9];intro i;simp[cw]at i;simp at h;omega
  simp[eQ,this]
 have E:0<=c.cm/\c.cm<=999:=by simp at E;omega
 refine Yk (ay (YM rfl rfl (Ya (λh=>bad ?_) (λF=>Z rfl ?_))))
 ·have:cw c.dZ=false:=by
   rw[D9];intro i;simp[cw]at i;simp at h;omega
  simp[eQ,this]
 have F:0<=c.dZ/\c.dZ<=999:=by simp at F;omega
 refine Yk (ay (YM rfl rfl (Ya (λh=>bad ?_) (λG=>Z rfl ?_))))
 ·have:cw c.f_=false:=by
   rw[D9];intro i;simp[cw]at i;simp at h;omega
  simp[eQ,this]
 have G:0<=c.f_/\c.f_<=999:=by simp at G;omega
 refine Yk (ay (YM rfl rfl (Ya (λh=>bad ?_) (λH=>Z rfl ?_))))
 ·have:cw c.fh=false:=by
   rw[D9];intro i;simp[cw]at i;simp at h;omega
  simp[eQ,this]
 have H:0<=c.fh/\c.fh<=999:=by simp at H;omega
 refine Yk (Z rfl (Yf ?_));have L:eQ cs c=(ej c.name&&(decide (pN c<=200)&&(i9 c&&(b_ cs true 1 c.bp&&(b_ cs false 1 c.dead&&b_ cs false 1 c.dw))))):=by
  have S:cw c.cost=true:=by simp[cw];omega
  have T:cw c.e8=true:=by simp[cw];omega
  have e3:cw c.cm=true:=by simp[cw];omega
  have V:cw c.dZ=true:=by simp[cw];omega
  have X:cw c.f_=true:=by simp[cw];omega
  have Y:cw c.fh=true:=by simp[cw];omega
  simp only[eQ,S,T,e3,V,X,Y,Ax];generalize decide (pN c<=200)=w;cases w<;>simp
 rw[L]at bad ⊢;clear L;refine ay (bD h223 g89.ok (Z rfl (Zj λk33 r=>?_)));have s:(ej c.name&&(decide (pN c<=200)&&(i9 c&&(b_ cs true 1 c.bp&&(b_ cs false 1 c.dead&&b_ cs false 1 c.dw)))))=false->k33 [.bool true] []:=by
  intro h;rw[r];exact Xg (bad h)
 have N:ej c.name=true->pN c<=200->(c.unit=true->1<=c.cm)->k33 [.bool false] []:=by
  intro n1 o n3;rw[r];clear r s k33;rw[n1,gA o,Ax,Ax]at bad ⊢;refine ay ?_;apply K0 (i9 c=true)
  ·intro Q;cases hu:c.unit with
   |true=>
    repeat first|refine Xb ?_|refine Xq ?_|refine Yc rfl ?_|refine Xu rfl ?_|refine YG rfl ?_|refine XS rfl ?_|refine Z (bg (row:=cM c) rfl) ?_|refine Z rfl ?_
    refine Yf (Q ?_);simp[i9,hu,n3 hu]
   |false=>
    repeat first|refine Xb ?_|refine Xq ?_|refine Yc rfl ?_|refine Xu rfl ?_|refine YG rfl ?_|refine XS rfl ?_|refine Z (bg (row:=cM c) rfl) ?_|refine Z rfl ?_
    rw[ck (n:=c.e8+c.cm) (by omega) (by omega),ck (n:=c.e8+c.cm+c.dZ) (by omega) (by omega),ck (n:=c.e8+c.cm+c.dZ+c.f_) (by omega) (by omega),ck (n:=c.e8+c.cm+c.dZ+c.f_+c.fh) (by omega) (by omega)];rcases cE (decide (c.e8+c.cm+c.dZ+c.f_+c.fh>0))with h|h
    ·rw[h];repeat first|refine Xb ?_|refine Xq ?_|refine Yc rfl ?_|refine Xu rfl ?_|refine YG rfl ?_|refine XS rfl ?_|refine Z (bg (row:=cM c) rfl) ?_|refine Z rfl ?_
     refine Xg (bad ?_);have h:¬(c.e8+c.cm+c.dZ+c.f_+c.fh<=0):=by simp at h;omega
     simp[i9,hu,h]
    rw[h];repeat first|refine Xb ?_|refine Xq ?_|refine Z (bg (row:=cM c) rfl) ?_|refine Z rfl ?_
    have h:(c.e8+c.cm+c.dZ+c.f_+c.fh<=0):=by simp at h;omega
    have l1:=YF f2;have l2:=YF z;rw[de]at l1 l2;rw[Be,Be,ck (n:=(c.dead.length:Int)+(c.dw.length:Int)) (by omega) (by omega)];refine Ya (λh2=>bad ?_) (λh2=>Q ?_)
    ·have h2:¬(c.dead.length+c.dw.length=0):=by simp at h2;omega
     have:i9 c=false:=by rw[i9,hu,i7 h2];simp
     simp[this]
    ·have h2:(c.dead.length+c.dw.length=0):=by simp at h2;omega
     rw[i9,hu,gA h2,gA h];rfl
  intro b7;rw[b7,Ax];refine ay (ZH (c157 m cs hU true c.bp 1 R (by omega)) rfl g133.ok.plain rfl rfl (Z rfl (Ya (λp=>?_) (λp=>?_))))
  ·have p:b_ cs true 1 c.bp=false:=by simpa using p
   rw[p];rfl
  have p:b_ cs true 1 c.bp=true:=by simpa using p
  rw[p,Ax];refine ay (ZH (c157 m cs hU false c.dead 1 f2 (by omega)) rfl g133.ok.plain rfl rfl ?_);rcases cE (b_ cs false 1 c.dead)with y|y
  rotate_left
  ·rw[y];refine ay ?_;rfl
  rw[y];refine ay ?_;refine ZH (c157 m cs hU false c.dw 1 z (by omega)) rfl g133.ok.plain rfl rfl ?_;refine ay ?_;rfl
 clear r bad;refine Ya (λn1=>?_) (λn1=>?_)
 ·rw[n1];refine s ?_;have n1:ej c.name=false:=by simpa using n1
  rw[n1];rfl
 have n1:ej c.name=true:=by simpa using n1
 refine Z rfl (Z (bg (oH c)) ?_);refine bD h124 g132.ok (Z rfl (Ya (λo=>?_) (λo=>?_)))
 ·rw[o];refine s ?_;have o:¬pN c<=200:=by simp at o;omega
  rw[i7 o];simp
 have o:pN c<=200:=by simp at o;omega
 refine ay ?_;cases hu:c.unit with
 |false=>
  exact ay (N n1 o (λh=>by rw[hu]at h;cases h))
 |true=>
  refine ay ?_;rcases cE (decide (c.cm<1))with h|h
  ·rw[h];refine s ?_;have:i9 c=false:=by simp at h;simp[i9,hu];omega
   rw[this];simp
  ·rw[h];exact N n1 o (λ_=>by simp at h;omega)
def mg(t:Tx)(v:Bool):List (Tx×Bool)->List (Tx×Bool)
 |[]=>[(t,v)]
 |p::l=>if t==p.1 then (t,v)::l else p::mg t v l
theorem XcG(t:Tx)(v:Bool):∀l,oE (.str t) (.bool v) (jn l)=some (jn (mg t v l))
 |[]=>rfl
 |p::l=>by
  simp only[jn,B7,oE,jA,mg];cases h:t==p.1 with
  |true=>rfl
  |false=>
   have:=XcG t v l;simp only[jn]at this;simp only[this];rfl
theorem Y7(t n:Tx)(v:Bool):∀l,cA t (mg n v l)=if t==n then some v else cA t l
 |[]=>by simp[mg,cA]
 |p::l=>by
  simp only[mg];by_cases h:n==p.1
  ·simp_all [cA]
  ·rw[aB h,cA,cA,Y7 t n v l]
   grind
theorem OO:∀l,vO (jn l)=true
 |[]=>rfl
 |p::l=>by
  have:=OO l;simp only[jn]at this;simp[jn,vO,I.ro,this]
variable{l m:List (Tx×Bool)}
theorem Zdh(h:ai J b=.map (jn l))(row:List I)(j:Nat):Qx J 1000 [.al row j,.map b]=some ([.al row j,.fI (jn l)],[b]):=by
 simp_all [Qx,OO]
theorem Qdr(h:ai J b=.map (jn l))(t:Tx):Yu true true (.bool false) [.map b,.str t] J=.ok (.bw [.bool ((cA t l).getD false),.bool (cA t l).isSome]) [b] []:=by
 simp only[Yu,zG,mapOf,h,Kc,cond_true];cases cA t l<;>rfl
theorem TP(h:ai J b=.map (jn l))(t:Tx):Yu true false (.bool false) [.map b,.str t] J=.ok (.bool ((cA t l).getD false)) [b] []:=by
 simp only[Yu,zG,mapOf,h,Kc,cond_true];cases cA t l<;>rfl
theorem HS(h:ai J b=.map (jn l))(t:Tx)(v:Bool):XD true [.map b,.str t,.bool v] J=.ok .aP [] [(b,.map (jn (mg t v l)))]:=by
 simp_all [XD,zG,XcG]
def lF:List Cd->Tx->Option Bool
 |[],_=>none
 |c::l,t=>if c.name==t then some c.unit else lF l t
theorem Qdt:∀ (l:List Cd) (t:Tx) (u:Bool),eK l t u=(match lF l t with
 |none=>false
 | some b=>b || !u)
 |[],_,_=>rfl
 |c::l,t,u=>by
  simp only[eK,lF];by_cases h:c.name==t<;>simp_all [Qdt]
theorem Ty:∀ (l:List Cd) (c:Cd) (t:Tx),lF (l ++ [c]) t=(match lF l t with
 |some b=>some b
 | none=>if c.name == t then some c.unit else none)
 |[],_,_=>rfl
 |d::l,c,t=>by
  simp only[Cz,lF];by_cases h:d.name==t<;>simp_all [Ty]
def ia(m:List (Tx×Bool))(l:List Cd):Prop:=∀t,cA t m=lF l t
theorem ia.af{l:List Cd}(h:ia m l):oC m l:=by
 intro t u;rw[Qdt,h t]<;>cases lF l t<;>rfl
theorem ia.fG{l:List Cd}(h:ia m l){c:Cd}(hc:(cA c.name m).isSome=true):ia m (l++[c]):=by
 intro t;rw[Ty,<-h t]
 grind
theorem ia.new{l:List Cd}(h:ia m l){c:Cd}(hc:(cA c.name m).isSome=false):ia (mg c.name c.unit m) (l++[c]):=by
 intro t;rw[Ty,<-h t,Y7]
 grind
def Seen(m:List (Tx×Bool))(l:List Cd):Prop:=∀t,(cA t m).getD false=l.any λd=>d.name==t
theorem Seen.put{l:List Cd}(h:Seen m l)(c:Cd):Seen (mg c.name true m) (l++[c]):=by
 intro t;rw[Y7,List.any_append,<-h t]
 grind
theorem Zc(x:U)(h:b<J.length):ai (J.set b x) b=x:=Qp (by simp[h])
theorem c180(cs:List Cd)(hf:QE cs=true)(h221:∀m,oC m cs->∀c∈cs,PC 87 [.al (cM c) 0,.fI (jn m)] (.bool (eQ cs c))) :
  PC 55 [iX cs] (.agg [O (dD cs).1,O (dD cs).2]):=by
 simp only[QE,AA,fe]at hf;obtain⟨Y,f1⟩:=hf;rw[de]at Y;refine Xa hP g55.ok rfl rfl ?_;rw[H1.e];unfold g55;dsimp only;refine Qd rfl rfl (Z rfl (Z rfl ?_));refine Ya (λh=>?_) (λh=>?_)
 ·have h:240<cs.length:=by simp at h;omega
  refine Z rfl (Qd rfl rfl (Zp rfl ?_));rw[dD,aE h]
 have h:¬240<cs.length:=by simp at h;omega
 rw[dD,aB h];refine Qd rfl rfl (Z rfl ?_);refine Zh (ι:=Nat) (λi C J=>∃m,C=[O i]/\ai J 0=.box [O 0,O 0]/\ai J 1=.map (jn m)/\1<J.length/\i<=cs.length/\ia m (cs.take i)) (λi=>cs.length-i) 0 ⟨[],rfl,rfl,rfl,by simp,by omega,λt=>by simp[cA,lF]⟩ ?_;rintro i C J again ⟨m,rfl,p,z,ir,hi,hu⟩ G;refine Z rfl (Ya (λh=>?_) (λh=>?_))
 ·have w:i<cs.length:=by simpa using h
  have D:=λ(s:List U)=>Zm s cM false false 12 cs .i64 i w;have E:cs.take (i+1)=cs.take i++[cs[i]]:=Yv cs i w;generalize cs[i]=c at D E;refine Zj λk10 R=>?_;have S:∀L σ',ia L (cs.take i++[c])->ai σ' 0=.box [O 0,O 0]->ai σ' 1=.map (jn L)->1<σ'.length->k10 [] σ':=by
   intro L σ' q1 q2 q3 q4;rw[R];refine Z (Qi ..) ?_;rw[Zd (n:=i) (by omega)]
   grind
  clear R G;refine Z (D _) (Z (bg (oH _)) (Zq (row:=cM c) (row':=cM c) rfl rfl rfl ?_));have F:=Xc J (U.box (cM c));have y:ai (J++[U.box (cM c)]) 0=.box [O 0,O 0]:=Zb _ p;have r:ai (J++[U.box (cM c)]) 1=.map (jn m):=Zb _ z;have o:1<(J++[U.box (cM c)]).length:=by simp;omega
  generalize J++[U.box (cM c)]=base at F y r o ⊢;generalize J.length=b at F ⊢;refine Z rfl (Z (ld F rfl) (Z (Qdr r _) (Z rfl (Z rfl (Z rfl ?_)))));refine Ya (λh=>?_) (λh=>?_)
  ·have h:(cA c.name m).isSome=false:=by simpa using h
   refine Z rfl (Z (ld F rfl) (Z rfl (Z (ld F rfl) (Qd (HS r _ _) (Ye _ o) ?_))));exact S _ _ (hu.new h) (Qa y (by simp) (by omega)) (Zc _ o) (by simpa using o)
  ·have h:(cA c.name m).isSome=true:=by simpa using h
   exact S _ _ (hu.fG h) y r o
 have h:i=cs.length:=by simp at h;omega
 subst h;rw[C5]at hu;have nd:=h221 m hu.af;clear G hu h221;refine Qd rfl (Qf _ _) (Z rfl ?_);have y:ai (J++[U.map []]) 0=.box [O 0,O 0]:=Zb _ p;have r:ai (J++[U.map []]) 1=.map (jn m):=Zb _ z;have H:ai (J++[U.map []]) J.length=.map (jn []):=Xc _ _;have o:J.length<(J++[U.map []]).length:=by simp
 generalize J++[U.map []]=base at y r H o ⊢;generalize J.length=b at H o ir ⊢;refine Zh (ι:=Nat) (λi C s=>∃N,C=[O i]/\ai s 0=.box [O 0,O 0]/\ai s 1=.map (jn m)/\ai s b=.map (jn N)/\b<s.length/\i<=cs.length/\Seen N (cs.take i)/\eA cs [] cs=eA cs (cs.take i) (cs.drop i)) (λi=>cs.length-i) 0 ⟨[],rfl,y,r,H,o,by omega,λt=>by simp[cA],by simp⟩ ?_;clear y r H o base p z J;rintro i C s again ⟨N,rfl,p,z,hs,Q,hi,T,hu⟩ G;refine Z rfl (Ya (λh=>?_) (λh=>?_));rotate_left
 ·have h:i=cs.length:=by simp at h;omega
  subst h;rw[As,eA]at hu;refine Z rfl (Qd (cO p rfl rfl rfl) (Ye _ (by show 0<s.length;omega)) (Zp (Qr (by show 0<s.length;omega) rfl) ?_));rw[hu]
 have w:i<cs.length:=by simpa using h
 have V:cs.drop i=cs[i]::cs.drop (i+1):=by rw[gB w]
 have D:=λ(s:List U)=>Zm s cM false false 12 cs .i64 i w;have E:cs.take (i+1)=cs.take i++[cs[i]]:=Yv cs i w;have X:=nd _ (AI w);generalize cs[i]=c at D E V X;rw[V,eA,<-T c.name]at hu;refine Z (D _) (Z rfl (Z rfl (Z (bg (qi _)) (Z (TP hs _) ?_))));refine Ya (λh=>?_) (λh=>?_)
 ·rw[aE h]at hu;refine Z rfl (Z rfl (Z (bg (PW _)) (Z rfl (Qd (cO p rfl rfl rfl) (Ye _ (by show 0<s.length;omega)) (Zp (Qr (by show 0<s.length;omega) rfl) ?_)))));rw[hu]
 rw[aB (by rw[h];simp)]at hu;refine ZH X rfl g87.ok.plain (Zdh z _ _) rfl (Z rfl (Ya (λh=>?_) (λh=>?_)))
 ·have h:eQ cs c=false:=by simpa using h
  rw[h]at hu
  replace hu:eA cs [] cs=(130,c.pl):=hu
  refine Z rfl (Z rfl (Z (bg (PW _)) (Z rfl (Qd (cO p rfl rfl rfl) (Ye _ (by show 0<s.length;omega)) (Zp (Qr (by show 0<s.length;omega) rfl) ?_)))));rw[hu]
 ·have h:eQ cs c=true:=by simpa using h
  rw[h,aE rfl]at hu;refine Z rfl (Z rfl (Z (bg (qi _)) (Qd (HS hs _ _) (Ye _ Q) (Z (Qi ..) ?_))));rw[Zd (n:=i) (by omega)];refine G (i+1) _ _ (by omega) ⟨_,rfl,?_,?_,Zc _ Q,by simpa using Q,by omega,by rw[E];exact T.put c,by rw[E];exact hu⟩
  ·exact Qa p (by simp) (by omega)
  ·exact Qa z (by simp) (by omega)
end Go.Ah.Tz
end
section
namespace Go.Ah
inductive GT:Type 1 where
 |leaf
 |node (k np:Nat) (g:gM) (l r:GT)
def GT.get:GT->Nat->Option (Nat×gM)
 |.leaf,_=>none
 |.node k np g l r,f=>match AJ f k with
  |true=>some (np,g)
  |false=>match C3 f k with
   |true=>l.get f
   |false=>r.get f
def GT.Ok(P:Program)(GL:aw):GT->Prop
 |.leaf=>True
 |.node k np g l r=>my P GL k np g/\l.Ok P GL/\r.Ok P GL
theorem GT.qV{P:Program}{GL:aw}:∀ {t:GT},t.Ok P GL->∀f np g,t.get f=some (np,g)->my P GL f np g
 |.leaf,_,f,np,g,h=>by simp only[GT.get]at h;cases h
 |.node k np' j l r,ok,f,np,g,h=>by
  unfold GT.get at h;obtain⟨b,d,i⟩:=ok;split at h
  ·rename_i hb;have:=fK hb;subst this;cases h;exact b
  ·split at h
   ·exact GT.qV d f np g h
   ·exact GT.qV i f np g h
end Go.Ah
end
section
namespace Go.Ah.Tz
open Go.Proofs.Tryz (prog)
set_option maxRecDepth 100000
noncomputable def tb:GT:=(.node 240 2 g240.u (.node 233 2 g233.u (.node 220 1 g220.u .leaf .leaf) (.node 234 1 g234.u .leaf .leaf)) (.node 244 2 g244.u (.node 243 2 g243.u .leaf .leaf) .leaf))
theorem N1:tb.Ok prog aQ:=⟨g240.ok,⟨g233.ok,⟨g220.ok,trivial,trivial⟩,⟨g234.ok,trivial,trivial⟩⟩,⟨g244.ok,⟨g243.ok,trivial,trivial⟩,trivial⟩⟩
set_option maxRecDepth 1000000
theorem hTm:∀f np g,tb.get f=some (np,g)->GQ f np g:=GT.qV N1
def M9:Tx:=[99,97,114,100,32,117,110,105,116,32,99,104,97,114,109,32,102,111,114,109,97,116,32,112,108,97,121,101,100,32,100,101,97,100,32,100,97,119,110,32,97,117,114,97,32,115,104,105,101,108,100,32,104,97,114,109,32,109,101,110,100,32,100,114,97,119,32,103,97,105,110,32,100,114,111,112,32,108,111,111,107,32,115,104,111,119,32,115,117,109,109,111,110,32,105,102,32,101,108,115,101,32,109,101,32,102,111,101,32,116,97,114,103,101,116,32,108,105,102,101,32,104,97,110,100,32,100,101,99,107,32,117,110,105,116,115,32,109,97,110,97,32,99,111,115,116,32,116,111,112,32,112,111,119,101,114,32,109,105,110,32,109,97,120,32,110,111,116,32,97,110,100,32,111,114,32,104,111,108,100,115,32,108,101,97,115,116,32,109,111,115,116,32,99,111,112,105,101,115,32,98,97,110,110,101,100,32,115,105,110,103,108,101]
theorem p264:PC 220 [.str M9] (.aX true false 1 (jU.map vR)):=PM hP hTm (much:=1000000000) 60 (by kernel_rfl)
def sW:List (Tx×Bool):=jU.foldl (λm k=>mg k true m) []
theorem QbT(t:Tx):∀(l:List Tx) (m:List (Tx×Bool)),(cA t (l.foldl (λm k=>mg k true m) m)).getD false=((cA t m).getD false||kI l t)
 |[],m=>by simp[kI]
 |k::l,m=>by
  rw[LB,QbT t l,Y7,kI];by_cases h:t==k
  ·have e:t=k:=by simpa using h
   subst e;simp
  ·have h2:(k==t)=false:=by
    rw[D9];intro q;apply h;simp at q;simp[q]
   rw[aB h,h2,FD]
theorem XeD(t:Tx):(cA t sW).getD false=kI jU t:=by
 rw[sW,QbT];rfl
attribute [local irreducible] aI.rd aI.pu aI.wr aI.dr aI.gr aI.gw aI.gl aI.gd aI.opt c8 W
theorem c258:PC 187 [] (.fI (jn sW)):=by
 refine Uy hP g187.ok rfl ⟨.map 0,[.map (jn sW)],?_,?_⟩
 ·show (match Qx [.map (jn sW)] (998 + 1 + 1) [.map 0]with
   |some ([y],_)=>some y
   | _=>none)=_
  have:ai [U.map (jn sW)] 0=.map (jn sW):=rfl;simp only[Qx,this,OO,cond_true]
 unfold g187;dsimp only[H0.u];refine Qd rfl rfl (bD p264 g220.ok (Z rfl ?_));have hlen:jU.length=41:=rfl;unfold sW;generalize jU=l at hlen ⊢;refine Zh (ι:=Nat) (λi d J=>∃m,d=[O i]/\J=[.map (jn m)]/\i<=l.length/\l.foldl (λm k=>mg k true m) []=(l.drop i).foldl (λm k=>mg k true m) m) (λi=>l.length-i) 0 ⟨[],rfl,rfl,by omega,by simp⟩ ?_;rintro i d J again ⟨m,rfl,rfl,p,hu⟩ f;refine Z rfl (Ya (λh=>?_) (λh=>?_))
 ·have h:i<l.length:=by simpa using h
  have j:l.drop i=l[i]::l.drop (i+1):=by rw[gB h]
  rw[j,LB]at hu;refine Z (Zm _ vR _ _ _ l .i64 i h) (Z (bg (yK _)) (Qd (HS (b:=0) rfl _ _) rfl (Z (Qi ..) ?_)));rw[Zd (n:=i) (by omega)];exact f (i+1) _ _ (by omega) ⟨_,rfl,rfl,by omega,hu⟩
 ·have h:i=l.length:=by simp at h;omega
  subst h;rw[As,List.foldl_nil]at hu;rw[hu];exact⟨rfl,rfl⟩
theorem c242(s:Tx):PC 141 [.str s] (.bool (kI jU s)):=by
 refine Xa hP g141.ok rfl rfl ?_;rw[H1.e];unfold g141;dsimp only;refine bD c258 g187.ok (Z (QcK ..) ?_);rw[XeD]
theorem c257(x:Int):PC 186 [.int .i32 x] (.bool (jS x)):=by
 refine Xa hP g186.ok rfl rfl ?_;rw[H1.e];unfold g186;dsimp only;refine Z rfl (Dq rfl rfl ?_);exact congrArg I.bool (by rw[C6];simp[jS])
theorem c256(x:Int):PC 185 [.int .i32 x] (.bool (isLet x)):=by
 refine Xa hP g185.ok rfl rfl ?_;rw[H1.e];unfold g185;dsimp only;refine Z rfl (Dq rfl rfl ?_);refine Zj λk1 b=>?_;have i:∀c,c=decide ((97<=x/\x<=122)\/(65<=x/\x<=90))->k1 [.bool c] []:=by
  rintro c d;rw[b];clear b k1;refine Ya (λh=>?_) (λh=>?_)
  ·rw[h]at d;have d:(97<=x/\x<=122)\/(65<=x/\x<=90):=by simpa using d.symm
   exact congrArg I.bool (by rw[eq_comm,isLet,fe];omega)
  rw[h]at d;have d:¬((97<=x/\x<=122)\/(65<=x/\x<=90)):=of_decide_eq_false d.symm;refine Z (Xr ..) (Zj λk1 b=>?_);have k2:∀c,c=decide (x=215\/x=247)->k1 [.bool c] []:=by
   rintro c f;rw[b];clear b k1;refine Ya (λh=>?_) (λh=>?_)
   ·rw[h]at f;have f:x=215\/x=247:=of_decide_eq_true f.symm;exact congrArg I.bool (by rw[eq_comm,isLet,pI];omega)
   rw[h]at f;have f:¬(x=215\/x=247):=of_decide_eq_false f.symm;refine Z rfl (Dq rfl rfl ?_);exact congrArg I.bool (by rw[C6,AA,isLet,fe,fe,fe];omega)
  clear b;refine Ya (λh=>k2 _ ?_) (λh=>?_)
  ·rw[h];rw[eq_comm,fe];exact Hg (of_decide_eq_true h)
  ·have h:x≠215:=of_decide_eq_false h;refine Z (Xr ..) (k2 _ ?_);rw[C6,fe,fe];omega
 clear b;refine Ya (λh=>i _ ?_) (λh=>?_)
 ·rw[h];rw[eq_comm,fe];simp at h;omega
 ·refine Z rfl (Dq rfl rfl (i _ ?_));rw[C6,AA,fe,fe,fe];simp at h;omega
theorem oD{p:Nat->Bool}(h:(List.range 256).all p=true){c:Nat}(hc:c<256):p c=true:=C1.1 h c (List.mem_range.2 hc)
theorem Kr{c:Nat}(hc:c<256):bits .and .i64 (c:Int) 31=((c%32:Nat):Int):=by
 have:=oD (p:=λc=>bits .and .i64 (c:Int) 31==((c%32:Nat):Int)) (by kernel_rfl) hc;simpa using this
theorem Kp{c:Nat}(hc:c<256):bits .and .i64 (c:Int) 15=((c%16:Nat):Int):=by
 have:=oD (p:=λc=>bits .and .i64 (c:Int) 15==((c%16:Nat):Int)) (by kernel_rfl) hc;simpa using this
theorem VA{c:Nat}(hc:c<256):bits .and .i64 (c:Int) 7=((c%8:Nat):Int):=by
 have:=oD (p:=λc=>bits .and .i64 (c:Int) 7==((c%8:Nat):Int)) (by kernel_rfl) hc;simpa using this
theorem Ks{c:Nat}(hc:c<256):bits .and .u8 (c:Int) 63=((c%64:Nat):Int):=by
 have:=oD (p:=λc=>bits .and .u8 (c:Int) 63==((c%64:Nat):Int)) (by kernel_rfl) hc;simpa using this
theorem Dw{c:Nat}(hc:c<256):(bits .and .u8 (c:Int) 192 != 128) = !(c/64==2):=by
 have:=oD (p:=λc=>(bits .and .u8 (c:Int) 192 != 128) == !(c/64==2)) (by kernel_rfl) hc;simpa using this
theorem Zeb(c:UInt8):sX c = !(c.toNat/64==2):=Dw c.toNat_lt
theorem aaK(q y:Nat)(hq:q<1099511627776)(hy:y<64):bits .or .i64 ((q*64:Nat):Int) (y:Int)=((q*64+y:Nat):Int):=by
 have h1:(GO 64 ((q*64:Nat):Int)).toNat=q*64:=by
  rw[Hl];omega
 have h2:(GO 64 (y:Int)).toNat=y:=by
  rw[Hl];omega
 have h3:q*64 ||| y=q*64+y:=by
  have:=Nat.two_pow_add_eq_or_of_lt (i:=6) (b:=y) (by omega) q;rw[show 2 ^ 6*q=q*64 by omega]at this;exact this.symm
 show AF.wrap (((GO 64 ((q*64:Nat):Int)) ||| (GO 64 (y:Int))).toNat:Int)=_;rw[BitVec.toNat_or,h1,h2,h3];exact ck (by omega) (by omega)
theorem Xeb(x:Nat)(hx:x<1099511627776)(c:UInt8):vb (x:Int) c=((x*64+c.toNat%64:Nat):Int):=by
 have e:Nt (x:Int)=((x*64:Nat):Int):=by
  show AF.wrap ((x:Int)*64)=_;rw[ck (by omega) (by omega)];simp
 rw[vb,e,Ks c.toNat_lt,ck (by omega) (by omega)];exact aaK x _ hx (Nat.mod_lt _ (by omega))
theorem Zdp(s:Tx)(a:Nat)(ha:a<s.length) :
  (((dY s a).2≠0->((EY ⟨s.toArray⟩ a).1:Int)=(dY s a).1/\(EY ⟨s.toArray⟩ a).2=(dY s a).2)/\((dY s a).2=0->(EY ⟨s.toArray⟩ a).1=65533)):=by
 have A:∀k,((⟨s.toArray⟩:ByteArray).get! (a+k))=(s[a+k]?).getD 0:=by
  intro k;show (s.toArray)[a+k]! = _;simp[List.getElem!_eq_getElem?_getD];rfl
 have B:(⟨s.toArray⟩:ByteArray).size=s.length:=by simp[NF]
 rw[dY,Cv ha];unfold EY;simp only[A,B];have h0:(s[a+0]?).getD 0=s[a]:=by simp[Cv ha]
 rw[h0];have hb:s[a].toNat<256:=s[a].toNat_lt;generalize s[a].toNat=b at hb ⊢;have C:∀k,¬a+k<s.length->s[a+k]?=none:=λk h=>by simp;omega
 have w:∀(i x:Nat),x<1000000->∀m,fH s a (m+1) i (x:Int)=if a+i<s.length/\((s[a+i]?).getD 0).toNat/64=2 then fH s a m (i+1) ((x*64+((s[a+i]?).getD 0).toNat%64:Nat):Int)else none:=by
  intro i x p m;by_cases h:a+i<s.length
  ·rw[fH,Cv h];simp only[Zeb,Cw,h,true_and];by_cases h2:s[a+i].toNat/64=2
   ·simp[h2,Xeb x (by omega)]
   ·simp[h2]
  ·rw[fH,C i h];simp[h]
 have D:∀k,(decide (a+k<s.length)&&(((s[a+k]?).getD 0).toNat/64==2))=decide (a+k<s.length/\((s[a+k]?).getD 0).toNat/64=2):=by
  intro k;rw[C6];simp
 simp only[D];have t1:=λx p m=>w 1 x p m;have E:=λx p m=>w 2 x p m;have G:=λx p m=>w 3 x p m;clear w D C A B h0;generalize ((s[a+1]?).getD 0).toNat=d1 at *;generalize ((s[a+2]?).getD 0).toNat=d2 at *;generalize ((s[a+3]?).getD 0).toNat=d3 at *;by_cases F:b<128
 ·have f:eO (b:Int)=some (1,(b:Int),0):=by
   rw[eO,aB (by omega),aB (by omega),aB (by omega),aB (by omega)]
  simp only[f,aE F,Hu,fH,il];rw[aB (by omega)];simp
 rw[aB F];by_cases H:b<192
 ·have f:eO (b:Int)=none:=by
   rw[eO,aB (by omega),aB (by omega),aB (by omega),aE (by omega)]
  simp only[f];have o:¬b/32=6:=by omega
  have r:¬b/16=14:=by omega
  have e3:¬b/8=30:=by omega
  simp[o,r,e3,EC]
 by_cases K:b<224
 ·have f:eO (b:Int)=some (2,((b%32:Nat):Int),128):=by
   rw[eO,aE (by omega),Kr hb]
  have o:b/32=6:=by omega
  have r:¬b/16=14:=by omega
  have e3:¬b/8=30:=by omega
  simp only[f];rw[t1 _ (by omega) 0];by_cases d:a+1<s.length/\d1/64=2
  ·simp only[aE d,fH,il,o,gA d,beq_self_eq_true,C2,if_true];by_cases y:b%32*64+d1%64 >= 128
   ·rw[aE y,aB (by omega)];simp
   ·rw[aB y,aE (by omega)];simp[EC]
  ·simp only[aB d,il,i7 d,FJ,Ed,B8,if_false];simp[EC]
 by_cases L:b<240
 ·have f:eO (b:Int)=some (3,((b%16:Nat):Int),2048):=by
   rw[eO,aB (by omega),aE (by omega),Kp hb]
  have o:¬b/32=6:=by omega
  have r:b/16=14:=by omega
  have e3:¬b/8=30:=by omega
  simp only[f];rw[t1 _ (by omega) 1];have f1:(b/32==6)=false:=by simpa using o
  by_cases d:a+1<s.length/\d1/64=2
  ·rw[aE d,E _ (by omega) 0];by_cases j:a+2<s.length/\d2/64=2
   ·simp only[aE j,fH,il,f1,r,gA d,gA j,beq_self_eq_true,C2,if_true,Ed,B8,if_false];by_cases y:(b%16*64+d1%64)*64+d2%64<2048\/(55296<=(b%16*64+d1%64)*64+d2%64/\(b%16*64+d1%64)*64+d2%64<=57343)
    ·rw[aE (by omega),aB (by simp[Gv];omega)];simp[EC]
    ·rw[aB (by omega),aE (by simp[Gv];omega)];simp;omega
   ·simp only[aB j,il,f1,i7 j,FJ,Ed,B8,if_false];simp[EC]
  ·simp only[aB d,il,f1,i7 d,FJ,Ed,B8,if_false];simp[EC]
 by_cases N:b<248
 ·have f:eO (b:Int)=some (4,((b%8:Nat):Int),65536):=by
   rw[eO,aB (by omega),aB (by omega),aE (by omega),VA hb]
  have e3:b/8=30:=by omega
  have f1:(b/32==6)=false:=by simp;omega
  have f2:(b/16==14)=false:=by simp;omega
  simp only[f];rw[t1 _ (by omega) 2];by_cases d:a+1<s.length/\d1/64=2
  ·rw[aE d,E _ (by omega) 1];by_cases j:a+2<s.length/\d2/64=2
   ·rw[aE j,G _ (by omega) 0];by_cases z:a+3<s.length/\d3/64=2
    ·simp only[aE z,fH,il,f1,f2,e3,gA d,gA j,gA z,beq_self_eq_true,C2,if_true,Ed,B8,if_false];by_cases y:((b%8*64+d1%64)*64+d2%64)*64+d3%64<65536\/1114111<((b%8*64+d1%64)*64+d2%64)*64+d3%64
     ·rw[aE (by omega),aB (by simp[Gv];omega)];simp[EC]
     ·rw[aB (by omega),aE (by simp[Gv];omega)];simp;omega
    ·simp only[aB z,il,f1,f2,i7 z,FJ,Ed,B8,if_false];simp[EC]
   ·simp only[aB j,il,f1,f2,i7 j,FJ,Ed,B8,if_false];simp[EC]
  ·simp only[aB d,il,f1,f2,i7 d,FJ,Ed,B8,if_false];simp[EC]
 ·have f:eO (b:Int)=none:=by
   rw[eO,aB (by omega),aB (by omega),aB (by omega),aE (by omega)]
  simp only[f];have o:¬b/32=6:=by omega
  have r:¬b/16=14:=by omega
  have e3:¬b/8=30:=by omega
  simp[o,r,e3,EC]
theorem XcU(s:Tx)(a:Nat):∀(m i:Nat) (x y:Int),fH s a (m+1) i x=some y->a+i+m<s.length
 |m,i,x,y,h=>by
  rw[fH]at h;cases e:s[a+i]? with
  |none=>rw[e]at h;cases h
  |some c=>
   have b:a+i<s.length:=(eS e).1;rw[e]at h;cases m with
   |zero=>omega
   |succ m=>
    have h2:(if sX c=true then none else fH s a (m+1) (i+1) (vb x c))=some y:=h;split at h2
    ·cases h2
    ·have:=XcU s a m (i+1) _ _ h2;omega
theorem Qeb(s:Tx)(a:Nat)(ha:a<s.length)(h:(dY s a).2≠0):a+(dY s a).2<=s.length:=by
 unfold dY at h ⊢;rw[Cv ha]at h ⊢;simp only at h ⊢;cases e:eO (s[a].toNat:Int)with
 |none=>rw[e]at h;simp at h
 |some p=>
  obtain⟨n,x,least⟩:=p;rw[e]at h;simp only at h ⊢;cases b:fH s a (n-1) 1 x with
  |none=>rw[b]at h;simp[il]at h
  |some y=>
   rw[b]at h;have h3:(il n least (some y)).2<=n:=by rw[il];split<;>simp
   by_cases d:n<=1
   ·omega
   ·have:=XcU s a (n-2) 1 x y (by rw[show n-2+1=n-1 by omega];exact b);omega
set_option maxHeartbeats 1000000
theorem QeT{s:Tx}{a:Nat}(h:a<s.length):Kb [.iter 0] [.fo s a]=.ok (.bw [.bool true,O a,.int .i32 (EY ⟨s.toArray⟩ a).1]) [] [(0,.fo s (a+(EY ⟨s.toArray⟩ a).2))]:=by
 have hb:C3 a s.length=true:=by simpa[Mw]using h
 show (bif C3 a s.length then _ else _)=_;rw[hb];rfl
theorem Qeu{s:Tx}{a:Nat}(h:¬a<s.length):Kb [.iter 0] [.fo s a]=.ok (.bw [.bool false]) [0] []:=by
 have hb:C3 a s.length=false:=by rw[D9];intro q;exact h (by simpa[Mw]using q)
 show (bif C3 a s.length then _ else _)=_;rw[hb];rfl
theorem c241(s:Tx)(hs:s.length<=iC):PC 140 [.str s] (.bw [O (ee s 0 0).1,O (ee s 0 0).2]):=by
 rw[de]at hs;refine Xa hP g140.ok rfl rfl ?_;rw[H1.e];unfold g140;dsimp only;refine Qd rfl rfl (Zh (ι:=Nat) (λa f J=>∃n:Nat,f=[O n]/\J=[.fo s a]/\n<=a/\(a=0↔n=0)/\a<=s.length/\ee s 0 0=ee s a n) (λa=>s.length-a) 0 ⟨0,rfl,rfl,by omega,by simp,by omega,rfl⟩ ?_);rintro a f J again ⟨n,rfl,rfl,B,w,C,hu⟩ i;by_cases h:a<s.length;rotate_left
 ·refine Qd (Qeu h) rfl (Z rfl (Yf (Z rfl ?_)));rw[show ee s a n=(a,n) by rw[ee,dif_neg h]]at hu;rw[hu,show s.length=a by omega];rfl
 refine Qd (QeT h) rfl (Z rfl (Xg (Z rfl (Z rfl ?_))));obtain⟨d1,d2⟩:=Zdp s a h;have j:=Qeb s a h;generalize EY ⟨s.toArray⟩ a=p at d1 d2 ⊢;have b:Bn s a n↔(isLet (p.1:Int)=false/\(a=0\/(jS (p.1:Int)=false/\(p.1:Int)≠39))):=by
  unfold Bn;by_cases h0:(dY s a).2=0
  ·have:=d2 h0;rw[this];have x:isLet 65533=false:=by decide
   have y:jS 65533=false:=by decide
   simp[h0,x,y]
  ·rw[(d1 h0).1];simp[h0,w]
 have d:(isLet (p.1:Int)=false/\(a=0\/(jS (p.1:Int)=false/\(p.1:Int)≠39)))->I.bw [O a,O n]=I.bw [O (ee s 0 0).1,O (ee s 0 0).2]:=by
  intro q;rw[hu,ee,dif_pos h,dif_pos (b.2 q)]
 have go:¬(isLet (p.1:Int)=false/\(a=0\/(jS (p.1:Int)=false/\(p.1:Int)≠39)))->VV.rd (Qn .add false [O n,(.int .i64 1)] [.fo s (a+p.2)]) λt31=>again [t31] [.fo s (a+p.2)]:=by
  intro q;have o:¬Bn s a n:=λz=>q (b.1 z);have h0:(dY s a).2≠0:=λe=>o (Hg e);have:=(d1 h0).2;have:=j h0;refine Z (Qi ..) ?_;rw[Zd (n:=n) (by omega)];refine i (a+p.2) _ _ (by omega) ⟨n+1,rfl,rfl,by omega,by omega,by omega,?_⟩;rw[hu,ee,dif_pos h,dif_neg o,(d1 h0).2]
 clear i hu b d1 d2 j;generalize (p.1:Int)=r at d go ⊢;refine bD (c256 r) g185.ok (Z rfl ?_);rcases cE (!isLet r)with h1|h1
 rotate_left
 ·rw[h1];repeat first|refine Xb ?_|refine Xq ?_|refine Yc rfl ?_|refine Xu rfl ?_|refine YG rfl ?_|refine XS rfl ?_|refine Z rfl ?_
  exact Yf (go (by have h1:isLet r=true:=(by simpa using h1);simp[h1]))
 rw[h1];have h1:isLet r=false:=by simpa using h1
 refine ay ?_;rcases cE ((a:Int)==0)with h2|h2
 ·rw[h2];refine ay ?_;exact d ⟨h1,Hg (by simpa using h2)⟩
 rw[h2];have h2:a≠0:=by simpa using h2
 refine ay ?_;refine bD (c257 r) g186.ok ?_;refine ay ?_;rcases cE (!jS r)with h3|h3
 rotate_left
 ·rw[h3];repeat first|refine Xb ?_|refine Xq ?_|refine Yc rfl ?_|refine Xu rfl ?_|refine YG rfl ?_|refine XS rfl ?_|refine Z rfl ?_
  exact Yf (go (by have h3:jS r=true:=(by simpa using h3);simp[h2,h3]))
 rw[h3];have h3:jS r=false:=by simpa using h3
 refine ay ?_;refine Ya (λh4=>d ⟨h1,Or.inr ⟨h3,by simpa using h4⟩⟩) (λh4=>go ?_);have h4:r=39:=by simpa using h4
 simp[h2,h4]
theorem c223(s:Tx)(hs:s.length<=iC):PC 89 [.str s] (.bool (ej s)):=by
 refine Xa hP g89.ok rfl rfl ?_;rw[H1.e];unfold g89;dsimp only;refine bD (c241 s hs) g140.ok ?_;unfold ej;generalize (ee s 0 0).1=e;generalize (ee s 0 0).2=n;refine ay ?_;rcases cE (decide ((n:Int)>0))with h1|h1
 rotate_left
 ·rw[h1];refine ay ?_;have h1:¬1<=n:=by simp at h1;omega
  simp[h1]
 rw[h1];refine ay ?_;rcases cE (decide ((n:Int)<=24))with h2|h2
 rotate_left
 ·rw[h2];refine ay ?_;have h2:¬n<=24:=by simp at h2;omega
  simp[h2]
 rw[h2];refine ay ?_;rcases cE ((e:Int)==(s.length:Int))with h3|h3
 rotate_left
 ·rw[h3];refine ay ?_;have h3:¬e=s.length:=by simp at h3;omega
  simp[h3]
 rw[h3];refine ay ?_;have h3:e=s.length:=by simp at h3;omega
 subst h3;rcases cE (decide ((s.length:Int)<=40))with h4|h4
 rotate_left
 ·rw[h4];refine ay ?_;have h4:¬s.length<=40:=by simp at h4;omega
  simp[h4]
 rw[h4];refine ay (bD (c242 _) g141.ok (ay ?_));have h1:1<=n:=by simp at h1;omega
 have h2:n<=24:=by simp at h2;omega
 have h4:s.length<=40:=by simp at h4;omega
 simp[h1,h2,h4]
theorem Ycg(a:Int):mT a=0\/mT a=1\/mT a=2\/mT a=3:=by unfold mT;split<;>omega
theorem c252(a:Int):PC 181 [aS a] (aS (mT a)):=by
 refine Xa hP g181.ok rfl rfl ?_;rw[H1.e];unfold g181;dsimp only;refine Z rfl (YM rfl rfl ?_);refine Ya (λh=>?_) (λh=>?_)
 ·rw[mT,aE (by simpa using h)]
 ·rw[mT,aB (by simpa using h)]
def MU:I:=.agg [aS 0,aS 1,aS 2,aS 3,aS 1,aS 1,aS 3,aS 3,aS 2,aS 3,aS 2,aS 3,aS 3,aS 3,aS 3,aS 3]
theorem c263:PC 219 [] MU:=by
 refine Xa hP g219.ok rfl rfl ?_;unfold g219;dsimp only[H0.u];refine Qd rfl rfl (Z rfl (Z rfl (Z rfl (Z rfl (Z rfl (Qd rfl rfl (Zp rfl ?_)))))));rfl
theorem c250(a b:Int):PC 179 [aS a,aS b] (aS (dC a b)):=by
 refine Xa hP g179.ok rfl rfl ?_;rw[H2.e];unfold g179;dsimp only;refine YX c263 g219.ok (YX (c252 a) g181.ok ?_);have h1:=Ycg a;have h2:=Ycg b;unfold dC;have k:=c252 b;generalize mT a=p at h1 ⊢;generalize mT b=q at h2 k ⊢;rcases h1 with h1|h1|h1|h1<;>subst h1<;>refine Xd rfl ?_<;>refine YX k g181.ok ?_<;>rcases h2 with h2|h2|h2|h2<;>subst h2<;>exact Xd rfl (Xo (by kernel_rfl) rfl)
theorem c253(a b:Int):PC 182 [aS a,aS b] (.bool (decide (dC a b=mT b))):=by
 refine Xa hP g182.ok rfl rfl ?_;rw[H2.e];unfold g182;dsimp only;refine bD (c250 a b) g179.ok (bD (c252 b) g181.ok (Z (Xr ..) ?_));rfl
theorem ZbM(b:Int):dC b b=mT b:=by rw[dC,aE (Hg rfl)]
theorem YeD(x:Nm):ue x=if x.op=6 then 3 else if 8<=x.op/\x.op<=12 then i4 0 x.kids else 0:=by
 rw[Zem];by_cases h:x.op=6
 ·rw[aB (by omega),aE h,aE h]
 ·rw[aB h,aB h]
theorem BP:∀(k:Nat) (x:Nm),B3 x<=k->di x=true->PC 180 [.agg (cK x)] (aS (ue x))
 |0,x,h,_=>by cases x;simp at h
 |k+1,x,C,hf=>by
  rw[YD];refine Xa hP g180.ok rfl rfl ?_;rw[H1.e];unfold g180;dsimp only;refine Qd rfl rfl ?_;rw[YeD];have hlen:=It hf;rw[de]at hlen;generalize d:([]++[U.box [aS x.op,O x.n,aS x.who,.aX false false 4 (x.kids.map cK)]]:List U)=base;have b:ai base 0=.box [aS x.op,O x.n,aS x.who,.aX false false 4 (x.kids.map cK)]:=by rw[<-d];rfl
  clear d;refine Z rfl (Z (ld b rfl) (Z (Xr ..) ?_));refine Ya (λh=>?_) (λh=>?_)
  ·rw[aE (by simpa using h)]
  rw[aB (by simpa using h)];refine Z rfl (Z (ld b rfl) (Z rfl ?_));refine HN rfl (ld b rfl) rfl ?_;rw[show (decide (x.op >= 8)&&decide (x.op<=12))=decide (8<=x.op/\x.op<=12) by simp];refine Ya (λh=>?_) (λh=>?_);rotate_left
  ·rw[aB (by simpa using h)]
  rw[aE (by simpa using h)];refine Z rfl (Z (ld b rfl) (Z rfl ?_));clear b;refine Zh (ι:=Nat) (λi f J=>∃n,f=[O i,aS n]/\i<=x.kids.length/\i4 0 x.kids=i4 n (x.kids.drop i)) (λi=>x.kids.length-i) 0 ⟨0,rfl,by omega,by simp⟩ ?_;rintro i f J again ⟨n,rfl,E,hu⟩ r;refine Z rfl (Ya (λh=>?_) (λh=>?_))
  ·have h:i<x.kids.length:=by simpa using h
   have w:x.kids.drop i=x.kids[i]::x.kids.drop (i+1):=by rw[gB h]
   rw[w,i4]at hu;have j:x.kids[i]∈x.kids:=AI h;have o:=λ(s:List U)=>Zm s cK false false 4 x.kids .i64 i h;have z:=zM j;have p:=QV hf j;generalize x.kids[i]=y at hu o z p;refine Z (o _) (Z (bg (sU _)) ?_);refine Zq (row:=[aS y.op,O y.n,aS y.who,.aX false false 4 (y.kids.map cK)]) (row':=[aS y.op,O y.n,aS y.who,.aX false false 4 (y.kids.map cK)]) (by rw[YD];rfl) rfl rfl ?_;have A:=Xc J (U.box [aS y.op,O y.n,aS y.who,.aX false false 4 (y.kids.map cK)]);have B:Xf true 4 [.ak J.length 0] (J++[U.box [aS y.op,O y.n,aS y.who,.aX false false 4 (y.kids.map cK)]])=.ok (.agg (cK y)) [J.length] []:=ld A (by rw[YD];rfl);refine Z B (Qm (BP k y (by omega) p) rfl g180.ok.plain (nq _) (bD (c250 _ _) g179.ok (Z (Qi ..) ?_)));rw[Zd (n:=i) (by omega)];exact r (i+1) _ _ (by omega) ⟨_,rfl,by omega,hu⟩
  ·have h:i=x.kids.length:=by simp at h;omega
   subst h;rw[As,i4]at hu;rw[hu];rfl
theorem c251(x:Nm)(hf:di x=true):PC 180 [.agg (cK x)] (aS (ue x)):=BP _ x (AO _) hf
theorem BQ:∀(k:Nat) (x:Cn),B3 x<=k->cP x=true->PC 183 [.agg (fA x)] (aS (tM x))
 |0,x,h,_=>by cases x;simp at h
 |k+1,x,G,hf=>by
  rw[QN];refine Xa hP g183.ok rfl rfl ?_;rw[H1.e];unfold g183;dsimp only;refine Qd rfl rfl ?_;rw[Qeh];have C:=XY hf;have D:=YY hf;rw[de]at C D;generalize A:([]++[U.box [aS x.op,aS x.who,.str x.name,.aX false false 4 (x.aF.map cK),.aX false false 5 (x.kids.map fA)]]:List U)=base;have b:ai base 0=.box [aS x.op,aS x.who,.str x.name,.aX false false 4 (x.aF.map cK),.aX false false 5 (x.kids.map fA)]:=by rw[<-A];rfl
  clear A;refine Z rfl (Z (ld b rfl) (Z (Xr ..) ?_));refine Ya (λh=>?_) (λh=>?_)
  ·rw[aE (by simpa using h)];refine Z rfl (Z (ld b rfl) (Z (Xr ..) ?_));refine Ya (λh=>?_) (λh=>?_)
   ·rw[aE (by simpa using h)]
   rw[aB (by simpa using h)];refine Z (Xr ..) (Ya (λh=>?_) (λh=>?_))
   ·rw[aE (by simpa using h)]
   ·rw[aB (by simpa using h)]
  rw[aB (by simpa using h)];refine Z rfl (Z (ld b rfl) (Z rfl ?_));refine Zh (ι:=Nat) (λi d J=>∃n,d=[O i,aS n]/\ai J 0=.box [aS x.op,aS x.who,.str x.name,.aX false false 4 (x.aF.map cK),.aX false false 5 (x.kids.map fA)]/\i<=x.aF.length/\i4 0 x.aF=i4 n (x.aF.drop i)) (λi=>x.aF.length-i) 0 ⟨0,rfl,b,by omega,by simp⟩ ?_;rintro i d J again ⟨n,rfl,b,B,hu⟩ o;refine Z rfl (Ya (λh=>?_) (λh=>?_))
  ·have h:i<x.aF.length:=by simpa using h
   have r:x.aF.drop i=x.aF[i]::x.aF.drop (i+1):=by rw[gB h]
   rw[r,i4]at hu;have p:x.aF[i]∈x.aF:=AI h;have f:=λ(s:List U)=>Zm s cK false false 4 x.aF .i64 i h;have j:=X2 hf p;generalize x.aF[i]=y at hu f j;refine Z (f _) (Z (bg (sU _)) ?_);refine Zq (row:=[aS y.op,O y.n,aS y.who,.aX false false 4 (y.kids.map cK)]) (row':=[aS y.op,O y.n,aS y.who,.aX false false 4 (y.kids.map cK)]) (by rw[YD];rfl) rfl rfl ?_;have w:=Xc J (U.box [aS y.op,O y.n,aS y.who,.aX false false 4 (y.kids.map cK)]);have z:Xf true 4 [.ak J.length 0] (J++[U.box [aS y.op,O y.n,aS y.who,.aX false false 4 (y.kids.map cK)]])=.ok (.agg (cK y)) [J.length] []:=ld w (by rw[YD];rfl);refine Z z (Qm (c251 y j) rfl g180.ok.plain (nq _) (bD (c250 _ _) g179.ok (Z (Qi ..) ?_)));rw[Zd (n:=i) (by omega)];exact o (i+1) _ _ (by omega) ⟨_,rfl,Zb _ b,by omega,hu⟩
  have h:i=x.aF.length:=by simp at h;omega
  subst h;rw[As,i4]at hu;rw[hu];clear o hu B;refine Z rfl (Z (ld b rfl) (Z rfl ?_));refine Zh (ι:=Nat) (λi d s=>∃m,d=[O i,aS m]/\i<=x.kids.length/\oK n x.kids=oK m (x.kids.drop i)) (λi=>x.kids.length-i) 0 ⟨n,rfl,by omega,by simp⟩ ?_;rintro i d s again ⟨m,rfl,B,hu⟩ o;refine Z rfl (Ya (λh=>?_) (λh=>?_))
  ·have h:i<x.kids.length:=by simpa using h
   have r:x.kids.drop i=x.kids[i]::x.kids.drop (i+1):=by rw[gB h]
   rw[r,oK]at hu;have p:x.kids[i]∈x.kids:=AI h;have f:=λ(s:List U)=>Zm s fA false false 5 x.kids .i64 i h;have j:=Y2 hf p;have F:=Bo p;generalize x.kids[i]=y at hu f j F;refine Z (f _) (Z (bg (z_ _)) ?_);refine Zq (row:=[aS y.op,aS y.who,.str y.name,.aX false false 4 (y.aF.map cK),.aX false false 5 (y.kids.map fA)]) (row':=[aS y.op,aS y.who,.str y.name,.aX false false 4 (y.aF.map cK),.aX false false 5 (y.kids.map fA)]) (by rw[QN];rfl) rfl rfl ?_;have w:=Xc s (U.box [aS y.op,aS y.who,.str y.name,.aX false false 4 (y.aF.map cK),.aX false false 5 (y.kids.map fA)]);have z:Xf true 5 [.ak s.length 0] (s++[U.box [aS y.op,aS y.who,.str y.name,.aX false false 4 (y.aF.map cK),.aX false false 5 (y.kids.map fA)]])=.ok (.agg (fA y)) [s.length] []:=ld w (by rw[QN];rfl);refine Z z (Qm (BQ k y (by omega) j) rfl g183.ok.plain (se _) (bD (c250 _ _) g179.ok (Z (Qi ..) ?_)));rw[Zd (n:=i) (by omega)];exact o (i+1) _ _ (by omega) ⟨_,rfl,by omega,hu⟩
  ·have h:i=x.kids.length:=by simp at h;omega
   subst h;rw[As,oK]at hu;rw[hu];rfl
theorem c254(x:Cn)(hf:cP x=true):PC 183 [.agg (fA x)] (aS (tM x)):=BQ _ x (AO _) hf
theorem V3(u:Int)(x:Ef):fV [.agg [aS u],.agg (bC x)]=true:=by rw[Yz];rfl
theorem c235(u:Int)(x:Ef)(hf:dO x=true):PC 134 [.agg [aS u],.agg (bC x)] (.bool (decide (dC u (ue x.n)=0))):=by
 rw[Yz];refine Xa hP g134.ok rfl rfl ?_;rw[H2.e];unfold g134;dsimp only;refine Qd rfl rfl (Qd rfl rfl (Xd rfl (Ze rfl rfl (Xd rfl (Ze (ld (v:=.agg (cK x.n)) rfl (by rw[YD];rfl)) rfl ?_)))));exact Yo (c251 _ (zP hf)) rfl g180.ok.plain (nq _) (YX (c250 _ _) g179.ok (Xd (Xr ..) (Xo (by kernel_rfl) rfl)))
theorem c236(u:Int)(x:Ef):PC 135 [.agg [aS u],.agg (bC x)] (.bool (decide (mT u=0))):=by
 rw[Yz];refine Xa hP g135.ok rfl rfl ?_;rw[H2.e];unfold g135;dsimp only;refine Qd rfl rfl (Qd rfl rfl (Z rfl (Z rfl ?_)));exact bD (c252 _) g181.ok (Z (Xr ..) rfl)
theorem c237(u:Int)(x:Ef)(hf:dO x=true):PC 136 [.agg [aS u],.agg (bC x)] (.bool (HT (dC u (ue x.n)) 1)):=by
 rw[Yz];refine Xa hP g136.ok rfl rfl ?_;rw[H2.e];unfold g136;dsimp only;refine Qd rfl rfl (Qd rfl rfl (Xd rfl (Ze rfl rfl (Xd rfl (Ze (ld (v:=.agg (cK x.n)) rfl (by rw[YD];rfl)) rfl ?_)))));refine Yo (c251 _ (zP hf)) rfl g180.ok.plain (nq _) (YX (c250 _ _) g179.ok (YX (c253 _ _) g182.ok (Xo (by kernel_rfl) ?_)));rw[HT,ZbM]
variable{J σ0:List U}
theorem Zg(l:List U){c:Nat}(h:c<J.length):ai (J++l) c=ai J c:=by
 simp_all [Qp,Bi]
variable{b k:Nat}
theorem Qb{c:Nat}(x:U)(h:c<J.length)(hc:c≠b):ai (J.set b x) c=ai J c:=by
 have h1:=O7 h;exact Qp (by grind)
def Gr(σ0:List U)(n:Nat)(rows:List (List I))(k:Nat)(v:I)(J:List U):Prop:=
 σ0.length<=J.length/\(∀c,c<σ0.length->ai J c=ai σ0 c)/\((k=0/\v=.aq/\rows=[])\/(0<k/\∃b,σ0.length<=b/\v=.sl b 0 k false/\ai J b=.rows n rows/\rows.length=k))
theorem Gr.nil(n:Nat)(J:List U):Gr J n [] 0 .aq J:=⟨AO _,λ_ _=>rfl,.inl ⟨rfl,rfl,rfl⟩⟩
variable{v:I}
variable{rows:List (List I)}
theorem Gr.Lq{n:Nat}(h:Gr σ0 n rows k v J):gN n rows k v J:=by
 rcases h.2.2 with h|⟨h1,b,_,h2,h3,h4⟩
 ·exact .inl h
 ·exact .inr ⟨h1,b,h2,h3,h4⟩
theorem Gr.fG{n:Nat}(h:Gr σ0 n rows k v J){c:Nat}{x:U}(hx:ai σ0 c=x)(hd:x≠.dead):ai J c=x:=by
 rw[h.2.1 c (Yb hx hd)];exact hx
theorem Gr.base{l:List U}{n:Nat}(h:Gr (σ0++l) n rows k v J):Gr σ0 n rows k v J:=by
 obtain⟨h1,h2,h3⟩:=h;simp only[AT]at h1 h2 h3;refine⟨by omega,λc d=>?_,?_⟩
 ·rw[h2 c (by omega),Zg l d]
 grind
theorem Gr.put{n by_:Nat}{z cs:List I}{x:I}(hg:Gr σ0 n rows k v J)(hx:fill z [(0,n)] [x]=some cs)(hc:chunk n 1 cs=some [cs])(hr:cs.all I.cell=true)(d:(2*(k+1)+192)*by_<=2 ^ 48){K:KT}
 (f:∀i σ',Gr σ0 n (rows++[cs]) (k+1) i σ'->K i σ'):VV.wr (Yq n 1 z [(0,n)] [x] J) J (λt J=>VV.wr (Yh n by_ [v,t] J) J K):=by
 rw[Rg _ _ _ _ _ cs hx hc];obtain⟨g1,g2,hg⟩:=hg;rcases hg with ⟨rfl,rfl,rfl⟩|⟨o,b,p,rfl,hb,j⟩
 ·rw[YcG _ n by_ J cs hr (by simpa using d)];refine f _ _ ⟨by simp;omega,λc hc=>?_,.inr ⟨by omega,_,?_,rfl,by have:=Xc (J++[.rows n [cs]]) (.rows n [cs]);simpa using this,rfl⟩⟩
  ·rw[Zg _ (by simp;omega),Zg _ (by omega),g2 c hc]
  ·omega
 ·rw[OD _ n by_ J b k false rows cs hb j hr d];refine f _ _ ⟨by simp;omega,λc hc=>?_,.inr ⟨by omega,_,?_,rfl,?_,by simp[j]⟩⟩
  ·rw[Zg _ (by simp;omega),Zg _ (by simp;omega),Qb _ (by omega) (by omega),g2 c hc]
  ·omega
  ·have:=Xc (J.set b .dead++[.rows n [cs]]) (.rows n (rows++[cs]));simpa using this
inductive Pt where
 |ef (x:Ef)
 |nm (x:Nm)
 |cn (x:Cn)
inductive C9:I->Pt->Prop
 |ef (x:Ef):C9 (.iface 272 (.agg [.al (bC x) 0])) (.ef x)
 |nm (row:List I) (j:Nat) (x:Nm):nQ row j x->C9 (.iface 275 (.agg [.al row j])) (.nm x)
 |cn (row:List I) (j:Nat) (x:Cn):tB row j x->C9 (.iface 323 (.agg [.al row j])) (.cn x)
def Pt.kids:Pt->List Pt
 |.ef x=>(if cQ x.op then [.nm x.n]else [])++(if x.op=8 then .cn x.c::(x.cL.map .ef++x.cV.map .ef)else [])
 |.nm x=>x.kids.map .nm
 |.cn x=>x.aF.map .nm++x.kids.map .cn
def Pt.fit:Pt->Bool
 |.ef x=>dO x
 |.nm x=>di x
 |.cn x=>cP x
mutual
def rQ:Nm->List Pt
 |.mk op n who kids=>.nm (.mk op n who kids)::pn kids
def pn:List Nm->List Pt
 |[]=>[]
 |x::l=>rQ x++pn l
end
mutual
def tN:Cn->List Pt
 |.mk op who name aF kids=>.cn (.mk op who name aF kids)::(pn aF++qM kids)
def qM:List Cn->List Pt
 |[]=>[]
 |x::l=>tN x++qM l
end
mutual
def jD:Ef->List Pt
 |.mk op who n name c cL cV=>.ef (.mk op who n name c cL cV)::((if cQ op then rQ n else [])++(if op=8 then tN c++(bR cL++bR cV)else []))
def bR:List Ef->List Pt
 |[]=>[]
 |x::l=>jD x++bR l
end
def flat:Pt->List Pt
 |.ef x=>jD x
 |.nm x=>rQ x
 |.cn x=>tN x
def dV:List Pt->List Pt
 |[]=>[]
 |p::l=>flat p++dV l
theorem O9:∀a b,dV (a++b)=dV a++dV b
 |[],b=>rfl
 |p::a,b=>by simp[dV,O9 a b]
theorem U7:∀l,dV (l.map .nm)=pn l
 |[]=>rfl
 |x::l=>by simp[dV,U7 l,flat,pn]
theorem XcN:∀l,dV (l.map .cn)=qM l
 |[]=>rfl
 |x::l=>by simp[dV,XcN l,flat,qM]
theorem Jf:∀l,dV (l.map .ef)=bR l
 |[]=>rfl
 |x::l=>by simp[dV,Jf l,flat,bR]
theorem Ydu(p:Pt):flat p=p::dV p.kids:=by
 cases p with
 |ef x=>
  obtain⟨op,who,n,name,c,cL,cV⟩:=x;have e:Pt.kids (.ef (.mk op who n name c cL cV))=(if cQ op then [.nm n]else [])++(if op=8 then .cn c::(cL.map .ef++cV.map .ef)else []):=rfl;rw[e,O9];simp only[flat,jD]
  congr 2
  ·by_cases h:cQ op=true<;>simp[h,dV,flat]
  ·by_cases h:op=8<;>simp[h,dV,flat,O9,Jf]
 |nm x=>cases x;simp[flat,rQ,Pt.kids,Nm.kids,U7]
 |cn x=>cases x;simp[flat,tN,Pt.kids,Cn.aF,Cn.kids,O9,U7,XcN]
theorem YcN(p:Pt):0<(flat p).length:=by rw[Ydu];simp
theorem TR:∀ {l:List Pt} {p:Pt},p∈l->(flat p).length<=(dV l).length
 |q::l,p,h=>by
  simp only[dV,AT];rcases Az.1 h with rfl|h
  ·omega
  ·have:=TR h;omega
theorem Uw:∀l:List Pt,l.length<=(dV l).length
 |[]=>by simp
 |p::l=>by
  have:=Uw l;have:=YcN p;simp[dV];omega
theorem XeB{p q:Pt}(h:p.fit=true)(hq:q∈p.kids):q.fit=true:=by
 cases p with
 |ef x=>
  simp only[Pt.kids,Bd]at hq;rcases hq with hq|hq
  ·split at hq
   ·simp at hq;subst hq;exact zP h
   ·simp at hq
  ·split at hq
   ·simp only[Az,Bd,By]at hq;rcases hq with rfl|⟨y,d,rfl⟩|⟨y,d,rfl⟩
    ·exact X9 h
    ·exact XV (XP h) d
    ·exact XV (YP h) d
   ·simp at hq
 |nm x=>
  simp only[Pt.kids,By]at hq;obtain⟨y,d,rfl⟩:=hq;exact QV h d
 |cn x=>
  simp only[Pt.kids,Bd,By]at hq;rcases hq with ⟨y,d,rfl⟩|⟨y,d,rfl⟩
  ·exact X2 h d
  ·exact Y2 h d
def fQ{S:Type}(step:S->Pt->S×Bool):S->List Pt->S×Bool
 |s,[]=>(s,true)
 |s,p::l=>if (step s p).2=true then fQ step (step s p).1 l else ((step s p).1,false)
variable{S α:Type}
theorem PG(step:S->Pt->S×Bool):∀(a:List Pt) (s:S) (b:List Pt),fQ step s (a++b)=if (fQ step s a).2=true then fQ step (fQ step s a).1 b else ((fQ step s a).1,false)
 |[],s,b=>by simp[fQ]
 |p::a,s,b=>by
  simp only[Cz,fQ];by_cases h:(step s p).2=true<;>simp_all [PG]
def Bt(b:Nat)(J σ':List U):Prop:=J.length<=σ'.length/\∀c,c<J.length->c≠b->ai σ' c=ai J c
theorem Bt.refl(b:Nat)(J:List U):Bt b J J:=⟨AO _,λ_ _ _=>rfl⟩
theorem Bt.trans{x y z:List U}(h:Bt b x y)(k:Bt b y z):Bt b x z:=⟨Nat.le_trans h.1 k.1,λc d hb=>by rw[k.2 c (by have:=h.1;omega) hb,h.2 c d hb]⟩
theorem Bt.fG{σ':List U}(h:Bt b J σ'){c:Nat}{x:U}(hx:ai J c=x)(hd:x≠.dead)(hc:c≠b):ai σ' c=x:=by
 rw[h.2 c (Yb hx hd) hc];exact hx
theorem Bt.gr{σ':List U}(b:Nat)(h1:J.length<=σ'.length)(h:∀c,c<J.length->ai σ' c=ai J c):Bt b J σ':=⟨h1,λc d _=>h c d⟩
def Jc{S:Type}(d:I)(b:Nat)(enc:S->List I)(step:S->Pt->S×Bool):Prop:=
 ∀p v,C9 v p->∀s J K,ai J b=.box (enc s)->(∀σ',Bt b J σ'->ai σ' b=.box (enc (step s p).1)->K (.bool (step s p).2) σ')->VV.call .gP [d,v] J K
inductive ov:List I->List Pt->Prop
 |nil:ov [] []
 |snoc (vs:List I) (ps:List Pt) (v:I) (p:Pt):ov vs ps->C9 v p->ov (vs++[v]) (ps++[p])
variable{ps:List Pt}
variable{vs:List I}
theorem ov.length(h:ov vs ps):vs.length=ps.length:=by
 induction h<;>simp_all
theorem ov.get(h:ov vs ps):∀i (h1:i<vs.length) (h2:i<ps.length),C9 vs[i] ps[i]:=by
 induction h with
 |nil=>intro i h;simp at h
 |snoc vs ps v p h d f=>
  intro i h1 h2;have j:=h.length
  grind
def one(v:I):List I:=[v]
set_option maxHeartbeats 2000000
def lQ(x:Ef):List I:=[.iface 272 (.agg [.al (bC x) 0])]
def nk(x:Nm):List I:=[.iface 275 (.agg [.al (cK x) 0])]
def qN(x:Cn):List I:=[.iface 323 (.agg [.al (fA x) 0])]
theorem XeX(l:List Ef)(hl:k+l.length<=1000000000)(hg:Gr σ0 1 rows k v J){K:n_}
 (A:∀d σ' w,Gr σ0 1 (rows++l.map lQ) (k+l.length) d σ'->K [w,d] σ') :
  VV.loop (λag v55 J=>VV.rd (Qn .lss false [(h0 v55),O l.length] J) λf=>VV.test f (
   VV.rd (Zi 14 [gE l,(h0 v55)] J) λj=>VV.rd (XJ [.dq] [(0,1)] [j] J) λo=>VV.rd (XF 272 [o] J) λp=>
   VV.wr (Yq 1 1 [.dp] [(0,1)] [p] J) J λr J=>VV.wr (Yh 1 16 [(h1 v55),r] J) J λx J=>
   VV.rd (Qn .add false [(h0 v55),(.int .i64 1)] J) λy=>ag [y,x] J) (K v55 J)) [(.int .i64 0),v] J:=by
 refine Zh (ι:=Nat) (λi vs s=>∃v,vs=[O i,v]/\i<=l.length/\Gr σ0 1 (rows++(l.take i).map lQ) (k+i) v s) (λi=>l.length-i) 0 ⟨v,rfl,by omega,by simpa using hg⟩ ?_;rintro i vs s again ⟨v,rfl,C,hg⟩ z;refine Z rfl (ZT (λh=>?_) (λh=>?_))
 ·refine Z (Zm _ bC _ _ _ l _ i h) (Z rfl (Z rfl ?_));refine hg.put (cs:=lQ l[i]) rfl rfl rfl (by omega) (λd σ' D=>?_);refine Z (Qi ..) ?_;rw[Zd (n:=i) (by omega)];refine z (i+1) _ _ (by omega) ⟨d,rfl,by omega,?_⟩
  grind [Z6]
 grind
theorem Ce(h:ov vs ps):∀l:List Ef,ov (vs++(l.map lQ).flatten) (ps++l.map .ef):=by
 intro l
 induction l generalizing vs ps with
 |nil=>simpa using h
 |cons x l d=>
  have:=d (ov.snoc _ _ _ _ h (.ef x));simpa[lQ]using this
theorem CR(h:ov vs ps):∀l:List Nm,ov (vs++(l.map nk).flatten) (ps++l.map .nm):=by
 intro l
 induction l generalizing vs ps with
 |nil=>simpa using h
 |cons x l d=>
  have:=d (ov.snoc _ _ _ _ h (.nm (cK x) 0 x (rB x)));simpa[nk]using this
theorem KZ(h:ov vs ps):∀l:List Cn,ov (vs++(l.map qN).flatten) (ps++l.map .cn):=by
 intro l
 induction l generalizing vs ps with
 |nil=>simpa using h
 |cons x l d=>
  have:=d (ov.snoc _ _ _ _ h (.cn (fA x) 0 x (z8 x)));simpa[qN]using this
theorem Pj{f:α->List I}(h:∀x,∃v,f x=[v]):∀l:List α,l.map f=((l.map f).flatten).map one
 |[]=>rfl
 |x::l=>by
  obtain⟨v,d⟩:=h x;have:=Pj h l
  grind [one]
theorem PR(l:List Ef):l.map lQ=((l.map lQ).flatten).map one:=Pj (λ_=>⟨_,rfl⟩) l
theorem ZcT(l:List Nm):l.map nk=((l.map nk).flatten).map one:=Pj (λ_=>⟨_,rfl⟩) l
theorem Yd9(l:List Cn):l.map qN=((l.map qN).flatten).map one:=Pj (λ_=>⟨_,rfl⟩) l
theorem c208{S:Type}{enc:S->List I}{step:S->Pt->S×Bool}{V:I}{b:Nat}(hc:Jc V b enc step):∀(k:Nat) (p:Pt),(flat p).length<=k->p.fit=true->(flat p).length<=500000000->∀v,C9 v p->∀s J K,ai J b=.box (enc s) ->
  (∀σ',Bt b J σ'->ai σ' b=.box (enc (fQ step s (flat p)).1)->K (.bool (fQ step s (flat p)).2) σ')->g218.u VV [v,V] J K
 |0,p,h,_,_=>by have:=YcN p;omega
 |k+1,p,X,hf,Y=>by
  intro v hv s J K hb B;rw[Ydu]at X Y B;simp only[A1]at X Y;have jd:=Uw p.kids;rw[H2.e];unfold g218;dsimp only;refine hc p v hv s J _ hb (λσ1 t1 H=>?_);simp only[fQ]at B;refine Z rfl (Ya (λh=>?_) (λh=>?_))
  ·simp_all
  have h:(step s p).2=true:=by simpa using h
  rw[h,aE rfl]at B;generalize (step s p).1=s1 at B H;refine Zj λk2 L=>?_;have F:∀v2 σ2 vs,ov vs p.kids->Gr σ1 1 (vs.map one) vs.length v2 σ2->k2 [v2] σ2:=by
   intro v2 σ2 vs hp d;rw[L];clear L k2;have hlen:=hp.length;have j7:=d.fG H (by simp);have t2:Bt b σ1 σ2:=⟨d.1,λc hc _=>d.2.1 c hc⟩;refine Z (d.Lq.len _) (Zh (ι:=Nat) (λi ws σ3=>∃G,ws=[O i]/\i<=p.kids.length/\ai σ3 b=.box (enc G)/\Bt b σ2 σ3/\fQ step s1 (dV p.kids)=fQ step G (dV (p.kids.drop i))) (λi=>p.kids.length-i) 0 ⟨s1,rfl,by omega,j7,Bt.refl _ _,by simp⟩ ?_);rintro i ws σ3 again ⟨G,rfl,P,Co,t3,hr⟩ y;refine Z rfl (Ya (λh=>?_) (λh=>?_))
   ·have h:i<vs.length:=by simpa using h
    have Q:i<p.kids.length:=by omega
    have R:gN 1 (vs.map one) vs.length v2 σ3:=by
     rcases d.2.2 with h|⟨q1,c,q2,q3,q4,q5⟩
     ·exact .inl h
     ·refine .inr ⟨q1,c,q3,?_,q5⟩;have vx:c≠b:=by
       grind
      exact t3.fG q4 (by simp) vx
    obtain⟨c,z,hj,A⟩:=R.at .i64 i h;refine Z z (Z (A false 1 vs[i] (by simp[one])) ?_);have iO:p.kids[i]∈p.kids:=AI Q;have tT:=TR iO;have dS:p.kids.drop i=p.kids[i]::p.kids.drop (i+1):=gB Q;rw[dS,dV,PG]at hr;refine Xe hP rfl g218.ok rfl (c208 hc k p.kids[i] (by omega) (XeB hf iO) (by omega) _ (hp.get i h Q) G σ3 _ Co (λσ4 t4 b4=>?_));refine Z rfl (Ya (λh5=>?_) (λh5=>?_))
    ·have h5:(fQ step G (flat p.kids[i])).2=false:=by simpa using h5
     rw[h5]at hr;have:=B σ4 ((t1.trans t2).trans (t3.trans t4)) (by rw[hr];exact b4);rw[hr]at this;exact this
    ·have h5:(fQ step G (flat p.kids[i])).2=true:=by simpa using h5
     rw[h5,aE rfl]at hr;refine Z (Qi ..) ?_;rw[Zd (n:=i) (by omega)];exact y (i+1) _ _ (by omega) ⟨_,rfl,by omega,b4,t3.trans t4,hr⟩
   ·have h:i=p.kids.length:=by simp at h;omega
    subst h;rw[As,dV,fQ]at hr;have:=B σ3 ((t1.trans t2).trans t3) (by rw[hr];exact Co);rw[hr]at this;exact this
  clear L B hb hc;cases hv with
  |ef x=>
   refine Z rfl (Z rfl (Z rfl (Xg ?_)));refine Zq (row:=[.al (bC x) 0]) rfl rfl rfl ?_;have f:=Xc σ1 (U.box [.al (bC x) 0]);have bZ:σ1.length<(σ1++[U.box [.al (bC x) 0]]).length:=by simp
   have r:∀v2 σ2 vs,ov vs (Pt.ef x).kids->Gr (σ1++[U.box [.al (bC x) 0]]) 1 (vs.map one) vs.length v2 σ2->k2 [v2] σ2:=λv2 σ2 vs h1 h2=>F v2 σ2 vs h1 h2.base;clear F H t1;generalize σ1++[U.box [.al (bC x) 0]]=o at f bZ r ⊢;generalize σ1.length=c at f bZ ⊢;refine Z rfl (Z (ld f rfl) (Z rfl (Z rfl (Z (bg (gQ _)) ?_))));refine bD (c210 _) g175.ok (Zj λk14 T=>?_);have k1:∀v σ2 vs,ov vs (if cQ x.op then [.nm x.n]else [])->Gr o 1 (vs.map one) vs.length v σ2->k14 [v] σ2:=by
    intro v σ2 vs hp d;rw[T];clear T k14;have ml:=d.fG f (by simp);have hvl:vs.length<=1:=by rw[hp.length];split<;>simp
    refine Z rfl (Z (ld ml rfl) (Z rfl (Z rfl (Z (bg (gQ _)) (Z (Xr ..) ?_)))));refine Ya (λh=>?_) (λh=>?_);rotate_left
    ·have h:¬x.op=8:=by simpa using h
     refine r _ _ vs ?_ d;simp_all [Pt.kids]
    have h:x.op=8:=by simpa using h
    have Ma:(Pt.ef x).kids=(if cQ x.op then [.nm x.n]else [])++(.cn x.c::(x.cL.map .ef++x.cV.map .ef)):=by simp only[Pt.kids,aE h]
    have gV:x.cL.length+x.cV.length+1<=500000000:=by
     grind
    refine Z rfl (Z (ld ml rfl) ?_);refine ay ?_;refine d.put (cs:=[.iface 323 (.agg [.al (bC x) 7])]) rfl rfl rfl (by omega) (λC σ' D=>?_);have Lw:=D.fG f (by simp);refine Z rfl (Z (ld Lw rfl) (Z rfl (Z rfl (Z (bg (Bq _)) ?_))));refine Z rfl (Z (ld Lw rfl) (Z rfl (Z rfl (Z (bg (Bm _)) ?_))));refine Z rfl (ZM 3 (Yk (Z rfl (Xg (Z rfl ?_)))));refine Z (v:=O x.cL.length) (rd:=[]) (by simp[Qe]) (XeX x.cL (by omega) D (λv3 σ3 w R=>?_));refine Z rfl (Yk (Z rfl (Xg (Z rfl ?_))));refine Z (v:=O x.cV.length) (rd:=[]) (by simp[Qe]) (XeX x.cV (by omega) R (λv4 σ4 w hg4=>?_));refine Z rfl (Yk (Z rfl (Yf ?_)));refine r _ _ ((vs++[.iface 323 (.agg [.al (bC x) 7])])++(x.cL.map lQ).flatten++(x.cV.map lQ).flatten) ?_ ?_
    ·rw[Ma];have:=Ce (Ce (ov.snoc _ _ _ _ hp (.cn (bC x) 7 x.c (BV x))) x.cL) x.cV;simpa using this
    ·have z:((vs++[I.iface 323 (.agg [.al (bC x) 7])])++(x.cL.map lQ).flatten++(x.cV.map lQ).flatten).map one=Hw one vs++[[I.iface 323 (.agg [.al (bC x) 7])]]++Hw lQ x.cL++Hw lQ x.cV:=by
      rw[A8,A8,<-PR,<-PR,A8];rfl
     have A:((vs++[I.iface 323 (.agg [.al (bC x) 7])])++(x.cL.map lQ).flatten++(x.cV.map lQ).flatten).length=vs.length+1+x.cL.length+x.cV.length:=by
      have l1:=congrArg GF (PR x.cL);have l2:=congrArg GF (PR x.cV)
      grind
     rw[z,A];exact hg4
   clear T;refine Ya (λh=>?_) (λh=>?_)
   ·refine Z rfl (Z (ld f rfl) ?_);refine ay ?_;refine(Gr.nil 1 o).put (cs:=[.iface 275 (.agg [.al (bC x) 2])]) rfl rfl rfl (by omega) (λC σ' D=>?_);refine k1 _ _ [.iface 275 (.agg [.al (bC x) 2])] ?_ D;rw[aE h];exact ov.snoc [] [] _ _ .nil (.nm (bC x) 2 x.n (CQ x))
   ·refine k1 _ _ [] ?_ (Gr.nil 1 o);rw[h];exact .nil
  |nm row j x E=>
   refine Z rfl (Z rfl (Z rfl (Yf ?_)));refine Z rfl (Z rfl (Z rfl (Xg ?_)));refine Zq (row:=[.al row j]) rfl rfl rfl ?_;have f:=Xc σ1 (U.box [.al row j]);have r:∀v2 σ2 vs,ov vs (Pt.nm x).kids->Gr (σ1++[U.box [.al row j]]) 1 (vs.map one) vs.length v2 σ2->k2 [v2] σ2:=λv2 σ2 vs h1 h2=>F v2 σ2 vs h1 h2.base;clear F H t1;generalize σ1++[U.box [.al row j]]=o at f r ⊢;generalize σ1.length=c at f ⊢;have gV:x.kids.length<=500000000:=by
    grind [Pt.kids]
   refine Z rfl (Z (ld f rfl) (Z rfl (Z rfl (Z (bg E.h3) ?_))));refine Z (v:=O x.kids.length) (rd:=[]) (by simp[Qe]) (Zh (ι:=Nat) (λi vs s=>∃v,vs=[O i,v]/\i<=x.kids.length/\Gr o 1 ((x.kids.take i).map nk) i v s) (λi=>x.kids.length-i) 0 ⟨_,rfl,by omega,by simpa using Gr.nil 1 o⟩ ?_);rintro i vs s again ⟨v,rfl,P,d⟩ y;refine Z rfl (ZT (λh=>?_) (λh=>?_))
   ·refine Z rfl (Z (ld (d.fG f (by simp)) rfl) (Z rfl (Z rfl (Z (bg E.h3) ?_))));refine Z (Zm _ cK _ _ _ x.kids _ i h) (Z rfl (Z rfl ?_));refine d.put (cs:=nk x.kids[i]) rfl rfl rfl (by omega) (λC σ' D=>?_);refine Z (Qi ..) ?_;rw[Zd (n:=i) (by omega)];refine y (i+1) _ _ (by omega) ⟨C,rfl,by omega,?_⟩
    grind [Z6]
   ·subst h;rw[C5]at d;refine r _ _ (x.kids.map nk).flatten ?_ ?_
    ·have:=CR .nil x.kids;simpa[Pt.kids]using this
    ·have z:=ZcT x.kids;have A:=congrArg GF z;rw[<-z];simp only[Be]at A;rw[<-A];exact d
  |cn row j x E=>
   refine Z rfl (Z rfl (Z rfl (Yf ?_)));refine Z rfl (Z rfl (Z rfl (Yf ?_)));refine Z rfl (Z rfl (Z rfl (Xg ?_)));refine Zq (row:=[.al row j]) rfl rfl rfl ?_;have f:=Xc σ1 (U.box [.al row j]);have r:∀v2 σ2 vs,ov vs (Pt.cn x).kids->Gr (σ1++[U.box [.al row j]]) 1 (vs.map one) vs.length v2 σ2->k2 [v2] σ2:=λv2 σ2 vs h1 h2=>F v2 σ2 vs h1 h2.base;clear F H t1;generalize σ1++[U.box [.al row j]]=o at f r ⊢;generalize σ1.length=c at f ⊢;have gV:x.aF.length+x.kids.length<=500000000:=by
    grind [Pt.kids]
   refine Z rfl (Z (ld f rfl) (Z rfl (Z rfl (Z (bg E.h3) ?_))));refine Z (v:=O x.aF.length) (rd:=[]) (by simp[Qe]) (Zh (ι:=Nat) (λi vs s=>∃v,vs=[O i,v]/\i<=x.aF.length/\Gr o 1 ((x.aF.take i).map nk) i v s) (λi=>x.aF.length-i) 0 ⟨_,rfl,by omega,by simpa using Gr.nil 1 o⟩ ?_);rintro i vs s again ⟨v,rfl,P,d⟩ y;refine Z rfl (ZT (λh=>?_) (λh=>?_))
   ·refine Z rfl (Z (ld (d.fG f (by simp)) rfl) (Z rfl (Z rfl (Z (bg E.h3) ?_))));refine Z (Zm _ cK _ _ _ x.aF _ i h) (Z rfl (Z rfl ?_));refine d.put (cs:=nk x.aF[i]) rfl rfl rfl (by omega) (λC σ' D=>?_);refine Z (Qi ..) ?_;rw[Zd (n:=i) (by omega)];refine y (i+1) _ _ (by omega) ⟨C,rfl,by omega,?_⟩
    grind [Z6]
   subst h;rw[C5]at d;clear y;refine Z rfl (Z (ld (d.fG f (by simp)) rfl) (Z rfl (Z rfl (Z (bg E.h4) ?_))));refine Z (v:=O x.kids.length) (rd:=[]) (by simp[Qe]) (Zh (ι:=Nat) (λi vs s=>∃v,vs=[O i,v]/\i<=x.kids.length/\Gr o 1 (x.aF.map nk++(x.kids.take i).map qN) (x.aF.length+i) v s) (λi=>x.kids.length-i) 0 ⟨_,rfl,by omega,by simpa[h1,tm,jM]using d⟩ ?_);clear d;rintro i vs s again ⟨v,rfl,P,d⟩ y;refine Z rfl (ZT (λh=>?_) (λh=>?_))
   ·refine Z rfl (Z (ld (d.fG f (by simp)) rfl) (Z rfl (Z rfl (Z (bg E.h4) ?_))));refine Z (Zm _ fA _ _ _ x.kids _ i h) (Z rfl (Z rfl ?_));refine d.put (cs:=qN x.kids[i]) rfl rfl rfl (by omega) (λC σ' D=>?_);refine Z (Qi ..) ?_;rw[Zd (n:=i) (by omega)];refine y (i+1) _ _ (by omega) ⟨C,rfl,by omega,?_⟩
    grind [Z6]
   ·subst h;rw[C5]at d;refine r _ _ ((x.aF.map nk).flatten++(x.kids.map qN).flatten) ?_ ?_
    ·have:=KZ (CR .nil x.aF) x.kids;simpa[Pt.kids]using this
    ·have z:((x.aF.map nk).flatten++(x.kids.map qN).flatten).map one=x.aF.map nk++x.kids.map qN:=by
      grind [ZcT,Yd9]
     have A:=congrArg GF z;simp only[Be,AT]at A;simp_all
mutual
theorem JO:∀x:Nm,nJ x=min ((rQ x).length:Int) 1073741824
 |.mk op n who kids=>by
  simp only[nJ,rQ,A1]
  rw[Ti 1 kids (by omega) (by omega)];omega
theorem Ti:∀(n:Int) (l:List Nm),0<=n->n<=1073741824->kE n l=min (n+((pn l).length:Int)) 1073741824
 |n,[],h1,h2=>by simp only[kE,pn,Cb];omega
 |n,x::l,h1,h2=>by
  simp only[kE,pn,AT]
  rw[JO x,Ti _ l (by omega) (by omega)];omega
end
mutual
theorem XeO:∀x:Cn,qO x=min ((tN x).length:Int) 1073741824
 |.mk op who name aF kids=>by
  simp only[qO,tN,A1,AT]
  rw[Ti 1 aF (by omega) (by omega),Xei _ kids (by omega) (by omega)];omega
theorem Xei:∀(n:Int) (l:List Cn),0<=n->n<=1073741824->oL n l=min (n+((qM l).length:Int)) 1073741824
 |n,[],h1,h2=>by simp only[oL,qM,Cb];omega
 |n,x::l,h1,h2=>by
  simp only[oL,qM,AT]
  rw[XeO x,Xei _ l (by omega) (by omega)];omega
end
mutual
theorem Lb:∀(n:Int) (x:Ef),0<=n->n<=1073741824->DE n x=min (n+((jD x).length:Int)) 1073741824
 |n,.mk op who f name c cL cV,h1,h2=>by
  simp only[DE,jD,A1,AT]
  rw[JO f,XeO c,zO 0 cL (by omega) (by omega),zO 0 cV (by omega) (by omega)]
  generalize cQ op=d
  by_cases h:op=8
  ·simp only[aE h]
   cases d<;>simp only[if_true,if_false,AT,Cb,B8]<;>omega
  ·simp only[aB h]
   cases d<;>simp only[if_true,if_false,Cb,B8]<;>omega
theorem zO:∀(n:Int) (l:List Ef),0<=n->n<=1073741824->eF n l=min (n+((bR l).length:Int)) 1073741824
 |n,[],h1,h2=>by simp only[eF,bR,Cb];omega
 |n,x::l,h1,h2=>by
  simp only[eF,bR,AT]
  rw[Lb n x h1 h2,zO _ l (by omega) (by omega)];omega
end
def od(c:Cd):List Pt:=bR c.bp++(bR c.dead++bR c.dw)
theorem P9(c:Cd):pN c=min ((od c).length:Int) 1073741824:=by
 rw[pN,zO 0 _ (by omega) (by omega),zO 0 _ (by omega) (by omega),zO 0 _ (by omega) (by omega),od];simp only[AT];omega
theorem Xds(l:List Ef):bR l=dV (l.map .ef):=(Jf l).symm
theorem UI{enc:S->List I}{step:S->Pt->S×Bool}{f:I}(hc:Jc f b enc step)(l:List Ef)(hf:bz l=true)(hN:(bR l).length<=500000000){s:S}(hb:ai J b=.box (enc s)){R:List U->Prop}{K:n_}
 (hR:∀σ',Bt b J σ'->ai σ' b=.box (enc (fQ step s (bR l)).1)->(fQ step s (bR l)).2=false->R σ')(j:∀w σ',Bt b J σ'->ai σ' b=.box (enc (fQ step s (bR l)).1)->(fQ step s (bR l)).2=true->K w σ') :
  VV.loop (λz v16 J=>VV.rd (Qn .lss false [(h0 v16),O l.length] J) λA=>VV.test A (
   VV.rd (Zi 14 [gE l,(h0 v16)] J) λB=>VV.rd (XJ [.dq] [(0,1)] [B] J) λC=>VV.rd (XF 272 [C] J) λD=>
   VV.call (.call 218) [D,f] J λE J=>VV.rd (qH .not [E] J) λF=>VV.test F (R J) (
   VV.rd (Qn .add false [(h0 v16),(.int .i64 1)] J) λG=>z [G] J)) (K v16 J)) [(.int .i64 0)] J:=by
 have H:=Uw (l.map .ef);rw[Jf,Be]at H;rw[Xds]at hR j;refine Zh (ι:=Nat) (λi o σ3=>∃d,o=[O i]/\i<=l.length/\ai σ3 b=.box (enc d)/\Bt b J σ3/\fQ step s (dV (l.map .ef))=fQ step d (dV ((l.drop i).map .ef))) (λi=>l.length-i) 0 ⟨s,rfl,by omega,hb,Bt.refl _ _,by simp⟩ ?_;rintro i o σ3 again ⟨d,rfl,T,r,t3,hr⟩ L;refine Z rfl (ZT (λh=>?_) (λh=>?_))
 ·refine Z (Zm _ bC _ _ _ l _ i h) (Z rfl (Z rfl ?_));have N:l.drop i=l[i]::l.drop (i+1):=gB h;rw[N,B7,dV,PG]at hr;refine Xe hP rfl g218.ok rfl ?_;have P:=TR (l:=l.map .ef) (p:=.ef l[i]) (List.mem_map_of_mem (AI h));rw[Jf]at P;refine c208 hc _ (.ef l[i]) (AO _) (XV hf (AI h)) (by omega) _ (.ef _) d σ3 _ r (λσ4 x y=>?_);refine Z rfl (Ya (λh5=>?_) (λh5=>?_))
  ·have h5:(fQ step d (flat (.ef l[i]))).2=false:=by simpa using h5
   rw[h5]at hr;exact hR σ4 (t3.trans x) (by rw[hr];exact y) (by rw[hr];rfl)
  ·have h5:(fQ step d (flat (.ef l[i]))).2=true:=by simpa using h5
   rw[h5,aE rfl]at hr;refine Z (Qi ..) ?_;rw[Zd (n:=i) (by omega)];exact L (i+1) _ _ (by omega) ⟨_,rfl,by omega,y,t3.trans x,hr⟩
 ·subst h;rw[As,List.map_nil,dV,fQ]at hr;exact j _ σ3 t3 (by rw[hr];exact r) (by rw[hr])
theorem c155{enc:S->List I}{step:S->Pt->S×Bool}{x:I}(hc:Jc x b enc step)(c:Cd)(f1:bz c.bp=true)(f2:bz c.dead=true)(f3:bz c.dw=true)(hN:(od c).length<=500000000){s:S}{cb:Nat}(i:ai J cb=.box (cM c))(hb:ai J b=.box (enc s)){K:KT}
 (d:∀σ',Bt b J σ'->ai σ' b=.box (enc (fQ step s (od c)).1)->K (.bw []) σ'):g172.u VV [.ak cb 0,x] J K:=by
 simp only[od,AT]at hN;simp only[od,PG]at d;rw[H2.e];unfold g172;dsimp only;refine Z rfl (Z rfl (Z (ld i rfl) (Z rfl (Z rfl (Z (ld i rfl) (Z rfl (Z rfl (Z (ld i rfl) (Z rfl ?_)))))))));refine ZM 4 (Yk (Z rfl (Xg (Z rfl ?_))));refine Z (v:=O c.bp.length) (rd:=[]) (by simp[Qe]) (UI hc c.bp f1 (by omega) hb (λσ1 t1 j h1=>?_) (λw σ1 t1 j h1=>?_))
 ·rw[h1]at d;exact d σ1 t1 j
 rw[h1,aE rfl]at d;refine Z rfl (Yk (Z rfl (Xg (Z rfl ?_))));refine Z (v:=O c.dead.length) (rd:=[]) (by simp[Qe]) (UI hc c.dead f2 (by omega) j (λσ2 f o h2=>?_) (λw σ2 f o h2=>?_))
 ·rw[h2]at d;exact d σ2 (t1.trans f) o
 rw[h2,aE rfl]at d;refine Z rfl (Yk (Z rfl (Xg (Z rfl ?_))));refine Z (v:=O c.dw.length) (rd:=[]) (by simp[Qe]) (UI hc c.dw f3 (by omega) o (λσ3 p r h3=>?_) (λw σ3 p r h3=>?_))
 ·exact d σ3 ((t1.trans f).trans p) r
 refine Z rfl (Yk (Z rfl (Yf ?_)));exact d σ3 ((t1.trans f).trans p) r
def DC(n:Int)(_:Pt):Int×Bool:=(AF.wrap (n+1),decide (AF.wrap (n+1)<1073741824))
theorem XdG:∀(l:List Pt) (n:Int),0<=n->n+(l.length:Int)<1073741824->fQ DC n l=(n+(l.length:Int),true)
 |[],n,_,_=>by simp[fQ]
 |p::l,n,h1,h2=>by
  simp only[A1]at h2;have hw:AF.wrap (n+1)=n+1:=ck (by omega) (by omega);simp only[fQ,DC,hw];rw[aE (by simp;omega),XdG l (n+1) (by omega) (by omega),A1]
  congr 1;omega
theorem DA(b:Nat):Jc (.func (.func 173) [] [.ak b 0]) b (λn:Int=>[O n]) DC:=by
 intro p v r s J K hb i;refine Xe hP rfl g173.ok rfl ?_;show g173.u VV [v,.ak b 0] J K;rw[H2.e];unfold g173;dsimp only;have d:=Yb hb;refine Z (ld hb rfl) (Z (Qi ..) (Qd (cO hb rfl rfl rfl) (Ye _ d) ?_));have f:ai (J.set b (.box [O (AF.wrap (s+1))])) b=.box [O (AF.wrap (s+1))]:=Zc _ d;refine Z (ld f rfl) (Z (Xy ..) ?_);exact i _ ⟨by simp,λc j o=>Qb _ j o⟩ f
theorem c124(c:Cd)(f1:bz c.bp=true)(f2:bz c.dead=true)(f3:bz c.dw=true)(hN:(od c).length<=500000000):PC 132 [.agg (cM c)] (O (pN c)):=by
 refine Xa hP g132.ok rfl rfl ?_;rw[H1.e];unfold g132;dsimp only;refine Qd rfl rfl (Qd rfl rfl (Qd rfl rfl (Z rfl ?_)));refine Xe hP rfl g172.ok rfl (c155 (DA 1) c f1 f2 f3 hN (s:=0) rfl rfl (λσ' _ hb=>?_));rw[XdG _ 0 (by omega) (by omega)]at hb;refine Z (ld hb rfl) ?_;rw[P9]
 congr 1;omega
def rS:Pt->Bool
 |.ef x=>decide (x.who=2)&&(decide (x.op=0)||decide (x.op=1))
 |.nm x=>decide (x.op=7)
 |.cn _=>false
theorem zx(J:List U)(x:Ef):wS [.agg (bC x)] J=.ok (.ak J.length 0) [] [(J.length,.box (bC x))]:=by rw[Yz];rfl
def ea{α:Type}(f:α->Bool):List α->Int->Int
 |[],_=>-1
 |x::l,n=>if f x=true then n else ea f l (n+1)
theorem Ph(f:α->Bool):∀(l:List α) (n:Int),0<=n->decide (0<=ea f l n)=l.any f
 |[],_,_=>rfl
 |x::l,n,h=>by
  by_cases hf:f x=true
  ·simp_all [ea]
  ·have e:ea f (x::l) n=ea f l (n+1):=aB hf;have d:f x=false:=by simpa using hf
   rw[e,Ph f l (n+1) (by omega),HB,d];rfl
theorem TM{P:Program}{GL:aw}{c d:Bool}{K:I->Prop}{r1:aL}{f2 f3 f4:I->aL}{v1 v2 v3:I}{q1 q2 q3 q4:List Nat}(h1:r1=.ok v1 q1 [])(h2:f2 v1=.ok v2 q2 [])(h3:f3 v2=.ok v3 q3 [])(h4:f4 v3=.ok (.bool d) q4 [])(f:K (.bool (c&&d))) :
  (W P GL).gr (.bool c) true (λk=>(W P GL).rd r1 k) λt1=>(W P GL).gr (.bool c) true (λk=>(W P GL).rd (f2 t1) k) λi=>(W P GL).gr (.bool c) true (λk=>(W P GL).rd (f3 i) k) λj=>(W P GL).gr (.bool c) true (λk=>(W P GL).rd (f4 j) k) λt4=>(W P GL).rd (Xk [.bool c,t4,.bool false] J) K:=by
 cases c with
 |true=>exact Xb (Z h1 (Xb (Z h2 (Xb (Z h3 (Xb (Z h4 (Z rfl f))))))))
 |false=>exact Yc rfl (Yc rfl (Yc rfl (Yc rfl (Z rfl f))))
theorem c255(l:List Ef)(hl:l.length<=iC)(id:FuncId)(j cs:List I)(hp:Qh prog id=true)(f:Ef->Bool)(hc:∀x∈l,PC id (j++[.agg (bC x)]++cs) (.bool (f x)))(hr:∀x,fV (j++[.agg (bC x)]++cs)=true) :
  PC 184 [gE l,.func (.func id) j cs] (O (ea f l 0)):=by
 rw[de]at hl;refine Xa hP g184.ok rfl rfl ?_;rw[H2.e];unfold g184;dsimp only;refine Z (v:=O l.length) (rd:=[]) (by simp[Qe]) (Zh (ι:=Nat) (λi vs s=>vs=[O i]/\i<=l.length/\ea f l 0=ea f (l.drop i) i) (λi=>l.length-i) 0 ⟨rfl,by omega,by simp⟩ ?_);rintro i vs s again ⟨rfl,p,d⟩ r;refine Z rfl (ZT (λh=>?_) (λh=>?_))
 ·refine Z (Zm _ bC _ _ _ l _ i h) (Z (bg (m9 _)) ?_);refine Qm (hc _ (AI h)) rfl hp (hr _) ?_;rw[gB h,ea]at d;refine Ya (λh2=>?_) (λh2=>?_)
  ·rw[aE h2]at d;rw[d];rfl
  ·rw[aB (by rw[h2];simp)]at d;refine Z (Qi ..) ?_;rw[Zd (n:=i) (by omega)]
   grind
 grind [ea]
theorem c239(l:List Ef)(hl:l.length<=iC)(id:FuncId)(d cs:List I)(hp:Qh prog id=true)(f:Ef->Bool)(hc:∀x∈l,PC id (d++[.agg (bC x)]++cs) (.bool (f x)))(hr:∀x,fV (d++[.agg (bC x)]++cs)=true)(i:fV [gE l,.func (.func id) d cs]=true) :
  PC 138 [gE l,.func (.func id) d cs] (.bool (l.any f)):=by
 refine Xa hP g138.ok rfl rfl ?_;rw[H2.e];unfold g138;dsimp only;refine Qm (c255 l hl id d cs hp f hc hr) rfl g184.ok.plain i (Z (pL ..) ?_);rw[Ph f l 0 (by omega)]
def wV(u:Int):List I:=[.func (.func 134) [.agg [aS u]] [],.func (.func 134) [.agg [aS u]] [],.func (.func 134) [.agg [aS u]] [],.func (.func 134) [.agg [aS u]] [],.func (.func 135) [.agg [aS u]] [],.func (.func 136) [.agg [aS u]] [],.func (.func 135) [.agg [aS u]] [],.func (.func 135) [.agg [aS u]] [],.func (.func 137) [.agg [aS u]] []]
theorem c240(u:Int)(x:Ef)(hf:dO x=true)(h238:x.op=8->PC 137 [.agg [aS u],.agg (bC x)] (.bool (tP u x))):PC 139 [.agg (bC x),.al [aS u] 0,.al (wV u) 0] (.bool (!tP u x)):=by
 have p:=ZdZ hf;refine Xa hP g139.ok rfl rfl ?_;rw[H3.e];unfold g139;dsimp only;refine Qd (zx _ _) rfl (ay (Z (ld rfl (gQ x)) (Z (pL ..) ?_)));have p235:x.op=0\/x.op=1\/x.op=2\/x.op=3->PC 134 [.agg [aS u],.agg (bC x)] (.bool (tP u x)):=by
  intro h;have e:tP u x=decide (dC u (ue x.n)=0):=by rw[JJ,aB (by omega),aB (by omega),aE h]
  rw[e];exact c235 u x hf
 have p236:¬(x.op=0\/x.op=1\/x.op=2\/x.op=3)->x.op≠5->x.op≠8->PC 135 [.agg [aS u],.agg (bC x)] (.bool (tP u x)):=by
  intro h h5 r;have e:tP u x=decide (mT u=0):=by simp_all [JJ,ZbM]
  rw[e];exact c236 u x
 have p237:x.op=5->PC 136 [.agg [aS u],.agg (bC x)] (.bool (tP u x)):=by
  intro h;have e:tP u x=HT (dC u (ue x.n)) 1:=by rw[JJ,aE h]
  rw[e];exact c237 u x hf
 refine TM rfl (ld rfl (gQ x)) rfl (Xy ..) ?_;rw[ck (n:=x.op) (by omega) (by omega)];refine Zj λk11 f=>?_;have d:∀id,Qh prog id=true->PC id [.agg [aS u],.agg (bC x)] (.bool (tP u x))->k11 [.func (.func id) [.agg [aS u]] []] [.box (bC x)]:=by
  intro id i j;rw[f];exact Z (ld rfl (m9 x)) (Qm j rfl i (V3 u x) (Z rfl rfl))
 clear f;refine Ya (λh=>?_) (λh=>?_)
 ·have h:0<=x.op/\x.op<9:=by simpa using h
  refine Z rfl (Z (ld rfl (gQ x)) ?_);have o:x.op=0\/x.op=1\/x.op=2\/x.op=3\/x.op=4\/x.op=5\/x.op=6\/x.op=7\/x.op=8:=by omega
  rcases o with e|e|e|e|e|e|e|e|e
  ·have q:=p235 (by omega);rw[e];exact Z rfl (Z rfl (d _ g134.ok.plain q))
  ·have q:=p235 (by omega);rw[e];exact Z rfl (Z rfl (d _ g134.ok.plain q))
  ·have q:=p235 (by omega);rw[e];exact Z rfl (Z rfl (d _ g134.ok.plain q))
  ·have q:=p235 (by omega);rw[e];exact Z rfl (Z rfl (d _ g134.ok.plain q))
  ·have q:=p236 (by omega) (by omega) (by omega);rw[e];exact Z rfl (Z rfl (d _ g135.ok.plain q))
  ·have q:=p237 e;rw[e];exact Z rfl (Z rfl (d _ g136.ok.plain q))
  ·have q:=p236 (by omega) (by omega) (by omega);rw[e];exact Z rfl (Z rfl (d _ g135.ok.plain q))
  ·have q:=p236 (by omega) (by omega) (by omega);rw[e];exact Z rfl (Z rfl (d _ g135.ok.plain q))
  ·have q:=h238 e;rw[e];exact Z rfl (Z rfl (d _ g137.ok.plain q))
 ·have h:0<=x.op->¬x.op<9:=by simpa using h
  exact d _ g135.ok.plain (p236 (by omega) (by omega) (by omega))
theorem c238(u:Int)(x:Ef)(hf:dO x=true)(h1:∀d,PC 88 [.agg [aS d],gE x.cL] (.bool (ic d x.cL)))(h2:∀d,PC 88 [.agg [aS d],gE x.cV] (.bool (ic d x.cV))) :
  PC 137 [.agg [aS u],.agg (bC x)] (.bool (ic (dC u (tM x.c)) x.cL&&ic (dC u (tM x.c)) x.cV)):=by
 refine Xa hP g137.ok rfl rfl ?_;rw[H2.e];unfold g137;dsimp only;refine Qd rfl rfl (Qd (zx _ _) rfl ?_);refine ay (Ze (ld rfl (oP x)) rfl (Yo (c254 _ (X9 hf)) rfl g183.ok.plain (se _) (YX (c250 _ _) g179.ok ?_)));refine ay (Z (ld rfl (Bq x)) (bD (h1 _) g88.ok ?_));rcases cE (ic (dC u (tM x.c)) x.cL)with h|h
 ·rw[h];refine ay (Z (ld rfl (Bm x)) (Xq ?_));exact bD (h2 _) g88.ok (Z rfl rfl)
 ·rw[h];exact ay rfl
theorem XcL(u:Int):∀l,ic u l=l.all (tP u)
 |[]=>rfl
 |x::l=>by simp[ic,XcL u l]
theorem uJ(k:Nat):∀(l:List Ef) (u:Int),B3 l<=k->bz l=true->PC 88 [.agg [aS u],gE l] (.bool (ic u l)):=by
 induction k with
 |zero=>intro l _ h _;cases l<;>simp at h
 |succ k uJ=>
  intro l u o hf;refine Xa hP g88.ok rfl rfl ?_;rw[H2.e];unfold g88;dsimp only;refine ay ?_;have j:∀x∈l,PC 139 ([]++[.agg (bC x)]++[.al [aS u] 0,.al (wV u) 0]) (.bool (!tP u x)):=by
   intro x i;have d:=XV hf i;refine c240 u x d (λh8=>?_);have e:tP u x=(ic (dC u (tM x.c)) x.cL&&ic (dC u (tM x.c)) x.cV):=by simp[h8,JJ]
   have hs:=EH i;have p:=Bu x;rw[e];exact c238 u x d (λf=>uJ x.cL f (by omega) (XP d)) (λf=>uJ x.cV f (by omega) (YP d))
  refine ZH (c239 l (YF hf) 139 [] [.al [aS u] 0,.al (wV u) 0] g139.ok.plain (λx=>!tP u x) j (λx=>by rw[Yz];rfl) rfl) rfl g138.ok.plain rfl rfl (Z rfl ?_);simp[XcL,List.any_eq_not_all_not]
theorem c222(l:List Ef)(u:Int)(hf:bz l=true):PC 88 [.agg [aS u],gE l] (.bool (ic u l)):=uJ _ l u (AO _) hf
theorem c182(cs:List Cd)(hf:QE cs=true):PC 57 [iX cs] (.agg [O (ju cs).1,O (ju cs).2]):=by
 simp only[QE,AA,fe]at hf;obtain⟨B,C⟩:=hf;rw[de]at B;refine Xa hP g57.ok rfl rfl ?_;rw[H1.e];unfold g57;dsimp only;refine Qd rfl rfl (Z rfl (Qd rfl rfl (Qd rfl rfl ?_)));refine Z (v:=O cs.length) (rd:=[]) (by simp[Qe]) (Zh (ι:=Nat) (λi vs J=>vs=[O i]/\ai J 0=.box [O 0,O 0]/\ai J 1=.box [aS 0]/\0<J.length/\i<=cs.length/\ju cs=ju (cs.drop i)) (λi=>cs.length-i) 0 ⟨rfl,rfl,rfl,by simp,by omega,by simp⟩ ?_);rintro i vs J again ⟨rfl,j,y,o,d,hu⟩ D;refine Z rfl (Ya (λh=>?_) (λh=>?_));rotate_left
 ·have h:i=cs.length:=by simp at h;omega
  subst h;rw[As,ju]at hu;refine Z rfl (Qd (cO j rfl rfl rfl) (Ye _ o) (Zp (Qr o rfl) ?_));rw[hu]
 have d:i<cs.length:=by simpa using h
 have z:cs.drop i=cs[i]::cs.drop (i+1):=by rw[gB d]
 have A:=λ(s:List U)=>Zm s cM false false 12 cs .i64 i d;have p:=C1.1 C _ (AI d);generalize cs[i]=c at z A p;rw[z,ju]at hu;simp only[gq,AA,fe]at p;obtain⟨g0,g1,E,g9993⟩:=p;refine Z (A _) (Z (bg (oH _)) (Zq (row:=cM c) (row':=cM c) rfl rfl rfl ?_));have r:=Xc J (U.box (cM c));have w:ai (J++[U.box (cM c)]) 0=.box [O 0,O 0]:=Zb _ j;have x:ai (J++[U.box (cM c)]) 1=.box [aS 0]:=Zb _ y;have f:0<(J++[U.box (cM c)]).length:=by simp
 generalize J++[U.box (cM c)]=base at r w x f ⊢;generalize J.length=b at r ⊢;clear j o y;refine Z (ld x rfl) (Z rfl (Z (ld r rfl) ?_));refine bD (c222 _ 0 g1) g88.ok (Z rfl ?_);apply tO
 ·intro F;repeat' (first
   |refine bD (c222 _ 0 E) g88.ok ?_
   |refine bD (c222 _ 0 g9993) g88.ok ?_
   | refine oz (λh=>?_) (λh=>?_) <;> (try rw[h])) <;> (refine ah ?_)
  all_goals exact Dj (V:=!KR c) (F ⟨⟩) (by grind [KR])
 refine Ya (λG=>?_) (λG=>?_)
 ·have hu:ju cs=(140,c.pl):=by grind
  refine ag (Qd (cO w rfl rfl rfl) (Ye _ f) (Zp (Qr f rfl) ?_));rw[hu]
 refine ag ?_;rw[Zd (n:=i) (by omega)];exact D (i+1) _ _ (by omega) ⟨rfl,w,x,f,by omega,by grind⟩
theorem c259(l:List Cd)(hl:l.length<=iC)(id:FuncId)(j cs:List I)(hp:Qh prog id=true)(f:Cd->Bool)(hc:∀x∈l,PC id (j++[.agg (cM x)]++cs) (.bool (f x)))(hr:∀x,fV (j++[.agg (cM x)]++cs)=true) :
  PC 149 [iX l,.func (.func id) j cs] (O (ea f l 0)):=by
 rw[de]at hl;refine Xa hP g149.ok rfl rfl ?_;rw[H2.e];unfold g149;dsimp only;refine Z (v:=O l.length) (rd:=[]) (by simp[Qe]) (Zh (ι:=Nat) (λi vs s=>vs=[O i]/\i<=l.length/\ea f l 0=ea f (l.drop i) i) (λi=>l.length-i) 0 ⟨rfl,by omega,by simp⟩ ?_);rintro i vs s again ⟨rfl,r,d⟩ o;refine Z rfl (ZT (λh=>?_) (λh=>?_))
 ·refine Z (Zm _ cM _ _ _ l _ i h) (Z (bg (oH _)) ?_);refine Qm (hc _ (AI h)) rfl hp (hr _) ?_;rw[gB h,ea]at d;refine Ya (λh2=>?_) (λh2=>?_)
  ·rw[aE h2]at d;rw[d];rfl
  ·rw[aB (by rw[h2];simp)]at d;refine Z (Qi ..) ?_;rw[Zd (n:=i) (by omega)];exact o (i+1) _ _ (by omega) ⟨rfl,by omega,by rw[d];push_cast;rfl⟩
 ·subst h;rw[As,ea]at d;rw[d]
theorem Ydw(t:Tx):∀(l:List Cd) (n:Nat),((gf n l t).2=true/\n<=(gf n l t).1/\(gf n l t).1<n+l.length/\ea (λc=>c.name==t) l (n:Int)=((gf n l t).1:Int))\/((gf n l t)=(0,false)/\ea (λc=>c.name==t) l (n:Int) = -1)
 |[],n=>.inr ⟨rfl,rfl⟩
 |c::l,n=>by
  by_cases h:c.name==t
  ·left;have d:gf n (c::l) t=(n,true):=aE h;have f:ea (λc:Cd=>c.name==t) (c::l) (n:Int)=n:=aE h;rw[d,f];simp
  ·have d:gf n (c::l) t=gf (n+1) l t:=aB h;have f:ea (λc:Cd=>c.name==t) (c::l) (n:Int)=ea (λc:Cd=>c.name==t) l ((n+1:Nat):Int):=by
    have:=(aB h:(if (c.name==t)=true then (n:Int)else ea (λc:Cd=>c.name==t) l ((n:Int)+1))=_)
    push_cast;exact this
   rw[d,f];rcases Ydw t l (n+1)with ⟨i,o,p,j⟩|q
   ·exact .inl ⟨i,by omega,by simp;omega,j⟩
   ·exact .inr q
theorem c244(c:Cd)(t:Tx):PC 143 [.agg (cM c),.al [.str t] 0] (.bool (c.name==t)):=by
 refine Xa hP g143.ok rfl rfl ?_;rw[H2.e];unfold g143;dsimp only;exact Qd rfl rfl (Z rfl (Z (ld rfl rfl) (Z rfl (Z rfl rfl))))
theorem c243(l:List Cd)(hl:l.length<=iC)(t:Tx)(x:U)(K:KT)(f:∀cs J,cs.all I.cell=true->cs.length=12->K (.bw [.agg cs,O (gf 0 l t).1,.bool (gf 0 l t).2]) ([x,.box [.str t]]++J)) :
  g142.u VV [iX l,.func (.func 143) [] [.ak 1 0]] [x,.box [.str t]] K:=by
 have p:=c259 l hl 143 [] [.al [.str t] 0] g143.ok.plain (λc=>c.name==t) (λx _=>c244 x t) (λx=>rfl);rw[H2.e];unfold g142;dsimp only;refine Qd rfl rfl (ZH p rfl g149.ok.plain rfl rfl ?_);clear p;rcases Ydw t l 0 with ⟨j,r,o,d⟩|⟨j,d⟩
 ·rw[Al]at o;have d:ea (λc=>c.name==t) l 0=((gf 0 l t).1:Int):=d;rw[d];rw[j]at f;generalize (gf 0 l t).1=i at r o f ⊢;refine Z (Xy ..) ?_;rw[i7 (by omega)];refine Yf (Z (Zm _ cM _ _ _ l _ i o) (Z (bg (oH _)) ?_));exact ay (f (cM l[i]) _ rfl rfl)
 ·have d:ea (λc=>c.name==t) l 0 = -1:=d;rw[d];rw[j]at f;exact ay (f [.str [],.bool false,O 0,O 0,O 0,O 0,O 0,O 0,.aq,.aq,.aq,O 0] _ rfl rfl)
theorem Qet(cs:List I)(h:cs.all I.cell=true):cellsOf (.agg cs)=some cs:=by simp[cellsOf,h]
theorem Py:∀(a b:List α),a.length=b.length->bW 0 a b=some a
 |[],[],_=>rfl
 |x::a,y::b,h=>by simp only[bW,Py a b (by simpa using h)]
theorem c224(b:Bk)(hl:b.aj.length<=iC)(t:Tx):PC 90 [dd b,.str t] (.bw [O (gf 0 b.aj t).1,.bool (gf 0 b.aj t).2]):=by
 refine Xa hP g90.ok rfl rfl ?_;rw[H2.e];unfold g90;dsimp only;refine ay (Xe hP rfl g142.ok rfl (c243 b.aj hl t _ _ (λd J h1 h2=>?_)));refine ay ?_;refine Zq (row:=d) (row':=d) (Qet d h1) (by rw[h2];rfl) (Py _ _ (by rw[h2];rfl)) ?_;rfl
end Go.Ah.Tz
end
