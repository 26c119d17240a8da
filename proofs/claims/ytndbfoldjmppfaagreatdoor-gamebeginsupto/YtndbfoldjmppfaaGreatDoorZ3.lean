/- Part of the proof that GameBegins holds of the program for arguments that together hold at most 1048576 values and letters; no other condition. -/
import Derived.Test.YtndbfoldjmppfaaGreatDoorZ2
import Derived.DataReads
import Derived.ChangeShapes
import Derived.KernelRfl
import Derived.Test.YtndbfoldjmppfaaGreatDoorProg
set_option linter.all false
section
namespace Go.Ah
section
variable {H:Type}
def DL(M:Nat→Option Obj)(xs:List AVal)(cs:List Value):Prop:=xs.length=cs.length∧∀(i:Nat) (x:AVal) (v:Value),xs[i]?=some x→cs[i]?=some v→Den M noOwn x v
theorem DL.nil{M:Nat→Option Obj}:DL M [] []:=⟨rfl,λi x v h=>by simp at h⟩
theorem DL.one{M:Nat→Option Obj}{x:AVal}{v:Value}(h:Den M noOwn x v):DL M [x] [v]:=by
 refine⟨rfl,λi y u h1 h2=>?_⟩;cases i with
 |zero=>simp at h1 h2; subst h1; subst h2; exact h
 |succ i=>simp at h1
theorem DL.append{M:Nat→Option Obj}{xs ys:List AVal}{cs ds:List Value}(h:DL M xs cs)(k:DL M ys ds):DL M (xs++ys) (cs++ds):=by
 refine⟨by simp[h.1,k.1],λi x v h1 h2=>?_⟩;by_cases hi:i<xs.length
 ·rw[List.getElem?_append_left hi] at h1;rw[List.getElem?_append_left (by rw[←h.1]; exact hi)] at h2;exact h.2 i x v h1 h2
 ·rw[List.getElem?_append_right (by omega)] at h1;rw[List.getElem?_append_right (by rw[←h.1]; omega),←h.1] at h2;exact k.2 _ x v h1 h2
def Tri{α β γ:Type}(R:α→β→γ→Prop):List α→List β→List γ→Prop
 |[],[],[]=>True
 |a::us,b::bs,c::cs=>R a b c∧Tri R us bs cs
 |_,_,_=>False
def Two{α β:Type}(R:α→β→Prop):List α→List β→Prop
 |[],[]=>True
 |a::us,b::bs=>R a b∧Two R us bs
 |_,_=>False
theorem Tri.cons{α β γ:Type}{R:α→β→γ→Prop}{a:α}{us:List α}{bs:List β}{cs:List γ}(h:Tri R (a::us) bs cs):∃b bs' c cs',bs=b::bs'∧cs=c::cs'∧R a b c∧Tri R us bs' cs':=by
 match bs,cs,h with
 |b::bs,c::cs,h=>exact⟨b,bs,c,cs,rfl,rfl,h.1,h.2⟩
theorem Tri.nil{α β γ:Type}{R:α→β→γ→Prop}{bs:List β}{cs:List γ}(h:Tri R [] bs cs):bs=[]∧cs=[]:=by
 match bs,cs,h with
 |[],[],_=>exact⟨rfl,rfl⟩
theorem Two.cons{α β:Type}{R:α→β→Prop}{a:α}{us:List α}{bs:List β}(h:Two R (a::us) bs):∃b bs',bs=b::bs'∧R a b∧Two R us bs':=by
 match bs,h with
 |b::bs,h=>exact⟨b,bs,rfl,h.1,h.2⟩
theorem Two.length{α β:Type}{R:α→β→Prop}:∀ {us:List α} {bs:List β},Two R us bs→us.length=bs.length
 |[],[],_=>rfl
 |_::_,_::_,h=>by simp[Two.length h.2]
 |[],_::_,h=>h.elim
 |_::_,[],h=>h.elim
theorem Two.get{α β:Type}{R:α→β→Prop}:∀ {us:List α} {bs:List β},Two R us bs→∀(i:Nat) a b,us[i]?=some a→bs[i]?=some b→R a b
 |a::us,b::bs,h,0,x,y,h1,h2=>by simp at h1 h2; subst h1; subst h2; exact h.1
 |a::us,b::bs,h,i+1,x,y,h1,h2=>Two.get h.2 i x y (by simpa using h1) (by simpa using h2)
 |[],_,_,i,x,y,h1,_=>by simp at h1
 |_::_,[],h,_,_,_,_,_=>h.elim
def Typed(P:Program):Nat→TypeId→List AVal→DataW H→Prop
 |0,_,_,_=>False
 |fuel+1,t,xs,d=>match P.underlying t with
  |some .bool=>∃b,xs=[.bool b]∧d=.lit (.bool b)
  |some (.int k)=>∃n,xs=[.int k n]∧(Lit.int k n).wf=true∧d=.lit (.int k n)
  |some .string=>∃s,xs=[.str s]∧d=.lit (.string s)
  |some (.slice e)=>∃rows,xs=[.rsl false false (P.cellsOf e) rows]∧((rows=[]∧d=.nil)∨∃es sp,d=.slice es sp∧Two (Typed P fuel e) rows es)
  |some (.struct fs)=>∃parts ds,xs=parts.flatten∧d=.agg ds∧Tri (Typed P fuel) (fs.toList.map (·.type)) parts ds
  |some (.array n e)=>∃parts ds,xs=parts.flatten∧d=.agg ds∧parts.length=n∧Two (Typed P fuel e) parts ds
  |_=>False
def tiles(P:Program):Nat→List Field→Option Nat
 |o,[]=>some o
 |o,f::r=>bif Nat.beq f.offset o then tiles P (o+P.cellsOf f.type) r else none
def tyOk(P:Program)(S:List TypeId)(t:TypeId):Bool:=match P.underlying t with
 |some .bool=>Nat.beq (P.cellsOf t) 1
 |some (.int _)=>Nat.beq (P.cellsOf t) 1
 |some .string=>Nat.beq (P.cellsOf t) 1
 |some (.slice e)=>Nat.beq (P.cellsOf t) 1&&(Nat.blt 0 (P.cellsOf e)&&S.contains e)
 | some (.struct fs)=>(match tiles P 0 fs.toList with
  |some n=>Nat.beq n (P.cellsOf t)
  | none=>false) && fs.toList.all λf=>S.contains f.type
 |some (.array n e)=>Nat.beq (P.cellsOf t) (n*P.cellsOf e)&&S.contains e
 |_=>false
variable {enc:TypeId×Value→H} {P:Program} {w:World} {base:Nat} {spare:Nat→Bool} {held:Bool}
theorem QaL{α β:Type}{f:α→Option β}:∀ {l:List α} {r:List β},l.mapM f=some r→Two (λa b=>f a=some b) l r
 |[],r,h=>by simp at h; subst h; trivial
 |a::l,r,h=>by
  rw[List.mapM_cons] at h;cases ha:f a with
  |none=>simp[ha] at h
  |some b=>
   cases hl:l.mapM f with
   |none=>simp[ha,hl] at h
   |some bs=>simp[ha,hl] at h; subst h; exact⟨ha,QaL hl⟩
def Tells(enc:TypeId×Value→H)(P:Program)(w:World)(base:Nat)(spare:Nat→Bool)(held:Bool)(fuel:Nat)(t:TypeId)(cs:List Value)(d:DataW H):Prop:=∃ps,DataW.trod enc P w base spare held fuel t cs=some (d,ps)
def Fine(enc:TypeId×Value→H)(P:Program)(w:World)(base:Nat)(spare:Nat→Bool)(held:Bool)(fuel:Nat)(t:TypeId):Prop:=
 ∀cs d,Tells enc P w base spare held fuel t cs d→cs.length=P.cellsOf t∧∃xs,DL (λb=>w.heap[b]?) xs cs∧Typed P fuel t xs d
theorem Qce{a:Addr}{v:Value}(h:w.cell? a=some v):a.spot=none∧mcell (λb=>w.heap[b]?) a.block a.off=some v:=by
 unfold World.cell? at h;show _∧(match w.heap[a.block]? with
  |some (.cells c _ _)=>c[a.off]?
  | _=>none)=some v
 cases hb:w.heap[a.block]? with
 |none=>rw[hb] at h; cases h
 |some o=>
  rw[hb] at h;cases o with
  |cells c t fr=>
   simp only at h;split at h
   ·cases h
   ·rename_i hs;exact⟨by simpa using hs,h⟩
  |_=>cases h
theorem Qbk(a:Addr)(n:Nat):(a.add n).block=a.block:=by unfold Addr.add; split<;>rfl
theorem Xcb(a:Addr)(n:Nat):(a.add n).off=a.off+n:=by unfold Addr.add; split<;>simp_all
theorem XaQ{fuel:Nat}{cs:List Value}:∀ {fs:List Field} {o n:Nat} {xs:List (DataW H×List MemPlace)},tiles P o fs=some n→n≤cs.length→(∀f∈fs,Fine enc P w base spare held fuel f.type) →
  Two (λ(f:Field) y=>DataW.trod enc P w base spare held fuel f.type ((cs.drop f.offset).take (P.cellsOf f.type))=some y) fs xs→o≤n ∧
  ∃parts,DL (λb=>w.heap[b]?) parts.flatten ((cs.take n).drop o)∧Tri (Typed P fuel) (fs.map (·.type)) parts (xs.map (·.1))
 |[],o,n,xs,ht,hn,hf,h=>by
  simp only[tiles,Option.some.injEq] at ht;subst ht
  match xs,h with
  |[],_=>
   refine⟨Nat.le_refl _,[],?_,trivial⟩;have:(cs.take o).drop o=[]:=by simp
   rw[this]; exact DL.nil
 |f::fs,o,n,xs,ht,hn,hf,h=>by
  simp only[tiles] at ht;cases hb:Nat.beq f.offset o with
  |false=>rw[hb] at ht; cases ht
  |true=>
   rw[hb] at ht;have ho:=YNB hb;obtain⟨y,ys,rfl,h1,h2⟩:=h.cons;obtain⟨hle,parts,hd,h3⟩:=XaQ ht hn (λg hg=>hf g (List.mem_cons_of_mem _ hg)) h2;obtain⟨hl,p,hp,hy⟩:=hf f (List.mem_cons_self ..) _ _ ⟨y.2,h1⟩;refine⟨by omega,p::parts,?_,hy,h3⟩;have e:(cs.take n).drop o=(cs.drop f.offset).take (P.cellsOf f.type)++(cs.take n).drop (o+P.cellsOf f.type):=by
    have e1:(cs.take n).drop o=((cs.take n).drop o).take (P.cellsOf f.type)++((cs.take n).drop o).drop (P.cellsOf f.type):=(List.take_append_drop _ _).symm;rw[e1,List.drop_drop,ho]
    congr 1
    rw[List.drop_take,List.take_take]
    congr 1
    omega
   rw[List.flatten_cons,e];exact hp.append hd
theorem Xa4{fuel:Nat}{e:TypeId}{cs:List Value}(hf:Fine enc P w base spare held fuel e):∀ {n o:Nat} {xs:List (DataW H×List MemPlace)},(o+n)*P.cellsOf e≤cs.length →
  Two (λ(i:Nat) y=>DataW.trod enc P w base spare held fuel e ((cs.drop (i*P.cellsOf e)).take (P.cellsOf e))=some y) (List.range' o n) xs →
  ∃parts,DL (λb=>w.heap[b]?) parts.flatten ((cs.take ((o+n)*P.cellsOf e)).drop (o*P.cellsOf e))∧parts.length=n∧Two (Typed P fuel e) parts (xs.map (·.1))
 |0,o,xs,hn,h=>by
  match xs,h with
  |[],_=>
   refine⟨[],?_,rfl,trivial⟩;have:(cs.take ((o+0)*P.cellsOf e)).drop (o*P.cellsOf e)=[]:=by simp
   rw[this]; exact DL.nil
 |n+1,o,xs,hn,h=>by
  rw[List.range'_succ] at h;obtain⟨y,ys,rfl,h1,h2⟩:=h.cons;have hn':(o+1+n)*P.cellsOf e≤cs.length:=by rw[show o+1+n=o+(n+1) by omega]; exact hn
  obtain⟨parts,hd,h3,h4⟩:=Xa4 hf hn' h2;obtain⟨hl,p,hp,hy⟩:=hf _ _ ⟨y.2,h1⟩;refine⟨p::parts,?_,by simp[h3],hy,h4⟩;have hs:(o+1)*P.cellsOf e=o*P.cellsOf e+P.cellsOf e:=by rw[Nat.add_mul,Nat.one_mul]
  have hm:(o+1)*P.cellsOf e≤(o+(n+1))*P.cellsOf e:=Nat.mul_le_mul_right _ (by omega);have e1:(cs.take ((o+(n+1))*P.cellsOf e)).drop (o*P.cellsOf e)=(cs.drop (o*P.cellsOf e)).take (P.cellsOf e)++(cs.take ((o+1+n)*P.cellsOf e)).drop ((o+1)*P.cellsOf e):=by
   rw[show o+1+n=o+(n+1) by omega,hs];have e2:(cs.take ((o+(n+1))*P.cellsOf e)).drop (o*P.cellsOf e)=((cs.take ((o+(n+1))*P.cellsOf e)).drop (o*P.cellsOf e)).take (P.cellsOf e)++((cs.take ((o+(n+1))*P.cellsOf e)).drop (o*P.cellsOf e)).drop (P.cellsOf e):=(List.take_append_drop _ _).symm;rw[e2,List.drop_drop]
   congr 1
   rw[List.drop_take,List.take_take]
   congr 1
   omega
  rw[List.flatten_cons,e1];exact hp.append hd
theorem Xbt{fuel:Nat}{e:TypeId}{a:Addr}(hf:Fine enc P w base spare held fuel e)(hpos:0<P.cellsOf e):∀ {n o:Nat} {xs:List (DataW H×List MemPlace)},
  Two (λ(i:Nat) y=>(w.cells? base (a.add (i*P.cellsOf e)) (P.cellsOf e)).bind (DataW.trod enc P w base spare held fuel e)=some y) (List.range' o n) xs →
  ∃(rows:List (List AVal)) (f:Nat→Nat→Value),rows.length=n∧Two (Typed P fuel e) rows (xs.map (·.1))∧(n≠0→o=0→a.spot=none)∧(∀(i:Nat) (row:List AVal),rows[i]?=some row→row.length=P.cellsOf e) ∧
   (∀i j,i<n→j<P.cellsOf e→mcell (λb=>w.heap[b]?) a.block (a.off+((o+i)*P.cellsOf e+j))=some (f i j))∧(∀(i:Nat) (row:List AVal) (j:Nat) (x:AVal),rows[i]?=some row→row[j]?=some x→Den (λb=>w.heap[b]?) noOwn x (f i j))
 |0,o,xs,h=>by
  match xs,h with
  |[],_=>exact⟨[],λ_ _=>undef,rfl,trivial,λh _=>(h rfl).elim,by simp,by intro i j hi; omega,by simp⟩
 |n+1,o,xs,h=>by
  rw[List.range'_succ] at h;obtain⟨y,ys,rfl,h1,h2⟩:=h.cons;obtain⟨rows,f,q1,q2,q3,q4,q5,q6⟩:=Xbt hf hpos h2;obtain⟨cs,hc,hy⟩:=Option.bind_eq_some_iff.1 h1;obtain⟨_,hl,hcell⟩:=World.cells?_some hc;obtain⟨_,xs0,hd,hty⟩:=hf cs y.1 ⟨y.2,hy⟩;have hat:∀j,j<P.cellsOf e→∃v,cs[j]?=some v∧mcell (λb=>w.heap[b]?) a.block (a.off+o*P.cellsOf e+j)=some v:=by
   intro j hj;obtain⟨v,hv⟩:∃v,cs[j]?=some v:=⟨cs[j]'(by omega),by simp[show j<cs.length by omega]⟩;have:=hcell j hj;rw[hv] at this;obtain⟨m1,m2⟩:=Qce this;rw[Qbk,Qbk,Xcb,Xcb] at m2;exact⟨v,hv,m2⟩
  refine⟨xs0::rows,λi j=>match i with|0=>(cs[j]?).getD undef|i+1=>f i j,by simp[q1],⟨hty,q2⟩,λ_ ho=>?_,?_,?_,?_⟩
  ·have:=hcell 0 hpos;rw[show cs[0]?=some (cs[0]'(by omega)) by simp[show 0<cs.length by omega]] at this;have:=(Qce this).1;subst ho;simpa[Addr.add] using this
  ·intro i row hr;cases i with
   |zero=>simp at hr; subst hr; rw[hd.1,hl]
   |succ i=>exact q4 i row (by simpa using hr)
  ·intro i j hi hj;cases i with
   |zero=>
    obtain⟨v,e1,e2⟩:=hat j hj;simp only[e1,Option.getD_some,Nat.add_zero];rw[←Nat.add_assoc]; exact e2
   |succ i=>
    have:=q5 i j (by omega) hj;rw[show o+(i+1)=o+1+i by omega];exact this
  ·intro i row j x hr hx;cases i with
   |zero=>
    simp at hr; subst hr;have hj:j<cs.length:=by rw[←hd.1]; exact(YLG hx).1
    have hv:cs[j]?=some cs[j]:=by simp[hj]
    simp only[hv,Option.getD_some];exact hd.2 j x _ hx hv
   |succ i=>exact q6 i row j x (by simpa using hr) hx
theorem Qav{S:List TypeId}(hS:S.all (tyOk P S)=true):∀(fuel:Nat) (t:TypeId),t∈S→Fine enc P w base spare held fuel t
 |0,t,_=>by
  rintro cs d ⟨ps,h⟩;simp[DataW.trod] at h
 |fuel+1,t,ht=>by
  rintro cs d ⟨ps,h⟩;have hok:=List.all_eq_true.1 hS t ht;have ih:=λt ht=>Qav hS fuel t ht;unfold tyOk at hok;unfold DataW.trod at h;split at h
  case h_1=>
   rename_i hu;rw[hu] at hok;cases h;exact⟨(YNB hok).symm,_,DL.one (.bool _ _),by unfold Typed; rw[hu]; exact⟨_,rfl,rfl⟩⟩
  case h_2=>
   rename_i hu;rw[hu] at hok;split at h
   ·rename_i hk;obtain⟨rfl,hw⟩:=hk;cases h;exact⟨(YNB hok).symm,_,DL.one (.int _ _ _),by unfold Typed; rw[hu]; exact⟨_,rfl,hw,rfl⟩⟩
   ·cases h
  case h_4=>
   rename_i hu;rw[hu] at hok;split at h
   ·cases h;exact⟨(YNB hok).symm,_,DL.one (.str _ _),by unfold Typed; rw[hu]; exact⟨_,rfl,rfl⟩⟩
   ·cases h
  case h_7=>
   rename_i e hu;rw[hu] at hok;simp only[Bool.and_eq_true] at hok;cases h;refine⟨(YNB hok.1).symm,_,DL.one (Den.nils_rsl (P.cellsOf e) (.nils _)),?_⟩;unfold Typed; rw[hu]; exact⟨[],rfl,.inl ⟨rfl,rfl⟩⟩
  case h_8=>
   rename_i e a len cap hu;rw[hu] at hok;simp only[Bool.and_eq_true] at hok;obtain⟨k1,k2,k3⟩:=hok;have hpos:0<P.cellsOf e:=YNL k2;simp only at h;split at h
   ·rename_i hc;obtain⟨els,he,h⟩:=Option.bind_eq_some_iff.1 h;obtain⟨rest,hr,h⟩:=Option.map_eq_some_iff.1 h;cases h;rw[List.range_eq_range'] at he;obtain⟨rows,f,q1,q2,q3,q4,q5,q6⟩:=Xbt (ih e (List.contains_iff_mem.1 k3)) hpos (QaL he);refine⟨(YNB k1).symm,[.rsl false false (P.cellsOf e) rows],DL.one ?_,?_⟩
    ·rw[←q1];refine .rsl _ false false (P.cellsOf e) rows (some a) cap a.block a.off f (λh=>by cases h) (λh=>by cases h) (λhne=>?_) (λh=>by cases h) (by rw[q1]; exact hc.2.1) q4 (λi j hi hj=>?_) q6
     ·have hn:len≠0:=λe=>hne (List.length_eq_zero_iff.1 (q1.trans e));have:=q3 hn rfl;cases a; simp at this; subst this; rfl
     ·have:=q5 i j (by omega) hj;rw[Nat.zero_add] at this; exact this
    ·unfold Typed; rw[hu]; exact⟨rows,rfl,.inr ⟨_,_,rfl,q2⟩⟩
   ·cases h
  case h_9=>
   rename_i fs hu;rw[hu] at hok;simp only[Bool.and_eq_true] at hok;obtain⟨k1,k2⟩:=hok;split at h
   ·rename_i hl;obtain⟨xs,hx,h⟩:=Option.map_eq_some_iff.1 h;cases h;cases ht:tiles P 0 fs.toList with
    |none=>rw[ht] at k1; cases k1
    |some n=>
     rw[ht] at k1;have hn:=YNB k1;obtain⟨_,parts,hd,h3⟩:=XaQ ht (by omega) (λg hg=>ih _ (List.contains_iff_mem.1 (List.all_eq_true.1 k2 g hg))) (QaL hx);refine⟨hl,parts.flatten,?_,?_⟩
     ·rw[List.drop_zero,List.take_of_length_le (by omega)] at hd; exact hd
     ·unfold Typed; rw[hu]; exact⟨parts,_,rfl,rfl,h3⟩
   ·cases h
  case h_10=>
   rename_i n e hu;rw[hu] at hok;simp only[Bool.and_eq_true] at hok;obtain⟨k1,k2⟩:=hok;have hn:=YNB k1;split at h
   ·rename_i hl;obtain⟨xs,hx,h⟩:=Option.map_eq_some_iff.1 h;cases h;rw[List.range_eq_range'] at hx;obtain⟨parts,hd,h3,h4⟩:=Xa4 (ih e (List.contains_iff_mem.1 k2)) (o:=0) (n:=n) (by rw[Nat.zero_add]; omega) (QaL hx);refine⟨hl,parts.flatten,?_,?_⟩
    ·rw[Nat.zero_mul,List.drop_zero,Nat.zero_add,List.take_of_length_le (by omega)] at hd; exact hd
    ·unfold Typed; rw[hu]; exact⟨parts,_,rfl,rfl,h3,h4⟩
   ·cases h
  all_goals first|(rename_i hu; rw[hu] at hok; exact absurd (show false=true from hok) (by decide))|cases h
end
end Go.Ah
end
section
namespace Go.Ah
section
variable {α β:Type}
abbrev spQ{α β:Type}:List α→(List α→β)→β
 |[],k=>k []
 |x::l,k=>spQ l λl=>k (x::l)
theorem Zbx{α β:Type}:∀(l:List α) (k:List α→β),spQ l k=k l
 |[],_=>rfl
 |x::l,k=>Zbx l λl=>k (x::l)
abbrev fdQ{α:Type}(d:Nat):Frame→(Frame→α)→α
 |[],k=>k []
 |(q,u)::r,k=>match Nat.beq q d with
  |true=>k r
  |false=>fdQ d r λr=>k ((q,u)::r)
theorem YcS{α:Type}(d:Nat):∀(ρ:Frame) (k:Frame→α),fdQ d ρ k=k (fdel d ρ)
 |[],_=>rfl
 |(q,u)::r,k=>by
  simp only[fdQ,fdel];cases Nat.beq q d
  ·simp only[]; rw[YcS d r]
  ·rfl
abbrev getQ:Frame→Nat→(AVal→β)→β
 |[],_,k=>k .junk
 |(q,v)::r,n,k=>match Nat.beq q n with
  |true=>k v
  |false=>getQ r n k
theorem Yam(n:Nat)(k:AVal→β):∀ρ,getQ ρ n k=k (fget ρ n)
 |[]=>rfl
 |(q,v)::r=>by
  simp only[getQ,fget];cases Nat.beq q n
  ·exact Yam n k r
  ·rfl
abbrev evQ(ρ:Frame):Opd→(AVal→β)→β
 |.t n,k=>getQ ρ n k
 |.c v,k=>k v
theorem QbR(ρ:Frame)(x:Opd)(k:AVal→β):evQ ρ x k=k (ev ρ x):=by
 cases x
 ·exact Yam ..
 ·rfl
abbrev evsQ(ρ:Frame):List Opd→(List AVal→β)→β
 |[],k=>k []
 |x::r,k=>evQ ρ x λv=>evsQ ρ r λvs=>k (v::vs)
theorem ZbD(ρ:Frame):∀(l:List Opd) (k:List AVal→β),evsQ ρ l k=k (l.map (ev ρ))
 |[],_=>rfl
 |x::r,k=>by simp[QbR,ZbD]
abbrev putQ(d:Option Nat)(v:AVal)(ρ:Frame)(k:Frame→β):β:=match d with
 |some d=>fdQ d ρ λr=>k ((d,v)::r)
 |none=>k ρ
theorem Yct(d:Option Nat)(v:AVal)(ρ:Frame)(k:Frame→β):putQ d v ρ k=k (putF d v ρ):=by
 cases d
 ·rfl
 ·simp only[putQ,YcS]; rfl
abbrev getsQ(ρ:Frame):List Nat→(List AVal→β)→β
 |[],k=>k []
 |s::r,k=>getQ ρ s λv=>getsQ ρ r λvs=>k (v::vs)
theorem Ybf(ρ:Frame):∀(l:List Nat) (k:List AVal→β),getsQ ρ l k=k (getF ρ l)
 |[],_=>rfl
 |x::r,k=>by simp only[getsQ,Yam,Ybf ρ r]; rfl
abbrev dropQ(l:List Nat):Frame→(Frame→β)→β
 |[],k=>k []
 |(q,v)::r,k=>match inL q l with
  |true=>dropQ l r k
  |false=>dropQ l r λr=>k ((q,v)::r)
theorem Qbd(l:List Nat):∀(ρ:Frame) (k:Frame→β),dropQ l ρ k=k (dropF l ρ)
 |[],_=>rfl
 |(q,v)::r,k=>by
  simp only[dropQ,dropF];cases inL q l<;>simp only[Qbd l r]
abbrev zipQ:List Nat→List AVal→Frame→(Frame→β)→β
 |[],_,ρ,k=>k ρ
 |s::ks,vs,ρ,k=>zipQ ks (tlV vs) ρ λr=>k ((s,hdV vs)::r)
theorem YbN:∀(l:List Nat) (vs:List AVal) (ρ:Frame) (k:Frame→β),zipQ l vs ρ k=k (zipF l vs ρ)
 |[],_,_,_=>rfl
 |s::ks,vs,ρ,k=>by simp only[zipQ,YbN ks]; rfl
def qC(A:Ans α):=A.call
def qD(A:Ans α):=A.dcall
def qT(A:Ans α):=A.test
def qL(A:Ans α):=A.loop
def qS(A:Ans α):=A.stop
def dmOp(A:Ans α)(o:MOper)(ρ:Frame)(σ:List ABlk)(K:Frame→List ABlk→α):α:=
 match o.guard with
 |none=>match clsOf o.k with
  |.mv=>match o.xs with
   |[x]=>evQ ρ x λv=>putQ o.dst v ρ λρ=>K ρ σ
   |_=>qS A
  |.pu | .rd=>evsQ ρ o.xs λvs=>A.rd (cstep o.k vs σ) λv=>putQ o.dst v ρ λρ=>K ρ σ
  |.wr=>evsQ ρ o.xs λvs=>A.wr (cstep o.k vs σ) σ λv σ=>putQ o.dst v ρ λρ=>K ρ σ
  |.call=>evsQ ρ o.xs λvs=>qC A o.k vs σ λv σ=>putQ o.dst v ρ λρ=>K ρ σ
 |some (s,w)=>evsQ ρ o.xs λvs=>getQ ρ s λc=>match clsOf o.k with
  |.mv | .pu | .rd=>A.gr c w (λk=>A.rd (cstep o.k vs σ) k) λv=>putQ o.dst v ρ λρ=>K ρ σ
  |.wr=>A.gw c w (λk=>A.wr (cstep o.k vs σ) σ k) σ λv σ=>putQ o.dst v ρ λρ=>K ρ σ
  |.call=>A.gw c w (λk=>qC A o.k vs σ k) σ λv σ=>putQ o.dst v ρ λρ=>K ρ σ
theorem ZcX(A:Ans α)(o:MOper)(ρ:Frame)(σ:List ABlk)(K:Frame→List ABlk→α):dmOp A o ρ σ K=dnOp A o ρ σ K:=by
 unfold dmOp dnOp;simp only[QbR,ZbD,Yam,Yct];rfl
def dmOps(A:Ans α):List MOper→Frame→List ABlk→(Frame→List ABlk→α)→α
 |[],ρ,σ,K=>K ρ σ
 |o::r,ρ,σ,K=>dmOp A o ρ σ λρ σ=>dmOps A r ρ σ K
theorem Qar(A:Ans α):∀(l:List MOper) (ρ:Frame) (σ:List ABlk) (K:Frame→List ABlk→α),dmOps A l ρ σ K=dnOps A l ρ σ K
 |[],_,_,_=>rfl
 |o::r,ρ,σ,K=>by simp only[dmOps,dnOps,ZcX,Qar A r]
def dmOpD(A:Ans α)(o:MOper)(ρ:Frame)(σ:List ABlk)(lg:Log)(K:Frame→List ABlk→Log→α):α:=
 match o.guard with
 |none=>match clsOf o.k with
  |.mv=>match o.xs with
   |[x]=>evQ ρ x λv=>putQ o.dst v ρ λρ=>K ρ σ (lg++[([],[])])
   |_=>qS A
  |.pu=>evsQ ρ o.xs λvs=>A.pu (cstep o.k vs σ) λv=>putQ o.dst v ρ λρ=>K ρ σ (lg++[([],[])])
  |.rd | .wr=>evsQ ρ o.xs λvs=>A.dr (cstep o.k vs σ) σ λv l σ=>putQ o.dst v ρ λρ=>K ρ σ (lg++[l])
  |.call=>evsQ ρ o.xs λvs=>qD A o.k vs σ λv l σ=>putQ o.dst v ρ λρ=>K ρ σ (lg++[l])
 |some (s,w)=>evsQ ρ o.xs λvs=>getQ ρ s λc=>match clsOf o.k with
  |.mv | .pu=>A.gr c w (λk=>A.pu (cstep o.k vs σ) k) λv=>putQ o.dst v ρ λρ=>K ρ σ (lg++[([],[])])
  |.rd | .wr=>A.gl c w (λk=>A.dr (cstep o.k vs σ) σ k) σ λv l σ=>putQ o.dst v ρ λρ=>K ρ σ (lg++[l])
  |.call=>A.gl c w (λk=>qD A o.k vs σ k) σ λv l σ=>putQ o.dst v ρ λρ=>K ρ σ (lg++[l])
theorem XcH(A:Ans α)(o:MOper)(ρ:Frame)(σ:List ABlk)(lg:Log)(K:Frame→List ABlk→Log→α):dmOpD A o ρ σ lg K=dnOpD A o ρ σ lg K:=by
 unfold dmOpD dnOpD;simp only[QbR,ZbD,Yam,Yct];rfl
def Ybn(A:Ans α):List MOper→Frame→List ABlk→Log→(Frame→List ABlk→Log→α)→α
 |[],ρ,σ,lg,K=>K ρ σ lg
 |o::r,ρ,σ,lg,K=>dmOpD A o ρ σ lg λρ σ lg=>spQ lg λlg=>Ybn A r ρ σ lg K
theorem QaO(A:Ans α):∀(l:List MOper) (ρ:Frame) (σ:List ABlk) (lg:Log) (K:Frame→List ABlk→Log→α),Ybn A l ρ σ lg K=XaP A l ρ σ lg K
 |[],_,_,_,_=>rfl
 |o::r,ρ,σ,lg,K=>by simp only[Ybn,XaP,XcH,QaO A r,Zbx]
def dmPcs(A:Ans α)(hd:List (List Nat)):Nat→Pcs→Frame→List ABlk→(Frame→List ABlk→α)→α
 |_,[],ρ,σ,K=>K ρ σ
 |lo,(seg,true)::r,ρ,σ,K=>dmOps A seg ρ σ λρ σ=>dmPcs A hd (lo+seg.length) r ρ σ K
 |lo,(seg,false)::r,ρ,σ,K=>match noWr seg with
  |true=>dmOps A seg ρ σ λρ σ=>dmPcs A hd (lo+seg.length) r ρ σ K
  |false=>Ybn A seg ρ σ [] λρ σ lg=>A.gd (Xq (hdSeg hd lo seg.length) lg) (dmPcs A hd (lo+seg.length) r ρ σ K)
theorem Ybd(A:Ans α)(hd:List (List Nat)):∀(lo:Nat) (l:Pcs) (ρ:Frame) (σ:List ABlk) (K:Frame→List ABlk→α),dmPcs A hd lo l ρ σ K=dnPcs A hd lo l ρ σ K
 |_,[],_,_,_=>rfl
 |lo,(seg,true)::r,ρ,σ,K=>by simp only[dmPcs,dnPcs,Qar,Ybd A hd _ r]
 |lo,(seg,false)::r,ρ,σ,K=>by simp only[dmPcs,dnPcs,Qar,QaO,Ybd A hd _ r]<;>cases noWr seg<;>rfl
def dm(A:Ans α):DCode→Frame→List ABlk→(Frame→List ABlk→α)→(Nat→Frame→List ABlk→α)→(Frame→List ABlk→α)→α
 |.skip,ρ,σ,K,_,_=>K ρ σ
 |.label _,ρ,σ,K,_,_=>K ρ σ
 |.region _ ms none,ρ,σ,K,_,_=>dmOps A ms ρ σ K
 |.region _ ms (some hd),ρ,σ,K,_,_=>match noWr ms with
  |true=>dmOps A ms ρ σ K
  |false=>Ybn A ms ρ σ [] λρ σ lg=>A.gd (Xq hd lg) (K ρ σ)
 |.regionS _ ps hd,ρ,σ,K,_,_=>dmPcs A hd 0 ps ρ σ K
 |.seq a b,ρ,σ,K,E,R=>dm A a ρ σ (λρ σ=>dm A b ρ σ K E R) E R
 |.cond c a b,ρ,σ,K,E,R=>evQ ρ c λc=>qT A c (dm A a ρ σ K E R) (dm A b ρ σ K E R)
 |.join lv a,ρ,σ,K,E,R=>joinK (λk=>dm A a ρ σ (λρ' σ=>getsQ ρ' lv λvs=>k vs σ) E R) (λvs σ=>spQ a.asg λl=>dropQ l ρ λr=>zipQ lv vs r λr=>K r σ)
 | .block id a,ρ,σ,K,E,R=>dm A a ρ σ K (λi ρ σ=>match Nat.beq i id with
  |true=>K ρ σ
  | false=>E i ρ σ) R
 |.loop lv a,ρ,σ,_,E,R=>getsQ ρ lv λvs=>qL A (λagain vs σ=>spQ a.asg λl=>dropQ l ρ λr=>zipQ lv vs r λr=>dm A a r σ (λρ' σ=>getsQ ρ' lv λvs=>again vs σ) E R) vs σ
 |.exit id,ρ,σ,_,E,_=>E id ρ σ
 |.scope a,ρ,σ,K,E,R=>dm A a ρ σ K E R
 |.ret,ρ,σ,_,_,R=>R ρ σ
theorem Xbd(A:Ans α):∀(D:DCode) (ρ:Frame) (σ:List ABlk) (K:Frame→List ABlk→α) (E:Nat→Frame→List ABlk→α) (R:Frame→List ABlk→α),dm A D ρ σ K E R=dn A D ρ σ K E R
 |.skip,_,_,_,_,_=>rfl
 |.label _,_,_,_,_,_=>rfl
 |.region _ ms none,ρ,σ,K,E,R=>by simp only[dm,dn,Qar]
 |.region _ ms (some hd),ρ,σ,K,E,R=>by simp only[dm,dn,Qar,QaO]<;>cases noWr ms<;>rfl
 |.regionS _ ps hd,ρ,σ,K,E,R=>by simp only[dm,dn,Ybd]
 |.seq a b,ρ,σ,K,E,R=>by simp only[dm,dn,Xbd A a,Xbd A b]
 |.cond c a b,ρ,σ,K,E,R=>by simp only[dm,dn,qT,Xbd A a,Xbd A b,QbR]
 |.join lv a,ρ,σ,K,E,R=>by simp only[dm,dn,Xbd A a,Ybf,Zbx,Qbd,YbN]
 |.block id a,ρ,σ,K,E,R=>by simp only[dm,dn,Xbd A a]<;>rfl
 |.loop lv a,ρ,σ,K,E,R=>by simp only[dm,dn,qL,Xbd A a,Ybf,Zbx,Qbd,YbN]
 |.exit id,_,_,_,_,_=>rfl
 |.scope a,ρ,σ,K,E,R=>by simp only[dm,dn,Xbd A a]
 |.ret,_,_,_,_,_=>rfl
def ZaP(A:Ans α):List RV→Frame→List ABlk→(List AVal→α)→α
 |[],_,_,K=>K []
 |.t n::r,ρ,σ,K=>getQ ρ n λv=>ZaP A r ρ σ λvs=>K (v::vs)
 |.c s agg n::r,ρ,σ,K=>getQ ρ s λx=>A.opt (cellV agg n x σ) λv=>ZaP A r ρ σ λvs=>K (v::vs)
theorem YaP(A:Ans α):∀(l:List RV) (ρ:Frame) (σ:List ABlk) (K:List AVal→α),ZaP A l ρ σ K=Zas A l ρ σ K
 |[],_,_,_=>rfl
 |.t n::r,ρ,σ,K=>by simp only[ZaP,Zas,Yam,YaP A r]
 |.c s agg n::r,ρ,σ,K=>by simp only[ZaP,Zas,Yam,YaP A r]
def dmFn(A:Ans α)(o:Option DFn)(xs:List AVal)(σ:List ABlk)(ret:AVal→List ABlk→α):α:=match o with
 |some D=>spQ (frame0 xs) λρ=>dm A D.body ρ σ (λρ σ=>ZaP A D.rets ρ σ λvs=>ret (retOf vs) σ) (λ_ _ _=>qS A) (λρ σ=>ZaP A D.rets ρ σ λvs=>ret (retOf vs) σ)
 |none=>qS A
theorem QcW(A:Ans α)(D:DFn)(xs:List AVal)(σ:List ABlk)(ret:AVal→List ABlk→α):dmFn A (some D) xs σ ret=dnFn A D xs σ ret:=by
 simp[dmFn,dnFn,qS,Zbx,Xbd,YaP]
end
theorem Zaw(n:Nat)(h:n<2 ^ 8):UInt8.ofBitVec (BitVec.ofFin ⟨n,h⟩)=UInt8.ofNat n:=by
 apply UInt8.toNat_inj.1;simp;exact(Nat.mod_eq_of_lt h).symm
section
variable {P:Program} {GL:Globs} {f:FuncId} {l:List (Option (List Nat))}
theorem Xbf{np:Nat}{g:GFun}(h:(compD P GL np f l).isSome=true)(hg:∀ {α:Type} (A:Ans α) (xs:List AVal) (σ:List ABlk) (ret:AVal→List ABlk→α),xs.length=np→dmFn A (compD P GL np f l) xs σ ret=g A xs σ ret):GOk P GL f np g:=by
 cases hD:compD P GL np f l with
 |none=>rw[hD] at h; cases h
 |some D=>
  refine Ydc hD (λα A xs σ ret hn=>?_);simp_all [QcW]
end
structure H0 (P:Program) (GL:Globs) (f:FuncId) (l:List (Option (List Nat))):Type 1 where
 g:∀ {α:Type},Ans α→List ABlk→(AVal→List ABlk→α)→α
 h:∀ {α:Type} (A:Ans α) σ ret,dmFn A (compD P GL 0 f l) [] σ ret=g A σ ret:=by intros; conv=>lhs; reduce; simp only[Int.reduceOfNat,Int.reduceNegSucc,Zaw,UInt8.reduceOfNat,qC,qD,qT,qL,qS]
 k:(compD P GL 0 f l).isSome=true:=by kernel_rfl
abbrev H0.u{P:Program}{GL:Globs}{f:FuncId}{l:List (Option (List Nat))}(q:H0 P GL f l):GFun:=λA xs σ r=>match xs with
 |[]=>q.g A σ r
 |_=>A.stop
theorem H0.ok{P:Program}{GL:Globs}{f:FuncId}{l:List (Option (List Nat))}(q:H0 P GL f l):GOk P GL f 0 q.u:=Xbf q.k λA xs σ ret hn=>by
 match xs,hn with
 |[],_=>exact q.h A σ ret
structure H1 (P:Program) (GL:Globs) (f:FuncId) (l:List (Option (List Nat))):Type 1 where
 g:∀ {α:Type},Ans α→AVal→List ABlk→(AVal→List ABlk→α)→α
 h:∀ {α:Type} (A:Ans α) x σ ret,dmFn A (compD P GL 1 f l) [x] σ ret=g A x σ ret:=by intros; conv=>lhs; reduce; simp only[Int.reduceOfNat,Int.reduceNegSucc,Zaw,UInt8.reduceOfNat,qC,qD,qT,qL,qS]
 k:(compD P GL 1 f l).isSome=true:=by kernel_rfl
abbrev H1.u{P:Program}{GL:Globs}{f:FuncId}{l:List (Option (List Nat))}(q:H1 P GL f l):GFun:=λA xs σ r=>match xs with
 |[x]=>q.g A x σ r
 |_=>A.stop
theorem H1.ok{P:Program}{GL:Globs}{f:FuncId}{l:List (Option (List Nat))}(q:H1 P GL f l):GOk P GL f 1 q.u:=Xbf q.k λA xs σ ret hn=>by
 match xs,hn with
 |[x],_=>exact q.h A x σ ret
structure H2 (P:Program) (GL:Globs) (f:FuncId) (l:List (Option (List Nat))):Type 1 where
 g:∀ {α:Type},Ans α→AVal→AVal→List ABlk→(AVal→List ABlk→α)→α
 h:∀ {α:Type} (A:Ans α) x y σ ret,dmFn A (compD P GL 2 f l) [x,y] σ ret=g A x y σ ret:=by intros; conv=>lhs; reduce; simp only[Int.reduceOfNat,Int.reduceNegSucc,Zaw,UInt8.reduceOfNat,qC,qD,qT,qL,qS]
 k:(compD P GL 2 f l).isSome=true:=by kernel_rfl
abbrev H2.u{P:Program}{GL:Globs}{f:FuncId}{l:List (Option (List Nat))}(q:H2 P GL f l):GFun:=λA xs σ r=>match xs with
 |[x,y]=>q.g A x y σ r
 |_=>A.stop
theorem H2.ok{P:Program}{GL:Globs}{f:FuncId}{l:List (Option (List Nat))}(q:H2 P GL f l):GOk P GL f 2 q.u:=Xbf q.k λA xs σ ret hn=>by
 match xs,hn with
 |[x,y],_=>exact q.h A x y σ ret
structure H3 (P:Program) (GL:Globs) (f:FuncId) (l:List (Option (List Nat))):Type 1 where
 g:∀ {α:Type},Ans α→AVal→AVal→AVal→List ABlk→(AVal→List ABlk→α)→α
 h:∀ {α:Type} (A:Ans α) x y z σ ret,dmFn A (compD P GL 3 f l) [x,y,z] σ ret=g A x y z σ ret:=by intros; conv=>lhs; reduce; simp only[Int.reduceOfNat,Int.reduceNegSucc,Zaw,UInt8.reduceOfNat,qC,qD,qT,qL,qS]
 k:(compD P GL 3 f l).isSome=true:=by kernel_rfl
abbrev H3.u{P:Program}{GL:Globs}{f:FuncId}{l:List (Option (List Nat))}(q:H3 P GL f l):GFun:=λA xs σ r=>match xs with
 |[x,y,z]=>q.g A x y z σ r
 |_=>A.stop
theorem H3.ok{P:Program}{GL:Globs}{f:FuncId}{l:List (Option (List Nat))}(q:H3 P GL f l):GOk P GL f 3 q.u:=Xbf q.k λA xs σ ret hn=>by
 match xs,hn with
 |[x,y,z],_=>exact q.h A x y z σ ret
structure H4 (P:Program) (GL:Globs) (f:FuncId) (l:List (Option (List Nat))):Type 1 where
 g:∀ {α:Type},Ans α→AVal→AVal→AVal→AVal→List ABlk→(AVal→List ABlk→α)→α
 h:∀ {α:Type} (A:Ans α) x y z u σ ret,dmFn A (compD P GL 4 f l) [x,y,z,u] σ ret=g A x y z u σ ret:=by intros; conv=>lhs; reduce; simp only[Int.reduceOfNat,Int.reduceNegSucc,Zaw,UInt8.reduceOfNat,qC,qD,qT,qL,qS]
 k:(compD P GL 4 f l).isSome=true:=by kernel_rfl
abbrev H4.u{P:Program}{GL:Globs}{f:FuncId}{l:List (Option (List Nat))}(q:H4 P GL f l):GFun:=λA xs σ r=>match xs with
 |[x,y,z,u]=>q.g A x y z u σ r
 |_=>A.stop
theorem H4.ok{P:Program}{GL:Globs}{f:FuncId}{l:List (Option (List Nat))}(q:H4 P GL f l):GOk P GL f 4 q.u:=Xbf q.k λA xs σ ret hn=>by
 match xs,hn with
 |[x,y,z,u],_=>exact q.h A x y z u σ ret
structure H5 (P:Program) (GL:Globs) (f:FuncId) (l:List (Option (List Nat))):Type 1 where
 g:∀ {α:Type},Ans α→AVal→AVal→AVal→AVal→AVal→List ABlk→(AVal→List ABlk→α)→α
 h:∀ {α:Type} (A:Ans α) x y z u v σ ret,dmFn A (compD P GL 5 f l) [x,y,z,u,v] σ ret=g A x y z u v σ ret:=by intros; conv=>lhs; reduce; simp only[Int.reduceOfNat,Int.reduceNegSucc,Zaw,UInt8.reduceOfNat,qC,qD,qT,qL,qS]
 k:(compD P GL 5 f l).isSome=true:=by kernel_rfl
abbrev H5.u{P:Program}{GL:Globs}{f:FuncId}{l:List (Option (List Nat))}(q:H5 P GL f l):GFun:=λA xs σ r=>match xs with
 |[x,y,z,u,v]=>q.g A x y z u v σ r
 |_=>A.stop
theorem H5.ok{P:Program}{GL:Globs}{f:FuncId}{l:List (Option (List Nat))}(q:H5 P GL f l):GOk P GL f 5 q.u:=Xbf q.k λA xs σ ret hn=>by
 match xs,hn with
 |[x,y,z,u,v],_=>exact q.h A x y z u v σ ret
structure H6 (P:Program) (GL:Globs) (f:FuncId) (l:List (Option (List Nat))):Type 1 where
 g:∀ {α:Type},Ans α→AVal→AVal→AVal→AVal→AVal→AVal→List ABlk→(AVal→List ABlk→α)→α
 h:∀ {α:Type} (A:Ans α) x y z u v w σ ret,dmFn A (compD P GL 6 f l) [x,y,z,u,v,w] σ ret=g A x y z u v w σ ret:=by intros; conv=>lhs; reduce; simp only[Int.reduceOfNat,Int.reduceNegSucc,Zaw,UInt8.reduceOfNat,qC,qD,qT,qL,qS]
 k:(compD P GL 6 f l).isSome=true:=by kernel_rfl
abbrev H6.u{P:Program}{GL:Globs}{f:FuncId}{l:List (Option (List Nat))}(q:H6 P GL f l):GFun:=λA xs σ r=>match xs with
 |[x,y,z,u,v,w]=>q.g A x y z u v w σ r
 |_=>A.stop
theorem H6.ok{P:Program}{GL:Globs}{f:FuncId}{l:List (Option (List Nat))}(q:H6 P GL f l):GOk P GL f 6 q.u:=Xbf q.k λA xs σ ret hn=>by
 match xs,hn with
 |[x,y,z,u,v,w],_=>exact q.h A x y z u v w σ ret
structure H7 (P:Program) (GL:Globs) (f:FuncId) (l:List (Option (List Nat))):Type 1 where
 g:∀ {α:Type},Ans α→AVal→AVal→AVal→AVal→AVal→AVal→AVal→List ABlk→(AVal→List ABlk→α)→α
 h:∀ {α:Type} (A:Ans α) x y z u v w t σ ret,dmFn A (compD P GL 7 f l) [x,y,z,u,v,w,t] σ ret=g A x y z u v w t σ ret:=by intros; conv=>lhs; reduce; simp only[Int.reduceOfNat,Int.reduceNegSucc,Zaw,UInt8.reduceOfNat,qC,qD,qT,qL,qS]
 k:(compD P GL 7 f l).isSome=true:=by kernel_rfl
abbrev H7.u{P:Program}{GL:Globs}{f:FuncId}{l:List (Option (List Nat))}(q:H7 P GL f l):GFun:=λA xs σ r=>match xs with
 |[x,y,z,u,v,w,t]=>q.g A x y z u v w t σ r
 |_=>A.stop
theorem H7.ok{P:Program}{GL:Globs}{f:FuncId}{l:List (Option (List Nat))}(q:H7 P GL f l):GOk P GL f 7 q.u:=Xbf q.k λA xs σ ret hn=>by
 match xs,hn with
 |[x,y,z,u,v,w,t],_=>exact q.h A x y z u v w t σ ret
structure H8 (P:Program) (GL:Globs) (f:FuncId) (l:List (Option (List Nat))):Type 1 where
 g:∀ {α:Type},Ans α→AVal→AVal→AVal→AVal→AVal→AVal→AVal→AVal→List ABlk→(AVal→List ABlk→α)→α
 h:∀ {α:Type} (A:Ans α) x y z u v w t s σ ret,dmFn A (compD P GL 8 f l) [x,y,z,u,v,w,t,s] σ ret=g A x y z u v w t s σ ret:=by intros; conv=>lhs; reduce; simp only[Int.reduceOfNat,Int.reduceNegSucc,Zaw,UInt8.reduceOfNat,qC,qD,qT,qL,qS]
 k:(compD P GL 8 f l).isSome=true:=by kernel_rfl
abbrev H8.u{P:Program}{GL:Globs}{f:FuncId}{l:List (Option (List Nat))}(q:H8 P GL f l):GFun:=λA xs σ r=>match xs with
 |[x,y,z,u,v,w,t,s]=>q.g A x y z u v w t s σ r
 |_=>A.stop
theorem H8.ok{P:Program}{GL:Globs}{f:FuncId}{l:List (Option (List Nat))}(q:H8 P GL f l):GOk P GL f 8 q.u:=Xbf q.k λA xs σ ret hn=>by
 match xs,hn with
 |[x,y,z,u,v,w,t,s],_=>exact q.h A x y z u v w t s σ ret
end Go.Ah
end
section
namespace Go.Ah
theorem H0.e{P:Program}{GL:Globs}{f:FuncId}{l:List (Option (List Nat))}(q:H0 P GL f l){α:Type}(A:Ans α)(σ:List ABlk)(r:AVal→List ABlk→α):q.u A [] σ r=q.g A  σ r:=rfl
theorem H1.e{P:Program}{GL:Globs}{f:FuncId}{l:List (Option (List Nat))}(q:H1 P GL f l){α:Type}(A:Ans α)(xa:AVal)(σ:List ABlk)(r:AVal→List ABlk→α):q.u A [xa] σ r=q.g A xa σ r:=rfl
theorem H2.e{P:Program}{GL:Globs}{f:FuncId}{l:List (Option (List Nat))}(q:H2 P GL f l){α:Type}(A:Ans α)(xa xb:AVal)(σ:List ABlk)(r:AVal→List ABlk→α):q.u A [xa,xb] σ r=q.g A xa xb σ r:=rfl
theorem H3.e{P:Program}{GL:Globs}{f:FuncId}{l:List (Option (List Nat))}(q:H3 P GL f l){α:Type}(A:Ans α)(xa xb xc:AVal)(σ:List ABlk)(r:AVal→List ABlk→α):q.u A [xa,xb,xc] σ r=q.g A xa xb xc σ r:=rfl
theorem H4.e{P:Program}{GL:Globs}{f:FuncId}{l:List (Option (List Nat))}(q:H4 P GL f l){α:Type}(A:Ans α)(xa xb xc xd:AVal)(σ:List ABlk)(r:AVal→List ABlk→α):q.u A [xa,xb,xc,xd] σ r=q.g A xa xb xc xd σ r:=rfl
theorem H5.e{P:Program}{GL:Globs}{f:FuncId}{l:List (Option (List Nat))}(q:H5 P GL f l){α:Type}(A:Ans α)(xa xb xc xd xe:AVal)(σ:List ABlk)(r:AVal→List ABlk→α):q.u A [xa,xb,xc,xd,xe] σ r=q.g A xa xb xc xd xe σ r:=rfl
theorem H6.e{P:Program}{GL:Globs}{f:FuncId}{l:List (Option (List Nat))}(q:H6 P GL f l){α:Type}(A:Ans α)(xa xb xc xd xe xf:AVal)(σ:List ABlk)(r:AVal→List ABlk→α):q.u A [xa,xb,xc,xd,xe,xf] σ r=q.g A xa xb xc xd xe xf σ r:=rfl
theorem H7.e{P:Program}{GL:Globs}{f:FuncId}{l:List (Option (List Nat))}(q:H7 P GL f l){α:Type}(A:Ans α)(xa xb xc xd xe xf xg:AVal)(σ:List ABlk)(r:AVal→List ABlk→α):q.u A [xa,xb,xc,xd,xe,xf,xg] σ r=q.g A xa xb xc xd xe xf xg σ r:=rfl
theorem H8.e{P:Program}{GL:Globs}{f:FuncId}{l:List (Option (List Nat))}(q:H8 P GL f l){α:Type}(A:Ans α)(xa xb xc xd xe xf xg xh:AVal)(σ:List ABlk)(r:AVal→List ABlk→α):q.u A [xa,xb,xc,xd,xe,xf,xg,xh] σ r=q.g A xa xb xc xd xe xf xg xh σ r:=rfl
end Go.Ah
end
section
namespace Go.Ah.Tz
@[reducible] def iv(n:Int):AVal:=.int .i64 n
@[reducible] def iv8(n:Int):AVal:=.int .i8 n
def cel(n:Int):List AVal:=[iv n]
@[reducible] def rowV(l:List Int):AVal:=.rsl false false 1 (l.map cel)
structure Th where
 id:Int
 card:Int
 harm:Int
 tired:Bool
 deriving DecidableEq,Inhabited
def thC(t:Th):List AVal:=[iv t.id,iv t.card,iv t.harm,.bool t.tired]
@[reducible] def thV(l:List Th):AVal:=.rsl false false 4 (l.map thC)
structure Sd where
 life:Int
 mana:Int
 most:Int
 deck:List Int
 hand:List Int
 grave:List Int
 units:List Th
 told:List Int
 deriving DecidableEq,Inhabited
@[reducible] def sdC(s:Sd):List AVal:=[iv s.life,iv s.mana,iv s.most,rowV s.deck,rowV s.hand,rowV s.grave,thV s.units,rowV s.told]
structure St where
 turn:Int
 mover:Int
 phase:Int
 struck:Bool
 result:Int
 attack:List Int
 next:Int
 s0:Sd
 s1:Sd
 deriving DecidableEq,Inhabited
@[reducible] def stC(s:St):List AVal:=[iv s.turn,iv s.mover,iv8 s.phase,.bool s.struck,iv8 s.result,rowV s.attack,iv s.next,
 iv s.s0.life,iv s.s0.mana,iv s.s0.most,rowV s.s0.deck,rowV s.s0.hand,rowV s.s0.grave,thV s.s0.units,rowV s.s0.told,
 iv s.s1.life,iv s.s1.mana,iv s.s1.most,rowV s.s1.deck,rowV s.s1.hand,rowV s.s1.grave,thV s.s1.units,rowV s.s1.told]
@[reducible] def stV(s:St):AVal:=.agg (stC s)
theorem Qc{n:Nat}(h:(n:Int)<4611686018427387904):IntKind.i64.wrap ((n:Int)+1)=((n+1:Nat):Int):=by
 rw[IntWalk.i64_in _ (by omega)]; simp
theorem Xu{α:Type}(l:List α)(i:Nat)(h:i<l.length):l.take (i+1)=l.take i++[l[i]]:=by
 rw[List.take_succ_eq_append_getElem h]
theorem QD{α β:Type}(f:α→β)(l:List α)(i:Nat)(h:i<l.length):(l.take i).map f++[f l[i]]=(l.take (i+1)).map f:=by
 rw[Xu l i h,List.map_append]; rfl
end Go.Ah.Tz
end
section
namespace Go.Ah.Tz
open Go.Proofs.Tryz (prog)
set_option maxRecDepth 100000
set_option maxHeartbeats 4000000
attribute [local irreducible] Ans.rd Ans.pu Ans.wr Ans.dr Ans.gr Ans.gw Ans.gl Ans.gd Ans.opt joinK hdV tlV cellV Xq qC qD qT qL qS Yl XT Zj ZG Qk Xr Z0 Xy Xaa Zk Qt XB ZF QB ZC ZA Qu Zv ZH XN YF Yn YaA YQ ZB XF Qae Y1 XaA Xx XW Ye Qak Zr Zaf Zal Xo XJ Yal QF Zab Yab QJ Qx Qab Zi Xal X1 Z2 Ybu
abbrev GQ(f:FuncId)(n:Nat)(g:GFun):Prop:=GOk prog GL0 f n g
abbrev PC(f:FuncId)(xs:List AVal)(v:AVal):Prop:=PCall prog GL0 f xs v
noncomputable abbrev VV:Ans Prop:=W prog GL0
def g3:H4 prog GL0 3 [some [999],none]:={g:=_}
def g48:H3 prog GL0 48 [some [999],none,none,none,some [],none,none,none,none,some [94],none,none]:={g:=_}
def g54:H1 prog GL0 54 [none,some [4],none,none]:={g:=_}
def g10:H2 prog GL0 10 [none,none,some [5],none,none,none]:={g:=_}
def g93:H2 prog GL0 93 [none,some [7],none,none,none,some [8],none,none,none]:={g:=_}
def g53:H3 prog GL0 53 [none,none,none,none,none,some [7],none,none,none,none,some [11],none,none,none]:={g:=_}
def g84:H3 prog GL0 84 [none,none,some [23,9],none,some [9],none]:={g:=_}
def g82:H2 prog GL0 82 [none,none,some [22,6],none,none,none,some [34,6],none,some [6],none]:={g:=_}
def g33:H3 prog GL0 33 [none,none,none]:={g:=_}
def g104:H1 prog GL0 104 [none,none,none]:={g:=_}
def g11:H2 prog GL0 11 [none,none,some [5],none,none,none]:={g:=_}
def g4:H3 prog GL0 4 []:={g:=_}
def g28:H2 prog GL0 28 [none,none,some [5],none,none,none]:={g:=_}
def g49:H4 prog GL0 49 [some [999],none,none,some [46],none,none,none,none,some [17],some [],none,none,some [18],none,none,none,some [97],none,some [],none,none,none,none,some [29],none,none,none]:={g:=_}
def g56:H4 prog GL0 56 [some [999],none,some [13,3],some [13,14,3],none,none,none,none,some [18],some [18,13,14,3],some [20],none,none,none]:={g:=_}
def g146:H2 prog GL0 146 [some [999],none,none,some [6,5],none,none,none,some [8,5],none,some [5],none]:={g:=_}
def g23:H3 prog GL0 23 [some [999],none,none,none,some [65],none,none,none,none,some [96,15],none,some [15],none,none]:={g:=_}
def g25:H3 prog GL0 25 [some [999],none,none,none,some [12],none,none,none,none,some [18,17],none,some [17],none,none]:={g:=_}
def g87:H3 prog GL0 87 [some [999],none]:={g:=_}
def g30:H2 prog GL0 30 []:={g:=_}
def g5:H0 prog GL0 5 [some [999]]:={g:=_}
def g6:H3 prog GL0 6 [some [999],none,none,some [25],none,none,none,none,none,some [49,12],none,none,none]:={g:=_}
def g7:H3 prog GL0 7 [some [999],none,none,some [10],none,none,none,some [11],none,none,none,none,none,some [14,13],none,none,none]:={g:=_}
def g8:H3 prog GL0 8 [some [999],some [],none,some [11],none,none]:={g:=_}
def g9:H3 prog GL0 9 [some [999],some [10],none,some [11,10],none,none,some [12,10]]:={g:=_}
def g12:H2 prog GL0 12 [some [999],none,none,some [5],none,none,none]:={g:=_}
def g18:H3 prog GL0 18 [some [999],none,none]:={g:=_}
def g14:H1 prog GL0 14 [none,some [4,3],none,none]:={g:=_}
def g58:H2 prog GL0 58 [none]:={g:=_}
def g77:H2 prog GL0 77 [none]:={g:=_}
def g78:H1 prog GL0 78 []:={g:=_}
def g79:H2 prog GL0 79 []:={g:=_}
def g34:H1 prog GL0 34 [none,some [9],none,none]:={g:=_}
def g94:H1 prog GL0 94 [none,some [4,3],none,none]:={g:=_}
def g95:H1 prog GL0 95 [none,some [4,3],none,none]:={g:=_}
def l153{α:Type}(A:Ans α)(x0 x1:AVal)(σ:List ABlk)(ret:AVal→List ABlk→α):α:=
 A.rd (Xo [x0] σ) λt7_0=>
 A.rd (Xo [x1] σ) λt9_1=>
 A.rd (Yn .neq false [t7_0,t9_1] σ) λt10_2=>
 A.test t10_2 (
 ret (.bool false) σ) (
 A.loop (λag3 v4 σ=>
 A.rd (Xo [x0] σ) λt13_5=>
 A.rd (Yn .lss false [(h0 v4),t13_5] σ) λt14_6=>
 A.test t14_6 (
 A.rd (Zj 4 [x0,(h0 v4)] σ) λt19_7=>
 A.rd (Qk true 4 [t19_7] σ) λt20_8=>
 A.rd (Zj 4 [x1,(h0 v4)] σ) λt23_9=>
 A.rd (Qk true 4 [t23_9] σ) λt24_10=>
 A.rd (XaA true [false,false,false,true] [t20_8,t24_10] σ) λt25_11=>
 A.test t25_11 (
 ret (.bool false) σ) (
 A.rd (Yn .add false [(h0 v4),(.int .i64 1)] σ) λt16_12=>
 ag3 [t16_12] σ)) (
 ret (.bool true) σ)) [(.int .i64 0)] σ)
theorem Qc0{α:Type}(A:Ans α)(x0 x1:AVal)(σ:List ABlk)(ret:AVal→List ABlk→α):dmFn A (compD prog GL0 2 29 [none,none,some [5],none,none,none]) [x0,x1] σ ret=l153 A x0 x1 σ ret:=by kernel_rfl
def g29:H2 prog GL0 29 [none,none,some [5],none,none,none]:=⟨l153,Qc0,by kernel_rfl⟩
def g24:H1 prog GL0 24 [none,none,none,some [5],none,none,none]:={g:=_}
def g92:H2 prog GL0 92 [none,some [6,5],none,none,none,none,none,some [8,5],none,none,none,none,some [10],none,none,none]:={g:=_}
def g83:H2 prog GL0 83 [none,some [9],none,none,none]:={g:=_}
def g132:H3 prog GL0 132 [none]:={g:=_}
def g133:H2 prog GL0 133 [none,none,some [6,5],none,some [5],none]:={g:=_}
def g134:H2 prog GL0 134 []:={g:=_}
def g129:H3 prog GL0 129 [none,some [20,6,7],none,some [6,7],none]:={g:=_}
def g226:H1 prog GL0 226 [none,some [4,3],none,none]:={g:=_}
def g198:H2 prog GL0 198 [some [5],none,none,some [6],none,none,none,none,none,none]:={g:=_}
def g59:H3 prog GL0 59 [none,some [7],none,none,none,none,some [31],none]:={g:=_}
def g16:H0 prog GL0 16 []:={g:=_}
def g22:H1 prog GL0 22 [none]:={g:=_}
def g13:H1 prog GL0 13 [none,some [4,3],none,none,none,some [6,3],none,none]:={g:=_}
def g15:H1 prog GL0 15 [none,some [4,3],none,none]:={g:=_}
def g74:H2 prog GL0 74 []:={g:=_}
def g47:H2 prog GL0 47 [some [999],some [],none]:={g:=_}
def g80:H2 prog GL0 80 [some [999]]:={g:=_}
def g81:H6 prog GL0 81 [some [999],none]:={g:=_}
def g85:H1 prog GL0 85 [some [999],none,none,none,none]:={g:=_}
def g86:H1 prog GL0 86 [some [999],none]:={g:=_}
def g97:H2 prog GL0 97 [some [999],none,some [5],none,none,none]:={g:=_}
def g98:H2 prog GL0 98 [some [999],none,some [9,8],none,some [8],none]:={g:=_}
def g99:H1 prog GL0 99 [some [999],none,none,none]:={g:=_}
def g55:H3 prog GL0 55 [some [999],none,none,none,none,none,none,some [12],none,none]:={g:=_}
def g17:H0 prog GL0 17 [some [999]]:={g:=_}
def g19:H1 prog GL0 19 [none,some [10],none,none,none]:={g:=_}
def g20:H2 prog GL0 20 []:={g:=_}
def g21:H2 prog GL0 21 [some [999]]:={g:=_}
def g26:H2 prog GL0 26 [some [999]]:={g:=_}
def g27:H2 prog GL0 27 [some [999]]:={g:=_}
def g39:H1 prog GL0 39 [some [999],none]:={g:=_}
def g136:H1 prog GL0 136 []:={g:=_}
def g102:H3 prog GL0 102 [none,some [14],none,none,none,none,none,none,none,none,none,none,none,none,none,some [89],none,none,none,none,none,some [116],none,none,none]:={g:=_}
def g60:H1 prog GL0 60 [none]:={g:=_}
def g50:H1 prog GL0 50 [none,none,some [3],none,none,none,some [4],none,none,none,none]:={g:=_}
def g51:H1 prog GL0 51 [none,some [3],none,none,none]:={g:=_}
def g52:H2 prog GL0 52 [none,some [6],none,none,none,none]:={g:=_}
def g96:H1 prog GL0 96 []:={g:=_}
def g145:H3 prog GL0 145 [none,none,some [7],none,none,none]:={g:=_}
def g130:H2 prog GL0 130 [none,some [8],none,none,none]:={g:=_}
def g131:H2 prog GL0 131 []:={g:=_}
def g46:H2 prog GL0 46 [none,some [8],none,none,none]:={g:=_}
def g200:H1 prog GL0 200 []:={g:=_}
def g117:H1 prog GL0 117 []:={g:=_}
def g103:H1 prog GL0 103 [none]:={g:=_}
def g105:H0 prog GL0 105 []:={g:=_}
def g197:H1 prog GL0 197 []:={g:=_}
def g171:H2 prog GL0 171 []:={g:=_}
def g31:H1 prog GL0 31 [none,some [4,3],none,none]:={g:=_}
def g32:H1 prog GL0 32 [none,some [4,3],none,none,none,some [5,3],none,none]:={g:=_}
def g41:H1 prog GL0 41 [none,none,some [18],none,some [],none,none,some [40],none,none,none,none,none]:={g:=_}
def g137:H3 prog GL0 137 [none,none,some [7],none,some [],none,none,none,none,none,none,some [9],some [9],none]:={g:=_}
def g193:H1 prog GL0 193 [none,some [4,3],none,some [3],some [3],none]:={g:=_}
def g119:H2 prog GL0 119 []:={g:=_}
def g120:H2 prog GL0 120 []:={g:=_}
def g121:H2 prog GL0 121 []:={g:=_}
def g122:H2 prog GL0 122 []:={g:=_}
def g123:H2 prog GL0 123 []:={g:=_}
def g124:H3 prog GL0 124 [some [5]]:={g:=_}
def g147:H3 prog GL0 147 [some [999],none,none,some [10,9],none,some [9],none,none,some [16,15],none,some [15],none,none,some [18,17],none,some [17],none]:={g:=_}
def g40:H1 prog GL0 40 []:={g:=_}
def g42:H1 prog GL0 42 []:={g:=_}
def g43:H1 prog GL0 43 [none,some [9],none,none,none]:={g:=_}
def g44:H1 prog GL0 44 []:={g:=_}
def g45:H1 prog GL0 45 [none,some [18],none,none,none,some [69,6],none,none,none,some [75,6],none,none,none]:={g:=_}
def g57:H2 prog GL0 57 [some [999],none]:={g:=_}
def g65:H4 prog GL0 65 [some [999],none]:={g:=_}
def g68:H2 prog GL0 68 [some [999]]:={g:=_}
def g150:H4 prog GL0 150 [none,none,some [85],none,none,none,none,some [106],none,none,none]:={g:=_}
def g88:H2 prog GL0 88 [none,none,none]:={g:=_}
def g89:H2 prog GL0 89 [none,some [5],none,some [],none,none,none,none,none,some [52],none,none,none,none,none]:={g:=_}
def g90:H1 prog GL0 90 []:={g:=_}
def g91:H2 prog GL0 91 [none,some [5],none,none,none,some [8,7],none,none,none]:={g:=_}
def g176:H2 prog GL0 176 [none,some [20],none,none,none,some [25],none,none,none]:={g:=_}
def g177:H2 prog GL0 177 []:={g:=_}
def g118:H3 prog GL0 118 [none,none,some [19],none,none,some [9],some [46],none,some [70],none,none,some [82],none,none,none,none]:={g:=_}
def g151:H1 prog GL0 151 [none,none,none]:={g:=_}
def g152:H1 prog GL0 152 [none,some [16],none,none,none]:={g:=_}
def g153:H1 prog GL0 153 [none,some [18],none,none,none]:={g:=_}
def g154:H1 prog GL0 154 []:={g:=_}
def g155:H1 prog GL0 155 []:={g:=_}
def g222:H2 prog GL0 222 [none,some [8],none,none,none]:={g:=_}
def g73:H2 prog GL0 73 [none,some [33],none,none,none,none,some [43],none,none,none,none]:={g:=_}
def g192:H2 prog GL0 192 [none,some [8],none,none,none]:={g:=_}
def g76:H2 prog GL0 76 []:={g:=_}
def g194:H1 prog GL0 194 []:={g:=_}
def g195:H2 prog GL0 195 [some [5],some [6],some [6],none,none,some [7],none,none,none,none,some [8],none,none,none,none]:={g:=_}
def g196:H1 prog GL0 196 []:={g:=_}
def g199:H3 prog GL0 199 [none,some [7],none,none,none]:={g:=_}
def g227:H1 prog GL0 227 [none,some [4,3],none,none,none,some [5,3],none,none]:={g:=_}
def g144:H2 prog GL0 144 [none,some [6],none,none,none]:={g:=_}
def g183:H2 prog GL0 183 []:={g:=_}
def g184:H1 prog GL0 184 [none,none,none,none,some [22,3],none,none]:={g:=_}
def g185:H1 prog GL0 185 [none]:={g:=_}
def g186:H2 prog GL0 186 []:={g:=_}
def g187:H1 prog GL0 187 [none,none,none,none,none,some [20,3],none,none,none,some [32,3],none,none]:={g:=_}
def g188:H2 prog GL0 188 [none,some [8],none,none,none]:={g:=_}
def g75:H1 prog GL0 75 []:={g:=_}
def g209:H2 prog GL0 209 []:={g:=_}
def g135:H1 prog GL0 135 []:={g:=_}
def g138:H2 prog GL0 138 []:={g:=_}
def g139:H2 prog GL0 139 [some [0],some [1],none,none,none]:={g:=_}
def g140:H1 prog GL0 140 [some [3],none,none,some [4,3],none,none]:={g:=_}
def g141:H1 prog GL0 141 [none,none,none,none,none,some [4,3],none,none,none,some [5,3],none,none]:={g:=_}
def g142:H2 prog GL0 142 [some [1,6],some [1,6],none,none,none]:={g:=_}
def g143:H1 prog GL0 143 [none,some [4],none,none,none]:={g:=_}
def g201:H2 prog GL0 201 [some [7,8,9],none,none,none,none,some [10,8],none,none,none,none]:={g:=_}
def g202:H1 prog GL0 202 []:={g:=_}
def g203:H1 prog GL0 203 []:={g:=_}
def g223:H2 prog GL0 223 [none,some [5],none,some [5],none,none,some [66,5],none,none,none,some [71,5],none,none,none,none,some [93,5],none,none,none,none,some [118,5],none,none,none,some [140,5],none,none,none,some [158],none,none,none]:={g:=_}
def g178:H1 prog GL0 178 []:={g:=_}
def g179:H1 prog GL0 179 [none,some [4],none,none,none,none]:={g:=_}
def g180:H2 prog GL0 180 [some [6,7,5],none,some [37],none,none,none,some [47],none,none,some [59],none,none,none,none,none,none,some [85],none,none,none]:={g:=_}
def g181:H1 prog GL0 181 []:={g:=_}
def g182:H2 prog GL0 182 [some [7,5,6],some [26],none,none,none,some [32],none,none,none,none,some [82],none,none,none,none,some [100],none,none,none]:={g:=_}
def g210:H1 prog GL0 210 []:={g:=_}
def g127:H2 prog GL0 127 [none]:={g:=_}
def g128:H2 prog GL0 128 []:={g:=_}
def g224:H0 prog GL0 224 []:={g:=_}
def g125:H1 prog GL0 125 [none,some [3],none,none,none]:={g:=_}
def g126:H1 prog GL0 126 []:={g:=_}
def g204:H0 prog GL0 204 []:={g:=_}
def g238:H2 prog GL0 238 [some [],some []]:={g:=_}
def g189:H1 prog GL0 189 [none,some [3],none,some [16],none]:={g:=_}
def g190:H1 prog GL0 190 []:={g:=_}
def g191:H0 prog GL0 191 [none,some [7],none,none]:={g:=_}
def g225:H1 prog GL0 225 [none,some [6,5,3,4],none,none,none,none,some [12],none,none,none,some [12,10,11],none,none,none,none,some [12],none,none,none]:={g:=_}
def g256:H2 prog GL0 256 [some [999],none,some [6,5],none,none,none,none,none,some [5],none,some [49],none,none]:={g:=_}
def g257:H1 prog GL0 257 [some [999],none,none,some [7],none,none,none,none,none,none,none]:={g:=_}
def g274:H2 prog GL0 274 [some [999],none,none]:={g:=_}
def g281:H2 prog GL0 281 [some [999],none,none,some [20],none,none,none,none,none,some [7,8],none,none,none,none]:={g:=_}
def g282:H2 prog GL0 282 [some [999],none,none,some [16],none,none,none,none,none,some [7,8],none,none,none,none]:={g:=_}
end Go.Ah.Tz
end
section
namespace Go.Ah.Tz
open Go.Proofs.Tryz (prog)
theorem hP:prog.follows .mixedOrders=true:=by kernel_rfl
theorem c62(a b:List Int)(ha:a.length<4611686018427387904):PC 28 [rowV a,rowV b] (.bool (decide (a=b))):=by
 refine Yc hP g28.ok rfl rfl ?_;simp only[g28,H2.u,Ze,YaH,QaG,QaB,List.length_map];refine⟨λh=>?_,λh=>?_⟩
 ·simp at h ⊢; rintro rfl; exact h rfl
 have hl:a.length=b.length:=by simp at h; omega
 refine Zg (ι:=Nat) (λi vs s=>vs=[iv i]∧i≤a.length∧a.take i=b.take i) (λi=>a.length-i) 0 ⟨rfl,by omega,by simp⟩ ?_;rintro i vs s again ⟨rfl,hi,ht⟩ hag;simp only[YaH,h0,hdV,XI,QaB];refine⟨λh=>?_,λh=>?_⟩
 ·have h:i<a.length:=by simpa using h
  simp[Yk _ cel _ _ _ a _ i h,Yk _ cel _ _ _ b _ i (by omega),cel,Qc (n:=i) (by omega)];refine⟨λhne e=>?_,λhe=>?_⟩
  ·subst e; exact hne rfl
  ·refine hag (i+1) _ _ (by omega) ⟨rfl,by omega,?_⟩;rw[List.take_succ_eq_append_getElem h,List.take_succ_eq_append_getElem (by omega),ht,he]
 ·have h:¬i<a.length:=by simpa using h
  rw[List.take_of_length_le (by omega),List.take_of_length_le (by omega)] at ht;simp[ht]
def Grows(n:Nat)(rows:List (List AVal))(k:Nat)(v:AVal)(σ:List ABlk):Prop:=
 (k=0∧v=.nils∧rows=[])∨(0<k∧∃b,v=.sl b 0 k false∧hget σ b=.rows n rows∧rows.length=k)
theorem Grows.nil(n:Nat)(σ:List ABlk):Grows n [] 0 .nils σ:=.inl ⟨rfl,rfl,rfl⟩
theorem Grows.app{α:Type}(A:Ans α){hold:α→Prop}{n by_ k:Nat}{rows:List (List AVal)}{v:AVal}{σ:List ABlk}{row:List AVal}(hg:Grows n rows k v σ)(hr:row.all AVal.cell=true)(hroom:(2*(k+1)+192)*by_≤2 ^ 48)(K:AVal→List ABlk→α)
 (hK:∀v' σ',Grows n (rows++[row]) (k+1) v' σ'→hold (K v' σ')):hold (A.wr (Yl n by_ [v,.sl σ.length 0 1 true] (σ++[.rows n [row]])) (σ++[.rows n [row]]) K):=by
 rcases hg with ⟨rfl,rfl,rfl⟩|⟨hk,b,rfl,hb,hl⟩
 ·rw[Yba A n by_ σ row hr (by simpa using hroom)];exact hK _ _ (.inr ⟨by omega,_,rfl,by have:=Qi (σ++[.rows n [row]]) (.rows n [row]); simpa using this,rfl⟩)
 ·rw[Xba A n by_ σ b k false rows row hb hl hr hroom];refine hK _ _ (.inr ⟨by omega,_,rfl,?_,by simp[hl]⟩);have:=Qi (σ.set b .dead++[.rows n [row]]) (.rows n (rows++[row]));simpa using this
theorem Z9{α:Type}{f:α→List AVal}{l:List α}{m:Nat→Option Nat}(h:∀x,(f x).map (AVal.ren m)=f x):(l.map f).map (λr=>r.map (AVal.ren m))=l.map f:=by
 rw[List.map_map]; apply List.map_congr_left; intro x _; exact h x
theorem Grows.tidy{α:Type}{n k:Nat}{v:AVal}{σ:List ABlk}{f:α→List AVal}{l:List α}(hg:Grows n (l.map f) k v σ)(hk:k=l.length)(hf:∀(m:Nat→Option Nat) x,(f x).map (AVal.ren m)=f x):Tidy σ v [.rows n (l.map f)] (.sl 0 0 l.length false):=by
 rcases hg with ⟨h1,rfl,h3⟩|⟨hpos,b,rfl,hb,hl⟩
 ·have hl:l=[]:=by simpa using h3
  subst hl;refine(Tidy.ghost n (.inl rfl)).trans ?_;have:=Tidy.one (σ:=σ++[.rows n []]) (b:=σ.length) (blk:=.rows n []) (by simp) (λx=>if x=σ.length then some 0 else none) (λ_=>rfl) (.sl σ.length 0 0 false);simpa using this
 ·subst hk;have:=Tidy.one (σ:=σ) (b:=b) (XG hb (by simp)) (λx=>if x=b then some 0 else none) (λ_=>rfl) (.sl b 0 l.length false);simp only[ABlk.mapV,AVal.ren,if_true] at this
  rwa [Z9 (hf _)] at this
theorem Xce(m:Nat→Option Nat)(x:Int):(cel x).map (AVal.ren m)=cel x:=rfl
theorem QcC(m:Nat→Option Nat)(x:Th):(thC x).map (AVal.ren m)=thC x:=rfl
theorem c60(l:List Int)(hl:l.length≤1000000000):NCall prog GL0 94 [rowV l] (.sl 0 0 l.length false) [.rows 1 (l.map cel)]:=by
 refine Yv hP g94.ok rfl ?_;simp only[g94,H1.u];refine Zg (ι:=Nat) (λi vs s=>∃v,vs=[iv i,v]∧i≤l.length∧Grows 1 ((l.take i).map cel) i v s) (λi=>l.length-i) 0 ⟨_,rfl,by omega,Grows.nil _ _⟩ ?_;rintro i vs s again ⟨v,rfl,hi,hg⟩ hag;simp only[Ze,YaH,h0,h1,hdV,tlV,XI,QaB,List.length_map];refine⟨λh=>?_,λh=>?_⟩
 ·have h:i<l.length:=by simpa using h
  simp only[Yk _ cel _ _ _ l _ i h,YaH,QaJ,partA,cel,nth];rw[Y3 _ _ _ _ _ [iv l[i]] rfl rfl];refine hg.app _ (hold:=λp=>p) rfl (by omega) _ (λv' σ' hg'=>?_);simp only[Yf,YaH,Qc (n:=i) (by omega)];exact hag (i+1) _ _ (by omega) ⟨v',rfl,by omega,by rw[←QD _ _ _ h]; exact hg'⟩
 ·have h:¬i<l.length:=by simpa using h
  have:i=l.length:=by omega
  subst this;rw[List.take_length] at hg;exact hg.tidy rfl Xce
theorem c63(a b:List Th)(ha:a.length<4611686018427387904):PC 29 [thV a,thV b] (.bool (decide (a=b))):=by
 refine Yc hP g29.ok rfl rfl ?_;simp only[g29,H2.u,Ze,YaH,QaG,QaB,List.length_map];refine⟨λh=>?_,λh=>?_⟩
 ·simp at h ⊢; rintro rfl; exact h rfl
 have hl:a.length=b.length:=by simp at h; omega
 refine Zg (ι:=Nat) (λi vs s=>vs=[iv i]∧i≤a.length∧a.take i=b.take i) (λi=>a.length-i) 0 ⟨rfl,by omega,by simp⟩ ?_;rintro i vs s again ⟨rfl,hi,ht⟩ hag;simp only[YaH,h0,hdV,XI,QaB];refine⟨λh=>?_,λh=>?_⟩
 ·have h:i<a.length:=by simpa using h
  have hq:XaA true [false,false,false,true] [.agg (thC a[i]),.agg (thC b[i])] s=.ok (.bool (!decide (a[i]=b[i]))) [] []:=by
   have:(decide (a[i]=b[i]))=((a[i].id==b[i].id)&&((a[i].card==b[i].card)&&((a[i].harm==b[i].harm)&&((a[i].tired==b[i].tired)&&true)))):=by
    rw[Bool.eq_iff_iff];cases h1:a[i]; cases h2:b[i]; simp
   simp[XaA,QN,Ya3,thC,this]
  simp only[Yk _ thC _ _ _ a _ i h,Yk _ thC _ _ _ b _ i (by omega),YaH,QaJ,partA,show ∀x,takeN 4 (dropN 0 (thC x))=some (thC x) from λ_=>rfl,hq,QaB,Yf,Qc (n:=i) (by omega)];refine⟨λhne=>?_,λhe=>?_⟩
  ·simp at hne ⊢; intro e; subst e; exact hne rfl
  ·refine hag (i+1) _ _ (by omega) ⟨rfl,by omega,?_⟩;rw[List.take_succ_eq_append_getElem h,List.take_succ_eq_append_getElem (by omega),ht,show a[i]=b[i] by simpa using he]
 ·have h:¬i<a.length:=by simpa using h
  rw[List.take_of_length_le (by omega),List.take_of_length_le (by omega)] at ht;simp[ht]
theorem c61(l:List Th)(hl:l.length≤1000000000):NCall prog GL0 95 [thV l] (.sl 0 0 l.length false) [.rows 4 (l.map thC)]:=by
 refine Yv hP g95.ok rfl ?_;simp only[g95,H1.u];refine Zg (ι:=Nat) (λi vs s=>∃v,vs=[iv i,v]∧i≤l.length∧Grows 4 ((l.take i).map thC) i v s) (λi=>l.length-i) 0 ⟨_,rfl,by omega,Grows.nil _ _⟩ ?_;rintro i vs s again ⟨v,rfl,hi,hg⟩ hag;simp only[Ze,YaH,h0,h1,hdV,tlV,XI,QaB,List.length_map];refine⟨λh=>?_,λh=>?_⟩
 ·have h:i<l.length:=by simpa using h
  simp only[Yk _ thC _ _ _ l _ i h,YaH,QaJ,partA,show ∀x,takeN 4 (dropN 0 (thC x))=some (thC x) from λ_=>rfl];rw[Y3 _ _ _ _ _ (thC l[i]) rfl rfl];refine hg.app _ (hold:=λp=>p) rfl (by omega) _ (λv' σ' hg'=>?_);simp only[Yf,YaH,Qc (n:=i) (by omega)];exact hag (i+1) _ _ (by omega) ⟨v',rfl,by omega,by rw[←QD _ _ _ h]; exact hg'⟩
 ·have h:¬i<l.length:=by simpa using h
  have:i=l.length:=by omega
  subst this;rw[List.take_length] at hg;exact hg.tidy rfl QcC
end Go.Ah.Tz
end
section
namespace Go.Ah.Tz
open Go.Proofs.Tryz (prog)
attribute [local irreducible] Ans.rd Ans.pu Ans.wr Ans.dr Ans.gr Ans.gw Ans.gl Ans.gd Ans.opt joinK W
structure SdLe (n:Nat) (s:Sd):Prop where
 deck:s.deck.length≤n
 hand:s.hand.length≤n
 grave:s.grave.length≤n
 units:s.units.length≤n
 told:s.told.length≤n
structure StLe (n:Nat) (s:St):Prop where
 attack:s.attack.length≤n
 s0:SdLe n s.s0
 s1:SdLe n s.s1
theorem Yaf{a b:Sd}:a=b↔a.life=b.life∧a.mana=b.mana∧a.most=b.most∧a.deck=b.deck∧a.hand=b.hand∧a.grave=b.grave∧a.told=b.told∧a.units=b.units:=by
 cases a; cases b<;>grind
theorem QR{a b:St}:a=b↔a.turn=b.turn∧a.mover=b.mover∧a.phase=b.phase∧a.struck=b.struck∧a.result=b.result∧a.next=b.next∧a.attack=b.attack∧a.s0=b.s0∧a.s1=b.s1:=by
 cases a; cases b<;>grind
set_option maxHeartbeats 1000000
set_option maxRecDepth 10000
theorem c20(a b:St)(ha:StLe 1000000000 a):PC 10 [stV a,stV b] (.bool (decide (a=b))):=by
 refine Yc hP g10.ok rfl rfl ?_;rw[H2.e]; unfold g10; dsimp only;repeat first|refine Za rfl ?_|refine Zd rfl rfl ?_
 rcases YBE (a.turn != b.turn) with h0|h0
 ·rw[h0]
  (repeat (first|refine Qa rfl ?_|refine Yb rfl ?_|refine Qb rfl ?_|refine Zc rfl ?_|refine Za rfl ?_|refine Zd rfl rfl ?_)); refine Xc ?_; simp at h0; simp[QR,h0]
 rw[h0];repeat first|refine Ya ?_|refine Xa ?_|refine Za rfl ?_|refine Zd rfl rfl ?_
 rcases YBE (a.mover != b.mover) with h1|h1
 ·rw[h1]
  (repeat (first|refine Qa rfl ?_|refine Yb rfl ?_|refine Qb rfl ?_|refine Zc rfl ?_|refine Za rfl ?_|refine Zd rfl rfl ?_)); refine Xc ?_; simp at h1; simp[QR,h1]
 rw[h1];repeat first|refine Ya ?_|refine Xa ?_|refine Za rfl ?_|refine Zd rfl rfl ?_
 rcases YBE (a.phase != b.phase) with h2|h2
 ·rw[h2]
  (repeat (first|refine Qa rfl ?_|refine Yb rfl ?_|refine Qb rfl ?_|refine Zc rfl ?_|refine Za rfl ?_|refine Zd rfl rfl ?_)); refine Xc ?_; simp at h2; simp[QR,h2]
 rw[h2];repeat first|refine Ya ?_|refine Xa ?_|refine Za rfl ?_|refine Zd rfl rfl ?_
 rcases YBE (!(a.struck==b.struck)) with h3|h3
 ·rw[h3]
  (repeat (first|refine Qa rfl ?_|refine Yb rfl ?_|refine Qb rfl ?_|refine Zc rfl ?_|refine Za rfl ?_|refine Zd rfl rfl ?_)); refine Xc ?_; simp at h3; simp[QR,h3]
 rw[h3];repeat first|refine Ya ?_|refine Xa ?_|refine Za rfl ?_|refine Zd rfl rfl ?_
 rcases YBE (a.result != b.result) with h4|h4
 ·rw[h4]
  (repeat (first|refine Qa rfl ?_|refine Yb rfl ?_|refine Qb rfl ?_|refine Zc rfl ?_|refine Za rfl ?_|refine Zd rfl rfl ?_)); refine Xc ?_; simp at h4; simp[QR,h4]
 rw[h4];repeat first|refine Ya ?_|refine Xa ?_|refine Za rfl ?_|refine Zd rfl rfl ?_
 rcases YBE (a.next != b.next) with h5|h5
 ·rw[h5]
  (repeat (first|refine Qa rfl ?_|refine Yb rfl ?_|refine Qb rfl ?_|refine Zc rfl ?_|refine Za rfl ?_|refine Zd rfl rfl ?_)); refine Xc ?_; simp at h5; simp[QR,h5]
 rw[h5];repeat first|refine Ya ?_|refine Xa ?_|refine Za rfl ?_|refine Zd rfl rfl ?_
 refine Xb (c62 _ _ (by have:=ha.attack; omega)) rfl g28.ok.plain rfl ?_;repeat first|refine Ya ?_|refine Za rfl ?_
 rcases YBE (!decide (a.attack=b.attack)) with h6|h6
 ·rw[h6];refine Xc ?_; simp at h6; simp[QR,h6]
 rw[h6];refine Xe ?_;have w1:IntKind.i64.wrap (0+1)=1:=by decide
 have w2:IntKind.i64.wrap (1+1)=2:=by decide
 refine Zl 3 (Zf ?_);refine Za rfl (Xc ?_);repeat first|refine Ya ?_|refine Xa ?_|refine Za rfl ?_|refine Yg rfl ?_|refine Qe rfl rfl ?_|refine Zd rfl rfl ?_
 refine XX (by kernel_rfl) ?_;repeat first|refine Ya ?_|refine Xa ?_|refine Za rfl ?_|refine Yg rfl ?_|refine Qe rfl rfl ?_|refine Zd rfl rfl ?_
 rcases YBE (a.s0.life != b.s0.life) with h7|h7
 ·rw[h7]
  (repeat (first|refine Qa rfl ?_|refine Yb rfl ?_|refine Qb rfl ?_|refine Zc rfl ?_|refine Za rfl ?_|refine Zd rfl rfl ?_)); refine Xc ?_; simp at h7; simp[QR,Yaf,h7]
 rw[h7];repeat first|refine Ya ?_|refine Xa ?_|refine Za rfl ?_|refine Yg rfl ?_|refine Qe rfl rfl ?_|refine Zd rfl rfl ?_
 rcases YBE (a.s0.mana != b.s0.mana) with h8|h8
 ·rw[h8]
  (repeat (first|refine Qa rfl ?_|refine Yb rfl ?_|refine Qb rfl ?_|refine Zc rfl ?_|refine Za rfl ?_|refine Zd rfl rfl ?_)); refine Xc ?_; simp at h8; simp[QR,Yaf,h8]
 rw[h8];repeat first|refine Ya ?_|refine Xa ?_|refine Za rfl ?_|refine Yg rfl ?_|refine Qe rfl rfl ?_|refine Zd rfl rfl ?_
 rcases YBE (a.s0.most != b.s0.most) with h9|h9
 ·rw[h9]
  (repeat (first|refine Qa rfl ?_|refine Yb rfl ?_|refine Qb rfl ?_|refine Zc rfl ?_|refine Za rfl ?_|refine Zd rfl rfl ?_)); refine Xc ?_; simp at h9; simp[QR,Yaf,h9]
 rw[h9];repeat first|refine Ya ?_|refine Xa ?_|refine Za rfl ?_|refine Yg rfl ?_|refine Qe rfl rfl ?_|refine Zd rfl rfl ?_
 refine Xb (c62 _ _ (by have:=ha.s0.deck; omega)) rfl g28.ok.plain rfl ?_;repeat first|refine Ya ?_|refine Xa ?_|refine Za rfl ?_|refine Yg rfl ?_|refine Qe rfl rfl ?_|refine Zd rfl rfl ?_
 rcases YBE (!decide (a.s0.deck=b.s0.deck)) with h10|h10
 ·rw[h10]
  (repeat (first|refine Qa rfl ?_|refine Yb rfl ?_|refine Qb rfl ?_|refine Zc rfl ?_|refine Za rfl ?_|refine Zd rfl rfl ?_)); refine Xc ?_; simp at h10; simp[QR,Yaf,h10]
 rw[h10];repeat first|refine Ya ?_|refine Xa ?_|refine Za rfl ?_|refine Yg rfl ?_|refine Qe rfl rfl ?_|refine Zd rfl rfl ?_
 refine Xb (c62 _ _ (by have:=ha.s0.hand; omega)) rfl g28.ok.plain rfl ?_;repeat first|refine Ya ?_|refine Xa ?_|refine Za rfl ?_|refine Yg rfl ?_|refine Qe rfl rfl ?_|refine Zd rfl rfl ?_
 rcases YBE (!decide (a.s0.hand=b.s0.hand)) with h11|h11
 ·rw[h11]
  (repeat (first|refine Qa rfl ?_|refine Yb rfl ?_|refine Qb rfl ?_|refine Zc rfl ?_|refine Za rfl ?_|refine Zd rfl rfl ?_)); refine Xc ?_; simp at h11; simp[QR,Yaf,h11]
 rw[h11];repeat first|refine Ya ?_|refine Xa ?_|refine Za rfl ?_|refine Yg rfl ?_|refine Qe rfl rfl ?_|refine Zd rfl rfl ?_
 refine Xb (c62 _ _ (by have:=ha.s0.grave; omega)) rfl g28.ok.plain rfl ?_;repeat first|refine Ya ?_|refine Xa ?_|refine Za rfl ?_|refine Yg rfl ?_|refine Qe rfl rfl ?_|refine Zd rfl rfl ?_
 rcases YBE (!decide (a.s0.grave=b.s0.grave)) with h12|h12
 ·rw[h12]
  (repeat (first|refine Qa rfl ?_|refine Yb rfl ?_|refine Qb rfl ?_|refine Zc rfl ?_|refine Za rfl ?_|refine Zd rfl rfl ?_)); refine Xc ?_; simp at h12; simp[QR,Yaf,h12]
 rw[h12];repeat first|refine Ya ?_|refine Xa ?_|refine Za rfl ?_|refine Yg rfl ?_|refine Qe rfl rfl ?_|refine Zd rfl rfl ?_
 refine Xb (c62 _ _ (by have:=ha.s0.told; omega)) rfl g28.ok.plain rfl ?_;repeat first|refine Ya ?_|refine Xa ?_|refine Za rfl ?_|refine Yg rfl ?_|refine Qe rfl rfl ?_|refine Zd rfl rfl ?_
 rcases YBE (!decide (a.s0.told=b.s0.told)) with h13|h13
 ·rw[h13]
  (repeat (first|refine Qa rfl ?_|refine Yb rfl ?_|refine Qb rfl ?_|refine Zc rfl ?_|refine Za rfl ?_|refine Zd rfl rfl ?_)); refine Xc ?_; simp at h13; simp[QR,Yaf,h13]
 rw[h13];repeat first|refine Ya ?_|refine Xa ?_|refine Za rfl ?_|refine Yg rfl ?_|refine Qe rfl rfl ?_|refine Zd rfl rfl ?_
 refine Xb (c63 _ _ (by have:=ha.s0.units; omega)) rfl g29.ok.plain rfl ?_;repeat first|refine Ya ?_|refine Xa ?_|refine Za rfl ?_|refine Yg rfl ?_|refine Qe rfl rfl ?_|refine Zd rfl rfl ?_
 rcases YBE (!decide (a.s0.units=b.s0.units)) with h14|h14
 ·rw[h14]
  (repeat (first|refine Qa rfl ?_|refine Yb rfl ?_|refine Qb rfl ?_|refine Zc rfl ?_|refine Za rfl ?_|refine Zd rfl rfl ?_)); refine Xc ?_; simp at h14; simp[QR,Yaf,h14]
 rw[h14];repeat first|refine Ya ?_|refine Xa ?_|refine Za rfl ?_|refine Yg rfl ?_|refine Qe rfl rfl ?_|refine Zd rfl rfl ?_
 refine Xe (Za rfl ?_);rw[w1];refine Zf ?_;refine Za rfl (Xc ?_);repeat first|refine Ya ?_|refine Xa ?_|refine Za rfl ?_|refine Yg rfl ?_|refine Qe rfl rfl ?_|refine Zd rfl rfl ?_
 refine XX (by kernel_rfl) ?_;repeat first|refine Ya ?_|refine Xa ?_|refine Za rfl ?_|refine Yg rfl ?_|refine Qe rfl rfl ?_|refine Zd rfl rfl ?_
 rcases YBE (a.s1.life != b.s1.life) with h15|h15
 ·rw[h15]
  (repeat (first|refine Qa rfl ?_|refine Yb rfl ?_|refine Qb rfl ?_|refine Zc rfl ?_|refine Za rfl ?_|refine Zd rfl rfl ?_)); refine Xc ?_; simp at h15; simp[QR,Yaf,h15]
 rw[h15];repeat first|refine Ya ?_|refine Xa ?_|refine Za rfl ?_|refine Yg rfl ?_|refine Qe rfl rfl ?_|refine Zd rfl rfl ?_
 rcases YBE (a.s1.mana != b.s1.mana) with h16|h16
 ·rw[h16]
  (repeat (first|refine Qa rfl ?_|refine Yb rfl ?_|refine Qb rfl ?_|refine Zc rfl ?_|refine Za rfl ?_|refine Zd rfl rfl ?_)); refine Xc ?_; simp at h16; simp[QR,Yaf,h16]
 rw[h16];repeat first|refine Ya ?_|refine Xa ?_|refine Za rfl ?_|refine Yg rfl ?_|refine Qe rfl rfl ?_|refine Zd rfl rfl ?_
 rcases YBE (a.s1.most != b.s1.most) with h17|h17
 ·rw[h17]
  (repeat (first|refine Qa rfl ?_|refine Yb rfl ?_|refine Qb rfl ?_|refine Zc rfl ?_|refine Za rfl ?_|refine Zd rfl rfl ?_)); refine Xc ?_; simp at h17; simp[QR,Yaf,h17]
 rw[h17];repeat first|refine Ya ?_|refine Xa ?_|refine Za rfl ?_|refine Yg rfl ?_|refine Qe rfl rfl ?_|refine Zd rfl rfl ?_
 refine Xb (c62 _ _ (by have:=ha.s1.deck; omega)) rfl g28.ok.plain rfl ?_;repeat first|refine Ya ?_|refine Xa ?_|refine Za rfl ?_|refine Yg rfl ?_|refine Qe rfl rfl ?_|refine Zd rfl rfl ?_
 rcases YBE (!decide (a.s1.deck=b.s1.deck)) with h18|h18
 ·rw[h18]
  (repeat (first|refine Qa rfl ?_|refine Yb rfl ?_|refine Qb rfl ?_|refine Zc rfl ?_|refine Za rfl ?_|refine Zd rfl rfl ?_)); refine Xc ?_; simp at h18; simp[QR,Yaf,h18]
 rw[h18];repeat first|refine Ya ?_|refine Xa ?_|refine Za rfl ?_|refine Yg rfl ?_|refine Qe rfl rfl ?_|refine Zd rfl rfl ?_
 refine Xb (c62 _ _ (by have:=ha.s1.hand; omega)) rfl g28.ok.plain rfl ?_;repeat first|refine Ya ?_|refine Xa ?_|refine Za rfl ?_|refine Yg rfl ?_|refine Qe rfl rfl ?_|refine Zd rfl rfl ?_
 rcases YBE (!decide (a.s1.hand=b.s1.hand)) with h19|h19
 ·rw[h19]
  (repeat (first|refine Qa rfl ?_|refine Yb rfl ?_|refine Qb rfl ?_|refine Zc rfl ?_|refine Za rfl ?_|refine Zd rfl rfl ?_)); refine Xc ?_; simp at h19; simp[QR,Yaf,h19]
 rw[h19];repeat first|refine Ya ?_|refine Xa ?_|refine Za rfl ?_|refine Yg rfl ?_|refine Qe rfl rfl ?_|refine Zd rfl rfl ?_
 refine Xb (c62 _ _ (by have:=ha.s1.grave; omega)) rfl g28.ok.plain rfl ?_;repeat first|refine Ya ?_|refine Xa ?_|refine Za rfl ?_|refine Yg rfl ?_|refine Qe rfl rfl ?_|refine Zd rfl rfl ?_
 rcases YBE (!decide (a.s1.grave=b.s1.grave)) with h20|h20
 ·rw[h20]
  (repeat (first|refine Qa rfl ?_|refine Yb rfl ?_|refine Qb rfl ?_|refine Zc rfl ?_|refine Za rfl ?_|refine Zd rfl rfl ?_)); refine Xc ?_; simp at h20; simp[QR,Yaf,h20]
 rw[h20];repeat first|refine Ya ?_|refine Xa ?_|refine Za rfl ?_|refine Yg rfl ?_|refine Qe rfl rfl ?_|refine Zd rfl rfl ?_
 refine Xb (c62 _ _ (by have:=ha.s1.told; omega)) rfl g28.ok.plain rfl ?_;repeat first|refine Ya ?_|refine Xa ?_|refine Za rfl ?_|refine Yg rfl ?_|refine Qe rfl rfl ?_|refine Zd rfl rfl ?_
 rcases YBE (!decide (a.s1.told=b.s1.told)) with h21|h21
 ·rw[h21]
  (repeat (first|refine Qa rfl ?_|refine Yb rfl ?_|refine Qb rfl ?_|refine Zc rfl ?_|refine Za rfl ?_|refine Zd rfl rfl ?_)); refine Xc ?_; simp at h21; simp[QR,Yaf,h21]
 rw[h21];repeat first|refine Ya ?_|refine Xa ?_|refine Za rfl ?_|refine Yg rfl ?_|refine Qe rfl rfl ?_|refine Zd rfl rfl ?_
 refine Xb (c63 _ _ (by have:=ha.s1.units; omega)) rfl g29.ok.plain rfl ?_;repeat first|refine Ya ?_|refine Xa ?_|refine Za rfl ?_|refine Yg rfl ?_|refine Qe rfl rfl ?_|refine Zd rfl rfl ?_
 rcases YBE (!decide (a.s1.units=b.s1.units)) with h22|h22
 ·rw[h22]
  (repeat (first|refine Qa rfl ?_|refine Yb rfl ?_|refine Qb rfl ?_|refine Zc rfl ?_|refine Za rfl ?_|refine Zd rfl rfl ?_)); refine Xc ?_; simp at h22; simp[QR,Yaf,h22]
 rw[h22];repeat first|refine Ya ?_|refine Xa ?_|refine Za rfl ?_|refine Yg rfl ?_|refine Qe rfl rfl ?_|refine Zd rfl rfl ?_
 refine Xe (Za rfl ?_);rw[w2];refine Zf ?_;refine Za rfl (Xe ?_);simp_all [QR,Yaf]
end Go.Ah.Tz
end
section
namespace Go.Ah.Tz
open Go.Proofs.Tryz (prog)
theorem ZP(m:Nat→Option Nat)(l:List Int):(ABlk.rows 1 (l.map cel)).mapV (AVal.ren m)=.rows 1 (l.map cel):=by
 simp only[ABlk.mapV,Z9 (Xce m)]
theorem Qaz(m:Nat→Option Nat)(l:List Th):(ABlk.rows 4 (l.map thC)).mapV (AVal.ren m)=.rows 4 (l.map thC):=by
 simp only[ABlk.mapV,Z9 (QcC m)]
theorem w60{l:List Int}(hl:l.length≤1000000000){σ:List ABlk}{K:AVal→List ABlk→Prop}(hK:K (.sl σ.length 0 l.length false) (σ++[.rows 1 (l.map cel)])):VV.call (.call 94) [rowV l] σ K:=by
 refine Xap (c60 l hl) rfl g94.ok.plain rfl ?_;simp only[Xp,List.map_cons,List.map_nil,ZP,AVal.ren,Zw,Nat.zero_add];exact hK
theorem d60{l:List Int}(hl:l.length≤1000000000){σ:List ABlk}{K:AVal→List Nat×List Nat→List ABlk→Prop}(hK:K (.sl σ.length 0 l.length false) ([],[σ.length]) (σ++[.rows 1 (l.map cel)])):VV.dcall (.call 94) [rowV l] σ K:=by
 refine Qap (c60 l hl) rfl g94.ok.plain rfl ?_;simp only[Xp,List.map_cons,List.map_nil,ZP,AVal.ren,Zw,Nat.zero_add,QV];exact hK
theorem d61{l:List Th}(hl:l.length≤1000000000){σ:List ABlk}{K:AVal→List Nat×List Nat→List ABlk→Prop}(hK:K (.sl σ.length 0 l.length false) ([],[σ.length]) (σ++[.rows 4 (l.map thC)])):VV.dcall (.call 95) [thV l] σ K:=by
 refine Qap (c61 l hl) rfl g95.ok.plain rfl ?_;simp only[Xp,List.map_cons,List.map_nil,Qaz,AVal.ren,Zw,Nat.zero_add,QV];exact hK
attribute [local irreducible] Ans.rd Ans.pu Ans.wr Ans.dr Ans.gr Ans.gw Ans.gl Ans.gd Ans.opt joinK W
@[reducible] def sdO(s:Sd)(b:Nat):List AVal:=[iv s.life,iv s.mana,iv s.most,.sl b 0 s.deck.length false,.sl (b+1) 0 s.hand.length false,.sl (b+2) 0 s.grave.length false,.sl (b+3) 0 s.units.length false,.sl (b+4) 0 s.told.length false]
@[reducible] def sdB(s:Sd):List ABlk:=[.rows 1 (s.deck.map cel),.rows 1 (s.hand.map cel),.rows 1 (s.grave.map cel),.rows 4 (s.units.map thC),.rows 1 (s.told.map cel)]
@[reducible] def stO(s:St)(b:Nat):List AVal:=[iv s.turn,iv s.mover,iv8 s.phase,.bool s.struck,iv8 s.result,.sl b 0 s.attack.length false,iv s.next]++sdO s.s0 (b+1)++sdO s.s1 (b+6)
@[reducible] def stB(s:St):List ABlk:=.rows 1 (s.attack.map cel)::sdB s.s0++sdB s.s1
theorem c19(s:St)(hs:StLe 1000000000 s):NCall prog GL0 54 [stV s] (.agg (stO s 0)) (stB s):=by
 refine Yv hP g54.ok rfl ?_;rw[H1.e]; unfold g54; dsimp only;have w1:IntKind.i64.wrap (0+1)=1:=by decide
 have w2:IntKind.i64.wrap (1+1)=2:=by decide
 repeat first|refine Za rfl ?_|refine Zd rfl rfl ?_|refine Yg rfl ?_|refine Qe rfl rfl ?_
 refine w60 hs.attack ?_;simp only[List.length_cons,List.length_nil,List.nil_append,List.cons_append,Nat.zero_add,Nat.reduceAdd];repeat first|refine Za rfl ?_|refine Zd rfl rfl ?_|refine Yg rfl ?_|refine Qe rfl rfl ?_
 refine Zl 3 (Zf ?_);refine Za rfl (Xc ?_);repeat first|refine Za rfl ?_|refine Zd rfl rfl ?_|refine Yg rfl ?_|refine Qe rfl rfl ?_
 refine d60 hs.s0.deck ?_;simp only[List.length_cons,List.length_nil,List.nil_append,List.cons_append,Nat.zero_add,Nat.reduceAdd];repeat first|refine Za rfl ?_|refine Zd rfl rfl ?_|refine Yg rfl ?_|refine Qe rfl rfl ?_
 refine d60 hs.s0.hand ?_;simp only[List.length_cons,List.length_nil,List.nil_append,List.cons_append,Nat.zero_add,Nat.reduceAdd];repeat first|refine Za rfl ?_|refine Zd rfl rfl ?_|refine Yg rfl ?_|refine Qe rfl rfl ?_
 refine d60 hs.s0.grave ?_;simp only[List.length_cons,List.length_nil,List.nil_append,List.cons_append,Nat.zero_add,Nat.reduceAdd];repeat first|refine Za rfl ?_|refine Zd rfl rfl ?_|refine Yg rfl ?_|refine Qe rfl rfl ?_
 refine d61 hs.s0.units ?_;simp only[List.length_cons,List.length_nil,List.nil_append,List.cons_append,Nat.zero_add,Nat.reduceAdd];repeat first|refine Za rfl ?_|refine Zd rfl rfl ?_|refine Yg rfl ?_|refine Qe rfl rfl ?_
 refine d60 hs.s0.told ?_;simp only[List.length_cons,List.length_nil,List.nil_append,List.cons_append,Nat.zero_add,Nat.reduceAdd];repeat first|refine Za rfl ?_|refine Zd rfl rfl ?_|refine Yg rfl ?_|refine Qe rfl rfl ?_
 refine XX (by kernel_rfl) (Za rfl ?_);rw[w1];refine Zf ?_;refine Za rfl (Xc ?_);repeat first|refine Za rfl ?_|refine Zd rfl rfl ?_|refine Yg rfl ?_|refine Qe rfl rfl ?_
 refine d60 hs.s1.deck ?_;simp only[List.length_cons,List.length_nil,List.nil_append,List.cons_append,Nat.zero_add,Nat.reduceAdd];repeat first|refine Za rfl ?_|refine Zd rfl rfl ?_|refine Yg rfl ?_|refine Qe rfl rfl ?_
 refine d60 hs.s1.hand ?_;simp only[List.length_cons,List.length_nil,List.nil_append,List.cons_append,Nat.zero_add,Nat.reduceAdd];repeat first|refine Za rfl ?_|refine Zd rfl rfl ?_|refine Yg rfl ?_|refine Qe rfl rfl ?_
 refine d60 hs.s1.grave ?_;simp only[List.length_cons,List.length_nil,List.nil_append,List.cons_append,Nat.zero_add,Nat.reduceAdd];repeat first|refine Za rfl ?_|refine Zd rfl rfl ?_|refine Yg rfl ?_|refine Qe rfl rfl ?_
 refine d61 hs.s1.units ?_;simp only[List.length_cons,List.length_nil,List.nil_append,List.cons_append,Nat.zero_add,Nat.reduceAdd];repeat first|refine Za rfl ?_|refine Zd rfl rfl ?_|refine Yg rfl ?_|refine Qe rfl rfl ?_
 refine d60 hs.s1.told ?_;simp only[List.length_cons,List.length_nil,List.nil_append,List.cons_append,Nat.zero_add,Nat.reduceAdd];repeat first|refine Za rfl ?_|refine Zd rfl rfl ?_|refine Yg rfl ?_|refine Qe rfl rfl ?_
 refine XX (by kernel_rfl) (Za rfl ?_);rw[w2];refine Zf ?_;refine Za rfl (Xe ?_);repeat first|refine Za rfl ?_|refine Zd rfl rfl ?_|refine Yg rfl ?_|refine Qe rfl rfl ?_
 refine Zt rfl ?_;refine Tidy.gc [3,5,6,7,8,9,11,12,13,14,15] (by decide) (by simp) ?_ rfl;simp only[gcH,List.map_cons,List.map_nil,hget,ZP,Qaz]
end Go.Ah.Tz
end
section
namespace Go.Ah.Tz
open Go.Proofs.Tryz (prog)
attribute [local irreducible] Ans.rd Ans.pu Ans.wr Ans.dr Ans.gr Ans.gw Ans.gl Ans.gd Ans.opt joinK W
def fnd(l:List Th)(id:Int):Option Nat:=l.findIdx? (λu=>decide (u.id=id))
theorem QbS{l:List Th}{id:Int}{i:Nat}(h:i<l.length)(h2:l[i].id=id)(hb:∀j (hj:j<l.length),j<i→l[j].id≠id):fnd l id=some i:=by
 unfold fnd;rw[List.findIdx?_eq_some_iff_getElem];exact⟨h,by simpa using h2,λj hj=>by simpa using hb j (by omega) hj⟩
theorem XbS{l:List Th}{id:Int}(hb:∀j (hj:j<l.length),l[j].id≠id):fnd l id=none:=by
 unfold fnd;rw[List.findIdx?_eq_none_iff];intro x hx;obtain⟨j,hj,rfl⟩:=List.getElem_of_mem hx;simpa using hb j hj
def unitR(s:St)(id:Int):Int×Int×Bool:=match fnd s.s0.units id with
 |some k=>(0,k,true)
 |none=>match fnd s.s1.units id with
  |some k=>(1,k,true)
  |none=>(0,0,false)
def unitV(s:St)(id:Int):AVal:=.tup [iv (unitR s id).1,iv (unitR s id).2.1,.bool (unitR s id).2.2]
theorem c23(s:St)(hs:StLe 1000000000 s)(id:Int):PC 93 [stV s,iv id] (unitV s id):=by
 refine Yc hP g93.ok rfl rfl ?_;rw[H2.e]; unfold g93; dsimp only;have w1:IntKind.i64.wrap (0+1)=1:=by decide
 have w2:IntKind.i64.wrap (1+1)=2:=by decide
 have u0:=hs.s0.units;have u1:=hs.s1.units;repeat first|refine Za rfl ?_|refine Zd rfl rfl ?_
 refine Zl 3 (Zf ?_);refine Za rfl (Xc ?_);refine Zg (ι:=Nat) (λi vs σ=>vs=[iv i]∧σ=[.box (stC s)]∧i≤s.s0.units.length∧∀j (hj:j<s.s0.units.length),j<i→s.s0.units[j].id≠id) (λi=>s.s0.units.length-i) 0 ⟨rfl,rfl,by omega,λj _ h=>by omega⟩ ?_;rintro i vs σ again ⟨rfl,rfl,hi,hb⟩ hag;repeat first|refine Za rfl ?_|refine Zd rfl rfl ?_
 refine Zb (λh=>?_) (λh=>?_)
 ·have h:i<s.s0.units.length:=by simpa using h
  repeat first|refine Za rfl ?_|refine Zd rfl rfl ?_
  refine Za (Yk _ thC _ _ _ _ _ i h) ?_;repeat first|refine Za rfl ?_|refine Zd rfl rfl ?_
  refine Zb (λh2=>?_) (λh2=>?_)
  ·have h2:s.s0.units[i].id=id:=by simpa using h2
   have hf:fnd s.s0.units id=some i:=QbS h h2 hb;simp[unitV,unitR,hf]
  ·have h2:s.s0.units[i].id≠id:=by simpa using h2
   refine Za rfl ?_;rw[Qc (n:=i) (by omega)];refine hag (i+1) _ _ (by omega) ⟨rfl,rfl,by omega,λj hj hji=>?_⟩;by_cases e:j=i
   ·subst e; exact h2
   ·exact hb j hj (by omega)
 have h:¬i<s.s0.units.length:=by simpa using h
 have hn0:fnd s.s0.units id=none:=XbS (λj hj=>hb j hj (by omega));refine Za rfl ?_;rw[w1];refine Zf ?_;refine Za rfl (Xc ?_);refine Zg (ι:=Nat) (λi vs σ=>vs=[iv i]∧σ=[.box (stC s)]∧i≤s.s1.units.length∧∀j (hj:j<s.s1.units.length),j<i→s.s1.units[j].id≠id) (λi=>s.s1.units.length-i) 0 ⟨rfl,rfl,by omega,λj _ h=>by omega⟩ ?_;rintro i vs σ again ⟨rfl,rfl,hi,hb⟩ hag;repeat first|refine Za rfl ?_|refine Zd rfl rfl ?_
 refine Zb (λh=>?_) (λh=>?_)
 ·have h:i<s.s1.units.length:=by simpa using h
  repeat first|refine Za rfl ?_|refine Zd rfl rfl ?_
  refine Za (Yk _ thC _ _ _ _ _ i h) ?_;repeat first|refine Za rfl ?_|refine Zd rfl rfl ?_
  refine Zb (λh2=>?_) (λh2=>?_)
  ·have h2:s.s1.units[i].id=id:=by simpa using h2
   have hf:fnd s.s1.units id=some i:=QbS h h2 hb;simp[unitV,unitR,hn0,hf]
  ·have h2:s.s1.units[i].id≠id:=by simpa using h2
   refine Za rfl ?_;rw[Qc (n:=i) (by omega)];refine hag (i+1) _ _ (by omega) ⟨rfl,rfl,by omega,λj hj hji=>?_⟩;by_cases e:j=i
   ·subst e; exact h2
   ·exact hb j hj (by omega)
 have h:¬i<s.s1.units.length:=by simpa using h
 have hn1:fnd s.s1.units id=none:=XbS (λj hj=>hb j hj (by omega));refine Za rfl ?_;rw[w2];refine Zf ?_;refine Za rfl (Xe ?_);simp[unitV,unitR,hn0,hn1]
end Go.Ah.Tz
end
section
namespace Go.Ah.Tz
abbrev Tx:=List UInt8
inductive Nm where
 |mk (op n who:Int) (kids:List Nm)
 deriving Inhabited
inductive Cn where
 |mk (op who:Int) (name:Tx) (nums:List Nm) (kids:List Cn)
 deriving Inhabited
inductive Ef where
 |mk (op who:Int) (n:Nm) (name:Tx) (c:Cn) (thn els:List Ef)
 deriving Inhabited
def Nm.op:Nm→Int | .mk a _ _ _=>a
def Nm.n:Nm→Int | .mk _ a _ _=>a
def Nm.who:Nm→Int | .mk _ _ a _=>a
def Nm.kids:Nm→List Nm | .mk _ _ _ a=>a
def Cn.op:Cn→Int | .mk a _ _ _ _=>a
def Cn.who:Cn→Int | .mk _ a _ _ _=>a
def Cn.name:Cn→Tx | .mk _ _ a _ _=>a
def Cn.nums:Cn→List Nm | .mk _ _ _ a _=>a
def Cn.kids:Cn→List Cn | .mk _ _ _ _ a=>a
def Ef.op:Ef→Int | .mk a _ _ _ _ _ _=>a
def Ef.who:Ef→Int | .mk _ a _ _ _ _ _=>a
def Ef.n:Ef→Nm | .mk _ _ a _ _ _ _=>a
def Ef.name:Ef→Tx | .mk _ _ _ a _ _ _=>a
def Ef.c:Ef→Cn | .mk _ _ _ _ a _ _=>a
def Ef.thn:Ef→List Ef | .mk _ _ _ _ _ a _=>a
def Ef.els:Ef→List Ef | .mk _ _ _ _ _ _ a=>a
mutual
def nmC:Nm→List AVal
 |.mk op n who kids=>[iv8 op,iv n,iv8 who,.rsl false false 4 (nmsC kids)]
def nmsC:List Nm→List (List AVal)
 |[]=>[]
 |x::l=>nmC x::nmsC l
end
theorem Qcr:∀l,nmsC l=l.map nmC
 |[]=>rfl
 |x::l=>by simp[nmsC,Qcr l]
theorem Yx(x:Nm):nmC x=[iv8 x.op,iv x.n,iv8 x.who,.rsl false false 4 (x.kids.map nmC)]:=by
 cases x; simp[nmC,Qcr,Nm.op,Nm.n,Nm.who,Nm.kids]
mutual
def cnC:Cn→List AVal
 |.mk op who name nums kids=>[iv8 op,iv8 who,.str name,.rsl false false 4 (nums.map nmC),.rsl false false 5 (cnsC kids)]
def cnsC:List Cn→List (List AVal)
 |[]=>[]
 |x::l=>cnC x::cnsC l
end
theorem Xcg:∀l,cnsC l=l.map cnC
 |[]=>rfl
 |x::l=>by simp[cnsC,Xcg l]
theorem QH(x:Cn):cnC x=[iv8 x.op,iv8 x.who,.str x.name,.rsl false false 4 (x.nums.map nmC),.rsl false false 5 (x.kids.map cnC)]:=by
 cases x; simp[cnC,Xcg,Cn.op,Cn.who,Cn.name,Cn.nums,Cn.kids]
mutual
def efC:Ef→List AVal
 |.mk op who n name c thn els=>[iv8 op,iv8 who,iv8 n.op,iv n.n,iv8 n.who,.rsl false false 4 (n.kids.map nmC),.str name,iv8 c.op,iv8 c.who,.str c.name,.rsl false false 4 (c.nums.map nmC),.rsl false false 5 (c.kids.map cnC),.rsl false false 14 (efsC thn),.rsl false false 14 (efsC els)]
def efsC:List Ef→List (List AVal)
 |[]=>[]
 |x::l=>efC x::efsC l
end
theorem Qcl:∀l,efsC l=l.map efC
 |[]=>rfl
 |x::l=>by simp[efsC,Qcl l]
theorem ZI(x:Ef):efC x=[iv8 x.op,iv8 x.who,iv8 x.n.op,iv x.n.n,iv8 x.n.who,.rsl false false 4 (x.n.kids.map nmC),.str x.name,iv8 x.c.op,iv8 x.c.who,.str x.c.name,.rsl false false 4 (x.c.nums.map nmC),.rsl false false 5 (x.c.kids.map cnC),.rsl false false 14 (x.thn.map efC),.rsl false false 14 (x.els.map efC)]:=by
 cases x; simp[efC,Qcl,Ef.op,Ef.who,Ef.n,Ef.name,Ef.c,Ef.thn,Ef.els]
structure Cd where
 name:Tx
 unit:Bool
 cost:Int
 power:Int
 health:Int
 shield:Int
 aurap:Int
 aurah:Int
 played:List Ef
 dead:List Ef
 dawn:List Ef
 pl:Int
 deriving Inhabited
@[reducible] def efV(l:List Ef):AVal:=.rsl false false 14 (l.map efC)
def cdC(c:Cd):List AVal:=[.str c.name,.bool c.unit,iv c.cost,iv c.power,iv c.health,iv c.shield,iv c.aurap,iv c.aurah,efV c.played,efV c.dead,efV c.dawn,iv c.pl]
def txC(t:Tx):List AVal:=[.str t]
@[reducible] def txV(l:List Tx):AVal:=.rsl false false 1 (l.map txC)
structure Fo where
 name:Tx
 least:Int
 most:Int
 copies:Int
 banned:List Tx
 single:List Tx
 pl:Int
 deriving Inhabited
def foC(f:Fo):List AVal:=[.str f.name,iv f.least,iv f.most,iv f.copies,txV f.banned,txV f.single,iv f.pl]
structure Bk where
 cards:List Cd
 formats:List Fo
 deriving Inhabited
@[reducible] def cdV(l:List Cd):AVal:=.rsl false false 12 (l.map cdC)
@[reducible] def foV(l:List Fo):AVal:=.rsl false false 7 (l.map foC)
@[reducible] def bkV(b:Bk):AVal:=.agg [cdV b.cards,foV b.formats]
end Go.Ah.Tz
end
section
namespace Go.Ah.Tz
open Go.Proofs.Tryz (prog)
attribute [local irreducible] Ans.rd Ans.pu Ans.wr Ans.dr Ans.gr Ans.gw Ans.gl Ans.gd Ans.opt joinK W
def wIn(n:Int):Bool:=decide (-1000000≤n)&&decide (n≤1000000)
theorem c116(n:Int):PC 96 [iv n] (.bool (wIn n)):=by
 refine Yc hP g96.ok rfl rfl ?_;rw[H1.e]; unfold g96; dsimp only;refine Za rfl ?_;rcases YBE (decide (n ≥ -1000000)) with h|h
 ·rw[h];repeat first|refine Za rfl ?_|refine Zd rfl rfl ?_|refine Ya ?_|refine Xa ?_
  have h':-1000000≤n:=by simpa using h
  simp[wIn,h']
 ·rw[h];repeat first|refine Qa rfl ?_|refine Yb rfl ?_|refine Qb rfl ?_|refine Zc rfl ?_|refine Za rfl ?_|refine Zd rfl rfl ?_
  have h':¬ -1000000≤n:=by simpa using h
  simp[wIn,h']
theorem c57(n:Int):PC 78 [iv n] (.bool (wIn n)):=by
 refine Yc hP g78.ok rfl rfl ?_;rw[H1.e]; unfold g78; dsimp only;refine Za rfl ?_;rcases YBE (decide (n ≥ -1000000)) with h|h
 ·rw[h];repeat first|refine Za rfl ?_|refine Zd rfl rfl ?_|refine Ya ?_|refine Xa ?_
  have h':-1000000≤n:=by simpa using h
  simp[wIn,h']
 ·rw[h];repeat first|refine Qa rfl ?_|refine Yb rfl ?_|refine Qb rfl ?_|refine Zc rfl ?_|refine Za rfl ?_|refine Zd rfl rfl ?_
  have h':¬ -1000000≤n:=by simpa using h
  simp[wIn,h']
def Xi(n:Nat)(l:List Int)(most:Int):Bool:=decide ((l.length:Int)≤most)&&l.all λc=>decide (0≤c)&&decide (c<n)
theorem c117(b:Bk)(l:List Int)(most:Int)(hl:l.length≤1000000000):PC 145 [bkV b,rowV l,iv most] (.bool (Xi b.cards.length l most)):=by
 refine Yc hP g145.ok rfl rfl ?_;rw[H3.e]; unfold g145; dsimp only;repeat first|refine Za rfl ?_|refine Zd rfl rfl ?_|refine Ya ?_|refine Xa ?_
 refine Zb (λh=>?_) (λh=>?_)
 ·have h:most<l.length:=by simpa using h
  have h':¬(l.length:Int)≤most:=by omega
  simp[Xi,h']
 have hm:(l.length:Int)≤most:=by simpa using h
 refine Zg (ι:=Nat) (λi vs σ=>vs=[iv i]∧σ=[.box [cdV b.cards,foV b.formats]]∧i≤l.length∧∀j (hj:j<l.length),j<i→0≤l[j]∧l[j]<b.cards.length) (λi=>l.length-i) 0 ⟨rfl,rfl,by omega,λj _ h=>by omega⟩ ?_;rintro i vs σ again ⟨rfl,rfl,hi,hb⟩ hag;repeat first|refine Za rfl ?_|refine Zd rfl rfl ?_|refine Ya ?_|refine Xa ?_
 refine Zb (λh=>?_) (λh=>?_)
 ·have h:i<l.length:=by simpa using h
  refine Za (Yk _ cel _ _ _ l _ i h) ?_;repeat first|refine Za rfl ?_|refine Zd rfl rfl ?_|refine Ya ?_|refine Xa ?_
  have bad:¬(0≤l[i]∧l[i]<b.cards.length)→AVal.bool false=AVal.bool (Xi b.cards.length l most):=by
   intro hn;have:Xi b.cards.length l most=false:=by
    simp only[Xi,Bool.and_eq_false_iff];right;rw[List.all_eq_false];refine⟨l[i],List.getElem_mem h,?_⟩;simpa using hn
   rw[this]
  rcases YBE (decide (l[i]<0)) with h2|h2
  ·rw[h2];repeat first|refine Qa rfl ?_|refine Yb rfl ?_|refine Qb rfl ?_|refine Zc rfl ?_|refine Za rfl ?_|refine Zd rfl rfl ?_
   refine Xc (bad ?_);have:l[i]<0:=by simpa using h2
   omega
  rw[h2];repeat first|refine Ya ?_|refine Za rfl ?_
  refine Za (Yk _ cel _ _ _ l _ i h) ?_;repeat first|refine Za rfl ?_|refine Zd rfl rfl ?_|refine Ya ?_|refine Xa ?_
  have h2:¬l[i]<0:=by simpa using h2
  refine Zb (λh3=>?_) (λh3=>?_)
  ·refine bad ?_;have:(b.cards.length:Int)≤l[i]:=by simpa using h3
   omega
  ·have:¬(b.cards.length:Int)≤l[i]:=by simpa using h3
   refine Za rfl ?_;rw[Qc (n:=i) (by omega)];refine hag (i+1) _ _ (by omega) ⟨rfl,rfl,by omega,λj hj hji=>?_⟩;by_cases e:j=i
   ·subst e; omega
   ·exact hb j hj (by omega)
 ·have h:¬i<l.length:=by simpa using h
  have:Xi b.cards.length l most=true:=by
   simp only[Xi,Bool.and_eq_true,decide_eq_true_eq,List.all_eq_true];refine⟨hm,λx hx=>?_⟩;obtain⟨j,hj,rfl⟩:=List.getElem_of_mem hx;exact hb j hj (by omega)
  rw[this]
end Go.Ah.Tz
end
section
namespace Go.Ah.Tz
open Go.Proofs.Tryz (prog)
theorem ld{σ:List ABlk}{b j n:Nat}{agg:Bool}{row:List AVal}{v:AVal}(hb:hget σ b=.box row)(hv:partA agg j n row=some v):Qk agg n [.bptr b j] σ=.ok v [b] []:=by
 rw[QcI,hb]; simp only[hv]
theorem stv{σ:List ABlk}{b j n:Nat}{x:AVal}{cs row row':List AVal}(hb:hget σ b=.box row)(hc:cellsOf x=some cs)(hn:Nat.beq cs.length n=true)(hs:splice j cs row=some row'):ZH n [.bptr b j,x] σ=.ok .junk [] [(b,.box row')]:=by
 rw[Ycl,hb]; simp only[hc,hn,cond_true,hs]
theorem Zy{P:Program}{GL:Globs}{σ:List ABlk}{z:List AVal}{n:Nat}{x:AVal}{row row':List AVal}{K:AVal→AVal→List ABlk→Prop}(hc:cellsOf x=some row)(hn:Nat.beq row.length n=true)(hs:splice 0 row z=some row')
 (hK:K (.bptr σ.length 0) .junk (σ++[.box row'])):(W P GL).wr (XN z [] σ) σ (λt σ'=>(W P GL).wr (ZH n [t,x] σ') σ' (K t)):=by
 refine Zd (YcX σ z) (QE _ _) ?_;refine Zd (stv (Qi _ _) hc hn hs) (Zz _ (by simp)) ?_;have:(σ++[ABlk.box z]).set σ.length (.box row')=σ++[.box row']:=by
  rw[List.set_append_right _ _ (Nat.le_refl _)]; simp
 rw[this]; exact hK
def BX(σ σ':List ABlk):Prop:=∀c r,hget σ c=.box r→hget σ' c=.box r
theorem BX.trans{a b c:List ABlk}(h:BX a b)(k:BX b c):BX a c:=λx r e=>k x r (h x r e)
theorem BX.app(σ l:List ABlk):BX σ (σ++l):=λ_ _ h=>Xj l h (by simp)
theorem Grows.more{n k:Nat}{rows:List (List AVal)}{v:AVal}{σ:List ABlk}(h:Grows n rows k v σ)(l:List ABlk):Grows n rows k v (σ++l):=by
 rcases h with h|⟨h1,b,h2,h3,h4⟩
 ·exact .inl h
 ·exact .inr ⟨h1,b,h2,Xj l h3 (by simp),h4⟩
theorem Grows.len{n k:Nat}{rows:List (List AVal)}{v:AVal}{σ:List ABlk}(h:Grows n rows k v σ)(σ':List ABlk):Xo [v] σ'=.ok (.int .i64 k) [] []:=by
 rcases h with ⟨rfl,rfl,_⟩|⟨_,b,rfl,_,_⟩<;>rfl
theorem Grows.at{n k:Nat}{rows:List (List AVal)}{v:AVal}{σ:List ABlk}(h:Grows n rows k v σ)(q:IntKind)(j:Nat)(hj:j<k) :
  ∃b,Zj n [v,.int q (j:Int)] σ=.ok (.ptr b j 0) [b] []∧∃hj:j<rows.length,∀agg m w,partA agg 0 m rows[j]=some w→Qk agg m [.ptr b j 0] σ=.ok w [b] []:=by
 rcases h with ⟨rfl,rfl,_⟩|⟨_,b,rfl,hb,hl⟩
 ·omega
 ·refine⟨b,?_,by omega,λagg m w hw=>?_⟩
  ·have:=YbC σ b 0 k false n rows q j hj hb
   rwa [Nat.zero_add] at this
  ·show (match hget σ b with
   |.rows _ rs=>match nth rs j with
    |some row=>match partA agg 0 m row with
     |some v=>SRes.ok v [b] []
     |none=>.stop
    |none=>.stop
   | _=>.stop)=_
   rw[hb];simp only[X5,List.getElem?_eq_getElem (show j<rows.length by omega),hw]
theorem Grows.app'{α:Type}(A:Ans α){hold:α→Prop}{n by_ k:Nat}{rows:List (List AVal)}{v:AVal}{σ:List ABlk}{row:List AVal}(hg:Grows n rows k v σ)(hr:row.all AVal.cell=true)(hroom:(2*(k+1)+192)*by_≤2 ^ 48)(K:AVal→List ABlk→α)
 (hK:∀v' σ',BX σ σ'→Grows n (rows++[row]) (k+1) v' σ'→hold (K v' σ')):hold (A.wr (Yl n by_ [v,.sl σ.length 0 1 true] (σ++[.rows n [row]])) (σ++[.rows n [row]]) K):=by
 rcases hg with ⟨rfl,rfl,rfl⟩|⟨hk,b,rfl,hb,hl⟩
 ·rw[Yba A n by_ σ row hr (by simpa using hroom)];exact hK _ _ ((BX.app _ _).trans (BX.app _ _)) (.inr ⟨by omega,_,rfl,by have:=Qi (σ++[.rows n [row]]) (.rows n [row]); simpa using this,rfl⟩)
 ·rw[Xba A n by_ σ b k false rows row hb hl hr hroom];refine hK _ _ (BX.trans (λc r hc=>?_) ((BX.app (σ.set b .dead) _).trans (BX.app _ _))) (.inr ⟨by omega,_,rfl,?_,by simp[hl]⟩)
  ·refine Yp hc (by simp) ?_;rintro rfl;rw[hb] at hc; cases hc
  ·have:=Qi (σ.set b .dead++[.rows n [row]]) (.rows n (rows++[row]));simpa using this
theorem Qck{α:Type}(σ:List ABlk)(f:α→List AVal)(e n:Bool)(s:Nat)(l:List α)(k:IntKind)(c:Int)(h0:0≤c)(h:c.toNat<l.length):Zj s [.rsl e n s (l.map f),.int k c] σ=.ok (.rptr (f l[c.toNat]) 0) [] []:=by
 obtain⟨m,rfl⟩:=Int.eq_ofNat_of_zero_le h0;exact Yk σ f e n s l k m (by simpa using h)
def Yq(b:Bk)(next:Int)(u:Th):Bool:=decide (0≤u.card)&&(decide (u.card<b.cards.length)&&(((b.cards[u.card.toNat]?).map Cd.unit).getD false&&(decide (0≤u.harm)&&(decide (u.harm≤1000000)&&(decide (1≤u.id)&&decide (u.id<next))))))
def Zn(b:Bk)(next:Int):List Int→List Th→Bool
 |_,[]=>true
 |ids,u::l=>Yq b next u&&(!(ids.contains u.id)&&Zn b next (ids++[u.id]) l)
def Qh(n:Nat)(x:Sd):Bool:=wIn x.life&&(decide (0≤x.mana)&&(wIn x.mana&&(decide (0≤x.most)&&(decide (x.most≤10)&&(Xi n x.deck 60&&(Xi n x.hand 10&&(Xi n x.grave 1000000&&(Xi n x.told 1000000&&decide (x.units.length≤7)))))))))
def Qp(b:Bk)(s:St):Bool:=Qh b.cards.length s.s0&&(Zn b s.next [] s.s0.units&&(Qh b.cards.length s.s1&&Zn b s.next (s.s0.units.map Th.id) s.s1.units))
end Go.Ah.Tz
end
section
namespace Go.Ah.Tz
open Go.Proofs.Tryz (prog)
attribute [local irreducible] Ans.rd Ans.pu Ans.wr Ans.dr Ans.gr Ans.gw Ans.gl Ans.gd Ans.opt joinK W
set_option maxHeartbeats 2000000
theorem c68(b:Bk)(s:St)(hs:StLe 1000000000 s):PC 92 [bkV b,stV s] (.bool (Qp b s)):=by
 refine Yc hP g92.ok rfl rfl ?_;rw[H2.e]; unfold g92; dsimp only;have w1:IntKind.i64.wrap (0+1)=1:=by decide
 have w2:IntKind.i64.wrap (1+1)=2:=by decide
 repeat first|refine Za rfl ?_|refine Zd rfl rfl ?_
 have hB0:hget ([]++[ABlk.box [cdV b.cards,foV b.formats]]++[ABlk.box (stC s)]) 0=.box [cdV b.cards,foV b.formats]:=rfl;have hB1:hget ([]++[ABlk.box [cdV b.cards,foV b.formats]]++[ABlk.box (stC s)]) 1=.box (stC s):=rfl;have hg:Grows 1 (([]:List Int).map cel) 0 .nils ([]++[ABlk.box [cdV b.cards,foV b.formats]]++[ABlk.box (stC s)]):=Grows.nil _ _;generalize ([]++[ABlk.box [cdV b.cards,foV b.formats]]++[ABlk.box (stC s)]:List ABlk)=σ at hB0 hB1 hg ⊢;refine Zl 3 (Zf ?_);refine Za rfl (Xc ?_);refine Za rfl (Za rfl (Za (ld hB1 rfl) ?_));refine Zy rfl rfl rfl ?_;have hB2:hget (σ++[.box (sdC s.s0)]) σ.length=.box (sdC s.s0):=Qi _ _
 replace hB0:=Xj [.box (sdC s.s0)] hB0 (by simp)
 replace hB1:=Xj [.box (sdC s.s0)] hB1 (by simp)
 replace hg:=hg.more [.box (sdC s.s0)]
 generalize hN:σ.length=N at hB2 ⊢;clear hN;generalize (σ++[ABlk.box (sdC s.s0)]:List ABlk)=σ2 at hB0 hB1 hB2 hg ⊢;have bad:Qh b.cards.length s.s0=false→AVal.bool false=AVal.bool (Qp b s):=by intro h; simp[Qp,h]
 repeat first|refine Ya ?_|refine Xa ?_|refine Za (ld hB2 rfl) ?_|refine Za rfl ?_
 refine Xb (c116 _) rfl g96.ok.plain rfl ?_;refine Za rfl ?_;rcases YBE (!wIn s.s0.life) with a1|a1
 ·rw[a1];repeat first|refine Qa rfl ?_|refine Yb rfl ?_|refine Qb rfl ?_|refine Zc rfl ?_|refine Za rfl ?_
  refine Xc (bad ?_);simp at a1;simp[Qh,a1]
 rw[a1];repeat first|refine Ya ?_|refine Xa ?_|refine Za (ld hB2 rfl) ?_|refine Za rfl ?_
 rcases YBE (decide (s.s0.mana<0)) with a2|a2
 ·rw[a2];repeat first|refine Qa rfl ?_|refine Yb rfl ?_|refine Qb rfl ?_|refine Zc rfl ?_|refine Za rfl ?_
  refine Xc (bad ?_);simp at a2;simp[Qh,show ¬0≤s.s0.mana by omega]
 rw[a2];repeat first|refine Ya ?_|refine Xa ?_|refine Za (ld hB2 rfl) ?_|refine Za rfl ?_
 refine Xb (c116 _) rfl g96.ok.plain rfl ?_;repeat first|refine Ya ?_|refine Xa ?_|refine Za (ld hB2 rfl) ?_|refine Za rfl ?_
 rcases YBE (!wIn s.s0.mana) with a3|a3
 ·rw[a3];repeat first|refine Qa rfl ?_|refine Yb rfl ?_|refine Qb rfl ?_|refine Zc rfl ?_|refine Za rfl ?_
  refine Xc (bad ?_);simp at a3;simp[Qh,a3]
 rw[a3];repeat first|refine Ya ?_|refine Xa ?_|refine Za (ld hB2 rfl) ?_|refine Za rfl ?_
 rcases YBE (decide (s.s0.most<0)) with a4|a4
 ·rw[a4];repeat first|refine Qa rfl ?_|refine Yb rfl ?_|refine Qb rfl ?_|refine Zc rfl ?_|refine Za rfl ?_
  refine Xc (bad ?_);simp at a4;simp[Qh,show ¬0≤s.s0.most by omega]
 rw[a4];repeat first|refine Ya ?_|refine Xa ?_|refine Za (ld hB2 rfl) ?_|refine Za rfl ?_
 refine Zb (λa5=>bad ?_) (λa5=>?_)
 ·have a5:10<s.s0.most:=by simpa using a5
  simp[Qh,show ¬s.s0.most≤10 by omega]
 refine Za (ld hB0 rfl) ?_;repeat first|refine Ya ?_|refine Xa ?_|refine Za (ld hB2 rfl) ?_|refine Za rfl ?_
 refine Xb (c117 _ _ _ hs.s0.deck) rfl g145.ok.plain rfl ?_;refine Za rfl ?_;rcases YBE (!Xi b.cards.length s.s0.deck 60) with a6|a6
 ·rw[a6];repeat first|refine Qa rfl ?_|refine Yb rfl ?_|refine Qb rfl ?_|refine Zc rfl ?_|refine Za rfl ?_
  refine Xc (bad ?_);simp at a6;simp[Qh,a6]
 rw[a6];repeat first|refine Ya ?_|refine Xa ?_|refine Za (ld hB2 rfl) ?_|refine Za (ld hB0 rfl) ?_|refine Za rfl ?_
 refine Xb (c117 _ _ _ hs.s0.hand) rfl g145.ok.plain rfl ?_;repeat first|refine Ya ?_|refine Xa ?_|refine Za (ld hB2 rfl) ?_|refine Za (ld hB0 rfl) ?_|refine Za rfl ?_
 rcases YBE (!Xi b.cards.length s.s0.hand 10) with a7|a7
 ·rw[a7];repeat first|refine Qa rfl ?_|refine Yb rfl ?_|refine Qb rfl ?_|refine Zc rfl ?_|refine Za rfl ?_
  refine Xc (bad ?_);simp at a7;simp[Qh,a7]
 rw[a7];repeat first|refine Ya ?_|refine Xa ?_|refine Za (ld hB2 rfl) ?_|refine Za (ld hB0 rfl) ?_|refine Za rfl ?_
 refine Xb (c117 _ _ _ hs.s0.grave) rfl g145.ok.plain rfl ?_;repeat first|refine Ya ?_|refine Xa ?_|refine Za (ld hB2 rfl) ?_|refine Za (ld hB0 rfl) ?_|refine Za rfl ?_
 rcases YBE (!Xi b.cards.length s.s0.grave 1000000) with a8|a8
 ·rw[a8];repeat first|refine Qa rfl ?_|refine Yb rfl ?_|refine Qb rfl ?_|refine Zc rfl ?_|refine Za rfl ?_
  refine Xc (bad ?_);simp at a8;simp[Qh,a8]
 rw[a8];repeat first|refine Ya ?_|refine Xa ?_|refine Za (ld hB2 rfl) ?_|refine Za (ld hB0 rfl) ?_|refine Za rfl ?_
 refine Xb (c117 _ _ _ hs.s0.told) rfl g145.ok.plain rfl ?_;repeat first|refine Ya ?_|refine Xa ?_|refine Za (ld hB2 rfl) ?_|refine Za (ld hB0 rfl) ?_|refine Za rfl ?_
 rcases YBE (!Xi b.cards.length s.s0.told 1000000) with a9|a9
 ·rw[a9];repeat first|refine Qa rfl ?_|refine Yb rfl ?_|refine Qb rfl ?_|refine Zc rfl ?_|refine Za rfl ?_
  refine Xc (bad ?_);simp at a9;simp[Qh,a9]
 rw[a9];repeat first|refine Ya ?_|refine Xa ?_|refine Za (ld hB2 rfl) ?_|refine Za (ld hB0 rfl) ?_|refine Za rfl ?_
 refine Zb (λa10=>bad ?_) (λa10=>?_)
 ·have a10:7<s.s0.units.length:=by simp at a10; omega
  simp[Qh,show ¬s.s0.units.length≤7 by omega]
 have hds0:Qh b.cards.length s.s0=true:=by
  simp at a1 a2 a3 a4 a5 a6 a7 a8 a9 a10;simp[Qh,a1,a2,a3,a4,a5,a6,a7,a8,a9]; omega
 have a10':s.s0.units.length≤7:=by simp at a10; omega
 clear a1 a2 a3 a4 a5 a6 a7 a8 a9 a10 bad;have badu:Zn b s.next [] s.s0.units=false→AVal.bool false=AVal.bool (Qp b s):=by intro h; simp[Qp,h]
 refine Zg (ι:=Nat) (λi vs σ=>∃v,vs=[iv i,v]∧i≤s.s0.units.length∧Grows 1 (([]++(s.s0.units.take i).map Th.id).map cel) (0+i) v σ∧hget σ 0=.box [cdV b.cards,foV b.formats]∧hget σ 1=.box (stC s)∧hget σ N=.box (sdC s.s0)∧Zn b s.next [] s.s0.units=Zn b s.next ([]++(s.s0.units.take i).map Th.id) (s.s0.units.drop i)) (λi=>s.s0.units.length-i) 0 ⟨_,rfl,by omega,(by simp only[Ah.h1,hdV,tlV,List.take_zero,List.map_nil,List.append_nil,Nat.add_zero]; exact hg),hB0,hB1,hB2,by simp⟩ ?_;clear hB0 hB1 hB2 hg;rintro i vs σ3 again ⟨v,rfl,hi,hg,hB0,hB1,hB2,hu⟩ hag;repeat first|refine Ya ?_|refine Xa ?_|refine Za (ld hB2 rfl) ?_|refine Za rfl ?_
 refine Zb (λh=>?_) (λh=>?_)
 ·have h:i<s.s0.units.length:=by simpa using h
  have hdr:s.s0.units.drop i=s.s0.units[i]::s.s0.units.drop (i+1):=by rw[YLD h]
  rw[hdr] at hu;repeat first|refine Ya ?_|refine Xa ?_|refine Za (ld hB2 rfl) ?_|refine Za rfl ?_
  refine Za (Yk _ thC _ _ _ _ _ i h) ?_;refine Za rfl ?_;refine Zy rfl rfl rfl ?_;generalize hU:s.s0.units[i]=u at hu hdr;have hB3:hget (σ3++[.box (thC u)]) σ3.length=.box (thC u):=Qi _ _
  replace hB0:=Xj [.box (thC u)] hB0 (by simp)
  replace hB1:=Xj [.box (thC u)] hB1 (by simp)
  replace hB2:=Xj [.box (thC u)] hB2 (by simp)
  replace hg:=hg.more [.box (thC u)]
  generalize hN:σ3.length=N3 at hB3 ⊢;clear hN
  try simp only[AVal.cell]
  generalize hσ4:(σ3++[ABlk.box (thC u)]:List ABlk)=σ4 at hB0 hB1 hB2 hB3 hg;have hσ5:(σ3++[ABlk.box [iv u.id,iv u.card,iv u.harm,.bool u.tired]]:List ABlk)=σ4:=hσ4
  first|rw[hσ5]|rw[hσ4]|skip
  have badq:Yq b s.next u=false→AVal.bool false=AVal.bool (Qp b s):=by intro h; apply badu; rw[hu]; simp[Zn,h]
  repeat first|refine Ya ?_|refine Xa ?_|refine Za (ld hB3 rfl) ?_|refine Za (ld hB0 rfl) ?_|refine Za (ld hB1 rfl) ?_|refine Za rfl ?_
  rcases YBE (decide (u.card<0)) with q1|q1
  ·rw[q1];repeat first|refine Qa rfl ?_|refine Yb rfl ?_|refine Qb rfl ?_|refine Zc rfl ?_|refine Za rfl ?_
   refine Xc (badq ?_);simp at q1;simp[Yq,show ¬0≤u.card by omega]
  rw[q1];repeat first|refine Ya ?_|refine Xa ?_|refine Za (ld hB3 rfl) ?_|refine Za (ld hB0 rfl) ?_|refine Za (ld hB1 rfl) ?_|refine Za rfl ?_
  rcases YBE (decide (u.card ≥ (b.cards.map cdC).length)) with q2|q2
  ·rw[q2];repeat first|refine Qa rfl ?_|refine Yb rfl ?_|refine Qb rfl ?_|refine Zc rfl ?_|refine Za rfl ?_
   refine Xc (badq ?_);simp at q2;simp[Yq,show ¬u.card<b.cards.length by omega]
  rw[q2];simp at q1 q2;have hc:u.card.toNat<b.cards.length:=by omega
  have hcu:b.cards[u.card.toNat]?=some b.cards[u.card.toNat]:=by simp[hc]
  repeat first|refine Ya ?_|refine Xa ?_|refine Za (ld hB3 rfl) ?_|refine Za (ld hB0 rfl) ?_|refine Za (ld hB1 rfl) ?_|refine Za rfl ?_
  refine Za (Qck _ cdC _ _ _ _ _ _ (by omega) hc) ?_;repeat first|refine Ya ?_|refine Xa ?_|refine Za (ld hB3 rfl) ?_|refine Za (ld hB0 rfl) ?_|refine Za (ld hB1 rfl) ?_|refine Za rfl ?_
  rcases YBE (!(b.cards[u.card.toNat]).unit) with q3|q3
  ·rw[q3];repeat first|refine Qa rfl ?_|refine Yb rfl ?_|refine Qb rfl ?_|refine Zc rfl ?_|refine Za rfl ?_
   refine Xc (badq ?_);simp at q3;simp[Yq,hcu,q3]
  rw[q3];repeat first|refine Ya ?_|refine Xa ?_|refine Za (ld hB3 rfl) ?_|refine Za (ld hB0 rfl) ?_|refine Za (ld hB1 rfl) ?_|refine Za rfl ?_
  rcases YBE (decide (u.harm<0)) with q4|q4
  ·rw[q4];repeat first|refine Qa rfl ?_|refine Yb rfl ?_|refine Qb rfl ?_|refine Zc rfl ?_|refine Za rfl ?_
   refine Xc (badq ?_);simp at q4;simp[Yq,show ¬0≤u.harm by omega]
  rw[q4];repeat first|refine Ya ?_|refine Xa ?_|refine Za (ld hB3 rfl) ?_|refine Za (ld hB0 rfl) ?_|refine Za (ld hB1 rfl) ?_|refine Za rfl ?_
  rcases YBE (decide (u.harm>1000000)) with q5|q5
  ·rw[q5];repeat first|refine Qa rfl ?_|refine Yb rfl ?_|refine Qb rfl ?_|refine Zc rfl ?_|refine Za rfl ?_
   refine Xc (badq ?_);simp at q5;simp[Yq,show ¬u.harm≤1000000 by omega]
  rw[q5];repeat first|refine Ya ?_|refine Xa ?_|refine Za (ld hB3 rfl) ?_|refine Za (ld hB0 rfl) ?_|refine Za (ld hB1 rfl) ?_|refine Za rfl ?_
  rcases YBE (decide (u.id<1)) with q6|q6
  ·rw[q6];repeat first|refine Qa rfl ?_|refine Yb rfl ?_|refine Qb rfl ?_|refine Zc rfl ?_|refine Za rfl ?_
   refine Xc (badq ?_);simp at q6;simp[Yq,show ¬1≤u.id by omega]
  rw[q6];repeat first|refine Ya ?_|refine Xa ?_|refine Za (ld hB3 rfl) ?_|refine Za (ld hB0 rfl) ?_|refine Za (ld hB1 rfl) ?_|refine Za rfl ?_
  refine Zb (λq7=>badq ?_) (λq7=>?_)
  ·have q7:s.next≤u.id:=by simpa using q7
   simp[Yq,show ¬u.id<s.next by omega]
  have hok:Yq b s.next u=true:=by
   simp at q3 q4 q5 q6 q7;simp[Yq,hcu,q3]; omega
  rw[Zn,hok,Bool.true_and] at hu;generalize hids:[]++(s.s0.units.take i).map Th.id=ids at hg hu;have hkl:ids.length=0+i:=by rw[←hids]; simp[List.length_take,Nat.min_eq_left hi]
  refine Zg (ι:=Nat) (λj vs σ=>vs=[iv j]∧σ=σ4∧j≤ids.length∧∀m (hm:m<ids.length),m<j→ids[m]≠u.id) (λj=>ids.length-j) 0 ⟨rfl,rfl,by omega,λm _ h=>by omega⟩ ?_;rintro j vs σ again2 ⟨rfl,rfl,hj,hb2⟩ hag2;refine Za (hg.len _) (Za rfl ?_);refine Zb (λh2=>?_) (λh2=>?_)
  ·have h2:j<ids.length:=by rw[hkl]; simp at h2; omega
   obtain⟨bb,e1,hjl,e2⟩:=hg.at .i64 j (by omega);refine Za e1 ?_;refine Za (e2 false 1 (iv ids[j]) (by simp[cel])) ?_;repeat first|refine Ya ?_|refine Xa ?_|refine Za (ld hB3 rfl) ?_|refine Za (ld hB0 rfl) ?_|refine Za (ld hB1 rfl) ?_|refine Za rfl ?_
   refine Zb (λh3=>?_) (λh3=>?_)
   ·have h3:ids[j]=u.id:=by simpa using h3
    apply badu; rw[hu];have:u.id∈ids:=by rw[←h3]; exact List.getElem_mem h2
    simp[this]
   ·have h3:ids[j]≠u.id:=by simpa using h3
    refine Za rfl ?_;rw[Qc (n:=j) (by omega)];refine hag2 (j+1) _ _ (by omega) ⟨rfl,rfl,by omega,λm hm hmj=>?_⟩;by_cases e:m=j
    ·subst e; exact h3
    ·exact hb2 m hm (by omega)
  ·have h2:¬j<ids.length:=by rw[hkl]; simp at h2; omega
   have hno:ids.contains u.id=false:=by
    rw[List.contains_eq_mem,decide_eq_false_iff_not];intro hm;obtain⟨m,hm,e⟩:=List.getElem_of_mem hm;exact hb2 m hm (by omega) e
   rw[hno,Bool.not_false,Bool.true_and] at hu;repeat first|refine Ya ?_|refine Xa ?_|refine Za (ld hB3 rfl) ?_|refine Za (ld hB0 rfl) ?_|refine Za (ld hB1 rfl) ?_|refine Za rfl ?_
   rw[Y3 _ _ _ _ _ [iv u.id] rfl rfl];refine hg.app' _ (hold:=λp=>p) rfl (by omega) _ (λv' σ' hx hg'=>?_);refine Za rfl ?_;rw[Qc (n:=i) (by omega)];have hsn:[]++(s.s0.units.take (i+1)).map Th.id=ids++[u.id]:=by
    rw[←hids,Xu _ _ h,hU]; simp
   refine hag (i+1) _ _ (by omega) ⟨v',rfl,by omega,?_,hx _ _ hB0,hx _ _ hB1,hx _ _ hB2,?_⟩
   ·rw[hsn]; simpa[cel,Nat.add_assoc] using hg'
   ·rw[hsn]; exact hu
 have h:i=s.s0.units.length:=by simp at h; omega
 subst h;rw[List.take_length] at hg hu;have hus0:Zn b s.next [] s.s0.units=true:=by rw[hu]; simp[Zn]
 clear hag badu hu;refine Za rfl ?_;rw[w1];refine Zf ?_;simp only[List.nil_append,Nat.zero_add] at hg;generalize σ3=σ at hB0 hB1 hg ⊢;refine Za rfl (Xc ?_);refine Za rfl (Za rfl (Za (ld hB1 rfl) ?_));refine Zy rfl rfl rfl ?_;have hB2:hget (σ++[.box (sdC s.s1)]) σ.length=.box (sdC s.s1):=Qi _ _
 replace hB0:=Xj [.box (sdC s.s1)] hB0 (by simp)
 replace hB1:=Xj [.box (sdC s.s1)] hB1 (by simp)
 replace hg:=hg.more [.box (sdC s.s1)]
 generalize hN:σ.length=N at hB2 ⊢;clear hN;generalize (σ++[ABlk.box (sdC s.s1)]:List ABlk)=σ2 at hB0 hB1 hB2 hg ⊢;have bad:Qh b.cards.length s.s1=false→AVal.bool false=AVal.bool (Qp b s):=by intro h; simp[Qp,h]
 repeat first|refine Ya ?_|refine Xa ?_|refine Za (ld hB2 rfl) ?_|refine Za rfl ?_
 refine Xb (c116 _) rfl g96.ok.plain rfl ?_;refine Za rfl ?_;rcases YBE (!wIn s.s1.life) with a1|a1
 ·rw[a1];repeat first|refine Qa rfl ?_|refine Yb rfl ?_|refine Qb rfl ?_|refine Zc rfl ?_|refine Za rfl ?_
  refine Xc (bad ?_);simp at a1;simp[Qh,a1]
 rw[a1];repeat first|refine Ya ?_|refine Xa ?_|refine Za (ld hB2 rfl) ?_|refine Za rfl ?_
 rcases YBE (decide (s.s1.mana<0)) with a2|a2
 ·rw[a2];repeat first|refine Qa rfl ?_|refine Yb rfl ?_|refine Qb rfl ?_|refine Zc rfl ?_|refine Za rfl ?_
  refine Xc (bad ?_);simp at a2;simp[Qh,show ¬0≤s.s1.mana by omega]
 rw[a2];repeat first|refine Ya ?_|refine Xa ?_|refine Za (ld hB2 rfl) ?_|refine Za rfl ?_
 refine Xb (c116 _) rfl g96.ok.plain rfl ?_;repeat first|refine Ya ?_|refine Xa ?_|refine Za (ld hB2 rfl) ?_|refine Za rfl ?_
 rcases YBE (!wIn s.s1.mana) with a3|a3
 ·rw[a3];repeat first|refine Qa rfl ?_|refine Yb rfl ?_|refine Qb rfl ?_|refine Zc rfl ?_|refine Za rfl ?_
  refine Xc (bad ?_);simp at a3;simp[Qh,a3]
 rw[a3];repeat first|refine Ya ?_|refine Xa ?_|refine Za (ld hB2 rfl) ?_|refine Za rfl ?_
 rcases YBE (decide (s.s1.most<0)) with a4|a4
 ·rw[a4];repeat first|refine Qa rfl ?_|refine Yb rfl ?_|refine Qb rfl ?_|refine Zc rfl ?_|refine Za rfl ?_
  refine Xc (bad ?_);simp at a4;simp[Qh,show ¬0≤s.s1.most by omega]
 rw[a4];repeat first|refine Ya ?_|refine Xa ?_|refine Za (ld hB2 rfl) ?_|refine Za rfl ?_
 refine Zb (λa5=>bad ?_) (λa5=>?_)
 ·have a5:10<s.s1.most:=by simpa using a5
  simp[Qh,show ¬s.s1.most≤10 by omega]
 refine Za (ld hB0 rfl) ?_;repeat first|refine Ya ?_|refine Xa ?_|refine Za (ld hB2 rfl) ?_|refine Za rfl ?_
 refine Xb (c117 _ _ _ hs.s1.deck) rfl g145.ok.plain rfl ?_;refine Za rfl ?_;rcases YBE (!Xi b.cards.length s.s1.deck 60) with a6|a6
 ·rw[a6];repeat first|refine Qa rfl ?_|refine Yb rfl ?_|refine Qb rfl ?_|refine Zc rfl ?_|refine Za rfl ?_
  refine Xc (bad ?_);simp at a6;simp[Qh,a6]
 rw[a6];repeat first|refine Ya ?_|refine Xa ?_|refine Za (ld hB2 rfl) ?_|refine Za (ld hB0 rfl) ?_|refine Za rfl ?_
 refine Xb (c117 _ _ _ hs.s1.hand) rfl g145.ok.plain rfl ?_;repeat first|refine Ya ?_|refine Xa ?_|refine Za (ld hB2 rfl) ?_|refine Za (ld hB0 rfl) ?_|refine Za rfl ?_
 rcases YBE (!Xi b.cards.length s.s1.hand 10) with a7|a7
 ·rw[a7];repeat first|refine Qa rfl ?_|refine Yb rfl ?_|refine Qb rfl ?_|refine Zc rfl ?_|refine Za rfl ?_
  refine Xc (bad ?_);simp at a7;simp[Qh,a7]
 rw[a7];repeat first|refine Ya ?_|refine Xa ?_|refine Za (ld hB2 rfl) ?_|refine Za (ld hB0 rfl) ?_|refine Za rfl ?_
 refine Xb (c117 _ _ _ hs.s1.grave) rfl g145.ok.plain rfl ?_;repeat first|refine Ya ?_|refine Xa ?_|refine Za (ld hB2 rfl) ?_|refine Za (ld hB0 rfl) ?_|refine Za rfl ?_
 rcases YBE (!Xi b.cards.length s.s1.grave 1000000) with a8|a8
 ·rw[a8];repeat first|refine Qa rfl ?_|refine Yb rfl ?_|refine Qb rfl ?_|refine Zc rfl ?_|refine Za rfl ?_
  refine Xc (bad ?_);simp at a8;simp[Qh,a8]
 rw[a8];repeat first|refine Ya ?_|refine Xa ?_|refine Za (ld hB2 rfl) ?_|refine Za (ld hB0 rfl) ?_|refine Za rfl ?_
 refine Xb (c117 _ _ _ hs.s1.told) rfl g145.ok.plain rfl ?_;repeat first|refine Ya ?_|refine Xa ?_|refine Za (ld hB2 rfl) ?_|refine Za (ld hB0 rfl) ?_|refine Za rfl ?_
 rcases YBE (!Xi b.cards.length s.s1.told 1000000) with a9|a9
 ·rw[a9];repeat first|refine Qa rfl ?_|refine Yb rfl ?_|refine Qb rfl ?_|refine Zc rfl ?_|refine Za rfl ?_
  refine Xc (bad ?_);simp at a9;simp[Qh,a9]
 rw[a9];repeat first|refine Ya ?_|refine Xa ?_|refine Za (ld hB2 rfl) ?_|refine Za (ld hB0 rfl) ?_|refine Za rfl ?_
 refine Zb (λa10=>bad ?_) (λa10=>?_)
 ·have a10:7<s.s1.units.length:=by simp at a10; omega
  simp[Qh,show ¬s.s1.units.length≤7 by omega]
 have hds1:Qh b.cards.length s.s1=true:=by
  simp at a1 a2 a3 a4 a5 a6 a7 a8 a9 a10;simp[Qh,a1,a2,a3,a4,a5,a6,a7,a8,a9]; omega
 have a10':s.s1.units.length≤7:=by simp at a10; omega
 clear a1 a2 a3 a4 a5 a6 a7 a8 a9 a10 bad;have badu:Zn b s.next (s.s0.units.map Th.id) s.s1.units=false→AVal.bool false=AVal.bool (Qp b s):=by intro h; simp[Qp,h]
 refine Zg (ι:=Nat) (λi vs σ=>∃v,vs=[iv i,v]∧i≤s.s1.units.length∧Grows 1 (((s.s0.units.map Th.id)++(s.s1.units.take i).map Th.id).map cel) (s.s0.units.length+i) v σ∧hget σ 0=.box [cdV b.cards,foV b.formats]∧hget σ 1=.box (stC s)∧hget σ N=.box (sdC s.s1)∧Zn b s.next (s.s0.units.map Th.id) s.s1.units=Zn b s.next ((s.s0.units.map Th.id)++(s.s1.units.take i).map Th.id) (s.s1.units.drop i)) (λi=>s.s1.units.length-i) 0 ⟨_,rfl,by omega,(by simp only[Ah.h1,hdV,tlV,List.take_zero,List.map_nil,List.append_nil,Nat.add_zero]; exact hg),hB0,hB1,hB2,by simp⟩ ?_;clear hB0 hB1 hB2 hg;rintro i vs σ3 again ⟨v,rfl,hi,hg,hB0,hB1,hB2,hu⟩ hag;repeat first|refine Ya ?_|refine Xa ?_|refine Za (ld hB2 rfl) ?_|refine Za rfl ?_
 refine Zb (λh=>?_) (λh=>?_)
 ·have h:i<s.s1.units.length:=by simpa using h
  have hdr:s.s1.units.drop i=s.s1.units[i]::s.s1.units.drop (i+1):=by rw[YLD h]
  rw[hdr] at hu;repeat first|refine Ya ?_|refine Xa ?_|refine Za (ld hB2 rfl) ?_|refine Za rfl ?_
  refine Za (Yk _ thC _ _ _ _ _ i h) ?_;refine Za rfl ?_;refine Zy rfl rfl rfl ?_;generalize hU:s.s1.units[i]=u at hu hdr;have hB3:hget (σ3++[.box (thC u)]) σ3.length=.box (thC u):=Qi _ _
  replace hB0:=Xj [.box (thC u)] hB0 (by simp)
  replace hB1:=Xj [.box (thC u)] hB1 (by simp)
  replace hB2:=Xj [.box (thC u)] hB2 (by simp)
  replace hg:=hg.more [.box (thC u)]
  generalize hN:σ3.length=N3 at hB3 ⊢;clear hN
  try simp only[AVal.cell]
  generalize hσ4:(σ3++[ABlk.box (thC u)]:List ABlk)=σ4 at hB0 hB1 hB2 hB3 hg;have hσ5:(σ3++[ABlk.box [iv u.id,iv u.card,iv u.harm,.bool u.tired]]:List ABlk)=σ4:=hσ4
  first|rw[hσ5]|rw[hσ4]|skip
  have badq:Yq b s.next u=false→AVal.bool false=AVal.bool (Qp b s):=by intro h; apply badu; rw[hu]; simp[Zn,h]
  repeat first|refine Ya ?_|refine Xa ?_|refine Za (ld hB3 rfl) ?_|refine Za (ld hB0 rfl) ?_|refine Za (ld hB1 rfl) ?_|refine Za rfl ?_
  rcases YBE (decide (u.card<0)) with q1|q1
  ·rw[q1];repeat first|refine Qa rfl ?_|refine Yb rfl ?_|refine Qb rfl ?_|refine Zc rfl ?_|refine Za rfl ?_
   refine Xc (badq ?_);simp at q1;simp[Yq,show ¬0≤u.card by omega]
  rw[q1];repeat first|refine Ya ?_|refine Xa ?_|refine Za (ld hB3 rfl) ?_|refine Za (ld hB0 rfl) ?_|refine Za (ld hB1 rfl) ?_|refine Za rfl ?_
  rcases YBE (decide (u.card ≥ (b.cards.map cdC).length)) with q2|q2
  ·rw[q2];repeat first|refine Qa rfl ?_|refine Yb rfl ?_|refine Qb rfl ?_|refine Zc rfl ?_|refine Za rfl ?_
   refine Xc (badq ?_);simp at q2;simp[Yq,show ¬u.card<b.cards.length by omega]
  rw[q2];simp at q1 q2;have hc:u.card.toNat<b.cards.length:=by omega
  have hcu:b.cards[u.card.toNat]?=some b.cards[u.card.toNat]:=by simp[hc]
  repeat first|refine Ya ?_|refine Xa ?_|refine Za (ld hB3 rfl) ?_|refine Za (ld hB0 rfl) ?_|refine Za (ld hB1 rfl) ?_|refine Za rfl ?_
  refine Za (Qck _ cdC _ _ _ _ _ _ (by omega) hc) ?_;repeat first|refine Ya ?_|refine Xa ?_|refine Za (ld hB3 rfl) ?_|refine Za (ld hB0 rfl) ?_|refine Za (ld hB1 rfl) ?_|refine Za rfl ?_
  rcases YBE (!(b.cards[u.card.toNat]).unit) with q3|q3
  ·rw[q3];repeat first|refine Qa rfl ?_|refine Yb rfl ?_|refine Qb rfl ?_|refine Zc rfl ?_|refine Za rfl ?_
   refine Xc (badq ?_);simp at q3;simp[Yq,hcu,q3]
  rw[q3];repeat first|refine Ya ?_|refine Xa ?_|refine Za (ld hB3 rfl) ?_|refine Za (ld hB0 rfl) ?_|refine Za (ld hB1 rfl) ?_|refine Za rfl ?_
  rcases YBE (decide (u.harm<0)) with q4|q4
  ·rw[q4];repeat first|refine Qa rfl ?_|refine Yb rfl ?_|refine Qb rfl ?_|refine Zc rfl ?_|refine Za rfl ?_
   refine Xc (badq ?_);simp at q4;simp[Yq,show ¬0≤u.harm by omega]
  rw[q4];repeat first|refine Ya ?_|refine Xa ?_|refine Za (ld hB3 rfl) ?_|refine Za (ld hB0 rfl) ?_|refine Za (ld hB1 rfl) ?_|refine Za rfl ?_
  rcases YBE (decide (u.harm>1000000)) with q5|q5
  ·rw[q5];repeat first|refine Qa rfl ?_|refine Yb rfl ?_|refine Qb rfl ?_|refine Zc rfl ?_|refine Za rfl ?_
   refine Xc (badq ?_);simp at q5;simp[Yq,show ¬u.harm≤1000000 by omega]
  rw[q5];repeat first|refine Ya ?_|refine Xa ?_|refine Za (ld hB3 rfl) ?_|refine Za (ld hB0 rfl) ?_|refine Za (ld hB1 rfl) ?_|refine Za rfl ?_
  rcases YBE (decide (u.id<1)) with q6|q6
  ·rw[q6];repeat first|refine Qa rfl ?_|refine Yb rfl ?_|refine Qb rfl ?_|refine Zc rfl ?_|refine Za rfl ?_
   refine Xc (badq ?_);simp at q6;simp[Yq,show ¬1≤u.id by omega]
  rw[q6];repeat first|refine Ya ?_|refine Xa ?_|refine Za (ld hB3 rfl) ?_|refine Za (ld hB0 rfl) ?_|refine Za (ld hB1 rfl) ?_|refine Za rfl ?_
  refine Zb (λq7=>badq ?_) (λq7=>?_)
  ·have q7:s.next≤u.id:=by simpa using q7
   simp[Yq,show ¬u.id<s.next by omega]
  have hok:Yq b s.next u=true:=by
   simp at q3 q4 q5 q6 q7;simp[Yq,hcu,q3]; omega
  rw[Zn,hok,Bool.true_and] at hu;generalize hids:(s.s0.units.map Th.id)++(s.s1.units.take i).map Th.id=ids at hg hu;have hkl:ids.length=s.s0.units.length+i:=by rw[←hids]; simp[List.length_take,Nat.min_eq_left hi]
  refine Zg (ι:=Nat) (λj vs σ=>vs=[iv j]∧σ=σ4∧j≤ids.length∧∀m (hm:m<ids.length),m<j→ids[m]≠u.id) (λj=>ids.length-j) 0 ⟨rfl,rfl,by omega,λm _ h=>by omega⟩ ?_;rintro j vs σ again2 ⟨rfl,rfl,hj,hb2⟩ hag2;refine Za (hg.len _) (Za rfl ?_);refine Zb (λh2=>?_) (λh2=>?_)
  ·have h2:j<ids.length:=by rw[hkl]; simp at h2; omega
   obtain⟨bb,e1,hjl,e2⟩:=hg.at .i64 j (by omega);refine Za e1 ?_;refine Za (e2 false 1 (iv ids[j]) (by simp[cel])) ?_;repeat first|refine Ya ?_|refine Xa ?_|refine Za (ld hB3 rfl) ?_|refine Za (ld hB0 rfl) ?_|refine Za (ld hB1 rfl) ?_|refine Za rfl ?_
   refine Zb (λh3=>?_) (λh3=>?_)
   ·have h3:ids[j]=u.id:=by simpa using h3
    apply badu; rw[hu];have:u.id∈ids:=by rw[←h3]; exact List.getElem_mem h2
    simp[this]
   ·have h3:ids[j]≠u.id:=by simpa using h3
    refine Za rfl ?_;rw[Qc (n:=j) (by omega)];refine hag2 (j+1) _ _ (by omega) ⟨rfl,rfl,by omega,λm hm hmj=>?_⟩;by_cases e:m=j
    ·subst e; exact h3
    ·exact hb2 m hm (by omega)
  ·have h2:¬j<ids.length:=by rw[hkl]; simp at h2; omega
   have hno:ids.contains u.id=false:=by
    rw[List.contains_eq_mem,decide_eq_false_iff_not];intro hm;obtain⟨m,hm,e⟩:=List.getElem_of_mem hm;exact hb2 m hm (by omega) e
   rw[hno,Bool.not_false,Bool.true_and] at hu;repeat first|refine Ya ?_|refine Xa ?_|refine Za (ld hB3 rfl) ?_|refine Za (ld hB0 rfl) ?_|refine Za (ld hB1 rfl) ?_|refine Za rfl ?_
   rw[Y3 _ _ _ _ _ [iv u.id] rfl rfl];refine hg.app' _ (hold:=λp=>p) rfl (by omega) _ (λv' σ' hx hg'=>?_);refine Za rfl ?_;rw[Qc (n:=i) (by omega)];have hsn:(s.s0.units.map Th.id)++(s.s1.units.take (i+1)).map Th.id=ids++[u.id]:=by
    rw[←hids,Xu _ _ h,hU]; simp
   refine hag (i+1) _ _ (by omega) ⟨v',rfl,by omega,?_,hx _ _ hB0,hx _ _ hB1,hx _ _ hB2,?_⟩
   ·rw[hsn]; simpa[cel,Nat.add_assoc] using hg'
   ·rw[hsn]; exact hu
 have h:i=s.s1.units.length:=by simp at h; omega
 subst h;rw[List.take_length] at hg hu;have hus1:Zn b s.next (s.s0.units.map Th.id) s.s1.units=true:=by rw[hu]; simp[Zn]
 clear hag badu hu;refine Za rfl ?_;rw[w2];refine Zf ?_;refine Za rfl (Xe ?_);simp[Qp,hds0,hds1,hus0,hus1]
end Go.Ah.Tz
end
section
namespace Go.Ah.Tz
open Go.Proofs.Tryz (prog)
def attOk(s:St):List Int→List Int→Bool
 |_,[]=>true
 |prev,a::l=>((unitR s a).2.2&&decide ((unitR s a).1=s.mover))&&(!(prev.contains a)&&attOk s (prev++[a]) l)
def mayR(e:Int)(b:Bk)(s:St)(bare:Bool):Bool:=
 decide (e=0) && (decide (1≤s.turn) && (decide (s.turn≤4096) && (decide (0≤s.mover) && (decide (s.mover≤1) && (decide (0≤s.phase) && (decide (s.phase≤2) && (decide (0≤s.result) && (decide (s.result≤3) &&
 (((s.result == 0) == (s.phase != 2)) && (decide (1≤s.next) && (decide (s.next≤1000000) && (Qp b s &&
 (if s.phase≠1 then decide (s.attack.length=0) else !(decide (s.attack.length=0) && !bare) && (s.struck && (decide (s.attack.length≤7) && attOk s [] s.attack)))))))))))))))
attribute [local irreducible] Ans.rd Ans.pu Ans.wr Ans.dr Ans.gr Ans.gw Ans.gl Ans.gd Ans.opt joinK W
set_option maxHeartbeats 2000000
theorem c25(b:Bk)(s:St)(hs:StLe 1000000000 s)(bare:Bool)(e p:Int)(h67:PC 24 [bkV b] (.agg [iv e,iv p])):PC 53 [bkV b,stV s,.bool bare] (.bool (mayR e b s bare)):=by
 refine Yc hP g53.ok rfl rfl ?_;rw[H3.e]; unfold g53; dsimp only;repeat first|refine Za rfl ?_|refine Zd rfl rfl ?_
 refine Xb h67 rfl g24.ok.plain rfl ?_;repeat first|refine Za rfl ?_|refine Zd rfl rfl ?_
 rcases YBE (e != 0) with q1|q1
 ·rw[q1];repeat first|refine Qa rfl ?_|refine Yb rfl ?_|refine Qb rfl ?_|refine Zc rfl ?_|refine Za rfl ?_
  refine Xc ?_;simp at q1;simp[mayR,q1]
 rw[q1];repeat first|refine Ya ?_|refine Xa ?_|refine Za rfl ?_
 rcases YBE (decide (s.turn<1)) with q2|q2
 ·rw[q2];repeat first|refine Qa rfl ?_|refine Yb rfl ?_|refine Qb rfl ?_|refine Zc rfl ?_|refine Za rfl ?_
  refine Xc ?_
  grind [mayR]
 rw[q2];repeat first|refine Ya ?_|refine Xa ?_|refine Za rfl ?_
 rcases YBE (decide (s.turn>4096)) with q3|q3
 ·rw[q3];repeat first|refine Qa rfl ?_|refine Yb rfl ?_|refine Qb rfl ?_|refine Zc rfl ?_|refine Za rfl ?_
  refine Xc ?_
  grind [mayR]
 rw[q3];repeat first|refine Ya ?_|refine Xa ?_|refine Za rfl ?_
 rcases YBE (decide (s.mover<0)) with q4|q4
 ·rw[q4];repeat first|refine Qa rfl ?_|refine Yb rfl ?_|refine Qb rfl ?_|refine Zc rfl ?_|refine Za rfl ?_
  refine Xc ?_
  grind [mayR]
 rw[q4];repeat first|refine Ya ?_|refine Xa ?_|refine Za rfl ?_
 rcases YBE (decide (s.mover>1)) with q5|q5
 ·rw[q5];repeat first|refine Qa rfl ?_|refine Yb rfl ?_|refine Qb rfl ?_|refine Zc rfl ?_|refine Za rfl ?_
  refine Xc ?_
  grind [mayR]
 rw[q5];repeat first|refine Ya ?_|refine Xa ?_|refine Za rfl ?_
 rcases YBE (decide (s.phase<0)) with q6|q6
 ·rw[q6];repeat first|refine Qa rfl ?_|refine Yb rfl ?_|refine Qb rfl ?_|refine Zc rfl ?_|refine Za rfl ?_
  refine Xc ?_
  grind [mayR]
 rw[q6];repeat first|refine Ya ?_|refine Xa ?_|refine Za rfl ?_
 rcases YBE (decide (s.phase>2)) with q7|q7
 ·rw[q7];repeat first|refine Qa rfl ?_|refine Yb rfl ?_|refine Qb rfl ?_|refine Zc rfl ?_|refine Za rfl ?_
  refine Xc ?_
  grind [mayR]
 rw[q7];repeat first|refine Ya ?_|refine Xa ?_|refine Za rfl ?_
 rcases YBE (decide (s.result<0)) with q8|q8
 ·rw[q8];repeat first|refine Qa rfl ?_|refine Yb rfl ?_|refine Qb rfl ?_|refine Zc rfl ?_|refine Za rfl ?_
  refine Xc ?_
  grind [mayR]
 rw[q8];repeat first|refine Ya ?_|refine Xa ?_|refine Za rfl ?_
 refine Zb (λq9=>?_) (λq9=>?_)
 ·grind [mayR]
 repeat first|refine Ya ?_|refine Xa ?_|refine Za rfl ?_
 rcases YBE (!(s.result==0)==(s.phase != 2)) with q10|q10
 ·rw[q10];repeat first|refine Qa rfl ?_|refine Yb rfl ?_|refine Qb rfl ?_|refine Zc rfl ?_|refine Za rfl ?_
  refine Xc ?_;simp_all [mayR]
 rw[q10];repeat first|refine Ya ?_|refine Xa ?_|refine Za rfl ?_
 rcases YBE (decide (s.next<1)) with q11|q11
 ·rw[q11];repeat first|refine Qa rfl ?_|refine Yb rfl ?_|refine Qb rfl ?_|refine Zc rfl ?_|refine Za rfl ?_
  refine Xc ?_
  grind [mayR]
 rw[q11];repeat first|refine Ya ?_|refine Xa ?_|refine Za rfl ?_
 rcases YBE (decide (s.next>1000000)) with q12|q12
 ·rw[q12];repeat first|refine Qa rfl ?_|refine Yb rfl ?_|refine Qb rfl ?_|refine Zc rfl ?_|refine Za rfl ?_
  refine Xc ?_
  grind [mayR]
 rw[q12];repeat first|refine Ya ?_|refine Xa ?_|refine Za rfl ?_
 refine Xb (c68 b s hs) rfl g92.ok.plain rfl ?_;repeat first|refine Ya ?_|refine Za rfl ?_
 refine Zb (λq13=>?_) (λq13=>?_)
 ·grind [mayR]
 have Q1:e=0:=by simpa using q1
 have Q10:((s.result==0)==(s.phase != 2))=true:=by
  simp_all
 have Q13:Qp b s=true:=by simpa using q13
 simp at q2 q3 q4 q5 q6 q7 q8 q9 q11 q12;have hm:mayR e b s bare=(if s.phase≠1 then decide (s.attack.length=0) else !(decide (s.attack.length=0) && !bare)&&(s.struck&&(decide (s.attack.length≤7)&&attOk s [] s.attack))):=by
  simp_all [mayR]
 rw[hm];clear hm Q1 Q10 Q13 q1 q2 q3 q4 q5 q6 q7 q8 q9 q10 q11 q12 q13;repeat first|refine Za rfl ?_
 refine Zb (λh=>?_) (λh=>?_)
 ·have h:s.phase≠1:=by simpa using h
  repeat first|refine Za rfl ?_
  rw[if_pos h]
  congr 1
  rw[Bool.eq_iff_iff];simp
 have h:s.phase=1:=by simpa using h
 rw[if_neg (by simp[h])];repeat first|refine Za rfl ?_
 rcases YBE ((((s.attack.map cel).length:Nat):Int)==0) with h1|h1
 ·rw[h1];have h1:s.attack=[]:=by simpa using h1
  repeat first|refine Ya ?_|refine Za rfl ?_
  cases bare with
  |false=>
   repeat first|refine Qa rfl ?_|refine Qb rfl ?_|refine Za rfl ?_
   refine Xc ?_;simp[h1]
  |true=>
   repeat first|refine Ya ?_|refine Za rfl ?_
   rcases YBE (!s.struck) with h2|h2
   ·rw[h2];repeat first|refine Qa rfl ?_|refine Qb rfl ?_|refine Za rfl ?_
    refine Xc ?_;simp_all
   rw[h2];have h2:s.struck=true:=by simpa using h2
   repeat first|refine Ya ?_|refine Za rfl ?_
   rw[h1];refine Xe ?_;refine Zl 1 (Zf ?_);repeat first|refine Za (ld (σ:=[]++[ABlk.box [cdV b.cards,foV b.formats]]++[ABlk.box (stC s)]) (b:=1) rfl rfl) ?_|refine Za rfl ?_
   rw[h1];refine Xe ?_;simp[h2,attOk]
 rw[h1];have h1:s.attack.length≠0:=by simpa using h1
 repeat first|refine Qa rfl ?_|refine Qb rfl ?_|refine Za rfl ?_
 repeat first|refine Ya ?_|refine Za rfl ?_
 have h1':(decide (s.attack.length=0) && !bare)=false:=by simp[h1]
 rw[h1',Bool.not_false,Bool.true_and];rcases YBE (!s.struck) with h2|h2
 ·rw[h2];repeat first|refine Qa rfl ?_|refine Qb rfl ?_|refine Za rfl ?_
  refine Xc ?_;simp_all
 rw[h2];have h2:s.struck=true:=by simpa using h2
 rw[h2,Bool.true_and];repeat first|refine Ya ?_|refine Za rfl ?_
 refine Zb (λh3=>?_) (λh3=>?_)
 ·grind
 have h3:s.attack.length≤7:=by simp at h3; omega
 rw[decide_eq_true h3,Bool.true_and];have bad:attOk s [] s.attack=false→AVal.bool false=AVal.bool (attOk s [] s.attack):=λh=>by rw[h]
 generalize hB:([]++[ABlk.box [cdV b.cards,foV b.formats]]++[ABlk.box (stC s)]:List ABlk)=base;have hB1:hget base 1=.box (stC s):=by rw[←hB]; rfl
 generalize hN:([]++[ABlk.box [cdV b.cards,foV b.formats]]:List ABlk).length=N;have hN1:N=1:=by rw[←hN]; rfl
 subst hN1;clear hB hN;refine Zg (ι:=Nat) (λi vs σ=>vs=[iv i]∧σ=base∧i≤s.attack.length∧attOk s [] s.attack=attOk s (s.attack.take i) (s.attack.drop i)) (λi=>s.attack.length-i) 0 ⟨rfl,rfl,by omega,by simp⟩ ?_;rintro i vs σ again ⟨rfl,rfl,hi,hu⟩ hag;repeat first|refine Za (ld hB1 rfl) ?_|refine Za rfl ?_
 refine Zb (λh=>?_) (λh=>?_)
 ·have h:i<s.attack.length:=by simpa using h
  have hdr:s.attack.drop i=s.attack[i]::s.attack.drop (i+1):=by rw[YLD h]
  rw[hdr] at hu;refine Qe (ld hB1 rfl) (Qj _) (Yg rfl (Qe (ld hB1 rfl) (Qj _) (Qe (Yk _ cel _ _ _ _ _ i h) (Qj _) (Qe rfl (Qj _) ?_))));refine Qg (c23 s hs s.attack[i]) rfl g93.ok.plain rfl ?_;refine Yg rfl (Yg rfl (Yg rfl (XX (by kernel_rfl) ?_)));refine Za rfl ?_;generalize ha:s.attack[i]=a at hu;rcases YBE (!(unitR s a).2.2) with h4|h4
  ·rw[h4];repeat first|refine Qa rfl ?_|refine Qb rfl ?_|refine Za rfl ?_
   refine Xc (bad ?_);simp_all [attOk]
  rw[h4];repeat first|refine Ya ?_|refine Za (ld hB1 rfl) ?_|refine Za rfl ?_
  refine Zb (λh5=>bad ?_) (λh5=>?_)
  ·simp_all [attOk]
  have hone:((unitR s a).2.2&&decide ((unitR s a).1=s.mover))=true:=by
   simp_all
  rw[attOk,hone,Bool.true_and] at hu;refine Zg (ι:=Nat) (λj vs σ2=>vs=[iv j]∧σ2=σ∧j≤i∧∀m (hm:m<s.attack.length),m<j→s.attack[m]≠a) (λj=>i-j) 0 ⟨rfl,rfl,by omega,λm _ h=>by omega⟩ ?_;rintro j vs σ again2 ⟨rfl,rfl,hj,hb2⟩ hag2;refine Za rfl ?_;refine Zb (λh6=>?_) (λh6=>?_)
  ·have h6:j<i:=by simpa using h6
   repeat first|refine Za (ld hB1 rfl) ?_|refine Za (Yk _ cel _ _ _ s.attack _ j (by omega)) ?_|refine Za (Yk _ cel _ _ _ s.attack _ i h) ?_|refine Za rfl ?_
   refine Zb (λh7=>bad ?_) (λh7=>?_)
   ·have h7:s.attack[j]=a:=by rw[←ha]; simpa using h7
    have:a∈s.attack.take i:=by
     rw[List.mem_take_iff_getElem];exact⟨j,by omega,h7⟩
    rw[hu]; simp[this]
   ·have h7:s.attack[j]≠a:=by rw[←ha]; simpa using h7
    refine Za rfl ?_;rw[Qc (n:=j) (by omega)];refine hag2 (j+1) _ _ (by omega) ⟨rfl,rfl,by omega,λm hm hmj=>?_⟩
    grind
  ·have h6:¬j<i:=by simpa using h6
   have hno:(s.attack.take i).contains a=false:=by
    grind [List.mem_take_iff_getElem]
   rw[hno,Bool.not_false,Bool.true_and] at hu;refine Za rfl ?_;rw[Qc (n:=i) (by omega)];refine hag (i+1) _ _ (by omega) ⟨rfl,rfl,by omega,?_⟩;rw[Xu _ _ h,ha]; exact hu
 grind [attOk]
end Go.Ah.Tz
end
section
namespace Go.Ah.Tz
open Go.Proofs.Tryz (prog)
abbrev big:Nat:=1152921504606846975
def i8B(n:Int):Bool:=decide (-128≤n)&&decide (n≤127)
def i64B(n:Int):Bool:=decide (-9223372036854775808≤n)&&decide (n≤9223372036854775807)
theorem Xdc{n:Int}(h:i8B n=true):-128≤n∧n≤127:=by simpa[i8B] using h
mutual
def nmFit:Nm→Bool
 |.mk op n _ kids=>decide (kids.length≤big)&&(ZaU kids&&(i8B op&&i64B n))
def ZaU:List Nm→Bool
 |[]=>true
 |x::l=>nmFit x&&ZaU l
end
theorem Yaz:∀ {l:List Nm},ZaU l=true→∀x∈l,nmFit x=true
 |[],_,_,h=>by simp at h
 |y::l,h,x,hx=>by
  simp only[ZaU,Bool.and_eq_true] at h;rcases List.mem_cons.1 hx with rfl|hx
  ·exact h.1
  ·exact Yaz h.2 x hx
theorem Y5{x:Nm}(h:nmFit x=true):x.kids.length≤big:=by cases x; simp[nmFit] at h; exact h.1
theorem ZW{x k:Nm}(h:nmFit x=true)(hk:k∈x.kids):nmFit k=true:=by cases x; simp[nmFit] at h; exact Yaz h.2.1 k hk
theorem Qam{x k:Nm}(hk:k∈x.kids):SizeOf.sizeOf k<SizeOf.sizeOf x:=by
 cases x with
 |mk a b c kids=>
  have:=List.sizeOf_lt_of_mem (show k∈kids from hk);simp; omega
mutual
def cnFit:Cn→Bool
 |.mk op _ _ nums kids=>(decide (nums.length≤big)&&ZaU nums)&&(decide (kids.length≤big)&&(Za2 kids&&i8B op))
def Za2:List Cn→Bool
 |[]=>true
 |x::l=>cnFit x&&Za2 l
end
theorem Ya2:∀ {l:List Cn},Za2 l=true→∀x∈l,cnFit x=true
 |[],_,_,h=>by simp at h
 |y::l,h,x,hx=>by
  simp only[Za2,Bool.and_eq_true] at h;rcases List.mem_cons.1 hx with rfl|hx
  ·exact h.1
  ·exact Ya2 h.2 x hx
theorem YM{x:Cn}(h:cnFit x=true):x.nums.length≤big:=by cases x; simp[cnFit] at h; exact h.1.1
theorem ZM{x:Cn}(h:cnFit x=true):x.kids.length≤big:=by cases x; simp[cnFit] at h; exact h.2.1
theorem XU{x:Cn}{k:Nm}(h:cnFit x=true)(hk:k∈x.nums):nmFit k=true:=by cases x; simp[cnFit] at h; exact Yaz h.1.2 k hk
theorem YU{x k:Cn}(h:cnFit x=true)(hk:k∈x.kids):cnFit k=true:=by cases x; simp[cnFit] at h; exact Ya2 h.2.2.1 k hk
theorem Zam{x k:Cn}(hk:k∈x.kids):SizeOf.sizeOf k<SizeOf.sizeOf x:=by
 cases x with
 |mk a b c nums kids=>
  have:=List.sizeOf_lt_of_mem (show k∈kids from hk);simp; omega
mutual
def efFit:Ef→Bool
 |.mk op _ n _ c thn els=>nmFit n&&(cnFit c&&((decide (thn.length≤big)&&ZaD thn)&&((decide (els.length≤big)&&ZaD els)&&i8B op)))
def ZaD:List Ef→Bool
 |[]=>true
 |x::l=>efFit x&&ZaD l
end
theorem Yax:∀ {l:List Ef},ZaD l=true→∀x∈l,efFit x=true
 |[],_,_,h=>by simp at h
 |y::l,h,x,hx=>by
  simp only[ZaD,Bool.and_eq_true] at h;rcases List.mem_cons.1 hx with rfl|hx
  ·exact h.1
  ·exact Yax h.2 x hx
def lsFit(l:List Ef):Bool:=decide (l.length≤big)&&ZaD l
theorem Z8{x:Ef}(h:efFit x=true):nmFit x.n=true:=by cases x; simp[efFit] at h; exact h.1
theorem X0{x:Ef}(h:efFit x=true):cnFit x.c=true:=by cases x; simp[efFit] at h; exact h.2.1
theorem YJ{x:Ef}(h:efFit x=true):lsFit x.thn=true:=by cases x; simp_all [efFit,lsFit,Ef.thn]
theorem ZJ{x:Ef}(h:efFit x=true):lsFit x.els=true:=by cases x; simp_all [efFit,lsFit,Ef.els]
theorem YcJ{x:Ef}(h:efFit x=true):-128≤x.op∧x.op≤127:=by cases x; simp[efFit] at h; exact Xdc h.2.2.2.2
theorem Xz{l:List Ef}(h:lsFit l=true):l.length≤big:=by simp[lsFit] at h; exact h.1
theorem YP{l:List Ef}{x:Ef}(h:lsFit l=true)(hx:x∈l):efFit x=true:=by grind [lsFit,Yax]
theorem wrapI{n:Int}(h1:-9223372036854775808≤n)(h2:n≤9223372036854775807):IntKind.i64.wrap n=n:=IntWalk.i64_in _ ⟨h1,h2⟩
theorem nmRo(x:Nm):roL [.agg (nmC x)]=true:=by rw[Yx]; rfl
theorem nmLd(x:Nm):partA true 0 4 (nmC x)=some (.agg (nmC x)):=by rw[Yx]; rfl
theorem cnRo(x:Cn):roL [.agg (cnC x)]=true:=by rw[QH]; rfl
theorem cnLd(x:Cn):partA true 0 5 (cnC x)=some (.agg (cnC x)):=by rw[QH]; rfl
theorem ldr{σ:List ABlk}{j n:Nat}{agg:Bool}{row:List AVal}{v:AVal}(hv:partA agg j n row=some v):Qk agg n [.rptr row j] σ=.ok v [] []:=by
 rw[QaJ,hv]
mutual
def nmW:Nm→Int
 |.mk _ _ _ kids=>nmWs 1 kids
def nmWs:Int→List Nm→Int
 |n,[]=>n
 |n,x::l=>nmWs (min (n+nmW x) 1073741824) l
end
theorem YcT(x:Nm):nmW x=nmWs 1 x.kids:=by cases x; rfl
theorem ZbK:∀(l:List Nm) (n:Int),0≤n→n≤1073741824→(∀x∈l,0≤nmW x)→0≤nmWs n l∧nmWs n l≤1073741824
 |[],n,h1,h2,_=>⟨h1,h2⟩
 |x::l,n,h1,h2,h3=>by
  have:=h3 x (by simp);exact ZbK l _ (by omega) (by omega) (λy hy=>h3 y (by simp[hy]))
theorem XcT:∀(k:Nat) (x:Nm),SizeOf.sizeOf x≤k→0≤nmW x∧nmW x≤1073741824
 |0,x,h=>by cases x; simp at h
 |k+1,x,h=>by
  rw[YcT];exact ZbK _ _ (by omega) (by omega) (λy hy=>(XcT k y (by have:=Qam hy; omega)).1)
theorem Xbs(x:Nm):0≤nmW x∧nmW x≤1073741824:=XcT _ x (Nat.le_refl _)
mutual
def cnW:Cn→Int
 |.mk _ _ _ nums kids=>cnWs (nmWs 1 nums) kids
def cnWs:Int→List Cn→Int
 |n,[]=>n
 |n,x::l=>cnWs (min (n+cnW x) 1073741824) l
end
theorem XcQ(x:Cn):cnW x=cnWs (nmWs 1 x.nums) x.kids:=by cases x; rfl
theorem Ycg:∀(l:List Cn) (n:Int),0≤n→n≤1073741824→(∀x∈l,0≤cnW x)→0≤cnWs n l∧cnWs n l≤1073741824
 |[],n,h1,h2,_=>⟨h1,h2⟩
 |x::l,n,h1,h2,h3=>by
  have:=h3 x (by simp);exact Ycg l _ (by omega) (by omega) (λy hy=>h3 y (by simp[hy]))
theorem QcQ:∀(k:Nat) (x:Cn),SizeOf.sizeOf x≤k→0≤cnW x∧cnW x≤1073741824
 |0,x,h=>by cases x; simp at h
 |k+1,x,h=>by
  rw[XcQ];have h1:=ZbK x.nums 1 (by omega) (by omega) (λy _=>(Xbs y).1);exact Ycg _ _ h1.1 h1.2 (λy hy=>(QcQ k y (by have:=Zam hy; omega)).1)
theorem Zcg(x:Cn):0≤cnW x∧cnW x≤1073741824:=QcQ _ x (Nat.le_refl _)
def cntOp(op:Int):Bool:=decide (op=0)||(decide (op=1)||(decide (op=2)||(decide (op=3)||decide (op=5))))
def sdOp(w:Int):Bool:=decide (w=0)||decide (w=1)
attribute [local irreducible] Ans.rd Ans.pu Ans.wr Ans.dr Ans.gr Ans.gw Ans.gl Ans.gd Ans.opt joinK W
theorem c76':∀(k:Nat) (x:Nm),SizeOf.sizeOf x≤k→nmFit x=true→PC 226 [.agg (nmC x)] (iv (nmW x))
 |0,x,h,_=>by cases x; simp at h
 |k+1,x,hk,hf=>by
  rw[Yx];refine Yc hP g226.ok rfl rfl ?_;rw[H1.e]; unfold g226; dsimp only;refine Zd rfl rfl ?_;rw[YcT];have hlen:=Y5 hf;generalize hB:([]++[ABlk.box [iv8 x.op,iv x.n,iv8 x.who,.rsl false false 4 (x.kids.map nmC)]]:List ABlk)=base;have hB0:hget base 0=.box [iv8 x.op,iv x.n,iv8 x.who,.rsl false false 4 (x.kids.map nmC)]:=by rw[←hB]; rfl
  clear hB;refine Zg (ι:=Nat) (λi vs σ=>∃n,vs=[iv i,iv n]∧σ=base∧i≤x.kids.length∧0≤n∧n≤1073741824∧nmWs 1 x.kids=nmWs n (x.kids.drop i)) (λi=>x.kids.length-i) 0 ⟨1,rfl,rfl,by omega,by omega,by omega,by simp⟩ ?_;rintro i vs σ again ⟨n,rfl,rfl,hi,n1,n2,hu⟩ hag;repeat first|refine Za (ld hB0 rfl) ?_|refine Za rfl ?_
  refine Zb (λh=>?_) (λh=>?_)
  ·have h:i<x.kids.length:=by simpa using h
   have hdr:x.kids.drop i=x.kids[i]::x.kids.drop (i+1):=by rw[YLD h]
   rw[hdr,nmWs] at hu;have hm:x.kids[i]∈x.kids:=List.getElem_mem h;refine Za rfl (Za (ld hB0 rfl) (Za (Yk _ nmC _ _ _ x.kids _ i h) (Za (ldr (nmLd _)) ?_)));refine Xb (c76' k _ (by have:=Qam hm; omega) (ZW hf hm)) rfl g226.ok.plain (nmRo _) ?_;have:=Xbs x.kids[i];refine Za (Yf ..) (Za (Y4 ..) (Za (Yf ..) ?_));rw[Qc (n:=i) (by grind),wrapI (by omega) (by omega)];exact hag (i+1) _ _ (by omega) ⟨_,rfl,rfl,by omega,by omega,by omega,hu⟩
  ·have h:i=x.kids.length:=by simp at h; omega
   subst h;rw[List.drop_length] at hu;rw[hu]; rfl
theorem c76(x:Nm)(hf:nmFit x=true):PC 226 [.agg (nmC x)] (iv (nmW x)):=c76' _ x (Nat.le_refl _) hf
end Go.Ah.Tz
end
section
namespace Go.Ah.Tz
open Go.Proofs.Tryz (prog)
attribute [local irreducible] Ans.rd Ans.pu Ans.wr Ans.dr Ans.gr Ans.gw Ans.gl Ans.gd Ans.opt joinK W
theorem Xag{f:(List AVal→List ABlk→Prop)→Prop}{k:List AVal→List ABlk→Prop}(h:f k):joinK f k:=by unfold joinK; exact h
theorem bigE:big=1152921504606846975:=rfl
theorem efLd(x:Ef):partA true 0 14 (efC x)=some (.agg (efC x)):=by rw[ZI]; rfl
theorem efLdN(x:Ef):partA true 2 4 (efC x)=some (.agg (nmC x.n)):=by rw[ZI,Yx]; rfl
theorem efLdC(x:Ef):partA true 7 5 (efC x)=some (.agg (cnC x.c)):=by rw[ZI,QH]; rfl
theorem efLd0(x:Ef):partA false 0 1 (efC x)=some (iv8 x.op):=by rw[ZI]; rfl
theorem efLd1(x:Ef):partA false 1 1 (efC x)=some (iv8 x.who):=by rw[ZI]; rfl
theorem efLd6(x:Ef):partA false 6 1 (efC x)=some (.str x.name):=by rw[ZI]; rfl
theorem Ql(x:Ef):partA false 12 1 (efC x)=some (efV x.thn):=by rw[ZI]; rfl
theorem Zm(x:Ef):partA false 13 1 (efC x)=some (efV x.els):=by rw[ZI]; rfl
theorem c178':∀(k:Nat) (x:Cn),SizeOf.sizeOf x≤k→cnFit x=true→PC 227 [.agg (cnC x)] (iv (cnW x))
 |0,x,h,_=>by cases x; simp at h
 |k+1,x,hk,hf=>by
  rw[QH];refine Yc hP g227.ok rfl rfl ?_;rw[H1.e]; unfold g227; dsimp only;refine Zd rfl rfl ?_;rw[XcQ];have hl1:=YM hf;have hl2:=ZM hf;rw[bigE] at hl1 hl2;generalize hB:([]++[ABlk.box [iv8 x.op,iv8 x.who,.str x.name,.rsl false false 4 (x.nums.map nmC),.rsl false false 5 (x.kids.map cnC)]]:List ABlk)=base;have hB0:hget base 0=.box [iv8 x.op,iv8 x.who,.str x.name,.rsl false false 4 (x.nums.map nmC),.rsl false false 5 (x.kids.map cnC)]:=by rw[←hB]; rfl
  clear hB;refine Zg (ι:=Nat) (λi vs σ=>∃n,vs=[iv i,iv n]∧σ=base∧i≤x.nums.length∧0≤n∧n≤1073741824∧nmWs 1 x.nums=nmWs n (x.nums.drop i)) (λi=>x.nums.length-i) 0 ⟨1,rfl,rfl,by omega,by omega,by omega,by simp⟩ ?_;rintro i vs σ again ⟨n,rfl,rfl,hi,n1,n2,hu⟩ hag;repeat first|refine Za (ld hB0 rfl) ?_|refine Za rfl ?_
  refine Zb (λh=>?_) (λh=>?_)
  ·have h:i<x.nums.length:=by simpa using h
   have hdr:x.nums.drop i=x.nums[i]::x.nums.drop (i+1):=by rw[YLD h]
   rw[hdr,nmWs] at hu;have hm:x.nums[i]∈x.nums:=List.getElem_mem h;refine Za rfl (Za (ld hB0 rfl) (Za (Yk _ nmC _ _ _ x.nums _ i h) (Za (ldr (nmLd _)) ?_)));refine Xb (c76 _ (XU hf hm)) rfl g226.ok.plain (nmRo _) ?_;have:=Xbs x.nums[i];refine Za (Yf ..) (Za (Y4 ..) (Za (Yf ..) ?_));rw[Qc (n:=i) (by omega),wrapI (by omega) (by omega)];exact hag (i+1) _ _ (by omega) ⟨_,rfl,rfl,by omega,by omega,by omega,hu⟩
  have h:i=x.nums.length:=by simp at h; omega
  subst h;rw[List.drop_length,nmWs] at hu;rw[hu];clear hag hu hi;refine Zg (ι:=Nat) (λi vs s=>∃m,vs=[iv i,iv m]∧s=σ∧i≤x.kids.length∧0≤m∧m≤1073741824∧cnWs n x.kids=cnWs m (x.kids.drop i)) (λi=>x.kids.length-i) 0 ⟨n,rfl,rfl,by omega,by omega,by omega,by simp⟩ ?_;rintro i vs s again ⟨m,rfl,rfl,hi,n1,n2,hu⟩ hag;repeat first|refine Za (ld hB0 rfl) ?_|refine Za rfl ?_
  refine Zb (λh=>?_) (λh=>?_)
  ·have h:i<x.kids.length:=by simpa using h
   have hdr:x.kids.drop i=x.kids[i]::x.kids.drop (i+1):=by rw[YLD h]
   rw[hdr,cnWs] at hu;have hm:x.kids[i]∈x.kids:=List.getElem_mem h;refine Za rfl (Za (ld hB0 rfl) (Za (Yk _ cnC _ _ _ x.kids _ i h) (Za (ldr (cnLd _)) ?_)));refine Xb (c178' k _ (by have:=Zam hm; omega) (YU hf hm)) rfl g227.ok.plain (cnRo _) ?_;have:=Zcg x.kids[i];refine Za (Yf ..) (Za (Y4 ..) (Za (Yf ..) ?_));rw[Qc (n:=i) (by omega),wrapI (by omega) (by omega)];exact hag (i+1) _ _ (by omega) ⟨_,rfl,rfl,by omega,by omega,by omega,hu⟩
  ·have h:i=x.kids.length:=by simp at h; omega
   subst h;rw[List.drop_length] at hu;rw[hu]; rfl
theorem c178(x:Cn)(hf:cnFit x=true):PC 227 [.agg (cnC x)] (iv (cnW x)):=c178' _ x (Nat.le_refl _) hf
theorem c121(w:Int):PC 200 [iv8 w] (.bool (sdOp w)):=by
 refine Yc hP g200.ok rfl rfl ?_;rw[H1.e]; unfold g200; dsimp only;refine Za rfl ?_;rcases YBE (w==0) with h1|h1
 ·rw[h1];repeat first|refine Qa rfl ?_|refine Yb rfl ?_|refine Qb rfl ?_|refine Zc rfl ?_|refine Za rfl ?_
  simp at h1; simp[sdOp,h1]
 rw[h1];repeat first|refine Ya ?_|refine Xa ?_|refine Za rfl ?_
 have h1:w≠0:=by simpa using h1
 exact congrArg AVal.bool (by rw[Bool.eq_iff_iff]; simp[sdOp,h1])
theorem c130(w:Int):PC 197 [iv8 w] (.bool (cntOp w)):=by
 refine Yc hP g197.ok rfl rfl ?_;rw[H1.e]; unfold g197; dsimp only;refine Za rfl ?_;rcases YBE (w==0) with h0|h0
 ·rw[h0];repeat first|refine Qa rfl ?_|refine Yb rfl ?_|refine Qb rfl ?_|refine Zc rfl ?_|refine Za rfl ?_
  simp at h0; simp[cntOp,h0]
 rw[h0];repeat first|refine Ya ?_|refine Xa ?_|refine Za rfl ?_
 rcases YBE (w==1) with h1|h1
 ·rw[h1];repeat first|refine Qa rfl ?_|refine Yb rfl ?_|refine Qb rfl ?_|refine Zc rfl ?_|refine Za rfl ?_
  simp at h1; simp[cntOp,h1]
 rw[h1];repeat first|refine Ya ?_|refine Xa ?_|refine Za rfl ?_
 rcases YBE (w==2) with h2|h2
 ·rw[h2];repeat first|refine Qa rfl ?_|refine Yb rfl ?_|refine Qb rfl ?_|refine Zc rfl ?_|refine Za rfl ?_
  simp at h2; simp[cntOp,h2]
 rw[h2];repeat first|refine Ya ?_|refine Xa ?_|refine Za rfl ?_
 rcases YBE (w==3) with h3|h3
 ·rw[h3];repeat first|refine Qa rfl ?_|refine Yb rfl ?_|refine Qb rfl ?_|refine Zc rfl ?_|refine Za rfl ?_
  simp at h3; simp[cntOp,h3]
 rw[h3];repeat first|refine Ya ?_|refine Xa ?_|refine Za rfl ?_
 simp at h0 h1 h2 h3;exact congrArg AVal.bool (by rw[Bool.eq_iff_iff]; simp[cntOp,h0,h1,h2,h3])
mutual
def efsW:Int→List Ef→Int
 |n,[]=>n
 |n,x::l=>efsW (efW n x) l
def efW:Int→Ef→Int
 |n0,.mk op _ nn _ c thn els=>
  if op=8 then min ((if cntOp op then min (min (n0+1) 1073741824+nmW nn) 1073741824 else min (n0+1) 1073741824)+cnW c+efsW 0 thn+efsW 0 els) 1073741824 else (if cntOp op then min (min (n0+1) 1073741824+nmW nn) 1073741824 else min (n0+1) 1073741824)
end
theorem Ybo(n:Int)(x:Ef):efW n x=if x.op=8 then min ((if cntOp x.op then min (min (n+1) 1073741824+nmW x.n) 1073741824 else min (n+1) 1073741824)+cnW x.c+efsW 0 x.thn+efsW 0 x.els) 1073741824 else (if cntOp x.op then min (min (n+1) 1073741824+nmW x.n) 1073741824 else min (n+1) 1073741824):=by
 cases x; rfl
theorem XaK:∀(k:Nat) (l:List Ef) (n:Int),SizeOf.sizeOf l≤k→0≤n→n≤1073741824→0≤efsW n l∧efsW n l≤1073741824
 |0,l,n,h,_,_=>by cases l<;>simp at h
 |k+1,[],n,_,h1,h2=>⟨h1,h2⟩
 |k+1,x::l,n,h,h1,h2=>by
  simp only[List.cons.sizeOf_spec] at h;have hx:SizeOf.sizeOf x.thn<SizeOf.sizeOf x∧SizeOf.sizeOf x.els<SizeOf.sizeOf x:=by
   cases x; simp[Ef.thn,Ef.els]; omega
  have q1:=XaK k x.thn 0 (by omega) (by omega) (by omega);have q2:=XaK k x.els 0 (by omega) (by omega) (by omega);have q3:=Xbs x.n;have q4:=Zcg x.c;have q5:0≤efW n x∧efW n x≤1073741824:=by
   rw[Ybo]; split<;>split<;>omega
  rw[efsW];exact XaK k l _ (by omega) q5.1 q5.2
theorem YaQ(l:List Ef):0≤efsW 0 l∧efsW 0 l≤1073741824:=XaK _ l 0 (Nat.le_refl _) (by omega) (by omega)
theorem XY(x:Ef):SizeOf.sizeOf x.thn<SizeOf.sizeOf x∧SizeOf.sizeOf x.els<SizeOf.sizeOf x:=by
 cases x; simp[Ef.thn,Ef.els]; omega
theorem c142':∀(k:Nat) (l:List Ef),SizeOf.sizeOf l≤k→lsFit l=true→PC 193 [efV l] (iv (efsW 0 l))
  |0,l,h,_=>by cases l<;>simp at h
  |k+1,l,hk,hf=>by
    refine Yc hP g193.ok rfl rfl ?_;rw[H1.e]; unfold g193; dsimp only;have hlen:=Xz hf;rw[bigE] at hlen;refine Zg (ι:=Nat) (λi vs σ=>∃n,vs=[iv i,iv n]∧i≤l.length∧0≤n∧n≤1073741824∧efsW 0 l=efsW n (l.drop i)) (λi=>l.length-i) 0 ⟨0,rfl,by omega,by omega,by omega,by simp⟩ ?_;rintro i vs σ again ⟨n,rfl,hi,n1,n2,hu⟩ hag;refine Za rfl (Za rfl ?_);refine Zb (λh=>?_) (λh=>?_)
    · have h:i<l.length:=by simpa using h
      have hdr:l.drop i=l[i]::l.drop (i+1):=by rw[YLD h]
      rw[hdr,efsW] at hu;have hm:l[i]∈l:=List.getElem_mem h;have hsz:=List.sizeOf_lt_of_mem hm;have hfx:=YP hf hm;have ix:=λ(s:List ABlk)=>Yk s efC false false 14 l .i64 i h;generalize l[i]=x at hu hsz hfx ix;refine Xag (Za (Yf ..) (Za (Y4 ..) (Za (ix _) (Za rfl (Za (ldr (efLd0 x)) ?_)))));refine Xb (c130 _) rfl g197.ok.plain rfl ?_;have b1:=Xbs x.n;have b2:=Zcg x.c;have b3:=YaQ x.thn;have b4:=YaQ x.els;rw[wrapI (n:=n+1) (by omega) (by omega)];have fin:∀m:Int,0≤m→m≤1073741824→efW n x=m→again [iv ((i+1:Nat):Int),iv m] σ:=by
        intro m m1 m2 e;exact hag (i+1) _ _ (by omega) ⟨m,rfl,by omega,m1,m2,by rw[hu,e]⟩
      refine Xag ?_;refine Zb (λhc=>?_) (λhc=>?_)
      all_goals
        first
        | (refine Za (ix _) (Za rfl (Za (ldr (efLdN x)) ?_))
           refine Xb (c76 _ (Z8 hfx)) rfl g226.ok.plain (nmRo _) ?_;refine Za (Yf ..) (Za (Y4 ..) ?_);rw[wrapI (n:=min (n + 1) 1073741824 + nmW x.n) (by omega) (by omega)])
        |skip
      · have hm2:(if cntOp x.op then min (min (n+1) 1073741824+nmW x.n) 1073741824 else min (n+1) 1073741824)=min (min (n+1) 1073741824+nmW x.n) 1073741824:=by rw[if_pos hc]
        obtain⟨m,hm⟩:∃m,m=min (min (n+1) 1073741824+nmW x.n) 1073741824:=⟨_,rfl⟩;rw[←hm]
        replace hm2:=hm2.trans hm.symm
        have m1:0≤m∧m≤1073741824:=by omega
        refine Za (ix _) (Za rfl (Za (ldr (efLd0 x)) (Za rfl ?_)));refine Zb (λh8=>?_) (λh8=>?_)
        · have h8:x.op=8:=by simpa using h8
          refine Qe (ix _) (Qj _) (Yg rfl (Qe (ldr (efLdC x)) (Qj _) ?_));refine Qg (c178 _ (X0 hfx)) rfl g227.ok.plain (cnRo _) ?_;refine Yg (Yf ..) (Qe (ix _) (Qj _) (Yg rfl (Qe (ldr (Ql x)) (Qj _) ?_)));have hs2:=XY x;refine Qg (c142' k _ (by omega) (YJ hfx)) rfl g193.ok.plain rfl ?_;refine Yg (Yf ..) (Qe (ix _) (Qj _) (Yg rfl (Qe (ldr (Zm x)) (Qj _) ?_)));refine Qg (c142' k _ (by omega) (ZJ hfx)) rfl g193.ok.plain rfl ?_;refine Yg (Yf ..) (Yg (Y4 ..) (XX (by kernel_rfl) (Za (Yf ..) ?_)));rw[Qc (n:=i) (by omega),wrapI (n:=m+cnW x.c) (by omega) (by omega),wrapI (n:=m+cnW x.c+efsW 0 x.thn) (by omega) (by omega),wrapI (n:=m+cnW x.c+efsW 0 x.thn+efsW 0 x.els) (by omega) (by omega)];exact fin _ (by omega) (by omega) (by rw[Ybo,if_pos h8,hm2])
        · have h8:x.op≠8:=by simpa using h8
          refine Za (Yf ..) ?_;rw[Qc (n:=i) (by omega)];simp_all [Ybo]
      · have hm2:(if cntOp x.op then min (min (n+1) 1073741824+nmW x.n) 1073741824 else min (n+1) 1073741824)=min (n+1) 1073741824:=by rw[if_neg (by simpa using hc)]
        obtain⟨m,hm⟩:∃m,m=min (n+1) 1073741824:=⟨_,rfl⟩;rw[←hm]
        replace hm2:=hm2.trans hm.symm
        have m1:0≤m∧m≤1073741824:=by omega
        refine Za (ix _) (Za rfl (Za (ldr (efLd0 x)) (Za rfl ?_)));refine Zb (λh8=>?_) (λh8=>?_)
        · have h8:x.op=8:=by simpa using h8
          refine Qe (ix _) (Qj _) (Yg rfl (Qe (ldr (efLdC x)) (Qj _) ?_));refine Qg (c178 _ (X0 hfx)) rfl g227.ok.plain (cnRo _) ?_;refine Yg (Yf ..) (Qe (ix _) (Qj _) (Yg rfl (Qe (ldr (Ql x)) (Qj _) ?_)));have hs2:=XY x;refine Qg (c142' k _ (by omega) (YJ hfx)) rfl g193.ok.plain rfl ?_;refine Yg (Yf ..) (Qe (ix _) (Qj _) (Yg rfl (Qe (ldr (Zm x)) (Qj _) ?_)));refine Qg (c142' k _ (by omega) (ZJ hfx)) rfl g193.ok.plain rfl ?_;refine Yg (Yf ..) (Yg (Y4 ..) (XX (by kernel_rfl) (Za (Yf ..) ?_)));rw[Qc (n:=i) (by omega),wrapI (n:=m+cnW x.c) (by omega) (by omega),wrapI (n:=m+cnW x.c+efsW 0 x.thn) (by omega) (by omega),wrapI (n:=m+cnW x.c+efsW 0 x.thn+efsW 0 x.els) (by omega) (by omega)];exact fin _ (by omega) (by omega) (by rw[Ybo,if_pos h8,hm2])
        · have h8:x.op≠8:=by simpa using h8
          refine Za (Yf ..) ?_;rw[Qc (n:=i) (by omega)];simp_all [Ybo]
    · have h:i=l.length:=by simp at h; omega
      subst h;rw[List.drop_length] at hu;rw[hu]; rfl
theorem c142(l:List Ef)(hf:lsFit l=true):PC 193 [efV l] (iv (efsW 0 l)):=c142' _ l (Nat.le_refl _) hf
end Go.Ah.Tz
end
section
namespace Go.Ah.Tz
open Go.Proofs.Tryz (prog)
def noNum(x:Nm):Bool:=decide (x.op=0)&&(decide (x.n=0)&&(decide (x.who=0)&&decide (x.kids.length=0)))
def noCond(x:Cn):Bool:=decide (x.op=0)&&(decide (x.who=0)&&(x.name==[]&&(decide (x.nums.length=0)&&decide (x.kids.length=0))))
def findC:List Cd→Tx→Bool→Bool
 |[],_,_=>false
 |c::l,t,u=>if c.name==t then c.unit || !u else findC l t u
def chk(cs:List Cd)(t:Bool):List AVal:=[cdV cs,.bool t]
attribute [local irreducible] Ans.rd Ans.pu Ans.wr Ans.dr Ans.gr Ans.gw Ans.gl Ans.gd Ans.opt joinK W
theorem Yh{f:(List AVal→List ABlk→Prop)→Prop}{k:List AVal→List ABlk→Prop}(h:∀k',k'=k→f k'):joinK f k:=Xag (h k rfl)
theorem c110(c:Cd)(h1:lsFit c.played=true)(h2:lsFit c.dead=true)(h3:lsFit c.dawn=true):PC 136 [.agg (cdC c)] (iv (min (efsW 0 c.played+efsW 0 c.dead+efsW 0 c.dawn) 1073741824)):=by
 refine Yc hP g136.ok rfl rfl ?_;rw[H1.e]; unfold g136; dsimp only;refine Zd rfl rfl (Yg rfl (Qe rfl rfl ?_));refine Qg (c142 _ h1) rfl g193.ok.plain rfl ?_;refine Yg rfl (Qe rfl rfl ?_);refine Qg (c142 _ h2) rfl g193.ok.plain rfl ?_;refine Yg (Yf ..) (Yg rfl (Qe rfl rfl ?_));refine Qg (c142 _ h3) rfl g193.ok.plain rfl ?_;refine Yg (Yf ..) (Yg (Y4 ..) (XX (by kernel_rfl) ?_));have b1:=YaQ c.played;have b2:=YaQ c.dead;have b3:=YaQ c.dawn;rw[wrapI (n:=efsW 0 c.played+efsW 0 c.dead) (by omega) (by omega),wrapI (by omega) (by omega)]
theorem c225(x:Nm):PC 194 [.agg (nmC x)] (.bool (noNum x)):=by
 rw[Yx];refine Yc hP g194.ok rfl rfl ?_;rw[H1.e]; unfold g194; dsimp only;refine Zd rfl rfl ?_;refine Za rfl (Za rfl (Za (Yd ..) ?_));rcases YBE (decide (x.op=0)) with h1|h1
 rotate_left
 ·rw[h1];repeat first|refine Qa rfl ?_|refine Yb rfl ?_|refine Qb rfl ?_|refine Zc rfl ?_|refine Za rfl ?_
  simp at h1; simp[noNum,h1]
 rw[h1];repeat first|refine Ya ?_|refine Xa ?_|refine Za (Yd ..) ?_|refine Za (Xd ..) ?_|refine Za rfl ?_
 rcases YBE (decide (x.n=0)) with h2|h2
 rotate_left
 ·rw[h2];repeat first|refine Qa rfl ?_|refine Yb rfl ?_|refine Qb rfl ?_|refine Zc rfl ?_|refine Za rfl ?_
  simp at h2; simp[noNum,h2]
 rw[h2];repeat first|refine Ya ?_|refine Xa ?_|refine Za (Yd ..) ?_|refine Za (Xd ..) ?_|refine Za rfl ?_
 rcases YBE (decide (x.who=0)) with h3|h3
 rotate_left
 ·rw[h3];repeat first|refine Qa rfl ?_|refine Yb rfl ?_|refine Qb rfl ?_|refine Zc rfl ?_|refine Za rfl ?_
  simp at h3; simp[noNum,h3]
 rw[h3];repeat first|refine Ya ?_|refine Xa ?_|refine Za (Yd ..) ?_|refine Za (Xd ..) ?_|refine Za rfl ?_
 simp at h1 h2 h3;simp[noNum,h1,h2,h3]
theorem c227(x:Cn):PC 196 [.agg (cnC x)] (.bool (noCond x)):=by
 rw[QH];refine Yc hP g196.ok rfl rfl ?_;rw[H1.e]; unfold g196; dsimp only;refine Zd rfl rfl ?_;refine Za rfl (Za rfl (Za (Yd ..) ?_));rcases YBE (decide (x.op=0)) with h1|h1
 rotate_left
 ·rw[h1];repeat first|refine Qa rfl ?_|refine Yb rfl ?_|refine Qb rfl ?_|refine Zc rfl ?_|refine Za rfl ?_
  simp at h1; simp[noCond,h1]
 rw[h1];repeat first|refine Ya ?_|refine Xa ?_|refine Za (Yd ..) ?_|refine Za (Xd ..) ?_|refine Za rfl ?_
 rcases YBE (decide (x.who=0)) with h2|h2
 rotate_left
 ·rw[h2];repeat first|refine Qa rfl ?_|refine Yb rfl ?_|refine Qb rfl ?_|refine Zc rfl ?_|refine Za rfl ?_
  simp at h2; simp[noCond,h2]
 rw[h2];repeat first|refine Ya ?_|refine Xa ?_|refine Za (Yd ..) ?_|refine Za (Xd ..) ?_|refine Za rfl ?_
 rcases YBE (x.name==[]) with h3|h3
 rotate_left
 ·rw[h3];repeat first|refine Qa rfl ?_|refine Yb rfl ?_|refine Qb rfl ?_|refine Zc rfl ?_|refine Za rfl ?_
  simp at h3; simp[noCond,h3]
 rw[h3];repeat first|refine Ya ?_|refine Xa ?_|refine Za (Yd ..) ?_|refine Za (Xd ..) ?_|refine Za rfl ?_
 rcases YBE (decide (((x.nums.map nmC).length:Int)=0)) with h4|h4
 rotate_left
 ·rw[h4];repeat first|refine Qa rfl ?_|refine Yb rfl ?_|refine Qb rfl ?_|refine Zc rfl ?_|refine Za rfl ?_
  simp at h4; simp[noCond,h4]
 rw[h4];repeat first|refine Ya ?_|refine Xa ?_|refine Za (Yd ..) ?_|refine Za (Xd ..) ?_|refine Za rfl ?_
 simp at h1 h2 h3 h4;simp[noCond,h1,h2,h3,h4]
theorem c187(n:Int):PC 135 [iv n] (.bool (decide (0≤n)&&decide (n≤999))):=by
 refine Yc hP g135.ok rfl rfl ?_;rw[H1.e]; unfold g135; dsimp only;refine Za rfl ?_;rcases YBE (decide (n ≥ 0)) with h|h
 ·rw[h];repeat first|refine Za rfl ?_|refine Zd rfl rfl ?_|refine Ya ?_|refine Xa ?_
  have h':0≤n:=by simpa using h
  simp[h']
 ·rw[h];repeat first|refine Qa rfl ?_|refine Yb rfl ?_|refine Qb rfl ?_|refine Zc rfl ?_|refine Za rfl ?_|refine Zd rfl rfl ?_
  have h':¬0≤n:=by simpa using h
  simp[h']
theorem cdLd0(x:Cd):partA false 0 1 (cdC x)=some (.str x.name):=rfl
theorem cdLd1(x:Cd):partA false 1 1 (cdC x)=some (.bool x.unit):=rfl
theorem c228(cs:List Cd)(hc:cs.length≤big)(t:Bool)(nm:Tx)(u:Bool):PC 199 [.rptr (chk cs t) 0,.str nm,.bool u] (.bool (findC cs nm u)):=by
 refine Yc hP g199.ok rfl rfl ?_;rw[H3.e]; unfold g199; dsimp only;rw[bigE] at hc;refine Zg (ι:=Nat) (λi vs σ=>vs=[iv i]∧i≤cs.length∧findC cs nm u=findC (cs.drop i) nm u) (λi=>cs.length-i) 0 ⟨rfl,by omega,by simp⟩ ?_;rintro i vs σ again ⟨rfl,hi,hu⟩ hag;repeat first|refine Za (ldr (row:=chk cs t) rfl) ?_|refine Za rfl ?_
 refine Zb (λh=>?_) (λh=>?_)
 ·have h:i<cs.length:=by simpa using h
  have hdr:cs.drop i=cs[i]::cs.drop (i+1):=by rw[YLD h]
  rw[hdr,findC] at hu;have ix:=λ(s:List ABlk)=>Yk s cdC false false 12 cs .i64 i h;generalize cs[i]=c at hu ix;refine Za rfl (Za rfl (Za (ldr (row:=chk cs t) rfl) (Za (ix _) (Za rfl (Za (ldr (cdLd0 c)) (Za (Xd ..) ?_))))));refine Zb (λh=>?_) (λh=>?_)
  ·rw[if_pos h] at hu;refine Za rfl (Za rfl (Za (ldr (row:=chk cs t) rfl) (Za (ix _) (Za rfl (Za (ldr (cdLd1 c)) ?_)))));rw[hu];cases c.unit<;>repeat (first|refine Ya ?_|refine Qa rfl ?_|refine Qb rfl ?_|refine Za rfl ?_)
   ·simp
   ·simp
  ·rw[if_neg (by simpa using h)] at hu;refine Za (Yf ..) ?_;rw[Qc (n:=i) (by omega)];exact hag (i+1) _ _ (by omega) ⟨rfl,by omega,hu⟩
 ·have h:i=cs.length:=by simp at h; omega
  subst h;rw[List.drop_length] at hu;rw[hu]; rfl
end Go.Ah.Tz
end
section
namespace Go.Ah.Tz
open Go.Proofs.Tryz (prog)
def nmK(op:Int):Nat:=if 8≤op∧op≤12 then 2 else 0
def nmTop(t:Bool)(op n who:Int)(len:Nat):Bool:=
 (decide (0≤op)&&(decide (op≤12)&&decide (len=nmK op)))
def nmEnd(t:Bool)(op n who:Int):Bool:=
 if op=0 then decide (0≤n)&&(decide (n≤999)&&decide (who=0)) else decide (n=0)&&(if 1≤op∧op≤4 then sdOp who else decide (who=0)&&(decide (op≠7)||t))
mutual
def nmOk (t:Bool):Nm→Bool
 |.mk op n who kids=>nmTop t op n who kids.length&&(nmsOk t kids&&nmEnd t op n who)
def nmsOk (t:Bool):List Nm→Bool
 |[]=>true
 |x::l=>nmOk t x&&nmsOk t l
end
theorem Ycr(t:Bool)(x:Nm):nmOk t x=(nmTop t x.op x.n x.who x.kids.length&&(nmsOk t x.kids&&nmEnd t x.op x.n x.who)):=by cases x; rfl
def cnK3(op:Int):Nat:=if 0≤op∧op≤2 then 2 else 0
def cnK4(op:Int):Nat:=if op=4∨op=5 then 2 else if op=3 then 1 else 0
def cnTop(op:Int)(l3 l4:Nat):Bool:=decide (0≤op)&&(decide (op≤6)&&(decide (l3=cnK3 op)&&decide (l4=cnK4 op)))
def cnEnd(cs:List Cd)(op who:Int)(name:Tx):Bool:=if op=6 then sdOp who&&findC cs name false else decide (who=0)&&name==[]
mutual
def cnOk (cs:List Cd) (t:Bool):Cn→Bool
 |.mk op who name nums kids=>cnTop op nums.length kids.length&&(nmsOk t nums&&(cnsOk cs t kids&&cnEnd cs op who name))
def cnsOk (cs:List Cd) (t:Bool):List Cn→Bool
 |[]=>true
 |x::l=>cnOk cs t x&&cnsOk cs t l
end
theorem Qcf(cs:List Cd)(t:Bool)(x:Cn):cnOk cs t x=(cnTop x.op x.nums.length x.kids.length&&(nmsOk t x.nums&&(cnsOk cs t x.kids&&cnEnd cs x.op x.who x.name))):=by cases x; rfl
attribute [local irreducible] Ans.rd Ans.pu Ans.wr Ans.dr Ans.gr Ans.gw Ans.gl Ans.gd Ans.opt joinK W
theorem c77u(u:AVal)(t:Bool):∀(k:Nat) (x:Nm),SizeOf.sizeOf x≤k→nmFit x=true→PC 198 [.rptr ([u,.bool t]) 0,.agg (nmC x)] (.bool (nmOk t x))
 |0,x,h,_=>by cases x; simp at h
 |k+1,x,hk,hf=>by
  rw[Yx];refine Yc hP g198.ok rfl rfl ?_;rw[H2.e]; unfold g198; dsimp only;refine Zd rfl rfl ?_;rw[Ycr];have hlen:=Y5 hf;rw[bigE] at hlen;generalize hB:([]++[ABlk.box [iv8 x.op,iv x.n,iv8 x.who,.rsl false false 4 (x.kids.map nmC)]]:List ABlk)=base;have hB0:hget base 0=.box [iv8 x.op,iv x.n,iv8 x.who,.rsl false false 4 (x.kids.map nmC)]:=by rw[←hB]; rfl
  clear hB;repeat first|refine Za (ld hB0 rfl) ?_|refine Za rfl ?_
  have pick:∀K:AVal→Prop,K (.bool (decide (8≤x.op)&&decide (x.op≤12))) →
    VV.gr (.bool (decide (x.op ≥ 8))) true (λk=>VV.rd (Ye 0 [.bptr 0 0] base) k) λt11_4=>
    VV.gr (.bool (decide (x.op ≥ 8))) true (λk=>VV.rd (Qk false 1 [t11_4] base) k) λt12_5=>
    VV.gr (.bool (decide (x.op ≥ 8))) true (λk=>VV.rd (Yn .leq false [t12_5,(.int .i8 12)] base) k) λt13_6=>
    VV.rd (Zk [.bool (decide (x.op ≥ 8)),t13_6,(.bool false)] base) K:=by
   intro K hK;rcases YBE (decide (x.op ≥ 8)) with h|h
   rotate_left
   ·rw[h];repeat first|refine Qa rfl ?_|refine Yb rfl ?_|refine Qb rfl ?_|refine Zc rfl ?_|refine Za rfl ?_
    simp_all
   rw[h];repeat first|refine Ya ?_|refine Xa ?_|refine Za (ld hB0 rfl) ?_|refine Za (Yd ..) ?_|refine Za (Xd ..) ?_|refine Za rfl ?_
   simp_all
  refine pick _ ?_;clear pick;refine Yh λkj hkj=>?_;have kk:kj [iv (nmK x.op)] base:=by
   rw[hkj]; clear hkj kj;repeat first|refine Za (ld hB0 rfl) ?_|refine Za rfl ?_
   have bad1:¬(0≤x.op∧x.op≤12∧x.kids.length=nmK x.op)→AVal.bool false=AVal.bool (nmTop t x.op x.n x.who x.kids.length&&(nmsOk t x.kids&&nmEnd t x.op x.n x.who)):=by
    simp_all [nmTop]
   rcases YBE (decide (x.op<0)) with h1|h1
   ·rw[h1];repeat first|refine Qa rfl ?_|refine Yb rfl ?_|refine Qb rfl ?_|refine Zc rfl ?_|refine Za rfl ?_
    refine Xc (bad1 ?_);simp at h1; omega
   rw[h1];repeat first|refine Ya ?_|refine Xa ?_|refine Za (ld hB0 rfl) ?_|refine Za (Yd ..) ?_|refine Za (Xd ..) ?_|refine Za rfl ?_
   rcases YBE (decide (x.op>12)) with h2|h2
   ·rw[h2];repeat first|refine Qa rfl ?_|refine Yb rfl ?_|refine Qb rfl ?_|refine Zc rfl ?_|refine Za rfl ?_
    refine Xc (bad1 ?_);simp at h2; omega
   rw[h2];repeat first|refine Ya ?_|refine Xa ?_|refine Za (ld hB0 rfl) ?_|refine Za (Yd ..) ?_|refine Za (Xd ..) ?_|refine Za rfl ?_
   refine Zb (λh3=>bad1 ?_) (λh3=>?_)
   ·simp at h3; omega
   simp at h1 h2 h3;have ht:nmTop t x.op x.n x.who x.kids.length=true:=by simp[nmTop]; omega
   rw[ht,Bool.true_and];refine Zg (ι:=Nat) (λi vs σ=>vs=[iv i]∧σ=base∧i≤x.kids.length∧nmsOk t x.kids=nmsOk t (x.kids.drop i)) (λi=>x.kids.length-i) 0 ⟨rfl,rfl,by omega,by simp⟩ ?_;rintro i vs σ again ⟨rfl,rfl,hi,hu⟩ hag;repeat first|refine Za (ld hB0 rfl) ?_|refine Za rfl ?_
   refine Zb (λh=>?_) (λh=>?_)
   ·have h:i<x.kids.length:=by simpa using h
    have hdr:x.kids.drop i=x.kids[i]::x.kids.drop (i+1):=by rw[YLD h]
    rw[hdr,nmsOk] at hu;have hm:x.kids[i]∈x.kids:=List.getElem_mem h;refine Za rfl (Za (ld hB0 rfl) (Za (Yk _ nmC _ _ _ x.kids _ i h) (Za (ldr (nmLd _)) ?_)));refine Xb (c77u u t k _ (by have:=Qam hm; omega) (ZW hf hm)) rfl g198.ok.plain (by rw[Yx]; rfl) ?_;refine Za rfl ?_;refine Zb (λh4=>?_) (λh4=>?_)
    ·simp_all
    ·have h4:nmOk t x.kids[i]=true:=by simpa using h4
     rw[h4,Bool.true_and] at hu;refine Za (Yf ..) ?_;rw[Qc (n:=i) (by omega)]
     grind
   have h:i=x.kids.length:=by simp at h; omega
   subst h;rw[List.drop_length,nmsOk] at hu;rw[hu,Bool.true_and];clear hag hu hi bad1 ht;refine Za rfl (Za (ld hB0 rfl) (Za (Yd ..) ?_));refine Zb (λh5=>?_) (λh5=>?_)
   ·have h5:x.op=0:=by simpa using h5
    repeat first|refine Za (ld hB0 rfl) ?_|refine Za rfl ?_
    rcases YBE (decide (x.n ≥ 0)) with h6|h6
    rotate_left
    ·rw[h6];repeat first|refine Qa rfl ?_|refine Yb rfl ?_|refine Qb rfl ?_|refine Zc rfl ?_|refine Za rfl ?_
     simp[h6,nmEnd,h5]
    rw[h6];repeat first|refine Ya ?_|refine Xa ?_|refine Za (ld hB0 rfl) ?_|refine Za (Yd ..) ?_|refine Za (Xd ..) ?_|refine Za rfl ?_
    rcases YBE (decide (x.n≤999)) with h7|h7
    rotate_left
    ·rw[h7];repeat first|refine Qa rfl ?_|refine Yb rfl ?_|refine Qb rfl ?_|refine Zc rfl ?_|refine Za rfl ?_
     simp[h7,nmEnd,h5]
    rw[h7];repeat first|refine Ya ?_|refine Xa ?_|refine Za (ld hB0 rfl) ?_|refine Za (Yd ..) ?_|refine Za (Xd ..) ?_|refine Za rfl ?_
    simp[h6,h7,nmEnd,h5]
   have h5:x.op≠0:=by simpa using h5
   repeat first|refine Za (ld hB0 rfl) ?_|refine Za rfl ?_
   refine Zb (λh6=>?_) (λh6=>?_)
   ·simp_all [nmEnd]
   have h6:x.n=0:=by simpa using h6
   repeat first|refine Za (ld hB0 rfl) ?_|refine Za rfl ?_
   have op1:1≤x.op:=by omega
   have op1d:decide (x.op ≥ 1)=true:=by simpa using op1
   rw[op1d];repeat first|refine Ya ?_|refine Xa ?_|refine Za (ld hB0 rfl) ?_|refine Za (Yd ..) ?_|refine Za (Xd ..) ?_|refine Za rfl ?_
   refine Zb (λh7=>?_) (λh7=>?_)
   ·have h7:x.op≤4:=by simpa using h7
    refine Za rfl (Za (ld hB0 rfl) ?_);refine Xb (c121 _) rfl g200.ok.plain rfl ?_;simp[nmEnd,h5,h6,h7,op1]
   have h7:¬x.op≤4:=by simpa using h7
   refine Za rfl (Za (ld hB0 rfl) (Za (Yd ..) ?_));rcases YBE (decide (x.who=0)) with h8|h8
   rotate_left
   ·rw[h8];repeat first|refine Qa rfl ?_|refine Yb rfl ?_|refine Qb rfl ?_|refine Zc rfl ?_|refine Za rfl ?_
    simp[h8,nmEnd,h7]
   rw[h8];repeat first|refine Ya ?_|refine Xa ?_|refine Za (ld hB0 rfl) ?_|refine Za (Yd ..) ?_|refine Za (Xd ..) ?_|refine Za rfl ?_
   have h8:x.who=0:=by simpa using h8
   rcases YBE (x.op != 7) with h9|h9
   ·rw[h9];repeat first|refine Qa rfl ?_|refine Yb rfl ?_|refine Qb rfl ?_|refine Zc rfl ?_|refine Za rfl ?_
    have h9:x.op≠7:=by simpa using h9
    simp[nmEnd,h5,h6,h7,h8,h9]
   rw[h9];repeat first|refine Ya ?_|refine Za (ldr (row:=[u,.bool t]) rfl) ?_|refine Za rfl ?_
   simp_all [nmEnd]
  refine Zb (λh=>?_) (λh=>?_)
  ·have e:nmK x.op=2:=by simp at h; simp[nmK,h]
   rw[e] at kk; exact kk
  ·have e:nmK x.op=0:=by simp at h; simp[nmK]; omega
   rw[e] at kk; exact kk
theorem c77(cs:List Cd)(t:Bool)(x:Nm)(hf:nmFit x=true):PC 198 [.rptr (chk cs t) 0,.agg (nmC x)] (.bool (nmOk t x)):=c77u (cdV cs) t _ x (Nat.le_refl _) hf
end Go.Ah.Tz
end
section
namespace Go.Ah.Tz
open Go.Proofs.Tryz (prog)
attribute [local irreducible] Ans.rd Ans.pu Ans.wr Ans.dr Ans.gr Ans.gw Ans.gl Ans.gd Ans.opt joinK W
theorem cnRo2(cs:List Cd)(t:Bool)(x:Cn):roL [.rptr (chk cs t) 0,.agg (cnC x)]=true:=by rw[QH]; rfl
theorem nmRo2(cs:List Cd)(t:Bool)(x:Nm):roL [.rptr (chk cs t) 0,.agg (nmC x)]=true:=by rw[Yx]; rfl
theorem c226'(cs:List Cd)(hcs:cs.length≤big)(t:Bool):∀(k:Nat) (x:Cn),SizeOf.sizeOf x≤k→cnFit x=true→PC 195 [.rptr (chk cs t) 0,.agg (cnC x)] (.bool (cnOk cs t x))
 |0,x,h,_=>by cases x; simp at h
 |k+1,x,hk,hf=>by
  rw[QH];refine Yc hP g195.ok rfl rfl ?_;rw[H2.e]; unfold g195; dsimp only;refine Zd rfl rfl ?_;rw[Qcf];have hl1:=YM hf;have hl2:=ZM hf;rw[bigE] at hl1 hl2;generalize hB:([]++[ABlk.box [iv8 x.op,iv8 x.who,.str x.name,.rsl false false 4 (x.nums.map nmC),.rsl false false 5 (x.kids.map cnC)]]:List ABlk)=base;have hB0:hget base 0=.box [iv8 x.op,iv8 x.who,.str x.name,.rsl false false 4 (x.nums.map nmC),.rsl false false 5 (x.kids.map cnC)]:=by rw[←hB]; rfl
  clear hB;repeat first|refine Za (ld hB0 rfl) ?_|refine Za rfl ?_
  have pick:∀K:AVal→Prop,K (.bool (decide (0≤x.op)&&decide (x.op≤2))) →
    VV.gr (.bool (decide (x.op ≥ 0))) true (λk=>VV.rd (Ye 0 [.bptr 0 0] base) k) λt13_4=>
    VV.gr (.bool (decide (x.op ≥ 0))) true (λk=>VV.rd (Qk false 1 [t13_4] base) k) λt14_5=>
    VV.gr (.bool (decide (x.op ≥ 0))) true (λk=>VV.rd (Yn .leq false [t14_5,(.int .i8 2)] base) k) λt15_6=>
    VV.rd (Zk [.bool (decide (x.op ≥ 0)),t15_6,(.bool false)] base) K:=by
   intro K hK;rcases YBE (decide (x.op ≥ 0)) with h|h
   rotate_left
   ·rw[h];repeat first|refine Qa rfl ?_|refine Yb rfl ?_|refine Qb rfl ?_|refine Zc rfl ?_|refine Za rfl ?_
    simp_all
   rw[h];repeat first|refine Ya ?_|refine Xa ?_|refine Za (ld hB0 rfl) ?_|refine Za (Yd ..) ?_|refine Za (Xd ..) ?_|refine Za rfl ?_
   simp_all
  refine pick _ ?_;clear pick;refine Yh λkj hkj=>?_;have kk:kj [iv (cnK3 x.op)] base:=by
   rw[hkj]; clear hkj kj;repeat first|refine Za (ld hB0 rfl) ?_|refine Za (Yd ..) ?_|refine Za (Xd ..) ?_|refine Za rfl ?_
   refine Yh λkj hkj=>?_;have kk:kj [iv (if x.op=3 then 1 else 0:Nat)] base:=by
    rw[hkj]; clear hkj kj;repeat first|refine Za (ld hB0 rfl) ?_|refine Za (Yd ..) ?_|refine Za (Xd ..) ?_|refine Za rfl ?_
    have pick:∀K:AVal→Prop,K (.bool (decide (x.op=4∨x.op=5))) →
      VV.gr (.bool (decide (x.op=4))) false (λk=>VV.rd (Ye 0 [.bptr 0 0] base) k) λt24_18=>
      VV.gr (.bool (decide (x.op=4))) false (λk=>VV.rd (Qk false 1 [t24_18] base) k) λt25_19=>
      VV.gr (.bool (decide (x.op=4))) false (λk=>VV.rd (Yn .eql false [t25_19,(.int .i8 5)] base) k) λt26_20=>
      VV.rd (Zk [.bool (decide (x.op=4)),(.bool true),t26_20] base) K:=by
     intro K hK;rcases YBE (decide (x.op=4)) with h|h
     ·rw[h];repeat first|refine Qa rfl ?_|refine Yb rfl ?_|refine Qb rfl ?_|refine Zc rfl ?_|refine Za rfl ?_
      simp_all
     rw[h];repeat first|refine Ya ?_|refine Xa ?_|refine Za (ld hB0 rfl) ?_|refine Za (Yd ..) ?_|refine Za (Xd ..) ?_|refine Za rfl ?_
     simp_all
    refine pick _ ?_;clear pick;refine Yh λkj hkj=>?_;have kk:kj [iv (cnK4 x.op)] base:=by
     rw[hkj]; clear hkj kj;repeat first|refine Za (ld hB0 rfl) ?_|refine Za (Yd ..) ?_|refine Za (Xd ..) ?_|refine Za rfl ?_
     have bad1:¬(0≤x.op∧x.op≤6∧x.nums.length=cnK3 x.op∧x.kids.length=cnK4 x.op)→AVal.bool false=AVal.bool (cnTop x.op x.nums.length x.kids.length&&(nmsOk t x.nums&&(cnsOk cs t x.kids&&cnEnd cs x.op x.who x.name))):=by
      simp_all [cnTop]
     rcases YBE (decide (x.op<0)) with h1|h1
     ·rw[h1];repeat first|refine Qa rfl ?_|refine Yb rfl ?_|refine Qb rfl ?_|refine Zc rfl ?_|refine Za rfl ?_
      refine Xc (bad1 ?_);simp at h1; omega
     rw[h1];repeat first|refine Ya ?_|refine Xa ?_|refine Za (ld hB0 rfl) ?_|refine Za (Yd ..) ?_|refine Za (Xd ..) ?_|refine Za rfl ?_
     rcases YBE (decide (x.op>6)) with h2|h2
     ·rw[h2];repeat first|refine Qa rfl ?_|refine Yb rfl ?_|refine Qb rfl ?_|refine Zc rfl ?_|refine Za rfl ?_
      refine Xc (bad1 ?_);simp at h2; omega
     rw[h2];repeat first|refine Ya ?_|refine Xa ?_|refine Za (ld hB0 rfl) ?_|refine Za (Yd ..) ?_|refine Za (Xd ..) ?_|refine Za rfl ?_
     rcases YBE (((x.nums.map nmC).length:Int) != (cnK3 x.op:Int)) with h3|h3
     ·rw[h3];repeat first|refine Qa rfl ?_|refine Yb rfl ?_|refine Qb rfl ?_|refine Zc rfl ?_|refine Za rfl ?_
      refine Xc (bad1 ?_);simp at h3; omega
     rw[h3];repeat first|refine Ya ?_|refine Xa ?_|refine Za (ld hB0 rfl) ?_|refine Za (Yd ..) ?_|refine Za (Xd ..) ?_|refine Za rfl ?_
     refine Zb (λh4=>bad1 ?_) (λh4=>?_)
     ·simp at h4; omega
     simp at h1 h2 h3 h4;have ht:cnTop x.op x.nums.length x.kids.length=true:=by simp[cnTop]; omega
     rw[ht,Bool.true_and];refine Zg (ι:=Nat) (λi vs σ=>vs=[iv i]∧σ=base∧i≤x.nums.length∧nmsOk t x.nums=nmsOk t (x.nums.drop i)) (λi=>x.nums.length-i) 0 ⟨rfl,rfl,by omega,by simp⟩ ?_;rintro i vs σ again ⟨rfl,rfl,hi,hu⟩ hag;repeat first|refine Za (ld hB0 rfl) ?_|refine Za rfl ?_
     refine Zb (λh=>?_) (λh=>?_)
     ·have h:i<x.nums.length:=by simpa using h
      have hdr:x.nums.drop i=x.nums[i]::x.nums.drop (i+1):=by rw[YLD h]
      rw[hdr,nmsOk] at hu;have hm:x.nums[i]∈x.nums:=List.getElem_mem h;refine Za rfl (Za (ld hB0 rfl) (Za (Yk _ nmC _ _ _ x.nums _ i h) (Za (ldr (nmLd _)) ?_)));refine Xb (c77 cs t _ (XU hf hm)) rfl g198.ok.plain (nmRo2 ..) ?_;refine Za rfl ?_;refine Zb (λh4=>?_) (λh4=>?_)
      ·simp_all
      ·have h4:nmOk t x.nums[i]=true:=by simpa using h4
       rw[h4,Bool.true_and] at hu;refine Za (Yf ..) ?_;rw[Qc (n:=i) (by omega)]
       grind
     have h:i=x.nums.length:=by simp at h; omega
     subst h;rw[List.drop_length,nmsOk] at hu;rw[hu,Bool.true_and];clear hag hu hi bad1 ht;refine Zg (ι:=Nat) (λi vs s=>vs=[iv i]∧s=σ∧i≤x.kids.length∧cnsOk cs t x.kids=cnsOk cs t (x.kids.drop i)) (λi=>x.kids.length-i) 0 ⟨rfl,rfl,by omega,by simp⟩ ?_;rintro i vs s again ⟨rfl,rfl,hi,hu⟩ hag;repeat first|refine Za (ld hB0 rfl) ?_|refine Za rfl ?_
     refine Zb (λh=>?_) (λh=>?_)
     ·have h:i<x.kids.length:=by simpa using h
      have hdr:x.kids.drop i=x.kids[i]::x.kids.drop (i+1):=by rw[YLD h]
      rw[hdr,cnsOk] at hu;have hm:x.kids[i]∈x.kids:=List.getElem_mem h;refine Za rfl (Za (ld hB0 rfl) (Za (Yk _ cnC _ _ _ x.kids _ i h) (Za (ldr (cnLd _)) ?_)));refine Xb (c226' cs hcs t k _ (by have:=Zam hm; omega) (YU hf hm)) rfl g195.ok.plain (cnRo2 ..) ?_;refine Za rfl ?_;refine Zb (λh4=>?_) (λh4=>?_)
      ·simp_all
      ·have h4:cnOk cs t x.kids[i]=true:=by simpa using h4
       rw[h4,Bool.true_and] at hu;refine Za (Yf ..) ?_;rw[Qc (n:=i) (by omega)]
       grind
     have h:i=x.kids.length:=by simp at h; omega
     subst h;rw[List.drop_length,cnsOk] at hu;rw[hu,Bool.true_and];clear hag hu hi;repeat first|refine Za (ld hB0 rfl) ?_|refine Za (Yd ..) ?_|refine Za (Xd ..) ?_|refine Za rfl ?_
     refine Zb (λh5=>?_) (λh5=>?_)
     ·have h5:x.op=6:=by simpa using h5
      refine Za rfl (Za (ld hB0 rfl) ?_);refine Xb (c121 _) rfl g200.ok.plain rfl ?_;rcases YBE (sdOp x.who) with h6|h6
      rotate_left
      ·rw[h6];repeat first|refine Qa rfl ?_|refine Yb rfl ?_|refine Qb rfl ?_|refine Zc rfl ?_|refine Za rfl ?_
       simp[cnEnd,h5,h6]
      rw[h6];repeat first|refine Ya ?_|refine Xa ?_|refine Za (ld hB0 rfl) ?_|refine Za (Yd ..) ?_|refine Za (Xd ..) ?_|refine Za rfl ?_
      refine Xb (c228 cs hcs t _ _) rfl g199.ok.plain rfl ?_;repeat first|refine Ya ?_|refine Xa ?_|refine Za (ld hB0 rfl) ?_|refine Za (Yd ..) ?_|refine Za (Xd ..) ?_|refine Za rfl ?_
      simp[cnEnd,h5,h6]
     have h5:x.op≠6:=by simpa using h5
     repeat first|refine Za (ld hB0 rfl) ?_|refine Za (Yd ..) ?_|refine Za (Xd ..) ?_|refine Za rfl ?_
     rcases YBE (decide (x.who=0)) with h6|h6
     rotate_left
     ·rw[h6];repeat first|refine Qa rfl ?_|refine Yb rfl ?_|refine Qb rfl ?_|refine Zc rfl ?_|refine Za rfl ?_
      simp[h6,cnEnd,h5]
     rw[h6];repeat first|refine Ya ?_|refine Xa ?_|refine Za (ld hB0 rfl) ?_|refine Za (Yd ..) ?_|refine Za (Xd ..) ?_|refine Za rfl ?_
     simp[h6,cnEnd,h5]
    refine Zb (λh=>?_) (λh=>?_)
    ·have e:cnK4 x.op=2:=by simp at h; simp[cnK4]; omega
     rw[e] at kk; exact kk
    ·have e:cnK4 x.op=if x.op=3 then 1 else 0:=by simp at h; simp[cnK4]; omega
     rw[e] at kk; exact kk
   refine Zb (λh=>?_) (λh=>?_)
   ·rw[if_pos (by simpa using h)] at kk; exact kk
   ·rw[if_neg (by simpa using h)] at kk; exact kk
  refine Zb (λh=>?_) (λh=>?_)
  ·have e:cnK3 x.op=2:=by simp at h; simp[cnK3,h]
   rw[e] at kk; exact kk
  ·have e:cnK3 x.op=0:=by simp at h; simp[cnK3]; omega
   rw[e] at kk; exact kk
theorem c226(cs:List Cd)(hcs:cs.length≤big)(t:Bool)(x:Cn)(hf:cnFit x=true):PC 195 [.rptr (chk cs t) 0,.agg (cnC x)] (.bool (cnOk cs t x)):=c226' cs hcs t _ x (Nat.le_refl _) hf
end Go.Ah.Tz
end
section
namespace Go.Ah.Tz
open Go.Proofs.Tryz (prog)
def efMid(t:Bool)(op who:Int):Bool:=if op=0∨op=1 then sdOp who||(decide (who=2)&&t) else decide (who=0)
def efEnd(t:Bool)(op who:Int):Bool:=
 if op=2∨op=4∨op=6 then sdOp who else efMid t op who
mutual
def efOk (cs:List Cd) (t:Bool):Int→Ef→Bool
 | d,.mk op who n name c thn els=>decide (0≤op) && (decide (op≤8) && (if op=8 then
   decide (who=0)&&(noNum n&&(name==[]&&(cnOk cs t c&&((decide (thn.length≤16)&&(decide (d+1≤8)&&efsOk cs t (d+1) thn))&&(decide (els.length≤16)&&(decide (d+1≤8)&&efsOk cs t (d+1) els))))))
  else noCond c && (decide (thn.length=0) && (decide (els.length=0) && ((if cntOp op then nmOk t n else noNum n) && ((if op=7 then findC cs name true else name == []) && efEnd t op who))))))
def efsOk (cs:List Cd) (t:Bool):Int→List Ef→Bool
 |_,[]=>true
 |d,x::l=>efOk cs t d x&&efsOk cs t d l
end
def lstOk(cs:List Cd)(t:Bool)(d:Int)(l:List Ef):Bool:=decide (l.length≤16)&&(decide (d≤8)&&efsOk cs t d l)
theorem Xcl(cs:List Cd)(t:Bool)(d:Int)(x:Ef):efOk cs t d x=(decide (0≤x.op) && (decide (x.op≤8) && (if x.op=8 then
   decide (x.who=0)&&(noNum x.n&&(x.name==[]&&(cnOk cs t x.c&&(lstOk cs t (d+1) x.thn&&lstOk cs t (d+1) x.els))))
  else noCond x.c && (decide (x.thn.length=0) && (decide (x.els.length=0) && ((if cntOp x.op then nmOk t x.n else noNum x.n) && ((if x.op=7 then findC cs x.name true else x.name == []) && efEnd t x.op x.who))))))):=by cases x; rfl
attribute [local irreducible] Ans.rd Ans.pu Ans.wr Ans.dr Ans.gr Ans.gw Ans.gl Ans.gd Ans.opt joinK W
theorem cutF(F:Prop){R G:Prop}(imp:(F→R)→G)(r:F→R):G:=imp r
set_option maxHeartbeats 1000000
theorem c188'(cs:List Cd)(hcs:cs.length≤big)(t:Bool):∀(k:Nat) (l:List Ef) (d:Int),SizeOf.sizeOf l≤k→lsFit l=true→0≤d→PC 137 [.rptr (chk cs t) 0,efV l,iv d] (.bool (lstOk cs t d l))
 |0,l,_,h,_,_=>by cases l<;>simp at h
 |k+1,l,d,hk,hf,hd=>by
  refine Yc hP g137.ok rfl rfl ?_;rw[H3.e]; unfold g137; dsimp only;have hlen:=Xz hf;rw[bigE] at hlen;refine Za rfl (Za rfl ?_);rcases YBE (decide (((l.map efC).length:Int)>16)) with h1|h1
  ·rw[h1];repeat first|refine Qa rfl ?_|refine Yb rfl ?_|refine Qb rfl ?_|refine Zc rfl ?_|refine Za rfl ?_
   refine Xc ?_;have h1:¬l.length≤16:=by simp at h1; omega
   simp[lstOk,h1]
  rw[h1];repeat first|refine Ya ?_|refine Xa ?_|refine Za rfl ?_
  refine Zb (λh2=>?_) (λh2=>?_)
  ·have h2:¬d≤8:=by simp at h2; omega
   simp[lstOk,h2]
  have h1:l.length≤16:=by simp at h1; omega
  have h2:d≤8:=by simp at h2; omega
  have hl:lstOk cs t d l=efsOk cs t d l:=by simp[lstOk,h1,h2]
  rw[hl];clear hl;refine Zg (ι:=Nat) (λi vs σ=>vs=[iv i]∧i≤l.length∧efsOk cs t d l=efsOk cs t d (l.drop i)) (λi=>l.length-i) 0 ⟨rfl,by omega,by simp⟩ ?_;rintro i vs σ again ⟨rfl,hi,hu⟩ hag;refine Za rfl (Za rfl ?_);refine Zb (λh=>?_) (λh=>?_);rotate_left
  ·have h:i=l.length:=by simp at h; omega
   subst h;rw[List.drop_length,efsOk] at hu;rw[hu]
  have h:i<l.length:=by simpa using h
  have hdr:l.drop i=l[i]::l.drop (i+1):=by rw[YLD h]
  rw[hdr,efsOk] at hu;have hm:l[i]∈l:=List.getElem_mem h;have hsz:=List.sizeOf_lt_of_mem hm;have hfx:=YP hf hm;have ix:=λ(s:List ABlk)=>Yk s efC false false 14 l .i64 i h;generalize l[i]=x at hu hsz hfx ix;refine Yh λkj hkj=>?_;have kk:efOk cs t d x=true→∀s,kj [] s:=by
   intro he s;rw[hkj];refine Za (Yf ..) ?_;rw[Qc (n:=i) (by omega)];exact hag (i+1) _ _ (by omega) ⟨rfl,by omega,by rw[hu,he,Bool.true_and]⟩
  have bad:efOk cs t d x=false→AVal.bool false=AVal.bool (efsOk cs t d l):=by
   intro he; rw[hu,he]; rfl
  clear hkj hag;refine Za (ix _) (Za (ldr (efLd x)) ?_);refine Zy (row:=[iv8 x.op,iv8 x.who,iv8 x.n.op,iv x.n.n,iv8 x.n.who,.rsl false false 4 (x.n.kids.map nmC),.str x.name,iv8 x.c.op,iv8 x.c.who,.str x.c.name,.rsl false false 4 (x.c.nums.map nmC),.rsl false false 5 (x.c.kids.map cnC),.rsl false false 14 (x.thn.map efC),.rsl false false 14 (x.els.map efC)]) (row':=[iv8 x.op,iv8 x.who,iv8 x.n.op,iv x.n.n,iv8 x.n.who,.rsl false false 4 (x.n.kids.map nmC),.str x.name,iv8 x.c.op,iv8 x.c.who,.str x.c.name,.rsl false false 4 (x.c.nums.map nmC),.rsl false false 5 (x.c.kids.map cnC),.rsl false false 14 (x.thn.map efC),.rsl false false 14 (x.els.map efC)]) (by rw[ZI]; rfl) rfl rfl ?_;have hB0:=Qi σ (ABlk.box [iv8 x.op,iv8 x.who,iv8 x.n.op,iv x.n.n,iv8 x.n.who,.rsl false false 4 (x.n.kids.map nmC),.str x.name,iv8 x.c.op,iv8 x.c.who,.str x.c.name,.rsl false false 4 (x.c.nums.map nmC),.rsl false false 5 (x.c.kids.map cnC),.rsl false false 14 (x.thn.map efC),.rsl false false 14 (x.els.map efC)]);generalize σ++[ABlk.box [iv8 x.op,iv8 x.who,iv8 x.n.op,iv x.n.n,iv8 x.n.who,.rsl false false 4 (x.n.kids.map nmC),.str x.name,iv8 x.c.op,iv8 x.c.who,.str x.c.name,.rsl false false 4 (x.c.nums.map nmC),.rsl false false 5 (x.c.kids.map cnC),.rsl false false 14 (x.thn.map efC),.rsl false false 14 (x.els.map efC)]]=base at hB0 ⊢;generalize σ.length=b at hB0 ⊢;have hN:Qk true 4 [.bptr b 2] base=.ok (.agg (nmC x.n)) [b] []:=ld hB0 (by rw[Yx]; rfl);have hC:Qk true 5 [.bptr b 7] base=.ok (.agg (cnC x.c)) [b] []:=ld hB0 (by rw[QH]; rfl);rw[Xcl] at kk bad;repeat first|refine Za hN ?_|refine Za hC ?_|refine Za (ld hB0 rfl) ?_|refine Za (Yd ..) ?_|refine Za (Xd ..) ?_|refine Za rfl ?_
  rcases YBE (decide (x.op<0)) with a1|a1
  ·rw[a1];repeat first|refine Qa rfl ?_|refine Yb rfl ?_|refine Qb rfl ?_|refine Zc rfl ?_|refine Za rfl ?_
   refine Xc (bad ?_);have a1:¬0≤x.op:=by simp at a1; omega
   simp[a1]
  rw[a1];repeat first|refine Ya ?_|refine Xa ?_|refine Za (ldr (row:=chk cs t) rfl) ?_|refine Za hN ?_|refine Za hC ?_|refine Za (ld hB0 rfl) ?_|refine Za (Yd ..) ?_|refine Za (Xd ..) ?_|refine Za rfl ?_
  refine Zb (λa2=>bad ?_) (λa2=>?_)
  ·have a2:¬x.op≤8:=by simp at a2; omega
   simp[a2]
  have a1:0≤x.op:=by simpa using a1
  have a2:x.op≤8:=by simpa using a2
  simp only[a1,a2,decide_true,Bool.true_and] at kk bad;repeat first|refine Za hN ?_|refine Za hC ?_|refine Za (ld hB0 rfl) ?_|refine Za (Yd ..) ?_|refine Za (Xd ..) ?_|refine Za rfl ?_
  refine Zb (λa3=>?_) (λa3=>?_)
  ·have a3:x.op=8:=by simpa using a3
   rw[if_pos a3] at kk bad;repeat first|refine Za hN ?_|refine Za hC ?_|refine Za (ld hB0 rfl) ?_|refine Za (Yd ..) ?_|refine Za (Xd ..) ?_|refine Za rfl ?_
   rcases YBE (x.who != 0) with a4|a4
   ·rw[a4];repeat first|refine Qa rfl ?_|refine Yb rfl ?_|refine Qb rfl ?_|refine Zc rfl ?_|refine Za rfl ?_
    refine Xc (bad ?_);have a4:x.who≠0:=by simpa using a4
    simp[a4]
   rw[a4];repeat first|refine Ya ?_|refine Xa ?_|refine Za (ldr (row:=chk cs t) rfl) ?_|refine Za hN ?_|refine Za hC ?_|refine Za (ld hB0 rfl) ?_|refine Za (Yd ..) ?_|refine Za (Xd ..) ?_|refine Za rfl ?_
   refine Xb (c225 _) rfl g194.ok.plain (nmRo _) ?_;repeat first|refine Ya ?_|refine Xa ?_|refine Za (ldr (row:=chk cs t) rfl) ?_|refine Za hN ?_|refine Za hC ?_|refine Za (ld hB0 rfl) ?_|refine Za (Yd ..) ?_|refine Za (Xd ..) ?_|refine Za rfl ?_
   rcases YBE (!noNum x.n) with a5|a5
   ·rw[a5];repeat first|refine Qa rfl ?_|refine Yb rfl ?_|refine Qb rfl ?_|refine Zc rfl ?_|refine Za rfl ?_
    refine Xc (bad ?_);have a5:noNum x.n=false:=by simpa using a5
    simp[a5]
   rw[a5];repeat first|refine Ya ?_|refine Xa ?_|refine Za (ldr (row:=chk cs t) rfl) ?_|refine Za hN ?_|refine Za hC ?_|refine Za (ld hB0 rfl) ?_|refine Za (Yd ..) ?_|refine Za (Xd ..) ?_|refine Za rfl ?_
   rcases YBE (!(x.name==[])) with a6|a6
   ·rw[a6];repeat first|refine Qa rfl ?_|refine Yb rfl ?_|refine Qb rfl ?_|refine Zc rfl ?_|refine Za rfl ?_
    refine Xc (bad ?_);have a6:(x.name==[])=false:=by simpa using a6
    rw[a6]; simp
   rw[a6];repeat first|refine Ya ?_|refine Xa ?_|refine Za (ldr (row:=chk cs t) rfl) ?_|refine Za hN ?_|refine Za hC ?_|refine Za (ld hB0 rfl) ?_|refine Za (Yd ..) ?_|refine Za (Xd ..) ?_|refine Za rfl ?_
   refine Xb (c226 cs hcs t _ (X0 hfx)) rfl g195.ok.plain (cnRo2 ..) ?_;repeat first|refine Ya ?_|refine Xa ?_|refine Za (ldr (row:=chk cs t) rfl) ?_|refine Za hN ?_|refine Za hC ?_|refine Za (ld hB0 rfl) ?_|refine Za (Yd ..) ?_|refine Za (Xd ..) ?_|refine Za rfl ?_
   rcases YBE (!cnOk cs t x.c) with a7|a7
   ·rw[a7];repeat first|refine Qa rfl ?_|refine Yb rfl ?_|refine Qb rfl ?_|refine Zc rfl ?_|refine Za rfl ?_
    refine Xc (bad ?_);have a7:cnOk cs t x.c=false:=by simpa using a7
    simp[a7]
   rw[a7];repeat first|refine Ya ?_|refine Xa ?_|refine Za (ldr (row:=chk cs t) rfl) ?_|refine Za hN ?_|refine Za hC ?_|refine Za (ld hB0 rfl) ?_|refine Za (Yd ..) ?_|refine Za (Xd ..) ?_|refine Za rfl ?_
   have hs2:=XY x;rw[wrapI (n:=d+1) (by omega) (by omega)];refine Xb (c188' cs hcs t k x.thn (d+1) (by omega) (YJ hfx) (by omega)) rfl g137.ok.plain rfl ?_;repeat first|refine Ya ?_|refine Xa ?_|refine Za (ldr (row:=chk cs t) rfl) ?_|refine Za hN ?_|refine Za hC ?_|refine Za (ld hB0 rfl) ?_|refine Za (Yd ..) ?_|refine Za (Xd ..) ?_|refine Za rfl ?_
   rcases YBE (!lstOk cs t (d+1) x.thn) with a8|a8
   ·rw[a8];repeat first|refine Qa rfl ?_|refine Yb rfl ?_|refine Qb rfl ?_|refine Zc rfl ?_|refine Za rfl ?_
    refine Xc (bad ?_);have a8:lstOk cs t (d+1) x.thn=false:=by simpa using a8
    simp[a8]
   rw[a8];repeat first|refine Ya ?_|refine Xa ?_|refine Za (ldr (row:=chk cs t) rfl) ?_|refine Za hN ?_|refine Za hC ?_|refine Za (ld hB0 rfl) ?_|refine Za (Yd ..) ?_|refine Za (Xd ..) ?_|refine Za rfl ?_
   rw[wrapI (n:=d+1) (by omega) (by omega)];refine Xb (c188' cs hcs t k x.els (d+1) (by omega) (ZJ hfx) (by omega)) rfl g137.ok.plain rfl ?_;repeat first|refine Ya ?_|refine Xa ?_|refine Za (ldr (row:=chk cs t) rfl) ?_|refine Za hN ?_|refine Za hC ?_|refine Za (ld hB0 rfl) ?_|refine Za (Yd ..) ?_|refine Za (Xd ..) ?_|refine Za rfl ?_
   refine Zb (λa9=>bad ?_) (λa9=>kk ?_ _)
   ·have a9:lstOk cs t (d+1) x.els=false:=by simpa using a9
    simp[a9]
   ·simp at a4 a5 a6 a7 a8 a9;simp[a4,a5,a6,a7,a8,a9]
  have a3:x.op≠8:=by simpa using a3
  rw[if_neg a3] at kk bad;repeat first|refine Za hN ?_|refine Za hC ?_|refine Za (ld hB0 rfl) ?_|refine Za (Yd ..) ?_|refine Za (Xd ..) ?_|refine Za rfl ?_
  refine Xb (c227 _) rfl g196.ok.plain (cnRo _) ?_;repeat first|refine Za hN ?_|refine Za hC ?_|refine Za (ld hB0 rfl) ?_|refine Za (Yd ..) ?_|refine Za (Xd ..) ?_|refine Za rfl ?_
  rcases YBE (!noCond x.c) with a4|a4
  ·rw[a4];repeat first|refine Qa rfl ?_|refine Yb rfl ?_|refine Qb rfl ?_|refine Zc rfl ?_|refine Za rfl ?_
   refine Xc (bad ?_);have a4:noCond x.c=false:=by simpa using a4
   simp[a4]
  rw[a4];repeat first|refine Ya ?_|refine Xa ?_|refine Za (ldr (row:=chk cs t) rfl) ?_|refine Za hN ?_|refine Za hC ?_|refine Za (ld hB0 rfl) ?_|refine Za (Yd ..) ?_|refine Za (Xd ..) ?_|refine Za rfl ?_
  rcases YBE (decide (((x.thn.map efC).length:Int)>0)) with a5|a5
  ·rw[a5];repeat first|refine Qa rfl ?_|refine Yb rfl ?_|refine Qb rfl ?_|refine Zc rfl ?_|refine Za rfl ?_
   refine Xc (bad ?_);have a5:x.thn.length≠0:=by simp at a5; omega
   simp[a5]
  rw[a5];repeat first|refine Ya ?_|refine Xa ?_|refine Za (ldr (row:=chk cs t) rfl) ?_|refine Za hN ?_|refine Za hC ?_|refine Za (ld hB0 rfl) ?_|refine Za (Yd ..) ?_|refine Za (Xd ..) ?_|refine Za rfl ?_
  refine Zb (λa6=>bad ?_) (λa6=>?_)
  ·have a6:x.els.length≠0:=by simp at a6; omega
   simp[a6]
  have a4:noCond x.c=true:=by simpa using a4
  have a5:x.thn.length=0:=by simp at a5; simpa using a5
  have a6:x.els.length=0:=by simp at a6; simpa using a6
  simp only[a4,a5,a6,decide_true,Bool.true_and] at kk bad;repeat first|refine Za hN ?_|refine Za hC ?_|refine Za (ld hB0 rfl) ?_|refine Za (Yd ..) ?_|refine Za (Xd ..) ?_|refine Za rfl ?_
  refine Xb (c130 _) rfl g197.ok.plain rfl ?_;apply cutF ((if cntOp x.op then nmOk t x.n else noNum x.n)=true)
  ·intro hR;rcases YBE (cntOp x.op) with c1|c1
   ·rw[c1];repeat first|refine Ya ?_|refine Xa ?_|refine Za (ldr (row:=chk cs t) rfl) ?_|refine Za hN ?_|refine Za hC ?_|refine Za (ld hB0 rfl) ?_|refine Za (Yd ..) ?_|refine Za (Xd ..) ?_|refine Za rfl ?_
    refine Xb (c77 cs t _ (Z8 hfx)) rfl g198.ok.plain (nmRo2 ..) ?_;repeat first|refine Ya ?_|refine Xa ?_|refine Za (ldr (row:=chk cs t) rfl) ?_|refine Za hN ?_|refine Za hC ?_|refine Za (ld hB0 rfl) ?_|refine Za (Yd ..) ?_|refine Za (Xd ..) ?_|refine Za rfl ?_
    rcases YBE (!nmOk t x.n) with c2|c2
    ·rw[c2];repeat first|refine Qa rfl ?_|refine Yb rfl ?_|refine Qb rfl ?_|refine Zc rfl ?_|refine Za rfl ?_
     refine Xc (bad ?_);have c2:nmOk t x.n=false:=by simpa using c2
     simp[c1,c2]
    rw[c2];repeat first|refine Ya ?_|refine Xa ?_|refine Za (ldr (row:=chk cs t) rfl) ?_|refine Za hN ?_|refine Za hC ?_|refine Za (ld hB0 rfl) ?_|refine Za (Yd ..) ?_|refine Za (Xd ..) ?_|refine Za rfl ?_
    refine Xb (c130 _) rfl g197.ok.plain rfl ?_;rw[c1];repeat first|refine Ya ?_|refine Xa ?_|refine Qa rfl ?_|refine Yb rfl ?_|refine Qb rfl ?_|refine Zc rfl ?_|refine Za (ldr (row:=chk cs t) rfl) ?_|refine Za hN ?_|refine Za hC ?_|refine Za (ld hB0 rfl) ?_|refine Za (Yd ..) ?_|refine Za (Xd ..) ?_|refine Za rfl ?_
    refine Xe ?_;exact hR (by have c2:nmOk t x.n=true:=(by simpa using c2); simp[c1,c2])
   rw[c1];repeat first|refine Ya ?_|refine Xa ?_|refine Qa rfl ?_|refine Yb rfl ?_|refine Qb rfl ?_|refine Zc rfl ?_|refine Za (ldr (row:=chk cs t) rfl) ?_|refine Za hN ?_|refine Za hC ?_|refine Za (ld hB0 rfl) ?_|refine Za (Yd ..) ?_|refine Za (Xd ..) ?_|refine Za rfl ?_
   refine Xb (c130 _) rfl g197.ok.plain rfl ?_;rw[c1];repeat first|refine Ya ?_|refine Xa ?_|refine Za (ldr (row:=chk cs t) rfl) ?_|refine Za hN ?_|refine Za hC ?_|refine Za (ld hB0 rfl) ?_|refine Za (Yd ..) ?_|refine Za (Xd ..) ?_|refine Za rfl ?_
   refine Xb (c225 _) rfl g194.ok.plain (nmRo _) ?_;repeat first|refine Ya ?_|refine Xa ?_|refine Za (ldr (row:=chk cs t) rfl) ?_|refine Za hN ?_|refine Za hC ?_|refine Za (ld hB0 rfl) ?_|refine Za (Yd ..) ?_|refine Za (Xd ..) ?_|refine Za rfl ?_
   refine Zb (λc2=>bad ?_) (λc2=>hR ?_)
   ·have c2:noNum x.n=false:=by simpa using c2
    simp[c1,c2]
   ·have c2:noNum x.n=true:=by simpa using c2
    simp[c1,c2]
  intro b1;rw[b1,Bool.true_and] at kk bad;repeat first|refine Za hN ?_|refine Za hC ?_|refine Za (ld hB0 rfl) ?_|refine Za (Yd ..) ?_|refine Za (Xd ..) ?_|refine Za rfl ?_
  apply cutF ((if x.op=7 then findC cs x.name true else x.name==[])=true)
  ·intro hR;rcases YBE (decide (x.op=7)) with c1|c1
   ·rw[c1];repeat first|refine Ya ?_|refine Xa ?_|refine Za (ldr (row:=chk cs t) rfl) ?_|refine Za hN ?_|refine Za hC ?_|refine Za (ld hB0 rfl) ?_|refine Za (Yd ..) ?_|refine Za (Xd ..) ?_|refine Za rfl ?_
    refine Xb (c228 cs hcs t _ _) rfl g199.ok.plain rfl ?_;repeat first|refine Ya ?_|refine Xa ?_|refine Za (ldr (row:=chk cs t) rfl) ?_|refine Za hN ?_|refine Za hC ?_|refine Za (ld hB0 rfl) ?_|refine Za (Yd ..) ?_|refine Za (Xd ..) ?_|refine Za rfl ?_
    have c1:x.op=7:=by simpa using c1
    rcases YBE (!findC cs x.name true) with c2|c2
    ·rw[c2];repeat first|refine Qa rfl ?_|refine Yb rfl ?_|refine Qb rfl ?_|refine Zc rfl ?_|refine Za rfl ?_
     refine Xc (bad ?_);have c2:findC cs x.name true=false:=by simpa using c2
     simp[c1,c2]
    rw[c2];repeat first|refine Ya ?_|refine Xa ?_|refine Za (ldr (row:=chk cs t) rfl) ?_|refine Za hN ?_|refine Za hC ?_|refine Za (ld hB0 rfl) ?_|refine Za (Yd ..) ?_|refine Za (Xd ..) ?_|refine Za rfl ?_
    have c3:(x.op != 7)=false:=by simpa using c1
    rw[c3];repeat first|refine Ya ?_|refine Xa ?_|refine Qa rfl ?_|refine Yb rfl ?_|refine Qb rfl ?_|refine Zc rfl ?_|refine Za (ldr (row:=chk cs t) rfl) ?_|refine Za hN ?_|refine Za hC ?_|refine Za (ld hB0 rfl) ?_|refine Za (Yd ..) ?_|refine Za (Xd ..) ?_|refine Za rfl ?_
    refine Xe ?_;exact hR (by have c2:findC cs x.name true=true:=(by simpa using c2); simp[c1,c2])
   rw[c1];repeat first|refine Ya ?_|refine Xa ?_|refine Qa rfl ?_|refine Yb rfl ?_|refine Qb rfl ?_|refine Zc rfl ?_|refine Za (ldr (row:=chk cs t) rfl) ?_|refine Za hN ?_|refine Za hC ?_|refine Za (ld hB0 rfl) ?_|refine Za (Yd ..) ?_|refine Za (Xd ..) ?_|refine Za rfl ?_
   have c1:x.op≠7:=by simpa using c1
   have c3:(x.op != 7)=true:=by simpa using c1
   rw[c3];repeat first|refine Ya ?_|refine Xa ?_|refine Za (ldr (row:=chk cs t) rfl) ?_|refine Za hN ?_|refine Za hC ?_|refine Za (ld hB0 rfl) ?_|refine Za (Yd ..) ?_|refine Za (Xd ..) ?_|refine Za rfl ?_
   refine Zb (λc2=>bad ?_) (λc2=>hR ?_)
   ·have c2:(x.name==[])=false:=by simpa using c2
    rw[if_neg c1,c2]; rfl
   ·have c2:(x.name==[])=true:=by simpa using c2
    rw[if_neg c1,c2]
  intro b2;rw[b2,Bool.true_and] at kk bad;repeat first|refine Za hN ?_|refine Za hC ?_|refine Za (ld hB0 rfl) ?_|refine Za (Yd ..) ?_|refine Za (Xd ..) ?_|refine Za rfl ?_
  have fin:∀s,VV.rd (Ybu .not [.bool (efEnd t x.op x.who)] s) λt177_151=>VV.test t177_151 (AVal.bool false=AVal.bool (efsOk cs t d l)) (kj [] s):=by
   intro s;refine Za rfl ?_;refine Zb (λc=>bad ?_) (λc=>kk ?_ _)
   ·simpa using c
   ·simpa using c
  rcases YBE (decide (x.op=0)) with e1|e1
  ·rw[e1];repeat first|refine Ya ?_|refine Xa ?_|refine Qa rfl ?_|refine Yb rfl ?_|refine Qb rfl ?_|refine Zc rfl ?_|refine Za (ldr (row:=chk cs t) rfl) ?_|refine Za hN ?_|refine Za hC ?_|refine Za (ld hB0 rfl) ?_|refine Za (Yd ..) ?_|refine Za (Xd ..) ?_|refine Za rfl ?_
   have e1:x.op=0:=by simpa using e1
   refine Yh λk1 hk1=>?_;have m1:k1 [.bool (efMid t x.op x.who)] base:=by
    rw[hk1];repeat first|refine Za hN ?_|refine Za hC ?_|refine Za (ld hB0 rfl) ?_|refine Za (Yd ..) ?_|refine Za (Xd ..) ?_|refine Za rfl ?_
    rw[show decide (x.op=2)=false by simp[e1]];repeat first|refine Ya ?_|refine Xa ?_|refine Za (ldr (row:=chk cs t) rfl) ?_|refine Za hN ?_|refine Za hC ?_|refine Za (ld hB0 rfl) ?_|refine Za (Yd ..) ?_|refine Za (Xd ..) ?_|refine Za rfl ?_
    rw[show decide (x.op=4)=false by simp[e1]];repeat first|refine Ya ?_|refine Xa ?_|refine Za (ldr (row:=chk cs t) rfl) ?_|refine Za hN ?_|refine Za hC ?_|refine Za (ld hB0 rfl) ?_|refine Za (Yd ..) ?_|refine Za (Xd ..) ?_|refine Za rfl ?_
    rw[show decide (x.op=6)=false by simp[e1]];refine Xag (Xe ?_);have:=fin base;rw[show efEnd t x.op x.who=efMid t x.op x.who by simp[efEnd,e1]] at this;exact this
   clear hk1;refine Xc ?_;repeat first|refine Za hN ?_|refine Za hC ?_|refine Za (ld hB0 rfl) ?_|refine Za (Yd ..) ?_|refine Za (Xd ..) ?_|refine Za rfl ?_
   refine Xb (c121 _) rfl g200.ok.plain rfl ?_;rw[show efMid t x.op x.who=(sdOp x.who||(decide (x.who=2)&&t)) by simp[efMid,e1]] at m1;rcases YBE (sdOp x.who) with e2|e2
   ·rw[e2] at m1 ⊢;repeat first|refine Ya ?_|refine Xa ?_|refine Qa rfl ?_|refine Yb rfl ?_|refine Qb rfl ?_|refine Zc rfl ?_|refine Za (ldr (row:=chk cs t) rfl) ?_|refine Za hN ?_|refine Za hC ?_|refine Za (ld hB0 rfl) ?_|refine Za (Yd ..) ?_|refine Za (Xd ..) ?_|refine Za rfl ?_
    exact m1
   rw[e2] at m1 ⊢;repeat first|refine Ya ?_|refine Xa ?_|refine Za (ldr (row:=chk cs t) rfl) ?_|refine Za hN ?_|refine Za hC ?_|refine Za (ld hB0 rfl) ?_|refine Za (Yd ..) ?_|refine Za (Xd ..) ?_|refine Za rfl ?_
   rcases YBE (decide (x.who=2)) with e3|e3
   ·rw[e3] at m1 ⊢;repeat first|refine Ya ?_|refine Xa ?_|refine Qa rfl ?_|refine Yb rfl ?_|refine Qb rfl ?_|refine Zc rfl ?_|refine Za (ldr (row:=chk cs t) rfl) ?_|refine Za hN ?_|refine Za hC ?_|refine Za (ld hB0 rfl) ?_|refine Za (Yd ..) ?_|refine Za (Xd ..) ?_|refine Za rfl ?_
    exact m1
   rw[e3] at m1 ⊢;repeat first|refine Ya ?_|refine Xa ?_|refine Qa rfl ?_|refine Yb rfl ?_|refine Qb rfl ?_|refine Zc rfl ?_|refine Za (ldr (row:=chk cs t) rfl) ?_|refine Za hN ?_|refine Za hC ?_|refine Za (ld hB0 rfl) ?_|refine Za (Yd ..) ?_|refine Za (Xd ..) ?_|refine Za rfl ?_
   exact m1
  rw[e1];repeat first|refine Ya ?_|refine Xa ?_|refine Za (ldr (row:=chk cs t) rfl) ?_|refine Za hN ?_|refine Za hC ?_|refine Za (ld hB0 rfl) ?_|refine Za (Yd ..) ?_|refine Za (Xd ..) ?_|refine Za rfl ?_
  have e1:x.op≠0:=by simpa using e1
  refine Yh λk1 hk1=>?_;have m1:k1 [.bool (efMid t x.op x.who)] base:=by
   rw[hk1];repeat first|refine Za hN ?_|refine Za hC ?_|refine Za (ld hB0 rfl) ?_|refine Za (Yd ..) ?_|refine Za (Xd ..) ?_|refine Za rfl ?_
   rcases YBE (decide (x.op=2)) with e3|e3
   ·rw[e3];repeat first|refine Ya ?_|refine Xa ?_|refine Qa rfl ?_|refine Yb rfl ?_|refine Qb rfl ?_|refine Zc rfl ?_|refine Za (ldr (row:=chk cs t) rfl) ?_|refine Za hN ?_|refine Za hC ?_|refine Za (ld hB0 rfl) ?_|refine Za (Yd ..) ?_|refine Za (Xd ..) ?_|refine Za rfl ?_
    have e3:x.op=2:=by simpa using e3
    refine Xag (Xc ?_);repeat first|refine Za hN ?_|refine Za hC ?_|refine Za (ld hB0 rfl) ?_|refine Za (Yd ..) ?_|refine Za (Xd ..) ?_|refine Za rfl ?_
    refine Xb (c121 _) rfl g200.ok.plain rfl ?_;have:=fin base;rw[show efEnd t x.op x.who=sdOp x.who by simp[efEnd,e3]] at this;exact this
   rw[e3];repeat first|refine Ya ?_|refine Xa ?_|refine Za (ldr (row:=chk cs t) rfl) ?_|refine Za hN ?_|refine Za hC ?_|refine Za (ld hB0 rfl) ?_|refine Za (Yd ..) ?_|refine Za (Xd ..) ?_|refine Za rfl ?_
   rcases YBE (decide (x.op=4)) with e4|e4
   ·rw[e4];repeat first|refine Ya ?_|refine Xa ?_|refine Qa rfl ?_|refine Yb rfl ?_|refine Qb rfl ?_|refine Zc rfl ?_|refine Za (ldr (row:=chk cs t) rfl) ?_|refine Za hN ?_|refine Za hC ?_|refine Za (ld hB0 rfl) ?_|refine Za (Yd ..) ?_|refine Za (Xd ..) ?_|refine Za rfl ?_
    have e4:x.op=4:=by simpa using e4
    refine Xag (Xc ?_);repeat first|refine Za hN ?_|refine Za hC ?_|refine Za (ld hB0 rfl) ?_|refine Za (Yd ..) ?_|refine Za (Xd ..) ?_|refine Za rfl ?_
    refine Xb (c121 _) rfl g200.ok.plain rfl ?_;have:=fin base;rw[show efEnd t x.op x.who=sdOp x.who by simp[efEnd,e4]] at this;exact this
   rw[e4];repeat first|refine Ya ?_|refine Xa ?_|refine Za (ldr (row:=chk cs t) rfl) ?_|refine Za hN ?_|refine Za hC ?_|refine Za (ld hB0 rfl) ?_|refine Za (Yd ..) ?_|refine Za (Xd ..) ?_|refine Za rfl ?_
   refine Xag (Zb (λe5=>?_) (λe5=>?_))
   ·have e5:x.op=6:=by simpa using e5
    repeat first|refine Za hN ?_|refine Za hC ?_|refine Za (ld hB0 rfl) ?_|refine Za (Yd ..) ?_|refine Za (Xd ..) ?_|refine Za rfl ?_
    refine Xb (c121 _) rfl g200.ok.plain rfl ?_;have:=fin base;rw[show efEnd t x.op x.who=sdOp x.who by simp[efEnd,e5]] at this;exact this
   ·simp at e3 e4 e5;have:=fin base;rw[show efEnd t x.op x.who=efMid t x.op x.who by simp[efEnd,e3,e4,e5]] at this;exact this
  clear hk1;refine Zb (λe2=>?_) (λe2=>?_);rotate_left
  ·have e2:x.op≠1:=by simpa using e2
   rw[show efMid t x.op x.who=decide (x.who=0) by simp[efMid,e1,e2]] at m1;exact m1
  have e2:x.op=1:=by simpa using e2
  repeat first|refine Za hN ?_|refine Za hC ?_|refine Za (ld hB0 rfl) ?_|refine Za (Yd ..) ?_|refine Za (Xd ..) ?_|refine Za rfl ?_
  refine Xb (c121 _) rfl g200.ok.plain rfl ?_;rw[show efMid t x.op x.who=(sdOp x.who||(decide (x.who=2)&&t)) by simp[efMid,e2]] at m1;rcases YBE (sdOp x.who) with e2|e2
  ·rw[e2] at m1 ⊢;repeat first|refine Ya ?_|refine Xa ?_|refine Qa rfl ?_|refine Yb rfl ?_|refine Qb rfl ?_|refine Zc rfl ?_|refine Za (ldr (row:=chk cs t) rfl) ?_|refine Za hN ?_|refine Za hC ?_|refine Za (ld hB0 rfl) ?_|refine Za (Yd ..) ?_|refine Za (Xd ..) ?_|refine Za rfl ?_
   exact m1
  rw[e2] at m1 ⊢;repeat first|refine Ya ?_|refine Xa ?_|refine Za (ldr (row:=chk cs t) rfl) ?_|refine Za hN ?_|refine Za hC ?_|refine Za (ld hB0 rfl) ?_|refine Za (Yd ..) ?_|refine Za (Xd ..) ?_|refine Za rfl ?_
  rcases YBE (decide (x.who=2)) with e3|e3
  ·rw[e3] at m1 ⊢;repeat first|refine Ya ?_|refine Xa ?_|refine Qa rfl ?_|refine Yb rfl ?_|refine Qb rfl ?_|refine Zc rfl ?_|refine Za (ldr (row:=chk cs t) rfl) ?_|refine Za hN ?_|refine Za hC ?_|refine Za (ld hB0 rfl) ?_|refine Za (Yd ..) ?_|refine Za (Xd ..) ?_|refine Za rfl ?_
   exact m1
  rw[e3] at m1 ⊢;repeat first|refine Ya ?_|refine Xa ?_|refine Qa rfl ?_|refine Yb rfl ?_|refine Qb rfl ?_|refine Zc rfl ?_|refine Za (ldr (row:=chk cs t) rfl) ?_|refine Za hN ?_|refine Za hC ?_|refine Za (ld hB0 rfl) ?_|refine Za (Yd ..) ?_|refine Za (Xd ..) ?_|refine Za rfl ?_
  exact m1
theorem c188(cs:List Cd)(hcs:cs.length≤big)(t:Bool)(l:List Ef)(d:Int)(hf:lsFit l=true)(hd:0≤d):PC 137 [.rptr (chk cs t) 0,efV l,iv d] (.bool (lstOk cs t d l)):=c188' cs hcs t _ l d (Nat.le_refl _) hf hd
end Go.Ah.Tz
end
section
namespace Go.Ah.Tz
open Go.Proofs.Tryz (prog)
def isLet(x:Int):Bool:=decide ((97≤x∧x≤122)∨(65≤x∧x≤90)∨(192≤x∧x≤591∧x≠215∧x≠247))
def isDig(x:Int):Bool:=decide (48≤x∧x≤57)
def shl6(x:Int):Int:=IntKind.i64.wrap (x*2 ^ (min 6 IntKind.i64.bits))
def rStep(x:Int)(c:UInt8):Int:=bits .or .i64 (shl6 x) (IntKind.i64.wrap (bits .and .u8 (c.toNat:Int) 63))
def rCont(c:UInt8):Bool:=(bits .and .u8 (c.toNat:Int) 192 != 128)
def rTail(s:Tx)(at_:Nat):Nat→Nat→Int→Option Int
 |0,_,x=>some x
 |m+1,i,x=>match s[at_+i]? with
  |none=>none
  |some c=>if rCont c then none else rTail s at_ m (i+1) (rStep x c)
def rHead(c:Int):Option (Nat×Int×Int):=
 if 192≤c∧c<224 then some (2,bits .and .i64 c 31,128) else if 224≤c∧c<240 then some (3,bits .and .i64 c 15,2048) else if 240≤c∧c<248 then some (4,bits .and .i64 c 7,65536) else if 128≤c then none else some (1,c,0)
def rEnd(n:Nat)(least:Int):Option Int→Int×Nat
 |none=>(0,0)
 |some y=>if y<least∨1114111<y∨(55296≤y∧y≤57343) then (0,0) else (y,n)
def runeR(s:Tx)(at_:Nat):Int×Nat:=match s[at_]? with
 |none=>(0,0)
 |some c=>match rHead c.toNat with
  |none=>(0,0)
  |some (n,x,least)=>rEnd n least (rTail s at_ (n-1) 1 x)
def YaE(s:Tx)(at_ n:Nat):Prop:=(runeR s at_).2=0∨(isLet (runeR s at_).1=false∧(n=0∨(isDig (runeR s at_).1=false∧(runeR s at_).1≠39)))
instance (s:Tx) (at_ n:Nat):Decidable (YaE s at_ n):=inferInstanceAs (Decidable (_∨_))
def nameR(s:Tx)(at_ n:Nat):Nat×Nat:=
 if _h:at_<s.length then (if hk:YaE s at_ n then (at_,n) else nameR s (at_+(runeR s at_).2) (n+1)) else (at_,n)
termination_by s.length-at_
decreasing_by
 have:(runeR s at_).2≠0:=λe=>hk (Or.inl e);omega
def ownIn:List Tx→Tx→Bool
 |[],_=>false
 |k::l,s=>k==s||ownIn l s
def keysR:List Tx:=[[99,97,114,100],
 [117,110,105,116],
 [99,104,97,114,109],
 [102,111,114,109,97,116],
 [112,108,97,121,101,100],
 [100,101,97,100],
 [100,97,119,110],
 [97,117,114,97],
 [115,104,105,101,108,100],
 [104,97,114,109],
 [109,101,110,100],
 [100,114,97,119],
 [103,97,105,110],
 [100,114,111,112],
 [108,111,111,107],
 [115,104,111,119],
 [115,117,109,109,111,110],
 [105,102],
 [101,108,115,101],
 [109,101],
 [102,111,101],
 [116,97,114,103,101,116],
 [108,105,102,101],
 [104,97,110,100],
 [100,101,99,107],
 [117,110,105,116,115],
 [109,97,110,97],
 [99,111,115,116],
 [116,111,112],
 [112,111,119,101,114],
 [109,105,110],
 [109,97,120],
 [110,111,116],
 [97,110,100],
 [111,114],
 [104,111,108,100,115],
 [108,101,97,115,116],
 [109,111,115,116],
 [99,111,112,105,101,115],
 [98,97,110,110,101,100],
 [115,105,110,103,108,101]]
def nameOk(s:Tx):Bool:=decide (1≤(nameR s 0 0).2)&&(decide ((nameR s 0 0).2≤24)&&(decide ((nameR s 0 0).1=s.length)&&(decide (s.length≤40) && !ownIn keysR s)))
attribute [local irreducible] Ans.rd Ans.pu Ans.wr Ans.dr Ans.gr Ans.gw Ans.gl Ans.gd Ans.opt joinK W
theorem Yaa{P:Program}{GL:Globs}{c d:Bool}{K:AVal→Prop}{r1:SRes}{f2:AVal→SRes}{σ:List ABlk}{v1:AVal}(h1:r1=.ok v1 [] [])(h2:f2 v1=.ok (.bool d) [] [])(hK:K (.bool (c&&d))) :
  (W P GL).gr (.bool c) true (λk=>(W P GL).rd r1 k) λt1=>(W P GL).gr (.bool c) true (λk=>(W P GL).rd (f2 t1) k) λt2=>(W P GL).rd (Zk [.bool c,t2,.bool false] σ) K:=by
 cases c with
 |true=>exact Ya (Za h1 (Ya (Za h2 (Za rfl hK))))
 |false=>exact Qa rfl (Qa rfl (Za rfl hK))
theorem c198(x:Int):PC 203 [iv x] (.bool (isDig x)):=by
 refine Yc hP g203.ok rfl rfl ?_;rw[H1.e]; unfold g203; dsimp only;refine Za rfl ?_;rcases YBE (decide (x ≥ 48)) with h|h
 rotate_left
 ·rw[h];repeat first|refine Qa rfl ?_|refine Yb rfl ?_|refine Qb rfl ?_|refine Zc rfl ?_|refine Za rfl ?_
  grind [isDig]
 rw[h];repeat first|refine Ya ?_|refine Xa ?_|refine Za rfl ?_
 simp_all [isDig]
theorem c197(x:Int):PC 202 [iv x] (.bool (isLet x)):=by
 refine Yc hP g202.ok rfl rfl ?_;rw[H1.e]; unfold g202; dsimp only;refine Za rfl ?_;apply cutF (¬(97≤x∧x≤122))
 ·intro hR;rcases YBE (decide (x ≥ 97)) with h|h
  ·rw[h];repeat first|refine Ya ?_|refine Xa ?_|refine Za rfl ?_
   have h:97≤x:=by simpa using h
   rcases YBE (decide (x≤122)) with h2|h2
   ·rw[h2];repeat first|refine Ya ?_|refine Xa ?_|refine Qa rfl ?_|refine Yb rfl ?_|refine Qb rfl ?_|refine Zc rfl ?_|refine Za rfl ?_
    simp_all [isLet]
   rw[h2];have h2:¬x≤122:=by simpa using h2
   repeat first|refine Ya ?_|refine Xa ?_|refine Qa rfl ?_|refine Yb rfl ?_|refine Qb rfl ?_|refine Zc rfl ?_|refine Za rfl ?_
   exact hR (by omega)
  rw[h];have h:¬97≤x:=by simpa using h
  repeat first|refine Ya ?_|refine Xa ?_|refine Qa rfl ?_|refine Yb rfl ?_|refine Qb rfl ?_|refine Zc rfl ?_|refine Za rfl ?_
  exact hR (by omega)
 intro n1;apply cutF (¬(65≤x∧x≤90))
 ·intro hR;rcases YBE (decide (x ≥ 65)) with h|h
  ·rw[h];repeat first|refine Ya ?_|refine Xa ?_|refine Za rfl ?_
   have h:65≤x:=by simpa using h
   rcases YBE (decide (x≤90)) with h2|h2
   ·rw[h2];repeat first|refine Ya ?_|refine Xa ?_|refine Qa rfl ?_|refine Yb rfl ?_|refine Qb rfl ?_|refine Zc rfl ?_|refine Za rfl ?_
    simp_all [isLet]
   rw[h2];have h2:¬x≤90:=by simpa using h2
   repeat first|refine Ya ?_|refine Xa ?_|refine Qa rfl ?_|refine Yb rfl ?_|refine Qb rfl ?_|refine Zc rfl ?_|refine Za rfl ?_
   exact hR (by omega)
  rw[h];have h:¬65≤x:=by simpa using h
  repeat first|refine Ya ?_|refine Xa ?_|refine Qa rfl ?_|refine Yb rfl ?_|refine Qb rfl ?_|refine Zc rfl ?_|refine Za rfl ?_
  exact hR (by omega)
 intro n2;rcases YBE (decide (x ≥ 192)) with h1|h1
 rotate_left
 ·rw[h1];repeat first|refine Ya ?_|refine Xa ?_|refine Qa rfl ?_|refine Yb rfl ?_|refine Qb rfl ?_|refine Zc rfl ?_|refine Za rfl ?_
  exact congrArg AVal.bool (by rw[Bool.eq_iff_iff]; simp at h1; simp[isLet]; omega)
 rw[h1];repeat first|refine Ya ?_|refine Xa ?_|refine Za rfl ?_
 rcases YBE (decide (x≤591)) with h2|h2
 rotate_left
 ·rw[h2];repeat first|refine Ya ?_|refine Xa ?_|refine Qa rfl ?_|refine Yb rfl ?_|refine Qb rfl ?_|refine Zc rfl ?_|refine Za rfl ?_
  exact congrArg AVal.bool (by rw[Bool.eq_iff_iff]; simp at h2; simp[isLet]; omega)
 rw[h2];repeat first|refine Ya ?_|refine Xa ?_|refine Za rfl ?_
 rcases YBE (x != 215) with h3|h3
 rotate_left
 ·rw[h3];repeat first|refine Ya ?_|refine Xa ?_|refine Qa rfl ?_|refine Yb rfl ?_|refine Qb rfl ?_|refine Zc rfl ?_|refine Za rfl ?_
  simp_all [isLet]
 rw[h3];repeat first|refine Ya ?_|refine Xa ?_|refine Za rfl ?_
 exact congrArg AVal.bool (by rw[Bool.eq_iff_iff]; simp at h1 h2 h3; simp[isLet]; omega)
theorem c196(s:Tx)(hs:s.length≤big)(a:Nat)(ha:a<s.length):PC 201 [.str s,iv a] (.tup [iv (runeR s a).1,iv (runeR s a).2]):=by
 rw[bigE] at hs;refine Yc hP g201.ok rfl rfl ?_;rw[H2.e]; unfold g201; dsimp only;refine Za (Xck _ s .i64 a ha) (Za (XcR ..) ?_);have hc:s[a].toNat<256:=s[a].toNat_lt;rw[wrapI (n:=(s[a].toNat:Int)) (by omega) (by omega)];have hr:runeR s a=match rHead s[a].toNat with
  |none=>(0,0)
  |some (n,x,least)=>rEnd n least (rTail s a (n-1) 1 x):=by
  rw[runeR,List.getElem?_eq_getElem ha]
 generalize s[a].toNat=c0 at hr hc ⊢;obtain⟨c,hcc⟩:∃c:Int,c=(c0:Int):=⟨_,rfl⟩;rw[←hcc] at hr ⊢;have hc2:0≤c∧c<256:=by omega
 clear hcc hc;refine Za rfl ?_;refine Yaa rfl rfl ?_;refine Yh λkj hkj=>?_;have zero:∀y:Option Int,y=none→∀n least,AVal.tup [iv 0,iv 0]=AVal.tup [iv (rEnd n least y).1,iv (rEnd n least y).2]:=by
  rintro _ rfl n least; rfl
 have kk:∀(n:Nat) (x least:Int),1≤n→n≤4→rHead c=some (n,x,least)→kj [iv n,iv x,iv least] []:=by
  intro n x least n1 n4 hh;rw[hkj]; clear hkj kj;rw[hh] at hr
  replace hr:runeR s a=rEnd n least (rTail s a (n-1) 1 x):=hr
  rw[hr];clear hr hh;refine Zg (ι:=Nat) (λi vs σ=>∃y,vs=[iv i,iv y]∧1≤i∧i≤n∧rTail s a (n-1) 1 x=rTail s a (n-i) i y) (λi=>n-i) 1 ⟨x,rfl,by omega,by omega,rfl⟩ ?_;rintro i vs σ again ⟨y,rfl,i1,i2,hu⟩ hag;refine Za rfl ?_;refine Zb (λh=>?_) (λh=>?_)
  ·have h:i<n:=by simpa using h
   have hadd:∀σ,Yn .add false [iv a,iv i] σ=.ok (iv ((a+i:Nat):Int)) [] []:=λσ=>by
    rw[Yf,wrapI (by omega) (by omega)]; rfl
   have hni:n-i=(n-(i+1))+1:=by omega
   rw[hni,rTail] at hu;refine Za (hadd _) (Za rfl (Za rfl ?_));rcases YBE (decide (((a+i:Nat):Int) ≥ (s.length:Int))) with h1|h1
   ·rw[h1];repeat first|refine Ya ?_|refine Xa ?_|refine Qa rfl ?_|refine Yb rfl ?_|refine Qb rfl ?_|refine Zc rfl ?_|refine Za rfl ?_
    refine Xc ?_;have h1:s.length≤a+i:=by simp at h1; omega
    rw[List.getElem?_eq_none h1] at hu;exact zero _ hu _ _
   rw[h1];have h1:a+i<s.length:=by simp at h1; omega
   have hix:∀σ,ZG [.str s,iv ((a+i:Nat):Int)] σ=.ok (.int .u8 s[a+i].toNat) [] []:=λσ=>Xck _ s .i64 (a+i) h1;rw[List.getElem?_eq_getElem h1] at hu;generalize s[a+i]=q at hu hix;repeat first|refine Ya ?_|refine Za (hadd _) ?_|refine Za (hix _) ?_|refine Za rfl ?_
   refine Zb (λh2=>?_) (λh2=>?_)
   ·have h2:rCont q=true:=h2;simp only[h2,if_true] at hu;exact zero _ hu _ _
   ·have h2:rCont q=false:=h2;simp only[h2,Bool.false_eq_true,if_false] at hu;refine Za rfl (Za (hadd _) (Za (hix _) (Za rfl (Za (XcR ..) (Za rfl (Za (Yf ..) ?_))))));rw[Qc (n:=i) (by omega)];exact hag (i+1) _ _ (by omega) ⟨_,rfl,by omega,by omega,hu⟩
  ·have h:i=n:=by simp at h; omega
   subst h;rw[Nat.sub_self,rTail] at hu;rw[hu];clear hu hag zero;refine Za rfl ?_;have bad:(y<least∨1114111<y∨(55296≤y∧y≤57343))→AVal.tup [iv 0,iv 0]=AVal.tup [iv (rEnd i least (some y)).1,iv (rEnd i least (some y)).2]:=by
    intro hb; rw[rEnd,if_pos hb]; rfl
   have good:¬(y<least∨1114111<y∨(55296≤y∧y≤57343))→AVal.tup [iv y,iv i]=AVal.tup [iv (rEnd i least (some y)).1,iv (rEnd i least (some y)).2]:=by
    intro hb; rw[rEnd,if_neg hb]
   rcases YBE (decide (y<least)) with h1|h1
   ·rw[h1];repeat first|refine Ya ?_|refine Xa ?_|refine Qa rfl ?_|refine Yb rfl ?_|refine Qb rfl ?_|refine Zc rfl ?_|refine Za rfl ?_
    exact Xc (bad (by simp at h1; omega))
   rw[h1];repeat first|refine Ya ?_|refine Xa ?_|refine Za rfl ?_
   rcases YBE (decide (y>1114111)) with h2|h2
   ·rw[h2];repeat first|refine Ya ?_|refine Xa ?_|refine Qa rfl ?_|refine Yb rfl ?_|refine Qb rfl ?_|refine Zc rfl ?_|refine Za rfl ?_
    exact Xc (bad (by simp at h2; omega))
   rw[h2];repeat first|refine Ya ?_|refine Xa ?_|refine Za rfl ?_
   rcases YBE (decide (y ≥ 55296)) with h3|h3
   ·rw[h3];repeat first|refine Ya ?_|refine Xa ?_|refine Za rfl ?_
    refine Zb (λh4=>bad ?_) (λh4=>good ?_)
    ·simp at h3 h4; omega
    ·simp at h1 h2 h3 h4; omega
   rw[h3];repeat first|refine Ya ?_|refine Xa ?_|refine Qa rfl ?_|refine Yb rfl ?_|refine Qb rfl ?_|refine Zc rfl ?_|refine Za rfl ?_
   exact Xe (good (by simp at h1 h2 h3; omega))
 clear hkj;refine Zb (λh=>?_) (λn1=>?_)
 ·have h:192≤c∧c<224:=by simpa using h
  refine Za rfl (kk 2 _ _ (by omega) (by omega) ?_);rw[rHead,if_pos h]
 have n1:¬(192≤c∧c<224):=by simp at n1; omega
 refine Za rfl (Yaa rfl rfl ?_);refine Zb (λh=>?_) (λn2=>?_)
 ·have h:224≤c∧c<240:=by simpa using h
  refine Za rfl (kk 3 _ _ (by omega) (by omega) ?_);rw[rHead,if_neg n1,if_pos h]
 have n2:¬(224≤c∧c<240):=by simp at n2; omega
 refine Za rfl (Yaa rfl rfl ?_);refine Zb (λh=>?_) (λn3=>?_)
 ·have h:240≤c∧c<248:=by simpa using h
  refine Za rfl (kk 4 _ _ (by omega) (by omega) ?_);rw[rHead,if_neg n1,if_neg n2,if_pos h]
 have n3:¬(240≤c∧c<248):=by simp at n3; omega
 refine Za rfl ?_;refine Zb (λh=>?_) (λh=>?_)
 ·have h:128≤c:=by simpa using h
  have e:rHead c=none:=by rw[rHead,if_neg n1,if_neg n2,if_neg n3,if_pos h]
  rw[hr,e]; rfl
 ·have h:¬128≤c:=by simpa using h
  exact kk 1 _ _ (by omega) (by omega) (by rw[rHead,if_neg n1,if_neg n2,if_neg n3,if_neg h])
theorem YcL{c:Int}{n:Nat}{x least:Int}(h:rHead c=some (n,x,least)):n≤4:=by
 grind [rHead]
theorem QbX(s:Tx)(a:Nat):(runeR s a).2≤4:=by
 unfold runeR;split
 ·simp
 ·split
  ·simp
  ·rename_i n x least h;have:=YcL h;cases rTail s a (n-1) 1 x<;>grind [rEnd]
theorem c193(s:Tx)(hs:s.length≤big)(a0:Nat)(ha0:a0≤s.length):PC 142 [.str s,iv a0] (.tup [iv (nameR s a0 0).1,iv (nameR s a0 0).2]):=by
 have hs2:=hs;rw[bigE] at hs2;refine Yc hP g142.ok rfl rfl ?_;rw[H2.e]; unfold g142; dsimp only;refine Yh λk0 hk0=>?_;have kk:∀a n:Nat,nameR s a0 0=(a,n)→k0 [iv a,iv n] []:=by
  intro a n e;rw[hk0,e]; exact rfl
 clear hk0;refine Zg (ι:=Nat) (λa vs σ=>∃n:Nat,vs=[iv a,iv n]∧σ=[]∧n≤a∧a≤s.length+4∧nameR s a0 0=nameR s a n) (λa=>s.length+10-a) a0 ⟨0,rfl,rfl,by omega,by omega,rfl⟩ ?_;rintro a vs σ again ⟨n,rfl,rfl,i1,i2,hu⟩ hag;refine Za rfl (Za rfl ?_);refine Zb (λh=>?_) (λh=>?_);rotate_left
 ·have h:¬a<s.length:=by simpa using h
  exact kk a n (by rw[hu,nameR,dif_neg h])
 have h:a<s.length:=by simpa using h
 refine Xb (c196 s hs a h) rfl g201.ok.plain rfl ?_;refine Za rfl (Za rfl ?_);have stp:YaE s a n→k0 [iv a,iv n] []:=λhst=>kk a n (by rw[hu,nameR,dif_pos h,dif_pos hst]);have cont:¬YaE s a n→again [iv ((a+(runeR s a).2:Nat):Int),iv ((n+1:Nat):Int)] []:=by
  intro hst;have h1:(runeR s a).2≠0:=λe=>hst (Or.inl e);have h4:=QbX s a;exact hag _ _ _ (by omega) ⟨n+1,rfl,rfl,by omega,by omega,by rw[hu,nameR,dif_pos h,dif_neg hst]⟩
 have h4:=QbX s a;unfold YaE at stp cont;clear hag hu kk;generalize (runeR s a).1=x at stp cont ⊢;generalize (runeR s a).2=k at stp cont h4 ⊢;have go:¬(k=0∨(isLet x=false∧(n=0∨(isDig x=false∧x≠39))))→VV.rd (Yn .add false [iv a,iv k] []) λt41_27=>VV.rd (Yn .add false [iv n,(.int .i64 1)] []) λt43_28=>again [t41_27,t43_28] []:=by
  intro hst;refine Za (Yf ..) (Za (Yf ..) ?_);rw[Qc (n:=n) (by omega),wrapI (n:=(a:Int)+(k:Int)) (by omega) (by omega)];exact cont hst
 refine Za rfl ?_;rcases YBE ((k:Int)==0) with h1|h1
 ·rw[h1];repeat first|refine Ya ?_|refine Xa ?_|refine Qa rfl ?_|refine Yb rfl ?_|refine Qb rfl ?_|refine Zc rfl ?_|refine Za rfl ?_
  exact Xc (stp (Or.inl (by simpa using h1)))
 rw[h1];have h1:k≠0:=by simpa using h1
 repeat first|refine Ya ?_|refine Xa ?_|refine Za rfl ?_
 refine Xb (c197 _) rfl g202.ok.plain rfl ?_;repeat first|refine Ya ?_|refine Xa ?_|refine Za rfl ?_
 rcases YBE (!isLet x) with h2|h2
 rotate_left
 ·rw[h2];repeat first|refine Ya ?_|refine Xa ?_|refine Qa rfl ?_|refine Yb rfl ?_|refine Qb rfl ?_|refine Zc rfl ?_|refine Za rfl ?_
  exact Xe (go (by have h2:isLet x=true:=(by simpa using h2); simp[h1,h2]))
 rw[h2];have h2:isLet x=false:=by simpa using h2
 repeat first|refine Ya ?_|refine Xa ?_|refine Za rfl ?_
 rcases YBE ((n:Int)==0) with h3|h3
 ·rw[h3];repeat first|refine Ya ?_|refine Xa ?_|refine Qa rfl ?_|refine Yb rfl ?_|refine Qb rfl ?_|refine Zc rfl ?_|refine Za rfl ?_
  exact Xc (stp (Or.inr ⟨h2,Or.inl (by simpa using h3)⟩))
 rw[h3];have h3:n≠0:=by simpa using h3
 repeat first|refine Ya ?_|refine Xa ?_|refine Za rfl ?_
 refine Xb (c198 _) rfl g203.ok.plain rfl ?_;repeat first|refine Ya ?_|refine Xa ?_|refine Za rfl ?_
 rcases YBE (!isDig x) with h5|h5
 rotate_left
 ·rw[h5];repeat first|refine Ya ?_|refine Xa ?_|refine Qa rfl ?_|refine Yb rfl ?_|refine Qb rfl ?_|refine Zc rfl ?_|refine Za rfl ?_
  exact Xe (go (by have h5:isDig x=true:=(by simpa using h5); simp[h1,h3,h5]))
 rw[h5];have h5:isDig x=false:=by simpa using h5
 repeat first|refine Ya ?_|refine Xa ?_|refine Za rfl ?_
 refine Zb (λh6=>stp ?_) (λh6=>go ?_)
 ·exact Or.inr ⟨h2,Or.inr ⟨h5,by simpa using h6⟩⟩
 ·have h6:x=39:=by simpa using h6
  simp[h1,h3,h6]
theorem c229:∃e n,PC 204 [] (.rsl e n 1 (keysR.map txC)):=by
 have hw:∃v bs,g204.u VV [] [] (λv' σ=>v'=v∧σ=bs)∧∃e n,frz bs v=some (.rsl e n 1 (keysR.map txC)):=by
  unfold g204; dsimp only[H0.u];apply Exists.intro;apply Exists.intro;apply And.intro
  ·refine Zd rfl rfl ?_;exact⟨rfl,rfl⟩
  ·exact⟨_,_,rfl⟩
 obtain⟨v,bs,h1,e,n,h2⟩:=hw;exact⟨e,n,Zbt hP g204.ok rfl ⟨v,bs,h2,h1⟩⟩
theorem txLd(x:Tx):partA false 0 1 (txC x)=some (.str x):=rfl
theorem c194(s:Tx):PC 143 [.str s] (.bool (ownIn keysR s)):=by
 refine Yc hP g143.ok rfl rfl ?_;rw[H1.e]; unfold g143; dsimp only;obtain⟨e,n,hk⟩:=c229;refine Xb hk rfl g204.ok.plain rfl ?_;have hlen:keysR.length=41:=rfl;generalize keysR=l at hlen ⊢;refine Zg (ι:=Nat) (λi vs σ=>vs=[iv i]∧i≤l.length∧ownIn l s=ownIn (l.drop i) s) (λi=>l.length-i) 0 ⟨rfl,by omega,by simp⟩ ?_;rintro i vs σ again ⟨rfl,hi,hu⟩ hag;refine Za rfl (Za rfl ?_);refine Zb (λh=>?_) (λh=>?_)
 ·have h:i<l.length:=by simpa using h
  have hdr:l.drop i=l[i]::l.drop (i+1):=by rw[YLD h]
  rw[hdr,ownIn] at hu;refine Za (Yk _ txC _ _ _ l .i64 i h) (Za (ldr (txLd _)) (Za (Xd ..) ?_));refine Zb (λh=>?_) (λh=>?_)
  ·rw[hu,h]; rfl
  ·rw[h,Bool.false_or] at hu;refine Za (Yf ..) ?_;rw[Qc (n:=i) (by omega)]
   grind
 ·have h:i=l.length:=by simp at h; omega
  subst h;rw[List.drop_length] at hu;rw[hu]; rfl
theorem c147(s:Tx)(hs:s.length≤big):PC 90 [.str s] (.bool (nameOk s)):=by
 refine Yc hP g90.ok rfl rfl ?_;rw[H1.e]; unfold g90; dsimp only;have:=c193 s hs 0 (by omega);refine Xb this rfl g142.ok.plain rfl ?_;unfold nameOk;generalize (nameR s 0 0).1=e;generalize (nameR s 0 0).2=n;refine Za rfl (Za rfl (Za rfl ?_));rcases YBE (decide ((n:Int) ≥ 1)) with h1|h1
 rotate_left
 ·rw[h1];repeat first|refine Qa rfl ?_|refine Yb rfl ?_|refine Qb rfl ?_|refine Zc rfl ?_|refine Za rfl ?_
  grind
 rw[h1];repeat first|refine Ya ?_|refine Xa ?_|refine Za rfl ?_
 rcases YBE (decide ((n:Int)≤24)) with h2|h2
 rotate_left
 ·rw[h2];repeat first|refine Qa rfl ?_|refine Yb rfl ?_|refine Qb rfl ?_|refine Zc rfl ?_|refine Za rfl ?_
  grind
 rw[h2];repeat first|refine Ya ?_|refine Xa ?_|refine Za rfl ?_
 rcases YBE ((e:Int)==(s.length:Int)) with h3|h3
 rotate_left
 ·rw[h3];repeat first|refine Qa rfl ?_|refine Yb rfl ?_|refine Qb rfl ?_|refine Zc rfl ?_|refine Za rfl ?_
  have h3:¬e=s.length:=by simp at h3; omega
  simp[h3]
 rw[h3];repeat first|refine Ya ?_|refine Xa ?_|refine Za rfl ?_
 rcases YBE (decide ((s.length:Int)≤40)) with h4|h4
 rotate_left
 ·rw[h4];repeat first|refine Qa rfl ?_|refine Yb rfl ?_|refine Qb rfl ?_|refine Zc rfl ?_|refine Za rfl ?_
  grind
 rw[h4];repeat first|refine Ya ?_|refine Xa ?_|refine Za rfl ?_
 refine Xb (c194 _) rfl g143.ok.plain rfl ?_;repeat first|refine Ya ?_|refine Xa ?_|refine Za rfl ?_
 have h1:1≤n:=by simp at h1; omega
 have h2:n≤24:=by simp at h2; omega
 have h3:e=s.length:=by simp at h3; omega
 grind
end Go.Ah.Tz
end
section
namespace Go.Ah.Tz
open Go.Proofs.Tryz (prog)
def in999(n:Int):Bool:=decide (0≤n)&&decide (n≤999)
def cdSum(c:Cd):Bool:=if c.unit then decide (1≤c.health) else decide (c.power+c.health+c.shield+c.aurap+c.aurah≤0)&&decide (c.dead.length+c.dawn.length=0)
def cdW(c:Cd):Int:=min (efsW 0 c.played+efsW 0 c.dead+efsW 0 c.dawn) 1073741824
def cdOk(cs:List Cd)(c:Cd):Bool:=
 nameOk c.name&&(in999 c.cost&&(in999 c.power&&(in999 c.health&&(in999 c.shield&&(in999 c.aurap&&(in999 c.aurah&&(cdSum c&&(decide (cdW c≤200)&&(lstOk cs true 1 c.played&&(lstOk cs false 1 c.dead&&lstOk cs false 1 c.dawn))))))))))
def cdFit(c:Cd):Bool:=decide (c.name.length≤big)&&(lsFit c.played&&(lsFit c.dead&&lsFit c.dawn))
def QT(l:List Cd):Bool:=decide (l.length≤big)&&l.all cdFit
def cdsGo(cs:List Cd):List Cd→List Cd→Int×Int
 |_,[]=>(0,0)
 |pre,c::l=>if pre.any λd=>d.name==c.name then (101,c.pl) else if cdOk cs c then cdsGo cs (pre++[c]) l else (130,c.pl)
def cdsChk(cs:List Cd):Int×Int:=if 240<cs.length then (3,0) else cdsGo cs [] cs
attribute [local irreducible] Ans.rd Ans.pu Ans.wr Ans.dr Ans.gr Ans.gw Ans.gl Ans.gd Ans.opt joinK W
set_option maxHeartbeats 1000000
theorem c145(cs:List Cd)(hcs:cs.length≤big)(c:Cd)(hf:cdFit c=true):PC 88 [cdV cs,.agg (cdC c)] (.bool (cdOk cs c)):=by
 simp only[cdFit,Bool.and_eq_true,decide_eq_true_eq] at hf;obtain⟨f0,f1,f2,f3⟩:=hf;refine Yc hP g88.ok rfl rfl ?_;rw[H2.e]; unfold g88; dsimp only;refine Zd rfl rfl ?_;generalize hB:([]++[ABlk.box (cdC c)]:List ABlk)=base;have hB0:hget base 0=.box (cdC c):=by rw[←hB]; rfl
 refine Za rfl (Za (ld hB0 rfl) ?_);refine Xb (c147 _ f0) rfl g90.ok.plain rfl ?_;refine Za rfl ?_;rcases YBE (!nameOk c.name) with a0|a0
 ·rw[a0];repeat first|refine Ya ?_|refine Xa ?_|refine Qa rfl ?_|refine Yb rfl ?_|refine Qb rfl ?_|refine Zc rfl ?_|refine Za (ld hB0 rfl) ?_|refine Za rfl ?_
  refine Xc ?_
  grind [cdOk]
 rw[a0];repeat first|refine Ya ?_|refine Xa ?_|refine Za (ld hB0 rfl) ?_|refine Za rfl ?_
 refine Xb (c187 _) rfl g135.ok.plain rfl ?_;repeat first|refine Ya ?_|refine Xa ?_|refine Za (ld hB0 rfl) ?_|refine Za rfl ?_
 rcases YBE (!(decide (0≤c.cost)&&decide (c.cost≤999))) with a1|a1
 ·rw[a1];repeat first|refine Ya ?_|refine Xa ?_|refine Qa rfl ?_|refine Yb rfl ?_|refine Qb rfl ?_|refine Zc rfl ?_|refine Za (ld hB0 rfl) ?_|refine Za rfl ?_
  refine Xc ?_
  grind [in999,cdOk]
 rw[a1];repeat first|refine Ya ?_|refine Xa ?_|refine Za (ld hB0 rfl) ?_|refine Za rfl ?_
 refine Xb (c187 _) rfl g135.ok.plain rfl ?_;repeat first|refine Ya ?_|refine Xa ?_|refine Za (ld hB0 rfl) ?_|refine Za rfl ?_
 rcases YBE (!(decide (0≤c.power)&&decide (c.power≤999))) with a2|a2
 ·rw[a2];repeat first|refine Ya ?_|refine Xa ?_|refine Qa rfl ?_|refine Yb rfl ?_|refine Qb rfl ?_|refine Zc rfl ?_|refine Za (ld hB0 rfl) ?_|refine Za rfl ?_
  refine Xc ?_
  grind [in999,cdOk]
 rw[a2];repeat first|refine Ya ?_|refine Xa ?_|refine Za (ld hB0 rfl) ?_|refine Za rfl ?_
 refine Xb (c187 _) rfl g135.ok.plain rfl ?_;repeat first|refine Ya ?_|refine Xa ?_|refine Za (ld hB0 rfl) ?_|refine Za rfl ?_
 rcases YBE (!(decide (0≤c.health)&&decide (c.health≤999))) with a3|a3
 ·rw[a3];repeat first|refine Ya ?_|refine Xa ?_|refine Qa rfl ?_|refine Yb rfl ?_|refine Qb rfl ?_|refine Zc rfl ?_|refine Za (ld hB0 rfl) ?_|refine Za rfl ?_
  refine Xc ?_
  grind [in999,cdOk]
 rw[a3];repeat first|refine Ya ?_|refine Xa ?_|refine Za (ld hB0 rfl) ?_|refine Za rfl ?_
 refine Xb (c187 _) rfl g135.ok.plain rfl ?_;repeat first|refine Ya ?_|refine Xa ?_|refine Za (ld hB0 rfl) ?_|refine Za rfl ?_
 rcases YBE (!(decide (0≤c.shield)&&decide (c.shield≤999))) with a4|a4
 ·rw[a4];repeat first|refine Ya ?_|refine Xa ?_|refine Qa rfl ?_|refine Yb rfl ?_|refine Qb rfl ?_|refine Zc rfl ?_|refine Za (ld hB0 rfl) ?_|refine Za rfl ?_
  refine Xc ?_
  grind [in999,cdOk]
 rw[a4];repeat first|refine Ya ?_|refine Xa ?_|refine Za (ld hB0 rfl) ?_|refine Za rfl ?_
 refine Xb (c187 _) rfl g135.ok.plain rfl ?_;repeat first|refine Ya ?_|refine Xa ?_|refine Za (ld hB0 rfl) ?_|refine Za rfl ?_
 rcases YBE (!(decide (0≤c.aurap)&&decide (c.aurap≤999))) with a5|a5
 ·rw[a5];repeat first|refine Ya ?_|refine Xa ?_|refine Qa rfl ?_|refine Yb rfl ?_|refine Qb rfl ?_|refine Zc rfl ?_|refine Za (ld hB0 rfl) ?_|refine Za rfl ?_
  refine Xc ?_
  grind [in999,cdOk]
 rw[a5];repeat first|refine Ya ?_|refine Xa ?_|refine Za (ld hB0 rfl) ?_|refine Za rfl ?_
 refine Xb (c187 _) rfl g135.ok.plain rfl ?_;repeat first|refine Ya ?_|refine Xa ?_|refine Za (ld hB0 rfl) ?_|refine Za rfl ?_
 refine Zb (λa6=>?_) (λa6=>?_)
 ·grind [in999,cdOk]
 have a1:in999 c.cost=true:=by simpa[in999] using a1
 have a2:in999 c.power=true:=by simpa[in999] using a2
 have a3:in999 c.health=true:=by simpa[in999] using a3
 have a4:in999 c.shield=true:=by simpa[in999] using a4
 have a5:in999 c.aurap=true:=by simpa[in999] using a5
 have a6:in999 c.aurah=true:=by simpa[in999] using a6
 have a0:nameOk c.name=true:=by simpa using a0
 have b1:=a1; have b2:=a2; have b3:=a3; have b4:=a4; have b5:=a5; have b6:=a6;simp only[in999,Bool.and_eq_true,decide_eq_true_eq] at b1 b2 b3 b4 b5 b6;simp only[cdOk,a0,a1,a2,a3,a4,a5,a6,Bool.true_and];clear a0 a1 a2 a3 a4 a5 a6;repeat first|refine Ya ?_|refine Xa ?_|refine Za (ld hB0 rfl) ?_|refine Za rfl ?_
 apply cutF (cdSum c=true)
 ·intro hR;cases hu:c.unit with
  |true=>
   try rw[hu]
   repeat first|refine Ya ?_|refine Xa ?_|refine Za (ld hB0 rfl) ?_|refine Za rfl ?_
   rcases YBE (decide (c.health<1)) with h|h
   ·rw[h];repeat first|refine Ya ?_|refine Xa ?_|refine Qa rfl ?_|refine Yb rfl ?_|refine Qb rfl ?_|refine Zc rfl ?_|refine Za (ld hB0 rfl) ?_|refine Za rfl ?_
    refine Xc ?_
    grind [cdSum]
   ·rw[h];repeat first|refine Ya ?_|refine Xa ?_|refine Qa rfl ?_|refine Yb rfl ?_|refine Qb rfl ?_|refine Zc rfl ?_|refine Za (ld hB0 rfl) ?_|refine Za rfl ?_
    try rw[hu]
    repeat first|refine Ya ?_|refine Xa ?_|refine Qa rfl ?_|refine Yb rfl ?_|refine Qb rfl ?_|refine Zc rfl ?_|refine Za (ld hB0 rfl) ?_|refine Za rfl ?_
    refine Xe (hR ?_)
    grind [cdSum]
  |false=>
   try rw[hu]
   repeat first|refine Ya ?_|refine Xa ?_|refine Qa rfl ?_|refine Yb rfl ?_|refine Qb rfl ?_|refine Zc rfl ?_|refine Za (ld hB0 rfl) ?_|refine Za rfl ?_
   try rw[hu]
   repeat first|refine Ya ?_|refine Xa ?_|refine Qa rfl ?_|refine Yb rfl ?_|refine Qb rfl ?_|refine Zc rfl ?_|refine Za (ld hB0 rfl) ?_|refine Za rfl ?_
   rw[wrapI (n:=c.power+c.health) (by omega) (by omega),wrapI (n:=c.power+c.health+c.shield) (by omega) (by omega),wrapI (n:=c.power+c.health+c.shield+c.aurap) (by omega) (by omega),wrapI (n:=c.power+c.health+c.shield+c.aurap+c.aurah) (by omega) (by omega)];rcases YBE (decide (c.power+c.health+c.shield+c.aurap+c.aurah>0)) with h|h
   ·rw[h];repeat first|refine Ya ?_|refine Xa ?_|refine Qa rfl ?_|refine Yb rfl ?_|refine Qb rfl ?_|refine Zc rfl ?_|refine Za (ld hB0 rfl) ?_|refine Za rfl ?_
    refine Xc ?_
    grind [cdSum]
   rw[h];repeat first|refine Ya ?_|refine Xa ?_|refine Za (ld hB0 rfl) ?_|refine Za rfl ?_
   have h:(c.power+c.health+c.shield+c.aurap+c.aurah≤0):=by simp at h; omega
   have l1:=Xz f2;have l2:=Xz f3;rw[bigE] at l1 l2;rw[List.length_map,List.length_map,wrapI (n:=(c.dead.length:Int)+(c.dawn.length:Int)) (by omega) (by omega)];refine Zb (λh2=>?_) (λh2=>hR ?_)
   ·have h2:¬(c.dead.length+c.dawn.length=0):=by simp at h2; omega
    have:cdSum c=false:=by rw[cdSum,hu,decide_eq_false h2]; simp
    simp[this]
   ·have h2:(c.dead.length+c.dawn.length=0):=by simp at h2; omega
    rw[cdSum,hu,decide_eq_true h2,decide_eq_true h]; rfl
 intro b7;rw[b7,Bool.true_and];refine Za (ld hB0 rfl) ?_;refine Xb (c110 c f1 f2 f3) rfl g136.ok.plain rfl ?_;refine Za rfl ?_;refine Zb (λh=>?_) (λh=>?_)
 ·grind [cdW]
 have h:cdW c≤200:=by simp at h; unfold cdW; omega
 simp only[h,decide_true,Bool.true_and];subst hB;refine Za rfl (Zd rfl rfl (Za rfl (Zd rfl rfl ?_)));refine Za rfl (Za rfl ?_);refine YD (c188 cs hcs true c.played 1 f1 (by omega)) rfl g137.ok.plain rfl rfl ?_;rcases YBE (lstOk cs true 1 c.played) with p1|p1
 rotate_left
 ·rw[p1];repeat first|refine Ya ?_|refine Xa ?_|refine Qa rfl ?_|refine Yb rfl ?_|refine Qb rfl ?_|refine Zc rfl ?_|refine Za (ld hB0 rfl) ?_|refine Za rfl ?_
  simp[p1]
 rw[p1];repeat first|refine Ya ?_|refine Xa ?_|refine Za rfl ?_
 refine YD (c188 cs hcs false c.dead 1 f2 (by omega)) rfl g137.ok.plain rfl rfl ?_;repeat first|refine Ya ?_|refine Xa ?_|refine Za rfl ?_
 rcases YBE (lstOk cs false 1 c.dead) with p2|p2
 rotate_left
 ·rw[p2];repeat first|refine Ya ?_|refine Xa ?_|refine Qa rfl ?_|refine Yb rfl ?_|refine Qb rfl ?_|refine Zc rfl ?_|refine Za rfl ?_
  simp[p1,p2]
 rw[p2];repeat first|refine Ya ?_|refine Xa ?_|refine Za rfl ?_
 refine YD (c188 cs hcs false c.dawn 1 f3 (by omega)) rfl g137.ok.plain rfl rfl ?_;repeat first|refine Ya ?_|refine Xa ?_|refine Za rfl ?_
 simp[p1,p2]
theorem cdLd(x:Cd):partA true 0 12 (cdC x)=some (.agg (cdC x)):=rfl
theorem YbO(x:Cd):partA false 11 1 (cdC x)=some (iv x.pl):=rfl
theorem c113(cs:List Cd)(hf:QT cs=true):PC 50 [cdV cs] (.agg [iv (cdsChk cs).1,iv (cdsChk cs).2]):=by
 simp only[QT,Bool.and_eq_true,decide_eq_true_eq] at hf;obtain⟨f0,f1⟩:=hf;have f02:=f0;rw[bigE] at f02;refine Yc hP g50.ok rfl rfl ?_;rw[H1.e]; unfold g50; dsimp only;refine Zd rfl rfl (Za rfl (Za rfl ?_));refine Zb (λh=>?_) (λh=>?_)
 ·have h:240<cs.length:=by simp at h; omega
  refine Za rfl (Zd rfl rfl (Zt rfl ?_));rw[cdsChk,if_pos h]
 have h:¬240<cs.length:=by simp at h; omega
 rw[cdsChk,if_neg h];refine Zg (ι:=Nat) (λi vs σ=>vs=[iv i]∧σ=[.box [iv 0,iv 0]]∧i≤cs.length∧cdsGo cs [] cs=cdsGo cs (cs.take i) (cs.drop i)) (λi=>cs.length-i) 0 ⟨rfl,rfl,by omega,by simp⟩ ?_;rintro i vs σ again ⟨rfl,rfl,hi,hu⟩ hag;refine Za rfl (Za rfl ?_);refine Zb (λh=>?_) (λh=>?_);rotate_left
 ·have h:i=cs.length:=by simp at h; omega
  subst h;rw[List.drop_length,cdsGo] at hu;refine Za rfl (Zd rfl rfl (Zt rfl ?_));rw[hu]
 have hi:i<cs.length:=by simpa using h
 have hdr:cs.drop i=cs[i]::cs.drop (i+1):=by rw[YLD hi]
 have hix:=λ(s:List ABlk)=>Yk s cdC false false 12 cs .i64 i hi;have hfi:=List.all_eq_true.1 f1 _ (List.getElem_mem hi);have htk:cs.take (i+1)=cs.take i++[cs[i]]:=Xu cs i hi;generalize cs[i]=c at hdr hix hfi htk;rw[hdr,cdsGo] at hu;refine Zg (ι:=Nat) (λj vs σ=>vs=[iv j]∧σ=[.box [iv 0,iv 0]]∧j≤i∧(cs.take i).any (λd=>d.name==c.name)=((cs.take i).drop j).any (λd=>d.name==c.name)) (λj=>i-j) 0 ⟨rfl,rfl,by omega,by simp⟩ ?_;rintro j vs σ again2 ⟨rfl,rfl,hj,hv⟩ hag2;refine Za rfl ?_;refine Zb (λh=>?_) (λh=>?_)
 ·have h:j<i:=by simpa using h
  have hjx:j<(cs.take i).length:=by rw[List.length_take]; omega
  have hdr2:(cs.take i).drop j=(cs.take i)[j]::(cs.take i).drop (j+1):=by rw[YLD hjx]
  rw[List.getElem_take] at hdr2;rw[hdr2,List.any_cons] at hv;refine Za (Yk _ cdC false false 12 cs .i64 j (by omega)) (Za rfl (Za (ldr (cdLd0 _)) (Za (hix _) (Za rfl (Za (ldr (cdLd0 _)) (Za (Xd ..) ?_))))));refine Zb (λh=>?_) (λh=>?_)
  ·rw[h,Bool.true_or] at hv;rw[hv,if_pos rfl] at hu;refine Za (hix _) (Za rfl (Za (ldr (YbO _)) (Za rfl (Zd rfl rfl (Zt rfl ?_)))));rw[hu]
  ·rw[h,Bool.false_or] at hv;refine Za (Yf ..) ?_;rw[Qc (n:=j) (by omega)]
   grind
 have h:j=i:=by simp at h; omega
 subst h;rw[List.drop_eq_nil_of_le (by rw[List.length_take]; omega),List.any_nil] at hv;rw[hv] at hu
 replace hu:cdsGo cs [] cs=if cdOk cs c then cdsGo cs (cs.take j++[c]) (cs.drop (j+1)) else (130,c.pl):=hu
 rw[←htk] at hu;refine Za (hix _) (Za (ldr (cdLd _)) ?_);refine Xb (c145 cs f0 c hfi) rfl g88.ok.plain rfl ?_;refine Za rfl ?_;refine Zb (λh=>?_) (λh=>?_)
 ·have h:cdOk cs c=false:=by simpa using h
  rw[h] at hu
  replace hu:cdsGo cs [] cs=(130,c.pl):=hu
  refine Za (hix _) (Za rfl (Za (ldr (YbO _)) (Za rfl (Zd rfl rfl (Zt rfl ?_)))));rw[hu]
 ·have h:cdOk cs c=true:=by simpa using h
  rw[h,if_pos rfl] at hu;refine Za (Yf ..) ?_;rw[Qc (n:=j) (by omega)]
  grind
end Go.Ah.Tz
end
section
namespace Go.Ah.Tz
open Go.Proofs.Tryz (prog)
def lbN(a:Int):Int:=if a<0∨3<a then 3 else a
def joinL(a b:Int):Int:=if lbN a=lbN b∨lbN b=0 then lbN a else if lbN a=0 then lbN b else 3
def Qa3(a b:Int):Bool:=decide (joinL a b=joinL b b)
mutual
def nmL:Nm→Int
 |.mk op _ _ kids=>if 8≤op∧op≤12 then nmLs (if op=6 then 3 else 0) kids else if op=6 then 3 else 0
def nmLs:Int→List Nm→Int
 |n,[]=>n
 |n,x::l=>nmLs (joinL n (nmL x)) l
end
theorem ZcT(x:Nm):nmL x=if 8≤x.op∧x.op≤12 then nmLs (if x.op=6 then 3 else 0) x.kids else if x.op=6 then 3 else 0:=by cases x; rfl
mutual
def cnL:Cn→Int
 |.mk op who _ nums kids=>if op=6 then (if who=0 then 1 else if who=1 then 2 else 3) else cnLs (nmLs 0 nums) kids
def cnLs:Int→List Cn→Int
 |n,[]=>n
 |n,x::l=>cnLs (joinL n (cnL x)) l
end
theorem YcQ(x:Cn):cnL x=if x.op=6 then (if x.who=0 then 1 else if x.who=1 then 2 else 3) else cnLs (nmLs 0 x.nums) x.kids:=by cases x; rfl
mutual
def efL (u:Int):Ef→Bool
 |.mk op _ n _ c thn els=>if op=5 then Qa3 (joinL u (nmL n)) 1 else if op=8 then efsL (joinL u (cnL c)) thn&&efsL (joinL u (cnL c)) els else if op=0∨op=1∨op=2∨op=3 then decide (joinL u (nmL n)=0) else decide (joinL u u=0)
def efsL (u:Int):List Ef→Bool
 |[]=>true
 |x::l=>efL u x&&efsL u l
end
theorem Zbo(u:Int)(x:Ef):efL u x=if x.op=5 then Qa3 (joinL u (nmL x.n)) 1 else if x.op=8 then efsL (joinL u (cnL x.c)) x.thn&&efsL (joinL u (cnL x.c)) x.els else if x.op=0∨x.op=1∨x.op=2∨x.op=3 then decide (joinL u (nmL x.n)=0) else decide (joinL u u=0):=by cases x; rfl
attribute [local irreducible] Ans.rd Ans.pu Ans.wr Ans.dr Ans.gr Ans.gw Ans.gl Ans.gd Ans.opt joinK W
set_option maxHeartbeats 1000000
theorem ZD{P:Program}{GL:Globs}{c d:Bool}{K:AVal→Prop}{r1:SRes}{f2:AVal→SRes}{σ:List ABlk}{v1:AVal}(h1:r1=.ok v1 [] [])(h2:f2 v1=.ok (.bool d) [] [])(hK:K (.bool (c||d))) :
  (W P GL).gr (.bool c) false (λk=>(W P GL).rd r1 k) λt1=>(W P GL).gr (.bool c) false (λk=>(W P GL).rd (f2 t1) k) λt2=>(W P GL).rd (Zk [.bool c,.bool true,t2] σ) K:=by
 cases c with
 |false=>exact Ya (Za h1 (Ya (Za h2 (Za rfl hK))))
 |true=>exact Qa rfl (Qa rfl (Za rfl hK))
theorem Yaj{P:Program}{GL:Globs}{c d:Bool}{K:AVal→Prop}{r1:SRes}{f2 f3:AVal→SRes}{σ:List ABlk}{v1 v2:AVal}{q1 q2 q3:List Nat}(h1:r1=.ok v1 q1 [])(h2:f2 v1=.ok v2 q2 [])(h3:f3 v2=.ok (.bool d) q3 [])(hK:K (.bool (c&&d))) :
  (W P GL).gr (.bool c) true (λk=>(W P GL).rd r1 k) λt1=>(W P GL).gr (.bool c) true (λk=>(W P GL).rd (f2 t1) k) λt2=>(W P GL).gr (.bool c) true (λk=>(W P GL).rd (f3 t2) k) λt3=>(W P GL).rd (Zk [.bool c,t3,.bool false] σ) K:=by
 cases c with
 |true=>exact Ya (Za h1 (Ya (Za h2 (Ya (Za h3 (Za rfl hK))))))
 |false=>exact Qa rfl (Qa rfl (Qa rfl (Za rfl hK)))
theorem c190(a b:Int):PC 139 [iv8 a,iv8 b] (iv8 (joinL a b)):=by
 refine Yc hP g139.ok rfl rfl ?_;rw[H2.e]; unfold g139; dsimp only;refine Za rfl (ZD rfl rfl ?_);refine Yh λk1 hk1=>?_;have kk:k1 [iv8 (lbN a)] []:=by
  rw[hk1]; clear hk1 k1;refine Za rfl (ZD rfl rfl ?_);refine Yh λk1 hk1=>?_;have kk:k1 [iv8 (lbN b)] []:=by
   rw[hk1]; clear hk1 k1;unfold joinL;generalize lbN a=a;generalize lbN b=b;refine Za (Yd ..) ?_;have hp:∀K:AVal→Prop,K (.bool (decide (a=b)||decide (b=0)))→VV.gr (.bool (decide (a=b))) false (λk=>VV.rd (Qab [iv8 b] []) k) λt22=>VV.gr (.bool (decide (a=b))) false (λk=>VV.rd (Yn .eql false [t22,(.int .i8 0)] []) k) λt23=>VV.rd (Zk [.bool (decide (a=b)),(.bool true),t23] []) K:=λK hK=>ZD rfl (Yd ..) hK;refine hp _ ?_;refine Zb (λh=>?_) (λh=>?_)
   ·rw[if_pos (by simpa using h)]; rfl
   have h:¬(a=b∨b=0):=by simpa using h
   rw[if_neg h];refine Za (Yd ..) ?_;refine Zb (λh=>?_) (λh=>?_)
   ·rw[if_pos (by simpa using h)]; rfl
   ·rw[if_neg (by simpa using h)]
  refine Zb (λh=>?_) (λh=>?_)
  ·rw[lbN,if_pos (by simpa using h)] at kk; exact kk
  ·rw[lbN,if_neg (by simpa using h)] at kk; exact kk
 refine Zb (λh=>?_) (λh=>?_)
 ·rw[lbN,if_pos (by simpa using h)] at kk; exact kk
 ·rw[lbN,if_neg (by simpa using h)] at kk; exact kk
theorem c189(a b:Int):PC 138 [iv8 a,iv8 b] (.bool (Qa3 a b)):=by
 refine Yc hP g138.ok rfl rfl ?_;rw[H2.e]; unfold g138; dsimp only;refine Xb (c190 a b) rfl g139.ok.plain rfl ?_;refine Xb (c190 b b) rfl g139.ok.plain rfl ?_;refine Za (Yd ..) ?_;rfl
theorem c191':∀(k:Nat) (x:Nm),SizeOf.sizeOf x≤k→nmFit x=true→PC 140 [.agg (nmC x)] (iv8 (nmL x))
 |0,x,h,_=>by cases x; simp at h
 |k+1,x,hk,hf=>by
  rw[Yx];refine Yc hP g140.ok rfl rfl ?_;rw[H1.e]; unfold g140; dsimp only;refine Zd rfl rfl ?_;rw[ZcT];have hlen:=Y5 hf;rw[bigE] at hlen;generalize hB:([]++[ABlk.box [iv8 x.op,iv x.n,iv8 x.who,.rsl false false 4 (x.kids.map nmC)]]:List ABlk)=base;have hB0:hget base 0=.box [iv8 x.op,iv x.n,iv8 x.who,.rsl false false 4 (x.kids.map nmC)]:=by rw[←hB]; rfl
  clear hB;refine Za rfl (Za (ld hB0 rfl) (Za (Yd ..) ?_));refine Yh λk1 hk1=>?_;have kk:k1 [iv8 (if x.op=6 then 3 else 0)] base:=by
   rw[hk1]; clear hk1 k1;generalize (if x.op=6 then (3:Int) else 0)=n0;refine Za rfl (Za (ld hB0 rfl) (Za rfl ?_));refine Yaj rfl (ld hB0 rfl) rfl ?_;rw[show (decide (x.op ≥ 8)&&decide (x.op≤12))=decide (8≤x.op∧x.op≤12) by simp];refine Zb (λh=>?_) (λh=>?_);rotate_left
   ·rw[if_neg (by simpa using h)]; rfl
   rw[if_pos (by simpa using h)];refine Zg (ι:=Nat) (λi vs σ=>∃n,vs=[iv i,iv8 n]∧σ=base∧i≤x.kids.length∧nmLs n0 x.kids=nmLs n (x.kids.drop i)) (λi=>x.kids.length-i) 0 ⟨n0,rfl,rfl,by omega,by simp⟩ ?_;rintro i vs σ again ⟨n,rfl,rfl,hi,hu⟩ hag;repeat first|refine Za (ld hB0 rfl) ?_|refine Za rfl ?_
   refine Zb (λh=>?_) (λh=>?_)
   ·have h:i<x.kids.length:=by simpa using h
    have hdr:x.kids.drop i=x.kids[i]::x.kids.drop (i+1):=by rw[YLD h]
    rw[hdr,nmLs] at hu;have hm:x.kids[i]∈x.kids:=List.getElem_mem h;refine Za rfl (Za (ld hB0 rfl) (Za (Yk _ nmC _ _ _ x.kids _ i h) (Za (ldr (nmLd _)) ?_)));refine Xb (c191' k _ (by have:=Qam hm; omega) (ZW hf hm)) rfl g140.ok.plain (nmRo _) ?_;refine Xb (c190 _ _) rfl g139.ok.plain rfl ?_;refine Za (Yf ..) ?_;rw[Qc (n:=i) (by omega)];exact hag (i+1) _ _ (by omega) ⟨_,rfl,rfl,by omega,hu⟩
   ·have h:i=x.kids.length:=by simp at h; omega
    subst h;rw[List.drop_length,nmLs] at hu;rw[hu]; rfl
  refine Zb (λh=>?_) (λh=>?_)
  ·have e:x.op=6:=by simpa using h
   rw[if_pos e] at kk; exact kk
  ·have e:x.op≠6:=by simpa using h
   rw[if_neg e] at kk; exact kk
theorem c191(x:Nm)(hf:nmFit x=true):PC 140 [.agg (nmC x)] (iv8 (nmL x)):=c191' _ x (Nat.le_refl _) hf
theorem c192':∀(k:Nat) (x:Cn),SizeOf.sizeOf x≤k→cnFit x=true→PC 141 [.agg (cnC x)] (iv8 (cnL x))
 |0,x,h,_=>by cases x; simp at h
 |k+1,x,hk,hf=>by
  rw[QH];refine Yc hP g141.ok rfl rfl ?_;rw[H1.e]; unfold g141; dsimp only;refine Zd rfl rfl ?_;rw[YcQ];have hl1:=YM hf;have hl2:=ZM hf;rw[bigE] at hl1 hl2;generalize hB:([]++[ABlk.box [iv8 x.op,iv8 x.who,.str x.name,.rsl false false 4 (x.nums.map nmC),.rsl false false 5 (x.kids.map cnC)]]:List ABlk)=base;have hB0:hget base 0=.box [iv8 x.op,iv8 x.who,.str x.name,.rsl false false 4 (x.nums.map nmC),.rsl false false 5 (x.kids.map cnC)]:=by rw[←hB]; rfl
  clear hB;refine Za rfl (Za (ld hB0 rfl) (Za (Yd ..) ?_));refine Zb (λh=>?_) (λh=>?_)
  ·rw[if_pos (by simpa using h)];refine Za rfl (Za (ld hB0 rfl) (Za (Yd ..) ?_));refine Zb (λh=>?_) (λh=>?_)
   ·rw[if_pos (by simpa using h)]
   rw[if_neg (by simpa using h)];refine Za (Yd ..) ?_;refine Zb (λh=>?_) (λh=>?_)
   ·rw[if_pos (by simpa using h)]
   ·rw[if_neg (by simpa using h)]
  rw[if_neg (by simpa using h)];refine Zg (ι:=Nat) (λi vs σ=>∃n,vs=[iv i,iv8 n]∧σ=base∧i≤x.nums.length∧nmLs 0 x.nums=nmLs n (x.nums.drop i)) (λi=>x.nums.length-i) 0 ⟨0,rfl,rfl,by omega,by simp⟩ ?_;rintro i vs σ again ⟨n,rfl,rfl,hi,hu⟩ hag;repeat first|refine Za (ld hB0 rfl) ?_|refine Za rfl ?_
  refine Zb (λh=>?_) (λh=>?_)
  ·have h:i<x.nums.length:=by simpa using h
   have hdr:x.nums.drop i=x.nums[i]::x.nums.drop (i+1):=by rw[YLD h]
   rw[hdr,nmLs] at hu;have hm:x.nums[i]∈x.nums:=List.getElem_mem h;refine Za rfl (Za (ld hB0 rfl) (Za (Yk _ nmC _ _ _ x.nums _ i h) (Za (ldr (nmLd _)) ?_)));refine Xb (c191 _ (XU hf hm)) rfl g140.ok.plain (nmRo _) ?_;refine Xb (c190 _ _) rfl g139.ok.plain rfl ?_;refine Za (Yf ..) ?_;rw[Qc (n:=i) (by omega)];exact hag (i+1) _ _ (by omega) ⟨_,rfl,rfl,by omega,hu⟩
  have h:i=x.nums.length:=by simp at h; omega
  subst h;rw[List.drop_length,nmLs] at hu;rw[hu];clear hag hu hi;refine Zg (ι:=Nat) (λi vs s=>∃m,vs=[iv i,iv8 m]∧s=σ∧i≤x.kids.length∧cnLs n x.kids=cnLs m (x.kids.drop i)) (λi=>x.kids.length-i) 0 ⟨n,rfl,rfl,by omega,by simp⟩ ?_;rintro i vs s again ⟨m,rfl,rfl,hi,hu⟩ hag;repeat first|refine Za (ld hB0 rfl) ?_|refine Za rfl ?_
  refine Zb (λh=>?_) (λh=>?_)
  ·have h:i<x.kids.length:=by simpa using h
   have hdr:x.kids.drop i=x.kids[i]::x.kids.drop (i+1):=by rw[YLD h]
   rw[hdr,cnLs] at hu;have hm:x.kids[i]∈x.kids:=List.getElem_mem h;refine Za rfl (Za (ld hB0 rfl) (Za (Yk _ cnC _ _ _ x.kids _ i h) (Za (ldr (cnLd _)) ?_)));refine Xb (c192' k _ (by have:=Zam hm; omega) (YU hf hm)) rfl g141.ok.plain (cnRo _) ?_;refine Xb (c190 _ _) rfl g139.ok.plain rfl ?_;refine Za (Yf ..) ?_;rw[Qc (n:=i) (by omega)];exact hag (i+1) _ _ (by omega) ⟨_,rfl,rfl,by omega,hu⟩
  ·have h:i=x.kids.length:=by simp at h; omega
   subst h;rw[List.drop_length,cnLs] at hu;rw[hu]; rfl
theorem c192(x:Cn)(hf:cnFit x=true):PC 141 [.agg (cnC x)] (iv8 (cnL x)):=c192' _ x (Nat.le_refl _) hf
end Go.Ah.Tz
end
section
namespace Go.Ah.Tz
open Go.Proofs.Tryz (prog)
def cdL(c:Cd):Bool:=efsL 0 c.played&&(efsL 0 c.dead&&efsL 0 c.dawn)
def cdsL:List Cd→Int×Int
 |[]=>(0,0)
 |c::l=>if cdL c then cdsL l else (140,c.pl)
attribute [local irreducible] Ans.rd Ans.pu Ans.wr Ans.dr Ans.gr Ans.gw Ans.gl Ans.gd Ans.opt joinK W
set_option maxHeartbeats 1000000
theorem QI{σ:List ABlk}{b j n:Nat}{row:List AVal}{v:AVal}(hb:b<σ.length)(hv:partA true j n row=some v):cellV true n (.bptr b j) (σ.set b (.box row))=some v:=by
 simp_all [cellV,XO]
theorem c146':∀(k:Nat) (l:List Ef) (u:Int),SizeOf.sizeOf l≤k→lsFit l=true→PC 89 [iv8 u,efV l] (.bool (efsL u l))
 |0,l,_,h,_=>by cases l<;>simp at h
 |k+1,l,u,hk,hf=>by
  refine Yc hP g89.ok rfl rfl ?_;rw[H2.e]; unfold g89; dsimp only;have hlen:=Xz hf;rw[bigE] at hlen;refine Zg (ι:=Nat) (λi vs σ=>vs=[iv i]∧i≤l.length∧efsL u l=efsL u (l.drop i)) (λi=>l.length-i) 0 ⟨rfl,by omega,by simp⟩ ?_;rintro i vs σ again ⟨rfl,hi,hu⟩ hag;refine Za rfl (Za rfl ?_);refine Zb (λh=>?_) (λh=>?_);rotate_left
  ·have h:i=l.length:=by simp at h; omega
   subst h;rw[List.drop_length,efsL] at hu;rw[hu]
  have h:i<l.length:=by simpa using h
  have hdr:l.drop i=l[i]::l.drop (i+1):=by rw[YLD h]
  rw[hdr,efsL] at hu;have hm:l[i]∈l:=List.getElem_mem h;have hsz:=List.sizeOf_lt_of_mem hm;have hfx:=YP hf hm;have ix:=λ(s:List ABlk)=>Yk s efC false false 14 l .i64 i h;generalize l[i]=x at hu hsz hfx ix;refine Yh λkj hkj=>?_;have kk:efL u x=true→∀s,kj [] s:=by
   intro he s;rw[hkj];refine Za (Yf ..) ?_;rw[Qc (n:=i) (by omega)];exact hag (i+1) _ _ (by omega) ⟨rfl,by omega,by rw[hu,he,Bool.true_and]⟩
  have bad:efL u x=false→AVal.bool false=AVal.bool (efsL u l):=by
   intro he; rw[hu,he]; rfl
  clear hkj hag;refine Za (ix _) (Za (ldr (efLd x)) ?_);refine Zy (row:=[iv8 x.op,iv8 x.who,iv8 x.n.op,iv x.n.n,iv8 x.n.who,.rsl false false 4 (x.n.kids.map nmC),.str x.name,iv8 x.c.op,iv8 x.c.who,.str x.c.name,.rsl false false 4 (x.c.nums.map nmC),.rsl false false 5 (x.c.kids.map cnC),.rsl false false 14 (x.thn.map efC),.rsl false false 14 (x.els.map efC)]) (row':=[iv8 x.op,iv8 x.who,iv8 x.n.op,iv x.n.n,iv8 x.n.who,.rsl false false 4 (x.n.kids.map nmC),.str x.name,iv8 x.c.op,iv8 x.c.who,.str x.c.name,.rsl false false 4 (x.c.nums.map nmC),.rsl false false 5 (x.c.kids.map cnC),.rsl false false 14 (x.thn.map efC),.rsl false false 14 (x.els.map efC)]) (by rw[ZI]; rfl) rfl rfl ?_;have hB0:=Qi σ (ABlk.box [iv8 x.op,iv8 x.who,iv8 x.n.op,iv x.n.n,iv8 x.n.who,.rsl false false 4 (x.n.kids.map nmC),.str x.name,iv8 x.c.op,iv8 x.c.who,.str x.c.name,.rsl false false 4 (x.c.nums.map nmC),.rsl false false 5 (x.c.kids.map cnC),.rsl false false 14 (x.thn.map efC),.rsl false false 14 (x.els.map efC)]);generalize σ++[ABlk.box [iv8 x.op,iv8 x.who,iv8 x.n.op,iv x.n.n,iv8 x.n.who,.rsl false false 4 (x.n.kids.map nmC),.str x.name,iv8 x.c.op,iv8 x.c.who,.str x.c.name,.rsl false false 4 (x.c.nums.map nmC),.rsl false false 5 (x.c.kids.map cnC),.rsl false false 14 (x.thn.map efC),.rsl false false 14 (x.els.map efC)]]=base at hB0 ⊢;generalize σ.length=b at hB0 ⊢;have hN:Qk true 4 [.bptr b 2] base=.ok (.agg (nmC x.n)) [b] []:=ld hB0 (by rw[Yx]; rfl);have hC:Qk true 5 [.bptr b 7] base=.ok (.agg (cnC x.c)) [b] []:=ld hB0 (by rw[QH]; rfl);rw[Zbo] at kk bad;repeat first|refine Za hN ?_|refine Za hC ?_|refine Za (ld hB0 rfl) ?_|refine Za (Yd ..) ?_|refine Za rfl ?_
  refine Zb (λa1=>?_) (λa1=>?_)
  ·have a1:x.op=5:=by simpa using a1
   rw[if_pos a1] at kk bad;repeat first|refine Za hN ?_|refine Za hC ?_|refine Za (ld hB0 rfl) ?_|refine Za (Yd ..) ?_|refine Za rfl ?_
   refine Xb (c191 _ (Z8 hfx)) rfl g140.ok.plain (nmRo _) ?_;refine Xb (c190 _ _) rfl g139.ok.plain rfl ?_;refine Xb (c189 _ _) rfl g138.ok.plain rfl ?_;refine Za rfl ?_;exact Zb (λh=>bad (by simpa using h)) (λh=>kk (by simpa using h) _)
  have a1:x.op≠5:=by simpa using a1
  rw[if_neg a1] at kk bad;repeat first|refine Za hN ?_|refine Za hC ?_|refine Za (ld hB0 rfl) ?_|refine Za (Yd ..) ?_|refine Za rfl ?_
  refine Zb (λa2=>?_) (λa2=>?_)
  ·have a2:x.op=8:=by simpa using a2
   rw[if_pos a2] at kk bad;have hs2:=XY x;repeat first|refine Za hN ?_|refine Za hC ?_|refine Za (ld hB0 rfl) ?_|refine Za (Yd ..) ?_|refine Za rfl ?_
   refine Xb (c192 _ (X0 hfx)) rfl g141.ok.plain (cnRo _) ?_;refine Xb (c190 _ _) rfl g139.ok.plain rfl ?_;repeat first|refine Za hN ?_|refine Za hC ?_|refine Za (ld hB0 rfl) ?_|refine Za (Yd ..) ?_|refine Za rfl ?_
   refine Xb (c146' k x.thn _ (by omega) (YJ hfx)) rfl g89.ok.plain rfl ?_;repeat first|refine Za hN ?_|refine Za hC ?_|refine Za (ld hB0 rfl) ?_|refine Za (Yd ..) ?_|refine Za rfl ?_
   rcases YBE (!efsL (joinL u (cnL x.c)) x.thn) with a3|a3
   ·rw[a3];repeat first|refine Ya ?_|refine Xa ?_|refine Qa rfl ?_|refine Yb rfl ?_|refine Qb rfl ?_|refine Zc rfl ?_|refine Za (ld hB0 rfl) ?_|refine Za rfl ?_
    refine Xc (bad ?_);have a3:efsL (joinL u (cnL x.c)) x.thn=false:=by simpa using a3
    simp[a3]
   rw[a3];repeat first|refine Ya ?_|refine Xa ?_|refine Za (ld hB0 rfl) ?_|refine Za rfl ?_
   have a3:efsL (joinL u (cnL x.c)) x.thn=true:=by simpa using a3
   refine Xb (c146' k x.els _ (by omega) (ZJ hfx)) rfl g89.ok.plain rfl ?_;repeat first|refine Ya ?_|refine Xa ?_|refine Za (ld hB0 rfl) ?_|refine Za rfl ?_
   refine Zb (λh=>bad ?_) (λh=>kk ?_ _)
   ·have h:efsL (joinL u (cnL x.c)) x.els=false:=by simpa using h
    simp[h]
   ·have h:efsL (joinL u (cnL x.c)) x.els=true:=by simpa using h
    simp[a3,h]
  have a2:x.op≠8:=by simpa using a2
  rw[if_neg a2] at kk bad;repeat first|refine Za hN ?_|refine Za hC ?_|refine Za (ld hB0 rfl) ?_|refine Za (Yd ..) ?_|refine Za rfl ?_
  refine Yh λk1 hk1=>?_;have m1:∀c:Bool,c=decide (x.op=0∨x.op=1∨x.op=2∨x.op=3)→k1 [.bool c] base:=by
   rintro c hc;rw[hk1];refine Zb (λh=>?_) (λh=>?_)
   ·rw[h] at hc;rw[if_pos (by simpa using hc.symm)] at kk bad;repeat first|refine Za hN ?_|refine Za hC ?_|refine Za (ld hB0 rfl) ?_|refine Za (Yd ..) ?_|refine Za rfl ?_
    refine Xb (c191 _ (Z8 hfx)) rfl g140.ok.plain (nmRo _) ?_;refine Xb (c190 _ _) rfl g139.ok.plain rfl ?_;refine Za rfl ?_;exact Zb (λh=>bad (by simpa using h)) (λh=>kk (by simpa using h) _)
   ·rw[h] at hc;rw[if_neg (by simpa using hc.symm)] at kk bad;refine Xb (c190 _ _) rfl g139.ok.plain rfl ?_;refine Za rfl ?_;exact Zb (λh=>bad (by simpa using h)) (λh=>kk (by simpa using h) _)
  clear hk1;refine Zb (λh=>m1 _ ?_) (λh=>?_)
  ·simp at h; simp[h]
  refine Za (Yd ..) (Zb (λh2=>m1 _ ?_) (λh2=>?_))
  ·simp at h2; simp[h2]
  refine Za (Yd ..) (Zb (λh3=>m1 _ ?_) (λh3=>?_))
  ·simp at h3; simp[h3]
  refine Za (Yd ..) (m1 _ ?_);simp at h h2 h3; simp[h,h2,h3]
theorem c146(l:List Ef)(u:Int)(hf:lsFit l=true):PC 89 [iv8 u,efV l] (.bool (efsL u l)):=c146' _ l u (Nat.le_refl _) hf
theorem c114(cs:List Cd)(hf:QT cs=true):PC 51 [cdV cs] (.agg [iv (cdsL cs).1,iv (cdsL cs).2]):=by
 simp only[QT,Bool.and_eq_true,decide_eq_true_eq] at hf;obtain⟨f0,f1⟩:=hf;rw[bigE] at f0;refine Yc hP g51.ok rfl rfl ?_;rw[H1.e]; unfold g51; dsimp only;refine Zd rfl rfl ?_;refine Zg (ι:=Nat) (λi vs σ=>vs=[iv i]∧hget σ 0=.box [iv 0,iv 0]∧0<σ.length∧i≤cs.length∧cdsL cs=cdsL (cs.drop i)) (λi=>cs.length-i) 0 ⟨rfl,rfl,by simp,by omega,by simp⟩ ?_;rintro i vs σ again ⟨rfl,hz,hz2,hi,hu⟩ hag;refine Za rfl (Za rfl ?_);refine Zb (λh=>?_) (λh=>?_);rotate_left
 ·have h:i=cs.length:=by simp at h; omega
  subst h;rw[List.drop_length,cdsL] at hu;refine Za rfl (Zd (stv hz rfl rfl rfl) (Zz _ hz2) (Zt (QI hz2 rfl) ?_));rw[hu]
 have hi:i<cs.length:=by simpa using h
 have hdr:cs.drop i=cs[i]::cs.drop (i+1):=by rw[YLD hi]
 have hix:=λ(s:List ABlk)=>Yk s cdC false false 12 cs .i64 i hi;have hfi:=List.all_eq_true.1 f1 _ (List.getElem_mem hi);generalize cs[i]=c at hdr hix hfi;rw[hdr,cdsL] at hu;simp only[cdFit,Bool.and_eq_true,decide_eq_true_eq] at hfi;obtain⟨g0,g1,g2,g9993⟩:=hfi;refine Za (hix _) (Za (ldr (cdLd _)) (Zy (row:=cdC c) (row':=cdC c) rfl rfl rfl ?_));have hB0:=Qi σ (ABlk.box (cdC c));have hz':hget (σ++[ABlk.box (cdC c)]) 0=.box [iv 0,iv 0]:=Xj _ hz (by simp);have hz2':0<(σ++[ABlk.box (cdC c)]).length:=by simp
 generalize σ++[ABlk.box (cdC c)]=base at hB0 hz' hz2' ⊢;generalize σ.length=b at hB0 ⊢;clear hz hz2;repeat first|refine Za (ld hB0 rfl) ?_|refine Za rfl ?_
 refine Xb (c146 _ 0 g1) rfl g89.ok.plain rfl ?_;repeat first|refine Za (ld hB0 rfl) ?_|refine Za rfl ?_
 have bad:cdL c=false→VV.rd (Ye 11 [.bptr b 0] base) λt31_22=>True:=λ_=>Za rfl trivial;clear bad;apply cutF (cdL c=false)
 ·intro hR;have good:cdL c=true→VV.rd (Yn .add false [iv i,(.int .i64 1)] base) λt10_26=>again [t10_26] base:=by
   intro hc;rw[hc,if_pos rfl] at hu;refine Za (Yf ..) ?_;rw[Qc (n:=i) (by omega)];exact hag (i+1) _ _ (by omega) ⟨rfl,hz',hz2',by omega,hu⟩
  rcases YBE (!efsL 0 c.played) with a1|a1
  ·rw[a1];repeat first|refine Ya ?_|refine Xa ?_|refine Qa rfl ?_|refine Yb rfl ?_|refine Qb rfl ?_|refine Zc rfl ?_|refine Za (ld hB0 rfl) ?_|refine Za rfl ?_
   refine Xc (hR ?_);have a1:efsL 0 c.played=false:=by simpa using a1
   simp[cdL,a1]
  rw[a1];repeat first|refine Ya ?_|refine Xa ?_|refine Za (ld hB0 rfl) ?_|refine Za rfl ?_
  have a1:efsL 0 c.played=true:=by simpa using a1
  refine Xb (c146 _ 0 g2) rfl g89.ok.plain rfl ?_;repeat first|refine Ya ?_|refine Xa ?_|refine Za (ld hB0 rfl) ?_|refine Za rfl ?_
  rcases YBE (!efsL 0 c.dead) with a2|a2
  ·rw[a2];repeat first|refine Ya ?_|refine Xa ?_|refine Qa rfl ?_|refine Yb rfl ?_|refine Qb rfl ?_|refine Zc rfl ?_|refine Za (ld hB0 rfl) ?_|refine Za rfl ?_
   refine Xc (hR ?_);have a2:efsL 0 c.dead=false:=by simpa using a2
   simp[cdL,a2]
  rw[a2];repeat first|refine Ya ?_|refine Xa ?_|refine Za (ld hB0 rfl) ?_|refine Za rfl ?_
  have a2:efsL 0 c.dead=true:=by simpa using a2
  refine Xb (c146 _ 0 g9993) rfl g89.ok.plain rfl ?_;repeat first|refine Ya ?_|refine Xa ?_|refine Za (ld hB0 rfl) ?_|refine Za rfl ?_
  refine Zb (λa3=>hR ?_) (λa3=>good ?_)
  ·have a3:efsL 0 c.dawn=false:=by simpa using a3
   simp[cdL,a3]
  ·have a3:efsL 0 c.dawn=true:=by simpa using a3
   simp[cdL,a1,a2,a3]
 intro hc;rw[hc] at hu
 replace hu:cdsL cs=(140,c.pl):=hu
 refine Za rfl (Za (ld hB0 rfl) (Za rfl (Zd (stv hz' rfl rfl rfl) (Zz _ hz2') (Zt (QI hz2' rfl) ?_))));rw[hu]
end Go.Ah.Tz
end
section
namespace Go.Ah.Tz
open Go.Proofs.Tryz (prog)
def fndI:Nat→List Cd→Tx→Nat×Bool
 |_,[],_=>(0,false)
 |i,c::l,t=>if c.name==t then (i,true) else fndI (i+1) l t
def nmsGo(cs:List Cd):List Tx→List Tx→Bool
 |_,[]=>true
 |pre,t::l=>((fndI 0 cs t).2&&pre.all λp=>!(p==t))&&nmsGo cs (pre++[t]) l
def fmtOk(b:Bk)(pre:List Fo)(f:Fo):Bool:=
 !(pre.any λg=>g.name==f.name)&&(decide (pre.length<240)&&(nameOk f.name&&(decide (0≤f.least)&&(decide (f.least≤f.most)&&(decide (f.most≤60)&&(decide (0≤f.copies)&&(decide (f.copies≤999)&&(nmsGo b.cards [] f.banned&&nmsGo b.cards [] f.single))))))))
def fmtGo(b:Bk):List Fo→List Fo→Int×Int
 |_,[]=>(0,0)
 |pre,f::l=>if fmtOk b pre f then fmtGo b (pre++[f]) l else (151,f.pl)
def bkR(b:Bk):Int×Int:=if (cdsChk b.cards).1≠0 then cdsChk b.cards else if (cdsL b.cards).1≠0 then cdsL b.cards else fmtGo b [] b.formats
def foFit(f:Fo):Bool:=decide (f.name.length≤big)&&(decide (f.banned.length≤big)&&decide (f.single.length≤big))
def bkFit(b:Bk):Bool:=QT b.cards&&(decide (b.formats.length≤big)&&b.formats.all foFit)
attribute [local irreducible] Ans.rd Ans.pu Ans.wr Ans.dr Ans.gr Ans.gw Ans.gl Ans.gd Ans.opt joinK W
set_option maxHeartbeats 1000000
theorem c195(b:Bk)(hc:b.cards.length≤big)(t:Tx):PC 144 [bkV b,.str t] (.tup [iv (fndI 0 b.cards t).1,.bool (fndI 0 b.cards t).2]):=by
 rw[bigE] at hc;refine Yc hP g144.ok rfl rfl ?_;rw[H2.e]; unfold g144; dsimp only;refine Zd rfl rfl ?_;generalize hB:([]++[ABlk.box [cdV b.cards,foV b.formats]]:List ABlk)=base;have hB0:hget base 0=.box [cdV b.cards,foV b.formats]:=by rw[←hB]; rfl
 clear hB;generalize b.cards=cs at hc hB0 ⊢;refine Zg (ι:=Nat) (λi vs σ=>vs=[iv i]∧σ=base∧i≤cs.length∧fndI 0 cs t=fndI i (cs.drop i) t) (λi=>cs.length-i) 0 ⟨rfl,rfl,by omega,by simp⟩ ?_;rintro i vs σ again ⟨rfl,rfl,hi,hu⟩ hag;repeat first|refine Za (ld hB0 rfl) ?_|refine Za rfl ?_
 refine Zb (λh=>?_) (λh=>?_)
 ·have h:i<cs.length:=by simpa using h
  have hdr:cs.drop i=cs[i]::cs.drop (i+1):=by rw[YLD h]
  rw[hdr,fndI] at hu;refine Za rfl (Za (ld hB0 rfl) (Za (Yk _ cdC false false 12 cs .i64 i h) (Za rfl (Za (ldr (cdLd0 _)) (Za (Xd ..) ?_)))));refine Zb (λh=>?_) (λh=>?_)
  ·rw[if_pos h] at hu;rw[hu]; rfl
  ·rw[if_neg (by simpa using h)] at hu;refine Za (Yf ..) ?_;rw[Qc (n:=i) (by omega)]
   grind
 grind [fndI]
theorem c148(b:Bk)(hc:b.cards.length≤big)(l:List Tx)(hl:l.length≤big):PC 91 [bkV b,txV l] (.bool (nmsGo b.cards [] l)):=by
 rw[bigE] at hl;refine Yc hP g91.ok rfl rfl ?_;rw[H2.e]; unfold g91; dsimp only;refine Zd rfl rfl ?_;refine Zg (ι:=Nat) (λi vs σ=>vs=[iv i]∧σ=[]++[ABlk.box [cdV b.cards,foV b.formats]]∧i≤l.length∧nmsGo b.cards [] l=nmsGo b.cards (l.take i) (l.drop i)) (λi=>l.length-i) 0 ⟨rfl,rfl,by omega,by simp⟩ ?_;rintro i vs σ again ⟨rfl,rfl,hi,hu⟩ hag;refine Za rfl (Za rfl ?_);refine Zb (λh=>?_) (λh=>?_);rotate_left
 ·grind [nmsGo]
 have h:i<l.length:=by simpa using h
 have hdr:l.drop i=l[i]::l.drop (i+1):=by rw[YLD h]
 have hix:=λ(s:List ABlk)=>Yk s txC false false 1 l .i64 i h;have htk:l.take (i+1)=l.take i++[l[i]]:=Xu l i h;generalize l[i]=t at hdr hix htk;rw[hdr,nmsGo,←htk] at hu;refine Qe rfl rfl (Qe (hix _) rfl (Qe (ldr (txLd _)) rfl ?_));refine Qg (c195 b hc t) rfl g144.ok.plain rfl ?_;refine Yg rfl (Yg rfl (XX (by kernel_rfl) ?_));refine Zg (ι:=Nat) (λk vs σ=>∃ok,vs=[iv k,.bool ok]∧σ=[]++[ABlk.box [cdV b.cards,foV b.formats]]∧k≤i∧((fndI 0 b.cards t).2&&(l.take i).all λp=>!(p==t))=(ok&&((l.take i).drop k).all λp=>!(p==t))) (λk=>i-k) 0 ⟨_,rfl,rfl,by omega,by simp⟩ ?_;rintro k vs σ again2 ⟨ok,rfl,rfl,hk,hv⟩ hag2;refine Za rfl ?_;refine Zb (λh2=>?_) (λh2=>?_)
 ·have h2:k<i:=by simpa using h2
  have hkx:k<(l.take i).length:=by rw[List.length_take]; omega
  have hdr2:(l.take i).drop k=(l.take i)[k]::(l.take i).drop (k+1):=by rw[YLD hkx]
  rw[List.getElem_take] at hdr2;rw[hdr2,List.all_cons,←Bool.and_assoc] at hv;cases ok with
  |true=>
   have hixk:=λ(s:List ABlk)=>Yk s txC false false 1 l .i64 k (by omega);repeat first|refine Ya ?_|refine Za (hixk _) ?_|refine Za (hix _) ?_|refine Za (ldr (txLd _)) ?_|refine Za rfl ?_
   rw[Qc (n:=k) (by omega)];exact hag2 (k+1) _ _ (by omega) ⟨_,rfl,rfl,by omega,by rw[hv,Bool.true_and]⟩
  |false=>
   repeat first|refine Qa rfl ?_|refine Qb rfl ?_
   refine Za rfl (Za (Yf ..) ?_);rw[Qc (n:=k) (by omega)];exact hag2 (k+1) _ _ (by omega) ⟨_,rfl,rfl,by omega,by rw[hv]; simp⟩
 have h2:k=i:=by simp at h2; omega
 subst h2;rw[List.drop_eq_nil_of_le (by rw[List.length_take]; omega),List.all_nil,Bool.and_true] at hv;rw[hv] at hu;refine Za rfl ?_;refine Zb (λh3=>?_) (λh3=>?_)
 ·simp_all
 ·have h3:ok=true:=by simpa using h3
  subst h3;rw[Bool.true_and] at hu;refine Za (Yf ..) ?_;rw[Qc (n:=k) (by omega)]
  grind
theorem foLd(x:Fo):partA true 0 7 (foC x)=some (.agg (foC x)):=rfl
theorem foLd0(x:Fo):partA false 0 1 (foC x)=some (.str x.name):=rfl
theorem foLd6(x:Fo):partA false 6 1 (foC x)=some (iv x.pl):=rfl
theorem c115(b:Bk)(hc:b.cards.length≤big)(hfl:b.formats.length≤big)(k:Nat)(hk:k<b.formats.length)(hf:foFit b.formats[k]=true):PC 52 [bkV b,iv k] (.bool (fmtOk b (b.formats.take k) b.formats[k])):=by
 rw[bigE] at hfl;refine Yc hP g52.ok rfl rfl ?_;rw[H2.e]; unfold g52; dsimp only;refine Zd rfl rfl ?_;have hix:=λ(s:List ABlk)=>Yk s foC false false 7 b.formats .i64 k hk;generalize b.formats[k]=f at hf hix ⊢;simp only[foFit,Bool.and_eq_true,decide_eq_true_eq] at hf;obtain⟨f0,f1,f2⟩:=hf;refine Za rfl (Za rfl (Za (hix _) (Za (ldr (foLd f)) (Zy (row:=foC f) (row':=foC f) rfl rfl rfl ?_))));generalize hB:([]++[ABlk.box [cdV b.cards,foV b.formats]]++[ABlk.box (foC f)]:List ABlk)=base;have hB0:hget base 0=.box [cdV b.cards,foV b.formats]:=by rw[←hB]; rfl
 have hB1:hget base 1=.box (foC f):=by rw[←hB]; rfl
 clear hB;have htl:(b.formats.take k).length=k:=by rw[List.length_take]; omega
 refine Zg (ι:=Nat) (λj vs σ=>vs=[iv j]∧σ=base∧j≤k∧((b.formats.take k).any λg=>g.name==f.name)=(((b.formats.take k).drop j).any λg=>g.name==f.name)) (λj=>k-j) 0 ⟨rfl,rfl,by omega,by simp⟩ ?_;rintro j vs σ again ⟨rfl,rfl,hj,hv⟩ hag;refine Za rfl ?_;refine Zb (λh=>?_) (λh=>?_)
 ·have h:j<k:=by simpa using h
  have hjx:j<(b.formats.take k).length:=by omega
  have hdr2:(b.formats.take k).drop j=(b.formats.take k)[j]::(b.formats.take k).drop (j+1):=by rw[YLD hjx]
  rw[List.getElem_take] at hdr2;rw[hdr2,List.any_cons] at hv;refine Za rfl (Za (ld hB0 rfl) (Za (Yk _ foC false false 7 b.formats .i64 j (by omega)) (Za rfl (Za (ldr (foLd0 _)) (Za rfl (Za (ld hB1 rfl) (Za (Xd ..) ?_)))))));refine Zb (λh=>?_) (λh=>?_)
  ·grind [fmtOk]
  ·rw[h,Bool.false_or] at hv;refine Za (Yf ..) ?_;rw[Qc (n:=j) (by omega)]
   grind
 have h:j=k:=by simp at h; omega
 subst h;rw[List.drop_eq_nil_of_le (by omega),List.any_nil] at hv;unfold fmtOk;rw[hv,htl,Bool.not_false,Bool.true_and];clear hv hag hix;refine Za rfl ?_;rcases YBE (decide ((j:Int) ≥ 240)) with a1|a1
 ·rw[a1];repeat first|refine Ya ?_|refine Xa ?_|refine Qa rfl ?_|refine Yb rfl ?_|refine Qb rfl ?_|refine Zc rfl ?_|refine Za (ld hB0 rfl) ?_|refine Za (ld hB1 rfl) ?_|refine Za rfl ?_
  refine Xc ?_
  grind
 rw[a1];repeat first|refine Ya ?_|refine Xa ?_|refine Za (ld hB0 rfl) ?_|refine Za (ld hB1 rfl) ?_|refine Za rfl ?_
 have a1:j<240:=by simp at a1; omega
 refine Xb (c147 _ f0) rfl g90.ok.plain rfl ?_;repeat first|refine Ya ?_|refine Xa ?_|refine Za (ld hB0 rfl) ?_|refine Za (ld hB1 rfl) ?_|refine Za rfl ?_
 refine Zb (λa2=>?_) (λa2=>?_)
 ·simp_all
 have a2:nameOk f.name=true:=by simpa using a2
 rw[decide_eq_true a1,a2,Bool.true_and,Bool.true_and];clear a1 a2;repeat first|refine Ya ?_|refine Xa ?_|refine Za (ld hB0 rfl) ?_|refine Za (ld hB1 rfl) ?_|refine Za rfl ?_
 rcases YBE (decide (f.least ≥ 0)) with b1|b1
 rotate_left
 ·rw[b1];repeat first|refine Ya ?_|refine Xa ?_|refine Qa rfl ?_|refine Yb rfl ?_|refine Qb rfl ?_|refine Zc rfl ?_|refine Za (ld hB0 rfl) ?_|refine Za (ld hB1 rfl) ?_|refine Za rfl ?_
  rfl
 rw[b1];repeat first|refine Ya ?_|refine Xa ?_|refine Za (ld hB0 rfl) ?_|refine Za (ld hB1 rfl) ?_|refine Za rfl ?_
 have b1:0≤f.least:=by simpa using b1
 rcases YBE (decide (f.least≤f.most)) with b2|b2
 rotate_left
 ·rw[b2];repeat first|refine Ya ?_|refine Xa ?_|refine Qa rfl ?_|refine Yb rfl ?_|refine Qb rfl ?_|refine Zc rfl ?_|refine Za (ld hB0 rfl) ?_|refine Za (ld hB1 rfl) ?_|refine Za rfl ?_
  rfl
 rw[b2];repeat first|refine Ya ?_|refine Xa ?_|refine Za (ld hB0 rfl) ?_|refine Za (ld hB1 rfl) ?_|refine Za rfl ?_
 have b2:f.least≤f.most:=by simpa using b2
 rcases YBE (decide (f.most≤60)) with b3|b3
 rotate_left
 ·rw[b3];repeat first|refine Ya ?_|refine Xa ?_|refine Qa rfl ?_|refine Yb rfl ?_|refine Qb rfl ?_|refine Zc rfl ?_|refine Za (ld hB0 rfl) ?_|refine Za (ld hB1 rfl) ?_|refine Za rfl ?_
  rfl
 rw[b3];repeat first|refine Ya ?_|refine Xa ?_|refine Za (ld hB0 rfl) ?_|refine Za (ld hB1 rfl) ?_|refine Za rfl ?_
 have b3:f.most≤60:=by simpa using b3
 rcases YBE (decide (f.copies ≥ 0)) with b4|b4
 rotate_left
 ·rw[b4];repeat first|refine Ya ?_|refine Xa ?_|refine Qa rfl ?_|refine Yb rfl ?_|refine Qb rfl ?_|refine Zc rfl ?_|refine Za (ld hB0 rfl) ?_|refine Za (ld hB1 rfl) ?_|refine Za rfl ?_
  rfl
 rw[b4];repeat first|refine Ya ?_|refine Xa ?_|refine Za (ld hB0 rfl) ?_|refine Za (ld hB1 rfl) ?_|refine Za rfl ?_
 have b4:0≤f.copies:=by simpa using b4
 rcases YBE (decide (f.copies≤999)) with b5|b5
 rotate_left
 ·rw[b5];repeat first|refine Ya ?_|refine Xa ?_|refine Qa rfl ?_|refine Yb rfl ?_|refine Qb rfl ?_|refine Zc rfl ?_|refine Za (ld hB0 rfl) ?_|refine Za (ld hB1 rfl) ?_|refine Za rfl ?_
  rfl
 rw[b5];repeat first|refine Ya ?_|refine Xa ?_|refine Za (ld hB0 rfl) ?_|refine Za (ld hB1 rfl) ?_|refine Za rfl ?_
 have b5:f.copies≤999:=by simpa using b5
 simp only[b1,b2,b3,b4,b5,decide_true,Bool.true_and];refine Xb (c148 b hc _ f1) rfl g91.ok.plain rfl ?_;repeat first|refine Ya ?_|refine Xa ?_|refine Za (ld hB0 rfl) ?_|refine Za (ld hB1 rfl) ?_|refine Za rfl ?_
 rcases YBE (nmsGo b.cards [] f.banned) with c1|c1
 rotate_left
 ·rw[c1];repeat first|refine Ya ?_|refine Xa ?_|refine Qa rfl ?_|refine Yb rfl ?_|refine Qb rfl ?_|refine Zc rfl ?_|refine Za (ld hB0 rfl) ?_|refine Za (ld hB1 rfl) ?_|refine Za rfl ?_
  simp[c1]
 rw[c1];repeat first|refine Ya ?_|refine Xa ?_|refine Za (ld hB0 rfl) ?_|refine Za (ld hB1 rfl) ?_|refine Za rfl ?_
 refine Xb (c148 b hc _ f2) rfl g91.ok.plain rfl ?_;repeat first|refine Ya ?_|refine Xa ?_|refine Za (ld hB0 rfl) ?_|refine Za (ld hB1 rfl) ?_|refine Za rfl ?_
 simp[c1]
theorem c67(b:Bk)(hf:bkFit b=true):PC 24 [bkV b] (.agg [iv (bkR b).1,iv (bkR b).2]):=by
 simp only[bkFit,Bool.and_eq_true,decide_eq_true_eq] at hf;obtain⟨f0,f1,f2⟩:=hf;have f12:=f1;rw[bigE] at f12;have fc:b.cards.length≤big:=by simp_all [QT]
 refine Yc hP g24.ok rfl rfl ?_;rw[H1.e]; unfold g24; dsimp only;refine Zd rfl rfl (Zd rfl rfl (Za rfl (Za rfl ?_)));refine Xb (c113 _ f0) rfl g50.ok.plain rfl ?_;refine Zy rfl rfl rfl (Za rfl (Za rfl (Za rfl ?_)));unfold bkR;refine Zb (λh=>?_) (λh=>?_)
 ·rw[if_pos (by simpa using h)];refine Za rfl (Zd rfl rfl (Zt rfl rfl))
 rw[if_neg (by simpa using h)];refine Za rfl (Za rfl ?_);refine Xb (c114 _ f0) rfl g51.ok.plain rfl ?_;refine Zy rfl rfl rfl (Za rfl (Za rfl (Za rfl ?_)));refine Zb (λh=>?_) (λh=>?_)
 ·rw[if_pos (by simpa using h)];refine Za rfl (Zd rfl rfl (Zt rfl rfl))
 rw[if_neg (by simpa using h)];generalize cdsChk b.cards=p1;generalize cdsL b.cards=p2;refine Zg (ι:=Nat) (λi vs σ=>vs=[iv i]∧σ=[]++[ABlk.box [cdV b.cards,foV b.formats]]++[.box [iv 0,iv 0]]++[.box [iv p1.1,iv p1.2]]++[.box [iv p2.1,iv p2.2]]∧i≤b.formats.length∧fmtGo b [] b.formats=fmtGo b (b.formats.take i) (b.formats.drop i)) (λi=>b.formats.length-i) 0 ⟨rfl,rfl,by omega,by simp⟩ ?_;rintro i vs σ again ⟨rfl,rfl,hi,hu⟩ hag;refine Za rfl (Za rfl (Za rfl (Za rfl ?_)));refine Zb (λh=>?_) (λh=>?_);rotate_left
 ·have h:i=b.formats.length:=by simp at h; omega
  subst h;rw[List.drop_length,fmtGo] at hu;refine Za rfl (Zd rfl rfl (Zt rfl ?_));rw[hu]
 have h:i<b.formats.length:=by simpa using h
 have hdr:b.formats.drop i=b.formats[i]::b.formats.drop (i+1):=by rw[YLD h]
 have hix:=λ(s:List ABlk)=>Yk s foC false false 7 b.formats .i64 i h;have htk:b.formats.take (i+1)=b.formats.take i++[b.formats[i]]:=Xu b.formats i h;have hmy:=c115 b fc f1 i h (List.all_eq_true.1 f2 _ (List.getElem_mem h));generalize b.formats[i]=f at hdr hix htk hmy;rw[hdr,fmtGo,←htk] at hu;refine Za rfl ?_;refine Xb hmy rfl g52.ok.plain rfl ?_;refine Za rfl ?_;refine Zb (λh3=>?_) (λh3=>?_)
 ·rw[if_neg (by simpa using h3)] at hu;refine Za rfl (Za rfl (Za (hix _) (Za rfl (Za (ldr (foLd6 _)) (Za rfl (Zd rfl rfl (Zt rfl ?_)))))));rw[hu]
 ·rw[if_pos (by simpa using h3)] at hu;refine Za (Yf ..) ?_;rw[Qc (n:=i) (by omega)]
  grind
end Go.Ah.Tz
end
section
namespace Go.Ah.Tz
open Go.Proofs.Tryz (prog)
structure NmAt (row:List AVal) (j:Nat) (x:Nm):Prop where
 h0:partA false (j+0) 1 row=some (iv8 x.op)
 h1:partA false (j+1) 1 row=some (iv x.n)
 h2:partA false (j+2) 1 row=some (iv8 x.who)
 h3:partA false (j+3) 1 row=some (.rsl false false 4 (x.kids.map nmC))
theorem nmAt(x:Nm):NmAt (nmC x) 0 x:=by rw[Yx]; exact⟨rfl,rfl,rfl,rfl⟩
theorem nmAt2(x:Ef):NmAt (efC x) 2 x.n:=by rw[ZI]; exact⟨rfl,rfl,rfl,rfl⟩
attribute [local irreducible] Ans.rd Ans.pu Ans.wr Ans.dr Ans.gr Ans.gw Ans.gl Ans.gd Ans.opt joinK W
set_option maxHeartbeats 1000000
theorem c210(w:Int):PC 179 [iv8 w] (.bool (cntOp w)):=by
 refine Yc hP g179.ok rfl rfl ?_;rw[H1.e]; unfold g179; dsimp only;refine Za (Yd ..) ?_;refine Yh λk1 hk1=>?_;have kk:∀c,c=cntOp w→k1 [.bool c] []:=by
  simp_all
 clear hk1;refine Zb (λa0=>kk _ ?_) (λa0=>?_)
 ·simp at a0; simp[cntOp,a0]
 refine Za (Yd ..) (Zb (λa1=>kk _ ?_) (λa1=>?_))
 ·simp at a1; simp[cntOp,a1]
 refine Za (Yd ..) (Zb (λa2=>kk _ ?_) (λa2=>?_))
 ·simp at a2; simp[cntOp,a2]
 refine Za (Yd ..) (Zb (λa3=>kk _ ?_) (λa3=>?_))
 ·simp at a3; simp[cntOp,a3]
 refine Za (Yd ..) (kk _ ?_);simp_all [cntOp]
theorem c212(w:Int):PC 181 [iv8 w] (.bool (sdOp w)):=by
 refine Yc hP g181.ok rfl rfl ?_;rw[H1.e]; unfold g181; dsimp only;refine Za (Yd ..) ?_;rcases YBE (decide (w=0)) with h1|h1
 ·rw[h1];repeat first|refine Ya ?_|refine Xa ?_|refine Qa rfl ?_|refine Yb rfl ?_|refine Qb rfl ?_|refine Zc rfl ?_|refine Za rfl ?_
  simp at h1; simp[sdOp,h1]
 rw[h1];repeat first|refine Ya ?_|refine Xa ?_|refine Za rfl ?_
 have h1:w≠0:=by simpa using h1
 exact congrArg AVal.bool (by rw[Bool.eq_iff_iff]; simp[sdOp,h1])
theorem c211'(u:AVal)(t:Bool):∀(k:Nat) (x:Nm) (row:List AVal) (j:Nat),NmAt row j x→SizeOf.sizeOf x≤k→nmFit x=true→PC 180 [.rptr [u,.bool t] 0,.rptr row j] (.bool (nmOk t x))
 |0,x,_,_,_,h,_=>by cases x; simp at h
 |k+1,x,row,j,hx,hk,hf=>by
  refine Yc hP g180.ok rfl rfl ?_;rw[H2.e]; unfold g180; dsimp only;rw[Ycr];have hlen:=Y5 hf;rw[bigE] at hlen;repeat first|refine Za (ldr hx.h0) ?_|refine Za (ldr hx.h1) ?_|refine Za (ldr hx.h2) ?_|refine Za (ldr hx.h3) ?_|refine Za (Yd ..) ?_|refine Za (ldr (row:=[u,.bool t]) rfl) ?_|refine Za rfl ?_
  refine Yh λk11 hk11=>?_;have bad:∀b1 b2 b3:Bool,(b1&&(b2&&b3))=false→AVal.bool false=AVal.bool (b1&&(b2&&b3)):=by
   intro b1 b2 b3 h; rw[h]
  have kk:∀(p o:Bool) (kd:Nat),kd=nmK x.op→(0≤x.op∧x.op≤12)→(p&&o)=nmEnd t x.op x.n x.who→k11 [.bool p,.bool o,iv kd] []:=by
   rintro p o kd rfl hop hpo;rw[hk11]; clear hk11 k11;repeat first|refine Za (ldr hx.h0) ?_|refine Za (ldr hx.h1) ?_|refine Za (ldr hx.h2) ?_|refine Za (ldr hx.h3) ?_|refine Za (Yd ..) ?_|refine Za (ldr (row:=[u,.bool t]) rfl) ?_|refine Za rfl ?_
   cases p with
   |false=>
    repeat first|refine Ya ?_|refine Xa ?_|refine Qa rfl ?_|refine Yb rfl ?_|refine Qb rfl ?_|refine Zc rfl ?_|refine Za (ldr hx.h0) ?_|refine Za (ldr hx.h1) ?_|refine Za (ldr hx.h2) ?_|refine Za (ldr hx.h3) ?_|refine Za (Yd ..) ?_|refine Za (ldr (row:=[u,.bool t]) rfl) ?_|refine Za rfl ?_
    refine Xc (bad _ _ _ ?_);rw[←hpo]; simp
   |true=>
    repeat first|refine Ya ?_|refine Xa ?_|refine Za (ldr hx.h0) ?_|refine Za (ldr hx.h1) ?_|refine Za (ldr hx.h2) ?_|refine Za (ldr hx.h3) ?_|refine Za (Yd ..) ?_|refine Za (ldr (row:=[u,.bool t]) rfl) ?_|refine Za rfl ?_
    cases o with
    |false=>
     repeat first|refine Ya ?_|refine Xa ?_|refine Qa rfl ?_|refine Yb rfl ?_|refine Qb rfl ?_|refine Zc rfl ?_|refine Za (ldr hx.h0) ?_|refine Za (ldr hx.h1) ?_|refine Za (ldr hx.h2) ?_|refine Za (ldr hx.h3) ?_|refine Za (Yd ..) ?_|refine Za (ldr (row:=[u,.bool t]) rfl) ?_|refine Za rfl ?_
     refine Xc (bad _ _ _ ?_);rw[←hpo]; simp
    |true=>
     repeat first|refine Ya ?_|refine Xa ?_|refine Za (ldr hx.h0) ?_|refine Za (ldr hx.h1) ?_|refine Za (ldr hx.h2) ?_|refine Za (ldr hx.h3) ?_|refine Za (Yd ..) ?_|refine Za (ldr (row:=[u,.bool t]) rfl) ?_|refine Za rfl ?_
     refine Zb (λh=>bad _ _ _ ?_) (λh=>?_)
     ·have:nmTop t x.op x.n x.who x.kids.length=false:=by
       rw[Bool.eq_false_iff]; intro hh; simp[nmTop] at hh; simp at h; omega
      rw[this]; rfl
     have ht:nmTop t x.op x.n x.who x.kids.length=true:=by simp at h; simp[nmTop]; omega
     rw[ht,←hpo,Bool.true_and,Bool.and_self,Bool.and_true];repeat first|refine Za (ldr hx.h0) ?_|refine Za (ldr hx.h1) ?_|refine Za (ldr hx.h2) ?_|refine Za (ldr hx.h3) ?_|refine Za (Yd ..) ?_|refine Za (ldr (row:=[u,.bool t]) rfl) ?_|refine Za rfl ?_
     refine Zg (ι:=Nat) (λi vs σ=>vs=[iv i]∧σ=[]∧i≤x.kids.length∧nmsOk t x.kids=nmsOk t (x.kids.drop i)) (λi=>x.kids.length-i) 0 ⟨rfl,rfl,by omega,by simp⟩ ?_;rintro i vs σ again ⟨rfl,rfl,hi,hu⟩ hag;refine Za rfl ?_;refine Zb (λh=>?_) (λh=>?_)
     ·have h:i<x.kids.length:=by simpa using h
      have hdr:x.kids.drop i=x.kids[i]::x.kids.drop (i+1):=by rw[YLD h]
      rw[hdr,nmsOk] at hu;have hm:x.kids[i]∈x.kids:=List.getElem_mem h;refine Za rfl (Za rfl (Za (ldr hx.h3) (Za (Yk _ nmC _ _ _ x.kids _ i h) ?_)));refine Xb (c211' u t k _ _ 0 (nmAt _) (by have:=Qam hm; omega) (ZW hf hm)) rfl g180.ok.plain rfl ?_;refine Za rfl ?_;refine Zb (λh4=>?_) (λh4=>?_)
      ·have h4:nmOk t x.kids[i]=false:=by simpa using h4
       rw[hu,h4]; rfl
      ·have h4:nmOk t x.kids[i]=true:=by simpa using h4
       rw[h4,Bool.true_and] at hu;refine Za (Yf ..) ?_;rw[Qc (n:=i) (by omega)];exact hag (i+1) _ _ (by omega) ⟨rfl,rfl,by omega,hu⟩
     have h:i=x.kids.length:=by simp at h; omega
     subst h;rw[List.drop_length,nmsOk] at hu;rw[hu]
  clear hk11;repeat first|refine Za (ldr hx.h0) ?_|refine Za (ldr hx.h1) ?_|refine Za (ldr hx.h2) ?_|refine Za (ldr hx.h3) ?_|refine Za (Yd ..) ?_|refine Za (ldr (row:=[u,.bool t]) rfl) ?_|refine Za rfl ?_
  refine Zb (λa0=>?_) (λa0=>?_)
  ·have a0:x.op=0:=by simpa using a0
   repeat first|refine Za (ldr hx.h0) ?_|refine Za (ldr hx.h1) ?_|refine Za (ldr hx.h2) ?_|refine Za (ldr hx.h3) ?_|refine Za (Yd ..) ?_|refine Za (ldr (row:=[u,.bool t]) rfl) ?_|refine Za rfl ?_
   have e:nmEnd t x.op x.n x.who=((decide (0≤x.n)&&decide (x.n≤999))&&decide (x.who=0)):=by simp[nmEnd,a0,Bool.and_assoc]
   rcases YBE (decide (x.n ≥ 0)) with h|h
   ·rw[h];repeat first|refine Ya ?_|refine Xa ?_|refine Za (ldr hx.h0) ?_|refine Za (ldr hx.h1) ?_|refine Za (ldr hx.h2) ?_|refine Za (ldr hx.h3) ?_|refine Za (Yd ..) ?_|refine Za (ldr (row:=[u,.bool t]) rfl) ?_|refine Za rfl ?_
    refine kk _ _ 0 (by simp[nmK,a0]) (by omega) ?_;simp at h; rw[e]; simp[h]
   ·rw[h];repeat first|refine Ya ?_|refine Xa ?_|refine Qa rfl ?_|refine Yb rfl ?_|refine Qb rfl ?_|refine Zc rfl ?_|refine Za (ldr hx.h0) ?_|refine Za (ldr hx.h1) ?_|refine Za (ldr hx.h2) ?_|refine Za (ldr hx.h3) ?_|refine Za (Yd ..) ?_|refine Za (ldr (row:=[u,.bool t]) rfl) ?_|refine Za rfl ?_
    refine kk _ _ 0 (by simp[nmK,a0]) (by omega) ?_;simp at h; rw[e]; simp; intro h1; omega
  have a0:x.op≠0:=by simpa using a0
  repeat first|refine Za (ldr hx.h0) ?_|refine Za (ldr hx.h1) ?_|refine Za (ldr hx.h2) ?_|refine Za (ldr hx.h3) ?_|refine Za (Yd ..) ?_|refine Za (ldr (row:=[u,.bool t]) rfl) ?_|refine Za rfl ?_
  refine Yh λk25 hk25=>?_;have m1:∀c,c=decide (x.op=1∨x.op=2∨x.op=3∨x.op=4)→k25 [.bool c] []:=by
   rintro c hc;rw[hk25]; clear hk25 k25;refine Zb (λh=>?_) (λh=>?_)
   ·rw[h] at hc;have a1:x.op=1∨x.op=2∨x.op=3∨x.op=4:=by simpa using hc.symm
    repeat first|refine Za (ldr hx.h0) ?_|refine Za (ldr hx.h1) ?_|refine Za (ldr hx.h2) ?_|refine Za (ldr hx.h3) ?_|refine Za (Yd ..) ?_|refine Za (ldr (row:=[u,.bool t]) rfl) ?_|refine Za rfl ?_
    refine Xb (c212 _) rfl g181.ok.plain rfl ?_;refine kk _ _ 0 (by simp[nmK]; omega) (by omega) ?_;rw[nmEnd,if_neg a0,if_pos (by omega)]
   rw[h] at hc;have a1:¬(x.op=1∨x.op=2∨x.op=3∨x.op=4):=by simpa using hc.symm
   have e:nmEnd t x.op x.n x.who=(decide (x.n=0)&&(decide (x.who=0)&&(decide (x.op≠7)||t)))∨¬(0≤x.op∧x.op≤12):=by
    by_cases hr:0≤x.op∧x.op≤12
    ·left; rw[nmEnd,if_neg a0,if_neg (by omega)]
    ·right; exact hr
   repeat first|refine Za (ldr hx.h0) ?_|refine Za (ldr hx.h1) ?_|refine Za (ldr hx.h2) ?_|refine Za (ldr hx.h3) ?_|refine Za (Yd ..) ?_|refine Za (ldr (row:=[u,.bool t]) rfl) ?_|refine Za rfl ?_
   refine Yh λk35 hk35=>?_;have m2:∀c,c=decide (x.op=5∨x.op=6)→k35 [.bool c] []:=by
    rintro c hc;rw[hk35]; clear hk35 k35;refine Zb (λh=>?_) (λh=>?_)
    ·rw[h] at hc;have a2:x.op=5∨x.op=6:=by simpa using hc.symm
     refine kk _ _ 0 (by simp[nmK]; omega) (by omega) ?_;rcases e with e|e
     ·rw[e]; simp[show x.op≠7 by omega]
     ·omega
    rw[h] at hc;have a2:¬(x.op=5∨x.op=6):=by simpa using hc.symm
    repeat first|refine Za (ldr hx.h0) ?_|refine Za (ldr hx.h1) ?_|refine Za (ldr hx.h2) ?_|refine Za (ldr hx.h3) ?_|refine Za (Yd ..) ?_|refine Za (ldr (row:=[u,.bool t]) rfl) ?_|refine Za rfl ?_
    refine Zb (λa3=>?_) (λa3=>?_)
    ·have a3:x.op=7:=by simpa using a3
     rcases e with e|e
     ·rcases YBE (decide (x.who=0)) with h|h
      ·rw[h];repeat first|refine Ya ?_|refine Xa ?_|refine Za (ldr hx.h0) ?_|refine Za (ldr hx.h1) ?_|refine Za (ldr hx.h2) ?_|refine Za (ldr hx.h3) ?_|refine Za (Yd ..) ?_|refine Za (ldr (row:=[u,.bool t]) rfl) ?_|refine Za rfl ?_
       refine kk _ _ 0 (by simp[nmK,a3]) (by omega) ?_;rw[e,h]; simp[a3]
      ·rw[h];repeat first|refine Ya ?_|refine Xa ?_|refine Qa rfl ?_|refine Yb rfl ?_|refine Qb rfl ?_|refine Zc rfl ?_|refine Za (ldr hx.h0) ?_|refine Za (ldr hx.h1) ?_|refine Za (ldr hx.h2) ?_|refine Za (ldr hx.h3) ?_|refine Za (Yd ..) ?_|refine Za (ldr (row:=[u,.bool t]) rfl) ?_|refine Za rfl ?_
       refine kk _ _ 0 (by simp[nmK,a3]) (by omega) ?_;rw[e,h]; simp
     ·omega
    have a3:x.op≠7:=by simpa using a3
    repeat first|refine Za (ldr hx.h0) ?_|refine Za (ldr hx.h1) ?_|refine Za (ldr hx.h2) ?_|refine Za (ldr hx.h3) ?_|refine Za (Yd ..) ?_|refine Za (ldr (row:=[u,.bool t]) rfl) ?_|refine Za rfl ?_
    refine Yh λk45 hk45=>?_;have m3:∀c,c=decide (x.op=8∨x.op=9∨x.op=10∨x.op=11∨x.op=12)→k45 [.bool c] []:=by
     rintro c hc;rw[hk45]; clear hk45 k45;refine Zb (λh=>?_) (λh=>?_)
     ·rw[h] at hc;have a4:x.op=8∨x.op=9∨x.op=10∨x.op=11∨x.op=12:=by simpa using hc.symm
      refine kk _ _ 2 (by simp[nmK]; omega) (by omega) ?_;rcases e with e|e
      ·rw[e]; simp[a3]
      ·omega
     ·rw[h] at hc;have a4:¬(x.op=8∨x.op=9∨x.op=10∨x.op=11∨x.op=12):=by simpa using hc.symm
      refine bad _ _ _ ?_;have:nmTop t x.op x.n x.who x.kids.length=false:=by
       rw[Bool.eq_false_iff]; intro hh; simp[nmTop] at hh; omega
      rw[this]; rfl
    clear hk45;refine Zb (λc1=>m3 _ ?_) (λc1=>?_)
    ·simp at c1; simp[c1]
    refine Za (Yd ..) (Zb (λc2=>m3 _ ?_) (λc2=>?_))
    ·simp at c2; simp[c2]
    refine Za (Yd ..) (Zb (λc3=>m3 _ ?_) (λc3=>?_))
    ·simp at c3; simp[c3]
    refine Za (Yd ..) (Zb (λc4=>m3 _ ?_) (λc4=>?_))
    ·simp at c4; simp[c4]
    refine Za (Yd ..) (m3 _ ?_);simp at c1 c2 c3 c4; simp[c1,c2,c3,c4]
   clear hk35;refine Zb (λc1=>m2 _ ?_) (λc1=>?_)
   ·simp at c1; simp[c1]
   refine Za (Yd ..) (m2 _ ?_);simp at c1; simp[c1]
  clear hk25;refine Zb (λc1=>m1 _ ?_) (λc1=>?_)
  ·simp at c1; simp[c1]
  refine Za (Yd ..) (Zb (λc2=>m1 _ ?_) (λc2=>?_))
  ·simp at c2; simp[c2]
  refine Za (Yd ..) (Zb (λc3=>m1 _ ?_) (λc3=>?_))
  ·simp at c3; simp[c3]
  refine Za (Yd ..) (m1 _ ?_);simp at c1 c2 c3; simp[c1,c2,c3]
theorem c211(u:AVal)(t:Bool)(x:Nm)(row:List AVal)(j:Nat)(hx:NmAt row j x)(hf:nmFit x=true):PC 180 [.rptr [u,.bool t] 0,.rptr row j] (.bool (nmOk t x)):=c211' u t _ x row j hx (Nat.le_refl _) hf
end Go.Ah.Tz
end
section
namespace Go.Ah.Tz
open Go.Proofs.Tryz (prog)
def tlook(t:Tx):List (Tx×Bool)→Option Bool
 |[]=>none
 |p::l=>if t==p.1 then some p.2 else tlook t l
def mpE(l:List (Tx×Bool)):List (AVal×AVal):=l.map λp=>(AVal.str p.1,AVal.bool p.2)
theorem Zac(t:Tx):∀l,alook (.str t) (mpE l)=some ((tlook t l).map AVal.bool)
 |[]=>rfl
 |p::l=>by
  simp only[mpE,List.map_cons,alook,keyEq,tlook];cases h:t==p.1 with
  |true=>rfl
  |false=>exact Zac t l
def chkM(l:List (Tx×Bool))(t:Bool):List AVal:=[.rmap (mpE l),.bool t]
theorem YV(l:List (Tx×Bool))(t:Tx)(σ:List ABlk):Xr true true (.bool false) [.rmap (mpE l),.str t] σ=.ok (.tup [.bool ((tlook t l).getD false),.bool (tlook t l).isSome]) [] []:=by
 show (match alook (.str t) (mpE l) with
  |some r=>SRes.ok (lookV true (.bool false) r) [] []
  | none=>.stop)=_
 rw[Zac];cases tlook t l<;>rfl
theorem Xh(l:List (Tx×Bool))(t:Tx)(σ:List ABlk):Xr true false (.bool false) [.rmap (mpE l),.str t] σ=.ok (.bool ((tlook t l).getD false)) [] []:=by
 show (match alook (.str t) (mpE l) with
  |some r=>SRes.ok (lookV false (.bool false) r) [] []
  | none=>.stop)=_
 rw[Zac];cases tlook t l<;>rfl
def Units(l:List (Tx×Bool))(cs:List Cd):Prop:=∀t u,findC cs t u=match tlook t l with
 |none=>false
 |some b=>b || !u
structure CnAt (row:List AVal) (j:Nat) (x:Cn):Prop where
 h0:partA false (j+0) 1 row=some (iv8 x.op)
 h1:partA false (j+1) 1 row=some (iv8 x.who)
 h2:partA false (j+2) 1 row=some (.str x.name)
 h3:partA false (j+3) 1 row=some (.rsl false false 4 (x.nums.map nmC))
 h4:partA false (j+4) 1 row=some (.rsl false false 5 (x.kids.map cnC))
theorem cnAt(x:Cn):CnAt (cnC x) 0 x:=by rw[QH]; exact⟨rfl,rfl,rfl,rfl,rfl⟩
theorem cnAt7(x:Ef):CnAt (efC x) 7 x.c:=by rw[ZI]; exact⟨rfl,rfl,rfl,rfl,rfl⟩
attribute [local irreducible] Ans.rd Ans.pu Ans.wr Ans.dr Ans.gr Ans.gw Ans.gl Ans.gd Ans.opt joinK W
set_option maxHeartbeats 1000000
theorem YcP{P:Program}{GL:Globs}{c d:Bool}{K:AVal→Prop}{r1:SRes}{f2 f3 f4 f5:AVal→SRes}{σ:List ABlk}{v1 v2 v3 v4:AVal}{q1 q2 q3 q4 q5:List Nat}(h1:r1=.ok v1 q1 [])(h2:f2 v1=.ok v2 q2 [])(h3:f3 v2=.ok v3 q3 [])(h4:f4 v3=.ok v4 q4 [])(h5:f5 v4=.ok (.bool d) q5 [])(hK:K (.bool (c&&d))) :
  (W P GL).gr (.bool c) true (λk=>(W P GL).rd r1 k) λt1=>(W P GL).gr (.bool c) true (λk=>(W P GL).rd (f2 t1) k) λt2=>(W P GL).gr (.bool c) true (λk=>(W P GL).rd (f3 t2) k) λt3=>(W P GL).gr (.bool c) true (λk=>(W P GL).rd (f4 t3) k) λt4=>(W P GL).gr (.bool c) true (λk=>(W P GL).rd (f5 t4) k) λt5=>(W P GL).rd (Zk [.bool c,t5,.bool false] σ) K:=by
 cases c with
 |true=>exact Ya (Za h1 (Ya (Za h2 (Ya (Za h3 (Ya (Za h4 (Ya (Za h5 (Za rfl hK))))))))))
 |false=>exact Qa rfl (Qa rfl (Qa rfl (Qa rfl (Qa rfl (Za rfl hK)))))
theorem c213'(l:List (Tx×Bool))(cs:List Cd)(hU:Units l cs)(t:Bool):∀(k:Nat) (x:Cn) (row:List AVal) (j:Nat),CnAt row j x→SizeOf.sizeOf x≤k→cnFit x=true→PC 182 [.rptr (chkM l t) 0,.rptr row j] (.bool (cnOk cs t x))
 |0,x,_,_,_,h,_=>by cases x; simp at h
 |k+1,x,row,j,hx,hk,hf=>by
  refine Yc hP g182.ok rfl rfl ?_;rw[H2.e]; unfold g182; dsimp only;rw[Qcf];have hl1:=YM hf;have hl2:=ZM hf;rw[bigE] at hl1 hl2;refine Za rfl (Za rfl (Za (ldr hx.h1) (Za (Yd ..) ?_)));refine YcP rfl rfl rfl (ldr hx.h2) (Xd ..) ?_;refine Za rfl (Za rfl (Za (ldr hx.h0) ?_));have bad:∀b1 b2 b3 b4:Bool,(b1&&(b2&&(b3&&b4)))=false→AVal.bool false=AVal.bool (b1&&(b2&&(b3&&b4))):=by
   intro b1 b2 b3 b4 h; rw[h]
  have badT:¬(0≤x.op∧x.op≤6∧x.nums.length=cnK3 x.op∧x.kids.length=cnK4 x.op)→AVal.bool false=AVal.bool (cnTop x.op x.nums.length x.kids.length&&(nmsOk t x.nums&&(cnsOk cs t x.kids&&cnEnd cs x.op x.who x.name))):=by
   simp_all [cnTop]
  refine Yh λk13 hk13=>?_;have kk:∀(ok:Bool) (k3 k4:Nat),k3=cnK3 x.op→k4=cnK4 x.op→(0≤x.op∧x.op≤6)→ok=cnEnd cs x.op x.who x.name→k13 [.bool ok,iv k3,iv k4] []:=by
   rintro ok k3 k4 rfl rfl hop hok;rw[hk13]; clear hk13 k13;repeat first|refine Za (ldr hx.h0) ?_|refine Za (ldr hx.h1) ?_|refine Za (ldr hx.h2) ?_|refine Za (ldr hx.h3) ?_|refine Za (ldr hx.h4) ?_|refine Za (Yd ..) ?_|refine Za (Xd ..) ?_|refine Za (ldr (row:=chkM l t) rfl) ?_|refine Za (YV ..) ?_|refine Za rfl ?_
   cases ok with
   |false=>
    repeat first|refine Ya ?_|refine Xa ?_|refine Qa rfl ?_|refine Yb rfl ?_|refine Qb rfl ?_|refine Zc rfl ?_|refine Za (ldr hx.h0) ?_|refine Za (ldr hx.h1) ?_|refine Za (ldr hx.h2) ?_|refine Za (ldr hx.h3) ?_|refine Za (ldr hx.h4) ?_|refine Za (Yd ..) ?_|refine Za (Xd ..) ?_|refine Za (ldr (row:=chkM l t) rfl) ?_|refine Za (YV ..) ?_|refine Za rfl ?_
    refine Xc (bad _ _ _ _ ?_);rw[←hok]; simp
   |true=>
    repeat first|refine Ya ?_|refine Xa ?_|refine Za (ldr hx.h0) ?_|refine Za (ldr hx.h1) ?_|refine Za (ldr hx.h2) ?_|refine Za (ldr hx.h3) ?_|refine Za (ldr hx.h4) ?_|refine Za (Yd ..) ?_|refine Za (Xd ..) ?_|refine Za (ldr (row:=chkM l t) rfl) ?_|refine Za (YV ..) ?_|refine Za rfl ?_
    rcases YBE (((x.nums.map nmC).length:Int) != (cnK3 x.op:Int)) with h3|h3
    ·rw[h3];repeat first|refine Ya ?_|refine Xa ?_|refine Qa rfl ?_|refine Yb rfl ?_|refine Qb rfl ?_|refine Zc rfl ?_|refine Za (ldr hx.h0) ?_|refine Za (ldr hx.h1) ?_|refine Za (ldr hx.h2) ?_|refine Za (ldr hx.h3) ?_|refine Za (ldr hx.h4) ?_|refine Za (Yd ..) ?_|refine Za (Xd ..) ?_|refine Za (ldr (row:=chkM l t) rfl) ?_|refine Za (YV ..) ?_|refine Za rfl ?_
     refine Xc (badT ?_);simp at h3; omega
    rw[h3];repeat first|refine Ya ?_|refine Xa ?_|refine Za (ldr hx.h0) ?_|refine Za (ldr hx.h1) ?_|refine Za (ldr hx.h2) ?_|refine Za (ldr hx.h3) ?_|refine Za (ldr hx.h4) ?_|refine Za (Yd ..) ?_|refine Za (Xd ..) ?_|refine Za (ldr (row:=chkM l t) rfl) ?_|refine Za (YV ..) ?_|refine Za rfl ?_
    refine Zb (λh4=>badT ?_) (λh4=>?_)
    ·simp at h4; omega
    simp at h3 h4;have ht:cnTop x.op x.nums.length x.kids.length=true:=by simp[cnTop]; omega
    rw[ht,←hok,Bool.true_and,Bool.and_true];repeat first|refine Za (ldr hx.h0) ?_|refine Za (ldr hx.h1) ?_|refine Za (ldr hx.h2) ?_|refine Za (ldr hx.h3) ?_|refine Za (ldr hx.h4) ?_|refine Za (Yd ..) ?_|refine Za (Xd ..) ?_|refine Za (ldr (row:=chkM l t) rfl) ?_|refine Za (YV ..) ?_|refine Za rfl ?_
    refine Zg (ι:=Nat) (λi vs σ=>vs=[iv i]∧σ=[]∧i≤x.nums.length∧nmsOk t x.nums=nmsOk t (x.nums.drop i)) (λi=>x.nums.length-i) 0 ⟨rfl,rfl,by omega,by simp⟩ ?_;rintro i vs σ again ⟨rfl,rfl,hi,hu⟩ hag;refine Za rfl ?_;refine Zb (λh=>?_) (λh=>?_)
    ·have h:i<x.nums.length:=by simpa using h
     have hdr:x.nums.drop i=x.nums[i]::x.nums.drop (i+1):=by rw[YLD h]
     rw[hdr,nmsOk] at hu;have hm:x.nums[i]∈x.nums:=List.getElem_mem h;refine Za rfl (Za rfl (Za (ldr hx.h3) (Za (Yk _ nmC _ _ _ x.nums _ i h) ?_)));refine Xb (c211 _ t _ _ 0 (nmAt _) (XU hf hm)) rfl g180.ok.plain rfl ?_;refine Za rfl ?_;refine Zb (λh4=>?_) (λh4=>?_)
     ·simp_all
     ·have h4:nmOk t x.nums[i]=true:=by simpa using h4
      rw[h4,Bool.true_and] at hu;refine Za (Yf ..) ?_;rw[Qc (n:=i) (by omega)]
      grind
    have h:i=x.nums.length:=by simp at h; omega
    subst h;rw[List.drop_length,nmsOk] at hu;rw[hu,Bool.true_and];clear hag hu hi;repeat first|refine Za (ldr hx.h0) ?_|refine Za (ldr hx.h1) ?_|refine Za (ldr hx.h2) ?_|refine Za (ldr hx.h3) ?_|refine Za (ldr hx.h4) ?_|refine Za (Yd ..) ?_|refine Za (Xd ..) ?_|refine Za (ldr (row:=chkM l t) rfl) ?_|refine Za (YV ..) ?_|refine Za rfl ?_
    refine Zg (ι:=Nat) (λi vs s=>vs=[iv i]∧s=[]∧i≤x.kids.length∧cnsOk cs t x.kids=cnsOk cs t (x.kids.drop i)) (λi=>x.kids.length-i) 0 ⟨rfl,rfl,by omega,by simp⟩ ?_;rintro i vs s again ⟨rfl,rfl,hi,hu⟩ hag;refine Za rfl ?_;refine Zb (λh=>?_) (λh=>?_)
    ·have h:i<x.kids.length:=by simpa using h
     have hdr:x.kids.drop i=x.kids[i]::x.kids.drop (i+1):=by rw[YLD h]
     rw[hdr,cnsOk] at hu;have hm:x.kids[i]∈x.kids:=List.getElem_mem h;refine Za rfl (Za rfl (Za (ldr hx.h4) (Za (Yk _ cnC _ _ _ x.kids _ i h) ?_)));refine Xb (c213' l cs hU t k _ _ 0 (cnAt _) (by have:=Zam hm; omega) (YU hf hm)) rfl g182.ok.plain rfl ?_;refine Za rfl ?_;refine Zb (λh4=>?_) (λh4=>?_)
     ·simp_all
     ·have h4:cnOk cs t x.kids[i]=true:=by simpa using h4
      rw[h4,Bool.true_and] at hu;refine Za (Yf ..) ?_;rw[Qc (n:=i) (by omega)]
      grind
    grind [cnsOk]
  clear hk13;have e6:x.op≠6→(decide (x.who=0)&&(x.name==[]))=cnEnd cs x.op x.who x.name:=by
   intro h; rw[cnEnd,if_neg h]
  refine Za (Yd ..) ?_;refine Yh λk1 hk1=>?_;have m1:∀c,c=decide (x.op=0∨x.op=1∨x.op=2)→k1 [.bool c] []:=by
   rintro c hc;rw[hk1]; clear hk1 k1;refine Zb (λh=>?_) (λh=>?_)
   ·grind [cnK3,cnK4]
   rw[h] at hc;have a1:¬(x.op=0∨x.op=1∨x.op=2):=by simpa using hc.symm
   refine Za (Yd ..) (Zb (λa3=>?_) (λa3=>?_))
   ·grind [cnK3,cnK4]
   have a3:x.op≠3:=by simpa using a3
   refine Za (Yd ..) ?_;refine Yh λk1 hk1=>?_;have m2:∀c,c=decide (x.op=4∨x.op=5)→k1 [.bool c] []:=by
    rintro c hc;rw[hk1]; clear hk1 k1;refine Zb (λh=>?_) (λh=>?_)
    ·grind [cnK3,cnK4]
    rw[h] at hc;have a4:¬(x.op=4∨x.op=5):=by simpa using hc.symm
    refine Za (Yd ..) (Zb (λa6=>?_) (λa6=>?_))
    ·have a6:x.op=6:=by simpa using a6
     repeat first|refine Za (ldr hx.h0) ?_|refine Za (ldr hx.h1) ?_|refine Za (ldr hx.h2) ?_|refine Za (ldr hx.h3) ?_|refine Za (ldr hx.h4) ?_|refine Za (Yd ..) ?_|refine Za (Xd ..) ?_|refine Za (ldr (row:=chkM l t) rfl) ?_|refine Za (YV ..) ?_|refine Za rfl ?_
     have hfind:=hU x.name false;have e:cnEnd cs x.op x.who x.name=((tlook x.name l).isSome&&sdOp x.who):=by
      grind [cnEnd]
     rcases YBE (tlook x.name l).isSome with h|h
     ·rw[h];repeat first|refine Ya ?_|refine Xa ?_|refine Za (ldr hx.h0) ?_|refine Za (ldr hx.h1) ?_|refine Za (ldr hx.h2) ?_|refine Za (ldr hx.h3) ?_|refine Za (ldr hx.h4) ?_|refine Za (Yd ..) ?_|refine Za (Xd ..) ?_|refine Za (ldr (row:=chkM l t) rfl) ?_|refine Za (YV ..) ?_|refine Za rfl ?_
      refine Xb (c212 _) rfl g181.ok.plain rfl ?_;repeat first|refine Ya ?_|refine Xa ?_|refine Za (ldr hx.h0) ?_|refine Za (ldr hx.h1) ?_|refine Za (ldr hx.h2) ?_|refine Za (ldr hx.h3) ?_|refine Za (ldr hx.h4) ?_|refine Za (Yd ..) ?_|refine Za (Xd ..) ?_|refine Za (ldr (row:=chkM l t) rfl) ?_|refine Za (YV ..) ?_|refine Za rfl ?_
      grind [cnK3,cnK4]
     ·rw[h];repeat first|refine Ya ?_|refine Xa ?_|refine Qa rfl ?_|refine Yb rfl ?_|refine Qb rfl ?_|refine Zc rfl ?_|refine Za (ldr hx.h0) ?_|refine Za (ldr hx.h1) ?_|refine Za (ldr hx.h2) ?_|refine Za (ldr hx.h3) ?_|refine Za (ldr hx.h4) ?_|refine Za (Yd ..) ?_|refine Za (Xd ..) ?_|refine Za (ldr (row:=chkM l t) rfl) ?_|refine Za (YV ..) ?_|refine Za rfl ?_
      grind [cnK3,cnK4]
    grind
   clear hk1;refine Zb (λc1=>m2 _ ?_) (λc1=>?_)
   ·simp at c1; simp[c1]
   refine Za (Yd ..) (m2 _ ?_);simp at c1; simp[c1]
  clear hk1;refine Zb (λc1=>m1 _ ?_) (λc1=>?_)
  ·simp at c1; simp[c1]
  refine Za (Yd ..) (Zb (λc2=>m1 _ ?_) (λc2=>?_))
  ·simp at c2; simp[c2]
  refine Za (Yd ..) (m1 _ ?_);simp at c1 c2; simp[c1,c2]
theorem c213(l:List (Tx×Bool))(cs:List Cd)(hU:Units l cs)(t:Bool)(x:Cn)(row:List AVal)(j:Nat)(hx:CnAt row j x)(hf:cnFit x=true):PC 182 [.rptr (chkM l t) 0,.rptr row j] (.bool (cnOk cs t x)):=c213' l cs hU t _ x row j hx (Nat.le_refl _) hf
end Go.Ah.Tz
end
