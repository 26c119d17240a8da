/- Part of the proof that EffectParts holds of the program for arguments that together hold at most 1048576 values and letters; no other condition. -/
import Derived.Test.YtklmhbamnghbhaaGreatDoorZ2
import Derived.DataReads
import Derived.ChangeShapes
import Derived.KernelRfl
import Derived.Test.YtklmhbamnghbhaaGreatDoorProg
set_option linter.all false
section
namespace Go.Ah
section
variable {P:Program} {GL:Globs}
theorem Yt(hP:P.follows .mixedOrders=true){f:FuncId}{np:Nat}{g:GFun}(hg:GOk P GL f np g){xs:List AVal}(hn:xs.length=np){y:AVal}(h:g (W P GL) xs [] (λv' σ=>∃rd,Bor (hp σ) rd v' y)):PCall P GL f xs y:=by
 obtain⟨F,h1,h2,h3⟩:=hg.awp hP (XcZ P GL) hn h;intro w M vs hM hg hx;have r0:=Rep.start (GL:=GL) w M hM hg;have hh:hp []=noHp:=by funext b; simp[hp,noHp]
 rw[←hh] at r0;refine(Xah h1 (hn.trans h2.symm) h3 w ⟨[],M⟩ ⟨M,noOwn⟩ w vs r0 hx).mono ?_;rintro e w' ⟨u,he,g',x,σ',⟨rd,hR⟩,hle,r,d⟩
 let M2:Nat→Option Obj:=λb=>if b<w.heap.size then g'.M b else w'.heap[b]?
 have cov:Cov g' (hp σ') w' M2:=by
  refine⟨λb o e=>?_,λb blk cb o e1 e2 e3 e4 e5=>?_⟩
  ·show (if b<w.heap.size then g'.M b else w'.heap[b]?)=some o;split
   ·exact e
   ·exact r.stable b o e
  ·obtain⟨_,hin,_⟩:=r.own b blk cb e1 e2 e3 e4;show (if cb.blk<w.heap.size then g'.M cb.blk else w'.heap[cb.blk]?)=some o;rcases hin with hin|hin
   ·simp at hin
   ·rw[if_neg (by omega)]; exact e5
 have hd2:=hR GL w ⟨[],M⟩ g' (hp σ') w' M2 r cov (λ_ _=>rfl) u d;refine⟨u,he,r.keeps,M2,λb o e=>cov.1 b o (hle.m b o e),λb o e=>?_,λb o e=>?_,hd2⟩
 ·have e':(if b<w.heap.size then g'.M b else w'.heap[b]?)=some o:=e;split at e'
  ·exact r.stable b o e'
  ·exact e'
 ·have e':(if b<w.heap.size then g'.M b else w'.heap[b]?)=some o:=e;split at e'
  ·rcases r.src b o e' with q|q|q
   ·exact .inl q
   ·exact .inr q
   ·simp at q
  ·exact .inr (by omega)
theorem Bor.tup{h0:Hp}{rd:List Nat}{xs ys:List AVal}(h1:BorL h0 rd xs ys):Bor h0 rd (.tup xs) (.tup ys):=by
 intro GL w0 L g h w M2 r hM hrd v d;cases d with
 |tup _ _ vs hs hd=>
  obtain⟨hl,hd'⟩:=h1.get r hM hrd (vs:=vs.toList) (by simp[hs]) (λi x v e1 e2=>hd i x v e1 (by simpa using e2));exact .tup _ _ _ (by simpa[hs] using hl.symm) (λi x v e1 e2=>hd' i x v e1 (by simpa using e2))
theorem Bor.weak{h0:Hp}{rd:List Nat}{x y z:AVal}(h:Bor h0 rd x y)(k:∀(M:Nat→Option Obj) (u:Value),Den M noOwn y u→Den M noOwn z u):Bor h0 rd x z:=
 λGL w0 L g h' w M2 r hM hrd v d=>k M2 v (h GL w0 L g h' w M2 r hM hrd v d)
theorem Den.rsl_weak{M:Nat→Option Obj}{c:Own}{e n:Bool}{sz:Nat}{rows:List (List AVal)}{u:Value}(h:Den M c (.rsl e n sz rows) u):Den M c (.rsl false false sz rows) u:=by
 cases h with
 |rsl _ _ _ _ _ a cap blk off f q1 q2 q3 q4 q5 q6 q7 q8=>exact .rsl _ _ _ _ _ a cap blk off f (λh=>by cases h) (λh=>by cases h) q3 q4 q5 q6 q7 q8
theorem Den.nils_rsl{M:Nat→Option Obj}{c:Own}{u:Value}(sz:Nat)(h:Den M c .nils u):Den M c (.rsl false false sz []) u:=by
 cases h with
 |nils=>exact .rsl _ _ _ _ [] none 0 0 0 (λ_ _=>undef) (λh=>by cases h) (λh=>by cases h) (λh=>(h rfl).elim) (λ_=>rfl) (by simp) (by simp) (by simp) (by simp)
theorem BorL.ro{h0:Hp}{rd:List Nat}:∀ {l:List AVal},roL l=true→BorL h0 rd l l
 |[],_=>BorL.nil
 |x::l,h=>by
  simp only[roL,Bool.and_eq_true] at h;exact BorL.cons (Bor.ro h.1) (BorL.ro h.2)
theorem Bor.own{σ:List ABlk}{rd:List Nat}{b off len sz:Nat}{ex:Bool}{rs rows:List (List AVal)}(hb:hget σ b=.rows sz rs)(hin:b∈rd)(hle:off+len≤rs.length)(hc:cut off (off+len) rs=rows)(hro:∀r∈rs,roL r=true):Bor (hp σ) rd (.sl b off len ex) (.rsl false false sz rows):=by
 refine Bor.weak (y:=.rsl ex false sz rows) ?_ (λM u d=>d.rsl_weak);have hb':hp σ b=some (.rows sz rs):=XV hb (by simp);subst hc;refine Bor.sl hb' hin hle (QW hle▸by omega) (λi row row' q1 q2=>?_);have hi:i<len:=by
  have:=(YLG q2).1;rw[QW hle] at this; omega
 have:(cut off (off+len) rs)[i]?=rs[off+i]?:=by
  unfold cut;rw[List.getElem?_drop,List.getElem?_take_of_lt (by omega)]
 rw[this,q1] at q2; cases q2;exact BorL.ro (hro _ (List.mem_of_getElem? q1))
theorem Yaw(l:List (List AVal))(n:Nat)(h:n=l.length):cut 0 (0+n) l=l:=by subst h; simp[cut]
theorem Xc2(x:List AVal)(l:List (List AVal))(n:Nat)(h:n=l.length):cut 1 (1+n) (x::l)=l:=by subst h; simp[cut,Nat.add_comm]
theorem Xy{k:MK}{xs ys zs:List AVal}{f:FuncId}{v:AVal}{rd:List Nat}(h:PCall P GL f zs v){σ:List ABlk}(hc:Xs k xs=some (f,ys))(hp':Zh P f=true)(hb:BorL (hp σ) rd ys zs)(hv:v.flat=true){K:AVal→List ABlk→Prop}(hK:K v σ):(W P GL).call k xs σ K:=
 ZaO hc hp' (h.lend hb hv) (Yg σ) hK
theorem QX{k:MK}{xs ys zs:List AVal}{f:FuncId}{v:AVal}{rd:List Nat}(h:PCall P GL f zs v){σ:List ABlk}(hc:Xs k xs=some (f,ys))(hp':Zh P f=true)(hb:BorL (hp σ) rd ys zs)(hv:v.flat=true){K:AVal→List Nat×List Nat→List ABlk→Prop}(hK:K v (rd,[]) σ):(W P GL).dcall k xs σ K:=
 Zaf hc hp' (h.lend hb hv) (Yg σ) hK
theorem Xcb{k:MK}{xs ys zs:List AVal}{f:FuncId}{v:AVal}{bs:List ABlk}{rd:List Nat}(h:NCall P GL f zs v bs){σ:List ABlk}(hc:Xs k xs=some (f,ys))(hp':Zh P f=true)(hb:BorL (hp σ) rd ys zs)(hv:v.nosh=true)(hbs:YaK bs=true){K:AVal→List Nat×List Nat→List ABlk→Prop}(hK:K (v.ren (ZE σ.length)) (rd,Q0 σ.length (Yv σ.length bs)) (σ++Yv σ.length bs)):(W P GL).dcall k xs σ K:=
 Zaf hc hp' (h.lend hb hv hbs (λi _=>by simp[hp])) (Yad _ σ) (by rw[Qat]; exact hK)
theorem YR(n by_:Nat){σ:List ABlk}{b c len:Nat}{ex:Bool}{rs:List (List AVal)}{row:List AVal}(hb:hget σ b=.rows n rs)(hc:hget σ c=.rows n [row])(hl:rs.length=len)(hr:row.all AVal.cell=true)(hroom:(2*(len+1)+192)*by_≤2 ^ 48) :
  Zo n by_ [.sl b 0 len ex,.sl c 0 1 true] σ=.ok (.sl σ.length 0 (len+1) false) [c] ([(b,.dead)]++[(σ.length,.rows n (rs++[row]))]):=by
 have h1:Xr n σ (.sl c 0 1 true)=some ([row],[c]):=by
  simp only[Xr,hc];simp[cut]; rfl
 have h2:Nat.ble ((2*(len+1)+192)*by_) (2 ^ 48)=true:=Nat.ble_eq_true_of_le hroom;have:Zo n by_ [.sl b 0 len ex,.sl c 0 1 true] σ=QJ n by_ σ rs [(b,.dead)] (.sl c 0 1 true):=by
  simp[Zo,YaI,hb,hl]
 rw[this];unfold QJ;simp only[h1,Z4 hr,List.length_singleton,h2,Bool.and_self,cond_true,hl]
end
end Go.Ah
end
section
namespace Go.Ah
section
variable {H:Type}
def DL(M:Nat→Option Obj)(xs:List AVal)(cs:List Value):Prop:=xs.length=cs.length∧∀(i:Nat) (x:AVal) (v:Value),xs[i]?=some x→cs[i]?=some v→Den M noOwn x v
theorem DL.nil{M:Nat→Option Obj}:DL M [] []:=⟨rfl,λi x v h=>by simp at h⟩
theorem DL.one{M:Nat→Option Obj}{x:AVal}{v:Value}(h:Den M noOwn x v):DL M [x] [v]:=by
 refine⟨rfl,λi y u h1 h2=>?_⟩;cases i with
 |zero=>simp at h1 h2; subst h1; subst h2; exact h
 |succ i=>simp at h1
theorem DL.append{M:Nat→Option Obj}{xs ys:List AVal}{cs ds:List Value}(h:DL M xs cs)(k:DL M ys ds):DL M (xs++ys) (cs++ds):=by
 refine⟨by simp[h.1,k.1],λi x v h1 h2=>?_⟩;by_cases hi:i<xs.length
 ·rw[List.getElem?_append_left hi] at h1;rw[List.getElem?_append_left (by rw[←h.1]; exact hi)] at h2;exact h.2 i x v h1 h2
 ·rw[List.getElem?_append_right (by omega)] at h1;rw[List.getElem?_append_right (by rw[←h.1]; omega),←h.1] at h2;exact k.2 _ x v h1 h2
def Tri{α β γ:Type}(R:α→β→γ→Prop):List α→List β→List γ→Prop
 |[],[],[]=>True
 |a::us,b::bs,c::cs=>R a b c∧Tri R us bs cs
 |_,_,_=>False
def Two{α β:Type}(R:α→β→Prop):List α→List β→Prop
 |[],[]=>True
 |a::us,b::bs=>R a b∧Two R us bs
 |_,_=>False
theorem Tri.cons{α β γ:Type}{R:α→β→γ→Prop}{a:α}{us:List α}{bs:List β}{cs:List γ}(h:Tri R (a::us) bs cs):∃b bs' c cs',bs=b::bs'∧cs=c::cs'∧R a b c∧Tri R us bs' cs':=by
 match bs,cs,h with
 |b::bs,c::cs,h=>exact⟨b,bs,c,cs,rfl,rfl,h.1,h.2⟩
theorem Tri.nil{α β γ:Type}{R:α→β→γ→Prop}{bs:List β}{cs:List γ}(h:Tri R [] bs cs):bs=[]∧cs=[]:=by
 match bs,cs,h with
 |[],[],_=>exact⟨rfl,rfl⟩
theorem Two.cons{α β:Type}{R:α→β→Prop}{a:α}{us:List α}{bs:List β}(h:Two R (a::us) bs):∃b bs',bs=b::bs'∧R a b∧Two R us bs':=by
 match bs,h with
 |b::bs,h=>exact⟨b,bs,rfl,h.1,h.2⟩
theorem Two.length{α β:Type}{R:α→β→Prop}:∀ {us:List α} {bs:List β},Two R us bs→us.length=bs.length
 |[],[],_=>rfl
 |_::_,_::_,h=>by simp[Two.length h.2]
 |[],_::_,h=>h.elim
 |_::_,[],h=>h.elim
def Typed(P:Program):Nat→TypeId→List AVal→DataW H→Prop
 |0,_,_,_=>False
 |fuel+1,t,xs,d=>match P.underlying t with
  |some .bool=>∃b,xs=[.bool b]∧d=.lit (.bool b)
  |some (.int k)=>∃n,xs=[.int k n]∧(Lit.int k n).wf=true∧d=.lit (.int k n)
  |some .string=>∃s,xs=[.str s]∧d=.lit (.string s)
  |some (.slice e)=>∃rows,xs=[.rsl false false (P.cellsOf e) rows]∧((rows=[]∧d=.nil)∨∃es sp,d=.slice es sp∧Two (Typed P fuel e) rows es)
  |some (.struct fs)=>∃parts ds,xs=parts.flatten∧d=.agg ds∧Tri (Typed P fuel) (fs.toList.map (·.type)) parts ds
  |some (.array n e)=>∃parts ds,xs=parts.flatten∧d=.agg ds∧parts.length=n∧Two (Typed P fuel e) parts ds
  |_=>False
def tiles(P:Program):Nat→List Field→Option Nat
 |o,[]=>some o
 |o,f::r=>bif Nat.beq f.offset o then tiles P (o+P.cellsOf f.type) r else none
def tyOk(P:Program)(S:List TypeId)(t:TypeId):Bool:=match P.underlying t with
 |some .bool=>Nat.beq (P.cellsOf t) 1
 |some (.int _)=>Nat.beq (P.cellsOf t) 1
 |some .string=>Nat.beq (P.cellsOf t) 1
 |some (.slice e)=>Nat.beq (P.cellsOf t) 1&&(Nat.blt 0 (P.cellsOf e)&&S.contains e)
 | some (.struct fs)=>(match tiles P 0 fs.toList with
  |some n=>Nat.beq n (P.cellsOf t)
  | none=>false) && fs.toList.all λf=>S.contains f.type
 |some (.array n e)=>Nat.beq (P.cellsOf t) (n*P.cellsOf e)&&S.contains e
 |_=>false
variable {enc:TypeId×Value→H} {P:Program} {w:World} {base:Nat} {spare:Nat→Bool} {held:Bool}
theorem XaR{α β:Type}{f:α→Option β}:∀ {l:List α} {r:List β},l.mapM f=some r→Two (λa b=>f a=some b) l r
 |[],r,h=>by simp at h; subst h; trivial
 |a::l,r,h=>by
  rw[List.mapM_cons] at h;cases ha:f a with
  |none=>simp[ha] at h
  |some b=>
   cases hl:l.mapM f with
   |none=>simp[ha,hl] at h
   |some bs=>simp[ha,hl] at h; subst h; exact⟨ha,XaR hl⟩
def Tells(enc:TypeId×Value→H)(P:Program)(w:World)(base:Nat)(spare:Nat→Bool)(held:Bool)(fuel:Nat)(t:TypeId)(cs:List Value)(d:DataW H):Prop:=∃ps,DataW.trod enc P w base spare held fuel t cs=some (d,ps)
def Fine(enc:TypeId×Value→H)(P:Program)(w:World)(base:Nat)(spare:Nat→Bool)(held:Bool)(fuel:Nat)(t:TypeId):Prop:=
 ∀cs d,Tells enc P w base spare held fuel t cs d→cs.length=P.cellsOf t∧∃xs,DL (λb=>w.heap[b]?) xs cs∧Typed P fuel t xs d
theorem Zcv{a:Addr}{v:Value}(h:w.cell? a=some v):a.spot=none∧mcell (λb=>w.heap[b]?) a.block a.off=some v:=by
 unfold World.cell? at h;show _∧(match w.heap[a.block]? with
  |some (.cells c _ _)=>c[a.off]?
  | _=>none)=some v
 cases hb:w.heap[a.block]? with
 |none=>rw[hb] at h; cases h
 |some o=>
  rw[hb] at h;cases o with
  |cells c t fr=>
   simp only at h;split at h
   ·cases h
   ·rename_i hs;exact⟨by simpa using hs,h⟩
  |_=>cases h
theorem Zbw(a:Addr)(n:Nat):(a.add n).block=a.block:=by unfold Addr.add; split<;>rfl
theorem Ycr(a:Addr)(n:Nat):(a.add n).off=a.off+n:=by unfold Addr.add; split<;>simp_all
theorem ZaY{fuel:Nat}{cs:List Value}:∀ {fs:List Field} {o n:Nat} {xs:List (DataW H×List MemPlace)},tiles P o fs=some n→n≤cs.length→(∀f∈fs,Fine enc P w base spare held fuel f.type) →
  Two (λ(f:Field) y=>DataW.trod enc P w base spare held fuel f.type ((cs.drop f.offset).take (P.cellsOf f.type))=some y) fs xs→o≤n ∧
  ∃parts,DL (λb=>w.heap[b]?) parts.flatten ((cs.take n).drop o)∧Tri (Typed P fuel) (fs.map (·.type)) parts (xs.map (·.1))
 |[],o,n,xs,ht,hn,hf,h=>by
  simp only[tiles,Option.some.injEq] at ht;subst ht
  match xs,h with
  |[],_=>
   refine⟨Nat.le_refl _,[],?_,trivial⟩;have:(cs.take o).drop o=[]:=by simp
   rw[this]; exact DL.nil
 |f::fs,o,n,xs,ht,hn,hf,h=>by
  simp only[tiles] at ht;cases hb:Nat.beq f.offset o with
  |false=>rw[hb] at ht; cases ht
  |true=>
   rw[hb] at ht;have ho:=YNB hb;obtain⟨y,ys,rfl,h1,h2⟩:=h.cons;obtain⟨hle,parts,hd,h3⟩:=ZaY ht hn (λg hg=>hf g (List.mem_cons_of_mem _ hg)) h2;obtain⟨hl,p,hp,hy⟩:=hf f (List.mem_cons_self ..) _ _ ⟨y.2,h1⟩;refine⟨by omega,p::parts,?_,hy,h3⟩;have e:(cs.take n).drop o=(cs.drop f.offset).take (P.cellsOf f.type)++(cs.take n).drop (o+P.cellsOf f.type):=by
    have e1:(cs.take n).drop o=((cs.take n).drop o).take (P.cellsOf f.type)++((cs.take n).drop o).drop (P.cellsOf f.type):=(List.take_append_drop _ _).symm;rw[e1,List.drop_drop,ho]
    congr 1
    rw[List.drop_take,List.take_take]
    congr 1
    omega
   rw[List.flatten_cons,e];exact hp.append hd
theorem Xbf{fuel:Nat}{e:TypeId}{cs:List Value}(hf:Fine enc P w base spare held fuel e):∀ {n o:Nat} {xs:List (DataW H×List MemPlace)},(o+n)*P.cellsOf e≤cs.length →
  Two (λ(i:Nat) y=>DataW.trod enc P w base spare held fuel e ((cs.drop (i*P.cellsOf e)).take (P.cellsOf e))=some y) (List.range' o n) xs →
  ∃parts,DL (λb=>w.heap[b]?) parts.flatten ((cs.take ((o+n)*P.cellsOf e)).drop (o*P.cellsOf e))∧parts.length=n∧Two (Typed P fuel e) parts (xs.map (·.1))
 |0,o,xs,hn,h=>by
  match xs,h with
  |[],_=>
   refine⟨[],?_,rfl,trivial⟩;have:(cs.take ((o+0)*P.cellsOf e)).drop (o*P.cellsOf e)=[]:=by simp
   rw[this]; exact DL.nil
 |n+1,o,xs,hn,h=>by
  rw[List.range'_succ] at h;obtain⟨y,ys,rfl,h1,h2⟩:=h.cons;have hn':(o+1+n)*P.cellsOf e≤cs.length:=by rw[show o+1+n=o+(n+1) by omega]; exact hn
  obtain⟨parts,hd,h3,h4⟩:=Xbf hf hn' h2;obtain⟨hl,p,hp,hy⟩:=hf _ _ ⟨y.2,h1⟩;refine⟨p::parts,?_,by simp[h3],hy,h4⟩;have hs:(o+1)*P.cellsOf e=o*P.cellsOf e+P.cellsOf e:=by rw[Nat.add_mul,Nat.one_mul]
  have hm:(o+1)*P.cellsOf e≤(o+(n+1))*P.cellsOf e:=Nat.mul_le_mul_right _ (by omega);have e1:(cs.take ((o+(n+1))*P.cellsOf e)).drop (o*P.cellsOf e)=(cs.drop (o*P.cellsOf e)).take (P.cellsOf e)++(cs.take ((o+1+n)*P.cellsOf e)).drop ((o+1)*P.cellsOf e):=by
   rw[show o+1+n=o+(n+1) by omega,hs];have e2:(cs.take ((o+(n+1))*P.cellsOf e)).drop (o*P.cellsOf e)=((cs.take ((o+(n+1))*P.cellsOf e)).drop (o*P.cellsOf e)).take (P.cellsOf e)++((cs.take ((o+(n+1))*P.cellsOf e)).drop (o*P.cellsOf e)).drop (P.cellsOf e):=(List.take_append_drop _ _).symm;rw[e2,List.drop_drop]
   congr 1
   rw[List.drop_take,List.take_take]
   congr 1
   omega
  rw[List.flatten_cons,e1];exact hp.append hd
theorem XbH{fuel:Nat}{e:TypeId}{a:Addr}(hf:Fine enc P w base spare held fuel e)(hpos:0<P.cellsOf e):∀ {n o:Nat} {xs:List (DataW H×List MemPlace)},
  Two (λ(i:Nat) y=>(w.cells? base (a.add (i*P.cellsOf e)) (P.cellsOf e)).bind (DataW.trod enc P w base spare held fuel e)=some y) (List.range' o n) xs →
  ∃(rows:List (List AVal)) (f:Nat→Nat→Value),rows.length=n∧Two (Typed P fuel e) rows (xs.map (·.1))∧(n≠0→o=0→a.spot=none)∧(∀(i:Nat) (row:List AVal),rows[i]?=some row→row.length=P.cellsOf e) ∧
   (∀i j,i<n→j<P.cellsOf e→mcell (λb=>w.heap[b]?) a.block (a.off+((o+i)*P.cellsOf e+j))=some (f i j))∧(∀(i:Nat) (row:List AVal) (j:Nat) (x:AVal),rows[i]?=some row→row[j]?=some x→Den (λb=>w.heap[b]?) noOwn x (f i j))
 |0,o,xs,h=>by
  match xs,h with
  |[],_=>exact⟨[],λ_ _=>undef,rfl,trivial,λh _=>(h rfl).elim,by simp,by intro i j hi; omega,by simp⟩
 |n+1,o,xs,h=>by
  rw[List.range'_succ] at h;obtain⟨y,ys,rfl,h1,h2⟩:=h.cons;obtain⟨rows,f,q1,q2,q3,q4,q5,q6⟩:=XbH hf hpos h2;obtain⟨cs,hc,hy⟩:=Option.bind_eq_some_iff.1 h1;obtain⟨_,hl,hcell⟩:=World.cells?_some hc;obtain⟨_,xs0,hd,hty⟩:=hf cs y.1 ⟨y.2,hy⟩;have hat:∀j,j<P.cellsOf e→∃v,cs[j]?=some v∧mcell (λb=>w.heap[b]?) a.block (a.off+o*P.cellsOf e+j)=some v:=by
   intro j hj;obtain⟨v,hv⟩:∃v,cs[j]?=some v:=⟨cs[j]'(by omega),by simp[show j<cs.length by omega]⟩;have:=hcell j hj;rw[hv] at this;obtain⟨m1,m2⟩:=Zcv this;rw[Zbw,Zbw,Ycr,Ycr] at m2;exact⟨v,hv,m2⟩
  refine⟨xs0::rows,λi j=>match i with|0=>(cs[j]?).getD undef|i+1=>f i j,by simp[q1],⟨hty,q2⟩,λ_ ho=>?_,?_,?_,?_⟩
  ·have:=hcell 0 hpos;rw[show cs[0]?=some (cs[0]'(by omega)) by simp[show 0<cs.length by omega]] at this;have:=(Zcv this).1;subst ho;simpa[Addr.add] using this
  ·intro i row hr;cases i with
   |zero=>simp at hr; subst hr; rw[hd.1,hl]
   |succ i=>exact q4 i row (by simpa using hr)
  ·intro i j hi hj;cases i with
   |zero=>
    obtain⟨v,e1,e2⟩:=hat j hj;simp only[e1,Option.getD_some,Nat.add_zero];rw[←Nat.add_assoc]; exact e2
   |succ i=>
    have:=q5 i j (by omega) hj;rw[show o+(i+1)=o+1+i by omega];exact this
  ·intro i row j x hr hx;cases i with
   |zero=>
    simp at hr; subst hr;have hj:j<cs.length:=by rw[←hd.1]; exact(YLG hx).1
    have hv:cs[j]?=some cs[j]:=by simp[hj]
    simp only[hv,Option.getD_some];exact hd.2 j x _ hx hv
   |succ i=>exact q6 i row j x (by simpa using hr) hx
theorem Zak{S:List TypeId}(hS:S.all (tyOk P S)=true):∀(fuel:Nat) (t:TypeId),t∈S→Fine enc P w base spare held fuel t
 |0,t,_=>by
  rintro cs d ⟨ps,h⟩;simp[DataW.trod] at h
 |fuel+1,t,ht=>by
  rintro cs d ⟨ps,h⟩;have hok:=List.all_eq_true.1 hS t ht;have ih:=λt ht=>Zak hS fuel t ht;unfold tyOk at hok;unfold DataW.trod at h;split at h
  case h_1=>
   rename_i hu;rw[hu] at hok;cases h;exact⟨(YNB hok).symm,_,DL.one (.bool _ _),by unfold Typed; rw[hu]; exact⟨_,rfl,rfl⟩⟩
  case h_2=>
   rename_i hu;rw[hu] at hok;split at h
   ·rename_i hk;obtain⟨rfl,hw⟩:=hk;cases h;exact⟨(YNB hok).symm,_,DL.one (.int _ _ _),by unfold Typed; rw[hu]; exact⟨_,rfl,hw,rfl⟩⟩
   ·cases h
  case h_4=>
   rename_i hu;rw[hu] at hok;split at h
   ·cases h;exact⟨(YNB hok).symm,_,DL.one (.str _ _),by unfold Typed; rw[hu]; exact⟨_,rfl,rfl⟩⟩
   ·cases h
  case h_7=>
   rename_i e hu;rw[hu] at hok;simp only[Bool.and_eq_true] at hok;cases h;refine⟨(YNB hok.1).symm,_,DL.one (Den.nils_rsl (P.cellsOf e) (.nils _)),?_⟩;unfold Typed; rw[hu]; exact⟨[],rfl,.inl ⟨rfl,rfl⟩⟩
  case h_8=>
   rename_i e a len cap hu;rw[hu] at hok;simp only[Bool.and_eq_true] at hok;obtain⟨k1,k2,k3⟩:=hok;have hpos:0<P.cellsOf e:=YNL k2;simp only at h;split at h
   ·rename_i hc;obtain⟨els,he,h⟩:=Option.bind_eq_some_iff.1 h;obtain⟨rest,hr,h⟩:=Option.map_eq_some_iff.1 h;cases h;rw[List.range_eq_range'] at he;obtain⟨rows,f,q1,q2,q3,q4,q5,q6⟩:=XbH (ih e (List.contains_iff_mem.1 k3)) hpos (XaR he);refine⟨(YNB k1).symm,[.rsl false false (P.cellsOf e) rows],DL.one ?_,?_⟩
    ·rw[←q1];refine .rsl _ false false (P.cellsOf e) rows (some a) cap a.block a.off f (λh=>by cases h) (λh=>by cases h) (λhne=>?_) (λh=>by cases h) (by rw[q1]; exact hc.2.1) q4 (λi j hi hj=>?_) q6
     ·have hn:len≠0:=λe=>hne (List.length_eq_zero_iff.1 (q1.trans e));have:=q3 hn rfl;cases a; simp at this; subst this; rfl
     ·have:=q5 i j (by omega) hj;rw[Nat.zero_add] at this; exact this
    ·unfold Typed; rw[hu]; exact⟨rows,rfl,.inr ⟨_,_,rfl,q2⟩⟩
   ·cases h
  case h_9=>
   rename_i fs hu;rw[hu] at hok;simp only[Bool.and_eq_true] at hok;obtain⟨k1,k2⟩:=hok;split at h
   ·rename_i hl;obtain⟨xs,hx,h⟩:=Option.map_eq_some_iff.1 h;cases h;cases ht:tiles P 0 fs.toList with
    |none=>rw[ht] at k1; cases k1
    |some n=>
     rw[ht] at k1;have hn:=YNB k1;obtain⟨_,parts,hd,h3⟩:=ZaY ht (by omega) (λg hg=>ih _ (List.contains_iff_mem.1 (List.all_eq_true.1 k2 g hg))) (XaR hx);refine⟨hl,parts.flatten,?_,?_⟩
     ·rw[List.drop_zero,List.take_of_length_le (by omega)] at hd; exact hd
     ·unfold Typed; rw[hu]; exact⟨parts,_,rfl,rfl,h3⟩
   ·cases h
  case h_10=>
   rename_i n e hu;rw[hu] at hok;simp only[Bool.and_eq_true] at hok;obtain⟨k1,k2⟩:=hok;have hn:=YNB k1;split at h
   ·rename_i hl;obtain⟨xs,hx,h⟩:=Option.map_eq_some_iff.1 h;cases h;rw[List.range_eq_range'] at hx;obtain⟨parts,hd,h3,h4⟩:=Xbf (ih e (List.contains_iff_mem.1 k2)) (o:=0) (n:=n) (by rw[Nat.zero_add]; omega) (XaR hx);refine⟨hl,parts.flatten,?_,?_⟩
    ·rw[Nat.zero_mul,List.drop_zero,Nat.zero_add,List.take_of_length_le (by omega)] at hd; exact hd
    ·unfold Typed; rw[hu]; exact⟨parts,_,rfl,rfl,h3,h4⟩
   ·cases h
  all_goals first|(rename_i hu; rw[hu] at hok; exact absurd (show false=true from hok) (by decide))|cases h
end
end Go.Ah
end
section
namespace Go.Ah
section
variable {α β:Type}
abbrev spQ{α β:Type}:List α→(List α→β)→β
 |[],k=>k []
 |x::l,k=>spQ l λl=>k (x::l)
theorem ZbL{α β:Type}:∀(l:List α) (k:List α→β),spQ l k=k l
 |[],_=>rfl
 |x::l,k=>ZbL l λl=>k (x::l)
abbrev fdQ{α:Type}(d:Nat):Frame→(Frame→α)→α
 |[],k=>k []
 |(q,u)::r,k=>match Nat.beq q d with
  |true=>k r
  |false=>fdQ d r λr=>k ((q,u)::r)
theorem Zdg{α:Type}(d:Nat):∀(ρ:Frame) (k:Frame→α),fdQ d ρ k=k (fdel d ρ)
 |[],_=>rfl
 |(q,u)::r,k=>by
  simp only[fdQ,fdel];cases Nat.beq q d
  ·simp only[]; rw[Zdg d r]
  ·rfl
abbrev getQ:Frame→Nat→(AVal→β)→β
 |[],_,k=>k .junk
 |(q,v)::r,n,k=>match Nat.beq q n with
  |true=>k v
  |false=>getQ r n k
theorem Zar(n:Nat)(k:AVal→β):∀ρ,getQ ρ n k=k (fget ρ n)
 |[]=>rfl
 |(q,v)::r=>by
  simp only[getQ,fget];cases Nat.beq q n
  ·exact Zar n k r
  ·rfl
abbrev evQ(ρ:Frame):Opd→(AVal→β)→β
 |.t n,k=>getQ ρ n k
 |.c v,k=>k v
theorem Qb2(ρ:Frame)(x:Opd)(k:AVal→β):evQ ρ x k=k (ev ρ x):=by
 cases x
 ·exact Zar ..
 ·rfl
abbrev evsQ(ρ:Frame):List Opd→(List AVal→β)→β
 |[],k=>k []
 |x::r,k=>evQ ρ x λv=>evsQ ρ r λvs=>k (v::vs)
theorem QbR(ρ:Frame):∀(l:List Opd) (k:List AVal→β),evsQ ρ l k=k (l.map (ev ρ))
 |[],_=>rfl
 |x::r,k=>by simp only[evsQ,Qb2,QbR ρ r]; rfl
abbrev putQ(d:Option Nat)(v:AVal)(ρ:Frame)(k:Frame→β):β:=match d with
 |some d=>fdQ d ρ λr=>k ((d,v)::r)
 |none=>k ρ
theorem ZcP(d:Option Nat)(v:AVal)(ρ:Frame)(k:Frame→β):putQ d v ρ k=k (putF d v ρ):=by
 cases d
 ·rfl
 ·simp only[putQ,Zdg]; rfl
abbrev getsQ(ρ:Frame):List Nat→(List AVal→β)→β
 |[],k=>k []
 |s::r,k=>getQ ρ s λv=>getsQ ρ r λvs=>k (v::vs)
theorem Xbr(ρ:Frame):∀(l:List Nat) (k:List AVal→β),getsQ ρ l k=k (getF ρ l)
 |[],_=>rfl
 |x::r,k=>by simp only[getsQ,Zar,Xbr ρ r]; rfl
abbrev dropQ(l:List Nat):Frame→(Frame→β)→β
 |[],k=>k []
 |(q,v)::r,k=>match inL q l with
  |true=>dropQ l r k
  |false=>dropQ l r λr=>k ((q,v)::r)
theorem Qbp(l:List Nat):∀(ρ:Frame) (k:Frame→β),dropQ l ρ k=k (dropF l ρ)
 |[],_=>rfl
 |(q,v)::r,k=>by
  simp only[dropQ,dropF];cases inL q l<;>simp only[Qbp l r]
abbrev zipQ:List Nat→List AVal→Frame→(Frame→β)→β
 |[],_,ρ,k=>k ρ
 |s::ks,vs,ρ,k=>zipQ ks (tlV vs) ρ λr=>k ((s,hdV vs)::r)
theorem ZbY:∀(l:List Nat) (vs:List AVal) (ρ:Frame) (k:Frame→β),zipQ l vs ρ k=k (zipF l vs ρ)
 |[],_,_,_=>rfl
 |s::ks,vs,ρ,k=>by simp only[zipQ,ZbY ks]; rfl
def qC(A:Ans α):=A.call
def qD(A:Ans α):=A.dcall
def qT(A:Ans α):=A.test
def qL(A:Ans α):=A.loop
def qS(A:Ans α):=A.stop
def dmOp(A:Ans α)(o:MOper)(ρ:Frame)(σ:List ABlk)(K:Frame→List ABlk→α):α:=
 match o.guard with
 |none=>match clsOf o.k with
  |.mv=>match o.xs with
   |[x]=>evQ ρ x λv=>putQ o.dst v ρ λρ=>K ρ σ
   |_=>qS A
  |.pu | .rd=>evsQ ρ o.xs λvs=>A.rd (cstep o.k vs σ) λv=>putQ o.dst v ρ λρ=>K ρ σ
  |.wr=>evsQ ρ o.xs λvs=>A.wr (cstep o.k vs σ) σ λv σ=>putQ o.dst v ρ λρ=>K ρ σ
  |.call=>evsQ ρ o.xs λvs=>qC A o.k vs σ λv σ=>putQ o.dst v ρ λρ=>K ρ σ
 |some (s,w)=>evsQ ρ o.xs λvs=>getQ ρ s λc=>match clsOf o.k with
  |.mv | .pu | .rd=>A.gr c w (λk=>A.rd (cstep o.k vs σ) k) λv=>putQ o.dst v ρ λρ=>K ρ σ
  |.wr=>A.gw c w (λk=>A.wr (cstep o.k vs σ) σ k) σ λv σ=>putQ o.dst v ρ λρ=>K ρ σ
  |.call=>A.gw c w (λk=>qC A o.k vs σ k) σ λv σ=>putQ o.dst v ρ λρ=>K ρ σ
theorem Xdl(A:Ans α)(o:MOper)(ρ:Frame)(σ:List ABlk)(K:Frame→List ABlk→α):dmOp A o ρ σ K=dnOp A o ρ σ K:=by
 unfold dmOp dnOp;simp only[Qb2,QbR,Zar,ZcP];split
 ·rename_i h; simp only[h]; cases clsOf o.k<;>rfl
 ·rename_i h; simp only[h]; cases clsOf o.k<;>rfl
def dmOps(A:Ans α):List MOper→Frame→List ABlk→(Frame→List ABlk→α)→α
 |[],ρ,σ,K=>K ρ σ
 |o::r,ρ,σ,K=>dmOp A o ρ σ λρ σ=>dmOps A r ρ σ K
theorem Xaw(A:Ans α):∀(l:List MOper) (ρ:Frame) (σ:List ABlk) (K:Frame→List ABlk→α),dmOps A l ρ σ K=dnOps A l ρ σ K
 |[],_,_,_=>rfl
 |o::r,ρ,σ,K=>by simp only[dmOps,dnOps,Xdl,Xaw A r]
def dmOpD(A:Ans α)(o:MOper)(ρ:Frame)(σ:List ABlk)(lg:Log)(K:Frame→List ABlk→Log→α):α:=
 match o.guard with
 |none=>match clsOf o.k with
  |.mv=>match o.xs with
   |[x]=>evQ ρ x λv=>putQ o.dst v ρ λρ=>K ρ σ (lg++[([],[])])
   |_=>qS A
  |.pu=>evsQ ρ o.xs λvs=>A.pu (cstep o.k vs σ) λv=>putQ o.dst v ρ λρ=>K ρ σ (lg++[([],[])])
  |.rd | .wr=>evsQ ρ o.xs λvs=>A.dr (cstep o.k vs σ) σ λv l σ=>putQ o.dst v ρ λρ=>K ρ σ (lg++[l])
  |.call=>evsQ ρ o.xs λvs=>qD A o.k vs σ λv l σ=>putQ o.dst v ρ λρ=>K ρ σ (lg++[l])
 |some (s,w)=>evsQ ρ o.xs λvs=>getQ ρ s λc=>match clsOf o.k with
  |.mv | .pu=>A.gr c w (λk=>A.pu (cstep o.k vs σ) k) λv=>putQ o.dst v ρ λρ=>K ρ σ (lg++[([],[])])
  |.rd | .wr=>A.gl c w (λk=>A.dr (cstep o.k vs σ) σ k) σ λv l σ=>putQ o.dst v ρ λρ=>K ρ σ (lg++[l])
  |.call=>A.gl c w (λk=>qD A o.k vs σ k) σ λv l σ=>putQ o.dst v ρ λρ=>K ρ σ (lg++[l])
theorem Yc4(A:Ans α)(o:MOper)(ρ:Frame)(σ:List ABlk)(lg:Log)(K:Frame→List ABlk→Log→α):dmOpD A o ρ σ lg K=dnOpD A o ρ σ lg K:=by
 unfold dmOpD dnOpD;simp only[Qb2,QbR,Zar,ZcP];split
 ·rename_i h; simp only[h]; cases clsOf o.k<;>rfl
 ·rename_i h; simp only[h]; cases clsOf o.k<;>rfl
def Zbz(A:Ans α):List MOper→Frame→List ABlk→Log→(Frame→List ABlk→Log→α)→α
 |[],ρ,σ,lg,K=>K ρ σ lg
 |o::r,ρ,σ,lg,K=>dmOpD A o ρ σ lg λρ σ lg=>spQ lg λlg=>Zbz A r ρ σ lg K
theorem ZaW(A:Ans α):∀(l:List MOper) (ρ:Frame) (σ:List ABlk) (lg:Log) (K:Frame→List ABlk→Log→α),Zbz A l ρ σ lg K=QaW A l ρ σ lg K
 |[],_,_,_,_=>rfl
 |o::r,ρ,σ,lg,K=>by simp only[Zbz,QaW,Yc4,ZaW A r,ZbL]
def dmPcs(A:Ans α)(hd:List (List Nat)):Nat→Pcs→Frame→List ABlk→(Frame→List ABlk→α)→α
 |_,[],ρ,σ,K=>K ρ σ
 |lo,(seg,true)::r,ρ,σ,K=>dmOps A seg ρ σ λρ σ=>dmPcs A hd (lo+seg.length) r ρ σ K
 |lo,(seg,false)::r,ρ,σ,K=>match noWr seg with
  |true=>dmOps A seg ρ σ λρ σ=>dmPcs A hd (lo+seg.length) r ρ σ K
  |false=>Zbz A seg ρ σ [] λρ σ lg=>A.gd (Xl (hdSeg hd lo seg.length) lg) (dmPcs A hd (lo+seg.length) r ρ σ K)
theorem Ybp(A:Ans α)(hd:List (List Nat)):∀(lo:Nat) (l:Pcs) (ρ:Frame) (σ:List ABlk) (K:Frame→List ABlk→α),dmPcs A hd lo l ρ σ K=dnPcs A hd lo l ρ σ K
 |_,[],_,_,_=>rfl
 |lo,(seg,true)::r,ρ,σ,K=>by simp only[dmPcs,dnPcs,Xaw,Ybp A hd _ r]
 |lo,(seg,false)::r,ρ,σ,K=>by simp only[dmPcs,dnPcs,Xaw,ZaW,Ybp A hd _ r]; cases noWr seg<;>rfl
def dm(A:Ans α):DCode→Frame→List ABlk→(Frame→List ABlk→α)→(Nat→Frame→List ABlk→α)→(Frame→List ABlk→α)→α
 |.skip,ρ,σ,K,_,_=>K ρ σ
 |.label _,ρ,σ,K,_,_=>K ρ σ
 |.region _ ms none,ρ,σ,K,_,_=>dmOps A ms ρ σ K
 |.region _ ms (some hd),ρ,σ,K,_,_=>match noWr ms with
  |true=>dmOps A ms ρ σ K
  |false=>Zbz A ms ρ σ [] λρ σ lg=>A.gd (Xl hd lg) (K ρ σ)
 |.regionS _ ps hd,ρ,σ,K,_,_=>dmPcs A hd 0 ps ρ σ K
 |.seq a b,ρ,σ,K,E,R=>dm A a ρ σ (λρ σ=>dm A b ρ σ K E R) E R
 |.cond c a b,ρ,σ,K,E,R=>evQ ρ c λc=>qT A c (dm A a ρ σ K E R) (dm A b ρ σ K E R)
 |.join lv a,ρ,σ,K,E,R=>joinK (λk=>dm A a ρ σ (λρ' σ=>getsQ ρ' lv λvs=>k vs σ) E R) (λvs σ=>spQ a.asg λl=>dropQ l ρ λr=>zipQ lv vs r λr=>K r σ)
 | .block id a,ρ,σ,K,E,R=>dm A a ρ σ K (λi ρ σ=>match Nat.beq i id with
  |true=>K ρ σ
  | false=>E i ρ σ) R
 |.loop lv a,ρ,σ,_,E,R=>getsQ ρ lv λvs=>qL A (λagain vs σ=>spQ a.asg λl=>dropQ l ρ λr=>zipQ lv vs r λr=>dm A a r σ (λρ' σ=>getsQ ρ' lv λvs=>again vs σ) E R) vs σ
 |.exit id,ρ,σ,_,E,_=>E id ρ σ
 |.scope a,ρ,σ,K,E,R=>dm A a ρ σ K E R
 |.ret,ρ,σ,_,_,R=>R ρ σ
theorem Xbp(A:Ans α):∀(D:DCode) (ρ:Frame) (σ:List ABlk) (K:Frame→List ABlk→α) (E:Nat→Frame→List ABlk→α) (R:Frame→List ABlk→α),dm A D ρ σ K E R=dn A D ρ σ K E R
 |.skip,_,_,_,_,_=>rfl
 |.label _,_,_,_,_,_=>rfl
 |.region _ ms none,ρ,σ,K,E,R=>by simp only[dm,dn,Xaw]
 |.region _ ms (some hd),ρ,σ,K,E,R=>by simp only[dm,dn,Xaw,ZaW]; cases noWr ms<;>rfl
 |.regionS _ ps hd,ρ,σ,K,E,R=>by simp only[dm,dn,Ybp]
 |.seq a b,ρ,σ,K,E,R=>by simp only[dm,dn,Xbp A a,Xbp A b]
 |.cond c a b,ρ,σ,K,E,R=>by simp only[dm,dn,qT,Xbp A a,Xbp A b,Qb2]
 |.join lv a,ρ,σ,K,E,R=>by simp only[dm,dn,Xbp A a,Xbr,ZbL,Qbp,ZbY]
 |.block id a,ρ,σ,K,E,R=>by simp only[dm,dn,Xbp A a]; rfl
 |.loop lv a,ρ,σ,K,E,R=>by simp only[dm,dn,qL,Xbp A a,Xbr,ZbL,Qbp,ZbY]
 |.exit id,_,_,_,_,_=>rfl
 |.scope a,ρ,σ,K,E,R=>by simp only[dm,dn,Xbp A a]
 |.ret,_,_,_,_,_=>rfl
def YaW(A:Ans α):List RV→Frame→List ABlk→(List AVal→α)→α
 |[],_,_,K=>K []
 |.t n::r,ρ,σ,K=>getQ ρ n λv=>YaW A r ρ σ λvs=>K (v::vs)
 |.c s agg n::r,ρ,σ,K=>getQ ρ s λx=>A.opt (cellV agg n x σ) λv=>YaW A r ρ σ λvs=>K (v::vs)
theorem XaW(A:Ans α):∀(l:List RV) (ρ:Frame) (σ:List ABlk) (K:List AVal→α),YaW A l ρ σ K=Qaw A l ρ σ K
 |[],_,_,_=>rfl
 |.t n::r,ρ,σ,K=>by simp only[YaW,Qaw,Zar,XaW A r]
 |.c s agg n::r,ρ,σ,K=>by simp only[YaW,Qaw,Zar,XaW A r]
def dmFn(A:Ans α)(o:Option DFn)(xs:List AVal)(σ:List ABlk)(ret:AVal→List ABlk→α):α:=match o with
 |some D=>spQ (frame0 xs) λρ=>dm A D.body ρ σ (λρ σ=>YaW A D.rets ρ σ λvs=>ret (retOf vs) σ) (λ_ _ _=>qS A) (λρ σ=>YaW A D.rets ρ σ λvs=>ret (retOf vs) σ)
 |none=>qS A
theorem Ydl(A:Ans α)(D:DFn)(xs:List AVal)(σ:List ABlk)(ret:AVal→List ABlk→α):dmFn A (some D) xs σ ret=dnFn A D xs σ ret:=by
 simp only[dmFn,dnFn,qS,ZbL,Xbp,XaW]
end
theorem QaB(n:Nat)(h:n<2 ^ 8):UInt8.ofBitVec (BitVec.ofFin ⟨n,h⟩)=UInt8.ofNat n:=by
 apply UInt8.toNat_inj.1;simp;exact(Nat.mod_eq_of_lt h).symm
section
variable {P:Program} {GL:Globs} {f:FuncId} {l:List (Option (List Nat))}
theorem Qbr{np:Nat}{g:GFun}(h:(compD P GL np f l).isSome=true)(hg:∀ {α:Type} (A:Ans α) (xs:List AVal) (σ:List ABlk) (ret:AVal→List ABlk→α),xs.length=np→dmFn A (compD P GL np f l) xs σ ret=g A xs σ ret):GOk P GL f np g:=by
 cases hD:compD P GL np f l with
 |none=>rw[hD] at h; cases h
 |some D=>
  refine ZdF hD (λα A xs σ ret hn=>?_);have:=hg A xs σ ret hn;rw[hD,Ydl] at this;exact this.symm
end
structure H0 (P:Program) (GL:Globs) (f:FuncId) (l:List (Option (List Nat))):Type 1 where
 g:∀ {α:Type},Ans α→List ABlk→(AVal→List ABlk→α)→α
 h:∀ {α:Type} (A:Ans α) σ ret,dmFn A (compD P GL 0 f l) [] σ ret=g A σ ret:=by intros; conv=>lhs; reduce; simp only[Int.reduceOfNat,Int.reduceNegSucc,QaB,UInt8.reduceOfNat,qC,qD,qT,qL,qS]
 k:(compD P GL 0 f l).isSome=true:=by kernel_rfl
abbrev H0.u{P:Program}{GL:Globs}{f:FuncId}{l:List (Option (List Nat))}(q:H0 P GL f l):GFun:=λA xs σ r=>match xs with
 |[]=>q.g A σ r
 |_=>A.stop
theorem H0.ok{P:Program}{GL:Globs}{f:FuncId}{l:List (Option (List Nat))}(q:H0 P GL f l):GOk P GL f 0 q.u:=Qbr q.k λA xs σ ret hn=>by
 match xs,hn with
 |[],_=>exact q.h A σ ret
structure H1 (P:Program) (GL:Globs) (f:FuncId) (l:List (Option (List Nat))):Type 1 where
 g:∀ {α:Type},Ans α→AVal→List ABlk→(AVal→List ABlk→α)→α
 h:∀ {α:Type} (A:Ans α) x σ ret,dmFn A (compD P GL 1 f l) [x] σ ret=g A x σ ret:=by intros; conv=>lhs; reduce; simp only[Int.reduceOfNat,Int.reduceNegSucc,QaB,UInt8.reduceOfNat,qC,qD,qT,qL,qS]
 k:(compD P GL 1 f l).isSome=true:=by kernel_rfl
abbrev H1.u{P:Program}{GL:Globs}{f:FuncId}{l:List (Option (List Nat))}(q:H1 P GL f l):GFun:=λA xs σ r=>match xs with
 |[x]=>q.g A x σ r
 |_=>A.stop
theorem H1.ok{P:Program}{GL:Globs}{f:FuncId}{l:List (Option (List Nat))}(q:H1 P GL f l):GOk P GL f 1 q.u:=Qbr q.k λA xs σ ret hn=>by
 match xs,hn with
 |[x],_=>exact q.h A x σ ret
structure H2 (P:Program) (GL:Globs) (f:FuncId) (l:List (Option (List Nat))):Type 1 where
 g:∀ {α:Type},Ans α→AVal→AVal→List ABlk→(AVal→List ABlk→α)→α
 h:∀ {α:Type} (A:Ans α) x y σ ret,dmFn A (compD P GL 2 f l) [x,y] σ ret=g A x y σ ret:=by intros; conv=>lhs; reduce; simp only[Int.reduceOfNat,Int.reduceNegSucc,QaB,UInt8.reduceOfNat,qC,qD,qT,qL,qS]
 k:(compD P GL 2 f l).isSome=true:=by kernel_rfl
abbrev H2.u{P:Program}{GL:Globs}{f:FuncId}{l:List (Option (List Nat))}(q:H2 P GL f l):GFun:=λA xs σ r=>match xs with
 |[x,y]=>q.g A x y σ r
 |_=>A.stop
theorem H2.ok{P:Program}{GL:Globs}{f:FuncId}{l:List (Option (List Nat))}(q:H2 P GL f l):GOk P GL f 2 q.u:=Qbr q.k λA xs σ ret hn=>by
 match xs,hn with
 |[x,y],_=>exact q.h A x y σ ret
structure H3 (P:Program) (GL:Globs) (f:FuncId) (l:List (Option (List Nat))):Type 1 where
 g:∀ {α:Type},Ans α→AVal→AVal→AVal→List ABlk→(AVal→List ABlk→α)→α
 h:∀ {α:Type} (A:Ans α) x y z σ ret,dmFn A (compD P GL 3 f l) [x,y,z] σ ret=g A x y z σ ret:=by intros; conv=>lhs; reduce; simp only[Int.reduceOfNat,Int.reduceNegSucc,QaB,UInt8.reduceOfNat,qC,qD,qT,qL,qS]
 k:(compD P GL 3 f l).isSome=true:=by kernel_rfl
abbrev H3.u{P:Program}{GL:Globs}{f:FuncId}{l:List (Option (List Nat))}(q:H3 P GL f l):GFun:=λA xs σ r=>match xs with
 |[x,y,z]=>q.g A x y z σ r
 |_=>A.stop
theorem H3.ok{P:Program}{GL:Globs}{f:FuncId}{l:List (Option (List Nat))}(q:H3 P GL f l):GOk P GL f 3 q.u:=Qbr q.k λA xs σ ret hn=>by
 match xs,hn with
 |[x,y,z],_=>exact q.h A x y z σ ret
structure H4 (P:Program) (GL:Globs) (f:FuncId) (l:List (Option (List Nat))):Type 1 where
 g:∀ {α:Type},Ans α→AVal→AVal→AVal→AVal→List ABlk→(AVal→List ABlk→α)→α
 h:∀ {α:Type} (A:Ans α) x y z u σ ret,dmFn A (compD P GL 4 f l) [x,y,z,u] σ ret=g A x y z u σ ret:=by intros; conv=>lhs; reduce; simp only[Int.reduceOfNat,Int.reduceNegSucc,QaB,UInt8.reduceOfNat,qC,qD,qT,qL,qS]
 k:(compD P GL 4 f l).isSome=true:=by kernel_rfl
abbrev H4.u{P:Program}{GL:Globs}{f:FuncId}{l:List (Option (List Nat))}(q:H4 P GL f l):GFun:=λA xs σ r=>match xs with
 |[x,y,z,u]=>q.g A x y z u σ r
 |_=>A.stop
theorem H4.ok{P:Program}{GL:Globs}{f:FuncId}{l:List (Option (List Nat))}(q:H4 P GL f l):GOk P GL f 4 q.u:=Qbr q.k λA xs σ ret hn=>by
 match xs,hn with
 |[x,y,z,u],_=>exact q.h A x y z u σ ret
structure H5 (P:Program) (GL:Globs) (f:FuncId) (l:List (Option (List Nat))):Type 1 where
 g:∀ {α:Type},Ans α→AVal→AVal→AVal→AVal→AVal→List ABlk→(AVal→List ABlk→α)→α
 h:∀ {α:Type} (A:Ans α) x y z u v σ ret,dmFn A (compD P GL 5 f l) [x,y,z,u,v] σ ret=g A x y z u v σ ret:=by intros; conv=>lhs; reduce; simp only[Int.reduceOfNat,Int.reduceNegSucc,QaB,UInt8.reduceOfNat,qC,qD,qT,qL,qS]
 k:(compD P GL 5 f l).isSome=true:=by kernel_rfl
abbrev H5.u{P:Program}{GL:Globs}{f:FuncId}{l:List (Option (List Nat))}(q:H5 P GL f l):GFun:=λA xs σ r=>match xs with
 |[x,y,z,u,v]=>q.g A x y z u v σ r
 |_=>A.stop
theorem H5.ok{P:Program}{GL:Globs}{f:FuncId}{l:List (Option (List Nat))}(q:H5 P GL f l):GOk P GL f 5 q.u:=Qbr q.k λA xs σ ret hn=>by
 match xs,hn with
 |[x,y,z,u,v],_=>exact q.h A x y z u v σ ret
structure H6 (P:Program) (GL:Globs) (f:FuncId) (l:List (Option (List Nat))):Type 1 where
 g:∀ {α:Type},Ans α→AVal→AVal→AVal→AVal→AVal→AVal→List ABlk→(AVal→List ABlk→α)→α
 h:∀ {α:Type} (A:Ans α) x y z u v w σ ret,dmFn A (compD P GL 6 f l) [x,y,z,u,v,w] σ ret=g A x y z u v w σ ret:=by intros; conv=>lhs; reduce; simp only[Int.reduceOfNat,Int.reduceNegSucc,QaB,UInt8.reduceOfNat,qC,qD,qT,qL,qS]
 k:(compD P GL 6 f l).isSome=true:=by kernel_rfl
abbrev H6.u{P:Program}{GL:Globs}{f:FuncId}{l:List (Option (List Nat))}(q:H6 P GL f l):GFun:=λA xs σ r=>match xs with
 |[x,y,z,u,v,w]=>q.g A x y z u v w σ r
 |_=>A.stop
theorem H6.ok{P:Program}{GL:Globs}{f:FuncId}{l:List (Option (List Nat))}(q:H6 P GL f l):GOk P GL f 6 q.u:=Qbr q.k λA xs σ ret hn=>by
 match xs,hn with
 |[x,y,z,u,v,w],_=>exact q.h A x y z u v w σ ret
structure H7 (P:Program) (GL:Globs) (f:FuncId) (l:List (Option (List Nat))):Type 1 where
 g:∀ {α:Type},Ans α→AVal→AVal→AVal→AVal→AVal→AVal→AVal→List ABlk→(AVal→List ABlk→α)→α
 h:∀ {α:Type} (A:Ans α) x y z u v w t σ ret,dmFn A (compD P GL 7 f l) [x,y,z,u,v,w,t] σ ret=g A x y z u v w t σ ret:=by intros; conv=>lhs; reduce; simp only[Int.reduceOfNat,Int.reduceNegSucc,QaB,UInt8.reduceOfNat,qC,qD,qT,qL,qS]
 k:(compD P GL 7 f l).isSome=true:=by kernel_rfl
abbrev H7.u{P:Program}{GL:Globs}{f:FuncId}{l:List (Option (List Nat))}(q:H7 P GL f l):GFun:=λA xs σ r=>match xs with
 |[x,y,z,u,v,w,t]=>q.g A x y z u v w t σ r
 |_=>A.stop
theorem H7.ok{P:Program}{GL:Globs}{f:FuncId}{l:List (Option (List Nat))}(q:H7 P GL f l):GOk P GL f 7 q.u:=Qbr q.k λA xs σ ret hn=>by
 match xs,hn with
 |[x,y,z,u,v,w,t],_=>exact q.h A x y z u v w t σ ret
structure H8 (P:Program) (GL:Globs) (f:FuncId) (l:List (Option (List Nat))):Type 1 where
 g:∀ {α:Type},Ans α→AVal→AVal→AVal→AVal→AVal→AVal→AVal→AVal→List ABlk→(AVal→List ABlk→α)→α
 h:∀ {α:Type} (A:Ans α) x y z u v w t s σ ret,dmFn A (compD P GL 8 f l) [x,y,z,u,v,w,t,s] σ ret=g A x y z u v w t s σ ret:=by intros; conv=>lhs; reduce; simp only[Int.reduceOfNat,Int.reduceNegSucc,QaB,UInt8.reduceOfNat,qC,qD,qT,qL,qS]
 k:(compD P GL 8 f l).isSome=true:=by kernel_rfl
abbrev H8.u{P:Program}{GL:Globs}{f:FuncId}{l:List (Option (List Nat))}(q:H8 P GL f l):GFun:=λA xs σ r=>match xs with
 |[x,y,z,u,v,w,t,s]=>q.g A x y z u v w t s σ r
 |_=>A.stop
theorem H8.ok{P:Program}{GL:Globs}{f:FuncId}{l:List (Option (List Nat))}(q:H8 P GL f l):GOk P GL f 8 q.u:=Qbr q.k λA xs σ ret hn=>by
 match xs,hn with
 |[x,y,z,u,v,w,t,s],_=>exact q.h A x y z u v w t s σ ret
end Go.Ah
end
section
namespace Go.Ah
theorem H0.e{P:Program}{GL:Globs}{f:FuncId}{l:List (Option (List Nat))}(q:H0 P GL f l){α:Type}(A:Ans α)(σ:List ABlk)(r:AVal→List ABlk→α):q.u A [] σ r=q.g A  σ r:=rfl
theorem H1.e{P:Program}{GL:Globs}{f:FuncId}{l:List (Option (List Nat))}(q:H1 P GL f l){α:Type}(A:Ans α)(xa:AVal)(σ:List ABlk)(r:AVal→List ABlk→α):q.u A [xa] σ r=q.g A xa σ r:=rfl
theorem H2.e{P:Program}{GL:Globs}{f:FuncId}{l:List (Option (List Nat))}(q:H2 P GL f l){α:Type}(A:Ans α)(xa xb:AVal)(σ:List ABlk)(r:AVal→List ABlk→α):q.u A [xa,xb] σ r=q.g A xa xb σ r:=rfl
theorem H3.e{P:Program}{GL:Globs}{f:FuncId}{l:List (Option (List Nat))}(q:H3 P GL f l){α:Type}(A:Ans α)(xa xb xc:AVal)(σ:List ABlk)(r:AVal→List ABlk→α):q.u A [xa,xb,xc] σ r=q.g A xa xb xc σ r:=rfl
theorem H4.e{P:Program}{GL:Globs}{f:FuncId}{l:List (Option (List Nat))}(q:H4 P GL f l){α:Type}(A:Ans α)(xa xb xc xd:AVal)(σ:List ABlk)(r:AVal→List ABlk→α):q.u A [xa,xb,xc,xd] σ r=q.g A xa xb xc xd σ r:=rfl
theorem H5.e{P:Program}{GL:Globs}{f:FuncId}{l:List (Option (List Nat))}(q:H5 P GL f l){α:Type}(A:Ans α)(xa xb xc xd xe:AVal)(σ:List ABlk)(r:AVal→List ABlk→α):q.u A [xa,xb,xc,xd,xe] σ r=q.g A xa xb xc xd xe σ r:=rfl
theorem H6.e{P:Program}{GL:Globs}{f:FuncId}{l:List (Option (List Nat))}(q:H6 P GL f l){α:Type}(A:Ans α)(xa xb xc xd xe xf:AVal)(σ:List ABlk)(r:AVal→List ABlk→α):q.u A [xa,xb,xc,xd,xe,xf] σ r=q.g A xa xb xc xd xe xf σ r:=rfl
theorem H7.e{P:Program}{GL:Globs}{f:FuncId}{l:List (Option (List Nat))}(q:H7 P GL f l){α:Type}(A:Ans α)(xa xb xc xd xe xf xg:AVal)(σ:List ABlk)(r:AVal→List ABlk→α):q.u A [xa,xb,xc,xd,xe,xf,xg] σ r=q.g A xa xb xc xd xe xf xg σ r:=rfl
theorem H8.e{P:Program}{GL:Globs}{f:FuncId}{l:List (Option (List Nat))}(q:H8 P GL f l){α:Type}(A:Ans α)(xa xb xc xd xe xf xg xh:AVal)(σ:List ABlk)(r:AVal→List ABlk→α):q.u A [xa,xb,xc,xd,xe,xf,xg,xh] σ r=q.g A xa xb xc xd xe xf xg xh σ r:=rfl
end Go.Ah
end
section
namespace Go.Ah.Tz
@[reducible] def iv(n:Int):AVal:=.int .i64 n
@[reducible] def iv8(n:Int):AVal:=.int .i8 n
def cel(n:Int):List AVal:=[iv n]
@[reducible] def rowV(l:List Int):AVal:=.rsl false false 1 (l.map cel)
structure Th where
 id:Int
 card:Int
 harm:Int
 tired:Bool
 deriving DecidableEq,Inhabited
def thC(t:Th):List AVal:=[iv t.id,iv t.card,iv t.harm,.bool t.tired]
@[reducible] def thV(l:List Th):AVal:=.rsl false false 4 (l.map thC)
structure Sd where
 life:Int
 mana:Int
 most:Int
 deck:List Int
 hand:List Int
 grave:List Int
 units:List Th
 told:List Int
 deriving DecidableEq,Inhabited
@[reducible] def sdC(s:Sd):List AVal:=[iv s.life,iv s.mana,iv s.most,rowV s.deck,rowV s.hand,rowV s.grave,thV s.units,rowV s.told]
structure St where
 turn:Int
 mover:Int
 phase:Int
 struck:Bool
 result:Int
 attack:List Int
 next:Int
 s0:Sd
 s1:Sd
 deriving DecidableEq,Inhabited
@[reducible] def stC(s:St):List AVal:=[iv s.turn,iv s.mover,iv8 s.phase,.bool s.struck,iv8 s.result,rowV s.attack,iv s.next,
 iv s.s0.life,iv s.s0.mana,iv s.s0.most,rowV s.s0.deck,rowV s.s0.hand,rowV s.s0.grave,thV s.s0.units,rowV s.s0.told,
 iv s.s1.life,iv s.s1.mana,iv s.s1.most,rowV s.s1.deck,rowV s.s1.hand,rowV s.s1.grave,thV s.s1.units,rowV s.s1.told]
@[reducible] def stV(s:St):AVal:=.agg (stC s)
theorem Zg{n:Nat}(h:(n:Int)<4611686018427387904):IntKind.i64.wrap ((n:Int)+1)=((n+1:Nat):Int):=by
 rw[IntWalk.i64_in _ (by omega)]; simp
theorem XI{α:Type}(l:List α)(i:Nat)(h:i<l.length):l.take (i+1)=l.take i++[l[i]]:=by
 rw[List.take_succ_eq_append_getElem h]
theorem QV{α β:Type}(f:α→β)(l:List α)(i:Nat)(h:i<l.length):(l.take i).map f++[f l[i]]=(l.take (i+1)).map f:=by
 rw[XI l i h,List.map_append]; rfl
end Go.Ah.Tz
end
section
namespace Go.Ah.Tz
open Go.Proofs.Tryz (prog)
set_option maxRecDepth 100000
set_option maxHeartbeats 4000000
attribute [local irreducible] Ans.rd Ans.pu Ans.wr Ans.dr Ans.gr Ans.gw Ans.gl Ans.gd Ans.opt joinK hdV tlV cellV Xl qC qD qT qL qS Zo XY Zm XQ Zk Xu X4 XA Xad Ql QF YB ZH QE XB Qz Zy Yy Yo Zx XH Qm Xac XP ZB QH Xai Q5 QaG Zn X1 Qc Zap Qt Qai Yap Qp QM Xap ZI Yae Xae ZN YA Z7 Qg Qap Z6 Y6 Ybk
abbrev GQ(f:FuncId)(n:Nat)(g:GFun):Prop:=GOk prog GL0 f n g
abbrev PC(f:FuncId)(xs:List AVal)(v:AVal):Prop:=PCall prog GL0 f xs v
noncomputable abbrev VV:Ans Prop:=W prog GL0
def g3:H6 prog GL0 3 [some [999],none,none,none,none]:={g:=_}
def g51:H3 prog GL0 51 [none,none,none,some [],none,none,none,none,some [94],none,none]:={g:=_}
def g7:H2 prog GL0 7 [none,none,some [5],none,none,none]:={g:=_}
def g56:H4 prog GL0 56 [none]:={g:=_}
def g47:H5 prog GL0 47 []:={g:=_}
def g48:H5 prog GL0 48 []:={g:=_}
def g41:H4 prog GL0 41 [none,some [11,10],none]:={g:=_}
def g9:H2 prog GL0 9 [none,none,some [5],none,none,none]:={g:=_}
def g4:H3 prog GL0 4 []:={g:=_}
def g5:H0 prog GL0 5 [some [999]]:={g:=_}
def g6:H5 prog GL0 6 [some [999],some [],none,none,none]:={g:=_}
def g8:H1 prog GL0 8 [some [999],none,some [7,2],none,none,some [2],none,none]:={g:=_}
def g20:H2 prog GL0 20 [none,none,some [5],none,none,none]:={g:=_}
def g22:H2 prog GL0 22 []:={g:=_}
def g11:H1 prog GL0 11 [none,some [4,3],none,none]:={g:=_}
def g160:H3 prog GL0 160 [none,none]:={g:=_}
def g16:H2 prog GL0 16 [none]:={g:=_}
def g77:H2 prog GL0 77 [none]:={g:=_}
def g64:H1 prog GL0 64 []:={g:=_}
def g78:H2 prog GL0 78 []:={g:=_}
def g18:H1 prog GL0 18 [none,some [9],none,none]:={g:=_}
def l153{α:Type}(A:Ans α)(x0 x1:AVal)(σ:List ABlk)(ret:AVal→List ABlk→α):α:=
 A.rd (Qp [x0] σ) λt7_0=>
 A.rd (Qp [x1] σ) λt9_1=>
 A.rd (Qm .neq false [t7_0,t9_1] σ) λt10_2=>
 A.test t10_2 (
 ret (.bool false) σ) (
 A.loop (λag3 v4 σ=>
 A.rd (Qp [x0] σ) λt13_5=>
 A.rd (Qm .lss false [(h0 v4),t13_5] σ) λt14_6=>
 A.test t14_6 (
 A.rd (Zm 4 [x0,(h0 v4)] σ) λt19_7=>
 A.rd (Zk true 4 [t19_7] σ) λt20_8=>
 A.rd (Zm 4 [x1,(h0 v4)] σ) λt23_9=>
 A.rd (Zk true 4 [t23_9] σ) λt24_10=>
 A.rd (QaG true [false,false,false,true] [t20_8,t24_10] σ) λt25_11=>
 A.test t25_11 (
 ret (.bool false) σ) (
 A.rd (Qm .add false [(h0 v4),(.int .i64 1)] σ) λt16_12=>
 ag3 [t16_12] σ)) (
 ret (.bool true) σ)) [(.int .i64 0)] σ)
theorem Xdp{α:Type}(A:Ans α)(x0 x1:AVal)(σ:List ABlk)(ret:AVal→List ABlk→α):dmFn A (compD prog GL0 2 21 [none,none,some [5],none,none,none]) [x0,x1] σ ret=l153 A x0 x1 σ ret:=by kernel_rfl
def g21:H2 prog GL0 21 [none,none,some [5],none,none,none]:=⟨l153,Xdp,by kernel_rfl⟩
def g71:H7 prog GL0 71 [none,some [4,18],none,none,none,some []]:={g:=_}
def g72:H1 prog GL0 72 []:={g:=_}
def g73:H4 prog GL0 73 [none]:={g:=_}
def g74:H1 prog GL0 74 []:={g:=_}
def g75:H4 prog GL0 75 [none]:={g:=_}
def g98:H2 prog GL0 98 [none,some [9],none,none,none]:={g:=_}
def g166:H3 prog GL0 166 [none,some [20,6,7],none,some [6,7],none]:={g:=_}
def g40:H4 prog GL0 40 [none,some [11,10],none]:={g:=_}
def g76:H3 prog GL0 76 [none,some [],none,none,none,none,none,none]:={g:=_}
def g58:H3 prog GL0 58 [some [],none]:={g:=_}
def g14:H0 prog GL0 14 []:={g:=_}
def g31:H1 prog GL0 31 [none]:={g:=_}
def g10:H1 prog GL0 10 [none,some [4,3],none,none,none,some [6,3],none,none]:={g:=_}
def g12:H1 prog GL0 12 [none,some [4,3],none,none]:={g:=_}
def g13:H1 prog GL0 13 [some [999]]:={g:=_}
def g15:H0 prog GL0 15 [some [999],none,some [2],none,none]:={g:=_}
def g17:H2 prog GL0 17 [some [999],none,none,some [7],none,none]:={g:=_}
def g19:H2 prog GL0 19 [some [999],none,some [33,4],none,some [4],none,some [8],none,some [11],none,none]:={g:=_}
def g83:H2 prog GL0 83 []:={g:=_}
def g42:H1 prog GL0 42 [none,some [10],none,none,none]:={g:=_}
def g65:H2 prog GL0 65 []:={g:=_}
def g25:H3 prog GL0 25 [none,some [14],none,none,none,none,none,none,none,none,none,none,none,none,none,some [89],none,none,none,none,none,some [116],none,none,none]:={g:=_}
def g32:H1 prog GL0 32 [none]:={g:=_}
def g114:H2 prog GL0 114 [none,some [8],none,none,none]:={g:=_}
def g115:H2 prog GL0 115 []:={g:=_}
def g84:H2 prog GL0 84 [none,some [8],none,none,none]:={g:=_}
def g68:H1 prog GL0 68 []:={g:=_}
def g82:H2 prog GL0 82 [none,some [13],none,some [],none]:={g:=_}
def g23:H1 prog GL0 23 [none,some [4,3],none,none]:={g:=_}
def g24:H1 prog GL0 24 [none,some [4,3],none,none,none,some [5,3],none,none]:={g:=_}
def g26:H1 prog GL0 26 [some [999],none]:={g:=_}
def g27:H1 prog GL0 27 [none,none,some [18],none,some [],none,none,some [40],none,none,none,none,none]:={g:=_}
def g28:H2 prog GL0 28 [some [999]]:={g:=_}
def g29:H2 prog GL0 29 [some [999]]:={g:=_}
def g30:H1 prog GL0 30 [some [999]]:={g:=_}
def l297{α:Type}(A:Ans α)(x0 x1 x2:AVal)(σ:List ABlk)(ret:AVal→List ABlk→α):α:=
 A.wr (Xac [x1] σ) σ λt4_0 σ=>
 A.rd (Qg [x0] σ) λt13_1=>
 A.rd (Qc 29 [t13_1] σ) λt14_2=>
 A.wr (Yo 1 [t14_2,(.func (.func 47) [] [])] σ) σ λ_ σ=>
 A.rd (Qc 0 [t4_0] σ) λt15_3=>
 A.rd (Zk false 1 [t15_3] σ) λt16_4=>
 A.rd (Qm .eql false [t16_4,(.int .i8 1)] σ) λt17_5=>
 joinK (λk6=>
 A.test t17_5 (
 A.rd (Qg [x0] σ) λt19_8=>
 A.rd (Qc 29 [t19_8] σ) λt20_9=>
 A.wr (Yo 1 [t20_9,(.func (.func 48) [] [])] σ) σ λ_ σ=>
 k6 [] σ) (
 k6 [] σ)) (λv7 σ=>
 A.rd (Qc 1 [t4_0] σ) λt23_10=>
 A.rd (Zk false 1 [t23_10] σ) λt24_11=>
 A.call (.call 49) [x0,t24_11] σ λt25_12 σ=>
 A.rd (Xa4 [154,155] [t25_12] σ) λt26_13=>
 A.rd (Zn 0 [t26_13] σ) λt27_14=>
 A.rd (Zn 1 [t26_13] σ) λt28_15=>
 A.rd (Ybk .not [t28_15] σ) λt30_16=>
 A.gr t30_16 false (λk=>A.rd (Z7 [x2] σ) k) λt32_17=>
 A.gr t30_16 false (λk=>A.rd (Qm .lss false [t32_17,(.int .i64 0)] σ) k) λt33_18=>
 A.rd (Ql [t30_16,(.bool true),t33_18] σ) λt34_19=>
 A.test t34_19 (
 ret (.int .i64 0) σ) (
 A.call (.invoke "baize/effect.harm" [(154,168),(155,169)]) [t27_14,x0,x2] σ λt39_20 σ=>
 A.rd (Zn 0 [t39_20] σ) λt40_21=>
 A.rd (Zn 1 [t39_20] σ) λt41_22=>
 A.rd (Zn 2 [t39_20] σ) λt42_23=>
 A.wr (Zx [(.int .i64 0),(.int .i64 0),(.int .i8 0),(.bool false),(.int .i8 0),.nils,(.int .i64 0),(.int .i64 0),(.int .i64 0),(.int .i64 0),.nils,.nils,.nils,.nils,.nils,(.int .i64 0),(.int .i64 0),(.int .i64 0),.nils,.nils,.nils,.nils,.nils] [] σ) σ λt9_24 σ=>
 A.wr (Zx [(.int .i8 0),(.int .i64 0),(.int .i64 0),(.int .i64 0),(.int .i64 0),(.int .i64 0),.nils] [] σ) σ λt10_25 σ=>
 A.wr (Yo 23 [t9_24,t40_21] σ) σ λ_ σ=>
 A.wr (Yo 7 [t10_25,t41_22] σ) σ λ_ σ=>
 A.rd (Qm .neq false [t42_23,(.int .i64 0)] σ) λt44_26=>
 A.test t44_26 (
 ret t42_23 σ) (
 A.rd (Zk true 23 [t9_24] σ) λt47_27=>
 A.rd (Qg [x0] σ) λt48_28=>
 A.rd (Qc 2 [t48_28] σ) λt49_29=>
 A.wr (Yo 23 [t49_29,t47_27] σ) σ λ_ σ=>
 A.rd (Zk true 7 [t10_25] σ) λt51_30=>
 A.call (.call 50) [x0,t51_30] σ λt52_31 σ=>
 ret (.int .i64 0) σ)))
theorem Qdp{α:Type}(A:Ans α)(x0 x1 x2:AVal)(σ:List ABlk)(ret:AVal→List ABlk→α):dmFn A (compD prog GL0 3 33 [some [],none,none]) [x0,x1,x2] σ ret=l297 A x0 x1 x2 σ ret:=by kernel_rfl
def g33:H3 prog GL0 33 [some [],none,none]:=⟨l297,Qdp,by kernel_rfl⟩
def g34:H3 prog GL0 34 [some [999],none,some [23],none,none,none]:={g:=_}
def g35:H3 prog GL0 35 [some [999],none,none,none]:={g:=_}
def g36:H3 prog GL0 36 [some [999],none]:={g:=_}
def g37:H3 prog GL0 37 [some [999],none]:={g:=_}
def g38:H3 prog GL0 38 [some [999]]:={g:=_}
def g39:H3 prog GL0 39 [some [999],none]:={g:=_}
def g99:H2 prog GL0 99 []:={g:=_}
def g100:H2 prog GL0 100 []:={g:=_}
def g101:H2 prog GL0 101 []:={g:=_}
def g102:H2 prog GL0 102 []:={g:=_}
def g103:H2 prog GL0 103 []:={g:=_}
def g104:H3 prog GL0 104 [some [5]]:={g:=_}
def g59:H1 prog GL0 59 []:={g:=_}
def g60:H1 prog GL0 60 []:={g:=_}
def g61:H1 prog GL0 61 [none,some [9],none,none,none]:={g:=_}
def g62:H1 prog GL0 62 []:={g:=_}
def g63:H1 prog GL0 63 [none,some [18],none,none,none,some [69,6],none,none,none,some [75,6],none,none,none]:={g:=_}
def g43:H4 prog GL0 43 [none,none,some [85],none,none,none,none,some [106],none,none,none]:={g:=_}
def g87:H2 prog GL0 87 [none,some [20],none,none,none,some [25],none,none,none]:={g:=_}
def g88:H2 prog GL0 88 []:={g:=_}
def g69:H3 prog GL0 69 [none,none,some [19],none,none,some [9],some [46],none,some [70],none,none,some [82],none,none,none,none]:={g:=_}
def g110:H1 prog GL0 110 [some [999],some [0,2],some [0,2],some [2,0]]:={g:=_}
def g44:H2 prog GL0 44 [none,some [33],none,none,none,none,some [43],none,none,none,none]:={g:=_}
def g45:H2 prog GL0 45 [none,some [8],none,none,none]:={g:=_}
def g46:H1 prog GL0 46 [some [999]]:={g:=_}
def g49:H2 prog GL0 49 [some [999],none,none,none]:={g:=_}
def g50:H2 prog GL0 50 [some [999]]:={g:=_}
def g52:H2 prog GL0 52 [some [999],none]:={g:=_}
def g53:H1 prog GL0 53 [some [999]]:={g:=_}
def g54:H3 prog GL0 54 [some [999],none,some [11],none,none]:={g:=_}
def g55:H2 prog GL0 55 []:={g:=_}
def g116:H2 prog GL0 116 []:={g:=_}
def g117:H1 prog GL0 117 [none,none,none,none,some [22,3],none,none]:={g:=_}
def g118:H1 prog GL0 118 [none]:={g:=_}
def g119:H2 prog GL0 119 []:={g:=_}
def g120:H1 prog GL0 120 [none,none,none,none,none,some [20,3],none,none,none,some [32,3],none,none]:={g:=_}
def g121:H2 prog GL0 121 [none,some [8],none,none,none]:={g:=_}
def g67:H1 prog GL0 67 []:={g:=_}
def g66:H2 prog GL0 66 []:={g:=_}
def g108:H2 prog GL0 108 [none,some [5],none,some [5],none,none,some [66,5],none,none,none,some [71,5],none,none,none,none,some [93,5],none,none,none,none,some [118,5],none,none,none,some [140,5],none,none,none,some [158],none,none,none]:={g:=_}
def g89:H1 prog GL0 89 []:={g:=_}
def g90:H1 prog GL0 90 [none,some [4],none,none,none,none]:={g:=_}
def g91:H2 prog GL0 91 [some [6,7,5],none,some [37],none,none,none,some [47],none,none,some [59],none,none,none,none,none,none,some [85],none,none,none]:={g:=_}
def g92:H1 prog GL0 92 []:={g:=_}
def g93:H2 prog GL0 93 [some [7,5,6],some [26],none,none,none,some [32],none,none,none,none,some [82],none,none,none,none,some [100],none,none,none]:={g:=_}
def g70:H2 prog GL0 70 [some [999],none,none,some [6],none]:={g:=_}
def g79:H2 prog GL0 79 [none]:={g:=_}
def g80:H2 prog GL0 80 []:={g:=_}
def g125:H0 prog GL0 125 []:={g:=_}
def g85:H1 prog GL0 85 [none,some [3],none,none,none]:={g:=_}
def g86:H1 prog GL0 86 []:={g:=_}
def g94:H1 prog GL0 94 [some [999],none]:={g:=_}
def g95:H1 prog GL0 95 [some [999]]:={g:=_}
def g96:H2 prog GL0 96 [some [999],none,some [4,1],none,none,some [4,12],some [4,12],none]:={g:=_}
def g97:H5 prog GL0 97 [some [999],some [],some [1],some [13],none,some [1,13],none,none,none,some [1,13],none,none,some [13],none]:={g:=_}
def g105:H1 prog GL0 105 [none,some [3],none,some [16],none]:={g:=_}
def g106:H1 prog GL0 106 []:={g:=_}
def g107:H0 prog GL0 107 [none,some [7],none,none]:={g:=_}
def g109:H1 prog GL0 109 [some [999]]:={g:=_}
def g111:H1 prog GL0 111 [some [999],none]:={g:=_}
def g112:H1 prog GL0 112 [some [999]]:={g:=_}
def g113:H1 prog GL0 113 [some [999],none]:={g:=_}
def g122:H1 prog GL0 122 [none,some [6,5,3,4],none,none,none,none,some [12],none,none,none,some [12,10,11],none,none,none,none,some [12],none,none,none]:={g:=_}
def g123:H1 prog GL0 123 [some [999],none]:={g:=_}
def g124:H1 prog GL0 124 [some [999],none]:={g:=_}
def g126:H2 prog GL0 126 [some [999],none,some [6,5],none,none,none,none,none,some [5],none,some [49],none,none]:={g:=_}
def g127:H1 prog GL0 127 [some [999],none,none,some [7],none,none,none,none,none,none,none]:={g:=_}
def g128:H2 prog GL0 128 [some [999],none,none]:={g:=_}
def g129:H2 prog GL0 129 [some [999],none,none,some [20],none,none,none,none,none,some [7,8],none,none,none,none]:={g:=_}
def g130:H2 prog GL0 130 [some [999],none,none,some [16],none,none,none,none,none,some [7,8],none,none,none,none]:={g:=_}
def g147:H2 prog GL0 147 [none]:={g:=_}
def g148:H1 prog GL0 148 []:={g:=_}
def g149:H1 prog GL0 149 []:={g:=_}
def g150:H0 prog GL0 150 []:={g:=_}
def g151:H1 prog GL0 151 []:={g:=_}
def g152:H2 prog GL0 152 []:={g:=_}
def g153:H2 prog GL0 153 [none]:={g:=_}
def g154:H2 prog GL0 154 []:={g:=_}
def g155:H2 prog GL0 155 []:={g:=_}
def g156:H2 prog GL0 156 []:={g:=_}
def g157:H2 prog GL0 157 []:={g:=_}
def g158:H2 prog GL0 158 [none]:={g:=_}
def g159:H2 prog GL0 159 []:={g:=_}
def g161:H2 prog GL0 161 []:={g:=_}
def g162:H2 prog GL0 162 []:={g:=_}
def g163:H2 prog GL0 163 []:={g:=_}
def g164:H2 prog GL0 164 []:={g:=_}
def g165:H2 prog GL0 165 []:={g:=_}
def g167:H2 prog GL0 167 [none,some [17],none,none,none,some [40],none,none,none,none,none,none,none,none,none,none,some [121],none,none,none]:={g:=_}
def g168:H3 prog GL0 168 [some [999]]:={g:=_}
def g169:H3 prog GL0 169 [some [999]]:={g:=_}
end Go.Ah.Tz
end
section
namespace Go.Ah.Tz
open Go.Proofs.Tryz (prog)
theorem hP:prog.follows .mixedOrders=true:=by kernel_rfl
theorem c62(a b:List Int)(ha:a.length<4611686018427387904):PC 20 [rowV a,rowV b] (.bool (decide (a=b))):=by
 refine Qb hP g20.ok rfl rfl ?_;simp only[g20,H2.u,Qd,Ycm,XS,Zbb,List.length_map];refine⟨λh=>?_,λh=>?_⟩
 ·simp at h ⊢; rintro rfl; exact h rfl
 have hl:a.length=b.length:=by simp at h; omega
 refine Xn (ι:=Nat) (λi vs s=>vs=[iv i]∧i≤a.length∧a.take i=b.take i) (λi=>a.length-i) 0 ⟨rfl,by omega,by simp⟩ ?_;rintro i vs s again ⟨rfl,hi,ht⟩ hag;simp only[Ycm,h0,hdV,QL,Zbb];refine⟨λh=>?_,λh=>?_⟩
 ·have h:i<a.length:=by simpa using h
  simp[Xw _ cel _ _ _ a _ i h,Xw _ cel _ _ _ b _ i (by omega),cel,Zg (n:=i) (by omega)];refine⟨λhne e=>?_,λhe=>?_⟩
  ·subst e; exact hne rfl
  ·refine hag (i+1) _ _ (by omega) ⟨rfl,by omega,?_⟩;rw[List.take_succ_eq_append_getElem h,List.take_succ_eq_append_getElem (by omega),ht,he]
 ·have h:¬i<a.length:=by simpa using h
  rw[List.take_of_length_le (by omega),List.take_of_length_le (by omega)] at ht;simp[ht]
def Grows(n:Nat)(rows:List (List AVal))(k:Nat)(v:AVal)(σ:List ABlk):Prop:=
 (k=0∧v=.nils∧rows=[])∨(0<k∧∃b,v=.sl b 0 k false∧hget σ b=.rows n rows∧rows.length=k)
theorem XM{α:Type}{f:α→List AVal}{l:List α}{m:Nat→Option Nat}(h:∀x,(f x).map (AVal.ren m)=f x):(l.map f).map (λr=>r.map (AVal.ren m))=l.map f:=by
 rw[List.map_map]; apply List.map_congr_left; intro x _; exact h x
theorem Qdj(m:Nat→Option Nat)(x:Int):(cel x).map (AVal.ren m)=cel x:=rfl
theorem Ydv(m:Nat→Option Nat)(x:Th):(thC x).map (AVal.ren m)=thC x:=rfl
theorem c63(a b:List Th)(ha:a.length<4611686018427387904):PC 21 [thV a,thV b] (.bool (decide (a=b))):=by
 refine Qb hP g21.ok rfl rfl ?_;simp only[g21,H2.u,Qd,Ycm,XS,Zbb,List.length_map];refine⟨λh=>?_,λh=>?_⟩
 ·simp at h ⊢; rintro rfl; exact h rfl
 have hl:a.length=b.length:=by simp at h; omega
 refine Xn (ι:=Nat) (λi vs s=>vs=[iv i]∧i≤a.length∧a.take i=b.take i) (λi=>a.length-i) 0 ⟨rfl,by omega,by simp⟩ ?_;rintro i vs s again ⟨rfl,hi,ht⟩ hag;simp only[Ycm,h0,hdV,QL,Zbb];refine⟨λh=>?_,λh=>?_⟩
 ·have h:i<a.length:=by simpa using h
  have hq:QaG true [false,false,false,true] [.agg (thC a[i]),.agg (thC b[i])] s=.ok (.bool (!decide (a[i]=b[i]))) [] []:=by
   have:(decide (a[i]=b[i]))=((a[i].id==b[i].id)&&((a[i].card==b[i].card)&&((a[i].harm==b[i].harm)&&((a[i].tired==b[i].tired)&&true)))):=by
    rw[Bool.eq_iff_iff];cases h1:a[i]; cases h2:b[i]; simp
   simp[QaG,XR,Ybe,thC,this]
  simp only[Xw _ thC _ _ _ a _ i h,Xw _ thC _ _ _ b _ i (by omega),Ycm,Zb1,partA,show ∀x,takeN 4 (dropN 0 (thC x))=some (thC x) from λ_=>rfl,hq,Zbb,Zl,Zg (n:=i) (by omega)];refine⟨λhne=>?_,λhe=>?_⟩
  ·simp at hne ⊢; intro e; subst e; exact hne rfl
  ·refine hag (i+1) _ _ (by omega) ⟨rfl,by omega,?_⟩;rw[List.take_succ_eq_append_getElem h,List.take_succ_eq_append_getElem (by omega),ht,show a[i]=b[i] by simpa using he]
 ·have h:¬i<a.length:=by simpa using h
  rw[List.take_of_length_le (by omega),List.take_of_length_le (by omega)] at ht;simp[ht]
end Go.Ah.Tz
end
section
namespace Go.Ah.Tz
open Go.Proofs.Tryz (prog)
attribute [local irreducible] Ans.rd Ans.pu Ans.wr Ans.dr Ans.gr Ans.gw Ans.gl Ans.gd Ans.opt joinK W
structure SdLe (n:Nat) (s:Sd):Prop where
 deck:s.deck.length≤n
 hand:s.hand.length≤n
 grave:s.grave.length≤n
 units:s.units.length≤n
 told:s.told.length≤n
structure StLe (n:Nat) (s:St):Prop where
 attack:s.attack.length≤n
 s0:SdLe n s.s0
 s1:SdLe n s.s1
theorem Qae{a b:Sd}:a=b↔a.life=b.life∧a.mana=b.mana∧a.most=b.most∧a.deck=b.deck∧a.hand=b.hand∧a.grave=b.grave∧a.told=b.told∧a.units=b.units:=by
 cases a; cases b;simp only[Sd.mk.injEq];constructor
 ·rintro⟨h1,h2,h3,h4,h5,h6,h7,h8⟩; exact⟨h1,h2,h3,h4,h5,h6,h8,h7⟩
 ·rintro⟨h1,h2,h3,h4,h5,h6,h7,h8⟩; exact⟨h1,h2,h3,h4,h5,h6,h8,h7⟩
theorem YW{a b:St}:a=b↔a.turn=b.turn∧a.mover=b.mover∧a.phase=b.phase∧a.struck=b.struck∧a.result=b.result∧a.next=b.next∧a.attack=b.attack∧a.s0=b.s0∧a.s1=b.s1:=by
 cases a; cases b;simp only[St.mk.injEq];constructor
 ·rintro⟨h1,h2,h3,h4,h5,h6,h7,h8,h9⟩; exact⟨h1,h2,h3,h4,h5,h7,h6,h8,h9⟩
 ·rintro⟨h1,h2,h3,h4,h5,h6,h7,h8,h9⟩; exact⟨h1,h2,h3,h4,h5,h7,h6,h8,h9⟩
set_option maxHeartbeats 1000000
set_option maxRecDepth 10000
theorem c20(a b:St)(ha:StLe 1000000000 a):PC 7 [stV a,stV b] (.bool (decide (a=b))):=by
 refine Qb hP g7.ok rfl rfl ?_;rw[H2.e]; unfold g7; dsimp only;repeat first|refine Za rfl ?_|refine Qa rfl rfl ?_
 rcases YBE (a.turn != b.turn) with h0|h0
 ·rw[h0]
  (repeat (first|refine Xa rfl ?_|refine Ye rfl ?_|refine Qf rfl ?_|refine Yh rfl ?_|refine Za rfl ?_|refine Qa rfl rfl ?_)); refine Yd ?_; simp at h0; simp[YW,h0]
 rw[h0];repeat first|refine Ya ?_|refine Yb ?_|refine Za rfl ?_|refine Qa rfl rfl ?_
 rcases YBE (a.mover != b.mover) with h1|h1
 ·rw[h1]
  (repeat (first|refine Xa rfl ?_|refine Ye rfl ?_|refine Qf rfl ?_|refine Yh rfl ?_|refine Za rfl ?_|refine Qa rfl rfl ?_)); refine Yd ?_; simp at h1; simp[YW,h1]
 rw[h1];repeat first|refine Ya ?_|refine Yb ?_|refine Za rfl ?_|refine Qa rfl rfl ?_
 rcases YBE (a.phase != b.phase) with h2|h2
 ·rw[h2]
  (repeat (first|refine Xa rfl ?_|refine Ye rfl ?_|refine Qf rfl ?_|refine Yh rfl ?_|refine Za rfl ?_|refine Qa rfl rfl ?_)); refine Yd ?_; simp at h2; simp[YW,h2]
 rw[h2];repeat first|refine Ya ?_|refine Yb ?_|refine Za rfl ?_|refine Qa rfl rfl ?_
 rcases YBE (!(a.struck==b.struck)) with h3|h3
 ·rw[h3]
  (repeat (first|refine Xa rfl ?_|refine Ye rfl ?_|refine Qf rfl ?_|refine Yh rfl ?_|refine Za rfl ?_|refine Qa rfl rfl ?_)); refine Yd ?_; simp at h3; simp[YW,h3]
 rw[h3];repeat first|refine Ya ?_|refine Yb ?_|refine Za rfl ?_|refine Qa rfl rfl ?_
 rcases YBE (a.result != b.result) with h4|h4
 ·rw[h4]
  (repeat (first|refine Xa rfl ?_|refine Ye rfl ?_|refine Qf rfl ?_|refine Yh rfl ?_|refine Za rfl ?_|refine Qa rfl rfl ?_)); refine Yd ?_; simp at h4; simp[YW,h4]
 rw[h4];repeat first|refine Ya ?_|refine Yb ?_|refine Za rfl ?_|refine Qa rfl rfl ?_
 rcases YBE (a.next != b.next) with h5|h5
 ·rw[h5]
  (repeat (first|refine Xa rfl ?_|refine Ye rfl ?_|refine Qf rfl ?_|refine Yh rfl ?_|refine Za rfl ?_|refine Qa rfl rfl ?_)); refine Yd ?_; simp at h5; simp[YW,h5]
 rw[h5];repeat first|refine Ya ?_|refine Yb ?_|refine Za rfl ?_|refine Qa rfl rfl ?_
 refine Zc (c62 _ _ (by have:=ha.attack; omega)) rfl g20.ok.plain rfl ?_;repeat first|refine Ya ?_|refine Za rfl ?_
 rcases YBE (!decide (a.attack=b.attack)) with h6|h6
 ·rw[h6];refine Yd ?_; simp at h6; simp[YW,h6]
 rw[h6];refine Yc ?_;have w1:IntKind.i64.wrap (0+1)=1:=by decide
 have w2:IntKind.i64.wrap (1+1)=2:=by decide
 refine QP 3 (Qk ?_);refine Za rfl (Yd ?_);repeat first|refine Ya ?_|refine Yb ?_|refine Za rfl ?_|refine Xb rfl ?_|refine Zd rfl rfl ?_|refine Qa rfl rfl ?_
 refine Yn (by kernel_rfl) ?_;repeat first|refine Ya ?_|refine Yb ?_|refine Za rfl ?_|refine Xb rfl ?_|refine Zd rfl rfl ?_|refine Qa rfl rfl ?_
 rcases YBE (a.s0.life != b.s0.life) with h7|h7
 ·rw[h7]
  (repeat (first|refine Xa rfl ?_|refine Ye rfl ?_|refine Qf rfl ?_|refine Yh rfl ?_|refine Za rfl ?_|refine Qa rfl rfl ?_)); refine Yd ?_; simp at h7; simp[YW,Qae,h7]
 rw[h7];repeat first|refine Ya ?_|refine Yb ?_|refine Za rfl ?_|refine Xb rfl ?_|refine Zd rfl rfl ?_|refine Qa rfl rfl ?_
 rcases YBE (a.s0.mana != b.s0.mana) with h8|h8
 ·rw[h8]
  (repeat (first|refine Xa rfl ?_|refine Ye rfl ?_|refine Qf rfl ?_|refine Yh rfl ?_|refine Za rfl ?_|refine Qa rfl rfl ?_)); refine Yd ?_; simp at h8; simp[YW,Qae,h8]
 rw[h8];repeat first|refine Ya ?_|refine Yb ?_|refine Za rfl ?_|refine Xb rfl ?_|refine Zd rfl rfl ?_|refine Qa rfl rfl ?_
 rcases YBE (a.s0.most != b.s0.most) with h9|h9
 ·rw[h9]
  (repeat (first|refine Xa rfl ?_|refine Ye rfl ?_|refine Qf rfl ?_|refine Yh rfl ?_|refine Za rfl ?_|refine Qa rfl rfl ?_)); refine Yd ?_; simp at h9; simp[YW,Qae,h9]
 rw[h9];repeat first|refine Ya ?_|refine Yb ?_|refine Za rfl ?_|refine Xb rfl ?_|refine Zd rfl rfl ?_|refine Qa rfl rfl ?_
 refine Zc (c62 _ _ (by have:=ha.s0.deck; omega)) rfl g20.ok.plain rfl ?_;repeat first|refine Ya ?_|refine Yb ?_|refine Za rfl ?_|refine Xb rfl ?_|refine Zd rfl rfl ?_|refine Qa rfl rfl ?_
 rcases YBE (!decide (a.s0.deck=b.s0.deck)) with h10|h10
 ·rw[h10]
  (repeat (first|refine Xa rfl ?_|refine Ye rfl ?_|refine Qf rfl ?_|refine Yh rfl ?_|refine Za rfl ?_|refine Qa rfl rfl ?_)); refine Yd ?_; simp at h10; simp[YW,Qae,h10]
 rw[h10];repeat first|refine Ya ?_|refine Yb ?_|refine Za rfl ?_|refine Xb rfl ?_|refine Zd rfl rfl ?_|refine Qa rfl rfl ?_
 refine Zc (c62 _ _ (by have:=ha.s0.hand; omega)) rfl g20.ok.plain rfl ?_;repeat first|refine Ya ?_|refine Yb ?_|refine Za rfl ?_|refine Xb rfl ?_|refine Zd rfl rfl ?_|refine Qa rfl rfl ?_
 rcases YBE (!decide (a.s0.hand=b.s0.hand)) with h11|h11
 ·rw[h11]
  (repeat (first|refine Xa rfl ?_|refine Ye rfl ?_|refine Qf rfl ?_|refine Yh rfl ?_|refine Za rfl ?_|refine Qa rfl rfl ?_)); refine Yd ?_; simp at h11; simp[YW,Qae,h11]
 rw[h11];repeat first|refine Ya ?_|refine Yb ?_|refine Za rfl ?_|refine Xb rfl ?_|refine Zd rfl rfl ?_|refine Qa rfl rfl ?_
 refine Zc (c62 _ _ (by have:=ha.s0.grave; omega)) rfl g20.ok.plain rfl ?_;repeat first|refine Ya ?_|refine Yb ?_|refine Za rfl ?_|refine Xb rfl ?_|refine Zd rfl rfl ?_|refine Qa rfl rfl ?_
 rcases YBE (!decide (a.s0.grave=b.s0.grave)) with h12|h12
 ·rw[h12]
  (repeat (first|refine Xa rfl ?_|refine Ye rfl ?_|refine Qf rfl ?_|refine Yh rfl ?_|refine Za rfl ?_|refine Qa rfl rfl ?_)); refine Yd ?_; simp at h12; simp[YW,Qae,h12]
 rw[h12];repeat first|refine Ya ?_|refine Yb ?_|refine Za rfl ?_|refine Xb rfl ?_|refine Zd rfl rfl ?_|refine Qa rfl rfl ?_
 refine Zc (c62 _ _ (by have:=ha.s0.told; omega)) rfl g20.ok.plain rfl ?_;repeat first|refine Ya ?_|refine Yb ?_|refine Za rfl ?_|refine Xb rfl ?_|refine Zd rfl rfl ?_|refine Qa rfl rfl ?_
 rcases YBE (!decide (a.s0.told=b.s0.told)) with h13|h13
 ·rw[h13]
  (repeat (first|refine Xa rfl ?_|refine Ye rfl ?_|refine Qf rfl ?_|refine Yh rfl ?_|refine Za rfl ?_|refine Qa rfl rfl ?_)); refine Yd ?_; simp at h13; simp[YW,Qae,h13]
 rw[h13];repeat first|refine Ya ?_|refine Yb ?_|refine Za rfl ?_|refine Xb rfl ?_|refine Zd rfl rfl ?_|refine Qa rfl rfl ?_
 refine Zc (c63 _ _ (by have:=ha.s0.units; omega)) rfl g21.ok.plain rfl ?_;repeat first|refine Ya ?_|refine Yb ?_|refine Za rfl ?_|refine Xb rfl ?_|refine Zd rfl rfl ?_|refine Qa rfl rfl ?_
 rcases YBE (!decide (a.s0.units=b.s0.units)) with h14|h14
 ·rw[h14]
  (repeat (first|refine Xa rfl ?_|refine Ye rfl ?_|refine Qf rfl ?_|refine Yh rfl ?_|refine Za rfl ?_|refine Qa rfl rfl ?_)); refine Yd ?_; simp at h14; simp[YW,Qae,h14]
 rw[h14];repeat first|refine Ya ?_|refine Yb ?_|refine Za rfl ?_|refine Xb rfl ?_|refine Zd rfl rfl ?_|refine Qa rfl rfl ?_
 refine Yc (Za rfl ?_);rw[w1];refine Qk ?_;refine Za rfl (Yd ?_);repeat first|refine Ya ?_|refine Yb ?_|refine Za rfl ?_|refine Xb rfl ?_|refine Zd rfl rfl ?_|refine Qa rfl rfl ?_
 refine Yn (by kernel_rfl) ?_;repeat first|refine Ya ?_|refine Yb ?_|refine Za rfl ?_|refine Xb rfl ?_|refine Zd rfl rfl ?_|refine Qa rfl rfl ?_
 rcases YBE (a.s1.life != b.s1.life) with h15|h15
 ·rw[h15]
  (repeat (first|refine Xa rfl ?_|refine Ye rfl ?_|refine Qf rfl ?_|refine Yh rfl ?_|refine Za rfl ?_|refine Qa rfl rfl ?_)); refine Yd ?_; simp at h15; simp[YW,Qae,h15]
 rw[h15];repeat first|refine Ya ?_|refine Yb ?_|refine Za rfl ?_|refine Xb rfl ?_|refine Zd rfl rfl ?_|refine Qa rfl rfl ?_
 rcases YBE (a.s1.mana != b.s1.mana) with h16|h16
 ·rw[h16]
  (repeat (first|refine Xa rfl ?_|refine Ye rfl ?_|refine Qf rfl ?_|refine Yh rfl ?_|refine Za rfl ?_|refine Qa rfl rfl ?_)); refine Yd ?_; simp at h16; simp[YW,Qae,h16]
 rw[h16];repeat first|refine Ya ?_|refine Yb ?_|refine Za rfl ?_|refine Xb rfl ?_|refine Zd rfl rfl ?_|refine Qa rfl rfl ?_
 rcases YBE (a.s1.most != b.s1.most) with h17|h17
 ·rw[h17]
  (repeat (first|refine Xa rfl ?_|refine Ye rfl ?_|refine Qf rfl ?_|refine Yh rfl ?_|refine Za rfl ?_|refine Qa rfl rfl ?_)); refine Yd ?_; simp at h17; simp[YW,Qae,h17]
 rw[h17];repeat first|refine Ya ?_|refine Yb ?_|refine Za rfl ?_|refine Xb rfl ?_|refine Zd rfl rfl ?_|refine Qa rfl rfl ?_
 refine Zc (c62 _ _ (by have:=ha.s1.deck; omega)) rfl g20.ok.plain rfl ?_;repeat first|refine Ya ?_|refine Yb ?_|refine Za rfl ?_|refine Xb rfl ?_|refine Zd rfl rfl ?_|refine Qa rfl rfl ?_
 rcases YBE (!decide (a.s1.deck=b.s1.deck)) with h18|h18
 ·rw[h18]
  (repeat (first|refine Xa rfl ?_|refine Ye rfl ?_|refine Qf rfl ?_|refine Yh rfl ?_|refine Za rfl ?_|refine Qa rfl rfl ?_)); refine Yd ?_; simp at h18; simp[YW,Qae,h18]
 rw[h18];repeat first|refine Ya ?_|refine Yb ?_|refine Za rfl ?_|refine Xb rfl ?_|refine Zd rfl rfl ?_|refine Qa rfl rfl ?_
 refine Zc (c62 _ _ (by have:=ha.s1.hand; omega)) rfl g20.ok.plain rfl ?_;repeat first|refine Ya ?_|refine Yb ?_|refine Za rfl ?_|refine Xb rfl ?_|refine Zd rfl rfl ?_|refine Qa rfl rfl ?_
 rcases YBE (!decide (a.s1.hand=b.s1.hand)) with h19|h19
 ·rw[h19]
  (repeat (first|refine Xa rfl ?_|refine Ye rfl ?_|refine Qf rfl ?_|refine Yh rfl ?_|refine Za rfl ?_|refine Qa rfl rfl ?_)); refine Yd ?_; simp at h19; simp[YW,Qae,h19]
 rw[h19];repeat first|refine Ya ?_|refine Yb ?_|refine Za rfl ?_|refine Xb rfl ?_|refine Zd rfl rfl ?_|refine Qa rfl rfl ?_
 refine Zc (c62 _ _ (by have:=ha.s1.grave; omega)) rfl g20.ok.plain rfl ?_;repeat first|refine Ya ?_|refine Yb ?_|refine Za rfl ?_|refine Xb rfl ?_|refine Zd rfl rfl ?_|refine Qa rfl rfl ?_
 rcases YBE (!decide (a.s1.grave=b.s1.grave)) with h20|h20
 ·rw[h20]
  (repeat (first|refine Xa rfl ?_|refine Ye rfl ?_|refine Qf rfl ?_|refine Yh rfl ?_|refine Za rfl ?_|refine Qa rfl rfl ?_)); refine Yd ?_; simp at h20; simp[YW,Qae,h20]
 rw[h20];repeat first|refine Ya ?_|refine Yb ?_|refine Za rfl ?_|refine Xb rfl ?_|refine Zd rfl rfl ?_|refine Qa rfl rfl ?_
 refine Zc (c62 _ _ (by have:=ha.s1.told; omega)) rfl g20.ok.plain rfl ?_;repeat first|refine Ya ?_|refine Yb ?_|refine Za rfl ?_|refine Xb rfl ?_|refine Zd rfl rfl ?_|refine Qa rfl rfl ?_
 rcases YBE (!decide (a.s1.told=b.s1.told)) with h21|h21
 ·rw[h21]
  (repeat (first|refine Xa rfl ?_|refine Ye rfl ?_|refine Qf rfl ?_|refine Yh rfl ?_|refine Za rfl ?_|refine Qa rfl rfl ?_)); refine Yd ?_; simp at h21; simp[YW,Qae,h21]
 rw[h21];repeat first|refine Ya ?_|refine Yb ?_|refine Za rfl ?_|refine Xb rfl ?_|refine Zd rfl rfl ?_|refine Qa rfl rfl ?_
 refine Zc (c63 _ _ (by have:=ha.s1.units; omega)) rfl g21.ok.plain rfl ?_;repeat first|refine Ya ?_|refine Yb ?_|refine Za rfl ?_|refine Xb rfl ?_|refine Zd rfl rfl ?_|refine Qa rfl rfl ?_
 rcases YBE (!decide (a.s1.units=b.s1.units)) with h22|h22
 ·rw[h22]
  (repeat (first|refine Xa rfl ?_|refine Ye rfl ?_|refine Qf rfl ?_|refine Yh rfl ?_|refine Za rfl ?_|refine Qa rfl rfl ?_)); refine Yd ?_; simp at h22; simp[YW,Qae,h22]
 rw[h22];repeat first|refine Ya ?_|refine Yb ?_|refine Za rfl ?_|refine Xb rfl ?_|refine Zd rfl rfl ?_|refine Qa rfl rfl ?_
 refine Yc (Za rfl ?_);rw[w2];refine Qk ?_;refine Za rfl (Yc ?_);simp at h0 h1 h2 h3 h4 h5 h6 h7 h8 h9 h10 h11 h12 h13 h14 h15 h16 h17 h18 h19 h20 h21 h22;have e:a=b:=YW.2 ⟨h0,h1,h2,h3,h4,h5,h6,Qae.2 ⟨h7,h8,h9,h10,h11,h12,h13,h14⟩,Qae.2 ⟨h15,h16,h17,h18,h19,h20,h21,h22⟩⟩;simp[e]
end Go.Ah.Tz
end
section
namespace Go.Ah.Tz
open Go.Proofs.Tryz (prog)
theorem Qs(m:Nat→Option Nat)(l:List Int):(ABlk.rows 1 (l.map cel)).mapV (AVal.ren m)=.rows 1 (l.map cel):=by
 simp only[ABlk.mapV,XM (Qdj m)]
theorem Ybu(m:Nat→Option Nat)(l:List Th):(ABlk.rows 4 (l.map thC)).mapV (AVal.ren m)=.rows 4 (l.map thC):=by
 simp only[ABlk.mapV,XM (Ydv m)]
attribute [local irreducible] Ans.rd Ans.pu Ans.wr Ans.dr Ans.gr Ans.gw Ans.gl Ans.gd Ans.opt joinK W
@[reducible] def sdO(s:Sd)(b:Nat):List AVal:=[iv s.life,iv s.mana,iv s.most,.sl b 0 s.deck.length false,.sl (b+1) 0 s.hand.length false,.sl (b+2) 0 s.grave.length false,.sl (b+3) 0 s.units.length false,.sl (b+4) 0 s.told.length false]
@[reducible] def sdB(s:Sd):List ABlk:=[.rows 1 (s.deck.map cel),.rows 1 (s.hand.map cel),.rows 1 (s.grave.map cel),.rows 4 (s.units.map thC),.rows 1 (s.told.map cel)]
@[reducible] def stO(s:St)(b:Nat):List AVal:=[iv s.turn,iv s.mover,iv8 s.phase,.bool s.struck,iv8 s.result,.sl b 0 s.attack.length false,iv s.next]++sdO s.s0 (b+1)++sdO s.s1 (b+6)
@[reducible] def stB(s:St):List ABlk:=.rows 1 (s.attack.map cel)::sdB s.s0++sdB s.s1
end Go.Ah.Tz
end
section
namespace Go.Ah.Tz
open Go.Proofs.Tryz (prog)
attribute [local irreducible] Ans.rd Ans.pu Ans.wr Ans.dr Ans.gr Ans.gw Ans.gl Ans.gd Ans.opt joinK W
def fnd(l:List Th)(id:Int):Option Nat:=l.findIdx? (λu=>decide (u.id=id))
def unitR(s:St)(id:Int):Int×Int×Bool:=match fnd s.s0.units id with
 |some k=>(0,k,true)
 |none=>match fnd s.s1.units id with
  |some k=>(1,k,true)
  |none=>(0,0,false)
def unitV(s:St)(id:Int):AVal:=.tup [iv (unitR s id).1,iv (unitR s id).2.1,.bool (unitR s id).2.2]
end Go.Ah.Tz
end
section
namespace Go.Ah.Tz
abbrev Tx:=List UInt8
inductive Nm where
 |mk (op n who:Int) (kids:List Nm)
 deriving Inhabited
inductive Cn where
 |mk (op who:Int) (name:Tx) (nums:List Nm) (kids:List Cn)
 deriving Inhabited
inductive Ef where
 |mk (op who:Int) (n:Nm) (name:Tx) (c:Cn) (thn els:List Ef)
 deriving Inhabited
def Nm.op:Nm→Int | .mk a _ _ _=>a
def Nm.n:Nm→Int | .mk _ a _ _=>a
def Nm.who:Nm→Int | .mk _ _ a _=>a
def Nm.kids:Nm→List Nm | .mk _ _ _ a=>a
def Cn.op:Cn→Int | .mk a _ _ _ _=>a
def Cn.who:Cn→Int | .mk _ a _ _ _=>a
def Cn.name:Cn→Tx | .mk _ _ a _ _=>a
def Cn.nums:Cn→List Nm | .mk _ _ _ a _=>a
def Cn.kids:Cn→List Cn | .mk _ _ _ _ a=>a
def Ef.op:Ef→Int | .mk a _ _ _ _ _ _=>a
def Ef.who:Ef→Int | .mk _ a _ _ _ _ _=>a
def Ef.n:Ef→Nm | .mk _ _ a _ _ _ _=>a
def Ef.name:Ef→Tx | .mk _ _ _ a _ _ _=>a
def Ef.c:Ef→Cn | .mk _ _ _ _ a _ _=>a
def Ef.thn:Ef→List Ef | .mk _ _ _ _ _ a _=>a
def Ef.els:Ef→List Ef | .mk _ _ _ _ _ _ a=>a
mutual
def nmC:Nm→List AVal
 |.mk op n who kids=>[iv8 op,iv n,iv8 who,.rsl false false 4 (nmsC kids)]
def nmsC:List Nm→List (List AVal)
 |[]=>[]
 |x::l=>nmC x::nmsC l
end
theorem QcM:∀l,nmsC l=l.map nmC
 |[]=>rfl
 |x::l=>by simp[nmsC,QcM l]
theorem YG(x:Nm):nmC x=[iv8 x.op,iv x.n,iv8 x.who,.rsl false false 4 (x.kids.map nmC)]:=by
 cases x; simp[nmC,QcM,Nm.op,Nm.n,Nm.who,Nm.kids]
mutual
def cnC:Cn→List AVal
 |.mk op who name nums kids=>[iv8 op,iv8 who,.str name,.rsl false false 4 (nums.map nmC),.rsl false false 5 (cnsC kids)]
def cnsC:List Cn→List (List AVal)
 |[]=>[]
 |x::l=>cnC x::cnsC l
end
theorem Ycw:∀l,cnsC l=l.map cnC
 |[]=>rfl
 |x::l=>by simp[cnsC,Ycw l]
theorem YS(x:Cn):cnC x=[iv8 x.op,iv8 x.who,.str x.name,.rsl false false 4 (x.nums.map nmC),.rsl false false 5 (x.kids.map cnC)]:=by
 cases x; simp[cnC,Ycw,Cn.op,Cn.who,Cn.name,Cn.nums,Cn.kids]
mutual
def efC:Ef→List AVal
 |.mk op who n name c thn els=>[iv8 op,iv8 who,iv8 n.op,iv n.n,iv8 n.who,.rsl false false 4 (n.kids.map nmC),.str name,iv8 c.op,iv8 c.who,.str c.name,.rsl false false 4 (c.nums.map nmC),.rsl false false 5 (c.kids.map cnC),.rsl false false 14 (efsC thn),.rsl false false 14 (efsC els)]
def efsC:List Ef→List (List AVal)
 |[]=>[]
 |x::l=>efC x::efsC l
end
theorem XcC:∀l,efsC l=l.map efC
 |[]=>rfl
 |x::l=>by simp[efsC,XcC l]
theorem Qv(x:Ef):efC x=[iv8 x.op,iv8 x.who,iv8 x.n.op,iv x.n.n,iv8 x.n.who,.rsl false false 4 (x.n.kids.map nmC),.str x.name,iv8 x.c.op,iv8 x.c.who,.str x.c.name,.rsl false false 4 (x.c.nums.map nmC),.rsl false false 5 (x.c.kids.map cnC),.rsl false false 14 (x.thn.map efC),.rsl false false 14 (x.els.map efC)]:=by
 cases x; simp[efC,XcC,Ef.op,Ef.who,Ef.n,Ef.name,Ef.c,Ef.thn,Ef.els]
structure Cd where
 name:Tx
 unit:Bool
 cost:Int
 power:Int
 health:Int
 shield:Int
 aurap:Int
 aurah:Int
 played:List Ef
 dead:List Ef
 dawn:List Ef
 pl:Int
 deriving Inhabited
@[reducible] def efV(l:List Ef):AVal:=.rsl false false 14 (l.map efC)
def cdC(c:Cd):List AVal:=[.str c.name,.bool c.unit,iv c.cost,iv c.power,iv c.health,iv c.shield,iv c.aurap,iv c.aurah,efV c.played,efV c.dead,efV c.dawn,iv c.pl]
def txC(t:Tx):List AVal:=[.str t]
@[reducible] def txV(l:List Tx):AVal:=.rsl false false 1 (l.map txC)
structure Fo where
 name:Tx
 least:Int
 most:Int
 copies:Int
 banned:List Tx
 single:List Tx
 pl:Int
 deriving Inhabited
def foC(f:Fo):List AVal:=[.str f.name,iv f.least,iv f.most,iv f.copies,txV f.banned,txV f.single,iv f.pl]
structure Bk where
 cards:List Cd
 formats:List Fo
 deriving Inhabited
@[reducible] def cdV(l:List Cd):AVal:=.rsl false false 12 (l.map cdC)
@[reducible] def foV(l:List Fo):AVal:=.rsl false false 7 (l.map foC)
@[reducible] def bkV(b:Bk):AVal:=.agg [cdV b.cards,foV b.formats]
end Go.Ah.Tz
end
section
namespace Go.Ah.Tz
open Go.Proofs.Tryz (prog)
attribute [local irreducible] Ans.rd Ans.pu Ans.wr Ans.dr Ans.gr Ans.gw Ans.gl Ans.gd Ans.opt joinK W
def wIn(n:Int):Bool:=decide (-1000000≤n)&&decide (n≤1000000)
theorem c57(n:Int):PC 64 [iv n] (.bool (wIn n)):=by
 refine Qb hP g64.ok rfl rfl ?_;rw[H1.e]; unfold g64; dsimp only;refine Za rfl ?_;rcases YBE (decide (n ≥ -1000000)) with h|h
 ·rw[h];repeat first|refine Za rfl ?_|refine Qa rfl rfl ?_|refine Ya ?_|refine Yb ?_
  have h':-1000000≤n:=by simpa using h
  simp[wIn,h']
 ·rw[h];repeat first|refine Xa rfl ?_|refine Ye rfl ?_|refine Qf rfl ?_|refine Yh rfl ?_|refine Za rfl ?_|refine Qa rfl rfl ?_
  have h':¬ -1000000≤n:=by simpa using h
  simp[wIn,h']
def Yp(n:Nat)(l:List Int)(most:Int):Bool:=decide ((l.length:Int)≤most)&&l.all λc=>decide (0≤c)&&decide (c<n)
end Go.Ah.Tz
end
section
namespace Go.Ah.Tz
open Go.Proofs.Tryz (prog)
theorem ld{σ:List ABlk}{b j n:Nat}{agg:Bool}{row:List AVal}{v:AVal}(hb:hget σ b=.box row)(hv:partA agg j n row=some v):Zk agg n [.bptr b j] σ=.ok v [b] []:=by
 rw[Yc5,hb]; simp only[hv]
theorem stv{σ:List ABlk}{b j n:Nat}{x:AVal}{cs row row':List AVal}(hb:hget σ b=.box row)(hc:cellsOf x=some cs)(hn:Nat.beq cs.length n=true)(hs:splice j cs row=some row'):Yo n [.bptr b j,x] σ=.ok .junk [] [(b,.box row')]:=by
 rw[YcC,hb]; simp only[hc,hn,cond_true,hs]
theorem XG{P:Program}{GL:Globs}{σ:List ABlk}{z:List AVal}{n:Nat}{x:AVal}{row row':List AVal}{K:AVal→AVal→List ABlk→Prop}(hc:cellsOf x=some row)(hn:Nat.beq row.length n=true)(hs:splice 0 row z=some row')
 (hK:K (.bptr σ.length 0) .junk (σ++[.box row'])):(W P GL).wr (Zx z [] σ) σ (λt σ'=>(W P GL).wr (Yo n [t,x] σ') σ' (K t)):=by
 refine Qa (Qdl σ z) (Yk _ _) ?_;refine Qa (stv (Zf _ _) hc hn hs) (Qi _ (by simp)) ?_;have:(σ++[ABlk.box z]).set σ.length (.box row')=σ++[.box row']:=by
  rw[List.set_append_right _ _ (Nat.le_refl _)]; simp
 rw[this]; exact hK
theorem Grows.len{n k:Nat}{rows:List (List AVal)}{v:AVal}{σ:List ABlk}(h:Grows n rows k v σ)(σ':List ABlk):Qp [v] σ'=.ok (.int .i64 k) [] []:=by
 rcases h with ⟨rfl,rfl,_⟩|⟨_,b,rfl,_,_⟩<;>rfl
theorem Grows.at{n k:Nat}{rows:List (List AVal)}{v:AVal}{σ:List ABlk}(h:Grows n rows k v σ)(q:IntKind)(j:Nat)(hj:j<k) :
  ∃b,Zm n [v,.int q (j:Int)] σ=.ok (.ptr b j 0) [b] []∧∃hj:j<rows.length,∀agg m w,partA agg 0 m rows[j]=some w→Zk agg m [.ptr b j 0] σ=.ok w [b] []:=by
 rcases h with ⟨rfl,rfl,_⟩|⟨_,b,rfl,hb,hl⟩
 ·omega
 ·refine⟨b,?_,by omega,λagg m w hw=>?_⟩
  ·have:=XcB σ b 0 k false n rows q j hj hb
   rwa [Nat.zero_add] at this
  ·show (match hget σ b with
   |.rows _ rs=>match nth rs j with
    |some row=>match partA agg 0 m row with
     |some v=>SRes.ok v [b] []
     |none=>.stop
    |none=>.stop
   | _=>.stop)=_
   rw[hb];simp only[Zae,List.getElem?_eq_getElem (show j<rows.length by omega),hw]
theorem Xbz{α:Type}(σ:List ABlk)(f:α→List AVal)(e n:Bool)(s:Nat)(l:List α)(k:IntKind)(c:Int)(h0:0≤c)(h:c.toNat<l.length):Zm s [.rsl e n s (l.map f),.int k c] σ=.ok (.rptr (f l[c.toNat]) 0) [] []:=by
 obtain⟨m,rfl⟩:=Int.eq_ofNat_of_zero_le h0;exact Xw σ f e n s l k m (by simpa using h)
def QC(b:Bk)(next:Int)(u:Th):Bool:=decide (0≤u.card)&&(decide (u.card<b.cards.length)&&(((b.cards[u.card.toNat]?).map Cd.unit).getD false&&(decide (0≤u.harm)&&(decide (u.harm≤1000000)&&(decide (1≤u.id)&&decide (u.id<next))))))
def YD(b:Bk)(next:Int):List Int→List Th→Bool
 |_,[]=>true
 |ids,u::l=>QC b next u&&(!(ids.contains u.id)&&YD b next (ids++[u.id]) l)
def YE(n:Nat)(x:Sd):Bool:=wIn x.life&&(decide (0≤x.mana)&&(wIn x.mana&&(decide (0≤x.most)&&(decide (x.most≤10)&&(Yp n x.deck 60&&(Yp n x.hand 10&&(Yp n x.grave 1000000&&(Yp n x.told 1000000&&decide (x.units.length≤7)))))))))
def YN(b:Bk)(s:St):Bool:=YE b.cards.length s.s0&&(YD b s.next [] s.s0.units&&(YE b.cards.length s.s1&&YD b s.next (s.s0.units.map Th.id) s.s1.units))
def attOk(s:St):List Int→List Int→Bool
 |_,[]=>true
 |prev,a::l=>((unitR s a).2.2&&decide ((unitR s a).1=s.mover))&&(!(prev.contains a)&&attOk s (prev++[a]) l)
def mayR(e:Int)(b:Bk)(s:St)(bare:Bool):Bool:=
 decide (e=0) && (decide (1≤s.turn) && (decide (s.turn≤4096) && (decide (0≤s.mover) && (decide (s.mover≤1) && (decide (0≤s.phase) && (decide (s.phase≤2) && (decide (0≤s.result) && (decide (s.result≤3) &&
 (((s.result == 0) == (s.phase != 2)) && (decide (1≤s.next) && (decide (s.next≤1000000) && (YN b s &&
 (if s.phase≠1 then decide (s.attack.length=0) else !(decide (s.attack.length=0) && !bare) && (s.struck && (decide (s.attack.length≤7) && attOk s [] s.attack)))))))))))))))
abbrev big:Nat:=1152921504606846975
def i8B(n:Int):Bool:=decide (-128≤n)&&decide (n≤127)
def i64B(n:Int):Bool:=decide (-9223372036854775808≤n)&&decide (n≤9223372036854775807)
theorem YdF{n:Int}(h:i8B n=true):-128≤n∧n≤127:=by simpa[i8B] using h
mutual
def nmFit:Nm→Bool
 |.mk op n _ kids=>decide (kids.length≤big)&&(Xaz kids&&(i8B op&&i64B n))
def Xaz:List Nm→Bool
 |[]=>true
 |x::l=>nmFit x&&Xaz l
end
theorem QaF:∀ {l:List Nm},Xaz l=true→∀x∈l,nmFit x=true
 |[],_,_,h=>by simp at h
 |y::l,h,x,hx=>by
  simp only[Xaz,Bool.and_eq_true] at h;rcases List.mem_cons.1 hx with rfl|hx
  ·exact h.1
  ·exact QaF h.2 x hx
theorem Qa1{x:Nm}(h:nmFit x=true):x.kids.length≤big:=by cases x; simp[nmFit] at h; exact h.1
theorem Q7{x k:Nm}(h:nmFit x=true)(hk:k∈x.kids):nmFit k=true:=by cases x; simp[nmFit] at h; exact QaF h.2.1 k hk
theorem Za2{x k:Nm}(hk:k∈x.kids):SizeOf.sizeOf k<SizeOf.sizeOf x:=by
 cases x with
 |mk a b c kids=>
  have:=List.sizeOf_lt_of_mem (show k∈kids from hk);simp; omega
mutual
def cnFit:Cn→Bool
 |.mk op _ _ nums kids=>(decide (nums.length≤big)&&Xaz nums)&&(decide (kids.length≤big)&&(XaU kids&&i8B op))
def XaU:List Cn→Bool
 |[]=>true
 |x::l=>cnFit x&&XaU l
end
theorem Ybc:∀ {l:List Cn},XaU l=true→∀x∈l,cnFit x=true
 |[],_,_,h=>by simp at h
 |y::l,h,x,hx=>by
  simp only[XaU,Bool.and_eq_true] at h;rcases List.mem_cons.1 hx with rfl|hx
  ·exact h.1
  ·exact Ybc h.2 x hx
theorem Zal{x:Cn}(h:cnFit x=true):x.nums.length≤big:=by cases x; simp[cnFit] at h; exact h.1.1
theorem Qak{x:Cn}(h:cnFit x=true):x.kids.length≤big:=by cases x; simp[cnFit] at h; exact h.2.1
theorem Qaf{x:Cn}{k:Nm}(h:cnFit x=true)(hk:k∈x.nums):nmFit k=true:=by cases x; simp[cnFit] at h; exact QaF h.1.2 k hk
theorem Xaf{x k:Cn}(h:cnFit x=true)(hk:k∈x.kids):cnFit k=true:=by cases x; simp[cnFit] at h; exact Ybc h.2.2.1 k hk
theorem Xbn{x k:Cn}(hk:k∈x.kids):SizeOf.sizeOf k<SizeOf.sizeOf x:=by
 cases x with
 |mk a b c nums kids=>
  have:=List.sizeOf_lt_of_mem (show k∈kids from hk);simp; omega
mutual
def efFit:Ef→Bool
 |.mk op _ n _ c thn els=>nmFit n&&(cnFit c&&((decide (thn.length≤big)&&QU thn)&&((decide (els.length≤big)&&QU els)&&i8B op)))
def QU:List Ef→Bool
 |[]=>true
 |x::l=>efFit x&&QU l
end
theorem QaD:∀ {l:List Ef},QU l=true→∀x∈l,efFit x=true
 |[],_,_,h=>by simp at h
 |y::l,h,x,hx=>by
  simp only[QU,Bool.and_eq_true] at h;rcases List.mem_cons.1 hx with rfl|hx
  ·exact h.1
  ·exact QaD h.2 x hx
def lsFit(l:List Ef):Bool:=decide (l.length≤big)&&QU l
theorem YaD{x:Ef}(h:efFit x=true):nmFit x.n=true:=by cases x; simp[efFit] at h; exact h.1
theorem Xaq{x:Ef}(h:efFit x=true):cnFit x.c=true:=by cases x; simp[efFit] at h; exact h.2.1
theorem Y0{x:Ef}(h:efFit x=true):lsFit x.thn=true:=by cases x; simp[efFit] at h; simp[lsFit,Ef.thn,h]
theorem Z0{x:Ef}(h:efFit x=true):lsFit x.els=true:=by cases x; simp[efFit] at h; simp[lsFit,Ef.els,h]
theorem Xc5{x:Ef}(h:efFit x=true):-128≤x.op∧x.op≤127:=by cases x; simp[efFit] at h; exact YdF h.2.2.2.2
theorem YM{l:List Ef}(h:lsFit l=true):l.length≤big:=by simp[lsFit] at h; exact h.1
theorem Z1{l:List Ef}{x:Ef}(h:lsFit l=true)(hx:x∈l):efFit x=true:=by simp[lsFit] at h; exact QaD h.2 x hx
theorem wrapI{n:Int}(h1:-9223372036854775808≤n)(h2:n≤9223372036854775807):IntKind.i64.wrap n=n:=IntWalk.i64_in _ ⟨h1,h2⟩
theorem nmRo(x:Nm):roL [.agg (nmC x)]=true:=by rw[YG]; rfl
theorem nmLd(x:Nm):partA true 0 4 (nmC x)=some (.agg (nmC x)):=by rw[YG]; rfl
theorem cnRo(x:Cn):roL [.agg (cnC x)]=true:=by rw[YS]; rfl
theorem cnLd(x:Cn):partA true 0 5 (cnC x)=some (.agg (cnC x)):=by rw[YS]; rfl
theorem ldr{σ:List ABlk}{j n:Nat}{agg:Bool}{row:List AVal}{v:AVal}(hv:partA agg j n row=some v):Zk agg n [.rptr row j] σ=.ok v [] []:=by
 rw[Zb1,hv]
mutual
def nmW:Nm→Int
 |.mk _ _ _ kids=>nmWs 1 kids
def nmWs:Int→List Nm→Int
 |n,[]=>n
 |n,x::l=>nmWs (min (n+nmW x) 1073741824) l
end
mutual
def cnW:Cn→Int
 |.mk _ _ _ nums kids=>cnWs (nmWs 1 nums) kids
def cnWs:Int→List Cn→Int
 |n,[]=>n
 |n,x::l=>cnWs (min (n+cnW x) 1073741824) l
end
def cntOp(op:Int):Bool:=decide (op=0)||(decide (op=1)||(decide (op=2)||(decide (op=3)||decide (op=5))))
def sdOp(w:Int):Bool:=decide (w=0)||decide (w=1)
end Go.Ah.Tz
end
section
namespace Go.Ah.Tz
open Go.Proofs.Tryz (prog)
attribute [local irreducible] Ans.rd Ans.pu Ans.wr Ans.dr Ans.gr Ans.gw Ans.gl Ans.gd Ans.opt joinK W
theorem Za6{f:(List AVal→List ABlk→Prop)→Prop}{k:List AVal→List ABlk→Prop}(h:f k):joinK f k:=by unfold joinK; exact h
theorem bigE:big=1152921504606846975:=rfl
theorem efLd(x:Ef):partA true 0 14 (efC x)=some (.agg (efC x)):=by rw[Qv]; rfl
theorem efLdN(x:Ef):partA true 2 4 (efC x)=some (.agg (nmC x.n)):=by rw[Qv,YG]; rfl
theorem efLdC(x:Ef):partA true 7 5 (efC x)=some (.agg (cnC x.c)):=by rw[Qv,YS]; rfl
theorem efLd0(x:Ef):partA false 0 1 (efC x)=some (iv8 x.op):=by rw[Qv]; rfl
theorem efLd1(x:Ef):partA false 1 1 (efC x)=some (iv8 x.who):=by rw[Qv]; rfl
theorem efLd6(x:Ef):partA false 6 1 (efC x)=some (.str x.name):=by rw[Qv]; rfl
theorem Zq(x:Ef):partA false 12 1 (efC x)=some (efV x.thn):=by rw[Qv]; rfl
theorem Yq(x:Ef):partA false 13 1 (efC x)=some (efV x.els):=by rw[Qv]; rfl
mutual
def efsW:Int→List Ef→Int
 |n,[]=>n
 |n,x::l=>efsW (efW n x) l
def efW:Int→Ef→Int
 |n0,.mk op _ nn _ c thn els=>
  if op=8 then min ((if cntOp op then min (min (n0+1) 1073741824+nmW nn) 1073741824 else min (n0+1) 1073741824)+cnW c+efsW 0 thn+efsW 0 els) 1073741824 else (if cntOp op then min (min (n0+1) 1073741824+nmW nn) 1073741824 else min (n0+1) 1073741824)
end
theorem XaQ(x:Ef):SizeOf.sizeOf x.thn<SizeOf.sizeOf x∧SizeOf.sizeOf x.els<SizeOf.sizeOf x:=by
 cases x; simp[Ef.thn,Ef.els]; omega
end Go.Ah.Tz
end
section
namespace Go.Ah.Tz
open Go.Proofs.Tryz (prog)
def noNum(x:Nm):Bool:=decide (x.op=0)&&(decide (x.n=0)&&(decide (x.who=0)&&decide (x.kids.length=0)))
def noCond(x:Cn):Bool:=decide (x.op=0)&&(decide (x.who=0)&&(x.name==[]&&(decide (x.nums.length=0)&&decide (x.kids.length=0))))
def findC:List Cd→Tx→Bool→Bool
 |[],_,_=>false
 |c::l,t,u=>if c.name==t then c.unit || !u else findC l t u
attribute [local irreducible] Ans.rd Ans.pu Ans.wr Ans.dr Ans.gr Ans.gw Ans.gl Ans.gd Ans.opt joinK W
theorem Xj{f:(List AVal→List ABlk→Prop)→Prop}{k:List AVal→List ABlk→Prop}(h:∀k',k'=k→f k'):joinK f k:=Za6 (h k rfl)
theorem cdLd0(x:Cd):partA false 0 1 (cdC x)=some (.str x.name):=rfl
theorem cdLd1(x:Cd):partA false 1 1 (cdC x)=some (.bool x.unit):=rfl
end Go.Ah.Tz
end
section
namespace Go.Ah.Tz
open Go.Proofs.Tryz (prog)
def nmK(op:Int):Nat:=if 8≤op∧op≤12 then 2 else 0
def nmTop(t:Bool)(op n who:Int)(len:Nat):Bool:=
 (decide (0≤op)&&(decide (op≤12)&&decide (len=nmK op)))
def nmEnd(t:Bool)(op n who:Int):Bool:=
 if op=0 then decide (0≤n)&&(decide (n≤999)&&decide (who=0)) else decide (n=0)&&(if 1≤op∧op≤4 then sdOp who else decide (who=0)&&(decide (op≠7)||t))
mutual
def nmOk (t:Bool):Nm→Bool
 |.mk op n who kids=>nmTop t op n who kids.length&&(nmsOk t kids&&nmEnd t op n who)
def nmsOk (t:Bool):List Nm→Bool
 |[]=>true
 |x::l=>nmOk t x&&nmsOk t l
end
theorem YbT(t:Bool)(x:Nm):nmOk t x=(nmTop t x.op x.n x.who x.kids.length&&(nmsOk t x.kids&&nmEnd t x.op x.n x.who)):=by cases x; rfl
def cnK3(op:Int):Nat:=if 0≤op∧op≤2 then 2 else 0
def cnK4(op:Int):Nat:=if op=4∨op=5 then 2 else if op=3 then 1 else 0
def cnTop(op:Int)(l3 l4:Nat):Bool:=decide (0≤op)&&(decide (op≤6)&&(decide (l3=cnK3 op)&&decide (l4=cnK4 op)))
def cnEnd(cs:List Cd)(op who:Int)(name:Tx):Bool:=if op=6 then sdOp who&&findC cs name false else decide (who=0)&&name==[]
mutual
def cnOk (cs:List Cd) (t:Bool):Cn→Bool
 |.mk op who name nums kids=>cnTop op nums.length kids.length&&(nmsOk t nums&&(cnsOk cs t kids&&cnEnd cs op who name))
def cnsOk (cs:List Cd) (t:Bool):List Cn→Bool
 |[]=>true
 |x::l=>cnOk cs t x&&cnsOk cs t l
end
theorem Zcw(cs:List Cd)(t:Bool)(x:Cn):cnOk cs t x=(cnTop x.op x.nums.length x.kids.length&&(nmsOk t x.nums&&(cnsOk cs t x.kids&&cnEnd cs x.op x.who x.name))):=by cases x; rfl
end Go.Ah.Tz
end
section
namespace Go.Ah.Tz
open Go.Proofs.Tryz (prog)
def efMid(t:Bool)(op who:Int):Bool:=if op=0∨op=1 then sdOp who||(decide (who=2)&&t) else decide (who=0)
def efEnd(t:Bool)(op who:Int):Bool:=
 if op=2∨op=4∨op=6 then sdOp who else efMid t op who
mutual
def efOk (cs:List Cd) (t:Bool):Int→Ef→Bool
 | d,.mk op who n name c thn els=>decide (0≤op) && (decide (op≤8) && (if op=8 then
   decide (who=0)&&(noNum n&&(name==[]&&(cnOk cs t c&&((decide (thn.length≤16)&&(decide (d+1≤8)&&efsOk cs t (d+1) thn))&&(decide (els.length≤16)&&(decide (d+1≤8)&&efsOk cs t (d+1) els))))))
  else noCond c && (decide (thn.length=0) && (decide (els.length=0) && ((if cntOp op then nmOk t n else noNum n) && ((if op=7 then findC cs name true else name == []) && efEnd t op who))))))
def efsOk (cs:List Cd) (t:Bool):Int→List Ef→Bool
 |_,[]=>true
 |d,x::l=>efOk cs t d x&&efsOk cs t d l
end
def lstOk(cs:List Cd)(t:Bool)(d:Int)(l:List Ef):Bool:=decide (l.length≤16)&&(decide (d≤8)&&efsOk cs t d l)
theorem XaD(cs:List Cd)(t:Bool)(d:Int)(x:Ef):efOk cs t d x=(decide (0≤x.op) && (decide (x.op≤8) && (if x.op=8 then
   decide (x.who=0)&&(noNum x.n&&(x.name==[]&&(cnOk cs t x.c&&(lstOk cs t (d+1) x.thn&&lstOk cs t (d+1) x.els))))
  else noCond x.c && (decide (x.thn.length=0) && (decide (x.els.length=0) && ((if cntOp x.op then nmOk t x.n else noNum x.n) && ((if x.op=7 then findC cs x.name true else x.name == []) && efEnd t x.op x.who))))))):=by cases x; rfl
attribute [local irreducible] Ans.rd Ans.pu Ans.wr Ans.dr Ans.gr Ans.gw Ans.gl Ans.gd Ans.opt joinK W
theorem cutF(F:Prop){R G:Prop}(imp:(F→R)→G)(r:F→R):G:=imp r
end Go.Ah.Tz
end
section
namespace Go.Ah.Tz
open Go.Proofs.Tryz (prog)
def isLet(x:Int):Bool:=decide ((97≤x∧x≤122)∨(65≤x∧x≤90)∨(192≤x∧x≤591∧x≠215∧x≠247))
def isDig(x:Int):Bool:=decide (48≤x∧x≤57)
def shl6(x:Int):Int:=IntKind.i64.wrap (x*2 ^ (min 6 IntKind.i64.bits))
def rStep(x:Int)(c:UInt8):Int:=bits .or .i64 (shl6 x) (IntKind.i64.wrap (bits .and .u8 (c.toNat:Int) 63))
def rCont(c:UInt8):Bool:=(bits .and .u8 (c.toNat:Int) 192 != 128)
def rTail(s:Tx)(at_:Nat):Nat→Nat→Int→Option Int
 |0,_,x=>some x
 |m+1,i,x=>match s[at_+i]? with
  |none=>none
  |some c=>if rCont c then none else rTail s at_ m (i+1) (rStep x c)
def rHead(c:Int):Option (Nat×Int×Int):=
 if 192≤c∧c<224 then some (2,bits .and .i64 c 31,128) else if 224≤c∧c<240 then some (3,bits .and .i64 c 15,2048) else if 240≤c∧c<248 then some (4,bits .and .i64 c 7,65536) else if 128≤c then none else some (1,c,0)
def rEnd(n:Nat)(least:Int):Option Int→Int×Nat
 |none=>(0,0)
 |some y=>if y<least∨1114111<y∨(55296≤y∧y≤57343) then (0,0) else (y,n)
def runeR(s:Tx)(at_:Nat):Int×Nat:=match s[at_]? with
 |none=>(0,0)
 |some c=>match rHead c.toNat with
  |none=>(0,0)
  |some (n,x,least)=>rEnd n least (rTail s at_ (n-1) 1 x)
def ZbG(s:Tx)(at_ n:Nat):Prop:=(runeR s at_).2=0∨(isLet (runeR s at_).1=false∧(n=0∨(isDig (runeR s at_).1=false∧(runeR s at_).1≠39)))
instance (s:Tx) (at_ n:Nat):Decidable (ZbG s at_ n):=inferInstanceAs (Decidable (_∨_))
def nameR(s:Tx)(at_ n:Nat):Nat×Nat:=
 if _h:at_<s.length then (if hk:ZbG s at_ n then (at_,n) else nameR s (at_+(runeR s at_).2) (n+1)) else (at_,n)
termination_by s.length-at_
decreasing_by
 have:(runeR s at_).2≠0:=λe=>hk (Or.inl e);omega
def ownIn:List Tx→Tx→Bool
 |[],_=>false
 |k::l,s=>k==s||ownIn l s
def keysR:List Tx:=[[99,97,114,100],
 [117,110,105,116],
 [99,104,97,114,109],
 [102,111,114,109,97,116],
 [112,108,97,121,101,100],
 [100,101,97,100],
 [100,97,119,110],
 [97,117,114,97],
 [115,104,105,101,108,100],
 [104,97,114,109],
 [109,101,110,100],
 [100,114,97,119],
 [103,97,105,110],
 [100,114,111,112],
 [108,111,111,107],
 [115,104,111,119],
 [115,117,109,109,111,110],
 [105,102],
 [101,108,115,101],
 [109,101],
 [102,111,101],
 [116,97,114,103,101,116],
 [108,105,102,101],
 [104,97,110,100],
 [100,101,99,107],
 [117,110,105,116,115],
 [109,97,110,97],
 [99,111,115,116],
 [116,111,112],
 [112,111,119,101,114],
 [109,105,110],
 [109,97,120],
 [110,111,116],
 [97,110,100],
 [111,114],
 [104,111,108,100,115],
 [108,101,97,115,116],
 [109,111,115,116],
 [99,111,112,105,101,115],
 [98,97,110,110,101,100],
 [115,105,110,103,108,101]]
def nameOk(s:Tx):Bool:=decide (1≤(nameR s 0 0).2)&&(decide ((nameR s 0 0).2≤24)&&(decide ((nameR s 0 0).1=s.length)&&(decide (s.length≤40) && !ownIn keysR s)))
attribute [local irreducible] Ans.rd Ans.pu Ans.wr Ans.dr Ans.gr Ans.gw Ans.gl Ans.gd Ans.opt joinK W
theorem XaT{P:Program}{GL:Globs}{c d:Bool}{K:AVal→Prop}{r1:SRes}{f2:AVal→SRes}{σ:List ABlk}{v1:AVal}(h1:r1=.ok v1 [] [])(h2:f2 v1=.ok (.bool d) [] [])(hK:K (.bool (c&&d))) :
  (W P GL).gr (.bool c) true (λk=>(W P GL).rd r1 k) λt1=>(W P GL).gr (.bool c) true (λk=>(W P GL).rd (f2 t1) k) λt2=>(W P GL).rd (Ql [.bool c,t2,.bool false] σ) K:=by
 cases c with
 |true=>exact Ya (Za h1 (Ya (Za h2 (Za rfl hK))))
 |false=>exact Xa rfl (Xa rfl (Za rfl hK))
theorem txLd(x:Tx):partA false 0 1 (txC x)=some (.str x):=rfl
end Go.Ah.Tz
end
section
namespace Go.Ah.Tz
open Go.Proofs.Tryz (prog)
def in999(n:Int):Bool:=decide (0≤n)&&decide (n≤999)
def cdSum(c:Cd):Bool:=if c.unit then decide (1≤c.health) else decide (c.power+c.health+c.shield+c.aurap+c.aurah≤0)&&decide (c.dead.length+c.dawn.length=0)
def cdW(c:Cd):Int:=min (efsW 0 c.played+efsW 0 c.dead+efsW 0 c.dawn) 1073741824
def cdOk(cs:List Cd)(c:Cd):Bool:=
 nameOk c.name&&(in999 c.cost&&(in999 c.power&&(in999 c.health&&(in999 c.shield&&(in999 c.aurap&&(in999 c.aurah&&(cdSum c&&(decide (cdW c≤200)&&(lstOk cs true 1 c.played&&(lstOk cs false 1 c.dead&&lstOk cs false 1 c.dawn))))))))))
def cdFit(c:Cd):Bool:=decide (c.name.length≤big)&&(lsFit c.played&&(lsFit c.dead&&lsFit c.dawn))
def QN(l:List Cd):Bool:=decide (l.length≤big)&&l.all cdFit
def cdsGo(cs:List Cd):List Cd→List Cd→Int×Int
 |_,[]=>(0,0)
 |pre,c::l=>if pre.any λd=>d.name==c.name then (101,c.pl) else if cdOk cs c then cdsGo cs (pre++[c]) l else (130,c.pl)
def QY(cs:List Cd):Int×Int:=if 240<cs.length then (3,0) else cdsGo cs [] cs
attribute [local irreducible] Ans.rd Ans.pu Ans.wr Ans.dr Ans.gr Ans.gw Ans.gl Ans.gd Ans.opt joinK W
set_option maxHeartbeats 1000000
theorem cdLd(x:Cd):partA true 0 12 (cdC x)=some (.agg (cdC x)):=rfl
theorem Yde(x:Cd):partA false 11 1 (cdC x)=some (iv x.pl):=rfl
end Go.Ah.Tz
end
section
namespace Go.Ah.Tz
open Go.Proofs.Tryz (prog)
def lbN(a:Int):Int:=if a<0∨3<a then 3 else a
def joinL(a b:Int):Int:=if lbN a=lbN b∨lbN b=0 then lbN a else if lbN a=0 then lbN b else 3
def XbB(a b:Int):Bool:=decide (joinL a b=joinL b b)
mutual
def nmL:Nm→Int
 |.mk op _ _ kids=>if 8≤op∧op≤12 then nmLs (if op=6 then 3 else 0) kids else if op=6 then 3 else 0
def nmLs:Int→List Nm→Int
 |n,[]=>n
 |n,x::l=>nmLs (joinL n (nmL x)) l
end
theorem ZdI(x:Nm):nmL x=if 8≤x.op∧x.op≤12 then nmLs (if x.op=6 then 3 else 0) x.kids else if x.op=6 then 3 else 0:=by cases x; rfl
mutual
def cnL:Cn→Int
 |.mk op who _ nums kids=>if op=6 then (if who=0 then 1 else if who=1 then 2 else 3) else cnLs (nmLs 0 nums) kids
def cnLs:Int→List Cn→Int
 |n,[]=>n
 |n,x::l=>cnLs (joinL n (cnL x)) l
end
theorem Qdx(x:Cn):cnL x=if x.op=6 then (if x.who=0 then 1 else if x.who=1 then 2 else 3) else cnLs (nmLs 0 x.nums) x.kids:=by cases x; rfl
mutual
def efL (u:Int):Ef→Bool
 |.mk op _ n _ c thn els=>if op=5 then XbB (joinL u (nmL n)) 1 else if op=8 then efsL (joinL u (cnL c)) thn&&efsL (joinL u (cnL c)) els else if op=0∨op=1∨op=2∨op=3 then decide (joinL u (nmL n)=0) else decide (joinL u u=0)
def efsL (u:Int):List Ef→Bool
 |[]=>true
 |x::l=>efL u x&&efsL u l
end
theorem Qb1(u:Int)(x:Ef):efL u x=if x.op=5 then XbB (joinL u (nmL x.n)) 1 else if x.op=8 then efsL (joinL u (cnL x.c)) x.thn&&efsL (joinL u (cnL x.c)) x.els else if x.op=0∨x.op=1∨x.op=2∨x.op=3 then decide (joinL u (nmL x.n)=0) else decide (joinL u u=0):=by cases x; rfl
attribute [local irreducible] Ans.rd Ans.pu Ans.wr Ans.dr Ans.gr Ans.gw Ans.gl Ans.gd Ans.opt joinK W
set_option maxHeartbeats 1000000
theorem QT{P:Program}{GL:Globs}{c d:Bool}{K:AVal→Prop}{r1:SRes}{f2:AVal→SRes}{σ:List ABlk}{v1:AVal}(h1:r1=.ok v1 [] [])(h2:f2 v1=.ok (.bool d) [] [])(hK:K (.bool (c||d))) :
  (W P GL).gr (.bool c) false (λk=>(W P GL).rd r1 k) λt1=>(W P GL).gr (.bool c) false (λk=>(W P GL).rd (f2 t1) k) λt2=>(W P GL).rd (Ql [.bool c,.bool true,t2] σ) K:=by
 cases c with
 |false=>exact Ya (Za h1 (Ya (Za h2 (Za rfl hK))))
 |true=>exact Xa rfl (Xa rfl (Za rfl hK))
theorem YaB{P:Program}{GL:Globs}{c d:Bool}{K:AVal→Prop}{r1:SRes}{f2 f3:AVal→SRes}{σ:List ABlk}{v1 v2:AVal}{q1 q2 q3:List Nat}(h1:r1=.ok v1 q1 [])(h2:f2 v1=.ok v2 q2 [])(h3:f3 v2=.ok (.bool d) q3 [])(hK:K (.bool (c&&d))) :
  (W P GL).gr (.bool c) true (λk=>(W P GL).rd r1 k) λt1=>(W P GL).gr (.bool c) true (λk=>(W P GL).rd (f2 t1) k) λt2=>(W P GL).gr (.bool c) true (λk=>(W P GL).rd (f3 t2) k) λt3=>(W P GL).rd (Ql [.bool c,t3,.bool false] σ) K:=by
 cases c with
 |true=>exact Ya (Za h1 (Ya (Za h2 (Ya (Za h3 (Za rfl hK))))))
 |false=>exact Xa rfl (Xa rfl (Xa rfl (Za rfl hK)))
end Go.Ah.Tz
end
section
namespace Go.Ah.Tz
open Go.Proofs.Tryz (prog)
def cdL(c:Cd):Bool:=efsL 0 c.played&&(efsL 0 c.dead&&efsL 0 c.dawn)
def cdsL:List Cd→Int×Int
 |[]=>(0,0)
 |c::l=>if cdL c then cdsL l else (140,c.pl)
attribute [local irreducible] Ans.rd Ans.pu Ans.wr Ans.dr Ans.gr Ans.gw Ans.gl Ans.gd Ans.opt joinK W
set_option maxHeartbeats 1000000
theorem YH{σ:List ABlk}{b j n:Nat}{row:List AVal}{v:AVal}(hb:b<σ.length)(hv:partA true j n row=some v):cellV true n (.bptr b j) (σ.set b (.box row))=some v:=by
 have:hget (σ.set b (.box row)) b=.box row:=Qo (by simp[hb]);simp only[cellV,this,hv]
end Go.Ah.Tz
end
section
namespace Go.Ah.Tz
open Go.Proofs.Tryz (prog)
def fndI:Nat→List Cd→Tx→Nat×Bool
 |_,[],_=>(0,false)
 |i,c::l,t=>if c.name==t then (i,true) else fndI (i+1) l t
def nmsGo(cs:List Cd):List Tx→List Tx→Bool
 |_,[]=>true
 |pre,t::l=>((fndI 0 cs t).2&&pre.all λp=>!(p==t))&&nmsGo cs (pre++[t]) l
def fmtOk(b:Bk)(pre:List Fo)(f:Fo):Bool:=
 !(pre.any λg=>g.name==f.name)&&(decide (pre.length<240)&&(nameOk f.name&&(decide (0≤f.least)&&(decide (f.least≤f.most)&&(decide (f.most≤60)&&(decide (0≤f.copies)&&(decide (f.copies≤999)&&(nmsGo b.cards [] f.banned&&nmsGo b.cards [] f.single))))))))
def fmtGo(b:Bk):List Fo→List Fo→Int×Int
 |_,[]=>(0,0)
 |pre,f::l=>if fmtOk b pre f then fmtGo b (pre++[f]) l else (151,f.pl)
def bkR(b:Bk):Int×Int:=if (QY b.cards).1≠0 then QY b.cards else if (cdsL b.cards).1≠0 then cdsL b.cards else fmtGo b [] b.formats
def foFit(f:Fo):Bool:=decide (f.name.length≤big)&&(decide (f.banned.length≤big)&&decide (f.single.length≤big))
def bkFit(b:Bk):Bool:=QN b.cards&&(decide (b.formats.length≤big)&&b.formats.all foFit)
attribute [local irreducible] Ans.rd Ans.pu Ans.wr Ans.dr Ans.gr Ans.gw Ans.gl Ans.gd Ans.opt joinK W
set_option maxHeartbeats 1000000
theorem foLd(x:Fo):partA true 0 7 (foC x)=some (.agg (foC x)):=rfl
end Go.Ah.Tz
end
section
namespace Go.Ah.Tz
open Go.Proofs.Tryz (prog)
structure NmAt (row:List AVal) (j:Nat) (x:Nm):Prop where
 h0:partA false (j+0) 1 row=some (iv8 x.op)
 h1:partA false (j+1) 1 row=some (iv x.n)
 h2:partA false (j+2) 1 row=some (iv8 x.who)
 h3:partA false (j+3) 1 row=some (.rsl false false 4 (x.kids.map nmC))
theorem nmAt(x:Nm):NmAt (nmC x) 0 x:=by rw[YG]; exact⟨rfl,rfl,rfl,rfl⟩
theorem nmAt2(x:Ef):NmAt (efC x) 2 x.n:=by rw[Qv]; exact⟨rfl,rfl,rfl,rfl⟩
attribute [local irreducible] Ans.rd Ans.pu Ans.wr Ans.dr Ans.gr Ans.gw Ans.gl Ans.gd Ans.opt joinK W
set_option maxHeartbeats 1000000
theorem c210(w:Int):PC 90 [iv8 w] (.bool (cntOp w)):=by
 refine Qb hP g90.ok rfl rfl ?_;rw[H1.e]; unfold g90; dsimp only;refine Za (Yf ..) ?_;refine Xj λk1 hk1=>?_;have kk:∀c,c=cntOp w→k1 [.bool c] []:=by
  rintro c hc;rw[hk1];refine Zb (λh=>?_) (λh=>?_)
  ·rw[←hc,h]
  ·rw[←hc,h]
 clear hk1;refine Zb (λa0=>kk _ ?_) (λa0=>?_)
 ·simp at a0; simp[cntOp,a0]
 refine Za (Yf ..) (Zb (λa1=>kk _ ?_) (λa1=>?_))
 ·simp at a1; simp[cntOp,a1]
 refine Za (Yf ..) (Zb (λa2=>kk _ ?_) (λa2=>?_))
 ·simp at a2; simp[cntOp,a2]
 refine Za (Yf ..) (Zb (λa3=>kk _ ?_) (λa3=>?_))
 ·simp at a3; simp[cntOp,a3]
 refine Za (Yf ..) (kk _ ?_);simp at a0 a1 a2 a3;simp[cntOp,a0,a1,a2,a3]
theorem c212(w:Int):PC 92 [iv8 w] (.bool (sdOp w)):=by
 refine Qb hP g92.ok rfl rfl ?_;rw[H1.e]; unfold g92; dsimp only;refine Za (Yf ..) ?_;rcases YBE (decide (w=0)) with h1|h1
 ·rw[h1];repeat first|refine Ya ?_|refine Yb ?_|refine Xa rfl ?_|refine Ye rfl ?_|refine Qf rfl ?_|refine Yh rfl ?_|refine Za rfl ?_
  simp at h1; simp[sdOp,h1]
 rw[h1];repeat first|refine Ya ?_|refine Yb ?_|refine Za rfl ?_
 have h1:w≠0:=by simpa using h1
 exact congrArg AVal.bool (by rw[Bool.eq_iff_iff]; simp[sdOp,h1])
theorem c211'(u:AVal)(t:Bool):∀(k:Nat) (x:Nm) (row:List AVal) (j:Nat),NmAt row j x→SizeOf.sizeOf x≤k→nmFit x=true→PC 91 [.rptr [u,.bool t] 0,.rptr row j] (.bool (nmOk t x))
 |0,x,_,_,_,h,_=>by cases x; simp at h
 |k+1,x,row,j,hx,hk,hf=>by
  refine Qb hP g91.ok rfl rfl ?_;rw[H2.e]; unfold g91; dsimp only;rw[YbT];have hlen:=Qa1 hf;rw[bigE] at hlen;repeat first|refine Za (ldr hx.h0) ?_|refine Za (ldr hx.h1) ?_|refine Za (ldr hx.h2) ?_|refine Za (ldr hx.h3) ?_|refine Za (Yf ..) ?_|refine Za (ldr (row:=[u,.bool t]) rfl) ?_|refine Za rfl ?_
  refine Xj λk11 hk11=>?_;have bad:∀b1 b2 b3:Bool,(b1&&(b2&&b3))=false→AVal.bool false=AVal.bool (b1&&(b2&&b3)):=by
   intro b1 b2 b3 h; rw[h]
  have kk:∀(p o:Bool) (kd:Nat),kd=nmK x.op→(0≤x.op∧x.op≤12)→(p&&o)=nmEnd t x.op x.n x.who→k11 [.bool p,.bool o,iv kd] []:=by
   rintro p o kd rfl hop hpo;rw[hk11]; clear hk11 k11;repeat first|refine Za (ldr hx.h0) ?_|refine Za (ldr hx.h1) ?_|refine Za (ldr hx.h2) ?_|refine Za (ldr hx.h3) ?_|refine Za (Yf ..) ?_|refine Za (ldr (row:=[u,.bool t]) rfl) ?_|refine Za rfl ?_
   cases p with
   |false=>
    repeat first|refine Ya ?_|refine Yb ?_|refine Xa rfl ?_|refine Ye rfl ?_|refine Qf rfl ?_|refine Yh rfl ?_|refine Za (ldr hx.h0) ?_|refine Za (ldr hx.h1) ?_|refine Za (ldr hx.h2) ?_|refine Za (ldr hx.h3) ?_|refine Za (Yf ..) ?_|refine Za (ldr (row:=[u,.bool t]) rfl) ?_|refine Za rfl ?_
    refine Yd (bad _ _ _ ?_);rw[←hpo]; simp
   |true=>
    repeat first|refine Ya ?_|refine Yb ?_|refine Za (ldr hx.h0) ?_|refine Za (ldr hx.h1) ?_|refine Za (ldr hx.h2) ?_|refine Za (ldr hx.h3) ?_|refine Za (Yf ..) ?_|refine Za (ldr (row:=[u,.bool t]) rfl) ?_|refine Za rfl ?_
    cases o with
    |false=>
     repeat first|refine Ya ?_|refine Yb ?_|refine Xa rfl ?_|refine Ye rfl ?_|refine Qf rfl ?_|refine Yh rfl ?_|refine Za (ldr hx.h0) ?_|refine Za (ldr hx.h1) ?_|refine Za (ldr hx.h2) ?_|refine Za (ldr hx.h3) ?_|refine Za (Yf ..) ?_|refine Za (ldr (row:=[u,.bool t]) rfl) ?_|refine Za rfl ?_
     refine Yd (bad _ _ _ ?_);rw[←hpo]; simp
    |true=>
     repeat first|refine Ya ?_|refine Yb ?_|refine Za (ldr hx.h0) ?_|refine Za (ldr hx.h1) ?_|refine Za (ldr hx.h2) ?_|refine Za (ldr hx.h3) ?_|refine Za (Yf ..) ?_|refine Za (ldr (row:=[u,.bool t]) rfl) ?_|refine Za rfl ?_
     refine Zb (λh=>bad _ _ _ ?_) (λh=>?_)
     ·have:nmTop t x.op x.n x.who x.kids.length=false:=by
       rw[Bool.eq_false_iff]; intro hh; simp[nmTop] at hh; simp at h; omega
      rw[this]; rfl
     have ht:nmTop t x.op x.n x.who x.kids.length=true:=by simp at h; simp[nmTop]; omega
     rw[ht,←hpo,Bool.true_and,Bool.and_self,Bool.and_true];repeat first|refine Za (ldr hx.h0) ?_|refine Za (ldr hx.h1) ?_|refine Za (ldr hx.h2) ?_|refine Za (ldr hx.h3) ?_|refine Za (Yf ..) ?_|refine Za (ldr (row:=[u,.bool t]) rfl) ?_|refine Za rfl ?_
     refine Xn (ι:=Nat) (λi vs σ=>vs=[iv i]∧σ=[]∧i≤x.kids.length∧nmsOk t x.kids=nmsOk t (x.kids.drop i)) (λi=>x.kids.length-i) 0 ⟨rfl,rfl,by omega,by simp⟩ ?_;rintro i vs σ again ⟨rfl,rfl,hi,hu⟩ hag;refine Za rfl ?_;refine Zb (λh=>?_) (λh=>?_)
     ·have h:i<x.kids.length:=by simpa using h
      have hdr:x.kids.drop i=x.kids[i]::x.kids.drop (i+1):=by rw[YLD h]
      rw[hdr,nmsOk] at hu;have hm:x.kids[i]∈x.kids:=List.getElem_mem h;refine Za rfl (Za rfl (Za (ldr hx.h3) (Za (Xw _ nmC _ _ _ x.kids _ i h) ?_)));refine Zc (c211' u t k _ _ 0 (nmAt _) (by have:=Za2 hm; omega) (Q7 hf hm)) rfl g91.ok.plain rfl ?_;refine Za rfl ?_;refine Zb (λh4=>?_) (λh4=>?_)
      ·have h4:nmOk t x.kids[i]=false:=by simpa using h4
       rw[hu,h4]; rfl
      ·have h4:nmOk t x.kids[i]=true:=by simpa using h4
       rw[h4,Bool.true_and] at hu;refine Za (Zl ..) ?_;rw[Zg (n:=i) (by omega)];exact hag (i+1) _ _ (by omega) ⟨rfl,rfl,by omega,hu⟩
     have h:i=x.kids.length:=by simp at h; omega
     subst h;rw[List.drop_length,nmsOk] at hu;rw[hu]
  clear hk11;repeat first|refine Za (ldr hx.h0) ?_|refine Za (ldr hx.h1) ?_|refine Za (ldr hx.h2) ?_|refine Za (ldr hx.h3) ?_|refine Za (Yf ..) ?_|refine Za (ldr (row:=[u,.bool t]) rfl) ?_|refine Za rfl ?_
  refine Zb (λa0=>?_) (λa0=>?_)
  ·have a0:x.op=0:=by simpa using a0
   repeat first|refine Za (ldr hx.h0) ?_|refine Za (ldr hx.h1) ?_|refine Za (ldr hx.h2) ?_|refine Za (ldr hx.h3) ?_|refine Za (Yf ..) ?_|refine Za (ldr (row:=[u,.bool t]) rfl) ?_|refine Za rfl ?_
   have e:nmEnd t x.op x.n x.who=((decide (0≤x.n)&&decide (x.n≤999))&&decide (x.who=0)):=by simp[nmEnd,a0,Bool.and_assoc]
   rcases YBE (decide (x.n ≥ 0)) with h|h
   ·rw[h];repeat first|refine Ya ?_|refine Yb ?_|refine Za (ldr hx.h0) ?_|refine Za (ldr hx.h1) ?_|refine Za (ldr hx.h2) ?_|refine Za (ldr hx.h3) ?_|refine Za (Yf ..) ?_|refine Za (ldr (row:=[u,.bool t]) rfl) ?_|refine Za rfl ?_
    refine kk _ _ 0 (by simp[nmK,a0]) (by omega) ?_;simp at h; rw[e]; simp[h]
   ·rw[h];repeat first|refine Ya ?_|refine Yb ?_|refine Xa rfl ?_|refine Ye rfl ?_|refine Qf rfl ?_|refine Yh rfl ?_|refine Za (ldr hx.h0) ?_|refine Za (ldr hx.h1) ?_|refine Za (ldr hx.h2) ?_|refine Za (ldr hx.h3) ?_|refine Za (Yf ..) ?_|refine Za (ldr (row:=[u,.bool t]) rfl) ?_|refine Za rfl ?_
    refine kk _ _ 0 (by simp[nmK,a0]) (by omega) ?_;simp at h; rw[e]; simp; intro h1; omega
  have a0:x.op≠0:=by simpa using a0
  repeat first|refine Za (ldr hx.h0) ?_|refine Za (ldr hx.h1) ?_|refine Za (ldr hx.h2) ?_|refine Za (ldr hx.h3) ?_|refine Za (Yf ..) ?_|refine Za (ldr (row:=[u,.bool t]) rfl) ?_|refine Za rfl ?_
  refine Xj λk25 hk25=>?_;have m1:∀c,c=decide (x.op=1∨x.op=2∨x.op=3∨x.op=4)→k25 [.bool c] []:=by
   rintro c hc;rw[hk25]; clear hk25 k25;refine Zb (λh=>?_) (λh=>?_)
   ·rw[h] at hc;have a1:x.op=1∨x.op=2∨x.op=3∨x.op=4:=by simpa using hc.symm
    repeat first|refine Za (ldr hx.h0) ?_|refine Za (ldr hx.h1) ?_|refine Za (ldr hx.h2) ?_|refine Za (ldr hx.h3) ?_|refine Za (Yf ..) ?_|refine Za (ldr (row:=[u,.bool t]) rfl) ?_|refine Za rfl ?_
    refine Zc (c212 _) rfl g92.ok.plain rfl ?_;refine kk _ _ 0 (by simp[nmK]; omega) (by omega) ?_;rw[nmEnd,if_neg a0,if_pos (by omega)]
   rw[h] at hc;have a1:¬(x.op=1∨x.op=2∨x.op=3∨x.op=4):=by simpa using hc.symm
   have e:nmEnd t x.op x.n x.who=(decide (x.n=0)&&(decide (x.who=0)&&(decide (x.op≠7)||t)))∨¬(0≤x.op∧x.op≤12):=by
    by_cases hr:0≤x.op∧x.op≤12
    ·left; rw[nmEnd,if_neg a0,if_neg (by omega)]
    ·right; exact hr
   repeat first|refine Za (ldr hx.h0) ?_|refine Za (ldr hx.h1) ?_|refine Za (ldr hx.h2) ?_|refine Za (ldr hx.h3) ?_|refine Za (Yf ..) ?_|refine Za (ldr (row:=[u,.bool t]) rfl) ?_|refine Za rfl ?_
   refine Xj λk35 hk35=>?_;have m2:∀c,c=decide (x.op=5∨x.op=6)→k35 [.bool c] []:=by
    rintro c hc;rw[hk35]; clear hk35 k35;refine Zb (λh=>?_) (λh=>?_)
    ·rw[h] at hc;have a2:x.op=5∨x.op=6:=by simpa using hc.symm
     refine kk _ _ 0 (by simp[nmK]; omega) (by omega) ?_;rcases e with e|e
     ·rw[e]; simp[show x.op≠7 by omega]
     ·omega
    rw[h] at hc;have a2:¬(x.op=5∨x.op=6):=by simpa using hc.symm
    repeat first|refine Za (ldr hx.h0) ?_|refine Za (ldr hx.h1) ?_|refine Za (ldr hx.h2) ?_|refine Za (ldr hx.h3) ?_|refine Za (Yf ..) ?_|refine Za (ldr (row:=[u,.bool t]) rfl) ?_|refine Za rfl ?_
    refine Zb (λa3=>?_) (λa3=>?_)
    ·have a3:x.op=7:=by simpa using a3
     rcases e with e|e
     ·rcases YBE (decide (x.who=0)) with h|h
      ·rw[h];repeat first|refine Ya ?_|refine Yb ?_|refine Za (ldr hx.h0) ?_|refine Za (ldr hx.h1) ?_|refine Za (ldr hx.h2) ?_|refine Za (ldr hx.h3) ?_|refine Za (Yf ..) ?_|refine Za (ldr (row:=[u,.bool t]) rfl) ?_|refine Za rfl ?_
       refine kk _ _ 0 (by simp[nmK,a3]) (by omega) ?_;rw[e,h]; simp[a3]
      ·rw[h];repeat first|refine Ya ?_|refine Yb ?_|refine Xa rfl ?_|refine Ye rfl ?_|refine Qf rfl ?_|refine Yh rfl ?_|refine Za (ldr hx.h0) ?_|refine Za (ldr hx.h1) ?_|refine Za (ldr hx.h2) ?_|refine Za (ldr hx.h3) ?_|refine Za (Yf ..) ?_|refine Za (ldr (row:=[u,.bool t]) rfl) ?_|refine Za rfl ?_
       refine kk _ _ 0 (by simp[nmK,a3]) (by omega) ?_;rw[e,h]; simp
     ·omega
    have a3:x.op≠7:=by simpa using a3
    repeat first|refine Za (ldr hx.h0) ?_|refine Za (ldr hx.h1) ?_|refine Za (ldr hx.h2) ?_|refine Za (ldr hx.h3) ?_|refine Za (Yf ..) ?_|refine Za (ldr (row:=[u,.bool t]) rfl) ?_|refine Za rfl ?_
    refine Xj λk45 hk45=>?_;have m3:∀c,c=decide (x.op=8∨x.op=9∨x.op=10∨x.op=11∨x.op=12)→k45 [.bool c] []:=by
     rintro c hc;rw[hk45]; clear hk45 k45;refine Zb (λh=>?_) (λh=>?_)
     ·rw[h] at hc;have a4:x.op=8∨x.op=9∨x.op=10∨x.op=11∨x.op=12:=by simpa using hc.symm
      refine kk _ _ 2 (by simp[nmK]; omega) (by omega) ?_;rcases e with e|e
      ·rw[e]; simp[a3]
      ·omega
     ·rw[h] at hc;have a4:¬(x.op=8∨x.op=9∨x.op=10∨x.op=11∨x.op=12):=by simpa using hc.symm
      refine bad _ _ _ ?_;have:nmTop t x.op x.n x.who x.kids.length=false:=by
       rw[Bool.eq_false_iff]; intro hh; simp[nmTop] at hh; omega
      rw[this]; rfl
    clear hk45;refine Zb (λc1=>m3 _ ?_) (λc1=>?_)
    ·simp at c1; simp[c1]
    refine Za (Yf ..) (Zb (λc2=>m3 _ ?_) (λc2=>?_))
    ·simp at c2; simp[c2]
    refine Za (Yf ..) (Zb (λc3=>m3 _ ?_) (λc3=>?_))
    ·simp at c3; simp[c3]
    refine Za (Yf ..) (Zb (λc4=>m3 _ ?_) (λc4=>?_))
    ·simp at c4; simp[c4]
    refine Za (Yf ..) (m3 _ ?_);simp at c1 c2 c3 c4; simp[c1,c2,c3,c4]
   clear hk35;refine Zb (λc1=>m2 _ ?_) (λc1=>?_)
   ·simp at c1; simp[c1]
   refine Za (Yf ..) (m2 _ ?_);simp at c1; simp[c1]
  clear hk25;refine Zb (λc1=>m1 _ ?_) (λc1=>?_)
  ·simp at c1; simp[c1]
  refine Za (Yf ..) (Zb (λc2=>m1 _ ?_) (λc2=>?_))
  ·simp at c2; simp[c2]
  refine Za (Yf ..) (Zb (λc3=>m1 _ ?_) (λc3=>?_))
  ·simp at c3; simp[c3]
  refine Za (Yf ..) (m1 _ ?_);simp at c1 c2 c3; simp[c1,c2,c3]
theorem c211(u:AVal)(t:Bool)(x:Nm)(row:List AVal)(j:Nat)(hx:NmAt row j x)(hf:nmFit x=true):PC 91 [.rptr [u,.bool t] 0,.rptr row j] (.bool (nmOk t x)):=c211' u t _ x row j hx (Nat.le_refl _) hf
end Go.Ah.Tz
end
section
namespace Go.Ah.Tz
open Go.Proofs.Tryz (prog)
def tlook(t:Tx):List (Tx×Bool)→Option Bool
 |[]=>none
 |p::l=>if t==p.1 then some p.2 else tlook t l
def mpE(l:List (Tx×Bool)):List (AVal×AVal):=l.map λp=>(AVal.str p.1,AVal.bool p.2)
theorem Yaf(t:Tx):∀l,alook (.str t) (mpE l)=some ((tlook t l).map AVal.bool)
 |[]=>rfl
 |p::l=>by
  simp only[mpE,List.map_cons,alook,keyEq,tlook];cases h:t==p.1 with
  |true=>rfl
  |false=>exact Yaf t l
def chkM(l:List (Tx×Bool))(t:Bool):List AVal:=[.rmap (mpE l),.bool t]
theorem QZ(l:List (Tx×Bool))(t:Tx)(σ:List ABlk):Xu true true (.bool false) [.rmap (mpE l),.str t] σ=.ok (.tup [.bool ((tlook t l).getD false),.bool (tlook t l).isSome]) [] []:=by
 show (match alook (.str t) (mpE l) with
  |some r=>SRes.ok (lookV true (.bool false) r) [] []
  | none=>.stop)=_
 rw[Yaf];cases tlook t l<;>rfl
theorem Qj(l:List (Tx×Bool))(t:Tx)(σ:List ABlk):Xu true false (.bool false) [.rmap (mpE l),.str t] σ=.ok (.bool ((tlook t l).getD false)) [] []:=by
 show (match alook (.str t) (mpE l) with
  |some r=>SRes.ok (lookV false (.bool false) r) [] []
  | none=>.stop)=_
 rw[Yaf];cases tlook t l<;>rfl
def Units(l:List (Tx×Bool))(cs:List Cd):Prop:=∀t u,findC cs t u=match tlook t l with
 |none=>false
 |some b=>b || !u
structure CnAt (row:List AVal) (j:Nat) (x:Cn):Prop where
 h0:partA false (j+0) 1 row=some (iv8 x.op)
 h1:partA false (j+1) 1 row=some (iv8 x.who)
 h2:partA false (j+2) 1 row=some (.str x.name)
 h3:partA false (j+3) 1 row=some (.rsl false false 4 (x.nums.map nmC))
 h4:partA false (j+4) 1 row=some (.rsl false false 5 (x.kids.map cnC))
theorem cnAt(x:Cn):CnAt (cnC x) 0 x:=by rw[YS]; exact⟨rfl,rfl,rfl,rfl,rfl⟩
theorem cnAt7(x:Ef):CnAt (efC x) 7 x.c:=by rw[Qv]; exact⟨rfl,rfl,rfl,rfl,rfl⟩
attribute [local irreducible] Ans.rd Ans.pu Ans.wr Ans.dr Ans.gr Ans.gw Ans.gl Ans.gd Ans.opt joinK W
set_option maxHeartbeats 1000000
theorem Qdc{P:Program}{GL:Globs}{c d:Bool}{K:AVal→Prop}{r1:SRes}{f2 f3 f4 f5:AVal→SRes}{σ:List ABlk}{v1 v2 v3 v4:AVal}{q1 q2 q3 q4 q5:List Nat}(h1:r1=.ok v1 q1 [])(h2:f2 v1=.ok v2 q2 [])(h3:f3 v2=.ok v3 q3 [])(h4:f4 v3=.ok v4 q4 [])(h5:f5 v4=.ok (.bool d) q5 [])(hK:K (.bool (c&&d))) :
  (W P GL).gr (.bool c) true (λk=>(W P GL).rd r1 k) λt1=>(W P GL).gr (.bool c) true (λk=>(W P GL).rd (f2 t1) k) λt2=>(W P GL).gr (.bool c) true (λk=>(W P GL).rd (f3 t2) k) λt3=>(W P GL).gr (.bool c) true (λk=>(W P GL).rd (f4 t3) k) λt4=>(W P GL).gr (.bool c) true (λk=>(W P GL).rd (f5 t4) k) λt5=>(W P GL).rd (Ql [.bool c,t5,.bool false] σ) K:=by
 cases c with
 |true=>exact Ya (Za h1 (Ya (Za h2 (Ya (Za h3 (Ya (Za h4 (Ya (Za h5 (Za rfl hK))))))))))
 |false=>exact Xa rfl (Xa rfl (Xa rfl (Xa rfl (Xa rfl (Za rfl hK)))))
theorem c213'(l:List (Tx×Bool))(cs:List Cd)(hU:Units l cs)(t:Bool):∀(k:Nat) (x:Cn) (row:List AVal) (j:Nat),CnAt row j x→SizeOf.sizeOf x≤k→cnFit x=true→PC 93 [.rptr (chkM l t) 0,.rptr row j] (.bool (cnOk cs t x))
 |0,x,_,_,_,h,_=>by cases x; simp at h
 |k+1,x,row,j,hx,hk,hf=>by
  refine Qb hP g93.ok rfl rfl ?_;rw[H2.e]; unfold g93; dsimp only;rw[Zcw];have hl1:=Zal hf;have hl2:=Qak hf;rw[bigE] at hl1 hl2;refine Za rfl (Za rfl (Za (ldr hx.h1) (Za (Yf ..) ?_)));refine Qdc rfl rfl rfl (ldr hx.h2) (Zj ..) ?_;refine Za rfl (Za rfl (Za (ldr hx.h0) ?_));have bad:∀b1 b2 b3 b4:Bool,(b1&&(b2&&(b3&&b4)))=false→AVal.bool false=AVal.bool (b1&&(b2&&(b3&&b4))):=by
   intro b1 b2 b3 b4 h; rw[h]
  have badT:¬(0≤x.op∧x.op≤6∧x.nums.length=cnK3 x.op∧x.kids.length=cnK4 x.op)→AVal.bool false=AVal.bool (cnTop x.op x.nums.length x.kids.length&&(nmsOk t x.nums&&(cnsOk cs t x.kids&&cnEnd cs x.op x.who x.name))):=by
   intro hn;have:cnTop x.op x.nums.length x.kids.length=false:=by
    rw[Bool.eq_false_iff]; intro hh; simp[cnTop] at hh; exact hn hh
   rw[this]; rfl
  refine Xj λk13 hk13=>?_;have kk:∀(ok:Bool) (k3 k4:Nat),k3=cnK3 x.op→k4=cnK4 x.op→(0≤x.op∧x.op≤6)→ok=cnEnd cs x.op x.who x.name→k13 [.bool ok,iv k3,iv k4] []:=by
   rintro ok k3 k4 rfl rfl hop hok;rw[hk13]; clear hk13 k13;repeat first|refine Za (ldr hx.h0) ?_|refine Za (ldr hx.h1) ?_|refine Za (ldr hx.h2) ?_|refine Za (ldr hx.h3) ?_|refine Za (ldr hx.h4) ?_|refine Za (Yf ..) ?_|refine Za (Zj ..) ?_|refine Za (ldr (row:=chkM l t) rfl) ?_|refine Za (QZ ..) ?_|refine Za rfl ?_
   cases ok with
   |false=>
    repeat first|refine Ya ?_|refine Yb ?_|refine Xa rfl ?_|refine Ye rfl ?_|refine Qf rfl ?_|refine Yh rfl ?_|refine Za (ldr hx.h0) ?_|refine Za (ldr hx.h1) ?_|refine Za (ldr hx.h2) ?_|refine Za (ldr hx.h3) ?_|refine Za (ldr hx.h4) ?_|refine Za (Yf ..) ?_|refine Za (Zj ..) ?_|refine Za (ldr (row:=chkM l t) rfl) ?_|refine Za (QZ ..) ?_|refine Za rfl ?_
    refine Yd (bad _ _ _ _ ?_);rw[←hok]; simp
   |true=>
    repeat first|refine Ya ?_|refine Yb ?_|refine Za (ldr hx.h0) ?_|refine Za (ldr hx.h1) ?_|refine Za (ldr hx.h2) ?_|refine Za (ldr hx.h3) ?_|refine Za (ldr hx.h4) ?_|refine Za (Yf ..) ?_|refine Za (Zj ..) ?_|refine Za (ldr (row:=chkM l t) rfl) ?_|refine Za (QZ ..) ?_|refine Za rfl ?_
    rcases YBE (((x.nums.map nmC).length:Int) != (cnK3 x.op:Int)) with h3|h3
    ·rw[h3];repeat first|refine Ya ?_|refine Yb ?_|refine Xa rfl ?_|refine Ye rfl ?_|refine Qf rfl ?_|refine Yh rfl ?_|refine Za (ldr hx.h0) ?_|refine Za (ldr hx.h1) ?_|refine Za (ldr hx.h2) ?_|refine Za (ldr hx.h3) ?_|refine Za (ldr hx.h4) ?_|refine Za (Yf ..) ?_|refine Za (Zj ..) ?_|refine Za (ldr (row:=chkM l t) rfl) ?_|refine Za (QZ ..) ?_|refine Za rfl ?_
     refine Yd (badT ?_);simp at h3; omega
    rw[h3];repeat first|refine Ya ?_|refine Yb ?_|refine Za (ldr hx.h0) ?_|refine Za (ldr hx.h1) ?_|refine Za (ldr hx.h2) ?_|refine Za (ldr hx.h3) ?_|refine Za (ldr hx.h4) ?_|refine Za (Yf ..) ?_|refine Za (Zj ..) ?_|refine Za (ldr (row:=chkM l t) rfl) ?_|refine Za (QZ ..) ?_|refine Za rfl ?_
    refine Zb (λh4=>badT ?_) (λh4=>?_)
    ·simp at h4; omega
    simp at h3 h4;have ht:cnTop x.op x.nums.length x.kids.length=true:=by simp[cnTop]; omega
    rw[ht,←hok,Bool.true_and,Bool.and_true];repeat first|refine Za (ldr hx.h0) ?_|refine Za (ldr hx.h1) ?_|refine Za (ldr hx.h2) ?_|refine Za (ldr hx.h3) ?_|refine Za (ldr hx.h4) ?_|refine Za (Yf ..) ?_|refine Za (Zj ..) ?_|refine Za (ldr (row:=chkM l t) rfl) ?_|refine Za (QZ ..) ?_|refine Za rfl ?_
    refine Xn (ι:=Nat) (λi vs σ=>vs=[iv i]∧σ=[]∧i≤x.nums.length∧nmsOk t x.nums=nmsOk t (x.nums.drop i)) (λi=>x.nums.length-i) 0 ⟨rfl,rfl,by omega,by simp⟩ ?_;rintro i vs σ again ⟨rfl,rfl,hi,hu⟩ hag;refine Za rfl ?_;refine Zb (λh=>?_) (λh=>?_)
    ·have h:i<x.nums.length:=by simpa using h
     have hdr:x.nums.drop i=x.nums[i]::x.nums.drop (i+1):=by rw[YLD h]
     rw[hdr,nmsOk] at hu;have hm:x.nums[i]∈x.nums:=List.getElem_mem h;refine Za rfl (Za rfl (Za (ldr hx.h3) (Za (Xw _ nmC _ _ _ x.nums _ i h) ?_)));refine Zc (c211 _ t _ _ 0 (nmAt _) (Qaf hf hm)) rfl g91.ok.plain rfl ?_;refine Za rfl ?_;refine Zb (λh4=>?_) (λh4=>?_)
     ·have h4:nmOk t x.nums[i]=false:=by simpa using h4
      rw[hu,h4]; rfl
     ·have h4:nmOk t x.nums[i]=true:=by simpa using h4
      rw[h4,Bool.true_and] at hu;refine Za (Zl ..) ?_;rw[Zg (n:=i) (by omega)];exact hag (i+1) _ _ (by omega) ⟨rfl,rfl,by omega,hu⟩
    have h:i=x.nums.length:=by simp at h; omega
    subst h;rw[List.drop_length,nmsOk] at hu;rw[hu,Bool.true_and];clear hag hu hi;repeat first|refine Za (ldr hx.h0) ?_|refine Za (ldr hx.h1) ?_|refine Za (ldr hx.h2) ?_|refine Za (ldr hx.h3) ?_|refine Za (ldr hx.h4) ?_|refine Za (Yf ..) ?_|refine Za (Zj ..) ?_|refine Za (ldr (row:=chkM l t) rfl) ?_|refine Za (QZ ..) ?_|refine Za rfl ?_
    refine Xn (ι:=Nat) (λi vs s=>vs=[iv i]∧s=[]∧i≤x.kids.length∧cnsOk cs t x.kids=cnsOk cs t (x.kids.drop i)) (λi=>x.kids.length-i) 0 ⟨rfl,rfl,by omega,by simp⟩ ?_;rintro i vs s again ⟨rfl,rfl,hi,hu⟩ hag;refine Za rfl ?_;refine Zb (λh=>?_) (λh=>?_)
    ·have h:i<x.kids.length:=by simpa using h
     have hdr:x.kids.drop i=x.kids[i]::x.kids.drop (i+1):=by rw[YLD h]
     rw[hdr,cnsOk] at hu;have hm:x.kids[i]∈x.kids:=List.getElem_mem h;refine Za rfl (Za rfl (Za (ldr hx.h4) (Za (Xw _ cnC _ _ _ x.kids _ i h) ?_)));refine Zc (c213' l cs hU t k _ _ 0 (cnAt _) (by have:=Xbn hm; omega) (Xaf hf hm)) rfl g93.ok.plain rfl ?_;refine Za rfl ?_;refine Zb (λh4=>?_) (λh4=>?_)
     ·have h4:cnOk cs t x.kids[i]=false:=by simpa using h4
      rw[hu,h4]; rfl
     ·have h4:cnOk cs t x.kids[i]=true:=by simpa using h4
      rw[h4,Bool.true_and] at hu;refine Za (Zl ..) ?_;rw[Zg (n:=i) (by omega)];exact hag (i+1) _ _ (by omega) ⟨rfl,rfl,by omega,hu⟩
    have h:i=x.kids.length:=by simp at h; omega
    subst h;rw[List.drop_length,cnsOk] at hu;rw[hu]
  clear hk13;have e6:x.op≠6→(decide (x.who=0)&&(x.name==[]))=cnEnd cs x.op x.who x.name:=by
   intro h; rw[cnEnd,if_neg h]
  refine Za (Yf ..) ?_;refine Xj λk1 hk1=>?_;have m1:∀c,c=decide (x.op=0∨x.op=1∨x.op=2)→k1 [.bool c] []:=by
   rintro c hc;rw[hk1]; clear hk1 k1;refine Zb (λh=>?_) (λh=>?_)
   ·rw[h] at hc;have a1:x.op=0∨x.op=1∨x.op=2:=by simpa using hc.symm
    exact kk _ 2 0 (by simp[cnK3]; omega) (by unfold cnK4; split<;>(try split)<;>omega) (by omega) (e6 (by omega))
   rw[h] at hc;have a1:¬(x.op=0∨x.op=1∨x.op=2):=by simpa using hc.symm
   refine Za (Yf ..) (Zb (λa3=>?_) (λa3=>?_))
   ·have a3:x.op=3:=by simpa using a3
    exact kk _ 0 1 (by simp[cnK3]; omega) (by unfold cnK4; split<;>(try split)<;>omega) (by omega) (e6 (by omega))
   have a3:x.op≠3:=by simpa using a3
   refine Za (Yf ..) ?_;refine Xj λk1 hk1=>?_;have m2:∀c,c=decide (x.op=4∨x.op=5)→k1 [.bool c] []:=by
    rintro c hc;rw[hk1]; clear hk1 k1;refine Zb (λh=>?_) (λh=>?_)
    ·rw[h] at hc;have a1:x.op=4∨x.op=5:=by simpa using hc.symm
     exact kk _ 0 2 (by simp[cnK3]; omega) (by unfold cnK4; split<;>(try split)<;>omega) (by omega) (e6 (by omega))
    rw[h] at hc;have a4:¬(x.op=4∨x.op=5):=by simpa using hc.symm
    refine Za (Yf ..) (Zb (λa6=>?_) (λa6=>?_))
    ·have a6:x.op=6:=by simpa using a6
     repeat first|refine Za (ldr hx.h0) ?_|refine Za (ldr hx.h1) ?_|refine Za (ldr hx.h2) ?_|refine Za (ldr hx.h3) ?_|refine Za (ldr hx.h4) ?_|refine Za (Yf ..) ?_|refine Za (Zj ..) ?_|refine Za (ldr (row:=chkM l t) rfl) ?_|refine Za (QZ ..) ?_|refine Za rfl ?_
     have hfind:=hU x.name false;have e:cnEnd cs x.op x.who x.name=((tlook x.name l).isSome&&sdOp x.who):=by
      rw[cnEnd,if_pos a6,hfind];cases tlook x.name l<;>simp
     rcases YBE (tlook x.name l).isSome with h|h
     ·rw[h];repeat first|refine Ya ?_|refine Yb ?_|refine Za (ldr hx.h0) ?_|refine Za (ldr hx.h1) ?_|refine Za (ldr hx.h2) ?_|refine Za (ldr hx.h3) ?_|refine Za (ldr hx.h4) ?_|refine Za (Yf ..) ?_|refine Za (Zj ..) ?_|refine Za (ldr (row:=chkM l t) rfl) ?_|refine Za (QZ ..) ?_|refine Za rfl ?_
      refine Zc (c212 _) rfl g92.ok.plain rfl ?_;repeat first|refine Ya ?_|refine Yb ?_|refine Za (ldr hx.h0) ?_|refine Za (ldr hx.h1) ?_|refine Za (ldr hx.h2) ?_|refine Za (ldr hx.h3) ?_|refine Za (ldr hx.h4) ?_|refine Za (Yf ..) ?_|refine Za (Zj ..) ?_|refine Za (ldr (row:=chkM l t) rfl) ?_|refine Za (QZ ..) ?_|refine Za rfl ?_
      exact kk _ 0 0 (by simp[cnK3]; omega) (by unfold cnK4; split<;>(try split)<;>omega) (by omega) (by rw[e,h,Bool.true_and])
     ·rw[h];repeat first|refine Ya ?_|refine Yb ?_|refine Xa rfl ?_|refine Ye rfl ?_|refine Qf rfl ?_|refine Yh rfl ?_|refine Za (ldr hx.h0) ?_|refine Za (ldr hx.h1) ?_|refine Za (ldr hx.h2) ?_|refine Za (ldr hx.h3) ?_|refine Za (ldr hx.h4) ?_|refine Za (Yf ..) ?_|refine Za (Zj ..) ?_|refine Za (ldr (row:=chkM l t) rfl) ?_|refine Za (QZ ..) ?_|refine Za rfl ?_
      exact kk _ 0 0 (by simp[cnK3]; omega) (by unfold cnK4; split<;>(try split)<;>omega) (by omega) (by rw[e,h,Bool.false_and])
    ·have a6:x.op≠6:=by simpa using a6
     exact badT (by omega)
   clear hk1;refine Zb (λc1=>m2 _ ?_) (λc1=>?_)
   ·simp at c1; simp[c1]
   refine Za (Yf ..) (m2 _ ?_);simp at c1; simp[c1]
  clear hk1;refine Zb (λc1=>m1 _ ?_) (λc1=>?_)
  ·simp at c1; simp[c1]
  refine Za (Yf ..) (Zb (λc2=>m1 _ ?_) (λc2=>?_))
  ·simp at c2; simp[c2]
  refine Za (Yf ..) (m1 _ ?_);simp at c1 c2; simp[c1,c2]
theorem c213(l:List (Tx×Bool))(cs:List Cd)(hU:Units l cs)(t:Bool)(x:Cn)(row:List AVal)(j:Nat)(hx:CnAt row j x)(hf:cnFit x=true):PC 93 [.rptr (chkM l t) 0,.rptr row j] (.bool (cnOk cs t x)):=c213' l cs hU t _ x row j hx (Nat.le_refl _) hf
end Go.Ah.Tz
end
section
namespace Go.Ah.Tz
open Go.Proofs.Tryz (prog)
def zeroB(x:Ef):Bool:=((cntOp x.op||noNum x.n)&&(decide (x.op=7)||x.name==[]))&&(decide (x.op=8)||(decide (x.c.op=0)&&(decide (x.c.who=0)&&(x.c.name==[]&&decide (x.c.nums.length+x.c.kids.length+x.thn.length+x.els.length=0)))))
attribute [local irreducible] Ans.rd Ans.pu Ans.wr Ans.dr Ans.gr Ans.gw Ans.gl Ans.gd Ans.opt joinK W
set_option maxHeartbeats 2000000
theorem c209(x:Ef)(hf:efFit x=true):PC 89 [.rptr (efC x) 0] (.bool (zeroB x)):=by
 have l1:=Zal (Xaq hf);have l2:=Qak (Xaq hf);have l3:=YM (Y0 hf);have l4:=YM (Z0 hf);rw[bigE] at l1 l2 l3 l4;rw[Qv];refine Qb hP g89.ok rfl rfl ?_;rw[H1.e]; unfold g89; dsimp only;repeat first|refine Za (Yf ..) ?_|refine Za (Zj ..) ?_|refine Za (ldr (row:=[iv8 x.op,iv8 x.who,iv8 x.n.op,iv x.n.n,iv8 x.n.who,.rsl false false 4 (x.n.kids.map nmC),.str x.name,iv8 x.c.op,iv8 x.c.who,.str x.c.name,.rsl false false 4 (x.c.nums.map nmC),.rsl false false 5 (x.c.kids.map cnC),.rsl false false 14 (x.thn.map efC),.rsl false false 14 (x.els.map efC)]) rfl) ?_|refine Za rfl ?_
 refine Zc (c210 _) rfl g90.ok.plain rfl ?_;have r1:∀K:AVal→Prop,K (.bool (cntOp x.op||noNum x.n))→VV.gr (AVal.bool (cntOp x.op)) false (λk=>VV.rd (Z7 [(AVal.rptr [iv8 x.op,iv8 x.who,iv8 x.n.op,iv x.n.n,iv8 x.n.who,.rsl false false 4 (x.n.kids.map nmC),.str x.name,iv8 x.c.op,iv8 x.c.who,.str x.c.name,.rsl false false 4 (x.c.nums.map nmC),.rsl false false 5 (x.c.kids.map cnC),.rsl false false 14 (x.thn.map efC),.rsl false false 14 (x.els.map efC)] 0)] ([]:List ABlk)) k) λt13_4=>VV.gr (AVal.bool (cntOp x.op)) false (λk=>VV.rd (Qg [t13_4] ([]:List ABlk)) k) λt14_5=>VV.gr (AVal.bool (cntOp x.op)) false (λk=>VV.rd (Qc 2 [t14_5] ([]:List ABlk)) k) λt15_6=>VV.gr (AVal.bool (cntOp x.op)) false (λk=>VV.rd (Qc 0 [t15_6] ([]:List ABlk)) k) λt16_7=>VV.gr (AVal.bool (cntOp x.op)) false (λk=>VV.rd (Zk false 1 [t16_7] ([]:List ABlk)) k) λt17_8=>VV.gr (AVal.bool (cntOp x.op)) false (λk=>VV.rd (Qm .eql false [t17_8,(.int .i8 0)] ([]:List ABlk)) k) λt18_9=>VV.gr (AVal.bool (cntOp x.op)) false (λk=>VV.rd (Z7 [t18_9] ([]:List ABlk)) k) λt19_10=>VV.gr t19_10 true (λk=>VV.rd (Z7 [(AVal.rptr [iv8 x.op,iv8 x.who,iv8 x.n.op,iv x.n.n,iv8 x.n.who,.rsl false false 4 (x.n.kids.map nmC),.str x.name,iv8 x.c.op,iv8 x.c.who,.str x.c.name,.rsl false false 4 (x.c.nums.map nmC),.rsl false false 5 (x.c.kids.map cnC),.rsl false false 14 (x.thn.map efC),.rsl false false 14 (x.els.map efC)] 0)] ([]:List ABlk)) k) λt20_11=>VV.gr t19_10 true (λk=>VV.rd (Qg [t20_11] ([]:List ABlk)) k) λt21_12=>VV.gr t19_10 true (λk=>VV.rd (Qc 2 [t21_12] ([]:List ABlk)) k) λt22_13=>VV.gr t19_10 true (λk=>VV.rd (Qc 1 [t22_13] ([]:List ABlk)) k) λt23_14=>VV.gr t19_10 true (λk=>VV.rd (Zk false 1 [t23_14] ([]:List ABlk)) k) λt24_15=>VV.gr t19_10 true (λk=>VV.rd (Qm .eql false [t24_15,(.int .i64 0)] ([]:List ABlk)) k) λt25_16=>VV.gr (AVal.bool (cntOp x.op)) false (λk=>VV.rd (Ql [t19_10,t25_16,(.bool false)] ([]:List ABlk)) k) λt26_17=>VV.gr (AVal.bool (cntOp x.op)) false (λk=>VV.rd (Z7 [t26_17] ([]:List ABlk)) k) λt27_18=>VV.gr t27_18 true (λk=>VV.rd (Z7 [(AVal.rptr [iv8 x.op,iv8 x.who,iv8 x.n.op,iv x.n.n,iv8 x.n.who,.rsl false false 4 (x.n.kids.map nmC),.str x.name,iv8 x.c.op,iv8 x.c.who,.str x.c.name,.rsl false false 4 (x.c.nums.map nmC),.rsl false false 5 (x.c.kids.map cnC),.rsl false false 14 (x.thn.map efC),.rsl false false 14 (x.els.map efC)] 0)] ([]:List ABlk)) k) λt28_19=>VV.gr t27_18 true (λk=>VV.rd (Qg [t28_19] ([]:List ABlk)) k) λt29_20=>VV.gr t27_18 true (λk=>VV.rd (Qc 2 [t29_20] ([]:List ABlk)) k) λt30_21=>VV.gr t27_18 true (λk=>VV.rd (Qc 2 [t30_21] ([]:List ABlk)) k) λt31_22=>VV.gr t27_18 true (λk=>VV.rd (Zk false 1 [t31_22] ([]:List ABlk)) k) λt32_23=>VV.gr t27_18 true (λk=>VV.rd (Qm .eql false [t32_23,(.int .i8 0)] ([]:List ABlk)) k) λt33_24=>VV.gr (AVal.bool (cntOp x.op)) false (λk=>VV.rd (Ql [t27_18,t33_24,(.bool false)] ([]:List ABlk)) k) λt34_25=>VV.gr (AVal.bool (cntOp x.op)) false (λk=>VV.rd (Z7 [t34_25] ([]:List ABlk)) k) λt35_26=>VV.gr t35_26 true (λk=>VV.rd (Z7 [(AVal.rptr [iv8 x.op,iv8 x.who,iv8 x.n.op,iv x.n.n,iv8 x.n.who,.rsl false false 4 (x.n.kids.map nmC),.str x.name,iv8 x.c.op,iv8 x.c.who,.str x.c.name,.rsl false false 4 (x.c.nums.map nmC),.rsl false false 5 (x.c.kids.map cnC),.rsl false false 14 (x.thn.map efC),.rsl false false 14 (x.els.map efC)] 0)] ([]:List ABlk)) k) λt36_27=>VV.gr t35_26 true (λk=>VV.rd (Qg [t36_27] ([]:List ABlk)) k) λt37_28=>VV.gr t35_26 true (λk=>VV.rd (Qc 2 [t37_28] ([]:List ABlk)) k) λt38_29=>VV.gr t35_26 true (λk=>VV.rd (Qc 3 [t38_29] ([]:List ABlk)) k) λt39_30=>VV.gr t35_26 true (λk=>VV.rd (Zk false 1 [t39_30] ([]:List ABlk)) k) λt40_31=>VV.gr t35_26 true (λk=>VV.rd (Qp [t40_31] ([]:List ABlk)) k) λt41_32=>VV.gr t35_26 true (λk=>VV.rd (Qm .eql false [t41_32,(.int .i64 0)] ([]:List ABlk)) k) λt42_33=>VV.gr (AVal.bool (cntOp x.op)) false (λk=>VV.rd (Ql [t35_26,t42_33,(.bool false)] ([]:List ABlk)) k) λt43_34=>VV.rd (Ql [(AVal.bool (cntOp x.op)),(.bool true),t43_34] ([]:List ABlk)) K:=by
  intro K hK;rcases YBE (cntOp x.op) with h0|h0
  ·rw[h0] at hK ⊢;repeat first|refine Ya ?_|refine Yb ?_|refine Xa rfl ?_|refine Ye rfl ?_|refine Qf rfl ?_|refine Yh rfl ?_|refine Za (Yf ..) ?_|refine Za (Zj ..) ?_|refine Za (ldr (row:=[iv8 x.op,iv8 x.who,iv8 x.n.op,iv x.n.n,iv8 x.n.who,.rsl false false 4 (x.n.kids.map nmC),.str x.name,iv8 x.c.op,iv8 x.c.who,.str x.c.name,.rsl false false 4 (x.c.nums.map nmC),.rsl false false 5 (x.c.kids.map cnC),.rsl false false 14 (x.thn.map efC),.rsl false false 14 (x.els.map efC)]) rfl) ?_|refine Za rfl ?_
   exact hK
  rw[h0,Bool.false_or] at hK;rw[h0];repeat first|refine Ya ?_|refine Yb ?_|refine Za (Yf ..) ?_|refine Za (Zj ..) ?_|refine Za (ldr (row:=[iv8 x.op,iv8 x.who,iv8 x.n.op,iv x.n.n,iv8 x.n.who,.rsl false false 4 (x.n.kids.map nmC),.str x.name,iv8 x.c.op,iv8 x.c.who,.str x.c.name,.rsl false false 4 (x.c.nums.map nmC),.rsl false false 5 (x.c.kids.map cnC),.rsl false false 14 (x.thn.map efC),.rsl false false 14 (x.els.map efC)]) rfl) ?_|refine Za rfl ?_
  rcases YBE (decide (x.n.op=0)) with h1|h1
  rotate_left
  ·rw[h1];repeat first|refine Ya ?_|refine Yb ?_|refine Xa rfl ?_|refine Ye rfl ?_|refine Qf rfl ?_|refine Yh rfl ?_|refine Za (Yf ..) ?_|refine Za (Zj ..) ?_|refine Za (ldr (row:=[iv8 x.op,iv8 x.who,iv8 x.n.op,iv x.n.n,iv8 x.n.who,.rsl false false 4 (x.n.kids.map nmC),.str x.name,iv8 x.c.op,iv8 x.c.who,.str x.c.name,.rsl false false 4 (x.c.nums.map nmC),.rsl false false 5 (x.c.kids.map cnC),.rsl false false 14 (x.thn.map efC),.rsl false false 14 (x.els.map efC)]) rfl) ?_|refine Za rfl ?_
   rw[show noNum x.n=false by simp at h1; simp[noNum,h1]] at hK;exact hK
  rw[h1];repeat first|refine Ya ?_|refine Yb ?_|refine Za (Yf ..) ?_|refine Za (Zj ..) ?_|refine Za (ldr (row:=[iv8 x.op,iv8 x.who,iv8 x.n.op,iv x.n.n,iv8 x.n.who,.rsl false false 4 (x.n.kids.map nmC),.str x.name,iv8 x.c.op,iv8 x.c.who,.str x.c.name,.rsl false false 4 (x.c.nums.map nmC),.rsl false false 5 (x.c.kids.map cnC),.rsl false false 14 (x.thn.map efC),.rsl false false 14 (x.els.map efC)]) rfl) ?_|refine Za rfl ?_
  rcases YBE (decide (x.n.n=0)) with h2|h2
  rotate_left
  ·rw[h2];repeat first|refine Ya ?_|refine Yb ?_|refine Xa rfl ?_|refine Ye rfl ?_|refine Qf rfl ?_|refine Yh rfl ?_|refine Za (Yf ..) ?_|refine Za (Zj ..) ?_|refine Za (ldr (row:=[iv8 x.op,iv8 x.who,iv8 x.n.op,iv x.n.n,iv8 x.n.who,.rsl false false 4 (x.n.kids.map nmC),.str x.name,iv8 x.c.op,iv8 x.c.who,.str x.c.name,.rsl false false 4 (x.c.nums.map nmC),.rsl false false 5 (x.c.kids.map cnC),.rsl false false 14 (x.thn.map efC),.rsl false false 14 (x.els.map efC)]) rfl) ?_|refine Za rfl ?_
   rw[show noNum x.n=false by simp at h2; simp[noNum,h2]] at hK;exact hK
  rw[h2];repeat first|refine Ya ?_|refine Yb ?_|refine Za (Yf ..) ?_|refine Za (Zj ..) ?_|refine Za (ldr (row:=[iv8 x.op,iv8 x.who,iv8 x.n.op,iv x.n.n,iv8 x.n.who,.rsl false false 4 (x.n.kids.map nmC),.str x.name,iv8 x.c.op,iv8 x.c.who,.str x.c.name,.rsl false false 4 (x.c.nums.map nmC),.rsl false false 5 (x.c.kids.map cnC),.rsl false false 14 (x.thn.map efC),.rsl false false 14 (x.els.map efC)]) rfl) ?_|refine Za rfl ?_
  rcases YBE (decide (x.n.who=0)) with h3|h3
  rotate_left
  ·rw[h3];repeat first|refine Ya ?_|refine Yb ?_|refine Xa rfl ?_|refine Ye rfl ?_|refine Qf rfl ?_|refine Yh rfl ?_|refine Za (Yf ..) ?_|refine Za (Zj ..) ?_|refine Za (ldr (row:=[iv8 x.op,iv8 x.who,iv8 x.n.op,iv x.n.n,iv8 x.n.who,.rsl false false 4 (x.n.kids.map nmC),.str x.name,iv8 x.c.op,iv8 x.c.who,.str x.c.name,.rsl false false 4 (x.c.nums.map nmC),.rsl false false 5 (x.c.kids.map cnC),.rsl false false 14 (x.thn.map efC),.rsl false false 14 (x.els.map efC)]) rfl) ?_|refine Za rfl ?_
   rw[show noNum x.n=false by simp at h3; simp[noNum,h3]] at hK;exact hK
  rw[h3];repeat first|refine Ya ?_|refine Yb ?_|refine Za (Yf ..) ?_|refine Za (Zj ..) ?_|refine Za (ldr (row:=[iv8 x.op,iv8 x.who,iv8 x.n.op,iv x.n.n,iv8 x.n.who,.rsl false false 4 (x.n.kids.map nmC),.str x.name,iv8 x.c.op,iv8 x.c.who,.str x.c.name,.rsl false false 4 (x.c.nums.map nmC),.rsl false false 5 (x.c.kids.map cnC),.rsl false false 14 (x.thn.map efC),.rsl false false 14 (x.els.map efC)]) rfl) ?_|refine Za rfl ?_
  have e:noNum x.n=decide (((x.n.kids.map nmC).length:Int)=0):=by
   rw[Bool.eq_iff_iff]; simp at h1 h2 h3; simp[noNum,h1,h2,h3]
  rw[e] at hK;exact hK
 refine r1 _ ?_;clear r1;repeat first|refine Za (Yf ..) ?_|refine Za (Zj ..) ?_|refine Za (ldr (row:=[iv8 x.op,iv8 x.who,iv8 x.n.op,iv x.n.n,iv8 x.n.who,.rsl false false 4 (x.n.kids.map nmC),.str x.name,iv8 x.c.op,iv8 x.c.who,.str x.c.name,.rsl false false 4 (x.c.nums.map nmC),.rsl false false 5 (x.c.kids.map cnC),.rsl false false 14 (x.thn.map efC),.rsl false false 14 (x.els.map efC)]) rfl) ?_|refine Za rfl ?_
 have r2:∀K:AVal→Prop,K (.bool (decide (x.op=7)||x.name==[]))→VV.gr (AVal.bool (decide (x.op=7))) false (λk=>VV.rd (Z7 [(AVal.rptr [iv8 x.op,iv8 x.who,iv8 x.n.op,iv x.n.n,iv8 x.n.who,.rsl false false 4 (x.n.kids.map nmC),.str x.name,iv8 x.c.op,iv8 x.c.who,.str x.c.name,.rsl false false 4 (x.c.nums.map nmC),.rsl false false 5 (x.c.kids.map cnC),.rsl false false 14 (x.thn.map efC),.rsl false false 14 (x.els.map efC)] 0)] ([]:List ABlk)) k) λt51_40=>VV.gr (AVal.bool (decide (x.op=7))) false (λk=>VV.rd (Qg [t51_40] ([]:List ABlk)) k) λt52_41=>VV.gr (AVal.bool (decide (x.op=7))) false (λk=>VV.rd (Qc 6 [t52_41] ([]:List ABlk)) k) λt53_42=>VV.gr (AVal.bool (decide (x.op=7))) false (λk=>VV.rd (Zk false 1 [t53_42] ([]:List ABlk)) k) λt54_43=>VV.gr (AVal.bool (decide (x.op=7))) false (λk=>VV.rd (Qm .eql false [t54_43,(.str [])] ([]:List ABlk)) k) λt55_44=>VV.rd (Ql [(AVal.bool (decide (x.op=7))),(.bool true),t55_44] ([]:List ABlk)) K:=by
  intro K hK;rcases YBE (decide (x.op=7)) with h0|h0
  ·rw[h0] at hK ⊢;repeat first|refine Ya ?_|refine Yb ?_|refine Xa rfl ?_|refine Ye rfl ?_|refine Qf rfl ?_|refine Yh rfl ?_|refine Za (Yf ..) ?_|refine Za (Zj ..) ?_|refine Za (ldr (row:=[iv8 x.op,iv8 x.who,iv8 x.n.op,iv x.n.n,iv8 x.n.who,.rsl false false 4 (x.n.kids.map nmC),.str x.name,iv8 x.c.op,iv8 x.c.who,.str x.c.name,.rsl false false 4 (x.c.nums.map nmC),.rsl false false 5 (x.c.kids.map cnC),.rsl false false 14 (x.thn.map efC),.rsl false false 14 (x.els.map efC)]) rfl) ?_|refine Za rfl ?_
   exact hK
  rw[h0,Bool.false_or] at hK;rw[h0];repeat first|refine Ya ?_|refine Yb ?_|refine Za (Yf ..) ?_|refine Za (Zj ..) ?_|refine Za (ldr (row:=[iv8 x.op,iv8 x.who,iv8 x.n.op,iv x.n.n,iv8 x.n.who,.rsl false false 4 (x.n.kids.map nmC),.str x.name,iv8 x.c.op,iv8 x.c.who,.str x.c.name,.rsl false false 4 (x.c.nums.map nmC),.rsl false false 5 (x.c.kids.map cnC),.rsl false false 14 (x.thn.map efC),.rsl false false 14 (x.els.map efC)]) rfl) ?_|refine Za rfl ?_
  exact hK
 refine r2 _ ?_;clear r2;repeat first|refine Za (Yf ..) ?_|refine Za (Zj ..) ?_|refine Za (ldr (row:=[iv8 x.op,iv8 x.who,iv8 x.n.op,iv x.n.n,iv8 x.n.who,.rsl false false 4 (x.n.kids.map nmC),.str x.name,iv8 x.c.op,iv8 x.c.who,.str x.c.name,.rsl false false 4 (x.c.nums.map nmC),.rsl false false 5 (x.c.kids.map cnC),.rsl false false 14 (x.thn.map efC),.rsl false false 14 (x.els.map efC)]) rfl) ?_|refine Za rfl ?_
 have r3:∀K:AVal→Prop,K (.bool (decide (x.op=8)||(decide (x.c.op=0)&&(decide (x.c.who=0)&&(x.c.name==[]&&decide (x.c.nums.length+x.c.kids.length+x.thn.length+x.els.length=0))))))→VV.gr (AVal.bool (decide (x.op=8))) false (λk=>VV.rd (Z7 [(AVal.rptr [iv8 x.op,iv8 x.who,iv8 x.n.op,iv x.n.n,iv8 x.n.who,.rsl false false 4 (x.n.kids.map nmC),.str x.name,iv8 x.c.op,iv8 x.c.who,.str x.c.name,.rsl false false 4 (x.c.nums.map nmC),.rsl false false 5 (x.c.kids.map cnC),.rsl false false 14 (x.thn.map efC),.rsl false false 14 (x.els.map efC)] 7)] ([]:List ABlk)) k) λt66_52=>VV.gr (AVal.bool (decide (x.op=8))) false (λk=>VV.rd (Qg [t66_52] ([]:List ABlk)) k) λt67_53=>VV.gr (AVal.bool (decide (x.op=8))) false (λk=>VV.rd (Qc 0 [t67_53] ([]:List ABlk)) k) λt68_54=>VV.gr (AVal.bool (decide (x.op=8))) false (λk=>VV.rd (Zk false 1 [t68_54] ([]:List ABlk)) k) λt69_55=>VV.gr (AVal.bool (decide (x.op=8))) false (λk=>VV.rd (Qm .eql false [t69_55,(.int .i8 0)] ([]:List ABlk)) k) λt70_56=>VV.gr (AVal.bool (decide (x.op=8))) false (λk=>VV.rd (Z7 [t70_56] ([]:List ABlk)) k) λt71_57=>VV.gr t71_57 true (λk=>VV.rd (Z7 [(AVal.rptr [iv8 x.op,iv8 x.who,iv8 x.n.op,iv x.n.n,iv8 x.n.who,.rsl false false 4 (x.n.kids.map nmC),.str x.name,iv8 x.c.op,iv8 x.c.who,.str x.c.name,.rsl false false 4 (x.c.nums.map nmC),.rsl false false 5 (x.c.kids.map cnC),.rsl false false 14 (x.thn.map efC),.rsl false false 14 (x.els.map efC)] 7)] ([]:List ABlk)) k) λt72_58=>VV.gr t71_57 true (λk=>VV.rd (Qg [t72_58] ([]:List ABlk)) k) λt73_59=>VV.gr t71_57 true (λk=>VV.rd (Qc 1 [t73_59] ([]:List ABlk)) k) λt74_60=>VV.gr t71_57 true (λk=>VV.rd (Zk false 1 [t74_60] ([]:List ABlk)) k) λt75_61=>VV.gr t71_57 true (λk=>VV.rd (Qm .eql false [t75_61,(.int .i8 0)] ([]:List ABlk)) k) λt76_62=>VV.gr (AVal.bool (decide (x.op=8))) false (λk=>VV.rd (Ql [t71_57,t76_62,(.bool false)] ([]:List ABlk)) k) λt77_63=>VV.gr (AVal.bool (decide (x.op=8))) false (λk=>VV.rd (Z7 [t77_63] ([]:List ABlk)) k) λt78_64=>VV.gr t78_64 true (λk=>VV.rd (Z7 [(AVal.rptr [iv8 x.op,iv8 x.who,iv8 x.n.op,iv x.n.n,iv8 x.n.who,.rsl false false 4 (x.n.kids.map nmC),.str x.name,iv8 x.c.op,iv8 x.c.who,.str x.c.name,.rsl false false 4 (x.c.nums.map nmC),.rsl false false 5 (x.c.kids.map cnC),.rsl false false 14 (x.thn.map efC),.rsl false false 14 (x.els.map efC)] 7)] ([]:List ABlk)) k) λt79_65=>VV.gr t78_64 true (λk=>VV.rd (Qg [t79_65] ([]:List ABlk)) k) λt80_66=>VV.gr t78_64 true (λk=>VV.rd (Qc 2 [t80_66] ([]:List ABlk)) k) λt81_67=>VV.gr t78_64 true (λk=>VV.rd (Zk false 1 [t81_67] ([]:List ABlk)) k) λt82_68=>VV.gr t78_64 true (λk=>VV.rd (Qm .eql false [t82_68,(.str [])] ([]:List ABlk)) k) λt83_69=>VV.gr (AVal.bool (decide (x.op=8))) false (λk=>VV.rd (Ql [t78_64,t83_69,(.bool false)] ([]:List ABlk)) k) λt84_70=>VV.gr (AVal.bool (decide (x.op=8))) false (λk=>VV.rd (Z7 [t84_70] ([]:List ABlk)) k) λt85_71=>VV.gr t85_71 true (λk=>VV.rd (Z7 [(AVal.rptr [iv8 x.op,iv8 x.who,iv8 x.n.op,iv x.n.n,iv8 x.n.who,.rsl false false 4 (x.n.kids.map nmC),.str x.name,iv8 x.c.op,iv8 x.c.who,.str x.c.name,.rsl false false 4 (x.c.nums.map nmC),.rsl false false 5 (x.c.kids.map cnC),.rsl false false 14 (x.thn.map efC),.rsl false false 14 (x.els.map efC)] 7)] ([]:List ABlk)) k) λt86_72=>VV.gr t85_71 true (λk=>VV.rd (Qg [t86_72] ([]:List ABlk)) k) λt87_73=>VV.gr t85_71 true (λk=>VV.rd (Qc 3 [t87_73] ([]:List ABlk)) k) λt88_74=>VV.gr t85_71 true (λk=>VV.rd (Zk false 1 [t88_74] ([]:List ABlk)) k) λt89_75=>VV.gr t85_71 true (λk=>VV.rd (Qp [t89_75] ([]:List ABlk)) k) λt90_76=>VV.gr t85_71 true (λk=>VV.rd (Z7 [(AVal.rptr [iv8 x.op,iv8 x.who,iv8 x.n.op,iv x.n.n,iv8 x.n.who,.rsl false false 4 (x.n.kids.map nmC),.str x.name,iv8 x.c.op,iv8 x.c.who,.str x.c.name,.rsl false false 4 (x.c.nums.map nmC),.rsl false false 5 (x.c.kids.map cnC),.rsl false false 14 (x.thn.map efC),.rsl false false 14 (x.els.map efC)] 7)] ([]:List ABlk)) k) λt91_77=>VV.gr t85_71 true (λk=>VV.rd (Qg [t91_77] ([]:List ABlk)) k) λt92_78=>VV.gr t85_71 true (λk=>VV.rd (Qc 4 [t92_78] ([]:List ABlk)) k) λt93_79=>VV.gr t85_71 true (λk=>VV.rd (Zk false 1 [t93_79] ([]:List ABlk)) k) λt94_80=>VV.gr t85_71 true (λk=>VV.rd (Qp [t94_80] ([]:List ABlk)) k) λt95_81=>VV.gr t85_71 true (λk=>VV.rd (Qm .add false [t90_76,t95_81] ([]:List ABlk)) k) λt96_82=>VV.gr t85_71 true (λk=>VV.rd (Z7 [(AVal.rptr [iv8 x.op,iv8 x.who,iv8 x.n.op,iv x.n.n,iv8 x.n.who,.rsl false false 4 (x.n.kids.map nmC),.str x.name,iv8 x.c.op,iv8 x.c.who,.str x.c.name,.rsl false false 4 (x.c.nums.map nmC),.rsl false false 5 (x.c.kids.map cnC),.rsl false false 14 (x.thn.map efC),.rsl false false 14 (x.els.map efC)] 0)] ([]:List ABlk)) k) λt97_83=>VV.gr t85_71 true (λk=>VV.rd (Qg [t97_83] ([]:List ABlk)) k) λt98_84=>VV.gr t85_71 true (λk=>VV.rd (Qc 12 [t98_84] ([]:List ABlk)) k) λt99_85=>VV.gr t85_71 true (λk=>VV.rd (Zk false 1 [t99_85] ([]:List ABlk)) k) λt100_86=>VV.gr t85_71 true (λk=>VV.rd (Qp [t100_86] ([]:List ABlk)) k) λt101_87=>VV.gr t85_71 true (λk=>VV.rd (Qm .add false [t96_82,t101_87] ([]:List ABlk)) k) λt102_88=>VV.gr t85_71 true (λk=>VV.rd (Z7 [(AVal.rptr [iv8 x.op,iv8 x.who,iv8 x.n.op,iv x.n.n,iv8 x.n.who,.rsl false false 4 (x.n.kids.map nmC),.str x.name,iv8 x.c.op,iv8 x.c.who,.str x.c.name,.rsl false false 4 (x.c.nums.map nmC),.rsl false false 5 (x.c.kids.map cnC),.rsl false false 14 (x.thn.map efC),.rsl false false 14 (x.els.map efC)] 0)] ([]:List ABlk)) k) λt103_89=>VV.gr t85_71 true (λk=>VV.rd (Qg [t103_89] ([]:List ABlk)) k) λt104_90=>VV.gr t85_71 true (λk=>VV.rd (Qc 13 [t104_90] ([]:List ABlk)) k) λt105_91=>VV.gr t85_71 true (λk=>VV.rd (Zk false 1 [t105_91] ([]:List ABlk)) k) λt106_92=>VV.gr t85_71 true (λk=>VV.rd (Qp [t106_92] ([]:List ABlk)) k) λt107_93=>VV.gr t85_71 true (λk=>VV.rd (Qm .add false [t102_88,t107_93] ([]:List ABlk)) k) λt108_94=>VV.gr t85_71 true (λk=>VV.rd (Qm .eql false [t108_94,(.int .i64 0)] ([]:List ABlk)) k) λt109_95=>VV.gr (AVal.bool (decide (x.op=8))) false (λk=>VV.rd (Ql [t85_71,t109_95,(.bool false)] ([]:List ABlk)) k) λt110_96=>VV.rd (Ql [(AVal.bool (decide (x.op=8))),(.bool true),t110_96] ([]:List ABlk)) K:=by
  intro K hK;rcases YBE (decide (x.op=8)) with h0|h0
  ·rw[h0] at hK ⊢;repeat first|refine Ya ?_|refine Yb ?_|refine Xa rfl ?_|refine Ye rfl ?_|refine Qf rfl ?_|refine Yh rfl ?_|refine Za (Yf ..) ?_|refine Za (Zj ..) ?_|refine Za (ldr (row:=[iv8 x.op,iv8 x.who,iv8 x.n.op,iv x.n.n,iv8 x.n.who,.rsl false false 4 (x.n.kids.map nmC),.str x.name,iv8 x.c.op,iv8 x.c.who,.str x.c.name,.rsl false false 4 (x.c.nums.map nmC),.rsl false false 5 (x.c.kids.map cnC),.rsl false false 14 (x.thn.map efC),.rsl false false 14 (x.els.map efC)]) rfl) ?_|refine Za rfl ?_
   exact hK
  rw[h0,Bool.false_or] at hK;rw[h0];repeat first|refine Ya ?_|refine Yb ?_|refine Za (Yf ..) ?_|refine Za (Zj ..) ?_|refine Za (ldr (row:=[iv8 x.op,iv8 x.who,iv8 x.n.op,iv x.n.n,iv8 x.n.who,.rsl false false 4 (x.n.kids.map nmC),.str x.name,iv8 x.c.op,iv8 x.c.who,.str x.c.name,.rsl false false 4 (x.c.nums.map nmC),.rsl false false 5 (x.c.kids.map cnC),.rsl false false 14 (x.thn.map efC),.rsl false false 14 (x.els.map efC)]) rfl) ?_|refine Za rfl ?_
  rcases YBE (decide (x.c.op=0)) with h1|h1
  rotate_left
  ·rw[h1];repeat first|refine Ya ?_|refine Yb ?_|refine Xa rfl ?_|refine Ye rfl ?_|refine Qf rfl ?_|refine Yh rfl ?_|refine Za (Yf ..) ?_|refine Za (Zj ..) ?_|refine Za (ldr (row:=[iv8 x.op,iv8 x.who,iv8 x.n.op,iv x.n.n,iv8 x.n.who,.rsl false false 4 (x.n.kids.map nmC),.str x.name,iv8 x.c.op,iv8 x.c.who,.str x.c.name,.rsl false false 4 (x.c.nums.map nmC),.rsl false false 5 (x.c.kids.map cnC),.rsl false false 14 (x.thn.map efC),.rsl false false 14 (x.els.map efC)]) rfl) ?_|refine Za rfl ?_
   rw[h1] at hK;exact hK
  rw[h1];repeat first|refine Ya ?_|refine Yb ?_|refine Za (Yf ..) ?_|refine Za (Zj ..) ?_|refine Za (ldr (row:=[iv8 x.op,iv8 x.who,iv8 x.n.op,iv x.n.n,iv8 x.n.who,.rsl false false 4 (x.n.kids.map nmC),.str x.name,iv8 x.c.op,iv8 x.c.who,.str x.c.name,.rsl false false 4 (x.c.nums.map nmC),.rsl false false 5 (x.c.kids.map cnC),.rsl false false 14 (x.thn.map efC),.rsl false false 14 (x.els.map efC)]) rfl) ?_|refine Za rfl ?_
  rcases YBE (decide (x.c.who=0)) with h2|h2
  rotate_left
  ·rw[h2];repeat first|refine Ya ?_|refine Yb ?_|refine Xa rfl ?_|refine Ye rfl ?_|refine Qf rfl ?_|refine Yh rfl ?_|refine Za (Yf ..) ?_|refine Za (Zj ..) ?_|refine Za (ldr (row:=[iv8 x.op,iv8 x.who,iv8 x.n.op,iv x.n.n,iv8 x.n.who,.rsl false false 4 (x.n.kids.map nmC),.str x.name,iv8 x.c.op,iv8 x.c.who,.str x.c.name,.rsl false false 4 (x.c.nums.map nmC),.rsl false false 5 (x.c.kids.map cnC),.rsl false false 14 (x.thn.map efC),.rsl false false 14 (x.els.map efC)]) rfl) ?_|refine Za rfl ?_
   rw[h1,h2] at hK;exact hK
  rw[h2];repeat first|refine Ya ?_|refine Yb ?_|refine Za (Yf ..) ?_|refine Za (Zj ..) ?_|refine Za (ldr (row:=[iv8 x.op,iv8 x.who,iv8 x.n.op,iv x.n.n,iv8 x.n.who,.rsl false false 4 (x.n.kids.map nmC),.str x.name,iv8 x.c.op,iv8 x.c.who,.str x.c.name,.rsl false false 4 (x.c.nums.map nmC),.rsl false false 5 (x.c.kids.map cnC),.rsl false false 14 (x.thn.map efC),.rsl false false 14 (x.els.map efC)]) rfl) ?_|refine Za rfl ?_
  rcases YBE (x.c.name==[]) with h3|h3
  rotate_left
  ·rw[h3];repeat first|refine Ya ?_|refine Yb ?_|refine Xa rfl ?_|refine Ye rfl ?_|refine Qf rfl ?_|refine Yh rfl ?_|refine Za (Yf ..) ?_|refine Za (Zj ..) ?_|refine Za (ldr (row:=[iv8 x.op,iv8 x.who,iv8 x.n.op,iv x.n.n,iv8 x.n.who,.rsl false false 4 (x.n.kids.map nmC),.str x.name,iv8 x.c.op,iv8 x.c.who,.str x.c.name,.rsl false false 4 (x.c.nums.map nmC),.rsl false false 5 (x.c.kids.map cnC),.rsl false false 14 (x.thn.map efC),.rsl false false 14 (x.els.map efC)]) rfl) ?_|refine Za rfl ?_
   rw[h1,h2,h3] at hK;exact hK
  rw[h3];repeat first|refine Ya ?_|refine Yb ?_|refine Za (Yf ..) ?_|refine Za (Zj ..) ?_|refine Za (ldr (row:=[iv8 x.op,iv8 x.who,iv8 x.n.op,iv x.n.n,iv8 x.n.who,.rsl false false 4 (x.n.kids.map nmC),.str x.name,iv8 x.c.op,iv8 x.c.who,.str x.c.name,.rsl false false 4 (x.c.nums.map nmC),.rsl false false 5 (x.c.kids.map cnC),.rsl false false 14 (x.thn.map efC),.rsl false false 14 (x.els.map efC)]) rfl) ?_|refine Za rfl ?_
  rw[h1,h2,h3,Bool.true_and,Bool.true_and,Bool.true_and] at hK;rw[List.length_map,List.length_map,List.length_map,List.length_map,wrapI (n:=(x.c.nums.length:Int)+x.c.kids.length) (by omega) (by omega),wrapI (n:=(x.c.nums.length:Int)+x.c.kids.length+x.thn.length) (by omega) (by omega),wrapI (n:=(x.c.nums.length:Int)+x.c.kids.length+x.thn.length+x.els.length) (by omega) (by omega)];rw[show decide ((x.c.nums.length:Int)+x.c.kids.length+x.thn.length+x.els.length=0)=decide (x.c.nums.length+x.c.kids.length+x.thn.length+x.els.length=0) by rw[Bool.eq_iff_iff,decide_eq_true_eq,decide_eq_true_eq]; omega];exact hK
 refine r3 _ ?_;clear r3;unfold zeroB;generalize (cntOp x.op||noNum x.n)=b1;generalize (decide (x.op=7)||x.name==[])=b2;generalize (decide (x.op=8)||(decide (x.c.op=0)&&(decide (x.c.who=0)&&(x.c.name==[]&&decide (x.c.nums.length+x.c.kids.length+x.thn.length+x.els.length=0)))))=b3;cases b1<;>cases b2
 all_goals (repeat (first|refine Ya ?_|refine Yb ?_|refine Xa rfl ?_|refine Ye rfl ?_|refine Qf rfl ?_|refine Yh rfl ?_|refine Za (Yf ..) ?_|refine Za (Zj ..) ?_|refine Za (ldr (row:=[iv8 x.op,iv8 x.who,iv8 x.n.op,iv x.n.n,iv8 x.n.who,.rsl false false 4 (x.n.kids.map nmC),.str x.name,iv8 x.c.op,iv8 x.c.who,.str x.c.name,.rsl false false 4 (x.c.nums.map nmC),.rsl false false 5 (x.c.kids.map cnC),.rsl false false 14 (x.thn.map efC),.rsl false false 14 (x.els.map efC)]) rfl) ?_|refine Za rfl ?_))
 all_goals rfl
end Go.Ah.Tz
end
section
namespace Go.Ah.Tz
open Go.Proofs.Tryz (prog)
def efArm(cs:List Cd)(t:Bool)(d:Int)(x:Ef):Bool:=
 if x.op=0∨x.op=1 then sdOp x.who||(decide (x.who=2)&&t)
 else if x.op=2∨x.op=4∨x.op=6 then sdOp x.who
 else if x.op=3∨x.op=5 then decide (x.who=0)
 else if x.op=7 then decide (x.who=0)&&findC cs x.name true
 else if x.op=8 then decide (x.who=0)&&(cnOk cs t x.c&&(lstOk cs t (d+1) x.thn&&lstOk cs t (d+1) x.els))
 else false
theorem ZcN(x:Ef):(decide (x.c.op=0)&&(decide (x.c.who=0)&&(x.c.name==[]&&decide (x.c.nums.length+x.c.kids.length+x.thn.length+x.els.length=0))))=(noCond x.c&&(decide (x.thn.length=0)&&decide (x.els.length=0))):=by
 have e:decide (x.c.nums.length+x.c.kids.length+x.thn.length+x.els.length=0)=(decide (x.c.nums.length=0)&&(decide (x.c.kids.length=0)&&(decide (x.thn.length=0)&&decide (x.els.length=0)))):=by
  rw[Bool.eq_iff_iff];simp only[Bool.and_eq_true,decide_eq_true_eq]; omega
 rw[e,noCond];simp only[Bool.and_assoc]
theorem YdE(cs:List Cd)(t:Bool)(d:Int)(x:Ef):efOk cs t d x=((zeroB x&&(!cntOp x.op||nmOk t x.n))&&efArm cs t d x):=by
 rw[XaD,zeroB,ZcN];by_cases hr:0≤x.op∧x.op≤8;rotate_left
 ·have:efArm cs t d x=false:=by
   rw[efArm,if_neg (by omega),if_neg (by omega),if_neg (by omega),if_neg (by omega),if_neg (by omega)]
  rw[this,Bool.and_false,Bool.eq_false_iff];intro h; simp only[Bool.and_eq_true,decide_eq_true_eq] at h; exact hr ⟨h.1,h.2.1⟩
 obtain⟨r1,r2⟩:=hr;rw[decide_eq_true r1,decide_eq_true r2,Bool.true_and,Bool.true_and];generalize noCond x.c=b1;generalize decide (x.thn.length=0)=b2;generalize decide (x.els.length=0)=b3;generalize noNum x.n=b4;generalize nmOk t x.n=b5;generalize (x.name==[])=b6;unfold efArm efEnd efMid;generalize lstOk cs t (d+1) x.thn=b7;generalize lstOk cs t (d+1) x.els=b8;generalize cnOk cs t x.c=b9;generalize findC cs x.name true=b10;generalize sdOp x.who=b11;generalize decide (x.who=0)=b12;generalize decide (x.who=2)=b13;have h:x.op=0∨x.op=1∨x.op=2∨x.op=3∨x.op=4∨x.op=5∨x.op=6∨x.op=7∨x.op=8:=by omega
 generalize x.op=op at h;clear r1 r2;rcases h with h|h|h|h|h|h|h|h|h<;>subst h<;>simp[cntOp]<;>cases b1<;>cases b2<;>cases b3<;>cases b4<;>cases b5<;>cases b6<;>simp<;>cases b12<;>simp
attribute [local irreducible] Ans.rd Ans.pu Ans.wr Ans.dr Ans.gr Ans.gw Ans.gl Ans.gd Ans.opt joinK W
set_option maxHeartbeats 4000000
theorem ZdE(x:Ef):NmAt (efC x) (0+2) x.n:=nmAt2 x
theorem QdD(x:Ef):CnAt (efC x) (0+7) x.c:=cnAt7 x
theorem c157'(m:List (Tx×Bool))(cs:List Cd)(hU:Units m cs)(t:Bool):∀(k:Nat) (l:List Ef) (d:Int),SizeOf.sizeOf l≤k→lsFit l=true→0≤d→PC 69 [.rptr (chkM m t) 0,efV l,iv d] (.bool (lstOk cs t d l))
 |0,l,_,h,_,_=>by cases l<;>simp at h
 |k+1,l,d,hk,hf,hd=>by
  refine Qb hP g69.ok rfl rfl ?_;rw[H3.e]; unfold g69; dsimp only;have hlen:=YM hf;rw[bigE] at hlen;refine Za rfl (Za rfl ?_);refine QT rfl rfl ?_;refine Zb (λh=>?_) (λh=>?_)
  ·have h:¬(l.length≤16∧d≤8):=by simp at h; omega
   rw[lstOk];rcases Decidable.not_and_iff_or_not.1 h with h|h<;>simp[h]
  have h:l.length≤16∧d≤8:=by simp at h; omega
  have hl:lstOk cs t d l=efsOk cs t d l:=by simp[lstOk,h]
  rw[hl];clear hl;refine Za rfl ?_;refine Xn (ι:=Nat) (λi vs σ=>vs=[iv i]∧σ=[]∧i≤l.length∧efsOk cs t d l=efsOk cs t d (l.drop i)) (λi=>l.length-i) 0 ⟨rfl,rfl,by omega,by simp⟩ ?_;rintro i vs σ again ⟨rfl,rfl,hi,hu⟩ hag;refine Za rfl ?_;refine Zb (λh=>?_) (λh=>?_);rotate_left
  ·have h:i=l.length:=by simp at h; omega
   subst h;rw[List.drop_length,efsOk] at hu;rw[hu]
  have hil:i<l.length:=by simpa using h
  have hdr:l.drop i=l[i]::l.drop (i+1):=by rw[YLD hil]
  rw[hdr,efsOk] at hu;have hm:l[i]∈l:=List.getElem_mem hil;have hsz:=List.sizeOf_lt_of_mem hm;have hfx:=Z1 hf hm;have ix:=λ(s:List ABlk)=>Xw s efC false false 14 l .i64 i hil;generalize l[i]=x at hu hsz hfx ix;have hs2:=XaQ x;rename_i hd8;obtain⟨h16,h8⟩:=hd8;have go:∀c,c=efOk cs t d x→VV.rd (Ybk .not [.bool c] []) λt152=>VV.test t152 (AVal.bool false=AVal.bool (efsOk cs t d l)) (VV.rd (Qm .add false [iv i,(.int .i64 1)] []) λt153=>again [t153] []):=by
   rintro c hc;refine Za rfl ?_;rw[←hc] at hu;refine Zb (λh=>?_) (λh=>?_)
   ·have h:c=false:=by simpa using h
    rw[hu,h]; rfl
   ·have h:c=true:=by simpa using h
    rw[h,Bool.true_and] at hu;refine Za (Zl ..) ?_;rw[Zg (n:=i) (by omega)];exact hag (i+1) _ _ (by omega) ⟨rfl,rfl,by omega,hu⟩
  have stop:efOk cs t d x=false→AVal.bool false=AVal.bool (efsOk cs t d l):=by
   intro he; rw[hu,he]; rfl
  clear hag hu;rw[YdE] at stop go;refine Za (ix _) ?_;refine Zc (c209 x hfx) rfl g89.ok.plain rfl ?_;have r1:∀K:AVal→List ABlk→Prop,K (.bool (zeroB x&&(!cntOp x.op||nmOk t x.n))) []→VV.gr (AVal.bool (zeroB x)) true (λk=>VV.rd (Z7 [(AVal.rptr (efC x) 0)] []) k) λt28_11=>VV.gr (AVal.bool (zeroB x)) true (λk=>VV.rd (Qg [t28_11] []) k) λt29_12=>VV.gr (AVal.bool (zeroB x)) true (λk=>VV.rd (Qc 0 [t29_12] []) k) λt30_13=>VV.gr (AVal.bool (zeroB x)) true (λk=>VV.rd (Zk false 1 [t30_13] []) k) λt31_14=>VV.gw (AVal.bool (zeroB x)) true (λk=>VV.call (.call 90) [t31_14] [] k) ([]:List ABlk) λt32_15 σ=>VV.gr (AVal.bool (zeroB x)) true (λk=>VV.rd (Ybk .not [t32_15] σ) k) λt33_16=>VV.gr (AVal.bool (zeroB x)) true (λk=>VV.rd (Z7 [t33_16] σ) k) λt34_17=>VV.gr t34_17 false (λk=>VV.rd (Z7 [(AVal.rptr (chkM m t) 0)] σ) k) λt35_18=>VV.gr t34_17 false (λk=>VV.rd (Z7 [(AVal.rptr (efC x) 0)] σ) k) λt36_19=>VV.gr t34_17 false (λk=>VV.rd (Qg [t36_19] σ) k) λt37_20=>VV.gr t34_17 false (λk=>VV.rd (Qc 2 [t37_20] σ) k) λt38_21=>VV.gw t34_17 false (λk=>VV.call (.call 91) [t35_18,t38_21] σ k) σ λt39_22 σ=>VV.gr (AVal.bool (zeroB x)) true (λk=>VV.rd (Ql [t34_17,(.bool true),t39_22] σ) k) λt40_23=>VV.rd (Ql [(AVal.bool (zeroB x)),t40_23,(.bool false)] σ) (λv=>K v σ):=by
   intro K hK;rcases YBE (zeroB x) with h|h
   rotate_left
   ·rw[h] at hK ⊢;repeat first|refine Ya ?_|refine Yb ?_|refine Xa rfl ?_|refine Ye rfl ?_|refine Qf rfl ?_|refine Yh rfl ?_|refine Za (ldr (efLd0 x)) ?_|refine Za (ldr (efLd1 x)) ?_|refine Za (ldr (efLd6 x)) ?_|refine Za (ldr (Zq x)) ?_|refine Za (ldr (Yq x)) ?_|refine Za (Yf ..) ?_|refine Za (Zj ..) ?_|refine Za (ldr (row:=chkM m t) rfl) ?_|refine Za (Qj ..) ?_|refine Za rfl ?_
    exact hK
   rw[h,Bool.true_and] at hK;rw[h];repeat first|refine Ya ?_|refine Yb ?_|refine Za (ldr (efLd0 x)) ?_|refine Za (ldr (efLd1 x)) ?_|refine Za (ldr (efLd6 x)) ?_|refine Za (ldr (Zq x)) ?_|refine Za (ldr (Yq x)) ?_|refine Za (Yf ..) ?_|refine Za (Zj ..) ?_|refine Za (ldr (row:=chkM m t) rfl) ?_|refine Za (Qj ..) ?_|refine Za rfl ?_
   refine Zc (c210 _) rfl g90.ok.plain rfl ?_;repeat first|refine Ya ?_|refine Yb ?_|refine Za (ldr (efLd0 x)) ?_|refine Za (ldr (efLd1 x)) ?_|refine Za (ldr (efLd6 x)) ?_|refine Za (ldr (Zq x)) ?_|refine Za (ldr (Yq x)) ?_|refine Za (Yf ..) ?_|refine Za (Zj ..) ?_|refine Za (ldr (row:=chkM m t) rfl) ?_|refine Za (Qj ..) ?_|refine Za rfl ?_
   rcases YBE (!cntOp x.op) with h2|h2
   ·rw[h2] at hK ⊢;repeat first|refine Ya ?_|refine Yb ?_|refine Xa rfl ?_|refine Ye rfl ?_|refine Qf rfl ?_|refine Yh rfl ?_|refine Za (ldr (efLd0 x)) ?_|refine Za (ldr (efLd1 x)) ?_|refine Za (ldr (efLd6 x)) ?_|refine Za (ldr (Zq x)) ?_|refine Za (ldr (Yq x)) ?_|refine Za (Yf ..) ?_|refine Za (Zj ..) ?_|refine Za (ldr (row:=chkM m t) rfl) ?_|refine Za (Qj ..) ?_|refine Za rfl ?_
    exact hK
   rw[h2,Bool.false_or] at hK;rw[h2];repeat first|refine Ya ?_|refine Yb ?_|refine Za (ldr (efLd0 x)) ?_|refine Za (ldr (efLd1 x)) ?_|refine Za (ldr (efLd6 x)) ?_|refine Za (ldr (Zq x)) ?_|refine Za (ldr (Yq x)) ?_|refine Za (Yf ..) ?_|refine Za (Zj ..) ?_|refine Za (ldr (row:=chkM m t) rfl) ?_|refine Za (Qj ..) ?_|refine Za rfl ?_
   refine Zc (c211 _ t x.n _ _ (ZdE x) (YaD hfx)) rfl g91.ok.plain rfl ?_;repeat first|refine Ya ?_|refine Yb ?_|refine Za (ldr (efLd0 x)) ?_|refine Za (ldr (efLd1 x)) ?_|refine Za (ldr (efLd6 x)) ?_|refine Za (ldr (Zq x)) ?_|refine Za (ldr (Yq x)) ?_|refine Za (Yf ..) ?_|refine Za (Zj ..) ?_|refine Za (ldr (row:=chkM m t) rfl) ?_|refine Za (Qj ..) ?_|refine Za rfl ?_
   exact hK
  refine r1 _ ?_;clear r1;generalize (zeroB x&&(!cntOp x.op||nmOk t x.n))=z at go stop ⊢;repeat first|refine Za (ldr (efLd0 x)) ?_|refine Za (ldr (efLd1 x)) ?_|refine Za (ldr (efLd6 x)) ?_|refine Za (ldr (Zq x)) ?_|refine Za (ldr (Yq x)) ?_|refine Za (Yf ..) ?_|refine Za (Zj ..) ?_|refine Za (ldr (row:=chkM m t) rfl) ?_|refine Za (Qj ..) ?_|refine Za rfl ?_
  refine Xj λk28 hk28=>?_;have kk:∀c,c=(z&&efArm cs t d x)→k28 [.bool c] []:=by
   rintro c hc;rw[hk28];exact go c hc
  clear hk28 go;repeat first|refine Za (ldr (efLd0 x)) ?_|refine Za (ldr (efLd1 x)) ?_|refine Za (ldr (efLd6 x)) ?_|refine Za (ldr (Zq x)) ?_|refine Za (ldr (Yq x)) ?_|refine Za (Yf ..) ?_|refine Za (Zj ..) ?_|refine Za (ldr (row:=chkM m t) rfl) ?_|refine Za (Qj ..) ?_|refine Za rfl ?_
  refine Xj λk1 hk1=>?_;have m1:∀c,c=decide (x.op=0∨x.op=1)→k1 [.bool c] []:=by
   rintro c hc;rw[hk1]; clear hk1 k1;refine Zb (λh=>?_) (λh=>?_)
   ·rw[h] at hc;have a1:x.op=0∨x.op=1:=by simpa using hc.symm
    have e:efArm cs t d x=(sdOp x.who||(decide (x.who=2)&&t)):=by rw[efArm,if_pos a1]
    rw[e] at kk;cases z with
    |false=>
     repeat first|refine Ya ?_|refine Yb ?_|refine Xa rfl ?_|refine Ye rfl ?_|refine Qf rfl ?_|refine Yh rfl ?_|refine Za (ldr (efLd0 x)) ?_|refine Za (ldr (efLd1 x)) ?_|refine Za (ldr (efLd6 x)) ?_|refine Za (ldr (Zq x)) ?_|refine Za (ldr (Yq x)) ?_|refine Za (Yf ..) ?_|refine Za (Zj ..) ?_|refine Za (ldr (row:=chkM m t) rfl) ?_|refine Za (Qj ..) ?_|refine Za rfl ?_
     exact kk _ rfl
    |true=>
     repeat first|refine Ya ?_|refine Yb ?_|refine Za (ldr (efLd0 x)) ?_|refine Za (ldr (efLd1 x)) ?_|refine Za (ldr (efLd6 x)) ?_|refine Za (ldr (Zq x)) ?_|refine Za (ldr (Yq x)) ?_|refine Za (Yf ..) ?_|refine Za (Zj ..) ?_|refine Za (ldr (row:=chkM m t) rfl) ?_|refine Za (Qj ..) ?_|refine Za rfl ?_
     refine Zc (c212 _) rfl g92.ok.plain rfl ?_;repeat first|refine Ya ?_|refine Yb ?_|refine Za (ldr (efLd0 x)) ?_|refine Za (ldr (efLd1 x)) ?_|refine Za (ldr (efLd6 x)) ?_|refine Za (ldr (Zq x)) ?_|refine Za (ldr (Yq x)) ?_|refine Za (Yf ..) ?_|refine Za (Zj ..) ?_|refine Za (ldr (row:=chkM m t) rfl) ?_|refine Za (Qj ..) ?_|refine Za rfl ?_
     rcases YBE (sdOp x.who) with h2|h2
     ·rw[h2] at kk ⊢;repeat first|refine Ya ?_|refine Yb ?_|refine Xa rfl ?_|refine Ye rfl ?_|refine Qf rfl ?_|refine Yh rfl ?_|refine Za (ldr (efLd0 x)) ?_|refine Za (ldr (efLd1 x)) ?_|refine Za (ldr (efLd6 x)) ?_|refine Za (ldr (Zq x)) ?_|refine Za (ldr (Yq x)) ?_|refine Za (Yf ..) ?_|refine Za (Zj ..) ?_|refine Za (ldr (row:=chkM m t) rfl) ?_|refine Za (Qj ..) ?_|refine Za rfl ?_
      exact kk _ rfl
     rw[h2] at kk ⊢;repeat first|refine Ya ?_|refine Yb ?_|refine Za (ldr (efLd0 x)) ?_|refine Za (ldr (efLd1 x)) ?_|refine Za (ldr (efLd6 x)) ?_|refine Za (ldr (Zq x)) ?_|refine Za (ldr (Yq x)) ?_|refine Za (Yf ..) ?_|refine Za (Zj ..) ?_|refine Za (ldr (row:=chkM m t) rfl) ?_|refine Za (Qj ..) ?_|refine Za rfl ?_
     rcases YBE (decide (x.who=2)) with h3|h3
     ·rw[h3] at kk ⊢;repeat first|refine Ya ?_|refine Yb ?_|refine Za (ldr (efLd0 x)) ?_|refine Za (ldr (efLd1 x)) ?_|refine Za (ldr (efLd6 x)) ?_|refine Za (ldr (Zq x)) ?_|refine Za (ldr (Yq x)) ?_|refine Za (Yf ..) ?_|refine Za (Zj ..) ?_|refine Za (ldr (row:=chkM m t) rfl) ?_|refine Za (Qj ..) ?_|refine Za rfl ?_
      exact kk _ (by simp)
     rw[h3] at kk ⊢;repeat first|refine Ya ?_|refine Yb ?_|refine Xa rfl ?_|refine Ye rfl ?_|refine Qf rfl ?_|refine Yh rfl ?_|refine Za (ldr (efLd0 x)) ?_|refine Za (ldr (efLd1 x)) ?_|refine Za (ldr (efLd6 x)) ?_|refine Za (ldr (Zq x)) ?_|refine Za (ldr (Yq x)) ?_|refine Za (Yf ..) ?_|refine Za (Zj ..) ?_|refine Za (ldr (row:=chkM m t) rfl) ?_|refine Za (Qj ..) ?_|refine Za rfl ?_
     exact kk _ (by simp)
   rw[h] at hc;have a1:¬(x.op=0∨x.op=1):=by simpa using hc.symm
   repeat first|refine Za (ldr (efLd0 x)) ?_|refine Za (ldr (efLd1 x)) ?_|refine Za (ldr (efLd6 x)) ?_|refine Za (ldr (Zq x)) ?_|refine Za (ldr (Yq x)) ?_|refine Za (Yf ..) ?_|refine Za (Zj ..) ?_|refine Za (ldr (row:=chkM m t) rfl) ?_|refine Za (Qj ..) ?_|refine Za rfl ?_
   refine Xj λk1 hk1=>?_;have m2:∀c,c=decide (x.op=2∨x.op=4∨x.op=6)→k1 [.bool c] []:=by
    rintro c hc;rw[hk1]; clear hk1 k1;refine Zb (λh=>?_) (λh=>?_)
    ·rw[h] at hc;have a2:x.op=2∨x.op=4∨x.op=6:=by simpa using hc.symm
     have e:efArm cs t d x=sdOp x.who:=by rw[efArm,if_neg a1,if_pos a2]
     rw[e] at kk;cases z with
     |false=>
      repeat first|refine Ya ?_|refine Yb ?_|refine Xa rfl ?_|refine Ye rfl ?_|refine Qf rfl ?_|refine Yh rfl ?_|refine Za (ldr (efLd0 x)) ?_|refine Za (ldr (efLd1 x)) ?_|refine Za (ldr (efLd6 x)) ?_|refine Za (ldr (Zq x)) ?_|refine Za (ldr (Yq x)) ?_|refine Za (Yf ..) ?_|refine Za (Zj ..) ?_|refine Za (ldr (row:=chkM m t) rfl) ?_|refine Za (Qj ..) ?_|refine Za rfl ?_
      exact kk _ rfl
     |true=>
      repeat first|refine Ya ?_|refine Yb ?_|refine Za (ldr (efLd0 x)) ?_|refine Za (ldr (efLd1 x)) ?_|refine Za (ldr (efLd6 x)) ?_|refine Za (ldr (Zq x)) ?_|refine Za (ldr (Yq x)) ?_|refine Za (Yf ..) ?_|refine Za (Zj ..) ?_|refine Za (ldr (row:=chkM m t) rfl) ?_|refine Za (Qj ..) ?_|refine Za rfl ?_
      refine Zc (c212 _) rfl g92.ok.plain rfl ?_;repeat first|refine Ya ?_|refine Yb ?_|refine Za (ldr (efLd0 x)) ?_|refine Za (ldr (efLd1 x)) ?_|refine Za (ldr (efLd6 x)) ?_|refine Za (ldr (Zq x)) ?_|refine Za (ldr (Yq x)) ?_|refine Za (Yf ..) ?_|refine Za (Zj ..) ?_|refine Za (ldr (row:=chkM m t) rfl) ?_|refine Za (Qj ..) ?_|refine Za rfl ?_
      exact kk _ (by simp)
    rw[h] at hc;have a2:¬(x.op=2∨x.op=4∨x.op=6):=by simpa using hc.symm
    repeat first|refine Za (ldr (efLd0 x)) ?_|refine Za (ldr (efLd1 x)) ?_|refine Za (ldr (efLd6 x)) ?_|refine Za (ldr (Zq x)) ?_|refine Za (ldr (Yq x)) ?_|refine Za (Yf ..) ?_|refine Za (Zj ..) ?_|refine Za (ldr (row:=chkM m t) rfl) ?_|refine Za (Qj ..) ?_|refine Za rfl ?_
    refine Xj λk1 hk1=>?_;have m3:∀c,c=decide (x.op=3∨x.op=5)→k1 [.bool c] []:=by
     rintro c hc;rw[hk1]; clear hk1 k1;refine Zb (λh=>?_) (λh=>?_)
     ·rw[h] at hc;have a3:x.op=3∨x.op=5:=by simpa using hc.symm
      have e:efArm cs t d x=decide (x.who=0):=by rw[efArm,if_neg a1,if_neg a2,if_pos a3]
      rw[e] at kk;cases z with
      |false=>
       repeat first|refine Ya ?_|refine Yb ?_|refine Xa rfl ?_|refine Ye rfl ?_|refine Qf rfl ?_|refine Yh rfl ?_|refine Za (ldr (efLd0 x)) ?_|refine Za (ldr (efLd1 x)) ?_|refine Za (ldr (efLd6 x)) ?_|refine Za (ldr (Zq x)) ?_|refine Za (ldr (Yq x)) ?_|refine Za (Yf ..) ?_|refine Za (Zj ..) ?_|refine Za (ldr (row:=chkM m t) rfl) ?_|refine Za (Qj ..) ?_|refine Za rfl ?_
       exact kk _ rfl
      |true=>
       repeat first|refine Ya ?_|refine Yb ?_|refine Za (ldr (efLd0 x)) ?_|refine Za (ldr (efLd1 x)) ?_|refine Za (ldr (efLd6 x)) ?_|refine Za (ldr (Zq x)) ?_|refine Za (ldr (Yq x)) ?_|refine Za (Yf ..) ?_|refine Za (Zj ..) ?_|refine Za (ldr (row:=chkM m t) rfl) ?_|refine Za (Qj ..) ?_|refine Za rfl ?_
       exact kk _ (by simp)
     rw[h] at hc;have a3:¬(x.op=3∨x.op=5):=by simpa using hc.symm
     repeat first|refine Za (ldr (efLd0 x)) ?_|refine Za (ldr (efLd1 x)) ?_|refine Za (ldr (efLd6 x)) ?_|refine Za (ldr (Zq x)) ?_|refine Za (ldr (Yq x)) ?_|refine Za (Yf ..) ?_|refine Za (Zj ..) ?_|refine Za (ldr (row:=chkM m t) rfl) ?_|refine Za (Qj ..) ?_|refine Za rfl ?_
     refine Zb (λa7=>?_) (λa7=>?_)
     ·have a7:x.op=7:=by simpa using a7
      have e:efArm cs t d x=(decide (x.who=0)&&(tlook x.name m).getD false):=by
       rw[efArm,if_neg a1,if_neg a2,if_neg a3,if_pos a7,hU];cases tlook x.name m<;>simp
      rw[e] at kk;cases z with
      |false=>
       repeat first|refine Ya ?_|refine Yb ?_|refine Xa rfl ?_|refine Ye rfl ?_|refine Qf rfl ?_|refine Yh rfl ?_|refine Za (ldr (efLd0 x)) ?_|refine Za (ldr (efLd1 x)) ?_|refine Za (ldr (efLd6 x)) ?_|refine Za (ldr (Zq x)) ?_|refine Za (ldr (Yq x)) ?_|refine Za (Yf ..) ?_|refine Za (Zj ..) ?_|refine Za (ldr (row:=chkM m t) rfl) ?_|refine Za (Qj ..) ?_|refine Za rfl ?_
       exact kk _ rfl
      |true=>
       repeat first|refine Ya ?_|refine Yb ?_|refine Za (ldr (efLd0 x)) ?_|refine Za (ldr (efLd1 x)) ?_|refine Za (ldr (efLd6 x)) ?_|refine Za (ldr (Zq x)) ?_|refine Za (ldr (Yq x)) ?_|refine Za (Yf ..) ?_|refine Za (Zj ..) ?_|refine Za (ldr (row:=chkM m t) rfl) ?_|refine Za (Qj ..) ?_|refine Za rfl ?_
       rcases YBE (decide (x.who=0)) with h3|h3
       ·rw[h3] at kk ⊢;repeat first|refine Ya ?_|refine Yb ?_|refine Za (ldr (efLd0 x)) ?_|refine Za (ldr (efLd1 x)) ?_|refine Za (ldr (efLd6 x)) ?_|refine Za (ldr (Zq x)) ?_|refine Za (ldr (Yq x)) ?_|refine Za (Yf ..) ?_|refine Za (Zj ..) ?_|refine Za (ldr (row:=chkM m t) rfl) ?_|refine Za (Qj ..) ?_|refine Za rfl ?_
        exact kk _ (by simp)
       rw[h3] at kk ⊢;repeat first|refine Ya ?_|refine Yb ?_|refine Xa rfl ?_|refine Ye rfl ?_|refine Qf rfl ?_|refine Yh rfl ?_|refine Za (ldr (efLd0 x)) ?_|refine Za (ldr (efLd1 x)) ?_|refine Za (ldr (efLd6 x)) ?_|refine Za (ldr (Zq x)) ?_|refine Za (ldr (Yq x)) ?_|refine Za (Yf ..) ?_|refine Za (Zj ..) ?_|refine Za (ldr (row:=chkM m t) rfl) ?_|refine Za (Qj ..) ?_|refine Za rfl ?_
       exact kk _ (by simp)
     have a7:x.op≠7:=by simpa using a7
     repeat first|refine Za (ldr (efLd0 x)) ?_|refine Za (ldr (efLd1 x)) ?_|refine Za (ldr (efLd6 x)) ?_|refine Za (ldr (Zq x)) ?_|refine Za (ldr (Yq x)) ?_|refine Za (Yf ..) ?_|refine Za (Zj ..) ?_|refine Za (ldr (row:=chkM m t) rfl) ?_|refine Za (Qj ..) ?_|refine Za rfl ?_
     refine Zb (λa8=>?_) (λa8=>?_);rotate_left
     ·have a8:x.op≠8:=by simpa using a8
      refine stop ?_;rw[efArm,if_neg a1,if_neg a2,if_neg a3,if_neg a7,if_neg a8,Bool.and_false]
     have a8:x.op=8:=by simpa using a8
     have e:efArm cs t d x=(decide (x.who=0)&&(cnOk cs t x.c&&(lstOk cs t (d+1) x.thn&&lstOk cs t (d+1) x.els))):=by
      rw[efArm,if_neg a1,if_neg a2,if_neg a3,if_neg a7,if_pos a8]
     rw[e] at kk;have hw:IntKind.i64.wrap (d+1)=d+1:=wrapI (by omega) (by omega);cases z with
     |false=>
      repeat first|refine Ya ?_|refine Yb ?_|refine Xa rfl ?_|refine Ye rfl ?_|refine Qf rfl ?_|refine Yh rfl ?_|refine Za (ldr (efLd0 x)) ?_|refine Za (ldr (efLd1 x)) ?_|refine Za (ldr (efLd6 x)) ?_|refine Za (ldr (Zq x)) ?_|refine Za (ldr (Yq x)) ?_|refine Za (Yf ..) ?_|refine Za (Zj ..) ?_|refine Za (ldr (row:=chkM m t) rfl) ?_|refine Za (Qj ..) ?_|refine Za rfl ?_
      exact kk _ rfl
     |true=>
      repeat first|refine Ya ?_|refine Yb ?_|refine Za (ldr (efLd0 x)) ?_|refine Za (ldr (efLd1 x)) ?_|refine Za (ldr (efLd6 x)) ?_|refine Za (ldr (Zq x)) ?_|refine Za (ldr (Yq x)) ?_|refine Za (Yf ..) ?_|refine Za (Zj ..) ?_|refine Za (ldr (row:=chkM m t) rfl) ?_|refine Za (Qj ..) ?_|refine Za rfl ?_
      rcases YBE (decide (x.who=0)) with h3|h3
      rotate_left
      ·rw[h3] at kk ⊢;repeat first|refine Ya ?_|refine Yb ?_|refine Xa rfl ?_|refine Ye rfl ?_|refine Qf rfl ?_|refine Yh rfl ?_|refine Za (ldr (efLd0 x)) ?_|refine Za (ldr (efLd1 x)) ?_|refine Za (ldr (efLd6 x)) ?_|refine Za (ldr (Zq x)) ?_|refine Za (ldr (Yq x)) ?_|refine Za (Yf ..) ?_|refine Za (Zj ..) ?_|refine Za (ldr (row:=chkM m t) rfl) ?_|refine Za (Qj ..) ?_|refine Za rfl ?_
       exact kk _ (by simp)
      rw[h3] at kk ⊢;repeat first|refine Ya ?_|refine Yb ?_|refine Za (ldr (efLd0 x)) ?_|refine Za (ldr (efLd1 x)) ?_|refine Za (ldr (efLd6 x)) ?_|refine Za (ldr (Zq x)) ?_|refine Za (ldr (Yq x)) ?_|refine Za (Yf ..) ?_|refine Za (Zj ..) ?_|refine Za (ldr (row:=chkM m t) rfl) ?_|refine Za (Qj ..) ?_|refine Za rfl ?_
      refine Zc (c213 m cs hU t x.c _ _ (QdD x) (Xaq hfx)) rfl g93.ok.plain rfl ?_;repeat first|refine Ya ?_|refine Yb ?_|refine Za (ldr (efLd0 x)) ?_|refine Za (ldr (efLd1 x)) ?_|refine Za (ldr (efLd6 x)) ?_|refine Za (ldr (Zq x)) ?_|refine Za (ldr (Yq x)) ?_|refine Za (Yf ..) ?_|refine Za (Zj ..) ?_|refine Za (ldr (row:=chkM m t) rfl) ?_|refine Za (Qj ..) ?_|refine Za rfl ?_
      rcases YBE (cnOk cs t x.c) with h4|h4
      rotate_left
      ·rw[h4] at kk ⊢;repeat first|refine Ya ?_|refine Yb ?_|refine Xa rfl ?_|refine Ye rfl ?_|refine Qf rfl ?_|refine Yh rfl ?_|refine Za (ldr (efLd0 x)) ?_|refine Za (ldr (efLd1 x)) ?_|refine Za (ldr (efLd6 x)) ?_|refine Za (ldr (Zq x)) ?_|refine Za (ldr (Yq x)) ?_|refine Za (Yf ..) ?_|refine Za (Zj ..) ?_|refine Za (ldr (row:=chkM m t) rfl) ?_|refine Za (Qj ..) ?_|refine Za rfl ?_
       exact kk _ (by simp)
      rw[h4] at kk ⊢;repeat first|refine Ya ?_|refine Yb ?_|refine Za (ldr (efLd0 x)) ?_|refine Za (ldr (efLd1 x)) ?_|refine Za (ldr (efLd6 x)) ?_|refine Za (ldr (Zq x)) ?_|refine Za (ldr (Yq x)) ?_|refine Za (Yf ..) ?_|refine Za (Zj ..) ?_|refine Za (ldr (row:=chkM m t) rfl) ?_|refine Za (Qj ..) ?_|refine Za rfl ?_
      rw[hw];refine Zc (c157' m cs hU t k x.thn (d+1) (by omega) (Y0 hfx) (by omega)) rfl g69.ok.plain rfl ?_;repeat first|refine Ya ?_|refine Yb ?_|refine Za (ldr (efLd0 x)) ?_|refine Za (ldr (efLd1 x)) ?_|refine Za (ldr (efLd6 x)) ?_|refine Za (ldr (Zq x)) ?_|refine Za (ldr (Yq x)) ?_|refine Za (Yf ..) ?_|refine Za (Zj ..) ?_|refine Za (ldr (row:=chkM m t) rfl) ?_|refine Za (Qj ..) ?_|refine Za rfl ?_
      rcases YBE (lstOk cs t (d+1) x.thn) with h5|h5
      rotate_left
      ·rw[h5] at kk ⊢;repeat first|refine Ya ?_|refine Yb ?_|refine Xa rfl ?_|refine Ye rfl ?_|refine Qf rfl ?_|refine Yh rfl ?_|refine Za (ldr (efLd0 x)) ?_|refine Za (ldr (efLd1 x)) ?_|refine Za (ldr (efLd6 x)) ?_|refine Za (ldr (Zq x)) ?_|refine Za (ldr (Yq x)) ?_|refine Za (Yf ..) ?_|refine Za (Zj ..) ?_|refine Za (ldr (row:=chkM m t) rfl) ?_|refine Za (Qj ..) ?_|refine Za rfl ?_
       exact kk _ (by simp)
      rw[h5] at kk ⊢;repeat first|refine Ya ?_|refine Yb ?_|refine Za (ldr (efLd0 x)) ?_|refine Za (ldr (efLd1 x)) ?_|refine Za (ldr (efLd6 x)) ?_|refine Za (ldr (Zq x)) ?_|refine Za (ldr (Yq x)) ?_|refine Za (Yf ..) ?_|refine Za (Zj ..) ?_|refine Za (ldr (row:=chkM m t) rfl) ?_|refine Za (Qj ..) ?_|refine Za rfl ?_
      rw[hw];refine Zc (c157' m cs hU t k x.els (d+1) (by omega) (Z0 hfx) (by omega)) rfl g69.ok.plain rfl ?_;repeat first|refine Ya ?_|refine Yb ?_|refine Za (ldr (efLd0 x)) ?_|refine Za (ldr (efLd1 x)) ?_|refine Za (ldr (efLd6 x)) ?_|refine Za (ldr (Zq x)) ?_|refine Za (ldr (Yq x)) ?_|refine Za (Yf ..) ?_|refine Za (Zj ..) ?_|refine Za (ldr (row:=chkM m t) rfl) ?_|refine Za (Qj ..) ?_|refine Za rfl ?_
      exact kk _ (by simp)
    clear hk1;refine Zb (λc1=>m3 _ ?_) (λc1=>?_)
    ·simp at c1; simp[c1]
    refine Za (Yf ..) (m3 _ ?_);simp at c1; simp[c1]
   clear hk1;refine Zb (λc1=>m2 _ ?_) (λc1=>?_)
   ·simp at c1; simp[c1]
   refine Za (Yf ..) (Zb (λc2=>m2 _ ?_) (λc2=>?_))
   ·simp at c2; simp[c2]
   refine Za (Yf ..) (m2 _ ?_);simp at c1 c2; simp[c1,c2]
  clear hk1;refine Zb (λc1=>m1 _ ?_) (λc1=>?_)
  ·simp at c1; simp[c1]
  refine Za (Yf ..) (m1 _ ?_);simp at c1; simp[c1]
theorem c157(m:List (Tx×Bool))(cs:List Cd)(hU:Units m cs)(t:Bool)(l:List Ef)(d:Int)(hf:lsFit l=true)(hd:0≤d):PC 69 [.rptr (chkM m t) 0,efV l,iv d] (.bool (lstOk cs t d l)):=c157' m cs hU t _ l d (Nat.le_refl _) hf hd
end Go.Ah.Tz
end
section
namespace Go.Ah.Tz
open Go.Proofs.Tryz (prog)
attribute [local irreducible] Ans.rd Ans.pu Ans.wr Ans.dr Ans.gr Ans.gw Ans.gl Ans.gd Ans.opt joinK W
set_option maxHeartbeats 2000000
theorem c221(m:List (Tx×Bool))(cs:List Cd)(hU:Units m cs)(c:Cd)(hf:cdFit c=true)
 (h223:PC 67 [.str c.name] (.bool (nameOk c.name)))(h124:PC 68 [.agg (cdC c)] (iv (cdW c))) :
  PC 44 [.rptr (cdC c) 0,.rmap (mpE m)] (.bool (cdOk cs c)):=by
 simp only[cdFit,Bool.and_eq_true,decide_eq_true_eq] at hf;obtain⟨f0,f1,f2,f3⟩:=hf;have bad:cdOk cs c=false→AVal.bool false=AVal.bool (cdOk cs c):=λh=>by rw[h]
 refine Qb hP g44.ok rfl rfl ?_;rw[H2.e]; unfold g44; dsimp only;repeat first|refine Za (ldr (row:=cdC c) rfl) ?_|refine Za rfl ?_
 refine QP 7 ?_;refine Qk (Za rfl (Yd (Za rfl (Za rfl (QT rfl rfl (Zb (λh=>bad ?_) (λb1=>Za rfl ?_)))))))
 ·have:in999 c.cost=false:=by
   rw[Bool.eq_false_iff]; intro hh; simp[in999] at hh; simp at h; omega
  simp[cdOk,this]
 have b1:0≤c.cost∧c.cost≤999:=by simp at b1; omega
 refine Qk (Za rfl (Yd (Za rfl (Za rfl (QT rfl rfl (Zb (λh=>bad ?_) (λb2=>Za rfl ?_)))))))
 ·have:in999 c.power=false:=by
   rw[Bool.eq_false_iff]; intro hh; simp[in999] at hh; simp at h; omega
  simp[cdOk,this]
 have b2:0≤c.power∧c.power≤999:=by simp at b2; omega
 refine Qk (Za rfl (Yd (Za rfl (Za rfl (QT rfl rfl (Zb (λh=>bad ?_) (λb3=>Za rfl ?_)))))))
 ·have:in999 c.health=false:=by
   rw[Bool.eq_false_iff]; intro hh; simp[in999] at hh; simp at h; omega
  simp[cdOk,this]
 have b3:0≤c.health∧c.health≤999:=by simp at b3; omega
 refine Qk (Za rfl (Yd (Za rfl (Za rfl (QT rfl rfl (Zb (λh=>bad ?_) (λb4=>Za rfl ?_)))))))
 ·have:in999 c.shield=false:=by
   rw[Bool.eq_false_iff]; intro hh; simp[in999] at hh; simp at h; omega
  simp[cdOk,this]
 have b4:0≤c.shield∧c.shield≤999:=by simp at b4; omega
 refine Qk (Za rfl (Yd (Za rfl (Za rfl (QT rfl rfl (Zb (λh=>bad ?_) (λb5=>Za rfl ?_)))))))
 ·have:in999 c.aurap=false:=by
   rw[Bool.eq_false_iff]; intro hh; simp[in999] at hh; simp at h; omega
  simp[cdOk,this]
 have b5:0≤c.aurap∧c.aurap≤999:=by simp at b5; omega
 refine Qk (Za rfl (Yd (Za rfl (Za rfl (QT rfl rfl (Zb (λh=>bad ?_) (λb6=>Za rfl ?_)))))))
 ·have:in999 c.aurah=false:=by
   rw[Bool.eq_false_iff]; intro hh; simp[in999] at hh; simp at h; omega
  simp[cdOk,this]
 have b6:0≤c.aurah∧c.aurah≤999:=by simp at b6; omega
 refine Qk (Za rfl (Yc ?_));have hok:cdOk cs c=(nameOk c.name&&(decide (cdW c≤200)&&(cdSum c&&(lstOk cs true 1 c.played&&(lstOk cs false 1 c.dead&&lstOk cs false 1 c.dawn))))):=by
  have e1:in999 c.cost=true:=by simp[in999]; omega
  have e2:in999 c.power=true:=by simp[in999]; omega
  have e3:in999 c.health=true:=by simp[in999]; omega
  have e4:in999 c.shield=true:=by simp[in999]; omega
  have e5:in999 c.aurap=true:=by simp[in999]; omega
  have e6:in999 c.aurah=true:=by simp[in999]; omega
  simp only[cdOk,e1,e2,e3,e4,e5,e6,Bool.true_and];generalize decide (cdW c≤200)=w;cases w<;>simp
 rw[hok] at bad ⊢;clear hok;repeat first|refine Za (ldr (row:=cdC c) rfl) ?_|refine Za rfl ?_
 refine Zc h223 rfl g67.ok.plain rfl ?_;refine Za rfl ?_;refine Xj λk33 hk33=>?_;have kk1:(nameOk c.name&&(decide (cdW c≤200)&&(cdSum c&&(lstOk cs true 1 c.played&&(lstOk cs false 1 c.dead&&lstOk cs false 1 c.dawn)))))=false→k33 [.bool true] []:=by
  intro h;rw[hk33];exact Yd (bad h)
 have kk2:nameOk c.name=true→cdW c≤200→(c.unit=true→1≤c.health)→k33 [.bool false] []:=by
  intro n1 n2 n3;rw[hk33]; clear hk33 kk1 k33;rw[n1,decide_eq_true n2,Bool.true_and,Bool.true_and] at bad ⊢;refine Yc ?_;repeat first|refine Za (ldr (row:=cdC c) rfl) ?_|refine Za rfl ?_
  apply cutF (cdSum c=true)
  ·intro hR;cases hu:c.unit with
   |true=>
    repeat first|refine Ya ?_|refine Yb ?_|refine Xa rfl ?_|refine Ye rfl ?_|refine Qf rfl ?_|refine Yh rfl ?_|refine Za (ldr (row:=cdC c) rfl) ?_|refine Za rfl ?_
    refine Yc (hR ?_);simp[cdSum,hu,n3 hu]
   |false=>
    repeat first|refine Ya ?_|refine Yb ?_|refine Xa rfl ?_|refine Ye rfl ?_|refine Qf rfl ?_|refine Yh rfl ?_|refine Za (ldr (row:=cdC c) rfl) ?_|refine Za rfl ?_
    rw[wrapI (n:=c.power+c.health) (by omega) (by omega),wrapI (n:=c.power+c.health+c.shield) (by omega) (by omega),wrapI (n:=c.power+c.health+c.shield+c.aurap) (by omega) (by omega),wrapI (n:=c.power+c.health+c.shield+c.aurap+c.aurah) (by omega) (by omega)];rcases YBE (decide (c.power+c.health+c.shield+c.aurap+c.aurah>0)) with h|h
    ·rw[h];repeat first|refine Ya ?_|refine Yb ?_|refine Xa rfl ?_|refine Ye rfl ?_|refine Qf rfl ?_|refine Yh rfl ?_|refine Za (ldr (row:=cdC c) rfl) ?_|refine Za rfl ?_
     refine Yd (bad ?_);have h:¬(c.power+c.health+c.shield+c.aurap+c.aurah≤0):=by simp at h; omega
     simp[cdSum,hu,h]
    rw[h];repeat first|refine Ya ?_|refine Yb ?_|refine Za (ldr (row:=cdC c) rfl) ?_|refine Za rfl ?_
    have h:(c.power+c.health+c.shield+c.aurap+c.aurah≤0):=by simp at h; omega
    have l1:=YM f2;have l2:=YM f3;rw[bigE] at l1 l2;rw[List.length_map,List.length_map,wrapI (n:=(c.dead.length:Int)+(c.dawn.length:Int)) (by omega) (by omega)];refine Zb (λh2=>bad ?_) (λh2=>hR ?_)
    ·have h2:¬(c.dead.length+c.dawn.length=0):=by simp at h2; omega
     have:cdSum c=false:=by rw[cdSum,hu,decide_eq_false h2]; simp
     simp[this]
    ·have h2:(c.dead.length+c.dawn.length=0):=by simp at h2; omega
     rw[cdSum,hu,decide_eq_true h2,decide_eq_true h]; rfl
  intro b7;rw[b7,Bool.true_and];refine Za rfl (Qa rfl rfl (Za rfl (Za rfl (Za (ldr (row:=cdC c) rfl) ?_))));refine ZJ (c157 m cs hU true c.played 1 f1 (by omega)) rfl g69.ok.plain rfl rfl ?_;refine Za rfl (Zb (λp1=>?_) (λp1=>?_))
  ·have p1:lstOk cs true 1 c.played=false:=by simpa using p1
   rw[p1]; rfl
  have p1:lstOk cs true 1 c.played=true:=by simpa using p1
  rw[p1,Bool.true_and];refine Za rfl (Za rfl (Qa rfl rfl (Za rfl (Za rfl (Za (ldr (row:=cdC c) rfl) ?_)))));refine ZJ (c157 m cs hU false c.dead 1 f2 (by omega)) rfl g69.ok.plain rfl rfl ?_;rcases YBE (lstOk cs false 1 c.dead) with p2|p2
  rotate_left
  ·rw[p2];repeat first|refine Ya ?_|refine Yb ?_|refine Xa rfl ?_|refine Ye rfl ?_|refine Qf rfl ?_|refine Yh rfl ?_|refine Za (ldr (row:=cdC c) rfl) ?_|refine Za rfl ?_
   rfl
  rw[p2];repeat first|refine Ya ?_|refine Yb ?_|refine Za (ldr (row:=cdC c) rfl) ?_|refine Za rfl ?_
  refine ZJ (c157 m cs hU false c.dawn 1 f3 (by omega)) rfl g69.ok.plain rfl rfl ?_;repeat first|refine Ya ?_|refine Yb ?_|refine Za (ldr (row:=cdC c) rfl) ?_|refine Za rfl ?_
  rfl
 clear hk33 bad;refine Zb (λn1=>?_) (λn1=>?_)
 ·rw[n1];refine kk1 ?_;have n1:nameOk c.name=false:=by simpa using n1
  rw[n1]; rfl
 have n1:nameOk c.name=true:=by simpa using n1
 refine Za rfl (Za (ldr (cdLd c)) ?_);refine Zc h124 rfl g68.ok.plain rfl ?_;refine Za rfl (Zb (λn2=>?_) (λn2=>?_))
 ·rw[n2];refine kk1 ?_;have n2:¬cdW c≤200:=by simp at n2; omega
  rw[decide_eq_false n2]; simp
 have n2:cdW c≤200:=by simp at n2; omega
 repeat first|refine Za (ldr (row:=cdC c) rfl) ?_|refine Za rfl ?_
 cases hu:c.unit with
 |false=>
  repeat first|refine Ya ?_|refine Yb ?_|refine Xa rfl ?_|refine Ye rfl ?_|refine Qf rfl ?_|refine Yh rfl ?_|refine Za (ldr (row:=cdC c) rfl) ?_|refine Za rfl ?_
  exact kk2 n1 n2 (λh=>by rw[hu] at h; cases h)
 |true=>
  repeat first|refine Ya ?_|refine Yb ?_|refine Za (ldr (row:=cdC c) rfl) ?_|refine Za rfl ?_
  rcases YBE (decide (c.health<1)) with h|h
  ·rw[h];refine kk1 ?_;have:cdSum c=false:=by simp at h; simp[cdSum,hu]; omega
   rw[this]; simp
  ·rw[h];exact kk2 n1 n2 (λ_=>by simp at h; omega)
end Go.Ah.Tz
end
section
namespace Go.Ah.Tz
open Go.Proofs.Tryz (prog)
def tput(t:Tx)(v:Bool):List (Tx×Bool)→List (Tx×Bool)
 |[]=>[(t,v)]
 |p::l=>if t==p.1 then (t,v)::l else p::tput t v l
theorem YbY(t:Tx)(v:Bool):∀l,aput (.str t) (.bool v) (mpE l)=some (mpE (tput t v l))
 |[]=>rfl
 |p::l=>by
  simp only[mpE,List.map_cons,aput,keyEq,tput];cases h:t==p.1 with
  |true=>rfl
  |false=>
   have:=YbY t v l;simp only[mpE] at this;simp only[this]; rfl
theorem XX(t n:Tx)(v:Bool):∀l,tlook t (tput n v l)=if t==n then some v else tlook t l
 |[]=>by simp[tput,tlook]
 |p::l=>by
  simp only[tput];by_cases h:n==p.1
  ·have e:n=p.1:=by simpa using h
   rw[if_pos h,tlook,tlook,←e];by_cases h2:t==n<;>simp[h2]
  ·rw[if_neg h,tlook,tlook,XX t n v l];have e:n≠p.1:=by simpa using h
   by_cases h2:t==p.1
   ·have e2:t=p.1:=by simpa using h2
    have:¬(t==n)=true:=by simp[e2]; exact λh=>e h.symm
    rw[if_pos h2,if_neg this,if_pos h2]
   ·rw[if_neg h2];by_cases h3:t==n<;>simp[h3,h2]
theorem QaS:∀l,roES (mpE l)=true
 |[]=>rfl
 |p::l=>by
  have:=QaS l;simp only[mpE] at this;simp[mpE,roES,AVal.ro,this]
theorem Zcu{σ:List ABlk}{b:Nat}{l:List (Tx×Bool)}(h:hget σ b=.map (mpE l))(row:List AVal)(j:Nat):Zs σ 1000 [.rptr row j,.map b]=some ([.rptr row j,.rmap (mpE l)],[b]):=by
 show Zs σ (998+1+1) _=_;simp[Zs,h,QaS,AVal.ro]
theorem ZcC{σ:List ABlk}{b:Nat}{l:List (Tx×Bool)}(h:hget σ b=.map (mpE l))(t:Tx):Xu true true (.bool false) [.map b,.str t] σ=.ok (.tup [.bool ((tlook t l).getD false),.bool (tlook t l).isSome]) [b] []:=by
 simp only[Xu,Zab,mapOf,h,Yaf,cond_true];cases tlook t l<;>rfl
theorem Ybq{σ:List ABlk}{b:Nat}{l:List (Tx×Bool)}(h:hget σ b=.map (mpE l))(t:Tx):Xu true false (.bool false) [.map b,.str t] σ=.ok (.bool ((tlook t l).getD false)) [b] []:=by
 simp only[Xu,Zab,mapOf,h,Yaf,cond_true];cases tlook t l<;>rfl
theorem Qbd{σ:List ABlk}{b:Nat}{l:List (Tx×Bool)}(h:hget σ b=.map (mpE l))(t:Tx)(v:Bool):XA true [.map b,.str t,.bool v] σ=.ok .junk [] [(b,.map (mpE (tput t v l)))]:=by
 simp only[XA,Zab,h,YbY,cond_true]
def findO:List Cd→Tx→Option Bool
 |[],_=>none
 |c::l,t=>if c.name==t then some c.unit else findO l t
theorem YcG:∀ (l:List Cd) (t:Tx) (u:Bool),findC l t u=(match findO l t with
 |none=>false
 | some b=>b || !u)
 |[],_,_=>rfl
 |c::l,t,u=>by
  simp only[findC,findO];by_cases h:c.name==t
  ·rw[if_pos h,if_pos h]
  ·rw[if_neg h,if_neg h]; exact YcG l t u
theorem ZaE:∀ (l:List Cd) (c:Cd) (t:Tx),findO (l ++ [c]) t=(match findO l t with
 |some b=>some b
 | none=>if c.name == t then some c.unit else none)
 |[],_,_=>rfl
 |d::l,c,t=>by
  simp only[List.cons_append,findO];by_cases h:d.name==t
  ·rw[if_pos h,if_pos h]
  ·rw[if_neg h,if_neg h]; exact ZaE l c t
def UnitsO(m:List (Tx×Bool))(l:List Cd):Prop:=∀t,tlook t m=findO l t
theorem UnitsO.units{m:List (Tx×Bool)}{l:List Cd}(h:UnitsO m l):Units m l:=by
 intro t u; rw[YcG,h t]<;>cases findO l t<;>rfl
theorem UnitsO.old{m:List (Tx×Bool)}{l:List Cd}(h:UnitsO m l){c:Cd}(hc:(tlook c.name m).isSome=true):UnitsO m (l++[c]):=by
 intro t;rw[ZaE,←h t];cases e:tlook t m with
 |some b=>rfl
 |none=>
  by_cases h2:c.name==t
  ·have:c.name=t:=by simpa using h2
   rw[this,e] at hc; cases hc
  ·rw[if_neg h2]
theorem UnitsO.new{m:List (Tx×Bool)}{l:List Cd}(h:UnitsO m l){c:Cd}(hc:(tlook c.name m).isSome=false):UnitsO (tput c.name c.unit m) (l++[c]):=by
 intro t;rw[ZaE,←h t,XX];by_cases h2:t==c.name
 ·have e:t=c.name:=by simpa using h2
  subst e;cases e:tlook c.name m with
  |some b=>rw[e] at hc; cases hc
  |none=>simp
 ·have h3:¬(c.name==t)=true:=by
   intro h; apply h2; simp at h; simp[h]
  rw[if_neg h2,if_neg h3];cases tlook t m<;>rfl
def Seen(m:List (Tx×Bool))(l:List Cd):Prop:=∀t,(tlook t m).getD false=l.any λd=>d.name==t
theorem Seen.put{m:List (Tx×Bool)}{l:List Cd}(h:Seen m l)(c:Cd):Seen (tput c.name true m) (l++[c]):=by
 intro t;rw[XX,List.any_append,←h t];by_cases h2:t==c.name
 ·have e:t=c.name:=by simpa using h2
  simp[e]
 ·have h3:(c.name==t)=false:=by
   rw[Bool.eq_false_iff]; intro h; apply h2; simp at h; simp[h]
  rw[if_neg h2]; simp[h3]
theorem Xf{σ:List ABlk}{b:Nat}(x:ABlk)(h:b<σ.length):hget (σ.set b x) b=x:=Qo (by simp[h])
attribute [local irreducible] Ans.rd Ans.pu Ans.wr Ans.dr Ans.gr Ans.gw Ans.gl Ans.gd Ans.opt joinK W
set_option maxHeartbeats 1000000
theorem c180(cs:List Cd)(hf:QN cs=true)(h221:∀m,Units m cs→∀c∈cs,PC 44 [.rptr (cdC c) 0,.rmap (mpE m)] (.bool (cdOk cs c))) :
  PC 27 [cdV cs] (.agg [iv (QY cs).1,iv (QY cs).2]):=by
 simp only[QN,Bool.and_eq_true,decide_eq_true_eq] at hf;obtain⟨f0,f1⟩:=hf;rw[bigE] at f0;refine Qb hP g27.ok rfl rfl ?_;rw[H1.e]; unfold g27; dsimp only;refine Qa rfl rfl (Za rfl (Za rfl ?_));refine Zb (λh=>?_) (λh=>?_)
 ·have h:240<cs.length:=by simp at h; omega
  refine Za rfl (Qa rfl rfl (Yi rfl ?_));rw[QY,if_pos h]
 have h:¬240<cs.length:=by simp at h; omega
 rw[QY,if_neg h];refine Qa rfl rfl (Za rfl ?_);refine Xn (ι:=Nat) (λi vs σ=>∃m,vs=[iv i]∧hget σ 0=.box [iv 0,iv 0]∧hget σ 1=.map (mpE m)∧1<σ.length∧i≤cs.length∧UnitsO m (cs.take i)) (λi=>cs.length-i) 0 ⟨[],rfl,rfl,rfl,by simp,by omega,λt=>by simp[tlook,findO]⟩ ?_;rintro i vs σ again ⟨m,rfl,hz,hm,hln,hi,hu⟩ hag;refine Za rfl ?_;refine Zb (λh=>?_) (λh=>?_)
 ·have hil:i<cs.length:=by simpa using h
  have hix:=λ(s:List ABlk)=>Xw s cdC false false 12 cs .i64 i hil;have htk:cs.take (i+1)=cs.take i++[cs[i]]:=XI cs i hil;generalize cs[i]=c at hix htk;refine Xj λk10 hk10=>?_;have kk:∀m' σ',UnitsO m' (cs.take i++[c])→hget σ' 0=.box [iv 0,iv 0]→hget σ' 1=.map (mpE m')→1<σ'.length→k10 [] σ':=by
   intro m' σ' q1 q2 q3 q4;rw[hk10];refine Za (Zl ..) ?_;rw[Zg (n:=i) (by omega)];exact hag (i+1) _ _ (by omega) ⟨m',rfl,q2,q3,q4,by omega,by rw[htk]; exact q1⟩
  clear hk10 hag;refine Za (hix _) (Za (ldr (cdLd _)) (XG (row:=cdC c) (row':=cdC c) rfl rfl rfl ?_));have hB0:=Zf σ (ABlk.box (cdC c));have hz':hget (σ++[ABlk.box (cdC c)]) 0=.box [iv 0,iv 0]:=Ze _ hz (by simp);have hm':hget (σ++[ABlk.box (cdC c)]) 1=.map (mpE m):=Ze _ hm (by simp);have hl':1<(σ++[ABlk.box (cdC c)]).length:=by simp; omega
  generalize σ++[ABlk.box (cdC c)]=base at hB0 hz' hm' hl' ⊢;generalize σ.length=b at hB0 ⊢;refine Za rfl (Za (ld hB0 rfl) (Za (ZcC hm' _) (Za rfl (Za rfl (Za rfl ?_)))));refine Zb (λh=>?_) (λh=>?_)
  ·have h:(tlook c.name m).isSome=false:=by simpa using h
   refine Za rfl (Za (ld hB0 rfl) (Za rfl (Za (ld hB0 rfl) (Qa (Qbd hm' _ _) (Qi _ hl') ?_))));exact kk _ _ (hu.new h) (Qe hz' (by simp) (by omega)) (Xf _ hl') (by simpa using hl')
  ·have h:(tlook c.name m).isSome=true:=by simpa using h
   exact kk _ _ (hu.old h) hz' hm' hl'
 have h:i=cs.length:=by simp at h; omega
 subst h;rw[List.take_length] at hu;have hmay:=h221 m hu.units;clear hag hu h221;refine Qa rfl (Yk _ _) (Za rfl ?_);have hz':hget (σ++[ABlk.map []]) 0=.box [iv 0,iv 0]:=Ze _ hz (by simp);have hm':hget (σ++[ABlk.map []]) 1=.map (mpE m):=Ze _ hm (by simp);have hs':hget (σ++[ABlk.map []]) σ.length=.map (mpE []):=Zf _ _;have hl':σ.length<(σ++[ABlk.map []]).length:=by simp
 generalize σ++[ABlk.map []]=base at hz' hm' hs' hl' ⊢;generalize σ.length=b at hs' hl' hln ⊢;refine Xn (ι:=Nat) (λi vs s=>∃m2,vs=[iv i]∧hget s 0=.box [iv 0,iv 0]∧hget s 1=.map (mpE m)∧hget s b=.map (mpE m2)∧b<s.length∧i≤cs.length∧Seen m2 (cs.take i)∧cdsGo cs [] cs=cdsGo cs (cs.take i) (cs.drop i)) (λi=>cs.length-i) 0 ⟨[],rfl,hz',hm',hs',hl',by omega,λt=>by simp[tlook],by simp⟩ ?_;clear hz' hm' hs' hl' base hz hm σ;rintro i vs s again ⟨m2,rfl,hz,hm,hs,hl,hi,hse,hu⟩ hag;refine Za rfl ?_;refine Zb (λh=>?_) (λh=>?_);rotate_left
 ·have h:i=cs.length:=by simp at h; omega
  subst h;rw[List.drop_length,cdsGo] at hu;refine Za rfl (Qa (stv hz rfl rfl rfl) (Qi _ (by show 0<s.length; omega)) (Yi (YH (by show 0<s.length; omega) rfl) ?_));rw[hu]
 have hil:i<cs.length:=by simpa using h
 have hdr:cs.drop i=cs[i]::cs.drop (i+1):=by rw[YLD hil]
 have hix:=λ(s:List ABlk)=>Xw s cdC false false 12 cs .i64 i hil;have htk:cs.take (i+1)=cs.take i++[cs[i]]:=XI cs i hil;have hmy:=hmay _ (List.getElem_mem hil);generalize cs[i]=c at hix htk hdr hmy;rw[hdr,cdsGo,←hse c.name] at hu;refine Za (hix _) (Za rfl (Za rfl (Za (ldr (cdLd0 _)) (Za (Ybq hs _) ?_))));refine Zb (λh=>?_) (λh=>?_)
 ·rw[if_pos h] at hu;refine Za rfl (Za rfl (Za (ldr (Yde _)) (Za rfl (Qa (stv hz rfl rfl rfl) (Qi _ (by show 0<s.length; omega)) (Yi (YH (by show 0<s.length; omega) rfl) ?_)))));rw[hu]
 rw[if_neg (by rw[h]; simp)] at hu;refine ZJ hmy rfl g44.ok.plain (Zcu hm _ _) rfl ?_;refine Za rfl ?_;refine Zb (λh=>?_) (λh=>?_)
 ·have h:cdOk cs c=false:=by simpa using h
  rw[h] at hu
  replace hu:cdsGo cs [] cs=(130,c.pl):=hu
  refine Za rfl (Za rfl (Za (ldr (Yde _)) (Za rfl (Qa (stv hz rfl rfl rfl) (Qi _ (by show 0<s.length; omega)) (Yi (YH (by show 0<s.length; omega) rfl) ?_)))));rw[hu]
 ·have h:cdOk cs c=true:=by simpa using h
  rw[h,if_pos rfl] at hu;refine Za rfl (Za rfl (Za (ldr (cdLd0 _)) (Qa (Qbd hs _ _) (Qi _ hl) (Za (Zl ..) ?_))));rw[Zg (n:=i) (by omega)];refine hag (i+1) _ _ (by omega) ⟨_,rfl,?_,?_,Xf _ hl,by simpa using hl,by omega,by rw[htk]; exact hse.put c,by rw[htk]; exact hu⟩
  ·exact Qe hz (by simp) (by omega)
  ·exact Qe hm (by simp) (by omega)
end Go.Ah.Tz
end
section
namespace Go.Ah
inductive GT:Type 1 where
 |leaf
 |node (k np:Nat) (g:GFun) (l r:GT)
def GT.get:GT→Nat→Option (Nat×GFun)
 |.leaf,_=>none
 |.node k np g l r,f=>match Nat.beq f k with
  |true=>some (np,g)
  |false=>match Nat.blt f k with
   |true=>l.get f
   |false=>r.get f
def GT.Ok(P:Program)(GL:Globs):GT→Prop
 |.leaf=>True
 |.node k np g l r=>GOk P GL k np g∧l.Ok P GL∧r.Ok P GL
theorem GT.get_ok{P:Program}{GL:Globs}:∀ {t:GT},t.Ok P GL→∀f np g,t.get f=some (np,g)→GOk P GL f np g
 |.leaf,_,f,np,g,h=>by simp only[GT.get] at h; cases h
 |.node k np' g' l r,ok,f,np,g,h=>by
  unfold GT.get at h;obtain⟨o1,o2,o3⟩:=ok;split at h
  ·rename_i hb;have:=YNB hb;subst this;cases h;exact o1
  ·split at h
   ·exact GT.get_ok o2 f np g h
   ·exact GT.get_ok o3 f np g h
end Go.Ah
end
section
namespace Go.Ah.Tz
open Go.Proofs.Tryz (prog)
set_option maxRecDepth 100000
noncomputable def tb:GT:=(.node 128 2 g128.u (.node 126 2 g126.u (.node 122 1 g122.u .leaf .leaf) (.node 127 1 g127.u .leaf .leaf)) (.node 130 2 g130.u (.node 129 2 g129.u .leaf .leaf) .leaf))
theorem tb_ok:tb.Ok prog GL0:=⟨g128.ok,⟨g126.ok,⟨g122.ok,trivial,trivial⟩,⟨g127.ok,trivial,trivial⟩⟩,⟨g130.ok,⟨g129.ok,trivial,trivial⟩,trivial⟩⟩
end Go.Ah.Tz
end
section
namespace Go.Ah.Tz
open Go.Proofs.Tryz (prog)
set_option maxRecDepth 1000000
theorem hTm:∀f np g,tb.get f=some (np,g)→GQ f np g:=GT.get_ok tb_ok
def ownTx:Tx:=[99,97,114,100,32,117,110,105,116,32,99,104,97,114,109,32,102,111,114,109,97,116,32,112,108,97,121,101,100,32,100,101,97,100,32,100,97,119,110,32,97,117,114,97,32,115,104,105,101,108,100,32,104,97,114,109,32,109,101,110,100,32,100,114,97,119,32,103,97,105,110,32,100,114,111,112,32,108,111,111,107,32,115,104,111,119,32,115,117,109,109,111,110,32,105,102,32,101,108,115,101,32,109,101,32,102,111,101,32,116,97,114,103,101,116,32,108,105,102,101,32,104,97,110,100,32,100,101,99,107,32,117,110,105,116,115,32,109,97,110,97,32,99,111,115,116,32,116,111,112,32,112,111,119,101,114,32,109,105,110,32,109,97,120,32,110,111,116,32,97,110,100,32,111,114,32,104,111,108,100,115,32,108,101,97,115,116,32,109,111,115,116,32,99,111,112,105,101,115,32,98,97,110,110,101,100,32,115,105,110,103,108,101]
theorem p264:PC 122 [.str ownTx] (.rsl true false 1 (keysR.map txC)):=Y9 hP hTm (much:=1000000000) 60 (by kernel_rfl)
def ownM:List (Tx×Bool):=keysR.foldl (λm k=>tput k true m) []
theorem Ybm(t:Tx):∀(l:List Tx) (m:List (Tx×Bool)),(tlook t (l.foldl (λm k=>tput k true m) m)).getD false=((tlook t m).getD false||ownIn l t)
 |[],m=>by simp[ownIn]
 |k::l,m=>by
  rw[List.foldl_cons,Ybm t l,XX,ownIn];by_cases h:t==k
  ·have e:t=k:=by simpa using h
   subst e; simp
  ·have h2:(k==t)=false:=by
    rw[Bool.eq_false_iff]; intro q; apply h; simp at q; simp[q]
   rw[if_neg h,h2,Bool.false_or]
theorem Zdr(t:Tx):(tlook t ownM).getD false=ownIn keysR t:=by
 rw[ownM,Ybm]; rfl
attribute [local irreducible] Ans.rd Ans.pu Ans.wr Ans.dr Ans.gr Ans.gw Ans.gl Ans.gd Ans.opt joinK W
theorem c258:PC 107 [] (.rmap (mpE ownM)):=by
 refine ZbH hP g107.ok rfl ⟨.map 0,[.map (mpE ownM)],?_,?_⟩
 ·show (match Zs [.map (mpE ownM)] (998 + 1 + 1) [.map 0] with
   |some ([y],_)=>some y
   | _=>none)=_
  have:hget [ABlk.map (mpE ownM)] 0=.map (mpE ownM):=rfl;simp only[Zs,this,QaS,cond_true]
 unfold g107; dsimp only[H0.u];refine Qa rfl rfl ?_;refine Zc p264 rfl g122.ok.plain rfl ?_;refine Za rfl ?_;have hlen:keysR.length=41:=rfl;unfold ownM;generalize keysR=l at hlen ⊢;refine Xn (ι:=Nat) (λi vs σ=>∃m,vs=[iv i]∧σ=[.map (mpE m)]∧i≤l.length∧l.foldl (λm k=>tput k true m) []=(l.drop i).foldl (λm k=>tput k true m) m) (λi=>l.length-i) 0 ⟨[],rfl,rfl,by omega,by simp⟩ ?_;rintro i vs σ again ⟨m,rfl,rfl,hi,hu⟩ hag;refine Za rfl ?_;refine Zb (λh=>?_) (λh=>?_)
 ·have h:i<l.length:=by simpa using h
  have hdr:l.drop i=l[i]::l.drop (i+1):=by rw[YLD h]
  rw[hdr,List.foldl_cons] at hu;refine Za (Xw _ txC _ _ _ l .i64 i h) (Za (ldr (txLd _)) (Qa (Qbd (b:=0) rfl _ _) rfl (Za (Zl ..) ?_)));rw[Zg (n:=i) (by omega)];exact hag (i+1) _ _ (by omega) ⟨_,rfl,rfl,by omega,hu⟩
 ·have h:i=l.length:=by simp at h; omega
  subst h;rw[List.drop_length,List.foldl_nil] at hu;rw[hu]; exact⟨rfl,rfl⟩
theorem c242(s:Tx):PC 86 [.str s] (.bool (ownIn keysR s)):=by
 refine Qb hP g86.ok rfl rfl ?_;rw[H1.e]; unfold g86; dsimp only;refine Zc c258 rfl g107.ok.plain rfl ?_;refine Za (Qj ..) ?_;rw[Zdr]
end Go.Ah.Tz
end
section
namespace Go.Ah.Tz
open Go.Proofs.Tryz (prog)
attribute [local irreducible] Ans.rd Ans.pu Ans.wr Ans.dr Ans.gr Ans.gw Ans.gl Ans.gd Ans.opt joinK W
theorem c257(x:Int):PC 106 [.int .i32 x] (.bool (isDig x)):=by
 refine Qb hP g106.ok rfl rfl ?_;rw[H1.e]; unfold g106; dsimp only;refine Za rfl (XaT rfl rfl ?_);exact congrArg AVal.bool (by rw[Bool.eq_iff_iff]; simp[isDig])
theorem c256(x:Int):PC 105 [.int .i32 x] (.bool (isLet x)):=by
 refine Qb hP g105.ok rfl rfl ?_;rw[H1.e]; unfold g105; dsimp only;refine Za rfl (XaT rfl rfl ?_);refine Xj λk1 hk1=>?_;have kk:∀c,c=decide ((97≤x∧x≤122)∨(65≤x∧x≤90))→k1 [.bool c] []:=by
  rintro c hc;rw[hk1]; clear hk1 k1;refine Zb (λh=>?_) (λh=>?_)
  ·rw[h] at hc;have hc:(97≤x∧x≤122)∨(65≤x∧x≤90):=by simpa using hc.symm
   exact congrArg AVal.bool (by rw[eq_comm,isLet,decide_eq_true_eq]; omega)
  rw[h] at hc;have hc:¬((97≤x∧x≤122)∨(65≤x∧x≤90)):=of_decide_eq_false hc.symm;refine Za (Yf ..) ?_;refine Xj λk1 hk1=>?_;have k2:∀c,c=decide (x=215∨x=247)→k1 [.bool c] []:=by
   rintro c hc2;rw[hk1]; clear hk1 k1;refine Zb (λh=>?_) (λh=>?_)
   ·rw[h] at hc2;have hc2:x=215∨x=247:=of_decide_eq_true hc2.symm;exact congrArg AVal.bool (by rw[eq_comm,isLet,decide_eq_false_iff_not]; omega)
   rw[h] at hc2;have hc2:¬(x=215∨x=247):=of_decide_eq_false hc2.symm;refine Za rfl (XaT rfl rfl ?_);exact congrArg AVal.bool (by rw[Bool.eq_iff_iff,Bool.and_eq_true,isLet,decide_eq_true_eq,decide_eq_true_eq,decide_eq_true_eq]; omega)
  clear hk1;refine Zb (λh=>k2 _ ?_) (λh=>?_)
  ·rw[h]; rw[eq_comm,decide_eq_true_eq]; exact Or.inl (of_decide_eq_true h)
  ·have h:x≠215:=of_decide_eq_false h;refine Za (Yf ..) (k2 _ ?_);rw[Bool.eq_iff_iff,decide_eq_true_eq,decide_eq_true_eq]; omega
 clear hk1;refine Zb (λh=>kk _ ?_) (λh=>?_)
 ·rw[h]; rw[eq_comm,decide_eq_true_eq]; simp at h; omega
 ·refine Za rfl (XaT rfl rfl (kk _ ?_));rw[Bool.eq_iff_iff,Bool.and_eq_true,decide_eq_true_eq,decide_eq_true_eq,decide_eq_true_eq]; simp at h; omega
end Go.Ah.Tz
end
section
namespace Go.Ah.Tz
theorem all256{p:Nat→Bool}(h:(List.range 256).all p=true){c:Nat}(hc:c<256):p c=true:=List.all_eq_true.1 h c (List.mem_range.2 hc)
theorem and31{c:Nat}(hc:c<256):bits .and .i64 (c:Int) 31=((c%32:Nat):Int):=by
 have:=all256 (p:=λc=>bits .and .i64 (c:Int) 31==((c%32:Nat):Int)) (by kernel_rfl) hc;simpa using this
theorem and15{c:Nat}(hc:c<256):bits .and .i64 (c:Int) 15=((c%16:Nat):Int):=by
 have:=all256 (p:=λc=>bits .and .i64 (c:Int) 15==((c%16:Nat):Int)) (by kernel_rfl) hc;simpa using this
theorem and7{c:Nat}(hc:c<256):bits .and .i64 (c:Int) 7=((c%8:Nat):Int):=by
 have:=all256 (p:=λc=>bits .and .i64 (c:Int) 7==((c%8:Nat):Int)) (by kernel_rfl) hc;simpa using this
theorem and63{c:Nat}(hc:c<256):bits .and .u8 (c:Int) 63=((c%64:Nat):Int):=by
 have:=all256 (p:=λc=>bits .and .u8 (c:Int) 63==((c%64:Nat):Int)) (by kernel_rfl) hc;simpa using this
theorem and192{c:Nat}(hc:c<256):(bits .and .u8 (c:Int) 192 != 128) = !(c/64==2):=by
 have:=all256 (p:=λc=>(bits .and .u8 (c:Int) 192 != 128) == !(c/64==2)) (by kernel_rfl) hc;simpa using this
theorem Qc8(c:UInt8):rCont c = !(c.toNat/64==2):=and192 c.toNat_lt
theorem or64(q y:Nat)(hq:q<1099511627776)(hy:y<64):bits .or .i64 ((q*64:Nat):Int) (y:Int)=((q*64+y:Nat):Int):=by
 have h1:(BitVec.ofInt 64 ((q*64:Nat):Int)).toNat=q*64:=by
  rw[BitVec.toNat_ofInt]; omega
 have h2:(BitVec.ofInt 64 (y:Int)).toNat=y:=by
  rw[BitVec.toNat_ofInt]; omega
 have h3:q*64 ||| y=q*64+y:=by
  have:=Nat.two_pow_add_eq_or_of_lt (i:=6) (b:=y) (by omega) q;rw[show 2 ^ 6*q=q*64 by omega] at this;exact this.symm
 show IntKind.i64.wrap (((BitVec.ofInt 64 ((q*64:Nat):Int)) ||| (BitVec.ofInt 64 (y:Int))).toNat:Int)=_;rw[BitVec.toNat_or,h1,h2,h3];exact wrapI (by omega) (by omega)
theorem Zc9(x:Nat)(hx:x<1099511627776)(c:UInt8):rStep (x:Int) c=((x*64+c.toNat%64:Nat):Int):=by
 have e:shl6 (x:Int)=((x*64:Nat):Int):=by
  show IntKind.i64.wrap ((x:Int)*64)=_;rw[wrapI (by omega) (by omega)]; simp
 rw[rStep,e,and63 c.toNat_lt,wrapI (by omega) (by omega)];exact or64 x _ hx (Nat.mod_lt _ (by omega))
theorem Xcz(s:Tx)(a:Nat)(ha:a<s.length) :
  (((runeR s a).2≠0→((Utf8.decode ⟨s.toArray⟩ a).1:Int)=(runeR s a).1∧(Utf8.decode ⟨s.toArray⟩ a).2=(runeR s a).2)∧((runeR s a).2=0→(Utf8.decode ⟨s.toArray⟩ a).1=65533)):=by
 have hat:∀k,((⟨s.toArray⟩:ByteArray).get! (a+k))=(s[a+k]?).getD 0:=by
  intro k;show (s.toArray)[a+k]! = _;simp[List.getElem!_eq_getElem?_getD];rfl
 have hsz:(⟨s.toArray⟩:ByteArray).size=s.length:=by simp[ByteArray.size]
 rw[runeR,List.getElem?_eq_getElem ha];unfold Utf8.decode;simp only[hat,hsz];have h0:(s[a+0]?).getD 0=s[a]:=by simp[List.getElem?_eq_getElem ha]
 rw[h0];have hb:s[a].toNat<256:=s[a].toNat_lt;generalize s[a].toNat=b at hb ⊢;have hcn:∀k,¬a+k<s.length→s[a+k]?=none:=λk h=>by simp; omega
 have ht:∀(i x:Nat),x<1000000→∀m,rTail s a (m+1) i (x:Int)=if a+i<s.length∧((s[a+i]?).getD 0).toNat/64=2 then rTail s a m (i+1) ((x*64+((s[a+i]?).getD 0).toNat%64:Nat):Int) else none:=by
  intro i x hx m;by_cases h:a+i<s.length
  ·rw[rTail,List.getElem?_eq_getElem h];simp only[Qc8,Option.getD_some,h,true_and];by_cases h2:s[a+i].toNat/64=2
   ·simp[h2,Zc9 x (by omega)]
   ·simp[h2]
  ·rw[rTail,hcn i h]; simp[h]
 have hcd:∀k,(decide (a+k<s.length)&&(((s[a+k]?).getD 0).toNat/64==2))=decide (a+k<s.length∧((s[a+k]?).getD 0).toNat/64=2):=by
  intro k; rw[Bool.eq_iff_iff]; simp
 simp only[hcd];have t1:=λx hx m=>ht 1 x hx m;have t2:=λx hx m=>ht 2 x hx m;have t3:=λx hx m=>ht 3 x hx m;clear ht hcd hcn hat hsz h0;generalize ((s[a+1]?).getD 0).toNat=d1 at *;generalize ((s[a+2]?).getD 0).toNat=d2 at *;generalize ((s[a+3]?).getD 0).toNat=d3 at *;by_cases c1:b<128
 ·have hh:rHead (b:Int)=some (1,(b:Int),0):=by
   rw[rHead,if_neg (by omega),if_neg (by omega),if_neg (by omega),if_neg (by omega)]
  simp only[hh,if_pos c1,Nat.sub_self,rTail,rEnd];rw[if_neg (by omega)]; simp
 rw[if_neg c1];by_cases c2:b<192
 ·have hh:rHead (b:Int)=none:=by
   rw[rHead,if_neg (by omega),if_neg (by omega),if_neg (by omega),if_pos (by omega)]
  simp only[hh];have e1:¬b/32=6:=by omega
  have e2:¬b/16=14:=by omega
  have e3:¬b/8=30:=by omega
  simp[e1,e2,e3,Utf8.runeError]
 by_cases c3:b<224
 ·have hh:rHead (b:Int)=some (2,((b%32:Nat):Int),128):=by
   rw[rHead,if_pos (by omega),and31 hb]
  have e1:b/32=6:=by omega
  have e2:¬b/16=14:=by omega
  have e3:¬b/8=30:=by omega
  simp only[hh];rw[t1 _ (by omega) 0];by_cases p1:a+1<s.length∧d1/64=2
  ·simp only[if_pos p1,rTail,rEnd,e1,decide_eq_true p1,beq_self_eq_true,Bool.and_self,if_true];by_cases y:b%32*64+d1%64 ≥ 128
   ·rw[if_pos y,if_neg (by omega)]; simp
   ·rw[if_neg y,if_pos (by omega)]; simp[Utf8.runeError]
  ·simp only[if_neg p1,rEnd,decide_eq_false p1,Bool.and_false,Bool.false_and,Bool.false_eq_true,if_false];simp[Utf8.runeError]
 by_cases c4:b<240
 ·have hh:rHead (b:Int)=some (3,((b%16:Nat):Int),2048):=by
   rw[rHead,if_neg (by omega),if_pos (by omega),and15 hb]
  have e1:¬b/32=6:=by omega
  have e2:b/16=14:=by omega
  have e3:¬b/8=30:=by omega
  simp only[hh];rw[t1 _ (by omega) 1];have f1:(b/32==6)=false:=by simpa using e1
  by_cases p1:a+1<s.length∧d1/64=2
  ·rw[if_pos p1,t2 _ (by omega) 0];by_cases p2:a+2<s.length∧d2/64=2
   ·simp only[if_pos p2,rTail,rEnd,f1,e2,decide_eq_true p1,decide_eq_true p2,beq_self_eq_true,Bool.and_self,if_true,Bool.false_and,Bool.false_eq_true,if_false];by_cases y:(b%16*64+d1%64)*64+d2%64<2048∨(55296≤(b%16*64+d1%64)*64+d2%64∧(b%16*64+d1%64)*64+d2%64≤57343)
    ·rw[if_pos (by omega),if_neg (by simp[Utf8.valid]; omega)]; simp[Utf8.runeError]
    ·rw[if_neg (by omega),if_pos (by simp[Utf8.valid]; omega)]; simp; omega
   ·simp only[if_neg p2,rEnd,f1,decide_eq_false p2,Bool.and_false,Bool.false_and,Bool.false_eq_true,if_false];simp[Utf8.runeError]
  ·simp only[if_neg p1,rEnd,f1,decide_eq_false p1,Bool.and_false,Bool.false_and,Bool.false_eq_true,if_false];simp[Utf8.runeError]
 by_cases c5:b<248
 ·have hh:rHead (b:Int)=some (4,((b%8:Nat):Int),65536):=by
   rw[rHead,if_neg (by omega),if_neg (by omega),if_pos (by omega),and7 hb]
  have e3:b/8=30:=by omega
  have f1:(b/32==6)=false:=by simp; omega
  have f2:(b/16==14)=false:=by simp; omega
  simp only[hh];rw[t1 _ (by omega) 2];by_cases p1:a+1<s.length∧d1/64=2
  ·rw[if_pos p1,t2 _ (by omega) 1];by_cases p2:a+2<s.length∧d2/64=2
   ·rw[if_pos p2,t3 _ (by omega) 0];by_cases p3:a+3<s.length∧d3/64=2
    ·simp only[if_pos p3,rTail,rEnd,f1,f2,e3,decide_eq_true p1,decide_eq_true p2,decide_eq_true p3,beq_self_eq_true,Bool.and_self,if_true,Bool.false_and,Bool.false_eq_true,if_false];by_cases y:((b%8*64+d1%64)*64+d2%64)*64+d3%64<65536∨1114111<((b%8*64+d1%64)*64+d2%64)*64+d3%64
     ·rw[if_pos (by omega),if_neg (by simp[Utf8.valid]; omega)]; simp[Utf8.runeError]
     ·rw[if_neg (by omega),if_pos (by simp[Utf8.valid]; omega)]; simp; omega
    ·simp only[if_neg p3,rEnd,f1,f2,decide_eq_false p3,Bool.and_false,Bool.false_and,Bool.false_eq_true,if_false];simp[Utf8.runeError]
   ·simp only[if_neg p2,rEnd,f1,f2,decide_eq_false p2,Bool.and_false,Bool.false_and,Bool.false_eq_true,if_false];simp[Utf8.runeError]
  ·simp only[if_neg p1,rEnd,f1,f2,decide_eq_false p1,Bool.and_false,Bool.false_and,Bool.false_eq_true,if_false];simp[Utf8.runeError]
 ·have hh:rHead (b:Int)=none:=by
   rw[rHead,if_neg (by omega),if_neg (by omega),if_neg (by omega),if_pos (by omega)]
  simp only[hh];have e1:¬b/32=6:=by omega
  have e2:¬b/16=14:=by omega
  have e3:¬b/8=30:=by omega
  simp[e1,e2,e3,Utf8.runeError]
end Go.Ah.Tz
end
section
namespace Go.Ah.Tz
open Go.Proofs.Tryz (prog)
theorem Xb8(s:Tx)(a:Nat):∀(m i:Nat) (x y:Int),rTail s a (m+1) i x=some y→a+i+m<s.length
 |m,i,x,y,h=>by
  rw[rTail] at h;cases e:s[a+i]? with
  |none=>rw[e] at h; cases h
  |some c=>
   have hl:a+i<s.length:=(YLG e).1;rw[e] at h;cases m with
   |zero=>omega
   |succ m=>
    have h2:(if rCont c=true then none else rTail s a (m+1) (i+1) (rStep x c))=some y:=h;split at h2
    ·cases h2
    ·have:=Xb8 s a m (i+1) _ _ h2;omega
theorem Xc9(s:Tx)(a:Nat)(ha:a<s.length)(h:(runeR s a).2≠0):a+(runeR s a).2≤s.length:=by
 unfold runeR at h ⊢;rw[List.getElem?_eq_getElem ha] at h ⊢;simp only at h ⊢;cases e:rHead (s[a].toNat:Int) with
 |none=>rw[e] at h; simp at h
 |some p=>
  obtain⟨n,x,least⟩:=p;rw[e] at h;simp only at h ⊢;cases e2:rTail s a (n-1) 1 x with
  |none=>rw[e2] at h; simp[rEnd] at h
  |some y=>
   rw[e2] at h;have h3:(rEnd n least (some y)).2≤n:=by rw[rEnd]; split<;>simp
   by_cases hn:n≤1
   ·omega
   ·have:=Xb8 s a (n-2) 1 x y (by rw[show n-2+1=n-1 by omega]; exact e2);omega
attribute [local irreducible] Ans.rd Ans.pu Ans.wr Ans.dr Ans.gr Ans.gw Ans.gl Ans.gd Ans.opt joinK W
set_option maxHeartbeats 1000000
theorem YdD{s:Tx}{a:Nat}(h:a<s.length):Xad [.iter 0] [.siter s a]=.ok (.tup [.bool true,iv a,.int .i32 (Utf8.decode ⟨s.toArray⟩ a).1]) [] [(0,.siter s (a+(Utf8.decode ⟨s.toArray⟩ a).2))]:=by
 have hb:Nat.blt a s.length=true:=by simpa[Nat.blt_eq] using h
 show (bif Nat.blt a s.length then _ else _)=_;rw[hb]; rfl
theorem Zdn{s:Tx}{a:Nat}(h:¬a<s.length):Xad [.iter 0] [.siter s a]=.ok (.tup [.bool false]) [0] []:=by
 have hb:Nat.blt a s.length=false:=by rw[Bool.eq_false_iff]; intro q; exact h (by simpa[Nat.blt_eq] using q)
 show (bif Nat.blt a s.length then _ else _)=_;rw[hb]; rfl
theorem c241(s:Tx)(hs:s.length≤big):PC 85 [.str s] (.tup [iv (nameR s 0 0).1,iv (nameR s 0 0).2]):=by
 rw[bigE] at hs;refine Qb hP g85.ok rfl rfl ?_;rw[H1.e]; unfold g85; dsimp only;refine Qa rfl rfl ?_;refine Xn (ι:=Nat) (λa vs σ=>∃n:Nat,vs=[iv n]∧σ=[.siter s a]∧n≤a∧(a=0↔n=0)∧a≤s.length∧nameR s 0 0=nameR s a n) (λa=>s.length-a) 0 ⟨0,rfl,rfl,by omega,by simp,by omega,rfl⟩ ?_;rintro a vs σ again ⟨n,rfl,rfl,i1,i0,i2,hu⟩ hag;by_cases h:a<s.length;rotate_left
 ·refine Qa (Zdn h) rfl (Za rfl (Yc (Za rfl ?_)));rw[show nameR s a n=(a,n) by rw[nameR,dif_neg h]] at hu;rw[hu,show s.length=a by omega]; rfl
 refine Qa (YdD h) rfl (Za rfl (Yd (Za rfl (Za rfl ?_))));obtain⟨d1,d2⟩:=Xcz s a h;have hin:=Xc9 s a h;generalize Utf8.decode ⟨s.toArray⟩ a=p at d1 d2 ⊢;have hst:ZbG s a n↔(isLet (p.1:Int)=false∧(a=0∨(isDig (p.1:Int)=false∧(p.1:Int)≠39))):=by
  unfold ZbG;by_cases h0:(runeR s a).2=0
  ·have:=d2 h0;rw[this];have e1:isLet 65533=false:=by decide
   have e2:isDig 65533=false:=by decide
   simp[h0,e1,e2]
  ·rw[(d1 h0).1];simp[h0,i0]
 have stp:(isLet (p.1:Int)=false∧(a=0∨(isDig (p.1:Int)=false∧(p.1:Int)≠39)))→AVal.tup [iv a,iv n]=AVal.tup [iv (nameR s 0 0).1,iv (nameR s 0 0).2]:=by
  intro q;rw[hu,nameR,dif_pos h,dif_pos (hst.2 q)]
 have go:¬(isLet (p.1:Int)=false∧(a=0∨(isDig (p.1:Int)=false∧(p.1:Int)≠39)))→VV.rd (Qm .add false [iv n,(.int .i64 1)] [.siter s (a+p.2)]) λt31=>again [t31] [.siter s (a+p.2)]:=by
  intro q;have q2:¬ZbG s a n:=λz=>q (hst.1 z);have h0:(runeR s a).2≠0:=λe=>q2 (Or.inl e);have:=(d1 h0).2;have:=hin h0;refine Za (Zl ..) ?_;rw[Zg (n:=n) (by omega)];refine hag (a+p.2) _ _ (by omega) ⟨n+1,rfl,rfl,by omega,by omega,by omega,?_⟩;rw[hu,nameR,dif_pos h,dif_neg q2,(d1 h0).2]
 clear hag hu hst d1 d2 hin;generalize (p.1:Int)=r at stp go ⊢;refine Zc (c256 r) rfl g105.ok.plain rfl ?_;refine Za rfl ?_;rcases YBE (!isLet r) with h1|h1
 rotate_left
 ·rw[h1];repeat first|refine Ya ?_|refine Yb ?_|refine Xa rfl ?_|refine Ye rfl ?_|refine Qf rfl ?_|refine Yh rfl ?_|refine Za rfl ?_
  exact Yc (go (by have h1:isLet r=true:=(by simpa using h1); simp[h1]))
 rw[h1];have h1:isLet r=false:=by simpa using h1
 repeat first|refine Ya ?_|refine Yb ?_|refine Za rfl ?_
 rcases YBE ((a:Int)==0) with h2|h2
 ·rw[h2];repeat first|refine Ya ?_|refine Yb ?_|refine Xa rfl ?_|refine Ye rfl ?_|refine Qf rfl ?_|refine Yh rfl ?_|refine Za rfl ?_
  exact Yd (stp ⟨h1,Or.inl (by simpa using h2)⟩)
 rw[h2];have h2:a≠0:=by simpa using h2
 repeat first|refine Ya ?_|refine Yb ?_|refine Za rfl ?_
 refine Zc (c257 r) rfl g106.ok.plain rfl ?_;repeat first|refine Ya ?_|refine Yb ?_|refine Za rfl ?_
 rcases YBE (!isDig r) with h3|h3
 rotate_left
 ·rw[h3];repeat first|refine Ya ?_|refine Yb ?_|refine Xa rfl ?_|refine Ye rfl ?_|refine Qf rfl ?_|refine Yh rfl ?_|refine Za rfl ?_
  exact Yc (go (by have h3:isDig r=true:=(by simpa using h3); simp[h2,h3]))
 rw[h3];have h3:isDig r=false:=by simpa using h3
 repeat first|refine Ya ?_|refine Yb ?_|refine Za rfl ?_
 refine Zb (λh4=>stp ⟨h1,Or.inr ⟨h3,by simpa using h4⟩⟩) (λh4=>go ?_);have h4:r=39:=by simpa using h4
 simp[h2,h4]
theorem c223(s:Tx)(hs:s.length≤big):PC 67 [.str s] (.bool (nameOk s)):=by
 refine Qb hP g67.ok rfl rfl ?_;rw[H1.e]; unfold g67; dsimp only;refine Zc (c241 s hs) rfl g85.ok.plain rfl ?_;unfold nameOk;generalize (nameR s 0 0).1=e;generalize (nameR s 0 0).2=n;refine Za rfl (Za rfl (Za rfl ?_));rcases YBE (decide ((n:Int)>0)) with h1|h1
 rotate_left
 ·rw[h1];repeat first|refine Xa rfl ?_|refine Ye rfl ?_|refine Qf rfl ?_|refine Yh rfl ?_|refine Za rfl ?_
  have h1:¬1≤n:=by simp at h1; omega
  simp[h1]
 rw[h1];repeat first|refine Ya ?_|refine Yb ?_|refine Za rfl ?_
 rcases YBE (decide ((n:Int)≤24)) with h2|h2
 rotate_left
 ·rw[h2];repeat first|refine Xa rfl ?_|refine Ye rfl ?_|refine Qf rfl ?_|refine Yh rfl ?_|refine Za rfl ?_
  have h2:¬n≤24:=by simp at h2; omega
  simp[h2]
 rw[h2];repeat first|refine Ya ?_|refine Yb ?_|refine Za rfl ?_
 rcases YBE ((e:Int)==(s.length:Int)) with h3|h3
 rotate_left
 ·rw[h3];repeat first|refine Xa rfl ?_|refine Ye rfl ?_|refine Qf rfl ?_|refine Yh rfl ?_|refine Za rfl ?_
  have h3:¬e=s.length:=by simp at h3; omega
  simp[h3]
 rw[h3];repeat first|refine Ya ?_|refine Yb ?_|refine Za rfl ?_
 have h3:e=s.length:=by simp at h3; omega
 subst h3;rcases YBE (decide ((s.length:Int)≤40)) with h4|h4
 rotate_left
 ·rw[h4];repeat first|refine Xa rfl ?_|refine Ye rfl ?_|refine Qf rfl ?_|refine Yh rfl ?_|refine Za rfl ?_
  have h4:¬s.length≤40:=by simp at h4; omega
  simp[h4]
 rw[h4];repeat first|refine Ya ?_|refine Yb ?_|refine Za rfl ?_
 refine Zc (c242 _) rfl g86.ok.plain rfl ?_;repeat first|refine Ya ?_|refine Yb ?_|refine Za rfl ?_
 have h1:1≤n:=by simp at h1; omega
 have h2:n≤24:=by simp at h2; omega
 have h4:s.length≤40:=by simp at h4; omega
 simp[h1,h2,h4]
end Go.Ah.Tz
end
section
namespace Go.Ah.Tz
open Go.Proofs.Tryz (prog)
theorem QbD(a:Int):lbN a=0∨lbN a=1∨lbN a=2∨lbN a=3:=by unfold lbN; split<;>omega
attribute [local irreducible] Ans.rd Ans.pu Ans.wr Ans.dr Ans.gr Ans.gw Ans.gl Ans.gd Ans.opt joinK W
theorem c252(a:Int):PC 118 [iv8 a] (iv8 (lbN a)):=by
 refine Qb hP g118.ok rfl rfl ?_;rw[H1.e]; unfold g118; dsimp only;refine Za rfl (QT rfl rfl ?_);refine Zb (λh=>?_) (λh=>?_)
 ·rw[lbN,if_pos (by simpa using h)]
 ·rw[lbN,if_neg (by simpa using h)]
def joinT:AVal:=.agg [iv8 0,iv8 1,iv8 2,iv8 3,iv8 1,iv8 1,iv8 3,iv8 3,iv8 2,iv8 3,iv8 2,iv8 3,iv8 3,iv8 3,iv8 3,iv8 3]
theorem c263:PC 125 [] joinT:=by
 refine Qb hP g125.ok rfl rfl ?_;unfold g125; dsimp only[H0.u];refine Qa rfl rfl (Za rfl (Za rfl (Za rfl (Za rfl (Za rfl (Qa rfl rfl (Yi rfl ?_)))))));rfl
theorem c250(a b:Int):PC 116 [iv8 a,iv8 b] (iv8 (joinL a b)):=by
 refine Qb hP g116.ok rfl rfl ?_;rw[H2.e]; unfold g116; dsimp only;refine Xe c263 rfl g125.ok.plain rfl ?_;refine Xe (c252 a) rfl g118.ok.plain rfl ?_;have h1:=QbD a;have h2:=QbD b;unfold joinL;have k:=c252 b;generalize lbN a=p at h1 ⊢;generalize lbN b=q at h2 k ⊢;rcases h1 with h1|h1|h1|h1<;>subst h1<;>refine Xb rfl ?_<;>refine Xe k rfl g118.ok.plain rfl ?_<;>rcases h2 with h2|h2|h2|h2<;>subst h2<;>exact Xb rfl (Yn (by kernel_rfl) rfl)
theorem c253(a b:Int):PC 119 [iv8 a,iv8 b] (.bool (decide (joinL a b=lbN b))):=by
 refine Qb hP g119.ok rfl rfl ?_;rw[H2.e]; unfold g119; dsimp only;refine Zc (c250 a b) rfl g116.ok.plain rfl ?_;refine Zc (c252 b) rfl g118.ok.plain rfl ?_;refine Za (Yf ..) ?_;rfl
theorem Qbf(b:Int):joinL b b=lbN b:=by rw[joinL,if_pos (Or.inl rfl)]
end Go.Ah.Tz
end
section
namespace Go.Ah.Tz
open Go.Proofs.Tryz (prog)
attribute [local irreducible] Ans.rd Ans.pu Ans.wr Ans.dr Ans.gr Ans.gw Ans.gl Ans.gd Ans.opt joinK W
set_option maxHeartbeats 1000000
theorem Xdq(x:Nm):nmL x=if x.op=6 then 3 else if 8≤x.op∧x.op≤12 then nmLs 0 x.kids else 0:=by
 rw[ZdI];by_cases h:x.op=6
 ·rw[if_neg (by omega),if_pos h,if_pos h]
 ·rw[if_neg h,if_neg h]
theorem c251':∀(k:Nat) (x:Nm),SizeOf.sizeOf x≤k→nmFit x=true→PC 117 [.agg (nmC x)] (iv8 (nmL x))
 |0,x,h,_=>by cases x; simp at h
 |k+1,x,hk,hf=>by
  rw[YG];refine Qb hP g117.ok rfl rfl ?_;rw[H1.e]; unfold g117; dsimp only;refine Qa rfl rfl ?_;rw[Xdq];have hlen:=Qa1 hf;rw[bigE] at hlen;generalize hB:([]++[ABlk.box [iv8 x.op,iv x.n,iv8 x.who,.rsl false false 4 (x.kids.map nmC)]]:List ABlk)=base;have hB0:hget base 0=.box [iv8 x.op,iv x.n,iv8 x.who,.rsl false false 4 (x.kids.map nmC)]:=by rw[←hB]; rfl
  clear hB;refine Za rfl (Za (ld hB0 rfl) (Za (Yf ..) ?_));refine Zb (λh=>?_) (λh=>?_)
  ·rw[if_pos (by simpa using h)]
  rw[if_neg (by simpa using h)];refine Za rfl (Za (ld hB0 rfl) (Za rfl ?_));refine YaB rfl (ld hB0 rfl) rfl ?_;rw[show (decide (x.op ≥ 8)&&decide (x.op≤12))=decide (8≤x.op∧x.op≤12) by simp];refine Zb (λh=>?_) (λh=>?_);rotate_left
  ·rw[if_neg (by simpa using h)]
  rw[if_pos (by simpa using h)];refine Za rfl (Za (ld hB0 rfl) (Za rfl ?_));clear hB0;refine Xn (ι:=Nat) (λi vs σ=>∃n,vs=[iv i,iv8 n]∧i≤x.kids.length∧nmLs 0 x.kids=nmLs n (x.kids.drop i)) (λi=>x.kids.length-i) 0 ⟨0,rfl,by omega,by simp⟩ ?_;rintro i vs σ again ⟨n,rfl,hi,hu⟩ hag;refine Za rfl ?_;refine Zb (λh=>?_) (λh=>?_)
  ·have h:i<x.kids.length:=by simpa using h
   have hdr:x.kids.drop i=x.kids[i]::x.kids.drop (i+1):=by rw[YLD h]
   rw[hdr,nmLs] at hu;have hm:x.kids[i]∈x.kids:=List.getElem_mem h;have hix:=λ(s:List ABlk)=>Xw s nmC false false 4 x.kids .i64 i h;have hsz:=Za2 hm;have hfk:=Q7 hf hm;generalize x.kids[i]=y at hu hix hsz hfk;refine Za (hix _) (Za (ldr (nmLd _)) ?_);refine XG (row:=[iv8 y.op,iv y.n,iv8 y.who,.rsl false false 4 (y.kids.map nmC)]) (row':=[iv8 y.op,iv y.n,iv8 y.who,.rsl false false 4 (y.kids.map nmC)]) (by rw[YG]; rfl) rfl rfl ?_;have hB1:=Zf σ (ABlk.box [iv8 y.op,iv y.n,iv8 y.who,.rsl false false 4 (y.kids.map nmC)]);have hN:Zk true 4 [.bptr σ.length 0] (σ++[ABlk.box [iv8 y.op,iv y.n,iv8 y.who,.rsl false false 4 (y.kids.map nmC)]])=.ok (.agg (nmC y)) [σ.length] []:=ld hB1 (by rw[YG]; rfl);refine Za hN ?_;refine Zc (c251' k y (by omega) hfk) rfl g117.ok.plain (nmRo _) ?_;refine Zc (c250 _ _) rfl g116.ok.plain rfl ?_;refine Za (Zl ..) ?_;rw[Zg (n:=i) (by omega)];exact hag (i+1) _ _ (by omega) ⟨_,rfl,by omega,hu⟩
  ·have h:i=x.kids.length:=by simp at h; omega
   subst h;rw[List.drop_length,nmLs] at hu;rw[hu]; rfl
theorem c251(x:Nm)(hf:nmFit x=true):PC 117 [.agg (nmC x)] (iv8 (nmL x)):=c251' _ x (Nat.le_refl _) hf
theorem c254':∀(k:Nat) (x:Cn),SizeOf.sizeOf x≤k→cnFit x=true→PC 120 [.agg (cnC x)] (iv8 (cnL x))
 |0,x,h,_=>by cases x; simp at h
 |k+1,x,hk,hf=>by
  rw[YS];refine Qb hP g120.ok rfl rfl ?_;rw[H1.e]; unfold g120; dsimp only;refine Qa rfl rfl ?_;rw[Qdx];have hl1:=Zal hf;have hl2:=Qak hf;rw[bigE] at hl1 hl2;generalize hB:([]++[ABlk.box [iv8 x.op,iv8 x.who,.str x.name,.rsl false false 4 (x.nums.map nmC),.rsl false false 5 (x.kids.map cnC)]]:List ABlk)=base;have hB0:hget base 0=.box [iv8 x.op,iv8 x.who,.str x.name,.rsl false false 4 (x.nums.map nmC),.rsl false false 5 (x.kids.map cnC)]:=by rw[←hB]; rfl
  clear hB;refine Za rfl (Za (ld hB0 rfl) (Za (Yf ..) ?_));refine Zb (λh=>?_) (λh=>?_)
  ·rw[if_pos (by simpa using h)];refine Za rfl (Za (ld hB0 rfl) (Za (Yf ..) ?_));refine Zb (λh=>?_) (λh=>?_)
   ·rw[if_pos (by simpa using h)]
   rw[if_neg (by simpa using h)];refine Za (Yf ..) ?_;refine Zb (λh=>?_) (λh=>?_)
   ·rw[if_pos (by simpa using h)]
   ·rw[if_neg (by simpa using h)]
  rw[if_neg (by simpa using h)];refine Za rfl (Za (ld hB0 rfl) (Za rfl ?_));refine Xn (ι:=Nat) (λi vs σ=>∃n,vs=[iv i,iv8 n]∧hget σ 0=.box [iv8 x.op,iv8 x.who,.str x.name,.rsl false false 4 (x.nums.map nmC),.rsl false false 5 (x.kids.map cnC)]∧i≤x.nums.length∧nmLs 0 x.nums=nmLs n (x.nums.drop i)) (λi=>x.nums.length-i) 0 ⟨0,rfl,hB0,by omega,by simp⟩ ?_;rintro i vs σ again ⟨n,rfl,hB0,hi,hu⟩ hag;refine Za rfl ?_;refine Zb (λh=>?_) (λh=>?_)
  ·have h:i<x.nums.length:=by simpa using h
   have hdr:x.nums.drop i=x.nums[i]::x.nums.drop (i+1):=by rw[YLD h]
   rw[hdr,nmLs] at hu;have hm:x.nums[i]∈x.nums:=List.getElem_mem h;have hix:=λ(s:List ABlk)=>Xw s nmC false false 4 x.nums .i64 i h;have hfk:=Qaf hf hm;generalize x.nums[i]=y at hu hix hfk;refine Za (hix _) (Za (ldr (nmLd _)) ?_);refine XG (row:=[iv8 y.op,iv y.n,iv8 y.who,.rsl false false 4 (y.kids.map nmC)]) (row':=[iv8 y.op,iv y.n,iv8 y.who,.rsl false false 4 (y.kids.map nmC)]) (by rw[YG]; rfl) rfl rfl ?_;have hB1:=Zf σ (ABlk.box [iv8 y.op,iv y.n,iv8 y.who,.rsl false false 4 (y.kids.map nmC)]);have hN:Zk true 4 [.bptr σ.length 0] (σ++[ABlk.box [iv8 y.op,iv y.n,iv8 y.who,.rsl false false 4 (y.kids.map nmC)]])=.ok (.agg (nmC y)) [σ.length] []:=ld hB1 (by rw[YG]; rfl);refine Za hN ?_;refine Zc (c251 y hfk) rfl g117.ok.plain (nmRo _) ?_;refine Zc (c250 _ _) rfl g116.ok.plain rfl ?_;refine Za (Zl ..) ?_;rw[Zg (n:=i) (by omega)];exact hag (i+1) _ _ (by omega) ⟨_,rfl,Ze _ hB0 (by simp),by omega,hu⟩
  have h:i=x.nums.length:=by simp at h; omega
  subst h;rw[List.drop_length,nmLs] at hu;rw[hu];clear hag hu hi;refine Za rfl (Za (ld hB0 rfl) (Za rfl ?_));refine Xn (ι:=Nat) (λi vs s=>∃m,vs=[iv i,iv8 m]∧i≤x.kids.length∧cnLs n x.kids=cnLs m (x.kids.drop i)) (λi=>x.kids.length-i) 0 ⟨n,rfl,by omega,by simp⟩ ?_;rintro i vs s again ⟨m,rfl,hi,hu⟩ hag;refine Za rfl ?_;refine Zb (λh=>?_) (λh=>?_)
  ·have h:i<x.kids.length:=by simpa using h
   have hdr:x.kids.drop i=x.kids[i]::x.kids.drop (i+1):=by rw[YLD h]
   rw[hdr,cnLs] at hu;have hm:x.kids[i]∈x.kids:=List.getElem_mem h;have hix:=λ(s:List ABlk)=>Xw s cnC false false 5 x.kids .i64 i h;have hfk:=Xaf hf hm;have hsz:=Xbn hm;generalize x.kids[i]=y at hu hix hfk hsz;refine Za (hix _) (Za (ldr (cnLd _)) ?_);refine XG (row:=[iv8 y.op,iv8 y.who,.str y.name,.rsl false false 4 (y.nums.map nmC),.rsl false false 5 (y.kids.map cnC)]) (row':=[iv8 y.op,iv8 y.who,.str y.name,.rsl false false 4 (y.nums.map nmC),.rsl false false 5 (y.kids.map cnC)]) (by rw[YS]; rfl) rfl rfl ?_;have hB1:=Zf s (ABlk.box [iv8 y.op,iv8 y.who,.str y.name,.rsl false false 4 (y.nums.map nmC),.rsl false false 5 (y.kids.map cnC)]);have hN:Zk true 5 [.bptr s.length 0] (s++[ABlk.box [iv8 y.op,iv8 y.who,.str y.name,.rsl false false 4 (y.nums.map nmC),.rsl false false 5 (y.kids.map cnC)]])=.ok (.agg (cnC y)) [s.length] []:=ld hB1 (by rw[YS]; rfl);refine Za hN ?_;refine Zc (c254' k y (by omega) hfk) rfl g120.ok.plain (cnRo _) ?_;refine Zc (c250 _ _) rfl g116.ok.plain rfl ?_;refine Za (Zl ..) ?_;rw[Zg (n:=i) (by omega)];exact hag (i+1) _ _ (by omega) ⟨_,rfl,by omega,hu⟩
  ·have h:i=x.kids.length:=by simp at h; omega
   subst h;rw[List.drop_length,cnLs] at hu;rw[hu]; rfl
theorem c254(x:Cn)(hf:cnFit x=true):PC 120 [.agg (cnC x)] (iv8 (cnL x)):=c254' _ x (Nat.le_refl _) hf
end Go.Ah.Tz
end
section
namespace Go.Ah.Tz
open Go.Proofs.Tryz (prog)
attribute [local irreducible] Ans.rd Ans.pu Ans.wr Ans.dr Ans.gr Ans.gw Ans.gl Ans.gd Ans.opt joinK W
theorem efRo(u:Int)(x:Ef):roL [.agg [iv8 u],.agg (efC x)]=true:=by rw[Qv]; rfl
theorem c235(u:Int)(x:Ef)(hf:efFit x=true):PC 99 [.agg [iv8 u],.agg (efC x)] (.bool (decide (joinL u (nmL x.n)=0))):=by
 rw[Qv];refine Qb hP g99.ok rfl rfl ?_;rw[H2.e]; unfold g99; dsimp only;refine Qa rfl rfl (Qa rfl rfl (Xb rfl (Zd rfl rfl (Xb rfl (Zd (ld (v:=.agg (nmC x.n)) rfl (by rw[YG]; rfl)) rfl ?_)))));refine Xe (c251 _ (YaD hf)) rfl g117.ok.plain (nmRo _) ?_;refine Xe (c250 _ _) rfl g116.ok.plain rfl ?_;exact Xb (Yf ..) (Yn (by kernel_rfl) rfl)
theorem c236(u:Int)(x:Ef):PC 100 [.agg [iv8 u],.agg (efC x)] (.bool (decide (lbN u=0))):=by
 rw[Qv];refine Qb hP g100.ok rfl rfl ?_;rw[H2.e]; unfold g100; dsimp only;refine Qa rfl rfl (Qa rfl rfl (Za rfl (Za rfl ?_)));refine Zc (c252 _) rfl g118.ok.plain rfl ?_;exact Za (Yf ..) rfl
theorem c237(u:Int)(x:Ef)(hf:efFit x=true):PC 101 [.agg [iv8 u],.agg (efC x)] (.bool (XbB (joinL u (nmL x.n)) 1)):=by
 rw[Qv];refine Qb hP g101.ok rfl rfl ?_;rw[H2.e]; unfold g101; dsimp only;refine Qa rfl rfl (Qa rfl rfl (Xb rfl (Zd rfl rfl (Xb rfl (Zd (ld (v:=.agg (nmC x.n)) rfl (by rw[YG]; rfl)) rfl ?_)))));refine Xe (c251 _ (YaD hf)) rfl g117.ok.plain (nmRo _) ?_;refine Xe (c250 _ _) rfl g116.ok.plain rfl ?_;refine Xe (c253 _ _) rfl g119.ok.plain rfl ?_;refine Yn (by kernel_rfl) ?_;rw[XbB,Qbf]
end Go.Ah.Tz
end
section
namespace Go.Ah.Tz
open Go.Proofs.Tryz (prog)
theorem Ym{σ:List ABlk}(l:List ABlk){c:Nat}(h:c<σ.length):hget (σ++l) c=hget σ c:=by
 have h1:=Xay h;exact Qo (by rw[List.getElem?_append_left h]; exact h1)
theorem Xd{σ:List ABlk}{b c:Nat}(x:ABlk)(h:c<σ.length)(hc:c≠b):hget (σ.set b x) c=hget σ c:=by
 have h1:=Xay h;exact Qo (by rw[List.getElem?_set_ne (λe=>hc e.symm)]; exact h1)
def Gr(σ0:List ABlk)(n:Nat)(rows:List (List AVal))(k:Nat)(v:AVal)(σ:List ABlk):Prop:=
 σ0.length≤σ.length∧(∀c,c<σ0.length→hget σ c=hget σ0 c)∧((k=0∧v=.nils∧rows=[])∨(0<k∧∃b,σ0.length≤b∧v=.sl b 0 k false∧hget σ b=.rows n rows∧rows.length=k))
theorem Gr.nil(n:Nat)(σ:List ABlk):Gr σ n [] 0 .nils σ:=⟨Nat.le_refl _,λ_ _=>rfl,.inl ⟨rfl,rfl,rfl⟩⟩
theorem Gr.grows{σ0 σ:List ABlk}{n k:Nat}{rows:List (List AVal)}{v:AVal}(h:Gr σ0 n rows k v σ):Grows n rows k v σ:=by
 rcases h.2.2 with h|⟨h1,b,_,h2,h3,h4⟩
 ·exact .inl h
 ·exact .inr ⟨h1,b,h2,h3,h4⟩
theorem Gr.old{σ0 σ:List ABlk}{n k:Nat}{rows:List (List AVal)}{v:AVal}(h:Gr σ0 n rows k v σ){c:Nat}{x:ABlk}(hx:hget σ0 c=x)(hd:x≠.dead):hget σ c=x:=by
 rw[h.2.1 c (Xi hx hd)]; exact hx
theorem Gr.base{σ0 σ:List ABlk}{l:List ABlk}{n k:Nat}{rows:List (List AVal)}{v:AVal}(h:Gr (σ0++l) n rows k v σ):Gr σ0 n rows k v σ:=by
 obtain⟨h1,h2,h3⟩:=h;simp only[List.length_append] at h1 h2 h3;refine⟨by omega,λc hc=>?_,?_⟩
 ·rw[h2 c (by omega),Ym l hc]
 ·rcases h3 with h3|⟨q1,b,q2,q3⟩
  ·exact .inl h3
  ·exact .inr ⟨q1,b,by omega,q3⟩
theorem Gr.put{σ0 σ:List ABlk}{n by_ k:Nat}{rows:List (List AVal)}{v:AVal}{z cs:List AVal}{x:AVal}(hg:Gr σ0 n rows k v σ)(hx:fill z [(0,n)] [x]=some cs)(hc:chunk n 1 cs=some [cs])(hr:cs.all AVal.cell=true)(hroom:(2*(k+1)+192)*by_≤2 ^ 48){K:AVal→List ABlk→Prop}
 (hK:∀v' σ',Gr σ0 n (rows++[cs]) (k+1) v' σ'→K v' σ'):VV.wr (ZB n 1 z [(0,n)] [x] σ) σ (λt σ=>VV.wr (Zo n by_ [v,t] σ) σ K):=by
 rw[Zbx _ _ _ _ _ cs hx hc];obtain⟨g1,g2,hg⟩:=hg;rcases hg with ⟨rfl,rfl,rfl⟩|⟨hk,b,hb0,rfl,hb,hl⟩
 ·rw[QcZ _ n by_ σ cs hr (by simpa using hroom)];refine hK _ _ ⟨by simp; omega,λc hc=>?_,.inr ⟨by omega,_,?_,rfl,by have:=Zf (σ++[.rows n [cs]]) (.rows n [cs]); simpa using this,rfl⟩⟩
  ·rw[Ym _ (by simp; omega),Ym _ (by omega),g2 c hc]
  ·omega
 ·rw[Ycs _ n by_ σ b k false rows cs hb hl hr hroom];refine hK _ _ ⟨by simp; omega,λc hc=>?_,.inr ⟨by omega,_,?_,rfl,?_,by simp[hl]⟩⟩
  ·rw[Ym _ (by simp; omega),Ym _ (by simp; omega),Xd _ (by omega) (by omega),g2 c hc]
  ·omega
  ·have:=Zf (σ.set b .dead++[.rows n [cs]]) (.rows n (rows++[cs]));simpa using this
inductive Pt where
 |ef (x:Ef)
 |nm (x:Nm)
 |cn (x:Cn)
inductive PtV:AVal→Pt→Prop
 |ef (x:Ef):PtV (.iface 204 (.agg [.rptr (efC x) 0])) (.ef x)
 |nm (row:List AVal) (j:Nat) (x:Nm):NmAt row j x→PtV (.iface 223 (.agg [.rptr row j])) (.nm x)
 |cn (row:List AVal) (j:Nat) (x:Cn):CnAt row j x→PtV (.iface 225 (.agg [.rptr row j])) (.cn x)
def Pt.kids:Pt→List Pt
 |.ef x=>(if cntOp x.op then [.nm x.n] else [])++(if x.op=8 then .cn x.c::(x.thn.map .ef++x.els.map .ef) else [])
 |.nm x=>x.kids.map .nm
 |.cn x=>x.nums.map .nm++x.kids.map .cn
def Pt.fit:Pt→Bool
 |.ef x=>efFit x
 |.nm x=>nmFit x
 |.cn x=>cnFit x
mutual
def nmP:Nm→List Pt
 |.mk op n who kids=>.nm (.mk op n who kids)::nmPs kids
def nmPs:List Nm→List Pt
 |[]=>[]
 |x::l=>nmP x++nmPs l
end
mutual
def cnP:Cn→List Pt
 |.mk op who name nums kids=>.cn (.mk op who name nums kids)::(nmPs nums++cnPs kids)
def cnPs:List Cn→List Pt
 |[]=>[]
 |x::l=>cnP x++cnPs l
end
mutual
def efP:Ef→List Pt
 |.mk op who n name c thn els=>.ef (.mk op who n name c thn els)::((if cntOp op then nmP n else [])++(if op=8 then cnP c++(efPs thn++efPs els) else []))
def efPs:List Ef→List Pt
 |[]=>[]
 |x::l=>efP x++efPs l
end
def flat:Pt→List Pt
 |.ef x=>efP x
 |.nm x=>nmP x
 |.cn x=>cnP x
def flats:List Pt→List Pt
 |[]=>[]
 |p::l=>flat p++flats l
theorem Y3:∀a b,flats (a++b)=flats a++flats b
 |[],b=>rfl
 |p::a,b=>by simp[flats,Y3 a b]
theorem Zbr:∀l,flats (l.map .nm)=nmPs l
 |[]=>rfl
 |x::l=>by simp[flats,Zbr l,flat,nmPs]
theorem Xb3:∀l,flats (l.map .cn)=cnPs l
 |[]=>rfl
 |x::l=>by simp[flats,Xb3 l,flat,cnPs]
theorem Zay:∀l,flats (l.map .ef)=efPs l
 |[]=>rfl
 |x::l=>by simp[flats,Zay l,flat,efPs]
theorem QcG(p:Pt):flat p=p::flats p.kids:=by
 cases p with
 |ef x=>
  obtain⟨op,who,n,name,c,thn,els⟩:=x;have e:Pt.kids (.ef (.mk op who n name c thn els))=(if cntOp op then [.nm n] else [])++(if op=8 then .cn c::(thn.map .ef++els.map .ef) else []):=rfl;rw[e,Y3];simp only[flat,efP]
  congr 2
  ·by_cases h:cntOp op=true<;>simp[h,flats,flat]
  ·by_cases h:op=8<;>simp[h,flats,flat,Y3,Zay]
 |nm x=>cases x; simp[flat,nmP,Pt.kids,Nm.kids,Zbr]
 |cn x=>cases x; simp[flat,cnP,Pt.kids,Cn.nums,Cn.kids,Y3,Zbr,Xb3]
theorem Yb3(p:Pt):0<(flat p).length:=by rw[QcG]; simp
theorem XaY:∀ {l:List Pt} {p:Pt},p∈l→(flat p).length≤(flats l).length
 |q::l,p,h=>by
  simp only[flats,List.length_append];rcases List.mem_cons.1 h with rfl|h
  ·omega
  ·have:=XaY h; omega
theorem YaY:∀l:List Pt,l.length≤(flats l).length
 |[]=>by simp
 |p::l=>by
  have:=YaY l;have:=Yb3 p;simp[flats]; omega
theorem Zdp{p q:Pt}(h:p.fit=true)(hq:q∈p.kids):q.fit=true:=by
 cases p with
 |ef x=>
  simp only[Pt.kids,List.mem_append] at hq;rcases hq with hq|hq
  ·split at hq
   ·simp at hq; subst hq; exact YaD h
   ·simp at hq
  ·split at hq
   ·simp only[List.mem_cons,List.mem_append,List.mem_map] at hq;rcases hq with rfl|⟨y,hy,rfl⟩|⟨y,hy,rfl⟩
    ·exact Xaq h
    ·exact Z1 (Y0 h) hy
    ·exact Z1 (Z0 h) hy
   ·simp at hq
 |nm x=>
  simp only[Pt.kids,List.mem_map] at hq;obtain⟨y,hy,rfl⟩:=hq;exact Q7 h hy
 |cn x=>
  simp only[Pt.kids,List.mem_append,List.mem_map] at hq;rcases hq with ⟨y,hy,rfl⟩|⟨y,hy,rfl⟩
  ·exact Qaf h hy
  ·exact Xaf h hy
def runL{S:Type}(step:S→Pt→S×Bool):S→List Pt→S×Bool
 |s,[]=>(s,true)
 |s,p::l=>if (step s p).2=true then runL step (step s p).1 l else ((step s p).1,false)
theorem Yac{S:Type}(step:S→Pt→S×Bool):∀(a:List Pt) (s:S) (b:List Pt),runL step s (a++b)=if (runL step s a).2=true then runL step (runL step s a).1 b else ((runL step s a).1,false)
 |[],s,b=>by simp[runL]
 |p::a,s,b=>by
  simp only[List.cons_append,runL];by_cases h:(step s p).2=true
  ·simp only[if_pos h]; exact Yac step a _ b
  ·simp[if_neg h]
def Bt(b:Nat)(σ σ':List ABlk):Prop:=σ.length≤σ'.length∧∀c,c<σ.length→c≠b→hget σ' c=hget σ c
theorem Bt.refl(b:Nat)(σ:List ABlk):Bt b σ σ:=⟨Nat.le_refl _,λ_ _ _=>rfl⟩
theorem Bt.trans{b:Nat}{x y z:List ABlk}(h:Bt b x y)(k:Bt b y z):Bt b x z:=⟨Nat.le_trans h.1 k.1,λc hc hb=>by rw[k.2 c (by have:=h.1; omega) hb,h.2 c hc hb]⟩
theorem Bt.old{b:Nat}{σ σ':List ABlk}(h:Bt b σ σ'){c:Nat}{x:ABlk}(hx:hget σ c=x)(hd:x≠.dead)(hc:c≠b):hget σ' c=x:=by
 rw[h.2 c (Xi hx hd) hc]; exact hx
theorem Bt.gr{σ σ':List ABlk}(b:Nat)(h1:σ.length≤σ'.length)(h:∀c,c<σ.length→hget σ' c=hget σ c):Bt b σ σ':=⟨h1,λc hc _=>h c hc⟩
def Clo{S:Type}(clo:AVal)(b:Nat)(enc:S→List AVal)(step:S→Pt→S×Bool):Prop:=
 ∀p v,PtV v p→∀s σ K,hget σ b=.box (enc s)→(∀σ',Bt b σ σ'→hget σ' b=.box (enc (step s p).1)→K (.bool (step s p).2) σ')→VV.call .callv [clo,v] σ K
inductive PtL:List AVal→List Pt→Prop
 |nil:PtL [] []
 |snoc (vs:List AVal) (ps:List Pt) (v:AVal) (p:Pt):PtL vs ps→PtV v p→PtL (vs++[v]) (ps++[p])
theorem PtL.length{vs:List AVal}{ps:List Pt}(h:PtL vs ps):vs.length=ps.length:=by
 induction h with
 |nil=>rfl
 |snoc vs ps v p h hv ih=>simp[ih]
theorem PtL.get{vs:List AVal}{ps:List Pt}(h:PtL vs ps):∀i (h1:i<vs.length) (h2:i<ps.length),PtV vs[i] ps[i]:=by
 induction h with
 |nil=>intro i h; simp at h
 |snoc vs ps v p h hv ih=>
  intro i h1 h2;have hl:=h.length;simp only[List.length_append,List.length_singleton] at h1 h2;by_cases hi:i<vs.length
  ·rw[List.getElem_append_left hi,List.getElem_append_left (by omega)]; exact ih i hi (by omega)
  ·have e1:i=vs.length:=by omega
   subst e1;have:ps[vs.length]?=none:=by rw[List.getElem?_eq_none (by omega)]
   simp[hl,hv]
def one(v:AVal):List AVal:=[v]
end Go.Ah.Tz
end
section
namespace Go.Ah.Tz
open Go.Proofs.Tryz (prog)
attribute [local irreducible] Ans.rd Ans.pu Ans.wr Ans.dr Ans.gr Ans.gw Ans.gl Ans.gd Ans.opt joinK W
set_option maxHeartbeats 2000000
def efPt(x:Ef):List AVal:=[.iface 204 (.agg [.rptr (efC x) 0])]
def nmPt(x:Nm):List AVal:=[.iface 223 (.agg [.rptr (nmC x) 0])]
def cnPt(x:Cn):List AVal:=[.iface 225 (.agg [.rptr (cnC x) 0])]
theorem XdG{σ0 σ:List ABlk}{k:Nat}{rows:List (List AVal)}{v:AVal}(l:List Ef)(hl:k+l.length≤1000000000)(hg:Gr σ0 1 rows k v σ){K:List AVal→List ABlk→Prop}
 (hK:∀v' σ' w,Gr σ0 1 (rows++l.map efPt) (k+l.length) v' σ'→K [w,v'] σ') :
  VV.loop (λag v55 σ=>VV.rd (Qm .lss false [(h0 v55),iv l.length] σ) λt72_56=>VV.test t72_56 (
   VV.rd (Zm 14 [efV l,(h0 v55)] σ) λt77_57=>VV.rd (XP [.nilp] [(0,1)] [t77_57] σ) λt78_58=>VV.rd (YA 204 [t78_58] σ) λt79_59=>
   VV.wr (ZB 1 1 [.nili] [(0,1)] [t79_59] σ) σ λt80_60 σ=>VV.wr (Zo 1 16 [(h1 v55),t80_60] σ) σ λt81_61 σ=>
   VV.rd (Qm .add false [(h0 v55),(.int .i64 1)] σ) λt82_62=>ag [t82_62,t81_61] σ) (K v55 σ)) [(.int .i64 0),v] σ:=by
 refine Xn (ι:=Nat) (λi vs s=>∃v,vs=[iv i,v]∧i≤l.length∧Gr σ0 1 (rows++(l.take i).map efPt) (k+i) v s) (λi=>l.length-i) 0 ⟨v,rfl,by omega,by simpa using hg⟩ ?_;rintro i vs s again ⟨v,rfl,hi,hg⟩ hag;refine Za rfl (Zb (λh=>?_) (λh=>?_))
 ·have h:i<l.length:=by simpa using h
  refine Za (Xw _ efC _ _ _ l _ i h) (Za rfl (Za rfl ?_));refine hg.put (cs:=efPt l[i]) rfl rfl rfl (by omega) (λv' σ' hg'=>?_);refine Za (Zl ..) ?_;rw[Zg (n:=i) (by omega)];refine hag (i+1) _ _ (by omega) ⟨v',rfl,by omega,?_⟩;rw[←QV _ _ _ h,←List.append_assoc]; exact hg'
 ·have h:i=l.length:=by simp at h; omega
  subst h;rw[List.take_length] at hg;exact hK _ _ _ hg
theorem efPtL{vs:List AVal}{ps:List Pt}(h:PtL vs ps):∀l:List Ef,PtL (vs++(l.map efPt).flatten) (ps++l.map .ef):=by
 intro l
 induction l generalizing vs ps with
 |nil=>simpa using h
 |cons x l ih=>
  have:=ih (PtL.snoc _ _ _ _ h (.ef x));simpa[efPt] using this
theorem nmPtL{vs:List AVal}{ps:List Pt}(h:PtL vs ps):∀l:List Nm,PtL (vs++(l.map nmPt).flatten) (ps++l.map .nm):=by
 intro l
 induction l generalizing vs ps with
 |nil=>simpa using h
 |cons x l ih=>
  have:=ih (PtL.snoc _ _ _ _ h (.nm (nmC x) 0 x (nmAt x)));simpa[nmPt] using this
theorem cnPtL{vs:List AVal}{ps:List Pt}(h:PtL vs ps):∀l:List Cn,PtL (vs++(l.map cnPt).flatten) (ps++l.map .cn):=by
 intro l
 induction l generalizing vs ps with
 |nil=>simpa using h
 |cons x l ih=>
  have:=ih (PtL.snoc _ _ _ _ h (.cn (cnC x) 0 x (cnAt x)));simpa[cnPt] using this
theorem ZaS{α:Type}{f:α→List AVal}(h:∀x,∃v,f x=[v]):∀l:List α,l.map f=((l.map f).flatten).map one
 |[]=>rfl
 |x::l=>by
  obtain⟨v,hv⟩:=h x;have:=ZaS h l;simp only[List.map_cons,List.flatten_cons,hv,List.map_append,List.map_nil,one];rw[←this]; rfl
theorem QaR(l:List Ef):l.map efPt=((l.map efPt).flatten).map one:=ZaS (λ_=>⟨_,rfl⟩) l
theorem Xb7(l:List Nm):l.map nmPt=((l.map nmPt).flatten).map one:=ZaS (λ_=>⟨_,rfl⟩) l
theorem Yc8(l:List Cn):l.map cnPt=((l.map cnPt).flatten).map one:=ZaS (λ_=>⟨_,rfl⟩) l
theorem c208{S:Type}{enc:S→List AVal}{step:S→Pt→S×Bool}{clo:AVal}{b:Nat}(hc:Clo clo b enc step):∀(k:Nat) (p:Pt),(flat p).length≤k→p.fit=true→(flat p).length≤500000000→∀v,PtV v p→∀s σ K,hget σ b=.box (enc s) →
  (∀σ',Bt b σ σ'→hget σ' b=.box (enc (runL step s (flat p)).1)→K (.bool (runL step s (flat p)).2) σ')→g108.u VV [v,clo] σ K
 |0,p,h,_,_=>by have:=Yb3 p; omega
 |k+1,p,hk,hf,hN=>by
  intro v hv s σ K hb hK;rw[QcG] at hk hN hK;simp only[List.length_cons] at hk hN;have hkl:=YaY p.kids;rw[H2.e]; unfold g108; dsimp only;refine hc p v hv s σ _ hb (λσ1 t1 b1=>?_);simp only[runL] at hK;refine Za rfl (Zb (λh=>?_) (λh=>?_))
  ·have h:(step s p).2=false:=by simpa using h
   rw[h] at hK;exact hK σ1 t1 b1
  have h:(step s p).2=true:=by simpa using h
  rw[h,if_pos rfl] at hK;generalize (step s p).1=s1 at hK b1;refine Xj λk2 hk2=>?_;have kk:∀v2 σ2 vs,PtL vs p.kids→Gr σ1 1 (vs.map one) vs.length v2 σ2→k2 [v2] σ2:=by
   intro v2 σ2 vs hp hg;rw[hk2]; clear hk2 k2;have hlen:=hp.length;have hb2:=hg.old b1 (by simp);have t2:Bt b σ1 σ2:=⟨hg.1,λc hc _=>hg.2.1 c hc⟩;refine Za (hg.grows.len _) ?_;refine Xn (ι:=Nat) (λi ws σ3=>∃s',ws=[iv i]∧i≤p.kids.length∧hget σ3 b=.box (enc s')∧Bt b σ2 σ3∧runL step s1 (flats p.kids)=runL step s' (flats (p.kids.drop i))) (λi=>p.kids.length-i) 0 ⟨s1,rfl,by omega,hb2,Bt.refl _ _,by simp⟩ ?_;rintro i ws σ3 again ⟨s',rfl,hi,hb3,t3,hr⟩ hag;refine Za rfl (Zb (λh=>?_) (λh=>?_))
   ·have h:i<vs.length:=by simpa using h
    have h':i<p.kids.length:=by omega
    have hg3:Grows 1 (vs.map one) vs.length v2 σ3:=by
     rcases hg.2.2 with h|⟨q1,c,q2,q3,q4,q5⟩
     ·exact .inl h
     ·refine .inr ⟨q1,c,q3,?_,q5⟩;have hcb:c≠b:=by
       intro e; subst e;rw[hb2] at q4; cases q4
      exact t3.old q4 (by simp) hcb
    obtain⟨c,e1,hj,e2⟩:=hg3.at .i64 i h;refine Za e1 (Za (e2 false 1 vs[i] (by simp[one])) ?_);have hmem:p.kids[i]∈p.kids:=List.getElem_mem h';have hfl:=XaY hmem;have hdr:p.kids.drop i=p.kids[i]::p.kids.drop (i+1):=YLD h';rw[hdr,flats,Yac] at hr;refine Xg hP rfl g108.ok rfl ?_;refine c208 hc k p.kids[i] (by omega) (Zdp hf hmem) (by omega) _ (hp.get i h h') s' σ3 _ hb3 (λσ4 t4 b4=>?_);refine Za rfl (Zb (λh5=>?_) (λh5=>?_))
    ·have h5:(runL step s' (flat p.kids[i])).2=false:=by simpa using h5
     rw[h5] at hr;have:=hK σ4 ((t1.trans t2).trans (t3.trans t4)) (by rw[hr]; exact b4);rw[hr] at this; exact this
    ·have h5:(runL step s' (flat p.kids[i])).2=true:=by simpa using h5
     rw[h5,if_pos rfl] at hr;refine Za (Zl ..) ?_;rw[Zg (n:=i) (by omega)];exact hag (i+1) _ _ (by omega) ⟨_,rfl,by omega,b4,t3.trans t4,hr⟩
   ·have h:i=p.kids.length:=by simp at h; omega
    subst h;rw[List.drop_length,flats,runL] at hr;have:=hK σ3 ((t1.trans t2).trans t3) (by rw[hr]; exact hb3);rw[hr] at this; exact this
  clear hk2 hK hb hc;cases hv with
  |ef x=>
   refine Za rfl (Za rfl (Za rfl (Yd ?_)));refine XG (row:=[.rptr (efC x) 0]) rfl rfl rfl ?_;have hB:=Zf σ1 (ABlk.box [.rptr (efC x) 0]);have hlt:σ1.length<(σ1++[ABlk.box [.rptr (efC x) 0]]).length:=by simp
   have kb:∀v2 σ2 vs,PtL vs (Pt.ef x).kids→Gr (σ1++[ABlk.box [.rptr (efC x) 0]]) 1 (vs.map one) vs.length v2 σ2→k2 [v2] σ2:=λv2 σ2 vs h1 h2=>kk v2 σ2 vs h1 h2.base;clear kk b1 t1;generalize σ1++[ABlk.box [.rptr (efC x) 0]]=τ at hB hlt kb ⊢;generalize σ1.length=c at hB hlt ⊢;refine Za rfl (Za (ld hB rfl) (Za rfl (Za rfl (Za (ldr (efLd0 _)) ?_))));refine Zc (c210 _) rfl g90.ok.plain rfl ?_;refine Xj λk14 hk14=>?_;have k1:∀v σ2 vs,PtL vs (if cntOp x.op then [.nm x.n] else [])→Gr τ 1 (vs.map one) vs.length v σ2→k14 [v] σ2:=by
    intro v σ2 vs hp hg;rw[hk14]; clear hk14 k14;have hB2:=hg.old hB (by simp);have hvl:vs.length≤1:=by rw[hp.length]; split<;>simp
    refine Za rfl (Za (ld hB2 rfl) (Za rfl (Za rfl (Za (ldr (efLd0 _)) (Za (Yf ..) ?_)))));refine Zb (λh=>?_) (λh=>?_);rotate_left
    ·have h:¬x.op=8:=by simpa using h
     refine kb _ _ vs ?_ hg;simp only[Pt.kids,if_neg h,List.append_nil]; exact hp
    have h:x.op=8:=by simpa using h
    have hkids:(Pt.ef x).kids=(if cntOp x.op then [.nm x.n] else [])++(.cn x.c::(x.thn.map .ef++x.els.map .ef)):=by simp only[Pt.kids,if_pos h]
    have hlen2:x.thn.length+x.els.length+1≤500000000:=by
     rw[hkids] at hkl;simp only[List.length_append,List.length_cons,List.length_map] at hkl;rw[hkids] at hN;omega
    refine Za rfl (Za (ld hB2 rfl) (Za rfl (Za rfl (Za rfl (Za rfl ?_)))));refine hg.put (cs:=[.iface 225 (.agg [.rptr (efC x) 7])]) rfl rfl rfl (by omega) (λv' σ' hg'=>?_);have hB3:=hg'.old hB (by simp);refine Za rfl (Za (ld hB3 rfl) (Za rfl (Za rfl (Za (ldr (Zq _)) ?_))));refine Za rfl (Za (ld hB3 rfl) (Za rfl (Za rfl (Za (ldr (Yq _)) ?_))));refine Za rfl ?_;refine QP 3 (Qk (Za rfl (Yd (Za rfl ?_))));refine Za (v:=iv x.thn.length) (rd:=[]) (by simp[Qd]) ?_;refine XdG x.thn (by omega) hg' (λv3 σ3 w hg3=>?_);refine Za rfl (Qk (Za rfl (Yd (Za rfl ?_))));refine Za (v:=iv x.els.length) (rd:=[]) (by simp[Qd]) ?_;refine XdG x.els (by omega) hg3 (λv4 σ4 w hg4=>?_);refine Za rfl (Qk (Za rfl (Yc ?_)));refine kb _ _ ((vs++[.iface 225 (.agg [.rptr (efC x) 7])])++(x.thn.map efPt).flatten++(x.els.map efPt).flatten) ?_ ?_
    ·rw[hkids];have:=efPtL (efPtL (PtL.snoc _ _ _ _ hp (.cn (efC x) 7 x.c (cnAt7 x))) x.thn) x.els;simpa using this
    ·have e1:((vs++[AVal.iface 225 (.agg [.rptr (efC x) 7])])++(x.thn.map efPt).flatten++(x.els.map efPt).flatten).map one=List.map one vs++[[AVal.iface 225 (.agg [.rptr (efC x) 7])]]++List.map efPt x.thn++List.map efPt x.els:=by
      rw[List.map_append,List.map_append,←QaR,←QaR,List.map_append]; rfl
     have e2:((vs++[AVal.iface 225 (.agg [.rptr (efC x) 7])])++(x.thn.map efPt).flatten++(x.els.map efPt).flatten).length=vs.length+1+x.thn.length+x.els.length:=by
      have l1:=congrArg List.length (QaR x.thn);have l2:=congrArg List.length (QaR x.els);simp only[List.length_map] at l1 l2;simp only[List.length_append,List.length_cons,List.length_nil,←l1,←l2]
     rw[e1,e2]; exact hg4
   clear hk14;refine Zb (λh=>?_) (λh=>?_)
   ·refine Za rfl (Za (ld hB rfl) (Za rfl (Za rfl (Za rfl (Za rfl ?_)))));refine(Gr.nil 1 τ).put (cs:=[.iface 223 (.agg [.rptr (efC x) 2])]) rfl rfl rfl (by omega) (λv' σ' hg'=>?_);refine k1 _ _ [.iface 223 (.agg [.rptr (efC x) 2])] ?_ hg';rw[if_pos h];exact PtL.snoc [] [] _ _ .nil (.nm (efC x) 2 x.n (nmAt2 x))
   ·refine k1 _ _ [] ?_ (Gr.nil 1 τ);rw[h]; exact .nil
  |nm row j x hx=>
   refine Za rfl (Za rfl (Za rfl (Yc ?_)));refine Za rfl (Za rfl (Za rfl (Yd ?_)));refine XG (row:=[.rptr row j]) rfl rfl rfl ?_;have hB:=Zf σ1 (ABlk.box [.rptr row j]);have kb:∀v2 σ2 vs,PtL vs (Pt.nm x).kids→Gr (σ1++[ABlk.box [.rptr row j]]) 1 (vs.map one) vs.length v2 σ2→k2 [v2] σ2:=λv2 σ2 vs h1 h2=>kk v2 σ2 vs h1 h2.base;clear kk b1 t1;generalize σ1++[ABlk.box [.rptr row j]]=τ at hB kb ⊢;generalize σ1.length=c at hB ⊢;have hlen2:x.kids.length≤500000000:=by
    simp only[Pt.kids,List.length_map] at hkl hN; omega
   refine Za rfl (Za (ld hB rfl) (Za rfl (Za rfl (Za (ldr hx.h3) ?_))));refine Za (v:=iv x.kids.length) (rd:=[]) (by simp[Qd]) ?_;refine Xn (ι:=Nat) (λi vs s=>∃v,vs=[iv i,v]∧i≤x.kids.length∧Gr τ 1 ((x.kids.take i).map nmPt) i v s) (λi=>x.kids.length-i) 0 ⟨_,rfl,by omega,by simpa using Gr.nil 1 τ⟩ ?_;rintro i vs s again ⟨v,rfl,hi,hg⟩ hag;refine Za rfl (Zb (λh=>?_) (λh=>?_))
   ·have h:i<x.kids.length:=by simpa using h
    refine Za rfl (Za (ld (hg.old hB (by simp)) rfl) (Za rfl (Za rfl (Za (ldr hx.h3) ?_))));refine Za (Xw _ nmC _ _ _ x.kids _ i h) (Za rfl (Za rfl ?_));refine hg.put (cs:=nmPt x.kids[i]) rfl rfl rfl (by omega) (λv' σ' hg'=>?_);refine Za (Zl ..) ?_;rw[Zg (n:=i) (by omega)];refine hag (i+1) _ _ (by omega) ⟨v',rfl,by omega,?_⟩;rw[←QV _ _ _ h]; exact hg'
   ·have h:i=x.kids.length:=by simp at h; omega
    subst h;rw[List.take_length] at hg;refine kb _ _ (x.kids.map nmPt).flatten ?_ ?_
    ·have:=nmPtL .nil x.kids;simpa[Pt.kids] using this
    ·have e1:=Xb7 x.kids;have e2:=congrArg List.length e1;rw[←e1];simp only[List.length_map] at e2;rw[←e2]; exact hg
  |cn row j x hx=>
   refine Za rfl (Za rfl (Za rfl (Yc ?_)));refine Za rfl (Za rfl (Za rfl (Yc ?_)));refine Za rfl (Za rfl (Za rfl (Yd ?_)));refine XG (row:=[.rptr row j]) rfl rfl rfl ?_;have hB:=Zf σ1 (ABlk.box [.rptr row j]);have kb:∀v2 σ2 vs,PtL vs (Pt.cn x).kids→Gr (σ1++[ABlk.box [.rptr row j]]) 1 (vs.map one) vs.length v2 σ2→k2 [v2] σ2:=λv2 σ2 vs h1 h2=>kk v2 σ2 vs h1 h2.base;clear kk b1 t1;generalize σ1++[ABlk.box [.rptr row j]]=τ at hB kb ⊢;generalize σ1.length=c at hB ⊢;have hlen2:x.nums.length+x.kids.length≤500000000:=by
    simp only[Pt.kids,List.length_map,List.length_append] at hkl hN; omega
   refine Za rfl (Za (ld hB rfl) (Za rfl (Za rfl (Za (ldr hx.h3) ?_))));refine Za (v:=iv x.nums.length) (rd:=[]) (by simp[Qd]) ?_;refine Xn (ι:=Nat) (λi vs s=>∃v,vs=[iv i,v]∧i≤x.nums.length∧Gr τ 1 ((x.nums.take i).map nmPt) i v s) (λi=>x.nums.length-i) 0 ⟨_,rfl,by omega,by simpa using Gr.nil 1 τ⟩ ?_;rintro i vs s again ⟨v,rfl,hi,hg⟩ hag;refine Za rfl (Zb (λh=>?_) (λh=>?_))
   ·have h:i<x.nums.length:=by simpa using h
    refine Za rfl (Za (ld (hg.old hB (by simp)) rfl) (Za rfl (Za rfl (Za (ldr hx.h3) ?_))));refine Za (Xw _ nmC _ _ _ x.nums _ i h) (Za rfl (Za rfl ?_));refine hg.put (cs:=nmPt x.nums[i]) rfl rfl rfl (by omega) (λv' σ' hg'=>?_);refine Za (Zl ..) ?_;rw[Zg (n:=i) (by omega)];refine hag (i+1) _ _ (by omega) ⟨v',rfl,by omega,?_⟩;rw[←QV _ _ _ h]; exact hg'
   have h:i=x.nums.length:=by simp at h; omega
   subst h;rw[List.take_length] at hg;clear hag;refine Za rfl (Za (ld (hg.old hB (by simp)) rfl) (Za rfl (Za rfl (Za (ldr hx.h4) ?_))));refine Za (v:=iv x.kids.length) (rd:=[]) (by simp[Qd]) ?_;refine Xn (ι:=Nat) (λi vs s=>∃v,vs=[iv i,v]∧i≤x.kids.length∧Gr τ 1 (x.nums.map nmPt++(x.kids.take i).map cnPt) (x.nums.length+i) v s) (λi=>x.kids.length-i) 0 ⟨_,rfl,by omega,by simpa[h1,hdV,tlV] using hg⟩ ?_;clear hg;rintro i vs s again ⟨v,rfl,hi,hg⟩ hag;refine Za rfl (Zb (λh=>?_) (λh=>?_))
   ·have h:i<x.kids.length:=by simpa using h
    refine Za rfl (Za (ld (hg.old hB (by simp)) rfl) (Za rfl (Za rfl (Za (ldr hx.h4) ?_))));refine Za (Xw _ cnC _ _ _ x.kids _ i h) (Za rfl (Za rfl ?_));refine hg.put (cs:=cnPt x.kids[i]) rfl rfl rfl (by omega) (λv' σ' hg'=>?_);refine Za (Zl ..) ?_;rw[Zg (n:=i) (by omega)];refine hag (i+1) _ _ (by omega) ⟨v',rfl,by omega,?_⟩;rw[←QV _ _ _ h,←List.append_assoc]; exact hg'
   ·have h:i=x.kids.length:=by simp at h; omega
    subst h;rw[List.take_length] at hg;refine kb _ _ ((x.nums.map nmPt).flatten++(x.kids.map cnPt).flatten) ?_ ?_
    ·have:=cnPtL (nmPtL .nil x.nums) x.kids;simpa[Pt.kids] using this
    ·have e1:((x.nums.map nmPt).flatten++(x.kids.map cnPt).flatten).map one=x.nums.map nmPt++x.kids.map cnPt:=by
      rw[List.map_append,←Xb7,←Yc8]
     have e2:=congrArg List.length e1;simp only[List.length_map,List.length_append] at e2;rw[e1,List.length_append,e2]; exact hg
end Go.Ah.Tz
end
section
namespace Go.Ah.Tz
open Go.Proofs.Tryz (prog)
mutual
theorem YcM:∀x:Nm,nmW x=min ((nmP x).length:Int) 1073741824
 |.mk op n who kids=>by
  simp only[nmW,nmP,List.length_cons]
  rw[XcM 1 kids (by omega) (by omega)]; omega
theorem XcM:∀(n:Int) (l:List Nm),0≤n→n≤1073741824→nmWs n l=min (n+((nmPs l).length:Int)) 1073741824
 |n,[],h1,h2=>by simp only[nmWs,nmPs,List.length_nil]; omega
 |n,x::l,h1,h2=>by
  simp only[nmWs,nmPs,List.length_append]
  rw[YcM x,XcM _ l (by omega) (by omega)]; omega
end
mutual
theorem Zdy:∀x:Cn,cnW x=min ((cnP x).length:Int) 1073741824
 |.mk op who name nums kids=>by
  simp only[cnW,cnP,List.length_cons,List.length_append]
  rw[XcM 1 nums (by omega) (by omega),Qde _ kids (by omega) (by omega)]; omega
theorem Qde:∀(n:Int) (l:List Cn),0≤n→n≤1073741824→cnWs n l=min (n+((cnPs l).length:Int)) 1073741824
 |n,[],h1,h2=>by simp only[cnWs,cnPs,List.length_nil]; omega
 |n,x::l,h1,h2=>by
  simp only[cnWs,cnPs,List.length_append]
  rw[Zdy x,Qde _ l (by omega) (by omega)]; omega
end
mutual
theorem efW_P:∀(n:Int) (x:Ef),0≤n→n≤1073741824→efW n x=min (n+((efP x).length:Int)) 1073741824
 |n,.mk op who nn name c thn els,h1,h2=>by
  simp only[efW,efP,List.length_cons,List.length_append]
  rw[YcM nn,Zdy c,Zbe 0 thn (by omega) (by omega),Zbe 0 els (by omega) (by omega)]
  generalize cntOp op=cb
  by_cases h:op=8
  ·simp only[if_pos h]
   cases cb<;>simp only[if_true,if_false,List.length_append,List.length_nil,Bool.false_eq_true]<;>omega
  ·simp only[if_neg h]
   cases cb<;>simp only[if_true,if_false,List.length_nil,Bool.false_eq_true]<;>omega
theorem Zbe:∀(n:Int) (l:List Ef),0≤n→n≤1073741824→efsW n l=min (n+((efPs l).length:Int)) 1073741824
 |n,[],h1,h2=>by simp only[efsW,efPs,List.length_nil]; omega
 |n,x::l,h1,h2=>by
  simp only[efsW,efPs,List.length_append]
  rw[efW_P n x h1 h2,Zbe _ l (by omega) (by omega)]; omega
end
def cdP(c:Cd):List Pt:=efPs c.played++(efPs c.dead++efPs c.dawn)
theorem Xcu(c:Cd):cdW c=min ((cdP c).length:Int) 1073741824:=by
 rw[cdW,Zbe 0 _ (by omega) (by omega),Zbe 0 _ (by omega) (by omega),Zbe 0 _ (by omega) (by omega),cdP];simp only[List.length_append]; omega
attribute [local irreducible] Ans.rd Ans.pu Ans.wr Ans.dr Ans.gr Ans.gw Ans.gl Ans.gd Ans.opt joinK W
set_option maxHeartbeats 1000000
theorem QcC(l:List Ef):efPs l=flats (l.map .ef):=(Zay l).symm
theorem QcJ{S:Type}{enc:S→List AVal}{step:S→Pt→S×Bool}{clo:AVal}{b:Nat}(hc:Clo clo b enc step)(l:List Ef)(hf:lsFit l=true)(hN:(efPs l).length≤500000000){s:S}{σ:List ABlk}(hb:hget σ b=.box (enc s)){R:List ABlk→Prop}{K:List AVal→List ABlk→Prop}
 (hR:∀σ',Bt b σ σ'→hget σ' b=.box (enc (runL step s (efPs l)).1)→(runL step s (efPs l)).2=false→R σ')(hK:∀w σ',Bt b σ σ'→hget σ' b=.box (enc (runL step s (efPs l)).1)→(runL step s (efPs l)).2=true→K w σ') :
  VV.loop (λag15 v16 σ=>VV.rd (Qm .lss false [(h0 v16),iv l.length] σ) λt26_17=>VV.test t26_17 (
   VV.rd (Zm 14 [efV l,(h0 v16)] σ) λt30_18=>VV.rd (XP [.nilp] [(0,1)] [t30_18] σ) λt31_19=>VV.rd (YA 204 [t31_19] σ) λt32_20=>
   VV.call (.call 108) [t32_20,clo] σ λt34_21 σ=>VV.rd (Ybk .not [t34_21] σ) λt35_22=>VV.test t35_22 (R σ) (
   VV.rd (Qm .add false [(h0 v16),(.int .i64 1)] σ) λt36_23=>ag15 [t36_23] σ)) (K v16 σ)) [(.int .i64 0)] σ:=by
 have hl:=YaY (l.map .ef);rw[Zay,List.length_map] at hl;rw[QcC] at hR hK;refine Xn (ι:=Nat) (λi ws σ3=>∃s',ws=[iv i]∧i≤l.length∧hget σ3 b=.box (enc s')∧Bt b σ σ3∧runL step s (flats (l.map .ef))=runL step s' (flats ((l.drop i).map .ef))) (λi=>l.length-i) 0 ⟨s,rfl,by omega,hb,Bt.refl _ _,by simp⟩ ?_;rintro i ws σ3 again ⟨s',rfl,hi,hb3,t3,hr⟩ hag;refine Za rfl (Zb (λh=>?_) (λh=>?_))
 ·have h:i<l.length:=by simpa using h
  refine Za (Xw _ efC _ _ _ l _ i h) (Za rfl (Za rfl ?_));have hdr:l.drop i=l[i]::l.drop (i+1):=YLD h;rw[hdr,List.map_cons,flats,Yac] at hr;refine Xg hP rfl g108.ok rfl ?_;have hm:=XaY (l:=l.map .ef) (p:=.ef l[i]) (List.mem_map_of_mem (List.getElem_mem h));rw[Zay] at hm;refine c208 hc _ (.ef l[i]) (Nat.le_refl _) (Z1 hf (List.getElem_mem h)) (by omega) _ (.ef _) s' σ3 _ hb3 (λσ4 t4 b4=>?_);refine Za rfl (Zb (λh5=>?_) (λh5=>?_))
  ·have h5:(runL step s' (flat (.ef l[i]))).2=false:=by simpa using h5
   rw[h5] at hr;exact hR σ4 (t3.trans t4) (by rw[hr]; exact b4) (by rw[hr]; rfl)
  ·have h5:(runL step s' (flat (.ef l[i]))).2=true:=by simpa using h5
   rw[h5,if_pos rfl] at hr;refine Za (Zl ..) ?_;rw[Zg (n:=i) (by omega)];exact hag (i+1) _ _ (by omega) ⟨_,rfl,by omega,b4,t3.trans t4,hr⟩
 ·have h:i=l.length:=by simp at h; omega
  subst h;rw[List.drop_length,List.map_nil,flats,runL] at hr;exact hK _ σ3 t3 (by rw[hr]; exact hb3) (by rw[hr])
theorem c155{S:Type}{enc:S→List AVal}{step:S→Pt→S×Bool}{clo:AVal}{b:Nat}(hc:Clo clo b enc step)(c:Cd)(f1:lsFit c.played=true)(f2:lsFit c.dead=true)(f3:lsFit c.dawn=true)(hN:(cdP c).length≤500000000){s:S}{σ:List ABlk}{cb:Nat}(hcb:hget σ cb=.box (cdC c))(hb:hget σ b=.box (enc s)){K:AVal→List ABlk→Prop}
 (hK:∀σ',Bt b σ σ'→hget σ' b=.box (enc (runL step s (cdP c)).1)→K (.tup []) σ'):g87.u VV [.bptr cb 0,clo] σ K:=by
 simp only[cdP,List.length_append] at hN;simp only[cdP,Yac] at hK;rw[H2.e]; unfold g87; dsimp only;refine Za rfl (Za rfl (Za (ld hcb rfl) (Za rfl (Za rfl (Za (ld hcb rfl) (Za rfl (Za rfl (Za (ld hcb rfl) (Za rfl ?_)))))))));refine QP 4 (Qk (Za rfl (Yd (Za rfl ?_))));refine Za (v:=iv c.played.length) (rd:=[]) (by simp[Qd]) ?_;refine QcJ hc c.played f1 (by omega) hb (λσ1 t1 b1 h1=>?_) (λw σ1 t1 b1 h1=>?_)
 ·rw[h1] at hK; exact hK σ1 t1 b1
 rw[h1,if_pos rfl] at hK;refine Za rfl (Qk (Za rfl (Yd (Za rfl ?_))));refine Za (v:=iv c.dead.length) (rd:=[]) (by simp[Qd]) ?_;refine QcJ hc c.dead f2 (by omega) b1 (λσ2 t2 b2 h2=>?_) (λw σ2 t2 b2 h2=>?_)
 ·rw[h2] at hK; exact hK σ2 (t1.trans t2) b2
 rw[h2,if_pos rfl] at hK;refine Za rfl (Qk (Za rfl (Yd (Za rfl ?_))));refine Za (v:=iv c.dawn.length) (rd:=[]) (by simp[Qd]) ?_;refine QcJ hc c.dawn f3 (by omega) b2 (λσ3 t3 b3 h3=>?_) (λw σ3 t3 b3 h3=>?_)
 ·exact hK σ3 ((t1.trans t2).trans t3) b3
 refine Za rfl (Qk (Za rfl (Yc ?_)));exact hK σ3 ((t1.trans t2).trans t3) b3
def cntS(n:Int)(_:Pt):Int×Bool:=(IntKind.i64.wrap (n+1),decide (IntKind.i64.wrap (n+1)<1073741824))
theorem YcQ:∀(l:List Pt) (n:Int),0≤n→n+(l.length:Int)<1073741824→runL cntS n l=(n+(l.length:Int),true)
 |[],n,_,_=>by simp[runL]
 |p::l,n,h1,h2=>by
  simp only[List.length_cons] at h2;have hw:IntKind.i64.wrap (n+1)=n+1:=wrapI (by omega) (by omega);simp only[runL,cntS,hw];rw[if_pos (by simp; omega),YcQ l (n+1) (by omega) (by omega),List.length_cons]
  congr 1; omega
theorem clo156(b:Nat):Clo (.func (.func 88) [] [.bptr b 0]) b (λn:Int=>[iv n]) cntS:=by
 intro p v hv s σ K hb hK;refine Xg hP rfl g88.ok rfl ?_;show g88.u VV [v,.bptr b 0] σ K;rw[H2.e]; unfold g88; dsimp only;have hlt:=Xi hb (by simp);refine Za (ld hb rfl) (Za (Zl ..) (Qa (stv hb rfl rfl rfl) (Qi _ hlt) ?_));have hb2:hget (σ.set b (.box [iv (IntKind.i64.wrap (s+1))])) b=.box [iv (IntKind.i64.wrap (s+1))]:=Xf _ hlt;refine Za (ld hb2 rfl) (Za (QL ..) ?_);exact hK _ ⟨by simp,λc hc hne=>Xd _ hc hne⟩ hb2
theorem c124(c:Cd)(f1:lsFit c.played=true)(f2:lsFit c.dead=true)(f3:lsFit c.dawn=true)(hN:(cdP c).length≤500000000):PC 68 [.agg (cdC c)] (iv (cdW c)):=by
 refine Qb hP g68.ok rfl rfl ?_;rw[H1.e]; unfold g68; dsimp only;refine Qa rfl rfl (Qa rfl rfl (Qa rfl rfl (Za rfl ?_)));refine Xg hP rfl g87.ok rfl ?_;refine c155 (clo156 1) c f1 f2 f3 hN (s:=0) rfl rfl (λσ' _ hb=>?_);rw[YcQ _ 0 (by omega) (by omega)] at hb;refine Za (ld hb rfl) ?_;rw[Xcu]
 congr 1; omega
end Go.Ah.Tz
end
section
namespace Go.Ah.Tz
open Go.Proofs.Tryz (prog)
attribute [local irreducible] Ans.rd Ans.pu Ans.wr Ans.dr Ans.gr Ans.gw Ans.gl Ans.gd Ans.opt joinK W
set_option maxHeartbeats 1000000
theorem Zaa(σ:List ABlk)(x:Ef):Xac [.agg (efC x)] σ=.ok (.bptr σ.length 0) [] [(σ.length,.box (efC x))]:=by rw[Qv]; rfl
def idxF{α:Type}(f:α→Bool):List α→Int→Int
 |[],_=>-1
 |x::l,n=>if f x=true then n else idxF f l (n+1)
theorem YaR{α:Type}(f:α→Bool):∀(l:List α) (n:Int),0≤n→decide (0≤idxF f l n)=l.any f
 |[],_,_=>rfl
 |x::l,n,h=>by
  by_cases hf:f x=true
  ·have e:idxF f (x::l) n=n:=if_pos hf;rw[e,List.any_cons,hf]; simpa using h
  ·have e:idxF f (x::l) n=idxF f l (n+1):=if_neg hf;have hf':f x=false:=by simpa using hf
   rw[e,YaR f l (n+1) (by omega),List.any_cons,hf']; rfl
theorem Zbv{P:Program}{GL:Globs}{c d:Bool}{K:AVal→Prop}{r1:SRes}{f2 f3 f4:AVal→SRes}{σ:List ABlk}{v1 v2 v3:AVal}{q1 q2 q3 q4:List Nat}(h1:r1=.ok v1 q1 [])(h2:f2 v1=.ok v2 q2 [])(h3:f3 v2=.ok v3 q3 [])(h4:f4 v3=.ok (.bool d) q4 [])(hK:K (.bool (c&&d))) :
  (W P GL).gr (.bool c) true (λk=>(W P GL).rd r1 k) λt1=>(W P GL).gr (.bool c) true (λk=>(W P GL).rd (f2 t1) k) λt2=>(W P GL).gr (.bool c) true (λk=>(W P GL).rd (f3 t2) k) λt3=>(W P GL).gr (.bool c) true (λk=>(W P GL).rd (f4 t3) k) λt4=>(W P GL).rd (Ql [.bool c,t4,.bool false] σ) K:=by
 cases c with
 |true=>exact Ya (Za h1 (Ya (Za h2 (Ya (Za h3 (Ya (Za h4 (Za rfl hK))))))))
 |false=>exact Xa rfl (Xa rfl (Xa rfl (Xa rfl (Za rfl hK))))
theorem c255(l:List Ef)(hl:l.length≤big)(id:FuncId)(fs cs:List AVal)(hp:Zh prog id=true)(f:Ef→Bool)(hc:∀x∈l,PC id (fs++[.agg (efC x)]++cs) (.bool (f x)))(hr:∀x,roL (fs++[.agg (efC x)]++cs)=true) :
  PC 121 [efV l,.func (.func id) fs cs] (iv (idxF f l 0)):=by
 rw[bigE] at hl;refine Qb hP g121.ok rfl rfl ?_;rw[H2.e]; unfold g121; dsimp only;refine Za (v:=iv l.length) (rd:=[]) (by simp[Qd]) ?_;refine Xn (ι:=Nat) (λi vs s=>vs=[iv i]∧i≤l.length∧idxF f l 0=idxF f (l.drop i) i) (λi=>l.length-i) 0 ⟨rfl,by omega,by simp⟩ ?_;rintro i vs s again ⟨rfl,hi,hr'⟩ hag;refine Za rfl (Zb (λh=>?_) (λh=>?_))
 ·have h:i<l.length:=by simpa using h
  refine Za (Xw _ efC _ _ _ l _ i h) (Za (ldr (efLd _)) ?_);refine Zc (hc _ (List.getElem_mem h)) rfl hp (hr _) ?_;rw[YLD h,idxF] at hr';refine Zb (λh2=>?_) (λh2=>?_)
  ·rw[if_pos h2] at hr'; rw[hr']; rfl
  ·rw[if_neg (by rw[h2]; simp)] at hr';refine Za (Zl ..) ?_;rw[Zg (n:=i) (by omega)];exact hag (i+1) _ _ (by omega) ⟨rfl,by omega,by rw[hr']; push_cast; rfl⟩
 ·have h:i=l.length:=by simp at h; omega
  subst h;rw[List.drop_length,idxF] at hr';rw[hr']
theorem c239(l:List Ef)(hl:l.length≤big)(id:FuncId)(fs cs:List AVal)(hp:Zh prog id=true)(f:Ef→Bool)(hc:∀x∈l,PC id (fs++[.agg (efC x)]++cs) (.bool (f x)))(hr:∀x,roL (fs++[.agg (efC x)]++cs)=true)(hr2:roL [efV l,.func (.func id) fs cs]=true) :
  PC 103 [efV l,.func (.func id) fs cs] (.bool (l.any f)):=by
 refine Qb hP g103.ok rfl rfl ?_;rw[H2.e]; unfold g103; dsimp only;refine Zc (c255 l hl id fs cs hp f hc hr) rfl g121.ok.plain hr2 ?_;refine Za (Yaa ..) ?_;rw[YaR f l 0 (by omega)]
def asksR(u:Int):List AVal:=[.func (.func 99) [.agg [iv8 u]] [],.func (.func 99) [.agg [iv8 u]] [],.func (.func 99) [.agg [iv8 u]] [],.func (.func 99) [.agg [iv8 u]] [],.func (.func 100) [.agg [iv8 u]] [],.func (.func 101) [.agg [iv8 u]] [],.func (.func 100) [.agg [iv8 u]] [],.func (.func 100) [.agg [iv8 u]] [],.func (.func 102) [.agg [iv8 u]] []]
theorem c240(u:Int)(x:Ef)(hf:efFit x=true)(h238:x.op=8→PC 102 [.agg [iv8 u],.agg (efC x)] (.bool (efL u x))):PC 104 [.agg (efC x),.rptr [iv8 u] 0,.rptr (asksR u) 0] (.bool (!efL u x)):=by
 have hop:=Xc5 hf;refine Qb hP g104.ok rfl rfl ?_;rw[H3.e]; unfold g104; dsimp only;refine Qa (Zaa _ _) rfl (Za rfl (Za rfl (Za rfl (Za (ld rfl (efLd0 x)) (Za (Yaa ..) ?_)))));have p235:x.op=0∨x.op=1∨x.op=2∨x.op=3→PC 99 [.agg [iv8 u],.agg (efC x)] (.bool (efL u x)):=by
  intro h;have e:efL u x=decide (joinL u (nmL x.n)=0):=by rw[Qb1,if_neg (by omega),if_neg (by omega),if_pos h]
  rw[e]; exact c235 u x hf
 have p236:¬(x.op=0∨x.op=1∨x.op=2∨x.op=3)→x.op≠5→x.op≠8→PC 100 [.agg [iv8 u],.agg (efC x)] (.bool (efL u x)):=by
  intro h h5 h8;have e:efL u x=decide (lbN u=0):=by rw[Qb1,if_neg h5,if_neg h8,if_neg h,Qbf]
  rw[e]; exact c236 u x
 have p237:x.op=5→PC 101 [.agg [iv8 u],.agg (efC x)] (.bool (efL u x)):=by
  intro h;have e:efL u x=XbB (joinL u (nmL x.n)) 1:=by rw[Qb1,if_pos h]
  rw[e]; exact c237 u x hf
 refine Zbv rfl (ld rfl (efLd0 x)) rfl (QL ..) ?_;rw[wrapI (n:=x.op) (by omega) (by omega)];refine Xj λk11 hk11=>?_;have hk:∀id,Zh prog id=true→PC id [.agg [iv8 u],.agg (efC x)] (.bool (efL u x))→k11 [.func (.func id) [.agg [iv8 u]] []] [.box (efC x)]:=by
  intro id hp hc;rw[hk11];refine Za (ld rfl (efLd x)) ?_;refine Zc hc rfl hp (efRo u x) ?_;exact Za rfl rfl
 clear hk11;refine Zb (λh=>?_) (λh=>?_)
 ·have h:0≤x.op∧x.op<9:=by simpa using h
  refine Za rfl (Za (ld rfl (efLd0 x)) ?_);have hcs:x.op=0∨x.op=1∨x.op=2∨x.op=3∨x.op=4∨x.op=5∨x.op=6∨x.op=7∨x.op=8:=by omega
  rcases hcs with e|e|e|e|e|e|e|e|e
  ·have q:=p235 (by omega); rw[e]; exact Za rfl (Za rfl (hk _ g99.ok.plain q))
  ·have q:=p235 (by omega); rw[e]; exact Za rfl (Za rfl (hk _ g99.ok.plain q))
  ·have q:=p235 (by omega); rw[e]; exact Za rfl (Za rfl (hk _ g99.ok.plain q))
  ·have q:=p235 (by omega); rw[e]; exact Za rfl (Za rfl (hk _ g99.ok.plain q))
  ·have q:=p236 (by omega) (by omega) (by omega); rw[e]; exact Za rfl (Za rfl (hk _ g100.ok.plain q))
  ·have q:=p237 e; rw[e]; exact Za rfl (Za rfl (hk _ g101.ok.plain q))
  ·have q:=p236 (by omega) (by omega) (by omega); rw[e]; exact Za rfl (Za rfl (hk _ g100.ok.plain q))
  ·have q:=p236 (by omega) (by omega) (by omega); rw[e]; exact Za rfl (Za rfl (hk _ g100.ok.plain q))
  ·have q:=h238 e; rw[e]; exact Za rfl (Za rfl (hk _ g102.ok.plain q))
 ·have h:0≤x.op→¬x.op<9:=by simpa using h
  exact hk _ g100.ok.plain (p236 (by omega) (by omega) (by omega))
theorem c238(u:Int)(x:Ef)(hf:efFit x=true)(h1:∀u',PC 83 [.agg [iv8 u'],efV x.thn] (.bool (efsL u' x.thn)))(h2:∀u',PC 83 [.agg [iv8 u'],efV x.els] (.bool (efsL u' x.els))) :
  PC 102 [.agg [iv8 u],.agg (efC x)] (.bool (efsL (joinL u (cnL x.c)) x.thn&&efsL (joinL u (cnL x.c)) x.els)):=by
 refine Qb hP g102.ok rfl rfl ?_;rw[H2.e]; unfold g102; dsimp only;refine Qa rfl rfl (Qa (Zaa _ _) rfl (Xb rfl (Zd rfl rfl (Xb rfl (Zd (ld rfl (efLdC x)) rfl ?_)))));refine Xe (c254 _ (Xaq hf)) rfl g120.ok.plain (cnRo _) ?_;refine Xe (c250 _ _) rfl g116.ok.plain rfl ?_;refine Xb rfl (Zd rfl rfl (Zd rfl rfl (Yn (by kernel_rfl) ?_)));refine Za rfl (Za rfl (Za (ld rfl (Zq x)) ?_));refine Zc (h1 _) rfl g83.ok.plain rfl ?_;rcases YBE (efsL (joinL u (cnL x.c)) x.thn) with h|h
 ·rw[h];refine Ya (Za rfl (Ya (Za rfl (Ya (Za (ld rfl (Yq x)) (Yb ?_))))));refine Zc (h2 _) rfl g83.ok.plain rfl ?_;exact Za rfl rfl
 ·rw[h];exact Xa rfl (Xa rfl (Xa rfl (Ye rfl (Za rfl rfl))))
theorem Zb2(u:Int):∀l,efsL u l=l.all (efL u)
 |[]=>rfl
 |x::l=>by simp[efsL,Zb2 u l]
theorem c222'(k:Nat):∀(l:List Ef) (u:Int),SizeOf.sizeOf l≤k→lsFit l=true→PC 83 [.agg [iv8 u],efV l] (.bool (efsL u l)):=by
 induction k with
 |zero=>intro l _ h _; cases l<;>simp at h
 |succ k c222'=>
  intro l u hk hf;refine Qb hP g83.ok rfl rfl ?_;rw[H2.e]; unfold g83; dsimp only;refine Qa rfl rfl (Za rfl (Za rfl (Za rfl (Za rfl (Za rfl (Za rfl (Za rfl (Za rfl (Za rfl (Za rfl (Za rfl (Za rfl (Za rfl (Za rfl (Za rfl (Za rfl (Za rfl (Za rfl (Za rfl (Qa rfl rfl (Qa rfl rfl (Za rfl ?_))))))))))))))))))))));have hc:∀x∈l,PC 104 ([]++[.agg (efC x)]++[.rptr [iv8 u] 0,.rptr (asksR u) 0]) (.bool (!efL u x)):=by
   intro x hx;have hfx:=Z1 hf hx;refine c240 u x hfx (λh8=>?_);have e:efL u x=(efsL (joinL u (cnL x.c)) x.thn&&efsL (joinL u (cnL x.c)) x.els):=by rw[Qb1,if_neg (by omega),if_pos h8]
   have hs:=List.sizeOf_lt_of_mem hx;have hs2:=XaQ x;rw[e];exact c238 u x hfx (λu'=>c222' x.thn u' (by omega) (Y0 hfx)) (λu'=>c222' x.els u' (by omega) (Z0 hfx))
  refine ZJ (c239 l (YM hf) 104 [] [.rptr [iv8 u] 0,.rptr (asksR u) 0] g104.ok.plain (λx=>!efL u x) hc (λx=>by rw[Qv]; rfl) rfl) rfl g103.ok.plain rfl rfl ?_;refine Za rfl ?_;rw[Zb2]
  congr 1
  simp only[List.any_eq_not_all_not,Bool.not_not]
theorem c222(l:List Ef)(u:Int)(hf:lsFit l=true):PC 83 [.agg [iv8 u],efV l] (.bool (efsL u l)):=c222' _ l u (Nat.le_refl _) hf
theorem c182(cs:List Cd)(hf:QN cs=true):PC 61 [cdV cs] (.agg [iv (cdsL cs).1,iv (cdsL cs).2]):=by
 simp only[QN,Bool.and_eq_true,decide_eq_true_eq] at hf;obtain⟨f0,f1⟩:=hf;rw[bigE] at f0;refine Qb hP g61.ok rfl rfl ?_;rw[H1.e]; unfold g61; dsimp only;refine Qa rfl rfl (Za rfl (Qa rfl rfl (Qa rfl rfl ?_)));refine Za (v:=iv cs.length) (rd:=[]) (by simp[Qd]) ?_;refine Xn (ι:=Nat) (λi vs σ=>vs=[iv i]∧hget σ 0=.box [iv 0,iv 0]∧hget σ 1=.box [iv8 0]∧0<σ.length∧i≤cs.length∧cdsL cs=cdsL (cs.drop i)) (λi=>cs.length-i) 0 ⟨rfl,rfl,rfl,by simp,by omega,by simp⟩ ?_;rintro i vs σ again ⟨rfl,hz,ho,hz2,hi,hu⟩ hag;refine Za rfl ?_;refine Zb (λh=>?_) (λh=>?_);rotate_left
 ·have h:i=cs.length:=by simp at h; omega
  subst h;rw[List.drop_length,cdsL] at hu;refine Za rfl (Qa (stv hz rfl rfl rfl) (Qi _ hz2) (Yi (YH hz2 rfl) ?_));rw[hu]
 have hi:i<cs.length:=by simpa using h
 have hdr:cs.drop i=cs[i]::cs.drop (i+1):=by rw[YLD hi]
 have hix:=λ(s:List ABlk)=>Xw s cdC false false 12 cs .i64 i hi;have hfi:=List.all_eq_true.1 f1 _ (List.getElem_mem hi);generalize cs[i]=c at hdr hix hfi;rw[hdr,cdsL] at hu;simp only[cdFit,Bool.and_eq_true,decide_eq_true_eq] at hfi;obtain⟨g0,g1,g2,g9993⟩:=hfi;refine Za (hix _) (Za (ldr (cdLd _)) (XG (row:=cdC c) (row':=cdC c) rfl rfl rfl ?_));have hB0:=Zf σ (ABlk.box (cdC c));have hz':hget (σ++[ABlk.box (cdC c)]) 0=.box [iv 0,iv 0]:=Ze _ hz (by simp);have ho':hget (σ++[ABlk.box (cdC c)]) 1=.box [iv8 0]:=Ze _ ho (by simp);have hz2':0<(σ++[ABlk.box (cdC c)]).length:=by simp
 generalize σ++[ABlk.box (cdC c)]=base at hB0 hz' ho' hz2' ⊢;generalize σ.length=b at hB0 ⊢;clear hz hz2 ho;refine Za (ld ho' rfl) (Za rfl (Za (ld hB0 rfl) ?_));refine Zc (c222 _ 0 g1) rfl g83.ok.plain rfl ?_;refine Za rfl ?_;apply cutF (cdL c=false)
 ·intro hR;have good:cdL c=true→VV.rd (Qm .add false [iv i,(.int .i64 1)] base) λt10_26=>again [t10_26] base:=by
   intro hc;rw[hc,if_pos rfl] at hu;refine Za (Zl ..) ?_;rw[Zg (n:=i) (by omega)];exact hag (i+1) _ _ (by omega) ⟨rfl,hz',ho',hz2',by omega,hu⟩
  rcases YBE (!efsL 0 c.played) with a1|a1
  ·rw[a1];repeat first|refine Ya ?_|refine Yb ?_|refine Xa rfl ?_|refine Ye rfl ?_|refine Qf rfl ?_|refine Yh rfl ?_|refine Za (ld hB0 rfl) ?_|refine Za rfl ?_
   refine Yd (hR ?_);have a1:efsL 0 c.played=false:=by simpa using a1
   simp[cdL,a1]
  rw[a1];repeat first|refine Ya ?_|refine Yb ?_|refine Za (ld ho' rfl) ?_|refine Za (ld hB0 rfl) ?_|refine Za rfl ?_
  have a1:efsL 0 c.played=true:=by simpa using a1
  refine Zc (c222 _ 0 g2) rfl g83.ok.plain rfl ?_;repeat first|refine Ya ?_|refine Yb ?_|refine Za (ld ho' rfl) ?_|refine Za (ld hB0 rfl) ?_|refine Za rfl ?_
  rcases YBE (!efsL 0 c.dead) with a2|a2
  ·rw[a2];repeat first|refine Ya ?_|refine Yb ?_|refine Xa rfl ?_|refine Ye rfl ?_|refine Qf rfl ?_|refine Yh rfl ?_|refine Za (ld hB0 rfl) ?_|refine Za rfl ?_
   refine Yd (hR ?_);have a2:efsL 0 c.dead=false:=by simpa using a2
   simp[cdL,a2]
  rw[a2];repeat first|refine Ya ?_|refine Yb ?_|refine Za (ld ho' rfl) ?_|refine Za (ld hB0 rfl) ?_|refine Za rfl ?_
  have a2:efsL 0 c.dead=true:=by simpa using a2
  refine Zc (c222 _ 0 g9993) rfl g83.ok.plain rfl ?_;repeat first|refine Ya ?_|refine Yb ?_|refine Za (ld hB0 rfl) ?_|refine Za rfl ?_
  refine Zb (λa3=>hR ?_) (λa3=>good ?_)
  ·have a3:efsL 0 c.dawn=false:=by simpa using a3
   simp[cdL,a3]
  ·have a3:efsL 0 c.dawn=true:=by simpa using a3
   simp[cdL,a1,a2,a3]
 intro hc;rw[hc] at hu
 replace hu:cdsL cs=(140,c.pl):=hu
 refine Za rfl (Za (ld hB0 rfl) (Za rfl (Qa (stv hz' rfl rfl rfl) (Qi _ hz2') (Yi (YH hz2' rfl) ?_))));rw[hu]
theorem c259(l:List Cd)(hl:l.length≤big)(id:FuncId)(fs cs:List AVal)(hp:Zh prog id=true)(f:Cd→Bool)(hc:∀x∈l,PC id (fs++[.agg (cdC x)]++cs) (.bool (f x)))(hr:∀x,roL (fs++[.agg (cdC x)]++cs)=true) :
  PC 45 [cdV l,.func (.func id) fs cs] (iv (idxF f l 0)):=by
 rw[bigE] at hl;refine Qb hP g45.ok rfl rfl ?_;rw[H2.e]; unfold g45; dsimp only;refine Za (v:=iv l.length) (rd:=[]) (by simp[Qd]) ?_;refine Xn (ι:=Nat) (λi vs s=>vs=[iv i]∧i≤l.length∧idxF f l 0=idxF f (l.drop i) i) (λi=>l.length-i) 0 ⟨rfl,by omega,by simp⟩ ?_;rintro i vs s again ⟨rfl,hi,hr'⟩ hag;refine Za rfl (Zb (λh=>?_) (λh=>?_))
 ·have h:i<l.length:=by simpa using h
  refine Za (Xw _ cdC _ _ _ l _ i h) (Za (ldr (cdLd _)) ?_);refine Zc (hc _ (List.getElem_mem h)) rfl hp (hr _) ?_;rw[YLD h,idxF] at hr';refine Zb (λh2=>?_) (λh2=>?_)
  ·rw[if_pos h2] at hr'; rw[hr']; rfl
  ·rw[if_neg (by rw[h2]; simp)] at hr';refine Za (Zl ..) ?_;rw[Zg (n:=i) (by omega)];exact hag (i+1) _ _ (by omega) ⟨rfl,by omega,by rw[hr']; push_cast; rfl⟩
 ·have h:i=l.length:=by simp at h; omega
  subst h;rw[List.drop_length,idxF] at hr';rw[hr']
theorem XcH(t:Tx):∀(l:List Cd) (n:Nat),((fndI n l t).2=true∧n≤(fndI n l t).1∧(fndI n l t).1<n+l.length∧idxF (λc=>c.name==t) l (n:Int)=((fndI n l t).1:Int))∨((fndI n l t)=(0,false)∧idxF (λc=>c.name==t) l (n:Int) = -1)
 |[],n=>.inr ⟨rfl,rfl⟩
 |c::l,n=>by
  by_cases h:c.name==t
  ·left;have e1:fndI n (c::l) t=(n,true):=if_pos h;have e2:idxF (λc:Cd=>c.name==t) (c::l) (n:Int)=n:=if_pos h;rw[e1,e2]; simp
  ·have e1:fndI n (c::l) t=fndI (n+1) l t:=if_neg h;have e2:idxF (λc:Cd=>c.name==t) (c::l) (n:Int)=idxF (λc:Cd=>c.name==t) l ((n+1:Nat):Int):=by
    have:=(if_neg h:(if (c.name==t)=true then (n:Int) else idxF (λc:Cd=>c.name==t) l ((n:Int)+1))=_)
    push_cast; exact this
   rw[e1,e2];rcases XcH t l (n+1) with ⟨q1,q2,q3,q4⟩|q
   ·exact .inl ⟨q1,by omega,by simp; omega,q4⟩
   ·exact .inr q
theorem c244(c:Cd)(t:Tx):PC 80 [.agg (cdC c),.rptr [.str t] 0] (.bool (c.name==t)):=by
 refine Qb hP g80.ok rfl rfl ?_;rw[H2.e]; unfold g80; dsimp only;exact Qa rfl rfl (Za rfl (Za (ld rfl rfl) (Za rfl (Za rfl rfl))))
theorem c243(l:List Cd)(hl:l.length≤big)(t:Tx)(x:ABlk)(K:AVal→List ABlk→Prop)(hK:∀cs σ,cs.all AVal.cell=true→cs.length=12→K (.tup [.agg cs,iv (fndI 0 l t).1,.bool (fndI 0 l t).2]) ([x,.box [.str t]]++σ)) :
  g79.u VV [cdV l,.func (.func 80) [] [.bptr 1 0]] [x,.box [.str t]] K:=by
 have hc:=c259 l hl 80 [] [.rptr [.str t] 0] g80.ok.plain (λc=>c.name==t) (λx _=>c244 x t) (λx=>rfl);rw[H2.e]; unfold g79; dsimp only;refine Qa rfl rfl ?_;refine ZJ hc rfl g45.ok.plain rfl rfl ?_;clear hc;rcases XcH t l 0 with ⟨q1,q2,q3,q4⟩|⟨q1,q4⟩
 ·rw[Nat.zero_add] at q3;have q4:idxF (λc=>c.name==t) l 0=((fndI 0 l t).1:Int):=q4;rw[q4];rw[q1] at hK;generalize (fndI 0 l t).1=i at q2 q3 hK ⊢;refine Za (QL ..) ?_;rw[decide_eq_false (by omega)];refine Yc (Za (Xw _ cdC _ _ _ l _ i q3) (Za (ldr (cdLd _)) (Qa rfl rfl (Yi rfl ?_))));exact hK (cdC l[i]) _ rfl rfl
 ·have q4:idxF (λc=>c.name==t) l 0 = -1:=q4;rw[q4];rw[q1] at hK;refine Za rfl ?_;refine Yd (Za rfl (Qa rfl rfl (Yi rfl ?_)));exact hK [.str [],.bool false,iv 0,iv 0,iv 0,iv 0,iv 0,iv 0,.nils,.nils,.nils,iv 0] _ rfl rfl
theorem Zdm(cs:List AVal)(h:cs.all AVal.cell=true):cellsOf (.agg cs)=some cs:=by simp[cellsOf,h]
theorem Zbl{α:Type}:∀(a b:List α),a.length=b.length→splice 0 a b=some a
 |[],[],_=>rfl
 |x::a,y::b,h=>by simp only[splice,Zbl a b (by simpa using h)]
theorem c224(b:Bk)(hl:b.cards.length≤big)(t:Tx):PC 55 [bkV b,.str t] (.tup [iv (fndI 0 b.cards t).1,.bool (fndI 0 b.cards t).2]):=by
 refine Qb hP g55.ok rfl rfl ?_;rw[H2.e]; unfold g55; dsimp only;refine Qa rfl rfl (Qa rfl rfl (Za rfl (Za rfl (Za rfl ?_))));refine Xg hP rfl g79.ok rfl (c243 b.cards hl t _ _ (λcs σ h1 h2=>?_));refine Za rfl (Za rfl (Za rfl ?_));refine XG (row:=cs) (row':=cs) (Zdm cs h1) (by rw[h2]; rfl) (Zbl _ _ (by rw[h2]; rfl)) ?_;rfl
theorem YcU{P:Program}{GL:Globs}{c d:Bool}{K:AVal→Prop}{r1:SRes}{σ:List ABlk}(h1:r1=.ok (.bool d) [] [])(hK:K (.bool (c&&d))) :
  (W P GL).gr (.bool c) true (λk=>(W P GL).rd r1 k) λt1=>(W P GL).rd (Ql [.bool c,t1,.bool false] σ) K:=by
 cases c with
 |true=>exact Ya (Za h1 (Za rfl hK))
 |false=>exact Xa rfl (Za rfl hK)
theorem QcU{P:Program}{GL:Globs}{c d:Bool}{K:AVal→Prop}{r1 r2:SRes}{f3:AVal→AVal→SRes}{f4:AVal→SRes}{σ:List ABlk}{v1 v2 v3:AVal}{q1 q2 q3 q4:List Nat}(h1:r1=.ok v1 q1 [])(h2:r2=.ok v2 q2 [])(h3:f3 v1 v2=.ok v3 q3 [])(h4:f4 v3=.ok (.bool d) q4 [])(hK:K (.bool (c&&d))) :
  (W P GL).gr (.bool c) true (λk=>(W P GL).rd r1 k) λt1=>(W P GL).gr (.bool c) true (λk=>(W P GL).rd r2 k) λt2=>(W P GL).gr (.bool c) true (λk=>(W P GL).rd (f3 t1 t2) k) λt3=>(W P GL).gr (.bool c) true (λk=>(W P GL).rd (f4 t3) k) λt4=>(W P GL).rd (Ql [.bool c,t4,.bool false] σ) K:=by
 cases c with
 |true=>exact Ya (Za h1 (Ya (Za h2 (Ya (Za h3 (Ya (Za h4 (Za rfl hK))))))))
 |false=>exact Xa rfl (Xa rfl (Xa rfl (Xa rfl (Za rfl hK))))
theorem ZcV{P:Program}{GL:Globs}{c d:Bool}{K:AVal→Prop}{r1 r3:SRes}{f2 f4:AVal→SRes}{f5:AVal→AVal→SRes}{σ:List ABlk}{v1 v2 v3 v4:AVal}{q1 q2 q3 q4 q5:List Nat}(h1:r1=.ok v1 q1 [])(h2:f2 v1=.ok v2 q2 [])(h3:r3=.ok v3 q3 [])(h4:f4 v3=.ok v4 q4 [])(h5:f5 v2 v4=.ok (.bool d) q5 [])(hK:K (.bool (c&&d))) :
  (W P GL).gr (.bool c) true (λk=>(W P GL).rd r1 k) λt1=>(W P GL).gr (.bool c) true (λk=>(W P GL).rd (f2 t1) k) λt2=>(W P GL).gr (.bool c) true (λk=>(W P GL).rd r3 k) λt3=>(W P GL).gr (.bool c) true (λk=>(W P GL).rd (f4 t3) k) λt4=>(W P GL).gr (.bool c) true (λk=>(W P GL).rd (f5 t2 t4) k) λt5=>(W P GL).rd (Ql [.bool c,t5,.bool false] σ) K:=by
 cases c with
 |true=>exact Ya (Za h1 (Ya (Za h2 (Ya (Za h3 (Ya (Za h4 (Ya (Za h5 (Za rfl hK))))))))))
 |false=>exact Xa rfl (Xa rfl (Xa rfl (Xa rfl (Xa rfl (Za rfl hK)))))
theorem YcV{P:Program}{GL:Globs}{c d:Bool}{K:AVal→Prop}{r1 r2:SRes}{f3:AVal→SRes}{f4:AVal→AVal→SRes}{f5:AVal→SRes}{σ:List ABlk}{v1 v2 v3 v4:AVal}{q1 q2 q3 q4 q5:List Nat}(h1:r1=.ok v1 q1 [])(h2:r2=.ok v2 q2 [])(h3:f3 v2=.ok v3 q3 [])(h4:f4 v1 v3=.ok v4 q4 [])(h5:f5 v4=.ok (.bool d) q5 [])(hK:K (.bool (c&&d))) :
  (W P GL).gr (.bool c) true (λk=>(W P GL).rd r1 k) λt1=>(W P GL).gr (.bool c) true (λk=>(W P GL).rd r2 k) λt2=>(W P GL).gr (.bool c) true (λk=>(W P GL).rd (f3 t2) k) λt3=>(W P GL).gr (.bool c) true (λk=>(W P GL).rd (f4 t1 t3) k) λt4=>(W P GL).gr (.bool c) true (λk=>(W P GL).rd (f5 t4) k) λt5=>(W P GL).rd (Ql [.bool c,t5,.bool false] σ) K:=by
 cases c with
 |true=>exact Ya (Za h1 (Ya (Za h2 (Ya (Za h3 (Ya (Za h4 (Ya (Za h5 (Za rfl hK))))))))))
 |false=>exact Xa rfl (Xa rfl (Xa rfl (Xa rfl (Xa rfl (Za rfl hK)))))
theorem XcU{P:Program}{GL:Globs}{c d:Bool}{K:List ABlk→AVal→Prop}{r1:SRes}{f2:AVal→SRes}{f3:AVal→(AVal→List ABlk→Prop)→Prop}{g:List ABlk→List ABlk}{σ:List ABlk}{v1 v2:AVal}{q1 q2:List Nat}(h1:r1=.ok v1 q1 [])(h2:f2 v1=.ok v2 q2 [])(h3:∀k:AVal→List ABlk→Prop,k (.bool d) σ→f3 v2 k)(hK:K σ (.bool (c&&d))) :
  (W P GL).gr (.bool c) true (λk=>(W P GL).rd r1 k) λt1=>(W P GL).gr (.bool c) true (λk=>(W P GL).rd (f2 t1) k) λt2=>(W P GL).gw (.bool c) true (λk=>f3 t2 k) σ λt3 σ'=>(W P GL).rd (Ql [.bool c,t3,.bool false] (g σ')) (K σ'):=by
 cases c with
 |true=>exact Ya (Za h1 (Ya (Za h2 (Yb (h3 _ (Za rfl hK))))))
 |false=>exact Xa rfl (Xa rfl (Ye rfl (Za rfl hK)))
def Old(σ σ':List ABlk):Prop:=σ.length≤σ'.length∧∀c,c<σ.length→hget σ' c=hget σ c
theorem Old.trans{a b c:List ABlk}(h:Old a b)(k:Old b c):Old a c:=⟨Nat.le_trans h.1 k.1,λi hi=>by rw[k.2 i (by have:=h.1; omega),h.2 i hi]⟩
theorem Old.app(σ l:List ABlk):Old σ (σ++l):=⟨by simp,λ_ h=>Ym l h⟩
theorem Old.get{σ σ':List ABlk}(h:Old σ σ'){c:Nat}{x:ABlk}(hx:hget σ c=x)(hd:x≠.dead):hget σ' c=x:=by
 rw[h.2 c (Xi hx hd)]; exact hx
theorem Bt.past{σ σ':List ABlk}{x:ABlk}(h:Bt σ.length (σ++[x]) σ'):Old σ σ':=by
 obtain⟨h1,h2⟩:=h;simp only[List.length_append,List.length_singleton] at h1 h2;exact⟨by omega,λc hc=>by rw[h2 c (by omega) (by omega),Ym _ hc]⟩
def SeenT(m:List (Tx×Bool))(l:List Tx):Prop:=∀t,(tlook t m).getD false=l.any λd=>d==t
theorem SeenT.nil:SeenT [] []:=λt=>by simp[tlook]
theorem SeenT.put{m:List (Tx×Bool)}{l:List Tx}(h:SeenT m l)(c:Tx):SeenT (tput c true m) (l++[c]):=by
 intro t;rw[XX,List.any_append,←h t];by_cases h2:t==c
 ·have e:t=c:=by simpa using h2
  simp[e]
 ·have h3:(c==t)=false:=by
   rw[Bool.eq_false_iff]; intro h; apply h2; simp at h; simp[h]
  rw[if_neg h2]; simp[h3]
theorem XcN{α:Type}(l:List α)(f:α→Bool):(!l.any f)=l.all λx=>!f x:=by
 induction l with
 |nil=>rfl
 |cons x l ih=>simp[←ih]
theorem Qdg(b:Bk)(hc:b.cards.length≤big)(l:List Tx)(hl:l.length≤big)(ok:Bool){σ:List ABlk}(h0':hget σ 0=.box [cdV b.cards,foV b.formats]){K:List AVal→List ABlk→Prop}
 (hK:∀w σ',Old σ σ'→K [w,.bool (ok&&nmsGo b.cards [] l)] σ') :
  VV.loop (λag56 v57 τ=>VV.rd (Qm .lss false [(h0 v57),iv l.length] τ) λt76_58=>VV.test t76_58 (
   VV.rd (Zm 1 [txV l,(h0 v57)] τ) λt77_59=>VV.rd (Zk false 1 [t77_59] τ) λt78_60=>VV.rd (Zk true 2 [.bptr 0 0] τ) λt80_61=>
   VV.call (.call 55) [t80_61,t78_60] τ λt82_62 τ=>VV.rd (Zn 0 [t82_62] τ) λt83_63=>VV.rd (Zn 1 [t82_62] τ) λt84_64=>
   VV.gr (h1 v57) true (λk=>VV.rd (Z7 [t84_64] τ) k) λt87_65=>VV.rd (Ql [(h1 v57),t87_65,(.bool false)] τ) λt88_66=>
   VV.gr t88_66 true (λk=>VV.rd (Z7 [.map σ.length] τ) k) λt90_67=>VV.gr t88_66 true (λk=>VV.rd (Z7 [t78_60] τ) k) λt91_68=>
   VV.gr t88_66 true (λk=>VV.rd (Xu true false (.bool false) [t90_67,t91_68] τ) k) λt92_69=>VV.gr t88_66 true (λk=>VV.rd (Ybk .not [t92_69] τ) k) λt93_70=>
   VV.rd (Ql [t88_66,t93_70,(.bool false)] τ) λt94_71=>VV.wr (XA true [.map σ.length,t78_60,(.bool true)] τ) τ λ_ τ=>
   VV.rd (Qm .add false [(h0 v57),(.int .i64 1)] τ) λt97_72=>ag56 [t97_72,t94_71] τ) (K v57 τ)) [(.int .i64 0),.bool ok] (σ ++ [.map []]):=by
 rw[bigE] at hl;have hnew:hget (σ++[.map []]) σ.length=.map (mpE []):=Zf _ _;have hlen:σ.length<(σ++[ABlk.map []]).length:=by simp
 refine Xn (ι:=Nat) (λi vs s=>∃ok' m,vs=[iv i,.bool ok']∧i≤l.length∧hget s σ.length=.map (mpE m)∧SeenT m (l.take i)∧Bt σ.length (σ++[.map []]) s∧(ok&&nmsGo b.cards [] l)=(ok'&&nmsGo b.cards (l.take i) (l.drop i))) (λi=>l.length-i) 0 ⟨ok,[],rfl,by omega,hnew,by simpa using SeenT.nil,Bt.refl _ _,by simp⟩ ?_;rintro i vs s again ⟨ok',m,rfl,hi,hm,hse,hbt,hr⟩ hag;have h0'':hget s 0=.box [cdV b.cards,foV b.formats]:=hbt.past.get h0' (by simp);refine Za rfl (Zb (λh=>?_) (λh=>?_))
 ·have h:i<l.length:=by simpa using h
  refine Za (Xw _ txC _ _ _ l _ i h) (Za (ldr (txLd _)) (Za (ld h0'' rfl) ?_));refine Zc (c224 b hc _) rfl g55.ok.plain rfl ?_;refine Za rfl (Za rfl (YcU rfl ?_));refine QcU rfl rfl (Ybq hm _) rfl ?_;refine Qa (Qbd hm _ _) (Qi _ (Xi hm (by simp))) (Za (Zl ..) ?_);rw[Zg (n:=i) (by omega)];have hml:=Xi hm (by simp);refine hag (i+1) _ _ (by omega) ⟨_,_,rfl,by omega,Xf _ hml,by rw[XI _ _ h]; exact hse.put _,hbt.trans ⟨by simp,λc hc hne=>Xd _ hc hne⟩,?_⟩;rw[hr,YLD h,nmsGo,XI _ _ h,hse,XcN];simp only[Bool.and_assoc]
 ·have h:i=l.length:=by simp at h; omega
  subst h;rw[List.drop_length,nmsGo,Bool.and_true] at hr;have:=hK (iv (l.length:Int)) s hbt.past;rw[hr] at this; exact this
def SeenF(m:List (Tx×Bool))(l:List Fo):Prop:=∀t,(tlook t m).getD false=l.any λd=>d.name==t
theorem SeenF.put{m:List (Tx×Bool)}{l:List Fo}(h:SeenF m l)(c:Fo):SeenF (tput c.name true m) (l++[c]):=by
 intro t;rw[XX,List.any_append,←h t];by_cases h2:t==c.name
 ·have e:t=c.name:=by simpa using h2
  simp[e]
 ·have h3:(c.name==t)=false:=by
   rw[Bool.eq_false_iff]; intro h; apply h2; simp at h; simp[h]
  rw[if_neg h2]; simp[h3]
theorem c184(b:Bk)(hf:bkFit b=true):PC 63 [bkV b] (.agg [iv (fmtGo b [] b.formats).1,iv (fmtGo b [] b.formats).2]):=by
 simp only[bkFit,QN,Bool.and_eq_true,decide_eq_true_eq] at hf;obtain⟨⟨fc,_⟩,fl,fa⟩:=hf;have fl':=fl;rw[bigE] at fl';refine Qb hP g63.ok rfl rfl ?_;rw[H1.e]; unfold g63; dsimp only;refine Qa rfl rfl (Qa rfl rfl (Qa rfl rfl (Za rfl (Za rfl ?_))));refine Za (v:=iv b.formats.length) (rd:=[]) (by simp[Qd]) ?_;refine Xn (ι:=Nat) (λi vs σ=>∃m,vs=[iv i]∧i≤b.formats.length∧hget σ 0=.box [cdV b.cards,foV b.formats]∧hget σ 1=.box [iv 0,iv 0]∧hget σ 2=.map (mpE m)∧SeenF m (b.formats.take i)∧fmtGo b [] b.formats=fmtGo b (b.formats.take i) (b.formats.drop i)) (λi=>b.formats.length-i) 0 ⟨[],rfl,by omega,rfl,rfl,rfl,λt=>by simp[tlook],by simp⟩ ?_;rintro i vs σ again ⟨m,rfl,hi,hb0,hb1,hb2,hse,hr⟩ hag;refine Za rfl (Zb (λh=>?_) (λh=>?_));rotate_left
 ·have h:i=b.formats.length:=by simp at h; omega
  subst h;rw[List.drop_length,fmtGo] at hr;refine Za rfl (Qa (stv hb1 rfl rfl rfl) (Qi _ (Xi hb1 (by simp))) (Yi (YH (Xi hb1 (by simp)) rfl) ?_));rw[hr]
 have h:i<b.formats.length:=by simpa using h
 have hix:=λ(s:List ABlk)=>Xw s foC false false 7 b.formats .i64 i h;have hfo:=List.all_eq_true.1 fa _ (List.getElem_mem h);have htk:=XI _ _ h;rw[YLD h,fmtGo] at hr;generalize b.formats[i]=f at hix hfo htk hr;simp only[foFit,Bool.and_eq_true,decide_eq_true_eq] at hfo;obtain⟨fo1,fo2,fo3⟩:=hfo;refine Za (hix _) (Za (ldr (foLd f)) (XG (row:=foC f) (row':=foC f) rfl rfl rfl ?_));have hB:=Zf σ (ABlk.box (foC f));have hb0':hget (σ++[ABlk.box (foC f)]) 0=.box [cdV b.cards,foV b.formats]:=Ze _ hb0 (by simp);have hb1':hget (σ++[ABlk.box (foC f)]) 1=.box [iv 0,iv 0]:=Ze _ hb1 (by simp);have hb2':hget (σ++[ABlk.box (foC f)]) 2=.map (mpE m):=Ze _ hb2 (by simp);generalize σ++[ABlk.box (foC f)]=τ at hB hb0' hb1' hb2' ⊢;generalize σ.length=c at hB ⊢;clear hb0 hb1 hb2;refine Za (QL ..) ?_;refine XcU (g:=λs=>s) (σ:=τ) (d:=nameOk f.name) rfl (ld hB rfl) (λk hk=>Zc (c223 _ fo1) rfl g67.ok.plain rfl hk) ?_;refine YcV rfl rfl (ld hB rfl) (Ybq hb2' _) rfl ?_;refine YaB rfl (ld hB rfl) (Yaa ..) ?_;refine ZcV rfl (ld hB rfl) rfl (ld hB rfl) (QcB ..) ?_;refine YaB rfl (ld hB rfl) (QcB ..) ?_;refine YaB rfl (ld hB rfl) (Yaa ..) ?_;refine YaB rfl (ld hB rfl) (QcB ..) ?_;refine Za rfl (Za (ld hB rfl) (Za rfl (Za (ld hB rfl) (Za rfl ?_))));refine QP 3 (Qk (Za rfl (Yd (Za rfl (Qa rfl (Yk _ _) ?_)))));refine Za (v:=iv f.banned.length) (rd:=[]) (by simp[Qd]) ?_;refine Qdg b fc f.banned fo2 _ hb0' (λw τ2 o2=>?_);refine Za rfl (Qk (Za rfl (Yd (Za rfl (Qa rfl (Yk _ _) ?_)))));refine Za (v:=iv f.single.length) (rd:=[]) (by simp[Qd]) ?_;refine Qdg b fc f.single fo3 _ (o2.get hb0' (by simp)) (λw τ3 o3=>?_);have o:=o2.trans o3;refine Za rfl (Qk (Za rfl (Yc ?_)));have hok:((((((((((decide ((i:Int)<240)&&nameOk f.name) && !(tlook f.name m).getD false)&&decide (0≤f.least))&&decide (f.least≤f.most))&&decide (f.most≤60))&&decide (0≤f.copies))&&decide (f.copies≤999))&&nmsGo b.cards [] f.banned)&&nmsGo b.cards [] f.single))=fmtOk b (b.formats.take i) f:=by
  have hti:(b.formats.take i).length=i:=by rw[List.length_take]; omega
  have e:decide ((i:Int)<240)=decide (i<240):=by congr 1; simp; omega
  rw[fmtOk,hti,hse,e];generalize (List.take i b.formats).any (λg=>g.name==f.name)=x1;generalize decide (i<240)=x2;generalize nameOk f.name=x3;cases x1<;>cases x2<;>cases x3<;>simp[Bool.and_assoc]
 have hb1'':=o.get hb1' (by simp);have hb2'':=o.get hb2' (by simp);have hB'':=o.get hB (by simp);have hb0'':=o.get hb0' (by simp);refine Za (v:=.bool (!fmtOk b (b.formats.take i) f)) (rd:=[]) (by rw[←hok]; rfl) ?_;refine Zb (λh2=>?_) (λh2=>?_)
 ·have h2:fmtOk b (b.formats.take i) f=false:=by simpa using h2
  rw[h2,if_neg (by simp)] at hr;refine Za rfl (Za (ld hB'' rfl) (Za rfl (Qa (stv hb1'' rfl rfl rfl) (Qi _ (Xi hb1'' (by simp))) (Yi (YH (Xi hb1'' (by simp)) rfl) ?_))));rw[hr]
 ·have h2:fmtOk b (b.formats.take i) f=true:=by simpa using h2
  rw[h2,if_pos rfl] at hr;refine Za rfl (Za (ld hB'' rfl) (Qa (Qbd hb2'' _ _) (Qi _ (Xi hb2'' (by simp))) (Za (Zl ..) ?_)));rw[Zg (n:=i) (by omega)];refine hag (i+1) _ _ (by omega) ⟨_,rfl,by omega,?_,?_,Xf _ (Xi hb2'' (by simp)),by rw[htk]; exact hse.put f,by rw[htk]; exact hr⟩
  ·exact Qe hb0'' (by simp) (by omega)
  ·exact Qe hb1'' (by simp) (by omega)
def Yj(l:List Cd):Prop:=∀c∈l,(cdP c).length≤500000000
theorem c180'(cs:List Cd)(hf:QN cs=true)(hs:Yj cs):PC 27 [cdV cs] (.agg [iv (QY cs).1,iv (QY cs).2]):=by
 refine c180 cs hf (λm hm c hc=>?_);have hfc:cdFit c=true:=by
  simp only[QN,Bool.and_eq_true] at hf;exact List.all_eq_true.1 hf.2 c hc
 have hfc':=hfc;simp only[cdFit,Bool.and_eq_true,decide_eq_true_eq] at hfc';obtain⟨q0,q1,q2,q3⟩:=hfc';exact c221 m cs hm c hfc (c223 _ q0) (c124 c q1 q2 q3 (hs c hc))
theorem c143(b:Bk)(hf:bkFit b=true)(hs:Yj b.cards):PC 42 [bkV b] (.agg [iv (bkR b).1,iv (bkR b).2]):=by
 have hf':=hf;simp only[bkFit,Bool.and_eq_true] at hf';have hcf:=hf'.1;have p179:PC 59 [.rptr [cdV b.cards,foV b.formats] 0] (.agg [iv (QY b.cards).1,iv (QY b.cards).2]):=by
  refine Qb hP g59.ok rfl rfl ?_;rw[H1.e]; unfold g59; dsimp only;refine Qa rfl rfl (Za rfl (Za rfl ?_));refine Zc (c180' _ hcf hs) rfl g27.ok.plain rfl ?_;exact Qa rfl rfl (Yi rfl rfl)
 have p181:PC 60 [.rptr [cdV b.cards,foV b.formats] 0] (.agg [iv (cdsL b.cards).1,iv (cdsL b.cards).2]):=by
  refine Qb hP g60.ok rfl rfl ?_;rw[H1.e]; unfold g60; dsimp only;refine Qa rfl rfl (Za rfl (Za rfl ?_));refine Zc (c182 _ hcf) rfl g61.ok.plain rfl ?_;exact Qa rfl rfl (Yi rfl rfl)
 have p183:PC 62 [.rptr [cdV b.cards,foV b.formats] 0] (.agg [iv (fmtGo b [] b.formats).1,iv (fmtGo b [] b.formats).2]):=by
  refine Qb hP g62.ok rfl rfl ?_;rw[H1.e]; unfold g62; dsimp only;refine Qa rfl rfl (Za rfl ?_);refine Zc (c184 b hf) rfl g63.ok.plain rfl ?_;exact Qa rfl rfl (Yi rfl rfl)
 refine Qb hP g42.ok rfl rfl ?_;rw[H1.e]; unfold g42; dsimp only;refine Qa rfl rfl (Qa rfl rfl (Za rfl (Za rfl (Za rfl (Za rfl ?_)))));refine QP 4 (Qk (Za rfl (Yd (Za rfl ?_))));refine ZJ p179 rfl g59.ok.plain rfl rfl (Qa rfl rfl (Qa rfl rfl (Za rfl (Za rfl (Za (XS ..) (Zb (λh=>?_) (λh=>Za rfl ?_)))))))
 ·refine Za rfl (Qa rfl rfl (Yi rfl ?_));rw[bkR,if_pos (by simpa using h)]
 refine Qk (Za rfl (Yd (Za rfl ?_)));refine ZJ p181 rfl g60.ok.plain rfl rfl (Qa rfl rfl (Qa rfl rfl (Za rfl (Za rfl (Za (XS ..) (Zb (λh2=>?_) (λh2=>Za rfl ?_)))))))
 ·refine Za rfl (Qa rfl rfl (Yi rfl ?_));rw[bkR,if_neg (by simpa using h),if_pos (by simpa using h2)]
 refine Qk (Za rfl (Yd (Za rfl ?_)));refine ZJ p183 rfl g62.ok.plain rfl rfl (Qa rfl rfl (Qa rfl rfl (Za rfl (Za rfl (Za (XS ..) (Zb (λh3=>?_) (λh3=>Za rfl ?_)))))))
 ·refine Za rfl (Qa rfl rfl (Yi rfl ?_));rw[bkR,if_neg (by simpa using h),if_neg (by simpa using h2)]
 refine Qk (Za rfl (Yc (Za rfl (Qa rfl rfl (Yi rfl ?_)))));rw[bkR,if_neg (by simpa using h),if_neg (by simpa using h2)];have h3:(fmtGo b [] b.formats).1=0:=by simpa using h3
 have key:∀(l pre:List Fo),(fmtGo b pre l).1=0→(fmtGo b pre l).2=0:=by
  intro l
  induction l with
  |nil=>intro pre _; rfl
  |cons f l ih=>
   intro pre;rw[fmtGo];split
   ·exact ih _
   ·intro h; simp at h
 rw[h3,key _ _ h3]
end Go.Ah.Tz
end
