/- Part of the proof that WakeQuiet holds of the program for arguments that together hold at most 1048576 values and letters; no other condition. -/
import Derived.Test.YtjdgnfkcaccidaaGreatDoorZ1
import Derived.Orders
import Derived.DataReads
import Derived.ChangeShapes
import Derived.KernelRfl
import Derived.Test.YtjdgnfkcaccidaaGreatDoorProg
set_option linter.all false
section
namespace Go.Ah
def Loc(P:Program)(GL:aw)(m:aI)(ρ:Frame)(h0:Hp)(v:aa)(rd:List Nat)(up:List (Nat×ab)):Prop:=
 ∀(n:Nat) (ops:Array Oper) (o:Oper),e_ P GL n ops o m→∀(ρ':Frame) (h:Hp) (w0:World) (L:Ln) (g:Gm) (w:World) (a:Act),
  (∀t∈gQ m,bB ρ' t=bB ρ t)→(∀b∈rd,h b=h0 b)→(∀p∈up,h p.1=h0 p.1)→br GL w0 L g h w→cD n g ρ' a →
  ∀(next:Act→World→Prop) (Q:Exit→Act→World→Prop),(∀g' w' u,g.Le g'→br GL w0 L g' (cq h up) w'→cD n g' (cc m.dst v ρ') (a.put o.dst u)→next (a.put o.dst u) w') →
   if Region.wanted o (yielded ops a.tmps) then o.wp P a w next Q∨(o.asks P a w∧LetsOut Q) else next (a.put o.dst undef) w
section
variable {P:Program} {GL:aw}
theorem Lp{m:aI}{ρ ρ':Frame}(h:∀t∈gQ m,bB ρ' t=bB ρ t):m.xs.map (ev ρ')=m.xs.map (ev ρ):=by
 apply List.map_congr_left;intro x hx;cases x with
 |t n=>exact h n (List.mem_append.2 (.inl (List.mem_filterMap.2 ⟨.t n,hx,rfl⟩)))
 |c v=>rfl
theorem EG{m:aI}{ρ ρ':Frame}(h:∀t∈gQ m,bB ρ' t=bB ρ t){cs:List (Bool×Bool)}(hg:cZ ρ m.guard cs):cZ ρ' m.guard cs:=by
 unfold gQ at h;generalize m.guard=gd at hg h;cases hg with
 |none=>exact .none
 |bool s w c e=>exact .bool s w c (by rw[h s (by simp)]; exact e)
 |when s w c cs e=>exact .when s w c cs (by rw[h s (by simp)]; exact e)
theorem Yb4{m:aI}{ρ:Frame}{σ:List ab}{lg:Log}{K:Frame→List ab→Log→Prop}(s:dN true P GL m ρ σ lg K) :
  ∃v rd up σ',gP σ up=some σ'∧K (cc m.dst v ρ) σ' (lg++[(rd,up.map (·.1))])∧Loc P GL m ρ (hp σ) v rd up:=by
 cases s with
 |run cs ys v rd up σ' h1 h2 h3 h4 h5 h6=>
  refine⟨v,rd,up,σ',h5,h6,?_⟩;intro n ops o ok ρ' h w0 L g w a hu cH eA r d next Q hn;obtain⟨os,jS,sG⟩:=ok.op;have kI:=ES r d sG;rw[if_pos ((Zt ok d (EG hu h1)).1 h2)];left;have cI:=DM trivial h3 (by rw[←Lp hu]; exact kI);have ho:=h4 o os jS w0 L g h w a r cI cH eA;refine ho.upon (λg' u w' hle hr hu=>hn g' w' u hle hr ?_);rw[ok.dst];exact(d.mono hle).cc ok.lt hu
 |skip cs h1 h2 h3=>
  refine⟨.aF,[],[],σ,rfl,h3,?_⟩;intro n ops o ok ρ' h w0 L g w a hu cH eA r d next Q hn;rw[if_neg (by grind [Zt,EG])];refine hn g w undef (Gm.Le.refl g) r ?_;rw[ok.dst];exact d.cc ok.lt (.aF _ _)
 |lazy cs ys v rd h1 h2 h3 h4=>
  refine⟨.when cs v,rd,[],σ,rfl,h4,?_⟩;intro n ops o ok ρ' h w0 L g w a hu cH eA r d next Q hn;obtain⟨os,jS,sG⟩:=ok.op;have kI:=ES r d sG;by_cases hh:d_ cs
  ·rw[if_pos ((Zt ok d (EG hu h1)).1 hh)];left;have cI:=DM hh h2 (by rw[←Lp hu]; exact kI);have ho:=h3 hh o os jS w0 L g h w a r cI cH eA;refine ho.upon (λg' u w' hle hr hu=>hn g' w' u hle hr ?_);rw[ok.dst];exact(d.mono hle).cc ok.lt (.when _ _ _ _ (λ_=>hu) (λh=>(h hh).elim))
  ·rw[if_neg (by grind [Zt,EG])];refine hn g w undef (Gm.Le.refl g) r ?_;rw[ok.dst];exact d.cc ok.lt (.when _ _ _ _ (λh=>(hh h).elim) (λ_=>rfl))
 |pick cs x y z c p q v h1 hk xm hx hy hz hv h8=>
  refine⟨v,[],[],σ,rfl,h8,?_⟩;intro n ops o ok ρ' h w0 L g w a hu cH eA r d next Q hn;obtain⟨os,jS,sG⟩:=ok.op;have kI:=ES r d sG;rw[Lp hu,xm] at kI;have yr:=EG hu h1;have j8:=jS;rw[hk] at j8;generalize mX:o.op=op at j8;cases j8 with
  |pick oc oa ob=>
   obtain⟨d1,d2,d3,_⟩:=kI;by_cases hh:d_ cs
   ·rw[if_pos ((Zt ok d yr).1 hh)];left;have e1:=QC (zn hh hx d1);have mf:g.den (.bool (bif c then p else q)) (if c then a.eval oa else a.eval ob):=by
     cases c
     ·exact zn ⟨hh,rfl⟩ hz d3
     ·exact zn ⟨hh,rfl⟩ hy d2
    have bL:(execOp a.eval o).run P w=.ok (.value (if c then a.eval oa else a.eval ob)) w:=by
     simp_all [execOp,asBool]
    unfold Oper.wp;rw[bL];refine hn g _ _ (Gm.Le.refl g) r ?_;rw[ok.dst];rcases hv with rfl|⟨rfl,rfl⟩
    ·exact d.cc ok.lt (.when _ _ _ _ (λ_=>mf) (λh=>(h hh).elim))
    ·exact d.cc ok.lt mf
   ·rw[if_neg (by rw[(Zt ok d yr).2 hh]; simp)];refine hn g _ _ (Gm.Le.refl g) r ?_;rw[ok.dst];rcases hv with rfl|⟨rfl,rfl⟩
    ·exact d.cc ok.lt (.when _ _ _ _ (λh=>(hh h).elim) (λ_=>rfl))
    ·exact(hh (by simp[d_])).elim
 |rel cs ys R h0=>cases h0
structure TS where
 v:aa
 rd:List Nat
 up:List (Nat×ab)
def Tr(P:Program)(GL:aw):List aI→List TS→Frame→List ab→Log→(Frame→List ab→Log→Prop)→Prop
 |[],[],ρ,σ,lg,Q=>Q ρ σ lg
 |m::ms,t::ts,ρ,σ,lg,Q=>Loc P GL m ρ (hp σ) t.v t.rd t.up∧∃σ',gP σ t.up=some σ'∧Tr P GL ms ts (cc m.dst t.v ρ) σ' (lg++[(t.rd,t.up.map (·.1))]) Q
 |_,_,_,_,_,_=>False
theorem MI:∀(ms:List aI) (ρ:Frame) (σ:List ab) (lg:Log) (Q:Frame→List ab→Log→Prop),gS true P GL ms ρ σ lg Q→∃ts,Tr P GL ms ts ρ σ lg Q
 |[],ρ,σ,lg,Q,h=>⟨[],h⟩
 |m::ms,ρ,σ,lg,Q,h=>by
  obtain⟨v,rd,up,σ',h1,h2,h3⟩:=Yb4 h;obtain⟨ts,ht⟩:=MI ms _ _ _ Q h2;exact⟨⟨v,rd,up⟩::ts,h3,σ',h1,ht⟩
def jI(S:Nat→Bool):Nat→List aI→List TS→Frame→Frame
 |i,m::ms,t::ts,ρ=>jI S (i+1) ms ts (if S i then cc m.dst t.v ρ else ρ)
 |_,_,_,ρ=>ρ
def iO(S:Nat→Bool):Nat→List TS→Hp→Hp
 |i,t::ts,h=>iO S (i+1) ts (if S i then cq h t.up else h)
 |_,_,h=>h
theorem QV{S S':Nat→Bool}{t:Nat}:∀(ms:List aI) (ts:List TS) (i:Nat) (ρ ρ':Frame),(∀(k:Nat) (m:aI),ms[k]?=some m→m.dst=some t→S (i+k)=S' (i+k))→bB ρ t=bB ρ' t→bB (jI S i ms ts ρ) t=bB (jI S' i ms ts ρ') t
 |[],_,_,_,_,_,h=>by simpa[jI] using h
 |_::_,[],_,_,_,_,h=>by simpa[jI] using h
 |m::ms,x::ts,i,ρ,ρ',hs,h=>by
  simp only[jI];refine QV ms ts (i+1) _ _ (λk m' e1 e2=>by have:=hs (k+1) m' (by simpa using e1) e2; grind) ?_;by_cases hd:m.dst=some t
  ·have:=hs 0 m rfl hd;rw[Nat.add_zero] at this
   grind [Y4]
  ·have e1:∀(b:Bool) (r:Frame),bB (if b then cc m.dst x.v r else r) t=bB r t:=by simp_all [Y4]
   rw[e1,e1,h]
theorem Lu:∀(up:List (Nat×ab)) (h h':Hp) (b:Nat),b∈up.map (·.1)→cq h up b=cq h' up b
 |[],_,_,_,e=>by cases e
 |(a,x)::up,h,h',b,e=>by
  by_cases hb:b∈up.map (·.1)
  ·exact Lu up _ _ b hb
  ·have:b=a:=by simp_all
   subst this;have out:∀(up:List (Nat×ab)) (h:Hp),b∉up.map (·.1)→cq h up b=h b:=by
    intro up
    induction up<;>simp_all [cq,Yq]
   simp_all [cq,Qu]
theorem Ke:∀(up:List (Nat×ab)) (h:Hp) (b:Nat),b∉up.map (·.1)→cq h up b=h b
 |[],_,_,_=>rfl
 |(a,x)::up,h,b,hn=>by
  simp only[List.map_cons,List.mem_cons,not_or] at hn;show cq (eA h a x) up b=h b;rw[Ke up _ b hn.2,Yq _ _ hn.1]
theorem ZW{S S':Nat→Bool}{b:Nat}:∀(ts:List TS) (i:Nat) (h h':Hp),(∀(k:Nat) (t:TS),ts[k]?=some t→b∈t.up.map (·.1)→S (i+k)=S' (i+k))→h b=h' b→iO S i ts h b=iO S' i ts h' b
 |[],_,_,_,_,h=>by simpa[iO] using h
 |x::ts,i,h,h',hs,e=>by
  simp only[iO];refine ZW ts (i+1) _ _ (λk t e1 e2=>by have:=hs (k+1) t (by simpa using e1) e2; grind) ?_;by_cases hd:b∈x.up.map (·.1)
  ·have:=hs 0 x rfl hd;rw[Nat.add_zero] at this
   grind [Lu]
  ·have e1:∀(c:Bool) (r:Hp),(if c then cq r x.up else r) b=r b:=by simp_all [Ke]
   rw[e1,e1,e]
theorem L6{S:Nat→Bool}{t:Nat}:∀(ms:List aI) (ts:List TS) (i:Nat) (ρ:Frame) (j:Nat) (m:aI) (x:TS),ms[j]?=some m→ts[j]?=some x→m.dst=some t→S (i+j)=true →
  (∀(k:Nat) (m':aI),ms[k]?=some m'→m'.dst=some t→S (i+k)=true→k≤j)→bB (jI S i ms ts ρ) t=x.v
 |m::ms,x::ts,i,ρ,0,m0,x0,e1,e2,e3,e4,hl=>by
  simp at e1 e2; subst e1 e2;rw[Nat.add_zero] at e4;simp only[jI,e4,if_true];have:=QV (S:=S) (S':=λ_=>false) (t:=t) ms ts (i + 1) (cc m.dst x.v ρ) (cc m.dst x.v ρ) (λk m' q1 q2=>by
   cases hS:S (i+1+k) with
   |false=>rfl
   | true=>have:=hl (k + 1) m' (by simpa using q1) q2 (by grind); omega) rfl
  rw[this];have jg:∀(ms:List aI) (ts:List TS) (i:Nat) (ρ:Frame),jI (λ_=>false) i ms ts ρ=ρ:=by
   intro ms
   induction ms with
   |nil=>intros; simp[jI]
   |cons m ms ih=>intro ts i ρ; cases ts<;>simp_all [jI]
  rw[jg,Y4,if_pos e3]
 |m::ms,x::ts,i,ρ,j+1,m0,x0,e1,e2,e3,e4,hl=>by
  simp only[jI];exact L6 ms ts (i + 1) _ j m0 x0 (by simpa using e1) (by simpa using e2) e3 (by rwa [show i + 1 + j=i + (j + 1) by omega]) (λk m' q1 q2 q3=>by
   have:=hl (k + 1) m' (by simpa using q1) q2 (by rwa [show i + (k + 1)=i + 1 + k by omega]); omega)
 |[],_,_,_,_,_,_,e1,_,_,_,_=>by simp at e1
 |_::_,[],_,_,_,_,_,_,e2,_,_,_=>by simp at e2
theorem L7{S:Nat→Bool}{b:Nat}:∀(ts:List TS) (i:Nat) (h:Hp) (j:Nat) (x:TS),ts[j]?=some x→b∈x.up.map (·.1)→S (i+j)=true →
  (∀(k:Nat) (x':TS),ts[k]?=some x'→b∈x'.up.map (·.1)→S (i+k)=true→k≤j)→∀h':Hp,iO S i ts h b=cq h' x.up b
 |x::ts,i,h,0,x0,e2,e3,e4,hl,h'=>by
  simp at e2; subst e2;rw[Nat.add_zero] at e4;simp only[iO,e4,if_true];have:=ZW (S:=S) (S':=λ_=>false) (b:=b) ts (i + 1) (cq h x.up) (cq h' x.up) (λk m' q1 q2=>by
   cases hS:S (i+1+k) with
   |false=>rfl
   | true=>have:=hl (k + 1) m' (by simpa using q1) q2 (by grind); omega) (Lu _ _ _ _ e3)
  rw[this];have jg:∀(ts:List TS) (i:Nat) (h:Hp),iO (λ_=>false) i ts h=h:=by
   intro ts
   induction ts<;>grind [iO]
  rw[jg]
 |x::ts,i,h,j+1,x0,e2,e3,e4,hl,h'=>by
  simp only[iO];exact L7 ts (i + 1) _ j x0 (by simpa using e2) e3 (by rwa [show i + 1 + j=i + (j + 1) by omega]) (λk m' q1 q2 q3=>by
   have:=hl (k + 1) m' (by simpa using q1) q2 (by rwa [show i + (k + 1)=i + 1 + k by omega]); omega) h'
 |[],_,_,_,_,e2,_,_,_,_=>by simp at e2
theorem EK:∀(ms:List aI) (ts:List TS) (i:Nat) (ρ:Frame) (σ:List ab) (lg:Log) (Q:Frame→List ab→Log→Prop),Tr P GL ms ts ρ σ lg Q →
  ts.length=ms.length ∧
  (∀(j:Nat) (m:aI) (x:TS),ms[j]?=some m→ts[j]?=some x→∃ρ',(∀t,bB ρ' t=bB (jI (λk=>decide (k<i+j)) i ms ts ρ) t)∧Loc P GL m ρ' (iO (λk=>decide (k<i+j)) i ts (hp σ)) x.v x.rd x.up) ∧
  ∃ρ' σ',(∀t,bB ρ' t=bB (jI (λ_=>true) i ms ts ρ) t)∧hp σ'=iO (λ_=>true) i ts (hp σ)∧Q ρ' σ' (lg++ts.map λx=>(x.rd,x.up.map (·.1)))
 |[],[],i,ρ,σ,lg,Q,h=>⟨rfl,by simp,ρ,σ,by simp[jI],by simp[iO],by simpa[Tr] using h⟩
 |[],_::_,_,_,_,_,_,h=>h.elim
 |_::_,[],_,_,_,_,_,h=>h.elim
 |m::ms,x::ts,i,ρ,σ,lg,Q,h=>by
  obtain⟨h1,σ',h2,h3⟩:=h;obtain⟨k1,k2,ρ2,σ2,k3,k4,k5⟩:=EK ms ts (i+1) _ _ _ _ h3;have hu:=ET _ _ _ h2;refine⟨by simp[k1],λj m' x' e1 e2=>?_,ρ2,σ2,λt=>by rw[k3 t]; simp[jI],by simp_all [iO],by simpa[List.append_assoc] using k5⟩;cases j with
  |zero=>
   simp at e1 e2; subst e1 e2;have hf:∀t,bB ρ t=bB (jI (λk=>decide (k<i+0)) i (m::ms) (x::ts) ρ) t:=by
    intro t;have:=QV (S:=λk=>decide (k<i+0)) (S':=λ_=>false) (t:=t) (m::ms) (x::ts) i ρ ρ (λk _ _ _=>by simp) rfl;rw[this];have jg:∀(ms:List aI) (ts:List TS) (i:Nat) (ρ:Frame),jI (λ_=>false) i ms ts ρ=ρ:=by
     intro ms
     induction ms with
     |nil=>intros; simp[jI]
     |cons m ms ih=>intro ts i ρ; cases ts<;>simp_all [jI]
    rw[jg]
   have hh:iO (λk=>decide (k<i+0)) i (x::ts) (hp σ)=hp σ:=by
    funext b
    have:=ZW (S:=λk=>decide (k<i+0)) (S':=λ_=>false) (b:=b) (x::ts) i (hp σ) (hp σ) (λk _ _ _=>by simp) rfl;rw[this];have jg:∀(ts:List TS) (i:Nat) (h:Hp),iO (λ_=>false) i ts h=h:=by
     intro ts
     induction ts<;>simp_all [iO]
    rw[jg]
   grind
  |succ j=>
   grind [jI,iO]
end
end Go.Ah
end
section
namespace Go.Ah
theorem DR:∀ {a b:List Nat},eZ a b=true→∀x,x∈a→x∉b
 |[],_,_,x,h=>by cases h
 |y::a,b,hd,x,h=>by
  simp only[eZ,Bool.and_eq_true,Bool.not_eq_true'] at hd;rcases List.mem_cons.1 h with rfl|h
  ·intro hb; have:=List.contains_iff_mem.2 hb; rw[hd.1] at this; cases this
  ·exact DR hd.2 x h
theorem Y8{h:List Nat}{q:List Nat×List Nat}:∀ {lg:Log} {i:Nat},Zu h q i lg=true→∀(k:Nat) (p:List Nat×List Nat),lg[k]?=some p→(i+k)∈h∨c9 p q=true
 |[],_,_,_,_,e=>by simp at e
 |p::lg,i,hh,0,p',e=>by
  simp_all [Zu]
 |p::lg,i,hh,k+1,p',e=>by
  simp only[Zu,Bool.and_eq_true] at hh;have:=Y8 hh.2 k p' (by simpa using e)
  grind
def nU(S:Nat→Bool):Nat→Nat
 |0=>0
 |n+1=>nU S n+(if S n then 0 else 1)
theorem JU{S:Nat→Bool}:∀ {n:Nat},nU S n=0→∀k,k<n→S k=true
 |0,_,k,h=>by omega
 |n+1,e,k,h=>by
  simp only[nU] at e;by_cases hk:k=n
  ·simp_all
  ·exact JU (S:=S) (n:=n) (by omega) k (by omega)
theorem Ti{S S':Nat→Bool}:∀ {n:Nat},(∀k,k<n→S' k=S k)→nU S' n=nU S n
 |0,_=>rfl
 |n+1,h=>by simp only[nU]; rw[Ti (λk hk=>h k (by omega)),h n (by omega)]
theorem Jh{S S':Nat→Bool}{j:Nat}:∀ {n:Nat},j<n→S j=false→S' j=true→(∀k,k<n→k≠j→S' k=S k)→nU S' n+1=nU S n
 |0,h,_,_,_=>by omega
 |n+1,h,h1,h2,h3=>by
  simp only[nU];by_cases hj:j=n
  ·grind [Ti]
  ·have:=Jh (n:=n) (by omega) h1 h2 (λk hk cL=>h3 k (by omega) cL)
   grind
structure nP (ops:List Oper) (ms:List aI) (hd:List (List Nat)):Prop where
 len:ops.length=ms.length
 back:∀j,j<ms.length→∀i∈waits (ops.getD j default),i<j
 ahd:∀j,j<ms.length→∀i∈Qq hd j,i<j∧(i∈waits (ops.getD j default)∨∃k∈waits (ops.getD j default),i∈Qq hd k)
 lQ:∀j,j<ms.length→∀i,i<j→i∈Qq hd j∨((∀t∈dP (ms.getD i default),t∉gQ (ms.getD j default))∧(∀t∈dP (ms.getD i default),t∉dP (ms.getD j default))∧∀t∈gQ (ms.getD i default),t∉dP (ms.getD j default))
theorem Z6{ops:List Oper}{ms:List aI}{hd:List (List Nat)}(h:vX ops ms hd=true):nP ops ms hd:=by
 unfold vX at h;simp only[Bool.and_eq_true,List.all_eq_true,List.mem_range,Bool.or_eq_true,List.any_eq_true] at h;obtain⟨⟨⟨⟨h1,h2⟩,h3⟩,h4⟩,h5⟩:=h;refine⟨e9 h1,λj hj i hi=>gE (h3 j hj i hi),λj hj i hi=>?_,λj hj i hi=>?_⟩
 ·simp_all
 grind [DR]
section
variable {P:Program} {GL:aw}
theorem ER{ops:List Oper}{ms:List aI}{hd:List (List Nat)}(D:nP ops ms hd){S:Nat→Bool}(hS:∀j,S j=true→j<ms.length∧∀i∈waits (ops.getD j default),S i=true) :
  ∀(j:Nat),j<ms.length→(∀i∈waits (ops.getD j default),S i=true)→∀i∈Qq hd j,S i=true:=by
 intro j
 induction j using Nat.strongRecOn with
 |_ j ih=>
  intro hj hw i hi;rcases (D.ahd j hj i hi).2 with q|⟨k,q,q'⟩
  ·exact hw i q
  ·have hk:=hw k q;exact ih k (D.back j hj k q) (hS k hk).1 (hS k hk).2 i q'
theorem Dz{o:Oper}{i:Nat}:i∈waits o↔∃e∈o.after,Region.binds .any e=true∧e.on=i:=by
 grind [waits]
theorem YU(ops:Array Oper)(j:Nat){o:Oper}(h:ops[j]?=some o):ops.toList.getD j default=o:=by
 simp_all
theorem Ycs{n:Nat}{ops:Array Oper}{ms:List aI}{hd:List (List Nat)}(dU:ops.size=ms.length)(bV:∀(j:Nat) (m:aI),ms[j]?=some m→∃o,ops[j]?=some o∧e_ P GL n ops o m)(cX:vX ops.toList ms hd=true)
 {ρ:Frame}{σ:List ab}{ts:List TS}{K:Frame→List ab→Log→Prop}(xl:Tr P GL ms ts ρ σ [] K)(zH:Xn hd (ts.map λx=>(x.rd,x.up.map (·.1)))=true)
 {w0:World}{L:Ln}{g:Gm}(Q:Exit→Act→World→Prop)(hQ:∀g' ρ' σ' a w,g.Le g'→br GL w0 L g' (hp σ') w→cD n g' ρ' a→K ρ' σ' (ts.map λx=>(x.rd,x.up.map (·.1)))→Q .normal a w) :
  ∀(fuel:Nat) (listed:Array Bool) (a:Act) (w:World),listed.size=ms.length→(∀j,listed.getD j false=true→j<ms.length∧∀i∈waits (ops.toList.getD j default),listed.getD i false=true) →
   nU (λk=>listed.getD k false) ms.length≤fuel→(∃g' ρ',g.Le g'∧br GL w0 L g' (iO (λk=>listed.getD k false) 0 ts (hp σ)) w∧cD n g' ρ' a∧∀t,bB ρ' t=bB (jI (λk=>listed.getD k false) 0 ms ts ρ) t) →
   wpAny P .any ops Q fuel listed a w:=by
 have D:=Z6 cX;obtain⟨hlen,n7,ρf,σf,zR,OJ,uv⟩:=EK ms ts 0 ρ σ [] K xl;rw[List.nil_append] at uv;have hA:∀j,j<ms.length→∀i,i<j→i∈Qq hd j∨c9 (XF (ts.map λx=>(x.rd,x.up.map (·.1))) i) (XF (ts.map λx=>(x.rd,x.up.map (·.1))) j)=true:=by
  intro j hj i hi;unfold Xn at zH;simp only[List.all_eq_true,List.mem_range,List.length_map] at zH;have:=Y8 (zH j (by omega)) i (XF (ts.map λx=>(x.rd,x.up.map (·.1))) i) (by
   grind [XF])
  rwa [Nat.zero_add] at this
 have oI:∀j x,ts[j]?=some x→XF (ts.map λx=>(x.rd,x.up.map (·.1))) j=(x.rd,x.up.map (·.1)):=by
  simp_all [XF]
 have fin:∀(listed:Array Bool) (a:Act) (w:World),(∀k,k<ms.length→listed.getD k false=true)→(∃g' ρ',g.Le g'∧br GL w0 L g' (iO (λk=>listed.getD k false) 0 ts (hp σ)) w∧cD n g' ρ' a∧∀t,bB ρ' t=bB (jI (λk=>listed.getD k false) 0 ms ts ρ) t)→Q .normal a w:=by
  rintro listed a w iD ⟨g',ρ',h1,h2,h3,h4⟩;refine hQ g' ρf σf a w h1 ?_ ?_ uv
  ·rw[OJ];have:iO (λk=>listed.getD k false) 0 ts (hp σ)=iO (λ_=>true) 0 ts (hp σ):=by
    funext b
    simp_all [ZW,List.getElem?_eq_some_iff]
   rw[←this]; exact h2
  ·refine h3.cy (λt=>.inl ?_);rw[zR t,h4 t];refine QV _ _ _ _ _ (λk m e _=>?_) rfl
   grind
 have rdy:∀(listed:Array Bool),listed.size=ms.length→Region.ready .any ops listed=[]→∀k,k<ms.length→listed.getD k false=true:=by
  intro listed hs hr k
  induction k using Nat.strongRecOn with
  |_ k ih=>
   intro hk;cases hl:listed.getD k false with
   |true=>rfl
   |false=>
    exfalso;have GW:ops[k]?=some ops[k]:=by simp
    have:k∈Region.ready .any ops listed:=by
     rw[mem_ready];refine⟨?_,ops[k],GW,λe he hb=>?_⟩
     ·simp_all
     ·have hw:e.on∈waits (ops.toList.getD k default):=by rw[YU ops k GW,Dz]; exact⟨e,he,hb,rfl⟩
      have cp:=D.back k hk _ hw;exact ih e.on cp (by omega)
    rw[hr] at this; cases this
 intro fuel
 induction fuel with
 |zero=>
  intro listed a w hs hS hc fT;have iD:=JU (Nat.le_zero.1 hc);refine⟨?_,fin listed a w iD fT⟩;cases hr:Region.ready .any ops listed with
  |nil=>rfl
  |cons k r=>
   exfalso;have:k∈Region.ready .any ops listed:=by rw[hr]; simp
   grind [mem_ready]
 |succ fuel ih=>
  intro listed a w hs hS hc fT;refine⟨λhr=>fin listed a w (rdy listed hs hr) fT,λj hj=>?_⟩;obtain⟨h1,o,ho,uu⟩:=mem_ready.1 hj;have pE:j<ms.length:=by grind
  have wH:listed.getD j false=false:=by
   grind
  have Ak:∀i∈waits (ops.toList.getD j default),listed.getD i false=true:=by
   intro i hi;rw[YU ops j ho,Dz] at hi
   grind
  have VT:=ER D (S:=λk=>listed.getD k false) hS j pE Ak;have s9:ms[j]?=some ms[j]:=by simp
  have sK:ts[j]?=some (ts[j]'(by omega)):=by simp[show j<ts.length by omega]
  generalize hmd:ms[j]=m at s9;generalize hxd:(ts[j]'(by omega))=x at sK;have O9:ms.getD j default=m:=by grind
  obtain⟨o',eI,HK⟩:=bV j m s9;rw[ho] at eI; cases eI;obtain⟨ρj,q1,q2⟩:=n7 j m x s9 sK;simp only[Nat.zero_add] at q1 q2;obtain⟨g',ρ',s1,s2,s3,s4⟩:=fT;have key:∀k,k<ms.length→(k<j→k∈Qq hd j)→(j<k→j∈Qq hd k)→(k≠j)→(listed.getD k false=decide (k<j)):=by
   intro k hk ha hb cL;by_cases cp:k<j
   ·grind
   ·rw[decide_eq_false cp];have lZ:j<k:=by omega
    cases hl:listed.getD k false with
    |false=>rfl
    |true=>
     have:listed.getD j false=true:=ER D (S:=λk=>listed.getD k false) hS k hk (hS k hl).2 j (hb lZ);rw[wH] at this; cases this
  have jW:∀t,(t∈gQ m)→∀k mk,ms[k]?=some mk→mk.dst=some t→k≠j→listed.getD k false=decide (k<j):=by
   intro t ht k mk hk zQ cL;have qV:k<ms.length:=(gn hk).1;have GP:ms.getD k default=mk:=by grind
   have OD:t∈dP mk:=by unfold dP; rw[zQ]; simp
   refine key k qV (λcp=>?_) (λlZ=>?_) cL
   ·rcases D.lQ j pE k cp with q|⟨q,_,_⟩
    ·exact q
    grind
   ·rcases D.lQ k qV j lZ with q|⟨_,_,q⟩
    ·exact q
    grind
  have gu:∀b,(b∈x.rd∨b∈x.up.map (·.1))→∀k xk,ts[k]?=some xk→b∈xk.up.map (·.1)→k≠j→listed.getD k false=decide (k<j):=by
   intro b hb k xk hk cY cL;have qV:k<ms.length:=by grind
   refine key k qV (λcp=>?_) (λlZ=>?_) cL
   ·rcases hA j pE k cp with q|q
    ·exact q
    ·rw[oI k xk hk,oI j x sK] at q;simp only[c9,Bool.and_eq_true] at q
     grind [DR]
   ·rcases hA k qV j lZ with q|q
    ·exact q
    ·rw[oI k xk hk,oI j x sK] at q;simp only[c9,Bool.and_eq_true] at q
     grind [DR]
  have qR:∀k,k=j→listed.getD k false=decide (k<j):=by rintro k rfl; rw[wH]; simp
  have heq:∀b,(b∈x.rd∨b∈x.up.map (·.1))→iO (λk=>listed.getD k false) 0 ts (hp σ) b=iO (λk=>decide (k<j)) 0 ts (hp σ) b:=by
   intro b hb;refine ZW _ _ _ _ (λk xk e1 e2=>?_) rfl
   grind
  unfold wpOp;simp only[ho];refine q2 n ops o HK ρ' _ w0 L g' w a (λt ht=>?_) (λb hb=>heq b (.inl hb)) (λp hY=>heq p.1 (.inr (List.mem_map.2 ⟨p,hY,rfl⟩))) s2 s3 _ _ (λg2 w2 u hle hr qq=>?_)
  ·rw[s4 t,q1 t];refine QV _ _ _ _ _ (λk mk e1 e2=>?_) rfl
   grind
  ·have xj:∀k,k<ms.length→(listed.setIfInBounds j true).getD k false=if k=j then true else listed.getD k false:=by
    intro k hk;by_cases fe:k=j
    ·subst fe; simp[show k<listed.size by omega]
    ·rw[if_neg fe]; simp[Array.getElem?_setIfInBounds_ne (Ne.symm fe)]
   have dd:∀k,(listed.setIfInBounds j true).getD k false=if k=j then true else listed.getD k false:=by
    intro k;by_cases hk:k<ms.length
    ·exact xj k hk
    ·rw[if_neg (by omega)]
     grind
   refine ih _ _ _ (by simpa using hs) (λk hk=>?_) ?_ ⟨g2,cc m.dst x.v ρ',s1.trans hle,?_,qq,λt=>?_⟩
   ·rw[dd] at hk;by_cases fe:k=j
    ·subst fe;refine⟨pE,λi hi=>?_⟩;rw[dd]; split
     ·rfl
     ·exact Ak i hi
    ·rw[if_neg fe] at hk;refine⟨(hS k hk).1,λi hi=>?_⟩;rw[dd]; split
     ·rfl
     ·exact(hS k hk).2 i hi
   ·have:=Jh (S:=λk=>listed.getD k false) (S':=λk=>(listed.setIfInBounds j true).getD k false) (j:=j) (n:=ms.length) pE wH (by simp only[dd]; simp) (λk hk cL=>by simp only[dd]; rw[if_neg cL]);omega
   ·have:iO (λk=>(listed.setIfInBounds j true).getD k false) 0 ts (hp σ)=cq (iO (λk=>listed.getD k false) 0 ts (hp σ)) x.up:=by
     funext b
     by_cases hb:b∈x.up.map (·.1)
     ·refine L7 ts 0 (hp σ) j x sK hb (by rw[Nat.zero_add,dd,if_pos rfl]) (λk xk e1 e2 e3=>?_) _;rw[Nat.zero_add,dd] at e3;by_cases fe:k=j
      ·omega
      grind
     ·rw[Ke _ _ _ hb];refine ZW _ _ _ _ (λk xk e1 e2=>?_) rfl;rw[Nat.zero_add];simp only[dd];have fe:k≠j:=by grind
      rw[if_neg fe]
    rw[this]; exact hr
   ·rw[Y4];by_cases wN:m.dst=some t
    ·rw[if_pos wN];refine(L6 ms ts 0 ρ j m x s9 sK wN (by rw[Nat.zero_add,dd,if_pos rfl]) (λk mk e1 e2 e3=>?_)).symm;rw[Nat.zero_add,dd] at e3;by_cases fe:k=j
     ·omega
     ·rw[if_neg fe] at e3;have qV:k<ms.length:=(gn e1).1;have GP:ms.getD k default=mk:=by grind
      have uq:t∈dP m:=by unfold dP; rw[wN]; simp
      have um:t∈dP mk:=by unfold dP; rw[e2]; simp
      have:=key k qV (λcp=>by
       rcases D.lQ j pE k cp with q|⟨_,q,_⟩
       ·exact q
       grind) (λlZ=>by
       rcases D.lQ k qV j lZ with q|⟨_,q,_⟩
       ·exact q
       grind) fe
      grind
    ·rw[if_neg wN,s4 t];refine QV _ _ _ _ _ (λk mk e1 e2=>?_) rfl;rw[Nat.zero_add];simp only[dd];have fe:k≠j:=by grind
     rw[if_neg fe]
theorem Tf(hP:P.follows .mixedOrders=true){n:Nat}{id:Nat}{ms:List aI}{hd:List (List Nat)}{ρ:Frame}{σ:List ab}{Q:dK}
 (h:gS true P GL ms ρ σ [] (λρ' σ' lg=>Xn hd lg=true∧Q .normal ρ' σ')):gR P GL n (.region id ms (some hd)) ρ σ Q:=by
 intro c hc w0 L g a w r d;cases hc with
 |draw _ ops _ _ dU bV cX=>
  obtain⟨ts,xl⟩:=MI ms ρ σ [] _ h;obtain⟨hlen,_,ρf,σf,_,_,uv⟩:=EK ms ts 0 ρ σ [] _ xl;rw[List.nil_append] at uv;refine wp_region_any hP ?_;refine Ycs (w0:=w0) (L:=L) (g:=g) dU bV cX xl uv.1 _ (λg' ρ' σ' a' w' k1 k2 k3 k4=>⟨g',ρ',σ',k1,k2,k3,k4.2⟩) ops.size _ a _ (by simp[dU]) (λj hj=>?_) ?_ ⟨g,ρ,Gm.Le.refl g,?_,d,λt=>?_⟩
  ·exfalso;rw[Array.getD_eq_getD_getElem?,Array.getElem?_replicate] at hj;split at hj<;>simp at hj
  ·rw[dU];have:∀m,nU (λk=>(Array.replicate ms.length false).getD k false) m≤m:=by
    intro m
    induction m<;>grind [nU]
   exact this _
  ·have hF:(λk=>(Array.replicate ops.size false).getD k false)=λ_=>false:=by
    funext k; rw[Array.getD_eq_getD_getElem?,Array.getElem?_replicate]; split<;>rfl
   rw[hF];have jg:∀(ts:List TS) (i:Nat) (h:Hp),iO (λ_=>false) i ts h=h:=by
    intro ts
    induction ts<;>simp_all [iO]
   rw[jg];exact r.drew
  ·have hF:(λk=>(Array.replicate ops.size false).getD k false)=λ_=>false:=by
    funext k; rw[Array.getD_eq_getD_getElem?,Array.getElem?_replicate]; split<;>rfl
   rw[hF];have jg:∀(ms:List aI) (ts:List TS) (i:Nat) (ρ:Frame),jI (λ_=>false) i ms ts ρ=ρ:=by
    intro ms
    induction ms with
    |nil=>intros; simp[jI]
    |cons m ms ih=>intro ts i ρ; cases ts<;>grind [jI]
   rw[jg]
end
end Go.Ah
end
section
namespace Go.Ah
theorem Steps.xr{P:Program}{m m₁ t:Machine}(h:Steps P m t)(hs:step P m=.next m₁):t=m∨Steps P m₁ t:=by
 obtain⟨n,hn⟩:=h;cases n with
 |zero=>simp[runN] at hn; exact .inl hn.symm
 |succ n=>simp only[runN,hs] at hn; exact .inr ⟨n,hn⟩
theorem UZ:∀(k k':List Item) (id:Nat),exitTo id k=some k'→k'.length≤k.length
  |[],k',id,h=>by simp[exitTo] at h
  |x::k,k',id,h=>by
    have ih:=UZ k k' id;cases x<;>simp only[exitTo] at h<;>first
      |(have:=ih h; simp; omega)
      | (split at h
         · cases h; simp
         · have:=ih h; simp; omega)
theorem SO{b:Go.Frame}{a a':Act}{k k':List Item}{cs:List Go.Frame}{w w':World}(h:lone (b.at a k) cs w=lone (b.at a' k') cs w'):k=k':=by
 simp_all [lone,Go.Frame.at]
theorem TU{b:Go.Frame}{a a':Act}{k k':List Item}{cs:List Go.Frame}{w w':World}{m:FrameMode}(hm:m≠.run)(h:lone { b.at a' k' with mode:=m } cs w'=lone (b.at a k) cs w):False:=by
 simp_all [lone,Go.Frame.at]
theorem ZcV{P:Program}{c:Code}{Q:Exit→Act→World→Prop}{a:Act}{w:World}(hQ:∀a w,¬Q .outgrown a w)(KJ:∀l a w,¬Q (.goto l) a w)(h:(Code.loop c).wp P Q a w)(b:Go.Frame)(k:List Item)(cs:List Go.Frame) :
  ∃e a' w',Q e a' w'∧Arrives P (lone (b.at a (.code c::.inLoop c::k)) cs w) b k cs e a' w':=by
 obtain⟨e,a',w',hq,mN⟩:=h b k cs;refine⟨e,a',w',hq,?_⟩;cases e with
 |normal=>
  rcases Steps.xr mN step_loop with e|e
  ·have:=SO e; have:=congrArg List.length this; simp at this
  ·exact e
 |exit id=>
  intro k' hk;rcases Steps.xr (mN k' hk) step_loop with e|e
  ·have:=SO e; have:=congrArg List.length this; have:=UZ _ _ _ hk; simp at *; omega
  ·exact e
 |goto l=>exact(KJ _ _ _ hq).elim
 |ret=>
  obtain⟨todo,hs⟩:=mN;rcases Steps.xr hs step_loop with e|e
  ·exact(TU (by simp) e).elim
  ·exact⟨todo,e⟩
 |panic ch=>
  obtain⟨todo,hs⟩:=mN;rcases Steps.xr hs step_loop with e|e
  ·exact(TU (by simp) e).elim
  ·exact⟨todo,e⟩
 |outgrown=>exact(hQ _ _ hq).elim
theorem Ybj{P:Program}{c:Code}{Q:Exit→Act→World→Prop}{a:Act}{w:World}(hQ:∀a w,¬Q .outgrown a w)(KJ:∀l a w,¬Q (.goto l) a w)
 (h:c.wp P (Exit.then (λa w=>(Code.loop c).wp P Q a w) Q) a w):(Code.loop c).wp P Q a w:=by
 intro b k cs;obtain⟨e,a₁,w₁,hq,mN⟩:=h b (.inLoop c::k) cs;cases e with
 |normal=>
  obtain⟨e₂,a₂,w₂,Hd,wI⟩:=ZcV hQ KJ hq b k cs;exact⟨e₂,a₂,w₂,Hd,.of_steps (.one step_loop) (.of_steps (Steps.trans mN (.one step_inLoop)) wI)⟩
 |exit id=>exact⟨_,a₁,w₁,hq,.of_steps (.one step_loop) (.pass (x:=.inLoop c) rfl (λ_ _=>.inl (by simp)) mN)⟩
 |goto l=>exact(KJ _ _ _ hq).elim
 |ret=>exact⟨_,a₁,w₁,hq,.of_steps (.one step_loop) (.pass (x:=.inLoop c) rfl (λ_ _=>.inl (by simp)) mN)⟩
 |panic ch=>exact⟨_,a₁,w₁,hq,.of_steps (.one step_loop) (.pass (x:=.inLoop c) rfl (λ_ _=>.inl (by simp)) mN)⟩
 |outgrown=>exact(hQ _ _ hq).elim
theorem Zcq{P:Program}{GL:aw}{n:Nat}{x:cN}{ρ:Frame}{σ:List ab}{Q:dK}(h:gR P GL n x ρ σ (dK.andThen (λρ σ=>gR P GL n (.loop x) ρ σ Q) Q)):gR P GL n (.loop x) ρ σ Q:=by
 intro c hc w0 L g a w r d;cases hc with
 |loop c1 _ h1=>
  refine Ybj (λa w h=>h) (λl a w h=>h) (wp_mono (h c1 h1 w0 L g a w r d) (λe a' w' hl=>?_));cases e with
  |normal=>
   obtain⟨g',ρ',σ',k1,k2,k3,k4⟩:=hl;exact wp_mono (k4 (.loop c1) (.loop _ _ h1) w0 L g' a' w' k2 k3) (ml.mono k1 (λ_ _ _ q=>q))
  |_=>exact hl
section
variable (P6:Bool→Nat→List aI→Frame→List ab→Log→Cons→Lb)
def Zw:MK→List aa→Option (Nat×List aa)
 |.call f,xs=>some (f,xs)
 |.jh,.func (.func f) first captured::xs=>some (f,first++xs++captured)
 |.invoke _ nw,.iface t v::xs=>match Fl t nw with
  |some f=>some (f,v::xs)
  |none=>none
 |_,_=>none
end
section
variable {P:Program} {GL:aw}
theorem T4{F:sT}{f:FuncId}{k:MK}{xs ys:List aa}(hc:Zw k xs=some (f,ys))(hp:Qj P f=true)(ok:kX P GL f F)(hn:ys.length=F.np){σ:List ab}{R:aa→List ab→Prop}
 (h:gR P GL F.n F.body (dS ys) σ (λe ρ σ'=>(e=.normal∨e=.ret)∧∃v,gA F.fF ρ σ'=some v∧R v σ')):mm P GL k xs σ R:=by
 have key:=Mu (P:=P) (GL:=GL) ok hn h;intro o os oG w0 L g w a r hx;unfold Zw at hc;split at hc
 ·cases hc;generalize ho:o.op=op at oG;cases oG with
  |call _ args ts _=>
   have bL:(execOp a.eval o).run P w=.ok (.enter f (args.map a.eval)) w:=by
    simp_all [execOp,resolve,Act.eval,Deferred.ofValue,invoke,ZX]
   rw[bL];have:=key w0 L g w _ r hx
   rwa [←Array.toList_map,Array.toArray_toList] at this
 ·rename_i first captured xJ
  cases hc;generalize ho:o.op=op at oG;cases oG with
  |jh x args ts=>
   obtain⟨d,dr⟩:=hx;generalize hu:a.eval x=u0 at d;cases d with
   |func _ _ _ _ vs ws h1 h2 h3 h4=>
    have bL:(execOp a.eval o).run P w=.ok (.enter f (vs++args.map a.eval++ws)) w:=by
     simp_all [execOp,resolve,Deferred.ofValue,invoke,ZX]
    rw[bL];have hl:=dr.length;simp at hl;have:=key w0 L g w (vs ++ args.map a.eval ++ ws).toList r (df.kh (by simp[h1,h2,hl]) (λi y u e1 e2=>by
     simp only[Array.toList_append] at e2;by_cases hi:i<first.length
     ·rw[List.append_assoc,List.getElem?_append_left hi] at e1;rw[List.append_assoc,List.getElem?_append_left (by simpa[h1] using hi)] at e2;exact h3 i y u e1 (by simpa using e2)
     ·by_cases vD:i<first.length+xJ.length
      ·rw[List.append_assoc,List.getElem?_append_right (by omega),List.getElem?_append_left (by omega)] at e1;rw[List.append_assoc,List.getElem?_append_right (by simp; omega),List.getElem?_append_left (by simp; omega)] at e2;refine dr.get (i-first.length) y u e1 ?_;simpa[h1] using e2
      ·rw[List.getElem?_append_right (by simp; omega)] at e1;rw[List.getElem?_append_right (by simp; omega)] at e2;refine h4 (i - (first ++ xJ).length) y u e1 ?_;simpa[h1,hl] using e2))
    rwa [Array.toArray_toList] at this
 ·rename_i name nw ty v xJ;split at hc
  ·rename_i f' hl;cases hc;generalize ho:o.op=op at oG;cases oG with
   |invoke y _ args ts _ bV=>
    obtain⟨d,dr⟩:=hx;generalize hu:a.eval y=u0 at d;cases d with
    |iface _ _ _ vv Hs=>
     obtain⟨k1,k2⟩:=bV _ (Mz hl);have bL:(execOp a.eval o).run P w=.ok (.enter f (#[vv]++args.map a.eval)) w:=by
      simp only[execOp,ho,resolve,Sem.run_bind,hu,Sem.run_pure,Result.andThen_ok,invoke];have e0:(#[Value.iface ty vv]++args.map a.eval)[0]?=some (Value.iface ty vv):=by grind
      have e1:(#[Value.iface ty vv]++args.map a.eval).extract 1 (#[Value.iface ty vv]++args.map a.eval).size=args.map a.eval:=by
       simp
      grind [U2]
     rw[bL];have:=key w0 L g w (vv::(args.map a.eval).toList) r ⟨Hs,by rwa [Array.toList_map]⟩;have e2:(vv::(args.map a.eval).toList).toArray = #[vv]++args.map a.eval:=by apply Array.ext'; simp
     rw[e2] at this;exact this
  ·cases hc
 ·cases hc
end
end Go.Ah
end
section
namespace Go.Ah
def uS:ea→Value→Bool
 |.ptr,.pointer none=>true
 |.slice,.slice none 0 0=>true
 |.iface,.nilIface=>true
 |.func,.nilFunc=>true
 |.map,.map none=>true
 |_,_=>false
theorem Qdm{c:ea}{v:Value}(h:uS c v=true):v=js c:=by
 unfold uS at h;split at h<;>first|rfl|cases h
def bE{α β:Type}(o:Option α)(f:α→Option β):Option β:=match o with
 |some a=>f a
 |none=>none
theorem Qf{α β:Type}{o:Option α}{f:α→Option β}{b:β}(h:bE o f=some b):∃a,o=some a∧f a=some b:=by
 cases o with
 |none=>cases h
 |some a=>exact⟨a,rfl,h⟩
def QY{β:Type}(c:Bool)(x:Option β):Option β:=match c with
 |true=>x
 |false=>none
theorem Xu{β:Type}{c:Bool}{x:Option β}{b:β}(h:QY c x=some b):c=true∧x=some b:=by
 cases c with
 |true=>exact⟨rfl,h⟩
 |false=>cases h
def mapM'{α β:Type}(f:α→Option β):List α→Option (List β)
 |[]=>some []
 |a::l=>bE (f a) λb=>bE (mapM' f l) λr=>some (b::r)
theorem Vj{α β:Type}(f:α→Option β):∀(l:List α),l.mapM f=mapM' f l
 |[]=>rfl
 |a::l=>by
  rw[List.mapM_cons,Vj f l,mapM'];cases f a with
  |none=>rfl
  |some b=>cases mapM' f l<;>rfl
def zeroCells(P:Program)(t:TypeId):Option (List aa):=bE (dI P t) λv=>QL v.cells.toList
def E8(P:Program)(t:TypeId):Bool:=match P.underlying t with
 |some .bool=>true
 |_=>false
theorem LP{P:Program}{t:TypeId}(h:E8 P t=true):P.underlying t=some .bool:=by
 grind [E8]
def LG(P:Program)(t:TypeId):Bool:=match P.underlying t with
 |some .string=>true
 |_=>false
theorem ZcU{P:Program}{t:TypeId}(h:LG P t=true):P.underlying t=some .string:=by
 grind [LG]
def uO(P:Program)(t:TypeId):Option IntKind:=match P.underlying t with
 |some (.int k)=>some k
 |_=>none
theorem ZdG{P:Program}{t:TypeId}{k:IntKind}(h:uO P t=some k):P.underlying t=some (.int k):=by
 grind [uO]
theorem Tl{P:Program}{t e:TypeId}(h:eg P t=some e):P.underlying t=some (.slice e):=by
 grind [eg]
def pP(P:Program)(k:TypeId):Option Bool:=match P.underlying k with
 |some .string=>some true
 |some (.int _)=>some false
 |_=>none
theorem Lq{P:Program}{k:TypeId}{s:Bool}(h:pP P k=some s):so P k s:=by
 unfold pP at h;split at h
 ·rename_i e; cases h; exact e
 ·rename_i q e; cases h; exact⟨q,e⟩
 ·cases h
def Jl(c:ea):Operand→Bool
 |.const v=>uS c v
 |_=>false
theorem SP{c:ea}{x:Operand}(h:Jl c x=true):x=.const (js c):=by
 cases x<;>simp only[Jl] at h<;>first|cases h|rw[Qdm h]
def zD:BinOp→Option Bool
 |.eql=>some false
 |.neq=>some true
 |_=>none
theorem ZdF{op:BinOp}{b:Bool}(h:zD op=some b):op=if b then .neq else .eql:=by
 grind [zD]
def LZ(P:Program)(op:BinOp)(t:TypeId)(x y:Operand):Option (MK×List Operand):=
 match zD op with
 |none=>some (.bin op (E8 P t),[x,y])
 |some neq=>match sr P t with
  |some c=>match Jl c y with
   |true=>some (.mJ c neq false,[x,y])
   |false=>match Jl c x with
    |true=>some (.mJ c neq true,[x,y])
    |false=>some (.bin op (E8 P t),[x,y])
  |none=>match oN P t with
   |some ls=>QY (!P.stoodInHeld t && !P.eqGuardType P.depth t) (some (.yp neq ls,[x,y]))
   |none=>some (.bin op (E8 P t),[x,y])
def Nk(P:Program)(c:Call):Option (MK×List Operand):=
 match c.callee with
 |.value (.func f)=>QY (Qj P f) (some (.call f,c.args.toList))
 |.value x=>some (.jh,x::c.args.toList)
 |.invoke x name=>some (.invoke name (Vb P name),x::c.args.toList)
 |.builtin .len=>match c.args.toList,c.argTypes.toList with
  |[x],[t]=>match P.underlying t with
   |some (.slice _)=>some (.pR,[x])
   |some .string=>some (.jq,[x])
   |some (.array n _)=>some (.pQ n,[x])
   |some (.map _ _)=>some (.lx,[x])
   |_=>none
  |_,_=>none
 |.builtin .clear=>match c.args.toList,c.argTypes.toList with
  |[x],[t]=>bE (eg P t) λe=>bE (size? P e) λn=>bE (dI P e) λv=>bE (QL v.cells.toList) λz=>
   QY (Nat.beq v.cells.size n && !(Nat.beq n 0)) (some (.gG n z,[x]))
  |_,_=>none
 |.builtin .min=>match c.args.toList with
  |[x,y]=>some (.min2,[x,y])
  |_=>none
 |.builtin .max=>match c.args.toList with
  |[x,y]=>some (.max2,[x,y])
  |_=>none
 |.builtin .append=>match c.args.toList,c.argTypes.toList with
  |[x,y],[t,t']=>bE (eg P t) λe=>bE (eg P t') λ_=>bE (size? P e) λn=>bE (dI P e) λv=>bE (QL v.cells.toList) λz=>
   QY (Nat.beq v.cells.size n&&(!(Nat.beq (P.bytesOf e) 0) && !(Nat.beq n 0))) (some (.append n (P.bytesOf e) z,[x,y]))
  |_,_=>none
 |_=>none
def L4:Operand→Operand→Bool
 |.tmp a,.tmp b=>Nat.beq a b
 |_,_=>false
theorem Qcv{x y:Operand}(h:L4 x y=true):x=y:=by
 cases x<;>cases y<;>simp only[L4] at h<;>first|cases h|rw[e9 h]
def yP(P:Program)(ms:Array (String×TypeId))(t:TypeId):Bool:=match P.info? t with
 |some i=>match i.methods.size with
  |0=>false
  |_=>ms.toList.all λp=>i.methods.any λm=>m.name==p.1&&m.sig==p.2
 |none=>false
def Tb(P:Program)(ms:Array (String×TypeId)):List TypeId:=(List.range P.types.size).filter (yP P ms)
theorem Zct{P:Program}{ms:Array (String×TypeId)}{q:TypeId}(h:q∈Tb P ms):∃i,P.info? q=some i∧Instr.missingMethod ms i.methods=none:=by
 have h:=(List.mem_filter.1 h).2;unfold yP at h;split at h
 ·rename_i i hi;refine⟨i,hi,?_⟩;split at h
  ·cases h
  ·have e:(ms.toList.filter λ(x:String×TypeId)=>!i.methods.any λm=>m.name==x.1&&m.sig==x.2)=[]:=by
    grind [List.filter_eq_nil_iff]
   unfold Instr.missingMethod;simp only;rw[show (List.filter (λx=>match x with|(name,sig)=>!i.methods.any λm=>m.name==name&&m.sig==sig) ms.toList)=[] from e];rfl
 ·cases h
def Nq(P:Program):Op→Option (MK×List Operand)
 |.move x=>some (.mv,[x])
 |.assign x=>some (.mv,[x])
 |.pick c a b=>some (.pick,[c,a,b])
 |.alloc t=>bE (zeroCells P t) λz=>some (.alloc z,[])
 |.box _ x=>some (.box,[x])
 |.build t parts=>match P.underlying t with
  |some (.struct fs)=>bE (zeroCells P t) λz=>bE (mapM' (λf=>(P.info? f.type).map λi=>(f.offset,i.size)) fs.toList) λplaces=>
   bE (mapM' (λ(p:Nat×Operand)=>places[p.1]?) parts.toList) λps=>some (.build z ps,parts.toList.map (·.2))
  |some (.array _ e)=>bE (zeroCells P t) λz=>bE (size? P e) λsz=>some (.build z (parts.toList.map (λp=>(p.1*sz,sz))),parts.toList.map (·.2))
  |_=>none
 |.buildSlice t 0 parts=>bE (eg P t) λe=>bE (size? P e) λsz=>match parts.toList with
  |[]=>some (.kD sz,[])
  |_=>none
 |.makeSlice t l c=>bE (eg P t) λe=>bE (size? P e) λn=>bE ((P.info? e).map (·.bytes)) λby_=>bE (dI P e) λv=>bE (QL v.cells.toList) λz=>
  QY (!(Nat.beq n 0) && Nat.beq v.cells.size n) (match L4 l c with
   |true=>some (.pT n by_ z,[l])
   | false=>none)
 |.buildSlice t n parts=>bE (eg P t) λe=>bE (size? P e) λsz=>bE (dI P e) λv=>bE (QL v.cells.toList) λz0=>
  QY (Nat.ble (n*sz) (2 ^ 24)&&(!(Nat.beq (n*sz) 0)&&Nat.beq v.cells.size sz)) (some (.lh sz n (List.replicate n z0).flatten (parts.toList.map (λp=>(p.1*sz,sz))),parts.toList.map (·.2)))
 |.load t x=>bE (eS P t) λagg=>bE (size? P t) λn=>some (.load agg n,[x])
 |.store t x y=>bE (size? P t) λn=>some (.store n,[x,y])
 |.nilCheck x=>some (.nilCheck,[x])
 |.binOp op t x y _=>LZ P op t x y
 |.unOp op _ x=>some (.un op,[x])
 |.convert s d x=>QY (P.underlying s).isSome (bE (uO P d) λk=>some (.conv k,[x]))
 |.makeInterface t x=>QY (P.concrete t) (some (.h_ t,[x]))
 |.makeFunc fn xs ys=>some (.jr fn xs.size,xs.toList++ys.toList)
 |.makeMap _ none=>some (.makeMap,[])
 |.fieldAddr t x f=>match P.underlying t with
  |some (.struct fs)=>bE fs[f]? λfd=>bE (size? P fd.type) λn=>QY (!(Nat.beq n 0)) (some (.fieldAddr fd.offset,[x]))
  |_=>none
 |.field t x f=>match P.underlying t with
  |some (.struct fs)=>bE fs[f]? λfd=>bE (size? P fd.type) λn=>bE (eS P fd.type) λagg=>some (.field agg fd.offset n,[x])
  |_=>none
 |.indexAddr t x i=>match P.underlying t with
  |some (.array len e)=>bE (size? P e) λn=>some (.fL len n,[x,i])
  |some (.slice e)=>bE (size? P e) λn=>some (.eL n,[x,i])
  |_=>none
 |.index t x i=>match P.underlying t with
  |some (.array len e)=>bE (size? P e) λn=>bE (eS P e) λagg=>some (.pO agg len n,[x,i])
  |some .string=>some (.j_,[x,i])
  |_=>none
 |.extract x i=>some (.extract i,[x])
 |.slice t x lo hi mx=>match P.underlying t with
  |some (.slice e)=>bE (size? P e) λn=>some (.cx n lo.isSome hi.isSome mx.isSome,[x]++lo.toList++hi.toList++mx.toList)
  |some .string=>match mx with
   |none=>some (.ej lo.isSome hi.isSome,[x]++lo.toList++hi.toList)
   |some _=>none
  |_=>none
 |.call c=>Nk P c
 |.lookup t x i ok=>match P.underlying t with
  |some (.map k e)=>bE (pP P k) λstr=>bE (dI P e) λv=>bE (ou v) λz=>some (.lookup str ok z,[x,i])
  |_=>none
 |.mapUpdate t x i y=>match P.underlying t with
  |some (.map k _)=>bE (pP P k) λstr=>some (.kf str,[x,i,y])
  |_=>none
 |.insert t x i y=>match P.underlying t with
  |some (.map k _)=>bE (pP P k) λstr=>some (.kf str,[x,i,y])
  |_=>none
 |.range t x=>QY (LG P t) (some (.range,[x]))
 |.next x true=>some (.next,[x])
 |.typeAssert x _ u ok=>match P.underlying u with
  |some (.interface ms)=>match ok,dI P u with
   |true,some .nilIface=>some (.fI (Tb P ms),[x])
   |_,_=>none
  |_=>QY (P.concrete u&&(P.underlying u).isSome) (bE (dI P u) λv=>bE (ou v) λz=>some (.eO u ok z,[x]))
 |_=>none
section
variable {P:Program} {GL:aw}
theorem Zcr{op:BinOp}{t t':TypeId}{x y:Operand}{k:MK}{os:List Operand}(h:LZ P op t x y=some (k,os)):bW P GL (.binOp op t x y t') k os:=by
 unfold LZ at h;split at h
 ·cases h; exact .bin _ _ _ _ _ _ LP
 ·rename_i neq heq;have mX:=ZdF heq;split at h
  ·rename_i c hc;split at h
   ·rename_i hn;cases h;rw[mX,SP hn];exact .tZ _ _ _ _ _ hc
   ·split at h
    ·rename_i hn;cases h;rw[mX,SP hn];exact .tY _ _ _ _ _ hc
    ·cases h; exact .bin _ _ _ _ _ _ LP
  ·split at h
   ·rename_i ls hl;obtain⟨hg,h⟩:=Xu h;cases h;simp only[Bool.and_eq_true,Bool.not_eq_true'] at hg;rw[mX];exact .yp _ _ _ _ _ _ hl hg.1 hg.2
   ·cases h; exact .bin _ _ _ _ _ _ LP
theorem J'{α:Type}{a:Array α}{x:α}(h:a.toList=[x]):a = #[x]:=by
 cases a; simp at h; subst h; rfl
theorem JP{α:Type}{a:Array α}{x y:α}(h:a.toList=[x,y]):a = #[x,y]:=by
 cases a; simp at h; subst h; rfl
theorem WK{c:Call}{k:MK}{os:List Operand}(h:Nk P c=some (k,os)):bW P GL (.call c) k os:=by
 unfold Nk at h;obtain⟨callee,args,ts⟩:=c;simp only at h;split at h
 ·obtain⟨hg,h⟩:=Xu h;cases h;exact .call _ _ _ hg
 ·cases h; exact .jh _ _ _
 ·cases h;refine .invoke _ _ _ _ _ (λp hp=>?_)
  grind [Vb]
 ·split at h
  ·rename_i ha ht;have:=J' ha; subst this;have:=J' ht; subst this;split at h
   ·rename_i hu; cases h; exact .pR _ _ _ hu
   ·rename_i hu; cases h; exact .jq _ _ hu
   ·rename_i hu; cases h; exact .pQ _ _ _ _ hu
   ·rename_i hu; cases h; exact .lx _ _ _ _ hu
   ·cases h
  ·cases h
 ·split at h
  ·rename_i ha ht;have:=J' ha; subst this;have:=J' ht; subst this;obtain⟨e,he,h⟩:=Qf h;obtain⟨n,hn,h⟩:=Qf h;obtain⟨v,hv,h⟩:=Qf h;obtain⟨z,hz,h⟩:=Qf h;obtain⟨hg,h⟩:=Xu h;simp only[Bool.and_eq_true,Bool.not_eq_true'] at hg;cases h;exact .gG _ e _ _ v _ he hn (λe0=>by rw[e0] at hg; cases hg.2) hv (e9 hg.1) hz
  ·cases h
 ·split at h
  ·rename_i ha; have:=JP ha; subst this; cases h; exact .min2 _ _ _
  ·cases h
 ·split at h
  ·rename_i ha; have:=JP ha; subst this; cases h; exact .max2 _ _ _
  ·cases h
 ·split at h
  ·rename_i ha ht;have:=JP ha; subst this;have:=JP ht; subst this;obtain⟨e,he,h⟩:=Qf h;obtain⟨e',KN,h⟩:=Qf h;obtain⟨n,hn,h⟩:=Qf h;obtain⟨v,hv,h⟩:=Qf h;obtain⟨z,hz,h⟩:=Qf h;obtain⟨hg,h⟩:=Xu h;simp only[Bool.and_eq_true,Bool.not_eq_true'] at hg;cases h;exact .append _ _ e _ _ _ _ v _ (Tl he) ⟨_,Tl KN,by simp⟩ hn rfl hv (e9 hg.1) hz (λe0=>by rw[e0] at hg; cases hg.2.1) (λe0=>by rw[e0] at hg; cases hg.2.2)
  ·cases h
 ·cases h
theorem RJ{α β:Type}{f:α→Option β}:∀ {l:List α} {r:List β},mapM' f l=some r→l.map f=r.map some
 |[],r,h=>by simp[mapM'] at h; subst h; rfl
 |a::l,r,h=>by
  obtain⟨b,hb,h⟩:=Qf h;obtain⟨r',hr,h⟩:=Qf h;cases h;simp[hb,RJ hr]
theorem YcM{op:Op}{k:MK}{os:List Operand}(h:Nq P op=some (k,os)):bW P GL op k os:=by
 unfold Nq at h;split at h
 ·cases h; exact .move _
 ·cases h; exact .assign _
 ·cases h; exact .pick _ _ _
 ·obtain⟨z,hz,h⟩:=Qf h;obtain⟨v,hv,hz⟩:=Qf hz;cases h; exact .alloc _ v _ hv hz
 ·cases h; exact .box _ _
 ·split at h
  ·rename_i fs hu;obtain⟨z,hz,h⟩:=Qf h;obtain⟨v,hv,hz⟩:=Qf hz;obtain⟨places,hp,h⟩:=Qf h;obtain⟨ps,sH,h⟩:=Qf h;cases h;exact .buildStruct _ fs v _ _ places _ hu hv hz (by rw[Vj]; exact hp) (RJ sH)
  ·rename_i n e hu;obtain⟨z,hz,h⟩:=Qf h;obtain⟨v,hv,hz⟩:=Qf hz;obtain⟨sz,hs,h⟩:=Qf h;cases h;exact .mz _ n e v _ _ _ sz hu hv hz hs rfl
  ·cases h
 ·obtain⟨e,he,h⟩:=Qf h;obtain⟨sz,hs,h⟩:=Qf h;split at h
  ·rename_i hp; cases h; exact .lK _ e _ _ he hs hp
  ·cases h
 ·obtain⟨e,he,h1⟩:=Qf h;obtain⟨n,hn,h2⟩:=Qf h1;obtain⟨b,hb,h3⟩:=Qf h2;obtain⟨v,hv,h4⟩:=Qf h3;obtain⟨z,hz,h5⟩:=Qf h4;obtain⟨hg,h6⟩:=Xu h5;clear h h1 h2 h3 h4 h5;simp only[Bool.and_eq_true,Bool.not_eq_true'] at hg;split at h6
  ·rename_i hs;have:=Qcv hs;subst this;cases h6;exact .makeSlice _ _ e v _ _ _ he hn hb (λe0=>by rw[e0] at hg; cases hg.1) hv (e9 hg.2) hz
  ·cases h6
 ·obtain⟨e,he,h⟩:=Qf h;obtain⟨sz,hs,h⟩:=Qf h;obtain⟨v,hv,h⟩:=Qf h;obtain⟨z0,hz,h⟩:=Qf h;obtain⟨hg,h⟩:=Xu h;simp only[Bool.and_eq_true,Bool.not_eq_true'] at hg;cases h;exact .buildSlice _ _ e v z0 _ _ _ _ he hs (gE hg.1) (λe0=>by rw[e0] at hg; cases hg.2.1) hv (e9 hg.2.2) hz rfl rfl
 ·obtain⟨agg,ha,h⟩:=Qf h;obtain⟨n,hn,h⟩:=Qf h;cases h; exact .load _ _ _ _ ha hn
 ·obtain⟨n,hn,h⟩:=Qf h;cases h; exact .store _ _ _ _ hn
 ·cases h; exact .nilCheck _
 ·exact Zcr h
 ·cases h; exact .un _ _ _
 ·obtain⟨hg,h⟩:=Xu h;obtain⟨q,hq,h⟩:=Qf h;cases h; exact .conv _ _ _ _ hg (ZdG hq)
 ·obtain⟨hg,h⟩:=Xu h;cases h; exact .h_ _ _ hg
 ·cases h; exact .jr _ _ _
 ·cases h; exact .makeMap _
 ·split at h
  ·rename_i fs hu;obtain⟨fd,hf,h⟩:=Qf h;obtain⟨n,hn,h⟩:=Qf h;obtain⟨hg,h⟩:=Xu h;cases h;exact .fieldAddr _ _ _ fs fd n hu hf hn (λe0=>by rw[e0] at hg; cases hg)
  ·cases h
 ·split at h
  ·rename_i fs hu;obtain⟨fd,hf,h⟩:=Qf h;obtain⟨n,hn,h⟩:=Qf h;obtain⟨agg,ha,h⟩:=Qf h;cases h;exact .field _ _ _ fs fd _ _ hu hf hn ha
  ·cases h
 ·split at h
  ·rename_i len e hu;obtain⟨n,hn,h⟩:=Qf h;cases h; exact .fL _ _ _ _ e _ hu hn
  ·rename_i e hu;obtain⟨n,hn,h⟩:=Qf h;cases h; exact .eL _ _ _ e _ hu hn
  ·cases h
 ·split at h
  ·rename_i len e hu;obtain⟨n,hn,h⟩:=Qf h;obtain⟨agg,ha,h⟩:=Qf h;cases h; exact .pO _ _ _ _ e _ _ hu hn ha
  ·rename_i hu; cases h; exact .j_ _ _ _ hu
  ·cases h
 ·cases h; exact .extract _ _
 ·split at h
  ·rename_i e hu;obtain⟨n,hn,h⟩:=Qf h;cases h; exact .cx _ _ _ _ _ e _ hu hn
  ·rename_i hu;split at h
   ·cases h; exact .ej _ _ _ _ hu
   ·cases h
  ·cases h
 ·exact WK h
 ·split at h
  ·rename_i k e hu;obtain⟨s,hs,h⟩:=Qf h;obtain⟨v,hv,h⟩:=Qf h;obtain⟨z,hz,h⟩:=Qf h;cases h; exact .lookup _ k e _ _ _ _ v _ hu (Lq hs) hv hz
  ·cases h
 ·split at h
  ·rename_i k e hu;obtain⟨s,hs,h⟩:=Qf h;cases h; exact .mapUpdate _ k e _ _ _ _ hu (Lq hs)
  ·cases h
 ·split at h
  ·rename_i k e hu;obtain⟨s,hs,h⟩:=Qf h;cases h; exact .mapInsert _ k e _ _ _ _ hu (Lq hs)
  ·cases h
 ·obtain⟨hg,h⟩:=Xu h;cases h; exact .range _ _ (ZcU hg)
 ·cases h; exact .next _
 ·split at h
  ·rename_i hu;split at h
   ·rename_i hz; cases h; exact .fI _ _ _ _ _ hu hz (λq hq=>Zct hq)
   ·cases h
  ·obtain⟨hg,h⟩:=Xu h;simp only[Bool.and_eq_true] at hg;obtain⟨v,hv,h⟩:=Qf h;obtain⟨z,hz,h⟩:=Qf h;cases h; exact .eO _ _ _ _ v _ hg.1 hg.2 hv hz
 ·cases h
end
end Go.Ah
end
section
namespace Go.Ah
def JI(g:Nat):aw→Option (List aa)
 |[]=>none
 |(q,row)::r=>match Nat.beq g q with
  |true=>some row
  |false=>JI g r
theorem RG{g:Nat}{row:List aa}:∀ {GL:aw},JI g GL=some row→(g,row)∈GL
 |[],h=>by cases h
 |(q,r)::GL,h=>by
  simp only[JI] at h;split at h
  ·rename_i e; cases h; rw[e9 e]; simp
  ·exact List.mem_cons_of_mem _ (RG h)
def M_(GL:aw):Operand→Option ql
 |.tmp t=>some (.t t)
 |.const v=>bE (ou v) λx=>some (.c x)
 |.global g=>bE (JI g GL) λrow=>some (.c (.ao row 0))
 |.func f=>some (.c (.func (.func f) [] []))
theorem TZ{GL:aw}{x:Operand}{y:ql}(h:M_ GL x=some y):jN GL x y:=by
 cases x with
 |tmp t=>cases h; exact .tmp _
 |const v=>obtain⟨z,hz,h⟩:=Qf h; cases h; exact .const _ _ hz
 |global g=>obtain⟨z,hz,h⟩:=Qf h; cases h; exact .Ge _ _ (RG hz)
 |func f=>cases h; exact .func _
theorem J1{α β:Type}{f:α→Option β}{R:α→β→Prop}(hR:∀ {a b},f a=some b→R a b):∀ {l:List α} {r:List β},mapM' f l=some r→kv R l r
 |[],r,h=>by simp[mapM'] at h; subst h; trivial
 |a::l,r,h=>by
  obtain⟨b,hb,h⟩:=Qf h;obtain⟨r',hr,h⟩:=Qf h;cases h;exact⟨hR hb,J1 hR hr⟩
def F6(n:Nat):Option Nat→Bool
 |none=>true
 |some d=>Nat.blt d n
def QcL(ops:List Oper):Option (Nat×Bool)→Option (Option (Nat×Bool))
 |none=>some none
 |some (j,w)=>bE (nth ops j) λo=>bE o.dst λs=>some (some (s,w))
def Sa(P:Program)(GL:aw)(o:Op):Option (MK×List ql):=bE (Nq P o) λ(k,os)=>bE (mapM' (M_ GL) os) λxs=>some (k,xs)
def E9(P:Program)(GL:aw)(n:Nat)(ops:List Oper)(o:Oper):Option aI:=
 QY (F6 n o.dst) (bE (QcL ops o.guard) λg=>match Sa P GL o.op with
  |some (k,xs)=>some ⟨o.dst,k,xs,g⟩
  | none=>some ⟨o.dst,.bad,[],g⟩)
theorem Mw{P:Program}{GL:aw}{n:Nat}{ops:Array Oper}{o:Oper}{m:aI}(h:E9 P GL n ops.toList o=some m):e_ P GL n ops o m:=by
 unfold E9 at h;obtain⟨hd,h⟩:=Xu h;obtain⟨g,hg,h⟩:=Qf h;have hk:∃k xs,m=⟨o.dst,k,xs,g⟩∧∃os,bW P GL o.op k os∧kv (jN GL) os xs:=by
  split at h
  ·rename_i k xs hk;cases h;unfold Sa at hk;obtain⟨⟨k,os⟩,hc,hk⟩:=Qf hk;obtain⟨xs,hx,hk⟩:=Qf hk;cases hk;exact⟨_,_,rfl,os,YcM hc,J1 TZ hx⟩
  ·cases h;exact⟨_,_,rfl,[],.bad _,trivial⟩
 obtain⟨k,xs,rfl,sG⟩:=hk;refine⟨rfl,λd e=>?_,sG,?_⟩
 ·simp only at e; rw[e] at hd; exact gE hd
 ·cases V7:o.guard with
  |none=>rw[V7] at hg; cases hg; trivial
  |some jw=>
   obtain⟨j,w⟩:=jw;rw[V7] at hg;obtain⟨o',eI,hg⟩:=Qf hg;obtain⟨s,hs,hg⟩:=Qf hg;cases hg<;>simp_all [Y7]
theorem Et{l:List Nat}{n:Nat}:jL l n=true↔n∈l:=by
 induction l with
 |nil=>simp[jL]
 |cons x l ih=>
  simp only[jL,Bool.or_eq_true,ih,List.mem_cons]
  grind [e9,Nat.beq_refl]
def EJ{β:Type}:List Nat→List Nat→(List Nat→β)→β
 |[],l,k=>k l
 |x::xs,l,k=>match jL l x with
  |true=>EJ xs l k
  |false=>EJ xs (x::l) k
def jd:List (List Nat)→Nat→List Nat
 |[],_=>[]
 |x::_,0=>x
 |_::l,n+1=>jd l n
def pn{β:Type}(acc:List (List Nat)):List Nat→List Nat→(List Nat→β)→β
 |[],s,k=>k s
 |i::r,s,k=>EJ (i::jd acc i) s λs=>pn acc r s k
def oi{β:Type}(s:List Nat):Nat→List Nat→(List Nat→β)→β
 |0,l,k=>k l
 |i+1,l,k=>match jL s i with
  |true=>oi s i (i::l) k
  |false=>oi s i l k
def DP{β:Type}:List (List Nat)→Nat→List (List Nat)→(List (List Nat)→β)→β
 |[],_,acc,k=>k acc
 |w::r,j,acc,k=>pn acc w [] λs=>oi s j [] λl=>tj (acc++[l]) λacc=>DP r (j+1) acc k
def qF(p:Nat→Bool):Nat→Bool
 |0=>true
 |i+1=>p i&&qF p i
def qG(p:Nat→Bool):List Nat→Bool
 |[]=>true
 |x::l=>p x&&qG p l
def nV:List Nat→List Nat→Bool
 |[],_=>true
 |x::a,b=>!(jL b x)&&nV a b
def rQ(n:Nat)(ws hd ds us:List (List Nat)):Bool:=
 qF (λj=>tj (jd ws j) λwj=>tj (jd hd j) λhj=>tj (jd ds j) λdj=>tj (jd us j) λuj=>
  qG (λi=>Nat.blt i j) wj && (qG (λi=>Nat.blt i j && (jL wj i || !(qG (λk=>!(jL (jd hd k) i)) wj))) hj &&
  qF (λi=>jL hj i || (nV (jd ds i) uj && (nV (jd ds i) dj && nV (jd us i) dj))) j)) n
def nX{α β:Type}(f:α→List Nat):List α→(List (List Nat)→β)→β
 |[],k=>k []
 |x::r,k=>tj (f x) λl=>nX f r λr=>k (l::r)
theorem Vf{α β:Type}(f:α→List Nat):∀(l:List α) (k:List (List Nat)→β),nX f l k=k (l.map f)
 |[],_=>rfl
 |x::r,k=>by simp only[nX,Fg,Vf f r,List.map_cons]
theorem DH:∀(l:List (List Nat)) (n:Nat),jd l n=(l[n]?).getD []
 |[],_=>rfl
 |x::_,0=>rfl
 |_::l,n+1=>by simp[jd,DH l n]
theorem EE{p:Nat→Bool}:∀ {n:Nat},qF p n=true→∀i,i<n→p i=true
 |0,_,i,h=>by omega
 |n+1,h,i,hi=>by
  simp only[qF,Bool.and_eq_true] at h;by_cases e:i=n
  ·rw[e]; exact h.1
  ·exact EE h.2 i (by omega)
theorem LA{p:Nat→Bool}:∀ {l:List Nat},qG p l=true↔∀i∈l,p i=true
 |[]=>by simp[qG]
 |x::l=>by simp only[qG,Bool.and_eq_true,LA (l:=l),List.mem_cons,forall_eq_or_imp]
theorem Sb:∀ {a b:List Nat},nV a b=true→eZ a b=true
 |[],_,_=>rfl
 |x::a,b,h=>by
  simp only[nV,eZ,Bool.and_eq_true,Bool.not_eq_true'] at h ⊢;refine⟨?_,Sb h.2⟩;cases e:b.contains x with
  |false=>rfl
  |true=>rw[Et.2 (List.contains_iff_mem.1 e)] at h; cases h.1
theorem Qdi{ops:List Oper}{ms:List aI}{hd:List (List Nat)}(h1:Nat.beq ops.length ms.length=true)(h2:Nat.beq hd.length ms.length=true)(h:rQ ms.length (ops.map waits) hd (ms.map dP) (ms.map gQ)=true):vX ops ms hd=true:=by
 have e1:=e9 h1;unfold rQ at h;simp only[Fg] at h;unfold vX;simp only[Bool.and_eq_true,List.all_eq_true,List.mem_range,Bool.or_eq_true,List.any_eq_true];have key:=λj hj=>EE h j hj;simp only[Bool.and_eq_true,LA] at key;have hw:∀j,j<ms.length→jd (ops.map waits) j=waits (ops.getD j default):=by
  simp_all [DH]
 have nI:∀j,jd hd j=Qq hd j:=λj=>DH _ _;have KM:∀j,j<ms.length→jd (ms.map dP) j=dP (ms.getD j default):=by
  simp_all [DH]
 have Wf:∀j,j<ms.length→jd (ms.map gQ) j=gQ (ms.getD j default):=by
  simp_all [DH]
 refine⟨⟨⟨⟨h1,h2⟩,λj hj i hi=>?_⟩,λj hj i hi=>?_⟩,λj hj i hi=>?_⟩
 ·simp_all
 ·have:=(key j hj).2.1 i (by rw[nI]; exact hi);rw[hw j hj] at this;refine⟨this.1,?_⟩;have q:=this.2;simp only[Bool.or_eq_true,Et,Bool.not_eq_true'] at q
  grind [LA,Et]
 ·have:=EE (key j hj).2.2 i hi;rw[nI,KM j hj,Wf j hj,KM i (by omega),Wf i (by omega)] at this;simp only[Bool.or_eq_true,Bool.and_eq_true,Et] at this
  grind [Sb]
theorem UQ{β:Type}:∀(ws:List (List Nat)) (j:Nat) (acc:List (List Nat)) (k:List (List Nat)→β),∃hd,DP ws j acc k=k hd
 |[],_,acc,_=>⟨acc,rfl⟩
 |w::r,j,acc,k=>by
  have hu:∀ {γ:Type} (xs l:List Nat) (k:List Nat→γ),∃s,EJ xs l k=k s:=by
   intro γ xs
   induction xs with
   |nil=>intro l k; exact⟨l,rfl⟩
   |cons x xs ih=>
    intro l k;unfold EJ;cases jL l x<;>simp_all
  have hc:∀ {γ:Type} (w s:List Nat) (k:List Nat→γ),∃s',pn acc w s k=k s':=by
   intro γ w
   induction w with
   |nil=>intro s k; exact⟨s,rfl⟩
   |cons i w ih=>
    intro s k;unfold pn;obtain⟨s1,h1⟩:=hu (i::jd acc i) s (λs=>pn acc w s k);rw[h1]; exact ih s1 k
  have hs:∀ {γ:Type} (s:List Nat) (j:Nat) (l:List Nat) (k:List Nat→γ),∃l',oi s j l k=k l':=by
   intro γ s j
   induction j with
   |zero=>intro l k; exact⟨l,rfl⟩
   |succ j ih=>
    intro l k;unfold oi;cases jL s j<;>simp_all
  unfold DP;obtain⟨s,h1⟩:=hc w [] (λs=>oi s j [] λl=>tj (acc++[l]) λacc=>DP r (j+1) acc k);rw[h1];obtain⟨l,h2⟩:=hs s j [] (λl=>tj (acc++[l]) λacc=>DP r (j+1) acc k);simp_all [Fg,UQ]
def Yz(P:Program)(GL:aw)(n:Nat):Code→Option cN
 |.skip=>some .skip
 |.region id ops dr=>bE (mapM' (E9 P GL n ops.toList) ops.toList) λms=>match dr with
  |false=>some (.region id ms none)
  |true=>nX waits ops.toList λws=>DP ws 0 [] λhd=>nX dP ms λds=>nX gQ ms λus=>
   QY (Nat.beq ops.toList.length ms.length&&(Nat.beq hd.length ms.length&&rQ ms.length ws hd ds us)) (some (.region id ms (some hd)))
 |.seq a b=>bE (Yz P GL n a) λx=>bE (Yz P GL n b) λy=>some (.seq x y)
 |.cond c a b=>bE (M_ GL c) λd=>bE (Yz P GL n a) λx=>bE (Yz P GL n b) λy=>some (.cond d x y)
 |.block id a=>bE (Yz P GL n a) λx=>some (.block id x)
 |.loop a=>bE (Yz P GL n a) λx=>some (.loop x)
 |.scope a=>bE (Yz P GL n a) λx=>some (.scope x)
 |.exit id=>some (.exit id)
 |.label l=>some (.label l)
 |.ret=>some .ret
 |_=>none
theorem I5{α β:Type}{f:α→Option β}:∀ {l:List α} {r:List β},mapM' f l=some r→l.length=r.length∧∀(j:Nat) (b:β),r[j]?=some b→∃a,l[j]?=some a∧f a=some b
 |[],r,h=>by simp[mapM'] at h; subst h; simp
 |a::l,r,h=>by
  obtain⟨b,hb,h⟩:=Qf h;obtain⟨r',hr,h⟩:=Qf h;cases h;obtain⟨h1,h2⟩:=I5 hr
  grind
theorem UG{P:Program}{GL:aw}{n:Nat}:∀ {c:Code} {m:cN},Yz P GL n c=some m→ck P GL n c m:=by
 intro c
 induction c with
 |skip=>intro m h; cases h; exact .skip
 |region id ops dr=>
  intro m h;simp only[Yz] at h;obtain⟨ms,hm,h⟩:=Qf h;obtain⟨h1,h2⟩:=I5 hm;have bV:∀(j:Nat) (x:aI),ms[j]?=some x→∃o,ops[j]?=some o∧e_ P GL n ops o x:=λj x e=>by
   grind [Mw]
  cases dr with
  |false=>cases h; exact .region _ _ _ (by simpa using h1) bV
  |true=>
   simp only[Vf] at h;obtain⟨hd,hh⟩:=UQ (ops.toList.map waits) 0 [] (λhd=>QY (Nat.beq ops.toList.length ms.length&&(Nat.beq hd.length ms.length&&rQ ms.length (ops.toList.map waits) hd (ms.map dP) (ms.map gQ))) (some (cN.region id ms (some hd))));rw[hh] at h;obtain⟨hg,h⟩:=Xu h;simp only[Bool.and_eq_true] at hg;cases h; exact .draw _ _ _ _ (by simpa using h1) bV (Qdi hg.1 hg.2.1 hg.2.2)
 |seq a b PF PG=>
  intro m h;simp only[Yz] at h;obtain⟨x,hx,h⟩:=Qf h;obtain⟨y,hy,h⟩:=Qf h;cases h; exact .seq _ _ _ _ (PF hx) (PG hy)
 |cond c a b PF PG=>
  intro m h;simp only[Yz] at h;obtain⟨d,hd,h⟩:=Qf h;obtain⟨x,hx,h⟩:=Qf h;obtain⟨y,hy,h⟩:=Qf h;cases h; exact .cond _ _ _ _ _ _ (TZ hd) (PF hx) (PG hy)
 |block id a ih=>
  intro m h;simp only[Yz] at h;obtain⟨x,hx,h⟩:=Qf h;cases h; exact .block _ _ _ (ih hx)
 |loop a ih=>
  intro m h;simp only[Yz] at h;obtain⟨x,hx,h⟩:=Qf h;cases h; exact .loop _ _ (ih hx)
 |scope a ih=>
  intro m h;simp only[Yz] at h;obtain⟨x,hx,h⟩:=Qf h;cases h; exact .scope _ _ (ih hx)
 |exit id=>intro m h; cases h; exact .exit _
 |label l=>intro m h; cases h; exact .label _
 |ret=>intro m h; cases h; exact .ret
 |_=>intro m h; simp[Yz] at h
def MC(P:Program):ResultVar→Option RV
 |.tmp t=>some (.t t)
 |.cell s t=>bE (eS P t) λagg=>bE (size? P t) λn=>some (.c s agg n)
theorem SV{P:Program}{r:ResultVar}{v:RV}(h:MC P r=some v):qB P r v:=by
 cases r with
 |tmp t=>cases h; exact .tmp _
 |cell s t=>
  obtain⟨agg,ha,h⟩:=Qf h;obtain⟨n,hn,h⟩:=Qf h;cases h; exact .cell _ _ _ _ ha hn
def MP(P:Program)(GL:aw)(np:Nat)(f:FuncId):Option sT:=
 bE P.funcs[f]? λfn=>bE fn.body λc=>QY (Nat.ble np fn.ntmps) (bE (Yz P GL fn.ntmps c) λm=>bE (mapM' (MC P) fn.results.toList) λrs=>some ⟨np,fn.ntmps,m,rs⟩)
theorem XcL{P:Program}{GL:aw}{np:Nat}{f:FuncId}{F:sT}(h:MP P GL np f=some F):kX P GL f F:=by
 unfold MP at h;obtain⟨fn,h1,h⟩:=Qf h;obtain⟨c,h2,h⟩:=Qf h;obtain⟨h3,h⟩:=Xu h;obtain⟨m,h4,h⟩:=Qf h;obtain⟨rs,h5,h⟩:=Qf h;cases h;exact⟨⟨fn,c,h1,h2,rfl,UG h4,J1 SV h5⟩,gE h3⟩
theorem aB.ptr{h0:Hp}{rd:List Nat}{b i j sz:Nat}{rs:List (List aa)}{row row':List aa}(hb:h0 b=some (.rows sz rs))(cY:b∈rd)(hi:rs[i]?=some row)(hr:bp h0 rd row row'):aB h0 rd (.ptr b i j) (.ao row' j):=by
 intro GL w0 L g h w M2 r hM cH v d;have bZ:h b=some (.rows sz rs):=by rw[cH b cY]; exact hb
 cases d with
 |ptr _ _ _ _ cb ec=>
 cases bP:cb.cS with
 |true=>
  have:=(r.fR bZ ec bP).2;subst this; simp at hi
 |false=>
 obtain⟨e1,arr,T,eI,hs,hle,dT,cI⟩:=r.eQ bZ ec bP;have hw:M2 cb.aE=some (.cells arr T (0,0)):=hM.2 b _ cb _ bZ rfl ec bP eI;have cp:i<rs.length:=(gn hi).1;have Ag:=dT _ _ hi;have l9:∀k,k<sz→cb.base+i*sz+k<arr.size:=by
  intro k hk;have:(i+1)*sz≤rs.length*sz:=Nat.mul_le_mul_right sz cp;rw[Nat.succ_mul] at this; omega
 obtain⟨k1,k2⟩:=hr.get r hM cH (vs:=(arr.extract (cb.base + i * sz) (cb.base + i * sz + sz)).toList) (by
  simp[Ag];by_cases h0:sz=0
  ·subst h0; simp
  ·have:=l9 (sz-1) (by omega); omega) (λk x v q3 q4=>by
  have hk:k<sz:=by rw[←Ag]; exact(gn q3).1
  have eX:=l9 k hk;rw[Array.getElem?_toList] at q4;obtain⟨_,q4⟩:=Array.getElem?_eq_some_iff.1 q4;rw[Array.getElem_extract] at q4;exact cI _ row k x v hi q3 (by rw[Array.getElem?_eq_getElem eX,q4]))
 have hlen:row'.length=sz:=by
  rw[k1]; simp;by_cases h0:sz=0
  ·subst h0; simp
  ·have:=l9 (sz-1) (by omega); omega
 rw[e1];refine .ao _ _ _ _ _ (λk=>(arr[cb.base+i*sz+k]?).getD undef) (λk hk=>?_) (λk x e=>?_)
 ·have uy:=l9 k (by omega);simp[gN,hw,uy]
 ·have hk:k<sz:=by rw[←hlen]; exact(gn e).1
  have eX:=l9 k hk;simp only[Array.getElem?_eq_getElem eX,Option.getD_some];refine k2 k x _ e ?_;rw[Array.getElem?_toList,Array.getElem?_eq_getElem (by simp; omega),Array.getElem_extract]
def EP(f:List aa→Option (List aa×List Nat)):List (List aa)→Option (List (List aa)×List Nat)
 |[]=>some ([],[])
 |r::rs=>match f r,EP f rs with
  |some (r',rd),some (rs',kl)=>some (r'::rs',rd++kl)
  |_,_=>none
def sO:List (aa×aa)→Bool
 |[]=>true
 |(k,v)::r=>k.ro&&(v.ro&&sO r)
def Xy(σ:List ab):Nat→List aa→Option (List aa×List Nat)
 |_,[]=>some ([],[])
 |0,_::_=>none
 |fuel+1,x::xs=>match Xy σ fuel xs with
  |none=>none
  |some (ys,rd)=>match x with
   |.ai b j=>match ah σ b with
    |.box row=>match Xy σ fuel row with
     |some (row',kl)=>some (.ao row' j::ys,b::kl++rd)
     |none=>none
    |_=>none
   |.ptr b i j=>match ah σ b with
    |.rows _ rs=>match nth rs i with
     |some row=>match Xy σ fuel row with
      |some (row',kl)=>some (.ao row' j::ys,b::kl++rd)
      |none=>none
     |none=>none
    |_=>none
   |.sl b off len ex=>match ah σ b with
    | .rows sz rs=>bif Nat.ble (off + len) rs.length then (match EP (Xy σ fuel) (cut off (off + len) rs) with
     |some (rs',kl)=>some (.ax ex false sz rs'::ys,b::kl++rd)
     | none=>none) else none
    |_=>none
   |.map b=>match ah σ b with
    |.map es=>bif sO es then some (.eN es::ys,b::rd) else none
    |_=>none
   |.iface t v=>match Xy σ fuel [v] with
    |some ([v'],kl)=>some (.iface t v'::ys,kl++rd)
    |_=>none
   |.agg cs=>match Xy σ fuel cs with
    |some (yj,kl)=>some (.agg yj::ys,kl++rd)
    |_=>none
   |.func fn a b=>match Xy σ fuel a,Xy σ fuel b with
    |some (a',kl),some (b',P2)=>some (.func fn a' b'::ys,kl++P2++rd)
    |_,_=>none
   |x=>bif x.ro then some (x::ys,rd) else none
theorem Nd:∀ {es:List (aa×aa)},sO es=true→∀p∈es,p.1.ro=true∧p.2.ro=true
 |[],_,_,h=>by cases h
 |(k,v)::r,h,p,hp=>by
  simp only[sO,Bool.and_eq_true] at h;rcases List.mem_cons.1 hp with rfl|hp
  ·exact⟨h.1,h.2.1⟩
  ·exact Nd h.2.2 p hp
theorem U1{f:List aa→Option (List aa×List Nat)}:∀ {rs rs':List (List aa)} {rd:List Nat},EP f rs=some (rs',rd)→rs'.length=rs.length∧∀(i:Nat) (r r':List aa),rs[i]?=some r→rs'[i]?=some r'→∃kl,f r=some (r',kl)∧∀b∈kl,b∈rd
 |[],rs',rd,h=>by simp only[EP] at h; cases h; simp
 |r::rs,rs',rd,h=>by
  simp only[EP] at h;split at h
  ·rename_i r1 P3 rs1 K7 e1 e2;cases h;obtain⟨h1,h2⟩:=U1 e2;refine⟨by simp[h1],λi x x' q1 q2=>?_⟩;cases i with
   |zero=>simp at q1 q2; subst q1 q2; exact⟨P3,e1,λb hb=>List.mem_append.2 (.inl hb)⟩
   |succ i=>
    simp at q1 q2;obtain⟨kl,k1,k2⟩:=h2 i x x' q1 q2;exact⟨kl,k1,λb hb=>List.mem_append.2 (.inr (k2 b hb))⟩
  ·cases h
theorem Y0{σ:List ab}:∀(fuel:Nat) (xs ys:List aa) (rd:List Nat),Xy σ fuel xs=some (ys,rd)→∀kl,(∀b∈rd,b∈kl)→bp (hp σ) kl xs ys:=by
 intro fuel
 induction fuel with
 |zero=>
  intro xs ys rd h kl hs;cases xs<;>simp_all [Xy,bp.nil]
 |succ fuel ih=>
  intro xs ys rd h kl hs;cases xs with
  |nil=>simp_all [Xy]
  |cons x xs=>
   simp only[Xy] at h;cases h0:Xy σ fuel xs with
   |none=>simp[h0] at h
   |some p=>
    obtain⟨ys0,rd0⟩:=p;simp only[h0] at h;split at h
    ·rename_i b j;split at h<;>grind [bp.cons,aB.box,ZP]
    ·rename_i b i j;split at h
     ·rename_i sz rs hg;split at h<;>grind [Y7,bp.cons,aB.ptr,ZH]
     ·cases h
    ·rename_i b off len ex;split at h
     ·rename_i sz rs hg
      replace h:=ZE h
      obtain⟨hle,h⟩:=h;split at h
      ·rename_i rs' P3 hr;cases h;obtain⟨m1,m2⟩:=U1 hr;have GZ:=gE hle;refine bp.cons (aB.sl (ZH hg) (hs _ (by simp)) GZ (by rw[m1,Fa GZ]; omega) (λi r r' q1 q2=>?_)) (ih _ _ _ h0 kl (λq hq=>hs q (by simp[hq])));have hi:i<len:=by
        grind [Fa]
       have hc:(cut off (off+len) rs)[i]?=some r:=by
        grind [cut]
       grind
      ·cases h
     ·cases h
    ·rename_i b;split at h
     ·rename_i es hg
      replace h:=ZE h
      obtain⟨kV,h⟩:=h;cases h;exact bp.cons (aB.map (E' hg) (hs _ (by simp)) (Nd kV)) (ih _ _ _ h0 kl (λq hq=>hs q (by simp[hq])))
     ·cases h
    ·split at h
     ·rename_i v' P3 hr;cases h;have:=ih _ _ _ hr kl (λq hq=>hs q (by simp[hq]));refine bp.cons (aB.iface (λGL w0 L g h w M2 r hM cH v d=>?_)) (ih _ _ _ h0 kl (λq hq=>hs q (by simp[hq])));exact(this GL w0 L g h w M2 r hM cH [v] ⟨d,trivial⟩).1
     ·cases h
    ·grind [bp.cons,aB.agg]
    ·grind [bp.cons,aB.func]
    ·replace h:=ZE h
     grind [bp.cons,aB.ro]
end Go.Ah
end
section
namespace Go.Ah
mutual
def aa.cj (m:Nat→Option Nat):aa→aa
 |.ai b j=>match m b with
  |some b'=>.ai b' j
  |none=>.aF
 |.ptr b i j=>match m b with
  |some b'=>.ptr b' i j
  |none=>.aF
 |.sl b off len ex=>match m b with
  |some b'=>.sl b' off len ex
  |none=>.aF
 |.map b=>match m b with
  |some b'=>.map b'
  |none=>.aF
 |.iter b=>match m b with
  |some b'=>.iter b'
  |none=>.aF
 |.func fn xs ys=>.func fn (fZ m xs) (fZ m ys)
 |.iface t v=>.iface t (v.cj m)
 |.agg cs=>.agg (fZ m cs)
 |.bn cs=>.bn (fZ m cs)
 |.when cs x=>.when cs (x.cj m)
 |.aF=>.aF
 |.bool b=>.bool b
 |.int k n=>.int k n
 |.str s=>.str s
 |.ei=>.ei
 |.ao row j=>.ao row j
 |.aq=>.aq
 |.cK=>.cK
 |.ax a b c d=>.ax a b c d
 |.eN es=>.eN es
 |.cB=>.cB
 |.bx=>.bx
 |.cV=>.cV
def fZ (m:Nat→Option Nat):List aa→List aa
 |[]=>[]
 |x::xs=>x.cj m::fZ m xs
end
theorem Lv(m:Nat→Option Nat):∀xs:List aa,fZ m xs=xs.map (aa.cj m)
 |[]=>rfl
 |x::xs=>by simp[fZ,Lv m xs]
theorem DK{m:Nat→Option Nat}{xs:List aa}{i:Nat}{y:aa}(h:(fZ m xs)[i]?=some y):∃x,xs[i]?=some x∧y=x.cj m:=by
 rw[Lv,List.getElem?_map] at h
 grind
theorem XA(m:Nat→Option Nat)(xs:List aa):(fZ m xs).length=xs.length:=by rw[Lv]; simp
theorem Den.cj{M:Nat→Option Obj}{m:Nat→Option Nat}{c':Own}{c:Own}{x:aa}{v:Value}(h:Den M c x v):(∀b b' cb,m b=some b'→c b=some cb→c' b'=some cb)→Den M c' (x.cj m) v:=by
 induction h with
 |aF=>intro _; exact .aF _ _
 |bool=>intro _; exact .bool _ _
 |int=>intro _; exact .int _ _ _
 |str=>intro _; exact .str _ _
 |ei=>intro _; exact .ei _
 |ai c b j cb e=>
  intro hm; simp only[aa.cj];cases hb:m b with
  |none=>exact .aF _ _
  |some b'=>exact .ai _ _ _ _ (hm _ _ _ hb e)
 |ptr c b i j cb e=>
  intro hm; simp only[aa.cj];cases hb:m b with
  |none=>exact .aF _ _
  |some b'=>exact .ptr _ _ _ _ _ (hm _ _ _ hb e)
 |ao c row j aE off f h1 h2 ih=>intro _; exact .ao _ _ _ _ _ f h1 h2
 |aq=>intro _; exact .aq _
 |cK=>intro _; exact .cK _ _
 |sl c b off len ex cb cap e h1 h2 h3 h4=>
  intro hm; simp only[aa.cj];cases hb:m b with
  |none=>exact .aF _ _
  |some b'=>exact .sl _ _ _ _ _ _ _ (hm _ _ _ hb e) h1 h2 h3 h4
 |nO c b ex cb a e h1=>
  intro hm; simp only[aa.cj];cases hb:m b with
  |none=>exact .aF _ _
  |some b'=>exact .nO _ _ _ _ _ (hm _ _ _ hb e) h1
 |sle c b off ex cb a e h1 h2 h3=>
  intro hm; simp only[aa.cj];cases hb:m b with
  |none=>exact .aF _ _
  |some b'=>exact .sle _ _ _ _ _ _ (hm _ _ _ hb e) h1 h2 h3
 |ax c ex nn sz rows a cap aE off f h1 h2 h3 wF h4 h5 h6 h7 ih=>intro _; exact .ax _ _ _ _ _ _ _ aE off f h1 h2 h3 wF h4 h5 h6 h7
 |map c b cb e=>
  intro hm; simp only[aa.cj];cases hb:m b with
  |none=>exact .aF _ _
  |some b'=>exact .map _ _ _ (hm _ _ _ hb e)
 |eN c es aE arr clock e h1 h2 h3 sL sM=>intro _; exact .eN _ _ _ _ _ e h1 h2 h3
 |cB=>intro _; exact .cB _
 |func c fn first captured vs ws h1 h2 h3 h4 sL sM=>
  intro hm; simp only[aa.cj];exact .func _ _ _ _ _ _ (by rw[XA]; exact h1) (by rw[XA]; exact h2)
   (λi y u e1 e2=>by obtain⟨x,q1,rfl⟩:=DK e1; exact sL i x u q1 e2 hm) (λi y u e1 e2=>by obtain⟨x,q1,rfl⟩:=DK e1; exact sM i x u q1 e2 hm)
 |bx=>intro _; exact .bx _
 |iface c t x v h ih=>intro hm; exact .iface _ _ _ _ (ih hm)
 |cV=>intro _; exact .cV _
 |agg c cs vs h1 h2 ih=>intro hm; simp only[aa.cj]; exact .agg _ _ _ (by rw[XA]; exact h1) (λi y u e1 e2=>by obtain⟨x,q1,rfl⟩:=DK e1; exact ih i x u q1 e2 hm)
 |bn c cs vs h1 h2 ih=>intro hm; simp only[aa.cj]; exact .bn _ _ _ (by rw[XA]; exact h1) (λi y u e1 e2=>by obtain⟨x,q1,rfl⟩:=DK e1; exact ih i x u q1 e2 hm)
 |when c cs x v h h2 ih=>intro hm; exact .when _ _ _ _ (λhp=>ih hp hm) h2
 |iter c b cb e=>
  intro hm; simp only[aa.cj];cases hb:m b with
  |none=>exact .aF _ _
  |some b'=>exact .iter _ _ _ (hm _ _ _ hb e)
mutual
def aa.c8:aa→Bool
 |.ao _ _=>false
 |.ax _ _ _ (_::_)=>false
 |.eN _=>false
 |.func _ xs ys=>gh xs&&gh ys
 |.iface _ v=>v.c8
 |.agg cs=>gh cs
 |.bn cs=>gh cs
 |.when _ x=>x.c8
 |_=>true
def gh:List aa→Bool
 |[]=>true
 |x::xs=>x.c8&&gh xs
end
theorem Ey:∀ {xs:List aa} {i:Nat} {x:aa},gh xs=true→xs[i]?=some x→x.c8=true
 |[],i,x,_,e=>by simp at e
 |y::xs,0,x,h,e=>by simp_all [gh]
 |y::xs,i+1,x,h,e=>by simp[gh] at h; simp at e; exact Ey h.2 e
mutual
theorem aa.jv (m:Nat→Option Nat):∀(x:aa),x.c8=true→(x.cj m).c8=true
 |.ai b j,_=>by simp only[aa.cj]; split<;>rfl
 |.ptr b i j,_=>by simp only[aa.cj]; split<;>rfl
 |.sl b off len ex,_=>by simp only[aa.cj]; split<;>rfl
 |.map b,_=>by simp only[aa.cj]; split<;>rfl
 |.iter b,_=>by simp only[aa.cj]; split<;>rfl
 |.func fn xs ys,h=>by
  simp only[aa.c8,Bool.and_eq_true] at h
  simp only[aa.cj,aa.c8,Bool.and_eq_true]
  exact⟨Ff m xs h.1,Ff m ys h.2⟩
 |.iface t v,h=>by simp only[aa.c8] at h; simp only[aa.cj,aa.c8]; exact aa.jv m v h
 |.agg cs,h=>by simp only[aa.c8] at h; simp only[aa.cj,aa.c8]; exact Ff m cs h
 |.bn cs,h=>by simp only[aa.c8] at h; simp only[aa.cj,aa.c8]; exact Ff m cs h
 |.when cs x,h=>by simp only[aa.c8] at h; simp only[aa.cj,aa.c8]; exact aa.jv m x h
 |.aF,_=>rfl
 |.bool b,_=>rfl
 |.int k n,_=>rfl
 |.str s,_=>rfl
 |.ei,_=>rfl
 |.ao row j,h=>h
 |.aq,_=>rfl
 |.cK,_=>rfl
 |.ax a b c d,h=>h
 |.eN es,h=>h
 |.cB,_=>rfl
 |.bx,_=>rfl
 |.cV,_=>rfl
theorem Ff (m:Nat→Option Nat):∀(xs:List aa),gh xs=true→gh (fZ m xs)=true
 |[],_=>rfl
 |x::xs,h=>by
  simp only[gh,Bool.and_eq_true] at h
  simp only[fZ,gh,Bool.and_eq_true]
  exact⟨aa.jv m x h.1,Ff m xs h.2⟩
end
def ab.c7(f:aa→aa):ab→ab
 |.dead=>.dead
 |.box row=>.box (row.map f)
 |.rows sz rs=>.rows sz (rs.map λr=>r.map f)
 |.map es=>.map (es.map λp=>(f p.1,f p.2))
 |.eF s p=>.eF s p
def ab.qx(p:aa→Prop):ab→Prop
 |.dead=>True
 |.box row=>∀x∈row,p x
 |.rows _ rs=>∀r∈rs,∀x∈r,p x
 |.map es=>∀e∈es,p e.1∧p e.2
 |.eF _ _=>True
def Z7:List (List aa)→Bool
 |[]=>true
 |r::rs=>gh r&&Z7 rs
def J7:List (aa×aa)→Bool
 |[]=>true
 |(k,v)::r=>k.c8&&(v.c8&&J7 r)
def ab.c8:ab→Bool
 |.dead=>true
 |.box row=>gh row
 |.rows _ rs=>Z7 rs
 |.map es=>J7 es
 |.eF _ _=>true
def xM:List ab→Bool
 |[]=>true
 |b::bs=>b.c8&&xM bs
theorem Lg:∀ {xs:List aa},gh xs=true→∀x∈xs,x.c8=true
 |y::xs,h,x,hx=>by
  simp only[gh,Bool.and_eq_true] at h;rcases List.mem_cons.1 hx with rfl|hx
  ·exact h.1
  ·exact Lg h.2 x hx
theorem Rz:∀ {rs:List (List aa)},Z7 rs=true→∀r∈rs,∀x∈r,x.c8=true
 |y::rs,h,r,hr=>by
  simp only[Z7,Bool.and_eq_true] at h;rcases List.mem_cons.1 hr with rfl|hr
  ·exact Lg h.1
  ·exact Rz h.2 r hr
theorem U3:∀ {es:List (aa×aa)},J7 es=true→∀e∈es,e.1.c8=true∧e.2.c8=true
 |(k,v)::r,h,e,he=>by
  simp only[J7,Bool.and_eq_true] at h;rcases List.mem_cons.1 he with rfl|he
  ·exact⟨h.1,h.2.1⟩
  ·exact U3 h.2.2 e he
theorem ab.uT{b:ab}(h:b.c8=true):b.qx (λx=>x.c8=true):=by
 cases b with
 |dead=>trivial
 |box row=>exact Lg h
 |rows sz rs=>exact Rz h
 |map es=>exact U3 h
 |eF s q=>trivial
theorem RW:∀ {bs:List ab},xM bs=true→∀b∈bs,b.qx (λx=>x.c8=true)
 |y::bs,h,b,hb=>by
  simp only[xM,Bool.and_eq_true] at h;rcases List.mem_cons.1 hb with rfl|hb
  ·exact ab.uT h.1
  ·exact RW h.2 b hb
theorem ab.all_true(b:ab):b.qx (λ_=>True):=by
 cases b<;>simp[ab.qx]
theorem Den.c8{M:Nat→Option Obj}{c:Own}{x:aa}{v:Value}(h:Den M c x v):x.c8=true→∀M',Den M' c x v:=by
 induction h with
 |aF=>intro _ _; exact .aF _ _
 |bool=>intro _ _; exact .bool _ _
 |int=>intro _ _; exact .int _ _ _
 |str=>intro _ _; exact .str _ _
 |ei=>intro _ _; exact .ei _
 |ai c b j cb e=>intro _ _; exact .ai _ _ _ _ e
 |ptr c b i j cb e=>intro _ _; exact .ptr _ _ _ _ _ e
 |ao=>intro h; simp[aa.c8] at h
 |aq=>intro _ _; exact .aq _
 |cK=>intro _ _; exact .cK _ _
 |sl c b off len ex cb cap e h1 h2 h3 h4=>intro _ _; exact .sl _ _ _ _ _ _ _ e h1 h2 h3 h4
 |nO c b ex cb a e h1=>intro _ _; exact .nO _ _ _ _ _ e h1
 |sle c b off ex cb a e h1 h2 h3=>intro _ _; exact .sle _ _ _ _ _ _ e h1 h2 h3
 |ax c ex nn sz rows a cap aE off f h1 h2 h3 wF h4 h5 h6 h7 ih=>
  intro h M';cases rows with
  |nil=>exact .ax _ _ _ _ [] _ _ aE off f h1 h2 h3 wF h4 h5 (by simp) (by simp)
  |cons r rs=>simp[aa.c8] at h
 |map c b cb e=>intro _ _; exact .map _ _ _ e
 |eN=>intro h; simp[aa.c8] at h
 |cB=>intro _ _; exact .cB _
 |func c fn first captured vs ws h1 h2 h3 h4 sL sM=>
  intro h M';simp[aa.c8] at h;exact .func _ _ _ _ _ _ h1 h2 (λi x v e1 e2=>sL i x v e1 e2 (Ey h.1 e1) M') (λi x v e1 e2=>sM i x v e1 e2 (Ey h.2 e1) M')
 |bx=>intro _ _; exact .bx _
 |iface c t x v h ih=>intro hr M'; exact .iface _ _ _ _ (ih (by simpa[aa.c8] using hr) M')
 |cV=>intro _ _; exact .cV _
 |agg c cs vs h1 h2 ih=>intro h M'; exact .agg _ _ _ h1 (λi x v e1 e2=>ih i x v e1 e2 (Ey (by simpa[aa.c8] using h) e1) M')
 |bn c cs vs h1 h2 ih=>intro h M'; exact .bn _ _ _ h1 (λi x v e1 e2=>ih i x v e1 e2 (Ey (by simpa[aa.c8] using h) e1) M')
 |when c cs x v h h2 ih=>intro hr M'; exact .when _ _ _ _ (λhp=>ih hp (by simpa[aa.c8] using hr) M') h2
 |iter c b cb e=>intro _ _; exact .iter _ _ _ e
theorem ab.bH(f:aa→aa)(b:ab):(b.c7 f).live=b.live:=by cases b<;>rfl
theorem iq.c7{M M':Nat→Option Obj}{c c':Own}{f:aa→aa}{p:aa→Prop}(hf:∀x v,p x→Den M c x v→Den M' c' (f x) v){cb:CB}{o:Obj}{b:ab}(h:iq M c cb o b)(hp:b.qx p):iq M' c' cb o (b.c7 f):=by
 cases b with
 |dead=>trivial
 |box row=>
  obtain⟨arr,T,h1,h2,h3⟩:=h;refine⟨arr,T,h1,by simpa using h2,λj x v e1 e2=>?_⟩;rw[List.getElem?_map] at e1;cases hx:row[j]? with
  |none=>simp[hx] at e1
  |some y=>simp[hx] at e1; subst e1; exact hf y v (hp y (List.mem_of_getElem? hx)) (h3 j y v hx e2)
 |rows sz rows=>
  obtain⟨h0,arr,T,h1,h2,h3,h4,h5⟩:=h;refine⟨h0,arr,T,h1,h2,by simpa using h3,λi row e=>?_,λi row j x v e1 e2 e3=>?_⟩
  ·grind
  ·rw[List.getElem?_map] at e1;cases hx:rows[i]? with
   |none=>simp[hx] at e1
   |some y=>
    simp[hx] at e1; subst e1;rw[List.getElem?_map] at e2;cases hy:y[j]? with
    |none=>simp[hy] at e2
    |some z=>simp[hy] at e2; subst e2; exact hf z v (hp y (List.mem_of_getElem? hx) z (List.mem_of_getElem? hy)) (h5 i y j z v hx hy e3)
 |map es=>
  obtain⟨arr,clock,h1,h2,h3⟩:=h;refine⟨arr,clock,h1,by simpa using h2,λi k x e e1 e2=>?_⟩;rw[List.getElem?_map] at e1;cases hx:es[i]? with
  |none=>simp[hx] at e1
  |some y=>
   simp[hx] at e1; obtain⟨rfl,rfl⟩:=e1;have:=h3 i y.1 y.2 e hx e2;have hpy:=hp y (List.mem_of_getElem? hx);simp_all
 |eF s q=>exact h
def ZK(N:Nat):Nat→Option Nat:=λb=>some (b+N)
def ZB(N:Nat):List ab→List (Nat×ab)
 |[]=>[]
 |b::bs=>(N,b)::ZB (N+1) bs
theorem SE:∀(bs:List ab) (N:Nat) (h:Hp) (b:Nat),cq h (ZB N bs) b=if N≤b∧b<N+bs.length then bs[b-N]? else h b
 |[],N,h,b=>by simp[ZB,cq]; intro h1 h2; omega
 |x::bs,N,h,b=>by
  simp only[ZB,cq];rw[SE bs (N+1)];by_cases h1:b=N
  ·subst h1; rw[if_neg (by omega),if_pos (by simp),Qu]; simp
  ·by_cases h2:N+1≤b∧b<N+1+bs.length
   ·grind
   ·rw[if_neg h2,if_neg (by simp; omega),Yq _ _ h1]
section
variable {P:Program} {GL:aw}
def dh(P:Program)(GL:aw)(f:FuncId)(xs:List aa)(v:aa)(bs:List ab):Prop:=
 ∀(w:World) (M:Nat→Option Obj) (vs:List Value),(∀b o,M b=some o→w.heap[b]?=some o)→(∀p∈GL,Den M bg (.ao p.2 0) (.pointer (some ⟨p.1,0,none⟩)))→df ⟨M,bg⟩ xs vs →
  Calls P f vs.toArray w λe w'=>∃u,e=.returned u∧∃g',gZ M g'.M∧br GL w ⟨[],M⟩ g' (hp bs) w'∧g'.den v u
theorem UK{f:FuncId}{F:sT}(ok:kX P GL f F){xs:List aa}(hn:xs.length=F.np){v:aa}{bs:List ab}
 (h:gR P GL F.n F.body (dS xs) [] (λe ρ σ=>(e=.normal∨e=.ret)∧gA F.fF ρ σ=some v∧σ=bs)):dh P GL f xs v bs:=by
 intro w M vs hM hg hx;obtain⟨fn,c,h1,h2,h3,h4,h5⟩:=ok.ok;have r0:=br.start (GL:=GL) w M hM hg;have hh:hp []=nf:=by funext b; simp[hp,nf]
 rw[←hh] at r0;have d0:=Y1 hx (n:=F.n) (by rw[hn]; exact ok.np);refine calls_of_wp h1 h2 ?_;rw[h3];refine wp_mono (h c h4 w ⟨[],M⟩ _ _ w r0 d0) (λe a' w' hl=>?_);have fin:∀g' ρ σ,(⟨M,bg⟩:Gm).Le g'→br GL w ⟨[],M⟩ g' (hp σ) w'→cD F.n g' ρ a'→(gA F.fF ρ σ=some v∧σ=bs)→∃u,(results fn a'.tmps).run P w'=.ok u w'∧(∃u',Ending.returned u=.returned u'∧∃g',gZ M g'.M∧br GL w ⟨[],M⟩ g' (hp bs) w'∧g'.den v u'):=by
  rintro g' ρ σ hle hr hd ⟨mZ,rfl⟩;obtain⟨u,k1,k2⟩:=DB hr hd h5 mZ;exact⟨u,k1,u,rfl,g',hle.m,hr,k2⟩
 cases e with
 |normal=>obtain⟨g',ρ,σ,k1,k2,k3,k4⟩:=hl; exact⟨k3.defers,fin g' ρ σ k1 k2 k3 k4.2⟩
 |ret=>obtain⟨g',ρ,σ,k1,k2,k3,k4⟩:=hl; exact⟨k3.defers,fin g' ρ σ k1 k2 k3 k4.2⟩
 |exit id=>obtain⟨g',ρ,σ,k1,k2,k3,k4⟩:=hl; rcases k4.1 with q|q<;>cases q
 |_=>exact hl.elim
theorem br.yQ{w0:World}{L:Ln}{g:Gm}{h:Hp}{w w':World}(r:br GL w0 L g h w){M:Nat→Option Obj}{g':Gm}{h':Hp}{bs:List ab}(r':br GL w ⟨[],M⟩ g' h' w')(s:Nat)(hs:∀i,i<bs.length→h' (s+i)=bs[i]?)(m:Nat→Option Nat)(M2:Nat→Option Obj)(p:aa→Prop)
 (hM:gZ g.M M2)(fT:∀b o,M2 b=some o→w'.heap[b]?=some o)(kJ:∀b o,M2 b=some o→g.M b=some o∨w.heap.size≤b)(qP:∀b,w.heap.size≤b→g'.M b=none→M2 b=none)
 (cI:∀c x v,p x→Den g'.M c x v→Den M2 c x v)(hY:∀b∈bs,b.qx p)(sJ:∀x m,p x→p (aa.cj m x)){N:Nat}(hN:∀i,i<bs.length→h (N+i)=none)
 (hm:∀b b' cb,m b=some b'→g'.c b=some cb→(∃i,i<bs.length∧b=s+i∧b'=N+i)∨(g.c b'=some cb)) :
  ∃c2,fH g.c c2∧(∀b b' cb,m b=some b'→g'.c b=some cb→c2 b'=some cb)∧br GL w0 L ⟨M2,c2⟩ (cq h (ZB N (bs.map (ab.c7 (aa.cj m))))) w':=by
 let c2:Own:=λb=>if N≤b∧b<N+bs.length then g'.c (b-N+s) else g.c b
 have hc:fH g.c c2:=by
  intro b cb e;by_cases hb:N≤b∧b<N+bs.length
  ·have:=r.dD b (by have:=hN (b-N) (by omega); simp_all);rw[this] at e; cases e
  ·simp only[c2,if_neg hb]; exact e
 have j7:∀b b' cb,m b=some b'→g'.c b=some cb→c2 b'=some cb:=by
  intro b b' cb e1 e2;rcases hm b b' cb e1 e2 with ⟨i,q1,q2,q3⟩|q
  ·grind
  ·exact hc _ _ q
 have hH:∀b,cq h (ZB N (bs.map (ab.c7 (aa.cj m)))) b=if N≤b∧b<N+bs.length then (bs[b-N]?).map (ab.c7 (aa.cj m)) else h b:=by
  intro b; rw[SE]; simp
 have i4:∀b aE,cq h (ZB N (bs.map (ab.c7 (aa.cj m)))) b=some aE→(h b=some aE∧c2 b=g.c b)∨∃i blk0,i<bs.length∧b=i+N∧h' (s+i)=some blk0∧aE=blk0.c7 (aa.cj m)∧c2 b=g'.c (s+i)∧blk0∈bs:=by
  grind
 have Hk:=r.keeps.size;refine⟨c2,hc,j7,?_⟩;refine { keeps:=r.keeps.trans' r'.keeps.os r'.keeps.tape r'.keeps.output r'.keeps.size (λb hb _=>r'.keeps.block b (by omega) (by simp)),aR:=fT,src:=λb o e=>?_,bY:=λq hq=>(r.bY q hq).mono hM (fH.refl _),dD:=λb e=>?_,iM:=λb aE e=>?_,own:=λb aE cb e hl ec hv=>?_,aX:=λb aE cb e hl ec hv=>?_,inj:=λb b' aE blk' cb dR e e' hl lq ec fW hv qt hq=>?_ }
 ·rcases kJ b o e with q|q
  ·exact r.src b o q
  ·exact .inr (.inl (by omega))
 ·rw[hH] at e;show c2 b=none;by_cases hb:N≤b∧b<N+bs.length
  ·grind
  ·rw[if_neg hb] at e; simp only[c2]; rw[if_neg hb]; exact r.dD b e
 ·rcases i4 b aE e with ⟨q1,q2⟩|⟨i,blk0,q1,q2,q3,q4,q5,q6⟩
  ·obtain⟨cb,k⟩:=r.iM b aE q1; simp_all
  ·obtain⟨cb,k⟩:=r'.iM (s+i) blk0 q3; simp_all
 ·replace ec:c2 b=some cb:=ec
  rcases i4 b aE e with ⟨q1,q2⟩|⟨i,blk0,q1,q2,q3,q4,q5,q6⟩
  ·rw[q2] at ec;obtain⟨k1,k2,o,ho,bV⟩:=r.own b aE cb q1 hl ec hv;have cp:=r.dw q1 hl ec hv;refine⟨?_,k2,o,by rw[r'.keeps.block _ cp (by simp)]; exact ho,bV.mono hM hc⟩;show M2 cb.aE=none;cases vE:M2 cb.aE<;>grind
  ·rw[q5] at ec;obtain⟨k1,k2,o,ho,bV⟩:=r'.own (s+i) blk0 cb q3 (by rw[q4,ab.bH] at hl; exact hl) ec hv;have D_:w.heap.size≤cb.aE:=by simp_all
   refine⟨qP _ D_ k1,.inr (by omega),o,ho,?_⟩;rw[q4];refine bV.c7 (p:=p) (λx v hx hd=>?_) (hY _ q6);exact cI _ _ _ (sJ _ _ hx) (hd.cj j7)
 ·replace ec:c2 b=some cb:=ec
  rcases i4 b aE e with ⟨q1,q2⟩|⟨i,blk0,q1,q2,q3,q4,q5,q6⟩
  ·rw[q2] at ec; exact r.aX b aE cb q1 hl ec hv
  ·rw[q5] at ec;have:=r'.aX (s+i) blk0 cb q3 (by rw[q4,ab.bH] at hl; exact hl) ec hv;rw[q4,this]; rfl
 ·replace ec:c2 b=some cb:=ec
  replace fW:c2 b'=some dR:=fW
  rcases i4 b aE e with ⟨q1,q2⟩|⟨i,blk0,q1,q2,q3,q4,q5,q6⟩<;>rcases i4 b' blk' e' with ⟨p1,p2⟩|⟨i',xT,p1,p2,p3,p4,p5,p6⟩
  ·rw[q2] at ec; rw[p2] at fW; exact r.inj b b' aE blk' cb dR q1 p1 hl lq ec fW hv qt hq
  ·rw[q2] at ec; rw[p5] at fW;have h1:=r.dw q1 hl ec hv;obtain⟨_,k2,_⟩:=r'.own (s+i') xT dR p3 (by simp_all [ab.bH]) fW qt
   grind
  ·rw[q5] at ec; rw[p2] at fW;have h1:=r.dw p1 lq fW qt;obtain⟨_,k2,_⟩:=r'.own (s+i) blk0 cb q3 (by rw[q4,ab.bH] at hl; exact hl) ec hv
   grind
  ·rw[q5] at ec; rw[p5] at fW;have:=r'.inj (s+i) (s+i') blk0 xT cb dR q3 p3 (by rw[q4,ab.bH] at hl; exact hl) (by simp_all [ab.bH]) ec fW hv qt hq;omega
theorem br.join{w0:World}{L:Ln}{g:Gm}{h:Hp}{w w':World}(r:br GL w0 L g h w){M:Nat→Option Obj}{g':Gm}{bs:List ab}(r':br GL w ⟨[],M⟩ g' (hp bs) w')(M2:Nat→Option Obj)(p:aa→Prop)
 (hM:gZ g.M M2)(fT:∀b o,M2 b=some o→w'.heap[b]?=some o)(kJ:∀b o,M2 b=some o→g.M b=some o∨w.heap.size≤b)(qP:∀b,w.heap.size≤b→g'.M b=none→M2 b=none)
 (cI:∀c x v,p x→Den g'.M c x v→Den M2 c x v)(hY:∀b∈bs,b.qx p)(sJ:∀x m,p x→p (aa.cj m x)){N:Nat}(hN:∀i,i<bs.length→h (N+i)=none) :
  ∃c2,fH g.c c2∧(∀b cb,b<bs.length→g'.c b=some cb→c2 (b+N)=some cb)∧br GL w0 L ⟨M2,c2⟩ (cq h (ZB N (bs.map (ab.c7 (aa.cj (ZK N)))))) w':=by
 obtain⟨c2,k1,k2,k3⟩:=r.yQ r' 0 (λi hi=>by simp[hp]) (ZK N) M2 p hM fT kJ qP cI hY sJ hN (λb b' cb e1 e2=>by
  simp only[ZK,Option.some.injEq] at e1;subst e1;by_cases hb:b<bs.length
  ·exact .inl ⟨b,hb,by omega,by omega⟩
  ·have:=r'.dD b (by simp[hp]; omega);rw[this] at e2; cases e2)
 exact⟨c2,k1,λb cb _ e=>k2 b (b+N) cb rfl e,k3⟩
def QA(N:Nat)(bs:List ab):List ab:=bs.map (ab.c7 (aa.cj (ZK N)))
theorem Kg:∀(bs:List ab) (N:Nat) (i:Nat),i<bs.length→∃b,(N+i,b)∈ZB N bs
 |b::bs,N,0,_=>⟨b,by simp[ZB]⟩
 |b::bs,N,i+1,h=>by
  obtain⟨x,hx⟩:=Kg bs (N+1) i (by simpa using h);exact⟨x,by rw[show N+(i+1)=N+1+i by omega]; exact List.mem_cons_of_mem _ hx⟩
theorem dh.here{f:FuncId}{xs:List aa}{v:aa}{bs:List ab}(hc:dh P GL f xs v bs)(xm:fz xs=true){h0:Hp}{N:Nat}(hN:∀i,i<bs.length→h0 (N+i)=none):im P GL f xs h0 (v.cj (ZK N)) [] (ZB N (QA N bs)):=by
 intro w0 L g h w vs r hx _ eA;refine(hc w g.M vs r.aR r.bY (Nj xm hx bg)).mono ?_;rintro e w' ⟨u,he,g',hle,r',hd⟩;obtain⟨c2,k1,k2,k3⟩:=r.join r' g'.M (λ_=>True) hle r'.aR (λb o e=>by
  rcases r'.src b o e with q|q|q<;>simp_all) (λ_ _ e=>e) (λ_ _ _ _ d=>d) (λb _=>ab.all_true b) (λ_ _ _=>trivial) (N:=N) (λi hi=>by
   obtain⟨b,hb⟩:=Kg (QA N bs) N i (by simpa[QA] using hi);rw[eA _ hb]; exact hN i hi)
 refine⟨u,he,⟨g'.M,c2⟩,⟨hle,k1⟩,k3,hd.cj (λb b' cb e1 e2=>?_)⟩;simp only[ZK,Option.some.injEq] at e1;subst e1;refine k2 b cb ?_ e2;by_cases hb:b<bs.length
 ·exact hb
 ·have:=r'.dD b (by simp[hp]; omega);rw[this] at e2; cases e2
theorem dh.pS{f:FuncId}{xs ys:List aa}{v:aa}{bs:List ab}{rd:List Nat}{h0:Hp}(hc:dh P GL f ys v bs)(hb:bp h0 rd xs ys)(hv:v.c8=true)(Gv:xM bs=true){N:Nat}(hN:∀i,i<bs.length→h0 (N+i)=none):im P GL f xs h0 (v.cj (ZK N)) rd (ZB N (QA N bs)):=by
 intro w0 L g h w vs r hx cH eA;refine(hc w (World.all w) vs (λ_ _ e=>e) (λp hp=>(r.bY p hp).mono r.rf (fH.refl _)) (hb GL w0 L g h w _ r r.rP cH vs hx)).mono ?_;rintro e w' ⟨u,he,g',hle,r',hd⟩;obtain⟨c2,k1,k2,k3⟩:=r.join r' g.M (λx=>x.c8=true) (gZ.refl _) (λb o e=>by rw[r'.keeps.block b (r.fG e) (by simp)]; exact r.aR b o e) (λb o e=>.inl e) (λb D_ e=>by
   cases hm:g.M b with
   |none=>rfl
   |some z=>have:=r.fG hm; omega) (λ_ _ _ hn d=>d.c8 hn _) (RW Gv) (λx m hn=>aa.jv m x hn) (N:=N) (λi hi=>by
   obtain⟨b,hb⟩:=Kg (QA N bs) N i (by simpa[QA] using hi);rw[eA _ hb]; exact hN i hi)
 refine⟨u,he,⟨g.M,c2⟩,⟨gZ.refl _,k1⟩,k3,?_⟩;refine(hd.cj (c':=c2) (m:=ZK N) (λb b' cb e1 e2=>?_)).c8 (aa.jv _ _ hv) _;simp only[ZK,Option.some.injEq] at e1;subst e1;refine k2 b cb ?_ e2;by_cases hb:b<bs.length
 ·exact hb
 ·have:=r'.dD b (by simp[hp]; omega);rw[this] at e2; cases e2
def XM:List ab→List ab
 |[]=>[]
 |_::l=>.dead::XM l
theorem XT:∀(l:List ab) (i:Nat),(XM l)[i]?=if i<l.length then some .dead else none
 |[],i=>by simp[XM]
 |x::l,0=>by simp[XM]
 |x::l,i+1=>by simp[XM,XT l i]
theorem Ybh(l:List ab):(XM l).length=l.length:=by induction l<;>simp_all [XM]
def m_(n:Nat):Nat→Option Nat:=λb=>bif Nat.blt b n then some b else none
def eD(ids:List Nat)(n k:Nat):Nat→Option Nat:=λb=>bif ids.contains b||(Nat.ble n b&&Nat.blt b (n+k)) then some b else none
theorem UJ{f:FuncId}{F:sT}(ok:kX P GL f F){xs:List aa}(hn:xs.length=F.np)(σ:List ab)(ids:List Nat)(l8:∀i∈ids,i<σ.length){v:aa}{news bs:List ab}(Gv:bs=news∨bs=[])
 (h:gR P GL F.n F.body (dS (fZ (m_ σ.length) xs)) (XM σ) (λe ρ σ'=>(e=.normal∨e=.ret)∧gA F.fF ρ σ'=some v∧σ'=XM σ++news)) :
  im P GL f xs (hp σ) (v.cj (eD ids σ.length bs.length)) ids (ZB σ.length (bs.map (ab.c7 (aa.cj (eD ids σ.length bs.length))))):=by
 intro w0 L g hq w vs r hx cH eA
 let dm:CB:=⟨0,0,0,true,0⟩
 let c':Own:=λb=>if b<σ.length then some ((g.c b).getD dm) else none
 have r0:br GL w ⟨[],g.M⟩ ⟨g.M,c'⟩ (hp (XM σ)) w:={
  keeps:=gY.refl _ _,aR:=r.aR,src:=λb o e=>.inl e,bY:=r.bY
  dD:=λb e=>by
   show c' b=none;simp only[hp,XT] at e
   grind
  iM:=λb aE e=>by
   simp only[hp,XT] at e;split at e
   ·rename_i hb; exact⟨_,by show c' b=_; simp only[c']; rw[if_pos hb]⟩
   ·cases e
  own:=λb aE cb e hl _ _=>by
   simp only[hp,XT] at e;split at e
   ·cases e; cases hl
   ·cases e
  aX:=λb aE cb e hl _ _=>by
   simp only[hp,XT] at e;split at e
   ·cases e; cases hl
   ·cases e
  inj:=λb b' aE blk' cb dR e _ hl _ _ _ _ _ _=>by
   simp only[hp,XT] at e;split at e
   ·cases e; cases hl
   ·cases e }
 have Ht:df ⟨g.M,c'⟩ (fZ (m_ σ.length) xs) vs:=by
  refine df.kh (by rw[XA]; exact hx.length) (λi y u e1 e2=>?_);obtain⟨x,q1,rfl⟩:=DK e1;refine(hx.get i x u q1 e2).cj (λb b' cb k1 k2=>?_);unfold m_ at k1;obtain⟨k0,k1⟩:=ZE k1;cases k1;have cp:b<σ.length:=gE k0
  grind
 obtain⟨fn,c,h1,h2,h3,h4,h5⟩:=ok.ok;have d0:=Y1 Ht (n:=F.n) (by rw[XA,hn]; exact ok.np);refine calls_of_wp h1 h2 ?_;rw[h3];refine wp_mono (h c h4 w ⟨[],g.M⟩ _ _ w r0 d0) (λe a' w' hl=>?_);have fin:∀g' ρ σ',(⟨g.M,c'⟩:Gm).Le g'→br GL w ⟨[],g.M⟩ g' (hp σ') w'→cD F.n g' ρ a'→(gA F.fF ρ σ'=some v∧σ'=XM σ++news)→∃u,(results fn a'.tmps).run P w'=.ok u w'∧(∃u',Ending.returned u=.returned u'∧∃g2,g.Le g2∧br GL w0 L g2 (cq hq (ZB σ.length (bs.map (ab.c7 (aa.cj (eD ids σ.length bs.length)))))) w'∧g2.den (v.cj (eD ids σ.length bs.length)) u'):=by
  rintro g' ρ σ' hle hr hd ⟨mZ,rfl⟩;obtain⟨u,k1,k2⟩:=DB hr hd h5 mZ;obtain⟨c2,j1,j2,j3⟩:=r.yQ hr σ.length (bs:=bs) (λi hi=>by
    rcases Gv with rfl|rfl<;>simp_all [hp,Ybh]) (eD ids σ.length bs.length) g'.M (λ_=>True) hle.m hr.aR (λb o e=>by
    rcases hr.src b o e with q|q|q<;>simp_all) (λ_ _ e=>e) (λ_ _ _ _ d=>d) (λb _=>ab.all_true b) (λ_ _ _=>trivial) (N:=σ.length) (λi hi=>by
    obtain⟨b,hb⟩:=Kg (bs.map (ab.c7 (aa.cj (eD ids σ.length bs.length)))) σ.length i (by simpa using hi);rw[eA _ hb]; simp[hp]) (λb b' cb e1 e2=>by
    unfold eD at e1;obtain⟨e0,e1⟩:=ZE e1;cases e1;by_cases cY:b∈ids∧b<σ.length
    ·right;obtain⟨cY,hb⟩:=cY;have bZ:hq b=some (σ[b]):=by rw[cH b cY]; simp[hp,hb]
     obtain⟨vr,sy⟩:=r.iM b _ bZ;have:c' b=some vr:=by grind
     have:=hle.c b vr this;rw[e2] at this; cases this; exact sy
    ·left;simp only[Bool.or_eq_true,Bool.and_eq_true] at e0;rcases e0 with q|⟨q1,q2⟩
     ·simp_all
     ·have:=gE q1;have:b < σ.length + bs.length:=gE q2;exact⟨b - σ.length,by omega,by omega,by omega⟩)
  exact⟨u,k1,u,rfl,⟨g'.M,c2⟩,⟨hle.m,j1⟩,j3,k2.cj j2⟩
 cases e with
 |normal=>obtain⟨g',ρ,σ,k1,k2,k3,k4⟩:=hl; exact⟨k3.defers,fin g' ρ σ k1 k2 k3 k4.2⟩
 |ret=>obtain⟨g',ρ,σ,k1,k2,k3,k4⟩:=hl; exact⟨k3.defers,fin g' ρ σ k1 k2 k3 k4.2⟩
 |exit id=>obtain⟨g',ρ,σ,k1,k2,k3,k4⟩:=hl; rcases k4.1 with q|q<;>cases q
 |_=>exact hl.elim
end
end Go.Ah
end
section
namespace Go.Ah
mutual
def aa.ids:aa→List Nat
 |.ai b _=>[b]
 |.ptr b _ _=>[b]
 |.sl b _ _ _=>[b]
 |.map b=>[b]
 |.iter b=>[b]
 |.func _ xs ys=>gW xs++gW ys
 |.iface _ v=>v.ids
 |.agg cs=>gW cs
 |.bn cs=>gW cs
 |.when _ x=>x.ids
 |_=>[]
def gW:List aa→List Nat
 |[]=>[]
 |x::xs=>x.ids++gW xs
end
def Y5:Nat→List ab→Option (List ab)
 |0,l=>some l
 |n+1,.dead::l=>Y5 n l
 |_+1,_=>none
theorem RA:∀(σ l news:List ab),Y5 σ.length l=some news→l=XM σ++news
 |[],l,news,h=>by simp_all [Y5,XM]
 |x::σ,l,news,h=>by
  cases l with
  |nil=>simp[Y5] at h
  |cons y l=>
   cases y with
   |dead=>simp only[List.length_cons,Y5] at h; rw[RA σ l news h]; rfl
   |_=>simp[Y5] at h
def Qy(n:Nat):List Nat→Bool
 |[]=>true
 |x::xs=>Nat.blt x n&&Qy n xs
theorem JB{n:Nat}:∀ {l:List Nat},Qy n l=true→∀i∈l,i<n
 |x::xs,h,i,hi=>by
  simp only[Qy,Bool.and_eq_true] at h;rcases List.mem_cons.1 hi with rfl|hi
  ·exact gE h.1
  ·exact JB h.2 i hi
def much:Nat:=1000000000
end Go.Ah
end
section
namespace Go.Ah
def wu(n:Nat)(hd:List (List Nat))(c:Nat):Bool:=qF (λj=>Nat.blt j c||tj (jd hd j) λh=>qF (λi=>jL h i) c) n
theorem S7{n:Nat}{hd:List (List Nat)}{c:Nat}(h:wu n hd c=true):∀j,j<n→c≤j→∀i,i<c→i∈Qq hd j:=by
 intro j hj hc i hi;have:=EE h j hj;simp only[Fg,Bool.or_eq_true] at this;rcases this with q|q
 ·have:j<c:=gE q;omega
 ·have:=Et.1 (EE q i hi)
  rwa [DH] at this
def mS(hd:List (List Nat))(lo n:Nat):List (List Nat):=(List.range n).map λj=>(Qq hd (lo+j)).filterMap λi=>match Nat.ble lo i with
 |true=>some (i-lo)
 |false=>none
theorem Ydl{hd:List (List Nat)}{lo n j i:Nat}(h:i∈Qq (mS hd lo n) j):lo+i∈Qq hd (lo+j):=by
 unfold mS Qq at h;rw[List.getElem?_map] at h;cases e:(List.range n)[j]? with
 |none=>rw[e] at h; simp at h
 |some k=>
  rw[e] at h;have hk:k=j:=by
   grind
  subst hk;simp only[Option.map_some,Option.getD_some,List.mem_filterMap] at h;obtain⟨x,hx,h⟩:=h;split at h
  ·rename_i hb;have:=gE hb;cases h
   rwa [show lo+(x-lo)=x by omega]
  ·cases h
section
variable {P:Program} {GL:aw}
theorem Ydj{n:Nat}{ops:Array Oper}{ms:List aI}{hd:List (List Nat)}(dU:ops.size=ms.length)(bV:∀(j:Nat) (m:aI),ms[j]?=some m→∃o,ops[j]?=some o∧e_ P GL n ops o m)(cX:vX ops.toList ms hd=true)
 {lo hi:Nat}{eE:List aI}(hlh:lo+eE.length=hi)(hhi:hi≤ms.length)(uJ:∀j m,eE[j]?=some m→ms[lo+j]?=some m)(bhi:∀j,j<ms.length→hi≤j→∀i,i<hi→i∈Qq hd j)
 {ρ:Frame}{σ:List ab}{ts:List TS}{K:Frame→List ab→Log→Prop}(xl:Tr P GL eE ts ρ σ [] K)(zH:Xn (mS hd lo eE.length) (ts.map λx=>(x.rd,x.up.map (·.1)))=true)
 {w0:World}{L:Ln}{g:Gm}(Q:Exit→Act→World→Prop)
 (hQ:∀ g' ρ' σ' a w fuel (listed:Array Bool),g.Le g'→br GL w0 L g' (hp σ') w→cD n g' ρ' a→K ρ' σ' (ts.map λx=>(x.rd,x.up.map (·.1)))→listed.size=ms.length→(∀ k,k < hi→listed.getD k false=true)→(∀ k,hi≤k→listed.getD k false=false) →
   nU (λk=>listed.getD k false) ms.length≤fuel→wpAny P .any ops Q fuel listed a w) :
  ∀(fuel:Nat) (listed:Array Bool) (a:Act) (w:World),listed.size=ms.length→(∀j,listed.getD j false=true→j<ms.length∧∀i∈waits (ops.toList.getD j default),listed.getD i false=true) →
   (∀k,k<lo→listed.getD k false=true)→(∀k,hi≤k→listed.getD k false=false) →
   nU (λk=>listed.getD k false) ms.length≤fuel→(∃g' ρ',g.Le g'∧br GL w0 L g' (iO (λk=>listed.getD k false) lo ts (hp σ)) w∧cD n g' ρ' a∧∀t,bB ρ' t=bB (jI (λk=>listed.getD k false) lo eE ts ρ) t) →
   wpAny P .any ops Q fuel listed a w:=by
 have D:=Z6 cX;obtain⟨hlen,n7,ρf,σf,zR,OJ,uv⟩:=EK eE ts lo ρ σ [] K xl;rw[List.nil_append] at uv;have hA:∀j,j<eE.length→∀i,i<j→lo+i∈Qq hd (lo+j)∨c9 (XF (ts.map λx=>(x.rd,x.up.map (·.1))) i) (XF (ts.map λx=>(x.rd,x.up.map (·.1))) j)=true:=by
  intro j hj i hi;unfold Xn at zH;simp only[List.all_eq_true,List.mem_range,List.length_map] at zH;have:=Y8 (zH j (by omega)) i (XF (ts.map λx=>(x.rd,x.up.map (·.1))) i) (by
   grind [XF])
  rw[Nat.zero_add] at this;exact this.imp Ydl id
 have oI:∀j x,ts[j]?=some x→XF (ts.map λx=>(x.rd,x.up.map (·.1))) j=(x.rd,x.up.map (·.1)):=by
  simp_all [XF]
 have fin:∀(fuel:Nat) (listed:Array Bool) (a:Act) (w:World),listed.size=ms.length→(∀k,k<hi→listed.getD k false=true)→(∀k,hi≤k→listed.getD k false=false)→nU (λk=>listed.getD k false) ms.length≤fuel →
   (∃g' ρ',g.Le g'∧br GL w0 L g' (iO (λk=>listed.getD k false) lo ts (hp σ)) w∧cD n g' ρ' a∧∀t,bB ρ' t=bB (jI (λk=>listed.getD k false) lo eE ts ρ) t)→wpAny P .any ops Q fuel listed a w:=by
  rintro fuel listed a w hs iD me hc ⟨g',ρ',h1,h2,h3,h4⟩;refine hQ g' ρf σf a w fuel listed h1 ?_ ?_ uv hs iD me hc
  ·rw[OJ];have:iO (λk=>listed.getD k false) lo ts (hp σ)=iO (λ_=>true) lo ts (hp σ):=by
    funext b
    refine ZW _ _ _ _ (λk t e _=>?_) rfl
    grind
   rw[←this]; exact h2
  ·refine h3.cy (λt=>.inl ?_);rw[zR t,h4 t];refine QV _ _ _ _ _ (λk m e _=>?_) rfl
   grind
 intro fuel
 induction fuel with
 |zero=>
  intro listed a w hs hS uB me hc fT;exact fin 0 listed a w hs (λk hk=>JU (Nat.le_zero.1 hc) k (by omega)) me hc fT
 |succ fuel ih=>
  intro listed a w hs hS uB me hc fT;by_cases iD:∀k,k<hi→listed.getD k false=true
  ·grind
  refine⟨λhr=>?_,λj hj=>?_⟩
  ·exfalso;refine iD λk=>?_
   induction k using Nat.strongRecOn with
   |_ k ihk=>
    intro hk;cases hl:listed.getD k false with
    |true=>rfl
    |false=>
     exfalso;have GW:ops[k]?=some (ops[k]'(by omega)):=by simp[show k<ops.size by omega]
     have:k∈Region.ready .any ops listed:=by
      rw[mem_ready];refine⟨?_,_,GW,λe he hb=>?_⟩
      ·grind
      ·have hw:e.on∈waits (ops.toList.getD k default):=by rw[YU ops k GW,Dz]; exact⟨e,he,hb,rfl⟩
       have cp:=D.back k (by omega) _ hw;exact ihk e.on cp (by omega)
     rw[hr] at this; cases this
  obtain⟨h1,o,ho,uu⟩:=mem_ready.1 hj;have pE:j<ms.length:=by grind
  have wH:listed.getD j false=false:=by
   grind
  have Ak:∀i∈waits (ops.toList.getD j default),listed.getD i false=true:=by
   intro i hi;rw[YU ops j ho,Dz] at hi;obtain⟨e,he,hb,rfl⟩:=hi;exact uu e he hb
  have VT:=ER D (S:=λk=>listed.getD k false) hS j pE Ak;have aai:lo≤j:=by
   grind
  have aah:j<hi:=by
   grind
  obtain⟨j,rfl⟩:∃q,j=lo+q:=⟨j-lo,by omega⟩;have hjs:j<eE.length:=by omega
  have s9:eE[j]?=some eE[j]:=by simp
  have sK:ts[j]?=some (ts[j]'(by omega)):=by simp[show j<ts.length by omega]
  generalize hmd:eE[j]=m at s9;generalize hxd:(ts[j]'(by omega))=x at sK;have hmJ:=uJ j m s9;have O9:ms.getD (lo+j) default=m:=by grind
  obtain⟨o',eI,HK⟩:=bV (lo+j) m hmJ;rw[ho] at eI; cases eI;obtain⟨ρj,q1,q2⟩:=n7 j m x s9 sK;obtain⟨g',ρ',s1,s2,s3,s4⟩:=fT;have key:∀k,k<eE.length→(k<j→lo+k∈Qq hd (lo+j))→(j<k→lo+j∈Qq hd (lo+k))→(k≠j)→(listed.getD (lo+k) false=decide (lo+k<lo+j)):=by
   intro k hk ha hb cL;by_cases cp:k<j
   ·grind
   ·rw[decide_eq_false (by omega)];have lZ:j<k:=by omega
    cases hl:listed.getD (lo+k) false with
    |false=>rfl
    |true=>
     have:listed.getD (lo+j) false=true:=ER D (S:=λk=>listed.getD k false) hS (lo+k) (by omega) (hS (lo+k) hl).2 (lo+j) (hb lZ);rw[wH] at this; cases this
  have jW:∀t,(t∈gQ m)→∀k mk,eE[k]?=some mk→mk.dst=some t→k≠j→listed.getD (lo+k) false=decide (lo+k<lo+j):=by
   intro t ht k mk hk zQ cL;have qV:k<eE.length:=(gn hk).1;have GP:ms.getD (lo+k) default=mk:=by rw[List.getD_eq_getElem?_getD,uJ k mk hk]; rfl
   have OD:t∈dP mk:=by unfold dP; rw[zQ]; simp
   refine key k qV (λcp=>?_) (λlZ=>?_) cL
   ·rcases D.lQ (lo+j) pE (lo+k) (by omega) with q|⟨q,_,_⟩
    ·exact q
    grind
   ·rcases D.lQ (lo+k) (by omega) (lo+j) (by omega) with q|⟨_,_,q⟩
    ·exact q
    grind
  have gu:∀b,(b∈x.rd∨b∈x.up.map (·.1))→∀k xk,ts[k]?=some xk→b∈xk.up.map (·.1)→k≠j→listed.getD (lo+k) false=decide (lo+k<lo+j):=by
   intro b hb k xk hk cY cL;have qV:k<eE.length:=by grind
   refine key k qV (λcp=>?_) (λlZ=>?_) cL
   ·rcases hA j hjs k cp with q|q
    ·exact q
    ·rw[oI k xk hk,oI j x sK] at q;simp only[c9,Bool.and_eq_true] at q
     grind [DR]
   ·rcases hA k qV j lZ with q|q
    ·exact q
    ·rw[oI k xk hk,oI j x sK] at q;simp only[c9,Bool.and_eq_true] at q
     grind [DR]
  have qR:∀k,k=j→listed.getD (lo+k) false=decide (lo+k<lo+j):=by rintro k rfl; rw[wH]; simp
  have heq:∀b,(b∈x.rd∨b∈x.up.map (·.1))→iO (λk=>listed.getD k false) lo ts (hp σ) b=iO (λk=>decide (k<lo+j)) lo ts (hp σ) b:=by
   intro b hb;refine ZW _ _ _ _ (λk xk e1 e2=>?_) rfl;by_cases fe:k=j
   ·exact qR k fe
   ·exact gu b hb k xk e1 e2 fe
  unfold wpOp;simp only[ho];refine q2 n ops o HK ρ' _ w0 L g' w a (λt ht=>?_) (λb hb=>heq b (.inl hb)) (λp hY=>heq p.1 (.inr (List.mem_map.2 ⟨p,hY,rfl⟩))) s2 s3 _ _ (λg2 w2 u hle hr qq=>?_)
  ·rw[s4 t,q1 t];refine QV _ _ _ _ _ (λk mk e1 e2=>?_) rfl;by_cases fe:k=j
   ·exact qR k fe
   ·exact jW t ht k mk e1 e2 fe
  ·have dd:∀k,(listed.setIfInBounds (lo+j) true).getD k false=if k=lo+j then true else listed.getD k false:=by
    intro k;by_cases hk:k<ms.length
    ·by_cases fe:k=lo+j
     ·subst fe; simp[show lo+j<listed.size by omega]
     ·rw[if_neg fe]; simp[Array.getElem?_setIfInBounds_ne (Ne.symm fe)]
    ·rw[if_neg (by omega)]
     grind
   refine ih _ _ _ (by simpa using hs) (λk hk=>?_) (λk hk=>?_) (λk hk=>?_) ?_ ⟨g2,cc m.dst x.v ρ',s1.trans hle,?_,qq,λt=>?_⟩
   ·rw[dd] at hk;by_cases fe:k=lo+j
    ·subst fe;refine⟨pE,λi hi=>?_⟩;rw[dd]; split
     ·rfl
     ·exact Ak i hi
    ·rw[if_neg fe] at hk;refine⟨(hS k hk).1,λi hi=>?_⟩;rw[dd]; split
     ·rfl
     ·exact(hS k hk).2 i hi
   ·rw[dd]; split
    ·rfl
    ·exact uB k hk
   ·rw[dd,if_neg (by omega)]; exact me k hk
   ·have:=Jh (S:=λk=>listed.getD k false) (S':=λk=>(listed.setIfInBounds (lo+j) true).getD k false) (j:=lo+j) (n:=ms.length) pE wH (by simp only[dd]; simp) (λk hk cL=>by simp only[dd]; rw[if_neg cL]);omega
   ·have:iO (λk=>(listed.setIfInBounds (lo+j) true).getD k false) lo ts (hp σ)=cq (iO (λk=>listed.getD k false) lo ts (hp σ)) x.up:=by
     funext b
     by_cases hb:b∈x.up.map (·.1)
     ·refine L7 ts lo (hp σ) j x sK hb (by rw[dd,if_pos rfl]) (λk xk e1 e2 e3=>?_) _;rw[dd] at e3;by_cases fe:k=j
      ·omega
      ·rw[if_neg (by omega)] at e3;rw[gu b (.inr hb) k xk e1 e2 fe] at e3;have:=of_decide_eq_true e3; omega
     ·rw[Ke _ _ _ hb];refine ZW _ _ _ _ (λk xk e1 e2=>?_) rfl;simp only[dd];have fe:k≠j:=by grind
      rw[if_neg (by omega)]
    rw[this]; exact hr
   ·rw[Y4];by_cases wN:m.dst=some t
    ·rw[if_pos wN];refine(L6 eE ts lo ρ j m x s9 sK wN (by rw[dd,if_pos rfl]) (λk mk e1 e2 e3=>?_)).symm;rw[dd] at e3;by_cases fe:k=j
     ·omega
     ·rw[if_neg (by omega)] at e3;have qV:k<eE.length:=(gn e1).1;have GP:ms.getD (lo+k) default=mk:=by rw[List.getD_eq_getElem?_getD,uJ k mk e1]; rfl
      have uq:t∈dP m:=by unfold dP; rw[wN]; simp
      have um:t∈dP mk:=by unfold dP; rw[e2]; simp
      have:=key k qV (λcp=>by
       rcases D.lQ (lo+j) pE (lo+k) (by omega) with q|⟨_,q,_⟩
       ·exact q
       ·rw[GP,O9] at q; exact(q t um uq).elim) (λlZ=>by
       rcases D.lQ (lo+k) (by omega) (lo+j) (by omega) with q|⟨_,q,_⟩
       ·exact q
       ·rw[GP,O9] at q; exact(q t uq um).elim) fe
      grind
    ·rw[if_neg wN,s4 t];refine QV _ _ _ _ _ (λk mk e1 e2=>?_) rfl;simp only[dd];have fe:k≠j:=by grind
     rw[if_neg (by omega)]
theorem Zdj{n:Nat}{ops:Array Oper}{ms:List aI}{hd:List (List Nat)}(dU:ops.size=ms.length)(bV:∀(j:Nat) (m:aI),ms[j]?=some m→∃o,ops[j]?=some o∧e_ P GL n ops o m)(cX:vX ops.toList ms hd=true)
 {lo:Nat}{m:aI}(hm:ms[lo]?=some m)(bhi:∀j,j<ms.length→lo+1≤j→∀i,i<lo+1→i∈Qq hd j)
 {ρ:Frame}{σ:List ab}{K:Frame→List ab→Log→Prop}(fT:dN false P GL m ρ σ [] K)
 {w0:World}{L:Ln}{g:Gm}(Q:Exit→Act→World→Prop)
 (hQ:∀ g' ρ' σ' lg a w fuel (listed:Array Bool),g.Le g'→br GL w0 L g' (hp σ') w→cD n g' ρ' a→K ρ' σ' lg→listed.size=ms.length→(∀ k,k < lo + 1→listed.getD k false=true)→(∀ k,lo + 1≤k→listed.getD k false=false) →
   nU (λk=>listed.getD k false) ms.length≤fuel→wpAny P .any ops Q fuel listed a w)
 (fuel:Nat)(listed:Array Bool)(a:Act)(w:World)(hs:listed.size=ms.length)(uB:∀k,k<lo→listed.getD k false=true)(me:∀k,lo≤k→listed.getD k false=false)
 (hc:nU (λk=>listed.getD k false) ms.length≤fuel)(r:br GL w0 L g (hp σ) w)(d:cD n g ρ a):wpAny P .any ops Q fuel listed a w:=by
 have D:=Z6 cX;have iE:lo<ms.length:=(gn hm).1;have hS:∀j,listed.getD j false=true→j<ms.length∧∀i∈waits (ops.toList.getD j default),listed.getD i false=true:=by
  intro j hj;have nJ:j<lo:=by
   grind
  exact⟨by omega,λi hi=>uB i (by have:=D.back j (by omega) i hi; omega)⟩
 obtain⟨o,ho,HK⟩:=bV lo m hm;cases fuel with
 |zero=>have:=JU (Nat.le_zero.1 hc) lo iE; grind
 |succ fuel=>
  refine⟨λhr=>?_,λj hj=>?_⟩
  ·exfalso;have:lo∈Region.ready .any ops listed:=by
    rw[mem_ready];refine⟨?_,o,ho,λe he hb=>?_⟩
    ·grind
    ·have hw:e.on∈waits (ops.toList.getD lo default):=by rw[YU ops lo ho,Dz]; exact⟨e,he,hb,rfl⟩
     exact uB _ (D.back lo iE _ hw)
   rw[hr] at this; cases this
  ·obtain⟨h1,o',eI,uu⟩:=mem_ready.1 hj;have pE:j<ms.length:=by grind
   have wH:listed.getD j false=false:=by
    grind
   have Ak:∀i∈waits (ops.toList.getD j default),listed.getD i false=true:=by
    intro i hi;rw[YU ops j eI,Dz] at hi
    grind
   have VT:=ER D (S:=λk=>listed.getD k false) hS j pE Ak;have nJ:j=lo:=by
    grind
   subst nJ;rw[ho] at eI; cases eI;unfold wpOp;simp only[ho];refine T7 HK fT r d _ Q (λa' w' ⟨g',ρ',σ',iP,hle,hr,nI,hk⟩=>?_);have dd:∀k,(listed.setIfInBounds j true).getD k false=if k=j then true else listed.getD k false:=by
    intro k;by_cases hk:k<ms.length
    ·by_cases fe:k=j
     ·subst fe; simp[show k<listed.size by omega]
     ·rw[if_neg fe]; simp[Array.getElem?_setIfInBounds_ne (Ne.symm fe)]
    grind
   refine hQ g' ρ' σ' iP a' w' fuel _ hle hr nI hk (by simpa using hs) (λk hk=>?_) (λk hk=>?_) ?_
   ·grind
   ·grind
   ·have:=Jh (S:=λk=>listed.getD k false) (S':=λk=>(listed.setIfInBounds j true).getD k false) (j:=j) (n:=ms.length) pE wH (by simp only[dd]; simp) (λk hk cL=>by simp only[dd]; rw[if_neg cL]);omega
abbrev ti:=List (List aI×Bool)
def XH:ti→List aI
 |[]=>[]
 |p::r=>p.1++XH r
def oe(n:Nat)(hd:List (List Nat)):Nat→ti→Bool
 |_,[]=>true
 |lo,(eE,s)::r=>(!s||Nat.beq eE.length 1)&&(wu n hd (lo+eE.length)&&oe n hd (lo+eE.length) r)
def qy(P:Program)(GL:aw)(hd:List (List Nat)):Nat→ti→Frame→List ab→(Frame→List ab→Prop)→Prop
 |_,[],ρ,σ,K=>K ρ σ
 |lo,(eE,true)::r,ρ,σ,K=>gS false P GL eE ρ σ [] λρ σ _=>qy P GL hd (lo+eE.length) r ρ σ K
 |lo,(eE,false)::r,ρ,σ,K=>gS true P GL eE ρ σ [] λρ σ lg=>Xn (mS hd lo eE.length) lg=true∧qy P GL hd (lo+eE.length) r ρ σ K
theorem L_{n:Nat}{ops:Array Oper}{ms:List aI}{hd:List (List Nat)}(dU:ops.size=ms.length)(bV:∀(j:Nat) (m:aI),ms[j]?=some m→∃o,ops[j]?=some o∧e_ P GL n ops o m)(cX:vX ops.toList ms hd=true)
 {w0:World}{L:Ln}{Q:Exit→Act→World→Prop}{K:Frame→List ab→Prop}:∀(ps:ti) (lo:Nat) (ρ:Frame) (σ:List ab) (g:Gm),oe ms.length hd lo ps=true→lo+(XH ps).length=ms.length→(∀j m,(XH ps)[j]?=some m→ms[lo+j]?=some m) →
  qy P GL hd lo ps ρ σ K→(∀g' ρ' σ' a w,g.Le g'→br GL w0 L g' (hp σ') w→cD n g' ρ' a→K ρ' σ'→Q .normal a w) →
  ∀(fuel:Nat) (listed:Array Bool) (a:Act) (w:World),listed.size=ms.length→(∀k,k<lo→listed.getD k false=true)→(∀k,lo≤k→listed.getD k false=false)→nU (λk=>listed.getD k false) ms.length≤fuel→br GL w0 L g (hp σ) w→cD n g ρ a→wpAny P .any ops Q fuel listed a w
 |[],lo,ρ,σ,g,_,hl,_,h,hQ,fuel,listed,a,w,hs,uB,me,hc,r,d=>by
  have iE:lo=ms.length:=by simpa[XH] using hl
  have hq:Q .normal a w:=hQ g ρ σ a w (Gm.Le.refl g) r d h;have hr:Region.ready .any ops listed=[]:=by
   simp_all [Region.ready]
  cases fuel with
  |zero=>exact⟨hr,hq⟩
  |succ fuel=>exact⟨λ_=>hq,λi hi=>by rw[hr] at hi; cases hi⟩
 |(eE,true)::ps,lo,ρ,σ,g,hY,hl,wV,h,hQ,fuel,listed,a,w,hs,uB,me,hc,r,d=>by
  simp only[oe,Bool.and_eq_true,Bool.not_true,Bool.false_or] at hY;have h1:=e9 hY.1;obtain⟨m,rfl⟩:=List.length_eq_one_iff.1 h1;simp only[XH,List.length_append,List.length_singleton] at hl;have hm:ms[lo]?=some m:=by have:=wV 0 m (by simp[XH]); simpa using this
  have fT:dN false P GL m ρ σ [] (λρ' σ' _=>qy P GL hd (lo + 1) ps ρ' σ' K):=h;refine Zdj dU bV cX hm (λj hj hc i hi=>S7 hY.2.1 j hj hc i hi) fT Q (λg' ρ' σ' lg a' w' ua oP k1 k2 k3 k4 k5 k6 k7 k8=>?_) fuel listed a w hs uB me hc r d;exact L_ dU bV cX ps (lo + 1) ρ' σ' g' hY.2.2 (by omega) (λj m' e=>by
   have:=wV (j+1) m' (by simpa[XH] using e)
   grind) k4 (λg2 ρ2 σ2 a2 w2 q=>hQ g2 ρ2 σ2 a2 w2 (k1.trans q)) ua oP a' w' k5 k6 k7 k8 k2 k3
 |(eE,false)::ps,lo,ρ,σ,g,hY,hl,wV,h,hQ,fuel,listed,a,w,hs,uB,me,hc,r,d=>by
  simp only[oe,Bool.and_eq_true,Bool.not_false,Bool.true_or,true_and] at hY;simp only[XH,List.length_append] at hl;have uJ:∀ j m,eE[j]?=some m→ms[lo + j]?=some m:=λj m e=>wV j m (by
   grind [XH])
  have hw:gS true P GL eE ρ σ [] (λρ' σ' lg=>Xn (mS hd lo eE.length) lg=true∧qy P GL hd (lo+eE.length) ps ρ' σ' K):=h;obtain⟨ts,xl⟩:=MI eE ρ σ [] _ hw;obtain⟨hlen,_,ρf,σf,_,_,uv⟩:=EK eE ts lo ρ σ [] _ xl;rw[List.nil_append] at uv;have D:=Z6 cX;refine Ydj (w0:=w0) (L:=L) (g:=g) dU bV cX rfl (by omega) uJ (λj hj hc i hi=>S7 hY.1 j hj hc i hi) xl uv.1 Q (λg' ρ' σ' a' w' ua oP k1 k2 k3 k4 k5 k6 k7 k8=>?_) fuel listed a w hs (λj hj=>?_) uB (λk hk=>me k (by omega)) hc ⟨g,ρ,Gm.Le.refl g,?_,d,λt=>?_⟩
  ·exact L_ dU bV cX ps (lo + eE.length) ρ' σ' g' hY.2 (by omega) (λj m' e=>by
    have:=wV (eE.length+j) m' (by simp_all [XH,List.getElem?_append_right])
    grind) k4.2 (λg2 ρ2 σ2 a2 w2 q=>hQ g2 ρ2 σ2 a2 w2 (k1.trans q)) ua oP a' w' k5 k6 k7 k8 k2 k3
  ·have nJ:j<lo:=by
    grind
   exact⟨by omega,λi hi=>uB i (by have:=D.back j (by omega) i hi; omega)⟩
  ·have:iO (λk=>listed.getD k false) lo ts (hp σ)=iO (λ_=>false) lo ts (hp σ):=by
    funext b
    refine ZW _ _ _ _ (λk t e _=>me _ (by omega)) rfl
   rw[this];have jg:∀(ts:List TS) (i:Nat) (h:Hp),iO (λ_=>false) i ts h=h:=by
    intro ts
    induction ts<;>simp_all [iO]
   rw[jg]; exact r
  ·have jg:∀(ms:List aI) (ts:List TS) (i:Nat) (ρ:Frame),jI (λ_=>false) i ms ts ρ=ρ:=by
    intro ms
    induction ms with
    |nil=>intros; simp[jI]
    |cons m ms ih=>intro ts i ρ; cases ts<;>simp_all [jI]
   have:bB (jI (λk=>listed.getD k false) lo eE ts ρ) t=bB (jI (λ_=>false) lo eE ts ρ) t:=QV _ _ _ _ _ (λk m e _=>me _ (by omega)) rfl;rw[this,jg]
theorem Zdz(hP:P.follows .mixedOrders=true){n:Nat}{id:Nat}{ps:ti}{hd:List (List Nat)}{ρ:Frame}{σ:List ab}{Q:dK}(sH:oe (XH ps).length hd 0 ps=true)
 (h:qy P GL hd 0 ps ρ σ (λρ' σ'=>Q .normal ρ' σ')):gR P GL n (.region id (XH ps) (some hd)) ρ σ Q:=by
 intro c hc w0 L g a w r d;cases hc with
 |draw _ ops _ _ dU bV cX=>
  refine wp_region_any hP ?_;have hF:∀k,(Array.replicate ops.size false).getD k false=false:=by
   intro k; rw[Array.getD_eq_getD_getElem?,Array.getElem?_replicate]; split<;>rfl
  refine L_ (w0:=w0) (L:=L) dU bV cX ps 0 ρ σ g sH (by simp) (λj m e=>by simpa using e) h (λg' ρ' σ' a' w' k1 k2 k3 k4=>⟨g',ρ',σ',k1,k2,k3,k4⟩) ops.size _ a _ (by simp[dU]) (λk hk=>by omega) (λk _=>hF k) ?_ r.drew d;rw[dU];have:∀m,nU (λk=>(Array.replicate (XH ps).length false).getD k false) m≤m:=by
   intro m
   induction m<;>simp_all [nU]
  exact this _
end
end Go.Ah
end
section
namespace Go.Ah
structure ak (α:Type) where
 stop:α
 call:MK→List aa→List ab→(aa→List ab→α)→α
 eJ:MK→List aa→List ab→(aa→List Nat×List Nat→List ab→α)→α
 test:aa→α→α→α
 loop:((List aa→List ab→α)→List aa→List ab→α)→List aa→List ab→α
section
variable {α:Type}
def ak.rd(A:ak α)(r:az)(K:aa→α):α:=match r with
 |.ok v _ []=>K v
 |_=>A.stop
def ak.pu(A:ak α)(r:az)(K:aa→α):α:=match r with
 |.ok v [] []=>K v
 |_=>A.stop
def ak.wr(A:ak α)(r:az)(σ:List ab)(K:aa→List ab→α):α:=match r with
 |.ok v _ up=>match gP σ up with
  |some σ'=>K v σ'
  |none=>A.stop
 |.stop=>A.stop
def ak.dr(A:ak α)(r:az)(σ:List ab)(K:aa→List Nat×List Nat→List ab→α):α:=match r with
 |.ok v rd up=>match gP σ up with
  |some σ'=>K v (rd,up.map (·.1)) σ'
  |none=>A.stop
 |.stop=>A.stop
def ak.opt{β:Type}(A:ak α)(o:Option β)(K:β→α):α:=match o with
 |some v=>K v
 |none=>A.stop
def ak.gd(A:ak α)(b:Bool)(k:α):α:=match b with
 |true=>k
 |false=>A.stop
@[reducible] def rH(cs:List (Bool×Bool)):aa:=.when cs (.bool false)
def ak.gx(A:ak α)(c:aa)(w:Bool)(r:α)(s:List (Bool×Bool)→α):α:=match c with
 |.when cs (.bool q)=>match vo.ff cs with
  |true=>s (cs++[(q,w)])
  |false=>A.stop
 |c=>A.test c (bif w then r else s [(true,w)]) (bif w then s [(false,w)] else r)
def ak.gr(A:ak α)(c:aa)(w:Bool)(r:(aa→α)→α)(K:aa→α):α:=A.gx c w (r K) (λcs=>K (rH cs))
def ak.gw(A:ak α)(c:aa)(w:Bool)(r:(aa→List ab→α)→α)(σ:List ab)(K:aa→List ab→α):α:=A.gx c w (r K) (λcs=>K (rH cs) σ)
def ak.gl(A:ak α)(c:aa)(w:Bool)(r:(aa→List Nat×List Nat→List ab→α)→α)(σ:List ab)(K:aa→List Nat×List Nat→List ab→α):α:=
 A.gx c w (r K) (λcs=>K (rH cs) ([],[]) σ)
def aH(f:(List aa→List ab→α)→α)(k:List aa→List ab→α):α:=f k
inductive Rs where
 |mv|pu|rd|wr|call
def ew:MK→Rs
 |.mv=>.mv
 |.call _ | .jh | .invoke _ _=>.call
 |.alloc _ | .box | .lh _ _ _ _ | .store _ | .makeMap | .append _ _ _ | .kf _ | .range | .next | .pT _ _ _ | .gG _ _=>.wr
 |.load _ _ | .lookup _ _ _ | .lx | .cx _ _ _ _ | .eL _=>.rd
 |_=>.pu
def tW(A:ak α)(o:aI)(ρ:Frame)(σ:List ab)(K:Frame→List ab→α):α:=
 match o.guard with
 |none=>match ew o.k with
  |.mv=>match o.xs with
   |[x]=>K (cc o.dst (ev ρ x) ρ) σ
   |_=>A.stop
  |.pu | .rd=>A.rd (ed o.k (o.xs.map (ev ρ)) σ) λv=>K (cc o.dst v ρ) σ
  |.wr=>A.wr (ed o.k (o.xs.map (ev ρ)) σ) σ λv σ=>K (cc o.dst v ρ) σ
  |.call=>A.call o.k (o.xs.map (ev ρ)) σ λv σ=>K (cc o.dst v ρ) σ
 |some (s,w)=>match ew o.k with
  |.mv | .pu | .rd=>A.gr (bB ρ s) w (λk=>A.rd (ed o.k (o.xs.map (ev ρ)) σ) k) λv=>K (cc o.dst v ρ) σ
  |.wr=>A.gw (bB ρ s) w (λk=>A.wr (ed o.k (o.xs.map (ev ρ)) σ) σ k) σ λv σ=>K (cc o.dst v ρ) σ
  |.call=>A.gw (bB ρ s) w (λk=>A.call o.k (o.xs.map (ev ρ)) σ k) σ λv σ=>K (cc o.dst v ρ) σ
def iA(A:ak α):List aI→Frame→List ab→(Frame→List ab→α)→α
 |[],ρ,σ,K=>K ρ σ
 |o::r,ρ,σ,K=>tW A o ρ σ λρ σ=>iA A r ρ σ K
def px(A:ak α)(o:aI)(ρ:Frame)(σ:List ab)(lg:Log)(K:Frame→List ab→Log→α):α:=
 match o.guard with
 |none=>match ew o.k with
  |.mv=>match o.xs with
   |[x]=>K (cc o.dst (ev ρ x) ρ) σ (lg++[([],[])])
   |_=>A.stop
  |.pu=>A.pu (ed o.k (o.xs.map (ev ρ)) σ) λv=>K (cc o.dst v ρ) σ (lg++[([],[])])
  |.rd | .wr=>A.dr (ed o.k (o.xs.map (ev ρ)) σ) σ λv l σ=>K (cc o.dst v ρ) σ (lg++[l])
  |.call=>A.eJ o.k (o.xs.map (ev ρ)) σ λv l σ=>K (cc o.dst v ρ) σ (lg++[l])
 |some (s,w)=>match ew o.k with
  |.mv | .pu=>A.gr (bB ρ s) w (λk=>A.pu (ed o.k (o.xs.map (ev ρ)) σ) k) λv=>K (cc o.dst v ρ) σ (lg++[([],[])])
  |.rd | .wr=>A.gl (bB ρ s) w (λk=>A.dr (ed o.k (o.xs.map (ev ρ)) σ) σ k) σ λv l σ=>K (cc o.dst v ρ) σ (lg++[l])
  |.call=>A.gl (bB ρ s) w (λk=>A.eJ o.k (o.xs.map (ev ρ)) σ k) σ λv l σ=>K (cc o.dst v ρ) σ (lg++[l])
def y_(A:ak α):List aI→Frame→List ab→Log→(Frame→List ab→Log→α)→α
 |[],ρ,σ,lg,K=>K ρ σ lg
 |o::r,ρ,σ,lg,K=>px A o ρ σ lg λρ σ lg=>y_ A r ρ σ lg K
def lr:Rs→Bool
 |.wr=>true
 |.call=>true
 |_=>false
def kg:List aI→Bool
 |[]=>true
 |o::r=>!(lr (ew o.k))&&kg r
inductive bA where
 |skip
 |region (id:Nat) (ms:List aI) (draw:Option (List (List Nat)))
 |gz (id:Nat) (ps:ti) (hd:List (List Nat))
 |seq (a b:bA)
 |cond (c:ql) (a b:bA)
 |join (lv:List Nat) (a:bA)
 |block (id:Nat) (a:bA)
 |loop (lv:List Nat) (a:bA)
 |exit (id:Nat)
 |scope (a:bA)
 |label (l:Nat)
 |ret
 deriving Inhabited
def bA.er:bA→cN
 |.skip=>.skip
 |.region id ms hd=>.region id ms hd
 |.gz id ps hd=>.region id (XH ps) (some hd)
 |.seq a b=>.seq a.er b.er
 |.cond c a b=>.cond c a.er b.er
 |.join _ a=>a.er
 |.block id a=>.block id a.er
 |.loop _ a=>.loop a.er
 |.exit id=>.exit id
 |.scope a=>.scope a.er
 |.label l=>.label l
 |.ret=>.ret
def YD:List aI→List Nat
 |[]=>[]
 |o::r=>match o.dst with
  |some d=>d::YD r
  |none=>YD r
def bA.jG:bA→List Nat
 |.region _ ms _=>YD ms
 |.gz _ ps _=>YD (XH ps)
 |.seq a b=>a.jG++b.jG
 |.cond _ a b=>a.jG++b.jG
 |.join _ a=>a.jG
 |.block _ a=>a.jG
 |.loop _ a=>a.jG
 |.scope a=>a.jG
 |_=>[]
def sc(x:Nat):List Nat→Bool
 |[]=>false
 |y::l=>Nat.beq x y||sc x l
def uX:List Nat→List Nat→Bool
 |[],_=>true
 |x::l,b=>sc x b&&uX l b
def bA.ok:bA→Bool
 |.gz _ ps hd=>oe (XH ps).length hd 0 ps
 |.seq a b=>a.ok&&b.ok
 |.cond _ a b=>a.ok&&b.ok
 |.join lv a=>uX lv a.jG&&a.ok
 |.block _ a=>a.ok
 |.loop lv a=>uX lv a.jG&&a.ok
 |.scope a=>a.ok
 |_=>true
def oZ:List aa→aa
 |[]=>.aF
 |x::_=>x
def iL:List aa→List aa
 |[]=>[]
 |_::l=>l
def kq:List Nat→List aa→Frame→Frame
 |[],_,ρ=>ρ
 |k::ks,vs,ρ=>(k,oZ vs)::kq ks (iL vs) ρ
def c6(l:List Nat):Frame→Frame
 |[]=>[]
 |(k,v)::r=>match sc k l with
  |true=>c6 l r
  |false=>(k,v)::c6 l r
def gq(ρ:Frame):List Nat→List aa
 |[]=>[]
 |s::r=>bB ρ s::gq ρ r
def jP(A:ak α)(hd:List (List Nat)):Nat→ti→Frame→List ab→(Frame→List ab→α)→α
 |_,[],ρ,σ,K=>K ρ σ
 |lo,(eE,true)::r,ρ,σ,K=>iA A eE ρ σ λρ σ=>jP A hd (lo+eE.length) r ρ σ K
 |lo,(eE,false)::r,ρ,σ,K=>match kg eE with
  |true=>iA A eE ρ σ λρ σ=>jP A hd (lo+eE.length) r ρ σ K
  |false=>y_ A eE ρ σ [] λρ σ lg=>A.gd (Xn (mS hd lo eE.length) lg) (jP A hd (lo+eE.length) r ρ σ K)
def dn(A:ak α):bA→Frame→List ab→(Frame→List ab→α)→(Nat→Frame→List ab→α)→(Frame→List ab→α)→α
 |.skip,ρ,σ,K,_,_=>K ρ σ
 |.label _,ρ,σ,K,_,_=>K ρ σ
 |.region _ ms none,ρ,σ,K,_,_=>iA A ms ρ σ K
 |.region _ ms (some hd),ρ,σ,K,_,_=>match kg ms with
  |true=>iA A ms ρ σ K
  |false=>y_ A ms ρ σ [] λρ σ lg=>A.gd (Xn hd lg) (K ρ σ)
 |.gz _ ps hd,ρ,σ,K,_,_=>jP A hd 0 ps ρ σ K
 |.seq a b,ρ,σ,K,E,R=>dn A a ρ σ (λρ σ=>dn A b ρ σ K E R) E R
 |.cond c a b,ρ,σ,K,E,R=>A.test (ev ρ c) (dn A a ρ σ K E R) (dn A b ρ σ K E R)
 |.join lv a,ρ,σ,K,E,R=>aH (λk=>dn A a ρ σ (λρ' σ=>k (gq ρ' lv) σ) E R) (λvs σ=>K (kq lv vs (c6 a.jG ρ)) σ)
 | .block id a,ρ,σ,K,E,R=>dn A a ρ σ K (λi ρ σ=>match Nat.beq i id with
  |true=>K ρ σ
  | false=>E i ρ σ) R
 |.loop lv a,ρ,σ,_,E,R=>A.loop (λagain vs σ=>dn A a (kq lv vs (c6 a.jG ρ)) σ (λρ' σ=>again (gq ρ' lv) σ) E R) (gq ρ lv) σ
 |.exit id,ρ,σ,_,E,_=>E id ρ σ
 |.scope a,ρ,σ,K,E,R=>dn A a ρ σ K E R
 |.ret,ρ,σ,_,_,R=>R ρ σ
def ga(agg:Bool)(n:Nat)(x:aa)(σ:List ab):Option aa:=match x with
 |.ai b j=>match ah σ b with
  |.box row=>aL agg j n row
  |_=>none
 |_=>none
def wc(A:ak α):List RV→Frame→List ab→(List aa→α)→α
 |[],_,_,K=>K []
 |.t n::r,ρ,σ,K=>wc A r ρ σ λvs=>K (bB ρ n::vs)
 |.c s agg n::r,ρ,σ,K=>A.opt (ga agg n (bB ρ s) σ) λv=>wc A r ρ σ λvs=>K (v::vs)
structure te where
 np:Nat
 n:Nat
 body:bA
 fF:List RV
 deriving Inhabited
def te.fn(D:te):sT:=⟨D.np,D.n,D.body.er,D.fF⟩
def tV(A:ak α)(D:te)(xs:List aa)(σ:List ab)(ret:aa→List ab→α):α:=
 dn A D.body (dS xs) σ (λρ σ=>wc A D.fF ρ σ λvs=>ret (og vs) σ) (λ_ _ _=>A.stop) (λρ σ=>wc A D.fF ρ σ λvs=>ret (og vs) σ)
def kK(stop:α):Nat→((List aa→List ab→α)→List aa→List ab→α)→List aa→List ab→α
 |0,_,_,_=>stop
 |n+1,F,vs,σ=>F (kK stop n F) vs σ
structure dY (P:Program) (GL:aw) (A:ak α) (hold:α→Prop):Prop where
 stop:¬hold A.stop
 call:∀ {k xs σ K},hold (A.call k xs σ K)→∃R,mm P GL k xs σ R∧∀v σ',R v σ'→hold (K v σ')
 eJ:∀ {k xs σ K},hold (A.eJ k xs σ K)→∃v rd up σ',aC P GL k xs (hp σ) v rd up∧gP σ up=some σ'∧hold (K v (rd,up.map (·.1)) σ')
 test:∀ {v a b},hold (A.test v a b)→∃c,v=.bool c∧(c=true→hold a)∧(c=false→hold b)
 loop:∀ {F vs σ},hold (A.loop F vs σ)→∃n,hold (kK A.stop n F vs σ)
section
variable {P:Program} {GL:aw} {A:ak α} {hold:α→Prop}
theorem dY.rd(ok:dY P GL A hold){r:az}{K:aa→α}(h:hold (A.rd r K)):∃v rd,r=.ok v rd []∧hold (K v):=by
 unfold ak.rd at h;split at h
 ·exact⟨_,_,rfl,h⟩
 ·exact(ok.stop h).elim
theorem dY.pu(ok:dY P GL A hold){r:az}{K:aa→α}(h:hold (A.pu r K)):∃v,r=.ok v [] []∧hold (K v):=by
 unfold ak.pu at h;split at h
 ·exact⟨_,rfl,h⟩
 ·exact(ok.stop h).elim
theorem dY.wr(ok:dY P GL A hold){r:az}{σ:List ab}{K:aa→List ab→α}(h:hold (A.wr r σ K)):∃v rd up σ',r=.ok v rd up∧gP σ up=some σ'∧hold (K v σ'):=by
 unfold ak.wr at h;split at h
 ·split at h
  ·grind
  ·exact(ok.stop h).elim
 ·exact(ok.stop h).elim
theorem dY.dr(ok:dY P GL A hold){r:az}{σ:List ab}{K:aa→List Nat×List Nat→List ab→α}(h:hold (A.dr r σ K)):∃v rd up σ',r=.ok v rd up∧gP σ up=some σ'∧hold (K v (rd,up.map (·.1)) σ'):=by
 unfold ak.dr at h;split at h
 ·split at h
  ·grind
  ·exact(ok.stop h).elim
 ·exact(ok.stop h).elim
theorem dY.gd(ok:dY P GL A hold){b:Bool}{k:α}(h:hold (A.gd b k)):b=true∧hold k:=by
 unfold ak.gd at h;split at h
 ·exact⟨rfl,h⟩
 ·exact(ok.stop h).elim
theorem dY.opt(ok:dY P GL A hold){β:Type}{o:Option β}{K:β→α}(h:hold (A.opt o K)):∃v,o=some v∧hold (K v):=by
 unfold ak.opt at h;split at h
 ·exact⟨_,rfl,h⟩
 ·exact(ok.stop h).elim
theorem Xi(σ:List ab):gP σ []=some σ:=by simp[gP]
theorem Xcs{ρ:Frame}{s:Nat}{w c:Bool}(h:bB ρ s=.bool c):cZ ρ (some (s,w)) [(c,w)]:=.bool s w c h
theorem Xdl{c w:Bool}:d_ [(c,w)]↔c=w:=by simp[d_]
theorem D1(ok:dY P GL A hold){ρ:Frame}{s:Nat}{w:Bool}{r:α}{K:List (Bool×Bool)→α}(h:hold (A.gx (bB ρ s) w r K)):∃cs,cZ ρ (some (s,w)) cs∧((d_ cs∧hold r)∨(¬d_ cs∧hold (K cs))):=by
 unfold ak.gx at h;split at h
 ·rename_i cs q hc;split at h
  ·rename_i hn;refine⟨_,.when s w q cs hc,.inr ⟨λq=>M3 hn (λp hp=>q p (by simp[hp])),h⟩⟩
  ·exact(ok.stop h).elim
 ·obtain⟨b,hb,h1,h2⟩:=ok.test h;refine⟨_,Xcs hb,?_⟩
  grind [Xdl]
def Zk(l:List Nat)(ρ ρ':Frame):Prop:=∀s,s∉l→bB ρ' s=bB ρ s
theorem Zk.refl(l:List Nat)(ρ:Frame):Zk l ρ ρ:=λ_ _=>rfl
theorem Zk.trans{l l':List Nat}{a b c:Frame}(h:Zk l a b)(k:Zk l' b c):Zk (l++l') a c:=λs hs=>by
 simp only[List.mem_append,not_or] at hs;rw[k s hs.2,h s hs.1]
theorem Zk.mono{l l':List Nat}{a b:Frame}(h:Zk l a b)(hl:∀x∈l,x∈l'):Zk l' a b:=λs hs=>h s λe=>hs (hl s e)
theorem Zk.put{o:aI}{v:aa}{ρ:Frame}:Zk (YD [o]) ρ (cc o.dst v ρ):=by
 intro s hs;rw[Y4];cases hd:o.dst with
 |none=>simp
 |some d=>
  have:s≠d:=by rintro rfl; simp[YD,hd] at hs
  grind
theorem Lk(o:aI)(r:List aI):YD (o::r)=YD [o]++YD r:=by
 cases hd:o.dst<;>simp[YD,hd]
theorem Qcr(ok:dY P GL A hold){fl:Bool}{o:aI}{ρ:Frame}{σ:List ab}{lg:Log}{K:Frame→List ab→α}(sY:fl=true→lr (ew o.k)=false)(h:hold (tW A o ρ σ K)) :
  dN fl P GL o ρ σ lg (λρ' σ' iP=>hold (K ρ' σ')∧Zk (YD [o]) ρ ρ'∧((∃l,iP=lg++[l]∧(lr (ew o.k)=false→l.2=[])))):=by
 unfold tW at h;cases hg:o.guard with
 |none=>
  simp only[hg] at h;have gi:cZ ρ o.guard []:=by rw[hg]; exact .none
  have hh:d_ []:=by simp[d_]
  have Aw:hold (A.rd (ed o.k (o.xs.map (ev ρ)) σ) λv=>K (cc o.dst v ρ) σ)→dN fl P GL o ρ σ lg (λρ' σ' iP=>hold (K ρ' σ')∧Zk (YD [o]) ρ ρ'∧((∃l,iP=lg++[l]∧(lr (ew o.k)=false→l.2=[])))):=by
   intro h;obtain⟨v,rd,e,h⟩:=ok.rd h;exact .run [] _ v rd [] σ gi hh (Yo _) (XJ e) (Xi σ) ⟨h,Zk.put,_,rfl,λ_=>rfl⟩
  cases hc:ew o.k with
  |mv=>
   simp only[hc] at h;split at h
   ·rename_i x hx;have hk:o.k=.mv:=by
     revert hc; unfold ew; split<;>simp_all
    refine .run [] [ev ρ x] (ev ρ x) [] [] σ gi hh (by rw[hx]; exact Yo _) (by rw[hk]; exact Md _ _) (Xi σ) ⟨h,Zk.put,_,rfl,λ_=>rfl⟩
   ·exact(ok.stop h).elim
  |pu=>simp_all
  |rd=>simp_all
  |wr=>
   simp only[hc] at h;obtain⟨v,rd,up,σ',e,e2,h⟩:=ok.wr h;exact .run [] _ v rd up σ' gi hh (Yo _) (XJ e) e2 ⟨h,Zk.put,_,rfl,λq=>by simp[lr] at q⟩
  |call=>
   simp only[hc] at h;obtain⟨R,hR,hk⟩:=ok.call h;refine .rel [] _ R ?_ gi hh (Yo _) hR (λv σ' hv=>⟨hk v σ' hv,Zk.put,_,rfl,λq=>by simp[lr] at q⟩);simp_all [lr]
 |some p=>
  obtain⟨s,w⟩:=p;simp only[hg] at h;have fh:∀cs,cZ ρ (some (s,w)) cs→¬d_ cs→hold (K (cc o.dst (rH cs) ρ) σ)→dN fl P GL o ρ σ lg (λρ' σ' iP=>hold (K ρ' σ')∧Zk (YD [o]) ρ ρ'∧((∃l,iP=lg++[l]∧(lr (ew o.k)=false→l.2=[])))):=by
   intro cs hb cL h;exact .lazy cs _ (.bool false) [] (by rw[hg]; exact hb) (Yo _) (λq=>(cL q).elim) ⟨h,Zk.put,_,rfl,λ_=>rfl⟩
  have Aw:hold (A.gr (bB ρ s) w (λk=>A.rd (ed o.k (o.xs.map (ev ρ)) σ) k) λv=>K (cc o.dst v ρ) σ)→dN fl P GL o ρ σ lg (λρ' σ' iP=>hold (K ρ' σ')∧Zk (YD [o]) ρ ρ'∧((∃l,iP=lg++[l]∧(lr (ew o.k)=false→l.2=[])))):=by
   intro h;obtain⟨cs,hb,⟨h0,h1⟩|⟨h0,h1⟩⟩:=D1 ok h
   ·obtain⟨v,rd,e,h⟩:=ok.rd h1;exact .run cs _ v rd [] σ (by rw[hg]; exact hb) h0 (Yo _) (XJ e) (Xi σ) ⟨h,Zk.put,_,rfl,λ_=>rfl⟩
   ·exact fh cs hb h0 h1
  cases hc:ew o.k with
  |mv=>simp_all
  |pu=>simp_all
  |rd=>simp_all
  |wr=>
   simp only[hc] at h fh;obtain⟨cs,hb,⟨h0,h1⟩|⟨h0,h1⟩⟩:=D1 ok h
   ·obtain⟨v,rd,up,σ',e,e2,h⟩:=ok.wr h1;exact .run cs _ v rd up σ' (by rw[hg]; exact hb) h0 (Yo _) (XJ e) e2 ⟨h,Zk.put,_,rfl,λq=>by simp[lr] at q⟩
   ·exact fh cs hb h0 h1
  |call=>
   simp only[hc] at h fh;obtain⟨cs,hb,⟨h0,h1⟩|⟨h0,h1⟩⟩:=D1 ok h
   ·obtain⟨R,hR,hk⟩:=ok.call h1;refine .rel cs _ R ?_ (by rw[hg]; exact hb) h0 (Yo _) hR (λv σ' hv=>⟨hk v σ' hv,Zk.put,_,rfl,λq=>by simp[lr] at q⟩);simp_all [lr]
   ·exact fh cs hb h0 h1
theorem gS.mono{fl:Bool}:∀ {ms:List aI} {ρ:Frame} {σ:List ab} {lg:Log} {K K':Frame→List ab→Log→Prop},(∀ρ σ lg,K ρ σ lg→K' ρ σ lg)→gS fl P GL ms ρ σ lg K→gS fl P GL ms ρ σ lg K'
 |[],_,_,_,_,_,h,k=>h _ _ _ k
 |_::_,_,_,_,_,_,h,k=>dN.mono (λ_ _ _ q=>gS.mono h q) k
def rK(lg:Log):Prop:=∀l∈lg,l.2=[]
theorem YP(ok:dY P GL A hold){fl:Bool}:∀ {ms:List aI} {ρ:Frame} {σ:List ab} {lg:Log} {K:Frame→List ab→α},(fl=true→kg ms=true)→hold (iA A ms ρ σ K) →
  gS fl P GL ms ρ σ lg (λρ' σ' iP=>hold (K ρ' σ')∧Zk (YD ms) ρ ρ'∧(kg ms=true→rK lg→rK iP))
 |[],ρ,σ,lg,K,_,h=>⟨h,Zk.refl _ _,λ_ q=>q⟩
 |o::r,ρ,σ,lg,K,sY,h=>by
  unfold iA at h;have OM:fl=true→lr (ew o.k)=false:=λe=>by simp_all [kg]
  have ON:fl=true→kg r=true:=λe=>by simp_all [kg]
  refine dN.mono (λρ' σ' iP=>?_) (Qcr ok (lg:=lg) OM h);rintro⟨k1,k2,l,hl,k3⟩;refine gS.mono (λRq Rr PR=>?_) (YP ok ON k1);rintro⟨q1,q2,q3⟩;refine⟨q1,by rw[Lk]; exact k2.trans q2,λhn O1=>?_⟩;simp only[kg,Bool.and_eq_true,Bool.not_eq_true'] at hn;refine q3 hn.2 ?_;rw[hl];intro x hx;simp only[List.mem_append,List.mem_singleton] at hx;rcases hx with hx|hx
  ·exact O1 x hx
  ·rw[hx]; exact k3 hn.1
theorem WL(ok:dY P GL A hold){o:aI}{ρ:Frame}{σ:List ab}{lg:Log}{K:Frame→List ab→Log→α}(h:hold (px A o ρ σ lg K)) :
  dN true P GL o ρ σ lg (λρ' σ' iP=>hold (K ρ' σ' iP)∧Zk (YD [o]) ρ ρ'):=by
 unfold px at h;cases hg:o.guard with
 |none=>
  simp only[hg] at h;have gi:cZ ρ o.guard []:=by rw[hg]; exact .none
  have hh:d_ []:=by simp[d_]
  have mI:hold (A.dr (ed o.k (o.xs.map (ev ρ)) σ) σ λv l σ=>K (cc o.dst v ρ) σ (lg++[l]))→dN true P GL o ρ σ lg (λρ' σ' iP=>hold (K ρ' σ' iP)∧Zk (YD [o]) ρ ρ'):=by
   intro h;obtain⟨v,rd,up,σ',e,e2,h⟩:=ok.dr h;exact .run [] _ v rd up σ' gi hh (Yo _) (XJ e) e2 ⟨h,Zk.put⟩
  cases hc:ew o.k with
  |mv=>
   simp only[hc] at h;split at h
   ·rename_i x hx;have hk:o.k=.mv:=by
     revert hc; unfold ew; split<;>simp_all
    refine .run [] [ev ρ x] (ev ρ x) [] [] σ gi hh (by rw[hx]; exact Yo _) (by rw[hk]; exact Md _ _) (Xi σ) ⟨h,Zk.put⟩
   ·exact(ok.stop h).elim
  |pu=>
   simp only[hc] at h;obtain⟨v,e,h⟩:=ok.pu h;exact .run [] _ v [] [] σ gi hh (Yo _) (XJ e) (Xi σ) ⟨h,Zk.put⟩
  |rd=>simp only[hc] at h; exact mI h
  |wr=>simp only[hc] at h; exact mI h
  |call=>
   simp only[hc] at h;obtain⟨v,rd,up,σ',e,e2,h⟩:=ok.eJ h;exact .run [] _ v rd up σ' gi hh (Yo _) e e2 ⟨h,Zk.put⟩
 |some p=>
  obtain⟨s,w⟩:=p;simp only[hg] at h;have fh:∀cs,cZ ρ (some (s,w)) cs→¬d_ cs→hold (K (cc o.dst (rH cs) ρ) σ (lg++[([],[])]))→dN true P GL o ρ σ lg (λρ' σ' iP=>hold (K ρ' σ' iP)∧Zk (YD [o]) ρ ρ'):=by
   intro cs hb cL h;exact .lazy cs _ (.bool false) [] (by rw[hg]; exact hb) (Yo _) (λq=>(cL q).elim) ⟨h,Zk.put⟩
  have uU:hold (A.gr (bB ρ s) w (λk=>A.pu (ed o.k (o.xs.map (ev ρ)) σ) k) λv=>K (cc o.dst v ρ) σ (lg++[([],[])]))→dN true P GL o ρ σ lg (λρ' σ' iP=>hold (K ρ' σ' iP)∧Zk (YD [o]) ρ ρ'):=by
   intro h;obtain⟨cs,hb,⟨h0,h1⟩|⟨h0,h1⟩⟩:=D1 ok h
   ·obtain⟨v,e,h⟩:=ok.pu h1;exact .run cs _ v [] [] σ (by rw[hg]; exact hb) h0 (Yo _) (XJ e) (Xi σ) ⟨h,Zk.put⟩
   ·exact fh cs hb h0 h1
  have mI:hold (A.gl (bB ρ s) w (λk=>A.dr (ed o.k (o.xs.map (ev ρ)) σ) σ k) σ λv l σ=>K (cc o.dst v ρ) σ (lg++[l]))→dN true P GL o ρ σ lg (λρ' σ' iP=>hold (K ρ' σ' iP)∧Zk (YD [o]) ρ ρ'):=by
   intro h;obtain⟨cs,hb,⟨h0,h1⟩|⟨h0,h1⟩⟩:=D1 ok h
   ·obtain⟨v,rd,up,σ',e,e2,h⟩:=ok.dr h1;exact .run cs _ v rd up σ' (by rw[hg]; exact hb) h0 (Yo _) (XJ e) e2 ⟨h,Zk.put⟩
   ·exact fh cs hb h0 h1
  cases hc:ew o.k with
  |mv=>simp only[hc] at h; exact uU h
  |pu=>simp only[hc] at h; exact uU h
  |rd=>simp only[hc] at h; exact mI h
  |wr=>simp only[hc] at h; exact mI h
  |call=>
   simp only[hc] at h;obtain⟨cs,hb,⟨h0,h1⟩|⟨h0,h1⟩⟩:=D1 ok h
   ·obtain⟨v,rd,up,σ',e,e2,h⟩:=ok.eJ h1;exact .run cs _ v rd up σ' (by rw[hg]; exact hb) h0 (Yo _) e e2 ⟨h,Zk.put⟩
   ·exact fh cs hb h0 h1
theorem LR(ok:dY P GL A hold):∀ {ms:List aI} {ρ:Frame} {σ:List ab} {lg:Log} {K:Frame→List ab→Log→α},hold (y_ A ms ρ σ lg K) →
  gS true P GL ms ρ σ lg (λρ' σ' iP=>hold (K ρ' σ' iP)∧Zk (YD ms) ρ ρ')
 |[],ρ,σ,lg,K,h=>⟨h,Zk.refl _ _⟩
 |o::r,ρ,σ,lg,K,h=>by
  unfold y_ at h;refine dN.mono (λρ' σ' iP=>?_) (WL ok h);rintro⟨k1,k2⟩;refine gS.mono (λRq Rr PR=>?_) (LR ok k1);rintro⟨q1,q2⟩;exact⟨q1,by rw[Lk]; exact k2.trans q2⟩
theorem Ve:∀a:List Nat,eZ a []=true
 |[]=>rfl
 |x::a=>by simp[eZ,Ve a]
theorem Rt{hd:List (List Nat)}{lg:Log}(h:rK lg):Xn hd lg=true:=by
 have one:∀(h':List Nat) (q:List Nat×List Nat),q.2=[]→∀(l:Log) (i:Nat),rK l→Zu h' q i l=true:=by
  intro h' q hq l
  induction l with
  |nil=>intro i _; rfl
  |cons p r ih=>
   intro i hl;have hp:p.2=[]:=hl p (by simp);simp[Zu,c9,hq,hp,eZ,Ve,ih (i+1) (λx hx=>hl x (by simp[hx]))]
 unfold Xn;rw[List.all_eq_true];intro j _;refine one _ _ ?_ _ _ (λx hx=>h x (List.mem_of_mem_take hx));unfold XF;cases hj:lg[j]? with
 |none=>rfl
 |some p=>exact h p (List.mem_of_getElem? hj)
theorem Ep{x:Nat}:∀ {l:List Nat},sc x l=true↔x∈l
 |[]=>by simp[sc]
 |y::l=>by simp[sc,Ep (l:=l)]
theorem Lw:∀ {l b:List Nat},uX l b=true→∀x∈l,x∈b
 |[],_,_,x,h=>by simp at h
 |y::l,b,h,x,hx=>by
  simp only[uX,Bool.and_eq_true] at h;simp only[List.mem_cons] at hx;rcases hx with rfl|hx
  ·exact Ep.1 h.1
  ·exact Lw h.2 x hx
theorem Jf(l:List Nat)(s:Nat):∀ρ:Frame,bB (c6 l ρ) s=if s∈l then .aF else bB ρ s
 |[]=>by simp[c6,bB]
 |(k,v)::r=>by
  unfold c6;cases hk:sc k l with
  |true=>
   have hm:=Ep.1 hk;simp only;rw[Jf l s r];by_cases hs:s∈l
   ·simp[hs]
   ·have:s≠k:=by rintro rfl; exact hs hm
    simp_all [QR]
  |false=>
   have hm:k∉l:=λe=>by rw[Ep.2 e] at hk; cases hk
   simp only;rw[QR,QR,Jf l s r];by_cases hs:s=k
   ·subst hs; simp[hm]
   ·simp[hs]
theorem SA{s:Nat}:∀ {lv:List Nat} {vs:List aa} {ρ:Frame},s∉lv→bB (kq lv vs ρ) s=bB ρ s
 |[],_,_,_=>rfl
 |k::ks,vs,ρ,h=>by
  simp only[List.mem_cons,not_or] at h;simp only[kq];rw[QR,if_neg h.1,SA h.2]
theorem L5{lv:List Nat}{l:List Nat}{ρ ρ1:Frame}(hl:∀x∈lv,x∈l)(h:Zk l ρ ρ1):sS (kq lv (gq ρ1 lv) (c6 l ρ)) ρ1:=by
 have key:∀(ks:List Nat) (ρ0:Frame),sS ρ0 ρ1→sS (kq ks (gq ρ1 ks) ρ0) ρ1:=by
  intro ks
  induction ks with
  |nil=>intro ρ0 h; exact h
  |cons k ks ih=>
   intro ρ0 h t;simp only[kq,gq,oZ,iL];rw[QR];by_cases e:t=k
   ·simp_all
   ·rw[if_neg e]; exact ih ρ0 h t
 refine key lv _ (λt=>?_);rw[Jf];by_cases ht:t∈l
 ·rw[if_pos ht]; exact .inr rfl
 ·rw[if_neg ht]; exact .inl (h t ht).symm
theorem SS{lv l:List Nat}{vs:List aa}{ρ:Frame}(hl:∀x∈lv,x∈l):Zk l ρ (kq lv vs (c6 l ρ)):=by
 intro s hs;rw[SA (λe=>hs (hl s e)),Jf,if_neg hs]
theorem Zbw{n:Nat}{m:cN}{ρ:Frame}{σ:List ab}{Q:dK}(h:gR P GL n m ρ σ (λe ρ1 σ1=>∃ρ2,sS ρ2 ρ1∧Q e ρ2 σ1)):gR P GL n m ρ σ Q:=by
 intro c hc w0 L g a w r d;refine wp_mono (h c hc w0 L g a w r d) (λe a' w' hl=>?_);cases e with
 |normal=>obtain⟨g',ρ',σ',k1,k2,k3,ρ2,k4,k5⟩:=hl; exact⟨g',ρ2,σ',k1,k2,k3.cy k4,k5⟩
 |exit id=>obtain⟨g',ρ',σ',k1,k2,k3,ρ2,k4,k5⟩:=hl; exact⟨g',ρ2,σ',k1,k2,k3.cy k4,k5⟩
 |ret=>obtain⟨g',ρ',σ',k1,k2,k3,ρ2,k4,k5⟩:=hl; exact⟨g',ρ2,σ',k1,k2,k3.cy k4,k5⟩
 |_=>exact hl.elim
theorem sS.refl(ρ:Frame):sS ρ ρ:=λ_=>.inl rfl
theorem Sz(a b:List aI):YD (a++b)=YD a++YD b:=by
 induction a with
 |nil=>rfl
 |cons o r ih=>grind [Lk]
theorem JY(ok:dY P GL A hold){hd:List (List Nat)}:∀(ps:ti) (lo:Nat) {ρ:Frame} {σ:List ab} {K:Frame→List ab→α} {Q:Frame→List ab→Prop},(∀ρ' σ',Zk (YD (XH ps)) ρ ρ'→hold (K ρ' σ')→Q ρ' σ')→hold (jP A hd lo ps ρ σ K)→qy P GL hd lo ps ρ σ Q
 |[],_,_,_,_,_,hQ,h=>hQ _ _ (Zk.refl _ _) h
 |(eE,true)::r,lo,ρ,σ,K,Q,hQ,h=>by
  unfold jP at h;refine gS.mono (λρ' σ' iP=>?_) (YP ok (fl:=false) (λe=>by cases e) h);rintro⟨k1,k2,_⟩;exact JY ok r _ (λρ2 σ2 q=>hQ ρ2 σ2 (by rw[XH,Sz]; exact k2.trans q)) k1
 |(eE,false)::r,lo,ρ,σ,K,Q,hQ,h=>by
  unfold jP at h;have VM:∀ρ',Zk (YD eE) ρ ρ'→∀ρ2 σ2,Zk (YD (XH r)) ρ' ρ2→hold (K ρ2 σ2)→Q ρ2 σ2:=λρ' k2 ρ2 σ2 q=>hQ ρ2 σ2 (by rw[XH,Sz]; exact k2.trans q);cases hn:kg eE with
  |true=>
   simp only[hn] at h;refine gS.mono (λρ' σ' iP=>?_) (YP ok (fl:=true) (λ_=>hn) h);rintro⟨k1,k2,k3⟩;exact⟨Rt (k3 hn (λ_ q=>by simp at q)),JY ok r _ (VM _ k2) k1⟩
  |false=>
   simp only[hn] at h;refine gS.mono (λρ' σ' iP=>?_) (LR ok h);rintro⟨k1,k2⟩;obtain⟨q1,q2⟩:=ok.gd k1;exact⟨q1,JY ok r _ (VM _ k2) q2⟩
theorem YV(hP:P.follows .mixedOrders=true)(ok:dY P GL A hold){n:Nat}:∀(m:bA) {ρ:Frame} {σ:List ab} {K:Frame→List ab→α} {E:Nat→Frame→List ab→α} {R:Frame→List ab→α} {Q:dK},m.ok=true →
  (∀ρ' σ',Zk m.jG ρ ρ'→hold (K ρ' σ')→Q .normal ρ' σ')→(∀i ρ' σ',Zk m.jG ρ ρ'→hold (E i ρ' σ')→Q (.exit i) ρ' σ')→(∀ρ' σ',Zk m.jG ρ ρ'→hold (R ρ' σ')→Q .ret ρ' σ') →
  hold (dn A m ρ σ K E R)→gR P GL n m.er ρ σ Q
 |.skip,_,_,_,_,_,_,_,hK,_,_,h=>Yde (hK _ _ (Zk.refl _ _) h)
 |.label _,_,_,_,_,_,_,_,hK,_,_,h=>Z' (hK _ _ (Zk.refl _ _) h)
 |.exit id,_,_,_,_,_,_,_,_,hE,_,h=>Zde (hE _ _ _ (Zk.refl _ _) h)
 |.ret,_,_,_,_,_,_,_,_,_,hR,h=>Ydz (hR _ _ (Zk.refl _ _) h)
 |.scope a,_,_,_,_,_,_,hm,hK,hE,hR,h=>ZcH (YV hP ok a hm hK hE hR h)
 |.region id ms none,ρ,σ,K,E,R,Q,_,hK,_,_,h=>by
  refine Qcp (gS.mono (λρ' σ' iP=>?_) (YP ok (fl:=false) (λe=>by cases e) h));rintro⟨k1,k2,_⟩;exact hK _ _ k2 k1
 |.region id ms (some hd),ρ,σ,K,E,R,Q,_,hK,_,_,h=>by
  unfold dn at h;cases hn:kg ms with
  |true=>
   simp only[hn] at h;refine Tf hP (gS.mono (λρ' σ' iP=>?_) (YP ok (fl:=true) (λ_=>hn) h));rintro⟨k1,k2,k3⟩;exact⟨Rt (k3 hn (λ_ q=>by simp at q)),hK _ _ k2 k1⟩
  |false=>
   simp only[hn] at h;refine Tf hP (gS.mono (λρ' σ' iP=>?_) (LR ok h));rintro⟨k1,k2⟩;obtain⟨q1,q2⟩:=ok.gd k1;exact⟨q1,hK _ _ k2 q2⟩
 |.gz id ps hd,ρ,σ,K,E,R,Q,hm,hK,_,_,h=>Zdz hP hm (JY ok ps 0 (λρ' σ' q k=>hK _ _ q k) h)
 |.seq a b,ρ,σ,K,E,R,Q,hm,hK,hE,hR,h=>by
  simp only[bA.ok,Bool.and_eq_true] at hm;refine Xdz (YV hP ok a hm.1 (Q:=dK.andThen (λρ σ=>gR P GL n b.er ρ σ Q) Q) (λρ' σ' hs hk=>?_) (λi ρ' σ' hs hk=>?_) (λρ' σ' hs hk=>?_) h)
  ·exact YV hP ok b hm.2 (λρ2 σ2 pJ=>hK _ _ (hs.trans pJ)) (λi ρ2 σ2 pJ=>hE _ _ _ (hs.trans pJ)) (λρ2 σ2 pJ=>hR _ _ (hs.trans pJ)) hk
  ·exact hE i ρ' σ' (hs.mono (λx hx=>by simp[bA.jG,hx])) hk
  ·exact hR ρ' σ' (hs.mono (λx hx=>by simp[bA.jG,hx])) hk
 |.cond c a b,ρ,σ,K,E,R,Q,hm,hK,hE,hR,h=>by
  simp only[bA.ok,Bool.and_eq_true] at hm;unfold dn at h;obtain⟨v,hv,h1,h2⟩:=ok.test h;have m1:∀ρ',Zk a.jG ρ ρ'→Zk (bA.cond c a b).jG ρ ρ':=λρ' q=>q.mono (λx hx=>by simp[bA.jG,hx]);have m2:∀ρ',Zk b.jG ρ ρ'→Zk (bA.cond c a b).jG ρ ρ':=λρ' q=>q.mono (λx hx=>by simp[bA.jG,hx]);refine Qdd hv (λe=>?_) (λe=>?_)
  ·exact YV hP ok a hm.1 (λρ2 σ2 q=>hK _ _ (m1 _ q)) (λi ρ2 σ2 q=>hE _ _ _ (m1 _ q)) (λρ2 σ2 q=>hR _ _ (m1 _ q)) (h1 e)
  ·exact YV hP ok b hm.2 (λρ2 σ2 q=>hK _ _ (m2 _ q)) (λi ρ2 σ2 q=>hE _ _ _ (m2 _ q)) (λρ2 σ2 q=>hR _ _ (m2 _ q)) (h2 e)
 |.join lv a,ρ,σ,K,E,R,Q,hm,hK,hE,hR,h=>by
  simp only[bA.ok,Bool.and_eq_true] at hm;have yG:=Lw hm.1;refine Zbw (YV hP ok a hm.2 (K:=λρ' σ=>K (kq lv (gq ρ' lv) (c6 a.jG ρ)) σ) (E:=E) (R:=R) (λρ' σ' hs hk=>?_) (λi ρ' σ' hs hk=>⟨ρ',sS.refl _,hE i ρ' σ' hs hk⟩) (λρ' σ' hs hk=>⟨ρ',sS.refl _,hR ρ' σ' hs hk⟩) h);exact⟨_,L5 yG hs,hK _ _ (SS yG) hk⟩
 |.block id a,ρ,σ,K,E,R,Q,hm,hK,hE,hR,h=>by
  refine XcG (YV hP ok a hm (Q:=dK.inBlock id Q) hK (λi ρ' σ' hs hk=>?_) hR h);show (if i=id then Q .normal ρ' σ' else Q (.exit i) ρ' σ');by_cases hi:i=id
  ·subst hi;rw[if_pos rfl];have hb:Nat.beq i i=true:=Nat.beq_refl i;simp only[hb] at hk;exact hK _ _ hs hk
  ·rw[if_neg hi];have hb:Nat.beq i id=false:=by
    grind [e9]
   simp only[hb] at hk;exact hE _ _ _ hs hk
 |.loop lv a,ρ,σ,K,E,R,Q,hm,hK,hE,hR,h=>by
  simp only[bA.ok,Bool.and_eq_true] at hm;have yG:=Lw hm.1;unfold dn at h;obtain⟨k,hk⟩:=ok.loop h;have key:∀(k:Nat) (vs:List aa) (σ:List ab) (ρ1:Frame),sS (kq lv vs (c6 a.jG ρ)) ρ1 →
    hold (kK A.stop k (λagain vs σ=>dn A a (kq lv vs (c6 a.jG ρ)) σ (λρ' σ=>again (gq ρ' lv) σ) E R) vs σ)→gR P GL n (.loop a.er) ρ1 σ Q:=by
   intro k
   induction k with
   |zero=>intro vs σ ρ1 _ hk; exact(ok.stop hk).elim
   |succ k ih=>
    intro vs σ ρ1 hle hk;have hz:Zk a.jG ρ (kq lv vs (c6 a.jG ρ)):=SS yG;have nM:∀ρ',Zk a.jG (kq lv vs (c6 a.jG ρ)) ρ'→Zk a.jG ρ ρ':=λρ' q=>(hz.trans q).mono (λx hx=>by simpa using hx);refine Xde hle (Zcq (YV hP ok a hm.2 (Q:=dK.andThen (λρ σ=>gR P GL n (.loop a.er) ρ σ Q) Q) (λρ' σ' hs hk=>?_) (λi ρ' σ' hs hk=>?_) (λρ' σ' hs hk=>?_) hk))
    ·exact ih _ _ ρ' (L5 yG (nM _ hs)) hk
    ·exact hE i ρ' σ' (nM _ hs) hk
    ·exact hR ρ' σ' (nM _ hs) hk
  exact key k _ σ ρ (L5 yG (Zk.refl _ _)) hk
theorem Q5(ok:dY P GL A hold):∀ {rs:List RV} {ρ:Frame} {σ:List ab} {K:List aa→α},hold (wc A rs ρ σ K)→∃vs,ni ρ σ rs=some vs∧hold (K vs)
 |[],_,_,_,h=>⟨[],rfl,h⟩
 |.t n::r,ρ,σ,K,h=>by
  obtain⟨vs,h1,h2⟩:=Q5 ok (rs:=r) h;exact⟨bB ρ n::vs,by simp[ni,qf,h1],h2⟩
 |.c s agg n::r,ρ,σ,K,h=>by
  unfold wc at h;obtain⟨v,hv,h⟩:=ok.opt h;obtain⟨vs,h1,h2⟩:=Q5 ok (rs:=r) h;have qt:qf ρ σ (.c s agg n)=some v:=by
   unfold ga at hv;unfold qf;exact hv
  exact⟨v::vs,by simp[ni,qt,h1],h2⟩
theorem Xcr(hP:P.follows .mixedOrders=true)(ok:dY P GL A hold){D:te}(hD:D.body.ok=true){xs:List aa}{σ:List ab}{ret:aa→List ab→α}(h:hold (tV A D xs σ ret)) :
  gR P GL D.n D.body.er (dS xs) σ (λe ρ σ'=>(e=.normal∨e=.ret)∧∃v,gA D.fF ρ σ'=some v∧hold (ret v σ')):=by
 refine YV hP ok D.body hD (λρ' σ' _ hk=>?_) (λi ρ' σ' _ hk=>(ok.stop hk).elim) (λρ' σ' _ hk=>?_) h
 ·obtain⟨vs,h1,h2⟩:=Q5 ok hk;simp_all [gA]
 ·obtain⟨vs,h1,h2⟩:=Q5 ok hk;simp_all [gA]
end
end
end Go.Ah
end
section
namespace Go.Ah
abbrev eH:=∀ {α:Type},ak α→List aa→List ab→(aa→List ab→α)→α
structure lU (P:Program) (GL:aw) (f:FuncId) (np:Nat) (g:eH):Prop where
 plain:Qj P f=true
 ex:∃D:te,D.np=np∧kX P GL f D.fn∧D.body.ok=true∧∀(α:Type) (A:ak α) (xs:List aa) (σ:List ab) (ret:aa→List ab→α),xs.length=np→g A xs σ ret=tV A D xs σ ret
def eW:cN→List (Option (List Nat))→bA×List (Option (List Nat))
 |.skip,l=>(.skip,l)
 |.region id ms hd,l=>(.region id ms hd,l)
 |.seq a b,l=>match eW a l with
  |(a',l)=>match eW b l with
   |(b',l)=>(.seq a' b',l)
 |.cond c a b,l=>match eW a l.tail with
  |(a',l2)=>match eW b l2 with
   |(b',l3)=>match l with
    |some lv::_=>(.join lv (.cond c a' b'),l3)
    |_=>(.cond c a' b',l3)
 |.block id a,l=>match eW a l.tail with
  |(a',l2)=>match l with
   |some lv::_=>(.join lv (.block id a'),l2)
   |_=>(.block id a',l2)
 |.loop a,l=>match eW a l.tail with
  |(a',l2)=>match l with
   |some lv::_=>(.loop lv a',l2)
   |_=>(.loop [] a',l2)
 |.exit id,l=>(.exit id,l)
 |.scope a,l=>match eW a l with
  |(a',l)=>(.scope a',l)
 |.label n,l=>(.label n,l)
 |.ret,l=>(.ret,l)
theorem XO:∀(m:cN) (l:List (Option (List Nat))),(eW m l).1.er=m
 |.skip,_=>rfl
 |.region ..,_=>rfl
 |.seq a b,l=>by simp only[eW,bA.er,XO a,XO b]
 |.cond c a b,l=>by
  simp only[eW];split<;>simp only[bA.er,XO a,XO b]
 |.block id a,l=>by
  simp only[eW];split<;>simp only[bA.er,XO a]
 |.loop a,l=>by
  simp only[eW];split<;>simp only[bA.er,XO a]
 |.exit _,_=>rfl
 |.scope a,l=>by simp only[eW,bA.er,XO a]
 |.label _,_=>rfl
 |.ret,_=>rfl
def wb(n:Nat)(hd:List (List Nat)):Nat→List aI→List aI→ti
 |_,[],[]=>[]
 |_,[],o::c=>[(o::c,false)]
 |i,o::r,c=>match ew o.k,o.guard with
  |.call,none=>match wu n hd i&&wu n hd (i+1) with
   |true=>match c with
    |[]=>([o],true)::wb n hd (i+1) r []
    |x::c=>(x::c,false)::([o],true)::wb n hd (i+1) r []
   |false=>wb n hd (i+1) r (c++[o])
  |_,_=>wb n hd (i+1) r (c++[o])
theorem J0(n:Nat)(hd:List (List Nat)):∀(i:Nat) (l c:List aI),XH (wb n hd i l c)=c++l
 |_,[],[]=>rfl
 |_,[],o::c=>by simp[wb,XH]
 |i,o::r,c=>by
  have h1:XH (wb n hd (i+1) r (c++[o]))=c++o::r:=by rw[J0]; simp
  unfold wb;split
  ·split
   ·split
    ·simp[XH,J0]
    ·simp[XH,J0]
   ·exact h1
  ·exact h1
def XX:bA→bA
 |.region id ms (some hd)=>.gz id (wb ms.length hd 0 ms []) hd
 |.seq a b=>.seq (XX a) (XX b)
 |.cond c a b=>.cond c (XX a) (XX b)
 |.join lv a=>.join lv (XX a)
 |.block id a=>.block id (XX a)
 |.loop lv a=>.loop lv (XX a)
 |.scope a=>.scope (XX a)
 |D=>D
theorem QS:∀D:bA,(XX D).er=D.er
 |.region id ms (some hd)=>by simp[XX,bA.er,J0]
 |.region id ms none=>rfl
 |.gz ..=>rfl
 |.seq a b=>by simp only[XX,bA.er,QS a,QS b]
 |.cond c a b=>by simp only[XX,bA.er,QS a,QS b]
 |.join lv a=>by simp only[XX,bA.er,QS a]
 |.block id a=>by simp only[XX,bA.er,QS a]
 |.loop lv a=>by simp only[XX,bA.er,QS a]
 |.scope a=>by simp only[XX,bA.er,QS a]
 |.skip=>rfl
 |.label _=>rfl
 |.exit _=>rfl
 |.ret=>rfl
def EX(m:cN)(l:List (Option (List Nat))):bA:=match l with
 |some [k]::r=>match Nat.beq k 999 with
  |true=>XX (eW m r).1
  |false=>(eW m l).1
 |_=>(eW m l).1
theorem Z_(m:cN)(l:List (Option (List Nat))):(EX m l).er=m:=by
 unfold EX
 grind [QS,XO]
def dO(P:Program)(GL:aw)(np:Nat)(f:FuncId)(l:List (Option (List Nat))):Option te:=match MP P GL np f with
 |some F=>bif (EX F.body l).ok&&(Qj P f&&Nat.beq F.np np) then some ⟨np,F.n,EX F.body l,F.fF⟩ else none
 |none=>none
theorem YdW{P:Program}{GL:aw}{np:Nat}{f:FuncId}{l:List (Option (List Nat))}{g:eH}{D:te}(hD:dO P GL np f l=some D)(h:∀(α:Type) (A:ak α) (xs:List aa) (σ:List ab) (ret:aa→List ab→α),xs.length=np→g A xs σ ret=tV A D xs σ ret):lU P GL f np g:=by
 unfold dO at hD;split at hD
 ·rename_i F hF;obtain⟨hb,hD⟩:=ZE hD;simp only[Bool.and_eq_true] at hb;cases hD;have Eb:=e9 hb.2.2;refine⟨hb.2.1,_,rfl,?_,hb.1,h⟩;have vC:te.fn ⟨np,F.n,EX F.body l,F.fF⟩=F:=by
   cases F<;>simp_all [te.fn,Z_]
  rw[vC];exact XcL hF
 ·cases hD
end Go.Ah
end
section
namespace Go.Ah
theorem Xt{σ:List ab}{b:Nat}{x:ab}(h:σ[b]?=some x):ah σ b=x:=by
 induction σ generalizing b with
 |nil=>simp at h
 |cons y σ ih=>cases b<;>simp_all [ah]
theorem JR{σ:List ab}{b:Nat}(h:b<σ.length):σ[b]?=some (ah σ b):=by
 simp_all [Xt]
def DV(fp:List Nat)(n:Nat):Nat→List ab→List ab
 |_,[]=>[]
 |i,x::l=>(bif sc i fp then x.c7 (aa.cj (m_ n)) else .dead)::DV fp n (i+1) l
def kN(fp:List Nat)(σ:List ab):List ab:=DV fp σ.length 0 σ
theorem SY(fp:List Nat)(n:Nat):∀(l:List ab) (i j:Nat),(DV fp n i l)[j]?=(l[j]?).map λx=>bif sc (i+j) fp then x.c7 (aa.cj (m_ n)) else .dead
 |[],i,j=>by simp[DV]
 |x::l,i,0=>by simp[DV]
 |x::l,i,j+1=>by
  simp only[DV,List.getElem?_cons_succ];rw[SY fp n l (i+1) j,show i+1+j=i+(j+1) by omega]
theorem LM(fp:List Nat)(σ:List ab)(j:Nat):(kN fp σ)[j]?=(σ[j]?).map λx=>bif sc j fp then x.c7 (aa.cj (m_ σ.length)) else .dead:=by
 rw[kN,SY,Nat.zero_add]
theorem Sf(F:Nat→ab):∀(keys:List Nat) (h:Hp) (b:Nat),cq h (keys.map λb=>(b,F b)) b=if b∈keys then some (F b) else h b
 |[],h,b=>by simp[cq]
 |x::keys,h,b=>by
  simp only[List.map_cons,cq];rw[Sf F keys]
  grind [eA]
section
variable {P:Program} {GL:aw}
theorem SD{f:FuncId}{F:sT}(ok:kX P GL f F){xs xJ:List aa}(hn:xs.length=F.np)(σ:List ab)(fp ids:List Nat)(wQ:∀b∈fp,b∈ids)(l8:∀b∈ids,b<σ.length){v:aa}{k:Nat}{τ τ':List ab}
 (xm:fZ (m_ σ.length) xs=xJ)(hτ:kN fp σ=τ)(h:gR P GL F.n F.body (dS xJ) τ (λe ρ s=>(e=.normal∨e=.ret)∧gA F.fF ρ s=some v∧s=τ'))(hk:τ'.length=σ.length+k) :
  im P GL f xs (hp σ) (v.cj (eD ids σ.length k)) ids ((fp++List.range' σ.length k).map λb=>(b,(ah τ' b).c7 (aa.cj (eD ids σ.length k)))):=by
 intro w0 L g hq w vs r hx cH eA;subst xm; subst hτ
 let dm:CB:=⟨0,0,0,true,0⟩
 let c':Own:=λb=>if b<σ.length then some ((g.c b).getD dm) else none
 let lb:List Nat:=fp.filterMap λb=>match g.c b,σ[b]? with
  |some cb,some x=>bif x.live && !cb.cS then some cb.aE else none
  |_,_=>none
 have j9:∀b∈ids,∃cb,g.c b=some cb∧c' b=some cb∧hq b=σ[b]?:=by
  intro b hb;have hl:=l8 b hb;have e1:hq b=σ[b]?:=cH b hb;obtain⟨cb,sy⟩:=r.iM b σ[b] (by rw[e1]; simp[hl]);exact⟨cb,sy,by simp only[c']; rw[if_pos hl,sy]; rfl,e1⟩
 have V4:∀b∈fp,∀cb y,g.c b=some cb→σ[b]?=some y→y.live=true→cb.cS=false→cb.aE∈lb:=by
  intro b hb cb y sy hy hl hv;simp only[lb,List.mem_filterMap];exact⟨b,hb,by rw[sy,hy]; simp[hl,hv]⟩
 have cp:∀b x,(kN fp σ)[b]?=some x→b<σ.length:=by
  intro b x e;rw[LM] at e;cases hs:σ[b]? with
  |none=>rw[hs] at e; cases e
  |some y=>exact(gn hs).1
 have r_:∀b x,(kN fp σ)[b]?=some x→x.live=true→b∈fp∧∃y,σ[b]?=some y∧x=y.c7 (aa.cj (m_ σ.length)):=by
  intro b x e hl;rw[LM] at e;cases hs:σ[b]? with
  |none=>rw[hs] at e; cases e
  |some y=>
   rw[hs] at e;simp only[Option.map_some,Option.some.injEq] at e;cases hi:sc b fp with
   |false=>rw[hi] at e; subst e; cases hl
   |true=>rw[hi] at e; exact⟨Ep.1 hi,y,rfl,e.symm⟩
 have sJ:∀x u,g.den x u→Den g.M c' (x.cj (m_ σ.length)) u:=by
  intro x u d;refine d.cj (λb b' cb k1 k2=>?_);unfold m_ at k1;obtain⟨k0,k1⟩:=ZE k1;cases k1;have hl:b<σ.length:=gE k0;simp only[c'];rw[if_pos hl,k2]; rfl
 have r0:br GL w ⟨lb,g.M⟩ ⟨g.M,c'⟩ (hp (kN fp σ)) w:={
  keeps:=gY.refl _ _,aR:=r.aR,src:=λb o e=>.inl e,bY:=r.bY
  dD:=λb e=>by
   have e':(kN fp σ)[b]?=none:=e;rw[LM] at e';show c' b=none;simp only[c'];rw[if_neg];intro hb;simp[hb] at e'
  iM:=λb aE e=>by
   have:=cp b aE e;exact⟨_,by show c' b=_; simp only[c']; rw[if_pos this]⟩
  own:=λb aE cb e hl ec hv=>by
   obtain⟨hb,y,hy,rfl⟩:=r_ b aE e hl;obtain⟨vr,q1,q2,q3⟩:=j9 b (wQ b hb);have fW:c' b=some cb:=ec;rw[q2] at fW; cases fW;rw[ab.bH] at hl;obtain⟨p1,p2,o,p3,p4⟩:=r.own b y _ (by rw[q3]; exact hy) hl q1 hv;exact⟨p1,.inl (V4 b hb _ y q1 hy hl hv),o,p3,p4.c7 (p:=λ_=>True) (λx u _ d=>sJ x u d) (ab.all_true _)⟩
  aX:=λb aE cb e hl ec hv=>by
   obtain⟨hb,y,hy,rfl⟩:=r_ b aE e hl;obtain⟨vr,q1,q2,q3⟩:=j9 b (wQ b hb);have fW:c' b=some cb:=ec;rw[q2] at fW; cases fW;rw[ab.bH] at hl;have:=r.aX b y _ (by rw[q3]; exact hy) hl q1 hv;subst this; rfl
  inj:=λb b' aE blk' cb dR e1 e2 l1 l2 c1 c2 v1 v2 gu=>by
   obtain⟨hb,y,hy,rfl⟩:=r_ b aE e1 l1;obtain⟨bZ,y',hy',rfl⟩:=r_ b' blk' e2 l2;obtain⟨vr,q1,q2,q3⟩:=j9 b (wQ b hb);obtain⟨aab,WA,q2',q3'⟩:=j9 b' (wQ b' bZ);have tD:c' b=some cb:=c1;have pg:c' b'=some dR:=c2;rw[q2] at tD; cases tD;rw[q2'] at pg; cases pg;rw[ab.bH] at l1 l2;exact r.inj b b' y y' _ _ (by rw[q3]; exact hy) (by rw[q3']; exact hy') l1 l2 q1 WA v1 v2 gu }
 have Ht:df ⟨g.M,c'⟩ (fZ (m_ σ.length) xs) vs:=by
  refine df.kh (by rw[XA]; exact hx.length) (λi y u e1 e2=>?_);obtain⟨x,q1,rfl⟩:=DK e1;exact sJ x u (hx.get i x u q1 e2)
 obtain⟨fn,c,h1,h2,h3,h4,h5⟩:=ok.ok;have d0:=Y1 Ht (n:=F.n) (by rw[XA,hn]; exact ok.np);refine calls_of_wp h1 h2 ?_;rw[h3];refine wp_mono (h c h4 w ⟨lb,g.M⟩ _ _ w r0 d0) (λe a' w' hl=>?_);have fin:∀ g' ρ σ',(⟨g.M,c'⟩:Gm).Le g'→br GL w ⟨lb,g.M⟩ g' (hp σ') w'→cD F.n g' ρ a'→(gA F.fF ρ σ'=some v∧σ'=τ')→∃ u,(results fn a'.tmps).run P w'=.ok u w'∧(∃ u',Ending.returned u=.returned u'∧∃ g2,g.Le g2 ∧
   br GL w0 L g2 (cq hq ((fp ++ List.range' σ.length k).map λb=>(b,(ah τ' b).c7 (aa.cj (eD ids σ.length k))))) w'∧g2.den (v.cj (eD ids σ.length k)) u'):=by
  rintro g' ρ σ' hle hr hd ⟨mZ,rfl⟩;obtain⟨u,k1,k2⟩:=DB hr hd h5 mZ
  let keys:=fp++List.range' σ.length k
  have rZ:∀b,b∈keys↔b∈fp∨(σ.length≤b∧b<σ.length+k):=by
   intro b; simp only[keys,List.mem_append,List.mem_range'_1]
  let cF:Own:=λb=>if b∈keys then g'.c b else g.c b
  have mW:∀b∈keys,b<σ'.length:=by
   intro b hb;rcases (rZ b).1 hb with q|q
   ·have:=l8 b (wQ b q); omega
   ·omega
  have OS:∀b cb,g.c b=some cb→cF b=some cb:=by
   intro b cb e;simp only[cF];split
   ·rename_i hb;rcases (rZ b).1 hb with q|q
    ·obtain⟨vr,q1,q2,q3⟩:=j9 b (wQ b q);rw[q1] at e; cases e;exact hle.c b _ q2
    ·have hn:hq b=none:=by
      have:=eA (b,_) (List.mem_map.2 ⟨b,hb,rfl⟩);rw[this]; simp[hp]; omega
     rw[r.dD b hn] at e; cases e
   ·exact e
  have yK:∀x u,g'.den x u→Den g'.M cF (x.cj (eD ids σ.length k)) u:=by
   intro x u d;refine d.cj (λb b' cb e1 e2=>?_);unfold eD at e1;obtain⟨e0,e1⟩:=ZE e1;cases e1;by_cases hb:b∈keys
   ·simp only[cF]; rw[if_pos hb]; exact e2
   ·simp only[Bool.or_eq_true,Bool.and_eq_true] at e0;rcases e0 with q|⟨q1,q2⟩
    ·obtain⟨vr,p1,p2,p3⟩:=j9 b (List.contains_iff_mem.1 q);have:=hle.c b vr p2;rw[e2] at this; cases this;exact OS b _ p1
    ·have:=gE q1;have:b<σ.length+k:=gE q2;exact(hb ((rZ b).2 (.inr (by omega)))).elim
  have hF:∀b,cq hq (keys.map λb=>(b,(ah σ' b).c7 (aa.cj (eD ids σ.length k)))) b=if b∈keys then some ((ah σ' b).c7 (aa.cj (eD ids σ.length k))) else hq b:=Sf _ keys hq
  have uA:∀q∈lb,∃b∈fp,∃cb y,g.c b=some cb∧hq b=some y∧y.live=true∧cb.cS=false∧q=cb.aE:=by
   intro q KV;simp only[lb,List.mem_filterMap] at KV;obtain⟨b,hb,e⟩:=KV;obtain⟨vr,q1,_,q3⟩:=j9 b (wQ b hb);rw[q1] at e;cases hs:σ[b]? with
   |none=>rw[hs] at e; cases e
   |some y=>
    rw[hs] at e;obtain⟨e1,e2⟩:=ZE e;simp only[Bool.and_eq_true,Bool.not_eq_true'] at e1;cases e2;exact⟨b,hb,vr,y,q1,by rw[q3]; exact hs,e1.1,e1.2,rfl⟩
  have zZ:∀q∈lb,g.M q=none∧(q∈L.l∨w0.heap.size≤q):=by
   intro q KV;obtain⟨b,hb,cb,y,q1,q2,q3,q4,rfl⟩:=uA q KV;obtain⟨p1,p2,_⟩:=r.own b y cb q2 q3 q1 q4;exact⟨p1,p2⟩
  have mY:∀b aE cb,b∉keys→hq b=some aE→aE.live=true→g.c b=some cb→cb.cS=false→cb.aE∉lb:=by
   intro b aE cb hb e hl ec hv cY;obtain⟨b2,ll,cb2,y,q1,q2,q3,q4,q5⟩:=uA _ cY;have:=r.inj b b2 aE y cb cb2 e q2 hl q3 ec q1 hv q4 q5;subst this;exact hb ((rZ b).2 (.inl ll))
  have dU:=r.keeps.size;have sx:∀b,b∈keys→cF b=g'.c b:=λb hb=>by simp only[cF]; rw[if_pos hb]
  have qN:∀b,b∉keys→cF b=g.c b:=λb hb=>by simp only[cF]; rw[if_neg hb]
  have n7:∀ b,b∈keys→hp σ' b=some (ah σ' b):=λb hb=>JR (mW b hb);refine⟨u,k1,u,rfl,⟨g'.M,cF⟩,⟨hle.m,λb cb e=>OS b cb e⟩,?_,yK v u k2⟩;exact {
   keeps:=r.keeps.trans' hr.keeps.os hr.keeps.tape hr.keeps.output hr.keeps.size (λj hj nJ=>hr.keeps.block j (by omega) (λcY=>by
    rcases (zZ j cY).2 with q|q
    ·exact nJ q
    ·omega))
   aR:=hr.aR
   src:=λb o e=>by
    rcases hr.src b o e with q|q|q
    ·exact r.src b o q
    ·exact .inr (.inl (by omega))
    ·rcases (zZ b q).2 with q|q
     ·exact .inr (.inr q)
     ·exact .inr (.inl q)
   bY:=λp hY=>(r.bY p hY).mono hle.m (fH.refl _)
   dD:=λb e=>by
    rw[hF] at e;split at e
    ·cases e
    ·rename_i hb;show cF b=none;rw[qN b hb]; exact r.dD b e
   iM:=λb aE e=>by
    rw[hF] at e;show ∃cb,cF b=some cb;split at e
    ·rename_i hb;rw[sx b hb]; exact hr.iM b _ (n7 b hb)
    ·rename_i hb;rw[qN b hb]; exact r.iM b aE e
   own:=λb aE cb e hl ec hv=>by
    rw[hF] at e;have fW:cF b=some cb:=ec;split at e
    ·rename_i hb;cases e;rw[ab.bH] at hl;rw[sx b hb] at fW;obtain⟨p1,p2,o,p3,p4⟩:=hr.own b _ cb (n7 b hb) hl fW hv;refine⟨p1,?_,o,p3,p4.c7 (p:=λ_=>True) (λx u _ d=>yK x u d) (ab.all_true _)⟩;rcases p2 with q|q
     ·exact(zZ _ q).2
     ·exact .inr (by omega)
    ·rename_i hb;rw[qN b hb] at fW;obtain⟨p1,p2,o,p3,p4⟩:=r.own b aE cb e hl fW hv;have wU:=r.dw e hl fW hv;have wX:=mY b aE cb hb e hl fW hv;refine⟨?_,p2,o,by rw[hr.keeps.block _ wU wX]; exact p3,p4.mono hle.m (λb cb e=>OS b cb e)⟩;show g'.M cb.aE=none;cases hm:g'.M cb.aE with
     |none=>rfl
     |some x=>
      rcases hr.src _ _ hm with q|q|q
      ·have q:g.M cb.aE=some x:=q;rw[p1] at q; cases q
      ·omega
      ·exact(wX q).elim
   aX:=λb aE cb e hl ec hv=>by
    rw[hF] at e;have fW:cF b=some cb:=ec;split at e
    ·rename_i hb;cases e;rw[ab.bH] at hl;rw[sx b hb] at fW;rw[hr.aX b _ cb (n7 b hb) hl fW hv]; rfl
    ·rename_i hb;rw[qN b hb] at fW;exact r.aX b aE cb e hl fW hv
   inj:=λb b' aE blk' cb dR e1 e2 l1 l2 c1 c2 v1 v2 gu=>by
    rw[hF] at e1 e2;have tD:cF b=some cb:=c1;have pg:cF b'=some dR:=c2;have yi:∀b b' blk' cb dR,b∈keys→b'∉keys→(ah σ' b).live=true→g'.c b=some cb→cb.cS=false→hq b'=some blk'→blk'.live=true→g.c b'=some dR→dR.cS=false→cb.aE=dR.aE→False:=by
     intro b b' blk' cb dR hb bZ hl hc hv e' lq yv qt he;obtain⟨_,p2,_⟩:=hr.own b _ cb (n7 b hb) hl hc hv;have wU:=r.dw e' lq yv qt;have wX:=mY b' blk' dR bZ e' lq yv qt;rcases p2 with q|q
     ·rw[he] at q; exact wX q
     ·omega
    split at e1
    ·rename_i hb;cases e1;rw[ab.bH] at l1;rw[sx b hb] at tD;split at e2
     ·rename_i bZ;cases e2;rw[ab.bH] at l2;rw[sx b' bZ] at pg;exact hr.inj b b' _ _ cb dR (n7 b hb) (n7 b' bZ) l1 l2 tD pg v1 v2 gu
     ·rename_i bZ;rw[qN b' bZ] at pg;exact(yi b b' blk' cb dR hb bZ l1 tD v1 e2 l2 pg v2 gu).elim
    ·rename_i hb;rw[qN b hb] at tD;split at e2
     ·rename_i bZ;cases e2;rw[ab.bH] at l2;rw[sx b' bZ] at pg;exact(yi b' b aE dR cb bZ hb l2 pg v2 e1 l1 tD v1 gu.symm).elim
     ·rename_i bZ;rw[qN b' bZ] at pg;exact r.inj b b' aE blk' cb dR e1 e2 l1 l2 tD pg v1 v2 gu }
 cases e with
 |normal=>obtain⟨g',ρ,σ,k1,k2,k3,k4⟩:=hl; exact⟨k3.defers,fin g' ρ σ k1 k2 k3 k4.2⟩
 |ret=>obtain⟨g',ρ,σ,k1,k2,k3,k4⟩:=hl; exact⟨k3.defers,fin g' ρ σ k1 k2 k3 k4.2⟩
 |exit id=>obtain⟨g',ρ,σ,k1,k2,k3,k4⟩:=hl; rcases k4.1 with q|q<;>cases q
 |_=>exact hl.elim
end
end Go.Ah
end
section
namespace Go.Ah
def W(P:Program)(GL:aw):ak Prop where
 stop:=False
 call k xs σ K:=∃R,mm P GL k xs σ R∧∀v σ',R v σ'→K v σ'
 eJ k xs σ K:=∃v rd up σ',aC P GL k xs (hp σ) v rd up∧gP σ up=some σ'∧K v (rd,up.map (·.1)) σ'
 test v a b:=match v with
  |.bool c=>(c=true→a)∧(c=false→b)
  |_=>False
 loop F vs σ:=∃n,kK False n F vs σ
theorem wa(P:Program)(GL:aw):dY P GL (W P GL) (λp=>p) where
 stop:=λh=>h
 call:=λh=>h
 eJ:=λh=>h
 test:=λ{v a b} h=>by
  simp only[W] at h
  grind
 loop:=λh=>h
section
variable {P:Program} {GL:aw}
theorem lU.zx(hP:P.follows .mixedOrders=true){α:Type}{A:ak α}{hold:α→Prop}(ok:dY P GL A hold){f:FuncId}{np:Nat}{g:eH}(hg:lU P GL f np g){xs:List aa}(hn:xs.length=np){σ:List ab}{ret:aa→List ab→α}(h:hold (g A xs σ ret)) :
  ∃F,kX P GL f F∧F.np=np∧gR P GL F.n F.body (dS xs) σ (λe ρ σ'=>(e=.normal∨e=.ret)∧∃v,gA F.fF ρ σ'=some v∧hold (ret v σ')):=by
 obtain⟨D,h1,h2,h3,h4⟩:=hg.ex;rw[h4 α A xs σ ret hn] at h;exact⟨D.fn,h2,h1,Xcr hP ok h3 h⟩
theorem Yc(hP:P.follows .mixedOrders=true){f:FuncId}{np:Nat}{g:eH}(hg:lU P GL f np g){xs:List aa}(hn:xs.length=np){v:aa}(hv:v.ro=true)(h:g (W P GL) xs [] (λv' _=>v'=v)):dM P GL f xs v:=by
 obtain⟨F,h1,h2,h3⟩:=hg.zx hP (wa P GL) hn h;refine UL h1 (hn.trans h2.symm) hv (h3.mono λe ρ σ k=>?_);simp_all
theorem Qct(hP:P.follows .mixedOrders=true){f:FuncId}{np:Nat}{g:eH}(hg:lU P GL f np g){xs:List aa}(hn:xs.length=np){v:aa}{bs:List ab}(h:g (W P GL) xs [] (λv' σ=>v'=v∧σ=bs)):dh P GL f xs v bs:=by
 obtain⟨F,h1,h2,h3⟩:=hg.zx hP (wa P GL) hn h;refine UK h1 (hn.trans h2.symm) (h3.mono λe ρ σ k=>?_)
 grind
def D5(σ:List ab)(v:aa):Option aa:=match v with
 |.bn vs=>match Xy σ 1000 vs with
  |some (ys,_)=>some (.bn ys)
  |none=>none
 |v=>match Xy σ 1000 [v] with
  |some ([y],_)=>some y
  |_=>none
theorem YdF{σ:List ab}{v y:aa}(hy:D5 σ v=some y){w0:World}{L:Ln}{g:Gm}{w:World}{M2:Nat→Option Obj}(r:br GL w0 L g (hp σ) w)(qp:vN g (hp σ) w M2){u:Value}(hd:g.den v u):Den M2 bg y u:=by
 unfold D5 at hy;split at hy
 ·rename_i vs;split at hy
  ·rename_i ys rd hb;cases hy;have qM:=Y0 _ _ _ _ hb rd (λ_ q=>q);cases hd with
   |bn _ _ us hs hd=>
    have qq:=qM GL w0 L g (hp σ) w M2 r qp (λ_ _=>rfl) us.toList (df.kh (by simp[hs]) (λi x v e1 e2=>hd i x v e1 (by simpa using e2)));exact .bn _ _ _ (by have:=qq.length; simpa using this.symm) (λi x v e1 e2=>qq.get i x v e1 (by simpa using e2))
  ·cases hy
 ·split at hy
  ·rename_i y' rd hb;cases hy;have qM:=Y0 _ _ _ _ hb rd (λ_ q=>q);exact(qM GL w0 L g (hp σ) w M2 r qp (λ_ _=>rfl) [u] ⟨hd,trivial⟩).1
  ·cases hy
theorem UM{f:FuncId}{xs:List aa}{v y:aa}{bs:List ab}(h:dh P GL f xs v bs)(hy:D5 bs v=some y):dM P GL f xs y:=by
 intro w M vs hM hg hx;refine(h w M vs hM hg hx).mono ?_;rintro e w' ⟨u,he,g',hle,r,hd⟩
 let M2:Nat→Option Obj:=λb=>if b<w.heap.size then g'.M b else w'.heap[b]?
 have qp:vN g' (hp bs) w' M2:=by
  refine⟨λb o e=>?_,λb aE cb o e1 e2 e3 e4 e5=>?_⟩
  ·show (if b<w.heap.size then g'.M b else w'.heap[b]?)=some o;split
   ·exact e
   ·exact r.aR b o e
  ·obtain⟨_,cY,_⟩:=r.own b aE cb e1 e2 e3 e4
   grind
 have qq:=YdF hy r qp hd;refine⟨u,he,r.keeps,M2,λb o e=>qp.1 b o (hle b o e),λb o e=>?_,λb o e=>?_,qq⟩
 ·have e':(if b<w.heap.size then g'.M b else w'.heap[b]?)=some o:=e;split at e'
  ·exact r.aR b o e'
  ·exact e'
 ·have e':(if b<w.heap.size then g'.M b else w'.heap[b]?)=some o:=e;split at e'
  ·rcases r.src b o e' with q|q|q<;>simp_all
  ·exact .inr (by omega)
theorem MH(hP:P.follows .mixedOrders=true){f:FuncId}{np:Nat}{g:eH}(hg:lU P GL f np g){xs:List aa}(hn:xs.length=np){y:aa}(h:∃v bs,D5 bs v=some y∧g (W P GL) xs [] (λv' σ=>v'=v∧σ=bs)):dM P GL f xs y:=by
 obtain⟨v,bs,h1,h2⟩:=h;exact UM (Qct hP hg hn h2) h1
theorem WV{k:MK}{xs:List aa}{σ σ':List ab}{v:aa}{rd:List Nat}{up:List (Nat×ab)}(h:aC P GL k xs (hp σ) v rd up)(hu:gP σ up=some σ'):mm P GL k xs σ (λv' s=>v'=v∧s=σ'):=by
 intro o os hc w0 L g w a r hx;have:=h o os hc w0 L g (hp σ) w a r hx (λ_ _=>rfl) (λ_ _=>rfl);rw[ET _ _ _ hu] at this;generalize (execOp a.eval o).run P w=res at this;cases res with
 |ok nx w'=>
  cases nx with
  |value u=>obtain⟨g',k1,k2,k3⟩:=this; exact⟨g',v,σ',⟨rfl,rfl⟩,k1,k2,k3⟩
  |skip=>obtain⟨g',k1,k2,k3⟩:=this; exact⟨g',σ',⟨k3.symm,rfl⟩,k1,k2⟩
  |enter f args=>
   refine Calls.mono this ?_
   grind
  |_=>exact this.elim
 |_=>exact this.elim
theorem YL{k:MK}{xs ys:List aa}{f:FuncId}(hc:Zw k xs=some (f,ys))(hY:Qj P f=true){σ:List ab}{v:aa}{rd:List Nat}{up:List (Nat×ab)}(h:im P GL f ys (hp σ) v rd up):aC P GL k xs (hp σ) v rd up:=by
 unfold Zw at hc
 grind [Zdq,Yc2,Xcw]
theorem Ez{k:MK}{xs ys:List aa}{f:FuncId}(hc:Zw k xs=some (f,ys))(hY:Qj P f=true){σ σ':List ab}{v:aa}{rd:List Nat}{up:List (Nat×ab)}(h:im P GL f ys (hp σ) v rd up)(hu:gP σ up=some σ'){K:aa→List ab→Prop}(hK:K v σ'):(W P GL).call k xs σ K:=
 ⟨_,WV (YL hc hY h) hu,by rintro _ _ ⟨rfl,rfl⟩; exact hK⟩
theorem Ew{k:MK}{xs ys:List aa}{f:FuncId}(hc:Zw k xs=some (f,ys))(hY:Qj P f=true){σ σ':List ab}{v:aa}{rd:List Nat}{up:List (Nat×ab)}(h:im P GL f ys (hp σ) v rd up)(hu:gP σ up=some σ'){K:aa→List Nat×List Nat→List ab→Prop}(hK:K v (rd,up.map (·.1)) σ'):(W P GL).eJ k xs σ K:=
 ⟨v,rd,up,σ',YL hc hY h,hu,hK⟩
theorem Qg(hP:P.follows .mixedOrders=true){k:MK}{xs ys:List aa}{f:FuncId}(hc:Zw k xs=some (f,ys)){np:Nat}{g:eH}(hg:lU P GL f np g)(hn:ys.length=np){σ:List ab}{K:aa→List ab→Prop}(h:g (W P GL) ys σ K):(W P GL).call k xs σ K:=by
 obtain⟨F,h1,h2,h3⟩:=hg.zx hP (wa P GL) hn h;exact⟨K,T4 hc hg.plain h1 (hn.trans h2.symm) h3,λ_ _ q=>q⟩
theorem Xb{k:MK}{xs ys:List aa}{f:FuncId}{v:aa}(h:dM P GL f ys v)(hc:Zw k xs=some (f,ys))(hY:Qj P f=true)(kV:fz ys=true){σ:List ab}{K:aa→List ab→Prop}(hK:K v σ):(W P GL).call k xs σ K:=
 Ez hc hY (h.here kV (hp σ)) (Xi σ) hK
theorem Yh{k:MK}{xs ys:List aa}{f:FuncId}{v:aa}(h:dM P GL f ys v)(hc:Zw k xs=some (f,ys))(hY:Qj P f=true)(kV:fz ys=true){σ:List ab}{K:aa→List Nat×List Nat→List ab→Prop}(hK:K v ([],[]) σ):(W P GL).eJ k xs σ K:=
 Ew hc hY (h.here kV (hp σ)) (Xi σ) hK
theorem ZG{k:MK}{xs ys zs:List aa}{f:FuncId}{v:aa}{rd:List Nat}(h:dM P GL f zs v){σ:List ab}(hc:Zw k xs=some (f,ys))(hY:Qj P f=true)(hb:Xy σ 1000 ys=some (zs,rd))(hv:v.flat=true){K:aa→List ab→Prop}(hK:K v σ):(W P GL).call k xs σ K:=
 Ez hc hY (h.pS (Y0 _ _ _ _ hb _ (λ_ q=>q)) hv) (Xi σ) hK
theorem Xj{ι:Type}(I:ι→List aa→List ab→Prop)(μ:ι→Nat){F:(List aa→List ab→Prop)→List aa→List ab→Prop}(i0:ι){vs:List aa}{σ:List ab}(h0:I i0 vs σ)
 (round:∀i vs σ again,I i vs σ→(∀j IX σ',μ j<μ i→I j IX σ'→again IX σ')→F again vs σ):(W P GL).loop F vs σ:=by
 have key:∀(m:Nat) (i:ι) (vs:List aa) (σ:List ab),μ i<m→I i vs σ→kK False m F vs σ:=by
  intro m
  induction m with
  |zero=>intro i vs σ h; omega
  |succ m ih=>
   intro i vs σ h hI;exact round i vs σ _ hI (λj IX σ' cp hj=>ih j IX σ' (by omega) hj)
 exact⟨_,key (μ i0+1) i0 vs σ (by omega) h0⟩
end
section
variable {P:Program} {GL:aw}
theorem DN(c:Bool)(a b:Prop):(W P GL).test (.bool c) a b=((c=true→a)∧(c=false→b)):=rfl
end
section
variable {α:Type} (A:ak α)
theorem DQ(v:aa)(rd:List Nat)(K:aa→α):A.rd (.ok v rd []) K=K v:=rfl
theorem HN(v:aa)(K:aa→α):A.pu (.ok v [] []) K=K v:=rfl
theorem Mj(v:aa)(rd:List Nat)(up:List (Nat×ab))(σ:List ab)(K:aa→List ab→α):A.wr (.ok v rd up) σ K=A.opt (gP σ up) (K v):=by
 show (match gP σ up with|some σ'=>K v σ'|none=>A.stop)=_;unfold ak.opt; cases gP σ up<;>rfl
theorem Tw(v:aa)(rd:List Nat)(up:List (Nat×ab))(σ:List ab)(K:aa→List Nat×List Nat→List ab→α):A.dr (.ok v rd up) σ K=A.opt (gP σ up) (K v (rd,up.map (·.1))):=by
 show (match gP σ up with|some σ'=>K v _ σ'|none=>A.stop)=_;unfold ak.opt; cases gP σ up<;>rfl
theorem Vl{β:Type}(v:β)(K:β→α):A.opt (some v) K=K v:=rfl
theorem XdF(k:α):A.gd true k=k:=rfl
end
theorem X2{n:Nat}:∀ {a b:List Nat},Qy n (a++b)=true→Qy n a=true∧Qy n b=true
 |[],_,h=>⟨rfl,h⟩
 |x::a,b,h=>by
  simp only[List.cons_append,Qy,Bool.and_eq_true] at h;obtain⟨h1,h2⟩:=X2 h.2;exact⟨by simp[Qy,h.1,h1],h2⟩
def ID{α:Type}(stop:α)(v:aa)(a b:α):α:=match v with
 |.bool true=>a
 |.bool false=>b
 |_=>stop
abbrev CG:=FuncId→List aa→List ab→Option (aa×List ab)
def Ui(cg:CG)(f:FuncId)(ys:List aa)(σ:List ab):Option (aa × List ab):=bif Qy σ.length (gW ys) then (match cg f (fZ (m_ σ.length) ys) (XM σ) with
 | some (v,σ')=>(match Y5 σ.length σ' with
  |some news=>some (v,news)
  | none=>none)
 | none=>none) else none
def QdO:ab→List Nat
 |.box row=>gW row
 |.rows _ rs=>rs.flatMap gW
 |_=>[]
def E3(σ:List ab):Nat→List Nat→List Nat→List Nat
 |0,_,seen=>seen
 |_+1,[],seen=>seen
 |n+1,b::r,seen=>bif sc b seen then E3 σ n r seen else E3 σ n (QdO (ah σ b)++r) (b::seen)
def EY(cg:CG)(f:FuncId)(ys:List aa)(σ:List ab)(ids:List Nat):az:=bif Qy σ.length (gW ys) && Qy σ.length ids then (match cg f (fZ (m_ σ.length) ys) (kN ids σ) with
 |some (v,τ)=>bif Nat.ble σ.length τ.length then .ok (v.cj (eD ids σ.length (τ.length-σ.length))) ids ((ids++List.range' σ.length (τ.length-σ.length)).map λb=>(b,(ah τ b).c7 (aa.cj (eD ids σ.length (τ.length-σ.length))))) else .stop
 | none=>.stop) else .stop
def Me(cg:CG)(k:MK)(xs:List aa)(σ:List ab):az:=match Zw k xs with
 |none=>.stop
 | some (f,ys)=>bif fz ys then (match cg f ys [] with
   |some (v,bs)=>bif v.ro then .ok v [] [] else .ok (v.cj (ZK σ.length)) [] (ZB σ.length (QA σ.length bs))
   | none=>.stop)
  else match Ui cg f ys σ with
  |some (v,news)=>bif v.ro then .ok (v.cj (eD (gW ys) σ.length 0)) (gW ys) [] else .ok (v.cj (eD (gW ys) σ.length news.length)) (gW ys) (ZB σ.length (news.map (ab.c7 (aa.cj (eD (gW ys) σ.length news.length)))))
  |none=>match Xy σ 1000 ys with
   | some (zs,rd)=>(match cg f zs [] with
    |some (v,bs)=>bif v.flat&&v.ro then .ok v rd [] else bif v.c8&&xM bs then .ok (v.cj (ZK σ.length)) rd (ZB σ.length (QA σ.length bs)) else EY cg f ys σ (E3 σ 1000 (gW ys) [])
    | none=>EY cg f ys σ (E3 σ 1000 (gW ys) []))
   |none=>EY cg f ys σ (E3 σ 1000 (gW ys) [])
def Cl(much:Nat)(cg:CG):ak (Option (aa×List ab)) where
 stop:=none
 call k xs σ K:=match Zw k xs with
  |some (f,ys)=>match cg f ys σ with
   |some (v,σ')=>K v σ'
   |none=>none
  |none=>none
 eJ k xs σ K:=match Me cg k xs σ with
  |.ok v rd up=>match gP σ up with
   |some σ'=>K v (rd,up.map (·.1)) σ'
   |none=>none
  |.stop=>none
 test:=ID none
 loop F vs σ:=kK none much F vs σ
section
variable {P:Program} {GL:aw}
def o_(P:Program)(GL:aw)(cg:CG):Prop:=∀f xs σ v σ',cg f xs σ=some (v,σ')→Qj P f=true∧(∀k ys,Zw k ys=some (f,xs)→mm P GL k ys σ (λv' s=>v'=v∧s=σ')) ∧
 (σ=[]→dh P GL f xs v σ'∧(v.ro=true→dM P GL f xs v)) ∧
 (fz xs=false→∃F,kX P GL f F∧F.np=xs.length∧gR P GL F.n F.body (dS xs) σ (λe ρ s=>(e=.normal∨e=.ret)∧∃v',gA F.fF ρ s=some v'∧v'=v∧s=σ'))
theorem o_.uQ{cg:CG}(h:o_ P GL cg){f:FuncId}{xs:List aa}{v:aa}{bs:List ab}(hc:cg f xs []=some (v,bs)):dh P GL f xs v bs:=((h f xs [] v bs hc).2.2.1 rfl).1
theorem o_.yV{cg:CG}(h:o_ P GL cg){f:FuncId}{xs:List aa}{v:aa}{bs:List ab}(hc:cg f xs []=some (v,bs))(hv:v.ro=true):dM P GL f xs v:=((h f xs [] v bs hc).2.2.1 rfl).2 hv
theorem Zb0{f:FuncId}{xs:List aa}{σ σ':List ab}{v:aa}{F:sT}(hY:Qj P f=true)(h1:kX P GL f F)(h2:F.np=xs.length)(h3:gR P GL F.n F.body (dS xs) σ (λe ρ s=>(e=.normal∨e=.ret)∧∃v',gA F.fF ρ s=some v'∧v'=v∧s=σ')) :
  Qj P f=true∧(∀k ys,Zw k ys=some (f,xs)→mm P GL k ys σ (λv' s=>v'=v∧s=σ'))∧(σ=[]→dh P GL f xs v σ'∧(v.ro=true→dM P GL f xs v)) ∧
  (fz xs=false→∃F,kX P GL f F∧F.np=xs.length∧gR P GL F.n F.body (dS xs) σ (λe ρ s=>(e=.normal∨e=.ret)∧∃v',gA F.fF ρ s=some v'∧v'=v∧s=σ')):=by
 refine⟨hY,λk ys hc=>T4 hc hY h1 h2.symm h3,λhσ=>?_,λ_=>⟨F,h1,h2,h3⟩⟩;subst hσ;refine⟨UK h1 h2.symm (h3.mono λe ρ s k=>?_),λhv=>UL h1 h2.symm hv (h3.mono λe ρ s k=>?_)⟩
 ·obtain⟨k1,v',k2,rfl,rfl⟩:=k;exact⟨k1,k2,rfl⟩
 ·obtain⟨k1,v',k2,rfl,rfl⟩:=k;exact⟨k1,k2⟩
mutual
theorem aa.km {n:Nat}:∀ {x:aa},Qy n x.ids=true→(x.cj (m_ n)).ro=true→x.ro=true
 |.ai b j,h,k=>by
  grind [aa.ids,Qy,aa.cj,m_]
 |.ptr b i j,h,k=>by
  grind [aa.ids,Qy,aa.cj,m_]
 |.sl b o l e,h,k=>by
  grind [aa.ids,Qy,aa.cj,m_]
 |.map b,h,k=>by
  grind [aa.ids,Qy,aa.cj,m_]
 |.iter b,h,k=>by
  grind [aa.ids,Qy,aa.cj,m_]
 |.func fn xs ys,h,k=>by
  simp only[aa.ids] at h
  obtain⟨a,b⟩:=X2 h
  simp only[aa.cj,aa.ro,Bool.and_eq_true] at k ⊢
  exact⟨XU a k.1,XU b k.2⟩
 |.iface t v,h,k=>aa.km (x:=v) h k
 |.agg cs,h,k=>XU (xs:=cs) h k
 |.bn cs,h,k=>XU (xs:=cs) h k
 |.when cs x,h,k=>aa.km (x:=x) h k
 |.aF,_,_=>rfl
 |.bool _,_,_=>rfl
 |.int _ _,_,_=>rfl
 |.str _,_,_=>rfl
 |.ei,_,_=>rfl
 |.ao _ _,_,_=>rfl
 |.aq,_,_=>rfl
 |.cK,_,_=>rfl
 |.ax _ _ _ _,_,_=>rfl
 |.eN _,_,_=>rfl
 |.cB,_,_=>rfl
 |.bx,_,_=>rfl
 |.cV,_,_=>rfl
theorem XU {n:Nat}:∀ {xs:List aa},Qy n (gW xs)=true→fz (fZ (m_ n) xs)=true→fz xs=true
 |[],_,_=>rfl
 |x::xs,h,k=>by
  simp only[gW] at h
  obtain⟨a,b⟩:=X2 h
  simp only[fZ,fz,Bool.and_eq_true] at k ⊢
  exact⟨aa.km a k.1,XU b k.2⟩
end
theorem Rw{n:Nat}{xs:List aa}(h:Qy n (gW xs)=true)(k:fz xs=false):fz (fZ (m_ n) xs)=false:=by
 grind [XU]
theorem Mm{cg:CG}(h:o_ P GL cg){k:MK}{f:FuncId}{xs ys:List aa}{σ:List ab}{ids:List Nat}(hc:Zw k xs=some (f,ys))(sE:fz ys=false){v:aa}{rd:List Nat}{up:List (Nat×ab)}(e:EY cg f ys σ ids=.ok v rd up):aC P GL k xs (hp σ) v rd up:=by
 unfold EY at e
 replace e:=Yk e
 obtain⟨hb,e⟩:=e;simp only[Bool.and_eq_true] at hb;split at e
 ·rename_i v' τ j7
  replace e:=Yk e
  obtain⟨hle,e⟩:=e;obtain⟨G',_,_,hF⟩:=h f _ _ _ _ j7;obtain⟨F,f1,f2,f3⟩:=hF (Rw hb.1 sE);cases e;have hn:ys.length=F.np:=by rw[f2,XA]
  have:=gE hle;exact YL hc G' (SD f1 hn σ ids ids (λ_ q=>q) (JB hb.2) rfl rfl (f3.mono λe ρ s k=>by
   grind) (by omega))
 ·cases e
theorem QcN{cg:CG}(h:o_ P GL cg){k:MK}{xs:List aa}{σ:List ab}{v:aa}{rd:List Nat}{up:List (Nat×ab)}(e:Me cg k xs σ=.ok v rd up):aC P GL k xs (hp σ) v rd up:=by
 unfold Me at e;split at e
 ·cases e
 ·rename_i f ys hc;have jl:∀(bs:List ab) (i:Nat),i<bs.length→hp σ (σ.length+i)=none:=λbs i _=>by simp[hp]
  replace e:=ZR e
  rcases e with ⟨kV,e⟩|⟨sE,e⟩
  ·split at e
   ·rename_i v' bs hv
    replace e:=ZR e
    rcases e with ⟨Hq,e⟩|⟨_,e⟩
    ·cases e; exact YL hc (h f ys [] _ _ hv).1 ((h.yV hv Hq).here kV _)
    ·cases e; exact YL hc (h f ys [] _ _ hv).1 ((h.uQ hv).here kV (jl bs))
   ·cases e
  ·split at e
   ·rename_i v' news hd;unfold Ui at hd;obtain⟨zM,hd⟩:=ZE hd;split at hd
    ·rename_i v2 σ' j7;split at hd
     ·rename_i Ww pJ;cases hd;obtain⟨G',_,_,hF⟩:=h f _ _ _ _ j7;obtain⟨F,f1,f2,f3⟩:=hF (Rw zM sE);have:=RA _ _ _ pJ;subst this;have hw:gR P GL F.n F.body (dS (fZ (m_ σ.length) ys)) (XM σ) (λe ρ s=>(e=.normal∨e=.ret)∧gA F.fF ρ s=some v'∧s=XM σ++news):=f3.mono λe ρ s k=>by
       grind
      have hn:ys.length=F.np:=by rw[f2,XA]
      replace e:=ZR e
      rcases e with ⟨_,e⟩|⟨_,e⟩
      ·cases e;exact YL hc G' (UJ f1 hn σ (gW ys) (JB zM) (bs:=[]) (.inr rfl) hw)
      ·cases e;exact YL hc G' (UJ f1 hn σ (gW ys) (JB zM) (bs:=news) (.inl rfl) hw)
     ·cases hd
    ·cases hd
   split at e
   ·rename_i zs kl hb;split at e
    ·rename_i v' bs hv
     replace e:=ZR e
     rcases e with ⟨Hq,e⟩|⟨_,e⟩
     ·simp only[Bool.and_eq_true] at Hq;cases e;exact YL hc (h f zs [] _ _ hv).1 ((h.yV hv Hq.2).pS (Y0 _ _ _ _ hb _ (λ_ q=>q)) Hq.1)
     ·replace e:=ZR e
      rcases e with ⟨Pd,e⟩|⟨_,e⟩
      ·simp only[Bool.and_eq_true] at Pd;cases e;exact YL hc (h f zs [] _ _ hv).1 ((h.uQ hv).pS (Y0 _ _ _ _ hb _ (λ_ q=>q)) Pd.1 Pd.2 (jl bs))
      ·exact Mm h hc sE e
    ·exact Mm h hc sE e
   ·exact Mm h hc sE e
theorem Eo{cg:CG}(h:o_ P GL cg)(much:Nat)(r:aa×List ab):dY P GL (Cl much cg) (λo=>o=some r) where
 stop:=λe=>by cases e
 call:=λ{k xs σ K} e=>by
  simp only[Cl] at e;split at e
  ·rename_i f ys hc;split at e
   ·rename_i v σ' hv;obtain⟨_,h1,_⟩:=h f ys σ v σ' hv
    grind
   ·cases e
  ·cases e
 eJ:=λ{k xs σ K} e=>by
  grind [Cl,QcN]
 test:=λ{v a b} e=>by
  simp only[Cl,ID] at e
  grind
 loop:=λ{F vs σ} e=>⟨much,e⟩
def tS(much:Nat)(G:Nat→Option (Nat×eH)):Nat→CG
 |0,_,_,_=>none
 |d+1,f,xs,σ=>match G f with
  |some (np,g)=>bif Nat.beq xs.length np then g (Cl much (tS much G d)) xs σ (λv σ=>some (v,σ)) else none
  |none=>none
theorem R2(hP:P.follows .mixedOrders=true){much:Nat}{G:Nat→Option (Nat×eH)}(hG:∀f np g,G f=some (np,g)→lU P GL f np g):∀d,o_ P GL (tS much G d)
 |0=>λf xs σ v σ' h=>by cases h
 |d+1=>λf xs σ v σ' h=>by
  unfold tS at h;split at h
  ·rename_i np g hg;obtain⟨hn,h⟩:=ZE h;have ja:=e9 hn;obtain⟨F,h1,h2,h3⟩:=(hG f np g hg).zx hP (Eo (R2 hP hG d) much (v,σ')) ja h;refine Zb0 (hG f np g hg).plain h1 (h2.trans ja.symm) (h3.mono λe ρ s k=>?_);simp_all
  ·cases h
end
theorem Vd{P:Program}{GL:aw}(hP:P.follows .mixedOrders=true){much:Nat}{G:Nat→Option (Nat×eH)}(hG:∀f np g,G f=some (np,g)→lU P GL f np g)(d:Nat){f:FuncId}{xs:List aa}{y:aa}(h:((tS much G d f xs []).bind λp=>D5 p.2 p.1)=some y):dM P GL f xs y:=by
 cases hc:tS much G d f xs [] with
 |none=>rw[hc] at h; cases h
 |some p=>
  obtain⟨v,bs⟩:=p;rw[hc] at h;exact UM ((R2 hP hG d).uQ hc) h
end Go.Ah
end
section
namespace Go.Ah
@[reducible] def h0(v:List aa):aa:=oZ v
@[reducible] def h1(v:List aa):aa:=oZ (iL v)
@[reducible] def h2(v:List aa):aa:=oZ (iL (iL v))
@[reducible] def h3(v:List aa):aa:=oZ (iL (iL (iL v)))
@[reducible] def h4(v:List aa):aa:=oZ (iL (iL (iL (iL v))))
@[reducible] def h5(v:List aa):aa:=oZ (iL (iL (iL (iL (iL v)))))
@[reducible] def h6(v:List aa):aa:=oZ (iL (iL (iL (iL (iL (iL v))))))
@[reducible] def h7(v:List aa):aa:=oZ (iL (iL (iL (iL (iL (iL (iL v)))))))
@[reducible] def h8(v:List aa):aa:=h7 (iL v)
@[reducible] def h9(v:List aa):aa:=h8 (iL v)
@[reducible] def h10(v:List aa):aa:=h9 (iL v)
@[reducible] def h11(v:List aa):aa:=h10 (iL v)
@[reducible] def h12(v:List aa):aa:=h11 (iL v)
def xt:List aa:=(List.range 256).map λi=>aa.int .u8 (match (Nat.ble 9 i&&Nat.ble i 13)||Nat.beq i 32 with|true=>1|false=>0)
def aK:aw:=[(1,xt)]
end Go.Ah
end
section
namespace Go.Ah
section
variable (σ:List ab)
attribute [simp] DN DQ HN Mj Tw Vl XdF oZ iL
@[simp] theorem Js(P:Program)(GL:aw):(W P GL).stop=False:=rfl
@[simp] theorem Xd6{α:Type}(f:(List aa→List ab→α)→α)(k:List aa→List ab→α):aH f k=f k:=rfl
@[simp] theorem KG{α:Type}(A:ak α)(b w:Bool)(r:α)(s:List (Bool×Bool)→α):A.gx (.bool b) w r s=A.test (.bool b) (bif w then r else s [(true,w)]) (bif w then s [(false,w)] else r):=rfl
@[simp] theorem VH{α:Type}(A:ak α)(c:aa)(w:Bool)(r:(aa→α)→α)(K:aa→α):A.gr c w r K=A.gx c w (r K) (λcs=>K (rH cs)):=rfl
@[simp] theorem VI{α:Type}(A:ak α)(c:aa)(w:Bool)(r:(aa→List ab→α)→α)(σ:List ab)(K:aa→List ab→α):A.gw c w r σ K=A.gx c w (r K) (λcs=>K (rH cs) σ):=rfl
@[simp] theorem VG{α:Type}(A:ak α)(c:aa)(w:Bool)(r:(aa→List Nat×List Nat→List ab→α)→α)(σ:List ab)(K:aa→List Nat×List Nat→List ab→α):A.gl c w r σ K=A.gx c w (r K) (λcs=>K (rH cs) ([],[]) σ):=rfl
@[simp] theorem KH{α:Type}(A:ak α)(cs:List (Bool×Bool))(q w:Bool)(r:α)(s:List (Bool×Bool)→α):A.gx (.when cs (.bool q)) w r s=match vo.ff cs with
  |true=>s (cs++[(q,w)])
  |false=>A.stop:=rfl
attribute [simp] vo.ff
@[simp] theorem aac(x:aa):Q9 [x] σ=.ok x [] []:=rfl
@[simp] theorem N5(b:Bool)(x y:aa):Ym [.bool b,x,y] σ=.ok (bif b then x else y) [] []:=by cases b<;>rfl
@[simp] theorem Zh(e n:Bool)(s:Nat)(rows:List (List aa)):Yp [.ax e n s rows] σ=.ok (.int .i64 rows.length) [] []:=rfl
@[simp] theorem ZdE:Yp [.aq] σ=.ok (.int .i64 0) [] []:=rfl
@[simp] theorem QdD:Yp [.cK] σ=.ok (.int .i64 0) [] []:=rfl
@[simp] theorem QdT(b o n:Nat)(e:Bool):Yp [.sl b o n e] σ=.ok (.int .i64 n) [] []:=rfl
@[simp] theorem Yd6(s:List UInt8):YS [.str s] σ=.ok (.int .i64 s.length) [] []:=rfl
@[simp] theorem N1(n:Nat)(x:aa):Jd n [x] σ=.ok (.int .i64 n) [] []:=rfl
@[simp] theorem YdX(k:IntKind):jc k k=true:=by cases k<;>rfl
section
variable (ib:Bool) (k:IntKind) (a b:Int)
@[simp] theorem Yj:Qn .add ib [.int k a,.int k b] σ=.ok (.int k (k.wrap (a+b))) [] []:=by simp[Qn,lf]
@[simp] theorem sV:Qn .sub ib [.int k a,.int k b] σ=.ok (.int k (k.wrap (a-b))) [] []:=by simp[Qn,lf]
@[simp] theorem Uy:Qn .mul ib [.int k a,.int k b] σ=.ok (.int k (k.wrap (a*b))) [] []:=by simp[Qn,lf]
@[simp] theorem Zf:Qn .eql ib [.int k a,.int k b] σ=.ok (.bool (decide (a=b))) [] []:=by
 simp[Qn,lf]; exact Bool.eq_iff_iff.2 (by simp)
@[simp] theorem XZ:Qn .neq ib [.int k a,.int k b] σ=.ok (.bool (decide (a≠b))) [] []:=by
 simp[Qn,lf]; exact Bool.eq_iff_iff.2 (by simp)
@[simp] theorem YZ:Qn .lss ib [.int k a,.int k b] σ=.ok (.bool (decide (a<b))) [] []:=by simp[Qn,lf]
@[simp] theorem JN:Qn .leq ib [.int k a,.int k b] σ=.ok (.bool (decide (a≤b))) [] []:=by simp[Qn,lf]
@[simp] theorem Z9:Qn .gtr ib [.int k a,.int k b] σ=.ok (.bool (decide (b<a))) [] []:=by simp[Qn,lf]
@[simp] theorem X5:Qn .geq ib [.int k a,.int k b] σ=.ok (.bool (decide (b≤a))) [] []:=by simp[Qn,lf]
end
@[simp] theorem Xf(ib:Bool)(a b:List UInt8):Qn .eql ib [.str a,.str b] σ=.ok (.bool (a==b)) [] []:=rfl
@[simp] theorem N4(ib:Bool)(a b:List UInt8):Qn .neq ib [.str a,.str b] σ=.ok (.bool (!(a==b))) [] []:=rfl
@[simp] theorem NX(a b:Bool):Qn .eql true [.bool a,.bool b] σ=.ok (.bool (a==b)) [] []:=rfl
@[simp] theorem XdU(a b:Bool):Qn .neq true [.bool a,.bool b] σ=.ok (.bool (!(a==b))) [] []:=rfl
@[simp] theorem VE(b:Bool):pd .not [.bool b] σ=.ok (.bool (!b)) [] []:=rfl
@[simp] theorem VD(k:IntKind)(n:Int):pd .neg [.int k n] σ=.ok (.int k (k.wrap (0-n))) [] []:=rfl
@[simp] theorem UC(k k':IntKind)(n:Int):DI k [.int k' n] σ=.ok (.int k (k.wrap n)) [] []:=rfl
@[simp] theorem ZdU(t:TypeId)(x:aa):XE t [x] σ=.ok (.iface t x) [] []:=rfl
@[simp] theorem ZM(k k':IntKind)(a b:Int):EV [.int k a,.int k' b] σ=.ok (.int k (min a b)) [] []:=by
 simp only[EV]; congr 2; omega
@[simp] theorem X6(k k':IntKind)(a b:Int):Fb [.int k a,.int k' b] σ=.ok (.int k (max a b)) [] []:=by
 simp only[Fb]; congr 2; omega
@[simp] theorem Kx(b j:Nat):Zi [.ai b j] σ=.ok (.ai b j) [] []:=rfl
@[simp] theorem Kz(b i j:Nat):Zi [.ptr b i j] σ=.ok (.ptr b i j) [] []:=rfl
@[simp] theorem KA(row:List aa)(j:Nat):Zi [.ao row j] σ=.ok (.ao row j) [] []:=rfl
@[simp] theorem Ky(f:FuncId)(a b:List aa):Zi [.func (.func f) a b] σ=.ok (.func (.func f) a b) [] []:=rfl
@[simp] theorem NY(o b j:Nat):Ze o [.ai b j] σ=.ok (.ai b (j+o)) [] []:=rfl
@[simp] theorem NZ(o b i j:Nat):Ze o [.ptr b i j] σ=.ok (.ptr b i (j+o)) [] []:=rfl
@[simp] theorem N0(o:Nat)(row:List aa)(j:Nat):Ze o [.ao row j] σ=.ok (.ao row (j+o)) [] []:=rfl
@[simp] theorem Kw(agg:Bool)(o n:Nat)(cs:List aa):Z5 agg o n [.agg cs] σ=(match aL agg o n cs with
   |some v=>.ok v [] []
   | none=>.stop):=rfl
attribute [simp] aL takeN iB nth
@[simp] theorem XdT(i:Nat)(vs:List aa):Ql i [.bn vs] σ=(match nth vs i with
   |some v=>.ok v [] []
   | none=>.stop):=rfl
@[simp] theorem Qd5(len lL b j:Nat)(k:IntKind)(i:Nat):Yt len lL [.ai b j,.int k (@OfNat.ofNat Int i _)] σ=bif Nat.blt i len then .ok (.ai b (j+i*lL)) [] [] else .stop:=rfl
@[simp] theorem Zd6(len lL:Nat)(row:List aa)(j:Nat)(k:IntKind)(i:Nat):Yt len lL [.ao row j,.int k (@OfNat.ofNat Int i _)] σ=bif Nat.blt i len then .ok (.ao row (j+i*lL)) [] [] else .stop:=rfl
theorem F8(e n:Bool)(s:Nat)(rows:List (List aa))(k:IntKind)(i:Nat)(row:List aa)(h:rows[i]?=some row):Zm s [.ax e n s rows,.int k (i:Int)] σ=.ok (.ao row 0) [] []:=by
 show (bif Nat.beq s s then (match nth rows i with
   |some row=>az.ok (.ao row 0) [] []
   | none=>.stop) else .stop)=_
 rw[Nat.beq_refl,Y7,h]; rfl
theorem Zp{α:Type}(f:α→List aa)(e n:Bool)(s:Nat)(l:List α)(k:IntKind)(i:Nat)(h:i<l.length):Zm s [.ax e n s (l.map f),.int k (i:Int)] σ=.ok (.ao (f l[i]) 0) [] []:=
 F8 σ e n s _ k i _ (by simp[h])
theorem rI(b o len:Nat)(ex:Bool)(s:Nat)(rows:List (List aa))(k:IntKind)(i:Nat)(h:i<len)(hb:ah σ b=.rows s rows):Zm s [.sl b o len ex,.int k (i:Int)] σ=.ok (.ptr b (o+i) 0) [b] []:=by
 show (bif Nat.blt i len then (match ah σ b with
   |.rows s' _=>bif Nat.beq s' s then az.ok (.ptr b (o+i) 0) [b] [] else .stop
   | _=>.stop) else .stop)=_
 rw[show Nat.blt i len=true from Nat.ble_eq_true_of_le h,hb];simp
theorem Ub(s:List UInt8)(k:IntKind)(i:Nat)(h:i<s.length):QO [.str s,.int k (i:Int)] σ=.ok (.int .u8 s[i].toNat) [] []:=by
 show (match nth s i with
   |some c=>az.ok (.int .u8 c.toNat) [] []
   | none=>.stop)=_
 rw[Y7,List.getElem?_eq_getElem h]
@[simp] theorem Tk(agg:Bool)(n:Nat)(row:List aa)(j:Nat):Xh agg n [.ao row j] σ=(match aL agg j n row with
   |some v=>.ok v [] []
   | none=>.stop):=rfl
@[simp] theorem Qdj(agg:Bool)(n b j:Nat):Xh agg n [.ai b j] σ=(match ah σ b with
   |.box row=>match aL agg j n row with
    |some v=>.ok v [b] []
    |none=>.stop
   | _=>.stop):=rfl
attribute [simp] ah gP YM cr cellsOf aa.cell
@[simp] theorem ZdD(z:List aa):Zy z [] σ=.ok (.ai σ.length 0) [] [(σ.length,.box z)]:=rfl
@[simp] theorem VC(x:aa):tl [x] σ=(match cellsOf x with
   |some cs=>.ok (.ai σ.length 0) [] [(σ.length,.box cs)]
   | none=>.stop):=rfl
@[simp] theorem QcQ(n b j:Nat)(x:aa):Qm n [.ai b j,x] σ=(match ah σ b with
   |.box row=>match cellsOf x with
    | some cs=>bif Nat.beq cs.length n then (match cr j cs row with
     |some row'=>.ok .aF [] [(b,.box row')]
     | none=>.stop) else .stop
    |none=>.stop
   | _=>.stop):=rfl
end
end Go.Ah
end
section
namespace Go.Ah
structure xL (σ σ2:List ab) (m:Nat→Option Nat):Prop where
 inj:∀b b' k,m b=some k→m b'=some k→b=b'
 Wp:∀b k,m b=some k→∃aE,σ[b]?=some aE∧σ2[k]?=some (aE.c7 (aa.cj m))
 qp:∀k,k<σ2.length→∃b,m b=some k
theorem br.HR{GL:aw}{w0:World}{L:Ln}{g:Gm}{w:World}{σ σ2:List ab}{m:Nat→Option Nat}(r:br GL w0 L g (hp σ) w)(ok:xL σ σ2 m) :
  ∃c2,(∀x v,g.den x v→Den g.M c2 (x.cj m) v)∧br GL w0 L ⟨g.M,c2⟩ (hp σ2) w:=by
 classical
 let c2:Own:=λk=>if h:∃b,m b=some k then g.c (Classical.choose h) else none
 have j7:∀b k,m b=some k→c2 k=g.c b:=by
  intro b k e;have h:∃b,m b=some k:=⟨b,e⟩;show (if h:∃b,m b=some k then g.c (Classical.choose h) else none)=_;rw[dif_pos h,ok.inj _ _ _ (Classical.choose_spec h) e]
 have cI:∀x v,g.den x v→Den g.M c2 (x.cj m) v:=λx v d=>Den.cj d λb b' cb e1 e2=>by rw[j7 b b' e1]; exact e2
 have back:∀k aE,hp σ2 k=some aE→∃b blk0,m b=some k∧hp σ b=some blk0∧aE=blk0.c7 (aa.cj m):=by
  intro k aE e;have hk:k<σ2.length:=(gn e).1;obtain⟨b,hb⟩:=ok.qp k hk;obtain⟨blk0,e1,e2⟩:=ok.Wp b k hb;refine⟨b,blk0,hb,e1,?_⟩;have e':σ2[k]?=some aE:=e;simp_all
 refine⟨c2,cI,?_⟩;exact {
  keeps:=r.keeps
  aR:=r.aR
  src:=r.src
  bY:=r.bY
  dD:=λk e=>by
   show (if h:∃b,m b=some k then g.c (Classical.choose h) else none)=none;rw[dif_neg];rintro⟨b,hb⟩;obtain⟨blk0,e1,e2⟩:=ok.Wp b k hb;have e':σ2[k]?=none:=e;rw[e2] at e'; cases e'
  iM:=λk aE e=>by
   obtain⟨b,blk0,h1,h2,_⟩:=back k aE e;obtain⟨cb,sy⟩:=r.iM b blk0 h2
   grind
  own:=λk aE cb e hl ec hv=>by
   obtain⟨b,blk0,h1,h2,rfl⟩:=back k aE e;rw[ab.bH] at hl;have fW:g.c b=some cb:=by rw[←j7 b k h1]; exact ec
   obtain⟨q1,q2,o,q3,q4⟩:=r.own b blk0 cb h2 hl fW hv;exact⟨q1,q2,o,q3,q4.c7 (p:=λ_=>True) (λx v _ d=>cI x v d) (ab.all_true _)⟩
  aX:=λk aE cb e hl ec hv=>by
   obtain⟨b,blk0,h1,h2,rfl⟩:=back k aE e;rw[ab.bH] at hl;have fW:g.c b=some cb:=by rw[←j7 b k h1]; exact ec
   have:=r.aX b blk0 cb h2 hl fW hv;subst this;rfl
  inj:=λk k' x x' qo cb2 e1 e2 l1 l2 c1 pg v1 v2 gu=>by
   obtain⟨b,y,h1,h2,rfl⟩:=back k x e1;obtain⟨b',y',yr,N_,rfl⟩:=back k' x' e2;rw[ab.bH] at l1 l2;have ec1:g.c b=some qo:=by rw[←j7 b k h1]; exact c1
   have ec2:g.c b'=some cb2:=by rw[←j7 b' k' yr]; exact pg
   have:=r.inj b b' y y' qo cb2 h2 N_ l1 l2 ec1 ec2 v1 v2 gu;simp_all }
def Tidy(σ:List ab)(v:aa)(σ2:List ab)(v2:aa):Prop:=
 ∀(GL:aw) (w0:World) (L:Ln) (g:Gm) (w:World),br GL w0 L g (hp σ) w→∀u,g.den v u→∃c2,br GL w0 L ⟨g.M,c2⟩ (hp σ2) w∧Den g.M c2 v2 u
theorem Tidy.refl(σ:List ab)(v:aa):Tidy σ v σ v:=λ_ _ _ g _ r _ d=>⟨g.c,r,d⟩
theorem Tidy.trans{σ σ2 σ3:List ab}{v v2 v3:aa}(h:Tidy σ v σ2 v2)(k:Tidy σ2 v2 σ3 v3):Tidy σ v σ3 v3:=by
 intro GL w0 L g w r u d;obtain⟨c2,r2,d2⟩:=h GL w0 L g w r u d;obtain⟨c3,r3,d3⟩:=k GL w0 L ⟨g.M,c2⟩ w r2 u d2;exact⟨c3,r3,d3⟩
theorem Tidy.cj{σ σ2:List ab}{m:Nat→Option Nat}(ok:xL σ σ2 m)(v:aa):Tidy σ v σ2 (v.cj m):=by
 intro GL w0 L g w r u d;obtain⟨c2,h1,h2⟩:=r.HR ok;exact⟨c2,h2,h1 v u d⟩
theorem Tidy.cy{σ:List ab}{v v2:aa}(h:∀(M:Nat→Option Obj) (c:Own) (u:Value),Den M c v u→Den M c v2 u):Tidy σ v σ v2:=λ_ _ _ g _ r u d=>⟨g.c,r,h _ _ _ d⟩
theorem QdF(σ:List ab)(b:ab):eA (hp σ) σ.length b=hp (σ++[b]):=by
 funext n
 simp only[eA,hp]
 grind
theorem Tidy.ghost{σ:List ab}{v:aa}(sz:Nat)(h:v=.aq∨v=.cK):Tidy σ v (σ++[.rows sz []]) (.sl σ.length 0 0 false):=by
 intro GL w0 L g w r u d;have r2:=r.ghost (vY σ) sz;rw[QdF] at r2;have hs:∃a,u=.slice a 0 0:=by
  rcases h with rfl|rfl
  ·cases d; exact⟨_,rfl⟩
  ·cases d; exact⟨_,rfl⟩
 obtain⟨a,rfl⟩:=hs;exact⟨_,r2,.nO _ _ _ _ _ (Xz _ _ _) rfl⟩
theorem Tidy.one{σ:List ab}{b:Nat}{aE:ab}(hb:σ[b]?=some aE)(m:Nat→Option Nat)(hm:∀n,m n=if n=b then some 0 else none)(v:aa):Tidy σ v [aE.c7 (aa.cj m)] (v.cj m):=by
 have key:∀x k,m x=some k→x=b∧k=0:=by
  intro x k e;rw[hm] at e;split at e
  ·cases e; exact⟨by assumption,rfl⟩
  ·cases e
 refine Tidy.cj ⟨λx y k e1 e2=>?_,λx k e=>?_,λk hk=>⟨b,?_⟩⟩ v
 ·rw[(key x k e1).1,(key y k e2).1]
 ·obtain⟨rfl,rfl⟩:=key x k e;exact⟨aE,hb,by simp⟩
 ·simp at hk; subst hk; rw[hm]; simp
section
variable {P:Program} {GL:aw}
theorem XbC{f:FuncId}{F:sT}(ok:kX P GL f F){xs:List aa}(hn:xs.length=F.np){v:aa}{bs:List ab}
 (h:gR P GL F.n F.body (dS xs) [] (λe ρ σ=>(e=.normal∨e=.ret)∧∃v',gA F.fF ρ σ=some v'∧Tidy σ v' bs v)):dh P GL f xs v bs:=by
 intro w M vs hM hg hx;have r0:=br.start (GL:=GL) w M hM hg;have hh:hp []=nf:=by funext b; simp[hp,nf]
 rw[←hh] at r0;refine(Mu ok hn h w ⟨[],M⟩ ⟨M,bg⟩ w vs r0 hx).mono ?_;rintro e w' ⟨u,he,g',x,σ',hR,hle,r,d⟩;obtain⟨c2,r2,d2⟩:=hR GL w ⟨[],M⟩ g' w' r u d;exact⟨u,he,⟨g'.M,c2⟩,hle.m,r2,d2⟩
theorem ZC(hP:P.follows .mixedOrders=true){f:FuncId}{np:Nat}{g:eH}(hg:lU P GL f np g){xs:List aa}(hn:xs.length=np){v:aa}{bs:List ab}(h:g (W P GL) xs [] (λv' σ=>Tidy σ v' bs v)):dh P GL f xs v bs:=by
 obtain⟨F,h1,h2,h3⟩:=hg.zx hP (wa P GL) hn h;exact XbC h1 (hn.trans h2.symm) h3
theorem JZ:∀(bs σ:List ab),gP σ (ZB σ.length bs)=some (σ++bs)
 |[],σ=>by simp[ZB,gP]
 |b::bs,σ=>by
  have:=JZ bs (σ++[b]);simp_all [ZB]
def wo(n:Nat):List ab→List Nat
 |[]=>[]
 |_::bs=>n::wo (n+1) bs
theorem MA:∀(bs:List ab) (n:Nat),(ZB n bs).map (·.1)=wo n bs
 |[],_=>rfl
 |b::bs,n=>by simp[ZB,wo,MA bs (n+1)]
theorem Mb{k:MK}{xs ys:List aa}{f:FuncId}{v:aa}{bs:List ab}(h:dh P GL f ys v bs)(hc:Zw k xs=some (f,ys))(hY:Qj P f=true)(kV:fz ys=true){σ:List ab}{K:aa→List ab→Prop}(hK:K (v.cj (ZK σ.length)) (σ++QA σ.length bs)):(W P GL).call k xs σ K:=
 Ez hc hY (h.here kV (λi _=>by simp[hp])) (JZ _ σ) hK
theorem TP{k:MK}{xs ys:List aa}{f:FuncId}{v:aa}{bs:List ab}(h:dh P GL f ys v bs)(hc:Zw k xs=some (f,ys))(hY:Qj P f=true)(kV:fz ys=true){σ:List ab}{K:aa→List Nat×List Nat→List ab→Prop}(hK:K (v.cj (ZK σ.length)) ([],wo σ.length (QA σ.length bs)) (σ++QA σ.length bs)):(W P GL).eJ k xs σ K:=
 Ew hc hY (h.here kV (λi _=>by simp[hp])) (JZ _ σ) (by rw[MA]; exact hK)
end
attribute [simp] aa.cj fZ ZK QA ab.c7 wo aa.ro fz aa.flat kG
end Go.Ah
end
section
namespace Go.Ah
theorem Yi(σ:List ab)(x:ab):gP σ [(σ.length,x)]=some (σ++[x]):=by simp[gP]
theorem Yx{σ:List ab}{b:Nat}{x:ab}(h:ah σ b=x)(hx:x≠.dead):σ[b]?=some x:=zm h hx
theorem Yf(σ:List ab)(x:ab):ah (σ++[x]) σ.length=x:=Xt (by simp)
theorem Xd{σ:List ab}{b:Nat}{y:ab}(x:List ab)(h:ah σ b=y)(hy:y≠.dead):ah (σ++x) b=y:=by
 have:=Yx h hy
 grind [Xt]
theorem Ye{σ:List ab}{b:Nat}{y:ab}(h:ah σ b=y)(hy:y≠.dead):b<σ.length:=(gn (Yx h hy)).1
theorem DA{α:Type}{b:Nat}{x:α}:∀ {σ:List α},b<σ.length→YM b x σ=some (σ.set b x):=by
 intro σ h
 induction σ generalizing b with
 |nil=>simp at h
 |cons y σ ih=>cases b<;>simp_all
theorem DC{σ:List ab}{b:Nat}(x y:ab)(h:b<σ.length):gP σ ([(b,x)]++[(σ.length,y)])=some (σ.set b x++[y]):=by
 have hb:Nat.beq b σ.length=false:=by
  grind [e9]
 simp[gP,hb,DA h]
theorem Xg{σ:List ab}{b:Nat}(x:ab)(h:b<σ.length):gP σ [(b,x)]=some (σ.set b x):=by
 grind [gP,e9,DA]
theorem Zd{σ:List ab}{b c:Nat}{x y:ab}(h:ah σ b=y)(hy:y≠.dead)(hc:c≠b):ah (σ.set c x) b=y:=by
 simp_all [Yx,Xt]
section
variable {α:Type} (A:ak α)
theorem ZN(n:Nat)(σ:List ab)(x:aa)(z:List aa)(cs:List aa)(hx:fill z [(0,n)] [x]=some cs)(hc:chunk n 1 cs=some [cs])(K:aa→List ab→α) :
  A.wr (Yy n 1 z [(0,n)] [x] σ) σ K=K (.sl σ.length 0 1 true) (σ++[.rows n [cs]]):=by
 simp_all [Yy]
theorem Q7{row:List aa}(h:row.all aa.cell=true):Xs [row]=true:=by simp[Xs,h]
theorem R4(row:List aa):cut 0 (0+1) [row]=[row]:=rfl
theorem Jw(n by_:Nat)(σ:List ab)(row:List aa)(hr:row.all aa.cell=true)(ct:194*by_≤2 ^ 48)(K:aa→List ab→α) :
  A.wr (Zl n by_ [.aq,.sl σ.length 0 1 true] (σ++[.rows n [row]])) (σ++[.rows n [row]]) K=K (.sl (σ.length+1) 0 1 false) (σ++[.rows n [row]]++[.rows n [row]]):=by
 have h1:Qp n (σ++[.rows n [row]]) (.sl σ.length 0 1 true)=some ([row],[σ.length]):=by
  simp[Qp,Yf,R4];rfl
 have e:Zl n by_ [.aq,.sl σ.length 0 1 true] (σ++[.rows n [row]])=.ok (.sl (σ.length+1) 0 1 false) [σ.length] [(σ.length+1,.rows n [row])]:=by
  show QH n by_ (σ++[.rows n [row]]) [] [] (.sl σ.length 0 1 true)=_;simp_all [QH,Q7,Nat.ble_eq_true_of_le]
 simp_all
theorem zf(n by_:Nat)(σ:List ab)(b len:Nat)(ex:Bool)(rs:List (List aa))(row:List aa)(hb:ah σ b=.rows n rs)(hl:rs.length=len)(hr:row.all aa.cell=true)(ct:(2*(len+1)+192)*by_≤2 ^ 48)(K:aa→List ab→α) :
  A.wr (Zl n by_ [.sl b 0 len ex,.sl σ.length 0 1 true] (σ++[.rows n [row]])) (σ++[.rows n [row]]) K=K (.sl (σ.length+1) 0 (len+1) false) (σ.set b .dead++[.rows n [row]]++[.rows n (rs++[row])]):=by
 have cp:=Ye hb (by simp);have h1:Qp n (σ++[.rows n [row]]) (.sl σ.length 0 1 true)=some ([row],[σ.length]):=by
  simp[Qp,Yf,R4];rfl
 have h2:Nat.ble ((2*(len+1)+192)*by_) (2 ^ 48)=true:=Nat.ble_eq_true_of_le ct;have ll:=Xd [.rows n [row]] hb (by simp);have e:Zl n by_ [.sl b 0 len ex,.sl σ.length 0 1 true] (σ++[.rows n [row]])=.ok (.sl (σ.length+1) 0 (len+1) false) [σ.length] ([(b,.dead)]++[(σ.length+1,.rows n (rs++[row]))]):=by
  have:Zl n by_ [.sl b 0 len ex,.sl σ.length 0 1 true] (σ++[.rows n [row]])=QH n by_ (σ++[.rows n [row]]) rs [(b,.dead)] (.sl σ.length 0 1 true):=by
   simp[Zl,zh,ll,hl]
  rw[this];unfold QH;simp only[h1,Q7 hr,List.length_singleton,h2,Bool.and_self,cond_true,hl,List.length_append]
 grind [Mj,DC,List.length_append,List.length_singleton,Vl]
end
end Go.Ah
end
section
namespace Go.Ah
section
variable {P:Program} {GL:aw}
theorem Za{r:az}{K:aa→Prop}{v:aa}{rd:List Nat}(h:r=.ok v rd [])(hK:K v):(W P GL).rd r K:=by rw[h]; exact hK
theorem Qe{r:az}{K:aa→Prop}{v:aa}(h:r=.ok v [] [])(hK:K v):(W P GL).pu r K:=by rw[h]; exact hK
theorem Qb{r:az}{σ σ':List ab}{K:aa→List ab→Prop}{v:aa}{rd:List Nat}{up:List (Nat×ab)}(h:r=.ok v rd up)(hu:gP σ up=some σ')(hK:K v σ'):(W P GL).wr r σ K:=by rw[h,Mj,hu]; exact hK
theorem Yg{r:az}{σ σ':List ab}{K:aa→List Nat×List Nat→List ab→Prop}{v:aa}{rd:List Nat}{up:List (Nat×ab)}(h:r=.ok v rd up)(hu:gP σ up=some σ')(hK:K v (rd,up.map (·.1)) σ'):(W P GL).dr r σ K:=by rw[h,Tw,hu]; exact hK
theorem Zb{c:Bool}{a b:Prop}(ht:c=true→a)(hf:c=false→b):(W P GL).test (.bool c) a b:=⟨ht,hf⟩
theorem Xc{a b:Prop}(h:a):(W P GL).test (.bool true) a b:=⟨λ_=>h,(λe=>by cases e)⟩
theorem Yd{a b:Prop}(h:b):(W P GL).test (.bool false) a b:=⟨(λe=>by cases e),λ_=>h⟩
theorem Xr{b:Bool}{k:Prop}(h:b=true)(hK:k):(W P GL).gd b k:=by rw[h]; exact hK
theorem Qi{β:Type}{o:Option β}{K:β→Prop}{v:β}(h:o=some v)(hK:K v):(W P GL).opt o K:=by rw[h]; exact hK
theorem Ya{w:Bool}{r:(aa→Prop)→Prop}{K:aa→Prop}(h:r K):(W P GL).gr (.bool w) w r K:=by
 cases w
 ·exact⟨(λe=>by cases e),λ_=>h⟩
 ·exact⟨λ_=>h,(λe=>by cases e)⟩
theorem Xa{w:Bool}{r:(aa→List ab→Prop)→Prop}{σ:List ab}{K:aa→List ab→Prop}(h:r K):(W P GL).gw (.bool w) w r σ K:=by
 cases w
 ·exact⟨(λe=>by cases e),λ_=>h⟩
 ·exact⟨λ_=>h,(λe=>by cases e)⟩
theorem Vo{w:Bool}{r:(aa→List Nat×List Nat→List ab→Prop)→Prop}{σ:List ab}{K:aa→List Nat×List Nat→List ab→Prop}(h:r K):(W P GL).gl (.bool w) w r σ K:=by
 cases w
 ·exact⟨(λe=>by cases e),λ_=>h⟩
 ·exact⟨λ_=>h,(λe=>by cases e)⟩
theorem Qa{c w:Bool}{r:(aa→Prop)→Prop}{K:aa→Prop}(hc:c = !w)(h:K (rH [(c,w)])):(W P GL).gr (.bool c) w r K:=by
 subst hc;cases w
 ·exact⟨λ_=>h,(λe=>by cases e)⟩
 ·exact⟨(λe=>by cases e),λ_=>h⟩
theorem Yb{c w:Bool}{r:(aa→List ab→Prop)→Prop}{σ:List ab}{K:aa→List ab→Prop}(hc:c = !w)(h:K (rH [(c,w)]) σ):(W P GL).gw (.bool c) w r σ K:=by
 subst hc;cases w
 ·exact⟨λ_=>h,(λe=>by cases e)⟩
 ·exact⟨(λe=>by cases e),λ_=>h⟩
theorem Zds{c w:Bool}{r:(aa→List Nat×List Nat→List ab→Prop)→Prop}{σ:List ab}{K:aa→List Nat×List Nat→List ab→Prop}(hc:c = !w)(h:K (rH [(c,w)]) ([],[]) σ):(W P GL).gl (.bool c) w r σ K:=by
 subst hc;cases w
 ·exact⟨λ_=>h,(λe=>by cases e)⟩
 ·exact⟨(λe=>by cases e),λ_=>h⟩
theorem Zc{cs:List (Bool×Bool)}{q w:Bool}{r:(aa→Prop)→Prop}{K:aa→Prop}(hc:vo.ff cs=true)(h:K (rH (cs++[(q,w)]))):(W P GL).gr (.when cs (.bool q)) w r K:=by
 show (match vo.ff cs with
  |true=>K (rH (cs++[(q,w)]))
  | false=>(W P GL).stop)
 rw[hc]; exact h
theorem Qc{cs:List (Bool×Bool)}{q w:Bool}{r:(aa→List ab→Prop)→Prop}{σ:List ab}{K:aa→List ab→Prop}(hc:vo.ff cs=true)(h:K (rH (cs++[(q,w)])) σ):(W P GL).gw (.when cs (.bool q)) w r σ K:=by
 show (match vo.ff cs with
  |true=>K (rH (cs++[(q,w)])) σ
  | false=>(W P GL).stop)
 rw[hc]; exact h
theorem YK(n:Nat){F:(List aa→List ab→Prop)→List aa→List ab→Prop}{vs:List aa}{σ:List ab}(h:kK False n F vs σ):(W P GL).loop F vs σ:=⟨n,h⟩
theorem Xk{n:Nat}{F:(List aa→List ab→Prop)→List aa→List ab→Prop}{vs:List aa}{σ:List ab}(h:F (kK False n F) vs σ):kK False (n+1) F vs σ:=h
end
def pos:List Nat→Nat→Option Nat
 |[],_=>none
 |x::l,n=>match Nat.beq x n with
  |true=>some 0
  |false=>match pos l n with
   |some k=>some (k+1)
   |none=>none
theorem JA:∀ {l:List Nat} {n k:Nat},pos l n=some k→l[k]?=some n
 |[],_,_,h=>by cases h
 |x::l,n,k,h=>by
  unfold pos at h;split at h
  ·rename_i hb; cases h; simp[e9 hb]
  ·split at h
   ·rename_i k' hk; cases h; simpa using JA hk
   ·cases h
theorem Te:∀ {l:List Nat} {k:Nat},l.Nodup→(h:k<l.length)→pos l l[k]=some k
 |[],_,_,h=>by simp at h
 |x::l,0,_,_=>by simp[pos]
 |x::l,k+1,hn,h=>by
  have ja:=List.nodup_cons.1 hn;have cL:Nat.beq x (l[k]'(by simpa using h))=false:=by
   cases e:Nat.beq x (l[k]'(by simpa using h)) with
   |false=>rfl
   |true=>exact(ja.1 (by rw[e9 e]; exact List.getElem_mem _)).elim
  simp only[List.getElem_cons_succ,pos,cL,Te ja.2 (by simpa using h)]
def KF(ids:List Nat)(σ:List ab):List ab:=ids.map λb=>(ah σ b).c7 (aa.cj (pos ids))
theorem Tidy.gc(ids:List Nat){σ:List ab}{v:aa}(hn:ids.Nodup)(cY:∀b∈ids,b<σ.length){σ2:List ab}{v2:aa}(h1:KF ids σ=σ2)(h2:v.cj (pos ids)=v2):Tidy σ v σ2 v2:=by
 subst h1; subst h2;refine Tidy.cj ⟨λx y k e1 e2=>?_,λx k e=>?_,λk hk=>?_⟩ v
 ·have q1:=JA e1;have q2:=JA e2;rw[q1] at q2; exact Option.some.inj q2
 ·have q:=JA e;have hx:x∈ids:=List.mem_of_getElem? q;exact⟨_,JR (cY x hx),by simp[KF,q]⟩
 ·simp only[KF,List.length_map] at hk;exact⟨_,Te hn hk⟩
end Go.Ah
end
section
namespace Go.Ah
section
variable {P:Program} {GL:aw}
theorem Qd0{c d:Bool}{K:aa→Prop}{r1:az}{σ:List ab}{q1:List Nat}(h1:c=true→r1=.ok (.bool d) q1 [])(hK:K (.bool (c&&d))) :
  (W P GL).gr (.bool c) true (λk=>(W P GL).rd r1 k) λt1=>(W P GL).rd (Ym [.bool c,t1,.bool false] σ) K:=by
 cases c with
 |true=>exact Ya (Za (h1 rfl) (Za rfl hK))
 |false=>exact Qa rfl (Za rfl hK)
theorem VA{c d:Bool}{K:aa→Prop}{r1:az}{r2:aa→az}{r3:aa→aa→az}{σ:List ab}{v1 v2:aa}{q1 q2 q3:List Nat}(h1:c=true→r1=.ok v1 q1 [])(h2:c=true→r2 v1=.ok v2 q2 [])(h3:c=true→r3 v1 v2=.ok (.bool d) q3 [])(hK:K (.bool (c&&d))) :
  (W P GL).gr (.bool c) true (λk=>(W P GL).rd r1 k) λt1=>(W P GL).gr (.bool c) true (λk=>(W P GL).rd (r2 t1) k) λt2=>(W P GL).gr (.bool c) true (λk=>(W P GL).rd (r3 t1 t2) k) λt3=>(W P GL).rd (Ym [.bool c,t3,.bool false] σ) K:=by
 cases c with
 |true=>exact Ya (Za (h1 rfl) (Ya (Za (h2 rfl) (Ya (Za (h3 rfl) (Za rfl hK))))))
 |false=>exact Qa rfl (Qa rfl (Qa rfl (Za rfl hK)))
theorem Zd1{c d:Bool}{K:aa→Prop}{r1:az}{r2:aa→az}{r3:aa→aa→az}{r4:aa→aa→aa→az}{r5:aa→aa→aa→aa→az}{r6:aa→aa→aa→aa→aa→az}{σ:List ab}{v1 v2 v3 v4 v5:aa}{q1 q2 q3 q4 q5 q6:List Nat}(h1:c=true→r1=.ok v1 q1 [])(h2:c=true→r2 v1=.ok v2 q2 [])(h3:c=true→r3 v1 v2=.ok v3 q3 [])(h4:c=true→r4 v1 v2 v3=.ok v4 q4 [])(h5:c=true→r5 v1 v2 v3 v4=.ok v5 q5 [])(h6:c=true→r6 v1 v2 v3 v4 v5=.ok (.bool d) q6 [])(hK:K (.bool (c&&d))) :
  (W P GL).gr (.bool c) true (λk=>(W P GL).rd r1 k) λt1=>(W P GL).gr (.bool c) true (λk=>(W P GL).rd (r2 t1) k) λt2=>(W P GL).gr (.bool c) true (λk=>(W P GL).rd (r3 t1 t2) k) λt3=>(W P GL).gr (.bool c) true (λk=>(W P GL).rd (r4 t1 t2 t3) k) λt4=>(W P GL).gr (.bool c) true (λk=>(W P GL).rd (r5 t1 t2 t3 t4) k) λt5=>(W P GL).gr (.bool c) true (λk=>(W P GL).rd (r6 t1 t2 t3 t4 t5) k) λt6=>(W P GL).rd (Ym [.bool c,t6,.bool false] σ) K:=by
 cases c with
 |true=>exact Ya (Za (h1 rfl) (Ya (Za (h2 rfl) (Ya (Za (h3 rfl) (Ya (Za (h4 rfl) (Ya (Za (h5 rfl) (Ya (Za (h6 rfl) (Za rfl hK))))))))))))
 |false=>exact Qa rfl (Qa rfl (Qa rfl (Qa rfl (Qa rfl (Qa rfl (Za rfl hK))))))
theorem XQ{c d:Bool}{K:aa→Prop}{r1:az}{r2:aa→az}{σ:List ab}{v1:aa}{q1 q2:List Nat}(h1:c=false→r1=.ok v1 q1 [])(h2:c=false→r2 v1=.ok (.bool d) q2 [])(hK:K (.bool (c||d))) :
  (W P GL).gr (.bool c) false (λk=>(W P GL).rd r1 k) λt1=>(W P GL).gr (.bool c) false (λk=>(W P GL).rd (r2 t1) k) λt2=>(W P GL).rd (Ym [.bool c,.bool true,t2] σ) K:=by
 cases c with
 |false=>exact Ya (Za (h1 rfl) (Ya (Za (h2 rfl) (Za rfl hK))))
 |true=>exact Qa rfl (Qa rfl (Za rfl hK))
theorem sq{c d:Bool}{K:aa→Prop}{r1:az}{r2:aa→az}{r3:aa→aa→az}{σ:List ab}{v1 v2:aa}{q1 q2 q3:List Nat}(h1:c=false→r1=.ok v1 q1 [])(h2:c=false→r2 v1=.ok v2 q2 [])(h3:c=false→r3 v1 v2=.ok (.bool d) q3 [])(hK:K (.bool (c||d))) :
  (W P GL).gr (.bool c) false (λk=>(W P GL).rd r1 k) λt1=>(W P GL).gr (.bool c) false (λk=>(W P GL).rd (r2 t1) k) λt2=>(W P GL).gr (.bool c) false (λk=>(W P GL).rd (r3 t1 t2) k) λt3=>(W P GL).rd (Ym [.bool c,.bool true,t3] σ) K:=by
 cases c with
 |false=>exact Ya (Za (h1 rfl) (Ya (Za (h2 rfl) (Ya (Za (h3 rfl) (Za rfl hK))))))
 |true=>exact Qa rfl (Qa rfl (Qa rfl (Za rfl hK)))
theorem zq{c d:Bool}{K:aa→Prop}{r1:az}{r2:aa→az}{r3:aa→aa→az}{r4:aa→aa→aa→az}{r5:aa→aa→aa→aa→az}{σ:List ab}{v1 v2 v3 v4:aa}{q1 q2 q3 q4 q5:List Nat}(h1:c=false→r1=.ok v1 q1 [])(h2:c=false→r2 v1=.ok v2 q2 [])(h3:c=false→r3 v1 v2=.ok v3 q3 [])(h4:c=false→r4 v1 v2 v3=.ok v4 q4 [])(h5:c=false→r5 v1 v2 v3 v4=.ok (.bool d) q5 [])(hK:K (.bool (c||d))) :
  (W P GL).gr (.bool c) false (λk=>(W P GL).rd r1 k) λt1=>(W P GL).gr (.bool c) false (λk=>(W P GL).rd (r2 t1) k) λt2=>(W P GL).gr (.bool c) false (λk=>(W P GL).rd (r3 t1 t2) k) λt3=>(W P GL).gr (.bool c) false (λk=>(W P GL).rd (r4 t1 t2 t3) k) λt4=>(W P GL).gr (.bool c) false (λk=>(W P GL).rd (r5 t1 t2 t3 t4) k) λt5=>(W P GL).rd (Ym [.bool c,.bool true,t5] σ) K:=by
 cases c with
 |false=>exact Ya (Za (h1 rfl) (Ya (Za (h2 rfl) (Ya (Za (h3 rfl) (Ya (Za (h4 rfl) (Ya (Za (h5 rfl) (Za rfl hK))))))))))
 |true=>exact Qa rfl (Qa rfl (Qa rfl (Qa rfl (Qa rfl (Za rfl hK)))))
theorem LC{c d:Bool}{K:aa→Prop}{r1:az}{r2:aa→az}{r3:aa→aa→az}{r4:aa→aa→aa→az}{r5:aa→aa→aa→aa→az}{r6:aa→aa→aa→aa→aa→az}{σ:List ab}{v1 v2 v3 v4 v5:aa}{q1 q2 q3 q4 q5 q6:List Nat}(h1:c=false→r1=.ok v1 q1 [])(h2:c=false→r2 v1=.ok v2 q2 [])(h3:c=false→r3 v1 v2=.ok v3 q3 [])(h4:c=false→r4 v1 v2 v3=.ok v4 q4 [])(h5:c=false→r5 v1 v2 v3 v4=.ok v5 q5 [])(h6:c=false→r6 v1 v2 v3 v4 v5=.ok (.bool d) q6 [])(hK:K (.bool (c||d))) :
  (W P GL).gr (.bool c) false (λk=>(W P GL).rd r1 k) λt1=>(W P GL).gr (.bool c) false (λk=>(W P GL).rd (r2 t1) k) λt2=>(W P GL).gr (.bool c) false (λk=>(W P GL).rd (r3 t1 t2) k) λt3=>(W P GL).gr (.bool c) false (λk=>(W P GL).rd (r4 t1 t2 t3) k) λt4=>(W P GL).gr (.bool c) false (λk=>(W P GL).rd (r5 t1 t2 t3 t4) k) λt5=>(W P GL).gr (.bool c) false (λk=>(W P GL).rd (r6 t1 t2 t3 t4 t5) k) λt6=>(W P GL).rd (Ym [.bool c,.bool true,t6] σ) K:=by
 cases c with
 |false=>exact Ya (Za (h1 rfl) (Ya (Za (h2 rfl) (Ya (Za (h3 rfl) (Ya (Za (h4 rfl) (Ya (Za (h5 rfl) (Ya (Za (h6 rfl) (Za rfl hK))))))))))))
 |true=>exact Qa rfl (Qa rfl (Qa rfl (Qa rfl (Qa rfl (Qa rfl (Za rfl hK))))))
theorem zk{c d:Bool}{K:aa→Prop}{r1:az}{r2:aa→az}{r3:aa→aa→az}{r4:aa→aa→aa→az}{r5:aa→aa→aa→aa→az}{r6:aa→aa→aa→aa→aa→az}{r7:aa→aa→aa→aa→aa→aa→az}{σ:List ab}{v1 v2 v3 v4 v5 v6:aa}{q1 q2 q3 q4 q5 q6 q7:List Nat}(h1:c=false→r1=.ok v1 q1 [])(h2:c=false→r2 v1=.ok v2 q2 [])(h3:c=false→r3 v1 v2=.ok v3 q3 [])(h4:c=false→r4 v1 v2 v3=.ok v4 q4 [])(h5:c=false→r5 v1 v2 v3 v4=.ok v5 q5 [])(h6:c=false→r6 v1 v2 v3 v4 v5=.ok v6 q6 [])(h7:c=false→r7 v1 v2 v3 v4 v5 v6=.ok (.bool d) q7 [])(hK:K (.bool (c||d))) :
  (W P GL).gr (.bool c) false (λk=>(W P GL).rd r1 k) λt1=>(W P GL).gr (.bool c) false (λk=>(W P GL).rd (r2 t1) k) λt2=>(W P GL).gr (.bool c) false (λk=>(W P GL).rd (r3 t1 t2) k) λt3=>(W P GL).gr (.bool c) false (λk=>(W P GL).rd (r4 t1 t2 t3) k) λt4=>(W P GL).gr (.bool c) false (λk=>(W P GL).rd (r5 t1 t2 t3 t4) k) λt5=>(W P GL).gr (.bool c) false (λk=>(W P GL).rd (r6 t1 t2 t3 t4 t5) k) λt6=>(W P GL).gr (.bool c) false (λk=>(W P GL).rd (r7 t1 t2 t3 t4 t5 t6) k) λt7=>(W P GL).rd (Ym [.bool c,.bool true,t7] σ) K:=by
 cases c with
 |false=>exact Ya (Za (h1 rfl) (Ya (Za (h2 rfl) (Ya (Za (h3 rfl) (Ya (Za (h4 rfl) (Ya (Za (h5 rfl) (Ya (Za (h6 rfl) (Ya (Za (h7 rfl) (Za rfl hK))))))))))))))
 |true=>exact Qa rfl (Qa rfl (Qa rfl (Qa rfl (Qa rfl (Qa rfl (Qa rfl (Za rfl hK)))))))
theorem Yd1{c d:Bool}{K:aa→Prop}{r1:az}{r2:aa→az}{r3:aa→aa→az}{r4:aa→aa→aa→az}{r5:aa→aa→aa→aa→az}{r6:aa→aa→aa→aa→aa→az}{r7:aa→aa→aa→aa→aa→aa→az}{r8:aa→aa→aa→aa→aa→aa→aa→az}{σ:List ab}{v1 v2 v3 v4 v5 v6 v7:aa}{q1 q2 q3 q4 q5 q6 q7 q8:List Nat}(h1:c=false→r1=.ok v1 q1 [])(h2:c=false→r2 v1=.ok v2 q2 [])(h3:c=false→r3 v1 v2=.ok v3 q3 [])(h4:c=false→r4 v1 v2 v3=.ok v4 q4 [])(h5:c=false→r5 v1 v2 v3 v4=.ok v5 q5 [])(h6:c=false→r6 v1 v2 v3 v4 v5=.ok v6 q6 [])(h7:c=false→r7 v1 v2 v3 v4 v5 v6=.ok v7 q7 [])(h8:c=false→r8 v1 v2 v3 v4 v5 v6 v7=.ok (.bool d) q8 [])(hK:K (.bool (c||d))) :
  (W P GL).gr (.bool c) false (λk=>(W P GL).rd r1 k) λt1=>(W P GL).gr (.bool c) false (λk=>(W P GL).rd (r2 t1) k) λt2=>(W P GL).gr (.bool c) false (λk=>(W P GL).rd (r3 t1 t2) k) λt3=>(W P GL).gr (.bool c) false (λk=>(W P GL).rd (r4 t1 t2 t3) k) λt4=>(W P GL).gr (.bool c) false (λk=>(W P GL).rd (r5 t1 t2 t3 t4) k) λt5=>(W P GL).gr (.bool c) false (λk=>(W P GL).rd (r6 t1 t2 t3 t4 t5) k) λt6=>(W P GL).gr (.bool c) false (λk=>(W P GL).rd (r7 t1 t2 t3 t4 t5 t6) k) λt7=>(W P GL).gr (.bool c) false (λk=>(W P GL).rd (r8 t1 t2 t3 t4 t5 t6 t7) k) λt8=>(W P GL).rd (Ym [.bool c,.bool true,t8] σ) K:=by
 cases c with
 |false=>exact Ya (Za (h1 rfl) (Ya (Za (h2 rfl) (Ya (Za (h3 rfl) (Ya (Za (h4 rfl) (Ya (Za (h5 rfl) (Ya (Za (h6 rfl) (Ya (Za (h7 rfl) (Ya (Za (h8 rfl) (Za rfl hK))))))))))))))))
 |true=>exact Qa rfl (Qa rfl (Qa rfl (Qa rfl (Qa rfl (Qa rfl (Qa rfl (Qa rfl (Za rfl hK))))))))
theorem QdK{c d:Bool}{K:aa→Prop}{r1:az}{r2:aa→az}{r3:aa→aa→az}{r4:aa→aa→aa→az}{r5:aa→aa→aa→aa→az}{r6:aa→aa→aa→aa→aa→az}{r7:aa→aa→aa→aa→aa→aa→az}{r8:aa→aa→aa→aa→aa→aa→aa→az}{r9:aa→aa→aa→aa→aa→aa→aa→aa→az}{r10:aa→aa→aa→aa→aa→aa→aa→aa→aa→az}{σ:List ab}{v1 v2 v3 v4 v5 v6 v7 v8 v9:aa}{q1 q2 q3 q4 q5 q6 q7 q8 q9 q10:List Nat}(h1:c=false→r1=.ok v1 q1 [])(h2:c=false→r2 v1=.ok v2 q2 [])(h3:c=false→r3 v1 v2=.ok v3 q3 [])(h4:c=false→r4 v1 v2 v3=.ok v4 q4 [])(h5:c=false→r5 v1 v2 v3 v4=.ok v5 q5 [])(h6:c=false→r6 v1 v2 v3 v4 v5=.ok v6 q6 [])(h7:c=false→r7 v1 v2 v3 v4 v5 v6=.ok v7 q7 [])(h8:c=false→r8 v1 v2 v3 v4 v5 v6 v7=.ok v8 q8 [])(h9:c=false→r9 v1 v2 v3 v4 v5 v6 v7 v8=.ok v9 q9 [])(h10:c=false→r10 v1 v2 v3 v4 v5 v6 v7 v8 v9=.ok (.bool d) q10 [])(hK:K (.bool (c||d))) :
  (W P GL).gr (.bool c) false (λk=>(W P GL).rd r1 k) λt1=>(W P GL).gr (.bool c) false (λk=>(W P GL).rd (r2 t1) k) λt2=>(W P GL).gr (.bool c) false (λk=>(W P GL).rd (r3 t1 t2) k) λt3=>(W P GL).gr (.bool c) false (λk=>(W P GL).rd (r4 t1 t2 t3) k) λt4=>(W P GL).gr (.bool c) false (λk=>(W P GL).rd (r5 t1 t2 t3 t4) k) λt5=>(W P GL).gr (.bool c) false (λk=>(W P GL).rd (r6 t1 t2 t3 t4 t5) k) λt6=>(W P GL).gr (.bool c) false (λk=>(W P GL).rd (r7 t1 t2 t3 t4 t5 t6) k) λt7=>(W P GL).gr (.bool c) false (λk=>(W P GL).rd (r8 t1 t2 t3 t4 t5 t6 t7) k) λt8=>(W P GL).gr (.bool c) false (λk=>(W P GL).rd (r9 t1 t2 t3 t4 t5 t6 t7 t8) k) λt9=>(W P GL).gr (.bool c) false (λk=>(W P GL).rd (r10 t1 t2 t3 t4 t5 t6 t7 t8 t9) k) λt10=>(W P GL).rd (Ym [.bool c,.bool true,t10] σ) K:=by
 cases c with
 |false=>exact Ya (Za (h1 rfl) (Ya (Za (h2 rfl) (Ya (Za (h3 rfl) (Ya (Za (h4 rfl) (Ya (Za (h5 rfl) (Ya (Za (h6 rfl) (Ya (Za (h7 rfl) (Ya (Za (h8 rfl) (Ya (Za (h9 rfl) (Ya (Za (h10 rfl) (Za rfl hK))))))))))))))))))))
 |true=>exact Qa rfl (Qa rfl (Qa rfl (Qa rfl (Qa rfl (Qa rfl (Qa rfl (Qa rfl (Qa rfl (Qa rfl (Za rfl hK))))))))))
theorem Zc5{c d:Bool}{K:List ab→aa→Prop} {cl:(aa→List ab→Prop)→Prop} {σ:List ab}(hc:c=true→∀k:aa→List ab→Prop,k (.bool d) σ→cl k)(hK:K σ (.bool (c&&d))) :
  (W P GL).gw (.bool c) true (λk=>cl k) σ λw0 τ=>(W P GL).rd (Ym [.bool c,w0,.bool false] τ) (K τ):=by
 cases c with
 |true=>exact Xa (hc rfl _ (Za rfl hK))
 |false=>exact Yb rfl (Za rfl hK)
theorem Yc5{c d:Bool}{K:List ab→aa→Prop}{r1:az}{r2:aa→az}{cl:aa→aa→(aa→List ab→Prop)→Prop} {σ:List ab}{v1 v2:aa}{q1 q2:List Nat}(h1:c=true→r1=.ok v1 q1 [])(h2:c=true→r2 v1=.ok v2 q2 [])(hc:c=true→∀k:aa→List ab→Prop,k (.bool d) σ→cl v1 v2 k)(hK:K σ (.bool (c&&d))) :
  (W P GL).gr (.bool c) true (λk=>(W P GL).rd r1 k) λt1=>(W P GL).gr (.bool c) true (λk=>(W P GL).rd (r2 t1) k) λt2=>(W P GL).gw (.bool c) true (λk=>cl t1 t2 k) σ λw0 τ=>(W P GL).rd (Ym [.bool c,w0,.bool false] τ) (K τ):=by
 cases c with
 |true=>exact Ya (Za (h1 rfl) (Ya (Za (h2 rfl) (Xa (hc rfl _ (Za rfl hK))))))
 |false=>exact Qa rfl (Qa rfl (Yb rfl (Za rfl hK)))
theorem Zc7{c d:Bool}{K:List ab→aa→Prop}{r1:az}{cl:aa→(aa→List ab→Prop)→Prop} {σ:List ab}{v1:aa}{q1:List Nat}(h1:c=false→r1=.ok v1 q1 [])(hc:c=false→∀k:aa→List ab→Prop,k (.bool d) σ→cl v1 k)(hK:K σ (.bool (c||d))) :
  (W P GL).gr (.bool c) false (λk=>(W P GL).rd r1 k) λt1=>(W P GL).gw (.bool c) false (λk=>cl t1 k) σ λw0 τ=>(W P GL).rd (Ym [.bool c,.bool true,w0] τ) (K τ):=by
 cases c with
 |false=>exact Ya (Za (h1 rfl) (Xa (hc rfl _ (Za rfl hK))))
 |true=>exact Qa rfl (Yb rfl (Za rfl hK))
theorem Yc7{c d:Bool}{K:List ab→aa→Prop}{r1:az}{r2:aa→az}{r3:aa→aa→az}{cl:aa→aa→aa→(aa→List ab→Prop)→Prop} {σ:List ab}{v1 v2 v3:aa}{q1 q2 q3:List Nat}(h1:c=false→r1=.ok v1 q1 [])(h2:c=false→r2 v1=.ok v2 q2 [])(h3:c=false→r3 v1 v2=.ok v3 q3 [])(hc:c=false→∀k:aa→List ab→Prop,k (.bool d) σ→cl v1 v2 v3 k)(hK:K σ (.bool (c||d))) :
  (W P GL).gr (.bool c) false (λk=>(W P GL).rd r1 k) λt1=>(W P GL).gr (.bool c) false (λk=>(W P GL).rd (r2 t1) k) λt2=>(W P GL).gr (.bool c) false (λk=>(W P GL).rd (r3 t1 t2) k) λt3=>(W P GL).gw (.bool c) false (λk=>cl t1 t2 t3 k) σ λw0 τ=>(W P GL).rd (Ym [.bool c,.bool true,w0] τ) (K τ):=by
 cases c with
 |false=>exact Ya (Za (h1 rfl) (Ya (Za (h2 rfl) (Ya (Za (h3 rfl) (Xa (hc rfl _ (Za rfl hK))))))))
 |true=>exact Qa rfl (Qa rfl (Qa rfl (Yb rfl (Za rfl hK))))
theorem Xc7{c d:Bool}{K:List ab→aa→Prop}{r1:az}{r2:aa→az}{r3:aa→aa→az}{r4:aa→aa→aa→az}{cl:aa→aa→aa→aa→(aa→List ab→Prop)→Prop}{s1:aa→List ab→az}{σ:List ab}{v1 v2 v3 v4 u0:aa}{q1 q2 q3 q4 p1:List Nat}(h1:c=false→r1=.ok v1 q1 [])(h2:c=false→r2 v1=.ok v2 q2 [])(h3:c=false→r3 v1 v2=.ok v3 q3 [])(h4:c=false→r4 v1 v2 v3=.ok v4 q4 [])(hc:c=false→∀k:aa→List ab→Prop,k u0 σ→cl v1 v2 v3 v4 k)(g1:c=false→s1 u0 σ=.ok (.bool d) p1 [])(hK:K σ (.bool (c||d))) :
  (W P GL).gr (.bool c) false (λk=>(W P GL).rd r1 k) λt1=>(W P GL).gr (.bool c) false (λk=>(W P GL).rd (r2 t1) k) λt2=>(W P GL).gr (.bool c) false (λk=>(W P GL).rd (r3 t1 t2) k) λt3=>(W P GL).gr (.bool c) false (λk=>(W P GL).rd (r4 t1 t2 t3) k) λt4=>(W P GL).gw (.bool c) false (λk=>cl t1 t2 t3 t4 k) σ λw0 τ=>(W P GL).gr (.bool c) false (λk=>(W P GL).rd (s1 w0 τ) k) λw1=>(W P GL).rd (Ym [.bool c,.bool true,w1] τ) (K τ):=by
 cases c with
 |false=>exact Ya (Za (h1 rfl) (Ya (Za (h2 rfl) (Ya (Za (h3 rfl) (Ya (Za (h4 rfl) (Xa (hc rfl _ (Ya (Za (g1 rfl) (Za rfl hK))))))))))))
 |true=>exact Qa rfl (Qa rfl (Qa rfl (Qa rfl (Yb rfl (Qa rfl (Za rfl hK))))))
end
end Go.Ah
end
section
namespace Go.Ah
section
variable {P:Program} {GL:aw}
theorem JE(hP:P.follows .mixedOrders=true){k:MK}{xs ys zs:List aa}{f:FuncId}(hc:Zw k xs=some (f,ys)){np:Nat}{g:eH}(hg:lU P GL f np g)(hn:ys.length=np){σ τ τ':List ab}(fp ids:List Nat){v:aa}{m:Nat}(wQ:∀b∈fp,b∈ids)(l8:∀b∈ids,b<σ.length)
 (pN:fZ (m_ σ.length) ys=zs)(hτ:kN fp σ=τ)(h:g (W P GL) zs τ (λv' s=>v'=v∧s=τ'))(hk:τ'.length=σ.length+m)
 {K:aa→List Nat×List Nat→List ab→Prop}{u:aa}{up:List (Nat×ab)}{σ':List ab}(hv:v.cj (eD ids σ.length m)=u)(eA:((fp++List.range' σ.length m).map λb=>(b,(ah τ' b).c7 (aa.cj (eD ids σ.length m))))=up)(hu:gP σ up=some σ')(hK:K u (ids,up.map (·.1)) σ'):(W P GL).eJ k xs σ K:=by
 subst hv; subst eA;have Ee:zs.length=np:=by rw[←pN,XA,hn]
 obtain⟨F,h1,h2,h3⟩:=hg.zx hP (wa P GL) Ee h;refine Ew hc hg.plain (SD h1 (hn.trans h2.symm) σ fp ids wQ l8 pN hτ (h3.mono λe ρ s q=>?_) hk) hu hK
 grind
end
end Go.Ah
end
section
namespace Go.Ah
section
variable {P:Program} {GL:aw}
theorem Qo(hP:P.follows .mixedOrders=true){f:FuncId}{np:Nat}{g:eH}(hg:lU P GL f np g){xs:List aa}(hn:xs.length=np){y:aa}(h:g (W P GL) xs [] (λv' σ=>∃rd,aB (hp σ) rd v' y)):dM P GL f xs y:=by
 obtain⟨F,h1,h2,h3⟩:=hg.zx hP (wa P GL) hn h;intro w M vs hM hg hx;have r0:=br.start (GL:=GL) w M hM hg;have hh:hp []=nf:=by funext b; simp[hp,nf]
 rw[←hh] at r0;refine(Mu h1 (hn.trans h2.symm) h3 w ⟨[],M⟩ ⟨M,bg⟩ w vs r0 hx).mono ?_;rintro e w' ⟨u,he,g',x,σ',⟨rd,hR⟩,hle,r,d⟩
 let M2:Nat→Option Obj:=λb=>if b<w.heap.size then g'.M b else w'.heap[b]?
 have qp:vN g' (hp σ') w' M2:=by
  refine⟨λb o e=>?_,λb aE cb o e1 e2 e3 e4 e5=>?_⟩
  ·show (if b<w.heap.size then g'.M b else w'.heap[b]?)=some o;split
   ·exact e
   ·exact r.aR b o e
  ·obtain⟨_,cY,_⟩:=r.own b aE cb e1 e2 e3 e4
   grind
 have qq:=hR GL w ⟨[],M⟩ g' (hp σ') w' M2 r qp (λ_ _=>rfl) u d;refine⟨u,he,r.keeps,M2,λb o e=>qp.1 b o (hle.m b o e),λb o e=>?_,λb o e=>?_,qq⟩
 ·have e':(if b<w.heap.size then g'.M b else w'.heap[b]?)=some o:=e;split at e'
  ·exact r.aR b o e'
  ·exact e'
 ·have e':(if b<w.heap.size then g'.M b else w'.heap[b]?)=some o:=e;split at e'
  ·rcases r.src b o e' with q|q|q<;>simp_all
  ·exact .inr (by omega)
theorem aB.bn{h0:Hp}{rd:List Nat}{xs ys:List aa}(h1:bp h0 rd xs ys):aB h0 rd (.bn xs) (.bn ys):=by
 intro GL w0 L g h w M2 r hM cH v d;cases d with
 |bn _ _ vs hs hd=>
  obtain⟨hl,nI⟩:=h1.get r hM cH (vs:=vs.toList) (by simp[hs]) (λi x v e1 e2=>hd i x v e1 (by simpa using e2));exact .bn _ _ _ (by simpa[hs] using hl.symm) (λi x v e1 e2=>nI i x v e1 (by simpa using e2))
theorem aB.cy{h0:Hp}{rd:List Nat}{x y z:aa}(h:aB h0 rd x y)(k:∀(M:Nat→Option Obj) (u:Value),Den M bg y u→Den M bg z u):aB h0 rd x z:=
 λGL w0 L g h' w M2 r hM cH v d=>k M2 v (h GL w0 L g h' w M2 r hM cH v d)
theorem Den.iJ{M:Nat→Option Obj}{c:Own}{e n:Bool}{sz:Nat}{rows:List (List aa)}{u:Value}(h:Den M c (.ax e n sz rows) u):Den M c (.ax false false sz rows) u:=by
 cases h with
 |ax _ _ _ _ _ a cap aE off f q1 q2 q3 q4 q5 q6 q7 q8=>exact .ax _ _ _ _ _ a cap aE off f (λh=>by cases h) (λh=>by cases h) q3 q4 q5 q6 q7 q8
theorem Den.bC{M:Nat→Option Obj}{c:Own}{u:Value}(sz:Nat)(h:Den M c .aq u):Den M c (.ax false false sz []) u:=by
 cases h with
 |aq=>exact .ax _ _ _ _ [] none 0 0 0 (λ_ _=>undef) (λh=>by cases h) (λh=>by cases h) (λh=>(h rfl).elim) (λ_=>rfl) (by simp) (by simp) (by simp) (by simp)
theorem bp.ro{h0:Hp}{rd:List Nat}:∀ {l:List aa},fz l=true→bp h0 rd l l
 |[],_=>bp.nil
 |x::l,h=>by
  simp only[fz,Bool.and_eq_true] at h;exact bp.cons (aB.ro h.1) (bp.ro h.2)
theorem aB.own{σ:List ab}{rd:List Nat}{b off len sz:Nat}{ex:Bool}{rs rows:List (List aa)}(hb:ah σ b=.rows sz rs)(cY:b∈rd)(hle:off+len≤rs.length)(hc:cut off (off+len) rs=rows)(kV:∀r∈rs,fz r=true):aB (hp σ) rd (.sl b off len ex) (.ax false false sz rows):=by
 refine aB.cy (y:=.ax ex false sz rows) ?_ (λM u d=>d.iJ);have bZ:hp σ b=some (.rows sz rs):=Yx hb (by simp);subst hc;refine aB.sl bZ cY hle (Fa hle▸by omega) (λi row row' q1 q2=>?_)
 grind [cut,bp.ro]
theorem Ju(l:List (List aa))(n:Nat)(h:n=l.length):cut 0 (0+n) l=l:=by subst h; simp[cut]
theorem Qdg(x:List aa)(l:List (List aa))(n:Nat)(h:n=l.length):cut 1 (1+n) (x::l)=l:=by subst h; simp[cut,Nat.add_comm]
theorem Zx{k:MK}{xs ys zs:List aa}{f:FuncId}{v:aa}{rd:List Nat}(h:dM P GL f zs v){σ:List ab}(hc:Zw k xs=some (f,ys))(hY:Qj P f=true)(hb:bp (hp σ) rd ys zs)(hv:v.flat=true){K:aa→List ab→Prop}(hK:K v σ):(W P GL).call k xs σ K:=
 Ez hc hY (h.pS hb hv) (Xi σ) hK
theorem YW{k:MK}{xs ys zs:List aa}{f:FuncId}{v:aa}{rd:List Nat}(h:dM P GL f zs v){σ:List ab}(hc:Zw k xs=some (f,ys))(hY:Qj P f=true)(hb:bp (hp σ) rd ys zs)(hv:v.flat=true){K:aa→List Nat×List Nat→List ab→Prop}(hK:K v (rd,[]) σ):(W P GL).eJ k xs σ K:=
 Ew hc hY (h.pS hb hv) (Xi σ) hK
theorem Xcp{k:MK}{xs ys zs:List aa}{f:FuncId}{v:aa}{bs:List ab}{rd:List Nat}(h:dh P GL f zs v bs){σ:List ab}(hc:Zw k xs=some (f,ys))(hY:Qj P f=true)(hb:bp (hp σ) rd ys zs)(hv:v.c8=true)(Gv:xM bs=true){K:aa→List Nat×List Nat→List ab→Prop}(hK:K (v.cj (ZK σ.length)) (rd,wo σ.length (QA σ.length bs)) (σ++QA σ.length bs)):(W P GL).eJ k xs σ K:=
 Ew hc hY (h.pS hb hv Gv (λi _=>by simp[hp])) (JZ _ σ) (by rw[MA]; exact hK)
theorem Y6(n by_:Nat){σ:List ab}{b c len:Nat}{ex:Bool}{rs:List (List aa)}{row:List aa}(hb:ah σ b=.rows n rs)(hc:ah σ c=.rows n [row])(hl:rs.length=len)(hr:row.all aa.cell=true)(ct:(2*(len+1)+192)*by_≤2 ^ 48) :
  Zl n by_ [.sl b 0 len ex,.sl c 0 1 true] σ=.ok (.sl σ.length 0 (len+1) false) [c] ([(b,.dead)]++[(σ.length,.rows n (rs++[row]))]):=by
 simp_all [Qp,cut,Zl,QH,zh,Nat.ble_eq_true_of_le,Q7]
end
end Go.Ah
end
section
namespace Go.Ah
section
variable {H:Type}
def DL(M:Nat→Option Obj)(xs:List aa)(cs:List Value):Prop:=xs.length=cs.length∧∀(i:Nat) (x:aa) (v:Value),xs[i]?=some x→cs[i]?=some v→Den M bg x v
theorem DL.nil{M:Nat→Option Obj}:DL M [] []:=⟨rfl,λi x v h=>by simp at h⟩
theorem DL.one{M:Nat→Option Obj}{x:aa}{v:Value}(h:Den M bg x v):DL M [x] [v]:=by
 refine⟨rfl,λi y u h1 h2=>?_⟩;cases i with
 |zero=>simp at h1 h2; subst h1; subst h2; exact h
 |succ i=>simp at h1
theorem DL.append{M:Nat→Option Obj}{xs ys:List aa}{cs ds:List Value}(h:DL M xs cs)(k:DL M ys ds):DL M (xs++ys) (cs++ds):=by
 refine⟨by simp[h.1,k.1],λi x v h1 h2=>?_⟩;by_cases hi:i<xs.length
 ·rw[List.getElem?_append_left hi] at h1;rw[List.getElem?_append_left (by rw[←h.1]; exact hi)] at h2;exact h.2 i x v h1 h2
 ·rw[List.getElem?_append_right (by omega)] at h1;rw[List.getElem?_append_right (by rw[←h.1]; omega),←h.1] at h2;exact k.2 _ x v h1 h2
def vV{α β γ:Type}(R:α→β→γ→Prop):List α→List β→List γ→Prop
 |[],[],[]=>True
 |a::us,b::bs,c::cs=>R a b c∧vV R us bs cs
 |_,_,_=>False
def qm{α β:Type}(R:α→β→Prop):List α→List β→Prop
 |[],[]=>True
 |a::us,b::bs=>R a b∧qm R us bs
 |_,_=>False
theorem vV.cons{α β γ:Type}{R:α→β→γ→Prop}{a:α}{us:List α}{bs:List β}{cs:List γ}(h:vV R (a::us) bs cs):∃b Fw c yj,bs=b::Fw∧cs=c::yj∧R a b c∧vV R us Fw yj:=by
 match bs,cs,h with
 |b::bs,c::cs,h=>exact⟨b,bs,c,cs,rfl,rfl,h.1,h.2⟩
theorem vV.nil{α β γ:Type}{R:α→β→γ→Prop}{bs:List β}{cs:List γ}(h:vV R [] bs cs):bs=[]∧cs=[]:=by
 match bs,cs,h with
 |[],[],_=>exact⟨rfl,rfl⟩
theorem qm.cons{α β:Type}{R:α→β→Prop}{a:α}{us:List α}{bs:List β}(h:qm R (a::us) bs):∃b Fw,bs=b::Fw∧R a b∧qm R us Fw:=by
 match bs,h with
 |b::bs,h=>exact⟨b,bs,rfl,h.1,h.2⟩
theorem qm.length{α β:Type}{R:α→β→Prop}:∀ {us:List α} {bs:List β},qm R us bs→us.length=bs.length
 |[],[],_=>rfl
 |_::_,_::_,h=>by simp[qm.length h.2]
 |[],_::_,h=>h.elim
 |_::_,[],h=>h.elim
def Typed(P:Program):Nat→TypeId→List aa→DataW H→Prop
 |0,_,_,_=>False
 |fuel+1,t,xs,d=>match P.underlying t with
  |some .bool=>∃b,xs=[.bool b]∧d=.lit (.bool b)
  |some (.int k)=>∃n,xs=[.int k n]∧(Lit.int k n).wf=true∧d=.lit (.int k n)
  |some .string=>∃s,xs=[.str s]∧d=.lit (.string s)
  |some (.slice e)=>∃rows,xs=[.ax false false (P.cellsOf e) rows]∧((rows=[]∧d=.nil)∨∃es sp,d=.slice es sp∧qm (Typed P fuel e) rows es)
  |some (.struct fs)=>∃parts ds,xs=parts.flatten∧d=.agg ds∧vV (Typed P fuel) (fs.toList.map (·.type)) parts ds
  |some (.array n e)=>∃parts ds,xs=parts.flatten∧d=.agg ds∧parts.length=n∧qm (Typed P fuel e) parts ds
  |_=>False
def oj(P:Program):Nat→List Field→Option Nat
 |o,[]=>some o
 |o,f::r=>bif Nat.beq f.offset o then oj P (o+P.cellsOf f.type) r else none
def xH(P:Program)(S:List TypeId)(t:TypeId):Bool:=match P.underlying t with
 |some .bool=>Nat.beq (P.cellsOf t) 1
 |some (.int _)=>Nat.beq (P.cellsOf t) 1
 |some .string=>Nat.beq (P.cellsOf t) 1
 |some (.slice e)=>Nat.beq (P.cellsOf t) 1&&(Nat.blt 0 (P.cellsOf e)&&S.contains e)
 | some (.struct fs)=>(match oj P 0 fs.toList with
  |some n=>Nat.beq n (P.cellsOf t)
  | none=>false) && fs.toList.all λf=>S.contains f.type
 |some (.array n e)=>Nat.beq (P.cellsOf t) (n*P.cellsOf e)&&S.contains e
 |_=>false
variable {enc:TypeId×Value→H} {P:Program} {w:World} {base:Nat} {spare:Nat→Bool} {held:Bool}
theorem Jz{α β:Type}{f:α→Option β}:∀ {l:List α} {r:List β},l.mapM f=some r→qm (λa b=>f a=some b) l r
 |[],r,h=>by simp at h; subst h; trivial
 |a::l,r,h=>by
  rw[List.mapM_cons] at h;cases ha:f a with
  |none=>simp[ha] at h
  |some b=>
   cases hl:l.mapM f with
   |none=>simp[ha,hl] at h
   |some bs=>simp[ha,hl] at h; subst h; exact⟨ha,Jz hl⟩
def ED(enc:TypeId×Value→H)(P:Program)(w:World)(base:Nat)(spare:Nat→Bool)(held:Bool)(fuel:Nat)(t:TypeId)(cs:List Value)(d:DataW H):Prop:=∃ps,DataW.trod enc P w base spare held fuel t cs=some (d,ps)
def vP(enc:TypeId×Value→H)(P:Program)(w:World)(base:Nat)(spare:Nat→Bool)(held:Bool)(fuel:Nat)(t:TypeId):Prop:=
 ∀cs d,ED enc P w base spare held fuel t cs d→cs.length=P.cellsOf t∧∃xs,DL (λb=>w.heap[b]?) xs cs∧Typed P fuel t xs d
theorem MN{a:Addr}{v:Value}(h:w.cell? a=some v):a.spot=none∧gN (λb=>w.heap[b]?) a.block a.off=some v:=by
 unfold World.cell? at h;show _∧(match w.heap[a.block]? with
  |some (.cells c _ _)=>c[a.off]?
  | _=>none)=some v
 cases hb:w.heap[a.block]? with
 |none=>rw[hb] at h; cases h
 |some o=>
  rw[hb] at h;cases o with
  |cells c t fr=>
   simp only at h;split at h
   ·cases h
   ·rename_i hs;exact⟨by simpa using hs,h⟩
  |_=>cases h
theorem RC(a:Addr)(n:Nat):(a.add n).block=a.block:=by unfold Addr.add; split<;>rfl
theorem S6(a:Addr)(n:Nat):(a.add n).off=a.off+n:=by unfold Addr.add; split<;>simp_all
theorem Sx{fuel:Nat}{cs:List Value}:∀ {fs:List Field} {o n:Nat} {xs:List (DataW H×List MemPlace)},oj P o fs=some n→n≤cs.length→(∀f∈fs,vP enc P w base spare held fuel f.type) →
  qm (λ(f:Field) y=>DataW.trod enc P w base spare held fuel f.type ((cs.drop f.offset).take (P.cellsOf f.type))=some y) fs xs→o≤n ∧
  ∃parts,DL (λb=>w.heap[b]?) parts.flatten ((cs.take n).drop o)∧vV (Typed P fuel) (fs.map (·.type)) parts (xs.map (·.1))
 |[],o,n,xs,ht,hn,hf,h=>by
  simp only[oj,Option.some.injEq] at ht;subst ht
  match xs,h with
  |[],_=>
   refine⟨Nat.le_refl _,[],?_,trivial⟩;have:(cs.take o).drop o=[]:=by simp
   rw[this]; exact DL.nil
 |f::fs,o,n,xs,ht,hn,hf,h=>by
  simp only[oj] at ht;cases hb:Nat.beq f.offset o with
  |false=>rw[hb] at ht; cases ht
  |true=>
   rw[hb] at ht;have ho:=e9 hb;obtain⟨y,ys,rfl,h1,h2⟩:=h.cons;obtain⟨hle,parts,hd,h3⟩:=Sx ht hn (λg hg=>hf g (List.mem_cons_of_mem _ hg)) h2;obtain⟨hl,p,hp,hy⟩:=hf f (List.mem_cons_self ..) _ _ ⟨y.2,h1⟩;refine⟨by omega,p::parts,?_,hy,h3⟩;have e:(cs.take n).drop o=(cs.drop f.offset).take (P.cellsOf f.type)++(cs.take n).drop (o+P.cellsOf f.type):=by
    have e1:(cs.take n).drop o=((cs.take n).drop o).take (P.cellsOf f.type)++((cs.take n).drop o).drop (P.cellsOf f.type):=(List.take_append_drop _ _).symm;rw[e1,List.drop_drop,ho]
    congr 1
    rw[List.drop_take,List.take_take]
    congr 1
    omega
   rw[List.flatten_cons,e];exact hp.append hd
theorem U0{fuel:Nat}{e:TypeId}{cs:List Value}(hf:vP enc P w base spare held fuel e):∀ {n o:Nat} {xs:List (DataW H×List MemPlace)},(o+n)*P.cellsOf e≤cs.length →
  qm (λ(i:Nat) y=>DataW.trod enc P w base spare held fuel e ((cs.drop (i*P.cellsOf e)).take (P.cellsOf e))=some y) (List.range' o n) xs →
  ∃parts,DL (λb=>w.heap[b]?) parts.flatten ((cs.take ((o+n)*P.cellsOf e)).drop (o*P.cellsOf e))∧parts.length=n∧qm (Typed P fuel e) parts (xs.map (·.1))
 |0,o,xs,hn,h=>by
  match xs,h with
  |[],_=>
   refine⟨[],?_,rfl,trivial⟩;have:(cs.take ((o+0)*P.cellsOf e)).drop (o*P.cellsOf e)=[]:=by simp
   rw[this]; exact DL.nil
 |n+1,o,xs,hn,h=>by
  rw[List.range'_succ] at h;obtain⟨y,ys,rfl,h1,h2⟩:=h.cons;have ja:(o+1+n)*P.cellsOf e≤cs.length:=by rw[show o+1+n=o+(n+1) by omega]; exact hn
  obtain⟨parts,hd,h3,h4⟩:=U0 hf ja h2;obtain⟨hl,p,hp,hy⟩:=hf _ _ ⟨y.2,h1⟩;refine⟨p::parts,?_,by simp[h3],hy,h4⟩;have hs:(o+1)*P.cellsOf e=o*P.cellsOf e+P.cellsOf e:=by rw[Nat.add_mul,Nat.one_mul]
  have hm:(o+1)*P.cellsOf e≤(o+(n+1))*P.cellsOf e:=Nat.mul_le_mul_right _ (by omega);have e1:(cs.take ((o+(n+1))*P.cellsOf e)).drop (o*P.cellsOf e)=(cs.drop (o*P.cellsOf e)).take (P.cellsOf e)++(cs.take ((o+1+n)*P.cellsOf e)).drop ((o+1)*P.cellsOf e):=by
   rw[show o+1+n=o+(n+1) by omega,hs];have e2:(cs.take ((o+(n+1))*P.cellsOf e)).drop (o*P.cellsOf e)=((cs.take ((o+(n+1))*P.cellsOf e)).drop (o*P.cellsOf e)).take (P.cellsOf e)++((cs.take ((o+(n+1))*P.cellsOf e)).drop (o*P.cellsOf e)).drop (P.cellsOf e):=(List.take_append_drop _ _).symm;rw[e2,List.drop_drop]
   congr 1
   rw[List.drop_take,List.take_take]
   congr 1
   omega
  rw[List.flatten_cons,e1];exact hp.append hd
theorem SR{fuel:Nat}{e:TypeId}{a:Addr}(hf:vP enc P w base spare held fuel e)(pG:0<P.cellsOf e):∀ {n o:Nat} {xs:List (DataW H×List MemPlace)},
  qm (λ(i:Nat) y=>(w.cells? base (a.add (i*P.cellsOf e)) (P.cellsOf e)).bind (DataW.trod enc P w base spare held fuel e)=some y) (List.range' o n) xs →
  ∃(rows:List (List aa)) (f:Nat→Nat→Value),rows.length=n∧qm (Typed P fuel e) rows (xs.map (·.1))∧(n≠0→o=0→a.spot=none)∧(∀(i:Nat) (row:List aa),rows[i]?=some row→row.length=P.cellsOf e) ∧
   (∀i j,i<n→j<P.cellsOf e→gN (λb=>w.heap[b]?) a.block (a.off+((o+i)*P.cellsOf e+j))=some (f i j))∧(∀(i:Nat) (row:List aa) (j:Nat) (x:aa),rows[i]?=some row→row[j]?=some x→Den (λb=>w.heap[b]?) bg x (f i j))
 |0,o,xs,h=>by
  match xs,h with
  |[],_=>exact⟨[],λ_ _=>undef,rfl,trivial,λh _=>(h rfl).elim,by simp,by intro i j hi; omega,by simp⟩
 |n+1,o,xs,h=>by
  rw[List.range'_succ] at h;obtain⟨y,ys,rfl,h1,h2⟩:=h.cons;obtain⟨rows,f,q1,q2,q3,q4,q5,q6⟩:=SR hf pG h2;obtain⟨cs,hc,hy⟩:=Option.bind_eq_some_iff.1 h1;obtain⟨_,hl,mR⟩:=World.cells?_some hc;obtain⟨_,xs0,hd,KY⟩:=hf cs y.1 ⟨y.2,hy⟩;have n7:∀j,j<P.cellsOf e→∃v,cs[j]?=some v∧gN (λb=>w.heap[b]?) a.block (a.off+o*P.cellsOf e+j)=some v:=by
   intro j hj;obtain⟨v,hv⟩:∃v,cs[j]?=some v:=⟨cs[j]'(by omega),by simp[show j<cs.length by omega]⟩;have:=mR j hj;rw[hv] at this;obtain⟨m1,m2⟩:=MN this;rw[RC,RC,S6,S6] at m2;exact⟨v,hv,m2⟩
  refine⟨xs0::rows,λi j=>match i with|0=>(cs[j]?).getD undef|i+1=>f i j,by simp[q1],⟨KY,q2⟩,λ_ ho=>?_,?_,?_,?_⟩
  ·have:=mR 0 pG;rw[show cs[0]?=some (cs[0]'(by omega)) by simp[show 0<cs.length by omega]] at this;have:=(MN this).1;subst ho;simpa[Addr.add] using this
  ·intro i row hr;cases i with
   |zero=>simp at hr; subst hr; rw[hd.1,hl]
   |succ i=>exact q4 i row (by simpa using hr)
  ·intro i j hi hj;cases i with
   |zero=>
    obtain⟨v,e1,e2⟩:=n7 j hj;simp only[e1,Option.getD_some,Nat.add_zero];rw[←Nat.add_assoc]; exact e2
   |succ i=>
    have:=q5 i j (by omega) hj;rw[show o+(i+1)=o+1+i by omega];exact this
  ·intro i row j x hr hx;cases i with
   |zero=>
    simp at hr; subst hr;have hj:j<cs.length:=by rw[←hd.1]; exact(gn hx).1
    have hv:cs[j]?=some cs[j]:=by simp[hj]
    simp only[hv,Option.getD_some];exact hd.2 j x _ hx hv
   |succ i=>exact q6 i row j x (by simpa using hr) hx
theorem I7{S:List TypeId}(hS:S.all (xH P S)=true):∀(fuel:Nat) (t:TypeId),t∈S→vP enc P w base spare held fuel t
 |0,t,_=>by
  rintro cs d ⟨ps,h⟩;simp[DataW.trod] at h
 |fuel+1,t,ht=>by
  rintro cs d ⟨ps,h⟩;have bV:=List.all_eq_true.1 hS t ht;have ih:=λt ht=>I7 hS fuel t ht;unfold xH at bV;unfold DataW.trod at h;split at h
  case h_1=>
   rename_i hu;rw[hu] at bV;cases h;exact⟨(e9 bV).symm,_,DL.one (.bool _ _),by unfold Typed; rw[hu]; exact⟨_,rfl,rfl⟩⟩
  case h_2=>
   rename_i hu;rw[hu] at bV;split at h
   ·rename_i hk;obtain⟨rfl,hw⟩:=hk;cases h;exact⟨(e9 bV).symm,_,DL.one (.int _ _ _),by unfold Typed; rw[hu]; exact⟨_,rfl,hw,rfl⟩⟩
   ·cases h
  case h_4=>
   rename_i hu;rw[hu] at bV;split at h
   ·cases h;exact⟨(e9 bV).symm,_,DL.one (.str _ _),by unfold Typed; rw[hu]; exact⟨_,rfl,rfl⟩⟩
   ·cases h
  case h_7=>
   rename_i e hu;rw[hu] at bV;simp only[Bool.and_eq_true] at bV;cases h;refine⟨(e9 bV.1).symm,_,DL.one (Den.bC (P.cellsOf e) (.aq _)),?_⟩;unfold Typed; rw[hu]; exact⟨[],rfl,.inl ⟨rfl,rfl⟩⟩
  case h_8=>
   rename_i e a len cap hu;rw[hu] at bV;simp only[Bool.and_eq_true] at bV;obtain⟨k1,k2,k3⟩:=bV;have pG:0<P.cellsOf e:=gE k2;simp only at h;split at h
   ·rename_i hc;obtain⟨bQ,he,h⟩:=Option.bind_eq_some_iff.1 h;obtain⟨rest,hr,h⟩:=Option.map_eq_some_iff.1 h;cases h;rw[List.range_eq_range'] at he;obtain⟨rows,f,q1,q2,q3,q4,q5,q6⟩:=SR (ih e (List.contains_iff_mem.1 k3)) pG (Jz he);refine⟨(e9 k1).symm,[.ax false false (P.cellsOf e) rows],DL.one ?_,?_⟩
    ·rw[←q1];refine .ax _ false false (P.cellsOf e) rows (some a) cap a.block a.off f (λh=>by cases h) (λh=>by cases h) (λcL=>?_) (λh=>by cases h) (by rw[q1]; exact hc.2.1) q4 (λi j hi hj=>?_) q6
     ·have hn:len≠0:=λe=>cL (List.length_eq_zero_iff.1 (q1.trans e));have:=q3 hn rfl;cases a; simp at this; subst this; rfl
     ·have:=q5 i j (by omega) hj;rw[Nat.zero_add] at this; exact this
    ·unfold Typed; rw[hu]; exact⟨rows,rfl,.inr ⟨_,_,rfl,q2⟩⟩
   ·cases h
  case h_9=>
   rename_i fs hu;rw[hu] at bV;simp only[Bool.and_eq_true] at bV;obtain⟨k1,k2⟩:=bV;split at h
   ·rename_i hl;obtain⟨xs,hx,h⟩:=Option.map_eq_some_iff.1 h;cases h;cases ht:oj P 0 fs.toList with
    |none=>rw[ht] at k1; cases k1
    |some n=>
     rw[ht] at k1;have hn:=e9 k1;obtain⟨_,parts,hd,h3⟩:=Sx ht (by omega) (λg hg=>ih _ (List.contains_iff_mem.1 (List.all_eq_true.1 k2 g hg))) (Jz hx);refine⟨hl,parts.flatten,?_,?_⟩
     ·rw[List.drop_zero,List.take_of_length_le (by omega)] at hd; exact hd
     ·unfold Typed; rw[hu]; exact⟨parts,_,rfl,rfl,h3⟩
   ·cases h
  case h_10=>
   rename_i n e hu;rw[hu] at bV;simp only[Bool.and_eq_true] at bV;obtain⟨k1,k2⟩:=bV;have hn:=e9 k1;split at h
   ·rename_i hl;obtain⟨xs,hx,h⟩:=Option.map_eq_some_iff.1 h;cases h;rw[List.range_eq_range'] at hx;obtain⟨parts,hd,h3,h4⟩:=U0 (ih e (List.contains_iff_mem.1 k2)) (o:=0) (n:=n) (by rw[Nat.zero_add]; omega) (Jz hx);refine⟨hl,parts.flatten,?_,?_⟩
    ·rw[Nat.zero_mul,List.drop_zero,Nat.zero_add,List.take_of_length_le (by omega)] at hd; exact hd
    ·unfold Typed; rw[hu]; exact⟨parts,_,rfl,rfl,h3,h4⟩
   ·cases h
  all_goals first|(rename_i hu; rw[hu] at bV; exact absurd (show false=true from bV) (by decide))|cases h
end
end Go.Ah
end
section
namespace Go.Ah
section
variable {α β:Type}
abbrev Ek{α β:Type}:List α→(List α→β)→β
 |[],k=>k []
 |x::l,k=>Ek l λl=>k (x::l)
theorem Fi{α β:Type}:∀(l:List α) (k:List α→β),Ek l k=k l
 |[],_=>rfl
 |x::l,k=>Fi l λl=>k (x::l)
abbrev KC{α:Type}(d:Nat):Frame→(Frame→α)→α
 |[],k=>k []
 |(q,u)::r,k=>match Nat.beq q d with
  |true=>k r
  |false=>KC d r λr=>k ((q,u)::r)
theorem Vx{α:Type}(d:Nat):∀(ρ:Frame) (k:Frame→α),KC d ρ k=k (su d ρ)
 |[],_=>rfl
 |(q,u)::r,k=>by
  simp only[KC,su];cases Nat.beq q d
  ·simp only[]; rw[Vx d r]
  ·rfl
abbrev oC:Frame→Nat→(aa→β)→β
 |[],_,k=>k .aF
 |(q,v)::r,n,k=>match Nat.beq q n with
  |true=>k v
  |false=>oC r n k
theorem zb(n:Nat)(k:aa→β):∀ρ,oC ρ n k=k (bB ρ n)
 |[]=>rfl
 |(q,v)::r=>by
  simp only[oC,bB];cases Nat.beq q n
  ·exact zb n k r
  ·rfl
abbrev F'(ρ:Frame):ql→(aa→β)→β
 |.t n,k=>oC ρ n k
 |.c v,k=>k v
theorem Jj(ρ:Frame)(x:ql)(k:aa→β):F' ρ x k=k (ev ρ x):=by
 cases x
 ·exact zb ..
 ·rfl
abbrev nH(ρ:Frame):List ql→(List aa→β)→β
 |[],k=>k []
 |x::r,k=>F' ρ x λv=>nH ρ r λvs=>k (v::vs)
theorem Na(ρ:Frame):∀(l:List ql) (k:List aa→β),nH ρ l k=k (l.map (ev ρ))
 |[],_=>rfl
 |x::r,k=>by simp[Jj,Na]
abbrev jM(d:Option Nat)(v:aa)(ρ:Frame)(k:Frame→β):β:=match d with
 |some d=>KC d ρ λr=>k ((d,v)::r)
 |none=>k ρ
theorem R9(d:Option Nat)(v:aa)(ρ:Frame)(k:Frame→β):jM d v ρ k=k (cc d v ρ):=by
 cases d
 ·rfl
 ·simp only[jM,Vx]; rfl
abbrev nZ(ρ:Frame):List Nat→(List aa→β)→β
 |[],k=>k []
 |s::r,k=>oC ρ s λv=>nZ ρ r λvs=>k (v::vs)
theorem Nf(ρ:Frame):∀(l:List Nat) (k:List aa→β),nZ ρ l k=k (gq ρ l)
 |[],_=>rfl
 |x::r,k=>by simp only[nZ,zb,Nf ρ r]; rfl
abbrev nW(l:List Nat):Frame→(Frame→β)→β
 |[],k=>k []
 |(q,v)::r,k=>match sc q l with
  |true=>nW l r k
  |false=>nW l r λr=>k ((q,v)::r)
theorem Nn(l:List Nat):∀(ρ:Frame) (k:Frame→β),nW l ρ k=k (c6 l ρ)
 |[],_=>rfl
 |(q,v)::r,k=>by
  simp only[nW,c6];cases sc q l<;>simp only[Nn l r]
abbrev vm:List Nat→List aa→Frame→(Frame→β)→β
 |[],_,ρ,k=>k ρ
 |s::ks,vs,ρ,k=>vm ks (iL vs) ρ λr=>k ((s,oZ vs)::r)
theorem Ls:∀(l:List Nat) (vs:List aa) (ρ:Frame) (k:Frame→β),vm l vs ρ k=k (kq l vs ρ)
 |[],_,_,_=>rfl
 |s::ks,vs,ρ,k=>by simp only[vm,Ls ks]; rfl
def qC(A:ak α):=A.call
def qD(A:ak α):=A.eJ
def qT(A:ak α):=A.test
def qL(A:ak α):=A.loop
def qS(A:ak α):=A.stop
def zB(A:ak α)(o:aI)(ρ:Frame)(σ:List ab)(K:Frame→List ab→α):α:=
 match o.guard with
 |none=>match ew o.k with
  |.mv=>match o.xs with
   |[x]=>F' ρ x λv=>jM o.dst v ρ λρ=>K ρ σ
   |_=>qS A
  |.pu | .rd=>nH ρ o.xs λvs=>A.rd (ed o.k vs σ) λv=>jM o.dst v ρ λρ=>K ρ σ
  |.wr=>nH ρ o.xs λvs=>A.wr (ed o.k vs σ) σ λv σ=>jM o.dst v ρ λρ=>K ρ σ
  |.call=>nH ρ o.xs λvs=>qC A o.k vs σ λv σ=>jM o.dst v ρ λρ=>K ρ σ
 |some (s,w)=>nH ρ o.xs λvs=>oC ρ s λc=>match ew o.k with
  |.mv | .pu | .rd=>A.gr c w (λk=>A.rd (ed o.k vs σ) k) λv=>jM o.dst v ρ λρ=>K ρ σ
  |.wr=>A.gw c w (λk=>A.wr (ed o.k vs σ) σ k) σ λv σ=>jM o.dst v ρ λρ=>K ρ σ
  |.call=>A.gw c w (λk=>qC A o.k vs σ k) σ λv σ=>jM o.dst v ρ λρ=>K ρ σ
theorem QdC(A:ak α)(o:aI)(ρ:Frame)(σ:List ab)(K:Frame→List ab→α):zB A o ρ σ K=tW A o ρ σ K:=by
 unfold zB tW;simp only[Jj,Na,zb,R9];rfl
def mE(A:ak α):List aI→Frame→List ab→(Frame→List ab→α)→α
 |[],ρ,σ,K=>K ρ σ
 |o::r,ρ,σ,K=>zB A o ρ σ λρ σ=>mE A r ρ σ K
theorem E_(A:ak α):∀(l:List aI) (ρ:Frame) (σ:List ab) (K:Frame→List ab→α),mE A l ρ σ K=iA A l ρ σ K
 |[],_,_,_=>rfl
 |o::r,ρ,σ,K=>by simp only[mE,iA,QdC,E_ A r]
def tU(A:ak α)(o:aI)(ρ:Frame)(σ:List ab)(lg:Log)(K:Frame→List ab→Log→α):α:=
 match o.guard with
 |none=>match ew o.k with
  |.mv=>match o.xs with
   |[x]=>F' ρ x λv=>jM o.dst v ρ λρ=>K ρ σ (lg++[([],[])])
   |_=>qS A
  |.pu=>nH ρ o.xs λvs=>A.pu (ed o.k vs σ) λv=>jM o.dst v ρ λρ=>K ρ σ (lg++[([],[])])
  |.rd | .wr=>nH ρ o.xs λvs=>A.dr (ed o.k vs σ) σ λv l σ=>jM o.dst v ρ λρ=>K ρ σ (lg++[l])
  |.call=>nH ρ o.xs λvs=>qD A o.k vs σ λv l σ=>jM o.dst v ρ λρ=>K ρ σ (lg++[l])
 |some (s,w)=>nH ρ o.xs λvs=>oC ρ s λc=>match ew o.k with
  |.mv | .pu=>A.gr c w (λk=>A.pu (ed o.k vs σ) k) λv=>jM o.dst v ρ λρ=>K ρ σ (lg++[([],[])])
  |.rd | .wr=>A.gl c w (λk=>A.dr (ed o.k vs σ) σ k) σ λv l σ=>jM o.dst v ρ λρ=>K ρ σ (lg++[l])
  |.call=>A.gl c w (λk=>qD A o.k vs σ k) σ λv l σ=>jM o.dst v ρ λρ=>K ρ σ (lg++[l])
theorem Xdi(A:ak α)(o:aI)(ρ:Frame)(σ:List ab)(lg:Log)(K:Frame→List ab→Log→α):tU A o ρ σ lg K=px A o ρ σ lg K:=by
 unfold tU px;simp only[Jj,Na,zb,R9];rfl
def EI(A:ak α):List aI→Frame→List ab→Log→(Frame→List ab→Log→α)→α
 |[],ρ,σ,lg,K=>K ρ σ lg
 |o::r,ρ,σ,lg,K=>tU A o ρ σ lg λρ σ lg=>Ek lg λlg=>EI A r ρ σ lg K
theorem MW(A:ak α):∀(l:List aI) (ρ:Frame) (σ:List ab) (lg:Log) (K:Frame→List ab→Log→α),EI A l ρ σ lg K=y_ A l ρ σ lg K
 |[],_,_,_,_=>rfl
 |o::r,ρ,σ,lg,K=>by simp only[EI,y_,Xdi,MW A r,Fi]
def mF(A:ak α)(hd:List (List Nat)):Nat→ti→Frame→List ab→(Frame→List ab→α)→α
 |_,[],ρ,σ,K=>K ρ σ
 |lo,(eE,true)::r,ρ,σ,K=>mE A eE ρ σ λρ σ=>mF A hd (lo+eE.length) r ρ σ K
 |lo,(eE,false)::r,ρ,σ,K=>match kg eE with
  |true=>mE A eE ρ σ λρ σ=>mF A hd (lo+eE.length) r ρ σ K
  |false=>EI A eE ρ σ [] λρ σ lg=>A.gd (Xn (mS hd lo eE.length) lg) (mF A hd (lo+eE.length) r ρ σ K)
theorem Mc(A:ak α)(hd:List (List Nat)):∀(lo:Nat) (l:ti) (ρ:Frame) (σ:List ab) (K:Frame→List ab→α),mF A hd lo l ρ σ K=jP A hd lo l ρ σ K
 |_,[],_,_,_=>rfl
 |lo,(eE,true)::r,ρ,σ,K=>by simp only[mF,jP,E_,Mc A hd _ r]
 |lo,(eE,false)::r,ρ,σ,K=>by simp only[mF,jP,E_,MW,Mc A hd _ r]<;>cases kg eE<;>rfl
def dm(A:ak α):bA→Frame→List ab→(Frame→List ab→α)→(Nat→Frame→List ab→α)→(Frame→List ab→α)→α
 |.skip,ρ,σ,K,_,_=>K ρ σ
 |.label _,ρ,σ,K,_,_=>K ρ σ
 |.region _ ms none,ρ,σ,K,_,_=>mE A ms ρ σ K
 |.region _ ms (some hd),ρ,σ,K,_,_=>match kg ms with
  |true=>mE A ms ρ σ K
  |false=>EI A ms ρ σ [] λρ σ lg=>A.gd (Xn hd lg) (K ρ σ)
 |.gz _ ps hd,ρ,σ,K,_,_=>mF A hd 0 ps ρ σ K
 |.seq a b,ρ,σ,K,E,R=>dm A a ρ σ (λρ σ=>dm A b ρ σ K E R) E R
 |.cond c a b,ρ,σ,K,E,R=>F' ρ c λc=>qT A c (dm A a ρ σ K E R) (dm A b ρ σ K E R)
 |.join lv a,ρ,σ,K,E,R=>aH (λk=>dm A a ρ σ (λρ' σ=>nZ ρ' lv λvs=>k vs σ) E R) (λvs σ=>Ek a.jG λl=>nW l ρ λr=>vm lv vs r λr=>K r σ)
 | .block id a,ρ,σ,K,E,R=>dm A a ρ σ K (λi ρ σ=>match Nat.beq i id with
  |true=>K ρ σ
  | false=>E i ρ σ) R
 |.loop lv a,ρ,σ,_,E,R=>nZ ρ lv λvs=>qL A (λagain vs σ=>Ek a.jG λl=>nW l ρ λr=>vm lv vs r λr=>dm A a r σ (λρ' σ=>nZ ρ' lv λvs=>again vs σ) E R) vs σ
 |.exit id,ρ,σ,_,E,_=>E id ρ σ
 |.scope a,ρ,σ,K,E,R=>dm A a ρ σ K E R
 |.ret,ρ,σ,_,_,R=>R ρ σ
theorem vT(A:ak α):∀(D:bA) (ρ:Frame) (σ:List ab) (K:Frame→List ab→α) (E:Nat→Frame→List ab→α) (R:Frame→List ab→α),dm A D ρ σ K E R=dn A D ρ σ K E R
 |.skip,_,_,_,_,_=>rfl
 |.label _,_,_,_,_,_=>rfl
 |.region _ ms none,ρ,σ,K,E,R=>by simp only[dm,dn,E_]
 |.region _ ms (some hd),ρ,σ,K,E,R=>by simp only[dm,dn,E_,MW]<;>cases kg ms<;>rfl
 |.gz _ ps hd,ρ,σ,K,E,R=>by simp only[dm,dn,Mc]
 |.seq a b,ρ,σ,K,E,R=>by simp only[dm,dn,vT A a,vT A b]
 |.cond c a b,ρ,σ,K,E,R=>by simp only[dm,dn,qT,vT A a,vT A b,Jj]
 |.join lv a,ρ,σ,K,E,R=>by simp only[dm,dn,vT A a,Nf,Fi,Nn,Ls]
 |.block id a,ρ,σ,K,E,R=>by simp only[dm,dn,vT A a]<;>rfl
 |.loop lv a,ρ,σ,K,E,R=>by simp only[dm,dn,qL,vT A a,Nf,Fi,Nn,Ls]
 |.exit id,_,_,_,_,_=>rfl
 |.scope a,ρ,σ,K,E,R=>by simp only[dm,dn,vT A a]
 |.ret,_,_,_,_,_=>rfl
def zj(A:ak α):List RV→Frame→List ab→(List aa→α)→α
 |[],_,_,K=>K []
 |.t n::r,ρ,σ,K=>oC ρ n λv=>zj A r ρ σ λvs=>K (v::vs)
 |.c s agg n::r,ρ,σ,K=>oC ρ s λx=>A.opt (ga agg n x σ) λv=>zj A r ρ σ λvs=>K (v::vs)
theorem LK(A:ak α):∀(l:List RV) (ρ:Frame) (σ:List ab) (K:List aa→α),zj A l ρ σ K=wc A l ρ σ K
 |[],_,_,_=>rfl
 |.t n::r,ρ,σ,K=>by simp only[zj,wc,zb,LK A r]
 |.c s agg n::r,ρ,σ,K=>by simp only[zj,wc,zb,LK A r]
def kF(A:ak α)(o:Option te)(xs:List aa)(σ:List ab)(ret:aa→List ab→α):α:=match o with
 |some D=>Ek (dS xs) λρ=>dm A D.body ρ σ (λρ σ=>zj A D.fF ρ σ λvs=>ret (og vs) σ) (λ_ _ _=>qS A) (λρ σ=>zj A D.fF ρ σ λvs=>ret (og vs) σ)
 |none=>qS A
theorem XdC(A:ak α)(D:te)(xs:List aa)(σ:List ab)(ret:aa→List ab→α):kF A (some D) xs σ ret=tV A D xs σ ret:=by
 simp[kF,tV,qS,Fi,vT,LK]
end
theorem wm(n:Nat)(h:n<2 ^ 8):UInt8.ofBitVec (BitVec.ofFin ⟨n,h⟩)=UInt8.ofNat n:=by
 apply UInt8.toNat_inj.1;simp;exact(Nat.mod_eq_of_lt h).symm
section
variable {P:Program} {GL:aw} {f:FuncId} {l:List (Option (List Nat))}
theorem wg{np:Nat}{g:eH}(h:(dO P GL np f l).isSome=true)(hg:∀ {α:Type} (A:ak α) (xs:List aa) (σ:List ab) (ret:aa→List ab→α),xs.length=np→kF A (dO P GL np f l) xs σ ret=g A xs σ ret):lU P GL f np g:=by
 cases hD:dO P GL np f l with
 |none=>rw[hD] at h; cases h
 |some D=>
  refine YdW hD (λα A xs σ ret hn=>?_);simp_all [XdC]
end
structure H0 (P:Program) (GL:aw) (f:FuncId) (l:List (Option (List Nat))):Type 1 where
 g:∀ {α:Type},ak α→List ab→(aa→List ab→α)→α
 h:∀ {α:Type} (A:ak α) σ ret,kF A (dO P GL 0 f l) [] σ ret=g A σ ret:=by intros; conv=>lhs; reduce; simp only[Int.reduceOfNat,Int.reduceNegSucc,wm,UInt8.reduceOfNat,qC,qD,qT,qL,qS]
 k:(dO P GL 0 f l).isSome=true:=by kernel_rfl
abbrev H0.u{P:Program}{GL:aw}{f:FuncId}{l:List (Option (List Nat))}(q:H0 P GL f l):eH:=λA xs σ r=>match xs with
 |[]=>q.g A σ r
 |_=>A.stop
theorem H0.ok{P:Program}{GL:aw}{f:FuncId}{l:List (Option (List Nat))}(q:H0 P GL f l):lU P GL f 0 q.u:=wg q.k λA xs σ ret hn=>by
 match xs,hn with
 |[],_=>exact q.h A σ ret
structure H1 (P:Program) (GL:aw) (f:FuncId) (l:List (Option (List Nat))):Type 1 where
 g:∀ {α:Type},ak α→aa→List ab→(aa→List ab→α)→α
 h:∀ {α:Type} (A:ak α) x σ ret,kF A (dO P GL 1 f l) [x] σ ret=g A x σ ret:=by intros; conv=>lhs; reduce; simp only[Int.reduceOfNat,Int.reduceNegSucc,wm,UInt8.reduceOfNat,qC,qD,qT,qL,qS]
 k:(dO P GL 1 f l).isSome=true:=by kernel_rfl
abbrev H1.u{P:Program}{GL:aw}{f:FuncId}{l:List (Option (List Nat))}(q:H1 P GL f l):eH:=λA xs σ r=>match xs with
 |[x]=>q.g A x σ r
 |_=>A.stop
theorem H1.ok{P:Program}{GL:aw}{f:FuncId}{l:List (Option (List Nat))}(q:H1 P GL f l):lU P GL f 1 q.u:=wg q.k λA xs σ ret hn=>by
 match xs,hn with
 |[x],_=>exact q.h A x σ ret
structure H2 (P:Program) (GL:aw) (f:FuncId) (l:List (Option (List Nat))):Type 1 where
 g:∀ {α:Type},ak α→aa→aa→List ab→(aa→List ab→α)→α
 h:∀ {α:Type} (A:ak α) x y σ ret,kF A (dO P GL 2 f l) [x,y] σ ret=g A x y σ ret:=by intros; conv=>lhs; reduce; simp only[Int.reduceOfNat,Int.reduceNegSucc,wm,UInt8.reduceOfNat,qC,qD,qT,qL,qS]
 k:(dO P GL 2 f l).isSome=true:=by kernel_rfl
abbrev H2.u{P:Program}{GL:aw}{f:FuncId}{l:List (Option (List Nat))}(q:H2 P GL f l):eH:=λA xs σ r=>match xs with
 |[x,y]=>q.g A x y σ r
 |_=>A.stop
theorem H2.ok{P:Program}{GL:aw}{f:FuncId}{l:List (Option (List Nat))}(q:H2 P GL f l):lU P GL f 2 q.u:=wg q.k λA xs σ ret hn=>by
 match xs,hn with
 |[x,y],_=>exact q.h A x y σ ret
structure H3 (P:Program) (GL:aw) (f:FuncId) (l:List (Option (List Nat))):Type 1 where
 g:∀ {α:Type},ak α→aa→aa→aa→List ab→(aa→List ab→α)→α
 h:∀ {α:Type} (A:ak α) x y z σ ret,kF A (dO P GL 3 f l) [x,y,z] σ ret=g A x y z σ ret:=by intros; conv=>lhs; reduce; simp only[Int.reduceOfNat,Int.reduceNegSucc,wm,UInt8.reduceOfNat,qC,qD,qT,qL,qS]
 k:(dO P GL 3 f l).isSome=true:=by kernel_rfl
abbrev H3.u{P:Program}{GL:aw}{f:FuncId}{l:List (Option (List Nat))}(q:H3 P GL f l):eH:=λA xs σ r=>match xs with
 |[x,y,z]=>q.g A x y z σ r
 |_=>A.stop
theorem H3.ok{P:Program}{GL:aw}{f:FuncId}{l:List (Option (List Nat))}(q:H3 P GL f l):lU P GL f 3 q.u:=wg q.k λA xs σ ret hn=>by
 match xs,hn with
 |[x,y,z],_=>exact q.h A x y z σ ret
structure H4 (P:Program) (GL:aw) (f:FuncId) (l:List (Option (List Nat))):Type 1 where
 g:∀ {α:Type},ak α→aa→aa→aa→aa→List ab→(aa→List ab→α)→α
 h:∀ {α:Type} (A:ak α) x y z u σ ret,kF A (dO P GL 4 f l) [x,y,z,u] σ ret=g A x y z u σ ret:=by intros; conv=>lhs; reduce; simp only[Int.reduceOfNat,Int.reduceNegSucc,wm,UInt8.reduceOfNat,qC,qD,qT,qL,qS]
 k:(dO P GL 4 f l).isSome=true:=by kernel_rfl
abbrev H4.u{P:Program}{GL:aw}{f:FuncId}{l:List (Option (List Nat))}(q:H4 P GL f l):eH:=λA xs σ r=>match xs with
 |[x,y,z,u]=>q.g A x y z u σ r
 |_=>A.stop
theorem H4.ok{P:Program}{GL:aw}{f:FuncId}{l:List (Option (List Nat))}(q:H4 P GL f l):lU P GL f 4 q.u:=wg q.k λA xs σ ret hn=>by
 match xs,hn with
 |[x,y,z,u],_=>exact q.h A x y z u σ ret
structure H5 (P:Program) (GL:aw) (f:FuncId) (l:List (Option (List Nat))):Type 1 where
 g:∀ {α:Type},ak α→aa→aa→aa→aa→aa→List ab→(aa→List ab→α)→α
 h:∀ {α:Type} (A:ak α) x y z u v σ ret,kF A (dO P GL 5 f l) [x,y,z,u,v] σ ret=g A x y z u v σ ret:=by intros; conv=>lhs; reduce; simp only[Int.reduceOfNat,Int.reduceNegSucc,wm,UInt8.reduceOfNat,qC,qD,qT,qL,qS]
 k:(dO P GL 5 f l).isSome=true:=by kernel_rfl
abbrev H5.u{P:Program}{GL:aw}{f:FuncId}{l:List (Option (List Nat))}(q:H5 P GL f l):eH:=λA xs σ r=>match xs with
 |[x,y,z,u,v]=>q.g A x y z u v σ r
 |_=>A.stop
theorem H5.ok{P:Program}{GL:aw}{f:FuncId}{l:List (Option (List Nat))}(q:H5 P GL f l):lU P GL f 5 q.u:=wg q.k λA xs σ ret hn=>by
 match xs,hn with
 |[x,y,z,u,v],_=>exact q.h A x y z u v σ ret
structure H6 (P:Program) (GL:aw) (f:FuncId) (l:List (Option (List Nat))):Type 1 where
 g:∀ {α:Type},ak α→aa→aa→aa→aa→aa→aa→List ab→(aa→List ab→α)→α
 h:∀ {α:Type} (A:ak α) x y z u v w σ ret,kF A (dO P GL 6 f l) [x,y,z,u,v,w] σ ret=g A x y z u v w σ ret:=by intros; conv=>lhs; reduce; simp only[Int.reduceOfNat,Int.reduceNegSucc,wm,UInt8.reduceOfNat,qC,qD,qT,qL,qS]
 k:(dO P GL 6 f l).isSome=true:=by kernel_rfl
abbrev H6.u{P:Program}{GL:aw}{f:FuncId}{l:List (Option (List Nat))}(q:H6 P GL f l):eH:=λA xs σ r=>match xs with
 |[x,y,z,u,v,w]=>q.g A x y z u v w σ r
 |_=>A.stop
theorem H6.ok{P:Program}{GL:aw}{f:FuncId}{l:List (Option (List Nat))}(q:H6 P GL f l):lU P GL f 6 q.u:=wg q.k λA xs σ ret hn=>by
 match xs,hn with
 |[x,y,z,u,v,w],_=>exact q.h A x y z u v w σ ret
structure H7 (P:Program) (GL:aw) (f:FuncId) (l:List (Option (List Nat))):Type 1 where
 g:∀ {α:Type},ak α→aa→aa→aa→aa→aa→aa→aa→List ab→(aa→List ab→α)→α
 h:∀ {α:Type} (A:ak α) x y z u v w t σ ret,kF A (dO P GL 7 f l) [x,y,z,u,v,w,t] σ ret=g A x y z u v w t σ ret:=by intros; conv=>lhs; reduce; simp only[Int.reduceOfNat,Int.reduceNegSucc,wm,UInt8.reduceOfNat,qC,qD,qT,qL,qS]
 k:(dO P GL 7 f l).isSome=true:=by kernel_rfl
abbrev H7.u{P:Program}{GL:aw}{f:FuncId}{l:List (Option (List Nat))}(q:H7 P GL f l):eH:=λA xs σ r=>match xs with
 |[x,y,z,u,v,w,t]=>q.g A x y z u v w t σ r
 |_=>A.stop
theorem H7.ok{P:Program}{GL:aw}{f:FuncId}{l:List (Option (List Nat))}(q:H7 P GL f l):lU P GL f 7 q.u:=wg q.k λA xs σ ret hn=>by
 match xs,hn with
 |[x,y,z,u,v,w,t],_=>exact q.h A x y z u v w t σ ret
structure H8 (P:Program) (GL:aw) (f:FuncId) (l:List (Option (List Nat))):Type 1 where
 g:∀ {α:Type},ak α→aa→aa→aa→aa→aa→aa→aa→aa→List ab→(aa→List ab→α)→α
 h:∀ {α:Type} (A:ak α) x y z u v w t s σ ret,kF A (dO P GL 8 f l) [x,y,z,u,v,w,t,s] σ ret=g A x y z u v w t s σ ret:=by intros; conv=>lhs; reduce; simp only[Int.reduceOfNat,Int.reduceNegSucc,wm,UInt8.reduceOfNat,qC,qD,qT,qL,qS]
 k:(dO P GL 8 f l).isSome=true:=by kernel_rfl
abbrev H8.u{P:Program}{GL:aw}{f:FuncId}{l:List (Option (List Nat))}(q:H8 P GL f l):eH:=λA xs σ r=>match xs with
 |[x,y,z,u,v,w,t,s]=>q.g A x y z u v w t s σ r
 |_=>A.stop
theorem H8.ok{P:Program}{GL:aw}{f:FuncId}{l:List (Option (List Nat))}(q:H8 P GL f l):lU P GL f 8 q.u:=wg q.k λA xs σ ret hn=>by
 match xs,hn with
 |[x,y,z,u,v,w,t,s],_=>exact q.h A x y z u v w t s σ ret
end Go.Ah
end
section
namespace Go.Ah
theorem H0.e{P:Program}{GL:aw}{f:FuncId}{l:List (Option (List Nat))}(q:H0 P GL f l){α:Type}(A:ak α)(σ:List ab)(r:aa→List ab→α):q.u A [] σ r=q.g A  σ r:=rfl
theorem H1.e{P:Program}{GL:aw}{f:FuncId}{l:List (Option (List Nat))}(q:H1 P GL f l){α:Type}(A:ak α)(xa:aa)(σ:List ab)(r:aa→List ab→α):q.u A [xa] σ r=q.g A xa σ r:=rfl
theorem H2.e{P:Program}{GL:aw}{f:FuncId}{l:List (Option (List Nat))}(q:H2 P GL f l){α:Type}(A:ak α)(xa xb:aa)(σ:List ab)(r:aa→List ab→α):q.u A [xa,xb] σ r=q.g A xa xb σ r:=rfl
theorem H3.e{P:Program}{GL:aw}{f:FuncId}{l:List (Option (List Nat))}(q:H3 P GL f l){α:Type}(A:ak α)(xa xb xc:aa)(σ:List ab)(r:aa→List ab→α):q.u A [xa,xb,xc] σ r=q.g A xa xb xc σ r:=rfl
theorem H4.e{P:Program}{GL:aw}{f:FuncId}{l:List (Option (List Nat))}(q:H4 P GL f l){α:Type}(A:ak α)(xa xb xc xd:aa)(σ:List ab)(r:aa→List ab→α):q.u A [xa,xb,xc,xd] σ r=q.g A xa xb xc xd σ r:=rfl
theorem H5.e{P:Program}{GL:aw}{f:FuncId}{l:List (Option (List Nat))}(q:H5 P GL f l){α:Type}(A:ak α)(xa xb xc xd xe:aa)(σ:List ab)(r:aa→List ab→α):q.u A [xa,xb,xc,xd,xe] σ r=q.g A xa xb xc xd xe σ r:=rfl
theorem H6.e{P:Program}{GL:aw}{f:FuncId}{l:List (Option (List Nat))}(q:H6 P GL f l){α:Type}(A:ak α)(xa xb xc xd xe xf:aa)(σ:List ab)(r:aa→List ab→α):q.u A [xa,xb,xc,xd,xe,xf] σ r=q.g A xa xb xc xd xe xf σ r:=rfl
theorem H7.e{P:Program}{GL:aw}{f:FuncId}{l:List (Option (List Nat))}(q:H7 P GL f l){α:Type}(A:ak α)(xa xb xc xd xe xf xg:aa)(σ:List ab)(r:aa→List ab→α):q.u A [xa,xb,xc,xd,xe,xf,xg] σ r=q.g A xa xb xc xd xe xf xg σ r:=rfl
theorem H8.e{P:Program}{GL:aw}{f:FuncId}{l:List (Option (List Nat))}(q:H8 P GL f l){α:Type}(A:ak α)(xa xb xc xd xe xf xg xh:aa)(σ:List ab)(r:aa→List ab→α):q.u A [xa,xb,xc,xd,xe,xf,xg,xh] σ r=q.g A xa xb xc xd xe xf xg xh σ r:=rfl
end Go.Ah
end
section
namespace Go.Ah.Tz
@[reducible] def iv(n:Int):aa:=.int .i64 n
@[reducible] def ar(n:Int):aa:=.int .i8 n
def aY(n:Int):List aa:=[iv n]
@[reducible] def aV(l:List Int):aa:=.ax false false 1 (l.map aY)
structure Th where
 id:Int
 card:Int
 harm:Int
 oq:Bool
 deriving DecidableEq,Inhabited
def aP(t:Th):List aa:=[iv t.id,iv t.card,iv t.harm,.bool t.oq]
@[reducible] def il(l:List Th):aa:=.ax false false 4 (l.map aP)
structure Sd where
 aJ:Int
 aW:Int
 most:Int
 aA:List Int
 hand:List Int
 aj:List Int
 ae:List Th
 told:List Int
 deriving DecidableEq,Inhabited
@[reducible] def rm(s:Sd):List aa:=[iv s.aJ,iv s.aW,iv s.most,aV s.aA,aV s.hand,aV s.aj,il s.ae,aV s.told]
structure St where
 turn:Int
 mover:Int
 phase:Int
 bF:Bool
 result:Int
 al:List Int
 next:Int
 s0:Sd
 s1:Sd
 deriving DecidableEq,Inhabited
@[reducible] def aD(s:St):List aa:=[iv s.turn,iv s.mover,ar s.phase,.bool s.bF,ar s.result,aV s.al,iv s.next,
 iv s.s0.aJ,iv s.s0.aW,iv s.s0.most,aV s.s0.aA,aV s.s0.hand,aV s.s0.aj,il s.s0.ae,aV s.s0.told,
 iv s.s1.aJ,iv s.s1.aW,iv s.s1.most,aV s.s1.aA,aV s.s1.hand,aV s.s1.aj,il s.s1.ae,aV s.s1.told]
@[reducible] def cf(s:St):aa:=.agg (aD s)
theorem Qd{n:Nat}(h:(n:Int)<4611686018427387904):IntKind.i64.wrap ((n:Int)+1)=((n+1:Nat):Int):=by
 rw[IntWalk.i64_in _ (by omega)]; simp
theorem Yv{α:Type}(l:List α)(i:Nat)(h:i<l.length):l.take (i+1)=l.take i++[l[i]]:=by
 rw[List.take_succ_eq_append_getElem h]
theorem QZ{α β:Type}(f:α→β)(l:List α)(i:Nat)(h:i<l.length):(l.take i).map f++[f l[i]]=(l.take (i+1)).map f:=by
 rw[Yv l i h,List.map_append]; rfl
end Go.Ah.Tz
end
section
namespace Go.Ah.Tz
open Go.Proofs.Tryz (prog)
set_option maxRecDepth 100000
set_option maxHeartbeats 4000000
attribute [local irreducible] ak.rd ak.pu ak.wr ak.dr ak.gr ak.gw ak.gl ak.gd ak.opt aH oZ iL ga Xn qC qD qT qL qS Zl Q2 Zm QO Xh Zz X8 YG Eu Ym ZI ZJ YN YJ QG QD XB QB Qm Zy XN Qn tl QM Yy QN DI X9 DY Ql Z5 Ze Mv Yt Jd LU Yp YS Lj ZO Fb EV XS XE Q9 Zi M7 M5 Ms pd
abbrev GQ(f:FuncId)(n:Nat)(g:eH):Prop:=lU prog aK f n g
abbrev PC(f:FuncId)(xs:List aa)(v:aa):Prop:=dM prog aK f xs v
noncomputable abbrev VV:ak Prop:=W prog aK
def g3:H4 prog aK 3 [some [999],none,none,none,none,some [62,13],none,some [13],none,none,none,none]:={g:=_}
def g4:H1 prog aK 4 [none,some [8,3],none,none]:={g:=_}
def g5:H1 prog aK 5 [none,some [9,3],none,none]:={g:=_}
def g101:H3 prog aK 101 [some [999],none,none,none,some [],none,none,none,none,some [94],none,none]:={g:=_}
def g10:H2 prog aK 10 [none,none,some [5],none,none,none]:={g:=_}
def g106:H4 prog aK 106 [none]:={g:=_}
def g97:H5 prog aK 97 []:={g:=_}
def g26:H2 prog aK 26 [none,some [7],none,none,none,some [8],none,none,none]:={g:=_}
def g8:H3 prog aK 8 [none,none,none,none,none,some [7],none,none,none,none,some [11],none,none,none]:={g:=_}
def g98:H5 prog aK 98 []:={g:=_}
def g20:H3 prog aK 20 [none,none,some [23,9],none,some [9],none]:={g:=_}
def g18:H2 prog aK 18 [none,none,some [22,6],none,none,none,some [34,6],none,some [6],none]:={g:=_}
def g70:H4 prog aK 70 [none,some [11,10],none]:={g:=_}
def g17:H5 prog aK 17 [some [999],some [],none,none,none]:={g:=_}
def g28:H2 prog aK 28 [none,none,some [5],none,none,none]:={g:=_}
def g6:H0 prog aK 6 [some [999]]:={g:=_}
def g7:H4 prog aK 7 [some [999],none,none,some [46],none,none,none,none,some [17],some [],none,none,some [18],none,none,none,some [97],none,some [],none,none,none,none,some [29],none,none,none]:={g:=_}
def g9:H2 prog aK 9 [some [999],none,none,some [6,5],none,none,none,some [8,5],none,some [5],none]:={g:=_}
def g23:H3 prog aK 23 [some [999],none]:={g:=_}
def g11:H1 prog aK 11 [none,some [7,3],none,none,none]:={g:=_}
def g234:H3 prog aK 234 [none,none]:={g:=_}
def g32:H2 prog aK 32 [none]:={g:=_}
def g37:H2 prog aK 37 [none]:={g:=_}
def g125:H1 prog aK 125 []:={g:=_}
def g138:H2 prog aK 138 []:={g:=_}
def g14:H1 prog aK 14 [none,some [9],none,none]:={g:=_}
def l153{α:Type}(A:ak α)(x0 x1:aa)(σ:List ab)(ret:aa→List ab→α):α:=
 A.rd (Yp [x0] σ) λRh=>
 A.rd (Yp [x1] σ) λRl=>
 A.rd (Qn .neq false [Rh,Rl] σ) λsn=>
 A.test sn (
 ret (.bool false) σ) (
 A.loop (λag3 v4 σ=>
 A.rd (Yp [x0] σ) λIi=>
 A.rd (Qn .lss false [(h0 v4),Ii] σ) λu5=>
 A.test u5 (
 A.rd (Zm 4 [x0,(h0 v4)] σ) λva=>
 A.rd (Xh true 4 [va] σ) λIv=>
 A.rd (Zm 4 [x1,(h0 v4)] σ) λIx=>
 A.rd (Xh true 4 [Ix] σ) λAM=>
 A.rd (DY true [false,false,false,true] [Iv,AM] σ) λAR=>
 A.test AR (
 ret (.bool false) σ) (
 A.rd (Qn .add false [(h0 v4),(.int .i64 1)] σ) λAB=>
 ag3 [AB] σ)) (
 ret (.bool true) σ)) [(.int .i64 0)] σ)
theorem XdG{α:Type}(A:ak α)(x0 x1:aa)(σ:List ab)(ret:aa→List ab→α):kF A (dO prog aK 2 29 [none,none,some [5],none,none,none]) [x0,x1] σ ret=l153 A x0 x1 σ ret:=by kernel_rfl
def g29:H2 prog aK 29 [none,none,some [5],none,none,none]:=⟨l153,XdG,by kernel_rfl⟩
def g132:H7 prog aK 132 [none,some [4,18],none,none,none,some []]:={g:=_}
def g133:H1 prog aK 133 []:={g:=_}
def g134:H4 prog aK 134 [none]:={g:=_}
def g24:H1 prog aK 24 [none,none,none,some [5],none,none,none]:={g:=_}
def g25:H2 prog aK 25 [none,some [6,5],none,none,none,none,none,some [8,5],none,none,none,none,some [10],none,none,none]:={g:=_}
def g135:H1 prog aK 135 []:={g:=_}
def g136:H4 prog aK 136 [none]:={g:=_}
def g19:H2 prog aK 19 [none,some [9],none,none,none]:={g:=_}
def g41:H3 prog aK 41 [none]:={g:=_}
def g42:H2 prog aK 42 [none,none,some [6,5],none,some [5],none]:={g:=_}
def g43:H2 prog aK 43 []:={g:=_}
def g38:H3 prog aK 38 [none,some [20,6,7],none,some [6,7],none]:={g:=_}
def g77:H1 prog aK 77 [none,some [4,3],none,none]:={g:=_}
def g146:H2 prog aK 146 [some [5],none,none,some [6],none,none,none,none,none,none]:={g:=_}
def g12:H1 prog aK 12 [some [],none]:={g:=_}
def g69:H4 prog aK 69 [none,some [11,10],none]:={g:=_}
def g137:H3 prog aK 137 [none,some [],none,none,none,none,none,none]:={g:=_}
def g108:H3 prog aK 108 [some [],none]:={g:=_}
def g33:H1 prog aK 33 [none]:={g:=_}
def g35:H2 prog aK 35 [some [999],none,none,some [7],none,none]:={g:=_}
def g36:H2 prog aK 36 [some [999],none,some [33,4],none,some [4],none,some [8],none,some [11],none,none]:={g:=_}
def g155:H2 prog aK 155 []:={g:=_}
def g13:H2 prog aK 13 [some [999],some [],none]:={g:=_}
def g15:H2 prog aK 15 [some [999]]:={g:=_}
def g16:H6 prog aK 16 [some [999],none]:={g:=_}
def g21:H1 prog aK 21 [some [999],none,none,none,none]:={g:=_}
def g22:H1 prog aK 22 [some [999],none]:={g:=_}
def g27:H4 prog aK 27 [none,some [13,11,12],none,some [11,12],none]:={g:=_}
def g92:H1 prog aK 92 [none,some [10],none,none,none]:={g:=_}
def g126:H2 prog aK 126 []:={g:=_}
def g30:H1 prog aK 30 []:={g:=_}
def g56:H3 prog aK 56 [none,some [14],none,none,none,none,none,none,none,none,none,none,none,none,none,some [89],none,none,none,none,none,some [116],none,none,none]:={g:=_}
def g34:H1 prog aK 34 [none]:={g:=_}
def g44:H1 prog aK 44 [none,none,some [3],none,none,none,some [4],none,none,none,none]:={g:=_}
def g45:H1 prog aK 45 [none,some [3],none,none,none]:={g:=_}
def g46:H2 prog aK 46 [none,some [6],none,none,none,none]:={g:=_}
def g47:H1 prog aK 47 []:={g:=_}
def g48:H3 prog aK 48 [none,none,some [7],none,none,none]:={g:=_}
def g39:H2 prog aK 39 [none,some [8],none,none,none]:={g:=_}
def g40:H2 prog aK 40 []:={g:=_}
def g71:H2 prog aK 71 [none,some [8],none,none,none]:={g:=_}
def g148:H1 prog aK 148 []:={g:=_}
def g31:H1 prog aK 31 [some [999],none,some [],some [],none,none,none,none,none,none]:={g:=_}
def g129:H1 prog aK 129 []:={g:=_}
def g142:H2 prog aK 142 [none,some [13],none,some [],none]:={g:=_}
def g76:H1 prog aK 76 []:={g:=_}
def g57:H1 prog aK 57 [some [999],none]:={g:=_}
def g58:H1 prog aK 58 [none,none,some [18],none,some [],none,none,some [40],none,none,none,none,none]:={g:=_}
def g59:H2 prog aK 59 [some [999]]:={g:=_}
def g60:H2 prog aK 60 [some [999]]:={g:=_}
def g61:H1 prog aK 61 [some [999]]:={g:=_}
def l297{α:Type}(A:ak α)(x0 x1 x2:aa)(σ:List ab)(ret:aa→List ab→α):α:=
 A.wr (tl [x1] σ) σ λIy σ=>
 A.rd (Zi [x0] σ) λIh=>
 A.rd (Ze 29 [Ih] σ) λIl=>
 A.wr (Qm 1 [Il,(.func (.func 97) [] [])] σ) σ λ_ σ=>
 A.rd (Ze 0 [Iy] σ) λIo=>
 A.rd (Xh false 1 [Io] σ) λqj=>
 A.rd (Qn .eql false [qj,(.int .i8 1)] σ) λu9=>
 aH (λk6=>
 A.test u9 (
 A.rd (Zi [x0] σ) λIu=>
 A.rd (Ze 29 [Iu] σ) λIw=>
 A.wr (Qm 1 [Iw,(.func (.func 98) [] [])] σ) σ λ_ σ=>
 k6 [] σ) (
 k6 [] σ)) (λv7 σ=>
 A.rd (Ze 1 [Iy] σ) λAK=>
 A.rd (Xh false 1 [AK] σ) λAN=>
 A.call (.call 99) [x0,AN] σ λAV σ=>
 A.rd (Lz [218,219] [AV] σ) λvb=>
 A.rd (Ql 0 [vb] σ) λA0=>
 A.rd (Ql 1 [vb] σ) λA_=>
 A.rd (pd .not [A_] σ) λrD=>
 A.gr rD false (λk=>A.rd (Q9 [x2] σ) k) λBl=>
 A.gr rD false (λk=>A.rd (Qn .lss false [Bl,(.int .i64 0)] σ) k) λBq=>
 A.rd (Ym [rD,(.bool true),Bq] σ) λBu=>
 A.test Bu (
 ret (.int .i64 0) σ) (
 A.call (.invoke "baize/effect.harm" [(218,241),(219,242)]) [A0,x0,x2] σ λrE σ=>
 A.rd (Ql 0 [rE] σ) λBQ=>
 A.rd (Ql 1 [rE] σ) λBU=>
 A.rd (Ql 2 [rE] σ) λvd=>
 A.wr (Zy [(.int .i64 0),(.int .i64 0),(.int .i8 0),(.bool false),(.int .i8 0),.aq,(.int .i64 0),(.int .i64 0),(.int .i64 0),(.int .i64 0),.aq,.aq,.aq,.aq,.aq,(.int .i64 0),(.int .i64 0),(.int .i64 0),.aq,.aq,.aq,.aq,.aq] [] σ) σ λyZ σ=>
 A.wr (Zy [(.int .i8 0),(.int .i64 0),(.int .i64 0),(.int .i64 0),(.int .i64 0),(.int .i64 0),.aq] [] σ) σ λuY σ=>
 A.wr (Qm 23 [yZ,BQ] σ) σ λ_ σ=>
 A.wr (Qm 7 [uY,BU] σ) σ λ_ σ=>
 A.rd (Qn .neq false [vd,(.int .i64 0)] σ) λB8=>
 A.test B8 (
 ret vd σ) (
 A.rd (Xh true 23 [yZ] σ) λB'=>
 A.rd (Zi [x0] σ) λCb=>
 A.rd (Ze 2 [Cb] σ) λCc=>
 A.wr (Qm 23 [Cc,B'] σ) σ λ_ σ=>
 A.rd (Xh true 7 [uY] σ) λCf=>
 A.call (.call 100) [x0,Cf] σ λRe σ=>
 ret (.int .i64 0) σ)))
theorem QdG{α:Type}(A:ak α)(x0 x1 x2:aa)(σ:List ab)(ret:aa→List ab→α):kF A (dO prog aK 3 62 [some [],none,none]) [x0,x1,x2] σ ret=l297 A x0 x1 x2 σ ret:=by kernel_rfl
def g62:H3 prog aK 62 [some [],none,none]:=⟨l297,QdG,by kernel_rfl⟩
def g63:H3 prog aK 63 [some [999],none,some [23],none,none,none]:={g:=_}
def g64:H3 prog aK 64 [some [999],none,none,none]:={g:=_}
def g65:H3 prog aK 65 [some [999],none]:={g:=_}
def g66:H3 prog aK 66 [some [999],none]:={g:=_}
def g67:H3 prog aK 67 [some [999]]:={g:=_}
def g68:H3 prog aK 68 [some [999],none]:={g:=_}
def g110:H3 prog aK 110 [none,none,some [7],none,some [],none,none,none,none,none,none,some [9],some [9],none]:={g:=_}
def g49:H1 prog aK 49 [none,some [4,3],none,some [3],some [3],none]:={g:=_}
def g172:H2 prog aK 172 []:={g:=_}
def g173:H2 prog aK 173 []:={g:=_}
def g174:H2 prog aK 174 []:={g:=_}
def g175:H2 prog aK 175 []:={g:=_}
def g176:H2 prog aK 176 []:={g:=_}
def g177:H3 prog aK 177 [some [5]]:={g:=_}
def g120:H1 prog aK 120 []:={g:=_}
def g121:H1 prog aK 121 []:={g:=_}
def g122:H1 prog aK 122 [none,some [9],none,none,none]:={g:=_}
def g123:H1 prog aK 123 []:={g:=_}
def g124:H1 prog aK 124 [none,some [18],none,none,none,some [69,6],none,none,none,some [75,6],none,none,none]:={g:=_}
def g93:H4 prog aK 93 [none,none,some [85],none,none,none,none,some [106],none,none,none]:={g:=_}
def g72:H2 prog aK 72 [none,none,none]:={g:=_}
def g73:H2 prog aK 73 [none,some [5],none,some [],none,none,none,none,none,some [52],none,none,none,none,none]:={g:=_}
def g74:H1 prog aK 74 []:={g:=_}
def g75:H2 prog aK 75 [none,some [5],none,none,none,some [8,7],none,none,none]:={g:=_}
def g50:H1 prog aK 50 [some [999],none,none,some [5,4],none,none,none,none,none,none,some [5],none,none,none,none,none,none,none,some [12,13],none,none,none,none,none,some [16,15,5,4],none,some [15,5,4],none,none]:={g:=_}
def g51:H1 prog aK 51 [some [999]]:={g:=_}
def g52:H2 prog aK 52 [some [999]]:={g:=_}
def g53:H2 prog aK 53 [some [999],none]:={g:=_}
def g54:H2 prog aK 54 [some [999],some [],some [],some [6],none,none,none,none,none,none,none,none,none,some []]:={g:=_}
def g55:H2 prog aK 55 [some [999],some [],some [6],none,none,none,some [],none,none,none,none,none]:={g:=_}
def g158:H2 prog aK 158 [none,some [20],none,none,none,some [25],none,none,none]:={g:=_}
def g159:H2 prog aK 159 []:={g:=_}
def g130:H3 prog aK 130 [none,none,some [19],none,none,some [9],some [46],none,some [70],none,none,some [82],none,none,none,none]:={g:=_}
def g183:H1 prog aK 183 [some [999],some [0,2],some [0,2],some [2,0]]:={g:=_}
def g94:H2 prog aK 94 [none,some [33],none,none,none,none,some [43],none,none,none,none]:={g:=_}
def g95:H2 prog aK 95 [none,some [8],none,none,none]:={g:=_}
def g96:H1 prog aK 96 [some [999]]:={g:=_}
def g99:H2 prog aK 99 [some [999],none,none,none]:={g:=_}
def g100:H2 prog aK 100 [some [999]]:={g:=_}
def g102:H2 prog aK 102 [some [999],none]:={g:=_}
def g103:H1 prog aK 103 [some [999]]:={g:=_}
def g104:H3 prog aK 104 [some [999],none,some [11],none,none]:={g:=_}
def g105:H2 prog aK 105 []:={g:=_}
def g143:H1 prog aK 143 []:={g:=_}
def g144:H2 prog aK 144 [some [5],some [6],some [6],none,none,some [7],none,none,none,none,some [8],none,none,none,none]:={g:=_}
def g145:H1 prog aK 145 []:={g:=_}
def g147:H3 prog aK 147 [none,some [7],none,none,none]:={g:=_}
def g78:H1 prog aK 78 [none,some [4,3],none,none,none,some [5,3],none,none]:={g:=_}
def g116:H2 prog aK 116 [none,some [6],none,none,none]:={g:=_}
def g189:H2 prog aK 189 []:={g:=_}
def g190:H1 prog aK 190 [none,none,none,none,some [22,3],none,none]:={g:=_}
def g191:H1 prog aK 191 [none]:={g:=_}
def g192:H2 prog aK 192 []:={g:=_}
def g193:H1 prog aK 193 [none,none,none,none,none,some [20,3],none,none,none,some [32,3],none,none]:={g:=_}
def g194:H2 prog aK 194 [none,some [8],none,none,none]:={g:=_}
def g128:H1 prog aK 128 []:={g:=_}
def g127:H2 prog aK 127 []:={g:=_}
def g109:H1 prog aK 109 []:={g:=_}
def g111:H2 prog aK 111 []:={g:=_}
def g112:H2 prog aK 112 [some [0],some [1],none,none,none]:={g:=_}
def g113:H1 prog aK 113 [some [3],none,none,some [4,3],none,none]:={g:=_}
def g114:H1 prog aK 114 [none,none,none,none,none,some [4,3],none,none,none,some [5,3],none,none]:={g:=_}
def g81:H2 prog aK 81 [some [1,6],some [1,6],none,none,none]:={g:=_}
def g115:H1 prog aK 115 [none,some [4],none,none,none]:={g:=_}
def g79:H2 prog aK 79 [some [7,8,9],none,none,none,none,some [10,8],none,none,none,none]:={g:=_}
def g80:H1 prog aK 80 []:={g:=_}
def g82:H1 prog aK 82 []:={g:=_}
def g83:H0 prog aK 83 [some [999]]:={g:=_}
def g84:H1 prog aK 84 [some [999],none]:={g:=_}
def g85:H2 prog aK 85 [some [999],none]:={g:=_}
def g86:H1 prog aK 86 [some [999],none]:={g:=_}
def g87:H2 prog aK 87 [some [999],none]:={g:=_}
def g88:H3 prog aK 88 [some [999],none,some [7],none,some [],none]:={g:=_}
def g89:H1 prog aK 89 [some [999],none,some [3],none,none]:={g:=_}
def g90:H1 prog aK 90 [some [999],none,some [4,3],none,some [3],none,some [20],none,none,none,none,none]:={g:=_}
def g91:H1 prog aK 91 [some [999],none,some [4],none,none]:={g:=_}
def g181:H2 prog aK 181 [none,some [5],none,some [5],none,none,some [66,5],none,none,none,some [71,5],none,none,none,none,some [93,5],none,none,none,none,some [118,5],none,none,none,some [140,5],none,none,none,some [158],none,none,none]:={g:=_}
def g160:H1 prog aK 160 []:={g:=_}
def g161:H1 prog aK 161 [none,some [4],none,none,none,none]:={g:=_}
def g162:H2 prog aK 162 [some [6,7,5],none,some [37],none,none,none,some [47],none,none,some [59],none,none,none,none,none,none,some [85],none,none,none]:={g:=_}
def g163:H1 prog aK 163 []:={g:=_}
def g164:H2 prog aK 164 [some [7,5,6],some [26],none,none,none,some [32],none,none,none,none,some [82],none,none,none,none,some [100],none,none,none]:={g:=_}
def g131:H2 prog aK 131 [some [999],none,none,some [6],none]:={g:=_}
def g139:H2 prog aK 139 [none]:={g:=_}
def g140:H2 prog aK 140 []:={g:=_}
def g199:H0 prog aK 199 []:={g:=_}
def g156:H1 prog aK 156 [none,some [3],none,none,none]:={g:=_}
def g157:H1 prog aK 157 []:={g:=_}
def g149:H0 prog aK 149 []:={g:=_}
def g117:H1 prog aK 117 [some [999],some [],none,none,none,none,none,none,none,none,none]:={g:=_}
def g118:H1 prog aK 118 [some [999],none,some [4,3],none,none]:={g:=_}
def g119:H1 prog aK 119 [some [999],none,some [4,3],none,none,none,some [5,3],none,none]:={g:=_}
def g165:H1 prog aK 165 [some [999],none]:={g:=_}
def g166:H1 prog aK 166 [some [999]]:={g:=_}
def g167:H2 prog aK 167 [some [999],none,some [4,1],none,none,some [4,12],some [4,12],none]:={g:=_}
def g168:H5 prog aK 168 [some [999],some [],some [1],some [13],none,some [1,13],none,none,none,some [1,13],none,none,some [13],none]:={g:=_}
def g178:H1 prog aK 178 [none,some [3],none,some [16],none]:={g:=_}
def g179:H1 prog aK 179 []:={g:=_}
def g180:H0 prog aK 180 [none,some [7],none,none]:={g:=_}
def g150:H2 prog aK 150 [some [999],none,none,none,none]:={g:=_}
def g151:H1 prog aK 151 [some [999],some [],some [],none,none,some [4],none]:={g:=_}
def g152:H1 prog aK 152 [some [999],none]:={g:=_}
def g153:H1 prog aK 153 [some [999],none,some [],none,none]:={g:=_}
def g154:H1 prog aK 154 [some [999]]:={g:=_}
def g182:H1 prog aK 182 [some [999]]:={g:=_}
def g184:H1 prog aK 184 [some [999],none]:={g:=_}
def g185:H1 prog aK 185 [some [999]]:={g:=_}
def g186:H1 prog aK 186 [some [999],none]:={g:=_}
def g195:H1 prog aK 195 [none,some [6,5,3,4],none,none,none,none,some [12],none,none,none,some [12,10,11],none,none,none,none,some [12],none,none,none]:={g:=_}
def g169:H1 prog aK 169 [some [999],none,some [],none,none]:={g:=_}
def g170:H3 prog aK 170 [some [999]]:={g:=_}
def g171:H1 prog aK 171 [some [999],none,some [],none,none]:={g:=_}
def g196:H1 prog aK 196 [some [999],none]:={g:=_}
def g197:H1 prog aK 197 [some [999],none]:={g:=_}
def g200:H2 prog aK 200 [some [999],none,some [6,5],none,none,none,none,none,some [5],none,some [49],none,none]:={g:=_}
def g201:H1 prog aK 201 [some [999],none,none,some [7],none,none,none,none,none,none,none]:={g:=_}
def g187:H1 prog aK 187 [some [999],none,none,some [5],none,none,none,none,none,none,none,none,some [7],some [],none]:={g:=_}
def g188:H1 prog aK 188 [some [999],none,none,none,none,some [7],none,none,none]:={g:=_}
def g202:H2 prog aK 202 [some [999],none,none]:={g:=_}
def g198:H1 prog aK 198 [some [999],none,some [4,3],none,some [3],none,some [3],some [3],none,none,none,some [55],none,none,none,none,none]:={g:=_}
def g203:H2 prog aK 203 [some [999],none,none,some [20],none,none,none,none,none,some [7,8],none,none,none,none]:={g:=_}
def g204:H2 prog aK 204 [some [999],none,none,some [16],none,none,none,none,none,some [7,8],none,none,none,none]:={g:=_}
def g221:H2 prog aK 221 [none]:={g:=_}
def g222:H1 prog aK 222 []:={g:=_}
def g223:H1 prog aK 223 []:={g:=_}
def g224:H0 prog aK 224 []:={g:=_}
def g225:H1 prog aK 225 []:={g:=_}
def g226:H2 prog aK 226 []:={g:=_}
def g227:H2 prog aK 227 [none]:={g:=_}
def g228:H2 prog aK 228 []:={g:=_}
def g229:H2 prog aK 229 []:={g:=_}
def g230:H2 prog aK 230 []:={g:=_}
def g231:H2 prog aK 231 []:={g:=_}
def g232:H2 prog aK 232 [none]:={g:=_}
def g233:H2 prog aK 233 []:={g:=_}
def g235:H2 prog aK 235 []:={g:=_}
def g236:H2 prog aK 236 []:={g:=_}
def g237:H2 prog aK 237 []:={g:=_}
def g238:H2 prog aK 238 []:={g:=_}
def g239:H2 prog aK 239 []:={g:=_}
def g240:H2 prog aK 240 [none,some [17],none,none,none,some [40],none,none,none,none,none,none,none,none,none,none,some [121],none,none,none]:={g:=_}
def g241:H3 prog aK 241 [some [999]]:={g:=_}
def g242:H3 prog aK 242 [some [999]]:={g:=_}
end Go.Ah.Tz
end
section
namespace Go.Ah.Tz
open Go.Proofs.Tryz (prog)
theorem hP:prog.follows .mixedOrders=true:=by kernel_rfl
theorem c62(a b:List Int)(ha:a.length<4611686018427387904):PC 28 [aV a,aV b] (.bool (decide (a=b))):=by
 refine Yc hP g28.ok rfl rfl ?_;simp only[g28,H2.u,Zh,DQ,XZ,DN,List.length_map];refine⟨λh=>?_,λh=>?_⟩
 ·simp at h ⊢; rintro rfl; exact h rfl
 have hl:a.length=b.length:=by simp at h; omega
 refine Xj (ι:=Nat) (λi vs s=>vs=[iv i]∧i≤a.length∧a.take i=b.take i) (λi=>a.length-i) 0 ⟨rfl,by omega,by simp⟩ ?_;rintro i vs s again ⟨rfl,hi,ht⟩ aZ;simp only[DQ,h0,oZ,YZ,DN];refine⟨λh=>?_,λh=>?_⟩
 ·have h:i<a.length:=by simpa using h
  simp[Zp _ aY _ _ _ a _ i h,Zp _ aY _ _ _ b _ i (by omega),aY,Qd (n:=i) (by omega)];refine⟨λcL e=>?_,λhe=>?_⟩
  ·subst e; exact cL rfl
  ·refine aZ (i+1) _ _ (by omega) ⟨rfl,by omega,?_⟩;rw[List.take_succ_eq_append_getElem h,List.take_succ_eq_append_getElem (by omega),ht,he]
 ·have h:¬i<a.length:=by simpa using h
  rw[List.take_of_length_le (by omega),List.take_of_length_le (by omega)] at ht;simp[ht]
def fq(n:Nat)(rows:List (List aa))(k:Nat)(v:aa)(σ:List ab):Prop:=
 (k=0∧v=.aq∧rows=[])∨(0<k∧∃b,v=.sl b 0 k false∧ah σ b=.rows n rows∧rows.length=k)
theorem fq.nil(n:Nat)(σ:List ab):fq n [] 0 .aq σ:=.inl ⟨rfl,rfl,rfl⟩
theorem SC{α:Type}{f:α→List aa}{l:List α}{m:Nat→Option Nat}(h:∀x,(f x).map (aa.cj m)=f x):(l.map f).map (λr=>r.map (aa.cj m))=l.map f:=by
 rw[List.map_map]; apply List.map_congr_left; intro x _; exact h x
theorem ZdB(m:Nat→Option Nat)(x:Int):(aY x).map (aa.cj m)=aY x:=rfl
theorem XdM(m:Nat→Option Nat)(x:Th):(aP x).map (aa.cj m)=aP x:=rfl
theorem c63(a b:List Th)(ha:a.length<4611686018427387904):PC 29 [il a,il b] (.bool (decide (a=b))):=by
 refine Yc hP g29.ok rfl rfl ?_;simp only[g29,H2.u,Zh,DQ,XZ,DN,List.length_map];refine⟨λh=>?_,λh=>?_⟩
 ·simp at h ⊢; rintro rfl; exact h rfl
 have hl:a.length=b.length:=by simp at h; omega
 refine Xj (ι:=Nat) (λi vs s=>vs=[iv i]∧i≤a.length∧a.take i=b.take i) (λi=>a.length-i) 0 ⟨rfl,by omega,by simp⟩ ?_;rintro i vs s again ⟨rfl,hi,ht⟩ aZ;simp only[DQ,h0,oZ,YZ,DN];refine⟨λh=>?_,λh=>?_⟩
 ·have h:i<a.length:=by simpa using h
  have hq:DY true [false,false,false,true] [.agg (aP a[i]),.agg (aP b[i])] s=.ok (.bool (!decide (a[i]=b[i]))) [] []:=by
   have:(decide (a[i]=b[i]))=((a[i].id==b[i].id)&&((a[i].card==b[i].card)&&((a[i].harm==b[i].harm)&&((a[i].oq==b[i].oq)&&true)))):=by
    rw[Bool.eq_iff_iff];cases h1:a[i]; cases h2:b[i]; simp
   simp[DY,XV,DE,aP,this]
  simp only[Zp _ aP _ _ _ a _ i h,Zp _ aP _ _ _ b _ i (by omega),DQ,Tk,aL,show ∀x,takeN 4 (iB 0 (aP x))=some (aP x) from λ_=>rfl,hq,DN,Yj,Qd (n:=i) (by omega)];refine⟨λcL=>?_,λhe=>?_⟩
  ·simp at cL ⊢; intro e; subst e; exact cL rfl
  ·refine aZ (i+1) _ _ (by omega) ⟨rfl,by omega,?_⟩;rw[List.take_succ_eq_append_getElem h,List.take_succ_eq_append_getElem (by omega),ht,show a[i]=b[i] by simpa using he]
 ·have h:¬i<a.length:=by simpa using h
  rw[List.take_of_length_le (by omega),List.take_of_length_le (by omega)] at ht;simp[ht]
end Go.Ah.Tz
end
