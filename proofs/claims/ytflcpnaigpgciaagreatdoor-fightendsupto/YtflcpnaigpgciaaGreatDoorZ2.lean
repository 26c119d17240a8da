/- Part of the proof that FightEnds holds of the program for arguments that together hold at most 1048576 values and letters; no other condition. -/
import Derived.Test.YtflcpnaigpgciaaGreatDoorZ1
import Derived.Orders
import Derived.DataReads
import Derived.ChangeShapes
import Derived.Test.YtflcpnaigpgciaaGreatDoorProg
import Derived.KernelRfl
set_option linter.all false
section
namespace Go.Ah
def Loc(P:Program)(GL:aA)(m:aO)(ρ:Frame)(h0:Hp)(v:aa)(rd:List Nat)(up:List (Nat×ab)):Prop:=
 ∀(n:Nat) (ops:Array Oper) (o:Oper),gQ P GL n ops o m→∀(ρ':Frame) (h:Hp) (w0:World) (L:Ln) (g:Gm) (w:World) (a:Act),
  (∀t∈kD m,bn ρ' t=bn ρ t)→(∀b∈rd,h b=h0 b)→(∀p∈up,h p.1=h0 p.1)→a_ GL w0 L g h w→df n g ρ' a →
  ∀(next:Act→World→Prop) (Q:Exit→Act→World→Prop),(∀g' w' u,g.Le g'→a_ GL w0 L g' (ca h up) w'→df n g' (bK m.dst v ρ') (a.put o.dst u)→next (a.put o.dst u) w') →
   if Region.wanted o (yielded ops a.tmps) then o.wp P a w next Q∨(o.asks P a w∧LetsOut Q) else next (a.put o.dst undef) w
section
variable {P:Program} {GL:aA}
theorem Ja{m:aO}{ρ ρ':Frame}(h:∀t∈kD m,bn ρ' t=bn ρ t):m.xs.map (ev ρ')=m.xs.map (ev ρ):=by
 apply List.map_congr_left;intro x hx;cases x with
 |t n=>exact h n (List.mem_append.2 (.inl (List.mem_filterMap.2 ⟨.t n,hx,rfl⟩)))
 |c v=>rfl
theorem Y2{m:aO}{ρ ρ':Frame}(h:∀t∈kD m,bn ρ' t=bn ρ t){cs:List (Bool×Bool)}(hg:cx ρ m.guard cs):cx ρ' m.guard cs:=by
 unfold kD at h;generalize m.guard=gd at hg h;cases hg with
 |none=>exact .none
 |bool s w c e=>exact .bool s w c (by rw[h s (by simp)]; exact e)
 |when s w c cs e=>exact .when s w c cs (by rw[h s (by simp)]; exact e)
theorem VZ{m:aO}{ρ:Frame}{σ:List ab}{lg:Log}{K:Frame→List ab→Log→Prop}(s:dE true P GL m ρ σ lg K) :
  ∃v rd up σ',gy σ up=some σ'∧K (bK m.dst v ρ) σ' (lg++[(rd,up.map (·.1))])∧Loc P GL m ρ (hp σ) v rd up:=by
 cases s with
 |run cs ys v rd up σ' h1 h2 h3 h4 h5 h6=>
  refine⟨v,rd,up,σ',h5,h6,?_⟩;intro n ops o ok ρ' h w0 L g w a hu cB dH r d next Q hn;obtain⟨os,jn,uK⟩:=ok.op;have lA:=DK r d uK;rw[if_pos ((Zs ok d (Y2 hu h1)).1 h2)];left;have bY:=C6 trivial h3 (by rw[←Ja hu]; exact lA);have ho:=h4 o os jn w0 L g h w a r bY cB dH;refine ho.upon (λg' u w' hle hr hu=>hn g' w' u hle hr ?_);rw[ok.dst];exact(d.mono hle).bK ok.lt hu
 |skip cs h1 h2 h3=>
  refine⟨.aI,[],[],σ,rfl,h3,?_⟩;intro n ops o ok ρ' h w0 L g w a hu cB dH r d next Q hn;rw[if_neg (by rw[(Zs ok d (Y2 hu h1)).2 h2]; simp)];refine hn g w undef (Gm.Le.refl g) r ?_;rw[ok.dst];exact d.bK ok.lt (.aI _ _)
 |lazy cs ys v rd h1 h2 h3 h4=>
  refine⟨.when cs v,rd,[],σ,rfl,h4,?_⟩;intro n ops o ok ρ' h w0 L g w a hu cB dH r d next Q hn;obtain⟨os,jn,uK⟩:=ok.op;have lA:=DK r d uK;by_cases hh:dO cs
  ·rw[if_pos ((Zs ok d (Y2 hu h1)).1 hh)];left;have bY:=C6 hh h2 (by rw[←Ja hu]; exact lA);have ho:=h3 hh o os jn w0 L g h w a r bY cB dH;refine ho.upon (λg' u w' hle hr hu=>hn g' w' u hle hr ?_);rw[ok.dst];exact(d.mono hle).bK ok.lt (.when _ _ _ _ (λ_=>hu) (λh=>(h hh).elim))
  ·rw[if_neg (by rw[(Zs ok d (Y2 hu h1)).2 hh]; simp)];refine hn g w undef (Gm.Le.refl g) r ?_;rw[ok.dst];exact d.bK ok.lt (.when _ _ _ _ (λh=>(hh h).elim) (λ_=>rfl))
 |pick cs x y z c p q v h1 hk xi hx hy hz hv h8=>
  refine⟨v,[],[],σ,rfl,h8,?_⟩;intro n ops o ok ρ' h w0 L g w a hu cB dH r d next Q hn;obtain⟨os,jn,uK⟩:=ok.op;have lA:=DK r d uK;rw[Ja hu,xi] at lA;have yt:=Y2 hu h1;have jz:=jn;rw[hk] at jz;generalize qy:o.op=op at jz;cases jz with
  |pick oc oa ob=>
   obtain⟨d1,d2,d3,_⟩:=lA;by_cases hh:dO cs
   ·rw[if_pos ((Zs ok d yt).1 hh)];left;have e1:=ZA (zi hh hx d1);have lB:g.den (.bool (bif c then p else q)) (if c then a.eval oa else a.eval ob):=by
     cases c
     ·exact zi ⟨hh,rfl⟩ hz d3
     ·exact zi ⟨hh,rfl⟩ hy d2
    have bS:(execOp a.eval o).run P w=.ok (.value (if c then a.eval oa else a.eval ob)) w:=by
     simp only[execOp,qy,e1,asBool];simp
    unfold Oper.wp;rw[bS];refine hn g _ _ (Gm.Le.refl g) r ?_;rw[ok.dst];rcases hv with rfl|⟨rfl,rfl⟩
    ·exact d.bK ok.lt (.when _ _ _ _ (λ_=>lB) (λh=>(h hh).elim))
    ·exact d.bK ok.lt lB
   ·rw[if_neg (by rw[(Zs ok d yt).2 hh]; simp)];refine hn g _ _ (Gm.Le.refl g) r ?_;rw[ok.dst];rcases hv with rfl|⟨rfl,rfl⟩
    ·exact d.bK ok.lt (.when _ _ _ _ (λh=>(hh h).elim) (λ_=>rfl))
    ·exact(hh (by simp[dO])).elim
 |rel cs ys R h0=>cases h0
structure TS where
 v:aa
 rd:List Nat
 up:List (Nat×ab)
def Tr(P:Program)(GL:aA):List aO→List TS→Frame→List ab→Log→(Frame→List ab→Log→Prop)→Prop
 |[],[],ρ,σ,lg,Q=>Q ρ σ lg
 |m::ms,t::ts,ρ,σ,lg,Q=>Loc P GL m ρ (hp σ) t.v t.rd t.up∧∃σ',gy σ t.up=some σ'∧Tr P GL ms ts (bK m.dst t.v ρ) σ' (lg++[(t.rd,t.up.map (·.1))]) Q
 |_,_,_,_,_,_=>False
theorem Om:∀(ms:List aO) (ρ:Frame) (σ:List ab) (lg:Log) (Q:Frame→List ab→Log→Prop),je true P GL ms ρ σ lg Q→∃ts,Tr P GL ms ts ρ σ lg Q
 |[],ρ,σ,lg,Q,h=>⟨[],h⟩
 |m::ms,ρ,σ,lg,Q,h=>by
  obtain⟨v,rd,up,σ',h1,h2,h3⟩:=VZ h;obtain⟨ts,ht⟩:=Om ms _ _ _ Q h2;exact⟨⟨v,rd,up⟩::ts,h3,σ',h1,ht⟩
def j_(S:Nat→Bool):Nat→List aO→List TS→Frame→Frame
 |i,m::ms,t::ts,ρ=>j_ S (i+1) ms ts (if S i then bK m.dst t.v ρ else ρ)
 |_,_,_,ρ=>ρ
def jD(S:Nat→Bool):Nat→List TS→Hp→Hp
 |i,t::ts,h=>jD S (i+1) ts (if S i then ca h t.up else h)
 |_,_,h=>h
theorem C9{S S':Nat→Bool}{t:Nat}:∀(ms:List aO) (ts:List TS) (i:Nat) (ρ ρ':Frame),(∀(k:Nat) (m:aO),ms[k]?=some m→m.dst=some t→S (i+k)=S' (i+k))→bn ρ t=bn ρ' t→bn (j_ S i ms ts ρ) t=bn (j_ S' i ms ts ρ') t
 |[],_,_,_,_,_,h=>by simpa[j_] using h
 |_::_,[],_,_,_,_,h=>by simpa[j_] using h
 |m::ms,x::ts,i,ρ,ρ',hs,h=>by
  simp only[j_];refine C9 ms ts (i+1) _ _ (λk m' e1 e2=>by have:=hs (k+1) m' (by simpa using e1) e2; rwa [show i+(k+1)=i+1+k by omega] at this) ?_;by_cases hd:m.dst=some t
  ·have:=hs 0 m rfl hd;rw[Nat.add_zero] at this;rw[this];cases S' i<;>simp[X1,hd,h]
  ·have e1:∀(b:Bool) (r:Frame),bn (if b then bK m.dst x.v r else r) t=bn r t:=by intro b r; cases b<;>simp[X1,hd]
   rw[e1,e1,h]
theorem Jk:∀(up:List (Nat×ab)) (h h':Hp) (b:Nat),b∈up.map (·.1)→ca h up b=ca h' up b
 |[],_,_,_,e=>by cases e
 |(a,x)::up,h,h',b,e=>by
  by_cases hb:b∈up.map (·.1)
  ·exact Jk up _ _ b hb
  ·have:b=a:=by simp at e hb; rcases e with e|⟨y,e⟩; exact e; exact(hb y e).elim
   subst this;have out:∀(up:List (Nat×ab)) (h:Hp),b∉up.map (·.1)→ca h up b=h b:=by
    intro up
    induction up with
    |nil=>intro h _; rfl
    |cons p up ih=>
     intro h hn;simp only[List.map_cons,List.mem_cons,not_or] at hn;obtain⟨a,x⟩:=p;show ca (dH h a x) up b=h b;rw[ih _ hn.2,Xq _ _ hn.1]
   show ca (dH h b x) up b=ca (dH h' b x) up b;rw[out _ _ hb,out _ _ hb,Xs,Xs]
theorem IV:∀(up:List (Nat×ab)) (h:Hp) (b:Nat),b∉up.map (·.1)→ca h up b=h b
 |[],_,_,_=>rfl
 |(a,x)::up,h,b,hn=>by
  simp only[List.map_cons,List.mem_cons,not_or] at hn;show ca (dH h a x) up b=h b;rw[IV up _ b hn.2,Xq _ _ hn.1]
theorem C0{S S':Nat→Bool}{b:Nat}:∀(ts:List TS) (i:Nat) (h h':Hp),(∀(k:Nat) (t:TS),ts[k]?=some t→b∈t.up.map (·.1)→S (i+k)=S' (i+k))→h b=h' b→jD S i ts h b=jD S' i ts h' b
 |[],_,_,_,_,h=>by simpa[jD] using h
 |x::ts,i,h,h',hs,e=>by
  simp only[jD];refine C0 ts (i+1) _ _ (λk t e1 e2=>by have:=hs (k+1) t (by simpa using e1) e2; rwa [show i+(k+1)=i+1+k by omega] at this) ?_;by_cases hd:b∈x.up.map (·.1)
  ·have:=hs 0 x rfl hd;rw[Nat.add_zero] at this;rw[this];cases S' i
   ·simpa using e
   ·simpa using Jk _ _ _ _ hd
  ·have e1:∀(c:Bool) (r:Hp),(if c then ca r x.up else r) b=r b:=by intro c r; cases c<;>simp[IV _ _ _ hd]
   rw[e1,e1,e]
theorem O2{S:Nat→Bool}{t:Nat}:∀(ms:List aO) (ts:List TS) (i:Nat) (ρ:Frame) (j:Nat) (m:aO) (x:TS),ms[j]?=some m→ts[j]?=some x→m.dst=some t→S (i+j)=true →
  (∀(k:Nat) (m':aO),ms[k]?=some m'→m'.dst=some t→S (i+k)=true→k≤j)→bn (j_ S i ms ts ρ) t=x.v
 |m::ms,x::ts,i,ρ,0,m0,x0,e1,e2,e3,e4,hl=>by
  simp at e1 e2; subst e1 e2;rw[Nat.add_zero] at e4;simp only[j_,e4,if_true];have:=C9 (S:=S) (S':=λ_=>false) (t:=t) ms ts (i + 1) (bK m.dst x.v ρ) (bK m.dst x.v ρ) (λk m' q1 q2=>by
   cases hS:S (i+1+k) with
   |false=>rfl
   | true=>have:=hl (k + 1) m' (by simpa using q1) q2 (by rwa [show i + (k + 1)=i + 1 + k by omega]); omega) rfl
  rw[this];have iA:∀(ms:List aO) (ts:List TS) (i:Nat) (ρ:Frame),j_ (λ_=>false) i ms ts ρ=ρ:=by
   intro ms
   induction ms with
   |nil=>intros; simp[j_]
   |cons m ms ih=>intro ts i ρ; cases ts with
    |nil=>simp[j_]
    |cons x ts=>simp[j_,ih]
  rw[iA,X1,if_pos e3]
 |m::ms,x::ts,i,ρ,j+1,m0,x0,e1,e2,e3,e4,hl=>by
  simp only[j_];exact O2 ms ts (i + 1) _ j m0 x0 (by simpa using e1) (by simpa using e2) e3 (by rwa [show i + 1 + j=i + (j + 1) by omega]) (λk m' q1 q2 q3=>by
   have:=hl (k + 1) m' (by simpa using q1) q2 (by rwa [show i + (k + 1)=i + 1 + k by omega]); omega)
 |[],_,_,_,_,_,_,e1,_,_,_,_=>by simp at e1
 |_::_,[],_,_,_,_,_,_,e2,_,_,_=>by simp at e2
theorem Nf{S:Nat→Bool}{b:Nat}:∀(ts:List TS) (i:Nat) (h:Hp) (j:Nat) (x:TS),ts[j]?=some x→b∈x.up.map (·.1)→S (i+j)=true →
  (∀(k:Nat) (x':TS),ts[k]?=some x'→b∈x'.up.map (·.1)→S (i+k)=true→k≤j)→∀h':Hp,jD S i ts h b=ca h' x.up b
 |x::ts,i,h,0,x0,e2,e3,e4,hl,h'=>by
  simp at e2; subst e2;rw[Nat.add_zero] at e4;simp only[jD,e4,if_true];have:=C0 (S:=S) (S':=λ_=>false) (b:=b) ts (i + 1) (ca h x.up) (ca h' x.up) (λk m' q1 q2=>by
   cases hS:S (i+1+k) with
   |false=>rfl
   | true=>have:=hl (k + 1) m' (by simpa using q1) q2 (by rwa [show i + (k + 1)=i + 1 + k by omega]); omega) (Jk _ _ _ _ e3)
  rw[this];have iA:∀(ts:List TS) (i:Nat) (h:Hp),jD (λ_=>false) i ts h=h:=by
   intro ts
   induction ts with
   |nil=>intros; simp[jD]
   |cons m ms ih=>intro i ρ; simp[jD,ih]
  rw[iA]
 |x::ts,i,h,j+1,x0,e2,e3,e4,hl,h'=>by
  simp only[jD];exact Nf ts (i + 1) _ j x0 (by simpa using e2) e3 (by rwa [show i + 1 + j=i + (j + 1) by omega]) (λk m' q1 q2 q3=>by
   have:=hl (k + 1) m' (by simpa using q1) q2 (by rwa [show i + (k + 1)=i + 1 + k by omega]); omega) h'
 |[],_,_,_,_,e2,_,_,_,_=>by simp at e2
theorem JZ:∀(ms:List aO) (ts:List TS) (i:Nat) (ρ:Frame) (σ:List ab) (lg:Log) (Q:Frame→List ab→Log→Prop),Tr P GL ms ts ρ σ lg Q →
  ts.length=ms.length ∧
  (∀(j:Nat) (m:aO) (x:TS),ms[j]?=some m→ts[j]?=some x→∃ρ',(∀t,bn ρ' t=bn (j_ (λk=>decide (k<i+j)) i ms ts ρ) t)∧Loc P GL m ρ' (jD (λk=>decide (k<i+j)) i ts (hp σ)) x.v x.rd x.up) ∧
  ∃ρ' σ',(∀t,bn ρ' t=bn (j_ (λ_=>true) i ms ts ρ) t)∧hp σ'=jD (λ_=>true) i ts (hp σ)∧Q ρ' σ' (lg++ts.map λx=>(x.rd,x.up.map (·.1)))
 |[],[],i,ρ,σ,lg,Q,h=>⟨rfl,by simp,ρ,σ,by simp[j_],by simp[jD],by simpa[Tr] using h⟩
 |[],_::_,_,_,_,_,_,h=>h.elim
 |_::_,[],_,_,_,_,_,h=>h.elim
 |m::ms,x::ts,i,ρ,σ,lg,Q,h=>by
  obtain⟨h1,σ',h2,h3⟩:=h;obtain⟨k1,k2,ρ2,σ2,k3,k4,k5⟩:=JZ ms ts (i+1) _ _ _ _ h3;have hu:=DR _ _ _ h2;refine⟨by simp[k1],λj m' x' e1 e2=>?_,ρ2,σ2,λt=>by rw[k3 t]; simp[j_],by rw[k4]; simp only[jD,if_true]; rw[hu],by simpa[List.append_assoc] using k5⟩;cases j with
  |zero=>
   simp at e1 e2; subst e1 e2;have hf:∀t,bn ρ t=bn (j_ (λk=>decide (k<i+0)) i (m::ms) (x::ts) ρ) t:=by
    intro t;have:=C9 (S:=λk=>decide (k<i+0)) (S':=λ_=>false) (t:=t) (m::ms) (x::ts) i ρ ρ (λk _ _ _=>by simp) rfl;rw[this];have iA:∀(ms:List aO) (ts:List TS) (i:Nat) (ρ:Frame),j_ (λ_=>false) i ms ts ρ=ρ:=by
     intro ms
     induction ms with
     |nil=>intros; simp[j_]
     |cons m ms ih=>intro ts i ρ; cases ts with
      |nil=>simp[j_]
      |cons x ts=>simp[j_,ih]
    rw[iA]
   have hh:jD (λk=>decide (k<i+0)) i (x::ts) (hp σ)=hp σ:=by
    funext b
    have:=C0 (S:=λk=>decide (k<i+0)) (S':=λ_=>false) (b:=b) (x::ts) i (hp σ) (hp σ) (λk _ _ _=>by simp) rfl;rw[this];have iA:∀(ts:List TS) (i:Nat) (h:Hp),jD (λ_=>false) i ts h=h:=by
     intro ts
     induction ts with
     |nil=>intros; simp[jD]
     |cons m ms ih=>intro i ρ; simp[jD,ih]
    rw[iA]
   exact⟨ρ,hf,by rw[hh]; exact h1⟩
  |succ j=>
   simp at e1 e2;obtain⟨ρ',q1,q2⟩:=k2 j m' x' e1 e2;refine⟨ρ',λt=>?_,?_⟩
   ·rw[q1 t]; simp only[j_];rw[if_pos (by simp)];rw[show i+(j+1)=i+1+j by omega]
   ·simp only[jD];rw[if_pos (by simp),hu,show i+(j+1)=i+1+j by omega];exact q2
end
end Go.Ah
end
section
namespace Go.Ah
theorem YN:∀ {a b:List Nat},fR a b=true→∀x,x∈a→x∉b
 |[],_,_,x,h=>by cases h
 |y::a,b,hd,x,h=>by
  simp only[fR,Bool.and_eq_true,Bool.not_eq_true'] at hd;rcases List.mem_cons.1 h with rfl|h
  ·intro hb; have:=List.contains_iff_mem.2 hb; rw[hd.1] at this; cases this
  ·exact YN hd.2 x h
theorem Mi{h:List Nat}{q:List Nat×List Nat}:∀ {lg:Log} {i:Nat},QB h q i lg=true→∀(k:Nat) (p:List Nat×List Nat),lg[k]?=some p→(i+k)∈h∨fF p q=true
 |[],_,_,_,_,e=>by simp at e
 |p::lg,i,hh,0,p',e=>by
  simp at e; subst e;simp only[QB,Bool.and_eq_true,Bool.or_eq_true] at hh;rcases hh.1 with h1|h1
  ·exact .inl (List.contains_iff_mem.1 h1)
  ·exact .inr h1
 |p::lg,i,hh,k+1,p',e=>by
  simp only[QB,Bool.and_eq_true] at hh;have:=Mi hh.2 k p' (by simpa using e)
  rwa [show i+(k+1)=i+1+k by omega]
def tf(S:Nat→Bool):Nat→Nat
 |0=>0
 |n+1=>tf S n+(if S n then 0 else 1)
theorem OZ{S:Nat→Bool}:∀ {n:Nat},tf S n=0→∀k,k<n→S k=true
 |0,_,k,h=>by omega
 |n+1,e,k,h=>by
  simp only[tf] at e;by_cases hk:k=n
  ·subst hk;cases hs:S k with
   |true=>rfl
   |false=>simp[hs] at e
  ·exact OZ (S:=S) (n:=n) (by omega) k (by omega)
theorem Mr{S S':Nat→Bool}:∀ {n:Nat},(∀k,k<n→S' k=S k)→tf S' n=tf S n
 |0,_=>rfl
 |n+1,h=>by simp only[tf]; rw[Mr (λk hk=>h k (by omega)),h n (by omega)]
theorem Oe{S S':Nat→Bool}{j:Nat}:∀ {n:Nat},j<n→S j=false→S' j=true→(∀k,k<n→k≠j→S' k=S k)→tf S' n+1=tf S n
 |0,h,_,_,_=>by omega
 |n+1,h,h1,h2,h3=>by
  simp only[tf];by_cases hj:j=n
  ·subst hj;rw[Mr (λk hk=>h3 k (by omega) (by omega)),h1,h2]; simp
  ·have:=Oe (n:=n) (by omega) h1 h2 (λk hk dL=>h3 k (by omega) dL);rw[h3 n (by omega) (λe=>hj e.symm)];omega
structure nH (ops:List Oper) (ms:List aO) (hd:List (List Nat)):Prop where
 len:ops.length=ms.length
 back:∀j,j<ms.length→∀i∈waits (ops.getD j default),i<j
 Wv:∀j,j<ms.length→∀i∈QC hd j,i<j∧(i∈waits (ops.getD j default)∨∃k∈waits (ops.getD j default),i∈QC hd k)
 ss:∀j,j<ms.length→∀i,i<j→i∈QC hd j∨((∀t∈fY (ms.getD i default),t∉kD (ms.getD j default))∧(∀t∈fY (ms.getD i default),t∉fY (ms.getD j default))∧∀t∈kD (ms.getD i default),t∉fY (ms.getD j default))
theorem TD{ops:List Oper}{ms:List aO}{hd:List (List Nat)}(h:DT ops ms hd=true):nH ops ms hd:=by
 unfold DT at h;simp only[Bool.and_eq_true,List.all_eq_true,List.mem_range,Bool.or_eq_true,List.any_eq_true] at h;obtain⟨⟨⟨⟨h1,h2⟩,h3⟩,h4⟩,h5⟩:=h;refine⟨eZ h1,λj hj i hi=>fQ (h3 j hj i hi),λj hj i hi=>?_,λj hj i hi=>?_⟩
 ·obtain⟨q1,q2⟩:=h4 j hj i hi;refine⟨fQ q1,?_⟩;rcases q2 with q|⟨k,q,q'⟩
  ·exact .inl (List.contains_iff_mem.1 q)
  ·exact .inr ⟨k,q,List.contains_iff_mem.1 q'⟩
 ·rcases h5 j hj i hi with q|q
  ·exact .inl (List.contains_iff_mem.1 q)
  ·obtain⟨⟨q1,q2⟩,q3⟩:=q;exact .inr ⟨YN q1,YN q2,YN q3⟩
section
variable {P:Program} {GL:aA}
theorem Pf{ops:List Oper}{ms:List aO}{hd:List (List Nat)}(D:nH ops ms hd){S:Nat→Bool}(hS:∀j,S j=true→j<ms.length∧∀i∈waits (ops.getD j default),S i=true) :
  ∀(j:Nat),j<ms.length→(∀i∈waits (ops.getD j default),S i=true)→∀i∈QC hd j,S i=true:=by
 intro j
 induction j using Nat.strongRecOn with
 |_ j ih=>
  intro hj hw i hi;rcases (D.Wv j hj i hi).2 with q|⟨k,q,q'⟩
  ·exact hw i q
  ·have hk:=hw k q;exact ih k (D.back j hj k q) (hS k hk).1 (hS k hk).2 i q'
theorem Nu{o:Oper}{i:Nat}:i∈waits o↔∃e∈o.after,Region.binds .any e=true∧e.on=i:=by
 unfold waits;simp only[List.mem_map,List.mem_filter,Array.mem_toList_iff];constructor
 ·rintro⟨e,⟨h1,h2⟩,h3⟩; exact⟨e,h1,h2,h3⟩
 ·rintro⟨e,h1,h2,h3⟩; exact⟨e,⟨h1,h2⟩,h3⟩
theorem OM(ops:Array Oper)(j:Nat){o:Oper}(h:ops[j]?=some o):ops.toList.getD j default=o:=by
 rw[List.getD_eq_getElem?_getD,Array.getElem?_toList,h]; rfl
theorem R4{n:Nat}{ops:Array Oper}{ms:List aO}{hd:List (List Nat)}(ei:ops.size=ms.length)(de:∀(j:Nat) (m:aO),ms[j]?=some m→∃o,ops[j]?=some o∧gQ P GL n ops o m)(cO:DT ops.toList ms hd=true)
 {ρ:Frame}{σ:List ab}{ts:List TS}{K:Frame→List ab→Log→Prop}(Ie:Tr P GL ms ts ρ σ [] K)(zJ:Zh hd (ts.map λx=>(x.rd,x.up.map (·.1)))=true)
 {w0:World}{L:Ln}{g:Gm}(Q:Exit→Act→World→Prop)(hQ:∀g' ρ' σ' a w,g.Le g'→a_ GL w0 L g' (hp σ') w→df n g' ρ' a→K ρ' σ' (ts.map λx=>(x.rd,x.up.map (·.1)))→Q .normal a w) :
  ∀(fuel:Nat) (listed:Array Bool) (a:Act) (w:World),listed.size=ms.length→(∀j,listed.getD j false=true→j<ms.length∧∀i∈waits (ops.toList.getD j default),listed.getD i false=true) →
   tf (λk=>listed.getD k false) ms.length≤fuel→(∃g' ρ',g.Le g'∧a_ GL w0 L g' (jD (λk=>listed.getD k false) 0 ts (hp σ)) w∧df n g' ρ' a∧∀t,bn ρ' t=bn (j_ (λk=>listed.getD k false) 0 ms ts ρ) t) →
   wpAny P .any ops Q fuel listed a w:=by
 have D:=TD cO;obtain⟨hlen,sa,ρf,σf,W_,X_,EY⟩:=JZ ms ts 0 ρ σ [] K Ie;rw[List.nil_append] at EY;have hA:∀j,j<ms.length→∀i,i<j→i∈QC hd j∨fF (X2 (ts.map λx=>(x.rd,x.up.map (·.1))) i) (X2 (ts.map λx=>(x.rd,x.up.map (·.1))) j)=true:=by
  intro j hj i hi;unfold Zh at zJ;simp only[List.all_eq_true,List.mem_range,List.length_map] at zJ;have:=Mi (zJ j (by omega)) i (X2 (ts.map λx=>(x.rd,x.up.map (·.1))) i) (by
   rw[List.getElem?_take_of_lt hi];unfold X2;rw[List.getElem?_eq_getElem (by simp; omega)];rfl)
  rwa [Nat.zero_add] at this
 have xb:∀j x,ts[j]?=some x→X2 (ts.map λx=>(x.rd,x.up.map (·.1))) j=(x.rd,x.up.map (·.1)):=by
  intro j x e; unfold X2; rw[List.getElem?_map,e]; rfl
 have fin:∀(listed:Array Bool) (a:Act) (w:World),(∀k,k<ms.length→listed.getD k false=true)→(∃g' ρ',g.Le g'∧a_ GL w0 L g' (jD (λk=>listed.getD k false) 0 ts (hp σ)) w∧df n g' ρ' a∧∀t,bn ρ' t=bn (j_ (λk=>listed.getD k false) 0 ms ts ρ) t)→Q .normal a w:=by
  rintro listed a w fK ⟨g',ρ',h1,h2,h3,h4⟩;refine hQ g' ρf σf a w h1 ?_ ?_ EY
  ·rw[X_];have:jD (λk=>listed.getD k false) 0 ts (hp σ)=jD (λ_=>true) 0 ts (hp σ):=by
    funext b
    refine C0 _ _ _ _ (λk t e _=>?_) rfl;have:k<ts.length:=(cJ e).1;rw[Nat.zero_add]; exact fK k (by omega)
   rw[←this]; exact h2
  ·refine h3.jl (λt=>.inl ?_);rw[W_ t,h4 t];refine C9 _ _ _ _ _ (λk m e _=>?_) rfl;have:k<ms.length:=(cJ e).1;rw[Nat.zero_add]; exact(fK k this).symm
 have rdy:∀(listed:Array Bool),listed.size=ms.length→Region.ready .any ops listed=[]→∀k,k<ms.length→listed.getD k false=true:=by
  intro listed hs hr k
  induction k using Nat.strongRecOn with
  |_ k ih=>
   intro hk;cases hl:listed.getD k false with
   |true=>rfl
   |false=>
    exfalso;have Rc:ops[k]?=some ops[k]:=by simp
    have:k∈Region.ready .any ops listed:=by
     rw[mem_ready];refine⟨?_,ops[k],Rc,λe he hb=>?_⟩
     ·rw[Array.getD_eq_getD_getElem?,Array.getElem?_eq_getElem (by omega)] at hl ⊢; exact hl
     ·have hw:e.on∈waits (ops.toList.getD k default):=by rw[OM ops k Rc,Nu]; exact⟨e,he,hb,rfl⟩
      have bj:=D.back k hk _ hw;exact ih e.on bj (by omega)
    rw[hr] at this; cases this
 intro fuel
 induction fuel with
 |zero=>
  intro listed a w hs hS hc dM;have fK:=OZ (Nat.le_zero.1 hc);refine⟨?_,fin listed a w fK dM⟩;cases hr:Region.ready .any ops listed with
  |nil=>rfl
  |cons k r=>
   exfalso;have:k∈Region.ready .any ops listed:=by rw[hr]; simp
   obtain⟨h1,o,ho,_⟩:=mem_ready.1 this;have hk:k<ms.length:=by rw[←ei]; exact(Array.getElem?_eq_some_iff.1 ho).1
   have:=fK k hk;rw[Array.getD_eq_getD_getElem?,Array.getElem?_eq_getElem (by omega)] at h1 this;simp at h1 this; rw[h1] at this; cases this
 |succ fuel ih=>
  intro listed a w hs hS hc dM;refine⟨λhr=>fin listed a w (rdy listed hs hr) dM,λj hj=>?_⟩;obtain⟨h1,o,ho,EW⟩:=mem_ready.1 hj;have Di:j<ms.length:=by rw[←ei]; exact(Array.getElem?_eq_some_iff.1 ho).1
  have KA:listed.getD j false=false:=by
   rw[Array.getD_eq_getD_getElem?,Array.getElem?_eq_getElem (by omega)] at h1 ⊢; exact h1
  have Rz:∀i∈waits (ops.toList.getD j default),listed.getD i false=true:=by
   intro i hi;rw[OM ops j ho,Nu] at hi;obtain⟨e,he,hb,rfl⟩:=hi;exact EW e he hb
  have Z':=Pf D (S:=λk=>listed.getD k false) hS j Di Rz;have xe:ms[j]?=some ms[j]:=by simp
  have An:ts[j]?=some (ts[j]'(by omega)):=by simp[show j<ts.length by omega]
  generalize hmd:ms[j]=m at xe;generalize hxd:(ts[j]'(by omega))=x at An;have H_:ms.getD j default=m:=by rw[List.getD_eq_getElem?_getD,xe]; rfl
  obtain⟨o',dV,oko⟩:=de j m xe;rw[ho] at dV; cases dV;obtain⟨ρj,q1,q2⟩:=sa j m x xe An;simp only[Nat.zero_add] at q1 q2;obtain⟨g',ρ',s1,s2,s3,s4⟩:=dM;have key:∀k,k<ms.length→(k<j→k∈QC hd j)→(j<k→j∈QC hd k)→(k≠j)→(listed.getD k false=decide (k<j)):=by
   intro k hk ha hb dL;by_cases bj:k<j
   ·rw[decide_eq_true bj]; exact Z' k (ha bj)
   ·rw[decide_eq_false bj];have zR:j<k:=by omega
    cases hl:listed.getD k false with
    |false=>rfl
    |true=>
     have:listed.getD j false=true:=Pf D (S:=λk=>listed.getD k false) hS k hk (hS k hl).2 j (hb zR);rw[KA] at this; cases this
  have kr:∀t,(t∈kD m)→∀k mk,ms[k]?=some mk→mk.dst=some t→k≠j→listed.getD k false=decide (k<j):=by
   intro t ht k mk hk KL dL;have yB:k<ms.length:=(cJ hk).1;have Fc:ms.getD k default=mk:=by rw[List.getD_eq_getElem?_getD,hk]; rfl
   have EU:t∈fY mk:=by unfold fY; rw[KL]; simp
   refine key k yB (λbj=>?_) (λzR=>?_) dL
   ·rcases D.ss j Di k bj with q|⟨q,_,_⟩
    ·exact q
    ·rw[Fc,H_] at q; exact(q t EU ht).elim
   ·rcases D.ss k yB j zR with q|⟨_,_,q⟩
    ·exact q
    ·rw[Fc,H_] at q; exact(q t ht EU).elim
  have gu:∀b,(b∈x.rd∨b∈x.up.map (·.1))→∀k xk,ts[k]?=some xk→b∈xk.up.map (·.1)→k≠j→listed.getD k false=decide (k<j):=by
   intro b hb k xk hk cv dL;have yB:k<ms.length:=by rw[←hlen]; exact(cJ hk).1
   refine key k yB (λbj=>?_) (λzR=>?_) dL
   ·rcases hA j Di k bj with q|q
    ·exact q
    ·rw[xb k xk hk,xb j x An] at q;simp only[fF,Bool.and_eq_true] at q;rcases hb with hb|hb
     ·exact(YN q.2.1 b cv hb).elim
     ·exact(YN q.2.2 b cv hb).elim
   ·rcases hA k yB j zR with q|q
    ·exact q
    ·rw[xb k xk hk,xb j x An] at q;simp only[fF,Bool.and_eq_true] at q;rcases hb with hb|hb
     ·exact(YN q.1 b hb cv).elim
     ·exact(YN q.2.2 b hb cv).elim
  have uD:∀k,k=j→listed.getD k false=decide (k<j):=by rintro k rfl; rw[KA]; simp
  have heq:∀b,(b∈x.rd∨b∈x.up.map (·.1))→jD (λk=>listed.getD k false) 0 ts (hp σ) b=jD (λk=>decide (k<j)) 0 ts (hp σ) b:=by
   intro b hb;refine C0 _ _ _ _ (λk xk e1 e2=>?_) rfl;rw[Nat.zero_add];by_cases gh:k=j
   ·exact uD k gh
   ·exact gu b hb k xk e1 e2 gh
  unfold wpOp;simp only[ho];refine q2 n ops o oko ρ' _ w0 L g' w a (λt ht=>?_) (λb hb=>heq b (.inl hb)) (λp gz=>heq p.1 (.inr (List.mem_map.2 ⟨p,gz,rfl⟩))) s2 s3 _ _ (λg2 w2 u hle hr tl=>?_)
  ·rw[s4 t,q1 t];refine C9 _ _ _ _ _ (λk mk e1 e2=>?_) rfl;rw[Nat.zero_add];by_cases gh:k=j
   ·exact uD k gh
   ·exact kr t ht k mk e1 e2 gh
  ·have uO:∀k,k<ms.length→(listed.setIfInBounds j true).getD k false=if k=j then true else listed.getD k false:=by
    intro k hk;by_cases gh:k=j
    ·subst gh; simp[show k<listed.size by omega]
    ·rw[if_neg gh]; simp[Array.getElem?_setIfInBounds_ne (Ne.symm gh)]
   have iH:∀k,(listed.setIfInBounds j true).getD k false=if k=j then true else listed.getD k false:=by
    intro k;by_cases hk:k<ms.length
    ·exact uO k hk
    ·rw[if_neg (by omega)];rw[Array.getD_eq_getD_getElem?,Array.getD_eq_getD_getElem?,Array.getElem?_eq_none (by simp; omega),Array.getElem?_eq_none (by omega)]
   refine ih _ _ _ (by simpa using hs) (λk hk=>?_) ?_ ⟨g2,bK m.dst x.v ρ',s1.trans hle,?_,tl,λt=>?_⟩
   ·rw[iH] at hk;by_cases gh:k=j
    ·subst gh;refine⟨Di,λi hi=>?_⟩;rw[iH]; split
     ·rfl
     ·exact Rz i hi
    ·rw[if_neg gh] at hk;refine⟨(hS k hk).1,λi hi=>?_⟩;rw[iH]; split
     ·rfl
     ·exact(hS k hk).2 i hi
   ·have:=Oe (S:=λk=>listed.getD k false) (S':=λk=>(listed.setIfInBounds j true).getD k false) (j:=j) (n:=ms.length) Di KA (by simp only[iH]; simp) (λk hk dL=>by simp only[iH]; rw[if_neg dL]);omega
   ·have:jD (λk=>(listed.setIfInBounds j true).getD k false) 0 ts (hp σ)=ca (jD (λk=>listed.getD k false) 0 ts (hp σ)) x.up:=by
     funext b
     by_cases hb:b∈x.up.map (·.1)
     ·refine Nf ts 0 (hp σ) j x An hb (by rw[Nat.zero_add,iH,if_pos rfl]) (λk xk e1 e2 e3=>?_) _;rw[Nat.zero_add,iH] at e3;by_cases gh:k=j
      ·omega
      ·rw[if_neg gh] at e3;rw[gu b (.inr hb) k xk e1 e2 gh] at e3;have:=of_decide_eq_true e3; omega
     ·rw[IV _ _ _ hb];refine C0 _ _ _ _ (λk xk e1 e2=>?_) rfl;rw[Nat.zero_add];simp only[iH];have gh:k≠j:=by rintro rfl; rw[An] at e1; cases e1; exact hb e2
      rw[if_neg gh]
    rw[this]; exact hr
   ·rw[X1];by_cases EV:m.dst=some t
    ·rw[if_pos EV];refine(O2 ms ts 0 ρ j m x xe An EV (by rw[Nat.zero_add,iH,if_pos rfl]) (λk mk e1 e2 e3=>?_)).symm;rw[Nat.zero_add,iH] at e3;by_cases gh:k=j
     ·omega
     ·rw[if_neg gh] at e3;have yB:k<ms.length:=(cJ e1).1;have Fc:ms.getD k default=mk:=by rw[List.getD_eq_getElem?_getD,e1]; rfl
      have yz:t∈fY m:=by unfold fY; rw[EV]; simp
      have yy:t∈fY mk:=by unfold fY; rw[e2]; simp
      have:=key k yB (λbj=>by
       rcases D.ss j Di k bj with q|⟨_,q,_⟩
       ·exact q
       ·rw[Fc,H_] at q; exact(q t yy yz).elim) (λzR=>by
       rcases D.ss k yB j zR with q|⟨_,q,_⟩
       ·exact q
       ·rw[Fc,H_] at q; exact(q t yz yy).elim) gh
      rw[this] at e3;have:=of_decide_eq_true e3; omega
    ·rw[if_neg EV,s4 t];refine C9 _ _ _ _ _ (λk mk e1 e2=>?_) rfl;rw[Nat.zero_add];simp only[iH];have gh:k≠j:=by rintro rfl; rw[xe] at e1; cases e1; exact EV e2
     rw[if_neg gh]
theorem MF(hP:P.follows .mixedOrders=true){n:Nat}{id:Nat}{ms:List aO}{hd:List (List Nat)}{ρ:Frame}{σ:List ab}{Q:dK}
 (h:je true P GL ms ρ σ [] (λρ' σ' lg=>Zh hd lg=true∧Q .normal ρ' σ')):gm P GL n (.region id ms (some hd)) ρ σ Q:=by
 intro c hc w0 L g a w r d;cases hc with
 |draw _ ops _ _ ei de cO=>
  obtain⟨ts,Ie⟩:=Om ms ρ σ [] _ h;obtain⟨hlen,_,ρf,σf,_,_,EY⟩:=JZ ms ts 0 ρ σ [] _ Ie;rw[List.nil_append] at EY;refine wp_region_any hP ?_;refine R4 (w0:=w0) (L:=L) (g:=g) ei de cO Ie EY.1 _ (λg' ρ' σ' a' w' k1 k2 k3 k4=>⟨g',ρ',σ',k1,k2,k3,k4.2⟩) ops.size _ a _ (by simp[ei]) (λj hj=>?_) ?_ ⟨g,ρ,Gm.Le.refl g,?_,d,λt=>?_⟩
  ·exfalso;rw[Array.getD_eq_getD_getElem?,Array.getElem?_replicate] at hj;split at hj<;>simp at hj
  ·rw[ei];have:∀m,tf (λk=>(Array.replicate ms.length false).getD k false) m≤m:=by
    intro m
    induction m with
    |zero=>exact Nat.le_refl _
    |succ m ih=>simp only[tf]; split<;>omega
   exact this _
  ·have hF:(λk=>(Array.replicate ops.size false).getD k false)=λ_=>false:=by
    funext k; rw[Array.getD_eq_getD_getElem?,Array.getElem?_replicate]; split<;>rfl
   rw[hF];have iA:∀(ts:List TS) (i:Nat) (h:Hp),jD (λ_=>false) i ts h=h:=by
    intro ts
    induction ts with
    |nil=>intros; simp[jD]
    |cons m ms ih=>intro i ρ; simp[jD,ih]
   rw[iA];exact r.drew
  ·have hF:(λk=>(Array.replicate ops.size false).getD k false)=λ_=>false:=by
    funext k; rw[Array.getD_eq_getD_getElem?,Array.getElem?_replicate]; split<;>rfl
   rw[hF];have iA:∀(ms:List aO) (ts:List TS) (i:Nat) (ρ:Frame),j_ (λ_=>false) i ms ts ρ=ρ:=by
    intro ms
    induction ms with
    |nil=>intros; simp[j_]
    |cons m ms ih=>intro ts i ρ; cases ts with
     |nil=>simp[j_]
     |cons x ts=>simp[j_,ih]
   rw[iA]
end
end Go.Ah
end
section
namespace Go.Ah
theorem Steps.xn{P:Program}{m m₁ t:Machine}(h:Steps P m t)(hs:step P m=.next m₁):t=m∨Steps P m₁ t:=by
 obtain⟨n,hn⟩:=h;cases n with
 |zero=>simp[runN] at hn; exact .inl hn.symm
 |succ n=>simp only[runN,hs] at hn; exact .inr ⟨n,hn⟩
theorem OO:∀(k k':List Item) (id:Nat),exitTo id k=some k'→k'.length≤k.length
  |[],k',id,h=>by simp[exitTo] at h
  |x::k,k',id,h=>by
    have ih:=OO k k' id;cases x<;>simp only[exitTo] at h<;>first
      |(have:=ih h; simp; omega)
      | (split at h
         · cases h; simp
         · have:=ih h; simp; omega)
theorem Nt{b:Go.Frame}{a a':Act}{k k':List Item}{cs:List Go.Frame}{w w':World}(h:lone (b.at a k) cs w=lone (b.at a' k') cs w'):k=k':=by
 simp[lone,Go.Frame.at] at h;exact h.2.2.1
theorem Oh{b:Go.Frame}{a a':Act}{k k':List Item}{cs:List Go.Frame}{w w':World}{m:FrameMode}(hm:m≠.run)(h:lone { b.at a' k' with mode:=m } cs w'=lone (b.at a k) cs w):False:=by
 simp[lone,Go.Frame.at] at h;exact hm h.2.2.2.2
theorem T7{P:Program}{c:Code}{Q:Exit→Act→World→Prop}{a:Act}{w:World}(hQ:∀a w,¬Q .outgrown a w)(HZ:∀l a w,¬Q (.goto l) a w)(h:(Code.loop c).wp P Q a w)(b:Go.Frame)(k:List Item)(cs:List Go.Frame) :
  ∃e a' w',Q e a' w'∧Arrives P (lone (b.at a (.code c::.inLoop c::k)) cs w) b k cs e a' w':=by
 obtain⟨e,a',w',hq,oT⟩:=h b k cs;refine⟨e,a',w',hq,?_⟩;cases e with
 |normal=>
  rcases Steps.xn oT step_loop with e|e
  ·have:=Nt e; have:=congrArg List.length this; simp at this
  ·exact e
 |exit id=>
  intro k' hk;rcases Steps.xn (oT k' hk) step_loop with e|e
  ·have:=Nt e; have:=congrArg List.length this; have:=OO _ _ _ hk; simp at *; omega
  ·exact e
 |goto l=>exact(HZ _ _ _ hq).elim
 |ret=>
  obtain⟨todo,hs⟩:=oT;rcases Steps.xn hs step_loop with e|e
  ·exact(Oh (by simp) e).elim
  ·exact⟨todo,e⟩
 |panic ch=>
  obtain⟨todo,hs⟩:=oT;rcases Steps.xn hs step_loop with e|e
  ·exact(Oh (by simp) e).elim
  ·exact⟨todo,e⟩
 |outgrown=>exact(hQ _ _ hq).elim
theorem Vy{P:Program}{c:Code}{Q:Exit→Act→World→Prop}{a:Act}{w:World}(hQ:∀a w,¬Q .outgrown a w)(HZ:∀l a w,¬Q (.goto l) a w)
 (h:c.wp P (Exit.then (λa w=>(Code.loop c).wp P Q a w) Q) a w):(Code.loop c).wp P Q a w:=by
 intro b k cs;obtain⟨e,a₁,w₁,hq,oT⟩:=h b (.inLoop c::k) cs;cases e with
 |normal=>
  obtain⟨e₂,a₂,w₂,Fy,wX⟩:=T7 hQ HZ hq b k cs;exact⟨e₂,a₂,w₂,Fy,.of_steps (.one step_loop) (.of_steps (Steps.trans oT (.one step_inLoop)) wX)⟩
 |exit id=>exact⟨_,a₁,w₁,hq,.of_steps (.one step_loop) (.pass (x:=.inLoop c) rfl (λ_ _=>.inl (by simp)) oT)⟩
 |goto l=>exact(HZ _ _ _ hq).elim
 |ret=>exact⟨_,a₁,w₁,hq,.of_steps (.one step_loop) (.pass (x:=.inLoop c) rfl (λ_ _=>.inl (by simp)) oT)⟩
 |panic ch=>exact⟨_,a₁,w₁,hq,.of_steps (.one step_loop) (.pass (x:=.inLoop c) rfl (λ_ _=>.inl (by simp)) oT)⟩
 |outgrown=>exact(hQ _ _ hq).elim
theorem Tn{P:Program}{GL:aA}{n:Nat}{x:cW}{ρ:Frame}{σ:List ab}{Q:dK}(h:gm P GL n x ρ σ (dK.andThen (λρ σ=>gm P GL n (.loop x) ρ σ Q) Q)):gm P GL n (.loop x) ρ σ Q:=by
 intro c hc w0 L g a w r d;cases hc with
 |loop c1 _ h1=>
  refine Vy (λa w h=>h) (λl a w h=>h) (wp_mono (h c1 h1 w0 L g a w r d) (λe a' w' hl=>?_));cases e with
  |normal=>
   obtain⟨g',ρ',σ',k1,k2,k3,k4⟩:=hl;exact wp_mono (k4 (.loop c1) (.loop _ _ h1) w0 L g' a' w' k2 k3) (mz.mono k1 (λ_ _ _ q=>q))
  |_=>exact hl
section
variable (LG:Bool→Nat→List aO→Frame→List ab→Log→Cons→Io)
def Ys:MK→List aa→Option (Nat×List aa)
 |.call f,xs=>some (f,xs)
 |.cH,.func (.func f) first captured::xs=>some (f,first++xs++captured)
 |_,_=>none
end
section
variable {P:Program} {GL:aA}
theorem Mg{F:s_}{f:FuncId}{k:MK}{xs ys:List aa}(hc:Ys k xs=some (f,ys))(hp:Xl P f=true)(ok:kK P GL f F)(hn:ys.length=F.np){σ:List ab}{R:aa→List ab→Prop}
 (h:gm P GL F.n F.body (dP ys) σ (λe ρ σ'=>(e=.normal∨e=.ret)∧∃v,fW F.fh ρ σ'=some v∧R v σ')):mA P GL k xs σ R:=by
 have key:=X9 (P:=P) (GL:=GL) ok hn h;intro o os sg w0 L g w a r hx;unfold Ys at hc;split at hc
 ·cases hc;generalize ho:o.op=op at sg;cases sg with
  |call _ args ts _=>
   have bS:(execOp a.eval o).run P w=.ok (.enter f (args.map a.eval)) w:=by
    simp only[execOp,ho,resolve,Sem.run_bind,Act.eval,Deferred.ofValue,Sem.run_pure,Result.andThen_ok,invoke];rw[YY hp];simp
   rw[bS];have:=key w0 L g w _ r hx
   rwa [←Array.toList_map,Array.toArray_toList] at this
 ·rename_i first captured yZ
  cases hc;generalize ho:o.op=op at sg;cases sg with
  |cH x args ts=>
   obtain⟨d,dr⟩:=hx;generalize hu:a.eval x=u0 at d;cases d with
   |func _ _ _ _ vs ws h1 h2 h3 h4=>
    have bS:(execOp a.eval o).run P w=.ok (.enter f (vs++args.map a.eval++ws)) w:=by
     simp only[execOp,ho,resolve,Sem.run_bind,hu,Deferred.ofValue,Sem.run_pure,Result.andThen_ok,invoke];rw[YY hp]
    rw[bS];have hl:=dr.length;simp at hl;have:=key w0 L g w (vs ++ args.map a.eval ++ ws).toList r (bZ.jH (by simp[h1,h2,hl]) (λi y u e1 e2=>by
     simp only[Array.toList_append] at e2;by_cases hi:i<first.length
     ·rw[List.append_assoc,List.getElem?_append_left hi] at e1;rw[List.append_assoc,List.getElem?_append_left (by simpa[h1] using hi)] at e2;exact h3 i y u e1 (by simpa using e2)
     ·by_cases tm:i<first.length+yZ.length
      ·rw[List.append_assoc,List.getElem?_append_right (by omega),List.getElem?_append_left (by omega)] at e1;rw[List.append_assoc,List.getElem?_append_right (by simp; omega),List.getElem?_append_left (by simp; omega)] at e2;refine dr.get (i-first.length) y u e1 ?_;simpa[h1] using e2
      ·rw[List.getElem?_append_right (by simp; omega)] at e1;rw[List.getElem?_append_right (by simp; omega)] at e2;refine h4 (i - (first ++ yZ).length) y u e1 ?_;simpa[h1,hl] using e2))
    rwa [Array.toArray_toList] at this
 ·cases hc
end
end Go.Ah
end
section
namespace Go.Ah
def uX:dD→Value→Bool
 |.ptr,.pointer none=>true
 |.slice,.slice none 0 0=>true
 |.iface,.nilIface=>true
 |.func,.nilFunc=>true
 |.map,.map none=>true
 |_,_=>false
theorem Vq{c:dD}{v:Value}(h:uX c v=true):v=iM c:=by
 unfold uX at h;split at h<;>first|rfl|cases h
def aZ{α β:Type}(o:Option α)(f:α→Option β):Option β:=match o with
 |some a=>f a
 |none=>none
theorem Qg{α β:Type}{o:Option α}{f:α→Option β}{b:β}(h:aZ o f=some b):∃a,o=some a∧f a=some b:=by
 cases o with
 |none=>cases h
 |some a=>exact⟨a,rfl,h⟩
def YU{β:Type}(c:Bool)(x:Option β):Option β:=match c with
 |true=>x
 |false=>none
theorem Zt{β:Type}{c:Bool}{x:Option β}{b:β}(h:YU c x=some b):c=true∧x=some b:=by
 cases c with
 |true=>exact⟨rfl,h⟩
 |false=>cases h
def mapM'{α β:Type}(f:α→Option β):List α→Option (List β)
 |[]=>some []
 |a::l=>aZ (f a) λb=>aZ (mapM' f l) λr=>some (b::r)
theorem N_{α β:Type}(f:α→Option β):∀(l:List α),l.mapM f=mapM' f l
 |[]=>rfl
 |a::l=>by
  rw[List.mapM_cons,N_ f l,mapM'];cases f a with
  |none=>rfl
  |some b=>cases mapM' f l<;>rfl
def zeroCells(P:Program)(t:TypeId):Option (List aa):=aZ (dz P t) λv=>XC v.cells.toList
def Dw(P:Program)(t:TypeId):Bool:=match P.underlying t with
 |some .bool=>true
 |_=>false
theorem Iz{P:Program}{t:TypeId}(h:Dw P t=true):P.underlying t=some .bool:=by
 unfold Dw at h; split at h<;>first|assumption|cases h
def JF(P:Program)(t:TypeId):Bool:=match P.underlying t with
 |some .string=>true
 |_=>false
theorem T6{P:Program}{t:TypeId}(h:JF P t=true):P.underlying t=some .string:=by
 unfold JF at h; split at h<;>first|assumption|cases h
def uU(P:Program)(t:TypeId):Option IntKind:=match P.underlying t with
 |some (.int k)=>some k
 |_=>none
theorem U6{P:Program}{t:TypeId}{k:IntKind}(h:uU P t=some k):P.underlying t=some (.int k):=by
 unfold uU at h; split at h<;>first|(cases h; assumption)|cases h
theorem Nc{P:Program}{t e:TypeId}(h:dG P t=some e):P.underlying t=some (.slice e):=by
 unfold dG at h; split at h<;>first|(cases h; assumption)|cases h
def qj(P:Program)(k:TypeId):Option Bool:=match P.underlying k with
 |some .string=>some true
 |some (.int _)=>some false
 |_=>none
theorem IF{P:Program}{k:TypeId}{s:Bool}(h:qj P k=some s):sC P k s:=by
 unfold qj at h;split at h
 ·rename_i e; cases h; exact e
 ·rename_i q e; cases h; exact⟨q,e⟩
 ·cases h
def G3(c:dD):Operand→Bool
 |.const v=>uX c v
 |_=>false
theorem MB{c:dD}{x:Operand}(h:G3 c x=true):x=.const (iM c):=by
 cases x<;>simp only[G3] at h<;>first|cases h|rw[Vq h]
def zr:BinOp→Option Bool
 |.eql=>some false
 |.neq=>some true
 |_=>none
theorem U5{op:BinOp}{b:Bool}(h:zr op=some b):op=if b then .neq else .eql:=by
 cases op<;>simp_all [zr]<;>subst h<;>rfl
def JB(P:Program)(op:BinOp)(t:TypeId)(x y:Operand):Option (MK×List Operand):=
 match zr op with
 |none=>some (.bin op (Dw P t),[x,y])
 |some neq=>match sJ P t with
  |some c=>match G3 c y with
   |true=>some (.mR c neq false,[x,y])
   |false=>match G3 c x with
    |true=>some (.mR c neq true,[x,y])
    |false=>some (.bin op (Dw P t),[x,y])
  |none=>match pf P t with
   |some ls=>YU (!P.stoodInHeld t && !P.eqGuardType P.depth t) (some (.yq neq ls,[x,y]))
   |none=>some (.bin op (Dw P t),[x,y])
def Ji(P:Program)(c:Call):Option (MK×List Operand):=
 match c.callee with
 |.value (.func f)=>YU (Xl P f) (some (.call f,c.args.toList))
 |.value x=>some (.cH,x::c.args.toList)
 |.builtin .len=>match c.args.toList,c.argTypes.toList with
  |[x],[t]=>match P.underlying t with
   |some (.slice _)=>some (.ql,[x])
   |some .string=>some (.iK,[x])
   |some (.array n _)=>some (.qk n,[x])
   |some (.map _ _)=>some (.kR,[x])
   |_=>none
  |_,_=>none
 |.builtin .clear=>match c.args.toList,c.argTypes.toList with
  |[x],[t]=>aZ (dG P t) λe=>aZ (size? P e) λn=>aZ (dz P e) λv=>aZ (XC v.cells.toList) λz=>
   YU (Nat.beq v.cells.size n && !(Nat.beq n 0)) (some (.fG n z,[x]))
  |_,_=>none
 |.builtin .min=>match c.args.toList with
  |[x,y]=>some (.min2,[x,y])
  |_=>none
 |.builtin .max=>match c.args.toList with
  |[x,y]=>some (.max2,[x,y])
  |_=>none
 |.builtin .append=>match c.args.toList,c.argTypes.toList with
  |[x,y],[t,t']=>aZ (dG P t) λe=>aZ (dG P t') λ_=>aZ (size? P e) λn=>aZ (dz P e) λv=>aZ (XC v.cells.toList) λz=>
   YU (Nat.beq v.cells.size n&&(!(Nat.beq (P.bytesOf e) 0) && !(Nat.beq n 0))) (some (.append n (P.bytesOf e) z,[x,y]))
  |_,_=>none
 |_=>none
def JD:Operand→Operand→Bool
 |.tmp a,.tmp b=>Nat.beq a b
 |_,_=>false
theorem UE{x y:Operand}(h:JD x y=true):x=y:=by
 cases x<;>cases y<;>simp only[JD] at h<;>first|cases h|rw[eZ h]
def Jz(P:Program):Op→Option (MK×List Operand)
 |.move x=>some (.mv,[x])
 |.assign x=>some (.mv,[x])
 |.pick c a b=>some (.pick,[c,a,b])
 |.alloc t=>aZ (zeroCells P t) λz=>some (.alloc z,[])
 |.box _ x=>some (.box,[x])
 |.build t parts=>match P.underlying t with
  |some (.struct fs)=>aZ (zeroCells P t) λz=>aZ (mapM' (λf=>(P.info? f.type).map λi=>(f.offset,i.size)) fs.toList) λplaces=>
   aZ (mapM' (λ(p:Nat×Operand)=>places[p.1]?) parts.toList) λps=>some (.build z ps,parts.toList.map (·.2))
  |some (.array _ e)=>aZ (zeroCells P t) λz=>aZ (size? P e) λsz=>some (.build z (parts.toList.map (λp=>(p.1*sz,sz))),parts.toList.map (·.2))
  |_=>none
 |.buildSlice t 0 parts=>aZ (dG P t) λe=>aZ (size? P e) λsz=>match parts.toList with
  |[]=>some (.jS sz,[])
  |_=>none
 |.makeSlice t l c=>aZ (dG P t) λe=>aZ (size? P e) λn=>aZ ((P.info? e).map (·.bytes)) λcd=>aZ (dz P e) λv=>aZ (XC v.cells.toList) λz=>
  YU (!(Nat.beq n 0) && Nat.beq v.cells.size n) (match JD l c with
   |true=>some (.qm n cd z,[l])
   | false=>none)
 |.buildSlice t n parts=>aZ (dG P t) λe=>aZ (size? P e) λsz=>aZ (dz P e) λv=>aZ (XC v.cells.toList) λz0=>
  YU (Nat.ble (n*sz) (2 ^ 24)&&(!(Nat.beq (n*sz) 0)&&Nat.beq v.cells.size sz)) (some (.kM sz n (List.replicate n z0).flatten (parts.toList.map (λp=>(p.1*sz,sz))),parts.toList.map (·.2)))
 |.load t x=>aZ (ea P t) λagg=>aZ (size? P t) λn=>some (.load agg n,[x])
 |.store t x y=>aZ (size? P t) λn=>some (.store n,[x,y])
 |.nilCheck x=>some (.nilCheck,[x])
 |.binOp op t x y _=>JB P op t x y
 |.unOp op _ x=>some (.un op,[x])
 |.convert s d x=>YU (P.underlying s).isSome (aZ (uU P d) λk=>some (.conv k,[x]))
 |.makeInterface t x=>YU (P.concrete t) (some (.gj t,[x]))
 |.makeFunc fn xs ys=>some (.iL fn xs.size,xs.toList++ys.toList)
 |.makeMap _ none=>some (.makeMap,[])
 |.fieldAddr t x f=>match P.underlying t with
  |some (.struct fs)=>aZ fs[f]? λfd=>aZ (size? P fd.type) λn=>YU (!(Nat.beq n 0)) (some (.fieldAddr fd.offset,[x]))
  |_=>none
 |.field t x f=>match P.underlying t with
  |some (.struct fs)=>aZ fs[f]? λfd=>aZ (size? P fd.type) λn=>aZ (ea P fd.type) λagg=>some (.field agg fd.offset n,[x])
  |_=>none
 |.indexAddr t x i=>match P.underlying t with
  |some (.array len e)=>aZ (size? P e) λn=>some (.eS len n,[x,i])
  |some (.slice e)=>aZ (size? P e) λn=>some (.dW n,[x,i])
  |_=>none
 |.index t x i=>match P.underlying t with
  |some (.array len e)=>aZ (size? P e) λn=>aZ (ea P e) λagg=>some (.qi agg len n,[x,i])
  |some .string=>some (.jE,[x,i])
  |_=>none
 |.extract x i=>some (.extract i,[x])
 |.slice t x lo hi mx=>match P.underlying t with
  |some (.slice e)=>aZ (size? P e) λn=>some (.cu n lo.isSome hi.isSome mx.isSome,[x]++lo.toList++hi.toList++mx.toList)
  |some .string=>match mx with
   |none=>some (.dg lo.isSome hi.isSome,[x]++lo.toList++hi.toList)
   |some _=>none
  |_=>none
 |.call c=>Ji P c
 |.lookup t x i ok=>match P.underlying t with
  |some (.map k e)=>aZ (qj P k) λstr=>aZ (dz P e) λv=>aZ (nS v) λz=>some (.lookup str ok z,[x,i])
  |_=>none
 |.mapUpdate t x i y=>match P.underlying t with
  |some (.map k _)=>aZ (qj P k) λstr=>some (.jG str,[x,i,y])
  |_=>none
 |.insert t x i y=>match P.underlying t with
  |some (.map k _)=>aZ (qj P k) λstr=>some (.jG str,[x,i,y])
  |_=>none
 |.range t x=>YU (JF P t) (some (.range,[x]))
 |.next x true=>some (.next,[x])
 |.typeAssert x _ u ok=>YU (P.concrete u&&(P.underlying u).isSome) (aZ (dz P u) λv=>aZ (nS v) λz=>some (.d_ u ok z,[x]))
 |_=>none
section
variable {P:Program} {GL:aA}
theorem To{op:BinOp}{t t':TypeId}{x y:Operand}{k:MK}{os:List Operand}(h:JB P op t x y=some (k,os)):bH P GL (.binOp op t x y t') k os:=by
 unfold JB at h;split at h
 ·cases h; exact .bin _ _ _ _ _ _ Iz
 ·rename_i neq heq;have qy:=U5 heq;split at h
  ·rename_i c hc;split at h
   ·rename_i hn;cases h;rw[qy,MB hn];exact .ub _ _ _ _ _ hc
   ·split at h
    ·rename_i hn;cases h;rw[qy,MB hn];exact .ua _ _ _ _ _ hc
    ·cases h; exact .bin _ _ _ _ _ _ Iz
  ·split at h
   ·rename_i ls hl;obtain⟨hg,h⟩:=Zt h;cases h;simp only[Bool.and_eq_true,Bool.not_eq_true'] at hg;rw[qy];exact .yq _ _ _ _ _ _ hl hg.1 hg.2
   ·cases h; exact .bin _ _ _ _ _ _ Iz
theorem Hc{α:Type}{a:Array α}{x:α}(h:a.toList=[x]):a = #[x]:=by
 cases a; simp at h; subst h; rfl
theorem GZ{α:Type}{a:Array α}{x y:α}(h:a.toList=[x,y]):a = #[x,y]:=by
 cases a; simp at h; subst h; rfl
theorem TH{c:Call}{k:MK}{os:List Operand}(h:Ji P c=some (k,os)):bH P GL (.call c) k os:=by
 unfold Ji at h;obtain⟨callee,args,ts⟩:=c;simp only at h;split at h
 ·obtain⟨hg,h⟩:=Zt h;cases h;exact .call _ _ _ hg
 ·cases h; exact .cH _ _ _
 ·split at h
  ·rename_i ha ht;have:=Hc ha; subst this;have:=Hc ht; subst this;split at h
   ·rename_i hu; cases h; exact .ql _ _ _ hu
   ·rename_i hu; cases h; exact .iK _ _ hu
   ·rename_i hu; cases h; exact .qk _ _ _ _ hu
   ·rename_i hu; cases h; exact .kR _ _ _ _ hu
   ·cases h
  ·cases h
 ·split at h
  ·rename_i ha ht;have:=Hc ha; subst this;have:=Hc ht; subst this;obtain⟨e,he,h⟩:=Qg h;obtain⟨n,hn,h⟩:=Qg h;obtain⟨v,hv,h⟩:=Qg h;obtain⟨z,hz,h⟩:=Qg h;obtain⟨hg,h⟩:=Zt h;simp only[Bool.and_eq_true,Bool.not_eq_true'] at hg;cases h;exact .fG _ e _ _ v _ he hn (λe0=>by rw[e0] at hg; cases hg.2) hv (eZ hg.1) hz
  ·cases h
 ·split at h
  ·rename_i ha; have:=GZ ha; subst this; cases h; exact .min2 _ _ _
  ·cases h
 ·split at h
  ·rename_i ha; have:=GZ ha; subst this; cases h; exact .max2 _ _ _
  ·cases h
 ·split at h
  ·rename_i ha ht;have:=GZ ha; subst this;have:=GZ ht; subst this;obtain⟨e,he,h⟩:=Qg h;obtain⟨e',W7,h⟩:=Qg h;obtain⟨n,hn,h⟩:=Qg h;obtain⟨v,hv,h⟩:=Qg h;obtain⟨z,hz,h⟩:=Qg h;obtain⟨hg,h⟩:=Zt h;simp only[Bool.and_eq_true,Bool.not_eq_true'] at hg;cases h;exact .append _ _ e _ _ _ _ v _ (Nc he) ⟨_,Nc W7,by simp⟩ hn rfl hv (eZ hg.1) hz (λe0=>by rw[e0] at hg; cases hg.2.1) (λe0=>by rw[e0] at hg; cases hg.2.2)
  ·cases h
 ·cases h
theorem Pb{α β:Type}{f:α→Option β}:∀ {l:List α} {r:List β},mapM' f l=some r→l.map f=r.map some
 |[],r,h=>by simp[mapM'] at h; subst h; rfl
 |a::l,r,h=>by
  obtain⟨b,hb,h⟩:=Qg h;obtain⟨r',hr,h⟩:=Qg h;cases h;simp[hb,Pb hr]
theorem Td{op:Op}{k:MK}{os:List Operand}(h:Jz P op=some (k,os)):bH P GL op k os:=by
 unfold Jz at h;split at h
 ·cases h; exact .move _
 ·cases h; exact .assign _
 ·cases h; exact .pick _ _ _
 ·obtain⟨z,hz,h⟩:=Qg h;obtain⟨v,hv,hz⟩:=Qg hz;cases h; exact .alloc _ v _ hv hz
 ·cases h; exact .box _ _
 ·split at h
  ·rename_i fs hu;obtain⟨z,hz,h⟩:=Qg h;obtain⟨v,hv,hz⟩:=Qg hz;obtain⟨places,hp,h⟩:=Qg h;obtain⟨ps,tq,h⟩:=Qg h;cases h;exact .buildStruct _ fs v _ _ places _ hu hv hz (by rw[N_]; exact hp) (Pb tq)
  ·rename_i n e hu;obtain⟨z,hz,h⟩:=Qg h;obtain⟨v,hv,hz⟩:=Qg hz;obtain⟨sz,hs,h⟩:=Qg h;cases h;exact .mL _ n e v _ _ _ sz hu hv hz hs rfl
  ·cases h
 ·obtain⟨e,he,h⟩:=Qg h;obtain⟨sz,hs,h⟩:=Qg h;split at h
  ·rename_i hp; cases h; exact .kY _ e _ _ he hs hp
  ·cases h
 ·obtain⟨e,he,h1⟩:=Qg h;obtain⟨n,hn,h2⟩:=Qg h1;obtain⟨b,hb,h3⟩:=Qg h2;obtain⟨v,hv,h4⟩:=Qg h3;obtain⟨z,hz,h5⟩:=Qg h4;obtain⟨hg,h6⟩:=Zt h5;clear h h1 h2 h3 h4 h5;simp only[Bool.and_eq_true,Bool.not_eq_true'] at hg;split at h6
  ·rename_i hs;have:=UE hs;subst this;cases h6;exact .makeSlice _ _ e v _ _ _ he hn hb (λe0=>by rw[e0] at hg; cases hg.1) hv (eZ hg.2) hz
  ·cases h6
 ·obtain⟨e,he,h⟩:=Qg h;obtain⟨sz,hs,h⟩:=Qg h;obtain⟨v,hv,h⟩:=Qg h;obtain⟨z0,hz,h⟩:=Qg h;obtain⟨hg,h⟩:=Zt h;simp only[Bool.and_eq_true,Bool.not_eq_true'] at hg;cases h;exact .buildSlice _ _ e v z0 _ _ _ _ he hs (fQ hg.1) (λe0=>by rw[e0] at hg; cases hg.2.1) hv (eZ hg.2.2) hz rfl rfl
 ·obtain⟨agg,ha,h⟩:=Qg h;obtain⟨n,hn,h⟩:=Qg h;cases h; exact .load _ _ _ _ ha hn
 ·obtain⟨n,hn,h⟩:=Qg h;cases h; exact .store _ _ _ _ hn
 ·cases h; exact .nilCheck _
 ·exact To h
 ·cases h; exact .un _ _ _
 ·obtain⟨hg,h⟩:=Zt h;obtain⟨q,hq,h⟩:=Qg h;cases h; exact .conv _ _ _ _ hg (U6 hq)
 ·obtain⟨hg,h⟩:=Zt h;cases h; exact .gj _ _ hg
 ·cases h; exact .iL _ _ _
 ·cases h; exact .makeMap _
 ·split at h
  ·rename_i fs hu;obtain⟨fd,hf,h⟩:=Qg h;obtain⟨n,hn,h⟩:=Qg h;obtain⟨hg,h⟩:=Zt h;cases h;exact .fieldAddr _ _ _ fs fd n hu hf hn (λe0=>by rw[e0] at hg; cases hg)
  ·cases h
 ·split at h
  ·rename_i fs hu;obtain⟨fd,hf,h⟩:=Qg h;obtain⟨n,hn,h⟩:=Qg h;obtain⟨agg,ha,h⟩:=Qg h;cases h;exact .field _ _ _ fs fd _ _ hu hf hn ha
  ·cases h
 ·split at h
  ·rename_i len e hu;obtain⟨n,hn,h⟩:=Qg h;cases h; exact .eS _ _ _ _ e _ hu hn
  ·rename_i e hu;obtain⟨n,hn,h⟩:=Qg h;cases h; exact .dW _ _ _ e _ hu hn
  ·cases h
 ·split at h
  ·rename_i len e hu;obtain⟨n,hn,h⟩:=Qg h;obtain⟨agg,ha,h⟩:=Qg h;cases h; exact .qi _ _ _ _ e _ _ hu hn ha
  ·rename_i hu; cases h; exact .jE _ _ _ hu
  ·cases h
 ·cases h; exact .extract _ _
 ·split at h
  ·rename_i e hu;obtain⟨n,hn,h⟩:=Qg h;cases h; exact .cu _ _ _ _ _ e _ hu hn
  ·rename_i hu;split at h
   ·cases h; exact .dg _ _ _ _ hu
   ·cases h
  ·cases h
 ·exact TH h
 ·split at h
  ·rename_i k e hu;obtain⟨s,hs,h⟩:=Qg h;obtain⟨v,hv,h⟩:=Qg h;obtain⟨z,hz,h⟩:=Qg h;cases h; exact .lookup _ k e _ _ _ _ v _ hu (IF hs) hv hz
  ·cases h
 ·split at h
  ·rename_i k e hu;obtain⟨s,hs,h⟩:=Qg h;cases h; exact .mapUpdate _ k e _ _ _ _ hu (IF hs)
  ·cases h
 ·split at h
  ·rename_i k e hu;obtain⟨s,hs,h⟩:=Qg h;cases h; exact .mapInsert _ k e _ _ _ _ hu (IF hs)
  ·cases h
 ·obtain⟨hg,h⟩:=Zt h;cases h; exact .range _ _ (T6 hg)
 ·cases h; exact .next _
 ·obtain⟨hg,h⟩:=Zt h;simp only[Bool.and_eq_true] at hg;obtain⟨v,hv,h⟩:=Qg h;obtain⟨z,hz,h⟩:=Qg h;cases h; exact .d_ _ _ _ _ v _ hg.1 hg.2 hv hz
 ·cases h
end
end Go.Ah
end
section
namespace Go.Ah
def Hq(g:Nat):aA→Option (List aa)
 |[]=>none
 |(q,row)::r=>match Nat.beq g q with
  |true=>some row
  |false=>Hq g r
theorem O'{g:Nat}{row:List aa}:∀ {GL:aA},Hq g GL=some row→(g,row)∈GL
 |[],h=>by cases h
 |(q,r)::GL,h=>by
  simp only[Hq] at h;split at h
  ·rename_i e; cases h; rw[eZ e]; simp
  ·exact List.mem_cons_of_mem _ (O' h)
def JU(GL:aA):Operand→Option tD
 |.tmp t=>some (.t t)
 |.const v=>aZ (nS v) λx=>some (.c x)
 |.global g=>aZ (Hq g GL) λrow=>some (.c (.ay row 0))
 |.func f=>some (.c (.func (.func f) [] []))
theorem ON{GL:aA}{x:Operand}{y:tD}(h:JU GL x=some y):jR GL x y:=by
 cases x with
 |tmp t=>cases h; exact .tmp _
 |const v=>obtain⟨z,hz,h⟩:=Qg h; cases h; exact .const _ _ hz
 |global g=>obtain⟨z,hz,h⟩:=Qg h; cases h; exact .EF _ _ (O' hz)
 |func f=>cases h; exact .func _
theorem JR{α β:Type}{f:α→Option β}{R:α→β→Prop}(hR:∀ {a b},f a=some b→R a b):∀ {l:List α} {r:List β},mapM' f l=some r→lp R l r
 |[],r,h=>by simp[mapM'] at h; subst h; trivial
 |a::l,r,h=>by
  obtain⟨b,hb,h⟩:=Qg h;obtain⟨r',hr,h⟩:=Qg h;cases h;exact⟨hR hb,JR hR hr⟩
def Ey(n:Nat):Option Nat→Bool
 |none=>true
 |some d=>Nat.blt d n
def Vz(ops:List Oper):Option (Nat×Bool)→Option (Option (Nat×Bool))
 |none=>some none
 |some (j,w)=>aZ (nth ops j) λo=>aZ o.dst λs=>some (some (s,w))
def IU(P:Program)(GL:aA)(n:Nat)(ops:List Oper)(o:Oper):Option aO:=
 YU (Ey n o.dst) (aZ (Jz P o.op) λ(k,os)=>aZ (mapM' (JU GL) os) λxs=>aZ (Vz ops o.guard) λg=>some ⟨o.dst,k,xs,g⟩)
theorem UQ{P:Program}{GL:aA}{n:Nat}{ops:Array Oper}{o:Oper}{m:aO}(h:IU P GL n ops.toList o=some m):gQ P GL n ops o m:=by
 unfold IU at h;obtain⟨hd,h⟩:=Zt h;obtain⟨⟨k,os⟩,hc,h⟩:=Qg h;obtain⟨xs,hx,h⟩:=Qg h;obtain⟨g,hg,h⟩:=Qg h;cases h;refine⟨rfl,λd e=>?_,⟨os,Td hc,JR ON hx⟩,?_⟩
 ·simp only at e; rw[e] at hd; exact fQ hd
 ·cases Rq:o.guard with
  |none=>rw[Rq] at hg; cases hg; trivial
  |some jw=>
   obtain⟨j,w⟩:=jw;rw[Rq] at hg;obtain⟨o',dV,hg⟩:=Qg hg;obtain⟨s,hs,hg⟩:=Qg hg;cases hg;rw[QU,Array.getElem?_toList] at dV;exact⟨rfl,by rw[dV]; exact hs⟩
def uA(ops:List Oper)(acc:List (List Nat)):List (List Nat):=
 match ops with
 |[]=>acc
 |o::r=>uA r (acc++[(List.range acc.length).filter ((waits o).foldl (λl j=>qD (j::QC acc j) l) []).contains])
where qD:List Nat→List Nat→List Nat
 |[],l=>l
 |x::xs,l=>match l.contains x with
  |true=>qD xs l
  |false=>qD xs (x::l)
def Qz(P:Program)(GL:aA)(n:Nat):Code→Option cW
 |.skip=>some .skip
 |.region id ops dr=>aZ (mapM' (IU P GL n ops.toList) ops.toList) λms=>match dr with
  |false=>some (.region id ms none)
  |true=>YU (DT ops.toList ms (uA ops.toList [])) (some (.region id ms (some (uA ops.toList []))))
 |.seq a b=>aZ (Qz P GL n a) λx=>aZ (Qz P GL n b) λy=>some (.seq x y)
 |.cond c a b=>aZ (JU GL c) λd=>aZ (Qz P GL n a) λx=>aZ (Qz P GL n b) λy=>some (.cond d x y)
 |.block id a=>aZ (Qz P GL n a) λx=>some (.block id x)
 |.loop a=>aZ (Qz P GL n a) λx=>some (.loop x)
 |.scope a=>aZ (Qz P GL n a) λx=>some (.scope x)
 |.exit id=>some (.exit id)
 |.label l=>some (.label l)
 |.ret=>some .ret
 |_=>none
theorem MA{α β:Type}{f:α→Option β}:∀ {l:List α} {r:List β},mapM' f l=some r→l.length=r.length∧∀(j:Nat) (b:β),r[j]?=some b→∃a,l[j]?=some a∧f a=some b
 |[],r,h=>by simp[mapM'] at h; subst h; simp
 |a::l,r,h=>by
  obtain⟨b,hb,h⟩:=Qg h;obtain⟨r',hr,h⟩:=Qg h;cases h;obtain⟨h1,h2⟩:=MA hr;refine⟨by simp[h1],λj c e=>?_⟩;cases j with
  |zero=>simp at e; subst e; exact⟨a,rfl,hb⟩
  |succ j=>simp at e; obtain⟨a',q1,q2⟩:=h2 j c e; exact⟨a',by simpa using q1,q2⟩
theorem Sm{P:Program}{GL:aA}{n:Nat}:∀ {c:Code} {m:cW},Qz P GL n c=some m→cC P GL n c m:=by
 intro c
 induction c with
 |skip=>intro m h; cases h; exact .skip
 |region id ops dr=>
  intro m h;simp only[Qz] at h;obtain⟨ms,hm,h⟩:=Qg h;obtain⟨h1,h2⟩:=MA hm;have de:∀(j:Nat) (x:aO),ms[j]?=some x→∃o,ops[j]?=some o∧gQ P GL n ops o x:=λj x e=>by
   obtain⟨o,q1,q2⟩:=h2 j x e;exact⟨o,by simpa using q1,UQ q2⟩
  cases dr with
  |false=>cases h; exact .region _ _ _ (by simpa using h1) de
  |true=>
   obtain⟨hg,h⟩:=Zt h;cases h; exact .draw _ _ _ _ (by simpa using h1) de hg
 |seq a b Lm Lo=>
  intro m h;simp only[Qz] at h;obtain⟨x,hx,h⟩:=Qg h;obtain⟨y,hy,h⟩:=Qg h;cases h; exact .seq _ _ _ _ (Lm hx) (Lo hy)
 |cond c a b Lm Lo=>
  intro m h;simp only[Qz] at h;obtain⟨d,hd,h⟩:=Qg h;obtain⟨x,hx,h⟩:=Qg h;obtain⟨y,hy,h⟩:=Qg h;cases h; exact .cond _ _ _ _ _ _ (ON hd) (Lm hx) (Lo hy)
 |block id a ih=>
  intro m h;simp only[Qz] at h;obtain⟨x,hx,h⟩:=Qg h;cases h; exact .block _ _ _ (ih hx)
 |loop a ih=>
  intro m h;simp only[Qz] at h;obtain⟨x,hx,h⟩:=Qg h;cases h; exact .loop _ _ (ih hx)
 |scope a ih=>
  intro m h;simp only[Qz] at h;obtain⟨x,hx,h⟩:=Qg h;cases h; exact .scope _ _ (ih hx)
 |exit id=>intro m h; cases h; exact .exit _
 |label l=>intro m h; cases h; exact .label _
 |ret=>intro m h; cases h; exact .ret
 |_=>intro m h; simp[Qz] at h
def Mo(P:Program):ResultVar→Option RV
 |.tmp t=>some (.t t)
 |.cell s t=>aZ (ea P t) λagg=>aZ (size? P t) λn=>some (.c s agg n)
theorem R3{P:Program}{r:ResultVar}{v:RV}(h:Mo P r=some v):sF P r v:=by
 cases r with
 |tmp t=>cases h; exact .tmp _
 |cell s t=>
  obtain⟨agg,ha,h⟩:=Qg h;obtain⟨n,hn,h⟩:=Qg h;cases h; exact .cell _ _ _ _ ha hn
def I9(P:Program)(GL:aA)(np:Nat)(f:FuncId):Option s_:=
 aZ P.funcs[f]? λfn=>aZ fn.body λc=>YU (Nat.ble np fn.ntmps) (aZ (Qz P GL fn.ntmps c) λm=>aZ (mapM' (Mo P) fn.results.toList) λrs=>some ⟨np,fn.ntmps,m,rs⟩)
theorem Se{P:Program}{GL:aA}{np:Nat}{f:FuncId}{F:s_}(h:I9 P GL np f=some F):kK P GL f F:=by
 unfold I9 at h;obtain⟨fn,h1,h⟩:=Qg h;obtain⟨c,h2,h⟩:=Qg h;obtain⟨h3,h⟩:=Zt h;obtain⟨m,h4,h⟩:=Qg h;obtain⟨rs,h5,h⟩:=Qg h;cases h;exact⟨⟨fn,c,h1,h2,rfl,Sm h4,JR R3 h5⟩,fQ h3⟩
theorem aS.ptr{h0:Hp}{rd:List Nat}{b i j sz:Nat}{rs:List (List aa)}{row row':List aa}(hb:h0 b=some (.rows sz rs))(cv:b∈rd)(hi:rs[i]?=some row)(hr:bM h0 rd row row'):aS h0 rd (.ptr b i j) (.ay row' j):=by
 intro GL w0 L g h w M2 r hM cB v d;have bq:h b=some (.rows sz rs):=by rw[cB b cv]; exact hb
 cases d with
 |ptr _ _ _ _ cb ec=>
 cases bc:cb.cS with
 |true=>
  have:=(r.eX bq ec bc).2;subst this; simp at hi
 |false=>
 obtain⟨e1,arr,T,dV,hs,hle,cI,bY⟩:=r.dw bq ec bc;have hw:M2 cb.blk=some (.cells arr T (0,0)):=hM.2 b _ cb _ bq rfl ec bc dV;have bj:i<rs.length:=(cJ hi).1;have yJ:=cI _ _ hi;have lz:∀k,k<sz→i*sz+k<arr.size:=by
  intro k hk;have:(i+1)*sz≤rs.length*sz:=Nat.mul_le_mul_right sz bj;rw[Nat.succ_mul] at this; omega
 obtain⟨k1,k2⟩:=hr.get r hM cB (vs:=(arr.extract (i * sz) (i * sz + sz)).toList) (by
  simp[yJ];by_cases h0:sz=0
  ·subst h0; simp
  ·have:=lz (sz-1) (by omega); omega) (λk x v q3 q4=>by
  have hk:k<sz:=by rw[←yJ]; exact(cJ q3).1
  have eR:=lz k hk;rw[Array.getElem?_toList] at q4;obtain⟨_,q4⟩:=Array.getElem?_eq_some_iff.1 q4;rw[Array.getElem_extract] at q4;exact bY _ row k x v hi q3 (by rw[Array.getElem?_eq_getElem eR,q4]))
 have hlen:row'.length=sz:=by
  rw[k1]; simp;by_cases h0:sz=0
  ·subst h0; simp
  ·have:=lz (sz-1) (by omega); omega
 rw[e1];refine .ay _ _ _ _ _ (λk=>(arr[i*sz+k]?).getD undef) (λk hk=>?_) (λk x e=>?_)
 ·have tn:=lz k (by omega);simp[fL,hw,tn]
 ·have hk:k<sz:=by rw[←hlen]; exact(cJ e).1
  have eR:=lz k hk;simp only[Array.getElem?_eq_getElem eR,Option.getD_some];refine k2 k x _ e ?_;rw[Array.getElem?_toList,Array.getElem?_eq_getElem (by simp; omega),Array.getElem_extract]
def D0(f:List aa→Option (List aa×List Nat)):List (List aa)→Option (List (List aa)×List Nat)
 |[]=>some ([],[])
 |r::rs=>match f r,D0 f rs with
  |some (r',rd),some (iu,gA)=>some (r'::iu,rd++gA)
  |_,_=>none
def s7:List (aa×aa)→Bool
 |[]=>true
 |(k,v)::r=>k.ro&&(v.ro&&s7 r)
def Xu(σ:List ab):Nat→List aa→Option (List aa×List Nat)
 |_,[]=>some ([],[])
 |0,_::_=>none
 |fuel+1,x::xs=>match Xu σ fuel xs with
  |none=>none
  |some (ys,rd)=>match x with
   |.an b j=>match ah σ b with
    |.box row=>match Xu σ fuel row with
     |some (row',gA)=>some (.ay row' j::ys,b::gA++rd)
     |none=>none
    |_=>none
   |.ptr b i j=>match ah σ b with
    |.rows _ rs=>match nth rs i with
     |some row=>match Xu σ fuel row with
      |some (row',gA)=>some (.ay row' j::ys,b::gA++rd)
      |none=>none
     |none=>none
    |_=>none
   |.sl b off len ex=>match ah σ b with
    | .rows sz rs=>bif Nat.ble (off + len) rs.length then (match D0 (Xu σ fuel) (cut off (off + len) rs) with
     |some (iu,gA)=>some (.ax ex false sz iu::ys,b::gA++rd)
     | none=>none) else none
    |_=>none
   |.map b=>match ah σ b with
    |.map es=>bif s7 es then some (.dZ es::ys,b::rd) else none
    |_=>none
   |.iface t v=>match Xu σ fuel [v] with
    |some ([v'],gA)=>some (.iface t v'::ys,gA++rd)
    |_=>none
   |.agg cs=>match Xu σ fuel cs with
    |some (Eu,gA)=>some (.agg Eu::ys,gA++rd)
    |_=>none
   |.func fn a b=>match Xu σ fuel a,Xu σ fuel b with
    |some (a',gA),some (b',LF)=>some (.func fn a' b'::ys,gA++LF++rd)
    |_,_=>none
   |x=>bif x.ro then some (x::ys,rd) else none
theorem Py:∀ {es:List (aa×aa)},s7 es=true→∀p∈es,p.1.ro=true∧p.2.ro=true
 |[],_,_,h=>by cases h
 |(k,v)::r,h,p,hp=>by
  simp only[s7,Bool.and_eq_true] at h;rcases List.mem_cons.1 hp with rfl|hp
  ·exact⟨h.1,h.2.1⟩
  ·exact Py h.2.2 p hp
theorem OQ{f:List aa→Option (List aa×List Nat)}:∀ {rs iu:List (List aa)} {rd:List Nat},D0 f rs=some (iu,rd)→iu.length=rs.length∧∀(i:Nat) (r r':List aa),rs[i]?=some r→iu[i]?=some r'→∃gA,f r=some (r',gA)∧∀b∈gA,b∈rd
 |[],iu,rd,h=>by simp only[D0] at h; cases h; simp
 |r::rs,iu,rd,h=>by
  simp only[D0] at h;split at h
  ·rename_i r1 Ay rs1 Dp e1 e2;cases h;obtain⟨h1,h2⟩:=OQ e2;refine⟨by simp[h1],λi x x' q1 q2=>?_⟩;cases i with
   |zero=>simp at q1 q2; subst q1 q2; exact⟨Ay,e1,λb hb=>List.mem_append.2 (.inl hb)⟩
   |succ i=>
    simp at q1 q2;obtain⟨gA,k1,k2⟩:=h2 i x x' q1 q2;exact⟨gA,k1,λb hb=>List.mem_append.2 (.inr (k2 b hb))⟩
  ·cases h
theorem X0{σ:List ab}:∀(fuel:Nat) (xs ys:List aa) (rd:List Nat),Xu σ fuel xs=some (ys,rd)→∀gA,(∀b∈rd,b∈gA)→bM (hp σ) gA xs ys:=by
 intro fuel
 induction fuel with
 |zero=>
  intro xs ys rd h gA hs;cases xs with
  |nil=>simp only[Xu] at h; cases h; exact bM.nil
  |cons x xs=>simp only[Xu] at h; cases h
 |succ fuel ih=>
  intro xs ys rd h gA hs;cases xs with
  |nil=>simp only[Xu] at h; cases h; exact bM.nil
  |cons x xs=>
   simp only[Xu] at h;cases h0:Xu σ fuel xs with
   |none=>simp[h0] at h
   |some p=>
    obtain⟨ys0,rd0⟩:=p;simp only[h0] at h;split at h
    ·rename_i b j;split at h
     ·rename_i row hg;split at h
      ·rename_i row' Ay hr;cases h;exact bM.cons (aS.box (G9 hg) (hs _ (by simp)) (ih _ _ _ hr gA (λq hq=>hs q (by simp[hq])))) (ih _ _ _ h0 gA (λq hq=>hs q (by simp[hq])))
      ·cases h
     ·cases h
    ·rename_i b i j;split at h
     ·rename_i sz rs hg;split at h
      ·rename_i row hn;split at h
       ·rename_i row' Ay hr;cases h;rw[QU] at hn;exact bM.cons (aS.ptr (YD hg) (hs _ (by simp)) hn (ih _ _ _ hr gA (λq hq=>hs q (by simp[hq])))) (ih _ _ _ h0 gA (λq hq=>hs q (by simp[hq])))
       ·cases h
      ·cases h
     ·cases h
    ·rename_i b off len ex;split at h
     ·rename_i sz rs hg
      replace h:=Qx h
      obtain⟨hle,h⟩:=h;split at h
      ·rename_i iu Ay hr;cases h;obtain⟨m1,m2⟩:=OQ hr;have z8:=fQ hle;refine bM.cons (aS.sl (YD hg) (hs _ (by simp)) z8 (by rw[m1,QQ z8]; omega) (λi r r' q1 q2=>?_)) (ih _ _ _ h0 gA (λq hq=>hs q (by simp[hq])));have hi:i<len:=by
        have:=(cJ q2).1;rw[m1,QQ z8] at this; omega
       have hc:(cut off (off+len) rs)[i]?=some r:=by
        unfold cut;rw[List.getElem?_drop,List.getElem?_take_of_lt (by omega)];exact q1
       obtain⟨Dp,k1,k2⟩:=m2 i r r' hc q2;exact ih _ _ _ k1 gA (λq hq=>hs q (by simp[k2 q hq]))
      ·cases h
     ·cases h
    ·rename_i b;split at h
     ·rename_i es hg
      replace h:=Qx h
      obtain⟨jO,h⟩:=h;cases h;exact bM.cons (aS.map (GS hg) (hs _ (by simp)) (Py jO)) (ih _ _ _ h0 gA (λq hq=>hs q (by simp[hq])))
     ·cases h
    ·split at h
     ·rename_i v' Ay hr;cases h;have:=ih _ _ _ hr gA (λq hq=>hs q (by simp[hq]));refine bM.cons (aS.iface (λGL w0 L g h w M2 r hM cB v d=>?_)) (ih _ _ _ h0 gA (λq hq=>hs q (by simp[hq])));exact(this GL w0 L g h w M2 r hM cB [v] ⟨d,trivial⟩).1
     ·cases h
    ·split at h
     ·rename_i Eu Ay hr;cases h;exact bM.cons (aS.agg (ih _ _ _ hr gA (λq hq=>hs q (by simp[hq])))) (ih _ _ _ h0 gA (λq hq=>hs q (by simp[hq])))
     ·cases h
    ·split at h
     ·rename_i a' Ay b' Dp hr1 tt;cases h;exact bM.cons (aS.func (ih _ _ _ hr1 gA (λq hq=>hs q (by simp[hq]))) (ih _ _ _ tt gA (λq hq=>hs q (by simp[hq])))) (ih _ _ _ h0 gA (λq hq=>hs q (by simp[hq])))
     ·cases h
    ·replace h:=Qx h
     obtain⟨jO,h⟩:=h;cases h;exact bM.cons (aS.ro jO) (ih _ _ _ h0 gA hs)
end Go.Ah
end
section
namespace Go.Ah
mutual
def aa.bG (m:Nat→Option Nat):aa→aa
 |.an b j=>match m b with
  |some b'=>.an b' j
  |none=>.aI
 |.ptr b i j=>match m b with
  |some b'=>.ptr b' i j
  |none=>.aI
 |.sl b off len ex=>match m b with
  |some b'=>.sl b' off len ex
  |none=>.aI
 |.map b=>match m b with
  |some b'=>.map b'
  |none=>.aI
 |.iter b=>match m b with
  |some b'=>.iter b'
  |none=>.aI
 |.func fn xs ys=>.func fn (fg m xs) (fg m ys)
 |.iface t v=>.iface t (v.bG m)
 |.agg cs=>.agg (fg m cs)
 |.aG cs=>.aG (fg m cs)
 |.when cs x=>.when cs (x.bG m)
 |.aI=>.aI
 |.bool b=>.bool b
 |.int k n=>.int k n
 |.str s=>.str s
 |.bQ=>.bQ
 |.ay row j=>.ay row j
 |.af=>.af
 |.cj=>.cj
 |.ax a b c d=>.ax a b c d
 |.dZ es=>.dZ es
 |.bD=>.bD
 |.ct=>.ct
 |.dX=>.dX
def fg (m:Nat→Option Nat):List aa→List aa
 |[]=>[]
 |x::xs=>x.bG m::fg m xs
end
theorem It(m:Nat→Option Nat):∀xs:List aa,fg m xs=xs.map (aa.bG m)
 |[]=>rfl
 |x::xs=>by simp[fg,It m xs]
theorem C_{m:Nat→Option Nat}{xs:List aa}{i:Nat}{y:aa}(h:(fg m xs)[i]?=some y):∃x,xs[i]?=some x∧y=x.bG m:=by
 rw[It,List.getElem?_map] at h;cases hx:xs[i]? with
 |none=>simp[hx] at h
 |some x=>simp[hx] at h; exact⟨x,rfl,h.symm⟩
theorem Qy(m:Nat→Option Nat)(xs:List aa):(fg m xs).length=xs.length:=by rw[It]; simp
theorem Den.bG{M:Nat→Option Obj}{m:Nat→Option Nat}{c':Own}{c:Own}{x:aa}{v:Value}(h:Den M c x v):(∀b b' cb,m b=some b'→c b=some cb→c' b'=some cb)→Den M c' (x.bG m) v:=by
 induction h with
 |aI=>intro _; exact .aI _ _
 |bool=>intro _; exact .bool _ _
 |int=>intro _; exact .int _ _ _
 |str=>intro _; exact .str _ _
 |bQ=>intro _; exact .bQ _
 |an c b j cb e=>
  intro hm; simp only[aa.bG];cases hb:m b with
  |none=>exact .aI _ _
  |some b'=>exact .an _ _ _ _ (hm _ _ _ hb e)
 |ptr c b i j cb e=>
  intro hm; simp only[aa.bG];cases hb:m b with
  |none=>exact .aI _ _
  |some b'=>exact .ptr _ _ _ _ _ (hm _ _ _ hb e)
 |ay c row j blk off f h1 h2 ih=>intro _; exact .ay _ _ _ _ _ f h1 h2
 |af=>intro _; exact .af _
 |cj=>intro _; exact .cj _ _
 |sl c b off len ex cb cap e h1 h2 h3 h4=>
  intro hm; simp only[aa.bG];cases hb:m b with
  |none=>exact .aI _ _
  |some b'=>exact .sl _ _ _ _ _ _ _ (hm _ _ _ hb e) h1 h2 h3 h4
 |mu c b ex cb a e h1=>
  intro hm; simp only[aa.bG];cases hb:m b with
  |none=>exact .aI _ _
  |some b'=>exact .mu _ _ _ _ _ (hm _ _ _ hb e) h1
 |ax c ex nn sz rows a cap blk off f h1 h2 h3 zH h4 h5 h6 h7 ih=>intro _; exact .ax _ _ _ _ _ _ _ blk off f h1 h2 h3 zH h4 h5 h6 h7
 |map c b cb e=>
  intro hm; simp only[aa.bG];cases hb:m b with
  |none=>exact .aI _ _
  |some b'=>exact .map _ _ _ (hm _ _ _ hb e)
 |dZ c es blk arr clock e h1 h2 h3 sV sW=>intro _; exact .dZ _ _ _ _ _ e h1 h2 h3
 |bD=>intro _; exact .bD _
 |func c fn first captured vs ws h1 h2 h3 h4 sV sW=>
  intro hm; simp only[aa.bG];exact .func _ _ _ _ _ _ (by rw[Qy]; exact h1) (by rw[Qy]; exact h2)
   (λi y u e1 e2=>by obtain⟨x,q1,rfl⟩:=C_ e1; exact sV i x u q1 e2 hm) (λi y u e1 e2=>by obtain⟨x,q1,rfl⟩:=C_ e1; exact sW i x u q1 e2 hm)
 |ct=>intro _; exact .ct _
 |iface c t x v h ih=>intro hm; exact .iface _ _ _ _ (ih hm)
 |dX=>intro _; exact .dX _
 |agg c cs vs h1 h2 ih=>intro hm; simp only[aa.bG]; exact .agg _ _ _ (by rw[Qy]; exact h1) (λi y u e1 e2=>by obtain⟨x,q1,rfl⟩:=C_ e1; exact ih i x u q1 e2 hm)
 |aG c cs vs h1 h2 ih=>intro hm; simp only[aa.bG]; exact .aG _ _ _ (by rw[Qy]; exact h1) (λi y u e1 e2=>by obtain⟨x,q1,rfl⟩:=C_ e1; exact ih i x u q1 e2 hm)
 |when c cs x v h h2 ih=>intro hm; exact .when _ _ _ _ (λhp=>ih hp hm) h2
 |iter c b cb e=>
  intro hm; simp only[aa.bG];cases hb:m b with
  |none=>exact .aI _ _
  |some b'=>exact .iter _ _ _ (hm _ _ _ hb e)
mutual
def aa.cA:aa→Bool
 |.ay _ _=>false
 |.ax _ _ _ (_::_)=>false
 |.dZ _=>false
 |.func _ xs ys=>fu xs&&fu ys
 |.iface _ v=>v.cA
 |.agg cs=>fu cs
 |.aG cs=>fu cs
 |.when _ x=>x.cA
 |_=>true
def fu:List aa→Bool
 |[]=>true
 |x::xs=>x.cA&&fu xs
end
theorem Z9:∀ {xs:List aa} {i:Nat} {x:aa},fu xs=true→xs[i]?=some x→x.cA=true
 |[],i,x,_,e=>by simp at e
 |y::xs,0,x,h,e=>by simp[fu] at h; simp at e; subst e; exact h.1
 |y::xs,i+1,x,h,e=>by simp[fu] at h; simp at e; exact Z9 h.2 e
mutual
theorem aa.iO (m:Nat→Option Nat):∀(x:aa),x.cA=true→(x.bG m).cA=true
 |.an b j,_=>by simp only[aa.bG]; split<;>rfl
 |.ptr b i j,_=>by simp only[aa.bG]; split<;>rfl
 |.sl b off len ex,_=>by simp only[aa.bG]; split<;>rfl
 |.map b,_=>by simp only[aa.bG]; split<;>rfl
 |.iter b,_=>by simp only[aa.bG]; split<;>rfl
 |.func fn xs ys,h=>by
  simp only[aa.cA,Bool.and_eq_true] at h
  simp only[aa.bG,aa.cA,Bool.and_eq_true]
  exact⟨Y9 m xs h.1,Y9 m ys h.2⟩
 |.iface t v,h=>by simp only[aa.cA] at h; simp only[aa.bG,aa.cA]; exact aa.iO m v h
 |.agg cs,h=>by simp only[aa.cA] at h; simp only[aa.bG,aa.cA]; exact Y9 m cs h
 |.aG cs,h=>by simp only[aa.cA] at h; simp only[aa.bG,aa.cA]; exact Y9 m cs h
 |.when cs x,h=>by simp only[aa.cA] at h; simp only[aa.bG,aa.cA]; exact aa.iO m x h
 |.aI,_=>rfl
 |.bool b,_=>rfl
 |.int k n,_=>rfl
 |.str s,_=>rfl
 |.bQ,_=>rfl
 |.ay row j,h=>h
 |.af,_=>rfl
 |.cj,_=>rfl
 |.ax a b c d,h=>h
 |.dZ es,h=>h
 |.bD,_=>rfl
 |.ct,_=>rfl
 |.dX,_=>rfl
theorem Y9 (m:Nat→Option Nat):∀(xs:List aa),fu xs=true→fu (fg m xs)=true
 |[],_=>rfl
 |x::xs,h=>by
  simp only[fu,Bool.and_eq_true] at h
  simp only[fg,fu,Bool.and_eq_true]
  exact⟨aa.iO m x h.1,Y9 m xs h.2⟩
end
def ab.dk(f:aa→aa):ab→ab
 |.dead=>.dead
 |.box row=>.box (row.map f)
 |.rows sz rs=>.rows sz (rs.map λr=>r.map f)
 |.map es=>.map (es.map λp=>(f p.1,f p.2))
 |.dN s p=>.dN s p
def ab.qC(p:aa→Prop):ab→Prop
 |.dead=>True
 |.box row=>∀x∈row,p x
 |.rows _ rs=>∀r∈rs,∀x∈r,p x
 |.map es=>∀e∈es,p e.1∧p e.2
 |.dN _ _=>True
def QX:List (List aa)→Bool
 |[]=>true
 |r::rs=>fu r&&QX rs
def HI:List (aa×aa)→Bool
 |[]=>true
 |(k,v)::r=>k.cA&&(v.cA&&HI r)
def ab.cA:ab→Bool
 |.dead=>true
 |.box row=>fu row
 |.rows _ rs=>QX rs
 |.map es=>HI es
 |.dN _ _=>true
def xY:List ab→Bool
 |[]=>true
 |b::bs=>b.cA&&xY bs
theorem JM:∀ {xs:List aa},fu xs=true→∀x∈xs,x.cA=true
 |y::xs,h,x,hx=>by
  simp only[fu,Bool.and_eq_true] at h;rcases List.mem_cons.1 hx with rfl|hx
  ·exact h.1
  ·exact JM h.2 x hx
theorem M9:∀ {rs:List (List aa)},QX rs=true→∀r∈rs,∀x∈r,x.cA=true
 |y::rs,h,r,hr=>by
  simp only[QX,Bool.and_eq_true] at h;rcases List.mem_cons.1 hr with rfl|hr
  ·exact JM h.1
  ·exact M9 h.2 r hr
theorem M4:∀ {es:List (aa×aa)},HI es=true→∀e∈es,e.1.cA=true∧e.2.cA=true
 |(k,v)::r,h,e,he=>by
  simp only[HI,Bool.and_eq_true] at h;rcases List.mem_cons.1 he with rfl|he
  ·exact⟨h.1,h.2.1⟩
  ·exact M4 h.2.2 e he
theorem ab.uY{b:ab}(h:b.cA=true):b.qC (λx=>x.cA=true):=by
 cases b with
 |dead=>trivial
 |box row=>exact JM h
 |rows sz rs=>exact M9 h
 |map es=>exact M4 h
 |dN s q=>trivial
theorem NX:∀ {bs:List ab},xY bs=true→∀b∈bs,b.qC (λx=>x.cA=true)
 |y::bs,h,b,hb=>by
  simp only[xY,Bool.and_eq_true] at h;rcases List.mem_cons.1 hb with rfl|hb
  ·exact ab.uY h.1
  ·exact NX h.2 b hb
theorem ab.all_true(b:ab):b.qC (λ_=>True):=by
 cases b<;>simp[ab.qC]
theorem Den.cA{M:Nat→Option Obj}{c:Own}{x:aa}{v:Value}(h:Den M c x v):x.cA=true→∀M',Den M' c x v:=by
 induction h with
 |aI=>intro _ _; exact .aI _ _
 |bool=>intro _ _; exact .bool _ _
 |int=>intro _ _; exact .int _ _ _
 |str=>intro _ _; exact .str _ _
 |bQ=>intro _ _; exact .bQ _
 |an c b j cb e=>intro _ _; exact .an _ _ _ _ e
 |ptr c b i j cb e=>intro _ _; exact .ptr _ _ _ _ _ e
 |ay=>intro h; simp[aa.cA] at h
 |af=>intro _ _; exact .af _
 |cj=>intro _ _; exact .cj _ _
 |sl c b off len ex cb cap e h1 h2 h3 h4=>intro _ _; exact .sl _ _ _ _ _ _ _ e h1 h2 h3 h4
 |mu c b ex cb a e h1=>intro _ _; exact .mu _ _ _ _ _ e h1
 |ax c ex nn sz rows a cap blk off f h1 h2 h3 zH h4 h5 h6 h7 ih=>
  intro h M';cases rows with
  |nil=>exact .ax _ _ _ _ [] _ _ blk off f h1 h2 h3 zH h4 h5 (by simp) (by simp)
  |cons r rs=>simp[aa.cA] at h
 |map c b cb e=>intro _ _; exact .map _ _ _ e
 |dZ=>intro h; simp[aa.cA] at h
 |bD=>intro _ _; exact .bD _
 |func c fn first captured vs ws h1 h2 h3 h4 sV sW=>
  intro h M';simp[aa.cA] at h;exact .func _ _ _ _ _ _ h1 h2 (λi x v e1 e2=>sV i x v e1 e2 (Z9 h.1 e1) M') (λi x v e1 e2=>sW i x v e1 e2 (Z9 h.2 e1) M')
 |ct=>intro _ _; exact .ct _
 |iface c t x v h ih=>intro hr M'; exact .iface _ _ _ _ (ih (by simpa[aa.cA] using hr) M')
 |dX=>intro _ _; exact .dX _
 |agg c cs vs h1 h2 ih=>intro h M'; exact .agg _ _ _ h1 (λi x v e1 e2=>ih i x v e1 e2 (Z9 (by simpa[aa.cA] using h) e1) M')
 |aG c cs vs h1 h2 ih=>intro h M'; exact .aG _ _ _ h1 (λi x v e1 e2=>ih i x v e1 e2 (Z9 (by simpa[aa.cA] using h) e1) M')
 |when c cs x v h h2 ih=>intro hr M'; exact .when _ _ _ _ (λhp=>ih hp (by simpa[aa.cA] using hr) M') h2
 |iter c b cb e=>intro _ _; exact .iter _ _ _ e
theorem ab.bp(f:aa→aa)(b:ab):(b.dk f).live=b.live:=by cases b<;>rfl
theorem iD.dk{M M':Nat→Option Obj}{c c':Own}{f:aa→aa}{p:aa→Prop}(hf:∀x v,p x→Den M c x v→Den M' c' (f x) v){cb:CB}{o:Obj}{b:ab}(h:iD M c cb o b)(hp:b.qC p):iD M' c' cb o (b.dk f):=by
 cases b with
 |dead=>trivial
 |box row=>
  obtain⟨arr,T,h1,h2,h3⟩:=h;refine⟨arr,T,h1,by simpa using h2,λj x v e1 e2=>?_⟩;rw[List.getElem?_map] at e1;cases hx:row[j]? with
  |none=>simp[hx] at e1
  |some y=>simp[hx] at e1; subst e1; exact hf y v (hp y (List.mem_of_getElem? hx)) (h3 j y v hx e2)
 |rows sz rows=>
  obtain⟨h0,arr,T,h1,h2,h3,h4,h5⟩:=h;refine⟨h0,arr,T,h1,h2,by simpa using h3,λi row e=>?_,λi row j x v e1 e2 e3=>?_⟩
  ·rw[List.getElem?_map] at e;cases hx:rows[i]? with
   |none=>simp[hx] at e
   |some y=>simp[hx] at e; subst e; simpa using h4 i y hx
  ·rw[List.getElem?_map] at e1;cases hx:rows[i]? with
   |none=>simp[hx] at e1
   |some y=>
    simp[hx] at e1; subst e1;rw[List.getElem?_map] at e2;cases hy:y[j]? with
    |none=>simp[hy] at e2
    |some z=>simp[hy] at e2; subst e2; exact hf z v (hp y (List.mem_of_getElem? hx) z (List.mem_of_getElem? hy)) (h5 i y j z v hx hy e3)
 |map es=>
  obtain⟨arr,clock,h1,h2,h3⟩:=h;refine⟨arr,clock,h1,by simpa using h2,λi k x e e1 e2=>?_⟩;rw[List.getElem?_map] at e1;cases hx:es[i]? with
  |none=>simp[hx] at e1
  |some y=>
   simp[hx] at e1; obtain⟨rfl,rfl⟩:=e1;have:=h3 i y.1 y.2 e hx e2;have Ak:=hp y (List.mem_of_getElem? hx);exact⟨hf _ _ Ak.1 this.1,hf _ _ Ak.2 this.2⟩
 |dN s q=>exact h
def ZB(N:Nat):Nat→Option Nat:=λb=>some (b+N)
def Zx(N:Nat):List ab→List (Nat×ab)
 |[]=>[]
 |b::bs=>(N,b)::Zx (N+1) bs
theorem N1:∀(bs:List ab) (N:Nat) (h:Hp) (b:Nat),ca h (Zx N bs) b=if N≤b∧b<N+bs.length then bs[b-N]? else h b
 |[],N,h,b=>by simp[Zx,ca]; intro h1 h2; omega
 |x::bs,N,h,b=>by
  simp only[Zx,ca];rw[N1 bs (N+1)];by_cases h1:b=N
  ·subst h1; rw[if_neg (by omega),if_pos (by simp),Xs]; simp
  ·by_cases h2:N+1≤b∧b<N+1+bs.length
   ·rw[if_pos h2,if_pos (by simp; omega),show b-N=(b-(N+1))+1 by omega]; simp
   ·rw[if_neg h2,if_neg (by simp; omega),Xq _ _ h1]
section
variable {P:Program} {GL:aA}
def cE(P:Program)(GL:aA)(f:FuncId)(xs:List aa)(v:aa)(bs:List ab):Prop:=
 ∀(w:World) (M:Nat→Option Obj) (vs:List Value),(∀b o,M b=some o→w.heap[b]?=some o)→(∀p∈GL,Den M aV (.ay p.2 0) (.pointer (some ⟨p.1,0,none⟩)))→bZ ⟨M,aV⟩ xs vs →
  Calls P f vs.toArray w λe w'=>∃u,e=.returned u∧∃g',fE M g'.M∧a_ GL w ⟨[],M⟩ g' (hp bs) w'∧g'.den v u
theorem Ml{f:FuncId}{F:s_}(ok:kK P GL f F){xs:List aa}(hn:xs.length=F.np){v:aa}{bs:List ab}
 (h:gm P GL F.n F.body (dP xs) [] (λe ρ σ=>(e=.normal∨e=.ret)∧fW F.fh ρ σ=some v∧σ=bs)):cE P GL f xs v bs:=by
 intro w M vs hM hg hx;obtain⟨fn,c,h1,h2,h3,h4,h5⟩:=ok.ok;have r0:=a_.start (GL:=GL) w M hM hg;have hh:hp []=pj:=by funext b; simp[hp,pj]
 rw[←hh] at r0;have d0:=Z2 hx (n:=F.n) (by rw[hn]; exact ok.np);refine calls_of_wp h1 h2 ?_;rw[h3];refine wp_mono (h c h4 w ⟨[],M⟩ _ _ w r0 d0) (λe a' w' hl=>?_);have fin:∀g' ρ σ,(⟨M,aV⟩:Gm).Le g'→a_ GL w ⟨[],M⟩ g' (hp σ) w'→df F.n g' ρ a'→(fW F.fh ρ σ=some v∧σ=bs)→∃u,(results fn a'.tmps).run P w'=.ok u w'∧(∃u',Ending.returned u=.returned u'∧∃g',fE M g'.M∧a_ GL w ⟨[],M⟩ g' (hp bs) w'∧g'.den v u'):=by
  rintro g' ρ σ hle hr hd ⟨oZ,rfl⟩;obtain⟨u,k1,k2⟩:=Dy hr hd h5 oZ;exact⟨u,k1,u,rfl,g',hle.m,hr,k2⟩
 cases e with
 |normal=>obtain⟨g',ρ,σ,k1,k2,k3,k4⟩:=hl; exact⟨k3.defers,fin g' ρ σ k1 k2 k3 k4.2⟩
 |ret=>obtain⟨g',ρ,σ,k1,k2,k3,k4⟩:=hl; exact⟨k3.defers,fin g' ρ σ k1 k2 k3 k4.2⟩
 |exit id=>obtain⟨g',ρ,σ,k1,k2,k3,k4⟩:=hl; rcases k4.1 with q|q<;>cases q
 |_=>exact hl.elim
theorem a_.yO{w0:World}{L:Ln}{g:Gm}{h:Hp}{w w':World}(r:a_ GL w0 L g h w){M:Nat→Option Obj}{g':Gm}{h':Hp}{bs:List ab}(r':a_ GL w ⟨[],M⟩ g' h' w')(s:Nat)(hs:∀i,i<bs.length→h' (s+i)=bs[i]?)(m:Nat→Option Nat)(M2:Nat→Option Obj)(p:aa→Prop)
 (hM:fE g.M M2)(dM:∀b o,M2 b=some o→w'.heap[b]?=some o)(ji:∀b o,M2 b=some o→g.M b=some o∨w.heap.size≤b)(rb:∀b,w.heap.size≤b→g'.M b=none→M2 b=none)
 (bY:∀c x v,p x→Den g'.M c x v→Den M2 c x v)(gz:∀b∈bs,b.qC p)(sQ:∀x m,p x→p (aa.bG m x)){N:Nat}(hN:∀i,i<bs.length→h (N+i)=none)
 (hm:∀b b' cb,m b=some b'→g'.c b=some cb→(∃i,i<bs.length∧b=s+i∧b'=N+i)∨(g.c b'=some cb)) :
  ∃c2,eF g.c c2∧(∀b b' cb,m b=some b'→g'.c b=some cb→c2 b'=some cb)∧a_ GL w0 L ⟨M2,c2⟩ (ca h (Zx N (bs.map (ab.dk (aa.bG m))))) w':=by
 let c2:Own:=λb=>if N≤b∧b<N+bs.length then g'.c (b-N+s) else g.c b
 have hc:eF g.c c2:=by
  intro b cb e;by_cases hb:N≤b∧b<N+bs.length
  ·have:=r.dc b (by have:=hN (b-N) (by omega); rwa [show N+(b-N)=b by omega] at this);rw[this] at e; cases e
  ·simp only[c2,if_neg hb]; exact e
 have jy:∀b b' cb,m b=some b'→g'.c b=some cb→c2 b'=some cb:=by
  intro b b' cb e1 e2;rcases hm b b' cb e1 e2 with ⟨i,q1,q2,q3⟩|q
  ·simp only[c2]; rw[if_pos (by omega),show b'-N+s=b by omega]; exact e2
  ·exact hc _ _ q
 have hH:∀b,ca h (Zx N (bs.map (ab.dk (aa.bG m)))) b=if N≤b∧b<N+bs.length then (bs[b-N]?).map (ab.dk (aa.bG m)) else h b:=by
  intro b; rw[N1]; simp
 have pQ:∀b blk,ca h (Zx N (bs.map (ab.dk (aa.bG m)))) b=some blk→(h b=some blk∧c2 b=g.c b)∨∃i eO,i<bs.length∧b=i+N∧h' (s+i)=some eO∧blk=eO.dk (aa.bG m)∧c2 b=g'.c (s+i)∧eO∈bs:=by
  intro b blk e;rw[hH] at e;by_cases hb:N≤b∧b<N+bs.length
  ·rw[if_pos hb] at e;cases hx:bs[b-N]? with
   |none=>simp[hx] at e
   |some eO=>
    simp[hx] at e;exact .inr ⟨b-N,eO,by omega,by omega,by rw[hs _ (by omega)]; exact hx,e.symm,by simp only[c2]; rw[if_pos hb,Nat.add_comm],List.mem_of_getElem? hx⟩
  ·rw[if_neg hb] at e;exact .inl ⟨e,by simp only[c2]; rw[if_neg hb]⟩
 have Rt:=r.keeps.size;refine⟨c2,hc,jy,?_⟩;refine { keeps:=r.keeps.trans' r'.keeps.os r'.keeps.tape r'.keeps.output r'.keeps.size (λb hb _=>r'.keeps.block b (by omega) (by simp)),aJ:=dM,src:=λb o e=>?_,bz:=λq hq=>(r.bz q hq).mono hM (eF.refl _),dc:=λb e=>?_,ig:=λb blk e=>?_,own:=λb blk cb e hl ec hv=>?_,aN:=λb blk cb e hl ec hv=>?_,inj:=λb b' blk blk' cb cV e e' hl kP ec fo hv ni hq=>?_ }
 ·rcases ji b o e with q|q
  ·exact r.src b o q
  ·exact .inr (.inl (by omega))
 ·rw[hH] at e;show c2 b=none;by_cases hb:N≤b∧b<N+bs.length
  ·rw[if_pos hb,List.getElem?_eq_getElem (by omega)] at e; cases e
  ·rw[if_neg hb] at e; simp only[c2]; rw[if_neg hb]; exact r.dc b e
 ·rcases pQ b blk e with ⟨q1,q2⟩|⟨i,eO,q1,q2,q3,q4,q5,q6⟩
  ·obtain⟨cb,k⟩:=r.ig b blk q1; exact⟨cb,by show c2 b=_; rw[q2]; exact k⟩
  ·obtain⟨cb,k⟩:=r'.ig (s+i) eO q3; exact⟨cb,by show c2 b=_; rw[q5]; exact k⟩
 ·replace ec:c2 b=some cb:=ec
  rcases pQ b blk e with ⟨q1,q2⟩|⟨i,eO,q1,q2,q3,q4,q5,q6⟩
  ·rw[q2] at ec;obtain⟨k1,k2,o,ho,de⟩:=r.own b blk cb q1 hl ec hv;have bj:=r.dh q1 hl ec hv;refine⟨?_,k2,o,by rw[r'.keeps.block _ bj (by simp)]; exact ho,de.mono hM hc⟩;show M2 cb.blk=none;cases qd:M2 cb.blk with
   |none=>rfl
   |some z=>
    rcases ji _ _ qd with q|q
    ·rw[k1] at q; cases q
    ·omega
  ·rw[q5] at ec;obtain⟨k1,k2,o,ho,de⟩:=r'.own (s+i) eO cb q3 (by rw[q4,ab.bp] at hl; exact hl) ec hv;have zQ:w.heap.size≤cb.blk:=by rcases k2 with q|q; simp at q; exact q
   refine⟨rb _ zQ k1,.inr (by omega),o,ho,?_⟩;rw[q4];refine de.dk (p:=p) (λx v hx hd=>?_) (gz _ q6);exact bY _ _ _ (sQ _ _ hx) (hd.bG jy)
 ·replace ec:c2 b=some cb:=ec
  rcases pQ b blk e with ⟨q1,q2⟩|⟨i,eO,q1,q2,q3,q4,q5,q6⟩
  ·rw[q2] at ec; exact r.aN b blk cb q1 hl ec hv
  ·rw[q5] at ec;have:=r'.aN (s+i) eO cb q3 (by rw[q4,ab.bp] at hl; exact hl) ec hv;rw[q4,this]; rfl
 ·replace ec:c2 b=some cb:=ec
  replace fo:c2 b'=some cV:=fo
  rcases pQ b blk e with ⟨q1,q2⟩|⟨i,eO,q1,q2,q3,q4,q5,q6⟩<;>rcases pQ b' blk' e' with ⟨p1,p2⟩|⟨i',x_,p1,p2,p3,p4,p5,p6⟩
  ·rw[q2] at ec; rw[p2] at fo; exact r.inj b b' blk blk' cb cV q1 p1 hl kP ec fo hv ni hq
  ·rw[q2] at ec; rw[p5] at fo;have h1:=r.dh q1 hl ec hv;obtain⟨_,k2,_⟩:=r'.own (s+i') x_ cV p3 (by rw[p4,ab.bp] at kP; exact kP) fo ni;rcases k2 with k2|k2
   ·simp at k2
   ·omega
  ·rw[q5] at ec; rw[p2] at fo;have h1:=r.dh p1 kP fo ni;obtain⟨_,k2,_⟩:=r'.own (s+i) eO cb q3 (by rw[q4,ab.bp] at hl; exact hl) ec hv;rcases k2 with k2|k2
   ·simp at k2
   ·omega
  ·rw[q5] at ec; rw[p5] at fo;have:=r'.inj (s+i) (s+i') eO x_ cb cV q3 p3 (by rw[q4,ab.bp] at hl; exact hl) (by rw[p4,ab.bp] at kP; exact kP) ec fo hv ni hq;omega
theorem a_.join{w0:World}{L:Ln}{g:Gm}{h:Hp}{w w':World}(r:a_ GL w0 L g h w){M:Nat→Option Obj}{g':Gm}{bs:List ab}(r':a_ GL w ⟨[],M⟩ g' (hp bs) w')(M2:Nat→Option Obj)(p:aa→Prop)
 (hM:fE g.M M2)(dM:∀b o,M2 b=some o→w'.heap[b]?=some o)(ji:∀b o,M2 b=some o→g.M b=some o∨w.heap.size≤b)(rb:∀b,w.heap.size≤b→g'.M b=none→M2 b=none)
 (bY:∀c x v,p x→Den g'.M c x v→Den M2 c x v)(gz:∀b∈bs,b.qC p)(sQ:∀x m,p x→p (aa.bG m x)){N:Nat}(hN:∀i,i<bs.length→h (N+i)=none) :
  ∃c2,eF g.c c2∧(∀b cb,b<bs.length→g'.c b=some cb→c2 (b+N)=some cb)∧a_ GL w0 L ⟨M2,c2⟩ (ca h (Zx N (bs.map (ab.dk (aa.bG (ZB N)))))) w':=by
 obtain⟨c2,k1,k2,k3⟩:=r.yO r' 0 (λi hi=>by simp[hp]) (ZB N) M2 p hM dM ji rb bY gz sQ hN (λb b' cb e1 e2=>by
  simp only[ZB,Option.some.injEq] at e1;subst e1;by_cases hb:b<bs.length
  ·exact .inl ⟨b,hb,by omega,by omega⟩
  ·have:=r'.dc b (by simp[hp]; omega);rw[this] at e2; cases e2)
 exact⟨c2,k1,λb cb _ e=>k2 b (b+N) cb rfl e,k3⟩
def Zw(N:Nat)(bs:List ab):List ab:=bs.map (ab.dk (aa.bG (ZB N)))
theorem Y5:∀(bs:List ab) (N:Nat) (i:Nat),i<bs.length→∃b,(N+i,b)∈Zx N bs
 |b::bs,N,0,_=>⟨b,by simp[Zx]⟩
 |b::bs,N,i+1,h=>by
  obtain⟨x,hx⟩:=Y5 bs (N+1) i (by simpa using h);exact⟨x,by rw[show N+(i+1)=N+1+i by omega]; exact List.mem_cons_of_mem _ hx⟩
theorem cE.here{f:FuncId}{xs:List aa}{v:aa}{bs:List ab}(hc:cE P GL f xs v bs)(xi:el xs=true){h0:Hp}{N:Nat}(hN:∀i,i<bs.length→h0 (N+i)=none):fD P GL f xs h0 (v.bG (ZB N)) [] (Zx N (Zw N bs)):=by
 intro w0 L g h w vs r hx _ dH;refine(hc w g.M vs r.aJ r.bz (Hl xi hx aV)).mono ?_;rintro e w' ⟨u,he,g',hle,r',hd⟩;obtain⟨c2,k1,k2,k3⟩:=r.join r' g'.M (λ_=>True) hle r'.aJ (λb o e=>by
  rcases r'.src b o e with q|q|q
  ·exact .inl q
  ·exact .inr q
  ·simp at q) (λ_ _ e=>e) (λ_ _ _ _ d=>d) (λb _=>ab.all_true b) (λ_ _ _=>trivial) (N:=N) (λi hi=>by
   obtain⟨b,hb⟩:=Y5 (Zw N bs) N i (by simpa[Zw] using hi);rw[dH _ hb]; exact hN i hi)
 refine⟨u,he,⟨g'.M,c2⟩,⟨hle,k1⟩,k3,hd.bG (λb b' cb e1 e2=>?_)⟩;simp only[ZB,Option.some.injEq] at e1;subst e1;refine k2 b cb ?_ e2;by_cases hb:b<bs.length
 ·exact hb
 ·have:=r'.dc b (by simp[hp]; omega);rw[this] at e2; cases e2
theorem cE.rn{f:FuncId}{xs ys:List aa}{v:aa}{bs:List ab}{rd:List Nat}{h0:Hp}(hc:cE P GL f ys v bs)(hb:bM h0 rd xs ys)(hv:v.cA=true)(EP:xY bs=true){N:Nat}(hN:∀i,i<bs.length→h0 (N+i)=none):fD P GL f xs h0 (v.bG (ZB N)) rd (Zx N (Zw N bs)):=by
 intro w0 L g h w vs r hx cB dH;refine(hc w (World.all w) vs (λ_ _ e=>e) (λp hp=>(r.bz p hp).mono r.rm (eF.refl _)) (hb GL w0 L g h w _ r r.rL cB vs hx)).mono ?_;rintro e w' ⟨u,he,g',hle,r',hd⟩;obtain⟨c2,k1,k2,k3⟩:=r.join r' g.M (λx=>x.cA=true) (fE.refl _) (λb o e=>by rw[r'.keeps.block b (r.eg e) (by simp)]; exact r.aJ b o e) (λb o e=>.inl e) (λb zQ e=>by
   cases hm:g.M b with
   |none=>rfl
   |some z=>have:=r.eg hm; omega) (λ_ _ _ hn d=>d.cA hn _) (NX EP) (λx m hn=>aa.iO m x hn) (N:=N) (λi hi=>by
   obtain⟨b,hb⟩:=Y5 (Zw N bs) N i (by simpa[Zw] using hi);rw[dH _ hb]; exact hN i hi)
 refine⟨u,he,⟨g.M,c2⟩,⟨fE.refl _,k1⟩,k3,?_⟩;refine(hd.bG (c':=c2) (m:=ZB N) (λb b' cb e1 e2=>?_)).cA (aa.iO _ _ hv) _;simp only[ZB,Option.some.injEq] at e1;subst e1;refine k2 b cb ?_ e2;by_cases hb:b<bs.length
 ·exact hb
 ·have:=r'.dc b (by simp[hp]; omega);rw[this] at e2; cases e2
def YF:List ab→List ab
 |[]=>[]
 |_::l=>.dead::YF l
theorem XK:∀(l:List ab) (i:Nat),(YF l)[i]?=if i<l.length then some .dead else none
 |[],i=>by simp[YF]
 |x::l,0=>by simp[YF]
 |x::l,i+1=>by simp[YF,XK l i]
theorem M6(l:List ab):(YF l).length=l.length:=by induction l<;>simp_all [YF]
def nj(n:Nat):Nat→Option Nat:=λb=>bif Nat.blt b n then some b else none
def ee(ids:List Nat)(n k:Nat):Nat→Option Nat:=λb=>bif ids.contains b||(Nat.ble n b&&Nat.blt b (n+k)) then some b else none
theorem NZ{f:FuncId}{F:s_}(ok:kK P GL f F){xs:List aa}(hn:xs.length=F.np)(σ:List ab)(ids:List Nat)(ly:∀i∈ids,i<σ.length){v:aa}{news bs:List ab}(EP:bs=news∨bs=[])
 (h:gm P GL F.n F.body (dP (fg (nj σ.length) xs)) (YF σ) (λe ρ σ'=>(e=.normal∨e=.ret)∧fW F.fh ρ σ'=some v∧σ'=YF σ++news)) :
  fD P GL f xs (hp σ) (v.bG (ee ids σ.length bs.length)) ids (Zx σ.length (bs.map (ab.dk (aa.bG (ee ids σ.length bs.length))))):=by
 intro w0 L g hq w vs r hx cB dH
 let dm:CB:=⟨0,0,0,true⟩
 let c':Own:=λb=>if b<σ.length then some ((g.c b).getD dm) else none
 have r0:a_ GL w ⟨[],g.M⟩ ⟨g.M,c'⟩ (hp (YF σ)) w:={
  keeps:=fX.refl _ _,aJ:=r.aJ,src:=λb o e=>.inl e,bz:=r.bz
  dc:=λb e=>by
   show c' b=none;simp only[hp,XK] at e;simp only[c'];split at e
   ·cases e
   ·rename_i hb; rw[if_neg hb]
  ig:=λb blk e=>by
   simp only[hp,XK] at e;split at e
   ·rename_i hb; exact⟨_,by show c' b=_; simp only[c']; rw[if_pos hb]⟩
   ·cases e
  own:=λb blk cb e hl _ _=>by
   simp only[hp,XK] at e;split at e
   ·cases e; cases hl
   ·cases e
  aN:=λb blk cb e hl _ _=>by
   simp only[hp,XK] at e;split at e
   ·cases e; cases hl
   ·cases e
  inj:=λb b' blk blk' cb cV e _ hl _ _ _ _ _ _=>by
   simp only[hp,XK] at e;split at e
   ·cases e; cases hl
   ·cases e }
 have uQ:bZ ⟨g.M,c'⟩ (fg (nj σ.length) xs) vs:=by
  refine bZ.jH (by rw[Qy]; exact hx.length) (λi y u e1 e2=>?_);obtain⟨x,q1,rfl⟩:=C_ e1;refine(hx.get i x u q1 e2).bG (λb b' cb k1 k2=>?_);unfold nj at k1;obtain⟨k0,k1⟩:=Qx k1;cases k1;have bj:b<σ.length:=fQ k0;simp only[c'];rw[if_pos bj,k2]; rfl
 obtain⟨fn,c,h1,h2,h3,h4,h5⟩:=ok.ok;have d0:=Z2 uQ (n:=F.n) (by rw[Qy,hn]; exact ok.np);refine calls_of_wp h1 h2 ?_;rw[h3];refine wp_mono (h c h4 w ⟨[],g.M⟩ _ _ w r0 d0) (λe a' w' hl=>?_);have fin:∀g' ρ σ',(⟨g.M,c'⟩:Gm).Le g'→a_ GL w ⟨[],g.M⟩ g' (hp σ') w'→df F.n g' ρ a'→(fW F.fh ρ σ'=some v∧σ'=YF σ++news)→∃u,(results fn a'.tmps).run P w'=.ok u w'∧(∃u',Ending.returned u=.returned u'∧∃g2,g.Le g2∧a_ GL w0 L g2 (ca hq (Zx σ.length (bs.map (ab.dk (aa.bG (ee ids σ.length bs.length)))))) w'∧g2.den (v.bG (ee ids σ.length bs.length)) u'):=by
  rintro g' ρ σ' hle hr hd ⟨oZ,rfl⟩;obtain⟨u,k1,k2⟩:=Dy hr hd h5 oZ;obtain⟨c2,j1,j2,j3⟩:=r.yO hr σ.length (bs:=bs) (λi hi=>by
    rcases EP with rfl|rfl
    ·simp only[hp];rw[List.getElem?_append_right (by rw[M6]; omega),M6,Nat.add_sub_cancel_left]
    ·simp at hi) (ee ids σ.length bs.length) g'.M (λ_=>True) hle.m hr.aJ (λb o e=>by
    rcases hr.src b o e with q|q|q
    ·exact .inl q
    ·exact .inr q
    ·simp at q) (λ_ _ e=>e) (λ_ _ _ _ d=>d) (λb _=>ab.all_true b) (λ_ _ _=>trivial) (N:=σ.length) (λi hi=>by
    obtain⟨b,hb⟩:=Y5 (bs.map (ab.dk (aa.bG (ee ids σ.length bs.length)))) σ.length i (by simpa using hi);rw[dH _ hb]; simp[hp]) (λb b' cb e1 e2=>by
    unfold ee at e1;obtain⟨e0,e1⟩:=Qx e1;cases e1;by_cases cv:b∈ids∧b<σ.length
    ·right;obtain⟨cv,hb⟩:=cv;have bq:hq b=some (σ[b]):=by rw[cB b cv]; simp[hp,hb]
     obtain⟨vp,qV⟩:=r.ig b _ bq;have:c' b=some vp:=by simp only[c']; rw[if_pos hb,qV]; rfl
     have:=hle.c b vp this;rw[e2] at this; cases this; exact qV
    ·left;simp only[Bool.or_eq_true,Bool.and_eq_true] at e0;rcases e0 with q|⟨q1,q2⟩
     ·exact(cv ⟨List.contains_iff_mem.1 q,ly b (List.contains_iff_mem.1 q)⟩).elim
     ·have:=fQ q1;have:b < σ.length + bs.length:=fQ q2;exact⟨b - σ.length,by omega,by omega,by omega⟩)
  exact⟨u,k1,u,rfl,⟨g'.M,c2⟩,⟨hle.m,j1⟩,j3,k2.bG j2⟩
 cases e with
 |normal=>obtain⟨g',ρ,σ,k1,k2,k3,k4⟩:=hl; exact⟨k3.defers,fin g' ρ σ k1 k2 k3 k4.2⟩
 |ret=>obtain⟨g',ρ,σ,k1,k2,k3,k4⟩:=hl; exact⟨k3.defers,fin g' ρ σ k1 k2 k3 k4.2⟩
 |exit id=>obtain⟨g',ρ,σ,k1,k2,k3,k4⟩:=hl; rcases k4.1 with q|q<;>cases q
 |_=>exact hl.elim
end
end Go.Ah
end
section
namespace Go.Ah
mutual
def aa.ids:aa→List Nat
 |.an b _=>[b]
 |.ptr b _ _=>[b]
 |.sl b _ _ _=>[b]
 |.map b=>[b]
 |.iter b=>[b]
 |.func _ xs ys=>jk xs++jk ys
 |.iface _ v=>v.ids
 |.agg cs=>jk cs
 |.aG cs=>jk cs
 |.when _ x=>x.ids
 |_=>[]
def jk:List aa→List Nat
 |[]=>[]
 |x::xs=>x.ids++jk xs
end
def XV:Nat→List ab→Option (List ab)
 |0,l=>some l
 |n+1,.dead::l=>XV n l
 |_+1,_=>none
theorem NR:∀(σ l news:List ab),XV σ.length l=some news→l=YF σ++news
 |[],l,news,h=>by simp[XV] at h; simp[YF,h]
 |x::σ,l,news,h=>by
  cases l with
  |nil=>simp[XV] at h
  |cons y l=>
   cases y with
   |dead=>simp only[List.length_cons,XV] at h; rw[NR σ l news h]; rfl
   |_=>simp[XV] at h
def Yx(n:Nat):List Nat→Bool
 |[]=>true
 |x::xs=>Nat.blt x n&&Yx n xs
theorem Ju{n:Nat}:∀ {l:List Nat},Yx n l=true→∀i∈l,i<n
 |x::xs,h,i,hi=>by
  simp only[Yx,Bool.and_eq_true] at h;rcases List.mem_cons.1 hi with rfl|hi
  ·exact fQ h.1
  ·exact Ju h.2 i hi
def much:Nat:=1000000000
end Go.Ah
end
section
namespace Go.Ah
structure al (α:Type) where
 stop:α
 call:MK→List aa→List ab→(aa→List ab→α)→α
 aE:MK→List aa→List ab→(aa→List Nat×List Nat→List ab→α)→α
 test:aa→α→α→α
 loop:((List aa→List ab→α)→List aa→List ab→α)→List aa→List ab→α
section
variable {α:Type}
def al.rd(A:al α)(r:az)(K:aa→α):α:=match r with
 |.ok v _ []=>K v
 |_=>A.stop
def al.pu(A:al α)(r:az)(K:aa→α):α:=match r with
 |.ok v [] []=>K v
 |_=>A.stop
def al.wr(A:al α)(r:az)(σ:List ab)(K:aa→List ab→α):α:=match r with
 |.ok v _ up=>match gy σ up with
  |some σ'=>K v σ'
  |none=>A.stop
 |.stop=>A.stop
def al.dr(A:al α)(r:az)(σ:List ab)(K:aa→List Nat×List Nat→List ab→α):α:=match r with
 |.ok v rd up=>match gy σ up with
  |some σ'=>K v (rd,up.map (·.1)) σ'
  |none=>A.stop
 |.stop=>A.stop
def al.opt{β:Type}(A:al α)(o:Option β)(K:β→α):α:=match o with
 |some v=>K v
 |none=>A.stop
def al.gd(A:al α)(b:Bool)(k:α):α:=match b with
 |true=>k
 |false=>A.stop
@[reducible] def sA(cs:List (Bool×Bool)):aa:=.when cs (.bool false)
def al.gx(A:al α)(c:aa)(w:Bool)(r:α)(s:List (Bool×Bool)→α):α:=match c with
 |.when cs (.bool q)=>match vo.ew cs with
  |true=>s (cs++[(q,w)])
  |false=>A.stop
 |c=>A.test c (bif w then r else s [(true,w)]) (bif w then s [(false,w)] else r)
def al.gr(A:al α)(c:aa)(w:Bool)(r:(aa→α)→α)(K:aa→α):α:=A.gx c w (r K) (λcs=>K (sA cs))
def al.gw(A:al α)(c:aa)(w:Bool)(r:(aa→List ab→α)→α)(σ:List ab)(K:aa→List ab→α):α:=A.gx c w (r K) (λcs=>K (sA cs) σ)
def al.gl(A:al α)(c:aa)(w:Bool)(r:(aa→List Nat×List Nat→List ab→α)→α)(σ:List ab)(K:aa→List Nat×List Nat→List ab→α):α:=
 A.gx c w (r K) (λcs=>K (sA cs) ([],[]) σ)
def au(f:(List aa→List ab→α)→α)(k:List aa→List ab→α):α:=f k
inductive L8 where
 |mv|pu|rd|wr|call
def eP:MK→L8
 |.mv=>.mv
 |.call _ | .cH | .invoke _ _=>.call
 |.alloc _ | .box | .kM _ _ _ _ | .store _ | .makeMap | .append _ _ _ | .jG _ | .range | .next | .qm _ _ _ | .fG _ _=>.wr
 |.load _ _ | .lookup _ _ _ | .kR | .cu _ _ _ _ | .dW _=>.rd
 |_=>.pu
def zp(A:al α)(o:aO)(ρ:Frame)(σ:List ab)(K:Frame→List ab→α):α:=
 match o.guard with
 |none=>match eP o.k with
  |.mv=>match o.xs with
   |[x]=>K (bK o.dst (ev ρ x) ρ) σ
   |_=>A.stop
  |.pu | .rd=>A.rd (fI o.k (o.xs.map (ev ρ)) σ) λv=>K (bK o.dst v ρ) σ
  |.wr=>A.wr (fI o.k (o.xs.map (ev ρ)) σ) σ λv σ=>K (bK o.dst v ρ) σ
  |.call=>A.call o.k (o.xs.map (ev ρ)) σ λv σ=>K (bK o.dst v ρ) σ
 |some (s,w)=>match eP o.k with
  |.mv | .pu | .rd=>A.gr (bn ρ s) w (λk=>A.rd (fI o.k (o.xs.map (ev ρ)) σ) k) λv=>K (bK o.dst v ρ) σ
  |.wr=>A.gw (bn ρ s) w (λk=>A.wr (fI o.k (o.xs.map (ev ρ)) σ) σ k) σ λv σ=>K (bK o.dst v ρ) σ
  |.call=>A.gw (bn ρ s) w (λk=>A.call o.k (o.xs.map (ev ρ)) σ k) σ λv σ=>K (bK o.dst v ρ) σ
def pN(A:al α):List aO→Frame→List ab→(Frame→List ab→α)→α
 |[],ρ,σ,K=>K ρ σ
 |o::r,ρ,σ,K=>zp A o ρ σ λρ σ=>pN A r ρ σ K
def tY(A:al α)(o:aO)(ρ:Frame)(σ:List ab)(lg:Log)(K:Frame→List ab→Log→α):α:=
 match o.guard with
 |none=>match eP o.k with
  |.mv=>match o.xs with
   |[x]=>K (bK o.dst (ev ρ x) ρ) σ (lg++[([],[])])
   |_=>A.stop
  |.pu=>A.pu (fI o.k (o.xs.map (ev ρ)) σ) λv=>K (bK o.dst v ρ) σ (lg++[([],[])])
  |.rd | .wr=>A.dr (fI o.k (o.xs.map (ev ρ)) σ) σ λv l σ=>K (bK o.dst v ρ) σ (lg++[l])
  |.call=>A.aE o.k (o.xs.map (ev ρ)) σ λv l σ=>K (bK o.dst v ρ) σ (lg++[l])
 |some (s,w)=>match eP o.k with
  |.mv | .pu=>A.gr (bn ρ s) w (λk=>A.pu (fI o.k (o.xs.map (ev ρ)) σ) k) λv=>K (bK o.dst v ρ) σ (lg++[([],[])])
  |.rd | .wr=>A.gl (bn ρ s) w (λk=>A.dr (fI o.k (o.xs.map (ev ρ)) σ) σ k) σ λv l σ=>K (bK o.dst v ρ) σ (lg++[l])
  |.call=>A.gl (bn ρ s) w (λk=>A.aE o.k (o.xs.map (ev ρ)) σ k) σ λv l σ=>K (bK o.dst v ρ) σ (lg++[l])
def G1(A:al α):List aO→Frame→List ab→Log→(Frame→List ab→Log→α)→α
 |[],ρ,σ,lg,K=>K ρ σ lg
 |o::r,ρ,σ,lg,K=>tY A o ρ σ lg λρ σ lg=>G1 A r ρ σ lg K
def kQ:L8→Bool
 |.wr=>true
 |.call=>true
 |_=>false
def pk:List aO→Bool
 |[]=>true
 |o::r=>!(kQ (eP o.k))&&pk r
inductive ck where
 |skip
 |region (id:Nat) (ms:List aO) (draw:Option (List (List Nat)))
 |seq (a b:ck)
 |cond (c:tD) (a b:ck)
 |join (lv:List Nat) (a:ck)
 |block (id:Nat) (a:ck)
 |loop (lv:List Nat) (a:ck)
 |exit (id:Nat)
 |scope (a:ck)
 |label (l:Nat)
 |ret
 deriving Inhabited
def ck.er:ck→cW
 |.skip=>.skip
 |.region id ms hd=>.region id ms hd
 |.seq a b=>.seq a.er b.er
 |.cond c a b=>.cond c a.er b.er
 |.join _ a=>a.er
 |.block id a=>.block id a.er
 |.loop _ a=>.loop a.er
 |.exit id=>.exit id
 |.scope a=>.scope a.er
 |.label l=>.label l
 |.ret=>.ret
def YH:List aO→List Nat
 |[]=>[]
 |o::r=>match o.dst with
  |some d=>d::YH r
  |none=>YH r
def ck.jr:ck→List Nat
 |.region _ ms _=>YH ms
 |.seq a b=>a.jr++b.jr
 |.cond _ a b=>a.jr++b.jr
 |.join _ a=>a.jr
 |.block _ a=>a.jr
 |.loop _ a=>a.jr
 |.scope a=>a.jr
 |_=>[]
def uT(x:Nat):List Nat→Bool
 |[]=>false
 |y::l=>Nat.beq x y||uT x l
def u6:List Nat→List Nat→Bool
 |[],_=>true
 |x::l,b=>uT x b&&u6 l b
def ck.ok:ck→Bool
 |.seq a b=>a.ok&&b.ok
 |.cond _ a b=>a.ok&&b.ok
 |.join lv a=>u6 lv a.jr&&a.ok
 |.block _ a=>a.ok
 |.loop lv a=>u6 lv a.jr&&a.ok
 |.scope a=>a.ok
 |_=>true
def pC:List aa→aa
 |[]=>.aI
 |x::_=>x
def gO:List aa→List aa
 |[]=>[]
 |_::l=>l
def kE:List Nat→List aa→Frame→Frame
 |[],_,ρ=>ρ
 |k::ks,vs,ρ=>(k,pC vs)::kE ks (gO vs) ρ
def fZ(l:List Nat):Frame→Frame
 |[]=>[]
 |(k,v)::r=>match uT k l with
  |true=>fZ l r
  |false=>(k,v)::fZ l r
def oR(ρ:Frame):List Nat→List aa
 |[]=>[]
 |s::r=>bn ρ s::oR ρ r
def dn(A:al α):ck→Frame→List ab→(Frame→List ab→α)→(Nat→Frame→List ab→α)→(Frame→List ab→α)→α
 |.skip,ρ,σ,K,_,_=>K ρ σ
 |.label _,ρ,σ,K,_,_=>K ρ σ
 |.region _ ms none,ρ,σ,K,_,_=>pN A ms ρ σ K
 |.region _ ms (some hd),ρ,σ,K,_,_=>match pk ms with
  |true=>pN A ms ρ σ K
  |false=>G1 A ms ρ σ [] λρ σ lg=>A.gd (Zh hd lg) (K ρ σ)
 |.seq a b,ρ,σ,K,E,R=>dn A a ρ σ (λρ σ=>dn A b ρ σ K E R) E R
 |.cond c a b,ρ,σ,K,E,R=>A.test (ev ρ c) (dn A a ρ σ K E R) (dn A b ρ σ K E R)
 |.join lv a,ρ,σ,K,E,R=>au (λk=>dn A a ρ σ (λρ' σ=>k (oR ρ' lv) σ) E R) (λvs σ=>K (kE lv vs (fZ a.jr ρ)) σ)
 | .block id a,ρ,σ,K,E,R=>dn A a ρ σ K (λi ρ σ=>match Nat.beq i id with
  |true=>K ρ σ
  | false=>E i ρ σ) R
 |.loop lv a,ρ,σ,_,E,R=>A.loop (λagain vs σ=>dn A a (kE lv vs (fZ a.jr ρ)) σ (λρ' σ=>again (oR ρ' lv) σ) E R) (oR ρ lv) σ
 |.exit id,ρ,σ,_,E,_=>E id ρ σ
 |.scope a,ρ,σ,K,E,R=>dn A a ρ σ K E R
 |.ret,ρ,σ,_,_,R=>R ρ σ
def av(agg:Bool)(n:Nat)(x:aa)(σ:List ab):Option aa:=match x with
 |.an b j=>match ah σ b with
  |.box row=>aF agg j n row
  |_=>none
 |_=>none
def C2(A:al α):List RV→Frame→List ab→(List aa→α)→α
 |[],_,_,K=>K []
 |.t n::r,ρ,σ,K=>C2 A r ρ σ λvs=>K (bn ρ n::vs)
 |.c s agg n::r,ρ,σ,K=>A.opt (av agg n (bn ρ s) σ) λv=>C2 A r ρ σ λvs=>K (v::vs)
structure vA where
 np:Nat
 n:Nat
 body:ck
 fh:List RV
 deriving Inhabited
def vA.fn(D:vA):s_:=⟨D.np,D.n,D.body.er,D.fh⟩
def vO(A:al α)(D:vA)(xs:List aa)(σ:List ab)(ret:aa→List ab→α):α:=
 dn A D.body (dP xs) σ (λρ σ=>C2 A D.fh ρ σ λvs=>ret (u3 vs) σ) (λ_ _ _=>A.stop) (λρ σ=>C2 A D.fh ρ σ λvs=>ret (u3 vs) σ)
def kv(stop:α):Nat→((List aa→List ab→α)→List aa→List ab→α)→List aa→List ab→α
 |0,_,_,_=>stop
 |n+1,F,vs,σ=>F (kv stop n F) vs σ
structure dC (P:Program) (GL:aA) (A:al α) (hold:α→Prop):Prop where
 stop:¬hold A.stop
 call:∀ {k xs σ K},hold (A.call k xs σ K)→∃R,mA P GL k xs σ R∧∀v σ',R v σ'→hold (K v σ')
 aE:∀ {k xs σ K},hold (A.aE k xs σ K)→∃v rd up σ',aD P GL k xs (hp σ) v rd up∧gy σ up=some σ'∧hold (K v (rd,up.map (·.1)) σ')
 test:∀ {v a b},hold (A.test v a b)→∃c,v=.bool c∧(c=true→hold a)∧(c=false→hold b)
 loop:∀ {F vs σ},hold (A.loop F vs σ)→∃n,hold (kv A.stop n F vs σ)
section
variable {P:Program} {GL:aA} {A:al α} {hold:α→Prop}
theorem dC.rd(ok:dC P GL A hold){r:az}{K:aa→α}(h:hold (A.rd r K)):∃v rd,r=.ok v rd []∧hold (K v):=by
 unfold al.rd at h;split at h
 ·exact⟨_,_,rfl,h⟩
 ·exact(ok.stop h).elim
theorem dC.pu(ok:dC P GL A hold){r:az}{K:aa→α}(h:hold (A.pu r K)):∃v,r=.ok v [] []∧hold (K v):=by
 unfold al.pu at h;split at h
 ·exact⟨_,rfl,h⟩
 ·exact(ok.stop h).elim
theorem dC.wr(ok:dC P GL A hold){r:az}{σ:List ab}{K:aa→List ab→α}(h:hold (A.wr r σ K)):∃v rd up σ',r=.ok v rd up∧gy σ up=some σ'∧hold (K v σ'):=by
 unfold al.wr at h;split at h
 ·split at h
  ·rename_i e; exact⟨_,_,_,_,rfl,e,h⟩
  ·exact(ok.stop h).elim
 ·exact(ok.stop h).elim
theorem dC.dr(ok:dC P GL A hold){r:az}{σ:List ab}{K:aa→List Nat×List Nat→List ab→α}(h:hold (A.dr r σ K)):∃v rd up σ',r=.ok v rd up∧gy σ up=some σ'∧hold (K v (rd,up.map (·.1)) σ'):=by
 unfold al.dr at h;split at h
 ·split at h
  ·rename_i e; exact⟨_,_,_,_,rfl,e,h⟩
  ·exact(ok.stop h).elim
 ·exact(ok.stop h).elim
theorem dC.gd(ok:dC P GL A hold){b:Bool}{k:α}(h:hold (A.gd b k)):b=true∧hold k:=by
 unfold al.gd at h;split at h
 ·exact⟨rfl,h⟩
 ·exact(ok.stop h).elim
theorem dC.opt(ok:dC P GL A hold){β:Type}{o:Option β}{K:β→α}(h:hold (A.opt o K)):∃v,o=some v∧hold (K v):=by
 unfold al.opt at h;split at h
 ·exact⟨_,rfl,h⟩
 ·exact(ok.stop h).elim
theorem Yl(σ:List ab):gy σ []=some σ:=by simp[gy]
theorem Tq{ρ:Frame}{s:Nat}{w c:Bool}(h:bn ρ s=.bool c):cx ρ (some (s,w)) [(c,w)]:=.bool s w c h
theorem Ui{c w:Bool}:dO [(c,w)]↔c=w:=by simp[dO]
theorem C4(ok:dC P GL A hold){ρ:Frame}{s:Nat}{w:Bool}{r:α}{K:List (Bool×Bool)→α}(h:hold (A.gx (bn ρ s) w r K)):∃cs,cx ρ (some (s,w)) cs∧((dO cs∧hold r)∨(¬dO cs∧hold (K cs))):=by
 unfold al.gx at h;split at h
 ·rename_i cs q hc;split at h
  ·rename_i hn;refine⟨_,.when s w q cs hc,.inr ⟨λq=>I5 hn (λp hp=>q p (by simp[hp])),h⟩⟩
  ·exact(ok.stop h).elim
 ·obtain⟨b,hb,h1,h2⟩:=ok.test h;refine⟨_,Tq hb,?_⟩;rw[Ui];cases b<;>cases w<;>simp_all
def Ym(l:List Nat)(ρ ρ':Frame):Prop:=∀s,s∉l→bn ρ' s=bn ρ s
theorem Ym.refl(l:List Nat)(ρ:Frame):Ym l ρ ρ:=λ_ _=>rfl
theorem Ym.trans{l l':List Nat}{a b c:Frame}(h:Ym l a b)(k:Ym l' b c):Ym (l++l') a c:=λs hs=>by
 simp only[List.mem_append,not_or] at hs;rw[k s hs.2,h s hs.1]
theorem Ym.mono{l l':List Nat}{a b:Frame}(h:Ym l a b)(hl:∀x∈l,x∈l'):Ym l' a b:=λs hs=>h s λe=>hs (hl s e)
theorem Ym.put{o:aO}{v:aa}{ρ:Frame}:Ym (YH [o]) ρ (bK o.dst v ρ):=by
 intro s hs;rw[X1];cases hd:o.dst with
 |none=>simp
 |some d=>
  have:s≠d:=by rintro rfl; simp[YH,hd] at hs
  rw[if_neg (by simpa using λe=>this e.symm)]
theorem L_(o:aO)(r:List aO):YH (o::r)=YH [o]++YH r:=by
 cases hd:o.dst<;>simp[YH,hd]
theorem Tp(ok:dC P GL A hold){fl:Bool}{o:aO}{ρ:Frame}{σ:List ab}{lg:Log}{K:Frame→List ab→α}(sP:fl=true→kQ (eP o.k)=false)(h:hold (zp A o ρ σ K)) :
  dE fl P GL o ρ σ lg (λρ' σ' jF=>hold (K ρ' σ')∧Ym (YH [o]) ρ ρ'∧((∃l,jF=lg++[l]∧(kQ (eP o.k)=false→l.2=[])))):=by
 unfold zp at h;cases hg:o.guard with
 |none=>
  simp only[hg] at h;have gi:cx ρ o.guard []:=by rw[hg]; exact .none
  have hh:dO []:=by simp[dO]
  have fM:hold (A.rd (fI o.k (o.xs.map (ev ρ)) σ) λv=>K (bK o.dst v ρ) σ)→dE fl P GL o ρ σ lg (λρ' σ' jF=>hold (K ρ' σ')∧Ym (YH [o]) ρ ρ'∧((∃l,jF=lg++[l]∧(kQ (eP o.k)=false→l.2=[])))):=by
   intro h;obtain⟨v,rd,e,h⟩:=ok.rd h;exact .run [] _ v rd [] σ gi hh (Qo _) (ZD e) (Yl σ) ⟨h,Ym.put,_,rfl,λ_=>rfl⟩
  cases hc:eP o.k with
  |mv=>
   simp only[hc] at h;split at h
   ·rename_i x hx;have hk:o.k=.mv:=by
     revert hc; unfold eP; split<;>simp_all
    refine .run [] [ev ρ x] (ev ρ x) [] [] σ gi hh (by rw[hx]; exact Qo _) (by rw[hk]; exact IL _ _) (Yl σ) ⟨h,Ym.put,_,rfl,λ_=>rfl⟩
   ·exact(ok.stop h).elim
  |pu=>simp only[hc] at h fM; exact fM h
  |rd=>simp only[hc] at h fM; exact fM h
  |wr=>
   simp only[hc] at h;obtain⟨v,rd,up,σ',e,e2,h⟩:=ok.wr h;exact .run [] _ v rd up σ' gi hh (Qo _) (ZD e) e2 ⟨h,Ym.put,_,rfl,λq=>by simp[kQ] at q⟩
  |call=>
   simp only[hc] at h;obtain⟨R,hR,hk⟩:=ok.call h;refine .rel [] _ R ?_ gi hh (Qo _) hR (λv σ' hv=>⟨hk v σ' hv,Ym.put,_,rfl,λq=>by simp[kQ] at q⟩);cases fl with
   |false=>rfl
   |true=>have:=sP rfl; simp[hc,kQ] at this
 |some p=>
  obtain⟨s,w⟩:=p;simp only[hg] at h;have eB:∀cs,cx ρ (some (s,w)) cs→¬dO cs→hold (K (bK o.dst (sA cs) ρ) σ)→dE fl P GL o ρ σ lg (λρ' σ' jF=>hold (K ρ' σ')∧Ym (YH [o]) ρ ρ'∧((∃l,jF=lg++[l]∧(kQ (eP o.k)=false→l.2=[])))):=by
   intro cs hb dL h;exact .lazy cs _ (.bool false) [] (by rw[hg]; exact hb) (Qo _) (λq=>(dL q).elim) ⟨h,Ym.put,_,rfl,λ_=>rfl⟩
  have fM:hold (A.gr (bn ρ s) w (λk=>A.rd (fI o.k (o.xs.map (ev ρ)) σ) k) λv=>K (bK o.dst v ρ) σ)→dE fl P GL o ρ σ lg (λρ' σ' jF=>hold (K ρ' σ')∧Ym (YH [o]) ρ ρ'∧((∃l,jF=lg++[l]∧(kQ (eP o.k)=false→l.2=[])))):=by
   intro h;obtain⟨cs,hb,⟨h0,h1⟩|⟨h0,h1⟩⟩:=C4 ok h
   ·obtain⟨v,rd,e,h⟩:=ok.rd h1;exact .run cs _ v rd [] σ (by rw[hg]; exact hb) h0 (Qo _) (ZD e) (Yl σ) ⟨h,Ym.put,_,rfl,λ_=>rfl⟩
   ·exact eB cs hb h0 h1
  cases hc:eP o.k with
  |mv=>simp only[hc] at h fM; exact fM h
  |pu=>simp only[hc] at h fM; exact fM h
  |rd=>simp only[hc] at h fM; exact fM h
  |wr=>
   simp only[hc] at h eB;obtain⟨cs,hb,⟨h0,h1⟩|⟨h0,h1⟩⟩:=C4 ok h
   ·obtain⟨v,rd,up,σ',e,e2,h⟩:=ok.wr h1;exact .run cs _ v rd up σ' (by rw[hg]; exact hb) h0 (Qo _) (ZD e) e2 ⟨h,Ym.put,_,rfl,λq=>by simp[kQ] at q⟩
   ·exact eB cs hb h0 h1
  |call=>
   simp only[hc] at h eB;obtain⟨cs,hb,⟨h0,h1⟩|⟨h0,h1⟩⟩:=C4 ok h
   ·obtain⟨R,hR,hk⟩:=ok.call h1;refine .rel cs _ R ?_ (by rw[hg]; exact hb) h0 (Qo _) hR (λv σ' hv=>⟨hk v σ' hv,Ym.put,_,rfl,λq=>by simp[kQ] at q⟩);cases fl with
    |false=>rfl
    |true=>have:=sP rfl; simp[hc,kQ] at this
   ·exact eB cs hb h0 h1
theorem je.mono{fl:Bool}:∀ {ms:List aO} {ρ:Frame} {σ:List ab} {lg:Log} {K K':Frame→List ab→Log→Prop},(∀ρ σ lg,K ρ σ lg→K' ρ σ lg)→je fl P GL ms ρ σ lg K→je fl P GL ms ρ σ lg K'
 |[],_,_,_,_,_,h,k=>h _ _ _ k
 |_::_,_,_,_,_,_,h,k=>dE.mono (λ_ _ _ q=>je.mono h q) k
def mJ(lg:Log):Prop:=∀l∈lg,l.2=[]
theorem Jv(ok:dC P GL A hold){fl:Bool}:∀ {ms:List aO} {ρ:Frame} {σ:List ab} {lg:Log} {K:Frame→List ab→α},(fl=true→pk ms=true)→hold (pN A ms ρ σ K) →
  je fl P GL ms ρ σ lg (λρ' σ' jF=>hold (K ρ' σ')∧Ym (YH ms) ρ ρ'∧(pk ms=true→mJ lg→mJ jF))
 |[],ρ,σ,lg,K,_,h=>⟨h,Ym.refl _ _,λ_ q=>q⟩
 |o::r,ρ,σ,lg,K,sP,h=>by
  unfold pN at h;have KO:fl=true→kQ (eP o.k)=false:=λe=>by have:=sP e; simp[pk] at this; exact this.1
  have KP:fl=true→pk r=true:=λe=>by have:=sP e; simp[pk] at this; exact this.2
  refine dE.mono (λρ' σ' jF=>?_) (Tp ok (lg:=lg) KO h);rintro⟨k1,k2,l,hl,k3⟩;refine je.mono (λL6 L7 Ls=>?_) (Jv ok KP k1);rintro⟨q1,q2,q3⟩;refine⟨q1,by rw[L_]; exact k2.trans q2,λhn hlg=>?_⟩;simp only[pk,Bool.and_eq_true,Bool.not_eq_true'] at hn;refine q3 hn.2 ?_;rw[hl];intro x hx;simp only[List.mem_append,List.mem_singleton] at hx;rcases hx with hx|hx
  ·exact hlg x hx
  ·rw[hx]; exact k3 hn.1
theorem UR(ok:dC P GL A hold){o:aO}{ρ:Frame}{σ:List ab}{lg:Log}{K:Frame→List ab→Log→α}(h:hold (tY A o ρ σ lg K)) :
  dE true P GL o ρ σ lg (λρ' σ' jF=>hold (K ρ' σ' jF)∧Ym (YH [o]) ρ ρ'):=by
 unfold tY at h;cases hg:o.guard with
 |none=>
  simp only[hg] at h;have gi:cx ρ o.guard []:=by rw[hg]; exact .none
  have hh:dO []:=by simp[dO]
  have mQ:hold (A.dr (fI o.k (o.xs.map (ev ρ)) σ) σ λv l σ=>K (bK o.dst v ρ) σ (lg++[l]))→dE true P GL o ρ σ lg (λρ' σ' jF=>hold (K ρ' σ' jF)∧Ym (YH [o]) ρ ρ'):=by
   intro h;obtain⟨v,rd,up,σ',e,e2,h⟩:=ok.dr h;exact .run [] _ v rd up σ' gi hh (Qo _) (ZD e) e2 ⟨h,Ym.put⟩
  cases hc:eP o.k with
  |mv=>
   simp only[hc] at h;split at h
   ·rename_i x hx;have hk:o.k=.mv:=by
     revert hc; unfold eP; split<;>simp_all
    refine .run [] [ev ρ x] (ev ρ x) [] [] σ gi hh (by rw[hx]; exact Qo _) (by rw[hk]; exact IL _ _) (Yl σ) ⟨h,Ym.put⟩
   ·exact(ok.stop h).elim
  |pu=>
   simp only[hc] at h;obtain⟨v,e,h⟩:=ok.pu h;exact .run [] _ v [] [] σ gi hh (Qo _) (ZD e) (Yl σ) ⟨h,Ym.put⟩
  |rd=>simp only[hc] at h; exact mQ h
  |wr=>simp only[hc] at h; exact mQ h
  |call=>
   simp only[hc] at h;obtain⟨v,rd,up,σ',e,e2,h⟩:=ok.aE h;exact .run [] _ v rd up σ' gi hh (Qo _) e e2 ⟨h,Ym.put⟩
 |some p=>
  obtain⟨s,w⟩:=p;simp only[hg] at h;have eB:∀cs,cx ρ (some (s,w)) cs→¬dO cs→hold (K (bK o.dst (sA cs) ρ) σ (lg++[([],[])]))→dE true P GL o ρ σ lg (λρ' σ' jF=>hold (K ρ' σ' jF)∧Ym (YH [o]) ρ ρ'):=by
   intro cs hb dL h;exact .lazy cs _ (.bool false) [] (by rw[hg]; exact hb) (Qo _) (λq=>(dL q).elim) ⟨h,Ym.put⟩
  have uZ:hold (A.gr (bn ρ s) w (λk=>A.pu (fI o.k (o.xs.map (ev ρ)) σ) k) λv=>K (bK o.dst v ρ) σ (lg++[([],[])]))→dE true P GL o ρ σ lg (λρ' σ' jF=>hold (K ρ' σ' jF)∧Ym (YH [o]) ρ ρ'):=by
   intro h;obtain⟨cs,hb,⟨h0,h1⟩|⟨h0,h1⟩⟩:=C4 ok h
   ·obtain⟨v,e,h⟩:=ok.pu h1;exact .run cs _ v [] [] σ (by rw[hg]; exact hb) h0 (Qo _) (ZD e) (Yl σ) ⟨h,Ym.put⟩
   ·exact eB cs hb h0 h1
  have mQ:hold (A.gl (bn ρ s) w (λk=>A.dr (fI o.k (o.xs.map (ev ρ)) σ) σ k) σ λv l σ=>K (bK o.dst v ρ) σ (lg++[l]))→dE true P GL o ρ σ lg (λρ' σ' jF=>hold (K ρ' σ' jF)∧Ym (YH [o]) ρ ρ'):=by
   intro h;obtain⟨cs,hb,⟨h0,h1⟩|⟨h0,h1⟩⟩:=C4 ok h
   ·obtain⟨v,rd,up,σ',e,e2,h⟩:=ok.dr h1;exact .run cs _ v rd up σ' (by rw[hg]; exact hb) h0 (Qo _) (ZD e) e2 ⟨h,Ym.put⟩
   ·exact eB cs hb h0 h1
  cases hc:eP o.k with
  |mv=>simp only[hc] at h; exact uZ h
  |pu=>simp only[hc] at h; exact uZ h
  |rd=>simp only[hc] at h; exact mQ h
  |wr=>simp only[hc] at h; exact mQ h
  |call=>
   simp only[hc] at h;obtain⟨cs,hb,⟨h0,h1⟩|⟨h0,h1⟩⟩:=C4 ok h
   ·obtain⟨v,rd,up,σ',e,e2,h⟩:=ok.aE h1;exact .run cs _ v rd up σ' (by rw[hg]; exact hb) h0 (Qo _) e e2 ⟨h,Ym.put⟩
   ·exact eB cs hb h0 h1
theorem N0(ok:dC P GL A hold):∀ {ms:List aO} {ρ:Frame} {σ:List ab} {lg:Log} {K:Frame→List ab→Log→α},hold (G1 A ms ρ σ lg K) →
  je true P GL ms ρ σ lg (λρ' σ' jF=>hold (K ρ' σ' jF)∧Ym (YH ms) ρ ρ')
 |[],ρ,σ,lg,K,h=>⟨h,Ym.refl _ _⟩
 |o::r,ρ,σ,lg,K,h=>by
  unfold G1 at h;refine dE.mono (λρ' σ' jF=>?_) (UR ok h);rintro⟨k1,k2⟩;refine je.mono (λL6 L7 Ls=>?_) (N0 ok k1);rintro⟨q1,q2⟩;exact⟨q1,by rw[L_]; exact k2.trans q2⟩
theorem Nb:∀a:List Nat,fR a []=true
 |[]=>rfl
 |x::a=>by simp[fR,Nb a]
theorem Y3{hd:List (List Nat)}{lg:Log}(h:mJ lg):Zh hd lg=true:=by
 have one:∀(h':List Nat) (q:List Nat×List Nat),q.2=[]→∀(l:Log) (i:Nat),mJ l→QB h' q i l=true:=by
  intro h' q hq l
  induction l with
  |nil=>intro i _; rfl
  |cons p r ih=>
   intro i hl;have hp:p.2=[]:=hl p (by simp);simp[QB,fF,hq,hp,fR,Nb,ih (i+1) (λx hx=>hl x (by simp[hx]))]
 unfold Zh;rw[List.all_eq_true];intro j _;refine one _ _ ?_ _ _ (λx hx=>h x (List.mem_of_mem_take hx));unfold X2;cases hj:lg[j]? with
 |none=>rfl
 |some p=>exact h p (List.mem_of_getElem? hj)
theorem DF{x:Nat}:∀ {l:List Nat},uT x l=true↔x∈l
 |[]=>by simp[uT]
 |y::l=>by simp[uT,DF (l:=l)]
theorem Jm:∀ {l b:List Nat},u6 l b=true→∀x∈l,x∈b
 |[],_,_,x,h=>by simp at h
 |y::l,b,h,x,hx=>by
  simp only[u6,Bool.and_eq_true] at h;simp only[List.mem_cons] at hx;rcases hx with rfl|hx
  ·exact DF.1 h.1
  ·exact Jm h.2 x hx
theorem GV(l:List Nat)(s:Nat):∀ρ:Frame,bn (fZ l ρ) s=if s∈l then .aI else bn ρ s
 |[]=>by simp[fZ,bn]
 |(k,v)::r=>by
  unfold fZ;cases hk:uT k l with
  |true=>
   have hm:=DF.1 hk;simp only;rw[GV l s r];by_cases hs:s∈l
   ·simp[hs]
   ·have:s≠k:=by rintro rfl; exact hs hm
    rw[if_neg hs,if_neg hs,XG,if_neg this]
  |false=>
   have hm:k∉l:=λe=>by rw[DF.2 e] at hk; cases hk
   simp only;rw[XG,XG,GV l s r];by_cases hs:s=k
   ·subst hs; simp[hm]
   ·simp[hs]
theorem Mj{s:Nat}:∀ {lv:List Nat} {vs:List aa} {ρ:Frame},s∉lv→bn (kE lv vs ρ) s=bn ρ s
 |[],_,_,_=>rfl
 |k::ks,vs,ρ,h=>by
  simp only[List.mem_cons,not_or] at h;simp only[kE];rw[XG,if_neg h.1,Mj h.2]
theorem IH{lv:List Nat}{l:List Nat}{ρ ρ1:Frame}(hl:∀x∈lv,x∈l)(h:Ym l ρ ρ1):tA (kE lv (oR ρ1 lv) (fZ l ρ)) ρ1:=by
 have key:∀(ks:List Nat) (ρ0:Frame),tA ρ0 ρ1→tA (kE ks (oR ρ1 ks) ρ0) ρ1:=by
  intro ks
  induction ks with
  |nil=>intro ρ0 h; exact h
  |cons k ks ih=>
   intro ρ0 h t;simp only[kE,oR,pC,gO];rw[XG];by_cases e:t=k
   ·subst e; rw[if_pos rfl]; exact .inl rfl
   ·rw[if_neg e]; exact ih ρ0 h t
 refine key lv _ (λt=>?_);rw[GV];by_cases ht:t∈l
 ·rw[if_pos ht]; exact .inr rfl
 ·rw[if_neg ht]; exact .inl (h t ht).symm
theorem Ny{lv l:List Nat}{vs:List aa}{ρ:Frame}(hl:∀x∈lv,x∈l):Ym l ρ (kE lv vs (fZ l ρ)):=by
 intro s hs;rw[Mj (λe=>hs (hl s e)),GV,if_neg hs]
theorem Vr{n:Nat}{m:cW}{ρ:Frame}{σ:List ab}{Q:dK}(h:gm P GL n m ρ σ (λe ρ1 σ1=>∃ρ2,tA ρ2 ρ1∧Q e ρ2 σ1)):gm P GL n m ρ σ Q:=by
 intro c hc w0 L g a w r d;refine wp_mono (h c hc w0 L g a w r d) (λe a' w' hl=>?_);cases e with
 |normal=>obtain⟨g',ρ',σ',k1,k2,k3,ρ2,k4,k5⟩:=hl; exact⟨g',ρ2,σ',k1,k2,k3.jl k4,k5⟩
 |exit id=>obtain⟨g',ρ',σ',k1,k2,k3,ρ2,k4,k5⟩:=hl; exact⟨g',ρ2,σ',k1,k2,k3.jl k4,k5⟩
 |ret=>obtain⟨g',ρ',σ',k1,k2,k3,ρ2,k4,k5⟩:=hl; exact⟨g',ρ2,σ',k1,k2,k3.jl k4,k5⟩
 |_=>exact hl.elim
theorem tA.refl(ρ:Frame):tA ρ ρ:=λ_=>.inl rfl
theorem XP(hP:P.follows .mixedOrders=true)(ok:dC P GL A hold){n:Nat}:∀(m:ck) {ρ:Frame} {σ:List ab} {K:Frame→List ab→α} {E:Nat→Frame→List ab→α} {R:Frame→List ab→α} {Q:dK},m.ok=true →
  (∀ρ' σ',Ym m.jr ρ ρ'→hold (K ρ' σ')→Q .normal ρ' σ')→(∀i ρ' σ',Ym m.jr ρ ρ'→hold (E i ρ' σ')→Q (.exit i) ρ' σ')→(∀ρ' σ',Ym m.jr ρ ρ'→hold (R ρ' σ')→Q .ret ρ' σ') →
  hold (dn A m ρ σ K E R)→gm P GL n m.er ρ σ Q
 |.skip,_,_,_,_,_,_,_,hK,_,_,h=>Uc (hK _ _ (Ym.refl _ _) h)
 |.label _,_,_,_,_,_,_,_,hK,_,_,h=>TA (hK _ _ (Ym.refl _ _) h)
 |.exit id,_,_,_,_,_,_,_,_,hE,_,h=>Vk (hE _ _ _ (Ym.refl _ _) h)
 |.ret,_,_,_,_,_,_,_,_,_,hR,h=>V8 (hR _ _ (Ym.refl _ _) h)
 |.scope a,_,_,_,_,_,_,hm,hK,hE,hR,h=>Sa (XP hP ok a hm hK hE hR h)
 |.region id ms none,ρ,σ,K,E,R,Q,_,hK,_,_,h=>by
  refine Uz (je.mono (λρ' σ' jF=>?_) (Jv ok (fl:=false) (λe=>by cases e) h));rintro⟨k1,k2,_⟩;exact hK _ _ k2 k1
 |.region id ms (some hd),ρ,σ,K,E,R,Q,_,hK,_,_,h=>by
  unfold dn at h;cases hn:pk ms with
  |true=>
   simp only[hn] at h;refine MF hP (je.mono (λρ' σ' jF=>?_) (Jv ok (fl:=true) (λ_=>hn) h));rintro⟨k1,k2,k3⟩;exact⟨Y3 (k3 hn (λ_ q=>by simp at q)),hK _ _ k2 k1⟩
  |false=>
   simp only[hn] at h;refine MF hP (je.mono (λρ' σ' jF=>?_) (N0 ok h));rintro⟨k1,k2⟩;obtain⟨q1,q2⟩:=ok.gd k1;exact⟨q1,hK _ _ k2 q2⟩
 |.seq a b,ρ,σ,K,E,R,Q,hm,hK,hE,hR,h=>by
  simp only[ck.ok,Bool.and_eq_true] at hm;refine U3 (XP hP ok a hm.1 (Q:=dK.andThen (λρ σ=>gm P GL n b.er ρ σ Q) Q) (λρ' σ' hs hk=>?_) (λi ρ' σ' hs hk=>?_) (λρ' σ' hs hk=>?_) h)
  ·exact XP hP ok b hm.2 (λρ2 σ2 o_=>hK _ _ (hs.trans o_)) (λi ρ2 σ2 o_=>hE _ _ _ (hs.trans o_)) (λρ2 σ2 o_=>hR _ _ (hs.trans o_)) hk
  ·exact hE i ρ' σ' (hs.mono (λx hx=>by simp[ck.jr,hx])) hk
  ·exact hR ρ' σ' (hs.mono (λx hx=>by simp[ck.jr,hx])) hk
 |.cond c a b,ρ,σ,K,E,R,Q,hm,hK,hE,hR,h=>by
  simp only[ck.ok,Bool.and_eq_true] at hm;unfold dn at h;obtain⟨v,hv,h1,h2⟩:=ok.test h;have m1:∀ρ',Ym a.jr ρ ρ'→Ym (ck.cond c a b).jr ρ ρ':=λρ' q=>q.mono (λx hx=>by simp[ck.jr,hx]);have m2:∀ρ',Ym b.jr ρ ρ'→Ym (ck.cond c a b).jr ρ ρ':=λρ' q=>q.mono (λx hx=>by simp[ck.jr,hx]);refine Wo hv (λe=>?_) (λe=>?_)
  ·exact XP hP ok a hm.1 (λρ2 σ2 q=>hK _ _ (m1 _ q)) (λi ρ2 σ2 q=>hE _ _ _ (m1 _ q)) (λρ2 σ2 q=>hR _ _ (m1 _ q)) (h1 e)
  ·exact XP hP ok b hm.2 (λρ2 σ2 q=>hK _ _ (m2 _ q)) (λi ρ2 σ2 q=>hE _ _ _ (m2 _ q)) (λρ2 σ2 q=>hR _ _ (m2 _ q)) (h2 e)
 |.join lv a,ρ,σ,K,E,R,Q,hm,hK,hE,hR,h=>by
  simp only[ck.ok,Bool.and_eq_true] at hm;have z_:=Jm hm.1;refine Vr (XP hP ok a hm.2 (K:=λρ' σ=>K (kE lv (oR ρ' lv) (fZ a.jr ρ)) σ) (E:=E) (R:=R) (λρ' σ' hs hk=>?_) (λi ρ' σ' hs hk=>⟨ρ',tA.refl _,hE i ρ' σ' hs hk⟩) (λρ' σ' hs hk=>⟨ρ',tA.refl _,hR ρ' σ' hs hk⟩) h);exact⟨_,IH z_ hs,hK _ _ (Ny z_) hk⟩
 |.block id a,ρ,σ,K,E,R,Q,hm,hK,hE,hR,h=>by
  refine UI (XP hP ok a hm (Q:=dK.inBlock id Q) hK (λi ρ' σ' hs hk=>?_) hR h);show (if i=id then Q .normal ρ' σ' else Q (.exit i) ρ' σ');by_cases hi:i=id
  ·subst hi;rw[if_pos rfl];have hb:Nat.beq i i=true:=Nat.beq_refl i;simp only[hb] at hk;exact hK _ _ hs hk
  ·rw[if_neg hi];have hb:Nat.beq i id=false:=by
    cases hb:Nat.beq i id with
    |true=>exact(hi (eZ hb)).elim
    |false=>rfl
   simp only[hb] at hk;exact hE _ _ _ hs hk
 |.loop lv a,ρ,σ,K,E,R,Q,hm,hK,hE,hR,h=>by
  simp only[ck.ok,Bool.and_eq_true] at hm;have z_:=Jm hm.1;unfold dn at h;obtain⟨k,hk⟩:=ok.loop h;have key:∀(k:Nat) (vs:List aa) (σ:List ab) (ρ1:Frame),tA (kE lv vs (fZ a.jr ρ)) ρ1 →
    hold (kv A.stop k (λagain vs σ=>dn A a (kE lv vs (fZ a.jr ρ)) σ (λρ' σ=>again (oR ρ' lv) σ) E R) vs σ)→gm P GL n (.loop a.er) ρ1 σ Q:=by
   intro k
   induction k with
   |zero=>intro vs σ ρ1 _ hk; exact(ok.stop hk).elim
   |succ k ih=>
    intro vs σ ρ1 hle hk;have hz:Ym a.jr ρ (kE lv vs (fZ a.jr ρ)):=Ny z_;have uR:∀ρ',Ym a.jr (kE lv vs (fZ a.jr ρ)) ρ'→Ym a.jr ρ ρ':=λρ' q=>(hz.trans q).mono (λx hx=>by simpa using hx);refine SY hle (Tn (XP hP ok a hm.2 (Q:=dK.andThen (λρ σ=>gm P GL n (.loop a.er) ρ σ Q) Q) (λρ' σ' hs hk=>?_) (λi ρ' σ' hs hk=>?_) (λρ' σ' hs hk=>?_) hk))
    ·exact ih _ _ ρ' (IH z_ (uR _ hs)) hk
    ·exact hE i ρ' σ' (uR _ hs) hk
    ·exact hR ρ' σ' (uR _ hs) hk
  exact key k _ σ ρ (IH z_ (Ym.refl _ _)) hk
theorem QW(ok:dC P GL A hold):∀ {rs:List RV} {ρ:Frame} {σ:List ab} {K:List aa→α},hold (C2 A rs ρ σ K)→∃vs,nG ρ σ rs=some vs∧hold (K vs)
 |[],_,_,_,h=>⟨[],rfl,h⟩
 |.t n::r,ρ,σ,K,h=>by
  obtain⟨vs,h1,h2⟩:=QW ok (rs:=r) h;exact⟨bn ρ n::vs,by simp[nG,rz,h1],h2⟩
 |.c s agg n::r,ρ,σ,K,h=>by
  unfold C2 at h;obtain⟨v,hv,h⟩:=ok.opt h;obtain⟨vs,h1,h2⟩:=QW ok (rs:=r) h;have ni:rz ρ σ (.c s agg n)=some v:=by
   unfold av at hv;unfold rz;exact hv
  exact⟨v::vs,by simp[nG,ni,h1],h2⟩
theorem UB(hP:P.follows .mixedOrders=true)(ok:dC P GL A hold){D:vA}(hD:D.body.ok=true){xs:List aa}{σ:List ab}{ret:aa→List ab→α}(h:hold (vO A D xs σ ret)) :
  gm P GL D.n D.body.er (dP xs) σ (λe ρ σ'=>(e=.normal∨e=.ret)∧∃v,fW D.fh ρ σ'=some v∧hold (ret v σ')):=by
 refine XP hP ok D.body hD (λρ' σ' _ hk=>?_) (λi ρ' σ' _ hk=>(ok.stop hk).elim) (λρ' σ' _ hk=>?_) h
 ·obtain⟨vs,h1,h2⟩:=QW ok hk;exact⟨.inl rfl,_,by simp[fW,h1],h2⟩
 ·obtain⟨vs,h1,h2⟩:=QW ok hk;exact⟨.inr rfl,_,by simp[fW,h1],h2⟩
end
end
end Go.Ah
end
section
namespace Go.Ah
abbrev aq:=∀ {α:Type},al α→List aa→List ab→(aa→List ab→α)→α
structure iV (P:Program) (GL:aA) (f:FuncId) (np:Nat) (g:aq):Prop where
 plain:Xl P f=true
 ex:∃D:vA,D.np=np∧kK P GL f D.fn∧D.body.ok=true∧∀(α:Type) (A:al α) (xs:List aa) (σ:List ab) (ret:aa→List ab→α),xs.length=np→g A xs σ ret=vO A D xs σ ret
def fj:cW→List (Option (List Nat))→ck×List (Option (List Nat))
 |.skip,l=>(.skip,l)
 |.region id ms hd,l=>(.region id ms hd,l)
 |.seq a b,l=>match fj a l with
  |(a',l)=>match fj b l with
   |(b',l)=>(.seq a' b',l)
 |.cond c a b,l=>match fj a l.tail with
  |(a',l2)=>match fj b l2 with
   |(b',l3)=>match l with
    |some lv::_=>(.join lv (.cond c a' b'),l3)
    |_=>(.cond c a' b',l3)
 |.block id a,l=>match fj a l.tail with
  |(a',l2)=>match l with
   |some lv::_=>(.join lv (.block id a'),l2)
   |_=>(.block id a',l2)
 |.loop a,l=>match fj a l.tail with
  |(a',l2)=>match l with
   |some lv::_=>(.loop lv a',l2)
   |_=>(.loop [] a',l2)
 |.exit id,l=>(.exit id,l)
 |.scope a,l=>match fj a l with
  |(a',l)=>(.scope a',l)
 |.label n,l=>(.label n,l)
 |.ret,l=>(.ret,l)
theorem QV:∀(m:cW) (l:List (Option (List Nat))),(fj m l).1.er=m
 |.skip,_=>rfl
 |.region ..,_=>rfl
 |.seq a b,l=>by simp only[fj,ck.er,QV a,QV b]
 |.cond c a b,l=>by
  simp only[fj];split<;>simp only[ck.er,QV a,QV b]
 |.block id a,l=>by
  simp only[fj];split<;>simp only[ck.er,QV a]
 |.loop a,l=>by
  simp only[fj];split<;>simp only[ck.er,QV a]
 |.exit _,_=>rfl
 |.scope a,l=>by simp only[fj,ck.er,QV a]
 |.label _,_=>rfl
 |.ret,_=>rfl
def dT(P:Program)(GL:aA)(np:Nat)(f:FuncId)(l:List (Option (List Nat))):Option vA:=match I9 P GL np f with
 |some F=>bif (fj F.body l).1.ok&&(Xl P f&&Nat.beq F.np np) then some ⟨np,F.n,(fj F.body l).1,F.fh⟩ else none
 |none=>none
theorem Ss{P:Program}{GL:aA}{np:Nat}{f:FuncId}{l:List (Option (List Nat))}{g:aq}{D:vA}(hD:dT P GL np f l=some D)(h:∀(α:Type) (A:al α) (xs:List aa) (σ:List ab) (ret:aa→List ab→α),xs.length=np→g A xs σ ret=vO A D xs σ ret):iV P GL f np g:=by
 unfold dT at hD;split at hD
 ·rename_i F hF;obtain⟨hb,hD⟩:=Qx hD;simp only[Bool.and_eq_true] at hb;cases hD;have tp:=eZ hb.2.2;refine⟨hb.2.1,_,rfl,?_,hb.1,h⟩;have vw:vA.fn ⟨np,F.n,(fj F.body l).1,F.fh⟩=F:=by
   cases F;simp only at tp;simp only[vA.fn,QV,tp]
  rw[vw];exact Se hF
 ·cases hD
end Go.Ah
end
section
namespace Go.Ah
def W(P:Program)(GL:aA):al Prop where
 stop:=False
 call k xs σ K:=∃R,mA P GL k xs σ R∧∀v σ',R v σ'→K v σ'
 aE k xs σ K:=∃v rd up σ',aD P GL k xs (hp σ) v rd up∧gy σ up=some σ'∧K v (rd,up.map (·.1)) σ'
 test v a b:=match v with
  |.bool c=>(c=true→a)∧(c=false→b)
  |_=>False
 loop F vs σ:=∃n,kv False n F vs σ
theorem Db(P:Program)(GL:aA):dC P GL (W P GL) (λp=>p) where
 stop:=λh=>h
 call:=λh=>h
 aE:=λh=>h
 test:=λ{v a b} h=>by
  simp only[W] at h;split at h
  ·exact⟨_,rfl,h⟩
  ·exact h.elim
 loop:=λh=>h
section
variable {P:Program} {GL:aA}
theorem iV.x9(hP:P.follows .mixedOrders=true){α:Type}{A:al α}{hold:α→Prop}(ok:dC P GL A hold){f:FuncId}{np:Nat}{g:aq}(hg:iV P GL f np g){xs:List aa}(hn:xs.length=np){σ:List ab}{ret:aa→List ab→α}(h:hold (g A xs σ ret)) :
  ∃F,kK P GL f F∧F.np=np∧gm P GL F.n F.body (dP xs) σ (λe ρ σ'=>(e=.normal∨e=.ret)∧∃v,fW F.fh ρ σ'=some v∧hold (ret v σ')):=by
 obtain⟨D,h1,h2,h3,h4⟩:=hg.ex;rw[h4 α A xs σ ret hn] at h;exact⟨D.fn,h2,h1,UB hP ok h3 h⟩
theorem Qd(hP:P.follows .mixedOrders=true){f:FuncId}{np:Nat}{g:aq}(hg:iV P GL f np g){xs:List aa}(hn:xs.length=np){v:aa}(hv:v.ro=true)(h:g (W P GL) xs [] (λv' _=>v'=v)):cm P GL f xs v:=by
 obtain⟨F,h1,h2,h3⟩:=hg.x9 hP (Db P GL) hn h;refine N2 h1 (hn.trans h2.symm) hv (h3.mono λe ρ σ k=>?_);obtain⟨k1,v',k2,rfl⟩:=k;exact⟨k1,k2⟩
theorem Ts(hP:P.follows .mixedOrders=true){f:FuncId}{np:Nat}{g:aq}(hg:iV P GL f np g){xs:List aa}(hn:xs.length=np){v:aa}{bs:List ab}(h:g (W P GL) xs [] (λv' σ=>v'=v∧σ=bs)):cE P GL f xs v bs:=by
 obtain⟨F,h1,h2,h3⟩:=hg.x9 hP (Db P GL) hn h;refine Ml h1 (hn.trans h2.symm) (h3.mono λe ρ σ k=>?_);obtain⟨k1,v',k2,rfl,rfl⟩:=k;exact⟨k1,k2,rfl⟩
def zu(σ:List ab)(v:aa):Option aa:=match v with
 |.aG vs=>match Xu σ 1000 vs with
  |some (ys,_)=>some (.aG ys)
  |none=>none
 |v=>match Xu σ 1000 [v] with
  |some ([y],_)=>some y
  |_=>none
theorem TZ{σ:List ab}{v y:aa}(hy:zu σ v=some y){w0:World}{L:Ln}{g:Gm}{w:World}{M2:Nat→Option Obj}(r:a_ GL w0 L g (hp σ) w)(tg:xS g (hp σ) w M2){u:Value}(hd:g.den v u):Den M2 aV y u:=by
 unfold zu at hy;split at hy
 ·rename_i vs;split at hy
  ·rename_i ys rd hb;cases hy;have zM:=X0 _ _ _ _ hb rd (λ_ q=>q);cases hd with
   |aG _ _ us hs hd=>
    have tl:=zM GL w0 L g (hp σ) w M2 r tg (λ_ _=>rfl) us.toList (bZ.jH (by simp[hs]) (λi x v e1 e2=>hd i x v e1 (by simpa using e2)));exact .aG _ _ _ (by have:=tl.length; simpa using this.symm) (λi x v e1 e2=>tl.get i x v e1 (by simpa using e2))
  ·cases hy
 ·split at hy
  ·rename_i y' rd hb;cases hy;have zM:=X0 _ _ _ _ hb rd (λ_ q=>q);exact(zM GL w0 L g (hp σ) w M2 r tg (λ_ _=>rfl) [u] ⟨hd,trivial⟩).1
  ·cases hy
theorem XZ{f:FuncId}{xs:List aa}{v y:aa}{bs:List ab}(h:cE P GL f xs v bs)(hy:zu bs v=some y):cm P GL f xs y:=by
 intro w M vs hM hg hx;refine(h w M vs hM hg hx).mono ?_;rintro e w' ⟨u,he,g',hle,r,hd⟩
 let M2:Nat→Option Obj:=λb=>if b<w.heap.size then g'.M b else w'.heap[b]?
 have tg:xS g' (hp bs) w' M2:=by
  refine⟨λb o e=>?_,λb blk cb o e1 e2 e3 e4 e5=>?_⟩
  ·show (if b<w.heap.size then g'.M b else w'.heap[b]?)=some o;split
   ·exact e
   ·exact r.aJ b o e
  ·obtain⟨_,cv,_⟩:=r.own b blk cb e1 e2 e3 e4;show (if cb.blk<w.heap.size then g'.M cb.blk else w'.heap[cb.blk]?)=some o;rcases cv with cv|cv
   ·simp at cv
   ·rw[if_neg (by omega)]; exact e5
 have tl:=TZ hy r tg hd;refine⟨u,he,r.keeps,M2,λb o e=>tg.1 b o (hle b o e),λb o e=>?_,λb o e=>?_,tl⟩
 ·have e':(if b<w.heap.size then g'.M b else w'.heap[b]?)=some o:=e;split at e'
  ·exact r.aJ b o e'
  ·exact e'
 ·have e':(if b<w.heap.size then g'.M b else w'.heap[b]?)=some o:=e;split at e'
  ·rcases r.src b o e' with q|q|q
   ·exact .inl q
   ·exact .inr q
   ·simp at q
  ·exact .inr (by omega)
theorem Nv(hP:P.follows .mixedOrders=true){f:FuncId}{np:Nat}{g:aq}(hg:iV P GL f np g){xs:List aa}(hn:xs.length=np){y:aa}(h:∃v bs,zu bs v=some y∧g (W P GL) xs [] (λv' σ=>v'=v∧σ=bs)):cm P GL f xs y:=by
 obtain⟨v,bs,h1,h2⟩:=h;exact XZ (Ts hP hg hn h2) h1
theorem Mm{k:MK}{xs:List aa}{σ σ':List ab}{v:aa}{rd:List Nat}{up:List (Nat×ab)}(h:aD P GL k xs (hp σ) v rd up)(hu:gy σ up=some σ'):mA P GL k xs σ (λv' s=>v'=v∧s=σ'):=by
 intro o os hc w0 L g w a r hx;have:=h o os hc w0 L g (hp σ) w a r hx (λ_ _=>rfl) (λ_ _=>rfl);rw[DR _ _ _ hu] at this;generalize (execOp a.eval o).run P w=res at this;cases res with
 |ok nx w'=>
  cases nx with
  |value u=>obtain⟨g',k1,k2,k3⟩:=this; exact⟨g',v,σ',⟨rfl,rfl⟩,k1,k2,k3⟩
  |skip=>obtain⟨g',k1,k2,k3⟩:=this; exact⟨g',σ',⟨k3.symm,rfl⟩,k1,k2⟩
  |enter f args=>
   refine Calls.mono this ?_;rintro e yY ⟨u,he,g',k1,k2,k3⟩;exact⟨u,he,g',v,σ',⟨rfl,rfl⟩,k1,k2,k3⟩
  |_=>exact this.elim
 |_=>exact this.elim
theorem QE{k:MK}{xs ys:List aa}{f:FuncId}(hc:Ys k xs=some (f,ys))(gz:Xl P f=true){σ:List ab}{v:aa}{rd:List Nat}{up:List (Nat×ab)}(h:fD P GL f ys (hp σ) v rd up):aD P GL k xs (hp σ) v rd up:=by
 unfold Ys at hc;split at hc
 ·cases hc; exact V5 h
 ·cases hc; exact T_ gz h
 ·cases hc
theorem QO{k:MK}{xs ys:List aa}{f:FuncId}(hc:Ys k xs=some (f,ys))(gz:Xl P f=true){σ σ':List ab}{v:aa}{rd:List Nat}{up:List (Nat×ab)}(h:fD P GL f ys (hp σ) v rd up)(hu:gy σ up=some σ'){K:aa→List ab→Prop}(hK:K v σ'):(W P GL).call k xs σ K:=
 ⟨_,Mm (QE hc gz h) hu,by rintro _ _ ⟨rfl,rfl⟩; exact hK⟩
theorem Y0{k:MK}{xs ys:List aa}{f:FuncId}(hc:Ys k xs=some (f,ys))(gz:Xl P f=true){σ σ':List ab}{v:aa}{rd:List Nat}{up:List (Nat×ab)}(h:fD P GL f ys (hp σ) v rd up)(hu:gy σ up=some σ'){K:aa→List Nat×List Nat→List ab→Prop}(hK:K v (rd,up.map (·.1)) σ'):(W P GL).aE k xs σ K:=
 ⟨v,rd,up,σ',QE hc gz h,hu,hK⟩
theorem Yu(hP:P.follows .mixedOrders=true){k:MK}{xs ys:List aa}{f:FuncId}(hc:Ys k xs=some (f,ys)){np:Nat}{g:aq}(hg:iV P GL f np g)(hn:ys.length=np){σ:List ab}{K:aa→List ab→Prop}(h:g (W P GL) ys σ K):(W P GL).call k xs σ K:=by
 obtain⟨F,h1,h2,h3⟩:=hg.x9 hP (Db P GL) hn h;exact⟨K,Mg hc hg.plain h1 (hn.trans h2.symm) h3,λ_ _ q=>q⟩
theorem Qc{k:MK}{xs ys:List aa}{f:FuncId}{v:aa}(h:cm P GL f ys v)(hc:Ys k xs=some (f,ys))(gz:Xl P f=true)(jO:el ys=true){σ:List ab}{K:aa→List ab→Prop}(hK:K v σ):(W P GL).call k xs σ K:=
 QO hc gz (h.here jO (hp σ)) (Yl σ) hK
theorem Qn{k:MK}{xs ys:List aa}{f:FuncId}{v:aa}(h:cm P GL f ys v)(hc:Ys k xs=some (f,ys))(gz:Xl P f=true)(jO:el ys=true){σ:List ab}{K:aa→List Nat×List Nat→List ab→Prop}(hK:K v ([],[]) σ):(W P GL).aE k xs σ K:=
 Y0 hc gz (h.here jO (hp σ)) (Yl σ) hK
theorem YB{k:MK}{xs ys zs:List aa}{f:FuncId}{v:aa}{rd:List Nat}(h:cm P GL f zs v){σ:List ab}(hc:Ys k xs=some (f,ys))(gz:Xl P f=true)(hb:Xu σ 1000 ys=some (zs,rd))(hv:v.flat=true){K:aa→List ab→Prop}(hK:K v σ):(W P GL).call k xs σ K:=
 QO hc gz (h.rn (X0 _ _ _ _ hb _ (λ_ q=>q)) hv) (Yl σ) hK
theorem Zl{ι:Type}(I:ι→List aa→List ab→Prop)(μ:ι→Nat){F:(List aa→List ab→Prop)→List aa→List ab→Prop}(i0:ι){vs:List aa}{σ:List ab}(h0:I i0 vs σ)
 (round:∀i vs σ again,I i vs σ→(∀j GH σ',μ j<μ i→I j GH σ'→again GH σ')→F again vs σ):(W P GL).loop F vs σ:=by
 have key:∀(m:Nat) (i:ι) (vs:List aa) (σ:List ab),μ i<m→I i vs σ→kv False m F vs σ:=by
  intro m
  induction m with
  |zero=>intro i vs σ h; omega
  |succ m ih=>
   intro i vs σ h hI;exact round i vs σ _ hI (λj GH σ' bj hj=>ih j GH σ' (by omega) hj)
 exact⟨_,key (μ i0+1) i0 vs σ (by omega) h0⟩
end
section
variable {P:Program} {GL:aA}
theorem xZ(c:Bool)(a b:Prop):(W P GL).test (.bool c) a b=((c=true→a)∧(c=false→b)):=rfl
end
section
variable {α:Type} (A:al α)
theorem td(v:aa)(rd:List Nat)(K:aa→α):A.rd (.ok v rd []) K=K v:=rfl
theorem FU(v:aa)(K:aa→α):A.pu (.ok v [] []) K=K v:=rfl
theorem DD(v:aa)(rd:List Nat)(up:List (Nat×ab))(σ:List ab)(K:aa→List ab→α):A.wr (.ok v rd up) σ K=A.opt (gy σ up) (K v):=by
 show (match gy σ up with|some σ'=>K v σ'|none=>A.stop)=_;unfold al.opt; cases gy σ up<;>rfl
theorem Ps(v:aa)(rd:List Nat)(up:List (Nat×ab))(σ:List ab)(K:aa→List Nat×List Nat→List ab→α):A.dr (.ok v rd up) σ K=A.opt (gy σ up) (K v (rd,up.map (·.1))):=by
 show (match gy σ up with|some σ'=>K v _ σ'|none=>A.stop)=_;unfold al.opt; cases gy σ up<;>rfl
theorem GU{β:Type}(v:β)(K:β→α):A.opt (some v) K=K v:=rfl
theorem SI(k:α):A.gd true k=k:=rfl
end
theorem ZS{n:Nat}:∀ {a b:List Nat},Yx n (a++b)=true→Yx n a=true∧Yx n b=true
 |[],_,h=>⟨rfl,h⟩
 |x::a,b,h=>by
  simp only[List.cons_append,Yx,Bool.and_eq_true] at h;obtain⟨h1,h2⟩:=ZS h.2;exact⟨by simp[Yx,h.1,h1],h2⟩
def Gs{α:Type}(stop:α)(v:aa)(a b:α):α:=match v with
 |.bool true=>a
 |.bool false=>b
 |_=>stop
abbrev CG:=FuncId→List aa→List ab→Option (aa×List ab)
def N6(cg:CG)(f:FuncId)(ys:List aa)(σ:List ab):Option (aa × List ab):=bif Yx σ.length (jk ys) then (match cg f (fg (nj σ.length) ys) (YF σ) with
 | some (v,σ')=>(match XV σ.length σ' with
  |some news=>some (v,news)
  | none=>none)
 | none=>none) else none
def JS(cg:CG)(k:MK)(xs:List aa)(σ:List ab):az:=match Ys k xs with
 |none=>.stop
 | some (f,ys)=>bif el ys then (match cg f ys [] with
   |some (v,bs)=>bif v.ro then .ok v [] [] else .ok (v.bG (ZB σ.length)) [] (Zx σ.length (Zw σ.length bs))
   | none=>.stop)
  else match N6 cg f ys σ with
  |some (v,news)=>bif v.ro then .ok (v.bG (ee (jk ys) σ.length 0)) (jk ys) [] else .ok (v.bG (ee (jk ys) σ.length news.length)) (jk ys) (Zx σ.length (news.map (ab.dk (aa.bG (ee (jk ys) σ.length news.length)))))
  |none=>match Xu σ 1000 ys with
   | some (zs,rd)=>(match cg f zs [] with
    |some (v,bs)=>bif v.flat&&v.ro then .ok v rd [] else bif v.cA&&xY bs then .ok (v.bG (ZB σ.length)) rd (Zx σ.length (Zw σ.length bs)) else .stop
    | none=>.stop)
   |none=>.stop
def Cl(much:Nat)(cg:CG):al (Option (aa×List ab)) where
 stop:=none
 call k xs σ K:=match Ys k xs with
  |some (f,ys)=>match cg f ys σ with
   |some (v,σ')=>K v σ'
   |none=>none
  |none=>none
 aE k xs σ K:=match JS cg k xs σ with
  |.ok v rd up=>match gy σ up with
   |some σ'=>K v (rd,up.map (·.1)) σ'
   |none=>none
  |.stop=>none
 test:=Gs none
 loop F vs σ:=kv none much F vs σ
section
variable {P:Program} {GL:aA}
def pE(P:Program)(GL:aA)(cg:CG):Prop:=∀f xs σ v σ',cg f xs σ=some (v,σ')→Xl P f=true∧(∀k ys,Ys k ys=some (f,xs)→mA P GL k ys σ (λv' s=>v'=v∧s=σ')) ∧
 (σ=[]→cE P GL f xs v σ'∧(v.ro=true→cm P GL f xs v)) ∧
 (el xs=false→∃F,kK P GL f F∧F.np=xs.length∧gm P GL F.n F.body (dP xs) σ (λe ρ s=>(e=.normal∨e=.ret)∧∃v',fW F.fh ρ s=some v'∧v'=v∧s=σ'))
theorem pE.sm{cg:CG}(h:pE P GL cg){f:FuncId}{xs:List aa}{v:aa}{bs:List ab}(hc:cg f xs []=some (v,bs)):cE P GL f xs v bs:=((h f xs [] v bs hc).2.2.1 rfl).1
theorem pE.yU{cg:CG}(h:pE P GL cg){f:FuncId}{xs:List aa}{v:aa}{bs:List ab}(hc:cg f xs []=some (v,bs))(hv:v.ro=true):cm P GL f xs v:=((h f xs [] v bs hc).2.2.1 rfl).2 hv
theorem OK{f:FuncId}{xs:List aa}{σ σ':List ab}{v:aa}{F:s_}(gz:Xl P f=true)(h1:kK P GL f F)(h2:F.np=xs.length)(h3:gm P GL F.n F.body (dP xs) σ (λe ρ s=>(e=.normal∨e=.ret)∧∃v',fW F.fh ρ s=some v'∧v'=v∧s=σ')) :
  Xl P f=true∧(∀k ys,Ys k ys=some (f,xs)→mA P GL k ys σ (λv' s=>v'=v∧s=σ'))∧(σ=[]→cE P GL f xs v σ'∧(v.ro=true→cm P GL f xs v)) ∧
  (el xs=false→∃F,kK P GL f F∧F.np=xs.length∧gm P GL F.n F.body (dP xs) σ (λe ρ s=>(e=.normal∨e=.ret)∧∃v',fW F.fh ρ s=some v'∧v'=v∧s=σ')):=by
 refine⟨gz,λk ys hc=>Mg hc gz h1 h2.symm h3,λhσ=>?_,λ_=>⟨F,h1,h2,h3⟩⟩;subst hσ;refine⟨Ml h1 h2.symm (h3.mono λe ρ s k=>?_),λhv=>N2 h1 h2.symm hv (h3.mono λe ρ s k=>?_)⟩
 ·obtain⟨k1,v',k2,rfl,rfl⟩:=k;exact⟨k1,k2,rfl⟩
 ·obtain⟨k1,v',k2,rfl,rfl⟩:=k;exact⟨k1,k2⟩
mutual
theorem aa.jJ {n:Nat}:∀ {x:aa},Yx n x.ids=true→(x.bG (nj n)).ro=true→x.ro=true
 |.an b j,h,k=>by
  simp only[aa.ids,Yx,Bool.and_true] at h
  simp[aa.bG,nj,h,aa.ro] at k
 |.ptr b i j,h,k=>by
  simp only[aa.ids,Yx,Bool.and_true] at h
  simp[aa.bG,nj,h,aa.ro] at k
 |.sl b o l e,h,k=>by
  simp only[aa.ids,Yx,Bool.and_true] at h
  simp[aa.bG,nj,h,aa.ro] at k
 |.map b,h,k=>by
  simp only[aa.ids,Yx,Bool.and_true] at h
  simp[aa.bG,nj,h,aa.ro] at k
 |.iter b,h,k=>by
  simp only[aa.ids,Yx,Bool.and_true] at h
  simp[aa.bG,nj,h,aa.ro] at k
 |.func fn xs ys,h,k=>by
  simp only[aa.ids] at h
  obtain⟨a,b⟩:=ZS h
  simp only[aa.bG,aa.ro,Bool.and_eq_true] at k ⊢
  exact⟨QL a k.1,QL b k.2⟩
 |.iface t v,h,k=>aa.jJ (x:=v) h k
 |.agg cs,h,k=>QL (xs:=cs) h k
 |.aG cs,h,k=>QL (xs:=cs) h k
 |.when cs x,h,k=>aa.jJ (x:=x) h k
 |.aI,_,_=>rfl
 |.bool _,_,_=>rfl
 |.int _ _,_,_=>rfl
 |.str _,_,_=>rfl
 |.bQ,_,_=>rfl
 |.ay _ _,_,_=>rfl
 |.af,_,_=>rfl
 |.cj,_,_=>rfl
 |.ax _ _ _ _,_,_=>rfl
 |.dZ _,_,_=>rfl
 |.bD,_,_=>rfl
 |.ct,_,_=>rfl
 |.dX,_,_=>rfl
theorem QL {n:Nat}:∀ {xs:List aa},Yx n (jk xs)=true→el (fg (nj n) xs)=true→el xs=true
 |[],_,_=>rfl
 |x::xs,h,k=>by
  simp only[jk] at h
  obtain⟨a,b⟩:=ZS h
  simp only[fg,el,Bool.and_eq_true] at k ⊢
  exact⟨aa.jJ a k.1,QL b k.2⟩
end
theorem Uk{n:Nat}{xs:List aa}(h:Yx n (jk xs)=true)(k:el xs=false):el (fg (nj n) xs)=false:=by
 cases e:el (fg (nj n) xs) with
 |false=>rfl
 |true=>rw[QL h e] at k; cases k
theorem Ut{cg:CG}(h:pE P GL cg){k:MK}{xs:List aa}{σ:List ab}{v:aa}{rd:List Nat}{up:List (Nat×ab)}(e:JS cg k xs σ=.ok v rd up):aD P GL k xs (hp σ) v rd up:=by
 unfold JS at e;split at e
 ·cases e
 ·rename_i f ys hc;have eu:∀(bs:List ab) (i:Nat),i<bs.length→hp σ (σ.length+i)=none:=λbs i _=>by simp[hp]
  replace e:=XW e
  rcases e with ⟨jO,e⟩|⟨K6,e⟩
  ·split at e
   ·rename_i v' bs hv
    replace e:=XW e
    rcases e with ⟨FF,e⟩|⟨_,e⟩
    ·cases e; exact QE hc (h f ys [] _ _ hv).1 ((h.yU hv FF).here jO _)
    ·cases e; exact QE hc (h f ys [] _ _ hv).1 ((h.sm hv).here jO (eu bs))
   ·cases e
  ·split at e
   ·rename_i v' news hd;unfold N6 at hd;obtain⟨zL,hd⟩:=Qx hd;split at hd
    ·rename_i v2 σ' jy;split at hd
     ·rename_i RE o_;cases hd;obtain⟨Ia,_,_,hF⟩:=h f _ _ _ _ jy;obtain⟨F,f1,f2,f3⟩:=hF (Uk zL K6);have:=NR _ _ _ o_;subst this;have hw:gm P GL F.n F.body (dP (fg (nj σ.length) ys)) (YF σ) (λe ρ s=>(e=.normal∨e=.ret)∧fW F.fh ρ s=some v'∧s=YF σ++news):=f3.mono λe ρ s k=>by
       obtain⟨k1,v'',k2,rfl,rfl⟩:=k;exact⟨k1,k2,rfl⟩
      have hn:ys.length=F.np:=by rw[f2,Qy]
      replace e:=XW e
      rcases e with ⟨_,e⟩|⟨_,e⟩
      ·cases e;exact QE hc Ia (NZ f1 hn σ (jk ys) (Ju zL) (bs:=[]) (.inr rfl) hw)
      ·cases e;exact QE hc Ia (NZ f1 hn σ (jk ys) (Ju zL) (bs:=news) (.inl rfl) hw)
     ·cases hd
    ·cases hd
   split at e
   ·rename_i zs gA hb;split at e
    ·rename_i v' bs hv
     replace e:=XW e
     rcases e with ⟨FF,e⟩|⟨_,e⟩
     ·simp only[Bool.and_eq_true] at FF;cases e;exact QE hc (h f zs [] _ _ hv).1 ((h.yU hv FF.2).rn (X0 _ _ _ _ hb _ (λ_ q=>q)) FF.1)
     ·replace e:=Qm e
      obtain⟨K7,e⟩:=e;simp only[Bool.and_eq_true] at K7;cases e;exact QE hc (h f zs [] _ _ hv).1 ((h.sm hv).rn (X0 _ _ _ _ hb _ (λ_ q=>q)) K7.1 K7.2 (eu bs))
    ·cases e
   ·cases e
theorem MN{cg:CG}(h:pE P GL cg)(much:Nat)(r:aa×List ab):dC P GL (Cl much cg) (λo=>o=some r) where
 stop:=λe=>by cases e
 call:=λ{k xs σ K} e=>by
  simp only[Cl] at e;split at e
  ·rename_i f ys hc;split at e
   ·rename_i v σ' hv;obtain⟨_,h1,_⟩:=h f ys σ v σ' hv;refine⟨λv' s=>v'=v∧s=σ',h1 k xs hc,?_⟩;rintro _ _ ⟨rfl,rfl⟩;exact e
   ·cases e
  ·cases e
 aE:=λ{k xs σ K} e=>by
  simp only[Cl] at e;split at e
  ·rename_i v rd up hv;split at e
   ·rename_i σ' hu;exact⟨v,rd,up,σ',Ut h hv,hu,e⟩
   ·cases e
  ·cases e
 test:=λ{v a b} e=>by
  simp only[Cl,Gs] at e;split at e
  ·exact⟨true,rfl,λ_=>e,(λq=>by cases q)⟩
  ·exact⟨false,rfl,(λq=>by cases q),λ_=>e⟩
  ·cases e
 loop:=λ{F vs σ} e=>⟨much,e⟩
def tX(much:Nat)(G:Nat→Option (Nat×aq)):Nat→CG
 |0,_,_,_=>none
 |d+1,f,xs,σ=>match G f with
  |some (np,g)=>bif Nat.beq xs.length np then g (Cl much (tX much G d)) xs σ (λv σ=>some (v,σ)) else none
  |none=>none
theorem Nl(hP:P.follows .mixedOrders=true){much:Nat}{G:Nat→Option (Nat×aq)}(hG:∀f np g,G f=some (np,g)→iV P GL f np g):∀d,pE P GL (tX much G d)
 |0=>λf xs σ v σ' h=>by cases h
 |d+1=>λf xs σ v σ' h=>by
  unfold tX at h;split at h
  ·rename_i np g hg;obtain⟨hn,h⟩:=Qx h;have iB:=eZ hn;obtain⟨F,h1,h2,h3⟩:=(hG f np g hg).x9 hP (MN (Nl hP hG d) much (v,σ')) iB h;refine OK (hG f np g hg).plain h1 (h2.trans iB.symm) (h3.mono λe ρ s k=>?_);obtain⟨k1,v',k2,k3⟩:=k;simp only[Option.some.injEq,Prod.mk.injEq] at k3;exact⟨k1,v',k2,k3.1,k3.2⟩
  ·cases h
end
theorem GP{P:Program}{GL:aA}(hP:P.follows .mixedOrders=true){much:Nat}{G:Nat→Option (Nat×aq)}(hG:∀f np g,G f=some (np,g)→iV P GL f np g)(d:Nat){f:FuncId}{xs:List aa}{y:aa}(h:((tX much G d f xs []).bind λp=>zu p.2 p.1)=some y):cm P GL f xs y:=by
 cases hc:tX much G d f xs [] with
 |none=>rw[hc] at h; cases h
 |some p=>
  obtain⟨v,bs⟩:=p;rw[hc] at h;exact XZ ((Nl hP hG d).sm hc) h
mutual
def Kk:aa→aa→Bool
 |.aI,.aI=>true
 |.bool a,.bool b=>a==b
 |.int k a,.int k' b=>gK k k'&&a==b
 |.str a,.str b=>a==b
 |.bQ,.bQ=>true
 |.af,.af=>true
 |.cj,.cj=>true
 |.ax e n s r,.ax e' n' s' r'=>(e==e'&&n==n')&&(Nat.beq s s'&&HT r r')
 |.agg a,.agg b=>Dd a b
 |.bD,.bD=>true
 |.ct,.ct=>true
 |.dX,.dX=>true
 |_,_=>false
def Dd:List aa→List aa→Bool
 |[],[]=>true
 |x::xs,y::ys=>Kk x y&&Dd xs ys
 |_,_=>false
def HT:List (List aa)→List (List aa)→Bool
 |[],[]=>true
 |x::xs,y::ys=>Dd x y&&HT xs ys
 |_,_=>false
end
mutual
theorem TN:∀ {x y:aa},Kk x y=true→x=y:=by
 intro x y h
 cases x<;>cases y<;>simp only[Kk,Bool.false_eq_true,Bool.and_eq_true] at h<;>first
  |rfl
  |(rw[eq_of_beq h])
  |(rw[eq_of_beq h.2,Q4 h.1])
  |(rw[eq_of_beq h.1.1,eq_of_beq h.1.2,eZ h.2.1,NF h.2.2])
  |(rw[G2 h])
theorem G2:∀ {x y:List aa},Dd x y=true→x=y:=by
 intro x y h
 cases x<;>cases y<;>simp only[Dd,Bool.false_eq_true,Bool.and_eq_true] at h<;>first
  |rfl
  |(rw[TN h.1,G2 h.2])
theorem NF:∀ {x y:List (List aa)},HT x y=true→x=y:=by
 intro x y h
 cases x<;>cases y<;>simp only[HT,Bool.false_eq_true,Bool.and_eq_true] at h<;>first
  |rfl
  |(rw[G2 h.1,NF h.2])
end
abbrev my:=List (FuncId×List aa×aa)
def Hf(f:FuncId)(xs:List aa):my→Option aa
 |[]=>none
 |(g,ys,v)::r=>match Nat.beq f g&&Dd xs ys with
  |true=>some v
  |false=>Hf f xs r
def tB(P:Program)(GL:aA):my→Prop
 |[]=>True
 |(f,xs,v)::r=>((Xl P f=true∧el xs=true∧v.ro=true)∧cm P GL f xs v)∧tB P GL r
section
variable {P:Program} {GL:aA}
theorem Mz{f:FuncId}{xs:List aa}{v:aa}:∀ {kn:my},tB P GL kn→Hf f xs kn=some v→Xl P f=true∧el xs=true∧v.ro=true∧cm P GL f xs v
 |[],_,h=>by cases h
 |(g,ys,u)::r,ok,h=>by
  unfold Hf at h;split at h
  ·rename_i hb;simp only[Bool.and_eq_true] at hb;have h1:=eZ hb.1;have h2:=G2 hb.2;subst h1; subst h2;cases h;exact⟨ok.1.1.1,ok.1.1.2.1,ok.1.1.2.2,ok.1.2⟩
  ·exact Mz ok.2 h
theorem Ta{f:FuncId}{xs:List aa}{v:aa}(h:cm P GL f xs v):cE P GL f xs v []:=by
 intro w M vs hM hg hx;refine(h w M vs hM hg hx).mono ?_;rintro e w' ⟨u,he,k,M',hle,dM,ji,hd⟩;refine⟨u,he,⟨M',aV⟩,hle,?_,hd⟩;exact {
  keeps:=k
  aJ:=dM
  src:=λb o e=>by
   rcases ji b o e with q|q
   ·exact .inl q
   ·exact .inr (.inl q)
  bz:=λp gz=>(hg p gz).mono hle (eF.refl _)
  dc:=λ_ _=>rfl
  ig:=λb blk e=>by simp[hp] at e
  own:=λb blk cb e=>by simp[hp] at e
  aN:=λb blk cb e=>by simp[hp] at e
  inj:=λb b' blk blk' cb cV e=>by simp[hp] at e }
def tW(much:Nat)(G:Nat→Option (Nat×aq))(kn:my):Nat→CG
 |0,_,_,_=>none
 |d+1,f,xs,σ=>match Hf f xs kn with
  |some v=>some (v,σ)
  |none=>match G f with
   |some (np,g)=>bif Nat.beq xs.length np then g (Cl much (tW much G kn d)) xs σ (λv σ=>some (v,σ)) else none
   |none=>none
theorem Od(hP:P.follows .mixedOrders=true){much:Nat}{G:Nat→Option (Nat×aq)}(hG:∀f np g,G f=some (np,g)→iV P GL f np g){kn:my}(hk:tB P GL kn):∀d,pE P GL (tW much G kn d)
 |0=>λf xs σ v σ' h=>by cases h
 |d+1=>λf xs σ v σ' h=>by
  unfold tW at h;split at h
  ·rename_i v0 hv;cases h;obtain⟨h1,h2,h3,h4⟩:=Mz hk hv;refine⟨h1,λk ys hc=>Mm (QE hc h1 (h4.here h2 (hp σ))) (Yl σ),λhσ=>?_,λjO=>by rw[h2] at jO; cases jO⟩;subst hσ;exact⟨Ta h4,λ_=>h4⟩
  split at h
  ·rename_i np g hg;obtain⟨hn,h⟩:=Qx h;have iB:=eZ hn;obtain⟨F,h1,h2,h3⟩:=(hG f np g hg).x9 hP (MN (Od hP hG hk d) much (v,σ')) iB h;refine OK (hG f np g hg).plain h1 (h2.trans iB.symm) (h3.mono λe ρ s k=>?_);obtain⟨k1,v',k2,k3⟩:=k;simp only[Option.some.injEq,Prod.mk.injEq] at k3;exact⟨k1,v',k2,k3.1,k3.2⟩
  ·cases h
theorem Hv(hP:P.follows .mixedOrders=true){much:Nat}{G:Nat→Option (Nat×aq)}(hG:∀f np g,G f=some (np,g)→iV P GL f np g){kn:my}(hk:tB P GL kn)(d:Nat){f:FuncId}{xs:List aa}{y:aa}(h:((tW much G kn d f xs []).bind λp=>zu p.2 p.1)=some y):cm P GL f xs y:=by
 cases hc:tW much G kn d f xs [] with
 |none=>rw[hc] at h; cases h
 |some p=>
  obtain⟨v,bs⟩:=p;rw[hc] at h;exact XZ ((Od hP hG hk d).sm hc) h
end
end Go.Ah
end
section
namespace Go.Ah
@[reducible] def h0(v:List aa):aa:=pC v
@[reducible] def h1(v:List aa):aa:=pC (gO v)
@[reducible] def h2(v:List aa):aa:=pC (gO (gO v))
@[reducible] def h3(v:List aa):aa:=pC (gO (gO (gO v)))
@[reducible] def h4(v:List aa):aa:=pC (gO (gO (gO (gO v))))
@[reducible] def h5(v:List aa):aa:=pC (gO (gO (gO (gO (gO v)))))
@[reducible] def h6(v:List aa):aa:=pC (gO (gO (gO (gO (gO (gO v))))))
@[reducible] def h7(v:List aa):aa:=pC (gO (gO (gO (gO (gO (gO (gO v)))))))
@[reducible] def h8(v:List aa):aa:=h7 (gO v)
@[reducible] def h9(v:List aa):aa:=h8 (gO v)
@[reducible] def h10(v:List aa):aa:=h9 (gO v)
@[reducible] def h11(v:List aa):aa:=h10 (gO v)
@[reducible] def h12(v:List aa):aa:=h11 (gO v)
section
variable {P:Program} {GL:aA} {f:FuncId} {l:List (Option (List Nat))} {g:aq}
abbrev pF(P:Program)(GL:aA)(np:Nat)(f:FuncId)(l:List (Option (List Nat)))(g:aq)(xs:List aa):Prop:=
 ∀(α:Type) (A:al α) (σ:List ab) (ret:aa→List ab→α),g A xs σ ret=vO A ((dT P GL np f l).getD default) xs σ ret
theorem XX{np:Nat}(h:(dT P GL np f l).isSome=true)(hg:∀(xs:List aa),xs.length=np→pF P GL np f l g xs):iV P GL f np g:=by
 cases hD:dT P GL np f l with
 |none=>rw[hD] at h; cases h
 |some D=>
  refine Ss hD (λα A xs σ ret hn=>?_);have:=hg xs hn α A σ ret
  rwa [hD] at this
theorem Kl(h:(dT P GL 0 f l).isSome=true)(hg:pF P GL 0 f l g []):iV P GL f 0 g:=XX h λxs hn=>by
 cases xs with
 |nil=>exact hg
 |cons x xs=>simp at hn
theorem Km(h:(dT P GL 1 f l).isSome=true)(hg:∀x0,pF P GL 1 f l g [x0]):iV P GL f 1 g:=XX h λxs hn=>by
 match xs,hn with
 |[x0],_=>exact hg x0
theorem Kn(h:(dT P GL 2 f l).isSome=true)(hg:∀x0 x1,pF P GL 2 f l g [x0,x1]):iV P GL f 2 g:=XX h λxs hn=>by
 match xs,hn with
 |[x0,x1],_=>exact hg x0 x1
theorem Ko(h:(dT P GL 3 f l).isSome=true)(hg:∀x0 x1 x2,pF P GL 3 f l g [x0,x1,x2]):iV P GL f 3 g:=XX h λxs hn=>by
 match xs,hn with
 |[x0,x1,x2],_=>exact hg x0 x1 x2
theorem Kq(h:(dT P GL 4 f l).isSome=true)(hg:∀x0 x1 x2 x3,pF P GL 4 f l g [x0,x1,x2,x3]):iV P GL f 4 g:=XX h λxs hn=>by
 match xs,hn with
 |[x0,x1,x2,x3],_=>exact hg x0 x1 x2 x3
theorem Kr(h:(dT P GL 5 f l).isSome=true)(hg:∀x0 x1 x2 x3 x4,pF P GL 5 f l g [x0,x1,x2,x3,x4]):iV P GL f 5 g:=XX h λxs hn=>by
 match xs,hn with
 |[x0,x1,x2,x3,x4],_=>exact hg x0 x1 x2 x3 x4
theorem Ks(h:(dT P GL 6 f l).isSome=true)(hg:∀x0 x1 x2 x3 x4 x5,pF P GL 6 f l g [x0,x1,x2,x3,x4,x5]):iV P GL f 6 g:=XX h λxs hn=>by
 match xs,hn with
 |[x0,x1,x2,x3,x4,x5],_=>exact hg x0 x1 x2 x3 x4 x5
theorem Kt(h:(dT P GL 7 f l).isSome=true)(hg:∀x0 x1 x2 x3 x4 x5 x6,pF P GL 7 f l g [x0,x1,x2,x3,x4,x5,x6]):iV P GL f 7 g:=XX h λxs hn=>by
 match xs,hn with
 |[x0,x1,x2,x3,x4,x5,x6],_=>exact hg x0 x1 x2 x3 x4 x5 x6
end
def qw:List aa:=(List.range 256).map λi=>aa.int .u8 (match (Nat.ble 9 i&&Nat.ble i 13)||Nat.beq i 32 with|true=>1|false=>0)
def rH:aA:=[(0,qw)]
end Go.Ah
namespace Go.Ah
theorem vr{P:Program}{GL:aA}{f:FuncId}{g:aq}(l:List (Option (List Nat)))(hg:pF P GL 0 f l g [])(h:(dT P GL 0 f l).isSome=true:=by kernel_rfl):iV P GL f 0 g:=Kl h hg
theorem cU{P:Program}{GL:aA}{f:FuncId}{g:aq}(l:List (Option (List Nat)))(hg:∀x0,pF P GL 1 f l g [x0])(h:(dT P GL 1 f l).isSome=true:=by kernel_rfl):iV P GL f 1 g:=Km h hg
theorem dR{P:Program}{GL:aA}{f:FuncId}{g:aq}(l:List (Option (List Nat)))(hg:∀x0 x1,pF P GL 2 f l g [x0,x1])(h:(dT P GL 2 f l).isSome=true:=by kernel_rfl):iV P GL f 2 g:=Kn h hg
theorem jN{P:Program}{GL:aA}{f:FuncId}{g:aq}(l:List (Option (List Nat)))(hg:∀x0 x1 x2,pF P GL 3 f l g [x0,x1,x2])(h:(dT P GL 3 f l).isSome=true:=by kernel_rfl):iV P GL f 3 g:=Ko h hg
theorem vt{P:Program}{GL:aA}{f:FuncId}{g:aq}(l:List (Option (List Nat)))(hg:∀x0 x1 x2 x3,pF P GL 4 f l g [x0,x1,x2,x3])(h:(dT P GL 4 f l).isSome=true:=by kernel_rfl):iV P GL f 4 g:=Kq h hg
theorem Ku{P:Program}{GL:aA}{f:FuncId}{g:aq}(l:List (Option (List Nat)))(hg:∀x0 x1 x2 x3 x4,pF P GL 5 f l g [x0,x1,x2,x3,x4])(h:(dT P GL 5 f l).isSome=true:=by kernel_rfl):iV P GL f 5 g:=Kr h hg
theorem PK{P:Program}{GL:aA}{f:FuncId}{g:aq}(l:List (Option (List Nat)))(hg:∀x0 x1 x2 x3 x4 x5,pF P GL 6 f l g [x0,x1,x2,x3,x4,x5])(h:(dT P GL 6 f l).isSome=true:=by kernel_rfl):iV P GL f 6 g:=Ks h hg
theorem PL{P:Program}{GL:aA}{f:FuncId}{g:aq}(l:List (Option (List Nat)))(hg:∀x0 x1 x2 x3 x4 x5 x6,pF P GL 7 f l g [x0,x1,x2,x3,x4,x5,x6])(h:(dT P GL 7 f l).isSome=true:=by kernel_rfl):iV P GL f 7 g:=Kt h hg
abbrev jv(n:Int):aa:=.int .i64 n
abbrev Xf:=Zd false 1
@[simp] abbrev al.zG{α:Type}(A:al α)(c:aa)(r:az)(K:aa→α):α:=A.gr c false (λk=>A.rd r k) K
@[simp] abbrev al.th{α:Type}(A:al α)(c:aa)(r:az)(K:aa→α):α:=A.gr c true (λk=>A.rd r k) K
@[simp] abbrev al.a{α:Type}(A:al α)(x:aa)(σ:List ab)(K:aa→α):α:=A.rd (Zd false 1 [x] σ) K
@[simp] abbrev al.c{α:Type}(A:al α)(x y z:aa)(σ:List ab)(K:aa→α):α:=A.rd (Xo [x,y,z] σ) K
@[simp] abbrev al.b{α:Type}(A:al α)(o:BinOp)(x y:aa)(σ:List ab)(K:aa→α):α:=A.rd (Yj o false [x,y] σ) K
@[simp] abbrev al.r{α:Type}(A:al α)(F:List aa→List ab→az)(x:aa)(σ:List ab)(K:aa→α):α:=A.rd (F [x] σ) K
@[simp] abbrev al.s{α:Type}(A:al α)(F:List aa→List ab→az)(x y:aa)(σ:List ab)(K:aa→α):α:=A.rd (F [x,y] σ) K
@[simp] abbrev al.fa{α:Type}(A:al α)(c:aa)(x:aa)(σ:List ab)(K:aa→α):α:=A.zG c (Zd false 1 [x] σ) K
@[simp] abbrev al.fc{α:Type}(A:al α)(c:aa)(x y z:aa)(σ:List ab)(K:aa→α):α:=A.zG c (Xo [x,y,z] σ) K
@[simp] abbrev al.fb{α:Type}(A:al α)(c:aa)(o:BinOp)(x y:aa)(σ:List ab)(K:aa→α):α:=A.zG c (Yj o false [x,y] σ) K
@[simp] abbrev al.fr{α:Type}(A:al α)(c:aa)(F:List aa→List ab→az)(x:aa)(σ:List ab)(K:aa→α):α:=A.zG c (F [x] σ) K
@[simp] abbrev al.fs{α:Type}(A:al α)(c:aa)(F:List aa→List ab→az)(x y:aa)(σ:List ab)(K:aa→α):α:=A.zG c (F [x,y] σ) K
@[simp] abbrev al.ta{α:Type}(A:al α)(c:aa)(x:aa)(σ:List ab)(K:aa→α):α:=A.th c (Zd false 1 [x] σ) K
@[simp] abbrev al.tc{α:Type}(A:al α)(c:aa)(x y z:aa)(σ:List ab)(K:aa→α):α:=A.th c (Xo [x,y,z] σ) K
@[simp] abbrev al.tb{α:Type}(A:al α)(c:aa)(o:BinOp)(x y:aa)(σ:List ab)(K:aa→α):α:=A.th c (Yj o false [x,y] σ) K
@[simp] abbrev al.tr{α:Type}(A:al α)(c:aa)(F:List aa→List ab→az)(x:aa)(σ:List ab)(K:aa→α):α:=A.th c (F [x] σ) K
@[simp] abbrev al.ts{α:Type}(A:al α)(c:aa)(F:List aa→List ab→az)(x y:aa)(σ:List ab)(K:aa→α):α:=A.th c (F [x,y] σ) K
@[simp] abbrev al.w1{α:Type}(A:al α)(F:List aa→List ab→az)(x:aa)(σ:List ab)(K:aa→List ab→α):α:=A.wr (F [x] σ) σ K
@[simp] abbrev al.ws{α:Type}(A:al α)(F:List aa→List ab→az)(x y:aa)(σ:List ab)(K:aa→List ab→α):α:=A.wr (F [x,y] σ) σ K
@[simp] abbrev al.k{α:Type}(A:al α)(n:FuncId)(xs:List aa)(σ:List ab)(K:aa→List ab→α):α:=A.call (.call n) xs σ K
abbrev dQ:List aa:=[(.int .i64 0),(.int .i64 0),(.int .i8 0),(.bool false),(.int .i8 0),.af,(.int .i64 0),(.int .i64 0),(.int .i64 0),(.int .i64 0),.af,.af,.af,.af,.af,(.int .i64 0),(.int .i64 0),(.int .i64 0),.af,.af,.af,.af,.af]
abbrev gB:List aa:=[(.int .i8 0),(.int .i64 0),(.int .i64 0),(.int .i64 0),(.int .i64 0),(.int .i64 0),.af]
abbrev mw:List aa:=[(.int .i8 0),(.int .i64 0),(.int .i8 0),.af]
abbrev rG:List aa:=[(.int .i64 0),(.int .i64 0),(.int .i64 0),(.bool false)]
abbrev vz:List aa:=[(.int .i64 0),(.int .i64 0),(.int .i64 0),.af,.af,.af,.af,.af]
abbrev GI:List aa:=[(.int .i64 0),(.int .i64 0),(.bool false)]
abbrev Il:List aa:=[(.int .i8 0),(.int .i8 0),(.int .i8 0),(.int .i8 0)]
end Go.Ah
end
section
namespace Go.Ah
inductive GT:Type 1 where
 |leaf
 |node (k np:Nat) (g:aq) (l r:GT)
def GT.get:GT→Nat→Option (Nat×aq)
 |.leaf,_=>none
 |.node k np g l r,f=>match Nat.beq f k with
  |true=>some (np,g)
  |false=>match Nat.blt f k with
   |true=>l.get f
   |false=>r.get f
def GT.Ok(P:Program)(GL:aA):GT→Prop
 |.leaf=>True
 |.node k np g l r=>iV P GL k np g∧l.Ok P GL∧r.Ok P GL
theorem GT.oS{P:Program}{GL:aA}:∀ {t:GT},t.Ok P GL→∀f np g,t.get f=some (np,g)→iV P GL f np g
 |.leaf,_,f,np,g,h=>by simp only[GT.get] at h; cases h
 |.node k np' g' l r,ok,f,np,g,h=>by
  unfold GT.get at h;obtain⟨o1,o2,o3⟩:=ok;split at h
  ·rename_i hb;have:=eZ hb;subst this;cases h;exact o1
  ·split at h
   ·exact GT.oS o2 f np g h
   ·exact GT.oS o3 f np g h
end Go.Ah
end
section
namespace Go.Ah
section
variable (σ:List ab)
attribute [simp] xZ td FU DD Ps GU SI pC gO
@[simp] theorem G4(P:Program)(GL:aA):(W P GL).stop=False:=rfl
@[simp] theorem Qc8{α:Type}(f:(List aa→List ab→α)→α)(k:List aa→List ab→α):au f k=f k:=rfl
@[simp] theorem HV{α:Type}(A:al α)(b w:Bool)(r:α)(s:List (Bool×Bool)→α):A.gx (.bool b) w r s=A.test (.bool b) (bif w then r else s [(true,w)]) (bif w then s [(false,w)] else r):=rfl
@[simp] theorem PM{α:Type}(A:al α)(c:aa)(w:Bool)(r:(aa→α)→α)(K:aa→α):A.gr c w r K=A.gx c w (r K) (λcs=>K (sA cs)):=rfl
@[simp] theorem PN{α:Type}(A:al α)(c:aa)(w:Bool)(r:(aa→List ab→α)→α)(σ:List ab)(K:aa→List ab→α):A.gw c w r σ K=A.gx c w (r K) (λcs=>K (sA cs) σ):=rfl
@[simp] theorem PJ{α:Type}(A:al α)(c:aa)(w:Bool)(r:(aa→List Nat×List Nat→List ab→α)→α)(σ:List ab)(K:aa→List Nat×List Nat→List ab→α):A.gl c w r σ K=A.gx c w (r K) (λcs=>K (sA cs) ([],[]) σ):=rfl
@[simp] theorem HW{α:Type}(A:al α)(cs:List (Bool×Bool))(q w:Bool)(r:α)(s:List (Bool×Bool)→α):A.gx (.when cs (.bool q)) w r s=match vo.ew cs with
  |true=>s (cs++[(q,w)])
  |false=>A.stop:=rfl
attribute [simp] vo.ew
@[simp] theorem Wy(x:aa):Qi [x] σ=.ok x [] []:=rfl
@[simp] theorem Ki(b:Bool)(x y:aa):Xo [.bool b,x,y] σ=.ok (bif b then x else y) [] []:=by cases b<;>rfl
@[simp] theorem Yh(e n:Bool)(s:Nat)(rows:List (List aa)):Yf [.ax e n s rows] σ=.ok (.int .i64 rows.length) [] []:=rfl
@[simp] theorem XcO:Yf [.af] σ=.ok (.int .i64 0) [] []:=rfl
@[simp] theorem YcO:Yf [.cj] σ=.ok (.int .i64 0) [] []:=rfl
@[simp] theorem QcZ(b o n:Nat)(e:Bool):Yf [.sl b o n e] σ=.ok (.int .i64 n) [] []:=rfl
@[simp] theorem Xc8(s:List UInt8):Qs [.str s] σ=.ok (.int .i64 s.length) [] []:=rfl
@[simp] theorem Kg(n:Nat)(x:aa):Jf n [x] σ=.ok (.int .i64 n) [] []:=rfl
@[simp] theorem Yc2(k:IntKind):gK k k=true:=by cases k<;>rfl
section
variable (ib:Bool) (k:IntKind) (a b:Int)
@[simp] theorem Xk:Yj .add ib [.int k a,.int k b] σ=.ok (.int k (k.wrap (a+b))) [] []:=by simp[Yj,lq]
@[simp] theorem sG:Yj .sub ib [.int k a,.int k b] σ=.ok (.int k (k.wrap (a-b))) [] []:=by simp[Yj,lq]
@[simp] theorem Qf:Yj .eql ib [.int k a,.int k b] σ=.ok (.bool (decide (a=b))) [] []:=by
 simp[Yj,lq]; exact Bool.eq_iff_iff.2 (by simp)
@[simp] theorem XN:Yj .neq ib [.int k a,.int k b] σ=.ok (.bool (decide (a≠b))) [] []:=by
 simp[Yj,lq]; exact Bool.eq_iff_iff.2 (by simp)
@[simp] theorem Qv:Yj .lss ib [.int k a,.int k b] σ=.ok (.bool (decide (a<b))) [] []:=by simp[Yj,lq]
@[simp] theorem DS:Yj .leq ib [.int k a,.int k b] σ=.ok (.bool (decide (a≤b))) [] []:=by simp[Yj,lq]
@[simp] theorem ZZ:Yj .gtr ib [.int k a,.int k b] σ=.ok (.bool (decide (b<a))) [] []:=by simp[Yj,lq]
@[simp] theorem sE:Yj .geq ib [.int k a,.int k b] σ=.ok (.bool (decide (b≤a))) [] []:=by simp[Yj,lq]
end
@[simp] theorem Xg(ib:Bool)(a b:List UInt8):Yj .eql ib [.str a,.str b] σ=.ok (.bool (a==b)) [] []:=rfl
@[simp] theorem Kh(ib:Bool)(a b:List UInt8):Yj .neq ib [.str a,.str b] σ=.ok (.bool (!(a==b))) [] []:=rfl
@[simp] theorem Kc(a b:Bool):Yj .eql true [.bool a,.bool b] σ=.ok (.bool (a==b)) [] []:=rfl
@[simp] theorem UW(a b:Bool):Yj .neq true [.bool a,.bool b] σ=.ok (.bool (!(a==b))) [] []:=rfl
@[simp] theorem PG(b:Bool):Xp .not [.bool b] σ=.ok (.bool (!b)) [] []:=rfl
@[simp] theorem PF(k:IntKind)(n:Int):Xp .neg [.int k n] σ=.ok (.int k (k.wrap (0-n))) [] []:=rfl
@[simp] theorem Ow(k k':IntKind)(n:Int):ZJ k [.int k' n] σ=.ok (.int k (k.wrap n)) [] []:=rfl
@[simp] theorem Zc0(t:TypeId)(x:aa):YC t [x] σ=.ok (.iface t x) [] []:=rfl
@[simp] theorem Hd(fn:Fn)(xs:List aa):Qp fn 0 xs σ=.ok (.func fn [] xs) [] []:=by
 simp[Qp,takeN,fm]
@[simp] theorem ZK(k k':IntKind)(a b:Int):YJ [.int k a,.int k' b] σ=.ok (.int k (min a b)) [] []:=by
 simp only[YJ]; congr 2; omega
@[simp] theorem vn(k k':IntKind)(a b:Int):tI [.int k a,.int k' b] σ=.ok (.int k (max a b)) [] []:=by
 simp only[tI]; congr 2; omega
@[simp] theorem HO(b j:Nat):Qa [.an b j] σ=.ok (.an b j) [] []:=rfl
@[simp] theorem HQ(b i j:Nat):Qa [.ptr b i j] σ=.ok (.ptr b i j) [] []:=rfl
@[simp] theorem HR(row:List aa)(j:Nat):Qa [.ay row j] σ=.ok (.ay row j) [] []:=rfl
@[simp] theorem HP(f:FuncId)(a b:List aa):Qa [.func (.func f) a b] σ=.ok (.func (.func f) a b) [] []:=rfl
@[simp] theorem Kd(o b j:Nat):Ya o [.an b j] σ=.ok (.an b (j+o)) [] []:=rfl
@[simp] theorem Ke(o b i j:Nat):Ya o [.ptr b i j] σ=.ok (.ptr b i (j+o)) [] []:=rfl
@[simp] theorem Kf(o:Nat)(row:List aa)(j:Nat):Ya o [.ay row j] σ=.ok (.ay row (j+o)) [] []:=rfl
@[simp] theorem HN(agg:Bool)(o n:Nat)(cs:List aa):DG agg o n [.agg cs] σ=(match aF agg o n cs with
   |some v=>.ok v [] []
   | none=>.stop):=rfl
attribute [simp] aF takeN fm nth
@[simp] theorem YcZ(i:Nat)(vs:List aa):Xc i [.aG vs] σ=(match nth vs i with
   |some v=>.ok v [] []
   | none=>.stop):=rfl
@[simp] theorem Zc8(len k_ b j:Nat)(k:IntKind)(i:Nat):Yg len k_ [.an b j,.int k (@OfNat.ofNat Int i _)] σ=bif Nat.blt i len then .ok (.an b (j+i*k_)) [] [] else .stop:=rfl
@[simp] theorem Yc8(len k_:Nat)(row:List aa)(j:Nat)(k:IntKind)(i:Nat):Yg len k_ [.ay row j,.int k (@OfNat.ofNat Int i _)] σ=bif Nat.blt i len then .ok (.ay row (j+i*k_)) [] [] else .stop:=rfl
theorem NK(e n:Bool)(s:Nat)(rows:List (List aa))(k:IntKind)(i:Nat)(row:List aa)(h:rows[i]?=some row):Yb s [.ax e n s rows,.int k (i:Int)] σ=.ok (.ay row 0) [] []:=by
 show (bif Nat.beq s s then (match nth rows i with
   |some row=>az.ok (.ay row 0) [] []
   | none=>.stop) else .stop)=_
 rw[Nat.beq_refl,QU,h]; rfl
theorem Zp{α:Type}(f:α→List aa)(e n:Bool)(s:Nat)(l:List α)(k:IntKind)(i:Nat)(h:i<l.length):Yb s [.ax e n s (l.map f),.int k (i:Int)] σ=.ok (.ay (f l[i]) 0) [] []:=
 NK σ e n s _ k i _ (by simp[h])
theorem vK(b o len:Nat)(ex:Bool)(s:Nat)(rows:List (List aa))(k:IntKind)(i:Nat)(h:i<len)(hb:ah σ b=.rows s rows):Yb s [.sl b o len ex,.int k (i:Int)] σ=.ok (.ptr b (o+i) 0) [b] []:=by
 show (bif Nat.blt i len then (match ah σ b with
   |.rows s' _=>bif Nat.beq s' s then az.ok (.ptr b (o+i) 0) [b] [] else .stop
   | _=>.stop) else .stop)=_
 rw[show Nat.blt i len=true from Nat.ble_eq_true_of_le h,hb];simp
theorem OW(s:List UInt8)(k:IntKind)(i:Nat)(h:i<s.length):Xx [.str s,.int k (i:Int)] σ=.ok (.int .u8 s[i].toNat) [] []:=by
 show (match nth s i with
   |some c=>az.ok (.int .u8 c.toNat) [] []
   | none=>.stop)=_
 rw[QU,List.getElem?_eq_getElem h]
@[simp] theorem G8(agg:Bool)(n:Nat)(row:List aa)(j:Nat):Zd agg n [.ay row j] σ=(match aF agg j n row with
   |some v=>.ok v [] []
   | none=>.stop):=rfl
@[simp] theorem Ue(agg:Bool)(n b j:Nat):Zd agg n [.an b j] σ=(match ah σ b with
   |.box row=>match aF agg j n row with
    |some v=>.ok v [b] []
    |none=>.stop
   | _=>.stop):=rfl
attribute [simp] ah gy Yz bR cellsOf aa.cell
@[simp] theorem SG(z:List aa):Xe z [] σ=.ok (.an σ.length 0) [] [(σ.length,.box z)]:=rfl
@[simp] theorem Ez(x:aa):Zm [x] σ=(match cellsOf x with
   |some cs=>.ok (.an σ.length 0) [] [(σ.length,.box cs)]
   | none=>.stop):=rfl
@[simp] theorem Tf(n b j:Nat)(x:aa):Xb n [.an b j,x] σ=(match ah σ b with
   |.box row=>match cellsOf x with
    | some cs=>bif Nat.beq cs.length n then (match bR j cs row with
     |some row'=>.ok .aI [] [(b,.box row')]
     | none=>.stop) else .stop
    |none=>.stop
   | _=>.stop):=rfl
end
end Go.Ah
end
section
namespace Go.Ah
structure xW (σ σ2:List ab) (m:Nat→Option Nat):Prop where
 inj:∀b b' k,m b=some k→m b'=some k→b=b'
 RA:∀b k,m b=some k→∃blk,σ[b]?=some blk∧σ2[k]?=some (blk.dk (aa.bG m))
 tg:∀k,k<σ2.length→∃b,m b=some k
theorem a_.FY{GL:aA}{w0:World}{L:Ln}{g:Gm}{w:World}{σ σ2:List ab}{m:Nat→Option Nat}(r:a_ GL w0 L g (hp σ) w)(ok:xW σ σ2 m) :
  ∃c2,(∀x v,g.den x v→Den g.M c2 (x.bG m) v)∧a_ GL w0 L ⟨g.M,c2⟩ (hp σ2) w:=by
 classical
 let c2:Own:=λk=>if h:∃b,m b=some k then g.c (Classical.choose h) else none
 have jy:∀b k,m b=some k→c2 k=g.c b:=by
  intro b k e;have h:∃b,m b=some k:=⟨b,e⟩;show (if h:∃b,m b=some k then g.c (Classical.choose h) else none)=_;rw[dif_pos h,ok.inj _ _ _ (Classical.choose_spec h) e]
 have bY:∀x v,g.den x v→Den g.M c2 (x.bG m) v:=λx v d=>Den.bG d λb b' cb e1 e2=>by rw[jy b b' e1]; exact e2
 have back:∀k blk,hp σ2 k=some blk→∃b eO,m b=some k∧hp σ b=some eO∧blk=eO.dk (aa.bG m):=by
  intro k blk e;have hk:k<σ2.length:=(cJ e).1;obtain⟨b,hb⟩:=ok.tg k hk;obtain⟨eO,e1,e2⟩:=ok.RA b k hb;refine⟨b,eO,hb,e1,?_⟩;have e':σ2[k]?=some blk:=e;rw[e2] at e';exact(Option.some.inj e').symm
 refine⟨c2,bY,?_⟩;exact {
  keeps:=r.keeps
  aJ:=r.aJ
  src:=r.src
  bz:=r.bz
  dc:=λk e=>by
   show (if h:∃b,m b=some k then g.c (Classical.choose h) else none)=none;rw[dif_neg];rintro⟨b,hb⟩;obtain⟨eO,e1,e2⟩:=ok.RA b k hb;have e':σ2[k]?=none:=e;rw[e2] at e'; cases e'
  ig:=λk blk e=>by
   obtain⟨b,eO,h1,h2,_⟩:=back k blk e;obtain⟨cb,qV⟩:=r.ig b eO h2;exact⟨cb,by show c2 k=_; rw[jy b k h1]; exact qV⟩
  own:=λk blk cb e hl ec hv=>by
   obtain⟨b,eO,h1,h2,rfl⟩:=back k blk e;rw[ab.bp] at hl;have fo:g.c b=some cb:=by rw[←jy b k h1]; exact ec
   obtain⟨q1,q2,o,q3,q4⟩:=r.own b eO cb h2 hl fo hv;exact⟨q1,q2,o,q3,q4.dk (p:=λ_=>True) (λx v _ d=>bY x v d) (ab.all_true _)⟩
  aN:=λk blk cb e hl ec hv=>by
   obtain⟨b,eO,h1,h2,rfl⟩:=back k blk e;rw[ab.bp] at hl;have fo:g.c b=some cb:=by rw[←jy b k h1]; exact ec
   have:=r.aN b eO cb h2 hl fo hv;subst this;rfl
  inj:=λk k' x x' nK nw e1 e2 l1 l2 c1 pt v1 v2 gu=>by
   obtain⟨b,y,h1,h2,rfl⟩:=back k x e1;obtain⟨b',y',yt,HX,rfl⟩:=back k' x' e2;rw[ab.bp] at l1 l2;have Wz:g.c b=some nK:=by rw[←jy b k h1]; exact c1
   have WA:g.c b'=some nw:=by rw[←jy b' k' yt]; exact pt
   have:=r.inj b b' y y' nK nw h2 HX l1 l2 Wz WA v1 v2 gu;subst this;rw[h1] at yt;exact Option.some.inj yt }
def Tidy(σ:List ab)(v:aa)(σ2:List ab)(v2:aa):Prop:=
 ∀(GL:aA) (w0:World) (L:Ln) (g:Gm) (w:World),a_ GL w0 L g (hp σ) w→∀u,g.den v u→∃c2,a_ GL w0 L ⟨g.M,c2⟩ (hp σ2) w∧Den g.M c2 v2 u
theorem Tidy.refl(σ:List ab)(v:aa):Tidy σ v σ v:=λ_ _ _ g _ r _ d=>⟨g.c,r,d⟩
theorem Tidy.trans{σ σ2 σ3:List ab}{v v2 v3:aa}(h:Tidy σ v σ2 v2)(k:Tidy σ2 v2 σ3 v3):Tidy σ v σ3 v3:=by
 intro GL w0 L g w r u d;obtain⟨c2,r2,d2⟩:=h GL w0 L g w r u d;obtain⟨c3,r3,d3⟩:=k GL w0 L ⟨g.M,c2⟩ w r2 u d2;exact⟨c3,r3,d3⟩
theorem Tidy.bG{σ σ2:List ab}{m:Nat→Option Nat}(ok:xW σ σ2 m)(v:aa):Tidy σ v σ2 (v.bG m):=by
 intro GL w0 L g w r u d;obtain⟨c2,h1,h2⟩:=r.FY ok;exact⟨c2,h2,h1 v u d⟩
theorem Wa(σ:List ab)(b:ab):dH (hp σ) σ.length b=hp (σ++[b]):=by
 funext n
 simp only[dH,hp];by_cases h:n=σ.length
 ·subst h; simp
 ·rw[if_neg h];by_cases h2:n<σ.length
  ·rw[List.getElem?_append_left h2]
  ·rw[List.getElem?_eq_none (by omega),List.getElem?_eq_none (by simp; omega)]
theorem Tidy.ghost{σ:List ab}{v:aa}(sz:Nat)(h:v=.af∨v=.cj):Tidy σ v (σ++[.rows sz []]) (.sl σ.length 0 0 false):=by
 intro GL w0 L g w r u d;have r2:=r.ghost (vE σ) sz;rw[Wa] at r2;have hs:∃a,u=.slice a 0 0:=by
  rcases h with rfl|rfl
  ·cases d; exact⟨_,rfl⟩
  ·cases d; exact⟨_,rfl⟩
 obtain⟨a,rfl⟩:=hs;exact⟨_,r2,.mu _ _ _ _ _ (Xv _ _ _) rfl⟩
theorem Tidy.one{σ:List ab}{b:Nat}{blk:ab}(hb:σ[b]?=some blk)(m:Nat→Option Nat)(hm:∀n,m n=if n=b then some 0 else none)(v:aa):Tidy σ v [blk.dk (aa.bG m)] (v.bG m):=by
 have key:∀x k,m x=some k→x=b∧k=0:=by
  intro x k e;rw[hm] at e;split at e
  ·cases e; exact⟨by assumption,rfl⟩
  ·cases e
 refine Tidy.bG ⟨λx y k e1 e2=>?_,λx k e=>?_,λk hk=>⟨b,?_⟩⟩ v
 ·rw[(key x k e1).1,(key y k e2).1]
 ·obtain⟨rfl,rfl⟩:=key x k e;exact⟨blk,hb,by simp⟩
 ·simp at hk; subst hk; rw[hm]; simp
section
variable {P:Program} {GL:aA}
theorem Vs{f:FuncId}{F:s_}(ok:kK P GL f F){xs:List aa}(hn:xs.length=F.np){v:aa}{bs:List ab}
 (h:gm P GL F.n F.body (dP xs) [] (λe ρ σ=>(e=.normal∨e=.ret)∧∃v',fW F.fh ρ σ=some v'∧Tidy σ v' bs v)):cE P GL f xs v bs:=by
 intro w M vs hM hg hx;have r0:=a_.start (GL:=GL) w M hM hg;have hh:hp []=pj:=by funext b; simp[hp,pj]
 rw[←hh] at r0;refine(X9 ok hn h w ⟨[],M⟩ ⟨M,aV⟩ w vs r0 hx).mono ?_;rintro e w' ⟨u,he,g',x,σ',hR,hle,r,d⟩;obtain⟨c2,r2,d2⟩:=hR GL w ⟨[],M⟩ g' w' r u d;exact⟨u,he,⟨g'.M,c2⟩,hle.m,r2,d2⟩
theorem Xy(hP:P.follows .mixedOrders=true){f:FuncId}{np:Nat}{g:aq}(hg:iV P GL f np g){xs:List aa}(hn:xs.length=np){v:aa}{bs:List ab}(h:g (W P GL) xs [] (λv' σ=>Tidy σ v' bs v)):cE P GL f xs v bs:=by
 obtain⟨F,h1,h2,h3⟩:=hg.x9 hP (Db P GL) hn h;exact Vs h1 (hn.trans h2.symm) h3
theorem Q6:∀(bs σ:List ab),gy σ (Zx σ.length bs)=some (σ++bs)
 |[],σ=>by simp[Zx,gy]
 |b::bs,σ=>by
  have:=Q6 bs (σ++[b]);rw[List.length_append,List.length_singleton] at this;simp only[Zx,gy,Nat.beq_refl,cond_true];rw[this]; simp
def X4(n:Nat):List ab→List Nat
 |[]=>[]
 |_::bs=>n::X4 (n+1) bs
theorem Mb:∀(bs:List ab) (n:Nat),(Zx n bs).map (·.1)=X4 n bs
 |[],_=>rfl
 |b::bs,n=>by simp[Zx,X4,Mb bs (n+1)]
theorem DJ{k:MK}{xs ys:List aa}{f:FuncId}{v:aa}{bs:List ab}(h:cE P GL f ys v bs)(hc:Ys k xs=some (f,ys))(gz:Xl P f=true)(jO:el ys=true){σ:List ab}{K:aa→List ab→Prop}(hK:K (v.bG (ZB σ.length)) (σ++Zw σ.length bs)):(W P GL).call k xs σ K:=
 QO hc gz (h.here jO (λi _=>by simp[hp])) (Q6 _ σ) hK
theorem HA{k:MK}{xs ys:List aa}{f:FuncId}{v:aa}{bs:List ab}(h:cE P GL f ys v bs)(hc:Ys k xs=some (f,ys))(gz:Xl P f=true)(jO:el ys=true){σ:List ab}{K:aa→List Nat×List Nat→List ab→Prop}(hK:K (v.bG (ZB σ.length)) ([],X4 σ.length (Zw σ.length bs)) (σ++Zw σ.length bs)):(W P GL).aE k xs σ K:=
 Y0 hc gz (h.here jO (λi _=>by simp[hp])) (Q6 _ σ) (by rw[Mb]; exact hK)
end
attribute [simp] aa.bG fg ZB Zw ab.dk X4 aa.ro el aa.flat jX
end Go.Ah
end
section
namespace Go.Ah
theorem Yq(σ:List ab)(x:ab):gy σ [(σ.length,x)]=some (σ++[x]):=by simp[gy]
theorem ZN{σ:List ab}{b:Nat}{x:ab}(h:σ[b]?=some x):ah σ b=x:=by
 induction σ generalizing b with
 |nil=>simp at h
 |cons y σ ih=>cases b with
  |zero=>simpa[ah] using h
  |succ b=>simp at h; simpa[ah] using ih h
theorem ZE{σ:List ab}{b:Nat}{x:ab}(h:ah σ b=x)(hx:x≠.dead):σ[b]?=some x:=zf h hx
theorem Zi(σ:List ab)(x:ab):ah (σ++[x]) σ.length=x:=ZN (by simp)
theorem Zg{σ:List ab}{b:Nat}{y:ab}(x:List ab)(h:ah σ b=y)(hy:y≠.dead):ah (σ++x) b=y:=by
 have:=ZE h hy;exact ZN (by rw[List.getElem?_append_left (cJ this).1]; exact this)
theorem Qh{σ:List ab}{b:Nat}{y:ab}(h:ah σ b=y)(hy:y≠.dead):b<σ.length:=(cJ (ZE h hy)).1
theorem Z3{α:Type}{b:Nat}{x:α}:∀ {σ:List α},b<σ.length→Yz b x σ=some (σ.set b x):=by
 intro σ h
 induction σ generalizing b with
 |nil=>simp at h
 |cons y σ ih=>cases b with
  |zero=>simp[Yz]
  |succ b=>simp at h; simp[Yz,ih h]
theorem QY{σ:List ab}{b:Nat}(x y:ab)(h:b<σ.length):gy σ ([(b,x)]++[(σ.length,y)])=some (σ.set b x++[y]):=by
 have hb:Nat.beq b σ.length=false:=by
  cases e:Nat.beq b σ.length with
  |false=>rfl
  |true=>have:=eZ e; omega
 simp[gy,hb,Z3 h]
theorem Xn{σ:List ab}{b:Nat}(x:ab)(h:b<σ.length):gy σ [(b,x)]=some (σ.set b x):=by
 have hb:Nat.beq b σ.length=false:=by
  cases e:Nat.beq b σ.length with
  |false=>rfl
  |true=>have:=eZ e; omega
 simp[gy,hb,Z3 h]
theorem Zj{σ:List ab}{b c:Nat}{x y:ab}(h:ah σ b=y)(hy:y≠.dead)(hc:c≠b):ah (σ.set c x) b=y:=by
 have:=ZE h hy;exact ZN (by rw[List.getElem?_set_ne hc]; exact this)
section
variable {α:Type} (A:al α)
theorem Q7(n:Nat)(σ:List ab)(x:aa)(z:List aa)(cs:List aa)(hx:fill z [(0,n)] [x]=some cs)(hc:chunk n 1 cs=some [cs])(K:aa→List ab→α) :
  A.wr (Xi n 1 z [(0,n)] [x] σ) σ K=K (.sl σ.length 0 1 true) (σ++[.rows n [cs]]):=by
 simp only[Xi,hx,hc,DD,Yq,GU]
theorem ZY{row:List aa}(h:row.all aa.cell=true):Qw [row]=true:=by simp[Qw,h]
theorem OV(row:List aa):cut 0 (0+1) [row]=[row]:=rfl
theorem Ip(n cd:Nat)(σ:List ab)(row:List aa)(hr:row.all aa.cell=true)(cr:194*cd≤2 ^ 48)(K:aa→List ab→α) :
  A.wr (Qj n cd [.af,.sl σ.length 0 1 true] (σ++[.rows n [row]])) (σ++[.rows n [row]]) K=K (.sl (σ.length+1) 0 1 false) (σ++[.rows n [row]]++[.rows n [row]]):=by
 have h1:QG n (σ++[.rows n [row]]) (.sl σ.length 0 1 true)=some ([row],[σ.length]):=by
  simp[QG,Zi,OV];rfl
 have e:Qj n cd [.af,.sl σ.length 0 1 true] (σ++[.rows n [row]])=.ok (.sl (σ.length+1) 0 1 false) [σ.length] [(σ.length+1,.rows n [row])]:=by
  show QK n cd (σ++[.rows n [row]]) [] [] (.sl σ.length 0 1 true)=_;unfold QK;simp only[h1,ZY hr];simp;rw[show Nat.ble (194*cd) 281474976710656=true from Nat.ble_eq_true_of_le (by simpa using cr)];rfl
 rw[e,DD];have:=Yq (σ++[.rows n [row]]) (.rows n [row]);rw[List.length_append,List.length_singleton] at this;rw[this,GU]
theorem I_(n cd:Nat)(σ:List ab)(b len:Nat)(ex:Bool)(rs:List (List aa))(row:List aa)(hb:ah σ b=.rows n rs)(hl:rs.length=len)(hr:row.all aa.cell=true)(cr:(2*(len+1)+192)*cd≤2 ^ 48)(K:aa→List ab→α) :
  A.wr (Qj n cd [.sl b 0 len ex,.sl σ.length 0 1 true] (σ++[.rows n [row]])) (σ++[.rows n [row]]) K=K (.sl (σ.length+1) 0 (len+1) false) (σ.set b .dead++[.rows n [row]]++[.rows n (rs++[row])]):=by
 have bj:=Qh hb (by simp);have h1:QG n (σ++[.rows n [row]]) (.sl σ.length 0 1 true)=some ([row],[σ.length]):=by
  simp[QG,Zi,OV];rfl
 have h2:Nat.ble ((2*(len+1)+192)*cd) (2 ^ 48)=true:=Nat.ble_eq_true_of_le cr;have kG:=Zg [.rows n [row]] hb (by simp);have e:Qj n cd [.sl b 0 len ex,.sl σ.length 0 1 true] (σ++[.rows n [row]])=.ok (.sl (σ.length+1) 0 (len+1) false) [σ.length] ([(b,.dead)]++[(σ.length+1,.rows n (rs++[row]))]):=by
  have:Qj n cd [.sl b 0 len ex,.sl σ.length 0 1 true] (σ++[.rows n [row]])=QK n cd (σ++[.rows n [row]]) rs [(b,.dead)] (.sl σ.length 0 1 true):=by
   simp[Qj,D1,kG,hl]
  rw[this];unfold QK;simp only[h1,ZY hr,List.length_singleton,h2,Bool.and_self,cond_true,hl,List.length_append]
 rw[e,DD];have:=QY (σ:=σ++[.rows n [row]]) (b:=b) .dead (.rows n (rs++[row])) (by simp; omega);rw[List.length_append,List.length_singleton] at this;rw[this,GU,List.set_append_left _ _ bj]
end
end Go.Ah
end
section
namespace Go.Ah
section
variable {P:Program} {GL:aA}
theorem Za{r:az}{K:aa→Prop}{v:aa}{rd:List Nat}(h:r=.ok v rd [])(hK:K v):(W P GL).rd r K:=by rw[h]; exact hK
theorem Zk{r:az}{K:aa→Prop}{v:aa}(h:r=.ok v [] [])(hK:K v):(W P GL).pu r K:=by rw[h]; exact hK
theorem Ze{r:az}{σ σ':List ab}{K:aa→List ab→Prop}{v:aa}{rd:List Nat}{up:List (Nat×ab)}(h:r=.ok v rd up)(hu:gy σ up=some σ')(hK:K v σ'):(W P GL).wr r σ K:=by rw[h,DD,hu]; exact hK
theorem Yk{r:az}{σ σ':List ab}{K:aa→List Nat×List Nat→List ab→Prop}{v:aa}{rd:List Nat}{up:List (Nat×ab)}(h:r=.ok v rd up)(hu:gy σ up=some σ')(hK:K v (rd,up.map (·.1)) σ'):(W P GL).dr r σ K:=by rw[h,Ps,hu]; exact hK
theorem Zc{c:Bool}{a b:Prop}(ht:c=true→a)(hf:c=false→b):(W P GL).test (.bool c) a b:=⟨ht,hf⟩
theorem Ye{a b:Prop}(h:a):(W P GL).test (.bool true) a b:=⟨λ_=>h,(λe=>by cases e)⟩
theorem Xh{a b:Prop}(h:b):(W P GL).test (.bool false) a b:=⟨(λe=>by cases e),λ_=>h⟩
theorem XJ{b:Bool}{k:Prop}(h:b=true)(hK:k):(W P GL).gd b k:=by rw[h]; exact hK
theorem Ql{β:Type}{o:Option β}{K:β→Prop}{v:β}(h:o=some v)(hK:K v):(W P GL).opt o K:=by rw[h]; exact hK
theorem Xa{w:Bool}{r:(aa→Prop)→Prop}{K:aa→Prop}(h:r K):(W P GL).gr (.bool w) w r K:=by
 cases w
 ·exact⟨(λe=>by cases e),λ_=>h⟩
 ·exact⟨λ_=>h,(λe=>by cases e)⟩
theorem Zb{w:Bool}{r:(aa→List ab→Prop)→Prop}{σ:List ab}{K:aa→List ab→Prop}(h:r K):(W P GL).gw (.bool w) w r σ K:=by
 cases w
 ·exact⟨(λe=>by cases e),λ_=>h⟩
 ·exact⟨λ_=>h,(λe=>by cases e)⟩
theorem Qb{c w:Bool}{r:(aa→Prop)→Prop}{K:aa→Prop}(hc:c = !w)(h:K (sA [(c,w)])):(W P GL).gr (.bool c) w r K:=by
 subst hc;cases w
 ·exact⟨λ_=>h,(λe=>by cases e)⟩
 ·exact⟨(λe=>by cases e),λ_=>h⟩
theorem Yc{c w:Bool}{r:(aa→List ab→Prop)→Prop}{σ:List ab}{K:aa→List ab→Prop}(hc:c = !w)(h:K (sA [(c,w)]) σ):(W P GL).gw (.bool c) w r σ K:=by
 subst hc;cases w
 ·exact⟨λ_=>h,(λe=>by cases e)⟩
 ·exact⟨(λe=>by cases e),λ_=>h⟩
theorem Yd{cs:List (Bool×Bool)}{q w:Bool}{r:(aa→Prop)→Prop}{K:aa→Prop}(hc:vo.ew cs=true)(h:K (sA (cs++[(q,w)]))):(W P GL).gr (.when cs (.bool q)) w r K:=by
 show (match vo.ew cs with
  |true=>K (sA (cs++[(q,w)]))
  | false=>(W P GL).stop)
 rw[hc]; exact h
theorem Xd{cs:List (Bool×Bool)}{q w:Bool}{r:(aa→List ab→Prop)→Prop}{σ:List ab}{K:aa→List ab→Prop}(hc:vo.ew cs=true)(h:K (sA (cs++[(q,w)])) σ):(W P GL).gw (.when cs (.bool q)) w r σ K:=by
 show (match vo.ew cs with
  |true=>K (sA (cs++[(q,w)])) σ
  | false=>(W P GL).stop)
 rw[hc]; exact h
theorem XF(n:Nat){F:(List aa→List ab→Prop)→List aa→List ab→Prop}{vs:List aa}{σ:List ab}(h:kv False n F vs σ):(W P GL).loop F vs σ:=⟨n,h⟩
theorem Xm{n:Nat}{F:(List aa→List ab→Prop)→List aa→List ab→Prop}{vs:List aa}{σ:List ab}(h:F (kv False n F) vs σ):kv False (n+1) F vs σ:=h
end
def pos:List Nat→Nat→Option Nat
 |[],_=>none
 |x::l,n=>match Nat.beq x n with
  |true=>some 0
  |false=>match pos l n with
   |some k=>some (k+1)
   |none=>none
theorem Hy:∀ {l:List Nat} {n k:Nat},pos l n=some k→l[k]?=some n
 |[],_,_,h=>by cases h
 |x::l,n,k,h=>by
  unfold pos at h;split at h
  ·rename_i hb; cases h; simp[eZ hb]
  ·split at h
   ·rename_i k' hk; cases h; simpa using Hy hk
   ·cases h
theorem Px:∀ {l:List Nat} {k:Nat},l.Nodup→(h:k<l.length)→pos l l[k]=some k
 |[],_,_,h=>by simp at h
 |x::l,0,_,_=>by simp[pos]
 |x::l,k+1,hn,h=>by
  have iB:=List.nodup_cons.1 hn;have dL:Nat.beq x (l[k]'(by simpa using h))=false:=by
   cases e:Nat.beq x (l[k]'(by simpa using h)) with
   |false=>rfl
   |true=>exact(iB.1 (by rw[eZ e]; exact List.getElem_mem _)).elim
  simp only[List.getElem_cons_succ,pos,dL,Px iB.2 (by simpa using h)]
def EE(ids:List Nat)(σ:List ab):List ab:=ids.map λb=>(ah σ b).dk (aa.bG (pos ids))
theorem He{σ:List ab}{b:Nat}(h:b<σ.length):σ[b]?=some (ah σ b):=by
 rw[List.getElem?_eq_getElem h,ZN (List.getElem?_eq_getElem h)]
theorem Tidy.gc(ids:List Nat){σ:List ab}{v:aa}(hn:ids.Nodup)(cv:∀b∈ids,b<σ.length){σ2:List ab}{v2:aa}(h1:EE ids σ=σ2)(h2:v.bG (pos ids)=v2):Tidy σ v σ2 v2:=by
 subst h1; subst h2;refine Tidy.bG ⟨λx y k e1 e2=>?_,λx k e=>?_,λk hk=>?_⟩ v
 ·have q1:=Hy e1;have q2:=Hy e2;rw[q1] at q2; exact Option.some.inj q2
 ·have q:=Hy e;have hx:x∈ids:=List.mem_of_getElem? q;exact⟨_,He (cv x hx),by simp[EE,q]⟩
 ·simp only[EE,List.length_map] at hk;exact⟨_,Px hn hk⟩
end Go.Ah
end
section
namespace Go.Ah
section
variable {P:Program} {GL:aA}
theorem IM{c d:Bool}{K:aa→Prop}{r1:az}{r2:aa→az}{σ:List ab}{v1:aa}{q1 q2:List Nat}(h1:c=true→r1=.ok v1 q1 [])(h2:c=true→r2 v1=.ok (.bool d) q2 [])(hK:K (.bool (c&&d))) :
  (W P GL).gr (.bool c) true (λk=>(W P GL).rd r1 k) λt1=>(W P GL).gr (.bool c) true (λk=>(W P GL).rd (r2 t1) k) λt2=>(W P GL).rd (Xo [.bool c,t2,.bool false] σ) K:=by
 cases c with
 |true=>exact Xa (Za (h1 rfl) (Xa (Za (h2 rfl) (Za rfl hK))))
 |false=>exact Qb rfl (Qb rfl (Za rfl hK))
theorem DW{c d:Bool}{K:aa→Prop}{r1:az}{r2:aa→az}{r3:aa→aa→az}{r4:aa→aa→aa→az}{r5:aa→aa→aa→aa→az}{σ:List ab}{v1 v2 v3 v4:aa}{q1 q2 q3 q4 q5:List Nat}(h1:c=true→r1=.ok v1 q1 [])(h2:c=true→r2 v1=.ok v2 q2 [])(h3:c=true→r3 v1 v2=.ok v3 q3 [])(h4:c=true→r4 v1 v2 v3=.ok v4 q4 [])(h5:c=true→r5 v1 v2 v3 v4=.ok (.bool d) q5 [])(hK:K (.bool (c&&d))) :
  (W P GL).gr (.bool c) true (λk=>(W P GL).rd r1 k) λt1=>(W P GL).gr (.bool c) true (λk=>(W P GL).rd (r2 t1) k) λt2=>(W P GL).gr (.bool c) true (λk=>(W P GL).rd (r3 t1 t2) k) λt3=>(W P GL).gr (.bool c) true (λk=>(W P GL).rd (r4 t1 t2 t3) k) λt4=>(W P GL).gr (.bool c) true (λk=>(W P GL).rd (r5 t1 t2 t3 t4) k) λt5=>(W P GL).rd (Xo [.bool c,t5,.bool false] σ) K:=by
 cases c with
 |true=>exact Xa (Za (h1 rfl) (Xa (Za (h2 rfl) (Xa (Za (h3 rfl) (Xa (Za (h4 rfl) (Xa (Za (h5 rfl) (Za rfl hK))))))))))
 |false=>exact Qb rfl (Qb rfl (Qb rfl (Qb rfl (Qb rfl (Za rfl hK)))))
theorem vm{c d:Bool}{K:aa→Prop}{r1:az}{r2:aa→az}{σ:List ab}{v1:aa}{q1 q2:List Nat}(h1:c=false→r1=.ok v1 q1 [])(h2:c=false→r2 v1=.ok (.bool d) q2 [])(hK:K (.bool (c||d))) :
  (W P GL).gr (.bool c) false (λk=>(W P GL).rd r1 k) λt1=>(W P GL).gr (.bool c) false (λk=>(W P GL).rd (r2 t1) k) λt2=>(W P GL).rd (Xo [.bool c,.bool true,t2] σ) K:=by
 cases c with
 |false=>exact Xa (Za (h1 rfl) (Xa (Za (h2 rfl) (Za rfl hK))))
 |true=>exact Qb rfl (Qb rfl (Za rfl hK))
theorem za{c d:Bool}{K:aa→Prop}{r1:az}{r2:aa→az}{r3:aa→aa→az}{σ:List ab}{v1 v2:aa}{q1 q2 q3:List Nat}(h1:c=false→r1=.ok v1 q1 [])(h2:c=false→r2 v1=.ok v2 q2 [])(h3:c=false→r3 v1 v2=.ok (.bool d) q3 [])(hK:K (.bool (c||d))) :
  (W P GL).gr (.bool c) false (λk=>(W P GL).rd r1 k) λt1=>(W P GL).gr (.bool c) false (λk=>(W P GL).rd (r2 t1) k) λt2=>(W P GL).gr (.bool c) false (λk=>(W P GL).rd (r3 t1 t2) k) λt3=>(W P GL).rd (Xo [.bool c,.bool true,t3] σ) K:=by
 cases c with
 |false=>exact Xa (Za (h1 rfl) (Xa (Za (h2 rfl) (Xa (Za (h3 rfl) (Za rfl hK))))))
 |true=>exact Qb rfl (Qb rfl (Qb rfl (Za rfl hK)))
theorem NI{c d:Bool}{K:aa→Prop}{r1:az}{r2:aa→az}{r3:aa→aa→az}{r4:aa→aa→aa→az}{σ:List ab}{v1 v2 v3:aa}{q1 q2 q3 q4:List Nat}(h1:c=false→r1=.ok v1 q1 [])(h2:c=false→r2 v1=.ok v2 q2 [])(h3:c=false→r3 v1 v2=.ok v3 q3 [])(h4:c=false→r4 v1 v2 v3=.ok (.bool d) q4 [])(hK:K (.bool (c||d))) :
  (W P GL).gr (.bool c) false (λk=>(W P GL).rd r1 k) λt1=>(W P GL).gr (.bool c) false (λk=>(W P GL).rd (r2 t1) k) λt2=>(W P GL).gr (.bool c) false (λk=>(W P GL).rd (r3 t1 t2) k) λt3=>(W P GL).gr (.bool c) false (λk=>(W P GL).rd (r4 t1 t2 t3) k) λt4=>(W P GL).rd (Xo [.bool c,.bool true,t4] σ) K:=by
 cases c with
 |false=>exact Xa (Za (h1 rfl) (Xa (Za (h2 rfl) (Xa (Za (h3 rfl) (Xa (Za (h4 rfl) (Za rfl hK))))))))
 |true=>exact Qb rfl (Qb rfl (Qb rfl (Qb rfl (Za rfl hK))))
theorem IP{c d:Bool}{K:aa→Prop}{r1:az}{r2:aa→az}{r3:aa→aa→az}{r4:aa→aa→aa→az}{r5:aa→aa→aa→aa→az}{σ:List ab}{v1 v2 v3 v4:aa}{q1 q2 q3 q4 q5:List Nat}(h1:c=false→r1=.ok v1 q1 [])(h2:c=false→r2 v1=.ok v2 q2 [])(h3:c=false→r3 v1 v2=.ok v3 q3 [])(h4:c=false→r4 v1 v2 v3=.ok v4 q4 [])(h5:c=false→r5 v1 v2 v3 v4=.ok (.bool d) q5 [])(hK:K (.bool (c||d))) :
  (W P GL).gr (.bool c) false (λk=>(W P GL).rd r1 k) λt1=>(W P GL).gr (.bool c) false (λk=>(W P GL).rd (r2 t1) k) λt2=>(W P GL).gr (.bool c) false (λk=>(W P GL).rd (r3 t1 t2) k) λt3=>(W P GL).gr (.bool c) false (λk=>(W P GL).rd (r4 t1 t2 t3) k) λt4=>(W P GL).gr (.bool c) false (λk=>(W P GL).rd (r5 t1 t2 t3 t4) k) λt5=>(W P GL).rd (Xo [.bool c,.bool true,t5] σ) K:=by
 cases c with
 |false=>exact Xa (Za (h1 rfl) (Xa (Za (h2 rfl) (Xa (Za (h3 rfl) (Xa (Za (h4 rfl) (Xa (Za (h5 rfl) (Za rfl hK))))))))))
 |true=>exact Qb rfl (Qb rfl (Qb rfl (Qb rfl (Qb rfl (Za rfl hK)))))
theorem MM{c d:Bool}{K:aa→Prop}{r1:az}{r2:aa→az}{r3:aa→aa→az}{r4:aa→aa→aa→az}{r5:aa→aa→aa→aa→az}{r6:aa→aa→aa→aa→aa→az}{σ:List ab}{v1 v2 v3 v4 v5:aa}{q1 q2 q3 q4 q5 q6:List Nat}(h1:c=false→r1=.ok v1 q1 [])(h2:c=false→r2 v1=.ok v2 q2 [])(h3:c=false→r3 v1 v2=.ok v3 q3 [])(h4:c=false→r4 v1 v2 v3=.ok v4 q4 [])(h5:c=false→r5 v1 v2 v3 v4=.ok v5 q5 [])(h6:c=false→r6 v1 v2 v3 v4 v5=.ok (.bool d) q6 [])(hK:K (.bool (c||d))) :
  (W P GL).gr (.bool c) false (λk=>(W P GL).rd r1 k) λt1=>(W P GL).gr (.bool c) false (λk=>(W P GL).rd (r2 t1) k) λt2=>(W P GL).gr (.bool c) false (λk=>(W P GL).rd (r3 t1 t2) k) λt3=>(W P GL).gr (.bool c) false (λk=>(W P GL).rd (r4 t1 t2 t3) k) λt4=>(W P GL).gr (.bool c) false (λk=>(W P GL).rd (r5 t1 t2 t3 t4) k) λt5=>(W P GL).gr (.bool c) false (λk=>(W P GL).rd (r6 t1 t2 t3 t4 t5) k) λt6=>(W P GL).rd (Xo [.bool c,.bool true,t6] σ) K:=by
 cases c with
 |false=>exact Xa (Za (h1 rfl) (Xa (Za (h2 rfl) (Xa (Za (h3 rfl) (Xa (Za (h4 rfl) (Xa (Za (h5 rfl) (Xa (Za (h6 rfl) (Za rfl hK))))))))))))
 |true=>exact Qb rfl (Qb rfl (Qb rfl (Qb rfl (Qb rfl (Qb rfl (Za rfl hK))))))
theorem Pq{c d:Bool}{K:aa→Prop}{r1:az}{r2:aa→az}{r3:aa→aa→az}{r4:aa→aa→aa→az}{r5:aa→aa→aa→aa→az}{r6:aa→aa→aa→aa→aa→az}{r7:aa→aa→aa→aa→aa→aa→az}{σ:List ab}{v1 v2 v3 v4 v5 v6:aa}{q1 q2 q3 q4 q5 q6 q7:List Nat}(h1:c=false→r1=.ok v1 q1 [])(h2:c=false→r2 v1=.ok v2 q2 [])(h3:c=false→r3 v1 v2=.ok v3 q3 [])(h4:c=false→r4 v1 v2 v3=.ok v4 q4 [])(h5:c=false→r5 v1 v2 v3 v4=.ok v5 q5 [])(h6:c=false→r6 v1 v2 v3 v4 v5=.ok v6 q6 [])(h7:c=false→r7 v1 v2 v3 v4 v5 v6=.ok (.bool d) q7 [])(hK:K (.bool (c||d))) :
  (W P GL).gr (.bool c) false (λk=>(W P GL).rd r1 k) λt1=>(W P GL).gr (.bool c) false (λk=>(W P GL).rd (r2 t1) k) λt2=>(W P GL).gr (.bool c) false (λk=>(W P GL).rd (r3 t1 t2) k) λt3=>(W P GL).gr (.bool c) false (λk=>(W P GL).rd (r4 t1 t2 t3) k) λt4=>(W P GL).gr (.bool c) false (λk=>(W P GL).rd (r5 t1 t2 t3 t4) k) λt5=>(W P GL).gr (.bool c) false (λk=>(W P GL).rd (r6 t1 t2 t3 t4 t5) k) λt6=>(W P GL).gr (.bool c) false (λk=>(W P GL).rd (r7 t1 t2 t3 t4 t5 t6) k) λt7=>(W P GL).rd (Xo [.bool c,.bool true,t7] σ) K:=by
 cases c with
 |false=>exact Xa (Za (h1 rfl) (Xa (Za (h2 rfl) (Xa (Za (h3 rfl) (Xa (Za (h4 rfl) (Xa (Za (h5 rfl) (Xa (Za (h6 rfl) (Xa (Za (h7 rfl) (Za rfl hK))))))))))))))
 |true=>exact Qb rfl (Qb rfl (Qb rfl (Qb rfl (Qb rfl (Qb rfl (Qb rfl (Za rfl hK)))))))
theorem OA{c d:Bool}{K:aa→Prop}{r1:az}{r2:aa→az}{r3:aa→aa→az}{r4:aa→aa→aa→az}{r5:aa→aa→aa→aa→az}{r6:aa→aa→aa→aa→aa→az}{r7:aa→aa→aa→aa→aa→aa→az}{r8:aa→aa→aa→aa→aa→aa→aa→az}{σ:List ab}{v1 v2 v3 v4 v5 v6 v7:aa}{q1 q2 q3 q4 q5 q6 q7 q8:List Nat}(h1:c=false→r1=.ok v1 q1 [])(h2:c=false→r2 v1=.ok v2 q2 [])(h3:c=false→r3 v1 v2=.ok v3 q3 [])(h4:c=false→r4 v1 v2 v3=.ok v4 q4 [])(h5:c=false→r5 v1 v2 v3 v4=.ok v5 q5 [])(h6:c=false→r6 v1 v2 v3 v4 v5=.ok v6 q6 [])(h7:c=false→r7 v1 v2 v3 v4 v5 v6=.ok v7 q7 [])(h8:c=false→r8 v1 v2 v3 v4 v5 v6 v7=.ok (.bool d) q8 [])(hK:K (.bool (c||d))) :
  (W P GL).gr (.bool c) false (λk=>(W P GL).rd r1 k) λt1=>(W P GL).gr (.bool c) false (λk=>(W P GL).rd (r2 t1) k) λt2=>(W P GL).gr (.bool c) false (λk=>(W P GL).rd (r3 t1 t2) k) λt3=>(W P GL).gr (.bool c) false (λk=>(W P GL).rd (r4 t1 t2 t3) k) λt4=>(W P GL).gr (.bool c) false (λk=>(W P GL).rd (r5 t1 t2 t3 t4) k) λt5=>(W P GL).gr (.bool c) false (λk=>(W P GL).rd (r6 t1 t2 t3 t4 t5) k) λt6=>(W P GL).gr (.bool c) false (λk=>(W P GL).rd (r7 t1 t2 t3 t4 t5 t6) k) λt7=>(W P GL).gr (.bool c) false (λk=>(W P GL).rd (r8 t1 t2 t3 t4 t5 t6 t7) k) λt8=>(W P GL).rd (Xo [.bool c,.bool true,t8] σ) K:=by
 cases c with
 |false=>exact Xa (Za (h1 rfl) (Xa (Za (h2 rfl) (Xa (Za (h3 rfl) (Xa (Za (h4 rfl) (Xa (Za (h5 rfl) (Xa (Za (h6 rfl) (Xa (Za (h7 rfl) (Xa (Za (h8 rfl) (Za rfl hK))))))))))))))))
 |true=>exact Qb rfl (Qb rfl (Qb rfl (Qb rfl (Qb rfl (Qb rfl (Qb rfl (Qb rfl (Za rfl hK))))))))
theorem U8{c d:Bool}{K:aa→Prop}{r1:az}{r2:aa→az}{r3:aa→aa→az}{r4:aa→aa→aa→az}{r5:aa→aa→aa→aa→az}{r6:aa→aa→aa→aa→aa→az}{r7:aa→aa→aa→aa→aa→aa→az}{r8:aa→aa→aa→aa→aa→aa→aa→az}{r9:aa→aa→aa→aa→aa→aa→aa→aa→az}{r10:aa→aa→aa→aa→aa→aa→aa→aa→aa→az}{σ:List ab}{v1 v2 v3 v4 v5 v6 v7 v8 v9:aa}{q1 q2 q3 q4 q5 q6 q7 q8 q9 q10:List Nat}(h1:c=false→r1=.ok v1 q1 [])(h2:c=false→r2 v1=.ok v2 q2 [])(h3:c=false→r3 v1 v2=.ok v3 q3 [])(h4:c=false→r4 v1 v2 v3=.ok v4 q4 [])(h5:c=false→r5 v1 v2 v3 v4=.ok v5 q5 [])(h6:c=false→r6 v1 v2 v3 v4 v5=.ok v6 q6 [])(h7:c=false→r7 v1 v2 v3 v4 v5 v6=.ok v7 q7 [])(h8:c=false→r8 v1 v2 v3 v4 v5 v6 v7=.ok v8 q8 [])(h9:c=false→r9 v1 v2 v3 v4 v5 v6 v7 v8=.ok v9 q9 [])(h10:c=false→r10 v1 v2 v3 v4 v5 v6 v7 v8 v9=.ok (.bool d) q10 [])(hK:K (.bool (c||d))) :
  (W P GL).gr (.bool c) false (λk=>(W P GL).rd r1 k) λt1=>(W P GL).gr (.bool c) false (λk=>(W P GL).rd (r2 t1) k) λt2=>(W P GL).gr (.bool c) false (λk=>(W P GL).rd (r3 t1 t2) k) λt3=>(W P GL).gr (.bool c) false (λk=>(W P GL).rd (r4 t1 t2 t3) k) λt4=>(W P GL).gr (.bool c) false (λk=>(W P GL).rd (r5 t1 t2 t3 t4) k) λt5=>(W P GL).gr (.bool c) false (λk=>(W P GL).rd (r6 t1 t2 t3 t4 t5) k) λt6=>(W P GL).gr (.bool c) false (λk=>(W P GL).rd (r7 t1 t2 t3 t4 t5 t6) k) λt7=>(W P GL).gr (.bool c) false (λk=>(W P GL).rd (r8 t1 t2 t3 t4 t5 t6 t7) k) λt8=>(W P GL).gr (.bool c) false (λk=>(W P GL).rd (r9 t1 t2 t3 t4 t5 t6 t7 t8) k) λt9=>(W P GL).gr (.bool c) false (λk=>(W P GL).rd (r10 t1 t2 t3 t4 t5 t6 t7 t8 t9) k) λt10=>(W P GL).rd (Xo [.bool c,.bool true,t10] σ) K:=by
 cases c with
 |false=>exact Xa (Za (h1 rfl) (Xa (Za (h2 rfl) (Xa (Za (h3 rfl) (Xa (Za (h4 rfl) (Xa (Za (h5 rfl) (Xa (Za (h6 rfl) (Xa (Za (h7 rfl) (Xa (Za (h8 rfl) (Xa (Za (h9 rfl) (Xa (Za (h10 rfl) (Za rfl hK))))))))))))))))))))
 |true=>exact Qb rfl (Qb rfl (Qb rfl (Qb rfl (Qb rfl (Qb rfl (Qb rfl (Qb rfl (Qb rfl (Qb rfl (Za rfl hK))))))))))
theorem Wl{c d:Bool}{K:List ab→aa→Prop}{r1:az}{cl:aa→(aa→List ab→Prop)→Prop}{s1:aa→List ab→az}{σ:List ab}{v1 u0:aa}{q1 p1:List Nat}(h1:c=true→r1=.ok v1 q1 [])(hc:c=true→∀k:aa→List ab→Prop,k u0 σ→cl v1 k)(g1:c=true→s1 u0 σ=.ok (.bool d) p1 [])(hK:K σ (.bool (c&&d))) :
  (W P GL).gr (.bool c) true (λk=>(W P GL).rd r1 k) λt1=>(W P GL).gw (.bool c) true (λk=>cl t1 k) σ λw0 τ=>(W P GL).gr (.bool c) true (λk=>(W P GL).rd (s1 w0 τ) k) λw1=>(W P GL).rd (Xo [.bool c,w1,.bool false] τ) (K τ):=by
 cases c with
 |true=>exact Xa (Za (h1 rfl) (Zb (hc rfl _ (Xa (Za (g1 rfl) (Za rfl hK))))))
 |false=>exact Qb rfl (Yc rfl (Qb rfl (Za rfl hK)))
theorem Vh{c d:Bool}{K:List ab→aa→Prop}{r1:az}{r2:aa→az}{r3:aa→aa→az}{r4:aa→aa→aa→az}{cl:aa→aa→aa→aa→(aa→List ab→Prop)→Prop} {σ:List ab}{v1 v2 v3 v4:aa}{q1 q2 q3 q4:List Nat}(h1:c=true→r1=.ok v1 q1 [])(h2:c=true→r2 v1=.ok v2 q2 [])(h3:c=true→r3 v1 v2=.ok v3 q3 [])(h4:c=true→r4 v1 v2 v3=.ok v4 q4 [])(hc:c=true→∀k:aa→List ab→Prop,k (.bool d) σ→cl v1 v2 v3 v4 k)(hK:K σ (.bool (c&&d))) :
  (W P GL).gr (.bool c) true (λk=>(W P GL).rd r1 k) λt1=>(W P GL).gr (.bool c) true (λk=>(W P GL).rd (r2 t1) k) λt2=>(W P GL).gr (.bool c) true (λk=>(W P GL).rd (r3 t1 t2) k) λt3=>(W P GL).gr (.bool c) true (λk=>(W P GL).rd (r4 t1 t2 t3) k) λt4=>(W P GL).gw (.bool c) true (λk=>cl t1 t2 t3 t4 k) σ λw0 τ=>(W P GL).rd (Xo [.bool c,w0,.bool false] τ) (K τ):=by
 cases c with
 |true=>exact Xa (Za (h1 rfl) (Xa (Za (h2 rfl) (Xa (Za (h3 rfl) (Xa (Za (h4 rfl) (Zb (hc rfl _ (Za rfl hK))))))))))
 |false=>exact Qb rfl (Qb rfl (Qb rfl (Qb rfl (Yc rfl (Za rfl hK)))))
theorem Nx{c d:Bool}{K:List ab→aa→Prop}{r1:az}{cl:aa→(aa→List ab→Prop)→Prop} {σ:List ab}{v1:aa}{q1:List Nat}(h1:c=false→r1=.ok v1 q1 [])(hc:c=false→∀k:aa→List ab→Prop,k (.bool d) σ→cl v1 k)(hK:K σ (.bool (c||d))) :
  (W P GL).gr (.bool c) false (λk=>(W P GL).rd r1 k) λt1=>(W P GL).gw (.bool c) false (λk=>cl t1 k) σ λw0 τ=>(W P GL).rd (Xo [.bool c,.bool true,w0] τ) (K τ):=by
 cases c with
 |false=>exact Xa (Za (h1 rfl) (Zb (hc rfl _ (Za rfl hK))))
 |true=>exact Qb rfl (Yc rfl (Za rfl hK))
theorem Wn{c d:Bool}{K:List ab→aa→Prop}{r1:az}{cl:aa→(aa→List ab→Prop)→Prop}{s1:aa→List ab→az}{σ:List ab}{v1 u0:aa}{q1 p1:List Nat}(h1:c=false→r1=.ok v1 q1 [])(hc:c=false→∀k:aa→List ab→Prop,k u0 σ→cl v1 k)(g1:c=false→s1 u0 σ=.ok (.bool d) p1 [])(hK:K σ (.bool (c||d))) :
  (W P GL).gr (.bool c) false (λk=>(W P GL).rd r1 k) λt1=>(W P GL).gw (.bool c) false (λk=>cl t1 k) σ λw0 τ=>(W P GL).gr (.bool c) false (λk=>(W P GL).rd (s1 w0 τ) k) λw1=>(W P GL).rd (Xo [.bool c,.bool true,w1] τ) (K τ):=by
 cases c with
 |false=>exact Xa (Za (h1 rfl) (Zb (hc rfl _ (Xa (Za (g1 rfl) (Za rfl hK))))))
 |true=>exact Qb rfl (Yc rfl (Qb rfl (Za rfl hK)))
theorem ME{c d:Bool}{K:List ab→aa→Prop}{r1:az}{r2:aa→az}{cl:aa→aa→(aa→List ab→Prop)→Prop}{s1:aa→List ab→az}{σ:List ab}{v1 v2 u0:aa}{q1 q2 p1:List Nat}(h1:c=false→r1=.ok v1 q1 [])(h2:c=false→r2 v1=.ok v2 q2 [])(hc:c=false→∀k:aa→List ab→Prop,k u0 σ→cl v1 v2 k)(g1:c=false→s1 u0 σ=.ok (.bool d) p1 [])(hK:K σ (.bool (c||d))) :
  (W P GL).gr (.bool c) false (λk=>(W P GL).rd r1 k) λt1=>(W P GL).gr (.bool c) false (λk=>(W P GL).rd (r2 t1) k) λt2=>(W P GL).gw (.bool c) false (λk=>cl t1 t2 k) σ λw0 τ=>(W P GL).gr (.bool c) false (λk=>(W P GL).rd (s1 w0 τ) k) λw1=>(W P GL).rd (Xo [.bool c,.bool true,w1] τ) (K τ):=by
 cases c with
 |false=>exact Xa (Za (h1 rfl) (Xa (Za (h2 rfl) (Zb (hc rfl _ (Xa (Za (g1 rfl) (Za rfl hK))))))))
 |true=>exact Qb rfl (Qb rfl (Yc rfl (Qb rfl (Za rfl hK))))
theorem Vj{c d:Bool}{K:List ab→aa→Prop}{r1:az}{r2:aa→az}{r3:aa→aa→az}{cl:aa→aa→aa→(aa→List ab→Prop)→Prop} {σ:List ab}{v1 v2 v3:aa}{q1 q2 q3:List Nat}(h1:c=false→r1=.ok v1 q1 [])(h2:c=false→r2 v1=.ok v2 q2 [])(h3:c=false→r3 v1 v2=.ok v3 q3 [])(hc:c=false→∀k:aa→List ab→Prop,k (.bool d) σ→cl v1 v2 v3 k)(hK:K σ (.bool (c||d))) :
  (W P GL).gr (.bool c) false (λk=>(W P GL).rd r1 k) λt1=>(W P GL).gr (.bool c) false (λk=>(W P GL).rd (r2 t1) k) λt2=>(W P GL).gr (.bool c) false (λk=>(W P GL).rd (r3 t1 t2) k) λt3=>(W P GL).gw (.bool c) false (λk=>cl t1 t2 t3 k) σ λw0 τ=>(W P GL).rd (Xo [.bool c,.bool true,w0] τ) (K τ):=by
 cases c with
 |false=>exact Xa (Za (h1 rfl) (Xa (Za (h2 rfl) (Xa (Za (h3 rfl) (Zb (hc rfl _ (Za rfl hK))))))))
 |true=>exact Qb rfl (Qb rfl (Qb rfl (Yc rfl (Za rfl hK))))
theorem Pd{c d:Bool}{K:List ab→aa→Prop}{r1:az}{r2:aa→az}{r3:aa→aa→az}{r4:aa→aa→aa→az}{cl:aa→aa→aa→aa→(aa→List ab→Prop)→Prop}{s1:aa→List ab→az}{σ:List ab}{v1 v2 v3 v4 u0:aa}{q1 q2 q3 q4 p1:List Nat}(h1:c=false→r1=.ok v1 q1 [])(h2:c=false→r2 v1=.ok v2 q2 [])(h3:c=false→r3 v1 v2=.ok v3 q3 [])(h4:c=false→r4 v1 v2 v3=.ok v4 q4 [])(hc:c=false→∀k:aa→List ab→Prop,k u0 σ→cl v1 v2 v3 v4 k)(g1:c=false→s1 u0 σ=.ok (.bool d) p1 [])(hK:K σ (.bool (c||d))) :
  (W P GL).gr (.bool c) false (λk=>(W P GL).rd r1 k) λt1=>(W P GL).gr (.bool c) false (λk=>(W P GL).rd (r2 t1) k) λt2=>(W P GL).gr (.bool c) false (λk=>(W P GL).rd (r3 t1 t2) k) λt3=>(W P GL).gr (.bool c) false (λk=>(W P GL).rd (r4 t1 t2 t3) k) λt4=>(W P GL).gw (.bool c) false (λk=>cl t1 t2 t3 t4 k) σ λw0 τ=>(W P GL).gr (.bool c) false (λk=>(W P GL).rd (s1 w0 τ) k) λw1=>(W P GL).rd (Xo [.bool c,.bool true,w1] τ) (K τ):=by
 cases c with
 |false=>exact Xa (Za (h1 rfl) (Xa (Za (h2 rfl) (Xa (Za (h3 rfl) (Xa (Za (h4 rfl) (Zb (hc rfl _ (Xa (Za (g1 rfl) (Za rfl hK))))))))))))
 |true=>exact Qb rfl (Qb rfl (Qb rfl (Qb rfl (Yc rfl (Qb rfl (Za rfl hK))))))
end
end Go.Ah
end
section
namespace Go.Ah
def C3(fp:List Nat)(n:Nat):Nat→List ab→List ab
 |_,[]=>[]
 |i,x::l=>(bif uT i fp then x.dk (aa.bG (nj n)) else .dead)::C3 fp n (i+1) l
def lj(fp:List Nat)(σ:List ab):List ab:=C3 fp σ.length 0 σ
theorem M3(fp:List Nat)(n:Nat):∀(l:List ab) (i j:Nat),(C3 fp n i l)[j]?=(l[j]?).map λx=>bif uT (i+j) fp then x.dk (aa.bG (nj n)) else .dead
 |[],i,j=>by simp[C3]
 |x::l,i,0=>by simp[C3]
 |x::l,i,j+1=>by
  simp only[C3,List.getElem?_cons_succ];rw[M3 fp n l (i+1) j,show i+1+j=i+(j+1) by omega]
theorem Jr(fp:List Nat)(σ:List ab)(j:Nat):(lj fp σ)[j]?=(σ[j]?).map λx=>bif uT j fp then x.dk (aa.bG (nj σ.length)) else .dead:=by
 rw[lj,M3,Nat.zero_add]
theorem Mt(F:Nat→ab):∀(keys:List Nat) (h:Hp) (b:Nat),ca h (keys.map λb=>(b,F b)) b=if b∈keys then some (F b) else h b
 |[],h,b=>by simp[ca]
 |x::keys,h,b=>by
  simp only[List.map_cons,ca];rw[Mt F keys];by_cases h1:b∈keys
  ·simp[h1]
  ·rw[if_neg h1];by_cases h2:b=x
   ·subst h2; simp[dH]
   ·simp[dH,h1,h2]
section
variable {P:Program} {GL:aA}
theorem RN{f:FuncId}{F:s_}(ok:kK P GL f F){xs yZ:List aa}(hn:xs.length=F.np)(σ:List ab)(fp ids:List Nat)(w_:∀b∈fp,b∈ids)(ly:∀b∈ids,b<σ.length){v:aa}{k:Nat}{τ τ':List ab}
 (xi:fg (nj σ.length) xs=yZ)(hτ:lj fp σ=τ)(h:gm P GL F.n F.body (dP yZ) τ (λe ρ s=>(e=.normal∨e=.ret)∧fW F.fh ρ s=some v∧s=τ'))(hk:τ'.length=σ.length+k) :
  fD P GL f xs (hp σ) (v.bG (ee ids σ.length k)) ids ((fp++List.range' σ.length k).map λb=>(b,(ah τ' b).dk (aa.bG (ee ids σ.length k)))):=by
 intro w0 L g hq w vs r hx cB dH;subst xi; subst hτ
 let dm:CB:=⟨0,0,0,true⟩
 let c':Own:=λb=>if b<σ.length then some ((g.c b).getD dm) else none
 let lb:List Nat:=fp.filterMap λb=>match g.c b,σ[b]? with
  |some cb,some x=>bif x.live && !cb.cS then some cb.blk else none
  |_,_=>none
 have jC:∀b∈ids,∃cb,g.c b=some cb∧c' b=some cb∧hq b=σ[b]?:=by
  intro b hb;have hl:=ly b hb;have e1:hq b=σ[b]?:=cB b hb;obtain⟨cb,qV⟩:=r.ig b σ[b] (by rw[e1]; simp[hl]);exact⟨cb,qV,by simp only[c']; rw[if_pos hl,qV]; rfl,e1⟩
 have hlb:∀b∈fp,∀cb y,g.c b=some cb→σ[b]?=some y→y.live=true→cb.cS=false→cb.blk∈lb:=by
  intro b hb cb y qV hy hl hv;simp only[lb,List.mem_filterMap];exact⟨b,hb,by rw[qV,hy]; simp[hl,hv]⟩
 have bj:∀b x,(lj fp σ)[b]?=some x→b<σ.length:=by
  intro b x e;rw[Jr] at e;cases hs:σ[b]? with
  |none=>rw[hs] at e; cases e
  |some y=>exact(cJ hs).1
 have sk:∀b x,(lj fp σ)[b]?=some x→x.live=true→b∈fp∧∃y,σ[b]?=some y∧x=y.dk (aa.bG (nj σ.length)):=by
  intro b x e hl;rw[Jr] at e;cases hs:σ[b]? with
  |none=>rw[hs] at e; cases e
  |some y=>
   rw[hs] at e;simp only[Option.map_some,Option.some.injEq] at e;cases hi:uT b fp with
   |false=>rw[hi] at e; subst e; cases hl
   |true=>rw[hi] at e; exact⟨DF.1 hi,y,rfl,e.symm⟩
 have sQ:∀x u,g.den x u→Den g.M c' (x.bG (nj σ.length)) u:=by
  intro x u d;refine d.bG (λb b' cb k1 k2=>?_);unfold nj at k1;obtain⟨k0,k1⟩:=Qx k1;cases k1;have hl:b<σ.length:=fQ k0;simp only[c'];rw[if_pos hl,k2]; rfl
 have r0:a_ GL w ⟨lb,g.M⟩ ⟨g.M,c'⟩ (hp (lj fp σ)) w:={
  keeps:=fX.refl _ _,aJ:=r.aJ,src:=λb o e=>.inl e,bz:=r.bz
  dc:=λb e=>by
   have e':(lj fp σ)[b]?=none:=e;rw[Jr] at e';show c' b=none;simp only[c'];rw[if_neg];intro hb;simp[hb] at e'
  ig:=λb blk e=>by
   have:=bj b blk e;exact⟨_,by show c' b=_; simp only[c']; rw[if_pos this]⟩
  own:=λb blk cb e hl ec hv=>by
   obtain⟨hb,y,hy,rfl⟩:=sk b blk e hl;obtain⟨vp,q1,q2,q3⟩:=jC b (w_ b hb);have fo:c' b=some cb:=ec;rw[q2] at fo; cases fo;rw[ab.bp] at hl;obtain⟨p1,p2,o,p3,p4⟩:=r.own b y _ (by rw[q3]; exact hy) hl q1 hv;exact⟨p1,.inl (hlb b hb _ y q1 hy hl hv),o,p3,p4.dk (p:=λ_=>True) (λx u _ d=>sQ x u d) (ab.all_true _)⟩
  aN:=λb blk cb e hl ec hv=>by
   obtain⟨hb,y,hy,rfl⟩:=sk b blk e hl;obtain⟨vp,q1,q2,q3⟩:=jC b (w_ b hb);have fo:c' b=some cb:=ec;rw[q2] at fo; cases fo;rw[ab.bp] at hl;have:=r.aN b y _ (by rw[q3]; exact hy) hl q1 hv;subst this; rfl
  inj:=λb b' blk blk' cb cV e1 e2 l1 l2 c1 c2 v1 v2 gu=>by
   obtain⟨hb,y,hy,rfl⟩:=sk b blk e1 l1;obtain⟨bq,y',Ig,rfl⟩:=sk b' blk' e2 l2;obtain⟨vp,q1,q2,q3⟩:=jC b (w_ b hb);obtain⟨Ww,LD,q2',q3'⟩:=jC b' (w_ b' bq);have rJ:c' b=some cb:=c1;have pt:c' b'=some cV:=c2;rw[q2] at rJ; cases rJ;rw[q2'] at pt; cases pt;rw[ab.bp] at l1 l2;exact r.inj b b' y y' _ _ (by rw[q3]; exact hy) (by rw[q3']; exact Ig) l1 l2 q1 LD v1 v2 gu }
 have uQ:bZ ⟨g.M,c'⟩ (fg (nj σ.length) xs) vs:=by
  refine bZ.jH (by rw[Qy]; exact hx.length) (λi y u e1 e2=>?_);obtain⟨x,q1,rfl⟩:=C_ e1;exact sQ x u (hx.get i x u q1 e2)
 obtain⟨fn,c,h1,h2,h3,h4,h5⟩:=ok.ok;have d0:=Z2 uQ (n:=F.n) (by rw[Qy,hn]; exact ok.np);refine calls_of_wp h1 h2 ?_;rw[h3];refine wp_mono (h c h4 w ⟨lb,g.M⟩ _ _ w r0 d0) (λe a' w' hl=>?_);have fin:∀ g' ρ σ',(⟨g.M,c'⟩:Gm).Le g'→a_ GL w ⟨lb,g.M⟩ g' (hp σ') w'→df F.n g' ρ a'→(fW F.fh ρ σ'=some v∧σ'=τ')→∃ u,(results fn a'.tmps).run P w'=.ok u w'∧(∃ u',Ending.returned u=.returned u'∧∃ g2,g.Le g2 ∧
   a_ GL w0 L g2 (ca hq ((fp ++ List.range' σ.length k).map λb=>(b,(ah τ' b).dk (aa.bG (ee ids σ.length k))))) w'∧g2.den (v.bG (ee ids σ.length k)) u'):=by
  rintro g' ρ σ' hle hr hd ⟨oZ,rfl⟩;obtain⟨u,k1,k2⟩:=Dy hr hd h5 oZ
  let keys:=fp++List.range' σ.length k
  have sj:∀b,b∈keys↔b∈fp∨(σ.length≤b∧b<σ.length+k):=by
   intro b; simp only[keys,List.mem_append,List.mem_range'_1]
  let cF:Own:=λb=>if b∈keys then g'.c b else g.c b
  have kH:∀b∈keys,b<σ'.length:=by
   intro b hb;rcases (sj b).1 hb with q|q
   ·have:=ly b (w_ b q); omega
   ·omega
  have KQ:∀b cb,g.c b=some cb→cF b=some cb:=by
   intro b cb e;simp only[cF];split
   ·rename_i hb;rcases (sj b).1 hb with q|q
    ·obtain⟨vp,q1,q2,q3⟩:=jC b (w_ b q);rw[q1] at e; cases e;exact hle.c b _ q2
    ·have hn:hq b=none:=by
      have:=dH (b,_) (List.mem_map.2 ⟨b,hb,rfl⟩);rw[this]; simp[hp]; omega
     rw[r.dc b hn] at e; cases e
   ·exact e
  have yH:∀x u,g'.den x u→Den g'.M cF (x.bG (ee ids σ.length k)) u:=by
   intro x u d;refine d.bG (λb b' cb e1 e2=>?_);unfold ee at e1;obtain⟨e0,e1⟩:=Qx e1;cases e1;by_cases hb:b∈keys
   ·simp only[cF]; rw[if_pos hb]; exact e2
   ·simp only[Bool.or_eq_true,Bool.and_eq_true] at e0;rcases e0 with q|⟨q1,q2⟩
    ·obtain⟨vp,p1,p2,p3⟩:=jC b (List.contains_iff_mem.1 q);have:=hle.c b vp p2;rw[e2] at this; cases this;exact KQ b _ p1
    ·have:=fQ q1;have:b<σ.length+k:=fQ q2;exact(hb ((sj b).2 (.inr (by omega)))).elim
  have hF:∀b,ca hq (keys.map λb=>(b,(ah σ' b).dk (aa.bG (ee ids σ.length k)))) b=if b∈keys then some ((ah σ' b).dk (aa.bG (ee ids σ.length k))) else hq b:=Mt _ keys hq
  have uG:∀q∈lb,∃b∈fp,∃cb y,g.c b=some cb∧hq b=some y∧y.live=true∧cb.cS=false∧q=cb.blk:=by
   intro q Ib;simp only[lb,List.mem_filterMap] at Ib;obtain⟨b,hb,e⟩:=Ib;obtain⟨vp,q1,_,q3⟩:=jC b (w_ b hb);rw[q1] at e;cases hs:σ[b]? with
   |none=>rw[hs] at e; cases e
   |some y=>
    rw[hs] at e;obtain⟨e1,e2⟩:=Qx e;simp only[Bool.and_eq_true,Bool.not_eq_true'] at e1;cases e2;exact⟨b,hb,vp,y,q1,by rw[q3]; exact hs,e1.1,e1.2,rfl⟩
  have z7:∀q∈lb,g.M q=none∧(q∈L.l∨w0.heap.size≤q):=by
   intro q Ib;obtain⟨b,hb,cb,y,q1,q2,q3,q4,rfl⟩:=uG q Ib;obtain⟨p1,p2,_⟩:=r.own b y cb q2 q3 q1 q4;exact⟨p1,p2⟩
  have qf:∀b blk cb,b∉keys→hq b=some blk→blk.live=true→g.c b=some cb→cb.cS=false→cb.blk∉lb:=by
   intro b blk cb hb e hl ec hv cv;obtain⟨b2,kG,nw,y,q1,q2,q3,q4,q5⟩:=uG _ cv;have:=r.inj b b2 blk y cb nw e q2 hl q3 ec q1 hv q4 q5;subst this;exact hb ((sj b).2 (.inl kG))
  have ei:=r.keeps.size;have sN:∀b,b∈keys→cF b=g'.c b:=λb hb=>by simp only[cF]; rw[if_pos hb]
  have qU:∀b,b∉keys→cF b=g.c b:=λb hb=>by simp only[cF]; rw[if_neg hb]
  have sa:∀ b,b∈keys→hp σ' b=some (ah σ' b):=λb hb=>He (kH b hb);refine⟨u,k1,u,rfl,⟨g'.M,cF⟩,⟨hle.m,λb cb e=>KQ b cb e⟩,?_,yH v u k2⟩;exact {
   keeps:=r.keeps.trans' hr.keeps.os hr.keeps.tape hr.keeps.output hr.keeps.size (λj hj H7=>hr.keeps.block j (by omega) (λcv=>by
    rcases (z7 j cv).2 with q|q
    ·exact H7 q
    ·omega))
   aJ:=hr.aJ
   src:=λb o e=>by
    rcases hr.src b o e with q|q|q
    ·exact r.src b o q
    ·exact .inr (.inl (by omega))
    ·rcases (z7 b q).2 with q|q
     ·exact .inr (.inr q)
     ·exact .inr (.inl q)
   bz:=λp gz=>(r.bz p gz).mono hle.m (eF.refl _)
   dc:=λb e=>by
    rw[hF] at e;split at e
    ·cases e
    ·rename_i hb;show cF b=none;rw[qU b hb]; exact r.dc b e
   ig:=λb blk e=>by
    rw[hF] at e;show ∃cb,cF b=some cb;split at e
    ·rename_i hb;rw[sN b hb]; exact hr.ig b _ (sa b hb)
    ·rename_i hb;rw[qU b hb]; exact r.ig b blk e
   own:=λb blk cb e hl ec hv=>by
    rw[hF] at e;have fo:cF b=some cb:=ec;split at e
    ·rename_i hb;cases e;rw[ab.bp] at hl;rw[sN b hb] at fo;obtain⟨p1,p2,o,p3,p4⟩:=hr.own b _ cb (sa b hb) hl fo hv;refine⟨p1,?_,o,p3,p4.dk (p:=λ_=>True) (λx u _ d=>yH x u d) (ab.all_true _)⟩;rcases p2 with q|q
     ·exact(z7 _ q).2
     ·exact .inr (by omega)
    ·rename_i hb;rw[qU b hb] at fo;obtain⟨p1,p2,o,p3,p4⟩:=r.own b blk cb e hl fo hv;have xc:=r.dh e hl fo hv;have rh:=qf b blk cb hb e hl fo hv;refine⟨?_,p2,o,by rw[hr.keeps.block _ xc rh]; exact p3,p4.mono hle.m (λb cb e=>KQ b cb e)⟩;show g'.M cb.blk=none;cases hm:g'.M cb.blk with
     |none=>rfl
     |some x=>
      rcases hr.src _ _ hm with q|q|q
      ·have q:g.M cb.blk=some x:=q;rw[p1] at q; cases q
      ·omega
      ·exact(rh q).elim
   aN:=λb blk cb e hl ec hv=>by
    rw[hF] at e;have fo:cF b=some cb:=ec;split at e
    ·rename_i hb;cases e;rw[ab.bp] at hl;rw[sN b hb] at fo;rw[hr.aN b _ cb (sa b hb) hl fo hv]; rfl
    ·rename_i hb;rw[qU b hb] at fo;exact r.aN b blk cb e hl fo hv
   inj:=λb b' blk blk' cb cV e1 e2 l1 l2 c1 c2 v1 v2 gu=>by
    rw[hF] at e1 e2;have rJ:cF b=some cb:=c1;have pt:cF b'=some cV:=c2;have yn:∀b b' blk' cb cV,b∈keys→b'∉keys→(ah σ' b).live=true→g'.c b=some cb→cb.cS=false→hq b'=some blk'→blk'.live=true→g.c b'=some cV→cV.cS=false→cb.blk=cV.blk→False:=by
     intro b b' blk' cb cV hb bq hl hc hv e' kP P0 ni he;obtain⟨_,p2,_⟩:=hr.own b _ cb (sa b hb) hl hc hv;have xc:=r.dh e' kP P0 ni;have rh:=qf b' blk' cV bq e' kP P0 ni;rcases p2 with q|q
     ·rw[he] at q; exact rh q
     ·omega
    split at e1
    ·rename_i hb;cases e1;rw[ab.bp] at l1;rw[sN b hb] at rJ;split at e2
     ·rename_i bq;cases e2;rw[ab.bp] at l2;rw[sN b' bq] at pt;exact hr.inj b b' _ _ cb cV (sa b hb) (sa b' bq) l1 l2 rJ pt v1 v2 gu
     ·rename_i bq;rw[qU b' bq] at pt;exact(yn b b' blk' cb cV hb bq l1 rJ v1 e2 l2 pt v2 gu).elim
    ·rename_i hb;rw[qU b hb] at rJ;split at e2
     ·rename_i bq;cases e2;rw[ab.bp] at l2;rw[sN b' bq] at pt;exact(yn b' b blk cV cb bq hb l2 pt v2 e1 l1 rJ v1 gu.symm).elim
     ·rename_i bq;rw[qU b' bq] at pt;exact r.inj b b' blk blk' cb cV e1 e2 l1 l2 rJ pt v1 v2 gu }
 cases e with
 |normal=>obtain⟨g',ρ,σ,k1,k2,k3,k4⟩:=hl; exact⟨k3.defers,fin g' ρ σ k1 k2 k3 k4.2⟩
 |ret=>obtain⟨g',ρ,σ,k1,k2,k3,k4⟩:=hl; exact⟨k3.defers,fin g' ρ σ k1 k2 k3 k4.2⟩
 |exit id=>obtain⟨g',ρ,σ,k1,k2,k3,k4⟩:=hl; rcases k4.1 with q|q<;>cases q
 |_=>exact hl.elim
theorem Hz(hP:P.follows .mixedOrders=true){k:MK}{xs ys zs:List aa}{f:FuncId}(hc:Ys k xs=some (f,ys)){np:Nat}{g:aq}(hg:iV P GL f np g)(hn:ys.length=np){σ τ τ':List ab}(fp ids:List Nat){v:aa}{m:Nat}(w_:∀b∈fp,b∈ids)(ly:∀b∈ids,b<σ.length)
 (sU:fg (nj σ.length) ys=zs)(hτ:lj fp σ=τ)(h:g (W P GL) zs τ (λv' s=>v'=v∧s=τ'))(hk:τ'.length=σ.length+m)
 {K:aa→List Nat×List Nat→List ab→Prop}{u:aa}{up:List (Nat×ab)}{σ':List ab}(hv:v.bG (ee ids σ.length m)=u)(dH:((fp++List.range' σ.length m).map λb=>(b,(ah τ' b).dk (aa.bG (ee ids σ.length m))))=up)(hu:gy σ up=some σ')(hK:K u (ids,up.map (·.1)) σ'):(W P GL).aE k xs σ K:=by
 subst hv; subst dH;have Ap:zs.length=np:=by rw[←sU,Qy,hn]
 obtain⟨F,h1,h2,h3⟩:=hg.x9 hP (Db P GL) Ap h;refine Y0 hc hg.plain (RN h1 (hn.trans h2.symm) σ fp ids w_ ly sU hτ (h3.mono λe ρ s q=>?_) hk) hu hK;obtain⟨q1,v',q2,rfl,rfl⟩:=q;exact⟨q1,q2,rfl⟩
end
end Go.Ah
end
section
namespace Go.Ah
section
variable {P:Program} {GL:aA}
theorem Zy(hP:P.follows .mixedOrders=true){f:FuncId}{np:Nat}{g:aq}(hg:iV P GL f np g){xs:List aa}(hn:xs.length=np){y:aa}(h:g (W P GL) xs [] (λv' σ=>∃rd,aS (hp σ) rd v' y)):cm P GL f xs y:=by
 obtain⟨F,h1,h2,h3⟩:=hg.x9 hP (Db P GL) hn h;intro w M vs hM hg hx;have r0:=a_.start (GL:=GL) w M hM hg;have hh:hp []=pj:=by funext b; simp[hp,pj]
 rw[←hh] at r0;refine(X9 h1 (hn.trans h2.symm) h3 w ⟨[],M⟩ ⟨M,aV⟩ w vs r0 hx).mono ?_;rintro e w' ⟨u,he,g',x,σ',⟨rd,hR⟩,hle,r,d⟩
 let M2:Nat→Option Obj:=λb=>if b<w.heap.size then g'.M b else w'.heap[b]?
 have tg:xS g' (hp σ') w' M2:=by
  refine⟨λb o e=>?_,λb blk cb o e1 e2 e3 e4 e5=>?_⟩
  ·show (if b<w.heap.size then g'.M b else w'.heap[b]?)=some o;split
   ·exact e
   ·exact r.aJ b o e
  ·obtain⟨_,cv,_⟩:=r.own b blk cb e1 e2 e3 e4;show (if cb.blk<w.heap.size then g'.M cb.blk else w'.heap[cb.blk]?)=some o;rcases cv with cv|cv
   ·simp at cv
   ·rw[if_neg (by omega)]; exact e5
 have tl:=hR GL w ⟨[],M⟩ g' (hp σ') w' M2 r tg (λ_ _=>rfl) u d;refine⟨u,he,r.keeps,M2,λb o e=>tg.1 b o (hle.m b o e),λb o e=>?_,λb o e=>?_,tl⟩
 ·have e':(if b<w.heap.size then g'.M b else w'.heap[b]?)=some o:=e;split at e'
  ·exact r.aJ b o e'
  ·exact e'
 ·have e':(if b<w.heap.size then g'.M b else w'.heap[b]?)=some o:=e;split at e'
  ·rcases r.src b o e' with q|q|q
   ·exact .inl q
   ·exact .inr q
   ·simp at q
  ·exact .inr (by omega)
theorem aS.aG{h0:Hp}{rd:List Nat}{xs ys:List aa}(h1:bM h0 rd xs ys):aS h0 rd (.aG xs) (.aG ys):=by
 intro GL w0 L g h w M2 r hM cB v d;cases d with
 |aG _ _ vs hs hd=>
  obtain⟨hl,pB⟩:=h1.get r hM cB (vs:=vs.toList) (by simp[hs]) (λi x v e1 e2=>hd i x v e1 (by simpa using e2));exact .aG _ _ _ (by simpa[hs] using hl.symm) (λi x v e1 e2=>pB i x v e1 (by simpa using e2))
theorem aS.jl{h0:Hp}{rd:List Nat}{x y z:aa}(h:aS h0 rd x y)(k:∀(M:Nat→Option Obj) (u:Value),Den M aV y u→Den M aV z u):aS h0 rd x z:=
 λGL w0 L g h' w M2 r hM cB v d=>k M2 v (h GL w0 L g h' w M2 r hM cB v d)
theorem Den.u4{M:Nat→Option Obj}{c:Own}{e n:Bool}{sz:Nat}{rows:List (List aa)}{u:Value}(h:Den M c (.ax e n sz rows) u):Den M c (.ax false false sz rows) u:=by
 cases h with
 |ax _ _ _ _ _ a cap blk off f q1 q2 q3 q4 q5 q6 q7 q8=>exact .ax _ _ _ _ _ a cap blk off f (λh=>by cases h) (λh=>by cases h) q3 q4 q5 q6 q7 q8
theorem Den.eU{M:Nat→Option Obj}{c:Own}{u:Value}(sz:Nat)(h:Den M c .af u):Den M c (.ax false false sz []) u:=by
 cases h with
 |af=>exact .ax _ _ _ _ [] none 0 0 0 (λ_ _=>undef) (λh=>by cases h) (λh=>by cases h) (λh=>(h rfl).elim) (λ_=>rfl) (by simp) (by simp) (by simp) (by simp)
theorem bM.ro{h0:Hp}{rd:List Nat}:∀ {l:List aa},el l=true→bM h0 rd l l
 |[],_=>bM.nil
 |x::l,h=>by
  simp only[el,Bool.and_eq_true] at h;exact bM.cons (aS.ro h.1) (bM.ro h.2)
theorem aS.own{σ:List ab}{rd:List Nat}{b off len sz:Nat}{ex:Bool}{rs rows:List (List aa)}(hb:ah σ b=.rows sz rs)(cv:b∈rd)(hle:off+len≤rs.length)(hc:cut off (off+len) rs=rows)(jO:∀r∈rs,el r=true):aS (hp σ) rd (.sl b off len ex) (.ax false false sz rows):=by
 refine aS.jl (y:=.ax ex false sz rows) ?_ (λM u d=>d.u4);have bq:hp σ b=some (.rows sz rs):=ZE hb (by simp);subst hc;refine aS.sl bq cv hle (QQ hle▸by omega) (λi row row' q1 q2=>?_);have hi:i<len:=by
  have:=(cJ q2).1;rw[QQ hle] at this; omega
 have:(cut off (off+len) rs)[i]?=rs[off+i]?:=by
  unfold cut;rw[List.getElem?_drop,List.getElem?_take_of_lt (by omega)]
 rw[this,q1] at q2; cases q2;exact bM.ro (jO _ (List.mem_of_getElem? q1))
theorem Jo(l:List (List aa))(n:Nat)(h:n=l.length):cut 0 (0+n) l=l:=by subst h; simp[cut]
theorem ZP{k:MK}{xs ys zs:List aa}{f:FuncId}{v:aa}{rd:List Nat}(h:cm P GL f zs v){σ:List ab}(hc:Ys k xs=some (f,ys))(gz:Xl P f=true)(hb:bM (hp σ) rd ys zs)(hv:v.flat=true){K:aa→List ab→Prop}(hK:K v σ):(W P GL).call k xs σ K:=
 QO hc gz (h.rn hb hv) (Yl σ) hK
theorem GY{k:MK}{xs ys zs:List aa}{f:FuncId}{v:aa}{rd:List Nat}(h:cm P GL f zs v){σ:List ab}(hc:Ys k xs=some (f,ys))(gz:Xl P f=true)(hb:bM (hp σ) rd ys zs)(hv:v.flat=true){K:aa→List Nat×List Nat→List ab→Prop}(hK:K v (rd,[]) σ):(W P GL).aE k xs σ K:=
 Y0 hc gz (h.rn hb hv) (Yl σ) hK
theorem VN{k:MK}{xs ys zs:List aa}{f:FuncId}{v:aa}{bs:List ab}{rd:List Nat}(h:cE P GL f zs v bs){σ:List ab}(hc:Ys k xs=some (f,ys))(gz:Xl P f=true)(hb:bM (hp σ) rd ys zs)(hv:v.cA=true)(EP:xY bs=true){K:aa→List ab→Prop}(hK:K (v.bG (ZB σ.length)) (σ++Zw σ.length bs)):(W P GL).call k xs σ K:=
 QO hc gz (h.rn hb hv EP (λi _=>by simp[hp])) (Q6 _ σ) hK
end
end Go.Ah
end
section
namespace Go.Ah
section
variable {H:Type}
def DL(M:Nat→Option Obj)(xs:List aa)(cs:List Value):Prop:=xs.length=cs.length∧∀(i:Nat) (x:aa) (v:Value),xs[i]?=some x→cs[i]?=some v→Den M aV x v
theorem DL.nil{M:Nat→Option Obj}:DL M [] []:=⟨rfl,λi x v h=>by simp at h⟩
theorem DL.one{M:Nat→Option Obj}{x:aa}{v:Value}(h:Den M aV x v):DL M [x] [v]:=by
 refine⟨rfl,λi y u h1 h2=>?_⟩;cases i with
 |zero=>simp at h1 h2; subst h1; subst h2; exact h
 |succ i=>simp at h1
theorem DL.append{M:Nat→Option Obj}{xs ys:List aa}{cs ds:List Value}(h:DL M xs cs)(k:DL M ys ds):DL M (xs++ys) (cs++ds):=by
 refine⟨by simp[h.1,k.1],λi x v h1 h2=>?_⟩;by_cases hi:i<xs.length
 ·rw[List.getElem?_append_left hi] at h1;rw[List.getElem?_append_left (by rw[←h.1]; exact hi)] at h2;exact h.2 i x v h1 h2
 ·rw[List.getElem?_append_right (by omega)] at h1;rw[List.getElem?_append_right (by rw[←h.1]; omega),←h.1] at h2;exact k.2 _ x v h1 h2
def vF{α β γ:Type}(R:α→β→γ→Prop):List α→List β→List γ→Prop
 |[],[],[]=>True
 |a::us,b::bs,c::cs=>R a b c∧vF R us bs cs
 |_,_,_=>False
def qx{α β:Type}(R:α→β→Prop):List α→List β→Prop
 |[],[]=>True
 |a::us,b::bs=>R a b∧qx R us bs
 |_,_=>False
theorem vF.cons{α β γ:Type}{R:α→β→γ→Prop}{a:α}{us:List α}{bs:List β}{cs:List γ}(h:vF R (a::us) bs cs):∃b Ec c Eu,bs=b::Ec∧cs=c::Eu∧R a b c∧vF R us Ec Eu:=by
 match bs,cs,h with
 |b::bs,c::cs,h=>exact⟨b,bs,c,cs,rfl,rfl,h.1,h.2⟩
theorem vF.nil{α β γ:Type}{R:α→β→γ→Prop}{bs:List β}{cs:List γ}(h:vF R [] bs cs):bs=[]∧cs=[]:=by
 match bs,cs,h with
 |[],[],_=>exact⟨rfl,rfl⟩
theorem qx.cons{α β:Type}{R:α→β→Prop}{a:α}{us:List α}{bs:List β}(h:qx R (a::us) bs):∃b Ec,bs=b::Ec∧R a b∧qx R us Ec:=by
 match bs,h with
 |b::bs,h=>exact⟨b,bs,rfl,h.1,h.2⟩
theorem qx.length{α β:Type}{R:α→β→Prop}:∀ {us:List α} {bs:List β},qx R us bs→us.length=bs.length
 |[],[],_=>rfl
 |_::_,_::_,h=>by simp[qx.length h.2]
 |[],_::_,h=>h.elim
 |_::_,[],h=>h.elim
def Typed(P:Program):Nat→TypeId→List aa→DataW H→Prop
 |0,_,_,_=>False
 |fuel+1,t,xs,d=>match P.underlying t with
  |some .bool=>∃b,xs=[.bool b]∧d=.lit (.bool b)
  |some (.int k)=>∃n,xs=[.int k n]∧(Lit.int k n).wf=true∧d=.lit (.int k n)
  |some .string=>∃s,xs=[.str s]∧d=.lit (.string s)
  |some (.slice e)=>∃rows,xs=[.ax false false (P.cellsOf e) rows]∧((rows=[]∧d=.nil)∨∃es sp,d=.slice es sp∧qx (Typed P fuel e) rows es)
  |some (.struct fs)=>∃parts ds,xs=parts.flatten∧d=.agg ds∧vF (Typed P fuel) (fs.toList.map (·.type)) parts ds
  |some (.array n e)=>∃parts ds,xs=parts.flatten∧d=.agg ds∧parts.length=n∧qx (Typed P fuel e) parts ds
  |_=>False
def nR(P:Program):Nat→List Field→Option Nat
 |o,[]=>some o
 |o,f::r=>bif Nat.beq f.offset o then nR P (o+P.cellsOf f.type) r else none
def xR(P:Program)(S:List TypeId)(t:TypeId):Bool:=match P.underlying t with
 |some .bool=>Nat.beq (P.cellsOf t) 1
 |some (.int _)=>Nat.beq (P.cellsOf t) 1
 |some .string=>Nat.beq (P.cellsOf t) 1
 |some (.slice e)=>Nat.beq (P.cellsOf t) 1&&(Nat.blt 0 (P.cellsOf e)&&S.contains e)
 | some (.struct fs)=>(match nR P 0 fs.toList with
  |some n=>Nat.beq n (P.cellsOf t)
  | none=>false) && fs.toList.all λf=>S.contains f.type
 |some (.array n e)=>Nat.beq (P.cellsOf t) (n*P.cellsOf e)&&S.contains e
 |_=>false
variable {enc:TypeId×Value→H} {P:Program} {w:World} {base:Nat} {spare:Nat→Bool} {held:Bool}
theorem Hx{α β:Type}{f:α→Option β}:∀ {l:List α} {r:List β},l.mapM f=some r→qx (λa b=>f a=some b) l r
 |[],r,h=>by simp at h; subst h; trivial
 |a::l,r,h=>by
  rw[List.mapM_cons] at h;cases ha:f a with
  |none=>simp[ha] at h
  |some b=>
   cases hl:l.mapM f with
   |none=>simp[ha,hl] at h
   |some bs=>simp[ha,hl] at h; subst h; exact⟨ha,Hx hl⟩
def DE(enc:TypeId×Value→H)(P:Program)(w:World)(base:Nat)(spare:Nat→Bool)(held:Bool)(fuel:Nat)(t:TypeId)(cs:List Value)(d:DataW H):Prop:=∃ps,DataW.trod enc P w base spare held fuel t cs=some (d,ps)
def vB(enc:TypeId×Value→H)(P:Program)(w:World)(base:Nat)(spare:Nat→Bool)(held:Bool)(fuel:Nat)(t:TypeId):Prop:=
 ∀cs d,DE enc P w base spare held fuel t cs d→cs.length=P.cellsOf t∧∃xs,DL (λb=>w.heap[b]?) xs cs∧Typed P fuel t xs d
theorem ID{a:Addr}{v:Value}(h:w.cell? a=some v):a.spot=none∧fL (λb=>w.heap[b]?) a.block a.off=some v:=by
 unfold World.cell? at h;show _∧(match w.heap[a.block]? with
  |some (.cells c _ _)=>c[a.off]?
  | _=>none)=some v
 cases hb:w.heap[a.block]? with
 |none=>rw[hb] at h; cases h
 |some o=>
  rw[hb] at h;cases o with
  |cells c t fr=>
   simp only at h;split at h
   ·cases h
   ·rename_i hs;exact⟨by simpa using hs,h⟩
  |_=>cases h
theorem O8(a:Addr)(n:Nat):(a.add n).block=a.block:=by unfold Addr.add; split<;>rfl
theorem Oc(a:Addr)(n:Nat):(a.add n).off=a.off+n:=by unfold Addr.add; split<;>simp_all
theorem OL{fuel:Nat}{cs:List Value}:∀ {fs:List Field} {o n:Nat} {xs:List (DataW H×List MemPlace)},nR P o fs=some n→n≤cs.length→(∀f∈fs,vB enc P w base spare held fuel f.type) →
  qx (λ(f:Field) y=>DataW.trod enc P w base spare held fuel f.type ((cs.drop f.offset).take (P.cellsOf f.type))=some y) fs xs→o≤n ∧
  ∃parts,DL (λb=>w.heap[b]?) parts.flatten ((cs.take n).drop o)∧vF (Typed P fuel) (fs.map (·.type)) parts (xs.map (·.1))
 |[],o,n,xs,ht,hn,hf,h=>by
  simp only[nR,Option.some.injEq] at ht;subst ht
  match xs,h with
  |[],_=>
   refine⟨Nat.le_refl _,[],?_,trivial⟩;have:(cs.take o).drop o=[]:=by simp
   rw[this]; exact DL.nil
 |f::fs,o,n,xs,ht,hn,hf,h=>by
  simp only[nR] at ht;cases hb:Nat.beq f.offset o with
  |false=>rw[hb] at ht; cases ht
  |true=>
   rw[hb] at ht;have ho:=eZ hb;obtain⟨y,ys,rfl,h1,h2⟩:=h.cons;obtain⟨hle,parts,hd,h3⟩:=OL ht hn (λg hg=>hf g (List.mem_cons_of_mem _ hg)) h2;obtain⟨hl,p,hp,hy⟩:=hf f (List.mem_cons_self ..) _ _ ⟨y.2,h1⟩;refine⟨by omega,p::parts,?_,hy,h3⟩;have e:(cs.take n).drop o=(cs.drop f.offset).take (P.cellsOf f.type)++(cs.take n).drop (o+P.cellsOf f.type):=by
    have e1:(cs.take n).drop o=((cs.take n).drop o).take (P.cellsOf f.type)++((cs.take n).drop o).drop (P.cellsOf f.type):=(List.take_append_drop _ _).symm;rw[e1,List.drop_drop,ho]
    congr 1
    rw[List.drop_take,List.take_take]
    congr 1
    omega
   rw[List.flatten_cons,e];exact hp.append hd
theorem OP{fuel:Nat}{e:TypeId}{cs:List Value}(hf:vB enc P w base spare held fuel e):∀ {n o:Nat} {xs:List (DataW H×List MemPlace)},(o+n)*P.cellsOf e≤cs.length →
  qx (λ(i:Nat) y=>DataW.trod enc P w base spare held fuel e ((cs.drop (i*P.cellsOf e)).take (P.cellsOf e))=some y) (List.range' o n) xs →
  ∃parts,DL (λb=>w.heap[b]?) parts.flatten ((cs.take ((o+n)*P.cellsOf e)).drop (o*P.cellsOf e))∧parts.length=n∧qx (Typed P fuel e) parts (xs.map (·.1))
 |0,o,xs,hn,h=>by
  match xs,h with
  |[],_=>
   refine⟨[],?_,rfl,trivial⟩;have:(cs.take ((o+0)*P.cellsOf e)).drop (o*P.cellsOf e)=[]:=by simp
   rw[this]; exact DL.nil
 |n+1,o,xs,hn,h=>by
  rw[List.range'_succ] at h;obtain⟨y,ys,rfl,h1,h2⟩:=h.cons;have iB:(o+1+n)*P.cellsOf e≤cs.length:=by rw[show o+1+n=o+(n+1) by omega]; exact hn
  obtain⟨parts,hd,h3,h4⟩:=OP hf iB h2;obtain⟨hl,p,hp,hy⟩:=hf _ _ ⟨y.2,h1⟩;refine⟨p::parts,?_,by simp[h3],hy,h4⟩;have hs:(o+1)*P.cellsOf e=o*P.cellsOf e+P.cellsOf e:=by rw[Nat.add_mul,Nat.one_mul]
  have hm:(o+1)*P.cellsOf e≤(o+(n+1))*P.cellsOf e:=Nat.mul_le_mul_right _ (by omega);have e1:(cs.take ((o+(n+1))*P.cellsOf e)).drop (o*P.cellsOf e)=(cs.drop (o*P.cellsOf e)).take (P.cellsOf e)++(cs.take ((o+1+n)*P.cellsOf e)).drop ((o+1)*P.cellsOf e):=by
   rw[show o+1+n=o+(n+1) by omega,hs];have e2:(cs.take ((o+(n+1))*P.cellsOf e)).drop (o*P.cellsOf e)=((cs.take ((o+(n+1))*P.cellsOf e)).drop (o*P.cellsOf e)).take (P.cellsOf e)++((cs.take ((o+(n+1))*P.cellsOf e)).drop (o*P.cellsOf e)).drop (P.cellsOf e):=(List.take_append_drop _ _).symm;rw[e2,List.drop_drop]
   congr 1
   rw[List.drop_take,List.take_take]
   congr 1
   omega
  rw[List.flatten_cons,e1];exact hp.append hd
theorem Nw{fuel:Nat}{e:TypeId}{a:Addr}(hf:vB enc P w base spare held fuel e)(oY:0<P.cellsOf e):∀ {n o:Nat} {xs:List (DataW H×List MemPlace)},
  qx (λ(i:Nat) y=>(w.cells? base (a.add (i*P.cellsOf e)) (P.cellsOf e)).bind (DataW.trod enc P w base spare held fuel e)=some y) (List.range' o n) xs →
  ∃(rows:List (List aa)) (f:Nat→Nat→Value),rows.length=n∧qx (Typed P fuel e) rows (xs.map (·.1))∧(n≠0→o=0→a.spot=none)∧(∀(i:Nat) (row:List aa),rows[i]?=some row→row.length=P.cellsOf e) ∧
   (∀i j,i<n→j<P.cellsOf e→fL (λb=>w.heap[b]?) a.block (a.off+((o+i)*P.cellsOf e+j))=some (f i j))∧(∀(i:Nat) (row:List aa) (j:Nat) (x:aa),rows[i]?=some row→row[j]?=some x→Den (λb=>w.heap[b]?) aV x (f i j))
 |0,o,xs,h=>by
  match xs,h with
  |[],_=>exact⟨[],λ_ _=>undef,rfl,trivial,λh _=>(h rfl).elim,by simp,by intro i j hi; omega,by simp⟩
 |n+1,o,xs,h=>by
  rw[List.range'_succ] at h;obtain⟨y,ys,rfl,h1,h2⟩:=h.cons;obtain⟨rows,f,q1,q2,q3,q4,q5,q6⟩:=Nw hf oY h2;obtain⟨cs,hc,hy⟩:=Option.bind_eq_some_iff.1 h1;obtain⟨_,hl,sf⟩:=World.cells?_some hc;obtain⟨_,xs0,hd,Dm⟩:=hf cs y.1 ⟨y.2,hy⟩;have sa:∀j,j<P.cellsOf e→∃v,cs[j]?=some v∧fL (λb=>w.heap[b]?) a.block (a.off+o*P.cellsOf e+j)=some v:=by
   intro j hj;obtain⟨v,hv⟩:∃v,cs[j]?=some v:=⟨cs[j]'(by omega),by simp[show j<cs.length by omega]⟩;have:=sf j hj;rw[hv] at this;obtain⟨m1,m2⟩:=ID this;rw[O8,O8,Oc,Oc] at m2;exact⟨v,hv,m2⟩
  refine⟨xs0::rows,λi j=>match i with|0=>(cs[j]?).getD undef|i+1=>f i j,by simp[q1],⟨Dm,q2⟩,λ_ ho=>?_,?_,?_,?_⟩
  ·have:=sf 0 oY;rw[show cs[0]?=some (cs[0]'(by omega)) by simp[show 0<cs.length by omega]] at this;have:=(ID this).1;subst ho;simpa[Addr.add] using this
  ·intro i row hr;cases i with
   |zero=>simp at hr; subst hr; rw[hd.1,hl]
   |succ i=>exact q4 i row (by simpa using hr)
  ·intro i j hi hj;cases i with
   |zero=>
    obtain⟨v,e1,e2⟩:=sa j hj;simp only[e1,Option.getD_some,Nat.add_zero];rw[←Nat.add_assoc]; exact e2
   |succ i=>
    have:=q5 i j (by omega) hj;rw[show o+(i+1)=o+1+i by omega];exact this
  ·intro i row j x hr hx;cases i with
   |zero=>
    simp at hr; subst hr;have hj:j<cs.length:=by rw[←hd.1]; exact(cJ hx).1
    have hv:cs[j]?=some cs[j]:=by simp[hj]
    simp only[hv,Option.getD_some];exact hd.2 j x _ hx hv
   |succ i=>exact q6 i row j x (by simpa using hr) hx
theorem HF{S:List TypeId}(hS:S.all (xR P S)=true):∀(fuel:Nat) (t:TypeId),t∈S→vB enc P w base spare held fuel t
 |0,t,_=>by
  rintro cs d ⟨ps,h⟩;simp[DataW.trod] at h
 |fuel+1,t,ht=>by
  rintro cs d ⟨ps,h⟩;have de:=List.all_eq_true.1 hS t ht;have ih:=λt ht=>HF hS fuel t ht;unfold xR at de;unfold DataW.trod at h;split at h
  case h_1=>
   rename_i hu;rw[hu] at de;cases h;exact⟨(eZ de).symm,_,DL.one (.bool _ _),by unfold Typed; rw[hu]; exact⟨_,rfl,rfl⟩⟩
  case h_2=>
   rename_i hu;rw[hu] at de;split at h
   ·rename_i hk;obtain⟨rfl,hw⟩:=hk;cases h;exact⟨(eZ de).symm,_,DL.one (.int _ _ _),by unfold Typed; rw[hu]; exact⟨_,rfl,hw,rfl⟩⟩
   ·cases h
  case h_4=>
   rename_i hu;rw[hu] at de;split at h
   ·cases h;exact⟨(eZ de).symm,_,DL.one (.str _ _),by unfold Typed; rw[hu]; exact⟨_,rfl,rfl⟩⟩
   ·cases h
  case h_7=>
   rename_i e hu;rw[hu] at de;simp only[Bool.and_eq_true] at de;cases h;refine⟨(eZ de.1).symm,_,DL.one (Den.eU (P.cellsOf e) (.af _)),?_⟩;unfold Typed; rw[hu]; exact⟨[],rfl,.inl ⟨rfl,rfl⟩⟩
  case h_8=>
   rename_i e a len cap hu;rw[hu] at de;simp only[Bool.and_eq_true] at de;obtain⟨k1,k2,k3⟩:=de;have oY:0<P.cellsOf e:=fQ k2;simp only at h;split at h
   ·rename_i hc;obtain⟨br,he,h⟩:=Option.bind_eq_some_iff.1 h;obtain⟨rest,hr,h⟩:=Option.map_eq_some_iff.1 h;cases h;rw[List.range_eq_range'] at he;obtain⟨rows,f,q1,q2,q3,q4,q5,q6⟩:=Nw (ih e (List.contains_iff_mem.1 k3)) oY (Hx he);refine⟨(eZ k1).symm,[.ax false false (P.cellsOf e) rows],DL.one ?_,?_⟩
    ·rw[←q1];refine .ax _ false false (P.cellsOf e) rows (some a) cap a.block a.off f (λh=>by cases h) (λh=>by cases h) (λdL=>?_) (λh=>by cases h) (by rw[q1]; exact hc.2.1) q4 (λi j hi hj=>?_) q6
     ·have hn:len≠0:=λe=>dL (List.length_eq_zero_iff.1 (q1.trans e));have:=q3 hn rfl;cases a; simp at this; subst this; rfl
     ·have:=q5 i j (by omega) hj;rw[Nat.zero_add] at this; exact this
    ·unfold Typed; rw[hu]; exact⟨rows,rfl,.inr ⟨_,_,rfl,q2⟩⟩
   ·cases h
  case h_9=>
   rename_i fs hu;rw[hu] at de;simp only[Bool.and_eq_true] at de;obtain⟨k1,k2⟩:=de;split at h
   ·rename_i hl;obtain⟨xs,hx,h⟩:=Option.map_eq_some_iff.1 h;cases h;cases ht:nR P 0 fs.toList with
    |none=>rw[ht] at k1; cases k1
    |some n=>
     rw[ht] at k1;have hn:=eZ k1;obtain⟨_,parts,hd,h3⟩:=OL ht (by omega) (λg hg=>ih _ (List.contains_iff_mem.1 (List.all_eq_true.1 k2 g hg))) (Hx hx);refine⟨hl,parts.flatten,?_,?_⟩
     ·rw[List.drop_zero,List.take_of_length_le (by omega)] at hd; exact hd
     ·unfold Typed; rw[hu]; exact⟨parts,_,rfl,rfl,h3⟩
   ·cases h
  case h_10=>
   rename_i n e hu;rw[hu] at de;simp only[Bool.and_eq_true] at de;obtain⟨k1,k2⟩:=de;have hn:=eZ k1;split at h
   ·rename_i hl;obtain⟨xs,hx,h⟩:=Option.map_eq_some_iff.1 h;cases h;rw[List.range_eq_range'] at hx;obtain⟨parts,hd,h3,h4⟩:=OP (ih e (List.contains_iff_mem.1 k2)) (o:=0) (n:=n) (by rw[Nat.zero_add]; omega) (Hx hx);refine⟨hl,parts.flatten,?_,?_⟩
    ·rw[Nat.zero_mul,List.drop_zero,Nat.zero_add,List.take_of_length_le (by omega)] at hd; exact hd
    ·unfold Typed; rw[hu]; exact⟨parts,_,rfl,rfl,h3,h4⟩
   ·cases h
  all_goals first|(rename_i hu; rw[hu] at de; exact absurd (show false=true from de) (by decide))|cases h
end
end Go.Ah
end
section
namespace Go.Ah.Tz
open Go.Proofs.Tryz (prog)
set_option maxRecDepth 100000
abbrev GQ(f:FuncId)(n:Nat)(g:aq):Prop:=iV prog rH f n g
abbrev PC(f:FuncId)(xs:List aa)(v:aa):Prop:=cm prog rH f xs v
noncomputable abbrev VV:al Prop:=W prog rH
def g3:aq:=λA xs d g=>match xs with
 |[x0,x1,x2,x3,x4,x5]=>
 A.w1 Zm x0 d λh d=>A.w1 Zm x1 d λf d=>A.r (Zd true 2) h d λt2=>A.k 14 [t2] d λn d=>A.fr n (Zd true 23) f d λt4=>A.gw n false (λk=>A.k 15 [t4] d k) d λt5 d=>
 A.c n (.bool true) t5 d λi=>A.fr i (Zd true 2) h d λt7=>A.fr i (Zd true 23) f d λt8=>A.gw i false (λk=>A.k 16 [t7,t8] d k) d λt9 d=>
 A.fb i .neq t9 (jv 0) d λa5=>A.c i (.bool true) a5 d λo=>A.fr o Qi x2 d λa6=>A.fb o .lss a6 (jv 0) d λa7=>A.c o (.bool true) a7 d λp=>A.fr p Qi x2 d λa8=>
 A.fb p .gtr a8 (jv 1) d λa9=>A.c p (.bool true) a9 d λb0=>A.test b0 (A.k 17 [] d λb1 d=>g b1 d) (A.r (Zd true 2) h d λb2=>A.r (Zd true 23) f d λb3=>
 A.k 18 [b2,b3,x2] d λq d=>A.r (Xc 0) q d λb4=>A.r (Xc 1) q d λb5=>A.r (Xc 2) q d λb6=>A.wr (Xe dQ [] d) d λe d=>
 A.wr (Xe gB [] d) d λt d=>A.ws (Xb 23) e b4 d λ_ d=>A.ws (Xb 7) t b5 d λ_ d=>A.b .eql b6 (jv 0) d λb7=>au (λa1=>A.test b7 (
 A.r (Zd true 23) f d λb8=>A.k 19 [b8] d λb9 d=>A.wr (Xe dQ [] d) d λj d=>A.ws (Xb 23) j b9 d λ_ d=>A.r (Ya 7) e d λc0=>
 A.s (Yg 2 8) c0 x2 d λc1=>A.r (Zd true 8) c1 d λc2=>A.r (Ya 7) j d λc3=>A.s (Yg 2 8) c3 x2 d λc4=>A.ws (Xb 8) c4 c2 d λ_ d=>
 A.r (Ya 0) t d λc5=>A.a c5 d λc6=>A.b .eql c6 (.int .i8 4) d λc7=>au (λa2=>A.test c7 (A.pu (Yj .sub false [jv 1,x2] d) λc8=>
 A.pu (Yj .sub false [jv 1,x2] d) λc9=>A.pu (Ya 7 [j] d) λd0=>A.pu (Yg 2 8 [d0,c9] d) λd1=>A.pu (Ya 7 [d1] d) λd2=>
 A.dr (Xf [d2] d) d λd3 d4 d=>A.pu (Ya 2 [t] d) λd5=>A.dr (Xf [d5] d) d λd6 d7 d=>A.dr (Xi 1 1 [jv 0] [(0,1)] [d6] d) d λd8 d9 d=>
 A.dr (Qj 1 8 [d3,d8] d) d λe0 e1 d=>A.pu (Ya 7 [j] d) λe2=>A.pu (Yg 2 8 [e2,c8] d) λe3=>A.pu (Ya 7 [e3] d) λe4=>
 A.dr (Xb 1 [e4,e0] d) d λ_ e5 d=>A.gd (Zh [[],[0],[],[2],[],[2,3,4],[2,3,4,5],[2,3,4,5,6],[],[8],[8,9],[2,3,4,5,6,7,8,9,10],[],[0,1,2,3,4,5,6,7,8,9,10,11,12],[0,1,2,3,4,5,6,7,8,9,10,11,12,13],[0,1,2,3,4,5,6,7,8,9,10,11,12,13,14]] [([],[]),([],[]),([],[]),([],[]),([],[]),([],[]),([],[]),d4,([],[]),d7,d9,e1,([],[]),([],[]),([],[]),e5]) <|
 a2 [] d) (a2 [] d)) (λo1 d=>A.r (Zd true 23) e d λe6=>A.r (Zd true 23) j d λe7=>A.k 20 [e6,e7] d λe8 d=>A.r (Xp .not) e8 d λe9=>A.test e9 (
 g (.bool false) d) (a1 [] d))) (a1 [] d)) (λo2 d=>A.r (Zd true 2) h d λf0=>A.r (Zd true 23) f d λf1=>A.k 21 [f0,f1,x2,x3] d λu d=>A.r (Xc 0) u d λf2=>
 A.r (Xc 1) u d λf3=>A.r (Xc 2) u d λf4=>A.wr (Xe gB [] d) d λf5 d=>A.ws (Xb 23) e f2 d λ_ d=>A.ws (Xb 7) f5 f3 d λ_ d=>
 au (λa3=>A.test f4 (A.r (Zd true 23) f d λf6=>A.k 19 [f6] d λf7 d=>A.wr (Xe dQ [] d) d λl d=>A.ws (Xb 23) l f7 d λ_ d=>A.r (Ya 7) e d λf8=>
 A.s (Yg 2 8) f8 x2 d λf9=>A.r (Ya 6) f9 d λg0=>A.a g0 d λg1=>A.r (Ya 7) l d λg2=>A.s (Yg 2 8) g2 x2 d λg4=>
 A.r (Ya 6) g4 d λg5=>A.ws (Xb 1) g5 g1 d λ_ d=>A.r (Ya 6) e d λg6=>A.a g6 d λg7=>A.r (Ya 6) l d λg8=>A.ws (Xb 1) g8 g7 d λ_ d=>
 A.r (Zd true 23) e d λg9=>A.r (Zd true 23) l d λi0=>A.k 20 [g9,i0] d λi1 d=>A.r (Xp .not) i1 d λi2=>A.test i2 (g (.bool false) d) (a3 [] d)) (
 a3 [] d)) (λo3 d=>A.r (Zd true 2) h d λi3=>A.r (Zd true 23) f d λi4=>A.k 22 [i3,i4,x4,x2,x5] d λv d=>A.r (Xc 0) v d λi5=>
 A.r (Xc 1) v d λo4=>A.r (Xc 2) v d λi6=>A.ws (Xb 23) e i5 d λ_ d=>A.b .neq i6 (jv 0) d λi7=>A.test i7 (A.k 17 [] d λi9 d=>
 g i9 d) (A.r (Zd true 23) f d λj0=>A.k 19 [j0] d λj1 d=>A.wr (Xe dQ [] d) d λm d=>A.ws (Xb 23) m j1 d λ_ d=>A.r (Zd true 23) f d λj2=>
 A.k 23 [j2,x4] d λw d=>A.r (Xc 0) w d λy=>A.r (Xc 1) w d λz=>A.r (Xc 2) w d λj3=>A.r (Xp .not) j3 d λj4=>au (λa0=>
 A.test j4 (A.r (Ya 7) e d λj5=>A.s (Yg 2 8) j5 x2 d λj6=>A.r (Ya 0) j6 d λj7=>A.a j7 d λj8=>A.r (Ya 7) m d λj9=>
 A.s (Yg 2 8) j9 x2 d λl0=>A.r (Ya 0) l0 d λl1=>A.ws (Xb 1) l1 j8 d λ_ d=>a0 [] d) (A.r (Ya 7) e d λl2=>A.s (Yg 2 8) l2 y d λl3=>
 A.r (Ya 6) l3 d λl4=>A.a l4 d λl5=>A.r Yf l5 d λl6=>A.b .lss z l6 d λl7=>A.test l7 (A.pu (Ya 7 [m] d) λl8=>A.pu (Yg 2 8 [l8,y] d) λl9=>
 A.pu (Ya 6 [l9] d) λm0=>A.dr (Xf [m0] d) d λm1 m2 d=>A.pu (Ya 7 [e] d) λm3=>A.pu (Yg 2 8 [m3,y] d) λm4=>A.pu (Ya 6 [m4] d) λm5=>
 A.dr (Xf [m5] d) d λm6 m7 d=>A.dr (Yb 4 [m6,z] d) d λm8 m9 d=>A.pu (Ya 2 [m8] d) λn0=>A.dr (Xf [n0] d) d λn1 n2 d=>A.dr (Yb 4 [m1,z] d) d λn3 n4 d=>
 A.pu (Ya 2 [n3] d) λn5=>A.dr (Xb 1 [n5,n1] d) d λ_ n6 d=>A.gd (Zh [[],[],[0,1],[0,1,2],[0,1,2,3],[],[],[],[6,7],[6,7,8],[6,7,8,9],[],[6,7,8,9,10,11],[6,7,8,9,10,11,12],[6,7,8,9,10,11,12,13],[0,1,2,3,4,5,6,7,8,9,10,11,12,13,14],[0,1,2,3,4,5,6,7,8,9,10,11,12,13,14,15],[0,1,2,3,4,5,6,7,8,9,10,11,12,13,14,15,16]] [([],[]),([],[]),([],[]),([],[]),m2,([],[]),([],[]),([],[]),([],[]),([],[]),m7,([],[]),m9,([],[]),n2,n4,([],[]),n6]) <|
 a0 [] d) (a0 [] d))) (λo5 d=>A.r (Zd true 23) e d λn7=>A.r (Zd true 23) m d λn8=>A.k 20 [n7,n8] d λa4 d=>A.gw a4 true (λk=>A.k 17 [] d k) d λn9 d=>
 A.c a4 n9 (.bool false) d λo0=>g o0 d)))))
 |_=>A.stop
def g11:aq:=λA xs a m=>match xs with
 |[x0,x1,x2]=>
 A.w1 Zm x0 a λd a=>A.w1 Zm x1 a λe a=>A.r (Zd true 2) d a λt=>A.r (Zd true 23) e a λu=>A.k 43 [t,u,.af,x2] a λv a=>A.test v (
 A.k 44 [] a λw a=>m w a) (A.r (Zd true 2) d a λy=>A.r (Zd true 23) e a λz=>A.k 48 [y,z,x2] a λj a=>A.r (Xc 0) j a λt9=>A.r (Xc 1) j a λa0=>
 A.r (Xc 2) j a λa1=>A.wr (Xe dQ [] a) a λn a=>A.ws (Xb 23) n t9 a λ_ a=>A.r (Zd true 2) d a λa2=>A.r (Zd true 23) e a λa3=>
 A.k 49 [a2,a3,x2] a λl a=>A.r (Xc 0) l a λa4=>A.r (Xc 1) l a λa5=>A.r (Xc 2) l a λa6=>A.wr (Xe dQ [] a) a λo a=>
 A.ws (Xb 23) o a4 a λ_ a=>A.r (Zd true 2) d a λa7=>A.r (Zd true 23) e a λa8=>A.k 50 [a7,a8,x2] a λp a=>A.r (Xc 0) p a λa9=>
 A.r (Xc 1) p a λb0=>A.r (Zd true 2) d a λb1=>A.r (Zd true 23) e a λb2=>A.k 51 [b1,b2,x2] a λq a=>A.r (Xc 0) q a λb3=>
 A.r (Xc 1) q a λb4=>A.b .eql a1 a6 a λf=>A.tr f (Zd true 23) n a λb5=>A.tr f (Zd true 23) o a λb6=>A.gw f true (λk=>A.k 20 [b5,b6] a k) a λb7 a=>
 A.c f b7 (.bool false) a λg=>A.tr g Qi a0 a λb8=>A.tr g Qi a5 a λb9=>A.gw g true (λk=>A.k 47 [b8,b9] a k) a λc0 a=>A.c g c0 (.bool false) a λh=>
 A.tr h Qi a9 a λc1=>A.tr h Qi b3 a λc2=>A.tb h .eql c1 c2 a λc3=>A.c h c3 (.bool false) a λi=>A.tr i Qi b0 a λc4=>A.tr i Qi b4 a λc5=>
 A.tb i .eql c4 c5 a λc6=>A.c i c6 (.bool false) a λs=>A.gw s true (λk=>A.k 44 [] a k) a λc7 a=>A.c s c7 (.bool false) a λc8=>m c8 a)
 |_=>A.stop
theorem zw:GQ 11 3 g11:=jN [none] λ_ _ _ _ _ _ _=>by kernel_rfl
def g14:aq:=λA xs d h=>match xs with
 |[x0]=>
 A.w1 Zm x0 d λf d=>A.r (Ya 1) f d λi=>A.a i d λj=>A.r Yf j d λl=>A.loop (λm e d=>A.b .lss (h0 e) l d λn=>A.test n (A.r (Ya 1) f d λo=>
 A.a o d λp=>A.s (Yb 7) p (h0 e) d λq=>A.r (Ya 4) q d λt=>A.a t d λu=>A.r Yf u d λv=>A.b .add (jv 1) v d λw=>A.r (Ya 1) f d λy=>
 A.a y d λz=>A.s (Yb 7) z (h0 e) d λa0=>A.r (Ya 5) a0 d λa1=>A.a a1 d λa2=>A.r Yf a2 d λa3=>A.b .add w a3 d λa4=>A.b .add (h1 e) a4 d λa5=>
 A.b .add (h0 e) (jv 1) d λa6=>m [a6,a5] d) (A.b .gtr (h1 e) (jv 600) d λg=>A.fr g (Ya 0) f d λa7=>A.fa g a7 d λa8=>A.gw g false (λk=>A.k 52 [a8] d k) d λa9 d=>
 A.c g (.bool true) a9 d λb0=>h b0 d)) [jv 0,jv 0] d
 |_=>A.stop
def g16:aq:=λA xs a b=>match xs with
 |[x0,x1]=>
 A.w1 Zm x0 a λc a=>A.w1 Zm x1 a λd a=>A.r (Zd true 2) c a λe=>A.r (Zd true 23) d a λf=>A.k 25 [e,f,.bool false] a λg a=>A.r (Xp .not) g a λh=>
 A.test h (b (jv 170) a) (b (jv 0) a)
 |_=>A.stop
theorem uc:GQ 16 2 g16:=dR [none] λ_ _ _ _ _ _=>by kernel_rfl
def g17:aq:=λA xs a a5=>match xs with
 |[]=>
 A.k 53 [] a λy a=>A.r (Xc 0) y a λt1=>A.r (Xc 1) y a λt2=>A.wr (Xe [.af,.af] [] a) a λe a=>A.wr (Xe dQ [] a) a λh a=>
 A.ws (Xb 2) e t1 a λ_ a=>A.ws (Xb 23) h t2 a λ_ a=>A.r (Zd true 2) e a λt5=>A.r (Zd true 23) h a λt6=>A.k 54 [t5,t6,jv 1] a λo a=>
 A.r (Xc 0) o a λt8=>A.r (Xc 1) o a λt9=>A.r (Xc 2) o a λa6=>A.r (Zd true 2) e a λa7=>A.r (Zd true 23) h a λa8=>
 A.k 18 [a7,a8,jv 0] a λp a=>A.r (Xc 0) p a λa9=>A.r (Xc 1) p a λb0=>A.r (Xc 2) p a λb1=>A.wr (Xe dQ [] a) a λz a=>
 A.wr (Xe gB [] a) a λa0 a=>A.ws (Xb 23) z a9 a λ_ a=>A.ws (Xb 7) a0 b0 a λ_ a=>A.r (Zd true 2) e a λb2=>A.r (Zd true 23) h a λb3=>
 A.k 22 [b2,b3,jv 1,jv 0,jv 3] a λq a=>A.r (Xc 0) q a λb4=>A.r (Xc 1) q a λb5=>A.r (Xc 2) q a λb6=>A.wr (Xe dQ [] a) a λs a=>
 A.wr (Xe gB [] a) a λa1 a=>A.ws (Xb 23) s b4 a λ_ a=>A.ws (Xb 7) a1 b5 a λ_ a=>A.r (Zd true 2) e a λb7=>A.r (Zd true 23) h a λb8=>
 A.wr (Xi 1 1 [jv 0] [(0,1)] [jv 1] a) a λb9 a=>A.k 27 [b7,b8,b9] a λa2 a=>A.r (Xc 0) a2 a λc0=>A.r (Xc 1) a2 a λc1=>A.wr (Xe dQ [] a) a λa3 a=>
 A.ws (Xb 23) a3 c0 a λ_ a=>A.r (Zd true 2) e a λc2=>A.r (Zd true 23) h a λc3=>A.k 55 [c2,c3] a λc4 a=>A.b .eql c4 (jv 0) a λj=>
 A.tr j (Zd true 2) e a λc5=>A.th j (Qe dQ [] [] a) λc6=>A.gw j true (λk=>A.k 55 [c5,c6] a k) a λc7 a=>A.tb j .eql c7 (jv 170) a λc8=>
 A.c j c8 (.bool false) a λa4=>A.tr a4 Qi a6 a λc9=>A.c a4 c9 (.bool false) a λt=>A.tr t Qi t8 a λd0=>A.tb t .eql d0 (jv 3) a λd1=>A.c t d1 (.bool false) a λu=>
 A.tr u Qi t9 a λd2=>A.tb u .eql d2 (jv 2) a λd3=>A.c u d3 (.bool false) a λv=>A.tr v Qi b1 a λd4=>A.tb v .eql d4 (jv 0) a λd5=>A.c v d5 (.bool false) a λi=>
 A.tr i (Ya 7) z a λd6=>A.ts i (Yg 2 8) d6 (jv 0) a λd7=>A.tr i (Ya 0) d7 a λd8=>A.ta i d8 a λd9=>A.tb i .eql d9 (jv 19) a λe0=>
 A.c i e0 (.bool false) a λl=>A.tr l (Ya 2) a0 a λe1=>A.ta l e1 a λe2=>A.tb l .eql e2 (jv (-1)) a λe3=>A.c l e3 (.bool false) a λw=>
 A.tr w Qi b6 a λe4=>A.tb w .eql e4 (jv 0) a λe5=>A.c w e5 (.bool false) a λm=>A.tr m (Ya 5) a1 a λe6=>A.ta m e6 a λe7=>A.tb m .eql e7 (jv 2) a λe8=>
 A.c m e8 (.bool false) a λf=>A.tr f (Ya 7) s a λe9=>A.ts f (Yg 2 8) e9 (jv 0) a λf0=>A.tr f (Ya 6) f0 a λf1=>A.ta f f1 a λf2=>
 A.tr f Yf f2 a λf3=>A.tb f .eql f3 (jv 2) a λf4=>A.c f f4 (.bool false) a λd=>A.tr d (Ya 7) s a λf5=>A.ts d (Yg 2 8) f5 (jv 0) a λf6=>
 A.tr d (Ya 6) f6 a λf7=>A.ta d f7 a λf8=>A.ts d (Yb 4) f8 (jv 0) a λf9=>A.tr d (Ya 2) f9 a λg0=>A.ta d g0 a λg1=>A.tb d .eql g1 (jv 2) a λg2=>
 A.c d g2 (.bool false) a λg=>A.tr g (Ya 7) a3 a λg3=>A.ts g (Yg 2 8) g3 (jv 0) a λg4=>A.tr g (Ya 6) g4 a λg5=>A.ta g g5 a λg6=>
 A.tr g Yf g6 a λg7=>A.tb g .eql g7 (jv 1) a λg8=>A.c g g8 (.bool false) a λn=>A.tr n Qi c1 a λg9=>A.tr n Yf g9 a λi0=>A.tb n .eql i0 (jv 1) a λi1=>
 A.c n i1 (.bool false) a λi2=>a5 i2 a
 |_=>A.stop
theorem zx:GQ 17 0 g17:=vr [] λ_ _ _ _=>by kernel_rfl
def g18:aq:=λA xs d j=>match xs with
 |[x0,x1,x2]=>
 A.w1 Zm x0 d λo d=>A.w1 Zm x1 d λp d=>A.wr (Xe dQ [] d) d λf d=>A.wr (Xe gB [] d) d λg d=>A.k 56 [o,p] d λi d=>A.s (YV .ptr false false) i .bQ d λq=>
 A.test q (A.rd (Qe dQ [] [] d) λt=>A.rd (Qe gB [] [] d) λu=>A.ws (Xb 23) f t d λ_ d=>A.ws (Xb 7) g u d λ_ d=>A.opt (av true 23 f d) λr8=>
 A.opt (av true 7 g d) λr9=>j (.aG [r8,r9,jv 170]) d) (A.b .lss x2 (jv 0) d λm=>A.fr m Qi x2 d λv=>A.fb m .gtr v (jv 1) d λw=>A.c m (.bool true) w d λy=>
 A.test y (A.rd (Qe dQ [] [] d) λz=>A.rd (Qe gB [] [] d) λa0=>A.ws (Xb 23) f z d λ_ d=>A.ws (Xb 7) g a0 d λ_ d=>A.opt (av true 23 f d) λr16=>
 A.opt (av true 7 g d) λr17=>j (.aG [r16,r17,jv 2]) d) (A.r Qa i d λa1=>A.r (Ya 1) a1 d λa2=>A.r (Ya 7) a2 d λa3=>
 A.s (Yg 2 8) a3 x2 d λe=>A.rd (Qe gB [(0,1),(1,1)] [.int .i8 3,x2] d) λa4=>A.wr (Xe gB [] d) d λh d=>A.ws (Xb 7) h a4 d λ_ d=>
 au (λn=>A.r Qa e d λa5=>A.r (Ya 3) a5 d λa6=>A.a a6 d λa7=>A.r Yf a7 d λa8=>A.b .eql a8 (jv 0) d λa9=>A.test a9 (
 A.r (Ya 2) h d λb0=>A.ws (Xb 1) b0 (jv (-1)) d λ_ d=>A.r Qa e d λb1=>A.r (Ya 0) b1 d λb2=>A.a b2 d λb3=>A.b .sub b3 (jv 1) d λb4=>
 A.r Qa e d λb5=>A.r (Ya 0) b5 d λb6=>A.ws (Xb 1) b6 b4 d λ_ d=>A.r Qa e d λb7=>A.r (Ya 0) b7 d λb8=>A.a b8 d λb9=>
 A.k 57 [b9] d λc0 d=>A.r (Xp .not) c0 d λc1=>A.test c1 (A.rd (Qe dQ [] [] d) λc2=>A.rd (Qe gB [] [] d) λc3=>A.ws (Xb 23) f c2 d λ_ d=>
 A.ws (Xb 7) g c3 d λ_ d=>A.opt (av true 23 f d) λr45=>A.opt (av true 7 g d) λr46=>j (.aG [r45,r46,jv 171]) d) (n [] d)) (A.r Qa e d λc4=>
 A.r (Ya 4) c4 d λc5=>A.a c5 d λc6=>A.r Yf c6 d λc7=>A.b .geq c7 (jv 10) d λc8=>A.test c8 (A.r (Ya 0) h d λc9=>A.ws (Xb 1) c9 (.int .i8 4) d λ_ d=>
 A.pu (Qa [e] d) λd0=>A.pu (Ya 3 [d0] d) λd1=>A.pu (Qa [e] d) λd2=>A.pu (Ya 5 [d2] d) λd3=>A.aE (.call 58) [d1,d3] d λd4 d5 d=>
 A.pu (Ya 2 [h] d) λd6=>A.dr (Xb 1 [d6,d4] d) d λ_ d7 d=>A.gd (Zh [[],[0],[0,1],[],[3],[3,4],[0,1,2,3,4,5],[0,1,2,3,4,5,6],[0,1,2,3,4,5,6,7]] [([],[]),([],[]),([],[]),([],[]),([],[]),([],[]),d5,([],[]),d7]) <|
 A.loop (λd8 l d=>A.b .lss (h0 l) (jv 2) d λd9=>A.test d9 (A.pu (Qa [i] d) λe0=>A.pu (Ya 1 [e0] d) λe1=>A.pu (Ya 7 [e1] d) λe2=>
 A.pu (Yg 2 8 [e2,(h0 l)] d) λe3=>A.pu (Ya 7 [e3] d) λe4=>A.dr (Xf [e4] d) d λe5 e6 d=>A.pu (Ya 2 [h] d) λe7=>A.dr (Xf [e7] d) d λe8 e9 d=>
 A.dr (Xi 1 1 [jv 0] [(0,1)] [e8] d) d λf0 f1 d=>A.dr (Qj 1 8 [e5,f0] d) d λf2 f3 d=>A.pu (Qa [i] d) λf4=>A.pu (Ya 1 [f4] d) λf5=>
 A.pu (Ya 7 [f5] d) λf6=>A.pu (Yg 2 8 [f6,(h0 l)] d) λf7=>A.pu (Ya 7 [f7] d) λf8=>A.dr (Xb 1 [f8,f2] d) d λ_ f9 d=>
 A.gd (Zh [[],[],[],[],[2],[2,4],[2,4,5],[2,3,4,5,6],[2,3,4,5,6,7],[2,3,4,5,6,7,8],[],[10],[10,11],[2,3,4,5,6,7,8,9,10,11,12],[0],[0,14],[0,14,15],[0,1,2,3,4,5,6,7,8,9,10,11,12,13,14,15,16],[0,1,2,3,4,5,6,7,8,9,10,11,12,13,14,15,16,17],[0,1,2,3,4,5,6,7,8,9,10,11,12,13,14,15,16,17,18]] [([],[]),([],[]),([],[]),([],[]),([],[]),([],[]),([],[]),([],[]),([],[]),e6,([],[]),e9,f1,f3,([],[]),([],[]),([],[]),([],[]),([],[]),f9]) <|
 A.b .add (h0 l) (jv 1) d λg0=>d8 [g0] d) (n [] d)) [jv 0] d) (A.pu (Qa [e] d) λg1=>A.pu (Ya 3 [g1] d) λg2=>A.pu (Qa [e] d) λg3=>
 A.pu (Ya 4 [g3] d) λg4=>A.aE (.call 58) [g2,g4] d λg5 g6 d=>A.pu (Ya 2 [h] d) λg7=>A.dr (Xb 1 [g7,g5] d) d λ_ g8 d=>
 A.gd (Zh [[],[0],[0,1],[],[3],[3,4],[0,1,2,3,4,5],[0,1,2,3,4,5,6],[0,1,2,3,4,5,6,7]] [([],[]),([],[]),([],[]),([],[]),([],[]),([],[]),g6,([],[]),g8]) <|
 A.pu (Qa [e] d) λg9=>A.pu (Ya 7 [g9] d) λi0=>A.dr (Xf [i0] d) d λi1 i2 d=>A.pu (Ya 2 [h] d) λi3=>A.dr (Xf [i3] d) d λi4 i5 d=>
 A.dr (Xi 1 1 [jv 0] [(0,1)] [i4] d) d λi6 i7 d=>A.dr (Qj 1 8 [i1,i6] d) d λi9 j0 d=>A.pu (Qa [e] d) λj1=>A.pu (Ya 7 [j1] d) λj2=>
 A.dr (Xb 1 [j2,i9] d) d λ_ j3 d=>A.gd (Zh [[],[],[1],[1,2],[1,2,3],[],[5],[5,6],[1,2,3,4,5,6,7],[0,1,2,3,4,5,6,7,8],[0,1,2,3,4,5,6,7,8,9],[0,1,2,3,4,5,6,7,8,9,10]] [([],[]),([],[]),([],[]),([],[]),i2,([],[]),i5,i7,j0,([],[]),([],[]),j3]) <|
 n [] d))) (λl4 d=>A.pu (Qa [i] d) λj4=>A.pu (Ya 1 [j4] d) λj5=>A.dr (Zd true 23 [j5] d) d λj6 j7 d=>A.aE (.call 59) [j6] d λj8 j9 d=>
 A.dr (Zd true 7 [h] d) d λl0 l1 d=>A.dr (Xb 23 [f,j8] d) d λ_ l2 d=>A.dr (Xb 7 [g,l0] d) d λ_ l3 d=>A.gd (Zh [[],[0],[0,1],[0,1,2],[0,1,2,3],[],[0,1,2,3,4],[0,1,2,3,4,5,6],[0,1,2,3,4,5,6,7]] [([],[]),([],[]),([],[]),j7,j9,l1,l2,l3,([],[])]) <|
 A.opt (av true 23 f d) λr117=>A.opt (av true 7 g d) λr118=>j (.aG [r117,r118,jv 0]) d)))
 |_=>A.stop
theorem zy:GQ 18 3 g18:=jN [none,none,none,some [],none,none,none,none,some [94],none,none] λ_ _ _ _ _ _ _=>by kernel_rfl
def g19:aq:=λA xs c i=>match xs with
 |[x0]=>
 A.w1 Zm x0 c λg c=>A.wr (Xe dQ [] c) c λh c=>A.r (Zd true 23) g c λj=>A.wr (Xe dQ [] c) c λe c=>A.ws (Xb 23) e j c λ_ c=>
 A.r (Ya 5) g c λl=>A.a l c λm=>A.k 60 [m] c λn c=>A.r (Ya 5) e c λo=>A.ws (Xb 1) o n c λ_ c=>A.loop (λp f c=>A.b .lss (h0 f) (jv 2) c λq=>
 A.test q (A.r (Ya 7) g c λt=>A.s (Yg 2 8) t (h0 f) c λu=>A.r (Zd true 8) u c λv=>A.wr (Xe vz [] c) c λd c=>A.ws (Xb 8) d v c λ_ c=>
 A.pu (Ya 0 [d] c) λw=>A.dr (Xf [w] c) c λy z c=>A.pu (Ya 1 [d] c) λa0=>A.dr (Xf [a0] c) c λa1 a2 c=>A.pu (Ya 2 [d] c) λa3=>
 A.dr (Xf [a3] c) c λa4 a5 c=>A.pu (Ya 3 [d] c) λa6=>A.dr (Xf [a6] c) c λa7 a8 c=>A.aE (.call 60) [a7] c λa9 b0 c=>A.pu (Ya 4 [d] c) λb1=>
 A.dr (Xf [b1] c) c λb2 b3 c=>A.aE (.call 60) [b2] c λb4 b5 c=>A.pu (Ya 5 [d] c) λb6=>A.dr (Xf [b6] c) c λb7 b8 c=>A.aE (.call 60) [b7] c λb9 c0 c=>
 A.pu (Ya 6 [d] c) λc1=>A.dr (Xf [c1] c) c λc2 c3 c=>A.aE (.call 61) [c2] c λc4 c5 c=>A.pu (Ya 7 [d] c) λc6=>A.dr (Xf [c6] c) c λc7 c8 c=>
 A.aE (.call 60) [c7] c λc9 d0 c=>A.pu (Qe vz [(0,1),(1,1),(2,1),(3,1),(4,1),(5,1),(6,1),(7,1)] [y,a1,a4,a9,b4,b9,c4,c9] c) λd1=>
 A.pu (Ya 7 [e] c) λd2=>A.pu (Yg 2 8 [d2,(h0 f)] c) λd3=>A.dr (Xb 8 [d3,d1] c) c λ_ d4 c=>A.gd (Zh [[],[],[1],[],[3],[],[5],[],[7],[7,8],[],[10],[7,8,9,10,11],[],[13],[7,8,9,10,11,12,13,14],[],[16],[7,8,9,10,11,12,13,14,15,16,17],[],[19],[7,8,9,10,11,12,13,14,15,16,17,18,19,20],[1,2,3,4,5,6,7,8,9,10,11,12,13,14,15,16,17,18,19,20,21],[],[0,1,2,3,4,5,6,7,8,9,10,11,12,13,14,15,16,17,18,19,20,21,22,23],[0,1,2,3,4,5,6,7,8,9,10,11,12,13,14,15,16,17,18,19,20,21,22,23,24]] [([],[]),([],[]),z,([],[]),a2,([],[]),a5,([],[]),a8,b0,([],[]),b3,b5,([],[]),b8,c0,([],[]),c3,c5,([],[]),c8,d0,([],[]),([],[]),([],[]),d4]) <|
 A.b .add (h0 f) (jv 1) c λd5=>p [d5] c) (A.r (Zd true 23) e c λd6=>A.ws (Xb 23) h d6 c λ_ c=>A.opt (av true 23 h c) λr55=>i r55 c)) [jv 0] c
 |_=>A.stop
theorem ud:GQ 19 1 g19:=cU [none,some [4],none,none] λ_ _ _ _ _=>by kernel_rfl
def g20:aq:=λA xs d z=>match xs with
 |[x0,x1]=>
 A.w1 Zm x0 d λg d=>A.w1 Zm x1 d λh d=>A.r (Ya 0) g d λt2=>A.a t2 d λt3=>A.r (Ya 0) h d λt4=>A.a t4 d λt5=>A.b .neq t3 t5 d λp=>
 A.fr p (Ya 1) g d λt7=>A.fa p t7 d λt8=>A.fr p (Ya 1) h d λt9=>A.fa p t9 d λa0=>A.fb p .neq t8 a0 d λa1=>A.c p (.bool true) a1 d λq=>
 A.fr q (Ya 2) g d λa2=>A.fa q a2 d λa3=>A.fr q (Ya 2) h d λa4=>A.fa q a4 d λa5=>A.fb q .neq a3 a5 d λa6=>A.c q (.bool true) a6 d λs=>
 A.fr s (Ya 3) g d λa7=>A.fa s a7 d λa8=>A.fr s (Ya 3) h d λa9=>A.fa s a9 d λb0=>A.fs s (Yj .neq true) a8 b0 d λb1=>A.c s (.bool true) b1 d λt=>
 A.fr t (Ya 4) g d λb2=>A.fa t b2 d λb3=>A.fr t (Ya 4) h d λb4=>A.fa t b4 d λb5=>A.fb t .neq b3 b5 d λb6=>A.c t (.bool true) b6 d λu=>
 A.fr u (Ya 6) g d λb7=>A.fa u b7 d λb8=>A.fr u (Ya 6) h d λb9=>A.fa u b9 d λc0=>A.fb u .neq b8 c0 d λc1=>A.c u (.bool true) c1 d λi=>
 A.fr i (Ya 5) g d λc2=>A.fa i c2 d λc3=>A.fr i (Ya 5) h d λc4=>A.fa i c4 d λc5=>A.gw i false (λk=>A.k 62 [c3,c5] d k) d λc6 d=>
 A.fr i (Xp .not) c6 d λc7=>A.c i (.bool true) c7 d λc8=>A.test c8 (z (.bool false) d) (A.loop (λc9 y d=>A.b .lss (h0 y) (jv 2) d λd0=>A.test d0 (
 A.pu (Ya 7 [g] d) λd1=>A.pu (Yg 2 8 [d1,(h0 y)] d) λd2=>A.dr (Zd true 8 [d2] d) d λd3 d4 d=>A.pu (Ya 7 [h] d) λd5=>
 A.pu (Yg 2 8 [d5,(h0 y)] d) λd6=>A.dr (Zd true 8 [d6] d) d λd7 d8 d=>A.dr (Xe vz [] d) d λe d9 d=>A.dr (Xe vz [] d) d λf e0 d=>
 A.dr (Xb 8 [e,d3] d) d λ_ e1 d=>A.dr (Xb 8 [f,d7] d) d λ_ e2 d=>A.gd (Zh [[],[],[0,1],[0,1,2],[],[],[4,5],[4,5,6],[],[],[0,1,2,3,8,9],[0,1,2,3,4,5,6,7,8,9,10]] [([],[]),([],[]),([],[]),d4,([],[]),([],[]),([],[]),d8,d9,e0,e1,e2]) <|
 A.r (Ya 0) e d λe3=>A.a e3 d λe4=>A.r (Ya 0) f d λe5=>A.a e5 d λe6=>A.b .neq e4 e6 d λv=>A.fr v (Ya 1) e d λe7=>
 A.fa v e7 d λe8=>A.fr v (Ya 1) f d λe9=>A.fa v e9 d λf0=>A.fb v .neq e8 f0 d λf1=>A.c v (.bool true) f1 d λw=>A.fr w (Ya 2) e d λf2=>
 A.fa w f2 d λf3=>A.fr w (Ya 2) f d λf4=>A.fa w f4 d λf5=>A.fb w .neq f3 f5 d λf6=>A.c w (.bool true) f6 d λj=>A.fr j (Ya 3) e d λf7=>
 A.fa j f7 d λf8=>A.fr j (Ya 3) f d λf9=>A.fa j f9 d λg0=>A.gw j false (λk=>A.k 62 [f8,g0] d k) d λg1 d=>A.fr j (Xp .not) g1 d λg2=>
 A.c j (.bool true) g2 d λl=>A.fr l (Ya 4) e d λg3=>A.fa l g3 d λg4=>A.fr l (Ya 4) f d λg5=>A.fa l g5 d λg6=>A.gw l false (λk=>A.k 62 [g4,g6] d k) d λg7 d=>
 A.fr l (Xp .not) g7 d λg8=>A.c l (.bool true) g8 d λm=>A.fr m (Ya 5) e d λg9=>A.fa m g9 d λi0=>A.fr m (Ya 5) f d λi1=>A.fa m i1 d λi2=>
 A.gw m false (λk=>A.k 62 [i0,i2] d k) d λi3 d=>A.fr m (Xp .not) i3 d λi4=>A.c m (.bool true) i4 d λn=>A.fr n (Ya 7) e d λi5=>A.fa n i5 d λi6=>
 A.fr n (Ya 7) f d λi7=>A.fa n i7 d λi8=>A.gw n false (λk=>A.k 62 [i6,i8] d k) d λi9 d=>A.fr n (Xp .not) i9 d λj0=>A.c n (.bool true) j0 d λo=>
 A.fr o (Ya 6) e d λj1=>A.fa o j1 d λj2=>A.fr o (Ya 6) f d λj3=>A.fa o j3 d λj4=>A.gw o false (λk=>A.k 63 [j2,j4] d k) d λj5 d=>
 A.fr o (Xp .not) j5 d λj6=>A.c o (.bool true) j6 d λj7=>A.test j7 (z (.bool false) d) (A.b .add (h0 y) (jv 1) d λj8=>c9 [j8] d)) (z (.bool true) d)) [jv 0] d)
 |_=>A.stop
theorem ue:GQ 20 2 g20:=dR [none,none,some [5],none,none,none] λ_ _ _ _ _ _=>by kernel_rfl
def g21:aq:=λA xs d t=>match xs with
 |[x0,x1,x2,x3]=>
 A.w1 Zm x0 d λn d=>A.w1 Zm x1 d λh d=>A.wr (Xe dQ [] d) d λj d=>A.wr (Xe gB [] d) d λl d=>A.k 56 [n,h] d λi d=>A.s (YV .ptr false false) i .bQ d λo=>
 A.fr o Qi x2 d λv=>A.fb o .lss v (jv 0) d λw=>A.c o (.bool true) w d λp=>A.fr p Qi x2 d λy=>A.fb p .gtr y (jv 1) d λz=>A.c p (.bool true) z d λq=>
 A.fr q Qi x3 d λa0=>A.fb q .lss a0 (jv 0) d λa1=>A.c q (.bool true) a1 d λg=>A.fr g Qi x3 d λa2=>A.fr g (Ya 0) n d λa3=>A.fa g a3 d λa4=>
 A.fr g Yf a4 d λa5=>A.fb g .geq a2 a5 d λa6=>A.c g (.bool true) a6 d λe=>A.fr e (Ya 0) n d λa7=>A.fa e a7 d λa8=>A.fr e Qi x3 d λa9=>
 A.fs e (Yb 12) a8 a9 d λb0=>A.fr e (Ya 1) b0 d λb1=>A.fa e b1 d λb2=>A.fr e (Xp .not) b2 d λb3=>A.c e (.bool true) b3 d λf=>
 A.fr f Qi x2 d λb4=>A.fr f (Ya 7) h d λb5=>A.fs f (Yg 2 8) b5 b4 d λb6=>A.fr f (Ya 6) b6 d λb7=>A.fa f b7 d λb8=>
 A.fr f Yf b8 d λb9=>A.fb f .geq b9 (jv 7) d λc0=>A.c f (.bool true) c0 d λm=>A.fr m (Ya 6) h d λc1=>A.fa m c1 d λc2=>A.fb m .geq c2 (jv 1000000) d λc3=>
 A.c m (.bool true) c3 d λc4=>A.test c4 (A.rd (Qe dQ [] [] d) λc5=>A.rd (Qe gB [] [] d) λc6=>A.ws (Xb 23) j c5 d λ_ d=>A.ws (Xb 7) l c6 d λ_ d=>
 A.opt (av true 23 j d) λr43=>A.opt (av true 7 l d) λr44=>t (.aG [r43,r44,.bool false]) d) (A.r Qa i d λc7=>A.r (Ya 1) c7 d λc8=>
 A.r (Ya 7) c8 d λc9=>A.s (Yg 2 8) c9 x2 d λu=>A.pu (Qa [u] d) λd0=>A.pu (Ya 6 [d0] d) λd1=>A.dr (Xf [d1] d) d λd2 d3 d=>
 A.pu (Ya 6 [h] d) λd4=>A.dr (Xf [d4] d) d λd5 d6 d=>A.pu (Qe rG [(0,1),(1,1),(3,1)] [d5,x3,.bool true] d) λd7=>A.dr (Xi 4 1 rG [(0,4)] [d7] d) d λd8 d9 d=>
 A.dr (Qj 4 32 [d2,d8] d) d λe0 e1 d=>A.pu (Qa [u] d) λe2=>A.pu (Ya 6 [e2] d) λe3=>A.dr (Xb 1 [e3,e0] d) d λ_ e4 d=>
 A.gd (Zh [[],[],[1],[1,2],[1,2,3],[],[5],[],[5,6,7],[5,6,7,8],[1,2,3,4,5,6,7,8,9],[0,1,2,3,4,5,6,7,8,9,10],[0,1,2,3,4,5,6,7,8,9,10,11],[0,1,2,3,4,5,6,7,8,9,10,11,12]] [([],[]),([],[]),([],[]),([],[]),d3,([],[]),d6,([],[]),([],[]),d9,e1,([],[]),([],[]),e4]) <|
 A.r Qa i d λe5=>A.r (Ya 1) e5 d λe6=>A.r (Ya 6) e6 d λe7=>A.a e7 d λe8=>A.b .add e8 (jv 1) d λe9=>A.r Qa i d λf0=>
 A.r (Ya 1) f0 d λf1=>A.r (Ya 6) f1 d λf2=>A.ws (Xb 1) f2 e9 d λ_ d=>A.pu (Qa [i] d) λf3=>A.pu (Ya 1 [f3] d) λf4=>
 A.dr (Zd true 23 [f4] d) d λf5 f6 d=>A.pu (Ya 6 [h] d) λf7=>A.dr (Xf [f7] d) d λf8 f9 d=>A.pu (Qe gB [(0,1),(1,1),(2,1),(3,1)] [.int .i8 2,x2,x3,f8] d) λg0=>
 A.dr (Xb 23 [j,f5] d) d λ_ g1 d=>A.dr (Xb 7 [l,g0] d) d λ_ g2 d=>A.gd (Zh [[],[0],[0,1],[0,1,2],[],[],[],[6],[4,5,6,7],[0,1,2,3],[0,1,2,3,4,5,6,7,8,9],[0,1,2,3,4,5,6,7,8,9,10]] [([],[]),([],[]),([],[]),f6,([],[]),([],[]),([],[]),f9,([],[]),g1,g2,([],[])]) <|
 A.opt (av true 23 j d) λr82=>A.opt (av true 7 l d) λr83=>t (.aG [r82,r83,.bool true]) d)
 |_=>A.stop
def g22:aq:=λA xs a e=>match xs with
 |[x0,x1,x2,x3,x4]=>
 A.w1 Zm x0 a λf a=>A.w1 Zm x1 a λg a=>A.wr (Xe dQ [] a) a λc a=>A.wr (Xe gB [] a) a λd a=>A.k 64 [f,g,.int .i8 5,x2,x3,x4,(.func (.func 65) [] [])] a λb a=>
 A.r (Xc 0) b a λh=>A.r (Xc 1) b a λi=>A.r (Xc 2) b a λj=>A.ws (Xb 23) c h a λ_ a=>A.ws (Xb 7) d i a λ_ a=>A.opt (av true 23 c a) λr8=>
 A.opt (av true 7 d a) λr9=>e (.aG [r8,r9,j]) a
 |_=>A.stop
theorem oI:GQ 22 5 g22:=Ku [] λ_ _ _ _ _ _ _ _ _=>by kernel_rfl
def g23:aq:=λA xs c f=>match xs with
 |[x0,x1]=>
 A.w1 Zm x0 c λg c=>A.loop (λh d c=>A.b .lss (h0 d) (jv 2) c λi=>A.test i (A.loop (λj e c=>A.r (Ya 7) g c λl=>A.s (Yg 2 8) l (h0 d) c λm=>
 A.r (Ya 6) m c λn=>A.a n c λo=>A.r Yf o c λp=>A.b .lss (h0 e) p c λq=>A.test q (A.r (Ya 7) g c λt=>A.s (Yg 2 8) t (h0 d) c λu=>
 A.r (Ya 6) u c λv=>A.a v c λw=>A.s (Yb 4) w (h0 e) c λy=>A.r (Ya 0) y c λz=>A.a z c λa0=>A.b .eql a0 x1 c λa1=>
 A.test a1 (f (.aG [(h0 d),(h0 e),.bool true]) c) (A.b .add (h0 e) (jv 1) c λa2=>j [a2] c)) (A.b .add (h0 d) (jv 1) c λa3=>h [a3] c)) [jv 0] c) (f (.aG GI) c)) [jv 0] c
 |_=>A.stop
theorem mU:GQ 23 2 g23:=dR [none,some [7],none,none,none,some [8],none,none,none] λ_ _ _ _ _ _=>by kernel_rfl
def g25:aq:=λA xs d f=>match xs with
 |[x0,x1,x2]=>
 A.w1 Zm x0 d λt0 d=>A.w1 Zm x1 d λe d=>A.r (Zd true 2) t0 d λt2=>A.k 67 [t2] d λt3 d=>A.r (DG false 0 1) t3 d λt4=>A.b .neq t4 (jv 0) d λl=>
 A.fr l (Ya 0) e d λt6=>A.fa l t6 d λt7=>A.fb l .lss t7 (jv 1) d λt8=>A.c l (.bool true) t8 d λm=>A.fr m (Ya 0) e d λa2=>A.fa m a2 d λa3=>
 A.fb m .gtr a3 (jv 4096) d λa4=>A.c m (.bool true) a4 d λn=>A.fr n (Ya 1) e d λa5=>A.fa n a5 d λa6=>A.fb n .lss a6 (jv 0) d λa7=>A.c n (.bool true) a7 d λo=>
 A.fr o (Ya 1) e d λa8=>A.fa o a8 d λa9=>A.fb o .gtr a9 (jv 1) d λb0=>A.c o (.bool true) b0 d λp=>A.fr p (Ya 2) e d λb1=>A.fa p b1 d λb2=>
 A.fb p .lss b2 (.int .i8 0) d λb3=>A.c p (.bool true) b3 d λq=>A.fr q (Ya 2) e d λb4=>A.fa q b4 d λb5=>A.fb q .gtr b5 (.int .i8 2) d λb6=>
 A.c q (.bool true) b6 d λt=>A.fr t (Ya 4) e d λb7=>A.fa t b7 d λb8=>A.fb t .lss b8 (.int .i8 0) d λb9=>A.c t (.bool true) b9 d λu=>
 A.fr u (Ya 4) e d λc0=>A.fa u c0 d λc1=>A.fb u .gtr c1 (.int .i8 3) d λc2=>A.c u (.bool true) c2 d λc3=>A.test c3 (f (.bool false) d) (
 A.r (Ya 4) e d λc4=>A.a c4 d λc5=>A.b .eql c5 (.int .i8 0) d λc6=>A.r (Ya 2) e d λc7=>A.a c7 d λc8=>A.b .neq c8 (.int .i8 2) d λc9=>
 A.s (Yj .neq true) c6 c9 d λv=>A.fr v (Ya 6) e d λd0=>A.fa v d0 d λd1=>A.fb v .lss d1 (jv 1) d λd2=>A.c v (.bool true) d2 d λw=>
 A.fr w (Ya 6) e d λd3=>A.fa w d3 d λd4=>A.fb w .gtr d4 (jv 1000000) d λd5=>A.c w (.bool true) d5 d λg=>A.fr g (Zd true 2) t0 d λd6=>
 A.fr g (Zd true 23) e d λd7=>A.gw g false (λk=>A.k 68 [d6,d7] d k) d λd8 d=>A.fr g (Xp .not) d8 d λd9=>A.c g (.bool true) d9 d λe0=>
 A.test e0 (f (.bool false) d) (A.r (Ya 2) e d λe1=>A.a e1 d λe2=>A.b .neq e2 (.int .i8 1) d λe3=>A.test e3 (A.r (Ya 5) e d λe4=>
 A.a e4 d λe5=>A.r Yf e5 d λe6=>A.b .eql e6 (jv 0) d λe7=>f e7 d) (A.r (Ya 5) e d λe8=>A.a e8 d λe9=>A.r Yf e9 d λf0=>A.b .eql f0 (jv 0) d λz=>
 A.tr z Qi x2 d λf1=>A.tr z (Xp .not) f1 d λf2=>A.c z f2 (.bool false) d λy=>A.fr y (Ya 3) e d λf3=>A.fa y f3 d λf4=>A.fr y (Xp .not) f4 d λf5=>
 A.c y (.bool true) f5 d λh=>A.fr h (Ya 5) e d λf6=>A.fa h f6 d λf7=>A.fr h Yf f7 d λf8=>A.fb h .gtr f8 (jv 7) d λf9=>A.c h (.bool true) f9 d λg0=>
 A.test g0 (f (.bool false) d) (A.loop (λg1 i d=>A.r (Ya 5) e d λg2=>A.a g2 d λg3=>A.r Yf g3 d λg4=>A.b .lss (h0 i) g4 d λg5=>A.test g5 (
 A.dr (Zd true 23 [e] d) d λg6 g7 d=>A.pu (Ya 5 [e] d) λg8=>A.dr (Xf [g8] d) d λg9 i0 d=>A.dr (Yb 1 [g9,(h0 i)] d) d λi1 i2 d=>
 A.dr (Xf [i1] d) d λi3 i4 d=>A.aE (.call 23) [g6,i3] d λa0 i5 d=>A.pu (Xc 0 [a0] d) λi6=>A.pu (Xc 1 [a0] d) λl7=>A.pu (Xc 2 [a0] d) λi7=>
 A.gd (Zh [[],[],[1],[],[1,2,3],[1,2,3,4],[0,1,2,3,4,5],[0,1,2,3,4,5,6],[0,1,2,3,4,5,6,7],[0,1,2,3,4,5,6,7],[0,1,2,3,4,5,6,7],[0,1,2,3,4,5,6,7,8],[0,1,2,3,4,5,6,7,8,9,11],[0,1,2,3,4,5,6,7,8,9,10,11,12]] [g7,([],[]),i0,([],[]),i2,i4,i5,([],[]),([],[]),([],[]),([],[]),([],[]),([],[]),([],[])]) <|
 A.r (Xp .not) i7 d λj=>A.fr j Qi i6 d λi9=>A.fr j (Ya 1) e d λj0=>A.fa j j0 d λj1=>A.fb j .neq i9 j1 d λj2=>A.c j (.bool true) j2 d λj3=>
 A.test j3 (f (.bool false) d) (A.loop (λj4 a1 d=>A.b .lss (h0 a1) (h0 i) d λj5=>A.test j5 (A.r (Ya 5) e d λj6=>A.a j6 d λj7=>A.s (Yb 1) j7 (h0 a1) d λj8=>
 A.a j8 d λj9=>A.r (Ya 5) e d λl0=>A.a l0 d λl1=>A.s (Yb 1) l1 (h0 i) d λl2=>A.a l2 d λl3=>A.b .eql j9 l3 d λl4=>A.test l4 (
 f (.bool false) d) (A.b .add (h0 a1) (jv 1) d λl5=>j4 [l5] d)) (A.b .add (h0 i) (jv 1) d λl6=>g1 [l6] d)) [jv 0] d)) (f (.bool true) d)) [jv 0] d))))
 |_=>A.stop
theorem oK:GQ 25 3 g25:=jN [none,none,none,none,none,some [7],none,none,none,none,some [11],none,none,none] λ_ _ _ _ _ _ _=>by kernel_rfl
def g27:aq:=λA xs c l=>match xs with
 |[x0,x1,x2]=>
 A.w1 Zm x0 c λp c=>A.w1 Zm x1 c λq c=>A.wr (Xe dQ [] c) c λg c=>A.k 56 [p,q] c λd c=>A.s (YV .ptr false false) d .bQ c λt=>
 A.test t (A.rd (Qe dQ [] [] c) λu=>A.ws (Xb 23) g u c λ_ c=>A.opt (av true 23 g c) λr6=>l (.aG [r6,.af]) c) (A.r Yf x2 c λv=>
 A.loop (λw e c=>A.b .lss (h0 e) v c λy=>A.test y (au (λm=>A.s (Yb 1) x2 (h0 e) c λz=>A.a z c λa0=>A.wr (Xe [jv 0] [] c) c λh c=>
 A.ws (Xb 1) h a0 c λ_ c=>A.pu (Qa [d] c) λa1=>A.pu (Ya 1 [a1] c) λa2=>A.dr (Zd true 23 [a2] c) c λa3 a4 c=>A.dr (Xf [h] c) c λa5 a6 c=>
 A.aE (.call 71) [a3,a5] c λi a7 c=>A.pu (Xc 0 [i] c) λn=>A.pu (Xc 1 [i] c) λj=>A.pu (Xc 2 [i] c) λa8=>A.gd (Zh [[],[0],[0,1],[0,1,2],[],[0,1,2,3,4],[0,1,2,3,4,5],[0,1,2,3,4,5,6],[0,1,2,3,4,5,6],[0,1,2,3,4,5,6],[0,1,2,3,4,5,6,7],[0,1,2,3,4,5,6,7,8,10],[0,1,2,3,4,5,6,7,8,9,10,11]] [([],[]),([],[]),([],[]),a4,a6,a7,([],[]),([],[]),([],[]),([],[]),([],[]),([],[]),([],[])]) <|
 A.r (Xp .not) a8 c λa9=>A.test a9 (m [(h1 e)] c) (A.r Qa d c λb0=>A.r (Ya 1) b0 c λb1=>A.r (Ya 7) b1 c λb2=>A.s (Yg 2 8) b2 n c λf=>
 A.r Qa f c λb3=>A.r (Ya 6) b3 c λb4=>A.a b4 c λb5=>A.s (Yb 4) b5 j c λb6=>A.r (Ya 1) b6 c λb7=>A.a b7 c λo=>
 A.r Qa f c λb8=>A.r (Ya 6) b8 c λb9=>A.a b9 c λc0=>A.b .add j (jv 1) c λc1=>A.k 72 [c0,j,c1] c λc2 c=>A.r Qa f c λc3=>
 A.r (Ya 6) c3 c λc4=>A.ws (Xb 1) c4 c2 c λ_ c=>A.r Qa f c λc5=>A.r (Ya 5) c5 c λc6=>A.a c6 c λc7=>A.wr (Xi 1 1 [jv 0] [(0,1)] [o] c) c λc8 c=>
 A.wr (Qj 1 8 [c7,c8] c) c λc9 c=>A.r Qa f c λd0=>A.r (Ya 5) d0 c λd1=>A.ws (Xb 1) d1 c9 c λ_ c=>A.r Qa d c λd2=>
 A.r (Ya 1) d2 c λd3=>A.r (Ya 5) d3 c λd4=>A.a d4 c λd5=>A.r (Qp (.func 74) 0) h c λd6=>A.k 73 [d5,d6] c λd7 c=>A.r Qa d c λd8=>
 A.r (Ya 1) d8 c λd9=>A.r (Ya 5) d9 c λe0=>A.ws (Xb 1) e0 d7 c λ_ c=>A.a h c λe1=>A.rd (Qe gB [(0,1),(1,1),(2,1),(3,1)] [.int .i8 13,n,o,e1] c) λe2=>
 A.wr (Xi 7 1 gB [(0,7)] [e2] c) c λe3 c=>A.wr (Qj 7 72 [(h1 e),e3] c) c λe4 c=>m [e4] c)) (λe5 c=>A.b .add (h0 e) (jv 1) c λe6=>w [e6,(h0 e5)] c)) (
 A.r Qa d c λe7=>A.r (Ya 1) e7 c λe8=>A.r (Zd true 23) e8 c λe9=>A.ws (Xb 23) g e9 c λ_ c=>A.opt (av true 23 g c) λr69=>
 l (.aG [r69,(h1 e)]) c)) [jv 0,.af] c)
 |_=>A.stop
theorem zz:GQ 27 3 g27:=jN [none,none,some [23,9],none,some [9],none] λ_ _ _ _ _ _ _=>by kernel_rfl
def g43:aq:=λA xs a e=>match xs with
 |[x0,x1,x2,x3]=>
 A.w1 Zm x0 a λf a=>A.w1 Zm x1 a λg a=>A.r (Zd true 2) f a λh=>A.r (Zd true 23) g a λi=>A.k 92 [h,i,.af] a λb a=>A.fr b Qi x2 a λj=>
 A.fr b Yf j a λl=>A.fb b .gtr l (jv 60) a λm=>A.c b (.bool true) m a λd=>A.fr d Qi x3 a λn=>A.fr d Yf n a λo=>A.fb d .gtr o (jv 60) a λp=>
 A.c d (.bool true) p a λq=>e q a
 |_=>A.stop
theorem uf:GQ 43 4 g43:=vt [] λ_ _ _ _ _ _ _ _=>by kernel_rfl
def g44:aq:=λA xs a w=>match xs with
 |[]=>
 A.k 93 [] a λy a=>A.k 94 [] a λz a=>A.wr (Xi 1 2 [jv 0,jv 0] [(0,1),(1,1)] [jv 1,jv 3] a) a λt2 a=>A.k 45 [y,z,t2] a λn a=>
 A.r (Xc 0) n a λt4=>A.r (Xc 1) n a λt5=>A.r (Xc 2) n a λt6=>A.wr (Xe dQ [] a) a λh a=>A.ws (Xb 23) h t4 a λ_ a=>
 A.aE (.call 93) [] a λt8 l9 a=>A.dr (Zd true 23 [h] a) a λa0 a1 a=>A.pu (Qe [jv 0,jv 0] [(0,1),(1,1)] [jv 1,jv 2] a) λa2=>A.dr (Xi 2 1 [jv 0,jv 0] [(0,2)] [a2] a) a λa3 a4 a=>
 A.aE (.call 48) [t8,a0,a3] a λo a5 a=>A.pu (Xc 0 [o] a) λa6=>A.pu (Xc 1 [o] a) λg9=>A.pu (Xc 2 [o] a) λa7=>A.dr (Xe dQ [] a) a λi a8 a=>
 A.dr (Xb 23 [i,a6] a) a λ_ a9 a=>A.gd (Zh [[],[],[],[2],[0,1,2,3],[0,1,2,3,4],[0,1,2,3,4,5],[0,1,2,3,4,5],[0,1,2,3,4,5],[],[0,1,2,3,4,5,6,9],[0,1,2,3,4,5,6,7,9,10],[0,1,2,3,4,5,6,7,8,9,10,11]] [l9,a1,([],[]),a4,a5,([],[]),([],[]),([],[]),([],[]),a8,a9,([],[]),([],[])]) <|
 A.aE (.call 93) [] a λb0 b1 a=>A.dr (Zd true 23 [h] a) a λb2 b3 a=>A.aE (.call 50) [b0,b2,.af] a λv b4 a=>A.pu (Xc 0 [v] a) λb5=>
 A.pu (Xc 1 [v] a) λb6=>A.gd (Zh [[],[],[0,1],[0,1,2],[0,1,2,3],[0,1,2,3],[0,1,2,3,4],[0,1,2,3,4,5,6]] [b1,b3,b4,([],[]),([],[]),([],[]),([],[]),([],[])]) <|
 A.k 93 [] a λb7 a=>A.k 94 [] a λb8 a=>A.wr (Xi 1 1 [jv 0] [(0,1)] [jv 2] a) a λb9 a=>A.k 45 [b7,b8,b9] a λp a=>A.r (Xc 0) p a λc0=>
 A.r (Xc 1) p a λi0=>A.r (Xc 2) p a λc1=>A.wr (Xe dQ [] a) a λc2 a=>A.ws (Xb 23) c2 c0 a λ_ a=>A.b .eql t6 (jv 0) a λj=>
 A.tr j Qi t5 a λc3=>A.tr j Yf c3 a λc4=>A.tb j .eql c4 (jv 2) a λc5=>A.c j c5 (.bool false) a λl=>A.tr l (Ya 2) h a λc6=>A.ta l c6 a λc7=>
 A.tb l .eql c7 (.int .i8 1) a λc8=>A.c l c8 (.bool false) a λf=>A.tr f (Ya 7) h a λc9=>A.ts f (Yg 2 8) c9 (jv 0) a λd0=>A.tr f (Ya 6) d0 a λd1=>
 A.ta f d1 a λd2=>A.ts f (Yb 4) d2 (jv 0) a λd3=>A.tr f (Ya 3) d3 a λd4=>A.ta f d4 a λd5=>A.c f d5 (.bool false) a λq=>A.tr q Qi a7 a λd6=>
 A.tb q .eql d6 (jv 0) a λd7=>A.c q d7 (.bool false) a λd=>A.tr d (Ya 7) i a λd8=>A.ts d (Yg 2 8) d8 (jv 1) a λd9=>A.tr d (Ya 6) d9 a λe0=>
 A.ta d e0 a λe1=>A.ts d (Yb 4) e1 (jv 0) a λe2=>A.tr d (Ya 2) e2 a λe3=>A.ta d e3 a λe4=>A.tb d .eql e4 (jv 3) a λe5=>A.c d e5 (.bool false) a λe=>
 A.tr e (Ya 7) i a λe6=>A.ts e (Yg 2 8) e6 (jv 0) a λe7=>A.tr e (Ya 6) e7 a λe8=>A.ta e e8 a λe9=>A.ts e (Yb 4) e9 (jv 0) a λf0=>
 A.tr e (Ya 2) f0 a λf1=>A.ta e f1 a λf2=>A.tb e .eql f2 (jv 0) a λf3=>A.c e f3 (.bool false) a λg=>A.tr g (Ya 7) i a λf4=>
 A.ts g (Yg 2 8) f4 (jv 1) a λf5=>A.tr g (Ya 0) f5 a λf6=>A.ta g f6 a λf7=>A.tb g .eql f7 (jv 19) a λf8=>A.c g f8 (.bool false) a λm=>
 A.tr m (Ya 2) i a λf9=>A.ta m f9 a λg0=>A.tb m .eql g0 (.int .i8 0) a λg1=>A.c m g1 (.bool false) a λs=>A.tr s Qi b6 a λg2=>A.tb s .eql g2 (jv 0) a λg3=>
 A.c s g3 (.bool false) a λt=>A.tr t Qi b5 a λg4=>A.tb t .eql g4 (jv 4) a λg5=>A.c t g5 (.bool false) a λu=>A.tr u Qi c1 a λg6=>A.tb u .eql g6 (jv 2) a λg7=>
 A.c u g7 (.bool false) a λg8=>w g8 a
 |_=>A.stop
theorem oM:GQ 44 0 g44:=vr [] λ_ _ _ _=>by kernel_rfl
def g45:aq:=λA xs d j=>match xs with
 |[x0,x1,x2]=>
 A.w1 Zm x0 d λv d=>A.w1 Zm x1 d λl d=>A.wr (Xe dQ [] d) d λg d=>A.r (Zd true 2) v d λw=>A.r (Zd true 23) l d λy=>A.k 55 [w,y] d λz d=>
 A.b .neq z (jv 0) d λt6=>A.test t6 (A.rd (Qe dQ [] [] d) λt7=>A.ws (Xb 23) g t7 d λ_ d=>A.opt (av true 23 g d) λr8=>j (.aG [r8,.af,jv 170]) d) (
 A.r (Ya 2) l d λt9=>A.a t9 d λa0=>A.b .neq a0 (.int .i8 0) d λo=>A.fr o (Ya 3) l d λa1=>A.fa o a1 d λa2=>A.c o (.bool true) a2 d λm=>
 A.fr m Qi x2 d λa3=>A.fr m Yf a3 d λa4=>A.fb m .eql a4 (jv 0) d λa5=>A.c m (.bool true) a5 d λp=>A.fr p Qi x2 d λa6=>A.gw p false (λk=>A.k 95 [a6] d k) d λa7 d=>
 A.c p (.bool true) a7 d λa8=>A.test a8 (A.rd (Qe dQ [] [] d) λa9=>A.ws (Xb 23) g a9 d λ_ d=>A.opt (av true 23 g d) λr23=>j (.aG [r23,.af,jv 2]) d) (
 A.r (Zd true 23) l d λb0=>A.k 59 [b0] d λb1 d=>A.wr (Xe dQ [] d) d λf d=>A.ws (Xb 23) f b1 d λ_ d=>A.r Yf x2 d λb2=>A.loop (λb3 h d=>
 A.b .lss (h0 h) b2 d λb4=>A.test b4 (A.s (Yb 1) x2 (h0 h) d λb5=>A.a b5 d λt=>A.r (Zd true 23) f d λb6=>A.k 71 [b6,t] d λq d=>A.r (Xc 0) q d λn=>
 A.r (Xc 1) q d λu=>A.r (Xc 2) q d λb7=>A.r (Xp .not) b7 d λi=>A.fr i Qi n d λb8=>A.fr i (Ya 1) f d λb9=>A.fa i b9 d λc0=>
 A.fb i .neq b8 c0 d λc1=>A.c i (.bool true) c1 d λe=>A.fr e Qi n d λc2=>A.fr e (Ya 7) f d λc3=>A.fs e (Yg 2 8) c3 c2 d λc4=>
 A.fr e (Ya 6) c4 d λc5=>A.fa e c5 d λc6=>A.fr e Qi u d λc7=>A.fs e (Yb 4) c6 c7 d λc8=>A.fr e (Ya 3) c8 d λc9=>A.fa e c9 d λd0=>
 A.c e (.bool true) d0 d λd1=>A.test d1 (A.rd (Qe dQ [] [] d) λd2=>A.ws (Xb 23) g d2 d λ_ d=>A.opt (av true 23 g d) λr55=>j (.aG [r55,.af,jv 2]) d) (
 A.r (Ya 7) f d λd3=>A.s (Yg 2 8) d3 n d λd4=>A.r (Ya 6) d4 d λd5=>A.a d5 d λd6=>A.s (Yb 4) d6 u d λd7=>A.r (Ya 3) d7 d λd8=>
 A.ws (Xb 1) d8 (.bool true) d λ_ d=>A.rd (Qe gB [(0,1),(1,1),(3,1)] [.int .i8 11,n,t] d) λd9=>A.wr (Xi 7 1 gB [(0,7)] [d9] d) d λe0 d=>
 A.wr (Qj 7 72 [(h1 h),e0] d) d λe1 d=>A.b .add (h0 h) (jv 1) d λe2=>b3 [e2,e1] d)) (A.k 96 [x2] d λe3 d=>A.r (Ya 5) f d λe4=>A.ws (Xb 1) e4 e3 d λ_ d=>
 A.r (Ya 3) f d λe5=>A.ws (Xb 1) e5 (.bool true) d λ_ d=>A.r (Ya 2) f d λe6=>A.ws (Xb 1) e6 (.int .i8 1) d λ_ d=>A.r (Zd true 23) f d λe7=>
 A.ws (Xb 23) g e7 d λ_ d=>A.opt (av true 23 g d) λr71=>j (.aG [r71,(h1 h),jv 0]) d)) [jv 0,.af] d))
 |_=>A.stop
theorem qJ:GQ 45 3 g45:=jN [none,none,none,some [42,10],none,none,none] λ_ _ _ _ _ _ _=>by kernel_rfl
end Go.Ah.Tz
end
