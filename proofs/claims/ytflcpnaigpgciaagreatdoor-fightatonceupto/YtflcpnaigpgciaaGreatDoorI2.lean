/- Part of the proof that FightAtOnce holds of the program for arguments that together hold at most 1048576 values and letters; no other condition. -/
import Derived.Test.YtflcpnaigpgciaaGreatDoorI1
import Derived.Orders
import Derived.DataReads
import Derived.ChangeShapes
import Derived.Test.YtflcpnaigpgciaaGreatDoorProg
import Derived.KernelRfl
set_option linter.all false
section
namespace Go.Ah
def Loc(P:Program)(GL:Globs)(m:MOper)(ρ:Frame)(h0:Hp)(v:AVal)(rd:List Nat)(up:List (Nat×ABlk)):Prop:=
 ∀(n:Nat) (ops:Array Oper) (o:Oper),OperOk P GL n ops o m→∀(ρ':Frame) (h:Hp) (w0:World) (L:Ln) (g:Gm) (w:World) (a:Act),
  (∀t∈usesT m,fget ρ' t=fget ρ t)→(∀b∈rd,h b=h0 b)→(∀p∈up,h p.1=h0 p.1)→Rep GL w0 L g h w→DenF n g ρ' a →
  ∀(next:Act→World→Prop) (Q:Exit→Act→World→Prop),(∀g' w' u,g.Le g'→Rep GL w0 L g' (hups h up) w'→DenF n g' (putF m.dst v ρ') (a.put o.dst u)→next (a.put o.dst u) w') →
   if Region.wanted o (yielded ops a.tmps) then o.wp P a w next Q∨(o.asks P a w∧LetsOut Q) else next (a.put o.dst undef) w
section
variable {P:Program} {GL:Globs}
theorem Xbs{m:MOper}{ρ ρ':Frame}(h:∀t∈usesT m,fget ρ' t=fget ρ t):m.xs.map (ev ρ')=m.xs.map (ev ρ):=by
 apply List.map_congr_left;intro x hx;cases x with
 |t n=>exact h n (List.mem_append.2 (.inl (List.mem_filterMap.2 ⟨.t n,hx,rfl⟩)))
 |c v=>rfl
theorem QY{m:MOper}{ρ ρ':Frame}(h:∀t∈usesT m,fget ρ' t=fget ρ t){cs:List (Bool×Bool)}(hg:GuardIs ρ m.guard cs):GuardIs ρ' m.guard cs:=by
 unfold usesT at h;generalize m.guard=gd at hg h;cases hg with
 |none=>exact .none
 |bool s w c e=>exact .bool s w c (by rw[h s (by simp)]; exact e)
 |when s w c cs e=>exact .when s w c cs (by rw[h s (by simp)]; exact e)
theorem Xbu{m:MOper}{ρ:Frame}{σ:List ABlk}{lg:Log}{K:Frame→List ABlk→Log→Prop}(s:StepR true P GL m ρ σ lg K) :
  ∃v rd up σ',upL σ up=some σ'∧K (putF m.dst v ρ) σ' (lg++[(rd,up.map (·.1))])∧Loc P GL m ρ (hp σ) v rd up:=by
 cases s with
 |run cs ys v rd up σ' h1 h2 h3 h4 h5 h6=>
  refine⟨v,rd,up,σ',h5,h6,?_⟩;intro n ops o ok ρ' h w0 L g w a hu hrd hup r d next Q hn;obtain⟨os,hcomp,hos⟩:=ok.op;have hops:=Qao r d hos;rw[if_pos ((Qq ok d (QY hu h1)).1 h2)];left;have hden:=Zae trivial h3 (by rw[←Xbs hu]; exact hops);have ho:=h4 o os hcomp w0 L g h w a r hden hrd hup;refine ho.upon (λg' u w' hle hr hu=>hn g' w' u hle hr ?_);rw[ok.dst];exact(d.mono hle).putF ok.lt hu
 |skip cs h1 h2 h3=>
  refine⟨.junk,[],[],σ,rfl,h3,?_⟩;intro n ops o ok ρ' h w0 L g w a hu hrd hup r d next Q hn;rw[if_neg (by rw[(Qq ok d (QY hu h1)).2 h2]; simp)];refine hn g w undef (Gm.Le.refl g) r ?_;rw[ok.dst];exact d.putF ok.lt (.junk _ _)
 |lazy cs ys v rd h1 h2 h3 h4=>
  refine⟨.when cs v,rd,[],σ,rfl,h4,?_⟩;intro n ops o ok ρ' h w0 L g w a hu hrd hup r d next Q hn;obtain⟨os,hcomp,hos⟩:=ok.op;have hops:=Qao r d hos;by_cases hh:Hold cs
  ·rw[if_pos ((Qq ok d (QY hu h1)).1 hh)];left;have hden:=Zae hh h2 (by rw[←Xbs hu]; exact hops);have ho:=h3 hh o os hcomp w0 L g h w a r hden hrd hup;refine ho.upon (λg' u w' hle hr hu=>hn g' w' u hle hr ?_);rw[ok.dst];exact(d.mono hle).putF ok.lt (.when _ _ _ _ (λ_=>hu) (λh=>(h hh).elim))
  ·rw[if_neg (by rw[(Qq ok d (QY hu h1)).2 hh]; simp)];refine hn g w undef (Gm.Le.refl g) r ?_;rw[ok.dst];exact d.putF ok.lt (.when _ _ _ _ (λh=>(hh h).elim) (λ_=>rfl))
 |pick cs x y z c p q v h1 hk hxs hx hy hz hv h8=>
  refine⟨v,[],[],σ,rfl,h8,?_⟩;intro n ops o ok ρ' h w0 L g w a hu hrd hup r d next Q hn;obtain⟨os,hcomp,hos⟩:=ok.op;have hops:=Qao r d hos;rw[Xbs hu,hxs] at hops;have h1':=QY hu h1;have hcomp':=hcomp;rw[hk] at hcomp';generalize hop:o.op=op at hcomp';cases hcomp' with
  |pick oc oa ob=>
   obtain⟨d1,d2,d3,_⟩:=hops;by_cases hh:Hold cs
   ·rw[if_pos ((Qq ok d h1').1 hh)];left;have e1:=Zx (Qaj hh hx d1);have hres:g.den (.bool (bif c then p else q)) (if c then a.eval oa else a.eval ob):=by
     cases c
     ·exact Qaj ⟨hh,rfl⟩ hz d3
     ·exact Qaj ⟨hh,rfl⟩ hy d2
    have hrun:(execOp a.eval o).run P w=.ok (.value (if c then a.eval oa else a.eval ob)) w:=by
     simp only[execOp,hop,e1,asBool];simp
    unfold Oper.wp;rw[hrun];refine hn g _ _ (Gm.Le.refl g) r ?_;rw[ok.dst];rcases hv with rfl|⟨rfl,rfl⟩
    ·exact d.putF ok.lt (.when _ _ _ _ (λ_=>hres) (λh=>(h hh).elim))
    ·exact d.putF ok.lt hres
   ·rw[if_neg (by rw[(Qq ok d h1').2 hh]; simp)];refine hn g _ _ (Gm.Le.refl g) r ?_;rw[ok.dst];rcases hv with rfl|⟨rfl,rfl⟩
    ·exact d.putF ok.lt (.when _ _ _ _ (λh=>(hh h).elim) (λ_=>rfl))
    ·exact(hh (by simp[Hold])).elim
 |rel cs ys R h0=>cases h0
structure TS where
 v:AVal
 rd:List Nat
 up:List (Nat×ABlk)
def Tr(P:Program)(GL:Globs):List MOper→List TS→Frame→List ABlk→Log→(Frame→List ABlk→Log→Prop)→Prop
 |[],[],ρ,σ,lg,Q=>Q ρ σ lg
 |m::ms,t::ts,ρ,σ,lg,Q=>Loc P GL m ρ (hp σ) t.v t.rd t.up∧∃σ',upL σ t.up=some σ'∧Tr P GL ms ts (putF m.dst t.v ρ) σ' (lg++[(t.rd,t.up.map (·.1))]) Q
 |_,_,_,_,_,_=>False
theorem Zbn:∀(ms:List MOper) (ρ:Frame) (σ:List ABlk) (lg:Log) (Q:Frame→List ABlk→Log→Prop),AwpR true P GL ms ρ σ lg Q→∃ts,Tr P GL ms ts ρ σ lg Q
 |[],ρ,σ,lg,Q,h=>⟨[],h⟩
 |m::ms,ρ,σ,lg,Q,h=>by
  obtain⟨v,rd,up,σ',h1,h2,h3⟩:=Xbu h;obtain⟨ts,ht⟩:=Zbn ms _ _ _ Q h2;exact⟨⟨v,rd,up⟩::ts,h3,σ',h1,ht⟩
def frS(S:Nat→Bool):Nat→List MOper→List TS→Frame→Frame
 |i,m::ms,t::ts,ρ=>frS S (i+1) ms ts (if S i then putF m.dst t.v ρ else ρ)
 |_,_,_,ρ=>ρ
def hpS(S:Nat→Bool):Nat→List TS→Hp→Hp
 |i,t::ts,h=>hpS S (i+1) ts (if S i then hups h t.up else h)
 |_,_,h=>h
theorem Zab{S S':Nat→Bool}{t:Nat}:∀(ms:List MOper) (ts:List TS) (i:Nat) (ρ ρ':Frame),(∀(k:Nat) (m:MOper),ms[k]?=some m→m.dst=some t→S (i+k)=S' (i+k))→fget ρ t=fget ρ' t→fget (frS S i ms ts ρ) t=fget (frS S' i ms ts ρ') t
 |[],_,_,_,_,_,h=>by simpa[frS] using h
 |_::_,[],_,_,_,_,h=>by simpa[frS] using h
 |m::ms,x::ts,i,ρ,ρ',hs,h=>by
  simp only[frS];refine Zab ms ts (i+1) _ _ (λk m' e1 e2=>by have:=hs (k+1) m' (by simpa using e1) e2; rwa [show i+(k+1)=i+1+k by omega] at this) ?_;by_cases hd:m.dst=some t
  ·have:=hs 0 m rfl hd;rw[Nat.add_zero] at this;rw[this];cases S' i<;>simp[ZY,hd,h]
  ·have e1:∀(b:Bool) (r:Frame),fget (if b then putF m.dst x.v r else r) t=fget r t:=by intro b r; cases b<;>simp[ZY,hd]
   rw[e1,e1,h]
theorem Qa3:∀(up:List (Nat×ABlk)) (h h':Hp) (b:Nat),b∈up.map (·.1)→hups h up b=hups h' up b
 |[],_,_,_,e=>by cases e
 |(a,x)::up,h,h',b,e=>by
  by_cases hb:b∈up.map (·.1)
  ·exact Qa3 up _ _ b hb
  ·have:b=a:=by simp at e hb; rcases e with e|⟨y,e⟩; exact e; exact(hb y e).elim
   subst this;have out:∀(up:List (Nat×ABlk)) (h:Hp),b∉up.map (·.1)→hups h up b=h b:=by
    intro up
    induction up with
    |nil=>intro h _; rfl
    |cons p up ih=>
     intro h hn;simp only[List.map_cons,List.mem_cons,not_or] at hn;obtain⟨a,x⟩:=p;show hups (hup h a x) up b=h b;rw[ih _ hn.2,Yp _ _ hn.1]
   show hups (hup h b x) up b=hups (hup h' b x) up b;rw[out _ _ hb,out _ _ hb,Yr,Yr]
theorem Za4:∀(up:List (Nat×ABlk)) (h:Hp) (b:Nat),b∉up.map (·.1)→hups h up b=h b
 |[],_,_,_=>rfl
 |(a,x)::up,h,b,hn=>by
  simp only[List.map_cons,List.mem_cons,not_or] at hn;show hups (hup h a x) up b=h b;rw[Za4 up _ b hn.2,Yp _ _ hn.1]
theorem Qab{S S':Nat→Bool}{b:Nat}:∀(ts:List TS) (i:Nat) (h h':Hp),(∀(k:Nat) (t:TS),ts[k]?=some t→b∈t.up.map (·.1)→S (i+k)=S' (i+k))→h b=h' b→hpS S i ts h b=hpS S' i ts h' b
 |[],_,_,_,_,h=>by simpa[hpS] using h
 |x::ts,i,h,h',hs,e=>by
  simp only[hpS];refine Qab ts (i+1) _ _ (λk t e1 e2=>by have:=hs (k+1) t (by simpa using e1) e2; rwa [show i+(k+1)=i+1+k by omega] at this) ?_;by_cases hd:b∈x.up.map (·.1)
  ·have:=hs 0 x rfl hd;rw[Nat.add_zero] at this;rw[this];cases S' i
   ·simpa using e
   ·simpa using Qa3 _ _ _ _ hd
  ·have e1:∀(c:Bool) (r:Hp),(if c then hups r x.up else r) b=r b:=by intro c r; cases c<;>simp[Za4 _ _ _ hd]
   rw[e1,e1,e]
theorem YbD{S:Nat→Bool}{t:Nat}:∀(ms:List MOper) (ts:List TS) (i:Nat) (ρ:Frame) (j:Nat) (m:MOper) (x:TS),ms[j]?=some m→ts[j]?=some x→m.dst=some t→S (i+j)=true →
  (∀(k:Nat) (m':MOper),ms[k]?=some m'→m'.dst=some t→S (i+k)=true→k≤j)→fget (frS S i ms ts ρ) t=x.v
 |m::ms,x::ts,i,ρ,0,m0,x0,e1,e2,e3,e4,hl=>by
  simp at e1 e2; subst e1 e2;rw[Nat.add_zero] at e4;simp only[frS,e4,if_true];have:=Zab (S:=S) (S':=λ_=>false) (t:=t) ms ts (i + 1) (putF m.dst x.v ρ) (putF m.dst x.v ρ) (λk m' q1 q2=>by
   cases hS:S (i+1+k) with
   |false=>rfl
   | true=>have:=hl (k + 1) m' (by simpa using q1) q2 (by rwa [show i + (k + 1)=i + 1 + k by omega]); omega) rfl
  rw[this];have hid:∀(ms:List MOper) (ts:List TS) (i:Nat) (ρ:Frame),frS (λ_=>false) i ms ts ρ=ρ:=by
   intro ms
   induction ms with
   |nil=>intros; simp[frS]
   |cons m ms ih=>intro ts i ρ; cases ts with
    |nil=>simp[frS]
    |cons x ts=>simp[frS,ih]
  rw[hid,ZY,if_pos e3]
 |m::ms,x::ts,i,ρ,j+1,m0,x0,e1,e2,e3,e4,hl=>by
  simp only[frS];exact YbD ms ts (i + 1) _ j m0 x0 (by simpa using e1) (by simpa using e2) e3 (by rwa [show i + 1 + j=i + (j + 1) by omega]) (λk m' q1 q2 q3=>by
   have:=hl (k + 1) m' (by simpa using q1) q2 (by rwa [show i + (k + 1)=i + 1 + k by omega]); omega)
 |[],_,_,_,_,_,_,e1,_,_,_,_=>by simp at e1
 |_::_,[],_,_,_,_,_,_,e2,_,_,_=>by simp at e2
theorem QbD{S:Nat→Bool}{b:Nat}:∀(ts:List TS) (i:Nat) (h:Hp) (j:Nat) (x:TS),ts[j]?=some x→b∈x.up.map (·.1)→S (i+j)=true →
  (∀(k:Nat) (x':TS),ts[k]?=some x'→b∈x'.up.map (·.1)→S (i+k)=true→k≤j)→∀h':Hp,hpS S i ts h b=hups h' x.up b
 |x::ts,i,h,0,x0,e2,e3,e4,hl,h'=>by
  simp at e2; subst e2;rw[Nat.add_zero] at e4;simp only[hpS,e4,if_true];have:=Qab (S:=S) (S':=λ_=>false) (b:=b) ts (i + 1) (hups h x.up) (hups h' x.up) (λk m' q1 q2=>by
   cases hS:S (i+1+k) with
   |false=>rfl
   | true=>have:=hl (k + 1) m' (by simpa using q1) q2 (by rwa [show i + (k + 1)=i + 1 + k by omega]); omega) (Qa3 _ _ _ _ e3)
  rw[this];have hid:∀(ts:List TS) (i:Nat) (h:Hp),hpS (λ_=>false) i ts h=h:=by
   intro ts
   induction ts with
   |nil=>intros; simp[hpS]
   |cons m ms ih=>intro i ρ; simp[hpS,ih]
  rw[hid]
 |x::ts,i,h,j+1,x0,e2,e3,e4,hl,h'=>by
  simp only[hpS];exact QbD ts (i + 1) _ j x0 (by simpa using e2) e3 (by rwa [show i + 1 + j=i + (j + 1) by omega]) (λk m' q1 q2 q3=>by
   have:=hl (k + 1) m' (by simpa using q1) q2 (by rwa [show i + (k + 1)=i + 1 + k by omega]); omega) h'
 |[],_,_,_,_,e2,_,_,_,_=>by simp at e2
theorem ZcV:∀(ms:List MOper) (ts:List TS) (i:Nat) (ρ:Frame) (σ:List ABlk) (lg:Log) (Q:Frame→List ABlk→Log→Prop),Tr P GL ms ts ρ σ lg Q →
  ts.length=ms.length ∧
  (∀(j:Nat) (m:MOper) (x:TS),ms[j]?=some m→ts[j]?=some x→∃ρ',(∀t,fget ρ' t=fget (frS (λk=>decide (k<i+j)) i ms ts ρ) t)∧Loc P GL m ρ' (hpS (λk=>decide (k<i+j)) i ts (hp σ)) x.v x.rd x.up) ∧
  ∃ρ' σ',(∀t,fget ρ' t=fget (frS (λ_=>true) i ms ts ρ) t)∧hp σ'=hpS (λ_=>true) i ts (hp σ)∧Q ρ' σ' (lg++ts.map λx=>(x.rd,x.up.map (·.1)))
 |[],[],i,ρ,σ,lg,Q,h=>⟨rfl,by simp,ρ,σ,by simp[frS],by simp[hpS],by simpa[Tr] using h⟩
 |[],_::_,_,_,_,_,_,h=>h.elim
 |_::_,[],_,_,_,_,_,h=>h.elim
 |m::ms,x::ts,i,ρ,σ,lg,Q,h=>by
  obtain⟨h1,σ',h2,h3⟩:=h;obtain⟨k1,k2,ρ2,σ2,k3,k4,k5⟩:=ZcV ms ts (i+1) _ _ _ _ h3;have hu:=Yaq _ _ _ h2;refine⟨by simp[k1],λj m' x' e1 e2=>?_,ρ2,σ2,λt=>by rw[k3 t]; simp[frS],by rw[k4]; simp only[hpS,if_true]; rw[hu],by simpa[List.append_assoc] using k5⟩;cases j with
  |zero=>
   simp at e1 e2; subst e1 e2;have hf:∀t,fget ρ t=fget (frS (λk=>decide (k<i+0)) i (m::ms) (x::ts) ρ) t:=by
    intro t;have:=Zab (S:=λk=>decide (k<i+0)) (S':=λ_=>false) (t:=t) (m::ms) (x::ts) i ρ ρ (λk _ _ _=>by simp) rfl;rw[this];have hid:∀(ms:List MOper) (ts:List TS) (i:Nat) (ρ:Frame),frS (λ_=>false) i ms ts ρ=ρ:=by
     intro ms
     induction ms with
     |nil=>intros; simp[frS]
     |cons m ms ih=>intro ts i ρ; cases ts with
      |nil=>simp[frS]
      |cons x ts=>simp[frS,ih]
    rw[hid]
   have hh:hpS (λk=>decide (k<i+0)) i (x::ts) (hp σ)=hp σ:=by
    funext b
    have:=Qab (S:=λk=>decide (k<i+0)) (S':=λ_=>false) (b:=b) (x::ts) i (hp σ) (hp σ) (λk _ _ _=>by simp) rfl;rw[this];have hid:∀(ts:List TS) (i:Nat) (h:Hp),hpS (λ_=>false) i ts h=h:=by
     intro ts
     induction ts with
     |nil=>intros; simp[hpS]
     |cons m ms ih=>intro i ρ; simp[hpS,ih]
    rw[hid]
   exact⟨ρ,hf,by rw[hh]; exact h1⟩
  |succ j=>
   simp at e1 e2;obtain⟨ρ',q1,q2⟩:=k2 j m' x' e1 e2;refine⟨ρ',λt=>?_,?_⟩
   ·rw[q1 t]; simp only[frS];rw[if_pos (by simp)];rw[show i+(j+1)=i+1+j by omega]
   ·simp only[hpS];rw[if_pos (by simp),hu,show i+(j+1)=i+1+j by omega];exact q2
end
end Go.Ah
end
section
namespace Go.Ah
theorem XK:∀ {a b:List Nat},disj a b=true→∀x,x∈a→x∉b
 |[],_,_,x,h=>by cases h
 |y::a,b,hd,x,h=>by
  simp only[disj,Bool.and_eq_true,Bool.not_eq_true'] at hd;rcases List.mem_cons.1 h with rfl|h
  ·intro hb; have:=List.contains_iff_mem.2 hb; rw[hd.1] at this; cases this
  ·exact XK hd.2 x h
theorem Xae{h:List Nat}{q:List Nat×List Nat}:∀ {lg:Log} {i:Nat},QA h q i lg=true→∀(k:Nat) (p:List Nat×List Nat),lg[k]?=some p→(i+k)∈h∨apart2 p q=true
 |[],_,_,_,_,e=>by simp at e
 |p::lg,i,hh,0,p',e=>by
  simp at e; subst e;simp only[QA,Bool.and_eq_true,Bool.or_eq_true] at hh;rcases hh.1 with h1|h1
  ·exact .inl (List.contains_iff_mem.1 h1)
  ·exact .inr h1
 |p::lg,i,hh,k+1,p',e=>by
  simp only[QA,Bool.and_eq_true] at hh;have:=Xae hh.2 k p' (by simpa using e)
  rwa [show i+(k+1)=i+1+k by omega]
def cnt(S:Nat→Bool):Nat→Nat
 |0=>0
 |n+1=>cnt S n+(if S n then 0 else 1)
theorem YbA{S:Nat→Bool}:∀ {n:Nat},cnt S n=0→∀k,k<n→S k=true
 |0,_,k,h=>by omega
 |n+1,e,k,h=>by
  simp only[cnt] at e;by_cases hk:k=n
  ·subst hk;cases hs:S k with
   |true=>rfl
   |false=>simp[hs] at e
  ·exact YbA (S:=S) (n:=n) (by omega) k (by omega)
theorem ZbA{S S':Nat→Bool}:∀ {n:Nat},(∀k,k<n→S' k=S k)→cnt S' n=cnt S n
 |0,_=>rfl
 |n+1,h=>by simp only[cnt]; rw[ZbA (λk hk=>h k (by omega)),h n (by omega)]
theorem QbZ{S S':Nat→Bool}{j:Nat}:∀ {n:Nat},j<n→S j=false→S' j=true→(∀k,k<n→k≠j→S' k=S k)→cnt S' n+1=cnt S n
 |0,h,_,_,_=>by omega
 |n+1,h,h1,h2,h3=>by
  simp only[cnt];by_cases hj:j=n
  ·subst hj;rw[ZbA (λk hk=>h3 k (by omega) (by omega)),h1,h2]; simp
  ·have:=QbZ (n:=n) (by omega) h1 h2 (λk hk hne=>h3 k (by omega) hne);rw[h3 n (by omega) (λe=>hj e.symm)];omega
structure DrawFacts (ops:List Oper) (ms:List MOper) (hd:List (List Nat)):Prop where
 len:ops.length=ms.length
 back:∀j,j<ms.length→∀i∈waits (ops.getD j default),i<j
 ahd:∀j,j<ms.length→∀i∈ZD hd j,i<j∧(i∈waits (ops.getD j default)∨∃k∈waits (ops.getD j default),i∈ZD hd k)
 slots:∀j,j<ms.length→∀i,i<j→i∈ZD hd j∨((∀t∈defsT (ms.getD i default),t∉usesT (ms.getD j default))∧(∀t∈defsT (ms.getD i default),t∉defsT (ms.getD j default))∧∀t∈usesT (ms.getD i default),t∉defsT (ms.getD j default))
theorem Xbb{ops:List Oper}{ms:List MOper}{hd:List (List Nat)}(h:Ybb ops ms hd=true):DrawFacts ops ms hd:=by
 unfold Ybb at h;simp only[Bool.and_eq_true,List.all_eq_true,List.mem_range,Bool.or_eq_true,List.any_eq_true] at h;obtain⟨⟨⟨⟨h1,h2⟩,h3⟩,h4⟩,h5⟩:=h;refine⟨YNB h1,λj hj i hi=>YNL (h3 j hj i hi),λj hj i hi=>?_,λj hj i hi=>?_⟩
 ·obtain⟨q1,q2⟩:=h4 j hj i hi;refine⟨YNL q1,?_⟩;rcases q2 with q|⟨k,q,q'⟩
  ·exact .inl (List.contains_iff_mem.1 q)
  ·exact .inr ⟨k,q,List.contains_iff_mem.1 q'⟩
 ·rcases h5 j hj i hi with q|q
  ·exact .inl (List.contains_iff_mem.1 q)
  ·obtain⟨⟨q1,q2⟩,q3⟩:=q;exact .inr ⟨XK q1,XK q2,XK q3⟩
section
variable {P:Program} {GL:Globs}
theorem Yby{ops:List Oper}{ms:List MOper}{hd:List (List Nat)}(D:DrawFacts ops ms hd){S:Nat→Bool}(hS:∀j,S j=true→j<ms.length∧∀i∈waits (ops.getD j default),S i=true) :
  ∀(j:Nat),j<ms.length→(∀i∈waits (ops.getD j default),S i=true)→∀i∈ZD hd j,S i=true:=by
 intro j
 induction j using Nat.strongRecOn with
 |_ j ih=>
  intro hj hw i hi;rcases (D.ahd j hj i hi).2 with q|⟨k,q,q'⟩
  ·exact hw i q
  ·have hk:=hw k q;exact ih k (D.back j hj k q) (hS k hk).1 (hS k hk).2 i q'
theorem Xbg{o:Oper}{i:Nat}:i∈waits o↔∃e∈o.after,Region.binds .any e=true∧e.on=i:=by
 unfold waits;simp only[List.mem_map,List.mem_filter,Array.mem_toList_iff];constructor
 ·rintro⟨e,⟨h1,h2⟩,h3⟩; exact⟨e,h1,h2,h3⟩
 ·rintro⟨e,h1,h2,h3⟩; exact⟨e,⟨h1,h2⟩,h3⟩
theorem ZaL(ops:Array Oper)(j:Nat){o:Oper}(h:ops[j]?=some o):ops.toList.getD j default=o:=by
 rw[List.getD_eq_getElem?_getD,Array.getElem?_toList,h]; rfl
theorem XbM{n:Nat}{ops:Array Oper}{ms:List MOper}{hd:List (List Nat)}(hsz:ops.size=ms.length)(hok:∀(j:Nat) (m:MOper),ms[j]?=some m→∃o,ops[j]?=some o∧OperOk P GL n ops o m)(hdr:Ybb ops.toList ms hd=true)
 {ρ:Frame}{σ:List ABlk}{ts:List TS}{K:Frame→List ABlk→Log→Prop}(htr:Tr P GL ms ts ρ σ [] K)(hap:Qe hd (ts.map λx=>(x.rd,x.up.map (·.1)))=true)
 {w0:World}{L:Ln}{g:Gm}(Q:Exit→Act→World→Prop)(hQ:∀g' ρ' σ' a w,g.Le g'→Rep GL w0 L g' (hp σ') w→DenF n g' ρ' a→K ρ' σ' (ts.map λx=>(x.rd,x.up.map (·.1)))→Q .normal a w) :
  ∀(fuel:Nat) (listed:Array Bool) (a:Act) (w:World),listed.size=ms.length→(∀j,listed.getD j false=true→j<ms.length∧∀i∈waits (ops.toList.getD j default),listed.getD i false=true) →
   cnt (λk=>listed.getD k false) ms.length≤fuel→(∃g' ρ',g.Le g'∧Rep GL w0 L g' (hpS (λk=>listed.getD k false) 0 ts (hp σ)) w∧DenF n g' ρ' a∧∀t,fget ρ' t=fget (frS (λk=>listed.getD k false) 0 ms ts ρ) t) →
   wpAny P .any ops Q fuel listed a w:=by
 have D:=Xbb hdr;obtain⟨hlen,hat,ρf,σf,hf1,hf2,hf3⟩:=ZcV ms ts 0 ρ σ [] K htr;rw[List.nil_append] at hf3;have hA:∀j,j<ms.length→∀i,i<j→i∈ZD hd j∨apart2 (Z3 (ts.map λx=>(x.rd,x.up.map (·.1))) i) (Z3 (ts.map λx=>(x.rd,x.up.map (·.1))) j)=true:=by
  intro j hj i hi;unfold Qe at hap;simp only[List.all_eq_true,List.mem_range,List.length_map] at hap;have:=Xae (hap j (by omega)) i (Z3 (ts.map λx=>(x.rd,x.up.map (·.1))) i) (by
   rw[List.getElem?_take_of_lt hi];unfold Z3;rw[List.getElem?_eq_getElem (by simp; omega)];rfl)
  rwa [Nat.zero_add] at this
 have hlog:∀j x,ts[j]?=some x→Z3 (ts.map λx=>(x.rd,x.up.map (·.1))) j=(x.rd,x.up.map (·.1)):=by
  intro j x e; unfold Z3; rw[List.getElem?_map,e]; rfl
 have fin:∀(listed:Array Bool) (a:Act) (w:World),(∀k,k<ms.length→listed.getD k false=true)→(∃g' ρ',g.Le g'∧Rep GL w0 L g' (hpS (λk=>listed.getD k false) 0 ts (hp σ)) w∧DenF n g' ρ' a∧∀t,fget ρ' t=fget (frS (λk=>listed.getD k false) 0 ms ts ρ) t)→Q .normal a w:=by
  rintro listed a w hall ⟨g',ρ',h1,h2,h3,h4⟩;refine hQ g' ρf σf a w h1 ?_ ?_ hf3
  ·rw[hf2];have:hpS (λk=>listed.getD k false) 0 ts (hp σ)=hpS (λ_=>true) 0 ts (hp σ):=by
    funext b
    refine Qab _ _ _ _ (λk t e _=>?_) rfl;have:k<ts.length:=(YLG e).1;rw[Nat.zero_add]; exact hall k (by omega)
   rw[←this]; exact h2
  ·refine h3.weak (λt=>.inl ?_);rw[hf1 t,h4 t];refine Zab _ _ _ _ _ (λk m e _=>?_) rfl;have:k<ms.length:=(YLG e).1;rw[Nat.zero_add]; exact(hall k this).symm
 have rdy:∀(listed:Array Bool),listed.size=ms.length→Region.ready .any ops listed=[]→∀k,k<ms.length→listed.getD k false=true:=by
  intro listed hs hr k
  induction k using Nat.strongRecOn with
  |_ k ih=>
   intro hk;cases hl:listed.getD k false with
   |true=>rfl
   |false=>
    exfalso;have hko:ops[k]?=some ops[k]:=by simp
    have:k∈Region.ready .any ops listed:=by
     rw[mem_ready];refine⟨?_,ops[k],hko,λe he hb=>?_⟩
     ·rw[Array.getD_eq_getD_getElem?,Array.getElem?_eq_getElem (by omega)] at hl ⊢; exact hl
     ·have hw:e.on∈waits (ops.toList.getD k default):=by rw[ZaL ops k hko,Xbg]; exact⟨e,he,hb,rfl⟩
      have hlt:=D.back k hk _ hw;exact ih e.on hlt (by omega)
    rw[hr] at this; cases this
 intro fuel
 induction fuel with
 |zero=>
  intro listed a w hs hS hc hst;have hall:=YbA (Nat.le_zero.1 hc);refine⟨?_,fin listed a w hall hst⟩;cases hr:Region.ready .any ops listed with
  |nil=>rfl
  |cons k r=>
   exfalso;have:k∈Region.ready .any ops listed:=by rw[hr]; simp
   obtain⟨h1,o,ho,_⟩:=mem_ready.1 this;have hk:k<ms.length:=by rw[←hsz]; exact(Array.getElem?_eq_some_iff.1 ho).1
   have:=hall k hk;rw[Array.getD_eq_getD_getElem?,Array.getElem?_eq_getElem (by omega)] at h1 this;simp at h1 this; rw[h1] at this; cases this
 |succ fuel ih=>
  intro listed a w hs hS hc hst;refine⟨λhr=>fin listed a w (rdy listed hs hr) hst,λj hj=>?_⟩;obtain⟨h1,o,ho,hedge⟩:=mem_ready.1 hj;have hjn:j<ms.length:=by rw[←hsz]; exact(Array.getElem?_eq_some_iff.1 ho).1
  have hSj:listed.getD j false=false:=by
   rw[Array.getD_eq_getD_getElem?,Array.getElem?_eq_getElem (by omega)] at h1 ⊢; exact h1
  have hwj:∀i∈waits (ops.toList.getD j default),listed.getD i false=true:=by
   intro i hi;rw[ZaL ops j ho,Xbg] at hi;obtain⟨e,he,hb,rfl⟩:=hi;exact hedge e he hb
  have hhd:=Yby D (S:=λk=>listed.getD k false) hS j hjn hwj;have hmj:ms[j]?=some ms[j]:=by simp
  have htj:ts[j]?=some (ts[j]'(by omega)):=by simp[show j<ts.length by omega]
  generalize hmd:ms[j]=m at hmj;generalize hxd:(ts[j]'(by omega))=x at htj;have hmD:ms.getD j default=m:=by rw[List.getD_eq_getElem?_getD,hmj]; rfl
  obtain⟨o',ho',oko⟩:=hok j m hmj;rw[ho] at ho'; cases ho';obtain⟨ρj,q1,q2⟩:=hat j m x hmj htj;simp only[Nat.zero_add] at q1 q2;obtain⟨g',ρ',s1,s2,s3,s4⟩:=hst;have key:∀k,k<ms.length→(k<j→k∈ZD hd j)→(j<k→j∈ZD hd k)→(k≠j)→(listed.getD k false=decide (k<j)):=by
   intro k hk ha hb hne;by_cases hlt:k<j
   ·rw[decide_eq_true hlt]; exact hhd k (ha hlt)
   ·rw[decide_eq_false hlt];have hgt:j<k:=by omega
    cases hl:listed.getD k false with
    |false=>rfl
    |true=>
     have:listed.getD j false=true:=Yby D (S:=λk=>listed.getD k false) hS k hk (hS k hl).2 j (hb hgt);rw[hSj] at this; cases this
  have hslot:∀t,(t∈usesT m)→∀k mk,ms[k]?=some mk→mk.dst=some t→k≠j→listed.getD k false=decide (k<j):=by
   intro t ht k mk hk hdst hne;have hkn:k<ms.length:=(YLG hk).1;have hkD:ms.getD k default=mk:=by rw[List.getD_eq_getElem?_getD,hk]; rfl
   have hdef:t∈defsT mk:=by unfold defsT; rw[hdst]; simp
   refine key k hkn (λhlt=>?_) (λhgt=>?_) hne
   ·rcases D.slots j hjn k hlt with q|⟨q,_,_⟩
    ·exact q
    ·rw[hkD,hmD] at q; exact(q t hdef ht).elim
   ·rcases D.slots k hkn j hgt with q|⟨_,_,q⟩
    ·exact q
    ·rw[hkD,hmD] at q; exact(q t ht hdef).elim
  have hblk:∀b,(b∈x.rd∨b∈x.up.map (·.1))→∀k xk,ts[k]?=some xk→b∈xk.up.map (·.1)→k≠j→listed.getD k false=decide (k<j):=by
   intro b hb k xk hk hin hne;have hkn:k<ms.length:=by rw[←hlen]; exact(YLG hk).1
   refine key k hkn (λhlt=>?_) (λhgt=>?_) hne
   ·rcases hA j hjn k hlt with q|q
    ·exact q
    ·rw[hlog k xk hk,hlog j x htj] at q;simp only[apart2,Bool.and_eq_true] at q;rcases hb with hb|hb
     ·exact(XK q.2.1 b hin hb).elim
     ·exact(XK q.2.2 b hin hb).elim
   ·rcases hA k hkn j hgt with q|q
    ·exact q
    ·rw[hlog k xk hk,hlog j x htj] at q;simp only[apart2,Bool.and_eq_true] at q;rcases hb with hb|hb
     ·exact(XK q.1 b hb hin).elim
     ·exact(XK q.2.2 b hb hin).elim
  have hjself:∀k,k=j→listed.getD k false=decide (k<j):=by rintro k rfl; rw[hSj]; simp
  have heq:∀b,(b∈x.rd∨b∈x.up.map (·.1))→hpS (λk=>listed.getD k false) 0 ts (hp σ) b=hpS (λk=>decide (k<j)) 0 ts (hp σ) b:=by
   intro b hb;refine Qab _ _ _ _ (λk xk e1 e2=>?_) rfl;rw[Nat.zero_add];by_cases hkj:k=j
   ·exact hjself k hkj
   ·exact hblk b hb k xk e1 e2 hkj
  unfold wpOp;simp only[ho];refine q2 n ops o oko ρ' _ w0 L g' w a (λt ht=>?_) (λb hb=>heq b (.inl hb)) (λp hp'=>heq p.1 (.inr (List.mem_map.2 ⟨p,hp',rfl⟩))) s2 s3 _ _ (λg2 w2 u hle hr hd2=>?_)
  ·rw[s4 t,q1 t];refine Zab _ _ _ _ _ (λk mk e1 e2=>?_) rfl;rw[Nat.zero_add];by_cases hkj:k=j
   ·exact hjself k hkj
   ·exact hslot t ht k mk e1 e2 hkj
  ·have hset:∀k,k<ms.length→(listed.setIfInBounds j true).getD k false=if k=j then true else listed.getD k false:=by
    intro k hk;by_cases hkj:k=j
    ·subst hkj; simp[show k<listed.size by omega]
    ·rw[if_neg hkj]; simp[Array.getElem?_setIfInBounds_ne (Ne.symm hkj)]
   have hset':∀k,(listed.setIfInBounds j true).getD k false=if k=j then true else listed.getD k false:=by
    intro k;by_cases hk:k<ms.length
    ·exact hset k hk
    ·rw[if_neg (by omega)];rw[Array.getD_eq_getD_getElem?,Array.getD_eq_getD_getElem?,Array.getElem?_eq_none (by simp; omega),Array.getElem?_eq_none (by omega)]
   refine ih _ _ _ (by simpa using hs) (λk hk=>?_) ?_ ⟨g2,putF m.dst x.v ρ',s1.trans hle,?_,hd2,λt=>?_⟩
   ·rw[hset'] at hk;by_cases hkj:k=j
    ·subst hkj;refine⟨hjn,λi hi=>?_⟩;rw[hset']; split
     ·rfl
     ·exact hwj i hi
    ·rw[if_neg hkj] at hk;refine⟨(hS k hk).1,λi hi=>?_⟩;rw[hset']; split
     ·rfl
     ·exact(hS k hk).2 i hi
   ·have:=QbZ (S:=λk=>listed.getD k false) (S':=λk=>(listed.setIfInBounds j true).getD k false) (j:=j) (n:=ms.length) hjn hSj (by simp only[hset']; simp) (λk hk hne=>by simp only[hset']; rw[if_neg hne]);omega
   ·have:hpS (λk=>(listed.setIfInBounds j true).getD k false) 0 ts (hp σ)=hups (hpS (λk=>listed.getD k false) 0 ts (hp σ)) x.up:=by
     funext b
     by_cases hb:b∈x.up.map (·.1)
     ·refine QbD ts 0 (hp σ) j x htj hb (by rw[Nat.zero_add,hset',if_pos rfl]) (λk xk e1 e2 e3=>?_) _;rw[Nat.zero_add,hset'] at e3;by_cases hkj:k=j
      ·omega
      ·rw[if_neg hkj] at e3;rw[hblk b (.inr hb) k xk e1 e2 hkj] at e3;have:=of_decide_eq_true e3; omega
     ·rw[Za4 _ _ _ hb];refine Qab _ _ _ _ (λk xk e1 e2=>?_) rfl;rw[Nat.zero_add];simp only[hset'];have hkj:k≠j:=by rintro rfl; rw[htj] at e1; cases e1; exact hb e2
      rw[if_neg hkj]
    rw[this]; exact hr
   ·rw[ZY];by_cases hdt:m.dst=some t
    ·rw[if_pos hdt];refine(YbD ms ts 0 ρ j m x hmj htj hdt (by rw[Nat.zero_add,hset',if_pos rfl]) (λk mk e1 e2 e3=>?_)).symm;rw[Nat.zero_add,hset'] at e3;by_cases hkj:k=j
     ·omega
     ·rw[if_neg hkj] at e3;have hkn:k<ms.length:=(YLG e1).1;have hkD:ms.getD k default=mk:=by rw[List.getD_eq_getElem?_getD,e1]; rfl
      have hdefm:t∈defsT m:=by unfold defsT; rw[hdt]; simp
      have hdefk:t∈defsT mk:=by unfold defsT; rw[e2]; simp
      have:=key k hkn (λhlt=>by
       rcases D.slots j hjn k hlt with q|⟨_,q,_⟩
       ·exact q
       ·rw[hkD,hmD] at q; exact(q t hdefk hdefm).elim) (λhgt=>by
       rcases D.slots k hkn j hgt with q|⟨_,q,_⟩
       ·exact q
       ·rw[hkD,hmD] at q; exact(q t hdefm hdefk).elim) hkj
      rw[this] at e3;have:=of_decide_eq_true e3; omega
    ·rw[if_neg hdt,s4 t];refine Zab _ _ _ _ _ (λk mk e1 e2=>?_) rfl;rw[Nat.zero_add];simp only[hset'];have hkj:k≠j:=by rintro rfl; rw[hmj] at e1; cases e1; exact hdt e2
     rw[if_neg hkj]
theorem Ybz(hP:P.follows .mixedOrders=true){n:Nat}{id:Nat}{ms:List MOper}{hd:List (List Nat)}{ρ:Frame}{σ:List ABlk}{Q:APost}
 (h:AwpR true P GL ms ρ σ [] (λρ' σ' lg=>Qe hd lg=true∧Q .normal ρ' σ')):Awp P GL n (.region id ms (some hd)) ρ σ Q:=by
 intro c hc w0 L g a w r d;cases hc with
 |draw _ ops _ _ hsz hok hdr=>
  obtain⟨ts,htr⟩:=Zbn ms ρ σ [] _ h;obtain⟨hlen,_,ρf,σf,_,_,hf3⟩:=ZcV ms ts 0 ρ σ [] _ htr;rw[List.nil_append] at hf3;refine wp_region_any hP ?_;refine XbM (w0:=w0) (L:=L) (g:=g) hsz hok hdr htr hf3.1 _ (λg' ρ' σ' a' w' k1 k2 k3 k4=>⟨g',ρ',σ',k1,k2,k3,k4.2⟩) ops.size _ a _ (by simp[hsz]) (λj hj=>?_) ?_ ⟨g,ρ,Gm.Le.refl g,?_,d,λt=>?_⟩
  ·exfalso;rw[Array.getD_eq_getD_getElem?,Array.getElem?_replicate] at hj;split at hj<;>simp at hj
  ·rw[hsz];have:∀m,cnt (λk=>(Array.replicate ms.length false).getD k false) m≤m:=by
    intro m
    induction m with
    |zero=>exact Nat.le_refl _
    |succ m ih=>simp only[cnt]; split<;>omega
   exact this _
  ·have hF:(λk=>(Array.replicate ops.size false).getD k false)=λ_=>false:=by
    funext k; rw[Array.getD_eq_getD_getElem?,Array.getElem?_replicate]; split<;>rfl
   rw[hF];have hid:∀(ts:List TS) (i:Nat) (h:Hp),hpS (λ_=>false) i ts h=h:=by
    intro ts
    induction ts with
    |nil=>intros; simp[hpS]
    |cons m ms ih=>intro i ρ; simp[hpS,ih]
   rw[hid];exact r.drew
  ·have hF:(λk=>(Array.replicate ops.size false).getD k false)=λ_=>false:=by
    funext k; rw[Array.getD_eq_getD_getElem?,Array.getElem?_replicate]; split<;>rfl
   rw[hF];have hid:∀(ms:List MOper) (ts:List TS) (i:Nat) (ρ:Frame),frS (λ_=>false) i ms ts ρ=ρ:=by
    intro ms
    induction ms with
    |nil=>intros; simp[frS]
    |cons m ms ih=>intro ts i ρ; cases ts with
     |nil=>simp[frS]
     |cons x ts=>simp[frS,ih]
   rw[hid]
end
end Go.Ah
end
section
namespace Go.Ah
theorem Steps.peel{P:Program}{m m₁ t:Machine}(h:Steps P m t)(hs:step P m=.next m₁):t=m∨Steps P m₁ t:=by
 obtain⟨n,hn⟩:=h;cases n with
 |zero=>simp[runN] at hn; exact .inl hn.symm
 |succ n=>simp only[runN,hs] at hn; exact .inr ⟨n,hn⟩
theorem ZaW:∀(k k':List Item) (id:Nat),exitTo id k=some k'→k'.length≤k.length
  |[],k',id,h=>by simp[exitTo] at h
  |x::k,k',id,h=>by
    have ih:=ZaW k k' id;cases x<;>simp only[exitTo] at h<;>first
      |(have:=ih h; simp; omega)
      | (split at h
         · cases h; simp
         · have:=ih h; simp; omega)
theorem Zbf{b:Go.Frame}{a a':Act}{k k':List Item}{cs:List Go.Frame}{w w':World}(h:lone (b.at a k) cs w=lone (b.at a' k') cs w'):k=k':=by
 simp[lone,Go.Frame.at] at h;exact h.2.2.1
theorem Qbe{b:Go.Frame}{a a':Act}{k k':List Item}{cs:List Go.Frame}{w w':World}{m:FrameMode}(hm:m≠.run)(h:lone { b.at a' k' with mode:=m } cs w'=lone (b.at a k) cs w):False:=by
 simp[lone,Go.Frame.at] at h;exact hm h.2.2.2.2
theorem Qce{P:Program}{c:Code}{Q:Exit→Act→World→Prop}{a:Act}{w:World}(hQ:∀a w,¬Q .outgrown a w)(hQ2:∀l a w,¬Q (.goto l) a w)(h:(Code.loop c).wp P Q a w)(b:Go.Frame)(k:List Item)(cs:List Go.Frame) :
  ∃e a' w',Q e a' w'∧Arrives P (lone (b.at a (.code c::.inLoop c::k)) cs w) b k cs e a' w':=by
 obtain⟨e,a',w',hq,harr⟩:=h b k cs;refine⟨e,a',w',hq,?_⟩;cases e with
 |normal=>
  rcases Steps.peel harr step_loop with e|e
  ·have:=Zbf e; have:=congrArg List.length this; simp at this
  ·exact e
 |exit id=>
  intro k' hk;rcases Steps.peel (harr k' hk) step_loop with e|e
  ·have:=Zbf e; have:=congrArg List.length this; have:=ZaW _ _ _ hk; simp at *; omega
  ·exact e
 |goto l=>exact(hQ2 _ _ _ hq).elim
 |ret=>
  obtain⟨todo,hs⟩:=harr;rcases Steps.peel hs step_loop with e|e
  ·exact(Qbe (by simp) e).elim
  ·exact⟨todo,e⟩
 |panic ch=>
  obtain⟨todo,hs⟩:=harr;rcases Steps.peel hs step_loop with e|e
  ·exact(Qbe (by simp) e).elim
  ·exact⟨todo,e⟩
 |outgrown=>exact(hQ _ _ hq).elim
theorem ZaU{P:Program}{c:Code}{Q:Exit→Act→World→Prop}{a:Act}{w:World}(hQ:∀a w,¬Q .outgrown a w)(hQ2:∀l a w,¬Q (.goto l) a w)
 (h:c.wp P (Exit.then (λa w=>(Code.loop c).wp P Q a w) Q) a w):(Code.loop c).wp P Q a w:=by
 intro b k cs;obtain⟨e,a₁,w₁,hq,harr⟩:=h b (.inLoop c::k) cs;cases e with
 |normal=>
  obtain⟨e₂,a₂,w₂,hq₂,harr₂⟩:=Qce hQ hQ2 hq b k cs;exact⟨e₂,a₂,w₂,hq₂,.of_steps (.one step_loop) (.of_steps (Steps.trans harr (.one step_inLoop)) harr₂)⟩
 |exit id=>exact⟨_,a₁,w₁,hq,.of_steps (.one step_loop) (.pass (x:=.inLoop c) rfl (λ_ _=>.inl (by simp)) harr)⟩
 |goto l=>exact(hQ2 _ _ _ hq).elim
 |ret=>exact⟨_,a₁,w₁,hq,.of_steps (.one step_loop) (.pass (x:=.inLoop c) rfl (λ_ _=>.inl (by simp)) harr)⟩
 |panic ch=>exact⟨_,a₁,w₁,hq,.of_steps (.one step_loop) (.pass (x:=.inLoop c) rfl (λ_ _=>.inl (by simp)) harr)⟩
 |outgrown=>exact(hQ _ _ hq).elim
theorem YbK{P:Program}{GL:Globs}{n:Nat}{x:MCode}{ρ:Frame}{σ:List ABlk}{Q:APost}(h:Awp P GL n x ρ σ (APost.andThen (λρ σ=>Awp P GL n (.loop x) ρ σ Q) Q)):Awp P GL n (.loop x) ρ σ Q:=by
 intro c hc w0 L g a w r d;cases hc with
 |loop c1 _ h1=>
  refine ZaU (λa w h=>h) (λl a w h=>h) (wp_mono (h c1 h1 w0 L g a w r d) (λe a' w' hl=>?_));cases e with
  |normal=>
   obtain⟨g',ρ',σ',k1,k2,k3,k4⟩:=hl;exact wp_mono (k4 (.loop c1) (.loop _ _ h1) w0 L g' a' w' k2 k3) (LiftQ.mono k1 (λ_ _ _ q=>q))
  |_=>exact hl
section
variable (runner:Bool→Nat→List MOper→Frame→List ABlk→Log→Cons→MRes)
def Qr:MK→List AVal→Option (Nat×List AVal)
 |.call f,xs=>some (f,xs)
 |.callv,.func (.func f) first captured::xs=>some (f,first++xs++captured)
 |_,_=>none
end
section
variable {P:Program} {GL:Globs}
theorem QaZ{F:MFn}{f:FuncId}{k:MK}{xs ys:List AVal}(hc:Qr k xs=some (f,ys))(hp:Zj P f=true)(ok:FnOk P GL f F)(hn:ys.length=F.np){σ:List ABlk}{R:AVal→List ABlk→Prop}
 (h:Awp P GL F.n F.body (frame0 ys) σ (λe ρ σ'=>(e=.normal∨e=.ret)∧∃v,retV F.rets ρ σ'=some v∧R v σ')):OpRel P GL k xs σ R:=by
 have key:=Q6 (P:=P) (GL:=GL) ok hn h;intro o os hco w0 L g w a r hx;unfold Qr at hc;split at hc
 ·cases hc;generalize ho:o.op=op at hco;cases hco with
  |call _ args ts _=>
   have hrun:(execOp a.eval o).run P w=.ok (.enter f (args.map a.eval)) w:=by
    simp only[execOp,ho,resolve,Sem.run_bind,Act.eval,Deferred.ofValue,Sem.run_pure,Result.andThen_ok,invoke];rw[QV hp];simp
   rw[hrun];have:=key w0 L g w _ r hx
   rwa [←Array.toList_map,Array.toArray_toList] at this
 ·rename_i first captured xs'
  cases hc;generalize ho:o.op=op at hco;cases hco with
  |callv x args ts=>
   obtain⟨d,dr⟩:=hx;generalize hu:a.eval x=u0 at d;cases d with
   |func _ _ _ _ vs ws h1 h2 h3 h4=>
    have hrun:(execOp a.eval o).run P w=.ok (.enter f (vs++args.map a.eval++ws)) w:=by
     simp only[execOp,ho,resolve,Sem.run_bind,hu,Deferred.ofValue,Sem.run_pure,Result.andThen_ok,invoke];rw[QV hp]
    rw[hrun];have hl:=dr.length;simp at hl;have:=key w0 L g w (vs ++ args.map a.eval ++ ws).toList r (DenL.of_get (by simp[h1,h2,hl]) (λi y u e1 e2=>by
     simp only[Array.toList_append] at e2;by_cases hi:i<first.length
     ·rw[List.append_assoc,List.getElem?_append_left hi] at e1;rw[List.append_assoc,List.getElem?_append_left (by simpa[h1] using hi)] at e2;exact h3 i y u e1 (by simpa using e2)
     ·by_cases hi2:i<first.length+xs'.length
      ·rw[List.append_assoc,List.getElem?_append_right (by omega),List.getElem?_append_left (by omega)] at e1;rw[List.append_assoc,List.getElem?_append_right (by simp; omega),List.getElem?_append_left (by simp; omega)] at e2;refine dr.get (i-first.length) y u e1 ?_;simpa[h1] using e2
      ·rw[List.getElem?_append_right (by simp; omega)] at e1;rw[List.getElem?_append_right (by simp; omega)] at e2;refine h4 (i - (first ++ xs').length) y u e1 ?_;simpa[h1,hl] using e2))
    rwa [Array.toArray_toList] at this
 ·cases hc
end
end Go.Ah
end
section
namespace Go.Ah
def nilOf:NilCls→Value→Bool
 |.ptr,.pointer none=>true
 |.slice,.slice none 0 0=>true
 |.iface,.nilIface=>true
 |.func,.nilFunc=>true
 |.map,.map none=>true
 |_,_=>false
theorem QcA{c:NilCls}{v:Value}(h:nilOf c v=true):v=nilV c:=by
 unfold nilOf at h;split at h<;>first|rfl|cases h
def optB{α β:Type}(o:Option α)(f:α→Option β):Option β:=match o with
 |some a=>f a
 |none=>none
theorem Xe{α β:Type}{o:Option α}{f:α→Option β}{b:β}(h:optB o f=some b):∃a,o=some a∧f a=some b:=by
 cases o with
 |none=>cases h
 |some a=>exact⟨a,rfl,h⟩
def QR{β:Type}(c:Bool)(x:Option β):Option β:=match c with
 |true=>x
 |false=>none
theorem Zs{β:Type}{c:Bool}{x:Option β}{b:β}(h:QR c x=some b):c=true∧x=some b:=by
 cases c with
 |true=>exact⟨rfl,h⟩
 |false=>cases h
def mapM'{α β:Type}(f:α→Option β):List α→Option (List β)
 |[]=>some []
 |a::l=>optB (f a) λb=>optB (mapM' f l) λr=>some (b::r)
theorem XbF{α β:Type}(f:α→Option β):∀(l:List α),l.mapM f=mapM' f l
 |[]=>rfl
 |a::l=>by
  rw[List.mapM_cons,XbF f l,mapM'];cases f a with
  |none=>rfl
  |some b=>cases mapM' f l<;>rfl
def zeroCells(P:Program)(t:TypeId):Option (List AVal):=optB (zero? P t) λv=>XA v.cells.toList
def QaL(P:Program)(t:TypeId):Bool:=match P.underlying t with
 |some .bool=>true
 |_=>false
theorem Zat{P:Program}{t:TypeId}(h:QaL P t=true):P.underlying t=some .bool:=by
 unfold QaL at h; split at h<;>first|assumption|cases h
def Xcd(P:Program)(t:TypeId):Bool:=match P.underlying t with
 |some .string=>true
 |_=>false
theorem Qcd{P:Program}{t:TypeId}(h:Xcd P t=true):P.underlying t=some .string:=by
 unfold Xcd at h; split at h<;>first|assumption|cases h
def intT?(P:Program)(t:TypeId):Option IntKind:=match P.underlying t with
 |some (.int k)=>some k
 |_=>none
theorem ZcR{P:Program}{t:TypeId}{k:IntKind}(h:intT? P t=some k):P.underlying t=some (.int k):=by
 unfold intT? at h; split at h<;>first|(cases h; assumption)|cases h
theorem YbC{P:Program}{t e:TypeId}(h:elemS? P t=some e):P.underlying t=some (.slice e):=by
 unfold elemS? at h; split at h<;>first|(cases h; assumption)|cases h
def keyT?(P:Program)(k:TypeId):Option Bool:=match P.underlying k with
 |some .string=>some true
 |some (.int _)=>some false
 |_=>none
theorem Ybu{P:Program}{k:TypeId}{s:Bool}(h:keyT? P k=some s):KeyT P k s:=by
 unfold keyT? at h;split at h
 ·rename_i e; cases h; exact e
 ·rename_i q e; cases h; exact⟨q,e⟩
 ·cases h
def YbG(c:NilCls):Operand→Bool
 |.const v=>nilOf c v
 |_=>false
theorem Qbg{c:NilCls}{x:Operand}(h:YbG c x=true):x=.const (nilV c):=by
 cases x<;>simp only[YbG] at h<;>first|cases h|rw[QcA h]
def eqOp:BinOp→Option Bool
 |.eql=>some false
 |.neq=>some true
 |_=>none
theorem QcP{op:BinOp}{b:Bool}(h:eqOp op=some b):op=if b then .neq else .eql:=by
 cases op<;>simp_all [eqOp]<;>subst h<;>rfl
def Xbq(P:Program)(op:BinOp)(t:TypeId)(x y:Operand):Option (MK×List Operand):=
 match eqOp op with
 |none=>some (.bin op (QaL P t),[x,y])
 |some neq=>match clsT P t with
  |some c=>match YbG c y with
   |true=>some (.eqNil c neq false,[x,y])
   |false=>match YbG c x with
    |true=>some (.eqNil c neq true,[x,y])
    |false=>some (.bin op (QaL P t),[x,y])
  |none=>match leaves? P t with
   |some ls=>QR (!P.stoodInHeld t && !P.eqGuardType P.depth t) (some (.eqS neq ls,[x,y]))
   |none=>some (.bin op (QaL P t),[x,y])
def Qa1(P:Program)(c:Call):Option (MK×List Operand):=
 match c.callee with
 |.value (.func f)=>QR (Zj P f) (some (.call f,c.args.toList))
 |.value x=>some (.callv,x::c.args.toList)
 |.builtin .len=>match c.args.toList,c.argTypes.toList with
  |[x],[t]=>match P.underlying t with
   |some (.slice _)=>some (.lenS,[x])
   |some .string=>some (.lenStr,[x])
   |some (.array n _)=>some (.lenA n,[x])
   |some (.map _ _)=>some (.lenM,[x])
   |_=>none
  |_,_=>none
 |.builtin .clear=>match c.args.toList,c.argTypes.toList with
  |[x],[t]=>optB (elemS? P t) λe=>optB (size? P e) λn=>optB (zero? P e) λv=>optB (XA v.cells.toList) λz=>
   QR (Nat.beq v.cells.size n && !(Nat.beq n 0)) (some (.clearS n z,[x]))
  |_,_=>none
 |.builtin .min=>match c.args.toList with
  |[x,y]=>some (.min2,[x,y])
  |_=>none
 |.builtin .max=>match c.args.toList with
  |[x,y]=>some (.max2,[x,y])
  |_=>none
 |.builtin .append=>match c.args.toList,c.argTypes.toList with
  |[x,y],[t,t']=>optB (elemS? P t) λe=>optB (elemS? P t') λ_=>optB (size? P e) λn=>optB (zero? P e) λv=>optB (XA v.cells.toList) λz=>
   QR (Nat.beq v.cells.size n&&(!(Nat.beq (P.bytesOf e) 0) && !(Nat.beq n 0))) (some (.append n (P.bytesOf e) z,[x,y]))
  |_,_=>none
 |_=>none
def Xbv:Operand→Operand→Bool
 |.tmp a,.tmp b=>Nat.beq a b
 |_,_=>false
theorem XbP{x y:Operand}(h:Xbv x y=true):x=y:=by
 cases x<;>cases y<;>simp only[Xbv] at h<;>first|cases h|rw[YNB h]
def Qb0(P:Program):Op→Option (MK×List Operand)
 |.move x=>some (.mv,[x])
 |.assign x=>some (.mv,[x])
 |.pick c a b=>some (.pick,[c,a,b])
 |.alloc t=>optB (zeroCells P t) λz=>some (.alloc z,[])
 |.box _ x=>some (.box,[x])
 |.build t parts=>match P.underlying t with
  |some (.struct fs)=>optB (zeroCells P t) λz=>optB (mapM' (λf=>(P.info? f.type).map λi=>(f.offset,i.size)) fs.toList) λplaces=>
   optB (mapM' (λ(p:Nat×Operand)=>places[p.1]?) parts.toList) λps=>some (.build z ps,parts.toList.map (·.2))
  |some (.array _ e)=>optB (zeroCells P t) λz=>optB (size? P e) λsz=>some (.build z (parts.toList.map (λp=>(p.1*sz,sz))),parts.toList.map (·.2))
  |_=>none
 |.buildSlice t 0 parts=>optB (elemS? P t) λe=>optB (size? P e) λsz=>match parts.toList with
  |[]=>some (.buildS0 sz,[])
  |_=>none
 |.makeSlice t l c=>optB (elemS? P t) λe=>optB (size? P e) λn=>optB ((P.info? e).map (·.bytes)) λby_=>optB (zero? P e) λv=>optB (XA v.cells.toList) λz=>
  QR (!(Nat.beq n 0) && Nat.beq v.cells.size n) (match Xbv l c with
   |true=>some (.makeS n by_ z,[l])
   | false=>none)
 |.buildSlice t n parts=>optB (elemS? P t) λe=>optB (size? P e) λsz=>optB (zero? P e) λv=>optB (XA v.cells.toList) λz0=>
  QR (Nat.ble (n*sz) (2 ^ 24)&&(!(Nat.beq (n*sz) 0)&&Nat.beq v.cells.size sz)) (some (.buildS sz n (List.replicate n z0).flatten (parts.toList.map (λp=>(p.1*sz,sz))),parts.toList.map (·.2)))
 |.load t x=>optB (isAgg? P t) λagg=>optB (size? P t) λn=>some (.load agg n,[x])
 |.store t x y=>optB (size? P t) λn=>some (.store n,[x,y])
 |.nilCheck x=>some (.nilCheck,[x])
 |.binOp op t x y _=>Xbq P op t x y
 |.unOp op _ x=>some (.un op,[x])
 |.convert s d x=>QR (P.underlying s).isSome (optB (intT? P d) λk=>some (.conv k,[x]))
 |.makeInterface t x=>QR (P.concrete t) (some (.mkIface t,[x]))
 |.makeFunc fn xs ys=>some (.mkFunc fn xs.size,xs.toList++ys.toList)
 |.makeMap _ none=>some (.makeMap,[])
 |.fieldAddr t x f=>match P.underlying t with
  |some (.struct fs)=>optB fs[f]? λfd=>optB (size? P fd.type) λn=>QR (!(Nat.beq n 0)) (some (.fieldAddr fd.offset,[x]))
  |_=>none
 |.field t x f=>match P.underlying t with
  |some (.struct fs)=>optB fs[f]? λfd=>optB (size? P fd.type) λn=>optB (isAgg? P fd.type) λagg=>some (.field agg fd.offset n,[x])
  |_=>none
 |.indexAddr t x i=>match P.underlying t with
  |some (.array len e)=>optB (size? P e) λn=>some (.idxAddrA len n,[x,i])
  |some (.slice e)=>optB (size? P e) λn=>some (.idxAddrS n,[x,i])
  |_=>none
 |.index t x i=>match P.underlying t with
  |some (.array len e)=>optB (size? P e) λn=>optB (isAgg? P e) λagg=>some (.idxA agg len n,[x,i])
  |some .string=>some (.idxStr,[x,i])
  |_=>none
 |.extract x i=>some (.extract i,[x])
 |.slice t x lo hi mx=>match P.underlying t with
  |some (.slice e)=>optB (size? P e) λn=>some (.sliceS n lo.isSome hi.isSome mx.isSome,[x]++lo.toList++hi.toList++mx.toList)
  |some .string=>match mx with
   |none=>some (.sliceStr lo.isSome hi.isSome,[x]++lo.toList++hi.toList)
   |some _=>none
  |_=>none
 |.call c=>Qa1 P c
 |.lookup t x i ok=>match P.underlying t with
  |some (.map k e)=>optB (keyT? P k) λstr=>optB (zero? P e) λv=>optB (aVal v) λz=>some (.lookup str ok z,[x,i])
  |_=>none
 |.mapUpdate t x i y=>match P.underlying t with
  |some (.map k _)=>optB (keyT? P k) λstr=>some (.mapUpd str,[x,i,y])
  |_=>none
 |.insert t x i y=>match P.underlying t with
  |some (.map k _)=>optB (keyT? P k) λstr=>some (.mapUpd str,[x,i,y])
  |_=>none
 |.range t x=>QR (Xcd P t) (some (.range,[x]))
 |.next x true=>some (.next,[x])
 |.typeAssert x _ u ok=>QR (P.concrete u&&(P.underlying u).isSome) (optB (zero? P u) λv=>optB (aVal v) λz=>some (.assertT u ok z,[x]))
 |_=>none
section
variable {P:Program} {GL:Globs}
theorem YbL{op:BinOp}{t t':TypeId}{x y:Operand}{k:MK}{os:List Operand}(h:Xbq P op t x y=some (k,os)):Comp P GL (.binOp op t x y t') k os:=by
 unfold Xbq at h;split at h
 ·cases h; exact .bin _ _ _ _ _ _ Zat
 ·rename_i neq heq;have hop:=QcP heq;split at h
  ·rename_i c hc;split at h
   ·rename_i hn;cases h;rw[hop,Qbg hn];exact .eqNilR _ _ _ _ _ hc
   ·split at h
    ·rename_i hn;cases h;rw[hop,Qbg hn];exact .eqNilL _ _ _ _ _ hc
    ·cases h; exact .bin _ _ _ _ _ _ Zat
  ·split at h
   ·rename_i ls hl;obtain⟨hg,h⟩:=Zs h;cases h;simp only[Bool.and_eq_true,Bool.not_eq_true'] at hg;rw[hop];exact .eqS _ _ _ _ _ _ hl hg.1 hg.2
   ·cases h; exact .bin _ _ _ _ _ _ Zat
theorem Zal{α:Type}{a:Array α}{x:α}(h:a.toList=[x]):a = #[x]:=by
 cases a; simp at h; subst h; rfl
theorem Yal{α:Type}{a:Array α}{x y:α}(h:a.toList=[x,y]):a = #[x,y]:=by
 cases a; simp at h; subst h; rfl
theorem Qbq{c:Call}{k:MK}{os:List Operand}(h:Qa1 P c=some (k,os)):Comp P GL (.call c) k os:=by
 unfold Qa1 at h;obtain⟨callee,args,ts⟩:=c;simp only at h;split at h
 ·obtain⟨hg,h⟩:=Zs h;cases h;exact .call _ _ _ hg
 ·cases h; exact .callv _ _ _
 ·split at h
  ·rename_i ha ht;have:=Zal ha; subst this;have:=Zal ht; subst this;split at h
   ·rename_i hu; cases h; exact .lenS _ _ _ hu
   ·rename_i hu; cases h; exact .lenStr _ _ hu
   ·rename_i hu; cases h; exact .lenA _ _ _ _ hu
   ·rename_i hu; cases h; exact .lenM _ _ _ _ hu
   ·cases h
  ·cases h
 ·split at h
  ·rename_i ha ht;have:=Zal ha; subst this;have:=Zal ht; subst this;obtain⟨e,he,h⟩:=Xe h;obtain⟨n,hn,h⟩:=Xe h;obtain⟨v,hv,h⟩:=Xe h;obtain⟨z,hz,h⟩:=Xe h;obtain⟨hg,h⟩:=Zs h;simp only[Bool.and_eq_true,Bool.not_eq_true'] at hg;cases h;exact .clearS _ e _ _ v _ he hn (λe0=>by rw[e0] at hg; cases hg.2) hv (YNB hg.1) hz
  ·cases h
 ·split at h
  ·rename_i ha; have:=Yal ha; subst this; cases h; exact .min2 _ _ _
  ·cases h
 ·split at h
  ·rename_i ha; have:=Yal ha; subst this; cases h; exact .max2 _ _ _
  ·cases h
 ·split at h
  ·rename_i ha ht;have:=Yal ha; subst this;have:=Yal ht; subst this;obtain⟨e,he,h⟩:=Xe h;obtain⟨e',he',h⟩:=Xe h;obtain⟨n,hn,h⟩:=Xe h;obtain⟨v,hv,h⟩:=Xe h;obtain⟨z,hz,h⟩:=Xe h;obtain⟨hg,h⟩:=Zs h;simp only[Bool.and_eq_true,Bool.not_eq_true'] at hg;cases h;exact .append _ _ e _ _ _ _ v _ (YbC he) ⟨_,YbC he',by simp⟩ hn rfl hv (YNB hg.1) hz (λe0=>by rw[e0] at hg; cases hg.2.1) (λe0=>by rw[e0] at hg; cases hg.2.2)
  ·cases h
 ·cases h
theorem Xbf{α β:Type}{f:α→Option β}:∀ {l:List α} {r:List β},mapM' f l=some r→l.map f=r.map some
 |[],r,h=>by simp[mapM'] at h; subst h; rfl
 |a::l,r,h=>by
  obtain⟨b,hb,h⟩:=Xe h;obtain⟨r',hr,h⟩:=Xe h;cases h;simp[hb,Xbf hr]
theorem Zb1{op:Op}{k:MK}{os:List Operand}(h:Qb0 P op=some (k,os)):Comp P GL op k os:=by
 unfold Qb0 at h;split at h
 ·cases h; exact .move _
 ·cases h; exact .assign _
 ·cases h; exact .pick _ _ _
 ·obtain⟨z,hz,h⟩:=Xe h;obtain⟨v,hv,hz⟩:=Xe hz;cases h; exact .alloc _ v _ hv hz
 ·cases h; exact .box _ _
 ·split at h
  ·rename_i fs hu;obtain⟨z,hz,h⟩:=Xe h;obtain⟨v,hv,hz⟩:=Xe hz;obtain⟨places,hp,h⟩:=Xe h;obtain⟨ps,hps,h⟩:=Xe h;cases h;exact .buildStruct _ fs v _ _ places _ hu hv hz (by rw[XbF]; exact hp) (Xbf hps)
  ·rename_i n e hu;obtain⟨z,hz,h⟩:=Xe h;obtain⟨v,hv,hz⟩:=Xe hz;obtain⟨sz,hs,h⟩:=Xe h;cases h;exact .buildArray _ n e v _ _ _ sz hu hv hz hs rfl
  ·cases h
 ·obtain⟨e,he,h⟩:=Xe h;obtain⟨sz,hs,h⟩:=Xe h;split at h
  ·rename_i hp; cases h; exact .buildSlice0 _ e _ _ he hs hp
  ·cases h
 ·obtain⟨e,he,h1⟩:=Xe h;obtain⟨n,hn,h2⟩:=Xe h1;obtain⟨b,hb,h3⟩:=Xe h2;obtain⟨v,hv,h4⟩:=Xe h3;obtain⟨z,hz,h5⟩:=Xe h4;obtain⟨hg,h6⟩:=Zs h5;clear h h1 h2 h3 h4 h5;simp only[Bool.and_eq_true,Bool.not_eq_true'] at hg;split at h6
  ·rename_i hs;have:=XbP hs;subst this;cases h6;exact .makeSlice _ _ e v _ _ _ he hn hb (λe0=>by rw[e0] at hg; cases hg.1) hv (YNB hg.2) hz
  ·cases h6
 ·obtain⟨e,he,h⟩:=Xe h;obtain⟨sz,hs,h⟩:=Xe h;obtain⟨v,hv,h⟩:=Xe h;obtain⟨z0,hz,h⟩:=Xe h;obtain⟨hg,h⟩:=Zs h;simp only[Bool.and_eq_true,Bool.not_eq_true'] at hg;cases h;exact .buildSlice _ _ e v z0 _ _ _ _ he hs (YNL hg.1) (λe0=>by rw[e0] at hg; cases hg.2.1) hv (YNB hg.2.2) hz rfl rfl
 ·obtain⟨agg,ha,h⟩:=Xe h;obtain⟨n,hn,h⟩:=Xe h;cases h; exact .load _ _ _ _ ha hn
 ·obtain⟨n,hn,h⟩:=Xe h;cases h; exact .store _ _ _ _ hn
 ·cases h; exact .nilCheck _
 ·exact YbL h
 ·cases h; exact .un _ _ _
 ·obtain⟨hg,h⟩:=Zs h;obtain⟨q,hq,h⟩:=Xe h;cases h; exact .conv _ _ _ _ hg (ZcR hq)
 ·obtain⟨hg,h⟩:=Zs h;cases h; exact .mkIface _ _ hg
 ·cases h; exact .mkFunc _ _ _
 ·cases h; exact .makeMap _
 ·split at h
  ·rename_i fs hu;obtain⟨fd,hf,h⟩:=Xe h;obtain⟨n,hn,h⟩:=Xe h;obtain⟨hg,h⟩:=Zs h;cases h;exact .fieldAddr _ _ _ fs fd n hu hf hn (λe0=>by rw[e0] at hg; cases hg)
  ·cases h
 ·split at h
  ·rename_i fs hu;obtain⟨fd,hf,h⟩:=Xe h;obtain⟨n,hn,h⟩:=Xe h;obtain⟨agg,ha,h⟩:=Xe h;cases h;exact .field _ _ _ fs fd _ _ hu hf hn ha
  ·cases h
 ·split at h
  ·rename_i len e hu;obtain⟨n,hn,h⟩:=Xe h;cases h; exact .idxAddrA _ _ _ _ e _ hu hn
  ·rename_i e hu;obtain⟨n,hn,h⟩:=Xe h;cases h; exact .idxAddrS _ _ _ e _ hu hn
  ·cases h
 ·split at h
  ·rename_i len e hu;obtain⟨n,hn,h⟩:=Xe h;obtain⟨agg,ha,h⟩:=Xe h;cases h; exact .idxA _ _ _ _ e _ _ hu hn ha
  ·rename_i hu; cases h; exact .idxStr _ _ _ hu
  ·cases h
 ·cases h; exact .extract _ _
 ·split at h
  ·rename_i e hu;obtain⟨n,hn,h⟩:=Xe h;cases h; exact .sliceS _ _ _ _ _ e _ hu hn
  ·rename_i hu;split at h
   ·cases h; exact .sliceStr _ _ _ _ hu
   ·cases h
  ·cases h
 ·exact Qbq h
 ·split at h
  ·rename_i k e hu;obtain⟨s,hs,h⟩:=Xe h;obtain⟨v,hv,h⟩:=Xe h;obtain⟨z,hz,h⟩:=Xe h;cases h; exact .lookup _ k e _ _ _ _ v _ hu (Ybu hs) hv hz
  ·cases h
 ·split at h
  ·rename_i k e hu;obtain⟨s,hs,h⟩:=Xe h;cases h; exact .mapUpdate _ k e _ _ _ _ hu (Ybu hs)
  ·cases h
 ·split at h
  ·rename_i k e hu;obtain⟨s,hs,h⟩:=Xe h;cases h; exact .mapInsert _ k e _ _ _ _ hu (Ybu hs)
  ·cases h
 ·obtain⟨hg,h⟩:=Zs h;cases h; exact .range _ _ (Qcd hg)
 ·cases h; exact .next _
 ·obtain⟨hg,h⟩:=Zs h;simp only[Bool.and_eq_true] at hg;obtain⟨v,hv,h⟩:=Xe h;obtain⟨z,hz,h⟩:=Xe h;cases h; exact .assertT _ _ _ _ v _ hg.1 hg.2 hv hz
 ·cases h
end
end Go.Ah
end
section
namespace Go.Ah
def XbD(g:Nat):Globs→Option (List AVal)
 |[]=>none
 |(q,row)::r=>match Nat.beq g q with
  |true=>some row
  |false=>XbD g r
theorem Xbd{g:Nat}{row:List AVal}:∀ {GL:Globs},XbD g GL=some row→(g,row)∈GL
 |[],h=>by cases h
 |(q,r)::GL,h=>by
  simp only[XbD] at h;split at h
  ·rename_i e; cases h; rw[YNB e]; simp
  ·exact List.mem_cons_of_mem _ (Xbd h)
def Ybr(GL:Globs):Operand→Option Opd
 |.tmp t=>some (.t t)
 |.const v=>optB (aVal v) λx=>some (.c x)
 |.global g=>optB (XbD g GL) λrow=>some (.c (.rptr row 0))
 |.func f=>some (.c (.func (.func f) [] []))
theorem ZaV{GL:Globs}{x:Operand}{y:Opd}(h:Ybr GL x=some y):OpdOk GL x y:=by
 cases x with
 |tmp t=>cases h; exact .tmp _
 |const v=>obtain⟨z,hz,h⟩:=Xe h; cases h; exact .const _ _ hz
 |global g=>obtain⟨z,hz,h⟩:=Xe h; cases h; exact .glob _ _ (Xbd hz)
 |func f=>cases h; exact .func _
theorem Yat{α β:Type}{f:α→Option β}{R:α→β→Prop}(hR:∀ {a b},f a=some b→R a b):∀ {l:List α} {r:List β},mapM' f l=some r→All2 R l r
 |[],r,h=>by simp[mapM'] at h; subst h; trivial
 |a::l,r,h=>by
  obtain⟨b,hb,h⟩:=Xe h;obtain⟨r',hr,h⟩:=Xe h;cases h;exact⟨hR hb,Yat hR hr⟩
def dstOk(n:Nat):Option Nat→Bool
 |none=>true
 |some d=>Nat.blt d n
def Xb0(ops:List Oper):Option (Nat×Bool)→Option (Option (Nat×Bool))
 |none=>some none
 |some (j,w)=>optB (nth ops j) λo=>optB o.dst λs=>some (some (s,w))
def Za2(P:Program)(GL:Globs)(n:Nat)(ops:List Oper)(o:Oper):Option MOper:=
 QR (dstOk n o.dst) (optB (Qb0 P o.op) λ(k,os)=>optB (mapM' (Ybr GL) os) λxs=>optB (Xb0 ops o.guard) λg=>some ⟨o.dst,k,xs,g⟩)
theorem Xbr{P:Program}{GL:Globs}{n:Nat}{ops:Array Oper}{o:Oper}{m:MOper}(h:Za2 P GL n ops.toList o=some m):OperOk P GL n ops o m:=by
 unfold Za2 at h;obtain⟨hd,h⟩:=Zs h;obtain⟨⟨k,os⟩,hc,h⟩:=Xe h;obtain⟨xs,hx,h⟩:=Xe h;obtain⟨g,hg,h⟩:=Xe h;cases h;refine⟨rfl,λd e=>?_,⟨os,Zb1 hc,Yat ZaV hx⟩,?_⟩
 ·simp only at e; rw[e] at hd; exact YNL hd
 ·cases hog:o.guard with
  |none=>rw[hog] at hg; cases hg; trivial
  |some jw=>
   obtain⟨j,w⟩:=jw;rw[hog] at hg;obtain⟨o',ho',hg⟩:=Xe hg;obtain⟨s,hs,hg⟩:=Xe hg;cases hg;rw[ZZ,Array.getElem?_toList] at ho';exact⟨rfl,by rw[ho']; exact hs⟩
def heads(ops:List Oper)(acc:List (List Nat)):List (List Nat):=
 match ops with
 |[]=>acc
 |o::r=>heads r (acc++[(List.range acc.length).filter ((waits o).foldl (λl j=>addAll (j::ZD acc j) l) []).contains])
where addAll:List Nat→List Nat→List Nat
 |[],l=>l
 |x::xs,l=>match l.contains x with
  |true=>addAll xs l
  |false=>addAll xs (x::l)
def Qw(P:Program)(GL:Globs)(n:Nat):Code→Option MCode
 |.skip=>some .skip
 |.region id ops dr=>optB (mapM' (Za2 P GL n ops.toList) ops.toList) λms=>match dr with
  |false=>some (.region id ms none)
  |true=>QR (Ybb ops.toList ms (heads ops.toList [])) (some (.region id ms (some (heads ops.toList []))))
 |.seq a b=>optB (Qw P GL n a) λx=>optB (Qw P GL n b) λy=>some (.seq x y)
 |.cond c a b=>optB (Ybr GL c) λd=>optB (Qw P GL n a) λx=>optB (Qw P GL n b) λy=>some (.cond d x y)
 |.block id a=>optB (Qw P GL n a) λx=>some (.block id x)
 |.loop a=>optB (Qw P GL n a) λx=>some (.loop x)
 |.scope a=>optB (Qw P GL n a) λx=>some (.scope x)
 |.exit id=>some (.exit id)
 |.label l=>some (.label l)
 |.ret=>some .ret
 |_=>none
theorem Ybf{α β:Type}{f:α→Option β}:∀ {l:List α} {r:List β},mapM' f l=some r→l.length=r.length∧∀(j:Nat) (b:β),r[j]?=some b→∃a,l[j]?=some a∧f a=some b
 |[],r,h=>by simp[mapM'] at h; subst h; simp
 |a::l,r,h=>by
  obtain⟨b,hb,h⟩:=Xe h;obtain⟨r',hr,h⟩:=Xe h;cases h;obtain⟨h1,h2⟩:=Ybf hr;refine⟨by simp[h1],λj c e=>?_⟩;cases j with
  |zero=>simp at e; subst e; exact⟨a,rfl,hb⟩
  |succ j=>simp at e; obtain⟨a',q1,q2⟩:=h2 j c e; exact⟨a',by simpa using q1,q2⟩
theorem Zbr{P:Program}{GL:Globs}{n:Nat}:∀ {c:Code} {m:MCode},Qw P GL n c=some m→CodeOk P GL n c m:=by
 intro c
 induction c with
 |skip=>intro m h; cases h; exact .skip
 |region id ops dr=>
  intro m h;simp only[Qw] at h;obtain⟨ms,hm,h⟩:=Xe h;obtain⟨h1,h2⟩:=Ybf hm;have hok:∀(j:Nat) (x:MOper),ms[j]?=some x→∃o,ops[j]?=some o∧OperOk P GL n ops o x:=λj x e=>by
   obtain⟨o,q1,q2⟩:=h2 j x e;exact⟨o,by simpa using q1,Xbr q2⟩
  cases dr with
  |false=>cases h; exact .region _ _ _ (by simpa using h1) hok
  |true=>
   obtain⟨hg,h⟩:=Zs h;cases h; exact .draw _ _ _ _ (by simpa using h1) hok hg
 |seq a b iha ihb=>
  intro m h;simp only[Qw] at h;obtain⟨x,hx,h⟩:=Xe h;obtain⟨y,hy,h⟩:=Xe h;cases h; exact .seq _ _ _ _ (iha hx) (ihb hy)
 |cond c a b iha ihb=>
  intro m h;simp only[Qw] at h;obtain⟨d,hd,h⟩:=Xe h;obtain⟨x,hx,h⟩:=Xe h;obtain⟨y,hy,h⟩:=Xe h;cases h; exact .cond _ _ _ _ _ _ (ZaV hd) (iha hx) (ihb hy)
 |block id a ih=>
  intro m h;simp only[Qw] at h;obtain⟨x,hx,h⟩:=Xe h;cases h; exact .block _ _ _ (ih hx)
 |loop a ih=>
  intro m h;simp only[Qw] at h;obtain⟨x,hx,h⟩:=Xe h;cases h; exact .loop _ _ (ih hx)
 |scope a ih=>
  intro m h;simp only[Qw] at h;obtain⟨x,hx,h⟩:=Xe h;cases h; exact .scope _ _ (ih hx)
 |exit id=>intro m h; cases h; exact .exit _
 |label l=>intro m h; cases h; exact .label _
 |ret=>intro m h; cases h; exact .ret
 |_=>intro m h; simp[Qw] at h
def Yb1(P:Program):ResultVar→Option RV
 |.tmp t=>some (.t t)
 |.cell s t=>optB (isAgg? P t) λagg=>optB (size? P t) λn=>some (.c s agg n)
theorem XbL{P:Program}{r:ResultVar}{v:RV}(h:Yb1 P r=some v):RvOk P r v:=by
 cases r with
 |tmp t=>cases h; exact .tmp _
 |cell s t=>
  obtain⟨agg,ha,h⟩:=Xe h;obtain⟨n,hn,h⟩:=Xe h;cases h; exact .cell _ _ _ _ ha hn
def Zb0(P:Program)(GL:Globs)(np:Nat)(f:FuncId):Option MFn:=
 optB P.funcs[f]? λfn=>optB fn.body λc=>QR (Nat.ble np fn.ntmps) (optB (Qw P GL fn.ntmps c) λm=>optB (mapM' (Yb1 P) fn.results.toList) λrs=>some ⟨np,fn.ntmps,m,rs⟩)
theorem Yb0{P:Program}{GL:Globs}{np:Nat}{f:FuncId}{F:MFn}(h:Zb0 P GL np f=some F):FnOk P GL f F:=by
 unfold Zb0 at h;obtain⟨fn,h1,h⟩:=Xe h;obtain⟨c,h2,h⟩:=Xe h;obtain⟨h3,h⟩:=Zs h;obtain⟨m,h4,h⟩:=Xe h;obtain⟨rs,h5,h⟩:=Xe h;cases h;exact⟨⟨fn,c,h1,h2,rfl,Zbr h4,Yat XbL h5⟩,YNL h3⟩
theorem Bor.ptr{h0:Hp}{rd:List Nat}{b i j sz:Nat}{rs:List (List AVal)}{row row':List AVal}(hb:h0 b=some (.rows sz rs))(hin:b∈rd)(hi:rs[i]?=some row)(hr:BorL h0 rd row row'):Bor h0 rd (.ptr b i j) (.rptr row' j):=by
 intro GL w0 L g h w M2 r hM hrd v d;have hb':h b=some (.rows sz rs):=by rw[hrd b hin]; exact hb
 cases d with
 |ptr _ _ _ _ cb ec=>
 cases hvirt:cb.virt with
 |true=>
  have:=(r.virtRows hb' ec hvirt).2;subst this; simp at hi
 |false=>
 obtain⟨e1,arr,T,ho',hs,hle,hrow,hden⟩:=r.rowsBlk hb' ec hvirt;have hw:M2 cb.blk=some (.cells arr T (0,0)):=hM.2 b _ cb _ hb' rfl ec hvirt ho';have hlt:i<rs.length:=(YLG hi).1;have hrl:=hrow _ _ hi;have hin2:∀k,k<sz→i*sz+k<arr.size:=by
  intro k hk;have:(i+1)*sz≤rs.length*sz:=Nat.mul_le_mul_right sz hlt;rw[Nat.succ_mul] at this; omega
 obtain⟨k1,k2⟩:=hr.get r hM hrd (vs:=(arr.extract (i * sz) (i * sz + sz)).toList) (by
  simp[hrl];by_cases h0:sz=0
  ·subst h0; simp
  ·have:=hin2 (sz-1) (by omega); omega) (λk x v q3 q4=>by
  have hk:k<sz:=by rw[←hrl]; exact(YLG q3).1
  have hl2:=hin2 k hk;rw[Array.getElem?_toList] at q4;obtain⟨_,q4⟩:=Array.getElem?_eq_some_iff.1 q4;rw[Array.getElem_extract] at q4;exact hden _ row k x v hi q3 (by rw[Array.getElem?_eq_getElem hl2,q4]))
 have hlen:row'.length=sz:=by
  rw[k1]; simp;by_cases h0:sz=0
  ·subst h0; simp
  ·have:=hin2 (sz-1) (by omega); omega
 rw[e1];refine .rptr _ _ _ _ _ (λk=>(arr[i*sz+k]?).getD undef) (λk hk=>?_) (λk x e=>?_)
 ·have hk':=hin2 k (by omega);simp[mcell,hw,hk']
 ·have hk:k<sz:=by rw[←hlen]; exact(YLG e).1
  have hl2:=hin2 k hk;simp only[Array.getElem?_eq_getElem hl2,Option.getD_some];refine k2 k x _ e ?_;rw[Array.getElem?_toList,Array.getElem?_eq_getElem (by simp; omega),Array.getElem_extract]
def XaM(f:List AVal→Option (List AVal×List Nat)):List (List AVal)→Option (List (List AVal)×List Nat)
 |[]=>some ([],[])
 |r::rs=>match f r,XaM f rs with
  |some (r',rd),some (rs',rd')=>some (r'::rs',rd++rd')
  |_,_=>none
def roES:List (AVal×AVal)→Bool
 |[]=>true
 |(k,v)::r=>k.ro&&(v.ro&&roES r)
def Xt(σ:List ABlk):Nat→List AVal→Option (List AVal×List Nat)
 |_,[]=>some ([],[])
 |0,_::_=>none
 |fuel+1,x::xs=>match Xt σ fuel xs with
  |none=>none
  |some (ys,rd)=>match x with
   |.bptr b j=>match hget σ b with
    |.box row=>match Xt σ fuel row with
     |some (row',rd')=>some (.rptr row' j::ys,b::rd'++rd)
     |none=>none
    |_=>none
   |.ptr b i j=>match hget σ b with
    |.rows _ rs=>match nth rs i with
     |some row=>match Xt σ fuel row with
      |some (row',rd')=>some (.rptr row' j::ys,b::rd'++rd)
      |none=>none
     |none=>none
    |_=>none
   |.sl b off len ex=>match hget σ b with
    | .rows sz rs=>bif Nat.ble (off + len) rs.length then (match XaM (Xt σ fuel) (cut off (off + len) rs) with
     |some (rs',rd')=>some (.rsl ex false sz rs'::ys,b::rd'++rd)
     | none=>none) else none
    |_=>none
   |.map b=>match hget σ b with
    |.map es=>bif roES es then some (.rmap es::ys,b::rd) else none
    |_=>none
   |.iface t v=>match Xt σ fuel [v] with
    |some ([v'],rd')=>some (.iface t v'::ys,rd'++rd)
    |_=>none
   |.agg cs=>match Xt σ fuel cs with
    |some (cs',rd')=>some (.agg cs'::ys,rd'++rd)
    |_=>none
   |.func fn a b=>match Xt σ fuel a,Xt σ fuel b with
    |some (a',rd'),some (b',rd'')=>some (.func fn a' b'::ys,rd'++rd''++rd)
    |_,_=>none
   |x=>bif x.ro then some (x::ys,rd) else none
theorem Yci:∀ {es:List (AVal×AVal)},roES es=true→∀p∈es,p.1.ro=true∧p.2.ro=true
 |[],_,_,h=>by cases h
 |(k,v)::r,h,p,hp=>by
  simp only[roES,Bool.and_eq_true] at h;rcases List.mem_cons.1 hp with rfl|hp
  ·exact⟨h.1,h.2.1⟩
  ·exact Yci h.2.2 p hp
theorem ZaY{f:List AVal→Option (List AVal×List Nat)}:∀ {rs rs':List (List AVal)} {rd:List Nat},XaM f rs=some (rs',rd)→rs'.length=rs.length∧∀(i:Nat) (r r':List AVal),rs[i]?=some r→rs'[i]?=some r'→∃rd',f r=some (r',rd')∧∀b∈rd',b∈rd
 |[],rs',rd,h=>by simp only[XaM] at h; cases h; simp
 |r::rs,rs',rd,h=>by
  simp only[XaM] at h;split at h
  ·rename_i r1 rd1 rs1 rd2 e1 e2;cases h;obtain⟨h1,h2⟩:=ZaY e2;refine⟨by simp[h1],λi x x' q1 q2=>?_⟩;cases i with
   |zero=>simp at q1 q2; subst q1 q2; exact⟨rd1,e1,λb hb=>List.mem_append.2 (.inl hb)⟩
   |succ i=>
    simp at q1 q2;obtain⟨rd',k1,k2⟩:=h2 i x x' q1 q2;exact⟨rd',k1,λb hb=>List.mem_append.2 (.inr (k2 b hb))⟩
  ·cases h
theorem YX{σ:List ABlk}:∀(fuel:Nat) (xs ys:List AVal) (rd:List Nat),Xt σ fuel xs=some (ys,rd)→∀rd',(∀b∈rd,b∈rd')→BorL (hp σ) rd' xs ys:=by
 intro fuel
 induction fuel with
 |zero=>
  intro xs ys rd h rd' hs;cases xs with
  |nil=>simp only[Xt] at h; cases h; exact BorL.nil
  |cons x xs=>simp only[Xt] at h; cases h
 |succ fuel ih=>
  intro xs ys rd h rd' hs;cases xs with
  |nil=>simp only[Xt] at h; cases h; exact BorL.nil
  |cons x xs=>
   simp only[Xt] at h;cases h0:Xt σ fuel xs with
   |none=>simp[h0] at h
   |some p=>
    obtain⟨ys0,rd0⟩:=p;simp only[h0] at h;split at h
    ·rename_i b j;split at h
     ·rename_i row hg;split at h
      ·rename_i row' rd1 hr;cases h;exact BorL.cons (Bor.box (XaE hg) (hs _ (by simp)) (ih _ _ _ hr rd' (λq hq=>hs q (by simp[hq])))) (ih _ _ _ h0 rd' (λq hq=>hs q (by simp[hq])))
      ·cases h
     ·cases h
    ·rename_i b i j;split at h
     ·rename_i sz rs hg;split at h
      ·rename_i row hn;split at h
       ·rename_i row' rd1 hr;cases h;rw[ZZ] at hn;exact BorL.cons (Bor.ptr (XB hg) (hs _ (by simp)) hn (ih _ _ _ hr rd' (λq hq=>hs q (by simp[hq])))) (ih _ _ _ h0 rd' (λq hq=>hs q (by simp[hq])))
       ·cases h
      ·cases h
     ·cases h
    ·rename_i b off len ex;split at h
     ·rename_i sz rs hg
      replace h:=Qv h
      obtain⟨hle,h⟩:=h;split at h
      ·rename_i rs' rd1 hr;cases h;obtain⟨m1,m2⟩:=ZaY hr;have hle':=YNL hle;refine BorL.cons (Bor.sl (XB hg) (hs _ (by simp)) hle' (by rw[m1,ZP hle']; omega) (λi r r' q1 q2=>?_)) (ih _ _ _ h0 rd' (λq hq=>hs q (by simp[hq])));have hi:i<len:=by
        have:=(YLG q2).1;rw[m1,ZP hle'] at this; omega
       have hc:(cut off (off+len) rs)[i]?=some r:=by
        unfold cut;rw[List.getElem?_drop,List.getElem?_take_of_lt (by omega)];exact q1
       obtain⟨rd2,k1,k2⟩:=m2 i r r' hc q2;exact ih _ _ _ k1 rd' (λq hq=>hs q (by simp[k2 q hq]))
      ·cases h
     ·cases h
    ·rename_i b;split at h
     ·rename_i es hg
      replace h:=Qv h
      obtain⟨hro,h⟩:=h;cases h;exact BorL.cons (Bor.map (QaE hg) (hs _ (by simp)) (Yci hro)) (ih _ _ _ h0 rd' (λq hq=>hs q (by simp[hq])))
     ·cases h
    ·split at h
     ·rename_i v' rd1 hr;cases h;have:=ih _ _ _ hr rd' (λq hq=>hs q (by simp[hq]));refine BorL.cons (Bor.iface (λGL w0 L g h w M2 r hM hrd v d=>?_)) (ih _ _ _ h0 rd' (λq hq=>hs q (by simp[hq])));exact(this GL w0 L g h w M2 r hM hrd [v] ⟨d,trivial⟩).1
     ·cases h
    ·split at h
     ·rename_i cs' rd1 hr;cases h;exact BorL.cons (Bor.agg (ih _ _ _ hr rd' (λq hq=>hs q (by simp[hq])))) (ih _ _ _ h0 rd' (λq hq=>hs q (by simp[hq])))
     ·cases h
    ·split at h
     ·rename_i a' rd1 b' rd2 hr1 hr2;cases h;exact BorL.cons (Bor.func (ih _ _ _ hr1 rd' (λq hq=>hs q (by simp[hq]))) (ih _ _ _ hr2 rd' (λq hq=>hs q (by simp[hq])))) (ih _ _ _ h0 rd' (λq hq=>hs q (by simp[hq])))
     ·cases h
    ·replace h:=Qv h
     obtain⟨hro,h⟩:=h;cases h;exact BorL.cons (Bor.ro hro) (ih _ _ _ h0 rd' hs)
end Go.Ah
end
section
namespace Go.Ah
mutual
def AVal.ren (m:Nat→Option Nat):AVal→AVal
 |.bptr b j=>match m b with
  |some b'=>.bptr b' j
  |none=>.junk
 |.ptr b i j=>match m b with
  |some b'=>.ptr b' i j
  |none=>.junk
 |.sl b off len ex=>match m b with
  |some b'=>.sl b' off len ex
  |none=>.junk
 |.map b=>match m b with
  |some b'=>.map b'
  |none=>.junk
 |.iter b=>match m b with
  |some b'=>.iter b'
  |none=>.junk
 |.func fn xs ys=>.func fn (renL m xs) (renL m ys)
 |.iface t v=>.iface t (v.ren m)
 |.agg cs=>.agg (renL m cs)
 |.tup cs=>.tup (renL m cs)
 |.when cs x=>.when cs (x.ren m)
 |.junk=>.junk
 |.bool b=>.bool b
 |.int k n=>.int k n
 |.str s=>.str s
 |.nilp=>.nilp
 |.rptr row j=>.rptr row j
 |.nils=>.nils
 |.cap0=>.cap0
 |.rsl a b c d=>.rsl a b c d
 |.rmap es=>.rmap es
 |.nilmap=>.nilmap
 |.nilf=>.nilf
 |.nili=>.nili
def renL (m:Nat→Option Nat):List AVal→List AVal
 |[]=>[]
 |x::xs=>x.ren m::renL m xs
end
theorem Za6(m:Nat→Option Nat):∀xs:List AVal,renL m xs=xs.map (AVal.ren m)
 |[]=>rfl
 |x::xs=>by simp[renL,Za6 m xs]
theorem Xac{m:Nat→Option Nat}{xs:List AVal}{i:Nat}{y:AVal}(h:(renL m xs)[i]?=some y):∃x,xs[i]?=some x∧y=x.ren m:=by
 rw[Za6,List.getElem?_map] at h;cases hx:xs[i]? with
 |none=>simp[hx] at h
 |some x=>simp[hx] at h; exact⟨x,rfl,h.symm⟩
theorem Yw(m:Nat→Option Nat)(xs:List AVal):(renL m xs).length=xs.length:=by rw[Za6]; simp
theorem Den.ren{M:Nat→Option Obj}{m:Nat→Option Nat}{c':Own}{c:Own}{x:AVal}{v:Value}(h:Den M c x v):(∀b b' cb,m b=some b'→c b=some cb→c' b'=some cb)→Den M c' (x.ren m) v:=by
 induction h with
 |junk=>intro _; exact .junk _ _
 |bool=>intro _; exact .bool _ _
 |int=>intro _; exact .int _ _ _
 |str=>intro _; exact .str _ _
 |nilp=>intro _; exact .nilp _
 |bptr c b j cb e=>
  intro hm; simp only[AVal.ren];cases hb:m b with
  |none=>exact .junk _ _
  |some b'=>exact .bptr _ _ _ _ (hm _ _ _ hb e)
 |ptr c b i j cb e=>
  intro hm; simp only[AVal.ren];cases hb:m b with
  |none=>exact .junk _ _
  |some b'=>exact .ptr _ _ _ _ _ (hm _ _ _ hb e)
 |rptr c row j blk off f h1 h2 ih=>intro _; exact .rptr _ _ _ _ _ f h1 h2
 |nils=>intro _; exact .nils _
 |cap0=>intro _; exact .cap0 _ _
 |sl c b off len ex cb cap e h1 h2 h3 h4=>
  intro hm; simp only[AVal.ren];cases hb:m b with
  |none=>exact .junk _ _
  |some b'=>exact .sl _ _ _ _ _ _ _ (hm _ _ _ hb e) h1 h2 h3 h4
 |slv c b ex cb a e h1=>
  intro hm; simp only[AVal.ren];cases hb:m b with
  |none=>exact .junk _ _
  |some b'=>exact .slv _ _ _ _ _ (hm _ _ _ hb e) h1
 |rsl c ex nn sz rows a cap blk off f h1 h2 h3 h3' h4 h5 h6 h7 ih=>intro _; exact .rsl _ _ _ _ _ _ _ blk off f h1 h2 h3 h3' h4 h5 h6 h7
 |map c b cb e=>
  intro hm; simp only[AVal.ren];cases hb:m b with
  |none=>exact .junk _ _
  |some b'=>exact .map _ _ _ (hm _ _ _ hb e)
 |rmap c es blk arr clock e h1 h2 h3 ih1 ih2=>intro _; exact .rmap _ _ _ _ _ e h1 h2 h3
 |nilmap=>intro _; exact .nilmap _
 |func c fn first captured vs ws h1 h2 h3 h4 ih1 ih2=>
  intro hm; simp only[AVal.ren];exact .func _ _ _ _ _ _ (by rw[Yw]; exact h1) (by rw[Yw]; exact h2)
   (λi y u e1 e2=>by obtain⟨x,q1,rfl⟩:=Xac e1; exact ih1 i x u q1 e2 hm) (λi y u e1 e2=>by obtain⟨x,q1,rfl⟩:=Xac e1; exact ih2 i x u q1 e2 hm)
 |nilf=>intro _; exact .nilf _
 |iface c t x v h ih=>intro hm; exact .iface _ _ _ _ (ih hm)
 |nili=>intro _; exact .nili _
 |agg c cs vs h1 h2 ih=>intro hm; simp only[AVal.ren]; exact .agg _ _ _ (by rw[Yw]; exact h1) (λi y u e1 e2=>by obtain⟨x,q1,rfl⟩:=Xac e1; exact ih i x u q1 e2 hm)
 |tup c cs vs h1 h2 ih=>intro hm; simp only[AVal.ren]; exact .tup _ _ _ (by rw[Yw]; exact h1) (λi y u e1 e2=>by obtain⟨x,q1,rfl⟩:=Xac e1; exact ih i x u q1 e2 hm)
 |when c cs x v h h2 ih=>intro hm; exact .when _ _ _ _ (λhp=>ih hp hm) h2
 |iter c b cb e=>
  intro hm; simp only[AVal.ren];cases hb:m b with
  |none=>exact .junk _ _
  |some b'=>exact .iter _ _ _ (hm _ _ _ hb e)
mutual
def AVal.nosh:AVal→Bool
 |.rptr _ _=>false
 |.rsl _ _ _ (_::_)=>false
 |.rmap _=>false
 |.func _ xs ys=>noshL xs&&noshL ys
 |.iface _ v=>v.nosh
 |.agg cs=>noshL cs
 |.tup cs=>noshL cs
 |.when _ x=>x.nosh
 |_=>true
def noshL:List AVal→Bool
 |[]=>true
 |x::xs=>x.nosh&&noshL xs
end
theorem Y6:∀ {xs:List AVal} {i:Nat} {x:AVal},noshL xs=true→xs[i]?=some x→x.nosh=true
 |[],i,x,_,e=>by simp at e
 |y::xs,0,x,h,e=>by simp[noshL] at h; simp at e; subst e; exact h.1
 |y::xs,i+1,x,h,e=>by simp[noshL] at h; simp at e; exact Y6 h.2 e
mutual
theorem AVal.nosh_ren (m:Nat→Option Nat):∀(x:AVal),x.nosh=true→(x.ren m).nosh=true
 |.bptr b j,_=>by simp only[AVal.ren]; split<;>rfl
 |.ptr b i j,_=>by simp only[AVal.ren]; split<;>rfl
 |.sl b off len ex,_=>by simp only[AVal.ren]; split<;>rfl
 |.map b,_=>by simp only[AVal.ren]; split<;>rfl
 |.iter b,_=>by simp only[AVal.ren]; split<;>rfl
 |.func fn xs ys,h=>by
  simp only[AVal.nosh,Bool.and_eq_true] at h
  simp only[AVal.ren,AVal.nosh,Bool.and_eq_true]
  exact⟨X6 m xs h.1,X6 m ys h.2⟩
 |.iface t v,h=>by simp only[AVal.nosh] at h; simp only[AVal.ren,AVal.nosh]; exact AVal.nosh_ren m v h
 |.agg cs,h=>by simp only[AVal.nosh] at h; simp only[AVal.ren,AVal.nosh]; exact X6 m cs h
 |.tup cs,h=>by simp only[AVal.nosh] at h; simp only[AVal.ren,AVal.nosh]; exact X6 m cs h
 |.when cs x,h=>by simp only[AVal.nosh] at h; simp only[AVal.ren,AVal.nosh]; exact AVal.nosh_ren m x h
 |.junk,_=>rfl
 |.bool b,_=>rfl
 |.int k n,_=>rfl
 |.str s,_=>rfl
 |.nilp,_=>rfl
 |.rptr row j,h=>h
 |.nils,_=>rfl
 |.cap0,_=>rfl
 |.rsl a b c d,h=>h
 |.rmap es,h=>h
 |.nilmap,_=>rfl
 |.nilf,_=>rfl
 |.nili,_=>rfl
theorem X6 (m:Nat→Option Nat):∀(xs:List AVal),noshL xs=true→noshL (renL m xs)=true
 |[],_=>rfl
 |x::xs,h=>by
  simp only[noshL,Bool.and_eq_true] at h
  simp only[renL,noshL,Bool.and_eq_true]
  exact⟨AVal.nosh_ren m x h.1,X6 m xs h.2⟩
end
def ABlk.mapV(f:AVal→AVal):ABlk→ABlk
 |.dead=>.dead
 |.box row=>.box (row.map f)
 |.rows sz rs=>.rows sz (rs.map λr=>r.map f)
 |.map es=>.map (es.map λp=>(f p.1,f p.2))
 |.siter s p=>.siter s p
def ABlk.AllV(p:AVal→Prop):ABlk→Prop
 |.dead=>True
 |.box row=>∀x∈row,p x
 |.rows _ rs=>∀r∈rs,∀x∈r,p x
 |.map es=>∀e∈es,p e.1∧p e.2
 |.siter _ _=>True
def YV:List (List AVal)→Bool
 |[]=>true
 |r::rs=>noshL r&&YV rs
def XbG:List (AVal×AVal)→Bool
 |[]=>true
 |(k,v)::r=>k.nosh&&(v.nosh&&XbG r)
def ABlk.nosh:ABlk→Bool
 |.dead=>true
 |.box row=>noshL row
 |.rows _ rs=>YV rs
 |.map es=>XbG es
 |.siter _ _=>true
def Zay:List ABlk→Bool
 |[]=>true
 |b::bs=>b.nosh&&Zay bs
theorem YaO:∀ {xs:List AVal},noshL xs=true→∀x∈xs,x.nosh=true
 |y::xs,h,x,hx=>by
  simp only[noshL,Bool.and_eq_true] at h;rcases List.mem_cons.1 hx with rfl|hx
  ·exact h.1
  ·exact YaO h.2 x hx
theorem Yay:∀ {rs:List (List AVal)},YV rs=true→∀r∈rs,∀x∈r,x.nosh=true
 |y::rs,h,r,hr=>by
  simp only[YV,Bool.and_eq_true] at h;rcases List.mem_cons.1 hr with rfl|hr
  ·exact YaO h.1
  ·exact Yay h.2 r hr
theorem XaZ:∀ {es:List (AVal×AVal)},XbG es=true→∀e∈es,e.1.nosh=true∧e.2.nosh=true
 |(k,v)::r,h,e,he=>by
  simp only[XbG,Bool.and_eq_true] at h;rcases List.mem_cons.1 he with rfl|he
  ·exact⟨h.1,h.2.1⟩
  ·exact XaZ h.2.2 e he
theorem ABlk.nosh_all{b:ABlk}(h:b.nosh=true):b.AllV (λx=>x.nosh=true):=by
 cases b with
 |dead=>trivial
 |box row=>exact YaO h
 |rows sz rs=>exact Yay h
 |map es=>exact XaZ h
 |siter s q=>trivial
theorem YaZ:∀ {bs:List ABlk},Zay bs=true→∀b∈bs,b.AllV (λx=>x.nosh=true)
 |y::bs,h,b,hb=>by
  simp only[Zay,Bool.and_eq_true] at h;rcases List.mem_cons.1 hb with rfl|hb
  ·exact ABlk.nosh_all h.1
  ·exact YaZ h.2 b hb
theorem ABlk.all_true(b:ABlk):b.AllV (λ_=>True):=by
 cases b<;>simp[ABlk.AllV]
theorem Den.nosh{M:Nat→Option Obj}{c:Own}{x:AVal}{v:Value}(h:Den M c x v):x.nosh=true→∀M',Den M' c x v:=by
 induction h with
 |junk=>intro _ _; exact .junk _ _
 |bool=>intro _ _; exact .bool _ _
 |int=>intro _ _; exact .int _ _ _
 |str=>intro _ _; exact .str _ _
 |nilp=>intro _ _; exact .nilp _
 |bptr c b j cb e=>intro _ _; exact .bptr _ _ _ _ e
 |ptr c b i j cb e=>intro _ _; exact .ptr _ _ _ _ _ e
 |rptr=>intro h; simp[AVal.nosh] at h
 |nils=>intro _ _; exact .nils _
 |cap0=>intro _ _; exact .cap0 _ _
 |sl c b off len ex cb cap e h1 h2 h3 h4=>intro _ _; exact .sl _ _ _ _ _ _ _ e h1 h2 h3 h4
 |slv c b ex cb a e h1=>intro _ _; exact .slv _ _ _ _ _ e h1
 |rsl c ex nn sz rows a cap blk off f h1 h2 h3 h3' h4 h5 h6 h7 ih=>
  intro h M';cases rows with
  |nil=>exact .rsl _ _ _ _ [] _ _ blk off f h1 h2 h3 h3' h4 h5 (by simp) (by simp)
  |cons r rs=>simp[AVal.nosh] at h
 |map c b cb e=>intro _ _; exact .map _ _ _ e
 |rmap=>intro h; simp[AVal.nosh] at h
 |nilmap=>intro _ _; exact .nilmap _
 |func c fn first captured vs ws h1 h2 h3 h4 ih1 ih2=>
  intro h M';simp[AVal.nosh] at h;exact .func _ _ _ _ _ _ h1 h2 (λi x v e1 e2=>ih1 i x v e1 e2 (Y6 h.1 e1) M') (λi x v e1 e2=>ih2 i x v e1 e2 (Y6 h.2 e1) M')
 |nilf=>intro _ _; exact .nilf _
 |iface c t x v h ih=>intro hr M'; exact .iface _ _ _ _ (ih (by simpa[AVal.nosh] using hr) M')
 |nili=>intro _ _; exact .nili _
 |agg c cs vs h1 h2 ih=>intro h M'; exact .agg _ _ _ h1 (λi x v e1 e2=>ih i x v e1 e2 (Y6 (by simpa[AVal.nosh] using h) e1) M')
 |tup c cs vs h1 h2 ih=>intro h M'; exact .tup _ _ _ h1 (λi x v e1 e2=>ih i x v e1 e2 (Y6 (by simpa[AVal.nosh] using h) e1) M')
 |when c cs x v h h2 ih=>intro hr M'; exact .when _ _ _ _ (λhp=>ih hp (by simpa[AVal.nosh] using hr) M') h2
 |iter c b cb e=>intro _ _; exact .iter _ _ _ e
theorem ABlk.mapV_live(f:AVal→AVal)(b:ABlk):(b.mapV f).live=b.live:=by cases b<;>rfl
theorem BlkOk.mapV{M M':Nat→Option Obj}{c c':Own}{f:AVal→AVal}{p:AVal→Prop}(hf:∀x v,p x→Den M c x v→Den M' c' (f x) v){cb:CB}{o:Obj}{b:ABlk}(h:BlkOk M c cb o b)(hp:b.AllV p):BlkOk M' c' cb o (b.mapV f):=by
 cases b with
 |dead=>trivial
 |box row=>
  obtain⟨arr,T,h1,h2,h3⟩:=h;refine⟨arr,T,h1,by simpa using h2,λj x v e1 e2=>?_⟩;rw[List.getElem?_map] at e1;cases hx:row[j]? with
  |none=>simp[hx] at e1
  |some y=>simp[hx] at e1; subst e1; exact hf y v (hp y (List.mem_of_getElem? hx)) (h3 j y v hx e2)
 |rows sz rows=>
  obtain⟨h0,arr,T,h1,h2,h3,h4,h5⟩:=h;refine⟨h0,arr,T,h1,h2,by simpa using h3,λi row e=>?_,λi row j x v e1 e2 e3=>?_⟩
  ·rw[List.getElem?_map] at e;cases hx:rows[i]? with
   |none=>simp[hx] at e
   |some y=>simp[hx] at e; subst e; simpa using h4 i y hx
  ·rw[List.getElem?_map] at e1;cases hx:rows[i]? with
   |none=>simp[hx] at e1
   |some y=>
    simp[hx] at e1; subst e1;rw[List.getElem?_map] at e2;cases hy:y[j]? with
    |none=>simp[hy] at e2
    |some z=>simp[hy] at e2; subst e2; exact hf z v (hp y (List.mem_of_getElem? hx) z (List.mem_of_getElem? hy)) (h5 i y j z v hx hy e3)
 |map es=>
  obtain⟨arr,clock,h1,h2,h3⟩:=h;refine⟨arr,clock,h1,by simpa using h2,λi k x e e1 e2=>?_⟩;rw[List.getElem?_map] at e1;cases hx:es[i]? with
  |none=>simp[hx] at e1
  |some y=>
   simp[hx] at e1; obtain⟨rfl,rfl⟩:=e1;have:=h3 i y.1 y.2 e hx e2;have hpy:=hp y (List.mem_of_getElem? hx);exact⟨hf _ _ hpy.1 this.1,hf _ _ hpy.2 this.2⟩
 |siter s q=>exact h
def Zy(N:Nat):Nat→Option Nat:=λb=>some (b+N)
def Yv(N:Nat):List ABlk→List (Nat×ABlk)
 |[]=>[]
 |b::bs=>(N,b)::Yv (N+1) bs
theorem Zax:∀(bs:List ABlk) (N:Nat) (h:Hp) (b:Nat),hups h (Yv N bs) b=if N≤b∧b<N+bs.length then bs[b-N]? else h b
 |[],N,h,b=>by simp[Yv,hups]; intro h1 h2; omega
 |x::bs,N,h,b=>by
  simp only[Yv,hups];rw[Zax bs (N+1)];by_cases h1:b=N
  ·subst h1; rw[if_neg (by omega),if_pos (by simp),Yr]; simp
  ·by_cases h2:N+1≤b∧b<N+1+bs.length
   ·rw[if_pos h2,if_pos (by simp; omega),show b-N=(b-(N+1))+1 by omega]; simp
   ·rw[if_neg h2,if_neg (by simp; omega),Yp _ _ h1]
section
variable {P:Program} {GL:Globs}
def NCall(P:Program)(GL:Globs)(f:FuncId)(xs:List AVal)(v:AVal)(bs:List ABlk):Prop:=
 ∀(w:World) (M:Nat→Option Obj) (vs:List Value),(∀b o,M b=some o→w.heap[b]?=some o)→(∀p∈GL,Den M noOwn (.rptr p.2 0) (.pointer (some ⟨p.1,0,none⟩)))→DenL ⟨M,noOwn⟩ xs vs →
  Calls P f vs.toArray w λe w'=>∃u,e=.returned u∧∃g',MLe M g'.M∧Rep GL w ⟨[],M⟩ g' (hp bs) w'∧g'.den v u
theorem Qax{f:FuncId}{F:MFn}(ok:FnOk P GL f F){xs:List AVal}(hn:xs.length=F.np){v:AVal}{bs:List ABlk}
 (h:Awp P GL F.n F.body (frame0 xs) [] (λe ρ σ=>(e=.normal∨e=.ret)∧retV F.rets ρ σ=some v∧σ=bs)):NCall P GL f xs v bs:=by
 intro w M vs hM hg hx;obtain⟨fn,c,h1,h2,h3,h4,h5⟩:=ok.ok;have r0:=Rep.start (GL:=GL) w M hM hg;have hh:hp []=noHp:=by funext b; simp[hp,noHp]
 rw[←hh] at r0;have d0:=YY hx (n:=F.n) (by rw[hn]; exact ok.np);refine calls_of_wp h1 h2 ?_;rw[h3];refine wp_mono (h c h4 w ⟨[],M⟩ _ _ w r0 d0) (λe a' w' hl=>?_);have fin:∀g' ρ σ,(⟨M,noOwn⟩:Gm).Le g'→Rep GL w ⟨[],M⟩ g' (hp σ) w'→DenF F.n g' ρ a'→(retV F.rets ρ σ=some v∧σ=bs)→∃u,(results fn a'.tmps).run P w'=.ok u w'∧(∃u',Ending.returned u=.returned u'∧∃g',MLe M g'.M∧Rep GL w ⟨[],M⟩ g' (hp bs) w'∧g'.den v u'):=by
  rintro g' ρ σ hle hr hd ⟨hret,rfl⟩;obtain⟨u,k1,k2⟩:=Zap hr hd h5 hret;exact⟨u,k1,u,rfl,g',hle.m,hr,k2⟩
 cases e with
 |normal=>obtain⟨g',ρ,σ,k1,k2,k3,k4⟩:=hl; exact⟨k3.defers,fin g' ρ σ k1 k2 k3 k4.2⟩
 |ret=>obtain⟨g',ρ,σ,k1,k2,k3,k4⟩:=hl; exact⟨k3.defers,fin g' ρ σ k1 k2 k3 k4.2⟩
 |exit id=>obtain⟨g',ρ,σ,k1,k2,k3,k4⟩:=hl; rcases k4.1 with q|q<;>cases q
 |_=>exact hl.elim
theorem Rep.joinG{w0:World}{L:Ln}{g:Gm}{h:Hp}{w w':World}(r:Rep GL w0 L g h w){M:Nat→Option Obj}{g':Gm}{h':Hp}{bs:List ABlk}(r':Rep GL w ⟨[],M⟩ g' h' w')(s:Nat)(hs:∀i,i<bs.length→h' (s+i)=bs[i]?)(m:Nat→Option Nat)(M2:Nat→Option Obj)(p:AVal→Prop)
 (hM:MLe g.M M2)(hst:∀b o,M2 b=some o→w'.heap[b]?=some o)(hsrc:∀b o,M2 b=some o→g.M b=some o∨w.heap.size≤b)(hfresh:∀b,w.heap.size≤b→g'.M b=none→M2 b=none)
 (hden:∀c x v,p x→Den g'.M c x v→Den M2 c x v)(hp':∀b∈bs,b.AllV p)(hren:∀x m,p x→p (AVal.ren m x)){N:Nat}(hN:∀i,i<bs.length→h (N+i)=none)
 (hm:∀b b' cb,m b=some b'→g'.c b=some cb→(∃i,i<bs.length∧b=s+i∧b'=N+i)∨(g.c b'=some cb)) :
  ∃c2,CLe g.c c2∧(∀b b' cb,m b=some b'→g'.c b=some cb→c2 b'=some cb)∧Rep GL w0 L ⟨M2,c2⟩ (hups h (Yv N (bs.map (ABlk.mapV (AVal.ren m))))) w':=by
 let c2:Own:=λb=>if N≤b∧b<N+bs.length then g'.c (b-N+s) else g.c b
 have hc:CLe g.c c2:=by
  intro b cb e;by_cases hb:N≤b∧b<N+bs.length
  ·have:=r.empt b (by have:=hN (b-N) (by omega); rwa [show N+(b-N)=b by omega] at this);rw[this] at e; cases e
  ·simp only[c2,if_neg hb]; exact e
 have hc2:∀b b' cb,m b=some b'→g'.c b=some cb→c2 b'=some cb:=by
  intro b b' cb e1 e2;rcases hm b b' cb e1 e2 with ⟨i,q1,q2,q3⟩|q
  ·simp only[c2]; rw[if_pos (by omega),show b'-N+s=b by omega]; exact e2
  ·exact hc _ _ q
 have hH:∀b,hups h (Yv N (bs.map (ABlk.mapV (AVal.ren m)))) b=if N≤b∧b<N+bs.length then (bs[b-N]?).map (ABlk.mapV (AVal.ren m)) else h b:=by
  intro b; rw[Zax]; simp
 have hcase:∀b blk,hups h (Yv N (bs.map (ABlk.mapV (AVal.ren m)))) b=some blk→(h b=some blk∧c2 b=g.c b)∨∃i blk0,i<bs.length∧b=i+N∧h' (s+i)=some blk0∧blk=blk0.mapV (AVal.ren m)∧c2 b=g'.c (s+i)∧blk0∈bs:=by
  intro b blk e;rw[hH] at e;by_cases hb:N≤b∧b<N+bs.length
  ·rw[if_pos hb] at e;cases hx:bs[b-N]? with
   |none=>simp[hx] at e
   |some blk0=>
    simp[hx] at e;exact .inr ⟨b-N,blk0,by omega,by omega,by rw[hs _ (by omega)]; exact hx,e.symm,by simp only[c2]; rw[if_pos hb,Nat.add_comm],List.mem_of_getElem? hx⟩
  ·rw[if_neg hb] at e;exact .inl ⟨e,by simp only[c2]; rw[if_neg hb]⟩
 have hsize:=r.keeps.size;refine⟨c2,hc,hc2,?_⟩;refine { keeps:=r.keeps.trans' r'.keeps.os r'.keeps.tape r'.keeps.output r'.keeps.size (λb hb _=>r'.keeps.block b (by omega) (by simp)),stable:=hst,src:=λb o e=>?_,globs:=λq hq=>(r.globs q hq).mono hM (CLe.refl _),empt:=λb e=>?_,dom:=λb blk e=>?_,own:=λb blk cb e hl ec hv=>?_,hollow:=λb blk cb e hl ec hv=>?_,inj:=λb b' blk blk' cb cb' e e' hl hl' ec ec' hv hv' hq=>?_ }
 ·rcases hsrc b o e with q|q
  ·exact r.src b o q
  ·exact .inr (.inl (by omega))
 ·rw[hH] at e;show c2 b=none;by_cases hb:N≤b∧b<N+bs.length
  ·rw[if_pos hb,List.getElem?_eq_getElem (by omega)] at e; cases e
  ·rw[if_neg hb] at e; simp only[c2]; rw[if_neg hb]; exact r.empt b e
 ·rcases hcase b blk e with ⟨q1,q2⟩|⟨i,blk0,q1,q2,q3,q4,q5,q6⟩
  ·obtain⟨cb,k⟩:=r.dom b blk q1; exact⟨cb,by show c2 b=_; rw[q2]; exact k⟩
  ·obtain⟨cb,k⟩:=r'.dom (s+i) blk0 q3; exact⟨cb,by show c2 b=_; rw[q5]; exact k⟩
 ·replace ec:c2 b=some cb:=ec
  rcases hcase b blk e with ⟨q1,q2⟩|⟨i,blk0,q1,q2,q3,q4,q5,q6⟩
  ·rw[q2] at ec;obtain⟨k1,k2,o,ho,hok⟩:=r.own b blk cb q1 hl ec hv;have hlt:=r.lt_of_own q1 hl ec hv;refine⟨?_,k2,o,by rw[r'.keeps.block _ hlt (by simp)]; exact ho,hok.mono hM hc⟩;show M2 cb.blk=none;cases hm2:M2 cb.blk with
   |none=>rfl
   |some z=>
    rcases hsrc _ _ hm2 with q|q
    ·rw[k1] at q; cases q
    ·omega
  ·rw[q5] at ec;obtain⟨k1,k2,o,ho,hok⟩:=r'.own (s+i) blk0 cb q3 (by rw[q4,ABlk.mapV_live] at hl; exact hl) ec hv;have hge:w.heap.size≤cb.blk:=by rcases k2 with q|q; simp at q; exact q
   refine⟨hfresh _ hge k1,.inr (by omega),o,ho,?_⟩;rw[q4];refine hok.mapV (p:=p) (λx v hx hd=>?_) (hp' _ q6);exact hden _ _ _ (hren _ _ hx) (hd.ren hc2)
 ·replace ec:c2 b=some cb:=ec
  rcases hcase b blk e with ⟨q1,q2⟩|⟨i,blk0,q1,q2,q3,q4,q5,q6⟩
  ·rw[q2] at ec; exact r.hollow b blk cb q1 hl ec hv
  ·rw[q5] at ec;have:=r'.hollow (s+i) blk0 cb q3 (by rw[q4,ABlk.mapV_live] at hl; exact hl) ec hv;rw[q4,this]; rfl
 ·replace ec:c2 b=some cb:=ec
  replace ec':c2 b'=some cb':=ec'
  rcases hcase b blk e with ⟨q1,q2⟩|⟨i,blk0,q1,q2,q3,q4,q5,q6⟩<;>rcases hcase b' blk' e' with ⟨p1,p2⟩|⟨i',blk0',p1,p2,p3,p4,p5,p6⟩
  ·rw[q2] at ec; rw[p2] at ec'; exact r.inj b b' blk blk' cb cb' q1 p1 hl hl' ec ec' hv hv' hq
  ·rw[q2] at ec; rw[p5] at ec';have h1:=r.lt_of_own q1 hl ec hv;obtain⟨_,k2,_⟩:=r'.own (s+i') blk0' cb' p3 (by rw[p4,ABlk.mapV_live] at hl'; exact hl') ec' hv';rcases k2 with k2|k2
   ·simp at k2
   ·omega
  ·rw[q5] at ec; rw[p2] at ec';have h1:=r.lt_of_own p1 hl' ec' hv';obtain⟨_,k2,_⟩:=r'.own (s+i) blk0 cb q3 (by rw[q4,ABlk.mapV_live] at hl; exact hl) ec hv;rcases k2 with k2|k2
   ·simp at k2
   ·omega
  ·rw[q5] at ec; rw[p5] at ec';have:=r'.inj (s+i) (s+i') blk0 blk0' cb cb' q3 p3 (by rw[q4,ABlk.mapV_live] at hl; exact hl) (by rw[p4,ABlk.mapV_live] at hl'; exact hl') ec ec' hv hv' hq;omega
theorem Rep.join{w0:World}{L:Ln}{g:Gm}{h:Hp}{w w':World}(r:Rep GL w0 L g h w){M:Nat→Option Obj}{g':Gm}{bs:List ABlk}(r':Rep GL w ⟨[],M⟩ g' (hp bs) w')(M2:Nat→Option Obj)(p:AVal→Prop)
 (hM:MLe g.M M2)(hst:∀b o,M2 b=some o→w'.heap[b]?=some o)(hsrc:∀b o,M2 b=some o→g.M b=some o∨w.heap.size≤b)(hfresh:∀b,w.heap.size≤b→g'.M b=none→M2 b=none)
 (hden:∀c x v,p x→Den g'.M c x v→Den M2 c x v)(hp':∀b∈bs,b.AllV p)(hren:∀x m,p x→p (AVal.ren m x)){N:Nat}(hN:∀i,i<bs.length→h (N+i)=none) :
  ∃c2,CLe g.c c2∧(∀b cb,b<bs.length→g'.c b=some cb→c2 (b+N)=some cb)∧Rep GL w0 L ⟨M2,c2⟩ (hups h (Yv N (bs.map (ABlk.mapV (AVal.ren (Zy N)))))) w':=by
 obtain⟨c2,k1,k2,k3⟩:=r.joinG r' 0 (λi hi=>by simp[hp]) (Zy N) M2 p hM hst hsrc hfresh hden hp' hren hN (λb b' cb e1 e2=>by
  simp only[Zy,Option.some.injEq] at e1;subst e1;by_cases hb:b<bs.length
  ·exact .inl ⟨b,hb,by omega,by omega⟩
  ·have:=r'.empt b (by simp[hp]; omega);rw[this] at e2; cases e2)
 exact⟨c2,k1,λb cb _ e=>k2 b (b+N) cb rfl e,k3⟩
def Zu(N:Nat)(bs:List ABlk):List ABlk:=bs.map (ABlk.mapV (AVal.ren (Zy N)))
theorem Y1:∀(bs:List ABlk) (N:Nat) (i:Nat),i<bs.length→∃b,(N+i,b)∈Yv N bs
 |b::bs,N,0,_=>⟨b,by simp[Yv]⟩
 |b::bs,N,i+1,h=>by
  obtain⟨x,hx⟩:=Y1 bs (N+1) i (by simpa using h);exact⟨x,by rw[show N+(i+1)=N+1+i by omega]; exact List.mem_cons_of_mem _ hx⟩
theorem NCall.here{f:FuncId}{xs:List AVal}{v:AVal}{bs:List ABlk}(hc:NCall P GL f xs v bs)(hxs:roL xs=true){h0:Hp}{N:Nat}(hN:∀i,i<bs.length→h0 (N+i)=none):ACall P GL f xs h0 (v.ren (Zy N)) [] (Yv N (Zu N bs)):=by
 intro w0 L g h w vs r hx _ hup;refine(hc w g.M vs r.stable r.globs (XaG hxs hx noOwn)).mono ?_;rintro e w' ⟨u,he,g',hle,r',hd⟩;obtain⟨c2,k1,k2,k3⟩:=r.join r' g'.M (λ_=>True) hle r'.stable (λb o e=>by
  rcases r'.src b o e with q|q|q
  ·exact .inl q
  ·exact .inr q
  ·simp at q) (λ_ _ e=>e) (λ_ _ _ _ d=>d) (λb _=>ABlk.all_true b) (λ_ _ _=>trivial) (N:=N) (λi hi=>by
   obtain⟨b,hb⟩:=Y1 (Zu N bs) N i (by simpa[Zu] using hi);rw[hup _ hb]; exact hN i hi)
 refine⟨u,he,⟨g'.M,c2⟩,⟨hle,k1⟩,k3,hd.ren (λb b' cb e1 e2=>?_)⟩;simp only[Zy,Option.some.injEq] at e1;subst e1;refine k2 b cb ?_ e2;by_cases hb:b<bs.length
 ·exact hb
 ·have:=r'.empt b (by simp[hp]; omega);rw[this] at e2; cases e2
theorem NCall.lend{f:FuncId}{xs ys:List AVal}{v:AVal}{bs:List ABlk}{rd:List Nat}{h0:Hp}(hc:NCall P GL f ys v bs)(hb:BorL h0 rd xs ys)(hv:v.nosh=true)(hbs:Zay bs=true){N:Nat}(hN:∀i,i<bs.length→h0 (N+i)=none):ACall P GL f xs h0 (v.ren (Zy N)) rd (Yv N (Zu N bs)):=by
 intro w0 L g h w vs r hx hrd hup;refine(hc w (World.all w) vs (λ_ _ e=>e) (λp hp=>(r.globs p hp).mono r.le_all (CLe.refl _)) (hb GL w0 L g h w _ r r.cov_all hrd vs hx)).mono ?_;rintro e w' ⟨u,he,g',hle,r',hd⟩;obtain⟨c2,k1,k2,k3⟩:=r.join r' g.M (λx=>x.nosh=true) (MLe.refl _) (λb o e=>by rw[r'.keeps.block b (r.stable_lt e) (by simp)]; exact r.stable b o e) (λb o e=>.inl e) (λb hge e=>by
   cases hm:g.M b with
   |none=>rfl
   |some z=>have:=r.stable_lt hm; omega) (λ_ _ _ hn d=>d.nosh hn _) (YaZ hbs) (λx m hn=>AVal.nosh_ren m x hn) (N:=N) (λi hi=>by
   obtain⟨b,hb⟩:=Y1 (Zu N bs) N i (by simpa[Zu] using hi);rw[hup _ hb]; exact hN i hi)
 refine⟨u,he,⟨g.M,c2⟩,⟨MLe.refl _,k1⟩,k3,?_⟩;refine(hd.ren (c':=c2) (m:=Zy N) (λb b' cb e1 e2=>?_)).nosh (AVal.nosh_ren _ _ hv) _;simp only[Zy,Option.some.injEq] at e1;subst e1;refine k2 b cb ?_ e2;by_cases hb:b<bs.length
 ·exact hb
 ·have:=r'.empt b (by simp[hp]; omega);rw[this] at e2; cases e2
def YD:List ABlk→List ABlk
 |[]=>[]
 |_::l=>.dead::YD l
theorem ZI:∀(l:List ABlk) (i:Nat),(YD l)[i]?=if i<l.length then some .dead else none
 |[],i=>by simp[YD]
 |x::l,0=>by simp[YD]
 |x::l,i+1=>by simp[YD,ZI l i]
theorem Yae(l:List ABlk):(YD l).length=l.length:=by induction l<;>simp_all [YD]
def ltM(n:Nat):Nat→Option Nat:=λb=>bif Nat.blt b n then some b else none
def keepM(ids:List Nat)(n k:Nat):Nat→Option Nat:=λb=>bif ids.contains b||(Nat.ble n b&&Nat.blt b (n+k)) then some b else none
theorem Qak{f:FuncId}{F:MFn}(ok:FnOk P GL f F){xs:List AVal}(hn:xs.length=F.np)(σ:List ABlk)(ids:List Nat)(hids:∀i∈ids,i<σ.length){v:AVal}{news bs:List ABlk}(hbs:bs=news∨bs=[])
 (h:Awp P GL F.n F.body (frame0 (renL (ltM σ.length) xs)) (YD σ) (λe ρ σ'=>(e=.normal∨e=.ret)∧retV F.rets ρ σ'=some v∧σ'=YD σ++news)) :
  ACall P GL f xs (hp σ) (v.ren (keepM ids σ.length bs.length)) ids (Yv σ.length (bs.map (ABlk.mapV (AVal.ren (keepM ids σ.length bs.length))))):=by
 intro w0 L g hq w vs r hx hrd hup
 let dm:CB:=⟨0,0,0,true⟩
 let c':Own:=λb=>if b<σ.length then some ((g.c b).getD dm) else none
 have r0:Rep GL w ⟨[],g.M⟩ ⟨g.M,c'⟩ (hp (YD σ)) w:={
  keeps:=Keeps.refl _ _,stable:=r.stable,src:=λb o e=>.inl e,globs:=r.globs
  empt:=λb e=>by
   show c' b=none;simp only[hp,ZI] at e;simp only[c'];split at e
   ·cases e
   ·rename_i hb; rw[if_neg hb]
  dom:=λb blk e=>by
   simp only[hp,ZI] at e;split at e
   ·rename_i hb; exact⟨_,by show c' b=_; simp only[c']; rw[if_pos hb]⟩
   ·cases e
  own:=λb blk cb e hl _ _=>by
   simp only[hp,ZI] at e;split at e
   ·cases e; cases hl
   ·cases e
  hollow:=λb blk cb e hl _ _=>by
   simp only[hp,ZI] at e;split at e
   ·cases e; cases hl
   ·cases e
  inj:=λb b' blk blk' cb cb' e _ hl _ _ _ _ _ _=>by
   simp only[hp,ZI] at e;split at e
   ·cases e; cases hl
   ·cases e }
 have hx':DenL ⟨g.M,c'⟩ (renL (ltM σ.length) xs) vs:=by
  refine DenL.of_get (by rw[Yw]; exact hx.length) (λi y u e1 e2=>?_);obtain⟨x,q1,rfl⟩:=Xac e1;refine(hx.get i x u q1 e2).ren (λb b' cb k1 k2=>?_);unfold ltM at k1;obtain⟨k0,k1⟩:=Qv k1;cases k1;have hlt:b<σ.length:=YNL k0;simp only[c'];rw[if_pos hlt,k2]; rfl
 obtain⟨fn,c,h1,h2,h3,h4,h5⟩:=ok.ok;have d0:=YY hx' (n:=F.n) (by rw[Yw,hn]; exact ok.np);refine calls_of_wp h1 h2 ?_;rw[h3];refine wp_mono (h c h4 w ⟨[],g.M⟩ _ _ w r0 d0) (λe a' w' hl=>?_);have fin:∀g' ρ σ',(⟨g.M,c'⟩:Gm).Le g'→Rep GL w ⟨[],g.M⟩ g' (hp σ') w'→DenF F.n g' ρ a'→(retV F.rets ρ σ'=some v∧σ'=YD σ++news)→∃u,(results fn a'.tmps).run P w'=.ok u w'∧(∃u',Ending.returned u=.returned u'∧∃g2,g.Le g2∧Rep GL w0 L g2 (hups hq (Yv σ.length (bs.map (ABlk.mapV (AVal.ren (keepM ids σ.length bs.length)))))) w'∧g2.den (v.ren (keepM ids σ.length bs.length)) u'):=by
  rintro g' ρ σ' hle hr hd ⟨hret,rfl⟩;obtain⟨u,k1,k2⟩:=Zap hr hd h5 hret;obtain⟨c2,j1,j2,j3⟩:=r.joinG hr σ.length (bs:=bs) (λi hi=>by
    rcases hbs with rfl|rfl
    ·simp only[hp];rw[List.getElem?_append_right (by rw[Yae]; omega),Yae,Nat.add_sub_cancel_left]
    ·simp at hi) (keepM ids σ.length bs.length) g'.M (λ_=>True) hle.m hr.stable (λb o e=>by
    rcases hr.src b o e with q|q|q
    ·exact .inl q
    ·exact .inr q
    ·simp at q) (λ_ _ e=>e) (λ_ _ _ _ d=>d) (λb _=>ABlk.all_true b) (λ_ _ _=>trivial) (N:=σ.length) (λi hi=>by
    obtain⟨b,hb⟩:=Y1 (bs.map (ABlk.mapV (AVal.ren (keepM ids σ.length bs.length)))) σ.length i (by simpa using hi);rw[hup _ hb]; simp[hp]) (λb b' cb e1 e2=>by
    unfold keepM at e1;obtain⟨e0,e1⟩:=Qv e1;cases e1;by_cases hin:b∈ids∧b<σ.length
    ·right;obtain⟨hin,hb⟩:=hin;have hb':hq b=some (σ[b]):=by rw[hrd b hin]; simp[hp,hb]
     obtain⟨cb0,hcb⟩:=r.dom b _ hb';have:c' b=some cb0:=by simp only[c']; rw[if_pos hb,hcb]; rfl
     have:=hle.c b cb0 this;rw[e2] at this; cases this; exact hcb
    ·left;simp only[Bool.or_eq_true,Bool.and_eq_true] at e0;rcases e0 with q|⟨q1,q2⟩
     ·exact(hin ⟨List.contains_iff_mem.1 q,hids b (List.contains_iff_mem.1 q)⟩).elim
     ·have:=YNL q1;have:b < σ.length + bs.length:=YNL q2;exact⟨b - σ.length,by omega,by omega,by omega⟩)
  exact⟨u,k1,u,rfl,⟨g'.M,c2⟩,⟨hle.m,j1⟩,j3,k2.ren j2⟩
 cases e with
 |normal=>obtain⟨g',ρ,σ,k1,k2,k3,k4⟩:=hl; exact⟨k3.defers,fin g' ρ σ k1 k2 k3 k4.2⟩
 |ret=>obtain⟨g',ρ,σ,k1,k2,k3,k4⟩:=hl; exact⟨k3.defers,fin g' ρ σ k1 k2 k3 k4.2⟩
 |exit id=>obtain⟨g',ρ,σ,k1,k2,k3,k4⟩:=hl; rcases k4.1 with q|q<;>cases q
 |_=>exact hl.elim
end
end Go.Ah
end
section
namespace Go.Ah
mutual
def AVal.ids:AVal→List Nat
 |.bptr b _=>[b]
 |.ptr b _ _=>[b]
 |.sl b _ _ _=>[b]
 |.map b=>[b]
 |.iter b=>[b]
 |.func _ xs ys=>idsL xs++idsL ys
 |.iface _ v=>v.ids
 |.agg cs=>idsL cs
 |.tup cs=>idsL cs
 |.when _ x=>x.ids
 |_=>[]
def idsL:List AVal→List Nat
 |[]=>[]
 |x::xs=>x.ids++idsL xs
end
def ZT:Nat→List ABlk→Option (List ABlk)
 |0,l=>some l
 |n+1,.dead::l=>ZT n l
 |_+1,_=>none
theorem YaA:∀(σ l news:List ABlk),ZT σ.length l=some news→l=YD σ++news
 |[],l,news,h=>by simp[ZT] at h; simp[YD,h]
 |x::σ,l,news,h=>by
  cases l with
  |nil=>simp[ZT] at h
  |cons y l=>
   cases y with
   |dead=>simp only[List.length_cons,ZT] at h; rw[YaA σ l news h]; rfl
   |_=>simp[ZT] at h
def Xv(n:Nat):List Nat→Bool
 |[]=>true
 |x::xs=>Nat.blt x n&&Xv n xs
theorem Xag{n:Nat}:∀ {l:List Nat},Xv n l=true→∀i∈l,i<n
 |x::xs,h,i,hi=>by
  simp only[Xv,Bool.and_eq_true] at h;rcases List.mem_cons.1 hi with rfl|hi
  ·exact YNL h.1
  ·exact Xag h.2 i hi
def much:Nat:=1000000000
end Go.Ah
end
section
namespace Go.Ah
structure Ans (α:Type) where
 stop:α
 call:MK→List AVal→List ABlk→(AVal→List ABlk→α)→α
 dcall:MK→List AVal→List ABlk→(AVal→List Nat×List Nat→List ABlk→α)→α
 test:AVal→α→α→α
 loop:((List AVal→List ABlk→α)→List AVal→List ABlk→α)→List AVal→List ABlk→α
section
variable {α:Type}
def Ans.rd(A:Ans α)(r:SRes)(K:AVal→α):α:=match r with
 |.ok v _ []=>K v
 |_=>A.stop
def Ans.pu(A:Ans α)(r:SRes)(K:AVal→α):α:=match r with
 |.ok v [] []=>K v
 |_=>A.stop
def Ans.wr(A:Ans α)(r:SRes)(σ:List ABlk)(K:AVal→List ABlk→α):α:=match r with
 |.ok v _ up=>match upL σ up with
  |some σ'=>K v σ'
  |none=>A.stop
 |.stop=>A.stop
def Ans.dr(A:Ans α)(r:SRes)(σ:List ABlk)(K:AVal→List Nat×List Nat→List ABlk→α):α:=match r with
 |.ok v rd up=>match upL σ up with
  |some σ'=>K v (rd,up.map (·.1)) σ'
  |none=>A.stop
 |.stop=>A.stop
def Ans.opt{β:Type}(A:Ans α)(o:Option β)(K:β→α):α:=match o with
 |some v=>K v
 |none=>A.stop
def Ans.gd(A:Ans α)(b:Bool)(k:α):α:=match b with
 |true=>k
 |false=>A.stop
@[reducible] def udf(cs:List (Bool×Bool)):AVal:=.when cs (.bool false)
def Ans.gx(A:Ans α)(c:AVal)(w:Bool)(r:α)(s:List (Bool×Bool)→α):α:=match c with
 |.when cs (.bool q)=>match Yaf.holdNot cs with
  |true=>s (cs++[(q,w)])
  |false=>A.stop
 |c=>A.test c (bif w then r else s [(true,w)]) (bif w then s [(false,w)] else r)
def Ans.gr(A:Ans α)(c:AVal)(w:Bool)(r:(AVal→α)→α)(K:AVal→α):α:=A.gx c w (r K) (λcs=>K (udf cs))
def Ans.gw(A:Ans α)(c:AVal)(w:Bool)(r:(AVal→List ABlk→α)→α)(σ:List ABlk)(K:AVal→List ABlk→α):α:=A.gx c w (r K) (λcs=>K (udf cs) σ)
def Ans.gl(A:Ans α)(c:AVal)(w:Bool)(r:(AVal→List Nat×List Nat→List ABlk→α)→α)(σ:List ABlk)(K:AVal→List Nat×List Nat→List ABlk→α):α:=
 A.gx c w (r K) (λcs=>K (udf cs) ([],[]) σ)
def joinK(f:(List AVal→List ABlk→α)→α)(k:List AVal→List ABlk→α):α:=f k
inductive Cls where
 |mv|pu|rd|wr|call
def clsOf:MK→Cls
 |.mv=>.mv
 |.call _ | .callv | .invoke _ _=>.call
 |.alloc _ | .box | .buildS _ _ _ _ | .store _ | .makeMap | .append _ _ _ | .mapUpd _ | .range | .next | .makeS _ _ _ | .clearS _ _=>.wr
 |.load _ _ | .lookup _ _ _ | .lenM | .sliceS _ _ _ _ | .idxAddrS _=>.rd
 |_=>.pu
def dnOp(A:Ans α)(o:MOper)(ρ:Frame)(σ:List ABlk)(K:Frame→List ABlk→α):α:=
 match o.guard with
 |none=>match clsOf o.k with
  |.mv=>match o.xs with
   |[x]=>K (putF o.dst (ev ρ x) ρ) σ
   |_=>A.stop
  |.pu | .rd=>A.rd (cstep o.k (o.xs.map (ev ρ)) σ) λv=>K (putF o.dst v ρ) σ
  |.wr=>A.wr (cstep o.k (o.xs.map (ev ρ)) σ) σ λv σ=>K (putF o.dst v ρ) σ
  |.call=>A.call o.k (o.xs.map (ev ρ)) σ λv σ=>K (putF o.dst v ρ) σ
 |some (s,w)=>match clsOf o.k with
  |.mv | .pu | .rd=>A.gr (fget ρ s) w (λk=>A.rd (cstep o.k (o.xs.map (ev ρ)) σ) k) λv=>K (putF o.dst v ρ) σ
  |.wr=>A.gw (fget ρ s) w (λk=>A.wr (cstep o.k (o.xs.map (ev ρ)) σ) σ k) σ λv σ=>K (putF o.dst v ρ) σ
  |.call=>A.gw (fget ρ s) w (λk=>A.call o.k (o.xs.map (ev ρ)) σ k) σ λv σ=>K (putF o.dst v ρ) σ
def dnOps(A:Ans α):List MOper→Frame→List ABlk→(Frame→List ABlk→α)→α
 |[],ρ,σ,K=>K ρ σ
 |o::r,ρ,σ,K=>dnOp A o ρ σ λρ σ=>dnOps A r ρ σ K
def dnOpD(A:Ans α)(o:MOper)(ρ:Frame)(σ:List ABlk)(lg:Log)(K:Frame→List ABlk→Log→α):α:=
 match o.guard with
 |none=>match clsOf o.k with
  |.mv=>match o.xs with
   |[x]=>K (putF o.dst (ev ρ x) ρ) σ (lg++[([],[])])
   |_=>A.stop
  |.pu=>A.pu (cstep o.k (o.xs.map (ev ρ)) σ) λv=>K (putF o.dst v ρ) σ (lg++[([],[])])
  |.rd | .wr=>A.dr (cstep o.k (o.xs.map (ev ρ)) σ) σ λv l σ=>K (putF o.dst v ρ) σ (lg++[l])
  |.call=>A.dcall o.k (o.xs.map (ev ρ)) σ λv l σ=>K (putF o.dst v ρ) σ (lg++[l])
 |some (s,w)=>match clsOf o.k with
  |.mv | .pu=>A.gr (fget ρ s) w (λk=>A.pu (cstep o.k (o.xs.map (ev ρ)) σ) k) λv=>K (putF o.dst v ρ) σ (lg++[([],[])])
  |.rd | .wr=>A.gl (fget ρ s) w (λk=>A.dr (cstep o.k (o.xs.map (ev ρ)) σ) σ k) σ λv l σ=>K (putF o.dst v ρ) σ (lg++[l])
  |.call=>A.gl (fget ρ s) w (λk=>A.dcall o.k (o.xs.map (ev ρ)) σ k) σ λv l σ=>K (putF o.dst v ρ) σ (lg++[l])
def YbB(A:Ans α):List MOper→Frame→List ABlk→Log→(Frame→List ABlk→Log→α)→α
 |[],ρ,σ,lg,K=>K ρ σ lg
 |o::r,ρ,σ,lg,K=>dnOpD A o ρ σ lg λρ σ lg=>YbB A r ρ σ lg K
def isWr:Cls→Bool
 |.wr=>true
 |.call=>true
 |_=>false
def noWr:List MOper→Bool
 |[]=>true
 |o::r=>!(isWr (clsOf o.k))&&noWr r
inductive DCode where
 |skip
 |region (id:Nat) (ms:List MOper) (draw:Option (List (List Nat)))
 |seq (a b:DCode)
 |cond (c:Opd) (a b:DCode)
 |join (lv:List Nat) (a:DCode)
 |block (id:Nat) (a:DCode)
 |loop (lv:List Nat) (a:DCode)
 |exit (id:Nat)
 |scope (a:DCode)
 |label (l:Nat)
 |ret
 deriving Inhabited
def DCode.er:DCode→MCode
 |.skip=>.skip
 |.region id ms hd=>.region id ms hd
 |.seq a b=>.seq a.er b.er
 |.cond c a b=>.cond c a.er b.er
 |.join _ a=>a.er
 |.block id a=>.block id a.er
 |.loop _ a=>.loop a.er
 |.exit id=>.exit id
 |.scope a=>.scope a.er
 |.label l=>.label l
 |.ret=>.ret
def QF:List MOper→List Nat
 |[]=>[]
 |o::r=>match o.dst with
  |some d=>d::QF r
  |none=>QF r
def DCode.asg:DCode→List Nat
 |.region _ ms _=>QF ms
 |.seq a b=>a.asg++b.asg
 |.cond _ a b=>a.asg++b.asg
 |.join _ a=>a.asg
 |.block _ a=>a.asg
 |.loop _ a=>a.asg
 |.scope a=>a.asg
 |_=>[]
def inL(x:Nat):List Nat→Bool
 |[]=>false
 |y::l=>Nat.beq x y||inL x l
def subL:List Nat→List Nat→Bool
 |[],_=>true
 |x::l,b=>inL x b&&subL l b
def DCode.ok:DCode→Bool
 |.seq a b=>a.ok&&b.ok
 |.cond _ a b=>a.ok&&b.ok
 |.join lv a=>subL lv a.asg&&a.ok
 |.block _ a=>a.ok
 |.loop lv a=>subL lv a.asg&&a.ok
 |.scope a=>a.ok
 |_=>true
def hdV:List AVal→AVal
 |[]=>.junk
 |x::_=>x
def tlV:List AVal→List AVal
 |[]=>[]
 |_::l=>l
def zipF:List Nat→List AVal→Frame→Frame
 |[],_,ρ=>ρ
 |k::ks,vs,ρ=>(k,hdV vs)::zipF ks (tlV vs) ρ
def dropF(l:List Nat):Frame→Frame
 |[]=>[]
 |(k,v)::r=>match inL k l with
  |true=>dropF l r
  |false=>(k,v)::dropF l r
def getF(ρ:Frame):List Nat→List AVal
 |[]=>[]
 |s::r=>fget ρ s::getF ρ r
def dn(A:Ans α):DCode→Frame→List ABlk→(Frame→List ABlk→α)→(Nat→Frame→List ABlk→α)→(Frame→List ABlk→α)→α
 |.skip,ρ,σ,K,_,_=>K ρ σ
 |.label _,ρ,σ,K,_,_=>K ρ σ
 |.region _ ms none,ρ,σ,K,_,_=>dnOps A ms ρ σ K
 |.region _ ms (some hd),ρ,σ,K,_,_=>match noWr ms with
  |true=>dnOps A ms ρ σ K
  |false=>YbB A ms ρ σ [] λρ σ lg=>A.gd (Qe hd lg) (K ρ σ)
 |.seq a b,ρ,σ,K,E,R=>dn A a ρ σ (λρ σ=>dn A b ρ σ K E R) E R
 |.cond c a b,ρ,σ,K,E,R=>A.test (ev ρ c) (dn A a ρ σ K E R) (dn A b ρ σ K E R)
 |.join lv a,ρ,σ,K,E,R=>joinK (λk=>dn A a ρ σ (λρ' σ=>k (getF ρ' lv) σ) E R) (λvs σ=>K (zipF lv vs (dropF a.asg ρ)) σ)
 | .block id a,ρ,σ,K,E,R=>dn A a ρ σ K (λi ρ σ=>match Nat.beq i id with
  |true=>K ρ σ
  | false=>E i ρ σ) R
 |.loop lv a,ρ,σ,_,E,R=>A.loop (λagain vs σ=>dn A a (zipF lv vs (dropF a.asg ρ)) σ (λρ' σ=>again (getF ρ' lv) σ) E R) (getF ρ lv) σ
 |.exit id,ρ,σ,_,E,_=>E id ρ σ
 |.scope a,ρ,σ,K,E,R=>dn A a ρ σ K E R
 |.ret,ρ,σ,_,_,R=>R ρ σ
def cellV(agg:Bool)(n:Nat)(x:AVal)(σ:List ABlk):Option AVal:=match x with
 |.bptr b j=>match hget σ b with
  |.box row=>partA agg j n row
  |_=>none
 |_=>none
def YaV(A:Ans α):List RV→Frame→List ABlk→(List AVal→α)→α
 |[],_,_,K=>K []
 |.t n::r,ρ,σ,K=>YaV A r ρ σ λvs=>K (fget ρ n::vs)
 |.c s agg n::r,ρ,σ,K=>A.opt (cellV agg n (fget ρ s) σ) λv=>YaV A r ρ σ λvs=>K (v::vs)
structure DFn where
 np:Nat
 n:Nat
 body:DCode
 rets:List RV
 deriving Inhabited
def DFn.fn(D:DFn):MFn:=⟨D.np,D.n,D.body.er,D.rets⟩
def dnFn(A:Ans α)(D:DFn)(xs:List AVal)(σ:List ABlk)(ret:AVal→List ABlk→α):α:=
 dn A D.body (frame0 xs) σ (λρ σ=>YaV A D.rets ρ σ λvs=>ret (retOf vs) σ) (λ_ _ _=>A.stop) (λρ σ=>YaV A D.rets ρ σ λvs=>ret (retOf vs) σ)
def iterA(stop:α):Nat→((List AVal→List ABlk→α)→List AVal→List ABlk→α)→List AVal→List ABlk→α
 |0,_,_,_=>stop
 |n+1,F,vs,σ=>F (iterA stop n F) vs σ
structure AnsOk (P:Program) (GL:Globs) (A:Ans α) (hold:α→Prop):Prop where
 stop:¬hold A.stop
 call:∀ {k xs σ K},hold (A.call k xs σ K)→∃R,OpRel P GL k xs σ R∧∀v σ',R v σ'→hold (K v σ')
 dcall:∀ {k xs σ K},hold (A.dcall k xs σ K)→∃v rd up σ',OpSem P GL k xs (hp σ) v rd up∧upL σ up=some σ'∧hold (K v (rd,up.map (·.1)) σ')
 test:∀ {v a b},hold (A.test v a b)→∃c,v=.bool c∧(c=true→hold a)∧(c=false→hold b)
 loop:∀ {F vs σ},hold (A.loop F vs σ)→∃n,hold (iterA A.stop n F vs σ)
section
variable {P:Program} {GL:Globs} {A:Ans α} {hold:α→Prop}
theorem AnsOk.rd(ok:AnsOk P GL A hold){r:SRes}{K:AVal→α}(h:hold (A.rd r K)):∃v rd,r=.ok v rd []∧hold (K v):=by
 unfold Ans.rd at h;split at h
 ·exact⟨_,_,rfl,h⟩
 ·exact(ok.stop h).elim
theorem AnsOk.pu(ok:AnsOk P GL A hold){r:SRes}{K:AVal→α}(h:hold (A.pu r K)):∃v,r=.ok v [] []∧hold (K v):=by
 unfold Ans.pu at h;split at h
 ·exact⟨_,rfl,h⟩
 ·exact(ok.stop h).elim
theorem AnsOk.wr(ok:AnsOk P GL A hold){r:SRes}{σ:List ABlk}{K:AVal→List ABlk→α}(h:hold (A.wr r σ K)):∃v rd up σ',r=.ok v rd up∧upL σ up=some σ'∧hold (K v σ'):=by
 unfold Ans.wr at h;split at h
 ·split at h
  ·rename_i e; exact⟨_,_,_,_,rfl,e,h⟩
  ·exact(ok.stop h).elim
 ·exact(ok.stop h).elim
theorem AnsOk.dr(ok:AnsOk P GL A hold){r:SRes}{σ:List ABlk}{K:AVal→List Nat×List Nat→List ABlk→α}(h:hold (A.dr r σ K)):∃v rd up σ',r=.ok v rd up∧upL σ up=some σ'∧hold (K v (rd,up.map (·.1)) σ'):=by
 unfold Ans.dr at h;split at h
 ·split at h
  ·rename_i e; exact⟨_,_,_,_,rfl,e,h⟩
  ·exact(ok.stop h).elim
 ·exact(ok.stop h).elim
theorem AnsOk.gd(ok:AnsOk P GL A hold){b:Bool}{k:α}(h:hold (A.gd b k)):b=true∧hold k:=by
 unfold Ans.gd at h;split at h
 ·exact⟨rfl,h⟩
 ·exact(ok.stop h).elim
theorem AnsOk.opt(ok:AnsOk P GL A hold){β:Type}{o:Option β}{K:β→α}(h:hold (A.opt o K)):∃v,o=some v∧hold (K v):=by
 unfold Ans.opt at h;split at h
 ·exact⟨_,rfl,h⟩
 ·exact(ok.stop h).elim
theorem Yn(σ:List ABlk):upL σ []=some σ:=by simp[upL]
theorem QbN{ρ:Frame}{s:Nat}{w c:Bool}(h:fget ρ s=.bool c):GuardIs ρ (some (s,w)) [(c,w)]:=.bool s w c h
theorem ZcA{c w:Bool}:Hold [(c,w)]↔c=w:=by simp[Hold]
theorem Xab(ok:AnsOk P GL A hold){ρ:Frame}{s:Nat}{w:Bool}{r:α}{K:List (Bool×Bool)→α}(h:hold (A.gx (fget ρ s) w r K)):∃cs,GuardIs ρ (some (s,w)) cs∧((Hold cs∧hold r)∨(¬Hold cs∧hold (K cs))):=by
 unfold Ans.gx at h;split at h
 ·rename_i cs q hc;split at h
  ·rename_i hn;refine⟨_,.when s w q cs hc,.inr ⟨λq=>Xas hn (λp hp=>q p (by simp[hp])),h⟩⟩
  ·exact(ok.stop h).elim
 ·obtain⟨b,hb,h1,h2⟩:=ok.test h;refine⟨_,QbN hb,?_⟩;rw[ZcA];cases b<;>cases w<;>simp_all
def Zk(l:List Nat)(ρ ρ':Frame):Prop:=∀s,s∉l→fget ρ' s=fget ρ s
theorem Zk.refl(l:List Nat)(ρ:Frame):Zk l ρ ρ:=λ_ _=>rfl
theorem Zk.trans{l l':List Nat}{a b c:Frame}(h:Zk l a b)(k:Zk l' b c):Zk (l++l') a c:=λs hs=>by
 simp only[List.mem_append,not_or] at hs;rw[k s hs.2,h s hs.1]
theorem Zk.mono{l l':List Nat}{a b:Frame}(h:Zk l a b)(hl:∀x∈l,x∈l'):Zk l' a b:=λs hs=>h s λe=>hs (hl s e)
theorem Zk.put{o:MOper}{v:AVal}{ρ:Frame}:Zk (QF [o]) ρ (putF o.dst v ρ):=by
 intro s hs;rw[ZY];cases hd:o.dst with
 |none=>simp
 |some d=>
  have:s≠d:=by rintro rfl; simp[QF,hd] at hs
  rw[if_neg (by simpa using λe=>this e.symm)]
theorem YaH(o:MOper)(r:List MOper):QF (o::r)=QF [o]++QF r:=by
 cases hd:o.dst<;>simp[QF,hd]
theorem YbM(ok:AnsOk P GL A hold){fl:Bool}{o:MOper}{ρ:Frame}{σ:List ABlk}{lg:Log}{K:Frame→List ABlk→α}(hfl:fl=true→isWr (clsOf o.k)=false)(h:hold (dnOp A o ρ σ K)) :
  StepR fl P GL o ρ σ lg (λρ' σ' lg'=>hold (K ρ' σ')∧Zk (QF [o]) ρ ρ'∧((∃l,lg'=lg++[l]∧(isWr (clsOf o.k)=false→l.2=[])))):=by
 unfold dnOp at h;cases hg:o.guard with
 |none=>
  simp only[hg] at h;have gi:GuardIs ρ o.guard []:=by rw[hg]; exact .none
  have hh:Hold []:=by simp[Hold]
  have rdcase:hold (A.rd (cstep o.k (o.xs.map (ev ρ)) σ) λv=>K (putF o.dst v ρ) σ)→StepR fl P GL o ρ σ lg (λρ' σ' lg'=>hold (K ρ' σ')∧Zk (QF [o]) ρ ρ'∧((∃l,lg'=lg++[l]∧(isWr (clsOf o.k)=false→l.2=[])))):=by
   intro h;obtain⟨v,rd,e,h⟩:=ok.rd h;exact .run [] _ v rd [] σ gi hh (Qm _) (YB e) (Yn σ) ⟨h,Zk.put,_,rfl,λ_=>rfl⟩
  cases hc:clsOf o.k with
  |mv=>
   simp only[hc] at h;split at h
   ·rename_i x hx;have hk:o.k=.mv:=by
     revert hc; unfold clsOf; split<;>simp_all
    refine .run [] [ev ρ x] (ev ρ x) [] [] σ gi hh (by rw[hx]; exact Qm _) (by rw[hk]; exact Qcl _ _) (Yn σ) ⟨h,Zk.put,_,rfl,λ_=>rfl⟩
   ·exact(ok.stop h).elim
  |pu=>simp only[hc] at h rdcase; exact rdcase h
  |rd=>simp only[hc] at h rdcase; exact rdcase h
  |wr=>
   simp only[hc] at h;obtain⟨v,rd,up,σ',e,e2,h⟩:=ok.wr h;exact .run [] _ v rd up σ' gi hh (Qm _) (YB e) e2 ⟨h,Zk.put,_,rfl,λq=>by simp[isWr] at q⟩
  |call=>
   simp only[hc] at h;obtain⟨R,hR,hk⟩:=ok.call h;refine .rel [] _ R ?_ gi hh (Qm _) hR (λv σ' hv=>⟨hk v σ' hv,Zk.put,_,rfl,λq=>by simp[isWr] at q⟩);cases fl with
   |false=>rfl
   |true=>have:=hfl rfl; simp[hc,isWr] at this
 |some p=>
  obtain⟨s,w⟩:=p;simp only[hg] at h;have skipcase:∀cs,GuardIs ρ (some (s,w)) cs→¬Hold cs→hold (K (putF o.dst (udf cs) ρ) σ)→StepR fl P GL o ρ σ lg (λρ' σ' lg'=>hold (K ρ' σ')∧Zk (QF [o]) ρ ρ'∧((∃l,lg'=lg++[l]∧(isWr (clsOf o.k)=false→l.2=[])))):=by
   intro cs hb hne h;exact .lazy cs _ (.bool false) [] (by rw[hg]; exact hb) (Qm _) (λq=>(hne q).elim) ⟨h,Zk.put,_,rfl,λ_=>rfl⟩
  have rdcase:hold (A.gr (fget ρ s) w (λk=>A.rd (cstep o.k (o.xs.map (ev ρ)) σ) k) λv=>K (putF o.dst v ρ) σ)→StepR fl P GL o ρ σ lg (λρ' σ' lg'=>hold (K ρ' σ')∧Zk (QF [o]) ρ ρ'∧((∃l,lg'=lg++[l]∧(isWr (clsOf o.k)=false→l.2=[])))):=by
   intro h;obtain⟨cs,hb,⟨h0,h1⟩|⟨h0,h1⟩⟩:=Xab ok h
   ·obtain⟨v,rd,e,h⟩:=ok.rd h1;exact .run cs _ v rd [] σ (by rw[hg]; exact hb) h0 (Qm _) (YB e) (Yn σ) ⟨h,Zk.put,_,rfl,λ_=>rfl⟩
   ·exact skipcase cs hb h0 h1
  cases hc:clsOf o.k with
  |mv=>simp only[hc] at h rdcase; exact rdcase h
  |pu=>simp only[hc] at h rdcase; exact rdcase h
  |rd=>simp only[hc] at h rdcase; exact rdcase h
  |wr=>
   simp only[hc] at h skipcase;obtain⟨cs,hb,⟨h0,h1⟩|⟨h0,h1⟩⟩:=Xab ok h
   ·obtain⟨v,rd,up,σ',e,e2,h⟩:=ok.wr h1;exact .run cs _ v rd up σ' (by rw[hg]; exact hb) h0 (Qm _) (YB e) e2 ⟨h,Zk.put,_,rfl,λq=>by simp[isWr] at q⟩
   ·exact skipcase cs hb h0 h1
  |call=>
   simp only[hc] at h skipcase;obtain⟨cs,hb,⟨h0,h1⟩|⟨h0,h1⟩⟩:=Xab ok h
   ·obtain⟨R,hR,hk⟩:=ok.call h1;refine .rel cs _ R ?_ (by rw[hg]; exact hb) h0 (Qm _) hR (λv σ' hv=>⟨hk v σ' hv,Zk.put,_,rfl,λq=>by simp[isWr] at q⟩);cases fl with
    |false=>rfl
    |true=>have:=hfl rfl; simp[hc,isWr] at this
   ·exact skipcase cs hb h0 h1
theorem AwpR.mono{fl:Bool}:∀ {ms:List MOper} {ρ:Frame} {σ:List ABlk} {lg:Log} {K K':Frame→List ABlk→Log→Prop},(∀ρ σ lg,K ρ σ lg→K' ρ σ lg)→AwpR fl P GL ms ρ σ lg K→AwpR fl P GL ms ρ σ lg K'
 |[],_,_,_,_,_,h,k=>h _ _ _ k
 |_::_,_,_,_,_,_,h,k=>StepR.mono (λ_ _ _ q=>AwpR.mono h q) k
def allRd(lg:Log):Prop:=∀l∈lg,l.2=[]
theorem Yah(ok:AnsOk P GL A hold){fl:Bool}:∀ {ms:List MOper} {ρ:Frame} {σ:List ABlk} {lg:Log} {K:Frame→List ABlk→α},(fl=true→noWr ms=true)→hold (dnOps A ms ρ σ K) →
  AwpR fl P GL ms ρ σ lg (λρ' σ' lg'=>hold (K ρ' σ')∧Zk (QF ms) ρ ρ'∧(noWr ms=true→allRd lg→allRd lg'))
 |[],ρ,σ,lg,K,_,h=>⟨h,Zk.refl _ _,λ_ q=>q⟩
 |o::r,ρ,σ,lg,K,hfl,h=>by
  unfold dnOps at h;have hfl1:fl=true→isWr (clsOf o.k)=false:=λe=>by have:=hfl e; simp[noWr] at this; exact this.1
  have hfl2:fl=true→noWr r=true:=λe=>by have:=hfl e; simp[noWr] at this; exact this.2
  refine StepR.mono (λρ' σ' lg'=>?_) (YbM ok (lg:=lg) hfl1 h);rintro⟨k1,k2,l,hl,k3⟩;refine AwpR.mono (λρ'' σ'' lg''=>?_) (Yah ok hfl2 k1);rintro⟨q1,q2,q3⟩;refine⟨q1,by rw[YaH]; exact k2.trans q2,λhn hlg=>?_⟩;simp only[noWr,Bool.and_eq_true,Bool.not_eq_true'] at hn;refine q3 hn.2 ?_;rw[hl];intro x hx;simp only[List.mem_append,List.mem_singleton] at hx;rcases hx with hx|hx
  ·exact hlg x hx
  ·rw[hx]; exact k3 hn.1
theorem Ybs(ok:AnsOk P GL A hold){o:MOper}{ρ:Frame}{σ:List ABlk}{lg:Log}{K:Frame→List ABlk→Log→α}(h:hold (dnOpD A o ρ σ lg K)) :
  StepR true P GL o ρ σ lg (λρ' σ' lg'=>hold (K ρ' σ' lg')∧Zk (QF [o]) ρ ρ'):=by
 unfold dnOpD at h;cases hg:o.guard with
 |none=>
  simp only[hg] at h;have gi:GuardIs ρ o.guard []:=by rw[hg]; exact .none
  have hh:Hold []:=by simp[Hold]
  have drcase:hold (A.dr (cstep o.k (o.xs.map (ev ρ)) σ) σ λv l σ=>K (putF o.dst v ρ) σ (lg++[l]))→StepR true P GL o ρ σ lg (λρ' σ' lg'=>hold (K ρ' σ' lg')∧Zk (QF [o]) ρ ρ'):=by
   intro h;obtain⟨v,rd,up,σ',e,e2,h⟩:=ok.dr h;exact .run [] _ v rd up σ' gi hh (Qm _) (YB e) e2 ⟨h,Zk.put⟩
  cases hc:clsOf o.k with
  |mv=>
   simp only[hc] at h;split at h
   ·rename_i x hx;have hk:o.k=.mv:=by
     revert hc; unfold clsOf; split<;>simp_all
    refine .run [] [ev ρ x] (ev ρ x) [] [] σ gi hh (by rw[hx]; exact Qm _) (by rw[hk]; exact Qcl _ _) (Yn σ) ⟨h,Zk.put⟩
   ·exact(ok.stop h).elim
  |pu=>
   simp only[hc] at h;obtain⟨v,e,h⟩:=ok.pu h;exact .run [] _ v [] [] σ gi hh (Qm _) (YB e) (Yn σ) ⟨h,Zk.put⟩
  |rd=>simp only[hc] at h; exact drcase h
  |wr=>simp only[hc] at h; exact drcase h
  |call=>
   simp only[hc] at h;obtain⟨v,rd,up,σ',e,e2,h⟩:=ok.dcall h;exact .run [] _ v rd up σ' gi hh (Qm _) e e2 ⟨h,Zk.put⟩
 |some p=>
  obtain⟨s,w⟩:=p;simp only[hg] at h;have skipcase:∀cs,GuardIs ρ (some (s,w)) cs→¬Hold cs→hold (K (putF o.dst (udf cs) ρ) σ (lg++[([],[])]))→StepR true P GL o ρ σ lg (λρ' σ' lg'=>hold (K ρ' σ' lg')∧Zk (QF [o]) ρ ρ'):=by
   intro cs hb hne h;exact .lazy cs _ (.bool false) [] (by rw[hg]; exact hb) (Qm _) (λq=>(hne q).elim) ⟨h,Zk.put⟩
  have pucase:hold (A.gr (fget ρ s) w (λk=>A.pu (cstep o.k (o.xs.map (ev ρ)) σ) k) λv=>K (putF o.dst v ρ) σ (lg++[([],[])]))→StepR true P GL o ρ σ lg (λρ' σ' lg'=>hold (K ρ' σ' lg')∧Zk (QF [o]) ρ ρ'):=by
   intro h;obtain⟨cs,hb,⟨h0,h1⟩|⟨h0,h1⟩⟩:=Xab ok h
   ·obtain⟨v,e,h⟩:=ok.pu h1;exact .run cs _ v [] [] σ (by rw[hg]; exact hb) h0 (Qm _) (YB e) (Yn σ) ⟨h,Zk.put⟩
   ·exact skipcase cs hb h0 h1
  have drcase:hold (A.gl (fget ρ s) w (λk=>A.dr (cstep o.k (o.xs.map (ev ρ)) σ) σ k) σ λv l σ=>K (putF o.dst v ρ) σ (lg++[l]))→StepR true P GL o ρ σ lg (λρ' σ' lg'=>hold (K ρ' σ' lg')∧Zk (QF [o]) ρ ρ'):=by
   intro h;obtain⟨cs,hb,⟨h0,h1⟩|⟨h0,h1⟩⟩:=Xab ok h
   ·obtain⟨v,rd,up,σ',e,e2,h⟩:=ok.dr h1;exact .run cs _ v rd up σ' (by rw[hg]; exact hb) h0 (Qm _) (YB e) e2 ⟨h,Zk.put⟩
   ·exact skipcase cs hb h0 h1
  cases hc:clsOf o.k with
  |mv=>simp only[hc] at h; exact pucase h
  |pu=>simp only[hc] at h; exact pucase h
  |rd=>simp only[hc] at h; exact drcase h
  |wr=>simp only[hc] at h; exact drcase h
  |call=>
   simp only[hc] at h;obtain⟨cs,hb,⟨h0,h1⟩|⟨h0,h1⟩⟩:=Xab ok h
   ·obtain⟨v,rd,up,σ',e,e2,h⟩:=ok.dcall h1;exact .run cs _ v rd up σ' (by rw[hg]; exact hb) h0 (Qm _) e e2 ⟨h,Zk.put⟩
   ·exact skipcase cs hb h0 h1
theorem Qav(ok:AnsOk P GL A hold):∀ {ms:List MOper} {ρ:Frame} {σ:List ABlk} {lg:Log} {K:Frame→List ABlk→Log→α},hold (YbB A ms ρ σ lg K) →
  AwpR true P GL ms ρ σ lg (λρ' σ' lg'=>hold (K ρ' σ' lg')∧Zk (QF ms) ρ ρ')
 |[],ρ,σ,lg,K,h=>⟨h,Zk.refl _ _⟩
 |o::r,ρ,σ,lg,K,h=>by
  unfold YbB at h;refine StepR.mono (λρ' σ' lg'=>?_) (Ybs ok h);rintro⟨k1,k2⟩;refine AwpR.mono (λρ'' σ'' lg''=>?_) (Qav ok k1);rintro⟨q1,q2⟩;exact⟨q1,by rw[YaH]; exact k2.trans q2⟩
theorem ZbB:∀a:List Nat,disj a []=true
 |[]=>rfl
 |x::a=>by simp[disj,ZbB a]
theorem XZ{hd:List (List Nat)}{lg:Log}(h:allRd lg):Qe hd lg=true:=by
 have one:∀(h':List Nat) (q:List Nat×List Nat),q.2=[]→∀(l:Log) (i:Nat),allRd l→QA h' q i l=true:=by
  intro h' q hq l
  induction l with
  |nil=>intro i _; rfl
  |cons p r ih=>
   intro i hl;have hp:p.2=[]:=hl p (by simp);simp[QA,apart2,hq,hp,disj,ZbB,ih (i+1) (λx hx=>hl x (by simp[hx]))]
 unfold Qe;rw[List.all_eq_true];intro j _;refine one _ _ ?_ _ _ (λx hx=>h x (List.mem_of_mem_take hx));unfold Z3;cases hj:lg[j]? with
 |none=>rfl
 |some p=>exact h p (List.mem_of_getElem? hj)
theorem XaL{x:Nat}:∀ {l:List Nat},inL x l=true↔x∈l
 |[]=>by simp[inL]
 |y::l=>by simp[inL,XaL (l:=l)]
theorem Qa7:∀ {l b:List Nat},subL l b=true→∀x∈l,x∈b
 |[],_,_,x,h=>by simp at h
 |y::l,b,h,x,hx=>by
  simp only[subL,Bool.and_eq_true] at h;simp only[List.mem_cons] at hx;rcases hx with rfl|hx
  ·exact XaL.1 h.1
  ·exact Qa7 h.2 x hx
theorem Xaa(l:List Nat)(s:Nat):∀ρ:Frame,fget (dropF l ρ) s=if s∈l then .junk else fget ρ s
 |[]=>by simp[dropF,fget]
 |(k,v)::r=>by
  unfold dropF;cases hk:inL k l with
  |true=>
   have hm:=XaL.1 hk;simp only;rw[Xaa l s r];by_cases hs:s∈l
   ·simp[hs]
   ·have:s≠k:=by rintro rfl; exact hs hm
    rw[if_neg hs,if_neg hs,QE,if_neg this]
  |false=>
   have hm:k∉l:=λe=>by rw[XaL.2 e] at hk; cases hk
   simp only;rw[QE,QE,Xaa l s r];by_cases hs:s=k
   ·subst hs; simp[hm]
   ·simp[hs]
theorem Zan{s:Nat}:∀ {lv:List Nat} {vs:List AVal} {ρ:Frame},s∉lv→fget (zipF lv vs ρ) s=fget ρ s
 |[],_,_,_=>rfl
 |k::ks,vs,ρ,h=>by
  simp only[List.mem_cons,not_or] at h;simp only[zipF];rw[QE,if_neg h.1,Zan h.2]
theorem Zby{lv:List Nat}{l:List Nat}{ρ ρ1:Frame}(hl:∀x∈lv,x∈l)(h:Zk l ρ ρ1):FLe (zipF lv (getF ρ1 lv) (dropF l ρ)) ρ1:=by
 have key:∀(ks:List Nat) (ρ0:Frame),FLe ρ0 ρ1→FLe (zipF ks (getF ρ1 ks) ρ0) ρ1:=by
  intro ks
  induction ks with
  |nil=>intro ρ0 h; exact h
  |cons k ks ih=>
   intro ρ0 h t;simp only[zipF,getF,hdV,tlV];rw[QE];by_cases e:t=k
   ·subst e; rw[if_pos rfl]; exact .inl rfl
   ·rw[if_neg e]; exact ih ρ0 h t
 refine key lv _ (λt=>?_);rw[Xaa];by_cases ht:t∈l
 ·rw[if_pos ht]; exact .inr rfl
 ·rw[if_neg ht]; exact .inl (h t ht).symm
theorem Qbo{lv l:List Nat}{vs:List AVal}{ρ:Frame}(hl:∀x∈lv,x∈l):Zk l ρ (zipF lv vs (dropF l ρ)):=by
 intro s hs;rw[Zan (λe=>hs (hl s e)),Xaa,if_neg hs]
theorem Xa1{n:Nat}{m:MCode}{ρ:Frame}{σ:List ABlk}{Q:APost}(h:Awp P GL n m ρ σ (λe ρ1 σ1=>∃ρ2,FLe ρ2 ρ1∧Q e ρ2 σ1)):Awp P GL n m ρ σ Q:=by
 intro c hc w0 L g a w r d;refine wp_mono (h c hc w0 L g a w r d) (λe a' w' hl=>?_);cases e with
 |normal=>obtain⟨g',ρ',σ',k1,k2,k3,ρ2,k4,k5⟩:=hl; exact⟨g',ρ2,σ',k1,k2,k3.weak k4,k5⟩
 |exit id=>obtain⟨g',ρ',σ',k1,k2,k3,ρ2,k4,k5⟩:=hl; exact⟨g',ρ2,σ',k1,k2,k3.weak k4,k5⟩
 |ret=>obtain⟨g',ρ',σ',k1,k2,k3,ρ2,k4,k5⟩:=hl; exact⟨g',ρ2,σ',k1,k2,k3.weak k4,k5⟩
 |_=>exact hl.elim
theorem FLe.refl(ρ:Frame):FLe ρ ρ:=λ_=>.inl rfl
theorem QN(hP:P.follows .mixedOrders=true)(ok:AnsOk P GL A hold){n:Nat}:∀(m:DCode) {ρ:Frame} {σ:List ABlk} {K:Frame→List ABlk→α} {E:Nat→Frame→List ABlk→α} {R:Frame→List ABlk→α} {Q:APost},m.ok=true →
  (∀ρ' σ',Zk m.asg ρ ρ'→hold (K ρ' σ')→Q .normal ρ' σ')→(∀i ρ' σ',Zk m.asg ρ ρ'→hold (E i ρ' σ')→Q (.exit i) ρ' σ')→(∀ρ' σ',Zk m.asg ρ ρ'→hold (R ρ' σ')→Q .ret ρ' σ') →
  hold (dn A m ρ σ K E R)→Awp P GL n m.er ρ σ Q
 |.skip,_,_,_,_,_,_,_,hK,_,_,h=>Ycu (hK _ _ (Zk.refl _ _) h)
 |.label _,_,_,_,_,_,_,_,hK,_,_,h=>YbV (hK _ _ (Zk.refl _ _) h)
 |.exit id,_,_,_,_,_,_,_,_,hE,_,h=>Zcu (hE _ _ _ (Zk.refl _ _) h)
 |.ret,_,_,_,_,_,_,_,_,_,hR,h=>XcL (hR _ _ (Zk.refl _ _) h)
 |.scope a,_,_,_,_,_,_,hm,hK,hE,hR,h=>XbV (QN hP ok a hm hK hE hR h)
 |.region id ms none,ρ,σ,K,E,R,Q,_,hK,_,_,h=>by
  refine ZbK (AwpR.mono (λρ' σ' lg'=>?_) (Yah ok (fl:=false) (λe=>by cases e) h));rintro⟨k1,k2,_⟩;exact hK _ _ k2 k1
 |.region id ms (some hd),ρ,σ,K,E,R,Q,_,hK,_,_,h=>by
  unfold dn at h;cases hn:noWr ms with
  |true=>
   simp only[hn] at h;refine Ybz hP (AwpR.mono (λρ' σ' lg'=>?_) (Yah ok (fl:=true) (λ_=>hn) h));rintro⟨k1,k2,k3⟩;exact⟨XZ (k3 hn (λ_ q=>by simp at q)),hK _ _ k2 k1⟩
  |false=>
   simp only[hn] at h;refine Ybz hP (AwpR.mono (λρ' σ' lg'=>?_) (Qav ok h));rintro⟨k1,k2⟩;obtain⟨q1,q2⟩:=ok.gd k1;exact⟨q1,hK _ _ k2 q2⟩
 |.seq a b,ρ,σ,K,E,R,Q,hm,hK,hE,hR,h=>by
  simp only[DCode.ok,Bool.and_eq_true] at hm;refine QcL (QN hP ok a hm.1 (Q:=APost.andThen (λρ σ=>Awp P GL n b.er ρ σ Q) Q) (λρ' σ' hs hk=>?_) (λi ρ' σ' hs hk=>?_) (λρ' σ' hs hk=>?_) h)
  ·exact QN hP ok b hm.2 (λρ2 σ2 hs2=>hK _ _ (hs.trans hs2)) (λi ρ2 σ2 hs2=>hE _ _ _ (hs.trans hs2)) (λρ2 σ2 hs2=>hR _ _ (hs.trans hs2)) hk
  ·exact hE i ρ' σ' (hs.mono (λx hx=>by simp[DCode.asg,hx])) hk
  ·exact hR ρ' σ' (hs.mono (λx hx=>by simp[DCode.asg,hx])) hk
 |.cond c a b,ρ,σ,K,E,R,Q,hm,hK,hE,hR,h=>by
  simp only[DCode.ok,Bool.and_eq_true] at hm;unfold dn at h;obtain⟨v,hv,h1,h2⟩:=ok.test h;have m1:∀ρ',Zk a.asg ρ ρ'→Zk (DCode.cond c a b).asg ρ ρ':=λρ' q=>q.mono (λx hx=>by simp[DCode.asg,hx]);have m2:∀ρ',Zk b.asg ρ ρ'→Zk (DCode.cond c a b).asg ρ ρ':=λρ' q=>q.mono (λx hx=>by simp[DCode.asg,hx]);refine Qct hv (λe=>?_) (λe=>?_)
  ·exact QN hP ok a hm.1 (λρ2 σ2 q=>hK _ _ (m1 _ q)) (λi ρ2 σ2 q=>hE _ _ _ (m1 _ q)) (λρ2 σ2 q=>hR _ _ (m1 _ q)) (h1 e)
  ·exact QN hP ok b hm.2 (λρ2 σ2 q=>hK _ _ (m2 _ q)) (λi ρ2 σ2 q=>hE _ _ _ (m2 _ q)) (λρ2 σ2 q=>hR _ _ (m2 _ q)) (h2 e)
 |.join lv a,ρ,σ,K,E,R,Q,hm,hK,hE,hR,h=>by
  simp only[DCode.ok,Bool.and_eq_true] at hm;have hlv:=Qa7 hm.1;refine Xa1 (QN hP ok a hm.2 (K:=λρ' σ=>K (zipF lv (getF ρ' lv) (dropF a.asg ρ)) σ) (E:=E) (R:=R) (λρ' σ' hs hk=>?_) (λi ρ' σ' hs hk=>⟨ρ',FLe.refl _,hE i ρ' σ' hs hk⟩) (λρ' σ' hs hk=>⟨ρ',FLe.refl _,hR ρ' σ' hs hk⟩) h);exact⟨_,Zby hlv hs,hK _ _ (Qbo hlv) hk⟩
 |.block id a,ρ,σ,K,E,R,Q,hm,hK,hE,hR,h=>by
  refine ZbV (QN hP ok a hm (Q:=APost.inBlock id Q) hK (λi ρ' σ' hs hk=>?_) hR h);show (if i=id then Q .normal ρ' σ' else Q (.exit i) ρ' σ');by_cases hi:i=id
  ·subst hi;rw[if_pos rfl];have hb:Nat.beq i i=true:=Nat.beq_refl i;simp only[hb] at hk;exact hK _ _ hs hk
  ·rw[if_neg hi];have hb:Nat.beq i id=false:=by
    cases hb:Nat.beq i id with
    |true=>exact(hi (YNB hb)).elim
    |false=>rfl
   simp only[hb] at hk;exact hE _ _ _ hs hk
 |.loop lv a,ρ,σ,K,E,R,Q,hm,hK,hE,hR,h=>by
  simp only[DCode.ok,Bool.and_eq_true] at hm;have hlv:=Qa7 hm.1;unfold dn at h;obtain⟨k,hk⟩:=ok.loop h;have key:∀(k:Nat) (vs:List AVal) (σ:List ABlk) (ρ1:Frame),FLe (zipF lv vs (dropF a.asg ρ)) ρ1 →
    hold (iterA A.stop k (λagain vs σ=>dn A a (zipF lv vs (dropF a.asg ρ)) σ (λρ' σ=>again (getF ρ' lv) σ) E R) vs σ)→Awp P GL n (.loop a.er) ρ1 σ Q:=by
   intro k
   induction k with
   |zero=>intro vs σ ρ1 _ hk; exact(ok.stop hk).elim
   |succ k ih=>
    intro vs σ ρ1 hle hk;have hz:Zk a.asg ρ (zipF lv vs (dropF a.asg ρ)):=Qbo hlv;have hz2:∀ρ',Zk a.asg (zipF lv vs (dropF a.asg ρ)) ρ'→Zk a.asg ρ ρ':=λρ' q=>(hz.trans q).mono (λx hx=>by simpa using hx);refine Xcu hle (YbK (QN hP ok a hm.2 (Q:=APost.andThen (λρ σ=>Awp P GL n (.loop a.er) ρ σ Q) Q) (λρ' σ' hs hk=>?_) (λi ρ' σ' hs hk=>?_) (λρ' σ' hs hk=>?_) hk))
    ·exact ih _ _ ρ' (Zby hlv (hz2 _ hs)) hk
    ·exact hE i ρ' σ' (hz2 _ hs) hk
    ·exact hR ρ' σ' (hz2 _ hs) hk
  exact key k _ σ ρ (Zby hlv (Zk.refl _ _)) hk
theorem YU(ok:AnsOk P GL A hold):∀ {rs:List RV} {ρ:Frame} {σ:List ABlk} {K:List AVal→α},hold (YaV A rs ρ σ K)→∃vs,retL ρ σ rs=some vs∧hold (K vs)
 |[],_,_,_,h=>⟨[],rfl,h⟩
 |.t n::r,ρ,σ,K,h=>by
  obtain⟨vs,h1,h2⟩:=YU ok (rs:=r) h;exact⟨fget ρ n::vs,by simp[retL,ret1,h1],h2⟩
 |.c s agg n::r,ρ,σ,K,h=>by
  unfold YaV at h;obtain⟨v,hv,h⟩:=ok.opt h;obtain⟨vs,h1,h2⟩:=YU ok (rs:=r) h;have hv':ret1 ρ σ (.c s agg n)=some v:=by
   unfold cellV at hv;unfold ret1;exact hv
  exact⟨v::vs,by simp[retL,hv',h1],h2⟩
theorem ZbM(hP:P.follows .mixedOrders=true)(ok:AnsOk P GL A hold){D:DFn}(hD:D.body.ok=true){xs:List AVal}{σ:List ABlk}{ret:AVal→List ABlk→α}(h:hold (dnFn A D xs σ ret)) :
  Awp P GL D.n D.body.er (frame0 xs) σ (λe ρ σ'=>(e=.normal∨e=.ret)∧∃v,retV D.rets ρ σ'=some v∧hold (ret v σ')):=by
 refine QN hP ok D.body hD (λρ' σ' _ hk=>?_) (λi ρ' σ' _ hk=>(ok.stop hk).elim) (λρ' σ' _ hk=>?_) h
 ·obtain⟨vs,h1,h2⟩:=YU ok hk;exact⟨.inl rfl,_,by simp[retV,h1],h2⟩
 ·obtain⟨vs,h1,h2⟩:=YU ok hk;exact⟨.inr rfl,_,by simp[retV,h1],h2⟩
end
end
end Go.Ah
end
section
namespace Go.Ah
abbrev GFun:=∀ {α:Type},Ans α→List AVal→List ABlk→(AVal→List ABlk→α)→α
structure GOk (P:Program) (GL:Globs) (f:FuncId) (np:Nat) (g:GFun):Prop where
 plain:Zj P f=true
 ex:∃D:DFn,D.np=np∧FnOk P GL f D.fn∧D.body.ok=true∧∀(α:Type) (A:Ans α) (xs:List AVal) (σ:List ABlk) (ret:AVal→List ABlk→α),xs.length=np→g A xs σ ret=dnFn A D xs σ ret
def annot:MCode→List (Option (List Nat))→DCode×List (Option (List Nat))
 |.skip,l=>(.skip,l)
 |.region id ms hd,l=>(.region id ms hd,l)
 |.seq a b,l=>match annot a l with
  |(a',l)=>match annot b l with
   |(b',l)=>(.seq a' b',l)
 |.cond c a b,l=>match annot a l.tail with
  |(a',l2)=>match annot b l2 with
   |(b',l3)=>match l with
    |some lv::_=>(.join lv (.cond c a' b'),l3)
    |_=>(.cond c a' b',l3)
 |.block id a,l=>match annot a l.tail with
  |(a',l2)=>match l with
   |some lv::_=>(.join lv (.block id a'),l2)
   |_=>(.block id a',l2)
 |.loop a,l=>match annot a l.tail with
  |(a',l2)=>match l with
   |some lv::_=>(.loop lv a',l2)
   |_=>(.loop [] a',l2)
 |.exit id,l=>(.exit id,l)
 |.scope a,l=>match annot a l with
  |(a',l)=>(.scope a',l)
 |.label n,l=>(.label n,l)
 |.ret,l=>(.ret,l)
theorem XT:∀(m:MCode) (l:List (Option (List Nat))),(annot m l).1.er=m
 |.skip,_=>rfl
 |.region ..,_=>rfl
 |.seq a b,l=>by simp only[annot,DCode.er,XT a,XT b]
 |.cond c a b,l=>by
  simp only[annot];split<;>simp only[DCode.er,XT a,XT b]
 |.block id a,l=>by
  simp only[annot];split<;>simp only[DCode.er,XT a]
 |.loop a,l=>by
  simp only[annot];split<;>simp only[DCode.er,XT a]
 |.exit _,_=>rfl
 |.scope a,l=>by simp only[annot,DCode.er,XT a]
 |.label _,_=>rfl
 |.ret,_=>rfl
def compD(P:Program)(GL:Globs)(np:Nat)(f:FuncId)(l:List (Option (List Nat))):Option DFn:=match Zb0 P GL np f with
 |some F=>bif (annot F.body l).1.ok&&(Zj P f&&Nat.beq F.np np) then some ⟨np,F.n,(annot F.body l).1,F.rets⟩ else none
 |none=>none
theorem Xc3{P:Program}{GL:Globs}{np:Nat}{f:FuncId}{l:List (Option (List Nat))}{g:GFun}{D:DFn}(hD:compD P GL np f l=some D)(h:∀(α:Type) (A:Ans α) (xs:List AVal) (σ:List ABlk) (ret:AVal→List ABlk→α),xs.length=np→g A xs σ ret=dnFn A D xs σ ret):GOk P GL f np g:=by
 unfold compD at hD;split at hD
 ·rename_i F hF;obtain⟨hb,hD⟩:=Qv hD;simp only[Bool.and_eq_true] at hb;cases hD;have hnp:=YNB hb.2.2;refine⟨hb.2.1,_,rfl,?_,hb.1,h⟩;have hfn:DFn.fn ⟨np,F.n,(annot F.body l).1,F.rets⟩=F:=by
   cases F;simp only at hnp;simp only[DFn.fn,XT,hnp]
  rw[hfn];exact Yb0 hF
 ·cases hD
end Go.Ah
end
section
namespace Go.Ah
def W(P:Program)(GL:Globs):Ans Prop where
 stop:=False
 call k xs σ K:=∃R,OpRel P GL k xs σ R∧∀v σ',R v σ'→K v σ'
 dcall k xs σ K:=∃v rd up σ',OpSem P GL k xs (hp σ) v rd up∧upL σ up=some σ'∧K v (rd,up.map (·.1)) σ'
 test v a b:=match v with
  |.bool c=>(c=true→a)∧(c=false→b)
  |_=>False
 loop F vs σ:=∃n,iterA False n F vs σ
theorem QcW(P:Program)(GL:Globs):AnsOk P GL (W P GL) (λp=>p) where
 stop:=λh=>h
 call:=λh=>h
 dcall:=λh=>h
 test:=λ{v a b} h=>by
  simp only[W] at h;split at h
  ·exact⟨_,rfl,h⟩
  ·exact h.elim
 loop:=λh=>h
section
variable {P:Program} {GL:Globs}
theorem GOk.awp(hP:P.follows .mixedOrders=true){α:Type}{A:Ans α}{hold:α→Prop}(ok:AnsOk P GL A hold){f:FuncId}{np:Nat}{g:GFun}(hg:GOk P GL f np g){xs:List AVal}(hn:xs.length=np){σ:List ABlk}{ret:AVal→List ABlk→α}(h:hold (g A xs σ ret)) :
  ∃F,FnOk P GL f F∧F.np=np∧Awp P GL F.n F.body (frame0 xs) σ (λe ρ σ'=>(e=.normal∨e=.ret)∧∃v,retV F.rets ρ σ'=some v∧hold (ret v σ')):=by
 obtain⟨D,h1,h2,h3,h4⟩:=hg.ex;rw[h4 α A xs σ ret hn] at h;exact⟨D.fn,h2,h1,ZbM hP ok h3 h⟩
theorem Ze(hP:P.follows .mixedOrders=true){f:FuncId}{np:Nat}{g:GFun}(hg:GOk P GL f np g){xs:List AVal}(hn:xs.length=np){v:AVal}(hv:v.ro=true)(h:g (W P GL) xs [] (λv' _=>v'=v)):PCall P GL f xs v:=by
 obtain⟨F,h1,h2,h3⟩:=hg.awp hP (QcW P GL) hn h;refine Qay h1 (hn.trans h2.symm) hv (h3.mono λe ρ σ k=>?_);obtain⟨k1,v',k2,rfl⟩:=k;exact⟨k1,k2⟩
theorem QbO(hP:P.follows .mixedOrders=true){f:FuncId}{np:Nat}{g:GFun}(hg:GOk P GL f np g){xs:List AVal}(hn:xs.length=np){v:AVal}{bs:List ABlk}(h:g (W P GL) xs [] (λv' σ=>v'=v∧σ=bs)):NCall P GL f xs v bs:=by
 obtain⟨F,h1,h2,h3⟩:=hg.awp hP (QcW P GL) hn h;refine Qax h1 (hn.trans h2.symm) (h3.mono λe ρ σ k=>?_);obtain⟨k1,v',k2,rfl,rfl⟩:=k;exact⟨k1,k2,rfl⟩
def frz(σ:List ABlk)(v:AVal):Option AVal:=match v with
 |.tup vs=>match Xt σ 1000 vs with
  |some (ys,_)=>some (.tup ys)
  |none=>none
 |v=>match Xt σ 1000 [v] with
  |some ([y],_)=>some y
  |_=>none
theorem YcQ{σ:List ABlk}{v y:AVal}(hy:frz σ v=some y){w0:World}{L:Ln}{g:Gm}{w:World}{M2:Nat→Option Obj}(r:Rep GL w0 L g (hp σ) w)(cov:Cov g (hp σ) w M2){u:Value}(hd:g.den v u):Den M2 noOwn y u:=by
 unfold frz at hy;split at hy
 ·rename_i vs;split at hy
  ·rename_i ys rd hb;cases hy;have hbor:=YX _ _ _ _ hb rd (λ_ q=>q);cases hd with
   |tup _ _ us hs hd=>
    have hd2:=hbor GL w0 L g (hp σ) w M2 r cov (λ_ _=>rfl) us.toList (DenL.of_get (by simp[hs]) (λi x v e1 e2=>hd i x v e1 (by simpa using e2)));exact .tup _ _ _ (by have:=hd2.length; simpa using this.symm) (λi x v e1 e2=>hd2.get i x v e1 (by simpa using e2))
  ·cases hy
 ·split at hy
  ·rename_i y' rd hb;cases hy;have hbor:=YX _ _ _ _ hb rd (λ_ q=>q);exact(hbor GL w0 L g (hp σ) w M2 r cov (λ_ _=>rfl) [u] ⟨hd,trivial⟩).1
  ·cases hy
theorem XW{f:FuncId}{xs:List AVal}{v y:AVal}{bs:List ABlk}(h:NCall P GL f xs v bs)(hy:frz bs v=some y):PCall P GL f xs y:=by
 intro w M vs hM hg hx;refine(h w M vs hM hg hx).mono ?_;rintro e w' ⟨u,he,g',hle,r,hd⟩
 let M2:Nat→Option Obj:=λb=>if b<w.heap.size then g'.M b else w'.heap[b]?
 have cov:Cov g' (hp bs) w' M2:=by
  refine⟨λb o e=>?_,λb blk cb o e1 e2 e3 e4 e5=>?_⟩
  ·show (if b<w.heap.size then g'.M b else w'.heap[b]?)=some o;split
   ·exact e
   ·exact r.stable b o e
  ·obtain⟨_,hin,_⟩:=r.own b blk cb e1 e2 e3 e4;show (if cb.blk<w.heap.size then g'.M cb.blk else w'.heap[cb.blk]?)=some o;rcases hin with hin|hin
   ·simp at hin
   ·rw[if_neg (by omega)]; exact e5
 have hd2:=YcQ hy r cov hd;refine⟨u,he,r.keeps,M2,λb o e=>cov.1 b o (hle b o e),λb o e=>?_,λb o e=>?_,hd2⟩
 ·have e':(if b<w.heap.size then g'.M b else w'.heap[b]?)=some o:=e;split at e'
  ·exact r.stable b o e'
  ·exact e'
 ·have e':(if b<w.heap.size then g'.M b else w'.heap[b]?)=some o:=e;split at e'
  ·rcases r.src b o e' with q|q|q
   ·exact .inl q
   ·exact .inr q
   ·simp at q
  ·exact .inr (by omega)
theorem Zch(hP:P.follows .mixedOrders=true){f:FuncId}{np:Nat}{g:GFun}(hg:GOk P GL f np g){xs:List AVal}(hn:xs.length=np){y:AVal}(h:∃v bs,frz bs v=some y∧g (W P GL) xs [] (λv' σ=>v'=v∧σ=bs)):PCall P GL f xs y:=by
 obtain⟨v,bs,h1,h2⟩:=h;exact XW (QbO hP hg hn h2) h1
theorem Xay{k:MK}{xs:List AVal}{σ σ':List ABlk}{v:AVal}{rd:List Nat}{up:List (Nat×ABlk)}(h:OpSem P GL k xs (hp σ) v rd up)(hu:upL σ up=some σ'):OpRel P GL k xs σ (λv' s=>v'=v∧s=σ'):=by
 intro o os hc w0 L g w a r hx;have:=h o os hc w0 L g (hp σ) w a r hx (λ_ _=>rfl) (λ_ _=>rfl);rw[Yaq _ _ _ hu] at this;generalize (execOp a.eval o).run P w=res at this;cases res with
 |ok nx w'=>
  cases nx with
  |value u=>obtain⟨g',k1,k2,k3⟩:=this; exact⟨g',v,σ',⟨rfl,rfl⟩,k1,k2,k3⟩
  |skip=>obtain⟨g',k1,k2,k3⟩:=this; exact⟨g',σ',⟨k3.symm,rfl⟩,k1,k2⟩
  |enter f args=>
   refine Calls.mono this ?_;rintro e w'' ⟨u,he,g',k1,k2,k3⟩;exact⟨u,he,g',v,σ',⟨rfl,rfl⟩,k1,k2,k3⟩
  |_=>exact this.elim
 |_=>exact this.elim
theorem XC{k:MK}{xs ys:List AVal}{f:FuncId}(hc:Qr k xs=some (f,ys))(hp':Zj P f=true){σ:List ABlk}{v:AVal}{rd:List Nat}{up:List (Nat×ABlk)}(h:ACall P GL f ys (hp σ) v rd up):OpSem P GL k xs (hp σ) v rd up:=by
 unfold Qr at hc;split at hc
 ·cases hc; exact YcD h
 ·cases hc; exact Xck hp' h
 ·cases hc
theorem ZN{k:MK}{xs ys:List AVal}{f:FuncId}(hc:Qr k xs=some (f,ys))(hp':Zj P f=true){σ σ':List ABlk}{v:AVal}{rd:List Nat}{up:List (Nat×ABlk)}(h:ACall P GL f ys (hp σ) v rd up)(hu:upL σ up=some σ'){K:AVal→List ABlk→Prop}(hK:K v σ'):(W P GL).call k xs σ K:=
 ⟨_,Xay (XC hc hp' h) hu,by rintro _ _ ⟨rfl,rfl⟩; exact hK⟩
theorem X3{k:MK}{xs ys:List AVal}{f:FuncId}(hc:Qr k xs=some (f,ys))(hp':Zj P f=true){σ σ':List ABlk}{v:AVal}{rd:List Nat}{up:List (Nat×ABlk)}(h:ACall P GL f ys (hp σ) v rd up)(hu:upL σ up=some σ'){K:AVal→List Nat×List Nat→List ABlk→Prop}(hK:K v (rd,up.map (·.1)) σ'):(W P GL).dcall k xs σ K:=
 ⟨v,rd,up,σ',XC hc hp' h,hu,hK⟩
theorem Yt(hP:P.follows .mixedOrders=true){k:MK}{xs ys:List AVal}{f:FuncId}(hc:Qr k xs=some (f,ys)){np:Nat}{g:GFun}(hg:GOk P GL f np g)(hn:ys.length=np){σ:List ABlk}{K:AVal→List ABlk→Prop}(h:g (W P GL) ys σ K):(W P GL).call k xs σ K:=by
 obtain⟨F,h1,h2,h3⟩:=hg.awp hP (QcW P GL) hn h;exact⟨K,QaZ hc hg.plain h1 (hn.trans h2.symm) h3,λ_ _ q=>q⟩
theorem Ye{k:MK}{xs ys:List AVal}{f:FuncId}{v:AVal}(h:PCall P GL f ys v)(hc:Qr k xs=some (f,ys))(hp':Zj P f=true)(hro:roL ys=true){σ:List ABlk}{K:AVal→List ABlk→Prop}(hK:K v σ):(W P GL).call k xs σ K:=
 ZN hc hp' (h.here hro (hp σ)) (Yn σ) hK
theorem Qp{k:MK}{xs ys:List AVal}{f:FuncId}{v:AVal}(h:PCall P GL f ys v)(hc:Qr k xs=some (f,ys))(hp':Zj P f=true)(hro:roL ys=true){σ:List ABlk}{K:AVal→List Nat×List Nat→List ABlk→Prop}(hK:K v ([],[]) σ):(W P GL).dcall k xs σ K:=
 X3 hc hp' (h.here hro (hp σ)) (Yn σ) hK
theorem XE{k:MK}{xs ys zs:List AVal}{f:FuncId}{v:AVal}{rd:List Nat}(h:PCall P GL f zs v){σ:List ABlk}(hc:Qr k xs=some (f,ys))(hp':Zj P f=true)(hb:Xt σ 1000 ys=some (zs,rd))(hv:v.flat=true){K:AVal→List ABlk→Prop}(hK:K v σ):(W P GL).call k xs σ K:=
 ZN hc hp' (h.lend (YX _ _ _ _ hb _ (λ_ q=>q)) hv) (Yn σ) hK
theorem Xo{ι:Type}(I:ι→List AVal→List ABlk→Prop)(μ:ι→Nat){F:(List AVal→List ABlk→Prop)→List AVal→List ABlk→Prop}(i0:ι){vs:List AVal}{σ:List ABlk}(h0:I i0 vs σ)
 (round:∀i vs σ again,I i vs σ→(∀j vs' σ',μ j<μ i→I j vs' σ'→again vs' σ')→F again vs σ):(W P GL).loop F vs σ:=by
 have key:∀(m:Nat) (i:ι) (vs:List AVal) (σ:List ABlk),μ i<m→I i vs σ→iterA False m F vs σ:=by
  intro m
  induction m with
  |zero=>intro i vs σ h; omega
  |succ m ih=>
   intro i vs σ h hI;exact round i vs σ _ hI (λj vs' σ' hlt hj=>ih j vs' σ' (by omega) hj)
 exact⟨_,key (μ i0+1) i0 vs σ (by omega) h0⟩
end
section
variable {P:Program} {GL:Globs}
theorem Xav(c:Bool)(a b:Prop):(W P GL).test (.bool c) a b=((c=true→a)∧(c=false→b)):=rfl
end
section
variable {α:Type} (A:Ans α)
theorem ZaB(v:AVal)(rd:List Nat)(K:AVal→α):A.rd (.ok v rd []) K=K v:=rfl
theorem pu_ok(v:AVal)(K:AVal→α):A.pu (.ok v [] []) K=K v:=rfl
theorem Xct(v:AVal)(rd:List Nat)(up:List (Nat×ABlk))(σ:List ABlk)(K:AVal→List ABlk→α):A.wr (.ok v rd up) σ K=A.opt (upL σ up) (K v):=by
 show (match upL σ up with|some σ'=>K v σ'|none=>A.stop)=_;unfold Ans.opt; cases upL σ up<;>rfl
theorem Yc0(v:AVal)(rd:List Nat)(up:List (Nat×ABlk))(σ:List ABlk)(K:AVal→List Nat×List Nat→List ABlk→α):A.dr (.ok v rd up) σ K=A.opt (upL σ up) (K v (rd,up.map (·.1))):=by
 show (match upL σ up with|some σ'=>K v _ σ'|none=>A.stop)=_;unfold Ans.opt; cases upL σ up<;>rfl
theorem ZaG{β:Type}(v:β)(K:β→α):A.opt (some v) K=K v:=rfl
theorem XcQ(k:α):A.gd true k=k:=rfl
end
theorem YQ{n:Nat}:∀ {a b:List Nat},Xv n (a++b)=true→Xv n a=true∧Xv n b=true
 |[],_,h=>⟨rfl,h⟩
 |x::a,b,h=>by
  simp only[List.cons_append,Xv,Bool.and_eq_true] at h;obtain⟨h1,h2⟩:=YQ h.2;exact⟨by simp[Xv,h.1,h1],h2⟩
def tstC{α:Type}(stop:α)(v:AVal)(a b:α):α:=match v with
 |.bool true=>a
 |.bool false=>b
 |_=>stop
abbrev CG:=FuncId→List AVal→List ABlk→Option (AVal×List ABlk)
def QbA(cg:CG)(f:FuncId)(ys:List AVal)(σ:List ABlk):Option (AVal × List ABlk):=bif Xv σ.length (idsL ys) then (match cg f (renL (ltM σ.length) ys) (YD σ) with
 | some (v,σ')=>(match ZT σ.length σ' with
  |some news=>some (v,news)
  | none=>none)
 | none=>none) else none
def Xb2(cg:CG)(k:MK)(xs:List AVal)(σ:List ABlk):SRes:=match Qr k xs with
 |none=>.stop
 | some (f,ys)=>bif roL ys then (match cg f ys [] with
   |some (v,bs)=>bif v.ro then .ok v [] [] else .ok (v.ren (Zy σ.length)) [] (Yv σ.length (Zu σ.length bs))
   | none=>.stop)
  else match QbA cg f ys σ with
  |some (v,news)=>bif v.ro then .ok (v.ren (keepM (idsL ys) σ.length 0)) (idsL ys) [] else .ok (v.ren (keepM (idsL ys) σ.length news.length)) (idsL ys) (Yv σ.length (news.map (ABlk.mapV (AVal.ren (keepM (idsL ys) σ.length news.length)))))
  |none=>match Xt σ 1000 ys with
   | some (zs,rd)=>(match cg f zs [] with
    |some (v,bs)=>bif v.flat&&v.ro then .ok v rd [] else bif v.nosh&&Zay bs then .ok (v.ren (Zy σ.length)) rd (Yv σ.length (Zu σ.length bs)) else .stop
    | none=>.stop)
   |none=>.stop
def Cl(much:Nat)(cg:CG):Ans (Option (AVal×List ABlk)) where
 stop:=none
 call k xs σ K:=match Qr k xs with
  |some (f,ys)=>match cg f ys σ with
   |some (v,σ')=>K v σ'
   |none=>none
  |none=>none
 dcall k xs σ K:=match Xb2 cg k xs σ with
  |.ok v rd up=>match upL σ up with
   |some σ'=>K v (rd,up.map (·.1)) σ'
   |none=>none
  |.stop=>none
 test:=tstC none
 loop F vs σ:=iterA none much F vs σ
section
variable {P:Program} {GL:Globs}
def CGOk(P:Program)(GL:Globs)(cg:CG):Prop:=∀f xs σ v σ',cg f xs σ=some (v,σ')→Zj P f=true∧(∀k ys,Qr k ys=some (f,xs)→OpRel P GL k ys σ (λv' s=>v'=v∧s=σ')) ∧
 (σ=[]→NCall P GL f xs v σ'∧(v.ro=true→PCall P GL f xs v)) ∧
 (roL xs=false→∃F,FnOk P GL f F∧F.np=xs.length∧Awp P GL F.n F.body (frame0 xs) σ (λe ρ s=>(e=.normal∨e=.ret)∧∃v',retV F.rets ρ s=some v'∧v'=v∧s=σ'))
theorem CGOk.ncall{cg:CG}(h:CGOk P GL cg){f:FuncId}{xs:List AVal}{v:AVal}{bs:List ABlk}(hc:cg f xs []=some (v,bs)):NCall P GL f xs v bs:=((h f xs [] v bs hc).2.2.1 rfl).1
theorem CGOk.pcall{cg:CG}(h:CGOk P GL cg){f:FuncId}{xs:List AVal}{v:AVal}{bs:List ABlk}(hc:cg f xs []=some (v,bs))(hv:v.ro=true):PCall P GL f xs v:=((h f xs [] v bs hc).2.2.1 rfl).2 hv
theorem QaI{f:FuncId}{xs:List AVal}{σ σ':List ABlk}{v:AVal}{F:MFn}(hp':Zj P f=true)(h1:FnOk P GL f F)(h2:F.np=xs.length)(h3:Awp P GL F.n F.body (frame0 xs) σ (λe ρ s=>(e=.normal∨e=.ret)∧∃v',retV F.rets ρ s=some v'∧v'=v∧s=σ')) :
  Zj P f=true∧(∀k ys,Qr k ys=some (f,xs)→OpRel P GL k ys σ (λv' s=>v'=v∧s=σ'))∧(σ=[]→NCall P GL f xs v σ'∧(v.ro=true→PCall P GL f xs v)) ∧
  (roL xs=false→∃F,FnOk P GL f F∧F.np=xs.length∧Awp P GL F.n F.body (frame0 xs) σ (λe ρ s=>(e=.normal∨e=.ret)∧∃v',retV F.rets ρ s=some v'∧v'=v∧s=σ')):=by
 refine⟨hp',λk ys hc=>QaZ hc hp' h1 h2.symm h3,λhσ=>?_,λ_=>⟨F,h1,h2,h3⟩⟩;subst hσ;refine⟨Qax h1 h2.symm (h3.mono λe ρ s k=>?_),λhv=>Qay h1 h2.symm hv (h3.mono λe ρ s k=>?_)⟩
 ·obtain⟨k1,v',k2,rfl,rfl⟩:=k;exact⟨k1,k2,rfl⟩
 ·obtain⟨k1,v',k2,rfl,rfl⟩:=k;exact⟨k1,k2⟩
mutual
theorem AVal.ro_ren_ltM {n:Nat}:∀ {x:AVal},Xv n x.ids=true→(x.ren (ltM n)).ro=true→x.ro=true
 |.bptr b j,h,k=>by
  simp only[AVal.ids,Xv,Bool.and_true] at h
  simp[AVal.ren,ltM,h,AVal.ro] at k
 |.ptr b i j,h,k=>by
  simp only[AVal.ids,Xv,Bool.and_true] at h
  simp[AVal.ren,ltM,h,AVal.ro] at k
 |.sl b o l e,h,k=>by
  simp only[AVal.ids,Xv,Bool.and_true] at h
  simp[AVal.ren,ltM,h,AVal.ro] at k
 |.map b,h,k=>by
  simp only[AVal.ids,Xv,Bool.and_true] at h
  simp[AVal.ren,ltM,h,AVal.ro] at k
 |.iter b,h,k=>by
  simp only[AVal.ids,Xv,Bool.and_true] at h
  simp[AVal.ren,ltM,h,AVal.ro] at k
 |.func fn xs ys,h,k=>by
  simp only[AVal.ids] at h
  obtain⟨a,b⟩:=YQ h
  simp only[AVal.ren,AVal.ro,Bool.and_eq_true] at k ⊢
  exact⟨YI a k.1,YI b k.2⟩
 |.iface t v,h,k=>AVal.ro_ren_ltM (x:=v) h k
 |.agg cs,h,k=>YI (xs:=cs) h k
 |.tup cs,h,k=>YI (xs:=cs) h k
 |.when cs x,h,k=>AVal.ro_ren_ltM (x:=x) h k
 |.junk,_,_=>rfl
 |.bool _,_,_=>rfl
 |.int _ _,_,_=>rfl
 |.str _,_,_=>rfl
 |.nilp,_,_=>rfl
 |.rptr _ _,_,_=>rfl
 |.nils,_,_=>rfl
 |.cap0,_,_=>rfl
 |.rsl _ _ _ _,_,_=>rfl
 |.rmap _,_,_=>rfl
 |.nilmap,_,_=>rfl
 |.nilf,_,_=>rfl
 |.nili,_,_=>rfl
theorem YI {n:Nat}:∀ {xs:List AVal},Xv n (idsL xs)=true→roL (renL (ltM n) xs)=true→roL xs=true
 |[],_,_=>rfl
 |x::xs,h,k=>by
  simp only[idsL] at h
  obtain⟨a,b⟩:=YQ h
  simp only[renL,roL,Bool.and_eq_true] at k ⊢
  exact⟨AVal.ro_ren_ltM a k.1,YI b k.2⟩
end
theorem Xa6{n:Nat}{xs:List AVal}(h:Xv n (idsL xs)=true)(k:roL xs=false):roL (renL (ltM n) xs)=false:=by
 cases e:roL (renL (ltM n) xs) with
 |false=>rfl
 |true=>rw[YI h e] at k; cases k
theorem Qb2{cg:CG}(h:CGOk P GL cg){k:MK}{xs:List AVal}{σ:List ABlk}{v:AVal}{rd:List Nat}{up:List (Nat×ABlk)}(e:Xb2 cg k xs σ=.ok v rd up):OpSem P GL k xs (hp σ) v rd up:=by
 unfold Xb2 at e;split at e
 ·cases e
 ·rename_i f ys hc;have hnew:∀(bs:List ABlk) (i:Nat),i<bs.length→hp σ (σ.length+i)=none:=λbs i _=>by simp[hp]
  replace e:=ZU e
  rcases e with ⟨hro,e⟩|⟨hnro,e⟩
  ·split at e
   ·rename_i v' bs hv
    replace e:=ZU e
    rcases e with ⟨hvr,e⟩|⟨_,e⟩
    ·cases e; exact XC hc (h f ys [] _ _ hv).1 ((h.pcall hv hvr).here hro _)
    ·cases e; exact XC hc (h f ys [] _ _ hv).1 ((h.ncall hv).here hro (hnew bs))
   ·cases e
  ·split at e
   ·rename_i v' news hd;unfold QbA at hd;obtain⟨hbel,hd⟩:=Qv hd;split at hd
    ·rename_i v2 σ' hc2;split at hd
     ·rename_i news2 hs2;cases hd;obtain⟨hpl,_,_,hF⟩:=h f _ _ _ _ hc2;obtain⟨F,f1,f2,f3⟩:=hF (Xa6 hbel hnro);have:=YaA _ _ _ hs2;subst this;have hw:Awp P GL F.n F.body (frame0 (renL (ltM σ.length) ys)) (YD σ) (λe ρ s=>(e=.normal∨e=.ret)∧retV F.rets ρ s=some v'∧s=YD σ++news):=f3.mono λe ρ s k=>by
       obtain⟨k1,v'',k2,rfl,rfl⟩:=k;exact⟨k1,k2,rfl⟩
      have hn:ys.length=F.np:=by rw[f2,Yw]
      replace e:=ZU e
      rcases e with ⟨_,e⟩|⟨_,e⟩
      ·cases e;exact XC hc hpl (Qak f1 hn σ (idsL ys) (Xag hbel) (bs:=[]) (.inr rfl) hw)
      ·cases e;exact XC hc hpl (Qak f1 hn σ (idsL ys) (Xag hbel) (bs:=news) (.inl rfl) hw)
     ·cases hd
    ·cases hd
   split at e
   ·rename_i zs rd' hb;split at e
    ·rename_i v' bs hv
     replace e:=ZU e
     rcases e with ⟨hvr,e⟩|⟨_,e⟩
     ·simp only[Bool.and_eq_true] at hvr;cases e;exact XC hc (h f zs [] _ _ hv).1 ((h.pcall hv hvr.2).lend (YX _ _ _ _ hb _ (λ_ q=>q)) hvr.1)
     ·replace e:=Zl e
      obtain⟨hns,e⟩:=e;simp only[Bool.and_eq_true] at hns;cases e;exact XC hc (h f zs [] _ _ hv).1 ((h.ncall hv).lend (YX _ _ _ _ hb _ (λ_ q=>q)) hns.1 hns.2 (hnew bs))
    ·cases e
   ·cases e
theorem XcX{cg:CG}(h:CGOk P GL cg)(much:Nat)(r:AVal×List ABlk):AnsOk P GL (Cl much cg) (λo=>o=some r) where
 stop:=λe=>by cases e
 call:=λ{k xs σ K} e=>by
  simp only[Cl] at e;split at e
  ·rename_i f ys hc;split at e
   ·rename_i v σ' hv;obtain⟨_,h1,_⟩:=h f ys σ v σ' hv;refine⟨λv' s=>v'=v∧s=σ',h1 k xs hc,?_⟩;rintro _ _ ⟨rfl,rfl⟩;exact e
   ·cases e
  ·cases e
 dcall:=λ{k xs σ K} e=>by
  simp only[Cl] at e;split at e
  ·rename_i v rd up hv;split at e
   ·rename_i σ' hu;exact⟨v,rd,up,σ',Qb2 h hv,hu,e⟩
   ·cases e
  ·cases e
 test:=λ{v a b} e=>by
  simp only[Cl,tstC] at e;split at e
  ·exact⟨true,rfl,λ_=>e,(λq=>by cases q)⟩
  ·exact⟨false,rfl,(λq=>by cases q),λ_=>e⟩
  ·cases e
 loop:=λ{F vs σ} e=>⟨much,e⟩
def cgOf(much:Nat)(G:Nat→Option (Nat×GFun)):Nat→CG
 |0,_,_,_=>none
 |d+1,f,xs,σ=>match G f with
  |some (np,g)=>bif Nat.beq xs.length np then g (Cl much (cgOf much G d)) xs σ (λv σ=>some (v,σ)) else none
  |none=>none
theorem QbX(hP:P.follows .mixedOrders=true){much:Nat}{G:Nat→Option (Nat×GFun)}(hG:∀f np g,G f=some (np,g)→GOk P GL f np g):∀d,CGOk P GL (cgOf much G d)
 |0=>λf xs σ v σ' h=>by cases h
 |d+1=>λf xs σ v σ' h=>by
  unfold cgOf at h;split at h
  ·rename_i np g hg;obtain⟨hn,h⟩:=Qv h;have hn':=YNB hn;obtain⟨F,h1,h2,h3⟩:=(hG f np g hg).awp hP (XcX (QbX hP hG d) much (v,σ')) hn' h;refine QaI (hG f np g hg).plain h1 (h2.trans hn'.symm) (h3.mono λe ρ s k=>?_);obtain⟨k1,v',k2,k3⟩:=k;simp only[Option.some.injEq,Prod.mk.injEq] at k3;exact⟨k1,v',k2,k3.1,k3.2⟩
  ·cases h
end
theorem QaC{P:Program}{GL:Globs}(hP:P.follows .mixedOrders=true){much:Nat}{G:Nat→Option (Nat×GFun)}(hG:∀f np g,G f=some (np,g)→GOk P GL f np g)(d:Nat){f:FuncId}{xs:List AVal}{y:AVal}(h:((cgOf much G d f xs []).bind λp=>frz p.2 p.1)=some y):PCall P GL f xs y:=by
 cases hc:cgOf much G d f xs [] with
 |none=>rw[hc] at h; cases h
 |some p=>
  obtain⟨v,bs⟩:=p;rw[hc] at h;exact XW ((QbX hP hG d).ncall hc) h
mutual
def eqA:AVal→AVal→Bool
 |.junk,.junk=>true
 |.bool a,.bool b=>a==b
 |.int k a,.int k' b=>ikEq k k'&&a==b
 |.str a,.str b=>a==b
 |.nilp,.nilp=>true
 |.nils,.nils=>true
 |.cap0,.cap0=>true
 |.rsl e n s r,.rsl e' n' s' r'=>(e==e'&&n==n')&&(Nat.beq s s'&&eqR r r')
 |.agg a,.agg b=>eqL a b
 |.nilmap,.nilmap=>true
 |.nilf,.nilf=>true
 |.nili,.nili=>true
 |_,_=>false
def eqL:List AVal→List AVal→Bool
 |[],[]=>true
 |x::xs,y::ys=>eqA x y&&eqL xs ys
 |_,_=>false
def eqR:List (List AVal)→List (List AVal)→Bool
 |[],[]=>true
 |x::xs,y::ys=>eqL x y&&eqR xs ys
 |_,_=>false
end
mutual
theorem Yc3:∀ {x y:AVal},eqA x y=true→x=y:=by
 intro x y h
 cases x<;>cases y<;>simp only[eqA,Bool.false_eq_true,Bool.and_eq_true] at h<;>first
  |rfl
  |(rw[eq_of_beq h])
  |(rw[eq_of_beq h.2,Q0 h.1])
  |(rw[eq_of_beq h.1.1,eq_of_beq h.1.2,YNB h.2.1,YcI h.2.2])
  |(rw[XbC h])
theorem XbC:∀ {x y:List AVal},eqL x y=true→x=y:=by
 intro x y h
 cases x<;>cases y<;>simp only[eqL,Bool.false_eq_true,Bool.and_eq_true] at h<;>first
  |rfl
  |(rw[Yc3 h.1,XbC h.2])
theorem YcI:∀ {x y:List (List AVal)},eqR x y=true→x=y:=by
 intro x y h
 cases x<;>cases y<;>simp only[eqR,Bool.false_eq_true,Bool.and_eq_true] at h<;>first
  |rfl
  |(rw[XbC h.1,YcI h.2])
end
abbrev Known:=List (FuncId×List AVal×AVal)
def QbE(f:FuncId)(xs:List AVal):Known→Option AVal
 |[]=>none
 |(g,ys,v)::r=>match Nat.beq f g&&eqL xs ys with
  |true=>some v
  |false=>QbE f xs r
def KnOk(P:Program)(GL:Globs):Known→Prop
 |[]=>True
 |(f,xs,v)::r=>((Zj P f=true∧roL xs=true∧v.ro=true)∧PCall P GL f xs v)∧KnOk P GL r
section
variable {P:Program} {GL:Globs}
theorem Ybe{f:FuncId}{xs:List AVal}{v:AVal}:∀ {kn:Known},KnOk P GL kn→QbE f xs kn=some v→Zj P f=true∧roL xs=true∧v.ro=true∧PCall P GL f xs v
 |[],_,h=>by cases h
 |(g,ys,u)::r,ok,h=>by
  unfold QbE at h;split at h
  ·rename_i hb;simp only[Bool.and_eq_true] at hb;have h1:=YNB hb.1;have h2:=XbC hb.2;subst h1; subst h2;cases h;exact⟨ok.1.1.1,ok.1.1.2.1,ok.1.1.2.2,ok.1.2⟩
  ·exact Ybe ok.2 h
theorem XaS{f:FuncId}{xs:List AVal}{v:AVal}(h:PCall P GL f xs v):NCall P GL f xs v []:=by
 intro w M vs hM hg hx;refine(h w M vs hM hg hx).mono ?_;rintro e w' ⟨u,he,k,M',hle,hst,hsrc,hd⟩;refine⟨u,he,⟨M',noOwn⟩,hle,?_,hd⟩;exact {
  keeps:=k
  stable:=hst
  src:=λb o e=>by
   rcases hsrc b o e with q|q
   ·exact .inl q
   ·exact .inr (.inl q)
  globs:=λp hp'=>(hg p hp').mono hle (CLe.refl _)
  empt:=λ_ _=>rfl
  dom:=λb blk e=>by simp[hp] at e
  own:=λb blk cb e=>by simp[hp] at e
  hollow:=λb blk cb e=>by simp[hp] at e
  inj:=λb b' blk blk' cb cb' e=>by simp[hp] at e }
def cgKn(much:Nat)(G:Nat→Option (Nat×GFun))(kn:Known):Nat→CG
 |0,_,_,_=>none
 |d+1,f,xs,σ=>match QbE f xs kn with
  |some v=>some (v,σ)
  |none=>match G f with
   |some (np,g)=>bif Nat.beq xs.length np then g (Cl much (cgKn much G kn d)) xs σ (λv σ=>some (v,σ)) else none
   |none=>none
theorem XbX(hP:P.follows .mixedOrders=true){much:Nat}{G:Nat→Option (Nat×GFun)}(hG:∀f np g,G f=some (np,g)→GOk P GL f np g){kn:Known}(hk:KnOk P GL kn):∀d,CGOk P GL (cgKn much G kn d)
 |0=>λf xs σ v σ' h=>by cases h
 |d+1=>λf xs σ v σ' h=>by
  unfold cgKn at h;split at h
  ·rename_i v0 hv;cases h;obtain⟨h1,h2,h3,h4⟩:=Ybe hk hv;refine⟨h1,λk ys hc=>Xay (XC hc h1 (h4.here h2 (hp σ))) (Yn σ),λhσ=>?_,λhro=>by rw[h2] at hro; cases hro⟩;subst hσ;exact⟨XaS h4,λ_=>h4⟩
  split at h
  ·rename_i np g hg;obtain⟨hn,h⟩:=Qv h;have hn':=YNB hn;obtain⟨F,h1,h2,h3⟩:=(hG f np g hg).awp hP (XcX (XbX hP hG hk d) much (v,σ')) hn' h;refine QaI (hG f np g hg).plain h1 (h2.trans hn'.symm) (h3.mono λe ρ s k=>?_);obtain⟨k1,v',k2,k3⟩:=k;simp only[Option.some.injEq,Prod.mk.injEq] at k3;exact⟨k1,v',k2,k3.1,k3.2⟩
  ·cases h
theorem ZaD(hP:P.follows .mixedOrders=true){much:Nat}{G:Nat→Option (Nat×GFun)}(hG:∀f np g,G f=some (np,g)→GOk P GL f np g){kn:Known}(hk:KnOk P GL kn)(d:Nat){f:FuncId}{xs:List AVal}{y:AVal}(h:((cgKn much G kn d f xs []).bind λp=>frz p.2 p.1)=some y):PCall P GL f xs y:=by
 cases hc:cgKn much G kn d f xs [] with
 |none=>rw[hc] at h; cases h
 |some p=>
  obtain⟨v,bs⟩:=p;rw[hc] at h;exact XW ((XbX hP hG hk d).ncall hc) h
end
end Go.Ah
end
section
namespace Go.Ah
@[reducible] def h0(v:List AVal):AVal:=hdV v
@[reducible] def h1(v:List AVal):AVal:=hdV (tlV v)
@[reducible] def h2(v:List AVal):AVal:=hdV (tlV (tlV v))
@[reducible] def h3(v:List AVal):AVal:=hdV (tlV (tlV (tlV v)))
@[reducible] def h4(v:List AVal):AVal:=hdV (tlV (tlV (tlV (tlV v))))
@[reducible] def h5(v:List AVal):AVal:=hdV (tlV (tlV (tlV (tlV (tlV v)))))
@[reducible] def h6(v:List AVal):AVal:=hdV (tlV (tlV (tlV (tlV (tlV (tlV v))))))
@[reducible] def h7(v:List AVal):AVal:=hdV (tlV (tlV (tlV (tlV (tlV (tlV (tlV v)))))))
@[reducible] def h8(v:List AVal):AVal:=h7 (tlV v)
@[reducible] def h9(v:List AVal):AVal:=h8 (tlV v)
@[reducible] def h10(v:List AVal):AVal:=h9 (tlV v)
@[reducible] def h11(v:List AVal):AVal:=h10 (tlV v)
@[reducible] def h12(v:List AVal):AVal:=h11 (tlV v)
section
variable {P:Program} {GL:Globs} {f:FuncId} {l:List (Option (List Nat))} {g:GFun}
abbrev GEq(P:Program)(GL:Globs)(np:Nat)(f:FuncId)(l:List (Option (List Nat)))(g:GFun)(xs:List AVal):Prop:=
 ∀(α:Type) (A:Ans α) (σ:List ABlk) (ret:AVal→List ABlk→α),g A xs σ ret=dnFn A ((compD P GL np f l).getD default) xs σ ret
theorem QU{np:Nat}(h:(compD P GL np f l).isSome=true)(hg:∀(xs:List AVal),xs.length=np→GEq P GL np f l g xs):GOk P GL f np g:=by
 cases hD:compD P GL np f l with
 |none=>rw[hD] at h; cases h
 |some D=>
  refine Xc3 hD (λα A xs σ ret hn=>?_);have:=hg xs hn α A σ ret
  rwa [hD] at this
theorem gok0(h:(compD P GL 0 f l).isSome=true)(hg:GEq P GL 0 f l g []):GOk P GL f 0 g:=QU h λxs hn=>by
 cases xs with
 |nil=>exact hg
 |cons x xs=>simp at hn
theorem gok1(h:(compD P GL 1 f l).isSome=true)(hg:∀x0,GEq P GL 1 f l g [x0]):GOk P GL f 1 g:=QU h λxs hn=>by
 match xs,hn with
 |[x0],_=>exact hg x0
theorem gok2(h:(compD P GL 2 f l).isSome=true)(hg:∀x0 x1,GEq P GL 2 f l g [x0,x1]):GOk P GL f 2 g:=QU h λxs hn=>by
 match xs,hn with
 |[x0,x1],_=>exact hg x0 x1
theorem gok3(h:(compD P GL 3 f l).isSome=true)(hg:∀x0 x1 x2,GEq P GL 3 f l g [x0,x1,x2]):GOk P GL f 3 g:=QU h λxs hn=>by
 match xs,hn with
 |[x0,x1,x2],_=>exact hg x0 x1 x2
theorem gok4(h:(compD P GL 4 f l).isSome=true)(hg:∀x0 x1 x2 x3,GEq P GL 4 f l g [x0,x1,x2,x3]):GOk P GL f 4 g:=QU h λxs hn=>by
 match xs,hn with
 |[x0,x1,x2,x3],_=>exact hg x0 x1 x2 x3
theorem gok5(h:(compD P GL 5 f l).isSome=true)(hg:∀x0 x1 x2 x3 x4,GEq P GL 5 f l g [x0,x1,x2,x3,x4]):GOk P GL f 5 g:=QU h λxs hn=>by
 match xs,hn with
 |[x0,x1,x2,x3,x4],_=>exact hg x0 x1 x2 x3 x4
theorem gok6(h:(compD P GL 6 f l).isSome=true)(hg:∀x0 x1 x2 x3 x4 x5,GEq P GL 6 f l g [x0,x1,x2,x3,x4,x5]):GOk P GL f 6 g:=QU h λxs hn=>by
 match xs,hn with
 |[x0,x1,x2,x3,x4,x5],_=>exact hg x0 x1 x2 x3 x4 x5
theorem gok7(h:(compD P GL 7 f l).isSome=true)(hg:∀x0 x1 x2 x3 x4 x5 x6,GEq P GL 7 f l g [x0,x1,x2,x3,x4,x5,x6]):GOk P GL f 7 g:=QU h λxs hn=>by
 match xs,hn with
 |[x0,x1,x2,x3,x4,x5,x6],_=>exact hg x0 x1 x2 x3 x4 x5 x6
end
def row0:List AVal:=(List.range 256).map λi=>AVal.int .u8 (match (Nat.ble 9 i&&Nat.ble i 13)||Nat.beq i 32 with|true=>1|false=>0)
def GL0:Globs:=[(0,row0)]
end Go.Ah
namespace Go.Ah
theorem gq0{P:Program}{GL:Globs}{f:FuncId}{g:GFun}(l:List (Option (List Nat)))(hg:GEq P GL 0 f l g [])(h:(compD P GL 0 f l).isSome=true:=by kernel_rfl):GOk P GL f 0 g:=gok0 h hg
theorem gq1{P:Program}{GL:Globs}{f:FuncId}{g:GFun}(l:List (Option (List Nat)))(hg:∀x0,GEq P GL 1 f l g [x0])(h:(compD P GL 1 f l).isSome=true:=by kernel_rfl):GOk P GL f 1 g:=gok1 h hg
theorem gq2{P:Program}{GL:Globs}{f:FuncId}{g:GFun}(l:List (Option (List Nat)))(hg:∀x0 x1,GEq P GL 2 f l g [x0,x1])(h:(compD P GL 2 f l).isSome=true:=by kernel_rfl):GOk P GL f 2 g:=gok2 h hg
theorem gq3{P:Program}{GL:Globs}{f:FuncId}{g:GFun}(l:List (Option (List Nat)))(hg:∀x0 x1 x2,GEq P GL 3 f l g [x0,x1,x2])(h:(compD P GL 3 f l).isSome=true:=by kernel_rfl):GOk P GL f 3 g:=gok3 h hg
theorem gq4{P:Program}{GL:Globs}{f:FuncId}{g:GFun}(l:List (Option (List Nat)))(hg:∀x0 x1 x2 x3,GEq P GL 4 f l g [x0,x1,x2,x3])(h:(compD P GL 4 f l).isSome=true:=by kernel_rfl):GOk P GL f 4 g:=gok4 h hg
theorem gq5{P:Program}{GL:Globs}{f:FuncId}{g:GFun}(l:List (Option (List Nat)))(hg:∀x0 x1 x2 x3 x4,GEq P GL 5 f l g [x0,x1,x2,x3,x4])(h:(compD P GL 5 f l).isSome=true:=by kernel_rfl):GOk P GL f 5 g:=gok5 h hg
theorem gq6{P:Program}{GL:Globs}{f:FuncId}{g:GFun}(l:List (Option (List Nat)))(hg:∀x0 x1 x2 x3 x4 x5,GEq P GL 6 f l g [x0,x1,x2,x3,x4,x5])(h:(compD P GL 6 f l).isSome=true:=by kernel_rfl):GOk P GL f 6 g:=gok6 h hg
theorem gq7{P:Program}{GL:Globs}{f:FuncId}{g:GFun}(l:List (Option (List Nat)))(hg:∀x0 x1 x2 x3 x4 x5 x6,GEq P GL 7 f l g [x0,x1,x2,x3,x4,x5,x6])(h:(compD P GL 7 f l).isSome=true:=by kernel_rfl):GOk P GL f 7 g:=gok7 h hg
abbrev jv(n:Int):AVal:=.int .i64 n
abbrev Yd:=Zc false 1
@[simp] abbrev Ans.gof{α:Type}(A:Ans α)(c:AVal)(r:SRes)(K:AVal→α):α:=A.gr c false (λk=>A.rd r k) K
@[simp] abbrev Ans.got{α:Type}(A:Ans α)(c:AVal)(r:SRes)(K:AVal→α):α:=A.gr c true (λk=>A.rd r k) K
@[simp] abbrev Ans.a{α:Type}(A:Ans α)(x:AVal)(σ:List ABlk)(K:AVal→α):α:=A.rd (Zc false 1 [x] σ) K
@[simp] abbrev Ans.c{α:Type}(A:Ans α)(x y z:AVal)(σ:List ABlk)(K:AVal→α):α:=A.rd (Zn [x,y,z] σ) K
@[simp] abbrev Ans.b{α:Type}(A:Ans α)(o:BinOp)(x y:AVal)(σ:List ABlk)(K:AVal→α):α:=A.rd (Yh o false [x,y] σ) K
@[simp] abbrev Ans.r{α:Type}(A:Ans α)(F:List AVal→List ABlk→SRes)(x:AVal)(σ:List ABlk)(K:AVal→α):α:=A.rd (F [x] σ) K
@[simp] abbrev Ans.s{α:Type}(A:Ans α)(F:List AVal→List ABlk→SRes)(x y:AVal)(σ:List ABlk)(K:AVal→α):α:=A.rd (F [x,y] σ) K
@[simp] abbrev Ans.fa{α:Type}(A:Ans α)(c:AVal)(x:AVal)(σ:List ABlk)(K:AVal→α):α:=A.gof c (Zc false 1 [x] σ) K
@[simp] abbrev Ans.fc{α:Type}(A:Ans α)(c:AVal)(x y z:AVal)(σ:List ABlk)(K:AVal→α):α:=A.gof c (Zn [x,y,z] σ) K
@[simp] abbrev Ans.fb{α:Type}(A:Ans α)(c:AVal)(o:BinOp)(x y:AVal)(σ:List ABlk)(K:AVal→α):α:=A.gof c (Yh o false [x,y] σ) K
@[simp] abbrev Ans.fr{α:Type}(A:Ans α)(c:AVal)(F:List AVal→List ABlk→SRes)(x:AVal)(σ:List ABlk)(K:AVal→α):α:=A.gof c (F [x] σ) K
@[simp] abbrev Ans.fs{α:Type}(A:Ans α)(c:AVal)(F:List AVal→List ABlk→SRes)(x y:AVal)(σ:List ABlk)(K:AVal→α):α:=A.gof c (F [x,y] σ) K
@[simp] abbrev Ans.ta{α:Type}(A:Ans α)(c:AVal)(x:AVal)(σ:List ABlk)(K:AVal→α):α:=A.got c (Zc false 1 [x] σ) K
@[simp] abbrev Ans.tc{α:Type}(A:Ans α)(c:AVal)(x y z:AVal)(σ:List ABlk)(K:AVal→α):α:=A.got c (Zn [x,y,z] σ) K
@[simp] abbrev Ans.tb{α:Type}(A:Ans α)(c:AVal)(o:BinOp)(x y:AVal)(σ:List ABlk)(K:AVal→α):α:=A.got c (Yh o false [x,y] σ) K
@[simp] abbrev Ans.tr{α:Type}(A:Ans α)(c:AVal)(F:List AVal→List ABlk→SRes)(x:AVal)(σ:List ABlk)(K:AVal→α):α:=A.got c (F [x] σ) K
@[simp] abbrev Ans.ts{α:Type}(A:Ans α)(c:AVal)(F:List AVal→List ABlk→SRes)(x y:AVal)(σ:List ABlk)(K:AVal→α):α:=A.got c (F [x,y] σ) K
@[simp] abbrev Ans.w1{α:Type}(A:Ans α)(F:List AVal→List ABlk→SRes)(x:AVal)(σ:List ABlk)(K:AVal→List ABlk→α):α:=A.wr (F [x] σ) σ K
@[simp] abbrev Ans.ws{α:Type}(A:Ans α)(F:List AVal→List ABlk→SRes)(x y:AVal)(σ:List ABlk)(K:AVal→List ABlk→α):α:=A.wr (F [x,y] σ) σ K
@[simp] abbrev Ans.k{α:Type}(A:Ans α)(n:FuncId)(xs:List AVal)(σ:List ABlk)(K:AVal→List ABlk→α):α:=A.call (.call n) xs σ K
abbrev zq0:List AVal:=[(.int .i64 0),(.int .i64 0),(.int .i8 0),(.bool false),(.int .i8 0),.nils,(.int .i64 0),(.int .i64 0),(.int .i64 0),(.int .i64 0),.nils,.nils,.nils,.nils,.nils,(.int .i64 0),(.int .i64 0),(.int .i64 0),.nils,.nils,.nils,.nils,.nils]
abbrev zq1:List AVal:=[(.int .i8 0),(.int .i64 0),(.int .i64 0),(.int .i64 0),(.int .i64 0),(.int .i64 0),.nils]
abbrev zq2:List AVal:=[(.int .i8 0),(.int .i64 0),(.int .i8 0),.nils]
abbrev zq3:List AVal:=[(.int .i64 0),(.int .i64 0),(.int .i64 0),(.bool false)]
abbrev zq4:List AVal:=[(.int .i64 0),(.int .i64 0),(.int .i64 0),.nils,.nils,.nils,.nils,.nils]
abbrev zq5:List AVal:=[(.int .i8 0),(.int .i8 0),(.int .i8 0),(.int .i8 0)]
abbrev zq6:List AVal:=[(.int .i64 0),(.int .i64 0),(.bool false)]
end Go.Ah
end
section
namespace Go.Ah
inductive GT:Type 1 where
 |leaf
 |node (k np:Nat) (g:GFun) (l r:GT)
def GT.get:GT→Nat→Option (Nat×GFun)
 |.leaf,_=>none
 |.node k np g l r,f=>match Nat.beq f k with
  |true=>some (np,g)
  |false=>match Nat.blt f k with
   |true=>l.get f
   |false=>r.get f
def GT.Ok(P:Program)(GL:Globs):GT→Prop
 |.leaf=>True
 |.node k np g l r=>GOk P GL k np g∧l.Ok P GL∧r.Ok P GL
theorem GT.get_ok{P:Program}{GL:Globs}:∀ {t:GT},t.Ok P GL→∀f np g,t.get f=some (np,g)→GOk P GL f np g
 |.leaf,_,f,np,g,h=>by simp only[GT.get] at h; cases h
 |.node k np' g' l r,ok,f,np,g,h=>by
  unfold GT.get at h;obtain⟨o1,o2,o3⟩:=ok;split at h
  ·rename_i hb;have:=YNB hb;subst this;cases h;exact o1
  ·split at h
   ·exact GT.get_ok o2 f np g h
   ·exact GT.get_ok o3 f np g h
end Go.Ah
end
section
namespace Go.Ah
section
variable (σ:List ABlk)
attribute [simp] Xav ZaB pu_ok Xct Yc0 ZaG XcQ hdV tlV
@[simp] theorem W_stop'(P:Program)(GL:Globs):(W P GL).stop=False:=rfl
@[simp] theorem Ydb{α:Type}(f:(List AVal→List ABlk→α)→α)(k:List AVal→List ABlk→α):joinK f k=f k:=rfl
@[simp] theorem gx_bool{α:Type}(A:Ans α)(b w:Bool)(r:α)(s:List (Bool×Bool)→α):A.gx (.bool b) w r s=A.test (.bool b) (bif w then r else s [(true,w)]) (bif w then s [(false,w)] else r):=rfl
@[simp] theorem gr_eq{α:Type}(A:Ans α)(c:AVal)(w:Bool)(r:(AVal→α)→α)(K:AVal→α):A.gr c w r K=A.gx c w (r K) (λcs=>K (udf cs)):=rfl
@[simp] theorem gw_eq{α:Type}(A:Ans α)(c:AVal)(w:Bool)(r:(AVal→List ABlk→α)→α)(σ:List ABlk)(K:AVal→List ABlk→α):A.gw c w r σ K=A.gx c w (r K) (λcs=>K (udf cs) σ):=rfl
@[simp] theorem gl_eq{α:Type}(A:Ans α)(c:AVal)(w:Bool)(r:(AVal→List Nat×List Nat→List ABlk→α)→α)(σ:List ABlk)(K:AVal→List Nat×List Nat→List ABlk→α):A.gl c w r σ K=A.gx c w (r K) (λcs=>K (udf cs) ([],[]) σ):=rfl
@[simp] theorem gx_when{α:Type}(A:Ans α)(cs:List (Bool×Bool))(q w:Bool)(r:α)(s:List (Bool×Bool)→α):A.gx (.when cs (.bool q)) w r s=match Yaf.holdNot cs with
  |true=>s (cs++[(q,w)])
  |false=>A.stop:=rfl
attribute [simp] Yaf.holdNot
@[simp] theorem e_mv(x:AVal):Yg [x] σ=.ok x [] []:=rfl
@[simp] theorem Zf(e n:Bool)(s:Nat)(rows:List (List AVal)):Qd [.rsl e n s rows] σ=.ok (.int .i64 rows.length) [] []:=rfl
@[simp] theorem YcO:Qd [.nils] σ=.ok (.int .i64 0) [] []:=rfl
@[simp] theorem ZcO:Qd [.cap0] σ=.ok (.int .i64 0) [] []:=rfl
@[simp] theorem Zc1(b o n:Nat)(e:Bool):Qd [.sl b o n e] σ=.ok (.int .i64 n) [] []:=rfl
@[simp] theorem Zdb(s:List UInt8):Xr [.str s] σ=.ok (.int .i64 s.length) [] []:=rfl
@[simp] theorem e_lenA(n:Nat)(x:AVal):Xcj n [x] σ=.ok (.int .i64 n) [] []:=rfl
@[simp] theorem Zc4(k:IntKind):ikEq k k=true:=by cases k<;>rfl
section
variable (ib:Bool) (k:IntKind) (a b:Int)
@[simp] theorem Qn:Yh .add ib [.int k a,.int k b] σ=.ok (.int k (k.wrap (a+b))) [] []:=by simp[Yh,binI]
@[simp] theorem Xb4:Yh .sub ib [.int k a,.int k b] σ=.ok (.int k (k.wrap (a-b))) [] []:=by simp[Yh,binI]
@[simp] theorem Yi:Yh .eql ib [.int k a,.int k b] σ=.ok (.bool (decide (a=b))) [] []:=by
 simp[Yh,binI]; exact Bool.eq_iff_iff.2 (by simp)
@[simp] theorem YT:Yh .neq ib [.int k a,.int k b] σ=.ok (.bool (decide (a≠b))) [] []:=by
 simp[Yh,binI]; exact Bool.eq_iff_iff.2 (by simp)
@[simp] theorem Qx:Yh .lss ib [.int k a,.int k b] σ=.ok (.bool (decide (a<b))) [] []:=by simp[Yh,binI]
@[simp] theorem Zb4:Yh .leq ib [.int k a,.int k b] σ=.ok (.bool (decide (a≤b))) [] []:=by simp[Yh,binI]
@[simp] theorem Q4:Yh .gtr ib [.int k a,.int k b] σ=.ok (.bool (decide (b<a))) [] []:=by simp[Yh,binI]
@[simp] theorem Qaq:Yh .geq ib [.int k a,.int k b] σ=.ok (.bool (decide (b≤a))) [] []:=by simp[Yh,binI]
end
@[simp] theorem Xk(ib:Bool)(a b:List UInt8):Yh .eql ib [.str a,.str b] σ=.ok (.bool (a==b)) [] []:=rfl
@[simp] theorem e_neqS(ib:Bool)(a b:List UInt8):Yh .neq ib [.str a,.str b] σ=.ok (.bool (!(a==b))) [] []:=rfl
@[simp] theorem e_eqlB(a b:Bool):Yh .eql true [.bool a,.bool b] σ=.ok (.bool (a==b)) [] []:=rfl
@[simp] theorem Xc1(a b:Bool):Yh .neq true [.bool a,.bool b] σ=.ok (.bool (!(a==b))) [] []:=rfl
@[simp] theorem e_not(b:Bool):Zp .not [.bool b] σ=.ok (.bool (!b)) [] []:=rfl
@[simp] theorem e_neg(k:IntKind)(n:Int):Zp .neg [.int k n] σ=.ok (.int k (k.wrap (0-n))) [] []:=rfl
@[simp] theorem e_conv(k k':IntKind)(n:Int):ZH k [.int k' n] σ=.ok (.int k (k.wrap n)) [] []:=rfl
@[simp] theorem Yc1(t:TypeId)(x:AVal):Zz t [x] σ=.ok (.iface t x) [] []:=rfl
@[simp] theorem Qam(fn:Fn)(xs:List AVal):Zo fn 0 xs σ=.ok (.func fn [] xs) [] []:=by
 simp[Zo,takeN,dropN]
@[simp] theorem Xam(k k':IntKind)(a b:Int):ZL [.int k a,.int k' b] σ=.ok (.int k (min a b)) [] []:=by
 simp only[ZL]; congr 2; omega
@[simp] theorem YaJ(k k':IntKind)(a b:Int):ZaA [.int k a,.int k' b] σ=.ok (.int k (max a b)) [] []:=by
 simp only[ZaA]; congr 2; omega
@[simp] theorem e_nil_b(b j:Nat):Xa [.bptr b j] σ=.ok (.bptr b j) [] []:=rfl
@[simp] theorem e_nil_p(b i j:Nat):Xa [.ptr b i j] σ=.ok (.ptr b i j) [] []:=rfl
@[simp] theorem e_nil_r(row:List AVal)(j:Nat):Xa [.rptr row j] σ=.ok (.rptr row j) [] []:=rfl
@[simp] theorem e_nil_f(f:FuncId)(a b:List AVal):Xa [.func (.func f) a b] σ=.ok (.func (.func f) a b) [] []:=rfl
@[simp] theorem e_fa_b(o b j:Nat):Za o [.bptr b j] σ=.ok (.bptr b (j+o)) [] []:=rfl
@[simp] theorem e_fa_p(o b i j:Nat):Za o [.ptr b i j] σ=.ok (.ptr b i (j+o)) [] []:=rfl
@[simp] theorem e_fa_r(o:Nat)(row:List AVal)(j:Nat):Za o [.rptr row j] σ=.ok (.rptr row (j+o)) [] []:=rfl
@[simp] theorem e_field(agg:Bool)(o n:Nat)(cs:List AVal):Za7 agg o n [.agg cs] σ=(match partA agg o n cs with
   |some v=>.ok v [] []
   | none=>.stop):=rfl
attribute [simp] partA takeN dropN nth
@[simp] theorem Xc0(i:Nat)(vs:List AVal):Qb i [.tup vs] σ=(match nth vs i with
   |some v=>.ok v [] []
   | none=>.stop):=rfl
@[simp] theorem Xda(len esz b j:Nat)(k:IntKind)(i:Nat):Yf len esz [.bptr b j,.int k (@OfNat.ofNat Int i _)] σ=bif Nat.blt i len then .ok (.bptr b (j+i*esz)) [] [] else .stop:=rfl
@[simp] theorem Qda(len esz:Nat)(row:List AVal)(j:Nat)(k:IntKind)(i:Nat):Yf len esz [.rptr row j,.int k (@OfNat.ofNat Int i _)] σ=bif Nat.blt i len then .ok (.rptr row (j+i*esz)) [] [] else .stop:=rfl
theorem Qc0(e n:Bool)(s:Nat)(rows:List (List AVal))(k:IntKind)(i:Nat)(row:List AVal)(h:rows[i]?=some row):Qa s [.rsl e n s rows,.int k (i:Int)] σ=.ok (.rptr row 0) [] []:=by
 show (bif Nat.beq s s then (match nth rows i with
   |some row=>SRes.ok (.rptr row 0) [] []
   | none=>.stop) else .stop)=_
 rw[Nat.beq_refl,ZZ,h]; rfl
theorem Qu{α:Type}(f:α→List AVal)(e n:Bool)(s:Nat)(l:List α)(k:IntKind)(i:Nat)(h:i<l.length):Qa s [.rsl e n s (l.map f),.int k (i:Int)] σ=.ok (.rptr (f l[i]) 0) [] []:=
 Qc0 σ e n s _ k i _ (by simp[h])
theorem QbM(b o len:Nat)(ex:Bool)(s:Nat)(rows:List (List AVal))(k:IntKind)(i:Nat)(h:i<len)(hb:hget σ b=.rows s rows):Qa s [.sl b o len ex,.int k (i:Int)] σ=.ok (.ptr b (o+i) 0) [b] []:=by
 show (bif Nat.blt i len then (match hget σ b with
   |.rows s' _=>bif Nat.beq s' s then SRes.ok (.ptr b (o+i) 0) [b] [] else .stop
   | _=>.stop) else .stop)=_
 rw[show Nat.blt i len=true from Nat.ble_eq_true_of_le h,hb];simp
@[simp] theorem XaD(agg:Bool)(n:Nat)(row:List AVal)(j:Nat):Zc agg n [.rptr row j] σ=(match partA agg j n row with
   |some v=>.ok v [] []
   | none=>.stop):=rfl
@[simp] theorem Xcw(agg:Bool)(n b j:Nat):Zc agg n [.bptr b j] σ=(match hget σ b with
   |.box row=>match partA agg j n row with
    |some v=>.ok v [b] []
    |none=>.stop
   | _=>.stop):=rfl
attribute [simp] hget upL Yz splice cellsOf AVal.cell
@[simp] theorem XcN(z:List AVal):Xc z [] σ=.ok (.bptr σ.length 0) [] [(σ.length,.box z)]:=rfl
@[simp] theorem e_box(x:AVal):Zm [x] σ=(match cellsOf x with
   |some cs=>.ok (.bptr σ.length 0) [] [(σ.length,.box cs)]
   | none=>.stop):=rfl
@[simp] theorem Yb4(n b j:Nat)(x:AVal):Zb n [.bptr b j,x] σ=(match hget σ b with
   |.box row=>match cellsOf x with
    | some cs=>bif Nat.beq cs.length n then (match splice j cs row with
     |some row'=>.ok .junk [] [(b,.box row')]
     | none=>.stop) else .stop
    |none=>.stop
   | _=>.stop):=rfl
end
end Go.Ah
end
section
namespace Go.Ah
structure RenOk (σ σ2:List ABlk) (m:Nat→Option Nat):Prop where
 inj:∀b b' k,m b=some k→m b'=some k→b=b'
 img:∀b k,m b=some k→∃blk,σ[b]?=some blk∧σ2[k]?=some (blk.mapV (AVal.ren m))
 cov:∀k,k<σ2.length→∃b,m b=some k
theorem Rep.renum{GL:Globs}{w0:World}{L:Ln}{g:Gm}{w:World}{σ σ2:List ABlk}{m:Nat→Option Nat}(r:Rep GL w0 L g (hp σ) w)(ok:RenOk σ σ2 m) :
  ∃c2,(∀x v,g.den x v→Den g.M c2 (x.ren m) v)∧Rep GL w0 L ⟨g.M,c2⟩ (hp σ2) w:=by
 classical
 let c2:Own:=λk=>if h:∃b,m b=some k then g.c (Classical.choose h) else none
 have hc2:∀b k,m b=some k→c2 k=g.c b:=by
  intro b k e;have h:∃b,m b=some k:=⟨b,e⟩;show (if h:∃b,m b=some k then g.c (Classical.choose h) else none)=_;rw[dif_pos h,ok.inj _ _ _ (Classical.choose_spec h) e]
 have hden:∀x v,g.den x v→Den g.M c2 (x.ren m) v:=λx v d=>Den.ren d λb b' cb e1 e2=>by rw[hc2 b b' e1]; exact e2
 have back:∀k blk,hp σ2 k=some blk→∃b blk0,m b=some k∧hp σ b=some blk0∧blk=blk0.mapV (AVal.ren m):=by
  intro k blk e;have hk:k<σ2.length:=(YLG e).1;obtain⟨b,hb⟩:=ok.cov k hk;obtain⟨blk0,e1,e2⟩:=ok.img b k hb;refine⟨b,blk0,hb,e1,?_⟩;have e':σ2[k]?=some blk:=e;rw[e2] at e';exact(Option.some.inj e').symm
 refine⟨c2,hden,?_⟩;exact {
  keeps:=r.keeps
  stable:=r.stable
  src:=r.src
  globs:=r.globs
  empt:=λk e=>by
   show (if h:∃b,m b=some k then g.c (Classical.choose h) else none)=none;rw[dif_neg];rintro⟨b,hb⟩;obtain⟨blk0,e1,e2⟩:=ok.img b k hb;have e':σ2[k]?=none:=e;rw[e2] at e'; cases e'
  dom:=λk blk e=>by
   obtain⟨b,blk0,h1,h2,_⟩:=back k blk e;obtain⟨cb,hcb⟩:=r.dom b blk0 h2;exact⟨cb,by show c2 k=_; rw[hc2 b k h1]; exact hcb⟩
  own:=λk blk cb e hl ec hv=>by
   obtain⟨b,blk0,h1,h2,rfl⟩:=back k blk e;rw[ABlk.mapV_live] at hl;have ec':g.c b=some cb:=by rw[←hc2 b k h1]; exact ec
   obtain⟨q1,q2,o,q3,q4⟩:=r.own b blk0 cb h2 hl ec' hv;exact⟨q1,q2,o,q3,q4.mapV (p:=λ_=>True) (λx v _ d=>hden x v d) (ABlk.all_true _)⟩
  hollow:=λk blk cb e hl ec hv=>by
   obtain⟨b,blk0,h1,h2,rfl⟩:=back k blk e;rw[ABlk.mapV_live] at hl;have ec':g.c b=some cb:=by rw[←hc2 b k h1]; exact ec
   have:=r.hollow b blk0 cb h2 hl ec' hv;subst this;rfl
  inj:=λk k' x x' cb1 cb2 e1 e2 l1 l2 c1 c2' v1 v2 hblk=>by
   obtain⟨b,y,h1,h2,rfl⟩:=back k x e1;obtain⟨b',y',h1',h2',rfl⟩:=back k' x' e2;rw[ABlk.mapV_live] at l1 l2;have ec1:g.c b=some cb1:=by rw[←hc2 b k h1]; exact c1
   have ec2:g.c b'=some cb2:=by rw[←hc2 b' k' h1']; exact c2'
   have:=r.inj b b' y y' cb1 cb2 h2 h2' l1 l2 ec1 ec2 v1 v2 hblk;subst this;rw[h1] at h1';exact Option.some.inj h1' }
def Tidy(σ:List ABlk)(v:AVal)(σ2:List ABlk)(v2:AVal):Prop:=
 ∀(GL:Globs) (w0:World) (L:Ln) (g:Gm) (w:World),Rep GL w0 L g (hp σ) w→∀u,g.den v u→∃c2,Rep GL w0 L ⟨g.M,c2⟩ (hp σ2) w∧Den g.M c2 v2 u
theorem Tidy.refl(σ:List ABlk)(v:AVal):Tidy σ v σ v:=λ_ _ _ g _ r _ d=>⟨g.c,r,d⟩
theorem Tidy.trans{σ σ2 σ3:List ABlk}{v v2 v3:AVal}(h:Tidy σ v σ2 v2)(k:Tidy σ2 v2 σ3 v3):Tidy σ v σ3 v3:=by
 intro GL w0 L g w r u d;obtain⟨c2,r2,d2⟩:=h GL w0 L g w r u d;obtain⟨c3,r3,d3⟩:=k GL w0 L ⟨g.M,c2⟩ w r2 u d2;exact⟨c3,r3,d3⟩
theorem Tidy.ren{σ σ2:List ABlk}{m:Nat→Option Nat}(ok:RenOk σ σ2 m)(v:AVal):Tidy σ v σ2 (v.ren m):=by
 intro GL w0 L g w r u d;obtain⟨c2,h1,h2⟩:=r.renum ok;exact⟨c2,h2,h1 v u d⟩
theorem QcQ(σ:List ABlk)(b:ABlk):hup (hp σ) σ.length b=hp (σ++[b]):=by
 funext n
 simp only[hup,hp];by_cases h:n=σ.length
 ·subst h; simp
 ·rw[if_neg h];by_cases h2:n<σ.length
  ·rw[List.getElem?_append_left h2]
  ·rw[List.getElem?_eq_none (by omega),List.getElem?_eq_none (by simp; omega)]
theorem Tidy.ghost{σ:List ABlk}{v:AVal}(sz:Nat)(h:v=.nils∨v=.cap0):Tidy σ v (σ++[.rows sz []]) (.sl σ.length 0 0 false):=by
 intro GL w0 L g w r u d;have r2:=r.ghost (Zao σ) sz;rw[QcQ] at r2;have hs:∃a,u=.slice a 0 0:=by
  rcases h with rfl|rfl
  ·cases d; exact⟨_,rfl⟩
  ·cases d; exact⟨_,rfl⟩
 obtain⟨a,rfl⟩:=hs;exact⟨_,r2,.slv _ _ _ _ _ (Qt _ _ _) rfl⟩
theorem Tidy.one{σ:List ABlk}{b:Nat}{blk:ABlk}(hb:σ[b]?=some blk)(m:Nat→Option Nat)(hm:∀n,m n=if n=b then some 0 else none)(v:AVal):Tidy σ v [blk.mapV (AVal.ren m)] (v.ren m):=by
 have key:∀x k,m x=some k→x=b∧k=0:=by
  intro x k e;rw[hm] at e;split at e
  ·cases e; exact⟨by assumption,rfl⟩
  ·cases e
 refine Tidy.ren ⟨λx y k e1 e2=>?_,λx k e=>?_,λk hk=>⟨b,?_⟩⟩ v
 ·rw[(key x k e1).1,(key y k e2).1]
 ·obtain⟨rfl,rfl⟩:=key x k e;exact⟨blk,hb,by simp⟩
 ·simp at hk; subst hk; rw[hm]; simp
section
variable {P:Program} {GL:Globs}
theorem Ya5{f:FuncId}{F:MFn}(ok:FnOk P GL f F){xs:List AVal}(hn:xs.length=F.np){v:AVal}{bs:List ABlk}
 (h:Awp P GL F.n F.body (frame0 xs) [] (λe ρ σ=>(e=.normal∨e=.ret)∧∃v',retV F.rets ρ σ=some v'∧Tidy σ v' bs v)):NCall P GL f xs v bs:=by
 intro w M vs hM hg hx;have r0:=Rep.start (GL:=GL) w M hM hg;have hh:hp []=noHp:=by funext b; simp[hp,noHp]
 rw[←hh] at r0;refine(Q6 ok hn h w ⟨[],M⟩ ⟨M,noOwn⟩ w vs r0 hx).mono ?_;rintro e w' ⟨u,he,g',x,σ',hR,hle,r,d⟩;obtain⟨c2,r2,d2⟩:=hR GL w ⟨[],M⟩ g' w' r u d;exact⟨u,he,⟨g'.M,c2⟩,hle.m,r2,d2⟩
theorem Zw(hP:P.follows .mixedOrders=true){f:FuncId}{np:Nat}{g:GFun}(hg:GOk P GL f np g){xs:List AVal}(hn:xs.length=np){v:AVal}{bs:List ABlk}(h:g (W P GL) xs [] (λv' σ=>Tidy σ v' bs v)):NCall P GL f xs v bs:=by
 obtain⟨F,h1,h2,h3⟩:=hg.awp hP (QcW P GL) hn h;exact Ya5 h1 (hn.trans h2.symm) h3
theorem X2:∀(bs σ:List ABlk),upL σ (Yv σ.length bs)=some (σ++bs)
 |[],σ=>by simp[Yv,upL]
 |b::bs,σ=>by
  have:=X2 bs (σ++[b]);rw[List.length_append,List.length_singleton] at this;simp only[Yv,upL,Nat.beq_refl,cond_true];rw[this]; simp
def X0(n:Nat):List ABlk→List Nat
 |[]=>[]
 |_::bs=>n::X0 (n+1) bs
theorem ZaS:∀(bs:List ABlk) (n:Nat),(Yv n bs).map (·.1)=X0 n bs
 |[],_=>rfl
 |b::bs,n=>by simp[Yv,X0,ZaS bs (n+1)]
theorem Zak{k:MK}{xs ys:List AVal}{f:FuncId}{v:AVal}{bs:List ABlk}(h:NCall P GL f ys v bs)(hc:Qr k xs=some (f,ys))(hp':Zj P f=true)(hro:roL ys=true){σ:List ABlk}{K:AVal→List ABlk→Prop}(hK:K (v.ren (Zy σ.length)) (σ++Zu σ.length bs)):(W P GL).call k xs σ K:=
 ZN hc hp' (h.here hro (λi _=>by simp[hp])) (X2 _ σ) hK
theorem Xak{k:MK}{xs ys:List AVal}{f:FuncId}{v:AVal}{bs:List ABlk}(h:NCall P GL f ys v bs)(hc:Qr k xs=some (f,ys))(hp':Zj P f=true)(hro:roL ys=true){σ:List ABlk}{K:AVal→List Nat×List Nat→List ABlk→Prop}(hK:K (v.ren (Zy σ.length)) ([],X0 σ.length (Zu σ.length bs)) (σ++Zu σ.length bs)):(W P GL).dcall k xs σ K:=
 X3 hc hp' (h.here hro (λi _=>by simp[hp])) (X2 _ σ) (by rw[ZaS]; exact hK)
end
attribute [simp] AVal.ren renL Zy Zu ABlk.mapV X0 AVal.ro roL AVal.flat flatL
end Go.Ah
end
section
namespace Go.Ah
theorem Qs(σ:List ABlk)(x:ABlk):upL σ [(σ.length,x)]=some (σ++[x]):=by simp[upL]
theorem QJ{σ:List ABlk}{b:Nat}{x:ABlk}(h:σ[b]?=some x):hget σ b=x:=by
 induction σ generalizing b with
 |nil=>simp at h
 |cons y σ ih=>cases b with
  |zero=>simpa[hget] using h
  |succ b=>simp at h; simpa[hget] using ih h
theorem ZF{σ:List ABlk}{b:Nat}{x:ABlk}(h:hget σ b=x)(hx:x≠.dead):σ[b]?=some x:=Qah h hx
theorem Qh(σ:List ABlk)(x:ABlk):hget (σ++[x]) σ.length=x:=QJ (by simp)
theorem Qf{σ:List ABlk}{b:Nat}{y:ABlk}(x:List ABlk)(h:hget σ b=y)(hy:y≠.dead):hget (σ++x) b=y:=by
 have:=ZF h hy;exact QJ (by rw[List.getElem?_append_left (YLG this).1]; exact this)
theorem Qi{σ:List ABlk}{b:Nat}{y:ABlk}(h:hget σ b=y)(hy:y≠.dead):b<σ.length:=(YLG (ZF h hy)).1
theorem Q8{α:Type}{b:Nat}{x:α}:∀ {σ:List α},b<σ.length→Yz b x σ=some (σ.set b x):=by
 intro σ h
 induction σ generalizing b with
 |nil=>simp at h
 |cons y σ ih=>cases b with
  |zero=>simp[Yz]
  |succ b=>simp at h; simp[Yz,ih h]
theorem YW{σ:List ABlk}{b:Nat}(x y:ABlk)(h:b<σ.length):upL σ ([(b,x)]++[(σ.length,y)])=some (σ.set b x++[y]):=by
 have hb:Nat.beq b σ.length=false:=by
  cases e:Nat.beq b σ.length with
  |false=>rfl
  |true=>have:=YNB e; omega
 simp[upL,hb,Q8 h]
theorem Yo{σ:List ABlk}{b:Nat}(x:ABlk)(h:b<σ.length):upL σ [(b,x)]=some (σ.set b x):=by
 have hb:Nat.beq b σ.length=false:=by
  cases e:Nat.beq b σ.length with
  |false=>rfl
  |true=>have:=YNB e; omega
 simp[upL,hb,Q8 h]
theorem Xj{σ:List ABlk}{b c:Nat}{x y:ABlk}(h:hget σ b=y)(hy:y≠.dead)(hc:c≠b):hget (σ.set c x) b=y:=by
 have:=ZF h hy;exact QJ (by rw[List.getElem?_set_ne hc]; exact this)
section
variable {α:Type} (A:Ans α)
theorem QaH(n:Nat)(σ:List ABlk)(x:AVal)(z:List AVal)(cs:List AVal)(hx:fill z [(0,n)] [x]=some cs)(hc:chunk n 1 cs=some [cs])(K:AVal→List ABlk→α) :
  A.wr (Zh n 1 z [(0,n)] [x] σ) σ K=K (.sl σ.length 0 1 true) (σ++[.rows n [cs]]):=by
 simp only[Zh,hx,hc,Xct,Qs,ZaG]
theorem XV{row:List AVal}(h:row.all AVal.cell=true):Ys [row]=true:=by simp[Ys,h]
theorem Qb1(row:List AVal):cut 0 (0+1) [row]=[row]:=rfl
theorem Xby(n by_:Nat)(σ:List ABlk)(row:List AVal)(hr:row.all AVal.cell=true)(hroom:194*by_≤2 ^ 48)(K:AVal→List ABlk→α) :
  A.wr (Qg n by_ [.nils,.sl σ.length 0 1 true] (σ++[.rows n [row]])) (σ++[.rows n [row]]) K=K (.sl (σ.length+1) 0 1 false) (σ++[.rows n [row]]++[.rows n [row]]):=by
 have h1:Qy n (σ++[.rows n [row]]) (.sl σ.length 0 1 true)=some ([row],[σ.length]):=by
  simp[Qy,Qh,Qb1];rfl
 have e:Qg n by_ [.nils,.sl σ.length 0 1 true] (σ++[.rows n [row]])=.ok (.sl (σ.length+1) 0 1 false) [σ.length] [(σ.length+1,.rows n [row])]:=by
  show ZB n by_ (σ++[.rows n [row]]) [] [] (.sl σ.length 0 1 true)=_;unfold ZB;simp only[h1,XV hr];simp;rw[show Nat.ble (194*by_) 281474976710656=true from Nat.ble_eq_true_of_le (by simpa using hroom)];rfl
 rw[e,Xct];have:=Qs (σ++[.rows n [row]]) (.rows n [row]);rw[List.length_append,List.length_singleton] at this;rw[this,ZaG]
theorem XbU(n by_:Nat)(σ:List ABlk)(b len:Nat)(ex:Bool)(rs:List (List AVal))(row:List AVal)(hb:hget σ b=.rows n rs)(hl:rs.length=len)(hr:row.all AVal.cell=true)(hroom:(2*(len+1)+192)*by_≤2 ^ 48)(K:AVal→List ABlk→α) :
  A.wr (Qg n by_ [.sl b 0 len ex,.sl σ.length 0 1 true] (σ++[.rows n [row]])) (σ++[.rows n [row]]) K=K (.sl (σ.length+1) 0 (len+1) false) (σ.set b .dead++[.rows n [row]]++[.rows n (rs++[row])]):=by
 have hlt:=Qi hb (by simp);have h1:Qy n (σ++[.rows n [row]]) (.sl σ.length 0 1 true)=some ([row],[σ.length]):=by
  simp[Qy,Qh,Qb1];rfl
 have h2:Nat.ble ((2*(len+1)+192)*by_) (2 ^ 48)=true:=Nat.ble_eq_true_of_le hroom;have hb2:=Qf [.rows n [row]] hb (by simp);have e:Qg n by_ [.sl b 0 len ex,.sl σ.length 0 1 true] (σ++[.rows n [row]])=.ok (.sl (σ.length+1) 0 (len+1) false) [σ.length] ([(b,.dead)]++[(σ.length+1,.rows n (rs++[row]))]):=by
  have:Qg n by_ [.sl b 0 len ex,.sl σ.length 0 1 true] (σ++[.rows n [row]])=ZB n by_ (σ++[.rows n [row]]) rs [(b,.dead)] (.sl σ.length 0 1 true):=by
   simp[Qg,Yav,hb2,hl]
  rw[this];unfold ZB;simp only[h1,XV hr,List.length_singleton,h2,Bool.and_self,cond_true,hl,List.length_append]
 rw[e,Xct];have:=YW (σ:=σ++[.rows n [row]]) (b:=b) .dead (.rows n (rs++[row])) (by simp; omega);rw[List.length_append,List.length_singleton] at this;rw[this,ZaG,List.set_append_left _ _ hlt]
end
end Go.Ah
end
section
namespace Go.Ah
section
variable {P:Program} {GL:Globs}
theorem Ya{r:SRes}{K:AVal→Prop}{v:AVal}{rd:List Nat}(h:r=.ok v rd [])(hK:K v):(W P GL).rd r K:=by rw[h]; exact hK
theorem Yk{r:SRes}{K:AVal→Prop}{v:AVal}(h:r=.ok v [] [])(hK:K v):(W P GL).pu r K:=by rw[h]; exact hK
theorem Zd{r:SRes}{σ σ':List ABlk}{K:AVal→List ABlk→Prop}{v:AVal}{rd:List Nat}{up:List (Nat×ABlk)}(h:r=.ok v rd up)(hu:upL σ up=some σ')(hK:K v σ'):(W P GL).wr r σ K:=by rw[h,Xct,hu]; exact hK
theorem Qj{r:SRes}{σ σ':List ABlk}{K:AVal→List Nat×List Nat→List ABlk→Prop}{v:AVal}{rd:List Nat}{up:List (Nat×ABlk)}(h:r=.ok v rd up)(hu:upL σ up=some σ')(hK:K v (rd,up.map (·.1)) σ'):(W P GL).dr r σ K:=by rw[h,Yc0,hu]; exact hK
theorem Qc{c:Bool}{a b:Prop}(ht:c=true→a)(hf:c=false→b):(W P GL).test (.bool c) a b:=⟨ht,hf⟩
theorem Zg{a b:Prop}(h:a):(W P GL).test (.bool true) a b:=⟨λ_=>h,(λe=>by cases e)⟩
theorem Xh{a b:Prop}(h:b):(W P GL).test (.bool false) a b:=⟨(λe=>by cases e),λ_=>h⟩
theorem QO{b:Bool}{k:Prop}(h:b=true)(hK:k):(W P GL).gd b k:=by rw[h]; exact hK
theorem Xm{β:Type}{o:Option β}{K:β→Prop}{v:β}(h:o=some v)(hK:K v):(W P GL).opt o K:=by rw[h]; exact hK
theorem Yb{w:Bool}{r:(AVal→Prop)→Prop}{K:AVal→Prop}(h:r K):(W P GL).gr (.bool w) w r K:=by
 cases w
 ·exact⟨(λe=>by cases e),λ_=>h⟩
 ·exact⟨λ_=>h,(λe=>by cases e)⟩
theorem Yc{w:Bool}{r:(AVal→List ABlk→Prop)→Prop}{σ:List ABlk}{K:AVal→List ABlk→Prop}(h:r K):(W P GL).gw (.bool w) w r σ K:=by
 cases w
 ·exact⟨(λe=>by cases e),λ_=>h⟩
 ·exact⟨λ_=>h,(λe=>by cases e)⟩
theorem Xb{c w:Bool}{r:(AVal→Prop)→Prop}{K:AVal→Prop}(hc:c = !w)(h:K (udf [(c,w)])):(W P GL).gr (.bool c) w r K:=by
 subst hc;cases w
 ·exact⟨λ_=>h,(λe=>by cases e)⟩
 ·exact⟨(λe=>by cases e),λ_=>h⟩
theorem Xf{c w:Bool}{r:(AVal→List ABlk→Prop)→Prop}{σ:List ABlk}{K:AVal→List ABlk→Prop}(hc:c = !w)(h:K (udf [(c,w)]) σ):(W P GL).gw (.bool c) w r σ K:=by
 subst hc;cases w
 ·exact⟨λ_=>h,(λe=>by cases e)⟩
 ·exact⟨(λe=>by cases e),λ_=>h⟩
theorem Zi{cs:List (Bool×Bool)}{q w:Bool}{r:(AVal→Prop)→Prop}{K:AVal→Prop}(hc:Yaf.holdNot cs=true)(h:K (udf (cs++[(q,w)]))):(W P GL).gr (.when cs (.bool q)) w r K:=by
 show (match Yaf.holdNot cs with
  |true=>K (udf (cs++[(q,w)]))
  | false=>(W P GL).stop)
 rw[hc]; exact h
theorem Xi{cs:List (Bool×Bool)}{q w:Bool}{r:(AVal→List ABlk→Prop)→Prop}{σ:List ABlk}{K:AVal→List ABlk→Prop}(hc:Yaf.holdNot cs=true)(h:K (udf (cs++[(q,w)])) σ):(W P GL).gw (.when cs (.bool q)) w r σ K:=by
 show (match Yaf.holdNot cs with
  |true=>K (udf (cs++[(q,w)])) σ
  | false=>(W P GL).stop)
 rw[hc]; exact h
theorem QI(n:Nat){F:(List AVal→List ABlk→Prop)→List AVal→List ABlk→Prop}{vs:List AVal}{σ:List ABlk}(h:iterA False n F vs σ):(W P GL).loop F vs σ:=⟨n,h⟩
theorem Ym{n:Nat}{F:(List AVal→List ABlk→Prop)→List AVal→List ABlk→Prop}{vs:List AVal}{σ:List ABlk}(h:F (iterA False n F) vs σ):iterA False (n+1) F vs σ:=h
end
def pos:List Nat→Nat→Option Nat
 |[],_=>none
 |x::l,n=>match Nat.beq x n with
  |true=>some 0
  |false=>match pos l n with
   |some k=>some (k+1)
   |none=>none
theorem YaG:∀ {l:List Nat} {n k:Nat},pos l n=some k→l[k]?=some n
 |[],_,_,h=>by cases h
 |x::l,n,k,h=>by
  unfold pos at h;split at h
  ·rename_i hb; cases h; simp[YNB hb]
  ·split at h
   ·rename_i k' hk; cases h; simpa using YaG hk
   ·cases h
theorem Ych:∀ {l:List Nat} {k:Nat},l.Nodup→(h:k<l.length)→pos l l[k]=some k
 |[],_,_,h=>by simp at h
 |x::l,0,_,_=>by simp[pos]
 |x::l,k+1,hn,h=>by
  have hn':=List.nodup_cons.1 hn;have hne:Nat.beq x (l[k]'(by simpa using h))=false:=by
   cases e:Nat.beq x (l[k]'(by simpa using h)) with
   |false=>rfl
   |true=>exact(hn'.1 (by rw[YNB e]; exact List.getElem_mem _)).elim
  simp only[List.getElem_cons_succ,pos,hne,Ych hn'.2 (by simpa using h)]
def gcH(ids:List Nat)(σ:List ABlk):List ABlk:=ids.map λb=>(hget σ b).mapV (AVal.ren (pos ids))
theorem Qan{σ:List ABlk}{b:Nat}(h:b<σ.length):σ[b]?=some (hget σ b):=by
 rw[List.getElem?_eq_getElem h,QJ (List.getElem?_eq_getElem h)]
theorem Tidy.gc(ids:List Nat){σ:List ABlk}{v:AVal}(hn:ids.Nodup)(hin:∀b∈ids,b<σ.length){σ2:List ABlk}{v2:AVal}(h1:gcH ids σ=σ2)(h2:v.ren (pos ids)=v2):Tidy σ v σ2 v2:=by
 subst h1; subst h2;refine Tidy.ren ⟨λx y k e1 e2=>?_,λx k e=>?_,λk hk=>?_⟩ v
 ·have q1:=YaG e1;have q2:=YaG e2;rw[q1] at q2; exact Option.some.inj q2
 ·have q:=YaG e;have hx:x∈ids:=List.mem_of_getElem? q;exact⟨_,Qan (hin x hx),by simp[gcH,q]⟩
 ·simp only[gcH,List.length_map] at hk;exact⟨_,Ych hn hk⟩
end Go.Ah
end
section
namespace Go.Ah
section
variable {P:Program} {GL:Globs}
theorem Qcn{c d:Bool}{K:AVal→Prop}{r1:SRes}{r2:AVal→SRes}{σ:List ABlk}{v1:AVal}{q1 q2:List Nat}(h1:c=true→r1=.ok v1 q1 [])(h2:c=true→r2 v1=.ok (.bool d) q2 [])(hK:K (.bool (c&&d))) :
  (W P GL).gr (.bool c) true (λk=>(W P GL).rd r1 k) λt1=>(W P GL).gr (.bool c) true (λk=>(W P GL).rd (r2 t1) k) λt2=>(W P GL).rd (Zn [.bool c,t2,.bool false] σ) K:=by
 cases c with
 |true=>exact Yb (Ya (h1 rfl) (Yb (Ya (h2 rfl) (Ya rfl hK))))
 |false=>exact Xb rfl (Xb rfl (Ya rfl hK))
theorem Ybl{c d:Bool}{K:AVal→Prop}{r1:SRes}{r2:AVal→SRes}{r3:AVal→AVal→SRes}{r4:AVal→AVal→AVal→SRes}{r5:AVal→AVal→AVal→AVal→SRes}{σ:List ABlk}{v1 v2 v3 v4:AVal}{q1 q2 q3 q4 q5:List Nat}(h1:c=true→r1=.ok v1 q1 [])(h2:c=true→r2 v1=.ok v2 q2 [])(h3:c=true→r3 v1 v2=.ok v3 q3 [])(h4:c=true→r4 v1 v2 v3=.ok v4 q4 [])(h5:c=true→r5 v1 v2 v3 v4=.ok (.bool d) q5 [])(hK:K (.bool (c&&d))) :
  (W P GL).gr (.bool c) true (λk=>(W P GL).rd r1 k) λt1=>(W P GL).gr (.bool c) true (λk=>(W P GL).rd (r2 t1) k) λt2=>(W P GL).gr (.bool c) true (λk=>(W P GL).rd (r3 t1 t2) k) λt3=>(W P GL).gr (.bool c) true (λk=>(W P GL).rd (r4 t1 t2 t3) k) λt4=>(W P GL).gr (.bool c) true (λk=>(W P GL).rd (r5 t1 t2 t3 t4) k) λt5=>(W P GL).rd (Zn [.bool c,t5,.bool false] σ) K:=by
 cases c with
 |true=>exact Yb (Ya (h1 rfl) (Yb (Ya (h2 rfl) (Yb (Ya (h3 rfl) (Yb (Ya (h4 rfl) (Yb (Ya (h5 rfl) (Ya rfl hK))))))))))
 |false=>exact Xb rfl (Xb rfl (Xb rfl (Xb rfl (Xb rfl (Ya rfl hK)))))
theorem XaQ{c d:Bool}{K:AVal→Prop}{r1:SRes}{r2:AVal→SRes}{σ:List ABlk}{v1:AVal}{q1 q2:List Nat}(h1:c=false→r1=.ok v1 q1 [])(h2:c=false→r2 v1=.ok (.bool d) q2 [])(hK:K (.bool (c||d))) :
  (W P GL).gr (.bool c) false (λk=>(W P GL).rd r1 k) λt1=>(W P GL).gr (.bool c) false (λk=>(W P GL).rd (r2 t1) k) λt2=>(W P GL).rd (Zn [.bool c,.bool true,t2] σ) K:=by
 cases c with
 |false=>exact Yb (Ya (h1 rfl) (Yb (Ya (h2 rfl) (Ya rfl hK))))
 |true=>exact Xb rfl (Xb rfl (Ya rfl hK))
theorem QaQ{c d:Bool}{K:AVal→Prop}{r1:SRes}{r2:AVal→SRes}{r3:AVal→AVal→SRes}{σ:List ABlk}{v1 v2:AVal}{q1 q2 q3:List Nat}(h1:c=false→r1=.ok v1 q1 [])(h2:c=false→r2 v1=.ok v2 q2 [])(h3:c=false→r3 v1 v2=.ok (.bool d) q3 [])(hK:K (.bool (c||d))) :
  (W P GL).gr (.bool c) false (λk=>(W P GL).rd r1 k) λt1=>(W P GL).gr (.bool c) false (λk=>(W P GL).rd (r2 t1) k) λt2=>(W P GL).gr (.bool c) false (λk=>(W P GL).rd (r3 t1 t2) k) λt3=>(W P GL).rd (Zn [.bool c,.bool true,t3] σ) K:=by
 cases c with
 |false=>exact Yb (Ya (h1 rfl) (Yb (Ya (h2 rfl) (Yb (Ya (h3 rfl) (Ya rfl hK))))))
 |true=>exact Xb rfl (Xb rfl (Xb rfl (Ya rfl hK)))
theorem Zc6{c d:Bool}{K:AVal→Prop}{r1:SRes}{r2:AVal→SRes}{r3:AVal→AVal→SRes}{r4:AVal→AVal→AVal→SRes}{σ:List ABlk}{v1 v2 v3:AVal}{q1 q2 q3 q4:List Nat}(h1:c=false→r1=.ok v1 q1 [])(h2:c=false→r2 v1=.ok v2 q2 [])(h3:c=false→r3 v1 v2=.ok v3 q3 [])(h4:c=false→r4 v1 v2 v3=.ok (.bool d) q4 [])(hK:K (.bool (c||d))) :
  (W P GL).gr (.bool c) false (λk=>(W P GL).rd r1 k) λt1=>(W P GL).gr (.bool c) false (λk=>(W P GL).rd (r2 t1) k) λt2=>(W P GL).gr (.bool c) false (λk=>(W P GL).rd (r3 t1 t2) k) λt3=>(W P GL).gr (.bool c) false (λk=>(W P GL).rd (r4 t1 t2 t3) k) λt4=>(W P GL).rd (Zn [.bool c,.bool true,t4] σ) K:=by
 cases c with
 |false=>exact Yb (Ya (h1 rfl) (Yb (Ya (h2 rfl) (Yb (Ya (h3 rfl) (Yb (Ya (h4 rfl) (Ya rfl hK))))))))
 |true=>exact Xb rfl (Xb rfl (Xb rfl (Xb rfl (Ya rfl hK))))
theorem Qcp{c d:Bool}{K:AVal→Prop}{r1:SRes}{r2:AVal→SRes}{r3:AVal→AVal→SRes}{r4:AVal→AVal→AVal→SRes}{r5:AVal→AVal→AVal→AVal→SRes}{σ:List ABlk}{v1 v2 v3 v4:AVal}{q1 q2 q3 q4 q5:List Nat}(h1:c=false→r1=.ok v1 q1 [])(h2:c=false→r2 v1=.ok v2 q2 [])(h3:c=false→r3 v1 v2=.ok v3 q3 [])(h4:c=false→r4 v1 v2 v3=.ok v4 q4 [])(h5:c=false→r5 v1 v2 v3 v4=.ok (.bool d) q5 [])(hK:K (.bool (c||d))) :
  (W P GL).gr (.bool c) false (λk=>(W P GL).rd r1 k) λt1=>(W P GL).gr (.bool c) false (λk=>(W P GL).rd (r2 t1) k) λt2=>(W P GL).gr (.bool c) false (λk=>(W P GL).rd (r3 t1 t2) k) λt3=>(W P GL).gr (.bool c) false (λk=>(W P GL).rd (r4 t1 t2 t3) k) λt4=>(W P GL).gr (.bool c) false (λk=>(W P GL).rd (r5 t1 t2 t3 t4) k) λt5=>(W P GL).rd (Zn [.bool c,.bool true,t5] σ) K:=by
 cases c with
 |false=>exact Yb (Ya (h1 rfl) (Yb (Ya (h2 rfl) (Yb (Ya (h3 rfl) (Yb (Ya (h4 rfl) (Yb (Ya (h5 rfl) (Ya rfl hK))))))))))
 |true=>exact Xb rfl (Xb rfl (Xb rfl (Xb rfl (Xb rfl (Ya rfl hK)))))
theorem XcK{c d:Bool}{K:AVal→Prop}{r1:SRes}{r2:AVal→SRes}{r3:AVal→AVal→SRes}{r4:AVal→AVal→AVal→SRes}{r5:AVal→AVal→AVal→AVal→SRes}{r6:AVal→AVal→AVal→AVal→AVal→SRes}{σ:List ABlk}{v1 v2 v3 v4 v5:AVal}{q1 q2 q3 q4 q5 q6:List Nat}(h1:c=false→r1=.ok v1 q1 [])(h2:c=false→r2 v1=.ok v2 q2 [])(h3:c=false→r3 v1 v2=.ok v3 q3 [])(h4:c=false→r4 v1 v2 v3=.ok v4 q4 [])(h5:c=false→r5 v1 v2 v3 v4=.ok v5 q5 [])(h6:c=false→r6 v1 v2 v3 v4 v5=.ok (.bool d) q6 [])(hK:K (.bool (c||d))) :
  (W P GL).gr (.bool c) false (λk=>(W P GL).rd r1 k) λt1=>(W P GL).gr (.bool c) false (λk=>(W P GL).rd (r2 t1) k) λt2=>(W P GL).gr (.bool c) false (λk=>(W P GL).rd (r3 t1 t2) k) λt3=>(W P GL).gr (.bool c) false (λk=>(W P GL).rd (r4 t1 t2 t3) k) λt4=>(W P GL).gr (.bool c) false (λk=>(W P GL).rd (r5 t1 t2 t3 t4) k) λt5=>(W P GL).gr (.bool c) false (λk=>(W P GL).rd (r6 t1 t2 t3 t4 t5) k) λt6=>(W P GL).rd (Zn [.bool c,.bool true,t6] σ) K:=by
 cases c with
 |false=>exact Yb (Ya (h1 rfl) (Yb (Ya (h2 rfl) (Yb (Ya (h3 rfl) (Yb (Ya (h4 rfl) (Yb (Ya (h5 rfl) (Yb (Ya (h6 rfl) (Ya rfl hK))))))))))))
 |true=>exact Xb rfl (Xb rfl (Xb rfl (Xb rfl (Xb rfl (Xb rfl (Ya rfl hK))))))
theorem QcK{c d:Bool}{K:AVal→Prop}{r1:SRes}{r2:AVal→SRes}{r3:AVal→AVal→SRes}{r4:AVal→AVal→AVal→SRes}{r5:AVal→AVal→AVal→AVal→SRes}{r6:AVal→AVal→AVal→AVal→AVal→SRes}{r7:AVal→AVal→AVal→AVal→AVal→AVal→SRes}{σ:List ABlk}{v1 v2 v3 v4 v5 v6:AVal}{q1 q2 q3 q4 q5 q6 q7:List Nat}(h1:c=false→r1=.ok v1 q1 [])(h2:c=false→r2 v1=.ok v2 q2 [])(h3:c=false→r3 v1 v2=.ok v3 q3 [])(h4:c=false→r4 v1 v2 v3=.ok v4 q4 [])(h5:c=false→r5 v1 v2 v3 v4=.ok v5 q5 [])(h6:c=false→r6 v1 v2 v3 v4 v5=.ok v6 q6 [])(h7:c=false→r7 v1 v2 v3 v4 v5 v6=.ok (.bool d) q7 [])(hK:K (.bool (c||d))) :
  (W P GL).gr (.bool c) false (λk=>(W P GL).rd r1 k) λt1=>(W P GL).gr (.bool c) false (λk=>(W P GL).rd (r2 t1) k) λt2=>(W P GL).gr (.bool c) false (λk=>(W P GL).rd (r3 t1 t2) k) λt3=>(W P GL).gr (.bool c) false (λk=>(W P GL).rd (r4 t1 t2 t3) k) λt4=>(W P GL).gr (.bool c) false (λk=>(W P GL).rd (r5 t1 t2 t3 t4) k) λt5=>(W P GL).gr (.bool c) false (λk=>(W P GL).rd (r6 t1 t2 t3 t4 t5) k) λt6=>(W P GL).gr (.bool c) false (λk=>(W P GL).rd (r7 t1 t2 t3 t4 t5 t6) k) λt7=>(W P GL).rd (Zn [.bool c,.bool true,t7] σ) K:=by
 cases c with
 |false=>exact Yb (Ya (h1 rfl) (Yb (Ya (h2 rfl) (Yb (Ya (h3 rfl) (Yb (Ya (h4 rfl) (Yb (Ya (h5 rfl) (Yb (Ya (h6 rfl) (Yb (Ya (h7 rfl) (Ya rfl hK))))))))))))))
 |true=>exact Xb rfl (Xb rfl (Xb rfl (Xb rfl (Xb rfl (Xb rfl (Xb rfl (Ya rfl hK)))))))
theorem Yc6{c d:Bool}{K:AVal→Prop}{r1:SRes}{r2:AVal→SRes}{r3:AVal→AVal→SRes}{r4:AVal→AVal→AVal→SRes}{r5:AVal→AVal→AVal→AVal→SRes}{r6:AVal→AVal→AVal→AVal→AVal→SRes}{r7:AVal→AVal→AVal→AVal→AVal→AVal→SRes}{r8:AVal→AVal→AVal→AVal→AVal→AVal→AVal→SRes}{σ:List ABlk}{v1 v2 v3 v4 v5 v6 v7:AVal}{q1 q2 q3 q4 q5 q6 q7 q8:List Nat}(h1:c=false→r1=.ok v1 q1 [])(h2:c=false→r2 v1=.ok v2 q2 [])(h3:c=false→r3 v1 v2=.ok v3 q3 [])(h4:c=false→r4 v1 v2 v3=.ok v4 q4 [])(h5:c=false→r5 v1 v2 v3 v4=.ok v5 q5 [])(h6:c=false→r6 v1 v2 v3 v4 v5=.ok v6 q6 [])(h7:c=false→r7 v1 v2 v3 v4 v5 v6=.ok v7 q7 [])(h8:c=false→r8 v1 v2 v3 v4 v5 v6 v7=.ok (.bool d) q8 [])(hK:K (.bool (c||d))) :
  (W P GL).gr (.bool c) false (λk=>(W P GL).rd r1 k) λt1=>(W P GL).gr (.bool c) false (λk=>(W P GL).rd (r2 t1) k) λt2=>(W P GL).gr (.bool c) false (λk=>(W P GL).rd (r3 t1 t2) k) λt3=>(W P GL).gr (.bool c) false (λk=>(W P GL).rd (r4 t1 t2 t3) k) λt4=>(W P GL).gr (.bool c) false (λk=>(W P GL).rd (r5 t1 t2 t3 t4) k) λt5=>(W P GL).gr (.bool c) false (λk=>(W P GL).rd (r6 t1 t2 t3 t4 t5) k) λt6=>(W P GL).gr (.bool c) false (λk=>(W P GL).rd (r7 t1 t2 t3 t4 t5 t6) k) λt7=>(W P GL).gr (.bool c) false (λk=>(W P GL).rd (r8 t1 t2 t3 t4 t5 t6 t7) k) λt8=>(W P GL).rd (Zn [.bool c,.bool true,t8] σ) K:=by
 cases c with
 |false=>exact Yb (Ya (h1 rfl) (Yb (Ya (h2 rfl) (Yb (Ya (h3 rfl) (Yb (Ya (h4 rfl) (Yb (Ya (h5 rfl) (Yb (Ya (h6 rfl) (Yb (Ya (h7 rfl) (Yb (Ya (h8 rfl) (Ya rfl hK))))))))))))))))
 |true=>exact Xb rfl (Xb rfl (Xb rfl (Xb rfl (Xb rfl (Xb rfl (Xb rfl (Xb rfl (Ya rfl hK))))))))
theorem YcT{c d:Bool}{K:AVal→Prop}{r1:SRes}{r2:AVal→SRes}{r3:AVal→AVal→SRes}{r4:AVal→AVal→AVal→SRes}{r5:AVal→AVal→AVal→AVal→SRes}{r6:AVal→AVal→AVal→AVal→AVal→SRes}{r7:AVal→AVal→AVal→AVal→AVal→AVal→SRes}{r8:AVal→AVal→AVal→AVal→AVal→AVal→AVal→SRes}{r9:AVal→AVal→AVal→AVal→AVal→AVal→AVal→AVal→SRes}{r10:AVal→AVal→AVal→AVal→AVal→AVal→AVal→AVal→AVal→SRes}{σ:List ABlk}{v1 v2 v3 v4 v5 v6 v7 v8 v9:AVal}{q1 q2 q3 q4 q5 q6 q7 q8 q9 q10:List Nat}(h1:c=false→r1=.ok v1 q1 [])(h2:c=false→r2 v1=.ok v2 q2 [])(h3:c=false→r3 v1 v2=.ok v3 q3 [])(h4:c=false→r4 v1 v2 v3=.ok v4 q4 [])(h5:c=false→r5 v1 v2 v3 v4=.ok v5 q5 [])(h6:c=false→r6 v1 v2 v3 v4 v5=.ok v6 q6 [])(h7:c=false→r7 v1 v2 v3 v4 v5 v6=.ok v7 q7 [])(h8:c=false→r8 v1 v2 v3 v4 v5 v6 v7=.ok v8 q8 [])(h9:c=false→r9 v1 v2 v3 v4 v5 v6 v7 v8=.ok v9 q9 [])(h10:c=false→r10 v1 v2 v3 v4 v5 v6 v7 v8 v9=.ok (.bool d) q10 [])(hK:K (.bool (c||d))) :
  (W P GL).gr (.bool c) false (λk=>(W P GL).rd r1 k) λt1=>(W P GL).gr (.bool c) false (λk=>(W P GL).rd (r2 t1) k) λt2=>(W P GL).gr (.bool c) false (λk=>(W P GL).rd (r3 t1 t2) k) λt3=>(W P GL).gr (.bool c) false (λk=>(W P GL).rd (r4 t1 t2 t3) k) λt4=>(W P GL).gr (.bool c) false (λk=>(W P GL).rd (r5 t1 t2 t3 t4) k) λt5=>(W P GL).gr (.bool c) false (λk=>(W P GL).rd (r6 t1 t2 t3 t4 t5) k) λt6=>(W P GL).gr (.bool c) false (λk=>(W P GL).rd (r7 t1 t2 t3 t4 t5 t6) k) λt7=>(W P GL).gr (.bool c) false (λk=>(W P GL).rd (r8 t1 t2 t3 t4 t5 t6 t7) k) λt8=>(W P GL).gr (.bool c) false (λk=>(W P GL).rd (r9 t1 t2 t3 t4 t5 t6 t7 t8) k) λt9=>(W P GL).gr (.bool c) false (λk=>(W P GL).rd (r10 t1 t2 t3 t4 t5 t6 t7 t8 t9) k) λt10=>(W P GL).rd (Zn [.bool c,.bool true,t10] σ) K:=by
 cases c with
 |false=>exact Yb (Ya (h1 rfl) (Yb (Ya (h2 rfl) (Yb (Ya (h3 rfl) (Yb (Ya (h4 rfl) (Yb (Ya (h5 rfl) (Yb (Ya (h6 rfl) (Yb (Ya (h7 rfl) (Yb (Ya (h8 rfl) (Yb (Ya (h9 rfl) (Yb (Ya (h10 rfl) (Ya rfl hK))))))))))))))))))))
 |true=>exact Xb rfl (Xb rfl (Xb rfl (Xb rfl (Xb rfl (Xb rfl (Xb rfl (Xb rfl (Xb rfl (Xb rfl (Ya rfl hK))))))))))
theorem Zco{c d:Bool}{K:List ABlk→AVal→Prop}{r1:SRes}{cl:AVal→(AVal→List ABlk→Prop)→Prop}{s1:AVal→List ABlk→SRes}{σ:List ABlk}{v1 u0:AVal}{q1 p1:List Nat}(h1:c=true→r1=.ok v1 q1 [])(hc:c=true→∀k:AVal→List ABlk→Prop,k u0 σ→cl v1 k)(g1:c=true→s1 u0 σ=.ok (.bool d) p1 [])(hK:K σ (.bool (c&&d))) :
  (W P GL).gr (.bool c) true (λk=>(W P GL).rd r1 k) λt1=>(W P GL).gw (.bool c) true (λk=>cl t1 k) σ λw0 τ=>(W P GL).gr (.bool c) true (λk=>(W P GL).rd (s1 w0 τ) k) λw1=>(W P GL).rd (Zn [.bool c,w1,.bool false] τ) (K τ):=by
 cases c with
 |true=>exact Yb (Ya (h1 rfl) (Yc (hc rfl _ (Yb (Ya (g1 rfl) (Ya rfl hK))))))
 |false=>exact Xb rfl (Xf rfl (Xb rfl (Ya rfl hK)))
theorem Yco{c d:Bool}{K:List ABlk→AVal→Prop}{r1:SRes}{r2:AVal→SRes}{r3:AVal→AVal→SRes}{r4:AVal→AVal→AVal→SRes}{cl:AVal→AVal→AVal→AVal→(AVal→List ABlk→Prop)→Prop} {σ:List ABlk}{v1 v2 v3 v4:AVal}{q1 q2 q3 q4:List Nat}(h1:c=true→r1=.ok v1 q1 [])(h2:c=true→r2 v1=.ok v2 q2 [])(h3:c=true→r3 v1 v2=.ok v3 q3 [])(h4:c=true→r4 v1 v2 v3=.ok v4 q4 [])(hc:c=true→∀k:AVal→List ABlk→Prop,k (.bool d) σ→cl v1 v2 v3 v4 k)(hK:K σ (.bool (c&&d))) :
  (W P GL).gr (.bool c) true (λk=>(W P GL).rd r1 k) λt1=>(W P GL).gr (.bool c) true (λk=>(W P GL).rd (r2 t1) k) λt2=>(W P GL).gr (.bool c) true (λk=>(W P GL).rd (r3 t1 t2) k) λt3=>(W P GL).gr (.bool c) true (λk=>(W P GL).rd (r4 t1 t2 t3) k) λt4=>(W P GL).gw (.bool c) true (λk=>cl t1 t2 t3 t4 k) σ λw0 τ=>(W P GL).rd (Zn [.bool c,w0,.bool false] τ) (K τ):=by
 cases c with
 |true=>exact Yb (Ya (h1 rfl) (Yb (Ya (h2 rfl) (Yb (Ya (h3 rfl) (Yb (Ya (h4 rfl) (Yc (hc rfl _ (Ya rfl hK))))))))))
 |false=>exact Xb rfl (Xb rfl (Xb rfl (Xb rfl (Xf rfl (Ya rfl hK)))))
theorem Xbl{c d:Bool}{K:List ABlk→AVal→Prop}{r1:SRes}{cl:AVal→(AVal→List ABlk→Prop)→Prop} {σ:List ABlk}{v1:AVal}{q1:List Nat}(h1:c=false→r1=.ok v1 q1 [])(hc:c=false→∀k:AVal→List ABlk→Prop,k (.bool d) σ→cl v1 k)(hK:K σ (.bool (c||d))) :
  (W P GL).gr (.bool c) false (λk=>(W P GL).rd r1 k) λt1=>(W P GL).gw (.bool c) false (λk=>cl t1 k) σ λw0 τ=>(W P GL).rd (Zn [.bool c,.bool true,w0] τ) (K τ):=by
 cases c with
 |false=>exact Yb (Ya (h1 rfl) (Yc (hc rfl _ (Ya rfl hK))))
 |true=>exact Xb rfl (Xf rfl (Ya rfl hK))
theorem Zcq{c d:Bool}{K:List ABlk→AVal→Prop}{r1:SRes}{cl:AVal→(AVal→List ABlk→Prop)→Prop}{s1:AVal→List ABlk→SRes}{σ:List ABlk}{v1 u0:AVal}{q1 p1:List Nat}(h1:c=false→r1=.ok v1 q1 [])(hc:c=false→∀k:AVal→List ABlk→Prop,k u0 σ→cl v1 k)(g1:c=false→s1 u0 σ=.ok (.bool d) p1 [])(hK:K σ (.bool (c||d))) :
  (W P GL).gr (.bool c) false (λk=>(W P GL).rd r1 k) λt1=>(W P GL).gw (.bool c) false (λk=>cl t1 k) σ λw0 τ=>(W P GL).gr (.bool c) false (λk=>(W P GL).rd (s1 w0 τ) k) λw1=>(W P GL).rd (Zn [.bool c,.bool true,w1] τ) (K τ):=by
 cases c with
 |false=>exact Yb (Ya (h1 rfl) (Yc (hc rfl _ (Yb (Ya (g1 rfl) (Ya rfl hK))))))
 |true=>exact Xb rfl (Xf rfl (Xb rfl (Ya rfl hK)))
theorem ZaR{c d:Bool}{K:List ABlk→AVal→Prop}{r1:SRes}{r2:AVal→SRes}{cl:AVal→AVal→(AVal→List ABlk→Prop)→Prop}{s1:AVal→List ABlk→SRes}{σ:List ABlk}{v1 v2 u0:AVal}{q1 q2 p1:List Nat}(h1:c=false→r1=.ok v1 q1 [])(h2:c=false→r2 v1=.ok v2 q2 [])(hc:c=false→∀k:AVal→List ABlk→Prop,k u0 σ→cl v1 v2 k)(g1:c=false→s1 u0 σ=.ok (.bool d) p1 [])(hK:K σ (.bool (c||d))) :
  (W P GL).gr (.bool c) false (λk=>(W P GL).rd r1 k) λt1=>(W P GL).gr (.bool c) false (λk=>(W P GL).rd (r2 t1) k) λt2=>(W P GL).gw (.bool c) false (λk=>cl t1 t2 k) σ λw0 τ=>(W P GL).gr (.bool c) false (λk=>(W P GL).rd (s1 w0 τ) k) λw1=>(W P GL).rd (Zn [.bool c,.bool true,w1] τ) (K τ):=by
 cases c with
 |false=>exact Yb (Ya (h1 rfl) (Yb (Ya (h2 rfl) (Yc (hc rfl _ (Yb (Ya (g1 rfl) (Ya rfl hK))))))))
 |true=>exact Xb rfl (Xb rfl (Xf rfl (Xb rfl (Ya rfl hK))))
theorem Ycq{c d:Bool}{K:List ABlk→AVal→Prop}{r1:SRes}{r2:AVal→SRes}{r3:AVal→AVal→SRes}{cl:AVal→AVal→AVal→(AVal→List ABlk→Prop)→Prop} {σ:List ABlk}{v1 v2 v3:AVal}{q1 q2 q3:List Nat}(h1:c=false→r1=.ok v1 q1 [])(h2:c=false→r2 v1=.ok v2 q2 [])(h3:c=false→r3 v1 v2=.ok v3 q3 [])(hc:c=false→∀k:AVal→List ABlk→Prop,k (.bool d) σ→cl v1 v2 v3 k)(hK:K σ (.bool (c||d))) :
  (W P GL).gr (.bool c) false (λk=>(W P GL).rd r1 k) λt1=>(W P GL).gr (.bool c) false (λk=>(W P GL).rd (r2 t1) k) λt2=>(W P GL).gr (.bool c) false (λk=>(W P GL).rd (r3 t1 t2) k) λt3=>(W P GL).gw (.bool c) false (λk=>cl t1 t2 t3 k) σ λw0 τ=>(W P GL).rd (Zn [.bool c,.bool true,w0] τ) (K τ):=by
 cases c with
 |false=>exact Yb (Ya (h1 rfl) (Yb (Ya (h2 rfl) (Yb (Ya (h3 rfl) (Yc (hc rfl _ (Ya rfl hK))))))))
 |true=>exact Xb rfl (Xb rfl (Xb rfl (Xf rfl (Ya rfl hK))))
theorem Qbl{c d:Bool}{K:List ABlk→AVal→Prop}{r1:SRes}{r2:AVal→SRes}{r3:AVal→AVal→SRes}{r4:AVal→AVal→AVal→SRes}{cl:AVal→AVal→AVal→AVal→(AVal→List ABlk→Prop)→Prop}{s1:AVal→List ABlk→SRes}{σ:List ABlk}{v1 v2 v3 v4 u0:AVal}{q1 q2 q3 q4 p1:List Nat}(h1:c=false→r1=.ok v1 q1 [])(h2:c=false→r2 v1=.ok v2 q2 [])(h3:c=false→r3 v1 v2=.ok v3 q3 [])(h4:c=false→r4 v1 v2 v3=.ok v4 q4 [])(hc:c=false→∀k:AVal→List ABlk→Prop,k u0 σ→cl v1 v2 v3 v4 k)(g1:c=false→s1 u0 σ=.ok (.bool d) p1 [])(hK:K σ (.bool (c||d))) :
  (W P GL).gr (.bool c) false (λk=>(W P GL).rd r1 k) λt1=>(W P GL).gr (.bool c) false (λk=>(W P GL).rd (r2 t1) k) λt2=>(W P GL).gr (.bool c) false (λk=>(W P GL).rd (r3 t1 t2) k) λt3=>(W P GL).gr (.bool c) false (λk=>(W P GL).rd (r4 t1 t2 t3) k) λt4=>(W P GL).gw (.bool c) false (λk=>cl t1 t2 t3 t4 k) σ λw0 τ=>(W P GL).gr (.bool c) false (λk=>(W P GL).rd (s1 w0 τ) k) λw1=>(W P GL).rd (Zn [.bool c,.bool true,w1] τ) (K τ):=by
 cases c with
 |false=>exact Yb (Ya (h1 rfl) (Yb (Ya (h2 rfl) (Yb (Ya (h3 rfl) (Yb (Ya (h4 rfl) (Yc (hc rfl _ (Yb (Ya (g1 rfl) (Ya rfl hK))))))))))))
 |true=>exact Xb rfl (Xb rfl (Xb rfl (Xb rfl (Xf rfl (Xb rfl (Ya rfl hK))))))
end
end Go.Ah
end
section
namespace Go.Ah
def YaY(fp:List Nat)(n:Nat):Nat→List ABlk→List ABlk
 |_,[]=>[]
 |i,x::l=>(bif inL i fp then x.mapV (AVal.ren (ltM n)) else .dead)::YaY fp n (i+1) l
def maskR(fp:List Nat)(σ:List ABlk):List ABlk:=YaY fp σ.length 0 σ
theorem XaY(fp:List Nat)(n:Nat):∀(l:List ABlk) (i j:Nat),(YaY fp n i l)[j]?=(l[j]?).map λx=>bif inL (i+j) fp then x.mapV (AVal.ren (ltM n)) else .dead
 |[],i,j=>by simp[YaY]
 |x::l,i,0=>by simp[YaY]
 |x::l,i,j+1=>by
  simp only[YaY,List.getElem?_cons_succ];rw[XaY fp n l (i+1) j,show i+1+j=i+(j+1) by omega]
theorem ZaN(fp:List Nat)(σ:List ABlk)(j:Nat):(maskR fp σ)[j]?=(σ[j]?).map λx=>bif inL j fp then x.mapV (AVal.ren (ltM σ.length)) else .dead:=by
 rw[maskR,XaY,Nat.zero_add]
theorem ZbE(F:Nat→ABlk):∀(keys:List Nat) (h:Hp) (b:Nat),hups h (keys.map λb=>(b,F b)) b=if b∈keys then some (F b) else h b
 |[],h,b=>by simp[hups]
 |x::keys,h,b=>by
  simp only[List.map_cons,hups];rw[ZbE F keys];by_cases h1:b∈keys
  ·simp[h1]
  ·rw[if_neg h1];by_cases h2:b=x
   ·subst h2; simp[hup]
   ·simp[hup,h1,h2]
section
variable {P:Program} {GL:Globs}
theorem Xa8{f:FuncId}{F:MFn}(ok:FnOk P GL f F){xs xs':List AVal}(hn:xs.length=F.np)(σ:List ABlk)(fp ids:List Nat)(hfp:∀b∈fp,b∈ids)(hids:∀b∈ids,b<σ.length){v:AVal}{k:Nat}{τ τ':List ABlk}
 (hxs:renL (ltM σ.length) xs=xs')(hτ:maskR fp σ=τ)(h:Awp P GL F.n F.body (frame0 xs') τ (λe ρ s=>(e=.normal∨e=.ret)∧retV F.rets ρ s=some v∧s=τ'))(hk:τ'.length=σ.length+k) :
  ACall P GL f xs (hp σ) (v.ren (keepM ids σ.length k)) ids ((fp++List.range' σ.length k).map λb=>(b,(hget τ' b).mapV (AVal.ren (keepM ids σ.length k)))):=by
 intro w0 L g hq w vs r hx hrd hup;subst hxs; subst hτ
 let dm:CB:=⟨0,0,0,true⟩
 let c':Own:=λb=>if b<σ.length then some ((g.c b).getD dm) else none
 let lb:List Nat:=fp.filterMap λb=>match g.c b,σ[b]? with
  |some cb,some x=>bif x.live && !cb.virt then some cb.blk else none
  |_,_=>none
 have hknown:∀b∈ids,∃cb,g.c b=some cb∧c' b=some cb∧hq b=σ[b]?:=by
  intro b hb;have hl:=hids b hb;have e1:hq b=σ[b]?:=hrd b hb;obtain⟨cb,hcb⟩:=r.dom b σ[b] (by rw[e1]; simp[hl]);exact⟨cb,hcb,by simp only[c']; rw[if_pos hl,hcb]; rfl,e1⟩
 have hlb:∀b∈fp,∀cb y,g.c b=some cb→σ[b]?=some y→y.live=true→cb.virt=false→cb.blk∈lb:=by
  intro b hb cb y hcb hy hl hv;simp only[lb,List.mem_filterMap];exact⟨b,hb,by rw[hcb,hy]; simp[hl,hv]⟩
 have hlt:∀b x,(maskR fp σ)[b]?=some x→b<σ.length:=by
  intro b x e;rw[ZaN] at e;cases hs:σ[b]? with
  |none=>rw[hs] at e; cases e
  |some y=>exact(YLG hs).1
 have hlive:∀b x,(maskR fp σ)[b]?=some x→x.live=true→b∈fp∧∃y,σ[b]?=some y∧x=y.mapV (AVal.ren (ltM σ.length)):=by
  intro b x e hl;rw[ZaN] at e;cases hs:σ[b]? with
  |none=>rw[hs] at e; cases e
  |some y=>
   rw[hs] at e;simp only[Option.map_some,Option.some.injEq] at e;cases hi:inL b fp with
   |false=>rw[hi] at e; subst e; cases hl
   |true=>rw[hi] at e; exact⟨XaL.1 hi,y,rfl,e.symm⟩
 have hren:∀x u,g.den x u→Den g.M c' (x.ren (ltM σ.length)) u:=by
  intro x u d;refine d.ren (λb b' cb k1 k2=>?_);unfold ltM at k1;obtain⟨k0,k1⟩:=Qv k1;cases k1;have hl:b<σ.length:=YNL k0;simp only[c'];rw[if_pos hl,k2]; rfl
 have r0:Rep GL w ⟨lb,g.M⟩ ⟨g.M,c'⟩ (hp (maskR fp σ)) w:={
  keeps:=Keeps.refl _ _,stable:=r.stable,src:=λb o e=>.inl e,globs:=r.globs
  empt:=λb e=>by
   have e':(maskR fp σ)[b]?=none:=e;rw[ZaN] at e';show c' b=none;simp only[c'];rw[if_neg];intro hb;simp[hb] at e'
  dom:=λb blk e=>by
   have:=hlt b blk e;exact⟨_,by show c' b=_; simp only[c']; rw[if_pos this]⟩
  own:=λb blk cb e hl ec hv=>by
   obtain⟨hb,y,hy,rfl⟩:=hlive b blk e hl;obtain⟨cb0,q1,q2,q3⟩:=hknown b (hfp b hb);have ec':c' b=some cb:=ec;rw[q2] at ec'; cases ec';rw[ABlk.mapV_live] at hl;obtain⟨p1,p2,o,p3,p4⟩:=r.own b y _ (by rw[q3]; exact hy) hl q1 hv;exact⟨p1,.inl (hlb b hb _ y q1 hy hl hv),o,p3,p4.mapV (p:=λ_=>True) (λx u _ d=>hren x u d) (ABlk.all_true _)⟩
  hollow:=λb blk cb e hl ec hv=>by
   obtain⟨hb,y,hy,rfl⟩:=hlive b blk e hl;obtain⟨cb0,q1,q2,q3⟩:=hknown b (hfp b hb);have ec':c' b=some cb:=ec;rw[q2] at ec'; cases ec';rw[ABlk.mapV_live] at hl;have:=r.hollow b y _ (by rw[q3]; exact hy) hl q1 hv;subst this; rfl
  inj:=λb b' blk blk' cb cb' e1 e2 l1 l2 c1 c2 v1 v2 hblk=>by
   obtain⟨hb,y,hy,rfl⟩:=hlive b blk e1 l1;obtain⟨hb',y',hy',rfl⟩:=hlive b' blk' e2 l2;obtain⟨cb0,q1,q2,q3⟩:=hknown b (hfp b hb);obtain⟨cb0',q1',q2',q3'⟩:=hknown b' (hfp b' hb');have c1':c' b=some cb:=c1;have c2':c' b'=some cb':=c2;rw[q2] at c1'; cases c1';rw[q2'] at c2'; cases c2';rw[ABlk.mapV_live] at l1 l2;exact r.inj b b' y y' _ _ (by rw[q3]; exact hy) (by rw[q3']; exact hy') l1 l2 q1 q1' v1 v2 hblk }
 have hx':DenL ⟨g.M,c'⟩ (renL (ltM σ.length) xs) vs:=by
  refine DenL.of_get (by rw[Yw]; exact hx.length) (λi y u e1 e2=>?_);obtain⟨x,q1,rfl⟩:=Xac e1;exact hren x u (hx.get i x u q1 e2)
 obtain⟨fn,c,h1,h2,h3,h4,h5⟩:=ok.ok;have d0:=YY hx' (n:=F.n) (by rw[Yw,hn]; exact ok.np);refine calls_of_wp h1 h2 ?_;rw[h3];refine wp_mono (h c h4 w ⟨lb,g.M⟩ _ _ w r0 d0) (λe a' w' hl=>?_);have fin:∀ g' ρ σ',(⟨g.M,c'⟩:Gm).Le g'→Rep GL w ⟨lb,g.M⟩ g' (hp σ') w'→DenF F.n g' ρ a'→(retV F.rets ρ σ'=some v∧σ'=τ')→∃ u,(results fn a'.tmps).run P w'=.ok u w'∧(∃ u',Ending.returned u=.returned u'∧∃ g2,g.Le g2 ∧
   Rep GL w0 L g2 (hups hq ((fp ++ List.range' σ.length k).map λb=>(b,(hget τ' b).mapV (AVal.ren (keepM ids σ.length k))))) w'∧g2.den (v.ren (keepM ids σ.length k)) u'):=by
  rintro g' ρ σ' hle hr hd ⟨hret,rfl⟩;obtain⟨u,k1,k2⟩:=Zap hr hd h5 hret
  let keys:=fp++List.range' σ.length k
  have hkeys:∀b,b∈keys↔b∈fp∨(σ.length≤b∧b<σ.length+k):=by
   intro b; simp only[keys,List.mem_append,List.mem_range'_1]
  let cF:Own:=λb=>if b∈keys then g'.c b else g.c b
  have hkl:∀b∈keys,b<σ'.length:=by
   intro b hb;rcases (hkeys b).1 hb with q|q
   ·have:=hids b (hfp b q); omega
   ·omega
  have hgc:∀b cb,g.c b=some cb→cF b=some cb:=by
   intro b cb e;simp only[cF];split
   ·rename_i hb;rcases (hkeys b).1 hb with q|q
    ·obtain⟨cb0,q1,q2,q3⟩:=hknown b (hfp b q);rw[q1] at e; cases e;exact hle.c b _ q2
    ·have hn:hq b=none:=by
      have:=hup (b,_) (List.mem_map.2 ⟨b,hb,rfl⟩);rw[this]; simp[hp]; omega
     rw[r.empt b hn] at e; cases e
   ·exact e
  have hren2:∀x u,g'.den x u→Den g'.M cF (x.ren (keepM ids σ.length k)) u:=by
   intro x u d;refine d.ren (λb b' cb e1 e2=>?_);unfold keepM at e1;obtain⟨e0,e1⟩:=Qv e1;cases e1;by_cases hb:b∈keys
   ·simp only[cF]; rw[if_pos hb]; exact e2
   ·simp only[Bool.or_eq_true,Bool.and_eq_true] at e0;rcases e0 with q|⟨q1,q2⟩
    ·obtain⟨cb0,p1,p2,p3⟩:=hknown b (List.contains_iff_mem.1 q);have:=hle.c b cb0 p2;rw[e2] at this; cases this;exact hgc b _ p1
    ·have:=YNL q1;have:b<σ.length+k:=YNL q2;exact(hb ((hkeys b).2 (.inr (by omega)))).elim
  have hF:∀b,hups hq (keys.map λb=>(b,(hget σ' b).mapV (AVal.ren (keepM ids σ.length k)))) b=if b∈keys then some ((hget σ' b).mapV (AVal.ren (keepM ids σ.length k))) else hq b:=ZbE _ keys hq
  have hlbown:∀q∈lb,∃b∈fp,∃cb y,g.c b=some cb∧hq b=some y∧y.live=true∧cb.virt=false∧q=cb.blk:=by
   intro q hq';simp only[lb,List.mem_filterMap] at hq';obtain⟨b,hb,e⟩:=hq';obtain⟨cb0,q1,_,q3⟩:=hknown b (hfp b hb);rw[q1] at e;cases hs:σ[b]? with
   |none=>rw[hs] at e; cases e
   |some y=>
    rw[hs] at e;obtain⟨e1,e2⟩:=Qv e;simp only[Bool.and_eq_true,Bool.not_eq_true'] at e1;cases e2;exact⟨b,hb,cb0,y,q1,by rw[q3]; exact hs,e1.1,e1.2,rfl⟩
  have hlbM:∀q∈lb,g.M q=none∧(q∈L.l∨w0.heap.size≤q):=by
   intro q hq';obtain⟨b,hb,cb,y,q1,q2,q3,q4,rfl⟩:=hlbown q hq';obtain⟨p1,p2,_⟩:=r.own b y cb q2 q3 q1 q4;exact⟨p1,p2⟩
  have hout:∀b blk cb,b∉keys→hq b=some blk→blk.live=true→g.c b=some cb→cb.virt=false→cb.blk∉lb:=by
   intro b blk cb hb e hl ec hv hin;obtain⟨b2,hb2,cb2,y,q1,q2,q3,q4,q5⟩:=hlbown _ hin;have:=r.inj b b2 blk y cb cb2 e q2 hl q3 ec q1 hv q4 q5;subst this;exact hb ((hkeys b).2 (.inl hb2))
  have hsz:=r.keeps.size;have hcF1:∀b,b∈keys→cF b=g'.c b:=λb hb=>by simp only[cF]; rw[if_pos hb]
  have hcF2:∀b,b∉keys→cF b=g.c b:=λb hb=>by simp only[cF]; rw[if_neg hb]
  have hat:∀ b,b∈keys→hp σ' b=some (hget σ' b):=λb hb=>Qan (hkl b hb);refine⟨u,k1,u,rfl,⟨g'.M,cF⟩,⟨hle.m,λb cb e=>hgc b cb e⟩,?_,hren2 v u k2⟩;exact {
   keeps:=r.keeps.trans' hr.keeps.os hr.keeps.tape hr.keeps.output hr.keeps.size (λj hj hjl=>hr.keeps.block j (by omega) (λhin=>by
    rcases (hlbM j hin).2 with q|q
    ·exact hjl q
    ·omega))
   stable:=hr.stable
   src:=λb o e=>by
    rcases hr.src b o e with q|q|q
    ·exact r.src b o q
    ·exact .inr (.inl (by omega))
    ·rcases (hlbM b q).2 with q|q
     ·exact .inr (.inr q)
     ·exact .inr (.inl q)
   globs:=λp hp'=>(r.globs p hp').mono hle.m (CLe.refl _)
   empt:=λb e=>by
    rw[hF] at e;split at e
    ·cases e
    ·rename_i hb;show cF b=none;rw[hcF2 b hb]; exact r.empt b e
   dom:=λb blk e=>by
    rw[hF] at e;show ∃cb,cF b=some cb;split at e
    ·rename_i hb;rw[hcF1 b hb]; exact hr.dom b _ (hat b hb)
    ·rename_i hb;rw[hcF2 b hb]; exact r.dom b blk e
   own:=λb blk cb e hl ec hv=>by
    rw[hF] at e;have ec':cF b=some cb:=ec;split at e
    ·rename_i hb;cases e;rw[ABlk.mapV_live] at hl;rw[hcF1 b hb] at ec';obtain⟨p1,p2,o,p3,p4⟩:=hr.own b _ cb (hat b hb) hl ec' hv;refine⟨p1,?_,o,p3,p4.mapV (p:=λ_=>True) (λx u _ d=>hren2 x u d) (ABlk.all_true _)⟩;rcases p2 with q|q
     ·exact(hlbM _ q).2
     ·exact .inr (by omega)
    ·rename_i hb;rw[hcF2 b hb] at ec';obtain⟨p1,p2,o,p3,p4⟩:=r.own b blk cb e hl ec' hv;have hlt':=r.lt_of_own e hl ec' hv;have hnin:=hout b blk cb hb e hl ec' hv;refine⟨?_,p2,o,by rw[hr.keeps.block _ hlt' hnin]; exact p3,p4.mono hle.m (λb cb e=>hgc b cb e)⟩;show g'.M cb.blk=none;cases hm:g'.M cb.blk with
     |none=>rfl
     |some x=>
      rcases hr.src _ _ hm with q|q|q
      ·have q:g.M cb.blk=some x:=q;rw[p1] at q; cases q
      ·omega
      ·exact(hnin q).elim
   hollow:=λb blk cb e hl ec hv=>by
    rw[hF] at e;have ec':cF b=some cb:=ec;split at e
    ·rename_i hb;cases e;rw[ABlk.mapV_live] at hl;rw[hcF1 b hb] at ec';rw[hr.hollow b _ cb (hat b hb) hl ec' hv]; rfl
    ·rename_i hb;rw[hcF2 b hb] at ec';exact r.hollow b blk cb e hl ec' hv
   inj:=λb b' blk blk' cb cb' e1 e2 l1 l2 c1 c2 v1 v2 hblk=>by
    rw[hF] at e1 e2;have c1':cF b=some cb:=c1;have c2':cF b'=some cb':=c2;have cross:∀b b' blk' cb cb',b∈keys→b'∉keys→(hget σ' b).live=true→g'.c b=some cb→cb.virt=false→hq b'=some blk'→blk'.live=true→g.c b'=some cb'→cb'.virt=false→cb.blk=cb'.blk→False:=by
     intro b b' blk' cb cb' hb hb' hl hc hv e' hl' hc' hv' he;obtain⟨_,p2,_⟩:=hr.own b _ cb (hat b hb) hl hc hv;have hlt':=r.lt_of_own e' hl' hc' hv';have hnin:=hout b' blk' cb' hb' e' hl' hc' hv';rcases p2 with q|q
     ·rw[he] at q; exact hnin q
     ·omega
    split at e1
    ·rename_i hb;cases e1;rw[ABlk.mapV_live] at l1;rw[hcF1 b hb] at c1';split at e2
     ·rename_i hb';cases e2;rw[ABlk.mapV_live] at l2;rw[hcF1 b' hb'] at c2';exact hr.inj b b' _ _ cb cb' (hat b hb) (hat b' hb') l1 l2 c1' c2' v1 v2 hblk
     ·rename_i hb';rw[hcF2 b' hb'] at c2';exact(cross b b' blk' cb cb' hb hb' l1 c1' v1 e2 l2 c2' v2 hblk).elim
    ·rename_i hb;rw[hcF2 b hb] at c1';split at e2
     ·rename_i hb';cases e2;rw[ABlk.mapV_live] at l2;rw[hcF1 b' hb'] at c2';exact(cross b' b blk cb' cb hb' hb l2 c2' v2 e1 l1 c1' v1 hblk.symm).elim
     ·rename_i hb';rw[hcF2 b' hb'] at c2';exact r.inj b b' blk blk' cb cb' e1 e2 l1 l2 c1' c2' v1 v2 hblk }
 cases e with
 |normal=>obtain⟨g',ρ,σ,k1,k2,k3,k4⟩:=hl; exact⟨k3.defers,fin g' ρ σ k1 k2 k3 k4.2⟩
 |ret=>obtain⟨g',ρ,σ,k1,k2,k3,k4⟩:=hl; exact⟨k3.defers,fin g' ρ σ k1 k2 k3 k4.2⟩
 |exit id=>obtain⟨g',ρ,σ,k1,k2,k3,k4⟩:=hl; rcases k4.1 with q|q<;>cases q
 |_=>exact hl.elim
theorem X9(hP:P.follows .mixedOrders=true){k:MK}{xs ys zs:List AVal}{f:FuncId}(hc:Qr k xs=some (f,ys)){np:Nat}{g:GFun}(hg:GOk P GL f np g)(hn:ys.length=np){σ τ τ':List ABlk}(fp ids:List Nat){v:AVal}{m:Nat}(hfp:∀b∈fp,b∈ids)(hids:∀b∈ids,b<σ.length)
 (hys:renL (ltM σ.length) ys=zs)(hτ:maskR fp σ=τ)(h:g (W P GL) zs τ (λv' s=>v'=v∧s=τ'))(hk:τ'.length=σ.length+m)
 {K:AVal→List Nat×List Nat→List ABlk→Prop}{u:AVal}{up:List (Nat×ABlk)}{σ':List ABlk}(hv:v.ren (keepM ids σ.length m)=u)(hup:((fp++List.range' σ.length m).map λb=>(b,(hget τ' b).mapV (AVal.ren (keepM ids σ.length m))))=up)(hu:upL σ up=some σ')(hK:K u (ids,up.map (·.1)) σ'):(W P GL).dcall k xs σ K:=by
 subst hv; subst hup;have hzl:zs.length=np:=by rw[←hys,Yw,hn]
 obtain⟨F,h1,h2,h3⟩:=hg.awp hP (QcW P GL) hzl h;refine X3 hc hg.plain (Xa8 h1 (hn.trans h2.symm) σ fp ids hfp hids hys hτ (h3.mono λe ρ s q=>?_) hk) hu hK;obtain⟨q1,v',q2,rfl,rfl⟩:=q;exact⟨q1,q2,rfl⟩
end
end Go.Ah
end
section
namespace Go.Ah
section
variable {P:Program} {GL:Globs}
theorem YG(hP:P.follows .mixedOrders=true){f:FuncId}{np:Nat}{g:GFun}(hg:GOk P GL f np g){xs:List AVal}(hn:xs.length=np){y:AVal}(h:g (W P GL) xs [] (λv' σ=>∃rd,Bor (hp σ) rd v' y)):PCall P GL f xs y:=by
 obtain⟨F,h1,h2,h3⟩:=hg.awp hP (QcW P GL) hn h;intro w M vs hM hg hx;have r0:=Rep.start (GL:=GL) w M hM hg;have hh:hp []=noHp:=by funext b; simp[hp,noHp]
 rw[←hh] at r0;refine(Q6 h1 (hn.trans h2.symm) h3 w ⟨[],M⟩ ⟨M,noOwn⟩ w vs r0 hx).mono ?_;rintro e w' ⟨u,he,g',x,σ',⟨rd,hR⟩,hle,r,d⟩
 let M2:Nat→Option Obj:=λb=>if b<w.heap.size then g'.M b else w'.heap[b]?
 have cov:Cov g' (hp σ') w' M2:=by
  refine⟨λb o e=>?_,λb blk cb o e1 e2 e3 e4 e5=>?_⟩
  ·show (if b<w.heap.size then g'.M b else w'.heap[b]?)=some o;split
   ·exact e
   ·exact r.stable b o e
  ·obtain⟨_,hin,_⟩:=r.own b blk cb e1 e2 e3 e4;show (if cb.blk<w.heap.size then g'.M cb.blk else w'.heap[cb.blk]?)=some o;rcases hin with hin|hin
   ·simp at hin
   ·rw[if_neg (by omega)]; exact e5
 have hd2:=hR GL w ⟨[],M⟩ g' (hp σ') w' M2 r cov (λ_ _=>rfl) u d;refine⟨u,he,r.keeps,M2,λb o e=>cov.1 b o (hle.m b o e),λb o e=>?_,λb o e=>?_,hd2⟩
 ·have e':(if b<w.heap.size then g'.M b else w'.heap[b]?)=some o:=e;split at e'
  ·exact r.stable b o e'
  ·exact e'
 ·have e':(if b<w.heap.size then g'.M b else w'.heap[b]?)=some o:=e;split at e'
  ·rcases r.src b o e' with q|q|q
   ·exact .inl q
   ·exact .inr q
   ·simp at q
  ·exact .inr (by omega)
theorem Bor.tup{h0:Hp}{rd:List Nat}{xs ys:List AVal}(h1:BorL h0 rd xs ys):Bor h0 rd (.tup xs) (.tup ys):=by
 intro GL w0 L g h w M2 r hM hrd v d;cases d with
 |tup _ _ vs hs hd=>
  obtain⟨hl,hd'⟩:=h1.get r hM hrd (vs:=vs.toList) (by simp[hs]) (λi x v e1 e2=>hd i x v e1 (by simpa using e2));exact .tup _ _ _ (by simpa[hs] using hl.symm) (λi x v e1 e2=>hd' i x v e1 (by simpa using e2))
theorem Bor.weak{h0:Hp}{rd:List Nat}{x y z:AVal}(h:Bor h0 rd x y)(k:∀(M:Nat→Option Obj) (u:Value),Den M noOwn y u→Den M noOwn z u):Bor h0 rd x z:=
 λGL w0 L g h' w M2 r hM hrd v d=>k M2 v (h GL w0 L g h' w M2 r hM hrd v d)
theorem Den.rsl_weak{M:Nat→Option Obj}{c:Own}{e n:Bool}{sz:Nat}{rows:List (List AVal)}{u:Value}(h:Den M c (.rsl e n sz rows) u):Den M c (.rsl false false sz rows) u:=by
 cases h with
 |rsl _ _ _ _ _ a cap blk off f q1 q2 q3 q4 q5 q6 q7 q8=>exact .rsl _ _ _ _ _ a cap blk off f (λh=>by cases h) (λh=>by cases h) q3 q4 q5 q6 q7 q8
theorem Den.nils_rsl{M:Nat→Option Obj}{c:Own}{u:Value}(sz:Nat)(h:Den M c .nils u):Den M c (.rsl false false sz []) u:=by
 cases h with
 |nils=>exact .rsl _ _ _ _ [] none 0 0 0 (λ_ _=>undef) (λh=>by cases h) (λh=>by cases h) (λh=>(h rfl).elim) (λ_=>rfl) (by simp) (by simp) (by simp) (by simp)
theorem BorL.ro{h0:Hp}{rd:List Nat}:∀ {l:List AVal},roL l=true→BorL h0 rd l l
 |[],_=>BorL.nil
 |x::l,h=>by
  simp only[roL,Bool.and_eq_true] at h;exact BorL.cons (Bor.ro h.1) (BorL.ro h.2)
theorem Bor.own{σ:List ABlk}{rd:List Nat}{b off len sz:Nat}{ex:Bool}{rs rows:List (List AVal)}(hb:hget σ b=.rows sz rs)(hin:b∈rd)(hle:off+len≤rs.length)(hc:cut off (off+len) rs=rows)(hro:∀r∈rs,roL r=true):Bor (hp σ) rd (.sl b off len ex) (.rsl false false sz rows):=by
 refine Bor.weak (y:=.rsl ex false sz rows) ?_ (λM u d=>d.rsl_weak);have hb':hp σ b=some (.rows sz rs):=ZF hb (by simp);subst hc;refine Bor.sl hb' hin hle (ZP hle▸by omega) (λi row row' q1 q2=>?_);have hi:i<len:=by
  have:=(YLG q2).1;rw[ZP hle] at this; omega
 have:(cut off (off+len) rs)[i]?=rs[off+i]?:=by
  unfold cut;rw[List.getElem?_drop,List.getElem?_take_of_lt (by omega)]
 rw[this,q1] at q2; cases q2;exact BorL.ro (hro _ (List.mem_of_getElem? q1))
theorem Yam(l:List (List AVal))(n:Nat)(h:n=l.length):cut 0 (0+n) l=l:=by subst h; simp[cut]
theorem YN{k:MK}{xs ys zs:List AVal}{f:FuncId}{v:AVal}{rd:List Nat}(h:PCall P GL f zs v){σ:List ABlk}(hc:Qr k xs=some (f,ys))(hp':Zj P f=true)(hb:BorL (hp σ) rd ys zs)(hv:v.flat=true){K:AVal→List ABlk→Prop}(hK:K v σ):(W P GL).call k xs σ K:=
 ZN hc hp' (h.lend hb hv) (Yn σ) hK
theorem Yak{k:MK}{xs ys zs:List AVal}{f:FuncId}{v:AVal}{rd:List Nat}(h:PCall P GL f zs v){σ:List ABlk}(hc:Qr k xs=some (f,ys))(hp':Zj P f=true)(hb:BorL (hp σ) rd ys zs)(hv:v.flat=true){K:AVal→List Nat×List Nat→List ABlk→Prop}(hK:K v (rd,[]) σ):(W P GL).dcall k xs σ K:=
 X3 hc hp' (h.lend hb hv) (Yn σ) hK
theorem XbT{k:MK}{xs ys zs:List AVal}{f:FuncId}{v:AVal}{bs:List ABlk}{rd:List Nat}(h:NCall P GL f zs v bs){σ:List ABlk}(hc:Qr k xs=some (f,ys))(hp':Zj P f=true)(hb:BorL (hp σ) rd ys zs)(hv:v.nosh=true)(hbs:Zay bs=true){K:AVal→List ABlk→Prop}(hK:K (v.ren (Zy σ.length)) (σ++Zu σ.length bs)):(W P GL).call k xs σ K:=
 ZN hc hp' (h.lend hb hv hbs (λi _=>by simp[hp])) (X2 _ σ) hK
end
end Go.Ah
end
section
namespace Go.Ah
section
variable {H:Type}
def DL(M:Nat→Option Obj)(xs:List AVal)(cs:List Value):Prop:=xs.length=cs.length∧∀(i:Nat) (x:AVal) (v:Value),xs[i]?=some x→cs[i]?=some v→Den M noOwn x v
theorem DL.nil{M:Nat→Option Obj}:DL M [] []:=⟨rfl,λi x v h=>by simp at h⟩
theorem DL.one{M:Nat→Option Obj}{x:AVal}{v:Value}(h:Den M noOwn x v):DL M [x] [v]:=by
 refine⟨rfl,λi y u h1 h2=>?_⟩;cases i with
 |zero=>simp at h1 h2; subst h1; subst h2; exact h
 |succ i=>simp at h1
theorem DL.append{M:Nat→Option Obj}{xs ys:List AVal}{cs ds:List Value}(h:DL M xs cs)(k:DL M ys ds):DL M (xs++ys) (cs++ds):=by
 refine⟨by simp[h.1,k.1],λi x v h1 h2=>?_⟩;by_cases hi:i<xs.length
 ·rw[List.getElem?_append_left hi] at h1;rw[List.getElem?_append_left (by rw[←h.1]; exact hi)] at h2;exact h.2 i x v h1 h2
 ·rw[List.getElem?_append_right (by omega)] at h1;rw[List.getElem?_append_right (by rw[←h.1]; omega),←h.1] at h2;exact k.2 _ x v h1 h2
def Tri{α β γ:Type}(R:α→β→γ→Prop):List α→List β→List γ→Prop
 |[],[],[]=>True
 |a::us,b::bs,c::cs=>R a b c∧Tri R us bs cs
 |_,_,_=>False
def Two{α β:Type}(R:α→β→Prop):List α→List β→Prop
 |[],[]=>True
 |a::us,b::bs=>R a b∧Two R us bs
 |_,_=>False
theorem Tri.cons{α β γ:Type}{R:α→β→γ→Prop}{a:α}{us:List α}{bs:List β}{cs:List γ}(h:Tri R (a::us) bs cs):∃b bs' c cs',bs=b::bs'∧cs=c::cs'∧R a b c∧Tri R us bs' cs':=by
 match bs,cs,h with
 |b::bs,c::cs,h=>exact⟨b,bs,c,cs,rfl,rfl,h.1,h.2⟩
theorem Tri.nil{α β γ:Type}{R:α→β→γ→Prop}{bs:List β}{cs:List γ}(h:Tri R [] bs cs):bs=[]∧cs=[]:=by
 match bs,cs,h with
 |[],[],_=>exact⟨rfl,rfl⟩
theorem Two.cons{α β:Type}{R:α→β→Prop}{a:α}{us:List α}{bs:List β}(h:Two R (a::us) bs):∃b bs',bs=b::bs'∧R a b∧Two R us bs':=by
 match bs,h with
 |b::bs,h=>exact⟨b,bs,rfl,h.1,h.2⟩
theorem Two.length{α β:Type}{R:α→β→Prop}:∀ {us:List α} {bs:List β},Two R us bs→us.length=bs.length
 |[],[],_=>rfl
 |_::_,_::_,h=>by simp[Two.length h.2]
 |[],_::_,h=>h.elim
 |_::_,[],h=>h.elim
def Typed(P:Program):Nat→TypeId→List AVal→DataW H→Prop
 |0,_,_,_=>False
 |fuel+1,t,xs,d=>match P.underlying t with
  |some .bool=>∃b,xs=[.bool b]∧d=.lit (.bool b)
  |some (.int k)=>∃n,xs=[.int k n]∧(Lit.int k n).wf=true∧d=.lit (.int k n)
  |some .string=>∃s,xs=[.str s]∧d=.lit (.string s)
  |some (.slice e)=>∃rows,xs=[.rsl false false (P.cellsOf e) rows]∧((rows=[]∧d=.nil)∨∃es sp,d=.slice es sp∧Two (Typed P fuel e) rows es)
  |some (.struct fs)=>∃parts ds,xs=parts.flatten∧d=.agg ds∧Tri (Typed P fuel) (fs.toList.map (·.type)) parts ds
  |some (.array n e)=>∃parts ds,xs=parts.flatten∧d=.agg ds∧parts.length=n∧Two (Typed P fuel e) parts ds
  |_=>False
def tiles(P:Program):Nat→List Field→Option Nat
 |o,[]=>some o
 |o,f::r=>bif Nat.beq f.offset o then tiles P (o+P.cellsOf f.type) r else none
def tyOk(P:Program)(S:List TypeId)(t:TypeId):Bool:=match P.underlying t with
 |some .bool=>Nat.beq (P.cellsOf t) 1
 |some (.int _)=>Nat.beq (P.cellsOf t) 1
 |some .string=>Nat.beq (P.cellsOf t) 1
 |some (.slice e)=>Nat.beq (P.cellsOf t) 1&&(Nat.blt 0 (P.cellsOf e)&&S.contains e)
 | some (.struct fs)=>(match tiles P 0 fs.toList with
  |some n=>Nat.beq n (P.cellsOf t)
  | none=>false) && fs.toList.all λf=>S.contains f.type
 |some (.array n e)=>Nat.beq (P.cellsOf t) (n*P.cellsOf e)&&S.contains e
 |_=>false
variable {enc:TypeId×Value→H} {P:Program} {w:World} {base:Nat} {spare:Nat→Bool} {held:Bool}
theorem ZaF{α β:Type}{f:α→Option β}:∀ {l:List α} {r:List β},l.mapM f=some r→Two (λa b=>f a=some b) l r
 |[],r,h=>by simp at h; subst h; trivial
 |a::l,r,h=>by
  rw[List.mapM_cons] at h;cases ha:f a with
  |none=>simp[ha] at h
  |some b=>
   cases hl:l.mapM f with
   |none=>simp[ha,hl] at h
   |some bs=>simp[ha,hl] at h; subst h; exact⟨ha,ZaF hl⟩
def Tells(enc:TypeId×Value→H)(P:Program)(w:World)(base:Nat)(spare:Nat→Bool)(held:Bool)(fuel:Nat)(t:TypeId)(cs:List Value)(d:DataW H):Prop:=∃ps,DataW.trod enc P w base spare held fuel t cs=some (d,ps)
def Fine(enc:TypeId×Value→H)(P:Program)(w:World)(base:Nat)(spare:Nat→Bool)(held:Bool)(fuel:Nat)(t:TypeId):Prop:=
 ∀cs d,Tells enc P w base spare held fuel t cs d→cs.length=P.cellsOf t∧∃xs,DL (λb=>w.heap[b]?) xs cs∧Typed P fuel t xs d
theorem ZbX{a:Addr}{v:Value}(h:w.cell? a=some v):a.spot=none∧mcell (λb=>w.heap[b]?) a.block a.off=some v:=by
 unfold World.cell? at h;show _∧(match w.heap[a.block]? with
  |some (.cells c _ _)=>c[a.off]?
  | _=>none)=some v
 cases hb:w.heap[a.block]? with
 |none=>rw[hb] at h; cases h
 |some o=>
  rw[hb] at h;cases o with
  |cells c t fr=>
   simp only at h;split at h
   ·cases h
   ·rename_i hs;exact⟨by simpa using hs,h⟩
  |_=>cases h
theorem Qa8(a:Addr)(n:Nat):(a.add n).block=a.block:=by unfold Addr.add; split<;>rfl
theorem QbT(a:Addr)(n:Nat):(a.add n).off=a.off+n:=by unfold Addr.add; split<;>simp_all
theorem ZaK{fuel:Nat}{cs:List Value}:∀ {fs:List Field} {o n:Nat} {xs:List (DataW H×List MemPlace)},tiles P o fs=some n→n≤cs.length→(∀f∈fs,Fine enc P w base spare held fuel f.type) →
  Two (λ(f:Field) y=>DataW.trod enc P w base spare held fuel f.type ((cs.drop f.offset).take (P.cellsOf f.type))=some y) fs xs→o≤n ∧
  ∃parts,DL (λb=>w.heap[b]?) parts.flatten ((cs.take n).drop o)∧Tri (Typed P fuel) (fs.map (·.type)) parts (xs.map (·.1))
 |[],o,n,xs,ht,hn,hf,h=>by
  simp only[tiles,Option.some.injEq] at ht;subst ht
  match xs,h with
  |[],_=>
   refine⟨Nat.le_refl _,[],?_,trivial⟩;have:(cs.take o).drop o=[]:=by simp
   rw[this]; exact DL.nil
 |f::fs,o,n,xs,ht,hn,hf,h=>by
  simp only[tiles] at ht;cases hb:Nat.beq f.offset o with
  |false=>rw[hb] at ht; cases ht
  |true=>
   rw[hb] at ht;have ho:=YNB hb;obtain⟨y,ys,rfl,h1,h2⟩:=h.cons;obtain⟨hle,parts,hd,h3⟩:=ZaK ht hn (λg hg=>hf g (List.mem_cons_of_mem _ hg)) h2;obtain⟨hl,p,hp,hy⟩:=hf f (List.mem_cons_self ..) _ _ ⟨y.2,h1⟩;refine⟨by omega,p::parts,?_,hy,h3⟩;have e:(cs.take n).drop o=(cs.drop f.offset).take (P.cellsOf f.type)++(cs.take n).drop (o+P.cellsOf f.type):=by
    have e1:(cs.take n).drop o=((cs.take n).drop o).take (P.cellsOf f.type)++((cs.take n).drop o).drop (P.cellsOf f.type):=(List.take_append_drop _ _).symm;rw[e1,List.drop_drop,ho]
    congr 1
    rw[List.drop_take,List.take_take]
    congr 1
    omega
   rw[List.flatten_cons,e];exact hp.append hd
theorem ZaX{fuel:Nat}{e:TypeId}{cs:List Value}(hf:Fine enc P w base spare held fuel e):∀ {n o:Nat} {xs:List (DataW H×List MemPlace)},(o+n)*P.cellsOf e≤cs.length →
  Two (λ(i:Nat) y=>DataW.trod enc P w base spare held fuel e ((cs.drop (i*P.cellsOf e)).take (P.cellsOf e))=some y) (List.range' o n) xs →
  ∃parts,DL (λb=>w.heap[b]?) parts.flatten ((cs.take ((o+n)*P.cellsOf e)).drop (o*P.cellsOf e))∧parts.length=n∧Two (Typed P fuel e) parts (xs.map (·.1))
 |0,o,xs,hn,h=>by
  match xs,h with
  |[],_=>
   refine⟨[],?_,rfl,trivial⟩;have:(cs.take ((o+0)*P.cellsOf e)).drop (o*P.cellsOf e)=[]:=by simp
   rw[this]; exact DL.nil
 |n+1,o,xs,hn,h=>by
  rw[List.range'_succ] at h;obtain⟨y,ys,rfl,h1,h2⟩:=h.cons;have hn':(o+1+n)*P.cellsOf e≤cs.length:=by rw[show o+1+n=o+(n+1) by omega]; exact hn
  obtain⟨parts,hd,h3,h4⟩:=ZaX hf hn' h2;obtain⟨hl,p,hp,hy⟩:=hf _ _ ⟨y.2,h1⟩;refine⟨p::parts,?_,by simp[h3],hy,h4⟩;have hs:(o+1)*P.cellsOf e=o*P.cellsOf e+P.cellsOf e:=by rw[Nat.add_mul,Nat.one_mul]
  have hm:(o+1)*P.cellsOf e≤(o+(n+1))*P.cellsOf e:=Nat.mul_le_mul_right _ (by omega);have e1:(cs.take ((o+(n+1))*P.cellsOf e)).drop (o*P.cellsOf e)=(cs.drop (o*P.cellsOf e)).take (P.cellsOf e)++(cs.take ((o+1+n)*P.cellsOf e)).drop ((o+1)*P.cellsOf e):=by
   rw[show o+1+n=o+(n+1) by omega,hs];have e2:(cs.take ((o+(n+1))*P.cellsOf e)).drop (o*P.cellsOf e)=((cs.take ((o+(n+1))*P.cellsOf e)).drop (o*P.cellsOf e)).take (P.cellsOf e)++((cs.take ((o+(n+1))*P.cellsOf e)).drop (o*P.cellsOf e)).drop (P.cellsOf e):=(List.take_append_drop _ _).symm;rw[e2,List.drop_drop]
   congr 1
   rw[List.drop_take,List.take_take]
   congr 1
   omega
  rw[List.flatten_cons,e1];exact hp.append hd
theorem Xbi{fuel:Nat}{e:TypeId}{a:Addr}(hf:Fine enc P w base spare held fuel e)(hpos:0<P.cellsOf e):∀ {n o:Nat} {xs:List (DataW H×List MemPlace)},
  Two (λ(i:Nat) y=>(w.cells? base (a.add (i*P.cellsOf e)) (P.cellsOf e)).bind (DataW.trod enc P w base spare held fuel e)=some y) (List.range' o n) xs →
  ∃(rows:List (List AVal)) (f:Nat→Nat→Value),rows.length=n∧Two (Typed P fuel e) rows (xs.map (·.1))∧(n≠0→o=0→a.spot=none)∧(∀(i:Nat) (row:List AVal),rows[i]?=some row→row.length=P.cellsOf e) ∧
   (∀i j,i<n→j<P.cellsOf e→mcell (λb=>w.heap[b]?) a.block (a.off+((o+i)*P.cellsOf e+j))=some (f i j))∧(∀(i:Nat) (row:List AVal) (j:Nat) (x:AVal),rows[i]?=some row→row[j]?=some x→Den (λb=>w.heap[b]?) noOwn x (f i j))
 |0,o,xs,h=>by
  match xs,h with
  |[],_=>exact⟨[],λ_ _=>undef,rfl,trivial,λh _=>(h rfl).elim,by simp,by intro i j hi; omega,by simp⟩
 |n+1,o,xs,h=>by
  rw[List.range'_succ] at h;obtain⟨y,ys,rfl,h1,h2⟩:=h.cons;obtain⟨rows,f,q1,q2,q3,q4,q5,q6⟩:=Xbi hf hpos h2;obtain⟨cs,hc,hy⟩:=Option.bind_eq_some_iff.1 h1;obtain⟨_,hl,hcell⟩:=World.cells?_some hc;obtain⟨_,xs0,hd,hty⟩:=hf cs y.1 ⟨y.2,hy⟩;have hat:∀j,j<P.cellsOf e→∃v,cs[j]?=some v∧mcell (λb=>w.heap[b]?) a.block (a.off+o*P.cellsOf e+j)=some v:=by
   intro j hj;obtain⟨v,hv⟩:∃v,cs[j]?=some v:=⟨cs[j]'(by omega),by simp[show j<cs.length by omega]⟩;have:=hcell j hj;rw[hv] at this;obtain⟨m1,m2⟩:=ZbX this;rw[Qa8,Qa8,QbT,QbT] at m2;exact⟨v,hv,m2⟩
  refine⟨xs0::rows,λi j=>match i with|0=>(cs[j]?).getD undef|i+1=>f i j,by simp[q1],⟨hty,q2⟩,λ_ ho=>?_,?_,?_,?_⟩
  ·have:=hcell 0 hpos;rw[show cs[0]?=some (cs[0]'(by omega)) by simp[show 0<cs.length by omega]] at this;have:=(ZbX this).1;subst ho;simpa[Addr.add] using this
  ·intro i row hr;cases i with
   |zero=>simp at hr; subst hr; rw[hd.1,hl]
   |succ i=>exact q4 i row (by simpa using hr)
  ·intro i j hi hj;cases i with
   |zero=>
    obtain⟨v,e1,e2⟩:=hat j hj;simp only[e1,Option.getD_some,Nat.add_zero];rw[←Nat.add_assoc]; exact e2
   |succ i=>
    have:=q5 i j (by omega) hj;rw[show o+(i+1)=o+1+i by omega];exact this
  ·intro i row j x hr hx;cases i with
   |zero=>
    simp at hr; subst hr;have hj:j<cs.length:=by rw[←hd.1]; exact(YLG hx).1
    have hv:cs[j]?=some cs[j]:=by simp[hj]
    simp only[hv,Option.getD_some];exact hd.2 j x _ hx hv
   |succ i=>exact q6 i row j x (by simpa using hr) hx
theorem Zaq{S:List TypeId}(hS:S.all (tyOk P S)=true):∀(fuel:Nat) (t:TypeId),t∈S→Fine enc P w base spare held fuel t
 |0,t,_=>by
  rintro cs d ⟨ps,h⟩;simp[DataW.trod] at h
 |fuel+1,t,ht=>by
  rintro cs d ⟨ps,h⟩;have hok:=List.all_eq_true.1 hS t ht;have ih:=λt ht=>Zaq hS fuel t ht;unfold tyOk at hok;unfold DataW.trod at h;split at h
  case h_1=>
   rename_i hu;rw[hu] at hok;cases h;exact⟨(YNB hok).symm,_,DL.one (.bool _ _),by unfold Typed; rw[hu]; exact⟨_,rfl,rfl⟩⟩
  case h_2=>
   rename_i hu;rw[hu] at hok;split at h
   ·rename_i hk;obtain⟨rfl,hw⟩:=hk;cases h;exact⟨(YNB hok).symm,_,DL.one (.int _ _ _),by unfold Typed; rw[hu]; exact⟨_,rfl,hw,rfl⟩⟩
   ·cases h
  case h_4=>
   rename_i hu;rw[hu] at hok;split at h
   ·cases h;exact⟨(YNB hok).symm,_,DL.one (.str _ _),by unfold Typed; rw[hu]; exact⟨_,rfl,rfl⟩⟩
   ·cases h
  case h_7=>
   rename_i e hu;rw[hu] at hok;simp only[Bool.and_eq_true] at hok;cases h;refine⟨(YNB hok.1).symm,_,DL.one (Den.nils_rsl (P.cellsOf e) (.nils _)),?_⟩;unfold Typed; rw[hu]; exact⟨[],rfl,.inl ⟨rfl,rfl⟩⟩
  case h_8=>
   rename_i e a len cap hu;rw[hu] at hok;simp only[Bool.and_eq_true] at hok;obtain⟨k1,k2,k3⟩:=hok;have hpos:0<P.cellsOf e:=YNL k2;simp only at h;split at h
   ·rename_i hc;obtain⟨els,he,h⟩:=Option.bind_eq_some_iff.1 h;obtain⟨rest,hr,h⟩:=Option.map_eq_some_iff.1 h;cases h;rw[List.range_eq_range'] at he;obtain⟨rows,f,q1,q2,q3,q4,q5,q6⟩:=Xbi (ih e (List.contains_iff_mem.1 k3)) hpos (ZaF he);refine⟨(YNB k1).symm,[.rsl false false (P.cellsOf e) rows],DL.one ?_,?_⟩
    ·rw[←q1];refine .rsl _ false false (P.cellsOf e) rows (some a) cap a.block a.off f (λh=>by cases h) (λh=>by cases h) (λhne=>?_) (λh=>by cases h) (by rw[q1]; exact hc.2.1) q4 (λi j hi hj=>?_) q6
     ·have hn:len≠0:=λe=>hne (List.length_eq_zero_iff.1 (q1.trans e));have:=q3 hn rfl;cases a; simp at this; subst this; rfl
     ·have:=q5 i j (by omega) hj;rw[Nat.zero_add] at this; exact this
    ·unfold Typed; rw[hu]; exact⟨rows,rfl,.inr ⟨_,_,rfl,q2⟩⟩
   ·cases h
  case h_9=>
   rename_i fs hu;rw[hu] at hok;simp only[Bool.and_eq_true] at hok;obtain⟨k1,k2⟩:=hok;split at h
   ·rename_i hl;obtain⟨xs,hx,h⟩:=Option.map_eq_some_iff.1 h;cases h;cases ht:tiles P 0 fs.toList with
    |none=>rw[ht] at k1; cases k1
    |some n=>
     rw[ht] at k1;have hn:=YNB k1;obtain⟨_,parts,hd,h3⟩:=ZaK ht (by omega) (λg hg=>ih _ (List.contains_iff_mem.1 (List.all_eq_true.1 k2 g hg))) (ZaF hx);refine⟨hl,parts.flatten,?_,?_⟩
     ·rw[List.drop_zero,List.take_of_length_le (by omega)] at hd; exact hd
     ·unfold Typed; rw[hu]; exact⟨parts,_,rfl,rfl,h3⟩
   ·cases h
  case h_10=>
   rename_i n e hu;rw[hu] at hok;simp only[Bool.and_eq_true] at hok;obtain⟨k1,k2⟩:=hok;have hn:=YNB k1;split at h
   ·rename_i hl;obtain⟨xs,hx,h⟩:=Option.map_eq_some_iff.1 h;cases h;rw[List.range_eq_range'] at hx;obtain⟨parts,hd,h3,h4⟩:=ZaX (ih e (List.contains_iff_mem.1 k2)) (o:=0) (n:=n) (by rw[Nat.zero_add]; omega) (ZaF hx);refine⟨hl,parts.flatten,?_,?_⟩
    ·rw[Nat.zero_mul,List.drop_zero,Nat.zero_add,List.take_of_length_le (by omega)] at hd; exact hd
    ·unfold Typed; rw[hu]; exact⟨parts,_,rfl,rfl,h3,h4⟩
   ·cases h
  all_goals first|(rename_i hu; rw[hu] at hok; exact absurd (show false=true from hok) (by decide))|cases h
end
end Go.Ah
end
section
namespace Go.Ah.Tz
open Go.Proofs.Tryz (prog)
set_option maxRecDepth 100000
abbrev GQ(f:FuncId)(n:Nat)(g:GFun):Prop:=GOk prog GL0 f n g
abbrev PC(f:FuncId)(xs:List AVal)(v:AVal):Prop:=PCall prog GL0 f xs v
noncomputable abbrev VV:Ans Prop:=W prog GL0
def g3:GFun:=λA xs d g=>match xs with
 |[x0,x1,x2,x3,x4,x5]=>
 A.w1 Zm x0 d λh d=>A.w1 Zm x1 d λf d=>A.r (Zc true 2) h d λt2=>A.k 14 [t2] d λn d=>A.fr n (Zc true 23) f d λt4=>A.gw n false (λk=>A.k 15 [t4] d k) d λt5 d=>
 A.c n (.bool true) t5 d λi=>A.fr i (Zc true 2) h d λt7=>A.fr i (Zc true 23) f d λt8=>A.gw i false (λk=>A.k 16 [t7,t8] d k) d λt9 d=>
 A.fb i .neq t9 (jv 0) d λa5=>A.c i (.bool true) a5 d λo=>A.fr o Yg x2 d λa6=>A.fb o .lss a6 (jv 0) d λa7=>A.c o (.bool true) a7 d λp=>A.fr p Yg x2 d λa8=>
 A.fb p .gtr a8 (jv 1) d λa9=>A.c p (.bool true) a9 d λb0=>A.test b0 (A.k 17 [] d λb1 d=>g b1 d) (A.r (Zc true 2) h d λb2=>A.r (Zc true 23) f d λb3=>
 A.k 18 [b2,b3,x2] d λq d=>A.r (Qb 0) q d λb4=>A.r (Qb 1) q d λb5=>A.r (Qb 2) q d λb6=>A.wr (Xc zq0 [] d) d λe d=>
 A.wr (Xc zq1 [] d) d λt d=>A.ws (Zb 23) e b4 d λ_ d=>A.ws (Zb 7) t b5 d λ_ d=>A.b .eql b6 (jv 0) d λb7=>joinK (λa1=>A.test b7 (
 A.r (Zc true 23) f d λb8=>A.k 19 [b8] d λb9 d=>A.wr (Xc zq0 [] d) d λj d=>A.ws (Zb 23) j b9 d λ_ d=>A.r (Za 7) e d λc0=>
 A.s (Yf 2 8) c0 x2 d λc1=>A.r (Zc true 8) c1 d λc2=>A.r (Za 7) j d λc3=>A.s (Yf 2 8) c3 x2 d λc4=>A.ws (Zb 8) c4 c2 d λ_ d=>
 A.r (Za 0) t d λc5=>A.a c5 d λc6=>A.b .eql c6 (.int .i8 4) d λc7=>joinK (λa2=>A.test c7 (A.pu (Yh .sub false [jv 1,x2] d) λc8=>
 A.pu (Yh .sub false [jv 1,x2] d) λc9=>A.pu (Za 7 [j] d) λd0=>A.pu (Yf 2 8 [d0,c9] d) λd1=>A.pu (Za 7 [d1] d) λd2=>
 A.dr (Yd [d2] d) d λd3 d4 d=>A.pu (Za 2 [t] d) λd5=>A.dr (Yd [d5] d) d λd6 d7 d=>A.dr (Zh 1 1 [jv 0] [(0,1)] [d6] d) d λd8 d9 d=>
 A.dr (Qg 1 8 [d3,d8] d) d λe0 e1 d=>A.pu (Za 7 [j] d) λe2=>A.pu (Yf 2 8 [e2,c8] d) λe3=>A.pu (Za 7 [e3] d) λe4=>
 A.dr (Zb 1 [e4,e0] d) d λ_ e5 d=>A.gd (Qe [[],[0],[],[2],[],[2,3,4],[2,3,4,5],[2,3,4,5,6],[],[8],[8,9],[2,3,4,5,6,7,8,9,10],[],[0,1,2,3,4,5,6,7,8,9,10,11,12],[0,1,2,3,4,5,6,7,8,9,10,11,12,13],[0,1,2,3,4,5,6,7,8,9,10,11,12,13,14]] [([],[]),([],[]),([],[]),([],[]),([],[]),([],[]),([],[]),d4,([],[]),d7,d9,e1,([],[]),([],[]),([],[]),e5]) <|
 a2 [] d) (a2 [] d)) (λo1 d=>A.r (Zc true 23) e d λe6=>A.r (Zc true 23) j d λe7=>A.k 20 [e6,e7] d λe8 d=>A.r (Zp .not) e8 d λe9=>A.test e9 (
 g (.bool false) d) (a1 [] d))) (a1 [] d)) (λo2 d=>A.r (Zc true 2) h d λf0=>A.r (Zc true 23) f d λf1=>A.k 21 [f0,f1,x2,x3] d λu d=>A.r (Qb 0) u d λf2=>
 A.r (Qb 1) u d λf3=>A.r (Qb 2) u d λf4=>A.wr (Xc zq1 [] d) d λf5 d=>A.ws (Zb 23) e f2 d λ_ d=>A.ws (Zb 7) f5 f3 d λ_ d=>
 joinK (λa3=>A.test f4 (A.r (Zc true 23) f d λf6=>A.k 19 [f6] d λf7 d=>A.wr (Xc zq0 [] d) d λl d=>A.ws (Zb 23) l f7 d λ_ d=>A.r (Za 7) e d λf8=>
 A.s (Yf 2 8) f8 x2 d λf9=>A.r (Za 6) f9 d λg0=>A.a g0 d λg1=>A.r (Za 7) l d λg2=>A.s (Yf 2 8) g2 x2 d λg4=>
 A.r (Za 6) g4 d λg5=>A.ws (Zb 1) g5 g1 d λ_ d=>A.r (Za 6) e d λg6=>A.a g6 d λg7=>A.r (Za 6) l d λg8=>A.ws (Zb 1) g8 g7 d λ_ d=>
 A.r (Zc true 23) e d λg9=>A.r (Zc true 23) l d λi0=>A.k 20 [g9,i0] d λi1 d=>A.r (Zp .not) i1 d λi2=>A.test i2 (g (.bool false) d) (a3 [] d)) (
 a3 [] d)) (λo3 d=>A.r (Zc true 2) h d λi3=>A.r (Zc true 23) f d λi4=>A.k 22 [i3,i4,x4,x2,x5] d λv d=>A.r (Qb 0) v d λi5=>
 A.r (Qb 1) v d λo4=>A.r (Qb 2) v d λi6=>A.ws (Zb 23) e i5 d λ_ d=>A.b .neq i6 (jv 0) d λi7=>A.test i7 (A.k 17 [] d λi9 d=>
 g i9 d) (A.r (Zc true 23) f d λj0=>A.k 19 [j0] d λj1 d=>A.wr (Xc zq0 [] d) d λm d=>A.ws (Zb 23) m j1 d λ_ d=>A.r (Zc true 23) f d λj2=>
 A.k 23 [j2,x4] d λw d=>A.r (Qb 0) w d λy=>A.r (Qb 1) w d λz=>A.r (Qb 2) w d λj3=>A.r (Zp .not) j3 d λj4=>joinK (λa0=>
 A.test j4 (A.r (Za 7) e d λj5=>A.s (Yf 2 8) j5 x2 d λj6=>A.r (Za 0) j6 d λj7=>A.a j7 d λj8=>A.r (Za 7) m d λj9=>
 A.s (Yf 2 8) j9 x2 d λl0=>A.r (Za 0) l0 d λl1=>A.ws (Zb 1) l1 j8 d λ_ d=>a0 [] d) (A.r (Za 7) e d λl2=>A.s (Yf 2 8) l2 y d λl3=>
 A.r (Za 6) l3 d λl4=>A.a l4 d λl5=>A.r Qd l5 d λl6=>A.b .lss z l6 d λl7=>A.test l7 (A.pu (Za 7 [m] d) λl8=>A.pu (Yf 2 8 [l8,y] d) λl9=>
 A.pu (Za 6 [l9] d) λm0=>A.dr (Yd [m0] d) d λm1 m2 d=>A.pu (Za 7 [e] d) λm3=>A.pu (Yf 2 8 [m3,y] d) λm4=>A.pu (Za 6 [m4] d) λm5=>
 A.dr (Yd [m5] d) d λm6 m7 d=>A.dr (Qa 4 [m6,z] d) d λm8 m9 d=>A.pu (Za 2 [m8] d) λn0=>A.dr (Yd [n0] d) d λn1 n2 d=>A.dr (Qa 4 [m1,z] d) d λn3 n4 d=>
 A.pu (Za 2 [n3] d) λn5=>A.dr (Zb 1 [n5,n1] d) d λ_ n6 d=>A.gd (Qe [[],[],[0,1],[0,1,2],[0,1,2,3],[],[],[],[6,7],[6,7,8],[6,7,8,9],[],[6,7,8,9,10,11],[6,7,8,9,10,11,12],[6,7,8,9,10,11,12,13],[0,1,2,3,4,5,6,7,8,9,10,11,12,13,14],[0,1,2,3,4,5,6,7,8,9,10,11,12,13,14,15],[0,1,2,3,4,5,6,7,8,9,10,11,12,13,14,15,16]] [([],[]),([],[]),([],[]),([],[]),m2,([],[]),([],[]),([],[]),([],[]),([],[]),m7,([],[]),m9,([],[]),n2,n4,([],[]),n6]) <|
 a0 [] d) (a0 [] d))) (λo5 d=>A.r (Zc true 23) e d λn7=>A.r (Zc true 23) m d λn8=>A.k 20 [n7,n8] d λa4 d=>A.gw a4 true (λk=>A.k 17 [] d k) d λn9 d=>
 A.c a4 n9 (.bool false) d λo0=>g o0 d)))))
 |_=>A.stop
def g12:GFun:=λA xs d i=>match xs with
 |[x0,x1,x2,x3,x4]=>
 A.w1 Zm x0 d λj d=>A.w1 Zm x1 d λe d=>A.r (Zc true 2) j d λt2=>A.r (Zc true 23) e d λt3=>A.k 43 [t2,t3,.nils,x2] d λt4 d=>A.test t4 (
 A.k 44 [] d λt5 d=>i t5 d) (A.r (Zc true 2) j d λt6=>A.r (Zc true 23) e d λt7=>A.k 48 [t6,t7,x2] d λn d=>A.r (Qb 0) n d λt9=>
 A.r (Qb 1) n d λo=>A.r (Qb 2) n d λp=>A.wr (Xc zq0 [] d) d λq d=>A.ws (Zb 23) q t9 d λ_ d=>A.b .neq p (jv 0) d λa2=>
 A.test a2 (A.r Qd o d λa3=>A.b .eql a3 (jv 0) d λy=>A.gw y true (λk=>A.k 44 [] d k) d λa4 d=>A.c y a4 (.bool false) d λa5=>i a5 d) (A.r Qd x2 d λa6=>
 A.b .add a6 (jv 1) d λs=>A.b .rem x3 s d λa7=>A.b .add a7 s d λa8=>A.b .rem a8 s d λz=>A.dr (XG 2 [x2,z] d) d λa9 b0 d=>A.dr (Qg 2 16 [.nils,a9] d) d λb1 b2 d=>
 A.dr (YK 2 [x2,z] d) d λb3 b4 d=>A.dr (Qg 2 16 [b1,b3] d) d λb5 b6 d=>A.gd (Qe [[],[],[],[1,2],[0,1,2,3],[],[],[5,6],[0,1,2,3,4,5,6,7],[0,1,2,3,4,5,6,7,8]] [([],[]),([],[]),([],[]),b0,b2,([],[]),([],[]),b4,b6,([],[])]) <|
 A.r (Zc true 2) j d λb7=>A.r (Zc true 23) e d λb8=>A.k 48 [b7,b8,b5] d λt d=>A.r (Qb 0) t d λb9=>A.r (Qb 1) t d λc0=>
 A.r (Qb 2) t d λc1=>A.wr (Xc zq0 [] d) d λl d=>A.ws (Zb 23) l b9 d λ_ d=>A.b .neq c1 p d λg=>A.fr g (Zc true 23) q d λc2=>
 A.fr g (Zc true 23) l d λc3=>A.gw g false (λk=>A.k 20 [c2,c3] d k) d λc4 d=>A.fr g (Zp .not) c4 d λc5=>A.c g (.bool true) c5 d λh=>A.fr h Yg o d λc6=>
 A.fr h Yg c0 d λc7=>A.gw h false (λk=>A.k 47 [c6,c7] d k) d λc8 d=>A.fr h (Zp .not) c8 d λc9=>A.c h (.bool true) c9 d λd0=>A.test d0 (
 i (.bool false) d) (A.r (Za 5) e d λd1=>A.a d1 d λd2=>A.r Qd d2 d λu=>A.b .rem x4 u d λd3=>A.b .add d3 u d λd4=>A.b .rem d4 u d λa0=>
 A.r (Zc true 23) e d λd5=>A.k 19 [d5] d λd6 d=>A.wr (Xc zq0 [] d) d λv d=>A.ws (Zb 23) v d6 d λ_ d=>A.pu (Z8 1 [] d) λd7=>
 A.pu (Za 5 [e] d) λd8=>A.dr (Yd [d8] d) d λd9 e0 d=>A.dr (XG 1 [d9,a0] d) d λe1 e2 d=>A.dr (Qg 1 8 [d7,e1] d) d λe3 e4 d=>
 A.pu (Za 5 [e] d) λe5=>A.dr (Yd [e5] d) d λe6 e7 d=>A.dr (YK 1 [e6,a0] d) d λe8 e9 d=>A.dr (Qg 1 8 [e3,e8] d) d λf0 f1 d=>
 A.pu (Za 5 [v] d) λf2=>A.dr (Zb 1 [f2,f0] d) d λ_ f3 d=>A.gd (Qe [[],[],[1],[],[1,2,3],[0,1,2,3,4],[],[6],[],[6,7,8],[0,1,2,3,4,5,6,7,8,9],[0,1,2,3,4,5,6,7,8,9,10],[0,1,2,3,4,5,6,7,8,9,10,11]] [([],[]),([],[]),e0,([],[]),e2,e4,([],[]),e7,([],[]),e9,f1,([],[]),f3]) <|
 A.r (Zc true 2) j d λf4=>A.r (Zc true 23) v d λf5=>A.k 48 [f4,f5,x2] d λw d=>A.r (Qb 0) w d λf6=>A.r (Qb 1) w d λf7=>
 A.r (Qb 2) w d λf8=>A.ws (Zb 23) l f6 d λ_ d=>A.b .eql f8 p d λm=>A.tr m (Zc true 23) q d λf9=>A.tr m (Zc true 23) l d λg0=>
 A.gw m true (λk=>A.k 20 [f9,g0] d k) d λg1 d=>A.c m g1 (.bool false) d λf=>A.tr f Yg o d λg2=>A.tr f Qd g2 d λg3=>A.tr f Yg f7 d λg4=>
 A.tr f Qd g4 d λg5=>A.tb f .eql g3 g5 d λg6=>A.c f g6 (.bool false) d λa1=>A.gw a1 true (λk=>A.k 44 [] d k) d λg7 d=>A.c a1 g7 (.bool false) d λg8=>
 i g8 d)))
 |_=>A.stop
theorem g12_ok:GQ 12 5 g12:=gq5 [none,none,none] λ_ _ _ _ _ _ _ _ _=>by kernel_rfl
def g14:GFun:=λA xs d h=>match xs with
 |[x0]=>
 A.w1 Zm x0 d λf d=>A.r (Za 1) f d λi=>A.a i d λj=>A.r Qd j d λl=>A.loop (λm e d=>A.b .lss (h0 e) l d λn=>A.test n (A.r (Za 1) f d λo=>
 A.a o d λp=>A.s (Qa 7) p (h0 e) d λq=>A.r (Za 4) q d λt=>A.a t d λu=>A.r Qd u d λv=>A.b .add (jv 1) v d λw=>A.r (Za 1) f d λy=>
 A.a y d λz=>A.s (Qa 7) z (h0 e) d λa0=>A.r (Za 5) a0 d λa1=>A.a a1 d λa2=>A.r Qd a2 d λa3=>A.b .add w a3 d λa4=>A.b .add (h1 e) a4 d λa5=>
 A.b .add (h0 e) (jv 1) d λa6=>m [a6,a5] d) (A.b .gtr (h1 e) (jv 600) d λg=>A.fr g (Za 0) f d λa7=>A.fa g a7 d λa8=>A.gw g false (λk=>A.k 52 [a8] d k) d λa9 d=>
 A.c g (.bool true) a9 d λb0=>h b0 d)) [jv 0,jv 0] d
 |_=>A.stop
def g16:GFun:=λA xs a b=>match xs with
 |[x0,x1]=>
 A.w1 Zm x0 a λc a=>A.w1 Zm x1 a λd a=>A.r (Zc true 2) c a λe=>A.r (Zc true 23) d a λf=>A.k 25 [e,f,.bool false] a λg a=>A.r (Zp .not) g a λh=>
 A.test h (b (jv 170) a) (b (jv 0) a)
 |_=>A.stop
def g17:GFun:=λA xs a a5=>match xs with
 |[]=>
 A.k 53 [] a λy a=>A.r (Qb 0) y a λt1=>A.r (Qb 1) y a λt2=>A.wr (Xc [.nils,.nils] [] a) a λe a=>A.wr (Xc zq0 [] a) a λh a=>
 A.ws (Zb 2) e t1 a λ_ a=>A.ws (Zb 23) h t2 a λ_ a=>A.r (Zc true 2) e a λt5=>A.r (Zc true 23) h a λt6=>A.k 54 [t5,t6,jv 1] a λo a=>
 A.r (Qb 0) o a λt8=>A.r (Qb 1) o a λt9=>A.r (Qb 2) o a λa6=>A.r (Zc true 2) e a λa7=>A.r (Zc true 23) h a λa8=>
 A.k 18 [a7,a8,jv 0] a λp a=>A.r (Qb 0) p a λa9=>A.r (Qb 1) p a λb0=>A.r (Qb 2) p a λb1=>A.wr (Xc zq0 [] a) a λz a=>
 A.wr (Xc zq1 [] a) a λa0 a=>A.ws (Zb 23) z a9 a λ_ a=>A.ws (Zb 7) a0 b0 a λ_ a=>A.r (Zc true 2) e a λb2=>A.r (Zc true 23) h a λb3=>
 A.k 22 [b2,b3,jv 1,jv 0,jv 3] a λq a=>A.r (Qb 0) q a λb4=>A.r (Qb 1) q a λb5=>A.r (Qb 2) q a λb6=>A.wr (Xc zq0 [] a) a λs a=>
 A.wr (Xc zq1 [] a) a λa1 a=>A.ws (Zb 23) s b4 a λ_ a=>A.ws (Zb 7) a1 b5 a λ_ a=>A.r (Zc true 2) e a λb7=>A.r (Zc true 23) h a λb8=>
 A.wr (Zh 1 1 [jv 0] [(0,1)] [jv 1] a) a λb9 a=>A.k 27 [b7,b8,b9] a λa2 a=>A.r (Qb 0) a2 a λc0=>A.r (Qb 1) a2 a λc1=>A.wr (Xc zq0 [] a) a λa3 a=>
 A.ws (Zb 23) a3 c0 a λ_ a=>A.r (Zc true 2) e a λc2=>A.r (Zc true 23) h a λc3=>A.k 55 [c2,c3] a λc4 a=>A.b .eql c4 (jv 0) a λj=>
 A.tr j (Zc true 2) e a λc5=>A.got j (Xd zq0 [] [] a) λc6=>A.gw j true (λk=>A.k 55 [c5,c6] a k) a λc7 a=>A.tb j .eql c7 (jv 170) a λc8=>
 A.c j c8 (.bool false) a λa4=>A.tr a4 Yg a6 a λc9=>A.c a4 c9 (.bool false) a λt=>A.tr t Yg t8 a λd0=>A.tb t .eql d0 (jv 3) a λd1=>A.c t d1 (.bool false) a λu=>
 A.tr u Yg t9 a λd2=>A.tb u .eql d2 (jv 2) a λd3=>A.c u d3 (.bool false) a λv=>A.tr v Yg b1 a λd4=>A.tb v .eql d4 (jv 0) a λd5=>A.c v d5 (.bool false) a λi=>
 A.tr i (Za 7) z a λd6=>A.ts i (Yf 2 8) d6 (jv 0) a λd7=>A.tr i (Za 0) d7 a λd8=>A.ta i d8 a λd9=>A.tb i .eql d9 (jv 19) a λe0=>
 A.c i e0 (.bool false) a λl=>A.tr l (Za 2) a0 a λe1=>A.ta l e1 a λe2=>A.tb l .eql e2 (jv (-1)) a λe3=>A.c l e3 (.bool false) a λw=>
 A.tr w Yg b6 a λe4=>A.tb w .eql e4 (jv 0) a λe5=>A.c w e5 (.bool false) a λm=>A.tr m (Za 5) a1 a λe6=>A.ta m e6 a λe7=>A.tb m .eql e7 (jv 2) a λe8=>
 A.c m e8 (.bool false) a λf=>A.tr f (Za 7) s a λe9=>A.ts f (Yf 2 8) e9 (jv 0) a λf0=>A.tr f (Za 6) f0 a λf1=>A.ta f f1 a λf2=>
 A.tr f Qd f2 a λf3=>A.tb f .eql f3 (jv 2) a λf4=>A.c f f4 (.bool false) a λd=>A.tr d (Za 7) s a λf5=>A.ts d (Yf 2 8) f5 (jv 0) a λf6=>
 A.tr d (Za 6) f6 a λf7=>A.ta d f7 a λf8=>A.ts d (Qa 4) f8 (jv 0) a λf9=>A.tr d (Za 2) f9 a λg0=>A.ta d g0 a λg1=>A.tb d .eql g1 (jv 2) a λg2=>
 A.c d g2 (.bool false) a λg=>A.tr g (Za 7) a3 a λg3=>A.ts g (Yf 2 8) g3 (jv 0) a λg4=>A.tr g (Za 6) g4 a λg5=>A.ta g g5 a λg6=>
 A.tr g Qd g6 a λg7=>A.tb g .eql g7 (jv 1) a λg8=>A.c g g8 (.bool false) a λn=>A.tr n Yg c1 a λg9=>A.tr n Qd g9 a λi0=>A.tb n .eql i0 (jv 1) a λi1=>
 A.c n i1 (.bool false) a λi2=>a5 i2 a
 |_=>A.stop
theorem g17_ok:GQ 17 0 g17:=gq0 [] λ_ _ _ _=>by kernel_rfl
def g18:GFun:=λA xs d j=>match xs with
 |[x0,x1,x2]=>
 A.w1 Zm x0 d λo d=>A.w1 Zm x1 d λp d=>A.wr (Xc zq0 [] d) d λf d=>A.wr (Xc zq1 [] d) d λg d=>A.k 56 [o,p] d λi d=>A.s (QS .ptr false false) i .nilp d λq=>
 A.test q (A.rd (Xd zq0 [] [] d) λt=>A.rd (Xd zq1 [] [] d) λu=>A.ws (Zb 23) f t d λ_ d=>A.ws (Zb 7) g u d λ_ d=>A.opt (cellV true 23 f d) λr8=>
 A.opt (cellV true 7 g d) λr9=>j (.tup [r8,r9,jv 170]) d) (A.b .lss x2 (jv 0) d λm=>A.fr m Yg x2 d λv=>A.fb m .gtr v (jv 1) d λw=>A.c m (.bool true) w d λy=>
 A.test y (A.rd (Xd zq0 [] [] d) λz=>A.rd (Xd zq1 [] [] d) λa0=>A.ws (Zb 23) f z d λ_ d=>A.ws (Zb 7) g a0 d λ_ d=>A.opt (cellV true 23 f d) λr16=>
 A.opt (cellV true 7 g d) λr17=>j (.tup [r16,r17,jv 2]) d) (A.r Xa i d λa1=>A.r (Za 1) a1 d λa2=>A.r (Za 7) a2 d λa3=>
 A.s (Yf 2 8) a3 x2 d λe=>A.rd (Xd zq1 [(0,1),(1,1)] [.int .i8 3,x2] d) λa4=>A.wr (Xc zq1 [] d) d λh d=>A.ws (Zb 7) h a4 d λ_ d=>
 joinK (λn=>A.r Xa e d λa5=>A.r (Za 3) a5 d λa6=>A.a a6 d λa7=>A.r Qd a7 d λa8=>A.b .eql a8 (jv 0) d λa9=>A.test a9 (
 A.r (Za 2) h d λb0=>A.ws (Zb 1) b0 (jv (-1)) d λ_ d=>A.r Xa e d λb1=>A.r (Za 0) b1 d λb2=>A.a b2 d λb3=>A.b .sub b3 (jv 1) d λb4=>
 A.r Xa e d λb5=>A.r (Za 0) b5 d λb6=>A.ws (Zb 1) b6 b4 d λ_ d=>A.r Xa e d λb7=>A.r (Za 0) b7 d λb8=>A.a b8 d λb9=>
 A.k 57 [b9] d λc0 d=>A.r (Zp .not) c0 d λc1=>A.test c1 (A.rd (Xd zq0 [] [] d) λc2=>A.rd (Xd zq1 [] [] d) λc3=>A.ws (Zb 23) f c2 d λ_ d=>
 A.ws (Zb 7) g c3 d λ_ d=>A.opt (cellV true 23 f d) λr45=>A.opt (cellV true 7 g d) λr46=>j (.tup [r45,r46,jv 171]) d) (n [] d)) (A.r Xa e d λc4=>
 A.r (Za 4) c4 d λc5=>A.a c5 d λc6=>A.r Qd c6 d λc7=>A.b .geq c7 (jv 10) d λc8=>A.test c8 (A.r (Za 0) h d λc9=>A.ws (Zb 1) c9 (.int .i8 4) d λ_ d=>
 A.pu (Xa [e] d) λd0=>A.pu (Za 3 [d0] d) λd1=>A.pu (Xa [e] d) λd2=>A.pu (Za 5 [d2] d) λd3=>A.dcall (.call 58) [d1,d3] d λd4 d5 d=>
 A.pu (Za 2 [h] d) λd6=>A.dr (Zb 1 [d6,d4] d) d λ_ d7 d=>A.gd (Qe [[],[0],[0,1],[],[3],[3,4],[0,1,2,3,4,5],[0,1,2,3,4,5,6],[0,1,2,3,4,5,6,7]] [([],[]),([],[]),([],[]),([],[]),([],[]),([],[]),d5,([],[]),d7]) <|
 A.loop (λd8 l d=>A.b .lss (h0 l) (jv 2) d λd9=>A.test d9 (A.pu (Xa [i] d) λe0=>A.pu (Za 1 [e0] d) λe1=>A.pu (Za 7 [e1] d) λe2=>
 A.pu (Yf 2 8 [e2,(h0 l)] d) λe3=>A.pu (Za 7 [e3] d) λe4=>A.dr (Yd [e4] d) d λe5 e6 d=>A.pu (Za 2 [h] d) λe7=>A.dr (Yd [e7] d) d λe8 e9 d=>
 A.dr (Zh 1 1 [jv 0] [(0,1)] [e8] d) d λf0 f1 d=>A.dr (Qg 1 8 [e5,f0] d) d λf2 f3 d=>A.pu (Xa [i] d) λf4=>A.pu (Za 1 [f4] d) λf5=>
 A.pu (Za 7 [f5] d) λf6=>A.pu (Yf 2 8 [f6,(h0 l)] d) λf7=>A.pu (Za 7 [f7] d) λf8=>A.dr (Zb 1 [f8,f2] d) d λ_ f9 d=>
 A.gd (Qe [[],[],[],[],[2],[2,4],[2,4,5],[2,3,4,5,6],[2,3,4,5,6,7],[2,3,4,5,6,7,8],[],[10],[10,11],[2,3,4,5,6,7,8,9,10,11,12],[0],[0,14],[0,14,15],[0,1,2,3,4,5,6,7,8,9,10,11,12,13,14,15,16],[0,1,2,3,4,5,6,7,8,9,10,11,12,13,14,15,16,17],[0,1,2,3,4,5,6,7,8,9,10,11,12,13,14,15,16,17,18]] [([],[]),([],[]),([],[]),([],[]),([],[]),([],[]),([],[]),([],[]),([],[]),e6,([],[]),e9,f1,f3,([],[]),([],[]),([],[]),([],[]),([],[]),f9]) <|
 A.b .add (h0 l) (jv 1) d λg0=>d8 [g0] d) (n [] d)) [jv 0] d) (A.pu (Xa [e] d) λg1=>A.pu (Za 3 [g1] d) λg2=>A.pu (Xa [e] d) λg3=>
 A.pu (Za 4 [g3] d) λg4=>A.dcall (.call 58) [g2,g4] d λg5 g6 d=>A.pu (Za 2 [h] d) λg7=>A.dr (Zb 1 [g7,g5] d) d λ_ g8 d=>
 A.gd (Qe [[],[0],[0,1],[],[3],[3,4],[0,1,2,3,4,5],[0,1,2,3,4,5,6],[0,1,2,3,4,5,6,7]] [([],[]),([],[]),([],[]),([],[]),([],[]),([],[]),g6,([],[]),g8]) <|
 A.pu (Xa [e] d) λg9=>A.pu (Za 7 [g9] d) λi0=>A.dr (Yd [i0] d) d λi1 i2 d=>A.pu (Za 2 [h] d) λi3=>A.dr (Yd [i3] d) d λi4 i5 d=>
 A.dr (Zh 1 1 [jv 0] [(0,1)] [i4] d) d λi6 i7 d=>A.dr (Qg 1 8 [i1,i6] d) d λi9 j0 d=>A.pu (Xa [e] d) λj1=>A.pu (Za 7 [j1] d) λj2=>
 A.dr (Zb 1 [j2,i9] d) d λ_ j3 d=>A.gd (Qe [[],[],[1],[1,2],[1,2,3],[],[5],[5,6],[1,2,3,4,5,6,7],[0,1,2,3,4,5,6,7,8],[0,1,2,3,4,5,6,7,8,9],[0,1,2,3,4,5,6,7,8,9,10]] [([],[]),([],[]),([],[]),([],[]),i2,([],[]),i5,i7,j0,([],[]),([],[]),j3]) <|
 n [] d))) (λl4 d=>A.pu (Xa [i] d) λj4=>A.pu (Za 1 [j4] d) λj5=>A.dr (Zc true 23 [j5] d) d λj6 j7 d=>A.dcall (.call 59) [j6] d λj8 j9 d=>
 A.dr (Zc true 7 [h] d) d λl0 l1 d=>A.dr (Zb 23 [f,j8] d) d λ_ l2 d=>A.dr (Zb 7 [g,l0] d) d λ_ l3 d=>A.gd (Qe [[],[0],[0,1],[0,1,2],[0,1,2,3],[],[0,1,2,3,4],[0,1,2,3,4,5,6],[0,1,2,3,4,5,6,7]] [([],[]),([],[]),([],[]),j7,j9,l1,l2,l3,([],[])]) <|
 A.opt (cellV true 23 f d) λr117=>A.opt (cellV true 7 g d) λr118=>j (.tup [r117,r118,jv 0]) d)))
 |_=>A.stop
theorem g18_ok:GQ 18 3 g18:=gq3 [none,none,none,some [],none,none,none,none,some [94],none,none] λ_ _ _ _ _ _ _=>by kernel_rfl
def g19:GFun:=λA xs c i=>match xs with
 |[x0]=>
 A.w1 Zm x0 c λg c=>A.wr (Xc zq0 [] c) c λh c=>A.r (Zc true 23) g c λj=>A.wr (Xc zq0 [] c) c λe c=>A.ws (Zb 23) e j c λ_ c=>
 A.r (Za 5) g c λl=>A.a l c λm=>A.k 60 [m] c λn c=>A.r (Za 5) e c λo=>A.ws (Zb 1) o n c λ_ c=>A.loop (λp f c=>A.b .lss (h0 f) (jv 2) c λq=>
 A.test q (A.r (Za 7) g c λt=>A.s (Yf 2 8) t (h0 f) c λu=>A.r (Zc true 8) u c λv=>A.wr (Xc zq4 [] c) c λd c=>A.ws (Zb 8) d v c λ_ c=>
 A.pu (Za 0 [d] c) λw=>A.dr (Yd [w] c) c λy z c=>A.pu (Za 1 [d] c) λa0=>A.dr (Yd [a0] c) c λa1 a2 c=>A.pu (Za 2 [d] c) λa3=>
 A.dr (Yd [a3] c) c λa4 a5 c=>A.pu (Za 3 [d] c) λa6=>A.dr (Yd [a6] c) c λa7 a8 c=>A.dcall (.call 60) [a7] c λa9 b0 c=>A.pu (Za 4 [d] c) λb1=>
 A.dr (Yd [b1] c) c λb2 b3 c=>A.dcall (.call 60) [b2] c λb4 b5 c=>A.pu (Za 5 [d] c) λb6=>A.dr (Yd [b6] c) c λb7 b8 c=>A.dcall (.call 60) [b7] c λb9 c0 c=>
 A.pu (Za 6 [d] c) λc1=>A.dr (Yd [c1] c) c λc2 c3 c=>A.dcall (.call 61) [c2] c λc4 c5 c=>A.pu (Za 7 [d] c) λc6=>A.dr (Yd [c6] c) c λc7 c8 c=>
 A.dcall (.call 60) [c7] c λc9 d0 c=>A.pu (Xd zq4 [(0,1),(1,1),(2,1),(3,1),(4,1),(5,1),(6,1),(7,1)] [y,a1,a4,a9,b4,b9,c4,c9] c) λd1=>
 A.pu (Za 7 [e] c) λd2=>A.pu (Yf 2 8 [d2,(h0 f)] c) λd3=>A.dr (Zb 8 [d3,d1] c) c λ_ d4 c=>A.gd (Qe [[],[],[1],[],[3],[],[5],[],[7],[7,8],[],[10],[7,8,9,10,11],[],[13],[7,8,9,10,11,12,13,14],[],[16],[7,8,9,10,11,12,13,14,15,16,17],[],[19],[7,8,9,10,11,12,13,14,15,16,17,18,19,20],[1,2,3,4,5,6,7,8,9,10,11,12,13,14,15,16,17,18,19,20,21],[],[0,1,2,3,4,5,6,7,8,9,10,11,12,13,14,15,16,17,18,19,20,21,22,23],[0,1,2,3,4,5,6,7,8,9,10,11,12,13,14,15,16,17,18,19,20,21,22,23,24]] [([],[]),([],[]),z,([],[]),a2,([],[]),a5,([],[]),a8,b0,([],[]),b3,b5,([],[]),b8,c0,([],[]),c3,c5,([],[]),c8,d0,([],[]),([],[]),([],[]),d4]) <|
 A.b .add (h0 f) (jv 1) c λd5=>p [d5] c) (A.r (Zc true 23) e c λd6=>A.ws (Zb 23) h d6 c λ_ c=>A.opt (cellV true 23 h c) λr55=>i r55 c)) [jv 0] c
 |_=>A.stop
theorem g19_ok:GQ 19 1 g19:=gq1 [none,some [4],none,none] λ_ _ _ _ _=>by kernel_rfl
def g20:GFun:=λA xs d z=>match xs with
 |[x0,x1]=>
 A.w1 Zm x0 d λg d=>A.w1 Zm x1 d λh d=>A.r (Za 0) g d λt2=>A.a t2 d λt3=>A.r (Za 0) h d λt4=>A.a t4 d λt5=>A.b .neq t3 t5 d λp=>
 A.fr p (Za 1) g d λt7=>A.fa p t7 d λt8=>A.fr p (Za 1) h d λt9=>A.fa p t9 d λa0=>A.fb p .neq t8 a0 d λa1=>A.c p (.bool true) a1 d λq=>
 A.fr q (Za 2) g d λa2=>A.fa q a2 d λa3=>A.fr q (Za 2) h d λa4=>A.fa q a4 d λa5=>A.fb q .neq a3 a5 d λa6=>A.c q (.bool true) a6 d λs=>
 A.fr s (Za 3) g d λa7=>A.fa s a7 d λa8=>A.fr s (Za 3) h d λa9=>A.fa s a9 d λb0=>A.fs s (Yh .neq true) a8 b0 d λb1=>A.c s (.bool true) b1 d λt=>
 A.fr t (Za 4) g d λb2=>A.fa t b2 d λb3=>A.fr t (Za 4) h d λb4=>A.fa t b4 d λb5=>A.fb t .neq b3 b5 d λb6=>A.c t (.bool true) b6 d λu=>
 A.fr u (Za 6) g d λb7=>A.fa u b7 d λb8=>A.fr u (Za 6) h d λb9=>A.fa u b9 d λc0=>A.fb u .neq b8 c0 d λc1=>A.c u (.bool true) c1 d λi=>
 A.fr i (Za 5) g d λc2=>A.fa i c2 d λc3=>A.fr i (Za 5) h d λc4=>A.fa i c4 d λc5=>A.gw i false (λk=>A.k 62 [c3,c5] d k) d λc6 d=>
 A.fr i (Zp .not) c6 d λc7=>A.c i (.bool true) c7 d λc8=>A.test c8 (z (.bool false) d) (A.loop (λc9 y d=>A.b .lss (h0 y) (jv 2) d λd0=>A.test d0 (
 A.pu (Za 7 [g] d) λd1=>A.pu (Yf 2 8 [d1,(h0 y)] d) λd2=>A.dr (Zc true 8 [d2] d) d λd3 d4 d=>A.pu (Za 7 [h] d) λd5=>
 A.pu (Yf 2 8 [d5,(h0 y)] d) λd6=>A.dr (Zc true 8 [d6] d) d λd7 d8 d=>A.dr (Xc zq4 [] d) d λe d9 d=>A.dr (Xc zq4 [] d) d λf e0 d=>
 A.dr (Zb 8 [e,d3] d) d λ_ e1 d=>A.dr (Zb 8 [f,d7] d) d λ_ e2 d=>A.gd (Qe [[],[],[0,1],[0,1,2],[],[],[4,5],[4,5,6],[],[],[0,1,2,3,8,9],[0,1,2,3,4,5,6,7,8,9,10]] [([],[]),([],[]),([],[]),d4,([],[]),([],[]),([],[]),d8,d9,e0,e1,e2]) <|
 A.r (Za 0) e d λe3=>A.a e3 d λe4=>A.r (Za 0) f d λe5=>A.a e5 d λe6=>A.b .neq e4 e6 d λv=>A.fr v (Za 1) e d λe7=>
 A.fa v e7 d λe8=>A.fr v (Za 1) f d λe9=>A.fa v e9 d λf0=>A.fb v .neq e8 f0 d λf1=>A.c v (.bool true) f1 d λw=>A.fr w (Za 2) e d λf2=>
 A.fa w f2 d λf3=>A.fr w (Za 2) f d λf4=>A.fa w f4 d λf5=>A.fb w .neq f3 f5 d λf6=>A.c w (.bool true) f6 d λj=>A.fr j (Za 3) e d λf7=>
 A.fa j f7 d λf8=>A.fr j (Za 3) f d λf9=>A.fa j f9 d λg0=>A.gw j false (λk=>A.k 62 [f8,g0] d k) d λg1 d=>A.fr j (Zp .not) g1 d λg2=>
 A.c j (.bool true) g2 d λl=>A.fr l (Za 4) e d λg3=>A.fa l g3 d λg4=>A.fr l (Za 4) f d λg5=>A.fa l g5 d λg6=>A.gw l false (λk=>A.k 62 [g4,g6] d k) d λg7 d=>
 A.fr l (Zp .not) g7 d λg8=>A.c l (.bool true) g8 d λm=>A.fr m (Za 5) e d λg9=>A.fa m g9 d λi0=>A.fr m (Za 5) f d λi1=>A.fa m i1 d λi2=>
 A.gw m false (λk=>A.k 62 [i0,i2] d k) d λi3 d=>A.fr m (Zp .not) i3 d λi4=>A.c m (.bool true) i4 d λn=>A.fr n (Za 7) e d λi5=>A.fa n i5 d λi6=>
 A.fr n (Za 7) f d λi7=>A.fa n i7 d λi8=>A.gw n false (λk=>A.k 62 [i6,i8] d k) d λi9 d=>A.fr n (Zp .not) i9 d λj0=>A.c n (.bool true) j0 d λo=>
 A.fr o (Za 6) e d λj1=>A.fa o j1 d λj2=>A.fr o (Za 6) f d λj3=>A.fa o j3 d λj4=>A.gw o false (λk=>A.k 63 [j2,j4] d k) d λj5 d=>
 A.fr o (Zp .not) j5 d λj6=>A.c o (.bool true) j6 d λj7=>A.test j7 (z (.bool false) d) (A.b .add (h0 y) (jv 1) d λj8=>c9 [j8] d)) (z (.bool true) d)) [jv 0] d)
 |_=>A.stop
theorem g20_ok:GQ 20 2 g20:=gq2 [none,none,some [5],none,none,none] λ_ _ _ _ _ _=>by kernel_rfl
def g21:GFun:=λA xs d t=>match xs with
 |[x0,x1,x2,x3]=>
 A.w1 Zm x0 d λn d=>A.w1 Zm x1 d λh d=>A.wr (Xc zq0 [] d) d λj d=>A.wr (Xc zq1 [] d) d λl d=>A.k 56 [n,h] d λi d=>A.s (QS .ptr false false) i .nilp d λo=>
 A.fr o Yg x2 d λv=>A.fb o .lss v (jv 0) d λw=>A.c o (.bool true) w d λp=>A.fr p Yg x2 d λy=>A.fb p .gtr y (jv 1) d λz=>A.c p (.bool true) z d λq=>
 A.fr q Yg x3 d λa0=>A.fb q .lss a0 (jv 0) d λa1=>A.c q (.bool true) a1 d λg=>A.fr g Yg x3 d λa2=>A.fr g (Za 0) n d λa3=>A.fa g a3 d λa4=>
 A.fr g Qd a4 d λa5=>A.fb g .geq a2 a5 d λa6=>A.c g (.bool true) a6 d λe=>A.fr e (Za 0) n d λa7=>A.fa e a7 d λa8=>A.fr e Yg x3 d λa9=>
 A.fs e (Qa 12) a8 a9 d λb0=>A.fr e (Za 1) b0 d λb1=>A.fa e b1 d λb2=>A.fr e (Zp .not) b2 d λb3=>A.c e (.bool true) b3 d λf=>
 A.fr f Yg x2 d λb4=>A.fr f (Za 7) h d λb5=>A.fs f (Yf 2 8) b5 b4 d λb6=>A.fr f (Za 6) b6 d λb7=>A.fa f b7 d λb8=>
 A.fr f Qd b8 d λb9=>A.fb f .geq b9 (jv 7) d λc0=>A.c f (.bool true) c0 d λm=>A.fr m (Za 6) h d λc1=>A.fa m c1 d λc2=>A.fb m .geq c2 (jv 1000000) d λc3=>
 A.c m (.bool true) c3 d λc4=>A.test c4 (A.rd (Xd zq0 [] [] d) λc5=>A.rd (Xd zq1 [] [] d) λc6=>A.ws (Zb 23) j c5 d λ_ d=>A.ws (Zb 7) l c6 d λ_ d=>
 A.opt (cellV true 23 j d) λr43=>A.opt (cellV true 7 l d) λr44=>t (.tup [r43,r44,.bool false]) d) (A.r Xa i d λc7=>A.r (Za 1) c7 d λc8=>
 A.r (Za 7) c8 d λc9=>A.s (Yf 2 8) c9 x2 d λu=>A.pu (Xa [u] d) λd0=>A.pu (Za 6 [d0] d) λd1=>A.dr (Yd [d1] d) d λd2 d3 d=>
 A.pu (Za 6 [h] d) λd4=>A.dr (Yd [d4] d) d λd5 d6 d=>A.pu (Xd zq3 [(0,1),(1,1),(3,1)] [d5,x3,.bool true] d) λd7=>A.dr (Zh 4 1 zq3 [(0,4)] [d7] d) d λd8 d9 d=>
 A.dr (Qg 4 32 [d2,d8] d) d λe0 e1 d=>A.pu (Xa [u] d) λe2=>A.pu (Za 6 [e2] d) λe3=>A.dr (Zb 1 [e3,e0] d) d λ_ e4 d=>
 A.gd (Qe [[],[],[1],[1,2],[1,2,3],[],[5],[],[5,6,7],[5,6,7,8],[1,2,3,4,5,6,7,8,9],[0,1,2,3,4,5,6,7,8,9,10],[0,1,2,3,4,5,6,7,8,9,10,11],[0,1,2,3,4,5,6,7,8,9,10,11,12]] [([],[]),([],[]),([],[]),([],[]),d3,([],[]),d6,([],[]),([],[]),d9,e1,([],[]),([],[]),e4]) <|
 A.r Xa i d λe5=>A.r (Za 1) e5 d λe6=>A.r (Za 6) e6 d λe7=>A.a e7 d λe8=>A.b .add e8 (jv 1) d λe9=>A.r Xa i d λf0=>
 A.r (Za 1) f0 d λf1=>A.r (Za 6) f1 d λf2=>A.ws (Zb 1) f2 e9 d λ_ d=>A.pu (Xa [i] d) λf3=>A.pu (Za 1 [f3] d) λf4=>
 A.dr (Zc true 23 [f4] d) d λf5 f6 d=>A.pu (Za 6 [h] d) λf7=>A.dr (Yd [f7] d) d λf8 f9 d=>A.pu (Xd zq1 [(0,1),(1,1),(2,1),(3,1)] [.int .i8 2,x2,x3,f8] d) λg0=>
 A.dr (Zb 23 [j,f5] d) d λ_ g1 d=>A.dr (Zb 7 [l,g0] d) d λ_ g2 d=>A.gd (Qe [[],[0],[0,1],[0,1,2],[],[],[],[6],[4,5,6,7],[0,1,2,3],[0,1,2,3,4,5,6,7,8,9],[0,1,2,3,4,5,6,7,8,9,10]] [([],[]),([],[]),([],[]),f6,([],[]),([],[]),([],[]),f9,([],[]),g1,g2,([],[])]) <|
 A.opt (cellV true 23 j d) λr82=>A.opt (cellV true 7 l d) λr83=>t (.tup [r82,r83,.bool true]) d)
 |_=>A.stop
def g22:GFun:=λA xs a e=>match xs with
 |[x0,x1,x2,x3,x4]=>
 A.w1 Zm x0 a λf a=>A.w1 Zm x1 a λg a=>A.wr (Xc zq0 [] a) a λc a=>A.wr (Xc zq1 [] a) a λd a=>A.k 64 [f,g,.int .i8 5,x2,x3,x4,(.func (.func 65) [] [])] a λb a=>
 A.r (Qb 0) b a λh=>A.r (Qb 1) b a λi=>A.r (Qb 2) b a λj=>A.ws (Zb 23) c h a λ_ a=>A.ws (Zb 7) d i a λ_ a=>A.opt (cellV true 23 c a) λr8=>
 A.opt (cellV true 7 d a) λr9=>e (.tup [r8,r9,j]) a
 |_=>A.stop
theorem g22_ok:GQ 22 5 g22:=gq5 [] λ_ _ _ _ _ _ _ _ _=>by kernel_rfl
def g27:GFun:=λA xs c l=>match xs with
 |[x0,x1,x2]=>
 A.w1 Zm x0 c λp c=>A.w1 Zm x1 c λq c=>A.wr (Xc zq0 [] c) c λg c=>A.k 56 [p,q] c λd c=>A.s (QS .ptr false false) d .nilp c λt=>
 A.test t (A.rd (Xd zq0 [] [] c) λu=>A.ws (Zb 23) g u c λ_ c=>A.opt (cellV true 23 g c) λr6=>l (.tup [r6,.nils]) c) (A.r Qd x2 c λv=>
 A.loop (λw e c=>A.b .lss (h0 e) v c λy=>A.test y (joinK (λm=>A.s (Qa 1) x2 (h0 e) c λz=>A.a z c λa0=>A.wr (Xc [jv 0] [] c) c λh c=>
 A.ws (Zb 1) h a0 c λ_ c=>A.pu (Xa [d] c) λa1=>A.pu (Za 1 [a1] c) λa2=>A.dr (Zc true 23 [a2] c) c λa3 a4 c=>A.dr (Yd [h] c) c λa5 a6 c=>
 A.dcall (.call 71) [a3,a5] c λi a7 c=>A.pu (Qb 0 [i] c) λn=>A.pu (Qb 1 [i] c) λj=>A.pu (Qb 2 [i] c) λa8=>A.gd (Qe [[],[0],[0,1],[0,1,2],[],[0,1,2,3,4],[0,1,2,3,4,5],[0,1,2,3,4,5,6],[0,1,2,3,4,5,6],[0,1,2,3,4,5,6],[0,1,2,3,4,5,6,7],[0,1,2,3,4,5,6,7,8,10],[0,1,2,3,4,5,6,7,8,9,10,11]] [([],[]),([],[]),([],[]),a4,a6,a7,([],[]),([],[]),([],[]),([],[]),([],[]),([],[]),([],[])]) <|
 A.r (Zp .not) a8 c λa9=>A.test a9 (m [(h1 e)] c) (A.r Xa d c λb0=>A.r (Za 1) b0 c λb1=>A.r (Za 7) b1 c λb2=>A.s (Yf 2 8) b2 n c λf=>
 A.r Xa f c λb3=>A.r (Za 6) b3 c λb4=>A.a b4 c λb5=>A.s (Qa 4) b5 j c λb6=>A.r (Za 1) b6 c λb7=>A.a b7 c λo=>
 A.r Xa f c λb8=>A.r (Za 6) b8 c λb9=>A.a b9 c λc0=>A.b .add j (jv 1) c λc1=>A.k 72 [c0,j,c1] c λc2 c=>A.r Xa f c λc3=>
 A.r (Za 6) c3 c λc4=>A.ws (Zb 1) c4 c2 c λ_ c=>A.r Xa f c λc5=>A.r (Za 5) c5 c λc6=>A.a c6 c λc7=>A.wr (Zh 1 1 [jv 0] [(0,1)] [o] c) c λc8 c=>
 A.wr (Qg 1 8 [c7,c8] c) c λc9 c=>A.r Xa f c λd0=>A.r (Za 5) d0 c λd1=>A.ws (Zb 1) d1 c9 c λ_ c=>A.r Xa d c λd2=>
 A.r (Za 1) d2 c λd3=>A.r (Za 5) d3 c λd4=>A.a d4 c λd5=>A.r (Zo (.func 74) 0) h c λd6=>A.k 73 [d5,d6] c λd7 c=>A.r Xa d c λd8=>
 A.r (Za 1) d8 c λd9=>A.r (Za 5) d9 c λe0=>A.ws (Zb 1) e0 d7 c λ_ c=>A.a h c λe1=>A.rd (Xd zq1 [(0,1),(1,1),(2,1),(3,1)] [.int .i8 13,n,o,e1] c) λe2=>
 A.wr (Zh 7 1 zq1 [(0,7)] [e2] c) c λe3 c=>A.wr (Qg 7 72 [(h1 e),e3] c) c λe4 c=>m [e4] c)) (λe5 c=>A.b .add (h0 e) (jv 1) c λe6=>w [e6,(h0 e5)] c)) (
 A.r Xa d c λe7=>A.r (Za 1) e7 c λe8=>A.r (Zc true 23) e8 c λe9=>A.ws (Zb 23) g e9 c λ_ c=>A.opt (cellV true 23 g c) λr69=>
 l (.tup [r69,(h1 e)]) c)) [jv 0,.nils] c)
 |_=>A.stop
theorem g27_ok:GQ 27 3 g27:=gq3 [none,none,some [23,9],none,some [9],none] λ_ _ _ _ _ _ _=>by kernel_rfl
def g43:GFun:=λA xs a e=>match xs with
 |[x0,x1,x2,x3]=>
 A.w1 Zm x0 a λf a=>A.w1 Zm x1 a λg a=>A.r (Zc true 2) f a λh=>A.r (Zc true 23) g a λi=>A.k 92 [h,i,.nils] a λb a=>A.fr b Yg x2 a λj=>
 A.fr b Qd j a λl=>A.fb b .gtr l (jv 60) a λm=>A.c b (.bool true) m a λd=>A.fr d Yg x3 a λn=>A.fr d Qd n a λo=>A.fb d .gtr o (jv 60) a λp=>
 A.c d (.bool true) p a λq=>e q a
 |_=>A.stop
theorem g43_ok:GQ 43 4 g43:=gq4 [] λ_ _ _ _ _ _ _ _=>by kernel_rfl
def g44:GFun:=λA xs a w=>match xs with
 |[]=>
 A.k 93 [] a λy a=>A.k 94 [] a λz a=>A.wr (Zh 1 2 [jv 0,jv 0] [(0,1),(1,1)] [jv 1,jv 3] a) a λt2 a=>A.k 45 [y,z,t2] a λn a=>
 A.r (Qb 0) n a λt4=>A.r (Qb 1) n a λt5=>A.r (Qb 2) n a λt6=>A.wr (Xc zq0 [] a) a λh a=>A.ws (Zb 23) h t4 a λ_ a=>
 A.dcall (.call 93) [] a λt8 l9 a=>A.dr (Zc true 23 [h] a) a λa0 a1 a=>A.pu (Xd [jv 0,jv 0] [(0,1),(1,1)] [jv 1,jv 2] a) λa2=>A.dr (Zh 2 1 [jv 0,jv 0] [(0,2)] [a2] a) a λa3 a4 a=>
 A.dcall (.call 48) [t8,a0,a3] a λo a5 a=>A.pu (Qb 0 [o] a) λa6=>A.pu (Qb 1 [o] a) λg9=>A.pu (Qb 2 [o] a) λa7=>A.dr (Xc zq0 [] a) a λi a8 a=>
 A.dr (Zb 23 [i,a6] a) a λ_ a9 a=>A.gd (Qe [[],[],[],[2],[0,1,2,3],[0,1,2,3,4],[0,1,2,3,4,5],[0,1,2,3,4,5],[0,1,2,3,4,5],[],[0,1,2,3,4,5,6,9],[0,1,2,3,4,5,6,7,9,10],[0,1,2,3,4,5,6,7,8,9,10,11]] [l9,a1,([],[]),a4,a5,([],[]),([],[]),([],[]),([],[]),a8,a9,([],[]),([],[])]) <|
 A.dcall (.call 93) [] a λb0 b1 a=>A.dr (Zc true 23 [h] a) a λb2 b3 a=>A.dcall (.call 50) [b0,b2,.nils] a λv b4 a=>A.pu (Qb 0 [v] a) λb5=>
 A.pu (Qb 1 [v] a) λb6=>A.gd (Qe [[],[],[0,1],[0,1,2],[0,1,2,3],[0,1,2,3],[0,1,2,3,4],[0,1,2,3,4,5,6]] [b1,b3,b4,([],[]),([],[]),([],[]),([],[]),([],[])]) <|
 A.k 93 [] a λb7 a=>A.k 94 [] a λb8 a=>A.wr (Zh 1 1 [jv 0] [(0,1)] [jv 2] a) a λb9 a=>A.k 45 [b7,b8,b9] a λp a=>A.r (Qb 0) p a λc0=>
 A.r (Qb 1) p a λi0=>A.r (Qb 2) p a λc1=>A.wr (Xc zq0 [] a) a λc2 a=>A.ws (Zb 23) c2 c0 a λ_ a=>A.b .eql t6 (jv 0) a λj=>
 A.tr j Yg t5 a λc3=>A.tr j Qd c3 a λc4=>A.tb j .eql c4 (jv 2) a λc5=>A.c j c5 (.bool false) a λl=>A.tr l (Za 2) h a λc6=>A.ta l c6 a λc7=>
 A.tb l .eql c7 (.int .i8 1) a λc8=>A.c l c8 (.bool false) a λf=>A.tr f (Za 7) h a λc9=>A.ts f (Yf 2 8) c9 (jv 0) a λd0=>A.tr f (Za 6) d0 a λd1=>
 A.ta f d1 a λd2=>A.ts f (Qa 4) d2 (jv 0) a λd3=>A.tr f (Za 3) d3 a λd4=>A.ta f d4 a λd5=>A.c f d5 (.bool false) a λq=>A.tr q Yg a7 a λd6=>
 A.tb q .eql d6 (jv 0) a λd7=>A.c q d7 (.bool false) a λd=>A.tr d (Za 7) i a λd8=>A.ts d (Yf 2 8) d8 (jv 1) a λd9=>A.tr d (Za 6) d9 a λe0=>
 A.ta d e0 a λe1=>A.ts d (Qa 4) e1 (jv 0) a λe2=>A.tr d (Za 2) e2 a λe3=>A.ta d e3 a λe4=>A.tb d .eql e4 (jv 3) a λe5=>A.c d e5 (.bool false) a λe=>
 A.tr e (Za 7) i a λe6=>A.ts e (Yf 2 8) e6 (jv 0) a λe7=>A.tr e (Za 6) e7 a λe8=>A.ta e e8 a λe9=>A.ts e (Qa 4) e9 (jv 0) a λf0=>
 A.tr e (Za 2) f0 a λf1=>A.ta e f1 a λf2=>A.tb e .eql f2 (jv 0) a λf3=>A.c e f3 (.bool false) a λg=>A.tr g (Za 7) i a λf4=>
 A.ts g (Yf 2 8) f4 (jv 1) a λf5=>A.tr g (Za 0) f5 a λf6=>A.ta g f6 a λf7=>A.tb g .eql f7 (jv 19) a λf8=>A.c g f8 (.bool false) a λm=>
 A.tr m (Za 2) i a λf9=>A.ta m f9 a λg0=>A.tb m .eql g0 (.int .i8 0) a λg1=>A.c m g1 (.bool false) a λs=>A.tr s Yg b6 a λg2=>A.tb s .eql g2 (jv 0) a λg3=>
 A.c s g3 (.bool false) a λt=>A.tr t Yg b5 a λg4=>A.tb t .eql g4 (jv 4) a λg5=>A.c t g5 (.bool false) a λu=>A.tr u Yg c1 a λg6=>A.tb u .eql g6 (jv 2) a λg7=>
 A.c u g7 (.bool false) a λg8=>w g8 a
 |_=>A.stop
theorem g44_ok:GQ 44 0 g44:=gq0 [] λ_ _ _ _=>by kernel_rfl
def g45:GFun:=λA xs d j=>match xs with
 |[x0,x1,x2]=>
 A.w1 Zm x0 d λv d=>A.w1 Zm x1 d λl d=>A.wr (Xc zq0 [] d) d λg d=>A.r (Zc true 2) v d λw=>A.r (Zc true 23) l d λy=>A.k 55 [w,y] d λz d=>
 A.b .neq z (jv 0) d λt6=>A.test t6 (A.rd (Xd zq0 [] [] d) λt7=>A.ws (Zb 23) g t7 d λ_ d=>A.opt (cellV true 23 g d) λr8=>j (.tup [r8,.nils,jv 170]) d) (
 A.r (Za 2) l d λt9=>A.a t9 d λa0=>A.b .neq a0 (.int .i8 0) d λo=>A.fr o (Za 3) l d λa1=>A.fa o a1 d λa2=>A.c o (.bool true) a2 d λm=>
 A.fr m Yg x2 d λa3=>A.fr m Qd a3 d λa4=>A.fb m .eql a4 (jv 0) d λa5=>A.c m (.bool true) a5 d λp=>A.fr p Yg x2 d λa6=>A.gw p false (λk=>A.k 95 [a6] d k) d λa7 d=>
 A.c p (.bool true) a7 d λa8=>A.test a8 (A.rd (Xd zq0 [] [] d) λa9=>A.ws (Zb 23) g a9 d λ_ d=>A.opt (cellV true 23 g d) λr23=>j (.tup [r23,.nils,jv 2]) d) (
 A.r (Zc true 23) l d λb0=>A.k 59 [b0] d λb1 d=>A.wr (Xc zq0 [] d) d λf d=>A.ws (Zb 23) f b1 d λ_ d=>A.r Qd x2 d λb2=>A.loop (λb3 h d=>
 A.b .lss (h0 h) b2 d λb4=>A.test b4 (A.s (Qa 1) x2 (h0 h) d λb5=>A.a b5 d λt=>A.r (Zc true 23) f d λb6=>A.k 71 [b6,t] d λq d=>A.r (Qb 0) q d λn=>
 A.r (Qb 1) q d λu=>A.r (Qb 2) q d λb7=>A.r (Zp .not) b7 d λi=>A.fr i Yg n d λb8=>A.fr i (Za 1) f d λb9=>A.fa i b9 d λc0=>
 A.fb i .neq b8 c0 d λc1=>A.c i (.bool true) c1 d λe=>A.fr e Yg n d λc2=>A.fr e (Za 7) f d λc3=>A.fs e (Yf 2 8) c3 c2 d λc4=>
 A.fr e (Za 6) c4 d λc5=>A.fa e c5 d λc6=>A.fr e Yg u d λc7=>A.fs e (Qa 4) c6 c7 d λc8=>A.fr e (Za 3) c8 d λc9=>A.fa e c9 d λd0=>
 A.c e (.bool true) d0 d λd1=>A.test d1 (A.rd (Xd zq0 [] [] d) λd2=>A.ws (Zb 23) g d2 d λ_ d=>A.opt (cellV true 23 g d) λr55=>j (.tup [r55,.nils,jv 2]) d) (
 A.r (Za 7) f d λd3=>A.s (Yf 2 8) d3 n d λd4=>A.r (Za 6) d4 d λd5=>A.a d5 d λd6=>A.s (Qa 4) d6 u d λd7=>A.r (Za 3) d7 d λd8=>
 A.ws (Zb 1) d8 (.bool true) d λ_ d=>A.rd (Xd zq1 [(0,1),(1,1),(3,1)] [.int .i8 11,n,t] d) λd9=>A.wr (Zh 7 1 zq1 [(0,7)] [d9] d) d λe0 d=>
 A.wr (Qg 7 72 [(h1 h),e0] d) d λe1 d=>A.b .add (h0 h) (jv 1) d λe2=>b3 [e2,e1] d)) (A.k 96 [x2] d λe3 d=>A.r (Za 5) f d λe4=>A.ws (Zb 1) e4 e3 d λ_ d=>
 A.r (Za 3) f d λe5=>A.ws (Zb 1) e5 (.bool true) d λ_ d=>A.r (Za 2) f d λe6=>A.ws (Zb 1) e6 (.int .i8 1) d λ_ d=>A.r (Zc true 23) f d λe7=>
 A.ws (Zb 23) g e7 d λ_ d=>A.opt (cellV true 23 g d) λr71=>j (.tup [r71,(h1 h),jv 0]) d)) [jv 0,.nils] d))
 |_=>A.stop
theorem g45_ok:GQ 45 3 g45:=gq3 [none,none,none,some [42,10],none,none,none] λ_ _ _ _ _ _ _=>by kernel_rfl
end Go.Ah.Tz
end
