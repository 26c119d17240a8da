/- Part of the proof that ValueHidden holds of the program for arguments that together hold at most 1048576 values and letters; no other condition. -/
import Derived.Test.YtflcpnaigpgciaaGreatDoorN1
import Derived.Orders
import Derived.DataReads
import Derived.ChangeShapes
import Derived.Test.YtflcpnaigpgciaaGreatDoorProg
import Derived.KernelRfl
set_option linter.all false
section
namespace Go.Ah
def Loc(P:Program)(GL:Globs)(m:MOper)(ρ:Frame)(h0:Hp)(v:AVal)(rd:List Nat)(up:List (Nat×ABlk)):Prop:=
 ∀(n:Nat) (ops:Array Oper) (o:Oper),OperOk P GL n ops o m→∀(ρ':Frame) (h:Hp) (w0:World) (L:Ln) (g:Gm) (w:World) (a:Act),
  (∀t∈usesT m,fget ρ' t=fget ρ t)→(∀b∈rd,h b=h0 b)→(∀p∈up,h p.1=h0 p.1)→Rep GL w0 L g h w→DenF n g ρ' a →
  ∀(next:Act→World→Prop) (Q:Exit→Act→World→Prop),(∀g' w' u,g.Le g'→Rep GL w0 L g' (hups h up) w'→DenF n g' (putF m.dst v ρ') (a.put o.dst u)→next (a.put o.dst u) w') →
   if Region.wanted o (yielded ops a.tmps) then o.wp P a w next Q∨(o.asks P a w∧LetsOut Q) else next (a.put o.dst undef) w
section
variable {P:Program} {GL:Globs}
theorem Ybe{m:MOper}{ρ ρ':Frame}(h:∀t∈usesT m,fget ρ' t=fget ρ t):m.xs.map (ev ρ')=m.xs.map (ev ρ):=by
 apply List.map_congr_left;intro x hx;cases x with
 |t n=>exact h n (List.mem_append.2 (.inl (List.mem_filterMap.2 ⟨.t n,hx,rfl⟩)))
 |c v=>rfl
theorem QW{m:MOper}{ρ ρ':Frame}(h:∀t∈usesT m,fget ρ' t=fget ρ t){cs:List (Bool×Bool)}(hg:GuardIs ρ m.guard cs):GuardIs ρ' m.guard cs:=by
 unfold usesT at h;generalize m.guard=gd at hg h;cases hg with
 |none=>exact .none
 |bool s w c e=>exact .bool s w c (by rw[h s (by simp)]; exact e)
 |when s w c cs e=>exact .when s w c cs (by rw[h s (by simp)]; exact e)
theorem Zbf{m:MOper}{ρ:Frame}{σ:List ABlk}{lg:Log}{K:Frame→List ABlk→Log→Prop}(s:StepR true P GL m ρ σ lg K) :
  ∃v rd up σ',upL σ up=some σ'∧K (putF m.dst v ρ) σ' (lg++[(rd,up.map (·.1))])∧Loc P GL m ρ (hp σ) v rd up:=by
 cases s with
 |run cs ys v rd up σ' h1 h2 h3 h4 h5 h6=>
  refine⟨v,rd,up,σ',h5,h6,?_⟩;intro n ops o ok ρ' h w0 L g w a hu hrd hup r d next Q hn;obtain⟨os,hcomp,hos⟩:=ok.op;have hops:=Zai r d hos;rw[if_pos ((Qp ok d (QW hu h1)).1 h2)];left;have hden:=Q8 trivial h3 (by rw[←Ybe hu]; exact hops);have ho:=h4 o os hcomp w0 L g h w a r hden hrd hup;refine ho.upon (λg' u w' hle hr hu=>hn g' w' u hle hr ?_);rw[ok.dst];exact(d.mono hle).putF ok.lt hu
 |skip cs h1 h2 h3=>
  refine⟨.junk,[],[],σ,rfl,h3,?_⟩;intro n ops o ok ρ' h w0 L g w a hu hrd hup r d next Q hn;rw[if_neg (by rw[(Qp ok d (QW hu h1)).2 h2]; simp)];refine hn g w undef (Gm.Le.refl g) r ?_;rw[ok.dst];exact d.putF ok.lt (.junk _ _)
 |lazy cs ys v rd h1 h2 h3 h4=>
  refine⟨.when cs v,rd,[],σ,rfl,h4,?_⟩;intro n ops o ok ρ' h w0 L g w a hu hrd hup r d next Q hn;obtain⟨os,hcomp,hos⟩:=ok.op;have hops:=Zai r d hos;by_cases hh:Hold cs
  ·rw[if_pos ((Qp ok d (QW hu h1)).1 hh)];left;have hden:=Q8 hh h2 (by rw[←Ybe hu]; exact hops);have ho:=h3 hh o os hcomp w0 L g h w a r hden hrd hup;refine ho.upon (λg' u w' hle hr hu=>hn g' w' u hle hr ?_);rw[ok.dst];exact(d.mono hle).putF ok.lt (.when _ _ _ _ (λ_=>hu) (λh=>(h hh).elim))
  ·rw[if_neg (by rw[(Qp ok d (QW hu h1)).2 hh]; simp)];refine hn g w undef (Gm.Le.refl g) r ?_;rw[ok.dst];exact d.putF ok.lt (.when _ _ _ _ (λh=>(hh h).elim) (λ_=>rfl))
 |pick cs x y z c p q v h1 hk hxs hx hy hz hv h8=>
  refine⟨v,[],[],σ,rfl,h8,?_⟩;intro n ops o ok ρ' h w0 L g w a hu hrd hup r d next Q hn;obtain⟨os,hcomp,hos⟩:=ok.op;have hops:=Zai r d hos;rw[Ybe hu,hxs] at hops;have h1':=QW hu h1;have hcomp':=hcomp;rw[hk] at hcomp';generalize hop:o.op=op at hcomp';cases hcomp' with
  |pick oc oa ob=>
   obtain⟨d1,d2,d3,_⟩:=hops;by_cases hh:Hold cs
   ·rw[if_pos ((Qp ok d h1').1 hh)];left;have e1:=Xw (Qad hh hx d1);have hres:g.den (.bool (bif c then p else q)) (if c then a.eval oa else a.eval ob):=by
     cases c
     ·exact Qad ⟨hh,rfl⟩ hz d3
     ·exact Qad ⟨hh,rfl⟩ hy d2
    have hrun:(execOp a.eval o).run P w=.ok (.value (if c then a.eval oa else a.eval ob)) w:=by
     simp only[execOp,hop,e1,asBool];simp
    unfold Oper.wp;rw[hrun];refine hn g _ _ (Gm.Le.refl g) r ?_;rw[ok.dst];rcases hv with rfl|⟨rfl,rfl⟩
    ·exact d.putF ok.lt (.when _ _ _ _ (λ_=>hres) (λh=>(h hh).elim))
    ·exact d.putF ok.lt hres
   ·rw[if_neg (by rw[(Qp ok d h1').2 hh]; simp)];refine hn g _ _ (Gm.Le.refl g) r ?_;rw[ok.dst];rcases hv with rfl|⟨rfl,rfl⟩
    ·exact d.putF ok.lt (.when _ _ _ _ (λh=>(hh h).elim) (λ_=>rfl))
    ·exact(hh (by simp[Hold])).elim
 |rel cs ys R h0=>cases h0
structure TS where
 v:AVal
 rd:List Nat
 up:List (Nat×ABlk)
def Tr(P:Program)(GL:Globs):List MOper→List TS→Frame→List ABlk→Log→(Frame→List ABlk→Log→Prop)→Prop
 |[],[],ρ,σ,lg,Q=>Q ρ σ lg
 |m::ms,t::ts,ρ,σ,lg,Q=>Loc P GL m ρ (hp σ) t.v t.rd t.up∧∃σ',upL σ t.up=some σ'∧Tr P GL ms ts (putF m.dst t.v ρ) σ' (lg++[(t.rd,t.up.map (·.1))]) Q
 |_,_,_,_,_,_=>False
theorem Xa9:∀(ms:List MOper) (ρ:Frame) (σ:List ABlk) (lg:Log) (Q:Frame→List ABlk→Log→Prop),AwpR true P GL ms ρ σ lg Q→∃ts,Tr P GL ms ts ρ σ lg Q
 |[],ρ,σ,lg,Q,h=>⟨[],h⟩
 |m::ms,ρ,σ,lg,Q,h=>by
  obtain⟨v,rd,up,σ',h1,h2,h3⟩:=Zbf h;obtain⟨ts,ht⟩:=Xa9 ms _ _ _ Q h2;exact⟨⟨v,rd,up⟩::ts,h3,σ',h1,ht⟩
def frS(S:Nat→Bool):Nat→List MOper→List TS→Frame→Frame
 |i,m::ms,t::ts,ρ=>frS S (i+1) ms ts (if S i then putF m.dst t.v ρ else ρ)
 |_,_,_,ρ=>ρ
def hpS(S:Nat→Bool):Nat→List TS→Hp→Hp
 |i,t::ts,h=>hpS S (i+1) ts (if S i then hups h t.up else h)
 |_,_,h=>h
theorem X6{S S':Nat→Bool}{t:Nat}:∀(ms:List MOper) (ts:List TS) (i:Nat) (ρ ρ':Frame),(∀(k:Nat) (m:MOper),ms[k]?=some m→m.dst=some t→S (i+k)=S' (i+k))→fget ρ t=fget ρ' t→fget (frS S i ms ts ρ) t=fget (frS S' i ms ts ρ') t
 |[],_,_,_,_,_,h=>by simpa[frS] using h
 |_::_,[],_,_,_,_,h=>by simpa[frS] using h
 |m::ms,x::ts,i,ρ,ρ',hs,h=>by
  simp only[frS];refine X6 ms ts (i+1) _ _ (λk m' e1 e2=>by have:=hs (k+1) m' (by simpa using e1) e2; rwa [show i+(k+1)=i+1+k by omega] at this) ?_;by_cases hd:m.dst=some t
  ·have:=hs 0 m rfl hd;rw[Nat.add_zero] at this;rw[this];cases S' i<;>simp[XW,hd,h]
  ·have e1:∀(b:Bool) (r:Frame),fget (if b then putF m.dst x.v r else r) t=fget r t:=by intro b r; cases b<;>simp[XW,hd]
   rw[e1,e1,h]
theorem ZaS:∀(up:List (Nat×ABlk)) (h h':Hp) (b:Nat),b∈up.map (·.1)→hups h up b=hups h' up b
 |[],_,_,_,e=>by cases e
 |(a,x)::up,h,h',b,e=>by
  by_cases hb:b∈up.map (·.1)
  ·exact ZaS up _ _ b hb
  ·have:b=a:=by simp at e hb; rcases e with e|⟨y,e⟩; exact e; exact(hb y e).elim
   subst this;have out:∀(up:List (Nat×ABlk)) (h:Hp),b∉up.map (·.1)→hups h up b=h b:=by
    intro up
    induction up with
    |nil=>intro h _; rfl
    |cons p up ih=>
     intro h hn;simp only[List.map_cons,List.mem_cons,not_or] at hn;obtain⟨a,x⟩:=p;show hups (hup h a x) up b=h b;rw[ih _ hn.2,Xp _ _ hn.1]
   show hups (hup h b x) up b=hups (hup h' b x) up b;rw[out _ _ hb,out _ _ hb,Zr,Zr]
theorem YaS:∀(up:List (Nat×ABlk)) (h:Hp) (b:Nat),b∉up.map (·.1)→hups h up b=h b
 |[],_,_,_=>rfl
 |(a,x)::up,h,b,hn=>by
  simp only[List.map_cons,List.mem_cons,not_or] at hn;show hups (hup h a x) up b=h b;rw[YaS up _ b hn.2,Xp _ _ hn.1]
theorem Y7{S S':Nat→Bool}{b:Nat}:∀(ts:List TS) (i:Nat) (h h':Hp),(∀(k:Nat) (t:TS),ts[k]?=some t→b∈t.up.map (·.1)→S (i+k)=S' (i+k))→h b=h' b→hpS S i ts h b=hpS S' i ts h' b
 |[],_,_,_,_,h=>by simpa[hpS] using h
 |x::ts,i,h,h',hs,e=>by
  simp only[hpS];refine Y7 ts (i+1) _ _ (λk t e1 e2=>by have:=hs (k+1) t (by simpa using e1) e2; rwa [show i+(k+1)=i+1+k by omega] at this) ?_;by_cases hd:b∈x.up.map (·.1)
  ·have:=hs 0 x rfl hd;rw[Nat.add_zero] at this;rw[this];cases S' i
   ·simpa using e
   ·simpa using ZaS _ _ _ _ hd
  ·have e1:∀(c:Bool) (r:Hp),(if c then hups r x.up else r) b=r b:=by intro c r; cases c<;>simp[YaS _ _ _ hd]
   rw[e1,e1,e]
theorem Ybo{S:Nat→Bool}{t:Nat}:∀(ms:List MOper) (ts:List TS) (i:Nat) (ρ:Frame) (j:Nat) (m:MOper) (x:TS),ms[j]?=some m→ts[j]?=some x→m.dst=some t→S (i+j)=true →
  (∀(k:Nat) (m':MOper),ms[k]?=some m'→m'.dst=some t→S (i+k)=true→k≤j)→fget (frS S i ms ts ρ) t=x.v
 |m::ms,x::ts,i,ρ,0,m0,x0,e1,e2,e3,e4,hl=>by
  simp at e1 e2; subst e1 e2;rw[Nat.add_zero] at e4;simp only[frS,e4,if_true];have:=X6 (S:=S) (S':=λ_=>false) (t:=t) ms ts (i + 1) (putF m.dst x.v ρ) (putF m.dst x.v ρ) (λk m' q1 q2=>by
   cases hS:S (i+1+k) with
   |false=>rfl
   | true=>have:=hl (k + 1) m' (by simpa using q1) q2 (by rwa [show i + (k + 1)=i + 1 + k by omega]); omega) rfl
  rw[this];have hid:∀(ms:List MOper) (ts:List TS) (i:Nat) (ρ:Frame),frS (λ_=>false) i ms ts ρ=ρ:=by
   intro ms
   induction ms with
   |nil=>intros; simp[frS]
   |cons m ms ih=>intro ts i ρ; cases ts with
    |nil=>simp[frS]
    |cons x ts=>simp[frS,ih]
  rw[hid,XW,if_pos e3]
 |m::ms,x::ts,i,ρ,j+1,m0,x0,e1,e2,e3,e4,hl=>by
  simp only[frS];exact Ybo ms ts (i + 1) _ j m0 x0 (by simpa using e1) (by simpa using e2) e3 (by rwa [show i + 1 + j=i + (j + 1) by omega]) (λk m' q1 q2 q3=>by
   have:=hl (k + 1) m' (by simpa using q1) q2 (by rwa [show i + (k + 1)=i + 1 + k by omega]); omega)
 |[],_,_,_,_,_,_,e1,_,_,_,_=>by simp at e1
 |_::_,[],_,_,_,_,_,_,e2,_,_,_=>by simp at e2
theorem Zbp{S:Nat→Bool}{b:Nat}:∀(ts:List TS) (i:Nat) (h:Hp) (j:Nat) (x:TS),ts[j]?=some x→b∈x.up.map (·.1)→S (i+j)=true →
  (∀(k:Nat) (x':TS),ts[k]?=some x'→b∈x'.up.map (·.1)→S (i+k)=true→k≤j)→∀h':Hp,hpS S i ts h b=hups h' x.up b
 |x::ts,i,h,0,x0,e2,e3,e4,hl,h'=>by
  simp at e2; subst e2;rw[Nat.add_zero] at e4;simp only[hpS,e4,if_true];have:=Y7 (S:=S) (S':=λ_=>false) (b:=b) ts (i + 1) (hups h x.up) (hups h' x.up) (λk m' q1 q2=>by
   cases hS:S (i+1+k) with
   |false=>rfl
   | true=>have:=hl (k + 1) m' (by simpa using q1) q2 (by rwa [show i + (k + 1)=i + 1 + k by omega]); omega) (ZaS _ _ _ _ e3)
  rw[this];have hid:∀(ts:List TS) (i:Nat) (h:Hp),hpS (λ_=>false) i ts h=h:=by
   intro ts
   induction ts with
   |nil=>intros; simp[hpS]
   |cons m ms ih=>intro i ρ; simp[hpS,ih]
  rw[hid]
 |x::ts,i,h,j+1,x0,e2,e3,e4,hl,h'=>by
  simp only[hpS];exact Zbp ts (i + 1) _ j x0 (by simpa using e2) e3 (by rwa [show i + 1 + j=i + (j + 1) by omega]) (λk m' q1 q2 q3=>by
   have:=hl (k + 1) m' (by simpa using q1) q2 (by rwa [show i + (k + 1)=i + 1 + k by omega]); omega) h'
 |[],_,_,_,_,e2,_,_,_,_=>by simp at e2
theorem Qcw:∀(ms:List MOper) (ts:List TS) (i:Nat) (ρ:Frame) (σ:List ABlk) (lg:Log) (Q:Frame→List ABlk→Log→Prop),Tr P GL ms ts ρ σ lg Q →
  ts.length=ms.length ∧
  (∀(j:Nat) (m:MOper) (x:TS),ms[j]?=some m→ts[j]?=some x→∃ρ',(∀t,fget ρ' t=fget (frS (λk=>decide (k<i+j)) i ms ts ρ) t)∧Loc P GL m ρ' (hpS (λk=>decide (k<i+j)) i ts (hp σ)) x.v x.rd x.up) ∧
  ∃ρ' σ',(∀t,fget ρ' t=fget (frS (λ_=>true) i ms ts ρ) t)∧hp σ'=hpS (λ_=>true) i ts (hp σ)∧Q ρ' σ' (lg++ts.map λx=>(x.rd,x.up.map (·.1)))
 |[],[],i,ρ,σ,lg,Q,h=>⟨rfl,by simp,ρ,σ,by simp[frS],by simp[hpS],by simpa[Tr] using h⟩
 |[],_::_,_,_,_,_,_,h=>h.elim
 |_::_,[],_,_,_,_,_,h=>h.elim
 |m::ms,x::ts,i,ρ,σ,lg,Q,h=>by
  obtain⟨h1,σ',h2,h3⟩:=h;obtain⟨k1,k2,ρ2,σ2,k3,k4,k5⟩:=Qcw ms ts (i+1) _ _ _ _ h3;have hu:=Yaj _ _ _ h2;refine⟨by simp[k1],λj m' x' e1 e2=>?_,ρ2,σ2,λt=>by rw[k3 t]; simp[frS],by rw[k4]; simp only[hpS,if_true]; rw[hu],by simpa[List.append_assoc] using k5⟩;cases j with
  |zero=>
   simp at e1 e2; subst e1 e2;have hf:∀t,fget ρ t=fget (frS (λk=>decide (k<i+0)) i (m::ms) (x::ts) ρ) t:=by
    intro t;have:=X6 (S:=λk=>decide (k<i+0)) (S':=λ_=>false) (t:=t) (m::ms) (x::ts) i ρ ρ (λk _ _ _=>by simp) rfl;rw[this];have hid:∀(ms:List MOper) (ts:List TS) (i:Nat) (ρ:Frame),frS (λ_=>false) i ms ts ρ=ρ:=by
     intro ms
     induction ms with
     |nil=>intros; simp[frS]
     |cons m ms ih=>intro ts i ρ; cases ts with
      |nil=>simp[frS]
      |cons x ts=>simp[frS,ih]
    rw[hid]
   have hh:hpS (λk=>decide (k<i+0)) i (x::ts) (hp σ)=hp σ:=by
    funext b
    have:=Y7 (S:=λk=>decide (k<i+0)) (S':=λ_=>false) (b:=b) (x::ts) i (hp σ) (hp σ) (λk _ _ _=>by simp) rfl;rw[this];have hid:∀(ts:List TS) (i:Nat) (h:Hp),hpS (λ_=>false) i ts h=h:=by
     intro ts
     induction ts with
     |nil=>intros; simp[hpS]
     |cons m ms ih=>intro i ρ; simp[hpS,ih]
    rw[hid]
   exact⟨ρ,hf,by rw[hh]; exact h1⟩
  |succ j=>
   simp at e1 e2;obtain⟨ρ',q1,q2⟩:=k2 j m' x' e1 e2;refine⟨ρ',λt=>?_,?_⟩
   ·rw[q1 t]; simp only[frS];rw[if_pos (by simp)];rw[show i+(j+1)=i+1+j by omega]
   ·simp only[hpS];rw[if_pos (by simp),hu,show i+(j+1)=i+1+j by omega];exact q2
end
end Go.Ah
end
section
namespace Go.Ah
theorem XJ:∀ {a b:List Nat},disj a b=true→∀x,x∈a→x∉b
 |[],_,_,x,h=>by cases h
 |y::a,b,hd,x,h=>by
  simp only[disj,Bool.and_eq_true,Bool.not_eq_true'] at hd;rcases List.mem_cons.1 h with rfl|h
  ·intro hb; have:=List.contains_iff_mem.2 hb; rw[hd.1] at this; cases this
  ·exact XJ hd.2 x h
theorem X9{h:List Nat}{q:List Nat×List Nat}:∀ {lg:Log} {i:Nat},XP h q i lg=true→∀(k:Nat) (p:List Nat×List Nat),lg[k]?=some p→(i+k)∈h∨apart2 p q=true
 |[],_,_,_,_,e=>by simp at e
 |p::lg,i,hh,0,p',e=>by
  simp at e; subst e;simp only[XP,Bool.and_eq_true,Bool.or_eq_true] at hh;rcases hh.1 with h1|h1
  ·exact .inl (List.contains_iff_mem.1 h1)
  ·exact .inr h1
 |p::lg,i,hh,k+1,p',e=>by
  simp only[XP,Bool.and_eq_true] at hh;have:=X9 hh.2 k p' (by simpa using e)
  rwa [show i+(k+1)=i+1+k by omega]
def cnt(S:Nat→Bool):Nat→Nat
 |0=>0
 |n+1=>cnt S n+(if S n then 0 else 1)
theorem Qbl{S:Nat→Bool}:∀ {n:Nat},cnt S n=0→∀k,k<n→S k=true
 |0,_,k,h=>by omega
 |n+1,e,k,h=>by
  simp only[cnt] at e;by_cases hk:k=n
  ·subst hk;cases hs:S k with
   |true=>rfl
   |false=>simp[hs] at e
  ·exact Qbl (S:=S) (n:=n) (by omega) k (by omega)
theorem Xbl{S S':Nat→Bool}:∀ {n:Nat},(∀k,k<n→S' k=S k)→cnt S' n=cnt S n
 |0,_=>rfl
 |n+1,h=>by simp only[cnt]; rw[Xbl (λk hk=>h k (by omega)),h n (by omega)]
theorem ZbK{S S':Nat→Bool}{j:Nat}:∀ {n:Nat},j<n→S j=false→S' j=true→(∀k,k<n→k≠j→S' k=S k)→cnt S' n+1=cnt S n
 |0,h,_,_,_=>by omega
 |n+1,h,h1,h2,h3=>by
  simp only[cnt];by_cases hj:j=n
  ·subst hj;rw[Xbl (λk hk=>h3 k (by omega) (by omega)),h1,h2]; simp
  ·have:=ZbK (n:=n) (by omega) h1 h2 (λk hk hne=>h3 k (by omega) hne);rw[h3 n (by omega) (λe=>hj e.symm)];omega
structure DrawFacts (ops:List Oper) (ms:List MOper) (hd:List (List Nat)):Prop where
 len:ops.length=ms.length
 back:∀j,j<ms.length→∀i∈waits (ops.getD j default),i<j
 ahd:∀j,j<ms.length→∀i∈YL hd j,i<j∧(i∈waits (ops.getD j default)∨∃k∈waits (ops.getD j default),i∈YL hd k)
 slots:∀j,j<ms.length→∀i,i<j→i∈YL hd j∨((∀t∈defsT (ms.getD i default),t∉usesT (ms.getD j default))∧(∀t∈defsT (ms.getD i default),t∉defsT (ms.getD j default))∧∀t∈usesT (ms.getD i default),t∉defsT (ms.getD j default))
theorem Za0{ops:List Oper}{ms:List MOper}{hd:List (List Nat)}(h:QaZ ops ms hd=true):DrawFacts ops ms hd:=by
 unfold QaZ at h;simp only[Bool.and_eq_true,List.all_eq_true,List.mem_range,Bool.or_eq_true,List.any_eq_true] at h;obtain⟨⟨⟨⟨h1,h2⟩,h3⟩,h4⟩,h5⟩:=h;refine⟨YNB h1,λj hj i hi=>YNL (h3 j hj i hi),λj hj i hi=>?_,λj hj i hi=>?_⟩
 ·obtain⟨q1,q2⟩:=h4 j hj i hi;refine⟨YNL q1,?_⟩;rcases q2 with q|⟨k,q,q'⟩
  ·exact .inl (List.contains_iff_mem.1 q)
  ·exact .inr ⟨k,q,List.contains_iff_mem.1 q'⟩
 ·rcases h5 j hj i hi with q|q
  ·exact .inl (List.contains_iff_mem.1 q)
  ·obtain⟨⟨q1,q2⟩,q3⟩:=q;exact .inr ⟨XJ q1,XJ q2,XJ q3⟩
section
variable {P:Program} {GL:Globs}
theorem Zbk{ops:List Oper}{ms:List MOper}{hd:List (List Nat)}(D:DrawFacts ops ms hd){S:Nat→Bool}(hS:∀j,S j=true→j<ms.length∧∀i∈waits (ops.getD j default),S i=true) :
  ∀(j:Nat),j<ms.length→(∀i∈waits (ops.getD j default),S i=true)→∀i∈YL hd j,S i=true:=by
 intro j
 induction j using Nat.strongRecOn with
 |_ j ih=>
  intro hj hw i hi;rcases (D.ahd j hj i hi).2 with q|⟨k,q,q'⟩
  ·exact hw i q
  ·have hk:=hw k q;exact ih k (D.back j hj k q) (hS k hk).1 (hS k hk).2 i q'
theorem Qa3{o:Oper}{i:Nat}:i∈waits o↔∃e∈o.after,Region.binds .any e=true∧e.on=i:=by
 unfold waits;simp only[List.mem_map,List.mem_filter,Array.mem_toList_iff];constructor
 ·rintro⟨e,⟨h1,h2⟩,h3⟩; exact⟨e,h1,h2,h3⟩
 ·rintro⟨e,h1,h2,h3⟩; exact⟨e,⟨h1,h2⟩,h3⟩
theorem ZaA(ops:Array Oper)(j:Nat){o:Oper}(h:ops[j]?=some o):ops.toList.getD j default=o:=by
 rw[List.getD_eq_getElem?_getD,Array.getElem?_toList,h]; rfl
theorem Qbx{n:Nat}{ops:Array Oper}{ms:List MOper}{hd:List (List Nat)}(hsz:ops.size=ms.length)(hok:∀(j:Nat) (m:MOper),ms[j]?=some m→∃o,ops[j]?=some o∧OperOk P GL n ops o m)(hdr:QaZ ops.toList ms hd=true)
 {ρ:Frame}{σ:List ABlk}{ts:List TS}{K:Frame→List ABlk→Log→Prop}(htr:Tr P GL ms ts ρ σ [] K)(hap:Zi hd (ts.map λx=>(x.rd,x.up.map (·.1)))=true)
 {w0:World}{L:Ln}{g:Gm}(Q:Exit→Act→World→Prop)(hQ:∀g' ρ' σ' a w,g.Le g'→Rep GL w0 L g' (hp σ') w→DenF n g' ρ' a→K ρ' σ' (ts.map λx=>(x.rd,x.up.map (·.1)))→Q .normal a w) :
  ∀(fuel:Nat) (listed:Array Bool) (a:Act) (w:World),listed.size=ms.length→(∀j,listed.getD j false=true→j<ms.length∧∀i∈waits (ops.toList.getD j default),listed.getD i false=true) →
   cnt (λk=>listed.getD k false) ms.length≤fuel→(∃g' ρ',g.Le g'∧Rep GL w0 L g' (hpS (λk=>listed.getD k false) 0 ts (hp σ)) w∧DenF n g' ρ' a∧∀t,fget ρ' t=fget (frS (λk=>listed.getD k false) 0 ms ts ρ) t) →
   wpAny P .any ops Q fuel listed a w:=by
 have D:=Za0 hdr;obtain⟨hlen,hat,ρf,σf,hf1,hf2,hf3⟩:=Qcw ms ts 0 ρ σ [] K htr;rw[List.nil_append] at hf3;have hA:∀j,j<ms.length→∀i,i<j→i∈YL hd j∨apart2 (Zao (ts.map λx=>(x.rd,x.up.map (·.1))) i) (Zao (ts.map λx=>(x.rd,x.up.map (·.1))) j)=true:=by
  intro j hj i hi;unfold Zi at hap;simp only[List.all_eq_true,List.mem_range,List.length_map] at hap;have:=X9 (hap j (by omega)) i (Zao (ts.map λx=>(x.rd,x.up.map (·.1))) i) (by
   rw[List.getElem?_take_of_lt hi];unfold Zao;rw[List.getElem?_eq_getElem (by simp; omega)];rfl)
  rwa [Nat.zero_add] at this
 have hlog:∀j x,ts[j]?=some x→Zao (ts.map λx=>(x.rd,x.up.map (·.1))) j=(x.rd,x.up.map (·.1)):=by
  intro j x e; unfold Zao; rw[List.getElem?_map,e]; rfl
 have fin:∀(listed:Array Bool) (a:Act) (w:World),(∀k,k<ms.length→listed.getD k false=true)→(∃g' ρ',g.Le g'∧Rep GL w0 L g' (hpS (λk=>listed.getD k false) 0 ts (hp σ)) w∧DenF n g' ρ' a∧∀t,fget ρ' t=fget (frS (λk=>listed.getD k false) 0 ms ts ρ) t)→Q .normal a w:=by
  rintro listed a w hall ⟨g',ρ',h1,h2,h3,h4⟩;refine hQ g' ρf σf a w h1 ?_ ?_ hf3
  ·rw[hf2];have:hpS (λk=>listed.getD k false) 0 ts (hp σ)=hpS (λ_=>true) 0 ts (hp σ):=by
    funext b
    refine Y7 _ _ _ _ (λk t e _=>?_) rfl;have:k<ts.length:=(YLG e).1;rw[Nat.zero_add]; exact hall k (by omega)
   rw[←this]; exact h2
  ·refine h3.weak (λt=>.inl ?_);rw[hf1 t,h4 t];refine X6 _ _ _ _ _ (λk m e _=>?_) rfl;have:k<ms.length:=(YLG e).1;rw[Nat.zero_add]; exact(hall k this).symm
 have rdy:∀(listed:Array Bool),listed.size=ms.length→Region.ready .any ops listed=[]→∀k,k<ms.length→listed.getD k false=true:=by
  intro listed hs hr k
  induction k using Nat.strongRecOn with
  |_ k ih=>
   intro hk;cases hl:listed.getD k false with
   |true=>rfl
   |false=>
    exfalso;have hko:ops[k]?=some ops[k]:=by simp
    have:k∈Region.ready .any ops listed:=by
     rw[mem_ready];refine⟨?_,ops[k],hko,λe he hb=>?_⟩
     ·rw[Array.getD_eq_getD_getElem?,Array.getElem?_eq_getElem (by omega)] at hl ⊢; exact hl
     ·have hw:e.on∈waits (ops.toList.getD k default):=by rw[ZaA ops k hko,Qa3]; exact⟨e,he,hb,rfl⟩
      have hlt:=D.back k hk _ hw;exact ih e.on hlt (by omega)
    rw[hr] at this; cases this
 intro fuel
 induction fuel with
 |zero=>
  intro listed a w hs hS hc hst;have hall:=Qbl (Nat.le_zero.1 hc);refine⟨?_,fin listed a w hall hst⟩;cases hr:Region.ready .any ops listed with
  |nil=>rfl
  |cons k r=>
   exfalso;have:k∈Region.ready .any ops listed:=by rw[hr]; simp
   obtain⟨h1,o,ho,_⟩:=mem_ready.1 this;have hk:k<ms.length:=by rw[←hsz]; exact(Array.getElem?_eq_some_iff.1 ho).1
   have:=hall k hk;rw[Array.getD_eq_getD_getElem?,Array.getElem?_eq_getElem (by omega)] at h1 this;simp at h1 this; rw[h1] at this; cases this
 |succ fuel ih=>
  intro listed a w hs hS hc hst;refine⟨λhr=>fin listed a w (rdy listed hs hr) hst,λj hj=>?_⟩;obtain⟨h1,o,ho,hedge⟩:=mem_ready.1 hj;have hjn:j<ms.length:=by rw[←hsz]; exact(Array.getElem?_eq_some_iff.1 ho).1
  have hSj:listed.getD j false=false:=by
   rw[Array.getD_eq_getD_getElem?,Array.getElem?_eq_getElem (by omega)] at h1 ⊢; exact h1
  have hwj:∀i∈waits (ops.toList.getD j default),listed.getD i false=true:=by
   intro i hi;rw[ZaA ops j ho,Qa3] at hi;obtain⟨e,he,hb,rfl⟩:=hi;exact hedge e he hb
  have hhd:=Zbk D (S:=λk=>listed.getD k false) hS j hjn hwj;have hmj:ms[j]?=some ms[j]:=by simp
  have htj:ts[j]?=some (ts[j]'(by omega)):=by simp[show j<ts.length by omega]
  generalize hmd:ms[j]=m at hmj;generalize hxd:(ts[j]'(by omega))=x at htj;have hmD:ms.getD j default=m:=by rw[List.getD_eq_getElem?_getD,hmj]; rfl
  obtain⟨o',ho',oko⟩:=hok j m hmj;rw[ho] at ho'; cases ho';obtain⟨ρj,q1,q2⟩:=hat j m x hmj htj;simp only[Nat.zero_add] at q1 q2;obtain⟨g',ρ',s1,s2,s3,s4⟩:=hst;have key:∀k,k<ms.length→(k<j→k∈YL hd j)→(j<k→j∈YL hd k)→(k≠j)→(listed.getD k false=decide (k<j)):=by
   intro k hk ha hb hne;by_cases hlt:k<j
   ·rw[decide_eq_true hlt]; exact hhd k (ha hlt)
   ·rw[decide_eq_false hlt];have hgt:j<k:=by omega
    cases hl:listed.getD k false with
    |false=>rfl
    |true=>
     have:listed.getD j false=true:=Zbk D (S:=λk=>listed.getD k false) hS k hk (hS k hl).2 j (hb hgt);rw[hSj] at this; cases this
  have hslot:∀t,(t∈usesT m)→∀k mk,ms[k]?=some mk→mk.dst=some t→k≠j→listed.getD k false=decide (k<j):=by
   intro t ht k mk hk hdst hne;have hkn:k<ms.length:=(YLG hk).1;have hkD:ms.getD k default=mk:=by rw[List.getD_eq_getElem?_getD,hk]; rfl
   have hdef:t∈defsT mk:=by unfold defsT; rw[hdst]; simp
   refine key k hkn (λhlt=>?_) (λhgt=>?_) hne
   ·rcases D.slots j hjn k hlt with q|⟨q,_,_⟩
    ·exact q
    ·rw[hkD,hmD] at q; exact(q t hdef ht).elim
   ·rcases D.slots k hkn j hgt with q|⟨_,_,q⟩
    ·exact q
    ·rw[hkD,hmD] at q; exact(q t ht hdef).elim
  have hblk:∀b,(b∈x.rd∨b∈x.up.map (·.1))→∀k xk,ts[k]?=some xk→b∈xk.up.map (·.1)→k≠j→listed.getD k false=decide (k<j):=by
   intro b hb k xk hk hin hne;have hkn:k<ms.length:=by rw[←hlen]; exact(YLG hk).1
   refine key k hkn (λhlt=>?_) (λhgt=>?_) hne
   ·rcases hA j hjn k hlt with q|q
    ·exact q
    ·rw[hlog k xk hk,hlog j x htj] at q;simp only[apart2,Bool.and_eq_true] at q;rcases hb with hb|hb
     ·exact(XJ q.2.1 b hin hb).elim
     ·exact(XJ q.2.2 b hin hb).elim
   ·rcases hA k hkn j hgt with q|q
    ·exact q
    ·rw[hlog k xk hk,hlog j x htj] at q;simp only[apart2,Bool.and_eq_true] at q;rcases hb with hb|hb
     ·exact(XJ q.1 b hb hin).elim
     ·exact(XJ q.2.2 b hb hin).elim
  have hjself:∀k,k=j→listed.getD k false=decide (k<j):=by rintro k rfl; rw[hSj]; simp
  have heq:∀b,(b∈x.rd∨b∈x.up.map (·.1))→hpS (λk=>listed.getD k false) 0 ts (hp σ) b=hpS (λk=>decide (k<j)) 0 ts (hp σ) b:=by
   intro b hb;refine Y7 _ _ _ _ (λk xk e1 e2=>?_) rfl;rw[Nat.zero_add];by_cases hkj:k=j
   ·exact hjself k hkj
   ·exact hblk b hb k xk e1 e2 hkj
  unfold wpOp;simp only[ho];refine q2 n ops o oko ρ' _ w0 L g' w a (λt ht=>?_) (λb hb=>heq b (.inl hb)) (λp hp'=>heq p.1 (.inr (List.mem_map.2 ⟨p,hp',rfl⟩))) s2 s3 _ _ (λg2 w2 u hle hr hd2=>?_)
  ·rw[s4 t,q1 t];refine X6 _ _ _ _ _ (λk mk e1 e2=>?_) rfl;rw[Nat.zero_add];by_cases hkj:k=j
   ·exact hjself k hkj
   ·exact hslot t ht k mk e1 e2 hkj
  ·have hset:∀k,k<ms.length→(listed.setIfInBounds j true).getD k false=if k=j then true else listed.getD k false:=by
    intro k hk;by_cases hkj:k=j
    ·subst hkj; simp[show k<listed.size by omega]
    ·rw[if_neg hkj]; simp[Array.getElem?_setIfInBounds_ne (Ne.symm hkj)]
   have hset':∀k,(listed.setIfInBounds j true).getD k false=if k=j then true else listed.getD k false:=by
    intro k;by_cases hk:k<ms.length
    ·exact hset k hk
    ·rw[if_neg (by omega)];rw[Array.getD_eq_getD_getElem?,Array.getD_eq_getD_getElem?,Array.getElem?_eq_none (by simp; omega),Array.getElem?_eq_none (by omega)]
   refine ih _ _ _ (by simpa using hs) (λk hk=>?_) ?_ ⟨g2,putF m.dst x.v ρ',s1.trans hle,?_,hd2,λt=>?_⟩
   ·rw[hset'] at hk;by_cases hkj:k=j
    ·subst hkj;refine⟨hjn,λi hi=>?_⟩;rw[hset']; split
     ·rfl
     ·exact hwj i hi
    ·rw[if_neg hkj] at hk;refine⟨(hS k hk).1,λi hi=>?_⟩;rw[hset']; split
     ·rfl
     ·exact(hS k hk).2 i hi
   ·have:=ZbK (S:=λk=>listed.getD k false) (S':=λk=>(listed.setIfInBounds j true).getD k false) (j:=j) (n:=ms.length) hjn hSj (by simp only[hset']; simp) (λk hk hne=>by simp only[hset']; rw[if_neg hne]);omega
   ·have:hpS (λk=>(listed.setIfInBounds j true).getD k false) 0 ts (hp σ)=hups (hpS (λk=>listed.getD k false) 0 ts (hp σ)) x.up:=by
     funext b
     by_cases hb:b∈x.up.map (·.1)
     ·refine Zbp ts 0 (hp σ) j x htj hb (by rw[Nat.zero_add,hset',if_pos rfl]) (λk xk e1 e2 e3=>?_) _;rw[Nat.zero_add,hset'] at e3;by_cases hkj:k=j
      ·omega
      ·rw[if_neg hkj] at e3;rw[hblk b (.inr hb) k xk e1 e2 hkj] at e3;have:=of_decide_eq_true e3; omega
     ·rw[YaS _ _ _ hb];refine Y7 _ _ _ _ (λk xk e1 e2=>?_) rfl;rw[Nat.zero_add];simp only[hset'];have hkj:k≠j:=by rintro rfl; rw[htj] at e1; cases e1; exact hb e2
      rw[if_neg hkj]
    rw[this]; exact hr
   ·rw[XW];by_cases hdt:m.dst=some t
    ·rw[if_pos hdt];refine(Ybo ms ts 0 ρ j m x hmj htj hdt (by rw[Nat.zero_add,hset',if_pos rfl]) (λk mk e1 e2 e3=>?_)).symm;rw[Nat.zero_add,hset'] at e3;by_cases hkj:k=j
     ·omega
     ·rw[if_neg hkj] at e3;have hkn:k<ms.length:=(YLG e1).1;have hkD:ms.getD k default=mk:=by rw[List.getD_eq_getElem?_getD,e1]; rfl
      have hdefm:t∈defsT m:=by unfold defsT; rw[hdt]; simp
      have hdefk:t∈defsT mk:=by unfold defsT; rw[e2]; simp
      have:=key k hkn (λhlt=>by
       rcases D.slots j hjn k hlt with q|⟨_,q,_⟩
       ·exact q
       ·rw[hkD,hmD] at q; exact(q t hdefk hdefm).elim) (λhgt=>by
       rcases D.slots k hkn j hgt with q|⟨_,q,_⟩
       ·exact q
       ·rw[hkD,hmD] at q; exact(q t hdefm hdefk).elim) hkj
      rw[this] at e3;have:=of_decide_eq_true e3; omega
    ·rw[if_neg hdt,s4 t];refine X6 _ _ _ _ _ (λk mk e1 e2=>?_) rfl;rw[Nat.zero_add];simp only[hset'];have hkj:k≠j:=by rintro rfl; rw[hmj] at e1; cases e1; exact hdt e2
     rw[if_neg hkj]
theorem Qbk(hP:P.follows .mixedOrders=true){n:Nat}{id:Nat}{ms:List MOper}{hd:List (List Nat)}{ρ:Frame}{σ:List ABlk}{Q:APost}
 (h:AwpR true P GL ms ρ σ [] (λρ' σ' lg=>Zi hd lg=true∧Q .normal ρ' σ')):Awp P GL n (.region id ms (some hd)) ρ σ Q:=by
 intro c hc w0 L g a w r d;cases hc with
 |draw _ ops _ _ hsz hok hdr=>
  obtain⟨ts,htr⟩:=Xa9 ms ρ σ [] _ h;obtain⟨hlen,_,ρf,σf,_,_,hf3⟩:=Qcw ms ts 0 ρ σ [] _ htr;rw[List.nil_append] at hf3;refine wp_region_any hP ?_;refine Qbx (w0:=w0) (L:=L) (g:=g) hsz hok hdr htr hf3.1 _ (λg' ρ' σ' a' w' k1 k2 k3 k4=>⟨g',ρ',σ',k1,k2,k3,k4.2⟩) ops.size _ a _ (by simp[hsz]) (λj hj=>?_) ?_ ⟨g,ρ,Gm.Le.refl g,?_,d,λt=>?_⟩
  ·exfalso;rw[Array.getD_eq_getD_getElem?,Array.getElem?_replicate] at hj;split at hj<;>simp at hj
  ·rw[hsz];have:∀m,cnt (λk=>(Array.replicate ms.length false).getD k false) m≤m:=by
    intro m
    induction m with
    |zero=>exact Nat.le_refl _
    |succ m ih=>simp only[cnt]; split<;>omega
   exact this _
  ·have hF:(λk=>(Array.replicate ops.size false).getD k false)=λ_=>false:=by
    funext k; rw[Array.getD_eq_getD_getElem?,Array.getElem?_replicate]; split<;>rfl
   rw[hF];have hid:∀(ts:List TS) (i:Nat) (h:Hp),hpS (λ_=>false) i ts h=h:=by
    intro ts
    induction ts with
    |nil=>intros; simp[hpS]
    |cons m ms ih=>intro i ρ; simp[hpS,ih]
   rw[hid];exact r.drew
  ·have hF:(λk=>(Array.replicate ops.size false).getD k false)=λ_=>false:=by
    funext k; rw[Array.getD_eq_getD_getElem?,Array.getElem?_replicate]; split<;>rfl
   rw[hF];have hid:∀(ms:List MOper) (ts:List TS) (i:Nat) (ρ:Frame),frS (λ_=>false) i ms ts ρ=ρ:=by
    intro ms
    induction ms with
    |nil=>intros; simp[frS]
    |cons m ms ih=>intro ts i ρ; cases ts with
     |nil=>simp[frS]
     |cons x ts=>simp[frS,ih]
   rw[hid]
end
end Go.Ah
end
section
namespace Go.Ah
theorem Steps.peel{P:Program}{m m₁ t:Machine}(h:Steps P m t)(hs:step P m=.next m₁):t=m∨Steps P m₁ t:=by
 obtain⟨n,hn⟩:=h;cases n with
 |zero=>simp[runN] at hn; exact .inl hn.symm
 |succ n=>simp only[runN,hs] at hn; exact .inr ⟨n,hn⟩
theorem XaK:∀(k k':List Item) (id:Nat),exitTo id k=some k'→k'.length≤k.length
  |[],k',id,h=>by simp[exitTo] at h
  |x::k,k',id,h=>by
    have ih:=XaK k k' id;cases x<;>simp only[exitTo] at h<;>first
      |(have:=ih h; simp; omega)
      | (split at h
         · cases h; simp
         · have:=ih h; simp; omega)
theorem Qa2{b:Go.Frame}{a a':Act}{k k':List Item}{cs:List Go.Frame}{w w':World}(h:lone (b.at a k) cs w=lone (b.at a' k') cs w'):k=k':=by
 simp[lone,Go.Frame.at] at h;exact h.2.2.1
theorem Xa2{b:Go.Frame}{a a':Act}{k k':List Item}{cs:List Go.Frame}{w w':World}{m:FrameMode}(hm:m≠.run)(h:lone { b.at a' k' with mode:=m } cs w'=lone (b.at a k) cs w):False:=by
 simp[lone,Go.Frame.at] at h;exact hm h.2.2.2.2
theorem YbR{P:Program}{c:Code}{Q:Exit→Act→World→Prop}{a:Act}{w:World}(hQ:∀a w,¬Q .outgrown a w)(hQ2:∀l a w,¬Q (.goto l) a w)(h:(Code.loop c).wp P Q a w)(b:Go.Frame)(k:List Item)(cs:List Go.Frame) :
  ∃e a' w',Q e a' w'∧Arrives P (lone (b.at a (.code c::.inLoop c::k)) cs w) b k cs e a' w':=by
 obtain⟨e,a',w',hq,harr⟩:=h b k cs;refine⟨e,a',w',hq,?_⟩;cases e with
 |normal=>
  rcases Steps.peel harr step_loop with e|e
  ·have:=Qa2 e; have:=congrArg List.length this; simp at this
  ·exact e
 |exit id=>
  intro k' hk;rcases Steps.peel (harr k' hk) step_loop with e|e
  ·have:=Qa2 e; have:=congrArg List.length this; have:=XaK _ _ _ hk; simp at *; omega
  ·exact e
 |goto l=>exact(hQ2 _ _ _ hq).elim
 |ret=>
  obtain⟨todo,hs⟩:=harr;rcases Steps.peel hs step_loop with e|e
  ·exact(Xa2 (by simp) e).elim
  ·exact⟨todo,e⟩
 |panic ch=>
  obtain⟨todo,hs⟩:=harr;rcases Steps.peel hs step_loop with e|e
  ·exact(Xa2 (by simp) e).elim
  ·exact⟨todo,e⟩
 |outgrown=>exact(hQ _ _ hq).elim
theorem ZaI{P:Program}{c:Code}{Q:Exit→Act→World→Prop}{a:Act}{w:World}(hQ:∀a w,¬Q .outgrown a w)(hQ2:∀l a w,¬Q (.goto l) a w)
 (h:c.wp P (Exit.then (λa w=>(Code.loop c).wp P Q a w) Q) a w):(Code.loop c).wp P Q a w:=by
 intro b k cs;obtain⟨e,a₁,w₁,hq,harr⟩:=h b (.inLoop c::k) cs;cases e with
 |normal=>
  obtain⟨e₂,a₂,w₂,hq₂,harr₂⟩:=YbR hQ hQ2 hq b k cs;exact⟨e₂,a₂,w₂,hq₂,.of_steps (.one step_loop) (.of_steps (Steps.trans harr (.one step_inLoop)) harr₂)⟩
 |exit id=>exact⟨_,a₁,w₁,hq,.of_steps (.one step_loop) (.pass (x:=.inLoop c) rfl (λ_ _=>.inl (by simp)) harr)⟩
 |goto l=>exact(hQ2 _ _ _ hq).elim
 |ret=>exact⟨_,a₁,w₁,hq,.of_steps (.one step_loop) (.pass (x:=.inLoop c) rfl (λ_ _=>.inl (by simp)) harr)⟩
 |panic ch=>exact⟨_,a₁,w₁,hq,.of_steps (.one step_loop) (.pass (x:=.inLoop c) rfl (λ_ _=>.inl (by simp)) harr)⟩
 |outgrown=>exact(hQ _ _ hq).elim
theorem Qbu{P:Program}{GL:Globs}{n:Nat}{x:MCode}{ρ:Frame}{σ:List ABlk}{Q:APost}(h:Awp P GL n x ρ σ (APost.andThen (λρ σ=>Awp P GL n (.loop x) ρ σ Q) Q)):Awp P GL n (.loop x) ρ σ Q:=by
 intro c hc w0 L g a w r d;cases hc with
 |loop c1 _ h1=>
  refine ZaI (λa w h=>h) (λl a w h=>h) (wp_mono (h c1 h1 w0 L g a w r d) (λe a' w' hl=>?_));cases e with
  |normal=>
   obtain⟨g',ρ',σ',k1,k2,k3,k4⟩:=hl;exact wp_mono (k4 (.loop c1) (.loop _ _ h1) w0 L g' a' w' k2 k3) (LiftQ.mono k1 (λ_ _ _ q=>q))
  |_=>exact hl
section
variable (runner:Bool→Nat→List MOper→Frame→List ABlk→Log→Cons→MRes)
def Yu:MK→List AVal→Option (Nat×List AVal)
 |.call f,xs=>some (f,xs)
 |.callv,.func (.func f) first captured::xs=>some (f,first++xs++captured)
 |_,_=>none
end
section
variable {P:Program} {GL:Globs}
theorem XaN{F:MFn}{f:FuncId}{k:MK}{xs ys:List AVal}(hc:Yu k xs=some (f,ys))(hp:Ym P f=true)(ok:FnOk P GL f F)(hn:ys.length=F.np){σ:List ABlk}{R:AVal→List ABlk→Prop}
 (h:Awp P GL F.n F.body (frame0 ys) σ (λe ρ σ'=>(e=.normal∨e=.ret)∧∃v,retV F.rets ρ σ'=some v∧R v σ')):OpRel P GL k xs σ R:=by
 have key:=Yap (P:=P) (GL:=GL) ok hn h;intro o os hco w0 L g w a r hx;unfold Yu at hc;split at hc
 ·cases hc;generalize ho:o.op=op at hco;cases hco with
  |call _ args ts _=>
   have hrun:(execOp a.eval o).run P w=.ok (.enter f (args.map a.eval)) w:=by
    simp only[execOp,ho,resolve,Sem.run_bind,Act.eval,Deferred.ofValue,Sem.run_pure,Result.andThen_ok,invoke];rw[XU hp];simp
   rw[hrun];have:=key w0 L g w _ r hx
   rwa [←Array.toList_map,Array.toArray_toList] at this
 ·rename_i first captured xs'
  cases hc;generalize ho:o.op=op at hco;cases hco with
  |callv x args ts=>
   obtain⟨d,dr⟩:=hx;generalize hu:a.eval x=u0 at d;cases d with
   |func _ _ _ _ vs ws h1 h2 h3 h4=>
    have hrun:(execOp a.eval o).run P w=.ok (.enter f (vs++args.map a.eval++ws)) w:=by
     simp only[execOp,ho,resolve,Sem.run_bind,hu,Deferred.ofValue,Sem.run_pure,Result.andThen_ok,invoke];rw[XU hp]
    rw[hrun];have hl:=dr.length;simp at hl;have:=key w0 L g w (vs ++ args.map a.eval ++ ws).toList r (DenL.of_get (by simp[h1,h2,hl]) (λi y u e1 e2=>by
     simp only[Array.toList_append] at e2;by_cases hi:i<first.length
     ·rw[List.append_assoc,List.getElem?_append_left hi] at e1;rw[List.append_assoc,List.getElem?_append_left (by simpa[h1] using hi)] at e2;exact h3 i y u e1 (by simpa using e2)
     ·by_cases hi2:i<first.length+xs'.length
      ·rw[List.append_assoc,List.getElem?_append_right (by omega),List.getElem?_append_left (by omega)] at e1;rw[List.append_assoc,List.getElem?_append_right (by simp; omega),List.getElem?_append_left (by simp; omega)] at e2;refine dr.get (i-first.length) y u e1 ?_;simpa[h1] using e2
      ·rw[List.getElem?_append_right (by simp; omega)] at e1;rw[List.getElem?_append_right (by simp; omega)] at e2;refine h4 (i - (first ++ xs').length) y u e1 ?_;simpa[h1,hl] using e2))
    rwa [Array.toArray_toList] at this
 ·cases hc
end
end Go.Ah
end
section
namespace Go.Ah
def nilOf:NilCls→Value→Bool
 |.ptr,.pointer none=>true
 |.slice,.slice none 0 0=>true
 |.iface,.nilIface=>true
 |.func,.nilFunc=>true
 |.map,.map none=>true
 |_,_=>false
theorem Zb8{c:NilCls}{v:Value}(h:nilOf c v=true):v=nilV c:=by
 unfold nilOf at h;split at h<;>first|rfl|cases h
def optB{α β:Type}(o:Option α)(f:α→Option β):Option β:=match o with
 |some a=>f a
 |none=>none
theorem Qf{α β:Type}{o:Option α}{f:α→Option β}{b:β}(h:optB o f=some b):∃a,o=some a∧f a=some b:=by
 cases o with
 |none=>cases h
 |some a=>exact⟨a,rfl,h⟩
def ZR{β:Type}(c:Bool)(x:Option β):Option β:=match c with
 |true=>x
 |false=>none
theorem Yq{β:Type}{c:Bool}{x:Option β}{b:β}(h:ZR c x=some b):c=true∧x=some b:=by
 cases c with
 |true=>exact⟨rfl,h⟩
 |false=>cases h
def mapM'{α β:Type}(f:α→Option β):List α→Option (List β)
 |[]=>some []
 |a::l=>optB (f a) λb=>optB (mapM' f l) λr=>some (b::r)
theorem Ybq{α β:Type}(f:α→Option β):∀(l:List α),l.mapM f=mapM' f l
 |[]=>rfl
 |a::l=>by
  rw[List.mapM_cons,Ybq f l,mapM'];cases f a with
  |none=>rfl
  |some b=>cases mapM' f l<;>rfl
def zeroCells(P:Program)(t:TypeId):Option (List AVal):=optB (zero? P t) λv=>ZA v.cells.toList
def QaA(P:Program)(t:TypeId):Bool:=match P.underlying t with
 |some .bool=>true
 |_=>false
theorem Zal{P:Program}{t:TypeId}(h:QaA P t=true):P.underlying t=some .bool:=by
 unfold QaA at h; split at h<;>first|assumption|cases h
def ZbQ(P:Program)(t:TypeId):Bool:=match P.underlying t with
 |some .string=>true
 |_=>false
theorem YbQ{P:Program}{t:TypeId}(h:ZbQ P t=true):P.underlying t=some .string:=by
 unfold ZbQ at h; split at h<;>first|assumption|cases h
def intT?(P:Program)(t:TypeId):Option IntKind:=match P.underlying t with
 |some (.int k)=>some k
 |_=>none
theorem Qcs{P:Program}{t:TypeId}{k:IntKind}(h:intT? P t=some k):P.underlying t=some (.int k):=by
 unfold intT? at h; split at h<;>first|(cases h; assumption)|cases h
theorem Zbn{P:Program}{t e:TypeId}(h:elemS? P t=some e):P.underlying t=some (.slice e):=by
 unfold elemS? at h; split at h<;>first|(cases h; assumption)|cases h
def keyT?(P:Program)(k:TypeId):Option Bool:=match P.underlying k with
 |some .string=>some true
 |some (.int _)=>some false
 |_=>none
theorem Qbe{P:Program}{k:TypeId}{s:Bool}(h:keyT? P k=some s):KeyT P k s:=by
 unfold keyT? at h;split at h
 ·rename_i e; cases h; exact e
 ·rename_i q e; cases h; exact⟨q,e⟩
 ·cases h
def Qbq(c:NilCls):Operand→Bool
 |.const v=>nilOf c v
 |_=>false
theorem Za4{c:NilCls}{x:Operand}(h:Qbq c x=true):x=.const (nilV c):=by
 cases x<;>simp only[Qbq] at h<;>first|cases h|rw[Zb8 h]
def eqOp:BinOp→Option Bool
 |.eql=>some false
 |.neq=>some true
 |_=>none
theorem Qcr{op:BinOp}{b:Bool}(h:eqOp op=some b):op=if b then .neq else .eql:=by
 cases op<;>simp_all [eqOp]<;>subst h<;>rfl
def Qbb(P:Program)(op:BinOp)(t:TypeId)(x y:Operand):Option (MK×List Operand):=
 match eqOp op with
 |none=>some (.bin op (QaA P t),[x,y])
 |some neq=>match clsT P t with
  |some c=>match Qbq c y with
   |true=>some (.eqNil c neq false,[x,y])
   |false=>match Qbq c x with
    |true=>some (.eqNil c neq true,[x,y])
    |false=>some (.bin op (QaA P t),[x,y])
  |none=>match leaves? P t with
   |some ls=>ZR (!P.stoodInHeld t && !P.eqGuardType P.depth t) (some (.eqS neq ls,[x,y]))
   |none=>some (.bin op (QaA P t),[x,y])
def YaQ(P:Program)(c:Call):Option (MK×List Operand):=
 match c.callee with
 |.value (.func f)=>ZR (Ym P f) (some (.call f,c.args.toList))
 |.value x=>some (.callv,x::c.args.toList)
 |.builtin .len=>match c.args.toList,c.argTypes.toList with
  |[x],[t]=>match P.underlying t with
   |some (.slice _)=>some (.lenS,[x])
   |some .string=>some (.lenStr,[x])
   |some (.array n _)=>some (.lenA n,[x])
   |some (.map _ _)=>some (.lenM,[x])
   |_=>none
  |_,_=>none
 |.builtin .clear=>match c.args.toList,c.argTypes.toList with
  |[x],[t]=>optB (elemS? P t) λe=>optB (size? P e) λn=>optB (zero? P e) λv=>optB (ZA v.cells.toList) λz=>
   ZR (Nat.beq v.cells.size n && !(Nat.beq n 0)) (some (.clearS n z,[x]))
  |_,_=>none
 |.builtin .min=>match c.args.toList with
  |[x,y]=>some (.min2,[x,y])
  |_=>none
 |.builtin .max=>match c.args.toList with
  |[x,y]=>some (.max2,[x,y])
  |_=>none
 |.builtin .append=>match c.args.toList,c.argTypes.toList with
  |[x,y],[t,t']=>optB (elemS? P t) λe=>optB (elemS? P t') λ_=>optB (size? P e) λn=>optB (zero? P e) λv=>optB (ZA v.cells.toList) λz=>
   ZR (Nat.beq v.cells.size n&&(!(Nat.beq (P.bytesOf e) 0) && !(Nat.beq n 0))) (some (.append n (P.bytesOf e) z,[x,y]))
  |_,_=>none
 |_=>none
def Ybh:Operand→Operand→Bool
 |.tmp a,.tmp b=>Nat.beq a b
 |_,_=>false
theorem XbA{x y:Operand}(h:Ybh x y=true):x=y:=by
 cases x<;>cases y<;>simp only[Ybh] at h<;>first|cases h|rw[YNB h]
def ZbL(P:Program):Op→Option (MK×List Operand)
 |.move x=>some (.mv,[x])
 |.assign x=>some (.mv,[x])
 |.pick c a b=>some (.pick,[c,a,b])
 |.alloc t=>optB (zeroCells P t) λz=>some (.alloc z,[])
 |.box _ x=>some (.box,[x])
 |.build t parts=>match P.underlying t with
  |some (.struct fs)=>optB (zeroCells P t) λz=>optB (mapM' (λf=>(P.info? f.type).map λi=>(f.offset,i.size)) fs.toList) λplaces=>
   optB (mapM' (λ(p:Nat×Operand)=>places[p.1]?) parts.toList) λps=>some (.build z ps,parts.toList.map (·.2))
  |some (.array _ e)=>optB (zeroCells P t) λz=>optB (size? P e) λsz=>some (.build z (parts.toList.map (λp=>(p.1*sz,sz))),parts.toList.map (·.2))
  |_=>none
 |.buildSlice t 0 parts=>optB (elemS? P t) λe=>optB (size? P e) λsz=>match parts.toList with
  |[]=>some (.buildS0 sz,[])
  |_=>none
 |.makeSlice t l c=>optB (elemS? P t) λe=>optB (size? P e) λn=>optB ((P.info? e).map (·.bytes)) λby_=>optB (zero? P e) λv=>optB (ZA v.cells.toList) λz=>
  ZR (!(Nat.beq n 0) && Nat.beq v.cells.size n) (match Ybh l c with
   |true=>some (.makeS n by_ z,[l])
   | false=>none)
 |.buildSlice t n parts=>optB (elemS? P t) λe=>optB (size? P e) λsz=>optB (zero? P e) λv=>optB (ZA v.cells.toList) λz0=>
  ZR (Nat.ble (n*sz) (2 ^ 24)&&(!(Nat.beq (n*sz) 0)&&Nat.beq v.cells.size sz)) (some (.buildS sz n (List.replicate n z0).flatten (parts.toList.map (λp=>(p.1*sz,sz))),parts.toList.map (·.2)))
 |.load t x=>optB (isAgg? P t) λagg=>optB (size? P t) λn=>some (.load agg n,[x])
 |.store t x y=>optB (size? P t) λn=>some (.store n,[x,y])
 |.nilCheck x=>some (.nilCheck,[x])
 |.binOp op t x y _=>Qbb P op t x y
 |.unOp op _ x=>some (.un op,[x])
 |.convert s d x=>ZR (P.underlying s).isSome (optB (intT? P d) λk=>some (.conv k,[x]))
 |.makeInterface t x=>ZR (P.concrete t) (some (.mkIface t,[x]))
 |.makeFunc fn xs ys=>some (.mkFunc fn xs.size,xs.toList++ys.toList)
 |.makeMap _ none=>some (.makeMap,[])
 |.fieldAddr t x f=>match P.underlying t with
  |some (.struct fs)=>optB fs[f]? λfd=>optB (size? P fd.type) λn=>ZR (!(Nat.beq n 0)) (some (.fieldAddr fd.offset,[x]))
  |_=>none
 |.field t x f=>match P.underlying t with
  |some (.struct fs)=>optB fs[f]? λfd=>optB (size? P fd.type) λn=>optB (isAgg? P fd.type) λagg=>some (.field agg fd.offset n,[x])
  |_=>none
 |.indexAddr t x i=>match P.underlying t with
  |some (.array len e)=>optB (size? P e) λn=>some (.idxAddrA len n,[x,i])
  |some (.slice e)=>optB (size? P e) λn=>some (.idxAddrS n,[x,i])
  |_=>none
 |.index t x i=>match P.underlying t with
  |some (.array len e)=>optB (size? P e) λn=>optB (isAgg? P e) λagg=>some (.idxA agg len n,[x,i])
  |some .string=>some (.idxStr,[x,i])
  |_=>none
 |.extract x i=>some (.extract i,[x])
 |.slice t x lo hi mx=>match P.underlying t with
  |some (.slice e)=>optB (size? P e) λn=>some (.sliceS n lo.isSome hi.isSome mx.isSome,[x]++lo.toList++hi.toList++mx.toList)
  |some .string=>match mx with
   |none=>some (.sliceStr lo.isSome hi.isSome,[x]++lo.toList++hi.toList)
   |some _=>none
  |_=>none
 |.call c=>YaQ P c
 |.lookup t x i ok=>match P.underlying t with
  |some (.map k e)=>optB (keyT? P k) λstr=>optB (zero? P e) λv=>optB (aVal v) λz=>some (.lookup str ok z,[x,i])
  |_=>none
 |.mapUpdate t x i y=>match P.underlying t with
  |some (.map k _)=>optB (keyT? P k) λstr=>some (.mapUpd str,[x,i,y])
  |_=>none
 |.insert t x i y=>match P.underlying t with
  |some (.map k _)=>optB (keyT? P k) λstr=>some (.mapUpd str,[x,i,y])
  |_=>none
 |.range t x=>ZR (ZbQ P t) (some (.range,[x]))
 |.next x true=>some (.next,[x])
 |.typeAssert x _ u ok=>ZR (P.concrete u&&(P.underlying u).isSome) (optB (zero? P u) λv=>optB (aVal v) λz=>some (.assertT u ok z,[x]))
 |_=>none
section
variable {P:Program} {GL:Globs}
theorem Qbv{op:BinOp}{t t':TypeId}{x y:Operand}{k:MK}{os:List Operand}(h:Qbb P op t x y=some (k,os)):Comp P GL (.binOp op t x y t') k os:=by
 unfold Qbb at h;split at h
 ·cases h; exact .bin _ _ _ _ _ _ Zal
 ·rename_i neq heq;have hop:=Qcr heq;split at h
  ·rename_i c hc;split at h
   ·rename_i hn;cases h;rw[hop,Za4 hn];exact .eqNilR _ _ _ _ _ hc
   ·split at h
    ·rename_i hn;cases h;rw[hop,Za4 hn];exact .eqNilL _ _ _ _ _ hc
    ·cases h; exact .bin _ _ _ _ _ _ Zal
  ·split at h
   ·rename_i ls hl;obtain⟨hg,h⟩:=Yq h;cases h;simp only[Bool.and_eq_true,Bool.not_eq_true'] at hg;rw[hop];exact .eqS _ _ _ _ _ _ hl hg.1 hg.2
   ·cases h; exact .bin _ _ _ _ _ _ Zal
theorem Qae{α:Type}{a:Array α}{x:α}(h:a.toList=[x]):a = #[x]:=by
 cases a; simp at h; subst h; rfl
theorem Zaf{α:Type}{a:Array α}{x y:α}(h:a.toList=[x,y]):a = #[x,y]:=by
 cases a; simp at h; subst h; rfl
theorem Zbc{c:Call}{k:MK}{os:List Operand}(h:YaQ P c=some (k,os)):Comp P GL (.call c) k os:=by
 unfold YaQ at h;obtain⟨callee,args,ts⟩:=c;simp only at h;split at h
 ·obtain⟨hg,h⟩:=Yq h;cases h;exact .call _ _ _ hg
 ·cases h; exact .callv _ _ _
 ·split at h
  ·rename_i ha ht;have:=Qae ha; subst this;have:=Qae ht; subst this;split at h
   ·rename_i hu; cases h; exact .lenS _ _ _ hu
   ·rename_i hu; cases h; exact .lenStr _ _ hu
   ·rename_i hu; cases h; exact .lenA _ _ _ _ hu
   ·rename_i hu; cases h; exact .lenM _ _ _ _ hu
   ·cases h
  ·cases h
 ·split at h
  ·rename_i ha ht;have:=Qae ha; subst this;have:=Qae ht; subst this;obtain⟨e,he,h⟩:=Qf h;obtain⟨n,hn,h⟩:=Qf h;obtain⟨v,hv,h⟩:=Qf h;obtain⟨z,hz,h⟩:=Qf h;obtain⟨hg,h⟩:=Yq h;simp only[Bool.and_eq_true,Bool.not_eq_true'] at hg;cases h;exact .clearS _ e _ _ v _ he hn (λe0=>by rw[e0] at hg; cases hg.2) hv (YNB hg.1) hz
  ·cases h
 ·split at h
  ·rename_i ha; have:=Zaf ha; subst this; cases h; exact .min2 _ _ _
  ·cases h
 ·split at h
  ·rename_i ha; have:=Zaf ha; subst this; cases h; exact .max2 _ _ _
  ·cases h
 ·split at h
  ·rename_i ha ht;have:=Zaf ha; subst this;have:=Zaf ht; subst this;obtain⟨e,he,h⟩:=Qf h;obtain⟨e',he',h⟩:=Qf h;obtain⟨n,hn,h⟩:=Qf h;obtain⟨v,hv,h⟩:=Qf h;obtain⟨z,hz,h⟩:=Qf h;obtain⟨hg,h⟩:=Yq h;simp only[Bool.and_eq_true,Bool.not_eq_true'] at hg;cases h;exact .append _ _ e _ _ _ _ v _ (Zbn he) ⟨_,Zbn he',by simp⟩ hn rfl hv (YNB hg.1) hz (λe0=>by rw[e0] at hg; cases hg.2.1) (λe0=>by rw[e0] at hg; cases hg.2.2)
  ·cases h
 ·cases h
theorem Za3{α β:Type}{f:α→Option β}:∀ {l:List α} {r:List β},mapM' f l=some r→l.map f=r.map some
 |[],r,h=>by simp[mapM'] at h; subst h; rfl
 |a::l,r,h=>by
  obtain⟨b,hb,h⟩:=Qf h;obtain⟨r',hr,h⟩:=Qf h;cases h;simp[hb,Za3 hr]
theorem YbL{op:Op}{k:MK}{os:List Operand}(h:ZbL P op=some (k,os)):Comp P GL op k os:=by
 unfold ZbL at h;split at h
 ·cases h; exact .move _
 ·cases h; exact .assign _
 ·cases h; exact .pick _ _ _
 ·obtain⟨z,hz,h⟩:=Qf h;obtain⟨v,hv,hz⟩:=Qf hz;cases h; exact .alloc _ v _ hv hz
 ·cases h; exact .box _ _
 ·split at h
  ·rename_i fs hu;obtain⟨z,hz,h⟩:=Qf h;obtain⟨v,hv,hz⟩:=Qf hz;obtain⟨places,hp,h⟩:=Qf h;obtain⟨ps,hps,h⟩:=Qf h;cases h;exact .buildStruct _ fs v _ _ places _ hu hv hz (by rw[Ybq]; exact hp) (Za3 hps)
  ·rename_i n e hu;obtain⟨z,hz,h⟩:=Qf h;obtain⟨v,hv,hz⟩:=Qf hz;obtain⟨sz,hs,h⟩:=Qf h;cases h;exact .buildArray _ n e v _ _ _ sz hu hv hz hs rfl
  ·cases h
 ·obtain⟨e,he,h⟩:=Qf h;obtain⟨sz,hs,h⟩:=Qf h;split at h
  ·rename_i hp; cases h; exact .buildSlice0 _ e _ _ he hs hp
  ·cases h
 ·obtain⟨e,he,h1⟩:=Qf h;obtain⟨n,hn,h2⟩:=Qf h1;obtain⟨b,hb,h3⟩:=Qf h2;obtain⟨v,hv,h4⟩:=Qf h3;obtain⟨z,hz,h5⟩:=Qf h4;obtain⟨hg,h6⟩:=Yq h5;clear h h1 h2 h3 h4 h5;simp only[Bool.and_eq_true,Bool.not_eq_true'] at hg;split at h6
  ·rename_i hs;have:=XbA hs;subst this;cases h6;exact .makeSlice _ _ e v _ _ _ he hn hb (λe0=>by rw[e0] at hg; cases hg.1) hv (YNB hg.2) hz
  ·cases h6
 ·obtain⟨e,he,h⟩:=Qf h;obtain⟨sz,hs,h⟩:=Qf h;obtain⟨v,hv,h⟩:=Qf h;obtain⟨z0,hz,h⟩:=Qf h;obtain⟨hg,h⟩:=Yq h;simp only[Bool.and_eq_true,Bool.not_eq_true'] at hg;cases h;exact .buildSlice _ _ e v z0 _ _ _ _ he hs (YNL hg.1) (λe0=>by rw[e0] at hg; cases hg.2.1) hv (YNB hg.2.2) hz rfl rfl
 ·obtain⟨agg,ha,h⟩:=Qf h;obtain⟨n,hn,h⟩:=Qf h;cases h; exact .load _ _ _ _ ha hn
 ·obtain⟨n,hn,h⟩:=Qf h;cases h; exact .store _ _ _ _ hn
 ·cases h; exact .nilCheck _
 ·exact Qbv h
 ·cases h; exact .un _ _ _
 ·obtain⟨hg,h⟩:=Yq h;obtain⟨q,hq,h⟩:=Qf h;cases h; exact .conv _ _ _ _ hg (Qcs hq)
 ·obtain⟨hg,h⟩:=Yq h;cases h; exact .mkIface _ _ hg
 ·cases h; exact .mkFunc _ _ _
 ·cases h; exact .makeMap _
 ·split at h
  ·rename_i fs hu;obtain⟨fd,hf,h⟩:=Qf h;obtain⟨n,hn,h⟩:=Qf h;obtain⟨hg,h⟩:=Yq h;cases h;exact .fieldAddr _ _ _ fs fd n hu hf hn (λe0=>by rw[e0] at hg; cases hg)
  ·cases h
 ·split at h
  ·rename_i fs hu;obtain⟨fd,hf,h⟩:=Qf h;obtain⟨n,hn,h⟩:=Qf h;obtain⟨agg,ha,h⟩:=Qf h;cases h;exact .field _ _ _ fs fd _ _ hu hf hn ha
  ·cases h
 ·split at h
  ·rename_i len e hu;obtain⟨n,hn,h⟩:=Qf h;cases h; exact .idxAddrA _ _ _ _ e _ hu hn
  ·rename_i e hu;obtain⟨n,hn,h⟩:=Qf h;cases h; exact .idxAddrS _ _ _ e _ hu hn
  ·cases h
 ·split at h
  ·rename_i len e hu;obtain⟨n,hn,h⟩:=Qf h;obtain⟨agg,ha,h⟩:=Qf h;cases h; exact .idxA _ _ _ _ e _ _ hu hn ha
  ·rename_i hu; cases h; exact .idxStr _ _ _ hu
  ·cases h
 ·cases h; exact .extract _ _
 ·split at h
  ·rename_i e hu;obtain⟨n,hn,h⟩:=Qf h;cases h; exact .sliceS _ _ _ _ _ e _ hu hn
  ·rename_i hu;split at h
   ·cases h; exact .sliceStr _ _ _ _ hu
   ·cases h
  ·cases h
 ·exact Zbc h
 ·split at h
  ·rename_i k e hu;obtain⟨s,hs,h⟩:=Qf h;obtain⟨v,hv,h⟩:=Qf h;obtain⟨z,hz,h⟩:=Qf h;cases h; exact .lookup _ k e _ _ _ _ v _ hu (Qbe hs) hv hz
  ·cases h
 ·split at h
  ·rename_i k e hu;obtain⟨s,hs,h⟩:=Qf h;cases h; exact .mapUpdate _ k e _ _ _ _ hu (Qbe hs)
  ·cases h
 ·split at h
  ·rename_i k e hu;obtain⟨s,hs,h⟩:=Qf h;cases h; exact .mapInsert _ k e _ _ _ _ hu (Qbe hs)
  ·cases h
 ·obtain⟨hg,h⟩:=Yq h;cases h; exact .range _ _ (YbQ hg)
 ·cases h; exact .next _
 ·obtain⟨hg,h⟩:=Yq h;simp only[Bool.and_eq_true] at hg;obtain⟨v,hv,h⟩:=Qf h;obtain⟨z,hz,h⟩:=Qf h;cases h; exact .assertT _ _ _ _ v _ hg.1 hg.2 hv hz
 ·cases h
end
end Go.Ah
end
section
namespace Go.Ah
def Qbo(g:Nat):Globs→Option (List AVal)
 |[]=>none
 |(q,row)::r=>match Nat.beq g q with
  |true=>some row
  |false=>Qbo g r
theorem Qa1{g:Nat}{row:List AVal}:∀ {GL:Globs},Qbo g GL=some row→(g,row)∈GL
 |[],h=>by cases h
 |(q,r)::GL,h=>by
  simp only[Qbo] at h;split at h
  ·rename_i e; cases h; rw[YNB e]; simp
  ·exact List.mem_cons_of_mem _ (Qa1 h)
def Ybc(GL:Globs):Operand→Option Opd
 |.tmp t=>some (.t t)
 |.const v=>optB (aVal v) λx=>some (.c x)
 |.global g=>optB (Qbo g GL) λrow=>some (.c (.rptr row 0))
 |.func f=>some (.c (.func (.func f) [] []))
theorem QaI{GL:Globs}{x:Operand}{y:Opd}(h:Ybc GL x=some y):OpdOk GL x y:=by
 cases x with
 |tmp t=>cases h; exact .tmp _
 |const v=>obtain⟨z,hz,h⟩:=Qf h; cases h; exact .const _ _ hz
 |global g=>obtain⟨z,hz,h⟩:=Qf h; cases h; exact .glob _ _ (Qa1 hz)
 |func f=>cases h; exact .func _
theorem X7{α β:Type}{f:α→Option β}{R:α→β→Prop}(hR:∀ {a b},f a=some b→R a b):∀ {l:List α} {r:List β},mapM' f l=some r→All2 R l r
 |[],r,h=>by simp[mapM'] at h; subst h; trivial
 |a::l,r,h=>by
  obtain⟨b,hb,h⟩:=Qf h;obtain⟨r',hr,h⟩:=Qf h;cases h;exact⟨hR hb,X7 hR hr⟩
def dstOk(n:Nat):Option Nat→Bool
 |none=>true
 |some d=>Nat.blt d n
def QbK(ops:List Oper):Option (Nat×Bool)→Option (Option (Nat×Bool))
 |none=>some none
 |some (j,w)=>optB (nth ops j) λo=>optB o.dst λs=>some (some (s,w))
def Yag(P:Program)(GL:Globs)(n:Nat)(ops:List Oper)(o:Oper):Option MOper:=
 ZR (dstOk n o.dst) (optB (ZbL P o.op) λ(k,os)=>optB (mapM' (Ybc GL) os) λxs=>optB (QbK ops o.guard) λg=>some ⟨o.dst,k,xs,g⟩)
theorem Qab{P:Program}{GL:Globs}{n:Nat}{ops:Array Oper}{o:Oper}{m:MOper}(h:Yag P GL n ops.toList o=some m):OperOk P GL n ops o m:=by
 unfold Yag at h;obtain⟨hd,h⟩:=Yq h;obtain⟨⟨k,os⟩,hc,h⟩:=Qf h;obtain⟨xs,hx,h⟩:=Qf h;obtain⟨g,hg,h⟩:=Qf h;cases h;refine⟨rfl,λd e=>?_,⟨os,YbL hc,X7 QaI hx⟩,?_⟩
 ·simp only at e; rw[e] at hd; exact YNL hd
 ·cases hog:o.guard with
  |none=>rw[hog] at hg; cases hg; trivial
  |some jw=>
   obtain⟨j,w⟩:=jw;rw[hog] at hg;obtain⟨o',ho',hg⟩:=Qf hg;obtain⟨s,hs,hg⟩:=Qf hg;cases hg;rw[Y1,Array.getElem?_toList] at ho';exact⟨rfl,by rw[ho']; exact hs⟩
def heads(ops:List Oper)(acc:List (List Nat)):List (List Nat):=
 match ops with
 |[]=>acc
 |o::r=>heads r (acc++[(List.range acc.length).filter ((waits o).foldl (λl j=>addAll (j::YL acc j) l) []).contains])
where addAll:List Nat→List Nat→List Nat
 |[],l=>l
 |x::xs,l=>match l.contains x with
  |true=>addAll xs l
  |false=>addAll xs (x::l)
def Ys(P:Program)(GL:Globs)(n:Nat):Code→Option MCode
 |.skip=>some .skip
 |.region id ops dr=>optB (mapM' (Yag P GL n ops.toList) ops.toList) λms=>match dr with
  |false=>some (.region id ms none)
  |true=>ZR (QaZ ops.toList ms (heads ops.toList [])) (some (.region id ms (some (heads ops.toList []))))
 |.seq a b=>optB (Ys P GL n a) λx=>optB (Ys P GL n b) λy=>some (.seq x y)
 |.cond c a b=>optB (Ybc GL c) λd=>optB (Ys P GL n a) λx=>optB (Ys P GL n b) λy=>some (.cond d x y)
 |.block id a=>optB (Ys P GL n a) λx=>some (.block id x)
 |.loop a=>optB (Ys P GL n a) λx=>some (.loop x)
 |.scope a=>optB (Ys P GL n a) λx=>some (.scope x)
 |.exit id=>some (.exit id)
 |.label l=>some (.label l)
 |.ret=>some .ret
 |_=>none
theorem Qah{α β:Type}{f:α→Option β}:∀ {l:List α} {r:List β},mapM' f l=some r→l.length=r.length∧∀(j:Nat) (b:β),r[j]?=some b→∃a,l[j]?=some a∧f a=some b
 |[],r,h=>by simp[mapM'] at h; subst h; simp
 |a::l,r,h=>by
  obtain⟨b,hb,h⟩:=Qf h;obtain⟨r',hr,h⟩:=Qf h;cases h;obtain⟨h1,h2⟩:=Qah hr;refine⟨by simp[h1],λj c e=>?_⟩;cases j with
  |zero=>simp at e; subst e; exact⟨a,rfl,hb⟩
  |succ j=>simp at e; obtain⟨a',q1,q2⟩:=h2 j c e; exact⟨a',by simpa using q1,q2⟩
theorem Yay{P:Program}{GL:Globs}{n:Nat}:∀ {c:Code} {m:MCode},Ys P GL n c=some m→CodeOk P GL n c m:=by
 intro c
 induction c with
 |skip=>intro m h; cases h; exact .skip
 |region id ops dr=>
  intro m h;simp only[Ys] at h;obtain⟨ms,hm,h⟩:=Qf h;obtain⟨h1,h2⟩:=Qah hm;have hok:∀(j:Nat) (x:MOper),ms[j]?=some x→∃o,ops[j]?=some o∧OperOk P GL n ops o x:=λj x e=>by
   obtain⟨o,q1,q2⟩:=h2 j x e;exact⟨o,by simpa using q1,Qab q2⟩
  cases dr with
  |false=>cases h; exact .region _ _ _ (by simpa using h1) hok
  |true=>
   obtain⟨hg,h⟩:=Yq h;cases h; exact .draw _ _ _ _ (by simpa using h1) hok hg
 |seq a b iha ihb=>
  intro m h;simp only[Ys] at h;obtain⟨x,hx,h⟩:=Qf h;obtain⟨y,hy,h⟩:=Qf h;cases h; exact .seq _ _ _ _ (iha hx) (ihb hy)
 |cond c a b iha ihb=>
  intro m h;simp only[Ys] at h;obtain⟨d,hd,h⟩:=Qf h;obtain⟨x,hx,h⟩:=Qf h;obtain⟨y,hy,h⟩:=Qf h;cases h; exact .cond _ _ _ _ _ _ (QaI hd) (iha hx) (ihb hy)
 |block id a ih=>
  intro m h;simp only[Ys] at h;obtain⟨x,hx,h⟩:=Qf h;cases h; exact .block _ _ _ (ih hx)
 |loop a ih=>
  intro m h;simp only[Ys] at h;obtain⟨x,hx,h⟩:=Qf h;cases h; exact .loop _ _ (ih hx)
 |scope a ih=>
  intro m h;simp only[Ys] at h;obtain⟨x,hx,h⟩:=Qf h;cases h; exact .scope _ _ (ih hx)
 |exit id=>intro m h; cases h; exact .exit _
 |label l=>intro m h; cases h; exact .label _
 |ret=>intro m h; cases h; exact .ret
 |_=>intro m h; simp[Ys] at h
def Xbc(P:Program):ResultVar→Option RV
 |.tmp t=>some (.t t)
 |.cell s t=>optB (isAgg? P t) λagg=>optB (size? P t) λn=>some (.c s agg n)
theorem ZaJ{P:Program}{r:ResultVar}{v:RV}(h:Xbc P r=some v):RvOk P r v:=by
 cases r with
 |tmp t=>cases h; exact .tmp _
 |cell s t=>
  obtain⟨agg,ha,h⟩:=Qf h;obtain⟨n,hn,h⟩:=Qf h;cases h; exact .cell _ _ _ _ ha hn
def YbK(P:Program)(GL:Globs)(np:Nat)(f:FuncId):Option MFn:=
 optB P.funcs[f]? λfn=>optB fn.body λc=>ZR (Nat.ble np fn.ntmps) (optB (Ys P GL fn.ntmps c) λm=>optB (mapM' (Xbc P) fn.results.toList) λrs=>some ⟨np,fn.ntmps,m,rs⟩)
theorem XbK{P:Program}{GL:Globs}{np:Nat}{f:FuncId}{F:MFn}(h:YbK P GL np f=some F):FnOk P GL f F:=by
 unfold YbK at h;obtain⟨fn,h1,h⟩:=Qf h;obtain⟨c,h2,h⟩:=Qf h;obtain⟨h3,h⟩:=Yq h;obtain⟨m,h4,h⟩:=Qf h;obtain⟨rs,h5,h⟩:=Qf h;cases h;exact⟨⟨fn,c,h1,h2,rfl,Yay h4,X7 ZaJ h5⟩,YNL h3⟩
theorem Bor.ptr{h0:Hp}{rd:List Nat}{b i j sz:Nat}{rs:List (List AVal)}{row row':List AVal}(hb:h0 b=some (.rows sz rs))(hin:b∈rd)(hi:rs[i]?=some row)(hr:BorL h0 rd row row'):Bor h0 rd (.ptr b i j) (.rptr row' j):=by
 intro GL w0 L g h w M2 r hM hrd v d;have hb':h b=some (.rows sz rs):=by rw[hrd b hin]; exact hb
 cases d with
 |ptr _ _ _ _ cb ec=>
 cases hvirt:cb.virt with
 |true=>
  have:=(r.virtRows hb' ec hvirt).2;subst this; simp at hi
 |false=>
 obtain⟨e1,arr,T,ho',hs,hle,hrow,hden⟩:=r.rowsBlk hb' ec hvirt;have hw:M2 cb.blk=some (.cells arr T (0,0)):=hM.2 b _ cb _ hb' rfl ec hvirt ho';have hlt:i<rs.length:=(YLG hi).1;have hrl:=hrow _ _ hi;have hin2:∀k,k<sz→i*sz+k<arr.size:=by
  intro k hk;have:(i+1)*sz≤rs.length*sz:=Nat.mul_le_mul_right sz hlt;rw[Nat.succ_mul] at this; omega
 obtain⟨k1,k2⟩:=hr.get r hM hrd (vs:=(arr.extract (i * sz) (i * sz + sz)).toList) (by
  simp[hrl];by_cases h0:sz=0
  ·subst h0; simp
  ·have:=hin2 (sz-1) (by omega); omega) (λk x v q3 q4=>by
  have hk:k<sz:=by rw[←hrl]; exact(YLG q3).1
  have hl2:=hin2 k hk;rw[Array.getElem?_toList] at q4;obtain⟨_,q4⟩:=Array.getElem?_eq_some_iff.1 q4;rw[Array.getElem_extract] at q4;exact hden _ row k x v hi q3 (by rw[Array.getElem?_eq_getElem hl2,q4]))
 have hlen:row'.length=sz:=by
  rw[k1]; simp;by_cases h0:sz=0
  ·subst h0; simp
  ·have:=hin2 (sz-1) (by omega); omega
 rw[e1];refine .rptr _ _ _ _ _ (λk=>(arr[i*sz+k]?).getD undef) (λk hk=>?_) (λk x e=>?_)
 ·have hk':=hin2 k (by omega);simp[mcell,hw,hk']
 ·have hk:k<sz:=by rw[←hlen]; exact(YLG e).1
  have hl2:=hin2 k hk;simp only[Array.getElem?_eq_getElem hl2,Option.getD_some];refine k2 k x _ e ?_;rw[Array.getElem?_toList,Array.getElem?_eq_getElem (by simp; omega),Array.getElem_extract]
def YaB(f:List AVal→Option (List AVal×List Nat)):List (List AVal)→Option (List (List AVal)×List Nat)
 |[]=>some ([],[])
 |r::rs=>match f r,YaB f rs with
  |some (r',rd),some (rs',rd')=>some (r'::rs',rd++rd')
  |_,_=>none
def roES:List (AVal×AVal)→Bool
 |[]=>true
 |(k,v)::r=>k.ro&&(v.ro&&roES r)
def Yr(σ:List ABlk):Nat→List AVal→Option (List AVal×List Nat)
 |_,[]=>some ([],[])
 |0,_::_=>none
 |fuel+1,x::xs=>match Yr σ fuel xs with
  |none=>none
  |some (ys,rd)=>match x with
   |.bptr b j=>match hget σ b with
    |.box row=>match Yr σ fuel row with
     |some (row',rd')=>some (.rptr row' j::ys,b::rd'++rd)
     |none=>none
    |_=>none
   |.ptr b i j=>match hget σ b with
    |.rows _ rs=>match nth rs i with
     |some row=>match Yr σ fuel row with
      |some (row',rd')=>some (.rptr row' j::ys,b::rd'++rd)
      |none=>none
     |none=>none
    |_=>none
   |.sl b off len ex=>match hget σ b with
    | .rows sz rs=>bif Nat.ble (off + len) rs.length then (match YaB (Yr σ fuel) (cut off (off + len) rs) with
     |some (rs',rd')=>some (.rsl ex false sz rs'::ys,b::rd'++rd)
     | none=>none) else none
    |_=>none
   |.map b=>match hget σ b with
    |.map es=>bif roES es then some (.rmap es::ys,b::rd) else none
    |_=>none
   |.iface t v=>match Yr σ fuel [v] with
    |some ([v'],rd')=>some (.iface t v'::ys,rd'++rd)
    |_=>none
   |.agg cs=>match Yr σ fuel cs with
    |some (cs',rd')=>some (.agg cs'::ys,rd'++rd)
    |_=>none
   |.func fn a b=>match Yr σ fuel a,Yr σ fuel b with
    |some (a',rd'),some (b',rd'')=>some (.func fn a' b'::ys,rd'++rd''++rd)
    |_,_=>none
   |x=>bif x.ro then some (x::ys,rd) else none
theorem Qbg:∀ {es:List (AVal×AVal)},roES es=true→∀p∈es,p.1.ro=true∧p.2.ro=true
 |[],_,_,h=>by cases h
 |(k,v)::r,h,p,hp=>by
  simp only[roES,Bool.and_eq_true] at h;rcases List.mem_cons.1 hp with rfl|hp
  ·exact⟨h.1,h.2.1⟩
  ·exact Qbg h.2.2 p hp
theorem YaM{f:List AVal→Option (List AVal×List Nat)}:∀ {rs rs':List (List AVal)} {rd:List Nat},YaB f rs=some (rs',rd)→rs'.length=rs.length∧∀(i:Nat) (r r':List AVal),rs[i]?=some r→rs'[i]?=some r'→∃rd',f r=some (r',rd')∧∀b∈rd',b∈rd
 |[],rs',rd,h=>by simp only[YaB] at h; cases h; simp
 |r::rs,rs',rd,h=>by
  simp only[YaB] at h;split at h
  ·rename_i r1 rd1 rs1 rd2 e1 e2;cases h;obtain⟨h1,h2⟩:=YaM e2;refine⟨by simp[h1],λi x x' q1 q2=>?_⟩;cases i with
   |zero=>simp at q1 q2; subst q1 q2; exact⟨rd1,e1,λb hb=>List.mem_append.2 (.inl hb)⟩
   |succ i=>
    simp at q1 q2;obtain⟨rd',k1,k2⟩:=h2 i x x' q1 q2;exact⟨rd',k1,λb hb=>List.mem_append.2 (.inr (k2 b hb))⟩
  ·cases h
theorem YN{σ:List ABlk}:∀(fuel:Nat) (xs ys:List AVal) (rd:List Nat),Yr σ fuel xs=some (ys,rd)→∀rd',(∀b∈rd,b∈rd')→BorL (hp σ) rd' xs ys:=by
 intro fuel
 induction fuel with
 |zero=>
  intro xs ys rd h rd' hs;cases xs with
  |nil=>simp only[Yr] at h; cases h; exact BorL.nil
  |cons x xs=>simp only[Yr] at h; cases h
 |succ fuel ih=>
  intro xs ys rd h rd' hs;cases xs with
  |nil=>simp only[Yr] at h; cases h; exact BorL.nil
  |cons x xs=>
   simp only[Yr] at h;cases h0:Yr σ fuel xs with
   |none=>simp[h0] at h
   |some p=>
    obtain⟨ys0,rd0⟩:=p;simp only[h0] at h;split at h
    ·rename_i b j;split at h
     ·rename_i row hg;split at h
      ·rename_i row' rd1 hr;cases h;exact BorL.cons (Bor.box (YT hg) (hs _ (by simp)) (ih _ _ _ hr rd' (λq hq=>hs q (by simp[hq])))) (ih _ _ _ h0 rd' (λq hq=>hs q (by simp[hq])))
      ·cases h
     ·cases h
    ·rename_i b i j;split at h
     ·rename_i sz rs hg;split at h
      ·rename_i row hn;split at h
       ·rename_i row' rd1 hr;cases h;rw[Y1] at hn;exact BorL.cons (Bor.ptr (XA hg) (hs _ (by simp)) hn (ih _ _ _ hr rd' (λq hq=>hs q (by simp[hq])))) (ih _ _ _ h0 rd' (λq hq=>hs q (by simp[hq])))
       ·cases h
      ·cases h
     ·cases h
    ·rename_i b off len ex;split at h
     ·rename_i sz rs hg
      replace h:=ZD h
      obtain⟨hle,h⟩:=h;split at h
      ·rename_i rs' rd1 hr;cases h;obtain⟨m1,m2⟩:=YaM hr;have hle':=YNL hle;refine BorL.cons (Bor.sl (XA hg) (hs _ (by simp)) hle' (by rw[m1,ZO hle']; omega) (λi r r' q1 q2=>?_)) (ih _ _ _ h0 rd' (λq hq=>hs q (by simp[hq])));have hi:i<len:=by
        have:=(YLG q2).1;rw[m1,ZO hle'] at this; omega
       have hc:(cut off (off+len) rs)[i]?=some r:=by
        unfold cut;rw[List.getElem?_drop,List.getElem?_take_of_lt (by omega)];exact q1
       obtain⟨rd2,k1,k2⟩:=m2 i r r' hc q2;exact ih _ _ _ k1 rd' (λq hq=>hs q (by simp[k2 q hq]))
      ·cases h
     ·cases h
    ·rename_i b;split at h
     ·rename_i es hg
      replace h:=ZD h
      obtain⟨hro,h⟩:=h;cases h;exact BorL.cons (Bor.map (Yah hg) (hs _ (by simp)) (Qbg hro)) (ih _ _ _ h0 rd' (λq hq=>hs q (by simp[hq])))
     ·cases h
    ·split at h
     ·rename_i v' rd1 hr;cases h;have:=ih _ _ _ hr rd' (λq hq=>hs q (by simp[hq]));refine BorL.cons (Bor.iface (λGL w0 L g h w M2 r hM hrd v d=>?_)) (ih _ _ _ h0 rd' (λq hq=>hs q (by simp[hq])));exact(this GL w0 L g h w M2 r hM hrd [v] ⟨d,trivial⟩).1
     ·cases h
    ·split at h
     ·rename_i cs' rd1 hr;cases h;exact BorL.cons (Bor.agg (ih _ _ _ hr rd' (λq hq=>hs q (by simp[hq])))) (ih _ _ _ h0 rd' (λq hq=>hs q (by simp[hq])))
     ·cases h
    ·split at h
     ·rename_i a' rd1 b' rd2 hr1 hr2;cases h;exact BorL.cons (Bor.func (ih _ _ _ hr1 rd' (λq hq=>hs q (by simp[hq]))) (ih _ _ _ hr2 rd' (λq hq=>hs q (by simp[hq])))) (ih _ _ _ h0 rd' (λq hq=>hs q (by simp[hq])))
     ·cases h
    ·replace h:=ZD h
     obtain⟨hro,h⟩:=h;cases h;exact BorL.cons (Bor.ro hro) (ih _ _ _ h0 rd' hs)
end Go.Ah
end
section
namespace Go.Ah
mutual
def AVal.ren (m:Nat→Option Nat):AVal→AVal
 |.bptr b j=>match m b with
  |some b'=>.bptr b' j
  |none=>.junk
 |.ptr b i j=>match m b with
  |some b'=>.ptr b' i j
  |none=>.junk
 |.sl b off len ex=>match m b with
  |some b'=>.sl b' off len ex
  |none=>.junk
 |.map b=>match m b with
  |some b'=>.map b'
  |none=>.junk
 |.iter b=>match m b with
  |some b'=>.iter b'
  |none=>.junk
 |.func fn xs ys=>.func fn (renL m xs) (renL m ys)
 |.iface t v=>.iface t (v.ren m)
 |.agg cs=>.agg (renL m cs)
 |.tup cs=>.tup (renL m cs)
 |.when cs x=>.when cs (x.ren m)
 |.junk=>.junk
 |.bool b=>.bool b
 |.int k n=>.int k n
 |.str s=>.str s
 |.nilp=>.nilp
 |.rptr row j=>.rptr row j
 |.nils=>.nils
 |.cap0=>.cap0
 |.rsl a b c d=>.rsl a b c d
 |.rmap es=>.rmap es
 |.nilmap=>.nilmap
 |.nilf=>.nilf
 |.nili=>.nili
def renL (m:Nat→Option Nat):List AVal→List AVal
 |[]=>[]
 |x::xs=>x.ren m::renL m xs
end
theorem QaU(m:Nat→Option Nat):∀xs:List AVal,renL m xs=xs.map (AVal.ren m)
 |[]=>rfl
 |x::xs=>by simp[renL,QaU m xs]
theorem Yai{m:Nat→Option Nat}{xs:List AVal}{i:Nat}{y:AVal}(h:(renL m xs)[i]?=some y):∃x,xs[i]?=some x∧y=x.ren m:=by
 rw[QaU,List.getElem?_map] at h;cases hx:xs[i]? with
 |none=>simp[hx] at h
 |some x=>simp[hx] at h; exact⟨x,rfl,h.symm⟩
theorem QE(m:Nat→Option Nat)(xs:List AVal):(renL m xs).length=xs.length:=by rw[QaU]; simp
theorem Den.ren{M:Nat→Option Obj}{m:Nat→Option Nat}{c':Own}{c:Own}{x:AVal}{v:Value}(h:Den M c x v):(∀b b' cb,m b=some b'→c b=some cb→c' b'=some cb)→Den M c' (x.ren m) v:=by
 induction h with
 |junk=>intro _; exact .junk _ _
 |bool=>intro _; exact .bool _ _
 |int=>intro _; exact .int _ _ _
 |str=>intro _; exact .str _ _
 |nilp=>intro _; exact .nilp _
 |bptr c b j cb e=>
  intro hm; simp only[AVal.ren];cases hb:m b with
  |none=>exact .junk _ _
  |some b'=>exact .bptr _ _ _ _ (hm _ _ _ hb e)
 |ptr c b i j cb e=>
  intro hm; simp only[AVal.ren];cases hb:m b with
  |none=>exact .junk _ _
  |some b'=>exact .ptr _ _ _ _ _ (hm _ _ _ hb e)
 |rptr c row j blk off f h1 h2 ih=>intro _; exact .rptr _ _ _ _ _ f h1 h2
 |nils=>intro _; exact .nils _
 |cap0=>intro _; exact .cap0 _ _
 |sl c b off len ex cb cap e h1 h2 h3 h4=>
  intro hm; simp only[AVal.ren];cases hb:m b with
  |none=>exact .junk _ _
  |some b'=>exact .sl _ _ _ _ _ _ _ (hm _ _ _ hb e) h1 h2 h3 h4
 |slv c b ex cb a e h1=>
  intro hm; simp only[AVal.ren];cases hb:m b with
  |none=>exact .junk _ _
  |some b'=>exact .slv _ _ _ _ _ (hm _ _ _ hb e) h1
 |rsl c ex nn sz rows a cap blk off f h1 h2 h3 h3' h4 h5 h6 h7 ih=>intro _; exact .rsl _ _ _ _ _ _ _ blk off f h1 h2 h3 h3' h4 h5 h6 h7
 |map c b cb e=>
  intro hm; simp only[AVal.ren];cases hb:m b with
  |none=>exact .junk _ _
  |some b'=>exact .map _ _ _ (hm _ _ _ hb e)
 |rmap c es blk arr clock e h1 h2 h3 ih1 ih2=>intro _; exact .rmap _ _ _ _ _ e h1 h2 h3
 |nilmap=>intro _; exact .nilmap _
 |func c fn first captured vs ws h1 h2 h3 h4 ih1 ih2=>
  intro hm; simp only[AVal.ren];exact .func _ _ _ _ _ _ (by rw[QE]; exact h1) (by rw[QE]; exact h2)
   (λi y u e1 e2=>by obtain⟨x,q1,rfl⟩:=Yai e1; exact ih1 i x u q1 e2 hm) (λi y u e1 e2=>by obtain⟨x,q1,rfl⟩:=Yai e1; exact ih2 i x u q1 e2 hm)
 |nilf=>intro _; exact .nilf _
 |iface c t x v h ih=>intro hm; exact .iface _ _ _ _ (ih hm)
 |nili=>intro _; exact .nili _
 |agg c cs vs h1 h2 ih=>intro hm; simp only[AVal.ren]; exact .agg _ _ _ (by rw[QE]; exact h1) (λi y u e1 e2=>by obtain⟨x,q1,rfl⟩:=Yai e1; exact ih i x u q1 e2 hm)
 |tup c cs vs h1 h2 ih=>intro hm; simp only[AVal.ren]; exact .tup _ _ _ (by rw[QE]; exact h1) (λi y u e1 e2=>by obtain⟨x,q1,rfl⟩:=Yai e1; exact ih i x u q1 e2 hm)
 |when c cs x v h h2 ih=>intro hm; exact .when _ _ _ _ (λhp=>ih hp hm) h2
 |iter c b cb e=>
  intro hm; simp only[AVal.ren];cases hb:m b with
  |none=>exact .junk _ _
  |some b'=>exact .iter _ _ _ (hm _ _ _ hb e)
mutual
def AVal.nosh:AVal→Bool
 |.rptr _ _=>false
 |.rsl _ _ _ (_::_)=>false
 |.rmap _=>false
 |.func _ xs ys=>noshL xs&&noshL ys
 |.iface _ v=>v.nosh
 |.agg cs=>noshL cs
 |.tup cs=>noshL cs
 |.when _ x=>x.nosh
 |_=>true
def noshL:List AVal→Bool
 |[]=>true
 |x::xs=>x.nosh&&noshL xs
end
theorem Z4:∀ {xs:List AVal} {i:Nat} {x:AVal},noshL xs=true→xs[i]?=some x→x.nosh=true
 |[],i,x,_,e=>by simp at e
 |y::xs,0,x,h,e=>by simp[noshL] at h; simp at e; subst e; exact h.1
 |y::xs,i+1,x,h,e=>by simp[noshL] at h; simp at e; exact Z4 h.2 e
mutual
theorem AVal.nosh_ren (m:Nat→Option Nat):∀(x:AVal),x.nosh=true→(x.ren m).nosh=true
 |.bptr b j,_=>by simp only[AVal.ren]; split<;>rfl
 |.ptr b i j,_=>by simp only[AVal.ren]; split<;>rfl
 |.sl b off len ex,_=>by simp only[AVal.ren]; split<;>rfl
 |.map b,_=>by simp only[AVal.ren]; split<;>rfl
 |.iter b,_=>by simp only[AVal.ren]; split<;>rfl
 |.func fn xs ys,h=>by
  simp only[AVal.nosh,Bool.and_eq_true] at h
  simp only[AVal.ren,AVal.nosh,Bool.and_eq_true]
  exact⟨Y4 m xs h.1,Y4 m ys h.2⟩
 |.iface t v,h=>by simp only[AVal.nosh] at h; simp only[AVal.ren,AVal.nosh]; exact AVal.nosh_ren m v h
 |.agg cs,h=>by simp only[AVal.nosh] at h; simp only[AVal.ren,AVal.nosh]; exact Y4 m cs h
 |.tup cs,h=>by simp only[AVal.nosh] at h; simp only[AVal.ren,AVal.nosh]; exact Y4 m cs h
 |.when cs x,h=>by simp only[AVal.nosh] at h; simp only[AVal.ren,AVal.nosh]; exact AVal.nosh_ren m x h
 |.junk,_=>rfl
 |.bool b,_=>rfl
 |.int k n,_=>rfl
 |.str s,_=>rfl
 |.nilp,_=>rfl
 |.rptr row j,h=>h
 |.nils,_=>rfl
 |.cap0,_=>rfl
 |.rsl a b c d,h=>h
 |.rmap es,h=>h
 |.nilmap,_=>rfl
 |.nilf,_=>rfl
 |.nili,_=>rfl
theorem Y4 (m:Nat→Option Nat):∀(xs:List AVal),noshL xs=true→noshL (renL m xs)=true
 |[],_=>rfl
 |x::xs,h=>by
  simp only[noshL,Bool.and_eq_true] at h
  simp only[renL,noshL,Bool.and_eq_true]
  exact⟨AVal.nosh_ren m x h.1,Y4 m xs h.2⟩
end
def ABlk.mapV(f:AVal→AVal):ABlk→ABlk
 |.dead=>.dead
 |.box row=>.box (row.map f)
 |.rows sz rs=>.rows sz (rs.map λr=>r.map f)
 |.map es=>.map (es.map λp=>(f p.1,f p.2))
 |.siter s p=>.siter s p
def ABlk.AllV(p:AVal→Prop):ABlk→Prop
 |.dead=>True
 |.box row=>∀x∈row,p x
 |.rows _ rs=>∀r∈rs,∀x∈r,p x
 |.map es=>∀e∈es,p e.1∧p e.2
 |.siter _ _=>True
def Qau:List (List AVal)→Bool
 |[]=>true
 |r::rs=>noshL r&&Qau rs
def Zbr:List (AVal×AVal)→Bool
 |[]=>true
 |(k,v)::r=>k.nosh&&(v.nosh&&Zbr r)
def ABlk.nosh:ABlk→Bool
 |.dead=>true
 |.box row=>noshL row
 |.rows _ rs=>Qau rs
 |.map es=>Zbr es
 |.siter _ _=>true
def Qa4:List ABlk→Bool
 |[]=>true
 |b::bs=>b.nosh&&Qa4 bs
theorem ZaC:∀ {xs:List AVal},noshL xs=true→∀x∈xs,x.nosh=true
 |y::xs,h,x,hx=>by
  simp only[noshL,Bool.and_eq_true] at h;rcases List.mem_cons.1 hx with rfl|hx
  ·exact h.1
  ·exact ZaC h.2 x hx
theorem Zap:∀ {rs:List (List AVal)},Qau rs=true→∀r∈rs,∀x∈r,x.nosh=true
 |y::rs,h,r,hr=>by
  simp only[Qau,Bool.and_eq_true] at h;rcases List.mem_cons.1 hr with rfl|hr
  ·exact ZaC h.1
  ·exact Zap h.2 r hr
theorem YaN:∀ {es:List (AVal×AVal)},Zbr es=true→∀e∈es,e.1.nosh=true∧e.2.nosh=true
 |(k,v)::r,h,e,he=>by
  simp only[Zbr,Bool.and_eq_true] at h;rcases List.mem_cons.1 he with rfl|he
  ·exact⟨h.1,h.2.1⟩
  ·exact YaN h.2.2 e he
theorem ABlk.nosh_all{b:ABlk}(h:b.nosh=true):b.AllV (λx=>x.nosh=true):=by
 cases b with
 |dead=>trivial
 |box row=>exact ZaC h
 |rows sz rs=>exact Zap h
 |map es=>exact YaN h
 |siter s q=>trivial
theorem ZaN:∀ {bs:List ABlk},Qa4 bs=true→∀b∈bs,b.AllV (λx=>x.nosh=true)
 |y::bs,h,b,hb=>by
  simp only[Qa4,Bool.and_eq_true] at h;rcases List.mem_cons.1 hb with rfl|hb
  ·exact ABlk.nosh_all h.1
  ·exact ZaN h.2 b hb
theorem ABlk.all_true(b:ABlk):b.AllV (λ_=>True):=by
 cases b<;>simp[ABlk.AllV]
theorem Den.nosh{M:Nat→Option Obj}{c:Own}{x:AVal}{v:Value}(h:Den M c x v):x.nosh=true→∀M',Den M' c x v:=by
 induction h with
 |junk=>intro _ _; exact .junk _ _
 |bool=>intro _ _; exact .bool _ _
 |int=>intro _ _; exact .int _ _ _
 |str=>intro _ _; exact .str _ _
 |nilp=>intro _ _; exact .nilp _
 |bptr c b j cb e=>intro _ _; exact .bptr _ _ _ _ e
 |ptr c b i j cb e=>intro _ _; exact .ptr _ _ _ _ _ e
 |rptr=>intro h; simp[AVal.nosh] at h
 |nils=>intro _ _; exact .nils _
 |cap0=>intro _ _; exact .cap0 _ _
 |sl c b off len ex cb cap e h1 h2 h3 h4=>intro _ _; exact .sl _ _ _ _ _ _ _ e h1 h2 h3 h4
 |slv c b ex cb a e h1=>intro _ _; exact .slv _ _ _ _ _ e h1
 |rsl c ex nn sz rows a cap blk off f h1 h2 h3 h3' h4 h5 h6 h7 ih=>
  intro h M';cases rows with
  |nil=>exact .rsl _ _ _ _ [] _ _ blk off f h1 h2 h3 h3' h4 h5 (by simp) (by simp)
  |cons r rs=>simp[AVal.nosh] at h
 |map c b cb e=>intro _ _; exact .map _ _ _ e
 |rmap=>intro h; simp[AVal.nosh] at h
 |nilmap=>intro _ _; exact .nilmap _
 |func c fn first captured vs ws h1 h2 h3 h4 ih1 ih2=>
  intro h M';simp[AVal.nosh] at h;exact .func _ _ _ _ _ _ h1 h2 (λi x v e1 e2=>ih1 i x v e1 e2 (Z4 h.1 e1) M') (λi x v e1 e2=>ih2 i x v e1 e2 (Z4 h.2 e1) M')
 |nilf=>intro _ _; exact .nilf _
 |iface c t x v h ih=>intro hr M'; exact .iface _ _ _ _ (ih (by simpa[AVal.nosh] using hr) M')
 |nili=>intro _ _; exact .nili _
 |agg c cs vs h1 h2 ih=>intro h M'; exact .agg _ _ _ h1 (λi x v e1 e2=>ih i x v e1 e2 (Z4 (by simpa[AVal.nosh] using h) e1) M')
 |tup c cs vs h1 h2 ih=>intro h M'; exact .tup _ _ _ h1 (λi x v e1 e2=>ih i x v e1 e2 (Z4 (by simpa[AVal.nosh] using h) e1) M')
 |when c cs x v h h2 ih=>intro hr M'; exact .when _ _ _ _ (λhp=>ih hp (by simpa[AVal.nosh] using hr) M') h2
 |iter c b cb e=>intro _ _; exact .iter _ _ _ e
theorem ABlk.mapV_live(f:AVal→AVal)(b:ABlk):(b.mapV f).live=b.live:=by cases b<;>rfl
theorem BlkOk.mapV{M M':Nat→Option Obj}{c c':Own}{f:AVal→AVal}{p:AVal→Prop}(hf:∀x v,p x→Den M c x v→Den M' c' (f x) v){cb:CB}{o:Obj}{b:ABlk}(h:BlkOk M c cb o b)(hp:b.AllV p):BlkOk M' c' cb o (b.mapV f):=by
 cases b with
 |dead=>trivial
 |box row=>
  obtain⟨arr,T,h1,h2,h3⟩:=h;refine⟨arr,T,h1,by simpa using h2,λj x v e1 e2=>?_⟩;rw[List.getElem?_map] at e1;cases hx:row[j]? with
  |none=>simp[hx] at e1
  |some y=>simp[hx] at e1; subst e1; exact hf y v (hp y (List.mem_of_getElem? hx)) (h3 j y v hx e2)
 |rows sz rows=>
  obtain⟨h0,arr,T,h1,h2,h3,h4,h5⟩:=h;refine⟨h0,arr,T,h1,h2,by simpa using h3,λi row e=>?_,λi row j x v e1 e2 e3=>?_⟩
  ·rw[List.getElem?_map] at e;cases hx:rows[i]? with
   |none=>simp[hx] at e
   |some y=>simp[hx] at e; subst e; simpa using h4 i y hx
  ·rw[List.getElem?_map] at e1;cases hx:rows[i]? with
   |none=>simp[hx] at e1
   |some y=>
    simp[hx] at e1; subst e1;rw[List.getElem?_map] at e2;cases hy:y[j]? with
    |none=>simp[hy] at e2
    |some z=>simp[hy] at e2; subst e2; exact hf z v (hp y (List.mem_of_getElem? hx) z (List.mem_of_getElem? hy)) (h5 i y j z v hx hy e3)
 |map es=>
  obtain⟨arr,clock,h1,h2,h3⟩:=h;refine⟨arr,clock,h1,by simpa using h2,λi k x e e1 e2=>?_⟩;rw[List.getElem?_map] at e1;cases hx:es[i]? with
  |none=>simp[hx] at e1
  |some y=>
   simp[hx] at e1; obtain⟨rfl,rfl⟩:=e1;have:=h3 i y.1 y.2 e hx e2;have hpy:=hp y (List.mem_of_getElem? hx);exact⟨hf _ _ hpy.1 this.1,hf _ _ hpy.2 this.2⟩
 |siter s q=>exact h
def Qz(N:Nat):Nat→Option Nat:=λb=>some (b+N)
def Zv(N:Nat):List ABlk→List (Nat×ABlk)
 |[]=>[]
 |b::bs=>(N,b)::Zv (N+1) bs
theorem Xan:∀(bs:List ABlk) (N:Nat) (h:Hp) (b:Nat),hups h (Zv N bs) b=if N≤b∧b<N+bs.length then bs[b-N]? else h b
 |[],N,h,b=>by simp[Zv,hups]; intro h1 h2; omega
 |x::bs,N,h,b=>by
  simp only[Zv,hups];rw[Xan bs (N+1)];by_cases h1:b=N
  ·subst h1; rw[if_neg (by omega),if_pos (by simp),Zr]; simp
  ·by_cases h2:N+1≤b∧b<N+1+bs.length
   ·rw[if_pos h2,if_pos (by simp; omega),show b-N=(b-(N+1))+1 by omega]; simp
   ·rw[if_neg h2,if_neg (by simp; omega),Xp _ _ h1]
section
variable {P:Program} {GL:Globs}
def NCall(P:Program)(GL:Globs)(f:FuncId)(xs:List AVal)(v:AVal)(bs:List ABlk):Prop:=
 ∀(w:World) (M:Nat→Option Obj) (vs:List Value),(∀b o,M b=some o→w.heap[b]?=some o)→(∀p∈GL,Den M noOwn (.rptr p.2 0) (.pointer (some ⟨p.1,0,none⟩)))→DenL ⟨M,noOwn⟩ xs vs →
  Calls P f vs.toArray w λe w'=>∃u,e=.returned u∧∃g',MLe M g'.M∧Rep GL w ⟨[],M⟩ g' (hp bs) w'∧g'.den v u
theorem Yao{f:FuncId}{F:MFn}(ok:FnOk P GL f F){xs:List AVal}(hn:xs.length=F.np){v:AVal}{bs:List ABlk}
 (h:Awp P GL F.n F.body (frame0 xs) [] (λe ρ σ=>(e=.normal∨e=.ret)∧retV F.rets ρ σ=some v∧σ=bs)):NCall P GL f xs v bs:=by
 intro w M vs hM hg hx;obtain⟨fn,c,h1,h2,h3,h4,h5⟩:=ok.ok;have r0:=Rep.start (GL:=GL) w M hM hg;have hh:hp []=noHp:=by funext b; simp[hp,noHp]
 rw[←hh] at r0;have d0:=YO hx (n:=F.n) (by rw[hn]; exact ok.np);refine calls_of_wp h1 h2 ?_;rw[h3];refine wp_mono (h c h4 w ⟨[],M⟩ _ _ w r0 d0) (λe a' w' hl=>?_);have fin:∀g' ρ σ,(⟨M,noOwn⟩:Gm).Le g'→Rep GL w ⟨[],M⟩ g' (hp σ) w'→DenF F.n g' ρ a'→(retV F.rets ρ σ=some v∧σ=bs)→∃u,(results fn a'.tmps).run P w'=.ok u w'∧(∃u',Ending.returned u=.returned u'∧∃g',MLe M g'.M∧Rep GL w ⟨[],M⟩ g' (hp bs) w'∧g'.den v u'):=by
  rintro g' ρ σ hle hr hd ⟨hret,rfl⟩;obtain⟨u,k1,k2⟩:=Q7 hr hd h5 hret;exact⟨u,k1,u,rfl,g',hle.m,hr,k2⟩
 cases e with
 |normal=>obtain⟨g',ρ,σ,k1,k2,k3,k4⟩:=hl; exact⟨k3.defers,fin g' ρ σ k1 k2 k3 k4.2⟩
 |ret=>obtain⟨g',ρ,σ,k1,k2,k3,k4⟩:=hl; exact⟨k3.defers,fin g' ρ σ k1 k2 k3 k4.2⟩
 |exit id=>obtain⟨g',ρ,σ,k1,k2,k3,k4⟩:=hl; rcases k4.1 with q|q<;>cases q
 |_=>exact hl.elim
theorem Rep.joinG{w0:World}{L:Ln}{g:Gm}{h:Hp}{w w':World}(r:Rep GL w0 L g h w){M:Nat→Option Obj}{g':Gm}{h':Hp}{bs:List ABlk}(r':Rep GL w ⟨[],M⟩ g' h' w')(s:Nat)(hs:∀i,i<bs.length→h' (s+i)=bs[i]?)(m:Nat→Option Nat)(M2:Nat→Option Obj)(p:AVal→Prop)
 (hM:MLe g.M M2)(hst:∀b o,M2 b=some o→w'.heap[b]?=some o)(hsrc:∀b o,M2 b=some o→g.M b=some o∨w.heap.size≤b)(hfresh:∀b,w.heap.size≤b→g'.M b=none→M2 b=none)
 (hden:∀c x v,p x→Den g'.M c x v→Den M2 c x v)(hp':∀b∈bs,b.AllV p)(hren:∀x m,p x→p (AVal.ren m x)){N:Nat}(hN:∀i,i<bs.length→h (N+i)=none)
 (hm:∀b b' cb,m b=some b'→g'.c b=some cb→(∃i,i<bs.length∧b=s+i∧b'=N+i)∨(g.c b'=some cb)) :
  ∃c2,CLe g.c c2∧(∀b b' cb,m b=some b'→g'.c b=some cb→c2 b'=some cb)∧Rep GL w0 L ⟨M2,c2⟩ (hups h (Zv N (bs.map (ABlk.mapV (AVal.ren m))))) w':=by
 let c2:Own:=λb=>if N≤b∧b<N+bs.length then g'.c (b-N+s) else g.c b
 have hc:CLe g.c c2:=by
  intro b cb e;by_cases hb:N≤b∧b<N+bs.length
  ·have:=r.empt b (by have:=hN (b-N) (by omega); rwa [show N+(b-N)=b by omega] at this);rw[this] at e; cases e
  ·simp only[c2,if_neg hb]; exact e
 have hc2:∀b b' cb,m b=some b'→g'.c b=some cb→c2 b'=some cb:=by
  intro b b' cb e1 e2;rcases hm b b' cb e1 e2 with ⟨i,q1,q2,q3⟩|q
  ·simp only[c2]; rw[if_pos (by omega),show b'-N+s=b by omega]; exact e2
  ·exact hc _ _ q
 have hH:∀b,hups h (Zv N (bs.map (ABlk.mapV (AVal.ren m)))) b=if N≤b∧b<N+bs.length then (bs[b-N]?).map (ABlk.mapV (AVal.ren m)) else h b:=by
  intro b; rw[Xan]; simp
 have hcase:∀b blk,hups h (Zv N (bs.map (ABlk.mapV (AVal.ren m)))) b=some blk→(h b=some blk∧c2 b=g.c b)∨∃i blk0,i<bs.length∧b=i+N∧h' (s+i)=some blk0∧blk=blk0.mapV (AVal.ren m)∧c2 b=g'.c (s+i)∧blk0∈bs:=by
  intro b blk e;rw[hH] at e;by_cases hb:N≤b∧b<N+bs.length
  ·rw[if_pos hb] at e;cases hx:bs[b-N]? with
   |none=>simp[hx] at e
   |some blk0=>
    simp[hx] at e;exact .inr ⟨b-N,blk0,by omega,by omega,by rw[hs _ (by omega)]; exact hx,e.symm,by simp only[c2]; rw[if_pos hb,Nat.add_comm],List.mem_of_getElem? hx⟩
  ·rw[if_neg hb] at e;exact .inl ⟨e,by simp only[c2]; rw[if_neg hb]⟩
 have hsize:=r.keeps.size;refine⟨c2,hc,hc2,?_⟩;refine { keeps:=r.keeps.trans' r'.keeps.os r'.keeps.tape r'.keeps.output r'.keeps.size (λb hb _=>r'.keeps.block b (by omega) (by simp)),stable:=hst,src:=λb o e=>?_,globs:=λq hq=>(r.globs q hq).mono hM (CLe.refl _),empt:=λb e=>?_,dom:=λb blk e=>?_,own:=λb blk cb e hl ec hv=>?_,hollow:=λb blk cb e hl ec hv=>?_,inj:=λb b' blk blk' cb cb' e e' hl hl' ec ec' hv hv' hq=>?_ }
 ·rcases hsrc b o e with q|q
  ·exact r.src b o q
  ·exact .inr (.inl (by omega))
 ·rw[hH] at e;show c2 b=none;by_cases hb:N≤b∧b<N+bs.length
  ·rw[if_pos hb,List.getElem?_eq_getElem (by omega)] at e; cases e
  ·rw[if_neg hb] at e; simp only[c2]; rw[if_neg hb]; exact r.empt b e
 ·rcases hcase b blk e with ⟨q1,q2⟩|⟨i,blk0,q1,q2,q3,q4,q5,q6⟩
  ·obtain⟨cb,k⟩:=r.dom b blk q1; exact⟨cb,by show c2 b=_; rw[q2]; exact k⟩
  ·obtain⟨cb,k⟩:=r'.dom (s+i) blk0 q3; exact⟨cb,by show c2 b=_; rw[q5]; exact k⟩
 ·replace ec:c2 b=some cb:=ec
  rcases hcase b blk e with ⟨q1,q2⟩|⟨i,blk0,q1,q2,q3,q4,q5,q6⟩
  ·rw[q2] at ec;obtain⟨k1,k2,o,ho,hok⟩:=r.own b blk cb q1 hl ec hv;have hlt:=r.lt_of_own q1 hl ec hv;refine⟨?_,k2,o,by rw[r'.keeps.block _ hlt (by simp)]; exact ho,hok.mono hM hc⟩;show M2 cb.blk=none;cases hm2:M2 cb.blk with
   |none=>rfl
   |some z=>
    rcases hsrc _ _ hm2 with q|q
    ·rw[k1] at q; cases q
    ·omega
  ·rw[q5] at ec;obtain⟨k1,k2,o,ho,hok⟩:=r'.own (s+i) blk0 cb q3 (by rw[q4,ABlk.mapV_live] at hl; exact hl) ec hv;have hge:w.heap.size≤cb.blk:=by rcases k2 with q|q; simp at q; exact q
   refine⟨hfresh _ hge k1,.inr (by omega),o,ho,?_⟩;rw[q4];refine hok.mapV (p:=p) (λx v hx hd=>?_) (hp' _ q6);exact hden _ _ _ (hren _ _ hx) (hd.ren hc2)
 ·replace ec:c2 b=some cb:=ec
  rcases hcase b blk e with ⟨q1,q2⟩|⟨i,blk0,q1,q2,q3,q4,q5,q6⟩
  ·rw[q2] at ec; exact r.hollow b blk cb q1 hl ec hv
  ·rw[q5] at ec;have:=r'.hollow (s+i) blk0 cb q3 (by rw[q4,ABlk.mapV_live] at hl; exact hl) ec hv;rw[q4,this]; rfl
 ·replace ec:c2 b=some cb:=ec
  replace ec':c2 b'=some cb':=ec'
  rcases hcase b blk e with ⟨q1,q2⟩|⟨i,blk0,q1,q2,q3,q4,q5,q6⟩<;>rcases hcase b' blk' e' with ⟨p1,p2⟩|⟨i',blk0',p1,p2,p3,p4,p5,p6⟩
  ·rw[q2] at ec; rw[p2] at ec'; exact r.inj b b' blk blk' cb cb' q1 p1 hl hl' ec ec' hv hv' hq
  ·rw[q2] at ec; rw[p5] at ec';have h1:=r.lt_of_own q1 hl ec hv;obtain⟨_,k2,_⟩:=r'.own (s+i') blk0' cb' p3 (by rw[p4,ABlk.mapV_live] at hl'; exact hl') ec' hv';rcases k2 with k2|k2
   ·simp at k2
   ·omega
  ·rw[q5] at ec; rw[p2] at ec';have h1:=r.lt_of_own p1 hl' ec' hv';obtain⟨_,k2,_⟩:=r'.own (s+i) blk0 cb q3 (by rw[q4,ABlk.mapV_live] at hl; exact hl) ec hv;rcases k2 with k2|k2
   ·simp at k2
   ·omega
  ·rw[q5] at ec; rw[p5] at ec';have:=r'.inj (s+i) (s+i') blk0 blk0' cb cb' q3 p3 (by rw[q4,ABlk.mapV_live] at hl; exact hl) (by rw[p4,ABlk.mapV_live] at hl'; exact hl') ec ec' hv hv' hq;omega
theorem Rep.join{w0:World}{L:Ln}{g:Gm}{h:Hp}{w w':World}(r:Rep GL w0 L g h w){M:Nat→Option Obj}{g':Gm}{bs:List ABlk}(r':Rep GL w ⟨[],M⟩ g' (hp bs) w')(M2:Nat→Option Obj)(p:AVal→Prop)
 (hM:MLe g.M M2)(hst:∀b o,M2 b=some o→w'.heap[b]?=some o)(hsrc:∀b o,M2 b=some o→g.M b=some o∨w.heap.size≤b)(hfresh:∀b,w.heap.size≤b→g'.M b=none→M2 b=none)
 (hden:∀c x v,p x→Den g'.M c x v→Den M2 c x v)(hp':∀b∈bs,b.AllV p)(hren:∀x m,p x→p (AVal.ren m x)){N:Nat}(hN:∀i,i<bs.length→h (N+i)=none) :
  ∃c2,CLe g.c c2∧(∀b cb,b<bs.length→g'.c b=some cb→c2 (b+N)=some cb)∧Rep GL w0 L ⟨M2,c2⟩ (hups h (Zv N (bs.map (ABlk.mapV (AVal.ren (Qz N)))))) w':=by
 obtain⟨c2,k1,k2,k3⟩:=r.joinG r' 0 (λi hi=>by simp[hp]) (Qz N) M2 p hM hst hsrc hfresh hden hp' hren hN (λb b' cb e1 e2=>by
  simp only[Qz,Option.some.injEq] at e1;subst e1;by_cases hb:b<bs.length
  ·exact .inl ⟨b,hb,by omega,by omega⟩
  ·have:=r'.empt b (by simp[hp]; omega);rw[this] at e2; cases e2)
 exact⟨c2,k1,λb cb _ e=>k2 b (b+N) cb rfl e,k3⟩
def Qu(N:Nat)(bs:List ABlk):List ABlk:=bs.map (ABlk.mapV (AVal.ren (Qz N)))
theorem XZ:∀(bs:List ABlk) (N:Nat) (i:Nat),i<bs.length→∃b,(N+i,b)∈Zv N bs
 |b::bs,N,0,_=>⟨b,by simp[Zv]⟩
 |b::bs,N,i+1,h=>by
  obtain⟨x,hx⟩:=XZ bs (N+1) i (by simpa using h);exact⟨x,by rw[show N+(i+1)=N+1+i by omega]; exact List.mem_cons_of_mem _ hx⟩
theorem NCall.here{f:FuncId}{xs:List AVal}{v:AVal}{bs:List ABlk}(hc:NCall P GL f xs v bs)(hxs:roL xs=true){h0:Hp}{N:Nat}(hN:∀i,i<bs.length→h0 (N+i)=none):ACall P GL f xs h0 (v.ren (Qz N)) [] (Zv N (Qu N bs)):=by
 intro w0 L g h w vs r hx _ hup;refine(hc w g.M vs r.stable r.globs (ZaV hxs hx noOwn)).mono ?_;rintro e w' ⟨u,he,g',hle,r',hd⟩;obtain⟨c2,k1,k2,k3⟩:=r.join r' g'.M (λ_=>True) hle r'.stable (λb o e=>by
  rcases r'.src b o e with q|q|q
  ·exact .inl q
  ·exact .inr q
  ·simp at q) (λ_ _ e=>e) (λ_ _ _ _ d=>d) (λb _=>ABlk.all_true b) (λ_ _ _=>trivial) (N:=N) (λi hi=>by
   obtain⟨b,hb⟩:=XZ (Qu N bs) N i (by simpa[Qu] using hi);rw[hup _ hb]; exact hN i hi)
 refine⟨u,he,⟨g'.M,c2⟩,⟨hle,k1⟩,k3,hd.ren (λb b' cb e1 e2=>?_)⟩;simp only[Qz,Option.some.injEq] at e1;subst e1;refine k2 b cb ?_ e2;by_cases hb:b<bs.length
 ·exact hb
 ·have:=r'.empt b (by simp[hp]; omega);rw[this] at e2; cases e2
theorem NCall.lend{f:FuncId}{xs ys:List AVal}{v:AVal}{bs:List ABlk}{rd:List Nat}{h0:Hp}(hc:NCall P GL f ys v bs)(hb:BorL h0 rd xs ys)(hv:v.nosh=true)(hbs:Qa4 bs=true){N:Nat}(hN:∀i,i<bs.length→h0 (N+i)=none):ACall P GL f xs h0 (v.ren (Qz N)) rd (Zv N (Qu N bs)):=by
 intro w0 L g h w vs r hx hrd hup;refine(hc w (World.all w) vs (λ_ _ e=>e) (λp hp=>(r.globs p hp).mono r.le_all (CLe.refl _)) (hb GL w0 L g h w _ r r.cov_all hrd vs hx)).mono ?_;rintro e w' ⟨u,he,g',hle,r',hd⟩;obtain⟨c2,k1,k2,k3⟩:=r.join r' g.M (λx=>x.nosh=true) (MLe.refl _) (λb o e=>by rw[r'.keeps.block b (r.stable_lt e) (by simp)]; exact r.stable b o e) (λb o e=>.inl e) (λb hge e=>by
   cases hm:g.M b with
   |none=>rfl
   |some z=>have:=r.stable_lt hm; omega) (λ_ _ _ hn d=>d.nosh hn _) (ZaN hbs) (λx m hn=>AVal.nosh_ren m x hn) (N:=N) (λi hi=>by
   obtain⟨b,hb⟩:=XZ (Qu N bs) N i (by simpa[Qu] using hi);rw[hup _ hb]; exact hN i hi)
 refine⟨u,he,⟨g.M,c2⟩,⟨MLe.refl _,k1⟩,k3,?_⟩;refine(hd.ren (c':=c2) (m:=Qz N) (λb b' cb e1 e2=>?_)).nosh (AVal.nosh_ren _ _ hv) _;simp only[Qz,Option.some.injEq] at e1;subst e1;refine k2 b cb ?_ e2;by_cases hb:b<bs.length
 ·exact hb
 ·have:=r'.empt b (by simp[hp]; omega);rw[this] at e2; cases e2
def XC:List ABlk→List ABlk
 |[]=>[]
 |_::l=>.dead::XC l
theorem ZI:∀(l:List ABlk) (i:Nat),(XC l)[i]?=if i<l.length then some .dead else none
 |[],i=>by simp[XC]
 |x::l,0=>by simp[XC]
 |x::l,i+1=>by simp[XC,ZI l i]
theorem Y9(l:List ABlk):(XC l).length=l.length:=by induction l<;>simp_all [XC]
def ltM(n:Nat):Nat→Option Nat:=λb=>bif Nat.blt b n then some b else none
def keepM(ids:List Nat)(n k:Nat):Nat→Option Nat:=λb=>bif ids.contains b||(Nat.ble n b&&Nat.blt b (n+k)) then some b else none
theorem Xae{f:FuncId}{F:MFn}(ok:FnOk P GL f F){xs:List AVal}(hn:xs.length=F.np)(σ:List ABlk)(ids:List Nat)(hids:∀i∈ids,i<σ.length){v:AVal}{news bs:List ABlk}(hbs:bs=news∨bs=[])
 (h:Awp P GL F.n F.body (frame0 (renL (ltM σ.length) xs)) (XC σ) (λe ρ σ'=>(e=.normal∨e=.ret)∧retV F.rets ρ σ'=some v∧σ'=XC σ++news)) :
  ACall P GL f xs (hp σ) (v.ren (keepM ids σ.length bs.length)) ids (Zv σ.length (bs.map (ABlk.mapV (AVal.ren (keepM ids σ.length bs.length))))):=by
 intro w0 L g hq w vs r hx hrd hup
 let dm:CB:=⟨0,0,0,true⟩
 let c':Own:=λb=>if b<σ.length then some ((g.c b).getD dm) else none
 have r0:Rep GL w ⟨[],g.M⟩ ⟨g.M,c'⟩ (hp (XC σ)) w:={
  keeps:=Keeps.refl _ _,stable:=r.stable,src:=λb o e=>.inl e,globs:=r.globs
  empt:=λb e=>by
   show c' b=none;simp only[hp,ZI] at e;simp only[c'];split at e
   ·cases e
   ·rename_i hb; rw[if_neg hb]
  dom:=λb blk e=>by
   simp only[hp,ZI] at e;split at e
   ·rename_i hb; exact⟨_,by show c' b=_; simp only[c']; rw[if_pos hb]⟩
   ·cases e
  own:=λb blk cb e hl _ _=>by
   simp only[hp,ZI] at e;split at e
   ·cases e; cases hl
   ·cases e
  hollow:=λb blk cb e hl _ _=>by
   simp only[hp,ZI] at e;split at e
   ·cases e; cases hl
   ·cases e
  inj:=λb b' blk blk' cb cb' e _ hl _ _ _ _ _ _=>by
   simp only[hp,ZI] at e;split at e
   ·cases e; cases hl
   ·cases e }
 have hx':DenL ⟨g.M,c'⟩ (renL (ltM σ.length) xs) vs:=by
  refine DenL.of_get (by rw[QE]; exact hx.length) (λi y u e1 e2=>?_);obtain⟨x,q1,rfl⟩:=Yai e1;refine(hx.get i x u q1 e2).ren (λb b' cb k1 k2=>?_);unfold ltM at k1;obtain⟨k0,k1⟩:=ZD k1;cases k1;have hlt:b<σ.length:=YNL k0;simp only[c'];rw[if_pos hlt,k2]; rfl
 obtain⟨fn,c,h1,h2,h3,h4,h5⟩:=ok.ok;have d0:=YO hx' (n:=F.n) (by rw[QE,hn]; exact ok.np);refine calls_of_wp h1 h2 ?_;rw[h3];refine wp_mono (h c h4 w ⟨[],g.M⟩ _ _ w r0 d0) (λe a' w' hl=>?_);have fin:∀g' ρ σ',(⟨g.M,c'⟩:Gm).Le g'→Rep GL w ⟨[],g.M⟩ g' (hp σ') w'→DenF F.n g' ρ a'→(retV F.rets ρ σ'=some v∧σ'=XC σ++news)→∃u,(results fn a'.tmps).run P w'=.ok u w'∧(∃u',Ending.returned u=.returned u'∧∃g2,g.Le g2∧Rep GL w0 L g2 (hups hq (Zv σ.length (bs.map (ABlk.mapV (AVal.ren (keepM ids σ.length bs.length)))))) w'∧g2.den (v.ren (keepM ids σ.length bs.length)) u'):=by
  rintro g' ρ σ' hle hr hd ⟨hret,rfl⟩;obtain⟨u,k1,k2⟩:=Q7 hr hd h5 hret;obtain⟨c2,j1,j2,j3⟩:=r.joinG hr σ.length (bs:=bs) (λi hi=>by
    rcases hbs with rfl|rfl
    ·simp only[hp];rw[List.getElem?_append_right (by rw[Y9]; omega),Y9,Nat.add_sub_cancel_left]
    ·simp at hi) (keepM ids σ.length bs.length) g'.M (λ_=>True) hle.m hr.stable (λb o e=>by
    rcases hr.src b o e with q|q|q
    ·exact .inl q
    ·exact .inr q
    ·simp at q) (λ_ _ e=>e) (λ_ _ _ _ d=>d) (λb _=>ABlk.all_true b) (λ_ _ _=>trivial) (N:=σ.length) (λi hi=>by
    obtain⟨b,hb⟩:=XZ (bs.map (ABlk.mapV (AVal.ren (keepM ids σ.length bs.length)))) σ.length i (by simpa using hi);rw[hup _ hb]; simp[hp]) (λb b' cb e1 e2=>by
    unfold keepM at e1;obtain⟨e0,e1⟩:=ZD e1;cases e1;by_cases hin:b∈ids∧b<σ.length
    ·right;obtain⟨hin,hb⟩:=hin;have hb':hq b=some (σ[b]):=by rw[hrd b hin]; simp[hp,hb]
     obtain⟨cb0,hcb⟩:=r.dom b _ hb';have:c' b=some cb0:=by simp only[c']; rw[if_pos hb,hcb]; rfl
     have:=hle.c b cb0 this;rw[e2] at this; cases this; exact hcb
    ·left;simp only[Bool.or_eq_true,Bool.and_eq_true] at e0;rcases e0 with q|⟨q1,q2⟩
     ·exact(hin ⟨List.contains_iff_mem.1 q,hids b (List.contains_iff_mem.1 q)⟩).elim
     ·have:=YNL q1;have:b < σ.length + bs.length:=YNL q2;exact⟨b - σ.length,by omega,by omega,by omega⟩)
  exact⟨u,k1,u,rfl,⟨g'.M,c2⟩,⟨hle.m,j1⟩,j3,k2.ren j2⟩
 cases e with
 |normal=>obtain⟨g',ρ,σ,k1,k2,k3,k4⟩:=hl; exact⟨k3.defers,fin g' ρ σ k1 k2 k3 k4.2⟩
 |ret=>obtain⟨g',ρ,σ,k1,k2,k3,k4⟩:=hl; exact⟨k3.defers,fin g' ρ σ k1 k2 k3 k4.2⟩
 |exit id=>obtain⟨g',ρ,σ,k1,k2,k3,k4⟩:=hl; rcases k4.1 with q|q<;>cases q
 |_=>exact hl.elim
end
end Go.Ah
end
section
namespace Go.Ah
mutual
def AVal.ids:AVal→List Nat
 |.bptr b _=>[b]
 |.ptr b _ _=>[b]
 |.sl b _ _ _=>[b]
 |.map b=>[b]
 |.iter b=>[b]
 |.func _ xs ys=>idsL xs++idsL ys
 |.iface _ v=>v.ids
 |.agg cs=>idsL cs
 |.tup cs=>idsL cs
 |.when _ x=>x.ids
 |_=>[]
def idsL:List AVal→List Nat
 |[]=>[]
 |x::xs=>x.ids++idsL xs
end
def QR:Nat→List ABlk→Option (List ABlk)
 |0,l=>some l
 |n+1,.dead::l=>QR n l
 |_+1,_=>none
theorem Qaq:∀(σ l news:List ABlk),QR σ.length l=some news→l=XC σ++news
 |[],l,news,h=>by simp[QR] at h; simp[XC,h]
 |x::σ,l,news,h=>by
  cases l with
  |nil=>simp[QR] at h
  |cons y l=>
   cases y with
   |dead=>simp only[List.length_cons,QR] at h; rw[Qaq σ l news h]; rfl
   |_=>simp[QR] at h
def Yv(n:Nat):List Nat→Bool
 |[]=>true
 |x::xs=>Nat.blt x n&&Yv n xs
theorem Yab{n:Nat}:∀ {l:List Nat},Yv n l=true→∀i∈l,i<n
 |x::xs,h,i,hi=>by
  simp only[Yv,Bool.and_eq_true] at h;rcases List.mem_cons.1 hi with rfl|hi
  ·exact YNL h.1
  ·exact Yab h.2 i hi
def much:Nat:=1000000000
end Go.Ah
end
section
namespace Go.Ah
structure Ans (α:Type) where
 stop:α
 call:MK→List AVal→List ABlk→(AVal→List ABlk→α)→α
 dcall:MK→List AVal→List ABlk→(AVal→List Nat×List Nat→List ABlk→α)→α
 test:AVal→α→α→α
 loop:((List AVal→List ABlk→α)→List AVal→List ABlk→α)→List AVal→List ABlk→α
section
variable {α:Type}
def Ans.rd(A:Ans α)(r:SRes)(K:AVal→α):α:=match r with
 |.ok v _ []=>K v
 |_=>A.stop
def Ans.pu(A:Ans α)(r:SRes)(K:AVal→α):α:=match r with
 |.ok v [] []=>K v
 |_=>A.stop
def Ans.wr(A:Ans α)(r:SRes)(σ:List ABlk)(K:AVal→List ABlk→α):α:=match r with
 |.ok v _ up=>match upL σ up with
  |some σ'=>K v σ'
  |none=>A.stop
 |.stop=>A.stop
def Ans.dr(A:Ans α)(r:SRes)(σ:List ABlk)(K:AVal→List Nat×List Nat→List ABlk→α):α:=match r with
 |.ok v rd up=>match upL σ up with
  |some σ'=>K v (rd,up.map (·.1)) σ'
  |none=>A.stop
 |.stop=>A.stop
def Ans.opt{β:Type}(A:Ans α)(o:Option β)(K:β→α):α:=match o with
 |some v=>K v
 |none=>A.stop
def Ans.gd(A:Ans α)(b:Bool)(k:α):α:=match b with
 |true=>k
 |false=>A.stop
@[reducible] def udf(cs:List (Bool×Bool)):AVal:=.when cs (.bool false)
def Ans.gx(A:Ans α)(c:AVal)(w:Bool)(r:α)(s:List (Bool×Bool)→α):α:=match c with
 |.when cs (.bool q)=>match Q9.holdNot cs with
  |true=>s (cs++[(q,w)])
  |false=>A.stop
 |c=>A.test c (bif w then r else s [(true,w)]) (bif w then s [(false,w)] else r)
def Ans.gr(A:Ans α)(c:AVal)(w:Bool)(r:(AVal→α)→α)(K:AVal→α):α:=A.gx c w (r K) (λcs=>K (udf cs))
def Ans.gw(A:Ans α)(c:AVal)(w:Bool)(r:(AVal→List ABlk→α)→α)(σ:List ABlk)(K:AVal→List ABlk→α):α:=A.gx c w (r K) (λcs=>K (udf cs) σ)
def Ans.gl(A:Ans α)(c:AVal)(w:Bool)(r:(AVal→List Nat×List Nat→List ABlk→α)→α)(σ:List ABlk)(K:AVal→List Nat×List Nat→List ABlk→α):α:=
 A.gx c w (r K) (λcs=>K (udf cs) ([],[]) σ)
def joinK(f:(List AVal→List ABlk→α)→α)(k:List AVal→List ABlk→α):α:=f k
inductive Cls where
 |mv|pu|rd|wr|call
def clsOf:MK→Cls
 |.mv=>.mv
 |.call _ | .callv | .invoke _ _=>.call
 |.alloc _ | .box | .buildS _ _ _ _ | .store _ | .makeMap | .append _ _ _ | .mapUpd _ | .range | .next | .makeS _ _ _ | .clearS _ _=>.wr
 |.load _ _ | .lookup _ _ _ | .lenM | .sliceS _ _ _ _ | .idxAddrS _=>.rd
 |_=>.pu
def dnOp(A:Ans α)(o:MOper)(ρ:Frame)(σ:List ABlk)(K:Frame→List ABlk→α):α:=
 match o.guard with
 |none=>match clsOf o.k with
  |.mv=>match o.xs with
   |[x]=>K (putF o.dst (ev ρ x) ρ) σ
   |_=>A.stop
  |.pu | .rd=>A.rd (cstep o.k (o.xs.map (ev ρ)) σ) λv=>K (putF o.dst v ρ) σ
  |.wr=>A.wr (cstep o.k (o.xs.map (ev ρ)) σ) σ λv σ=>K (putF o.dst v ρ) σ
  |.call=>A.call o.k (o.xs.map (ev ρ)) σ λv σ=>K (putF o.dst v ρ) σ
 |some (s,w)=>match clsOf o.k with
  |.mv | .pu | .rd=>A.gr (fget ρ s) w (λk=>A.rd (cstep o.k (o.xs.map (ev ρ)) σ) k) λv=>K (putF o.dst v ρ) σ
  |.wr=>A.gw (fget ρ s) w (λk=>A.wr (cstep o.k (o.xs.map (ev ρ)) σ) σ k) σ λv σ=>K (putF o.dst v ρ) σ
  |.call=>A.gw (fget ρ s) w (λk=>A.call o.k (o.xs.map (ev ρ)) σ k) σ λv σ=>K (putF o.dst v ρ) σ
def dnOps(A:Ans α):List MOper→Frame→List ABlk→(Frame→List ABlk→α)→α
 |[],ρ,σ,K=>K ρ σ
 |o::r,ρ,σ,K=>dnOp A o ρ σ λρ σ=>dnOps A r ρ σ K
def dnOpD(A:Ans α)(o:MOper)(ρ:Frame)(σ:List ABlk)(lg:Log)(K:Frame→List ABlk→Log→α):α:=
 match o.guard with
 |none=>match clsOf o.k with
  |.mv=>match o.xs with
   |[x]=>K (putF o.dst (ev ρ x) ρ) σ (lg++[([],[])])
   |_=>A.stop
  |.pu=>A.pu (cstep o.k (o.xs.map (ev ρ)) σ) λv=>K (putF o.dst v ρ) σ (lg++[([],[])])
  |.rd | .wr=>A.dr (cstep o.k (o.xs.map (ev ρ)) σ) σ λv l σ=>K (putF o.dst v ρ) σ (lg++[l])
  |.call=>A.dcall o.k (o.xs.map (ev ρ)) σ λv l σ=>K (putF o.dst v ρ) σ (lg++[l])
 |some (s,w)=>match clsOf o.k with
  |.mv | .pu=>A.gr (fget ρ s) w (λk=>A.pu (cstep o.k (o.xs.map (ev ρ)) σ) k) λv=>K (putF o.dst v ρ) σ (lg++[([],[])])
  |.rd | .wr=>A.gl (fget ρ s) w (λk=>A.dr (cstep o.k (o.xs.map (ev ρ)) σ) σ k) σ λv l σ=>K (putF o.dst v ρ) σ (lg++[l])
  |.call=>A.gl (fget ρ s) w (λk=>A.dcall o.k (o.xs.map (ev ρ)) σ k) σ λv l σ=>K (putF o.dst v ρ) σ (lg++[l])
def Xbm(A:Ans α):List MOper→Frame→List ABlk→Log→(Frame→List ABlk→Log→α)→α
 |[],ρ,σ,lg,K=>K ρ σ lg
 |o::r,ρ,σ,lg,K=>dnOpD A o ρ σ lg λρ σ lg=>Xbm A r ρ σ lg K
def isWr:Cls→Bool
 |.wr=>true
 |.call=>true
 |_=>false
def noWr:List MOper→Bool
 |[]=>true
 |o::r=>!(isWr (clsOf o.k))&&noWr r
inductive DCode where
 |skip
 |region (id:Nat) (ms:List MOper) (draw:Option (List (List Nat)))
 |seq (a b:DCode)
 |cond (c:Opd) (a b:DCode)
 |join (lv:List Nat) (a:DCode)
 |block (id:Nat) (a:DCode)
 |loop (lv:List Nat) (a:DCode)
 |exit (id:Nat)
 |scope (a:DCode)
 |label (l:Nat)
 |ret
 deriving Inhabited
def DCode.er:DCode→MCode
 |.skip=>.skip
 |.region id ms hd=>.region id ms hd
 |.seq a b=>.seq a.er b.er
 |.cond c a b=>.cond c a.er b.er
 |.join _ a=>a.er
 |.block id a=>.block id a.er
 |.loop _ a=>.loop a.er
 |.exit id=>.exit id
 |.scope a=>.scope a.er
 |.label l=>.label l
 |.ret=>.ret
def XF:List MOper→List Nat
 |[]=>[]
 |o::r=>match o.dst with
  |some d=>d::XF r
  |none=>XF r
def DCode.asg:DCode→List Nat
 |.region _ ms _=>XF ms
 |.seq a b=>a.asg++b.asg
 |.cond _ a b=>a.asg++b.asg
 |.join _ a=>a.asg
 |.block _ a=>a.asg
 |.loop _ a=>a.asg
 |.scope a=>a.asg
 |_=>[]
def inL(x:Nat):List Nat→Bool
 |[]=>false
 |y::l=>Nat.beq x y||inL x l
def subL:List Nat→List Nat→Bool
 |[],_=>true
 |x::l,b=>inL x b&&subL l b
def DCode.ok:DCode→Bool
 |.seq a b=>a.ok&&b.ok
 |.cond _ a b=>a.ok&&b.ok
 |.join lv a=>subL lv a.asg&&a.ok
 |.block _ a=>a.ok
 |.loop lv a=>subL lv a.asg&&a.ok
 |.scope a=>a.ok
 |_=>true
def hdV:List AVal→AVal
 |[]=>.junk
 |x::_=>x
def tlV:List AVal→List AVal
 |[]=>[]
 |_::l=>l
def zipF:List Nat→List AVal→Frame→Frame
 |[],_,ρ=>ρ
 |k::ks,vs,ρ=>(k,hdV vs)::zipF ks (tlV vs) ρ
def dropF(l:List Nat):Frame→Frame
 |[]=>[]
 |(k,v)::r=>match inL k l with
  |true=>dropF l r
  |false=>(k,v)::dropF l r
def getF(ρ:Frame):List Nat→List AVal
 |[]=>[]
 |s::r=>fget ρ s::getF ρ r
def dn(A:Ans α):DCode→Frame→List ABlk→(Frame→List ABlk→α)→(Nat→Frame→List ABlk→α)→(Frame→List ABlk→α)→α
 |.skip,ρ,σ,K,_,_=>K ρ σ
 |.label _,ρ,σ,K,_,_=>K ρ σ
 |.region _ ms none,ρ,σ,K,_,_=>dnOps A ms ρ σ K
 |.region _ ms (some hd),ρ,σ,K,_,_=>match noWr ms with
  |true=>dnOps A ms ρ σ K
  |false=>Xbm A ms ρ σ [] λρ σ lg=>A.gd (Zi hd lg) (K ρ σ)
 |.seq a b,ρ,σ,K,E,R=>dn A a ρ σ (λρ σ=>dn A b ρ σ K E R) E R
 |.cond c a b,ρ,σ,K,E,R=>A.test (ev ρ c) (dn A a ρ σ K E R) (dn A b ρ σ K E R)
 |.join lv a,ρ,σ,K,E,R=>joinK (λk=>dn A a ρ σ (λρ' σ=>k (getF ρ' lv) σ) E R) (λvs σ=>K (zipF lv vs (dropF a.asg ρ)) σ)
 | .block id a,ρ,σ,K,E,R=>dn A a ρ σ K (λi ρ σ=>match Nat.beq i id with
  |true=>K ρ σ
  | false=>E i ρ σ) R
 |.loop lv a,ρ,σ,_,E,R=>A.loop (λagain vs σ=>dn A a (zipF lv vs (dropF a.asg ρ)) σ (λρ' σ=>again (getF ρ' lv) σ) E R) (getF ρ lv) σ
 |.exit id,ρ,σ,_,E,_=>E id ρ σ
 |.scope a,ρ,σ,K,E,R=>dn A a ρ σ K E R
 |.ret,ρ,σ,_,_,R=>R ρ σ
def cellV(agg:Bool)(n:Nat)(x:AVal)(σ:List ABlk):Option AVal:=match x with
 |.bptr b j=>match hget σ b with
  |.box row=>partA agg j n row
  |_=>none
 |_=>none
def XaJ(A:Ans α):List RV→Frame→List ABlk→(List AVal→α)→α
 |[],_,_,K=>K []
 |.t n::r,ρ,σ,K=>XaJ A r ρ σ λvs=>K (fget ρ n::vs)
 |.c s agg n::r,ρ,σ,K=>A.opt (cellV agg n (fget ρ s) σ) λv=>XaJ A r ρ σ λvs=>K (v::vs)
structure DFn where
 np:Nat
 n:Nat
 body:DCode
 rets:List RV
 deriving Inhabited
def DFn.fn(D:DFn):MFn:=⟨D.np,D.n,D.body.er,D.rets⟩
def dnFn(A:Ans α)(D:DFn)(xs:List AVal)(σ:List ABlk)(ret:AVal→List ABlk→α):α:=
 dn A D.body (frame0 xs) σ (λρ σ=>XaJ A D.rets ρ σ λvs=>ret (retOf vs) σ) (λ_ _ _=>A.stop) (λρ σ=>XaJ A D.rets ρ σ λvs=>ret (retOf vs) σ)
def iterA(stop:α):Nat→((List AVal→List ABlk→α)→List AVal→List ABlk→α)→List AVal→List ABlk→α
 |0,_,_,_=>stop
 |n+1,F,vs,σ=>F (iterA stop n F) vs σ
structure AnsOk (P:Program) (GL:Globs) (A:Ans α) (hold:α→Prop):Prop where
 stop:¬hold A.stop
 call:∀ {k xs σ K},hold (A.call k xs σ K)→∃R,OpRel P GL k xs σ R∧∀v σ',R v σ'→hold (K v σ')
 dcall:∀ {k xs σ K},hold (A.dcall k xs σ K)→∃v rd up σ',OpSem P GL k xs (hp σ) v rd up∧upL σ up=some σ'∧hold (K v (rd,up.map (·.1)) σ')
 test:∀ {v a b},hold (A.test v a b)→∃c,v=.bool c∧(c=true→hold a)∧(c=false→hold b)
 loop:∀ {F vs σ},hold (A.loop F vs σ)→∃n,hold (iterA A.stop n F vs σ)
section
variable {P:Program} {GL:Globs} {A:Ans α} {hold:α→Prop}
theorem AnsOk.rd(ok:AnsOk P GL A hold){r:SRes}{K:AVal→α}(h:hold (A.rd r K)):∃v rd,r=.ok v rd []∧hold (K v):=by
 unfold Ans.rd at h;split at h
 ·exact⟨_,_,rfl,h⟩
 ·exact(ok.stop h).elim
theorem AnsOk.pu(ok:AnsOk P GL A hold){r:SRes}{K:AVal→α}(h:hold (A.pu r K)):∃v,r=.ok v [] []∧hold (K v):=by
 unfold Ans.pu at h;split at h
 ·exact⟨_,rfl,h⟩
 ·exact(ok.stop h).elim
theorem AnsOk.wr(ok:AnsOk P GL A hold){r:SRes}{σ:List ABlk}{K:AVal→List ABlk→α}(h:hold (A.wr r σ K)):∃v rd up σ',r=.ok v rd up∧upL σ up=some σ'∧hold (K v σ'):=by
 unfold Ans.wr at h;split at h
 ·split at h
  ·rename_i e; exact⟨_,_,_,_,rfl,e,h⟩
  ·exact(ok.stop h).elim
 ·exact(ok.stop h).elim
theorem AnsOk.dr(ok:AnsOk P GL A hold){r:SRes}{σ:List ABlk}{K:AVal→List Nat×List Nat→List ABlk→α}(h:hold (A.dr r σ K)):∃v rd up σ',r=.ok v rd up∧upL σ up=some σ'∧hold (K v (rd,up.map (·.1)) σ'):=by
 unfold Ans.dr at h;split at h
 ·split at h
  ·rename_i e; exact⟨_,_,_,_,rfl,e,h⟩
  ·exact(ok.stop h).elim
 ·exact(ok.stop h).elim
theorem AnsOk.gd(ok:AnsOk P GL A hold){b:Bool}{k:α}(h:hold (A.gd b k)):b=true∧hold k:=by
 unfold Ans.gd at h;split at h
 ·exact⟨rfl,h⟩
 ·exact(ok.stop h).elim
theorem AnsOk.opt(ok:AnsOk P GL A hold){β:Type}{o:Option β}{K:β→α}(h:hold (A.opt o K)):∃v,o=some v∧hold (K v):=by
 unfold Ans.opt at h;split at h
 ·exact⟨_,rfl,h⟩
 ·exact(ok.stop h).elim
theorem Zs(σ:List ABlk):upL σ []=some σ:=by simp[upL]
theorem Ybz{ρ:Frame}{s:Nat}{w c:Bool}(h:fget ρ s=.bool c):GuardIs ρ (some (s,w)) [(c,w)]:=.bool s w c h
theorem Yb7{c w:Bool}:Hold [(c,w)]↔c=w:=by simp[Hold]
theorem Q6(ok:AnsOk P GL A hold){ρ:Frame}{s:Nat}{w:Bool}{r:α}{K:List (Bool×Bool)→α}(h:hold (A.gx (fget ρ s) w r K)):∃cs,GuardIs ρ (some (s,w)) cs∧((Hold cs∧hold r)∨(¬Hold cs∧hold (K cs))):=by
 unfold Ans.gx at h;split at h
 ·rename_i cs q hc;split at h
  ·rename_i hn;refine⟨_,.when s w q cs hc,.inr ⟨λq=>Xak hn (λp hp=>q p (by simp[hp])),h⟩⟩
  ·exact(ok.stop h).elim
 ·obtain⟨b,hb,h1,h2⟩:=ok.test h;refine⟨_,Ybz hb,?_⟩;rw[Yb7];cases b<;>cases w<;>simp_all
def Zj(l:List Nat)(ρ ρ':Frame):Prop:=∀s,s∉l→fget ρ' s=fget ρ s
theorem Zj.refl(l:List Nat)(ρ:Frame):Zj l ρ ρ:=λ_ _=>rfl
theorem Zj.trans{l l':List Nat}{a b c:Frame}(h:Zj l a b)(k:Zj l' b c):Zj (l++l') a c:=λs hs=>by
 simp only[List.mem_append,not_or] at hs;rw[k s hs.2,h s hs.1]
theorem Zj.mono{l l':List Nat}{a b:Frame}(h:Zj l a b)(hl:∀x∈l,x∈l'):Zj l' a b:=λs hs=>h s λe=>hs (hl s e)
theorem Zj.put{o:MOper}{v:AVal}{ρ:Frame}:Zj (XF [o]) ρ (putF o.dst v ρ):=by
 intro s hs;rw[XW];cases hd:o.dst with
 |none=>simp
 |some d=>
  have:s≠d:=by rintro rfl; simp[XF,hd] at hs
  rw[if_neg (by simpa using λe=>this e.symm)]
theorem Qaw(o:MOper)(r:List MOper):XF (o::r)=XF [o]++XF r:=by
 cases hd:o.dst<;>simp[XF,hd]
theorem Xbx(ok:AnsOk P GL A hold){fl:Bool}{o:MOper}{ρ:Frame}{σ:List ABlk}{lg:Log}{K:Frame→List ABlk→α}(hfl:fl=true→isWr (clsOf o.k)=false)(h:hold (dnOp A o ρ σ K)) :
  StepR fl P GL o ρ σ lg (λρ' σ' lg'=>hold (K ρ' σ')∧Zj (XF [o]) ρ ρ'∧((∃l,lg'=lg++[l]∧(isWr (clsOf o.k)=false→l.2=[])))):=by
 unfold dnOp at h;cases hg:o.guard with
 |none=>
  simp only[hg] at h;have gi:GuardIs ρ o.guard []:=by rw[hg]; exact .none
  have hh:Hold []:=by simp[Hold]
  have rdcase:hold (A.rd (cstep o.k (o.xs.map (ev ρ)) σ) λv=>K (putF o.dst v ρ) σ)→StepR fl P GL o ρ σ lg (λρ' σ' lg'=>hold (K ρ' σ')∧Zj (XF [o]) ρ ρ'∧((∃l,lg'=lg++[l]∧(isWr (clsOf o.k)=false→l.2=[])))):=by
   intro h;obtain⟨v,rd,e,h⟩:=ok.rd h;exact .run [] _ v rd [] σ gi hh (Xm _) (YA e) (Zs σ) ⟨h,Zj.put,_,rfl,λ_=>rfl⟩
  cases hc:clsOf o.k with
  |mv=>
   simp only[hc] at h;split at h
   ·rename_i x hx;have hk:o.k=.mv:=by
     revert hc; unfold clsOf; split<;>simp_all
    refine .run [] [ev ρ x] (ev ρ x) [] [] σ gi hh (by rw[hx]; exact Xm _) (by rw[hk]; exact QbX _ _) (Zs σ) ⟨h,Zj.put,_,rfl,λ_=>rfl⟩
   ·exact(ok.stop h).elim
  |pu=>simp only[hc] at h rdcase; exact rdcase h
  |rd=>simp only[hc] at h rdcase; exact rdcase h
  |wr=>
   simp only[hc] at h;obtain⟨v,rd,up,σ',e,e2,h⟩:=ok.wr h;exact .run [] _ v rd up σ' gi hh (Xm _) (YA e) e2 ⟨h,Zj.put,_,rfl,λq=>by simp[isWr] at q⟩
  |call=>
   simp only[hc] at h;obtain⟨R,hR,hk⟩:=ok.call h;refine .rel [] _ R ?_ gi hh (Xm _) hR (λv σ' hv=>⟨hk v σ' hv,Zj.put,_,rfl,λq=>by simp[isWr] at q⟩);cases fl with
   |false=>rfl
   |true=>have:=hfl rfl; simp[hc,isWr] at this
 |some p=>
  obtain⟨s,w⟩:=p;simp only[hg] at h;have skipcase:∀cs,GuardIs ρ (some (s,w)) cs→¬Hold cs→hold (K (putF o.dst (udf cs) ρ) σ)→StepR fl P GL o ρ σ lg (λρ' σ' lg'=>hold (K ρ' σ')∧Zj (XF [o]) ρ ρ'∧((∃l,lg'=lg++[l]∧(isWr (clsOf o.k)=false→l.2=[])))):=by
   intro cs hb hne h;exact .lazy cs _ (.bool false) [] (by rw[hg]; exact hb) (Xm _) (λq=>(hne q).elim) ⟨h,Zj.put,_,rfl,λ_=>rfl⟩
  have rdcase:hold (A.gr (fget ρ s) w (λk=>A.rd (cstep o.k (o.xs.map (ev ρ)) σ) k) λv=>K (putF o.dst v ρ) σ)→StepR fl P GL o ρ σ lg (λρ' σ' lg'=>hold (K ρ' σ')∧Zj (XF [o]) ρ ρ'∧((∃l,lg'=lg++[l]∧(isWr (clsOf o.k)=false→l.2=[])))):=by
   intro h;obtain⟨cs,hb,⟨h0,h1⟩|⟨h0,h1⟩⟩:=Q6 ok h
   ·obtain⟨v,rd,e,h⟩:=ok.rd h1;exact .run cs _ v rd [] σ (by rw[hg]; exact hb) h0 (Xm _) (YA e) (Zs σ) ⟨h,Zj.put,_,rfl,λ_=>rfl⟩
   ·exact skipcase cs hb h0 h1
  cases hc:clsOf o.k with
  |mv=>simp only[hc] at h rdcase; exact rdcase h
  |pu=>simp only[hc] at h rdcase; exact rdcase h
  |rd=>simp only[hc] at h rdcase; exact rdcase h
  |wr=>
   simp only[hc] at h skipcase;obtain⟨cs,hb,⟨h0,h1⟩|⟨h0,h1⟩⟩:=Q6 ok h
   ·obtain⟨v,rd,up,σ',e,e2,h⟩:=ok.wr h1;exact .run cs _ v rd up σ' (by rw[hg]; exact hb) h0 (Xm _) (YA e) e2 ⟨h,Zj.put,_,rfl,λq=>by simp[isWr] at q⟩
   ·exact skipcase cs hb h0 h1
  |call=>
   simp only[hc] at h skipcase;obtain⟨cs,hb,⟨h0,h1⟩|⟨h0,h1⟩⟩:=Q6 ok h
   ·obtain⟨R,hR,hk⟩:=ok.call h1;refine .rel cs _ R ?_ (by rw[hg]; exact hb) h0 (Xm _) hR (λv σ' hv=>⟨hk v σ' hv,Zj.put,_,rfl,λq=>by simp[isWr] at q⟩);cases fl with
    |false=>rfl
    |true=>have:=hfl rfl; simp[hc,isWr] at this
   ·exact skipcase cs hb h0 h1
theorem AwpR.mono{fl:Bool}:∀ {ms:List MOper} {ρ:Frame} {σ:List ABlk} {lg:Log} {K K':Frame→List ABlk→Log→Prop},(∀ρ σ lg,K ρ σ lg→K' ρ σ lg)→AwpR fl P GL ms ρ σ lg K→AwpR fl P GL ms ρ σ lg K'
 |[],_,_,_,_,_,h,k=>h _ _ _ k
 |_::_,_,_,_,_,_,h,k=>StepR.mono (λ_ _ _ q=>AwpR.mono h q) k
def allRd(lg:Log):Prop:=∀l∈lg,l.2=[]
theorem XQ(ok:AnsOk P GL A hold){fl:Bool}:∀ {ms:List MOper} {ρ:Frame} {σ:List ABlk} {lg:Log} {K:Frame→List ABlk→α},(fl=true→noWr ms=true)→hold (dnOps A ms ρ σ K) →
  AwpR fl P GL ms ρ σ lg (λρ' σ' lg'=>hold (K ρ' σ')∧Zj (XF ms) ρ ρ'∧(noWr ms=true→allRd lg→allRd lg'))
 |[],ρ,σ,lg,K,_,h=>⟨h,Zj.refl _ _,λ_ q=>q⟩
 |o::r,ρ,σ,lg,K,hfl,h=>by
  unfold dnOps at h;have hfl1:fl=true→isWr (clsOf o.k)=false:=λe=>by have:=hfl e; simp[noWr] at this; exact this.1
  have hfl2:fl=true→noWr r=true:=λe=>by have:=hfl e; simp[noWr] at this; exact this.2
  refine StepR.mono (λρ' σ' lg'=>?_) (Xbx ok (lg:=lg) hfl1 h);rintro⟨k1,k2,l,hl,k3⟩;refine AwpR.mono (λρ'' σ'' lg''=>?_) (XQ ok hfl2 k1);rintro⟨q1,q2,q3⟩;refine⟨q1,by rw[Qaw]; exact k2.trans q2,λhn hlg=>?_⟩;simp only[noWr,Bool.and_eq_true,Bool.not_eq_true'] at hn;refine q3 hn.2 ?_;rw[hl];intro x hx;simp only[List.mem_append,List.mem_singleton] at hx;rcases hx with hx|hx
  ·exact hlg x hx
  ·rw[hx]; exact k3 hn.1
theorem Ybd(ok:AnsOk P GL A hold){o:MOper}{ρ:Frame}{σ:List ABlk}{lg:Log}{K:Frame→List ABlk→Log→α}(h:hold (dnOpD A o ρ σ lg K)) :
  StepR true P GL o ρ σ lg (λρ' σ' lg'=>hold (K ρ' σ' lg')∧Zj (XF [o]) ρ ρ'):=by
 unfold dnOpD at h;cases hg:o.guard with
 |none=>
  simp only[hg] at h;have gi:GuardIs ρ o.guard []:=by rw[hg]; exact .none
  have hh:Hold []:=by simp[Hold]
  have drcase:hold (A.dr (cstep o.k (o.xs.map (ev ρ)) σ) σ λv l σ=>K (putF o.dst v ρ) σ (lg++[l]))→StepR true P GL o ρ σ lg (λρ' σ' lg'=>hold (K ρ' σ' lg')∧Zj (XF [o]) ρ ρ'):=by
   intro h;obtain⟨v,rd,up,σ',e,e2,h⟩:=ok.dr h;exact .run [] _ v rd up σ' gi hh (Xm _) (YA e) e2 ⟨h,Zj.put⟩
  cases hc:clsOf o.k with
  |mv=>
   simp only[hc] at h;split at h
   ·rename_i x hx;have hk:o.k=.mv:=by
     revert hc; unfold clsOf; split<;>simp_all
    refine .run [] [ev ρ x] (ev ρ x) [] [] σ gi hh (by rw[hx]; exact Xm _) (by rw[hk]; exact QbX _ _) (Zs σ) ⟨h,Zj.put⟩
   ·exact(ok.stop h).elim
  |pu=>
   simp only[hc] at h;obtain⟨v,e,h⟩:=ok.pu h;exact .run [] _ v [] [] σ gi hh (Xm _) (YA e) (Zs σ) ⟨h,Zj.put⟩
  |rd=>simp only[hc] at h; exact drcase h
  |wr=>simp only[hc] at h; exact drcase h
  |call=>
   simp only[hc] at h;obtain⟨v,rd,up,σ',e,e2,h⟩:=ok.dcall h;exact .run [] _ v rd up σ' gi hh (Xm _) e e2 ⟨h,Zj.put⟩
 |some p=>
  obtain⟨s,w⟩:=p;simp only[hg] at h;have skipcase:∀cs,GuardIs ρ (some (s,w)) cs→¬Hold cs→hold (K (putF o.dst (udf cs) ρ) σ (lg++[([],[])]))→StepR true P GL o ρ σ lg (λρ' σ' lg'=>hold (K ρ' σ' lg')∧Zj (XF [o]) ρ ρ'):=by
   intro cs hb hne h;exact .lazy cs _ (.bool false) [] (by rw[hg]; exact hb) (Xm _) (λq=>(hne q).elim) ⟨h,Zj.put⟩
  have pucase:hold (A.gr (fget ρ s) w (λk=>A.pu (cstep o.k (o.xs.map (ev ρ)) σ) k) λv=>K (putF o.dst v ρ) σ (lg++[([],[])]))→StepR true P GL o ρ σ lg (λρ' σ' lg'=>hold (K ρ' σ' lg')∧Zj (XF [o]) ρ ρ'):=by
   intro h;obtain⟨cs,hb,⟨h0,h1⟩|⟨h0,h1⟩⟩:=Q6 ok h
   ·obtain⟨v,e,h⟩:=ok.pu h1;exact .run cs _ v [] [] σ (by rw[hg]; exact hb) h0 (Xm _) (YA e) (Zs σ) ⟨h,Zj.put⟩
   ·exact skipcase cs hb h0 h1
  have drcase:hold (A.gl (fget ρ s) w (λk=>A.dr (cstep o.k (o.xs.map (ev ρ)) σ) σ k) σ λv l σ=>K (putF o.dst v ρ) σ (lg++[l]))→StepR true P GL o ρ σ lg (λρ' σ' lg'=>hold (K ρ' σ' lg')∧Zj (XF [o]) ρ ρ'):=by
   intro h;obtain⟨cs,hb,⟨h0,h1⟩|⟨h0,h1⟩⟩:=Q6 ok h
   ·obtain⟨v,rd,up,σ',e,e2,h⟩:=ok.dr h1;exact .run cs _ v rd up σ' (by rw[hg]; exact hb) h0 (Xm _) (YA e) e2 ⟨h,Zj.put⟩
   ·exact skipcase cs hb h0 h1
  cases hc:clsOf o.k with
  |mv=>simp only[hc] at h; exact pucase h
  |pu=>simp only[hc] at h; exact pucase h
  |rd=>simp only[hc] at h; exact drcase h
  |wr=>simp only[hc] at h; exact drcase h
  |call=>
   simp only[hc] at h;obtain⟨cs,hb,⟨h0,h1⟩|⟨h0,h1⟩⟩:=Q6 ok h
   ·obtain⟨v,rd,up,σ',e,e2,h⟩:=ok.dcall h1;exact .run cs _ v rd up σ' (by rw[hg]; exact hb) h0 (Xm _) e e2 ⟨h,Zj.put⟩
   ·exact skipcase cs hb h0 h1
theorem Zan(ok:AnsOk P GL A hold):∀ {ms:List MOper} {ρ:Frame} {σ:List ABlk} {lg:Log} {K:Frame→List ABlk→Log→α},hold (Xbm A ms ρ σ lg K) →
  AwpR true P GL ms ρ σ lg (λρ' σ' lg'=>hold (K ρ' σ' lg')∧Zj (XF ms) ρ ρ')
 |[],ρ,σ,lg,K,h=>⟨h,Zj.refl _ _⟩
 |o::r,ρ,σ,lg,K,h=>by
  unfold Xbm at h;refine StepR.mono (λρ' σ' lg'=>?_) (Ybd ok h);rintro⟨k1,k2⟩;refine AwpR.mono (λρ'' σ'' lg''=>?_) (Zan ok k1);rintro⟨q1,q2⟩;exact⟨q1,by rw[Qaw]; exact k2.trans q2⟩
theorem Ybm:∀a:List Nat,disj a []=true
 |[]=>rfl
 |x::a=>by simp[disj,Ybm a]
theorem Xba{hd:List (List Nat)}{lg:Log}(h:allRd lg):Zi hd lg=true:=by
 have one:∀(h':List Nat) (q:List Nat×List Nat),q.2=[]→∀(l:Log) (i:Nat),allRd l→XP h' q i l=true:=by
  intro h' q hq l
  induction l with
  |nil=>intro i _; rfl
  |cons p r ih=>
   intro i hl;have hp:p.2=[]:=hl p (by simp);simp[XP,apart2,hq,hp,disj,Ybm,ih (i+1) (λx hx=>hl x (by simp[hx]))]
 unfold Zi;rw[List.all_eq_true];intro j _;refine one _ _ ?_ _ _ (λx hx=>h x (List.mem_of_mem_take hx));unfold Zao;cases hj:lg[j]? with
 |none=>rfl
 |some p=>exact h p (List.mem_of_getElem? hj)
theorem QaS{x:Nat}:∀ {l:List Nat},inL x l=true↔x∈l
 |[]=>by simp[inL]
 |y::l=>by simp[inL,QaS (l:=l)]
theorem XaW:∀ {l b:List Nat},subL l b=true→∀x∈l,x∈b
 |[],_,_,x,h=>by simp at h
 |y::l,b,h,x,hx=>by
  simp only[subL,Bool.and_eq_true] at h;simp only[List.mem_cons] at hx;rcases hx with rfl|hx
  ·exact QaS.1 h.1
  ·exact XaW h.2 x hx
theorem Y6(l:List Nat)(s:Nat):∀ρ:Frame,fget (dropF l ρ) s=if s∈l then .junk else fget ρ s
 |[]=>by simp[dropF,fget]
 |(k,v)::r=>by
  unfold dropF;cases hk:inL k l with
  |true=>
   have hm:=QaS.1 hk;simp only;rw[Y6 l s r];by_cases hs:s∈l
   ·simp[hs]
   ·have:s≠k:=by rintro rfl; exact hs hm
    rw[if_neg hs,if_neg hs,QB,if_neg this]
  |false=>
   have hm:k∉l:=λe=>by rw[QaS.2 e] at hk; cases hk
   simp only;rw[QB,QB,Y6 l s r];by_cases hs:s=k
   ·subst hs; simp[hm]
   ·simp[hs]
theorem Qag{s:Nat}:∀ {lv:List Nat} {vs:List AVal} {ρ:Frame},s∉lv→fget (zipF lv vs ρ) s=fget ρ s
 |[],_,_,_=>rfl
 |k::ks,vs,ρ,h=>by
  simp only[List.mem_cons,not_or] at h;simp only[zipF];rw[QB,if_neg h.1,Qag h.2]
theorem Qbj{lv:List Nat}{l:List Nat}{ρ ρ1:Frame}(hl:∀x∈lv,x∈l)(h:Zj l ρ ρ1):FLe (zipF lv (getF ρ1 lv) (dropF l ρ)) ρ1:=by
 have key:∀(ks:List Nat) (ρ0:Frame),FLe ρ0 ρ1→FLe (zipF ks (getF ρ1 ks) ρ0) ρ1:=by
  intro ks
  induction ks with
  |nil=>intro ρ0 h; exact h
  |cons k ks ih=>
   intro ρ0 h t;simp only[zipF,getF,hdV,tlV];rw[QB];by_cases e:t=k
   ·subst e; rw[if_pos rfl]; exact .inl rfl
   ·rw[if_neg e]; exact ih ρ0 h t
 refine key lv _ (λt=>?_);rw[Y6];by_cases ht:t∈l
 ·rw[if_pos ht]; exact .inr rfl
 ·rw[if_neg ht]; exact .inl (h t ht).symm
theorem Yba{lv l:List Nat}{vs:List AVal}{ρ:Frame}(hl:∀x∈lv,x∈l):Zj l ρ (zipF lv vs (dropF l ρ)):=by
 intro s hs;rw[Qag (λe=>hs (hl s e)),Y6,if_neg hs]
theorem ZaQ{n:Nat}{m:MCode}{ρ:Frame}{σ:List ABlk}{Q:APost}(h:Awp P GL n m ρ σ (λe ρ1 σ1=>∃ρ2,FLe ρ2 ρ1∧Q e ρ2 σ1)):Awp P GL n m ρ σ Q:=by
 intro c hc w0 L g a w r d;refine wp_mono (h c hc w0 L g a w r d) (λe a' w' hl=>?_);cases e with
 |normal=>obtain⟨g',ρ',σ',k1,k2,k3,ρ2,k4,k5⟩:=hl; exact⟨g',ρ2,σ',k1,k2,k3.weak k4,k5⟩
 |exit id=>obtain⟨g',ρ',σ',k1,k2,k3,ρ2,k4,k5⟩:=hl; exact⟨g',ρ2,σ',k1,k2,k3.weak k4,k5⟩
 |ret=>obtain⟨g',ρ',σ',k1,k2,k3,ρ2,k4,k5⟩:=hl; exact⟨g',ρ2,σ',k1,k2,k3.weak k4,k5⟩
 |_=>exact hl.elim
theorem FLe.refl(ρ:Frame):FLe ρ ρ:=λ_=>.inl rfl
theorem YJ(hP:P.follows .mixedOrders=true)(ok:AnsOk P GL A hold){n:Nat}:∀(m:DCode) {ρ:Frame} {σ:List ABlk} {K:Frame→List ABlk→α} {E:Nat→Frame→List ABlk→α} {R:Frame→List ABlk→α} {Q:APost},m.ok=true →
  (∀ρ' σ',Zj m.asg ρ ρ'→hold (K ρ' σ')→Q .normal ρ' σ')→(∀i ρ' σ',Zj m.asg ρ ρ'→hold (E i ρ' σ')→Q (.exit i) ρ' σ')→(∀ρ' σ',Zj m.asg ρ ρ'→hold (R ρ' σ')→Q .ret ρ' σ') →
  hold (dn A m ρ σ K E R)→Awp P GL n m.er ρ σ Q
 |.skip,_,_,_,_,_,_,_,hK,_,_,h=>Yb4 (hK _ _ (Zj.refl _ _) h)
 |.label _,_,_,_,_,_,_,_,hK,_,_,h=>QbG (hK _ _ (Zj.refl _ _) h)
 |.exit id,_,_,_,_,_,_,_,_,hE,_,h=>Zb4 (hE _ _ _ (Zj.refl _ _) h)
 |.ret,_,_,_,_,_,_,_,_,_,hR,h=>Zcp (hR _ _ (Zj.refl _ _) h)
 |.scope a,_,_,_,_,_,_,hm,hK,hE,hR,h=>ZbH (YJ hP ok a hm hK hE hR h)
 |.region id ms none,ρ,σ,K,E,R,Q,_,hK,_,_,h=>by
  refine Xbu (AwpR.mono (λρ' σ' lg'=>?_) (XQ ok (fl:=false) (λe=>by cases e) h));rintro⟨k1,k2,_⟩;exact hK _ _ k2 k1
 |.region id ms (some hd),ρ,σ,K,E,R,Q,_,hK,_,_,h=>by
  unfold dn at h;cases hn:noWr ms with
  |true=>
   simp only[hn] at h;refine Qbk hP (AwpR.mono (λρ' σ' lg'=>?_) (XQ ok (fl:=true) (λ_=>hn) h));rintro⟨k1,k2,k3⟩;exact⟨Xba (k3 hn (λ_ q=>by simp at q)),hK _ _ k2 k1⟩
  |false=>
   simp only[hn] at h;refine Qbk hP (AwpR.mono (λρ' σ' lg'=>?_) (Zan ok h));rintro⟨k1,k2⟩;obtain⟨q1,q2⟩:=ok.gd k1;exact⟨q1,hK _ _ k2 q2⟩
 |.seq a b,ρ,σ,K,E,R,Q,hm,hK,hE,hR,h=>by
  simp only[DCode.ok,Bool.and_eq_true] at hm;refine Ycp (YJ hP ok a hm.1 (Q:=APost.andThen (λρ σ=>Awp P GL n b.er ρ σ Q) Q) (λρ' σ' hs hk=>?_) (λi ρ' σ' hs hk=>?_) (λρ' σ' hs hk=>?_) h)
  ·exact YJ hP ok b hm.2 (λρ2 σ2 hs2=>hK _ _ (hs.trans hs2)) (λi ρ2 σ2 hs2=>hE _ _ _ (hs.trans hs2)) (λρ2 σ2 hs2=>hR _ _ (hs.trans hs2)) hk
  ·exact hE i ρ' σ' (hs.mono (λx hx=>by simp[DCode.asg,hx])) hk
  ·exact hR ρ' σ' (hs.mono (λx hx=>by simp[DCode.asg,hx])) hk
 |.cond c a b,ρ,σ,K,E,R,Q,hm,hK,hE,hR,h=>by
  simp only[DCode.ok,Bool.and_eq_true] at hm;unfold dn at h;obtain⟨v,hv,h1,h2⟩:=ok.test h;have m1:∀ρ',Zj a.asg ρ ρ'→Zj (DCode.cond c a b).asg ρ ρ':=λρ' q=>q.mono (λx hx=>by simp[DCode.asg,hx]);have m2:∀ρ',Zj b.asg ρ ρ'→Zj (DCode.cond c a b).asg ρ ρ':=λρ' q=>q.mono (λx hx=>by simp[DCode.asg,hx]);refine Qb3 hv (λe=>?_) (λe=>?_)
  ·exact YJ hP ok a hm.1 (λρ2 σ2 q=>hK _ _ (m1 _ q)) (λi ρ2 σ2 q=>hE _ _ _ (m1 _ q)) (λρ2 σ2 q=>hR _ _ (m1 _ q)) (h1 e)
  ·exact YJ hP ok b hm.2 (λρ2 σ2 q=>hK _ _ (m2 _ q)) (λi ρ2 σ2 q=>hE _ _ _ (m2 _ q)) (λρ2 σ2 q=>hR _ _ (m2 _ q)) (h2 e)
 |.join lv a,ρ,σ,K,E,R,Q,hm,hK,hE,hR,h=>by
  simp only[DCode.ok,Bool.and_eq_true] at hm;have hlv:=XaW hm.1;refine ZaQ (YJ hP ok a hm.2 (K:=λρ' σ=>K (zipF lv (getF ρ' lv) (dropF a.asg ρ)) σ) (E:=E) (R:=R) (λρ' σ' hs hk=>?_) (λi ρ' σ' hs hk=>⟨ρ',FLe.refl _,hE i ρ' σ' hs hk⟩) (λρ' σ' hs hk=>⟨ρ',FLe.refl _,hR ρ' σ' hs hk⟩) h);exact⟨_,Qbj hlv hs,hK _ _ (Yba hlv) hk⟩
 |.block id a,ρ,σ,K,E,R,Q,hm,hK,hE,hR,h=>by
  refine XbG (YJ hP ok a hm (Q:=APost.inBlock id Q) hK (λi ρ' σ' hs hk=>?_) hR h);show (if i=id then Q .normal ρ' σ' else Q (.exit i) ρ' σ');by_cases hi:i=id
  ·subst hi;rw[if_pos rfl];have hb:Nat.beq i i=true:=Nat.beq_refl i;simp only[hb] at hk;exact hK _ _ hs hk
  ·rw[if_neg hi];have hb:Nat.beq i id=false:=by
    cases hb:Nat.beq i id with
    |true=>exact(hi (YNB hb)).elim
    |false=>rfl
   simp only[hb] at hk;exact hE _ _ _ hs hk
 |.loop lv a,ρ,σ,K,E,R,Q,hm,hK,hE,hR,h=>by
  simp only[DCode.ok,Bool.and_eq_true] at hm;have hlv:=XaW hm.1;unfold dn at h;obtain⟨k,hk⟩:=ok.loop h;have key:∀(k:Nat) (vs:List AVal) (σ:List ABlk) (ρ1:Frame),FLe (zipF lv vs (dropF a.asg ρ)) ρ1 →
    hold (iterA A.stop k (λagain vs σ=>dn A a (zipF lv vs (dropF a.asg ρ)) σ (λρ' σ=>again (getF ρ' lv) σ) E R) vs σ)→Awp P GL n (.loop a.er) ρ1 σ Q:=by
   intro k
   induction k with
   |zero=>intro vs σ ρ1 _ hk; exact(ok.stop hk).elim
   |succ k ih=>
    intro vs σ ρ1 hle hk;have hz:Zj a.asg ρ (zipF lv vs (dropF a.asg ρ)):=Yba hlv;have hz2:∀ρ',Zj a.asg (zipF lv vs (dropF a.asg ρ)) ρ'→Zj a.asg ρ ρ':=λρ' q=>(hz.trans q).mono (λx hx=>by simpa using hx);refine Xb4 hle (Qbu (YJ hP ok a hm.2 (Q:=APost.andThen (λρ σ=>Awp P GL n (.loop a.er) ρ σ Q) Q) (λρ' σ' hs hk=>?_) (λi ρ' σ' hs hk=>?_) (λρ' σ' hs hk=>?_) hk))
    ·exact ih _ _ ρ' (Qbj hlv (hz2 _ hs)) hk
    ·exact hE i ρ' σ' (hz2 _ hs) hk
    ·exact hR ρ' σ' (hz2 _ hs) hk
  exact key k _ σ ρ (Qbj hlv (Zj.refl _ _)) hk
theorem XS(ok:AnsOk P GL A hold):∀ {rs:List RV} {ρ:Frame} {σ:List ABlk} {K:List AVal→α},hold (XaJ A rs ρ σ K)→∃vs,retL ρ σ rs=some vs∧hold (K vs)
 |[],_,_,_,h=>⟨[],rfl,h⟩
 |.t n::r,ρ,σ,K,h=>by
  obtain⟨vs,h1,h2⟩:=XS ok (rs:=r) h;exact⟨fget ρ n::vs,by simp[retL,ret1,h1],h2⟩
 |.c s agg n::r,ρ,σ,K,h=>by
  unfold XaJ at h;obtain⟨v,hv,h⟩:=ok.opt h;obtain⟨vs,h1,h2⟩:=XS ok (rs:=r) h;have hv':ret1 ρ σ (.c s agg n)=some v:=by
   unfold cellV at hv;unfold ret1;exact hv
  exact⟨v::vs,by simp[retL,hv',h1],h2⟩
theorem Ybx(hP:P.follows .mixedOrders=true)(ok:AnsOk P GL A hold){D:DFn}(hD:D.body.ok=true){xs:List AVal}{σ:List ABlk}{ret:AVal→List ABlk→α}(h:hold (dnFn A D xs σ ret)) :
  Awp P GL D.n D.body.er (frame0 xs) σ (λe ρ σ'=>(e=.normal∨e=.ret)∧∃v,retV D.rets ρ σ'=some v∧hold (ret v σ')):=by
 refine YJ hP ok D.body hD (λρ' σ' _ hk=>?_) (λi ρ' σ' _ hk=>(ok.stop hk).elim) (λρ' σ' _ hk=>?_) h
 ·obtain⟨vs,h1,h2⟩:=XS ok hk;exact⟨.inl rfl,_,by simp[retV,h1],h2⟩
 ·obtain⟨vs,h1,h2⟩:=XS ok hk;exact⟨.inr rfl,_,by simp[retV,h1],h2⟩
end
end
end Go.Ah
end
section
namespace Go.Ah
abbrev GFun:=∀ {α:Type},Ans α→List AVal→List ABlk→(AVal→List ABlk→α)→α
structure GOk (P:Program) (GL:Globs) (f:FuncId) (np:Nat) (g:GFun):Prop where
 plain:Ym P f=true
 ex:∃D:DFn,D.np=np∧FnOk P GL f D.fn∧D.body.ok=true∧∀(α:Type) (A:Ans α) (xs:List AVal) (σ:List ABlk) (ret:AVal→List ABlk→α),xs.length=np→g A xs σ ret=dnFn A D xs σ ret
def annot:MCode→List (Option (List Nat))→DCode×List (Option (List Nat))
 |.skip,l=>(.skip,l)
 |.region id ms hd,l=>(.region id ms hd,l)
 |.seq a b,l=>match annot a l with
  |(a',l)=>match annot b l with
   |(b',l)=>(.seq a' b',l)
 |.cond c a b,l=>match annot a l.tail with
  |(a',l2)=>match annot b l2 with
   |(b',l3)=>match l with
    |some lv::_=>(.join lv (.cond c a' b'),l3)
    |_=>(.cond c a' b',l3)
 |.block id a,l=>match annot a l.tail with
  |(a',l2)=>match l with
   |some lv::_=>(.join lv (.block id a'),l2)
   |_=>(.block id a',l2)
 |.loop a,l=>match annot a l.tail with
  |(a',l2)=>match l with
   |some lv::_=>(.loop lv a',l2)
   |_=>(.loop [] a',l2)
 |.exit id,l=>(.exit id,l)
 |.scope a,l=>match annot a l with
  |(a',l)=>(.scope a',l)
 |.label n,l=>(.label n,l)
 |.ret,l=>(.ret,l)
theorem Zw:∀(m:MCode) (l:List (Option (List Nat))),(annot m l).1.er=m
 |.skip,_=>rfl
 |.region ..,_=>rfl
 |.seq a b,l=>by simp only[annot,DCode.er,Zw a,Zw b]
 |.cond c a b,l=>by
  simp only[annot];split<;>simp only[DCode.er,Zw a,Zw b]
 |.block id a,l=>by
  simp only[annot];split<;>simp only[DCode.er,Zw a]
 |.loop a,l=>by
  simp only[annot];split<;>simp only[DCode.er,Zw a]
 |.exit _,_=>rfl
 |.scope a,l=>by simp only[annot,DCode.er,Zw a]
 |.label _,_=>rfl
 |.ret,_=>rfl
def compD(P:Program)(GL:Globs)(np:Nat)(f:FuncId)(l:List (Option (List Nat))):Option DFn:=match YbK P GL np f with
 |some F=>bif (annot F.body l).1.ok&&(Ym P f&&Nat.beq F.np np) then some ⟨np,F.n,(annot F.body l).1,F.rets⟩ else none
 |none=>none
theorem YcG{P:Program}{GL:Globs}{np:Nat}{f:FuncId}{l:List (Option (List Nat))}{g:GFun}{D:DFn}(hD:compD P GL np f l=some D)(h:∀(α:Type) (A:Ans α) (xs:List AVal) (σ:List ABlk) (ret:AVal→List ABlk→α),xs.length=np→g A xs σ ret=dnFn A D xs σ ret):GOk P GL f np g:=by
 unfold compD at hD;split at hD
 ·rename_i F hF;obtain⟨hb,hD⟩:=ZD hD;simp only[Bool.and_eq_true] at hb;cases hD;have hnp:=YNB hb.2.2;refine⟨hb.2.1,_,rfl,?_,hb.1,h⟩;have hfn:DFn.fn ⟨np,F.n,(annot F.body l).1,F.rets⟩=F:=by
   cases F;simp only at hnp;simp only[DFn.fn,Zw,hnp]
  rw[hfn];exact XbK hF
 ·cases hD
end Go.Ah
end
section
namespace Go.Ah
def W(P:Program)(GL:Globs):Ans Prop where
 stop:=False
 call k xs σ K:=∃R,OpRel P GL k xs σ R∧∀v σ',R v σ'→K v σ'
 dcall k xs σ K:=∃v rd up σ',OpSem P GL k xs (hp σ) v rd up∧upL σ up=some σ'∧K v (rd,up.map (·.1)) σ'
 test v a b:=match v with
  |.bool c=>(c=true→a)∧(c=false→b)
  |_=>False
 loop F vs σ:=∃n,iterA False n F vs σ
theorem Qco(P:Program)(GL:Globs):AnsOk P GL (W P GL) (λp=>p) where
 stop:=λh=>h
 call:=λh=>h
 dcall:=λh=>h
 test:=λ{v a b} h=>by
  simp only[W] at h;split at h
  ·exact⟨_,rfl,h⟩
  ·exact h.elim
 loop:=λh=>h
section
variable {P:Program} {GL:Globs}
theorem GOk.awp(hP:P.follows .mixedOrders=true){α:Type}{A:Ans α}{hold:α→Prop}(ok:AnsOk P GL A hold){f:FuncId}{np:Nat}{g:GFun}(hg:GOk P GL f np g){xs:List AVal}(hn:xs.length=np){σ:List ABlk}{ret:AVal→List ABlk→α}(h:hold (g A xs σ ret)) :
  ∃F,FnOk P GL f F∧F.np=np∧Awp P GL F.n F.body (frame0 xs) σ (λe ρ σ'=>(e=.normal∨e=.ret)∧∃v,retV F.rets ρ σ'=some v∧hold (ret v σ')):=by
 obtain⟨D,h1,h2,h3,h4⟩:=hg.ex;rw[h4 α A xs σ ret hn] at h;exact⟨D.fn,h2,h1,Ybx hP ok h3 h⟩
theorem Qc(hP:P.follows .mixedOrders=true){f:FuncId}{np:Nat}{g:GFun}(hg:GOk P GL f np g){xs:List AVal}(hn:xs.length=np){v:AVal}(hv:v.ro=true)(h:g (W P GL) xs [] (λv' _=>v'=v)):PCall P GL f xs v:=by
 obtain⟨F,h1,h2,h3⟩:=hg.awp hP (Qco P GL) hn h;refine Xap h1 (hn.trans h2.symm) hv (h3.mono λe ρ σ k=>?_);obtain⟨k1,v',k2,rfl⟩:=k;exact⟨k1,k2⟩
theorem Xbz(hP:P.follows .mixedOrders=true){f:FuncId}{np:Nat}{g:GFun}(hg:GOk P GL f np g){xs:List AVal}(hn:xs.length=np){v:AVal}{bs:List ABlk}(h:g (W P GL) xs [] (λv' σ=>v'=v∧σ=bs)):NCall P GL f xs v bs:=by
 obtain⟨F,h1,h2,h3⟩:=hg.awp hP (Qco P GL) hn h;refine Yao h1 (hn.trans h2.symm) (h3.mono λe ρ σ k=>?_);obtain⟨k1,v',k2,rfl,rfl⟩:=k;exact⟨k1,k2,rfl⟩
def frz(σ:List ABlk)(v:AVal):Option AVal:=match v with
 |.tup vs=>match Yr σ 1000 vs with
  |some (ys,_)=>some (.tup ys)
  |none=>none
 |v=>match Yr σ 1000 [v] with
  |some ([y],_)=>some y
  |_=>none
theorem Zcs{σ:List ABlk}{v y:AVal}(hy:frz σ v=some y){w0:World}{L:Ln}{g:Gm}{w:World}{M2:Nat→Option Obj}(r:Rep GL w0 L g (hp σ) w)(cov:Cov g (hp σ) w M2){u:Value}(hd:g.den v u):Den M2 noOwn y u:=by
 unfold frz at hy;split at hy
 ·rename_i vs;split at hy
  ·rename_i ys rd hb;cases hy;have hbor:=YN _ _ _ _ hb rd (λ_ q=>q);cases hd with
   |tup _ _ us hs hd=>
    have hd2:=hbor GL w0 L g (hp σ) w M2 r cov (λ_ _=>rfl) us.toList (DenL.of_get (by simp[hs]) (λi x v e1 e2=>hd i x v e1 (by simpa using e2)));exact .tup _ _ _ (by have:=hd2.length; simpa using this.symm) (λi x v e1 e2=>hd2.get i x v e1 (by simpa using e2))
  ·cases hy
 ·split at hy
  ·rename_i y' rd hb;cases hy;have hbor:=YN _ _ _ _ hb rd (λ_ q=>q);exact(hbor GL w0 L g (hp σ) w M2 r cov (λ_ _=>rfl) [u] ⟨hd,trivial⟩).1
  ·cases hy
theorem Xaa{f:FuncId}{xs:List AVal}{v y:AVal}{bs:List ABlk}(h:NCall P GL f xs v bs)(hy:frz bs v=some y):PCall P GL f xs y:=by
 intro w M vs hM hg hx;refine(h w M vs hM hg hx).mono ?_;rintro e w' ⟨u,he,g',hle,r,hd⟩
 let M2:Nat→Option Obj:=λb=>if b<w.heap.size then g'.M b else w'.heap[b]?
 have cov:Cov g' (hp bs) w' M2:=by
  refine⟨λb o e=>?_,λb blk cb o e1 e2 e3 e4 e5=>?_⟩
  ·show (if b<w.heap.size then g'.M b else w'.heap[b]?)=some o;split
   ·exact e
   ·exact r.stable b o e
  ·obtain⟨_,hin,_⟩:=r.own b blk cb e1 e2 e3 e4;show (if cb.blk<w.heap.size then g'.M cb.blk else w'.heap[cb.blk]?)=some o;rcases hin with hin|hin
   ·simp at hin
   ·rw[if_neg (by omega)]; exact e5
 have hd2:=Zcs hy r cov hd;refine⟨u,he,r.keeps,M2,λb o e=>cov.1 b o (hle b o e),λb o e=>?_,λb o e=>?_,hd2⟩
 ·have e':(if b<w.heap.size then g'.M b else w'.heap[b]?)=some o:=e;split at e'
  ·exact r.stable b o e'
  ·exact e'
 ·have e':(if b<w.heap.size then g'.M b else w'.heap[b]?)=some o:=e;split at e'
  ·rcases r.src b o e' with q|q|q
   ·exact .inl q
   ·exact .inr q
   ·simp at q
  ·exact .inr (by omega)
theorem XaC(hP:P.follows .mixedOrders=true){f:FuncId}{np:Nat}{g:GFun}(hg:GOk P GL f np g){xs:List AVal}(hn:xs.length=np){y:AVal}(h:∃v bs,frz bs v=some y∧g (W P GL) xs [] (λv' σ=>v'=v∧σ=bs)):PCall P GL f xs y:=by
 obtain⟨v,bs,h1,h2⟩:=h;exact Xaa (Xbz hP hg hn h2) h1
theorem Ya5{k:MK}{xs:List AVal}{σ σ':List ABlk}{v:AVal}{rd:List Nat}{up:List (Nat×ABlk)}(h:OpSem P GL k xs (hp σ) v rd up)(hu:upL σ up=some σ'):OpRel P GL k xs σ (λv' s=>v'=v∧s=σ'):=by
 intro o os hc w0 L g w a r hx;have:=h o os hc w0 L g (hp σ) w a r hx (λ_ _=>rfl) (λ_ _=>rfl);rw[Yaj _ _ _ hu] at this;generalize (execOp a.eval o).run P w=res at this;cases res with
 |ok nx w'=>
  cases nx with
  |value u=>obtain⟨g',k1,k2,k3⟩:=this; exact⟨g',v,σ',⟨rfl,rfl⟩,k1,k2,k3⟩
  |skip=>obtain⟨g',k1,k2,k3⟩:=this; exact⟨g',σ',⟨k3.symm,rfl⟩,k1,k2⟩
  |enter f args=>
   refine Calls.mono this ?_;rintro e w'' ⟨u,he,g',k1,k2,k3⟩;exact⟨u,he,g',v,σ',⟨rfl,rfl⟩,k1,k2,k3⟩
  |_=>exact this.elim
 |_=>exact this.elim
theorem ZG{k:MK}{xs ys:List AVal}{f:FuncId}(hc:Yu k xs=some (f,ys))(hp':Ym P f=true){σ:List ABlk}{v:AVal}{rd:List Nat}{up:List (Nat×ABlk)}(h:ACall P GL f ys (hp σ) v rd up):OpSem P GL k xs (hp σ) v rd up:=by
 unfold Yu at hc;split at hc
 ·cases hc; exact Zca h
 ·cases hc; exact XbW hp' h
 ·cases hc
theorem Yas{k:MK}{xs ys:List AVal}{f:FuncId}(hc:Yu k xs=some (f,ys))(hp':Ym P f=true){σ σ':List ABlk}{v:AVal}{rd:List Nat}{up:List (Nat×ABlk)}(h:ACall P GL f ys (hp σ) v rd up)(hu:upL σ up=some σ'){K:AVal→List ABlk→Prop}(hK:K v σ'):(W P GL).call k xs σ K:=
 ⟨_,Ya5 (ZG hc hp' h) hu,by rintro _ _ ⟨rfl,rfl⟩; exact hK⟩
theorem Xaw{k:MK}{xs ys:List AVal}{f:FuncId}(hc:Yu k xs=some (f,ys))(hp':Ym P f=true){σ σ':List ABlk}{v:AVal}{rd:List Nat}{up:List (Nat×ABlk)}(h:ACall P GL f ys (hp σ) v rd up)(hu:upL σ up=some σ'){K:AVal→List Nat×List Nat→List ABlk→Prop}(hK:K v (rd,up.map (·.1)) σ'):(W P GL).dcall k xs σ K:=
 ⟨v,rd,up,σ',ZG hc hp' h,hu,hK⟩
theorem QC(hP:P.follows .mixedOrders=true){k:MK}{xs ys:List AVal}{f:FuncId}(hc:Yu k xs=some (f,ys)){np:Nat}{g:GFun}(hg:GOk P GL f np g)(hn:ys.length=np){σ:List ABlk}{K:AVal→List ABlk→Prop}(h:g (W P GL) ys σ K):(W P GL).call k xs σ K:=by
 obtain⟨F,h1,h2,h3⟩:=hg.awp hP (Qco P GL) hn h;exact⟨K,XaN hc hg.plain h1 (hn.trans h2.symm) h3,λ_ _ q=>q⟩
theorem Yd{k:MK}{xs ys:List AVal}{f:FuncId}{v:AVal}(h:PCall P GL f ys v)(hc:Yu k xs=some (f,ys))(hp':Ym P f=true)(hro:roL ys=true){σ:List ABlk}{K:AVal→List ABlk→Prop}(hK:K v σ):(W P GL).call k xs σ K:=
 Yas hc hp' (h.here hro (hp σ)) (Zs σ) hK
theorem Zh{k:MK}{xs ys:List AVal}{f:FuncId}{v:AVal}(h:PCall P GL f ys v)(hc:Yu k xs=some (f,ys))(hp':Ym P f=true)(hro:roL ys=true){σ:List ABlk}{K:AVal→List Nat×List Nat→List ABlk→Prop}(hK:K v ([],[]) σ):(W P GL).dcall k xs σ K:=
 Xaw hc hp' (h.here hro (hp σ)) (Zs σ) hK
theorem Xo{k:MK}{xs ys zs:List AVal}{f:FuncId}{v:AVal}{rd:List Nat}(h:PCall P GL f zs v){σ:List ABlk}(hc:Yu k xs=some (f,ys))(hp':Ym P f=true)(hb:Yr σ 1000 ys=some (zs,rd))(hv:v.flat=true){K:AVal→List ABlk→Prop}(hK:K v σ):(W P GL).call k xs σ K:=
 Yas hc hp' (h.lend (YN _ _ _ _ hb _ (λ_ q=>q)) hv) (Zs σ) hK
theorem Qk{ι:Type}(I:ι→List AVal→List ABlk→Prop)(μ:ι→Nat){F:(List AVal→List ABlk→Prop)→List AVal→List ABlk→Prop}(i0:ι){vs:List AVal}{σ:List ABlk}(h0:I i0 vs σ)
 (round:∀i vs σ again,I i vs σ→(∀j vs' σ',μ j<μ i→I j vs' σ'→again vs' σ')→F again vs σ):(W P GL).loop F vs σ:=by
 have key:∀(m:Nat) (i:ι) (vs:List AVal) (σ:List ABlk),μ i<m→I i vs σ→iterA False m F vs σ:=by
  intro m
  induction m with
  |zero=>intro i vs σ h; omega
  |succ m ih=>
   intro i vs σ h hI;exact round i vs σ _ hI (λj vs' σ' hlt hj=>ih j vs' σ' (by omega) hj)
 exact⟨_,key (μ i0+1) i0 vs σ (by omega) h0⟩
end
section
variable {P:Program} {GL:Globs}
theorem XbF(c:Bool)(a b:Prop):(W P GL).test (.bool c) a b=((c=true→a)∧(c=false→b)):=rfl
end
section
variable {α:Type} (A:Ans α)
theorem Xbg(v:AVal)(rd:List Nat)(K:AVal→α):A.rd (.ok v rd []) K=K v:=rfl
theorem pu_ok(v:AVal)(K:AVal→α):A.pu (.ok v [] []) K=K v:=rfl
theorem Xb3(v:AVal)(rd:List Nat)(up:List (Nat×ABlk))(σ:List ABlk)(K:AVal→List ABlk→α):A.wr (.ok v rd up) σ K=A.opt (upL σ up) (K v):=by
 show (match upL σ up with|some σ'=>K v σ'|none=>A.stop)=_;unfold Ans.opt; cases upL σ up<;>rfl
theorem XcD(v:AVal)(rd:List Nat)(up:List (Nat×ABlk))(σ:List ABlk)(K:AVal→List Nat×List Nat→List ABlk→α):A.dr (.ok v rd up) σ K=A.opt (upL σ up) (K v (rd,up.map (·.1))):=by
 show (match upL σ up with|some σ'=>K v _ σ'|none=>A.stop)=_;unfold Ans.opt; cases upL σ up<;>rfl
theorem Xav{β:Type}(v:β)(K:β→α):A.opt (some v) K=K v:=rfl
theorem Ycs(k:α):A.gd true k=k:=rfl
end
theorem YP{n:Nat}:∀ {a b:List Nat},Yv n (a++b)=true→Yv n a=true∧Yv n b=true
 |[],_,h=>⟨rfl,h⟩
 |x::a,b,h=>by
  simp only[List.cons_append,Yv,Bool.and_eq_true] at h;obtain⟨h1,h2⟩:=YP h.2;exact⟨by simp[Yv,h.1,h1],h2⟩
def tstC{α:Type}(stop:α)(v:AVal)(a b:α):α:=match v with
 |.bool true=>a
 |.bool false=>b
 |_=>stop
abbrev CG:=FuncId→List AVal→List ABlk→Option (AVal×List ABlk)
def Zbm(cg:CG)(f:FuncId)(ys:List AVal)(σ:List ABlk):Option (AVal × List ABlk):=bif Yv σ.length (idsL ys) then (match cg f (renL (ltM σ.length) ys) (XC σ) with
 | some (v,σ')=>(match QR σ.length σ' with
  |some news=>some (v,news)
  | none=>none)
 | none=>none) else none
def YbM(cg:CG)(k:MK)(xs:List AVal)(σ:List ABlk):SRes:=match Yu k xs with
 |none=>.stop
 | some (f,ys)=>bif roL ys then (match cg f ys [] with
   |some (v,bs)=>bif v.ro then .ok v [] [] else .ok (v.ren (Qz σ.length)) [] (Zv σ.length (Qu σ.length bs))
   | none=>.stop)
  else match Zbm cg f ys σ with
  |some (v,news)=>bif v.ro then .ok (v.ren (keepM (idsL ys) σ.length 0)) (idsL ys) [] else .ok (v.ren (keepM (idsL ys) σ.length news.length)) (idsL ys) (Zv σ.length (news.map (ABlk.mapV (AVal.ren (keepM (idsL ys) σ.length news.length)))))
  |none=>match Yr σ 1000 ys with
   | some (zs,rd)=>(match cg f zs [] with
    |some (v,bs)=>bif v.flat&&v.ro then .ok v rd [] else bif v.nosh&&Qa4 bs then .ok (v.ren (Qz σ.length)) rd (Zv σ.length (Qu σ.length bs)) else .stop
    | none=>.stop)
   |none=>.stop
def Cl(much:Nat)(cg:CG):Ans (Option (AVal×List ABlk)) where
 stop:=none
 call k xs σ K:=match Yu k xs with
  |some (f,ys)=>match cg f ys σ with
   |some (v,σ')=>K v σ'
   |none=>none
  |none=>none
 dcall k xs σ K:=match YbM cg k xs σ with
  |.ok v rd up=>match upL σ up with
   |some σ'=>K v (rd,up.map (·.1)) σ'
   |none=>none
  |.stop=>none
 test:=tstC none
 loop F vs σ:=iterA none much F vs σ
section
variable {P:Program} {GL:Globs}
def CGOk(P:Program)(GL:Globs)(cg:CG):Prop:=∀f xs σ v σ',cg f xs σ=some (v,σ')→Ym P f=true∧(∀k ys,Yu k ys=some (f,xs)→OpRel P GL k ys σ (λv' s=>v'=v∧s=σ')) ∧
 (σ=[]→NCall P GL f xs v σ'∧(v.ro=true→PCall P GL f xs v)) ∧
 (roL xs=false→∃F,FnOk P GL f F∧F.np=xs.length∧Awp P GL F.n F.body (frame0 xs) σ (λe ρ s=>(e=.normal∨e=.ret)∧∃v',retV F.rets ρ s=some v'∧v'=v∧s=σ'))
theorem CGOk.ncall{cg:CG}(h:CGOk P GL cg){f:FuncId}{xs:List AVal}{v:AVal}{bs:List ABlk}(hc:cg f xs []=some (v,bs)):NCall P GL f xs v bs:=((h f xs [] v bs hc).2.2.1 rfl).1
theorem CGOk.pcall{cg:CG}(h:CGOk P GL cg){f:FuncId}{xs:List AVal}{v:AVal}{bs:List ABlk}(hc:cg f xs []=some (v,bs))(hv:v.ro=true):PCall P GL f xs v:=((h f xs [] v bs hc).2.2.1 rfl).2 hv
theorem Xbb{f:FuncId}{xs:List AVal}{σ σ':List ABlk}{v:AVal}{F:MFn}(hp':Ym P f=true)(h1:FnOk P GL f F)(h2:F.np=xs.length)(h3:Awp P GL F.n F.body (frame0 xs) σ (λe ρ s=>(e=.normal∨e=.ret)∧∃v',retV F.rets ρ s=some v'∧v'=v∧s=σ')) :
  Ym P f=true∧(∀k ys,Yu k ys=some (f,xs)→OpRel P GL k ys σ (λv' s=>v'=v∧s=σ'))∧(σ=[]→NCall P GL f xs v σ'∧(v.ro=true→PCall P GL f xs v)) ∧
  (roL xs=false→∃F,FnOk P GL f F∧F.np=xs.length∧Awp P GL F.n F.body (frame0 xs) σ (λe ρ s=>(e=.normal∨e=.ret)∧∃v',retV F.rets ρ s=some v'∧v'=v∧s=σ')):=by
 refine⟨hp',λk ys hc=>XaN hc hp' h1 h2.symm h3,λhσ=>?_,λ_=>⟨F,h1,h2,h3⟩⟩;subst hσ;refine⟨Yao h1 h2.symm (h3.mono λe ρ s k=>?_),λhv=>Xap h1 h2.symm hv (h3.mono λe ρ s k=>?_)⟩
 ·obtain⟨k1,v',k2,rfl,rfl⟩:=k;exact⟨k1,k2,rfl⟩
 ·obtain⟨k1,v',k2,rfl,rfl⟩:=k;exact⟨k1,k2⟩
mutual
theorem AVal.ro_ren_ltM {n:Nat}:∀ {x:AVal},Yv n x.ids=true→(x.ren (ltM n)).ro=true→x.ro=true
 |.bptr b j,h,k=>by
  simp only[AVal.ids,Yv,Bool.and_true] at h
  simp[AVal.ren,ltM,h,AVal.ro] at k
 |.ptr b i j,h,k=>by
  simp only[AVal.ids,Yv,Bool.and_true] at h
  simp[AVal.ren,ltM,h,AVal.ro] at k
 |.sl b o l e,h,k=>by
  simp only[AVal.ids,Yv,Bool.and_true] at h
  simp[AVal.ren,ltM,h,AVal.ro] at k
 |.map b,h,k=>by
  simp only[AVal.ids,Yv,Bool.and_true] at h
  simp[AVal.ren,ltM,h,AVal.ro] at k
 |.iter b,h,k=>by
  simp only[AVal.ids,Yv,Bool.and_true] at h
  simp[AVal.ren,ltM,h,AVal.ro] at k
 |.func fn xs ys,h,k=>by
  simp only[AVal.ids] at h
  obtain⟨a,b⟩:=YP h
  simp only[AVal.ren,AVal.ro,Bool.and_eq_true] at k ⊢
  exact⟨XI a k.1,XI b k.2⟩
 |.iface t v,h,k=>AVal.ro_ren_ltM (x:=v) h k
 |.agg cs,h,k=>XI (xs:=cs) h k
 |.tup cs,h,k=>XI (xs:=cs) h k
 |.when cs x,h,k=>AVal.ro_ren_ltM (x:=x) h k
 |.junk,_,_=>rfl
 |.bool _,_,_=>rfl
 |.int _ _,_,_=>rfl
 |.str _,_,_=>rfl
 |.nilp,_,_=>rfl
 |.rptr _ _,_,_=>rfl
 |.nils,_,_=>rfl
 |.cap0,_,_=>rfl
 |.rsl _ _ _ _,_,_=>rfl
 |.rmap _,_,_=>rfl
 |.nilmap,_,_=>rfl
 |.nilf,_,_=>rfl
 |.nili,_,_=>rfl
theorem XI {n:Nat}:∀ {xs:List AVal},Yv n (idsL xs)=true→roL (renL (ltM n) xs)=true→roL xs=true
 |[],_,_=>rfl
 |x::xs,h,k=>by
  simp only[idsL] at h
  obtain⟨a,b⟩:=YP h
  simp only[renL,roL,Bool.and_eq_true] at k ⊢
  exact⟨AVal.ro_ren_ltM a k.1,XI b k.2⟩
end
theorem YaV{n:Nat}{xs:List AVal}(h:Yv n (idsL xs)=true)(k:roL xs=false):roL (renL (ltM n) xs)=false:=by
 cases e:roL (renL (ltM n) xs) with
 |false=>rfl
 |true=>rw[XI h e] at k; cases k
theorem XbM{cg:CG}(h:CGOk P GL cg){k:MK}{xs:List AVal}{σ:List ABlk}{v:AVal}{rd:List Nat}{up:List (Nat×ABlk)}(e:YbM cg k xs σ=.ok v rd up):OpSem P GL k xs (hp σ) v rd up:=by
 unfold YbM at e;split at e
 ·cases e
 ·rename_i f ys hc;have hnew:∀(bs:List ABlk) (i:Nat),i<bs.length→hp σ (σ.length+i)=none:=λbs i _=>by simp[hp]
  replace e:=YS e
  rcases e with ⟨hro,e⟩|⟨hnro,e⟩
  ·split at e
   ·rename_i v' bs hv
    replace e:=YS e
    rcases e with ⟨hvr,e⟩|⟨_,e⟩
    ·cases e; exact ZG hc (h f ys [] _ _ hv).1 ((h.pcall hv hvr).here hro _)
    ·cases e; exact ZG hc (h f ys [] _ _ hv).1 ((h.ncall hv).here hro (hnew bs))
   ·cases e
  ·split at e
   ·rename_i v' news hd;unfold Zbm at hd;obtain⟨hbel,hd⟩:=ZD hd;split at hd
    ·rename_i v2 σ' hc2;split at hd
     ·rename_i news2 hs2;cases hd;obtain⟨hpl,_,_,hF⟩:=h f _ _ _ _ hc2;obtain⟨F,f1,f2,f3⟩:=hF (YaV hbel hnro);have:=Qaq _ _ _ hs2;subst this;have hw:Awp P GL F.n F.body (frame0 (renL (ltM σ.length) ys)) (XC σ) (λe ρ s=>(e=.normal∨e=.ret)∧retV F.rets ρ s=some v'∧s=XC σ++news):=f3.mono λe ρ s k=>by
       obtain⟨k1,v'',k2,rfl,rfl⟩:=k;exact⟨k1,k2,rfl⟩
      have hn:ys.length=F.np:=by rw[f2,QE]
      replace e:=YS e
      rcases e with ⟨_,e⟩|⟨_,e⟩
      ·cases e;exact ZG hc hpl (Xae f1 hn σ (idsL ys) (Yab hbel) (bs:=[]) (.inr rfl) hw)
      ·cases e;exact ZG hc hpl (Xae f1 hn σ (idsL ys) (Yab hbel) (bs:=news) (.inl rfl) hw)
     ·cases hd
    ·cases hd
   split at e
   ·rename_i zs rd' hb;split at e
    ·rename_i v' bs hv
     replace e:=YS e
     rcases e with ⟨hvr,e⟩|⟨_,e⟩
     ·simp only[Bool.and_eq_true] at hvr;cases e;exact ZG hc (h f zs [] _ _ hv).1 ((h.pcall hv hvr.2).lend (YN _ _ _ _ hb _ (λ_ q=>q)) hvr.1)
     ·replace e:=Qj e
      obtain⟨hns,e⟩:=e;simp only[Bool.and_eq_true] at hns;cases e;exact ZG hc (h f zs [] _ _ hv).1 ((h.ncall hv).lend (YN _ _ _ _ hb _ (λ_ q=>q)) hns.1 hns.2 (hnew bs))
    ·cases e
   ·cases e
theorem Cl_ok{cg:CG}(h:CGOk P GL cg)(much:Nat)(r:AVal×List ABlk):AnsOk P GL (Cl much cg) (λo=>o=some r) where
 stop:=λe=>by cases e
 call:=λ{k xs σ K} e=>by
  simp only[Cl] at e;split at e
  ·rename_i f ys hc;split at e
   ·rename_i v σ' hv;obtain⟨_,h1,_⟩:=h f ys σ v σ' hv;refine⟨λv' s=>v'=v∧s=σ',h1 k xs hc,?_⟩;rintro _ _ ⟨rfl,rfl⟩;exact e
   ·cases e
  ·cases e
 dcall:=λ{k xs σ K} e=>by
  simp only[Cl] at e;split at e
  ·rename_i v rd up hv;split at e
   ·rename_i σ' hu;exact⟨v,rd,up,σ',XbM h hv,hu,e⟩
   ·cases e
  ·cases e
 test:=λ{v a b} e=>by
  simp only[Cl,tstC] at e;split at e
  ·exact⟨true,rfl,λ_=>e,(λq=>by cases q)⟩
  ·exact⟨false,rfl,(λq=>by cases q),λ_=>e⟩
  ·cases e
 loop:=λ{F vs σ} e=>⟨much,e⟩
def cgOf(much:Nat)(G:Nat→Option (Nat×GFun)):Nat→CG
 |0,_,_,_=>none
 |d+1,f,xs,σ=>match G f with
  |some (np,g)=>bif Nat.beq xs.length np then g (Cl much (cgOf much G d)) xs σ (λv σ=>some (v,σ)) else none
  |none=>none
theorem XbI(hP:P.follows .mixedOrders=true){much:Nat}{G:Nat→Option (Nat×GFun)}(hG:∀f np g,G f=some (np,g)→GOk P GL f np g):∀d,CGOk P GL (cgOf much G d)
 |0=>λf xs σ v σ' h=>by cases h
 |d+1=>λf xs σ v σ' h=>by
  unfold cgOf at h;split at h
  ·rename_i np g hg;obtain⟨hn,h⟩:=ZD h;have hn':=YNB hn;obtain⟨F,h1,h2,h3⟩:=(hG f np g hg).awp hP (Cl_ok (XbI hP hG d) much (v,σ')) hn' h;refine Xbb (hG f np g hg).plain h1 (h2.trans hn'.symm) (h3.mono λe ρ s k=>?_);obtain⟨k1,v',k2,k3⟩:=k;simp only[Option.some.injEq,Prod.mk.injEq] at k3;exact⟨k1,v',k2,k3.1,k3.2⟩
  ·cases h
end
theorem XM{P:Program}{GL:Globs}(hP:P.follows .mixedOrders=true){much:Nat}{G:Nat→Option (Nat×GFun)}(hG:∀f np g,G f=some (np,g)→GOk P GL f np g)(d:Nat){f:FuncId}{xs:List AVal}{y:AVal}(h:((cgOf much G d f xs []).bind λp=>frz p.2 p.1)=some y):PCall P GL f xs y:=by
 cases hc:cgOf much G d f xs [] with
 |none=>rw[hc] at h; cases h
 |some p=>
  obtain⟨v,bs⟩:=p;rw[hc] at h;exact Xaa ((XbI hP hG d).ncall hc) h
end Go.Ah
end
section
namespace Go.Ah
@[reducible] def h0(v:List AVal):AVal:=hdV v
@[reducible] def h1(v:List AVal):AVal:=hdV (tlV v)
@[reducible] def h2(v:List AVal):AVal:=hdV (tlV (tlV v))
@[reducible] def h3(v:List AVal):AVal:=hdV (tlV (tlV (tlV v)))
@[reducible] def h4(v:List AVal):AVal:=hdV (tlV (tlV (tlV (tlV v))))
@[reducible] def h5(v:List AVal):AVal:=hdV (tlV (tlV (tlV (tlV (tlV v)))))
@[reducible] def h6(v:List AVal):AVal:=hdV (tlV (tlV (tlV (tlV (tlV (tlV v))))))
@[reducible] def h7(v:List AVal):AVal:=hdV (tlV (tlV (tlV (tlV (tlV (tlV (tlV v)))))))
@[reducible] def h8(v:List AVal):AVal:=h7 (tlV v)
@[reducible] def h9(v:List AVal):AVal:=h8 (tlV v)
@[reducible] def h10(v:List AVal):AVal:=h9 (tlV v)
@[reducible] def h11(v:List AVal):AVal:=h10 (tlV v)
@[reducible] def h12(v:List AVal):AVal:=h11 (tlV v)
section
variable {P:Program} {GL:Globs} {f:FuncId} {l:List (Option (List Nat))} {g:GFun}
abbrev GEq(P:Program)(GL:Globs)(np:Nat)(f:FuncId)(l:List (Option (List Nat)))(g:GFun)(xs:List AVal):Prop:=
 ∀(α:Type) (A:Ans α) (σ:List ABlk) (ret:AVal→List ABlk→α),g A xs σ ret=dnFn A ((compD P GL np f l).getD default) xs σ ret
theorem XY{np:Nat}(h:(compD P GL np f l).isSome=true)(hg:∀(xs:List AVal),xs.length=np→GEq P GL np f l g xs):GOk P GL f np g:=by
 cases hD:compD P GL np f l with
 |none=>rw[hD] at h; cases h
 |some D=>
  refine YcG hD (λα A xs σ ret hn=>?_);have:=hg xs hn α A σ ret
  rwa [hD] at this
theorem gok0(h:(compD P GL 0 f l).isSome=true)(hg:GEq P GL 0 f l g []):GOk P GL f 0 g:=XY h λxs hn=>by
 cases xs with
 |nil=>exact hg
 |cons x xs=>simp at hn
theorem gok1(h:(compD P GL 1 f l).isSome=true)(hg:∀x0,GEq P GL 1 f l g [x0]):GOk P GL f 1 g:=XY h λxs hn=>by
 match xs,hn with
 |[x0],_=>exact hg x0
theorem gok2(h:(compD P GL 2 f l).isSome=true)(hg:∀x0 x1,GEq P GL 2 f l g [x0,x1]):GOk P GL f 2 g:=XY h λxs hn=>by
 match xs,hn with
 |[x0,x1],_=>exact hg x0 x1
theorem gok3(h:(compD P GL 3 f l).isSome=true)(hg:∀x0 x1 x2,GEq P GL 3 f l g [x0,x1,x2]):GOk P GL f 3 g:=XY h λxs hn=>by
 match xs,hn with
 |[x0,x1,x2],_=>exact hg x0 x1 x2
theorem gok4(h:(compD P GL 4 f l).isSome=true)(hg:∀x0 x1 x2 x3,GEq P GL 4 f l g [x0,x1,x2,x3]):GOk P GL f 4 g:=XY h λxs hn=>by
 match xs,hn with
 |[x0,x1,x2,x3],_=>exact hg x0 x1 x2 x3
theorem gok5(h:(compD P GL 5 f l).isSome=true)(hg:∀x0 x1 x2 x3 x4,GEq P GL 5 f l g [x0,x1,x2,x3,x4]):GOk P GL f 5 g:=XY h λxs hn=>by
 match xs,hn with
 |[x0,x1,x2,x3,x4],_=>exact hg x0 x1 x2 x3 x4
theorem gok7(h:(compD P GL 7 f l).isSome=true)(hg:∀x0 x1 x2 x3 x4 x5 x6,GEq P GL 7 f l g [x0,x1,x2,x3,x4,x5,x6]):GOk P GL f 7 g:=XY h λxs hn=>by
 match xs,hn with
 |[x0,x1,x2,x3,x4,x5,x6],_=>exact hg x0 x1 x2 x3 x4 x5 x6
end
def row0:List AVal:=(List.range 256).map λi=>AVal.int .u8 (match (Nat.ble 9 i&&Nat.ble i 13)||Nat.beq i 32 with|true=>1|false=>0)
def GL0:Globs:=[(0,row0)]
end Go.Ah
namespace Go.Ah
theorem gq0{P:Program}{GL:Globs}{f:FuncId}{g:GFun}(l:List (Option (List Nat)))(hg:GEq P GL 0 f l g [])(h:(compD P GL 0 f l).isSome=true:=by kernel_rfl):GOk P GL f 0 g:=gok0 h hg
theorem gq1{P:Program}{GL:Globs}{f:FuncId}{g:GFun}(l:List (Option (List Nat)))(hg:∀x0,GEq P GL 1 f l g [x0])(h:(compD P GL 1 f l).isSome=true:=by kernel_rfl):GOk P GL f 1 g:=gok1 h hg
theorem gq2{P:Program}{GL:Globs}{f:FuncId}{g:GFun}(l:List (Option (List Nat)))(hg:∀x0 x1,GEq P GL 2 f l g [x0,x1])(h:(compD P GL 2 f l).isSome=true:=by kernel_rfl):GOk P GL f 2 g:=gok2 h hg
theorem gq3{P:Program}{GL:Globs}{f:FuncId}{g:GFun}(l:List (Option (List Nat)))(hg:∀x0 x1 x2,GEq P GL 3 f l g [x0,x1,x2])(h:(compD P GL 3 f l).isSome=true:=by kernel_rfl):GOk P GL f 3 g:=gok3 h hg
theorem gq4{P:Program}{GL:Globs}{f:FuncId}{g:GFun}(l:List (Option (List Nat)))(hg:∀x0 x1 x2 x3,GEq P GL 4 f l g [x0,x1,x2,x3])(h:(compD P GL 4 f l).isSome=true:=by kernel_rfl):GOk P GL f 4 g:=gok4 h hg
theorem gq5{P:Program}{GL:Globs}{f:FuncId}{g:GFun}(l:List (Option (List Nat)))(hg:∀x0 x1 x2 x3 x4,GEq P GL 5 f l g [x0,x1,x2,x3,x4])(h:(compD P GL 5 f l).isSome=true:=by kernel_rfl):GOk P GL f 5 g:=gok5 h hg
theorem gq7{P:Program}{GL:Globs}{f:FuncId}{g:GFun}(l:List (Option (List Nat)))(hg:∀x0 x1 x2 x3 x4 x5 x6,GEq P GL 7 f l g [x0,x1,x2,x3,x4,x5,x6])(h:(compD P GL 7 f l).isSome=true:=by kernel_rfl):GOk P GL f 7 g:=gok7 h hg
abbrev jv(n:Int):AVal:=.int .i64 n
abbrev Qg:=Xc false 1
@[simp] abbrev Ans.gof{α:Type}(A:Ans α)(c:AVal)(r:SRes)(K:AVal→α):α:=A.gr c false (λk=>A.rd r k) K
@[simp] abbrev Ans.got{α:Type}(A:Ans α)(c:AVal)(r:SRes)(K:AVal→α):α:=A.gr c true (λk=>A.rd r k) K
@[simp] abbrev Ans.a{α:Type}(A:Ans α)(x:AVal)(σ:List ABlk)(K:AVal→α):α:=A.rd (Xc false 1 [x] σ) K
@[simp] abbrev Ans.c{α:Type}(A:Ans α)(x y z:AVal)(σ:List ABlk)(K:AVal→α):α:=A.rd (Zn [x,y,z] σ) K
@[simp] abbrev Ans.b{α:Type}(A:Ans α)(o:BinOp)(x y:AVal)(σ:List ABlk)(K:AVal→α):α:=A.rd (Yi o false [x,y] σ) K
@[simp] abbrev Ans.r{α:Type}(A:Ans α)(F:List AVal→List ABlk→SRes)(x:AVal)(σ:List ABlk)(K:AVal→α):α:=A.rd (F [x] σ) K
@[simp] abbrev Ans.s{α:Type}(A:Ans α)(F:List AVal→List ABlk→SRes)(x y:AVal)(σ:List ABlk)(K:AVal→α):α:=A.rd (F [x,y] σ) K
@[simp] abbrev Ans.fa{α:Type}(A:Ans α)(c:AVal)(x:AVal)(σ:List ABlk)(K:AVal→α):α:=A.gof c (Xc false 1 [x] σ) K
@[simp] abbrev Ans.fc{α:Type}(A:Ans α)(c:AVal)(x y z:AVal)(σ:List ABlk)(K:AVal→α):α:=A.gof c (Zn [x,y,z] σ) K
@[simp] abbrev Ans.fb{α:Type}(A:Ans α)(c:AVal)(o:BinOp)(x y:AVal)(σ:List ABlk)(K:AVal→α):α:=A.gof c (Yi o false [x,y] σ) K
@[simp] abbrev Ans.fr{α:Type}(A:Ans α)(c:AVal)(F:List AVal→List ABlk→SRes)(x:AVal)(σ:List ABlk)(K:AVal→α):α:=A.gof c (F [x] σ) K
@[simp] abbrev Ans.fs{α:Type}(A:Ans α)(c:AVal)(F:List AVal→List ABlk→SRes)(x y:AVal)(σ:List ABlk)(K:AVal→α):α:=A.gof c (F [x,y] σ) K
@[simp] abbrev Ans.ta{α:Type}(A:Ans α)(c:AVal)(x:AVal)(σ:List ABlk)(K:AVal→α):α:=A.got c (Xc false 1 [x] σ) K
@[simp] abbrev Ans.tc{α:Type}(A:Ans α)(c:AVal)(x y z:AVal)(σ:List ABlk)(K:AVal→α):α:=A.got c (Zn [x,y,z] σ) K
@[simp] abbrev Ans.tb{α:Type}(A:Ans α)(c:AVal)(o:BinOp)(x y:AVal)(σ:List ABlk)(K:AVal→α):α:=A.got c (Yi o false [x,y] σ) K
@[simp] abbrev Ans.tr{α:Type}(A:Ans α)(c:AVal)(F:List AVal→List ABlk→SRes)(x:AVal)(σ:List ABlk)(K:AVal→α):α:=A.got c (F [x] σ) K
@[simp] abbrev Ans.ts{α:Type}(A:Ans α)(c:AVal)(F:List AVal→List ABlk→SRes)(x y:AVal)(σ:List ABlk)(K:AVal→α):α:=A.got c (F [x,y] σ) K
@[simp] abbrev Ans.w1{α:Type}(A:Ans α)(F:List AVal→List ABlk→SRes)(x:AVal)(σ:List ABlk)(K:AVal→List ABlk→α):α:=A.wr (F [x] σ) σ K
@[simp] abbrev Ans.ws{α:Type}(A:Ans α)(F:List AVal→List ABlk→SRes)(x y:AVal)(σ:List ABlk)(K:AVal→List ABlk→α):α:=A.wr (F [x,y] σ) σ K
@[simp] abbrev Ans.k{α:Type}(A:Ans α)(n:FuncId)(xs:List AVal)(σ:List ABlk)(K:AVal→List ABlk→α):α:=A.call (.call n) xs σ K
abbrev zq0:List AVal:=[(.int .i64 0),(.int .i64 0),(.int .i8 0),(.bool false),(.int .i8 0),.nils,(.int .i64 0),(.int .i64 0),(.int .i64 0),(.int .i64 0),.nils,.nils,.nils,.nils,.nils,(.int .i64 0),(.int .i64 0),(.int .i64 0),.nils,.nils,.nils,.nils,.nils]
abbrev zq1:List AVal:=[(.int .i8 0),(.int .i64 0),(.int .i64 0),(.int .i64 0),(.int .i64 0),(.int .i64 0),.nils]
abbrev zq2:List AVal:=[(.int .i8 0),(.int .i64 0),(.int .i8 0),.nils]
abbrev zq3:List AVal:=[(.int .i64 0),(.int .i64 0),(.int .i64 0),(.bool false)]
abbrev zq4:List AVal:=[(.int .i64 0),(.int .i64 0),(.int .i64 0),.nils,.nils,.nils,.nils,.nils]
abbrev zq5:List AVal:=[(.int .i8 0),(.int .i64 0),(.int .i8 0),.nils,(.int .i8 0),(.int .i64 0),(.int .i8 0),.nils]
abbrev zq6:List AVal:=[(.int .i64 0),(.int .i64 0),(.bool false)]
abbrev zq7:List AVal:=[(.int .i8 0),(.int .i8 0),(.int .i8 0),(.int .i8 0)]
end Go.Ah
end
section
namespace Go.Ah
section
variable (σ:List ABlk)
attribute [simp] XbF Xbg pu_ok Xb3 XcD Xav Ycs hdV tlV
@[simp] theorem W_stop'(P:Program)(GL:Globs):(W P GL).stop=False:=rfl
@[simp] theorem ZcN{α:Type}(f:(List AVal→List ABlk→α)→α)(k:List AVal→List ABlk→α):joinK f k=f k:=rfl
@[simp] theorem gx_bool{α:Type}(A:Ans α)(b w:Bool)(r:α)(s:List (Bool×Bool)→α):A.gx (.bool b) w r s=A.test (.bool b) (bif w then r else s [(true,w)]) (bif w then s [(false,w)] else r):=rfl
@[simp] theorem gr_eq{α:Type}(A:Ans α)(c:AVal)(w:Bool)(r:(AVal→α)→α)(K:AVal→α):A.gr c w r K=A.gx c w (r K) (λcs=>K (udf cs)):=rfl
@[simp] theorem gw_eq{α:Type}(A:Ans α)(c:AVal)(w:Bool)(r:(AVal→List ABlk→α)→α)(σ:List ABlk)(K:AVal→List ABlk→α):A.gw c w r σ K=A.gx c w (r K) (λcs=>K (udf cs) σ):=rfl
@[simp] theorem gl_eq{α:Type}(A:Ans α)(c:AVal)(w:Bool)(r:(AVal→List Nat×List Nat→List ABlk→α)→α)(σ:List ABlk)(K:AVal→List Nat×List Nat→List ABlk→α):A.gl c w r σ K=A.gx c w (r K) (λcs=>K (udf cs) ([],[]) σ):=rfl
@[simp] theorem gx_when{α:Type}(A:Ans α)(cs:List (Bool×Bool))(q w:Bool)(r:α)(s:List (Bool×Bool)→α):A.gx (.when cs (.bool q)) w r s=match Q9.holdNot cs with
  |true=>s (cs++[(q,w)])
  |false=>A.stop:=rfl
attribute [simp] Q9.holdNot
@[simp] theorem e_mv(x:AVal):Qh [x] σ=.ok x [] []:=rfl
@[simp] theorem e_pick(b:Bool)(x y:AVal):Zn [.bool b,x,y] σ=.ok (bif b then x else y) [] []:=by cases b<;>rfl
@[simp] theorem Xh(e n:Bool)(s:Nat)(rows:List (List AVal)):Qe [.rsl e n s rows] σ=.ok (.int .i64 rows.length) [] []:=rfl
@[simp] theorem Ycr:Qe [.nils] σ=.ok (.int .i64 0) [] []:=rfl
@[simp] theorem Zcr:Qe [.cap0] σ=.ok (.int .i64 0) [] []:=rfl
@[simp] theorem YcE(b o n:Nat)(e:Bool):Qe [.sl b o n e] σ=.ok (.int .i64 n) [] []:=rfl
@[simp] theorem QcM(s:List UInt8):Zq [.str s] σ=.ok (.int .i64 s.length) [] []:=rfl
@[simp] theorem e_lenA(n:Nat)(x:AVal):XbV n [x] σ=.ok (.int .i64 n) [] []:=rfl
@[simp] theorem QcG(k:IntKind):ikEq k k=true:=by cases k<;>rfl
section
variable (ib:Bool) (k:IntKind) (a b:Int)
@[simp] theorem Zk:Yi .add ib [.int k a,.int k b] σ=.ok (.int k (k.wrap (a+b))) [] []:=by simp[Yi,binI]
@[simp] theorem e_sub:Yi .sub ib [.int k a,.int k b] σ=.ok (.int k (k.wrap (a-b))) [] []:=by simp[Yi,binI]
@[simp] theorem Yf:Yi .eql ib [.int k a,.int k b] σ=.ok (.bool (decide (a=b))) [] []:=by
 simp[Yi,binI]; exact Bool.eq_iff_iff.2 (by simp)
@[simp] theorem Qbd:Yi .neq ib [.int k a,.int k b] σ=.ok (.bool (decide (a≠b))) [] []:=by
 simp[Yi,binI]; exact Bool.eq_iff_iff.2 (by simp)
@[simp] theorem Q2:Yi .lss ib [.int k a,.int k b] σ=.ok (.bool (decide (a<b))) [] []:=by simp[Yi,binI]
@[simp] theorem Zb6:Yi .leq ib [.int k a,.int k b] σ=.ok (.bool (decide (a≤b))) [] []:=by simp[Yi,binI]
@[simp] theorem X2:Yi .gtr ib [.int k a,.int k b] σ=.ok (.bool (decide (b<a))) [] []:=by simp[Yi,binI]
@[simp] theorem XaG:Yi .geq ib [.int k a,.int k b] σ=.ok (.bool (decide (b≤a))) [] []:=by simp[Yi,binI]
end
@[simp] theorem Zf(ib:Bool)(a b:List UInt8):Yi .eql ib [.str a,.str b] σ=.ok (.bool (a==b)) [] []:=rfl
@[simp] theorem e_neqS(ib:Bool)(a b:List UInt8):Yi .neq ib [.str a,.str b] σ=.ok (.bool (!(a==b))) [] []:=rfl
@[simp] theorem e_eqlB(a b:Bool):Yi .eql true [.bool a,.bool b] σ=.ok (.bool (a==b)) [] []:=rfl
@[simp] theorem QcE(a b:Bool):Yi .neq true [.bool a,.bool b] σ=.ok (.bool (!(a==b))) [] []:=rfl
@[simp] theorem e_not(b:Bool):Qo .not [.bool b] σ=.ok (.bool (!b)) [] []:=rfl
@[simp] theorem e_neg(k:IntKind)(n:Int):Qo .neg [.int k n] σ=.ok (.int k (k.wrap (0-n))) [] []:=rfl
@[simp] theorem Zcl(k k':IntKind)(n:Int):Qaa k [.int k' n] σ=.ok (.int k (k.wrap n)) [] []:=rfl
@[simp] theorem XcE(t:TypeId)(x:AVal):Yn t [x] σ=.ok (.iface t x) [] []:=rfl
@[simp] theorem Zaa(k k':IntKind)(a b:Int):XR [.int k a,.int k' b] σ=.ok (.int k (min a b)) [] []:=by
 simp only[XR]; congr 2; omega
@[simp] theorem Ycl(k k':IntKind)(a b:Int):Yaq [.int k a,.int k' b] σ=.ok (.int k (max a b)) [] []:=by
 simp only[Yaq]; congr 2; omega
@[simp] theorem e_nil_b(b j:Nat):Qa [.bptr b j] σ=.ok (.bptr b j) [] []:=rfl
@[simp] theorem e_nil_p(b i j:Nat):Qa [.ptr b i j] σ=.ok (.ptr b i j) [] []:=rfl
@[simp] theorem e_nil_r(row:List AVal)(j:Nat):Qa [.rptr row j] σ=.ok (.rptr row j) [] []:=rfl
@[simp] theorem e_nil_f(f:FuncId)(a b:List AVal):Qa [.func (.func f) a b] σ=.ok (.func (.func f) a b) [] []:=rfl
@[simp] theorem e_fa_b(o b j:Nat):Ya o [.bptr b j] σ=.ok (.bptr b (j+o)) [] []:=rfl
@[simp] theorem e_fa_p(o b i j:Nat):Ya o [.ptr b i j] σ=.ok (.ptr b i (j+o)) [] []:=rfl
@[simp] theorem e_fa_r(o:Nat)(row:List AVal)(j:Nat):Ya o [.rptr row j] σ=.ok (.rptr row (j+o)) [] []:=rfl
@[simp] theorem e_field(agg:Bool)(o n:Nat)(cs:List AVal):XaD agg o n [.agg cs] σ=(match partA agg o n cs with
   |some v=>.ok v [] []
   | none=>.stop):=rfl
attribute [simp] partA takeN dropN nth
@[simp] theorem QcD(i:Nat)(vs:List AVal):Qd i [.tup vs] σ=(match nth vs i with
   |some v=>.ok v [] []
   | none=>.stop):=rfl
@[simp] theorem YcM(len esz b j:Nat)(k:IntKind)(i:Nat):Zg len esz [.bptr b j,.int k (@OfNat.ofNat Int i _)] σ=bif Nat.blt i len then .ok (.bptr b (j+i*esz)) [] [] else .stop:=rfl
@[simp] theorem XcM(len esz:Nat)(row:List AVal)(j:Nat)(k:IntKind)(i:Nat):Zg len esz [.rptr row j,.int k (@OfNat.ofNat Int i _)] σ=bif Nat.blt i len then .ok (.rptr row (j+i*esz)) [] [] else .stop:=rfl
theorem e_ixS(e n:Bool)(s:Nat)(rows:List (List AVal))(k:IntKind)(i:Nat)(row:List AVal)(h:rows[i]?=some row):Yc s [.rsl e n s rows,.int k (i:Int)] σ=.ok (.rptr row 0) [] []:=by
 show (bif Nat.beq s s then (match nth rows i with
   |some row=>SRes.ok (.rptr row 0) [] []
   | none=>.stop) else .stop)=_
 rw[Nat.beq_refl,Y1,h]; rfl
theorem Yo{α:Type}(f:α→List AVal)(e n:Bool)(s:Nat)(l:List α)(k:IntKind)(i:Nat)(h:i<l.length):Yc s [.rsl e n s (l.map f),.int k (i:Int)] σ=.ok (.rptr (f l[i]) 0) [] []:=
 e_ixS σ e n s _ k i _ (by simp[h])
theorem ZcE(b o len:Nat)(ex:Bool)(s:Nat)(rows:List (List AVal))(k:IntKind)(i:Nat)(h:i<len)(hb:hget σ b=.rows s rows):Yc s [.sl b o len ex,.int k (i:Int)] σ=.ok (.ptr b (o+i) 0) [b] []:=by
 show (bif Nat.blt i len then (match hget σ b with
   |.rows s' _=>bif Nat.beq s' s then SRes.ok (.ptr b (o+i) 0) [b] [] else .stop
   | _=>.stop) else .stop)=_
 rw[show Nat.blt i len=true from Nat.ble_eq_true_of_le h,hb];simp
theorem QbN(s:List UInt8)(k:IntKind)(i:Nat)(h:i<s.length):Zy [.str s,.int k (i:Int)] σ=.ok (.int .u8 s[i].toNat) [] []:=by
 show (match nth s i with
   |some c=>SRes.ok (.int .u8 c.toNat) [] []
   | none=>.stop)=_
 rw[Y1,List.getElem?_eq_getElem h]
@[simp] theorem YaR(agg:Bool)(n:Nat)(row:List AVal)(j:Nat):Xc agg n [.rptr row j] σ=(match partA agg j n row with
   |some v=>.ok v [] []
   | none=>.stop):=rfl
@[simp] theorem Yb6(agg:Bool)(n b j:Nat):Xc agg n [.bptr b j] σ=(match hget σ b with
   |.box row=>match partA agg j n row with
    |some v=>.ok v [b] []
    |none=>.stop
   | _=>.stop):=rfl
attribute [simp] hget upL ZE splice cellsOf AVal.cell
@[simp] theorem Xcq(z:List AVal):Xe z [] σ=.ok (.bptr σ.length 0) [] [(σ.length,.box z)]:=rfl
@[simp] theorem e_box(x:AVal):Xk [x] σ=(match cellsOf x with
   |some cs=>.ok (.bptr σ.length 0) [] [(σ.length,.box cs)]
   | none=>.stop):=rfl
@[simp] theorem YbO(n b j:Nat)(x:AVal):Xb n [.bptr b j,x] σ=(match hget σ b with
   |.box row=>match cellsOf x with
    | some cs=>bif Nat.beq cs.length n then (match splice j cs row with
     |some row'=>.ok .junk [] [(b,.box row')]
     | none=>.stop) else .stop
    |none=>.stop
   | _=>.stop):=rfl
end
end Go.Ah
end
section
namespace Go.Ah
structure RenOk (σ σ2:List ABlk) (m:Nat→Option Nat):Prop where
 inj:∀b b' k,m b=some k→m b'=some k→b=b'
 img:∀b k,m b=some k→∃blk,σ[b]?=some blk∧σ2[k]?=some (blk.mapV (AVal.ren m))
 cov:∀k,k<σ2.length→∃b,m b=some k
theorem Rep.renum{GL:Globs}{w0:World}{L:Ln}{g:Gm}{w:World}{σ σ2:List ABlk}{m:Nat→Option Nat}(r:Rep GL w0 L g (hp σ) w)(ok:RenOk σ σ2 m) :
  ∃c2,(∀x v,g.den x v→Den g.M c2 (x.ren m) v)∧Rep GL w0 L ⟨g.M,c2⟩ (hp σ2) w:=by
 classical
 let c2:Own:=λk=>if h:∃b,m b=some k then g.c (Classical.choose h) else none
 have hc2:∀b k,m b=some k→c2 k=g.c b:=by
  intro b k e;have h:∃b,m b=some k:=⟨b,e⟩;show (if h:∃b,m b=some k then g.c (Classical.choose h) else none)=_;rw[dif_pos h,ok.inj _ _ _ (Classical.choose_spec h) e]
 have hden:∀x v,g.den x v→Den g.M c2 (x.ren m) v:=λx v d=>Den.ren d λb b' cb e1 e2=>by rw[hc2 b b' e1]; exact e2
 have back:∀k blk,hp σ2 k=some blk→∃b blk0,m b=some k∧hp σ b=some blk0∧blk=blk0.mapV (AVal.ren m):=by
  intro k blk e;have hk:k<σ2.length:=(YLG e).1;obtain⟨b,hb⟩:=ok.cov k hk;obtain⟨blk0,e1,e2⟩:=ok.img b k hb;refine⟨b,blk0,hb,e1,?_⟩;have e':σ2[k]?=some blk:=e;rw[e2] at e';exact(Option.some.inj e').symm
 refine⟨c2,hden,?_⟩;exact {
  keeps:=r.keeps
  stable:=r.stable
  src:=r.src
  globs:=r.globs
  empt:=λk e=>by
   show (if h:∃b,m b=some k then g.c (Classical.choose h) else none)=none;rw[dif_neg];rintro⟨b,hb⟩;obtain⟨blk0,e1,e2⟩:=ok.img b k hb;have e':σ2[k]?=none:=e;rw[e2] at e'; cases e'
  dom:=λk blk e=>by
   obtain⟨b,blk0,h1,h2,_⟩:=back k blk e;obtain⟨cb,hcb⟩:=r.dom b blk0 h2;exact⟨cb,by show c2 k=_; rw[hc2 b k h1]; exact hcb⟩
  own:=λk blk cb e hl ec hv=>by
   obtain⟨b,blk0,h1,h2,rfl⟩:=back k blk e;rw[ABlk.mapV_live] at hl;have ec':g.c b=some cb:=by rw[←hc2 b k h1]; exact ec
   obtain⟨q1,q2,o,q3,q4⟩:=r.own b blk0 cb h2 hl ec' hv;exact⟨q1,q2,o,q3,q4.mapV (p:=λ_=>True) (λx v _ d=>hden x v d) (ABlk.all_true _)⟩
  hollow:=λk blk cb e hl ec hv=>by
   obtain⟨b,blk0,h1,h2,rfl⟩:=back k blk e;rw[ABlk.mapV_live] at hl;have ec':g.c b=some cb:=by rw[←hc2 b k h1]; exact ec
   have:=r.hollow b blk0 cb h2 hl ec' hv;subst this;rfl
  inj:=λk k' x x' cb1 cb2 e1 e2 l1 l2 c1 c2' v1 v2 hblk=>by
   obtain⟨b,y,h1,h2,rfl⟩:=back k x e1;obtain⟨b',y',h1',h2',rfl⟩:=back k' x' e2;rw[ABlk.mapV_live] at l1 l2;have ec1:g.c b=some cb1:=by rw[←hc2 b k h1]; exact c1
   have ec2:g.c b'=some cb2:=by rw[←hc2 b' k' h1']; exact c2'
   have:=r.inj b b' y y' cb1 cb2 h2 h2' l1 l2 ec1 ec2 v1 v2 hblk;subst this;rw[h1] at h1';exact Option.some.inj h1' }
def Tidy(σ:List ABlk)(v:AVal)(σ2:List ABlk)(v2:AVal):Prop:=
 ∀(GL:Globs) (w0:World) (L:Ln) (g:Gm) (w:World),Rep GL w0 L g (hp σ) w→∀u,g.den v u→∃c2,Rep GL w0 L ⟨g.M,c2⟩ (hp σ2) w∧Den g.M c2 v2 u
theorem Tidy.refl(σ:List ABlk)(v:AVal):Tidy σ v σ v:=λ_ _ _ g _ r _ d=>⟨g.c,r,d⟩
theorem Tidy.trans{σ σ2 σ3:List ABlk}{v v2 v3:AVal}(h:Tidy σ v σ2 v2)(k:Tidy σ2 v2 σ3 v3):Tidy σ v σ3 v3:=by
 intro GL w0 L g w r u d;obtain⟨c2,r2,d2⟩:=h GL w0 L g w r u d;obtain⟨c3,r3,d3⟩:=k GL w0 L ⟨g.M,c2⟩ w r2 u d2;exact⟨c3,r3,d3⟩
theorem Tidy.ren{σ σ2:List ABlk}{m:Nat→Option Nat}(ok:RenOk σ σ2 m)(v:AVal):Tidy σ v σ2 (v.ren m):=by
 intro GL w0 L g w r u d;obtain⟨c2,h1,h2⟩:=r.renum ok;exact⟨c2,h2,h1 v u d⟩
theorem Xcs(σ:List ABlk)(b:ABlk):hup (hp σ) σ.length b=hp (σ++[b]):=by
 funext n
 simp only[hup,hp];by_cases h:n=σ.length
 ·subst h; simp
 ·rw[if_neg h];by_cases h2:n<σ.length
  ·rw[List.getElem?_append_left h2]
  ·rw[List.getElem?_eq_none (by omega),List.getElem?_eq_none (by simp; omega)]
theorem Tidy.ghost{σ:List ABlk}{v:AVal}(sz:Nat)(h:v=.nils∨v=.cap0):Tidy σ v (σ++[.rows sz []]) (.sl σ.length 0 0 false):=by
 intro GL w0 L g w r u d;have r2:=r.ghost (Xah σ) sz;rw[Xcs] at r2;have hs:∃a,u=.slice a 0 0:=by
  rcases h with rfl|rfl
  ·cases d; exact⟨_,rfl⟩
  ·cases d; exact⟨_,rfl⟩
 obtain⟨a,rfl⟩:=hs;exact⟨_,r2,.slv _ _ _ _ _ (Xs _ _ _) rfl⟩
theorem Tidy.one{σ:List ABlk}{b:Nat}{blk:ABlk}(hb:σ[b]?=some blk)(m:Nat→Option Nat)(hm:∀n,m n=if n=b then some 0 else none)(v:AVal):Tidy σ v [blk.mapV (AVal.ren m)] (v.ren m):=by
 have key:∀x k,m x=some k→x=b∧k=0:=by
  intro x k e;rw[hm] at e;split at e
  ·cases e; exact⟨by assumption,rfl⟩
  ·cases e
 refine Tidy.ren ⟨λx y k e1 e2=>?_,λx k e=>?_,λk hk=>⟨b,?_⟩⟩ v
 ·rw[(key x k e1).1,(key y k e2).1]
 ·obtain⟨rfl,rfl⟩:=key x k e;exact⟨blk,hb,by simp⟩
 ·simp at hk; subst hk; rw[hm]; simp
section
variable {P:Program} {GL:Globs}
theorem QaT{f:FuncId}{F:MFn}(ok:FnOk P GL f F){xs:List AVal}(hn:xs.length=F.np){v:AVal}{bs:List ABlk}
 (h:Awp P GL F.n F.body (frame0 xs) [] (λe ρ σ=>(e=.normal∨e=.ret)∧∃v',retV F.rets ρ σ=some v'∧Tidy σ v' bs v)):NCall P GL f xs v bs:=by
 intro w M vs hM hg hx;have r0:=Rep.start (GL:=GL) w M hM hg;have hh:hp []=noHp:=by funext b; simp[hp,noHp]
 rw[←hh] at r0;refine(Yap ok hn h w ⟨[],M⟩ ⟨M,noOwn⟩ w vs r0 hx).mono ?_;rintro e w' ⟨u,he,g',x,σ',hR,hle,r,d⟩;obtain⟨c2,r2,d2⟩:=hR GL w ⟨[],M⟩ g' w' r u d;exact⟨u,he,⟨g'.M,c2⟩,hle.m,r2,d2⟩
theorem Qv(hP:P.follows .mixedOrders=true){f:FuncId}{np:Nat}{g:GFun}(hg:GOk P GL f np g){xs:List AVal}(hn:xs.length=np){v:AVal}{bs:List ABlk}(h:g (W P GL) xs [] (λv' σ=>Tidy σ v' bs v)):NCall P GL f xs v bs:=by
 obtain⟨F,h1,h2,h3⟩:=hg.awp hP (Qco P GL) hn h;exact QaT h1 (hn.trans h2.symm) h3
theorem Zae:∀(bs σ:List ABlk),upL σ (Zv σ.length bs)=some (σ++bs)
 |[],σ=>by simp[Zv,upL]
 |b::bs,σ=>by
  have:=Zae bs (σ++[b]);rw[List.length_append,List.length_singleton] at this;simp only[Zv,upL,Nat.beq_refl,cond_true];rw[this]; simp
def QY(n:Nat):List ABlk→List Nat
 |[]=>[]
 |_::bs=>n::QY (n+1) bs
theorem XaF:∀(bs:List ABlk) (n:Nat),(Zv n bs).map (·.1)=QY n bs
 |[],_=>rfl
 |b::bs,n=>by simp[Zv,QY,XaF bs (n+1)]
theorem Xas{k:MK}{xs ys:List AVal}{f:FuncId}{v:AVal}{bs:List ABlk}(h:NCall P GL f ys v bs)(hc:Yu k xs=some (f,ys))(hp':Ym P f=true)(hro:roL ys=true){σ:List ABlk}{K:AVal→List ABlk→Prop}(hK:K (v.ren (Qz σ.length)) (σ++Qu σ.length bs)):(W P GL).call k xs σ K:=
 Yas hc hp' (h.here hro (λi _=>by simp[hp])) (Zae _ σ) hK
theorem Yae{k:MK}{xs ys:List AVal}{f:FuncId}{v:AVal}{bs:List ABlk}(h:NCall P GL f ys v bs)(hc:Yu k xs=some (f,ys))(hp':Ym P f=true)(hro:roL ys=true){σ:List ABlk}{K:AVal→List Nat×List Nat→List ABlk→Prop}(hK:K (v.ren (Qz σ.length)) ([],QY σ.length (Qu σ.length bs)) (σ++Qu σ.length bs)):(W P GL).dcall k xs σ K:=
 Xaw hc hp' (h.here hro (λi _=>by simp[hp])) (Zae _ σ) (by rw[XaF]; exact hK)
end
attribute [simp] AVal.ren renL Qz Qu ABlk.mapV QY AVal.ro roL AVal.flat flatL
end Go.Ah
end
section
namespace Go.Ah
theorem QL(σ:List ABlk)(x:ABlk):upL σ [(σ.length,x)]=some (σ++[x]):=by simp[upL]
theorem XT{σ:List ABlk}{b:Nat}{x:ABlk}(h:σ[b]?=some x):hget σ b=x:=by
 induction σ generalizing b with
 |nil=>simp at h
 |cons y σ ih=>cases b with
  |zero=>simpa[hget] using h
  |succ b=>simp at h; simpa[hget] using ih h
theorem ZT{σ:List ABlk}{b:Nat}{x:ABlk}(h:hget σ b=x)(hx:x≠.dead):σ[b]?=some x:=Zac h hx
theorem Yl(σ:List ABlk)(x:ABlk):hget (σ++[x]) σ.length=x:=XT (by simp)
theorem Qm{σ:List ABlk}{b:Nat}{y:ABlk}(x:List ABlk)(h:hget σ b=y)(hy:y≠.dead):hget (σ++x) b=y:=by
 have:=ZT h hy;exact XT (by rw[List.getElem?_append_left (YLG this).1]; exact this)
theorem Qy{σ:List ABlk}{b:Nat}{y:ABlk}(h:hget σ b=y)(hy:y≠.dead):b<σ.length:=(YLG (ZT h hy)).1
theorem QaE{α:Type}{b:Nat}{x:α}:∀ {σ:List α},b<σ.length→ZE b x σ=some (σ.set b x):=by
 intro σ h
 induction σ generalizing b with
 |nil=>simp at h
 |cons y σ ih=>cases b with
  |zero=>simp[ZE]
  |succ b=>simp at h; simp[ZE,ih h]
theorem Ybu{σ:List ABlk}{b:Nat}(x y:ABlk)(h:b<σ.length):upL σ ([(b,x)]++[(σ.length,y)])=some (σ.set b x++[y]):=by
 have hb:Nat.beq b σ.length=false:=by
  cases e:Nat.beq b σ.length with
  |false=>rfl
  |true=>have:=YNB e; omega
 simp[upL,hb,QaE h]
theorem Yz{σ:List ABlk}{b:Nat}(x:ABlk)(h:b<σ.length):upL σ [(b,x)]=some (σ.set b x):=by
 have hb:Nat.beq b σ.length=false:=by
  cases e:Nat.beq b σ.length with
  |false=>rfl
  |true=>have:=YNB e; omega
 simp[upL,hb,QaE h]
theorem Xv{σ:List ABlk}{b c:Nat}{x y:ABlk}(h:hget σ b=y)(hy:y≠.dead)(hc:c≠b):hget (σ.set c x) b=y:=by
 have:=ZT h hy;exact XT (by rw[List.getElem?_set_ne hc]; exact this)
section
variable {α:Type} (A:Ans α)
theorem Z2(n:Nat)(σ:List ABlk)(x:AVal)(z:List AVal)(cs:List AVal)(hx:fill z [(0,n)] [x]=some cs)(hc:chunk n 1 cs=some [cs])(K:AVal→List ABlk→α) :
  A.wr (Xi n 1 z [(0,n)] [x] σ) σ K=K (.sl σ.length 0 1 true) (σ++[.rows n [cs]]):=by
 simp only[Xi,hx,hc,Xb3,QL,Xav]
theorem ZU{row:List AVal}(h:row.all AVal.cell=true):Zz [row]=true:=by simp[Zz,h]
theorem XbL(row:List AVal):cut 0 (0+1) [row]=[row]:=rfl
theorem QaP(n by_:Nat)(σ:List ABlk)(row:List AVal)(hr:row.all AVal.cell=true)(hroom:194*by_≤2 ^ 48)(K:AVal→List ABlk→α) :
  A.wr (Qi n by_ [.nils,.sl σ.length 0 1 true] (σ++[.rows n [row]])) (σ++[.rows n [row]]) K=K (.sl (σ.length+1) 0 1 false) (σ++[.rows n [row]]++[.rows n [row]]):=by
 have h1:ZF n (σ++[.rows n [row]]) (.sl σ.length 0 1 true)=some ([row],[σ.length]):=by
  simp[ZF,Yl,XbL];rfl
 have e:Qi n by_ [.nils,.sl σ.length 0 1 true] (σ++[.rows n [row]])=.ok (.sl (σ.length+1) 0 1 false) [σ.length] [(σ.length+1,.rows n [row])]:=by
  show YI n by_ (σ++[.rows n [row]]) [] [] (.sl σ.length 0 1 true)=_;unfold YI;simp only[h1,ZU hr];simp;rw[show Nat.ble (194*by_) 281474976710656=true from Nat.ble_eq_true_of_le (by simpa using hroom)];rfl
 rw[e,Xb3];have:=QL (σ++[.rows n [row]]) (.rows n [row]);rw[List.length_append,List.length_singleton] at this;rw[this,Xav]
theorem Qba(n by_:Nat)(σ:List ABlk)(b len:Nat)(ex:Bool)(rs:List (List AVal))(row:List AVal)(hb:hget σ b=.rows n rs)(hl:rs.length=len)(hr:row.all AVal.cell=true)(hroom:(2*(len+1)+192)*by_≤2 ^ 48)(K:AVal→List ABlk→α) :
  A.wr (Qi n by_ [.sl b 0 len ex,.sl σ.length 0 1 true] (σ++[.rows n [row]])) (σ++[.rows n [row]]) K=K (.sl (σ.length+1) 0 (len+1) false) (σ.set b .dead++[.rows n [row]]++[.rows n (rs++[row])]):=by
 have hlt:=Qy hb (by simp);have h1:ZF n (σ++[.rows n [row]]) (.sl σ.length 0 1 true)=some ([row],[σ.length]):=by
  simp[ZF,Yl,XbL];rfl
 have h2:Nat.ble ((2*(len+1)+192)*by_) (2 ^ 48)=true:=Nat.ble_eq_true_of_le hroom;have hb2:=Qm [.rows n [row]] hb (by simp);have e:Qi n by_ [.sl b 0 len ex,.sl σ.length 0 1 true] (σ++[.rows n [row]])=.ok (.sl (σ.length+1) 0 (len+1) false) [σ.length] ([(b,.dead)]++[(σ.length+1,.rows n (rs++[row]))]):=by
  have:Qi n by_ [.sl b 0 len ex,.sl σ.length 0 1 true] (σ++[.rows n [row]])=YI n by_ (σ++[.rows n [row]]) rs [(b,.dead)] (.sl σ.length 0 1 true):=by
   simp[Qi,QaF,hb2,hl]
  rw[this];unfold YI;simp only[h1,ZU hr,List.length_singleton,h2,Bool.and_self,cond_true,hl,List.length_append]
 rw[e,Xb3];have:=Ybu (σ:=σ++[.rows n [row]]) (b:=b) .dead (.rows n (rs++[row])) (by simp; omega);rw[List.length_append,List.length_singleton] at this;rw[this,Xav,List.set_append_left _ _ hlt]
end
end Go.Ah
end
section
namespace Go.Ah
section
variable {P:Program} {GL:Globs}
theorem Za{r:SRes}{K:AVal→Prop}{v:AVal}{rd:List Nat}(h:r=.ok v rd [])(hK:K v):(W P GL).rd r K:=by rw[h]; exact hK
theorem Xg{r:SRes}{K:AVal→Prop}{v:AVal}(h:r=.ok v [] [])(hK:K v):(W P GL).pu r K:=by rw[h]; exact hK
theorem Xf{r:SRes}{σ σ':List ABlk}{K:AVal→List ABlk→Prop}{v:AVal}{rd:List Nat}{up:List (Nat×ABlk)}(h:r=.ok v rd up)(hu:upL σ up=some σ')(hK:K v σ'):(W P GL).wr r σ K:=by rw[h,Xb3,hu]; exact hK
theorem Xj{r:SRes}{σ σ':List ABlk}{K:AVal→List Nat×List Nat→List ABlk→Prop}{v:AVal}{rd:List Nat}{up:List (Nat×ABlk)}(h:r=.ok v rd up)(hu:upL σ up=some σ')(hK:K v (rd,up.map (·.1)) σ'):(W P GL).dr r σ K:=by rw[h,XcD,hu]; exact hK
theorem Qb{c:Bool}{a b:Prop}(ht:c=true→a)(hf:c=false→b):(W P GL).test (.bool c) a b:=⟨ht,hf⟩
theorem Ze{a b:Prop}(h:a):(W P GL).test (.bool true) a b:=⟨λ_=>h,(λe=>by cases e)⟩
theorem Yh{a b:Prop}(h:b):(W P GL).test (.bool false) a b:=⟨(λe=>by cases e),λ_=>h⟩
theorem Xx{b:Bool}{k:Prop}(h:b=true)(hK:k):(W P GL).gd b k:=by rw[h]; exact hK
theorem Zt{β:Type}{o:Option β}{K:β→Prop}{v:β}(h:o=some v)(hK:K v):(W P GL).opt o K:=by rw[h]; exact hK
theorem Xa{w:Bool}{r:(AVal→Prop)→Prop}{K:AVal→Prop}(h:r K):(W P GL).gr (.bool w) w r K:=by
 cases w
 ·exact⟨(λe=>by cases e),λ_=>h⟩
 ·exact⟨λ_=>h,(λe=>by cases e)⟩
theorem Zb{w:Bool}{r:(AVal→List ABlk→Prop)→Prop}{σ:List ABlk}{K:AVal→List ABlk→Prop}(h:r K):(W P GL).gw (.bool w) w r σ K:=by
 cases w
 ·exact⟨(λe=>by cases e),λ_=>h⟩
 ·exact⟨λ_=>h,(λe=>by cases e)⟩
theorem YaW{w:Bool}{r:(AVal→List Nat×List Nat→List ABlk→Prop)→Prop}{σ:List ABlk}{K:AVal→List Nat×List Nat→List ABlk→Prop}(h:r K):(W P GL).gl (.bool w) w r σ K:=by
 cases w
 ·exact⟨(λe=>by cases e),λ_=>h⟩
 ·exact⟨λ_=>h,(λe=>by cases e)⟩
theorem Yb{c w:Bool}{r:(AVal→Prop)→Prop}{K:AVal→Prop}(hc:c = !w)(h:K (udf [(c,w)])):(W P GL).gr (.bool c) w r K:=by
 subst hc;cases w
 ·exact⟨λ_=>h,(λe=>by cases e)⟩
 ·exact⟨(λe=>by cases e),λ_=>h⟩
theorem Zc{c w:Bool}{r:(AVal→List ABlk→Prop)→Prop}{σ:List ABlk}{K:AVal→List ABlk→Prop}(hc:c = !w)(h:K (udf [(c,w)]) σ):(W P GL).gw (.bool c) w r σ K:=by
 subst hc;cases w
 ·exact⟨λ_=>h,(λe=>by cases e)⟩
 ·exact⟨(λe=>by cases e),λ_=>h⟩
theorem Qbt{c w:Bool}{r:(AVal→List Nat×List Nat→List ABlk→Prop)→Prop}{σ:List ABlk}{K:AVal→List Nat×List Nat→List ABlk→Prop}(hc:c = !w)(h:K (udf [(c,w)]) ([],[]) σ):(W P GL).gl (.bool c) w r σ K:=by
 subst hc;cases w
 ·exact⟨λ_=>h,(λe=>by cases e)⟩
 ·exact⟨(λe=>by cases e),λ_=>h⟩
theorem Zd{cs:List (Bool×Bool)}{q w:Bool}{r:(AVal→Prop)→Prop}{K:AVal→Prop}(hc:Q9.holdNot cs=true)(h:K (udf (cs++[(q,w)]))):(W P GL).gr (.when cs (.bool q)) w r K:=by
 show (match Q9.holdNot cs with
  |true=>K (udf (cs++[(q,w)]))
  | false=>(W P GL).stop)
 rw[hc]; exact h
theorem Xd{cs:List (Bool×Bool)}{q w:Bool}{r:(AVal→List ABlk→Prop)→Prop}{σ:List ABlk}{K:AVal→List ABlk→Prop}(hc:Q9.holdNot cs=true)(h:K (udf (cs++[(q,w)])) σ):(W P GL).gw (.when cs (.bool q)) w r σ K:=by
 show (match Q9.holdNot cs with
  |true=>K (udf (cs++[(q,w)])) σ
  | false=>(W P GL).stop)
 rw[hc]; exact h
theorem YB(n:Nat){F:(List AVal→List ABlk→Prop)→List AVal→List ABlk→Prop}{vs:List AVal}{σ:List ABlk}(h:iterA False n F vs σ):(W P GL).loop F vs σ:=⟨n,h⟩
theorem Yj{n:Nat}{F:(List AVal→List ABlk→Prop)→List AVal→List ABlk→Prop}{vs:List AVal}{σ:List ABlk}(h:F (iterA False n F) vs σ):iterA False (n+1) F vs σ:=h
end
def pos:List Nat→Nat→Option Nat
 |[],_=>none
 |x::l,n=>match Nat.beq x n with
  |true=>some 0
  |false=>match pos l n with
   |some k=>some (k+1)
   |none=>none
theorem Qav:∀ {l:List Nat} {n k:Nat},pos l n=some k→l[k]?=some n
 |[],_,_,h=>by cases h
 |x::l,n,k,h=>by
  unfold pos at h;split at h
  ·rename_i hb; cases h; simp[YNB hb]
  ·split at h
   ·rename_i k' hk; cases h; simpa using Qav hk
   ·cases h
theorem XbU:∀ {l:List Nat} {k:Nat},l.Nodup→(h:k<l.length)→pos l l[k]=some k
 |[],_,_,h=>by simp at h
 |x::l,0,_,_=>by simp[pos]
 |x::l,k+1,hn,h=>by
  have hn':=List.nodup_cons.1 hn;have hne:Nat.beq x (l[k]'(by simpa using h))=false:=by
   cases e:Nat.beq x (l[k]'(by simpa using h)) with
   |false=>rfl
   |true=>exact(hn'.1 (by rw[YNB e]; exact List.getElem_mem _)).elim
  simp only[List.getElem_cons_succ,pos,hne,XbU hn'.2 (by simpa using h)]
def gcH(ids:List Nat)(σ:List ABlk):List ABlk:=ids.map λb=>(hget σ b).mapV (AVal.ren (pos ids))
theorem XaA{σ:List ABlk}{b:Nat}(h:b<σ.length):σ[b]?=some (hget σ b):=by
 rw[List.getElem?_eq_getElem h,XT (List.getElem?_eq_getElem h)]
theorem Tidy.gc(ids:List Nat){σ:List ABlk}{v:AVal}(hn:ids.Nodup)(hin:∀b∈ids,b<σ.length){σ2:List ABlk}{v2:AVal}(h1:gcH ids σ=σ2)(h2:v.ren (pos ids)=v2):Tidy σ v σ2 v2:=by
 subst h1; subst h2;refine Tidy.ren ⟨λx y k e1 e2=>?_,λx k e=>?_,λk hk=>?_⟩ v
 ·have q1:=Qav e1;have q2:=Qav e2;rw[q1] at q2; exact Option.some.inj q2
 ·have q:=Qav e;have hx:x∈ids:=List.mem_of_getElem? q;exact⟨_,XaA (hin x hx),by simp[gcH,q]⟩
 ·simp only[gcH,List.length_map] at hk;exact⟨_,XbU hn hk⟩
end Go.Ah
end
section
namespace Go.Ah
section
variable {P:Program} {GL:Globs}
theorem Xa8{c d:Bool}{K:AVal→Prop}{r1:SRes}{r2:AVal→SRes}{r3:AVal→AVal→SRes}{σ:List ABlk}{v1 v2:AVal}{q1 q2 q3:List Nat}(h1:c=false→r1=.ok v1 q1 [])(h2:c=false→r2 v1=.ok v2 q2 [])(h3:c=false→r3 v1 v2=.ok (.bool d) q3 [])(hK:K (.bool (c||d))) :
  (W P GL).gr (.bool c) false (λk=>(W P GL).rd r1 k) λt1=>(W P GL).gr (.bool c) false (λk=>(W P GL).rd (r2 t1) k) λt2=>(W P GL).gr (.bool c) false (λk=>(W P GL).rd (r3 t1 t2) k) λt3=>(W P GL).rd (Zn [.bool c,.bool true,t3] σ) K:=by
 cases c with
 |false=>exact Xa (Za (h1 rfl) (Xa (Za (h2 rfl) (Xa (Za (h3 rfl) (Za rfl hK))))))
 |true=>exact Yb rfl (Yb rfl (Yb rfl (Za rfl hK)))
theorem Zb0{c d:Bool}{K:AVal→Prop}{r1:SRes}{r2:AVal→SRes}{r3:AVal→AVal→SRes}{r4:AVal→AVal→AVal→SRes}{r5:AVal→AVal→AVal→AVal→SRes}{σ:List ABlk}{v1 v2 v3 v4:AVal}{q1 q2 q3 q4 q5:List Nat}(h1:c=false→r1=.ok v1 q1 [])(h2:c=false→r2 v1=.ok v2 q2 [])(h3:c=false→r3 v1 v2=.ok v3 q3 [])(h4:c=false→r4 v1 v2 v3=.ok v4 q4 [])(h5:c=false→r5 v1 v2 v3 v4=.ok (.bool d) q5 [])(hK:K (.bool (c||d))) :
  (W P GL).gr (.bool c) false (λk=>(W P GL).rd r1 k) λt1=>(W P GL).gr (.bool c) false (λk=>(W P GL).rd (r2 t1) k) λt2=>(W P GL).gr (.bool c) false (λk=>(W P GL).rd (r3 t1 t2) k) λt3=>(W P GL).gr (.bool c) false (λk=>(W P GL).rd (r4 t1 t2 t3) k) λt4=>(W P GL).gr (.bool c) false (λk=>(W P GL).rd (r5 t1 t2 t3 t4) k) λt5=>(W P GL).rd (Zn [.bool c,.bool true,t5] σ) K:=by
 cases c with
 |false=>exact Xa (Za (h1 rfl) (Xa (Za (h2 rfl) (Xa (Za (h3 rfl) (Xa (Za (h4 rfl) (Xa (Za (h5 rfl) (Za rfl hK))))))))))
 |true=>exact Yb rfl (Yb rfl (Yb rfl (Yb rfl (Yb rfl (Za rfl hK)))))
theorem Zco{c d:Bool}{K:AVal→Prop}{r1:SRes}{r2:AVal→SRes}{r3:AVal→AVal→SRes}{r4:AVal→AVal→AVal→SRes}{r5:AVal→AVal→AVal→AVal→SRes}{r6:AVal→AVal→AVal→AVal→AVal→SRes}{σ:List ABlk}{v1 v2 v3 v4 v5:AVal}{q1 q2 q3 q4 q5 q6:List Nat}(h1:c=false→r1=.ok v1 q1 [])(h2:c=false→r2 v1=.ok v2 q2 [])(h3:c=false→r3 v1 v2=.ok v3 q3 [])(h4:c=false→r4 v1 v2 v3=.ok v4 q4 [])(h5:c=false→r5 v1 v2 v3 v4=.ok v5 q5 [])(h6:c=false→r6 v1 v2 v3 v4 v5=.ok (.bool d) q6 [])(hK:K (.bool (c||d))) :
  (W P GL).gr (.bool c) false (λk=>(W P GL).rd r1 k) λt1=>(W P GL).gr (.bool c) false (λk=>(W P GL).rd (r2 t1) k) λt2=>(W P GL).gr (.bool c) false (λk=>(W P GL).rd (r3 t1 t2) k) λt3=>(W P GL).gr (.bool c) false (λk=>(W P GL).rd (r4 t1 t2 t3) k) λt4=>(W P GL).gr (.bool c) false (λk=>(W P GL).rd (r5 t1 t2 t3 t4) k) λt5=>(W P GL).gr (.bool c) false (λk=>(W P GL).rd (r6 t1 t2 t3 t4 t5) k) λt6=>(W P GL).rd (Zn [.bool c,.bool true,t6] σ) K:=by
 cases c with
 |false=>exact Xa (Za (h1 rfl) (Xa (Za (h2 rfl) (Xa (Za (h3 rfl) (Xa (Za (h4 rfl) (Xa (Za (h5 rfl) (Xa (Za (h6 rfl) (Za rfl hK))))))))))))
 |true=>exact Yb rfl (Yb rfl (Yb rfl (Yb rfl (Yb rfl (Yb rfl (Za rfl hK))))))
theorem Yb0{c d:Bool}{K:AVal→Prop}{r1:SRes}{r2:AVal→SRes}{r3:AVal→AVal→SRes}{r4:AVal→AVal→AVal→SRes}{r5:AVal→AVal→AVal→AVal→SRes}{r6:AVal→AVal→AVal→AVal→AVal→SRes}{r7:AVal→AVal→AVal→AVal→AVal→AVal→SRes}{σ:List ABlk}{v1 v2 v3 v4 v5 v6:AVal}{q1 q2 q3 q4 q5 q6 q7:List Nat}(h1:c=false→r1=.ok v1 q1 [])(h2:c=false→r2 v1=.ok v2 q2 [])(h3:c=false→r3 v1 v2=.ok v3 q3 [])(h4:c=false→r4 v1 v2 v3=.ok v4 q4 [])(h5:c=false→r5 v1 v2 v3 v4=.ok v5 q5 [])(h6:c=false→r6 v1 v2 v3 v4 v5=.ok v6 q6 [])(h7:c=false→r7 v1 v2 v3 v4 v5 v6=.ok (.bool d) q7 [])(hK:K (.bool (c||d))) :
  (W P GL).gr (.bool c) false (λk=>(W P GL).rd r1 k) λt1=>(W P GL).gr (.bool c) false (λk=>(W P GL).rd (r2 t1) k) λt2=>(W P GL).gr (.bool c) false (λk=>(W P GL).rd (r3 t1 t2) k) λt3=>(W P GL).gr (.bool c) false (λk=>(W P GL).rd (r4 t1 t2 t3) k) λt4=>(W P GL).gr (.bool c) false (λk=>(W P GL).rd (r5 t1 t2 t3 t4) k) λt5=>(W P GL).gr (.bool c) false (λk=>(W P GL).rd (r6 t1 t2 t3 t4 t5) k) λt6=>(W P GL).gr (.bool c) false (λk=>(W P GL).rd (r7 t1 t2 t3 t4 t5 t6) k) λt7=>(W P GL).rd (Zn [.bool c,.bool true,t7] σ) K:=by
 cases c with
 |false=>exact Xa (Za (h1 rfl) (Xa (Za (h2 rfl) (Xa (Za (h3 rfl) (Xa (Za (h4 rfl) (Xa (Za (h5 rfl) (Xa (Za (h6 rfl) (Xa (Za (h7 rfl) (Za rfl hK))))))))))))))
 |true=>exact Yb rfl (Yb rfl (Yb rfl (Yb rfl (Yb rfl (Yb rfl (Yb rfl (Za rfl hK)))))))
theorem XcJ{c d:Bool}{K:AVal→Prop}{r1:SRes}{r2:AVal→SRes}{r3:AVal→AVal→SRes}{r4:AVal→AVal→AVal→SRes}{r5:AVal→AVal→AVal→AVal→SRes}{r6:AVal→AVal→AVal→AVal→AVal→SRes}{r7:AVal→AVal→AVal→AVal→AVal→AVal→SRes}{r8:AVal→AVal→AVal→AVal→AVal→AVal→AVal→SRes}{σ:List ABlk}{v1 v2 v3 v4 v5 v6 v7:AVal}{q1 q2 q3 q4 q5 q6 q7 q8:List Nat}(h1:c=false→r1=.ok v1 q1 [])(h2:c=false→r2 v1=.ok v2 q2 [])(h3:c=false→r3 v1 v2=.ok v3 q3 [])(h4:c=false→r4 v1 v2 v3=.ok v4 q4 [])(h5:c=false→r5 v1 v2 v3 v4=.ok v5 q5 [])(h6:c=false→r6 v1 v2 v3 v4 v5=.ok v6 q6 [])(h7:c=false→r7 v1 v2 v3 v4 v5 v6=.ok v7 q7 [])(h8:c=false→r8 v1 v2 v3 v4 v5 v6 v7=.ok (.bool d) q8 [])(hK:K (.bool (c||d))) :
  (W P GL).gr (.bool c) false (λk=>(W P GL).rd r1 k) λt1=>(W P GL).gr (.bool c) false (λk=>(W P GL).rd (r2 t1) k) λt2=>(W P GL).gr (.bool c) false (λk=>(W P GL).rd (r3 t1 t2) k) λt3=>(W P GL).gr (.bool c) false (λk=>(W P GL).rd (r4 t1 t2 t3) k) λt4=>(W P GL).gr (.bool c) false (λk=>(W P GL).rd (r5 t1 t2 t3 t4) k) λt5=>(W P GL).gr (.bool c) false (λk=>(W P GL).rd (r6 t1 t2 t3 t4 t5) k) λt6=>(W P GL).gr (.bool c) false (λk=>(W P GL).rd (r7 t1 t2 t3 t4 t5 t6) k) λt7=>(W P GL).gr (.bool c) false (λk=>(W P GL).rd (r8 t1 t2 t3 t4 t5 t6 t7) k) λt8=>(W P GL).rd (Zn [.bool c,.bool true,t8] σ) K:=by
 cases c with
 |false=>exact Xa (Za (h1 rfl) (Xa (Za (h2 rfl) (Xa (Za (h3 rfl) (Xa (Za (h4 rfl) (Xa (Za (h5 rfl) (Xa (Za (h6 rfl) (Xa (Za (h7 rfl) (Xa (Za (h8 rfl) (Za rfl hK))))))))))))))))
 |true=>exact Yb rfl (Yb rfl (Yb rfl (Yb rfl (Yb rfl (Yb rfl (Yb rfl (Yb rfl (Za rfl hK))))))))
theorem Zcv{c d:Bool}{K:AVal→Prop}{r1:SRes}{r2:AVal→SRes}{r3:AVal→AVal→SRes}{r4:AVal→AVal→AVal→SRes}{r5:AVal→AVal→AVal→AVal→SRes}{r6:AVal→AVal→AVal→AVal→AVal→SRes}{r7:AVal→AVal→AVal→AVal→AVal→AVal→SRes}{r8:AVal→AVal→AVal→AVal→AVal→AVal→AVal→SRes}{r9:AVal→AVal→AVal→AVal→AVal→AVal→AVal→AVal→SRes}{r10:AVal→AVal→AVal→AVal→AVal→AVal→AVal→AVal→AVal→SRes}{σ:List ABlk}{v1 v2 v3 v4 v5 v6 v7 v8 v9:AVal}{q1 q2 q3 q4 q5 q6 q7 q8 q9 q10:List Nat}(h1:c=false→r1=.ok v1 q1 [])(h2:c=false→r2 v1=.ok v2 q2 [])(h3:c=false→r3 v1 v2=.ok v3 q3 [])(h4:c=false→r4 v1 v2 v3=.ok v4 q4 [])(h5:c=false→r5 v1 v2 v3 v4=.ok v5 q5 [])(h6:c=false→r6 v1 v2 v3 v4 v5=.ok v6 q6 [])(h7:c=false→r7 v1 v2 v3 v4 v5 v6=.ok v7 q7 [])(h8:c=false→r8 v1 v2 v3 v4 v5 v6 v7=.ok v8 q8 [])(h9:c=false→r9 v1 v2 v3 v4 v5 v6 v7 v8=.ok v9 q9 [])(h10:c=false→r10 v1 v2 v3 v4 v5 v6 v7 v8 v9=.ok (.bool d) q10 [])(hK:K (.bool (c||d))) :
  (W P GL).gr (.bool c) false (λk=>(W P GL).rd r1 k) λt1=>(W P GL).gr (.bool c) false (λk=>(W P GL).rd (r2 t1) k) λt2=>(W P GL).gr (.bool c) false (λk=>(W P GL).rd (r3 t1 t2) k) λt3=>(W P GL).gr (.bool c) false (λk=>(W P GL).rd (r4 t1 t2 t3) k) λt4=>(W P GL).gr (.bool c) false (λk=>(W P GL).rd (r5 t1 t2 t3 t4) k) λt5=>(W P GL).gr (.bool c) false (λk=>(W P GL).rd (r6 t1 t2 t3 t4 t5) k) λt6=>(W P GL).gr (.bool c) false (λk=>(W P GL).rd (r7 t1 t2 t3 t4 t5 t6) k) λt7=>(W P GL).gr (.bool c) false (λk=>(W P GL).rd (r8 t1 t2 t3 t4 t5 t6 t7) k) λt8=>(W P GL).gr (.bool c) false (λk=>(W P GL).rd (r9 t1 t2 t3 t4 t5 t6 t7 t8) k) λt9=>(W P GL).gr (.bool c) false (λk=>(W P GL).rd (r10 t1 t2 t3 t4 t5 t6 t7 t8 t9) k) λt10=>(W P GL).rd (Zn [.bool c,.bool true,t10] σ) K:=by
 cases c with
 |false=>exact Xa (Za (h1 rfl) (Xa (Za (h2 rfl) (Xa (Za (h3 rfl) (Xa (Za (h4 rfl) (Xa (Za (h5 rfl) (Xa (Za (h6 rfl) (Xa (Za (h7 rfl) (Xa (Za (h8 rfl) (Xa (Za (h9 rfl) (Xa (Za (h10 rfl) (Za rfl hK))))))))))))))))))))
 |true=>exact Yb rfl (Yb rfl (Yb rfl (Yb rfl (Yb rfl (Yb rfl (Yb rfl (Yb rfl (Yb rfl (Yb rfl (Za rfl hK))))))))))
theorem Xb0{c d:Bool}{K:List ABlk→AVal→Prop}{r1:SRes}{r2:AVal→SRes}{r3:AVal→AVal→SRes}{cl:AVal→AVal→AVal→(AVal→List ABlk→Prop)→Prop} {σ:List ABlk}{v1 v2 v3:AVal}{q1 q2 q3:List Nat}(h1:c=false→r1=.ok v1 q1 [])(h2:c=false→r2 v1=.ok v2 q2 [])(h3:c=false→r3 v1 v2=.ok v3 q3 [])(hc:c=false→∀k:AVal→List ABlk→Prop,k (.bool d) σ→cl v1 v2 v3 k)(hK:K σ (.bool (c||d))) :
  (W P GL).gr (.bool c) false (λk=>(W P GL).rd r1 k) λt1=>(W P GL).gr (.bool c) false (λk=>(W P GL).rd (r2 t1) k) λt2=>(W P GL).gr (.bool c) false (λk=>(W P GL).rd (r3 t1 t2) k) λt3=>(W P GL).gw (.bool c) false (λk=>cl t1 t2 t3 k) σ λw0 τ=>(W P GL).rd (Zn [.bool c,.bool true,w0] τ) (K τ):=by
 cases c with
 |false=>exact Xa (Za (h1 rfl) (Xa (Za (h2 rfl) (Xa (Za (h3 rfl) (Zb (hc rfl _ (Za rfl hK))))))))
 |true=>exact Yb rfl (Yb rfl (Yb rfl (Zc rfl (Za rfl hK))))
theorem Qb0{c d:Bool}{K:List ABlk→AVal→Prop}{r1:SRes}{r2:AVal→SRes}{r3:AVal→AVal→SRes}{r4:AVal→AVal→AVal→SRes}{cl:AVal→AVal→AVal→AVal→(AVal→List ABlk→Prop)→Prop}{s1:AVal→List ABlk→SRes}{σ:List ABlk}{v1 v2 v3 v4 u0:AVal}{q1 q2 q3 q4 p1:List Nat}(h1:c=false→r1=.ok v1 q1 [])(h2:c=false→r2 v1=.ok v2 q2 [])(h3:c=false→r3 v1 v2=.ok v3 q3 [])(h4:c=false→r4 v1 v2 v3=.ok v4 q4 [])(hc:c=false→∀k:AVal→List ABlk→Prop,k u0 σ→cl v1 v2 v3 v4 k)(g1:c=false→s1 u0 σ=.ok (.bool d) p1 [])(hK:K σ (.bool (c||d))) :
  (W P GL).gr (.bool c) false (λk=>(W P GL).rd r1 k) λt1=>(W P GL).gr (.bool c) false (λk=>(W P GL).rd (r2 t1) k) λt2=>(W P GL).gr (.bool c) false (λk=>(W P GL).rd (r3 t1 t2) k) λt3=>(W P GL).gr (.bool c) false (λk=>(W P GL).rd (r4 t1 t2 t3) k) λt4=>(W P GL).gw (.bool c) false (λk=>cl t1 t2 t3 t4 k) σ λw0 τ=>(W P GL).gr (.bool c) false (λk=>(W P GL).rd (s1 w0 τ) k) λw1=>(W P GL).rd (Zn [.bool c,.bool true,w1] τ) (K τ):=by
 cases c with
 |false=>exact Xa (Za (h1 rfl) (Xa (Za (h2 rfl) (Xa (Za (h3 rfl) (Xa (Za (h4 rfl) (Zb (hc rfl _ (Xa (Za (g1 rfl) (Za rfl hK))))))))))))
 |true=>exact Yb rfl (Yb rfl (Yb rfl (Yb rfl (Zc rfl (Yb rfl (Za rfl hK))))))
end
end Go.Ah
end
section
namespace Go.Ah
section
variable {P:Program} {GL:Globs}
theorem Bor.weak{h0:Hp}{rd:List Nat}{x y z:AVal}(h:Bor h0 rd x y)(k:∀(M:Nat→Option Obj) (u:Value),Den M noOwn y u→Den M noOwn z u):Bor h0 rd x z:=
 λGL w0 L g h' w M2 r hM hrd v d=>k M2 v (h GL w0 L g h' w M2 r hM hrd v d)
theorem Den.rsl_weak{M:Nat→Option Obj}{c:Own}{e n:Bool}{sz:Nat}{rows:List (List AVal)}{u:Value}(h:Den M c (.rsl e n sz rows) u):Den M c (.rsl false false sz rows) u:=by
 cases h with
 |rsl _ _ _ _ _ a cap blk off f q1 q2 q3 q4 q5 q6 q7 q8=>exact .rsl _ _ _ _ _ a cap blk off f (λh=>by cases h) (λh=>by cases h) q3 q4 q5 q6 q7 q8
theorem Den.nils_rsl{M:Nat→Option Obj}{c:Own}{u:Value}(sz:Nat)(h:Den M c .nils u):Den M c (.rsl false false sz []) u:=by
 cases h with
 |nils=>exact .rsl _ _ _ _ [] none 0 0 0 (λ_ _=>undef) (λh=>by cases h) (λh=>by cases h) (λh=>(h rfl).elim) (λ_=>rfl) (by simp) (by simp) (by simp) (by simp)
theorem BorL.ro{h0:Hp}{rd:List Nat}:∀ {l:List AVal},roL l=true→BorL h0 rd l l
 |[],_=>BorL.nil
 |x::l,h=>by
  simp only[roL,Bool.and_eq_true] at h;exact BorL.cons (Bor.ro h.1) (BorL.ro h.2)
theorem Bor.own{σ:List ABlk}{rd:List Nat}{b off len sz:Nat}{ex:Bool}{rs rows:List (List AVal)}(hb:hget σ b=.rows sz rs)(hin:b∈rd)(hle:off+len≤rs.length)(hc:cut off (off+len) rs=rows)(hro:∀r∈rs,roL r=true):Bor (hp σ) rd (.sl b off len ex) (.rsl false false sz rows):=by
 refine Bor.weak (y:=.rsl ex false sz rows) ?_ (λM u d=>d.rsl_weak);have hb':hp σ b=some (.rows sz rs):=ZT hb (by simp);subst hc;refine Bor.sl hb' hin hle (ZO hle▸by omega) (λi row row' q1 q2=>?_);have hi:i<len:=by
  have:=(YLG q2).1;rw[ZO hle] at this; omega
 have:(cut off (off+len) rs)[i]?=rs[off+i]?:=by
  unfold cut;rw[List.getElem?_drop,List.getElem?_take_of_lt (by omega)]
 rw[this,q1] at q2; cases q2;exact BorL.ro (hro _ (List.mem_of_getElem? q1))
theorem ZaZ(l:List (List AVal))(n:Nat)(h:n=l.length):cut 0 (0+n) l=l:=by subst h; simp[cut]
theorem XG{k:MK}{xs ys zs:List AVal}{f:FuncId}{v:AVal}{rd:List Nat}(h:PCall P GL f zs v){σ:List ABlk}(hc:Yu k xs=some (f,ys))(hp':Ym P f=true)(hb:BorL (hp σ) rd ys zs)(hv:v.flat=true){K:AVal→List ABlk→Prop}(hK:K v σ):(W P GL).call k xs σ K:=
 Yas hc hp' (h.lend hb hv) (Zs σ) hK
theorem YbF{k:MK}{xs ys zs:List AVal}{f:FuncId}{v:AVal}{rd:List Nat}(h:PCall P GL f zs v){σ:List ABlk}(hc:Yu k xs=some (f,ys))(hp':Ym P f=true)(hb:BorL (hp σ) rd ys zs)(hv:v.flat=true){K:AVal→List Nat×List Nat→List ABlk→Prop}(hK:K v (rd,[]) σ):(W P GL).dcall k xs σ K:=
 Xaw hc hp' (h.lend hb hv) (Zs σ) hK
end
end Go.Ah
end
section
namespace Go.Ah
section
variable {H:Type}
def DL(M:Nat→Option Obj)(xs:List AVal)(cs:List Value):Prop:=xs.length=cs.length∧∀(i:Nat) (x:AVal) (v:Value),xs[i]?=some x→cs[i]?=some v→Den M noOwn x v
theorem DL.nil{M:Nat→Option Obj}:DL M [] []:=⟨rfl,λi x v h=>by simp at h⟩
theorem DL.one{M:Nat→Option Obj}{x:AVal}{v:Value}(h:Den M noOwn x v):DL M [x] [v]:=by
 refine⟨rfl,λi y u h1 h2=>?_⟩;cases i with
 |zero=>simp at h1 h2; subst h1; subst h2; exact h
 |succ i=>simp at h1
theorem DL.append{M:Nat→Option Obj}{xs ys:List AVal}{cs ds:List Value}(h:DL M xs cs)(k:DL M ys ds):DL M (xs++ys) (cs++ds):=by
 refine⟨by simp[h.1,k.1],λi x v h1 h2=>?_⟩;by_cases hi:i<xs.length
 ·rw[List.getElem?_append_left hi] at h1;rw[List.getElem?_append_left (by rw[←h.1]; exact hi)] at h2;exact h.2 i x v h1 h2
 ·rw[List.getElem?_append_right (by omega)] at h1;rw[List.getElem?_append_right (by rw[←h.1]; omega),←h.1] at h2;exact k.2 _ x v h1 h2
def Tri{α β γ:Type}(R:α→β→γ→Prop):List α→List β→List γ→Prop
 |[],[],[]=>True
 |a::us,b::bs,c::cs=>R a b c∧Tri R us bs cs
 |_,_,_=>False
def Two{α β:Type}(R:α→β→Prop):List α→List β→Prop
 |[],[]=>True
 |a::us,b::bs=>R a b∧Two R us bs
 |_,_=>False
theorem Tri.cons{α β γ:Type}{R:α→β→γ→Prop}{a:α}{us:List α}{bs:List β}{cs:List γ}(h:Tri R (a::us) bs cs):∃b bs' c cs',bs=b::bs'∧cs=c::cs'∧R a b c∧Tri R us bs' cs':=by
 match bs,cs,h with
 |b::bs,c::cs,h=>exact⟨b,bs,c,cs,rfl,rfl,h.1,h.2⟩
theorem Tri.nil{α β γ:Type}{R:α→β→γ→Prop}{bs:List β}{cs:List γ}(h:Tri R [] bs cs):bs=[]∧cs=[]:=by
 match bs,cs,h with
 |[],[],_=>exact⟨rfl,rfl⟩
theorem Two.cons{α β:Type}{R:α→β→Prop}{a:α}{us:List α}{bs:List β}(h:Two R (a::us) bs):∃b bs',bs=b::bs'∧R a b∧Two R us bs':=by
 match bs,h with
 |b::bs,h=>exact⟨b,bs,rfl,h.1,h.2⟩
theorem Two.length{α β:Type}{R:α→β→Prop}:∀ {us:List α} {bs:List β},Two R us bs→us.length=bs.length
 |[],[],_=>rfl
 |_::_,_::_,h=>by simp[Two.length h.2]
 |[],_::_,h=>h.elim
 |_::_,[],h=>h.elim
def Typed(P:Program):Nat→TypeId→List AVal→DataW H→Prop
 |0,_,_,_=>False
 |fuel+1,t,xs,d=>match P.underlying t with
  |some .bool=>∃b,xs=[.bool b]∧d=.lit (.bool b)
  |some (.int k)=>∃n,xs=[.int k n]∧(Lit.int k n).wf=true∧d=.lit (.int k n)
  |some .string=>∃s,xs=[.str s]∧d=.lit (.string s)
  |some (.slice e)=>∃rows,xs=[.rsl false false (P.cellsOf e) rows]∧((rows=[]∧d=.nil)∨∃es sp,d=.slice es sp∧Two (Typed P fuel e) rows es)
  |some (.struct fs)=>∃parts ds,xs=parts.flatten∧d=.agg ds∧Tri (Typed P fuel) (fs.toList.map (·.type)) parts ds
  |some (.array n e)=>∃parts ds,xs=parts.flatten∧d=.agg ds∧parts.length=n∧Two (Typed P fuel e) parts ds
  |_=>False
def tiles(P:Program):Nat→List Field→Option Nat
 |o,[]=>some o
 |o,f::r=>bif Nat.beq f.offset o then tiles P (o+P.cellsOf f.type) r else none
def tyOk(P:Program)(S:List TypeId)(t:TypeId):Bool:=match P.underlying t with
 |some .bool=>Nat.beq (P.cellsOf t) 1
 |some (.int _)=>Nat.beq (P.cellsOf t) 1
 |some .string=>Nat.beq (P.cellsOf t) 1
 |some (.slice e)=>Nat.beq (P.cellsOf t) 1&&(Nat.blt 0 (P.cellsOf e)&&S.contains e)
 | some (.struct fs)=>(match tiles P 0 fs.toList with
  |some n=>Nat.beq n (P.cellsOf t)
  | none=>false) && fs.toList.all λf=>S.contains f.type
 |some (.array n e)=>Nat.beq (P.cellsOf t) (n*P.cellsOf e)&&S.contains e
 |_=>false
variable {enc:TypeId×Value→H} {P:Program} {w:World} {base:Nat} {spare:Nat→Bool} {held:Bool}
theorem Xau{α β:Type}{f:α→Option β}:∀ {l:List α} {r:List β},l.mapM f=some r→Two (λa b=>f a=some b) l r
 |[],r,h=>by simp at h; subst h; trivial
 |a::l,r,h=>by
  rw[List.mapM_cons] at h;cases ha:f a with
  |none=>simp[ha] at h
  |some b=>
   cases hl:l.mapM f with
   |none=>simp[ha,hl] at h
   |some bs=>simp[ha,hl] at h; subst h; exact⟨ha,Xau hl⟩
def Tells(enc:TypeId×Value→H)(P:Program)(w:World)(base:Nat)(spare:Nat→Bool)(held:Bool)(fuel:Nat)(t:TypeId)(cs:List Value)(d:DataW H):Prop:=∃ps,DataW.trod enc P w base spare held fuel t cs=some (d,ps)
def Fine(enc:TypeId×Value→H)(P:Program)(w:World)(base:Nat)(spare:Nat→Bool)(held:Bool)(fuel:Nat)(t:TypeId):Prop:=
 ∀cs d,Tells enc P w base spare held fuel t cs d→cs.length=P.cellsOf t∧∃xs,DL (λb=>w.heap[b]?) xs cs∧Typed P fuel t xs d
theorem ZbI{a:Addr}{v:Value}(h:w.cell? a=some v):a.spot=none∧mcell (λb=>w.heap[b]?) a.block a.off=some v:=by
 unfold World.cell? at h;show _∧(match w.heap[a.block]? with
  |some (.cells c _ _)=>c[a.off]?
  | _=>none)=some v
 cases hb:w.heap[a.block]? with
 |none=>rw[hb] at h; cases h
 |some o=>
  rw[hb] at h;cases o with
  |cells c t fr=>
   simp only at h;split at h
   ·cases h
   ·rename_i hs;exact⟨by simpa using hs,h⟩
  |_=>cases h
theorem XaX(a:Addr)(n:Nat):(a.add n).block=a.block:=by unfold Addr.add; split<;>rfl
theorem QbF(a:Addr)(n:Nat):(a.add n).off=a.off+n:=by unfold Addr.add; split<;>simp_all
theorem Yaz{fuel:Nat}{cs:List Value}:∀ {fs:List Field} {o n:Nat} {xs:List (DataW H×List MemPlace)},tiles P o fs=some n→n≤cs.length→(∀f∈fs,Fine enc P w base spare held fuel f.type) →
  Two (λ(f:Field) y=>DataW.trod enc P w base spare held fuel f.type ((cs.drop f.offset).take (P.cellsOf f.type))=some y) fs xs→o≤n ∧
  ∃parts,DL (λb=>w.heap[b]?) parts.flatten ((cs.take n).drop o)∧Tri (Typed P fuel) (fs.map (·.type)) parts (xs.map (·.1))
 |[],o,n,xs,ht,hn,hf,h=>by
  simp only[tiles,Option.some.injEq] at ht;subst ht
  match xs,h with
  |[],_=>
   refine⟨Nat.le_refl _,[],?_,trivial⟩;have:(cs.take o).drop o=[]:=by simp
   rw[this]; exact DL.nil
 |f::fs,o,n,xs,ht,hn,hf,h=>by
  simp only[tiles] at ht;cases hb:Nat.beq f.offset o with
  |false=>rw[hb] at ht; cases ht
  |true=>
   rw[hb] at ht;have ho:=YNB hb;obtain⟨y,ys,rfl,h1,h2⟩:=h.cons;obtain⟨hle,parts,hd,h3⟩:=Yaz ht hn (λg hg=>hf g (List.mem_cons_of_mem _ hg)) h2;obtain⟨hl,p,hp,hy⟩:=hf f (List.mem_cons_self ..) _ _ ⟨y.2,h1⟩;refine⟨by omega,p::parts,?_,hy,h3⟩;have e:(cs.take n).drop o=(cs.drop f.offset).take (P.cellsOf f.type)++(cs.take n).drop (o+P.cellsOf f.type):=by
    have e1:(cs.take n).drop o=((cs.take n).drop o).take (P.cellsOf f.type)++((cs.take n).drop o).drop (P.cellsOf f.type):=(List.take_append_drop _ _).symm;rw[e1,List.drop_drop,ho]
    congr 1
    rw[List.drop_take,List.take_take]
    congr 1
    omega
   rw[List.flatten_cons,e];exact hp.append hd
theorem YaL{fuel:Nat}{e:TypeId}{cs:List Value}(hf:Fine enc P w base spare held fuel e):∀ {n o:Nat} {xs:List (DataW H×List MemPlace)},(o+n)*P.cellsOf e≤cs.length →
  Two (λ(i:Nat) y=>DataW.trod enc P w base spare held fuel e ((cs.drop (i*P.cellsOf e)).take (P.cellsOf e))=some y) (List.range' o n) xs →
  ∃parts,DL (λb=>w.heap[b]?) parts.flatten ((cs.take ((o+n)*P.cellsOf e)).drop (o*P.cellsOf e))∧parts.length=n∧Two (Typed P fuel e) parts (xs.map (·.1))
 |0,o,xs,hn,h=>by
  match xs,h with
  |[],_=>
   refine⟨[],?_,rfl,trivial⟩;have:(cs.take ((o+0)*P.cellsOf e)).drop (o*P.cellsOf e)=[]:=by simp
   rw[this]; exact DL.nil
 |n+1,o,xs,hn,h=>by
  rw[List.range'_succ] at h;obtain⟨y,ys,rfl,h1,h2⟩:=h.cons;have hn':(o+1+n)*P.cellsOf e≤cs.length:=by rw[show o+1+n=o+(n+1) by omega]; exact hn
  obtain⟨parts,hd,h3,h4⟩:=YaL hf hn' h2;obtain⟨hl,p,hp,hy⟩:=hf _ _ ⟨y.2,h1⟩;refine⟨p::parts,?_,by simp[h3],hy,h4⟩;have hs:(o+1)*P.cellsOf e=o*P.cellsOf e+P.cellsOf e:=by rw[Nat.add_mul,Nat.one_mul]
  have hm:(o+1)*P.cellsOf e≤(o+(n+1))*P.cellsOf e:=Nat.mul_le_mul_right _ (by omega);have e1:(cs.take ((o+(n+1))*P.cellsOf e)).drop (o*P.cellsOf e)=(cs.drop (o*P.cellsOf e)).take (P.cellsOf e)++(cs.take ((o+1+n)*P.cellsOf e)).drop ((o+1)*P.cellsOf e):=by
   rw[show o+1+n=o+(n+1) by omega,hs];have e2:(cs.take ((o+(n+1))*P.cellsOf e)).drop (o*P.cellsOf e)=((cs.take ((o+(n+1))*P.cellsOf e)).drop (o*P.cellsOf e)).take (P.cellsOf e)++((cs.take ((o+(n+1))*P.cellsOf e)).drop (o*P.cellsOf e)).drop (P.cellsOf e):=(List.take_append_drop _ _).symm;rw[e2,List.drop_drop]
   congr 1
   rw[List.drop_take,List.take_take]
   congr 1
   omega
  rw[List.flatten_cons,e1];exact hp.append hd
theorem Qa5{fuel:Nat}{e:TypeId}{a:Addr}(hf:Fine enc P w base spare held fuel e)(hpos:0<P.cellsOf e):∀ {n o:Nat} {xs:List (DataW H×List MemPlace)},
  Two (λ(i:Nat) y=>(w.cells? base (a.add (i*P.cellsOf e)) (P.cellsOf e)).bind (DataW.trod enc P w base spare held fuel e)=some y) (List.range' o n) xs →
  ∃(rows:List (List AVal)) (f:Nat→Nat→Value),rows.length=n∧Two (Typed P fuel e) rows (xs.map (·.1))∧(n≠0→o=0→a.spot=none)∧(∀(i:Nat) (row:List AVal),rows[i]?=some row→row.length=P.cellsOf e) ∧
   (∀i j,i<n→j<P.cellsOf e→mcell (λb=>w.heap[b]?) a.block (a.off+((o+i)*P.cellsOf e+j))=some (f i j))∧(∀(i:Nat) (row:List AVal) (j:Nat) (x:AVal),rows[i]?=some row→row[j]?=some x→Den (λb=>w.heap[b]?) noOwn x (f i j))
 |0,o,xs,h=>by
  match xs,h with
  |[],_=>exact⟨[],λ_ _=>undef,rfl,trivial,λh _=>(h rfl).elim,by simp,by intro i j hi; omega,by simp⟩
 |n+1,o,xs,h=>by
  rw[List.range'_succ] at h;obtain⟨y,ys,rfl,h1,h2⟩:=h.cons;obtain⟨rows,f,q1,q2,q3,q4,q5,q6⟩:=Qa5 hf hpos h2;obtain⟨cs,hc,hy⟩:=Option.bind_eq_some_iff.1 h1;obtain⟨_,hl,hcell⟩:=World.cells?_some hc;obtain⟨_,xs0,hd,hty⟩:=hf cs y.1 ⟨y.2,hy⟩;have hat:∀j,j<P.cellsOf e→∃v,cs[j]?=some v∧mcell (λb=>w.heap[b]?) a.block (a.off+o*P.cellsOf e+j)=some v:=by
   intro j hj;obtain⟨v,hv⟩:∃v,cs[j]?=some v:=⟨cs[j]'(by omega),by simp[show j<cs.length by omega]⟩;have:=hcell j hj;rw[hv] at this;obtain⟨m1,m2⟩:=ZbI this;rw[XaX,XaX,QbF,QbF] at m2;exact⟨v,hv,m2⟩
  refine⟨xs0::rows,λi j=>match i with|0=>(cs[j]?).getD undef|i+1=>f i j,by simp[q1],⟨hty,q2⟩,λ_ ho=>?_,?_,?_,?_⟩
  ·have:=hcell 0 hpos;rw[show cs[0]?=some (cs[0]'(by omega)) by simp[show 0<cs.length by omega]] at this;have:=(ZbI this).1;subst ho;simpa[Addr.add] using this
  ·intro i row hr;cases i with
   |zero=>simp at hr; subst hr; rw[hd.1,hl]
   |succ i=>exact q4 i row (by simpa using hr)
  ·intro i j hi hj;cases i with
   |zero=>
    obtain⟨v,e1,e2⟩:=hat j hj;simp only[e1,Option.getD_some,Nat.add_zero];rw[←Nat.add_assoc]; exact e2
   |succ i=>
    have:=q5 i j (by omega) hj;rw[show o+(i+1)=o+1+i by omega];exact this
  ·intro i row j x hr hx;cases i with
   |zero=>
    simp at hr; subst hr;have hj:j<cs.length:=by rw[←hd.1]; exact(YLG hx).1
    have hv:cs[j]?=some cs[j]:=by simp[hj]
    simp only[hv,Option.getD_some];exact hd.2 j x _ hx hv
   |succ i=>exact q6 i row j x (by simpa using hr) hx
theorem XX{S:List TypeId}(hS:S.all (tyOk P S)=true):∀(fuel:Nat) (t:TypeId),t∈S→Fine enc P w base spare held fuel t
 |0,t,_=>by
  rintro cs d ⟨ps,h⟩;simp[DataW.trod] at h
 |fuel+1,t,ht=>by
  rintro cs d ⟨ps,h⟩;have hok:=List.all_eq_true.1 hS t ht;have ih:=λt ht=>XX hS fuel t ht;unfold tyOk at hok;unfold DataW.trod at h;split at h
  case h_1=>
   rename_i hu;rw[hu] at hok;cases h;exact⟨(YNB hok).symm,_,DL.one (.bool _ _),by unfold Typed; rw[hu]; exact⟨_,rfl,rfl⟩⟩
  case h_2=>
   rename_i hu;rw[hu] at hok;split at h
   ·rename_i hk;obtain⟨rfl,hw⟩:=hk;cases h;exact⟨(YNB hok).symm,_,DL.one (.int _ _ _),by unfold Typed; rw[hu]; exact⟨_,rfl,hw,rfl⟩⟩
   ·cases h
  case h_4=>
   rename_i hu;rw[hu] at hok;split at h
   ·cases h;exact⟨(YNB hok).symm,_,DL.one (.str _ _),by unfold Typed; rw[hu]; exact⟨_,rfl,rfl⟩⟩
   ·cases h
  case h_7=>
   rename_i e hu;rw[hu] at hok;simp only[Bool.and_eq_true] at hok;cases h;refine⟨(YNB hok.1).symm,_,DL.one (Den.nils_rsl (P.cellsOf e) (.nils _)),?_⟩;unfold Typed; rw[hu]; exact⟨[],rfl,.inl ⟨rfl,rfl⟩⟩
  case h_8=>
   rename_i e a len cap hu;rw[hu] at hok;simp only[Bool.and_eq_true] at hok;obtain⟨k1,k2,k3⟩:=hok;have hpos:0<P.cellsOf e:=YNL k2;simp only at h;split at h
   ·rename_i hc;obtain⟨els,he,h⟩:=Option.bind_eq_some_iff.1 h;obtain⟨rest,hr,h⟩:=Option.map_eq_some_iff.1 h;cases h;rw[List.range_eq_range'] at he;obtain⟨rows,f,q1,q2,q3,q4,q5,q6⟩:=Qa5 (ih e (List.contains_iff_mem.1 k3)) hpos (Xau he);refine⟨(YNB k1).symm,[.rsl false false (P.cellsOf e) rows],DL.one ?_,?_⟩
    ·rw[←q1];refine .rsl _ false false (P.cellsOf e) rows (some a) cap a.block a.off f (λh=>by cases h) (λh=>by cases h) (λhne=>?_) (λh=>by cases h) (by rw[q1]; exact hc.2.1) q4 (λi j hi hj=>?_) q6
     ·have hn:len≠0:=λe=>hne (List.length_eq_zero_iff.1 (q1.trans e));have:=q3 hn rfl;cases a; simp at this; subst this; rfl
     ·have:=q5 i j (by omega) hj;rw[Nat.zero_add] at this; exact this
    ·unfold Typed; rw[hu]; exact⟨rows,rfl,.inr ⟨_,_,rfl,q2⟩⟩
   ·cases h
  case h_9=>
   rename_i fs hu;rw[hu] at hok;simp only[Bool.and_eq_true] at hok;obtain⟨k1,k2⟩:=hok;split at h
   ·rename_i hl;obtain⟨xs,hx,h⟩:=Option.map_eq_some_iff.1 h;cases h;cases ht:tiles P 0 fs.toList with
    |none=>rw[ht] at k1; cases k1
    |some n=>
     rw[ht] at k1;have hn:=YNB k1;obtain⟨_,parts,hd,h3⟩:=Yaz ht (by omega) (λg hg=>ih _ (List.contains_iff_mem.1 (List.all_eq_true.1 k2 g hg))) (Xau hx);refine⟨hl,parts.flatten,?_,?_⟩
     ·rw[List.drop_zero,List.take_of_length_le (by omega)] at hd; exact hd
     ·unfold Typed; rw[hu]; exact⟨parts,_,rfl,rfl,h3⟩
   ·cases h
  case h_10=>
   rename_i n e hu;rw[hu] at hok;simp only[Bool.and_eq_true] at hok;obtain⟨k1,k2⟩:=hok;have hn:=YNB k1;split at h
   ·rename_i hl;obtain⟨xs,hx,h⟩:=Option.map_eq_some_iff.1 h;cases h;rw[List.range_eq_range'] at hx;obtain⟨parts,hd,h3,h4⟩:=YaL (ih e (List.contains_iff_mem.1 k2)) (o:=0) (n:=n) (by rw[Nat.zero_add]; omega) (Xau hx);refine⟨hl,parts.flatten,?_,?_⟩
    ·rw[Nat.zero_mul,List.drop_zero,Nat.zero_add,List.take_of_length_le (by omega)] at hd; exact hd
    ·unfold Typed; rw[hu]; exact⟨parts,_,rfl,rfl,h3,h4⟩
   ·cases h
  all_goals first|(rename_i hu; rw[hu] at hok; exact absurd (show false=true from hok) (by decide))|cases h
end
end Go.Ah
end
section
namespace Go.Ah.Tz
@[reducible] def iv(n:Int):AVal:=.int .i64 n
@[reducible] def iv8(n:Int):AVal:=.int .i8 n
def cel(n:Int):List AVal:=[iv n]
@[reducible] def rowV(l:List Int):AVal:=.rsl false false 1 (l.map cel)
structure Th where
 id:Int
 card:Int
 harm:Int
 tired:Bool
 deriving DecidableEq,Inhabited
def thC(t:Th):List AVal:=[iv t.id,iv t.card,iv t.harm,.bool t.tired]
@[reducible] def thV(l:List Th):AVal:=.rsl false false 4 (l.map thC)
structure Sd where
 life:Int
 mana:Int
 most:Int
 deck:List Int
 hand:List Int
 grave:List Int
 units:List Th
 told:List Int
 deriving DecidableEq,Inhabited
@[reducible] def sdC(s:Sd):List AVal:=[iv s.life,iv s.mana,iv s.most,rowV s.deck,rowV s.hand,rowV s.grave,thV s.units,rowV s.told]
structure St where
 turn:Int
 mover:Int
 phase:Int
 struck:Bool
 result:Int
 attack:List Int
 next:Int
 s0:Sd
 s1:Sd
 deriving DecidableEq,Inhabited
@[reducible] def stC(s:St):List AVal:=[iv s.turn,iv s.mover,iv8 s.phase,.bool s.struck,iv8 s.result,rowV s.attack,iv s.next,
 iv s.s0.life,iv s.s0.mana,iv s.s0.most,rowV s.s0.deck,rowV s.s0.hand,rowV s.s0.grave,thV s.s0.units,rowV s.s0.told,
 iv s.s1.life,iv s.s1.mana,iv s.s1.most,rowV s.s1.deck,rowV s.s1.hand,rowV s.s1.grave,thV s.s1.units,rowV s.s1.told]
@[reducible] def stV(s:St):AVal:=.agg (stC s)
theorem Yg{n:Nat}(h:(n:Int)<4611686018427387904):IntKind.i64.wrap ((n:Int)+1)=((n+1:Nat):Int):=by
 rw[IntWalk.i64_in _ (by omega)]; simp
theorem Zu{α:Type}(l:List α)(i:Nat)(h:i<l.length):l.take (i+1)=l.take i++[l[i]]:=by
 rw[List.take_succ_eq_append_getElem h]
theorem ZC{α β:Type}(f:α→β)(l:List α)(i:Nat)(h:i<l.length):(l.take i).map f++[f l[i]]=(l.take (i+1)).map f:=by
 rw[Zu l i h,List.map_append]; rfl
end Go.Ah.Tz
end
section
namespace Go.Ah.Tz
open Go.Proofs.Tryz (prog)
set_option maxRecDepth 100000
abbrev GQ(f:FuncId)(n:Nat)(g:GFun):Prop:=GOk prog GL0 f n g
abbrev PC(f:FuncId)(xs:List AVal)(v:AVal):Prop:=PCall prog GL0 f xs v
noncomputable abbrev VV:Ans Prop:=W prog GL0
def g52:GFun:=λA xs a h=>match xs with
 |[x0]=>
 A.r Qe x0 a λj=>A.loop (λl e a=>A.b .lss (h0 e) j a λm=>A.test m (A.s (Yc 12) x0 (h0 e) a λn=>A.r (Xc true 12) n a λo=>A.k 110 [o] a λp a=>
 A.b .add (h1 e) p a λi=>A.b .gtr i (jv 3000) a λd=>A.fr d Qh x0 a λq=>A.fr d Qh (h0 e) a λt=>A.fs d (Yc 12) q t a λu=>A.fr d (Ya 0) u a λv=>
 A.fa d v a λw=>A.fr d Zq w a λy=>A.fb d .gtr y (jv 2000) a λz=>A.c d (.bool true) z a λf=>A.fr f Qh (h0 e) a λa0=>A.fb f .gtr a0 (jv 60) a λa1=>
 A.fr f Qh a1 a λg=>A.tr g Qh x0 a λa2=>A.tr g Qe a2 a λa3=>A.tb g .leq a3 (jv 240) a λa4=>A.fc f g a4 (.bool false) a λa5=>A.c f (.bool true) a5 a λa6=>
 A.test a6 (h (.bool true) a) (A.b .add (h0 e) (jv 1) a λa7=>l [a7,i] a)) (A.r Qe x0 a λa8=>A.b .gtr a8 (jv 250) a λa9=>h a9 a)) [jv 0,jv 0] a
 |_=>A.stop
theorem g52_ok:GQ 52 1 g52:=gq1 [none,some [7,3],none,none,none] λ_ _ _ _ _=>by kernel_rfl
def g53:GFun:=λA xs a g=>match xs with
 |[]=>
 A.wr (Xe [.nils,.nils] [] a) a λc a=>A.wr (Xe zq0 [] a) a λd a=>A.k 78 [(.str [99,97,114,100,32,73,109,112,32,117,110,105,116,32,49,32,50,47,50,32,123,32,115,104,105,101,108,100,32,49,59,32,125,32,99,97,114,100,32,66,97,114,100,32,117,110,105,116,32,50,32,49,47,49,32,123,32,97,117,114,97,32,49,47,48,59,32,125])] a λe a=>
 A.r (Qd 0) e a λh=>A.r (Qd 1) e a λi=>A.wr (Xe [.nils,.nils] [] a) a λf a=>A.wr (Xe [jv 0,jv 0] [] a) a λj a=>A.ws (Xb 2) f h a λ_ a=>
 A.ws (Xb 2) j i a λ_ a=>A.rd (Ye zq0 [(0,1),(6,1)] [jv 1,jv 9] a) λl=>A.wr (Xe zq0 [] a) a λb a=>A.ws (Xb 23) b l a λ_ a=>
 A.rd (Ye zq3 [(0,1)] [jv 1] a) λm=>A.rd (Ye zq3 [(0,1),(1,1)] [jv 2,jv 1] a) λn=>A.wr (Xi 4 2 [jv 0,jv 0,jv 0,.bool false,jv 0,jv 0,jv 0,.bool false] [(0,4),(4,4)] [m,n] a) a λo a=>
 A.rd (Ye zq4 [(0,1),(6,1)] [jv 20,o] a) λp=>A.r (Ya 7) b a λq=>A.s (Zg 2 8) q (jv 0) a λt=>A.ws (Xb 8) t p a λ_ a=>
 A.wr (Xi 1 2 [jv 0,jv 0] [(0,1),(1,1)] [jv 1,jv 0] a) a λu a=>A.rd (Ye zq4 [(0,1),(3,1)] [jv 20,u] a) λv=>A.r (Ya 7) b a λw=>
 A.s (Zg 2 8) w (jv 1) a λy=>A.ws (Xb 8) y v a λ_ a=>A.dr (Xc true 2 [f] a) a λz a0 a=>A.dr (Xc true 23 [b] a) a λa1 a2 a=>A.dr (Xb 2 [c,z] a) a λ_ a3 a=>
 A.dr (Xb 23 [d,a1] a) a λ_ a4 a=>A.gd (Zi [[],[],[0],[0,1,2]] [a0,a2,a3,a4]) <| A.opt (cellV true 2 c a) λr25=>A.opt (cellV true 23 d a) λr26=>
 g (.tup [r25,r26]) a
 |_=>A.stop
theorem g53_ok:GQ 53 0 g53:=gq0 [] λ_ _ _ _=>by kernel_rfl
def g54:GFun:=λA xs a b=>match xs with
 |[x0,x1,x2]=>
 A.w1 Xk x0 a λg a=>A.w1 Xk x1 a λd a=>A.k 56 [g,d] a λe a=>A.s (XL .ptr false false) e .nilp a λh=>A.test h (b (.tup zq6) a) (A.r (Xc true 23) d a λi=>
 A.k 71 [i,x2] a λc a=>A.r (Qd 0) c a λj=>A.r (Qd 1) c a λl=>A.r (Qd 2) c a λm=>A.r (Qo .not) m a λn=>A.test n (b (.tup zq6) a) (
 A.k 75 [e,j,l] a λf a=>A.r (Qd 0) f a λo=>A.r (Qd 1) f a λp=>b (.tup [o,p,.bool true]) a))
 |_=>A.stop
theorem g54_ok:GQ 54 3 g54:=gq3 [none,none] λ_ _ _ _ _ _ _=>by kernel_rfl
def g55:GFun:=λA xs a b=>match xs with
 |[x0,x1]=>
 A.w1 Xk x0 a λc a=>A.w1 Xk x1 a λd a=>A.k 111 [c,d,.bool false] a λe a=>A.r (Qo .not) e a λf=>A.test f (b (jv 170) a) (b (jv 0) a)
 |_=>A.stop
theorem g55_ok:GQ 55 2 g55:=gq2 [none] λ_ _ _ _ _ _=>by kernel_rfl
def g56:GFun:=λA xs a b=>match xs with
 |[x0,x1]=>
 A.k 111 [x0,x1,.bool true] a λc a=>A.r (Qo .not) c a λd=>A.test d (b .nilp a) (A.r Qa x1 a λe=>A.r (Xc true 23) e a λf=>A.k 59 [f] a λg a=>
 A.rd (Ye [.nilp,jv 0,jv 0,.int .i8 0,.bool false,.int .i8 0,.nils,jv 0,jv 0,jv 0,jv 0,.nils,.nils,.nils,.nils,.nils,jv 0,jv 0,jv 0,.nils,.nils,.nils,.nils,.nils] [(0,1),(1,23)] [x0,g] a) λh=>
 A.w1 Xk h a λi a=>b i a)
 |_=>A.stop
theorem g56_ok:GQ 56 2 g56:=gq2 [none] λ_ _ _ _ _ _=>by kernel_rfl
def g57:GFun:=λA xs a e=>match xs with
 |[x0]=>
 A.b .geq x0 (jv (-1000000)) a λd=>A.tr d Qh x0 a λf=>A.tb d .leq f (jv 1000000) a λg=>A.c d g (.bool false) a λh=>e h a
 |_=>A.stop
theorem g57_ok:GQ 57 1 g57:=gq1 [] λ_ _ _ _ _=>by kernel_rfl
def g58:GFun:=λA xs b d=>match xs with
 |[x0,x1]=>
 A.r Qa x0 b λe=>A.a e b λf=>A.s (Yc 1) f (jv 0) b λg=>A.a g b λc=>A.r Qa x0 b λh=>A.a h b λi=>A.s (Yaf 1) i (jv 1) b λj=>
 A.r Qa x0 b λl=>A.ws (Xb 1) l j b λ_ b=>A.r Qa x1 b λm=>A.a m b λn=>A.wr (Xi 1 1 [jv 0] [(0,1)] [c] b) b λo b=>
 A.wr (Qi 1 8 [n,o] b) b λp b=>A.r Qa x1 b λq=>A.ws (Xb 1) q p b λ_ b=>d c b
 |_=>A.stop
theorem g58_ok:GQ 58 2 g58:=gq2 [] λ_ _ _ _ _ _=>by kernel_rfl
def g59:GFun:=λA xs c h=>match xs with
 |[x0]=>
 A.w1 Xk x0 c λe c=>A.wr (Xe zq0 [] c) c λg c=>A.r (Ya 5) e c λi=>A.a i c λj=>A.k 96 [j] c λl c=>A.r (Ya 5) e c λm=>
 A.ws (Xb 1) m l c λ_ c=>A.loop (λn f c=>A.b .lss (h0 f) (jv 2) c λo=>A.test o (A.r (Ya 7) e c λp=>A.s (Zg 2 8) p (h0 f) c λd=>
 A.pu (Qa [d] c) λq=>A.pu (Ya 3 [q] c) λt=>A.dr (Qg [t] c) c λu v c=>A.dcall (.call 96) [u] c λw y c=>A.pu (Qa [d] c) λz=>
 A.pu (Ya 4 [z] c) λa0=>A.dr (Qg [a0] c) c λa1 a2 c=>A.dcall (.call 96) [a1] c λa3 a4 c=>A.pu (Qa [d] c) λa5=>A.pu (Ya 5 [a5] c) λa6=>
 A.dr (Qg [a6] c) c λa7 a8 c=>A.dcall (.call 96) [a7] c λa9 b0 c=>A.pu (Qa [d] c) λb1=>A.pu (Ya 7 [b1] c) λb2=>A.dr (Qg [b2] c) c λb3 b4 c=>
 A.dcall (.call 96) [b3] c λb5 b6 c=>A.pu (Qa [d] c) λb7=>A.pu (Ya 6 [b7] c) λb8=>A.dr (Qg [b8] c) c λb9 c0 c=>A.dcall (.call 112) [b9] c λc1 c2 c=>
 A.pu (Qa [d] c) λc3=>A.pu (Ya 3 [c3] c) λc4=>A.dr (Xb 1 [c4,w] c) c λ_ c5 c=>A.pu (Qa [d] c) λc6=>A.pu (Ya 4 [c6] c) λc7=>
 A.dr (Xb 1 [c7,a3] c) c λ_ c8 c=>A.pu (Qa [d] c) λc9=>A.pu (Ya 5 [c9] c) λd0=>A.dr (Xb 1 [d0,a9] c) c λ_ d1 c=>A.pu (Qa [d] c) λd2=>
 A.pu (Ya 7 [d2] c) λd3=>A.dr (Xb 1 [d3,b5] c) c λ_ d4 c=>A.pu (Qa [d] c) λd5=>A.pu (Ya 6 [d5] c) λd6=>A.dr (Xb 1 [d6,c1] c) c λ_ d7 c=>
 A.gd (Zi [[],[],[],[],[],[],[5],[5,6],[5,6,7],[5,6,7,8],[],[10],[10,11],[10,11,12],[5,6,7,8,9,10,11,12,13],[],[15],[15,16],[15,16,17],[5,6,7,8,9,10,11,12,13,14,15,16,17,18],[],[20],[20,21],[20,21,22],[5,6,7,8,9,10,11,12,13,14,15,16,17,18,19,20,21,22,23],[],[25],[25,26],[25,26,27],[5,6,7,8,9,10,11,12,13,14,15,16,17,18,19,20,21,22,23,24,25,26,27,28],[0,5,6,7,8,9,10,11,12,13,14,15,16,17,18,19,20,21,22,23,24,25,26,27,28,29],[0,5,6,7,8,9,10,11,12,13,14,15,16,17,18,19,20,21,22,23,24,25,26,27,28,29,30],[0,5,6,7,8,9,10,11,12,13,14,15,16,17,18,19,20,21,22,23,24,25,26,27,28,29,30,31],[0,1,5,6,7,8,9,10,11,12,13,14,15,16,17,18,19,20,21,22,23,24,25,26,27,28,29,30,31,32],[0,1,5,6,7,8,9,10,11,12,13,14,15,16,17,18,19,20,21,22,23,24,25,26,27,28,29,30,31,32,33],[0,1,5,6,7,8,9,10,11,12,13,14,15,16,17,18,19,20,21,22,23,24,25,26,27,28,29,30,31,32,33,34],[0,1,2,5,6,7,8,9,10,11,12,13,14,15,16,17,18,19,20,21,22,23,24,25,26,27,28,29,30,31,32,33,34,35],[0,1,2,5,6,7,8,9,10,11,12,13,14,15,16,17,18,19,20,21,22,23,24,25,26,27,28,29,30,31,32,33,34,35,36],[0,1,2,5,6,7,8,9,10,11,12,13,14,15,16,17,18,19,20,21,22,23,24,25,26,27,28,29,30,31,32,33,34,35,36,37],[0,1,2,3,5,6,7,8,9,10,11,12,13,14,15,16,17,18,19,20,21,22,23,24,25,26,27,28,29,30,31,32,33,34,35,36,37,38],[0,1,2,3,5,6,7,8,9,10,11,12,13,14,15,16,17,18,19,20,21,22,23,24,25,26,27,28,29,30,31,32,33,34,35,36,37,38,39],[0,1,2,3,5,6,7,8,9,10,11,12,13,14,15,16,17,18,19,20,21,22,23,24,25,26,27,28,29,30,31,32,33,34,35,36,37,38,39,40],[0,1,2,3,4,5,6,7,8,9,10,11,12,13,14,15,16,17,18,19,20,21,22,23,24,25,26,27,28,29,30,31,32,33,34,35,36,37,38,39,40,41],[0,1,2,3,4,5,6,7,8,9,10,11,12,13,14,15,16,17,18,19,20,21,22,23,24,25,26,27,28,29,30,31,32,33,34,35,36,37,38,39,40,41,42],[0,1,2,3,4,5,6,7,8,9,10,11,12,13,14,15,16,17,18,19,20,21,22,23,24,25,26,27,28,29,30,31,32,33,34,35,36,37,38,39,40,41,42,43]] [([],[]),([],[]),([],[]),([],[]),([],[]),([],[]),([],[]),([],[]),v,y,([],[]),([],[]),([],[]),a2,a4,([],[]),([],[]),([],[]),a8,b0,([],[]),([],[]),([],[]),b4,b6,([],[]),([],[]),([],[]),c0,c2,([],[]),([],[]),c5,([],[]),([],[]),c8,([],[]),([],[]),d1,([],[]),([],[]),d4,([],[]),([],[]),d7]) <|
 A.b .add (h0 f) (jv 1) c λd8=>n [d8] c) (A.r (Xc true 23) e c λd9=>A.ws (Xb 23) g d9 c λ_ c=>A.opt (cellV true 23 g c) λr58=>h r58 c)) [jv 0] c
 |_=>A.stop
theorem g59_ok:GQ 59 1 g59:=gq1 [none,some [9],none,none] λ_ _ _ _ _=>by kernel_rfl
def g60:GFun:=λA xs a c=>match xs with
 |[x0]=>
 A.loop (λd b a=>A.rd (Qe [x0] a) λe=>A.rd (Yi .lss false [(h0 b),e] a) λf=>A.test f (A.rd (Yc 1 [x0,(h0 b)] a) λg=>A.rd (Qg [g] a) λh=>
 A.wr (Xi 1 1 [jv 0] [(0,1)] [h] a) a λi a=>A.wr (Qi 1 8 [(h1 b),i] a) a λj a=>A.rd (Yi .add false [(h0 b),jv 1] a) λl=>d [l,j] a) (
 c (h1 b) a)) [jv 0,.nils] a
 |_=>A.stop
theorem g60_ok:GQ 60 1 g60:=gq1 [none,some [4,3],none,none] λ_ _ _ _ _=>by kernel_rfl
def g61:GFun:=λA xs a c=>match xs with
 |[x0]=>
 A.loop (λd b a=>A.rd (Qe [x0] a) λe=>A.rd (Yi .lss false [(h0 b),e] a) λf=>A.test f (A.rd (Yc 4 [x0,(h0 b)] a) λg=>A.rd (Xc true 4 [g] a) λh=>
 A.wr (Xi 4 1 zq3 [(0,4)] [h] a) a λi a=>A.wr (Qi 4 32 [(h1 b),i] a) a λj a=>A.rd (Yi .add false [(h0 b),jv 1] a) λl=>d [l,j] a) (
 c (h1 b) a)) [jv 0,.nils] a
 |_=>A.stop
theorem g61_ok:GQ 61 1 g61:=gq1 [none,some [4,3],none,none] λ_ _ _ _ _=>by kernel_rfl
def g64:GFun:=λA xs d h=>match xs with
 |[x0,x1,x2,x3,x4,x5,x6]=>
 A.wr (Xe zq0 [] d) d λe d=>A.wr (Xe zq1 [] d) d λf d=>A.k 56 [x0,x1] d λi d=>A.s (XL .ptr false false) i .nilp d λv=>A.test v (A.rd (Ye zq0 [] [] d) λw=>
 A.rd (Ye zq1 [] [] d) λy=>A.ws (Xb 23) e w d λ_ d=>A.ws (Xb 7) f y d λ_ d=>A.opt (cellV true 23 e d) λr6=>A.opt (cellV true 7 f d) λr7=>
 h (.tup [r6,r7,jv 170]) d) (A.s Yaq x5 (jv 0) d λz=>A.s XR z (jv 4000000) d λt9=>A.b .neq x3 (jv 0) d λa0=>joinK (λo=>A.test a0 (A.r Qa x1 d λa1=>
 A.r (Xc true 23) a1 d λa2=>A.k 71 [a2,x3] d λj d=>A.r (Qd 0) j d λp=>A.r (Qd 1) j d λa3=>A.r (Qd 2) j d λa4=>A.r (Qo .not) a4 d λl=>
 A.fr l Qh x3 d λa5=>A.fb l .lss a5 (jv 0) d λa6=>A.c l (.bool true) a6 d λa7=>A.test a7 (A.rd (Ye zq0 [] [] d) λa8=>A.rd (Ye zq1 [] [] d) λa9=>
 A.ws (Xb 23) e a8 d λ_ d=>A.ws (Xb 7) f a9 d λ_ d=>A.opt (cellV true 23 e d) λr25=>A.opt (cellV true 7 f d) λr26=>h (.tup [r25,r26,jv 4]) d) (
 A.r Qa i d λb0=>A.r (Ya 1) b0 d λb1=>A.r (Ya 7) b1 d λb2=>A.s (Zg 2 8) b2 p d λb3=>A.r (Ya 6) b3 d λb4=>
 A.a b4 d λb5=>A.s (Yc 4) b5 a3 d λb6=>o [p,b6] d)) (o [x4,.nilp] d)) (λg d=>A.b .lss (h0 g) (jv 0) d λm=>A.fr m Qh (h0 g) d λb7=>
 A.fb m .gtr b7 (jv 1) d λb8=>A.c m (.bool true) b8 d λb9=>A.test b9 (A.rd (Ye zq0 [] [] d) λc0=>A.rd (Ye zq1 [] [] d) λc1=>A.ws (Xb 23) e c0 d λ_ d=>
 A.ws (Xb 7) f c1 d λ_ d=>A.opt (cellV true 23 e d) λr40=>A.opt (cellV true 7 f d) λr41=>h (.tup [r40,r41,jv 2]) d) (A.r Qa i d λc2=>
 A.r (Ya 1) c2 d λc3=>A.r (Ya 7) c3 d λc4=>A.s (Zg 2 8) c4 (h0 g) d λq=>A.dcall .callv [x6,i] d λc5 c6 d=>A.pu (Qa [q] d) λc7=>
 A.pu (Ya 0 [c7] d) λc8=>A.dr (Qg [c8] d) d λc9 d0 d=>A.dcall .callv [c5,(h1 g),c9,t9] d λt d1 d=>A.pu (Qd 0 [t] d) λn=>A.pu (Qd 1 [t] d) λd2=>
 A.gd (Zi [[],[],[0,1],[],[],[4],[4,5],[4,5,6],[],[0,1,2,3,4,5,6,7,8],[0,1,2,3,4,5,6,7,8,9],[0,1,2,3,4,5,6,7,8,9,10],[0,1,2,3,4,5,6,7,8,9,10],[0,1,2,3,4,5,6,7,8,9,10,11],[0,1,2,3,4,5,6,7,8,9,10,11,12,13]] [([],[]),([],[]),c6,([],[]),([],[]),([],[]),([],[]),d0,([],[]),d1,([],[]),([],[]),([],[]),([],[]),([],[])]) <|
 A.k 57 [n] d λd3 d=>A.r (Qo .not) d3 d λd4=>A.test d4 (A.rd (Ye zq0 [] [] d) λd5=>A.rd (Ye zq1 [] [] d) λd6=>A.ws (Xb 23) e d5 d λ_ d=>
 A.ws (Xb 7) f d6 d λ_ d=>A.opt (cellV true 23 e d) λr60=>A.opt (cellV true 7 f d) λr61=>h (.tup [r60,r61,jv 171]) d) (A.s (XL .ptr true false) (h1 g) .nilp d λd7=>
 joinK (λu=>A.test d7 (A.r Qa (h1 g) d λd8=>A.r (Ya 2) d8 d λd9=>A.ws (Xb 1) d9 n d λ_ d=>u [] d) (A.r Qa q d λe0=>
 A.r (Ya 0) e0 d λe1=>A.ws (Xb 1) e1 n d λ_ d=>u [] d)) (λe6 d=>A.r Qa i d λe2=>A.r (Ya 1) e2 d λe3=>A.r (Xc true 23) e3 d λe4=>
 A.rd (Ye zq1 [(0,1),(1,1),(3,1),(5,1)] [x2,(h0 g),x3,d2] d) λe5=>A.ws (Xb 23) e e4 d λ_ d=>A.ws (Xb 7) f e5 d λ_ d=>A.opt (cellV true 23 e d) λr73=>
 A.opt (cellV true 7 f d) λr74=>h (.tup [r73,r74,jv 0]) d)))))
 |_=>A.stop
theorem g64_ok:GQ 64 7 g64:=gq7 [none,some [4,18],none,none,none,some []] λ_ _ _ _ _ _ _ _ _ _ _=>by kernel_rfl
def g65:GFun:=λA xs a b=>match xs with
 |[x0]=>
 A.r (Qn (.func 66) 1) x0 a λc=>b c a
 |_=>A.stop
theorem g65_ok:GQ 65 1 g65:=gq1 [] λ_ _ _ _ _=>by kernel_rfl
def g66:GFun:=λA xs c d=>match xs with
 |[x0,x1,x2,x3]=>
 A.s (XL .ptr true false) x1 .nilp c λf=>A.test f (A.r Qa x0 c λg=>A.r (Ya 0) g c λh=>A.a h c λi=>A.r Qa i c λj=>
 A.r (Ya 0) j c λl=>A.a l c λm=>A.r Qa x1 c λn=>A.r (Ya 1) n c λo=>A.a o c λp=>A.s (Yc 12) m p c λq=>A.r (Ya 5) q c λt=>
 A.a t c λu=>A.b .sub x3 u c λv=>A.s Yaq v (jv 0) c λe=>A.r Qa x1 c λw=>A.r (Ya 2) w c λy=>A.a y c λz=>A.b .add z e c λa0=>
 d (.tup [a0,e]) c) (A.b .sub x2 x3 c λa1=>d (.tup [a1,x3]) c)
 |_=>A.stop
theorem g66_ok:GQ 66 4 g66:=gq4 [none] λ_ _ _ _ _ _ _ _=>by kernel_rfl
def g67:GFun:=λA xs c f=>match xs with
 |[x0]=>
 A.w1 Xk x0 c λe c=>A.wr (Xe [jv 0,jv 0] [] c) c λd c=>A.r (Ya 0) e c λj=>A.a j c λl=>A.k 113 [l] c λm c=>A.wr (Xe [jv 0,jv 0] [] c) c λh c=>
 A.ws (Xb 2) h m c λ_ c=>A.r (Ya 0) h c λn=>A.a n c λo=>A.b .neq o (jv 0) c λp=>A.test p (A.r (Xc true 2) h c λq=>A.ws (Xb 2) d q c λ_ c=>
 A.opt (cellV true 2 d c) λr10=>f r10 c) (A.r (Ya 0) e c λt=>A.a t c λu=>A.k 114 [u] c λv c=>A.wr (Xe [jv 0,jv 0] [] c) c λi c=>
 A.ws (Xb 2) i v c λ_ c=>A.r (Ya 0) i c λw=>A.a w c λy=>A.b .neq y (jv 0) c λz=>A.test z (A.r (Xc true 2) i c λa0=>A.ws (Xb 2) d a0 c λ_ c=>
 A.opt (cellV true 2 d c) λr19=>f r19 c) (A.loop (λa1 g c=>A.r (Ya 1) e c λa2=>A.a a2 c λa3=>A.r Qe a3 c λa4=>A.b .lss (h0 g) a4 c λa5=>
 A.test a5 (A.r (Xc true 2) e c λa6=>A.k 115 [a6,(h0 g)] c λa7 c=>A.r (Qo .not) a7 c λa8=>A.test a8 (A.r (Ya 1) e c λa9=>A.a a9 c λb0=>
 A.s (Yc 7) b0 (h0 g) c λb1=>A.r (Ya 6) b1 c λb2=>A.a b2 c λb3=>A.rd (Ye [jv 0,jv 0] [(0,1),(1,1)] [jv 151,b3] c) λb4=>
 A.ws (Xb 2) d b4 c λ_ c=>A.opt (cellV true 2 d c) λr35=>f r35 c) (A.b .add (h0 g) (jv 1) c λb5=>a1 [b5] c)) (A.rd (Ye [jv 0,jv 0] [] [] c) λb6=>
 A.ws (Xb 2) d b6 c λ_ c=>A.opt (cellV true 2 d c) λr38=>f r38 c)) [jv 0] c))
 |_=>A.stop
theorem g67_ok:GQ 67 1 g67:=gq1 [none,none,none,some [5],none,none,none] λ_ _ _ _ _=>by kernel_rfl
def g68:GFun:=λA xs d p=>match xs with
 |[x0,x1]=>
 A.w1 Xk x0 d λj d=>A.w1 Xk x1 d λt1 d=>A.loop (λa3 u d=>A.b .lss (h0 u) (jv 2) d λt4=>A.test t4 (A.r (Ya 7) t1 d λt5=>A.s (Zg 2 8) t5 (h0 u) d λt6=>
 A.r (Xc true 8) t6 d λt7=>A.wr (Xe zq4 [] d) d λe d=>A.ws (Xb 8) e t7 d λ_ d=>A.r (Ya 0) e d λt9=>A.a t9 d λa4=>A.k 116 [a4] d λa5 d=>
 A.r (Qo .not) a5 d λv=>A.fr v (Ya 1) e d λa6=>A.fa v a6 d λa7=>A.fb v .lss a7 (jv 0) d λa8=>A.c v (.bool true) a8 d λq=>A.fr q (Ya 1) e d λa9=>
 A.fa q a9 d λb0=>A.gw q false (λk=>A.k 116 [b0] d k) d λb1 d=>A.fr q (Qo .not) b1 d λb2=>A.c q (.bool true) b2 d λw=>A.fr w (Ya 2) e d λb3=>
 A.fa w b3 d λb4=>A.fb w .lss b4 (jv 0) d λb5=>A.c w (.bool true) b5 d λy=>A.fr y (Ya 2) e d λb6=>A.fa y b6 d λb7=>A.fb y .gtr b7 (jv 10) d λb8=>
 A.c y (.bool true) b8 d λb9=>A.test b9 (p (.bool false) d) (A.r (Xc true 2) j d λc0=>A.r (Ya 3) e d λc1=>A.a c1 d λc2=>A.k 117 [c0,c2,jv 60] d λc3 d=>
 A.r (Qo .not) c3 d λl=>A.fr l (Xc true 2) j d λc4=>A.fr l (Ya 4) e d λc5=>A.fa l c5 d λc6=>A.gw l false (λk=>A.k 117 [c4,c6,jv 10] d k) d λc7 d=>
 A.fr l (Qo .not) c7 d λc8=>A.c l (.bool true) c8 d λm=>A.fr m (Xc true 2) j d λc9=>A.fr m (Ya 5) e d λd0=>A.fa m d0 d λd1=>A.gw m false (λk=>A.k 117 [c9,d1,jv 1000000] d k) d λd2 d=>
 A.fr m (Qo .not) d2 d λd3=>A.c m (.bool true) d3 d λn=>A.fr n (Xc true 2) j d λd4=>A.fr n (Ya 7) e d λd5=>A.fa n d5 d λd6=>A.gw n false (λk=>A.k 117 [d4,d6,jv 1000000] d k) d λd7 d=>
 A.fr n (Qo .not) d7 d λd8=>A.c n (.bool true) d8 d λt=>A.fr t (Ya 6) e d λd9=>A.fa t d9 d λe0=>A.fr t Qe e0 d λe1=>A.fb t .gtr e1 (jv 7) d λe2=>
 A.c t (.bool true) e2 d λe3=>A.test e3 (p (.bool false) d) (A.loop (λe4 h d=>A.r (Ya 6) e d λe5=>A.a e5 d λe6=>A.r Qe e6 d λe7=>
 A.b .lss (h0 h) e7 d λe8=>A.test e8 (A.r (Ya 6) e d λe9=>A.a e9 d λf0=>A.s (Yc 4) f0 (h0 h) d λf1=>A.r (Xc true 4) f1 d λf2=>
 A.wr (Xe zq3 [] d) d λf d=>A.ws (Xb 4) f f2 d λ_ d=>A.r (Ya 1) f d λf3=>A.a f3 d λf4=>A.b .lss f4 (jv 0) d λi=>A.fr i (Ya 1) f d λf5=>
 A.fa i f5 d λf6=>A.fr i (Ya 0) j d λf7=>A.fa i f7 d λf8=>A.fr i Qe f8 d λf9=>A.fb i .geq f6 f9 d λg0=>A.c i (.bool true) g0 d λg=>
 A.fr g (Ya 0) j d λg1=>A.fa g g1 d λg2=>A.fr g (Ya 1) f d λg3=>A.fa g g3 d λg4=>A.fs g (Yc 12) g2 g4 d λg5=>A.fr g (Ya 1) g5 d λg6=>
 A.fa g g6 d λg7=>A.fr g (Qo .not) g7 d λg8=>A.c g (.bool true) g8 d λz=>A.fr z (Ya 2) f d λg9=>A.fa z g9 d λi0=>A.fb z .lss i0 (jv 0) d λi1=>
 A.c z (.bool true) i1 d λa0=>A.fr a0 (Ya 2) f d λi2=>A.fa a0 i2 d λi3=>A.fb a0 .gtr i3 (jv 1000000) d λi4=>A.c a0 (.bool true) i4 d λa1=>
 A.fr a1 (Ya 0) f d λi5=>A.fa a1 i5 d λi6=>A.fb a1 .lss i6 (jv 1) d λi7=>A.c a1 (.bool true) i7 d λo=>A.fr o (Ya 0) f d λi8=>
 A.fa o i8 d λi9=>A.fr o (Ya 6) t1 d λj0=>A.fa o j0 d λj1=>A.fb o .geq i9 j1 d λj2=>A.c o (.bool true) j2 d λj3=>A.test j3 (p (.bool false) d) (
 A.loop (λj4 a2 d=>A.r Qe (h1 h) d λj5=>A.b .lss (h0 a2) j5 d λj6=>A.test j6 (A.s (Yc 1) (h1 h) (h0 a2) d λj7=>A.a j7 d λj8=>A.r (Ya 0) f d λj9=>
 A.a j9 d λl0=>A.b .eql j8 l0 d λl1=>A.test l1 (p (.bool false) d) (A.b .add (h0 a2) (jv 1) d λl2=>j4 [l2] d)) (A.r (Ya 0) f d λl3=>A.a l3 d λl4=>
 A.wr (Xi 1 1 [jv 0] [(0,1)] [l4] d) d λl5 d=>A.wr (Qi 1 8 [(h1 h),l5] d) d λl6 d=>A.b .add (h0 h) (jv 1) d λl7=>e4 [l7,l6] d)) [jv 0] d)) (
 A.b .add (h0 u) (jv 1) d λl8=>a3 [l8,(h1 h)] d)) [jv 0,(h1 u)] d))) (p (.bool true) d)) [jv 0,.nils] d
 |_=>A.stop
theorem g68_ok:GQ 68 2 g68:=gq2 [none,some [6,5],none,none,none,none,none,some [8,5],none,none,none,none,some [10],none,none,none] λ_ _ _ _ _ _=>by kernel_rfl
def g71:GFun:=λA xs c e=>match xs with
 |[x0,x1]=>
 A.w1 Xk x0 c λg c=>A.w1 Xk x1 c λh c=>A.loop (λi d c=>A.b .lss (h0 d) (jv 2) c λj=>A.test j (A.r (Ya 7) g c λl=>A.s (Zg 2 8) l (h0 d) c λm=>
 A.r (Ya 6) m c λn=>A.a n c λo=>A.r (Qn (.func 119) 0) h c λp=>A.k 118 [o,p] c λf c=>A.b .geq f (jv 0) c λq=>A.test q (e (.tup [(h0 d),f,.bool true]) c) (
 A.b .add (h0 d) (jv 1) c λt=>i [t] c)) (e (.tup zq6) c)) [jv 0] c
 |_=>A.stop
theorem g71_ok:GQ 71 2 g71:=gq2 [none,some [9],none,none,none] λ_ _ _ _ _ _=>by kernel_rfl
def g72:GFun:=λA xs a d=>match xs with
 |[x0,x1,x2]=>
 A.r Qe x0 a λe=>A.rd (Qaf [x0,x1,x2,e] a) λp=>A.b .eql x1 x2 a λf=>A.test f (d x0 a) (A.r Qe x0 a λg=>A.dr (Xaf 4 [x0,x1] a) a λh i a=>
 A.dr (Yaf 4 [x0,x2] a) a λj l a=>A.dr (Qi 4 32 [h,j] a) a λc m a=>A.gd (Zi [[],[],[0,1],[],[],[3,4],[0,1,2,3,4,5],[0,1,2,3,4,5,6]] [([],[]),([],[]),i,([],[]),([],[]),l,m,([],[])]) <|
 A.r Qe c a λn=>A.rd (Yax 4 [c,n,g] a) λo=>A.w1 (Zax 4 zq3) o a λ_ a=>d c a)
 |_=>A.stop
theorem g72_ok:GQ 72 3 g72:=gq3 [none] λ_ _ _ _ _ _ _=>by kernel_rfl
end Go.Ah.Tz
end
section
namespace Go.Ah.Tz
open Go.Proofs.Tryz (prog)
theorem hP:prog.follows .mixedOrders=true:=by kernel_rfl
def Grows(n:Nat)(rows:List (List AVal))(k:Nat)(v:AVal)(σ:List ABlk):Prop:=
 (k=0∧v=.nils∧rows=[])∨(0<k∧∃b,v=.sl b 0 k false∧hget σ b=.rows n rows∧rows.length=k)
theorem Grows.nil(n:Nat)(σ:List ABlk):Grows n [] 0 .nils σ:=.inl ⟨rfl,rfl,rfl⟩
theorem Grows.app{α:Type}(A:Ans α){hold:α→Prop}{n by_ k:Nat}{rows:List (List AVal)}{v:AVal}{σ:List ABlk}{row:List AVal}(hg:Grows n rows k v σ)(hr:row.all AVal.cell=true)(hroom:(2*(k+1)+192)*by_≤2 ^ 48)(K:AVal→List ABlk→α)
 (hK:∀v' σ',Grows n (rows++[row]) (k+1) v' σ'→hold (K v' σ')):hold (A.wr (Qi n by_ [v,.sl σ.length 0 1 true] (σ++[.rows n [row]])) (σ++[.rows n [row]]) K):=by
 rcases hg with ⟨rfl,rfl,rfl⟩|⟨hk,b,rfl,hb,hl⟩
 ·rw[QaP A n by_ σ row hr (by simpa using hroom)];exact hK _ _ (.inr ⟨by omega,_,rfl,by have:=Yl (σ++[.rows n [row]]) (.rows n [row]); simpa using this,rfl⟩)
 ·rw[Qba A n by_ σ b k false rows row hb hl hr hroom];refine hK _ _ (.inr ⟨by omega,_,rfl,?_,by simp[hl]⟩);have:=Yl (σ.set b .dead++[.rows n [row]]) (.rows n (rows++[row]));simpa using this
theorem Z0{α:Type}{f:α→List AVal}{l:List α}{m:Nat→Option Nat}(h:∀x,(f x).map (AVal.ren m)=f x):(l.map f).map (λr=>r.map (AVal.ren m))=l.map f:=by
 rw[List.map_map]; apply List.map_congr_left; intro x _; exact h x
theorem Grows.tidy{α:Type}{n k:Nat}{v:AVal}{σ:List ABlk}{f:α→List AVal}{l:List α}(hg:Grows n (l.map f) k v σ)(hk:k=l.length)(hf:∀(m:Nat→Option Nat) x,(f x).map (AVal.ren m)=f x):Tidy σ v [.rows n (l.map f)] (.sl 0 0 l.length false):=by
 rcases hg with ⟨h1,rfl,h3⟩|⟨hpos,b,rfl,hb,hl⟩
 ·have hl:l=[]:=by simpa using h3
  subst hl;refine(Tidy.ghost n (.inl rfl)).trans ?_;have:=Tidy.one (σ:=σ++[.rows n []]) (b:=σ.length) (blk:=.rows n []) (by simp) (λx=>if x=σ.length then some 0 else none) (λ_=>rfl) (.sl σ.length 0 0 false);simpa using this
 ·subst hk;have:=Tidy.one (σ:=σ) (b:=b) (ZT hb (by simp)) (λx=>if x=b then some 0 else none) (λ_=>rfl) (.sl b 0 l.length false);simp only[ABlk.mapV,AVal.ren,if_true] at this
  rwa [Z0 (hf _)] at this
theorem QbH(m:Nat→Option Nat)(x:Int):(cel x).map (AVal.ren m)=cel x:=rfl
theorem Qb1(m:Nat→Option Nat)(x:Th):(thC x).map (AVal.ren m)=thC x:=rfl
theorem c60(l:List Int)(hl:l.length≤1000000000):NCall prog GL0 60 [rowV l] (.sl 0 0 l.length false) [.rows 1 (l.map cel)]:=by
 refine Qv hP g60_ok rfl ?_;simp only[g60];refine Qk (ι:=Nat) (λi vs s=>∃v,vs=[iv i,v]∧i≤l.length∧Grows 1 ((l.take i).map cel) i v s) (λi=>l.length-i) 0 ⟨_,rfl,by omega,Grows.nil _ _⟩ ?_;rintro i vs s again ⟨v,rfl,hi,hg⟩ hag;simp only[Xh,Xbg,h0,h1,hdV,tlV,Q2,XbF,List.length_map];refine⟨λh=>?_,λh=>?_⟩
 ·have h:i<l.length:=by simpa using h
  simp only[Yo _ cel _ _ _ l _ i h,Xbg,YaR,partA,cel,nth];rw[Z2 _ _ _ _ _ [iv l[i]] rfl rfl];refine hg.app _ (hold:=λp=>p) rfl (by omega) _ (λv' σ' hg'=>?_);simp only[Zk,Xbg,Yg (n:=i) (by omega)];exact hag (i+1) _ _ (by omega) ⟨v',rfl,by omega,by rw[←ZC _ _ _ h]; exact hg'⟩
 ·have h:¬i<l.length:=by simpa using h
  have:i=l.length:=by omega
  subst this;rw[List.take_length] at hg;exact hg.tidy rfl QbH
end Go.Ah.Tz
end
section
namespace Go.Ah.Tz
open Go.Proofs.Tryz (prog)
set_option maxRecDepth 100000
def g3:GFun:=λA xs d g=>match xs with
 |[x0,x1,x2,x3,x4,x5]=>
 A.w1 Xk x0 d λh d=>A.w1 Xk x1 d λf d=>A.r (Xc true 2) h d λt2=>A.k 14 [t2] d λn d=>A.fr n (Xc true 23) f d λt4=>A.gw n false (λk=>A.k 15 [t4] d k) d λt5 d=>
 A.c n (.bool true) t5 d λi=>A.fr i (Xc true 2) h d λt7=>A.fr i (Xc true 23) f d λt8=>A.gw i false (λk=>A.k 16 [t7,t8] d k) d λt9 d=>
 A.fb i .neq t9 (jv 0) d λa5=>A.c i (.bool true) a5 d λo=>A.fr o Qh x2 d λa6=>A.fb o .lss a6 (jv 0) d λa7=>A.c o (.bool true) a7 d λp=>A.fr p Qh x2 d λa8=>
 A.fb p .gtr a8 (jv 1) d λa9=>A.c p (.bool true) a9 d λb0=>A.test b0 (A.k 17 [] d λb1 d=>g b1 d) (A.r (Xc true 2) h d λb2=>A.r (Xc true 23) f d λb3=>
 A.k 18 [b2,b3,x2] d λq d=>A.r (Qd 0) q d λb4=>A.r (Qd 1) q d λb5=>A.r (Qd 2) q d λb6=>A.wr (Xe zq0 [] d) d λe d=>
 A.wr (Xe zq1 [] d) d λt d=>A.ws (Xb 23) e b4 d λ_ d=>A.ws (Xb 7) t b5 d λ_ d=>A.b .eql b6 (jv 0) d λb7=>joinK (λa1=>A.test b7 (
 A.r (Xc true 23) f d λb8=>A.k 19 [b8] d λb9 d=>A.wr (Xe zq0 [] d) d λj d=>A.ws (Xb 23) j b9 d λ_ d=>A.r (Ya 7) e d λc0=>
 A.s (Zg 2 8) c0 x2 d λc1=>A.r (Xc true 8) c1 d λc2=>A.r (Ya 7) j d λc3=>A.s (Zg 2 8) c3 x2 d λc4=>A.ws (Xb 8) c4 c2 d λ_ d=>
 A.r (Ya 0) t d λc5=>A.a c5 d λc6=>A.b .eql c6 (.int .i8 4) d λc7=>joinK (λa2=>A.test c7 (A.pu (Yi .sub false [jv 1,x2] d) λc8=>
 A.pu (Yi .sub false [jv 1,x2] d) λc9=>A.pu (Ya 7 [j] d) λd0=>A.pu (Zg 2 8 [d0,c9] d) λd1=>A.pu (Ya 7 [d1] d) λd2=>
 A.dr (Qg [d2] d) d λd3 d4 d=>A.pu (Ya 2 [t] d) λd5=>A.dr (Qg [d5] d) d λd6 d7 d=>A.dr (Xi 1 1 [jv 0] [(0,1)] [d6] d) d λd8 d9 d=>
 A.dr (Qi 1 8 [d3,d8] d) d λe0 e1 d=>A.pu (Ya 7 [j] d) λe2=>A.pu (Zg 2 8 [e2,c8] d) λe3=>A.pu (Ya 7 [e3] d) λe4=>
 A.dr (Xb 1 [e4,e0] d) d λ_ e5 d=>A.gd (Zi [[],[0],[],[2],[],[2,3,4],[2,3,4,5],[2,3,4,5,6],[],[8],[8,9],[2,3,4,5,6,7,8,9,10],[],[0,1,2,3,4,5,6,7,8,9,10,11,12],[0,1,2,3,4,5,6,7,8,9,10,11,12,13],[0,1,2,3,4,5,6,7,8,9,10,11,12,13,14]] [([],[]),([],[]),([],[]),([],[]),([],[]),([],[]),([],[]),d4,([],[]),d7,d9,e1,([],[]),([],[]),([],[]),e5]) <|
 a2 [] d) (a2 [] d)) (λo1 d=>A.r (Xc true 23) e d λe6=>A.r (Xc true 23) j d λe7=>A.k 20 [e6,e7] d λe8 d=>A.r (Qo .not) e8 d λe9=>A.test e9 (
 g (.bool false) d) (a1 [] d))) (a1 [] d)) (λo2 d=>A.r (Xc true 2) h d λf0=>A.r (Xc true 23) f d λf1=>A.k 21 [f0,f1,x2,x3] d λu d=>A.r (Qd 0) u d λf2=>
 A.r (Qd 1) u d λf3=>A.r (Qd 2) u d λf4=>A.wr (Xe zq1 [] d) d λf5 d=>A.ws (Xb 23) e f2 d λ_ d=>A.ws (Xb 7) f5 f3 d λ_ d=>
 joinK (λa3=>A.test f4 (A.r (Xc true 23) f d λf6=>A.k 19 [f6] d λf7 d=>A.wr (Xe zq0 [] d) d λl d=>A.ws (Xb 23) l f7 d λ_ d=>A.r (Ya 7) e d λf8=>
 A.s (Zg 2 8) f8 x2 d λf9=>A.r (Ya 6) f9 d λg0=>A.a g0 d λg1=>A.r (Ya 7) l d λg2=>A.s (Zg 2 8) g2 x2 d λg4=>
 A.r (Ya 6) g4 d λg5=>A.ws (Xb 1) g5 g1 d λ_ d=>A.r (Ya 6) e d λg6=>A.a g6 d λg7=>A.r (Ya 6) l d λg8=>A.ws (Xb 1) g8 g7 d λ_ d=>
 A.r (Xc true 23) e d λg9=>A.r (Xc true 23) l d λi0=>A.k 20 [g9,i0] d λi1 d=>A.r (Qo .not) i1 d λi2=>A.test i2 (g (.bool false) d) (a3 [] d)) (
 a3 [] d)) (λo3 d=>A.r (Xc true 2) h d λi3=>A.r (Xc true 23) f d λi4=>A.k 22 [i3,i4,x4,x2,x5] d λv d=>A.r (Qd 0) v d λi5=>
 A.r (Qd 1) v d λo4=>A.r (Qd 2) v d λi6=>A.ws (Xb 23) e i5 d λ_ d=>A.b .neq i6 (jv 0) d λi7=>A.test i7 (A.k 17 [] d λi9 d=>
 g i9 d) (A.r (Xc true 23) f d λj0=>A.k 19 [j0] d λj1 d=>A.wr (Xe zq0 [] d) d λm d=>A.ws (Xb 23) m j1 d λ_ d=>A.r (Xc true 23) f d λj2=>
 A.k 23 [j2,x4] d λw d=>A.r (Qd 0) w d λy=>A.r (Qd 1) w d λz=>A.r (Qd 2) w d λj3=>A.r (Qo .not) j3 d λj4=>joinK (λa0=>
 A.test j4 (A.r (Ya 7) e d λj5=>A.s (Zg 2 8) j5 x2 d λj6=>A.r (Ya 0) j6 d λj7=>A.a j7 d λj8=>A.r (Ya 7) m d λj9=>
 A.s (Zg 2 8) j9 x2 d λl0=>A.r (Ya 0) l0 d λl1=>A.ws (Xb 1) l1 j8 d λ_ d=>a0 [] d) (A.r (Ya 7) e d λl2=>A.s (Zg 2 8) l2 y d λl3=>
 A.r (Ya 6) l3 d λl4=>A.a l4 d λl5=>A.r Qe l5 d λl6=>A.b .lss z l6 d λl7=>A.test l7 (A.pu (Ya 7 [m] d) λl8=>A.pu (Zg 2 8 [l8,y] d) λl9=>
 A.pu (Ya 6 [l9] d) λm0=>A.dr (Qg [m0] d) d λm1 m2 d=>A.pu (Ya 7 [e] d) λm3=>A.pu (Zg 2 8 [m3,y] d) λm4=>A.pu (Ya 6 [m4] d) λm5=>
 A.dr (Qg [m5] d) d λm6 m7 d=>A.dr (Yc 4 [m6,z] d) d λm8 m9 d=>A.pu (Ya 2 [m8] d) λn0=>A.dr (Qg [n0] d) d λn1 n2 d=>A.dr (Yc 4 [m1,z] d) d λn3 n4 d=>
 A.pu (Ya 2 [n3] d) λn5=>A.dr (Xb 1 [n5,n1] d) d λ_ n6 d=>A.gd (Zi [[],[],[0,1],[0,1,2],[0,1,2,3],[],[],[],[6,7],[6,7,8],[6,7,8,9],[],[6,7,8,9,10,11],[6,7,8,9,10,11,12],[6,7,8,9,10,11,12,13],[0,1,2,3,4,5,6,7,8,9,10,11,12,13,14],[0,1,2,3,4,5,6,7,8,9,10,11,12,13,14,15],[0,1,2,3,4,5,6,7,8,9,10,11,12,13,14,15,16]] [([],[]),([],[]),([],[]),([],[]),m2,([],[]),([],[]),([],[]),([],[]),([],[]),m7,([],[]),m9,([],[]),n2,n4,([],[]),n6]) <|
 a0 [] d) (a0 [] d))) (λo5 d=>A.r (Xc true 23) e d λn7=>A.r (Xc true 23) m d λn8=>A.k 20 [n7,n8] d λa4 d=>A.gw a4 true (λk=>A.k 17 [] d k) d λn9 d=>
 A.c a4 n9 (.bool false) d λo0=>g o0 d)))))
 |_=>A.stop
def g5:GFun:=λA xs d a1=>match xs with
 |[x0,x1,x2,x3,x4]=>
 A.w1 Xk x0 d λf d=>A.w1 Xk x1 d λm d=>A.w1 Xk x2 d λn d=>A.w1 Xk x3 d λo d=>A.r (Xc true 2) f d λt4=>A.k 14 [t4] d λv d=>
 A.fr v (Xc true 23) m d λt6=>A.gw v false (λk=>A.k 15 [t6] d k) d λt7 d=>A.c v (.bool true) t7 d λh=>A.fr h (Xc true 2) f d λt9=>A.fr h (Xc true 23) m d λa7=>
 A.gw h false (λk=>A.k 16 [t9,a7] d k) d λa8 d=>A.fb h .neq a8 (jv 0) d λa9=>A.c h (.bool true) a9 d λp=>A.fr p (Ya 0) n d λb0=>A.fa p b0 d λb1=>
 A.fb p .lss b1 (jv 0) d λb2=>A.c p (.bool true) b2 d λq=>A.fr q (Ya 0) n d λb3=>A.fa q b3 d λb4=>A.fb q .gtr b4 (jv 1) d λb5=>A.c q (.bool true) b5 d λt=>
 A.fr t (Xc true 4) o d λb6=>A.gw t false (λk=>A.k 29 [b6] d k) d λb7 d=>A.fr t (Qo .not) b7 d λb8=>A.c t (.bool true) b8 d λb9=>A.test b9 (
 A.k 30 [] d λc0 d=>a1 c0 d) (A.r (Xc true 23) m d λc1=>A.k 19 [c1] d λc2 d=>A.wr (Xe zq0 [] d) d λi d=>A.ws (Xb 23) i c2 d λ_ d=>
 A.loop (λc3 g d=>A.b .lss (h0 g) (jv 2) d λc4=>A.test c4 (A.r (Ya 7) i d λc5=>A.s (Zg 2 8) c5 (h0 g) d λc6=>A.r (Ya 3) c6 d λc7=>
 A.a c7 d λc8=>A.r (Ya 7) i d λc9=>A.s (Zg 2 8) c9 (h0 g) d λd0=>A.r (Ya 4) d0 d λd1=>A.a d1 d λd2=>A.rd (Ye [.nils,.nils] [(0,1),(1,1)] [c8,d2] d) λd3=>
 A.loop (λd4 j d=>A.b .lss (h0 j) (jv 2) d λd5=>A.test d5 (A.s (YX false 2 1) d3 (h0 j) d λa2=>A.r Qe a2 d λd6=>A.loop (λd7 e d=>A.b .lss (h0 e) d6 d λd8=>
 A.test d8 (joinK (λa3=>A.r Qe x4 d λd9=>A.b .lss (h1 e) d9 d λe0=>A.test e0 (A.dr (Yc 1 [x4,(h1 e)] d) d λe1 e2 d=>A.dr (Qg [e1] d) d λe3 e4 d=>
 A.pu (Ya 0 [f] d) λe5=>A.dr (Qg [e5] d) d λe6 e7 d=>A.pu (Qe [e6] d) λe8=>A.pu (Yi .rem false [e3,e8] d) λe9=>A.pu (Ya 0 [f] d) λf0=>
 A.dr (Qg [f0] d) d λf1 f2 d=>A.pu (Qe [f1] d) λf3=>A.pu (Yi .add false [e9,f3] d) λf4=>A.pu (Ya 0 [f] d) λf5=>A.dr (Qg [f5] d) d λf6 f7 d=>
 A.pu (Qe [f6] d) λf8=>A.pu (Yi .rem false [f4,f8] d) λf9=>A.dr (Yc 1 [a2,(h0 e)] d) d λg0 g1 d=>A.dr (Xb 1 [g0,f9] d) d λ_ g2 d=>
 A.gd (Zi [[],[],[],[],[2,3],[2,3,4],[],[6],[6,7],[2,3,4,5,6,7,8],[],[10],[10,11],[2,3,4,5,6,7,8,9,10,11,12],[],[14],[14,15],[2,3,4,5,6,7,8,9,10,11,12,13,14,15,16],[0,1,2,3,4,5,6,7,8,9,10,11,12,13,14,15,16,17],[0,1,2,3,4,5,6,7,8,9,10,11,12,13,14,15,16,17,18]] [([],[]),([],[]),([],[]),([],[]),e2,e4,([],[]),e7,([],[]),([],[]),([],[]),f2,([],[]),([],[]),([],[]),f7,([],[]),([],[]),g1,g2]) <|
 A.b .add (h1 e) (jv 1) d λg3=>a3 [g3] d) (a3 [(h1 e)] d)) (λg4 d=>A.b .add (h0 e) (jv 1) d λg6=>d7 [g6,(h0 g4)] d)) (A.b .add (h0 j) (jv 1) d λg7=>
 d4 [g7,(h1 e)] d)) [jv 0,(h1 j)] d) (A.r (Ya 7) i d λg8=>A.s (Zg 2 8) g8 (h0 g) d λg9=>A.r (Ya 7) g9 d λi0=>A.ws (Xb 1) i0 .nils d λ_ d=>
 A.b .add (h0 g) (jv 1) d λi1=>c3 [i1,(h1 j)] d)) [jv 0,(h1 g)] d) (A.r (Xc true 2) f d λi2=>A.r (Xc true 23) m d λi3=>A.r (Xc true 2) n d λi4=>
 A.r (Xc true 4) o d λi5=>A.k 31 [i2,i3,i4,i5] d λa4 d=>A.r (Qd 0) a4 d λw=>A.r (Qd 1) a4 d λi6=>A.r (Xc true 2) f d λi7=>
 A.r (Xc true 23) i d λi8=>A.r (Xc true 2) n d λi9=>A.r (Xc true 4) o d λj0=>A.k 31 [i7,i8,i9,j0] d λa5 d=>A.r (Qd 0) a5 d λj1=>
 A.r (Qd 1) a5 d λj2=>A.b .eql i6 (jv 0) d λy=>A.tr y Qh j2 d λj3=>A.tb y .eql j3 (jv 0) d λj4=>A.c y j4 (.bool false) d λl=>A.tr l (Xc true 4) o d λj5=>
 A.gw l true (λk=>A.k 32 [j5] d k) d λj6 d=>A.tr l Qh j6 d λu=>A.fr u Qh w d λj7=>A.fr u Qh j1 d λj8=>A.fb u .eql j7 j8 d λj9=>A.tc l u (.bool true) j9 d λl0=>
 A.c l l0 (.bool false) d λz=>A.tr z Qh w d λl1=>A.tb z .geq l1 (jv (-1000000)) d λl2=>A.c z l2 (.bool false) d λa0=>A.tr a0 Qh w d λl3=>
 A.tb a0 .leq l3 (jv 1000000) d λl4=>A.c a0 l4 (.bool false) d λa6=>A.gw a6 true (λk=>A.k 30 [] d k) d λl5 d=>A.c a6 l5 (.bool false) d λl6=>
 a1 l6 d)) [jv 0,jv 0] d)
 |_=>A.stop
theorem g5_ok:GQ 5 5 g5:=gq5 [none,none,some [51,12],none,none,none,some [65,12],none,none,none,some [70,12],none,some [12],none] λ_ _ _ _ _ _ _ _ _=>by kernel_rfl
def g6:GFun:=λA xs a i=>match xs with
 |[x0,x1,x2]=>
 A.w1 Xk x0 a λe a=>A.w1 Xk x1 a λd a=>A.w1 Xk x2 a λf a=>A.r (Xc true 2) e a λl=>A.k 14 [l] a λg a=>A.fr g (Xc true 23) d a λm=>
 A.gw g false (λk=>A.k 15 [m] a k) a λn a=>A.c g (.bool true) n a λh=>A.fr h (Xc true 6) f a λo=>A.gw h false (λk=>A.k 33 [o] a k) a λp a=>
 A.c h (.bool true) p a λq=>A.test q (A.k 34 [] a λs a=>i s a) (A.dr (Xc true 2 [e] a) a λt u a=>A.dr (Xc true 23 [d] a) a λv w a=>A.dr (Xc true 6 [f] a) a λy z a=>
 A.dcall (.call 35) [t,v,y] a λa0 a1 a=>A.dr (Xc true 2 [e] a) a λa2 a3 a=>A.dr (Xc true 23 [d] a) a λa4 a5 a=>A.dr (Xc true 6 [f] a) a λa6 a7 a=>
 A.dcall (.call 36) [a2,a4,a6] a λa8 a9 a=>A.pu (Yi .eql false [a0,a8] a) λb=>A.gl b true (λk=>A.dr (Xc true 23 [d] a) a k) a λb0 b1 a=>
 A.gl b true (λk=>A.dcall (.call 37) [b0] a k) a λb2 b3 a=>A.gl b true (λk=>A.dr (Xc true 23 [d] a) a k) a λb4 b5 a=>A.gl b true (λk=>A.dcall (.call 38) [b4] a k) a λb6 b7 a=>
 A.gr b true (λk=>A.pu (Yi .eql false [b2,b6] a) k) λb8=>A.pu (Zn [b,b8,.bool false] a) λj=>A.gl j true (λk=>A.dcall (.call 34) [] a k) a λb9 c0 a=>
 A.pu (Zn [j,b9,.bool false] a) λc1=>A.gd (Zi [[],[],[],[0,1,2],[],[],[],[0,1,2,3,4,5,6],[0,1,2,3,4,5,6,7],[0,1,2,3,4,5,6,7,8],[0,1,2,3,4,5,6,7,8,9],[0,1,2,3,4,5,6,7,8,9,10],[0,1,2,3,4,5,6,7,8,9],[0,1,2,3,4,5,6,7,8,9,10,11,12],[0,1,2,3,4,5,6,7,8,9,10,11,12,13],[0,1,2,3,4,5,6,7,8,9,10,11,12,13,14],[0,1,2,3,4,5,6,7,8,9,10,11,12,13,14,15],[0,1,2,3,4,5,6,7,8,9,10,11,12,13,14,15,16],[0,1,2,3,4,5,6,7,8,9,10,11,12,13,14,15,16,17],[0,1,2,3,4,5,6,7,8,9,10,11,12,13,14,15,16,17,18]] [u,w,z,a1,a3,a5,a7,a9,([],[]),([],[]),b1,b3,b5,b7,([],[]),([],[]),([],[]),c0,([],[]),([],[])]) <|
 i c1 a)
 |_=>A.stop
def g14:GFun:=λA xs d h=>match xs with
 |[x0]=>
 A.w1 Xk x0 d λf d=>A.r (Ya 1) f d λi=>A.a i d λj=>A.r Qe j d λl=>A.loop (λm e d=>A.b .lss (h0 e) l d λn=>A.test n (A.r (Ya 1) f d λo=>
 A.a o d λp=>A.s (Yc 7) p (h0 e) d λq=>A.r (Ya 4) q d λt=>A.a t d λu=>A.r Qe u d λv=>A.b .add (jv 1) v d λw=>A.r (Ya 1) f d λy=>
 A.a y d λz=>A.s (Yc 7) z (h0 e) d λa0=>A.r (Ya 5) a0 d λa1=>A.a a1 d λa2=>A.r Qe a2 d λa3=>A.b .add w a3 d λa4=>A.b .add (h1 e) a4 d λa5=>
 A.b .add (h0 e) (jv 1) d λa6=>m [a6,a5] d) (A.b .gtr (h1 e) (jv 600) d λg=>A.fr g (Ya 0) f d λa7=>A.fa g a7 d λa8=>A.gw g false (λk=>A.k 52 [a8] d k) d λa9 d=>
 A.c g (.bool true) a9 d λb0=>h b0 d)) [jv 0,jv 0] d
 |_=>A.stop
theorem g14_ok:GQ 14 1 g14:=gq1 [none,some [8,3],none,none] λ_ _ _ _ _=>by kernel_rfl
def g15:GFun:=λA xs c g=>match xs with
 |[x0]=>
 A.w1 Xk x0 c λf c=>A.r (Ya 5) f c λh=>A.a h c λi=>A.r Qe i c λj=>A.loop (λl e c=>A.b .lss (h0 e) (jv 2) c λm=>A.test m (
 A.r (Ya 7) f c λn=>A.s (Zg 2 8) n (h0 e) c λo=>A.r (Xc true 8) o c λp=>A.wr (Xe zq4 [] c) c λd c=>A.ws (Xb 8) d p c λ_ c=>
 A.r (Ya 3) d c λq=>A.a q c λt=>A.r Qe t c λu=>A.r (Ya 4) d c λv=>A.a v c λw=>A.r Qe w c λy=>A.b .add u y c λz=>
 A.r (Ya 5) d c λa0=>A.a a0 c λa1=>A.r Qe a1 c λa2=>A.b .add z a2 c λa3=>A.r (Ya 6) d c λa4=>A.a a4 c λa5=>A.r Qe a5 c λa6=>
 A.b .add a3 a6 c λa7=>A.r (Ya 7) d c λa8=>A.a a8 c λa9=>A.r Qe a9 c λb0=>A.b .add a7 b0 c λb1=>A.b .add (h1 e) b1 c λb2=>A.b .add (h0 e) (jv 1) c λb3=>
 l [b3,b2] c) (A.b .gtr (h1 e) (jv 2000) c λb4=>g b4 c)) [jv 0,j] c
 |_=>A.stop
theorem g15_ok:GQ 15 1 g15:=gq1 [none,some [9,3],none,none] λ_ _ _ _ _=>by kernel_rfl
def g16:GFun:=λA xs a b=>match xs with
 |[x0,x1]=>
 A.w1 Xk x0 a λc a=>A.w1 Xk x1 a λd a=>A.r (Xc true 2) c a λe=>A.r (Xc true 23) d a λf=>A.k 25 [e,f,.bool false] a λg a=>A.r (Qo .not) g a λh=>
 A.test h (b (jv 170) a) (b (jv 0) a)
 |_=>A.stop
theorem g16_ok:GQ 16 2 g16:=gq2 [none] λ_ _ _ _ _ _=>by kernel_rfl
def g17:GFun:=λA xs a a5=>match xs with
 |[]=>
 A.k 53 [] a λy a=>A.r (Qd 0) y a λt1=>A.r (Qd 1) y a λt2=>A.wr (Xe [.nils,.nils] [] a) a λe a=>A.wr (Xe zq0 [] a) a λh a=>
 A.ws (Xb 2) e t1 a λ_ a=>A.ws (Xb 23) h t2 a λ_ a=>A.r (Xc true 2) e a λt5=>A.r (Xc true 23) h a λt6=>A.k 54 [t5,t6,jv 1] a λo a=>
 A.r (Qd 0) o a λt8=>A.r (Qd 1) o a λt9=>A.r (Qd 2) o a λa6=>A.r (Xc true 2) e a λa7=>A.r (Xc true 23) h a λa8=>
 A.k 18 [a7,a8,jv 0] a λp a=>A.r (Qd 0) p a λa9=>A.r (Qd 1) p a λb0=>A.r (Qd 2) p a λb1=>A.wr (Xe zq0 [] a) a λz a=>
 A.wr (Xe zq1 [] a) a λa0 a=>A.ws (Xb 23) z a9 a λ_ a=>A.ws (Xb 7) a0 b0 a λ_ a=>A.r (Xc true 2) e a λb2=>A.r (Xc true 23) h a λb3=>
 A.k 22 [b2,b3,jv 1,jv 0,jv 3] a λq a=>A.r (Qd 0) q a λb4=>A.r (Qd 1) q a λb5=>A.r (Qd 2) q a λb6=>A.wr (Xe zq0 [] a) a λs a=>
 A.wr (Xe zq1 [] a) a λa1 a=>A.ws (Xb 23) s b4 a λ_ a=>A.ws (Xb 7) a1 b5 a λ_ a=>A.r (Xc true 2) e a λb7=>A.r (Xc true 23) h a λb8=>
 A.wr (Xi 1 1 [jv 0] [(0,1)] [jv 1] a) a λb9 a=>A.k 27 [b7,b8,b9] a λa2 a=>A.r (Qd 0) a2 a λc0=>A.r (Qd 1) a2 a λc1=>A.wr (Xe zq0 [] a) a λa3 a=>
 A.ws (Xb 23) a3 c0 a λ_ a=>A.r (Xc true 2) e a λc2=>A.r (Xc true 23) h a λc3=>A.k 55 [c2,c3] a λc4 a=>A.b .eql c4 (jv 0) a λj=>
 A.tr j (Xc true 2) e a λc5=>A.got j (Ye zq0 [] [] a) λc6=>A.gw j true (λk=>A.k 55 [c5,c6] a k) a λc7 a=>A.tb j .eql c7 (jv 170) a λc8=>
 A.c j c8 (.bool false) a λa4=>A.tr a4 Qh a6 a λc9=>A.c a4 c9 (.bool false) a λt=>A.tr t Qh t8 a λd0=>A.tb t .eql d0 (jv 3) a λd1=>A.c t d1 (.bool false) a λu=>
 A.tr u Qh t9 a λd2=>A.tb u .eql d2 (jv 2) a λd3=>A.c u d3 (.bool false) a λv=>A.tr v Qh b1 a λd4=>A.tb v .eql d4 (jv 0) a λd5=>A.c v d5 (.bool false) a λi=>
 A.tr i (Ya 7) z a λd6=>A.ts i (Zg 2 8) d6 (jv 0) a λd7=>A.tr i (Ya 0) d7 a λd8=>A.ta i d8 a λd9=>A.tb i .eql d9 (jv 19) a λe0=>
 A.c i e0 (.bool false) a λl=>A.tr l (Ya 2) a0 a λe1=>A.ta l e1 a λe2=>A.tb l .eql e2 (jv (-1)) a λe3=>A.c l e3 (.bool false) a λw=>
 A.tr w Qh b6 a λe4=>A.tb w .eql e4 (jv 0) a λe5=>A.c w e5 (.bool false) a λm=>A.tr m (Ya 5) a1 a λe6=>A.ta m e6 a λe7=>A.tb m .eql e7 (jv 2) a λe8=>
 A.c m e8 (.bool false) a λf=>A.tr f (Ya 7) s a λe9=>A.ts f (Zg 2 8) e9 (jv 0) a λf0=>A.tr f (Ya 6) f0 a λf1=>A.ta f f1 a λf2=>
 A.tr f Qe f2 a λf3=>A.tb f .eql f3 (jv 2) a λf4=>A.c f f4 (.bool false) a λd=>A.tr d (Ya 7) s a λf5=>A.ts d (Zg 2 8) f5 (jv 0) a λf6=>
 A.tr d (Ya 6) f6 a λf7=>A.ta d f7 a λf8=>A.ts d (Yc 4) f8 (jv 0) a λf9=>A.tr d (Ya 2) f9 a λg0=>A.ta d g0 a λg1=>A.tb d .eql g1 (jv 2) a λg2=>
 A.c d g2 (.bool false) a λg=>A.tr g (Ya 7) a3 a λg3=>A.ts g (Zg 2 8) g3 (jv 0) a λg4=>A.tr g (Ya 6) g4 a λg5=>A.ta g g5 a λg6=>
 A.tr g Qe g6 a λg7=>A.tb g .eql g7 (jv 1) a λg8=>A.c g g8 (.bool false) a λn=>A.tr n Qh c1 a λg9=>A.tr n Qe g9 a λi0=>A.tb n .eql i0 (jv 1) a λi1=>
 A.c n i1 (.bool false) a λi2=>a5 i2 a
 |_=>A.stop
theorem g17_ok:GQ 17 0 g17:=gq0 [] λ_ _ _ _=>by kernel_rfl
def g18:GFun:=λA xs d j=>match xs with
 |[x0,x1,x2]=>
 A.w1 Xk x0 d λo d=>A.w1 Xk x1 d λp d=>A.wr (Xe zq0 [] d) d λf d=>A.wr (Xe zq1 [] d) d λg d=>A.k 56 [o,p] d λi d=>A.s (XL .ptr false false) i .nilp d λq=>
 A.test q (A.rd (Ye zq0 [] [] d) λt=>A.rd (Ye zq1 [] [] d) λu=>A.ws (Xb 23) f t d λ_ d=>A.ws (Xb 7) g u d λ_ d=>A.opt (cellV true 23 f d) λr8=>
 A.opt (cellV true 7 g d) λr9=>j (.tup [r8,r9,jv 170]) d) (A.b .lss x2 (jv 0) d λm=>A.fr m Qh x2 d λv=>A.fb m .gtr v (jv 1) d λw=>A.c m (.bool true) w d λy=>
 A.test y (A.rd (Ye zq0 [] [] d) λz=>A.rd (Ye zq1 [] [] d) λa0=>A.ws (Xb 23) f z d λ_ d=>A.ws (Xb 7) g a0 d λ_ d=>A.opt (cellV true 23 f d) λr16=>
 A.opt (cellV true 7 g d) λr17=>j (.tup [r16,r17,jv 2]) d) (A.r Qa i d λa1=>A.r (Ya 1) a1 d λa2=>A.r (Ya 7) a2 d λa3=>
 A.s (Zg 2 8) a3 x2 d λe=>A.rd (Ye zq1 [(0,1),(1,1)] [.int .i8 3,x2] d) λa4=>A.wr (Xe zq1 [] d) d λh d=>A.ws (Xb 7) h a4 d λ_ d=>
 joinK (λn=>A.r Qa e d λa5=>A.r (Ya 3) a5 d λa6=>A.a a6 d λa7=>A.r Qe a7 d λa8=>A.b .eql a8 (jv 0) d λa9=>A.test a9 (
 A.r (Ya 2) h d λb0=>A.ws (Xb 1) b0 (jv (-1)) d λ_ d=>A.r Qa e d λb1=>A.r (Ya 0) b1 d λb2=>A.a b2 d λb3=>A.b .sub b3 (jv 1) d λb4=>
 A.r Qa e d λb5=>A.r (Ya 0) b5 d λb6=>A.ws (Xb 1) b6 b4 d λ_ d=>A.r Qa e d λb7=>A.r (Ya 0) b7 d λb8=>A.a b8 d λb9=>
 A.k 57 [b9] d λc0 d=>A.r (Qo .not) c0 d λc1=>A.test c1 (A.rd (Ye zq0 [] [] d) λc2=>A.rd (Ye zq1 [] [] d) λc3=>A.ws (Xb 23) f c2 d λ_ d=>
 A.ws (Xb 7) g c3 d λ_ d=>A.opt (cellV true 23 f d) λr45=>A.opt (cellV true 7 g d) λr46=>j (.tup [r45,r46,jv 171]) d) (n [] d)) (A.r Qa e d λc4=>
 A.r (Ya 4) c4 d λc5=>A.a c5 d λc6=>A.r Qe c6 d λc7=>A.b .geq c7 (jv 10) d λc8=>A.test c8 (A.r (Ya 0) h d λc9=>A.ws (Xb 1) c9 (.int .i8 4) d λ_ d=>
 A.pu (Qa [e] d) λd0=>A.pu (Ya 3 [d0] d) λd1=>A.pu (Qa [e] d) λd2=>A.pu (Ya 5 [d2] d) λd3=>A.dcall (.call 58) [d1,d3] d λd4 d5 d=>
 A.pu (Ya 2 [h] d) λd6=>A.dr (Xb 1 [d6,d4] d) d λ_ d7 d=>A.gd (Zi [[],[0],[0,1],[],[3],[3,4],[0,1,2,3,4,5],[0,1,2,3,4,5,6],[0,1,2,3,4,5,6,7]] [([],[]),([],[]),([],[]),([],[]),([],[]),([],[]),d5,([],[]),d7]) <|
 A.loop (λd8 l d=>A.b .lss (h0 l) (jv 2) d λd9=>A.test d9 (A.pu (Qa [i] d) λe0=>A.pu (Ya 1 [e0] d) λe1=>A.pu (Ya 7 [e1] d) λe2=>
 A.pu (Zg 2 8 [e2,(h0 l)] d) λe3=>A.pu (Ya 7 [e3] d) λe4=>A.dr (Qg [e4] d) d λe5 e6 d=>A.pu (Ya 2 [h] d) λe7=>A.dr (Qg [e7] d) d λe8 e9 d=>
 A.dr (Xi 1 1 [jv 0] [(0,1)] [e8] d) d λf0 f1 d=>A.dr (Qi 1 8 [e5,f0] d) d λf2 f3 d=>A.pu (Qa [i] d) λf4=>A.pu (Ya 1 [f4] d) λf5=>
 A.pu (Ya 7 [f5] d) λf6=>A.pu (Zg 2 8 [f6,(h0 l)] d) λf7=>A.pu (Ya 7 [f7] d) λf8=>A.dr (Xb 1 [f8,f2] d) d λ_ f9 d=>
 A.gd (Zi [[],[],[],[],[2],[2,4],[2,4,5],[2,3,4,5,6],[2,3,4,5,6,7],[2,3,4,5,6,7,8],[],[10],[10,11],[2,3,4,5,6,7,8,9,10,11,12],[0],[0,14],[0,14,15],[0,1,2,3,4,5,6,7,8,9,10,11,12,13,14,15,16],[0,1,2,3,4,5,6,7,8,9,10,11,12,13,14,15,16,17],[0,1,2,3,4,5,6,7,8,9,10,11,12,13,14,15,16,17,18]] [([],[]),([],[]),([],[]),([],[]),([],[]),([],[]),([],[]),([],[]),([],[]),e6,([],[]),e9,f1,f3,([],[]),([],[]),([],[]),([],[]),([],[]),f9]) <|
 A.b .add (h0 l) (jv 1) d λg0=>d8 [g0] d) (n [] d)) [jv 0] d) (A.pu (Qa [e] d) λg1=>A.pu (Ya 3 [g1] d) λg2=>A.pu (Qa [e] d) λg3=>
 A.pu (Ya 4 [g3] d) λg4=>A.dcall (.call 58) [g2,g4] d λg5 g6 d=>A.pu (Ya 2 [h] d) λg7=>A.dr (Xb 1 [g7,g5] d) d λ_ g8 d=>
 A.gd (Zi [[],[0],[0,1],[],[3],[3,4],[0,1,2,3,4,5],[0,1,2,3,4,5,6],[0,1,2,3,4,5,6,7]] [([],[]),([],[]),([],[]),([],[]),([],[]),([],[]),g6,([],[]),g8]) <|
 A.pu (Qa [e] d) λg9=>A.pu (Ya 7 [g9] d) λi0=>A.dr (Qg [i0] d) d λi1 i2 d=>A.pu (Ya 2 [h] d) λi3=>A.dr (Qg [i3] d) d λi4 i5 d=>
 A.dr (Xi 1 1 [jv 0] [(0,1)] [i4] d) d λi6 i7 d=>A.dr (Qi 1 8 [i1,i6] d) d λi9 j0 d=>A.pu (Qa [e] d) λj1=>A.pu (Ya 7 [j1] d) λj2=>
 A.dr (Xb 1 [j2,i9] d) d λ_ j3 d=>A.gd (Zi [[],[],[1],[1,2],[1,2,3],[],[5],[5,6],[1,2,3,4,5,6,7],[0,1,2,3,4,5,6,7,8],[0,1,2,3,4,5,6,7,8,9],[0,1,2,3,4,5,6,7,8,9,10]] [([],[]),([],[]),([],[]),([],[]),i2,([],[]),i5,i7,j0,([],[]),([],[]),j3]) <|
 n [] d))) (λl4 d=>A.pu (Qa [i] d) λj4=>A.pu (Ya 1 [j4] d) λj5=>A.dr (Xc true 23 [j5] d) d λj6 j7 d=>A.dcall (.call 59) [j6] d λj8 j9 d=>
 A.dr (Xc true 7 [h] d) d λl0 l1 d=>A.dr (Xb 23 [f,j8] d) d λ_ l2 d=>A.dr (Xb 7 [g,l0] d) d λ_ l3 d=>A.gd (Zi [[],[0],[0,1],[0,1,2],[0,1,2,3],[],[0,1,2,3,4],[0,1,2,3,4,5,6],[0,1,2,3,4,5,6,7]] [([],[]),([],[]),([],[]),j7,j9,l1,l2,l3,([],[])]) <|
 A.opt (cellV true 23 f d) λr117=>A.opt (cellV true 7 g d) λr118=>j (.tup [r117,r118,jv 0]) d)))
 |_=>A.stop
theorem g18_ok:GQ 18 3 g18:=gq3 [none,none,none,some [],none,none,none,none,some [94],none,none] λ_ _ _ _ _ _ _=>by kernel_rfl
def g19:GFun:=λA xs c i=>match xs with
 |[x0]=>
 A.w1 Xk x0 c λg c=>A.wr (Xe zq0 [] c) c λh c=>A.r (Xc true 23) g c λj=>A.wr (Xe zq0 [] c) c λe c=>A.ws (Xb 23) e j c λ_ c=>
 A.r (Ya 5) g c λl=>A.a l c λm=>A.k 60 [m] c λn c=>A.r (Ya 5) e c λo=>A.ws (Xb 1) o n c λ_ c=>A.loop (λp f c=>A.b .lss (h0 f) (jv 2) c λq=>
 A.test q (A.r (Ya 7) g c λt=>A.s (Zg 2 8) t (h0 f) c λu=>A.r (Xc true 8) u c λv=>A.wr (Xe zq4 [] c) c λd c=>A.ws (Xb 8) d v c λ_ c=>
 A.pu (Ya 0 [d] c) λw=>A.dr (Qg [w] c) c λy z c=>A.pu (Ya 1 [d] c) λa0=>A.dr (Qg [a0] c) c λa1 a2 c=>A.pu (Ya 2 [d] c) λa3=>
 A.dr (Qg [a3] c) c λa4 a5 c=>A.pu (Ya 3 [d] c) λa6=>A.dr (Qg [a6] c) c λa7 a8 c=>A.dcall (.call 60) [a7] c λa9 b0 c=>A.pu (Ya 4 [d] c) λb1=>
 A.dr (Qg [b1] c) c λb2 b3 c=>A.dcall (.call 60) [b2] c λb4 b5 c=>A.pu (Ya 5 [d] c) λb6=>A.dr (Qg [b6] c) c λb7 b8 c=>A.dcall (.call 60) [b7] c λb9 c0 c=>
 A.pu (Ya 6 [d] c) λc1=>A.dr (Qg [c1] c) c λc2 c3 c=>A.dcall (.call 61) [c2] c λc4 c5 c=>A.pu (Ya 7 [d] c) λc6=>A.dr (Qg [c6] c) c λc7 c8 c=>
 A.dcall (.call 60) [c7] c λc9 d0 c=>A.pu (Ye zq4 [(0,1),(1,1),(2,1),(3,1),(4,1),(5,1),(6,1),(7,1)] [y,a1,a4,a9,b4,b9,c4,c9] c) λd1=>
 A.pu (Ya 7 [e] c) λd2=>A.pu (Zg 2 8 [d2,(h0 f)] c) λd3=>A.dr (Xb 8 [d3,d1] c) c λ_ d4 c=>A.gd (Zi [[],[],[1],[],[3],[],[5],[],[7],[7,8],[],[10],[7,8,9,10,11],[],[13],[7,8,9,10,11,12,13,14],[],[16],[7,8,9,10,11,12,13,14,15,16,17],[],[19],[7,8,9,10,11,12,13,14,15,16,17,18,19,20],[1,2,3,4,5,6,7,8,9,10,11,12,13,14,15,16,17,18,19,20,21],[],[0,1,2,3,4,5,6,7,8,9,10,11,12,13,14,15,16,17,18,19,20,21,22,23],[0,1,2,3,4,5,6,7,8,9,10,11,12,13,14,15,16,17,18,19,20,21,22,23,24]] [([],[]),([],[]),z,([],[]),a2,([],[]),a5,([],[]),a8,b0,([],[]),b3,b5,([],[]),b8,c0,([],[]),c3,c5,([],[]),c8,d0,([],[]),([],[]),([],[]),d4]) <|
 A.b .add (h0 f) (jv 1) c λd5=>p [d5] c) (A.r (Xc true 23) e c λd6=>A.ws (Xb 23) h d6 c λ_ c=>A.opt (cellV true 23 h c) λr55=>i r55 c)) [jv 0] c
 |_=>A.stop
theorem g19_ok:GQ 19 1 g19:=gq1 [none,some [4],none,none] λ_ _ _ _ _=>by kernel_rfl
def g21:GFun:=λA xs d t=>match xs with
 |[x0,x1,x2,x3]=>
 A.w1 Xk x0 d λn d=>A.w1 Xk x1 d λh d=>A.wr (Xe zq0 [] d) d λj d=>A.wr (Xe zq1 [] d) d λl d=>A.k 56 [n,h] d λi d=>A.s (XL .ptr false false) i .nilp d λo=>
 A.fr o Qh x2 d λv=>A.fb o .lss v (jv 0) d λw=>A.c o (.bool true) w d λp=>A.fr p Qh x2 d λy=>A.fb p .gtr y (jv 1) d λz=>A.c p (.bool true) z d λq=>
 A.fr q Qh x3 d λa0=>A.fb q .lss a0 (jv 0) d λa1=>A.c q (.bool true) a1 d λg=>A.fr g Qh x3 d λa2=>A.fr g (Ya 0) n d λa3=>A.fa g a3 d λa4=>
 A.fr g Qe a4 d λa5=>A.fb g .geq a2 a5 d λa6=>A.c g (.bool true) a6 d λe=>A.fr e (Ya 0) n d λa7=>A.fa e a7 d λa8=>A.fr e Qh x3 d λa9=>
 A.fs e (Yc 12) a8 a9 d λb0=>A.fr e (Ya 1) b0 d λb1=>A.fa e b1 d λb2=>A.fr e (Qo .not) b2 d λb3=>A.c e (.bool true) b3 d λf=>
 A.fr f Qh x2 d λb4=>A.fr f (Ya 7) h d λb5=>A.fs f (Zg 2 8) b5 b4 d λb6=>A.fr f (Ya 6) b6 d λb7=>A.fa f b7 d λb8=>
 A.fr f Qe b8 d λb9=>A.fb f .geq b9 (jv 7) d λc0=>A.c f (.bool true) c0 d λm=>A.fr m (Ya 6) h d λc1=>A.fa m c1 d λc2=>A.fb m .geq c2 (jv 1000000) d λc3=>
 A.c m (.bool true) c3 d λc4=>A.test c4 (A.rd (Ye zq0 [] [] d) λc5=>A.rd (Ye zq1 [] [] d) λc6=>A.ws (Xb 23) j c5 d λ_ d=>A.ws (Xb 7) l c6 d λ_ d=>
 A.opt (cellV true 23 j d) λr43=>A.opt (cellV true 7 l d) λr44=>t (.tup [r43,r44,.bool false]) d) (A.r Qa i d λc7=>A.r (Ya 1) c7 d λc8=>
 A.r (Ya 7) c8 d λc9=>A.s (Zg 2 8) c9 x2 d λu=>A.pu (Qa [u] d) λd0=>A.pu (Ya 6 [d0] d) λd1=>A.dr (Qg [d1] d) d λd2 d3 d=>
 A.pu (Ya 6 [h] d) λd4=>A.dr (Qg [d4] d) d λd5 d6 d=>A.pu (Ye zq3 [(0,1),(1,1),(3,1)] [d5,x3,.bool true] d) λd7=>A.dr (Xi 4 1 zq3 [(0,4)] [d7] d) d λd8 d9 d=>
 A.dr (Qi 4 32 [d2,d8] d) d λe0 e1 d=>A.pu (Qa [u] d) λe2=>A.pu (Ya 6 [e2] d) λe3=>A.dr (Xb 1 [e3,e0] d) d λ_ e4 d=>
 A.gd (Zi [[],[],[1],[1,2],[1,2,3],[],[5],[],[5,6,7],[5,6,7,8],[1,2,3,4,5,6,7,8,9],[0,1,2,3,4,5,6,7,8,9,10],[0,1,2,3,4,5,6,7,8,9,10,11],[0,1,2,3,4,5,6,7,8,9,10,11,12]] [([],[]),([],[]),([],[]),([],[]),d3,([],[]),d6,([],[]),([],[]),d9,e1,([],[]),([],[]),e4]) <|
 A.r Qa i d λe5=>A.r (Ya 1) e5 d λe6=>A.r (Ya 6) e6 d λe7=>A.a e7 d λe8=>A.b .add e8 (jv 1) d λe9=>A.r Qa i d λf0=>
 A.r (Ya 1) f0 d λf1=>A.r (Ya 6) f1 d λf2=>A.ws (Xb 1) f2 e9 d λ_ d=>A.pu (Qa [i] d) λf3=>A.pu (Ya 1 [f3] d) λf4=>
 A.dr (Xc true 23 [f4] d) d λf5 f6 d=>A.pu (Ya 6 [h] d) λf7=>A.dr (Qg [f7] d) d λf8 f9 d=>A.pu (Ye zq1 [(0,1),(1,1),(2,1),(3,1)] [.int .i8 2,x2,x3,f8] d) λg0=>
 A.dr (Xb 23 [j,f5] d) d λ_ g1 d=>A.dr (Xb 7 [l,g0] d) d λ_ g2 d=>A.gd (Zi [[],[0],[0,1],[0,1,2],[],[],[],[6],[4,5,6,7],[0,1,2,3],[0,1,2,3,4,5,6,7,8,9],[0,1,2,3,4,5,6,7,8,9,10]] [([],[]),([],[]),([],[]),f6,([],[]),([],[]),([],[]),f9,([],[]),g1,g2,([],[])]) <|
 A.opt (cellV true 23 j d) λr82=>A.opt (cellV true 7 l d) λr83=>t (.tup [r82,r83,.bool true]) d)
 |_=>A.stop
def g22:GFun:=λA xs a e=>match xs with
 |[x0,x1,x2,x3,x4]=>
 A.w1 Xk x0 a λf a=>A.w1 Xk x1 a λg a=>A.wr (Xe zq0 [] a) a λc a=>A.wr (Xe zq1 [] a) a λd a=>A.k 64 [f,g,.int .i8 5,x2,x3,x4,(.func (.func 65) [] [])] a λb a=>
 A.r (Qd 0) b a λh=>A.r (Qd 1) b a λi=>A.r (Qd 2) b a λj=>A.ws (Xb 23) c h a λ_ a=>A.ws (Xb 7) d i a λ_ a=>A.opt (cellV true 23 c a) λr8=>
 A.opt (cellV true 7 d a) λr9=>e (.tup [r8,r9,j]) a
 |_=>A.stop
theorem g22_ok:GQ 22 5 g22:=gq5 [] λ_ _ _ _ _ _ _ _ _=>by kernel_rfl
def g23:GFun:=λA xs c f=>match xs with
 |[x0,x1]=>
 A.w1 Xk x0 c λg c=>A.loop (λh d c=>A.b .lss (h0 d) (jv 2) c λi=>A.test i (A.loop (λj e c=>A.r (Ya 7) g c λl=>A.s (Zg 2 8) l (h0 d) c λm=>
 A.r (Ya 6) m c λn=>A.a n c λo=>A.r Qe o c λp=>A.b .lss (h0 e) p c λq=>A.test q (A.r (Ya 7) g c λt=>A.s (Zg 2 8) t (h0 d) c λu=>
 A.r (Ya 6) u c λv=>A.a v c λw=>A.s (Yc 4) w (h0 e) c λy=>A.r (Ya 0) y c λz=>A.a z c λa0=>A.b .eql a0 x1 c λa1=>
 A.test a1 (f (.tup [(h0 d),(h0 e),.bool true]) c) (A.b .add (h0 e) (jv 1) c λa2=>j [a2] c)) (A.b .add (h0 d) (jv 1) c λa3=>h [a3] c)) [jv 0] c) (f (.tup zq6) c)) [jv 0] c
 |_=>A.stop
theorem g23_ok:GQ 23 2 g23:=gq2 [none,some [7],none,none,none,some [8],none,none,none] λ_ _ _ _ _ _=>by kernel_rfl
def g25:GFun:=λA xs d f=>match xs with
 |[x0,x1,x2]=>
 A.w1 Xk x0 d λt0 d=>A.w1 Xk x1 d λe d=>A.r (Xc true 2) t0 d λt2=>A.k 67 [t2] d λt3 d=>A.r (XaD false 0 1) t3 d λt4=>A.b .neq t4 (jv 0) d λl=>
 A.fr l (Ya 0) e d λt6=>A.fa l t6 d λt7=>A.fb l .lss t7 (jv 1) d λt8=>A.c l (.bool true) t8 d λm=>A.fr m (Ya 0) e d λa2=>A.fa m a2 d λa3=>
 A.fb m .gtr a3 (jv 4096) d λa4=>A.c m (.bool true) a4 d λn=>A.fr n (Ya 1) e d λa5=>A.fa n a5 d λa6=>A.fb n .lss a6 (jv 0) d λa7=>A.c n (.bool true) a7 d λo=>
 A.fr o (Ya 1) e d λa8=>A.fa o a8 d λa9=>A.fb o .gtr a9 (jv 1) d λb0=>A.c o (.bool true) b0 d λp=>A.fr p (Ya 2) e d λb1=>A.fa p b1 d λb2=>
 A.fb p .lss b2 (.int .i8 0) d λb3=>A.c p (.bool true) b3 d λq=>A.fr q (Ya 2) e d λb4=>A.fa q b4 d λb5=>A.fb q .gtr b5 (.int .i8 2) d λb6=>
 A.c q (.bool true) b6 d λt=>A.fr t (Ya 4) e d λb7=>A.fa t b7 d λb8=>A.fb t .lss b8 (.int .i8 0) d λb9=>A.c t (.bool true) b9 d λu=>
 A.fr u (Ya 4) e d λc0=>A.fa u c0 d λc1=>A.fb u .gtr c1 (.int .i8 3) d λc2=>A.c u (.bool true) c2 d λc3=>A.test c3 (f (.bool false) d) (
 A.r (Ya 4) e d λc4=>A.a c4 d λc5=>A.b .eql c5 (.int .i8 0) d λc6=>A.r (Ya 2) e d λc7=>A.a c7 d λc8=>A.b .neq c8 (.int .i8 2) d λc9=>
 A.s (Yi .neq true) c6 c9 d λv=>A.fr v (Ya 6) e d λd0=>A.fa v d0 d λd1=>A.fb v .lss d1 (jv 1) d λd2=>A.c v (.bool true) d2 d λw=>
 A.fr w (Ya 6) e d λd3=>A.fa w d3 d λd4=>A.fb w .gtr d4 (jv 1000000) d λd5=>A.c w (.bool true) d5 d λg=>A.fr g (Xc true 2) t0 d λd6=>
 A.fr g (Xc true 23) e d λd7=>A.gw g false (λk=>A.k 68 [d6,d7] d k) d λd8 d=>A.fr g (Qo .not) d8 d λd9=>A.c g (.bool true) d9 d λe0=>
 A.test e0 (f (.bool false) d) (A.r (Ya 2) e d λe1=>A.a e1 d λe2=>A.b .neq e2 (.int .i8 1) d λe3=>A.test e3 (A.r (Ya 5) e d λe4=>
 A.a e4 d λe5=>A.r Qe e5 d λe6=>A.b .eql e6 (jv 0) d λe7=>f e7 d) (A.r (Ya 5) e d λe8=>A.a e8 d λe9=>A.r Qe e9 d λf0=>A.b .eql f0 (jv 0) d λz=>
 A.tr z Qh x2 d λf1=>A.tr z (Qo .not) f1 d λf2=>A.c z f2 (.bool false) d λy=>A.fr y (Ya 3) e d λf3=>A.fa y f3 d λf4=>A.fr y (Qo .not) f4 d λf5=>
 A.c y (.bool true) f5 d λh=>A.fr h (Ya 5) e d λf6=>A.fa h f6 d λf7=>A.fr h Qe f7 d λf8=>A.fb h .gtr f8 (jv 7) d λf9=>A.c h (.bool true) f9 d λg0=>
 A.test g0 (f (.bool false) d) (A.loop (λg1 i d=>A.r (Ya 5) e d λg2=>A.a g2 d λg3=>A.r Qe g3 d λg4=>A.b .lss (h0 i) g4 d λg5=>A.test g5 (
 A.dr (Xc true 23 [e] d) d λg6 g7 d=>A.pu (Ya 5 [e] d) λg8=>A.dr (Qg [g8] d) d λg9 i0 d=>A.dr (Yc 1 [g9,(h0 i)] d) d λi1 i2 d=>
 A.dr (Qg [i1] d) d λi3 i4 d=>A.dcall (.call 23) [g6,i3] d λa0 i5 d=>A.pu (Qd 0 [a0] d) λi6=>A.pu (Qd 1 [a0] d) λl7=>A.pu (Qd 2 [a0] d) λi7=>
 A.gd (Zi [[],[],[1],[],[1,2,3],[1,2,3,4],[0,1,2,3,4,5],[0,1,2,3,4,5,6],[0,1,2,3,4,5,6,7],[0,1,2,3,4,5,6,7],[0,1,2,3,4,5,6,7],[0,1,2,3,4,5,6,7,8],[0,1,2,3,4,5,6,7,8,9,11],[0,1,2,3,4,5,6,7,8,9,10,11,12]] [g7,([],[]),i0,([],[]),i2,i4,i5,([],[]),([],[]),([],[]),([],[]),([],[]),([],[]),([],[])]) <|
 A.r (Qo .not) i7 d λj=>A.fr j Qh i6 d λi9=>A.fr j (Ya 1) e d λj0=>A.fa j j0 d λj1=>A.fb j .neq i9 j1 d λj2=>A.c j (.bool true) j2 d λj3=>
 A.test j3 (f (.bool false) d) (A.loop (λj4 a1 d=>A.b .lss (h0 a1) (h0 i) d λj5=>A.test j5 (A.r (Ya 5) e d λj6=>A.a j6 d λj7=>A.s (Yc 1) j7 (h0 a1) d λj8=>
 A.a j8 d λj9=>A.r (Ya 5) e d λl0=>A.a l0 d λl1=>A.s (Yc 1) l1 (h0 i) d λl2=>A.a l2 d λl3=>A.b .eql j9 l3 d λl4=>A.test l4 (
 f (.bool false) d) (A.b .add (h0 a1) (jv 1) d λl5=>j4 [l5] d)) (A.b .add (h0 i) (jv 1) d λl6=>g1 [l6] d)) [jv 0] d)) (f (.bool true) d)) [jv 0] d))))
 |_=>A.stop
theorem g25_ok:GQ 25 3 g25:=gq3 [none,none,none,none,none,some [7],none,none,none,none,some [11],none,none,none] λ_ _ _ _ _ _ _=>by kernel_rfl
def g27:GFun:=λA xs c l=>match xs with
 |[x0,x1,x2]=>
 A.w1 Xk x0 c λp c=>A.w1 Xk x1 c λq c=>A.wr (Xe zq0 [] c) c λg c=>A.k 56 [p,q] c λd c=>A.s (XL .ptr false false) d .nilp c λt=>
 A.test t (A.rd (Ye zq0 [] [] c) λu=>A.ws (Xb 23) g u c λ_ c=>A.opt (cellV true 23 g c) λr6=>l (.tup [r6,.nils]) c) (A.r Qe x2 c λv=>
 A.loop (λw e c=>A.b .lss (h0 e) v c λy=>A.test y (joinK (λm=>A.s (Yc 1) x2 (h0 e) c λz=>A.a z c λa0=>A.wr (Xe [jv 0] [] c) c λh c=>
 A.ws (Xb 1) h a0 c λ_ c=>A.pu (Qa [d] c) λa1=>A.pu (Ya 1 [a1] c) λa2=>A.dr (Xc true 23 [a2] c) c λa3 a4 c=>A.dr (Qg [h] c) c λa5 a6 c=>
 A.dcall (.call 71) [a3,a5] c λi a7 c=>A.pu (Qd 0 [i] c) λn=>A.pu (Qd 1 [i] c) λj=>A.pu (Qd 2 [i] c) λa8=>A.gd (Zi [[],[0],[0,1],[0,1,2],[],[0,1,2,3,4],[0,1,2,3,4,5],[0,1,2,3,4,5,6],[0,1,2,3,4,5,6],[0,1,2,3,4,5,6],[0,1,2,3,4,5,6,7],[0,1,2,3,4,5,6,7,8,10],[0,1,2,3,4,5,6,7,8,9,10,11]] [([],[]),([],[]),([],[]),a4,a6,a7,([],[]),([],[]),([],[]),([],[]),([],[]),([],[]),([],[])]) <|
 A.r (Qo .not) a8 c λa9=>A.test a9 (m [(h1 e)] c) (A.r Qa d c λb0=>A.r (Ya 1) b0 c λb1=>A.r (Ya 7) b1 c λb2=>A.s (Zg 2 8) b2 n c λf=>
 A.r Qa f c λb3=>A.r (Ya 6) b3 c λb4=>A.a b4 c λb5=>A.s (Yc 4) b5 j c λb6=>A.r (Ya 1) b6 c λb7=>A.a b7 c λo=>
 A.r Qa f c λb8=>A.r (Ya 6) b8 c λb9=>A.a b9 c λc0=>A.b .add j (jv 1) c λc1=>A.k 72 [c0,j,c1] c λc2 c=>A.r Qa f c λc3=>
 A.r (Ya 6) c3 c λc4=>A.ws (Xb 1) c4 c2 c λ_ c=>A.r Qa f c λc5=>A.r (Ya 5) c5 c λc6=>A.a c6 c λc7=>A.wr (Xi 1 1 [jv 0] [(0,1)] [o] c) c λc8 c=>
 A.wr (Qi 1 8 [c7,c8] c) c λc9 c=>A.r Qa f c λd0=>A.r (Ya 5) d0 c λd1=>A.ws (Xb 1) d1 c9 c λ_ c=>A.r Qa d c λd2=>
 A.r (Ya 1) d2 c λd3=>A.r (Ya 5) d3 c λd4=>A.a d4 c λd5=>A.r (Qn (.func 74) 0) h c λd6=>A.k 73 [d5,d6] c λd7 c=>A.r Qa d c λd8=>
 A.r (Ya 1) d8 c λd9=>A.r (Ya 5) d9 c λe0=>A.ws (Xb 1) e0 d7 c λ_ c=>A.a h c λe1=>A.rd (Ye zq1 [(0,1),(1,1),(2,1),(3,1)] [.int .i8 13,n,o,e1] c) λe2=>
 A.wr (Xi 7 1 zq1 [(0,7)] [e2] c) c λe3 c=>A.wr (Qi 7 72 [(h1 e),e3] c) c λe4 c=>m [e4] c)) (λe5 c=>A.b .add (h0 e) (jv 1) c λe6=>w [e6,(h0 e5)] c)) (
 A.r Qa d c λe7=>A.r (Ya 1) e7 c λe8=>A.r (Xc true 23) e8 c λe9=>A.ws (Xb 23) g e9 c λ_ c=>A.opt (cellV true 23 g c) λr69=>
 l (.tup [r69,(h1 e)]) c)) [jv 0,.nils] c)
 |_=>A.stop
theorem g27_ok:GQ 27 3 g27:=gq3 [none,none,some [23,9],none,some [9],none] λ_ _ _ _ _ _ _=>by kernel_rfl
def g29:GFun:=λA xs a f=>match xs with
 |[x0]=>
 A.w1 Xk x0 a λe a=>A.rd (Ye [.nils,.bool false] [(1,1)] [.bool true] a) λg=>A.w1 Xk g a λh a=>A.r (Xc true 4) e a λi=>A.k 76 [i] a λj a=>
 A.b .leq j (jv 200) a λd=>A.tr d Qh h a λl=>A.tr d (Xc true 4) e a λm=>A.gw d true (λk=>A.k 77 [l,m] a k) a λn a=>A.c d n (.bool false) a λo=>
 f o a
 |_=>A.stop
theorem g29_ok:GQ 29 1 g29:=gq1 [] λ_ _ _ _ _=>by kernel_rfl
def g30:GFun:=λA xs a v=>match xs with
 |[]=>
 A.k 78 [(.str [99,97,114,100,32,73,109,112,32,117,110,105,116,32,49,32,50,47,50,32,123,32,125])] a λn a=>A.r (Qd 0) n a λw=>
 A.r (Qd 1) n a λy=>A.wr (Xe [.nils,.nils] [] a) a λe a=>A.wr (Xe [jv 0,jv 0] [] a) a λz a=>A.ws (Xb 2) e w a λ_ a=>A.ws (Xb 2) z y a λ_ a=>
 A.rd (Ye zq0 [(0,1),(6,1)] [jv 1,jv 9] a) λt5=>A.wr (Xe zq0 [] a) a λd a=>A.ws (Xb 23) d t5 a λ_ a=>A.r (Ya 7) d a λt7=>
 A.s (Zg 2 8) t7 (jv 0) a λt8=>A.r (Ya 0) t8 a λt9=>A.ws (Xb 1) t9 (jv 20) a λ_ a=>A.wr (Xi 1 1 [jv 0] [(0,1)] [jv 0] a) a λa0 a=>
 A.rd (Ye zq3 [(0,1)] [jv 1] a) λa1=>A.rd (Ye zq3 [(0,1)] [jv 2] a) λa2=>A.rd (Ye zq3 [(0,1)] [jv 3] a) λa3=>A.wr (Xi 4 3 [jv 0,jv 0,jv 0,.bool false,jv 0,jv 0,jv 0,.bool false,jv 0,jv 0,jv 0,.bool false] [(0,4),(4,4),(8,4)] [a1,a2,a3] a) a λa4 a=>
 A.rd (Ye zq4 [(0,1),(4,1),(6,1)] [jv 5,a0,a4] a) λa5=>A.r (Ya 7) d a λa6=>A.s (Zg 2 8) a6 (jv 1) a λa7=>A.ws (Xb 8) a7 a5 a λ_ a=>
 A.rd (Ye zq2 [(0,1)] [.int .i8 1] a) λa8=>A.rd (Ye zq2 [(1,1)] [jv 2] a) λa9=>A.rd (Ye zq2 [(0,1),(2,1)] [.int .i8 4,.int .i8 1] a) λb0=>
 A.wr (Xi 4 2 zq5 [(0,4),(4,4)] [a9,b0] a) a λb1 a=>A.rd (Ye zq2 [(0,1),(3,1)] [.int .i8 10,b1] a) λb2=>A.wr (Xi 4 2 zq5 [(0,4),(4,4)] [a8,b2] a) a λb3 a=>
 A.rd (Ye zq2 [(0,1),(3,1)] [.int .i8 8,b3] a) λb4=>A.wr (Xe zq2 [] a) a λf a=>A.ws (Xb 4) f b4 a λ_ a=>A.r (Xc true 2) e a λb5=>
 A.r (Xc true 23) d a λb6=>A.rd (Ye [jv 0,jv 0] [(1,1)] [jv (-1)] a) λb7=>A.r (Xc true 4) f a λb8=>A.k 31 [b5,b6,b7,b8] a λo a=>
 A.r (Qd 0) o a λb9=>A.r (Qd 1) o a λc0=>A.r (Xc true 2) e a λc1=>A.r (Xc true 23) d a λc2=>A.rd (Ye [jv 0,jv 0] [(1,1)] [jv (-1)] a) λc3=>
 A.rd (Ye [.int .i8 0,.int .i8 0,.str [],.nils,.nils] [(0,1),(1,1),(2,1)] [.int .i8 6,.int .i8 1,(.str [73,109,112])] a) λc4=>A.k 79 [c1,c2,c3,c4] a λp a=>
 A.r (Qd 0) p a λc5=>A.r (Qd 1) p a λc6=>A.r (Xc true 23) d a λc7=>A.rd (Ye [jv 0,jv 0] [(1,1)] [jv 2] a) λc8=>A.k 80 [c7,c8,.int .i8 2] a λg a=>
 A.r (Qd 0) g a λc9=>A.r (Qd 1) g a λd0=>A.r (Qd 2) g a λd1=>A.r (Xc true 2) e a λd2=>A.r (Xc true 23) d a λd3=>
 A.rd (Ye [jv 0,jv 0] [(0,1)] [jv 2] a) λd4=>A.r (Xc true 4) f a λd5=>A.k 31 [d2,d3,d4,d5] a λq a=>A.r (Qd 0) q a λf0=>
 A.r (Qd 1) q a λd6=>A.b .eql c0 (jv 0) a λh=>A.tr h Qh b9 a λd7=>A.tb h .eql d7 (jv 26) a λd8=>A.c h d8 (.bool false) a λi=>A.tr i Qh c6 a λd9=>
 A.tb i .eql d9 (jv 0) a λe0=>A.c i e0 (.bool false) a λt=>A.tr t Qh c5 a λe1=>A.c t e1 (.bool false) a λu=>A.tr u Qh d1 a λe2=>A.c u e2 (.bool false) a λj=>
 A.tr j Qh c9 a λe3=>A.tb j .eql e3 (jv 2) a λe4=>A.c j e4 (.bool false) a λl=>A.tr l Qh d0 a λe5=>A.tb l .eql e5 (jv 1) a λe6=>A.c l e6 (.bool false) a λm=>
 A.tr m Qh d6 a λe7=>A.tb m .eql e7 (jv 2) a λe8=>A.c m e8 (.bool false) a λe9=>v e9 a
 |_=>A.stop
theorem g30_ok:GQ 30 0 g30:=gq0 [] λ_ _ _ _=>by kernel_rfl
def g31:GFun:=λA xs a d=>match xs with
 |[x0,x1,x2,x3]=>
 A.w1 Xk x0 a λe a=>A.w1 Xk x1 a λi a=>A.w1 Xk x2 a λj a=>A.w1 Xk x3 a λl a=>A.r (Xc true 2) j a λp=>A.rd (Ye zq2 [] [] a) λq=>
 A.w1 Xk q a λs a=>A.rd (Ye [.nilp] [(0,1)] [s] a) λt=>A.r (Yn 143) t a λu=>A.k 81 [e,i,p,u] a λm a=>A.r (Qd 0) m a λv=>
 A.r (Qd 1) m a λf=>A.b .eql f (jv 0) a λg=>A.gw g true (λk=>A.k 82 [l,.nilp,e] a k) a λw a=>A.tr g (Qo .not) w a λy=>A.c g y (.bool false) a λz=>
 A.test z (d (.tup [jv 0,jv 2]) a) (A.b .eql f (jv 0) a λa0=>joinK (λn=>A.test a0 (A.r (Xc true 2) j a λa1=>A.rd (Ye [.nilp] [(0,1)] [l] a) λa2=>
 A.r (Yn 143) a2 a λa3=>A.k 81 [e,i,a1,a3] a λo a=>A.r (Qd 0) o a λa4=>A.r (Qd 1) o a λa5=>n [a5,a4] a) (n [f,v] a)) (λh a=>
 A.b .neq (h0 h) (jv 0) a λa6=>A.test a6 (d (.tup [jv 0,(h0 h)]) a) (A.r (ZB 3 false (jv 0)) (h1 h) a λa7=>d (.tup [a7,jv 0]) a)))
 |_=>A.stop
theorem g31_ok:GQ 31 4 g31:=gq4 [none,some [11,10],none] λ_ _ _ _ _ _ _ _=>by kernel_rfl
def g32:GFun:=λA xs c f=>match xs with
 |[x0]=>
 A.w1 Xk x0 c λd c=>A.r (Ya 3) d c λg=>A.a g c λh=>A.r Qe h c λi=>A.loop (λj e c=>A.b .lss (h0 e) i c λl=>A.test l (A.r (Ya 3) d c λm=>
 A.a m c λn=>A.s (Yc 4) n (h0 e) c λo=>A.r (Xc true 4) o c λp=>A.k 32 [p] c λq c=>A.test q (f (.bool true) c) (A.b .add (h0 e) (jv 1) c λt=>
 j [t] c)) (A.r (Ya 0) d c λu=>A.a u c λv=>A.b .eql v (.int .i8 6) c λw=>f w c)) [jv 0] c
 |_=>A.stop
theorem g32_ok:GQ 32 1 g32:=gq1 [none,some [7],none,none,none] λ_ _ _ _ _=>by kernel_rfl
end Go.Ah.Tz
end
section
namespace Go.Ah.Tz
open Go.Proofs.Tryz (prog)
theorem c61(l:List Th)(hl:l.length≤1000000000):NCall prog GL0 61 [thV l] (.sl 0 0 l.length false) [.rows 4 (l.map thC)]:=by
 refine Qv hP g61_ok rfl ?_;simp only[g61];refine Qk (ι:=Nat) (λi vs s=>∃v,vs=[iv i,v]∧i≤l.length∧Grows 4 ((l.take i).map thC) i v s) (λi=>l.length-i) 0 ⟨_,rfl,by omega,Grows.nil _ _⟩ ?_;rintro i vs s again ⟨v,rfl,hi,hg⟩ hag;simp only[Xh,Xbg,h0,h1,hdV,tlV,Q2,XbF,List.length_map];refine⟨λh=>?_,λh=>?_⟩
 ·have h:i<l.length:=by simpa using h
  simp only[Yo _ thC _ _ _ l _ i h,Xbg,YaR,partA,show ∀x,takeN 4 (dropN 0 (thC x))=some (thC x) from λ_=>rfl];rw[Z2 _ _ _ _ _ (thC l[i]) rfl rfl];refine hg.app _ (hold:=λp=>p) rfl (by omega) _ (λv' σ' hg'=>?_);simp only[Zk,Xbg,Yg (n:=i) (by omega)];exact hag (i+1) _ _ (by omega) ⟨v',rfl,by omega,by rw[←ZC _ _ _ h]; exact hg'⟩
 ·have h:¬i<l.length:=by simpa using h
  have:i=l.length:=by omega
  subst this;rw[List.take_length] at hg;exact hg.tidy rfl Qb1
end Go.Ah.Tz
end
section
namespace Go.Ah.Tz
open Go.Proofs.Tryz (prog)
attribute [local irreducible] Ans.rd Ans.pu Ans.wr Ans.dr Ans.gr Ans.gw Ans.gl Ans.gd Ans.opt joinK W
structure SdLe (n:Nat) (s:Sd):Prop where
 deck:s.deck.length≤n
 hand:s.hand.length≤n
 grave:s.grave.length≤n
 units:s.units.length≤n
 told:s.told.length≤n
structure StLe (n:Nat) (s:St):Prop where
 attack:s.attack.length≤n
 s0:SdLe n s.s0
 s1:SdLe n s.s1
end Go.Ah.Tz
end
section
namespace Go.Ah.Tz
open Go.Proofs.Tryz (prog)
theorem YU(m:Nat→Option Nat)(l:List Int):(ABlk.rows 1 (l.map cel)).mapV (AVal.ren m)=.rows 1 (l.map cel):=by
 simp only[ABlk.mapV,Z0 (QbH m)]
theorem Qal(m:Nat→Option Nat)(l:List Th):(ABlk.rows 4 (l.map thC)).mapV (AVal.ren m)=.rows 4 (l.map thC):=by
 simp only[ABlk.mapV,Z0 (Qb1 m)]
theorem w60{l:List Int}(hl:l.length≤1000000000){σ:List ABlk}{K:AVal→List ABlk→Prop}(hK:K (.sl σ.length 0 l.length false) (σ++[.rows 1 (l.map cel)])):VV.call (.call 60) [rowV l] σ K:=by
 refine Xas (c60 l hl) rfl g60_ok.plain rfl ?_;simp only[Qu,List.map_cons,List.map_nil,YU,AVal.ren,Qz,Nat.zero_add];exact hK
theorem d60{l:List Int}(hl:l.length≤1000000000){σ:List ABlk}{K:AVal→List Nat×List Nat→List ABlk→Prop}(hK:K (.sl σ.length 0 l.length false) ([],[σ.length]) (σ++[.rows 1 (l.map cel)])):VV.dcall (.call 60) [rowV l] σ K:=by
 refine Yae (c60 l hl) rfl g60_ok.plain rfl ?_;simp only[Qu,List.map_cons,List.map_nil,YU,AVal.ren,Qz,Nat.zero_add,QY];exact hK
theorem d61{l:List Th}(hl:l.length≤1000000000){σ:List ABlk}{K:AVal→List Nat×List Nat→List ABlk→Prop}(hK:K (.sl σ.length 0 l.length false) ([],[σ.length]) (σ++[.rows 4 (l.map thC)])):VV.dcall (.call 61) [thV l] σ K:=by
 refine Yae (c61 l hl) rfl g61_ok.plain rfl ?_;simp only[Qu,List.map_cons,List.map_nil,Qal,AVal.ren,Qz,Nat.zero_add,QY];exact hK
attribute [local irreducible] Ans.rd Ans.pu Ans.wr Ans.dr Ans.gr Ans.gw Ans.gl Ans.gd Ans.opt joinK W
@[reducible] def sdO(s:Sd)(b:Nat):List AVal:=[iv s.life,iv s.mana,iv s.most,.sl b 0 s.deck.length false,.sl (b+1) 0 s.hand.length false,.sl (b+2) 0 s.grave.length false,.sl (b+3) 0 s.units.length false,.sl (b+4) 0 s.told.length false]
@[reducible] def sdB(s:Sd):List ABlk:=[.rows 1 (s.deck.map cel),.rows 1 (s.hand.map cel),.rows 1 (s.grave.map cel),.rows 4 (s.units.map thC),.rows 1 (s.told.map cel)]
@[reducible] def stO(s:St)(b:Nat):List AVal:=[iv s.turn,iv s.mover,iv8 s.phase,.bool s.struck,iv8 s.result,.sl b 0 s.attack.length false,iv s.next]++sdO s.s0 (b+1)++sdO s.s1 (b+6)
@[reducible] def stB(s:St):List ABlk:=.rows 1 (s.attack.map cel)::sdB s.s0++sdB s.s1
theorem c19(s:St)(hs:StLe 1000000000 s):NCall prog GL0 19 [stV s] (.agg (stO s 0)) (stB s):=by
 refine Qv hP g19_ok rfl ?_;unfold g19;have w1:IntKind.i64.wrap (0+1)=1:=by decide
 have w2:IntKind.i64.wrap (1+1)=2:=by decide
 repeat first|refine Za rfl ?_|refine Xf rfl rfl ?_|refine Xg rfl ?_|refine Xj rfl rfl ?_
 refine w60 hs.attack ?_;simp only[List.length_cons,List.length_nil,List.nil_append,List.cons_append,Nat.zero_add,Nat.reduceAdd];repeat first|refine Za rfl ?_|refine Xf rfl rfl ?_|refine Xg rfl ?_|refine Xj rfl rfl ?_
 refine YB 3 (Yj ?_);refine Za rfl (Ze ?_);repeat first|refine Za rfl ?_|refine Xf rfl rfl ?_|refine Xg rfl ?_|refine Xj rfl rfl ?_
 refine d60 hs.s0.deck ?_;simp only[List.length_cons,List.length_nil,List.nil_append,List.cons_append,Nat.zero_add,Nat.reduceAdd];repeat first|refine Za rfl ?_|refine Xf rfl rfl ?_|refine Xg rfl ?_|refine Xj rfl rfl ?_
 refine d60 hs.s0.hand ?_;simp only[List.length_cons,List.length_nil,List.nil_append,List.cons_append,Nat.zero_add,Nat.reduceAdd];repeat first|refine Za rfl ?_|refine Xf rfl rfl ?_|refine Xg rfl ?_|refine Xj rfl rfl ?_
 refine d60 hs.s0.grave ?_;simp only[List.length_cons,List.length_nil,List.nil_append,List.cons_append,Nat.zero_add,Nat.reduceAdd];repeat first|refine Za rfl ?_|refine Xf rfl rfl ?_|refine Xg rfl ?_|refine Xj rfl rfl ?_
 refine d61 hs.s0.units ?_;simp only[List.length_cons,List.length_nil,List.nil_append,List.cons_append,Nat.zero_add,Nat.reduceAdd];repeat first|refine Za rfl ?_|refine Xf rfl rfl ?_|refine Xg rfl ?_|refine Xj rfl rfl ?_
 refine d60 hs.s0.told ?_;simp only[List.length_cons,List.length_nil,List.nil_append,List.cons_append,Nat.zero_add,Nat.reduceAdd];repeat first|refine Za rfl ?_|refine Xf rfl rfl ?_|refine Xg rfl ?_|refine Xj rfl rfl ?_
 refine Xx (by kernel_rfl) (Za rfl ?_);rw[w1];refine Yj ?_;refine Za rfl (Ze ?_);repeat first|refine Za rfl ?_|refine Xf rfl rfl ?_|refine Xg rfl ?_|refine Xj rfl rfl ?_
 refine d60 hs.s1.deck ?_;simp only[List.length_cons,List.length_nil,List.nil_append,List.cons_append,Nat.zero_add,Nat.reduceAdd];repeat first|refine Za rfl ?_|refine Xf rfl rfl ?_|refine Xg rfl ?_|refine Xj rfl rfl ?_
 refine d60 hs.s1.hand ?_;simp only[List.length_cons,List.length_nil,List.nil_append,List.cons_append,Nat.zero_add,Nat.reduceAdd];repeat first|refine Za rfl ?_|refine Xf rfl rfl ?_|refine Xg rfl ?_|refine Xj rfl rfl ?_
 refine d60 hs.s1.grave ?_;simp only[List.length_cons,List.length_nil,List.nil_append,List.cons_append,Nat.zero_add,Nat.reduceAdd];repeat first|refine Za rfl ?_|refine Xf rfl rfl ?_|refine Xg rfl ?_|refine Xj rfl rfl ?_
 refine d61 hs.s1.units ?_;simp only[List.length_cons,List.length_nil,List.nil_append,List.cons_append,Nat.zero_add,Nat.reduceAdd];repeat first|refine Za rfl ?_|refine Xf rfl rfl ?_|refine Xg rfl ?_|refine Xj rfl rfl ?_
 refine d60 hs.s1.told ?_;simp only[List.length_cons,List.length_nil,List.nil_append,List.cons_append,Nat.zero_add,Nat.reduceAdd];repeat first|refine Za rfl ?_|refine Xf rfl rfl ?_|refine Xg rfl ?_|refine Xj rfl rfl ?_
 refine Xx (by kernel_rfl) (Za rfl ?_);rw[w2];refine Yj ?_;refine Za rfl (Yh ?_);repeat first|refine Za rfl ?_|refine Xf rfl rfl ?_|refine Xg rfl ?_|refine Xj rfl rfl ?_
 refine Zt rfl ?_;refine Tidy.gc [3,5,6,7,8,9,11,12,13,14,15] (by decide) (by simp) ?_ rfl;simp only[gcH,List.map_cons,List.map_nil,hget,YU,Qal]
end Go.Ah.Tz
end
section
namespace Go.Ah.Tz
open Go.Proofs.Tryz (prog)
attribute [local irreducible] Ans.rd Ans.pu Ans.wr Ans.dr Ans.gr Ans.gw Ans.gl Ans.gd Ans.opt joinK W
def fnd(l:List Th)(id:Int):Option Nat:=l.findIdx? (λu=>decide (u.id=id))
theorem Zbo{l:List Th}{id:Int}{i:Nat}(h:i<l.length)(h2:l[i].id=id)(hb:∀j (hj:j<l.length),j<i→l[j].id≠id):fnd l id=some i:=by
 unfold fnd;rw[List.findIdx?_eq_some_iff_getElem];exact⟨h,by simpa using h2,λj hj=>by simpa using hb j (by omega) hj⟩
theorem Qbn{l:List Th}{id:Int}(hb:∀j (hj:j<l.length),l[j].id≠id):fnd l id=none:=by
 unfold fnd;rw[List.findIdx?_eq_none_iff];intro x hx;obtain⟨j,hj,rfl⟩:=List.getElem_of_mem hx;simpa using hb j hj
def unitR(s:St)(id:Int):Int×Int×Bool:=match fnd s.s0.units id with
 |some k=>(0,k,true)
 |none=>match fnd s.s1.units id with
  |some k=>(1,k,true)
  |none=>(0,0,false)
def unitV(s:St)(id:Int):AVal:=.tup [iv (unitR s id).1,iv (unitR s id).2.1,.bool (unitR s id).2.2]
theorem c23(s:St)(hs:StLe 1000000000 s)(id:Int):PC 23 [stV s,iv id] (unitV s id):=by
 refine Qc hP g23_ok rfl rfl ?_;unfold g23;have w1:IntKind.i64.wrap (0+1)=1:=by decide
 have w2:IntKind.i64.wrap (1+1)=2:=by decide
 have u0:=hs.s0.units;have u1:=hs.s1.units;repeat first|refine Za rfl ?_|refine Xf rfl rfl ?_
 refine YB 3 (Yj ?_);refine Za rfl (Ze ?_);refine Qk (ι:=Nat) (λi vs σ=>vs=[iv i]∧σ=[.box (stC s)]∧i≤s.s0.units.length∧∀j (hj:j<s.s0.units.length),j<i→s.s0.units[j].id≠id) (λi=>s.s0.units.length-i) 0 ⟨rfl,rfl,by omega,λj _ h=>by omega⟩ ?_;rintro i vs σ again ⟨rfl,rfl,hi,hb⟩ hag;repeat first|refine Za rfl ?_|refine Xf rfl rfl ?_
 refine Qb (λh=>?_) (λh=>?_)
 ·have h:i<s.s0.units.length:=by simpa using h
  repeat first|refine Za rfl ?_|refine Xf rfl rfl ?_
  refine Za (Yo _ thC _ _ _ _ _ i h) ?_;repeat first|refine Za rfl ?_|refine Xf rfl rfl ?_
  refine Qb (λh2=>?_) (λh2=>?_)
  ·have h2:s.s0.units[i].id=id:=by simpa using h2
   have hf:fnd s.s0.units id=some i:=Zbo h h2 hb;simp[unitV,unitR,hf]
  ·have h2:s.s0.units[i].id≠id:=by simpa using h2
   refine Za rfl ?_;rw[Yg (n:=i) (by omega)];refine hag (i+1) _ _ (by omega) ⟨rfl,rfl,by omega,λj hj hji=>?_⟩;by_cases e:j=i
   ·subst e; exact h2
   ·exact hb j hj (by omega)
 have h:¬i<s.s0.units.length:=by simpa using h
 have hn0:fnd s.s0.units id=none:=Qbn (λj hj=>hb j hj (by omega));refine Za rfl ?_;rw[w1];refine Yj ?_;refine Za rfl (Ze ?_);refine Qk (ι:=Nat) (λi vs σ=>vs=[iv i]∧σ=[.box (stC s)]∧i≤s.s1.units.length∧∀j (hj:j<s.s1.units.length),j<i→s.s1.units[j].id≠id) (λi=>s.s1.units.length-i) 0 ⟨rfl,rfl,by omega,λj _ h=>by omega⟩ ?_;rintro i vs σ again ⟨rfl,rfl,hi,hb⟩ hag;repeat first|refine Za rfl ?_|refine Xf rfl rfl ?_
 refine Qb (λh=>?_) (λh=>?_)
 ·have h:i<s.s1.units.length:=by simpa using h
  repeat first|refine Za rfl ?_|refine Xf rfl rfl ?_
  refine Za (Yo _ thC _ _ _ _ _ i h) ?_;repeat first|refine Za rfl ?_|refine Xf rfl rfl ?_
  refine Qb (λh2=>?_) (λh2=>?_)
  ·have h2:s.s1.units[i].id=id:=by simpa using h2
   have hf:fnd s.s1.units id=some i:=Zbo h h2 hb;simp[unitV,unitR,hn0,hf]
  ·have h2:s.s1.units[i].id≠id:=by simpa using h2
   refine Za rfl ?_;rw[Yg (n:=i) (by omega)];refine hag (i+1) _ _ (by omega) ⟨rfl,rfl,by omega,λj hj hji=>?_⟩;by_cases e:j=i
   ·subst e; exact h2
   ·exact hb j hj (by omega)
 have h:¬i<s.s1.units.length:=by simpa using h
 have hn1:fnd s.s1.units id=none:=Qbn (λj hj=>hb j hj (by omega));refine Za rfl ?_;rw[w2];refine Yj ?_;refine Za rfl (Yh ?_);simp[unitV,unitR,hn0,hn1]
end Go.Ah.Tz
end
section
namespace Go.Ah.Tz
abbrev Tx:=List UInt8
inductive Nm where
 |mk (op n who:Int) (kids:List Nm)
 deriving Inhabited
inductive Cn where
 |mk (op who:Int) (name:Tx) (nums:List Nm) (kids:List Cn)
 deriving Inhabited
inductive Ef where
 |mk (op who:Int) (n:Nm) (name:Tx) (c:Cn) (thn els:List Ef)
 deriving Inhabited
def Nm.op:Nm→Int | .mk a _ _ _=>a
def Nm.n:Nm→Int | .mk _ a _ _=>a
def Nm.who:Nm→Int | .mk _ _ a _=>a
def Nm.kids:Nm→List Nm | .mk _ _ _ a=>a
def Cn.op:Cn→Int | .mk a _ _ _ _=>a
def Cn.who:Cn→Int | .mk _ a _ _ _=>a
def Cn.name:Cn→Tx | .mk _ _ a _ _=>a
def Cn.nums:Cn→List Nm | .mk _ _ _ a _=>a
def Cn.kids:Cn→List Cn | .mk _ _ _ _ a=>a
def Ef.op:Ef→Int | .mk a _ _ _ _ _ _=>a
def Ef.who:Ef→Int | .mk _ a _ _ _ _ _=>a
def Ef.n:Ef→Nm | .mk _ _ a _ _ _ _=>a
def Ef.name:Ef→Tx | .mk _ _ _ a _ _ _=>a
def Ef.c:Ef→Cn | .mk _ _ _ _ a _ _=>a
def Ef.thn:Ef→List Ef | .mk _ _ _ _ _ a _=>a
def Ef.els:Ef→List Ef | .mk _ _ _ _ _ _ a=>a
mutual
def nmC:Nm→List AVal
 |.mk op n who kids=>[iv8 op,iv n,iv8 who,.rsl false false 4 (nmsC kids)]
def nmsC:List Nm→List (List AVal)
 |[]=>[]
 |x::l=>nmC x::nmsC l
end
theorem YbT:∀l,nmsC l=l.map nmC
 |[]=>rfl
 |x::l=>by simp[nmsC,YbT l]
theorem Qx(x:Nm):nmC x=[iv8 x.op,iv x.n,iv8 x.who,.rsl false false 4 (x.kids.map nmC)]:=by
 cases x; simp[nmC,YbT,Nm.op,Nm.n,Nm.who,Nm.kids]
mutual
def cnC:Cn→List AVal
 |.mk op who name nums kids=>[iv8 op,iv8 who,.str name,.rsl false false 4 (nums.map nmC),.rsl false false 5 (cnsC kids)]
def cnsC:List Cn→List (List AVal)
 |[]=>[]
 |x::l=>cnC x::cnsC l
end
theorem XbJ:∀l,cnsC l=l.map cnC
 |[]=>rfl
 |x::l=>by simp[cnsC,XbJ l]
theorem ZM(x:Cn):cnC x=[iv8 x.op,iv8 x.who,.str x.name,.rsl false false 4 (x.nums.map nmC),.rsl false false 5 (x.kids.map cnC)]:=by
 cases x; simp[cnC,XbJ,Cn.op,Cn.who,Cn.name,Cn.nums,Cn.kids]
mutual
def efC:Ef→List AVal
 |.mk op who n name c thn els=>[iv8 op,iv8 who,iv8 n.op,iv n.n,iv8 n.who,.rsl false false 4 (n.kids.map nmC),.str name,iv8 c.op,iv8 c.who,.str c.name,.rsl false false 4 (c.nums.map nmC),.rsl false false 5 (c.kids.map cnC),.rsl false false 14 (efsC thn),.rsl false false 14 (efsC els)]
def efsC:List Ef→List (List AVal)
 |[]=>[]
 |x::l=>efC x::efsC l
end
theorem XbO:∀l,efsC l=l.map efC
 |[]=>rfl
 |x::l=>by simp[efsC,XbO l]
theorem YD(x:Ef):efC x=[iv8 x.op,iv8 x.who,iv8 x.n.op,iv x.n.n,iv8 x.n.who,.rsl false false 4 (x.n.kids.map nmC),.str x.name,iv8 x.c.op,iv8 x.c.who,.str x.c.name,.rsl false false 4 (x.c.nums.map nmC),.rsl false false 5 (x.c.kids.map cnC),.rsl false false 14 (x.thn.map efC),.rsl false false 14 (x.els.map efC)]:=by
 cases x; simp[efC,XbO,Ef.op,Ef.who,Ef.n,Ef.name,Ef.c,Ef.thn,Ef.els]
structure Cd where
 name:Tx
 unit:Bool
 cost:Int
 power:Int
 health:Int
 shield:Int
 aurap:Int
 aurah:Int
 played:List Ef
 dead:List Ef
 dawn:List Ef
 pl:Int
 deriving Inhabited
@[reducible] def efV(l:List Ef):AVal:=.rsl false false 14 (l.map efC)
def cdC(c:Cd):List AVal:=[.str c.name,.bool c.unit,iv c.cost,iv c.power,iv c.health,iv c.shield,iv c.aurap,iv c.aurah,efV c.played,efV c.dead,efV c.dawn,iv c.pl]
def txC(t:Tx):List AVal:=[.str t]
@[reducible] def txV(l:List Tx):AVal:=.rsl false false 1 (l.map txC)
structure Fo where
 name:Tx
 least:Int
 most:Int
 copies:Int
 banned:List Tx
 single:List Tx
 pl:Int
 deriving Inhabited
def foC(f:Fo):List AVal:=[.str f.name,iv f.least,iv f.most,iv f.copies,txV f.banned,txV f.single,iv f.pl]
structure Bk where
 cards:List Cd
 formats:List Fo
 deriving Inhabited
@[reducible] def cdV(l:List Cd):AVal:=.rsl false false 12 (l.map cdC)
@[reducible] def foV(l:List Fo):AVal:=.rsl false false 7 (l.map foC)
@[reducible] def bkV(b:Bk):AVal:=.agg [cdV b.cards,foV b.formats]
end Go.Ah.Tz
end
