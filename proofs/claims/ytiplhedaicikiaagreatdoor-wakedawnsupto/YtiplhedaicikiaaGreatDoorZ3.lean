/- Part of the proof that WakeDawns holds of the program for arguments that together hold at most 1048576 values and letters; no other condition. -/
import Derived.Test.YtiplhedaicikiaaGreatDoorZ2
import Derived.KernelRfl
import Derived.Test.YtiplhedaicikiaaGreatDoorProg
set_option linter.all false
open BitVec renaming ofInt->zCu,toNat_ofInt->zDn
open Bool renaming and_assoc->zCM,and_eq_true->AI,and_false->zBv,and_self->zAw,and_true->zBA,eq_false_iff->zBH,eq_iff_iff->zAo,false_and->zBe,false_eq_true->zAW,false_or->zCR,not_false->zBw,true_and->zAH
open Go.IntKind renaming i64->BY
open Go.IntWalk renaming i64_in->zAY
open Go.Utf8 renaming decode->zBc,runeError->zBK,valid->zDL
open List renaming all_eq_true->zAm,any_cons->zCv,cons_append->zAJ,drop_eq_nil_of_le->zCY,drop_length->zAD,getElem?_eq_getElem->zAP,getElem_mem->AT,getElem_of_mem->zBg,getElem_take->zCx,length->zCo,length_append->By,length_cons->IS,length_map->zAM,length_nil->zAG,length_take->zAk,map->zDv,map_append->zAa,map_cons->zAN,map_nil->zBC,mem_append->zAF,mem_cons->zAS,mem_map->zAh,mem_take_iff_getElem->zDR,nil_append->zAL,sizeOf_lt_of_mem->zBN,take_length->zAl,take_of_length_le->zAv,take_succ_eq_append_getElem->zAu
open Nat renaming beq->IT,blt->zAn,le_refl->No,sub_self->zCp,zero_add->IN
open Or renaming inl->zDi
open SizeOf renaming sizeOf->zAV
section
namespace Go.Ah
section
variable {α β:Type}
abbrev HL{α β:Type}:List α→(List α→β)→β
 |[],k=>k []
 |x::l,k=>HL l λl=>k (x::l)
theorem H_{α β:Type}:∀(l:List α) (k:List α→β),HL l k=k l
 |[],_=>rfl
 |x::l,k=>H_ l λl=>k (x::l)
abbrev Pa{α:Type}(d:Nat):Frame→(Frame→α)→α
 |[],k=>k []
 |(q,u)::r,k=>match IT q d with
  |true=>k r
  |false=>Pa d r λr=>k ((q,u)::r)
theorem Zd6{α:Type}(d:Nat):∀(ρ:Frame) (k:Frame→α),Pa d ρ k=k (uX d ρ)
 |[],_=>rfl
 |(q,u)::r,k=>by
  simp only[Pa,uX];cases IT q d
  ·simp only[];rw[Zd6 d r]
  ·rfl
abbrev qk:Frame→Nat→(aa→β)→β
 |[],_,k=>k .aQ
 |(q,v)::r,n,k=>match IT q n with
  |true=>k v
  |false=>qk r n k
theorem CN(n:Nat)(k:aa→β):∀ρ,qk ρ n k=k (bN ρ n)
 |[]=>rfl
 |(q,v)::r=>by
  simp only[qk,bN];cases IT q n
  ·exact CN n k r
  ·rfl
abbrev JZ(ρ:Frame):sJ→(aa→β)→β
 |.t n,k=>qk ρ n k
 |.c v,k=>k v
theorem NC(ρ:Frame)(x:sJ)(k:aa→β):JZ ρ x k=k (ev ρ x):=by
 cases x
 ·exact CN ..
 ·rfl
abbrev pA(ρ:Frame):List sJ→(List aa→β)→β
 |[],k=>k []
 |x::r,k=>JZ ρ x λv=>pA ρ r λvs=>k (v::vs)
theorem RZ(ρ:Frame):∀(l:List sJ) (k:List aa→β),pA ρ l k=k (l.map (ev ρ))
 |[],_=>rfl
 |x::r,k=>by simp[NC,RZ]
abbrev kZ(d:Option Nat)(v:aa)(ρ:Frame)(k:Frame→β):β:=match d with
 |some d=>Pa d ρ λr=>k ((d,v)::r)
 |none=>k ρ
theorem Qdx(d:Option Nat)(v:aa)(ρ:Frame)(k:Frame→β):kZ d v ρ k=k (cC d v ρ):=by
 cases d
 ·rfl
 ·simp only[kZ,Zd6];rfl
abbrev pT(ρ:Frame):List Nat→(List aa→β)→β
 |[],k=>k []
 |s::r,k=>qk ρ s λv=>pT ρ r λvs=>k (v::vs)
theorem RF(ρ:Frame):∀(l:List Nat) (k:List aa→β),pT ρ l k=k (iH ρ l)
 |[],_=>rfl
 |x::r,k=>by simp only[pT,CN,RF ρ r];rfl
abbrev pQ(l:List Nat):Frame→(Frame→β)→β
 |[],k=>k []
 |(q,v)::r,k=>match uI q l with
  |true=>pQ l r k
  |false=>pQ l r λr=>k ((q,v)::r)
theorem Sq(l:List Nat):∀(ρ:Frame) (k:Frame→β),pQ l ρ k=k (cZ l ρ)
 |[],_=>rfl
 |(q,v)::r,k=>by
  simp only[pQ,cZ];cases uI q l<;>simp only[Sq l r]
abbrev yp:List Nat→List aa→Frame→(Frame→β)→β
 |[],_,ρ,k=>k ρ
 |s::ks,vs,ρ,k=>yp ks (jM vs) ρ λr=>k ((s,qX vs)::r)
theorem RU:∀(l:List Nat) (vs:List aa) (ρ:Frame) (k:Frame→β),yp l vs ρ k=k (lU l vs ρ)
 |[],_,_,_=>rfl
 |s::ks,vs,ρ,k=>by simp only[yp,RU ks];rfl
def qC(A:aE α):=A.call
def qD(A:aE α):=A.eV
def qT(A:aE α):=A.test
def qL(A:aE α):=A.loop
def qS(A:aE α):=A.stop
def C6(A:aE α)(o:aR)(ρ:Frame)(σ:List ab)(K:Frame→List ab→α):α:=
 match o.guard with
 |none=>match ft o.k with
  |.mv=>match o.xs with
   |[x]=>JZ ρ x λv=>kZ o.dst v ρ λρ=>K ρ σ
   |_=>qS A
  |.pu | .rd=>pA ρ o.xs λvs=>A.rd (eZ o.k vs σ) λv=>kZ o.dst v ρ λρ=>K ρ σ
  |.wr=>pA ρ o.xs λvs=>A.wr (eZ o.k vs σ) σ λv σ=>kZ o.dst v ρ λρ=>K ρ σ
  |.call=>pA ρ o.xs λvs=>qC A o.k vs σ λv σ=>kZ o.dst v ρ λρ=>K ρ σ
 |some (s,w)=>pA ρ o.xs λvs=>qk ρ s λc=>match ft o.k with
  |.mv | .pu | .rd=>A.gr c w (λk=>A.rd (eZ o.k vs σ) k) λv=>kZ o.dst v ρ λρ=>K ρ σ
  |.wr=>A.gw c w (λk=>A.wr (eZ o.k vs σ) σ k) σ λv σ=>kZ o.dst v ρ λρ=>K ρ σ
  |.call=>A.gw c w (λk=>qC A o.k vs σ k) σ λv σ=>kZ o.dst v ρ λρ=>K ρ σ
theorem Qee(A:aE α)(o:aR)(ρ:Frame)(σ:List ab)(K:Frame→List ab→α):C6 A o ρ σ K=wx A o ρ σ K:=by
 unfold C6 wx;simp only[NC,RZ,CN,Qdx];rfl
def oB(A:aE α):List aR→Frame→List ab→(Frame→List ab→α)→α
 |[],ρ,σ,K=>K ρ σ
 |o::r,ρ,σ,K=>C6 A o ρ σ λρ σ=>oB A r ρ σ K
theorem Ih(A:aE α):∀(l:List aR) (ρ:Frame) (σ:List ab) (K:Frame→List ab→α),oB A l ρ σ K=jD A l ρ σ K
 |[],_,_,_=>rfl
 |o::r,ρ,σ,K=>by simp only[oB,jD,Qee,Ih A r]
def wq(A:aE α)(o:aR)(ρ:Frame)(σ:List ab)(lg:Log)(K:Frame→List ab→Log→α):α:=
 match o.guard with
 |none=>match ft o.k with
  |.mv=>match o.xs with
   |[x]=>JZ ρ x λv=>kZ o.dst v ρ λρ=>K ρ σ (lg++[([],[])])
   |_=>qS A
  |.pu=>pA ρ o.xs λvs=>A.pu (eZ o.k vs σ) λv=>kZ o.dst v ρ λρ=>K ρ σ (lg++[([],[])])
  |.rd | .wr=>pA ρ o.xs λvs=>A.dr (eZ o.k vs σ) σ λv l σ=>kZ o.dst v ρ λρ=>K ρ σ (lg++[l])
  |.call=>pA ρ o.xs λvs=>qD A o.k vs σ λv l σ=>kZ o.dst v ρ λρ=>K ρ σ (lg++[l])
 |some (s,w)=>pA ρ o.xs λvs=>qk ρ s λc=>match ft o.k with
  |.mv | .pu=>A.gr c w (λk=>A.pu (eZ o.k vs σ) k) λv=>kZ o.dst v ρ λρ=>K ρ σ (lg++[([],[])])
  |.rd | .wr=>A.gl c w (λk=>A.dr (eZ o.k vs σ) σ k) σ λv l σ=>kZ o.dst v ρ λρ=>K ρ σ (lg++[l])
  |.call=>A.gl c w (λk=>qD A o.k vs σ k) σ λv l σ=>kZ o.dst v ρ λρ=>K ρ σ (lg++[l])
theorem YdR(A:aE α)(o:aR)(ρ:Frame)(σ:List ab)(lg:Log)(K:Frame→List ab→Log→α):wq A o ρ σ lg K=rG A o ρ σ lg K:=by
 unfold wq rG;simp only[NC,RZ,CN,Qdx];rfl
def I'(A:aE α):List aR→Frame→List ab→Log→(Frame→List ab→Log→α)→α
 |[],ρ,σ,lg,K=>K ρ σ lg
 |o::r,ρ,σ,lg,K=>wq A o ρ σ lg λρ σ lg=>HL lg λlg=>I' A r ρ σ lg K
theorem P5(A:aE α):∀(l:List aR) (ρ:Frame) (σ:List ab) (lg:Log) (K:Frame→List ab→Log→α),I' A l ρ σ lg K=CM A l ρ σ lg K
 |[],_,_,_,_=>rfl
 |o::r,ρ,σ,lg,K=>by simp only[I',CM,YdR,P5 A r,H_]
def oC(A:aE α)(hd:List (List Nat)):Nat→vP→Frame→List ab→(Frame→List ab→α)→α
 |_,[],ρ,σ,K=>K ρ σ
 |lo,(fy,true)::r,ρ,σ,K=>oB A fy ρ σ λρ σ=>oC A hd (lo+fy.length) r ρ σ K
 |lo,(fy,false)::r,ρ,σ,K=>match lQ fy with
  |true=>oB A fy ρ σ λρ σ=>oC A hd (lo+fy.length) r ρ σ K
  |false=>I' A fy ρ σ [] λρ σ lg=>A.gd (Qi (oN hd lo fy.length) lg) (oC A hd (lo+fy.length) r ρ σ K)
theorem P3(A:aE α)(hd:List (List Nat)):∀(lo:Nat) (l:vP) (ρ:Frame) (σ:List ab) (K:Frame→List ab→α),oC A hd lo l ρ σ K=la A hd lo l ρ σ K
 |_,[],_,_,_=>rfl
 |lo,(fy,true)::r,ρ,σ,K=>by simp only[oC,la,Ih,P3 A hd _ r]
 |lo,(fy,false)::r,ρ,σ,K=>by simp only[oC,la,Ih,P5,P3 A hd _ r]<;>cases lQ fy<;>rfl
def dm(A:aE α):bM→Frame→List ab→(Frame→List ab→α)→(Nat→Frame→List ab→α)→(Frame→List ab→α)→α
 |.skip,ρ,σ,K,_,_=>K ρ σ
 |.label _,ρ,σ,K,_,_=>K ρ σ
 |.region _ ms none,ρ,σ,K,_,_=>oB A ms ρ σ K
 |.region _ ms (some hd),ρ,σ,K,_,_=>match lQ ms with
  |true=>oB A ms ρ σ K
  |false=>I' A ms ρ σ [] λρ σ lg=>A.gd (Qi hd lg) (K ρ σ)
 |.iJ _ ps hd,ρ,σ,K,_,_=>oC A hd 0 ps ρ σ K
 |.seq a b,ρ,σ,K,E,R=>dm A a ρ σ (λρ σ=>dm A b ρ σ K E R) E R
 |.cond c a b,ρ,σ,K,E,R=>JZ ρ c λc=>qT A c (dm A a ρ σ K E R) (dm A b ρ σ K E R)
 |.join lv a,ρ,σ,K,E,R=>cP (λk=>dm A a ρ σ (λρ' σ=>pT ρ' lv λvs=>k vs σ) E R) (λvs σ=>HL a.kU λl=>pQ l ρ λr=>yp lv vs r λr=>K r σ)
 | .block id a,ρ,σ,K,E,R=>dm A a ρ σ K (λi ρ σ=>match IT i id with
  |true=>K ρ σ
  | false=>E i ρ σ) R
 |.loop lv a,ρ,σ,_,E,R=>pT ρ lv λvs=>qL A (λagain vs σ=>HL a.kU λl=>pQ l ρ λr=>yp lv vs r λr=>dm A a r σ (λρ' σ=>pT ρ' lv λvs=>again vs σ) E R) vs σ
 |.exit id,ρ,σ,_,E,_=>E id ρ σ
 |.scope a,ρ,σ,K,E,R=>dm A a ρ σ K E R
 |.ret,ρ,σ,_,_,R=>R ρ σ
theorem zB(A:aE α):∀(D:bM) (ρ:Frame) (σ:List ab) (K:Frame→List ab→α) (E:Nat→Frame→List ab→α) (R:Frame→List ab→α),dm A D ρ σ K E R=dn A D ρ σ K E R
 |.skip,_,_,_,_,_=>rfl
 |.label _,_,_,_,_,_=>rfl
 |.region _ ms none,ρ,σ,K,E,R=>by simp only[dm,dn,Ih]
 |.region _ ms (some hd),ρ,σ,K,E,R=>by simp only[dm,dn,Ih,P5]<;>cases lQ ms<;>rfl
 |.iJ _ ps hd,ρ,σ,K,E,R=>by simp only[dm,dn,P3]
 |.seq a b,ρ,σ,K,E,R=>by simp only[dm,dn,zB A a,zB A b]
 |.cond c a b,ρ,σ,K,E,R=>by simp only[dm,dn,qT,zB A a,zB A b,NC]
 |.join lv a,ρ,σ,K,E,R=>by simp only[dm,dn,zB A a,RF,H_,Sq,RU]
 |.block id a,ρ,σ,K,E,R=>by simp only[dm,dn,zB A a]<;>rfl
 |.loop lv a,ρ,σ,K,E,R=>by simp only[dm,dn,qL,zB A a,RF,H_,Sq,RU]
 |.exit id,_,_,_,_,_=>rfl
 |.scope a,ρ,σ,K,E,R=>by simp only[dm,dn,zB A a]
 |.ret,_,_,_,_,_=>rfl
def CV(A:aE α):List RV→Frame→List ab→(List aa→α)→α
 |[],_,_,K=>K []
 |.t n::r,ρ,σ,K=>qk ρ n λv=>CV A r ρ σ λvs=>K (v::vs)
 |.c s agg n::r,ρ,σ,K=>qk ρ s λx=>A.opt (iA agg n x σ) λv=>CV A r ρ σ λvs=>K (v::vs)
theorem Sy(A:aE α):∀(l:List RV) (ρ:Frame) (σ:List ab) (K:List aa→α),CV A l ρ σ K=ze A l ρ σ K
 |[],_,_,_=>rfl
 |.t n::r,ρ,σ,K=>by simp only[CV,ze,CN,Sy A r]
 |.c s agg n::r,ρ,σ,K=>by simp only[CV,ze,CN,Sy A r]
def ma(A:aE α)(o:Option vO)(xs:List aa)(σ:List ab)(ret:aa→List ab→α):α:=match o with
 |some D=>HL (eQ xs) λρ=>dm A D.body ρ σ (λρ σ=>CV A D.gP ρ σ λvs=>ret (pY vs) σ) (λ_ _ _=>qS A) (λρ σ=>CV A D.gP ρ σ λvs=>ret (pY vs) σ)
 |none=>qS A
theorem Xee(A:aE α)(D:vO)(xs:List aa)(σ:List ab)(ret:aa→List ab→α):ma A (some D) xs σ ret=wu A D xs σ ret:=by
 simp[ma,wu,qS,H_,zB,Sy]
end
theorem zz(n:Nat)(h:n<2 ^ 8):UInt8.ofBitVec (BitVec.ofFin ⟨n,h⟩)=UInt8.ofNat n:=by
 apply UInt8.toNat_inj.1;simp;exact(Nat.mod_eq_of_lt h).symm
section
variable {P:Program} {GL:aw} {f:FuncId} {l:List (Option (List Nat))}
theorem zi{np:Nat}{g:gU}(h:(eK P GL np f l).isSome=true)(hg:∀ {α:Type} (A:aE α) (xs:List aa) (σ:List ab) (ret:aa→List ab→α),xs.length=np→ma A (eK P GL np f l) xs σ ret=g A xs σ ret):mM P GL f np g:=by
 cases hD:eK P GL np f l with
 |none=>rw[hD]at h;cases h
 |some D=>
  refine QeA hD (λα A xs σ ret hn=>?_);simp_all [Xee]
end
structure H0 (P:Program) (GL:aw) (f:FuncId) (l:List (Option (List Nat))):Type 1 where
 g:∀ {α:Type},aE α→List ab→(aa→List ab→α)→α
 h:∀ {α:Type} (A:aE α) σ ret,ma A (eK P GL 0 f l) [] σ ret=g A σ ret:=by intros;conv=>lhs;reduce;simp only[Int.reduceOfNat,Int.reduceNegSucc,zz,UInt8.reduceOfNat,qC,qD,qT,qL,qS]
 k:(eK P GL 0 f l).isSome=true:=by kernel_rfl
abbrev H0.u{P:Program}{GL:aw}{f:FuncId}{l:List (Option (List Nat))}(q:H0 P GL f l):gU:=λA xs σ r=>match xs with
 |[]=>q.g A σ r
 |_=>A.stop
theorem H0.ok{P:Program}{GL:aw}{f:FuncId}{l:List (Option (List Nat))}(q:H0 P GL f l):mM P GL f 0 q.u:=zi q.k λA xs σ ret hn=>by
 match xs,hn with
 |[],_=>exact q.h A σ ret
structure H1 (P:Program) (GL:aw) (f:FuncId) (l:List (Option (List Nat))):Type 1 where
 g:∀ {α:Type},aE α→aa→List ab→(aa→List ab→α)→α
 h:∀ {α:Type} (A:aE α) x σ ret,ma A (eK P GL 1 f l) [x] σ ret=g A x σ ret:=by intros;conv=>lhs;reduce;simp only[Int.reduceOfNat,Int.reduceNegSucc,zz,UInt8.reduceOfNat,qC,qD,qT,qL,qS]
 k:(eK P GL 1 f l).isSome=true:=by kernel_rfl
abbrev H1.u{P:Program}{GL:aw}{f:FuncId}{l:List (Option (List Nat))}(q:H1 P GL f l):gU:=λA xs σ r=>match xs with
 |[x]=>q.g A x σ r
 |_=>A.stop
theorem H1.ok{P:Program}{GL:aw}{f:FuncId}{l:List (Option (List Nat))}(q:H1 P GL f l):mM P GL f 1 q.u:=zi q.k λA xs σ ret hn=>by
 match xs,hn with
 |[x],_=>exact q.h A x σ ret
structure H2 (P:Program) (GL:aw) (f:FuncId) (l:List (Option (List Nat))):Type 1 where
 g:∀ {α:Type},aE α→aa→aa→List ab→(aa→List ab→α)→α
 h:∀ {α:Type} (A:aE α) x y σ ret,ma A (eK P GL 2 f l) [x,y] σ ret=g A x y σ ret:=by intros;conv=>lhs;reduce;simp only[Int.reduceOfNat,Int.reduceNegSucc,zz,UInt8.reduceOfNat,qC,qD,qT,qL,qS]
 k:(eK P GL 2 f l).isSome=true:=by kernel_rfl
abbrev H2.u{P:Program}{GL:aw}{f:FuncId}{l:List (Option (List Nat))}(q:H2 P GL f l):gU:=λA xs σ r=>match xs with
 |[x,y]=>q.g A x y σ r
 |_=>A.stop
theorem H2.ok{P:Program}{GL:aw}{f:FuncId}{l:List (Option (List Nat))}(q:H2 P GL f l):mM P GL f 2 q.u:=zi q.k λA xs σ ret hn=>by
 match xs,hn with
 |[x,y],_=>exact q.h A x y σ ret
structure H3 (P:Program) (GL:aw) (f:FuncId) (l:List (Option (List Nat))):Type 1 where
 g:∀ {α:Type},aE α→aa→aa→aa→List ab→(aa→List ab→α)→α
 h:∀ {α:Type} (A:aE α) x y z σ ret,ma A (eK P GL 3 f l) [x,y,z] σ ret=g A x y z σ ret:=by intros;conv=>lhs;reduce;simp only[Int.reduceOfNat,Int.reduceNegSucc,zz,UInt8.reduceOfNat,qC,qD,qT,qL,qS]
 k:(eK P GL 3 f l).isSome=true:=by kernel_rfl
abbrev H3.u{P:Program}{GL:aw}{f:FuncId}{l:List (Option (List Nat))}(q:H3 P GL f l):gU:=λA xs σ r=>match xs with
 |[x,y,z]=>q.g A x y z σ r
 |_=>A.stop
theorem H3.ok{P:Program}{GL:aw}{f:FuncId}{l:List (Option (List Nat))}(q:H3 P GL f l):mM P GL f 3 q.u:=zi q.k λA xs σ ret hn=>by
 match xs,hn with
 |[x,y,z],_=>exact q.h A x y z σ ret
structure H4 (P:Program) (GL:aw) (f:FuncId) (l:List (Option (List Nat))):Type 1 where
 g:∀ {α:Type},aE α→aa→aa→aa→aa→List ab→(aa→List ab→α)→α
 h:∀ {α:Type} (A:aE α) x y z u σ ret,ma A (eK P GL 4 f l) [x,y,z,u] σ ret=g A x y z u σ ret:=by intros;conv=>lhs;reduce;simp only[Int.reduceOfNat,Int.reduceNegSucc,zz,UInt8.reduceOfNat,qC,qD,qT,qL,qS]
 k:(eK P GL 4 f l).isSome=true:=by kernel_rfl
abbrev H4.u{P:Program}{GL:aw}{f:FuncId}{l:List (Option (List Nat))}(q:H4 P GL f l):gU:=λA xs σ r=>match xs with
 |[x,y,z,u]=>q.g A x y z u σ r
 |_=>A.stop
theorem H4.ok{P:Program}{GL:aw}{f:FuncId}{l:List (Option (List Nat))}(q:H4 P GL f l):mM P GL f 4 q.u:=zi q.k λA xs σ ret hn=>by
 match xs,hn with
 |[x,y,z,u],_=>exact q.h A x y z u σ ret
structure H5 (P:Program) (GL:aw) (f:FuncId) (l:List (Option (List Nat))):Type 1 where
 g:∀ {α:Type},aE α→aa→aa→aa→aa→aa→List ab→(aa→List ab→α)→α
 h:∀ {α:Type} (A:aE α) x y z u v σ ret,ma A (eK P GL 5 f l) [x,y,z,u,v] σ ret=g A x y z u v σ ret:=by intros;conv=>lhs;reduce;simp only[Int.reduceOfNat,Int.reduceNegSucc,zz,UInt8.reduceOfNat,qC,qD,qT,qL,qS]
 k:(eK P GL 5 f l).isSome=true:=by kernel_rfl
abbrev H5.u{P:Program}{GL:aw}{f:FuncId}{l:List (Option (List Nat))}(q:H5 P GL f l):gU:=λA xs σ r=>match xs with
 |[x,y,z,u,v]=>q.g A x y z u v σ r
 |_=>A.stop
theorem H5.ok{P:Program}{GL:aw}{f:FuncId}{l:List (Option (List Nat))}(q:H5 P GL f l):mM P GL f 5 q.u:=zi q.k λA xs σ ret hn=>by
 match xs,hn with
 |[x,y,z,u,v],_=>exact q.h A x y z u v σ ret
structure H6 (P:Program) (GL:aw) (f:FuncId) (l:List (Option (List Nat))):Type 1 where
 g:∀ {α:Type},aE α→aa→aa→aa→aa→aa→aa→List ab→(aa→List ab→α)→α
 h:∀ {α:Type} (A:aE α) x y z u v w σ ret,ma A (eK P GL 6 f l) [x,y,z,u,v,w] σ ret=g A x y z u v w σ ret:=by intros;conv=>lhs;reduce;simp only[Int.reduceOfNat,Int.reduceNegSucc,zz,UInt8.reduceOfNat,qC,qD,qT,qL,qS]
 k:(eK P GL 6 f l).isSome=true:=by kernel_rfl
abbrev H6.u{P:Program}{GL:aw}{f:FuncId}{l:List (Option (List Nat))}(q:H6 P GL f l):gU:=λA xs σ r=>match xs with
 |[x,y,z,u,v,w]=>q.g A x y z u v w σ r
 |_=>A.stop
theorem H6.ok{P:Program}{GL:aw}{f:FuncId}{l:List (Option (List Nat))}(q:H6 P GL f l):mM P GL f 6 q.u:=zi q.k λA xs σ ret hn=>by
 match xs,hn with
 |[x,y,z,u,v,w],_=>exact q.h A x y z u v w σ ret
structure H7 (P:Program) (GL:aw) (f:FuncId) (l:List (Option (List Nat))):Type 1 where
 g:∀ {α:Type},aE α→aa→aa→aa→aa→aa→aa→aa→List ab→(aa→List ab→α)→α
 h:∀ {α:Type} (A:aE α) x y z u v w t σ ret,ma A (eK P GL 7 f l) [x,y,z,u,v,w,t] σ ret=g A x y z u v w t σ ret:=by intros;conv=>lhs;reduce;simp only[Int.reduceOfNat,Int.reduceNegSucc,zz,UInt8.reduceOfNat,qC,qD,qT,qL,qS]
 k:(eK P GL 7 f l).isSome=true:=by kernel_rfl
abbrev H7.u{P:Program}{GL:aw}{f:FuncId}{l:List (Option (List Nat))}(q:H7 P GL f l):gU:=λA xs σ r=>match xs with
 |[x,y,z,u,v,w,t]=>q.g A x y z u v w t σ r
 |_=>A.stop
theorem H7.ok{P:Program}{GL:aw}{f:FuncId}{l:List (Option (List Nat))}(q:H7 P GL f l):mM P GL f 7 q.u:=zi q.k λA xs σ ret hn=>by
 match xs,hn with
 |[x,y,z,u,v,w,t],_=>exact q.h A x y z u v w t σ ret
structure H8 (P:Program) (GL:aw) (f:FuncId) (l:List (Option (List Nat))):Type 1 where
 g:∀ {α:Type},aE α→aa→aa→aa→aa→aa→aa→aa→aa→List ab→(aa→List ab→α)→α
 h:∀ {α:Type} (A:aE α) x y z u v w t s σ ret,ma A (eK P GL 8 f l) [x,y,z,u,v,w,t,s] σ ret=g A x y z u v w t s σ ret:=by intros;conv=>lhs;reduce;simp only[Int.reduceOfNat,Int.reduceNegSucc,zz,UInt8.reduceOfNat,qC,qD,qT,qL,qS]
 k:(eK P GL 8 f l).isSome=true:=by kernel_rfl
abbrev H8.u{P:Program}{GL:aw}{f:FuncId}{l:List (Option (List Nat))}(q:H8 P GL f l):gU:=λA xs σ r=>match xs with
 |[x,y,z,u,v,w,t,s]=>q.g A x y z u v w t s σ r
 |_=>A.stop
theorem H8.ok{P:Program}{GL:aw}{f:FuncId}{l:List (Option (List Nat))}(q:H8 P GL f l):mM P GL f 8 q.u:=zi q.k λA xs σ ret hn=>by
 match xs,hn with
 |[x,y,z,u,v,w,t,s],_=>exact q.h A x y z u v w t s σ ret
end Go.Ah
end
section
namespace Go.Ah
variable{α:Type}
variable{l:List (Option (List Nat))}
variable{f:FuncId}
variable{GL:aw}
variable{P:Program}
theorem H0.e(q:H0 P GL f l)(A:aE α)(σ:List ab)(r:aa→List ab→α):q.u A [] σ r=q.g A  σ r:=rfl
theorem H1.e(q:H1 P GL f l)(A:aE α)(xa:aa)(σ:List ab)(r:aa→List ab→α):q.u A [xa] σ r=q.g A xa σ r:=rfl
theorem H2.e(q:H2 P GL f l)(A:aE α)(xa xb:aa)(σ:List ab)(r:aa→List ab→α):q.u A [xa,xb] σ r=q.g A xa xb σ r:=rfl
theorem H3.e(q:H3 P GL f l)(A:aE α)(xa xb xc:aa)(σ:List ab)(r:aa→List ab→α):q.u A [xa,xb,xc] σ r=q.g A xa xb xc σ r:=rfl
theorem H4.e(q:H4 P GL f l)(A:aE α)(xa xb xc xd:aa)(σ:List ab)(r:aa→List ab→α):q.u A [xa,xb,xc,xd] σ r=q.g A xa xb xc xd σ r:=rfl
theorem H5.e(q:H5 P GL f l)(A:aE α)(xa xb xc xd xe:aa)(σ:List ab)(r:aa→List ab→α):q.u A [xa,xb,xc,xd,xe] σ r=q.g A xa xb xc xd xe σ r:=rfl
theorem H6.e(q:H6 P GL f l)(A:aE α)(xa xb xc xd xe xf:aa)(σ:List ab)(r:aa→List ab→α):q.u A [xa,xb,xc,xd,xe,xf] σ r=q.g A xa xb xc xd xe xf σ r:=rfl
theorem H7.e(q:H7 P GL f l)(A:aE α)(xa xb xc xd xe xf xg:aa)(σ:List ab)(r:aa→List ab→α):q.u A [xa,xb,xc,xd,xe,xf,xg] σ r=q.g A xa xb xc xd xe xf xg σ r:=rfl
theorem H8.e(q:H8 P GL f l)(A:aE α)(xa xb xc xd xe xf xg xh:aa)(σ:List ab)(r:aa→List ab→α):q.u A [xa,xb,xc,xd,xe,xf,xg,xh] σ r=q.g A xa xb xc xd xe xf xg xh σ r:=rfl
theorem a_{xs:List aa}{n:Nat}{g:gU}{v:aa}(h:di P GL f xs v)(hg:mM P GL f n g){σ:List ab}{K:aa→List ab→Prop}(hK:K v σ)(ln:gh xs=true:=by rfl):(W P GL).call (.call f) xs σ K:=Qo h rfl hg.plain ln hK
theorem i_{xs:List aa}{n:Nat}{g:gU}{v:aa}(h:di P GL f xs v)(hg:mM P GL f n g){σ:List ab}{K:aa→List Nat×List Nat→List ab→Prop}(hK:K v ([],[]) σ)(ln:gh xs=true:=by rfl):(W P GL).eV (.call f) xs σ K:=Xt h rfl hg.plain ln hK
end Go.Ah
end
section
namespace Go.Ah.Tz
@[reducible] def iv(n:Int):aa:=.int .i64 n
@[reducible] def aO(n:Int):aa:=.int .i8 n
def aS(n:Int):List aa:=[iv n]
@[reducible] def aP(l:List Int):aa:=.aW false false 1 (l.map aS)
structure Th where
 id:Int
 card:Int
 harm:Int
 nw:Bool
 deriving DecidableEq,Inhabited
def bc(t:Th):List aa:=[iv t.id,iv t.card,iv t.harm,.bool t.nw]
@[reducible] def gS(l:List Th):aa:=.aW false false 4 (l.map bc)
structure Sd where
 aX:Int
 aU:Int
 most:Int
 az:List Int
 hand:List Int
 an:List Int
 af:List Th
 told:List Int
 deriving DecidableEq,Inhabited
@[reducible] def yW(s:Sd):List aa:=[iv s.aX,iv s.aU,iv s.most,aP s.az,aP s.hand,aP s.an,gS s.af,aP s.told]
structure St where
 turn:Int
 mover:Int
 phase:Int
 bD:Bool
 result:Int
 ao:List Int
 next:Int
 s0:Sd
 s1:Sd
 deriving DecidableEq,Inhabited
@[reducible] def aF(s:St):List aa:=[iv s.turn,iv s.mover,aO s.phase,.bool s.bD,aO s.result,aP s.ao,iv s.next,
 iv s.s0.aX,iv s.s0.aU,iv s.s0.most,aP s.s0.az,aP s.s0.hand,aP s.s0.an,gS s.s0.af,aP s.s0.told,
 iv s.s1.aX,iv s.s1.aU,iv s.s1.most,aP s.s1.az,aP s.s1.hand,aP s.s1.an,gS s.s1.af,aP s.s1.told]
@[reducible] def bZ(s:St):aa:=.agg (aF s)
theorem Xc{n:Nat}(h:(n:Int)<4611686018427387904):BY.wrap ((n:Int)+1)=((n+1:Nat):Int):=by
 rw[zAY _ (by omega)];simp
variable{α:Type}
theorem Yu(l:List α)(i:Nat)(h:i<l.length):l.take (i+1)=l.take i++[l[i]]:=by
 rw[zAu h]
theorem YM{β:Type}(f:α→β)(l:List α)(i:Nat)(h:i<l.length):(l.take i).map f++[f l[i]]=(l.take (i+1)).map f:=by
 rw[Yu l i h,zAa];rfl
open Go.Proofs.Tryz (prog)
set_option maxRecDepth 100000
set_option maxHeartbeats 4000000
attribute [local irreducible] aE.rd aE.pu aE.wr aE.dr aE.gr aE.gw aE.gl aE.gd aE.opt cP qX jM iA Qi qC qD qT qL qS Qf Y6 Xi XQ Qe Qy Rz YH Im Yo Zz YJ XO XJ QH YF ZD YD Zj Zs XP Zn ub ZO Xq QP G0 PW CJ Qj Q9 Zc SZ Yk OK R9 Yn ZU Rp ZQ I7 IG YU XG rl Ql PO S6 Sh t_
def l13{α:Type}(A:aE α)(x0 x1 x2:aa)(σ:List ab)(ret:aa→List ab→α):α:=
 A.wr (ub [x0] σ) σ λMN σ=>
 A.wr (ub [x1] σ) σ λnR σ=>
 A.rd (Qe true 2 [MN] σ) λMs=>
 A.rd (Qe true 23 [nR] σ) λMx=>
 A.call (.call 99968) [Ms,Mx,.al,x2] σ λpj σ=>
 A.test pj (
 A.call (.call 99969) [] σ λsG σ=>
 ret sG σ) (
 A.rd (Qe true 2 [MN] σ) λMH=>
 A.rd (Qe true 23 [nR] σ) λMJ=>
 A.call (.call 99973) [MH,MJ,x2] σ λyd σ=>
 A.rd (Qj 0 [yd] σ) λye=>
 A.rd (Qj 1 [yd] σ) λyf=>
 A.rd (Qj 2 [yd] σ) λtO=>
 A.wr (Zs [(.int .i64 0),(.int .i64 0),(.int .i8 0),(.bool false),(.int .i8 0),.al,(.int .i64 0),(.int .i64 0),(.int .i64 0),(.int .i64 0),.al,.al,.al,.al,.al,(.int .i64 0),(.int .i64 0),(.int .i64 0),.al,.al,.al,.al,.al] [] σ) σ λmE σ=>
 A.wr (Zj 23 [mE,ye] σ) σ λ_ σ=>
 A.rd (Zn .neq false [tO,(.int .i64 0)] σ) λEs=>
 A.test Es (
 A.call (.call 99969) [] σ λEw σ=>
 ret Ew σ) (
 A.loop (λCY v16 σ=>
 A.rd (Zn .lss false [(h0 v16),(.int .i64 2)] σ) λEA=>
 A.test EA (
 A.rd (Zc 7 [mE] σ) λEJ=>
 A.rd (Yk 2 8 [EJ,(h0 v16)] σ) λEN=>
 A.rd (Zc 6 [EN] σ) λES=>
 A.rd (Qe false 1 [ES] σ) λEV=>
 A.rd (Yn [EV] σ) λEX=>
 A.rd (Zc 7 [nR] σ) λE1=>
 A.rd (Yk 2 8 [E1,(h0 v16)] σ) λE4=>
 A.rd (Zc 6 [E4] σ) λE6=>
 A.rd (Qe false 1 [E6] σ) λE8=>
 A.rd (Yn [E8] σ) λE'=>
 A.rd (Zn .neq false [EX,E'] σ) λiw=>
 A.gr iw false (λk=>A.rd (rl [(h0 v16)] σ) k) λFe=>
 A.gr iw false (λk=>A.rd (Zc 7 [mE] σ) k) λFh=>
 A.gr iw false (λk=>A.rd (Yk 2 8 [Fh,Fe] σ) k) λFj=>
 A.gr iw false (λk=>A.rd (Zc 1 [Fj] σ) k) λFk=>
 A.gr iw false (λk=>A.rd (Qe false 1 [Fk] σ) k) λFp=>
 A.gr iw false (λk=>A.rd (rl [(h0 v16)] σ) k) λFs=>
 A.gr iw false (λk=>A.rd (Zc 7 [nR] σ) k) λFu=>
 A.gr iw false (λk=>A.rd (Yk 2 8 [Fu,Fs] σ) k) λFw=>
 A.gr iw false (λk=>A.rd (Zc 1 [Fw] σ) k) λFx=>
 A.gr iw false (λk=>A.rd (Qe false 1 [Fx] σ) k) λFy=>
 A.gr iw false (λk=>A.rd (Zn .neq false [Fp,Fy] σ) k) λFz=>
 A.rd (Yo [iw,(.bool true),Fz] σ) λFA=>
 A.test FA (
 ret (.bool false) σ) (
 A.rd (Zn .add false [(h0 v16),(.int .i64 1)] σ) λEG=>
 CY [EG] σ)) (
 A.rd (Zc 1 [nR] σ) λFB=>
 A.rd (Qe false 1 [FB] σ) λFC=>
 A.rd (Zc 7 [mE] σ) λFD=>
 A.rd (Yk 2 8 [FD,FC] σ) λFE=>
 A.rd (Zc 0 [FE] σ) λFF=>
 A.rd (Qe false 1 [FF] σ) λFG=>
 A.rd (Zc 1 [nR] σ) λFH=>
 A.rd (Qe false 1 [FH] σ) λFI=>
 A.rd (Zc 7 [nR] σ) λFJ=>
 A.rd (Yk 2 8 [FJ,FI] σ) λFK=>
 A.rd (Zc 0 [FK] σ) λFL=>
 A.rd (Qe false 1 [FL] σ) λFN=>
 A.rd (Zn .neq false [FG,FN] σ) λpk=>
 A.gr pk false (λk=>A.rd (Zc 5 [mE] σ) k) λFP=>
 A.gr pk false (λk=>A.rd (Qe false 1 [FP] σ) k) λFQ=>
 A.gr pk false (λk=>A.rd (Yn [FQ] σ) k) λFR=>
 A.gr pk false (λk=>A.rd (Zn .neq false [FR,(.int .i64 0)] σ) k) λtS=>
 A.rd (Yo [pk,(.bool true),tS] σ) λm7=>
 A.gr m7 false (λk=>A.rd (Zc 2 [mE] σ) k) λFW=>
 A.gr m7 false (λk=>A.rd (Qe false 1 [FW] σ) k) λtU=>
 A.gr m7 false (λk=>A.rd (Zn .neq false [tU,(.int .i8 0)] σ) k) λFZ=>
 A.rd (Yo [m7,(.bool true),FZ] σ) λF0=>
 A.test F0 (
 ret (.bool false) σ) (
 A.rd (Yn [x2] σ) λtV=>
 A.rd (Zc 5 [nR] σ) λF1=>
 A.rd (Qe false 1 [F1] σ) λF3=>
 A.rd (Yn [F3] σ) λF5=>
 A.rd (Zn .eql false [tV,F5] σ) λfE=>
 A.gr fE true (λk=>A.rd (Zc 1 [nR] σ) k) λF_=>
 A.gr fE true (λk=>A.rd (Qe false 1 [F_] σ) k) λGb=>
 A.gr fE true (λk=>A.rd (Zn .sub false [(.int .i64 1),Gb] σ) k) λGe=>
 A.gr fE true (λk=>A.rd (Zc 7 [mE] σ) k) λGg=>
 A.gr fE true (λk=>A.rd (Yk 2 8 [Gg,Ge] σ) k) λGi=>
 A.gr fE true (λk=>A.rd (Zc 0 [Gi] σ) k) λGk=>
 A.gr fE true (λk=>A.rd (Qe false 1 [Gk] σ) k) λGn=>
 A.gr fE true (λk=>A.rd (Zc 1 [nR] σ) k) λGs=>
 A.gr fE true (λk=>A.rd (Qe false 1 [Gs] σ) k) λGu=>
 A.gr fE true (λk=>A.rd (Zn .sub false [(.int .i64 1),Gu] σ) k) λGw=>
 A.gr fE true (λk=>A.rd (Zc 7 [nR] σ) k) λAB=>
 A.gr fE true (λk=>A.rd (Yk 2 8 [AB,Gw] σ) k) λAD=>
 A.gr fE true (λk=>A.rd (Zc 0 [AD] σ) k) λAE=>
 A.gr fE true (λk=>A.rd (Qe false 1 [AE] σ) k) λAF=>
 A.gr fE true (λk=>A.rd (Zn .neq false [Gn,AF] σ) k) λAG=>
 A.rd (Yo [fE,AG,(.bool false)] σ) λAH=>
 A.test AH (
 ret (.bool false) σ) (
 A.rd (Yn [x2] σ) λAJ=>
 A.rd (Zn .gtr false [AJ,(.int .i64 0)] σ) λAK=>
 A.test AK (
 A.call (.call 99969) [] σ λAL σ=>
 ret AL σ) (
 A.loop (λTD v89 σ=>
 A.rd (Zn .lss false [(h0 v89),(.int .i64 2)] σ) λAM=>
 A.test AM (
 A.loop (λTE v92 σ=>
 A.rd (Zc 7 [mE] σ) λAN=>
 A.rd (Yk 2 8 [AN,(h0 v89)] σ) λAO=>
 A.rd (Zc 6 [AO] σ) λAP=>
 A.rd (Qe false 1 [AP] σ) λAQ=>
 A.rd (Yn [AQ] σ) λAR=>
 A.rd (Zn .lss false [(h0 v92),AR] σ) λAU=>
 A.test AU (
 A.rd (Zc 7 [mE] σ) λAV=>
 A.rd (Yk 2 8 [AV,(h0 v89)] σ) λxO=>
 A.rd (Zc 6 [xO] σ) λxP=>
 A.rd (Qe false 1 [xP] σ) λxQ=>
 A.rd (Xi 4 [xQ,(h0 v92)] σ) λxR=>
 A.rd (Qe true 4 [xR] σ) λxS=>
 A.rd (Zc 7 [nR] σ) λxT=>
 A.rd (Yk 2 8 [xT,(h0 v89)] σ) λxU=>
 A.rd (Zc 6 [xU] σ) λxV=>
 A.rd (Qe false 1 [xV] σ) λxW=>
 A.rd (Xi 4 [xW,(h0 v92)] σ) λxX=>
 A.rd (Qe true 4 [xX] σ) λxY=>
 A.rd (CJ true [false,false,false,true] [xS,xY] σ) λx_=>
 A.test x_ (
 ret (.bool false) σ) (
 A.rd (Zn .add false [(h0 v92),(.int .i64 1)] σ) λxN=>
 TE [xN] σ)) (
 A.rd (Zn .add false [(h0 v89),(.int .i64 1)] σ) λxM=>
 TD [xM] σ)) [(.int .i64 0)] σ) (
 A.call (.call 99969) [] σ λya σ=>
 ret ya σ)) [(.int .i64 0)] σ))))) [(.int .i64 0)] σ))
abbrev GQ(f:FuncId)(n:Nat)(g:gU):Prop:=mM prog aG f n g
abbrev PC(f:FuncId)(xs:List aa)(v:aa):Prop:=di prog aG f xs v
noncomputable abbrev VV:aE Prop:=W prog aG
def g4:H4 prog aG 4 [some [999],none]:={g:=_}
def g5:H1 prog aG 5 [none,some [8,3],none,none]:={g:=_}
def g6:H1 prog aG 6 [none,some [9,3],none,none]:={g:=_}
def g36:H3 prog aG 36 [some [999],none,none,none,some [],none,none,none,none,some [94],none,none]:={g:=_}
def g31:H1 prog aG 31 [none,some [4],none,none]:={g:=_}
def g15:H2 prog aG 15 [none,none,some [5],none,none,none]:={g:=_}
def g131:H4 prog aG 131 [none]:={g:=_}
def g123:H5 prog aG 123 []:={g:=_}
def g56:H2 prog aG 56 [none,some [7],none,none,none,some [8],none,none,none]:={g:=_}
def g29:H3 prog aG 29 [none,none,none,none,none,some [7],none,none,none,none,some [11],none,none,none]:={g:=_}
def g124:H5 prog aG 124 []:={g:=_}
def g26:H3 prog aG 26 [none,none,some [23,9],none,some [9],none]:={g:=_}
def g24:H2 prog aG 24 [none,none,some [22,6],none,none,none,some [34,6],none,some [6],none]:={g:=_}
def g143:H1 prog aG 143 []:={g:=_}
def g90:H4 prog aG 90 [none,some [11,10],none]:={g:=_}
def g35:H2 prog aG 35 [none,none,some [5],none,none,none]:={g:=_}
def g23:H5 prog aG 23 [some [999],some [],none,none,none]:={g:=_}
def g34:H5 prog aG 34 [some [999],none,none]:={g:=_}
def g38:H2 prog aG 38 [none,none,some [5],none,none,none]:={g:=_}
def g7:H0 prog aG 7 [some [999]]:={g:=_}
def g8:H4 prog aG 8 [some [999],none,none,some [46],none,none,none,none,some [17],some [],none,none,some [18],none,none,none,some [97],none,some [],none,none,none,none,some [29],none,none,none]:={g:=_}
def g9:H4 prog aG 9 [some [999],none,some [13,3],some [13,14,3],none,none,none,none,some [18],some [18,13,14,3],some [20],none,none,none]:={g:=_}
def g10:H8 prog aG 10 [some [999]]:={g:=_}
def g59:H2 prog aG 59 [some [999],none,none,some [6,5],none,none,none,some [8,5],none,some [5],none]:={g:=_}
def g11:H3 prog aG 11 [some [999],none,none,none,some [65],none,none,none,none,some [96,15],none,some [15],none,none]:={g:=_}
def g12:H3 prog aG 12 [some [999],none,none,none,some [12],none,none,none,none,some [18,17],none,some [17],none,none]:={g:=_}
def g13:H3 prog aG 13 [some [999],none]:={g:=_}
def g14:H3 prog aG 14 [some [999],none]:={g:=_}
def g16:H2 prog aG 16 []:={g:=_}
def g17:H1 prog aG 17 [none,some [7,3],none,none,none]:={g:=_}
def g273:H3 prog aG 273 [none,none]:={g:=_}
def g43:H2 prog aG 43 [none]:={g:=_}
def g48:H2 prog aG 48 [none]:={g:=_}
def g63:H1 prog aG 63 []:={g:=_}
def g64:H2 prog aG 64 []:={g:=_}
def g20:H1 prog aG 20 [none,some [9],none,none]:={g:=_}
def g57:H1 prog aG 57 [none,some [4,3],none,none]:={g:=_}
def g58:H1 prog aG 58 [none,some [4,3],none,none]:={g:=_}
def l153{α:Type}(A:aE α)(x0 x1:aa)(σ:List ab)(ret:aa→List ab→α):α:=
 A.rd (Yn [x0] σ) λWy=>
 A.rd (Yn [x1] σ) λWC=>
 A.rd (Zn .neq false [Wy,WC] σ) λuP=>
 A.test uP (
 ret (.bool false) σ) (
 A.loop (λag3 v4 σ=>
 A.rd (Yn [x0] σ) λMt=>
 A.rd (Zn .lss false [(h0 v4),Mt] σ) λyb=>
 A.test yb (
 A.rd (Xi 4 [x0,(h0 v4)] σ) λyc=>
 A.rd (Qe true 4 [yc] σ) λML=>
 A.rd (Xi 4 [x1,(h0 v4)] σ) λye=>
 A.rd (Qe true 4 [ye] σ) λyf=>
 A.rd (CJ true [false,false,false,true] [ML,yf] σ) λtO=>
 A.test tO (
 ret (.bool false) σ) (
 A.rd (Zn .add false [(h0 v4),(.int .i64 1)] σ) λD_=>
 ag3 [D_] σ)) (
 ret (.bool true) σ)) [(.int .i64 0)] σ)
theorem Zej(A:aE α)(x0 x1:aa)(σ:List ab)(ret:aa→List ab→α):ma A (eK prog aG 2 39 [none,none,some [5],none,none,none]) [x0,x1] σ ret=l153 A x0 x1 σ ret:=by kernel_rfl
def g39:H2 prog aG 39 [none,none,some [5],none,none,none]:=⟨l153,Zej,by kernel_rfl⟩
def g171:H7 prog aG 171 [none,some [4,18],none,none,none,some []]:={g:=_}
def g172:H1 prog aG 172 []:={g:=_}
def g173:H4 prog aG 173 [none]:={g:=_}
def g42:H1 prog aG 42 [none,none,none,some [5],none,none,none]:={g:=_}
def g55:H2 prog aG 55 [none,some [6,5],none,none,none,none,none,some [8,5],none,none,none,none,some [10],none,none,none]:={g:=_}
def g174:H1 prog aG 174 []:={g:=_}
def g175:H4 prog aG 175 [none]:={g:=_}
def g25:H2 prog aG 25 [none,some [9],none,none,none]:={g:=_}
def g52:H3 prog aG 52 [none]:={g:=_}
def g53:H2 prog aG 53 [none,none,some [6,5],none,some [5],none]:={g:=_}
def g54:H2 prog aG 54 []:={g:=_}
def g49:H3 prog aG 49 [none,some [20,6,7],none,some [6,7],none]:={g:=_}
def g99:H1 prog aG 99 [none,some [4,3],none,none]:={g:=_}
def g137:H2 prog aG 137 [some [5],none,none,some [6],none,none,none,none,none,none]:={g:=_}
def g18:H1 prog aG 18 [some [],none]:={g:=_}
def g89:H4 prog aG 89 [none,some [11,10],none]:={g:=_}
def g176:H3 prog aG 176 [none,some [],none,none,none,none,none,none]:={g:=_}
def g133:H3 prog aG 133 [some [],none]:={g:=_}
def g44:H1 prog aG 44 [none]:={g:=_}
def g185:H5 prog aG 185 []:={g:=_}
def g46:H2 prog aG 46 [some [999],none,none,some [7],none,none]:={g:=_}
def g47:H2 prog aG 47 [some [999],none,some [33,4],none,some [4],none,some [8],none,some [11],none,none]:={g:=_}
def g61:H2 prog aG 61 [some [999]]:={g:=_}
def g62:H2 prog aG 62 [some [999],none,some [4],none,some [],none,none,none,none,none]:={g:=_}
def g193:H2 prog aG 193 []:={g:=_}
def g19:H2 prog aG 19 [some [999],some [],none]:={g:=_}
def g21:H2 prog aG 21 [some [999]]:={g:=_}
def g22:H6 prog aG 22 [some [999],none]:={g:=_}
def g27:H1 prog aG 27 [some [999],none,none,none,none]:={g:=_}
def g28:H1 prog aG 28 [some [999],none]:={g:=_}
def g30:H2 prog aG 30 [some [999],none,some [5],none,none,none]:={g:=_}
def g32:H2 prog aG 32 [some [999],none,some [9,8],none,some [8],none]:={g:=_}
def g33:H1 prog aG 33 [some [999],none,none,none]:={g:=_}
def g93:H4 prog aG 93 [none,some [13,11,12],none,some [11,12],none]:={g:=_}
def g37:H3 prog aG 37 [some [999],none,none,none,none,none,none,some [12],none,none]:={g:=_}
def g118:H1 prog aG 118 [none,some [10],none,none,none]:={g:=_}
def g165:H2 prog aG 165 []:={g:=_}
def g40:H1 prog aG 40 []:={g:=_}
def g76:H3 prog aG 76 [none,some [14],none,none,none,none,none,none,none,none,none,none,none,none,none,some [89],none,none,none,none,none,some [116],none,none,none]:={g:=_}
def g45:H1 prog aG 45 [none]:={g:=_}
def g73:H1 prog aG 73 [none,none,some [3],none,none,none,some [4],none,none,none,none]:={g:=_}
def g74:H1 prog aG 74 [none,some [3],none,none,none]:={g:=_}
def g75:H2 prog aG 75 [none,some [6],none,none,none,none]:={g:=_}
def g65:H1 prog aG 65 []:={g:=_}
def g92:H3 prog aG 92 [none,none,some [7],none,none,none]:={g:=_}
def g50:H2 prog aG 50 [none,some [8],none,none,none]:={g:=_}
def g51:H2 prog aG 51 []:={g:=_}
def g91:H2 prog aG 91 [none,some [8],none,none,none]:={g:=_}
def g139:H1 prog aG 139 []:={g:=_}
def g41:H1 prog aG 41 [some [999],none,some [],some [],none,none,none,none,none,none]:={g:=_}
def g168:H1 prog aG 168 []:={g:=_}
def g180:H2 prog aG 180 [none,some [13],none,some [],none]:={g:=_}
def g98:H1 prog aG 98 []:={g:=_}
def g182:H3 prog aG 182 [none]:={g:=_}
def g207:H6 prog aG 207 [none,some [15],none,none,some [4],none,none,none,some [21],none]:={g:=_}
def g77:H1 prog aG 77 [some [999],none]:={g:=_}
def g78:H1 prog aG 78 [none,none,some [18],none,some [],none,none,some [40],none,none,none,none,none]:={g:=_}
def g79:H2 prog aG 79 [some [999]]:={g:=_}
def g80:H2 prog aG 80 [some [999]]:={g:=_}
def g81:H1 prog aG 81 [some [999]]:={g:=_}
def l297{α:Type}(A:aE α)(x0 x1 x2:aa)(σ:List ab)(ret:aa→List ab→α):α:=
 A.wr (ub [x1] σ) σ λMO σ=>
 A.rd (Ql [x0] σ) λMr=>
 A.rd (Zc 29 [Mr] σ) λMw=>
 A.wr (Zj 1 [Mw,(.func (.func 123) [] [])] σ) σ λ_ σ=>
 A.rd (Zc 0 [MO] σ) λMB=>
 A.rd (Qe false 1 [MB] σ) λpj=>
 A.rd (Zn .eql false [pj,(.int .i8 1)] σ) λsG=>
 cP (λk6=>
 A.test sG (
 A.rd (Ql [x0] σ) λMI=>
 A.rd (Zc 29 [MI] σ) λMM=>
 A.wr (Zj 1 [MM,(.func (.func 124) [] [])] σ) σ λ_ σ=>
 k6 [] σ) (
 k6 [] σ)) (λv7 σ=>
 A.rd (Zc 1 [MO] σ) λEj=>
 A.rd (Qe false 1 [Ej] σ) λEk=>
 A.call (.call 125) [x0,Ek] σ λEn σ=>
 A.rd (Tg [245,246] [En] σ) λyg=>
 A.rd (Qj 0 [yg] σ) λEt=>
 A.rd (Qj 1 [yg] σ) λEx=>
 A.rd (t_ .not [Ex] σ) λtQ=>
 A.gr tQ false (λk=>A.rd (rl [x2] σ) k) λED=>
 A.gr tQ false (λk=>A.rd (Zn .lss false [ED,(.int .i64 0)] σ) k) λEH=>
 A.rd (Yo [tQ,(.bool true),EH] σ) λEK=>
 A.test EK (
 ret (.int .i64 0) σ) (
 A.call (.invoke "baize/effect.harm" [(245,280),(246,281)]) [Et,x0,x2] σ λtR σ=>
 A.rd (Qj 0 [tR] σ) λE0=>
 A.rd (Qj 1 [tR] σ) λE3=>
 A.rd (Qj 2 [tR] σ) λyh=>
 A.wr (Zs [(.int .i64 0),(.int .i64 0),(.int .i8 0),(.bool false),(.int .i8 0),.al,(.int .i64 0),(.int .i64 0),(.int .i64 0),(.int .i64 0),.al,.al,.al,.al,.al,(.int .i64 0),(.int .i64 0),(.int .i64 0),.al,.al,.al,.al,.al] [] σ) σ λCu σ=>
 A.wr (Zs [(.int .i8 0),(.int .i64 0),(.int .i64 0),(.int .i64 0),(.int .i64 0),(.int .i64 0),.al] [] σ) σ λxL σ=>
 A.wr (Zj 23 [Cu,E0] σ) σ λ_ σ=>
 A.wr (Zj 7 [xL,E3] σ) σ λ_ σ=>
 A.rd (Zn .neq false [yh,(.int .i64 0)] σ) λE_=>
 A.test E_ (
 ret yh σ) (
 A.rd (Qe true 23 [Cu] σ) λFc=>
 A.rd (Ql [x0] σ) λFg=>
 A.rd (Zc 2 [Fg] σ) λFi=>
 A.wr (Zj 23 [Fi,Fc] σ) σ λ_ σ=>
 A.rd (Qe true 7 [xL] σ) λFm=>
 A.call (.call 126) [x0,Fm] σ λWv σ=>
 ret (.int .i64 0) σ)))
theorem Yej(A:aE α)(x0 x1 x2:aa)(σ:List ab)(ret:aa→List ab→α):ma A (eK prog aG 3 82 [some [],none,none]) [x0,x1,x2] σ ret=l297 A x0 x1 x2 σ ret:=by kernel_rfl
def g82:H3 prog aG 82 [some [],none,none]:=⟨l297,Yej,by kernel_rfl⟩
def g83:H3 prog aG 83 [some [999],none,some [23],none,none,none]:={g:=_}
def g84:H3 prog aG 84 [some [999],none,none,none]:={g:=_}
def g85:H3 prog aG 85 [some [999],none]:={g:=_}
def g86:H3 prog aG 86 [some [999],none]:={g:=_}
def g87:H3 prog aG 87 [some [999]]:={g:=_}
def g88:H3 prog aG 88 [some [999],none]:={g:=_}
def g94:H3 prog aG 94 [none,none,some [7],none,some [],none,none,none,none,none,none,some [9],some [9],none]:={g:=_}
def g66:H1 prog aG 66 [none,some [4,3],none,some [3],some [3],none]:={g:=_}
def g95:H4 prog aG 95 [some [999],none,none]:={g:=_}
def g96:H4 prog aG 96 [some [999],none,none]:={g:=_}
def g97:H3 prog aG 97 [some [999],none,some [31],none,none,none,none,none,none,none,none,none,none,none,none]:={g:=_}
def g211:H2 prog aG 211 []:={g:=_}
def g212:H2 prog aG 212 []:={g:=_}
def g213:H2 prog aG 213 []:={g:=_}
def g214:H2 prog aG 214 []:={g:=_}
def g215:H2 prog aG 215 []:={g:=_}
def g216:H3 prog aG 216 [some [5]]:={g:=_}
def g60:H3 prog aG 60 [some [999],none,none,some [10,9],none,some [9],none,none,some [16,15],none,some [15],none,none,some [18,17],none,some [17],none]:={g:=_}
def g160:H1 prog aG 160 []:={g:=_}
def g161:H1 prog aG 161 []:={g:=_}
def g162:H1 prog aG 162 [none,some [9],none,none,none]:={g:=_}
def g163:H1 prog aG 163 []:={g:=_}
def g164:H1 prog aG 164 [none,some [18],none,none,none,some [69,6],none,none,none,some [75,6],none,none,none]:={g:=_}
def g150:H4 prog aG 150 [some [999],none]:={g:=_}
def g119:H4 prog aG 119 [none,none,some [85],none,none,none,none,some [106],none,none,none]:={g:=_}
def g114:H2 prog aG 114 [none,none,none]:={g:=_}
def g115:H2 prog aG 115 [none,some [5],none,some [],none,none,none,none,none,some [52],none,none,none,none,none]:={g:=_}
def g116:H1 prog aG 116 []:={g:=_}
def g117:H2 prog aG 117 [none,some [5],none,none,none,some [8,7],none,none,none]:={g:=_}
def g67:H1 prog aG 67 [some [999],none,none,some [5,4],none,none,none,none,none,none,some [5],none,none,none,none,none,none,none,some [12,13],none,none,none,none,none,some [16,15,5,4],none,some [15,5,4],none,none]:={g:=_}
def g68:H1 prog aG 68 [some [999]]:={g:=_}
def g69:H2 prog aG 69 [some [999]]:={g:=_}
def g70:H2 prog aG 70 [some [999],none]:={g:=_}
def g71:H2 prog aG 71 [some [999],some [],some [],some [6],none,none,none,none,none,none,none,none,none,some []]:={g:=_}
def g72:H2 prog aG 72 [some [999],some [],some [6],none,none,none,some [],none,none,none,none,none]:={g:=_}
def g196:H2 prog aG 196 [none,some [20],none,none,none,some [25],none,none,none]:={g:=_}
def g197:H2 prog aG 197 []:={g:=_}
def g169:H3 prog aG 169 [none,none,some [19],none,none,some [9],some [46],none,some [70],none,none,some [82],none,none,none,none]:={g:=_}
def g222:H1 prog aG 222 [some [999],some [0,2],some [0,2],some [2,0]]:={g:=_}
def g120:H2 prog aG 120 [none,some [33],none,none,none,none,some [43],none,none,none,none]:={g:=_}
def g121:H2 prog aG 121 [none,some [8],none,none,none]:={g:=_}
def g122:H1 prog aG 122 [some [999]]:={g:=_}
def g125:H2 prog aG 125 [some [999],none,none,none]:={g:=_}
def g126:H2 prog aG 126 [some [999]]:={g:=_}
def g127:H2 prog aG 127 [some [999],none]:={g:=_}
def g128:H1 prog aG 128 [some [999]]:={g:=_}
def g129:H3 prog aG 129 [some [999],none,some [11],none,none]:={g:=_}
def g130:H2 prog aG 130 []:={g:=_}
def g134:H1 prog aG 134 []:={g:=_}
def g135:H2 prog aG 135 [some [5],some [6],some [6],none,none,some [7],none,none,none,none,some [8],none,none,none,none]:={g:=_}
def g136:H1 prog aG 136 []:={g:=_}
def g138:H3 prog aG 138 [none,some [7],none,none,none]:={g:=_}
def g100:H1 prog aG 100 [none,some [4,3],none,none,none,some [5,3],none,none]:={g:=_}
def g140:H3 prog aG 140 [some [999],none,none]:={g:=_}
def g141:H2 prog aG 141 [some [999]]:={g:=_}
def g142:H2 prog aG 142 [some [999],none,none,some [6],none,none,none,none,none,none,none,none]:={g:=_}
def g144:H2 prog aG 144 [some [999],none,none,none,none,none,none,none,none,none,none,none,none,none]:={g:=_}
def g145:H2 prog aG 145 [some [999],none]:={g:=_}
def g146:H3 prog aG 146 [some [999],none,some [11],none]:={g:=_}
def g147:H3 prog aG 147 [some [999],none,some [8,7],none,none,none]:={g:=_}
def g148:H3 prog aG 148 [some [999]]:={g:=_}
def g149:H2 prog aG 149 [none,some [6],none,none,none]:={g:=_}
def g228:H2 prog aG 228 []:={g:=_}
def g229:H1 prog aG 229 [none,none,none,none,some [22,3],none,none]:={g:=_}
def g230:H1 prog aG 230 [none]:={g:=_}
def g231:H2 prog aG 231 []:={g:=_}
def g232:H1 prog aG 232 [none,none,none,none,none,some [20,3],none,none,none,some [32,3],none,none]:={g:=_}
def g233:H2 prog aG 233 [none,some [8],none,none,none]:={g:=_}
def g167:H1 prog aG 167 []:={g:=_}
def g166:H2 prog aG 166 []:={g:=_}
def g155:H1 prog aG 155 []:={g:=_}
def g156:H2 prog aG 156 []:={g:=_}
def g157:H2 prog aG 157 [some [0],some [1],none,none,none]:={g:=_}
def g158:H1 prog aG 158 [some [3],none,none,some [4,3],none,none]:={g:=_}
def g159:H1 prog aG 159 [none,none,none,none,none,some [4,3],none,none,none,some [5,3],none,none]:={g:=_}
def g103:H2 prog aG 103 [some [1,6],some [1,6],none,none,none]:={g:=_}
def g151:H1 prog aG 151 [none,some [4],none,none,none]:={g:=_}
def g101:H2 prog aG 101 [some [7,8,9],none,none,none,none,some [10,8],none,none,none,none]:={g:=_}
def g102:H1 prog aG 102 []:={g:=_}
def g104:H1 prog aG 104 []:={g:=_}
def g105:H0 prog aG 105 [some [999]]:={g:=_}
def g106:H1 prog aG 106 [some [999],none]:={g:=_}
def g107:H2 prog aG 107 [some [999],none]:={g:=_}
def g108:H1 prog aG 108 [some [999],none]:={g:=_}
def g109:H2 prog aG 109 [some [999],none]:={g:=_}
def g110:H3 prog aG 110 [some [999],none,some [7],none,some [],none]:={g:=_}
def g111:H1 prog aG 111 [some [999],none,some [3],none,none]:={g:=_}
def g112:H1 prog aG 112 [some [999],none,some [4,3],none,some [3],none,some [20],none,none,none,none,none]:={g:=_}
def g113:H1 prog aG 113 [some [999],none,some [4],none,none]:={g:=_}
def g220:H2 prog aG 220 [none,some [5],none,some [5],none,none,some [66,5],none,none,none,some [71,5],none,none,none,none,some [93,5],none,none,none,none,some [118,5],none,none,none,some [140,5],none,none,none,some [158],none,none,none]:={g:=_}
def g198:H1 prog aG 198 []:={g:=_}
def g199:H1 prog aG 199 [none,some [4],none,none,none,none]:={g:=_}
def g200:H2 prog aG 200 [some [6,7,5],none,some [37],none,none,none,some [47],none,none,some [59],none,none,none,none,none,none,some [85],none,none,none]:={g:=_}
def g201:H1 prog aG 201 []:={g:=_}
def g202:H2 prog aG 202 [some [7,5,6],some [26],none,none,none,some [32],none,none,none,none,some [82],none,none,none,none,some [100],none,none,none]:={g:=_}
def g170:H2 prog aG 170 [some [999],none,none,some [6],none]:={g:=_}
def g177:H2 prog aG 177 [none]:={g:=_}
def g178:H2 prog aG 178 []:={g:=_}
def g181:H2 prog aG 181 [some [999],none]:={g:=_}
def g183:H1 prog aG 183 [some [999]]:={g:=_}
def g184:H3 prog aG 184 [some [999],none,none,none,none,none]:={g:=_}
def g186:H5 prog aG 186 [some [999]]:={g:=_}
def g238:H0 prog aG 238 []:={g:=_}
def g194:H1 prog aG 194 [none,some [3],none,none,none]:={g:=_}
def g195:H1 prog aG 195 []:={g:=_}
def g187:H0 prog aG 187 []:={g:=_}
def g152:H1 prog aG 152 [some [999],some [],none,none,none,none,none,none,none,none,none]:={g:=_}
def g153:H1 prog aG 153 [some [999],none,some [4,3],none,none]:={g:=_}
def g154:H1 prog aG 154 [some [999],none,some [4,3],none,none,none,some [5,3],none,none]:={g:=_}
def g203:H1 prog aG 203 [some [999],none]:={g:=_}
def g204:H1 prog aG 204 [some [999]]:={g:=_}
def g205:H2 prog aG 205 [some [999],none,some [4,1],none,none,some [4,12],some [4,12],none]:={g:=_}
def g206:H5 prog aG 206 [some [999],some [],some [1],some [13],none,some [1,13],none,none,none,some [1,13],none,none,some [13],none]:={g:=_}
def g217:H1 prog aG 217 [none,some [3],none,some [16],none]:={g:=_}
def g218:H1 prog aG 218 []:={g:=_}
def g219:H0 prog aG 219 [none,some [7],none,none]:={g:=_}
def g188:H2 prog aG 188 [some [999],none,none,none,none]:={g:=_}
def g189:H1 prog aG 189 [some [999],some [],some [],none,none,some [4],none]:={g:=_}
def g190:H1 prog aG 190 [some [999],none]:={g:=_}
def g191:H1 prog aG 191 [some [999],none,some [],none,none]:={g:=_}
def g192:H1 prog aG 192 [some [999]]:={g:=_}
def g221:H1 prog aG 221 [some [999]]:={g:=_}
def g223:H1 prog aG 223 [some [999],none]:={g:=_}
def g224:H1 prog aG 224 [some [999]]:={g:=_}
def g225:H1 prog aG 225 [some [999],none]:={g:=_}
def g234:H1 prog aG 234 [none,some [6,5,3,4],none,none,none,none,some [12],none,none,none,some [12,10,11],none,none,none,none,some [12],none,none,none]:={g:=_}
def g208:H1 prog aG 208 [some [999],none,some [],none,none]:={g:=_}
def g209:H3 prog aG 209 [some [999]]:={g:=_}
def g210:H1 prog aG 210 [some [999],none,some [],none,none]:={g:=_}
def g235:H1 prog aG 235 [some [999],none]:={g:=_}
def g236:H1 prog aG 236 [some [999],none]:={g:=_}
def g239:H2 prog aG 239 [some [999],none,some [6,5],none,none,none,none,none,some [5],none,some [49],none,none]:={g:=_}
def g240:H1 prog aG 240 [some [999],none,none,some [7],none,none,none,none,none,none,none]:={g:=_}
def g226:H1 prog aG 226 [some [999],none,none,some [5],none,none,none,none,none,none,none,none,some [7],some [],none]:={g:=_}
def g227:H1 prog aG 227 [some [999],none,none,none,none,some [7],none,none,none]:={g:=_}
def g241:H2 prog aG 241 [some [999],none,none]:={g:=_}
def g237:H1 prog aG 237 [some [999],none,some [4,3],none,some [3],none,some [3],some [3],none,none,none,some [55],none,none,none,none,none]:={g:=_}
def g242:H2 prog aG 242 [some [999],none,none,some [20],none,none,none,none,none,some [7,8],none,none,none,none]:={g:=_}
def g243:H2 prog aG 243 [some [999],none,none,some [16],none,none,none,none,none,some [7,8],none,none,none,none]:={g:=_}
def g260:H2 prog aG 260 [none]:={g:=_}
def g261:H1 prog aG 261 []:={g:=_}
def g262:H1 prog aG 262 []:={g:=_}
def g263:H0 prog aG 263 []:={g:=_}
def g264:H1 prog aG 264 []:={g:=_}
def g265:H2 prog aG 265 []:={g:=_}
def g266:H2 prog aG 266 [none]:={g:=_}
def g267:H2 prog aG 267 []:={g:=_}
def g268:H2 prog aG 268 []:={g:=_}
def g269:H2 prog aG 269 []:={g:=_}
def g270:H2 prog aG 270 []:={g:=_}
def g271:H2 prog aG 271 [none]:={g:=_}
def g272:H2 prog aG 272 []:={g:=_}
def g274:H2 prog aG 274 []:={g:=_}
def g275:H2 prog aG 275 []:={g:=_}
def g276:H2 prog aG 276 []:={g:=_}
def g277:H2 prog aG 277 []:={g:=_}
def g278:H2 prog aG 278 []:={g:=_}
def g279:H2 prog aG 279 [none,some [17],none,none,none,some [40],none,none,none,none,none,none,none,none,none,none,some [121],none,none,none]:={g:=_}
def g280:H3 prog aG 280 [some [999]]:={g:=_}
def g281:H3 prog aG 281 [some [999]]:={g:=_}
end Go.Ah.Tz
end
section
namespace Go.Ah.Tz
open Go.Proofs.Tryz (prog)
theorem hP:prog.follows .mixedOrders=true:=by kernel_rfl
theorem c62(a b:List Int)(ha:a.length<4611686018427387904):PC 38 [aP a,aP b] (.bool (decide (a=b))):=by
 refine Xa hP g38.ok rfl rfl ?_;simp only[g38,H2.u,Zf,vC,ZX,A0,zAM];refine⟨λh=>?_,λh=>?_⟩
 ·simp at h ⊢;rintro rfl;exact h rfl
 have hl:a.length=b.length:=by simp at h;omega
 refine Xg (ι:=Nat) (λi vs s=>vs=[iv i]∧i<=a.length∧a.take i=b.take i) (λi=>a.length-i) 0 ⟨rfl,by omega,by simp⟩ ?_;rintro i vs s again ⟨rfl,hi,ht⟩ bj;simp only[vC,h0,qX,ZM,A0];refine⟨λh=>?_,λh=>?_⟩
 ·have h:i<a.length:=by simpa using h
  simp[Ym _ aS _ _ _ a _ i h,Ym _ aS _ _ _ b _ i (by omega),aS,Xc (n:=i) (by omega)];refine⟨λcU e=>?_,λhe=>?_⟩
  ·subst e;exact cU rfl
  ·refine bj (i+1) _ _ (by omega) ⟨rfl,by omega,?_⟩;rw[zAu h,zAu (by omega),ht,he]
 ·have h:¬i<a.length:=by simpa using h
  rw[zAv (by omega),zAv (by omega)]at ht;simp[ht]
def ei(n:Nat)(rows:List (List aa))(k:Nat)(v:aa)(σ:List ab):Prop:=
 (k=0∧v=.al∧rows=[])∨(0<k∧∃b,v=.sl b 0 k false∧ai σ b=.rows n rows∧rows.length=k)
theorem ei.nil(n:Nat)(σ:List ab):ei n [] 0 .al σ:=.inl ⟨rfl,rfl,rfl⟩
variable{rows:List (List aa)}
variable{α:Type}
variable{k b j:Nat}
variable{row:List aa}
variable{v v1:aa}
variable{σ:List ab}
theorem ei.app(A:aE α){hold:α→Prop}{n by_:Nat}(hg:ei n rows k v σ)(hr:row.all aa.cell=true)(bH:(2*(k+1)+192)*by_<=2 ^ 48)(K:aa→List ab→α)
 (hK:∀v' σ',ei n (rows++[row]) (k+1) v' σ'→hold (K v' σ')):hold (A.wr (Qf n by_ [v,.sl σ.length 0 1 true] (σ++[.rows n [row]])) (σ++[.rows n [row]]) K):=by
 rcases hg with ⟨rfl,rfl,rfl⟩|⟨hk,b,rfl,hb,hl⟩
 ·rw[RD A n by_ σ row hr (by simpa using bH)];exact hK _ _ (.inr ⟨by omega,_,rfl,by have:=Yc (σ++[.rows n [row]]) (.rows n [row]);simpa using this,rfl⟩)
 ·rw[HX A n by_ σ b k false rows row hb hl hr bH];refine hK _ _ (.inr ⟨by omega,_,rfl,?_,by simp[hl]⟩);have:=Yc (σ.set b .dead++[.rows n [row]]) (.rows n (rows++[row]));simpa using this
theorem Sj{f:α→List aa}{l:List α}{m:Nat→Option Nat}(h:∀x,(f x).map (aa.cx m)=f x):(l.map f).map (λr=>r.map (aa.cx m))=l.map f:=by
 rw[List.map_map];apply List.map_congr_left;intro x _;exact h x
theorem ei.tidy{n:Nat}{f:α→List aa}{l:List α}(hg:ei n (l.map f) k v σ)(hk:k=l.length)(hf:∀(m:Nat→Option Nat) x,(f x).map (aa.cx m)=f x):Tidy σ v [.rows n (l.map f)] (.sl 0 0 l.length false):=by
 rcases hg with ⟨h1,rfl,h3⟩|⟨qt,b,rfl,hb,hl⟩
 ·have hl:l=[]:=by simpa using h3
  subst hl;refine(Tidy.ghost n (.inl rfl)).trans ?_;have:=Tidy.one (σ:=σ++[.rows n []]) (b:=σ.length) (blk:=.rows n []) (by simp) (λx=>if x=σ.length then some 0 else none) (λ_=>rfl) (.sl σ.length 0 0 false);simpa using this
 ·subst hk;have:=Tidy.one (σ:=σ) (b:=b) (Xv hb (by simp)) (λx=>if x=b then some 0 else none) (λ_=>rfl) (.sl b 0 l.length false);simp only[ab.dF,aa.cx,if_true]at this
  rwa [Sj (hf _)]at this
theorem Zde(m:Nat→Option Nat)(x:Int):(aS x).map (aa.cx m)=aS x:=rfl
theorem YdH(m:Nat→Option Nat)(x:Th):(bc x).map (aa.cx m)=bc x:=rfl
theorem c60(l:List Int)(hl:l.length<=1000000000):dh prog aG 57 [aP l] (.sl 0 0 l.length false) [.rows 1 (l.map aS)]:=by
 refine Xw hP g57.ok rfl ?_;simp only[g57,H1.u];refine Xg (ι:=Nat) (λi vs s=>∃v,vs=[iv i,v]∧i<=l.length∧ei 1 ((l.take i).map aS) i v s) (λi=>l.length-i) 0 ⟨_,rfl,by omega,ei.nil _ _⟩ ?_;rintro i vs s again ⟨v,rfl,hi,hg⟩ bj;simp only[Zf,vC,h0,h1,qX,jM,ZM,A0,zAM];refine⟨λh=>?_,λh=>?_⟩
 ·have h:i<l.length:=by simpa using h
  simp only[Ym _ aS _ _ _ l _ i h,vC,IE,aK,aS,nth];rw[GG _ _ _ _ _ [iv l[i]] rfl rfl];refine hg.app _ (hold:=λp=>p) rfl (by omega) _ (λv' σ' uA=>?_);simp only[Xj,vC,Xc (n:=i) (by omega)];exact bj (i+1) _ _ (by omega) ⟨v',rfl,by omega,by rw[←YM _ _ _ h];exact uA⟩
 ·have h:¬i<l.length:=by simpa using h
  have:i=l.length:=by omega
  subst this;rw[zAl]at hg;exact hg.tidy rfl Zde
theorem c63(a b:List Th)(ha:a.length<4611686018427387904):PC 39 [gS a,gS b] (.bool (decide (a=b))):=by
 refine Xa hP g39.ok rfl rfl ?_;simp only[g39,H2.u,Zf,vC,ZX,A0,zAM];refine⟨λh=>?_,λh=>?_⟩
 ·simp at h ⊢;rintro rfl;exact h rfl
 have hl:a.length=b.length:=by simp at h;omega
 refine Xg (ι:=Nat) (λi vs s=>vs=[iv i]∧i<=a.length∧a.take i=b.take i) (λi=>a.length-i) 0 ⟨rfl,by omega,by simp⟩ ?_;rintro i vs s again ⟨rfl,hi,ht⟩ bj;simp only[vC,h0,qX,ZM,A0];refine⟨λh=>?_,λh=>?_⟩
 ·have h:i<a.length:=by simpa using h
  have hq:CJ true [false,false,false,true] [.agg (bc a[i]),.agg (bc b[i])] s=.ok (.bool (!decide (a[i]=b[i]))) [] []:=by
   have:(decide (a[i]=b[i]))=((a[i].id==b[i].id)&&((a[i].card==b[i].card)&&((a[i].harm==b[i].harm)&&((a[i].nw==b[i].nw)&&true)))):=by
    rw[zAo];cases h1:a[i];cases h2:b[i];simp
   simp[CJ,YZ,GK,bc,this]
  simp only[Ym _ bc _ _ _ a _ i h,Ym _ bc _ _ _ b _ i (by omega),vC,IE,aK,show ∀x,takeN 4 (jk 0 (bc x))=some (bc x) from λ_=>rfl,hq,A0,Xj,Xc (n:=i) (by omega)];refine⟨λcU=>?_,λhe=>?_⟩
  ·simp at cU ⊢;intro e;subst e;exact cU rfl
  ·refine bj (i+1) _ _ (by omega) ⟨rfl,by omega,?_⟩;rw[zAu h,zAu (by omega),ht,show a[i]=b[i] by simpa using he]
 ·have h:¬i<a.length:=by simpa using h
  rw[zAv (by omega),zAv (by omega)]at ht;simp[ht]
theorem c61(l:List Th)(hl:l.length<=1000000000):dh prog aG 58 [gS l] (.sl 0 0 l.length false) [.rows 4 (l.map bc)]:=by
 refine Xw hP g58.ok rfl ?_;simp only[g58,H1.u];refine Xg (ι:=Nat) (λi vs s=>∃v,vs=[iv i,v]∧i<=l.length∧ei 4 ((l.take i).map bc) i v s) (λi=>l.length-i) 0 ⟨_,rfl,by omega,ei.nil _ _⟩ ?_;rintro i vs s again ⟨v,rfl,hi,hg⟩ bj;simp only[Zf,vC,h0,h1,qX,jM,ZM,A0,zAM];refine⟨λh=>?_,λh=>?_⟩
 ·have h:i<l.length:=by simpa using h
  simp only[Ym _ bc _ _ _ l _ i h,vC,IE,aK,show ∀x,takeN 4 (jk 0 (bc x))=some (bc x) from λ_=>rfl];rw[GG _ _ _ _ _ (bc l[i]) rfl rfl];refine hg.app _ (hold:=λp=>p) rfl (by omega) _ (λv' σ' uA=>?_);simp only[Xj,vC,Xc (n:=i) (by omega)];exact bj (i+1) _ _ (by omega) ⟨v',rfl,by omega,by rw[←YM _ _ _ h];exact uA⟩
 ·have h:¬i<l.length:=by simpa using h
  have:i=l.length:=by omega
  subst this;rw[zAl]at hg;exact hg.tidy rfl YdH
variable{f:(nA)→Prop}
theorem vV{k:nA}(h:f k):cP f k:=by unfold cP;exact h
variable{agg d:Bool}
theorem lx{n:Nat}(hb:ai σ b=.box row)(hv:aK agg j n row=some v):Qe agg n [.ak b j] σ=.ok v [b] []:=by
 rw[ZcG,hb];simp only[hv]
theorem LM{n:Nat}(hv:aK agg j n row=some v):Qe agg n [.aq row j] σ=.ok v [] []:=by
 rw[IE,hv]
structure Nb (P:Prop):Prop where
 get:P
theorem Hw{P:Prop}(h:P):Nb P:=⟨h⟩
variable{A B:Prop}
variable{GL:aw}
variable{P:Program}
theorem QM{i n:Nat}(h1:i<n→A)(h2:i=n→B)(hi:i<=n:=by omega):(W P GL).test (.bool (decide ((i:Int)<(n:Int)))) A B:=
 Ya (λh=>h1 (by simpa using h)) (λh=>h2 (by simp at h;omega))
theorem ay(k:B)(h:B→A:=by intro k;(repeat (first|refine Za (vT ..) ?_|refine Za (XV ..) ?_|refine Za rfl ?_|refine Yd rfl rfl ?_|refine Zp rfl ?_|refine Zi rfl ?_|refine Xf rfl rfl ?_|refine Xh ?_|refine Xe ?_|refine Qa ?_|refine Qc rfl ?_|refine Qp ?_|refine Qx rfl ?_|refine Qv rfl ?_|refine vV ?_|refine QU rfl ?_|refine ZY rfl ?_));exact k):A:=h k
theorem ae(k:B)(h:B→A:=by intro k;(repeat (first|refine Za (Zt ..) ?_|refine Za (ZX ..) ?_|refine Za (uT ..) ?_|refine Za rfl ?_|refine Yd rfl rfl ?_|refine Zp rfl ?_|refine Zi rfl ?_|refine Xf rfl rfl ?_|refine Xh ?_|refine Xe ?_|refine Qa ?_|refine Qc rfl ?_|refine Qp ?_|refine Qx rfl ?_|refine Qv rfl ?_|refine vV ?_|refine QU rfl ?_|refine ZY rfl ?_));exact k):A:=h k
theorem ax(k:B)(h:Nb B→A:=by intro k;(repeat (first|refine Za (vT ..) ?_|refine Za (XV ..) ?_|refine Za (Xj ..) ?_|refine Za (Zt ..) ?_|refine Za (ZX ..) ?_|refine Za (ZM ..) ?_|refine Za (Q7 ..) ?_|refine Za rfl ?_|refine Za (lx (by assumption) (by rfl)) ?_|refine Za (LM (by rfl)) ?_|refine Zi rfl ?_|refine Xf (lx (by assumption) (by rfl)) (Zg _) ?_|refine Xf rfl rfl ?_|refine Xh ?_|refine Xe ?_|refine Qa ?_|refine Qc rfl ?_|refine Qp ?_|refine Qx rfl ?_|refine Qv rfl ?_|refine vV ?_|refine QU rfl ?_|refine ZY rfl ?_));exact k.get):A:=h (Hw k)
variable{K:aa→Prop}
theorem od{b w:Bool}{r:(aa→Prop)→Prop}(h1:b=true→(W P GL).gr (.bool true) w r K)(h0:b=false→(W P GL).gr (.bool false) w r K):(W P GL).gr (.bool b) w r K:=by
 cases b
 ·exact h0 rfl
 ·exact h1 rfl
theorem uV{p:Prop}[Decidable p]{a b:Prop}(h1:p→a)(h0:¬p→b):(W P GL).test (.bool (decide p)) a b:=
 Ya (λh=>h1 (of_decide_eq_true h)) (λh=>h0 (of_decide_eq_false h))
theorem Bg{p:Prop}[Decidable p]{w:Bool}{r:(aa→Prop)→Prop}(h1:p→decide p=true→(W P GL).gr (.bool true) w r K)(h0:¬p→decide p=false→(W P GL).gr (.bool false) w r K):(W P GL).gr (.bool (decide p)) w r K:=
 by
 by_cases h:p
 ·rw[eX h];exact h1 h (eX h)
 ·rw[gB h];exact h0 h (gB h)
theorem ag(k:B)(h:Nb B→A:=by intro k;(repeat (first|refine Xh ?_|refine Xe ?_|refine Qa ?_|refine Qc rfl ?_|refine Qp ?_|refine Qx rfl ?_|refine QU rfl ?_|refine ZY rfl ?_|refine Za (Xj ..) ?_|refine Za (Zt ..) ?_|refine Za (ZX ..) ?_|refine Za (ZM ..) ?_|refine Za (Q7 ..) ?_|refine Za (uT ..) ?_|refine Za (by assumption) ?_|refine Za (lx (by assumption) (by assumption)) ?_|refine Za (LM (by assumption)) ?_|refine Za (lx (by assumption) (by rfl)) ?_|refine Za (LM (by rfl)) ?_|refine Za rfl ?_));exact k.get):A:=h (Hw k)
theorem QT(c:Nat)(x:ab):ai (σ.set c .dead++[x]) σ.length=x:=by
 grind [Yc]
attribute [local irreducible] aE.rd aE.pu aE.wr aE.dr aE.gr aE.gw aE.gl aE.gd aE.opt cP W
structure lz (n:Nat) (s:Sd):Prop where
 az:s.az.length<=n
 hand:s.hand.length<=n
 an:s.an.length<=n
 af:s.af.length<=n
 told:s.told.length<=n
structure aY (n:Nat) (s:St):Prop where
 ao:s.ao.length<=n
 s0:lz n s.s0
 s1:lz n s.s1
theorem rq{a b:Sd}:a=b↔a.aX=b.aX∧a.aU=b.aU∧a.most=b.most∧a.az=b.az∧a.hand=b.hand∧a.an=b.an∧a.told=b.told∧a.af=b.af:=by
 cases a;cases b<;>grind
theorem Y4{a b:St}:a=b↔a.turn=b.turn∧a.mover=b.mover∧a.phase=b.phase∧a.bD=b.bD∧a.result=b.result∧a.next=b.next∧a.ao=b.ao∧a.s0=b.s0∧a.s1=b.s1:=by
 cases a;cases b<;>grind
set_option maxHeartbeats 1000000
set_option maxRecDepth 10000
theorem c20(a b:St)(ha:aY 1000000000 a):PC 15 [bZ a,bZ b] (.bool (decide (a=b))):=by
 refine Xa hP g15.ok rfl rfl ?_;rw[H2.e];unfold g15;dsimp only;refine ay ?_;rcases cD (a.turn != b.turn)with h0|h0
 ·rw[h0];refine ay ?_;simp at h0;simp[Y4,h0]
 rw[h0];refine ay ?_;rcases cD (a.mover != b.mover)with h1|h1
 ·rw[h1];refine ay ?_;simp at h1;simp[Y4,h1]
 rw[h1];refine ay ?_;rcases cD (a.phase != b.phase)with h2|h2
 ·rw[h2];refine ay ?_;simp at h2;simp[Y4,h2]
 rw[h2];refine ay ?_;rcases cD (!(a.bD==b.bD))with h3|h3
 ·rw[h3];refine ay ?_;simp at h3;simp[Y4,h3]
 rw[h3];refine ay ?_;rcases cD (a.result != b.result)with h4|h4
 ·rw[h4];refine ay ?_;simp at h4;simp[Y4,h4]
 rw[h4];refine ay ?_;rcases cD (a.next != b.next)with h5|h5
 ·rw[h5];refine ay ?_;simp at h5;simp[Y4,h5]
 rw[h5];refine ay ?_;refine a_ (c62 _ _ (by have:=ha.ao;omega)) g38.ok ?_;refine ay ?_;rcases cD (!decide (a.ao=b.ao))with h6|h6
 ·rw[h6];refine Xh ?_;simp at h6;simp[Y4,h6]
 rw[h6];refine Xe ?_;have w1:BY.wrap (0+1)=1:=by decide
 have w2:BY.wrap (1+1)=2:=by decide
 refine YL 3 (Yl ?_);refine ay ?_;rcases cD (a.s0.aX != b.s0.aX)with h7|h7
 ·rw[h7];refine ay ?_;simp at h7;simp[Y4,rq,h7]
 rw[h7];refine ay ?_;rcases cD (a.s0.aU != b.s0.aU)with h8|h8
 ·rw[h8];refine ay ?_;simp at h8;simp[Y4,rq,h8]
 rw[h8];refine ay ?_;rcases cD (a.s0.most != b.s0.most)with h9|h9
 ·rw[h9];refine ay ?_;simp at h9;simp[Y4,rq,h9]
 rw[h9];refine ay ?_;refine a_ (c62 _ _ (by have:=ha.s0.az;omega)) g38.ok ?_;refine ay ?_;rcases cD (!decide (a.s0.az=b.s0.az))with h10|h10
 ·rw[h10];refine ay ?_;simp at h10;simp[Y4,rq,h10]
 rw[h10];refine ay ?_;refine a_ (c62 _ _ (by have:=ha.s0.hand;omega)) g38.ok ?_;refine ay ?_;rcases cD (!decide (a.s0.hand=b.s0.hand))with h11|h11
 ·rw[h11];refine ay ?_;simp at h11;simp[Y4,rq,h11]
 rw[h11];refine ay ?_;refine a_ (c62 _ _ (by have:=ha.s0.an;omega)) g38.ok ?_;refine ay ?_;rcases cD (!decide (a.s0.an=b.s0.an))with h12|h12
 ·rw[h12];refine ay ?_;simp at h12;simp[Y4,rq,h12]
 rw[h12];refine ay ?_;refine a_ (c62 _ _ (by have:=ha.s0.told;omega)) g38.ok ?_;refine ay ?_;rcases cD (!decide (a.s0.told=b.s0.told))with h13|h13
 ·rw[h13];refine ay ?_;simp at h13;simp[Y4,rq,h13]
 rw[h13];refine ay ?_;refine a_ (c63 _ _ (by have:=ha.s0.af;omega)) g39.ok ?_;refine ay ?_;rcases cD (!decide (a.s0.af=b.s0.af))with h14|h14
 ·rw[h14];refine ay ?_;simp at h14;simp[Y4,rq,h14]
 rw[h14];repeat first|refine Qa ?_|refine Qp ?_|refine Za rfl ?_|refine Zi rfl ?_|refine Xf rfl rfl ?_|refine Yd rfl rfl ?_
 refine Xe (Za rfl ?_);rw[w1];refine Yl (ay ?_);rcases cD (a.s1.aX != b.s1.aX)with h15|h15
 ·rw[h15];refine ay ?_;simp at h15;simp[Y4,rq,h15]
 rw[h15];refine ay ?_;rcases cD (a.s1.aU != b.s1.aU)with h16|h16
 ·rw[h16];refine ay ?_;simp at h16;simp[Y4,rq,h16]
 rw[h16];refine ay ?_;rcases cD (a.s1.most != b.s1.most)with h17|h17
 ·rw[h17];refine ay ?_;simp at h17;simp[Y4,rq,h17]
 rw[h17];refine ay ?_;refine a_ (c62 _ _ (by have:=ha.s1.az;omega)) g38.ok ?_;refine ay ?_;rcases cD (!decide (a.s1.az=b.s1.az))with h18|h18
 ·rw[h18];refine ay ?_;simp at h18;simp[Y4,rq,h18]
 rw[h18];refine ay ?_;refine a_ (c62 _ _ (by have:=ha.s1.hand;omega)) g38.ok ?_;refine ay ?_;rcases cD (!decide (a.s1.hand=b.s1.hand))with h19|h19
 ·rw[h19];refine ay ?_;simp at h19;simp[Y4,rq,h19]
 rw[h19];refine ay ?_;refine a_ (c62 _ _ (by have:=ha.s1.an;omega)) g38.ok ?_;refine ay ?_;rcases cD (!decide (a.s1.an=b.s1.an))with h20|h20
 ·rw[h20];refine ay ?_;simp at h20;simp[Y4,rq,h20]
 rw[h20];refine ay ?_;refine a_ (c62 _ _ (by have:=ha.s1.told;omega)) g38.ok ?_;refine ay ?_;rcases cD (!decide (a.s1.told=b.s1.told))with h21|h21
 ·rw[h21];refine ay ?_;simp at h21;simp[Y4,rq,h21]
 rw[h21];refine ay ?_;refine a_ (c63 _ _ (by have:=ha.s1.af;omega)) g39.ok ?_;refine ay ?_;rcases cD (!decide (a.s1.af=b.s1.af))with h22|h22
 ·rw[h22];refine ay ?_;simp at h22;simp[Y4,rq,h22]
 rw[h22];repeat first|refine Qa ?_|refine Qp ?_|refine Za rfl ?_|refine Zi rfl ?_|refine Xf rfl rfl ?_|refine Yd rfl rfl ?_
 refine Xe (Za rfl ?_);rw[w2];refine Yl (Za rfl (Xe ?_));simp_all [Y4,rq]
theorem Z4(m:Nat→Option Nat)(l:List Int):(ab.rows 1 (l.map aS)).dF (aa.cx m)=.rows 1 (l.map aS):=by
 simp only[ab.dF,Sj (Zde m)]
theorem G5(m:Nat→Option Nat)(l:List Th):(ab.rows 4 (l.map bc)).dF (aa.cx m)=.rows 4 (l.map bc):=by
 simp only[ab.dF,Sj (YdH m)]
theorem w60{l:List Int}(hl:l.length<=1000000000){K:KT}(hK:K (.sl σ.length 0 l.length false) (σ++[.rows 1 (l.map aS)])):VV.call (.call 57) [aP l] σ K:=by
 refine HR (c60 l hl) rfl g57.ok.plain rfl ?_;simp only[Zx,zAN,zBC,Z4,aa.cx,QD,IN];exact hK
theorem d60{l:List Int}(hl:l.length<=1000000000){K:aa→List Nat×List Nat→List ab→Prop}(hK:K (.sl σ.length 0 l.length false) ([],[σ.length]) (σ++[.rows 1 (l.map aS)])):VV.eV (.call 57) [aP l] σ K:=by
 refine OB (c60 l hl) rfl g57.ok.plain rfl ?_;simp only[Zx,zAN,zBC,Z4,aa.cx,QD,IN,Q8];exact hK
theorem d61{l:List Th}(hl:l.length<=1000000000){K:aa→List Nat×List Nat→List ab→Prop}(hK:K (.sl σ.length 0 l.length false) ([],[σ.length]) (σ++[.rows 4 (l.map bc)])):VV.eV (.call 58) [gS l] σ K:=by
 refine OB (c61 l hl) rfl g58.ok.plain rfl ?_;simp only[Zx,zAN,zBC,G5,aa.cx,QD,IN,Q8];exact hK
@[reducible] def xJ(s:Sd)(b:Nat):List aa:=[iv s.aX,iv s.aU,iv s.most,.sl b 0 s.az.length false,.sl (b+1) 0 s.hand.length false,.sl (b+2) 0 s.an.length false,.sl (b+3) 0 s.af.length false,.sl (b+4) 0 s.told.length false]
@[reducible] def sD(s:Sd):List ab:=[.rows 1 (s.az.map aS),.rows 1 (s.hand.map aS),.rows 1 (s.an.map aS),.rows 4 (s.af.map bc),.rows 1 (s.told.map aS)]
@[reducible] def jz(s:St)(b:Nat):List aa:=[iv s.turn,iv s.mover,aO s.phase,.bool s.bD,aO s.result,.sl b 0 s.ao.length false,iv s.next]++xJ s.s0 (b+1)++xJ s.s1 (b+6)
@[reducible] def jn(s:St):List ab:=.rows 1 (s.ao.map aS)::sD s.s0++sD s.s1
theorem c19(s:St)(hs:aY 1000000000 s):dh prog aG 31 [bZ s] (.agg (jz s 0)) (jn s):=by
 refine Xw hP g31.ok rfl ?_;rw[H1.e];unfold g31;dsimp only;have w1:BY.wrap (0+1)=1:=by decide
 have w2:BY.wrap (1+1)=2:=by decide
 refine ay (w60 hs.ao ?_);simp only[IS,zAG,zAL,zAJ,IN,Nat.reduceAdd];refine ay (YL 3 (Yl ?_));refine ay (d60 hs.s0.az ?_);simp only[IS,zAG,zAL,zAJ,IN,Nat.reduceAdd];refine ay (d60 hs.s0.hand ?_);simp only[IS,zAG,zAL,zAJ,IN,Nat.reduceAdd];refine ay (d60 hs.s0.an ?_);simp only[IS,zAG,zAL,zAJ,IN,Nat.reduceAdd];refine ay (d61 hs.s0.af ?_);simp only[IS,zAG,zAL,zAJ,IN,Nat.reduceAdd];refine ay (d60 hs.s0.told ?_);simp only[IS,zAG,zAL,zAJ,IN,Nat.reduceAdd];repeat first|refine Za rfl ?_|refine Yd rfl rfl ?_|refine Zi rfl ?_|refine Xf rfl rfl ?_
 refine Qv (by kernel_rfl) (Za rfl ?_);rw[w1];refine Yl (ay (d60 hs.s1.az ?_));simp only[IS,zAG,zAL,zAJ,IN,Nat.reduceAdd];refine ay (d60 hs.s1.hand ?_);simp only[IS,zAG,zAL,zAJ,IN,Nat.reduceAdd];refine ay (d60 hs.s1.an ?_);simp only[IS,zAG,zAL,zAJ,IN,Nat.reduceAdd];refine ay (d61 hs.s1.af ?_);simp only[IS,zAG,zAL,zAJ,IN,Nat.reduceAdd];refine ay (d60 hs.s1.told ?_);simp only[IS,zAG,zAL,zAJ,IN,Nat.reduceAdd];repeat first|refine Za rfl ?_|refine Yd rfl rfl ?_|refine Zi rfl ?_|refine Xf rfl rfl ?_
 refine Qv (by kernel_rfl) (Za rfl ?_);rw[w2];refine Yl ?_;refine ay ?_;refine Tidy.gc [3,5,6,7,8,9,11,12,13,14,15] (by decide) (by simp) ?_ rfl;simp only[J4,zAN,zBC,ai,Z4,G5]
def gM(l:List Th)(id:Int):Option Nat:=l.findIdx? (λu=>decide (u.id=id))
theorem ZcJ{l:List Th}{id:Int}{i:Nat}(h:i<l.length)(h2:l[i].id=id)(hb:∀j (hj:j<l.length),j<i→l[j].id≠id):gM l id=some i:=by
 unfold gM;rw[List.findIdx?_eq_some_iff_getElem];exact⟨h,by simpa using h2,λj hj=>by simpa using hb j (by omega) hj⟩
theorem QcI{l:List Th}{id:Int}(hb:∀j (hj:j<l.length),l[j].id≠id):gM l id=none:=by
 unfold gM;rw[List.findIdx?_eq_none_iff];intro x hx;obtain⟨j,hj,rfl⟩:=zBg hx;simpa using hb j hj
def aM(s:St)(id:Int):Int×Int×Bool:=match gM s.s0.af id with
 |some k=>(0,k,true)
 |none=>match gM s.s1.af id with
  |some k=>(1,k,true)
  |none=>(0,0,false)
def gJ(s:St)(id:Int):aa:=.bp [iv (aM s id).1,iv (aM s id).2.1,.bool (aM s id).2.2]
theorem c23(s:St)(hs:aY 1000000000 s)(id:Int):PC 56 [bZ s,iv id] (gJ s id):=by
 refine Xa hP g56.ok rfl rfl ?_;rw[H2.e];unfold g56;dsimp only;have w1:BY.wrap (0+1)=1:=by decide
 have w2:BY.wrap (1+1)=2:=by decide
 have u0:=hs.s0.af;have u1:=hs.s1.af;refine ay (YL 3 (Yl ?_));refine Za rfl (Xh ?_);refine Xg (ι:=Nat) (λi vs σ=>vs=[iv i]∧σ=[.box (aF s)]∧i<=s.s0.af.length∧∀j (hj:j<s.s0.af.length),j<i→s.s0.af[j].id≠id) (λi=>s.s0.af.length-i) 0 ⟨rfl,rfl,by omega,λj _ h=>by omega⟩ ?_;rintro i vs σ again ⟨rfl,rfl,hi,hb⟩ bj;refine ay (Ya (λh=>?_) (λh=>?_))
 ·have h:i<s.s0.af.length:=by simpa using h
  refine ay (Za (Ym _ bc _ _ _ _ _ i h) ?_);refine ay (Ya (λh2=>?_) (λh2=>?_))
  ·have h2:s.s0.af[i].id=id:=by simpa using h2
   have hf:gM s.s0.af id=some i:=ZcJ h h2 hb;simp[gJ,aM,hf]
  ·have h2:s.s0.af[i].id≠id:=by simpa using h2
   refine Za rfl ?_;rw[Xc (n:=i) (by omega)];refine bj (i+1) _ _ (by omega) ⟨rfl,rfl,by omega,λj hj hji=>?_⟩;by_cases e:j=i
   ·subst e;exact h2
   ·exact hb j hj (by omega)
 have h:¬i<s.s0.af.length:=by simpa using h
 have kS:gM s.s0.af id=none:=QcI (λj hj=>hb j hj (by omega));refine Za rfl ?_;rw[w1];refine Yl (Za rfl (Xh ?_));refine Xg (ι:=Nat) (λi vs σ=>vs=[iv i]∧σ=[.box (aF s)]∧i<=s.s1.af.length∧∀j (hj:j<s.s1.af.length),j<i→s.s1.af[j].id≠id) (λi=>s.s1.af.length-i) 0 ⟨rfl,rfl,by omega,λj _ h=>by omega⟩ ?_;rintro i vs σ again ⟨rfl,rfl,hi,hb⟩ bj;refine ay (Ya (λh=>?_) (λh=>?_))
 ·have h:i<s.s1.af.length:=by simpa using h
  refine ay (Za (Ym _ bc _ _ _ _ _ i h) ?_);refine ay (Ya (λh2=>?_) (λh2=>?_))
  ·have h2:s.s1.af[i].id=id:=by simpa using h2
   have hf:gM s.s1.af id=some i:=ZcJ h h2 hb;simp[gJ,aM,kS,hf]
  ·have h2:s.s1.af[i].id≠id:=by simpa using h2
   refine Za rfl ?_;rw[Xc (n:=i) (by omega)];refine bj (i+1) _ _ (by omega) ⟨rfl,rfl,by omega,λj hj hji=>?_⟩;by_cases e:j=i
   ·subst e;exact h2
   ·exact hb j hj (by omega)
 have h:¬i<s.s1.af.length:=by simpa using h
 have Hy:gM s.s1.af id=none:=QcI (λj hj=>hb j hj (by omega));refine Za rfl ?_;rw[w2];refine Yl (Za rfl (Xe ?_));simp[gJ,aM,kS,Hy]
abbrev Tx:=List UInt8
inductive Nm where
 |mk (op n who:Int) (kids:List Nm)
 deriving Inhabited
inductive Cn where
 |mk (op who:Int) (name:Tx) (aC:List Nm) (kids:List Cn)
 deriving Inhabited
inductive Ef where
 |mk (op who:Int) (n:Nm) (name:Tx) (c:Cn) (bQ bV:List Ef)
 deriving Inhabited
def Nm.op:Nm→Int | .mk a _ _ _=>a
def Nm.n:Nm→Int | .mk _ a _ _=>a
def Nm.who:Nm→Int | .mk _ _ a _=>a
def Nm.kids:Nm→List Nm | .mk _ _ _ a=>a
def Cn.op:Cn→Int | .mk a _ _ _ _=>a
def Cn.who:Cn→Int | .mk _ a _ _ _=>a
def Cn.name:Cn→Tx | .mk _ _ a _ _=>a
def Cn.aC:Cn→List Nm | .mk _ _ _ a _=>a
def Cn.kids:Cn→List Cn | .mk _ _ _ _ a=>a
def Ef.op:Ef→Int | .mk a _ _ _ _ _ _=>a
def Ef.who:Ef→Int | .mk _ a _ _ _ _ _=>a
def Ef.n:Ef→Nm | .mk _ _ a _ _ _ _=>a
def Ef.name:Ef→Tx | .mk _ _ _ a _ _ _=>a
def Ef.c:Ef→Cn | .mk _ _ _ _ a _ _=>a
def Ef.bQ:Ef→List Ef | .mk _ _ _ _ _ a _=>a
def Ef.bV:Ef→List Ef | .mk _ _ _ _ _ _ a=>a
mutual
def dd:Nm→List aa
 |.mk op n who kids=>[aO op,iv n,aO who,.aW false false 4 (Av kids)]
def Av:List Nm→List (List aa)
 |[]=>[]
 |x::l=>dd x::Av l
end
theorem Qdv:∀l,Av l=l.map dd
 |[]=>rfl
 |x::l=>by simp[Av,Qdv l]
theorem QA(x:Nm):dd x=[aO x.op,iv x.n,aO x.who,.aW false false 4 (x.kids.map dd)]:=by
 cases x;simp[dd,Qdv,Nm.op,Nm.n,Nm.who,Nm.kids]
mutual
def gg:Cn→List aa
 |.mk op who name aC kids=>[aO op,aO who,.str name,.aW false false 4 (aC.map dd),.aW false false 5 (zK kids)]
def zK:List Cn→List (List aa)
 |[]=>[]
 |x::l=>gg x::zK l
end
theorem Ydh:∀l,zK l=l.map gg
 |[]=>rfl
 |x::l=>by simp[zK,Ydh l]
theorem XF(x:Cn):gg x=[aO x.op,aO x.who,.str x.name,.aW false false 4 (x.aC.map dd),.aW false false 5 (x.kids.map gg)]:=by
 cases x;simp[gg,Ydh,Cn.op,Cn.who,Cn.name,Cn.aC,Cn.kids]
mutual
def bq:Ef→List aa
 |.mk op who n name c bQ bV=>[aO op,aO who,aO n.op,iv n.n,aO n.who,.aW false false 4 (n.kids.map dd),.str name,aO c.op,aO c.who,.str c.name,.aW false false 4 (c.aC.map dd),.aW false false 5 (c.kids.map gg),.aW false false 14 (wy bQ),.aW false false 14 (wy bV)]
def wy:List Ef→List (List aa)
 |[]=>[]
 |x::l=>bq x::wy l
end
theorem Ydp:∀l,wy l=l.map bq
 |[]=>rfl
 |x::l=>by simp[wy,Ydp l]
theorem Qr(x:Ef):bq x=[aO x.op,aO x.who,aO x.n.op,iv x.n.n,aO x.n.who,.aW false false 4 (x.n.kids.map dd),.str x.name,aO x.c.op,aO x.c.who,.str x.c.name,.aW false false 4 (x.c.aC.map dd),.aW false false 5 (x.c.kids.map gg),.aW false false 14 (x.bQ.map bq),.aW false false 14 (x.bV.map bq)]:=by
 cases x;simp[bq,Ydp,Ef.op,Ef.who,Ef.n,Ef.name,Ef.c,Ef.bQ,Ef.bV]
structure Cd where
 name:Tx
 unit:Bool
 cost:Int
 dL:Int
 bL:Int
 dq:Int
 eU:Int
 dU:Int
 de:List Ef
 dead:List Ef
 cM:List Ef
 pl:Int
 deriving Inhabited
@[reducible] def gZ(l:List Ef):aa:=.aW false false 14 (l.map bq)
def cN(c:Cd):List aa:=[.str c.name,.bool c.unit,iv c.cost,iv c.dL,iv c.bL,iv c.dq,iv c.eU,iv c.dU,gZ c.de,gZ c.dead,gZ c.cM,iv c.pl]
def vw(t:Tx):List aa:=[.str t]
@[reducible] def HM(l:List Tx):aa:=.aW false false 1 (l.map vw)
structure Fo where
 name:Tx
 least:Int
 most:Int
 jS:Int
 jQ:List Tx
 single:List Tx
 pl:Int
 deriving Inhabited
def oH(f:Fo):List aa:=[.str f.name,iv f.least,iv f.most,iv f.jS,HM f.jQ,HM f.single,iv f.pl]
structure Bk where
 aj:List Cd
 ar:List Fo
 deriving Inhabited
@[reducible] def iM(l:List Cd):aa:=.aW false false 12 (l.map cN)
@[reducible] def px(l:List Fo):aa:=.aW false false 7 (l.map oH)
@[reducible] def cE(b:Bk):aa:=.agg [iM b.aj,px b.ar]
def iE(n:Int):Bool:=decide (-1000000<=n)&&decide (n<=1000000)
theorem c116(n:Int):PC 65 [iv n] (.bool (iE n)):=by
 refine Xa hP g65.ok rfl rfl ?_;rw[H1.e];unfold g65;dsimp only;refine Za rfl ?_;rcases cD (decide (n >= -1000000))with h|h
 ·rw[h];refine ay ?_;have h':-1000000<=n:=by simpa using h
  simp[iE,h']
 ·rw[h];refine ay ?_;have h':¬ -1000000<=n:=by simpa using h
  simp[iE,h']
theorem c57(n:Int):PC 63 [iv n] (.bool (iE n)):=by
 refine Xa hP g63.ok rfl rfl ?_;rw[H1.e];unfold g63;dsimp only;refine Za rfl ?_;rcases cD (decide (n >= -1000000))with h|h
 ·rw[h];refine ay ?_;have h':-1000000<=n:=by simpa using h
  simp[iE,h']
 ·rw[h];refine ay ?_;have h':¬ -1000000<=n:=by simpa using h
  simp[iE,h']
def Yp(n:Nat)(l:List Int)(most:Int):Bool:=decide ((l.length:Int)<=most)&&l.all λc=>decide (0<=c)&&decide (c<n)
theorem c117(b:Bk)(l:List Int)(most:Int)(hl:l.length<=1000000000):PC 92 [cE b,aP l,iv most] (.bool (Yp b.aj.length l most)):=by
 refine Xa hP g92.ok rfl rfl ?_;rw[H3.e];unfold g92;dsimp only;refine ay (Ya (λh=>?_) (λh=>?_))
 ·have h:most<l.length:=by simpa using h
  have h':¬(l.length:Int)<=most:=by omega
  simp[Yp,h']
 have hm:(l.length:Int)<=most:=by simpa using h
 refine Xg (ι:=Nat) (λi vs σ=>vs=[iv i]∧σ=[.box [iM b.aj,px b.ar]]∧i<=l.length∧∀j (hj:j<l.length),j<i→0<=l[j]∧l[j]<b.aj.length) (λi=>l.length-i) 0 ⟨rfl,rfl,by omega,λj _ h=>by omega⟩ ?_;rintro i vs σ again ⟨rfl,rfl,hi,hb⟩ bj;refine ay (Ya (λh=>?_) (λh=>?_))
 ·have h:i<l.length:=by simpa using h
  refine Za (Ym _ aS _ _ _ l _ i h) (ay ?_);have bad:¬(0<=l[i]∧l[i]<b.aj.length)→aa.bool false=aa.bool (Yp b.aj.length l most):=by
   intro hn;have:Yp b.aj.length l most=false:=by
    simp only[Yp,Bool.and_eq_false_iff];right;rw[List.all_eq_false];refine⟨l[i],AT h,?_⟩;simpa using hn
   rw[this]
  rcases cD (decide (l[i]<0))with h2|h2
  ·rw[h2];refine ay (bad ?_);have:l[i]<0:=by simpa using h2
   omega
  rw[h2];refine ay ?_;refine Za (Ym _ aS _ _ _ l _ i h) ?_;refine ay ?_;have h2:¬l[i]<0:=by simpa using h2
  refine Ya (λh3=>?_) (λh3=>?_)
  ·refine bad ?_;have:(b.aj.length:Int)<=l[i]:=by simpa using h3
   omega
  ·have:¬(b.aj.length:Int)<=l[i]:=by simpa using h3
   refine Za rfl ?_;rw[Xc (n:=i) (by omega)];refine bj (i+1) _ _ (by omega) ⟨rfl,rfl,by omega,λj hj hji=>?_⟩;by_cases e:j=i
   ·subst e;omega
   ·exact hb j hj (by omega)
 ·have h:¬i<l.length:=by simpa using h
  have:Yp b.aj.length l most=true:=by
   simp only[Yp,AI,fD,zAm];refine⟨hm,λx hx=>?_⟩;obtain⟨j,hj,rfl⟩:=zBg hx;exact hb j hj (by omega)
  rw[this]
theorem ld{n:Nat}(hb:ai σ b=.box row)(hv:aK agg j n row=some v):Qe agg n [.ak b j] σ=.ok v [b] []:=by
 rw[ZcG,hb];simp only[hv]
theorem c8{n:Nat}{x:aa}{cs row':List aa}(hb:ai σ b=.box row)(hc:cellsOf x=some cs)(hn:IT cs.length n=true)(hs:bX j cs row=some row'):Zj n [.ak b j,x] σ=.ok .aQ [] [(b,.box row')]:=by
 rw[Ydo,hb];simp only[hc,hn,cond_true,hs]
theorem Zv{z:List aa}{n:Nat}{x:aa}{row':List aa}{K:aa→KT}(hc:cellsOf x=some row)(hn:IT row.length n=true)(hs:bX 0 row z=some row')
 (hK:K (.ak σ.length 0) .aQ (σ++[.box row'])):(W P GL).wr (Zs z [] σ) σ (λt σ'=>(W P GL).wr (Zj n [t,x] σ') σ' (K t)):=by
 refine Yd (Zef σ z) (Ye _ _) (Yd (c8 (Yc _ _) hc hn hs) (Ze _ (by simp)) ?_);have:(σ++[ab.box z]).set σ.length (.box row')=σ++[.box row']:=by
  rw[List.set_append_right _ _ (No _)];simp
 rw[this];exact hK
def BX(σ σ':List ab):Prop:=∀c r,ai σ c=.box r→ai σ' c=.box r
theorem BX.trans{a b c:List ab}(h:BX a b)(k:BX b c):BX a c:=λx r e=>k x r (h x r e)
theorem BX.app(σ l:List ab):BX σ (σ++l):=λ_ _ h=>Qb l h
theorem ei.more{n:Nat}(h:ei n rows k v σ)(l:List ab):ei n rows k v (σ++l):=by
 rcases h with h|⟨h1,b,h2,h3,h4⟩
 ·exact .inl h
 ·exact .inr ⟨h1,b,h2,Qb l h3,h4⟩
theorem ei.len{n:Nat}(h:ei n rows k v σ)(σ':List ab):Yn [v] σ'=.ok (.int .i64 k) [] []:=by
 rcases h with ⟨rfl,rfl,_⟩|⟨_,b,rfl,_,_⟩<;>rfl
theorem ei.at{n:Nat}(h:ei n rows k v σ)(q:IntKind)(j:Nat)(hj:j<k) :
  ∃b,Xi n [v,.int q (j:Int)] σ=.ok (.ptr b j 0) [b] []∧∃hj:j<rows.length,∀agg m w,aK agg 0 m rows[j]=some w→Qe agg m [.ptr b j 0] σ=.ok w [b] []:=by
 rcases h with ⟨rfl,rfl,_⟩|⟨_,b,rfl,hb,hl⟩
 ·omega
 ·refine⟨b,?_,by omega,λagg m w hw=>?_⟩
  ·have:=rr σ b 0 k false n rows q j hj hb
   rwa [IN]at this
  ·show (match ai σ b with
   |.rows _ rs=>match nth rs j with
    |some row=>match aK agg 0 m row with
     |some v=>aN.ok v [b] []
     |none=>.stop
    |none=>.stop
   | _=>.stop)=_
   rw[hb];simp only[Y3,zAP (show j<rows.length by omega),hw]
theorem ei.j_(A:aE α){hold:α→Prop}{n by_:Nat}(hg:ei n rows k v σ)(hr:row.all aa.cell=true)(bH:(2*(k+1)+192)*by_<=2 ^ 48)(K:aa→List ab→α)
 (hK:∀v' σ',BX σ σ'→ei n (rows++[row]) (k+1) v' σ'→hold (K v' σ')):hold (A.wr (Qf n by_ [v,.sl σ.length 0 1 true] (σ++[.rows n [row]])) (σ++[.rows n [row]]) K):=by
 rcases hg with ⟨rfl,rfl,rfl⟩|⟨hk,b,rfl,hb,hl⟩
 ·rw[RD A n by_ σ row hr (by simpa using bH)];exact hK _ _ ((BX.app _ _).trans (BX.app _ _)) (.inr ⟨by omega,_,rfl,by have:=Yc (σ++[.rows n [row]]) (.rows n [row]);simpa using this,rfl⟩)
 ·rw[HX A n by_ σ b k false rows row hb hl hr bH];refine hK _ _ (BX.trans (λc r hc=>?_) ((BX.app (σ.set b .dead) _).trans (BX.app _ _))) (.inr ⟨by omega,_,rfl,?_,by simp[hl]⟩)
  ·refine Yb hc (by simp) ?_;rintro rfl;rw[hb]at hc;cases hc
  ·have:=Yc (σ.set b .dead++[.rows n [row]]) (.rows n (rows++[row]));simpa using this
theorem s_(σ:List ab)(f:α→List aa)(e n:Bool)(s:Nat)(l:List α)(k:IntKind)(c:Int)(h0:0<=c)(h:c.toNat<l.length):Xi s [.aW e n s (l.map f),.int k c] σ=.ok (.aq (f l[c.toNat]) 0) [] []:=by
 obtain⟨m,rfl⟩:=Int.eq_ofNat_of_zero_le h0;exact Ym σ f e n s l k m (by simpa using h)
def Zw(b:Bk)(next:Int)(u:Th):Bool:=decide (0<=u.card)&&(decide (u.card<b.aj.length)&&(((b.aj[u.card.toNat]?).map Cd.unit).getD false&&(decide (0<=u.harm)&&(decide (u.harm<=1000000)&&(decide (1<=u.id)&&decide (u.id<next))))))
def XA(b:Bk)(next:Int):List Int→List Th→Bool
 |_,[]=>true
 |ids,u::l=>Zw b next u&&(!(ids.contains u.id)&&XA b next (ids++[u.id]) l)
def Xx(n:Nat)(x:Sd):Bool:=iE x.aX&&(decide (0<=x.aU)&&(iE x.aU&&(decide (0<=x.most)&&(decide (x.most<=10)&&(Yp n x.az 60&&(Yp n x.hand 10&&(Yp n x.an 1000000&&(Yp n x.told 1000000&&decide (x.af.length<=7)))))))))
def XD(b:Bk)(s:St):Bool:=Xx b.aj.length s.s0&&(XA b s.next [] s.s0.af&&(Xx b.aj.length s.s1&&XA b s.next (s.s0.af.map Th.id) s.s1.af))
set_option maxHeartbeats 2000000
def Ix(b:Bk)(s:St):Nat→Bool
 |0=>XD b s
 |1=>Xx b.aj.length s.s1&&XA b s.next (s.s0.af.map Th.id) s.s1.af
 |_=>true
def oZ(s:St):Nat→List Int
 |0=>[]
 |1=>s.s0.af.map Th.id
 |_=>s.s0.af.map Th.id++s.s1.af.map Th.id
theorem c68(b:Bk)(s:St)(hs:aY 1000000000 s):PC 55 [cE b,bZ s] (.bool (XD b s)):=by
 refine Xa hP g55.ok rfl rfl ?_;rw[H2.e];unfold g55;dsimp only;refine ay ?_;refine Xg (ι:=Nat) (λj vs σ=>∃v,vs=[iv j,v]∧j<=2∧ei 1 ((oZ s j).map aS) (oZ s j).length v σ∧ai σ 0=.box [iM b.aj,px b.ar]∧ai σ 1=.box (aF s)∧XD b s=Ix b s j) (λj=>2-j) 0 ⟨_,rfl,by omega,ei.nil _ _,rfl,rfl,rfl⟩ ?_;rintro j vs σ TF ⟨v,rfl,hj,hg,dM,jo,hr⟩ Uw;refine ag (uV (λvd=>?_) (λvd=>?_));rotate_left
 ·have:j=2:=by omega
  subst this;exact congrArg aa.bool hr.symm
 have vd:j=0∨j=1:=by omega
 obtain⟨d,hd,hp,hr,hn,uE⟩:∃d,lz 1000000000 d∧(∀σ,Yk 2 8 [.ak 1 (0+7),iv j] σ=.ok (.ak 1 (7+8*j)) [] []∧aK true (7+8*j) 8 (aF s)=some (.agg (yW d)))∧XD b s=((Xx b.aj.length d&&XA b s.next (oZ s j) d.af)&&Ix b s (j+1))∧oZ s (j+1)=oZ s j++d.af.map Th.id∧(oZ s j).length<=1000000000:=by
  rcases vd with rfl|rfl
  ·exact⟨_,hs.s0,λ_=>⟨rfl,rfl⟩,by simp[XD,Ix,oZ,zCM],rfl,by simp[oZ]⟩
  ·exact⟨_,hs.s1,λ_=>⟨rfl,rfl⟩,by rw[hr];simp[Ix,oZ],rfl,by simpa[oZ]using hs.s0.af⟩
 generalize oZ s j=vm at *;refine Za rfl (Za (hp _).1 (Za (ld jo (hp []).2) (Zv (row':=yW d) rfl rfl rfl ?_)));have vE:=Yc σ (.box (yW d))
 replace dM:=Qb [.box (yW d)] dM
 replace jo:=Qb [.box (yW d)] jo
 replace hg:=hg.more [.box (yW d)]
 generalize σ.length=N at vE ⊢;generalize σ ++ [ab.box (yW d)]=σ2 at dM jo vE hg ⊢;refine ag ?_;repeat' (first
  |refine a_ (c116 _) g65.ok ?_
  |refine a_ (c117 _ _ _ hd.az) g92.ok ?_
  |refine a_ (c117 _ _ _ hd.hand) g92.ok ?_
  |refine a_ (c117 _ _ _ hd.an) g92.ok ?_
  |refine a_ (c117 _ _ _ hd.told) g92.ok ?_
  |refine od (λh=>?_) (λh=>?_)<;>(try rw[h])
  | refine Ya (λh=>?_) (λh=>?_)) <;> (refine ag ?_)
 all_goals first
  |grind [Xx]
  |skip
 have Ds:Xx b.aj.length d=true:=by grind [Xx]
 have PA:d.af.length<=7:=by simp[Xx]at Ds;omega
 rw[Ds,zAH]at hr;refine Xg (ι:=Nat) (λi vs σ=>∃v,vs=[iv i,v]∧i<=d.af.length∧ei 1 ((vm++(d.af.take i).map Th.id).map aS) (vm.length+i) v σ∧ai σ 0=.box [iM b.aj,px b.ar]∧ai σ 1=.box (aF s)∧ai σ N=.box (yW d)∧XD b s=(XA b s.next (vm++(d.af.take i).map Th.id) (d.af.drop i)&&Ix b s (j+1))) (λi=>d.af.length-i) 0 ⟨v,rfl,by omega,by simpa using hg,dM,jo,vE,by simpa using hr⟩ ?_;clear dM jo vE hg hr;rintro i vs σ3 again ⟨v,rfl,hi,hg,dM,jo,vE,hu⟩ bj;refine ag (uV (λh=>?_) (λh=>?_));rotate_left
 ·have h:i=d.af.length:=by simp at h;omega
  subst h;rw[zAl]at hg;rw[zAD,XA,zAH]at hu;refine ag ?_;rw[Xc (n:=j) (by omega)];exact Uw (j+1) _ _ (by omega) ⟨v,rfl,by omega,by rw[hn];simpa using hg,dM,jo,hu⟩
 have h:i<d.af.length:=by simpa using h
 have oV:=Yu _ _ h;have cB:=λσ=>Ym σ bc false false 4 d.af .i64 i h;rw[gK h,XA]at hu;generalize d.af[i]=u at hu oV cB;refine ag (Za (cB _) (Za rfl (Zv (row':=bc u) rfl rfl rfl ?_)));have Ka:=Yc σ3 (.box (bc u))
 replace dM:=Qb [.box (bc u)] dM
 replace jo:=Qb [.box (bc u)] jo
 replace vE:=Qb [.box (bc u)] vE
 replace hg:=hg.more [.box (bc u)]
 generalize σ3.length=N3 at Ka ⊢;generalize σ3 ++ [ab.box (bc u)]=σ4 at dM jo vE Ka hg ⊢;refine ag ?_;repeat' (first
  |(refine Bg (λh e=>?_) (λh e=>?_)<;>(try rw[e]))
  |refine Za (s_ _ cN _ _ _ _ _ _ (by omega) (by simp at *;omega)) ?_
  |refine od (λh=>?_) (λh=>?_)<;>(try rw[h])
  | refine Ya (λh=>?_) (λh=>?_)) <;> (refine ag ?_)
 all_goals first
  |grind [Zw]
  |skip
 have bR:Zw b s.next u=true:=by grind [Zw]
 rw[bR,zAH]at hu;generalize pF:vm++(d.af.take i).map Th.id=ids at hg hu;have lW:ids.length=vm.length+i:=by rw[←pF];simp;omega
 refine Xg (ι:=Nat) (λj vs σ=>vs=[iv j]∧σ=σ4∧j<=ids.length∧∀m (hm:m<ids.length),m<j→ids[m]≠u.id) (λj=>ids.length-j) 0 ⟨rfl,rfl,by omega,λm _ h=>by omega⟩ ?_;rintro j2 vs σ mO ⟨rfl,rfl,hj,mi⟩ lE;refine Za (hg.len _) (ag (uV (λh2=>?_) (λh2=>?_)))
 ·have h2:j2<ids.length:=by omega
  obtain⟨bb,e1,uC,e2⟩:=hg.at .i64 j2 (by omega);refine Za e1 (Za (e2 false 1 (iv ids[j2]) (by simp[aS])) (ag (uV (λh3=>?_) (λh3=>?_))))
  ·have:u.id∈ids:=by rw[←h3];exact AT h2
   grind
  ·refine ag ?_;rw[Xc (n:=j2) (by omega)];exact lE (j2+1) _ _ (by omega) ⟨rfl,rfl,by omega,λm hm xl=>by grind⟩
 have mn:ids.contains u.id=false:=by
  rw[List.contains_eq_mem,s9];intro hm;obtain⟨m,hm,e⟩:=zBg hm;exact mi m hm (by omega) e
 rw[mn,zBw,zAH]at hu;refine ag ?_;rw[GG _ _ _ _ _ [iv u.id] rfl rfl];refine hg.j_ _ (hold:=λp=>p) rfl (by omega) _ (λv' σ' hx uA=>?_);refine ag ?_;rw[Xc (n:=i) (by omega)];have oV:vm++(d.af.take (i+1)).map Th.id=ids++[u.id]:=by rw[←pF,oV];simp
 refine bj (i+1) _ _ (by omega) ⟨v',rfl,by omega,?_,hx _ _ dM,hx _ _ jo,hx _ _ vE,?_⟩
 ·rw[oV];simpa[aS,Nat.add_assoc]using uA
 ·rw[oV];exact hu
def fq(s:St):List Int→List Int→Bool
 |_,[]=>true
 |prev,a::l=>((aM s a).2.2&&decide ((aM s a).1=s.mover))&&(!(prev.contains a)&&fq s (prev++[a]) l)
def aL(e:Int)(b:Bk)(s:St)(bare:Bool):Bool:=
 decide (e=0) && (decide (1<=s.turn) && (decide (s.turn<=4096) && (decide (0<=s.mover) && (decide (s.mover<=1) && (decide (0<=s.phase) && (decide (s.phase<=2) && (decide (0<=s.result) && (decide (s.result<=3) &&
 (((s.result == 0) == (s.phase != 2)) && (decide (1<=s.next) && (decide (s.next<=1000000) && (XD b s &&
 (if s.phase≠1 then decide (s.ao.length=0)else !(decide (s.ao.length=0) && !bare) && (s.bD && (decide (s.ao.length<=7) && fq s [] s.ao)))))))))))))))
theorem c25(b:Bk)(s:St)(hs:aY 1000000000 s)(bare:Bool)(e p:Int)(h67:PC 42 [cE b] (.agg [iv e,iv p])):PC 29 [cE b,bZ s,.bool bare] (.bool (aL e b s bare)):=by
 refine Xa hP g29.ok rfl rfl ?_;rw[H3.e];unfold g29;dsimp only;refine ay ?_;refine a_ h67 g42.ok ?_;refine ay ?_;rcases cD (e != 0)with q1|q1
 ·rw[q1];refine ay ?_;simp at q1;simp[aL,q1]
 rw[q1];refine ay ?_;rcases cD (decide (s.turn<1))with q2|q2
 ·rw[q2];refine ay ?_
  grind [aL]
 rw[q2];refine ay ?_;rcases cD (decide (s.turn>4096))with q3|q3
 ·rw[q3];refine ay ?_
  grind [aL]
 rw[q3];refine ay ?_;rcases cD (decide (s.mover<0))with q4|q4
 ·rw[q4];refine ay ?_
  grind [aL]
 rw[q4];refine ay ?_;rcases cD (decide (s.mover>1))with q5|q5
 ·rw[q5];refine ay ?_
  grind [aL]
 rw[q5];refine ay ?_;rcases cD (decide (s.phase<0))with q6|q6
 ·rw[q6];refine ay ?_
  grind [aL]
 rw[q6];refine ay ?_;rcases cD (decide (s.phase>2))with q7|q7
 ·rw[q7];refine ay ?_
  grind [aL]
 rw[q7];refine ay ?_;rcases cD (decide (s.result<0))with q8|q8
 ·rw[q8];refine ay ?_
  grind [aL]
 rw[q8];refine ay ?_;refine Ya (λq9=>?_) (λq9=>?_)
 ·grind [aL]
 refine ay ?_;rcases cD (!(s.result==0)==(s.phase != 2))with q10|q10
 ·rw[q10];refine ay ?_;simp_all [aL]
 rw[q10];refine ay ?_;rcases cD (decide (s.next<1))with q11|q11
 ·rw[q11];refine ay ?_
  grind [aL]
 rw[q11];refine ay ?_;rcases cD (decide (s.next>1000000))with q12|q12
 ·rw[q12];refine ay ?_
  grind [aL]
 rw[q12];refine ay (a_ (c68 b s hs) g55.ok ?_);refine ay (Ya (λq13=>?_) (λq13=>?_))
 ·grind [aL]
 have Q1:e=0:=by simpa using q1
 have Q10:((s.result==0)==(s.phase != 2))=true:=by
  simp_all
 have Q13:XD b s=true:=by simpa using q13
 simp at q2 q3 q4 q5 q6 q7 q8 q9 q11 q12;have hm:aL e b s bare=(if s.phase≠1 then decide (s.ao.length=0)else !(decide (s.ao.length=0) && !bare)&&(s.bD&&(decide (s.ao.length<=7)&&fq s [] s.ao))):=by
  simp_all [aL]
 rw[hm];clear hm Q1 Q10 Q13 q1 q2 q3 q4 q5 q6 q7 q8 q9 q10 q11 q12 q13;refine ay (Ya (λh=>?_) (λh=>?_))
 ·have h:s.phase≠1:=by simpa using h
  refine ay ?_;rw[aI h]
  congr 1
  rw[zAo];simp
 have h:s.phase=1:=by simpa using h
 rw[aB (by simp[h])];refine ay ?_;rcases cD ((((s.ao.map aS).length:Nat):Int)==0)with h1|h1
 ·rw[h1];have h1:s.ao=[]:=by simpa using h1
  refine ay ?_;cases bare with
  |false=>
   refine ay ?_;simp[h1]
  |true=>
   refine ay ?_;rcases cD (!s.bD)with h2|h2
   ·rw[h2];refine ay ?_;simp_all
   rw[h2];have h2:s.bD=true:=by simpa using h2
   refine ay ?_;rw[h1];refine Xe (YL 1 (Yl ?_));refine ay ?_;rw[h1];refine Xe ?_;simp[h2,fq]
 rw[h1];have h1:s.ao.length≠0:=by simpa using h1
 refine ay ?_;have uY:(decide (s.ao.length=0) && !bare)=false:=by simp[h1]
 rw[uY,zBw,zAH];rcases cD (!s.bD)with h2|h2
 ·rw[h2];refine ay ?_;simp_all
 rw[h2];have h2:s.bD=true:=by simpa using h2
 rw[h2,zAH];refine ay (Ya (λh3=>?_) (λh3=>?_))
 ·grind
 have h3:s.ao.length<=7:=by simp at h3;omega
 rw[eX h3,zAH];have bad:fq s [] s.ao=false→aa.bool false=aa.bool (fq s [] s.ao):=λh=>by rw[h]
 generalize hB:([]++[ab.box [iM b.aj,px b.ar]]++[ab.box (aF s)]:List ab)=base;have jo:ai base 1=.box (aF s):=by rw[←hB];rfl
 generalize hN:([]++[ab.box [iM b.aj,px b.ar]]:List ab).length=N;have hN1:N=1:=by rw[←hN];rfl
 subst hN1;clear hB hN;refine Xg (ι:=Nat) (λi vs σ=>vs=[iv i]∧σ=base∧i<=s.ao.length∧fq s [] s.ao=fq s (s.ao.take i) (s.ao.drop i)) (λi=>s.ao.length-i) 0 ⟨rfl,rfl,by omega,by simp⟩ ?_;rintro i vs σ again ⟨rfl,rfl,hi,hu⟩ bj;refine ax (Ya (λh=>?_) (λh=>?_))
 ·have h:i<s.ao.length:=by simpa using h
  have dY:s.ao.drop i=s.ao[i]::s.ao.drop (i+1):=by rw[gK h]
  rw[dY]at hu;refine Xf (ld jo rfl) (Zg _) (Zi rfl (Xf (ld jo rfl) (Zg _) (Xf (Ym _ aS _ _ _ _ _ i h) (Zg _) (Xf rfl (Zg _) ?_))));refine i_ (c23 s hs s.ao[i]) g56.ok (ay ?_);generalize ha:s.ao[i]=a at hu;rcases cD (!(aM s a).2.2)with h4|h4
  ·rw[h4];refine ay (bad ?_);simp_all [fq]
  rw[h4];refine ax (Ya (λh5=>bad ?_) (λh5=>?_))
  ·simp_all [fq]
  have oR:((aM s a).2.2&&decide ((aM s a).1=s.mover))=true:=by
   simp_all
  rw[fq,oR,zAH]at hu;refine Xg (ι:=Nat) (λj vs σ2=>vs=[iv j]∧σ2=σ∧j<=i∧∀m (hm:m<s.ao.length),m<j→s.ao[m]≠a) (λj=>i-j) 0 ⟨rfl,rfl,by omega,λm _ h=>by omega⟩ ?_;rintro j vs σ mO ⟨rfl,rfl,hj,mi⟩ lE;refine Za rfl (Ya (λh6=>?_) (λh6=>?_))
  ·have h6:j<i:=by simpa using h6
   repeat first|refine Za (ld jo rfl) ?_|refine Za (Ym _ aS _ _ _ s.ao _ j (by omega)) ?_|refine Za (Ym _ aS _ _ _ s.ao _ i h) ?_|refine Za rfl ?_
   refine Ya (λh7=>bad ?_) (λh7=>?_)
   ·have h7:s.ao[j]=a:=by rw[←ha];simpa using h7
    have:a∈s.ao.take i:=by
     rw[zDR];exact⟨j,by omega,h7⟩
    rw[hu];simp[this]
   ·have h7:s.ao[j]≠a:=by rw[←ha];simpa using h7
    refine Za rfl ?_;rw[Xc (n:=j) (by omega)];refine lE (j+1) _ _ (by omega) ⟨rfl,rfl,by omega,λm hm xl=>?_⟩
    grind
  ·have h6:¬j<i:=by simpa using h6
   have mn:(s.ao.take i).contains a=false:=by
    grind [zDR]
   rw[mn,zBw,zAH]at hu;refine Za rfl ?_;rw[Xc (n:=i) (by omega)];refine bj (i+1) _ _ (by omega) ⟨rfl,rfl,by omega,?_⟩;rw[Yu _ _ h,ha];exact hu
 grind [fq]
abbrev gy:Nat:=1152921504606846975
def B9(n:Int):Bool:=decide (-128<=n)&&decide (n<=127)
def DU(n:Int):Bool:=decide (-9223372036854775808<=n)&&decide (n<=9223372036854775807)
theorem YeB{n:Int}(h:B9 n=true):-128<=n∧n<=127:=by simpa[B9]using h
mutual
def c7:Nm→Bool
 |.mk op n _ kids=>decide (kids.length<=gy)&&(zf kids&&(B9 op&&DU n))
def zf:List Nm→Bool
 |[]=>true
 |x::l=>c7 x&&zf l
end
theorem Sf:∀ {l:List Nm},zf l=true→∀x∈l,c7 x=true
 |[],_,_,h=>by simp at h
 |y::l,h,x,hx=>by
  simp only[zf,AI]at h;rcases zAS.1 hx with rfl|hx
  ·exact h.1
  ·exact Sf h.2 x hx
theorem HW{x:Nm}(h:c7 x=true):x.kids.length<=gy:=by cases x;simp[c7]at h;exact h.1
theorem Y0{x k:Nm}(h:c7 x=true)(hk:k∈x.kids):c7 k=true:=by cases x;simp[c7]at h;exact Sf h.2.1 k hk
theorem Bf{x k:Nm}(hk:k∈x.kids):zAV k<zAV x:=by
 cases x with
 |mk a b c kids=>
  have:=zBN (show k∈kids from hk);simp;omega
mutual
def cK:Cn→Bool
 |.mk op _ _ aC kids=>(decide (aC.length<=gy)&&zf aC)&&(decide (kids.length<=gy)&&(CL kids&&B9 op))
def CL:List Cn→Bool
 |[]=>true
 |x::l=>cK x&&CL l
end
theorem YbD:∀ {l:List Cn},CL l=true→∀x∈l,cK x=true
 |[],_,_,h=>by simp at h
 |y::l,h,x,hx=>by
  simp only[CL,AI]at h;rcases zAS.1 hx with rfl|hx
  ·exact h.1
  ·exact YbD h.2 x hx
theorem Z5{x:Cn}(h:cK x=true):x.aC.length<=gy:=by cases x;simp[cK]at h;exact h.1.1
theorem Q4{x:Cn}(h:cK x=true):x.kids.length<=gy:=by cases x;simp[cK]at h;exact h.2.1
theorem Z7{x:Cn}{k:Nm}(h:cK x=true)(hk:k∈x.aC):c7 k=true:=by cases x;simp[cK]at h;exact Sf h.1.2 k hk
theorem Q6{x k:Cn}(h:cK x=true)(hk:k∈x.kids):cK k=true:=by cases x;simp[cK]at h;exact YbD h.2.2.1 k hk
theorem CT{x k:Cn}(hk:k∈x.kids):zAV k<zAV x:=by
 cases x with
 |mk a b c aC kids=>
  have:=zBN (show k∈kids from hk);simp;omega
mutual
def dW:Ef→Bool
 |.mk op _ n _ c bQ bV=>c7 n&&(cK c&&((decide (bQ.length<=gy)&&yr bQ)&&((decide (bV.length<=gy)&&yr bV)&&B9 op)))
def yr:List Ef→Bool
 |[]=>true
 |x::l=>dW x&&yr l
end
theorem XbF:∀ {l:List Ef},yr l=true→∀x∈l,dW x=true
 |[],_,_,h=>by simp at h
 |y::l,h,x,hx=>by
  simp only[yr,AI]at h;rcases zAS.1 hx with rfl|hx
  ·exact h.1
  ·exact XbF h.2 x hx
def bF(l:List Ef):Bool:=decide (l.length<=gy)&&yr l
variable{x:Ef}
theorem zn(h:dW x=true):c7 x.n=true:=by cases x;simp[dW]at h;exact h.1
theorem Z8(h:dW x=true):cK x.c=true:=by cases x;simp[dW]at h;exact h.2.1
theorem ZP(h:dW x=true):bF x.bQ=true:=by cases x;simp_all [dW,bF,Ef.bQ]
theorem QO(h:dW x=true):bF x.bV=true:=by cases x;simp_all [dW,bF,Ef.bV]
theorem QdT(h:dW x=true):-128<=x.op∧x.op<=127:=by cases x;simp[dW]at h;exact YeB h.2.2.2.2
theorem ZC{l:List Ef}(h:bF l=true):l.length<=gy:=by simp[bF]at h;exact h.1
theorem YP{l:List Ef}(h:bF l=true)(hx:x∈l):dW x=true:=by grind [bF,XbF]
theorem bw{n:Int}(h1:-9223372036854775808<=n)(h2:n<=9223372036854775807):BY.wrap n=n:=zAY _ ⟨h1,h2⟩
theorem mX(x:Nm):gh [.agg (dd x)]=true:=by rw[QA];rfl
theorem so(x:Nm):aK true 0 4 (dd x)=some (.agg (dd x)):=by rw[QA];rfl
theorem rD(x:Cn):gh [.agg (gg x)]=true:=by rw[XF];rfl
theorem zJ(x:Cn):aK true 0 5 (gg x)=some (.agg (gg x)):=by rw[XF];rfl
theorem bB{n:Nat}(hv:aK agg j n row=some v):Qe agg n [.aq row j] σ=.ok v [] []:=by
 rw[IE,hv]
mutual
def mA:Nm→Int
 |.mk _ _ _ kids=>kH 1 kids
def kH:Int→List Nm→Int
 |n,[]=>n
 |n,x::l=>kH (min (n+mA x) 1073741824) l
end
theorem Xd8(x:Nm):mA x=kH 1 x.kids:=by cases x;rfl
theorem Rb:∀(l:List Nm) (n:Int),0<=n→n<=1073741824→(∀x∈l,0<=mA x)→0<=kH n l∧kH n l<=1073741824
 |[],n,h1,h2,_=>⟨h1,h2⟩
 |x::l,n,h1,h2,h3=>by
  have:=h3 x (by simp);exact Rb l _ (by omega) (by omega) (λy hy=>h3 y (by simp[hy]))
theorem Qd8:∀(k:Nat) (x:Nm),zAV x<=k→0<=mA x∧mA x<=1073741824
 |0,x,h=>by cases x;simp at h
 |k+1,x,h=>by
  rw[Xd8];exact Rb _ _ (by omega) (by omega) (λy hy=>(Qd8 k y (by have:=Bf hy;omega)).1)
theorem IQ(x:Nm):0<=mA x∧mA x<=1073741824:=Qd8 _ x (No _)
mutual
def oz:Cn→Int
 |.mk _ _ _ aC kids=>oA (kH 1 aC) kids
def oA:Int→List Cn→Int
 |n,[]=>n
 |n,x::l=>oA (min (n+oz x) 1073741824) l
end
theorem Zd4(x:Cn):oz x=oA (kH 1 x.aC) x.kids:=by cases x;rfl
theorem Zdh:∀(l:List Cn) (n:Int),0<=n→n<=1073741824→(∀x∈l,0<=oz x)→0<=oA n l∧oA n l<=1073741824
 |[],n,h1,h2,_=>⟨h1,h2⟩
 |x::l,n,h1,h2,h3=>by
  have:=h3 x (by simp);exact Zdh l _ (by omega) (by omega) (λy hy=>h3 y (by simp[hy]))
theorem Yd4:∀(k:Nat) (x:Cn),zAV x<=k→0<=oz x∧oz x<=1073741824
 |0,x,h=>by cases x;simp at h
 |k+1,x,h=>by
  rw[Zd4];have h1:=Rb x.aC 1 (by omega) (by omega) (λy _=>(IQ y).1);exact Zdh _ _ h1.1 h1.2 (λy hy=>(Yd4 k y (by have:=CT hy;omega)).1)
theorem Rh(x:Cn):0<=oz x∧oz x<=1073741824:=Yd4 _ x (No _)
def cw(op:Int):Bool:=decide (op=0)||(decide (op=1)||(decide (op=2)||(decide (op=3)||decide (op=5))))
def mY(w:Int):Bool:=decide (w=0)||decide (w=1)
theorem JB:∀(k:Nat) (x:Nm),zAV x<=k→c7 x=true→PC 99 [.agg (dd x)] (iv (mA x))
 |0,x,h,_=>by cases x;simp at h
 |k+1,x,hk,hf=>by
  rw[QA];refine Xa hP g99.ok rfl rfl ?_;rw[H1.e];unfold g99;dsimp only;refine Yd rfl rfl ?_;rw[Xd8];have hlen:=HW hf;generalize hB:([]++[ab.box [aO x.op,iv x.n,aO x.who,.aW false false 4 (x.kids.map dd)]]:List ab)=base;have dM:ai base 0=.box [aO x.op,iv x.n,aO x.who,.aW false false 4 (x.kids.map dd)]:=by rw[←hB];rfl
  clear hB;refine Xg (ι:=Nat) (λi vs σ=>∃n,vs=[iv i,iv n]∧σ=base∧i<=x.kids.length∧0<=n∧n<=1073741824∧kH 1 x.kids=kH n (x.kids.drop i)) (λi=>x.kids.length-i) 0 ⟨1,rfl,rfl,by omega,by omega,by omega,by simp⟩ ?_;rintro i vs σ again ⟨n,rfl,rfl,hi,n1,n2,hu⟩ bj;repeat first|refine Za (ld dM rfl) ?_|refine Za rfl ?_
  refine Ya (λh=>?_) (λh=>?_)
  ·have h:i<x.kids.length:=by simpa using h
   have dY:x.kids.drop i=x.kids[i]::x.kids.drop (i+1):=by rw[gK h]
   rw[dY,kH]at hu;have hm:x.kids[i]∈x.kids:=AT h;refine Za rfl (Za (ld dM rfl) (Za (Ym _ dd _ _ _ x.kids _ i h) (Za (bB (so _)) ?_)));refine Qo (JB k _ (by have:=Bf hm;omega) (Y0 hf hm)) rfl g99.ok.plain (mX _) ?_;have:=IQ x.kids[i];refine Za (Xj ..) (Za (XV ..) (Za (Xj ..) ?_));rw[Xc (n:=i) (by grind),bw (by omega) (by omega)];exact bj (i+1) _ _ (by omega) ⟨_,rfl,rfl,by omega,by omega,by omega,hu⟩
  ·have h:i=x.kids.length:=by simp at h;omega
   subst h;rw[zAD]at hu;rw[hu];rfl
theorem c76(x:Nm)(hf:c7 x=true):PC 99 [.agg (dd x)] (iv (mA x)):=JB _ x (No _) hf
theorem GA{k:nA}(h:f k):cP f k:=by unfold cP;exact h
theorem c9:gy=1152921504606846975:=rfl
theorem mc(x:Ef):aK true 0 14 (bq x)=some (.agg (bq x)):=by rw[Qr];rfl
theorem rI(x:Ef):aK true 2 4 (bq x)=some (.agg (dd x.n)):=by rw[Qr,QA];rfl
theorem oF(x:Ef):aK true 7 5 (bq x)=some (.agg (gg x.c)):=by rw[Qr,XF];rfl
theorem gY(x:Ef):aK false 0 1 (bq x)=some (aO x.op):=by rw[Qr];rfl
theorem oE(x:Ef):aK false 1 1 (bq x)=some (aO x.who):=by rw[Qr];rfl
theorem BL(x:Ef):aK false 6 1 (bq x)=some (.str x.name):=by rw[Qr];rfl
theorem CE(x:Ef):aK false 12 1 (bq x)=some (gZ x.bQ):=by rw[Qr];rfl
theorem CW(x:Ef):aK false 13 1 (bq x)=some (gZ x.bV):=by rw[Qr];rfl
theorem Bj:∀(k:Nat) (x:Cn),zAV x<=k→cK x=true→PC 100 [.agg (gg x)] (iv (oz x))
 |0,x,h,_=>by cases x;simp at h
 |k+1,x,hk,hf=>by
  rw[XF];refine Xa hP g100.ok rfl rfl ?_;rw[H1.e];unfold g100;dsimp only;refine Yd rfl rfl ?_;rw[Zd4];have gz:=Z5 hf;have dO:=Q4 hf;rw[c9]at gz dO;generalize hB:([]++[ab.box [aO x.op,aO x.who,.str x.name,.aW false false 4 (x.aC.map dd),.aW false false 5 (x.kids.map gg)]]:List ab)=base;have dM:ai base 0=.box [aO x.op,aO x.who,.str x.name,.aW false false 4 (x.aC.map dd),.aW false false 5 (x.kids.map gg)]:=by rw[←hB];rfl
  clear hB;refine Xg (ι:=Nat) (λi vs σ=>∃n,vs=[iv i,iv n]∧σ=base∧i<=x.aC.length∧0<=n∧n<=1073741824∧kH 1 x.aC=kH n (x.aC.drop i)) (λi=>x.aC.length-i) 0 ⟨1,rfl,rfl,by omega,by omega,by omega,by simp⟩ ?_;rintro i vs σ again ⟨n,rfl,rfl,hi,n1,n2,hu⟩ bj;refine ax (Ya (λh=>?_) (λh=>?_))
  ·have h:i<x.aC.length:=by simpa using h
   have dY:x.aC.drop i=x.aC[i]::x.aC.drop (i+1):=by rw[gK h]
   rw[dY,kH]at hu;have hm:x.aC[i]∈x.aC:=AT h;refine Za rfl (Za (ld dM rfl) (Za (Ym _ dd _ _ _ x.aC _ i h) (Za (bB (so _)) ?_)));refine Qo (c76 _ (Z7 hf hm)) rfl g99.ok.plain (mX _) ?_;have:=IQ x.aC[i];refine ay ?_;rw[Xc (n:=i) (by omega),bw (by omega) (by omega)];exact bj (i+1) _ _ (by omega) ⟨_,rfl,rfl,by omega,by omega,by omega,hu⟩
  have h:i=x.aC.length:=by simp at h;omega
  subst h;rw[zAD,kH]at hu;rw[hu];clear bj hu hi;refine Xg (ι:=Nat) (λi vs s=>∃m,vs=[iv i,iv m]∧s=σ∧i<=x.kids.length∧0<=m∧m<=1073741824∧oA n x.kids=oA m (x.kids.drop i)) (λi=>x.kids.length-i) 0 ⟨n,rfl,rfl,by omega,by omega,by omega,by simp⟩ ?_;rintro i vs s again ⟨m,rfl,rfl,hi,n1,n2,hu⟩ bj;refine ax (Ya (λh=>?_) (λh=>?_))
  ·have h:i<x.kids.length:=by simpa using h
   have dY:x.kids.drop i=x.kids[i]::x.kids.drop (i+1):=by rw[gK h]
   rw[dY,oA]at hu;have hm:x.kids[i]∈x.kids:=AT h;refine Za rfl (Za (ld dM rfl) (Za (Ym _ gg _ _ _ x.kids _ i h) (Za (bB (zJ _)) ?_)));refine Qo (Bj k _ (by have:=CT hm;omega) (Q6 hf hm)) rfl g100.ok.plain (rD _) ?_;have:=Rh x.kids[i];refine ay ?_;rw[Xc (n:=i) (by omega),bw (by omega) (by omega)];exact bj (i+1) _ _ (by omega) ⟨_,rfl,rfl,by omega,by omega,by omega,hu⟩
  ·have h:i=x.kids.length:=by simp at h;omega
   subst h;rw[zAD]at hu;rw[hu];rfl
theorem c178(x:Cn)(hf:cK x=true):PC 100 [.agg (gg x)] (iv (oz x)):=Bj _ x (No _) hf
theorem c121(w:Int):PC 139 [aO w] (.bool (mY w)):=by
 refine Xa hP g139.ok rfl rfl ?_;rw[H1.e];unfold g139;dsimp only;refine Za rfl ?_;rcases cD (w==0)with h1|h1
 ·rw[h1];refine ay ?_;simp at h1;simp[mY,h1]
 rw[h1];refine ay ?_;have h1:w≠0:=by simpa using h1
 exact congrArg aa.bool (by rw[zAo];simp[mY,h1])
theorem c130(w:Int):PC 98 [aO w] (.bool (cw w)):=by
 refine Xa hP g98.ok rfl rfl ?_;rw[H1.e];unfold g98;dsimp only;refine Za rfl ?_;rcases cD (w==0)with h0|h0
 ·rw[h0];refine ay ?_;simp at h0;simp[cw,h0]
 rw[h0];refine ay ?_;rcases cD (w==1)with h1|h1
 ·rw[h1];refine ay ?_;simp at h1;simp[cw,h1]
 rw[h1];refine ay ?_;rcases cD (w==2)with h2|h2
 ·rw[h2];refine ay ?_;simp at h2;simp[cw,h2]
 rw[h2];refine ay ?_;rcases cD (w==3)with h3|h3
 ·rw[h3];refine ay ?_;simp at h3;simp[cw,h3]
 rw[h3];refine ay ?_;simp at h0 h1 h2 h3;exact congrArg aa.bool (by rw[zAo];simp[cw,h0,h1,h2,h3])
mutual
def dD:Int→List Ef→Int
 |n,[]=>n
 |n,x::l=>dD (C7 n x) l
def C7:Int→Ef→Int
 |n0,.mk op _ nn _ c bQ bV=>
  if op=8 then min ((if cw op then min (min (n0+1) 1073741824+mA nn) 1073741824 else min (n0+1) 1073741824)+oz c+dD 0 bQ+dD 0 bV) 1073741824 else (if cw op then min (min (n0+1) 1073741824+mA nn) 1073741824 else min (n0+1) 1073741824)
end
theorem IM(n:Int)(x:Ef):C7 n x=if x.op=8 then min ((if cw x.op then min (min (n+1) 1073741824+mA x.n) 1073741824 else min (n+1) 1073741824)+oz x.c+dD 0 x.bQ+dD 0 x.bV) 1073741824 else (if cw x.op then min (min (n+1) 1073741824+mA x.n) 1073741824 else min (n+1) 1073741824):=by
 cases x;rfl
theorem Ny:∀(k:Nat) (l:List Ef) (n:Int),zAV l<=k→0<=n→n<=1073741824→0<=dD n l∧dD n l<=1073741824
 |0,l,n,h,_,_=>by cases l<;>simp at h
 |k+1,[],n,_,h1,h2=>⟨h1,h2⟩
 |k+1,x::l,n,h,h1,h2=>by
  simp only[List.cons.sizeOf_spec]at h;have hx:zAV x.bQ<zAV x∧zAV x.bV<zAV x:=by
   cases x;simp[Ef.bQ,Ef.bV];omega
  have q1:=Ny k x.bQ 0 (by omega) (by omega) (by omega);have q2:=Ny k x.bV 0 (by omega) (by omega) (by omega);have q3:=IQ x.n;have q4:=Rh x.c;have q5:0<=C7 n x∧C7 n x<=1073741824:=by
   rw[IM];split<;>split<;>omega
  rw[dD];exact Ny k l _ (by omega) q5.1 q5.2
theorem Jb(l:List Ef):0<=dD 0 l∧dD 0 l<=1073741824:=Ny _ l 0 (No _) (by omega) (by omega)
theorem G3(x:Ef):zAV x.bQ<zAV x∧zAV x.bV<zAV x:=by
 cases x;simp[Ef.bQ,Ef.bV];omega
theorem rz:∀(k:Nat) (l:List Ef),zAV l<=k→bF l=true→PC 66 [gZ l] (iv (dD 0 l))
  |0,l,h,_=>by cases l<;>simp at h
  |k+1,l,hk,hf=>by
    refine Xa hP g66.ok rfl rfl ?_;rw[H1.e];unfold g66;dsimp only;have hlen:=ZC hf;rw[c9]at hlen;refine Xg (ι:=Nat) (λi vs σ=>∃n,vs=[iv i,iv n]∧i<=l.length∧0<=n∧n<=1073741824∧dD 0 l=dD n (l.drop i)) (λi=>l.length-i) 0 ⟨0,rfl,by omega,by omega,by omega,by simp⟩ ?_;rintro i vs σ again ⟨n,rfl,hi,n1,n2,hu⟩ bj;refine Za rfl (Za rfl ?_);refine Ya (λh=>?_) (λh=>?_)
    · have h:i<l.length:=by simpa using h
      have dY:l.drop i=l[i]::l.drop (i+1):=by rw[gK h]
      rw[dY,dD]at hu;have hm:l[i]∈l:=AT h;have eN:=zBN hm;have jN:=YP hf hm;have ix:=λ(s:List ab)=>Ym s bq false false 14 l .i64 i h;generalize l[i]=x at hu eN jN ix;refine ay (Za (ix _) (Za rfl (Za (bB (gY x)) ?_)));refine a_ (c130 _) g98.ok ?_;have b1:=IQ x.n;have b2:=Rh x.c;have b3:=Jb x.bQ;have b4:=Jb x.bV;rw[bw (n:=n+1) (by omega) (by omega)];have fin:∀m:Int,0<=m→m<=1073741824→C7 n x=m→again [iv ((i+1:Nat):Int),iv m] σ:=by
        intro m m1 m2 e;exact bj (i+1) _ _ (by omega) ⟨m,rfl,by omega,m1,m2,by rw[hu,e]⟩
      refine GA (Ya (λhc=>?_) (λhc=>?_))
      all_goals
        first
        | (refine Za (ix _) (Za rfl (Za (bB (rI x)) ?_))
           refine Qo (c76 _ (zn jN)) rfl g99.ok.plain (mX _) (ay ?_);rw[bw (n:=min (n + 1) 1073741824 + mA x.n) (by omega) (by omega)])
        |skip
      · have qZ:(if cw x.op then min (min (n+1) 1073741824+mA x.n) 1073741824 else min (n+1) 1073741824)=min (min (n+1) 1073741824+mA x.n) 1073741824:=by rw[aI hc]
        obtain⟨m,hm⟩:∃m,m=min (min (n+1) 1073741824+mA x.n) 1073741824:=⟨_,rfl⟩;rw[←hm]
        replace qZ:=qZ.trans hm.symm
        have m1:0<=m∧m<=1073741824:=by omega
        refine Za (ix _) (Za rfl (Za (bB (gY x)) (Za rfl ?_)));refine Ya (λh8=>?_) (λh8=>?_)
        · have h8:x.op=8:=by simpa using h8
          refine Xf (ix _) (Zg _) (Zi rfl (Xf (bB (oF x)) (Zg _) ?_));refine Xt (c178 _ (Z8 jN)) rfl g100.ok.plain (rD _) (Zi (Xj ..) (Xf (ix _) (Zg _) (Zi rfl (Xf (bB (CE x)) (Zg _) ?_))));have qw:=G3 x;refine i_ (rz k _ (by omega) (ZP jN)) g66.ok (Zi (Xj ..) (Xf (ix _) (Zg _) (Zi rfl (Xf (bB (CW x)) (Zg _) ?_))));refine i_ (rz k _ (by omega) (QO jN)) g66.ok (Zi (Xj ..) (Zi (XV ..) (Qv (by kernel_rfl) (Za (Xj ..) ?_))));rw[Xc (n:=i) (by omega),bw (n:=m+oz x.c) (by omega) (by omega),bw (n:=m+oz x.c+dD 0 x.bQ) (by omega) (by omega),bw (n:=m+oz x.c+dD 0 x.bQ+dD 0 x.bV) (by omega) (by omega)];exact fin _ (by omega) (by omega) (by rw[IM,aI h8,qZ])
        · have h8:x.op≠8:=by simpa using h8
          refine Za (Xj ..) ?_;rw[Xc (n:=i) (by omega)];simp_all [IM]
      · have qZ:(if cw x.op then min (min (n+1) 1073741824+mA x.n) 1073741824 else min (n+1) 1073741824)=min (n+1) 1073741824:=by rw[aB (by simpa using hc)]
        obtain⟨m,hm⟩:∃m,m=min (n+1) 1073741824:=⟨_,rfl⟩;rw[←hm]
        replace qZ:=qZ.trans hm.symm
        have m1:0<=m∧m<=1073741824:=by omega
        refine Za (ix _) (Za rfl (Za (bB (gY x)) (Za rfl ?_)));refine Ya (λh8=>?_) (λh8=>?_)
        · have h8:x.op=8:=by simpa using h8
          refine Xf (ix _) (Zg _) (Zi rfl (Xf (bB (oF x)) (Zg _) ?_));refine Xt (c178 _ (Z8 jN)) rfl g100.ok.plain (rD _) (Zi (Xj ..) (Xf (ix _) (Zg _) (Zi rfl (Xf (bB (CE x)) (Zg _) ?_))));have qw:=G3 x;refine i_ (rz k _ (by omega) (ZP jN)) g66.ok (Zi (Xj ..) (Xf (ix _) (Zg _) (Zi rfl (Xf (bB (CW x)) (Zg _) ?_))));refine i_ (rz k _ (by omega) (QO jN)) g66.ok (Zi (Xj ..) (Zi (XV ..) (Qv (by kernel_rfl) (Za (Xj ..) ?_))));rw[Xc (n:=i) (by omega),bw (n:=m+oz x.c) (by omega) (by omega),bw (n:=m+oz x.c+dD 0 x.bQ) (by omega) (by omega),bw (n:=m+oz x.c+dD 0 x.bQ+dD 0 x.bV) (by omega) (by omega)];exact fin _ (by omega) (by omega) (by rw[IM,aI h8,qZ])
        · have h8:x.op≠8:=by simpa using h8
          refine Za (Xj ..) ?_;rw[Xc (n:=i) (by omega)];simp_all [IM]
    · have h:i=l.length:=by simp at h;omega
      subst h;rw[zAD]at hu;rw[hu];rfl
theorem c142(l:List Ef)(hf:bF l=true):PC 66 [gZ l] (iv (dD 0 l)):=rz _ l (No _) hf
def ez(x:Nm):Bool:=decide (x.op=0)&&(decide (x.n=0)&&(decide (x.who=0)&&decide (x.kids.length=0)))
def fh(x:Cn):Bool:=decide (x.op=0)&&(decide (x.who=0)&&(x.name==[]&&(decide (x.aC.length=0)&&decide (x.kids.length=0))))
def ej:List Cd→Tx→Bool→Bool
 |[],_,_=>false
 |c::l,t,u=>if c.name==t then c.unit || !u else ej l t u
def yC(cs:List Cd)(t:Bool):List aa:=[iM cs,.bool t]
theorem Qg{k:nA}(h:∀k',k'=k→f k'):cP f k:=GA (h k rfl)
theorem c110(c:Cd)(h1:bF c.de=true)(h2:bF c.dead=true)(h3:bF c.cM=true):PC 40 [.agg (cN c)] (iv (min (dD 0 c.de+dD 0 c.dead+dD 0 c.cM) 1073741824)):=by
 refine Xa hP g40.ok rfl rfl ?_;rw[H1.e];unfold g40;dsimp only;refine Yd rfl rfl (Zi rfl (Xf rfl rfl ?_));refine i_ (c142 _ h1) g66.ok (Zi rfl (Xf rfl rfl ?_));refine i_ (c142 _ h2) g66.ok (Zi (Xj ..) (Zi rfl (Xf rfl rfl ?_)));refine i_ (c142 _ h3) g66.ok (Zi (Xj ..) (Zi (XV ..) (Qv (by kernel_rfl) ?_)));have b1:=Jb c.de;have b2:=Jb c.dead;have b3:=Jb c.cM;rw[bw (n:=dD 0 c.de+dD 0 c.dead) (by omega) (by omega),bw (by omega) (by omega)]
theorem c225(x:Nm):PC 134 [.agg (dd x)] (.bool (ez x)):=by
 rw[QA];refine Xa hP g134.ok rfl rfl ?_;rw[H1.e];unfold g134;dsimp only;refine ae ?_;rcases cD (decide (x.op=0))with h1|h1
 rotate_left
 ·rw[h1];refine ay ?_;simp at h1;simp[ez,h1]
 rw[h1];refine ae ?_;rcases cD (decide (x.n=0))with h2|h2
 rotate_left
 ·rw[h2];refine ay ?_;simp at h2;simp[ez,h2]
 rw[h2];refine ae ?_;rcases cD (decide (x.who=0))with h3|h3
 rotate_left
 ·rw[h3];refine ay ?_;simp at h3;simp[ez,h3]
 rw[h3];refine ae ?_;simp at h1 h2 h3;simp[ez,h1,h2,h3]
theorem c227(x:Cn):PC 136 [.agg (gg x)] (.bool (fh x)):=by
 rw[XF];refine Xa hP g136.ok rfl rfl ?_;rw[H1.e];unfold g136;dsimp only;refine ae ?_;rcases cD (decide (x.op=0))with h1|h1
 rotate_left
 ·rw[h1];refine ay ?_;simp at h1;simp[fh,h1]
 rw[h1];refine ae ?_;rcases cD (decide (x.who=0))with h2|h2
 rotate_left
 ·rw[h2];refine ay ?_;simp at h2;simp[fh,h2]
 rw[h2];refine ae ?_;rcases cD (x.name==[])with h3|h3
 rotate_left
 ·rw[h3];refine ay ?_;simp at h3;simp[fh,h3]
 rw[h3];refine ae ?_;rcases cD (decide (((x.aC.map dd).length:Int)=0))with h4|h4
 rotate_left
 ·rw[h4];refine ay ?_;simp at h4;simp[fh,h4]
 rw[h4];refine ae ?_;simp at h1 h2 h3 h4;simp[fh,h1,h2,h3,h4]
theorem c187(n:Int):PC 155 [iv n] (.bool (decide (0<=n)&&decide (n<=999))):=by
 refine Xa hP g155.ok rfl rfl ?_;rw[H1.e];unfold g155;dsimp only;refine Za rfl ?_;rcases cD (decide (n >= 0))with h|h
 ·rw[h];refine ay ?_;have h':0<=n:=by simpa using h
  simp[h']
 ·rw[h];refine ay ?_;have h':¬0<=n:=by simpa using h
  simp[h']
theorem oq(x:Cd):aK false 0 1 (cN x)=some (.str x.name):=rfl
theorem uh(x:Cd):aK false 1 1 (cN x)=some (.bool x.unit):=rfl
theorem c228(cs:List Cd)(hc:cs.length<=gy)(t:Bool)(nm:Tx)(u:Bool):PC 138 [.aq (yC cs t) 0,.str nm,.bool u] (.bool (ej cs nm u)):=by
 refine Xa hP g138.ok rfl rfl ?_;rw[H3.e];unfold g138;dsimp only;rw[c9]at hc;refine Xg (ι:=Nat) (λi vs σ=>vs=[iv i]∧i<=cs.length∧ej cs nm u=ej (cs.drop i) nm u) (λi=>cs.length-i) 0 ⟨rfl,by omega,by simp⟩ ?_;rintro i vs σ again ⟨rfl,hi,hu⟩ bj;refine ay (Ya (λh=>?_) (λh=>?_))
 ·have h:i<cs.length:=by simpa using h
  have dY:cs.drop i=cs[i]::cs.drop (i+1):=by rw[gK h]
  rw[dY,ej]at hu;have ix:=λ(s:List ab)=>Ym s cN false false 12 cs .i64 i h;generalize cs[i]=c at hu ix;refine ay (Za (ix _) (Za rfl (Za (bB (oq c)) (Za (uT ..) ?_))));refine Ya (λh=>?_) (λh=>?_)
  ·rw[aI h]at hu;refine ay (Za (ix _) (Za rfl (Za (bB (uh c)) ?_)));rw[hu];cases c.unit<;>repeat (first|refine Qa ?_|refine Qc rfl ?_|refine QU rfl ?_|refine Za rfl ?_)
   ·simp
   ·simp
  ·rw[aB (by simpa using h)]at hu;refine Za (Xj ..) ?_;rw[Xc (n:=i) (by omega)];exact bj (i+1) _ _ (by omega) ⟨rfl,by omega,hu⟩
 ·have h:i=cs.length:=by simp at h;omega
  subst h;rw[zAD]at hu;rw[hu];rfl
def xC(op:Int):Nat:=if 8<=op∧op<=12 then 2 else 0
def iS(t:Bool)(op n who:Int)(len:Nat):Bool:=
 (decide (0<=op)&&(decide (op<=12)&&decide (len=xC op)))
def fL(t:Bool)(op n who:Int):Bool:=
 if op=0 then decide (0<=n)&&(decide (n<=999)&&decide (who=0))else decide (n=0)&&(if 1<=op∧op<=4 then mY who else decide (who=0)&&(decide (op≠7)||t))
mutual
def eR (t:Bool):Nm→Bool
 |.mk op n who kids=>iS t op n who kids.length&&(cA t kids&&fL t op n who)
def cA (t:Bool):List Nm→Bool
 |[]=>true
 |x::l=>eR t x&&cA t l
end
theorem Nv(t:Bool)(x:Nm):eR t x=(iS t x.op x.n x.who x.kids.length&&(cA t x.kids&&fL t x.op x.n x.who)):=by cases x;rfl
def nF(op:Int):Nat:=if 0<=op∧op<=2 then 2 else 0
def nG(op:Int):Nat:=if op=4∨op=5 then 2 else if op=3 then 1 else 0
def gW(op:Int)(l3 l4:Nat):Bool:=decide (0<=op)&&(decide (op<=6)&&(decide (l3=nF op)&&decide (l4=nG op)))
def gV(cs:List Cd)(op who:Int)(name:Tx):Bool:=if op=6 then mY who&&ej cs name false else decide (who=0)&&name==[]
mutual
def fH (cs:List Cd) (t:Bool):Cn→Bool
 |.mk op who name aC kids=>gW op aC.length kids.length&&(cA t aC&&(eJ cs t kids&&gV cs op who name))
def eJ (cs:List Cd) (t:Bool):List Cn→Bool
 |[]=>true
 |x::l=>fH cs t x&&eJ cs t l
end
theorem RX(cs:List Cd)(t:Bool)(x:Cn):fH cs t x=(gW x.op x.aC.length x.kids.length&&(cA t x.aC&&(eJ cs t x.kids&&gV cs x.op x.who x.name))):=by cases x;rfl
theorem JC(u:aa)(t:Bool):∀(k:Nat) (x:Nm),zAV x<=k→c7 x=true→PC 137 [.aq ([u,.bool t]) 0,.agg (dd x)] (.bool (eR t x))
 |0,x,h,_=>by cases x;simp at h
 |k+1,x,hk,hf=>by
  rw[QA];refine Xa hP g137.ok rfl rfl ?_;rw[H2.e];unfold g137;dsimp only;refine Yd rfl rfl ?_;rw[Nv];have hlen:=HW hf;rw[c9]at hlen;generalize hB:([]++[ab.box [aO x.op,iv x.n,aO x.who,.aW false false 4 (x.kids.map dd)]]:List ab)=base;have dM:ai base 0=.box [aO x.op,iv x.n,aO x.who,.aW false false 4 (x.kids.map dd)]:=by rw[←hB];rfl
  clear hB;refine ax ?_;have pick:∀K:aa→Prop,K (.bool (decide (8<=x.op)&&decide (x.op<=12))) →
    VV.gr (.bool (decide (x.op >= 8))) true (λk=>VV.rd (Zc 0 [.ak 0 0] base) k) λMm=>
    VV.gr (.bool (decide (x.op >= 8))) true (λk=>VV.rd (Qe false 1 [Mm] base) k) λMp=>
    VV.gr (.bool (decide (x.op >= 8))) true (λk=>VV.rd (Zn .leq false [Mp,(.int .i8 12)] base) k) λMu=>
    VV.rd (Yo [.bool (decide (x.op >= 8)),Mu,(.bool false)] base) K:=by
   intro K hK;rcases cD (decide (x.op >= 8))with h|h
   rotate_left
   ·rw[h];refine ay ?_;simp_all
   rw[h];refine ax ?_;simp_all
  refine pick _ ?_;clear pick;refine Qg λkj hY=>?_;have kk:kj [iv (xC x.op)] base:=by
   rw[hY];clear hY kj;refine ax ?_;have py:¬(0<=x.op∧x.op<=12∧x.kids.length=xC x.op)→aa.bool false=aa.bool (iS t x.op x.n x.who x.kids.length&&(cA t x.kids&&fL t x.op x.n x.who)):=by
    simp_all [iS]
   rcases cD (decide (x.op<0))with h1|h1
   ·rw[h1];refine ay (py ?_);simp at h1;omega
   rw[h1];refine ax ?_;rcases cD (decide (x.op>12))with h2|h2
   ·rw[h2];refine ay (py ?_);simp at h2;omega
   rw[h2];refine ax (Ya (λh3=>py ?_) (λh3=>?_))
   ·simp at h3;omega
   simp at h1 h2 h3;have ht:iS t x.op x.n x.who x.kids.length=true:=by simp[iS];omega
   rw[ht,zAH];refine Xg (ι:=Nat) (λi vs σ=>vs=[iv i]∧σ=base∧i<=x.kids.length∧cA t x.kids=cA t (x.kids.drop i)) (λi=>x.kids.length-i) 0 ⟨rfl,rfl,by omega,by simp⟩ ?_;rintro i vs σ again ⟨rfl,rfl,hi,hu⟩ bj;refine ax (Ya (λh=>?_) (λh=>?_))
   ·have h:i<x.kids.length:=by simpa using h
    have dY:x.kids.drop i=x.kids[i]::x.kids.drop (i+1):=by rw[gK h]
    rw[dY,cA]at hu;have hm:x.kids[i]∈x.kids:=AT h;refine Za rfl (Za (ld dM rfl) (Za (Ym _ dd _ _ _ x.kids _ i h) (Za (bB (so _)) ?_)));refine Qo (JC u t k _ (by have:=Bf hm;omega) (Y0 hf hm)) rfl g137.ok.plain (by rw[QA];rfl) (Za rfl (Ya (λh4=>?_) (λh4=>?_)))
    ·simp_all
    ·have h4:eR t x.kids[i]=true:=by simpa using h4
     rw[h4,zAH]at hu;refine Za (Xj ..) ?_;rw[Xc (n:=i) (by omega)]
     grind
   have h:i=x.kids.length:=by simp at h;omega
   subst h;rw[zAD,cA]at hu;rw[hu,zAH];clear bj hu hi py ht;refine Za rfl (Za (ld dM rfl) (Za (Zt ..) ?_));refine Ya (λh5=>?_) (λh5=>?_)
   ·have h5:x.op=0:=by simpa using h5
    refine ax ?_;rcases cD (decide (x.n >= 0))with h6|h6
    rotate_left
    ·rw[h6];refine ay ?_;simp[h6,fL,h5]
    rw[h6];refine ax ?_;rcases cD (decide (x.n<=999))with h7|h7
    rotate_left
    ·rw[h7];refine ay ?_;simp[h7,fL,h5]
    rw[h7];refine ax ?_;simp[h6,h7,fL,h5]
   have h5:x.op≠0:=by simpa using h5
   refine ax (Ya (λh6=>?_) (λh6=>?_))
   ·simp_all [fL]
   have h6:x.n=0:=by simpa using h6
   refine ax ?_;have op1:1<=x.op:=by omega
   have Wc:decide (x.op >= 1)=true:=by simpa using op1
   rw[Wc];refine ax (Ya (λh7=>?_) (λh7=>?_))
   ·have h7:x.op<=4:=by simpa using h7
    refine Za rfl (Za (ld dM rfl) ?_);refine a_ (c121 _) g139.ok ?_;simp[fL,h5,h6,h7,op1]
   have h7:¬x.op<=4:=by simpa using h7
   refine Za rfl (Za (ld dM rfl) (Za (Zt ..) ?_));rcases cD (decide (x.who=0))with h8|h8
   rotate_left
   ·rw[h8];refine ay ?_;simp[h8,fL,h7]
   rw[h8];repeat first|refine Qa ?_|refine Qp ?_|refine Za (ld dM rfl) ?_|refine Za (Zt ..) ?_|refine Za (uT ..) ?_|refine Za rfl ?_
   have h8:x.who=0:=by simpa using h8
   rcases cD (x.op != 7)with h9|h9
   ·rw[h9];repeat first|refine Qc rfl ?_|refine Qx rfl ?_|refine QU rfl ?_|refine ZY rfl ?_|refine Za rfl ?_
    have h9:x.op≠7:=by simpa using h9
    simp[fL,h5,h6,h7,h8,h9]
   rw[h9];refine ay ?_;simp_all [fL]
  refine Ya (λh=>?_) (λh=>?_)
  ·have e:xC x.op=2:=by simp at h;simp[xC,h]
   rw[e]at kk;exact kk
  ·have e:xC x.op=0:=by simp at h;simp[xC];omega
   rw[e]at kk;exact kk
theorem c77(cs:List Cd)(t:Bool)(x:Nm)(hf:c7 x=true):PC 137 [.aq (yC cs t) 0,.agg (dd x)] (.bool (eR t x)):=JC (iM cs) t _ x (No _) hf
theorem BE(cs:List Cd)(t:Bool)(x:Cn):gh [.aq (yC cs t) 0,.agg (gg x)]=true:=by rw[XF];rfl
theorem Cj(cs:List Cd)(t:Bool)(x:Nm):gh [.aq (yC cs t) 0,.agg (dd x)]=true:=by rw[QA];rfl
theorem Bq(cs:List Cd)(gH:cs.length<=gy)(t:Bool):∀(k:Nat) (x:Cn),zAV x<=k→cK x=true→PC 135 [.aq (yC cs t) 0,.agg (gg x)] (.bool (fH cs t x))
 |0,x,h,_=>by cases x;simp at h
 |k+1,x,hk,hf=>by
  rw[XF];refine Xa hP g135.ok rfl rfl ?_;rw[H2.e];unfold g135;dsimp only;refine Yd rfl rfl ?_;rw[RX];have gz:=Z5 hf;have dO:=Q4 hf;rw[c9]at gz dO;generalize hB:([]++[ab.box [aO x.op,aO x.who,.str x.name,.aW false false 4 (x.aC.map dd),.aW false false 5 (x.kids.map gg)]]:List ab)=base;have dM:ai base 0=.box [aO x.op,aO x.who,.str x.name,.aW false false 4 (x.aC.map dd),.aW false false 5 (x.kids.map gg)]:=by rw[←hB];rfl
  clear hB;refine ax ?_;have pick:∀K:aa→Prop,K (.bool (decide (0<=x.op)&&decide (x.op<=2))) →
    VV.gr (.bool (decide (x.op >= 0))) true (λk=>VV.rd (Zc 0 [.ak 0 0] base) k) λxZ=>
    VV.gr (.bool (decide (x.op >= 0))) true (λk=>VV.rd (Qe false 1 [xZ] base) k) λMy=>
    VV.gr (.bool (decide (x.op >= 0))) true (λk=>VV.rd (Zn .leq false [My,(.int .i8 2)] base) k) λMC=>
    VV.rd (Yo [.bool (decide (x.op >= 0)),MC,(.bool false)] base) K:=by
   intro K hK;rcases cD (decide (x.op >= 0))with h|h
   rotate_left
   ·rw[h];refine ay ?_;simp_all
   rw[h];refine ax ?_;simp_all
  refine pick _ ?_;clear pick;refine Qg λkj hY=>?_;have kk:kj [iv (nF x.op)] base:=by
   rw[hY];clear hY kj;repeat first|refine Za (ld dM rfl) ?_|refine Za (Zt ..) ?_|refine Za (uT ..) ?_|refine Za rfl ?_
   refine Qg λkj hY=>?_;have kk:kj [iv (if x.op=3 then 1 else 0:Nat)] base:=by
    rw[hY];clear hY kj;refine ax ?_;have pick:∀K:aa→Prop,K (.bool (decide (x.op=4∨x.op=5))) →
      VV.gr (.bool (decide (x.op=4))) false (λk=>VV.rd (Zc 0 [.ak 0 0] base) k) λEm=>
      VV.gr (.bool (decide (x.op=4))) false (λk=>VV.rd (Qe false 1 [Em] base) k) λEp=>
      VV.gr (.bool (decide (x.op=4))) false (λk=>VV.rd (Zn .eql false [Ep,(.int .i8 5)] base) k) λEr=>
      VV.rd (Yo [.bool (decide (x.op=4)),(.bool true),Er] base) K:=by
     intro K hK;rcases cD (decide (x.op=4))with h|h
     ·rw[h];refine ay ?_;simp_all
     rw[h];refine ax ?_;simp_all
    refine pick _ ?_;clear pick;refine Qg λkj hY=>?_;have kk:kj [iv (nG x.op)] base:=by
     rw[hY];clear hY kj;refine ax ?_;have py:¬(0<=x.op∧x.op<=6∧x.aC.length=nF x.op∧x.kids.length=nG x.op)→aa.bool false=aa.bool (gW x.op x.aC.length x.kids.length&&(cA t x.aC&&(eJ cs t x.kids&&gV cs x.op x.who x.name))):=by
      simp_all [gW]
     rcases cD (decide (x.op<0))with h1|h1
     ·rw[h1];refine ay (py ?_);simp at h1;omega
     rw[h1];refine ax ?_;rcases cD (decide (x.op>6))with h2|h2
     ·rw[h2];refine ay (py ?_);simp at h2;omega
     rw[h2];repeat first|refine Qa ?_|refine Qp ?_|refine Za (ld dM rfl) ?_|refine Za (Zt ..) ?_|refine Za (uT ..) ?_|refine Za rfl ?_
     rcases cD (((x.aC.map dd).length:Int) != (nF x.op:Int))with h3|h3
     ·rw[h3];repeat first|refine Qc rfl ?_|refine Qx rfl ?_|refine QU rfl ?_|refine ZY rfl ?_|refine Za rfl ?_
      refine Xh (py ?_);simp at h3;omega
     rw[h3];refine ax (Ya (λh4=>py ?_) (λh4=>?_))
     ·simp at h4;omega
     simp at h1 h2 h3 h4;have ht:gW x.op x.aC.length x.kids.length=true:=by simp[gW];omega
     rw[ht,zAH];refine Xg (ι:=Nat) (λi vs σ=>vs=[iv i]∧σ=base∧i<=x.aC.length∧cA t x.aC=cA t (x.aC.drop i)) (λi=>x.aC.length-i) 0 ⟨rfl,rfl,by omega,by simp⟩ ?_;rintro i vs σ again ⟨rfl,rfl,hi,hu⟩ bj;refine ax (Ya (λh=>?_) (λh=>?_))
     ·have h:i<x.aC.length:=by simpa using h
      have dY:x.aC.drop i=x.aC[i]::x.aC.drop (i+1):=by rw[gK h]
      rw[dY,cA]at hu;have hm:x.aC[i]∈x.aC:=AT h;refine Za rfl (Za (ld dM rfl) (Za (Ym _ dd _ _ _ x.aC _ i h) (Za (bB (so _)) ?_)));refine Qo (c77 cs t _ (Z7 hf hm)) rfl g137.ok.plain (Cj ..) (Za rfl (Ya (λh4=>?_) (λh4=>?_)))
      ·simp_all
      ·have h4:eR t x.aC[i]=true:=by simpa using h4
       rw[h4,zAH]at hu;refine Za (Xj ..) ?_;rw[Xc (n:=i) (by omega)]
       grind
     have h:i=x.aC.length:=by simp at h;omega
     subst h;rw[zAD,cA]at hu;rw[hu,zAH];clear bj hu hi py ht;refine Xg (ι:=Nat) (λi vs s=>vs=[iv i]∧s=σ∧i<=x.kids.length∧eJ cs t x.kids=eJ cs t (x.kids.drop i)) (λi=>x.kids.length-i) 0 ⟨rfl,rfl,by omega,by simp⟩ ?_;rintro i vs s again ⟨rfl,rfl,hi,hu⟩ bj;refine ax (Ya (λh=>?_) (λh=>?_))
     ·have h:i<x.kids.length:=by simpa using h
      have dY:x.kids.drop i=x.kids[i]::x.kids.drop (i+1):=by rw[gK h]
      rw[dY,eJ]at hu;have hm:x.kids[i]∈x.kids:=AT h;refine Za rfl (Za (ld dM rfl) (Za (Ym _ gg _ _ _ x.kids _ i h) (Za (bB (zJ _)) ?_)));refine Qo (Bq cs gH t k _ (by have:=CT hm;omega) (Q6 hf hm)) rfl g135.ok.plain (BE ..) (Za rfl (Ya (λh4=>?_) (λh4=>?_)))
      ·simp_all
      ·have h4:fH cs t x.kids[i]=true:=by simpa using h4
       rw[h4,zAH]at hu;refine Za (Xj ..) ?_;rw[Xc (n:=i) (by omega)]
       grind
     have h:i=x.kids.length:=by simp at h;omega
     subst h;rw[zAD,eJ]at hu;rw[hu,zAH];clear bj hu hi;refine ax (Ya (λh5=>?_) (λh5=>?_))
     ·have h5:x.op=6:=by simpa using h5
      refine Za rfl (Za (ld dM rfl) ?_);refine a_ (c121 _) g139.ok ?_;rcases cD (mY x.who)with h6|h6
      rotate_left
      ·rw[h6];refine ay ?_;simp[gV,h5,h6]
      rw[h6];refine ax (a_ (c228 cs gH t _ _) g138.ok (ax ?_));simp[gV,h5,h6]
     have h5:x.op≠6:=by simpa using h5
     refine ax ?_;rcases cD (decide (x.who=0))with h6|h6
     rotate_left
     ·rw[h6];refine ay ?_;simp[h6,gV,h5]
     rw[h6];refine ax ?_;simp[h6,gV,h5]
    refine Ya (λh=>?_) (λh=>?_)
    ·have e:nG x.op=2:=by simp at h;simp[nG];omega
     rw[e]at kk;exact kk
    ·have e:nG x.op=if x.op=3 then 1 else 0:=by simp at h;simp[nG];omega
     rw[e]at kk;exact kk
   refine Ya (λh=>?_) (λh=>?_)
   ·rw[aI (by simpa using h)]at kk;exact kk
   ·rw[aB (by simpa using h)]at kk;exact kk
  refine Ya (λh=>?_) (λh=>?_)
  ·have e:nF x.op=2:=by simp at h;simp[nF,h]
   rw[e]at kk;exact kk
  ·have e:nF x.op=0:=by simp at h;simp[nF];omega
   rw[e]at kk;exact kk
theorem c226(cs:List Cd)(gH:cs.length<=gy)(t:Bool)(x:Cn)(hf:cK x=true):PC 135 [.aq (yC cs t) 0,.agg (gg x)] (.bool (fH cs t x)):=Bq cs gH t _ x (No _) hf
def pS(t:Bool)(op who:Int):Bool:=if op=0∨op=1 then mY who||(decide (who=2)&&t)else decide (who=0)
def iO(t:Bool)(op who:Int):Bool:=
 if op=2∨op=4∨op=6 then mY who else pS t op who
mutual
def mQ (cs:List Cd) (t:Bool):Int→Ef→Bool
 | d,.mk op who n name c bQ bV=>decide (0<=op) && (decide (op<=8) && (if op=8 then
   decide (who=0)&&(ez n&&(name==[]&&(fH cs t c&&((decide (bQ.length<=16)&&(decide (d+1<=8)&&bY cs t (d+1) bQ))&&(decide (bV.length<=16)&&(decide (d+1<=8)&&bY cs t (d+1) bV))))))
  else fh c && (decide (bQ.length=0) && (decide (bV.length=0) && ((if cw op then eR t n else ez n) && ((if op=7 then ej cs name true else name == []) && iO t op who))))))
def bY (cs:List Cd) (t:Bool):Int→List Ef→Bool
 |_,[]=>true
 |d,x::l=>mQ cs t d x&&bY cs t d l
end
def bE(cs:List Cd)(t:Bool)(d:Int)(l:List Ef):Bool:=decide (l.length<=16)&&(decide (d<=8)&&bY cs t d l)
theorem yz(cs:List Cd)(t:Bool)(d:Int)(x:Ef):mQ cs t d x=(decide (0<=x.op) && (decide (x.op<=8) && (if x.op=8 then
   decide (x.who=0)&&(ez x.n&&(x.name==[]&&(fH cs t x.c&&(bE cs t (d+1) x.bQ&&bE cs t (d+1) x.bV))))
  else fh x.c && (decide (x.bQ.length=0) && (decide (x.bV.length=0) && ((if cw x.op then eR t x.n else ez x.n) && ((if x.op=7 then ej cs x.name true else x.name == []) && iO t x.op x.who))))))):=by cases x;rfl
theorem ah(k:B)(h:Nb B→A:=by intro k;(repeat (first|refine Qa ?_|refine Qc rfl ?_|refine Qp ?_|refine Qx rfl ?_|refine QU rfl ?_|refine ZY rfl ?_|refine Za (Xj ..) ?_|refine Za (Zt ..) ?_|refine Za (ZX ..) ?_|refine Za (ZM ..) ?_|refine Za (Q7 ..) ?_|refine Za (uT ..) ?_|refine Za (by assumption) ?_|refine Za (lx (by assumption) (by assumption)) ?_|refine Za (LM (by assumption)) ?_|refine Za (lx (by assumption) (by rfl)) ?_|refine Za (LM (by rfl)) ?_|refine Za rfl ?_));exact k.get):A:=h (Hw k)
theorem tk{R G:Prop}(imp:(True→R)→G)(r:R):G:=imp λ_=>r
theorem CF{c V:Bool}{a b:Prop}(h:VV.test (.bool V) a b)(e:c=V):VV.test (.bool c) a b:=by rw[e];exact h
set_option maxHeartbeats 4000000
theorem we(cs:List Cd)(gH:cs.length<=gy)(t:Bool):∀(k:Nat) (l:List Ef) (d:Int),zAV l<=k→bF l=true→0<=d→PC 94 [.aq (yC cs t) 0,gZ l,iv d] (.bool (bE cs t d l))
 |0,l,_,h,_,_=>by cases l<;>simp at h
 |k+1,l,d,hk,hf,hd=>by
  refine Xa hP g94.ok rfl rfl ?_;rw[H3.e];unfold g94;dsimp only;have hlen:=ZC hf;rw[c9]at hlen;refine ag ?_;repeat' (first|refine od (λh=>?_) (λh=>?_)<;>(try rw[h])|refine Ya (λh=>?_) (λh=>?_))<;>refine ag ?_
  all_goals first
   |grind [bE]
   |skip
  have h16:l.length<=16∧d<=8:=by simp_all;omega
  rw[show bE cs t d l=bY cs t d l by simp[bE,h16]];refine Xg (ι:=Nat) (λi vs σ=>vs=[iv i]∧i<=l.length∧bY cs t d l=bY cs t d (l.drop i)) (λi=>l.length-i) 0 ⟨rfl,by omega,by simp⟩ ?_;rintro i vs σ again ⟨rfl,hi,hu⟩ bj;refine ag (uV (λh=>?_) (λh=>?_));rotate_left
  ·grind [bY]
  have h:i<l.length:=by simpa using h
  rw[gK h,bY]at hu;have hm:=AT h;have eN:=zBN hm;have jN:=YP hf hm;have ix:=λ(s:List ab)=>Ym s bq false false 14 l .i64 i h;generalize l[i]=x at hu eN jN ix;have qw:=G3 x;have hw:=bw (n:=d+1) (by omega) (by omega);refine vV (Za (ix _) (Za (bB (mc x)) ?_));refine Zv (row:=bq x) (row':=bq x) (by rw[Qr];rfl) (by rw[Qr];rfl) (by rw[Qr];rfl) ?_;have dM:=Yc σ (.box (bq x));generalize σ++[ab.box (bq x)]=base at dM ⊢;generalize σ.length=b at dM ⊢;have p0:=gY x;have p1:=oE x;have p2:=rI x;have p6:=BL x;have p7:=oF x;have p12:=CE x;have p13:=CW x;rw[yz]at hu;refine ag (Bg (λh e=>?_) (λh e=>?_))<;>rw[e]
  ·refine ag ?_
   grind
  refine ag (uV (λh2=>?_) (λh2=>?_))
  ·grind
  refine ag (uV (λh8=>?_) (λh8=>?_))
  ·refine ag ?_;repeat' (first
    |refine Qo (c225 _) rfl g134.ok.plain (mX _) ?_
    |refine Qo (c226 cs gH t _ (Z8 jN)) rfl g135.ok.plain (BE ..) ?_
    | (rw[hw];first
     |refine a_ (we cs gH t k x.bQ (d+1) (by omega) (ZP jN) (by omega)) g94.ok ?_
     | refine a_ (we cs gH t k x.bV (d + 1) (by omega) (QO jN) (by omega)) g94.ok ?_)
    |refine od (λh=>?_) (λh=>?_)<;>(try rw[h])
    | refine Ya (λh=>?_) (λh=>?_)) <;> (refine ag ?_)
   all_goals first
    |(rw[Xc (n:=i) (by omega)];exact bj (i+1) _ _ (by omega) ⟨rfl,by omega,by grind⟩)
    |grind
  refine ag (Qo (c227 _) rfl g136.ok.plain (rD _) ?_);refine ag ?_;repeat' (first|refine od (λh=>?_) (λh=>?_)<;>(try rw[h])|refine Ya (λh=>?_) (λh=>?_))<;>refine ag ?_
  all_goals first
   |grind
   |skip
  apply tk
  ·intro hR;repeat' (first
    |refine a_ (c130 _) g98.ok ?_
    |refine Qo (c77 cs t _ (zn jN)) rfl g137.ok.plain (Cj ..) ?_
    |refine Qo (c225 _) rfl g134.ok.plain (mX _) ?_
    | refine od (λh=>?_) (λh=>?_) <;> (try rw[h])) <;> (refine ah ?_)
   all_goals exact CF (V:=!(if cw x.op then eR t x.n else ez x.n)) (hR ⟨⟩) (by grind)
  refine Ya (λb1=>by grind) (λb1=>?_);refine ag ?_;apply tk
  ·intro hR;repeat' (first
    |refine a_ (c228 cs gH t _ _) g138.ok ?_
    |(refine Bg (λh e=>?_) (λh e=>?_)<;>(try rw[e]))
    | refine od (λh=>?_) (λh=>?_) <;> (try rw[h])) <;> (refine ah ?_)
   all_goals exact CF (V:=!(if x.op=7 then ej cs x.name true else x.name==[])) (hR ⟨⟩) (by grind)
  refine Ya (λb2=>by grind) (λb2=>?_);refine ag ?_;apply tk
  ·intro hR;repeat' (first
    |refine CF (a:=aa.bool false=_) (V:=!iO t x.op x.who) (hR ⟨⟩) ?_
    |refine vV ?_
    |refine Xh ?_
    |refine Xe ?_
    |refine a_ (c121 _) g139.ok ?_
    |(refine Bg (λh e=>?_) (λh e=>?_)<;>first|(exfalso;omega)|(try rw[e]))
    |refine uV (λh=>?_) (λh=>?_)<;>try (exfalso;omega)
    | refine od (λh=>?_) (λh=>?_) <;> (try rw[h])) <;> (refine ah ?_)
   all_goals (clear hu bj ix b1 b2 hR;grind [iO,pS])
  refine Ya (λb3=>by grind) (λb3=>?_);refine ag ?_;rw[Xc (n:=i) (by omega)];have a0:0<=x.op:=by omega
  have a1:x.op<=8:=by omega
  exact bj (i+1) _ _ (by omega) ⟨rfl,by omega,by clear bj ix;simp_all⟩
theorem c188(cs:List Cd)(gH:cs.length<=gy)(t:Bool)(l:List Ef)(d:Int)(hf:bF l=true)(hd:0<=d):PC 94 [.aq (yC cs t) 0,gZ l,iv d] (.bool (bE cs t d l)):=we cs gH t _ l d (No _) hf hd
def isLet(x:Int):Bool:=decide ((97<=x∧x<=122)∨(65<=x∧x<=90)∨(192<=x∧x<=591∧x≠215∧x≠247))
def jX(x:Int):Bool:=decide (48<=x∧x<=57)
def Mi(x:Int):Int:=BY.wrap (x*2 ^ (min 6 BY.bits))
def uM(x:Int)(c:UInt8):Int:=bits .or .i64 (Mi x) (BY.wrap (bits .and .u8 (c.toNat:Int) 63))
def ss(c:UInt8):Bool:=(bits .and .u8 (c.toNat:Int) 192 != 128)
def fM(s:Tx)(at_:Nat):Nat→Nat→Int→Option Int
 |0,_,x=>some x
 |m+1,i,x=>match s[at_+i]? with
  |none=>none
  |some c=>if ss c then none else fM s at_ m (i+1) (uM x c)
def eW(c:Int):Option (Nat×Int×Int):=
 if 192<=c∧c<224 then some (2,bits .and .i64 c 31,128)else if 224<=c∧c<240 then some (3,bits .and .i64 c 15,2048)else if 240<=c∧c<248 then some (4,bits .and .i64 c 7,65536)else if 128<=c then none else some (1,c,0)
def ir(n:Nat)(least:Int):Option Int→Int×Nat
 |none=>(0,0)
 |some y=>if y<least∨1114111<y∨(55296<=y∧y<=57343)then (0,0)else (y,n)
def ea(s:Tx)(at_:Nat):Int×Nat:=match s[at_]? with
 |none=>(0,0)
 |some c=>match eW c.toNat with
  |none=>(0,0)
  |some (n,x,least)=>ir n least (fM s at_ (n-1) 1 x)
def Bb(s:Tx)(at_ n:Nat):Prop:=(ea s at_).2=0∨(isLet (ea s at_).1=false∧(n=0∨(jX (ea s at_).1=false∧(ea s at_).1≠39)))
instance (s:Tx) (at_ n:Nat):Decidable (Bb s at_ n):=inferInstanceAs (Decidable (_∨_))
def eu(s:Tx)(at_ n:Nat):Nat×Nat:=
 if _h:at_<s.length then (if hk:Bb s at_ n then (at_,n)else eu s (at_+(ea s at_).2) (n+1))else (at_,n)
termination_by s.length-at_
decreasing_by
 have:(ea s at_).2≠0:=λe=>hk (zDi e);omega
def kL:List Tx→Tx→Bool
 |[],_=>false
 |k::l,s=>k==s||kL l s
def jZ:List Tx:=[[99,97,114,100],
 [117,110,105,116],
 [99,104,97,114,109],
 [102,111,114,109,97,116],
 [112,108,97,121,101,100],
 [100,101,97,100],
 [100,97,119,110],
 [97,117,114,97],
 [115,104,105,101,108,100],
 [104,97,114,109],
 [109,101,110,100],
 [100,114,97,119],
 [103,97,105,110],
 [100,114,111,112],
 [108,111,111,107],
 [115,104,111,119],
 [115,117,109,109,111,110],
 [105,102],
 [101,108,115,101],
 [109,101],
 [102,111,101],
 [116,97,114,103,101,116],
 [108,105,102,101],
 [104,97,110,100],
 [100,101,99,107],
 [117,110,105,116,115],
 [109,97,110,97],
 [99,111,115,116],
 [116,111,112],
 [112,111,119,101,114],
 [109,105,110],
 [109,97,120],
 [110,111,116],
 [97,110,100],
 [111,114],
 [104,111,108,100,115],
 [108,101,97,115,116],
 [109,111,115,116],
 [99,111,112,105,101,115],
 [98,97,110,110,101,100],
 [115,105,110,103,108,101]]
def eD(s:Tx):Bool:=decide (1<=(eu s 0 0).2)&&(decide ((eu s 0 0).2<=24)&&(decide ((eu s 0 0).1=s.length)&&(decide (s.length<=40) && !kL jZ s)))
variable{f2:aa→aN}
variable{r1:aN}
theorem CD{c:Bool}(h1:r1=.ok v1 [] [])(h2:f2 v1=.ok (.bool d) [] [])(hK:K (.bool (c&&d))) :
  (W P GL).gr (.bool c) true (λk=>(W P GL).rd r1 k) λt1=>(W P GL).gr (.bool c) true (λk=>(W P GL).rd (f2 t1) k) λt2=>(W P GL).rd (Yo [.bool c,t2,.bool false] σ) K:=by
 cases c with
 |true=>exact Qa (Za h1 (Qa (Za h2 (Za rfl hK))))
 |false=>exact Qc rfl (Qc rfl (Za rfl hK))
theorem c198(x:Int):PC 104 [iv x] (.bool (jX x)):=by
 refine Xa hP g104.ok rfl rfl ?_;rw[H1.e];unfold g104;dsimp only;refine ag (od (λh=>?_) (λh=>?_))<;>rw[h]<;>refine ag ?_<;>grind [jX]
theorem c197(x:Int):PC 102 [iv x] (.bool (isLet x)):=by
 refine Xa hP g102.ok rfl rfl ?_;rw[H1.e];unfold g102;dsimp only;refine ag ?_;repeat' (first
  |(refine Bg (λh e=>?_) (λh e=>?_)<;>first|(exfalso;omega)|(try rw[e]))
  |refine od (λh=>?_) (λh=>?_)<;>(try rw[h])
  | refine uV (λh=>?_) (λh=>?_) <;> try (exfalso;omega)) <;> (refine ag ?_)
 all_goals grind [isLet]
theorem c196(s:Tx)(hs:s.length<=gy)(a:Nat)(ha:a<s.length):PC 101 [.str s,iv a] (.bp [iv (ea s a).1,iv (ea s a).2]):=by
 rw[c9]at hs;refine Xa hP g101.ok rfl rfl ?_;rw[H2.e];unfold g101;dsimp only;refine Za (Qdn _ s .i64 a ha) (Za (Yd5 ..) ?_);have hc:s[a].toNat<256:=s[a].toNat_lt;rw[bw (n:=(s[a].toNat:Int)) (by omega) (by omega)];have hr:ea s a=match eW s[a].toNat with
  |none=>(0,0)
  |some (n,x,least)=>ir n least (fM s a (n-1) 1 x):=by
  rw[ea,zAP ha]
 generalize s[a].toNat=c0 at hr hc ⊢;obtain⟨c,qm⟩:∃c:Int,c=(c0:Int):=⟨_,rfl⟩;rw[←qm]at hr ⊢;have kX:0<=c∧c<256:=by omega
 clear qm hc;refine Za rfl ?_;refine CD rfl rfl (Qg λkj hY=>?_);have zero:∀y:Option Int,y=none→∀n least,aa.bp [iv 0,iv 0]=aa.bp [iv (ir n least y).1,iv (ir n least y).2]:=by
  rintro _ rfl n least;rfl
 have kk:∀(n:Nat) (x least:Int),1<=n→n<=4→eW c=some (n,x,least)→kj [iv n,iv x,iv least] []:=by
  intro n x least n1 n4 hh;rw[hY];clear hY kj;rw[hh]at hr
  replace hr:ea s a=ir n least (fM s a (n-1) 1 x):=hr
  rw[hr];clear hr hh;refine Xg (ι:=Nat) (λi vs σ=>∃y,vs=[iv i,iv y]∧1<=i∧i<=n∧fM s a (n-1) 1 x=fM s a (n-i) i y) (λi=>n-i) 1 ⟨x,rfl,by omega,by omega,rfl⟩ ?_;rintro i vs σ again ⟨y,rfl,i1,i2,hu⟩ bj;refine Za rfl (QM (λh=>?_) (λh=>?_))
  ·have wG:∀σ,Zn .add false [iv a,iv i] σ=.ok (iv ((a+i:Nat):Int)) [] []:=λσ=>by
    rw[Xj,bw (by omega) (by omega)];rfl
   have pU:n-i=(n-(i+1))+1:=by omega
   rw[pU,fM]at hu;refine Za (wG _) (Za rfl (Za rfl ?_));rcases cD (decide (((a+i:Nat):Int) >= (s.length:Int)))with h1|h1
   ·rw[h1];repeat first|refine Qa ?_|refine Qp ?_|refine Qc rfl ?_|refine Qx rfl ?_|refine QU rfl ?_|refine ZY rfl ?_|refine Za rfl ?_
    refine Xh ?_;have h1:s.length<=a+i:=by simp at h1;omega
    rw[List.getElem?_eq_none h1]at hu;exact zero _ hu _ _
   rw[h1];have h1:a+i<s.length:=by simp at h1;omega
   have cB:∀σ,XQ [.str s,iv ((a+i:Nat):Int)] σ=.ok (.int .u8 s[a+i].toNat) [] []:=λσ=>Qdn _ s .i64 (a+i) h1;rw[zAP h1]at hu;generalize s[a+i]=q at hu cB;repeat first|refine Qa ?_|refine Za (wG _) ?_|refine Za (cB _) ?_|refine Za rfl ?_
   refine Ya (λh2=>?_) (λh2=>?_)
   ·have h2:ss q=true:=h2;simp only[h2,if_true]at hu;exact zero _ hu _ _
   ·have h2:ss q=false:=h2;simp only[h2,zAW,if_false]at hu;refine Za rfl (Za (wG _) (Za (cB _) (Za rfl (Za (Yd5 ..) (Za rfl (Za (Xj ..) ?_))))));rw[Xc (n:=i) (by omega)];exact bj (i+1) _ _ (by omega) ⟨_,rfl,by omega,by omega,hu⟩
  ·subst h;rw[zCp,fM]at hu;rw[hu];clear hu bj zero;refine Za rfl ?_;have bad:(y<least∨1114111<y∨(55296<=y∧y<=57343))→aa.bp [iv 0,iv 0]=aa.bp [iv (ir i least (some y)).1,iv (ir i least (some y)).2]:=by
    intro hb;rw[ir,aI hb];rfl
   have Ug:¬(y<least∨1114111<y∨(55296<=y∧y<=57343))→aa.bp [iv y,iv i]=aa.bp [iv (ir i least (some y)).1,iv (ir i least (some y)).2]:=by
    intro hb;rw[ir,aB hb]
   refine ag ?_;repeat' (first
    |(refine Bg (λh e=>?_) (λh e=>?_)<;>first|(exfalso;omega)|(try rw[e]))
    | refine uV (λh=>?_) (λh=>?_) <;> try (exfalso;omega)) <;> (refine ag ?_)
   all_goals first
    |exact bad (by omega)
    |exact Ug (by omega)
 clear hY;refine Ya (λh=>?_) (λn1=>?_)
 ·have h:192<=c∧c<224:=by simpa using h
  refine Za rfl (kk 2 _ _ (by omega) (by omega) ?_);rw[eW,aI h]
 have n1:¬(192<=c∧c<224):=by simp at n1;omega
 refine Za rfl (CD rfl rfl ?_);refine Ya (λh=>?_) (λn2=>?_)
 ·have h:224<=c∧c<240:=by simpa using h
  refine Za rfl (kk 3 _ _ (by omega) (by omega) ?_);rw[eW,aB n1,aI h]
 have n2:¬(224<=c∧c<240):=by simp at n2;omega
 refine Za rfl (CD rfl rfl ?_);refine Ya (λh=>?_) (λn3=>?_)
 ·have h:240<=c∧c<248:=by simpa using h
  refine Za rfl (kk 4 _ _ (by omega) (by omega) ?_);rw[eW,aB n1,aB n2,aI h]
 have n3:¬(240<=c∧c<248):=by simp at n3;omega
 refine Za rfl (Ya (λh=>?_) (λh=>?_))
 ·have h:128<=c:=by simpa using h
  have e:eW c=none:=by rw[eW,aB n1,aB n2,aB n3,aI h]
  rw[hr,e];rfl
 ·have h:¬128<=c:=by simpa using h
  exact kk 1 _ _ (by omega) (by omega) (by rw[eW,aB n1,aB n2,aB n3,aB h])
theorem YdY{c:Int}{n:Nat}{x least:Int}(h:eW c=some (n,x,least)):n<=4:=by
 grind [eW]
theorem YcP(s:Tx)(a:Nat):(ea s a).2<=4:=by
 unfold ea;split
 ·simp
 ·split
  ·simp
  ·rename_i n x least h;have:=YdY h;cases fM s a (n-1) 1 x<;>grind [ir]
theorem c193(s:Tx)(hs:s.length<=gy)(a0:Nat)(ha0:a0<=s.length):PC 103 [.str s,iv a0] (.bp [iv (eu s a0 0).1,iv (eu s a0 0).2]):=by
 have qw:=hs;rw[c9]at qw;refine Xa hP g103.ok rfl rfl ?_;rw[H2.e];unfold g103;dsimp only;refine Qg λk0 UY=>?_;have kk:∀a n:Nat,eu s a0 0=(a,n)→k0 [iv a,iv n] []:=by
  intro a n e;rw[UY,e];exact rfl
 clear UY;refine Xg (ι:=Nat) (λa vs σ=>∃n:Nat,vs=[iv a,iv n]∧σ=[]∧n<=a∧a<=s.length+4∧eu s a0 0=eu s a n) (λa=>s.length+10-a) a0 ⟨0,rfl,rfl,by omega,by omega,rfl⟩ ?_;rintro a vs σ again ⟨n,rfl,rfl,i1,i2,hu⟩ bj;refine Za rfl (Za rfl ?_);refine Ya (λh=>?_) (λh=>?_);rotate_left
 ·have h:¬a<s.length:=by simpa using h
  exact kk a n (by rw[hu,eu,dif_neg h])
 have h:a<s.length:=by simpa using h
 refine a_ (c196 s hs a h) g101.ok (Za rfl (Za rfl ?_));have Cs:Bb s a n→k0 [iv a,iv n] []:=λic=>kk a n (by rw[hu,eu,dif_pos h,dif_pos ic]);have cont:¬Bb s a n→again [iv ((a+(ea s a).2:Nat):Int),iv ((n+1:Nat):Int)] []:=by
  intro ic;have h1:(ea s a).2≠0:=λe=>ic (zDi e);have h4:=YcP s a;exact bj _ _ _ (by omega) ⟨n+1,rfl,rfl,by omega,by omega,by rw[hu,eu,dif_pos h,dif_neg ic]⟩
 have h4:=YcP s a;unfold Bb at Cs cont;clear bj hu kk;generalize (ea s a).1=x at Cs cont ⊢;generalize (ea s a).2=k at Cs cont h4 ⊢;refine ag ?_;repeat' (first
  |refine a_ (c197 _) g102.ok ?_
  |refine a_ (c198 _) g104.ok ?_
  |refine od (λh=>?_) (λh=>?_)<;>(try rw[h])
  | refine Ya (λh=>?_) (λh=>?_)) <;> (refine ag ?_)
 all_goals first
  |exact Cs (by grind)
  |(rw[Xc (n:=n) (by omega),bw (n:=(a:Int)+(k:Int)) (by omega) (by omega)];exact cont (by grind))
theorem c229:∃e n,PC 187 [] (.aW e n 1 (jZ.map vw)):=by
 have hw:∃v bs,g187.u VV [] [] (λv' σ=>v'=v∧σ=bs)∧∃e n,Hn bs v=some (.aW e n 1 (jZ.map vw)):=by
  unfold g187;dsimp only[H0.u];apply Exists.intro;apply Exists.intro;apply And.intro
  ·refine Yd rfl rfl ?_;exact⟨rfl,rfl⟩
  ·exact⟨_,_,rfl⟩
 obtain⟨v,bs,h1,e,n,h2⟩:=hw;exact⟨e,n,SG hP g187.ok rfl ⟨v,bs,h2,h1⟩⟩
theorem yl(x:Tx):aK false 0 1 (vw x)=some (.str x):=rfl
theorem c194(s:Tx):PC 151 [.str s] (.bool (kL jZ s)):=by
 refine Xa hP g151.ok rfl rfl ?_;rw[H1.e];unfold g151;dsimp only;obtain⟨e,n,hk⟩:=c229;refine a_ hk g187.ok ?_;have hlen:jZ.length=41:=rfl;generalize jZ=l at hlen ⊢;refine Xg (ι:=Nat) (λi vs σ=>vs=[iv i]∧i<=l.length∧kL l s=kL (l.drop i) s) (λi=>l.length-i) 0 ⟨rfl,by omega,by simp⟩ ?_;rintro i vs σ again ⟨rfl,hi,hu⟩ bj;refine Za rfl (Za rfl ?_);refine Ya (λh=>?_) (λh=>?_)
 ·have h:i<l.length:=by simpa using h
  have dY:l.drop i=l[i]::l.drop (i+1):=by rw[gK h]
  rw[dY,kL]at hu;refine Za (Ym _ vw _ _ _ l .i64 i h) (Za (bB (yl _)) (Za (uT ..) ?_));refine Ya (λh=>?_) (λh=>?_)
  ·rw[hu,h];rfl
  ·rw[h,zCR]at hu;refine Za (Xj ..) ?_;rw[Xc (n:=i) (by omega)]
   grind
 ·have h:i=l.length:=by simp at h;omega
  subst h;rw[zAD]at hu;rw[hu];rfl
theorem c147(s:Tx)(hs:s.length<=gy):PC 116 [.str s] (.bool (eD s)):=by
  refine Xa hP g116.ok rfl rfl ?_;rw[H1.e];unfold g116;dsimp only;have:=c193 s hs 0 (by omega);refine a_ this g103.ok ?_;unfold eD;generalize (eu s 0 0).1=e;generalize (eu s 0 0).2=n;refine ag ?_;repeat' (first
    |refine a_ (c194 _) g151.ok ?_
    | (refine Bg (λh k=>?_) (λh k=>?_) <;> (try rw[k]))) <;> (refine ag ?_)
  all_goals first
    |grind
    | (have q:e=s.length:=by omega
       grind)
    | (have q:e≠s.length:=by omega
       grind)
def cm(n:Int):Bool:=decide (0<=n)&&decide (n<=999)
def jh(c:Cd):Bool:=if c.unit then decide (1<=c.bL)else decide (c.dL+c.bL+c.dq+c.eU+c.dU<=0)&&decide (c.dead.length+c.cM.length=0)
def pr(c:Cd):Int:=min (dD 0 c.de+dD 0 c.dead+dD 0 c.cM) 1073741824
def eI(cs:List Cd)(c:Cd):Bool:=
 eD c.name&&(cm c.cost&&(cm c.dL&&(cm c.bL&&(cm c.dq&&(cm c.eU&&(cm c.dU&&(jh c&&(decide (pr c<=200)&&(bE cs true 1 c.de&&(bE cs false 1 c.dead&&bE cs false 1 c.cM))))))))))
def iz(c:Cd):Bool:=decide (c.name.length<=gy)&&(bF c.de&&(bF c.dead&&bF c.cM))
def QG(l:List Cd):Bool:=decide (l.length<=gy)&&l.all iz
def dI(cs:List Cd):List Cd→List Cd→Int×Int
 |_,[]=>(0,0)
 |pre,c::l=>if pre.any λd=>d.name==c.name then (101,c.pl)else if eI cs c then dI cs (pre++[c]) l else (130,c.pl)
def cH(cs:List Cd):Int×Int:=if 240<cs.length then (3,0)else dI cs [] cs
theorem c145(cs:List Cd)(gH:cs.length<=gy)(c:Cd)(hf:iz c=true):PC 114 [iM cs,.agg (cN c)] (.bool (eI cs c)):=by
 simp only[iz,AI,fD]at hf;obtain⟨f0,f1,f2,f3⟩:=hf;refine Xa hP g114.ok rfl rfl ?_;rw[H2.e];unfold g114;dsimp only;refine Yd rfl rfl ?_;generalize hB:([]++[ab.box (cN c)]:List ab)=base;have dM:ai base 0=.box (cN c):=by rw[←hB];rfl
 refine ag ?_;apply tk
 ·intro hR;repeat' (first
   |refine a_ (c147 _ f0) g116.ok ?_
   |refine a_ (c187 _) g155.ok ?_
   | refine od (λh=>?_) (λh=>?_) <;> (try rw[h])) <;> (refine ah ?_)
  all_goals exact CF (V:=!(eD c.name&&(cm c.cost&&(cm c.dL&&(cm c.bL&&(cm c.dq&&(cm c.eU&&cm c.dU))))))) (hR ⟨⟩) (by grind [cm])
 refine Ya (λh=>by grind [eI]) (λhA=>?_);have hC:=hA;simp only[cm,Bool.not_eq_false',AI,fD]at hC;have l1:=ZC f2;have l2:=ZC f3;rw[c9]at l1 l2;have w1:=bw (n:=c.dL+c.bL) (by omega) (by omega);have w2:=bw (n:=c.dL+c.bL+c.dq) (by omega) (by omega);have w3:=bw (n:=c.dL+c.bL+c.dq+c.eU) (by omega) (by omega);have w4:=bw (n:=c.dL+c.bL+c.dq+c.eU+c.dU) (by omega) (by omega);have w5:=bw (n:=(c.dead.length:Int)+(c.cM.length:Int)) (by omega) (by omega);refine ag ?_;apply tk
 ·intro hR;repeat' (refine od (λh=>?_) (λh=>?_)<;>(try rw[h]))<;>refine ah ?_
  all_goals exact CF (V:=!jh c) (hR ⟨⟩) (by (try simp only[zAM,w1,w2,w3,w4,w5]);grind [jh])
 refine Ya (λh=>by grind [eI]) (λhS=>?_);rw[show eI cs c=(decide (pr c<=200)&&(bE cs true 1 c.de&&(bE cs false 1 c.dead&&bE cs false 1 c.cM))) by grind [eI]];refine ag ?_;refine(a_ (c110 c f1 f2 f3) g40.ok (Za rfl (Ya (λh=>?_) (λh=>?_))))
 ·grind [pr]
 have h:pr c<=200:=by simp at h;unfold pr;omega
 simp only[h,decide_true,zAH];subst hB;refine ay (ZH (c188 cs gH true c.de 1 f1 (by omega)) rfl g94.ok.plain rfl rfl ?_);rcases cD (bE cs true 1 c.de)with p1|p1
 rotate_left
 ·rw[p1];refine ax ?_;simp[p1]
 rw[p1];refine ay (ZH (c188 cs gH false c.dead 1 f2 (by omega)) rfl g94.ok.plain rfl rfl (ay ?_));rcases cD (bE cs false 1 c.dead)with p2|p2
 rotate_left
 ·rw[p2];refine ay ?_;simp[p1,p2]
 rw[p2];refine ay (ZH (c188 cs gH false c.cM 1 f3 (by omega)) rfl g94.ok.plain rfl rfl (ay ?_));simp[p1,p2]
theorem qg(x:Cd):aK true 0 12 (cN x)=some (.agg (cN x)):=rfl
theorem O0(x:Cd):aK false 11 1 (cN x)=some (iv x.pl):=rfl
theorem c113(cs:List Cd)(hf:QG cs=true):PC 73 [iM cs] (.agg [iv (cH cs).1,iv (cH cs).2]):=by
 simp only[QG,AI,fD]at hf;obtain⟨f0,f1⟩:=hf;have f02:=f0;rw[c9]at f02;refine Xa hP g73.ok rfl rfl ?_;rw[H1.e];unfold g73;dsimp only;refine ay (Ya (λh=>?_) (λh=>?_))
 ·have h:240<cs.length:=by simp at h;omega
  refine ay ?_;rw[cH,aI h]
 have h:¬240<cs.length:=by simp at h;omega
 rw[cH,aB h];refine Xg (ι:=Nat) (λi vs σ=>vs=[iv i]∧σ=[.box [iv 0,iv 0]]∧i<=cs.length∧dI cs [] cs=dI cs (cs.take i) (cs.drop i)) (λi=>cs.length-i) 0 ⟨rfl,rfl,by omega,by simp⟩ ?_;rintro i vs σ again ⟨rfl,rfl,hi,hu⟩ bj;refine Za rfl (Za rfl ?_);refine Ya (λh=>?_) (λh=>?_);rotate_left
 ·have h:i=cs.length:=by simp at h;omega
  subst h;rw[zAD,dI]at hu;refine ay ?_;rw[hu]
 have hi:i<cs.length:=by simpa using h
 have dY:cs.drop i=cs[i]::cs.drop (i+1):=by rw[gK hi]
 have cB:=λ(s:List ab)=>Ym s cN false false 12 cs .i64 i hi;have uy:=zAm.1 f1 _ (AT hi);have lq:cs.take (i+1)=cs.take i++[cs[i]]:=Yu cs i hi;generalize cs[i]=c at dY cB uy lq;rw[dY,dI]at hu;refine Xg (ι:=Nat) (λj vs σ=>vs=[iv j]∧σ=[.box [iv 0,iv 0]]∧j<=i∧(cs.take i).any (λd=>d.name==c.name)=((cs.take i).drop j).any (λd=>d.name==c.name)) (λj=>i-j) 0 ⟨rfl,rfl,by omega,by simp⟩ ?_;rintro j vs σ mO ⟨rfl,rfl,hj,hv⟩ lE;refine Za rfl (QM (λh=>?_) (λh=>?_))
 ·have UX:j<(cs.take i).length:=by rw[zAk];omega
  have rM:(cs.take i).drop j=(cs.take i)[j]::(cs.take i).drop (j+1):=by rw[gK UX]
  rw[zCx]at rM;rw[rM,zCv]at hv;refine Za (Ym _ cN false false 12 cs .i64 j (by omega)) (Za rfl (Za (bB (oq _)) (Za (cB _) (Za rfl (Za (bB (oq _)) (Za (uT ..) ?_))))));refine Ya (λh=>?_) (λh=>?_)
  ·rw[h,Bool.true_or]at hv;rw[hv,aI rfl]at hu;refine Za (cB _) (Za rfl (Za (bB (O0 _)) ?_));refine ay ?_;rw[hu]
  ·rw[h,zCR]at hv;refine Za (Xj ..) ?_;rw[Xc (n:=j) (by omega)]
   grind
 subst h;rw[zCY (by rw[zAk];omega),List.any_nil]at hv;rw[hv]at hu
 replace hu:dI cs [] cs=if eI cs c then dI cs (cs.take j++[c]) (cs.drop (j+1))else (130,c.pl):=hu
 rw[←lq]at hu;refine Za (cB _) (Za (bB (qg _)) ?_);refine a_ (c145 cs f0 c uy) g114.ok (Za rfl (Ya (λh=>?_) (λh=>?_)))
 ·have h:eI cs c=false:=by simpa using h
  rw[h]at hu
  replace hu:dI cs [] cs=(130,c.pl):=hu
  refine Za (cB _) (Za rfl (Za (bB (O0 _)) ?_));refine ay ?_;rw[hu]
 ·have h:eI cs c=true:=by simpa using h
  rw[h,aI rfl]at hu;refine Za (Xj ..) ?_;rw[Xc (n:=j) (by omega)]
  grind
def mK(a:Int):Int:=if a<0∨3<a then 3 else a
def dC(a b:Int):Int:=if mK a=mK b∨mK b=0 then mK a else if mK a=0 then mK b else 3
def G4(a b:Int):Bool:=decide (dC a b=dC b b)
mutual
def tH:Nm→Int
 |.mk op _ _ kids=>if 8<=op∧op<=12 then jc (if op=6 then 3 else 0) kids else if op=6 then 3 else 0
def jc:Int→List Nm→Int
 |n,[]=>n
 |n,x::l=>jc (dC n (tH x)) l
end
theorem Zd8(x:Nm):tH x=if 8<=x.op∧x.op<=12 then jc (if x.op=6 then 3 else 0) x.kids else if x.op=6 then 3 else 0:=by cases x;rfl
mutual
def tj:Cn→Int
 |.mk op who _ aC kids=>if op=6 then (if who=0 then 1 else if who=1 then 2 else 3)else ov (jc 0 aC) kids
def ov:Int→List Cn→Int
 |n,[]=>n
 |n,x::l=>ov (dC n (tj x)) l
end
theorem Xd3(x:Cn):tj x=if x.op=6 then (if x.who=0 then 1 else if x.who=1 then 2 else 3)else ov (jc 0 x.aC) x.kids:=by cases x;rfl
mutual
def tl (u:Int):Ef→Bool
 |.mk op _ n _ c bQ bV=>if op=5 then G4 (dC u (tH n)) 1 else if op=8 then ij (dC u (tj c)) bQ&&ij (dC u (tj c)) bV else if op=0∨op=1∨op=2∨op=3 then decide (dC u (tH n)=0)else decide (dC u u=0)
def ij (u:Int):List Ef→Bool
 |[]=>true
 |x::l=>tl u x&&ij u l
end
theorem Ja(u:Int)(x:Ef):tl u x=if x.op=5 then G4 (dC u (tH x.n)) 1 else if x.op=8 then ij (dC u (tj x.c)) x.bQ&&ij (dC u (tj x.c)) x.bV else if x.op=0∨x.op=1∨x.op=2∨x.op=3 then decide (dC u (tH x.n)=0)else decide (dC u u=0):=by cases x;rfl
theorem XL{c:Bool}(h1:r1=.ok v1 [] [])(h2:f2 v1=.ok (.bool d) [] [])(hK:K (.bool (c||d))) :
  (W P GL).gr (.bool c) false (λk=>(W P GL).rd r1 k) λt1=>(W P GL).gr (.bool c) false (λk=>(W P GL).rd (f2 t1) k) λt2=>(W P GL).rd (Yo [.bool c,.bool true,t2] σ) K:=by
 cases c with
 |false=>exact Qa (Za h1 (Qa (Za h2 (Za rfl hK))))
 |true=>exact Qc rfl (Qc rfl (Za rfl hK))
theorem GW{c:Bool}{f3:aa→aN}{v2:aa}{q1 q2 q3:List Nat}(h1:r1=.ok v1 q1 [])(h2:f2 v1=.ok v2 q2 [])(h3:f3 v2=.ok (.bool d) q3 [])(hK:K (.bool (c&&d))) :
  (W P GL).gr (.bool c) true (λk=>(W P GL).rd r1 k) λt1=>(W P GL).gr (.bool c) true (λk=>(W P GL).rd (f2 t1) k) λt2=>(W P GL).gr (.bool c) true (λk=>(W P GL).rd (f3 t2) k) λt3=>(W P GL).rd (Yo [.bool c,t3,.bool false] σ) K:=by
 cases c with
 |true=>exact Qa (Za h1 (Qa (Za h2 (Qa (Za h3 (Za rfl hK))))))
 |false=>exact Qc rfl (Qc rfl (Qc rfl (Za rfl hK)))
theorem c190(a b:Int):PC 157 [aO a,aO b] (aO (dC a b)):=by
 refine Xa hP g157.ok rfl rfl ?_;rw[H2.e];unfold g157;dsimp only;refine Za rfl (XL rfl rfl ?_);refine Qg λk1 ni=>?_;have kk:k1 [aO (mK a)] []:=by
  rw[ni];clear ni k1;refine Za rfl (XL rfl rfl ?_);refine Qg λk1 ni=>?_;have kk:k1 [aO (mK b)] []:=by
   rw[ni];clear ni k1;unfold dC;generalize mK a=a;generalize mK b=b;refine Za (Zt ..) ?_;have hp:∀K:aa→Prop,K (.bool (decide (a=b)||decide (b=0)))→VV.gr (.bool (decide (a=b))) false (λk=>VV.rd (rl [aO b] []) k) λt22=>VV.gr (.bool (decide (a=b))) false (λk=>VV.rd (Zn .eql false [t22,(.int .i8 0)] []) k) λt23=>VV.rd (Yo [.bool (decide (a=b)),(.bool true),t23] []) K:=λK hK=>XL rfl (Zt ..) hK;refine hp _ (Ya (λh=>?_) (λh=>?_))
   ·rw[aI (by simpa using h)];rfl
   have h:¬(a=b∨b=0):=by simpa using h
   rw[aB h];refine Za (Zt ..) (Ya (λh=>?_) (λh=>?_))
   ·rw[aI (by simpa using h)];rfl
   ·rw[aB (by simpa using h)]
  refine Ya (λh=>?_) (λh=>?_)
  ·rw[mK,aI (by simpa using h)]at kk;exact kk
  ·rw[mK,aB (by simpa using h)]at kk;exact kk
 refine Ya (λh=>?_) (λh=>?_)
 ·rw[mK,aI (by simpa using h)]at kk;exact kk
 ·rw[mK,aB (by simpa using h)]at kk;exact kk
theorem c189(a b:Int):PC 156 [aO a,aO b] (.bool (G4 a b)):=by
 refine Xa hP g156.ok rfl rfl ?_;rw[H2.e];unfold g156;dsimp only;refine a_ (c190 a b) g157.ok (a_ (c190 b b) g157.ok (Za (Zt ..) ?_));rfl
theorem Bm:∀(k:Nat) (x:Nm),zAV x<=k→c7 x=true→PC 158 [.agg (dd x)] (aO (tH x))
 |0,x,h,_=>by cases x;simp at h
 |k+1,x,hk,hf=>by
  rw[QA];refine Xa hP g158.ok rfl rfl ?_;rw[H1.e];unfold g158;dsimp only;refine Yd rfl rfl ?_;rw[Zd8];have hlen:=HW hf;rw[c9]at hlen;generalize hB:([]++[ab.box [aO x.op,iv x.n,aO x.who,.aW false false 4 (x.kids.map dd)]]:List ab)=base;have dM:ai base 0=.box [aO x.op,iv x.n,aO x.who,.aW false false 4 (x.kids.map dd)]:=by rw[←hB];rfl
  clear hB;refine Za rfl (Za (ld dM rfl) (Za (Zt ..) ?_));refine Qg λk1 ni=>?_;have kk:k1 [aO (if x.op=6 then 3 else 0)] base:=by
   rw[ni];clear ni k1;generalize (if x.op=6 then (3:Int)else 0)=n0;refine Za rfl (Za (ld dM rfl) (Za rfl ?_));refine GW rfl (ld dM rfl) rfl ?_;rw[show (decide (x.op >= 8)&&decide (x.op<=12))=decide (8<=x.op∧x.op<=12) by simp];refine Ya (λh=>?_) (λh=>?_);rotate_left
   ·rw[aB (by simpa using h)];rfl
   rw[aI (by simpa using h)];refine Xg (ι:=Nat) (λi vs σ=>∃n,vs=[iv i,aO n]∧σ=base∧i<=x.kids.length∧jc n0 x.kids=jc n (x.kids.drop i)) (λi=>x.kids.length-i) 0 ⟨n0,rfl,rfl,by omega,by simp⟩ ?_;rintro i vs σ again ⟨n,rfl,rfl,hi,hu⟩ bj;repeat first|refine Za (ld dM rfl) ?_|refine Za rfl ?_
   refine Ya (λh=>?_) (λh=>?_)
   ·have h:i<x.kids.length:=by simpa using h
    have dY:x.kids.drop i=x.kids[i]::x.kids.drop (i+1):=by rw[gK h]
    rw[dY,jc]at hu;have hm:x.kids[i]∈x.kids:=AT h;refine Za rfl (Za (ld dM rfl) (Za (Ym _ dd _ _ _ x.kids _ i h) (Za (bB (so _)) ?_)));refine Qo (Bm k _ (by have:=Bf hm;omega) (Y0 hf hm)) rfl g158.ok.plain (mX _) (a_ (c190 _ _) g157.ok (Za (Xj ..) ?_));rw[Xc (n:=i) (by omega)];exact bj (i+1) _ _ (by omega) ⟨_,rfl,rfl,by omega,hu⟩
   ·have h:i=x.kids.length:=by simp at h;omega
    subst h;rw[zAD,jc]at hu;rw[hu];rfl
  refine Ya (λh=>?_) (λh=>?_)
  ·have e:x.op=6:=by simpa using h
   rw[aI e]at kk;exact kk
  ·have e:x.op≠6:=by simpa using h
   rw[aB e]at kk;exact kk
theorem c191(x:Nm)(hf:c7 x=true):PC 158 [.agg (dd x)] (aO (tH x)):=Bm _ x (No _) hf
theorem Bn:∀(k:Nat) (x:Cn),zAV x<=k→cK x=true→PC 159 [.agg (gg x)] (aO (tj x))
 |0,x,h,_=>by cases x;simp at h
 |k+1,x,hk,hf=>by
  rw[XF];refine Xa hP g159.ok rfl rfl ?_;rw[H1.e];unfold g159;dsimp only;refine Yd rfl rfl ?_;rw[Xd3];have gz:=Z5 hf;have dO:=Q4 hf;rw[c9]at gz dO;generalize hB:([]++[ab.box [aO x.op,aO x.who,.str x.name,.aW false false 4 (x.aC.map dd),.aW false false 5 (x.kids.map gg)]]:List ab)=base;have dM:ai base 0=.box [aO x.op,aO x.who,.str x.name,.aW false false 4 (x.aC.map dd),.aW false false 5 (x.kids.map gg)]:=by rw[←hB];rfl
  clear hB;refine Za rfl (Za (ld dM rfl) (Za (Zt ..) ?_));refine Ya (λh=>?_) (λh=>?_)
  ·rw[aI (by simpa using h)];refine Za rfl (Za (ld dM rfl) (Za (Zt ..) ?_));refine Ya (λh=>?_) (λh=>?_)
   ·rw[aI (by simpa using h)]
   rw[aB (by simpa using h)];refine Za (Zt ..) (Ya (λh=>?_) (λh=>?_))
   ·rw[aI (by simpa using h)]
   ·rw[aB (by simpa using h)]
  rw[aB (by simpa using h)];refine Xg (ι:=Nat) (λi vs σ=>∃n,vs=[iv i,aO n]∧σ=base∧i<=x.aC.length∧jc 0 x.aC=jc n (x.aC.drop i)) (λi=>x.aC.length-i) 0 ⟨0,rfl,rfl,by omega,by simp⟩ ?_;rintro i vs σ again ⟨n,rfl,rfl,hi,hu⟩ bj;repeat first|refine Za (ld dM rfl) ?_|refine Za rfl ?_
  refine Ya (λh=>?_) (λh=>?_)
  ·have h:i<x.aC.length:=by simpa using h
   have dY:x.aC.drop i=x.aC[i]::x.aC.drop (i+1):=by rw[gK h]
   rw[dY,jc]at hu;have hm:x.aC[i]∈x.aC:=AT h;refine Za rfl (Za (ld dM rfl) (Za (Ym _ dd _ _ _ x.aC _ i h) (Za (bB (so _)) ?_)));refine Qo (c191 _ (Z7 hf hm)) rfl g158.ok.plain (mX _) (a_ (c190 _ _) g157.ok (Za (Xj ..) ?_));rw[Xc (n:=i) (by omega)];exact bj (i+1) _ _ (by omega) ⟨_,rfl,rfl,by omega,hu⟩
  have h:i=x.aC.length:=by simp at h;omega
  subst h;rw[zAD,jc]at hu;rw[hu];clear bj hu hi;refine Xg (ι:=Nat) (λi vs s=>∃m,vs=[iv i,aO m]∧s=σ∧i<=x.kids.length∧ov n x.kids=ov m (x.kids.drop i)) (λi=>x.kids.length-i) 0 ⟨n,rfl,rfl,by omega,by simp⟩ ?_;rintro i vs s again ⟨m,rfl,rfl,hi,hu⟩ bj;repeat first|refine Za (ld dM rfl) ?_|refine Za rfl ?_
  refine Ya (λh=>?_) (λh=>?_)
  ·have h:i<x.kids.length:=by simpa using h
   have dY:x.kids.drop i=x.kids[i]::x.kids.drop (i+1):=by rw[gK h]
   rw[dY,ov]at hu;have hm:x.kids[i]∈x.kids:=AT h;refine Za rfl (Za (ld dM rfl) (Za (Ym _ gg _ _ _ x.kids _ i h) (Za (bB (zJ _)) ?_)));refine Qo (Bn k _ (by have:=CT hm;omega) (Q6 hf hm)) rfl g159.ok.plain (rD _) (a_ (c190 _ _) g157.ok (Za (Xj ..) ?_));rw[Xc (n:=i) (by omega)];exact bj (i+1) _ _ (by omega) ⟨_,rfl,rfl,by omega,hu⟩
  ·have h:i=x.kids.length:=by simp at h;omega
   subst h;rw[zAD,ov]at hu;rw[hu];rfl
theorem c192(x:Cn)(hf:cK x=true):PC 159 [.agg (gg x)] (aO (tj x)):=Bn _ x (No _) hf
def JI(c:Cd):Bool:=ij 0 c.de&&(ij 0 c.dead&&ij 0 c.cM)
def jC:List Cd→Int×Int
 |[]=>(0,0)
 |c::l=>if JI c then jC l else (140,c.pl)
theorem Yr{n:Nat}(hb:b<σ.length)(hv:aK true j n row=some v):iA true n (.ak b j) (σ.set b (.box row))=some v:=by
 simp_all [iA,Yq]
theorem wa:∀(k:Nat) (l:List Ef) (u:Int),zAV l<=k→bF l=true→PC 115 [aO u,gZ l] (.bool (ij u l))
 |0,l,_,h,_=>by cases l<;>simp at h
 |k+1,l,u,hk,hf=>by
  refine Xa hP g115.ok rfl rfl ?_;rw[H2.e];unfold g115;dsimp only;have hlen:=ZC hf;rw[c9]at hlen;refine Xg (ι:=Nat) (λi vs σ=>vs=[iv i]∧i<=l.length∧ij u l=ij u (l.drop i)) (λi=>l.length-i) 0 ⟨rfl,by omega,by simp⟩ ?_;rintro i vs σ again ⟨rfl,hi,hu⟩ bj;refine Za rfl (Za rfl ?_);refine Ya (λh=>?_) (λh=>?_);rotate_left
  ·have h:i=l.length:=by simp at h;omega
   subst h;rw[zAD,ij]at hu;rw[hu]
  have h:i<l.length:=by simpa using h
  have dY:l.drop i=l[i]::l.drop (i+1):=by rw[gK h]
  rw[dY,ij]at hu;have hm:l[i]∈l:=AT h;have eN:=zBN hm;have jN:=YP hf hm;have ix:=λ(s:List ab)=>Ym s bq false false 14 l .i64 i h;generalize l[i]=x at hu eN jN ix;rw[Ja]at hu;have qw:=G3 x;refine vV (Za (ix _) (Za (bB (mc x)) ?_));refine Zv (row:=bq x) (row':=bq x) (by rw[Qr];rfl) (by rw[Qr];rfl) (by rw[Qr];rfl) ?_;have dM:=Yc σ (.box (bq x));generalize σ ++ [ab.box (bq x)]=base at dM ⊢;generalize σ.length=b at dM ⊢;have p0:=gY x;have p1:=oE x;have p2:=rI x;have p7:=oF x;have p12:=CE x;have p13:=CW x;refine ag ?_;repeat' (first
   |refine vV ?_
   |refine Qo (c191 _ (zn jN)) rfl g158.ok.plain (mX _) ?_
   |refine Qo (c192 _ (Z8 jN)) rfl g159.ok.plain (rD _) ?_
   |refine a_ (c190 _ _) g157.ok ?_
   |refine a_ (c189 _ _) g156.ok ?_
   |refine a_ (wa k x.bQ _ (by omega) (ZP jN)) g115.ok ?_
   |refine a_ (wa k x.bV _ (by omega) (QO jN)) g115.ok ?_
   |refine uV (λh=>?_) (λh=>?_)<;>try (exfalso;omega)
   |refine od (λh=>?_) (λh=>?_)<;>(try rw[h])
   | refine Ya (λh=>?_) (λh=>?_)) <;> (refine ag ?_)
  all_goals first
   |(rw[Xc (n:=i) (by omega)];exact bj (i+1) _ _ (by omega) ⟨rfl,by omega,by grind⟩)
   |grind
theorem c146(l:List Ef)(u:Int)(hf:bF l=true):PC 115 [aO u,gZ l] (.bool (ij u l)):=wa _ l u (No _) hf
theorem c114(cs:List Cd)(hf:QG cs=true):PC 74 [iM cs] (.agg [iv (jC cs).1,iv (jC cs).2]):=by
 simp only[QG,AI,fD]at hf;obtain⟨f0,f1⟩:=hf;rw[c9]at f0;refine Xa hP g74.ok rfl rfl ?_;rw[H1.e];unfold g74;dsimp only;refine Yd rfl rfl (Xg (ι:=Nat) (λi vs σ=>vs=[iv i]∧ai σ 0=.box [iv 0,iv 0]∧0<σ.length∧i<=cs.length∧jC cs=jC (cs.drop i)) (λi=>cs.length-i) 0 ⟨rfl,rfl,by simp,by omega,by simp⟩ ?_);rintro i vs σ again ⟨rfl,hz,mJ,hi,hu⟩ bj;refine Za rfl (Za rfl ?_);refine Ya (λh=>?_) (λh=>?_);rotate_left
 ·have h:i=cs.length:=by simp at h;omega
  subst h;rw[zAD,jC]at hu;refine Za rfl (Yd (c8 hz rfl rfl rfl) (Ze _ mJ) (Zp (Yr mJ rfl) ?_));rw[hu]
 have hi:i<cs.length:=by simpa using h
 have dY:cs.drop i=cs[i]::cs.drop (i+1):=by rw[gK hi]
 have cB:=λ(s:List ab)=>Ym s cN false false 12 cs .i64 i hi;have uy:=zAm.1 f1 _ (AT hi);generalize cs[i]=c at dY cB uy;rw[dY,jC]at hu;simp only[iz,AI,fD]at uy;obtain⟨g0,g1,g2,g9993⟩:=uy;refine Za (cB _) (Za (bB (qg _)) (Zv (row:=cN c) (row':=cN c) rfl rfl rfl ?_));have dM:=Yc σ (ab.box (cN c));have tE:ai (σ++[ab.box (cN c)]) 0=.box [iv 0,iv 0]:=Qb _ hz;have qz:0<(σ++[ab.box (cN c)]).length:=by simp
 generalize σ++[ab.box (cN c)]=base at dM tE qz ⊢;generalize σ.length=b at dM ⊢;clear hz mJ;refine ag ?_;apply tk
 ·intro hR;repeat' (first
   |refine a_ (c146 _ 0 g1) g115.ok ?_
   |refine a_ (c146 _ 0 g2) g115.ok ?_
   |refine a_ (c146 _ 0 g9993) g115.ok ?_
   | refine od (λh=>?_) (λh=>?_) <;> (try rw[h])) <;> (refine ah ?_)
  all_goals exact CF (V:=!JI c) (hR ⟨⟩) (by grind [JI])
 refine Ya (λhc=>?_) (λhc=>?_)
 ·have hu:jC cs=(140,c.pl):=by grind
  refine ag (Yd (c8 tE rfl rfl rfl) (Ze _ qz) (Zp (Yr qz rfl) ?_));rw[hu]
 refine ag ?_;rw[Xc (n:=i) (by omega)];exact bj (i+1) _ _ (by omega) ⟨rfl,tE,qz,by omega,by grind⟩
def gf:Nat→List Cd→Tx→Nat×Bool
 |_,[],_=>(0,false)
 |i,c::l,t=>if c.name==t then (i,true)else gf (i+1) l t
def iB(cs:List Cd):List Tx→List Tx→Bool
 |_,[]=>true
 |pre,t::l=>((gf 0 cs t).2&&pre.all λp=>!(p==t))&&iB cs (pre++[t]) l
def mg(b:Bk)(pre:List Fo)(f:Fo):Bool:=
 !(pre.any λg=>g.name==f.name)&&(decide (pre.length<240)&&(eD f.name&&(decide (0<=f.least)&&(decide (f.least<=f.most)&&(decide (f.most<=60)&&(decide (0<=f.jS)&&(decide (f.jS<=999)&&(iB b.aj [] f.jQ&&iB b.aj [] f.single))))))))
def gG(b:Bk):List Fo→List Fo→Int×Int
 |_,[]=>(0,0)
 |pre,f::l=>if mg b pre f then gG b (pre++[f]) l else (151,f.pl)
def bu(b:Bk):Int×Int:=if (cH b.aj).1≠0 then cH b.aj else if (jC b.aj).1≠0 then jC b.aj else gG b [] b.ar
def oI(f:Fo):Bool:=decide (f.name.length<=gy)&&(decide (f.jQ.length<=gy)&&decide (f.single.length<=gy))
def ba(b:Bk):Bool:=QG b.aj&&(decide (b.ar.length<=gy)&&b.ar.all oI)
theorem c195(b:Bk)(hc:b.aj.length<=gy)(t:Tx):PC 149 [cE b,.str t] (.bp [iv (gf 0 b.aj t).1,.bool (gf 0 b.aj t).2]):=by
 rw[c9]at hc;refine Xa hP g149.ok rfl rfl ?_;rw[H2.e];unfold g149;dsimp only;refine Yd rfl rfl ?_;generalize hB:([]++[ab.box [iM b.aj,px b.ar]]:List ab)=base;have dM:ai base 0=.box [iM b.aj,px b.ar]:=by rw[←hB];rfl
 clear hB;generalize b.aj=cs at hc dM ⊢;refine Xg (ι:=Nat) (λi vs σ=>vs=[iv i]∧σ=base∧i<=cs.length∧gf 0 cs t=gf i (cs.drop i) t) (λi=>cs.length-i) 0 ⟨rfl,rfl,by omega,by simp⟩ ?_;rintro i vs σ again ⟨rfl,rfl,hi,hu⟩ bj;refine ax (Ya (λh=>?_) (λh=>?_))
 ·have h:i<cs.length:=by simpa using h
  have dY:cs.drop i=cs[i]::cs.drop (i+1):=by rw[gK h]
  rw[dY,gf]at hu;refine Za rfl (Za (ld dM rfl) (Za (Ym _ cN false false 12 cs .i64 i h) (Za rfl (Za (bB (oq _)) (Za (uT ..) ?_)))));refine Ya (λh=>?_) (λh=>?_)
  ·rw[aI h]at hu;rw[hu];rfl
  ·rw[aB (by simpa using h)]at hu;refine Za (Xj ..) ?_;rw[Xc (n:=i) (by omega)]
   grind
 grind [gf]
theorem c148(b:Bk)(hc:b.aj.length<=gy)(l:List Tx)(hl:l.length<=gy):PC 117 [cE b,HM l] (.bool (iB b.aj [] l)):=by
 rw[c9]at hl;refine Xa hP g117.ok rfl rfl ?_;rw[H2.e];unfold g117;dsimp only;refine Yd rfl rfl (Xg (ι:=Nat) (λi vs σ=>vs=[iv i]∧σ=[]++[ab.box [iM b.aj,px b.ar]]∧i<=l.length∧iB b.aj [] l=iB b.aj (l.take i) (l.drop i)) (λi=>l.length-i) 0 ⟨rfl,rfl,by omega,by simp⟩ ?_);rintro i vs σ again ⟨rfl,rfl,hi,hu⟩ bj;refine Za rfl (Za rfl ?_);refine Ya (λh=>?_) (λh=>?_);rotate_left
 ·grind [iB]
 have h:i<l.length:=by simpa using h
 have dY:l.drop i=l[i]::l.drop (i+1):=by rw[gK h]
 have cB:=λ(s:List ab)=>Ym s vw false false 1 l .i64 i h;have lq:l.take (i+1)=l.take i++[l[i]]:=Yu l i h;generalize l[i]=t at dY cB lq;rw[dY,iB,←lq]at hu;refine Xf rfl rfl (Xf (cB _) rfl (Xf (bB (yl _)) rfl ?_));refine i_ (c195 b hc t) g149.ok ?_;refine ay ?_;refine Xg (ι:=Nat) (λk vs σ=>∃ok,vs=[iv k,.bool ok]∧σ=[]++[ab.box [iM b.aj,px b.ar]]∧k<=i∧((gf 0 b.aj t).2&&(l.take i).all λp=>!(p==t))=(ok&&((l.take i).drop k).all λp=>!(p==t))) (λk=>i-k) 0 ⟨_,rfl,rfl,by omega,by simp⟩ ?_;rintro k vs σ mO ⟨ok,rfl,rfl,hk,hv⟩ lE;refine Za rfl (QM (λh2=>?_) (λh2=>?_))
 ·have hkx:k<(l.take i).length:=by rw[zAk];omega
  have rM:(l.take i).drop k=(l.take i)[k]::(l.take i).drop (k+1):=by rw[gK hkx]
  rw[zCx]at rM;rw[rM,List.all_cons,←zCM]at hv;cases ok with
  |true=>
   have UW:=λ(s:List ab)=>Ym s vw false false 1 l .i64 k (by omega);repeat first|refine Qa ?_|refine Za (UW _) ?_|refine Za (cB _) ?_|refine Za (bB (yl _)) ?_|refine Za rfl ?_
   rw[Xc (n:=k) (by omega)];exact lE (k+1) _ _ (by omega) ⟨_,rfl,rfl,by omega,by rw[hv,zAH]⟩
  |false=>
   refine ay ?_;rw[Xc (n:=k) (by omega)];exact lE (k+1) _ _ (by omega) ⟨_,rfl,rfl,by omega,by rw[hv];simp⟩
 subst h2;rw[zCY (by rw[zAk];omega),List.all_nil,zBA]at hv;rw[hv]at hu;refine Za rfl (Ya (λh3=>?_) (λh3=>?_))
 ·simp_all
 ·have h3:ok=true:=by simpa using h3
  subst h3;rw[zAH]at hu;refine Za (Xj ..) ?_;rw[Xc (n:=k) (by omega)]
  grind
theorem J1(x:Fo):aK true 0 7 (oH x)=some (.agg (oH x)):=rfl
theorem J2(x:Fo):aK false 0 1 (oH x)=some (.str x.name):=rfl
theorem J3(x:Fo):aK false 6 1 (oH x)=some (iv x.pl):=rfl
theorem c115(b:Bk)(hc:b.aj.length<=gy)(rN:b.ar.length<=gy)(k:Nat)(hk:k<b.ar.length)(hf:oI b.ar[k]=true):PC 75 [cE b,iv k] (.bool (mg b (b.ar.take k) b.ar[k])):=by
 rw[c9]at rN;refine Xa hP g75.ok rfl rfl ?_;rw[H2.e];unfold g75;dsimp only;refine Yd rfl rfl ?_;have cB:=λ(s:List ab)=>Ym s oH false false 7 b.ar .i64 k hk;generalize b.ar[k]=f at hf cB ⊢;simp only[oI,AI,fD]at hf;obtain⟨f0,f1,f2⟩:=hf;refine Za rfl (Za rfl (Za (cB _) (Za (bB (J1 f)) (Zv (row:=oH f) (row':=oH f) rfl rfl rfl ?_))));generalize hB:([]++[ab.box [iM b.aj,px b.ar]]++[ab.box (oH f)]:List ab)=base;have dM:ai base 0=.box [iM b.aj,px b.ar]:=by rw[←hB];rfl
 have jo:ai base 1=.box (oH f):=by rw[←hB];rfl
 clear hB;have htl:(b.ar.take k).length=k:=by rw[zAk];omega
 refine Xg (ι:=Nat) (λj vs σ=>vs=[iv j]∧σ=base∧j<=k∧((b.ar.take k).any λg=>g.name==f.name)=(((b.ar.take k).drop j).any λg=>g.name==f.name)) (λj=>k-j) 0 ⟨rfl,rfl,by omega,by simp⟩ ?_;rintro j vs σ again ⟨rfl,rfl,hj,hv⟩ bj;refine Za rfl (QM (λh=>?_) (λh=>?_))
 ·have UX:j<(b.ar.take k).length:=by omega
  have rM:(b.ar.take k).drop j=(b.ar.take k)[j]::(b.ar.take k).drop (j+1):=by rw[gK UX]
  rw[zCx]at rM;rw[rM,zCv]at hv;refine Za rfl (Za (ld dM rfl) (Za (Ym _ oH false false 7 b.ar .i64 j (by omega)) (Za rfl (Za (bB (J2 _)) (Za rfl (Za (ld jo rfl) (Za (uT ..) ?_)))))));refine Ya (λh=>?_) (λh=>?_)
  ·grind [mg]
  ·rw[h,zCR]at hv;refine Za (Xj ..) ?_;rw[Xc (n:=j) (by omega)]
   grind
 subst h;rw[zCY (by omega),List.any_nil]at hv;unfold mg;rw[hv,htl,zBw,zAH];clear hv bj cB;refine Za rfl ?_;rcases cD (decide ((j:Int) >= 240))with a1|a1
 ·rw[a1];refine ax ?_
  grind
 rw[a1];refine ax ?_;have a1:j<240:=by simp at a1;omega
 refine a_ (c147 _ f0) g116.ok (ax (Ya (λa2=>?_) (λa2=>?_)))
 ·simp_all
 have a2:eD f.name=true:=by simpa using a2
 rw[eX a1,a2,zAH,zAH];clear a1 a2;refine ax ?_;rcases cD (decide (f.least >= 0))with b1|b1
 rotate_left
 ·rw[b1];refine ax ?_;rfl
 rw[b1];refine ax ?_;have b1:0<=f.least:=by simpa using b1
 rcases cD (decide (f.least<=f.most))with b2|b2
 rotate_left
 ·rw[b2];refine ax ?_;rfl
 rw[b2];refine ax ?_;have b2:f.least<=f.most:=by simpa using b2
 rcases cD (decide (f.most<=60))with b3|b3
 rotate_left
 ·rw[b3];refine ax ?_;rfl
 rw[b3];refine ax ?_;have b3:f.most<=60:=by simpa using b3
 rcases cD (decide (f.jS >= 0))with b4|b4
 rotate_left
 ·rw[b4];refine ax ?_;rfl
 rw[b4];refine ax ?_;have b4:0<=f.jS:=by simpa using b4
 rcases cD (decide (f.jS<=999))with b5|b5
 rotate_left
 ·rw[b5];refine ax ?_;rfl
 rw[b5];refine ax ?_;have b5:f.jS<=999:=by simpa using b5
 simp only[b1,b2,b3,b4,b5,decide_true,zAH];refine a_ (c148 b hc _ f1) g117.ok (ax ?_);rcases cD (iB b.aj [] f.jQ)with c1|c1
 rotate_left
 ·rw[c1];refine ax ?_;simp[c1]
 rw[c1];refine ax (a_ (c148 b hc _ f2) g117.ok (ax ?_));simp[c1]
theorem c67(b:Bk)(hf:ba b=true):PC 42 [cE b] (.agg [iv (bu b).1,iv (bu b).2]):=by
 simp only[ba,AI,fD]at hf;obtain⟨f0,f1,f2⟩:=hf;have f12:=f1;rw[c9]at f12;have fc:b.aj.length<=gy:=by simp_all [QG]
 refine Xa hP g42.ok rfl rfl ?_;rw[H1.e];unfold g42;dsimp only;refine ay ?_;refine a_ (c113 _ f0) g73.ok ?_;refine ay ?_;unfold bu;refine Ya (λh=>?_) (λh=>?_)
 ·rw[aI (by simpa using h)];refine ay rfl
 rw[aB (by simpa using h)];refine Za rfl (Za rfl ?_);refine a_ (c114 _ f0) g74.ok (ay (Ya (λh=>?_) (λh=>?_)))
 ·rw[aI (by simpa using h)];refine ay rfl
 rw[aB (by simpa using h)];generalize cH b.aj=p1;generalize jC b.aj=p2;refine Xg (ι:=Nat) (λi vs σ=>vs=[iv i]∧σ=[]++[ab.box [iM b.aj,px b.ar]]++[.box [iv 0,iv 0]]++[.box [iv p1.1,iv p1.2]]++[.box [iv p2.1,iv p2.2]]∧i<=b.ar.length∧gG b [] b.ar=gG b (b.ar.take i) (b.ar.drop i)) (λi=>b.ar.length-i) 0 ⟨rfl,rfl,by omega,by simp⟩ ?_;rintro i vs σ again ⟨rfl,rfl,hi,hu⟩ bj;refine ay (Ya (λh=>?_) (λh=>?_));rotate_left
 ·have h:i=b.ar.length:=by simp at h;omega
  subst h;rw[zAD,gG]at hu;refine ay ?_;rw[hu]
 have h:i<b.ar.length:=by simpa using h
 have dY:b.ar.drop i=b.ar[i]::b.ar.drop (i+1):=by rw[gK h]
 have cB:=λ(s:List ab)=>Ym s oH false false 7 b.ar .i64 i h;have lq:b.ar.take (i+1)=b.ar.take i++[b.ar[i]]:=Yu b.ar i h;have K0:=c115 b fc f1 i h (zAm.1 f2 _ (AT h));generalize b.ar[i]=f at dY cB lq K0;rw[dY,gG,←lq]at hu;refine Za rfl (a_ K0 g75.ok (Za rfl (Ya (λh3=>?_) (λh3=>?_))))
 ·rw[aB (by simpa using h3)]at hu;refine Za rfl (Za rfl (Za (cB _) (Za rfl (Za (bB (J3 _)) ?_))));refine ay ?_;rw[hu]
 ·rw[aI (by simpa using h3)]at hu;refine Za (Xj ..) ?_;rw[Xc (n:=i) (by omega)]
  grind
structure nB (row:List aa) (j:Nat) (x:Nm):Prop where
 h0:aK false (j+0) 1 row=some (aO x.op)
 h1:aK false (j+1) 1 row=some (iv x.n)
 h2:aK false (j+2) 1 row=some (aO x.who)
 h3:aK false (j+3) 1 row=some (.aW false false 4 (x.kids.map dd))
theorem qG(x:Nm):nB (dd x) 0 x:=by rw[QA];exact⟨rfl,rfl,rfl,rfl⟩
theorem Cg(x:Ef):nB (bq x) 2 x.n:=by rw[Qr];exact⟨rfl,rfl,rfl,rfl⟩
theorem c210(w:Int):PC 199 [aO w] (.bool (cw w)):=by
 refine Xa hP g199.ok rfl rfl ?_;rw[H1.e];unfold g199;dsimp only;refine ag ?_;repeat' (first|refine vV ?_|refine Ya (λh=>?_) (λh=>?_))<;>refine ag ?_
 all_goals grind [cw]
theorem c212(w:Int):PC 201 [aO w] (.bool (mY w)):=by
 refine Xa hP g201.ok rfl rfl ?_;rw[H1.e];unfold g201;dsimp only;refine ag (od (λh=>?_) (λh=>?_))<;>(try rw[h])<;>refine ag ?_<;>grind [mY]
theorem Bo(u:aa)(t:Bool):∀(k:Nat) (x:Nm) (row:List aa) (j:Nat),nB row j x→zAV x<=k→c7 x=true→PC 200 [.aq [u,.bool t] 0,.aq row j] (.bool (eR t x))
 |0,x,_,_,_,h,_=>by cases x;simp at h
 |k+1,x,row,j,⟨p0,p1,p2,p3⟩,hk,hf=>by
  refine Xa hP g200.ok rfl rfl ?_;rw[H2.e];unfold g200;dsimp only;rw[Nv];have hlen:=HW hf;rw[c9]at hlen;refine ag (Qg λk11 mj=>?_);have kk:∀(p o:Bool) (kd:Int),kd=xC x.op→(0<=x.op∧x.op<=12)→(p&&o)=fL t x.op x.n x.who→k11 [.bool p,.bool o,iv kd] []:=by
   rintro p o _ rfl im hpo;rw[mj];clear mj k11;refine ag ?_;repeat' (first|refine od (λh=>?_) (λh=>?_)<;>(try rw[h])|refine Ya (λh=>?_) (λh=>?_))<;>refine ag ?_
   all_goals first
    |grind [iS]
    |skip
   have ht:iS t x.op x.n x.who x.kids.length=true:=by simp at h;simp[iS];omega
   rw[ht,show fL t x.op x.n x.who=true by grind,zAH,zBA,zAM];refine Xg (ι:=Nat) (λi vs σ=>vs=[iv i]∧σ=[]∧i<=x.kids.length∧cA t x.kids=cA t (x.kids.drop i)) (λi=>x.kids.length-i) 0 ⟨rfl,rfl,by omega,by simp⟩ ?_;rintro i vs σ again ⟨rfl,rfl,hi,hu⟩ bj;refine Za rfl (QM (λh=>?_) (λh=>?_))
   ·rw[gK h,cA]at hu;have hm:=AT h;refine ag (Za (Ym _ dd _ _ _ x.kids _ i h) ?_);refine a_ (Bo u t k _ _ 0 (qG _) (by have:=Bf hm;omega) (Y0 hf hm)) g200.ok (ag (Ya (λh4=>?_) (λh4=>?_)))
    ·grind
    ·refine ag ?_;rw[Xc (n:=i) (by omega)];exact bj (i+1) _ _ (by omega) ⟨rfl,rfl,by omega,by grind⟩
   grind [cA]
  clear mj;refine ag ?_;repeat' (first
   |refine vV ?_
   |refine a_ (c212 _) g201.ok ?_
   |refine od (λh=>?_) (λh=>?_)<;>(try rw[h])
   | refine Ya (λh=>?_) (λh=>?_)) <;> (refine ag ?_)
  all_goals first
   |exact kk _ _ _ (by grind [xC]) (by grind) (by grind [fL])
   |grind [iS]
theorem c211(u:aa)(t:Bool)(x:Nm)(row:List aa)(j:Nat)(hx:nB row j x)(hf:c7 x=true):PC 200 [.aq [u,.bool t] 0,.aq row j] (.bool (eR t x)):=Bo u t _ x row j hx (No _) hf
def cy(t:Tx):List (Tx×Bool)→Option Bool
 |[]=>none
 |p::l=>if t==p.1 then some p.2 else cy t l
def jv(l:List (Tx×Bool)):List (aa×aa):=l.map λp=>(aa.str p.1,aa.bool p.2)
theorem I8(t:Tx):∀l,jB (.str t) (jv l)=some ((cy t l).map aa.bool)
 |[]=>rfl
 |p::l=>by
  simp only[jv,zAN,jB,jJ,cy];cases h:t==p.1 with
  |true=>rfl
  |false=>exact I8 t l
def zH(l:List (Tx×Bool))(t:Bool):List aa:=[.fN (jv l),.bool t]
theorem Zeg(l:List (Tx×Bool))(t:Tx)(σ:List ab):Qy true true (.bool false) [.fN (jv l),.str t] σ=.ok (.bp [.bool ((cy t l).getD false),.bool (cy t l).isSome]) [] []:=by
 show (match jB (.str t) (jv l)with
  |some r=>aN.ok (lu true (.bool false) r) [] []
  | none=>.stop)=_
 rw[I8];cases cy t l<;>rfl
theorem YcG(l:List (Tx×Bool))(t:Tx)(σ:List ab):Qy true false (.bool false) [.fN (jv l),.str t] σ=.ok (.bool ((cy t l).getD false)) [] []:=by
 show (match jB (.str t) (jv l)with
  |some r=>aN.ok (lu false (.bool false) r) [] []
  | none=>.stop)=_
 rw[I8];cases cy t l<;>rfl
def n9(l:List (Tx×Bool))(cs:List Cd):Prop:=∀t u,ej cs t u=match cy t l with
 |none=>false
 |some b=>b || !u
structure sY (row:List aa) (j:Nat) (x:Cn):Prop where
 h0:aK false (j+0) 1 row=some (aO x.op)
 h1:aK false (j+1) 1 row=some (aO x.who)
 h2:aK false (j+2) 1 row=some (.str x.name)
 h3:aK false (j+3) 1 row=some (.aW false false 4 (x.aC.map dd))
 h4:aK false (j+4) 1 row=some (.aW false false 5 (x.kids.map gg))
theorem zI(x:Cn):sY (gg x) 0 x:=by rw[XF];exact⟨rfl,rfl,rfl,rfl,rfl⟩
theorem BD(x:Ef):sY (bq x) 7 x.c:=by rw[Qr];exact⟨rfl,rfl,rfl,rfl,rfl⟩
theorem Qd1{c:Bool}{f3 f4 f5:aa→aN}{v2 v3 v4:aa}{q1 q2 q3 q4 q5:List Nat}(h1:r1=.ok v1 q1 [])(h2:f2 v1=.ok v2 q2 [])(h3:f3 v2=.ok v3 q3 [])(h4:f4 v3=.ok v4 q4 [])(h5:f5 v4=.ok (.bool d) q5 [])(hK:K (.bool (c&&d))) :
  (W P GL).gr (.bool c) true (λk=>(W P GL).rd r1 k) λt1=>(W P GL).gr (.bool c) true (λk=>(W P GL).rd (f2 t1) k) λt2=>(W P GL).gr (.bool c) true (λk=>(W P GL).rd (f3 t2) k) λt3=>(W P GL).gr (.bool c) true (λk=>(W P GL).rd (f4 t3) k) λt4=>(W P GL).gr (.bool c) true (λk=>(W P GL).rd (f5 t4) k) λt5=>(W P GL).rd (Yo [.bool c,t5,.bool false] σ) K:=by
 cases c with
 |true=>exact Qa (Za h1 (Qa (Za h2 (Qa (Za h3 (Qa (Za h4 (Qa (Za h5 (Za rfl hK))))))))))
 |false=>exact Qc rfl (Qc rfl (Qc rfl (Qc rfl (Qc rfl (Za rfl hK)))))
theorem Bp(l:List (Tx×Bool))(cs:List Cd)(hU:n9 l cs)(t:Bool):∀(k:Nat) (x:Cn) (row:List aa) (j:Nat),sY row j x→zAV x<=k→cK x=true→PC 202 [.aq (zH l t) 0,.aq row j] (.bool (fH cs t x))
 |0,x,_,_,_,h,_=>by cases x;simp at h
 |k+1,x,row,j,⟨p0,p1,p2,p3,p4⟩,hk,hf=>by
  refine Xa hP g202.ok rfl rfl ?_;rw[H2.e];unfold g202;dsimp only;rw[RX];have gz:=Z5 hf;have dO:=Q4 hf;rw[c9]at gz dO;have lk:=Zeg l x.name [];have hUx:=hU x.name false;refine ag (Qd1 rfl rfl rfl (bB p2) (uT ..) ?_);refine ag (Qg λk13 DA=>?_);have kk:∀(ok:Bool) (k3 k4:Int),k3=nF x.op→k4=nG x.op→(0<=x.op∧x.op<=6)→ok=gV cs x.op x.who x.name→k13 [.bool ok,iv k3,iv k4] []:=by
   rintro ok _ _ rfl rfl im bR;rw[DA];clear DA k13 lk hUx;refine ag ?_;repeat' (first|refine od (λh=>?_) (λh=>?_)<;>(try rw[h])|refine Ya (λh=>?_) (λh=>?_))<;>refine ag ?_
   all_goals first
    |grind [gW]
    |skip
   rename_i h3;have ht:gW x.op x.aC.length x.kids.length=true:=by simp at h3 h;simp[gW];omega
   rw[ht,←bR,show ok=true by grind,zAH,zBA,zAM];refine Xg (ι:=Nat) (λi vs σ=>vs=[iv i]∧σ=[]∧i<=x.aC.length∧cA t x.aC=cA t (x.aC.drop i)) (λi=>x.aC.length-i) 0 ⟨rfl,rfl,by omega,by simp⟩ ?_;rintro i vs σ again ⟨rfl,rfl,hi,hu⟩ bj;refine Za rfl (QM (λh=>?_) (λh=>?_))
   ·rw[gK h,cA]at hu;refine ag (Za (Ym _ dd _ _ _ x.aC _ i h) ?_);refine a_ (c211 _ t _ _ 0 (qG _) (Z7 hf (AT h))) g200.ok (ag (Ya (λh4=>?_) (λh4=>?_)))
    ·grind
    ·refine ag ?_;rw[Xc (n:=i) (by omega)];exact bj (i+1) _ _ (by omega) ⟨rfl,rfl,by omega,by grind⟩
   rw[h,zAD,cA]at hu;rw[hu,zAH];clear bj hu hi;refine ag ?_;rw[zAM];refine(Xg (ι:=Nat) (λi vs s=>vs=[iv i]∧s=[]∧i<=x.kids.length∧eJ cs t x.kids=eJ cs t (x.kids.drop i)) (λi=>x.kids.length-i) 0 ⟨rfl,rfl,by omega,by simp⟩ ?_);rintro i vs s again ⟨rfl,rfl,hi,hu⟩ bj;refine Za rfl (QM (λh=>?_) (λh=>?_))
   ·rw[gK h,eJ]at hu;have hm:=AT h;refine ag (Za (Ym _ gg _ _ _ x.kids _ i h) ?_);refine a_ (Bp l cs hU t k _ _ 0 (zI _) (by have:=CT hm;omega) (Q6 hf hm)) g202.ok (ag (Ya (λh4=>?_) (λh4=>?_)))
    ·grind
    ·refine ag ?_;rw[Xc (n:=i) (by omega)];exact bj (i+1) _ _ (by omega) ⟨rfl,rfl,by omega,by grind⟩
   grind [eJ]
  clear DA;refine ag ?_;repeat' (first
   |refine vV ?_
   |refine a_ (c212 _) g201.ok ?_
   |refine od (λh=>?_) (λh=>?_)<;>(try rw[h])
   | refine uV (λh=>?_) (λh=>?_) <;> try (exfalso;omega)) <;> (refine ag ?_)
  all_goals first
   |exact kk _ _ _ (by grind [nF]) (by grind [nG]) (by omega) (by grind [gV])
   |grind [gW]
theorem c213(l:List (Tx×Bool))(cs:List Cd)(hU:n9 l cs)(t:Bool)(x:Cn)(row:List aa)(j:Nat)(hx:sY row j x)(hf:cK x=true):PC 202 [.aq (zH l t) 0,.aq row j] (.bool (fH cs t x)):=Bp l cs hU t _ x row j hx (No _) hf
def uQ(x:Ef):Bool:=((cw x.op||ez x.n)&&(decide (x.op=7)||x.name==[]))&&(decide (x.op=8)||(decide (x.c.op=0)&&(decide (x.c.who=0)&&(x.c.name==[]&&decide (x.c.aC.length+x.c.kids.length+x.bQ.length+x.bV.length=0)))))
theorem c209(x:Ef)(hf:dW x=true):PC 198 [.aq (bq x) 0] (.bool (uQ x)):=by
 have l1:=Z5 (Z8 hf);have l2:=Q4 (Z8 hf);have l3:=ZC (ZP hf);have l4:=ZC (QO hf);rw[c9]at l1 l2 l3 l4;have w1:=bw (n:=(x.c.aC.length:Int)+x.c.kids.length) (by omega) (by omega);have w2:=bw (n:=(x.c.aC.length:Int)+x.c.kids.length+x.bQ.length) (by omega) (by omega);have w3:=bw (n:=(x.c.aC.length:Int)+x.c.kids.length+x.bQ.length+x.bV.length) (by omega) (by omega);have w0:(x.c.aC.length:Int)+x.c.kids.length+x.bQ.length+x.bV.length=0↔x.c.aC.length+x.c.kids.length+x.bQ.length+x.bV.length=0:=by omega
 rw[Qr];refine Xa hP g198.ok rfl rfl ?_;rw[H1.e];unfold g198;dsimp only;refine ae (a_ (c210 _) g199.ok (ae ?_));repeat' (refine od (λh=>?_) (λh=>?_)<;>(try rw[h])<;>refine ae ?_)
 all_goals ((try simp only[zAM,w1,w2,w3,w0]);grind [uQ,ez])
def rH(cs:List Cd)(t:Bool)(d:Int)(x:Ef):Bool:=
 if x.op=0∨x.op=1 then mY x.who||(decide (x.who=2)&&t)
 else if x.op=2∨x.op=4∨x.op=6 then mY x.who
 else if x.op=3∨x.op=5 then decide (x.who=0)
 else if x.op=7 then decide (x.who=0)&&ej cs x.name true
 else if x.op=8 then decide (x.who=0)&&(fH cs t x.c&&(bE cs t (d+1) x.bQ&&bE cs t (d+1) x.bV))
 else false
theorem Zdw(x:Ef):(decide (x.c.op=0)&&(decide (x.c.who=0)&&(x.c.name==[]&&decide (x.c.aC.length+x.c.kids.length+x.bQ.length+x.bV.length=0))))=(fh x.c&&(decide (x.bQ.length=0)&&decide (x.bV.length=0))):=by
 grind [fh]
theorem Xez(cs:List Cd)(t:Bool)(d:Int)(x:Ef):mQ cs t d x=((uQ x&&(!cw x.op||eR t x.n))&&rH cs t d x):=by
 rw[yz,uQ,Zdw];by_cases hr:0<=x.op∧x.op<=8;rotate_left
 ·grind [rH]
 obtain⟨r1,r2⟩:=hr;rw[eX r1,eX r2,zAH,zAH];generalize fh x.c=b1;generalize decide (x.bQ.length=0)=b2;generalize decide (x.bV.length=0)=b3;generalize ez x.n=b4;generalize eR t x.n=b5;generalize (x.name==[])=b6;unfold rH iO pS
 grind [cw]
theorem Yez(x:Ef):nB (bq x) (0+2) x.n:=Cg x
theorem Zez(x:Ef):sY (bq x) (0+7) x.c:=BD x
theorem wc(m:List (Tx×Bool))(cs:List Cd)(hU:n9 m cs)(t:Bool):∀(k:Nat) (l:List Ef) (d:Int),zAV l<=k→bF l=true→0<=d→PC 169 [.aq (zH m t) 0,gZ l,iv d] (.bool (bE cs t d l))
 |0,l,_,h,_,_=>by cases l<;>simp at h
 |k+1,l,d,hk,hf,hd=>by
  refine Xa hP g169.ok rfl rfl ?_;rw[H3.e];unfold g169;dsimp only;have hlen:=ZC hf;rw[c9]at hlen;refine Za rfl (Za rfl ?_);refine XL rfl rfl (Ya (λh=>?_) (λh=>?_))
  ·grind [bE]
  have h:l.length<=16∧d<=8:=by simp at h;omega
  have hl:bE cs t d l=bY cs t d l:=by simp[bE,h]
  rw[hl];clear hl;refine Za rfl (Xg (ι:=Nat) (λi vs σ=>vs=[iv i]∧σ=[]∧i<=l.length∧bY cs t d l=bY cs t d (l.drop i)) (λi=>l.length-i) 0 ⟨rfl,rfl,by omega,by simp⟩ ?_);rintro i vs σ again ⟨rfl,rfl,hi,hu⟩ bj;refine Za rfl (Ya (λh=>?_) (λh=>?_));rotate_left
  ·grind [bY]
  have qp:i<l.length:=by simpa using h
  have dY:l.drop i=l[i]::l.drop (i+1):=by rw[gK qp]
  rw[dY,bY]at hu;have hm:l[i]∈l:=AT qp;have eN:=zBN hm;have jN:=YP hf hm;have ix:=λ(s:List ab)=>Ym s bq false false 14 l .i64 i qp;generalize l[i]=x at hu eN jN ix;have qw:=G3 x;rename_i hd8;obtain⟨h16,h8⟩:=hd8;have hw:BY.wrap (d + 1)=d + 1:=bw (by omega) (by omega);rw[Xez]at hu;have p0:=gY x;have p1:=oE x;have p6:=BL x;have p12:=CE x;have p13:=CW x;have lk:=YcG m x.name [];have hUx:=hU x.name true;refine Za (ix _) (a_ (c209 x jN) g198.ok (ag ?_));repeat' (first
   |refine vV ?_
   |refine a_ (c210 _) g199.ok ?_
   |refine a_ (c211 _ t x.n _ _ (Yez x) (zn jN)) g200.ok ?_
   |refine a_ (c212 _) g201.ok ?_
   |refine a_ (c213 m cs hU t x.c _ _ (Zez x) (Z8 jN)) g202.ok ?_
   | (rw[hw];first
    |refine a_ (wc m cs hU t k x.bQ (d+1) (by omega) (ZP jN) (by omega)) g169.ok ?_
    | refine a_ (wc m cs hU t k x.bV (d + 1) (by omega) (QO jN) (by omega)) g169.ok ?_)
   |(refine Bg (λh e=>?_) (λh e=>?_)<;>first|(exfalso;omega)|(try rw[e]))
   |refine uV (λh=>?_) (λh=>?_)<;>try (exfalso;omega)
   |refine od (λh=>?_) (λh=>?_)<;>(try rw[h])
   | refine Ya (λh=>?_) (λh=>?_)) <;> (refine ag ?_)
  all_goals first
   |(rw[Xc (n:=i) (by omega)];refine bj (i+1) _ _ (by omega) ⟨rfl,rfl,by omega,?_⟩;grind [rH])
   |grind [rH]
theorem c157(m:List (Tx×Bool))(cs:List Cd)(hU:n9 m cs)(t:Bool)(l:List Ef)(d:Int)(hf:bF l=true)(hd:0<=d):PC 169 [.aq (zH m t) 0,gZ l,iv d] (.bool (bE cs t d l)):=wc m cs hU t _ l d (No _) hf hd
theorem JM(F:Prop){R G:Prop}(imp:(F→R)→G)(r:F→R):G:=imp r
theorem c221(m:List (Tx×Bool))(cs:List Cd)(hU:n9 m cs)(c:Cd)(hf:iz c=true)
 (h223:PC 167 [.str c.name] (.bool (eD c.name)))(h124:PC 168 [.agg (cN c)] (iv (pr c))) :
  PC 120 [.aq (cN c) 0,.fN (jv m)] (.bool (eI cs c)):=by
 simp only[iz,AI,fD]at hf;obtain⟨f0,f1,f2,f3⟩:=hf;have bad:eI cs c=false→aa.bool false=aa.bool (eI cs c):=λh=>by rw[h]
 refine Xa hP g120.ok rfl rfl ?_;rw[H2.e];unfold g120;dsimp only;refine ay (YL 7 (Yl ?_));refine ay (XL rfl rfl (Ya (λh=>bad ?_) (λb1=>Za rfl ?_)))
 ·have:cm c.cost=false:=by
   rw[zBH];intro hh;simp[cm]at hh;simp at h;omega
  simp[eI,this]
 have b1:0<=c.cost∧c.cost<=999:=by simp at b1;omega
 refine Yl (ay (XL rfl rfl (Ya (λh=>bad ?_) (λb2=>Za rfl ?_))))
 ·have:cm c.dL=false:=by
   rw[zBH];intro hh;simp[cm]at hh;simp at h;omega
  simp[eI,this]
 have b2:0<=c.dL∧c.dL<=999:=by simp at b2;omega
 refine Yl (ay (XL rfl rfl (Ya (λh=>bad ?_) (λb3=>Za rfl ?_))))
 ·have:cm c.bL=false:=by
   rw[zBH];intro hh;simp[cm]at hh;simp at h;omega
  simp[eI,this]
 have b3:0<=c.bL∧c.bL<=999:=by simp at b3;omega
 refine Yl (ay (XL rfl rfl (Ya (λh=>bad ?_) (λb4=>Za rfl ?_))))
 ·have:cm c.dq=false:=by
   rw[zBH];intro hh;simp[cm]at hh;simp at h;omega
  simp[eI,this]
 have b4:0<=c.dq∧c.dq<=999:=by simp at b4;omega
 refine Yl (ay (XL rfl rfl (Ya (λh=>bad ?_) (λb5=>Za rfl ?_))))
 ·have:cm c.eU=false:=by
   rw[zBH];intro hh;simp[cm]at hh;simp at h;omega
  simp[eI,this]
 have b5:0<=c.eU∧c.eU<=999:=by simp at b5;omega
 refine Yl (ay (XL rfl rfl (Ya (λh=>bad ?_) (λb6=>Za rfl ?_))))
 ·have:cm c.dU=false:=by
   rw[zBH];intro hh;simp[cm]at hh;simp at h;omega
  simp[eI,this]
 have b6:0<=c.dU∧c.dU<=999:=by simp at b6;omega
 refine Yl (Za rfl (Xe ?_));have bR:eI cs c=(eD c.name&&(decide (pr c<=200)&&(jh c&&(bE cs true 1 c.de&&(bE cs false 1 c.dead&&bE cs false 1 c.cM))))):=by
  have e1:cm c.cost=true:=by simp[cm];omega
  have e2:cm c.dL=true:=by simp[cm];omega
  have e3:cm c.bL=true:=by simp[cm];omega
  have e4:cm c.dq=true:=by simp[cm];omega
  have e5:cm c.eU=true:=by simp[cm];omega
  have e6:cm c.dU=true:=by simp[cm];omega
  simp only[eI,e1,e2,e3,e4,e5,e6,zAH];generalize decide (pr c<=200)=w;cases w<;>simp
 rw[bR]at bad ⊢;clear bR;refine ay (a_ h223 g167.ok (Za rfl (Qg λk33 Aa=>?_)));have yS:(eD c.name&&(decide (pr c<=200)&&(jh c&&(bE cs true 1 c.de&&(bE cs false 1 c.dead&&bE cs false 1 c.cM)))))=false→k33 [.bool true] []:=by
  intro h;rw[Aa];exact Xh (bad h)
 have sU:eD c.name=true→pr c<=200→(c.unit=true→1<=c.bL)→k33 [.bool false] []:=by
  intro n1 n2 n3;rw[Aa];clear Aa yS k33;rw[n1,eX n2,zAH,zAH]at bad ⊢;refine ay ?_;apply JM (jh c=true)
  ·intro hR;cases hu:c.unit with
   |true=>
    repeat first|refine Qa ?_|refine Qp ?_|refine Qc rfl ?_|refine Qx rfl ?_|refine QU rfl ?_|refine ZY rfl ?_|refine Za (bB (row:=cN c) rfl) ?_|refine Za rfl ?_
    refine Xe (hR ?_);simp[jh,hu,n3 hu]
   |false=>
    repeat first|refine Qa ?_|refine Qp ?_|refine Qc rfl ?_|refine Qx rfl ?_|refine QU rfl ?_|refine ZY rfl ?_|refine Za (bB (row:=cN c) rfl) ?_|refine Za rfl ?_
    rw[bw (n:=c.dL+c.bL) (by omega) (by omega),bw (n:=c.dL+c.bL+c.dq) (by omega) (by omega),bw (n:=c.dL+c.bL+c.dq+c.eU) (by omega) (by omega),bw (n:=c.dL+c.bL+c.dq+c.eU+c.dU) (by omega) (by omega)];rcases cD (decide (c.dL+c.bL+c.dq+c.eU+c.dU>0))with h|h
    ·rw[h];repeat first|refine Qa ?_|refine Qp ?_|refine Qc rfl ?_|refine Qx rfl ?_|refine QU rfl ?_|refine ZY rfl ?_|refine Za (bB (row:=cN c) rfl) ?_|refine Za rfl ?_
     refine Xh (bad ?_);have h:¬(c.dL+c.bL+c.dq+c.eU+c.dU<=0):=by simp at h;omega
     simp[jh,hu,h]
    rw[h];repeat first|refine Qa ?_|refine Qp ?_|refine Za (bB (row:=cN c) rfl) ?_|refine Za rfl ?_
    have h:(c.dL+c.bL+c.dq+c.eU+c.dU<=0):=by simp at h;omega
    have l1:=ZC f2;have l2:=ZC f3;rw[c9]at l1 l2;rw[zAM,zAM,bw (n:=(c.dead.length:Int)+(c.cM.length:Int)) (by omega) (by omega)];refine Ya (λh2=>bad ?_) (λh2=>hR ?_)
    ·have h2:¬(c.dead.length+c.cM.length=0):=by simp at h2;omega
     have:jh c=false:=by rw[jh,hu,gB h2];simp
     simp[this]
    ·have h2:(c.dead.length+c.cM.length=0):=by simp at h2;omega
     rw[jh,hu,eX h2,eX h];rfl
  intro b7;rw[b7,zAH];refine ay (ZH (c157 m cs hU true c.de 1 f1 (by omega)) rfl g169.ok.plain rfl rfl (Za rfl (Ya (λp1=>?_) (λp1=>?_))))
  ·have p1:bE cs true 1 c.de=false:=by simpa using p1
   rw[p1];rfl
  have p1:bE cs true 1 c.de=true:=by simpa using p1
  rw[p1,zAH];refine ay (ZH (c157 m cs hU false c.dead 1 f2 (by omega)) rfl g169.ok.plain rfl rfl ?_);rcases cD (bE cs false 1 c.dead)with p2|p2
  rotate_left
  ·rw[p2];refine ay ?_;rfl
  rw[p2];refine ay ?_;refine ZH (c157 m cs hU false c.cM 1 f3 (by omega)) rfl g169.ok.plain rfl rfl ?_;refine ay ?_;rfl
 clear Aa bad;refine Ya (λn1=>?_) (λn1=>?_)
 ·rw[n1];refine yS ?_;have n1:eD c.name=false:=by simpa using n1
  rw[n1];rfl
 have n1:eD c.name=true:=by simpa using n1
 refine Za rfl (Za (bB (qg c)) ?_);refine a_ h124 g168.ok (Za rfl (Ya (λn2=>?_) (λn2=>?_)))
 ·rw[n2];refine yS ?_;have n2:¬pr c<=200:=by simp at n2;omega
  rw[gB n2];simp
 have n2:pr c<=200:=by simp at n2;omega
 refine ay ?_;cases hu:c.unit with
 |false=>
  exact ay (sU n1 n2 (λh=>by rw[hu]at h;cases h))
 |true=>
  refine ay ?_;rcases cD (decide (c.bL<1))with h|h
  ·rw[h];refine yS ?_;have:jh c=false:=by simp at h;simp[jh,hu];omega
   rw[this];simp
  ·rw[h];exact sU n1 n2 (λ_=>by simp at h;omega)
def lT(t:Tx)(v:Bool):List (Tx×Bool)→List (Tx×Bool)
 |[]=>[(t,v)]
 |p::l=>if t==p.1 then (t,v)::l else p::lT t v l
theorem ZcB(t:Tx)(v:Bool):∀l,oi (.str t) (.bool v) (jv l)=some (jv (lT t v l))
 |[]=>rfl
 |p::l=>by
  simp only[jv,zAN,oi,jJ,lT];cases h:t==p.1 with
  |true=>rfl
  |false=>
   have:=ZcB t v l;simp only[jv]at this;simp only[this];rfl
theorem X5(t n:Tx)(v:Bool):∀l,cy t (lT n v l)=if t==n then some v else cy t l
 |[]=>by simp[lT,cy]
 |p::l=>by
  simp only[lT];by_cases h:n==p.1
  ·simp_all [cy]
  ·rw[aB h,cy,cy,X5 t n v l]
   grind
theorem N0:∀l,vr (jv l)=true
 |[]=>rfl
 |p::l=>by
  have:=N0 l;simp only[jv]at this;simp[jv,vr,aa.ro,this]
variable{l m:List (Tx×Bool)}
theorem Qdc(h:ai σ b=.map (jv l))(row:List aa)(j:Nat):Xy σ 1000 [.aq row j,.map b]=some ([.aq row j,.fN (jv l)],[b]):=by
 simp_all [Xy,N0]
theorem Zdo(h:ai σ b=.map (jv l))(t:Tx):Qy true true (.bool false) [.map b,.str t] σ=.ok (.bp [.bool ((cy t l).getD false),.bool (cy t l).isSome]) [b] []:=by
 simp only[Qy,zw,mapOf,h,I8,cond_true];cases cy t l<;>rfl
theorem RE(h:ai σ b=.map (jv l))(t:Tx):Qy true false (.bool false) [.map b,.str t] σ=.ok (.bool ((cy t l).getD false)) [b] []:=by
 simp only[Qy,zw,mapOf,h,I8,cond_true];cases cy t l<;>rfl
theorem Hd(h:ai σ b=.map (jv l))(t:Tx)(v:Bool):YH true [.map b,.str t,.bool v] σ=.ok .aQ [] [(b,.map (jv (lT t v l)))]:=by
 simp_all [YH,zw,ZcB]
def lf:List Cd→Tx→Option Bool
 |[],_=>none
 |c::l,t=>if c.name==t then some c.unit else lf l t
theorem Ydq:∀ (l:List Cd) (t:Tx) (u:Bool),ej l t u=(match lf l t with
 |none=>false
 | some b=>b || !u)
 |[],_,_=>rfl
 |c::l,t,u=>by
  simp only[ej,lf];by_cases h:c.name==t<;>simp_all [Ydq]
theorem PU:∀ (l:List Cd) (c:Cd) (t:Tx),lf (l ++ [c]) t=(match lf l t with
 |some b=>some b
 | none=>if c.name == t then some c.unit else none)
 |[],_,_=>rfl
 |d::l,c,t=>by
  simp only[zAJ,lf];by_cases h:d.name==t<;>simp_all [PU]
def ig(m:List (Tx×Bool))(l:List Cd):Prop:=∀t,cy t m=lf l t
theorem ig.af{l:List Cd}(h:ig m l):n9 m l:=by
 intro t u;rw[Ydq,h t]<;>cases lf l t<;>rfl
theorem ig.fS{l:List Cd}(h:ig m l){c:Cd}(hc:(cy c.name m).isSome=true):ig m (l++[c]):=by
 intro t;rw[PU,←h t]
 grind
theorem ig.new{l:List Cd}(h:ig m l){c:Cd}(hc:(cy c.name m).isSome=false):ig (lT c.name c.unit m) (l++[c]):=by
 intro t;rw[PU,←h t,X5]
 grind
def Seen(m:List (Tx×Bool))(l:List Cd):Prop:=∀t,(cy t m).getD false=l.any λd=>d.name==t
theorem Seen.put{l:List Cd}(h:Seen m l)(c:Cd):Seen (lT c.name true m) (l++[c]):=by
 intro t;rw[X5,List.any_append,←h t]
 grind
theorem Zd(x:ab)(h:b<σ.length):ai (σ.set b x) b=x:=Yq (by simp[h])
theorem c180(cs:List Cd)(hf:QG cs=true)(h221:∀m,n9 m cs→∀c∈cs,PC 120 [.aq (cN c) 0,.fN (jv m)] (.bool (eI cs c))) :
  PC 78 [iM cs] (.agg [iv (cH cs).1,iv (cH cs).2]):=by
 simp only[QG,AI,fD]at hf;obtain⟨f0,f1⟩:=hf;rw[c9]at f0;refine Xa hP g78.ok rfl rfl ?_;rw[H1.e];unfold g78;dsimp only;refine Yd rfl rfl (Za rfl (Za rfl ?_));refine Ya (λh=>?_) (λh=>?_)
 ·have h:240<cs.length:=by simp at h;omega
  refine Za rfl (Yd rfl rfl (Zp rfl ?_));rw[cH,aI h]
 have h:¬240<cs.length:=by simp at h;omega
 rw[cH,aB h];refine Yd rfl rfl (Za rfl ?_);refine Xg (ι:=Nat) (λi vs σ=>∃m,vs=[iv i]∧ai σ 0=.box [iv 0,iv 0]∧ai σ 1=.map (jv m)∧1<σ.length∧i<=cs.length∧ig m (cs.take i)) (λi=>cs.length-i) 0 ⟨[],rfl,rfl,rfl,by simp,by omega,λt=>by simp[cy,lf]⟩ ?_;rintro i vs σ again ⟨m,rfl,hz,hm,jr,hi,hu⟩ bj;refine Za rfl (Ya (λh=>?_) (λh=>?_))
 ·have qp:i<cs.length:=by simpa using h
  have cB:=λ(s:List ab)=>Ym s cN false false 12 cs .i64 i qp;have lq:cs.take (i+1)=cs.take i++[cs[i]]:=Yu cs i qp;generalize cs[i]=c at cB lq;refine Qg λk10 rR=>?_;have kk:∀m' σ',ig m' (cs.take i++[c])→ai σ' 0=.box [iv 0,iv 0]→ai σ' 1=.map (jv m')→1<σ'.length→k10 [] σ':=by
   intro m' σ' q1 q2 q3 q4;rw[rR];refine Za (Xj ..) ?_;rw[Xc (n:=i) (by omega)]
   grind
  clear rR bj;refine Za (cB _) (Za (bB (qg _)) (Zv (row:=cN c) (row':=cN c) rfl rfl rfl ?_));have dM:=Yc σ (ab.box (cN c));have tE:ai (σ++[ab.box (cN c)]) 0=.box [iv 0,iv 0]:=Qb _ hz;have nM:ai (σ++[ab.box (cN c)]) 1=.map (jv m):=Qb _ hm;have ml:1<(σ++[ab.box (cN c)]).length:=by simp;omega
  generalize σ++[ab.box (cN c)]=base at dM tE nM ml ⊢;generalize σ.length=b at dM ⊢;refine Za rfl (Za (ld dM rfl) (Za (Zdo nM _) (Za rfl (Za rfl (Za rfl ?_)))));refine Ya (λh=>?_) (λh=>?_)
  ·have h:(cy c.name m).isSome=false:=by simpa using h
   refine Za rfl (Za (ld dM rfl) (Za rfl (Za (ld dM rfl) (Yd (Hd nM _ _) (Ze _ ml) ?_))));exact kk _ _ (hu.new h) (Yb tE (by simp) (by omega)) (Zd _ ml) (by simpa using ml)
  ·have h:(cy c.name m).isSome=true:=by simpa using h
   exact kk _ _ (hu.fS h) tE nM ml
 have h:i=cs.length:=by simp at h;omega
 subst h;rw[zAl]at hu;have lL:=h221 m hu.af;clear bj hu h221;refine Yd rfl (Ye _ _) (Za rfl ?_);have tE:ai (σ++[ab.map []]) 0=.box [iv 0,iv 0]:=Qb _ hz;have nM:ai (σ++[ab.map []]) 1=.map (jv m):=Qb _ hm;have Px:ai (σ++[ab.map []]) σ.length=.map (jv []):=Yc _ _;have ml:σ.length<(σ++[ab.map []]).length:=by simp
 generalize σ++[ab.map []]=base at tE nM Px ml ⊢;generalize σ.length=b at Px ml jr ⊢;refine Xg (ι:=Nat) (λi vs s=>∃m2,vs=[iv i]∧ai s 0=.box [iv 0,iv 0]∧ai s 1=.map (jv m)∧ai s b=.map (jv m2)∧b<s.length∧i<=cs.length∧Seen m2 (cs.take i)∧dI cs [] cs=dI cs (cs.take i) (cs.drop i)) (λi=>cs.length-i) 0 ⟨[],rfl,tE,nM,Px,ml,by omega,λt=>by simp[cy],by simp⟩ ?_;clear tE nM Px ml base hz hm σ;rintro i vs s again ⟨m2,rfl,hz,hm,hs,hl,hi,B7,hu⟩ bj;refine Za rfl (Ya (λh=>?_) (λh=>?_));rotate_left
 ·have h:i=cs.length:=by simp at h;omega
  subst h;rw[zAD,dI]at hu;refine Za rfl (Yd (c8 hz rfl rfl rfl) (Ze _ (by show 0<s.length;omega)) (Zp (Yr (by show 0<s.length;omega) rfl) ?_));rw[hu]
 have qp:i<cs.length:=by simpa using h
 have dY:cs.drop i=cs[i]::cs.drop (i+1):=by rw[gK qp]
 have cB:=λ(s:List ab)=>Ym s cN false false 12 cs .i64 i qp;have lq:cs.take (i+1)=cs.take i++[cs[i]]:=Yu cs i qp;have K0:=lL _ (AT qp);generalize cs[i]=c at cB lq dY K0;rw[dY,dI,←B7 c.name]at hu;refine Za (cB _) (Za rfl (Za rfl (Za (bB (oq _)) (Za (RE hs _) ?_))));refine Ya (λh=>?_) (λh=>?_)
 ·rw[aI h]at hu;refine Za rfl (Za rfl (Za (bB (O0 _)) (Za rfl (Yd (c8 hz rfl rfl rfl) (Ze _ (by show 0<s.length;omega)) (Zp (Yr (by show 0<s.length;omega) rfl) ?_)))));rw[hu]
 rw[aB (by rw[h];simp)]at hu;refine ZH K0 rfl g120.ok.plain (Qdc hm _ _) rfl (Za rfl (Ya (λh=>?_) (λh=>?_)))
 ·have h:eI cs c=false:=by simpa using h
  rw[h]at hu
  replace hu:dI cs [] cs=(130,c.pl):=hu
  refine Za rfl (Za rfl (Za (bB (O0 _)) (Za rfl (Yd (c8 hz rfl rfl rfl) (Ze _ (by show 0<s.length;omega)) (Zp (Yr (by show 0<s.length;omega) rfl) ?_)))));rw[hu]
 ·have h:eI cs c=true:=by simpa using h
  rw[h,aI rfl]at hu;refine Za rfl (Za rfl (Za (bB (oq _)) (Yd (Hd hs _ _) (Ze _ hl) (Za (Xj ..) ?_))));rw[Xc (n:=i) (by omega)];refine bj (i+1) _ _ (by omega) ⟨_,rfl,?_,?_,Zd _ hl,by simpa using hl,by omega,by rw[lq];exact B7.put c,by rw[lq];exact hu⟩
  ·exact Yb hz (by simp) (by omega)
  ·exact Yb hm (by simp) (by omega)
end Go.Ah.Tz
end
section
namespace Go.Ah
inductive GT:Type 1 where
 |leaf
 |node (k np:Nat) (g:gU) (l r:GT)
def GT.get:GT→Nat→Option (Nat×gU)
 |.leaf,_=>none
 |.node k np g l r,f=>match IT f k with
  |true=>some (np,g)
  |false=>match zAn f k with
   |true=>l.get f
   |false=>r.get f
def GT.Ok(P:Program)(GL:aw):GT→Prop
 |.leaf=>True
 |.node k np g l r=>mM P GL k np g∧l.Ok P GL∧r.Ok P GL
theorem GT.ql{P:Program}{GL:aw}:∀ {t:GT},t.Ok P GL→∀f np g,t.get f=some (np,g)→mM P GL f np g
 |.leaf,_,f,np,g,h=>by simp only[GT.get]at h;cases h
 |.node k np' g' l r,ok,f,np,g,h=>by
  unfold GT.get at h;obtain⟨o1,o2,o3⟩:=ok;split at h
  ·rename_i hb;have:=fY hb;subst this;cases h;exact o1
  ·split at h
   ·exact GT.ql o2 f np g h
   ·exact GT.ql o3 f np g h
end Go.Ah
end
section
namespace Go.Ah.Tz
open Go.Proofs.Tryz (prog)
set_option maxRecDepth 100000
noncomputable def tb:GT:=(.node 241 2 g241.u (.node 239 2 g239.u (.node 234 1 g234.u .leaf .leaf) (.node 240 1 g240.u .leaf .leaf)) (.node 243 2 g243.u (.node 242 2 g242.u .leaf .leaf) .leaf))
theorem MS:tb.Ok prog aG:=⟨g241.ok,⟨g239.ok,⟨g234.ok,trivial,trivial⟩,⟨g240.ok,trivial,trivial⟩⟩,⟨g243.ok,⟨g242.ok,trivial,trivial⟩,trivial⟩⟩
set_option maxRecDepth 1000000
theorem hTm:∀f np g,tb.get f=some (np,g)→GQ f np g:=GT.ql MS
def LZ:Tx:=[99,97,114,100,32,117,110,105,116,32,99,104,97,114,109,32,102,111,114,109,97,116,32,112,108,97,121,101,100,32,100,101,97,100,32,100,97,119,110,32,97,117,114,97,32,115,104,105,101,108,100,32,104,97,114,109,32,109,101,110,100,32,100,114,97,119,32,103,97,105,110,32,100,114,111,112,32,108,111,111,107,32,115,104,111,119,32,115,117,109,109,111,110,32,105,102,32,101,108,115,101,32,109,101,32,102,111,101,32,116,97,114,103,101,116,32,108,105,102,101,32,104,97,110,100,32,100,101,99,107,32,117,110,105,116,115,32,109,97,110,97,32,99,111,115,116,32,116,111,112,32,112,111,119,101,114,32,109,105,110,32,109,97,120,32,110,111,116,32,97,110,100,32,111,114,32,104,111,108,100,115,32,108,101,97,115,116,32,109,111,115,116,32,99,111,112,105,101,115,32,98,97,110,110,101,100,32,115,105,110,103,108,101]
theorem p264:PC 234 [.str LZ] (.aW true false 1 (jZ.map vw)):=ZcD hP hTm (much:=1000000000) 60 (by kernel_rfl)
def sr:List (Tx×Bool):=jZ.foldl (λm k=>lT k true m) []
theorem ZbP(t:Tx):∀(l:List Tx) (m:List (Tx×Bool)),(cy t (l.foldl (λm k=>lT k true m) m)).getD false=((cy t m).getD false||kL l t)
 |[],m=>by simp[kL]
 |k::l,m=>by
  rw[List.foldl_cons,ZbP t l,X5,kL];by_cases h:t==k
  ·have e:t=k:=by simpa using h
   subst e;simp
  ·have h2:(k==t)=false:=by
    rw[zBH];intro q;apply h;simp at q;simp[q]
   rw[aB h,h2,zCR]
theorem Qek(t:Tx):(cy t sr).getD false=kL jZ t:=by
 rw[sr,ZbP];rfl
attribute [local irreducible] aE.rd aE.pu aE.wr aE.dr aE.gr aE.gw aE.gl aE.gd aE.opt cP W
theorem c258:PC 219 [] (.fN (jv sr)):=by
 refine SG hP g219.ok rfl ⟨.map 0,[.map (jv sr)],?_,?_⟩
 ·show (match Xy [.map (jv sr)] (998 + 1 + 1) [.map 0]with
   |some ([y],_)=>some y
   | _=>none)=_
  have:ai [ab.map (jv sr)] 0=.map (jv sr):=rfl;simp only[Xy,this,N0,cond_true]
 unfold g219;dsimp only[H0.u];refine Yd rfl rfl (a_ p264 g234.ok (Za rfl ?_));have hlen:jZ.length=41:=rfl;unfold sr;generalize jZ=l at hlen ⊢;refine Xg (ι:=Nat) (λi vs σ=>∃m,vs=[iv i]∧σ=[.map (jv m)]∧i<=l.length∧l.foldl (λm k=>lT k true m) []=(l.drop i).foldl (λm k=>lT k true m) m) (λi=>l.length-i) 0 ⟨[],rfl,rfl,by omega,by simp⟩ ?_;rintro i vs σ again ⟨m,rfl,rfl,hi,hu⟩ bj;refine Za rfl (Ya (λh=>?_) (λh=>?_))
 ·have h:i<l.length:=by simpa using h
  have dY:l.drop i=l[i]::l.drop (i+1):=by rw[gK h]
  rw[dY,List.foldl_cons]at hu;refine Za (Ym _ vw _ _ _ l .i64 i h) (Za (bB (yl _)) (Yd (Hd (b:=0) rfl _ _) rfl (Za (Xj ..) ?_)));rw[Xc (n:=i) (by omega)];exact bj (i+1) _ _ (by omega) ⟨_,rfl,rfl,by omega,hu⟩
 ·have h:i=l.length:=by simp at h;omega
  subst h;rw[zAD,List.foldl_nil]at hu;rw[hu];exact⟨rfl,rfl⟩
theorem c242(s:Tx):PC 195 [.str s] (.bool (kL jZ s)):=by
 refine Xa hP g195.ok rfl rfl ?_;rw[H1.e];unfold g195;dsimp only;refine a_ c258 g219.ok (Za (YcG ..) ?_);rw[Qek]
theorem c257(x:Int):PC 218 [.int .i32 x] (.bool (jX x)):=by
 refine Xa hP g218.ok rfl rfl ?_;rw[H1.e];unfold g218;dsimp only;refine Za rfl (CD rfl rfl ?_);exact congrArg aa.bool (by rw[zAo];simp[jX])
theorem c256(x:Int):PC 217 [.int .i32 x] (.bool (isLet x)):=by
 refine Xa hP g217.ok rfl rfl ?_;rw[H1.e];unfold g217;dsimp only;refine Za rfl (CD rfl rfl ?_);refine Qg λk1 ni=>?_;have kk:∀c,c=decide ((97<=x∧x<=122)∨(65<=x∧x<=90))→k1 [.bool c] []:=by
  rintro c hc;rw[ni];clear ni k1;refine Ya (λh=>?_) (λh=>?_)
  ·rw[h]at hc;have hc:(97<=x∧x<=122)∨(65<=x∧x<=90):=by simpa using hc.symm
   exact congrArg aa.bool (by rw[eq_comm,isLet,fD];omega)
  rw[h]at hc;have hc:¬((97<=x∧x<=122)∨(65<=x∧x<=90)):=of_decide_eq_false hc.symm;refine Za (Zt ..) (Qg λk1 ni=>?_);have k2:∀c,c=decide (x=215∨x=247)→k1 [.bool c] []:=by
   rintro c kX;rw[ni];clear ni k1;refine Ya (λh=>?_) (λh=>?_)
   ·rw[h]at kX;have kX:x=215∨x=247:=of_decide_eq_true kX.symm;exact congrArg aa.bool (by rw[eq_comm,isLet,s9];omega)
   rw[h]at kX;have kX:¬(x=215∨x=247):=of_decide_eq_false kX.symm;refine Za rfl (CD rfl rfl ?_);exact congrArg aa.bool (by rw[zAo,AI,isLet,fD,fD,fD];omega)
  clear ni;refine Ya (λh=>k2 _ ?_) (λh=>?_)
  ·rw[h];rw[eq_comm,fD];exact zDi (of_decide_eq_true h)
  ·have h:x≠215:=of_decide_eq_false h;refine Za (Zt ..) (k2 _ ?_);rw[zAo,fD,fD];omega
 clear ni;refine Ya (λh=>kk _ ?_) (λh=>?_)
 ·rw[h];rw[eq_comm,fD];simp at h;omega
 ·refine Za rfl (CD rfl rfl (kk _ ?_));rw[zAo,AI,fD,fD,fD];simp at h;omega
theorem oe{p:Nat→Bool}(h:(List.range 256).all p=true){c:Nat}(hc:c<256):p c=true:=zAm.1 h c (List.mem_range.2 hc)
theorem Jm{c:Nat}(hc:c<256):bits .and .i64 (c:Int) 31=((c%32:Nat):Int):=by
 have:=oe (p:=λc=>bits .and .i64 (c:Int) 31==((c%32:Nat):Int)) (by kernel_rfl) hc;simpa using this
theorem Jl{c:Nat}(hc:c<256):bits .and .i64 (c:Int) 15=((c%16:Nat):Int):=by
 have:=oe (p:=λc=>bits .and .i64 (c:Int) 15==((c%16:Nat):Int)) (by kernel_rfl) hc;simpa using this
theorem TJ{c:Nat}(hc:c<256):bits .and .i64 (c:Int) 7=((c%8:Nat):Int):=by
 have:=oe (p:=λc=>bits .and .i64 (c:Int) 7==((c%8:Nat):Int)) (by kernel_rfl) hc;simpa using this
theorem Jn{c:Nat}(hc:c<256):bits .and .u8 (c:Int) 63=((c%64:Nat):Int):=by
 have:=oe (p:=λc=>bits .and .u8 (c:Int) 63==((c%64:Nat):Int)) (by kernel_rfl) hc;simpa using this
theorem CZ{c:Nat}(hc:c<256):(bits .and .u8 (c:Int) 192 != 128) = !(c/64==2):=by
 have:=oe (p:=λc=>(bits .and .u8 (c:Int) 192 != 128) == !(c/64==2)) (by kernel_rfl) hc;simpa using this
theorem ZdY(c:UInt8):ss c = !(c.toNat/64==2):=CZ c.toNat_lt
theorem Wd(q y:Nat)(hq:q<1099511627776)(hy:y<64):bits .or .i64 ((q*64:Nat):Int) (y:Int)=((q*64+y:Nat):Int):=by
 have h1:(zCu 64 ((q*64:Nat):Int)).toNat=q*64:=by
  rw[zDn];omega
 have h2:(zCu 64 (y:Int)).toNat=y:=by
  rw[zDn];omega
 have h3:q*64 ||| y=q*64+y:=by
  have:=Nat.two_pow_add_eq_or_of_lt (i:=6) (b:=y) (by omega) q;rw[show 2 ^ 6*q=q*64 by omega]at this;exact this.symm
 show BY.wrap (((zCu 64 ((q*64:Nat):Int)) ||| (zCu 64 (y:Int))).toNat:Int)=_;rw[BitVec.toNat_or,h1,h2,h3];exact bw (by omega) (by omega)
theorem XdY(x:Nat)(hx:x<1099511627776)(c:UInt8):uM (x:Int) c=((x*64+c.toNat%64:Nat):Int):=by
 have e:Mi (x:Int)=((x*64:Nat):Int):=by
  show BY.wrap ((x:Int)*64)=_;rw[bw (by omega) (by omega)];simp
 rw[uM,e,Jn c.toNat_lt,bw (by omega) (by omega)];exact Wd x _ hx (Nat.mod_lt _ (by omega))
theorem Xdl(s:Tx)(a:Nat)(ha:a<s.length) :
  (((ea s a).2≠0→((zBc ⟨s.toArray⟩ a).1:Int)=(ea s a).1∧(zBc ⟨s.toArray⟩ a).2=(ea s a).2)∧((ea s a).2=0→(zBc ⟨s.toArray⟩ a).1=65533)):=by
 have qV:∀k,((⟨s.toArray⟩:ByteArray).get! (a+k))=(s[a+k]?).getD 0:=by
  intro k;show (s.toArray)[a+k]! = _;simp[List.getElem!_eq_getElem?_getD];rfl
 have eN:(⟨s.toArray⟩:ByteArray).size=s.length:=by simp[ByteArray.size]
 rw[ea,zAP ha];unfold zBc;simp only[qV,eN];have h0:(s[a+0]?).getD 0=s[a]:=by simp[zAP ha]
 rw[h0];have hb:s[a].toNat<256:=s[a].toNat_lt;generalize s[a].toNat=b at hb ⊢;have Pj:∀k,¬a+k<s.length→s[a+k]?=none:=λk h=>by simp;omega
 have ht:∀(i x:Nat),x<1000000→∀m,fM s a (m+1) i (x:Int)=if a+i<s.length∧((s[a+i]?).getD 0).toNat/64=2 then fM s a m (i+1) ((x*64+((s[a+i]?).getD 0).toNat%64:Nat):Int)else none:=by
  intro i x hx m;by_cases h:a+i<s.length
  ·rw[fM,zAP h];simp only[ZdY,Option.getD_some,h,true_and];by_cases h2:s[a+i].toNat/64=2
   ·simp[h2,XdY x (by omega)]
   ·simp[h2]
  ·rw[fM,Pj i h];simp[h]
 have u7:∀k,(decide (a+k<s.length)&&(((s[a+k]?).getD 0).toNat/64==2))=decide (a+k<s.length∧((s[a+k]?).getD 0).toNat/64=2):=by
  intro k;rw[zAo];simp
 simp only[u7];have t1:=λx hx m=>ht 1 x hx m;have t2:=λx hx m=>ht 2 x hx m;have t3:=λx hx m=>ht 3 x hx m;clear ht u7 Pj qV eN h0;generalize ((s[a+1]?).getD 0).toNat=d1 at *;generalize ((s[a+2]?).getD 0).toNat=d2 at *;generalize ((s[a+3]?).getD 0).toNat=d3 at *;by_cases c1:b<128
 ·have hh:eW (b:Int)=some (1,(b:Int),0):=by
   rw[eW,aB (by omega),aB (by omega),aB (by omega),aB (by omega)]
  simp only[hh,aI c1,zCp,fM,ir];rw[aB (by omega)];simp
 rw[aB c1];by_cases c2:b<192
 ·have hh:eW (b:Int)=none:=by
   rw[eW,aB (by omega),aB (by omega),aB (by omega),aI (by omega)]
  simp only[hh];have e1:¬b/32=6:=by omega
  have e2:¬b/16=14:=by omega
  have e3:¬b/8=30:=by omega
  simp[e1,e2,e3,zBK]
 by_cases c3:b<224
 ·have hh:eW (b:Int)=some (2,((b%32:Nat):Int),128):=by
   rw[eW,aI (by omega),Jm hb]
  have e1:b/32=6:=by omega
  have e2:¬b/16=14:=by omega
  have e3:¬b/8=30:=by omega
  simp only[hh];rw[t1 _ (by omega) 0];by_cases p1:a+1<s.length∧d1/64=2
  ·simp only[aI p1,fM,ir,e1,eX p1,beq_self_eq_true,zAw,if_true];by_cases y:b%32*64+d1%64 >= 128
   ·rw[aI y,aB (by omega)];simp
   ·rw[aB y,aI (by omega)];simp[zBK]
  ·simp only[aB p1,ir,gB p1,zBv,zBe,zAW,if_false];simp[zBK]
 by_cases c4:b<240
 ·have hh:eW (b:Int)=some (3,((b%16:Nat):Int),2048):=by
   rw[eW,aB (by omega),aI (by omega),Jl hb]
  have e1:¬b/32=6:=by omega
  have e2:b/16=14:=by omega
  have e3:¬b/8=30:=by omega
  simp only[hh];rw[t1 _ (by omega) 1];have f1:(b/32==6)=false:=by simpa using e1
  by_cases p1:a+1<s.length∧d1/64=2
  ·rw[aI p1,t2 _ (by omega) 0];by_cases p2:a+2<s.length∧d2/64=2
   ·simp only[aI p2,fM,ir,f1,e2,eX p1,eX p2,beq_self_eq_true,zAw,if_true,zBe,zAW,if_false];by_cases y:(b%16*64+d1%64)*64+d2%64<2048∨(55296<=(b%16*64+d1%64)*64+d2%64∧(b%16*64+d1%64)*64+d2%64<=57343)
    ·rw[aI (by omega),aB (by simp[zDL];omega)];simp[zBK]
    ·rw[aB (by omega),aI (by simp[zDL];omega)];simp;omega
   ·simp only[aB p2,ir,f1,gB p2,zBv,zBe,zAW,if_false];simp[zBK]
  ·simp only[aB p1,ir,f1,gB p1,zBv,zBe,zAW,if_false];simp[zBK]
 by_cases c5:b<248
 ·have hh:eW (b:Int)=some (4,((b%8:Nat):Int),65536):=by
   rw[eW,aB (by omega),aB (by omega),aI (by omega),TJ hb]
  have e3:b/8=30:=by omega
  have f1:(b/32==6)=false:=by simp;omega
  have f2:(b/16==14)=false:=by simp;omega
  simp only[hh];rw[t1 _ (by omega) 2];by_cases p1:a+1<s.length∧d1/64=2
  ·rw[aI p1,t2 _ (by omega) 1];by_cases p2:a+2<s.length∧d2/64=2
   ·rw[aI p2,t3 _ (by omega) 0];by_cases p3:a+3<s.length∧d3/64=2
    ·simp only[aI p3,fM,ir,f1,f2,e3,eX p1,eX p2,eX p3,beq_self_eq_true,zAw,if_true,zBe,zAW,if_false];by_cases y:((b%8*64+d1%64)*64+d2%64)*64+d3%64<65536∨1114111<((b%8*64+d1%64)*64+d2%64)*64+d3%64
     ·rw[aI (by omega),aB (by simp[zDL];omega)];simp[zBK]
     ·rw[aB (by omega),aI (by simp[zDL];omega)];simp;omega
    ·simp only[aB p3,ir,f1,f2,gB p3,zBv,zBe,zAW,if_false];simp[zBK]
   ·simp only[aB p2,ir,f1,f2,gB p2,zBv,zBe,zAW,if_false];simp[zBK]
  ·simp only[aB p1,ir,f1,f2,gB p1,zBv,zBe,zAW,if_false];simp[zBK]
 ·have hh:eW (b:Int)=none:=by
   rw[eW,aB (by omega),aB (by omega),aB (by omega),aI (by omega)]
  simp only[hh];have e1:¬b/32=6:=by omega
  have e2:¬b/16=14:=by omega
  have e3:¬b/8=30:=by omega
  simp[e1,e2,e3,zBK]
theorem YcO(s:Tx)(a:Nat):∀(m i:Nat) (x y:Int),fM s a (m+1) i x=some y→a+i+m<s.length
 |m,i,x,y,h=>by
  rw[fM]at h;cases e:s[a+i]? with
  |none=>rw[e]at h;cases h
  |some c=>
   have hl:a+i<s.length:=(gE e).1;rw[e]at h;cases m with
   |zero=>omega
   |succ m=>
    have h2:(if ss c=true then none else fM s a (m+1) (i+1) (uM x c))=some y:=h;split at h2
    ·cases h2
    ·have:=YcO s a m (i+1) _ _ h2;omega
theorem QdY(s:Tx)(a:Nat)(ha:a<s.length)(h:(ea s a).2≠0):a+(ea s a).2<=s.length:=by
 unfold ea at h ⊢;rw[zAP ha]at h ⊢;simp only at h ⊢;cases e:eW (s[a].toNat:Int)with
 |none=>rw[e]at h;simp at h
 |some p=>
  obtain⟨n,x,least⟩:=p;rw[e]at h;simp only at h ⊢;cases e2:fM s a (n-1) 1 x with
  |none=>rw[e2]at h;simp[ir]at h
  |some y=>
   rw[e2]at h;have h3:(ir n least (some y)).2<=n:=by rw[ir];split<;>simp
   by_cases hn:n<=1
   ·omega
   ·have:=YcO s a (n-2) 1 x y (by rw[show n-2+1=n-1 by omega];exact e2);omega
set_option maxHeartbeats 1000000
theorem Qey{s:Tx}{a:Nat}(h:a<s.length):Im [.iter 0] [.fz s a]=.ok (.bp [.bool true,iv a,.int .i32 (zBc ⟨s.toArray⟩ a).1]) [] [(0,.fz s (a+(zBc ⟨s.toArray⟩ a).2))]:=by
 have hb:zAn a s.length=true:=by simpa[Nat.blt_eq]using h
 show (bif zAn a s.length then _ else _)=_;rw[hb];rfl
theorem Yeg{s:Tx}{a:Nat}(h:¬a<s.length):Im [.iter 0] [.fz s a]=.ok (.bp [.bool false]) [0] []:=by
 have hb:zAn a s.length=false:=by rw[zBH];intro q;exact h (by simpa[Nat.blt_eq]using q)
 show (bif zAn a s.length then _ else _)=_;rw[hb];rfl
theorem c241(s:Tx)(hs:s.length<=gy):PC 194 [.str s] (.bp [iv (eu s 0 0).1,iv (eu s 0 0).2]):=by
 rw[c9]at hs;refine Xa hP g194.ok rfl rfl ?_;rw[H1.e];unfold g194;dsimp only;refine Yd rfl rfl (Xg (ι:=Nat) (λa vs σ=>∃n:Nat,vs=[iv n]∧σ=[.fz s a]∧n<=a∧(a=0↔n=0)∧a<=s.length∧eu s 0 0=eu s a n) (λa=>s.length-a) 0 ⟨0,rfl,rfl,by omega,by simp,by omega,rfl⟩ ?_);rintro a vs σ again ⟨n,rfl,rfl,i1,i0,i2,hu⟩ bj;by_cases h:a<s.length;rotate_left
 ·refine Yd (Yeg h) rfl (Za rfl (Xe (Za rfl ?_)));rw[show eu s a n=(a,n) by rw[eu,dif_neg h]]at hu;rw[hu,show s.length=a by omega];rfl
 refine Yd (Qey h) rfl (Za rfl (Xh (Za rfl (Za rfl ?_))));obtain⟨d1,d2⟩:=Xdl s a h;have dc:=QdY s a h;generalize zBc ⟨s.toArray⟩ a=p at d1 d2 ⊢;have ic:Bb s a n↔(isLet (p.1:Int)=false∧(a=0∨(jX (p.1:Int)=false∧(p.1:Int)≠39))):=by
  unfold Bb;by_cases h0:(ea s a).2=0
  ·have:=d2 h0;rw[this];have e1:isLet 65533=false:=by decide
   have e2:jX 65533=false:=by decide
   simp[h0,e1,e2]
  ·rw[(d1 h0).1];simp[h0,i0]
 have Cs:(isLet (p.1:Int)=false∧(a=0∨(jX (p.1:Int)=false∧(p.1:Int)≠39)))→aa.bp [iv a,iv n]=aa.bp [iv (eu s 0 0).1,iv (eu s 0 0).2]:=by
  intro q;rw[hu,eu,dif_pos h,dif_pos (ic.2 q)]
 have go:¬(isLet (p.1:Int)=false∧(a=0∨(jX (p.1:Int)=false∧(p.1:Int)≠39)))→VV.rd (Zn .add false [iv n,(.int .i64 1)] [.fz s (a+p.2)]) λt31=>again [t31] [.fz s (a+p.2)]:=by
  intro q;have q2:¬Bb s a n:=λz=>q (ic.1 z);have h0:(ea s a).2≠0:=λe=>q2 (zDi e);have:=(d1 h0).2;have:=dc h0;refine Za (Xj ..) ?_;rw[Xc (n:=n) (by omega)];refine bj (a+p.2) _ _ (by omega) ⟨n+1,rfl,rfl,by omega,by omega,by omega,?_⟩;rw[hu,eu,dif_pos h,dif_neg q2,(d1 h0).2]
 clear bj hu ic d1 d2 dc;generalize (p.1:Int)=r at Cs go ⊢;refine a_ (c256 r) g217.ok (Za rfl ?_);rcases cD (!isLet r)with h1|h1
 rotate_left
 ·rw[h1];repeat first|refine Qa ?_|refine Qp ?_|refine Qc rfl ?_|refine Qx rfl ?_|refine QU rfl ?_|refine ZY rfl ?_|refine Za rfl ?_
  exact Xe (go (by have h1:isLet r=true:=(by simpa using h1);simp[h1]))
 rw[h1];have h1:isLet r=false:=by simpa using h1
 refine ay ?_;rcases cD ((a:Int)==0)with h2|h2
 ·rw[h2];refine ay ?_;exact Cs ⟨h1,zDi (by simpa using h2)⟩
 rw[h2];have h2:a≠0:=by simpa using h2
 refine ay ?_;refine a_ (c257 r) g218.ok ?_;refine ay ?_;rcases cD (!jX r)with h3|h3
 rotate_left
 ·rw[h3];repeat first|refine Qa ?_|refine Qp ?_|refine Qc rfl ?_|refine Qx rfl ?_|refine QU rfl ?_|refine ZY rfl ?_|refine Za rfl ?_
  exact Xe (go (by have h3:jX r=true:=(by simpa using h3);simp[h2,h3]))
 rw[h3];have h3:jX r=false:=by simpa using h3
 refine ay ?_;refine Ya (λh4=>Cs ⟨h1,Or.inr ⟨h3,by simpa using h4⟩⟩) (λh4=>go ?_);have h4:r=39:=by simpa using h4
 simp[h2,h4]
theorem c223(s:Tx)(hs:s.length<=gy):PC 167 [.str s] (.bool (eD s)):=by
 refine Xa hP g167.ok rfl rfl ?_;rw[H1.e];unfold g167;dsimp only;refine a_ (c241 s hs) g194.ok ?_;unfold eD;generalize (eu s 0 0).1=e;generalize (eu s 0 0).2=n;refine ay ?_;rcases cD (decide ((n:Int)>0))with h1|h1
 rotate_left
 ·rw[h1];refine ay ?_;have h1:¬1<=n:=by simp at h1;omega
  simp[h1]
 rw[h1];refine ay ?_;rcases cD (decide ((n:Int)<=24))with h2|h2
 rotate_left
 ·rw[h2];refine ay ?_;have h2:¬n<=24:=by simp at h2;omega
  simp[h2]
 rw[h2];refine ay ?_;rcases cD ((e:Int)==(s.length:Int))with h3|h3
 rotate_left
 ·rw[h3];refine ay ?_;have h3:¬e=s.length:=by simp at h3;omega
  simp[h3]
 rw[h3];refine ay ?_;have h3:e=s.length:=by simp at h3;omega
 subst h3;rcases cD (decide ((s.length:Int)<=40))with h4|h4
 rotate_left
 ·rw[h4];refine ay ?_;have h4:¬s.length<=40:=by simp at h4;omega
  simp[h4]
 rw[h4];refine ay (a_ (c242 _) g195.ok (ay ?_));have h1:1<=n:=by simp at h1;omega
 have h2:n<=24:=by simp at h2;omega
 have h4:s.length<=40:=by simp at h4;omega
 simp[h1,h2,h4]
theorem Xcb(a:Int):mK a=0∨mK a=1∨mK a=2∨mK a=3:=by unfold mK;split<;>omega
theorem c252(a:Int):PC 230 [aO a] (aO (mK a)):=by
 refine Xa hP g230.ok rfl rfl ?_;rw[H1.e];unfold g230;dsimp only;refine Za rfl (XL rfl rfl ?_);refine Ya (λh=>?_) (λh=>?_)
 ·rw[mK,aI (by simpa using h)]
 ·rw[mK,aB (by simpa using h)]
def LD:aa:=.agg [aO 0,aO 1,aO 2,aO 3,aO 1,aO 1,aO 3,aO 3,aO 2,aO 3,aO 2,aO 3,aO 3,aO 3,aO 3,aO 3]
theorem c263:PC 238 [] LD:=by
 refine Xa hP g238.ok rfl rfl ?_;unfold g238;dsimp only[H0.u];refine Yd rfl rfl (Za rfl (Za rfl (Za rfl (Za rfl (Za rfl (Yd rfl rfl (Zp rfl ?_)))))));rfl
theorem c250(a b:Int):PC 228 [aO a,aO b] (aO (dC a b)):=by
 refine Xa hP g228.ok rfl rfl ?_;rw[H2.e];unfold g228;dsimp only;refine i_ c263 g238.ok (i_ (c252 a) g230.ok ?_);have h1:=Xcb a;have h2:=Xcb b;unfold dC;have k:=c252 b;generalize mK a=p at h1 ⊢;generalize mK b=q at h2 k ⊢;rcases h1 with h1|h1|h1|h1<;>subst h1<;>refine Zi rfl ?_<;>refine i_ k g230.ok ?_<;>rcases h2 with h2|h2|h2|h2<;>subst h2<;>exact Zi rfl (Qv (by kernel_rfl) rfl)
theorem c253(a b:Int):PC 231 [aO a,aO b] (.bool (decide (dC a b=mK b))):=by
 refine Xa hP g231.ok rfl rfl ?_;rw[H2.e];unfold g231;dsimp only;refine a_ (c250 a b) g228.ok (a_ (c252 b) g230.ok (Za (Zt ..) ?_));rfl
theorem W8(b:Int):dC b b=mK b:=by rw[dC,aI (zDi rfl)]
theorem Xek(x:Nm):tH x=if x.op=6 then 3 else if 8<=x.op∧x.op<=12 then jc 0 x.kids else 0:=by
 rw[Zd8];by_cases h:x.op=6
 ·rw[aB (by omega),aI h,aI h]
 ·rw[aB h,aB h]
theorem Br:∀(k:Nat) (x:Nm),zAV x<=k→c7 x=true→PC 229 [.agg (dd x)] (aO (tH x))
 |0,x,h,_=>by cases x;simp at h
 |k+1,x,hk,hf=>by
  rw[QA];refine Xa hP g229.ok rfl rfl ?_;rw[H1.e];unfold g229;dsimp only;refine Yd rfl rfl ?_;rw[Xek];have hlen:=HW hf;rw[c9]at hlen;generalize hB:([]++[ab.box [aO x.op,iv x.n,aO x.who,.aW false false 4 (x.kids.map dd)]]:List ab)=base;have dM:ai base 0=.box [aO x.op,iv x.n,aO x.who,.aW false false 4 (x.kids.map dd)]:=by rw[←hB];rfl
  clear hB;refine Za rfl (Za (ld dM rfl) (Za (Zt ..) ?_));refine Ya (λh=>?_) (λh=>?_)
  ·rw[aI (by simpa using h)]
  rw[aB (by simpa using h)];refine Za rfl (Za (ld dM rfl) (Za rfl ?_));refine GW rfl (ld dM rfl) rfl ?_;rw[show (decide (x.op >= 8)&&decide (x.op<=12))=decide (8<=x.op∧x.op<=12) by simp];refine Ya (λh=>?_) (λh=>?_);rotate_left
  ·rw[aB (by simpa using h)]
  rw[aI (by simpa using h)];refine Za rfl (Za (ld dM rfl) (Za rfl ?_));clear dM;refine Xg (ι:=Nat) (λi vs σ=>∃n,vs=[iv i,aO n]∧i<=x.kids.length∧jc 0 x.kids=jc n (x.kids.drop i)) (λi=>x.kids.length-i) 0 ⟨0,rfl,by omega,by simp⟩ ?_;rintro i vs σ again ⟨n,rfl,hi,hu⟩ bj;refine Za rfl (Ya (λh=>?_) (λh=>?_))
  ·have h:i<x.kids.length:=by simpa using h
   have dY:x.kids.drop i=x.kids[i]::x.kids.drop (i+1):=by rw[gK h]
   rw[dY,jc]at hu;have hm:x.kids[i]∈x.kids:=AT h;have cB:=λ(s:List ab)=>Ym s dd false false 4 x.kids .i64 i h;have eN:=Bf hm;have BV:=Y0 hf hm;generalize x.kids[i]=y at hu cB eN BV;refine Za (cB _) (Za (bB (so _)) ?_);refine Zv (row:=[aO y.op,iv y.n,aO y.who,.aW false false 4 (y.kids.map dd)]) (row':=[aO y.op,iv y.n,aO y.who,.aW false false 4 (y.kids.map dd)]) (by rw[QA];rfl) rfl rfl ?_;have jo:=Yc σ (ab.box [aO y.op,iv y.n,aO y.who,.aW false false 4 (y.kids.map dd)]);have hN:Qe true 4 [.ak σ.length 0] (σ++[ab.box [aO y.op,iv y.n,aO y.who,.aW false false 4 (y.kids.map dd)]])=.ok (.agg (dd y)) [σ.length] []:=ld jo (by rw[QA];rfl);refine Za hN (Qo (Br k y (by omega) BV) rfl g229.ok.plain (mX _) (a_ (c250 _ _) g228.ok (Za (Xj ..) ?_)));rw[Xc (n:=i) (by omega)];exact bj (i+1) _ _ (by omega) ⟨_,rfl,by omega,hu⟩
  ·have h:i=x.kids.length:=by simp at h;omega
   subst h;rw[zAD,jc]at hu;rw[hu];rfl
theorem c251(x:Nm)(hf:c7 x=true):PC 229 [.agg (dd x)] (aO (tH x)):=Br _ x (No _) hf
theorem Bs:∀(k:Nat) (x:Cn),zAV x<=k→cK x=true→PC 232 [.agg (gg x)] (aO (tj x))
 |0,x,h,_=>by cases x;simp at h
 |k+1,x,hk,hf=>by
  rw[XF];refine Xa hP g232.ok rfl rfl ?_;rw[H1.e];unfold g232;dsimp only;refine Yd rfl rfl ?_;rw[Xd3];have gz:=Z5 hf;have dO:=Q4 hf;rw[c9]at gz dO;generalize hB:([]++[ab.box [aO x.op,aO x.who,.str x.name,.aW false false 4 (x.aC.map dd),.aW false false 5 (x.kids.map gg)]]:List ab)=base;have dM:ai base 0=.box [aO x.op,aO x.who,.str x.name,.aW false false 4 (x.aC.map dd),.aW false false 5 (x.kids.map gg)]:=by rw[←hB];rfl
  clear hB;refine Za rfl (Za (ld dM rfl) (Za (Zt ..) ?_));refine Ya (λh=>?_) (λh=>?_)
  ·rw[aI (by simpa using h)];refine Za rfl (Za (ld dM rfl) (Za (Zt ..) ?_));refine Ya (λh=>?_) (λh=>?_)
   ·rw[aI (by simpa using h)]
   rw[aB (by simpa using h)];refine Za (Zt ..) (Ya (λh=>?_) (λh=>?_))
   ·rw[aI (by simpa using h)]
   ·rw[aB (by simpa using h)]
  rw[aB (by simpa using h)];refine Za rfl (Za (ld dM rfl) (Za rfl ?_));refine Xg (ι:=Nat) (λi vs σ=>∃n,vs=[iv i,aO n]∧ai σ 0=.box [aO x.op,aO x.who,.str x.name,.aW false false 4 (x.aC.map dd),.aW false false 5 (x.kids.map gg)]∧i<=x.aC.length∧jc 0 x.aC=jc n (x.aC.drop i)) (λi=>x.aC.length-i) 0 ⟨0,rfl,dM,by omega,by simp⟩ ?_;rintro i vs σ again ⟨n,rfl,dM,hi,hu⟩ bj;refine Za rfl (Ya (λh=>?_) (λh=>?_))
  ·have h:i<x.aC.length:=by simpa using h
   have dY:x.aC.drop i=x.aC[i]::x.aC.drop (i+1):=by rw[gK h]
   rw[dY,jc]at hu;have hm:x.aC[i]∈x.aC:=AT h;have cB:=λ(s:List ab)=>Ym s dd false false 4 x.aC .i64 i h;have BV:=Z7 hf hm;generalize x.aC[i]=y at hu cB BV;refine Za (cB _) (Za (bB (so _)) ?_);refine Zv (row:=[aO y.op,iv y.n,aO y.who,.aW false false 4 (y.kids.map dd)]) (row':=[aO y.op,iv y.n,aO y.who,.aW false false 4 (y.kids.map dd)]) (by rw[QA];rfl) rfl rfl ?_;have jo:=Yc σ (ab.box [aO y.op,iv y.n,aO y.who,.aW false false 4 (y.kids.map dd)]);have hN:Qe true 4 [.ak σ.length 0] (σ++[ab.box [aO y.op,iv y.n,aO y.who,.aW false false 4 (y.kids.map dd)]])=.ok (.agg (dd y)) [σ.length] []:=ld jo (by rw[QA];rfl);refine Za hN (Qo (c251 y BV) rfl g229.ok.plain (mX _) (a_ (c250 _ _) g228.ok (Za (Xj ..) ?_)));rw[Xc (n:=i) (by omega)];exact bj (i+1) _ _ (by omega) ⟨_,rfl,Qb _ dM,by omega,hu⟩
  have h:i=x.aC.length:=by simp at h;omega
  subst h;rw[zAD,jc]at hu;rw[hu];clear bj hu hi;refine Za rfl (Za (ld dM rfl) (Za rfl ?_));refine Xg (ι:=Nat) (λi vs s=>∃m,vs=[iv i,aO m]∧i<=x.kids.length∧ov n x.kids=ov m (x.kids.drop i)) (λi=>x.kids.length-i) 0 ⟨n,rfl,by omega,by simp⟩ ?_;rintro i vs s again ⟨m,rfl,hi,hu⟩ bj;refine Za rfl (Ya (λh=>?_) (λh=>?_))
  ·have h:i<x.kids.length:=by simpa using h
   have dY:x.kids.drop i=x.kids[i]::x.kids.drop (i+1):=by rw[gK h]
   rw[dY,ov]at hu;have hm:x.kids[i]∈x.kids:=AT h;have cB:=λ(s:List ab)=>Ym s gg false false 5 x.kids .i64 i h;have BV:=Q6 hf hm;have eN:=CT hm;generalize x.kids[i]=y at hu cB BV eN;refine Za (cB _) (Za (bB (zJ _)) ?_);refine Zv (row:=[aO y.op,aO y.who,.str y.name,.aW false false 4 (y.aC.map dd),.aW false false 5 (y.kids.map gg)]) (row':=[aO y.op,aO y.who,.str y.name,.aW false false 4 (y.aC.map dd),.aW false false 5 (y.kids.map gg)]) (by rw[XF];rfl) rfl rfl ?_;have jo:=Yc s (ab.box [aO y.op,aO y.who,.str y.name,.aW false false 4 (y.aC.map dd),.aW false false 5 (y.kids.map gg)]);have hN:Qe true 5 [.ak s.length 0] (s++[ab.box [aO y.op,aO y.who,.str y.name,.aW false false 4 (y.aC.map dd),.aW false false 5 (y.kids.map gg)]])=.ok (.agg (gg y)) [s.length] []:=ld jo (by rw[XF];rfl);refine Za hN (Qo (Bs k y (by omega) BV) rfl g232.ok.plain (rD _) (a_ (c250 _ _) g228.ok (Za (Xj ..) ?_)));rw[Xc (n:=i) (by omega)];exact bj (i+1) _ _ (by omega) ⟨_,rfl,by omega,hu⟩
  ·have h:i=x.kids.length:=by simp at h;omega
   subst h;rw[zAD,ov]at hu;rw[hu];rfl
theorem c254(x:Cn)(hf:cK x=true):PC 232 [.agg (gg x)] (aO (tj x)):=Bs _ x (No _) hf
theorem Ue(u:Int)(x:Ef):gh [.agg [aO u],.agg (bq x)]=true:=by rw[Qr];rfl
theorem c235(u:Int)(x:Ef)(hf:dW x=true):PC 211 [.agg [aO u],.agg (bq x)] (.bool (decide (dC u (tH x.n)=0))):=by
 rw[Qr];refine Xa hP g211.ok rfl rfl ?_;rw[H2.e];unfold g211;dsimp only;refine Yd rfl rfl (Yd rfl rfl (Zi rfl (Xf rfl rfl (Zi rfl (Xf (ld (v:=.agg (dd x.n)) rfl (by rw[QA];rfl)) rfl ?_)))));exact Xt (c251 _ (zn hf)) rfl g229.ok.plain (mX _) (i_ (c250 _ _) g228.ok (Zi (Zt ..) (Qv (by kernel_rfl) rfl)))
theorem c236(u:Int)(x:Ef):PC 212 [.agg [aO u],.agg (bq x)] (.bool (decide (mK u=0))):=by
 rw[Qr];refine Xa hP g212.ok rfl rfl ?_;rw[H2.e];unfold g212;dsimp only;refine Yd rfl rfl (Yd rfl rfl (Za rfl (Za rfl ?_)));exact a_ (c252 _) g230.ok (Za (Zt ..) rfl)
theorem c237(u:Int)(x:Ef)(hf:dW x=true):PC 213 [.agg [aO u],.agg (bq x)] (.bool (G4 (dC u (tH x.n)) 1)):=by
 rw[Qr];refine Xa hP g213.ok rfl rfl ?_;rw[H2.e];unfold g213;dsimp only;refine Yd rfl rfl (Yd rfl rfl (Zi rfl (Xf rfl rfl (Zi rfl (Xf (ld (v:=.agg (dd x.n)) rfl (by rw[QA];rfl)) rfl ?_)))));refine Xt (c251 _ (zn hf)) rfl g229.ok.plain (mX _) (i_ (c250 _ _) g228.ok (i_ (c253 _ _) g231.ok (Qv (by kernel_rfl) ?_)));rw[G4,W8]
variable{σ σ0:List ab}
theorem Yf(l:List ab){c:Nat}(h:c<σ.length):ai (σ++l) c=ai σ c:=by
 simp_all [Yq,List.getElem?_append_left]
variable{b k:Nat}
theorem Xb{c:Nat}(x:ab)(h:c<σ.length)(hc:c≠b):ai (σ.set b x) c=ai σ c:=by
 have h1:=SC h;exact Yq (by grind)
def Gr(σ0:List ab)(n:Nat)(rows:List (List aa))(k:Nat)(v:aa)(σ:List ab):Prop:=
 σ0.length<=σ.length∧(∀c,c<σ0.length→ai σ c=ai σ0 c)∧((k=0∧v=.al∧rows=[])∨(0<k∧∃b,σ0.length<=b∧v=.sl b 0 k false∧ai σ b=.rows n rows∧rows.length=k))
theorem Gr.nil(n:Nat)(σ:List ab):Gr σ n [] 0 .al σ:=⟨No _,λ_ _=>rfl,.inl ⟨rfl,rfl,rfl⟩⟩
variable{v:aa}
variable{rows:List (List aa)}
theorem Gr.J9{n:Nat}(h:Gr σ0 n rows k v σ):ei n rows k v σ:=by
 rcases h.2.2 with h|⟨h1,b,_,h2,h3,h4⟩
 ·exact .inl h
 ·exact .inr ⟨h1,b,h2,h3,h4⟩
theorem Gr.fS{n:Nat}(h:Gr σ0 n rows k v σ){c:Nat}{x:ab}(hx:ai σ0 c=x)(hd:x≠.dead):ai σ c=x:=by
 rw[h.2.1 c (Zb hx hd)];exact hx
theorem Gr.base{l:List ab}{n:Nat}(h:Gr (σ0++l) n rows k v σ):Gr σ0 n rows k v σ:=by
 obtain⟨h1,h2,h3⟩:=h;simp only[By]at h1 h2 h3;refine⟨by omega,λc hc=>?_,?_⟩
 ·rw[h2 c (by omega),Yf l hc]
 grind
theorem Gr.put{n by_:Nat}{z cs:List aa}{x:aa}(hg:Gr σ0 n rows k v σ)(hx:fill z [(0,n)] [x]=some cs)(hc:chunk n 1 cs=some [cs])(hr:cs.all aa.cell=true)(bH:(2*(k+1)+192)*by_<=2 ^ 48){K:KT}
 (hK:∀v' σ',Gr σ0 n (rows++[cs]) (k+1) v' σ'→K v' σ'):VV.wr (Xq n 1 z [(0,n)] [x] σ) σ (λt σ=>VV.wr (Qf n by_ [v,t] σ) σ K):=by
 rw[GG _ _ _ _ _ cs hx hc];obtain⟨g1,g2,hg⟩:=hg;rcases hg with ⟨rfl,rfl,rfl⟩|⟨hk,b,zQ,rfl,hb,hl⟩
 ·rw[RD _ n by_ σ cs hr (by simpa using bH)];refine hK _ _ ⟨by simp;omega,λc hc=>?_,.inr ⟨by omega,_,?_,rfl,by have:=Yc (σ++[.rows n [cs]]) (.rows n [cs]);simpa using this,rfl⟩⟩
  ·rw[Yf _ (by simp;omega),Yf _ (by omega),g2 c hc]
  ·omega
 ·rw[HX _ n by_ σ b k false rows cs hb hl hr bH];refine hK _ _ ⟨by simp;omega,λc hc=>?_,.inr ⟨by omega,_,?_,rfl,?_,by simp[hl]⟩⟩
  ·rw[Yf _ (by simp;omega),Yf _ (by simp;omega),Xb _ (by omega) (by omega),g2 c hc]
  ·omega
  ·have:=Yc (σ.set b .dead++[.rows n [cs]]) (.rows n (rows++[cs]));simpa using this
inductive Pt where
 |ef (x:Ef)
 |nm (x:Nm)
 |cn (x:Cn)
inductive Cz:aa→Pt→Prop
 |ef (x:Ef):Cz (.iface 292 (.agg [.aq (bq x) 0])) (.ef x)
 |nm (row:List aa) (j:Nat) (x:Nm):nB row j x→Cz (.iface 303 (.agg [.aq row j])) (.nm x)
 |cn (row:List aa) (j:Nat) (x:Cn):sY row j x→Cz (.iface 305 (.agg [.aq row j])) (.cn x)
def Pt.kids:Pt→List Pt
 |.ef x=>(if cw x.op then [.nm x.n]else [])++(if x.op=8 then .cn x.c::(x.bQ.map .ef++x.bV.map .ef)else [])
 |.nm x=>x.kids.map .nm
 |.cn x=>x.aC.map .nm++x.kids.map .cn
def Pt.fit:Pt→Bool
 |.ef x=>dW x
 |.nm x=>c7 x
 |.cn x=>cK x
mutual
def rf:Nm→List Pt
 |.mk op n who kids=>.nm (.mk op n who kids)::o_ kids
def o_:List Nm→List Pt
 |[]=>[]
 |x::l=>rf x++o_ l
end
mutual
def qQ:Cn→List Pt
 |.mk op who name aC kids=>.cn (.mk op who name aC kids)::(o_ aC++qh kids)
def qh:List Cn→List Pt
 |[]=>[]
 |x::l=>qQ x++qh l
end
mutual
def iG:Ef→List Pt
 |.mk op who n name c bQ bV=>.ef (.mk op who n name c bQ bV)::((if cw op then rf n else [])++(if op=8 then qQ c++(bz bQ++bz bV)else []))
def bz:List Ef→List Pt
 |[]=>[]
 |x::l=>iG x++bz l
end
def flat:Pt→List Pt
 |.ef x=>iG x
 |.nm x=>rf x
 |.cn x=>qQ x
def dX:List Pt→List Pt
 |[]=>[]
 |p::l=>flat p++dX l
theorem Od:∀a b,dX (a++b)=dX a++dX b
 |[],b=>rfl
 |p::a,b=>by simp[dX,Od a b]
theorem S9:∀l,dX (l.map .nm)=o_ l
 |[]=>rfl
 |x::l=>by simp[dX,S9 l,flat,o_]
theorem XcI:∀l,dX (l.map .cn)=qh l
 |[]=>rfl
 |x::l=>by simp[dX,XcI l,flat,qh]
theorem I3:∀l,dX (l.map .ef)=bz l
 |[]=>rfl
 |x::l=>by simp[dX,I3 l,flat,bz]
theorem Xdq(p:Pt):flat p=p::dX p.kids:=by
 cases p with
 |ef x=>
  obtain⟨op,who,n,name,c,bQ,bV⟩:=x;have e:Pt.kids (.ef (.mk op who n name c bQ bV))=(if cw op then [.nm n]else [])++(if op=8 then .cn c::(bQ.map .ef++bV.map .ef)else []):=rfl;rw[e,Od];simp only[flat,iG]
  congr 2
  ·by_cases h:cw op=true<;>simp[h,dX,flat]
  ·by_cases h:op=8<;>simp[h,dX,flat,Od,I3]
 |nm x=>cases x;simp[flat,rf,Pt.kids,Nm.kids,S9]
 |cn x=>cases x;simp[flat,qQ,Pt.kids,Cn.aC,Cn.kids,Od,S9,XcI]
theorem YcI(p:Pt):0<(flat p).length:=by rw[Xdq];simp
theorem RN:∀ {l:List Pt} {p:Pt},p∈l→(flat p).length<=(dX l).length
 |q::l,p,h=>by
  simp only[dX,By];rcases zAS.1 h with rfl|h
  ·omega
  ·have:=RN h;omega
theorem SA:∀l:List Pt,l.length<=(dX l).length
 |[]=>by simp
 |p::l=>by
  have:=SA l;have:=YcI p;simp[dX];omega
theorem Qei{p q:Pt}(h:p.fit=true)(hq:q∈p.kids):q.fit=true:=by
 cases p with
 |ef x=>
  simp only[Pt.kids,zAF]at hq;rcases hq with hq|hq
  ·split at hq
   ·simp at hq;subst hq;exact zn h
   ·simp at hq
  ·split at hq
   ·simp only[zAS,zAF,zAh]at hq;rcases hq with rfl|⟨y,hy,rfl⟩|⟨y,hy,rfl⟩
    ·exact Z8 h
    ·exact YP (ZP h) hy
    ·exact YP (QO h) hy
   ·simp at hq
 |nm x=>
  simp only[Pt.kids,zAh]at hq;obtain⟨y,hy,rfl⟩:=hq;exact Y0 h hy
 |cn x=>
  simp only[Pt.kids,zAF,zAh]at hq;rcases hq with ⟨y,hy,rfl⟩|⟨y,hy,rfl⟩
  ·exact Z7 h hy
  ·exact Q6 h hy
def gq{S:Type}(step:S→Pt→S×Bool):S→List Pt→S×Bool
 |s,[]=>(s,true)
 |s,p::l=>if (step s p).2=true then gq step (step s p).1 l else ((step s p).1,false)
variable{S α:Type}
theorem Nq(step:S→Pt→S×Bool):∀(a:List Pt) (s:S) (b:List Pt),gq step s (a++b)=if (gq step s a).2=true then gq step (gq step s a).1 b else ((gq step s a).1,false)
 |[],s,b=>by simp[gq]
 |p::a,s,b=>by
  simp only[zAJ,gq];by_cases h:(step s p).2=true<;>simp_all [Nq]
def Bt(b:Nat)(σ σ':List ab):Prop:=σ.length<=σ'.length∧∀c,c<σ.length→c≠b→ai σ' c=ai σ c
theorem Bt.refl(b:Nat)(σ:List ab):Bt b σ σ:=⟨No _,λ_ _ _=>rfl⟩
theorem Bt.trans{x y z:List ab}(h:Bt b x y)(k:Bt b y z):Bt b x z:=⟨Nat.le_trans h.1 k.1,λc hc hb=>by rw[k.2 c (by have:=h.1;omega) hb,h.2 c hc hb]⟩
theorem Bt.fS{σ':List ab}(h:Bt b σ σ'){c:Nat}{x:ab}(hx:ai σ c=x)(hd:x≠.dead)(hc:c≠b):ai σ' c=x:=by
 rw[h.2 c (Zb hx hd) hc];exact hx
theorem Bt.gr{σ':List ab}(b:Nat)(h1:σ.length<=σ'.length)(h:∀c,c<σ.length→ai σ' c=ai σ c):Bt b σ σ':=⟨h1,λc hc _=>h c hc⟩
def M_{S:Type}(yD:aa)(b:Nat)(enc:S→List aa)(step:S→Pt→S×Bool):Prop:=
 ∀p v,Cz v p→∀s σ K,ai σ b=.box (enc s)→(∀σ',Bt b σ σ'→ai σ' b=.box (enc (step s p).1)→K (.bool (step s p).2) σ')→VV.call .kf [yD,v] σ K
inductive nY:List aa→List Pt→Prop
 |nil:nY [] []
 |snoc (vs:List aa) (ps:List Pt) (v:aa) (p:Pt):nY vs ps→Cz v p→nY (vs++[v]) (ps++[p])
variable{ps:List Pt}
variable{vs:List aa}
theorem nY.length(h:nY vs ps):vs.length=ps.length:=by
 induction h<;>simp_all
theorem nY.get(h:nY vs ps):∀i (h1:i<vs.length) (h2:i<ps.length),Cz vs[i] ps[i]:=by
 induction h with
 |nil=>intro i h;simp at h
 |snoc vs ps v p h hv ih=>
  intro i h1 h2;have hl:=h.length
  grind
def one(v:aa):List aa:=[v]
set_option maxHeartbeats 2000000
def lA(x:Ef):List aa:=[.iface 292 (.agg [.aq (bq x) 0])]
def mW(x:Nm):List aa:=[.iface 303 (.agg [.aq (dd x) 0])]
def qi(x:Cn):List aa:=[.iface 305 (.agg [.aq (gg x) 0])]
theorem ZeD(l:List Ef)(hl:k+l.length<=1000000000)(hg:Gr σ0 1 rows k v σ){K:nA}
 (hK:∀v' σ' w,Gr σ0 1 (rows++l.map lA) (k+l.length) v' σ'→K [w,v'] σ') :
  VV.loop (λag v55 σ=>VV.rd (Zn .lss false [(h0 v55),iv l.length] σ) λFO=>VV.test FO (
   VV.rd (Xi 14 [gZ l,(h0 v55)] σ) λFT=>VV.rd (ZO [.fo] [(0,1)] [FT] σ) λFU=>VV.rd (XG 292 [FU] σ) λFV=>
   VV.wr (Xq 1 1 [.dw] [(0,1)] [FV] σ) σ λFX σ=>VV.wr (Qf 1 16 [(h1 v55),FX] σ) σ λFY σ=>
   VV.rd (Zn .add false [(h0 v55),(.int .i64 1)] σ) λqM=>ag [qM,FY] σ) (K v55 σ)) [(.int .i64 0),v] σ:=by
 refine Xg (ι:=Nat) (λi vs s=>∃v,vs=[iv i,v]∧i<=l.length∧Gr σ0 1 (rows++(l.take i).map lA) (k+i) v s) (λi=>l.length-i) 0 ⟨v,rfl,by omega,by simpa using hg⟩ ?_;rintro i vs s again ⟨v,rfl,hi,hg⟩ bj;refine Za rfl (QM (λh=>?_) (λh=>?_))
 ·refine Za (Ym _ bq _ _ _ l _ i h) (Za rfl (Za rfl ?_));refine hg.put (cs:=lA l[i]) rfl rfl rfl (by omega) (λv' σ' uA=>?_);refine Za (Xj ..) ?_;rw[Xc (n:=i) (by omega)];refine bj (i+1) _ _ (by omega) ⟨v',rfl,by omega,?_⟩
  grind [YM]
 grind
theorem BN(h:nY vs ps):∀l:List Ef,nY (vs++(l.map lA).flatten) (ps++l.map .ef):=by
 intro l
 induction l generalizing vs ps with
 |nil=>simpa using h
 |cons x l ih=>
  have:=ih (nY.snoc _ _ _ _ h (.ef x));simpa[lA]using this
theorem Ch(h:nY vs ps):∀l:List Nm,nY (vs++(l.map mW).flatten) (ps++l.map .nm):=by
 intro l
 induction l generalizing vs ps with
 |nil=>simpa using h
 |cons x l ih=>
  have:=ih (nY.snoc _ _ _ _ h (.nm (dd x) 0 x (qG x)));simpa[mW]using this
theorem JL(h:nY vs ps):∀l:List Cn,nY (vs++(l.map qi).flatten) (ps++l.map .cn):=by
 intro l
 induction l generalizing vs ps with
 |nil=>simpa using h
 |cons x l ih=>
  have:=ih (nY.snoc _ _ _ _ h (.cn (gg x) 0 x (zI x)));simpa[qi]using this
theorem OX{f:α→List aa}(h:∀x,∃v,f x=[v]):∀l:List α,l.map f=((l.map f).flatten).map one
 |[]=>rfl
 |x::l=>by
  obtain⟨v,hv⟩:=h x;have:=OX h l
  grind [one]
theorem NA(l:List Ef):l.map lA=((l.map lA).flatten).map one:=OX (λ_=>⟨_,rfl⟩) l
theorem ZcN(l:List Nm):l.map mW=((l.map mW).flatten).map one:=OX (λ_=>⟨_,rfl⟩) l
theorem QdW(l:List Cn):l.map qi=((l.map qi).flatten).map one:=OX (λ_=>⟨_,rfl⟩) l
theorem c208{S:Type}{enc:S→List aa}{step:S→Pt→S×Bool}{yD:aa}{b:Nat}(hc:M_ yD b enc step):∀(k:Nat) (p:Pt),(flat p).length<=k→p.fit=true→(flat p).length<=500000000→∀v,Cz v p→∀s σ K,ai σ b=.box (enc s) →
  (∀σ',Bt b σ σ'→ai σ' b=.box (enc (gq step s (flat p)).1)→K (.bool (gq step s (flat p)).2) σ')→g220.u VV [v,yD] σ K
 |0,p,h,_,_=>by have:=YcI p;omega
 |k+1,p,hk,hf,hN=>by
  intro v hv s σ K hb hK;rw[Xdq]at hk hN hK;simp only[IS]at hk hN;have lW:=SA p.kids;rw[H2.e];unfold g220;dsimp only;refine hc p v hv s σ _ hb (λσ1 t1 b1=>?_);simp only[gq]at hK;refine Za rfl (Ya (λh=>?_) (λh=>?_))
  ·simp_all
  have h:(step s p).2=true:=by simpa using h
  rw[h,aI rfl]at hK;generalize (step s p).1=s1 at hK b1;refine Qg λk2 rS=>?_;have kk:∀v2 σ2 vs,nY vs p.kids→Gr σ1 1 (vs.map one) vs.length v2 σ2→k2 [v2] σ2:=by
   intro v2 σ2 vs hp hg;rw[rS];clear rS k2;have hlen:=hp.length;have mi:=hg.fS b1 (by simp);have t2:Bt b σ1 σ2:=⟨hg.1,λc hc _=>hg.2.1 c hc⟩;refine Za (hg.J9.len _) (Xg (ι:=Nat) (λi ws σ3=>∃s',ws=[iv i]∧i<=p.kids.length∧ai σ3 b=.box (enc s')∧Bt b σ2 σ3∧gq step s1 (dX p.kids)=gq step s' (dX (p.kids.drop i))) (λi=>p.kids.length-i) 0 ⟨s1,rfl,by omega,mi,Bt.refl _ _,by simp⟩ ?_);rintro i ws σ3 again ⟨s',rfl,hi,BR,t3,hr⟩ bj;refine Za rfl (Ya (λh=>?_) (λh=>?_))
   ·have h:i<vs.length:=by simpa using h
    have h':i<p.kids.length:=by omega
    have sP:ei 1 (vs.map one) vs.length v2 σ3:=by
     rcases hg.2.2 with h|⟨q1,c,q2,q3,q4,q5⟩
     ·exact .inl h
     ·refine .inr ⟨q1,c,q3,?_,q5⟩;have u6:c≠b:=by
       grind
      exact t3.fS q4 (by simp) u6
    obtain⟨c,e1,hj,e2⟩:=sP.at .i64 i h;refine Za e1 (Za (e2 false 1 vs[i] (by simp[one])) ?_);have il:p.kids[i]∈p.kids:=AT h';have rN:=RN il;have dY:p.kids.drop i=p.kids[i]::p.kids.drop (i+1):=gK h';rw[dY,dX,Nq]at hr;refine Xd hP rfl g220.ok rfl (c208 hc k p.kids[i] (by omega) (Qei hf il) (by omega) _ (hp.get i h h') s' σ3 _ BR (λσ4 t4 b4=>?_));refine Za rfl (Ya (λh5=>?_) (λh5=>?_))
    ·have h5:(gq step s' (flat p.kids[i])).2=false:=by simpa using h5
     rw[h5]at hr;have:=hK σ4 ((t1.trans t2).trans (t3.trans t4)) (by rw[hr];exact b4);rw[hr]at this;exact this
    ·have h5:(gq step s' (flat p.kids[i])).2=true:=by simpa using h5
     rw[h5,aI rfl]at hr;refine Za (Xj ..) ?_;rw[Xc (n:=i) (by omega)];exact bj (i+1) _ _ (by omega) ⟨_,rfl,by omega,b4,t3.trans t4,hr⟩
   ·have h:i=p.kids.length:=by simp at h;omega
    subst h;rw[zAD,dX,gq]at hr;have:=hK σ3 ((t1.trans t2).trans t3) (by rw[hr];exact BR);rw[hr]at this;exact this
  clear rS hK hb hc;cases hv with
  |ef x=>
   refine Za rfl (Za rfl (Za rfl (Xh ?_)));refine Zv (row:=[.aq (bq x) 0]) rfl rfl rfl ?_;have hB:=Yc σ1 (ab.box [.aq (bq x) 0]);have cc:σ1.length<(σ1++[ab.box [.aq (bq x) 0]]).length:=by simp
   have kb:∀v2 σ2 vs,nY vs (Pt.ef x).kids→Gr (σ1++[ab.box [.aq (bq x) 0]]) 1 (vs.map one) vs.length v2 σ2→k2 [v2] σ2:=λv2 σ2 vs h1 h2=>kk v2 σ2 vs h1 h2.base;clear kk b1 t1;generalize σ1++[ab.box [.aq (bq x) 0]]=τ at hB cc kb ⊢;generalize σ1.length=c at hB cc ⊢;refine Za rfl (Za (ld hB rfl) (Za rfl (Za rfl (Za (bB (gY _)) ?_))));refine a_ (c210 _) g199.ok (Qg λk14 DB=>?_);have k1:∀v σ2 vs,nY vs (if cw x.op then [.nm x.n]else [])→Gr τ 1 (vs.map one) vs.length v σ2→k14 [v] σ2:=by
    intro v σ2 vs hp hg;rw[DB];clear DB k14;have vE:=hg.fS hB (by simp);have hvl:vs.length<=1:=by rw[hp.length];split<;>simp
    refine Za rfl (Za (ld vE rfl) (Za rfl (Za rfl (Za (bB (gY _)) (Za (Zt ..) ?_)))));refine Ya (λh=>?_) (λh=>?_);rotate_left
    ·have h:¬x.op=8:=by simpa using h
     refine kb _ _ vs ?_ hg;simp_all [Pt.kids]
    have h:x.op=8:=by simpa using h
    have KO:(Pt.ef x).kids=(if cw x.op then [.nm x.n]else [])++(.cn x.c::(x.bQ.map .ef++x.bV.map .ef)):=by simp only[Pt.kids,aI h]
    have fJ:x.bQ.length+x.bV.length+1<=500000000:=by
     grind
    refine Za rfl (Za (ld vE rfl) ?_);refine ay ?_;refine hg.put (cs:=[.iface 305 (.agg [.aq (bq x) 7])]) rfl rfl rfl (by omega) (λv' σ' uA=>?_);have Ka:=uA.fS hB (by simp);refine Za rfl (Za (ld Ka rfl) (Za rfl (Za rfl (Za (bB (CE _)) ?_))));refine Za rfl (Za (ld Ka rfl) (Za rfl (Za rfl (Za (bB (CW _)) ?_))));refine Za rfl (YL 3 (Yl (Za rfl (Xh (Za rfl ?_)))));refine Za (v:=iv x.bQ.length) (rd:=[]) (by simp[Zf]) (ZeD x.bQ (by omega) uA (λv3 σ3 w sP=>?_));refine Za rfl (Yl (Za rfl (Xh (Za rfl ?_))));refine Za (v:=iv x.bV.length) (rd:=[]) (by simp[Zf]) (ZeD x.bV (by omega) sP (λv4 σ4 w hg4=>?_));refine Za rfl (Yl (Za rfl (Xe ?_)));refine kb _ _ ((vs++[.iface 305 (.agg [.aq (bq x) 7])])++(x.bQ.map lA).flatten++(x.bV.map lA).flatten) ?_ ?_
    ·rw[KO];have:=BN (BN (nY.snoc _ _ _ _ hp (.cn (bq x) 7 x.c (BD x))) x.bQ) x.bV;simpa using this
    ·have e1:((vs++[aa.iface 305 (.agg [.aq (bq x) 7])])++(x.bQ.map lA).flatten++(x.bV.map lA).flatten).map one=zDv one vs++[[aa.iface 305 (.agg [.aq (bq x) 7])]]++zDv lA x.bQ++zDv lA x.bV:=by
      rw[zAa,zAa,←NA,←NA,zAa];rfl
     have e2:((vs++[aa.iface 305 (.agg [.aq (bq x) 7])])++(x.bQ.map lA).flatten++(x.bV.map lA).flatten).length=vs.length+1+x.bQ.length+x.bV.length:=by
      have l1:=congrArg zCo (NA x.bQ);have l2:=congrArg zCo (NA x.bV)
      grind
     rw[e1,e2];exact hg4
   clear DB;refine Ya (λh=>?_) (λh=>?_)
   ·refine Za rfl (Za (ld hB rfl) ?_);refine ay ?_;refine(Gr.nil 1 τ).put (cs:=[.iface 303 (.agg [.aq (bq x) 2])]) rfl rfl rfl (by omega) (λv' σ' uA=>?_);refine k1 _ _ [.iface 303 (.agg [.aq (bq x) 2])] ?_ uA;rw[aI h];exact nY.snoc [] [] _ _ .nil (.nm (bq x) 2 x.n (Cg x))
   ·refine k1 _ _ [] ?_ (Gr.nil 1 τ);rw[h];exact .nil
  |nm row j x hx=>
   refine Za rfl (Za rfl (Za rfl (Xe ?_)));refine Za rfl (Za rfl (Za rfl (Xh ?_)));refine Zv (row:=[.aq row j]) rfl rfl rfl ?_;have hB:=Yc σ1 (ab.box [.aq row j]);have kb:∀v2 σ2 vs,nY vs (Pt.nm x).kids→Gr (σ1++[ab.box [.aq row j]]) 1 (vs.map one) vs.length v2 σ2→k2 [v2] σ2:=λv2 σ2 vs h1 h2=>kk v2 σ2 vs h1 h2.base;clear kk b1 t1;generalize σ1++[ab.box [.aq row j]]=τ at hB kb ⊢;generalize σ1.length=c at hB ⊢;have fJ:x.kids.length<=500000000:=by
    grind [Pt.kids]
   refine Za rfl (Za (ld hB rfl) (Za rfl (Za rfl (Za (bB hx.h3) ?_))));refine Za (v:=iv x.kids.length) (rd:=[]) (by simp[Zf]) (Xg (ι:=Nat) (λi vs s=>∃v,vs=[iv i,v]∧i<=x.kids.length∧Gr τ 1 ((x.kids.take i).map mW) i v s) (λi=>x.kids.length-i) 0 ⟨_,rfl,by omega,by simpa using Gr.nil 1 τ⟩ ?_);rintro i vs s again ⟨v,rfl,hi,hg⟩ bj;refine Za rfl (QM (λh=>?_) (λh=>?_))
   ·refine Za rfl (Za (ld (hg.fS hB (by simp)) rfl) (Za rfl (Za rfl (Za (bB hx.h3) ?_))));refine Za (Ym _ dd _ _ _ x.kids _ i h) (Za rfl (Za rfl ?_));refine hg.put (cs:=mW x.kids[i]) rfl rfl rfl (by omega) (λv' σ' uA=>?_);refine Za (Xj ..) ?_;rw[Xc (n:=i) (by omega)];refine bj (i+1) _ _ (by omega) ⟨v',rfl,by omega,?_⟩
    grind [YM]
   ·subst h;rw[zAl]at hg;refine kb _ _ (x.kids.map mW).flatten ?_ ?_
    ·have:=Ch .nil x.kids;simpa[Pt.kids]using this
    ·have e1:=ZcN x.kids;have e2:=congrArg zCo e1;rw[←e1];simp only[zAM]at e2;rw[←e2];exact hg
  |cn row j x hx=>
   refine Za rfl (Za rfl (Za rfl (Xe ?_)));refine Za rfl (Za rfl (Za rfl (Xe ?_)));refine Za rfl (Za rfl (Za rfl (Xh ?_)));refine Zv (row:=[.aq row j]) rfl rfl rfl ?_;have hB:=Yc σ1 (ab.box [.aq row j]);have kb:∀v2 σ2 vs,nY vs (Pt.cn x).kids→Gr (σ1++[ab.box [.aq row j]]) 1 (vs.map one) vs.length v2 σ2→k2 [v2] σ2:=λv2 σ2 vs h1 h2=>kk v2 σ2 vs h1 h2.base;clear kk b1 t1;generalize σ1++[ab.box [.aq row j]]=τ at hB kb ⊢;generalize σ1.length=c at hB ⊢;have fJ:x.aC.length+x.kids.length<=500000000:=by
    grind [Pt.kids]
   refine Za rfl (Za (ld hB rfl) (Za rfl (Za rfl (Za (bB hx.h3) ?_))));refine Za (v:=iv x.aC.length) (rd:=[]) (by simp[Zf]) (Xg (ι:=Nat) (λi vs s=>∃v,vs=[iv i,v]∧i<=x.aC.length∧Gr τ 1 ((x.aC.take i).map mW) i v s) (λi=>x.aC.length-i) 0 ⟨_,rfl,by omega,by simpa using Gr.nil 1 τ⟩ ?_);rintro i vs s again ⟨v,rfl,hi,hg⟩ bj;refine Za rfl (QM (λh=>?_) (λh=>?_))
   ·refine Za rfl (Za (ld (hg.fS hB (by simp)) rfl) (Za rfl (Za rfl (Za (bB hx.h3) ?_))));refine Za (Ym _ dd _ _ _ x.aC _ i h) (Za rfl (Za rfl ?_));refine hg.put (cs:=mW x.aC[i]) rfl rfl rfl (by omega) (λv' σ' uA=>?_);refine Za (Xj ..) ?_;rw[Xc (n:=i) (by omega)];refine bj (i+1) _ _ (by omega) ⟨v',rfl,by omega,?_⟩
    grind [YM]
   subst h;rw[zAl]at hg;clear bj;refine Za rfl (Za (ld (hg.fS hB (by simp)) rfl) (Za rfl (Za rfl (Za (bB hx.h4) ?_))));refine Za (v:=iv x.kids.length) (rd:=[]) (by simp[Zf]) (Xg (ι:=Nat) (λi vs s=>∃v,vs=[iv i,v]∧i<=x.kids.length∧Gr τ 1 (x.aC.map mW++(x.kids.take i).map qi) (x.aC.length+i) v s) (λi=>x.kids.length-i) 0 ⟨_,rfl,by omega,by simpa[h1,qX,jM]using hg⟩ ?_);clear hg;rintro i vs s again ⟨v,rfl,hi,hg⟩ bj;refine Za rfl (QM (λh=>?_) (λh=>?_))
   ·refine Za rfl (Za (ld (hg.fS hB (by simp)) rfl) (Za rfl (Za rfl (Za (bB hx.h4) ?_))));refine Za (Ym _ gg _ _ _ x.kids _ i h) (Za rfl (Za rfl ?_));refine hg.put (cs:=qi x.kids[i]) rfl rfl rfl (by omega) (λv' σ' uA=>?_);refine Za (Xj ..) ?_;rw[Xc (n:=i) (by omega)];refine bj (i+1) _ _ (by omega) ⟨v',rfl,by omega,?_⟩
    grind [YM]
   ·subst h;rw[zAl]at hg;refine kb _ _ ((x.aC.map mW).flatten++(x.kids.map qi).flatten) ?_ ?_
    ·have:=JL (Ch .nil x.aC) x.kids;simpa[Pt.kids]using this
    ·have e1:((x.aC.map mW).flatten++(x.kids.map qi).flatten).map one=x.aC.map mW++x.kids.map qi:=by
      grind [ZcN,QdW]
     have e2:=congrArg zCo e1;simp only[zAM,By]at e2;simp_all
mutual
theorem I0:∀x:Nm,mA x=min ((rf x).length:Int) 1073741824
 |.mk op n who kids=>by
  simp only[mA,rf,IS]
  rw[R6 1 kids (by omega) (by omega)];omega
theorem R6:∀(n:Int) (l:List Nm),0<=n→n<=1073741824→kH n l=min (n+((o_ l).length:Int)) 1073741824
 |n,[],h1,h2=>by simp only[kH,o_,zAG];omega
 |n,x::l,h1,h2=>by
  simp only[kH,o_,By]
  rw[I0 x,R6 _ l (by omega) (by omega)];omega
end
mutual
theorem SV:∀x:Cn,oz x=min ((qQ x).length:Int) 1073741824
 |.mk op who name aC kids=>by
  simp only[oz,qQ,IS,By]
  rw[R6 1 aC (by omega) (by omega),Xd4 _ kids (by omega) (by omega)];omega
theorem Xd4:∀(n:Int) (l:List Cn),0<=n→n<=1073741824→oA n l=min (n+((qh l).length:Int)) 1073741824
 |n,[],h1,h2=>by simp only[oA,qh,zAG];omega
 |n,x::l,h1,h2=>by
  simp only[oA,qh,By]
  rw[SV x,Xd4 _ l (by omega) (by omega)];omega
end
mutual
theorem JY:∀(n:Int) (x:Ef),0<=n→n<=1073741824→C7 n x=min (n+((iG x).length:Int)) 1073741824
 |n,.mk op who nn name c bQ bV,h1,h2=>by
  simp only[C7,iG,IS,By]
  rw[I0 nn,SV c,vR 0 bQ (by omega) (by omega),vR 0 bV (by omega) (by omega)]
  generalize cw op=cb
  by_cases h:op=8
  ·simp only[aI h]
   cases cb<;>simp only[if_true,if_false,By,zAG,zAW]<;>omega
  ·simp only[aB h]
   cases cb<;>simp only[if_true,if_false,zAG,zAW]<;>omega
theorem vR:∀(n:Int) (l:List Ef),0<=n→n<=1073741824→dD n l=min (n+((bz l).length:Int)) 1073741824
 |n,[],h1,h2=>by simp only[dD,bz,zAG];omega
 |n,x::l,h1,h2=>by
  simp only[dD,bz,By]
  rw[JY n x h1 h2,vR _ l (by omega) (by omega)];omega
end
def pM(c:Cd):List Pt:=bz c.de++(bz c.dead++bz c.cM)
theorem IB(c:Cd):pr c=min ((pM c).length:Int) 1073741824:=by
 rw[pr,vR 0 _ (by omega) (by omega),vR 0 _ (by omega) (by omega),vR 0 _ (by omega) (by omega),pM];simp only[By];omega
theorem Xdp(l:List Ef):bz l=dX (l.map .ef):=(I3 l).symm
theorem Rl{enc:S→List aa}{step:S→Pt→S×Bool}{yD:aa}(hc:M_ yD b enc step)(l:List Ef)(hf:bF l=true)(hN:(bz l).length<=500000000){s:S}(hb:ai σ b=.box (enc s)){R:List ab→Prop}{K:nA}
 (hR:∀σ',Bt b σ σ'→ai σ' b=.box (enc (gq step s (bz l)).1)→(gq step s (bz l)).2=false→R σ')(hK:∀w σ',Bt b σ σ'→ai σ' b=.box (enc (gq step s (bz l)).1)→(gq step s (bz l)).2=true→K w σ') :
  VV.loop (λCY v16 σ=>VV.rd (Zn .lss false [(h0 v16),iv l.length] σ) λtP=>VV.test tP (
   VV.rd (Xi 14 [gZ l,(h0 v16)] σ) λEB=>VV.rd (ZO [.fo] [(0,1)] [EB] σ) λEC=>VV.rd (XG 292 [EC] σ) λEE=>
   VV.call (.call 220) [EE,yD] σ λEL σ=>VV.rd (t_ .not [EL] σ) λEO=>VV.test EO (R σ) (
   VV.rd (Zn .add false [(h0 v16),(.int .i64 1)] σ) λET=>CY [ET] σ)) (K v16 σ)) [(.int .i64 0)] σ:=by
 have hl:=SA (l.map .ef);rw[I3,zAM]at hl;rw[Xdp]at hR hK;refine Xg (ι:=Nat) (λi ws σ3=>∃s',ws=[iv i]∧i<=l.length∧ai σ3 b=.box (enc s')∧Bt b σ σ3∧gq step s (dX (l.map .ef))=gq step s' (dX ((l.drop i).map .ef))) (λi=>l.length-i) 0 ⟨s,rfl,by omega,hb,Bt.refl _ _,by simp⟩ ?_;rintro i ws σ3 again ⟨s',rfl,hi,BR,t3,hr⟩ bj;refine Za rfl (QM (λh=>?_) (λh=>?_))
 ·refine Za (Ym _ bq _ _ _ l _ i h) (Za rfl (Za rfl ?_));have dY:l.drop i=l[i]::l.drop (i+1):=gK h;rw[dY,zAN,dX,Nq]at hr;refine Xd hP rfl g220.ok rfl ?_;have hm:=RN (l:=l.map .ef) (p:=.ef l[i]) (List.mem_map_of_mem (AT h));rw[I3]at hm;refine c208 hc _ (.ef l[i]) (No _) (YP hf (AT h)) (by omega) _ (.ef _) s' σ3 _ BR (λσ4 t4 b4=>?_);refine Za rfl (Ya (λh5=>?_) (λh5=>?_))
  ·have h5:(gq step s' (flat (.ef l[i]))).2=false:=by simpa using h5
   rw[h5]at hr;exact hR σ4 (t3.trans t4) (by rw[hr];exact b4) (by rw[hr];rfl)
  ·have h5:(gq step s' (flat (.ef l[i]))).2=true:=by simpa using h5
   rw[h5,aI rfl]at hr;refine Za (Xj ..) ?_;rw[Xc (n:=i) (by omega)];exact bj (i+1) _ _ (by omega) ⟨_,rfl,by omega,b4,t3.trans t4,hr⟩
 ·subst h;rw[zAD,zBC,dX,gq]at hr;exact hK _ σ3 t3 (by rw[hr];exact BR) (by rw[hr])
theorem c155{enc:S→List aa}{step:S→Pt→S×Bool}{yD:aa}(hc:M_ yD b enc step)(c:Cd)(f1:bF c.de=true)(f2:bF c.dead=true)(f3:bF c.cM=true)(hN:(pM c).length<=500000000){s:S}{cb:Nat}(u6:ai σ cb=.box (cN c))(hb:ai σ b=.box (enc s)){K:KT}
 (hK:∀σ',Bt b σ σ'→ai σ' b=.box (enc (gq step s (pM c)).1)→K (.bp []) σ'):g196.u VV [.ak cb 0,yD] σ K:=by
 simp only[pM,By]at hN;simp only[pM,Nq]at hK;rw[H2.e];unfold g196;dsimp only;refine Za rfl (Za rfl (Za (ld u6 rfl) (Za rfl (Za rfl (Za (ld u6 rfl) (Za rfl (Za rfl (Za (ld u6 rfl) (Za rfl ?_)))))))));refine YL 4 (Yl (Za rfl (Xh (Za rfl ?_))));refine Za (v:=iv c.de.length) (rd:=[]) (by simp[Zf]) (Rl hc c.de f1 (by omega) hb (λσ1 t1 b1 h1=>?_) (λw σ1 t1 b1 h1=>?_))
 ·rw[h1]at hK;exact hK σ1 t1 b1
 rw[h1,aI rfl]at hK;refine Za rfl (Yl (Za rfl (Xh (Za rfl ?_))));refine Za (v:=iv c.dead.length) (rd:=[]) (by simp[Zf]) (Rl hc c.dead f2 (by omega) b1 (λσ2 t2 b2 h2=>?_) (λw σ2 t2 b2 h2=>?_))
 ·rw[h2]at hK;exact hK σ2 (t1.trans t2) b2
 rw[h2,aI rfl]at hK;refine Za rfl (Yl (Za rfl (Xh (Za rfl ?_))));refine Za (v:=iv c.cM.length) (rd:=[]) (by simp[Zf]) (Rl hc c.cM f3 (by omega) b2 (λσ3 t3 b3 h3=>?_) (λw σ3 t3 b3 h3=>?_))
 ·exact hK σ3 ((t1.trans t2).trans t3) b3
 refine Za rfl (Yl (Za rfl (Xe ?_)));exact hK σ3 ((t1.trans t2).trans t3) b3
def C5(n:Int)(_:Pt):Int×Bool:=(BY.wrap (n+1),decide (BY.wrap (n+1)<1073741824))
theorem Ydz:∀(l:List Pt) (n:Int),0<=n→n+(l.length:Int)<1073741824→gq C5 n l=(n+(l.length:Int),true)
 |[],n,_,_=>by simp[gq]
 |p::l,n,h1,h2=>by
  simp only[IS]at h2;have hw:BY.wrap (n+1)=n+1:=bw (by omega) (by omega);simp only[gq,C5,hw];rw[aI (by simp;omega),Ydz l (n+1) (by omega) (by omega),IS]
  congr 1;omega
theorem C4(b:Nat):M_ (.func (.func 197) [] [.ak b 0]) b (λn:Int=>[iv n]) C5:=by
 intro p v hv s σ K hb hK;refine Xd hP rfl g197.ok rfl ?_;show g197.u VV [v,.ak b 0] σ K;rw[H2.e];unfold g197;dsimp only;have cc:=Zb hb;refine Za (ld hb rfl) (Za (Xj ..) (Yd (c8 hb rfl rfl rfl) (Ze _ cc) ?_));have mi:ai (σ.set b (.box [iv (BY.wrap (s+1))])) b=.box [iv (BY.wrap (s+1))]:=Zd _ cc;refine Za (ld mi rfl) (Za (ZM ..) ?_);exact hK _ ⟨by simp,λc hc cU=>Xb _ hc cU⟩ mi
theorem c124(c:Cd)(f1:bF c.de=true)(f2:bF c.dead=true)(f3:bF c.cM=true)(hN:(pM c).length<=500000000):PC 168 [.agg (cN c)] (iv (pr c)):=by
 refine Xa hP g168.ok rfl rfl ?_;rw[H1.e];unfold g168;dsimp only;refine Yd rfl rfl (Yd rfl rfl (Yd rfl rfl (Za rfl ?_)));refine Xd hP rfl g196.ok rfl (c155 (C4 1) c f1 f2 f3 hN (s:=0) rfl rfl (λσ' _ hb=>?_));rw[Ydz _ 0 (by omega) (by omega)]at hb;refine Za (ld hb rfl) ?_;rw[IB]
 congr 1;omega
theorem QN(σ:List ab)(x:Ef):ub [.agg (bq x)] σ=.ok (.ak σ.length 0) [] [(σ.length,.box (bq x))]:=by rw[Qr];rfl
def eh{α:Type}(f:α→Bool):List α→Int→Int
 |[],_=>-1
 |x::l,n=>if f x=true then n else eh f l (n+1)
theorem Nz(f:α→Bool):∀(l:List α) (n:Int),0<=n→decide (0<=eh f l n)=l.any f
 |[],_,_=>rfl
 |x::l,n,h=>by
  by_cases hf:f x=true
  ·simp_all [eh]
  ·have e:eh f (x::l) n=eh f l (n+1):=aB hf;have Pm:f x=false:=by simpa using hf
   rw[e,Nz f l (n+1) (by omega),zCv,Pm];rfl
theorem Sl{P:Program}{GL:aw}{c d:Bool}{K:aa→Prop}{r1:aN}{f2 f3 f4:aa→aN}{v1 v2 v3:aa}{q1 q2 q3 q4:List Nat}(h1:r1=.ok v1 q1 [])(h2:f2 v1=.ok v2 q2 [])(h3:f3 v2=.ok v3 q3 [])(h4:f4 v3=.ok (.bool d) q4 [])(hK:K (.bool (c&&d))) :
  (W P GL).gr (.bool c) true (λk=>(W P GL).rd r1 k) λt1=>(W P GL).gr (.bool c) true (λk=>(W P GL).rd (f2 t1) k) λt2=>(W P GL).gr (.bool c) true (λk=>(W P GL).rd (f3 t2) k) λt3=>(W P GL).gr (.bool c) true (λk=>(W P GL).rd (f4 t3) k) λt4=>(W P GL).rd (Yo [.bool c,t4,.bool false] σ) K:=by
 cases c with
 |true=>exact Qa (Za h1 (Qa (Za h2 (Qa (Za h3 (Qa (Za h4 (Za rfl hK))))))))
 |false=>exact Qc rfl (Qc rfl (Qc rfl (Qc rfl (Za rfl hK))))
theorem c255(l:List Ef)(hl:l.length<=gy)(id:FuncId)(fs cs:List aa)(hp:Zh prog id=true)(f:Ef→Bool)(hc:∀x∈l,PC id (fs++[.agg (bq x)]++cs) (.bool (f x)))(hr:∀x,gh (fs++[.agg (bq x)]++cs)=true) :
  PC 233 [gZ l,.func (.func id) fs cs] (iv (eh f l 0)):=by
 rw[c9]at hl;refine Xa hP g233.ok rfl rfl ?_;rw[H2.e];unfold g233;dsimp only;refine Za (v:=iv l.length) (rd:=[]) (by simp[Zf]) (Xg (ι:=Nat) (λi vs s=>vs=[iv i]∧i<=l.length∧eh f l 0=eh f (l.drop i) i) (λi=>l.length-i) 0 ⟨rfl,by omega,by simp⟩ ?_);rintro i vs s again ⟨rfl,hi,j4⟩ bj;refine Za rfl (QM (λh=>?_) (λh=>?_))
 ·refine Za (Ym _ bq _ _ _ l _ i h) (Za (bB (mc _)) ?_);refine Qo (hc _ (AT h)) rfl hp (hr _) ?_;rw[gK h,eh]at j4;refine Ya (λh2=>?_) (λh2=>?_)
  ·rw[aI h2]at j4;rw[j4];rfl
  ·rw[aB (by rw[h2];simp)]at j4;refine Za (Xj ..) ?_;rw[Xc (n:=i) (by omega)]
   grind
 grind [eh]
theorem c239(l:List Ef)(hl:l.length<=gy)(id:FuncId)(fs cs:List aa)(hp:Zh prog id=true)(f:Ef→Bool)(hc:∀x∈l,PC id (fs++[.agg (bq x)]++cs) (.bool (f x)))(hr:∀x,gh (fs++[.agg (bq x)]++cs)=true)(HC:gh [gZ l,.func (.func id) fs cs]=true) :
  PC 215 [gZ l,.func (.func id) fs cs] (.bool (l.any f)):=by
 refine Xa hP g215.ok rfl rfl ?_;rw[H2.e];unfold g215;dsimp only;refine Qo (c255 l hl id fs cs hp f hc hr) rfl g233.ok.plain HC (Za (qP ..) ?_);rw[Nz f l 0 (by omega)]
def vY(u:Int):List aa:=[.func (.func 211) [.agg [aO u]] [],.func (.func 211) [.agg [aO u]] [],.func (.func 211) [.agg [aO u]] [],.func (.func 211) [.agg [aO u]] [],.func (.func 212) [.agg [aO u]] [],.func (.func 213) [.agg [aO u]] [],.func (.func 212) [.agg [aO u]] [],.func (.func 212) [.agg [aO u]] [],.func (.func 214) [.agg [aO u]] []]
theorem c240(u:Int)(x:Ef)(hf:dW x=true)(h238:x.op=8→PC 214 [.agg [aO u],.agg (bq x)] (.bool (tl u x))):PC 216 [.agg (bq x),.aq [aO u] 0,.aq (vY u) 0] (.bool (!tl u x)):=by
 have im:=QdT hf;refine Xa hP g216.ok rfl rfl ?_;rw[H3.e];unfold g216;dsimp only;refine Yd (QN _ _) rfl (ay (Za (ld rfl (gY x)) (Za (qP ..) ?_)));have p235:x.op=0∨x.op=1∨x.op=2∨x.op=3→PC 211 [.agg [aO u],.agg (bq x)] (.bool (tl u x)):=by
  intro h;have e:tl u x=decide (dC u (tH x.n)=0):=by rw[Ja,aB (by omega),aB (by omega),aI h]
  rw[e];exact c235 u x hf
 have p236:¬(x.op=0∨x.op=1∨x.op=2∨x.op=3)→x.op≠5→x.op≠8→PC 212 [.agg [aO u],.agg (bq x)] (.bool (tl u x)):=by
  intro h h5 h8;have e:tl u x=decide (mK u=0):=by simp_all [Ja,W8]
  rw[e];exact c236 u x
 have p237:x.op=5→PC 213 [.agg [aO u],.agg (bq x)] (.bool (tl u x)):=by
  intro h;have e:tl u x=G4 (dC u (tH x.n)) 1:=by rw[Ja,aI h]
  rw[e];exact c237 u x hf
 refine Sl rfl (ld rfl (gY x)) rfl (ZM ..) ?_;rw[bw (n:=x.op) (by omega) (by omega)];refine Qg λk11 mj=>?_;have hk:∀id,Zh prog id=true→PC id [.agg [aO u],.agg (bq x)] (.bool (tl u x))→k11 [.func (.func id) [.agg [aO u]] []] [.box (bq x)]:=by
  intro id hp hc;rw[mj];exact Za (ld rfl (mc x)) (Qo hc rfl hp (Ue u x) (Za rfl rfl))
 clear mj;refine Ya (λh=>?_) (λh=>?_)
 ·have h:0<=x.op∧x.op<9:=by simpa using h
  refine Za rfl (Za (ld rfl (gY x)) ?_);have gH:x.op=0∨x.op=1∨x.op=2∨x.op=3∨x.op=4∨x.op=5∨x.op=6∨x.op=7∨x.op=8:=by omega
  rcases gH with e|e|e|e|e|e|e|e|e
  ·have q:=p235 (by omega);rw[e];exact Za rfl (Za rfl (hk _ g211.ok.plain q))
  ·have q:=p235 (by omega);rw[e];exact Za rfl (Za rfl (hk _ g211.ok.plain q))
  ·have q:=p235 (by omega);rw[e];exact Za rfl (Za rfl (hk _ g211.ok.plain q))
  ·have q:=p235 (by omega);rw[e];exact Za rfl (Za rfl (hk _ g211.ok.plain q))
  ·have q:=p236 (by omega) (by omega) (by omega);rw[e];exact Za rfl (Za rfl (hk _ g212.ok.plain q))
  ·have q:=p237 e;rw[e];exact Za rfl (Za rfl (hk _ g213.ok.plain q))
  ·have q:=p236 (by omega) (by omega) (by omega);rw[e];exact Za rfl (Za rfl (hk _ g212.ok.plain q))
  ·have q:=p236 (by omega) (by omega) (by omega);rw[e];exact Za rfl (Za rfl (hk _ g212.ok.plain q))
  ·have q:=h238 e;rw[e];exact Za rfl (Za rfl (hk _ g214.ok.plain q))
 ·have h:0<=x.op→¬x.op<9:=by simpa using h
  exact hk _ g212.ok.plain (p236 (by omega) (by omega) (by omega))
theorem c238(u:Int)(x:Ef)(hf:dW x=true)(h1:∀u',PC 193 [.agg [aO u'],gZ x.bQ] (.bool (ij u' x.bQ)))(h2:∀u',PC 193 [.agg [aO u'],gZ x.bV] (.bool (ij u' x.bV))) :
  PC 214 [.agg [aO u],.agg (bq x)] (.bool (ij (dC u (tj x.c)) x.bQ&&ij (dC u (tj x.c)) x.bV)):=by
 refine Xa hP g214.ok rfl rfl ?_;rw[H2.e];unfold g214;dsimp only;refine Yd rfl rfl (Yd (QN _ _) rfl ?_);refine ay (Xf (ld rfl (oF x)) rfl (Xt (c254 _ (Z8 hf)) rfl g232.ok.plain (rD _) (i_ (c250 _ _) g228.ok ?_)));refine ay (Za (ld rfl (CE x)) (a_ (h1 _) g193.ok ?_));rcases cD (ij (dC u (tj x.c)) x.bQ)with h|h
 ·rw[h];refine ay (Za (ld rfl (CW x)) (Qp ?_));exact a_ (h2 _) g193.ok (Za rfl rfl)
 ·rw[h];exact ay rfl
theorem YcH(u:Int):∀l,ij u l=l.all (tl u)
 |[]=>rfl
 |x::l=>by simp[ij,YcH u l]
theorem ug(k:Nat):∀(l:List Ef) (u:Int),zAV l<=k→bF l=true→PC 193 [.agg [aO u],gZ l] (.bool (ij u l)):=by
 induction k with
 |zero=>intro l _ h _;cases l<;>simp at h
 |succ k ug=>
  intro l u hk hf;refine Xa hP g193.ok rfl rfl ?_;rw[H2.e];unfold g193;dsimp only;refine ay ?_;have hc:∀x∈l,PC 216 ([]++[.agg (bq x)]++[.aq [aO u] 0,.aq (vY u) 0]) (.bool (!tl u x)):=by
   intro x hx;have jN:=YP hf hx;refine c240 u x jN (λh8=>?_);have e:tl u x=(ij (dC u (tj x.c)) x.bQ&&ij (dC u (tj x.c)) x.bV):=by simp[h8,Ja]
   have hs:=zBN hx;have qw:=G3 x;rw[e];exact c238 u x jN (λu'=>ug x.bQ u' (by omega) (ZP jN)) (λu'=>ug x.bV u' (by omega) (QO jN))
  refine ZH (c239 l (ZC hf) 216 [] [.aq [aO u] 0,.aq (vY u) 0] g216.ok.plain (λx=>!tl u x) hc (λx=>by rw[Qr];rfl) rfl) rfl g215.ok.plain rfl rfl (Za rfl ?_);simp[YcH,List.any_eq_not_all_not]
theorem c222(l:List Ef)(u:Int)(hf:bF l=true):PC 193 [.agg [aO u],gZ l] (.bool (ij u l)):=ug _ l u (No _) hf
theorem c182(cs:List Cd)(hf:QG cs=true):PC 162 [iM cs] (.agg [iv (jC cs).1,iv (jC cs).2]):=by
 simp only[QG,AI,fD]at hf;obtain⟨f0,f1⟩:=hf;rw[c9]at f0;refine Xa hP g162.ok rfl rfl ?_;rw[H1.e];unfold g162;dsimp only;refine Yd rfl rfl (Za rfl (Yd rfl rfl (Yd rfl rfl ?_)));refine Za (v:=iv cs.length) (rd:=[]) (by simp[Zf]) (Xg (ι:=Nat) (λi vs σ=>vs=[iv i]∧ai σ 0=.box [iv 0,iv 0]∧ai σ 1=.box [aO 0]∧0<σ.length∧i<=cs.length∧jC cs=jC (cs.drop i)) (λi=>cs.length-i) 0 ⟨rfl,rfl,rfl,by simp,by omega,by simp⟩ ?_);rintro i vs σ again ⟨rfl,hz,ho,mJ,hi,hu⟩ bj;refine Za rfl (Ya (λh=>?_) (λh=>?_));rotate_left
 ·have h:i=cs.length:=by simp at h;omega
  subst h;rw[zAD,jC]at hu;refine Za rfl (Yd (c8 hz rfl rfl rfl) (Ze _ mJ) (Zp (Yr mJ rfl) ?_));rw[hu]
 have hi:i<cs.length:=by simpa using h
 have dY:cs.drop i=cs[i]::cs.drop (i+1):=by rw[gK hi]
 have cB:=λ(s:List ab)=>Ym s cN false false 12 cs .i64 i hi;have uy:=zAm.1 f1 _ (AT hi);generalize cs[i]=c at dY cB uy;rw[dY,jC]at hu;simp only[iz,AI,fD]at uy;obtain⟨g0,g1,g2,g9993⟩:=uy;refine Za (cB _) (Za (bB (qg _)) (Zv (row:=cN c) (row':=cN c) rfl rfl rfl ?_));have dM:=Yc σ (ab.box (cN c));have tE:ai (σ++[ab.box (cN c)]) 0=.box [iv 0,iv 0]:=Qb _ hz;have fR:ai (σ++[ab.box (cN c)]) 1=.box [aO 0]:=Qb _ ho;have qz:0<(σ++[ab.box (cN c)]).length:=by simp
 generalize σ++[ab.box (cN c)]=base at dM tE fR qz ⊢;generalize σ.length=b at dM ⊢;clear hz mJ ho;refine Za (ld fR rfl) (Za rfl (Za (ld dM rfl) ?_));refine a_ (c222 _ 0 g1) g193.ok (Za rfl ?_);apply tk
 ·intro hR;repeat' (first
   |refine a_ (c222 _ 0 g2) g193.ok ?_
   |refine a_ (c222 _ 0 g9993) g193.ok ?_
   | refine od (λh=>?_) (λh=>?_) <;> (try rw[h])) <;> (refine ah ?_)
  all_goals exact CF (V:=!JI c) (hR ⟨⟩) (by grind [JI])
 refine Ya (λhc=>?_) (λhc=>?_)
 ·have hu:jC cs=(140,c.pl):=by grind
  refine ag (Yd (c8 tE rfl rfl rfl) (Ze _ qz) (Zp (Yr qz rfl) ?_));rw[hu]
 refine ag ?_;rw[Xc (n:=i) (by omega)];exact bj (i+1) _ _ (by omega) ⟨rfl,tE,fR,qz,by omega,by grind⟩
theorem c259(l:List Cd)(hl:l.length<=gy)(id:FuncId)(fs cs:List aa)(hp:Zh prog id=true)(f:Cd→Bool)(hc:∀x∈l,PC id (fs++[.agg (cN x)]++cs) (.bool (f x)))(hr:∀x,gh (fs++[.agg (cN x)]++cs)=true) :
  PC 121 [iM l,.func (.func id) fs cs] (iv (eh f l 0)):=by
 rw[c9]at hl;refine Xa hP g121.ok rfl rfl ?_;rw[H2.e];unfold g121;dsimp only;refine Za (v:=iv l.length) (rd:=[]) (by simp[Zf]) (Xg (ι:=Nat) (λi vs s=>vs=[iv i]∧i<=l.length∧eh f l 0=eh f (l.drop i) i) (λi=>l.length-i) 0 ⟨rfl,by omega,by simp⟩ ?_);rintro i vs s again ⟨rfl,hi,j4⟩ bj;refine Za rfl (QM (λh=>?_) (λh=>?_))
 ·refine Za (Ym _ cN _ _ _ l _ i h) (Za (bB (qg _)) ?_);refine Qo (hc _ (AT h)) rfl hp (hr _) ?_;rw[gK h,eh]at j4;refine Ya (λh2=>?_) (λh2=>?_)
  ·rw[aI h2]at j4;rw[j4];rfl
  ·rw[aB (by rw[h2];simp)]at j4;refine Za (Xj ..) ?_;rw[Xc (n:=i) (by omega)];exact bj (i+1) _ _ (by omega) ⟨rfl,by omega,by rw[j4];push_cast;rfl⟩
 ·subst h;rw[zAD,eh]at j4;rw[j4]
theorem Qdr(t:Tx):∀(l:List Cd) (n:Nat),((gf n l t).2=true∧n<=(gf n l t).1∧(gf n l t).1<n+l.length∧eh (λc=>c.name==t) l (n:Int)=((gf n l t).1:Int))∨((gf n l t)=(0,false)∧eh (λc=>c.name==t) l (n:Int) = -1)
 |[],n=>.inr ⟨rfl,rfl⟩
 |c::l,n=>by
  by_cases h:c.name==t
  ·left;have e1:gf n (c::l) t=(n,true):=aI h;have e2:eh (λc:Cd=>c.name==t) (c::l) (n:Int)=n:=aI h;rw[e1,e2];simp
  ·have e1:gf n (c::l) t=gf (n+1) l t:=aB h;have e2:eh (λc:Cd=>c.name==t) (c::l) (n:Int)=eh (λc:Cd=>c.name==t) l ((n+1:Nat):Int):=by
    have:=(aB h:(if (c.name==t)=true then (n:Int)else eh (λc:Cd=>c.name==t) l ((n:Int)+1))=_)
    push_cast;exact this
   rw[e1,e2];rcases Qdr t l (n+1)with ⟨q1,q2,q3,q4⟩|q
   ·exact .inl ⟨q1,by omega,by simp;omega,q4⟩
   ·exact .inr q
theorem c244(c:Cd)(t:Tx):PC 178 [.agg (cN c),.aq [.str t] 0] (.bool (c.name==t)):=by
 refine Xa hP g178.ok rfl rfl ?_;rw[H2.e];unfold g178;dsimp only;exact Yd rfl rfl (Za rfl (Za (ld rfl rfl) (Za rfl (Za rfl rfl))))
theorem c243(l:List Cd)(hl:l.length<=gy)(t:Tx)(x:ab)(K:KT)(hK:∀cs σ,cs.all aa.cell=true→cs.length=12→K (.bp [.agg cs,iv (gf 0 l t).1,.bool (gf 0 l t).2]) ([x,.box [.str t]]++σ)) :
  g177.u VV [iM l,.func (.func 178) [] [.ak 1 0]] [x,.box [.str t]] K:=by
 have hc:=c259 l hl 178 [] [.aq [.str t] 0] g178.ok.plain (λc=>c.name==t) (λx _=>c244 x t) (λx=>rfl);rw[H2.e];unfold g177;dsimp only;refine Yd rfl rfl (ZH hc rfl g121.ok.plain rfl rfl ?_);clear hc;rcases Qdr t l 0 with ⟨q1,q2,q3,q4⟩|⟨q1,q4⟩
 ·rw[IN]at q3;have q4:eh (λc=>c.name==t) l 0=((gf 0 l t).1:Int):=q4;rw[q4];rw[q1]at hK;generalize (gf 0 l t).1=i at q2 q3 hK ⊢;refine Za (ZM ..) ?_;rw[gB (by omega)];refine Xe (Za (Ym _ cN _ _ _ l _ i q3) (Za (bB (qg _)) ?_));exact ay (hK (cN l[i]) _ rfl rfl)
 ·have q4:eh (λc=>c.name==t) l 0 = -1:=q4;rw[q4];rw[q1]at hK;exact ay (hK [.str [],.bool false,iv 0,iv 0,iv 0,iv 0,iv 0,iv 0,.al,.al,.al,iv 0] _ rfl rfl)
theorem Yef(cs:List aa)(h:cs.all aa.cell=true):cellsOf (.agg cs)=some cs:=by simp[cellsOf,h]
theorem ZbO:∀(a b:List α),a.length=b.length→bX 0 a b=some a
 |[],[],_=>rfl
 |x::a,y::b,h=>by simp only[bX,ZbO a b (by simpa using h)]
theorem c224(b:Bk)(hl:b.aj.length<=gy)(t:Tx):PC 130 [cE b,.str t] (.bp [iv (gf 0 b.aj t).1,.bool (gf 0 b.aj t).2]):=by
 refine Xa hP g130.ok rfl rfl ?_;rw[H2.e];unfold g130;dsimp only;refine ay (Xd hP rfl g177.ok rfl (c243 b.aj hl t _ _ (λcs σ h1 h2=>?_)));refine ay ?_;refine Zv (row:=cs) (row':=cs) (Yef cs h1) (by rw[h2];rfl) (ZbO _ _ (by rw[h2];rfl)) ?_;rfl
end Go.Ah.Tz
end
