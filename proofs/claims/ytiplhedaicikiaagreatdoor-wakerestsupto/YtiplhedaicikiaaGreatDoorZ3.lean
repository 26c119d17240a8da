/- Part of the proof that WakeRests holds of the program for arguments that together hold at most 1048576 values and letters; no other condition. -/
import Derived.Test.YtiplhedaicikiaaGreatDoorZ2
import Derived.KernelRfl
import Derived.Test.YtiplhedaicikiaaGreatDoorProg
set_option linter.all false
open BitVec renaming ofInt->zCt,toNat_ofInt->zDn
open Bool renaming and_assoc->zCM,and_eq_true->AI,and_false->zBu,and_self->zAu,and_true->zAz,eq_false_iff->zBF,eq_iff_iff->zAk,false_and->zBe,false_eq_true->zAS,false_or->zCR,not_false->zBw,true_and->zAF
open Go.IntKind renaming i64->BY
open Go.IntWalk renaming i64_in->zAZ
open Go.Utf8 renaming decode->zBc,runeError->zBI,valid->zDK
open List renaming all_eq_true->zAj,any_cons->zCu,cons_append->zAL,drop_eq_nil_of_le->zCY,drop_length->zAD,getElem?_eq_getElem->zAU,getElem_mem->AT,getElem_of_mem->zBp,getElem_take->zCw,length->zCo,length_append->By,length_cons->IS,length_map->zAH,length_nil->zAG,length_take->zAq,map->zDv,map_append->zAe,map_cons->zAN,map_nil->zBC,mem_append->zAI,mem_cons->zAR,mem_map->zAt,mem_take_iff_getElem->zDR,nil_append->zAM,sizeOf_lt_of_mem->zBL,take_length->zAr,take_of_length_le->zAs,take_succ_eq_append_getElem->zAp
open Nat renaming beq->IN,blt->zAi,le_refl->IT,sub_self->zDP,zero_add->No
open Or renaming inl->zDi
open SizeOf renaming sizeOf->zAT
section
namespace Go.Ah
section
variable {α β:Type}
abbrev Hl{α β:Type}:List α→(List α→β)→β
 |[],k=>k []
 |x::l,k=>Hl l λl=>k (x::l)
theorem HU{α β:Type}:∀(l:List α) (k:List α→β),Hl l k=k l
 |[],_=>rfl
 |x::l,k=>HU l λl=>k (x::l)
abbrev OB{α:Type}(d:Nat):Frame→(Frame→α)→α
 |[],k=>k []
 |(q,u)::r,k=>match IN q d with
  |true=>k r
  |false=>OB d r λr=>k ((q,u)::r)
theorem WX{α:Type}(d:Nat):∀(ρ:Frame) (k:Frame→α),OB d ρ k=k (uF d ρ)
 |[],_=>rfl
 |(q,u)::r,k=>by
  simp only[OB,uF];cases IN q d
  ·simp only[];rw[WX d r]
  ·rfl
abbrev pV:Frame→Nat→(aa→β)→β
 |[],_,k=>k .aQ
 |(q,v)::r,n,k=>match IN q n with
  |true=>k v
  |false=>pV r n k
theorem Cp(n:Nat)(k:aa→β):∀ρ,pV ρ n k=k (bL ρ n)
 |[]=>rfl
 |(q,v)::r=>by
  simp only[pV,bL];cases IN q n
  ·exact Cp n k r
  ·rfl
abbrev Jz(ρ:Frame):se→(aa→β)→β
 |.t n,k=>pV ρ n k
 |.c v,k=>k v
theorem M4(ρ:Frame)(x:se)(k:aa→β):Jz ρ x k=k (ev ρ x):=by
 cases x
 ·exact Cp ..
 ·rfl
abbrev pd(ρ:Frame):List se→(List aa→β)→β
 |[],k=>k []
 |x::r,k=>Jz ρ x λv=>pd ρ r λvs=>k (v::vs)
theorem PN(ρ:Frame):∀(l:List se) (k:List aa→β),pd ρ l k=k (l.map (ev ρ))
 |[],_=>rfl
 |x::r,k=>by simp[M4,PN]
abbrev kQ(d:Option Nat)(v:aa)(ρ:Frame)(k:Frame→β):β:=match d with
 |some d=>OB d ρ λr=>k ((d,v)::r)
 |none=>k ρ
theorem W5(d:Option Nat)(v:aa)(ρ:Frame)(k:Frame→β):kQ d v ρ k=k (cz d v ρ):=by
 cases d
 ·rfl
 ·simp only[kQ,WX];rfl
abbrev pG(ρ:Frame):List Nat→(List aa→β)→β
 |[],k=>k []
 |s::r,k=>pV ρ s λv=>pG ρ r λvs=>k (v::vs)
theorem RM(ρ:Frame):∀(l:List Nat) (k:List aa→β),pG ρ l k=k (iB ρ l)
 |[],_=>rfl
 |x::r,k=>by simp only[pG,Cp,RM ρ r];rfl
abbrev pD(l:List Nat):Frame→(Frame→β)→β
 |[],k=>k []
 |(q,v)::r,k=>match ue q l with
  |true=>pD l r k
  |false=>pD l r λr=>k ((q,v)::r)
theorem Sn(l:List Nat):∀(ρ:Frame) (k:Frame→β),pD l ρ k=k (cU l ρ)
 |[],_=>rfl
 |(q,v)::r,k=>by
  simp only[pD,cU];cases ue q l<;>simp only[Sn l r]
abbrev xZ:List Nat→List aa→Frame→(Frame→β)→β
 |[],_,ρ,k=>k ρ
 |s::ks,vs,ρ,k=>xZ ks (jC vs) ρ λr=>k ((s,qB vs)::r)
theorem SN:∀(l:List Nat) (vs:List aa) (ρ:Frame) (k:Frame→β),xZ l vs ρ k=k (lH l vs ρ)
 |[],_,_,_=>rfl
 |s::ks,vs,ρ,k=>by simp only[xZ,SN ks];rfl
def qC(A:aF α):=A.call
def qD(A:aF α):=A.eS
def qT(A:aF α):=A.test
def qL(A:aF α):=A.loop
def qS(A:aF α):=A.stop
def CL(A:aF α)(o:aM)(ρ:Frame)(σ:List ab)(K:Frame→List ab→α):α:=
 match o.guard with
 |none=>match fo o.k with
  |.mv=>match o.xs with
   |[x]=>Jz ρ x λv=>kQ o.dst v ρ λρ=>K ρ σ
   |_=>qS A
  |.pu | .rd=>pd ρ o.xs λvs=>A.rd (eW o.k vs σ) λv=>kQ o.dst v ρ λρ=>K ρ σ
  |.wr=>pd ρ o.xs λvs=>A.wr (eW o.k vs σ) σ λv σ=>kQ o.dst v ρ λρ=>K ρ σ
  |.call=>pd ρ o.xs λvs=>qC A o.k vs σ λv σ=>kQ o.dst v ρ λρ=>K ρ σ
 |some (s,w)=>pd ρ o.xs λvs=>pV ρ s λc=>match fo o.k with
  |.mv | .pu | .rd=>A.gr c w (λk=>A.rd (eW o.k vs σ) k) λv=>kQ o.dst v ρ λρ=>K ρ σ
  |.wr=>A.gw c w (λk=>A.wr (eW o.k vs σ) σ k) σ λv σ=>kQ o.dst v ρ λρ=>K ρ σ
  |.call=>A.gw c w (λk=>qC A o.k vs σ k) σ λv σ=>kQ o.dst v ρ λρ=>K ρ σ
theorem Xd7(A:aF α)(o:aM)(ρ:Frame)(σ:List ab)(K:Frame→List ab→α):CL A o ρ σ K=vX A o ρ σ K:=by
 unfold CL vX;simp only[M4,PN,Cp,W5];rfl
def nZ(A:aF α):List aM→Frame→List ab→(Frame→List ab→α)→α
 |[],ρ,σ,K=>K ρ σ
 |o::r,ρ,σ,K=>CL A o ρ σ λρ σ=>nZ A r ρ σ K
theorem H'(A:aF α):∀(l:List aM) (ρ:Frame) (σ:List ab) (K:Frame→List ab→α),nZ A l ρ σ K=js A l ρ σ K
 |[],_,_,_=>rfl
 |o::r,ρ,σ,K=>by simp only[nZ,js,Xd7,H' A r]
def vV(A:aF α)(o:aM)(ρ:Frame)(σ:List ab)(lg:Log)(K:Frame→List ab→Log→α):α:=
 match o.guard with
 |none=>match fo o.k with
  |.mv=>match o.xs with
   |[x]=>Jz ρ x λv=>kQ o.dst v ρ λρ=>K ρ σ (lg++[([],[])])
   |_=>qS A
  |.pu=>pd ρ o.xs λvs=>A.pu (eW o.k vs σ) λv=>kQ o.dst v ρ λρ=>K ρ σ (lg++[([],[])])
  |.rd | .wr=>pd ρ o.xs λvs=>A.dr (eW o.k vs σ) σ λv l σ=>kQ o.dst v ρ λρ=>K ρ σ (lg++[l])
  |.call=>pd ρ o.xs λvs=>qD A o.k vs σ λv l σ=>kQ o.dst v ρ λρ=>K ρ σ (lg++[l])
 |some (s,w)=>pd ρ o.xs λvs=>pV ρ s λc=>match fo o.k with
  |.mv | .pu=>A.gr c w (λk=>A.pu (eW o.k vs σ) k) λv=>kQ o.dst v ρ λρ=>K ρ σ (lg++[([],[])])
  |.rd | .wr=>A.gl c w (λk=>A.dr (eW o.k vs σ) σ k) σ λv l σ=>kQ o.dst v ρ λρ=>K ρ σ (lg++[l])
  |.call=>A.gl c w (λk=>qD A o.k vs σ k) σ λv l σ=>kQ o.dst v ρ λρ=>K ρ σ (lg++[l])
theorem XdK(A:aF α)(o:aM)(ρ:Frame)(σ:List ab)(lg:Log)(K:Frame→List ab→Log→α):vV A o ρ σ lg K=qZ A o ρ σ lg K:=by
 unfold vV qZ;simp only[M4,PN,Cp,W5];rfl
def Hw(A:aF α):List aM→Frame→List ab→Log→(Frame→List ab→Log→α)→α
 |[],ρ,σ,lg,K=>K ρ σ lg
 |o::r,ρ,σ,lg,K=>vV A o ρ σ lg λρ σ lg=>Hl lg λlg=>Hw A r ρ σ lg K
theorem Rc(A:aF α):∀(l:List aM) (ρ:Frame) (σ:List ab) (lg:Log) (K:Frame→List ab→Log→α),Hw A l ρ σ lg K=Ct A l ρ σ lg K
 |[],_,_,_,_=>rfl
 |o::r,ρ,σ,lg,K=>by simp only[Hw,Ct,XdK,Rc A r,HU]
def n8(A:aF α)(hd:List (List Nat)):Nat→vz→Frame→List ab→(Frame→List ab→α)→α
 |_,[],ρ,σ,K=>K ρ σ
 |lo,(ft,true)::r,ρ,σ,K=>nZ A ft ρ σ λρ σ=>n8 A hd (lo+ft.length) r ρ σ K
 |lo,(ft,false)::r,ρ,σ,K=>match lD ft with
  |true=>nZ A ft ρ σ λρ σ=>n8 A hd (lo+ft.length) r ρ σ K
  |false=>Hw A ft ρ σ [] λρ σ lg=>A.gd (Zj (oA hd lo ft.length) lg) (n8 A hd (lo+ft.length) r ρ σ K)
theorem P'(A:aF α)(hd:List (List Nat)):∀(lo:Nat) (l:vz) (ρ:Frame) (σ:List ab) (K:Frame→List ab→α),n8 A hd lo l ρ σ K=kS A hd lo l ρ σ K
 |_,[],_,_,_=>rfl
 |lo,(ft,true)::r,ρ,σ,K=>by simp only[n8,kS,H',P' A hd _ r]
 |lo,(ft,false)::r,ρ,σ,K=>by simp only[n8,kS,H',Rc,P' A hd _ r]<;>cases lD ft<;>rfl
def dm(A:aF α):bK→Frame→List ab→(Frame→List ab→α)→(Nat→Frame→List ab→α)→(Frame→List ab→α)→α
 |.skip,ρ,σ,K,_,_=>K ρ σ
 |.label _,ρ,σ,K,_,_=>K ρ σ
 |.region _ ms none,ρ,σ,K,_,_=>nZ A ms ρ σ K
 |.region _ ms (some hd),ρ,σ,K,_,_=>match lD ms with
  |true=>nZ A ms ρ σ K
  |false=>Hw A ms ρ σ [] λρ σ lg=>A.gd (Zj hd lg) (K ρ σ)
 |.iD _ ps hd,ρ,σ,K,_,_=>n8 A hd 0 ps ρ σ K
 |.seq a b,ρ,σ,K,E,R=>dm A a ρ σ (λρ σ=>dm A b ρ σ K E R) E R
 |.cond c a b,ρ,σ,K,E,R=>Jz ρ c λc=>qT A c (dm A a ρ σ K E R) (dm A b ρ σ K E R)
 |.join lv a,ρ,σ,K,E,R=>cI (λk=>dm A a ρ σ (λρ' σ=>pG ρ' lv λvs=>k vs σ) E R) (λvs σ=>Hl a.kK λl=>pD l ρ λr=>xZ lv vs r λr=>K r σ)
 | .block id a,ρ,σ,K,E,R=>dm A a ρ σ K (λi ρ σ=>match IN i id with
  |true=>K ρ σ
  | false=>E i ρ σ) R
 |.loop lv a,ρ,σ,_,E,R=>pG ρ lv λvs=>qL A (λagain vs σ=>Hl a.kK λl=>pD l ρ λr=>xZ lv vs r λr=>dm A a r σ (λρ' σ=>pG ρ' lv λvs=>again vs σ) E R) vs σ
 |.exit id,ρ,σ,_,E,_=>E id ρ σ
 |.scope a,ρ,σ,K,E,R=>dm A a ρ σ K E R
 |.ret,ρ,σ,_,_,R=>R ρ σ
theorem yQ(A:aF α):∀(D:bK) (ρ:Frame) (σ:List ab) (K:Frame→List ab→α) (E:Nat→Frame→List ab→α) (R:Frame→List ab→α),dm A D ρ σ K E R=dn A D ρ σ K E R
 |.skip,_,_,_,_,_=>rfl
 |.label _,_,_,_,_,_=>rfl
 |.region _ ms none,ρ,σ,K,E,R=>by simp only[dm,dn,H']
 |.region _ ms (some hd),ρ,σ,K,E,R=>by simp only[dm,dn,H',Rc]<;>cases lD ms<;>rfl
 |.iD _ ps hd,ρ,σ,K,E,R=>by simp only[dm,dn,P']
 |.seq a b,ρ,σ,K,E,R=>by simp only[dm,dn,yQ A a,yQ A b]
 |.cond c a b,ρ,σ,K,E,R=>by simp only[dm,dn,qT,yQ A a,yQ A b,M4]
 |.join lv a,ρ,σ,K,E,R=>by simp only[dm,dn,yQ A a,RM,HU,Sn,SN]
 |.block id a,ρ,σ,K,E,R=>by simp only[dm,dn,yQ A a]<;>rfl
 |.loop lv a,ρ,σ,K,E,R=>by simp only[dm,dn,qL,yQ A a,RM,HU,Sn,SN]
 |.exit id,_,_,_,_,_=>rfl
 |.scope a,ρ,σ,K,E,R=>by simp only[dm,dn,yQ A a]
 |.ret,_,_,_,_,_=>rfl
def Ce(A:aF α):List RV→Frame→List ab→(List aa→α)→α
 |[],_,_,K=>K []
 |.t n::r,ρ,σ,K=>pV ρ n λv=>Ce A r ρ σ λvs=>K (v::vs)
 |.c s agg n::r,ρ,σ,K=>pV ρ s λx=>A.opt (im agg n x σ) λv=>Ce A r ρ σ λvs=>K (v::vs)
theorem Sy(A:aF α):∀(l:List RV) (ρ:Frame) (σ:List ab) (K:List aa→α),Ce A l ρ σ K=yU A l ρ σ K
 |[],_,_,_=>rfl
 |.t n::r,ρ,σ,K=>by simp only[Ce,yU,Cp,Sy A r]
 |.c s agg n::r,ρ,σ,K=>by simp only[Ce,yU,Cp,Sy A r]
def lR(A:aF α)(o:Option vy)(xs:List aa)(σ:List ab)(ret:aa→List ab→α):α:=match o with
 |some D=>Hl (eO xs) λρ=>dm A D.body ρ σ (λρ σ=>Ce A D.gE ρ σ λvs=>ret (pL vs) σ) (λ_ _ _=>qS A) (λρ σ=>Ce A D.gE ρ σ λvs=>ret (pL vs) σ)
 |none=>qS A
theorem Yd7(A:aF α)(D:vy)(xs:List aa)(σ:List ab)(ret:aa→List ab→α):lR A (some D) xs σ ret=vW A D xs σ ret:=by
 simp[lR,vW,qS,HU,yQ,Sy]
end
theorem yV(n:Nat)(h:n<2 ^ 8):UInt8.ofBitVec (BitVec.ofFin ⟨n,h⟩)=UInt8.ofNat n:=by
 apply UInt8.toNat_inj.1;simp;exact(Nat.mod_eq_of_lt h).symm
section
variable {P:Program} {GL:ar} {f:FuncId} {l:List (Option (List Nat))}
theorem yY{np:Nat}{g:fz}(h:(eI P GL np f l).isSome=true)(hg:∀ {α:Type} (A:aF α) (xs:List aa) (σ:List ab) (ret:aa→List ab→α),xs.length=np→lR A (eI P GL np f l) xs σ ret=g A xs σ ret):mB P GL f np g:=by
 cases hD:eI P GL np f l with
 |none=>rw[hD]at h;cases h
 |some D=>
  refine Zet hD (λα A xs σ ret hn=>?_);simp_all [Yd7]
end
structure H0 (P:Program) (GL:ar) (f:FuncId) (l:List (Option (List Nat))):Type 1 where
 g:∀ {α:Type},aF α→List ab→(aa→List ab→α)→α
 h:∀ {α:Type} (A:aF α) σ ret,lR A (eI P GL 0 f l) [] σ ret=g A σ ret:=by intros;conv=>lhs;reduce;simp only[Int.reduceOfNat,Int.reduceNegSucc,yV,UInt8.reduceOfNat,qC,qD,qT,qL,qS]
 k:(eI P GL 0 f l).isSome=true:=by kernel_rfl
abbrev H0.u{P:Program}{GL:ar}{f:FuncId}{l:List (Option (List Nat))}(q:H0 P GL f l):fz:=λA xs σ r=>match xs with
 |[]=>q.g A σ r
 |_=>A.stop
theorem H0.ok{P:Program}{GL:ar}{f:FuncId}{l:List (Option (List Nat))}(q:H0 P GL f l):mB P GL f 0 q.u:=yY q.k λA xs σ ret hn=>by
 match xs,hn with
 |[],_=>exact q.h A σ ret
structure H1 (P:Program) (GL:ar) (f:FuncId) (l:List (Option (List Nat))):Type 1 where
 g:∀ {α:Type},aF α→aa→List ab→(aa→List ab→α)→α
 h:∀ {α:Type} (A:aF α) x σ ret,lR A (eI P GL 1 f l) [x] σ ret=g A x σ ret:=by intros;conv=>lhs;reduce;simp only[Int.reduceOfNat,Int.reduceNegSucc,yV,UInt8.reduceOfNat,qC,qD,qT,qL,qS]
 k:(eI P GL 1 f l).isSome=true:=by kernel_rfl
abbrev H1.u{P:Program}{GL:ar}{f:FuncId}{l:List (Option (List Nat))}(q:H1 P GL f l):fz:=λA xs σ r=>match xs with
 |[x]=>q.g A x σ r
 |_=>A.stop
theorem H1.ok{P:Program}{GL:ar}{f:FuncId}{l:List (Option (List Nat))}(q:H1 P GL f l):mB P GL f 1 q.u:=yY q.k λA xs σ ret hn=>by
 match xs,hn with
 |[x],_=>exact q.h A x σ ret
structure H2 (P:Program) (GL:ar) (f:FuncId) (l:List (Option (List Nat))):Type 1 where
 g:∀ {α:Type},aF α→aa→aa→List ab→(aa→List ab→α)→α
 h:∀ {α:Type} (A:aF α) x y σ ret,lR A (eI P GL 2 f l) [x,y] σ ret=g A x y σ ret:=by intros;conv=>lhs;reduce;simp only[Int.reduceOfNat,Int.reduceNegSucc,yV,UInt8.reduceOfNat,qC,qD,qT,qL,qS]
 k:(eI P GL 2 f l).isSome=true:=by kernel_rfl
abbrev H2.u{P:Program}{GL:ar}{f:FuncId}{l:List (Option (List Nat))}(q:H2 P GL f l):fz:=λA xs σ r=>match xs with
 |[x,y]=>q.g A x y σ r
 |_=>A.stop
theorem H2.ok{P:Program}{GL:ar}{f:FuncId}{l:List (Option (List Nat))}(q:H2 P GL f l):mB P GL f 2 q.u:=yY q.k λA xs σ ret hn=>by
 match xs,hn with
 |[x,y],_=>exact q.h A x y σ ret
structure H3 (P:Program) (GL:ar) (f:FuncId) (l:List (Option (List Nat))):Type 1 where
 g:∀ {α:Type},aF α→aa→aa→aa→List ab→(aa→List ab→α)→α
 h:∀ {α:Type} (A:aF α) x y z σ ret,lR A (eI P GL 3 f l) [x,y,z] σ ret=g A x y z σ ret:=by intros;conv=>lhs;reduce;simp only[Int.reduceOfNat,Int.reduceNegSucc,yV,UInt8.reduceOfNat,qC,qD,qT,qL,qS]
 k:(eI P GL 3 f l).isSome=true:=by kernel_rfl
abbrev H3.u{P:Program}{GL:ar}{f:FuncId}{l:List (Option (List Nat))}(q:H3 P GL f l):fz:=λA xs σ r=>match xs with
 |[x,y,z]=>q.g A x y z σ r
 |_=>A.stop
theorem H3.ok{P:Program}{GL:ar}{f:FuncId}{l:List (Option (List Nat))}(q:H3 P GL f l):mB P GL f 3 q.u:=yY q.k λA xs σ ret hn=>by
 match xs,hn with
 |[x,y,z],_=>exact q.h A x y z σ ret
structure H4 (P:Program) (GL:ar) (f:FuncId) (l:List (Option (List Nat))):Type 1 where
 g:∀ {α:Type},aF α→aa→aa→aa→aa→List ab→(aa→List ab→α)→α
 h:∀ {α:Type} (A:aF α) x y z u σ ret,lR A (eI P GL 4 f l) [x,y,z,u] σ ret=g A x y z u σ ret:=by intros;conv=>lhs;reduce;simp only[Int.reduceOfNat,Int.reduceNegSucc,yV,UInt8.reduceOfNat,qC,qD,qT,qL,qS]
 k:(eI P GL 4 f l).isSome=true:=by kernel_rfl
abbrev H4.u{P:Program}{GL:ar}{f:FuncId}{l:List (Option (List Nat))}(q:H4 P GL f l):fz:=λA xs σ r=>match xs with
 |[x,y,z,u]=>q.g A x y z u σ r
 |_=>A.stop
theorem H4.ok{P:Program}{GL:ar}{f:FuncId}{l:List (Option (List Nat))}(q:H4 P GL f l):mB P GL f 4 q.u:=yY q.k λA xs σ ret hn=>by
 match xs,hn with
 |[x,y,z,u],_=>exact q.h A x y z u σ ret
structure H5 (P:Program) (GL:ar) (f:FuncId) (l:List (Option (List Nat))):Type 1 where
 g:∀ {α:Type},aF α→aa→aa→aa→aa→aa→List ab→(aa→List ab→α)→α
 h:∀ {α:Type} (A:aF α) x y z u v σ ret,lR A (eI P GL 5 f l) [x,y,z,u,v] σ ret=g A x y z u v σ ret:=by intros;conv=>lhs;reduce;simp only[Int.reduceOfNat,Int.reduceNegSucc,yV,UInt8.reduceOfNat,qC,qD,qT,qL,qS]
 k:(eI P GL 5 f l).isSome=true:=by kernel_rfl
abbrev H5.u{P:Program}{GL:ar}{f:FuncId}{l:List (Option (List Nat))}(q:H5 P GL f l):fz:=λA xs σ r=>match xs with
 |[x,y,z,u,v]=>q.g A x y z u v σ r
 |_=>A.stop
theorem H5.ok{P:Program}{GL:ar}{f:FuncId}{l:List (Option (List Nat))}(q:H5 P GL f l):mB P GL f 5 q.u:=yY q.k λA xs σ ret hn=>by
 match xs,hn with
 |[x,y,z,u,v],_=>exact q.h A x y z u v σ ret
structure H6 (P:Program) (GL:ar) (f:FuncId) (l:List (Option (List Nat))):Type 1 where
 g:∀ {α:Type},aF α→aa→aa→aa→aa→aa→aa→List ab→(aa→List ab→α)→α
 h:∀ {α:Type} (A:aF α) x y z u v w σ ret,lR A (eI P GL 6 f l) [x,y,z,u,v,w] σ ret=g A x y z u v w σ ret:=by intros;conv=>lhs;reduce;simp only[Int.reduceOfNat,Int.reduceNegSucc,yV,UInt8.reduceOfNat,qC,qD,qT,qL,qS]
 k:(eI P GL 6 f l).isSome=true:=by kernel_rfl
abbrev H6.u{P:Program}{GL:ar}{f:FuncId}{l:List (Option (List Nat))}(q:H6 P GL f l):fz:=λA xs σ r=>match xs with
 |[x,y,z,u,v,w]=>q.g A x y z u v w σ r
 |_=>A.stop
theorem H6.ok{P:Program}{GL:ar}{f:FuncId}{l:List (Option (List Nat))}(q:H6 P GL f l):mB P GL f 6 q.u:=yY q.k λA xs σ ret hn=>by
 match xs,hn with
 |[x,y,z,u,v,w],_=>exact q.h A x y z u v w σ ret
structure H7 (P:Program) (GL:ar) (f:FuncId) (l:List (Option (List Nat))):Type 1 where
 g:∀ {α:Type},aF α→aa→aa→aa→aa→aa→aa→aa→List ab→(aa→List ab→α)→α
 h:∀ {α:Type} (A:aF α) x y z u v w t σ ret,lR A (eI P GL 7 f l) [x,y,z,u,v,w,t] σ ret=g A x y z u v w t σ ret:=by intros;conv=>lhs;reduce;simp only[Int.reduceOfNat,Int.reduceNegSucc,yV,UInt8.reduceOfNat,qC,qD,qT,qL,qS]
 k:(eI P GL 7 f l).isSome=true:=by kernel_rfl
abbrev H7.u{P:Program}{GL:ar}{f:FuncId}{l:List (Option (List Nat))}(q:H7 P GL f l):fz:=λA xs σ r=>match xs with
 |[x,y,z,u,v,w,t]=>q.g A x y z u v w t σ r
 |_=>A.stop
theorem H7.ok{P:Program}{GL:ar}{f:FuncId}{l:List (Option (List Nat))}(q:H7 P GL f l):mB P GL f 7 q.u:=yY q.k λA xs σ ret hn=>by
 match xs,hn with
 |[x,y,z,u,v,w,t],_=>exact q.h A x y z u v w t σ ret
structure H8 (P:Program) (GL:ar) (f:FuncId) (l:List (Option (List Nat))):Type 1 where
 g:∀ {α:Type},aF α→aa→aa→aa→aa→aa→aa→aa→aa→List ab→(aa→List ab→α)→α
 h:∀ {α:Type} (A:aF α) x y z u v w t s σ ret,lR A (eI P GL 8 f l) [x,y,z,u,v,w,t,s] σ ret=g A x y z u v w t s σ ret:=by intros;conv=>lhs;reduce;simp only[Int.reduceOfNat,Int.reduceNegSucc,yV,UInt8.reduceOfNat,qC,qD,qT,qL,qS]
 k:(eI P GL 8 f l).isSome=true:=by kernel_rfl
abbrev H8.u{P:Program}{GL:ar}{f:FuncId}{l:List (Option (List Nat))}(q:H8 P GL f l):fz:=λA xs σ r=>match xs with
 |[x,y,z,u,v,w,t,s]=>q.g A x y z u v w t s σ r
 |_=>A.stop
theorem H8.ok{P:Program}{GL:ar}{f:FuncId}{l:List (Option (List Nat))}(q:H8 P GL f l):mB P GL f 8 q.u:=yY q.k λA xs σ ret hn=>by
 match xs,hn with
 |[x,y,z,u,v,w,t,s],_=>exact q.h A x y z u v w t s σ ret
end Go.Ah
end
section
namespace Go.Ah
theorem H0.e{P:Program}{GL:ar}{f:FuncId}{l:List (Option (List Nat))}(q:H0 P GL f l){α:Type}(A:aF α)(σ:List ab)(r:aa→List ab→α):q.u A [] σ r=q.g A  σ r:=rfl
theorem H1.e{P:Program}{GL:ar}{f:FuncId}{l:List (Option (List Nat))}(q:H1 P GL f l){α:Type}(A:aF α)(xa:aa)(σ:List ab)(r:aa→List ab→α):q.u A [xa] σ r=q.g A xa σ r:=rfl
theorem H2.e{P:Program}{GL:ar}{f:FuncId}{l:List (Option (List Nat))}(q:H2 P GL f l){α:Type}(A:aF α)(xa xb:aa)(σ:List ab)(r:aa→List ab→α):q.u A [xa,xb] σ r=q.g A xa xb σ r:=rfl
theorem H3.e{P:Program}{GL:ar}{f:FuncId}{l:List (Option (List Nat))}(q:H3 P GL f l){α:Type}(A:aF α)(xa xb xc:aa)(σ:List ab)(r:aa→List ab→α):q.u A [xa,xb,xc] σ r=q.g A xa xb xc σ r:=rfl
theorem H4.e{P:Program}{GL:ar}{f:FuncId}{l:List (Option (List Nat))}(q:H4 P GL f l){α:Type}(A:aF α)(xa xb xc xd:aa)(σ:List ab)(r:aa→List ab→α):q.u A [xa,xb,xc,xd] σ r=q.g A xa xb xc xd σ r:=rfl
theorem H5.e{P:Program}{GL:ar}{f:FuncId}{l:List (Option (List Nat))}(q:H5 P GL f l){α:Type}(A:aF α)(xa xb xc xd xe:aa)(σ:List ab)(r:aa→List ab→α):q.u A [xa,xb,xc,xd,xe] σ r=q.g A xa xb xc xd xe σ r:=rfl
theorem H6.e{P:Program}{GL:ar}{f:FuncId}{l:List (Option (List Nat))}(q:H6 P GL f l){α:Type}(A:aF α)(xa xb xc xd xe xf:aa)(σ:List ab)(r:aa→List ab→α):q.u A [xa,xb,xc,xd,xe,xf] σ r=q.g A xa xb xc xd xe xf σ r:=rfl
theorem H7.e{P:Program}{GL:ar}{f:FuncId}{l:List (Option (List Nat))}(q:H7 P GL f l){α:Type}(A:aF α)(xa xb xc xd xe xf xg:aa)(σ:List ab)(r:aa→List ab→α):q.u A [xa,xb,xc,xd,xe,xf,xg] σ r=q.g A xa xb xc xd xe xf xg σ r:=rfl
theorem H8.e{P:Program}{GL:ar}{f:FuncId}{l:List (Option (List Nat))}(q:H8 P GL f l){α:Type}(A:aF α)(xa xb xc xd xe xf xg xh:aa)(σ:List ab)(r:aa→List ab→α):q.u A [xa,xb,xc,xd,xe,xf,xg,xh] σ r=q.g A xa xb xc xd xe xf xg xh σ r:=rfl
theorem aY{P:Program}{GL:ar}{xs:List aa}{f:FuncId}{n:Nat}{g:fz}{v:aa}(h:dK P GL f xs v)(hg:mB P GL f n g){σ:List ab}{K:aa→List ab→Prop}(hK:K v σ)(kY:ga xs=true:=by rfl):(W P GL).call (.call f) xs σ K:=Yo h rfl hg.plain kY hK
theorem Y9{P:Program}{GL:ar}{xs:List aa}{f:FuncId}{n:Nat}{g:fz}{v:aa}(h:dK P GL f xs v)(hg:mB P GL f n g){σ:List ab}{K:aa→List Nat×List Nat→List ab→Prop}(hK:K v ([],[]) σ)(kY:ga xs=true:=by rfl):(W P GL).eS (.call f) xs σ K:=Yt h rfl hg.plain kY hK
end Go.Ah
end
section
namespace Go.Ah.Tz
@[reducible] def iv(n:Int):aa:=.int .i64 n
@[reducible] def aN(n:Int):aa:=.int .i8 n
def aR(n:Int):List aa:=[iv n]
@[reducible] def aP(l:List Int):aa:=.aU false false 1 (l.map aR)
structure Th where
 id:Int
 card:Int
 harm:Int
 ux:Bool
 deriving DecidableEq,Inhabited
def bg(t:Th):List aa:=[iv t.id,iv t.card,iv t.harm,.bool t.ux]
@[reducible] def gU(l:List Th):aa:=.aU false false 4 (l.map bg)
structure Sd where
 aV:Int
 aT:Int
 most:Int
 az:List Int
 hand:List Int
 al:List Int
 af:List Th
 told:List Int
 deriving DecidableEq,Inhabited
@[reducible] def yE(s:Sd):List aa:=[iv s.aV,iv s.aT,iv s.most,aP s.az,aP s.hand,aP s.al,gU s.af,aP s.told]
structure St where
 turn:Int
 mover:Int
 phase:Int
 bV:Bool
 result:Int
 ao:List Int
 next:Int
 s0:Sd
 s1:Sd
 deriving DecidableEq,Inhabited
@[reducible] def aI(s:St):List aa:=[iv s.turn,iv s.mover,aN s.phase,.bool s.bV,aN s.result,aP s.ao,iv s.next,
 iv s.s0.aV,iv s.s0.aT,iv s.s0.most,aP s.s0.az,aP s.s0.hand,aP s.s0.al,gU s.s0.af,aP s.s0.told,
 iv s.s1.aV,iv s.s1.aT,iv s.s1.most,aP s.s1.az,aP s.s1.hand,aP s.s1.al,gU s.s1.af,aP s.s1.told]
@[reducible] def bZ(s:St):aa:=.agg (aI s)
theorem Qc{n:Nat}(h:(n:Int)<4611686018427387904):BY.wrap ((n:Int)+1)=((n+1:Nat):Int):=by
 rw[zAZ _ (by omega)];simp
theorem Yw{α:Type}(l:List α)(i:Nat)(h:i<l.length):l.take (i+1)=l.take i++[l[i]]:=by
 rw[zAp h]
theorem YL{α β:Type}(f:α→β)(l:List α)(i:Nat)(h:i<l.length):(l.take i).map f++[f l[i]]=(l.take (i+1)).map f:=by
 rw[Yw l i h,zAe];rfl
open Go.Proofs.Tryz (prog)
set_option maxRecDepth 100000
set_option maxHeartbeats 4000000
attribute [local irreducible] aF.rd aF.pu aF.wr aF.dr aF.gr aF.gw aF.gl aF.gd aF.opt cI qB jC im Zj qC qD qT qL qS Qf X4 Qh YP Qe Yy P6 XG Iz Zo Xy ZJ ZN YJ QG YE QB ZC Yj Qs ZO Ym tL QM Yp YO GM RF Cx Xi Z8 Xb Rw Yk MU PX Qn ZT Pg XO Ic HJ YT XF qM Xl Sc P7 Pp tH
def l13{α:Type}(A:aF α)(x0 x1 x2:aa)(σ:List ab)(ret:aa→List ab→α):α:=
 A.wr (tL [x0] σ) σ λMi σ=>
 A.wr (tL [x1] σ) σ λnF σ=>
 A.rd (Qe true 2 [Mi] σ) λL1=>
 A.rd (Qe true 23 [nF] σ) λL6=>
 A.call (.call 99968) [L1,L6,.an,x2] σ λoW σ=>
 A.test oW (
 A.call (.call 99969) [] σ λsc σ=>
 ret sc σ) (
 A.rd (Qe true 2 [Mi] σ) λMd=>
 A.rd (Qe true 23 [nF] σ) λMf=>
 A.call (.call 99973) [Md,Mf,x2] σ λxN σ=>
 A.rd (Xi 0 [xN] σ) λxO=>
 A.rd (Xi 1 [xN] σ) λxP=>
 A.rd (Xi 2 [xN] σ) λtp=>
 A.wr (Qs [(.int .i64 0),(.int .i64 0),(.int .i8 0),(.bool false),(.int .i8 0),.an,(.int .i64 0),(.int .i64 0),(.int .i64 0),(.int .i64 0),.an,.an,.an,.an,.an,(.int .i64 0),(.int .i64 0),(.int .i64 0),.an,.an,.an,.an,.an] [] σ) σ λmr σ=>
 A.wr (Yj 23 [mr,xO] σ) σ λ_ σ=>
 A.rd (Ym .neq false [tp,(.int .i64 0)] σ) λD6=>
 A.test D6 (
 A.call (.call 99969) [] σ λD9 σ=>
 ret D9 σ) (
 A.loop (λCD v16 σ=>
 A.rd (Ym .lss false [(h0 v16),(.int .i64 2)] σ) λEb=>
 A.test Eb (
 A.rd (Xb 7 [mr] σ) λEl=>
 A.rd (Yk 2 8 [El,(h0 v16)] σ) λEp=>
 A.rd (Xb 6 [Ep] σ) λEt=>
 A.rd (Qe false 1 [Et] σ) λEx=>
 A.rd (Qn [Ex] σ) λEz=>
 A.rd (Xb 7 [nF] σ) λED=>
 A.rd (Yk 2 8 [ED,(h0 v16)] σ) λEG=>
 A.rd (Xb 6 [EG] σ) λEI=>
 A.rd (Qe false 1 [EI] σ) λEK=>
 A.rd (Qn [EK] σ) λEN=>
 A.rd (Ym .neq false [Ez,EN] σ) λig=>
 A.gr ig false (λk=>A.rd (qM [(h0 v16)] σ) k) λET=>
 A.gr ig false (λk=>A.rd (Xb 7 [mr] σ) k) λEW=>
 A.gr ig false (λk=>A.rd (Yk 2 8 [EW,ET] σ) k) λEY=>
 A.gr ig false (λk=>A.rd (Xb 1 [EY] σ) k) λEZ=>
 A.gr ig false (λk=>A.rd (Qe false 1 [EZ] σ) k) λE2=>
 A.gr ig false (λk=>A.rd (qM [(h0 v16)] σ) k) λE4=>
 A.gr ig false (λk=>A.rd (Xb 7 [nF] σ) k) λE6=>
 A.gr ig false (λk=>A.rd (Yk 2 8 [E6,E4] σ) k) λE8=>
 A.gr ig false (λk=>A.rd (Xb 1 [E8] σ) k) λE9=>
 A.gr ig false (λk=>A.rd (Qe false 1 [E9] σ) k) λE_=>
 A.gr ig false (λk=>A.rd (Ym .neq false [E2,E_] σ) k) λE'=>
 A.rd (Zo [ig,(.bool true),E'] σ) λFa=>
 A.test Fa (
 ret (.bool false) σ) (
 A.rd (Ym .add false [(h0 v16),(.int .i64 1)] σ) λEi=>
 CD [Ei] σ)) (
 A.rd (Xb 1 [nF] σ) λFb=>
 A.rd (Qe false 1 [Fb] σ) λFc=>
 A.rd (Xb 7 [mr] σ) λFe=>
 A.rd (Yk 2 8 [Fe,Fc] σ) λFf=>
 A.rd (Xb 0 [Ff] σ) λFg=>
 A.rd (Qe false 1 [Fg] σ) λFh=>
 A.rd (Xb 1 [nF] σ) λFi=>
 A.rd (Qe false 1 [Fi] σ) λFj=>
 A.rd (Xb 7 [nF] σ) λFk=>
 A.rd (Yk 2 8 [Fk,Fj] σ) λFl=>
 A.rd (Xb 0 [Fl] σ) λFm=>
 A.rd (Qe false 1 [Fm] σ) λFq=>
 A.rd (Ym .neq false [Fh,Fq] σ) λoX=>
 A.gr oX false (λk=>A.rd (Xb 5 [mr] σ) k) λFt=>
 A.gr oX false (λk=>A.rd (Qe false 1 [Ft] σ) k) λFu=>
 A.gr oX false (λk=>A.rd (Qn [Fu] σ) k) λFv=>
 A.gr oX false (λk=>A.rd (Ym .neq false [Fv,(.int .i64 0)] σ) k) λtw=>
 A.rd (Zo [oX,(.bool true),tw] σ) λmP=>
 A.gr mP false (λk=>A.rd (Xb 2 [mr] σ) k) λFz=>
 A.gr mP false (λk=>A.rd (Qe false 1 [Fz] σ) k) λtA=>
 A.gr mP false (λk=>A.rd (Ym .neq false [tA,(.int .i8 0)] σ) k) λFC=>
 A.rd (Zo [mP,(.bool true),FC] σ) λFD=>
 A.test FD (
 ret (.bool false) σ) (
 A.rd (Qn [x2] σ) λtB=>
 A.rd (Xb 5 [nF] σ) λFE=>
 A.rd (Qe false 1 [FE] σ) λFF=>
 A.rd (Qn [FF] σ) λFH=>
 A.rd (Ym .eql false [tB,FH] σ) λfA=>
 A.gr fA true (λk=>A.rd (Xb 1 [nF] σ) k) λFM=>
 A.gr fA true (λk=>A.rd (Qe false 1 [FM] σ) k) λFP=>
 A.gr fA true (λk=>A.rd (Ym .sub false [(.int .i64 1),FP] σ) k) λFT=>
 A.gr fA true (λk=>A.rd (Xb 7 [mr] σ) k) λFV=>
 A.gr fA true (λk=>A.rd (Yk 2 8 [FV,FT] σ) k) λFX=>
 A.gr fA true (λk=>A.rd (Xb 0 [FX] σ) k) λFZ=>
 A.gr fA true (λk=>A.rd (Qe false 1 [FZ] σ) k) λF1=>
 A.gr fA true (λk=>A.rd (Xb 1 [nF] σ) k) λF5=>
 A.gr fA true (λk=>A.rd (Qe false 1 [F5] σ) k) λF7=>
 A.gr fA true (λk=>A.rd (Ym .sub false [(.int .i64 1),F7] σ) k) λF9=>
 A.gr fA true (λk=>A.rd (Xb 7 [nF] σ) k) λAi=>
 A.gr fA true (λk=>A.rd (Yk 2 8 [Ai,F9] σ) k) λAj=>
 A.gr fA true (λk=>A.rd (Xb 0 [Aj] σ) k) λAk=>
 A.gr fA true (λk=>A.rd (Qe false 1 [Ak] σ) k) λAl=>
 A.gr fA true (λk=>A.rd (Ym .neq false [F1,Al] σ) k) λAm=>
 A.rd (Zo [fA,Am,(.bool false)] σ) λAn=>
 A.test An (
 ret (.bool false) σ) (
 A.rd (Qn [x2] σ) λAo=>
 A.rd (Ym .gtr false [Ao,(.int .i64 0)] σ) λAp=>
 A.test Ap (
 A.call (.call 99969) [] σ λAq σ=>
 ret Aq σ) (
 A.loop (λSZ v89 σ=>
 A.rd (Ym .lss false [(h0 v89),(.int .i64 2)] σ) λAr=>
 A.test Ar (
 A.loop (λS0 v92 σ=>
 A.rd (Xb 7 [mr] σ) λAs=>
 A.rd (Yk 2 8 [As,(h0 v89)] σ) λAu=>
 A.rd (Xb 6 [Au] σ) λAv=>
 A.rd (Qe false 1 [Av] σ) λAw=>
 A.rd (Qn [Aw] σ) λAx=>
 A.rd (Ym .lss false [(h0 v92),Ax] σ) λAy=>
 A.test Ay (
 A.rd (Xb 7 [mr] σ) λAz=>
 A.rd (Yk 2 8 [Az,(h0 v89)] σ) λxx=>
 A.rd (Xb 6 [xx] σ) λxy=>
 A.rd (Qe false 1 [xy] σ) λxz=>
 A.rd (Qh 4 [xz,(h0 v92)] σ) λxA=>
 A.rd (Qe true 4 [xA] σ) λxB=>
 A.rd (Xb 7 [nF] σ) λxC=>
 A.rd (Yk 2 8 [xC,(h0 v89)] σ) λxD=>
 A.rd (Xb 6 [xD] σ) λxE=>
 A.rd (Qe false 1 [xE] σ) λxF=>
 A.rd (Qh 4 [xF,(h0 v92)] σ) λxG=>
 A.rd (Qe true 4 [xG] σ) λxH=>
 A.rd (Cx true [false,false,false,true] [xB,xH] σ) λxJ=>
 A.test xJ (
 ret (.bool false) σ) (
 A.rd (Ym .add false [(h0 v92),(.int .i64 1)] σ) λxw=>
 S0 [xw] σ)) (
 A.rd (Ym .add false [(h0 v89),(.int .i64 1)] σ) λxv=>
 SZ [xv] σ)) [(.int .i64 0)] σ) (
 A.call (.call 99969) [] σ λxK σ=>
 ret xK σ)) [(.int .i64 0)] σ))))) [(.int .i64 0)] σ))
abbrev GQ(f:FuncId)(n:Nat)(g:fz):Prop:=mB prog aG f n g
abbrev PC(f:FuncId)(xs:List aa)(v:aa):Prop:=dK prog aG f xs v
noncomputable abbrev VV:aF Prop:=W prog aG
def g3:H4 prog aG 3 [some [999],none]:={g:=_}
def g5:H1 prog aG 5 [none,some [8,3],none,none]:={g:=_}
def g6:H1 prog aG 6 [none,some [9,3],none,none]:={g:=_}
def g36:H3 prog aG 36 [some [999],none,none,none,some [],none,none,none,none,some [94],none,none]:={g:=_}
def g31:H1 prog aG 31 [none,some [4],none,none]:={g:=_}
def g15:H2 prog aG 15 [none,none,some [5],none,none,none]:={g:=_}
def g131:H4 prog aG 131 [none]:={g:=_}
def g123:H5 prog aG 123 []:={g:=_}
def g56:H2 prog aG 56 [none,some [7],none,none,none,some [8],none,none,none]:={g:=_}
def g29:H3 prog aG 29 [none,none,none,none,none,some [7],none,none,none,none,some [11],none,none,none]:={g:=_}
def g124:H5 prog aG 124 []:={g:=_}
def g26:H3 prog aG 26 [none,none,some [23,9],none,some [9],none]:={g:=_}
def g24:H2 prog aG 24 [none,none,some [22,6],none,none,none,some [34,6],none,some [6],none]:={g:=_}
def g143:H1 prog aG 143 []:={g:=_}
def g90:H4 prog aG 90 [none,some [11,10],none]:={g:=_}
def g35:H2 prog aG 35 [none,none,some [5],none,none,none]:={g:=_}
def g23:H5 prog aG 23 [some [999],some [],none,none,none]:={g:=_}
def g34:H5 prog aG 34 [some [999],none,none]:={g:=_}
def g38:H2 prog aG 38 [none,none,some [5],none,none,none]:={g:=_}
def g7:H0 prog aG 7 [some [999]]:={g:=_}
def g8:H4 prog aG 8 [some [999],none,none,some [46],none,none,none,none,some [17],some [],none,none,some [18],none,none,none,some [97],none,some [],none,none,none,none,some [29],none,none,none]:={g:=_}
def g9:H4 prog aG 9 [some [999],none,some [13,3],some [13,14,3],none,none,none,none,some [18],some [18,13,14,3],some [20],none,none,none]:={g:=_}
def g10:H8 prog aG 10 [some [999]]:={g:=_}
def g59:H2 prog aG 59 [some [999],none,none,some [6,5],none,none,none,some [8,5],none,some [5],none]:={g:=_}
def g13:H3 prog aG 13 [some [999],none]:={g:=_}
def g14:H3 prog aG 14 [some [999],none]:={g:=_}
def g16:H2 prog aG 16 []:={g:=_}
def g17:H1 prog aG 17 [none,some [7,3],none,none,none]:={g:=_}
def g273:H3 prog aG 273 [none,none]:={g:=_}
def g43:H2 prog aG 43 [none]:={g:=_}
def g48:H2 prog aG 48 [none]:={g:=_}
def g63:H1 prog aG 63 []:={g:=_}
def g64:H2 prog aG 64 []:={g:=_}
def g20:H1 prog aG 20 [none,some [9],none,none]:={g:=_}
def g57:H1 prog aG 57 [none,some [4,3],none,none]:={g:=_}
def g58:H1 prog aG 58 [none,some [4,3],none,none]:={g:=_}
def l153{α:Type}(A:aF α)(x0 x1:aa)(σ:List ab)(ret:aa→List ab→α):α:=
 A.rd (Qn [x0] σ) λVY=>
 A.rd (Qn [x1] σ) λV2=>
 A.rd (Ym .neq false [VY,V2] σ) λuw=>
 A.test uw (
 ret (.bool false) σ) (
 A.loop (λag3 v4 σ=>
 A.rd (Qn [x0] σ) λL2=>
 A.rd (Ym .lss false [(h0 v4),L2] σ) λxL=>
 A.test xL (
 A.rd (Qh 4 [x0,(h0 v4)] σ) λxM=>
 A.rd (Qe true 4 [xM] σ) λMg=>
 A.rd (Qh 4 [x1,(h0 v4)] σ) λxO=>
 A.rd (Qe true 4 [xO] σ) λxP=>
 A.rd (Cx true [false,false,false,true] [Mg,xP] σ) λtp=>
 A.test tp (
 ret (.bool false) σ) (
 A.rd (Ym .add false [(h0 v4),(.int .i64 1)] σ) λDO=>
 ag3 [DO] σ)) (
 ret (.bool true) σ)) [(.int .i64 0)] σ)
theorem Qeb{α:Type}(A:aF α)(x0 x1:aa)(σ:List ab)(ret:aa→List ab→α):lR A (eI prog aG 2 39 [none,none,some [5],none,none,none]) [x0,x1] σ ret=l153 A x0 x1 σ ret:=by kernel_rfl
def g39:H2 prog aG 39 [none,none,some [5],none,none,none]:=⟨l153,Qeb,by kernel_rfl⟩
def g171:H7 prog aG 171 [none,some [4,18],none,none,none,some []]:={g:=_}
def g172:H1 prog aG 172 []:={g:=_}
def g173:H4 prog aG 173 [none]:={g:=_}
def g42:H1 prog aG 42 [none,none,none,some [5],none,none,none]:={g:=_}
def g55:H2 prog aG 55 [none,some [6,5],none,none,none,none,none,some [8,5],none,none,none,none,some [10],none,none,none]:={g:=_}
def g174:H1 prog aG 174 []:={g:=_}
def g175:H4 prog aG 175 [none]:={g:=_}
def g25:H2 prog aG 25 [none,some [9],none,none,none]:={g:=_}
def g52:H3 prog aG 52 [none]:={g:=_}
def g53:H2 prog aG 53 [none,none,some [6,5],none,some [5],none]:={g:=_}
def g54:H2 prog aG 54 []:={g:=_}
def g49:H3 prog aG 49 [none,some [20,6,7],none,some [6,7],none]:={g:=_}
def g99:H1 prog aG 99 [none,some [4,3],none,none]:={g:=_}
def g137:H2 prog aG 137 [some [5],none,none,some [6],none,none,none,none,none,none]:={g:=_}
def g18:H1 prog aG 18 [some [],none]:={g:=_}
def g89:H4 prog aG 89 [none,some [11,10],none]:={g:=_}
def g176:H3 prog aG 176 [none,some [],none,none,none,none,none,none]:={g:=_}
def g133:H3 prog aG 133 [some [],none]:={g:=_}
def g44:H1 prog aG 44 [none]:={g:=_}
def g185:H5 prog aG 185 []:={g:=_}
def g46:H2 prog aG 46 [some [999],none,none,some [7],none,none]:={g:=_}
def g47:H2 prog aG 47 [some [999],none,some [33,4],none,some [4],none,some [8],none,some [11],none,none]:={g:=_}
def g61:H2 prog aG 61 [some [999]]:={g:=_}
def g62:H2 prog aG 62 [some [999],none,some [4],none,some [],none,none,none,none,none]:={g:=_}
def g193:H2 prog aG 193 []:={g:=_}
def g19:H2 prog aG 19 [some [999],some [],none]:={g:=_}
def g21:H2 prog aG 21 [some [999]]:={g:=_}
def g22:H6 prog aG 22 [some [999],none]:={g:=_}
def g27:H1 prog aG 27 [some [999],none,none,none,none]:={g:=_}
def g28:H1 prog aG 28 [some [999],none]:={g:=_}
def g30:H2 prog aG 30 [some [999],none,some [5],none,none,none]:={g:=_}
def g32:H2 prog aG 32 [some [999],none,some [9,8],none,some [8],none]:={g:=_}
def g33:H1 prog aG 33 [some [999],none,none,none]:={g:=_}
def g93:H4 prog aG 93 [none,some [13,11,12],none,some [11,12],none]:={g:=_}
def g37:H3 prog aG 37 [some [999],none,none,none,none,none,none,some [12],none,none]:={g:=_}
def g118:H1 prog aG 118 [none,some [10],none,none,none]:={g:=_}
def g165:H2 prog aG 165 []:={g:=_}
def g40:H1 prog aG 40 []:={g:=_}
def g76:H3 prog aG 76 [none,some [14],none,none,none,none,none,none,none,none,none,none,none,none,none,some [89],none,none,none,none,none,some [116],none,none,none]:={g:=_}
def g45:H1 prog aG 45 [none]:={g:=_}
def g73:H1 prog aG 73 [none,none,some [3],none,none,none,some [4],none,none,none,none]:={g:=_}
def g74:H1 prog aG 74 [none,some [3],none,none,none]:={g:=_}
def g75:H2 prog aG 75 [none,some [6],none,none,none,none]:={g:=_}
def g65:H1 prog aG 65 []:={g:=_}
def g92:H3 prog aG 92 [none,none,some [7],none,none,none]:={g:=_}
def g50:H2 prog aG 50 [none,some [8],none,none,none]:={g:=_}
def g51:H2 prog aG 51 []:={g:=_}
def g91:H2 prog aG 91 [none,some [8],none,none,none]:={g:=_}
def g139:H1 prog aG 139 []:={g:=_}
def g41:H1 prog aG 41 [some [999],none,some [],some [],none,none,none,none,none,none]:={g:=_}
def g168:H1 prog aG 168 []:={g:=_}
def g180:H2 prog aG 180 [none,some [13],none,some [],none]:={g:=_}
def g98:H1 prog aG 98 []:={g:=_}
def g182:H3 prog aG 182 [none]:={g:=_}
def g207:H6 prog aG 207 [none,some [15],none,none,some [4],none,none,none,some [21],none]:={g:=_}
def g77:H1 prog aG 77 [some [999],none]:={g:=_}
def g78:H1 prog aG 78 [none,none,some [18],none,some [],none,none,some [40],none,none,none,none,none]:={g:=_}
def g79:H2 prog aG 79 [some [999]]:={g:=_}
def g80:H2 prog aG 80 [some [999]]:={g:=_}
def g81:H1 prog aG 81 [some [999]]:={g:=_}
def l297{α:Type}(A:aF α)(x0 x1 x2:aa)(σ:List ab)(ret:aa→List ab→α):α:=
 A.wr (tL [x1] σ) σ λMj σ=>
 A.rd (Xl [x0] σ) λL0=>
 A.rd (Xb 29 [L0] σ) λL5=>
 A.wr (Yj 1 [L5,(.func (.func 123) [] [])] σ) σ λ_ σ=>
 A.rd (Xb 0 [Mj] σ) λL9=>
 A.rd (Qe false 1 [L9] σ) λoW=>
 A.rd (Ym .eql false [oW,(.int .i8 1)] σ) λsc=>
 cI (λk6=>
 A.test sc (
 A.rd (Xl [x0] σ) λMe=>
 A.rd (Xb 29 [Me] σ) λMh=>
 A.wr (Yj 1 [Mh,(.func (.func 124) [] [])] σ) σ λ_ σ=>
 k6 [] σ) (
 k6 [] σ)) (λv7 σ=>
 A.rd (Xb 1 [Mj] σ) λDY=>
 A.rd (Qe false 1 [DY] σ) λDZ=>
 A.call (.call 125) [x0,DZ] σ λD2 σ=>
 A.rd (R0 [245,246] [D2] σ) λxQ=>
 A.rd (Xi 0 [xQ] σ) λD7=>
 A.rd (Xi 1 [xQ] σ) λD_=>
 A.rd (tH .not [D_] σ) λtt=>
 A.gr tt false (λk=>A.rd (qM [x2] σ) k) λEe=>
 A.gr tt false (λk=>A.rd (Ym .lss false [Ee,(.int .i64 0)] σ) k) λEj=>
 A.rd (Zo [tt,(.bool true),Ej] σ) λEm=>
 A.test Em (
 ret (.int .i64 0) σ) (
 A.call (.invoke "baize/effect.harm" [(245,280),(246,281)]) [D7,x0,x2] σ λtv σ=>
 A.rd (Xi 0 [tv] σ) λEC=>
 A.rd (Xi 1 [tv] σ) λEF=>
 A.rd (Xi 2 [tv] σ) λxR=>
 A.wr (Qs [(.int .i64 0),(.int .i64 0),(.int .i8 0),(.bool false),(.int .i8 0),.an,(.int .i64 0),(.int .i64 0),(.int .i64 0),(.int .i64 0),.an,.an,.an,.an,.an,(.int .i64 0),(.int .i64 0),(.int .i64 0),.an,.an,.an,.an,.an] [] σ) σ λB9 σ=>
 A.wr (Qs [(.int .i8 0),(.int .i64 0),(.int .i64 0),(.int .i64 0),(.int .i64 0),(.int .i64 0),.an] [] σ) σ λxu σ=>
 A.wr (Yj 23 [B9,EC] σ) σ λ_ σ=>
 A.wr (Yj 7 [xu,EF] σ) σ λ_ σ=>
 A.rd (Ym .neq false [xR,(.int .i64 0)] σ) λEM=>
 A.test EM (
 ret xR σ) (
 A.rd (Qe true 23 [B9] σ) λES=>
 A.rd (Xl [x0] σ) λEV=>
 A.rd (Xb 2 [EV] σ) λEX=>
 A.wr (Yj 23 [EX,ES] σ) σ λ_ σ=>
 A.rd (Qe true 7 [xu] σ) λE1=>
 A.call (.call 126) [x0,E1] σ λVU σ=>
 ret (.int .i64 0) σ)))
theorem Zec{α:Type}(A:aF α)(x0 x1 x2:aa)(σ:List ab)(ret:aa→List ab→α):lR A (eI prog aG 3 82 [some [],none,none]) [x0,x1,x2] σ ret=l297 A x0 x1 x2 σ ret:=by kernel_rfl
def g82:H3 prog aG 82 [some [],none,none]:=⟨l297,Zec,by kernel_rfl⟩
def g83:H3 prog aG 83 [some [999],none,some [23],none,none,none]:={g:=_}
def g84:H3 prog aG 84 [some [999],none,none,none]:={g:=_}
def g85:H3 prog aG 85 [some [999],none]:={g:=_}
def g86:H3 prog aG 86 [some [999],none]:={g:=_}
def g87:H3 prog aG 87 [some [999]]:={g:=_}
def g88:H3 prog aG 88 [some [999],none]:={g:=_}
def g94:H3 prog aG 94 [none,none,some [7],none,some [],none,none,none,none,none,none,some [9],some [9],none]:={g:=_}
def g66:H1 prog aG 66 [none,some [4,3],none,some [3],some [3],none]:={g:=_}
def g95:H4 prog aG 95 [some [999],none,none]:={g:=_}
def g96:H4 prog aG 96 [some [999],none,none]:={g:=_}
def g97:H3 prog aG 97 [some [999],none,some [31],none,none,none,none,none,none,none,none,none,none,none,none]:={g:=_}
def g211:H2 prog aG 211 []:={g:=_}
def g212:H2 prog aG 212 []:={g:=_}
def g213:H2 prog aG 213 []:={g:=_}
def g214:H2 prog aG 214 []:={g:=_}
def g215:H2 prog aG 215 []:={g:=_}
def g216:H3 prog aG 216 [some [5]]:={g:=_}
def g60:H3 prog aG 60 [some [999],none,none,some [10,9],none,some [9],none,none,some [16,15],none,some [15],none,none,some [18,17],none,some [17],none]:={g:=_}
def g160:H1 prog aG 160 []:={g:=_}
def g161:H1 prog aG 161 []:={g:=_}
def g162:H1 prog aG 162 [none,some [9],none,none,none]:={g:=_}
def g163:H1 prog aG 163 []:={g:=_}
def g164:H1 prog aG 164 [none,some [18],none,none,none,some [69,6],none,none,none,some [75,6],none,none,none]:={g:=_}
def g150:H4 prog aG 150 [some [999],none]:={g:=_}
def g119:H4 prog aG 119 [none,none,some [85],none,none,none,none,some [106],none,none,none]:={g:=_}
def g114:H2 prog aG 114 [none,none,none]:={g:=_}
def g115:H2 prog aG 115 [none,some [5],none,some [],none,none,none,none,none,some [52],none,none,none,none,none]:={g:=_}
def g116:H1 prog aG 116 []:={g:=_}
def g117:H2 prog aG 117 [none,some [5],none,none,none,some [8,7],none,none,none]:={g:=_}
def g67:H1 prog aG 67 [some [999],none,none,some [5,4],none,none,none,none,none,none,some [5],none,none,none,none,none,none,none,some [12,13],none,none,none,none,none,some [16,15,5,4],none,some [15,5,4],none,none]:={g:=_}
def g68:H1 prog aG 68 [some [999]]:={g:=_}
def g69:H2 prog aG 69 [some [999]]:={g:=_}
def g70:H2 prog aG 70 [some [999],none]:={g:=_}
def g71:H2 prog aG 71 [some [999],some [],some [],some [6],none,none,none,none,none,none,none,none,none,some []]:={g:=_}
def g72:H2 prog aG 72 [some [999],some [],some [6],none,none,none,some [],none,none,none,none,none]:={g:=_}
def g196:H2 prog aG 196 [none,some [20],none,none,none,some [25],none,none,none]:={g:=_}
def g197:H2 prog aG 197 []:={g:=_}
def g169:H3 prog aG 169 [none,none,some [19],none,none,some [9],some [46],none,some [70],none,none,some [82],none,none,none,none]:={g:=_}
def g222:H1 prog aG 222 [some [999],some [0,2],some [0,2],some [2,0]]:={g:=_}
def g120:H2 prog aG 120 [none,some [33],none,none,none,none,some [43],none,none,none,none]:={g:=_}
def g121:H2 prog aG 121 [none,some [8],none,none,none]:={g:=_}
def g122:H1 prog aG 122 [some [999]]:={g:=_}
def g125:H2 prog aG 125 [some [999],none,none,none]:={g:=_}
def g126:H2 prog aG 126 [some [999]]:={g:=_}
def g127:H2 prog aG 127 [some [999],none]:={g:=_}
def g128:H1 prog aG 128 [some [999]]:={g:=_}
def g129:H3 prog aG 129 [some [999],none,some [11],none,none]:={g:=_}
def g130:H2 prog aG 130 []:={g:=_}
def g134:H1 prog aG 134 []:={g:=_}
def g135:H2 prog aG 135 [some [5],some [6],some [6],none,none,some [7],none,none,none,none,some [8],none,none,none,none]:={g:=_}
def g136:H1 prog aG 136 []:={g:=_}
def g138:H3 prog aG 138 [none,some [7],none,none,none]:={g:=_}
def g100:H1 prog aG 100 [none,some [4,3],none,none,none,some [5,3],none,none]:={g:=_}
def g140:H3 prog aG 140 [some [999],none,none]:={g:=_}
def g141:H2 prog aG 141 [some [999]]:={g:=_}
def g142:H2 prog aG 142 [some [999],none,none,some [6],none,none,none,none,none,none,none,none]:={g:=_}
def g144:H2 prog aG 144 [some [999],none,none,none,none,none,none,none,none,none,none,none,none,none]:={g:=_}
def g145:H2 prog aG 145 [some [999],none]:={g:=_}
def g146:H3 prog aG 146 [some [999],none,some [11],none]:={g:=_}
def g147:H3 prog aG 147 [some [999],none,some [8,7],none,none,none]:={g:=_}
def g148:H3 prog aG 148 [some [999]]:={g:=_}
def g149:H2 prog aG 149 [none,some [6],none,none,none]:={g:=_}
def g228:H2 prog aG 228 []:={g:=_}
def g229:H1 prog aG 229 [none,none,none,none,some [22,3],none,none]:={g:=_}
def g230:H1 prog aG 230 [none]:={g:=_}
def g231:H2 prog aG 231 []:={g:=_}
def g232:H1 prog aG 232 [none,none,none,none,none,some [20,3],none,none,none,some [32,3],none,none]:={g:=_}
def g233:H2 prog aG 233 [none,some [8],none,none,none]:={g:=_}
def g167:H1 prog aG 167 []:={g:=_}
def g166:H2 prog aG 166 []:={g:=_}
def g155:H1 prog aG 155 []:={g:=_}
def g156:H2 prog aG 156 []:={g:=_}
def g157:H2 prog aG 157 [some [0],some [1],none,none,none]:={g:=_}
def g158:H1 prog aG 158 [some [3],none,none,some [4,3],none,none]:={g:=_}
def g159:H1 prog aG 159 [none,none,none,none,none,some [4,3],none,none,none,some [5,3],none,none]:={g:=_}
def g103:H2 prog aG 103 [some [1,6],some [1,6],none,none,none]:={g:=_}
def g151:H1 prog aG 151 [none,some [4],none,none,none]:={g:=_}
def g101:H2 prog aG 101 [some [7,8,9],none,none,none,none,some [10,8],none,none,none,none]:={g:=_}
def g102:H1 prog aG 102 []:={g:=_}
def g104:H1 prog aG 104 []:={g:=_}
def g105:H0 prog aG 105 [some [999]]:={g:=_}
def g106:H1 prog aG 106 [some [999],none]:={g:=_}
def g107:H2 prog aG 107 [some [999],none]:={g:=_}
def g108:H1 prog aG 108 [some [999],none]:={g:=_}
def g109:H2 prog aG 109 [some [999],none]:={g:=_}
def g110:H3 prog aG 110 [some [999],none,some [7],none,some [],none]:={g:=_}
def g111:H1 prog aG 111 [some [999],none,some [3],none,none]:={g:=_}
def g112:H1 prog aG 112 [some [999],none,some [4,3],none,some [3],none,some [20],none,none,none,none,none]:={g:=_}
def g113:H1 prog aG 113 [some [999],none,some [4],none,none]:={g:=_}
def g220:H2 prog aG 220 [none,some [5],none,some [5],none,none,some [66,5],none,none,none,some [71,5],none,none,none,none,some [93,5],none,none,none,none,some [118,5],none,none,none,some [140,5],none,none,none,some [158],none,none,none]:={g:=_}
def g198:H1 prog aG 198 []:={g:=_}
def g199:H1 prog aG 199 [none,some [4],none,none,none,none]:={g:=_}
def g200:H2 prog aG 200 [some [6,7,5],none,some [37],none,none,none,some [47],none,none,some [59],none,none,none,none,none,none,some [85],none,none,none]:={g:=_}
def g201:H1 prog aG 201 []:={g:=_}
def g202:H2 prog aG 202 [some [7,5,6],some [26],none,none,none,some [32],none,none,none,none,some [82],none,none,none,none,some [100],none,none,none]:={g:=_}
def g170:H2 prog aG 170 [some [999],none,none,some [6],none]:={g:=_}
def g177:H2 prog aG 177 [none]:={g:=_}
def g178:H2 prog aG 178 []:={g:=_}
def g181:H2 prog aG 181 [some [999],none]:={g:=_}
def g183:H1 prog aG 183 [some [999]]:={g:=_}
def g184:H3 prog aG 184 [some [999],none,none,none,none,none]:={g:=_}
def g186:H5 prog aG 186 [some [999]]:={g:=_}
def g238:H0 prog aG 238 []:={g:=_}
def g194:H1 prog aG 194 [none,some [3],none,none,none]:={g:=_}
def g195:H1 prog aG 195 []:={g:=_}
def g187:H0 prog aG 187 []:={g:=_}
def g152:H1 prog aG 152 [some [999],some [],none,none,none,none,none,none,none,none,none]:={g:=_}
def g153:H1 prog aG 153 [some [999],none,some [4,3],none,none]:={g:=_}
def g154:H1 prog aG 154 [some [999],none,some [4,3],none,none,none,some [5,3],none,none]:={g:=_}
def g203:H1 prog aG 203 [some [999],none]:={g:=_}
def g204:H1 prog aG 204 [some [999]]:={g:=_}
def g205:H2 prog aG 205 [some [999],none,some [4,1],none,none,some [4,12],some [4,12],none]:={g:=_}
def g206:H5 prog aG 206 [some [999],some [],some [1],some [13],none,some [1,13],none,none,none,some [1,13],none,none,some [13],none]:={g:=_}
def g217:H1 prog aG 217 [none,some [3],none,some [16],none]:={g:=_}
def g218:H1 prog aG 218 []:={g:=_}
def g219:H0 prog aG 219 [none,some [7],none,none]:={g:=_}
def g188:H2 prog aG 188 [some [999],none,none,none,none]:={g:=_}
def g189:H1 prog aG 189 [some [999],some [],some [],none,none,some [4],none]:={g:=_}
def g190:H1 prog aG 190 [some [999],none]:={g:=_}
def g191:H1 prog aG 191 [some [999],none,some [],none,none]:={g:=_}
def g192:H1 prog aG 192 [some [999]]:={g:=_}
def g221:H1 prog aG 221 [some [999]]:={g:=_}
def g223:H1 prog aG 223 [some [999],none]:={g:=_}
def g224:H1 prog aG 224 [some [999]]:={g:=_}
def g225:H1 prog aG 225 [some [999],none]:={g:=_}
def g234:H1 prog aG 234 [none,some [6,5,3,4],none,none,none,none,some [12],none,none,none,some [12,10,11],none,none,none,none,some [12],none,none,none]:={g:=_}
def g208:H1 prog aG 208 [some [999],none,some [],none,none]:={g:=_}
def g209:H3 prog aG 209 [some [999]]:={g:=_}
def g210:H1 prog aG 210 [some [999],none,some [],none,none]:={g:=_}
def g235:H1 prog aG 235 [some [999],none]:={g:=_}
def g236:H1 prog aG 236 [some [999],none]:={g:=_}
def g239:H2 prog aG 239 [some [999],none,some [6,5],none,none,none,none,none,some [5],none,some [49],none,none]:={g:=_}
def g240:H1 prog aG 240 [some [999],none,none,some [7],none,none,none,none,none,none,none]:={g:=_}
def g226:H1 prog aG 226 [some [999],none,none,some [5],none,none,none,none,none,none,none,none,some [7],some [],none]:={g:=_}
def g227:H1 prog aG 227 [some [999],none,none,none,none,some [7],none,none,none]:={g:=_}
def g241:H2 prog aG 241 [some [999],none,none]:={g:=_}
def g237:H1 prog aG 237 [some [999],none,some [4,3],none,some [3],none,some [3],some [3],none,none,none,some [55],none,none,none,none,none]:={g:=_}
def g242:H2 prog aG 242 [some [999],none,none,some [20],none,none,none,none,none,some [7,8],none,none,none,none]:={g:=_}
def g243:H2 prog aG 243 [some [999],none,none,some [16],none,none,none,none,none,some [7,8],none,none,none,none]:={g:=_}
def g260:H2 prog aG 260 [none]:={g:=_}
def g261:H1 prog aG 261 []:={g:=_}
def g262:H1 prog aG 262 []:={g:=_}
def g263:H0 prog aG 263 []:={g:=_}
def g264:H1 prog aG 264 []:={g:=_}
def g265:H2 prog aG 265 []:={g:=_}
def g266:H2 prog aG 266 [none]:={g:=_}
def g267:H2 prog aG 267 []:={g:=_}
def g268:H2 prog aG 268 []:={g:=_}
def g269:H2 prog aG 269 []:={g:=_}
def g270:H2 prog aG 270 []:={g:=_}
def g271:H2 prog aG 271 [none]:={g:=_}
def g272:H2 prog aG 272 []:={g:=_}
def g274:H2 prog aG 274 []:={g:=_}
def g275:H2 prog aG 275 []:={g:=_}
def g276:H2 prog aG 276 []:={g:=_}
def g277:H2 prog aG 277 []:={g:=_}
def g278:H2 prog aG 278 []:={g:=_}
def g279:H2 prog aG 279 [none,some [17],none,none,none,some [40],none,none,none,none,none,none,none,none,none,none,some [121],none,none,none]:={g:=_}
def g280:H3 prog aG 280 [some [999]]:={g:=_}
def g281:H3 prog aG 281 [some [999]]:={g:=_}
end Go.Ah.Tz
end
section
namespace Go.Ah.Tz
open Go.Proofs.Tryz (prog)
theorem hP:prog.follows .mixedOrders=true:=by kernel_rfl
theorem c62(a b:List Int)(ha:a.length<4611686018427387904):PC 38 [aP a,aP b] (.bool (decide (a=b))):=by
 refine Xa hP g38.ok rfl rfl ?_;simp only[g38,H2.u,Zf,vi,Z6,AH,zAH];refine⟨λh=>?_,λh=>?_⟩
 ·simp at h ⊢;rintro rfl;exact h rfl
 have hl:a.length=b.length:=by simp at h;omega
 refine Xg (ι:=Nat) (λi vs s=>vs=[iv i]∧i<=a.length∧a.take i=b.take i) (λi=>a.length-i) 0 ⟨rfl,by omega,by simp⟩ ?_;rintro i vs s again ⟨rfl,hi,ht⟩ bn;simp only[vi,h0,qB,ZS,AH];refine⟨λh=>?_,λh=>?_⟩
 ·have h:i<a.length:=by simpa using h
  simp[Xm _ aR _ _ _ a _ i h,Xm _ aR _ _ _ b _ i (by omega),aR,Qc (n:=i) (by omega)];refine⟨λcO e=>?_,λhe=>?_⟩
  ·subst e;exact cO rfl
  ·refine bn (i+1) _ _ (by omega) ⟨rfl,by omega,?_⟩;rw[zAp h,zAp (by omega),ht,he]
 ·have h:¬i<a.length:=by simpa using h
  rw[zAs (by omega),zAs (by omega)]at ht;simp[ht]
def ed(n:Nat)(rows:List (List aa))(k:Nat)(v:aa)(σ:List ab):Prop:=
 (k=0∧v=.an∧rows=[])∨(0<k∧∃b,v=.sl b 0 k false∧aj σ b=.rows n rows∧rows.length=k)
theorem ed.nil(n:Nat)(σ:List ab):ed n [] 0 .an σ:=.inl ⟨rfl,rfl,rfl⟩
theorem ed.app{α:Type}(A:aF α){hold:α→Prop}{n by_ k:Nat}{rows:List (List aa)}{v:aa}{σ:List ab}{row:List aa}(hg:ed n rows k v σ)(hr:row.all aa.cell=true)(bM:(2*(k+1)+192)*by_<=2 ^ 48)(K:aa→List ab→α)
 (hK:∀v' σ',ed n (rows++[row]) (k+1) v' σ'→hold (K v' σ')):hold (A.wr (Qf n by_ [v,.sl σ.length 0 1 true] (σ++[.rows n [row]])) (σ++[.rows n [row]]) K):=by
 rcases hg with ⟨rfl,rfl,rfl⟩|⟨hk,b,rfl,hb,hl⟩
 ·rw[RK A n by_ σ row hr (by simpa using bM)];exact hK _ _ (.inr ⟨by omega,_,rfl,by have:=Yc (σ++[.rows n [row]]) (.rows n [row]);simpa using this,rfl⟩)
 ·rw[Il A n by_ σ b k false rows row hb hl hr bM];refine hK _ _ (.inr ⟨by omega,_,rfl,?_,by simp[hl]⟩);have:=Yc (σ.set b .dead++[.rows n [row]]) (.rows n (rows++[row]));simpa using this
theorem Pq{α:Type}{f:α→List aa}{l:List α}{m:Nat→Option Nat}(h:∀x,(f x).map (aa.ct m)=f x):(l.map f).map (λr=>r.map (aa.ct m))=l.map f:=by
 rw[List.map_map];apply List.map_congr_left;intro x _;exact h x
theorem ed.tidy{α:Type}{n k:Nat}{v:aa}{σ:List ab}{f:α→List aa}{l:List α}(hg:ed n (l.map f) k v σ)(hk:k=l.length)(hf:∀(m:Nat→Option Nat) x,(f x).map (aa.ct m)=f x):Tidy σ v [.rows n (l.map f)] (.sl 0 0 l.length false):=by
 rcases hg with ⟨h1,rfl,h3⟩|⟨qd,b,rfl,hb,hl⟩
 ·have hl:l=[]:=by simpa using h3
  subst hl;refine(Tidy.ghost n (.inl rfl)).trans ?_;have:=Tidy.one (σ:=σ++[.rows n []]) (b:=σ.length) (blk:=.rows n []) (by simp) (λx=>if x=σ.length then some 0 else none) (λ_=>rfl) (.sl σ.length 0 0 false);simpa using this
 ·subst hk;have:=Tidy.one (σ:=σ) (b:=b) (Xw hb (by simp)) (λx=>if x=b then some 0 else none) (λ_=>rfl) (.sl b 0 l.length false);simp only[ab.dC,aa.ct,if_true]at this
  rwa [Pq (hf _)]at this
theorem Xc7(m:Nat→Option Nat)(x:Int):(aR x).map (aa.ct m)=aR x:=rfl
theorem YdA(m:Nat→Option Nat)(x:Th):(bg x).map (aa.ct m)=bg x:=rfl
theorem c60(l:List Int)(hl:l.length<=1000000000):de prog aG 57 [aP l] (.sl 0 0 l.length false) [.rows 1 (l.map aR)]:=by
 refine Yv hP g57.ok rfl ?_;simp only[g57,H1.u];refine Xg (ι:=Nat) (λi vs s=>∃v,vs=[iv i,v]∧i<=l.length∧ed 1 ((l.take i).map aR) i v s) (λi=>l.length-i) 0 ⟨_,rfl,by omega,ed.nil _ _⟩ ?_;rintro i vs s again ⟨v,rfl,hi,hg⟩ bn;simp only[Zf,vi,h0,h1,qB,jC,ZS,AH,zAH];refine⟨λh=>?_,λh=>?_⟩
 ·have h:i<l.length:=by simpa using h
  simp only[Xm _ aR _ _ _ l _ i h,vi,Iw,aK,aR,nth];rw[GI _ _ _ _ _ [iv l[i]] rfl rfl];refine hg.app _ (hold:=λp=>p) rfl (by omega) _ (λv' σ' tY=>?_);simp only[Qj,vi,Qc (n:=i) (by omega)];exact bn (i+1) _ _ (by omega) ⟨v',rfl,by omega,by rw[←YL _ _ _ h];exact tY⟩
 ·have h:¬i<l.length:=by simpa using h
  have:i=l.length:=by omega
  subst this;rw[zAr]at hg;exact hg.tidy rfl Xc7
theorem c63(a b:List Th)(ha:a.length<4611686018427387904):PC 39 [gU a,gU b] (.bool (decide (a=b))):=by
 refine Xa hP g39.ok rfl rfl ?_;simp only[g39,H2.u,Zf,vi,Z6,AH,zAH];refine⟨λh=>?_,λh=>?_⟩
 ·simp at h ⊢;rintro rfl;exact h rfl
 have hl:a.length=b.length:=by simp at h;omega
 refine Xg (ι:=Nat) (λi vs s=>vs=[iv i]∧i<=a.length∧a.take i=b.take i) (λi=>a.length-i) 0 ⟨rfl,by omega,by simp⟩ ?_;rintro i vs s again ⟨rfl,hi,ht⟩ bn;simp only[vi,h0,qB,ZS,AH];refine⟨λh=>?_,λh=>?_⟩
 ·have h:i<a.length:=by simpa using h
  have hq:Cx true [false,false,false,true] [.agg (bg a[i]),.agg (bg b[i])] s=.ok (.bool (!decide (a[i]=b[i]))) [] []:=by
   have:(decide (a[i]=b[i]))=((a[i].id==b[i].id)&&((a[i].card==b[i].card)&&((a[i].harm==b[i].harm)&&((a[i].ux==b[i].ux)&&true)))):=by
    rw[zAk];cases h1:a[i];cases h2:b[i];simp
   simp[Cx,XX,GA,bg,this]
  simp only[Xm _ bg _ _ _ a _ i h,Xm _ bg _ _ _ b _ i (by omega),vi,Iw,aK,show ∀x,takeN 4 (jb 0 (bg x))=some (bg x) from λ_=>rfl,hq,AH,Qj,Qc (n:=i) (by omega)];refine⟨λcO=>?_,λhe=>?_⟩
  ·simp at cO ⊢;intro e;subst e;exact cO rfl
  ·refine bn (i+1) _ _ (by omega) ⟨rfl,by omega,?_⟩;rw[zAp h,zAp (by omega),ht,show a[i]=b[i] by simpa using he]
 ·have h:¬i<a.length:=by simpa using h
  rw[zAs (by omega),zAs (by omega)]at ht;simp[ht]
theorem c61(l:List Th)(hl:l.length<=1000000000):de prog aG 58 [gU l] (.sl 0 0 l.length false) [.rows 4 (l.map bg)]:=by
 refine Yv hP g58.ok rfl ?_;simp only[g58,H1.u];refine Xg (ι:=Nat) (λi vs s=>∃v,vs=[iv i,v]∧i<=l.length∧ed 4 ((l.take i).map bg) i v s) (λi=>l.length-i) 0 ⟨_,rfl,by omega,ed.nil _ _⟩ ?_;rintro i vs s again ⟨v,rfl,hi,hg⟩ bn;simp only[Zf,vi,h0,h1,qB,jC,ZS,AH,zAH];refine⟨λh=>?_,λh=>?_⟩
 ·have h:i<l.length:=by simpa using h
  simp only[Xm _ bg _ _ _ l _ i h,vi,Iw,aK,show ∀x,takeN 4 (jb 0 (bg x))=some (bg x) from λ_=>rfl];rw[GI _ _ _ _ _ (bg l[i]) rfl rfl];refine hg.app _ (hold:=λp=>p) rfl (by omega) _ (λv' σ' tY=>?_);simp only[Qj,vi,Qc (n:=i) (by omega)];exact bn (i+1) _ _ (by omega) ⟨v',rfl,by omega,by rw[←YL _ _ _ h];exact tY⟩
 ·have h:¬i<l.length:=by simpa using h
  have:i=l.length:=by omega
  subst this;rw[zAr]at hg;exact hg.tidy rfl YdA
theorem vD{f:(mC)→Prop}{k:mC}(h:f k):cI f k:=by unfold cI;exact h
theorem lx{σ:List ab}{b j n:Nat}{agg:Bool}{row:List aa}{v:aa}(hb:aj σ b=.box row)(hv:aK agg j n row=some v):Qe agg n [.ak b j] σ=.ok v [b] []:=by
 rw[YcA,hb];simp only[hv]
theorem Lh{σ:List ab}{j n:Nat}{agg:Bool}{row:List aa}{v:aa}(hv:aK agg j n row=some v):Qe agg n [.aq row j] σ=.ok v [] []:=by
 rw[Iw,hv]
structure MG (P:Prop):Prop where
 get:P
theorem G6{P:Prop}(h:P):MG P:=⟨h⟩
theorem YS{P:Program}{GL:ar}{i n:Nat}{A B:Prop}(h1:i<n→A)(h2:i=n→B)(hi:i<=n:=by omega):(W P GL).test (.bool (decide ((i:Int)<(n:Int)))) A B:=
 Ya (λh=>h1 (by simpa using h)) (λh=>h2 (by simp at h;omega))
theorem ay{A B:Prop}(k:B)(h:B→A:=by intro k;(repeat (first|refine Za (vA ..) ?_|refine Za (Z1 ..) ?_|refine Za rfl ?_|refine Yd rfl rfl ?_|refine Zs rfl ?_|refine Zi rfl ?_|refine Xf rfl rfl ?_|refine Yh ?_|refine Ye ?_|refine Qa ?_|refine Zc rfl ?_|refine Yq ?_|refine Yx rfl ?_|refine Zw rfl ?_|refine vD ?_|refine QT rfl ?_|refine ZW rfl ?_));exact k):A:=h k
theorem ae{A B:Prop}(k:B)(h:B→A:=by intro k;(repeat (first|refine Za (Ys ..) ?_|refine Za (Z6 ..) ?_|refine Za (uC ..) ?_|refine Za rfl ?_|refine Yd rfl rfl ?_|refine Zs rfl ?_|refine Zi rfl ?_|refine Xf rfl rfl ?_|refine Yh ?_|refine Ye ?_|refine Qa ?_|refine Zc rfl ?_|refine Yq ?_|refine Yx rfl ?_|refine Zw rfl ?_|refine vD ?_|refine QT rfl ?_|refine ZW rfl ?_));exact k):A:=h k
theorem ax{A B:Prop}(k:B)(h:MG B→A:=by intro k;(repeat (first|refine Za (vA ..) ?_|refine Za (Z1 ..) ?_|refine Za (Qj ..) ?_|refine Za (Ys ..) ?_|refine Za (Z6 ..) ?_|refine Za (ZS ..) ?_|refine Za (o_ ..) ?_|refine Za rfl ?_|refine Za (lx (by assumption) (by rfl)) ?_|refine Za (Lh (by rfl)) ?_|refine Zi rfl ?_|refine Xf (lx (by assumption) (by rfl)) (Zg _) ?_|refine Xf rfl rfl ?_|refine Yh ?_|refine Ye ?_|refine Qa ?_|refine Zc rfl ?_|refine Yq ?_|refine Yx rfl ?_|refine Zw rfl ?_|refine vD ?_|refine QT rfl ?_|refine ZW rfl ?_));exact k.get):A:=h (G6 k)
theorem Q8{P:Program}{GL:ar}{b w:Bool}{r:(aa→Prop)→Prop}{K:aa→Prop}(h1:b=true→(W P GL).gr (.bool true) w r K)(h0:b=false→(W P GL).gr (.bool false) w r K):(W P GL).gr (.bool b) w r K:=by
 cases b
 ·exact h0 rfl
 ·exact h1 rfl
theorem uD{P:Program}{GL:ar}{p:Prop}[Decidable p]{a b:Prop}(h1:p→a)(h0:¬p→b):(W P GL).test (.bool (decide p)) a b:=
 Ya (λh=>h1 (of_decide_eq_true h)) (λh=>h0 (of_decide_eq_false h))
theorem AL{P:Program}{GL:ar}{p:Prop}[Decidable p]{w:Bool}{r:(aa→Prop)→Prop}{K:aa→Prop}(h1:p→decide p=true→(W P GL).gr (.bool true) w r K)(h0:¬p→decide p=false→(W P GL).gr (.bool false) w r K):(W P GL).gr (.bool (decide p)) w r K:=
 by
 by_cases h:p
 ·rw[fk h];exact h1 h (fk h)
 ·rw[gm h];exact h0 h (gm h)
theorem ag{A B:Prop}(k:B)(h:MG B→A:=by intro k;(repeat (first|refine Yh ?_|refine Ye ?_|refine Qa ?_|refine Zc rfl ?_|refine Yq ?_|refine Yx rfl ?_|refine QT rfl ?_|refine ZW rfl ?_|refine Za (Qj ..) ?_|refine Za (Ys ..) ?_|refine Za (Z6 ..) ?_|refine Za (ZS ..) ?_|refine Za (o_ ..) ?_|refine Za (uC ..) ?_|refine Za (by assumption) ?_|refine Za (lx (by assumption) (by assumption)) ?_|refine Za (Lh (by assumption)) ?_|refine Za (lx (by assumption) (by rfl)) ?_|refine Za (Lh (by rfl)) ?_|refine Za rfl ?_));exact k.get):A:=h (G6 k)
theorem AO{σ:List ab}(c:Nat)(x:ab):aj (σ.set c .dead++[x]) σ.length=x:=by
 grind [Yc]
attribute [local irreducible] aF.rd aF.pu aF.wr aF.dr aF.gr aF.gw aF.gl aF.gd aF.opt cI W
structure lO (n:Nat) (s:Sd):Prop where
 az:s.az.length<=n
 hand:s.hand.length<=n
 al:s.al.length<=n
 af:s.af.length<=n
 told:s.told.length<=n
structure bd (n:Nat) (s:St):Prop where
 ao:s.ao.length<=n
 s0:lO n s.s0
 s1:lO n s.s1
theorem qN{a b:Sd}:a=b↔a.aV=b.aV∧a.aT=b.aT∧a.most=b.most∧a.az=b.az∧a.hand=b.hand∧a.al=b.al∧a.told=b.told∧a.af=b.af:=by
 cases a;cases b<;>grind
theorem X2{a b:St}:a=b↔a.turn=b.turn∧a.mover=b.mover∧a.phase=b.phase∧a.bV=b.bV∧a.result=b.result∧a.next=b.next∧a.ao=b.ao∧a.s0=b.s0∧a.s1=b.s1:=by
 cases a;cases b<;>grind
set_option maxHeartbeats 1000000
set_option maxRecDepth 10000
theorem c20(a b:St)(ha:bd 1000000000 a):PC 15 [bZ a,bZ b] (.bool (decide (a=b))):=by
 refine Xa hP g15.ok rfl rfl ?_;rw[H2.e];unfold g15;dsimp only;refine ay ?_;rcases cA (a.turn != b.turn)with h0|h0
 ·rw[h0];refine ay ?_;simp at h0;simp[X2,h0]
 rw[h0];refine ay ?_;rcases cA (a.mover != b.mover)with h1|h1
 ·rw[h1];refine ay ?_;simp at h1;simp[X2,h1]
 rw[h1];refine ay ?_;rcases cA (a.phase != b.phase)with h2|h2
 ·rw[h2];refine ay ?_;simp at h2;simp[X2,h2]
 rw[h2];refine ay ?_;rcases cA (!(a.bV==b.bV))with h3|h3
 ·rw[h3];refine ay ?_;simp at h3;simp[X2,h3]
 rw[h3];refine ay ?_;rcases cA (a.result != b.result)with h4|h4
 ·rw[h4];refine ay ?_;simp at h4;simp[X2,h4]
 rw[h4];refine ay ?_;rcases cA (a.next != b.next)with h5|h5
 ·rw[h5];refine ay ?_;simp at h5;simp[X2,h5]
 rw[h5];refine ay ?_;refine aY (c62 _ _ (by have:=ha.ao;omega)) g38.ok ?_;refine ay ?_;rcases cA (!decide (a.ao=b.ao))with h6|h6
 ·rw[h6];refine Yh ?_;simp at h6;simp[X2,h6]
 rw[h6];refine Ye ?_;have w1:BY.wrap (0+1)=1:=by decide
 have w2:BY.wrap (1+1)=2:=by decide
 refine QK 3 (Zl ?_);refine ay ?_;rcases cA (a.s0.aV != b.s0.aV)with h7|h7
 ·rw[h7];refine ay ?_;simp at h7;simp[X2,qN,h7]
 rw[h7];refine ay ?_;rcases cA (a.s0.aT != b.s0.aT)with h8|h8
 ·rw[h8];refine ay ?_;simp at h8;simp[X2,qN,h8]
 rw[h8];refine ay ?_;rcases cA (a.s0.most != b.s0.most)with h9|h9
 ·rw[h9];refine ay ?_;simp at h9;simp[X2,qN,h9]
 rw[h9];refine ay ?_;refine aY (c62 _ _ (by have:=ha.s0.az;omega)) g38.ok ?_;refine ay ?_;rcases cA (!decide (a.s0.az=b.s0.az))with h10|h10
 ·rw[h10];refine ay ?_;simp at h10;simp[X2,qN,h10]
 rw[h10];refine ay ?_;refine aY (c62 _ _ (by have:=ha.s0.hand;omega)) g38.ok ?_;refine ay ?_;rcases cA (!decide (a.s0.hand=b.s0.hand))with h11|h11
 ·rw[h11];refine ay ?_;simp at h11;simp[X2,qN,h11]
 rw[h11];refine ay ?_;refine aY (c62 _ _ (by have:=ha.s0.al;omega)) g38.ok ?_;refine ay ?_;rcases cA (!decide (a.s0.al=b.s0.al))with h12|h12
 ·rw[h12];refine ay ?_;simp at h12;simp[X2,qN,h12]
 rw[h12];refine ay ?_;refine aY (c62 _ _ (by have:=ha.s0.told;omega)) g38.ok ?_;refine ay ?_;rcases cA (!decide (a.s0.told=b.s0.told))with h13|h13
 ·rw[h13];refine ay ?_;simp at h13;simp[X2,qN,h13]
 rw[h13];refine ay ?_;refine aY (c63 _ _ (by have:=ha.s0.af;omega)) g39.ok ?_;refine ay ?_;rcases cA (!decide (a.s0.af=b.s0.af))with h14|h14
 ·rw[h14];refine ay ?_;simp at h14;simp[X2,qN,h14]
 rw[h14];repeat first|refine Qa ?_|refine Yq ?_|refine Za rfl ?_|refine Zi rfl ?_|refine Xf rfl rfl ?_|refine Yd rfl rfl ?_
 refine Ye (Za rfl ?_);rw[w1];refine Zl (ay ?_);rcases cA (a.s1.aV != b.s1.aV)with h15|h15
 ·rw[h15];refine ay ?_;simp at h15;simp[X2,qN,h15]
 rw[h15];refine ay ?_;rcases cA (a.s1.aT != b.s1.aT)with h16|h16
 ·rw[h16];refine ay ?_;simp at h16;simp[X2,qN,h16]
 rw[h16];refine ay ?_;rcases cA (a.s1.most != b.s1.most)with h17|h17
 ·rw[h17];refine ay ?_;simp at h17;simp[X2,qN,h17]
 rw[h17];refine ay ?_;refine aY (c62 _ _ (by have:=ha.s1.az;omega)) g38.ok ?_;refine ay ?_;rcases cA (!decide (a.s1.az=b.s1.az))with h18|h18
 ·rw[h18];refine ay ?_;simp at h18;simp[X2,qN,h18]
 rw[h18];refine ay ?_;refine aY (c62 _ _ (by have:=ha.s1.hand;omega)) g38.ok ?_;refine ay ?_;rcases cA (!decide (a.s1.hand=b.s1.hand))with h19|h19
 ·rw[h19];refine ay ?_;simp at h19;simp[X2,qN,h19]
 rw[h19];refine ay ?_;refine aY (c62 _ _ (by have:=ha.s1.al;omega)) g38.ok ?_;refine ay ?_;rcases cA (!decide (a.s1.al=b.s1.al))with h20|h20
 ·rw[h20];refine ay ?_;simp at h20;simp[X2,qN,h20]
 rw[h20];refine ay ?_;refine aY (c62 _ _ (by have:=ha.s1.told;omega)) g38.ok ?_;refine ay ?_;rcases cA (!decide (a.s1.told=b.s1.told))with h21|h21
 ·rw[h21];refine ay ?_;simp at h21;simp[X2,qN,h21]
 rw[h21];refine ay ?_;refine aY (c63 _ _ (by have:=ha.s1.af;omega)) g39.ok ?_;refine ay ?_;rcases cA (!decide (a.s1.af=b.s1.af))with h22|h22
 ·rw[h22];refine ay ?_;simp at h22;simp[X2,qN,h22]
 rw[h22];repeat first|refine Qa ?_|refine Yq ?_|refine Za rfl ?_|refine Zi rfl ?_|refine Xf rfl rfl ?_|refine Yd rfl rfl ?_
 refine Ye (Za rfl ?_);rw[w2];refine Zl (Za rfl (Ye ?_));simp_all [X2,qN]
theorem Y2(m:Nat→Option Nat)(l:List Int):(ab.rows 1 (l.map aR)).dC (aa.ct m)=.rows 1 (l.map aR):=by
 simp only[ab.dC,Pq (Xc7 m)]
theorem Gv(m:Nat→Option Nat)(l:List Th):(ab.rows 4 (l.map bg)).dC (aa.ct m)=.rows 4 (l.map bg):=by
 simp only[ab.dC,Pq (YdA m)]
theorem w60{l:List Int}(hl:l.length<=1000000000){σ:List ab}{K:KT}(hK:K (.sl σ.length 0 l.length false) (σ++[.rows 1 (l.map aR)])):VV.call (.call 57) [aP l] σ K:=by
 refine Iu (c60 l hl) rfl g57.ok.plain rfl ?_;simp only[Xv,zAN,zBC,Y2,aa.ct,XC,No];exact hK
theorem d60{l:List Int}(hl:l.length<=1000000000){σ:List ab}{K:aa→List Nat×List Nat→List ab→Prop}(hK:K (.sl σ.length 0 l.length false) ([],[σ.length]) (σ++[.rows 1 (l.map aR)])):VV.eS (.call 57) [aP l] σ K:=by
 refine NO (c60 l hl) rfl g57.ok.plain rfl ?_;simp only[Xv,zAN,zBC,Y2,aa.ct,XC,No,Z7];exact hK
theorem d61{l:List Th}(hl:l.length<=1000000000){σ:List ab}{K:aa→List Nat×List Nat→List ab→Prop}(hK:K (.sl σ.length 0 l.length false) ([],[σ.length]) (σ++[.rows 4 (l.map bg)])):VV.eS (.call 58) [gU l] σ K:=by
 refine NO (c61 l hl) rfl g58.ok.plain rfl ?_;simp only[Xv,zAN,zBC,Gv,aa.ct,XC,No,Z7];exact hK
@[reducible] def yF(s:Sd)(b:Nat):List aa:=[iv s.aV,iv s.aT,iv s.most,.sl b 0 s.az.length false,.sl (b+1) 0 s.hand.length false,.sl (b+2) 0 s.al.length false,.sl (b+3) 0 s.af.length false,.sl (b+4) 0 s.told.length false]
@[reducible] def uq(s:Sd):List ab:=[.rows 1 (s.az.map aR),.rows 1 (s.hand.map aR),.rows 1 (s.al.map aR),.rows 4 (s.af.map bg),.rows 1 (s.told.map aR)]
@[reducible] def po(s:St)(b:Nat):List aa:=[iv s.turn,iv s.mover,aN s.phase,.bool s.bV,aN s.result,.sl b 0 s.ao.length false,iv s.next]++yF s.s0 (b+1)++yF s.s1 (b+6)
@[reducible] def mq(s:St):List ab:=.rows 1 (s.ao.map aR)::uq s.s0++uq s.s1
theorem c19(s:St)(hs:bd 1000000000 s):de prog aG 31 [bZ s] (.agg (po s 0)) (mq s):=by
 refine Yv hP g31.ok rfl ?_;rw[H1.e];unfold g31;dsimp only;have w1:BY.wrap (0+1)=1:=by decide
 have w2:BY.wrap (1+1)=2:=by decide
 refine ay (w60 hs.ao ?_);simp only[IS,zAG,zAM,zAL,No,Nat.reduceAdd];refine ay (QK 3 (Zl ?_));refine ay (d60 hs.s0.az ?_);simp only[IS,zAG,zAM,zAL,No,Nat.reduceAdd];refine ay (d60 hs.s0.hand ?_);simp only[IS,zAG,zAM,zAL,No,Nat.reduceAdd];refine ay (d60 hs.s0.al ?_);simp only[IS,zAG,zAM,zAL,No,Nat.reduceAdd];refine ay (d61 hs.s0.af ?_);simp only[IS,zAG,zAM,zAL,No,Nat.reduceAdd];refine ay (d60 hs.s0.told ?_);simp only[IS,zAG,zAM,zAL,No,Nat.reduceAdd];repeat first|refine Za rfl ?_|refine Yd rfl rfl ?_|refine Zi rfl ?_|refine Xf rfl rfl ?_
 refine Zw (by kernel_rfl) (Za rfl ?_);rw[w1];refine Zl (ay (d60 hs.s1.az ?_));simp only[IS,zAG,zAM,zAL,No,Nat.reduceAdd];refine ay (d60 hs.s1.hand ?_);simp only[IS,zAG,zAM,zAL,No,Nat.reduceAdd];refine ay (d60 hs.s1.al ?_);simp only[IS,zAG,zAM,zAL,No,Nat.reduceAdd];refine ay (d61 hs.s1.af ?_);simp only[IS,zAG,zAM,zAL,No,Nat.reduceAdd];refine ay (d60 hs.s1.told ?_);simp only[IS,zAG,zAM,zAL,No,Nat.reduceAdd];repeat first|refine Za rfl ?_|refine Yd rfl rfl ?_|refine Zi rfl ?_|refine Xf rfl rfl ?_
 refine Zw (by kernel_rfl) (Za rfl ?_);rw[w2];refine Zl ?_;refine ay ?_;refine Tidy.gc [3,5,6,7,8,9,11,12,13,14,15] (by decide) (by simp) ?_ rfl;simp only[JE,zAN,zBC,aj,Y2,Gv]
def gB(l:List Th)(id:Int):Option Nat:=l.findIdx? (λu=>decide (u.id=id))
theorem ZcD{l:List Th}{id:Int}{i:Nat}(h:i<l.length)(h2:l[i].id=id)(hb:∀j (hj:j<l.length),j<i→l[j].id≠id):gB l id=some i:=by
 unfold gB;rw[List.findIdx?_eq_some_iff_getElem];exact⟨h,by simpa using h2,λj hj=>by simpa using hb j (by omega) hj⟩
theorem WE{l:List Th}{id:Int}(hb:∀j (hj:j<l.length),l[j].id≠id):gB l id=none:=by
 unfold gB;rw[List.findIdx?_eq_none_iff];intro x hx;obtain⟨j,hj,rfl⟩:=zBp hx;simpa using hb j hj
def aL(s:St)(id:Int):Int×Int×Bool:=match gB s.s0.af id with
 |some k=>(0,k,true)
 |none=>match gB s.s1.af id with
  |some k=>(1,k,true)
  |none=>(0,0,false)
def gz(s:St)(id:Int):aa:=.bp [iv (aL s id).1,iv (aL s id).2.1,.bool (aL s id).2.2]
theorem c23(s:St)(hs:bd 1000000000 s)(id:Int):PC 56 [bZ s,iv id] (gz s id):=by
 refine Xa hP g56.ok rfl rfl ?_;rw[H2.e];unfold g56;dsimp only;have w1:BY.wrap (0+1)=1:=by decide
 have w2:BY.wrap (1+1)=2:=by decide
 have u0:=hs.s0.af;have u1:=hs.s1.af;refine ay (QK 3 (Zl ?_));refine Za rfl (Yh ?_);refine Xg (ι:=Nat) (λi vs σ=>vs=[iv i]∧σ=[.box (aI s)]∧i<=s.s0.af.length∧∀j (hj:j<s.s0.af.length),j<i→s.s0.af[j].id≠id) (λi=>s.s0.af.length-i) 0 ⟨rfl,rfl,by omega,λj _ h=>by omega⟩ ?_;rintro i vs σ again ⟨rfl,rfl,hi,hb⟩ bn;refine ay (Ya (λh=>?_) (λh=>?_))
 ·have h:i<s.s0.af.length:=by simpa using h
  refine ay (Za (Xm _ bg _ _ _ _ _ i h) ?_);refine ay (Ya (λh2=>?_) (λh2=>?_))
  ·have h2:s.s0.af[i].id=id:=by simpa using h2
   have hf:gB s.s0.af id=some i:=ZcD h h2 hb;simp[gz,aL,hf]
  ·have h2:s.s0.af[i].id≠id:=by simpa using h2
   refine Za rfl ?_;rw[Qc (n:=i) (by omega)];refine bn (i+1) _ _ (by omega) ⟨rfl,rfl,by omega,λj hj hji=>?_⟩;by_cases e:j=i
   ·subst e;exact h2
   ·exact hb j hj (by omega)
 have h:¬i<s.s0.af.length:=by simpa using h
 have kI:gB s.s0.af id=none:=WE (λj hj=>hb j hj (by omega));refine Za rfl ?_;rw[w1];refine Zl (Za rfl (Yh ?_));refine Xg (ι:=Nat) (λi vs σ=>vs=[iv i]∧σ=[.box (aI s)]∧i<=s.s1.af.length∧∀j (hj:j<s.s1.af.length),j<i→s.s1.af[j].id≠id) (λi=>s.s1.af.length-i) 0 ⟨rfl,rfl,by omega,λj _ h=>by omega⟩ ?_;rintro i vs σ again ⟨rfl,rfl,hi,hb⟩ bn;refine ay (Ya (λh=>?_) (λh=>?_))
 ·have h:i<s.s1.af.length:=by simpa using h
  refine ay (Za (Xm _ bg _ _ _ _ _ i h) ?_);refine ay (Ya (λh2=>?_) (λh2=>?_))
  ·have h2:s.s1.af[i].id=id:=by simpa using h2
   have hf:gB s.s1.af id=some i:=ZcD h h2 hb;simp[gz,aL,kI,hf]
  ·have h2:s.s1.af[i].id≠id:=by simpa using h2
   refine Za rfl ?_;rw[Qc (n:=i) (by omega)];refine bn (i+1) _ _ (by omega) ⟨rfl,rfl,by omega,λj hj hji=>?_⟩;by_cases e:j=i
   ·subst e;exact h2
   ·exact hb j hj (by omega)
 have h:¬i<s.s1.af.length:=by simpa using h
 have G9:gB s.s1.af id=none:=WE (λj hj=>hb j hj (by omega));refine Za rfl ?_;rw[w2];refine Zl (Za rfl (Ye ?_));simp[gz,aL,kI,G9]
abbrev Tx:=List UInt8
inductive Nm where
 |mk (op n who:Int) (kids:List Nm)
 deriving Inhabited
inductive Cn where
 |mk (op who:Int) (name:Tx) (aC:List Nm) (kids:List Cn)
 deriving Inhabited
inductive Ef where
 |mk (op who:Int) (n:Nm) (name:Tx) (c:Cn) (bP bS:List Ef)
 deriving Inhabited
def Nm.op:Nm→Int | .mk a _ _ _=>a
def Nm.n:Nm→Int | .mk _ a _ _=>a
def Nm.who:Nm→Int | .mk _ _ a _=>a
def Nm.kids:Nm→List Nm | .mk _ _ _ a=>a
def Cn.op:Cn→Int | .mk a _ _ _ _=>a
def Cn.who:Cn→Int | .mk _ a _ _ _=>a
def Cn.name:Cn→Tx | .mk _ _ a _ _=>a
def Cn.aC:Cn→List Nm | .mk _ _ _ a _=>a
def Cn.kids:Cn→List Cn | .mk _ _ _ _ a=>a
def Ef.op:Ef→Int | .mk a _ _ _ _ _ _=>a
def Ef.who:Ef→Int | .mk _ a _ _ _ _ _=>a
def Ef.n:Ef→Nm | .mk _ _ a _ _ _ _=>a
def Ef.name:Ef→Tx | .mk _ _ _ a _ _ _=>a
def Ef.c:Ef→Cn | .mk _ _ _ _ a _ _=>a
def Ef.bP:Ef→List Ef | .mk _ _ _ _ _ a _=>a
def Ef.bS:Ef→List Ef | .mk _ _ _ _ _ _ a=>a
mutual
def c8:Nm→List aa
 |.mk op n who kids=>[aN op,iv n,aN who,.aU false false 4 (Ab kids)]
def Ab:List Nm→List (List aa)
 |[]=>[]
 |x::l=>c8 x::Ab l
end
theorem W4:∀l,Ab l=l.map c8
 |[]=>rfl
 |x::l=>by simp[Ab,W4 l]
theorem QA(x:Nm):c8 x=[aN x.op,iv x.n,aN x.who,.aU false false 4 (x.kids.map c8)]:=by
 cases x;simp[c8,W4,Nm.op,Nm.n,Nm.who,Nm.kids]
mutual
def f_:Cn→List aa
 |.mk op who name aC kids=>[aN op,aN who,.str name,.aU false false 4 (aC.map c8),.aU false false 5 (zp kids)]
def zp:List Cn→List (List aa)
 |[]=>[]
 |x::l=>f_ x::zp l
end
theorem WZ:∀l,zp l=l.map f_
 |[]=>rfl
 |x::l=>by simp[zp,WZ l]
theorem XE(x:Cn):f_ x=[aN x.op,aN x.who,.str x.name,.aU false false 4 (x.aC.map c8),.aU false false 5 (x.kids.map f_)]:=by
 cases x;simp[f_,WZ,Cn.op,Cn.who,Cn.name,Cn.aC,Cn.kids]
mutual
def bj:Ef→List aa
 |.mk op who n name c bP bS=>[aN op,aN who,aN n.op,iv n.n,aN n.who,.aU false false 4 (n.kids.map c8),.str name,aN c.op,aN c.who,.str c.name,.aU false false 4 (c.aC.map c8),.aU false false 5 (c.kids.map f_),.aU false false 14 (vY bP),.aU false false 14 (vY bS)]
def vY:List Ef→List (List aa)
 |[]=>[]
 |x::l=>bj x::vY l
end
theorem Xdi:∀l,vY l=l.map bj
 |[]=>rfl
 |x::l=>by simp[vY,Xdi l]
theorem Zr(x:Ef):bj x=[aN x.op,aN x.who,aN x.n.op,iv x.n.n,aN x.n.who,.aU false false 4 (x.n.kids.map c8),.str x.name,aN x.c.op,aN x.c.who,.str x.c.name,.aU false false 4 (x.c.aC.map c8),.aU false false 5 (x.c.kids.map f_),.aU false false 14 (x.bP.map bj),.aU false false 14 (x.bS.map bj)]:=by
 cases x;simp[bj,Xdi,Ef.op,Ef.who,Ef.n,Ef.name,Ef.c,Ef.bP,Ef.bS]
structure Cd where
 name:Tx
 unit:Bool
 cost:Int
 dG:Int
 bJ:Int
 dg:Int
 eR:Int
 dP:Int
 c9:List Ef
 dead:List Ef
 dR:List Ef
 pl:Int
 deriving Inhabited
@[reducible] def gY(l:List Ef):aa:=.aU false false 14 (l.map bj)
def cL(c:Cd):List aa:=[.str c.name,.bool c.unit,iv c.cost,iv c.dG,iv c.bJ,iv c.dg,iv c.eR,iv c.dP,gY c.c9,gY c.dead,gY c.dR,iv c.pl]
def vb(t:Tx):List aa:=[.str t]
@[reducible] def Hm(l:List Tx):aa:=.aU false false 1 (l.map vb)
structure Fo where
 name:Tx
 least:Int
 most:Int
 jI:Int
 jG:List Tx
 single:List Tx
 pl:Int
 deriving Inhabited
def oi(f:Fo):List aa:=[.str f.name,iv f.least,iv f.most,iv f.jI,Hm f.jG,Hm f.single,iv f.pl]
structure Bk where
 ai:List Cd
 aw:List Fo
 deriving Inhabited
@[reducible] def iH(l:List Cd):aa:=.aU false false 12 (l.map cL)
@[reducible] def o9(l:List Fo):aa:=.aU false false 7 (l.map oi)
@[reducible] def cC(b:Bk):aa:=.agg [iH b.ai,o9 b.aw]
def iF(n:Int):Bool:=decide (-1000000<=n)&&decide (n<=1000000)
theorem c116(n:Int):PC 65 [iv n] (.bool (iF n)):=by
 refine Xa hP g65.ok rfl rfl ?_;rw[H1.e];unfold g65;dsimp only;refine Za rfl ?_;rcases cA (decide (n >= -1000000))with h|h
 ·rw[h];refine ay ?_;have h':-1000000<=n:=by simpa using h
  simp[iF,h']
 ·rw[h];refine ay ?_;have h':¬ -1000000<=n:=by simpa using h
  simp[iF,h']
theorem c57(n:Int):PC 63 [iv n] (.bool (iF n)):=by
 refine Xa hP g63.ok rfl rfl ?_;rw[H1.e];unfold g63;dsimp only;refine Za rfl ?_;rcases cA (decide (n >= -1000000))with h|h
 ·rw[h];refine ay ?_;have h':-1000000<=n:=by simpa using h
  simp[iF,h']
 ·rw[h];refine ay ?_;have h':¬ -1000000<=n:=by simpa using h
  simp[iF,h']
def Qo(n:Nat)(l:List Int)(most:Int):Bool:=decide ((l.length:Int)<=most)&&l.all λc=>decide (0<=c)&&decide (c<n)
theorem c117(b:Bk)(l:List Int)(most:Int)(hl:l.length<=1000000000):PC 92 [cC b,aP l,iv most] (.bool (Qo b.ai.length l most)):=by
 refine Xa hP g92.ok rfl rfl ?_;rw[H3.e];unfold g92;dsimp only;refine ay (Ya (λh=>?_) (λh=>?_))
 ·have h:most<l.length:=by simpa using h
  have h':¬(l.length:Int)<=most:=by omega
  simp[Qo,h']
 have hm:(l.length:Int)<=most:=by simpa using h
 refine Xg (ι:=Nat) (λi vs σ=>vs=[iv i]∧σ=[.box [iH b.ai,o9 b.aw]]∧i<=l.length∧∀j (hj:j<l.length),j<i→0<=l[j]∧l[j]<b.ai.length) (λi=>l.length-i) 0 ⟨rfl,rfl,by omega,λj _ h=>by omega⟩ ?_;rintro i vs σ again ⟨rfl,rfl,hi,hb⟩ bn;refine ay (Ya (λh=>?_) (λh=>?_))
 ·have h:i<l.length:=by simpa using h
  refine Za (Xm _ aR _ _ _ l _ i h) (ay ?_);have bad:¬(0<=l[i]∧l[i]<b.ai.length)→aa.bool false=aa.bool (Qo b.ai.length l most):=by
   intro hn;have:Qo b.ai.length l most=false:=by
    simp only[Qo,Bool.and_eq_false_iff];right;rw[List.all_eq_false];refine⟨l[i],AT h,?_⟩;simpa using hn
   rw[this]
  rcases cA (decide (l[i]<0))with h2|h2
  ·rw[h2];refine ay (bad ?_);have:l[i]<0:=by simpa using h2
   omega
  rw[h2];refine ay ?_;refine Za (Xm _ aR _ _ _ l _ i h) ?_;refine ay ?_;have h2:¬l[i]<0:=by simpa using h2
  refine Ya (λh3=>?_) (λh3=>?_)
  ·refine bad ?_;have:(b.ai.length:Int)<=l[i]:=by simpa using h3
   omega
  ·have:¬(b.ai.length:Int)<=l[i]:=by simpa using h3
   refine Za rfl ?_;rw[Qc (n:=i) (by omega)];refine bn (i+1) _ _ (by omega) ⟨rfl,rfl,by omega,λj hj hji=>?_⟩;by_cases e:j=i
   ·subst e;omega
   ·exact hb j hj (by omega)
 ·have h:¬i<l.length:=by simpa using h
  have:Qo b.ai.length l most=true:=by
   simp only[Qo,AI,fE,zAj];refine⟨hm,λx hx=>?_⟩;obtain⟨j,hj,rfl⟩:=zBp hx;exact hb j hj (by omega)
  rw[this]
theorem ld{σ:List ab}{b j n:Nat}{agg:Bool}{row:List aa}{v:aa}(hb:aj σ b=.box row)(hv:aK agg j n row=some v):Qe agg n [.ak b j] σ=.ok v [b] []:=by
 rw[YcA,hb];simp only[hv]
theorem cX{σ:List ab}{b j n:Nat}{x:aa}{cs row row':List aa}(hb:aj σ b=.box row)(hc:cellsOf x=some cs)(hn:IN cs.length n=true)(hs:cc j cs row=some row'):Yj n [.ak b j,x] σ=.ok .aQ [] [(b,.box row')]:=by
 rw[Xdh,hb];simp only[hc,hn,cond_true,hs]
theorem Qu{P:Program}{GL:ar}{σ:List ab}{z:List aa}{n:Nat}{x:aa}{row row':List aa}{K:aa→KT}(hc:cellsOf x=some row)(hn:IN row.length n=true)(hs:cc 0 row z=some row')
 (hK:K (.ak σ.length 0) .aQ (σ++[.box row'])):(W P GL).wr (Qs z [] σ) σ (λt σ'=>(W P GL).wr (Yj n [t,x] σ') σ' (K t)):=by
 refine Yd (Qd7 σ z) (Xe _ _) (Yd (cX (Yc _ _) hc hn hs) (Ze _ (by simp)) ?_);have:(σ++[ab.box z]).set σ.length (.box row')=σ++[.box row']:=by
  rw[List.set_append_right _ _ (IT _)];simp
 rw[this];exact hK
def BX(σ σ':List ab):Prop:=∀c r,aj σ c=.box r→aj σ' c=.box r
theorem BX.trans{a b c:List ab}(h:BX a b)(k:BX b c):BX a c:=λx r e=>k x r (h x r e)
theorem BX.app(σ l:List ab):BX σ (σ++l):=λ_ _ h=>Qb l h
theorem ed.more{n k:Nat}{rows:List (List aa)}{v:aa}{σ:List ab}(h:ed n rows k v σ)(l:List ab):ed n rows k v (σ++l):=by
 rcases h with h|⟨h1,b,h2,h3,h4⟩
 ·exact .inl h
 ·exact .inr ⟨h1,b,h2,Qb l h3,h4⟩
theorem ed.len{n k:Nat}{rows:List (List aa)}{v:aa}{σ:List ab}(h:ed n rows k v σ)(σ':List ab):Qn [v] σ'=.ok (.int .i64 k) [] []:=by
 rcases h with ⟨rfl,rfl,_⟩|⟨_,b,rfl,_,_⟩<;>rfl
theorem ed.at{n k:Nat}{rows:List (List aa)}{v:aa}{σ:List ab}(h:ed n rows k v σ)(q:IntKind)(j:Nat)(hj:j<k) :
  ∃b,Qh n [v,.int q (j:Int)] σ=.ok (.ptr b j 0) [b] []∧∃hj:j<rows.length,∀agg m w,aK agg 0 m rows[j]=some w→Qe agg m [.ptr b j 0] σ=.ok w [b] []:=by
 rcases h with ⟨rfl,rfl,_⟩|⟨_,b,rfl,hb,hl⟩
 ·omega
 ·refine⟨b,?_,by omega,λagg m w hw=>?_⟩
  ·have:=sE σ b 0 k false n rows q j hj hb
   rwa [No]at this
  ·show (match aj σ b with
   |.rows _ rs=>match nth rs j with
    |some row=>match aK agg 0 m row with
     |some v=>aA.ok v [b] []
     |none=>.stop
    |none=>.stop
   | _=>.stop)=_
   rw[hb];simp only[Y7,zAU (show j<rows.length by omega),hw]
theorem ed.jX{α:Type}(A:aF α){hold:α→Prop}{n by_ k:Nat}{rows:List (List aa)}{v:aa}{σ:List ab}{row:List aa}(hg:ed n rows k v σ)(hr:row.all aa.cell=true)(bM:(2*(k+1)+192)*by_<=2 ^ 48)(K:aa→List ab→α)
 (hK:∀v' σ',BX σ σ'→ed n (rows++[row]) (k+1) v' σ'→hold (K v' σ')):hold (A.wr (Qf n by_ [v,.sl σ.length 0 1 true] (σ++[.rows n [row]])) (σ++[.rows n [row]]) K):=by
 rcases hg with ⟨rfl,rfl,rfl⟩|⟨hk,b,rfl,hb,hl⟩
 ·rw[RK A n by_ σ row hr (by simpa using bM)];exact hK _ _ ((BX.app _ _).trans (BX.app _ _)) (.inr ⟨by omega,_,rfl,by have:=Yc (σ++[.rows n [row]]) (.rows n [row]);simpa using this,rfl⟩)
 ·rw[Il A n by_ σ b k false rows row hb hl hr bM];refine hK _ _ (BX.trans (λc r hc=>?_) ((BX.app (σ.set b .dead) _).trans (BX.app _ _))) (.inr ⟨by omega,_,rfl,?_,by simp[hl]⟩)
  ·refine Zb hc (by simp) ?_;rintro rfl;rw[hb]at hc;cases hc
  ·have:=Yc (σ.set b .dead++[.rows n [row]]) (.rows n (rows++[row]));simpa using this
theorem sH{α:Type}(σ:List ab)(f:α→List aa)(e n:Bool)(s:Nat)(l:List α)(k:IntKind)(c:Int)(h0:0<=c)(h:c.toNat<l.length):Qh s [.aU e n s (l.map f),.int k c] σ=.ok (.aq (f l[c.toNat]) 0) [] []:=by
 obtain⟨m,rfl⟩:=Int.eq_ofNat_of_zero_le h0;exact Xm σ f e n s l k m (by simpa using h)
def Qz(b:Bk)(next:Int)(u:Th):Bool:=decide (0<=u.card)&&(decide (u.card<b.ai.length)&&(((b.ai[u.card.toNat]?).map Cd.unit).getD false&&(decide (0<=u.harm)&&(decide (u.harm<=1000000)&&(decide (1<=u.id)&&decide (u.id<next))))))
def XA(b:Bk)(next:Int):List Int→List Th→Bool
 |_,[]=>true
 |ids,u::l=>Qz b next u&&(!(ids.contains u.id)&&XA b next (ids++[u.id]) l)
def Zx(n:Nat)(x:Sd):Bool:=iF x.aV&&(decide (0<=x.aT)&&(iF x.aT&&(decide (0<=x.most)&&(decide (x.most<=10)&&(Qo n x.az 60&&(Qo n x.hand 10&&(Qo n x.al 1000000&&(Qo n x.told 1000000&&decide (x.af.length<=7)))))))))
def YC(b:Bk)(s:St):Bool:=Zx b.ai.length s.s0&&(XA b s.next [] s.s0.af&&(Zx b.ai.length s.s1&&XA b s.next (s.s0.af.map Th.id) s.s1.af))
set_option maxHeartbeats 2000000
def Ip(b:Bk)(s:St):Nat→Bool
 |0=>YC b s
 |1=>Zx b.ai.length s.s1&&XA b s.next (s.s0.af.map Th.id) s.s1.af
 |_=>true
def oL(s:St):Nat→List Int
 |0=>[]
 |1=>s.s0.af.map Th.id
 |_=>s.s0.af.map Th.id++s.s1.af.map Th.id
theorem c68(b:Bk)(s:St)(hs:bd 1000000000 s):PC 55 [cC b,bZ s] (.bool (YC b s)):=by
 refine Xa hP g55.ok rfl rfl ?_;rw[H2.e];unfold g55;dsimp only;refine ay ?_;refine Xg (ι:=Nat) (λj vs σ=>∃v,vs=[iv j,v]∧j<=2∧ed 1 ((oL s j).map aR) (oL s j).length v σ∧aj σ 0=.box [iH b.ai,o9 b.aw]∧aj σ 1=.box (aI s)∧YC b s=Ip b s j) (λj=>2-j) 0 ⟨_,rfl,by omega,ed.nil _ _,rfl,rfl,rfl⟩ ?_;rintro j vs σ S1 ⟨v,rfl,hj,hg,dI,je,hr⟩ TW;refine ag (uD (λuQ=>?_) (λuQ=>?_));rotate_left
 ·have:j=2:=by omega
  subst this;exact congrArg aa.bool hr.symm
 have uQ:j=0∨j=1:=by omega
 obtain⟨d,hd,hp,hr,hn,vo⟩:∃d,lO 1000000000 d∧(∀σ,Yk 2 8 [.ak 1 (0+7),iv j] σ=.ok (.ak 1 (7+8*j)) [] []∧aK true (7+8*j) 8 (aI s)=some (.agg (yE d)))∧YC b s=((Zx b.ai.length d&&XA b s.next (oL s j) d.af)&&Ip b s (j+1))∧oL s (j+1)=oL s j++d.af.map Th.id∧(oL s j).length<=1000000000:=by
  rcases uQ with rfl|rfl
  ·exact⟨_,hs.s0,λ_=>⟨rfl,rfl⟩,by simp[YC,Ip,oL,zCM],rfl,by simp[oL]⟩
  ·exact⟨_,hs.s1,λ_=>⟨rfl,rfl⟩,by rw[hr];simp[Ip,oL],rfl,by simpa[oL]using hs.s0.af⟩
 generalize oL s j=uZ at *;refine Za rfl (Za (hp _).1 (Za (ld je (hp []).2) (Qu (row':=yE d) rfl rfl rfl ?_)));have vk:=Yc σ (.box (yE d))
 replace dI:=Qb [.box (yE d)] dI
 replace je:=Qb [.box (yE d)] je
 replace hg:=hg.more [.box (yE d)]
 generalize σ.length=N at vk ⊢;generalize σ ++ [ab.box (yE d)]=σ2 at dI je vk hg ⊢;refine ag ?_;repeat' (first
  |refine aY (c116 _) g65.ok ?_
  |refine aY (c117 _ _ _ hd.az) g92.ok ?_
  |refine aY (c117 _ _ _ hd.hand) g92.ok ?_
  |refine aY (c117 _ _ _ hd.al) g92.ok ?_
  |refine aY (c117 _ _ _ hd.told) g92.ok ?_
  |refine Q8 (λh=>?_) (λh=>?_)<;>(try rw[h])
  | refine Ya (λh=>?_) (λh=>?_)) <;> (refine ag ?_)
 all_goals first
  |grind [Zx]
  |skip
 have C7:Zx b.ai.length d=true:=by grind [Zx]
 have O4:d.af.length<=7:=by simp[Zx]at C7;omega
 rw[C7,zAF]at hr;refine Xg (ι:=Nat) (λi vs σ=>∃v,vs=[iv i,v]∧i<=d.af.length∧ed 1 ((uZ++(d.af.take i).map Th.id).map aR) (uZ.length+i) v σ∧aj σ 0=.box [iH b.ai,o9 b.aw]∧aj σ 1=.box (aI s)∧aj σ N=.box (yE d)∧YC b s=(XA b s.next (uZ++(d.af.take i).map Th.id) (d.af.drop i)&&Ip b s (j+1))) (λi=>d.af.length-i) 0 ⟨v,rfl,by omega,by simpa using hg,dI,je,vk,by simpa using hr⟩ ?_;clear dI je vk hg hr;rintro i vs σ3 again ⟨v,rfl,hi,hg,dI,je,vk,hu⟩ bn;refine ag (uD (λh=>?_) (λh=>?_));rotate_left
 ·have h:i=d.af.length:=by simp at h;omega
  subst h;rw[zAr]at hg;rw[zAD,XA,zAF]at hu;refine ag ?_;rw[Qc (n:=j) (by omega)];exact TW (j+1) _ _ (by omega) ⟨v,rfl,by omega,by rw[hn];simpa using hg,dI,je,hu⟩
 have h:i<d.af.length:=by simpa using h
 have uX:=Yw _ _ h;have cH:=λσ=>Xm σ bg false false 4 d.af .i64 i h;rw[gI h,XA]at hu;generalize d.af[i]=u at hu uX cH;refine ag (Za (cH _) (Za rfl (Qu (row':=bg u) rfl rfl rfl ?_)));have JN:=Yc σ3 (.box (bg u))
 replace dI:=Qb [.box (bg u)] dI
 replace je:=Qb [.box (bg u)] je
 replace vk:=Qb [.box (bg u)] vk
 replace hg:=hg.more [.box (bg u)]
 generalize σ3.length=N3 at JN ⊢;generalize σ3 ++ [ab.box (bg u)]=σ4 at dI je vk JN hg ⊢;refine ag ?_;repeat' (first
  |(refine AL (λh e=>?_) (λh e=>?_)<;>(try rw[e]))
  |refine Za (sH _ cL _ _ _ _ _ _ (by omega) (by simp at *;omega)) ?_
  |refine Q8 (λh=>?_) (λh=>?_)<;>(try rw[h])
  | refine Ya (λh=>?_) (λh=>?_)) <;> (refine ag ?_)
 all_goals first
  |grind [Qz]
  |skip
 have bQ:Qz b s.next u=true:=by grind [Qz]
 rw[bQ,zAF]at hu;generalize pk:uZ++(d.af.take i).map Th.id=ids at hg hu;have mw:ids.length=uZ.length+i:=by rw[←pk];simp;omega
 refine Xg (ι:=Nat) (λj vs σ=>vs=[iv j]∧σ=σ4∧j<=ids.length∧∀m (hm:m<ids.length),m<j→ids[m]≠u.id) (λj=>ids.length-j) 0 ⟨rfl,rfl,by omega,λm _ h=>by omega⟩ ?_;rintro j2 vs σ mE ⟨rfl,rfl,hj,lV⟩ ll;refine Za (hg.len _) (ag (uD (λh2=>?_) (λh2=>?_)))
 ·have h2:j2<ids.length:=by omega
  obtain⟨bb,e1,t_,e2⟩:=hg.at .i64 j2 (by omega);refine Za e1 (Za (e2 false 1 (iv ids[j2]) (by simp[aR])) (ag (uD (λh3=>?_) (λh3=>?_))))
  ·have:u.id∈ids:=by rw[←h3];exact AT h2
   grind
  ·refine ag ?_;rw[Qc (n:=j2) (by omega)];exact ll (j2+1) _ _ (by omega) ⟨rfl,rfl,by omega,λm hm wN=>by grind⟩
 have lZ:ids.contains u.id=false:=by
  rw[List.contains_eq_mem,sG];intro hm;obtain⟨m,hm,e⟩:=zBp hm;exact lV m hm (by omega) e
 rw[lZ,zBw,zAF]at hu;refine ag ?_;rw[GI _ _ _ _ _ [iv u.id] rfl rfl];refine hg.jX _ (hold:=λp=>p) rfl (by omega) _ (λv' σ' hx tY=>?_);refine ag ?_;rw[Qc (n:=i) (by omega)];have uX:uZ++(d.af.take (i+1)).map Th.id=ids++[u.id]:=by rw[←pk,uX];simp
 refine bn (i+1) _ _ (by omega) ⟨v',rfl,by omega,?_,hx _ _ dI,hx _ _ je,hx _ _ vk,?_⟩
 ·rw[uX];simpa[aR,Nat.add_assoc]using tY
 ·rw[uX];exact hu
def fm(s:St):List Int→List Int→Bool
 |_,[]=>true
 |prev,a::l=>((aL s a).2.2&&decide ((aL s a).1=s.mover))&&(!(prev.contains a)&&fm s (prev++[a]) l)
def aO(e:Int)(b:Bk)(s:St)(bare:Bool):Bool:=
 decide (e=0) && (decide (1<=s.turn) && (decide (s.turn<=4096) && (decide (0<=s.mover) && (decide (s.mover<=1) && (decide (0<=s.phase) && (decide (s.phase<=2) && (decide (0<=s.result) && (decide (s.result<=3) &&
 (((s.result == 0) == (s.phase != 2)) && (decide (1<=s.next) && (decide (s.next<=1000000) && (YC b s &&
 (if s.phase≠1 then decide (s.ao.length=0)else !(decide (s.ao.length=0) && !bare) && (s.bV && (decide (s.ao.length<=7) && fm s [] s.ao)))))))))))))))
theorem c25(b:Bk)(s:St)(hs:bd 1000000000 s)(bare:Bool)(e p:Int)(h67:PC 42 [cC b] (.agg [iv e,iv p])):PC 29 [cC b,bZ s,.bool bare] (.bool (aO e b s bare)):=by
 refine Xa hP g29.ok rfl rfl ?_;rw[H3.e];unfold g29;dsimp only;refine ay ?_;refine aY h67 g42.ok ?_;refine ay ?_;rcases cA (e != 0)with q1|q1
 ·rw[q1];refine ay ?_;simp at q1;simp[aO,q1]
 rw[q1];refine ay ?_;rcases cA (decide (s.turn<1))with q2|q2
 ·rw[q2];refine ay ?_
  grind [aO]
 rw[q2];refine ay ?_;rcases cA (decide (s.turn>4096))with q3|q3
 ·rw[q3];refine ay ?_
  grind [aO]
 rw[q3];refine ay ?_;rcases cA (decide (s.mover<0))with q4|q4
 ·rw[q4];refine ay ?_
  grind [aO]
 rw[q4];refine ay ?_;rcases cA (decide (s.mover>1))with q5|q5
 ·rw[q5];refine ay ?_
  grind [aO]
 rw[q5];refine ay ?_;rcases cA (decide (s.phase<0))with q6|q6
 ·rw[q6];refine ay ?_
  grind [aO]
 rw[q6];refine ay ?_;rcases cA (decide (s.phase>2))with q7|q7
 ·rw[q7];refine ay ?_
  grind [aO]
 rw[q7];refine ay ?_;rcases cA (decide (s.result<0))with q8|q8
 ·rw[q8];refine ay ?_
  grind [aO]
 rw[q8];refine ay ?_;refine Ya (λq9=>?_) (λq9=>?_)
 ·grind [aO]
 refine ay ?_;rcases cA (!(s.result==0)==(s.phase != 2))with q10|q10
 ·rw[q10];refine ay ?_;simp_all [aO]
 rw[q10];refine ay ?_;rcases cA (decide (s.next<1))with q11|q11
 ·rw[q11];refine ay ?_
  grind [aO]
 rw[q11];refine ay ?_;rcases cA (decide (s.next>1000000))with q12|q12
 ·rw[q12];refine ay ?_
  grind [aO]
 rw[q12];refine ay (aY (c68 b s hs) g55.ok ?_);refine ay (Ya (λq13=>?_) (λq13=>?_))
 ·grind [aO]
 have Q1:e=0:=by simpa using q1
 have Q10:((s.result==0)==(s.phase != 2))=true:=by
  simp_all
 have Q13:YC b s=true:=by simpa using q13
 simp at q2 q3 q4 q5 q6 q7 q8 q9 q11 q12;have hm:aO e b s bare=(if s.phase≠1 then decide (s.ao.length=0)else !(decide (s.ao.length=0) && !bare)&&(s.bV&&(decide (s.ao.length<=7)&&fm s [] s.ao))):=by
  simp_all [aO]
 rw[hm];clear hm Q1 Q10 Q13 q1 q2 q3 q4 q5 q6 q7 q8 q9 q10 q11 q12 q13;refine ay (Ya (λh=>?_) (λh=>?_))
 ·have h:s.phase≠1:=by simpa using h
  refine ay ?_;rw[aJ h]
  congr 1
  rw[zAk];simp
 have h:s.phase=1:=by simpa using h
 rw[aE (by simp[h])];refine ay ?_;rcases cA ((((s.ao.map aR).length:Nat):Int)==0)with h1|h1
 ·rw[h1];have h1:s.ao=[]:=by simpa using h1
  refine ay ?_;cases bare with
  |false=>
   refine ay ?_;simp[h1]
  |true=>
   refine ay ?_;rcases cA (!s.bV)with h2|h2
   ·rw[h2];refine ay ?_;simp_all
   rw[h2];have h2:s.bV=true:=by simpa using h2
   refine ay ?_;rw[h1];refine Ye (QK 1 (Zl ?_));refine ay ?_;rw[h1];refine Ye ?_;simp[h2,fm]
 rw[h1];have h1:s.ao.length≠0:=by simpa using h1
 refine ay ?_;have uG:(decide (s.ao.length=0) && !bare)=false:=by simp[h1]
 rw[uG,zBw,zAF];rcases cA (!s.bV)with h2|h2
 ·rw[h2];refine ay ?_;simp_all
 rw[h2];have h2:s.bV=true:=by simpa using h2
 rw[h2,zAF];refine ay (Ya (λh3=>?_) (λh3=>?_))
 ·grind
 have h3:s.ao.length<=7:=by simp at h3;omega
 rw[fk h3,zAF];have bad:fm s [] s.ao=false→aa.bool false=aa.bool (fm s [] s.ao):=λh=>by rw[h]
 generalize hB:([]++[ab.box [iH b.ai,o9 b.aw]]++[ab.box (aI s)]:List ab)=base;have je:aj base 1=.box (aI s):=by rw[←hB];rfl
 generalize hN:([]++[ab.box [iH b.ai,o9 b.aw]]:List ab).length=N;have hN1:N=1:=by rw[←hN];rfl
 subst hN1;clear hB hN;refine Xg (ι:=Nat) (λi vs σ=>vs=[iv i]∧σ=base∧i<=s.ao.length∧fm s [] s.ao=fm s (s.ao.take i) (s.ao.drop i)) (λi=>s.ao.length-i) 0 ⟨rfl,rfl,by omega,by simp⟩ ?_;rintro i vs σ again ⟨rfl,rfl,hi,hu⟩ bn;refine ax (Ya (λh=>?_) (λh=>?_))
 ·have h:i<s.ao.length:=by simpa using h
  have eK:s.ao.drop i=s.ao[i]::s.ao.drop (i+1):=by rw[gI h]
  rw[eK]at hu;refine Xf (ld je rfl) (Zg _) (Zi rfl (Xf (ld je rfl) (Zg _) (Xf (Xm _ aR _ _ _ _ _ i h) (Zg _) (Xf rfl (Zg _) ?_))));refine Y9 (c23 s hs s.ao[i]) g56.ok (ay ?_);generalize ha:s.ao[i]=a at hu;rcases cA (!(aL s a).2.2)with h4|h4
  ·rw[h4];refine ay (bad ?_);simp_all [fm]
  rw[h4];refine ax (Ya (λh5=>bad ?_) (λh5=>?_))
  ·simp_all [fm]
  have oE:((aL s a).2.2&&decide ((aL s a).1=s.mover))=true:=by
   simp_all
  rw[fm,oE,zAF]at hu;refine Xg (ι:=Nat) (λj vs σ2=>vs=[iv j]∧σ2=σ∧j<=i∧∀m (hm:m<s.ao.length),m<j→s.ao[m]≠a) (λj=>i-j) 0 ⟨rfl,rfl,by omega,λm _ h=>by omega⟩ ?_;rintro j vs σ mE ⟨rfl,rfl,hj,lV⟩ ll;refine Za rfl (Ya (λh6=>?_) (λh6=>?_))
  ·have h6:j<i:=by simpa using h6
   repeat first|refine Za (ld je rfl) ?_|refine Za (Xm _ aR _ _ _ s.ao _ j (by omega)) ?_|refine Za (Xm _ aR _ _ _ s.ao _ i h) ?_|refine Za rfl ?_
   refine Ya (λh7=>bad ?_) (λh7=>?_)
   ·have h7:s.ao[j]=a:=by rw[←ha];simpa using h7
    have:a∈s.ao.take i:=by
     rw[zDR];exact⟨j,by omega,h7⟩
    rw[hu];simp[this]
   ·have h7:s.ao[j]≠a:=by rw[←ha];simpa using h7
    refine Za rfl ?_;rw[Qc (n:=j) (by omega)];refine ll (j+1) _ _ (by omega) ⟨rfl,rfl,by omega,λm hm wN=>?_⟩
    grind
  ·have h6:¬j<i:=by simpa using h6
   have lZ:(s.ao.take i).contains a=false:=by
    grind [zDR]
   rw[lZ,zBw,zAF]at hu;refine Za rfl ?_;rw[Qc (n:=i) (by omega)];refine bn (i+1) _ _ (by omega) ⟨rfl,rfl,by omega,?_⟩;rw[Yw _ _ h,ha];exact hu
 grind [fm]
abbrev gn:Nat:=1152921504606846975
def BL(n:Int):Bool:=decide (-128<=n)&&decide (n<=127)
def Dx(n:Int):Bool:=decide (-9223372036854775808<=n)&&decide (n<=9223372036854775807)
theorem Xet{n:Int}(h:BL n=true):-128<=n∧n<=127:=by simpa[BL]using h
mutual
def cW:Nm→Bool
 |.mk op n _ kids=>decide (kids.length<=gn)&&(y_ kids&&(BL op&&Dx n))
def y_:List Nm→Bool
 |[]=>true
 |x::l=>cW x&&y_ l
end
theorem P5:∀ {l:List Nm},y_ l=true→∀x∈l,cW x=true
 |[],_,_,h=>by simp at h
 |y::l,h,x,hx=>by
  simp only[y_,AI]at h;rcases zAR.1 hx with rfl|hx
  ·exact h.1
  ·exact P5 h.2 x hx
theorem HN{x:Nm}(h:cW x=true):x.kids.length<=gn:=by cases x;simp[cW]at h;exact h.1
theorem XY{x k:Nm}(h:cW x=true)(hk:k∈x.kids):cW k=true:=by cases x;simp[cW]at h;exact P5 h.2.1 k hk
theorem AK{x k:Nm}(hk:k∈x.kids):zAT k<zAT x:=by
 cases x with
 |mk a b c kids=>
  have:=zBL (show k∈kids from hk);simp;omega
mutual
def cG:Cn→Bool
 |.mk op _ _ aC kids=>(decide (aC.length<=gn)&&y_ aC)&&(decide (kids.length<=gn)&&(Cs kids&&BL op))
def Cs:List Cn→Bool
 |[]=>true
 |x::l=>cG x&&Cs l
end
theorem Zbz:∀ {l:List Cn},Cs l=true→∀x∈l,cG x=true
 |[],_,_,h=>by simp at h
 |y::l,h,x,hx=>by
  simp only[Cs,AI]at h;rcases zAR.1 hx with rfl|hx
  ·exact h.1
  ·exact Zbz h.2 x hx
theorem Y3{x:Cn}(h:cG x=true):x.aC.length<=gn:=by cases x;simp[cG]at h;exact h.1.1
theorem Z3{x:Cn}(h:cG x=true):x.kids.length<=gn:=by cases x;simp[cG]at h;exact h.2.1
theorem Y5{x:Cn}{k:Nm}(h:cG x=true)(hk:k∈x.aC):cW k=true:=by cases x;simp[cG]at h;exact P5 h.1.2 k hk
theorem Z5{x k:Cn}(h:cG x=true)(hk:k∈x.kids):cG k=true:=by cases x;simp[cG]at h;exact Zbz h.2.2.1 k hk
theorem Cw{x k:Cn}(hk:k∈x.kids):zAT k<zAT x:=by
 cases x with
 |mk a b c aC kids=>
  have:=zBL (show k∈kids from hk);simp;omega
mutual
def dS:Ef→Bool
 |.mk op _ n _ c bP bS=>cW n&&(cG c&&((decide (bP.length<=gn)&&yg bP)&&((decide (bS.length<=gn)&&yg bS)&&BL op)))
def yg:List Ef→Bool
 |[]=>true
 |x::l=>dS x&&yg l
end
theorem ZbB:∀ {l:List Ef},yg l=true→∀x∈l,dS x=true
 |[],_,_,h=>by simp at h
 |y::l,h,x,hx=>by
  simp only[yg,AI]at h;rcases zAR.1 hx with rfl|hx
  ·exact h.1
  ·exact ZbB h.2 x hx
def bE(l:List Ef):Bool:=decide (l.length<=gn)&&yg l
theorem zh{x:Ef}(h:dS x=true):cW x.n=true:=by cases x;simp[dS]at h;exact h.1
theorem Y6{x:Ef}(h:dS x=true):cG x.c=true:=by cases x;simp[dS]at h;exact h.2.1
theorem XN{x:Ef}(h:dS x=true):bE x.bP=true:=by cases x;simp_all [dS,bE,Ef.bP]
theorem YN{x:Ef}(h:dS x=true):bE x.bS=true:=by cases x;simp_all [dS,bE,Ef.bS]
theorem ZdN{x:Ef}(h:dS x=true):-128<=x.op∧x.op<=127:=by cases x;simp[dS]at h;exact Xet h.2.2.2.2
theorem YF{l:List Ef}(h:bE l=true):l.length<=gn:=by simp[bE]at h;exact h.1
theorem QN{l:List Ef}{x:Ef}(h:bE l=true)(hx:x∈l):dS x=true:=by grind [bE,ZbB]
theorem br{n:Int}(h1:-9223372036854775808<=n)(h2:n<=9223372036854775807):BY.wrap n=n:=zAZ _ ⟨h1,h2⟩
theorem mM(x:Nm):ga [.agg (c8 x)]=true:=by rw[QA];rfl
theorem rR(x:Nm):aK true 0 4 (c8 x)=some (.agg (c8 x)):=by rw[QA];rfl
theorem qW(x:Cn):ga [.agg (f_ x)]=true:=by rw[XE];rfl
theorem zo(x:Cn):aK true 0 5 (f_ x)=some (.agg (f_ x)):=by rw[XE];rfl
theorem bB{σ:List ab}{j n:Nat}{agg:Bool}{row:List aa}{v:aa}(hv:aK agg j n row=some v):Qe agg n [.aq row j] σ=.ok v [] []:=by
 rw[Iw,hv]
mutual
def mi:Nm→Int
 |.mk _ _ _ kids=>kf 1 kids
def kf:Int→List Nm→Int
 |n,[]=>n
 |n,x::l=>kf (min (n+mi x) 1073741824) l
end
theorem Yd1(x:Nm):mi x=kf 1 x.kids:=by cases x;rfl
theorem SJ:∀(l:List Nm) (n:Int),0<=n→n<=1073741824→(∀x∈l,0<=mi x)→0<=kf n l∧kf n l<=1073741824
 |[],n,h1,h2,_=>⟨h1,h2⟩
 |x::l,n,h1,h2,h3=>by
  have:=h3 x (by simp);exact SJ l _ (by omega) (by omega) (λy hy=>h3 y (by simp[hy]))
theorem Xd1:∀(k:Nat) (x:Nm),zAT x<=k→0<=mi x∧mi x<=1073741824
 |0,x,h=>by cases x;simp at h
 |k+1,x,h=>by
  rw[Yd1];exact SJ _ _ (by omega) (by omega) (λy hy=>(Xd1 k y (by have:=AK hy;omega)).1)
theorem II(x:Nm):0<=mi x∧mi x<=1073741824:=Xd1 _ x (IT _)
mutual
def nX:Cn→Int
 |.mk _ _ _ aC kids=>nY (kf 1 aC) kids
def nY:Int→List Cn→Int
 |n,[]=>n
 |n,x::l=>nY (min (n+nX x) 1073741824) l
end
theorem WV(x:Cn):nX x=nY (kf 1 x.aC) x.kids:=by cases x;rfl
theorem Xda:∀(l:List Cn) (n:Int),0<=n→n<=1073741824→(∀x∈l,0<=nX x)→0<=nY n l∧nY n l<=1073741824
 |[],n,h1,h2,_=>⟨h1,h2⟩
 |x::l,n,h1,h2,h3=>by
  have:=h3 x (by simp);exact Xda l _ (by omega) (by omega) (λy hy=>h3 y (by simp[hy]))
theorem ZdX:∀(k:Nat) (x:Cn),zAT x<=k→0<=nX x∧nX x<=1073741824
 |0,x,h=>by cases x;simp at h
 |k+1,x,h=>by
  rw[WV];have h1:=SJ x.aC 1 (by omega) (by omega) (λy _=>(II y).1);exact Xda _ _ h1.1 h1.2 (λy hy=>(ZdX k y (by have:=Cw hy;omega)).1)
theorem R7(x:Cn):0<=nX x∧nX x<=1073741824:=ZdX _ x (IT _)
def cq(op:Int):Bool:=decide (op=0)||(decide (op=1)||(decide (op=2)||(decide (op=3)||decide (op=5))))
def mN(w:Int):Bool:=decide (w=0)||decide (w=1)
theorem Ja:∀(k:Nat) (x:Nm),zAT x<=k→cW x=true→PC 99 [.agg (c8 x)] (iv (mi x))
 |0,x,h,_=>by cases x;simp at h
 |k+1,x,hk,hf=>by
  rw[QA];refine Xa hP g99.ok rfl rfl ?_;rw[H1.e];unfold g99;dsimp only;refine Yd rfl rfl ?_;rw[Yd1];have hlen:=HN hf;generalize hB:([]++[ab.box [aN x.op,iv x.n,aN x.who,.aU false false 4 (x.kids.map c8)]]:List ab)=base;have dI:aj base 0=.box [aN x.op,iv x.n,aN x.who,.aU false false 4 (x.kids.map c8)]:=by rw[←hB];rfl
  clear hB;refine Xg (ι:=Nat) (λi vs σ=>∃n,vs=[iv i,iv n]∧σ=base∧i<=x.kids.length∧0<=n∧n<=1073741824∧kf 1 x.kids=kf n (x.kids.drop i)) (λi=>x.kids.length-i) 0 ⟨1,rfl,rfl,by omega,by omega,by omega,by simp⟩ ?_;rintro i vs σ again ⟨n,rfl,rfl,hi,n1,n2,hu⟩ bn;repeat first|refine Za (ld dI rfl) ?_|refine Za rfl ?_
  refine Ya (λh=>?_) (λh=>?_)
  ·have h:i<x.kids.length:=by simpa using h
   have eK:x.kids.drop i=x.kids[i]::x.kids.drop (i+1):=by rw[gI h]
   rw[eK,kf]at hu;have hm:x.kids[i]∈x.kids:=AT h;refine Za rfl (Za (ld dI rfl) (Za (Xm _ c8 _ _ _ x.kids _ i h) (Za (bB (rR _)) ?_)));refine Yo (Ja k _ (by have:=AK hm;omega) (XY hf hm)) rfl g99.ok.plain (mM _) ?_;have:=II x.kids[i];refine Za (Qj ..) (Za (Z1 ..) (Za (Qj ..) ?_));rw[Qc (n:=i) (by grind),br (by omega) (by omega)];exact bn (i+1) _ _ (by omega) ⟨_,rfl,rfl,by omega,by omega,by omega,hu⟩
  ·have h:i=x.kids.length:=by simp at h;omega
   subst h;rw[zAD]at hu;rw[hu];rfl
theorem c76(x:Nm)(hf:cW x=true):PC 99 [.agg (c8 x)] (iv (mi x)):=Ja _ x (IT _) hf
theorem Gb{f:(mC)→Prop}{k:mC}(h:f k):cI f k:=by unfold cI;exact h
theorem cZ:gn=1152921504606846975:=rfl
theorem lS(x:Ef):aK true 0 14 (bj x)=some (.agg (bj x)):=by rw[Zr];rfl
theorem rf(x:Ef):aK true 2 4 (bj x)=some (.agg (c8 x.n)):=by rw[Zr,QA];rfl
theorem od(x:Ef):aK true 7 5 (bj x)=some (.agg (f_ x.c)):=by rw[Zr,XE];rfl
theorem gO(x:Ef):aK false 0 1 (bj x)=some (aN x.op):=by rw[Zr];rfl
theorem n_(x:Ef):aK false 1 1 (bj x)=some (aN x.who):=by rw[Zr];rfl
theorem Bq(x:Ef):aK false 6 1 (bj x)=some (.str x.name):=by rw[Zr];rfl
theorem Co(x:Ef):aK false 12 1 (bj x)=some (gY x.bP):=by rw[Zr];rfl
theorem Cf(x:Ef):aK false 13 1 (bj x)=some (gY x.bS):=by rw[Zr];rfl
theorem AX:∀(k:Nat) (x:Cn),zAT x<=k→cG x=true→PC 100 [.agg (f_ x)] (iv (nX x))
 |0,x,h,_=>by cases x;simp at h
 |k+1,x,hk,hf=>by
  rw[XE];refine Xa hP g100.ok rfl rfl ?_;rw[H1.e];unfold g100;dsimp only;refine Yd rfl rfl ?_;rw[WV];have gk:=Y3 hf;have dU:=Z3 hf;rw[cZ]at gk dU;generalize hB:([]++[ab.box [aN x.op,aN x.who,.str x.name,.aU false false 4 (x.aC.map c8),.aU false false 5 (x.kids.map f_)]]:List ab)=base;have dI:aj base 0=.box [aN x.op,aN x.who,.str x.name,.aU false false 4 (x.aC.map c8),.aU false false 5 (x.kids.map f_)]:=by rw[←hB];rfl
  clear hB;refine Xg (ι:=Nat) (λi vs σ=>∃n,vs=[iv i,iv n]∧σ=base∧i<=x.aC.length∧0<=n∧n<=1073741824∧kf 1 x.aC=kf n (x.aC.drop i)) (λi=>x.aC.length-i) 0 ⟨1,rfl,rfl,by omega,by omega,by omega,by simp⟩ ?_;rintro i vs σ again ⟨n,rfl,rfl,hi,n1,n2,hu⟩ bn;refine ax (Ya (λh=>?_) (λh=>?_))
  ·have h:i<x.aC.length:=by simpa using h
   have eK:x.aC.drop i=x.aC[i]::x.aC.drop (i+1):=by rw[gI h]
   rw[eK,kf]at hu;have hm:x.aC[i]∈x.aC:=AT h;refine Za rfl (Za (ld dI rfl) (Za (Xm _ c8 _ _ _ x.aC _ i h) (Za (bB (rR _)) ?_)));refine Yo (c76 _ (Y5 hf hm)) rfl g99.ok.plain (mM _) ?_;have:=II x.aC[i];refine ay ?_;rw[Qc (n:=i) (by omega),br (by omega) (by omega)];exact bn (i+1) _ _ (by omega) ⟨_,rfl,rfl,by omega,by omega,by omega,hu⟩
  have h:i=x.aC.length:=by simp at h;omega
  subst h;rw[zAD,kf]at hu;rw[hu];clear bn hu hi;refine Xg (ι:=Nat) (λi vs s=>∃m,vs=[iv i,iv m]∧s=σ∧i<=x.kids.length∧0<=m∧m<=1073741824∧nY n x.kids=nY m (x.kids.drop i)) (λi=>x.kids.length-i) 0 ⟨n,rfl,rfl,by omega,by omega,by omega,by simp⟩ ?_;rintro i vs s again ⟨m,rfl,rfl,hi,n1,n2,hu⟩ bn;refine ax (Ya (λh=>?_) (λh=>?_))
  ·have h:i<x.kids.length:=by simpa using h
   have eK:x.kids.drop i=x.kids[i]::x.kids.drop (i+1):=by rw[gI h]
   rw[eK,nY]at hu;have hm:x.kids[i]∈x.kids:=AT h;refine Za rfl (Za (ld dI rfl) (Za (Xm _ f_ _ _ _ x.kids _ i h) (Za (bB (zo _)) ?_)));refine Yo (AX k _ (by have:=Cw hm;omega) (Z5 hf hm)) rfl g100.ok.plain (qW _) ?_;have:=R7 x.kids[i];refine ay ?_;rw[Qc (n:=i) (by omega),br (by omega) (by omega)];exact bn (i+1) _ _ (by omega) ⟨_,rfl,rfl,by omega,by omega,by omega,hu⟩
  ·have h:i=x.kids.length:=by simp at h;omega
   subst h;rw[zAD]at hu;rw[hu];rfl
theorem c178(x:Cn)(hf:cG x=true):PC 100 [.agg (f_ x)] (iv (nX x)):=AX _ x (IT _) hf
theorem c121(w:Int):PC 139 [aN w] (.bool (mN w)):=by
 refine Xa hP g139.ok rfl rfl ?_;rw[H1.e];unfold g139;dsimp only;refine Za rfl ?_;rcases cA (w==0)with h1|h1
 ·rw[h1];refine ay ?_;simp at h1;simp[mN,h1]
 rw[h1];refine ay ?_;have h1:w≠0:=by simpa using h1
 exact congrArg aa.bool (by rw[zAk];simp[mN,h1])
theorem c130(w:Int):PC 98 [aN w] (.bool (cq w)):=by
 refine Xa hP g98.ok rfl rfl ?_;rw[H1.e];unfold g98;dsimp only;refine Za rfl ?_;rcases cA (w==0)with h0|h0
 ·rw[h0];refine ay ?_;simp at h0;simp[cq,h0]
 rw[h0];refine ay ?_;rcases cA (w==1)with h1|h1
 ·rw[h1];refine ay ?_;simp at h1;simp[cq,h1]
 rw[h1];refine ay ?_;rcases cA (w==2)with h2|h2
 ·rw[h2];refine ay ?_;simp at h2;simp[cq,h2]
 rw[h2];refine ay ?_;rcases cA (w==3)with h3|h3
 ·rw[h3];refine ay ?_;simp at h3;simp[cq,h3]
 rw[h3];refine ay ?_;simp at h0 h1 h2 h3;exact congrArg aa.bool (by rw[zAk];simp[cq,h0,h1,h2,h3])
mutual
def dA:Int→List Ef→Int
 |n,[]=>n
 |n,x::l=>dA (CM n x) l
def CM:Int→Ef→Int
 |n0,.mk op _ nn _ c bP bS=>
  if op=8 then min ((if cq op then min (min (n0+1) 1073741824+mi nn) 1073741824 else min (n0+1) 1073741824)+nX c+dA 0 bP+dA 0 bS) 1073741824 else (if cq op then min (min (n0+1) 1073741824+mi nn) 1073741824 else min (n0+1) 1073741824)
end
theorem IF(n:Int)(x:Ef):CM n x=if x.op=8 then min ((if cq x.op then min (min (n+1) 1073741824+mi x.n) 1073741824 else min (n+1) 1073741824)+nX x.c+dA 0 x.bP+dA 0 x.bS) 1073741824 else (if cq x.op then min (min (n+1) 1073741824+mi x.n) 1073741824 else min (n+1) 1073741824):=by
 cases x;rfl
theorem MM:∀(k:Nat) (l:List Ef) (n:Int),zAT l<=k→0<=n→n<=1073741824→0<=dA n l∧dA n l<=1073741824
 |0,l,n,h,_,_=>by cases l<;>simp at h
 |k+1,[],n,_,h1,h2=>⟨h1,h2⟩
 |k+1,x::l,n,h,h1,h2=>by
  simp only[List.cons.sizeOf_spec]at h;have hx:zAT x.bP<zAT x∧zAT x.bS<zAT x:=by
   cases x;simp[Ef.bP,Ef.bS];omega
  have q1:=MM k x.bP 0 (by omega) (by omega) (by omega);have q2:=MM k x.bS 0 (by omega) (by omega) (by omega);have q3:=II x.n;have q4:=R7 x.c;have q5:0<=CM n x∧CM n x<=1073741824:=by
   rw[IF];split<;>split<;>omega
  rw[dA];exact MM k l _ (by omega) q5.1 q5.2
theorem Hz(l:List Ef):0<=dA 0 l∧dA 0 l<=1073741824:=MM _ l 0 (IT _) (by omega) (by omega)
theorem Gz(x:Ef):zAT x.bP<zAT x∧zAT x.bS<zAT x:=by
 cases x;simp[Ef.bP,Ef.bS];omega
theorem qQ:∀(k:Nat) (l:List Ef),zAT l<=k→bE l=true→PC 66 [gY l] (iv (dA 0 l))
  |0,l,h,_=>by cases l<;>simp at h
  |k+1,l,hk,hf=>by
    refine Xa hP g66.ok rfl rfl ?_;rw[H1.e];unfold g66;dsimp only;have hlen:=YF hf;rw[cZ]at hlen;refine Xg (ι:=Nat) (λi vs σ=>∃n,vs=[iv i,iv n]∧i<=l.length∧0<=n∧n<=1073741824∧dA 0 l=dA n (l.drop i)) (λi=>l.length-i) 0 ⟨0,rfl,by omega,by omega,by omega,by simp⟩ ?_;rintro i vs σ again ⟨n,rfl,hi,n1,n2,hu⟩ bn;refine Za rfl (Za rfl ?_);refine Ya (λh=>?_) (λh=>?_)
    · have h:i<l.length:=by simpa using h
      have eK:l.drop i=l[i]::l.drop (i+1):=by rw[gI h]
      rw[eK,dA]at hu;have hm:l[i]∈l:=AT h;have eL:=zBL hm;have jD:=QN hf hm;have ix:=λ(s:List ab)=>Xm s bj false false 14 l .i64 i h;generalize l[i]=x at hu eL jD ix;refine ay (Za (ix _) (Za rfl (Za (bB (gO x)) ?_)));refine aY (c130 _) g98.ok ?_;have b1:=II x.n;have b2:=R7 x.c;have b3:=Hz x.bP;have b4:=Hz x.bS;rw[br (n:=n+1) (by omega) (by omega)];have fin:∀m:Int,0<=m→m<=1073741824→CM n x=m→again [iv ((i+1:Nat):Int),iv m] σ:=by
        intro m m1 m2 e;exact bn (i+1) _ _ (by omega) ⟨m,rfl,by omega,m1,m2,by rw[hu,e]⟩
      refine Gb (Ya (λhc=>?_) (λhc=>?_))
      all_goals
        first
        | (refine Za (ix _) (Za rfl (Za (bB (rf x)) ?_))
           refine Yo (c76 _ (zh jD)) rfl g99.ok.plain (mM _) (ay ?_);rw[br (n:=min (n + 1) 1073741824 + mi x.n) (by omega) (by omega)])
        |skip
      · have qF:(if cq x.op then min (min (n+1) 1073741824+mi x.n) 1073741824 else min (n+1) 1073741824)=min (min (n+1) 1073741824+mi x.n) 1073741824:=by rw[aJ hc]
        obtain⟨m,hm⟩:∃m,m=min (min (n+1) 1073741824+mi x.n) 1073741824:=⟨_,rfl⟩;rw[←hm]
        replace qF:=qF.trans hm.symm
        have m1:0<=m∧m<=1073741824:=by omega
        refine Za (ix _) (Za rfl (Za (bB (gO x)) (Za rfl ?_)));refine Ya (λh8=>?_) (λh8=>?_)
        · have h8:x.op=8:=by simpa using h8
          refine Xf (ix _) (Zg _) (Zi rfl (Xf (bB (od x)) (Zg _) ?_));refine Yt (c178 _ (Y6 jD)) rfl g100.ok.plain (qW _) (Zi (Qj ..) (Xf (ix _) (Zg _) (Zi rfl (Xf (bB (Co x)) (Zg _) ?_))));have qf:=Gz x;refine Y9 (qQ k _ (by omega) (XN jD)) g66.ok (Zi (Qj ..) (Xf (ix _) (Zg _) (Zi rfl (Xf (bB (Cf x)) (Zg _) ?_))));refine Y9 (qQ k _ (by omega) (YN jD)) g66.ok (Zi (Qj ..) (Zi (Z1 ..) (Zw (by kernel_rfl) (Za (Qj ..) ?_))));rw[Qc (n:=i) (by omega),br (n:=m+nX x.c) (by omega) (by omega),br (n:=m+nX x.c+dA 0 x.bP) (by omega) (by omega),br (n:=m+nX x.c+dA 0 x.bP+dA 0 x.bS) (by omega) (by omega)];exact fin _ (by omega) (by omega) (by rw[IF,aJ h8,qF])
        · have h8:x.op≠8:=by simpa using h8
          refine Za (Qj ..) ?_;rw[Qc (n:=i) (by omega)];simp_all [IF]
      · have qF:(if cq x.op then min (min (n+1) 1073741824+mi x.n) 1073741824 else min (n+1) 1073741824)=min (n+1) 1073741824:=by rw[aE (by simpa using hc)]
        obtain⟨m,hm⟩:∃m,m=min (n+1) 1073741824:=⟨_,rfl⟩;rw[←hm]
        replace qF:=qF.trans hm.symm
        have m1:0<=m∧m<=1073741824:=by omega
        refine Za (ix _) (Za rfl (Za (bB (gO x)) (Za rfl ?_)));refine Ya (λh8=>?_) (λh8=>?_)
        · have h8:x.op=8:=by simpa using h8
          refine Xf (ix _) (Zg _) (Zi rfl (Xf (bB (od x)) (Zg _) ?_));refine Yt (c178 _ (Y6 jD)) rfl g100.ok.plain (qW _) (Zi (Qj ..) (Xf (ix _) (Zg _) (Zi rfl (Xf (bB (Co x)) (Zg _) ?_))));have qf:=Gz x;refine Y9 (qQ k _ (by omega) (XN jD)) g66.ok (Zi (Qj ..) (Xf (ix _) (Zg _) (Zi rfl (Xf (bB (Cf x)) (Zg _) ?_))));refine Y9 (qQ k _ (by omega) (YN jD)) g66.ok (Zi (Qj ..) (Zi (Z1 ..) (Zw (by kernel_rfl) (Za (Qj ..) ?_))));rw[Qc (n:=i) (by omega),br (n:=m+nX x.c) (by omega) (by omega),br (n:=m+nX x.c+dA 0 x.bP) (by omega) (by omega),br (n:=m+nX x.c+dA 0 x.bP+dA 0 x.bS) (by omega) (by omega)];exact fin _ (by omega) (by omega) (by rw[IF,aJ h8,qF])
        · have h8:x.op≠8:=by simpa using h8
          refine Za (Qj ..) ?_;rw[Qc (n:=i) (by omega)];simp_all [IF]
    · have h:i=l.length:=by simp at h;omega
      subst h;rw[zAD]at hu;rw[hu];rfl
theorem c142(l:List Ef)(hf:bE l=true):PC 66 [gY l] (iv (dA 0 l)):=qQ _ l (IT _) hf
def el(x:Nm):Bool:=decide (x.op=0)&&(decide (x.n=0)&&(decide (x.who=0)&&decide (x.kids.length=0)))
def fe(x:Cn):Bool:=decide (x.op=0)&&(decide (x.who=0)&&(x.name==[]&&(decide (x.aC.length=0)&&decide (x.kids.length=0))))
def ee:List Cd→Tx→Bool→Bool
 |[],_,_=>false
 |c::l,t,u=>if c.name==t then c.unit || !u else ee l t u
def yj(cs:List Cd)(t:Bool):List aa:=[iH cs,.bool t]
theorem Qg{f:(mC)→Prop}{k:mC}(h:∀k',k'=k→f k'):cI f k:=Gb (h k rfl)
theorem c110(c:Cd)(h1:bE c.c9=true)(h2:bE c.dead=true)(h3:bE c.dR=true):PC 40 [.agg (cL c)] (iv (min (dA 0 c.c9+dA 0 c.dead+dA 0 c.dR) 1073741824)):=by
 refine Xa hP g40.ok rfl rfl ?_;rw[H1.e];unfold g40;dsimp only;refine Yd rfl rfl (Zi rfl (Xf rfl rfl ?_));refine Y9 (c142 _ h1) g66.ok (Zi rfl (Xf rfl rfl ?_));refine Y9 (c142 _ h2) g66.ok (Zi (Qj ..) (Zi rfl (Xf rfl rfl ?_)));refine Y9 (c142 _ h3) g66.ok (Zi (Qj ..) (Zi (Z1 ..) (Zw (by kernel_rfl) ?_)));have b1:=Hz c.c9;have b2:=Hz c.dead;have b3:=Hz c.dR;rw[br (n:=dA 0 c.c9+dA 0 c.dead) (by omega) (by omega),br (by omega) (by omega)]
theorem c225(x:Nm):PC 134 [.agg (c8 x)] (.bool (el x)):=by
 rw[QA];refine Xa hP g134.ok rfl rfl ?_;rw[H1.e];unfold g134;dsimp only;refine ae ?_;rcases cA (decide (x.op=0))with h1|h1
 rotate_left
 ·rw[h1];refine ay ?_;simp at h1;simp[el,h1]
 rw[h1];refine ae ?_;rcases cA (decide (x.n=0))with h2|h2
 rotate_left
 ·rw[h2];refine ay ?_;simp at h2;simp[el,h2]
 rw[h2];refine ae ?_;rcases cA (decide (x.who=0))with h3|h3
 rotate_left
 ·rw[h3];refine ay ?_;simp at h3;simp[el,h3]
 rw[h3];refine ae ?_;simp at h1 h2 h3;simp[el,h1,h2,h3]
theorem c227(x:Cn):PC 136 [.agg (f_ x)] (.bool (fe x)):=by
 rw[XE];refine Xa hP g136.ok rfl rfl ?_;rw[H1.e];unfold g136;dsimp only;refine ae ?_;rcases cA (decide (x.op=0))with h1|h1
 rotate_left
 ·rw[h1];refine ay ?_;simp at h1;simp[fe,h1]
 rw[h1];refine ae ?_;rcases cA (decide (x.who=0))with h2|h2
 rotate_left
 ·rw[h2];refine ay ?_;simp at h2;simp[fe,h2]
 rw[h2];refine ae ?_;rcases cA (x.name==[])with h3|h3
 rotate_left
 ·rw[h3];refine ay ?_;simp at h3;simp[fe,h3]
 rw[h3];refine ae ?_;rcases cA (decide (((x.aC.map c8).length:Int)=0))with h4|h4
 rotate_left
 ·rw[h4];refine ay ?_;simp at h4;simp[fe,h4]
 rw[h4];refine ae ?_;simp at h1 h2 h3 h4;simp[fe,h1,h2,h3,h4]
theorem c187(n:Int):PC 155 [iv n] (.bool (decide (0<=n)&&decide (n<=999))):=by
 refine Xa hP g155.ok rfl rfl ?_;rw[H1.e];unfold g155;dsimp only;refine Za rfl ?_;rcases cA (decide (n >= 0))with h|h
 ·rw[h];refine ay ?_;have h':0<=n:=by simpa using h
  simp[h']
 ·rw[h];refine ay ?_;have h':¬0<=n:=by simpa using h
  simp[h']
theorem nU(x:Cd):aK false 0 1 (cL x)=some (.str x.name):=rfl
theorem tP(x:Cd):aK false 1 1 (cL x)=some (.bool x.unit):=rfl
theorem c228(cs:List Cd)(hc:cs.length<=gn)(t:Bool)(nm:Tx)(u:Bool):PC 138 [.aq (yj cs t) 0,.str nm,.bool u] (.bool (ee cs nm u)):=by
 refine Xa hP g138.ok rfl rfl ?_;rw[H3.e];unfold g138;dsimp only;rw[cZ]at hc;refine Xg (ι:=Nat) (λi vs σ=>vs=[iv i]∧i<=cs.length∧ee cs nm u=ee (cs.drop i) nm u) (λi=>cs.length-i) 0 ⟨rfl,by omega,by simp⟩ ?_;rintro i vs σ again ⟨rfl,hi,hu⟩ bn;refine ay (Ya (λh=>?_) (λh=>?_))
 ·have h:i<cs.length:=by simpa using h
  have eK:cs.drop i=cs[i]::cs.drop (i+1):=by rw[gI h]
  rw[eK,ee]at hu;have ix:=λ(s:List ab)=>Xm s cL false false 12 cs .i64 i h;generalize cs[i]=c at hu ix;refine ay (Za (ix _) (Za rfl (Za (bB (nU c)) (Za (uC ..) ?_))));refine Ya (λh=>?_) (λh=>?_)
  ·rw[aJ h]at hu;refine ay (Za (ix _) (Za rfl (Za (bB (tP c)) ?_)));rw[hu];cases c.unit<;>repeat (first|refine Qa ?_|refine Zc rfl ?_|refine QT rfl ?_|refine Za rfl ?_)
   ·simp
   ·simp
  ·rw[aE (by simpa using h)]at hu;refine Za (Qj ..) ?_;rw[Qc (n:=i) (by omega)];exact bn (i+1) _ _ (by omega) ⟨rfl,by omega,hu⟩
 ·have h:i=cs.length:=by simp at h;omega
  subst h;rw[zAD]at hu;rw[hu];rfl
def xl(op:Int):Nat:=if 8<=op∧op<=12 then 2 else 0
def iM(t:Bool)(op n who:Int)(len:Nat):Bool:=
 (decide (0<=op)&&(decide (op<=12)&&decide (len=xl op)))
def fJ(t:Bool)(op n who:Int):Bool:=
 if op=0 then decide (0<=n)&&(decide (n<=999)&&decide (who=0))else decide (n=0)&&(if 1<=op∧op<=4 then mN who else decide (who=0)&&(decide (op≠7)||t))
mutual
def eP (t:Bool):Nm→Bool
 |.mk op n who kids=>iM t op n who kids.length&&(cx t kids&&fJ t op n who)
def cx (t:Bool):List Nm→Bool
 |[]=>true
 |x::l=>eP t x&&cx t l
end
theorem NB(t:Bool)(x:Nm):eP t x=(iM t x.op x.n x.who x.kids.length&&(cx t x.kids&&fJ t x.op x.n x.who)):=by cases x;rfl
def nj(op:Int):Nat:=if 0<=op∧op<=2 then 2 else 0
def nk(op:Int):Nat:=if op=4∨op=5 then 2 else if op=3 then 1 else 0
def gM(op:Int)(l3 l4:Nat):Bool:=decide (0<=op)&&(decide (op<=6)&&(decide (l3=nj op)&&decide (l4=nk op)))
def gL(cs:List Cd)(op who:Int)(name:Tx):Bool:=if op=6 then mN who&&ee cs name false else decide (who=0)&&name==[]
mutual
def fG (cs:List Cd) (t:Bool):Cn→Bool
 |.mk op who name aC kids=>gM op aC.length kids.length&&(cx t aC&&(eH cs t kids&&gL cs op who name))
def eH (cs:List Cd) (t:Bool):List Cn→Bool
 |[]=>true
 |x::l=>fG cs t x&&eH cs t l
end
theorem Rj(cs:List Cd)(t:Bool)(x:Cn):fG cs t x=(gM x.op x.aC.length x.kids.length&&(cx t x.aC&&(eH cs t x.kids&&gL cs x.op x.who x.name))):=by cases x;rfl
theorem Jb(u:aa)(t:Bool):∀(k:Nat) (x:Nm),zAT x<=k→cW x=true→PC 137 [.aq ([u,.bool t]) 0,.agg (c8 x)] (.bool (eP t x))
 |0,x,h,_=>by cases x;simp at h
 |k+1,x,hk,hf=>by
  rw[QA];refine Xa hP g137.ok rfl rfl ?_;rw[H2.e];unfold g137;dsimp only;refine Yd rfl rfl ?_;rw[NB];have hlen:=HN hf;rw[cZ]at hlen;generalize hB:([]++[ab.box [aN x.op,iv x.n,aN x.who,.aU false false 4 (x.kids.map c8)]]:List ab)=base;have dI:aj base 0=.box [aN x.op,iv x.n,aN x.who,.aU false false 4 (x.kids.map c8)]:=by rw[←hB];rfl
  clear hB;refine ax ?_;have pick:∀K:aa→Prop,K (.bool (decide (8<=x.op)&&decide (x.op<=12))) →
    VV.gr (.bool (decide (x.op >= 8))) true (λk=>VV.rd (Xb 0 [.ak 0 0] base) k) λLR=>
    VV.gr (.bool (decide (x.op >= 8))) true (λk=>VV.rd (Qe false 1 [LR] base) k) λLY=>
    VV.gr (.bool (decide (x.op >= 8))) true (λk=>VV.rd (Ym .leq false [LY,(.int .i8 12)] base) k) λL3=>
    VV.rd (Zo [.bool (decide (x.op >= 8)),L3,(.bool false)] base) K:=by
   intro K hK;rcases cA (decide (x.op >= 8))with h|h
   rotate_left
   ·rw[h];refine ay ?_;simp_all
   rw[h];refine ax ?_;simp_all
  refine pick _ ?_;clear pick;refine Qg λkj gQ=>?_;have kk:kj [iv (xl x.op)] base:=by
   rw[gQ];clear gQ kj;refine ax ?_;have pb:¬(0<=x.op∧x.op<=12∧x.kids.length=xl x.op)→aa.bool false=aa.bool (iM t x.op x.n x.who x.kids.length&&(cx t x.kids&&fJ t x.op x.n x.who)):=by
    simp_all [iM]
   rcases cA (decide (x.op<0))with h1|h1
   ·rw[h1];refine ay (pb ?_);simp at h1;omega
   rw[h1];refine ax ?_;rcases cA (decide (x.op>12))with h2|h2
   ·rw[h2];refine ay (pb ?_);simp at h2;omega
   rw[h2];refine ax (Ya (λh3=>pb ?_) (λh3=>?_))
   ·simp at h3;omega
   simp at h1 h2 h3;have ht:iM t x.op x.n x.who x.kids.length=true:=by simp[iM];omega
   rw[ht,zAF];refine Xg (ι:=Nat) (λi vs σ=>vs=[iv i]∧σ=base∧i<=x.kids.length∧cx t x.kids=cx t (x.kids.drop i)) (λi=>x.kids.length-i) 0 ⟨rfl,rfl,by omega,by simp⟩ ?_;rintro i vs σ again ⟨rfl,rfl,hi,hu⟩ bn;refine ax (Ya (λh=>?_) (λh=>?_))
   ·have h:i<x.kids.length:=by simpa using h
    have eK:x.kids.drop i=x.kids[i]::x.kids.drop (i+1):=by rw[gI h]
    rw[eK,cx]at hu;have hm:x.kids[i]∈x.kids:=AT h;refine Za rfl (Za (ld dI rfl) (Za (Xm _ c8 _ _ _ x.kids _ i h) (Za (bB (rR _)) ?_)));refine Yo (Jb u t k _ (by have:=AK hm;omega) (XY hf hm)) rfl g137.ok.plain (by rw[QA];rfl) (Za rfl (Ya (λh4=>?_) (λh4=>?_)))
    ·simp_all
    ·have h4:eP t x.kids[i]=true:=by simpa using h4
     rw[h4,zAF]at hu;refine Za (Qj ..) ?_;rw[Qc (n:=i) (by omega)]
     grind
   have h:i=x.kids.length:=by simp at h;omega
   subst h;rw[zAD,cx]at hu;rw[hu,zAF];clear bn hu hi pb ht;refine Za rfl (Za (ld dI rfl) (Za (Ys ..) ?_));refine Ya (λh5=>?_) (λh5=>?_)
   ·have h5:x.op=0:=by simpa using h5
    refine ax ?_;rcases cA (decide (x.n >= 0))with h6|h6
    rotate_left
    ·rw[h6];refine ay ?_;simp[h6,fJ,h5]
    rw[h6];refine ax ?_;rcases cA (decide (x.n<=999))with h7|h7
    rotate_left
    ·rw[h7];refine ay ?_;simp[h7,fJ,h5]
    rw[h7];refine ax ?_;simp[h6,h7,fJ,h5]
   have h5:x.op≠0:=by simpa using h5
   refine ax (Ya (λh6=>?_) (λh6=>?_))
   ·simp_all [fJ]
   have h6:x.n=0:=by simpa using h6
   refine ax ?_;have op1:1<=x.op:=by omega
   have VB:decide (x.op >= 1)=true:=by simpa using op1
   rw[VB];refine ax (Ya (λh7=>?_) (λh7=>?_))
   ·have h7:x.op<=4:=by simpa using h7
    refine Za rfl (Za (ld dI rfl) ?_);refine aY (c121 _) g139.ok ?_;simp[fJ,h5,h6,h7,op1]
   have h7:¬x.op<=4:=by simpa using h7
   refine Za rfl (Za (ld dI rfl) (Za (Ys ..) ?_));rcases cA (decide (x.who=0))with h8|h8
   rotate_left
   ·rw[h8];refine ay ?_;simp[h8,fJ,h7]
   rw[h8];repeat first|refine Qa ?_|refine Yq ?_|refine Za (ld dI rfl) ?_|refine Za (Ys ..) ?_|refine Za (uC ..) ?_|refine Za rfl ?_
   have h8:x.who=0:=by simpa using h8
   rcases cA (x.op != 7)with h9|h9
   ·rw[h9];repeat first|refine Zc rfl ?_|refine Yx rfl ?_|refine QT rfl ?_|refine ZW rfl ?_|refine Za rfl ?_
    have h9:x.op≠7:=by simpa using h9
    simp[fJ,h5,h6,h7,h8,h9]
   rw[h9];refine ay ?_;simp_all [fJ]
  refine Ya (λh=>?_) (λh=>?_)
  ·have e:xl x.op=2:=by simp at h;simp[xl,h]
   rw[e]at kk;exact kk
  ·have e:xl x.op=0:=by simp at h;simp[xl];omega
   rw[e]at kk;exact kk
theorem c77(cs:List Cd)(t:Bool)(x:Nm)(hf:cW x=true):PC 137 [.aq (yj cs t) 0,.agg (c8 x)] (.bool (eP t x)):=Jb (iH cs) t _ x (IT _) hf
theorem Bj(cs:List Cd)(t:Bool)(x:Cn):ga [.aq (yj cs t) 0,.agg (f_ x)]=true:=by rw[XE];rfl
theorem BV(cs:List Cd)(t:Bool)(x:Nm):ga [.aq (yj cs t) 0,.agg (c8 x)]=true:=by rw[QA];rfl
theorem A_(cs:List Cd)(gu:cs.length<=gn)(t:Bool):∀(k:Nat) (x:Cn),zAT x<=k→cG x=true→PC 135 [.aq (yj cs t) 0,.agg (f_ x)] (.bool (fG cs t x))
 |0,x,h,_=>by cases x;simp at h
 |k+1,x,hk,hf=>by
  rw[XE];refine Xa hP g135.ok rfl rfl ?_;rw[H2.e];unfold g135;dsimp only;refine Yd rfl rfl ?_;rw[Rj];have gk:=Y3 hf;have dU:=Z3 hf;rw[cZ]at gk dU;generalize hB:([]++[ab.box [aN x.op,aN x.who,.str x.name,.aU false false 4 (x.aC.map c8),.aU false false 5 (x.kids.map f_)]]:List ab)=base;have dI:aj base 0=.box [aN x.op,aN x.who,.str x.name,.aU false false 4 (x.aC.map c8),.aU false false 5 (x.kids.map f_)]:=by rw[←hB];rfl
  clear hB;refine ax ?_;have pick:∀K:aa→Prop,K (.bool (decide (0<=x.op)&&decide (x.op<=2))) →
    VV.gr (.bool (decide (x.op >= 0))) true (λk=>VV.rd (Xb 0 [.ak 0 0] base) k) λxI=>
    VV.gr (.bool (decide (x.op >= 0))) true (λk=>VV.rd (Qe false 1 [xI] base) k) λL7=>
    VV.gr (.bool (decide (x.op >= 0))) true (λk=>VV.rd (Ym .leq false [L7,(.int .i8 2)] base) k) λL_=>
    VV.rd (Zo [.bool (decide (x.op >= 0)),L_,(.bool false)] base) K:=by
   intro K hK;rcases cA (decide (x.op >= 0))with h|h
   rotate_left
   ·rw[h];refine ay ?_;simp_all
   rw[h];refine ax ?_;simp_all
  refine pick _ ?_;clear pick;refine Qg λkj gQ=>?_;have kk:kj [iv (nj x.op)] base:=by
   rw[gQ];clear gQ kj;repeat first|refine Za (ld dI rfl) ?_|refine Za (Ys ..) ?_|refine Za (uC ..) ?_|refine Za rfl ?_
   refine Qg λkj gQ=>?_;have kk:kj [iv (if x.op=3 then 1 else 0:Nat)] base:=by
    rw[gQ];clear gQ kj;refine ax ?_;have pick:∀K:aa→Prop,K (.bool (decide (x.op=4∨x.op=5))) →
      VV.gr (.bool (decide (x.op=4))) false (λk=>VV.rd (Xb 0 [.ak 0 0] base) k) λD1=>
      VV.gr (.bool (decide (x.op=4))) false (λk=>VV.rd (Qe false 1 [D1] base) k) λD4=>
      VV.gr (.bool (decide (x.op=4))) false (λk=>VV.rd (Ym .eql false [D4,(.int .i8 5)] base) k) λD5=>
      VV.rd (Zo [.bool (decide (x.op=4)),(.bool true),D5] base) K:=by
     intro K hK;rcases cA (decide (x.op=4))with h|h
     ·rw[h];refine ay ?_;simp_all
     rw[h];refine ax ?_;simp_all
    refine pick _ ?_;clear pick;refine Qg λkj gQ=>?_;have kk:kj [iv (nk x.op)] base:=by
     rw[gQ];clear gQ kj;refine ax ?_;have pb:¬(0<=x.op∧x.op<=6∧x.aC.length=nj x.op∧x.kids.length=nk x.op)→aa.bool false=aa.bool (gM x.op x.aC.length x.kids.length&&(cx t x.aC&&(eH cs t x.kids&&gL cs x.op x.who x.name))):=by
      simp_all [gM]
     rcases cA (decide (x.op<0))with h1|h1
     ·rw[h1];refine ay (pb ?_);simp at h1;omega
     rw[h1];refine ax ?_;rcases cA (decide (x.op>6))with h2|h2
     ·rw[h2];refine ay (pb ?_);simp at h2;omega
     rw[h2];repeat first|refine Qa ?_|refine Yq ?_|refine Za (ld dI rfl) ?_|refine Za (Ys ..) ?_|refine Za (uC ..) ?_|refine Za rfl ?_
     rcases cA (((x.aC.map c8).length:Int) != (nj x.op:Int))with h3|h3
     ·rw[h3];repeat first|refine Zc rfl ?_|refine Yx rfl ?_|refine QT rfl ?_|refine ZW rfl ?_|refine Za rfl ?_
      refine Yh (pb ?_);simp at h3;omega
     rw[h3];refine ax (Ya (λh4=>pb ?_) (λh4=>?_))
     ·simp at h4;omega
     simp at h1 h2 h3 h4;have ht:gM x.op x.aC.length x.kids.length=true:=by simp[gM];omega
     rw[ht,zAF];refine Xg (ι:=Nat) (λi vs σ=>vs=[iv i]∧σ=base∧i<=x.aC.length∧cx t x.aC=cx t (x.aC.drop i)) (λi=>x.aC.length-i) 0 ⟨rfl,rfl,by omega,by simp⟩ ?_;rintro i vs σ again ⟨rfl,rfl,hi,hu⟩ bn;refine ax (Ya (λh=>?_) (λh=>?_))
     ·have h:i<x.aC.length:=by simpa using h
      have eK:x.aC.drop i=x.aC[i]::x.aC.drop (i+1):=by rw[gI h]
      rw[eK,cx]at hu;have hm:x.aC[i]∈x.aC:=AT h;refine Za rfl (Za (ld dI rfl) (Za (Xm _ c8 _ _ _ x.aC _ i h) (Za (bB (rR _)) ?_)));refine Yo (c77 cs t _ (Y5 hf hm)) rfl g137.ok.plain (BV ..) (Za rfl (Ya (λh4=>?_) (λh4=>?_)))
      ·simp_all
      ·have h4:eP t x.aC[i]=true:=by simpa using h4
       rw[h4,zAF]at hu;refine Za (Qj ..) ?_;rw[Qc (n:=i) (by omega)]
       grind
     have h:i=x.aC.length:=by simp at h;omega
     subst h;rw[zAD,cx]at hu;rw[hu,zAF];clear bn hu hi pb ht;refine Xg (ι:=Nat) (λi vs s=>vs=[iv i]∧s=σ∧i<=x.kids.length∧eH cs t x.kids=eH cs t (x.kids.drop i)) (λi=>x.kids.length-i) 0 ⟨rfl,rfl,by omega,by simp⟩ ?_;rintro i vs s again ⟨rfl,rfl,hi,hu⟩ bn;refine ax (Ya (λh=>?_) (λh=>?_))
     ·have h:i<x.kids.length:=by simpa using h
      have eK:x.kids.drop i=x.kids[i]::x.kids.drop (i+1):=by rw[gI h]
      rw[eK,eH]at hu;have hm:x.kids[i]∈x.kids:=AT h;refine Za rfl (Za (ld dI rfl) (Za (Xm _ f_ _ _ _ x.kids _ i h) (Za (bB (zo _)) ?_)));refine Yo (A_ cs gu t k _ (by have:=Cw hm;omega) (Z5 hf hm)) rfl g135.ok.plain (Bj ..) (Za rfl (Ya (λh4=>?_) (λh4=>?_)))
      ·simp_all
      ·have h4:fG cs t x.kids[i]=true:=by simpa using h4
       rw[h4,zAF]at hu;refine Za (Qj ..) ?_;rw[Qc (n:=i) (by omega)]
       grind
     have h:i=x.kids.length:=by simp at h;omega
     subst h;rw[zAD,eH]at hu;rw[hu,zAF];clear bn hu hi;refine ax (Ya (λh5=>?_) (λh5=>?_))
     ·have h5:x.op=6:=by simpa using h5
      refine Za rfl (Za (ld dI rfl) ?_);refine aY (c121 _) g139.ok ?_;rcases cA (mN x.who)with h6|h6
      rotate_left
      ·rw[h6];refine ay ?_;simp[gL,h5,h6]
      rw[h6];refine ax (aY (c228 cs gu t _ _) g138.ok (ax ?_));simp[gL,h5,h6]
     have h5:x.op≠6:=by simpa using h5
     refine ax ?_;rcases cA (decide (x.who=0))with h6|h6
     rotate_left
     ·rw[h6];refine ay ?_;simp[h6,gL,h5]
     rw[h6];refine ax ?_;simp[h6,gL,h5]
    refine Ya (λh=>?_) (λh=>?_)
    ·have e:nk x.op=2:=by simp at h;simp[nk];omega
     rw[e]at kk;exact kk
    ·have e:nk x.op=if x.op=3 then 1 else 0:=by simp at h;simp[nk];omega
     rw[e]at kk;exact kk
   refine Ya (λh=>?_) (λh=>?_)
   ·rw[aJ (by simpa using h)]at kk;exact kk
   ·rw[aE (by simpa using h)]at kk;exact kk
  refine Ya (λh=>?_) (λh=>?_)
  ·have e:nj x.op=2:=by simp at h;simp[nj,h]
   rw[e]at kk;exact kk
  ·have e:nj x.op=0:=by simp at h;simp[nj];omega
   rw[e]at kk;exact kk
theorem c226(cs:List Cd)(gu:cs.length<=gn)(t:Bool)(x:Cn)(hf:cG x=true):PC 135 [.aq (yj cs t) 0,.agg (f_ x)] (.bool (fG cs t x)):=A_ cs gu t _ x (IT _) hf
def pF(t:Bool)(op who:Int):Bool:=if op=0∨op=1 then mN who||(decide (who=2)&&t)else decide (who=0)
def iJ(t:Bool)(op who:Int):Bool:=
 if op=2∨op=4∨op=6 then mN who else pF t op who
mutual
def mH (cs:List Cd) (t:Bool):Int→Ef→Bool
 | d,.mk op who n name c bP bS=>decide (0<=op) && (decide (op<=8) && (if op=8 then
   decide (who=0)&&(el n&&(name==[]&&(fG cs t c&&((decide (bP.length<=16)&&(decide (d+1<=8)&&bU cs t (d+1) bP))&&(decide (bS.length<=16)&&(decide (d+1<=8)&&bU cs t (d+1) bS))))))
  else fe c && (decide (bP.length=0) && (decide (bS.length=0) && ((if cq op then eP t n else el n) && ((if op=7 then ee cs name true else name == []) && iJ t op who))))))
def bU (cs:List Cd) (t:Bool):Int→List Ef→Bool
 |_,[]=>true
 |d,x::l=>mH cs t d x&&bU cs t d l
end
def bD(cs:List Cd)(t:Bool)(d:Int)(l:List Ef):Bool:=decide (l.length<=16)&&(decide (d<=8)&&bU cs t d l)
theorem ye(cs:List Cd)(t:Bool)(d:Int)(x:Ef):mH cs t d x=(decide (0<=x.op) && (decide (x.op<=8) && (if x.op=8 then
   decide (x.who=0)&&(el x.n&&(x.name==[]&&(fG cs t x.c&&(bD cs t (d+1) x.bP&&bD cs t (d+1) x.bS))))
  else fe x.c && (decide (x.bP.length=0) && (decide (x.bS.length=0) && ((if cq x.op then eP t x.n else el x.n) && ((if x.op=7 then ee cs x.name true else x.name == []) && iJ t x.op x.who))))))):=by cases x;rfl
theorem ah{A B:Prop}(k:B)(h:MG B→A:=by intro k;(repeat (first|refine Qa ?_|refine Zc rfl ?_|refine Yq ?_|refine Yx rfl ?_|refine QT rfl ?_|refine ZW rfl ?_|refine Za (Qj ..) ?_|refine Za (Ys ..) ?_|refine Za (Z6 ..) ?_|refine Za (ZS ..) ?_|refine Za (o_ ..) ?_|refine Za (uC ..) ?_|refine Za (by assumption) ?_|refine Za (lx (by assumption) (by assumption)) ?_|refine Za (Lh (by assumption)) ?_|refine Za (lx (by assumption) (by rfl)) ?_|refine Za (Lh (by rfl)) ?_|refine Za rfl ?_));exact k.get):A:=h (G6 k)
theorem sQ{R G:Prop}(imp:(True→R)→G)(r:R):G:=imp λ_=>r
theorem Cu{c V:Bool}{a b:Prop}(h:VV.test (.bool V) a b)(e:c=V):VV.test (.bool c) a b:=by rw[e];exact h
set_option maxHeartbeats 4000000
theorem vP(cs:List Cd)(gu:cs.length<=gn)(t:Bool):∀(k:Nat) (l:List Ef) (d:Int),zAT l<=k→bE l=true→0<=d→PC 94 [.aq (yj cs t) 0,gY l,iv d] (.bool (bD cs t d l))
 |0,l,_,h,_,_=>by cases l<;>simp at h
 |k+1,l,d,hk,hf,hd=>by
  refine Xa hP g94.ok rfl rfl ?_;rw[H3.e];unfold g94;dsimp only;have hlen:=YF hf;rw[cZ]at hlen;refine ag ?_;repeat' (first|refine Q8 (λh=>?_) (λh=>?_)<;>(try rw[h])|refine Ya (λh=>?_) (λh=>?_))<;>refine ag ?_
  all_goals first
   |grind [bD]
   |skip
  have h16:l.length<=16∧d<=8:=by simp_all;omega
  rw[show bD cs t d l=bU cs t d l by simp[bD,h16]];refine Xg (ι:=Nat) (λi vs σ=>vs=[iv i]∧i<=l.length∧bU cs t d l=bU cs t d (l.drop i)) (λi=>l.length-i) 0 ⟨rfl,by omega,by simp⟩ ?_;rintro i vs σ again ⟨rfl,hi,hu⟩ bn;refine ag (uD (λh=>?_) (λh=>?_));rotate_left
  ·grind [bU]
  have h:i<l.length:=by simpa using h
  rw[gI h,bU]at hu;have hm:=AT h;have eL:=zBL hm;have jD:=QN hf hm;have ix:=λ(s:List ab)=>Xm s bj false false 14 l .i64 i h;generalize l[i]=x at hu eL jD ix;have qf:=Gz x;have hw:=br (n:=d+1) (by omega) (by omega);refine vD (Za (ix _) (Za (bB (lS x)) ?_));refine Qu (row:=bj x) (row':=bj x) (by rw[Zr];rfl) (by rw[Zr];rfl) (by rw[Zr];rfl) ?_;have dI:=Yc σ (.box (bj x));generalize σ++[ab.box (bj x)]=base at dI ⊢;generalize σ.length=b at dI ⊢;have p0:=gO x;have p1:=n_ x;have p2:=rf x;have p6:=Bq x;have p7:=od x;have p12:=Co x;have p13:=Cf x;rw[ye]at hu;refine ag (AL (λh e=>?_) (λh e=>?_))<;>rw[e]
  ·refine ag ?_
   grind
  refine ag (uD (λh2=>?_) (λh2=>?_))
  ·grind
  refine ag (uD (λh8=>?_) (λh8=>?_))
  ·refine ag ?_;repeat' (first
    |refine Yo (c225 _) rfl g134.ok.plain (mM _) ?_
    |refine Yo (c226 cs gu t _ (Y6 jD)) rfl g135.ok.plain (Bj ..) ?_
    | (rw[hw];first
     |refine aY (vP cs gu t k x.bP (d+1) (by omega) (XN jD) (by omega)) g94.ok ?_
     | refine aY (vP cs gu t k x.bS (d + 1) (by omega) (YN jD) (by omega)) g94.ok ?_)
    |refine Q8 (λh=>?_) (λh=>?_)<;>(try rw[h])
    | refine Ya (λh=>?_) (λh=>?_)) <;> (refine ag ?_)
   all_goals first
    |(rw[Qc (n:=i) (by omega)];exact bn (i+1) _ _ (by omega) ⟨rfl,by omega,by grind⟩)
    |grind
  refine ag (Yo (c227 _) rfl g136.ok.plain (qW _) ?_);refine ag ?_;repeat' (first|refine Q8 (λh=>?_) (λh=>?_)<;>(try rw[h])|refine Ya (λh=>?_) (λh=>?_))<;>refine ag ?_
  all_goals first
   |grind
   |skip
  apply sQ
  ·intro hR;repeat' (first
    |refine aY (c130 _) g98.ok ?_
    |refine Yo (c77 cs t _ (zh jD)) rfl g137.ok.plain (BV ..) ?_
    |refine Yo (c225 _) rfl g134.ok.plain (mM _) ?_
    | refine Q8 (λh=>?_) (λh=>?_) <;> (try rw[h])) <;> (refine ah ?_)
   all_goals exact Cu (V:=!(if cq x.op then eP t x.n else el x.n)) (hR ⟨⟩) (by grind)
  refine Ya (λb1=>by grind) (λb1=>?_);refine ag ?_;apply sQ
  ·intro hR;repeat' (first
    |refine aY (c228 cs gu t _ _) g138.ok ?_
    |(refine AL (λh e=>?_) (λh e=>?_)<;>(try rw[e]))
    | refine Q8 (λh=>?_) (λh=>?_) <;> (try rw[h])) <;> (refine ah ?_)
   all_goals exact Cu (V:=!(if x.op=7 then ee cs x.name true else x.name==[])) (hR ⟨⟩) (by grind)
  refine Ya (λb2=>by grind) (λb2=>?_);refine ag ?_;apply sQ
  ·intro hR;repeat' (first
    |refine Cu (a:=aa.bool false=_) (V:=!iJ t x.op x.who) (hR ⟨⟩) ?_
    |refine vD ?_
    |refine Yh ?_
    |refine Ye ?_
    |refine aY (c121 _) g139.ok ?_
    |(refine AL (λh e=>?_) (λh e=>?_)<;>first|(exfalso;omega)|(try rw[e]))
    |refine uD (λh=>?_) (λh=>?_)<;>try (exfalso;omega)
    | refine Q8 (λh=>?_) (λh=>?_) <;> (try rw[h])) <;> (refine ah ?_)
   all_goals (clear hu bn ix b1 b2 hR;grind [iJ,pF])
  refine Ya (λb3=>by grind) (λb3=>?_);refine ag ?_;rw[Qc (n:=i) (by omega)];have a0:0<=x.op:=by omega
  have a1:x.op<=8:=by omega
  exact bn (i+1) _ _ (by omega) ⟨rfl,by omega,by clear bn ix;simp_all⟩
theorem c188(cs:List Cd)(gu:cs.length<=gn)(t:Bool)(l:List Ef)(d:Int)(hf:bE l=true)(hd:0<=d):PC 94 [.aq (yj cs t) 0,gY l,iv d] (.bool (bD cs t d l)):=vP cs gu t _ l d (IT _) hf hd
def isLet(x:Int):Bool:=decide ((97<=x∧x<=122)∨(65<=x∧x<=90)∨(192<=x∧x<=591∧x≠215∧x≠247))
def jO(x:Int):Bool:=decide (48<=x∧x<=57)
def LM(x:Int):Int:=BY.wrap (x*2 ^ (min 6 BY.bits))
def uk(x:Int)(c:UInt8):Int:=bits .or .i64 (LM x) (BY.wrap (bits .and .u8 (c.toNat:Int) 63))
def rU(c:UInt8):Bool:=(bits .and .u8 (c.toNat:Int) 192 != 128)
def fK(s:Tx)(at_:Nat):Nat→Nat→Int→Option Int
 |0,_,x=>some x
 |m+1,i,x=>match s[at_+i]? with
  |none=>none
  |some c=>if rU c then none else fK s at_ m (i+1) (uk x c)
def eT(c:Int):Option (Nat×Int×Int):=
 if 192<=c∧c<224 then some (2,bits .and .i64 c 31,128)else if 224<=c∧c<240 then some (3,bits .and .i64 c 15,2048)else if 240<=c∧c<248 then some (4,bits .and .i64 c 7,65536)else if 128<=c then none else some (1,c,0)
def ia(n:Nat)(least:Int):Option Int→Int×Nat
 |none=>(0,0)
 |some y=>if y<least∨1114111<y∨(55296<=y∧y<=57343)then (0,0)else (y,n)
def dX(s:Tx)(at_:Nat):Int×Nat:=match s[at_]? with
 |none=>(0,0)
 |some c=>match eT c.toNat with
  |none=>(0,0)
  |some (n,x,least)=>ia n least (fK s at_ (n-1) 1 x)
def AQ(s:Tx)(at_ n:Nat):Prop:=(dX s at_).2=0∨(isLet (dX s at_).1=false∧(n=0∨(jO (dX s at_).1=false∧(dX s at_).1≠39)))
instance (s:Tx) (at_ n:Nat):Decidable (AQ s at_ n):=inferInstanceAs (Decidable (_∨_))
def ej(s:Tx)(at_ n:Nat):Nat×Nat:=
 if _h:at_<s.length then (if hk:AQ s at_ n then (at_,n)else ej s (at_+(dX s at_).2) (n+1))else (at_,n)
termination_by s.length-at_
decreasing_by
 have:(dX s at_).2≠0:=λe=>hk (zDi e);omega
def ko:List Tx→Tx→Bool
 |[],_=>false
 |k::l,s=>k==s||ko l s
def jQ:List Tx:=[[99,97,114,100],
 [117,110,105,116],
 [99,104,97,114,109],
 [102,111,114,109,97,116],
 [112,108,97,121,101,100],
 [100,101,97,100],
 [100,97,119,110],
 [97,117,114,97],
 [115,104,105,101,108,100],
 [104,97,114,109],
 [109,101,110,100],
 [100,114,97,119],
 [103,97,105,110],
 [100,114,111,112],
 [108,111,111,107],
 [115,104,111,119],
 [115,117,109,109,111,110],
 [105,102],
 [101,108,115,101],
 [109,101],
 [102,111,101],
 [116,97,114,103,101,116],
 [108,105,102,101],
 [104,97,110,100],
 [100,101,99,107],
 [117,110,105,116,115],
 [109,97,110,97],
 [99,111,115,116],
 [116,111,112],
 [112,111,119,101,114],
 [109,105,110],
 [109,97,120],
 [110,111,116],
 [97,110,100],
 [111,114],
 [104,111,108,100,115],
 [108,101,97,115,116],
 [109,111,115,116],
 [99,111,112,105,101,115],
 [98,97,110,110,101,100],
 [115,105,110,103,108,101]]
def ez(s:Tx):Bool:=decide (1<=(ej s 0 0).2)&&(decide ((ej s 0 0).2<=24)&&(decide ((ej s 0 0).1=s.length)&&(decide (s.length<=40) && !ko jQ s)))
theorem Cz{P:Program}{GL:ar}{c d:Bool}{K:aa→Prop}{r1:aA}{f2:aa→aA}{σ:List ab}{v1:aa}(h1:r1=.ok v1 [] [])(h2:f2 v1=.ok (.bool d) [] [])(hK:K (.bool (c&&d))) :
  (W P GL).gr (.bool c) true (λk=>(W P GL).rd r1 k) λt1=>(W P GL).gr (.bool c) true (λk=>(W P GL).rd (f2 t1) k) λt2=>(W P GL).rd (Zo [.bool c,t2,.bool false] σ) K:=by
 cases c with
 |true=>exact Qa (Za h1 (Qa (Za h2 (Za rfl hK))))
 |false=>exact Zc rfl (Zc rfl (Za rfl hK))
theorem c198(x:Int):PC 104 [iv x] (.bool (jO x)):=by
 refine Xa hP g104.ok rfl rfl ?_;rw[H1.e];unfold g104;dsimp only;refine ag (Q8 (λh=>?_) (λh=>?_))<;>rw[h]<;>refine ag ?_<;>grind [jO]
theorem c197(x:Int):PC 102 [iv x] (.bool (isLet x)):=by
 refine Xa hP g102.ok rfl rfl ?_;rw[H1.e];unfold g102;dsimp only;refine ag ?_;repeat' (first
  |(refine AL (λh e=>?_) (λh e=>?_)<;>first|(exfalso;omega)|(try rw[e]))
  |refine Q8 (λh=>?_) (λh=>?_)<;>(try rw[h])
  | refine uD (λh=>?_) (λh=>?_) <;> try (exfalso;omega)) <;> (refine ag ?_)
 all_goals grind [isLet]
theorem c196(s:Tx)(hs:s.length<=gn)(a:Nat)(ha:a<s.length):PC 101 [.str s,iv a] (.bp [iv (dX s a).1,iv (dX s a).2]):=by
 rw[cZ]at hs;refine Xa hP g101.ok rfl rfl ?_;rw[H2.e];unfold g101;dsimp only;refine Za (Zdh _ s .i64 a ha) (Za (ZdY ..) ?_);have hc:s[a].toNat<256:=s[a].toNat_lt;rw[br (n:=(s[a].toNat:Int)) (by omega) (by omega)];have hr:dX s a=match eT s[a].toNat with
  |none=>(0,0)
  |some (n,x,least)=>ia n least (fK s a (n-1) 1 x):=by
  rw[dX,zAU ha]
 generalize s[a].toNat=c0 at hr hc ⊢;obtain⟨c,yr⟩:∃c:Int,c=(c0:Int):=⟨_,rfl⟩;rw[←yr]at hr ⊢;have kN:0<=c∧c<256:=by omega
 clear yr hc;refine Za rfl ?_;refine Cz rfl rfl (Qg λkj gQ=>?_);have zero:∀y:Option Int,y=none→∀n least,aa.bp [iv 0,iv 0]=aa.bp [iv (ia n least y).1,iv (ia n least y).2]:=by
  rintro _ rfl n least;rfl
 have kk:∀(n:Nat) (x least:Int),1<=n→n<=4→eT c=some (n,x,least)→kj [iv n,iv x,iv least] []:=by
  intro n x least n1 n4 hh;rw[gQ];clear gQ kj;rw[hh]at hr
  replace hr:dX s a=ia n least (fK s a (n-1) 1 x):=hr
  rw[hr];clear hr hh;refine Xg (ι:=Nat) (λi vs σ=>∃y,vs=[iv i,iv y]∧1<=i∧i<=n∧fK s a (n-1) 1 x=fK s a (n-i) i y) (λi=>n-i) 1 ⟨x,rfl,by omega,by omega,rfl⟩ ?_;rintro i vs σ again ⟨y,rfl,i1,i2,hu⟩ bn;refine Za rfl (YS (λh=>?_) (λh=>?_))
  ·have wh:∀σ,Ym .add false [iv a,iv i] σ=.ok (iv ((a+i:Nat):Int)) [] []:=λσ=>by
    rw[Qj,br (by omega) (by omega)];rfl
   have pH:n-i=(n-(i+1))+1:=by omega
   rw[pH,fK]at hu;refine Za (wh _) (Za rfl (Za rfl ?_));rcases cA (decide (((a+i:Nat):Int) >= (s.length:Int)))with h1|h1
   ·rw[h1];repeat first|refine Qa ?_|refine Yq ?_|refine Zc rfl ?_|refine Yx rfl ?_|refine QT rfl ?_|refine ZW rfl ?_|refine Za rfl ?_
    refine Yh ?_;have h1:s.length<=a+i:=by simp at h1;omega
    rw[List.getElem?_eq_none h1]at hu;exact zero _ hu _ _
   rw[h1];have h1:a+i<s.length:=by simp at h1;omega
   have cH:∀σ,YP [.str s,iv ((a+i:Nat):Int)] σ=.ok (.int .u8 s[a+i].toNat) [] []:=λσ=>Zdh _ s .i64 (a+i) h1;rw[zAU h1]at hu;generalize s[a+i]=q at hu cH;repeat first|refine Qa ?_|refine Za (wh _) ?_|refine Za (cH _) ?_|refine Za rfl ?_
   refine Ya (λh2=>?_) (λh2=>?_)
   ·have h2:rU q=true:=h2;simp only[h2,if_true]at hu;exact zero _ hu _ _
   ·have h2:rU q=false:=h2;simp only[h2,zAS,if_false]at hu;refine Za rfl (Za (wh _) (Za (cH _) (Za rfl (Za (ZdY ..) (Za rfl (Za (Qj ..) ?_))))));rw[Qc (n:=i) (by omega)];exact bn (i+1) _ _ (by omega) ⟨_,rfl,by omega,by omega,hu⟩
  ·subst h;rw[zDP,fK]at hu;rw[hu];clear hu bn zero;refine Za rfl ?_;have bad:(y<least∨1114111<y∨(55296<=y∧y<=57343))→aa.bp [iv 0,iv 0]=aa.bp [iv (ia i least (some y)).1,iv (ia i least (some y)).2]:=by
    intro hb;rw[ia,aJ hb];rfl
   have TH:¬(y<least∨1114111<y∨(55296<=y∧y<=57343))→aa.bp [iv y,iv i]=aa.bp [iv (ia i least (some y)).1,iv (ia i least (some y)).2]:=by
    intro hb;rw[ia,aE hb]
   refine ag ?_;repeat' (first
    |(refine AL (λh e=>?_) (λh e=>?_)<;>first|(exfalso;omega)|(try rw[e]))
    | refine uD (λh=>?_) (λh=>?_) <;> try (exfalso;omega)) <;> (refine ag ?_)
   all_goals first
    |exact bad (by omega)
    |exact TH (by omega)
 clear gQ;refine Ya (λh=>?_) (λn1=>?_)
 ·have h:192<=c∧c<224:=by simpa using h
  refine Za rfl (kk 2 _ _ (by omega) (by omega) ?_);rw[eT,aJ h]
 have n1:¬(192<=c∧c<224):=by simp at n1;omega
 refine Za rfl (Cz rfl rfl ?_);refine Ya (λh=>?_) (λn2=>?_)
 ·have h:224<=c∧c<240:=by simpa using h
  refine Za rfl (kk 3 _ _ (by omega) (by omega) ?_);rw[eT,aE n1,aJ h]
 have n2:¬(224<=c∧c<240):=by simp at n2;omega
 refine Za rfl (Cz rfl rfl ?_);refine Ya (λh=>?_) (λn3=>?_)
 ·have h:240<=c∧c<248:=by simpa using h
  refine Za rfl (kk 4 _ _ (by omega) (by omega) ?_);rw[eT,aE n1,aE n2,aJ h]
 have n3:¬(240<=c∧c<248):=by simp at n3;omega
 refine Za rfl (Ya (λh=>?_) (λh=>?_))
 ·have h:128<=c:=by simpa using h
  have e:eT c=none:=by rw[eT,aE n1,aE n2,aE n3,aJ h]
  rw[hr,e];rfl
 ·have h:¬128<=c:=by simpa using h
  exact kk 1 _ _ (by omega) (by omega) (by rw[eT,aE n1,aE n2,aE n3,aE h])
theorem ZdR{c:Int}{n:Nat}{x least:Int}(h:eT c=some (n,x,least)):n<=4:=by
 grind [eT]
theorem ZcJ(s:Tx)(a:Nat):(dX s a).2<=4:=by
 unfold dX;split
 ·simp
 ·split
  ·simp
  ·rename_i n x least h;have:=ZdR h;cases fK s a (n-1) 1 x<;>grind [ia]
theorem c193(s:Tx)(hs:s.length<=gn)(a0:Nat)(ha0:a0<=s.length):PC 103 [.str s,iv a0] (.bp [iv (ej s a0 0).1,iv (ej s a0 0).2]):=by
 have qf:=hs;rw[cZ]at qf;refine Xa hP g103.ok rfl rfl ?_;rw[H2.e];unfold g103;dsimp only;refine Qg λk0 Um=>?_;have kk:∀a n:Nat,ej s a0 0=(a,n)→k0 [iv a,iv n] []:=by
  intro a n e;rw[Um,e];exact rfl
 clear Um;refine Xg (ι:=Nat) (λa vs σ=>∃n:Nat,vs=[iv a,iv n]∧σ=[]∧n<=a∧a<=s.length+4∧ej s a0 0=ej s a n) (λa=>s.length+10-a) a0 ⟨0,rfl,rfl,by omega,by omega,rfl⟩ ?_;rintro a vs σ again ⟨n,rfl,rfl,i1,i2,hu⟩ bn;refine Za rfl (Za rfl ?_);refine Ya (λh=>?_) (λh=>?_);rotate_left
 ·have h:¬a<s.length:=by simpa using h
  exact kk a n (by rw[hu,ej,dif_neg h])
 have h:a<s.length:=by simpa using h
 refine aY (c196 s hs a h) g101.ok (Za rfl (Za rfl ?_));have B7:AQ s a n→k0 [iv a,iv n] []:=λir=>kk a n (by rw[hu,ej,dif_pos h,dif_pos ir]);have cont:¬AQ s a n→again [iv ((a+(dX s a).2:Nat):Int),iv ((n+1:Nat):Int)] []:=by
  intro ir;have h1:(dX s a).2≠0:=λe=>ir (zDi e);have h4:=ZcJ s a;exact bn _ _ _ (by omega) ⟨n+1,rfl,rfl,by omega,by omega,by rw[hu,ej,dif_pos h,dif_neg ir]⟩
 have h4:=ZcJ s a;unfold AQ at B7 cont;clear bn hu kk;generalize (dX s a).1=x at B7 cont ⊢;generalize (dX s a).2=k at B7 cont h4 ⊢;refine ag ?_;repeat' (first
  |refine aY (c197 _) g102.ok ?_
  |refine aY (c198 _) g104.ok ?_
  |refine Q8 (λh=>?_) (λh=>?_)<;>(try rw[h])
  | refine Ya (λh=>?_) (λh=>?_)) <;> (refine ag ?_)
 all_goals first
  |exact B7 (by grind)
  |(rw[Qc (n:=n) (by omega),br (n:=(a:Int)+(k:Int)) (by omega) (by omega)];exact cont (by grind))
theorem c229:∃e n,PC 187 [] (.aU e n 1 (jQ.map vb)):=by
 have hw:∃v bs,g187.u VV [] [] (λv' σ=>v'=v∧σ=bs)∧∃e n,GW bs v=some (.aU e n 1 (jQ.map vb)):=by
  unfold g187;dsimp only[H0.u];apply Exists.intro;apply Exists.intro;apply And.intro
  ·refine Yd rfl rfl ?_;exact⟨rfl,rfl⟩
  ·exact⟨_,_,rfl⟩
 obtain⟨v,bs,h1,e,n,h2⟩:=hw;exact⟨e,n,PH hP g187.ok rfl ⟨v,bs,h2,h1⟩⟩
theorem xV(x:Tx):aK false 0 1 (vb x)=some (.str x):=rfl
theorem c194(s:Tx):PC 151 [.str s] (.bool (ko jQ s)):=by
 refine Xa hP g151.ok rfl rfl ?_;rw[H1.e];unfold g151;dsimp only;obtain⟨e,n,hk⟩:=c229;refine aY hk g187.ok ?_;have hlen:jQ.length=41:=rfl;generalize jQ=l at hlen ⊢;refine Xg (ι:=Nat) (λi vs σ=>vs=[iv i]∧i<=l.length∧ko l s=ko (l.drop i) s) (λi=>l.length-i) 0 ⟨rfl,by omega,by simp⟩ ?_;rintro i vs σ again ⟨rfl,hi,hu⟩ bn;refine Za rfl (Za rfl ?_);refine Ya (λh=>?_) (λh=>?_)
 ·have h:i<l.length:=by simpa using h
  have eK:l.drop i=l[i]::l.drop (i+1):=by rw[gI h]
  rw[eK,ko]at hu;refine Za (Xm _ vb _ _ _ l .i64 i h) (Za (bB (xV _)) (Za (uC ..) ?_));refine Ya (λh=>?_) (λh=>?_)
  ·rw[hu,h];rfl
  ·rw[h,zCR]at hu;refine Za (Qj ..) ?_;rw[Qc (n:=i) (by omega)]
   grind
 ·have h:i=l.length:=by simp at h;omega
  subst h;rw[zAD]at hu;rw[hu];rfl
theorem c147(s:Tx)(hs:s.length<=gn):PC 116 [.str s] (.bool (ez s)):=by
  refine Xa hP g116.ok rfl rfl ?_;rw[H1.e];unfold g116;dsimp only;have:=c193 s hs 0 (by omega);refine aY this g103.ok ?_;unfold ez;generalize (ej s 0 0).1=e;generalize (ej s 0 0).2=n;refine ag ?_;repeat' (first
    |refine aY (c194 _) g151.ok ?_
    | (refine AL (λh k=>?_) (λh k=>?_) <;> (try rw[k]))) <;> (refine ag ?_)
  all_goals first
    |grind
    | (have q:e=s.length:=by omega
       grind)
    | (have q:e≠s.length:=by omega
       grind)
def ck(n:Int):Bool:=decide (0<=n)&&decide (n<=999)
def i_(c:Cd):Bool:=if c.unit then decide (1<=c.bJ)else decide (c.dG+c.bJ+c.dg+c.eR+c.dP<=0)&&decide (c.dead.length+c.dR.length=0)
def o7(c:Cd):Int:=min (dA 0 c.c9+dA 0 c.dead+dA 0 c.dR) 1073741824
def eG(cs:List Cd)(c:Cd):Bool:=
 ez c.name&&(ck c.cost&&(ck c.dG&&(ck c.bJ&&(ck c.dg&&(ck c.eR&&(ck c.dP&&(i_ c&&(decide (o7 c<=200)&&(bD cs true 1 c.c9&&(bD cs false 1 c.dead&&bD cs false 1 c.dR))))))))))
def il(c:Cd):Bool:=decide (c.name.length<=gn)&&(bE c.c9&&(bE c.dead&&bE c.dR))
def ZG(l:List Cd):Bool:=decide (l.length<=gn)&&l.all il
def dE(cs:List Cd):List Cd→List Cd→Int×Int
 |_,[]=>(0,0)
 |pre,c::l=>if pre.any λd=>d.name==c.name then (101,c.pl)else if eG cs c then dE cs (pre++[c]) l else (130,c.pl)
def cE(cs:List Cd):Int×Int:=if 240<cs.length then (3,0)else dE cs [] cs
theorem c145(cs:List Cd)(gu:cs.length<=gn)(c:Cd)(hf:il c=true):PC 114 [iH cs,.agg (cL c)] (.bool (eG cs c)):=by
 simp only[il,AI,fE]at hf;obtain⟨f0,f1,f2,f3⟩:=hf;refine Xa hP g114.ok rfl rfl ?_;rw[H2.e];unfold g114;dsimp only;refine Yd rfl rfl ?_;generalize hB:([]++[ab.box (cL c)]:List ab)=base;have dI:aj base 0=.box (cL c):=by rw[←hB];rfl
 refine ag ?_;apply sQ
 ·intro hR;repeat' (first
   |refine aY (c147 _ f0) g116.ok ?_
   |refine aY (c187 _) g155.ok ?_
   | refine Q8 (λh=>?_) (λh=>?_) <;> (try rw[h])) <;> (refine ah ?_)
  all_goals exact Cu (V:=!(ez c.name&&(ck c.cost&&(ck c.dG&&(ck c.bJ&&(ck c.dg&&(ck c.eR&&ck c.dP))))))) (hR ⟨⟩) (by grind [ck])
 refine Ya (λh=>by grind [eG]) (λhA=>?_);have hC:=hA;simp only[ck,Bool.not_eq_false',AI,fE]at hC;have l1:=YF f2;have l2:=YF f3;rw[cZ]at l1 l2;have w1:=br (n:=c.dG+c.bJ) (by omega) (by omega);have w2:=br (n:=c.dG+c.bJ+c.dg) (by omega) (by omega);have w3:=br (n:=c.dG+c.bJ+c.dg+c.eR) (by omega) (by omega);have w4:=br (n:=c.dG+c.bJ+c.dg+c.eR+c.dP) (by omega) (by omega);have w5:=br (n:=(c.dead.length:Int)+(c.dR.length:Int)) (by omega) (by omega);refine ag ?_;apply sQ
 ·intro hR;repeat' (refine Q8 (λh=>?_) (λh=>?_)<;>(try rw[h]))<;>refine ah ?_
  all_goals exact Cu (V:=!i_ c) (hR ⟨⟩) (by (try simp only[zAH,w1,w2,w3,w4,w5]);grind [i_])
 refine Ya (λh=>by grind [eG]) (λhS=>?_);rw[show eG cs c=(decide (o7 c<=200)&&(bD cs true 1 c.c9&&(bD cs false 1 c.dead&&bD cs false 1 c.dR))) by grind [eG]];refine ag ?_;refine(aY (c110 c f1 f2 f3) g40.ok (Za rfl (Ya (λh=>?_) (λh=>?_))))
 ·grind [o7]
 have h:o7 c<=200:=by simp at h;unfold o7;omega
 simp only[h,decide_true,zAF];subst hB;refine ay (YG (c188 cs gu true c.c9 1 f1 (by omega)) rfl g94.ok.plain rfl rfl ?_);rcases cA (bD cs true 1 c.c9)with p1|p1
 rotate_left
 ·rw[p1];refine ax ?_;simp[p1]
 rw[p1];refine ay (YG (c188 cs gu false c.dead 1 f2 (by omega)) rfl g94.ok.plain rfl rfl (ay ?_));rcases cA (bD cs false 1 c.dead)with p2|p2
 rotate_left
 ·rw[p2];refine ay ?_;simp[p1,p2]
 rw[p2];refine ay (YG (c188 cs gu false c.dR 1 f3 (by omega)) rfl g94.ok.plain rfl rfl (ay ?_));simp[p1,p2]
theorem pR(x:Cd):aK true 0 12 (cL x)=some (.agg (cL x)):=rfl
theorem M8(x:Cd):aK false 11 1 (cL x)=some (iv x.pl):=rfl
theorem c113(cs:List Cd)(hf:ZG cs=true):PC 73 [iH cs] (.agg [iv (cE cs).1,iv (cE cs).2]):=by
 simp only[ZG,AI,fE]at hf;obtain⟨f0,f1⟩:=hf;have f02:=f0;rw[cZ]at f02;refine Xa hP g73.ok rfl rfl ?_;rw[H1.e];unfold g73;dsimp only;refine ay (Ya (λh=>?_) (λh=>?_))
 ·have h:240<cs.length:=by simp at h;omega
  refine ay ?_;rw[cE,aJ h]
 have h:¬240<cs.length:=by simp at h;omega
 rw[cE,aE h];refine Xg (ι:=Nat) (λi vs σ=>vs=[iv i]∧σ=[.box [iv 0,iv 0]]∧i<=cs.length∧dE cs [] cs=dE cs (cs.take i) (cs.drop i)) (λi=>cs.length-i) 0 ⟨rfl,rfl,by omega,by simp⟩ ?_;rintro i vs σ again ⟨rfl,rfl,hi,hu⟩ bn;refine Za rfl (Za rfl ?_);refine Ya (λh=>?_) (λh=>?_);rotate_left
 ·have h:i=cs.length:=by simp at h;omega
  subst h;rw[zAD,dE]at hu;refine ay ?_;rw[hu]
 have hi:i<cs.length:=by simpa using h
 have eK:cs.drop i=cs[i]::cs.drop (i+1):=by rw[gI hi]
 have cH:=λ(s:List ab)=>Xm s cL false false 12 cs .i64 i hi;have tX:=zAj.1 f1 _ (AT hi);have k_:cs.take (i+1)=cs.take i++[cs[i]]:=Yw cs i hi;generalize cs[i]=c at eK cH tX k_;rw[eK,dE]at hu;refine Xg (ι:=Nat) (λj vs σ=>vs=[iv j]∧σ=[.box [iv 0,iv 0]]∧j<=i∧(cs.take i).any (λd=>d.name==c.name)=((cs.take i).drop j).any (λd=>d.name==c.name)) (λj=>i-j) 0 ⟨rfl,rfl,by omega,by simp⟩ ?_;rintro j vs σ mE ⟨rfl,rfl,hj,hv⟩ ll;refine Za rfl (YS (λh=>?_) (λh=>?_))
 ·have Ul:j<(cs.take i).length:=by rw[zAq];omega
  have rl:(cs.take i).drop j=(cs.take i)[j]::(cs.take i).drop (j+1):=by rw[gI Ul]
  rw[zCw]at rl;rw[rl,zCu]at hv;refine Za (Xm _ cL false false 12 cs .i64 j (by omega)) (Za rfl (Za (bB (nU _)) (Za (cH _) (Za rfl (Za (bB (nU _)) (Za (uC ..) ?_))))));refine Ya (λh=>?_) (λh=>?_)
  ·rw[h,Bool.true_or]at hv;rw[hv,aJ rfl]at hu;refine Za (cH _) (Za rfl (Za (bB (M8 _)) ?_));refine ay ?_;rw[hu]
  ·rw[h,zCR]at hv;refine Za (Qj ..) ?_;rw[Qc (n:=j) (by omega)]
   grind
 subst h;rw[zCY (by rw[zAq];omega),List.any_nil]at hv;rw[hv]at hu
 replace hu:dE cs [] cs=if eG cs c then dE cs (cs.take j++[c]) (cs.drop (j+1))else (130,c.pl):=hu
 rw[←k_]at hu;refine Za (cH _) (Za (bB (pR _)) ?_);refine aY (c145 cs f0 c tX) g114.ok (Za rfl (Ya (λh=>?_) (λh=>?_)))
 ·have h:eG cs c=false:=by simpa using h
  rw[h]at hu
  replace hu:dE cs [] cs=(130,c.pl):=hu
  refine Za (cH _) (Za rfl (Za (bB (M8 _)) ?_));refine ay ?_;rw[hu]
 ·have h:eG cs c=true:=by simpa using h
  rw[h,aJ rfl]at hu;refine Za (Qj ..) ?_;rw[Qc (n:=j) (by omega)]
  grind
def mz(a:Int):Int:=if a<0∨3<a then 3 else a
def dw(a b:Int):Int:=if mz a=mz b∨mz b=0 then mz a else if mz a=0 then mz b else 3
def GO(a b:Int):Bool:=decide (dw a b=dw b b)
mutual
def ti:Nm→Int
 |.mk op _ _ kids=>if 8<=op∧op<=12 then iX (if op=6 then 3 else 0) kids else if op=6 then 3 else 0
def iX:Int→List Nm→Int
 |n,[]=>n
 |n,x::l=>iX (dw n (ti x)) l
end
theorem WS(x:Nm):ti x=if 8<=x.op∧x.op<=12 then iX (if x.op=6 then 3 else 0) x.kids else if x.op=6 then 3 else 0:=by cases x;rfl
mutual
def sP:Cn→Int
 |.mk op who _ aC kids=>if op=6 then (if who=0 then 1 else if who=1 then 2 else 3)else nW (iX 0 aC) kids
def nW:Int→List Cn→Int
 |n,[]=>n
 |n,x::l=>nW (dw n (sP x)) l
end
theorem YdW(x:Cn):sP x=if x.op=6 then (if x.who=0 then 1 else if x.who=1 then 2 else 3)else nW (iX 0 x.aC) x.kids:=by cases x;rfl
mutual
def sR (u:Int):Ef→Bool
 |.mk op _ n _ c bP bS=>if op=5 then GO (dw u (ti n)) 1 else if op=8 then gZ (dw u (sP c)) bP&&gZ (dw u (sP c)) bS else if op=0∨op=1∨op=2∨op=3 then decide (dw u (ti n)=0)else decide (dw u u=0)
def gZ (u:Int):List Ef→Bool
 |[]=>true
 |x::l=>sR u x&&gZ u l
end
theorem Hx(u:Int)(x:Ef):sR u x=if x.op=5 then GO (dw u (ti x.n)) 1 else if x.op=8 then gZ (dw u (sP x.c)) x.bP&&gZ (dw u (sP x.c)) x.bS else if x.op=0∨x.op=1∨x.op=2∨x.op=3 then decide (dw u (ti x.n)=0)else decide (dw u u=0):=by cases x;rfl
theorem ZL{P:Program}{GL:ar}{c d:Bool}{K:aa→Prop}{r1:aA}{f2:aa→aA}{σ:List ab}{v1:aa}(h1:r1=.ok v1 [] [])(h2:f2 v1=.ok (.bool d) [] [])(hK:K (.bool (c||d))) :
  (W P GL).gr (.bool c) false (λk=>(W P GL).rd r1 k) λt1=>(W P GL).gr (.bool c) false (λk=>(W P GL).rd (f2 t1) k) λt2=>(W P GL).rd (Zo [.bool c,.bool true,t2] σ) K:=by
 cases c with
 |false=>exact Qa (Za h1 (Qa (Za h2 (Za rfl hK))))
 |true=>exact Zc rfl (Zc rfl (Za rfl hK))
theorem GG{P:Program}{GL:ar}{c d:Bool}{K:aa→Prop}{r1:aA}{f2 f3:aa→aA}{σ:List ab}{v1 v2:aa}{q1 q2 q3:List Nat}(h1:r1=.ok v1 q1 [])(h2:f2 v1=.ok v2 q2 [])(h3:f3 v2=.ok (.bool d) q3 [])(hK:K (.bool (c&&d))) :
  (W P GL).gr (.bool c) true (λk=>(W P GL).rd r1 k) λt1=>(W P GL).gr (.bool c) true (λk=>(W P GL).rd (f2 t1) k) λt2=>(W P GL).gr (.bool c) true (λk=>(W P GL).rd (f3 t2) k) λt3=>(W P GL).rd (Zo [.bool c,t3,.bool false] σ) K:=by
 cases c with
 |true=>exact Qa (Za h1 (Qa (Za h2 (Qa (Za h3 (Za rfl hK))))))
 |false=>exact Zc rfl (Zc rfl (Zc rfl (Za rfl hK)))
theorem c190(a b:Int):PC 157 [aN a,aN b] (aN (dw a b)):=by
 refine Xa hP g157.ok rfl rfl ?_;rw[H2.e];unfold g157;dsimp only;refine Za rfl (ZL rfl rfl ?_);refine Qg λk1 mW=>?_;have kk:k1 [aN (mz a)] []:=by
  rw[mW];clear mW k1;refine Za rfl (ZL rfl rfl ?_);refine Qg λk1 mW=>?_;have kk:k1 [aN (mz b)] []:=by
   rw[mW];clear mW k1;unfold dw;generalize mz a=a;generalize mz b=b;refine Za (Ys ..) ?_;have hp:∀K:aa→Prop,K (.bool (decide (a=b)||decide (b=0)))→VV.gr (.bool (decide (a=b))) false (λk=>VV.rd (qM [aN b] []) k) λt22=>VV.gr (.bool (decide (a=b))) false (λk=>VV.rd (Ym .eql false [t22,(.int .i8 0)] []) k) λt23=>VV.rd (Zo [.bool (decide (a=b)),(.bool true),t23] []) K:=λK hK=>ZL rfl (Ys ..) hK;refine hp _ (Ya (λh=>?_) (λh=>?_))
   ·rw[aJ (by simpa using h)];rfl
   have h:¬(a=b∨b=0):=by simpa using h
   rw[aE h];refine Za (Ys ..) (Ya (λh=>?_) (λh=>?_))
   ·rw[aJ (by simpa using h)];rfl
   ·rw[aE (by simpa using h)]
  refine Ya (λh=>?_) (λh=>?_)
  ·rw[mz,aJ (by simpa using h)]at kk;exact kk
  ·rw[mz,aE (by simpa using h)]at kk;exact kk
 refine Ya (λh=>?_) (λh=>?_)
 ·rw[mz,aJ (by simpa using h)]at kk;exact kk
 ·rw[mz,aE (by simpa using h)]at kk;exact kk
theorem c189(a b:Int):PC 156 [aN a,aN b] (.bool (GO a b)):=by
 refine Xa hP g156.ok rfl rfl ?_;rw[H2.e];unfold g156;dsimp only;refine aY (c190 a b) g157.ok (aY (c190 b b) g157.ok (Za (Ys ..) ?_));rfl
theorem AZ:∀(k:Nat) (x:Nm),zAT x<=k→cW x=true→PC 158 [.agg (c8 x)] (aN (ti x))
 |0,x,h,_=>by cases x;simp at h
 |k+1,x,hk,hf=>by
  rw[QA];refine Xa hP g158.ok rfl rfl ?_;rw[H1.e];unfold g158;dsimp only;refine Yd rfl rfl ?_;rw[WS];have hlen:=HN hf;rw[cZ]at hlen;generalize hB:([]++[ab.box [aN x.op,iv x.n,aN x.who,.aU false false 4 (x.kids.map c8)]]:List ab)=base;have dI:aj base 0=.box [aN x.op,iv x.n,aN x.who,.aU false false 4 (x.kids.map c8)]:=by rw[←hB];rfl
  clear hB;refine Za rfl (Za (ld dI rfl) (Za (Ys ..) ?_));refine Qg λk1 mW=>?_;have kk:k1 [aN (if x.op=6 then 3 else 0)] base:=by
   rw[mW];clear mW k1;generalize (if x.op=6 then (3:Int)else 0)=n0;refine Za rfl (Za (ld dI rfl) (Za rfl ?_));refine GG rfl (ld dI rfl) rfl ?_;rw[show (decide (x.op >= 8)&&decide (x.op<=12))=decide (8<=x.op∧x.op<=12) by simp];refine Ya (λh=>?_) (λh=>?_);rotate_left
   ·rw[aE (by simpa using h)];rfl
   rw[aJ (by simpa using h)];refine Xg (ι:=Nat) (λi vs σ=>∃n,vs=[iv i,aN n]∧σ=base∧i<=x.kids.length∧iX n0 x.kids=iX n (x.kids.drop i)) (λi=>x.kids.length-i) 0 ⟨n0,rfl,rfl,by omega,by simp⟩ ?_;rintro i vs σ again ⟨n,rfl,rfl,hi,hu⟩ bn;repeat first|refine Za (ld dI rfl) ?_|refine Za rfl ?_
   refine Ya (λh=>?_) (λh=>?_)
   ·have h:i<x.kids.length:=by simpa using h
    have eK:x.kids.drop i=x.kids[i]::x.kids.drop (i+1):=by rw[gI h]
    rw[eK,iX]at hu;have hm:x.kids[i]∈x.kids:=AT h;refine Za rfl (Za (ld dI rfl) (Za (Xm _ c8 _ _ _ x.kids _ i h) (Za (bB (rR _)) ?_)));refine Yo (AZ k _ (by have:=AK hm;omega) (XY hf hm)) rfl g158.ok.plain (mM _) (aY (c190 _ _) g157.ok (Za (Qj ..) ?_));rw[Qc (n:=i) (by omega)];exact bn (i+1) _ _ (by omega) ⟨_,rfl,rfl,by omega,hu⟩
   ·have h:i=x.kids.length:=by simp at h;omega
    subst h;rw[zAD,iX]at hu;rw[hu];rfl
  refine Ya (λh=>?_) (λh=>?_)
  ·have e:x.op=6:=by simpa using h
   rw[aJ e]at kk;exact kk
  ·have e:x.op≠6:=by simpa using h
   rw[aE e]at kk;exact kk
theorem c191(x:Nm)(hf:cW x=true):PC 158 [.agg (c8 x)] (aN (ti x)):=AZ _ x (IT _) hf
theorem A0:∀(k:Nat) (x:Cn),zAT x<=k→cG x=true→PC 159 [.agg (f_ x)] (aN (sP x))
 |0,x,h,_=>by cases x;simp at h
 |k+1,x,hk,hf=>by
  rw[XE];refine Xa hP g159.ok rfl rfl ?_;rw[H1.e];unfold g159;dsimp only;refine Yd rfl rfl ?_;rw[YdW];have gk:=Y3 hf;have dU:=Z3 hf;rw[cZ]at gk dU;generalize hB:([]++[ab.box [aN x.op,aN x.who,.str x.name,.aU false false 4 (x.aC.map c8),.aU false false 5 (x.kids.map f_)]]:List ab)=base;have dI:aj base 0=.box [aN x.op,aN x.who,.str x.name,.aU false false 4 (x.aC.map c8),.aU false false 5 (x.kids.map f_)]:=by rw[←hB];rfl
  clear hB;refine Za rfl (Za (ld dI rfl) (Za (Ys ..) ?_));refine Ya (λh=>?_) (λh=>?_)
  ·rw[aJ (by simpa using h)];refine Za rfl (Za (ld dI rfl) (Za (Ys ..) ?_));refine Ya (λh=>?_) (λh=>?_)
   ·rw[aJ (by simpa using h)]
   rw[aE (by simpa using h)];refine Za (Ys ..) (Ya (λh=>?_) (λh=>?_))
   ·rw[aJ (by simpa using h)]
   ·rw[aE (by simpa using h)]
  rw[aE (by simpa using h)];refine Xg (ι:=Nat) (λi vs σ=>∃n,vs=[iv i,aN n]∧σ=base∧i<=x.aC.length∧iX 0 x.aC=iX n (x.aC.drop i)) (λi=>x.aC.length-i) 0 ⟨0,rfl,rfl,by omega,by simp⟩ ?_;rintro i vs σ again ⟨n,rfl,rfl,hi,hu⟩ bn;repeat first|refine Za (ld dI rfl) ?_|refine Za rfl ?_
  refine Ya (λh=>?_) (λh=>?_)
  ·have h:i<x.aC.length:=by simpa using h
   have eK:x.aC.drop i=x.aC[i]::x.aC.drop (i+1):=by rw[gI h]
   rw[eK,iX]at hu;have hm:x.aC[i]∈x.aC:=AT h;refine Za rfl (Za (ld dI rfl) (Za (Xm _ c8 _ _ _ x.aC _ i h) (Za (bB (rR _)) ?_)));refine Yo (c191 _ (Y5 hf hm)) rfl g158.ok.plain (mM _) (aY (c190 _ _) g157.ok (Za (Qj ..) ?_));rw[Qc (n:=i) (by omega)];exact bn (i+1) _ _ (by omega) ⟨_,rfl,rfl,by omega,hu⟩
  have h:i=x.aC.length:=by simp at h;omega
  subst h;rw[zAD,iX]at hu;rw[hu];clear bn hu hi;refine Xg (ι:=Nat) (λi vs s=>∃m,vs=[iv i,aN m]∧s=σ∧i<=x.kids.length∧nW n x.kids=nW m (x.kids.drop i)) (λi=>x.kids.length-i) 0 ⟨n,rfl,rfl,by omega,by simp⟩ ?_;rintro i vs s again ⟨m,rfl,rfl,hi,hu⟩ bn;repeat first|refine Za (ld dI rfl) ?_|refine Za rfl ?_
  refine Ya (λh=>?_) (λh=>?_)
  ·have h:i<x.kids.length:=by simpa using h
   have eK:x.kids.drop i=x.kids[i]::x.kids.drop (i+1):=by rw[gI h]
   rw[eK,nW]at hu;have hm:x.kids[i]∈x.kids:=AT h;refine Za rfl (Za (ld dI rfl) (Za (Xm _ f_ _ _ _ x.kids _ i h) (Za (bB (zo _)) ?_)));refine Yo (A0 k _ (by have:=Cw hm;omega) (Z5 hf hm)) rfl g159.ok.plain (qW _) (aY (c190 _ _) g157.ok (Za (Qj ..) ?_));rw[Qc (n:=i) (by omega)];exact bn (i+1) _ _ (by omega) ⟨_,rfl,rfl,by omega,hu⟩
  ·have h:i=x.kids.length:=by simp at h;omega
   subst h;rw[zAD,nW]at hu;rw[hu];rfl
theorem c192(x:Cn)(hf:cG x=true):PC 159 [.agg (f_ x)] (aN (sP x)):=A0 _ x (IT _) hf
def Jh(c:Cd):Bool:=gZ 0 c.c9&&(gZ 0 c.dead&&gZ 0 c.dR)
def jr:List Cd→Int×Int
 |[]=>(0,0)
 |c::l=>if Jh c then jr l else (140,c.pl)
theorem Xq{σ:List ab}{b j n:Nat}{row:List aa}{v:aa}(hb:b<σ.length)(hv:aK true j n row=some v):im true n (.ak b j) (σ.set b (.box row))=some v:=by
 simp_all [im,Zq]
theorem vM:∀(k:Nat) (l:List Ef) (u:Int),zAT l<=k→bE l=true→PC 115 [aN u,gY l] (.bool (gZ u l))
 |0,l,_,h,_=>by cases l<;>simp at h
 |k+1,l,u,hk,hf=>by
  refine Xa hP g115.ok rfl rfl ?_;rw[H2.e];unfold g115;dsimp only;have hlen:=YF hf;rw[cZ]at hlen;refine Xg (ι:=Nat) (λi vs σ=>vs=[iv i]∧i<=l.length∧gZ u l=gZ u (l.drop i)) (λi=>l.length-i) 0 ⟨rfl,by omega,by simp⟩ ?_;rintro i vs σ again ⟨rfl,hi,hu⟩ bn;refine Za rfl (Za rfl ?_);refine Ya (λh=>?_) (λh=>?_);rotate_left
  ·have h:i=l.length:=by simp at h;omega
   subst h;rw[zAD,gZ]at hu;rw[hu]
  have h:i<l.length:=by simpa using h
  have eK:l.drop i=l[i]::l.drop (i+1):=by rw[gI h]
  rw[eK,gZ]at hu;have hm:l[i]∈l:=AT h;have eL:=zBL hm;have jD:=QN hf hm;have ix:=λ(s:List ab)=>Xm s bj false false 14 l .i64 i h;generalize l[i]=x at hu eL jD ix;rw[Hx]at hu;have qf:=Gz x;refine vD (Za (ix _) (Za (bB (lS x)) ?_));refine Qu (row:=bj x) (row':=bj x) (by rw[Zr];rfl) (by rw[Zr];rfl) (by rw[Zr];rfl) ?_;have dI:=Yc σ (.box (bj x));generalize σ ++ [ab.box (bj x)]=base at dI ⊢;generalize σ.length=b at dI ⊢;have p0:=gO x;have p1:=n_ x;have p2:=rf x;have p7:=od x;have p12:=Co x;have p13:=Cf x;refine ag ?_;repeat' (first
   |refine vD ?_
   |refine Yo (c191 _ (zh jD)) rfl g158.ok.plain (mM _) ?_
   |refine Yo (c192 _ (Y6 jD)) rfl g159.ok.plain (qW _) ?_
   |refine aY (c190 _ _) g157.ok ?_
   |refine aY (c189 _ _) g156.ok ?_
   |refine aY (vM k x.bP _ (by omega) (XN jD)) g115.ok ?_
   |refine aY (vM k x.bS _ (by omega) (YN jD)) g115.ok ?_
   |refine uD (λh=>?_) (λh=>?_)<;>try (exfalso;omega)
   |refine Q8 (λh=>?_) (λh=>?_)<;>(try rw[h])
   | refine Ya (λh=>?_) (λh=>?_)) <;> (refine ag ?_)
  all_goals first
   |(rw[Qc (n:=i) (by omega)];exact bn (i+1) _ _ (by omega) ⟨rfl,by omega,by grind⟩)
   |grind
theorem c146(l:List Ef)(u:Int)(hf:bE l=true):PC 115 [aN u,gY l] (.bool (gZ u l)):=vM _ l u (IT _) hf
theorem c114(cs:List Cd)(hf:ZG cs=true):PC 74 [iH cs] (.agg [iv (jr cs).1,iv (jr cs).2]):=by
 simp only[ZG,AI,fE]at hf;obtain⟨f0,f1⟩:=hf;rw[cZ]at f0;refine Xa hP g74.ok rfl rfl ?_;rw[H1.e];unfold g74;dsimp only;refine Yd rfl rfl (Xg (ι:=Nat) (λi vs σ=>vs=[iv i]∧aj σ 0=.box [iv 0,iv 0]∧0<σ.length∧i<=cs.length∧jr cs=jr (cs.drop i)) (λi=>cs.length-i) 0 ⟨rfl,rfl,by simp,by omega,by simp⟩ ?_);rintro i vs σ again ⟨rfl,hz,my,hi,hu⟩ bn;refine Za rfl (Za rfl ?_);refine Ya (λh=>?_) (λh=>?_);rotate_left
 ·have h:i=cs.length:=by simp at h;omega
  subst h;rw[zAD,jr]at hu;refine Za rfl (Yd (cX hz rfl rfl rfl) (Ze _ my) (Zs (Xq my rfl) ?_));rw[hu]
 have hi:i<cs.length:=by simpa using h
 have eK:cs.drop i=cs[i]::cs.drop (i+1):=by rw[gI hi]
 have cH:=λ(s:List ab)=>Xm s cL false false 12 cs .i64 i hi;have tX:=zAj.1 f1 _ (AT hi);generalize cs[i]=c at eK cH tX;rw[eK,jr]at hu;simp only[il,AI,fE]at tX;obtain⟨g0,g1,g2,g9993⟩:=tX;refine Za (cH _) (Za (bB (pR _)) (Qu (row:=cL c) (row':=cL c) rfl rfl rfl ?_));have dI:=Yc σ (ab.box (cL c));have td:aj (σ++[ab.box (cL c)]) 0=.box [iv 0,iv 0]:=Qb _ hz;have qi:0<(σ++[ab.box (cL c)]).length:=by simp
 generalize σ++[ab.box (cL c)]=base at dI td qi ⊢;generalize σ.length=b at dI ⊢;clear hz my;refine ag ?_;apply sQ
 ·intro hR;repeat' (first
   |refine aY (c146 _ 0 g1) g115.ok ?_
   |refine aY (c146 _ 0 g2) g115.ok ?_
   |refine aY (c146 _ 0 g9993) g115.ok ?_
   | refine Q8 (λh=>?_) (λh=>?_) <;> (try rw[h])) <;> (refine ah ?_)
  all_goals exact Cu (V:=!Jh c) (hR ⟨⟩) (by grind [Jh])
 refine Ya (λhc=>?_) (λhc=>?_)
 ·have hu:jr cs=(140,c.pl):=by grind
  refine ag (Yd (cX td rfl rfl rfl) (Ze _ qi) (Zs (Xq qi rfl) ?_));rw[hu]
 refine ag ?_;rw[Qc (n:=i) (by omega)];exact bn (i+1) _ _ (by omega) ⟨rfl,td,qi,by omega,by grind⟩
def fZ:Nat→List Cd→Tx→Nat×Bool
 |_,[],_=>(0,false)
 |i,c::l,t=>if c.name==t then (i,true)else fZ (i+1) l t
def iu(cs:List Cd):List Tx→List Tx→Bool
 |_,[]=>true
 |pre,t::l=>((fZ 0 cs t).2&&pre.all λp=>!(p==t))&&iu cs (pre++[t]) l
def lU(b:Bk)(pre:List Fo)(f:Fo):Bool:=
 !(pre.any λg=>g.name==f.name)&&(decide (pre.length<240)&&(ez f.name&&(decide (0<=f.least)&&(decide (f.least<=f.most)&&(decide (f.most<=60)&&(decide (0<=f.jI)&&(decide (f.jI<=999)&&(iu b.ai [] f.jG&&iu b.ai [] f.single))))))))
def gq(b:Bk):List Fo→List Fo→Int×Int
 |_,[]=>(0,0)
 |pre,f::l=>if lU b pre f then gq b (pre++[f]) l else (151,f.pl)
def bz(b:Bk):Int×Int:=if (cE b.ai).1≠0 then cE b.ai else if (jr b.ai).1≠0 then jr b.ai else gq b [] b.aw
def oj(f:Fo):Bool:=decide (f.name.length<=gn)&&(decide (f.jG.length<=gn)&&decide (f.single.length<=gn))
def a_(b:Bk):Bool:=ZG b.ai&&(decide (b.aw.length<=gn)&&b.aw.all oj)
theorem c195(b:Bk)(hc:b.ai.length<=gn)(t:Tx):PC 149 [cC b,.str t] (.bp [iv (fZ 0 b.ai t).1,.bool (fZ 0 b.ai t).2]):=by
 rw[cZ]at hc;refine Xa hP g149.ok rfl rfl ?_;rw[H2.e];unfold g149;dsimp only;refine Yd rfl rfl ?_;generalize hB:([]++[ab.box [iH b.ai,o9 b.aw]]:List ab)=base;have dI:aj base 0=.box [iH b.ai,o9 b.aw]:=by rw[←hB];rfl
 clear hB;generalize b.ai=cs at hc dI ⊢;refine Xg (ι:=Nat) (λi vs σ=>vs=[iv i]∧σ=base∧i<=cs.length∧fZ 0 cs t=fZ i (cs.drop i) t) (λi=>cs.length-i) 0 ⟨rfl,rfl,by omega,by simp⟩ ?_;rintro i vs σ again ⟨rfl,rfl,hi,hu⟩ bn;refine ax (Ya (λh=>?_) (λh=>?_))
 ·have h:i<cs.length:=by simpa using h
  have eK:cs.drop i=cs[i]::cs.drop (i+1):=by rw[gI h]
  rw[eK,fZ]at hu;refine Za rfl (Za (ld dI rfl) (Za (Xm _ cL false false 12 cs .i64 i h) (Za rfl (Za (bB (nU _)) (Za (uC ..) ?_)))));refine Ya (λh=>?_) (λh=>?_)
  ·rw[aJ h]at hu;rw[hu];rfl
  ·rw[aE (by simpa using h)]at hu;refine Za (Qj ..) ?_;rw[Qc (n:=i) (by omega)]
   grind
 grind [fZ]
theorem c148(b:Bk)(hc:b.ai.length<=gn)(l:List Tx)(hl:l.length<=gn):PC 117 [cC b,Hm l] (.bool (iu b.ai [] l)):=by
 rw[cZ]at hl;refine Xa hP g117.ok rfl rfl ?_;rw[H2.e];unfold g117;dsimp only;refine Yd rfl rfl (Xg (ι:=Nat) (λi vs σ=>vs=[iv i]∧σ=[]++[ab.box [iH b.ai,o9 b.aw]]∧i<=l.length∧iu b.ai [] l=iu b.ai (l.take i) (l.drop i)) (λi=>l.length-i) 0 ⟨rfl,rfl,by omega,by simp⟩ ?_);rintro i vs σ again ⟨rfl,rfl,hi,hu⟩ bn;refine Za rfl (Za rfl ?_);refine Ya (λh=>?_) (λh=>?_);rotate_left
 ·grind [iu]
 have h:i<l.length:=by simpa using h
 have eK:l.drop i=l[i]::l.drop (i+1):=by rw[gI h]
 have cH:=λ(s:List ab)=>Xm s vb false false 1 l .i64 i h;have k_:l.take (i+1)=l.take i++[l[i]]:=Yw l i h;generalize l[i]=t at eK cH k_;rw[eK,iu,←k_]at hu;refine Xf rfl rfl (Xf (cH _) rfl (Xf (bB (xV _)) rfl ?_));refine Y9 (c195 b hc t) g149.ok ?_;refine ay ?_;refine Xg (ι:=Nat) (λk vs σ=>∃ok,vs=[iv k,.bool ok]∧σ=[]++[ab.box [iH b.ai,o9 b.aw]]∧k<=i∧((fZ 0 b.ai t).2&&(l.take i).all λp=>!(p==t))=(ok&&((l.take i).drop k).all λp=>!(p==t))) (λk=>i-k) 0 ⟨_,rfl,rfl,by omega,by simp⟩ ?_;rintro k vs σ mE ⟨ok,rfl,rfl,hk,hv⟩ ll;refine Za rfl (YS (λh2=>?_) (λh2=>?_))
 ·have hkx:k<(l.take i).length:=by rw[zAq];omega
  have rl:(l.take i).drop k=(l.take i)[k]::(l.take i).drop (k+1):=by rw[gI hkx]
  rw[zCw]at rl;rw[rl,List.all_cons,←zCM]at hv;cases ok with
  |true=>
   have Uk:=λ(s:List ab)=>Xm s vb false false 1 l .i64 k (by omega);repeat first|refine Qa ?_|refine Za (Uk _) ?_|refine Za (cH _) ?_|refine Za (bB (xV _)) ?_|refine Za rfl ?_
   rw[Qc (n:=k) (by omega)];exact ll (k+1) _ _ (by omega) ⟨_,rfl,rfl,by omega,by rw[hv,zAF]⟩
  |false=>
   refine ay ?_;rw[Qc (n:=k) (by omega)];exact ll (k+1) _ _ (by omega) ⟨_,rfl,rfl,by omega,by rw[hv];simp⟩
 subst h2;rw[zCY (by rw[zAq];omega),List.all_nil,zAz]at hv;rw[hv]at hu;refine Za rfl (Ya (λh3=>?_) (λh3=>?_))
 ·simp_all
 ·have h3:ok=true:=by simpa using h3
  subst h3;rw[zAF]at hu;refine Za (Qj ..) ?_;rw[Qc (n:=k) (by omega)]
  grind
theorem JB(x:Fo):aK true 0 7 (oi x)=some (.agg (oi x)):=rfl
theorem JC(x:Fo):aK false 0 1 (oi x)=some (.str x.name):=rfl
theorem JD(x:Fo):aK false 6 1 (oi x)=some (iv x.pl):=rfl
theorem c115(b:Bk)(hc:b.ai.length<=gn)(rm:b.aw.length<=gn)(k:Nat)(hk:k<b.aw.length)(hf:oj b.aw[k]=true):PC 75 [cC b,iv k] (.bool (lU b (b.aw.take k) b.aw[k])):=by
 rw[cZ]at rm;refine Xa hP g75.ok rfl rfl ?_;rw[H2.e];unfold g75;dsimp only;refine Yd rfl rfl ?_;have cH:=λ(s:List ab)=>Xm s oi false false 7 b.aw .i64 k hk;generalize b.aw[k]=f at hf cH ⊢;simp only[oj,AI,fE]at hf;obtain⟨f0,f1,f2⟩:=hf;refine Za rfl (Za rfl (Za (cH _) (Za (bB (JB f)) (Qu (row:=oi f) (row':=oi f) rfl rfl rfl ?_))));generalize hB:([]++[ab.box [iH b.ai,o9 b.aw]]++[ab.box (oi f)]:List ab)=base;have dI:aj base 0=.box [iH b.ai,o9 b.aw]:=by rw[←hB];rfl
 have je:aj base 1=.box (oi f):=by rw[←hB];rfl
 clear hB;have htl:(b.aw.take k).length=k:=by rw[zAq];omega
 refine Xg (ι:=Nat) (λj vs σ=>vs=[iv j]∧σ=base∧j<=k∧((b.aw.take k).any λg=>g.name==f.name)=(((b.aw.take k).drop j).any λg=>g.name==f.name)) (λj=>k-j) 0 ⟨rfl,rfl,by omega,by simp⟩ ?_;rintro j vs σ again ⟨rfl,rfl,hj,hv⟩ bn;refine Za rfl (YS (λh=>?_) (λh=>?_))
 ·have Ul:j<(b.aw.take k).length:=by omega
  have rl:(b.aw.take k).drop j=(b.aw.take k)[j]::(b.aw.take k).drop (j+1):=by rw[gI Ul]
  rw[zCw]at rl;rw[rl,zCu]at hv;refine Za rfl (Za (ld dI rfl) (Za (Xm _ oi false false 7 b.aw .i64 j (by omega)) (Za rfl (Za (bB (JC _)) (Za rfl (Za (ld je rfl) (Za (uC ..) ?_)))))));refine Ya (λh=>?_) (λh=>?_)
  ·grind [lU]
  ·rw[h,zCR]at hv;refine Za (Qj ..) ?_;rw[Qc (n:=j) (by omega)]
   grind
 subst h;rw[zCY (by omega),List.any_nil]at hv;unfold lU;rw[hv,htl,zBw,zAF];clear hv bn cH;refine Za rfl ?_;rcases cA (decide ((j:Int) >= 240))with a1|a1
 ·rw[a1];refine ax ?_
  grind
 rw[a1];refine ax ?_;have a1:j<240:=by simp at a1;omega
 refine aY (c147 _ f0) g116.ok (ax (Ya (λa2=>?_) (λa2=>?_)))
 ·simp_all
 have a2:ez f.name=true:=by simpa using a2
 rw[fk a1,a2,zAF,zAF];clear a1 a2;refine ax ?_;rcases cA (decide (f.least >= 0))with b1|b1
 rotate_left
 ·rw[b1];refine ax ?_;rfl
 rw[b1];refine ax ?_;have b1:0<=f.least:=by simpa using b1
 rcases cA (decide (f.least<=f.most))with b2|b2
 rotate_left
 ·rw[b2];refine ax ?_;rfl
 rw[b2];refine ax ?_;have b2:f.least<=f.most:=by simpa using b2
 rcases cA (decide (f.most<=60))with b3|b3
 rotate_left
 ·rw[b3];refine ax ?_;rfl
 rw[b3];refine ax ?_;have b3:f.most<=60:=by simpa using b3
 rcases cA (decide (f.jI >= 0))with b4|b4
 rotate_left
 ·rw[b4];refine ax ?_;rfl
 rw[b4];refine ax ?_;have b4:0<=f.jI:=by simpa using b4
 rcases cA (decide (f.jI<=999))with b5|b5
 rotate_left
 ·rw[b5];refine ax ?_;rfl
 rw[b5];refine ax ?_;have b5:f.jI<=999:=by simpa using b5
 simp only[b1,b2,b3,b4,b5,decide_true,zAF];refine aY (c148 b hc _ f1) g117.ok (ax ?_);rcases cA (iu b.ai [] f.jG)with c1|c1
 rotate_left
 ·rw[c1];refine ax ?_;simp[c1]
 rw[c1];refine ax (aY (c148 b hc _ f2) g117.ok (ax ?_));simp[c1]
theorem c67(b:Bk)(hf:a_ b=true):PC 42 [cC b] (.agg [iv (bz b).1,iv (bz b).2]):=by
 simp only[a_,AI,fE]at hf;obtain⟨f0,f1,f2⟩:=hf;have f12:=f1;rw[cZ]at f12;have fc:b.ai.length<=gn:=by simp_all [ZG]
 refine Xa hP g42.ok rfl rfl ?_;rw[H1.e];unfold g42;dsimp only;refine ay ?_;refine aY (c113 _ f0) g73.ok ?_;refine ay ?_;unfold bz;refine Ya (λh=>?_) (λh=>?_)
 ·rw[aJ (by simpa using h)];refine ay rfl
 rw[aE (by simpa using h)];refine Za rfl (Za rfl ?_);refine aY (c114 _ f0) g74.ok (ay (Ya (λh=>?_) (λh=>?_)))
 ·rw[aJ (by simpa using h)];refine ay rfl
 rw[aE (by simpa using h)];generalize cE b.ai=p1;generalize jr b.ai=p2;refine Xg (ι:=Nat) (λi vs σ=>vs=[iv i]∧σ=[]++[ab.box [iH b.ai,o9 b.aw]]++[.box [iv 0,iv 0]]++[.box [iv p1.1,iv p1.2]]++[.box [iv p2.1,iv p2.2]]∧i<=b.aw.length∧gq b [] b.aw=gq b (b.aw.take i) (b.aw.drop i)) (λi=>b.aw.length-i) 0 ⟨rfl,rfl,by omega,by simp⟩ ?_;rintro i vs σ again ⟨rfl,rfl,hi,hu⟩ bn;refine ay (Ya (λh=>?_) (λh=>?_));rotate_left
 ·have h:i=b.aw.length:=by simp at h;omega
  subst h;rw[zAD,gq]at hu;refine ay ?_;rw[hu]
 have h:i<b.aw.length:=by simpa using h
 have eK:b.aw.drop i=b.aw[i]::b.aw.drop (i+1):=by rw[gI h]
 have cH:=λ(s:List ab)=>Xm s oi false false 7 b.aw .i64 i h;have k_:b.aw.take (i+1)=b.aw.take i++[b.aw[i]]:=Yw b.aw i h;have Ky:=c115 b fc f1 i h (zAj.1 f2 _ (AT h));generalize b.aw[i]=f at eK cH k_ Ky;rw[eK,gq,←k_]at hu;refine Za rfl (aY Ky g75.ok (Za rfl (Ya (λh3=>?_) (λh3=>?_))))
 ·rw[aE (by simpa using h3)]at hu;refine Za rfl (Za rfl (Za (cH _) (Za rfl (Za (bB (JD _)) ?_))));refine ay ?_;rw[hu]
 ·rw[aJ (by simpa using h3)]at hu;refine Za (Qj ..) ?_;rw[Qc (n:=i) (by omega)]
  grind
structure na (row:List aa) (j:Nat) (x:Nm):Prop where
 h0:aK false (j+0) 1 row=some (aN x.op)
 h1:aK false (j+1) 1 row=some (iv x.n)
 h2:aK false (j+2) 1 row=some (aN x.who)
 h3:aK false (j+3) 1 row=some (.aU false false 4 (x.kids.map c8))
theorem qm(x:Nm):na (c8 x) 0 x:=by rw[QA];exact⟨rfl,rfl,rfl,rfl⟩
theorem BT(x:Ef):na (bj x) 2 x.n:=by rw[Zr];exact⟨rfl,rfl,rfl,rfl⟩
theorem c210(w:Int):PC 199 [aN w] (.bool (cq w)):=by
 refine Xa hP g199.ok rfl rfl ?_;rw[H1.e];unfold g199;dsimp only;refine ag ?_;repeat' (first|refine vD ?_|refine Ya (λh=>?_) (λh=>?_))<;>refine ag ?_
 all_goals grind [cq]
theorem c212(w:Int):PC 201 [aN w] (.bool (mN w)):=by
 refine Xa hP g201.ok rfl rfl ?_;rw[H1.e];unfold g201;dsimp only;refine ag (Q8 (λh=>?_) (λh=>?_))<;>(try rw[h])<;>refine ag ?_<;>grind [mN]
theorem A8(u:aa)(t:Bool):∀(k:Nat) (x:Nm) (row:List aa) (j:Nat),na row j x→zAT x<=k→cW x=true→PC 200 [.aq [u,.bool t] 0,.aq row j] (.bool (eP t x))
 |0,x,_,_,_,h,_=>by cases x;simp at h
 |k+1,x,row,j,⟨p0,p1,p2,p3⟩,hk,hf=>by
  refine Xa hP g200.ok rfl rfl ?_;rw[H2.e];unfold g200;dsimp only;rw[NB];have hlen:=HN hf;rw[cZ]at hlen;refine ag (Qg λk11 lW=>?_);have kk:∀(p o:Bool) (kd:Int),kd=xl x.op→(0<=x.op∧x.op<=12)→(p&&o)=fJ t x.op x.n x.who→k11 [.bool p,.bool o,iv kd] []:=by
   rintro p o _ rfl hY hpo;rw[lW];clear lW k11;refine ag ?_;repeat' (first|refine Q8 (λh=>?_) (λh=>?_)<;>(try rw[h])|refine Ya (λh=>?_) (λh=>?_))<;>refine ag ?_
   all_goals first
    |grind [iM]
    |skip
   have ht:iM t x.op x.n x.who x.kids.length=true:=by simp at h;simp[iM];omega
   rw[ht,show fJ t x.op x.n x.who=true by grind,zAF,zAz,zAH];refine Xg (ι:=Nat) (λi vs σ=>vs=[iv i]∧σ=[]∧i<=x.kids.length∧cx t x.kids=cx t (x.kids.drop i)) (λi=>x.kids.length-i) 0 ⟨rfl,rfl,by omega,by simp⟩ ?_;rintro i vs σ again ⟨rfl,rfl,hi,hu⟩ bn;refine Za rfl (YS (λh=>?_) (λh=>?_))
   ·rw[gI h,cx]at hu;have hm:=AT h;refine ag (Za (Xm _ c8 _ _ _ x.kids _ i h) ?_);refine aY (A8 u t k _ _ 0 (qm _) (by have:=AK hm;omega) (XY hf hm)) g200.ok (ag (Ya (λh4=>?_) (λh4=>?_)))
    ·grind
    ·refine ag ?_;rw[Qc (n:=i) (by omega)];exact bn (i+1) _ _ (by omega) ⟨rfl,rfl,by omega,by grind⟩
   grind [cx]
  clear lW;refine ag ?_;repeat' (first
   |refine vD ?_
   |refine aY (c212 _) g201.ok ?_
   |refine Q8 (λh=>?_) (λh=>?_)<;>(try rw[h])
   | refine Ya (λh=>?_) (λh=>?_)) <;> (refine ag ?_)
  all_goals first
   |exact kk _ _ _ (by grind [xl]) (by grind) (by grind [fJ])
   |grind [iM]
theorem c211(u:aa)(t:Bool)(x:Nm)(row:List aa)(j:Nat)(hx:na row j x)(hf:cW x=true):PC 200 [.aq [u,.bool t] 0,.aq row j] (.bool (eP t x)):=A8 u t _ x row j hx (IT _) hf
def cu(t:Tx):List (Tx×Bool)→Option Bool
 |[]=>none
 |p::l=>if t==p.1 then some p.2 else cu t l
def jl(l:List (Tx×Bool)):List (aa×aa):=l.map λp=>(aa.str p.1,aa.bool p.2)
theorem HK(t:Tx):∀l,jq (.str t) (jl l)=some ((cu t l).map aa.bool)
 |[]=>rfl
 |p::l=>by
  simp only[jl,zAN,jq,jz,cu];cases h:t==p.1 with
  |true=>rfl
  |false=>exact HK t l
def zm(l:List (Tx×Bool))(t:Bool):List aa:=[.fL (jl l),.bool t]
theorem Qd8(l:List (Tx×Bool))(t:Tx)(σ:List ab):Yy true true (.bool false) [.fL (jl l),.str t] σ=.ok (.bp [.bool ((cu t l).getD false),.bool (cu t l).isSome]) [] []:=by
 show (match jq (.str t) (jl l)with
  |some r=>aA.ok (la true (.bool false) r) [] []
  | none=>.stop)=_
 rw[HK];cases cu t l<;>rfl
theorem XcA(l:List (Tx×Bool))(t:Tx)(σ:List ab):Yy true false (.bool false) [.fL (jl l),.str t] σ=.ok (.bool ((cu t l).getD false)) [] []:=by
 show (match jq (.str t) (jl l)with
  |some r=>aA.ok (la false (.bool false) r) [] []
  | none=>.stop)=_
 rw[HK];cases cu t l<;>rfl
def nQ(l:List (Tx×Bool))(cs:List Cd):Prop:=∀t u,ee cs t u=match cu t l with
 |none=>false
 |some b=>b || !u
structure sA (row:List aa) (j:Nat) (x:Cn):Prop where
 h0:aK false (j+0) 1 row=some (aN x.op)
 h1:aK false (j+1) 1 row=some (aN x.who)
 h2:aK false (j+2) 1 row=some (.str x.name)
 h3:aK false (j+3) 1 row=some (.aU false false 4 (x.aC.map c8))
 h4:aK false (j+4) 1 row=some (.aU false false 5 (x.kids.map f_))
theorem zn(x:Cn):sA (f_ x) 0 x:=by rw[XE];exact⟨rfl,rfl,rfl,rfl,rfl⟩
theorem Bi(x:Ef):sA (bj x) 7 x.c:=by rw[Zr];exact⟨rfl,rfl,rfl,rfl,rfl⟩
theorem QdU{P:Program}{GL:ar}{c d:Bool}{K:aa→Prop}{r1:aA}{f2 f3 f4 f5:aa→aA}{σ:List ab}{v1 v2 v3 v4:aa}{q1 q2 q3 q4 q5:List Nat}(h1:r1=.ok v1 q1 [])(h2:f2 v1=.ok v2 q2 [])(h3:f3 v2=.ok v3 q3 [])(h4:f4 v3=.ok v4 q4 [])(h5:f5 v4=.ok (.bool d) q5 [])(hK:K (.bool (c&&d))) :
  (W P GL).gr (.bool c) true (λk=>(W P GL).rd r1 k) λt1=>(W P GL).gr (.bool c) true (λk=>(W P GL).rd (f2 t1) k) λt2=>(W P GL).gr (.bool c) true (λk=>(W P GL).rd (f3 t2) k) λt3=>(W P GL).gr (.bool c) true (λk=>(W P GL).rd (f4 t3) k) λt4=>(W P GL).gr (.bool c) true (λk=>(W P GL).rd (f5 t4) k) λt5=>(W P GL).rd (Zo [.bool c,t5,.bool false] σ) K:=by
 cases c with
 |true=>exact Qa (Za h1 (Qa (Za h2 (Qa (Za h3 (Qa (Za h4 (Qa (Za h5 (Za rfl hK))))))))))
 |false=>exact Zc rfl (Zc rfl (Zc rfl (Zc rfl (Zc rfl (Za rfl hK)))))
theorem A9(l:List (Tx×Bool))(cs:List Cd)(hU:nQ l cs)(t:Bool):∀(k:Nat) (x:Cn) (row:List aa) (j:Nat),sA row j x→zAT x<=k→cG x=true→PC 202 [.aq (zm l t) 0,.aq row j] (.bool (fG cs t x))
 |0,x,_,_,_,h,_=>by cases x;simp at h
 |k+1,x,row,j,⟨p0,p1,p2,p3,p4⟩,hk,hf=>by
  refine Xa hP g202.ok rfl rfl ?_;rw[H2.e];unfold g202;dsimp only;rw[Rj];have gk:=Y3 hf;have dU:=Z3 hf;rw[cZ]at gk dU;have lk:=Qd8 l x.name [];have hUx:=hU x.name false;refine ag (QdU rfl rfl rfl (bB p2) (uC ..) ?_);refine ag (Qg λk13 De=>?_);have kk:∀(ok:Bool) (k3 k4:Int),k3=nj x.op→k4=nk x.op→(0<=x.op∧x.op<=6)→ok=gL cs x.op x.who x.name→k13 [.bool ok,iv k3,iv k4] []:=by
   rintro ok _ _ rfl rfl hY bQ;rw[De];clear De k13 lk hUx;refine ag ?_;repeat' (first|refine Q8 (λh=>?_) (λh=>?_)<;>(try rw[h])|refine Ya (λh=>?_) (λh=>?_))<;>refine ag ?_
   all_goals first
    |grind [gM]
    |skip
   rename_i h3;have ht:gM x.op x.aC.length x.kids.length=true:=by simp at h3 h;simp[gM];omega
   rw[ht,←bQ,show ok=true by grind,zAF,zAz,zAH];refine Xg (ι:=Nat) (λi vs σ=>vs=[iv i]∧σ=[]∧i<=x.aC.length∧cx t x.aC=cx t (x.aC.drop i)) (λi=>x.aC.length-i) 0 ⟨rfl,rfl,by omega,by simp⟩ ?_;rintro i vs σ again ⟨rfl,rfl,hi,hu⟩ bn;refine Za rfl (YS (λh=>?_) (λh=>?_))
   ·rw[gI h,cx]at hu;refine ag (Za (Xm _ c8 _ _ _ x.aC _ i h) ?_);refine aY (c211 _ t _ _ 0 (qm _) (Y5 hf (AT h))) g200.ok (ag (Ya (λh4=>?_) (λh4=>?_)))
    ·grind
    ·refine ag ?_;rw[Qc (n:=i) (by omega)];exact bn (i+1) _ _ (by omega) ⟨rfl,rfl,by omega,by grind⟩
   rw[h,zAD,cx]at hu;rw[hu,zAF];clear bn hu hi;refine ag ?_;rw[zAH];refine(Xg (ι:=Nat) (λi vs s=>vs=[iv i]∧s=[]∧i<=x.kids.length∧eH cs t x.kids=eH cs t (x.kids.drop i)) (λi=>x.kids.length-i) 0 ⟨rfl,rfl,by omega,by simp⟩ ?_);rintro i vs s again ⟨rfl,rfl,hi,hu⟩ bn;refine Za rfl (YS (λh=>?_) (λh=>?_))
   ·rw[gI h,eH]at hu;have hm:=AT h;refine ag (Za (Xm _ f_ _ _ _ x.kids _ i h) ?_);refine aY (A9 l cs hU t k _ _ 0 (zn _) (by have:=Cw hm;omega) (Z5 hf hm)) g202.ok (ag (Ya (λh4=>?_) (λh4=>?_)))
    ·grind
    ·refine ag ?_;rw[Qc (n:=i) (by omega)];exact bn (i+1) _ _ (by omega) ⟨rfl,rfl,by omega,by grind⟩
   grind [eH]
  clear De;refine ag ?_;repeat' (first
   |refine vD ?_
   |refine aY (c212 _) g201.ok ?_
   |refine Q8 (λh=>?_) (λh=>?_)<;>(try rw[h])
   | refine uD (λh=>?_) (λh=>?_) <;> try (exfalso;omega)) <;> (refine ag ?_)
  all_goals first
   |exact kk _ _ _ (by grind [nj]) (by grind [nk]) (by omega) (by grind [gL])
   |grind [gM]
theorem c213(l:List (Tx×Bool))(cs:List Cd)(hU:nQ l cs)(t:Bool)(x:Cn)(row:List aa)(j:Nat)(hx:sA row j x)(hf:cG x=true):PC 202 [.aq (zm l t) 0,.aq row j] (.bool (fG cs t x)):=A9 l cs hU t _ x row j hx (IT _) hf
def uy(x:Ef):Bool:=((cq x.op||el x.n)&&(decide (x.op=7)||x.name==[]))&&(decide (x.op=8)||(decide (x.c.op=0)&&(decide (x.c.who=0)&&(x.c.name==[]&&decide (x.c.aC.length+x.c.kids.length+x.bP.length+x.bS.length=0)))))
theorem c209(x:Ef)(hf:dS x=true):PC 198 [.aq (bj x) 0] (.bool (uy x)):=by
 have l1:=Y3 (Y6 hf);have l2:=Z3 (Y6 hf);have l3:=YF (XN hf);have l4:=YF (YN hf);rw[cZ]at l1 l2 l3 l4;have w1:=br (n:=(x.c.aC.length:Int)+x.c.kids.length) (by omega) (by omega);have w2:=br (n:=(x.c.aC.length:Int)+x.c.kids.length+x.bP.length) (by omega) (by omega);have w3:=br (n:=(x.c.aC.length:Int)+x.c.kids.length+x.bP.length+x.bS.length) (by omega) (by omega);have w0:(x.c.aC.length:Int)+x.c.kids.length+x.bP.length+x.bS.length=0↔x.c.aC.length+x.c.kids.length+x.bP.length+x.bS.length=0:=by omega
 rw[Zr];refine Xa hP g198.ok rfl rfl ?_;rw[H1.e];unfold g198;dsimp only;refine ae (aY (c210 _) g199.ok (ae ?_));repeat' (refine Q8 (λh=>?_) (λh=>?_)<;>(try rw[h])<;>refine ae ?_)
 all_goals ((try simp only[zAH,w1,w2,w3,w0]);grind [uy,el])
def q_(cs:List Cd)(t:Bool)(d:Int)(x:Ef):Bool:=
 if x.op=0∨x.op=1 then mN x.who||(decide (x.who=2)&&t)
 else if x.op=2∨x.op=4∨x.op=6 then mN x.who
 else if x.op=3∨x.op=5 then decide (x.who=0)
 else if x.op=7 then decide (x.who=0)&&ee cs x.name true
 else if x.op=8 then decide (x.who=0)&&(fG cs t x.c&&(bD cs t (d+1) x.bP&&bD cs t (d+1) x.bS))
 else false
theorem Zdp(x:Ef):(decide (x.c.op=0)&&(decide (x.c.who=0)&&(x.c.name==[]&&decide (x.c.aC.length+x.c.kids.length+x.bP.length+x.bS.length=0))))=(fe x.c&&(decide (x.bP.length=0)&&decide (x.bS.length=0))):=by
 grind [fe]
theorem Qer(cs:List Cd)(t:Bool)(d:Int)(x:Ef):mH cs t d x=((uy x&&(!cq x.op||eP t x.n))&&q_ cs t d x):=by
 rw[ye,uy,Zdp];by_cases hr:0<=x.op∧x.op<=8;rotate_left
 ·grind [q_]
 obtain⟨r1,r2⟩:=hr;rw[fk r1,fk r2,zAF,zAF];generalize fe x.c=b1;generalize decide (x.bP.length=0)=b2;generalize decide (x.bS.length=0)=b3;generalize el x.n=b4;generalize eP t x.n=b5;generalize (x.name==[])=b6;unfold q_ iJ pF
 grind [cq]
theorem Xer(x:Ef):na (bj x) (0+2) x.n:=BT x
theorem Yer(x:Ef):sA (bj x) (0+7) x.c:=Bi x
theorem vO(m:List (Tx×Bool))(cs:List Cd)(hU:nQ m cs)(t:Bool):∀(k:Nat) (l:List Ef) (d:Int),zAT l<=k→bE l=true→0<=d→PC 169 [.aq (zm m t) 0,gY l,iv d] (.bool (bD cs t d l))
 |0,l,_,h,_,_=>by cases l<;>simp at h
 |k+1,l,d,hk,hf,hd=>by
  refine Xa hP g169.ok rfl rfl ?_;rw[H3.e];unfold g169;dsimp only;have hlen:=YF hf;rw[cZ]at hlen;refine Za rfl (Za rfl ?_);refine ZL rfl rfl (Ya (λh=>?_) (λh=>?_))
  ·grind [bD]
  have h:l.length<=16∧d<=8:=by simp at h;omega
  have hl:bD cs t d l=bU cs t d l:=by simp[bD,h]
  rw[hl];clear hl;refine Za rfl (Xg (ι:=Nat) (λi vs σ=>vs=[iv i]∧σ=[]∧i<=l.length∧bU cs t d l=bU cs t d (l.drop i)) (λi=>l.length-i) 0 ⟨rfl,rfl,by omega,by simp⟩ ?_);rintro i vs σ again ⟨rfl,rfl,hi,hu⟩ bn;refine Za rfl (Ya (λh=>?_) (λh=>?_));rotate_left
  ·grind [bU]
  have pZ:i<l.length:=by simpa using h
  have eK:l.drop i=l[i]::l.drop (i+1):=by rw[gI pZ]
  rw[eK,bU]at hu;have hm:l[i]∈l:=AT pZ;have eL:=zBL hm;have jD:=QN hf hm;have ix:=λ(s:List ab)=>Xm s bj false false 14 l .i64 i pZ;generalize l[i]=x at hu eL jD ix;have qf:=Gz x;rename_i hd8;obtain⟨h16,h8⟩:=hd8;have hw:BY.wrap (d + 1)=d + 1:=br (by omega) (by omega);rw[Qer]at hu;have p0:=gO x;have p1:=n_ x;have p6:=Bq x;have p12:=Co x;have p13:=Cf x;have lk:=XcA m x.name [];have hUx:=hU x.name true;refine Za (ix _) (aY (c209 x jD) g198.ok (ag ?_));repeat' (first
   |refine vD ?_
   |refine aY (c210 _) g199.ok ?_
   |refine aY (c211 _ t x.n _ _ (Xer x) (zh jD)) g200.ok ?_
   |refine aY (c212 _) g201.ok ?_
   |refine aY (c213 m cs hU t x.c _ _ (Yer x) (Y6 jD)) g202.ok ?_
   | (rw[hw];first
    |refine aY (vO m cs hU t k x.bP (d+1) (by omega) (XN jD) (by omega)) g169.ok ?_
    | refine aY (vO m cs hU t k x.bS (d + 1) (by omega) (YN jD) (by omega)) g169.ok ?_)
   |(refine AL (λh e=>?_) (λh e=>?_)<;>first|(exfalso;omega)|(try rw[e]))
   |refine uD (λh=>?_) (λh=>?_)<;>try (exfalso;omega)
   |refine Q8 (λh=>?_) (λh=>?_)<;>(try rw[h])
   | refine Ya (λh=>?_) (λh=>?_)) <;> (refine ag ?_)
  all_goals first
   |(rw[Qc (n:=i) (by omega)];refine bn (i+1) _ _ (by omega) ⟨rfl,rfl,by omega,?_⟩;grind [q_])
   |grind [q_]
theorem c157(m:List (Tx×Bool))(cs:List Cd)(hU:nQ m cs)(t:Bool)(l:List Ef)(d:Int)(hf:bE l=true)(hd:0<=d):PC 169 [.aq (zm m t) 0,gY l,iv d] (.bool (bD cs t d l)):=vO m cs hU t _ l d (IT _) hf hd
theorem Jl(F:Prop){R G:Prop}(imp:(F→R)→G)(r:F→R):G:=imp r
theorem c221(m:List (Tx×Bool))(cs:List Cd)(hU:nQ m cs)(c:Cd)(hf:il c=true)
 (h223:PC 167 [.str c.name] (.bool (ez c.name)))(h124:PC 168 [.agg (cL c)] (iv (o7 c))) :
  PC 120 [.aq (cL c) 0,.fL (jl m)] (.bool (eG cs c)):=by
 simp only[il,AI,fE]at hf;obtain⟨f0,f1,f2,f3⟩:=hf;have bad:eG cs c=false→aa.bool false=aa.bool (eG cs c):=λh=>by rw[h]
 refine Xa hP g120.ok rfl rfl ?_;rw[H2.e];unfold g120;dsimp only;refine ay (QK 7 (Zl ?_));refine ay (ZL rfl rfl (Ya (λh=>bad ?_) (λb1=>Za rfl ?_)))
 ·have:ck c.cost=false:=by
   rw[zBF];intro hh;simp[ck]at hh;simp at h;omega
  simp[eG,this]
 have b1:0<=c.cost∧c.cost<=999:=by simp at b1;omega
 refine Zl (ay (ZL rfl rfl (Ya (λh=>bad ?_) (λb2=>Za rfl ?_))))
 ·have:ck c.dG=false:=by
   rw[zBF];intro hh;simp[ck]at hh;simp at h;omega
  simp[eG,this]
 have b2:0<=c.dG∧c.dG<=999:=by simp at b2;omega
 refine Zl (ay (ZL rfl rfl (Ya (λh=>bad ?_) (λb3=>Za rfl ?_))))
 ·have:ck c.bJ=false:=by
   rw[zBF];intro hh;simp[ck]at hh;simp at h;omega
  simp[eG,this]
 have b3:0<=c.bJ∧c.bJ<=999:=by simp at b3;omega
 refine Zl (ay (ZL rfl rfl (Ya (λh=>bad ?_) (λb4=>Za rfl ?_))))
 ·have:ck c.dg=false:=by
   rw[zBF];intro hh;simp[ck]at hh;simp at h;omega
  simp[eG,this]
 have b4:0<=c.dg∧c.dg<=999:=by simp at b4;omega
 refine Zl (ay (ZL rfl rfl (Ya (λh=>bad ?_) (λb5=>Za rfl ?_))))
 ·have:ck c.eR=false:=by
   rw[zBF];intro hh;simp[ck]at hh;simp at h;omega
  simp[eG,this]
 have b5:0<=c.eR∧c.eR<=999:=by simp at b5;omega
 refine Zl (ay (ZL rfl rfl (Ya (λh=>bad ?_) (λb6=>Za rfl ?_))))
 ·have:ck c.dP=false:=by
   rw[zBF];intro hh;simp[ck]at hh;simp at h;omega
  simp[eG,this]
 have b6:0<=c.dP∧c.dP<=999:=by simp at b6;omega
 refine Zl (Za rfl (Ye ?_));have bQ:eG cs c=(ez c.name&&(decide (o7 c<=200)&&(i_ c&&(bD cs true 1 c.c9&&(bD cs false 1 c.dead&&bD cs false 1 c.dR))))):=by
  have e1:ck c.cost=true:=by simp[ck];omega
  have e2:ck c.dG=true:=by simp[ck];omega
  have e3:ck c.bJ=true:=by simp[ck];omega
  have e4:ck c.dg=true:=by simp[ck];omega
  have e5:ck c.eR=true:=by simp[ck];omega
  have e6:ck c.dP=true:=by simp[ck];omega
  simp only[eG,e1,e2,e3,e4,e5,e6,zAF];generalize decide (o7 c<=200)=w;cases w<;>simp
 rw[bQ]at bad ⊢;clear bQ;refine ay (aY h223 g167.ok (Za rfl (Qg λk33 zK=>?_)));have O6:(ez c.name&&(decide (o7 c<=200)&&(i_ c&&(bD cs true 1 c.c9&&(bD cs false 1 c.dead&&bD cs false 1 c.dR)))))=false→k33 [.bool true] []:=by
  intro h;rw[zK];exact Yh (bad h)
 have yB:ez c.name=true→o7 c<=200→(c.unit=true→1<=c.bJ)→k33 [.bool false] []:=by
  intro n1 n2 n3;rw[zK];clear zK O6 k33;rw[n1,fk n2,zAF,zAF]at bad ⊢;refine ay ?_;apply Jl (i_ c=true)
  ·intro hR;cases hu:c.unit with
   |true=>
    repeat first|refine Qa ?_|refine Yq ?_|refine Zc rfl ?_|refine Yx rfl ?_|refine QT rfl ?_|refine ZW rfl ?_|refine Za (bB (row:=cL c) rfl) ?_|refine Za rfl ?_
    refine Ye (hR ?_);simp[i_,hu,n3 hu]
   |false=>
    repeat first|refine Qa ?_|refine Yq ?_|refine Zc rfl ?_|refine Yx rfl ?_|refine QT rfl ?_|refine ZW rfl ?_|refine Za (bB (row:=cL c) rfl) ?_|refine Za rfl ?_
    rw[br (n:=c.dG+c.bJ) (by omega) (by omega),br (n:=c.dG+c.bJ+c.dg) (by omega) (by omega),br (n:=c.dG+c.bJ+c.dg+c.eR) (by omega) (by omega),br (n:=c.dG+c.bJ+c.dg+c.eR+c.dP) (by omega) (by omega)];rcases cA (decide (c.dG+c.bJ+c.dg+c.eR+c.dP>0))with h|h
    ·rw[h];repeat first|refine Qa ?_|refine Yq ?_|refine Zc rfl ?_|refine Yx rfl ?_|refine QT rfl ?_|refine ZW rfl ?_|refine Za (bB (row:=cL c) rfl) ?_|refine Za rfl ?_
     refine Yh (bad ?_);have h:¬(c.dG+c.bJ+c.dg+c.eR+c.dP<=0):=by simp at h;omega
     simp[i_,hu,h]
    rw[h];repeat first|refine Qa ?_|refine Yq ?_|refine Za (bB (row:=cL c) rfl) ?_|refine Za rfl ?_
    have h:(c.dG+c.bJ+c.dg+c.eR+c.dP<=0):=by simp at h;omega
    have l1:=YF f2;have l2:=YF f3;rw[cZ]at l1 l2;rw[zAH,zAH,br (n:=(c.dead.length:Int)+(c.dR.length:Int)) (by omega) (by omega)];refine Ya (λh2=>bad ?_) (λh2=>hR ?_)
    ·have h2:¬(c.dead.length+c.dR.length=0):=by simp at h2;omega
     have:i_ c=false:=by rw[i_,hu,gm h2];simp
     simp[this]
    ·have h2:(c.dead.length+c.dR.length=0):=by simp at h2;omega
     rw[i_,hu,fk h2,fk h];rfl
  intro b7;rw[b7,zAF];refine ay (YG (c157 m cs hU true c.c9 1 f1 (by omega)) rfl g169.ok.plain rfl rfl (Za rfl (Ya (λp1=>?_) (λp1=>?_))))
  ·have p1:bD cs true 1 c.c9=false:=by simpa using p1
   rw[p1];rfl
  have p1:bD cs true 1 c.c9=true:=by simpa using p1
  rw[p1,zAF];refine ay (YG (c157 m cs hU false c.dead 1 f2 (by omega)) rfl g169.ok.plain rfl rfl ?_);rcases cA (bD cs false 1 c.dead)with p2|p2
  rotate_left
  ·rw[p2];refine ay ?_;rfl
  rw[p2];refine ay ?_;refine YG (c157 m cs hU false c.dR 1 f3 (by omega)) rfl g169.ok.plain rfl rfl ?_;refine ay ?_;rfl
 clear zK bad;refine Ya (λn1=>?_) (λn1=>?_)
 ·rw[n1];refine O6 ?_;have n1:ez c.name=false:=by simpa using n1
  rw[n1];rfl
 have n1:ez c.name=true:=by simpa using n1
 refine Za rfl (Za (bB (pR c)) ?_);refine aY h124 g168.ok (Za rfl (Ya (λn2=>?_) (λn2=>?_)))
 ·rw[n2];refine O6 ?_;have n2:¬o7 c<=200:=by simp at n2;omega
  rw[gm n2];simp
 have n2:o7 c<=200:=by simp at n2;omega
 refine ay ?_;cases hu:c.unit with
 |false=>
  exact ay (yB n1 n2 (λh=>by rw[hu]at h;cases h))
 |true=>
  refine ay ?_;rcases cA (decide (c.bJ<1))with h|h
  ·rw[h];refine O6 ?_;have:i_ c=false:=by simp at h;simp[i_,hu];omega
   rw[this];simp
  ·rw[h];exact yB n1 n2 (λ_=>by simp at h;omega)
def lG(t:Tx)(v:Bool):List (Tx×Bool)→List (Tx×Bool)
 |[]=>[(t,v)]
 |p::l=>if t==p.1 then (t,v)::l else p::lG t v l
theorem Xcv(t:Tx)(v:Bool):∀l,nS (.str t) (.bool v) (jl l)=some (jl (lG t v l))
 |[]=>rfl
 |p::l=>by
  simp only[jl,zAN,nS,jz,lG];cases h:t==p.1 with
  |true=>rfl
  |false=>
   have:=Xcv t v l;simp only[jl]at this;simp only[this];rfl
theorem Z4(t n:Tx)(v:Bool):∀l,cu t (lG n v l)=if t==n then some v else cu t l
 |[]=>by simp[lG,cu]
 |p::l=>by
  simp only[lG];by_cases h:n==p.1
  ·simp_all [cu]
  ·rw[aE h,cu,cu,Z4 t n v l]
   grind
theorem N4:∀l,u_ (jl l)=true
 |[]=>rfl
 |p::l=>by
  have:=N4 l;simp only[jl]at this;simp[jl,u_,aa.ro,this]
theorem Yc6{σ:List ab}{b:Nat}{l:List (Tx×Bool)}(h:aj σ b=.map (jl l))(row:List aa)(j:Nat):Zy σ 1000 [.aq row j,.map b]=some ([.aq row j,.fL (jl l)],[b]):=by
 simp_all [Zy,N4]
theorem Ydh{σ:List ab}{b:Nat}{l:List (Tx×Bool)}(h:aj σ b=.map (jl l))(t:Tx):Yy true true (.bool false) [.map b,.str t] σ=.ok (.bp [.bool ((cu t l).getD false),.bool (cu t l).isSome]) [b] []:=by
 simp only[Yy,yP,mapOf,h,HK,cond_true];cases cu t l<;>rfl
theorem RL{σ:List ab}{b:Nat}{l:List (Tx×Bool)}(h:aj σ b=.map (jl l))(t:Tx):Yy true false (.bool false) [.map b,.str t] σ=.ok (.bool ((cu t l).getD false)) [b] []:=by
 simp only[Yy,yP,mapOf,h,HK,cond_true];cases cu t l<;>rfl
theorem Gi{σ:List ab}{b:Nat}{l:List (Tx×Bool)}(h:aj σ b=.map (jl l))(t:Tx)(v:Bool):XG true [.map b,.str t,.bool v] σ=.ok .aQ [] [(b,.map (jl (lG t v l)))]:=by
 simp_all [XG,yP,Xcv]
def kT:List Cd→Tx→Option Bool
 |[],_=>none
 |c::l,t=>if c.name==t then some c.unit else kT l t
theorem Xdj:∀ (l:List Cd) (t:Tx) (u:Bool),ee l t u=(match kT l t with
 |none=>false
 | some b=>b || !u)
 |[],_,_=>rfl
 |c::l,t,u=>by
  simp only[ee,kT];by_cases h:c.name==t<;>simp_all [Xdj]
theorem Sh:∀ (l:List Cd) (c:Cd) (t:Tx),kT (l ++ [c]) t=(match kT l t with
 |some b=>some b
 | none=>if c.name == t then some c.unit else none)
 |[],_,_=>rfl
 |d::l,c,t=>by
  simp only[zAL,kT];by_cases h:d.name==t<;>simp_all [Sh]
def gX(m:List (Tx×Bool))(l:List Cd):Prop:=∀t,cu t m=kT l t
theorem gX.af{m:List (Tx×Bool)}{l:List Cd}(h:gX m l):nQ m l:=by
 intro t u;rw[Xdj,h t]<;>cases kT l t<;>rfl
theorem gX.fQ{m:List (Tx×Bool)}{l:List Cd}(h:gX m l){c:Cd}(hc:(cu c.name m).isSome=true):gX m (l++[c]):=by
 intro t;rw[Sh,←h t]
 grind
theorem gX.new{m:List (Tx×Bool)}{l:List Cd}(h:gX m l){c:Cd}(hc:(cu c.name m).isSome=false):gX (lG c.name c.unit m) (l++[c]):=by
 intro t;rw[Sh,←h t,Z4]
 grind
def Seen(m:List (Tx×Bool))(l:List Cd):Prop:=∀t,(cu t m).getD false=l.any λd=>d.name==t
theorem Seen.put{m:List (Tx×Bool)}{l:List Cd}(h:Seen m l)(c:Cd):Seen (lG c.name true m) (l++[c]):=by
 intro t;rw[Z4,List.any_append,←h t]
 grind
theorem Zd{σ:List ab}{b:Nat}(x:ab)(h:b<σ.length):aj (σ.set b x) b=x:=Zq (by simp[h])
theorem c180(cs:List Cd)(hf:ZG cs=true)(h221:∀m,nQ m cs→∀c∈cs,PC 120 [.aq (cL c) 0,.fL (jl m)] (.bool (eG cs c))) :
  PC 78 [iH cs] (.agg [iv (cE cs).1,iv (cE cs).2]):=by
 simp only[ZG,AI,fE]at hf;obtain⟨f0,f1⟩:=hf;rw[cZ]at f0;refine Xa hP g78.ok rfl rfl ?_;rw[H1.e];unfold g78;dsimp only;refine Yd rfl rfl (Za rfl (Za rfl ?_));refine Ya (λh=>?_) (λh=>?_)
 ·have h:240<cs.length:=by simp at h;omega
  refine Za rfl (Yd rfl rfl (Zs rfl ?_));rw[cE,aJ h]
 have h:¬240<cs.length:=by simp at h;omega
 rw[cE,aE h];refine Yd rfl rfl (Za rfl ?_);refine Xg (ι:=Nat) (λi vs σ=>∃m,vs=[iv i]∧aj σ 0=.box [iv 0,iv 0]∧aj σ 1=.map (jl m)∧1<σ.length∧i<=cs.length∧gX m (cs.take i)) (λi=>cs.length-i) 0 ⟨[],rfl,rfl,rfl,by simp,by omega,λt=>by simp[cu,kT]⟩ ?_;rintro i vs σ again ⟨m,rfl,hz,hm,ji,hi,hu⟩ bn;refine Za rfl (Ya (λh=>?_) (λh=>?_))
 ·have pZ:i<cs.length:=by simpa using h
  have cH:=λ(s:List ab)=>Xm s cL false false 12 cs .i64 i pZ;have k_:cs.take (i+1)=cs.take i++[cs[i]]:=Yw cs i pZ;generalize cs[i]=c at cH k_;refine Qg λk10 ry=>?_;have kk:∀m' σ',gX m' (cs.take i++[c])→aj σ' 0=.box [iv 0,iv 0]→aj σ' 1=.map (jl m')→1<σ'.length→k10 [] σ':=by
   intro m' σ' q1 q2 q3 q4;rw[ry];refine Za (Qj ..) ?_;rw[Qc (n:=i) (by omega)]
   grind
  clear ry bn;refine Za (cH _) (Za (bB (pR _)) (Qu (row:=cL c) (row':=cL c) rfl rfl rfl ?_));have dI:=Yc σ (ab.box (cL c));have td:aj (σ++[ab.box (cL c)]) 0=.box [iv 0,iv 0]:=Qb _ hz;have nA:aj (σ++[ab.box (cL c)]) 1=.map (jl m):=Qb _ hm;have lX:1<(σ++[ab.box (cL c)]).length:=by simp;omega
  generalize σ++[ab.box (cL c)]=base at dI td nA lX ⊢;generalize σ.length=b at dI ⊢;refine Za rfl (Za (ld dI rfl) (Za (Ydh nA _) (Za rfl (Za rfl (Za rfl ?_)))));refine Ya (λh=>?_) (λh=>?_)
  ·have h:(cu c.name m).isSome=false:=by simpa using h
   refine Za rfl (Za (ld dI rfl) (Za rfl (Za (ld dI rfl) (Yd (Gi nA _ _) (Ze _ lX) ?_))));exact kk _ _ (hu.new h) (Zb td (by simp) (by omega)) (Zd _ lX) (by simpa using lX)
  ·have h:(cu c.name m).isSome=true:=by simpa using h
   exact kk _ _ (hu.fQ h) td nA lX
 have h:i=cs.length:=by simp at h;omega
 subst h;rw[zAr]at hu;have lu:=h221 m hu.af;clear bn hu h221;refine Yd rfl (Xe _ _) (Za rfl ?_);have td:aj (σ++[ab.map []]) 0=.box [iv 0,iv 0]:=Qb _ hz;have nA:aj (σ++[ab.map []]) 1=.map (jl m):=Qb _ hm;have O0:aj (σ++[ab.map []]) σ.length=.map (jl []):=Yc _ _;have lX:σ.length<(σ++[ab.map []]).length:=by simp
 generalize σ++[ab.map []]=base at td nA O0 lX ⊢;generalize σ.length=b at O0 lX ji ⊢;refine Xg (ι:=Nat) (λi vs s=>∃m2,vs=[iv i]∧aj s 0=.box [iv 0,iv 0]∧aj s 1=.map (jl m)∧aj s b=.map (jl m2)∧b<s.length∧i<=cs.length∧Seen m2 (cs.take i)∧dE cs [] cs=dE cs (cs.take i) (cs.drop i)) (λi=>cs.length-i) 0 ⟨[],rfl,td,nA,O0,lX,by omega,λt=>by simp[cu],by simp⟩ ?_;clear td nA O0 lX base hz hm σ;rintro i vs s again ⟨m2,rfl,hz,hm,hs,hl,hi,BJ,hu⟩ bn;refine Za rfl (Ya (λh=>?_) (λh=>?_));rotate_left
 ·have h:i=cs.length:=by simp at h;omega
  subst h;rw[zAD,dE]at hu;refine Za rfl (Yd (cX hz rfl rfl rfl) (Ze _ (by show 0<s.length;omega)) (Zs (Xq (by show 0<s.length;omega) rfl) ?_));rw[hu]
 have pZ:i<cs.length:=by simpa using h
 have eK:cs.drop i=cs[i]::cs.drop (i+1):=by rw[gI pZ]
 have cH:=λ(s:List ab)=>Xm s cL false false 12 cs .i64 i pZ;have k_:cs.take (i+1)=cs.take i++[cs[i]]:=Yw cs i pZ;have Ky:=lu _ (AT pZ);generalize cs[i]=c at cH k_ eK Ky;rw[eK,dE,←BJ c.name]at hu;refine Za (cH _) (Za rfl (Za rfl (Za (bB (nU _)) (Za (RL hs _) ?_))));refine Ya (λh=>?_) (λh=>?_)
 ·rw[aJ h]at hu;refine Za rfl (Za rfl (Za (bB (M8 _)) (Za rfl (Yd (cX hz rfl rfl rfl) (Ze _ (by show 0<s.length;omega)) (Zs (Xq (by show 0<s.length;omega) rfl) ?_)))));rw[hu]
 rw[aE (by rw[h];simp)]at hu;refine YG Ky rfl g120.ok.plain (Yc6 hm _ _) rfl (Za rfl (Ya (λh=>?_) (λh=>?_)))
 ·have h:eG cs c=false:=by simpa using h
  rw[h]at hu
  replace hu:dE cs [] cs=(130,c.pl):=hu
  refine Za rfl (Za rfl (Za (bB (M8 _)) (Za rfl (Yd (cX hz rfl rfl rfl) (Ze _ (by show 0<s.length;omega)) (Zs (Xq (by show 0<s.length;omega) rfl) ?_)))));rw[hu]
 ·have h:eG cs c=true:=by simpa using h
  rw[h,aJ rfl]at hu;refine Za rfl (Za rfl (Za (bB (nU _)) (Yd (Gi hs _ _) (Ze _ hl) (Za (Qj ..) ?_))));rw[Qc (n:=i) (by omega)];refine bn (i+1) _ _ (by omega) ⟨_,rfl,?_,?_,Zd _ hl,by simpa using hl,by omega,by rw[k_];exact BJ.put c,by rw[k_];exact hu⟩
  ·exact Zb hz (by simp) (by omega)
  ·exact Zb hm (by simp) (by omega)
end Go.Ah.Tz
end
section
namespace Go.Ah
inductive GT:Type 1 where
 |leaf
 |node (k np:Nat) (g:fz) (l r:GT)
def GT.get:GT→Nat→Option (Nat×fz)
 |.leaf,_=>none
 |.node k np g l r,f=>match IN f k with
  |true=>some (np,g)
  |false=>match zAi f k with
   |true=>l.get f
   |false=>r.get f
def GT.Ok(P:Program)(GL:ar):GT→Prop
 |.leaf=>True
 |.node k np g l r=>mB P GL k np g∧l.Ok P GL∧r.Ok P GL
theorem GT.pW{P:Program}{GL:ar}:∀ {t:GT},t.Ok P GL→∀f np g,t.get f=some (np,g)→mB P GL f np g
 |.leaf,_,f,np,g,h=>by simp only[GT.get]at h;cases h
 |.node k np' g' l r,ok,f,np,g,h=>by
  unfold GT.get at h;obtain⟨o1,o2,o3⟩:=ok;split at h
  ·rename_i hb;have:=fV hb;subst this;cases h;exact o1
  ·split at h
   ·exact GT.pW o2 f np g h
   ·exact GT.pW o3 f np g h
end Go.Ah
end
section
namespace Go.Ah.Tz
open Go.Proofs.Tryz (prog)
set_option maxRecDepth 100000
noncomputable def tb:GT:=(.node 241 2 g241.u (.node 239 2 g239.u (.node 234 1 g234.u .leaf .leaf) (.node 240 1 g240.u .leaf .leaf)) (.node 243 2 g243.u (.node 242 2 g242.u .leaf .leaf) .leaf))
theorem Mn:tb.Ok prog aG:=⟨g241.ok,⟨g239.ok,⟨g234.ok,trivial,trivial⟩,⟨g240.ok,trivial,trivial⟩⟩,⟨g243.ok,⟨g242.ok,trivial,trivial⟩,trivial⟩⟩
set_option maxRecDepth 1000000
theorem hTm:∀f np g,tb.get f=some (np,g)→GQ f np g:=GT.pW Mn
def Lq:Tx:=[99,97,114,100,32,117,110,105,116,32,99,104,97,114,109,32,102,111,114,109,97,116,32,112,108,97,121,101,100,32,100,101,97,100,32,100,97,119,110,32,97,117,114,97,32,115,104,105,101,108,100,32,104,97,114,109,32,109,101,110,100,32,100,114,97,119,32,103,97,105,110,32,100,114,111,112,32,108,111,111,107,32,115,104,111,119,32,115,117,109,109,111,110,32,105,102,32,101,108,115,101,32,109,101,32,102,111,101,32,116,97,114,103,101,116,32,108,105,102,101,32,104,97,110,100,32,100,101,99,107,32,117,110,105,116,115,32,109,97,110,97,32,99,111,115,116,32,116,111,112,32,112,111,119,101,114,32,109,105,110,32,109,97,120,32,110,111,116,32,97,110,100,32,111,114,32,104,111,108,100,115,32,108,101,97,115,116,32,109,111,115,116,32,99,111,112,105,101,115,32,98,97,110,110,101,100,32,115,105,110,103,108,101]
theorem p264:PC 234 [.str Lq] (.aU true false 1 (jQ.map vb)):=WO hP hTm (much:=1000000000) 60 (by kernel_rfl)
def rT:List (Tx×Bool):=jQ.foldl (λm k=>lG k true m) []
theorem XbK(t:Tx):∀(l:List Tx) (m:List (Tx×Bool)),(cu t (l.foldl (λm k=>lG k true m) m)).getD false=((cu t m).getD false||ko l t)
 |[],m=>by simp[ko]
 |k::l,m=>by
  rw[List.foldl_cons,XbK t l,Z4,ko];by_cases h:t==k
  ·have e:t=k:=by simpa using h
   subst e;simp
  ·have h2:(k==t)=false:=by
    rw[zBF];intro q;apply h;simp at q;simp[q]
   rw[aE h,h2,zCR]
theorem Xed(t:Tx):(cu t rT).getD false=ko jQ t:=by
 rw[rT,XbK];rfl
attribute [local irreducible] aF.rd aF.pu aF.wr aF.dr aF.gr aF.gw aF.gl aF.gd aF.opt cI W
theorem c258:PC 219 [] (.fL (jl rT)):=by
 refine PH hP g219.ok rfl ⟨.map 0,[.map (jl rT)],?_,?_⟩
 ·show (match Zy [.map (jl rT)] (998 + 1 + 1) [.map 0]with
   |some ([y],_)=>some y
   | _=>none)=_
  have:aj [ab.map (jl rT)] 0=.map (jl rT):=rfl;simp only[Zy,this,N4,cond_true]
 unfold g219;dsimp only[H0.u];refine Yd rfl rfl (aY p264 g234.ok (Za rfl ?_));have hlen:jQ.length=41:=rfl;unfold rT;generalize jQ=l at hlen ⊢;refine Xg (ι:=Nat) (λi vs σ=>∃m,vs=[iv i]∧σ=[.map (jl m)]∧i<=l.length∧l.foldl (λm k=>lG k true m) []=(l.drop i).foldl (λm k=>lG k true m) m) (λi=>l.length-i) 0 ⟨[],rfl,rfl,by omega,by simp⟩ ?_;rintro i vs σ again ⟨m,rfl,rfl,hi,hu⟩ bn;refine Za rfl (Ya (λh=>?_) (λh=>?_))
 ·have h:i<l.length:=by simpa using h
  have eK:l.drop i=l[i]::l.drop (i+1):=by rw[gI h]
  rw[eK,List.foldl_cons]at hu;refine Za (Xm _ vb _ _ _ l .i64 i h) (Za (bB (xV _)) (Yd (Gi (b:=0) rfl _ _) rfl (Za (Qj ..) ?_)));rw[Qc (n:=i) (by omega)];exact bn (i+1) _ _ (by omega) ⟨_,rfl,rfl,by omega,hu⟩
 ·have h:i=l.length:=by simp at h;omega
  subst h;rw[zAD,List.foldl_nil]at hu;rw[hu];exact⟨rfl,rfl⟩
theorem c242(s:Tx):PC 195 [.str s] (.bool (ko jQ s)):=by
 refine Xa hP g195.ok rfl rfl ?_;rw[H1.e];unfold g195;dsimp only;refine aY c258 g219.ok (Za (XcA ..) ?_);rw[Xed]
theorem c257(x:Int):PC 218 [.int .i32 x] (.bool (jO x)):=by
 refine Xa hP g218.ok rfl rfl ?_;rw[H1.e];unfold g218;dsimp only;refine Za rfl (Cz rfl rfl ?_);exact congrArg aa.bool (by rw[zAk];simp[jO])
theorem c256(x:Int):PC 217 [.int .i32 x] (.bool (isLet x)):=by
 refine Xa hP g217.ok rfl rfl ?_;rw[H1.e];unfold g217;dsimp only;refine Za rfl (Cz rfl rfl ?_);refine Qg λk1 mW=>?_;have kk:∀c,c=decide ((97<=x∧x<=122)∨(65<=x∧x<=90))→k1 [.bool c] []:=by
  rintro c hc;rw[mW];clear mW k1;refine Ya (λh=>?_) (λh=>?_)
  ·rw[h]at hc;have hc:(97<=x∧x<=122)∨(65<=x∧x<=90):=by simpa using hc.symm
   exact congrArg aa.bool (by rw[eq_comm,isLet,fE];omega)
  rw[h]at hc;have hc:¬((97<=x∧x<=122)∨(65<=x∧x<=90)):=of_decide_eq_false hc.symm;refine Za (Ys ..) (Qg λk1 mW=>?_);have k2:∀c,c=decide (x=215∨x=247)→k1 [.bool c] []:=by
   rintro c kN;rw[mW];clear mW k1;refine Ya (λh=>?_) (λh=>?_)
   ·rw[h]at kN;have kN:x=215∨x=247:=of_decide_eq_true kN.symm;exact congrArg aa.bool (by rw[eq_comm,isLet,sG];omega)
   rw[h]at kN;have kN:¬(x=215∨x=247):=of_decide_eq_false kN.symm;refine Za rfl (Cz rfl rfl ?_);exact congrArg aa.bool (by rw[zAk,AI,isLet,fE,fE,fE];omega)
  clear mW;refine Ya (λh=>k2 _ ?_) (λh=>?_)
  ·rw[h];rw[eq_comm,fE];exact zDi (of_decide_eq_true h)
  ·have h:x≠215:=of_decide_eq_false h;refine Za (Ys ..) (k2 _ ?_);rw[zAk,fE,fE];omega
 clear mW;refine Ya (λh=>kk _ ?_) (λh=>?_)
 ·rw[h];rw[eq_comm,fE];simp at h;omega
 ·refine Za rfl (Cz rfl rfl (kk _ ?_));rw[zAk,AI,fE,fE,fE];simp at h;omega
theorem nR{p:Nat→Bool}(h:(List.range 256).all p=true){c:Nat}(hc:c<256):p c=true:=zAj.1 h c (List.mem_range.2 hc)
theorem IY{c:Nat}(hc:c<256):bits .and .i64 (c:Int) 31=((c%32:Nat):Int):=by
 have:=nR (p:=λc=>bits .and .i64 (c:Int) 31==((c%32:Nat):Int)) (by kernel_rfl) hc;simpa using this
theorem IX{c:Nat}(hc:c<256):bits .and .i64 (c:Int) 15=((c%16:Nat):Int):=by
 have:=nR (p:=λc=>bits .and .i64 (c:Int) 15==((c%16:Nat):Int)) (by kernel_rfl) hc;simpa using this
theorem S5{c:Nat}(hc:c<256):bits .and .i64 (c:Int) 7=((c%8:Nat):Int):=by
 have:=nR (p:=λc=>bits .and .i64 (c:Int) 7==((c%8:Nat):Int)) (by kernel_rfl) hc;simpa using this
theorem IZ{c:Nat}(hc:c<256):bits .and .u8 (c:Int) 63=((c%64:Nat):Int):=by
 have:=nR (p:=λc=>bits .and .u8 (c:Int) 63==((c%64:Nat):Int)) (by kernel_rfl) hc;simpa using this
theorem CE{c:Nat}(hc:c<256):(bits .and .u8 (c:Int) 192 != 128) = !(c/64==2):=by
 have:=nR (p:=λc=>(bits .and .u8 (c:Int) 192 != 128) == !(c/64==2)) (by kernel_rfl) hc;simpa using this
theorem QdQ(c:UInt8):rU c = !(c.toNat/64==2):=CE c.toNat_lt
theorem VC(q y:Nat)(hq:q<1099511627776)(hy:y<64):bits .or .i64 ((q*64:Nat):Int) (y:Int)=((q*64+y:Nat):Int):=by
 have h1:(zCt 64 ((q*64:Nat):Int)).toNat=q*64:=by
  rw[zDn];omega
 have h2:(zCt 64 (y:Int)).toNat=y:=by
  rw[zDn];omega
 have h3:q*64 ||| y=q*64+y:=by
  have:=Nat.two_pow_add_eq_or_of_lt (i:=6) (b:=y) (by omega) q;rw[show 2 ^ 6*q=q*64 by omega]at this;exact this.symm
 show BY.wrap (((zCt 64 ((q*64:Nat):Int)) ||| (zCt 64 (y:Int))).toNat:Int)=_;rw[BitVec.toNat_or,h1,h2,h3];exact br (by omega) (by omega)
theorem YdR(x:Nat)(hx:x<1099511627776)(c:UInt8):uk (x:Int) c=((x*64+c.toNat%64:Nat):Int):=by
 have e:LM (x:Int)=((x*64:Nat):Int):=by
  show BY.wrap ((x:Int)*64)=_;rw[br (by omega) (by omega)];simp
 rw[uk,e,IZ c.toNat_lt,br (by omega) (by omega)];exact VC x _ hx (Nat.mod_lt _ (by omega))
theorem Qde(s:Tx)(a:Nat)(ha:a<s.length) :
  (((dX s a).2≠0→((zBc ⟨s.toArray⟩ a).1:Int)=(dX s a).1∧(zBc ⟨s.toArray⟩ a).2=(dX s a).2)∧((dX s a).2=0→(zBc ⟨s.toArray⟩ a).1=65533)):=by
 have qz:∀k,((⟨s.toArray⟩:ByteArray).get! (a+k))=(s[a+k]?).getD 0:=by
  intro k;show (s.toArray)[a+k]! = _;simp[List.getElem!_eq_getElem?_getD];rfl
 have eL:(⟨s.toArray⟩:ByteArray).size=s.length:=by simp[ByteArray.size]
 rw[dX,zAU ha];unfold zBc;simp only[qz,eL];have h0:(s[a+0]?).getD 0=s[a]:=by simp[zAU ha]
 rw[h0];have hb:s[a].toNat<256:=s[a].toNat_lt;generalize s[a].toNat=b at hb ⊢;have OK:∀k,¬a+k<s.length→s[a+k]?=none:=λk h=>by simp;omega
 have ht:∀(i x:Nat),x<1000000→∀m,fK s a (m+1) i (x:Int)=if a+i<s.length∧((s[a+i]?).getD 0).toNat/64=2 then fK s a m (i+1) ((x*64+((s[a+i]?).getD 0).toNat%64:Nat):Int)else none:=by
  intro i x hx m;by_cases h:a+i<s.length
  ·rw[fK,zAU h];simp only[QdQ,Option.getD_some,h,true_and];by_cases h2:s[a+i].toNat/64=2
   ·simp[h2,YdR x (by omega)]
   ·simp[h2]
  ·rw[fK,OK i h];simp[h]
 have uK:∀k,(decide (a+k<s.length)&&(((s[a+k]?).getD 0).toNat/64==2))=decide (a+k<s.length∧((s[a+k]?).getD 0).toNat/64=2):=by
  intro k;rw[zAk];simp
 simp only[uK];have t1:=λx hx m=>ht 1 x hx m;have t2:=λx hx m=>ht 2 x hx m;have t3:=λx hx m=>ht 3 x hx m;clear ht uK OK qz eL h0;generalize ((s[a+1]?).getD 0).toNat=d1 at *;generalize ((s[a+2]?).getD 0).toNat=d2 at *;generalize ((s[a+3]?).getD 0).toNat=d3 at *;by_cases c1:b<128
 ·have hh:eT (b:Int)=some (1,(b:Int),0):=by
   rw[eT,aE (by omega),aE (by omega),aE (by omega),aE (by omega)]
  simp only[hh,aJ c1,zDP,fK,ia];rw[aE (by omega)];simp
 rw[aE c1];by_cases c2:b<192
 ·have hh:eT (b:Int)=none:=by
   rw[eT,aE (by omega),aE (by omega),aE (by omega),aJ (by omega)]
  simp only[hh];have e1:¬b/32=6:=by omega
  have e2:¬b/16=14:=by omega
  have e3:¬b/8=30:=by omega
  simp[e1,e2,e3,zBI]
 by_cases c3:b<224
 ·have hh:eT (b:Int)=some (2,((b%32:Nat):Int),128):=by
   rw[eT,aJ (by omega),IY hb]
  have e1:b/32=6:=by omega
  have e2:¬b/16=14:=by omega
  have e3:¬b/8=30:=by omega
  simp only[hh];rw[t1 _ (by omega) 0];by_cases p1:a+1<s.length∧d1/64=2
  ·simp only[aJ p1,fK,ia,e1,fk p1,beq_self_eq_true,zAu,if_true];by_cases y:b%32*64+d1%64 >= 128
   ·rw[aJ y,aE (by omega)];simp
   ·rw[aE y,aJ (by omega)];simp[zBI]
  ·simp only[aE p1,ia,gm p1,zBu,zBe,zAS,if_false];simp[zBI]
 by_cases c4:b<240
 ·have hh:eT (b:Int)=some (3,((b%16:Nat):Int),2048):=by
   rw[eT,aE (by omega),aJ (by omega),IX hb]
  have e1:¬b/32=6:=by omega
  have e2:b/16=14:=by omega
  have e3:¬b/8=30:=by omega
  simp only[hh];rw[t1 _ (by omega) 1];have f1:(b/32==6)=false:=by simpa using e1
  by_cases p1:a+1<s.length∧d1/64=2
  ·rw[aJ p1,t2 _ (by omega) 0];by_cases p2:a+2<s.length∧d2/64=2
   ·simp only[aJ p2,fK,ia,f1,e2,fk p1,fk p2,beq_self_eq_true,zAu,if_true,zBe,zAS,if_false];by_cases y:(b%16*64+d1%64)*64+d2%64<2048∨(55296<=(b%16*64+d1%64)*64+d2%64∧(b%16*64+d1%64)*64+d2%64<=57343)
    ·rw[aJ (by omega),aE (by simp[zDK];omega)];simp[zBI]
    ·rw[aE (by omega),aJ (by simp[zDK];omega)];simp;omega
   ·simp only[aE p2,ia,f1,gm p2,zBu,zBe,zAS,if_false];simp[zBI]
  ·simp only[aE p1,ia,f1,gm p1,zBu,zBe,zAS,if_false];simp[zBI]
 by_cases c5:b<248
 ·have hh:eT (b:Int)=some (4,((b%8:Nat):Int),65536):=by
   rw[eT,aE (by omega),aE (by omega),aJ (by omega),S5 hb]
  have e3:b/8=30:=by omega
  have f1:(b/32==6)=false:=by simp;omega
  have f2:(b/16==14)=false:=by simp;omega
  simp only[hh];rw[t1 _ (by omega) 2];by_cases p1:a+1<s.length∧d1/64=2
  ·rw[aJ p1,t2 _ (by omega) 1];by_cases p2:a+2<s.length∧d2/64=2
   ·rw[aJ p2,t3 _ (by omega) 0];by_cases p3:a+3<s.length∧d3/64=2
    ·simp only[aJ p3,fK,ia,f1,f2,e3,fk p1,fk p2,fk p3,beq_self_eq_true,zAu,if_true,zBe,zAS,if_false];by_cases y:((b%8*64+d1%64)*64+d2%64)*64+d3%64<65536∨1114111<((b%8*64+d1%64)*64+d2%64)*64+d3%64
     ·rw[aJ (by omega),aE (by simp[zDK];omega)];simp[zBI]
     ·rw[aE (by omega),aJ (by simp[zDK];omega)];simp;omega
    ·simp only[aE p3,ia,f1,f2,gm p3,zBu,zBe,zAS,if_false];simp[zBI]
   ·simp only[aE p2,ia,f1,f2,gm p2,zBu,zBe,zAS,if_false];simp[zBI]
  ·simp only[aE p1,ia,f1,f2,gm p1,zBu,zBe,zAS,if_false];simp[zBI]
 ·have hh:eT (b:Int)=none:=by
   rw[eT,aE (by omega),aE (by omega),aE (by omega),aJ (by omega)]
  simp only[hh];have e1:¬b/32=6:=by omega
  have e2:¬b/16=14:=by omega
  have e3:¬b/8=30:=by omega
  simp[e1,e2,e3,zBI]
theorem YcI(s:Tx)(a:Nat):∀(m i:Nat) (x y:Int),fK s a (m+1) i x=some y→a+i+m<s.length
 |m,i,x,y,h=>by
  rw[fK]at h;cases e:s[a+i]? with
  |none=>rw[e]at h;cases h
  |some c=>
   have hl:a+i<s.length:=(gK e).1;rw[e]at h;cases m with
   |zero=>omega
   |succ m=>
    have h2:(if rU c=true then none else fK s a (m+1) (i+1) (uk x c))=some y:=h;split at h2
    ·cases h2
    ·have:=YcI s a m (i+1) _ _ h2;omega
theorem XdR(s:Tx)(a:Nat)(ha:a<s.length)(h:(dX s a).2≠0):a+(dX s a).2<=s.length:=by
 unfold dX at h ⊢;rw[zAU ha]at h ⊢;simp only at h ⊢;cases e:eT (s[a].toNat:Int)with
 |none=>rw[e]at h;simp at h
 |some p=>
  obtain⟨n,x,least⟩:=p;rw[e]at h;simp only at h ⊢;cases e2:fK s a (n-1) 1 x with
  |none=>rw[e2]at h;simp[ia]at h
  |some y=>
   rw[e2]at h;have h3:(ia n least (some y)).2<=n:=by rw[ia];split<;>simp
   by_cases hn:n<=1
   ·omega
   ·have:=YcI s a (n-2) 1 x y (by rw[show n-2+1=n-1 by omega];exact e2);omega
set_option maxHeartbeats 1000000
theorem Zer{s:Tx}{a:Nat}(h:a<s.length):Iz [.iter 0] [.fw s a]=.ok (.bp [.bool true,iv a,.int .i32 (zBc ⟨s.toArray⟩ a).1]) [] [(0,.fw s (a+(zBc ⟨s.toArray⟩ a).2))]:=by
 have hb:zAi a s.length=true:=by simpa[Nat.blt_eq]using h
 show (bif zAi a s.length then _ else _)=_;rw[hb];rfl
theorem Zd9{s:Tx}{a:Nat}(h:¬a<s.length):Iz [.iter 0] [.fw s a]=.ok (.bp [.bool false]) [0] []:=by
 have hb:zAi a s.length=false:=by rw[zBF];intro q;exact h (by simpa[Nat.blt_eq]using q)
 show (bif zAi a s.length then _ else _)=_;rw[hb];rfl
theorem c241(s:Tx)(hs:s.length<=gn):PC 194 [.str s] (.bp [iv (ej s 0 0).1,iv (ej s 0 0).2]):=by
 rw[cZ]at hs;refine Xa hP g194.ok rfl rfl ?_;rw[H1.e];unfold g194;dsimp only;refine Yd rfl rfl (Xg (ι:=Nat) (λa vs σ=>∃n:Nat,vs=[iv n]∧σ=[.fw s a]∧n<=a∧(a=0↔n=0)∧a<=s.length∧ej s 0 0=ej s a n) (λa=>s.length-a) 0 ⟨0,rfl,rfl,by omega,by simp,by omega,rfl⟩ ?_);rintro a vs σ again ⟨n,rfl,rfl,i1,i0,i2,hu⟩ bn;by_cases h:a<s.length;rotate_left
 ·refine Yd (Zd9 h) rfl (Za rfl (Ye (Za rfl ?_)));rw[show ej s a n=(a,n) by rw[ej,dif_neg h]]at hu;rw[hu,show s.length=a by omega];rfl
 refine Yd (Zer h) rfl (Za rfl (Yh (Za rfl (Za rfl ?_))));obtain⟨d1,d2⟩:=Qde s a h;have di:=XdR s a h;generalize zBc ⟨s.toArray⟩ a=p at d1 d2 ⊢;have ir:AQ s a n↔(isLet (p.1:Int)=false∧(a=0∨(jO (p.1:Int)=false∧(p.1:Int)≠39))):=by
  unfold AQ;by_cases h0:(dX s a).2=0
  ·have:=d2 h0;rw[this];have e1:isLet 65533=false:=by decide
   have e2:jO 65533=false:=by decide
   simp[h0,e1,e2]
  ·rw[(d1 h0).1];simp[h0,i0]
 have B7:(isLet (p.1:Int)=false∧(a=0∨(jO (p.1:Int)=false∧(p.1:Int)≠39)))→aa.bp [iv a,iv n]=aa.bp [iv (ej s 0 0).1,iv (ej s 0 0).2]:=by
  intro q;rw[hu,ej,dif_pos h,dif_pos (ir.2 q)]
 have go:¬(isLet (p.1:Int)=false∧(a=0∨(jO (p.1:Int)=false∧(p.1:Int)≠39)))→VV.rd (Ym .add false [iv n,(.int .i64 1)] [.fw s (a+p.2)]) λt31=>again [t31] [.fw s (a+p.2)]:=by
  intro q;have q2:¬AQ s a n:=λz=>q (ir.1 z);have h0:(dX s a).2≠0:=λe=>q2 (zDi e);have:=(d1 h0).2;have:=di h0;refine Za (Qj ..) ?_;rw[Qc (n:=n) (by omega)];refine bn (a+p.2) _ _ (by omega) ⟨n+1,rfl,rfl,by omega,by omega,by omega,?_⟩;rw[hu,ej,dif_pos h,dif_neg q2,(d1 h0).2]
 clear bn hu ir d1 d2 di;generalize (p.1:Int)=r at B7 go ⊢;refine aY (c256 r) g217.ok (Za rfl ?_);rcases cA (!isLet r)with h1|h1
 rotate_left
 ·rw[h1];repeat first|refine Qa ?_|refine Yq ?_|refine Zc rfl ?_|refine Yx rfl ?_|refine QT rfl ?_|refine ZW rfl ?_|refine Za rfl ?_
  exact Ye (go (by have h1:isLet r=true:=(by simpa using h1);simp[h1]))
 rw[h1];have h1:isLet r=false:=by simpa using h1
 refine ay ?_;rcases cA ((a:Int)==0)with h2|h2
 ·rw[h2];refine ay ?_;exact B7 ⟨h1,zDi (by simpa using h2)⟩
 rw[h2];have h2:a≠0:=by simpa using h2
 refine ay ?_;refine aY (c257 r) g218.ok ?_;refine ay ?_;rcases cA (!jO r)with h3|h3
 rotate_left
 ·rw[h3];repeat first|refine Qa ?_|refine Yq ?_|refine Zc rfl ?_|refine Yx rfl ?_|refine QT rfl ?_|refine ZW rfl ?_|refine Za rfl ?_
  exact Ye (go (by have h3:jO r=true:=(by simpa using h3);simp[h2,h3]))
 rw[h3];have h3:jO r=false:=by simpa using h3
 refine ay ?_;refine Ya (λh4=>B7 ⟨h1,Or.inr ⟨h3,by simpa using h4⟩⟩) (λh4=>go ?_);have h4:r=39:=by simpa using h4
 simp[h2,h4]
theorem c223(s:Tx)(hs:s.length<=gn):PC 167 [.str s] (.bool (ez s)):=by
 refine Xa hP g167.ok rfl rfl ?_;rw[H1.e];unfold g167;dsimp only;refine aY (c241 s hs) g194.ok ?_;unfold ez;generalize (ej s 0 0).1=e;generalize (ej s 0 0).2=n;refine ay ?_;rcases cA (decide ((n:Int)>0))with h1|h1
 rotate_left
 ·rw[h1];refine ay ?_;have h1:¬1<=n:=by simp at h1;omega
  simp[h1]
 rw[h1];refine ay ?_;rcases cA (decide ((n:Int)<=24))with h2|h2
 rotate_left
 ·rw[h2];refine ay ?_;have h2:¬n<=24:=by simp at h2;omega
  simp[h2]
 rw[h2];refine ay ?_;rcases cA ((e:Int)==(s.length:Int))with h3|h3
 rotate_left
 ·rw[h3];refine ay ?_;have h3:¬e=s.length:=by simp at h3;omega
  simp[h3]
 rw[h3];refine ay ?_;have h3:e=s.length:=by simp at h3;omega
 subst h3;rcases cA (decide ((s.length:Int)<=40))with h4|h4
 rotate_left
 ·rw[h4];refine ay ?_;have h4:¬s.length<=40:=by simp at h4;omega
  simp[h4]
 rw[h4];refine ay (aY (c242 _) g195.ok (ay ?_));have h1:1<=n:=by simp at h1;omega
 have h2:n<=24:=by simp at h2;omega
 have h4:s.length<=40:=by simp at h4;omega
 simp[h1,h2,h4]
theorem Yb7(a:Int):mz a=0∨mz a=1∨mz a=2∨mz a=3:=by unfold mz;split<;>omega
theorem c252(a:Int):PC 230 [aN a] (aN (mz a)):=by
 refine Xa hP g230.ok rfl rfl ?_;rw[H1.e];unfold g230;dsimp only;refine Za rfl (ZL rfl rfl ?_);refine Ya (λh=>?_) (λh=>?_)
 ·rw[mz,aJ (by simpa using h)]
 ·rw[mz,aE (by simpa using h)]
def La:aa:=.agg [aN 0,aN 1,aN 2,aN 3,aN 1,aN 1,aN 3,aN 3,aN 2,aN 3,aN 2,aN 3,aN 3,aN 3,aN 3,aN 3]
theorem c263:PC 238 [] La:=by
 refine Xa hP g238.ok rfl rfl ?_;unfold g238;dsimp only[H0.u];refine Yd rfl rfl (Za rfl (Za rfl (Za rfl (Za rfl (Za rfl (Yd rfl rfl (Zs rfl ?_)))))));rfl
theorem c250(a b:Int):PC 228 [aN a,aN b] (aN (dw a b)):=by
 refine Xa hP g228.ok rfl rfl ?_;rw[H2.e];unfold g228;dsimp only;refine Y9 c263 g238.ok (Y9 (c252 a) g230.ok ?_);have h1:=Yb7 a;have h2:=Yb7 b;unfold dw;have k:=c252 b;generalize mz a=p at h1 ⊢;generalize mz b=q at h2 k ⊢;rcases h1 with h1|h1|h1|h1<;>subst h1<;>refine Zi rfl ?_<;>refine Y9 k g230.ok ?_<;>rcases h2 with h2|h2|h2|h2<;>subst h2<;>exact Zi rfl (Zw (by kernel_rfl) rfl)
theorem c253(a b:Int):PC 231 [aN a,aN b] (.bool (decide (dw a b=mz b))):=by
 refine Xa hP g231.ok rfl rfl ?_;rw[H2.e];unfold g231;dsimp only;refine aY (c250 a b) g228.ok (aY (c252 b) g230.ok (Za (Ys ..) ?_));rfl
theorem YbD(b:Int):dw b b=mz b:=by rw[dw,aJ (zDi rfl)]
theorem Yed(x:Nm):ti x=if x.op=6 then 3 else if 8<=x.op∧x.op<=12 then iX 0 x.kids else 0:=by
 rw[WS];by_cases h:x.op=6
 ·rw[aE (by omega),aJ h,aJ h]
 ·rw[aE h,aE h]
theorem A':∀(k:Nat) (x:Nm),zAT x<=k→cW x=true→PC 229 [.agg (c8 x)] (aN (ti x))
 |0,x,h,_=>by cases x;simp at h
 |k+1,x,hk,hf=>by
  rw[QA];refine Xa hP g229.ok rfl rfl ?_;rw[H1.e];unfold g229;dsimp only;refine Yd rfl rfl ?_;rw[Yed];have hlen:=HN hf;rw[cZ]at hlen;generalize hB:([]++[ab.box [aN x.op,iv x.n,aN x.who,.aU false false 4 (x.kids.map c8)]]:List ab)=base;have dI:aj base 0=.box [aN x.op,iv x.n,aN x.who,.aU false false 4 (x.kids.map c8)]:=by rw[←hB];rfl
  clear hB;refine Za rfl (Za (ld dI rfl) (Za (Ys ..) ?_));refine Ya (λh=>?_) (λh=>?_)
  ·rw[aJ (by simpa using h)]
  rw[aE (by simpa using h)];refine Za rfl (Za (ld dI rfl) (Za rfl ?_));refine GG rfl (ld dI rfl) rfl ?_;rw[show (decide (x.op >= 8)&&decide (x.op<=12))=decide (8<=x.op∧x.op<=12) by simp];refine Ya (λh=>?_) (λh=>?_);rotate_left
  ·rw[aE (by simpa using h)]
  rw[aJ (by simpa using h)];refine Za rfl (Za (ld dI rfl) (Za rfl ?_));clear dI;refine Xg (ι:=Nat) (λi vs σ=>∃n,vs=[iv i,aN n]∧i<=x.kids.length∧iX 0 x.kids=iX n (x.kids.drop i)) (λi=>x.kids.length-i) 0 ⟨0,rfl,by omega,by simp⟩ ?_;rintro i vs σ again ⟨n,rfl,hi,hu⟩ bn;refine Za rfl (Ya (λh=>?_) (λh=>?_))
  ·have h:i<x.kids.length:=by simpa using h
   have eK:x.kids.drop i=x.kids[i]::x.kids.drop (i+1):=by rw[gI h]
   rw[eK,iX]at hu;have hm:x.kids[i]∈x.kids:=AT h;have cH:=λ(s:List ab)=>Xm s c8 false false 4 x.kids .i64 i h;have eL:=AK hm;have BC:=XY hf hm;generalize x.kids[i]=y at hu cH eL BC;refine Za (cH _) (Za (bB (rR _)) ?_);refine Qu (row:=[aN y.op,iv y.n,aN y.who,.aU false false 4 (y.kids.map c8)]) (row':=[aN y.op,iv y.n,aN y.who,.aU false false 4 (y.kids.map c8)]) (by rw[QA];rfl) rfl rfl ?_;have je:=Yc σ (ab.box [aN y.op,iv y.n,aN y.who,.aU false false 4 (y.kids.map c8)]);have hN:Qe true 4 [.ak σ.length 0] (σ++[ab.box [aN y.op,iv y.n,aN y.who,.aU false false 4 (y.kids.map c8)]])=.ok (.agg (c8 y)) [σ.length] []:=ld je (by rw[QA];rfl);refine Za hN (Yo (A' k y (by omega) BC) rfl g229.ok.plain (mM _) (aY (c250 _ _) g228.ok (Za (Qj ..) ?_)));rw[Qc (n:=i) (by omega)];exact bn (i+1) _ _ (by omega) ⟨_,rfl,by omega,hu⟩
  ·have h:i=x.kids.length:=by simp at h;omega
   subst h;rw[zAD,iX]at hu;rw[hu];rfl
theorem c251(x:Nm)(hf:cW x=true):PC 229 [.agg (c8 x)] (aN (ti x)):=A' _ x (IT _) hf
theorem Ba:∀(k:Nat) (x:Cn),zAT x<=k→cG x=true→PC 232 [.agg (f_ x)] (aN (sP x))
 |0,x,h,_=>by cases x;simp at h
 |k+1,x,hk,hf=>by
  rw[XE];refine Xa hP g232.ok rfl rfl ?_;rw[H1.e];unfold g232;dsimp only;refine Yd rfl rfl ?_;rw[YdW];have gk:=Y3 hf;have dU:=Z3 hf;rw[cZ]at gk dU;generalize hB:([]++[ab.box [aN x.op,aN x.who,.str x.name,.aU false false 4 (x.aC.map c8),.aU false false 5 (x.kids.map f_)]]:List ab)=base;have dI:aj base 0=.box [aN x.op,aN x.who,.str x.name,.aU false false 4 (x.aC.map c8),.aU false false 5 (x.kids.map f_)]:=by rw[←hB];rfl
  clear hB;refine Za rfl (Za (ld dI rfl) (Za (Ys ..) ?_));refine Ya (λh=>?_) (λh=>?_)
  ·rw[aJ (by simpa using h)];refine Za rfl (Za (ld dI rfl) (Za (Ys ..) ?_));refine Ya (λh=>?_) (λh=>?_)
   ·rw[aJ (by simpa using h)]
   rw[aE (by simpa using h)];refine Za (Ys ..) (Ya (λh=>?_) (λh=>?_))
   ·rw[aJ (by simpa using h)]
   ·rw[aE (by simpa using h)]
  rw[aE (by simpa using h)];refine Za rfl (Za (ld dI rfl) (Za rfl ?_));refine Xg (ι:=Nat) (λi vs σ=>∃n,vs=[iv i,aN n]∧aj σ 0=.box [aN x.op,aN x.who,.str x.name,.aU false false 4 (x.aC.map c8),.aU false false 5 (x.kids.map f_)]∧i<=x.aC.length∧iX 0 x.aC=iX n (x.aC.drop i)) (λi=>x.aC.length-i) 0 ⟨0,rfl,dI,by omega,by simp⟩ ?_;rintro i vs σ again ⟨n,rfl,dI,hi,hu⟩ bn;refine Za rfl (Ya (λh=>?_) (λh=>?_))
  ·have h:i<x.aC.length:=by simpa using h
   have eK:x.aC.drop i=x.aC[i]::x.aC.drop (i+1):=by rw[gI h]
   rw[eK,iX]at hu;have hm:x.aC[i]∈x.aC:=AT h;have cH:=λ(s:List ab)=>Xm s c8 false false 4 x.aC .i64 i h;have BC:=Y5 hf hm;generalize x.aC[i]=y at hu cH BC;refine Za (cH _) (Za (bB (rR _)) ?_);refine Qu (row:=[aN y.op,iv y.n,aN y.who,.aU false false 4 (y.kids.map c8)]) (row':=[aN y.op,iv y.n,aN y.who,.aU false false 4 (y.kids.map c8)]) (by rw[QA];rfl) rfl rfl ?_;have je:=Yc σ (ab.box [aN y.op,iv y.n,aN y.who,.aU false false 4 (y.kids.map c8)]);have hN:Qe true 4 [.ak σ.length 0] (σ++[ab.box [aN y.op,iv y.n,aN y.who,.aU false false 4 (y.kids.map c8)]])=.ok (.agg (c8 y)) [σ.length] []:=ld je (by rw[QA];rfl);refine Za hN (Yo (c251 y BC) rfl g229.ok.plain (mM _) (aY (c250 _ _) g228.ok (Za (Qj ..) ?_)));rw[Qc (n:=i) (by omega)];exact bn (i+1) _ _ (by omega) ⟨_,rfl,Qb _ dI,by omega,hu⟩
  have h:i=x.aC.length:=by simp at h;omega
  subst h;rw[zAD,iX]at hu;rw[hu];clear bn hu hi;refine Za rfl (Za (ld dI rfl) (Za rfl ?_));refine Xg (ι:=Nat) (λi vs s=>∃m,vs=[iv i,aN m]∧i<=x.kids.length∧nW n x.kids=nW m (x.kids.drop i)) (λi=>x.kids.length-i) 0 ⟨n,rfl,by omega,by simp⟩ ?_;rintro i vs s again ⟨m,rfl,hi,hu⟩ bn;refine Za rfl (Ya (λh=>?_) (λh=>?_))
  ·have h:i<x.kids.length:=by simpa using h
   have eK:x.kids.drop i=x.kids[i]::x.kids.drop (i+1):=by rw[gI h]
   rw[eK,nW]at hu;have hm:x.kids[i]∈x.kids:=AT h;have cH:=λ(s:List ab)=>Xm s f_ false false 5 x.kids .i64 i h;have BC:=Z5 hf hm;have eL:=Cw hm;generalize x.kids[i]=y at hu cH BC eL;refine Za (cH _) (Za (bB (zo _)) ?_);refine Qu (row:=[aN y.op,aN y.who,.str y.name,.aU false false 4 (y.aC.map c8),.aU false false 5 (y.kids.map f_)]) (row':=[aN y.op,aN y.who,.str y.name,.aU false false 4 (y.aC.map c8),.aU false false 5 (y.kids.map f_)]) (by rw[XE];rfl) rfl rfl ?_;have je:=Yc s (ab.box [aN y.op,aN y.who,.str y.name,.aU false false 4 (y.aC.map c8),.aU false false 5 (y.kids.map f_)]);have hN:Qe true 5 [.ak s.length 0] (s++[ab.box [aN y.op,aN y.who,.str y.name,.aU false false 4 (y.aC.map c8),.aU false false 5 (y.kids.map f_)]])=.ok (.agg (f_ y)) [s.length] []:=ld je (by rw[XE];rfl);refine Za hN (Yo (Ba k y (by omega) BC) rfl g232.ok.plain (qW _) (aY (c250 _ _) g228.ok (Za (Qj ..) ?_)));rw[Qc (n:=i) (by omega)];exact bn (i+1) _ _ (by omega) ⟨_,rfl,by omega,hu⟩
  ·have h:i=x.kids.length:=by simp at h;omega
   subst h;rw[zAD,nW]at hu;rw[hu];rfl
theorem c254(x:Cn)(hf:cG x=true):PC 232 [.agg (f_ x)] (aN (sP x)):=Ba _ x (IT _) hf
theorem TF(u:Int)(x:Ef):ga [.agg [aN u],.agg (bj x)]=true:=by rw[Zr];rfl
theorem c235(u:Int)(x:Ef)(hf:dS x=true):PC 211 [.agg [aN u],.agg (bj x)] (.bool (decide (dw u (ti x.n)=0))):=by
 rw[Zr];refine Xa hP g211.ok rfl rfl ?_;rw[H2.e];unfold g211;dsimp only;refine Yd rfl rfl (Yd rfl rfl (Zi rfl (Xf rfl rfl (Zi rfl (Xf (ld (v:=.agg (c8 x.n)) rfl (by rw[QA];rfl)) rfl ?_)))));exact Yt (c251 _ (zh hf)) rfl g229.ok.plain (mM _) (Y9 (c250 _ _) g228.ok (Zi (Ys ..) (Zw (by kernel_rfl) rfl)))
theorem c236(u:Int)(x:Ef):PC 212 [.agg [aN u],.agg (bj x)] (.bool (decide (mz u=0))):=by
 rw[Zr];refine Xa hP g212.ok rfl rfl ?_;rw[H2.e];unfold g212;dsimp only;refine Yd rfl rfl (Yd rfl rfl (Za rfl (Za rfl ?_)));exact aY (c252 _) g230.ok (Za (Ys ..) rfl)
theorem c237(u:Int)(x:Ef)(hf:dS x=true):PC 213 [.agg [aN u],.agg (bj x)] (.bool (GO (dw u (ti x.n)) 1)):=by
 rw[Zr];refine Xa hP g213.ok rfl rfl ?_;rw[H2.e];unfold g213;dsimp only;refine Yd rfl rfl (Yd rfl rfl (Zi rfl (Xf rfl rfl (Zi rfl (Xf (ld (v:=.agg (c8 x.n)) rfl (by rw[QA];rfl)) rfl ?_)))));refine Yt (c251 _ (zh hf)) rfl g229.ok.plain (mM _) (Y9 (c250 _ _) g228.ok (Y9 (c253 _ _) g231.ok (Zw (by kernel_rfl) ?_)));rw[GO,YbD]
theorem Yf{σ:List ab}(l:List ab){c:Nat}(h:c<σ.length):aj (σ++l) c=aj σ c:=by
 simp_all [Zq,List.getElem?_append_left]
theorem Xc{σ:List ab}{b c:Nat}(x:ab)(h:c<σ.length)(hc:c≠b):aj (σ.set b x) c=aj σ c:=by
 have h1:=PD h;exact Zq (by grind)
def Gr(σ0:List ab)(n:Nat)(rows:List (List aa))(k:Nat)(v:aa)(σ:List ab):Prop:=
 σ0.length<=σ.length∧(∀c,c<σ0.length→aj σ c=aj σ0 c)∧((k=0∧v=.an∧rows=[])∨(0<k∧∃b,σ0.length<=b∧v=.sl b 0 k false∧aj σ b=.rows n rows∧rows.length=k))
theorem Gr.nil(n:Nat)(σ:List ab):Gr σ n [] 0 .an σ:=⟨IT _,λ_ _=>rfl,.inl ⟨rfl,rfl,rfl⟩⟩
theorem Gr.JK{σ0 σ:List ab}{n k:Nat}{rows:List (List aa)}{v:aa}(h:Gr σ0 n rows k v σ):ed n rows k v σ:=by
 rcases h.2.2 with h|⟨h1,b,_,h2,h3,h4⟩
 ·exact .inl h
 ·exact .inr ⟨h1,b,h2,h3,h4⟩
theorem Gr.fQ{σ0 σ:List ab}{n k:Nat}{rows:List (List aa)}{v:aa}(h:Gr σ0 n rows k v σ){c:Nat}{x:ab}(hx:aj σ0 c=x)(hd:x≠.dead):aj σ c=x:=by
 rw[h.2.1 c (Yb hx hd)];exact hx
theorem Gr.base{σ0 σ:List ab}{l:List ab}{n k:Nat}{rows:List (List aa)}{v:aa}(h:Gr (σ0++l) n rows k v σ):Gr σ0 n rows k v σ:=by
 obtain⟨h1,h2,h3⟩:=h;simp only[By]at h1 h2 h3;refine⟨by omega,λc hc=>?_,?_⟩
 ·rw[h2 c (by omega),Yf l hc]
 grind
theorem Gr.put{σ0 σ:List ab}{n by_ k:Nat}{rows:List (List aa)}{v:aa}{z cs:List aa}{x:aa}(hg:Gr σ0 n rows k v σ)(hx:fill z [(0,n)] [x]=some cs)(hc:chunk n 1 cs=some [cs])(hr:cs.all aa.cell=true)(bM:(2*(k+1)+192)*by_<=2 ^ 48){K:KT}
 (hK:∀v' σ',Gr σ0 n (rows++[cs]) (k+1) v' σ'→K v' σ'):VV.wr (Yp n 1 z [(0,n)] [x] σ) σ (λt σ=>VV.wr (Qf n by_ [v,t] σ) σ K):=by
 rw[GI _ _ _ _ _ cs hx hc];obtain⟨g1,g2,hg⟩:=hg;rcases hg with ⟨rfl,rfl,rfl⟩|⟨hk,b,zy,rfl,hb,hl⟩
 ·rw[RK _ n by_ σ cs hr (by simpa using bM)];refine hK _ _ ⟨by simp;omega,λc hc=>?_,.inr ⟨by omega,_,?_,rfl,by have:=Yc (σ++[.rows n [cs]]) (.rows n [cs]);simpa using this,rfl⟩⟩
  ·rw[Yf _ (by simp;omega),Yf _ (by omega),g2 c hc]
  ·omega
 ·rw[Il _ n by_ σ b k false rows cs hb hl hr bM];refine hK _ _ ⟨by simp;omega,λc hc=>?_,.inr ⟨by omega,_,?_,rfl,?_,by simp[hl]⟩⟩
  ·rw[Yf _ (by simp;omega),Yf _ (by simp;omega),Xc _ (by omega) (by omega),g2 c hc]
  ·omega
  ·have:=Yc (σ.set b .dead++[.rows n [cs]]) (.rows n (rows++[cs]));simpa using this
inductive Pt where
 |ef (x:Ef)
 |nm (x:Nm)
 |cn (x:Cn)
inductive Cb:aa→Pt→Prop
 |ef (x:Ef):Cb (.iface 292 (.agg [.aq (bj x) 0])) (.ef x)
 |nm (row:List aa) (j:Nat) (x:Nm):na row j x→Cb (.iface 303 (.agg [.aq row j])) (.nm x)
 |cn (row:List aa) (j:Nat) (x:Cn):sA row j x→Cb (.iface 305 (.agg [.aq row j])) (.cn x)
def Pt.kids:Pt→List Pt
 |.ef x=>(if cq x.op then [.nm x.n]else [])++(if x.op=8 then .cn x.c::(x.bP.map .ef++x.bS.map .ef)else [])
 |.nm x=>x.kids.map .nm
 |.cn x=>x.aC.map .nm++x.kids.map .cn
def Pt.fit:Pt→Bool
 |.ef x=>dS x
 |.nm x=>cW x
 |.cn x=>cG x
mutual
def qI:Nm→List Pt
 |.mk op n who kids=>.nm (.mk op n who kids)::oP kids
def oP:List Nm→List Pt
 |[]=>[]
 |x::l=>qI x++oP l
end
mutual
def qx:Cn→List Pt
 |.mk op who name aC kids=>.cn (.mk op who name aC kids)::(oP aC++pS kids)
def pS:List Cn→List Pt
 |[]=>[]
 |x::l=>qx x++pS l
end
mutual
def iA:Ef→List Pt
 |.mk op who n name c bP bS=>.ef (.mk op who n name c bP bS)::((if cq op then qI n else [])++(if op=8 then qx c++(bw bP++bw bS)else []))
def bw:List Ef→List Pt
 |[]=>[]
 |x::l=>iA x++bw l
end
def flat:Pt→List Pt
 |.ef x=>iA x
 |.nm x=>qI x
 |.cn x=>qx x
def dT:List Pt→List Pt
 |[]=>[]
 |p::l=>flat p++dT l
theorem NU:∀a b,dT (a++b)=dT a++dT b
 |[],b=>rfl
 |p::a,b=>by simp[dT,NU a b]
theorem Pw:∀l,dT (l.map .nm)=oP l
 |[]=>rfl
 |x::l=>by simp[dT,Pw l,flat,oP]
theorem XcC:∀l,dT (l.map .cn)=pS l
 |[]=>rfl
 |x::l=>by simp[dT,XcC l,flat,pS]
theorem Hs:∀l,dT (l.map .ef)=bw l
 |[]=>rfl
 |x::l=>by simp[dT,Hs l,flat,bw]
theorem W1(p:Pt):flat p=p::dT p.kids:=by
 cases p with
 |ef x=>
  obtain⟨op,who,n,name,c,bP,bS⟩:=x;have e:Pt.kids (.ef (.mk op who n name c bP bS))=(if cq op then [.nm n]else [])++(if op=8 then .cn c::(bP.map .ef++bS.map .ef)else []):=rfl;rw[e,NU];simp only[flat,iA]
  congr 2
  ·by_cases h:cq op=true<;>simp[h,dT,flat]
  ·by_cases h:op=8<;>simp[h,dT,flat,NU,Hs]
 |nm x=>cases x;simp[flat,qI,Pt.kids,Nm.kids,Pw]
 |cn x=>cases x;simp[flat,qx,Pt.kids,Cn.aC,Cn.kids,NU,Pw,XcC]
theorem YcC(p:Pt):0<(flat p).length:=by rw[W1];simp
theorem SC:∀ {l:List Pt} {p:Pt},p∈l→(flat p).length<=(dT l).length
 |q::l,p,h=>by
  simp only[dT,By];rcases zAR.1 h with rfl|h
  ·omega
  ·have:=SC h;omega
theorem PB:∀l:List Pt,l.length<=(dT l).length
 |[]=>by simp
 |p::l=>by
  have:=PB l;have:=YcC p;simp[dT];omega
theorem Xeb{p q:Pt}(h:p.fit=true)(hq:q∈p.kids):q.fit=true:=by
 cases p with
 |ef x=>
  simp only[Pt.kids,zAI]at hq;rcases hq with hq|hq
  ·split at hq
   ·simp at hq;subst hq;exact zh h
   ·simp at hq
  ·split at hq
   ·simp only[zAR,zAI,zAt]at hq;rcases hq with rfl|⟨y,hy,rfl⟩|⟨y,hy,rfl⟩
    ·exact Y6 h
    ·exact QN (XN h) hy
    ·exact QN (YN h) hy
   ·simp at hq
 |nm x=>
  simp only[Pt.kids,zAt]at hq;obtain⟨y,hy,rfl⟩:=hq;exact XY h hy
 |cn x=>
  simp only[Pt.kids,zAI,zAt]at hq;rcases hq with ⟨y,hy,rfl⟩|⟨y,hy,rfl⟩
  ·exact Y5 h hy
  ·exact Z5 h hy
def gh{S:Type}(step:S→Pt→S×Bool):S→List Pt→S×Bool
 |s,[]=>(s,true)
 |s,p::l=>if (step s p).2=true then gh step (step s p).1 l else ((step s p).1,false)
theorem NW{S:Type}(step:S→Pt→S×Bool):∀(a:List Pt) (s:S) (b:List Pt),gh step s (a++b)=if (gh step s a).2=true then gh step (gh step s a).1 b else ((gh step s a).1,false)
 |[],s,b=>by simp[gh]
 |p::a,s,b=>by
  simp only[zAL,gh];by_cases h:(step s p).2=true<;>simp_all [NW]
def Bt(b:Nat)(σ σ':List ab):Prop:=σ.length<=σ'.length∧∀c,c<σ.length→c≠b→aj σ' c=aj σ c
theorem Bt.refl(b:Nat)(σ:List ab):Bt b σ σ:=⟨IT _,λ_ _ _=>rfl⟩
theorem Bt.trans{b:Nat}{x y z:List ab}(h:Bt b x y)(k:Bt b y z):Bt b x z:=⟨Nat.le_trans h.1 k.1,λc hc hb=>by rw[k.2 c (by have:=h.1;omega) hb,h.2 c hc hb]⟩
theorem Bt.fQ{b:Nat}{σ σ':List ab}(h:Bt b σ σ'){c:Nat}{x:ab}(hx:aj σ c=x)(hd:x≠.dead)(hc:c≠b):aj σ' c=x:=by
 rw[h.2 c (Yb hx hd) hc];exact hx
theorem Bt.gr{σ σ':List ab}(b:Nat)(h1:σ.length<=σ'.length)(h:∀c,c<σ.length→aj σ' c=aj σ c):Bt b σ σ':=⟨h1,λc hc _=>h c hc⟩
def ME{S:Type}(yk:aa)(b:Nat)(enc:S→List aa)(step:S→Pt→S×Bool):Prop:=
 ∀p v,Cb v p→∀s σ K,aj σ b=.box (enc s)→(∀σ',Bt b σ σ'→aj σ' b=.box (enc (step s p).1)→K (.bool (step s p).2) σ')→VV.call .jZ [yk,v] σ K
inductive nN:List aa→List Pt→Prop
 |nil:nN [] []
 |snoc (vs:List aa) (ps:List Pt) (v:aa) (p:Pt):nN vs ps→Cb v p→nN (vs++[v]) (ps++[p])
theorem nN.length{vs:List aa}{ps:List Pt}(h:nN vs ps):vs.length=ps.length:=by
 induction h<;>simp_all
theorem nN.get{vs:List aa}{ps:List Pt}(h:nN vs ps):∀i (h1:i<vs.length) (h2:i<ps.length),Cb vs[i] ps[i]:=by
 induction h with
 |nil=>intro i h;simp at h
 |snoc vs ps v p h hv ih=>
  intro i h1 h2;have hl:=h.length
  grind
def one(v:aa):List aa:=[v]
set_option maxHeartbeats 2000000
def lh(x:Ef):List aa:=[.iface 292 (.agg [.aq (bj x) 0])]
def mL(x:Nm):List aa:=[.iface 303 (.agg [.aq (c8 x) 0])]
def pT(x:Cn):List aa:=[.iface 305 (.agg [.aq (f_ x) 0])]
theorem Yev{σ0 σ:List ab}{k:Nat}{rows:List (List aa)}{v:aa}(l:List Ef)(hl:k+l.length<=1000000000)(hg:Gr σ0 1 rows k v σ){K:mC}
 (hK:∀v' σ' w,Gr σ0 1 (rows++l.map lh) (k+l.length) v' σ'→K [w,v'] σ') :
  VV.loop (λag v55 σ=>VV.rd (Ym .lss false [(h0 v55),iv l.length] σ) λFs=>VV.test Fs (
   VV.rd (Qh 14 [gY l,(h0 v55)] σ) λFw=>VV.rd (QM [.fj] [(0,1)] [Fw] σ) λFx=>VV.rd (XF 292 [Fx] σ) λFy=>
   VV.wr (Yp 1 1 [.dp] [(0,1)] [Fy] σ) σ λFA σ=>VV.wr (Qf 1 16 [(h1 v55),FA] σ) σ λFB σ=>
   VV.rd (Ym .add false [(h0 v55),(.int .i64 1)] σ) λqu=>ag [qu,FB] σ) (K v55 σ)) [(.int .i64 0),v] σ:=by
 refine Xg (ι:=Nat) (λi vs s=>∃v,vs=[iv i,v]∧i<=l.length∧Gr σ0 1 (rows++(l.take i).map lh) (k+i) v s) (λi=>l.length-i) 0 ⟨v,rfl,by omega,by simpa using hg⟩ ?_;rintro i vs s again ⟨v,rfl,hi,hg⟩ bn;refine Za rfl (YS (λh=>?_) (λh=>?_))
 ·refine Za (Xm _ bj _ _ _ l _ i h) (Za rfl (Za rfl ?_));refine hg.put (cs:=lh l[i]) rfl rfl rfl (by omega) (λv' σ' tY=>?_);refine Za (Qj ..) ?_;rw[Qc (n:=i) (by omega)];refine bn (i+1) _ _ (by omega) ⟨v',rfl,by omega,?_⟩
  grind [YL]
 grind
theorem Br{vs:List aa}{ps:List Pt}(h:nN vs ps):∀l:List Ef,nN (vs++(l.map lh).flatten) (ps++l.map .ef):=by
 intro l
 induction l generalizing vs ps with
 |nil=>simpa using h
 |cons x l ih=>
  have:=ih (nN.snoc _ _ _ _ h (.ef x));simpa[lh]using this
theorem BU{vs:List aa}{ps:List Pt}(h:nN vs ps):∀l:List Nm,nN (vs++(l.map mL).flatten) (ps++l.map .nm):=by
 intro l
 induction l generalizing vs ps with
 |nil=>simpa using h
 |cons x l ih=>
  have:=ih (nN.snoc _ _ _ _ h (.nm (c8 x) 0 x (qm x)));simpa[mL]using this
theorem Jk{vs:List aa}{ps:List Pt}(h:nN vs ps):∀l:List Cn,nN (vs++(l.map pT).flatten) (ps++l.map .cn):=by
 intro l
 induction l generalizing vs ps with
 |nil=>simpa using h
 |cons x l ih=>
  have:=ih (nN.snoc _ _ _ _ h (.cn (f_ x) 0 x (zn x)));simpa[pT]using this
theorem NN{α:Type}{f:α→List aa}(h:∀x,∃v,f x=[v]):∀l:List α,l.map f=((l.map f).flatten).map one
 |[]=>rfl
 |x::l=>by
  obtain⟨v,hv⟩:=h x;have:=NN h l
  grind [one]
theorem Ob(l:List Ef):l.map lh=((l.map lh).flatten).map one:=NN (λ_=>⟨_,rfl⟩) l
theorem ZcH(l:List Nm):l.map mL=((l.map mL).flatten).map one:=NN (λ_=>⟨_,rfl⟩) l
theorem XdP(l:List Cn):l.map pT=((l.map pT).flatten).map one:=NN (λ_=>⟨_,rfl⟩) l
theorem c208{S:Type}{enc:S→List aa}{step:S→Pt→S×Bool}{yk:aa}{b:Nat}(hc:ME yk b enc step):∀(k:Nat) (p:Pt),(flat p).length<=k→p.fit=true→(flat p).length<=500000000→∀v,Cb v p→∀s σ K,aj σ b=.box (enc s) →
  (∀σ',Bt b σ σ'→aj σ' b=.box (enc (gh step s (flat p)).1)→K (.bool (gh step s (flat p)).2) σ')→g220.u VV [v,yk] σ K
 |0,p,h,_,_=>by have:=YcC p;omega
 |k+1,p,hk,hf,hN=>by
  intro v hv s σ K hb hK;rw[W1]at hk hN hK;simp only[IS]at hk hN;have mw:=PB p.kids;rw[H2.e];unfold g220;dsimp only;refine hc p v hv s σ _ hb (λσ1 t1 b1=>?_);simp only[gh]at hK;refine Za rfl (Ya (λh=>?_) (λh=>?_))
  ·simp_all
  have h:(step s p).2=true:=by simpa using h
  rw[h,aJ rfl]at hK;generalize (step s p).1=s1 at hK b1;refine Qg λk2 sr=>?_;have kk:∀v2 σ2 vs,nN vs p.kids→Gr σ1 1 (vs.map one) vs.length v2 σ2→k2 [v2] σ2:=by
   intro v2 σ2 vs hp hg;rw[sr];clear sr k2;have hlen:=hp.length;have lV:=hg.fQ b1 (by simp);have t2:Bt b σ1 σ2:=⟨hg.1,λc hc _=>hg.2.1 c hc⟩;refine Za (hg.JK.len _) (Xg (ι:=Nat) (λi ws σ3=>∃s',ws=[iv i]∧i<=p.kids.length∧aj σ3 b=.box (enc s')∧Bt b σ2 σ3∧gh step s1 (dT p.kids)=gh step s' (dT (p.kids.drop i))) (λi=>p.kids.length-i) 0 ⟨s1,rfl,by omega,lV,Bt.refl _ _,by simp⟩ ?_);rintro i ws σ3 again ⟨s',rfl,hi,Bw,t3,hr⟩ bn;refine Za rfl (Ya (λh=>?_) (λh=>?_))
   ·have h:i<vs.length:=by simpa using h
    have h':i<p.kids.length:=by omega
    have so:ed 1 (vs.map one) vs.length v2 σ3:=by
     rcases hg.2.2 with h|⟨q1,c,q2,q3,q4,q5⟩
     ·exact .inl h
     ·refine .inr ⟨q1,c,q3,?_,q5⟩;have uJ:c≠b:=by
       grind
      exact t3.fQ q4 (by simp) uJ
    obtain⟨c,e1,hj,e2⟩:=so.at .i64 i h;refine Za e1 (Za (e2 false 1 vs[i] (by simp[one])) ?_);have g_:p.kids[i]∈p.kids:=AT h';have rm:=SC g_;have eK:p.kids.drop i=p.kids[i]::p.kids.drop (i+1):=gI h';rw[eK,dT,NW]at hr;refine Qd hP rfl g220.ok rfl (c208 hc k p.kids[i] (by omega) (Xeb hf g_) (by omega) _ (hp.get i h h') s' σ3 _ Bw (λσ4 t4 b4=>?_));refine Za rfl (Ya (λh5=>?_) (λh5=>?_))
    ·have h5:(gh step s' (flat p.kids[i])).2=false:=by simpa using h5
     rw[h5]at hr;have:=hK σ4 ((t1.trans t2).trans (t3.trans t4)) (by rw[hr];exact b4);rw[hr]at this;exact this
    ·have h5:(gh step s' (flat p.kids[i])).2=true:=by simpa using h5
     rw[h5,aJ rfl]at hr;refine Za (Qj ..) ?_;rw[Qc (n:=i) (by omega)];exact bn (i+1) _ _ (by omega) ⟨_,rfl,by omega,b4,t3.trans t4,hr⟩
   ·have h:i=p.kids.length:=by simp at h;omega
    subst h;rw[zAD,dT,gh]at hr;have:=hK σ3 ((t1.trans t2).trans t3) (by rw[hr];exact Bw);rw[hr]at this;exact this
  clear sr hK hb hc;cases hv with
  |ef x=>
   refine Za rfl (Za rfl (Za rfl (Yh ?_)));refine Qu (row:=[.aq (bj x) 0]) rfl rfl rfl ?_;have hB:=Yc σ1 (ab.box [.aq (bj x) 0]);have b_:σ1.length<(σ1++[ab.box [.aq (bj x) 0]]).length:=by simp
   have kb:∀v2 σ2 vs,nN vs (Pt.ef x).kids→Gr (σ1++[ab.box [.aq (bj x) 0]]) 1 (vs.map one) vs.length v2 σ2→k2 [v2] σ2:=λv2 σ2 vs h1 h2=>kk v2 σ2 vs h1 h2.base;clear kk b1 t1;generalize σ1++[ab.box [.aq (bj x) 0]]=τ at hB b_ kb ⊢;generalize σ1.length=c at hB b_ ⊢;refine Za rfl (Za (ld hB rfl) (Za rfl (Za rfl (Za (bB (gO _)) ?_))));refine aY (c210 _) g199.ok (Qg λk14 Df=>?_);have k1:∀v σ2 vs,nN vs (if cq x.op then [.nm x.n]else [])→Gr τ 1 (vs.map one) vs.length v σ2→k14 [v] σ2:=by
    intro v σ2 vs hp hg;rw[Df];clear Df k14;have vk:=hg.fQ hB (by simp);have hvl:vs.length<=1:=by rw[hp.length];split<;>simp
    refine Za rfl (Za (ld vk rfl) (Za rfl (Za rfl (Za (bB (gO _)) (Za (Ys ..) ?_)))));refine Ya (λh=>?_) (λh=>?_);rotate_left
    ·have h:¬x.op=8:=by simpa using h
     refine kb _ _ vs ?_ hg;simp_all [Pt.kids]
    have h:x.op=8:=by simpa using h
    have Kn:(Pt.ef x).kids=(if cq x.op then [.nm x.n]else [])++(.cn x.c::(x.bP.map .ef++x.bS.map .ef)):=by simp only[Pt.kids,aJ h]
    have fH:x.bP.length+x.bS.length+1<=500000000:=by
     grind
    refine Za rfl (Za (ld vk rfl) ?_);refine ay ?_;refine hg.put (cs:=[.iface 305 (.agg [.aq (bj x) 7])]) rfl rfl rfl (by omega) (λv' σ' tY=>?_);have JN:=tY.fQ hB (by simp);refine Za rfl (Za (ld JN rfl) (Za rfl (Za rfl (Za (bB (Co _)) ?_))));refine Za rfl (Za (ld JN rfl) (Za rfl (Za rfl (Za (bB (Cf _)) ?_))));refine Za rfl (QK 3 (Zl (Za rfl (Yh (Za rfl ?_)))));refine Za (v:=iv x.bP.length) (rd:=[]) (by simp[Zf]) (Yev x.bP (by omega) tY (λv3 σ3 w so=>?_));refine Za rfl (Zl (Za rfl (Yh (Za rfl ?_))));refine Za (v:=iv x.bS.length) (rd:=[]) (by simp[Zf]) (Yev x.bS (by omega) so (λv4 σ4 w hg4=>?_));refine Za rfl (Zl (Za rfl (Ye ?_)));refine kb _ _ ((vs++[.iface 305 (.agg [.aq (bj x) 7])])++(x.bP.map lh).flatten++(x.bS.map lh).flatten) ?_ ?_
    ·rw[Kn];have:=Br (Br (nN.snoc _ _ _ _ hp (.cn (bj x) 7 x.c (Bi x))) x.bP) x.bS;simpa using this
    ·have e1:((vs++[aa.iface 305 (.agg [.aq (bj x) 7])])++(x.bP.map lh).flatten++(x.bS.map lh).flatten).map one=zDv one vs++[[aa.iface 305 (.agg [.aq (bj x) 7])]]++zDv lh x.bP++zDv lh x.bS:=by
      rw[zAe,zAe,←Ob,←Ob,zAe];rfl
     have e2:((vs++[aa.iface 305 (.agg [.aq (bj x) 7])])++(x.bP.map lh).flatten++(x.bS.map lh).flatten).length=vs.length+1+x.bP.length+x.bS.length:=by
      have l1:=congrArg zCo (Ob x.bP);have l2:=congrArg zCo (Ob x.bS)
      grind
     rw[e1,e2];exact hg4
   clear Df;refine Ya (λh=>?_) (λh=>?_)
   ·refine Za rfl (Za (ld hB rfl) ?_);refine ay ?_;refine(Gr.nil 1 τ).put (cs:=[.iface 303 (.agg [.aq (bj x) 2])]) rfl rfl rfl (by omega) (λv' σ' tY=>?_);refine k1 _ _ [.iface 303 (.agg [.aq (bj x) 2])] ?_ tY;rw[aJ h];exact nN.snoc [] [] _ _ .nil (.nm (bj x) 2 x.n (BT x))
   ·refine k1 _ _ [] ?_ (Gr.nil 1 τ);rw[h];exact .nil
  |nm row j x hx=>
   refine Za rfl (Za rfl (Za rfl (Ye ?_)));refine Za rfl (Za rfl (Za rfl (Yh ?_)));refine Qu (row:=[.aq row j]) rfl rfl rfl ?_;have hB:=Yc σ1 (ab.box [.aq row j]);have kb:∀v2 σ2 vs,nN vs (Pt.nm x).kids→Gr (σ1++[ab.box [.aq row j]]) 1 (vs.map one) vs.length v2 σ2→k2 [v2] σ2:=λv2 σ2 vs h1 h2=>kk v2 σ2 vs h1 h2.base;clear kk b1 t1;generalize σ1++[ab.box [.aq row j]]=τ at hB kb ⊢;generalize σ1.length=c at hB ⊢;have fH:x.kids.length<=500000000:=by
    grind [Pt.kids]
   refine Za rfl (Za (ld hB rfl) (Za rfl (Za rfl (Za (bB hx.h3) ?_))));refine Za (v:=iv x.kids.length) (rd:=[]) (by simp[Zf]) (Xg (ι:=Nat) (λi vs s=>∃v,vs=[iv i,v]∧i<=x.kids.length∧Gr τ 1 ((x.kids.take i).map mL) i v s) (λi=>x.kids.length-i) 0 ⟨_,rfl,by omega,by simpa using Gr.nil 1 τ⟩ ?_);rintro i vs s again ⟨v,rfl,hi,hg⟩ bn;refine Za rfl (YS (λh=>?_) (λh=>?_))
   ·refine Za rfl (Za (ld (hg.fQ hB (by simp)) rfl) (Za rfl (Za rfl (Za (bB hx.h3) ?_))));refine Za (Xm _ c8 _ _ _ x.kids _ i h) (Za rfl (Za rfl ?_));refine hg.put (cs:=mL x.kids[i]) rfl rfl rfl (by omega) (λv' σ' tY=>?_);refine Za (Qj ..) ?_;rw[Qc (n:=i) (by omega)];refine bn (i+1) _ _ (by omega) ⟨v',rfl,by omega,?_⟩
    grind [YL]
   ·subst h;rw[zAr]at hg;refine kb _ _ (x.kids.map mL).flatten ?_ ?_
    ·have:=BU .nil x.kids;simpa[Pt.kids]using this
    ·have e1:=ZcH x.kids;have e2:=congrArg zCo e1;rw[←e1];simp only[zAH]at e2;rw[←e2];exact hg
  |cn row j x hx=>
   refine Za rfl (Za rfl (Za rfl (Ye ?_)));refine Za rfl (Za rfl (Za rfl (Ye ?_)));refine Za rfl (Za rfl (Za rfl (Yh ?_)));refine Qu (row:=[.aq row j]) rfl rfl rfl ?_;have hB:=Yc σ1 (ab.box [.aq row j]);have kb:∀v2 σ2 vs,nN vs (Pt.cn x).kids→Gr (σ1++[ab.box [.aq row j]]) 1 (vs.map one) vs.length v2 σ2→k2 [v2] σ2:=λv2 σ2 vs h1 h2=>kk v2 σ2 vs h1 h2.base;clear kk b1 t1;generalize σ1++[ab.box [.aq row j]]=τ at hB kb ⊢;generalize σ1.length=c at hB ⊢;have fH:x.aC.length+x.kids.length<=500000000:=by
    grind [Pt.kids]
   refine Za rfl (Za (ld hB rfl) (Za rfl (Za rfl (Za (bB hx.h3) ?_))));refine Za (v:=iv x.aC.length) (rd:=[]) (by simp[Zf]) (Xg (ι:=Nat) (λi vs s=>∃v,vs=[iv i,v]∧i<=x.aC.length∧Gr τ 1 ((x.aC.take i).map mL) i v s) (λi=>x.aC.length-i) 0 ⟨_,rfl,by omega,by simpa using Gr.nil 1 τ⟩ ?_);rintro i vs s again ⟨v,rfl,hi,hg⟩ bn;refine Za rfl (YS (λh=>?_) (λh=>?_))
   ·refine Za rfl (Za (ld (hg.fQ hB (by simp)) rfl) (Za rfl (Za rfl (Za (bB hx.h3) ?_))));refine Za (Xm _ c8 _ _ _ x.aC _ i h) (Za rfl (Za rfl ?_));refine hg.put (cs:=mL x.aC[i]) rfl rfl rfl (by omega) (λv' σ' tY=>?_);refine Za (Qj ..) ?_;rw[Qc (n:=i) (by omega)];refine bn (i+1) _ _ (by omega) ⟨v',rfl,by omega,?_⟩
    grind [YL]
   subst h;rw[zAr]at hg;clear bn;refine Za rfl (Za (ld (hg.fQ hB (by simp)) rfl) (Za rfl (Za rfl (Za (bB hx.h4) ?_))));refine Za (v:=iv x.kids.length) (rd:=[]) (by simp[Zf]) (Xg (ι:=Nat) (λi vs s=>∃v,vs=[iv i,v]∧i<=x.kids.length∧Gr τ 1 (x.aC.map mL++(x.kids.take i).map pT) (x.aC.length+i) v s) (λi=>x.kids.length-i) 0 ⟨_,rfl,by omega,by simpa[h1,qB,jC]using hg⟩ ?_);clear hg;rintro i vs s again ⟨v,rfl,hi,hg⟩ bn;refine Za rfl (YS (λh=>?_) (λh=>?_))
   ·refine Za rfl (Za (ld (hg.fQ hB (by simp)) rfl) (Za rfl (Za rfl (Za (bB hx.h4) ?_))));refine Za (Xm _ f_ _ _ _ x.kids _ i h) (Za rfl (Za rfl ?_));refine hg.put (cs:=pT x.kids[i]) rfl rfl rfl (by omega) (λv' σ' tY=>?_);refine Za (Qj ..) ?_;rw[Qc (n:=i) (by omega)];refine bn (i+1) _ _ (by omega) ⟨v',rfl,by omega,?_⟩
    grind [YL]
   ·subst h;rw[zAr]at hg;refine kb _ _ ((x.aC.map mL).flatten++(x.kids.map pT).flatten) ?_ ?_
    ·have:=Jk (BU .nil x.aC) x.kids;simpa[Pt.kids]using this
    ·have e1:((x.aC.map mL).flatten++(x.kids.map pT).flatten).map one=x.aC.map mL++x.kids.map pT:=by
      grind [ZcH,XdP]
     have e2:=congrArg zCo e1;simp only[zAH,By]at e2;simp_all
mutual
theorem It:∀x:Nm,mi x=min ((qI x).length:Int) 1073741824
 |.mk op n who kids=>by
  simp only[mi,qI,IS]
  rw[Rr 1 kids (by omega) (by omega)];omega
theorem Rr:∀(n:Int) (l:List Nm),0<=n→n<=1073741824→kf n l=min (n+((oP l).length:Int)) 1073741824
 |n,[],h1,h2=>by simp only[kf,oP,zAG];omega
 |n,x::l,h1,h2=>by
  simp only[kf,oP,By]
  rw[It x,Rr _ l (by omega) (by omega)];omega
end
mutual
theorem SO:∀x:Cn,nX x=min ((qx x).length:Int) 1073741824
 |.mk op who name aC kids=>by
  simp only[nX,qx,IS,By]
  rw[Rr 1 aC (by omega) (by omega),YdX _ kids (by omega) (by omega)];omega
theorem YdX:∀(n:Int) (l:List Cn),0<=n→n<=1073741824→nY n l=min (n+((pS l).length:Int)) 1073741824
 |n,[],h1,h2=>by simp only[nY,pS,zAG];omega
 |n,x::l,h1,h2=>by
  simp only[nY,pS,By]
  rw[SO x,YdX _ l (by omega) (by omega)];omega
end
mutual
theorem Jy:∀(n:Int) (x:Ef),0<=n→n<=1073741824→CM n x=min (n+((iA x).length:Int)) 1073741824
 |n,.mk op who nn name c bP bS,h1,h2=>by
  simp only[CM,iA,IS,By]
  rw[It nn,SO c,vG 0 bP (by omega) (by omega),vG 0 bS (by omega) (by omega)]
  generalize cq op=cb
  by_cases h:op=8
  ·simp only[aJ h]
   cases cb<;>simp only[if_true,if_false,By,zAG,zAS]<;>omega
  ·simp only[aE h]
   cases cb<;>simp only[if_true,if_false,zAG,zAS]<;>omega
theorem vG:∀(n:Int) (l:List Ef),0<=n→n<=1073741824→dA n l=min (n+((bw l).length:Int)) 1073741824
 |n,[],h1,h2=>by simp only[dA,bw,zAG];omega
 |n,x::l,h1,h2=>by
  simp only[dA,bw,By]
  rw[Jy n x h1 h2,vG _ l (by omega) (by omega)];omega
end
def pz(c:Cd):List Pt:=bw c.c9++(bw c.dead++bw c.dR)
theorem IL(c:Cd):o7 c=min ((pz c).length:Int) 1073741824:=by
 rw[o7,vG 0 _ (by omega) (by omega),vG 0 _ (by omega) (by omega),vG 0 _ (by omega) (by omega),pz];simp only[By];omega
theorem Qdi(l:List Ef):bw l=dT (l.map .ef):=(Hs l).symm
theorem PU{S:Type}{enc:S→List aa}{step:S→Pt→S×Bool}{yk:aa}{b:Nat}(hc:ME yk b enc step)(l:List Ef)(hf:bE l=true)(hN:(bw l).length<=500000000){s:S}{σ:List ab}(hb:aj σ b=.box (enc s)){R:List ab→Prop}{K:mC}
 (hR:∀σ',Bt b σ σ'→aj σ' b=.box (enc (gh step s (bw l)).1)→(gh step s (bw l)).2=false→R σ')(hK:∀w σ',Bt b σ σ'→aj σ' b=.box (enc (gh step s (bw l)).1)→(gh step s (bw l)).2=true→K w σ') :
  VV.loop (λCD v16 σ=>VV.rd (Ym .lss false [(h0 v16),iv l.length] σ) λtq=>VV.test tq (
   VV.rd (Qh 14 [gY l,(h0 v16)] σ) λEc=>VV.rd (QM [.fj] [(0,1)] [Ec] σ) λEd=>VV.rd (XF 292 [Ed] σ) λEg=>
   VV.call (.call 220) [Eg,yk] σ λEn σ=>VV.rd (tH .not [En] σ) λEr=>VV.test Er (R σ) (
   VV.rd (Ym .add false [(h0 v16),(.int .i64 1)] σ) λEu=>CD [Eu] σ)) (K v16 σ)) [(.int .i64 0)] σ:=by
 have hl:=PB (l.map .ef);rw[Hs,zAH]at hl;rw[Qdi]at hR hK;refine Xg (ι:=Nat) (λi ws σ3=>∃s',ws=[iv i]∧i<=l.length∧aj σ3 b=.box (enc s')∧Bt b σ σ3∧gh step s (dT (l.map .ef))=gh step s' (dT ((l.drop i).map .ef))) (λi=>l.length-i) 0 ⟨s,rfl,by omega,hb,Bt.refl _ _,by simp⟩ ?_;rintro i ws σ3 again ⟨s',rfl,hi,Bw,t3,hr⟩ bn;refine Za rfl (YS (λh=>?_) (λh=>?_))
 ·refine Za (Xm _ bj _ _ _ l _ i h) (Za rfl (Za rfl ?_));have eK:l.drop i=l[i]::l.drop (i+1):=gI h;rw[eK,zAN,dT,NW]at hr;refine Qd hP rfl g220.ok rfl ?_;have hm:=SC (l:=l.map .ef) (p:=.ef l[i]) (List.mem_map_of_mem (AT h));rw[Hs]at hm;refine c208 hc _ (.ef l[i]) (IT _) (QN hf (AT h)) (by omega) _ (.ef _) s' σ3 _ Bw (λσ4 t4 b4=>?_);refine Za rfl (Ya (λh5=>?_) (λh5=>?_))
  ·have h5:(gh step s' (flat (.ef l[i]))).2=false:=by simpa using h5
   rw[h5]at hr;exact hR σ4 (t3.trans t4) (by rw[hr];exact b4) (by rw[hr];rfl)
  ·have h5:(gh step s' (flat (.ef l[i]))).2=true:=by simpa using h5
   rw[h5,aJ rfl]at hr;refine Za (Qj ..) ?_;rw[Qc (n:=i) (by omega)];exact bn (i+1) _ _ (by omega) ⟨_,rfl,by omega,b4,t3.trans t4,hr⟩
 ·subst h;rw[zAD,zBC,dT,gh]at hr;exact hK _ σ3 t3 (by rw[hr];exact Bw) (by rw[hr])
theorem c155{S:Type}{enc:S→List aa}{step:S→Pt→S×Bool}{yk:aa}{b:Nat}(hc:ME yk b enc step)(c:Cd)(f1:bE c.c9=true)(f2:bE c.dead=true)(f3:bE c.dR=true)(hN:(pz c).length<=500000000){s:S}{σ:List ab}{cb:Nat}(uJ:aj σ cb=.box (cL c))(hb:aj σ b=.box (enc s)){K:KT}
 (hK:∀σ',Bt b σ σ'→aj σ' b=.box (enc (gh step s (pz c)).1)→K (.bp []) σ'):g196.u VV [.ak cb 0,yk] σ K:=by
 simp only[pz,By]at hN;simp only[pz,NW]at hK;rw[H2.e];unfold g196;dsimp only;refine Za rfl (Za rfl (Za (ld uJ rfl) (Za rfl (Za rfl (Za (ld uJ rfl) (Za rfl (Za rfl (Za (ld uJ rfl) (Za rfl ?_)))))))));refine QK 4 (Zl (Za rfl (Yh (Za rfl ?_))));refine Za (v:=iv c.c9.length) (rd:=[]) (by simp[Zf]) (PU hc c.c9 f1 (by omega) hb (λσ1 t1 b1 h1=>?_) (λw σ1 t1 b1 h1=>?_))
 ·rw[h1]at hK;exact hK σ1 t1 b1
 rw[h1,aJ rfl]at hK;refine Za rfl (Zl (Za rfl (Yh (Za rfl ?_))));refine Za (v:=iv c.dead.length) (rd:=[]) (by simp[Zf]) (PU hc c.dead f2 (by omega) b1 (λσ2 t2 b2 h2=>?_) (λw σ2 t2 b2 h2=>?_))
 ·rw[h2]at hK;exact hK σ2 (t1.trans t2) b2
 rw[h2,aJ rfl]at hK;refine Za rfl (Zl (Za rfl (Yh (Za rfl ?_))));refine Za (v:=iv c.dR.length) (rd:=[]) (by simp[Zf]) (PU hc c.dR f3 (by omega) b2 (λσ3 t3 b3 h3=>?_) (λw σ3 t3 b3 h3=>?_))
 ·exact hK σ3 ((t1.trans t2).trans t3) b3
 refine Za rfl (Zl (Za rfl (Ye ?_)));exact hK σ3 ((t1.trans t2).trans t3) b3
def CK(n:Int)(_:Pt):Int×Bool:=(BY.wrap (n+1),decide (BY.wrap (n+1)<1073741824))
theorem Yds:∀(l:List Pt) (n:Int),0<=n→n+(l.length:Int)<1073741824→gh CK n l=(n+(l.length:Int),true)
 |[],n,_,_=>by simp[gh]
 |p::l,n,h1,h2=>by
  simp only[IS]at h2;have hw:BY.wrap (n+1)=n+1:=br (by omega) (by omega);simp only[gh,CK,hw];rw[aJ (by simp;omega),Yds l (n+1) (by omega) (by omega),IS]
  congr 1;omega
theorem CJ(b:Nat):ME (.func (.func 197) [] [.ak b 0]) b (λn:Int=>[iv n]) CK:=by
 intro p v hv s σ K hb hK;refine Qd hP rfl g197.ok rfl ?_;show g197.u VV [v,.ak b 0] σ K;rw[H2.e];unfold g197;dsimp only;have b_:=Yb hb;refine Za (ld hb rfl) (Za (Qj ..) (Yd (cX hb rfl rfl rfl) (Ze _ b_) ?_));have lV:aj (σ.set b (.box [iv (BY.wrap (s+1))])) b=.box [iv (BY.wrap (s+1))]:=Zd _ b_;refine Za (ld lV rfl) (Za (ZS ..) ?_);exact hK _ ⟨by simp,λc hc cO=>Xc _ hc cO⟩ lV
theorem c124(c:Cd)(f1:bE c.c9=true)(f2:bE c.dead=true)(f3:bE c.dR=true)(hN:(pz c).length<=500000000):PC 168 [.agg (cL c)] (iv (o7 c)):=by
 refine Xa hP g168.ok rfl rfl ?_;rw[H1.e];unfold g168;dsimp only;refine Yd rfl rfl (Yd rfl rfl (Yd rfl rfl (Za rfl ?_)));refine Qd hP rfl g196.ok rfl (c155 (CJ 1) c f1 f2 f3 hN (s:=0) rfl rfl (λσ' _ hb=>?_));rw[Yds _ 0 (by omega) (by omega)]at hb;refine Za (ld hb rfl) ?_;rw[IL]
 congr 1;omega
theorem XM(σ:List ab)(x:Ef):tL [.agg (bj x)] σ=.ok (.ak σ.length 0) [] [(σ.length,.box (bj x))]:=by rw[Zr];rfl
def ea{α:Type}(f:α→Bool):List α→Int→Int
 |[],_=>-1
 |x::l,n=>if f x=true then n else ea f l (n+1)
theorem Oa{α:Type}(f:α→Bool):∀(l:List α) (n:Int),0<=n→decide (0<=ea f l n)=l.any f
 |[],_,_=>rfl
 |x::l,n,h=>by
  by_cases hf:f x=true
  ·simp_all [ea]
  ·have e:ea f (x::l) n=ea f l (n+1):=aE hf;have OM:f x=false:=by simpa using hf
   rw[e,Oa f l (n+1) (by omega),zCu,OM];rfl
theorem Su{P:Program}{GL:ar}{c d:Bool}{K:aa→Prop}{r1:aA}{f2 f3 f4:aa→aA}{σ:List ab}{v1 v2 v3:aa}{q1 q2 q3 q4:List Nat}(h1:r1=.ok v1 q1 [])(h2:f2 v1=.ok v2 q2 [])(h3:f3 v2=.ok v3 q3 [])(h4:f4 v3=.ok (.bool d) q4 [])(hK:K (.bool (c&&d))) :
  (W P GL).gr (.bool c) true (λk=>(W P GL).rd r1 k) λt1=>(W P GL).gr (.bool c) true (λk=>(W P GL).rd (f2 t1) k) λt2=>(W P GL).gr (.bool c) true (λk=>(W P GL).rd (f3 t2) k) λt3=>(W P GL).gr (.bool c) true (λk=>(W P GL).rd (f4 t3) k) λt4=>(W P GL).rd (Zo [.bool c,t4,.bool false] σ) K:=by
 cases c with
 |true=>exact Qa (Za h1 (Qa (Za h2 (Qa (Za h3 (Qa (Za h4 (Za rfl hK))))))))
 |false=>exact Zc rfl (Zc rfl (Zc rfl (Zc rfl (Za rfl hK))))
theorem c255(l:List Ef)(hl:l.length<=gn)(id:FuncId)(fs cs:List aa)(hp:Zh prog id=true)(f:Ef→Bool)(hc:∀x∈l,PC id (fs++[.agg (bj x)]++cs) (.bool (f x)))(hr:∀x,ga (fs++[.agg (bj x)]++cs)=true) :
  PC 233 [gY l,.func (.func id) fs cs] (iv (ea f l 0)):=by
 rw[cZ]at hl;refine Xa hP g233.ok rfl rfl ?_;rw[H2.e];unfold g233;dsimp only;refine Za (v:=iv l.length) (rd:=[]) (by simp[Zf]) (Xg (ι:=Nat) (λi vs s=>vs=[iv i]∧i<=l.length∧ea f l 0=ea f (l.drop i) i) (λi=>l.length-i) 0 ⟨rfl,by omega,by simp⟩ ?_);rintro i vs s again ⟨rfl,hi,jS⟩ bn;refine Za rfl (YS (λh=>?_) (λh=>?_))
 ·refine Za (Xm _ bj _ _ _ l _ i h) (Za (bB (lS _)) ?_);refine Yo (hc _ (AT h)) rfl hp (hr _) ?_;rw[gI h,ea]at jS;refine Ya (λh2=>?_) (λh2=>?_)
  ·rw[aJ h2]at jS;rw[jS];rfl
  ·rw[aE (by rw[h2];simp)]at jS;refine Za (Qj ..) ?_;rw[Qc (n:=i) (by omega)]
   grind
 grind [ea]
theorem c239(l:List Ef)(hl:l.length<=gn)(id:FuncId)(fs cs:List aa)(hp:Zh prog id=true)(f:Ef→Bool)(hc:∀x∈l,PC id (fs++[.agg (bj x)]++cs) (.bool (f x)))(hr:∀x,ga (fs++[.agg (bj x)]++cs)=true)(Hb:ga [gY l,.func (.func id) fs cs]=true) :
  PC 215 [gY l,.func (.func id) fs cs] (.bool (l.any f)):=by
 refine Xa hP g215.ok rfl rfl ?_;rw[H2.e];unfold g215;dsimp only;refine Yo (c255 l hl id fs cs hp f hc hr) rfl g233.ok.plain Hb (Za (qw ..) ?_);rw[Oa f l 0 (by omega)]
def vJ(u:Int):List aa:=[.func (.func 211) [.agg [aN u]] [],.func (.func 211) [.agg [aN u]] [],.func (.func 211) [.agg [aN u]] [],.func (.func 211) [.agg [aN u]] [],.func (.func 212) [.agg [aN u]] [],.func (.func 213) [.agg [aN u]] [],.func (.func 212) [.agg [aN u]] [],.func (.func 212) [.agg [aN u]] [],.func (.func 214) [.agg [aN u]] []]
theorem c240(u:Int)(x:Ef)(hf:dS x=true)(h238:x.op=8→PC 214 [.agg [aN u],.agg (bj x)] (.bool (sR u x))):PC 216 [.agg (bj x),.aq [aN u] 0,.aq (vJ u) 0] (.bool (!sR u x)):=by
 have hY:=ZdN hf;refine Xa hP g216.ok rfl rfl ?_;rw[H3.e];unfold g216;dsimp only;refine Yd (XM _ _) rfl (ay (Za (ld rfl (gO x)) (Za (qw ..) ?_)));have p235:x.op=0∨x.op=1∨x.op=2∨x.op=3→PC 211 [.agg [aN u],.agg (bj x)] (.bool (sR u x)):=by
  intro h;have e:sR u x=decide (dw u (ti x.n)=0):=by rw[Hx,aE (by omega),aE (by omega),aJ h]
  rw[e];exact c235 u x hf
 have p236:¬(x.op=0∨x.op=1∨x.op=2∨x.op=3)→x.op≠5→x.op≠8→PC 212 [.agg [aN u],.agg (bj x)] (.bool (sR u x)):=by
  intro h h5 h8;have e:sR u x=decide (mz u=0):=by simp_all [Hx,YbD]
  rw[e];exact c236 u x
 have p237:x.op=5→PC 213 [.agg [aN u],.agg (bj x)] (.bool (sR u x)):=by
  intro h;have e:sR u x=GO (dw u (ti x.n)) 1:=by rw[Hx,aJ h]
  rw[e];exact c237 u x hf
 refine Su rfl (ld rfl (gO x)) rfl (ZS ..) ?_;rw[br (n:=x.op) (by omega) (by omega)];refine Qg λk11 lW=>?_;have hk:∀id,Zh prog id=true→PC id [.agg [aN u],.agg (bj x)] (.bool (sR u x))→k11 [.func (.func id) [.agg [aN u]] []] [.box (bj x)]:=by
  intro id hp hc;rw[lW];exact Za (ld rfl (lS x)) (Yo hc rfl hp (TF u x) (Za rfl rfl))
 clear lW;refine Ya (λh=>?_) (λh=>?_)
 ·have h:0<=x.op∧x.op<9:=by simpa using h
  refine Za rfl (Za (ld rfl (gO x)) ?_);have gu:x.op=0∨x.op=1∨x.op=2∨x.op=3∨x.op=4∨x.op=5∨x.op=6∨x.op=7∨x.op=8:=by omega
  rcases gu with e|e|e|e|e|e|e|e|e
  ·have q:=p235 (by omega);rw[e];exact Za rfl (Za rfl (hk _ g211.ok.plain q))
  ·have q:=p235 (by omega);rw[e];exact Za rfl (Za rfl (hk _ g211.ok.plain q))
  ·have q:=p235 (by omega);rw[e];exact Za rfl (Za rfl (hk _ g211.ok.plain q))
  ·have q:=p235 (by omega);rw[e];exact Za rfl (Za rfl (hk _ g211.ok.plain q))
  ·have q:=p236 (by omega) (by omega) (by omega);rw[e];exact Za rfl (Za rfl (hk _ g212.ok.plain q))
  ·have q:=p237 e;rw[e];exact Za rfl (Za rfl (hk _ g213.ok.plain q))
  ·have q:=p236 (by omega) (by omega) (by omega);rw[e];exact Za rfl (Za rfl (hk _ g212.ok.plain q))
  ·have q:=p236 (by omega) (by omega) (by omega);rw[e];exact Za rfl (Za rfl (hk _ g212.ok.plain q))
  ·have q:=h238 e;rw[e];exact Za rfl (Za rfl (hk _ g214.ok.plain q))
 ·have h:0<=x.op→¬x.op<9:=by simpa using h
  exact hk _ g212.ok.plain (p236 (by omega) (by omega) (by omega))
theorem c238(u:Int)(x:Ef)(hf:dS x=true)(h1:∀u',PC 193 [.agg [aN u'],gY x.bP] (.bool (gZ u' x.bP)))(h2:∀u',PC 193 [.agg [aN u'],gY x.bS] (.bool (gZ u' x.bS))) :
  PC 214 [.agg [aN u],.agg (bj x)] (.bool (gZ (dw u (sP x.c)) x.bP&&gZ (dw u (sP x.c)) x.bS)):=by
 refine Xa hP g214.ok rfl rfl ?_;rw[H2.e];unfold g214;dsimp only;refine Yd rfl rfl (Yd (XM _ _) rfl ?_);refine ay (Xf (ld rfl (od x)) rfl (Yt (c254 _ (Y6 hf)) rfl g232.ok.plain (qW _) (Y9 (c250 _ _) g228.ok ?_)));refine ay (Za (ld rfl (Co x)) (aY (h1 _) g193.ok ?_));rcases cA (gZ (dw u (sP x.c)) x.bP)with h|h
 ·rw[h];refine ay (Za (ld rfl (Cf x)) (Yq ?_));exact aY (h2 _) g193.ok (Za rfl rfl)
 ·rw[h];exact ay rfl
theorem YcB(u:Int):∀l,gZ u l=l.all (sR u)
 |[]=>rfl
 |x::l=>by simp[gZ,YcB u l]
theorem tO(k:Nat):∀(l:List Ef) (u:Int),zAT l<=k→bE l=true→PC 193 [.agg [aN u],gY l] (.bool (gZ u l)):=by
 induction k with
 |zero=>intro l _ h _;cases l<;>simp at h
 |succ k tO=>
  intro l u hk hf;refine Xa hP g193.ok rfl rfl ?_;rw[H2.e];unfold g193;dsimp only;refine ay ?_;have hc:∀x∈l,PC 216 ([]++[.agg (bj x)]++[.aq [aN u] 0,.aq (vJ u) 0]) (.bool (!sR u x)):=by
   intro x hx;have jD:=QN hf hx;refine c240 u x jD (λh8=>?_);have e:sR u x=(gZ (dw u (sP x.c)) x.bP&&gZ (dw u (sP x.c)) x.bS):=by simp[h8,Hx]
   have hs:=zBL hx;have qf:=Gz x;rw[e];exact c238 u x jD (λu'=>tO x.bP u' (by omega) (XN jD)) (λu'=>tO x.bS u' (by omega) (YN jD))
  refine YG (c239 l (YF hf) 216 [] [.aq [aN u] 0,.aq (vJ u) 0] g216.ok.plain (λx=>!sR u x) hc (λx=>by rw[Zr];rfl) rfl) rfl g215.ok.plain rfl rfl (Za rfl ?_);simp[YcB,List.any_eq_not_all_not]
theorem c222(l:List Ef)(u:Int)(hf:bE l=true):PC 193 [.agg [aN u],gY l] (.bool (gZ u l)):=tO _ l u (IT _) hf
theorem c182(cs:List Cd)(hf:ZG cs=true):PC 162 [iH cs] (.agg [iv (jr cs).1,iv (jr cs).2]):=by
 simp only[ZG,AI,fE]at hf;obtain⟨f0,f1⟩:=hf;rw[cZ]at f0;refine Xa hP g162.ok rfl rfl ?_;rw[H1.e];unfold g162;dsimp only;refine Yd rfl rfl (Za rfl (Yd rfl rfl (Yd rfl rfl ?_)));refine Za (v:=iv cs.length) (rd:=[]) (by simp[Zf]) (Xg (ι:=Nat) (λi vs σ=>vs=[iv i]∧aj σ 0=.box [iv 0,iv 0]∧aj σ 1=.box [aN 0]∧0<σ.length∧i<=cs.length∧jr cs=jr (cs.drop i)) (λi=>cs.length-i) 0 ⟨rfl,rfl,rfl,by simp,by omega,by simp⟩ ?_);rintro i vs σ again ⟨rfl,hz,ho,my,hi,hu⟩ bn;refine Za rfl (Ya (λh=>?_) (λh=>?_));rotate_left
 ·have h:i=cs.length:=by simp at h;omega
  subst h;rw[zAD,jr]at hu;refine Za rfl (Yd (cX hz rfl rfl rfl) (Ze _ my) (Zs (Xq my rfl) ?_));rw[hu]
 have hi:i<cs.length:=by simpa using h
 have eK:cs.drop i=cs[i]::cs.drop (i+1):=by rw[gI hi]
 have cH:=λ(s:List ab)=>Xm s cL false false 12 cs .i64 i hi;have tX:=zAj.1 f1 _ (AT hi);generalize cs[i]=c at eK cH tX;rw[eK,jr]at hu;simp only[il,AI,fE]at tX;obtain⟨g0,g1,g2,g9993⟩:=tX;refine Za (cH _) (Za (bB (pR _)) (Qu (row:=cL c) (row':=cL c) rfl rfl rfl ?_));have dI:=Yc σ (ab.box (cL c));have td:aj (σ++[ab.box (cL c)]) 0=.box [iv 0,iv 0]:=Qb _ hz;have fO:aj (σ++[ab.box (cL c)]) 1=.box [aN 0]:=Qb _ ho;have qi:0<(σ++[ab.box (cL c)]).length:=by simp
 generalize σ++[ab.box (cL c)]=base at dI td fO qi ⊢;generalize σ.length=b at dI ⊢;clear hz my ho;refine Za (ld fO rfl) (Za rfl (Za (ld dI rfl) ?_));refine aY (c222 _ 0 g1) g193.ok (Za rfl ?_);apply sQ
 ·intro hR;repeat' (first
   |refine aY (c222 _ 0 g2) g193.ok ?_
   |refine aY (c222 _ 0 g9993) g193.ok ?_
   | refine Q8 (λh=>?_) (λh=>?_) <;> (try rw[h])) <;> (refine ah ?_)
  all_goals exact Cu (V:=!Jh c) (hR ⟨⟩) (by grind [Jh])
 refine Ya (λhc=>?_) (λhc=>?_)
 ·have hu:jr cs=(140,c.pl):=by grind
  refine ag (Yd (cX td rfl rfl rfl) (Ze _ qi) (Zs (Xq qi rfl) ?_));rw[hu]
 refine ag ?_;rw[Qc (n:=i) (by omega)];exact bn (i+1) _ _ (by omega) ⟨rfl,td,fO,qi,by omega,by grind⟩
theorem c259(l:List Cd)(hl:l.length<=gn)(id:FuncId)(fs cs:List aa)(hp:Zh prog id=true)(f:Cd→Bool)(hc:∀x∈l,PC id (fs++[.agg (cL x)]++cs) (.bool (f x)))(hr:∀x,ga (fs++[.agg (cL x)]++cs)=true) :
  PC 121 [iH l,.func (.func id) fs cs] (iv (ea f l 0)):=by
 rw[cZ]at hl;refine Xa hP g121.ok rfl rfl ?_;rw[H2.e];unfold g121;dsimp only;refine Za (v:=iv l.length) (rd:=[]) (by simp[Zf]) (Xg (ι:=Nat) (λi vs s=>vs=[iv i]∧i<=l.length∧ea f l 0=ea f (l.drop i) i) (λi=>l.length-i) 0 ⟨rfl,by omega,by simp⟩ ?_);rintro i vs s again ⟨rfl,hi,jS⟩ bn;refine Za rfl (YS (λh=>?_) (λh=>?_))
 ·refine Za (Xm _ cL _ _ _ l _ i h) (Za (bB (pR _)) ?_);refine Yo (hc _ (AT h)) rfl hp (hr _) ?_;rw[gI h,ea]at jS;refine Ya (λh2=>?_) (λh2=>?_)
  ·rw[aJ h2]at jS;rw[jS];rfl
  ·rw[aE (by rw[h2];simp)]at jS;refine Za (Qj ..) ?_;rw[Qc (n:=i) (by omega)];exact bn (i+1) _ _ (by omega) ⟨rfl,by omega,by rw[jS];push_cast;rfl⟩
 ·subst h;rw[zAD,ea]at jS;rw[jS]
theorem W2(t:Tx):∀(l:List Cd) (n:Nat),((fZ n l t).2=true∧n<=(fZ n l t).1∧(fZ n l t).1<n+l.length∧ea (λc=>c.name==t) l (n:Int)=((fZ n l t).1:Int))∨((fZ n l t)=(0,false)∧ea (λc=>c.name==t) l (n:Int) = -1)
 |[],n=>.inr ⟨rfl,rfl⟩
 |c::l,n=>by
  by_cases h:c.name==t
  ·left;have e1:fZ n (c::l) t=(n,true):=aJ h;have e2:ea (λc:Cd=>c.name==t) (c::l) (n:Int)=n:=aJ h;rw[e1,e2];simp
  ·have e1:fZ n (c::l) t=fZ (n+1) l t:=aE h;have e2:ea (λc:Cd=>c.name==t) (c::l) (n:Int)=ea (λc:Cd=>c.name==t) l ((n+1:Nat):Int):=by
    have:=(aE h:(if (c.name==t)=true then (n:Int)else ea (λc:Cd=>c.name==t) l ((n:Int)+1))=_)
    push_cast;exact this
   rw[e1,e2];rcases W2 t l (n+1)with ⟨q1,q2,q3,q4⟩|q
   ·exact .inl ⟨q1,by omega,by simp;omega,q4⟩
   ·exact .inr q
theorem c244(c:Cd)(t:Tx):PC 178 [.agg (cL c),.aq [.str t] 0] (.bool (c.name==t)):=by
 refine Xa hP g178.ok rfl rfl ?_;rw[H2.e];unfold g178;dsimp only;exact Yd rfl rfl (Za rfl (Za (ld rfl rfl) (Za rfl (Za rfl rfl))))
theorem c243(l:List Cd)(hl:l.length<=gn)(t:Tx)(x:ab)(K:KT)(hK:∀cs σ,cs.all aa.cell=true→cs.length=12→K (.bp [.agg cs,iv (fZ 0 l t).1,.bool (fZ 0 l t).2]) ([x,.box [.str t]]++σ)) :
  g177.u VV [iH l,.func (.func 178) [] [.ak 1 0]] [x,.box [.str t]] K:=by
 have hc:=c259 l hl 178 [] [.aq [.str t] 0] g178.ok.plain (λc=>c.name==t) (λx _=>c244 x t) (λx=>rfl);rw[H2.e];unfold g177;dsimp only;refine Yd rfl rfl (YG hc rfl g121.ok.plain rfl rfl ?_);clear hc;rcases W2 t l 0 with ⟨q1,q2,q3,q4⟩|⟨q1,q4⟩
 ·rw[No]at q3;have q4:ea (λc=>c.name==t) l 0=((fZ 0 l t).1:Int):=q4;rw[q4];rw[q1]at hK;generalize (fZ 0 l t).1=i at q2 q3 hK ⊢;refine Za (ZS ..) ?_;rw[gm (by omega)];refine Ye (Za (Xm _ cL _ _ _ l _ i q3) (Za (bB (pR _)) ?_));exact ay (hK (cL l[i]) _ rfl rfl)
 ·have q4:ea (λc=>c.name==t) l 0 = -1:=q4;rw[q4];rw[q1]at hK;exact ay (hK [.str [],.bool false,iv 0,iv 0,iv 0,iv 0,iv 0,iv 0,.an,.an,.an,iv 0] _ rfl rfl)
theorem Zd8(cs:List aa)(h:cs.all aa.cell=true):cellsOf (.agg cs)=some cs:=by simp[cellsOf,h]
theorem XbJ{α:Type}:∀(a b:List α),a.length=b.length→cc 0 a b=some a
 |[],[],_=>rfl
 |x::a,y::b,h=>by simp only[cc,XbJ a b (by simpa using h)]
theorem c224(b:Bk)(hl:b.ai.length<=gn)(t:Tx):PC 130 [cC b,.str t] (.bp [iv (fZ 0 b.ai t).1,.bool (fZ 0 b.ai t).2]):=by
 refine Xa hP g130.ok rfl rfl ?_;rw[H2.e];unfold g130;dsimp only;refine ay (Qd hP rfl g177.ok rfl (c243 b.ai hl t _ _ (λcs σ h1 h2=>?_)));refine ay ?_;refine Qu (row:=cs) (row':=cs) (Zd8 cs h1) (by rw[h2];rfl) (XbJ _ _ (by rw[h2];rfl)) ?_;rfl
end Go.Ah.Tz
end
