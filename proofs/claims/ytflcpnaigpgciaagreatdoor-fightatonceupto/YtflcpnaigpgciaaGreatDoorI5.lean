/- Part of the proof that FightAtOnce holds of the program for arguments that together hold at most 1048576 values and letters; no other condition. -/
import Derived.Test.YtflcpnaigpgciaaGreatDoorI4
import Derived.Test.YtflcpnaigpgciaaGreatDoorRows
import Derived.Test.YtflcpnaigpgciaaGreatDoorCards
import Derived.Test.YtflcpnaigpgciaaGreatDoorTie
import Derived.ProofKit
import Derived.OpenShut
import Derived.Carry
import Derived.SevenTiedAt
import Derived.JoinedCond
import Derived.LaidMore
import Derived.SizedLaws
import Derived.Stop.LaidErr
import Derived.Deep.DeepHandedRow
import Derived.Deep.DeepWitnessRowRef
import Derived.Lib.LaidTab
import Derived.Sort.OwnSortedInts
import Derived.Shelf.Sort.Plain
import Derived.Test.YtflcpnaigpgciaaGreatDoorChecked
import Derived.Shelf.Slices.In.SortNone
set_option linter.all false
section
namespace Go.Ah.Tz
open Go.Proofs.Tryz (prog)
theorem MayP.le{b:Bk}{s:St}(h:MayP b s):StLe 1000000 s:=by
 have l:∀ {x:Sd},SideP b x→SdLe 1000000 x:=λ{x} S=>by
  have h1:=(QZ.1 S.deck).1;have h2:=(QZ.1 S.hand).1;have h3:=(QZ.1 S.grave).1;have h4:=(QZ.1 S.told).1;have h5:=S.units;exact⟨by omega,by omega,by omega,by omega,by omega⟩
 refine⟨?_,l h.s0,l h.s1⟩;by_cases hp:s.phase=1
 ·have:=(h.at_.2 hp).2.1; omega
 ·rw[h.at_.1 hp]; simp
section
variable {b:Bk} (hf:bkFit b=true) (hsm:Zt b.cards) {s:St} (hs:StLe 2000000 s) (hm:mayR (bkR b).1 b s true=true)
include hf hsm hs hm
end
end Go.Ah.Tz
end
section
namespace Go.Ah.Tz
open Go.Proofs.Tryz (prog)
structure Kp (b:Bk) (s:St) (τ:List ABlk) (n:Nat):Prop where
 len:τ.length=n
 lo:15≤n
 h0:hget τ 0=.box (bkC b)
 h1:hget τ 1=.box (stC s)
 hc:hget τ 14=.box (stO s 3)
 kk:∀i x,(stB s)[i]?=some x→hget τ (3+i)=x
end Go.Ah.Tz
end
section
namespace Go.Ah.Tz
open Go.Proofs.Tryz (prog)
open Go.Proofs.YtflcpnaigpgciaaGreatDoor.Rows (uptoBulk uptoBulkAll)
variable {H:Type}
theorem XN(b:List UInt8):uptoBulk (DataW.lit (H:=H) (.string b))=b.length+1:=by simp only[uptoBulk]
theorem ZJ(ds:List (DataW H)):uptoBulk (.agg ds)=uptoBulkAll ds+1:=by simp only[uptoBulk]
theorem ZcM(es sp:List (DataW H)):uptoBulk (.slice es sp)=uptoBulkAll es+uptoBulkAll sp+1:=by simp only[uptoBulk]
theorem Xx(d:DataW H)(ds:List (DataW H)):uptoBulkAll (d::ds)=uptoBulk d+uptoBulkAll ds:=by simp only[uptoBulkAll]
theorem Xcv(d:DataW H):1≤uptoBulk d:=by
 cases d with
 |lit l=>cases l<;>simp[uptoBulk]
 |_=>simp[uptoBulk]
def Xs(P:Program)(t:TypeId):Option (List TypeId):=match P.underlying t with
 |some (.struct fs)=>some (fs.toList.map (·.type))
 |_=>none
theorem YE{P:Program}{fuel:Nat}{t:TypeId}{xs:List AVal}{d:DataW H}{ts:List TypeId}(h:Typed P fuel t xs d)(hs:Xs P t=some ts):∃f parts ds,fuel=f+1∧xs=parts.flatten∧d=.agg ds∧Tri (Typed P f) ts parts ds:=by
 cases fuel with
 |zero=>exact h.elim
 |succ f=>
  unfold Typed at h;unfold Xs at hs;split at hs
  ·rename_i fs e;rw[e] at h;cases hs;obtain⟨parts,ds,h1,h2,h3⟩:=h;exact⟨f,parts,ds,rfl,h1,h2,h3⟩
  ·cases hs
theorem Yu{P:Program}{fuel:Nat}{t:TypeId}{xs:List AVal}{d:DataW H}{k:IntKind}(h:Typed P fuel t xs d)(hu:P.underlying t=some (.int k)):∃n,xs=[.int k n]∧(Lit.int k n).wf=true∧d=.lit (.int k n):=by
 cases fuel with
 |zero=>exact h.elim
 |succ f=>unfold Typed at h; rw[hu] at h; exact h
theorem Ybx{P:Program}{fuel:Nat}{t:TypeId}{xs:List AVal}{d:DataW H}(h:Typed P fuel t xs d)(hu:P.underlying t=some .bool):∃b,xs=[.bool b]∧d=.lit (.bool b):=by
 cases fuel with
 |zero=>exact h.elim
 |succ f=>unfold Typed at h; rw[hu] at h; exact h
theorem Qbn{P:Program}{fuel:Nat}{t:TypeId}{xs:List AVal}{d:DataW H}(h:Typed P fuel t xs d)(hu:P.underlying t=some .string):∃s,xs=[.str s]∧d=.lit (.string s):=by
 cases fuel with
 |zero=>exact h.elim
 |succ f=>unfold Typed at h; rw[hu] at h; exact h
theorem Ycs{P:Program}{fuel:Nat}{e:TypeId}{X:Type}(toC:X→List AVal)(m:X→Nat)(Q:X→Prop){B:Nat}(hx:∀xs (d:DataW H),Typed P fuel e xs d→uptoBulk d≤B→∃x,xs=toC x∧Q x∧m x≤uptoBulk d) :
  ∀ {rows:List (List AVal)} {es:List (DataW H)},Two (Typed P fuel e) rows es→uptoBulkAll es≤B→∃l:List X,rows=l.map toC∧(∀x∈l,Q x)∧(l.map m).sum≤uptoBulkAll es∧l.length≤uptoBulkAll es
 |[],[],_,_=>⟨[],rfl,by simp,by simp,by simp⟩
 |r::rows,d::es,h,hb=>by
  rw[Xx] at hb;obtain⟨x,e1,q1,m1⟩:=hx r d h.1 (by omega);obtain⟨l,e2,q2,s2,l2⟩:=Ycs toC m Q hx h.2 (by omega);refine⟨x::l,by rw[e1,e2]; rfl,λy hy=>?_,?_,?_⟩
  ·rcases List.mem_cons.1 hy with rfl|hy
   ·exact q1
   ·exact q2 y hy
  ·rw[List.map_cons,List.sum_cons,Xx]; omega
  ·have:=Xcv d;rw[List.length_cons,Xx]; omega
 |[],_::_,h,_=>h.elim
 |_::_,[],h,_=>h.elim
theorem QC{P:Program}{fuel:Nat}{t e:TypeId}{n:Nat}{xs:List AVal}{d:DataW H}{X:Type}(toC:X→List AVal)(m:X→Nat)(Q:X→Prop){B:Nat}(h:Typed P fuel t xs d)(hu:P.underlying t=some (.slice e))(hn:P.cellsOf e=n)
 (hx:∀f,f<fuel→∀xs (d:DataW H),Typed P f e xs d→uptoBulk d≤B→∃x,xs=toC x∧Q x∧m x≤uptoBulk d)(hb:uptoBulk d≤B) :
  ∃l:List X,xs=[.rsl false false n (l.map toC)]∧(∀x∈l,Q x)∧(l.map m).sum≤uptoBulk d∧l.length≤uptoBulk d:=by
 cases fuel with
 |zero=>exact h.elim
 |succ f=>
  unfold Typed at h;rw[hu] at h;subst hn;obtain⟨rows,rfl,⟨rfl,rfl⟩|⟨es,sp,rfl,h2⟩⟩:=h
  ·exact⟨[],rfl,by simp,by simp,by simp⟩
  ·rw[ZcM] at hb ⊢;obtain⟨l,rfl,q,s,k⟩:=Ycs toC m Q (hx f (by omega)) h2 (by omega);exact⟨l,rfl,q,by omega,by omega⟩
theorem YcV{P:Program}{fuel:Nat}{t e:TypeId}{xs:List AVal}{d:DataW H}(h:Typed P fuel t xs d)(hu:P.underlying t=some (.array 2 e)):∃f p q a b,fuel=f+1∧xs=p++q∧d=.agg [a,b]∧Typed P f e p a∧Typed P f e q b:=by
 cases fuel with
 |zero=>exact h.elim
 |succ f=>
  unfold Typed at h;rw[hu] at h;obtain⟨parts,ds,rfl,rfl,hl,h2⟩:=h
  match parts,hl,h2 with
  |[p,q],_,h2=>
   obtain⟨a,ds,rfl,ha,h2⟩:=h2.cons;obtain⟨b,ds,rfl,hb,h2⟩:=h2.cons
   match ds,h2 with
   |[],_=>exact⟨f,p,q,a,b,rfl,by simp,rfl,ha,hb⟩
theorem wf8{n:Int}(h:(Lit.int .i8 n).wf=true):i8B n=true:=by
 have h1:IntKind.i8.min = -128:=by decide
 have h2:IntKind.i8.max=127:=by decide
 simp only[Lit.wf,h1,h2] at h;exact h
theorem wf64{n:Int}(h:(Lit.int .i64 n).wf=true):i64B n=true:=by
 have h1:IntKind.i64.min = -9223372036854775808:=by decide
 have h2:IntKind.i64.max=9223372036854775807:=by decide
 simp only[Lit.wf,h1,h2] at h;exact h
theorem Ybh{l:List Nm}(h:∀x∈l,nmFit x=true):ZaO l=true:=by
 induction l with
 |nil=>rfl
 |cons x l ih=>simp only[ZaO,Bool.and_eq_true]; exact⟨h x (List.mem_cons_self ..),ih λy hy=>h y (List.mem_cons_of_mem _ hy)⟩
theorem XbZ{l:List Cn}(h:∀x∈l,cnFit x=true):XaU l=true:=by
 induction l with
 |nil=>rfl
 |cons x l ih=>simp only[XaU,Bool.and_eq_true]; exact⟨h x (List.mem_cons_self ..),ih λy hy=>h y (List.mem_cons_of_mem _ hy)⟩
theorem QaJ{l:List Ef}(h:∀x∈l,efFit x=true):Zaw l=true:=by
 induction l with
 |nil=>rfl
 |cons x l ih=>simp only[Zaw,Bool.and_eq_true]; exact⟨h x (List.mem_cons_self ..),ih λy hy=>h y (List.mem_cons_of_mem _ hy)⟩
theorem Xa5:∀l:List Nm,(nmPs l).length=(l.map λx=>(nmP x).length).sum
 |[]=>rfl
 |x::l=>by simp only[nmPs,List.length_append,List.map_cons,List.sum_cons,Xa5 l]
theorem Qbz:∀l:List Cn,(cnPs l).length=(l.map λx=>(cnP x).length).sum
 |[]=>rfl
 |x::l=>by simp only[cnPs,List.length_append,List.map_cons,List.sum_cons,Qbz l]
theorem QaD:∀l:List Ef,(efPs l).length=(l.map λx=>(efP x).length).sum
 |[]=>rfl
 |x::l=>by simp only[efPs,List.length_append,List.map_cons,List.sum_cons,QaD l]
theorem bigLe{n k:Nat}(h:n≤k)(hk:k≤1048576):decide (n≤big)=true:=decide_eq_true (Nat.le_trans h (Nat.le_trans hk (by decide)))
abbrev Qcq:TypeId:=26
abbrev Qz:TypeId:=3
abbrev Ybm:TypeId:=4
abbrev Za8:TypeId:=9
abbrev YcX:TypeId:=64
abbrev XcG:TypeId:=62
abbrev ZcX:TypeId:=137
abbrev QcT:TypeId:=135
abbrev Qc6:TypeId:=192
abbrev Xbm:TypeId:=80
abbrev Xc6:TypeId:=82
abbrev XcT:TypeId:=22
abbrev Zc7:TypeId:=96
abbrev ZcU:TypeId:=23
abbrev QcG:TypeId:=94
abbrev Xcq:TypeId:=25
abbrev Qc7:TypeId:=51
abbrev XcU:TypeId:=28
abbrev Qap:TypeId:=27
abbrev Xdb:TypeId:=30
abbrev YcU:TypeId:=31
abbrev Zcr:TypeId:=33
theorem YcL:prog.underlying Qcq=some (.int .i8):=by kernel_rfl
theorem XM:prog.underlying Qz=some (.int .i64):=by kernel_rfl
theorem Zbo:prog.underlying Ybm=some .bool:=by kernel_rfl
theorem Xcs:prog.underlying Za8=some .string:=by kernel_rfl
theorem Yc9:prog.underlying XcG=some (.slice YcX):=by kernel_rfl
theorem u_cns:prog.underlying QcT=some (.slice ZcX):=by kernel_rfl
theorem XcV:prog.underlying Xbm=some (.slice Qc6):=by kernel_rfl
theorem u_cds:prog.underlying XcT=some (.slice Xc6):=by kernel_rfl
theorem u_fos:prog.underlying ZcU=some (.slice Zc7):=by kernel_rfl
theorem Qc9:prog.underlying QcG=some (.slice Za8):=by kernel_rfl
theorem u_ths:prog.underlying XcU=some (.slice Qc7):=by kernel_rfl
theorem Zc9:prog.underlying Qap=some (.slice Qz):=by kernel_rfl
theorem u_sds:prog.underlying YcU=some (.array 2 Xdb):=by kernel_rfl
theorem n_nm:prog.cellsOf YcX=4:=by kernel_rfl
theorem n_cn:prog.cellsOf ZcX=5:=by kernel_rfl
theorem n_ef:prog.cellsOf Qc6=14:=by kernel_rfl
theorem n_cd:prog.cellsOf Xc6=12:=by kernel_rfl
theorem n_fo:prog.cellsOf Zc7=7:=by kernel_rfl
theorem Qc4:prog.cellsOf Za8=1:=by kernel_rfl
theorem n_th:prog.cellsOf Qc7=4:=by kernel_rfl
theorem n_int:prog.cellsOf Qz=1:=by kernel_rfl
theorem s_nm:Xs prog YcX=some [Qcq,Qz,Qcq,XcG]:=by kernel_rfl
theorem s_cn:Xs prog ZcX=some [Qcq,Qcq,Za8,XcG,QcT]:=by kernel_rfl
theorem s_ef:Xs prog Qc6=some [Qcq,Qcq,YcX,Za8,ZcX,Xbm,Xbm]:=by kernel_rfl
theorem s_cd:Xs prog Xc6=some [Za8,Ybm,Qz,Qz,Qz,Qz,Qz,Qz,Xbm,Xbm,Xbm,Qz]:=by kernel_rfl
theorem s_fo:Xs prog Zc7=some [Za8,Qz,Qz,Qz,QcG,QcG,Qz]:=by kernel_rfl
theorem s_bk:Xs prog Xcq=some [XcT,ZcU]:=by kernel_rfl
theorem s_th:Xs prog Qc7=some [Qz,Qz,Qz,Ybm]:=by kernel_rfl
theorem s_sd:Xs prog Xdb=some [Qz,Qz,Qz,Qap,Qap,Qap,XcU,Qap]:=by kernel_rfl
theorem s_st:Xs prog Zcr=some [Qz,Qz,Qcq,Ybm,Qcq,Qap,Qz,YcU]:=by kernel_rfl
theorem Zc8(fuel:Nat):∀xs (d:DataW H),Typed prog fuel YcX xs d→uptoBulk d≤1048576→∃x,xs=nmC x∧nmFit x=true∧(nmP x).length≤uptoBulk d:=by
 induction fuel using Nat.strongRecOn with
 |_ fuel ih=>
 intro xs d h hb;obtain⟨f,parts,ds,rfl,rfl,rfl,r⟩:=YE h s_nm;obtain⟨p0,parts,d0,ds,rfl,rfl,h0,r⟩:=r.cons;obtain⟨p1,parts,d1,ds,rfl,rfl,h1,r⟩:=r.cons;obtain⟨p2,parts,d2,ds,rfl,rfl,h2,r⟩:=r.cons;obtain⟨p3,parts,d3,ds,rfl,rfl,h3,r⟩:=r.cons;obtain⟨rfl,rfl⟩:=r.nil;obtain⟨v0,rfl,w0,rfl⟩:=Yu h0 YcL;obtain⟨v1,rfl,w1,rfl⟩:=Yu h1 XM;obtain⟨v2,rfl,w2,rfl⟩:=Yu h2 YcL;simp only[ZJ,Xx,XN] at hb ⊢;obtain⟨l,rfl,q,s,k⟩:=QC nmC (λx=>(nmP x).length) (λx=>nmFit x=true) h3 Yc9 n_nm (λf' hf=>ih f' (by omega)) (show uptoBulk d3≤1048576 by omega);refine⟨.mk v0 v1 v2 l,by rw[QG]; rfl,?_,?_⟩
 ·simp only[nmFit,bigLe k (show uptoBulk d3≤1048576 by omega),Ybh q,wf8 w0,wf64 w1,Bool.and_self]
 ·simp only[nmP,List.length_cons,Xa5]; omega
theorem ty_cn(fuel:Nat):∀xs (d:DataW H),Typed prog fuel ZcX xs d→uptoBulk d≤1048576→∃x,xs=cnC x∧cnFit x=true∧(cnP x).length≤uptoBulk d:=by
 induction fuel using Nat.strongRecOn with
 |_ fuel ih=>
 intro xs d h hb;obtain⟨f,parts,ds,rfl,rfl,rfl,r⟩:=YE h s_cn;obtain⟨p0,parts,d0,ds,rfl,rfl,h0,r⟩:=r.cons;obtain⟨p1,parts,d1,ds,rfl,rfl,h1,r⟩:=r.cons;obtain⟨p2,parts,d2,ds,rfl,rfl,h2,r⟩:=r.cons;obtain⟨p3,parts,d3,ds,rfl,rfl,h3,r⟩:=r.cons;obtain⟨p4,parts,d4,ds,rfl,rfl,h4,r⟩:=r.cons;obtain⟨rfl,rfl⟩:=r.nil;obtain⟨v0,rfl,w0,rfl⟩:=Yu h0 YcL;obtain⟨v1,rfl,w1,rfl⟩:=Yu h1 YcL;obtain⟨v2,rfl,rfl⟩:=Qbn h2 Xcs;simp only[ZJ,Xx,XN] at hb ⊢;obtain⟨l,rfl,q,s,k⟩:=QC nmC (λx=>(nmP x).length) (λx=>nmFit x=true) h3 Yc9 n_nm (λf' _=>Zc8 f') (show uptoBulk d3≤1048576 by omega);obtain⟨l2,rfl,q2,s2,k2⟩:=QC cnC (λx=>(cnP x).length) (λx=>cnFit x=true) h4 u_cns n_cn (λf' hf=>ih f' (by omega)) (show uptoBulk d4≤1048576 by omega);refine⟨.mk v0 v1 v2 l l2,by rw[QX]; rfl,?_,?_⟩
 ·simp only[cnFit,bigLe k (show uptoBulk d3≤1048576 by omega),Ybh q,bigLe k2 (show uptoBulk d4≤1048576 by omega),XbZ q2,wf8 w0,Bool.and_self]
 ·simp only[cnP,List.length_cons,List.length_append,Xa5,Qbz]; omega
theorem ty_ef(fuel:Nat):∀xs (d:DataW H),Typed prog fuel Qc6 xs d→uptoBulk d≤1048576→∃x,xs=efC x∧efFit x=true∧(efP x).length≤uptoBulk d:=by
 induction fuel using Nat.strongRecOn with
 |_ fuel ih=>
 intro xs d h hb;obtain⟨f,parts,ds,rfl,rfl,rfl,r⟩:=YE h s_ef;obtain⟨p0,parts,d0,ds,rfl,rfl,h0,r⟩:=r.cons;obtain⟨p1,parts,d1,ds,rfl,rfl,h1,r⟩:=r.cons;obtain⟨p2,parts,d2,ds,rfl,rfl,h2,r⟩:=r.cons;obtain⟨p3,parts,d3,ds,rfl,rfl,h3,r⟩:=r.cons;obtain⟨p4,parts,d4,ds,rfl,rfl,h4,r⟩:=r.cons;obtain⟨p5,parts,d5,ds,rfl,rfl,h5,r⟩:=r.cons;obtain⟨p6,parts,d6,ds,rfl,rfl,h6,r⟩:=r.cons;obtain⟨rfl,rfl⟩:=r.nil;obtain⟨v0,rfl,w0,rfl⟩:=Yu h0 YcL;obtain⟨v1,rfl,w1,rfl⟩:=Yu h1 YcL;obtain⟨v3,rfl,rfl⟩:=Qbn h3 Xcs;simp only[ZJ,Xx,XN] at hb ⊢;obtain⟨n,rfl,qn,kn⟩:=Zc8 _ _ _ h2 (by omega);obtain⟨c,rfl,qc,kc⟩:=ty_cn _ _ _ h4 (by omega);obtain⟨l,rfl,q,s,k⟩:=QC efC (λx=>(efP x).length) (λx=>efFit x=true) h5 XcV n_ef (λf' hf=>ih f' (by omega)) (show uptoBulk d5≤1048576 by omega);obtain⟨l2,rfl,q2,s2,k2⟩:=QC efC (λx=>(efP x).length) (λx=>efFit x=true) h6 XcV n_ef (λf' hf=>ih f' (by omega)) (show uptoBulk d6≤1048576 by omega);refine⟨.mk v0 v1 n v3 c l l2,by rw[YH,QG,QX]; rfl,?_,?_⟩
 ·simp only[efFit,qn,qc,bigLe k (show uptoBulk d5≤1048576 by omega),QaJ q,bigLe k2 (show uptoBulk d6≤1048576 by omega),QaJ q2,wf8 w0,Bool.and_self]
 ·have e1:(if cntOp v0 then nmP n else []).length≤(nmP n).length:=by split<;>simp
  have e2:(if v0=8 then cnP c++(efPs l++efPs l2) else []).length≤(cnP c).length+(efPs l).length+(efPs l2).length:=by
   split
   ·simp only[List.length_append]; omega
   ·simp
  rw[QaD,QaD] at e2;simp only[efP,List.length_cons,List.length_append];omega
theorem Zcs{fuel:Nat}{xs:List AVal}{d:DataW H}(h:Typed prog fuel Xbm xs d)(hb:uptoBulk d≤1048576):∃l,xs=[efV l]∧lsFit l=true∧(efPs l).length≤uptoBulk d:=by
 obtain⟨l,rfl,q,s,k⟩:=QC efC (λx=>(efP x).length) (λx=>efFit x=true) h XcV n_ef (λf' _=>ty_ef f') hb;exact⟨l,rfl,by simp only[lsFit,bigLe k hb,QaJ q,Bool.and_self],by rw[QaD]; exact s⟩
theorem ty_cd(fuel:Nat)(xs:List AVal)(d:DataW H)(h:Typed prog fuel Xc6 xs d)(hb:uptoBulk d≤1048576):∃x,xs=cdC x∧(cdFit x=true∧(cdP x).length≤1048576)∧0≤uptoBulk d:=by
 obtain⟨f,parts,ds,rfl,rfl,rfl,r⟩:=YE h s_cd;obtain⟨p0,parts,d0,ds,rfl,rfl,h0,r⟩:=r.cons;obtain⟨p1,parts,d1,ds,rfl,rfl,h1,r⟩:=r.cons;obtain⟨p2,parts,d2,ds,rfl,rfl,h2,r⟩:=r.cons;obtain⟨p3,parts,d3,ds,rfl,rfl,h3,r⟩:=r.cons;obtain⟨p4,parts,d4,ds,rfl,rfl,h4,r⟩:=r.cons;obtain⟨p5,parts,d5,ds,rfl,rfl,h5,r⟩:=r.cons;obtain⟨p6,parts,d6,ds,rfl,rfl,h6,r⟩:=r.cons;obtain⟨p7,parts,d7,ds,rfl,rfl,h7,r⟩:=r.cons;obtain⟨p8,parts,d8,ds,rfl,rfl,h8,r⟩:=r.cons;obtain⟨p9,parts,d9,ds,rfl,rfl,h9,r⟩:=r.cons;obtain⟨p10,parts,d10,ds,rfl,rfl,h10,r⟩:=r.cons;obtain⟨p11,parts,d11,ds,rfl,rfl,h11,r⟩:=r.cons;obtain⟨rfl,rfl⟩:=r.nil;obtain⟨v0,rfl,rfl⟩:=Qbn h0 Xcs;obtain⟨v1,rfl,rfl⟩:=Ybx h1 Zbo;obtain⟨v2,rfl,w2,rfl⟩:=Yu h2 XM;obtain⟨v3,rfl,w3,rfl⟩:=Yu h3 XM;obtain⟨v4,rfl,w4,rfl⟩:=Yu h4 XM;obtain⟨v5,rfl,w5,rfl⟩:=Yu h5 XM;obtain⟨v6,rfl,w6,rfl⟩:=Yu h6 XM;obtain⟨v7,rfl,w7,rfl⟩:=Yu h7 XM;obtain⟨v11,rfl,w11,rfl⟩:=Yu h11 XM;simp only[ZJ,Xx,XN] at hb ⊢;obtain⟨a,rfl,qa,ka⟩:=Zcs h8 (by omega);obtain⟨b,rfl,qb,kb⟩:=Zcs h9 (by omega);obtain⟨c,rfl,qc,kc⟩:=Zcs h10 (by omega);refine⟨⟨v0,v1,v2,v3,v4,v5,v6,v7,a,b,c,v11⟩,rfl,⟨?_,?_⟩,by omega⟩
 ·simp only[cdFit,bigLe (Nat.le_refl v0.length) (by omega),qa,qb,qc,Bool.and_self]
 ·simp only[cdP,List.length_append]; omega
theorem Qc8(fuel:Nat)(xs:List AVal)(d:DataW H)(h:Typed prog fuel Za8 xs d)(_:uptoBulk d≤1048576):∃x,xs=txC x∧True∧0≤uptoBulk d:=by
 obtain⟨s,rfl,rfl⟩:=Qbn h Xcs;exact⟨s,rfl,trivial,by omega⟩
theorem ty_fo(fuel:Nat)(xs:List AVal)(d:DataW H)(h:Typed prog fuel Zc7 xs d)(hb:uptoBulk d≤1048576):∃x,xs=foC x∧foFit x=true∧0≤uptoBulk d:=by
 obtain⟨f,parts,ds,rfl,rfl,rfl,r⟩:=YE h s_fo;obtain⟨p0,parts,d0,ds,rfl,rfl,h0,r⟩:=r.cons;obtain⟨p1,parts,d1,ds,rfl,rfl,h1,r⟩:=r.cons;obtain⟨p2,parts,d2,ds,rfl,rfl,h2,r⟩:=r.cons;obtain⟨p3,parts,d3,ds,rfl,rfl,h3,r⟩:=r.cons;obtain⟨p4,parts,d4,ds,rfl,rfl,h4,r⟩:=r.cons;obtain⟨p5,parts,d5,ds,rfl,rfl,h5,r⟩:=r.cons;obtain⟨p6,parts,d6,ds,rfl,rfl,h6,r⟩:=r.cons;obtain⟨rfl,rfl⟩:=r.nil;obtain⟨v0,rfl,rfl⟩:=Qbn h0 Xcs;obtain⟨v1,rfl,w1,rfl⟩:=Yu h1 XM;obtain⟨v2,rfl,w2,rfl⟩:=Yu h2 XM;obtain⟨v3,rfl,w3,rfl⟩:=Yu h3 XM;obtain⟨v6,rfl,w6,rfl⟩:=Yu h6 XM;simp only[ZJ,Xx,XN] at hb ⊢;obtain⟨a,rfl,_,_,ka⟩:=QC txC (λ_=>0) (λ_=>True) h4 Qc9 Qc4 (λf' _=>Qc8 f') (show uptoBulk d4≤1048576 by omega);obtain⟨b,rfl,_,_,kb⟩:=QC txC (λ_=>0) (λ_=>True) h5 Qc9 Qc4 (λf' _=>Qc8 f') (show uptoBulk d5≤1048576 by omega);refine⟨⟨v0,v1,v2,v3,a,b,v6⟩,rfl,?_,by omega⟩;simp only[foFit,bigLe (Nat.le_refl v0.length) (by omega),bigLe ka (show uptoBulk d4≤1048576 by omega),bigLe kb (show uptoBulk d5≤1048576 by omega),Bool.and_self]
theorem ty_bk{fuel:Nat}{xs:List AVal}{d:DataW H}(h:Typed prog fuel Xcq xs d)(hb:uptoBulk d≤1048576):∃x,xs=bkC x∧bkFit x=true∧Zt x.cards:=by
 obtain⟨f,parts,ds,rfl,rfl,rfl,r⟩:=YE h s_bk;obtain⟨p0,parts,d0,ds,rfl,rfl,h0,r⟩:=r.cons;obtain⟨p1,parts,d1,ds,rfl,rfl,h1,r⟩:=r.cons;obtain⟨rfl,rfl⟩:=r.nil;simp only[ZJ,Xx,XN] at hb ⊢;obtain⟨a,rfl,q,_,k⟩:=QC cdC (λ_=>0) (λx=>cdFit x=true∧(cdP x).length≤1048576) h0 u_cds n_cd (λf' _=>ty_cd f') (show uptoBulk d0≤1048576 by omega);obtain⟨b,rfl,q2,_,k2⟩:=QC foC (λ_=>0) (λx=>foFit x=true) h1 u_fos n_fo (λf' _=>ty_fo f') (show uptoBulk d1≤1048576 by omega);refine⟨⟨a,b⟩,rfl,?_,λc hc=>Nat.le_trans (q c hc).2 (by decide)⟩;simp only[bkFit,Zaf,bigLe k (show uptoBulk d0≤1048576 by omega),bigLe k2 (show uptoBulk d1≤1048576 by omega),Bool.true_and,Bool.and_eq_true,List.all_eq_true];exact⟨λc hc=>(q c hc).1,q2⟩
theorem ty_th(fuel:Nat)(xs:List AVal)(d:DataW H)(h:Typed prog fuel Qc7 xs d)(hb:uptoBulk d≤1048576):∃x,xs=thC x∧True∧0≤uptoBulk d:=by
 obtain⟨f,parts,ds,rfl,rfl,rfl,r⟩:=YE h s_th;obtain⟨p0,parts,d0,ds,rfl,rfl,h0,r⟩:=r.cons;obtain⟨p1,parts,d1,ds,rfl,rfl,h1,r⟩:=r.cons;obtain⟨p2,parts,d2,ds,rfl,rfl,h2,r⟩:=r.cons;obtain⟨p3,parts,d3,ds,rfl,rfl,h3,r⟩:=r.cons;obtain⟨rfl,rfl⟩:=r.nil;obtain⟨v0,rfl,w0,rfl⟩:=Yu h0 XM;obtain⟨v1,rfl,w1,rfl⟩:=Yu h1 XM;obtain⟨v2,rfl,w2,rfl⟩:=Yu h2 XM;obtain⟨v3,rfl,rfl⟩:=Ybx h3 Zbo;simp only[ZJ,Xx,XN] at hb ⊢;exact⟨⟨v0,v1,v2,v3⟩,rfl,trivial,by omega⟩
theorem ty_i(fuel:Nat)(xs:List AVal)(d:DataW H)(h:Typed prog fuel Qz xs d)(_:uptoBulk d≤1048576):∃x,xs=cel x∧True∧0≤uptoBulk d:=by
 obtain⟨s,rfl,_,rfl⟩:=Yu h XM;exact⟨s,rfl,trivial,by omega⟩
theorem Xbn{fuel:Nat}{xs:List AVal}{d:DataW H}(h:Typed prog fuel Qap xs d)(hb:uptoBulk d≤1048576):∃l,xs=[rowV l]∧l.length≤2000000:=by
 obtain⟨l,rfl,_,_,k⟩:=QC cel (λ_=>0) (λ_=>True) h Zc9 n_int (λf' _=>ty_i f') hb;exact⟨l,rfl,by omega⟩
theorem Xc8{fuel:Nat}{xs:List AVal}{d:DataW H}(h:Typed prog fuel Xdb xs d)(hb:uptoBulk d≤1048576):∃x,xs=sdC x∧SdLe 2000000 x:=by
 obtain⟨f,parts,ds,rfl,rfl,rfl,r⟩:=YE h s_sd;obtain⟨p0,parts,d0,ds,rfl,rfl,h0,r⟩:=r.cons;obtain⟨p1,parts,d1,ds,rfl,rfl,h1,r⟩:=r.cons;obtain⟨p2,parts,d2,ds,rfl,rfl,h2,r⟩:=r.cons;obtain⟨p3,parts,d3,ds,rfl,rfl,h3,r⟩:=r.cons;obtain⟨p4,parts,d4,ds,rfl,rfl,h4,r⟩:=r.cons;obtain⟨p5,parts,d5,ds,rfl,rfl,h5,r⟩:=r.cons;obtain⟨p6,parts,d6,ds,rfl,rfl,h6,r⟩:=r.cons;obtain⟨p7,parts,d7,ds,rfl,rfl,h7,r⟩:=r.cons;obtain⟨rfl,rfl⟩:=r.nil;obtain⟨v0,rfl,w0,rfl⟩:=Yu h0 XM;obtain⟨v1,rfl,w1,rfl⟩:=Yu h1 XM;obtain⟨v2,rfl,w2,rfl⟩:=Yu h2 XM;simp only[ZJ,Xx,XN] at hb ⊢;obtain⟨a,rfl,ka⟩:=Xbn h3 (by omega);obtain⟨b,rfl,kb⟩:=Xbn h4 (by omega);obtain⟨c,rfl,kc⟩:=Xbn h5 (by omega);obtain⟨u,rfl,_,_,ku⟩:=QC thC (λ_=>0) (λ_=>True) h6 u_ths n_th (λf' _=>ty_th f') (show uptoBulk d6≤1048576 by omega);obtain⟨t,rfl,kt⟩:=Xbn h7 (by omega);exact⟨⟨v0,v1,v2,a,b,c,u,t⟩,rfl,ka,kb,kc,by show u.length≤_; omega,kt⟩
theorem ty_st{fuel:Nat}{xs:List AVal}{d:DataW H}(h:Typed prog fuel Zcr xs d)(hb:uptoBulk d≤1048576):∃x,xs=stC x∧StLe 2000000 x:=by
 obtain⟨f,parts,ds,rfl,rfl,rfl,r⟩:=YE h s_st;obtain⟨p0,parts,d0,ds,rfl,rfl,h0,r⟩:=r.cons;obtain⟨p1,parts,d1,ds,rfl,rfl,h1,r⟩:=r.cons;obtain⟨p2,parts,d2,ds,rfl,rfl,h2,r⟩:=r.cons;obtain⟨p3,parts,d3,ds,rfl,rfl,h3,r⟩:=r.cons;obtain⟨p4,parts,d4,ds,rfl,rfl,h4,r⟩:=r.cons;obtain⟨p5,parts,d5,ds,rfl,rfl,h5,r⟩:=r.cons;obtain⟨p6,parts,d6,ds,rfl,rfl,h6,r⟩:=r.cons;obtain⟨p7,parts,d7,ds,rfl,rfl,h7,r⟩:=r.cons;obtain⟨rfl,rfl⟩:=r.nil;obtain⟨v0,rfl,w0,rfl⟩:=Yu h0 XM;obtain⟨v1,rfl,w1,rfl⟩:=Yu h1 XM;obtain⟨v2,rfl,w2,rfl⟩:=Yu h2 YcL;obtain⟨v3,rfl,rfl⟩:=Ybx h3 Zbo;obtain⟨v4,rfl,w4,rfl⟩:=Yu h4 YcL;obtain⟨v6,rfl,w6,rfl⟩:=Yu h6 XM;simp only[ZJ,Xx,XN] at hb ⊢;obtain⟨a,rfl,ka⟩:=Xbn h5 (by omega);obtain⟨f',p,q,da,db,rfl,rfl,rfl,hp,hq⟩:=YcV h7 u_sds;simp only[ZJ,Xx] at hb;obtain⟨x,rfl,kx⟩:=Xc8 hp (by omega);obtain⟨y,rfl,ky⟩:=Xc8 hq (by omega);exact⟨⟨v0,v1,v2,v3,v4,a,v6,x,y⟩,rfl,ka,kx,ky⟩
end Go.Ah.Tz
end
section
namespace Go.Proofs.YtflcpnaigpgciaaGreatDoor
open Go.ChangeShapes Go.WideShapes Go.ChangeAt Go.RowKit Go.Ah Go.Ah.Tz
theorem Qa5{H:Type}{enc:TypeId×Value→H}{P:Program}{f:Func}{s:ChangeSpec}{apart fresh handsOn again:Bool}{W W':World}{args:Array Value}{v:Value}{ds gs:List (DataW H)}{before pa pv:List MemPlace}
 (hW:DataW.Whole enc P f.params.toList s.vars apart W args.toList ds gs before)
 (hres:∀(b:Nat) (sp:Nat→Bool) (hd:Bool),DataW.TrodAll enc P W' b sp hd f.resultTypes.toList (v.resultList f.resultTypes.size) (s.fn H (ds++gs)).results [])
 (hargs:∀sp:Nat→Bool,(∀p∈before,sp p.block=true)→DataW.TrodAll enc P W' 0 sp true f.params.toList args.toList (s.fn H (ds++gs)).args pa)
 (hvars:∀sp:Nat→Bool,(∀p∈before,sp p.block=true)→DataW.TrodVars enc P W' sp s.vars (s.fn H (ds++gs)).vars pv)
 (hps:before=pa++pv)(hb:Below W.heap.size W W')
 (hok:∀(j:Nat) (t:TypeId) (r:Value),f.resultTypes[j]?=some t→(v.resultList f.resultTypes.size)[j]?=some r→Value.okWide P W' .any 0 t r) :
  s.post enc P f apart fresh handsOn again W args v W':=by
 have hold:∀p∈before,(λb=>decide (b<W.heap.size)) p.block=true:=λp hp=>by simpa using hW.lt p hp
 refine⟨ds,gs,before,[],pa,pv,hW,hres _ _ _,hargs _ hold,hvars _ hold,World.keptBut_mono (λp hp=>⟨hp,?_⟩) (hb.frame (·∈before)),λ_=>?_⟩
 ·rw[hps,List.mem_append] at hp;exact Or.inr hp
 ·have hlt:=hW.lt;obtain⟨_,_,_,_,_,hz,hn⟩:=hW;refine⟨hok,_,_,([]++pa)++pv,⟨[]++pa,pv,trodAll_append (hargs _ (λ_ _=>rfl)) (hres _ _ _),hvars _ (λ_ _=>rfl),rfl,?_,?_⟩,?_⟩
  ·intro b off hp;have hin:MemPlace.cell b off∈before:=by rw[hps]; simpa using hp
   rw[hb.frozen (p:=⟨b,off,none⟩) (show b<W.heap.size from hlt _ hin)];exact hz b off hin
  ·intro ha;have:=hn ha;rw[hps] at this;simpa using this
  ·intro p hp _;rw[hps];simpa using hp
set_option maxRecDepth 100000
abbrev t_u8:TypeId:=5
abbrev Xc7:TypeId:=318
theorem d_own:ownKnob Tryz.prog.godebug=none:=by kernel_rfl
theorem Zc0:Tryz.prog.globalNamed "strings.asciiSpace" = some 0:=by kernel_rfl
theorem Yb2:(Tryz.prog.globals[0]?).map (·.type)=some Xc7:=by kernel_rfl
theorem Zb2:laidOutB Tryz.prog=true:=by kernel_rfl
def spaces:List Int:=(List.range 256).map λi=>match (Nat.ble 9 i&&Nat.ble i 13)||Nat.beq i 32 with|true=>1|false=>0
theorem ZcN{l:List (String×DataW Unit)}{x:String×DataW Unit}(hl:l=[x,("strings.asciiSpace",Lib.tabData .u8 spaces)]){W:World}(h:laidMet Tryz.prog l W):∀p∈GL0,Den (λb=>W.heap[b]?) noOwn (.rptr p.2 0) (.pointer (some ⟨p.1,0,none⟩)):=by
 subst hl;have ht:Lib.TabIs Tryz.prog W "strings.asciiSpace" .u8 spaces:=Lib.tabIs_of_head (rest:=[]) Zc0 Yb2 (show Tryz.prog.underlying Xc7=some (.array 256 t_u8) by kernel_rfl) (show Tryz.prog.underlying t_u8=some (.int .u8) by kernel_rfl) (by kernel_rfl) (by kernel_rfl) h.tail;have hlen:spaces.length=256:=by simp[spaces]
 have hrow:row0=spaces.map (AVal.int .u8):=by rw[row0,spaces,List.map_map]; rfl
 intro p hp;simp only[GL0,List.mem_singleton] at hp;subst hp;refine .rptr _ row0 0 0 0 (λk=>.int .u8 (spaces.getD k 0)) (λk hk=>?_) (λk y hy=>?_)
 ·have hk':k<spaces.length:=by rw[hrow,List.length_map] at hk; exact hk
  have:=(ZbX (ht.cell Zc0 k hk')).2;rw[Nat.zero_add]; exact this
 ·rw[hrow,List.getElem?_map] at hy;obtain⟨z,hz,rfl⟩:=Option.map_eq_some_iff.1 hy;have:spaces.getD k 0=z:=by simp[List.getD,hz]
  rw[this]; exact .int _ _ _
def Xa2:List TypeId:=[Qcq,Qz,Ybm,Za8,YcX,XcG,ZcX,QcT,Qc6,Xbm,Xc6,XcT,Zc7,ZcU,QcG,Xcq,Qc7,XcU,Qap,Xdb,YcU,Zcr]
theorem Zbb:Xa2.all (tyOk Tryz.prog Xa2)=true:=by kernel_rfl
theorem YcZ{M:Nat→Option Obj}{xs:List AVal}{cs:Array Value}(h:DL M xs cs.toList):Den M noOwn (.agg xs) (.agg cs):=
 .agg _ _ _ (by have:=h.1; simpa using this.symm) (λi x v h1 h2=>h.2 i x v h1 (by simpa using h2))
theorem Zbm{P:Program}{t:TypeId}{ts:List TypeId}(h:Xs P t=some ts):∃fs,P.underlying t=some (.struct fs):=by
 unfold Xs at h;split at h
 ·rename_i fs e; exact⟨fs,e⟩
 ·cases h
section
variable {H:Type} {enc:TypeId×Value→H} {W:World} {base:Nat} {v:Value} {d:DataW H} {ps:List MemPlace}
theorem XcZ(ho:Value.okWide Tryz.prog W .any base Xcq v)(h:DataW.Trod enc Tryz.prog W 0 (λ_=>true) true Xcq v d ps)(hb:Rows.uptoBulk d≤1048576):∃b:Bk,bkFit b=true∧Zt b.cards∧Den (λk=>W.heap[k]?) noOwn (bkV b) v:=by
 obtain⟨fs,hfs⟩:=Zbm s_bk;obtain⟨cs,rfl,_⟩:=okWide_struct hfs ho;obtain⟨fuel,hf⟩:=h;obtain⟨_,xs,h1,h2⟩:=Zaq (S:=Xa2) Zbb fuel Xcq (by decide) _ _ ⟨_,hf⟩;obtain⟨b,rfl,k1,k2⟩:=ty_bk h2 hb;exact⟨b,k1,k2,YcZ h1⟩
theorem YcN(ho:Value.okWide Tryz.prog W .any base Zcr v)(h:DataW.Trod enc Tryz.prog W 0 (λ_=>true) true Zcr v d ps)(hb:Rows.uptoBulk d≤1048576):∃s:St,StLe 2000000 s∧Den (λk=>W.heap[k]?) noOwn (stV s) v:=by
 obtain⟨fs,hfs⟩:=Zbm s_st;obtain⟨cs,rfl,_⟩:=okWide_struct hfs ho;obtain⟨fuel,hf⟩:=h;obtain⟨_,xs,h1,h2⟩:=Zaq (S:=Xa2) Zbb fuel Zcr (by decide) _ _ ⟨_,hf⟩;obtain⟨s,rfl,k⟩:=ty_st h2 hb;exact⟨s,k,YcZ h1⟩
theorem QcZ(ho:Value.okWide Tryz.prog W .any base Qz v)(h:DataW.Trod enc Tryz.prog W 0 (λ_=>true) true Qz v d ps):∃n:Int,Den (λk=>W.heap[k]?) noOwn (iv n) v:=by
 obtain⟨n,rfl,_⟩:=open_int XM ho h;exact⟨n,.int _ _ _⟩
end
theorem ZaJ{H:Type}{enc:TypeId×Value→H}{t:TypeId}(hr:Tryz.prog.readableRec t=true)(hrow:t<Tryz.prog.types.size){W W':World}{v:Value}{d:DataW H}{ps all:List MemPlace}(h:DataW.Trod enc Tryz.prog W 0 (λ_=>true) true t v d ps)(hb:Below W.heap.size W W')(hlt:∀p∈all,p.block<W.heap.size)(hin:∀p∈ps,p∈all){sp:Nat→Bool}(hs:∀p∈all,sp p.block=true):DataW.Trod enc Tryz.prog W' 0 sp true t v d ps:=
 WideElems.Trod_stays Zb2 hr hrow h (λp hp=>hb.same (hlt p (hin p hp))) (λp hp=>hs p (hin p hp))
theorem XbA(t:TypeId)(h:(Tryz.prog.readableRec t&&decide (t<Tryz.prog.types.size))=true):Tryz.prog.readableRec t=true∧t<Tryz.prog.types.size:=by simpa using h
theorem r_bk:Tryz.prog.readableRec Xcq=true∧Xcq<Tryz.prog.types.size:=XbA Xcq (by kernel_rfl)
theorem r_st:Tryz.prog.readableRec Zcr=true∧Zcr<Tryz.prog.types.size:=XbA Zcr (by kernel_rfl)
theorem YcC:Tryz.prog.readableRec Qz=true∧Qz<Tryz.prog.types.size:=XbA Qz (by kernel_rfl)
def Zcw:List Int:=[9,13,1,32,133,101,160,5760,5600,8192,8202,1,8232,8233,1,8239,8287,48,12288,12288,1]
noncomputable def Qbr (os:Os):World:=
 let w0:=World.holding Tryz.prog os ⟨#[],#[],[]⟩
 let put (h:Array Obj) (g:Nat) (cs:Array Value):Array Obj:=h.modify g fun
  |.cells _ t frozen=>.cells cs t frozen
  |o=>o
 let h1:=put w0.heap 0 (spaces.map λz=>Value.int .u8 z).toArray
 let h2:=put h1 1 #[.pointer (some ⟨w0.heap.size,0,none⟩)]
 { w0 with heap:=(h2.push (.cells #[.slice (some ⟨w0.heap.size+1,0,none⟩) 7 7,.slice none 0 0,.int .i64 2] 328 (0,0))).push (.cells (Zcw.map λz=>Value.int .u16 z).toArray 331 (0,0)) }
theorem Ql{a b:Bool}(h:a=true)(k:b=true):(a&&b)=true:=by rw[h,k]; rfl
end Go.Proofs.YtflcpnaigpgciaaGreatDoor
end
section
namespace Go.Ah.Tz
open Go.Proofs.Tryz (prog)
attribute [local irreducible] Ans.rd Ans.pu Ans.wr Ans.dr Ans.gr Ans.gw Ans.gl Ans.gd Ans.opt joinK W
set_option maxHeartbeats 4000000
theorem c55(b:Bk)(hf:bkFit b=true)(hsm:Zt b.cards)(s:St)(hs:StLe 1000000000 s):PC 55 [bkV b,stV s] (iv (bif mayR (bkR b).1 b s false then 0 else 170)):=by
 refine Ze hP g55_ok rfl rfl ?_;unfold g55;refine Zd (v:=.bptr 0 0) (rd:=[]) (up:=[(0,.box (bkC b))]) rfl rfl ?_;refine Zd (v:=.bptr 1 0) (rd:=[]) (up:=[(1,.box (stC s))]) rfl rfl ?_;refine YN (rd:=[0,1]) (c111 b hf hsm s hs false) rfl g111_ok.plain (.cons (Bor.box (row:=bkC b) rfl (by simp) (BorL.ro rfl)) <| .cons (Bor.box (row:=stC s) rfl (by simp) (BorL.ro rfl)) <| .cons (Bor.ro rfl) .nil) rfl ?_;generalize mayR (bkR b).1 b s false=q;cases q with
 |true=>exact Ya rfl (Xh rfl)
 |false=>exact Ya rfl (Zg rfl)
end Go.Ah.Tz
end
section
namespace Go.Ah.Tz
open Go.Proofs.Tryz (prog)
def prC(p:Int×Int):List AVal:=[iv p.1,iv p.2]
@[reducible] def prV(l:List (Int×Int)):AVal:=.rsl false false 2 (l.map prC)
theorem ZbT(s:St)(id:Int):(∃k:Nat,∃u,unitR s id=(0,(k:Int),true)∧s.s0.units[k]?=some u)∨(∃k:Nat,∃u,unitR s id=(1,(k:Int),true)∧s.s1.units[k]?=some u)∨unitR s id=(0,0,false):=by
 unfold unitR;cases q0:fnd s.s0.units id with
 |some k=>obtain⟨u,hk,_⟩:=Xaw q0; exact .inl ⟨k,u,rfl,hk⟩
 |none=>
  cases q1:fnd s.s1.units id with
  |some k=>obtain⟨u,hk,_⟩:=Xaw q1; exact .inr (.inl ⟨k,u,rfl,hk⟩)
  |none=>exact .inr (.inr rfl)
end Go.Ah.Tz
end
section
namespace Go.Ah.Tz
open Go.Proofs.Tryz (prog)
attribute [local irreducible] Ans.rd Ans.pu Ans.wr Ans.dr Ans.gr Ans.gw Ans.gl Ans.gd Ans.opt joinK W
set_option maxHeartbeats 8000000
theorem c176(l:List Int)(hl:l.length≤1000000000)(x:Int):∃n:Int,PC 176 [rowV l,iv x] (iv n)∧decide (n ≥ 0)=l.any λy=>decide (y=x):=by
 have key:∀n:Int,(∀i:Nat,i≤l.length→((l.take i).any λy=>decide (y=x))=false→(∀h:i<l.length,l[i]=x→n=i)∧(i=l.length→n = -1))→PC 176 [rowV l,iv x] (iv n):=by
  intro n hn;refine Ze hP g176_ok rfl rfl ?_;unfold g176;refine Ya (v:=iv l.length) (rd:=[]) (by simp[Zf]) ?_;refine Xo (ι:=Nat) (λi vs σ=>vs=[iv i]∧i≤l.length∧((l.take i).any λy=>decide (y=x))=false) (λi=>l.length-i) 0 ⟨rfl,by omega,rfl⟩ ?_;rintro i vs σ again ⟨rfl,hi,hu⟩ hag;refine Ya (Qx ..) (Qc (λh=>?_) (λh=>?_))
  ·have h:i<l.length:=by simpa using h
   refine Ya (Qu _ cel false false 1 l .i64 i h) (Ya (ldr rfl) (Ya (Yi ..) (Qc (λhe=>?_) (λhe=>?_))))
   ·have he:l[i]=x:=by simp at he; exact he.symm
    rw[(hn i hi hu).1 h he];rfl
   ·refine Ya (Qn ..) ?_;rw[Xg (n:=i) (by omega)];refine hag (i+1) _ _ (by omega) ⟨rfl,by omega,?_⟩;rw[List.take_succ_eq_append_getElem h,List.any_append,hu];have he:¬x=l[i]:=by simpa using he
    simpa using λk=>he k.symm
  ·have h:i=l.length:=by simp at h; omega
   rw[(hn i hi hu).2 h]
 cases hf:l.findIdx? (λy=>decide (y=x)) with
 |none=>
  have hn:∀y∈l,¬y=x:=by simpa[List.findIdx?_eq_none_iff] using hf
  refine⟨-1,key _ (λi hi _=>⟨λh e=>(hn _ (List.getElem_mem h) e).elim,λ_=>rfl⟩),?_⟩;have:(l.any λy=>decide (y=x))=false:=by simpa using hn
  rw[this]; rfl
 |some k=>
  obtain⟨hk,h2,h3⟩:=List.findIdx?_eq_some_iff_getElem.1 hf;have h2:l[k]=x:=by simpa using h2
  refine⟨k,key _ (λi hi hu=>⟨λh e=>?_,λh=>?_⟩),?_⟩
  ·rcases Nat.lt_trichotomy i k with q|q|q
   ·have h4:¬l[i]=x:=by simpa using h3 i q
    exact(h4 e).elim
   ·rw[q]
   ·have:((l.take i).any λy=>decide (y=x))=true:=List.any_eq_true.2 ⟨_,List.mem_take_iff_getElem.2 ⟨k,by omega,rfl⟩,by simpa using h2⟩;rw[this] at hu; cases hu
  ·have:((l.take i).any λy=>decide (y=x))=true:=List.any_eq_true.2 ⟨_,List.mem_take_iff_getElem.2 ⟨k,by omega,rfl⟩,by simpa using h2⟩;rw[this] at hu; cases hu
  ·have:(l.any λy=>decide (y=x))=true:=List.any_eq_true.2 ⟨_,List.getElem_mem hk,by simpa using h2⟩;rw[this]; simp
theorem c138(l:List Int)(hl:l.length≤1000000000)(x:Int):PC 138 [rowV l,iv x] (.bool (l.any λy=>decide (y=x))):=by
 obtain⟨n,h1,h2⟩:=c176 l hl x;refine Ze hP g138_ok rfl rfl ?_;unfold g138;rw[←h2];exact Ye h1 rfl g176_ok.plain rfl (Ya (Qaq ..) rfl)
end Go.Ah.Tz
end
section
namespace Go.Ah.Tz
open Go.Proofs.Tryz (prog)
open Go.Proofs.YtflcpnaigpgciaaGreatDoor.Rows (uptoBulk uptoBulkAll)
variable {H:Type}
abbrev t_ac:TypeId:=72
abbrev YaR:TypeId:=70
abbrev Yc7:TypeId:=151
theorem Xc9:prog.underlying YaR=some (.slice Yc7):=by kernel_rfl
theorem n_pr:prog.cellsOf Yc7=2:=by kernel_rfl
theorem s_pr:Xs prog Yc7=some [Qz,Qz]:=by kernel_rfl
theorem ty_pr(fuel:Nat)(xs:List AVal)(d:DataW H)(h:Typed prog fuel Yc7 xs d)(hb:uptoBulk d≤1048576):∃x,xs=prC x∧True∧0≤uptoBulk d:=by
 obtain⟨f,parts,ds,rfl,rfl,rfl,r⟩:=YE h s_pr;obtain⟨p0,parts,d0,ds,rfl,rfl,h0,r⟩:=r.cons;obtain⟨p1,parts,d1,ds,rfl,rfl,h1,r⟩:=r.cons;obtain⟨rfl,rfl⟩:=r.nil;obtain⟨v0,rfl,w0,rfl⟩:=Yu h0 XM;obtain⟨v1,rfl,w1,rfl⟩:=Yu h1 XM;exact⟨(v0,v1),rfl,trivial,by omega⟩
theorem Yc8{fuel:Nat}{xs:List AVal}{d:DataW H}(h:Typed prog fuel YaR xs d)(hb:uptoBulk d≤1048576):∃l,xs=[prV l]∧l.length≤2000000:=by
 obtain⟨l,rfl,_,_,k⟩:=QC prC (λ_=>0) (λ_=>True) h Xc9 n_pr (λf' _=>ty_pr f') hb;exact⟨l,rfl,by omega⟩
end Go.Ah.Tz
namespace Go.Proofs.YtflcpnaigpgciaaGreatDoor
open Go.ChangeShapes Go.WideShapes Go.ChangeAt Go.RowKit Go.Ah Go.Ah.Tz
set_option maxRecDepth 100000
def Qa2:List TypeId:=[Qcq,Qz,t_ac,YaR,Yc7,Qap]
theorem QbL:Qa2.all (tyOk Tryz.prog Qa2)=true:=by kernel_rfl
end Go.Proofs.YtflcpnaigpgciaaGreatDoor
end
section
namespace Go.Proofs.YtflcpnaigpgciaaGreatDoor
open Go.ChangeShapes Go.WideShapes Go.ChangeAt Go.RowKit Go.Ah Go.Ah.Tz
set_option maxRecDepth 100000
theorem Xc5:Tryz.prog.readableRec YaR=true∧YaR<Tryz.prog.types.size:=XbA YaR (by kernel_rfl)
section
variable {H:Type} {enc:TypeId×Value→H} {W:World} {base:Nat} {v:Value} {d:DataW H} {ps:List MemPlace}
theorem d_prs(ho:Value.okWide Tryz.prog W .any base YaR v)(h:DataW.Trod enc Tryz.prog W 0 (λ_=>true) true YaR v d ps)(hb:Rows.uptoBulk d≤1048576):∃l:List (Int×Int),l.length≤1000000000∧Den (λk=>W.heap[k]?) noOwn (prV l) v:=by
 obtain⟨a,len,cap,rfl⟩:=okWide_slice Xc9 ho;obtain⟨fuel,hf⟩:=h;obtain⟨_,xs,h1,h2⟩:=Zaq (S:=Qa2) QbL fuel YaR (by decide) _ _ ⟨_,hf⟩;obtain⟨l,rfl,k⟩:=Yc8 h2 hb;exact⟨l,by omega,h1.2 0 _ _ rfl rfl⟩
end
end Go.Proofs.YtflcpnaigpgciaaGreatDoor
end
section
namespace Go.Ah
open Go.Sort (Holds putRow grow putCells)
def SortC(P:Program)(f:FuncId):Prop:=∀(blk off cap:Nat) (zs:List Int) (w:World),Holds (Value.int .i64) w blk off zs.toArray→blk<w.heap.size→zs.length<4611686018427387904 →
 Calls P f #[.slice (some ⟨blk,off,none⟩) zs.length cap] w λe w'=>e=.returned (.tuple #[])∧∃n os,w'=grow (putRow (Value.int .i64) (Sort.ahead w n) blk off (zs.mergeSort λx y=>decide (x≤y)).toArray) os
def srt(l:List Int):List Int:=l.mergeSort λx y=>decide (x≤y)
theorem Zbx(l:List Int):(srt l).length=l.length:=by simp[srt]
theorem ZcF(l:List Int):(srt l).Perm l:=List.mergeSort_perm l _
theorem Qc5(l:List Int):(srt l).Pairwise (·≤·):=by
 have:=List.pairwise_mergeSort (le:=λx y:Int=>decide (x≤y)) (λa b c h k=>by simp at h k ⊢; omega) (λa b=>by simp; omega) l;exact this.imp (λh=>by simpa using h)
section
variable {P:Program} {GL:Globs}
theorem XbJ{f:FuncId}(hs:SortC P f){h0:Hp}{b:Nat}{zs:List Int}{ex:Bool}(hb:h0 b=some (.rows 1 (zs.map λz=>[.int .i64 z])))(hne:zs≠[])(hlen:zs.length<4611686018427387904) :
  ACall P GL f [.sl b 0 zs.length ex] h0 (.tup []) [] [(b,.rows 1 ((srt zs).map λz=>[.int .i64 z]))]:=by
 intro w0 L g h w vs r hx _ hup;have hb':h b=some (.rows 1 (zs.map λz=>[.int .i64 z])):=by rw[hup (b,_) (List.mem_singleton.2 rfl)]; exact hb
 have hpos:0<zs.length:=List.length_pos_iff.2 hne
 match vs,hx with
 |[v],hx=>
 have hd:=hx.1;generalize hk:zs.length=k at hd;cases hd with
 |slv _ _ _ cb a ec hv=>omega
 |sl _ _ _ _ _ cb cap ec hv h1 h2 h3=>
 subst hk;obtain⟨hM,hin,_⟩:=r.own b _ cb hb' rfl ec hv;obtain⟨hsz,arr,T,ho,ht,hle,_,hcell⟩:=r.rowsBlk hb' ec hv;simp only[List.length_map,Nat.mul_one] at hle;have htake:arr.toList.take zs.length=zs.map (Value.int .i64):=by
  apply List.ext_getElem?;intro j;by_cases hj:j<zs.length
  ·rw[List.getElem?_take_of_lt hj,List.getElem?_map,List.getElem?_eq_getElem hj,Array.getElem?_toList];obtain⟨u,hu⟩:∃u,arr[j]?=some u:=⟨arr[j]'(by omega),by simp[show j<arr.size by omega]⟩;have:=hcell j [.int .i64 zs[j]] 0 (.int .i64 zs[j]) u (by simp[hj]) rfl (by simpa using hu);rw[hu];cases this;rfl
  ·rw[List.getElem?_take_eq_none (by omega),List.getElem?_eq_none (by simp; omega)]
 have hlt:cb.blk<w.heap.size:=(Array.getElem?_eq_some_iff.1 ho).1;have h0':0*cb.sz=0:=by simp
 rw[h0'];refine(hs cb.blk 0 cap zs w (holds_of_blockI ho htake) hlt hlen).mono ?_;rintro e w' ⟨rfl,n,os,rfl⟩;refine⟨_,rfl,g,Gm.Le.refl _,?_,.tup _ [] #[] rfl (by simp)⟩;have hl2:(srt zs).length=zs.length:=Zbx zs;have r1:=r.write (b:=b) (blk':=.rows 1 ((srt zs).map λz=>[.int .i64 z])) (o':=.cells (putCells (Value.int .i64) 0 (srt zs).toArray arr) T (0,0)) (w':={ w with heap:=w.heap.setIfInBounds cb.blk (.cells (putCells (Value.int .i64) 0 (srt zs).toArray arr) T (0,0)) }) hb' rfl ec hv rfl rfl rfl rfl rfl ⟨hsz,_,T,rfl,by simp[putCells,ht],by simp; omega,by simp,?_⟩
 ·have hgr:=grownBy_sortedI (w:=w) (g:=cb.blk) (n:=n) (os:=os) (srt zs).toArray;have hh:=heap_sortedI (w:=w) (g:=cb.blk) (n:=n) (os:=os) (srt zs).toArray ho;refine r1.after (M:=λ_=>none) (M':=g.M) ?_ (MLe.refl _) (λc o ec'=>?_) (λc o ec'=>.inl ec')
  ·refine⟨rfl,rfl,rfl,?_,λk hk _=>?_⟩
   ·show (w.heap.setIfInBounds _ _).size≤_;rw[Array.size_setIfInBounds]; exact hgr.size
   ·have hk':k<w.heap.size:=by simpa using hk
    show _=(w.heap.setIfInBounds _ _)[k]?;by_cases e:k=cb.blk
    ·subst e;rw[show (w.heap.setIfInBounds cb.blk _)[cb.blk]?=_ from Array.getElem?_setIfInBounds_self_of_lt hk'];exact hh
    ·rw[Array.getElem?_setIfInBounds_ne (λq=>e q.symm)];exact hgr.block k hk' (λq=>e (Option.some.inj q))
  ·have hc:c<w.heap.size:=r.stable_lt ec';exact(hgr.block c hc (λq=>by cases q; rw[hM] at ec'; cases ec')).trans (r.stable c o ec')
 ·intro i row j x v hi hj hv';rw[List.getElem?_map] at hi;obtain⟨z,hz,rfl⟩:=Option.map_eq_some_iff.1 hi;have hj0:j=0:=by
   have:=(YLG hj).1;simpa using this
  subst hj0;cases hj;have hi':i<(srt zs).length:=(YLG hz).1;simp only[putCells,Nat.mul_one,Nat.add_zero,Array.getElem?_mapIdx] at hv';have hai:i<arr.size:=by omega
  rw[Array.getElem?_eq_getElem hai,Option.map_some,if_pos ⟨Nat.zero_le _,by simpa using hi'⟩] at hv';have:(srt zs).toArray[i-0]! = z:=by
   rw[Nat.sub_zero];rw[getElem!_pos _ i (by simpa using hi')];have:=(YLG hz).2;simpa using this
  rw[this] at hv';cases hv';exact .int _ _ _
end
theorem Qcv{row:List AVal}(h:row.all AVal.cell=true):cellsOf (.agg row)=some row:=by simp[cellsOf,h]
theorem ZcI{row:List AVal}(h:row.all AVal.cell=true)(σ:List ABlk):Zm [.agg row] σ=.ok (.bptr σ.length 0) [] [(σ.length,.box row)]:=by rw[e_box,Qcv h]
theorem Xb3(n:Nat)(σ:List ABlk)(x:AVal)(z cs:List AVal)(hx:fill z [(0,n)] [x]=some cs)(hc:chunk n 1 cs=some [cs]):Zh n 1 z [(0,n)] [x] σ=.ok (.sl σ.length 0 1 true) [] [(σ.length,.rows n [cs])]:=by simp only[Zh,hx,hc]
theorem Bor.more{h0:Hp}{rd rd':List Nat}{x y:AVal}(h:Bor h0 rd x y)(hs:∀b∈rd,b∈rd'):Bor h0 rd' x y:=
 λGL w0 L g h' w M2 r hM hrd v d=>h GL w0 L g h' w M2 r hM (λb hb=>hrd b (hs b hb)) v d
theorem Yai:∀ {rs:List (List AVal)},(∀r∈rs,r.all AVal.cell=true)→Ys rs=true
 |[],_=>rfl
 |r::rs,h=>by simp only[Ys,Bool.and_eq_true]; exact⟨h r (by simp),Yai λx hx=>h x (by simp[hx])⟩
theorem Zcn{σ:List ABlk}{n c k:Nat}{ex2:Bool}{rs2:List (List AVal)}(hc:hget σ c=.rows n rs2)(hl2:rs2.length=k):Qy n σ (.sl c 0 k ex2)=some (rs2,[c]):=by
 simp only[Qy,hc];simp[cut,hl2];rw[show Nat.ble k k=true from Nat.ble_eq_true_of_le (Nat.le_refl _)];simp[←hl2]
theorem X4(n by_:Nat){σ:List ABlk}{b c len k:Nat}{ex ex2:Bool}{rs rs2:List (List AVal)}(hb:hget σ b=.rows n rs)(hc:hget σ c=.rows n rs2)(hl:rs.length=len)(hl2:rs2.length=k)(hr:Ys rs2=true)(hroom:(2*(len+k)+192)*by_≤2 ^ 48) :
  Qg n by_ [.sl b 0 len ex,.sl c 0 k ex2] σ=.ok (.sl σ.length 0 (len+k) false) [c] ([(b,.dead)]++[(σ.length,.rows n (rs++rs2))]):=by
 have h2:Nat.ble ((2*(len+k)+192)*by_) (2 ^ 48)=true:=Nat.ble_eq_true_of_le hroom;have:Qg n by_ [.sl b 0 len ex,.sl c 0 k ex2] σ=ZB n by_ σ rs [(b,.dead)] (.sl c 0 k ex2):=by
  simp[Qg,Yav,hb,hl]
 rw[this];unfold ZB;simp only[Zcn hc hl2,hr,hl2,h2,Bool.and_self,cond_true,hl]
theorem Y4(n by_:Nat){σ:List ABlk}{c k:Nat}{ex2:Bool}{rs2:List (List AVal)}(hc:hget σ c=.rows n rs2)(hl2:rs2.length=k)(hr:Ys rs2=true)(hroom:(2*k+192)*by_≤2 ^ 48) :
  Qg n by_ [.nils,.sl c 0 k ex2] σ=.ok (.sl σ.length 0 k false) [c] ([]++[(σ.length,.rows n rs2)]):=by
 have h3:Nat.ble ((2*k+192)*by_) (2 ^ 48)=true:=Nat.ble_eq_true_of_le hroom;show ZB n by_ σ [] [] (.sl c 0 k ex2)=_;unfold ZB;simp only[Zcn hc hl2,hr,hl2,List.length_nil,h3,Bool.and_self,cond_true,Nat.zero_add,List.nil_append]
theorem QcH(n by_:Nat){σ:List ABlk}{b len:Nat}{ex e nn:Bool}{rs rows:List (List AVal)}(hb:hget σ b=.rows n rs)(hl:rs.length=len)(hr:Ys rows=true)(hroom:(2*(len+rows.length)+192)*by_≤2 ^ 48) :
  Qg n by_ [.sl b 0 len ex,.rsl e nn n rows] σ=.ok (.sl σ.length 0 (len+rows.length) false) [] ([(b,.dead)]++[(σ.length,.rows n (rs++rows))]):=by
 have h1:Qy n σ (.rsl e nn n rows)=some (rows,[]):=by simp[Qy]
 have h2:Nat.ble ((2*(len+rows.length)+192)*by_) (2 ^ 48)=true:=Nat.ble_eq_true_of_le hroom;have:Qg n by_ [.sl b 0 len ex,.rsl e nn n rows] σ=ZB n by_ σ rs [(b,.dead)] (.rsl e nn n rows):=by
  simp[Qg,Yav,hb,hl]
 rw[this];unfold ZB;simp only[h1,hr,h2,Bool.and_self,cond_true,hl]
end Go.Ah
end
section
namespace Go.Ah.Tz
open Go.Proofs.Tryz (prog)
theorem QcX{σ:List ABlk}{b:Nat}{l:List Int}{ex:Bool}(h:SortC prog 89)(hb:hget σ b=.rows 1 (l.map cel))(hne:l≠[])(hlen:l.length≤1000000000){K:AVal→List ABlk→Prop}(hK:K (.tup []) (σ.set b (.rows 1 ((srt l).map cel)))) :
  VV.call (.call 89) [.sl b 0 l.length ex] σ K:=
 ZN rfl g89_ok.plain (XbJ h (ZF hb (by simp)) hne (by omega)) (Yo _ (Qi hb (by simp))) hK
end Go.Ah.Tz
end
section
namespace Go.Ah.Tz
open Go.Shelf Go.Proofs
open Go.Proofs.Tryz (prog)
def YbO:Go.Shelf.Ren:=⟨fun|189=>89|125=>129|257=>128|128=>172|129=>173|294=>163|295=>164|296=>165|297=>166|298=>167|299=>168|216=>169|300=>170|301=>171|328=>215|329=>216|330=>217|331=>218|332=>219|215=>220|343=>234|n=>n,fun|28=>27|3=>3|46=>202|0=>0|51=>245|53=>247|4=>4|183=>238|182=>237|131=>209|5=>5|9=>9|218=>276|222=>280|228=>296|229=>125|n=>n,fun|n=>n⟩
theorem lays89:Go.Proofs.Lays.n189 prog YbO:={
 mixed:=by kernel_rfl,
 f125:=Tryz.func129.trans (congrArg some (by kernel_rfl)),
 f128:=Tryz.func172.trans (congrArg some (by kernel_rfl)),
 f129:=Tryz.func173.trans (congrArg some (by kernel_rfl)),
 f189:=Tryz.func89.trans (congrArg some (by kernel_rfl)),
 f215:=Tryz.func220.trans (congrArg some (by kernel_rfl)),
 f216:=Tryz.func169.trans (congrArg some (by kernel_rfl)),
 f257:=Tryz.func128.trans (congrArg some (by kernel_rfl)),
 f294:=Tryz.func163.trans (congrArg some (by kernel_rfl)),
 f295:=Tryz.func164.trans (congrArg some (by kernel_rfl)),
 f296:=Tryz.func165.trans (congrArg some (by kernel_rfl)),
 f297:=Tryz.func166.trans (congrArg some (by kernel_rfl)),
 f298:=Tryz.func167.trans (congrArg some (by kernel_rfl)),
 f299:=Tryz.func168.trans (congrArg some (by kernel_rfl)),
 f300:=Tryz.func170.trans (congrArg some (by kernel_rfl)),
 f301:=Tryz.func171.trans (congrArg some (by kernel_rfl)),
 f328:=Tryz.func215.trans (congrArg some (by kernel_rfl)),
 f329:=Tryz.func216.trans (congrArg some (by kernel_rfl)),
 f330:=Tryz.func217.trans (congrArg some (by kernel_rfl)),
 f331:=Tryz.func218.trans (congrArg some (by kernel_rfl)),
 f332:=Tryz.func219.trans (congrArg some (by kernel_rfl)),
 f343:=Tryz.func234.trans (congrArg some (by kernel_rfl)),
 t0:=Tryz.underlying0,
 a0:=Tryz.isAgg0,
 z0:=Tryz.sizeOf0,
 v0:=Tryz.zeroValue0,
 t3:=Tryz.underlying3,
 a3:=Tryz.isAgg3,
 z3:=Tryz.sizeOf3,
 v3:=Tryz.zeroValue3,
 t4:=Tryz.underlying4,
 a4:=Tryz.isAgg4,
 z4:=Tryz.sizeOf4,
 v4:=Tryz.zeroValue4,
 t5:=Tryz.underlying5,
 a5:=Tryz.isAgg5,
 z5:=Tryz.sizeOf5,
 v5:=Tryz.zeroValue5,
 t9:=Tryz.underlying9,
 a9:=Tryz.isAgg9,
 z9:=Tryz.sizeOf9,
 v9:=Tryz.zeroValue9,
 t28:=Tryz.underlying27,
 a28:=Tryz.isAgg27,
 z28:=Tryz.sizeOf27,
 v28:=Tryz.zeroValue27,
 t46:=Tryz.underlying202,
 a46:=Tryz.isAgg202,
 z46:=Tryz.sizeOf202,
 v46:=Tryz.zeroValue202,
 t51:=Tryz.underlying245,
 a51:=Tryz.isAgg245,
 z51:=Tryz.sizeOf245,
 v51:=Tryz.zeroValue245,
 t53:=Tryz.underlying247,
 a53:=Tryz.isAgg247,
 z53:=Tryz.sizeOf247,
 v53:=Tryz.zeroValue247,
 t131:=Tryz.underlying209,
 a131:=Tryz.isAgg209,
 z131:=Tryz.sizeOf209,
 v131:=Tryz.zeroValue209,
 t182:=Tryz.underlying237,
 a182:=Tryz.isAgg237,
 z182:=Tryz.sizeOf237,
 v182:=Tryz.zeroValue237,
 t183:=Tryz.underlying238,
 a183:=Tryz.isAgg238,
 z183:=Tryz.sizeOf238,
 v183:=Tryz.zeroValue238,
 t218:=Tryz.underlying276,
 a218:=Tryz.isAgg276,
 z218:=Tryz.sizeOf276,
 v218:=Tryz.zeroValue276,
 t222:=Tryz.underlying280,
 a222:=Tryz.isAgg280,
 z222:=Tryz.sizeOf280,
 v222:=Tryz.zeroValue280,
 t228:=Tryz.underlying296,
 a228:=Tryz.isAgg296,
 z228:=Tryz.sizeOf296,
 v228:=Tryz.zeroValue296,
 t229:=Tryz.underlying125,
 a229:=Tryz.isAgg125,
 z229:=Tryz.sizeOf125,
 v229:=Tryz.zeroValue125 }
theorem sort89:SortC prog 89:=λblk off cap zs w hH hb hl=>Any.slices_Sort_int lays89 blk off cap zs w hH hb hl
end Go.Ah.Tz
end
section
namespace Go.Ah.Tz
open Go.Proofs.Tryz (prog)
attribute [local irreducible] Ans.rd Ans.pu Ans.wr Ans.dr Ans.gr Ans.gw Ans.gl Ans.gd Ans.opt joinK W
set_option maxHeartbeats 8000000
def runF(go:Int→Bool)(step:Nat→Int→Int):Nat→Nat→Int→Int
 |0,_,a=>a
 |k+1,i,a=>if go a=true then runF go step k (i+1) (step i a) else a
theorem Xau{go:Int→Bool}{step:Nat→Int→Int}{n i:Nat}{a r:Int}(h:i<n)(hg:go a=true)(hr:runF go step (n-i) i a=r):runF go step (n-(i+1)) (i+1) (step i a)=r:=by
 rw[show n-i=n-(i+1)+1 by omega,runF,if_pos hg] at hr; exact hr
theorem Qac{go:Int→Bool}{step:Nat→Int→Int}{n i:Nat}{a r:Int}(h:¬i<n∨go a=false)(hr:runF go step (n-i) i a=r):a=r:=by
 cases k:n-i with
 |zero=>rw[k] at hr; exact hr
 |succ m=>
  rcases h with h|h
  ·omega
  ·rw[k,runF,if_neg (by rw[h]; simp)] at hr; exact hr
theorem c174(k:Nat):∀x:Nm,SizeOf.sizeOf x≤k→nmFit x=true→∃n,PC 174 [.agg (nmC x)] (iv n):=by
 induction k with
 |zero=>intro x h _; cases x; simp at h
 |succ k ih=>
  intro x hk hf;have hl:=QaN hf;rw[bigE] at hl;have hF:∃F:Nat→Int,∀i (h:i<x.kids.length),PC 174 [.agg (nmC x.kids[i])] (iv (F i)):=by
   refine Classical.axiomOfChoice (r:=λ(i:Nat) (n:Int)=>∀(h:i<x.kids.length),PC 174 [.agg (nmC x.kids[i])] (iv n)) (λi=>?_);by_cases h:i<x.kids.length
   ·have hm:=List.getElem_mem h;obtain⟨n,hn⟩:=ih x.kids[i] (by have:=Qbu hm; omega) (Xao hf hm);exact⟨n,λ_=>hn⟩
   ·exact⟨0,λh'=>(h h').elim⟩
  obtain⟨F,hF⟩:=hF;rw[QG];generalize hr:runF (λ_=>true) (λi a=>min (IntKind.i64.wrap (a+F i)) 100000) (x.kids.length-0) 0 1=r;refine⟨r,Ze hP g174_ok rfl rfl ?_⟩;unfold g174;refine Zd rfl rfl ?_;refine Xo (ι:=Nat) (λi vs σ=>(∃a,vs=[iv i,iv a]∧runF (λ_=>true) (λi a=>min (IntKind.i64.wrap (a+F i)) 100000) (x.kids.length-i) i a=r)∧hget σ 0=.box [iv8 x.op,iv x.n,iv8 x.who,.rsl false false 4 (x.kids.map nmC)]∧i≤x.kids.length) (λi=>x.kids.length-i) 0 ⟨⟨1,rfl,hr⟩,rfl,by omega⟩ ?_;rintro i vs σ again ⟨⟨a,rfl,hr⟩,hB,hi⟩ hag;refine Ya rfl (Ya (ld hB rfl) (Ya (Zf ..) ?_));rw[List.length_map];refine Ya (Qx ..) (Qc (λh=>?_) (λh=>?_))
  ·have h:i<x.kids.length:=by simpa using h
   refine Ya rfl (Ya (ld hB rfl) (Ya (Qu _ nmC false false 4 x.kids .i64 i h) (Ya (v:=.agg (nmC x.kids[i])) (ldr (by rw[QG]; rfl)) ?_)));refine Ye (hF i h) rfl g174_ok.plain (by rw[QG]; rfl) (Ya (Qn ..) (Ya (Xam ..) (Ya (Qn ..) ?_)));rw[Xg (n:=i) (by omega)];exact hag (i+1) _ _ (by omega) ⟨⟨_,rfl,Xau h rfl hr⟩,hB,by omega⟩
  ·exact congrArg iv (Qac (.inl (by simpa using h)) hr)
theorem c175(k:Nat):∀x:Cn,SizeOf.sizeOf x≤k→cnFit x=true→∃n,PC 175 [.agg (cnC x)] (iv n):=by
 induction k with
 |zero=>intro x h _; cases x; simp at h
 |succ k ih=>
  intro x hk hf;have hl1:=Yaa hf;have hl2:=Zaa hf;rw[bigE] at hl1 hl2;have hF:∃F:Nat→Int,∀i (h:i<x.nums.length),PC 174 [.agg (nmC x.nums[i])] (iv (F i)):=by
   refine Classical.axiomOfChoice (r:=λ(i:Nat) (n:Int)=>∀(h:i<x.nums.length),PC 174 [.agg (nmC x.nums[i])] (iv n)) (λi=>?_);by_cases h:i<x.nums.length
   ·obtain⟨n,hn⟩:=c174 _ x.nums[i] (Nat.le_refl _) (Zam hf (List.getElem_mem h));exact⟨n,λ_=>hn⟩
   ·exact⟨0,λh'=>(h h').elim⟩
  have hG:∃F:Nat→Int,∀i (h:i<x.kids.length),PC 175 [.agg (cnC x.kids[i])] (iv (F i)):=by
   refine Classical.axiomOfChoice (r:=λ(i:Nat) (n:Int)=>∀(h:i<x.kids.length),PC 175 [.agg (cnC x.kids[i])] (iv n)) (λi=>?_);by_cases h:i<x.kids.length
   ·have hm:=List.getElem_mem h;obtain⟨n,hn⟩:=ih x.kids[i] (by have:=Ybq hm; omega) (Qal hf hm);exact⟨n,λ_=>hn⟩
   ·exact⟨0,λh'=>(h h').elim⟩
  obtain⟨F,hF⟩:=hF;obtain⟨G,hG⟩:=hG;rw[QX];generalize hr:runF (λ_=>true) (λi a=>min (IntKind.i64.wrap (a+F i)) 100000) (x.nums.length-0) 0 1=r;generalize hr2:runF (λ_=>true) (λi a=>min (IntKind.i64.wrap (a+G i)) 100000) (x.kids.length-0) 0 r=r2;refine⟨r2,Ze hP g175_ok rfl rfl ?_⟩;unfold g175;refine Zd rfl rfl ?_;refine Xo (ι:=Nat) (λi vs σ=>(∃a,vs=[iv i,iv a]∧runF (λ_=>true) (λi a=>min (IntKind.i64.wrap (a+F i)) 100000) (x.nums.length-i) i a=r)∧hget σ 0=.box [iv8 x.op,iv8 x.who,.str x.name,.rsl false false 4 (x.nums.map nmC),.rsl false false 5 (x.kids.map cnC)]∧i≤x.nums.length) (λi=>x.nums.length-i) 0 ⟨⟨1,rfl,hr⟩,rfl,by omega⟩ ?_;rintro i vs σ again ⟨⟨a,rfl,hr⟩,hB,hi⟩ hag;refine Ya rfl (Ya (ld hB rfl) (Ya (Zf ..) ?_));rw[List.length_map];refine Ya (Qx ..) (Qc (λh=>?_) (λh=>?_))
  ·have h:i<x.nums.length:=by simpa using h
   refine Ya rfl (Ya (ld hB rfl) (Ya (Qu _ nmC false false 4 x.nums .i64 i h) (Ya (v:=.agg (nmC x.nums[i])) (ldr (by rw[QG]; rfl)) ?_)));refine Ye (hF i h) rfl g174_ok.plain (by rw[QG]; rfl) (Ya (Qn ..) (Ya (Xam ..) (Ya (Qn ..) ?_)));rw[Xg (n:=i) (by omega)];exact hag (i+1) _ _ (by omega) ⟨⟨_,rfl,Xau h rfl hr⟩,hB,by omega⟩
  obtain rfl:=Qac (.inl (by simpa using h)) hr;clear hag again hr h hi;refine Xo (ι:=Nat) (λi vs σ=>(∃a,vs=[iv i,iv a]∧runF (λ_=>true) (λi a=>min (IntKind.i64.wrap (a+G i)) 100000) (x.kids.length-i) i a=r2)∧hget σ 0=.box [iv8 x.op,iv8 x.who,.str x.name,.rsl false false 4 (x.nums.map nmC),.rsl false false 5 (x.kids.map cnC)]∧i≤x.kids.length) (λi=>x.kids.length-i) 0 ⟨⟨_,rfl,hr2⟩,hB,by omega⟩ ?_;rintro i vs σ again ⟨⟨a,rfl,hr⟩,hB,hi⟩ hag;refine Ya rfl (Ya (ld hB rfl) (Ya (Zf ..) ?_));rw[List.length_map];refine Ya (Qx ..) (Qc (λh=>?_) (λh=>?_))
  ·have h:i<x.kids.length:=by simpa using h
   refine Ya rfl (Ya (ld hB rfl) (Ya (Qu _ cnC false false 5 x.kids .i64 i h) (Ya (v:=.agg (cnC x.kids[i])) (ldr (by rw[QX]; rfl)) ?_)));refine Ye (hG i h) rfl g175_ok.plain (by rw[QX]; rfl) (Ya (Qn ..) (Ya (Xam ..) (Ya (Qn ..) ?_)));rw[Xg (n:=i) (by omega)];exact hag (i+1) _ _ (by omega) ⟨⟨_,rfl,Xau h rfl hr⟩,hB,by omega⟩
  ·exact congrArg iv (Qac (.inl (by simpa using h)) hr)
theorem told{α:Type}(l:List α){Q:α→Int→Prop}(h:∀x∈l,∃n,Q x n):∃F:Nat→Int,∀i (h:i<l.length),Q l[i] (F i):=by
 refine Classical.axiomOfChoice (r:=λ(i:Nat) (n:Int)=>∀(h:i<l.length),Q l[i] n) (λi=>?_);by_cases hi:i<l.length
 ·obtain⟨n,hn⟩:=h l[i] (List.getElem_mem hi);exact⟨n,λ_=>hn⟩
 ·exact⟨0,λh'=>(hi h').elim⟩
theorem c135(k:Nat):∀l:List Ef,SizeOf.sizeOf l≤k→lsFit l=true→∃n,PC 135 [efV l] (iv n):=by
 induction k with
 |zero=>intro l h _; cases l<;>simp at h
 |succ k ih=>
  intro l hk hf;have hl:=YS hf;rw[bigE] at hl;have hm:∀x∈l,efFit x=true∧SizeOf.sizeOf x<SizeOf.sizeOf l:=λx hx=>⟨by simp only[lsFit,Bool.and_eq_true] at hf; exact Yar hf.2 x hx,List.sizeOf_lt_of_mem hx⟩;obtain⟨F1,h1⟩:=told l (Q:=λx n=>PC 174 [.agg (nmC x.n)] (iv n)) (λx hx=>c174 _ x.n (Nat.le_refl _) (XaJ (hm x hx).1));obtain⟨F2,h2⟩:=told l (Q:=λx n=>PC 175 [.agg (cnC x.c)] (iv n)) (λx hx=>c175 _ x.c (Nat.le_refl _) (Zar (hm x hx).1));obtain⟨F3,h3⟩:=told l (Q:=λx n=>PC 135 [efV x.thn] (iv n)) (λx hx=>ih x.thn (by have:=(ZaE x).1; have:=(hm x hx).2; omega) (Y5 (hm x hx).1));obtain⟨F4,h4⟩:=told l (Q:=λx n=>PC 135 [efV x.els] (iv n)) (λx hx=>ih x.els (by have:=(ZaE x).2; have:=(hm x hx).2; omega) (Z5 (hm x hx).1))
  let st:Nat→Int→Int:=λi a=>IntKind.i64.wrap (IntKind.i64.wrap (IntKind.i64.wrap (IntKind.i64.wrap (a+F1 i)+F2 i)+F3 i)+F4 i)
  generalize hr:runF (λa=>decide (a<100000)) st (l.length-0) 0 l.length=r;refine⟨min r 100000,Ze hP g135_ok rfl rfl ?_⟩;unfold g135;refine Ya (Zf ..) ?_;rw[List.length_map];refine Xo (ι:=Nat) (λi vs σ=>(∃a,vs=[iv i,iv a]∧runF (λa=>decide (a<100000)) st (l.length-i) i a=r)∧i≤l.length) (λi=>l.length-i) 0 ⟨⟨_,rfl,hr⟩,by omega⟩ ?_;rintro i vs σ again ⟨⟨a,rfl,hr⟩,hi⟩ hag;refine Ya (Zf ..) ?_;rw[List.length_map];refine Ya (Qx ..) (Qcn (λ_=>rfl) (λ_=>Qx ..) (Qc (λh=>?_) (λh=>?_)))
  ·simp only[Bool.and_eq_true,decide_eq_true_eq] at h;obtain⟨h,hlt⟩:=h;have h:i<l.length:=by omega
   have hix:=λσ=>Qu σ efC false false 14 l .i64 i h
   replace h1:=h1 i h
   replace h2:=h2 i h
   replace h3:=h3 i h
   replace h4:=h4 i h
   have hR:=Xau h (decide_eq_true hlt) hr;generalize l[i]=x at hix h1 h2 h3 h4;refine Qj (hix _) (Yn _) (Yk rfl (Qj (ldr (efLdN x)) (Yn _) (Qp h1 rfl g174_ok.plain (by rw[QG]; rfl) (Yk (Qn ..) ?_))));refine Qj (hix _) (Yn _) (Yk rfl (Qj (ldr (efLdC x)) (Yn _) (Qp h2 rfl g175_ok.plain (by rw[QX]; rfl) (Yk (Qn ..) ?_))));refine Qj (hix _) (Yn _) (Yk rfl (Qj (ldr (Yq x)) (Yn _) (Qp h3 rfl g135_ok.plain rfl (Yk (Qn ..) ?_))));refine Qj (hix _) (Yn _) (Yk rfl (Qj (ldr (Xq x)) (Yn _) (Qp h4 rfl g135_ok.plain rfl (Yk (Qn ..) (QO (XZ (by simp[allRd])) ?_)))));refine Ya (Qn ..) ?_;rw[Xg (n:=i) (by omega)];exact hag (i+1) _ _ (by omega) ⟨⟨_,rfl,hR⟩,by omega⟩
  ·refine Ya (Xam ..) (congrArg iv ?_);rw[Qac (a:=a) ?_ hr];simp only[Bool.and_eq_false_iff,decide_eq_false_iff_not] at h;rcases h with h|h
   ·exact .inl (by omega)
   ·exact .inr (decide_eq_false h)
theorem c133(b:Bk)(hf:bkFit b=true):∃q:Bool,PC 133 [bkV b] (.bool q):=by
 simp only[bkFit,Zaf,Bool.and_eq_true,decide_eq_true_eq] at hf;obtain⟨⟨f0,f3⟩,f1,f2⟩:=hf;rw[bigE] at f0 f1;have hm:∀x∈b.cards,lsFit x.played=true∧lsFit x.dead=true∧lsFit x.dawn=true:=λx hx=>by
  have:=List.all_eq_true.1 f3 x hx;simp only[cdFit,Bool.and_eq_true] at this;exact⟨this.2.1,this.2.2.1,this.2.2.2⟩
 obtain⟨F1,h1⟩:=told b.cards (Q:=λx n=>PC 135 [efV x.played] (iv n)) (λx hx=>c135 _ _ (Nat.le_refl _) (hm x hx).1);obtain⟨F2,h2⟩:=told b.cards (Q:=λx n=>PC 135 [efV x.dead] (iv n)) (λx hx=>c135 _ _ (Nat.le_refl _) (hm x hx).2.1);obtain⟨F3,h3⟩:=told b.cards (Q:=λx n=>PC 135 [efV x.dawn] (iv n)) (λx hx=>c135 _ _ (Nat.le_refl _) (hm x hx).2.2)
 let st:Nat→Int→Int:=λi a=>IntKind.i64.wrap (IntKind.i64.wrap (IntKind.i64.wrap (a+F1 i)+F2 i)+F3 i)
 let st2:Nat→Int→Int:=λi a=>IntKind.i64.wrap (IntKind.i64.wrap (a+((b.formats[i]?).map λf=>(f.banned.length:Int)).getD 0)+((b.formats[i]?).map λf=>(f.single.length:Int)).getD 0)
 generalize hr:runF (λa=>decide (a≤6000)) st (b.cards.length-0) 0 (IntKind.i64.wrap (b.cards.length+b.formats.length))=r;generalize hr2:runF (λa=>decide (a≤6000)) st2 (b.formats.length-0) 0 r=r2;refine⟨decide (r2>6000),Ze hP g133_ok rfl rfl ?_⟩;unfold g133;refine Zd (v:=.bptr 0 0) (rd:=[]) (up:=[(0,.box (bkC b))]) rfl rfl ?_;have lc:∀σ,Qd [cdV b.cards] σ=.ok (iv b.cards.length) [] []:=λσ=>by rw[Zf,List.length_map]
 have lf:∀σ,Qd [foV b.formats] σ=.ok (iv b.formats.length) [] []:=λσ=>by rw[Zf,List.length_map]
 refine Ya rfl (Ya rfl (Ya (lc _) (Ya rfl (Ya rfl (Ya (lf _) (Ya (Qn ..) ?_))))));refine Xo (ι:=Nat) (λi vs σ=>(∃a,vs=[iv i,iv a]∧runF (λa=>decide (a≤6000)) st (b.cards.length-i) i a=r)∧hget σ 0=.box (bkC b)∧i≤b.cards.length) (λi=>b.cards.length-i) 0 ⟨⟨_,rfl,hr⟩,rfl,by omega⟩ ?_;rintro i vs σ again ⟨⟨a,rfl,hr⟩,hB,hi⟩ hag;refine Ya rfl (Ya (ld hB rfl) (Ya (lc _) (Ya (Qx ..) (Qcn (λ_=>rfl) (λ_=>Zb4 ..) (Qc (λh=>?_) (λh=>?_))))))
 ·simp only[Bool.and_eq_true,decide_eq_true_eq] at h;obtain⟨h,hlt⟩:=h;have h:i<b.cards.length:=by omega
  have hix:=Qu σ cdC false false 12 b.cards .i64 i h
  replace h1:=h1 i h
  replace h2:=h2 i h
  replace h3:=h3 i h
  have hR:=Xau h (decide_eq_true hlt) hr;generalize b.cards[i]=x at hix h1 h2 h3;refine Ya rfl (Ya (ld hB rfl) (Ya hix (Ya (ldr (cdLd x)) (Xz (row:=cdC x) (row':=cdC x) rfl rfl rfl ?_))));have hx:=Qh σ (.box (cdC x));refine Yk rfl (Qj (ld hx rfl) (Yn _) (Qp h1 rfl g135_ok.plain rfl (Yk (Qn ..) ?_)));refine Yk rfl (Qj (ld hx rfl) (Yn _) (Qp h2 rfl g135_ok.plain rfl (Yk (Qn ..) ?_)));refine Yk rfl (Qj (ld hx rfl) (Yn _) (Qp h3 rfl g135_ok.plain rfl (Yk (Qn ..) (QO (XZ (by simp[allRd])) ?_))));refine Ya (Qn ..) ?_;rw[Xg (n:=i) (by omega)];exact hag (i+1) _ _ (by omega) ⟨⟨_,rfl,hR⟩,Qf _ hB (by simp),by omega⟩
 obtain rfl:=Qac (a:=a) (by
  simp only[Bool.and_eq_false_iff,decide_eq_false_iff_not] at h;rcases h with h|h
  ·exact .inl (by omega)
  ·exact .inr (decide_eq_false h)) hr
 clear hag again hr h hi;refine Xo (ι:=Nat) (λi vs σ=>(∃a,vs=[iv i,iv a]∧runF (λa=>decide (a≤6000)) st2 (b.formats.length-i) i a=r2)∧hget σ 0=.box (bkC b)∧i≤b.formats.length) (λi=>b.formats.length-i) 0 ⟨⟨_,rfl,hr2⟩,hB,by omega⟩ ?_;rintro i vs σ again ⟨⟨a,rfl,hr⟩,hB,hi⟩ hag;refine Ya rfl (Ya (ld hB rfl) (Ya (lf _) (Ya (Qx ..) (Qcn (λ_=>rfl) (λ_=>Zb4 ..) (Qc (λh=>?_) (λh=>?_))))))
 ·simp only[Bool.and_eq_true,decide_eq_true_eq] at h;obtain⟨h,hlt⟩:=h;have h:i<b.formats.length:=by omega
  have hix:=Qu σ foC false false 7 b.formats .i64 i h;have hR:=Xau h (decide_eq_true hlt) hr;have e:b.formats[i]?=some b.formats[i]:=by simp[h]
  simp only[st2,e,Option.map_some,Option.getD_some] at hR;generalize b.formats[i]=f at hix hR;refine Ya rfl (Ya (ld hB rfl) (Ya hix (Ya rfl (Ya (v:=txV f.banned) (rd:=[]) (ldr rfl) (Ya (v:=iv f.banned.length) (rd:=[]) (by simp[Zf]) (Ya (Qn ..) ?_))))));refine Ya rfl (Ya (ld hB rfl) (Ya hix (Ya rfl (Ya (v:=txV f.single) (rd:=[]) (ldr rfl) (Ya (v:=iv f.single.length) (rd:=[]) (by simp[Zf]) (Ya (Qn ..) ?_))))));refine Ya (Qn ..) ?_;rw[Xg (n:=i) (by omega)];exact hag (i+1) _ _ (by omega) ⟨⟨_,rfl,hR⟩,hB,by omega⟩
 obtain rfl:=Qac (a:=a) (by
  simp only[Bool.and_eq_false_iff,decide_eq_false_iff_not] at h;rcases h with h|h
  ·exact .inl (by omega)
  ·exact .inr (decide_eq_false h)) hr
 exact Ya (Q4 ..) rfl
theorem c134(s:St):∃q:Bool,PC 134 [stV s] (.bool q):=by
 apply Exists.intro;refine Ze hP g134_ok rfl rfl ?_;unfold g134;refine Zd rfl rfl (Ya rfl (Ya rfl (Ya (Zf ..) (QI 3 (Ym ?_)))));refine Ya rfl (Zg (Ya rfl (Ya rfl (Ya rfl (Zd rfl rfl (Zd rfl rfl ?_))))))
 iterate 5 refine Ya rfl (Ya rfl (Ya (Zf ..) (Ya (Qn ..) ?_)))
 refine Ya (Qn ..) (Ym ?_);refine Ya rfl (Zg (Ya rfl (Ya rfl (Ya rfl (Zd rfl rfl (Zd rfl rfl ?_))))))
 iterate 5 refine Ya rfl (Ya rfl (Ya (Zf ..) (Ya (Qn ..) ?_)))
 refine Ya (Qn ..) (Ym ?_);exact Ya rfl (Xh (Ya (Q4 ..) rfl))
theorem c92(b:Bk)(hf:bkFit b=true)(s:St)(l:List Ef)(hl:lsFit l=true):∃q:Bool,PC 92 [bkV b,stV s,efV l] (.bool q):=by
 obtain⟨q1,h1⟩:=c133 b hf;obtain⟨q2,h2⟩:=c134 s;obtain⟨q3,h3⟩:=c135 _ l (Nat.le_refl _) hl;apply Exists.intro;refine Ze hP g92_ok rfl rfl ?_;unfold g92;refine Zd (v:=.bptr 0 0) (rd:=[]) (up:=[(0,.box (bkC b))]) rfl rfl ?_;refine Zd (v:=.bptr 1 0) (rd:=[]) (up:=[(1,.box (stC s))]) rfl rfl ?_;refine Ya rfl (Ya rfl (Ya (Zf ..) (Ya (Q4 ..) ?_)));refine Xbl (v1:=bkV b) (λ_=>rfl) (λ_ k hk=>Ye h1 rfl g133_ok.plain rfl hk) ?_;refine Xbl (v1:=stV s) (λ_=>rfl) (λ_ k hk=>Ye h2 rfl g134_ok.plain rfl hk) ?_;exact Zcq (v1:=efV l) (u0:=iv q3) (λ_=>rfl) (λ_ k hk=>Ye h3 rfl g135_ok.plain rfl hk) (λ_=>Q4 ..) rfl
theorem c43(b:Bk)(hf:bkFit b=true)(s:St){x y:AVal}{n m:Int}(hx:∀σ,Qd [x] σ=.ok (iv n) [] [])(hy:∀σ,Qd [y] σ=.ok (iv m) [] []):∃q:Bool,PC 43 [bkV b,stV s,x,y] (.bool q):=by
 obtain⟨q,h92⟩:=c92 b hf s [] rfl;apply Exists.intro;refine Ze hP g43_ok rfl rfl ?_;unfold g43;refine Zd (v:=.bptr 0 0) (rd:=[]) (up:=[(0,.box (bkC b))]) rfl rfl ?_;refine Zd (v:=.bptr 1 0) (rd:=[]) (up:=[(1,.box (stC s))]) rfl rfl ?_;refine Ya rfl (Ya rfl (YN (rd:=[]) h92 rfl g92_ok.plain (.cons (Bor.ro rfl) <| .cons (Bor.ro rfl) <| .cons (Bor.weak (Bor.ro rfl) (λM u d=>d.nils_rsl 14)) .nil) rfl ?_));refine QaQ (λ_=>rfl) (λ_=>hx _) (λ_=>Q4 ..) ?_;exact QaQ (λ_=>rfl) (λ_=>hy _) (λ_=>Q4 ..) rfl
def sameN(a b:Ev):Bool:=((((decide (a.kind=b.kind)&&decide (a.side=b.side))&&decide (a.card=b.card))&&decide (a.id=b.id))&&decide (a.other=b.other))&&decide (a.n=b.n)
theorem c99(a b:Ev){x y:AVal}(hx:x.cell=true)(hy:y.cell=true)(hr:x.ro=true)(hr2:y.ro=true){q:Bool}(h62:∀(σ:List ABlk) (k:AVal→List ABlk→Prop),k (.bool q) σ→VV.call (.call 62) [x,y] σ k) :
  PC 99 [.agg [iv8 a.kind,iv a.side,iv a.card,iv a.id,iv a.other,iv a.n,x],.agg [iv8 b.kind,iv b.side,iv b.card,iv b.id,iv b.other,iv b.n,y]] (.bool (sameN a b&&q)):=by
 refine Ze hP g99_ok rfl rfl ?_;unfold g99;have h0:hget ([]++[ABlk.box [iv8 a.kind,iv a.side,iv a.card,iv a.id,iv a.other,iv a.n,x]]++[ABlk.box [iv8 b.kind,iv b.side,iv b.card,iv b.id,iv b.other,iv b.n,y]]) 0=.box [iv8 a.kind,iv a.side,iv a.card,iv a.id,iv a.other,iv a.n,x]:=rfl;have h1:hget ([]++[ABlk.box [iv8 a.kind,iv a.side,iv a.card,iv a.id,iv a.other,iv a.n,x]]++[ABlk.box [iv8 b.kind,iv b.side,iv b.card,iv b.id,iv b.other,iv b.n,y]]) 1=.box [iv8 b.kind,iv b.side,iv b.card,iv b.id,iv b.other,iv b.n,y]:=rfl;have hcl:∀(e:Ev) {z:AVal},z.cell=true→[iv8 e.kind,iv e.side,iv e.card,iv e.id,iv e.other,iv e.n,z].all AVal.cell=true:=λe z hz=>by
  show (true&&(true&&(true&&(true&&(true&&(true&&(z.cell&&true)))))))=true;rw[hz]; rfl
 refine Zd (ZcI (hcl a hx) []) (Qs _ _) ?_;refine Zd (ZcI (hcl b hy) _) (Qs _ _) ?_;refine Ya rfl (Ya rfl (Ya rfl (Ya rfl (Ya (Yi ..) ?_))));refine Ybl (λ_=>rfl) (λ_=>rfl) (λ_=>rfl) (λ_=>rfl) (λ_=>Yi ..) ?_;refine Ybl (λ_=>rfl) (λ_=>rfl) (λ_=>rfl) (λ_=>rfl) (λ_=>Yi ..) ?_;refine Ybl (λ_=>rfl) (λ_=>rfl) (λ_=>rfl) (λ_=>rfl) (λ_=>Yi ..) ?_;refine Ybl (λ_=>rfl) (λ_=>rfl) (λ_=>rfl) (λ_=>rfl) (λ_=>Yi ..) ?_;refine Ybl (λ_=>rfl) (λ_=>rfl) (λ_=>rfl) (λ_=>rfl) (λ_=>Yi ..) ?_;exact Yco (v2:=x) (v4:=y) (λ_=>rfl) (λ_=>rfl) (λ_=>rfl) (λ_=>rfl) (λ_ k hk=>h62 _ _ hk) rfl
theorem Xa0(a:Ev):sameN a a=true:=by simp[sameN]
theorem c47{rows:List (List AVal)}(hl:rows.length≤1000000000)(h:∀r∈rows,r.length=7∧roL r=true∧PC 99 [.agg r,.agg r] (.bool true)):PC 47 [.rsl false false 7 rows,.rsl false false 7 rows] (.bool true):=by
 refine Ze hP g47_ok rfl rfl ?_;unfold g47;refine Ya (Zf ..) (Ya (Zf ..) (Ya (YT ..) ?_));rw[decide_eq_false (show ¬((rows.length:Int)≠rows.length) by simp)];refine Xh ?_;refine Xo (ι:=Nat) (λi vs _=>vs=[iv i]∧i≤rows.length) (λi=>rows.length-i) 0 ⟨rfl,by omega⟩ ?_;rintro i vs σ again ⟨rfl,hi⟩ hag;refine Ya (Zf ..) (Ya (Qx ..) (Qc (λhlt=>?_) (λ_=>rfl)));have hlt:i<rows.length:=by simpa using hlt
 obtain⟨q1,q2,q3⟩:=h rows[i] (List.getElem_mem hlt);have hix:=Qc0 σ false false 7 rows .i64 i rows[i] (by simp[hlt]);generalize rows[i]=r at hix q1 q2 q3;have hp:partA true 0 7 r=some (.agg r):=by
  match r,q1 with
  |[a,b,c,d,e,f,g],_=>rfl
 refine Qj hix (Yn _) (Qj (ldr hp) (Yn _) (Qj hix (Yn _) (Qj (ldr hp) (Yn _) ?_)));refine Qp q3 rfl g99_ok.plain (by simp[roL,AVal.ro,q2]) (Yk rfl (QO (XZ (by simp[allRd])) (Xh (Ya (Qn ..) ?_))));rw[Xg (n:=i) (by omega)];exact hag (i+1) _ _ (by omega) ⟨rfl,by omega⟩
end Go.Ah.Tz
end
section
namespace Go.Ah
def SortN(P:Program)(f:FuncId):Prop:=∀(p:Option Addr) (cap:Nat) (w:World),Calls P f #[.slice p 0 cap] w λe w'=>e=.returned (.tuple #[])∧w'=w
section
variable {P:Program} {GL:Globs}
theorem Ybp{f:FuncId}(hs:SortN P f){h0:Hp}{b:Nat}{ex:Bool}:ACall P GL f [.sl b 0 0 ex] h0 (.tup []) [] []:=by
 intro w0 L g h w vs r hx _ _
 match vs,hx with
 |[v],hx=>
 have hd:=hx.1;have key:∃p cap,v=.slice p 0 cap:=by
  cases hd with
  |slv _ _ _ cb a ec hv=>exact⟨_,_,rfl⟩
  |sl _ _ _ _ _ cb cap ec hv h1 h2 h3=>exact⟨_,_,rfl⟩
 obtain⟨p,cap,rfl⟩:=key;refine(hs p cap w).mono ?_;rintro e w' ⟨rfl,rfl⟩;exact⟨_,rfl,g,Gm.Le.refl _,r,.tup _ [] #[] rfl (by simp)⟩
end
end Go.Ah
namespace Go.Ah.Tz
open Go.Proofs.Tryz (prog)
attribute [local irreducible] Ans.rd Ans.pu Ans.wr Ans.dr Ans.gr Ans.gw Ans.gl Ans.gd Ans.opt joinK W
set_option maxHeartbeats 8000000
theorem Xbo{n:Nat}(h:n≤1000000000):IntKind.i64.wrap (((n+1:Nat):Int)-1)=(n:Int):=by
 rw[IntWalk.i64_in _ (by omega)]; omega
def ZcY(l:List Int):Prop:=∀i (h:i+1<l.length),l[i]≠l[i+1]
theorem ZcB{l:List Int}(hs:l.Pairwise (·≤·))(ha:ZcY l):l.Nodup:=by
 rw[List.nodup_iff_pairwise_ne,List.pairwise_iff_getElem];rw[List.pairwise_iff_getElem] at hs;intro i j hi hj hij e;have h1:l[i]≤l[i+1]:=hs i (i+1) hi (by omega) (by omega);have h2:l[i+1]≤l[j]:=by
  by_cases h:i+1=j
  ·subst h; exact Int.le_refl _
  ·exact hs (i+1) j (by omega) hj (by omega)
 have:=ha i (by omega);omega
theorem c137{σ:List ABlk}{b:Nat}{l:List Int}(hb:hget σ b=.rows 1 (l.map cel))(hs:l.Pairwise (·≤·))(hl:l.length≤1000000000){K:AVal→List ABlk→Prop}(hK:∀(m:Nat) τ,decide ((m:Int)<l.length) = !decide l.Nodup→K (.sl b 0 m false) τ) :
  g137 VV [.sl b 0 l.length false] σ K:=by
 have hyes:l.Nodup→∀τ,K (.sl b 0 l.length false) τ:=λh τ=>hK _ τ (by rw[decide_eq_false (by omega),decide_eq_true h]; rfl);unfold g137;refine Ya rfl (Ya (Qx ..) (Qc (λh=>?_) (λh=>?_)))
 ·refine hyes ?_ _;have h:l.length<2:=by simp at h; omega
  match l,h with
  |[],_=>simp
  |[x],_=>simp
  |_::_::_,h=>simp at h; omega
 have hn2:2≤l.length:=by simp at h; omega
 clear h;refine Xo (ι:=Nat) (λi vs τ=>vs=[iv (i+1:Nat)]∧τ=σ∧i+1≤l.length∧∀j (h:j<i) (h2:j+1<l.length),l[j]≠l[j+1]) (λi=>l.length-i) 0 ⟨rfl,rfl,by omega,λj h=>by omega⟩ ?_;rintro i vs τ again ⟨rfl,rfl,hi,hap⟩ hag;refine Ya rfl (Ya (Qx ..) (Qc (λh=>?_) (λh=>?_)));rotate_left
 ·have h:i+1=l.length:=by simp at h; omega
  exact hyes (ZcB hs λj hj=>hap j (by omega) hj) _
 have h:i+1<l.length:=by simp at h; omega
 have ix:∀(τ:List ABlk) (L:List Int) (n:Nat),hget τ b=.rows 1 (L.map cel)→n<l.length→Qa 1 [.sl b 0 l.length false,iv n] τ=.ok (.ptr b n 0) [b] []:=λτ L n hb hn=>by
  have:=QbM τ b 0 l.length false 1 (L.map cel) .i64 n hn hb;rw[Nat.zero_add] at this; exact this
 have gt:∀ {L:List Int} {n:Nat} (h:n<L.length),(L.map cel)[n]?=some (cel L[n]):=λh=>by simp[h]
 refine Ya (ix _ l _ hb h) (Ya (v:=iv l[i+1]) (ldp hb (gt h) rfl) (Ya (Xb4 ..) ?_));rw[Xbo (by omega)];refine Ya (ix _ l _ hb (by omega)) (Ya (v:=iv l[i]) (ldp hb (gt (by omega)) rfl) (Ya (Yi ..) (Qc (λhq=>?_) (λhq=>?_))));rotate_left
 ·have hq:¬l[i+1]=l[i]:=by simpa using hq
  refine Ya (Qn ..) ?_;rw[Xg (n:=i+1) (by omega)];refine hag (i+1) _ _ (by omega) ⟨rfl,rfl,by omega,λj h1 h2=>?_⟩;by_cases e:j=i
  ·subst e; exact λe=>hq e.symm
  ·exact hap j (by omega) h2
 have hq:l[i+1]=l[i]:=by simpa using hq
 have hnd:¬l.Nodup:=λhn=>by
  have h1:=List.pairwise_iff_getElem.1 (List.nodup_iff_pairwise_ne.1 hn) i (i+1) (by omega) h (by omega);exact h1 hq.symm
 replace hK:∀(m:Nat) τ,m<l.length→K (.sl b 0 m false) τ:=λm τ hm=>hK m τ (by rw[decide_eq_true (by omega),decide_eq_false hnd]; rfl)
 clear hyes hap hag hq;obtain⟨v,rd,hv,⟨_,rfl,rfl⟩|⟨h0,_⟩⟩:=YcK (n:=l.length) (i:=i+1) (ex:=false) hb (by omega);rotate_left
 ·omega
 refine Ya hv ?_;have ix2:∀(τ:List ABlk) (L:List Int) (n:Nat),hget τ b=.rows 1 (L.map cel)→n<l.length-(i+1)→Qa 1 [.sl b (i+1) (l.length-(i+1)) false,iv n] τ=.ok (.ptr b (i+1+n) 0) [b] []:=λτ L n hb hn=>
  QbM τ b (i+1) (l.length-(i+1)) false 1 (L.map cel) .i64 n hn hb
 refine Xo (ι:=Nat) (λj vs τ=>∃(m:Nat) (L:List Int),vs=[iv (j+1:Nat),iv m]∧hget τ b=.rows 1 (L.map cel)∧L.length=l.length∧m≤i+1+j∧i+1+(j+1)≤l.length) (λj=>l.length-j) 0 ⟨i+1,l,rfl,hb,rfl,by omega,by omega⟩ ?_;clear hb;rintro j vs τ again ⟨m,L,rfl,hb,hL,hm,hj⟩ hag;have hbl:=Qi hb (by simp);refine Ya rfl (Ya (Qx ..) (Qc (λh=>?_) (λh=>?_)))
 ·have h:j+1<l.length-(i+1):=by simp at h; omega
  refine Xn λk17 hk=>?_;have hl1:i+1+(j+1)<L.length:=by omega
  have hl0:i+1+j<L.length:=by omega
  refine Ya (ix2 _ L _ hb h) (Ya (v:=iv L[i+1+(j+1)]) (ldp hb (gt hl1) rfl) (Ya (Xb4 ..) ?_));rw[Xbo (by omega)];refine Ya (ix2 _ L _ hb (by omega)) (Ya (v:=iv L[i+1+j]) (ldp hb (gt hl0) rfl) (Ya (YT ..) (Qc (λ_=>?_) (λ_=>?_))))
  ·refine Ya (ix2 _ L _ hb h) (Ya (v:=iv L[i+1+(j+1)]) (ldp hb (gt hl1) rfl) (Ya (ix _ L _ hb (by omega)) ?_));refine Zd (Zcx hb (by omega) _) (Yo _ hbl) (Ya (Qn ..) ?_);rw[Xg (n:=m) (by omega),hk];refine Ya (Qn ..) ?_;rw[Xg (n:=j+1) (by omega)];exact hag (j+1) _ _ (by omega) ⟨m+1,_,rfl,Qk _ hbl,by simpa using hL,by omega,by omega⟩
  ·rw[hk];refine Ya (Qn ..) ?_;rw[Xg (n:=j+1) (by omega)];exact hag (j+1) _ _ (by omega) ⟨m,L,rfl,hb,hL,by omega,by omega⟩
 have hmn:m<l.length:=by omega
 obtain⟨v,rd,hv,⟨_,rfl,rfl⟩|⟨h0,_⟩⟩:=YcK (n:=l.length) (i:=m) (ex:=false) hb (by omega);rotate_left
 ·omega
 refine Ya hv ?_;have hc:Qag 1 [.int .i64 0] [.sl b m (l.length-m) false] τ=.ok .junk [] [(b,.rows 1 (over m (List.replicate (l.length-m) [.int .i64 0]) (L.map cel)))]:=by
  show (match hget τ b with
   |.rows s rs=>bif Nat.beq s 1&&Nat.ble (m+(l.length-m)) rs.length then SRes.ok .junk [] [(b,.rows 1 (over m (List.replicate (l.length-m) [.int .i64 0]) rs))] else .stop
   | _=>.stop)=_
  rw[hb];have:Nat.ble (m+(l.length-m)) (L.map cel).length=true:=Nat.ble_eq_true_of_le (by simp; omega);simp only[this,Nat.beq_refl,Bool.and_self,cond_true]
 refine Zd hc (Yo _ hbl) ?_;refine Ya (v:=.sl b 0 m false) (rd:=[b]) ?_ (hK m _ hmn);show (match hget (τ.set b _) b with
  |.rows s _=>bif Nat.beq s 1&&Nat.ble m l.length then SRes.ok (.sl b 0 m false) [b] [] else .stop
  | _=>.stop)=_
 rw[Qk _ hbl];have:Nat.ble m l.length=true:=Nat.ble_eq_true_of_le (by omega);simp only[this,Nat.beq_refl,Bool.and_self,cond_true]
theorem c95(h89:SortC prog 89)(hn:SortN prog 89)(l:List Int)(hl:l.length≤1000000000):PC 95 [rowV l] (.bool (!decide l.Nodup)):=by
 refine Ze hP g95_ok rfl rfl ?_;unfold g95;refine Zak (c96 l hl) rfl g96_ok.plain rfl ?_;simp only[Zu,List.map_cons,List.map_nil,YO,AVal.ren,Zy,List.length_nil,Nat.zero_add,List.nil_append];have key:∀σ,hget σ 0=.rows 1 ((srt l).map cel)→VV.call (.call 137) [.sl 0 0 l.length false] σ λt9_2 σ=>VV.rd (Qd [t9_2] σ) λt10_3=>VV.rd (Qd [rowV l] σ) λt12_4=>VV.rd (Yh .lss false [t10_3,t12_4] σ) λt13_5=>t13_5=.bool (!decide l.Nodup):=λσ hb=>by
  have hln:=Zbx l;refine Yt hP rfl g137_ok rfl ?_;rw[←hln];refine c137 hb (Qc5 l) (by omega) (λm τ hm=>?_);refine Ya rfl (Ya (Zf ..) ?_);rw[List.length_map];refine Ya (Qx ..) ?_;rw[hln,decide_eq_decide.2 (ZcF l).nodup_iff] at hm;exact congrArg AVal.bool hm
 by_cases h0:l=[]
 ·subst h0;refine ZN rfl g89_ok.plain (Ybp hn) (Yn _) ?_;exact key _ (by rw[show srt []=[] from List.eq_nil_of_length_eq_zero (Zbx [])]; rfl)
 ·exact QcX h89 rfl h0 hl (key _ rfl)
end Go.Ah.Tz
end
section
namespace Go.Ah.Tz
open Go.Proofs.Tryz (prog)
def Z9(s:St)(side:Int):Sd:=if side=0 then s.s0 else s.s1
theorem Zct{s:St}{id:Int}(h:(unitR s id).2.2=true):∃(k:Nat) (u:Th),(unitR s id).2.1=k∧(Z9 s (unitR s id).1).units[k]?=some u∧u.id=id∧((unitR s id).1=0∨(unitR s id).1=1):=by
 unfold unitR at h ⊢;cases q0:fnd s.s0.units id with
 |some k=>obtain⟨u,hk,hi⟩:=Xaw q0; exact⟨k,u,rfl,hk,hi,.inl rfl⟩
 |none=>
  cases q1:fnd s.s1.units id with
  |some k=>obtain⟨u,hk,hi⟩:=Xaw q1; exact⟨k,u,rfl,hk,hi,.inr rfl⟩
  |none=>rw[q0,q1] at h; cases h
structure CP (τ:List ABlk) (n:Nat) (t:St):Prop where
 box:hget τ (n+11)=.box (stO t n)
 key:∀i x,(stB t)[i]?=some x→hget τ (n+i)=x
def ubk(side:Int):Nat:=if side=0 then 4 else 9
def uof(side:Int):Nat:=if side=0 then 7 else 15
theorem CP.units{τ:List ABlk}{n:Nat}{t:St}(h:CP τ n t){side:Int}(hs:side=0∨side=1):hget τ (n+ubk side)=.rows 4 ((Z9 t side).units.map thC)∧(∀σ,Yf 2 8 [.bptr (n+11) (0+7),iv side] σ=.ok (.bptr (n+11) (uof side)) [] []) ∧
  partA false (uof side+6) 1 (stO t n)=some (.sl (n+ubk side) 0 (Z9 t side).units.length false):=by
 rcases hs with rfl|rfl
 ·exact⟨h.key 4 _ rfl,λ_=>rfl,rfl⟩
 ·exact⟨h.key 9 _ rfl,λ_=>rfl,rfl⟩
end Go.Ah.Tz
end
section
namespace Go.Ah.Tz
open Go.Proofs.Tryz (prog)
attribute [local irreducible] Ans.rd Ans.pu Ans.wr Ans.dr Ans.gr Ans.gw Ans.gl Ans.gd Ans.opt joinK W
set_option maxHeartbeats 8000000
theorem Gr.set{σ τ:List ABlk}{n k:Nat}{rows:List (List AVal)}{v:AVal}(h:Gr σ n rows k v τ){c:Nat}(hc:c<σ.length)(x:ABlk):Gr (σ.set c x) n rows k v (τ.set c x):=by
 obtain⟨h1,h2,h3⟩:=h;refine⟨by simpa using h1,λd hd=>?_,?_⟩
 ·have hd':d<σ.length:=by simpa using hd
  by_cases e:d=c
  ·subst e; rw[Qk _ (by omega),Qk _ hc]
  ·rw[Yj _ (by omega) e,Yj _ hd' e]; exact h2 d hd'
 ·rcases h3 with h3|⟨q1,b,q2,q3,q4,q5⟩
  ·exact .inl h3
  ·exact .inr ⟨q1,b,by simpa using q2,q3,Xj q4 (by simp) (by omega),q5⟩
theorem QcF{s:St}(hs:StLe 1000000000 s){σ:List ABlk}{n:Nat}(hn:σ.length=n){K:AVal→AVal→List ABlk→Prop}(hK:∀τ,τ.length=n+12→(∀c y,hget σ c=.box y→hget τ c=.box y)→CP τ n s→K (.bptr (n+11) 0) .junk τ) :
  VV.call (.call 19) [stV s] σ λv σ=>VV.wr (Xc zStC [] σ) σ λt σ=>VV.wr (Zb 23 [t,v] σ) σ (K t):=
 QcS hs λτ m h1 h2 h3 h4 h5=>by
  have e:m=n:=h1.symm.trans hn;subst e;exact hK τ h2 h3 ⟨h4,h5⟩
theorem Gr.op{σ0 σ:List ABlk}{n by_ k:Nat}{rows:List (List AVal)}{v:AVal}{cs:List AVal}(hg:Gr σ0 n rows k v σ)(hr:cs.all AVal.cell=true)(hroom:(2*(k+1)+192)*by_≤2 ^ 48) :
  ∃v' rd up σ',Qg n by_ [v,.sl σ.length 0 1 true] (σ++[.rows n [cs]])=.ok v' rd up∧upL (σ++[.rows n [cs]]) up=some σ'∧Gr σ0 n (rows++[cs]) (k+1) v' σ':=by
 obtain⟨g1,g2,hg⟩:=hg;have hnew:=Qh σ (.rows n [cs]);rcases hg with ⟨rfl,rfl,rfl⟩|⟨hk,b,hb0,rfl,hb,hl⟩
 ·have e:=Y4 n by_ (ex2:=true) hnew rfl (XV hr) (by simpa using hroom);refine⟨_,_,_,_,e,Qs _ _,by simp; omega,λc hc=>?_,.inr ⟨by omega,_,?_,rfl,by have:=Qh (σ++[ABlk.rows n [cs]]) (.rows n [cs]); simpa using this,rfl⟩⟩
  ·rw[Xp _ (by simp; omega),Xp _ (by omega),g2 c hc]
  ·simp; omega
 ·have e:=X4 n by_ (ex:=false) (ex2:=true) (Qf [.rows n [cs]] hb (by simp)) hnew hl rfl (XV hr) hroom;have hlt:=Qi hb (by simp);refine⟨_,_,_,_,e,YW _ _ (by simp; omega),by simp; omega,λc hc=>?_,.inr ⟨by omega,_,?_,rfl,?_,by simp[hl]⟩⟩
  ·rw[Xp _ (by simp; omega),Yj _ (by simp; omega) (by omega),Xp _ (by omega),g2 c hc]
  ·simp; omega
  ·have:=Qh ((σ++[ABlk.rows n [cs]]).set b .dead) (.rows n (rows++[cs]));simpa using this
end Go.Ah.Tz
end
section
namespace Go.Ah.Tz
open Go.Shelf Go.Proofs
open Go.Proofs.Tryz (prog)
theorem sortn89:SortN prog 89:=λp cap w=>Any.slices_Sort_int_none lays89 p cap w
end Go.Ah.Tz
end
section
namespace Go.Ah
theorem Xci:∀ {l:List AVal} {i:Nat} {x:AVal},roL l=true→l[i]?=some x→x.ro=true
 |[],i,x,_,e=>by simp at e
 |y::l,0,x,h,e=>by simp only[roL,Bool.and_eq_true] at h; simp at e; subst e; exact h.1
 |y::l,i+1,x,h,e=>by simp only[roL,Bool.and_eq_true] at h; exact Xci h.2 (by simpa using e)
section
variable {P:Program} {GL:Globs}
theorem Rep.eat{w0:World}{L:Ln}{g:Gm}{h:Hp}{w:World}(r:Rep GL w0 L g h w){b sz len:Nat}{ex:Bool}{rs:List (List AVal)}(hb:h b=some (.rows sz rs))(hl:rs.length=len)(hro:∀q∈rs,roL q=true){u:Value}(d:g.den (.sl b 0 len ex) u) :
  ∃M,MLe g.M M∧Rep GL w0 L ⟨M,g.c⟩ (hup h b .dead) w∧Den M noOwn (.rsl false false sz rs) u:=by
 cases d with
 |slv _ _ _ cb p ec hv=>
  have:rs=[]:=List.length_eq_zero_iff.1 hl;subst this;exact⟨g.M,MLe.refl _,r.kill hb,.rsl _ _ _ _ [] _ _ 0 0 (λ_ _=>undef) (by simp) (by simp) (by simp) (by simp) (by simp) (by simp) (by simp) (by simp)⟩
 |sl _ _ _ _ _ cb cap ec hv h1 h2 h3=>
  subst hl;obtain⟨e1,arr,T,ho',hs,hle2,hrow,hden⟩:=r.rowsBlk hb ec hv;obtain⟨hle,r2⟩:=r.freeze hb rfl ec hv ho';refine⟨_,hle.m,r2,?_⟩;rw[Nat.zero_mul];have hin:∀i j,i<rs.length→j<sz→i*sz+j<arr.size:=by
   intro i j hi hj;have:(i+1)*sz≤rs.length*sz:=Nat.mul_le_mul_right sz (by omega);rw[Nat.succ_mul] at this; omega
  refine .rsl _ false false sz rs (some ⟨cb.blk,0,none⟩) cap cb.blk 0 (λi j=>(arr[i*sz+j]?).getD undef) (by simp) (by simp) (λ_=>rfl) (by simp) h1 hrow (λi j hi hj=>?_) (λi row j x q1 q2=>?_)
  ·have:=hin i j hi hj;simp[mcell,mup,this]
  ·have hi:i<rs.length:=(YLG q1).1;have hj:j<sz:=by rw[←hrow i row q1]; exact(YLG q2).1
   have:=hin i j hi hj;have e:arr[i*sz+j]?=some arr[i*sz+j]:=by simp[this]
   rw[e];exact Den.ro (Den.mono hle.m (hden i row j x _ q1 q2 e) (CLe.refl _)) (Xci (hro row (List.mem_of_getElem? q1)) q2) _
theorem DenL.snoc{g:Gm}{x:AVal}:∀ {xs:List AVal} {vs:List Value},DenL g (xs++[x]) vs→∃us u,vs=us++[u]∧DenL g xs us∧g.den x u
 |[],[u],h=>⟨[],u,rfl,trivial,h.1⟩
 |y::xs,v::vs,h=>by
  obtain⟨us,u,rfl,h1,h2⟩:=DenL.snoc h.2;exact⟨v::us,u,rfl,⟨h.1,h1⟩,h2⟩
theorem DenL.snoc_mk{g:Gm}{x:AVal}{u:Value}(hu:g.den x u):∀ {xs:List AVal} {us:List Value},DenL g xs us→DenL g (xs++[x]) (us++[u])
 |[],[],_=>⟨hu,trivial⟩
 |y::xs,v::vs,h=>⟨h.1,DenL.snoc_mk hu h.2⟩
theorem PCall.eat{f:FuncId}{pre:List AVal}{b sz len:Nat}{ex:Bool}{rs:List (List AVal)}{v:AVal}{h0:Hp}(hc:PCall P GL f (pre++[.rsl false false sz rs]) v)(hpre:roL pre=true)(hb:h0 b=some (.rows sz rs))(hl:rs.length=len)(hro:∀q∈rs,roL q=true) :
  ACall P GL f (pre++[.sl b 0 len ex]) h0 v [] [(b,.dead)]:=by
 intro w0 L g h w vs r hx _ hup;have hb':h b=some (.rows sz rs):=by rw[hup (b,_) (List.mem_singleton.2 rfl)]; exact hb
 obtain⟨us,u,rfl,h1,h2⟩:=DenL.snoc hx;obtain⟨M,hM,r2,hd⟩:=r.eat hb' hl hro h2;refine(hc w M _ r2.stable r2.globs (DenL.snoc_mk (g:=⟨M,noOwn⟩) hd (XaG hpre (h1.mono (g':=⟨M,g.c⟩) ⟨hM,CLe.refl _⟩) noOwn))).mono ?_;rintro e w' ⟨y,he,k,M',hle,hst,hsrc,hdv⟩;exact⟨y,he,⟨M',g.c⟩,⟨hM.trans hle,CLe.refl _⟩,r2.after k hle hst hsrc,hdv.mono (MLe.refl _) (CLe.noOwn _)⟩
theorem YaU{k:MK}{xs pre:List AVal}{f:FuncId}{v:AVal}{σ:List ABlk}{b sz len:Nat}{ex:Bool}{rs:List (List AVal)}(h:PCall P GL f (pre++[.rsl false false sz rs]) v)(hc:Qr k xs=some (f,pre++[.sl b 0 len ex]))(hp':Zj P f=true)(hpre:roL pre=true)(hb:hget σ b=.rows sz rs)(hl:rs.length=len)(hro:∀q∈rs,roL q=true)
 {K:AVal→List ABlk→Prop}(hK:K v (σ.set b .dead)):(W P GL).call k xs σ K:=
 ZN hc hp' (h.eat hpre (ZF hb (by simp)) hl hro) (Yo _ (Qi hb (by simp))) hK
theorem Zbp{k:MK}{xs pre:List AVal}{f:FuncId}{v:AVal}{σ:List ABlk}{b sz len:Nat}{ex:Bool}{rs:List (List AVal)}(h:PCall P GL f (pre++[.rsl false false sz rs]) v)(hc:Qr k xs=some (f,pre++[.sl b 0 len ex]))(hp':Zj P f=true)(hpre:roL pre=true)(hb:hget σ b=.rows sz rs)(hl:rs.length=len)(hro:∀q∈rs,roL q=true)
 {K:AVal→List Nat×List Nat→List ABlk→Prop}(hK:K v ([],[b]) (σ.set b .dead)):(W P GL).dcall k xs σ K:=
 X3 hc hp' (h.eat hpre (ZF hb (by simp)) hl hro) (Yo _ (Qi hb (by simp))) hK
end
end Go.Ah
end
section
namespace Go.Ah
section
variable {P:Program} {GL:Globs}
def honly(h:Hp)(rd:List Nat):Hp:=λb=>if b∈rd then h b else (h b).map λ_=>.dead
theorem YP{h:Hp}{rd:List Nat}{b:Nat}{blk:ABlk}(e:honly h rd b=some blk)(hl:blk.live=true):b∈rd∧h b=some blk:=by
 unfold honly at e;by_cases hb:b∈rd
 ·rw[if_pos hb] at e; exact⟨hb,e⟩
 ·rw[if_neg hb] at e;obtain⟨x,_,rfl⟩:=Option.map_eq_some_iff.1 e;simp[ABlk.live] at hl
theorem Rep.only{w0:World}{L:Ln}{g:Gm}{h:Hp}{w:World}(r:Rep GL w0 L g h w)(rd:List Nat):Rep GL w0 L g (honly h rd) w where
 keeps:=r.keeps
 stable:=r.stable
 src:=r.src
 globs:=r.globs
 empt:=λb e=>r.empt b (by
  unfold honly at e;split at e
  ·exact e
  ·simpa using e)
 dom:=λb blk e=>by
  unfold honly at e;split at e
  ·exact r.dom b blk e
  ·obtain⟨x,hx,_⟩:=Option.map_eq_some_iff.1 e;exact r.dom b x hx
 own:=λb blk cb e hl=>r.own b blk cb (YP e hl).2 hl
 hollow:=λb blk cb e hl=>r.hollow b blk cb (YP e hl).2 hl
 inj:=λb b' blk blk' cb cb' e e' hl hl'=>r.inj b b' blk blk' cb cb' (YP e hl).2 (YP e' hl').2 hl hl'
def killed(rd:List Nat):List (Nat×ABlk):=rd.map λb=>(b,.dead)
theorem Rep.give{w0:World}{L:Ln}{w:World}(c:Own):∀(rd:List Nat) {M0:Nat→Option Obj} {h:Hp},Rep GL w0 L ⟨M0,c⟩ h w→(∀b∈rd,∃blk,h b=some blk) →
  ∃M,MLe M0 M∧Rep GL w0 L ⟨M,c⟩ (hups h (killed rd)) w∧∀b∈rd,∀blk cb o,h b=some blk→blk.live=true→c b=some cb→cb.virt=false→w.heap[cb.blk]?=some o→M cb.blk=some o
 |[],M0,h,r,_=>⟨M0,MLe.refl _,r,λb hb=>absurd hb (by simp)⟩
 |b::rd,M0,h,r,hin=>by
  obtain⟨blk,hb⟩:=hin b (List.mem_cons_self);have hin':∀c∈rd,∃blk,hup h b .dead c=some blk:=λc hc=>by
   by_cases e:c=b
   ·subst e; exact⟨_,Yr _ _ _⟩
   ·rw[Yp _ _ e]; exact hin c (List.mem_cons_of_mem _ hc)
  obtain⟨cb,ec⟩:=r.dom b blk hb;have key:∃M1,MLe M0 M1∧Rep GL w0 L ⟨M1,c⟩ (hup h b .dead) w∧(blk.live=true→cb.virt=false→∀o,w.heap[cb.blk]?=some o→M1 cb.blk=some o):=by
   by_cases hl:blk.live=true∧cb.virt=false
   ·obtain⟨_,_,o,ho,_⟩:=r.own b blk cb hb hl.1 ec hl.2;obtain⟨q1,q2⟩:=r.freeze hb hl.1 ec hl.2 ho;refine⟨_,q1.m,q2,λ_ _ o' ho'=>?_⟩;rw[ho] at ho'; cases ho';simp[mup]
   ·exact⟨M0,MLe.refl _,r.kill hb,λh1 h2=>absurd ⟨h1,h2⟩ hl⟩
  obtain⟨M1,m1,r1,k1⟩:=key;obtain⟨M,m2,r2,k2⟩:=Rep.give c rd r1 hin';refine⟨M,m1.trans m2,r2,λx hx blk' cb' o e1 e2 e3 e4 e5=>?_⟩;by_cases e:x=b
  ·subst e;have e3':c x=some cb:=ec;rw[hb] at e1; cases e1;rw[e3'] at e3; cases e3;exact m2 _ _ (k1 e2 e4 o e5)
  ·rcases List.mem_cons.1 hx with h'|h'
   ·exact absurd h' e
   ·exact k2 x h' blk' cb' o (by rw[Yp _ _ e]; exact e1) e2 e3 e4 e5
theorem PCall.give{f:FuncId}{xs ys:List AVal}{v:AVal}{rd:List Nat}{h0:Hp}(hc:PCall P GL f ys v)(hb:BorL h0 rd xs ys)(hin:∀b∈rd,∃blk,h0 b=some blk):ACall P GL f xs h0 v rd (killed rd):=by
 intro w0 L g h w vs r hx hrd _;obtain⟨M,hM,r2,hcov⟩:=Rep.give g.c rd (M0:=g.M) r (λb hb'=>by rw[hrd b hb']; exact hin b hb');have cov:Cov g (honly h rd) w M:=⟨hM,λb blk cb o e hl ec hv ho=>hcov b (YP e hl).1 blk cb o (YP e hl).2 hl ec hv ho⟩;have hd:=hb GL w0 L g (honly h rd) w M (r.only rd) cov (λb hb'=>by unfold honly; rw[if_pos hb']; exact hrd b hb') vs hx;refine(hc w M _ r2.stable r2.globs hd).mono ?_;rintro e w' ⟨y,he,k,M',hle,hst,hsrc,hdv⟩;exact⟨y,he,⟨M',g.c⟩,⟨hM.trans hle,CLe.refl _⟩,r2.after k hle hst hsrc,hdv.mono (MLe.refl _) (CLe.noOwn _)⟩
def killL(σ:List ABlk)(rd:List Nat):List ABlk:=rd.foldl (λσ b=>σ.set b .dead) σ
theorem Zbe:∀(rd:List Nat) (σ:List ABlk),(killL σ rd).length=σ.length
 |[],_=>rfl
 |b::rd,σ=>(Zbe rd (σ.set b .dead)).trans (by simp)
theorem YbJ:∀(rd:List Nat) (σ:List ABlk),(∀b∈rd,b<σ.length)→upL σ (killed rd)=some (killL σ rd)
 |[],_,_=>rfl
 |b::rd,σ,h=>by
  have hb:=h b List.mem_cons_self;show (bif Nat.beq b σ.length then upL (σ ++ [.dead]) (killed rd) else (match Yz b .dead σ with
   |some σ'=>upL σ' (killed rd)
   | none=>none))=_
  have:Nat.beq b σ.length=false:=by
   cases e:Nat.beq b σ.length with
   |false=>rfl
   |true=>have:=YNB e; omega
  rw[this,Q8 hb];exact YbJ rd (σ.set b .dead) (λc hc=>by simpa using h c (List.mem_cons_of_mem _ hc))
theorem Yag{k:MK}{xs ys zs:List AVal}{f:FuncId}{v:AVal}{rd:List Nat}(h:PCall P GL f zs v){σ:List ABlk}(hc:Qr k xs=some (f,ys))(hp':Zj P f=true)(hb:BorL (hp σ) rd ys zs)(hin:∀b∈rd,hget σ b≠.dead){K:AVal→List ABlk→Prop}(hK:K v (killL σ rd)):(W P GL).call k xs σ K:=
 ZN hc hp' (h.give hb λb hb'=>⟨_,ZF rfl (hin b hb')⟩) (YbJ rd σ λb hb'=>Qi rfl (hin b hb')) hK
end
end Go.Ah
end
section
namespace Go.Ah.Tz
open Go.Proofs.Tryz (prog)
def ZG:List (Int×Int)→Int→Option (Int×Int)
 |[],_=>none
 |p::l,a=>if p.1=a then some p else ZG l a
def pairI:List (Int×Int)→Int→Int→Int
 |[],_,_=>-1
 |p::l,i,a=>if p.1=a then i else pairI l (i+1) a
theorem Za0(a:Int):∀(l:List (Int×Int)) (i:Nat),(∃(k:Nat) (h:k<l.length),pairI l i a=((i+k:Nat):Int)∧ZG l a=some l[k]∧l[k].1=a)∨(pairI l i a = -1∧ZG l a=none)
 |[],_=>.inr ⟨rfl,rfl⟩
 |p::l,i=>by
  unfold pairI ZG;by_cases h:p.1=a
  ·rw[if_pos h,if_pos h]; exact .inl ⟨0,by simp,rfl,rfl,h⟩
  ·rw[if_neg h,if_neg h];rcases Za0 a l (i+1) with ⟨k,hk,h1,h2,h3⟩|⟨h1,h2⟩
   ·refine .inl ⟨k+1,by simpa using hk,?_,by simpa using h2,by simpa using h3⟩;rw[show ((i:Int)+1)=((i+1:Nat):Int) by push_cast; rfl,h1]; congr 1; omega
   ·refine .inr ⟨?_,h2⟩;rw[show ((i:Int)+1)=((i+1:Nat):Int) by push_cast; rfl,h1]
def Qaf(s:St)(p:Int×Int):Bool:=((unitR s p.2).2.2 && !decide ((unitR s p.2).1=s.mover))&&s.attack.any λx=>decide (x=p.1)
def QB(s:St)(l:List (Int×Int)):Bool:=l.all (Qaf s)&&(decide (l.map (·.1)).Nodup&&decide (l.map (·.2)).Nodup)
attribute [local irreducible] Ans.rd Ans.pu Ans.wr Ans.dr Ans.gr Ans.gw Ans.gl Ans.gd Ans.opt joinK W
set_option maxHeartbeats 8000000
theorem c104(p:Int×Int)(a:Int):PC 104 [.agg (prC p),.rptr [iv a] 0] (.bool (decide (p.1=a))):=by
 refine Ze hP g104_ok rfl rfl ?_;unfold g104;exact Zd (v:=.bptr 0 0) (rd:=[]) (up:=[(0,.box (prC p))]) rfl rfl (Ya rfl (Ya (v:=iv p.1) (rd:=[0]) rfl (Ya (ldr rfl) (Ya (Yi ..) rfl))))
theorem c139(l:List (Int×Int))(hl:l.length≤1000000000)(a:Int):PC 139 [prV l,.func (.func 104) [] [.rptr [iv a] 0]] (iv (pairI l 0 a)):=by
 refine Ze hP g139_ok rfl rfl ?_;unfold g139;refine Ya (v:=iv l.length) (rd:=[]) (by simp[Zf]) ?_;refine Xo (ι:=Nat) (λi vs _=>vs=[iv i]∧i≤l.length∧pairI l 0 a=pairI (l.drop i) i a) (λi=>l.length-i) 0 ⟨rfl,by omega,rfl⟩ ?_;rintro i vs σ again ⟨rfl,hi,hu⟩ hag;refine Ya (Qx ..) (Qc (λh=>?_) (λh=>?_))
 ·have h:i<l.length:=by simpa using h
  rw[YLD h,pairI] at hu;refine Ya (Qu _ prC false false 2 l .i64 i h) (Ya (v:=.agg (prC l[i])) (ldr rfl) ?_);refine Ye (c104 l[i] a) rfl g104_ok.plain rfl (Qc (λq=>?_) (λq=>?_))
  ·rw[hu,if_pos (by simpa using q)]; rfl
  ·rw[if_neg (by simpa using q)] at hu;refine Ya (Qn ..) ?_;rw[Xg (n:=i) (by omega)];exact hag (i+1) _ _ (by omega) ⟨rfl,by omega,by rw[hu]; push_cast; rfl⟩
 ·have h:i=l.length:=by simp at h; omega
  subst h;rw[List.drop_length] at hu;rw[hu]; rfl
theorem c103(l:List (Int×Int))(hl:l.length≤1000000000)(a:Int):PC 103 [prV l,.func (.func 104) [] [.rptr [iv a] 0]] (.tup [.agg (prC ((ZG l a).getD (0,0))),.bool (ZG l a).isSome]):=by
 refine Ze hP g103_ok rfl rfl ?_;unfold g103;refine Zd (v:=.bptr 0 0) (rd:=[]) (up:=[(0,.box [iv 0,iv 0])]) rfl rfl ?_;refine Ye (c139 l hl a) rfl g139_ok.plain rfl ?_;rcases Za0 a l 0 with ⟨k,hk,h1,h2,_⟩|⟨h1,h2⟩
 ·have h1:pairI l 0 a=(k:Int):=by simpa using h1
  rw[h1,h2];refine Ya (Qaq ..) ?_;rw[decide_eq_true (by omega)];refine Zg (Ya (Qu _ prC false false 2 l .i64 k hk) (Ya (v:=.agg (prC l[k])) (ldr rfl) (Zd (v:=.junk) (rd:=[]) (up:=[(0,.box (prC l[k]))]) rfl rfl (Xm rfl rfl))))
 ·have h1:pairI l 0 a = -1:=by simpa using h1
  rw[h1,h2];refine Ya (Qaq ..) (Xh (Ya (v:=.agg [iv 0,iv 0]) (rd:=[0]) rfl (Zd (v:=.junk) (rd:=[]) (up:=[(0,.box [iv 0,iv 0])]) rfl rfl (Xm rfl rfl))))
def Tw(a d:List Int)(va vd:AVal)(τ:List ABlk):Prop:=
 (a=[]∧d=[]∧va=.nils∧vd=.nils)∨(∃p q,p≠q∧1≤p∧1≤q∧va=.sl p 0 a.length false∧vd=.sl q 0 d.length false∧hget τ p=.rows 1 (a.map cel)∧hget τ q=.rows 1 (d.map cel))
theorem Tw.ri{a d:List Int}{va vd:AVal}{τ:List ABlk}(h:Tw a d va vd τ):(∃rd,RI τ rd va a)∧∃rd,RI τ rd vd d:=by
 rcases h with ⟨rfl,rfl,rfl,rfl⟩|⟨p,q,_,_,_,rfl,rfl,h1,h2⟩
 ·exact⟨⟨[],RI.nils⟩,⟨[],RI.nils⟩⟩
 ·exact⟨⟨[p],RI.own h1 (by simp) rfl⟩,⟨[q],RI.own h2 (by simp) rfl⟩⟩
theorem c100(h89:SortC prog 89)(hn:SortN prog 89)(s:St)(hs:StLe 1000000000 s)(l:List (Int×Int))(hl:l.length≤1000000000)(hsa:s.attack.length≤1000000000):PC 100 [stV s,prV l] (.bool (QB s l)):=by
 refine Ze hP g100_ok rfl rfl ?_;unfold g100;refine Zd (v:=.bptr 0 0) (rd:=[]) (up:=[(0,.box (stC s))]) rfl rfl ?_;refine Ya (v:=iv l.length) (rd:=[]) (by simp[Zf]) ?_;refine Xo (ι:=Nat) (λi vs τ=>∃va vd,vs=[iv i,va,vd]∧i≤l.length∧hget τ 0=.box (stC s)∧Tw ((l.take i).map (·.1)) ((l.take i).map (·.2)) va vd τ∧l.all (Qaf s)=(l.drop i).all (Qaf s)) (λi=>l.length-i) 0 ⟨_,_,rfl,by omega,rfl,.inl ⟨rfl,rfl,rfl,rfl⟩,rfl⟩ ?_;rintro i vs τ again ⟨va,vd,rfl,hi,h0,hT,hall⟩ hag;refine Ya (Qx ..) (Qc (λh=>?_) (λh=>?_))
 ·have h:i<l.length:=by simpa using h
  have htk:l.take (i+1)=l.take i++[l[i]]:=by rw[List.take_succ_eq_append_getElem h]
  have hix:=λ(t:List ABlk)=>Qu t prC false false 2 l .i64 i h;rw[YLD h,List.all_cons] at hall;have hlen:(l.take i).length=i:=by simp; omega
  generalize l[i]=p at hix htk hall;refine Ya (hix _) (Ya (v:=.agg (prC p)) (rd:=[]) (ldr rfl) ?_);refine Xz (row:=prC p) (row':=prC p) rfl rfl rfl ?_;have hB:=Qh τ (ABlk.box (prC p));have h0':=Qf [ABlk.box (prC p)] h0 (by simp);have hlt0:=Qi h0 (by simp);refine Ya (ld h0' rfl) (Ya rfl (Ya (v:=iv p.2) (ld hB rfl) ?_));refine Ye (c71 s hs p.2) rfl g71_ok.plain rfl (Ya rfl (Ya rfl (Ya rfl (Ya rfl ?_))));refine Zc6 (v3:=iv s.mover) (λ_=>rfl) (λ_=>rfl) (λ_=>ld h0' rfl) (λ_=>Yi ..) ?_;refine Qbl (v2:=rowV s.attack) (v4:=iv p.1) (u0:=.bool (s.attack.any λx=>decide (x=p.1))) (λ_=>rfl) (λ_=>ld h0' rfl) (λ_=>rfl) (λ_=>ld hB rfl) (λ_ k hk=>Ye (c138 s.attack hsa p.1) rfl g138_ok.plain rfl hk) (λ_=>rfl) ?_;have hpk:(((!(unitR s p.2).2.2||decide ((unitR s p.2).1=s.mover)) || !(s.attack.any λx=>decide (x=p.1)))) = !Qaf s p:=by
   rw[Qaf]; cases (unitR s p.2).2.2<;>cases decide ((unitR s p.2).1=s.mover)<;>simp
  rw[hpk];refine Qc (λhk=>?_) (λhk=>?_)
  ·have hk:Qaf s p=false:=by simpa using hk
   rw[QB,hall,hk]; rfl
  have hk:Qaf s p=true:=by simpa using hk
  rw[hk,Bool.true_and] at hall;clear hpk hk;have hgo:∀va' vd' τ',hget τ' 0=.box (stC s)→Tw (((l.take i).map (·.1))++[p.1]) (((l.take i).map (·.2))++[p.2]) va' vd' τ'→again [iv (i+1),va',vd'] τ':=λva' vd' τ' q0 q1=>by
   refine hag (i+1) _ _ (by omega) ⟨va',vd',rfl,by omega,q0,by rw[htk,List.map_append,List.map_append]; exact q1,hall⟩
  have hla:((l.take i).map (·.1)).length=i:=by simpa using hlen
  have hld:((l.take i).map (·.2)).length=i:=by simpa using hlen
  generalize (l.take i).map (·.1)=a at hT hgo hla;generalize (l.take i).map (·.2)=d at hT hgo hld;refine Yk rfl (Qj (v:=iv p.1) (ld hB rfl) (Yn _) (Qj (Xb3 1 _ _ _ [iv p.1] rfl rfl) (Qs _ _) ?_));have hn1:=Qh (τ++[ABlk.box (prC p)]) (.rows 1 [[iv p.1]]);have hB1:=Qf [ABlk.rows 1 [[iv p.1]]] hB (by simp);have h01:=Qf [ABlk.rows 1 [[iv p.1]]] h0' (by simp);rcases hT with ⟨rfl,rfl,rfl,rfl⟩|⟨pa,pd,hne,hp1,hq1,rfl,rfl,hpa,hpd⟩
  ·refine Qj (Y4 1 8 hn1 rfl rfl (by simp)) (Qs _ _) ?_;have hB2:=Qf [ABlk.rows 1 [[iv p.1]]] hB1 (by simp);refine Yk rfl (Qj (v:=iv p.2) (ld hB2 rfl) (Yn _) (Qj (Xb3 1 _ _ _ [iv p.2] rfl rfl) (Qs _ _) ?_));have hn2:=Qh ((τ++[ABlk.box (prC p)]++[ABlk.rows 1 [[iv p.1]]])++[ABlk.rows 1 [[iv p.1]]]) (.rows 1 [[iv p.2]]);refine Qj (Y4 1 8 hn2 rfl rfl (by simp)) (Qs _ _) (QO ?_ ?_)
   ·simp[Qe,List.range,List.range.loop,ZD,Z3,QA,apart2,disj]
   refine Ya (Qn ..) ?_;rw[Xg (n:=i) (by omega)];refine hgo _ _ _ (Qf _ (Qf _ (Qf _ h01 (by simp)) (by simp)) (by simp)) (.inr ⟨_,_,?_,?_,?_,rfl,rfl,Qf _ (Qf _ (Qh _ _) (by simp)) (by simp),Qh _ _⟩)
   ·simp
   ·simp
   ·simp
  ·have hlp:=Qi hpa (by simp);have hlq:=Qi hpd (by simp);have hpa1:=Qf [ABlk.rows 1 [[iv p.1]]] (Qf [ABlk.box (prC p)] hpa (by simp)) (by simp);have hpd1:=Qf [ABlk.rows 1 [[iv p.1]]] (Qf [ABlk.box (prC p)] hpd (by simp)) (by simp);refine Qj (X4 1 8 hpa1 hn1 (by simp) rfl rfl (by simp[hla]; omega)) (YW _ _ (by simp; omega)) ?_;have hB2:=Qf [ABlk.rows 1 (a.map cel++[[iv p.1]])] (Xj (c:=pa) (x:=.dead) hB1 (by simp) (by omega)) (by simp);have h02:=Qf [ABlk.rows 1 (a.map cel++[[iv p.1]])] (Xj (c:=pa) (x:=.dead) h01 (by simp) (by omega)) (by simp);have hpd2:=Qf [ABlk.rows 1 (a.map cel++[[iv p.1]])] (Xj (c:=pa) (x:=.dead) hpd1 (by simp) (by omega)) (by simp);have hnp:=Qh ((τ++[ABlk.box (prC p)]++[ABlk.rows 1 [[iv p.1]]]).set pa .dead) (.rows 1 (a.map cel++[[iv p.1]]));have hl3:((τ++[ABlk.box (prC p)]++[ABlk.rows 1 [[iv p.1]]]).set pa .dead++[ABlk.rows 1 (a.map cel++[[iv p.1]])]).length=τ.length+3:=by simp
   have hl2:((τ++[ABlk.box (prC p)]++[ABlk.rows 1 [[iv p.1]]]).set pa .dead).length=τ.length+2:=by simp
   have hl2':(τ++[ABlk.box (prC p)]++[ABlk.rows 1 [[iv p.1]]]).length=τ.length+2:=by simp
   have hl1':(τ++[ABlk.box (prC p)]).length=τ.length+1:=by simp
   rw[hl2] at hnp;rw[hl2',hl1'];generalize (τ++[ABlk.box (prC p)]++[ABlk.rows 1 [[iv p.1]]]).set pa .dead++[ABlk.rows 1 (a.map cel++[[iv p.1]])]=τ2 at hB2 h02 hpd2 hnp hl3 ⊢;refine Yk rfl (Qj (v:=iv p.2) (ld hB2 rfl) (Yn _) (Qj (Xb3 1 _ _ _ [iv p.2] rfl rfl) (Qs _ _) ?_));have hn2:=Qh τ2 (.rows 1 [[iv p.2]]);have hpd3:=Qf [ABlk.rows 1 [[iv p.2]]] hpd2 (by simp);rw[hl3] at hn2 ⊢;refine Qj (X4 1 8 hpd3 hn2 (by simp) rfl rfl (by simp[hld]; omega)) (YW _ _ (by simp; omega)) (QO ?_ ?_)
   ·have e1:¬τ.length=pa:=by omega
    have e2:¬τ.length+1=pa:=by omega
    have e5:¬τ.length=pd:=by omega
    simp[Qe,List.range,List.range.loop,ZD,Z3,QA,apart2,disj,e1,e2,e5,hl3];omega
   refine Ya (Qn ..) ?_;rw[Xg (n:=i) (by omega)];refine hgo _ _ _ (Qf _ (Xj (Qf _ h02 (by simp)) (by simp) (by omega)) (by simp)) (.inr ⟨τ.length+2,τ.length+4,by omega,by omega,by omega,?_,?_,Qf _ (Xj (Qf _ (hnp.trans (by rw[List.map_append]; rfl)) (by simp)) (by simp) (by omega)) (by simp),?_⟩)
   ·simp
   ·simp[hl3]
   ·have:=Qh ((τ2++[ABlk.rows 1 [[iv p.2]]]).set pd .dead) (.rows 1 (d.map cel++[[iv p.2]]));simp only[List.length_set,List.length_append,hl3,List.length_singleton] at this;rw[List.map_append]; exact this
 have h:i=l.length:=by simp at h; omega
 subst h;rw[List.drop_length,List.all_nil] at hall;rw[List.take_length] at hT;obtain⟨⟨r1,hA⟩,r2,hD⟩:=hT.ri;refine YN (rd:=r1) (c95 h89 hn (l.map λx=>x.1) (by simpa using hl)) rfl g95_ok.plain (.cons (show Bor _ _ _ (rowV (l.map λx=>x.1)) from hA) .nil) rfl (Ya rfl ?_);refine Zco (v1:=vd) (u0:=.bool (!decide (l.map (·.2)).Nodup)) (λ_=>rfl) (λ_ k hk=>YN (rd:=r2) (c95 h89 hn (l.map λx=>x.2) (by simpa using hl)) rfl g95_ok.plain (.cons (show Bor _ _ _ (rowV (l.map λx=>x.2)) from hD) .nil) rfl hk) (λ_=>rfl) ?_;rw[QB,hall];simp
end Go.Ah.Tz
end
section
namespace Go.Ah.Tz
open Go.Proofs.Tryz (prog)
def powId(b:Bk)(s:St)(id:Int):Int×Int:=if (unitR s id).2.2 then powF b (Z9 s (unitR s id).1).units (unitR s id).2.1 else (0,0)
def powV(b:Bk)(s:St)(id:Int):AVal:=.tup [iv (powId b s id).1,iv (powId b s id).2,.bool (unitR s id).2.2]
def powN(b:Bk)(s:St)(id:Int):Int:=max (powId b s id).1 0
theorem Xch{b:Bk}{s:St}{id:Int}(h:(unitR s id).2.2=false):powN b s id=0:=by simp[powN,powId,h]
attribute [local irreducible] Ans.rd Ans.pu Ans.wr Ans.dr Ans.gr Ans.gw Ans.gl Ans.gd Ans.opt joinK W
set_option maxHeartbeats 8000000
theorem c54(b:Bk)(hf:bkFit b=true)(hsm:Zt b.cards)(s:St)(hs:StLe 1000000000 s)(hm:mayR (bkR b).1 b s true=true)(id:Int):PC 54 [bkV b,stV s,iv id] (powV b s id):=by
 refine Ze hP g54_ok rfl rfl ?_;unfold g54;refine Zd (v:=.bptr 0 0) (rd:=[]) (up:=[(0,.box (bkC b))]) rfl rfl ?_;refine Zd (v:=.bptr 1 0) (rd:=[]) (up:=[(1,.box (stC s))]) rfl rfl ?_;refine c56n b hf hsm s hs (n0:=2) (n:=13) rfl rfl rfl rfl (λh=>by rw[hm] at h; cases h) (λ_=>?_);refine Ya rfl (Xh (Ya (ld (row:=stC s) rfl rfl) (Ye (c71 s hs id) rfl g71_ok.plain rfl (Ya rfl (Ya rfl (Ya rfl (Ya rfl ?_)))))));rcases ZbT s id with ⟨k,u,hu,hk⟩|⟨k,u,hu,hk⟩|hu
 ·have e:powV b s id=.tup [iv (powF b s.s0.units k).1,iv (powF b s.s0.units k).2,.bool true]:=by simp[powV,powId,hu,Z9]
  rw[e,hu];refine Xh ?_;refine YN (rd:=[0,2,3,4,5,6,7,8,9,10,11,12,13]) (c75_0 b s hs.s0.units (Zbg hm) k) rfl g75_ok.plain (.cons (Bor.box (row:=mv2 s) rfl (by decide) (.cons (Bor.box (row:=bkC b) rfl (by decide) (BorL.ro rfl)) ?_)) <| .cons (Bor.ro rfl) <| .cons (Bor.ro rfl) .nil) rfl ?_
  ·exact SB.mk (s:=s) (RI.own rfl (by decide) rfl) (RI.own rfl (by decide) rfl) (RI.own rfl (by decide) rfl) (RI.own rfl (by decide) rfl) (RT.own rfl (by decide) rfl) (RI.own rfl (by decide) rfl) (RI.own rfl (by decide) rfl) (RI.own rfl (by decide) rfl) (RI.own rfl (by decide) rfl) (RT.own rfl (by decide) rfl) (RI.own rfl (by decide) rfl)
  exact Ya rfl (Ya rfl rfl)
 ·have e:powV b s id=.tup [iv (powF b s.s1.units k).1,iv (powF b s.s1.units k).2,.bool true]:=by simp[powV,powId,hu,Z9]
  rw[e,hu];refine Xh ?_;refine YN (rd:=[0,2,3,4,5,6,7,8,9,10,11,12,13]) (c75_1 b s hs.s1.units (Ybg hm) k) rfl g75_ok.plain (.cons (Bor.box (row:=mv2 s) rfl (by decide) (.cons (Bor.box (row:=bkC b) rfl (by decide) (BorL.ro rfl)) ?_)) <| .cons (Bor.ro rfl) <| .cons (Bor.ro rfl) .nil) rfl ?_
  ·exact SB.mk (s:=s) (RI.own rfl (by decide) rfl) (RI.own rfl (by decide) rfl) (RI.own rfl (by decide) rfl) (RI.own rfl (by decide) rfl) (RT.own rfl (by decide) rfl) (RI.own rfl (by decide) rfl) (RI.own rfl (by decide) rfl) (RI.own rfl (by decide) rfl) (RI.own rfl (by decide) rfl) (RT.own rfl (by decide) rfl) (RI.own rfl (by decide) rfl)
  exact Ya rfl (Ya rfl rfl)
 ·have e:powV b s id=.tup [iv 0,iv 0,.bool false]:=by simp[powV,powId,hu]
  rw[e,hu];exact Zg rfl
end Go.Ah.Tz
end
section
namespace Go.Ah.Tz
open Go.Proofs.Tryz (prog)
abbrev ivF:Int→AVal:=λn=>iv n
def powM(b:Bk)(s:St)(l:List Th):List (Int×Int):=l.map λu=>(u.id,powN b s u.id)
theorem Qbh(b:Bk)(s:St)(l:List Th):(powM b s l).map (·.1)=l.map Th.id:=by simp[powM]
theorem Zbi(b:Bk)(s:St)(id:Int):∀l:List Th,(ilook id (powM b s l))=if id∈l.map Th.id then some (powN b s id) else none
 |[]=>rfl
 |u::l=>by
  show (if id==u.id then some (powN b s u.id) else ilook id (powM b s l))=_;by_cases e:id=u.id
  ·subst e; simp
  ·rw[if_neg (by simpa using e),Zbi b s id l];simp[e]
theorem XcB(b:Bk)(s:St)(id:Int):(ilook id (powM b s (s.s0.units++s.s1.units))).getD 0=powN b s id:=by
 rw[Zbi];split
 ·rfl
 ·rename_i h;refine(Xch ?_).symm;cases h2:(unitR s id).2.2 with
  |false=>rfl
  |true=>
   obtain⟨k,u,_,h3,rfl,_⟩:=Zct h2;refine absurd ?_ h;have hm:=List.mem_of_getElem? h3;rw[Z9] at hm;refine List.mem_map.2 ⟨u,?_,rfl⟩;split at hm<;>simp[hm]
structure PwB (b:Bk) (s:St) (M:List (Int×Int)) (τ:List ABlk):Prop where
 k0:hget τ 0=.box (bkC b)
 k1:hget τ 1=.box (stC s)
 k2:hget τ 2=.box zStC
 k3:hget τ 3=.map (mpG ivF M)
theorem PwB.app{b:Bk}{s:St}{M:List (Int×Int)}{τ:List ABlk}(h:PwB b s M τ)(l:List ABlk):PwB b s M (τ++l):=
 ⟨Qf _ h.k0 (by simp),Qf _ h.k1 (by simp),Qf _ h.k2 (by simp),Qf _ h.k3 (by simp)⟩
attribute [local irreducible] Ans.rd Ans.pu Ans.wr Ans.dr Ans.gr Ans.gw Ans.gl Ans.gd Ans.opt joinK W
set_option maxHeartbeats 8000000
theorem Qch(b:Bk)(hf:bkFit b=true)(hsm:Zt b.cards)(s:St)(hs:StLe 1000000000 s)(hm:mayR (bkR b).1 b s true=true)(U:List Th)(hU:U.length≤1000000000)(M:List (Int×Int))(hn:(M.map (·.1)++U.map Th.id).Nodup){τ:List ABlk}(h0:PwB b s M τ){K:List ABlk→Prop}(hK:∀τ',PwB b s (M++powM b s U) τ'→K τ') :
  VV.loop (λag30 v31 σ=>
  VV.rd (Yh .lss false [(Go.Ah.h0 v31),iv U.length] σ) λt53_32=>
  VV.test t53_32 (
  VV.rd (Qa 4 [thV U,(Go.Ah.h0 v31)] σ) λt54_33=>
  VV.rd (Zc true 4 [t54_33] σ) λt55_34=>
  VV.wr (Xc [(.int .i64 0),(.int .i64 0),(.int .i64 0),(.bool false)] [] σ) σ λt13_35 σ=>
  VV.wr (Zb 4 [t13_35,t55_34] σ) σ λ_ σ=>
  VV.rd (Zc true 2 [.bptr 0 0] σ) λt57_36=>
  VV.rd (Zc true 23 [.bptr 1 0] σ) λt58_37=>
  VV.rd (Za 0 [t13_35] σ) λt59_38=>
  VV.rd (Zc false 1 [t59_38] σ) λt60_39=>
  VV.call (.call 54) [t57_36,t58_37,t60_39] σ λt61_40 σ=>
  VV.rd (Qb 0 [t61_40] σ) λt62_41=>
  VV.rd (Qb 1 [t61_40] σ) λt63_42=>
  VV.rd (Qb 2 [t61_40] σ) λt64_43=>
  VV.rd (Za 0 [t13_35] σ) λt66_44=>
  VV.rd (Zc false 1 [t66_44] σ) λt67_45=>
  VV.rd (ZaA [t62_41,(.int .i64 0)] σ) λt69_46=>
  VV.wr (Xw false [.map 3,t67_45,t69_46] σ) σ λ_ σ=>
  VV.rd (Yh .add false [(Go.Ah.h0 v31),(.int .i64 1)] σ) λt70_47=>
  ag30 [t70_47] σ) (K σ)) [(.int .i64 0)] τ:=by
 refine Xo (ι:=Nat) (λi vs τ=>vs=[iv i]∧i≤U.length∧PwB b s (M++powM b s (U.take i)) τ) (λi=>U.length-i) 0 ⟨rfl,by omega,by simpa[powM] using h0⟩ ?_;clear h0;rintro i vs τ again ⟨rfl,hi,h0⟩ hag;refine Ya (Qx ..) (Qc (λh=>?_) (λh=>?_))
 ·have h:i<U.length:=by simpa using h
  have htk:U.take (i+1)=U.take i++[U[i]]:=by rw[List.take_succ_eq_append_getElem h]
  have hix:=λ(t:List ABlk)=>Qu t thC false false 4 U .i64 i h;have hnin:ilook U[i].id (M++powM b s (U.take i))=none:=by
   have hk:=Zac U[i].id (M++powM b s (U.take i));rw[List.map_append,Qbh] at hk;have:(M.map (·.1)++(U.take i).map Th.id).contains U[i].id=false:=by
    rw[←List.take_append_drop i U,List.map_append,←List.append_assoc] at hn;have h3:=(List.nodup_append.1 hn).2.2;cases hc:(M.map (·.1)++(U.take i).map Th.id).contains U[i].id with
    |false=>rfl
    |true=>
     refine absurd rfl (h3 U[i].id (by simpa using hc) U[i].id (List.mem_map.2 ⟨U[i],?_,rfl⟩));rw[YLD h]; exact List.mem_cons_self
   rw[this] at hk;simpa using hk
  generalize U[i]=u at hix htk hnin;refine Ya (hix _) (Ya (v:=.agg (thC u)) (rd:=[]) (ldr rfl) (Xz (row:=thC u) (row':=thC u) rfl rfl rfl ?_));have hB:=Qh τ (ABlk.box (thC u));have h1:=h0.app [.box (thC u)];refine Ya (ld h1.k0 rfl) (Ya (ld h1.k1 rfl) (Ya rfl (Ya (v:=iv u.id) (ld hB rfl) ?_)));refine Ye (c54 b hf hsm s hs hm u.id) rfl g54_ok.plain rfl (Ya rfl (Ya rfl (Ya rfl (Ya rfl (Ya (v:=iv u.id) (ld hB rfl) (Ya (YaJ ..) ?_))))));refine Zd (Qb4 ivF h1.k3 u.id (powN b s u.id) hnin) (Yo _ (Qi h1.k3 (by simp))) (Ya (Qn ..) ?_);rw[Xg (n:=i) (by omega)];refine hag (i+1) _ _ (by omega) ⟨rfl,by omega,Xj h1.k0 (by simp) (by decide),Xj h1.k1 (by simp) (by decide),Xj h1.k2 (by simp) (by decide),?_⟩;rw[Qk _ (Qi h1.k3 (by simp)),htk];simp[powM]
 ·have h:i=U.length:=by simp at h; omega
  subst h;rw[List.take_length] at h0;exact hK _ h0
end Go.Ah.Tz
end
section
namespace Go.Ah.Tz
open Go.Proofs.Tryz (prog)
inductive FS where
 |harm (id n:Int)
 |block (a d:Int)
def fsOf(b:Bk)(s:St)(l:List (Int×Int))(a:Int):List FS:=match ZG l a with
 |none=>[.harm 0 (powN b s a)]
 |some p=>[.block a p.2,.harm p.2 (powN b s a),.harm a (powN b s p.2)]
def fsAll(b:Bk)(s:St)(l:List (Int×Int)):List Int→List FS
 |[]=>[]
 |a::r=>fsOf b s l a++fsAll b s l r
theorem QK(b:Bk)(s:St)(l:List (Int×Int))(x y:List Int):fsAll b s l (x++y)=fsAll b s l x++fsAll b s l y:=by
 induction x with
 |nil=>rfl
 |cons a x ih=>simp[fsAll,ih]
theorem QaK(b:Bk)(s:St)(l:List (Int×Int))(x:List Int):(fsAll b s l x).length≤3*x.length:=by
 induction x with
 |nil=>simp[fsAll]
 |cons a x ih=>
  have:(fsOf b s l a).length≤3:=by unfold fsOf; split<;>simp
  simp[fsAll]; omega
def evM(e:Ev):List AVal:=if e.kind=12 then evN e else evC e
def fsGo(b:Bk)(mv:Int):List FS→St→List Ev→St×List Ev×Int
 |[],t,l=>(t,l,0)
 |.block a d::r,t,l=>fsGo b mv r t (l++[⟨12,mv,0,a,d,0,[]⟩])
 |.harm id n::r,t,l=>if (harmF b t id (1-mv) n).2.2=0 then fsGo b mv r (harmF b t id (1-mv) n).1 (l++[(harmF b t id (1-mv) n).2.1]) else (zSt,[],(harmF b t id (1-mv) n).2.2)
def XJ(r:St×List Ev×Int):St×List Ev×Int:=if r.2.2=0 then ({ r.1 with attack:=[],phase:=0 },r.2.1,0) else (zSt,[],r.2.2)
def fightR(b:Bk)(s:St)(l:List (Int×Int)):St×List Ev×Int:=
 if mayR (bkR b).1 b s false=true then (if (decide (s.phase≠1) || !QB s l)=true then (zSt,[],2) else XJ (fsGo b s.mover (fsAll b s l s.attack) s [])) else (zSt,[],170)
@[reducible] def YaW(r:St×List Ev×Int):AVal:=.tup [stV r.1,.rsl false false 7 (r.2.1.map evM),iv r.2.2]
theorem Xah{σ:List ABlk}(e:Int):∃rd,Bor (Go.Ah.hp σ) rd (.tup [.agg zStC,.nils,iv e]) (YaW (zSt,[],e)):=
 ⟨[],Bor.tup (.cons SB.zero.agg <| .cons (Bor.weak (Bor.ro rfl) (λM u d=>d.nils_rsl 7)) <| .cons (Bor.ro rfl) .nil)⟩
inductive FnV (n:Nat) (τ:List ABlk):FS→AVal→Prop
 |harm {p q:Nat} {id k:Int}:n+14≤p→n+14≤q→hget τ p=.box [iv id]→hget τ q=.box [iv k]→FnV n τ (.harm id k) (.func (.func 102) [] [.bptr 0 0,.bptr (n+11) 0,.bptr p 0,.bptr 1 0,.bptr q 0,.bptr (n+12) 0])
 |block {p q:Nat} {a a' d:Int}:n+14≤p→n+14≤q→hget τ p=.box [iv a]→hget τ q=.box [iv a',iv d]→FnV n τ (.block a d) (.func (.func 105) [] [.bptr (n+12) 0,.bptr 1 0,.bptr p 0,.bptr q 0])
def Bx(e:Nat)(τ τ':List ABlk):Prop:=τ.length≤τ'.length∧∀c y,c≠e→hget τ c=.box y→hget τ' c=.box y
theorem Bx.app(e:Nat)(τ l:List ABlk):Bx e τ (τ++l):=⟨by simp,λc y _ h=>Qf _ h (by simp)⟩
theorem Bx.trans{e:Nat}{a b c:List ABlk}(h:Bx e a b)(k:Bx e b c):Bx e a c:=⟨Nat.le_trans h.1 k.1,λx y hx h1=>k.2 x y hx (h.2 x y hx h1)⟩
theorem FnV.bx{n:Nat}{τ τ':List ABlk}{x:FS}{v:AVal}(h:FnV n τ x v)(k:∀c y,n+14≤c→hget τ c=.box y→hget τ' c=.box y):FnV n τ' x v:=by
 cases h with
 |harm h1 h2 h3 h4=>exact .harm h1 h2 (k _ _ h1 h3) (k _ _ h2 h4)
 |block h1 h2 h3 h4=>exact .block h1 h2 (k _ _ h1 h3) (k _ _ h2 h4)
def SR(n:Nat)(τ:List ABlk)(S:List FS)(v:AVal):Prop:=
 (S=[]∧v=.nils)∨∃R rows,n+14≤R∧0<S.length∧v=.sl R 0 S.length false∧hget τ R=.rows 1 rows∧rows.length=S.length∧∀i (h:i<S.length),∃fv,rows[i]?=some [fv]∧fv.cell=true∧FnV n τ S[i] fv
structure SX (b:Bk) (s:St) (M:List (Int×Int)) (n:Nat) (S:List FS) (v:AVal) (τ:List ABlk):Prop where
 ln:n+14≤τ.length
 n4:4≤n
 pw:PwB b s M τ
 cp:CP τ n s
 ev:hget τ (n+12)=.box [.nils]
 st:hget τ (n+13)=.box [v]
 row:SR n τ S v
theorem SX.app{b:Bk}{s:St}{M:List (Int×Int)}{n:Nat}{S:List FS}{v:AVal}{τ:List ABlk}(h:SX b s M n S v τ)(l:List ABlk):SX b s M n S v (τ++l):=by
 refine⟨by have:=h.ln; simp; omega,h.n4,h.pw.app l,⟨Qf _ h.cp.box (by simp),λi x hx=>?_⟩,Qf _ h.ev (by simp),Qf _ h.st (by simp),?_⟩
 ·have hi:i<11:=(YLG hx).1;have:=h.ln;rw[Xp l (by omega)]; exact h.cp.key i x hx
 ·rcases h.row with h1|⟨R,rows,h1,h2,h3,h4,h5,h6⟩
  ·exact .inl h1
  ·refine .inr ⟨R,rows,h1,h2,h3,Qf _ h4 (by simp),h5,λi hi=>?_⟩;obtain⟨fv,q1,q2,q3⟩:=h6 i hi;exact⟨fv,q1,q2,q3.bx (λc y _ hy=>Qf _ hy (by simp))⟩
theorem FnV.cell{n:Nat}{τ:List ABlk}{x:FS}{v:AVal}(h:FnV n τ x v):v.cell=true:=by cases h<;>rfl
theorem SX.upd{b:Bk}{s:St}{M:List (Int×Int)}{n:Nat}{S S':List FS}{v v':AVal}{τ τ':List ABlk}(h:SX b s M n S v τ){R:Nat}(hR:n+14≤R)(hA:Agr τ τ' [n+13,R])(hst:hget τ' (n+13)=.box [v'])(hrow:SR n τ' S' v'):SX b s M n S' v' τ':=by
 have hl:=h.ln;have n4:=h.n4;refine⟨Nat.le_trans hl hA.1,n4,⟨hA.get h.pw.k0 (by simp) (by simp; omega),hA.get h.pw.k1 (by simp) (by simp; omega),hA.get h.pw.k2 (by simp) (by simp; omega),hA.get h.pw.k3 (by simp) (by simp; omega)⟩,⟨hA.get h.cp.box (by simp) (by simp; omega),λi x hx=>?_⟩,hA.get h.ev (by simp) (by simp; omega),hst,hrow⟩;have hi:i<11:=(YLG hx).1;rw[hA.2 (n+i) (by omega) (by simp; omega)]; exact h.cp.key i x hx
theorem Agr.bx{n R:Nat}{τ τ':List ABlk}(hA:Agr τ τ' [n,R])(hR:∀ y,hget τ R≠.box y):Bx n τ τ':=⟨hA.1,λc y hc hy=>hA.get hy (by simp) (by
 have:c≠R:=λe=>hR y (e ▸ hy);simp[hc,this])⟩
attribute [local irreducible] Ans.rd Ans.pu Ans.wr Ans.dr Ans.gr Ans.gw Ans.gl Ans.gd Ans.opt joinK W
set_option maxHeartbeats 8000000
theorem ZcL{b:Bk}{s:St}{M:List (Int×Int)}{n:Nat}{S:List FS}{v:AVal}{τ:List ABlk}(h:SX b s M n S v τ)(hS:S.length≤1000000){x:FS}{fv:AVal}(hx:FnV n τ x fv){K:AVal→List ABlk→Prop}(hK:∀v' τ',SX b s M n (S++[x]) v' τ'→Bx (n+13) τ τ'→K .junk τ') :
  VV.wr (Zh 1 1 [.nilf] [(0,1)] [fv] τ) τ λt σ=>VV.wr (Qg 1 8 [v,t] σ) σ λt2 σ=>VV.wr (Zb 1 [.bptr (n+13) 0,t2] σ) σ K:=by
 have hc:=hx.cell;have hrc:Ys [[fv]]=true:=by cases hx<;>rfl
 have hl:=h.ln;have n4:=h.n4;refine Zd (Xb3 1 τ fv [.nilf] [fv] (by cases hx<;>rfl) rfl) (Qs _ _) ?_;have hnew:=Qh τ (.rows 1 [[fv]]);have hcl:∀(m:Nat),cellsOf (.sl m 0 (S.length+1) false)=some [.sl m 0 (S.length+1) false]:=λm=>rfl;rcases h.row with ⟨rfl,rfl⟩|⟨R,rows,r1,r2,rfl,r4,r5,r6⟩
 ·refine Zd (Y4 1 8 hnew rfl hrc (by simp)) (Qs _ _) ?_;have hst:=Qf [.rows 1 [[fv]]] (Qf [.rows 1 [[fv]]] h.st (by simp)) (by simp);refine Zd (stv (row':=[.sl (τ.length + 1) 0 1 false]) hst (by simp; rfl) rfl rfl) (Yo _ (Qi hst (by simp))) ?_;have hA:Agr τ ((τ ++ [ABlk.rows 1 [[fv]]] ++ [ABlk.rows 1 [[fv]]]).set (n + 13) (.box [.sl (τ.length + 1) 0 1 false])) [n + 13,τ.length]:=⟨by simp; try omega,λc hc hn=>by
   simp only[List.mem_cons,List.not_mem_nil,or_false,not_or] at hn;rw[Yj _ (by simp; omega) hn.1,Xp _ (by simp; omega),Xp _ hc]⟩
  refine hK _ _ (h.upd (v':=.sl (τ.length+1) 0 1 false) (by omega) hA (Qk _ (Qi hst (by simp))) (.inr ⟨τ.length+1,[[fv]],by omega,by simp,rfl,?_,rfl,λi hi=>?_⟩)) (hA.bx (λy hc=>Nat.lt_irrefl _ (Qi hc (by simp))))
  ·have:=Qh (τ++[ABlk.rows 1 [[fv]]]) (.rows 1 [[fv]]);exact Xj (by simpa using this) (by simp) (by omega)
  ·obtain rfl:i=0:=by simp at hi; omega
   exact⟨fv,rfl,hc,hx.bx (λc y hc hy=>(hA.bx (λy hc=>Nat.lt_irrefl _ (Qi hc (by simp)))).2 c y (by omega) hy)⟩
 ·refine Zd (X4 1 8 (Qf _ r4 (by simp)) hnew r5 rfl hrc (by omega)) (YW _ _ (by have:=Qi r4 (by simp); simp; omega)) ?_;have hst:=Qf [.rows 1 (rows ++ [[fv]])] (Xj (c:=R) (x:=.dead) (Qf [.rows 1 [[fv]]] h.st (by simp)) (by simp) (by omega)) (by simp);refine Zd (stv (row':=[.sl (τ.length + 1) 0 (S.length + 1) false]) hst (by simp; rfl) rfl rfl) (Yo _ (Qi hst (by simp))) ?_;have hA:Agr τ (((τ ++ [ABlk.rows 1 [[fv]]]).set R .dead ++ [ABlk.rows 1 (rows ++ [[fv]])]).set (n + 13) (.box [.sl (τ.length + 1) 0 (S.length + 1) false])) [n + 13,R]:=⟨by simp; try omega,λc hc hn=>by
   simp only[List.mem_cons,List.not_mem_nil,or_false,not_or] at hn;rw[Yj _ (by simp; omega) hn.1,Xp _ (by simp; omega),Yj _ (by simp; omega) hn.2,Xp _ hc]⟩
  have hbx:=hA.bx (λy=>by rw[r4]; simp);have hlen:(S++[x]).length=S.length+1:=by simp
  refine hK _ _ (h.upd (v':=.sl (τ.length+1) 0 (S.length+1) false) r1 hA (Qk _ (Qi hst (by simp))) (.inr ⟨τ.length+1,rows++[[fv]],by omega,by simp,by rw[hlen],?_,by simp[r5],λi hi=>?_⟩)) hbx
  ·have:=Qh ((τ++[ABlk.rows 1 [[fv]]]).set R .dead) (.rows 1 (rows++[[fv]]));exact Xj (by simpa using this) (by simp) (by omega)
  ·by_cases hi2:i<S.length
   ·obtain⟨w,q1,q2,q3⟩:=r6 i hi2;refine⟨w,by rw[List.getElem?_append_left (by omega)]; exact q1,q2,?_⟩;rw[List.getElem_append_left hi2];exact q3.bx (λc y hc hy=>hbx.2 c y (by omega) hy)
   ·obtain rfl:i=S.length:=by omega
    refine⟨fv,by rw[List.getElem?_append_right (by omega),r5]; simp,hc,?_⟩;rw[List.getElem_append_right (by omega)];simpa using hx.bx (λc y hc hy=>hbx.2 c y (by omega) hy)
theorem w101{b:Bk}{s:St}{M:List (Int×Int)}{n:Nat}{S:List FS}{v:AVal}{τ:List ABlk}(h:SX b s M n S v τ)(hS:S.length≤1000000)(id k:Int){K:AVal→List ABlk→Prop}(hK:∀v' τ',SX b s M n (S++[.harm id k]) v' τ'→Bx (n+13) τ τ'→K (.tup []) τ') :
  VV.call .callv [.func (.func 101) [] [.bptr (n+13) 0,.bptr 0 0,.bptr (n+11) 0,.bptr 1 0,.bptr (n+12) 0],iv id,iv k] τ K:=by
 refine Yt hP rfl g101_ok rfl ?_;unfold g101;refine Zd (v:=.bptr τ.length 0) (rd:=[]) (up:=[(τ.length,.box [iv id])]) rfl (Qs _ _) ?_;refine Zd (v:=.bptr (τ++[ABlk.box [iv id]]).length 0) (rd:=[]) (up:=[((τ++[ABlk.box [iv id]]).length,.box [iv k])]) rfl (Qs _ _) ?_;have h1:=(h.app [.box [iv id]]).app [.box [iv k]];have b1:=(Bx.app (n+13) τ [.box [iv id]]).trans (Bx.app (n+13) _ [.box [iv k]]);refine Ya (ld h1.st rfl) (Ya (Qam ..) (ZcL h1 hS (x:=.harm id k) (.harm h.ln (by have:=h.ln; simp; omega) (Qf _ (Qh _ _) (by simp)) (Qh _ _)) (λv' τ' h2 b2=>hK v' τ' h2 (b1.trans b2))))
end Go.Ah.Tz
end
section
namespace Go.Ah.Tz
open Go.Proofs.Tryz (prog)
def EvR(n:Nat)(τ:List ABlk)(l:List Ev)(v:AVal):Prop:=
 (l=[]∧v=.nils)∨∃Q,n+14≤Q∧0<l.length∧v=.sl Q 0 l.length false∧hget τ Q=.rows 7 (l.map evM)
def TB(n:Nat)(s t:St)(τ:List ABlk):Prop:=(t=s∧CP τ n s)∨hget τ (n+11)=.box (stC t)
theorem TB.keep{n:Nat}{s t:St}{τ τ':List ABlk}(h:TB n s t τ)(k:∀c,c<n+12→hget τ' c=hget τ c):TB n s t τ':=by
 rcases h with ⟨h1,h2⟩|h1
 ·refine .inl ⟨h1,by rw[k _ (by omega)]; exact h2.box,λi x hx=>?_⟩;have hi:i<11:=(YLG hx).1;rw[k _ (by omega)]; exact h2.key i x hx
 ·exact .inr (by rw[k _ (by omega)]; exact h1)
theorem TB.sb{n:Nat}{s t:St}{τ:List ABlk}(h:TB n s t τ):∃cs rd,hget τ (n+11)=.box cs∧cs.length=23∧partA true 0 23 cs=some (.agg cs)∧SB τ rd cs t∧(∀c∈rd,n≤c∧c<n+11)∧(∀c∈rd,hget τ c≠.dead):=by
 rcases h with ⟨rfl,h2⟩|h1
 ·refine⟨_,(List.range 11).map (n + ·),h2.box,rfl,rfl,SB.copy h2.key λi hi=>List.mem_map.2 ⟨i,List.mem_range.2 hi,rfl⟩,λc hc=>?_,λc hc=>?_⟩
  ·obtain⟨i,hi,rfl⟩:=List.mem_map.1 hc;have:=List.mem_range.1 hi; omega
  ·obtain⟨i,hi,rfl⟩:=List.mem_map.1 hc;have:=List.mem_range.1 hi;have hl:i<(stB t).length:=by simpa[stB,sdB] using this
   rw[h2.key i _ (List.getElem?_eq_getElem hl)]
   match i,this with
   |0,_|1,_|2,_|3,_|4,_|5,_|6,_|7,_|8,_|9,_|10,_=>simp[stB,sdB]
 ·exact⟨_,[],h1,rfl,rfl,SB.ro t,by simp,by simp⟩
structure RX (b:Bk) (s:St) (n:Nat) (l:List Ev) (v:AVal) (τ:List ABlk):Prop where
 ln:n+14≤τ.length
 n4:4≤n
 k0:hget τ 0=.box (bkC b)
 k1:hget τ 1=.box (stC s)
 k2:hget τ 2=.box zStC
 ev:hget τ (n+12)=.box [v]
 row:EvR n τ l v
def Kp2(n:Nat)(τ τ':List ABlk):Prop:=τ.length≤τ'.length∧∀c y,hget τ c=y→y≠.dead→(c<n∨n+13≤c)→(∀rs,y≠.rows 7 rs)→hget τ' c=y
theorem Kp2.trans{n:Nat}{a b c:List ABlk}(h:Kp2 n a b)(k:Kp2 n b c):Kp2 n a c:=⟨Nat.le_trans h.1 k.1,λx y h1 h2 h3 h4=>k.2 x y (h.2 x y h1 h2 h3 h4) h2 h3 h4⟩
theorem Agr.kp2{n:Nat}{τ τ':List ABlk}{e:List Nat}(h:Agr τ τ' e)(he:∀ c∈e,(n≤c∧c < n + 13)∨(∃ rs,hget τ c=.rows 7 rs)):Kp2 n τ τ':=⟨h.1,λc y h1 h2 h3 h4=>h.get h1 h2 (λhc=>by
 rcases he c hc with q|⟨rs,q⟩
 ·omega
 ·exact h4 rs (h1.symm.trans q))⟩
theorem SR.kp2{n:Nat}{τ τ':List ABlk}{S:List FS}{v:AVal}(h:SR n τ S v)(k:Kp2 n τ τ'):SR n τ' S v:=by
 rcases h with h|⟨R,rows,h1,h2,h3,h4,h5,h6⟩
 ·exact .inl h
 ·refine .inr ⟨R,rows,h1,h2,h3,k.2 R _ h4 (by simp) (by omega) (by simp),h5,λi hi=>?_⟩;obtain⟨fv,q1,q2,q3⟩:=h6 i hi;exact⟨fv,q1,q2,q3.bx (λc y hc hy=>k.2 c _ hy (by simp) (by omega) (by simp))⟩
theorem RX.upd{b:Bk}{s:St}{n:Nat}{l l':List Ev}{v v':AVal}{τ τ':List ABlk}(h:RX b s n l v τ){e:List Nat}(he:∀c∈e,n≤c)(hA:Agr τ τ' e)(hev:hget τ' (n+12)=.box [v'])(hrow:EvR n τ' l' v'):RX b s n l' v' τ':=by
 have hl:=h.ln;have n4:=h.n4;have hn:∀c,c<n→c∉e:=λc hc hm=>by have:=he c hm; omega
 exact⟨Nat.le_trans hl hA.1,n4,hA.get h.k0 (by simp) (hn _ (by omega)),hA.get h.k1 (by simp) (hn _ (by omega)),hA.get h.k2 (by simp) (hn _ (by omega)),hev,hrow⟩
theorem RX.mono{b:Bk}{s:St}{n:Nat}{l:List Ev}{v:AVal}{τ τ':List ABlk}(h:RX b s n l v τ){e:List Nat}(he:∀c∈e,n≤c∧c<n+12)(hA:Agr τ τ' e):RX b s n l v τ':=by
 refine h.upd (λc hc=>(he c hc).1) hA (hA.get h.ev (by simp) (λhc=>by have:=he _ hc; omega)) ?_;rcases h.row with h1|⟨Q,h1,h2,h3,h4⟩
 ·exact .inl h1
 ·exact .inr ⟨Q,h1,h2,h3,hA.get h4 (by simp) (λhc=>by have:=he _ hc; omega)⟩
theorem Yao:∀(rd:List Nat) (σ:List ABlk),Agr σ (killL σ rd) rd
 |[],σ=>⟨Nat.le_refl _,λ_ _ _=>rfl⟩
 |b::rd,σ=>by
  have h:=Yao rd (σ.set b .dead);refine⟨by have:=h.1; simpa[killL] using this,λc hc hn=>?_⟩;simp only[List.mem_cons,not_or] at hn;show hget (killL (σ.set b .dead) rd) c=_;rw[h.2 c (by simpa using hc) hn.2,Yj _ hc hn.1]
attribute [local irreducible] Ans.rd Ans.pu Ans.wr Ans.dr Ans.gr Ans.gw Ans.gl Ans.gd Ans.opt joinK W
set_option maxHeartbeats 8000000
theorem QcI{b:Bk}{s:St}{n:Nat}{l:List Ev}{v:AVal}{τ:List ABlk}(h:RX b s n l v τ)(hl:l.length≤1000000)(e:Ev){K:AVal→List ABlk→Prop}(hK:∀v' τ',RX b s n (l++[e]) v' τ'→Kp2 n τ τ'→(∀c,c<n+12→hget τ' c=hget τ c)→K .junk τ') :
  VV.wr (Zh 7 1 zEvC [(0,7)] [.agg (evM e)] τ) τ λt σ=>VV.wr (Qg 7 72 [v,t] σ) σ λt2 σ=>VV.wr (Zb 1 [.bptr (n+12) 0,t2] σ) σ K:=by
 have hrc:Ys [evM e]=true:=by unfold evM; split<;>rfl
 have hln:=h.ln;refine Zd (Xb3 7 τ (.agg (evM e)) zEvC (evM e) (by unfold evM; split<;>rfl) (by unfold evM; split<;>rfl)) (Qs _ _) ?_;have hnew:=Qh τ (.rows 7 [evM e]);have hlen:(l++[e]).length=l.length+1:=by simp
 rcases h.row with ⟨rfl,rfl⟩|⟨Q,r1,r2,rfl,r4⟩
 ·refine Zd (Y4 7 72 hnew rfl hrc (by simp)) (Qs _ _) ?_;have hst:=Qf [.rows 7 [evM e]] (Qf [.rows 7 [evM e]] h.ev (by simp)) (by simp);refine Zd (stv (row':=[.sl (τ.length + 1) 0 1 false]) hst (by simp; rfl) rfl rfl) (Yo _ (Qi hst (by simp))) ?_;have hA:Agr τ ((τ ++ [ABlk.rows 7 [evM e]] ++ [ABlk.rows 7 [evM e]]).set (n + 12) (.box [.sl (τ.length + 1) 0 1 false])) [n + 12]:=⟨by simp; try omega,λc hc hn=>by
   rw[Yj _ (by simp; omega) (by simpa using hn),Xp _ (by simp; omega),Xp _ hc]⟩
  refine hK (.sl (τ.length+1) 0 1 false) _ (h.upd (e:=[n+12]) (by simp) hA (Qk _ (Qi hst (by simp))) (.inr ⟨τ.length+1,by omega,by simp,rfl,?_⟩)) (hA.kp2 (by simp)) (λc hc=>hA.2 c (by omega) (by simp; omega));have:=Qh (τ++[ABlk.rows 7 [evM e]]) (.rows 7 [evM e]);exact Xj (by simpa using this) (by simp) (by omega)
 ·refine Zd (X4 7 72 (Qf _ r4 (by simp)) hnew (by simp) rfl hrc (by omega)) (YW _ _ (by have:=Qi r4 (by simp); simp; omega)) ?_;have hst:=Qf [.rows 7 (l.map evM ++ [evM e])] (Xj (c:=Q) (x:=.dead) (Qf [.rows 7 [evM e]] h.ev (by simp)) (by simp) (by omega)) (by simp);refine Zd (stv (row':=[.sl (τ.length + 1) 0 (l.length + 1) false]) hst (by simp; rfl) rfl rfl) (Yo _ (Qi hst (by simp))) ?_;have hA:Agr τ (((τ ++ [ABlk.rows 7 [evM e]]).set Q .dead ++ [ABlk.rows 7 (l.map evM ++ [evM e])]).set (n + 12) (.box [.sl (τ.length + 1) 0 (l.length + 1) false])) [n + 12,Q]:=⟨by simp; try omega,λc hc hn=>by
   simp only[List.mem_cons,List.not_mem_nil,or_false,not_or] at hn;rw[Yj _ (by simp; omega) hn.1,Xp _ (by simp; omega),Yj _ (by simp; omega) hn.2,Xp _ hc]⟩
  refine hK (.sl (τ.length+1) 0 (l.length+1) false) _ (h.upd (e:=[n+12,Q]) (by simp; omega) hA (Qk _ (Qi hst (by simp))) (.inr ⟨τ.length+1,by omega,by simp,by rw[hlen],?_⟩)) (hA.kp2 (by simp only[List.mem_cons,List.not_mem_nil,or_false]; rintro c (rfl|rfl); exact .inl (by omega); exact .inr ⟨_,r4⟩)) (λc hc=>hA.2 c (by omega) (by simp; omega));have:=Qh ((τ++[ABlk.rows 7 [evM e]]).set Q .dead) (.rows 7 (l.map evM++[evM e]));exact Xj (by simpa using this) (by simp) (by omega)
theorem QbY{s:St}{kd k:Int}{v:Int×Int}(h:(chgP s kd k v).2.2=0):(chgP s kd k v).2.1.kind=kd:=by
 unfold chgP at *;by_cases c:wIn v.1=true
 ·rw[if_pos c]
 ·rw[if_neg c] at h; cases h
theorem Xba{s:St}{kd k:Int}{i:Nat}{id:Int}{u:Th}{v:Int×Int}(h:(chgU s kd k i id u v).2.2=0):(chgU s kd k i id u v).2.1.kind=kd:=by
 unfold chgU at *;by_cases c:wIn v.1=true
 ·rw[if_pos c]
 ·rw[if_neg c] at h; cases h
theorem ZbY{s:St}{kd id k:Int}{fP:Int→Int×Int}{fU:Th→Int×Int}(h:(chgF kd fP fU s id k).2.2=0):(chgF kd fP fU s id k).2.1.kind=kd:=by
 unfold chgF at *;by_cases c:id=0
 ·rw[if_pos c] at *; exact QbY h
 rw[if_neg c] at *;by_cases c:id<0
 ·rw[if_pos c] at h; cases h
 rw[if_neg c] at *;cases q0:fnd s.s0.units id with
 |some i=>rw[q0] at h; exact Xba h
 |none=>
  rw[q0] at h;cases q1:fnd s.s1.units id with
  |some i=>rw[q1] at h; exact Xba h
  |none=>rw[q1] at h; cases h
theorem Ycc{b:Bk}{t:St}{id k n:Int}(h:(harmF b t id k n).2.2=0):evC (harmF b t id k n).2.1=evM (harmF b t id k n).2.1:=by
 have:(harmF b t id k n).2.1.kind=5:=ZbY h;unfold evM;rw[if_neg (by rw[this]; decide)]
theorem Zda(b:Bk)(hf:bkFit b=true)(hsm:Zt b.cards)(he:(bkR b).1=0){s:St}(hmv:s.mover=0∨s.mover=1){n:Nat}{t:St}{l:List Ev}{v:AVal}{τ:List ABlk}(h:RX b s n l v τ)(hT:TB n s t τ)(hM:MayP b t)(hl:l.length≤1000000){x:FS}{fv:AVal}(hx:FnV n τ x fv){K:AVal→List ABlk→Prop}
 (hOk:∀t' e v' τ',(∀r,fsGo b s.mover (x::r) t l=fsGo b s.mover r t' (l++[e]))→MayP b t'→RX b s n (l++[e]) v' τ'→TB n s t' τ'→Kp2 n τ τ'→K (iv 0) τ')
 (hBad:∀e τ',e≠0→(∀r,fsGo b s.mover (x::r) t l=(zSt,[],e))→Kp2 n τ τ'→K (iv e) τ') :
  VV.call .callv [fv] τ K:=by
 have hln:=h.ln;cases hx with
 |block h1 h2 h3 h4=>
  rename_i p q a a' d;refine Yt hP rfl g105_ok rfl ?_;unfold g105;refine Ya (ld h.ev rfl) (Ya rfl (Ya (v:=iv s.mover) (ld h.k1 rfl) (Ya (ld h3 rfl) (Ya rfl (Ya (v:=iv d) (ld h4 rfl) (Ya (v:=.agg (evN ⟨12,s.mover,0,a,d,0,[]⟩)) (rd:=[]) rfl ?_))))));refine QcI h hl ⟨12,s.mover,0,a,d,0,[]⟩ (λv' τ' h2 hk hk2=>?_);exact hOk t _ v' τ' (λr=>rfl) hM h2 (hT.keep hk2) hk
 |harm h1 h2 h3 h4=>
  rename_i p q id k;refine Yt hP rfl g102_ok rfl ?_;unfold g102;obtain⟨cs,rd,b1,b2,b3,b4,b5,b6⟩:=hT.sb;have h0:1-s.mover=0∨1-s.mover=1:=by omega
  have hmt:mayR (bkR b).1 b t true=true:=YaN.2 ⟨he,hM⟩;refine Ya (ld h.k0 rfl) (Ya (ld b1 b3) (Ya (ld h3 rfl) (Ya rfl (Ya (v:=iv s.mover) (ld h.k1 rfl) (Ya (Xb4 ..) (Ya (ld h4 rfl) ?_))))));rw[wrapI (n:=1-s.mover) (by omega) (by omega)];refine Yag (rd:=rd) (c22 b hf hsm t (hM.le.mono (by decide)) hmt id (1-s.mover) k h0) rfl g22_ok.plain (.cons (Bor.ro rfl) <| .cons b4.agg <| .cons (Bor.ro rfl) <| .cons (Bor.ro rfl) <| .cons (Bor.ro rfl) .nil) b6 ?_;have hkeep:=Yas hM h0 (id:=id) (n:=k);have hgo:∀r,fsGo b s.mover (.harm id k::r) t l=if (harmF b t id (1-s.mover) k).2.2=0 then fsGo b s.mover r (harmF b t id (1-s.mover) k).1 (l++[(harmF b t id (1-s.mover) k).2.1]) else (zSt,[],(harmF b t id (1-s.mover) k).2.2):=λr=>rfl
  have hkd:=Ycc (b:=b) (t:=t) (id:=id) (k:=1 - s.mover) (n:=k);generalize harmF b t id (1 - s.mover) k=r at hkeep hgo hkd;obtain⟨t',ev,e⟩:=r;have hA0:=Yao rd τ;have hR0:=h.mono (λc hc=>⟨(b5 c hc).1,by have:=(b5 c hc).2; omega⟩) hA0;have hK0:Kp2 n τ (killL τ rd):=hA0.kp2 (λc hc=>.inl (by have:=b5 c hc; omega));have c1:=hA0.get b1 (by simp) (λhc=>by have:=b5 _ hc; omega);clear hA0 h1 h2 h3 h4 b4 b5 b6 hT h;have hln:n + 14≤(killL τ rd).length:=hR0.ln;generalize killL τ rd=τ0 at hR0 hK0 c1 hln ⊢;refine Ya rfl (Ya rfl (Ya rfl ?_));refine Zd (v:=.bptr τ0.length 0) (rd:=[]) (up:=[(τ0.length,.box zStC)]) rfl (Qs _ _) ?_;refine Zd (v:=.bptr (τ0 ++ [ABlk.box zStC]).length 0) (rd:=[]) (up:=[((τ0 ++ [ABlk.box zStC]).length,.box zEvC)]) rfl (Qs _ _) ?_;have n7:=Qf [ABlk.box zEvC] (Qh τ0 (.box zStC)) (by simp);have n8:=Qh (τ0 ++ [ABlk.box zStC]) (.box zEvC);refine Zd (stv (row':=stC t') n7 rfl rfl rfl) (Yo _ (Qi n7 (by simp))) ?_;have n8':=Xj (c:=τ0.length) (x:=.box (stC t')) n8 (by simp) (by simp);refine Zd (stv (row':=evC ev) n8' rfl rfl rfl) (Yo _ (Qi n8' (by simp))) ?_;have m8:=Qk (.box (evC ev)) (Qi n8' (by simp));have m7:=Xj (c:=(τ0 ++ [ABlk.box zStC]).length) (x:=.box (evC ev)) (Qk (.box (stC t')) (Qi n7 (by simp))) (by simp) (by simp);have hA:Agr τ0 (((τ0 ++ [ABlk.box zStC] ++ [ABlk.box zEvC]).set τ0.length (.box (stC t'))).set (τ0 ++ [ABlk.box zStC]).length (.box (evC ev))) []:=⟨by simp; try omega,λc hc _=>by
   rw[Yj _ (by simp; omega) (by simp; omega),Yj _ (by simp; omega) (by omega),Xp _ (by simp; omega),Xp _ hc]⟩
  have hp8:n+14≤(τ0++[ABlk.box zStC]).length:=by simp; omega
  generalize ((τ0++[ABlk.box zStC]++[ABlk.box zEvC]).set τ0.length (.box (stC t'))).set (τ0++[ABlk.box zStC]).length (.box (evC ev))=τ1 at m8 m7 hA ⊢;generalize (τ0++[ABlk.box zStC]).length=p8 at m8 hp8 ⊢;generalize τ0.length=p7 at m7 hln ⊢;have hR:=hR0.mono (by simp) hA;have hK1:Kp2 n τ τ1:=hK0.trans (hA.kp2 (by simp));refine Ya (Yi ..) (Qc (λhz=>?_) (λhz=>?_))
  ·have hz:e=0:=by simpa using hz
   subst hz;refine Ya (ld m7 rfl) ?_;have b1':=hA.get c1 (by simp) (by simp);refine Zd (stv (row':=stC t') b1' rfl rfl (Xad _ _ (by rw[b2]; rfl))) (Yo _ (Qi b1' (by simp))) ?_;have hA2:=Agr.set τ1 (n+11) (.box (stC t'));have hR2:=hR.mono (λc hc=>by simp at hc; omega) hA2;refine Ya (ld hR2.ev rfl) (Ya (ld (hA2.get m8 (by simp) (by simp; omega)) rfl) ?_);have hT2:TB n s t' (τ1.set (n+11) (.box (stC t'))):=.inr (Qk _ (Qi b1' (by simp)));rw[show [iv8 ev.kind,iv ev.side,iv ev.card,iv ev.id,iv ev.other,iv ev.n,rowV ev.cards]=evM ev from hkd rfl];refine QcI hR2 hl ev (λv' τ' h2 hk hk2=>?_);exact hOk t' ev v' τ' (λr=>by rw[hgo]; exact if_pos rfl) (hkeep rfl).1 h2 (hT2.keep hk2) (hK1.trans ((hA2.kp2 (λc hc=>.inl (by simp at hc; omega))).trans hk))
  ·have hz:e≠0:=by simpa using hz
   exact hBad e τ1 hz (λr=>by rw[hgo]; exact if_neg hz) hK1
end Go.Ah.Tz
end
section
namespace Go.Ah.Tz
open Go.Proofs.Tryz (prog)
attribute [local irreducible] Ans.rd Ans.pu Ans.wr Ans.dr Ans.gr Ans.gw Ans.gl Ans.gd Ans.opt joinK W
set_option maxHeartbeats 8000000
theorem XcF{s:St}(hs:StLe 1000000000 s){σ:List ABlk}{n:Nat}(hn:σ.length=n){K:AVal→AVal→List ABlk→Prop}(hK:∀τ,τ.length=n+12→(∀c y,hget σ c=y→y≠.dead→hget τ c=y)→CP τ n s→K (.bptr (n+11) 0) .junk τ) :
  VV.call (.call 59) [stV s] σ λv σ=>VV.wr (Xc zStC [] σ) σ λt σ=>VV.wr (Zb 23 [t,v] σ) σ (K t):=by
 subst hn;refine w59 hs (SB.ro (rd:=[]) s) ?_;have hl:(σ++stB s).length=σ.length+11:=by simp[stB,sdB]
 refine Xz (row:=stO s σ.length) (row':=stO s σ.length) rfl rfl rfl ?_;have h11:=Qh (σ++stB s) (.box (stO s σ.length));rw[hl] at h11 ⊢;refine hK _ (by simp[stB,sdB]) (λc y h hd=>Qf _ (Qf _ h hd) hd) ⟨h11,λi x hx=>?_⟩;have hi:i<11:=(YLG hx).1;exact QJ (by rw[List.getElem?_append_left (by omega),List.getElem?_append_right (by omega)]; simpa using hx)
theorem XcI(e:Ev):roL (evM e)=true:=by unfold evM; split<;>rfl
theorem EvR.bor{n:Nat}{τ:List ABlk}{l:List Ev}{v:AVal}(h:EvR n τ l v):∃rd,(∀c∈rd,n+14≤c)∧Bor (Go.Ah.hp τ) rd v (.rsl false false 7 (l.map evM)):=by
 rcases h with ⟨rfl,rfl⟩|⟨Q,h1,h2,rfl,h4⟩
 ·exact⟨[],by simp,Bor.weak (Bor.ro rfl) (λM u d=>d.nils_rsl 7)⟩
 ·refine⟨[Q],by simpa using h1,Bor.own h4 (by simp) (by simp) (Yam _ _ (by simp)) (λr hr=>?_)⟩;obtain⟨e,_,rfl⟩:=List.mem_map.1 hr;exact XcI e
@[reducible] def endC(t s:St)(n:Nat):List AVal:=stQ t .nils (.sl (n+1) 0 s.s0.deck.length false) (.sl (n+2) 0 s.s0.hand.length false) (.sl (n+3) 0 s.s0.grave.length false) (.sl (n+4) 0 s.s0.units.length false) (.sl (n+5) 0 s.s0.told.length false) (.sl (n+6) 0 s.s1.deck.length false) (.sl (n+7) 0 s.s1.hand.length false) (.sl (n+8) 0 s.s1.grave.length false) (.sl (n+9) 0 s.s1.units.length false) (.sl (n+10) 0 s.s1.told.length false)
@[reducible] def endF(t s:St):List AVal:=stQ t .nils (rowV s.s0.deck) (rowV s.s0.hand) (rowV s.s0.grave) (thV s.s0.units) (rowV s.s0.told) (rowV s.s1.deck) (rowV s.s1.hand) (rowV s.s1.grave) (thV s.s1.units) (rowV s.s1.told)
theorem XcP{τ:List ABlk}{n:Nat}{s:St}(key:∀i x,1≤i→(stB s)[i]?=some x→hget τ (n+i)=x):∃rd,SB τ rd (endC { s with attack:=[],phase:=0 } s n) { s with attack:=[],phase:=0 }:=by
 have hin:∀ i,i < 11→n + i∈(List.range 11).map (n + ·):=λi hi=>List.mem_map.2 ⟨i,List.mem_range.2 hi,rfl⟩;exact⟨(List.range 11).map (n + ·),SB.mk RI.nils (RI.own (key 1 _ (by decide) rfl) (hin 1 (by decide)) rfl) (RI.own (key 2 _ (by decide) rfl) (hin 2 (by decide)) rfl) (RI.own (key 3 _ (by decide) rfl) (hin 3 (by decide)) rfl) (RT.own (key 4 _ (by decide) rfl) (hin 4 (by decide)) rfl) (RI.own (key 5 _ (by decide) rfl) (hin 5 (by decide)) rfl)
  (RI.own (key 6 _ (by decide) rfl) (hin 6 (by decide)) rfl) (RI.own (key 7 _ (by decide) rfl) (hin 7 (by decide)) rfl) (RI.own (key 8 _ (by decide) rfl) (hin 8 (by decide)) rfl) (RT.own (key 9 _ (by decide) rfl) (hin 9 (by decide)) rfl) (RI.own (key 10 _ (by decide) rfl) (hin 10 (by decide)) rfl)⟩
theorem YcP{τ:List ABlk}(s:St):SB τ [] (endF { s with attack:=[],phase:=0 } s) { s with attack:=[],phase:=0 }:=
 SB.mk RI.nils (RI.ro _) (RI.ro _) (RI.ro _) (Bor.ro rfl) (RI.ro _) (RI.ro _) (RI.ro _) (RI.ro _) (Bor.ro rfl) (RI.ro _)
theorem ZcW(b:Bk){s t:St}{n:Nat}{l:List Ev}{ev:AVal}{τ:List ABlk}(hR:RX b s n l ev τ)(hT:TB n s t τ) :
  VV.rd (Za 5 [.bptr (n+11) 0] τ) λt127_102=>
  VV.wr (Zb 1 [t127_102,.nils] τ) τ λ_ σ=>
  VV.rd (Za 2 [.bptr (n+11) 0] σ) λt128_103=>
  VV.wr (Zb 1 [t128_103,(.int .i8 0)] σ) σ λ_ σ=>
  VV.dr (Zc true 23 [.bptr (n+11) 0] σ) σ λt129_104 l105 σ=>
  VV.dr (Zc false 1 [.bptr (n+12) 0] σ) σ λt130_106 l107 σ=>
  VV.dr (Zb 23 [.bptr 2 0,t129_104] σ) σ λ_ l108 σ=>
  VV.gd (Qe [[],[],[0],[0,1,2],[0,1,2,3]] [l105,l107,l108,([],[]),([],[])]) <|
  VV.opt (cellV true 23 (.bptr 2 0) σ) λr109=>
  (λv' σ=>∃rd,Bor (Go.Ah.hp σ) rd v' (YaW ({ t with attack:=[],phase:=0 },l,0))) (.tup [r109,t130_106,(.int .i64 0)]) σ:=by
 have hln:=hR.ln;have hn4:=hR.n4;have key:∀cs1 cs2:List AVal,cs2.length=23→cellsOf (.agg cs2)=some cs2→partA true 0 23 cs2=some (.agg cs2)→(∀τ',Agr τ τ' [2,n+11]→∃rd,SB τ' rd cs2 { t with attack:=[],phase:=0 }) →
  VV.dr (Zc true 23 [.bptr (n+11) 0] ((τ.set (n+11) (.box cs1)).set (n+11) (.box cs2))) ((τ.set (n+11) (.box cs1)).set (n+11) (.box cs2)) λt129_104 l105 σ=>
  VV.dr (Zc false 1 [.bptr (n+12) 0] σ) σ λt130_106 l107 σ=>
  VV.dr (Zb 23 [.bptr 2 0,t129_104] σ) σ λ_ l108 σ=>
  VV.gd (Qe [[],[],[0],[0,1,2],[0,1,2,3]] [l105,l107,l108,([],[]),([],[])]) <|
  VV.opt (cellV true 23 (.bptr 2 0) σ) λr109=>
  (λv' σ=>∃rd,Bor (Go.Ah.hp σ) rd v' (YaW ({ t with attack:=[],phase:=0 },l,0))) (.tup [r109,t130_106,(.int .i64 0)]) σ:=by
  intro cs1 cs2 hlen hc hp hsb;have h2:hget ((τ.set (n + 11) (.box cs1)).set (n + 11) (.box cs2)) 2=.box zStC:=Xj (Xj hR.k2 (by simp) (by omega)) (by simp) (by omega);have hev:hget ((τ.set (n + 11) (.box cs1)).set (n + 11) (.box cs2)) (n + 12)=.box [ev]:=Xj (Xj hR.ev (by simp) (by omega)) (by simp) (by omega);have hst:hget ((τ.set (n + 11) (.box cs1)).set (n + 11) (.box cs2)) (n + 11)=.box cs2:=Qk _ (by simp; omega);have hA:Agr τ (((τ.set (n + 11) (.box cs1)).set (n + 11) (.box cs2)).set 2 (.box cs2)) [2,n + 11]:=⟨by simp,λc hc hn=>by
   simp only[List.mem_cons,List.not_mem_nil,or_false,not_or] at hn;rw[Yj _ (by simp; omega) hn.1,Yj _ (by simp; omega) hn.2,Yj _ hc hn.2]⟩
  generalize (τ.set (n+11) (.box cs1)).set (n+11) (.box cs2)=σ at h2 hev hst hA ⊢;refine Qj (ld hst hp) (Yn _) (Qj (ld hev (v:=ev) rfl) (Yn _) (Qj (stv (row':=cs2) h2 hc (by rw[hlen]; rfl) (Xad _ _ (by rw[hlen]; rfl))) (Yo _ (Qi h2 (by simp))) (QO ?_ ?_)))
  ·simp[Qe,List.range,List.range.loop,ZD,Z3,QA,apart2,disj]
  refine Xm (Yba (Qk _ (Qi h2 (by simp))) hp) ?_;obtain⟨rd,hsb⟩:=hsb _ hA;have hrow:EvR n (σ.set 2 (.box cs2)) l ev:=by
   rcases hR.row with h1|⟨Q,h1,h2,h3,h4⟩
   ·exact .inl h1
   ·exact .inr ⟨Q,h1,h2,h3,hA.get h4 (by simp) (by simp; omega)⟩
  obtain⟨rd2,_,hE⟩:=hrow.bor;exact⟨rd++rd2,Bor.tup (.cons (Bor.more hsb.agg (by simp +contextual)) <| .cons (Bor.more hE (by simp +contextual)) <| .cons (Bor.ro rfl) .nil)⟩
 rcases hT with ⟨rfl,hcp⟩|hT
 ·have hb:=hcp.box;refine Ya rfl (Zd (stv (row':=endC t t n) hb rfl rfl rfl) (Yo _ (Qi hb (by simp))) ?_);have hb1:=Qk (.box (endC t t n)) (Qi hb (by simp));refine Ya rfl (Zd (stv (row':=endC { t with attack:=[],phase:=0 } t n) hb1 rfl rfl rfl) (Yo _ (Qi hb1 (by simp))) ?_);refine key _ _ rfl rfl rfl (λτ' hA=>XcP λi x hi hx=>?_);have hi:i<11:=(YLG hx).1;rw[hA.2 (n+i) (by omega) (by simp; omega)]; exact hcp.key i x hx
 ·refine Ya rfl (Zd (stv (row':=endF t t) hT rfl rfl rfl) (Yo _ (Qi hT (by simp))) ?_);have hb1:=Qk (.box (endF t t)) (Qi hT (by simp));refine Ya rfl (Zd (stv (row':=endF { t with attack:=[],phase:=0 } t) hb1 rfl rfl rfl) (Yo _ (Qi hb1 (by simp))) ?_);exact key _ _ rfl rfl rfl (λτ' hA=>⟨[],YcP t⟩)
theorem YcW(b:Bk)(hf:bkFit b=true)(hsm:Zt b.cards)(he:(bkR b).1=0){s:St}(hM:MayP b s)(hmv:s.mover=0∨s.mover=1){M:List (Int×Int)}{n:Nat}{S:List FS}(hS:S.length≤100000){v:AVal}{τ:List ABlk}(h:SX b s M n S v τ) :
  VV.rd (Zc false 1 [.bptr (n+13) 0] τ) λt114_90=>
  VV.rd (Qd [t114_90] τ) λt115_91=>
  VV.loop (λag92 v93 σ=>
  VV.rd (Yh .lss false [(Go.Ah.h0 v93),t115_91] σ) λt117_94=>
  VV.test t117_94 (
  VV.rd (Qa 1 [t114_90,(Go.Ah.h0 v93)] σ) λt118_95=>
  VV.rd (Zc false 1 [t118_95] σ) λt119_96=>
  VV.call .callv [t119_96] σ λt121_97 σ=>
  VV.rd (Yh .neq false [t121_97,(.int .i64 0)] σ) λt123_98=>
  VV.test t123_98 (
  VV.rd (Xd zStC [] [] σ) λt124_99=>
  VV.wr (Zb 23 [.bptr 2 0,t124_99] σ) σ λ_ σ=>
  VV.opt (cellV true 23 (.bptr 2 0) σ) λr100=>
  (λv' σ=>∃rd,Bor (Go.Ah.hp σ) rd v' (YaW (XJ (fsGo b s.mover S s [])))) (.tup [r100,.nils,t121_97]) σ) (
  VV.rd (Yh .add false [(Go.Ah.h0 v93),(.int .i64 1)] σ) λt126_101=>
  ag92 [t126_101] σ)) (
  VV.rd (Za 5 [.bptr (n+11) 0] σ) λt127_102=>
  VV.wr (Zb 1 [t127_102,.nils] σ) σ λ_ σ=>
  VV.rd (Za 2 [.bptr (n+11) 0] σ) λt128_103=>
  VV.wr (Zb 1 [t128_103,(.int .i8 0)] σ) σ λ_ σ=>
  VV.dr (Zc true 23 [.bptr (n+11) 0] σ) σ λt129_104 l105 σ=>
  VV.dr (Zc false 1 [.bptr (n+12) 0] σ) σ λt130_106 l107 σ=>
  VV.dr (Zb 23 [.bptr 2 0,t129_104] σ) σ λ_ l108 σ=>
  VV.gd (Qe [[],[],[0],[0,1,2],[0,1,2,3]] [l105,l107,l108,([],[]),([],[])]) <|
  VV.opt (cellV true 23 (.bptr 2 0) σ) λr109=>
  (λv' σ=>∃ rd,Bor (Go.Ah.hp σ) rd v' (YaW (XJ (fsGo b s.mover S s [])))) (.tup [r109,t130_106,(.int .i64 0)]) σ)) [(.int .i64 0)] τ:=by
 have hl:Qd [v] τ=.ok (iv S.length) [] []:=by
  rcases h.row with ⟨rfl,rfl⟩|⟨R,rows,_,_,rfl,_,_,_⟩<;>rfl
 refine Ya (ld h.st rfl) (Ya hl ?_);have hRX:RX b s n [] .nils τ:=⟨h.ln,h.n4,h.pw.k0,h.pw.k1,h.pw.k2,h.ev,.inl ⟨rfl,rfl⟩⟩;refine Xo (ι:=Nat) (λi vs τ=>∃t l ev,vs=[iv i]∧i≤S.length∧RX b s n l ev τ∧TB n s t τ∧MayP b t∧SR n τ S v∧l.length≤i∧fsGo b s.mover S s []=fsGo b s.mover (S.drop i) t l) (λi=>S.length-i) 0 ⟨s,[],.nils,rfl,by omega,hRX,.inl ⟨rfl,h.cp⟩,hM,h.row,by simp,rfl⟩ ?_;clear hRX hl h hM;rintro i vs τ again ⟨t,l,ev,rfl,hi,hR,hT,hM,hSR,hll,hgo⟩ hag;refine Ya (Qx ..) (Qc (λh=>?_) (λh=>?_))
 ·have h:i<S.length:=by simpa using h
  rcases hSR with ⟨rfl,_⟩|⟨R,rows,r1,r2,rfl,r4,r5,r6⟩
  ·simp at h
  obtain⟨fv,q1,q2,q3⟩:=r6 i h;rw[YLD h] at hgo;refine Ya (v:=.ptr R i 0) (rd:=[R]) ?_ (Ya (v:=fv) (rd:=[R]) (ldp r4 q1 (by generalize S[i]=x at q3; cases q3<;>rfl)) ?_)
  ·have:=QbM τ R 0 S.length false 1 rows .i64 i h r4;rw[Nat.zero_add] at this; exact this
  have hSR:SR n τ S (.sl R 0 S.length false):=.inr ⟨R,rows,r1,r2,rfl,r4,r5,r6⟩;refine Zda b hf hsm he hmv hR hT hM (by omega) q3 (λt' e v' τ' hg hM' hR' hT' hk=>?_) (λe τ' hz hg hk=>?_)
  ·refine Ya (YT ..) (Xh (Ya (Qn ..) ?_));rw[Xg (n:=i) (by omega)];exact hag (i+1) _ _ (by omega) ⟨t',_,v',rfl,by omega,hR',hT',hM',hSR.kp2 hk,by simp; omega,by rw[hgo,hg]⟩
  ·have k2:=hk.2 2 _ hR.k2 (by simp) (by have:=hR.n4; omega) (by simp);refine Ya (YT ..) ?_;rw[decide_eq_true hz];refine Zg (Ya rfl (Zd (stv (row':=zStC) k2 rfl rfl rfl) (Yo _ (Qi k2 (by simp))) (Xm (Yba (Qk _ (Qi k2 (by simp))) rfl) ?_)));rw[hgo,hg,XJ,if_neg hz];exact Xah e
 have h:i=S.length:=by simp at h; omega
 subst h;rw[List.drop_length] at hgo;rw[hgo,fsGo,XJ,if_pos rfl];exact ZcW b hR hT
theorem c48(h89:SortC prog 89)(hn:SortN prog 89)(b:Bk)(hf:bkFit b=true)(hsm:Zt b.cards)(s:St)(hs:StLe 1000000000 s)(l:List (Int×Int))(hl:l.length≤1000000000):PC 48 [bkV b,stV s,prV l] (YaW (fightR b s l)):=by
 refine YG hP g48_ok rfl ?_;unfold g48;refine Zd (v:=.bptr 0 0) (rd:=[]) (up:=[(0,.box (bkC b))]) rfl rfl ?_;refine Zd (v:=.bptr 1 0) (rd:=[]) (up:=[(1,.box (stC s))]) rfl rfl ?_;refine Zd (v:=.bptr 2 0) (rd:=[]) (up:=[(2,.box zStC)]) rfl rfl ?_;refine Ya rfl (Ya rfl (Ye (c55 b hf hsm s hs) rfl g55_ok.plain rfl (Ya (YT ..) ?_)));rcases YBE (mayR (bkR b).1 b s false) with hm|hm
 rotate_left
 ·rw[fightR,if_neg (by rw[hm]; simp),hm];exact Zg (Ya rfl (Zd rfl rfl (Xm rfl (Xah 170))))
 rw[fightR,if_pos hm,hm];have hmb:=YaF hm;obtain⟨he,hM⟩:=YaN.1 hmb;have hatl:s.attack.length≤7:=by
  by_cases hp:s.phase=1
  ·exact(hM.at_.2 hp).2.1
  ·rw[hM.at_.1 hp]; simp
 refine Xh (Ya rfl (Ya rfl (Ya (YT ..) ?_)));refine ZaR (v1:=stV s) (v2:=prV l) (u0:=.bool (QB s l)) (λ_=>rfl) (λ_=>rfl) (λ_ k hk=>Ye (c100 h89 hn s hs l hl (by omega)) rfl g100_ok.plain rfl hk) (λ_=>rfl) (Qc (λh=>?_) (λh=>?_))
 ·rw[if_pos h];exact Ya rfl (Zd rfl rfl (Xm rfl (Xah 2)))
 rw[if_neg (by rw[h]; simp)];clear h;have hmv:s.mover=0∨s.mover=1:=by have:=hM.hd; unfold HdP at this; omega
 refine Zd (v:=.map 3) (rd:=[]) (up:=[(3,.map [])]) rfl rfl (Ya rfl (Ya rfl (QI 3 (Ym ?_))));have hnd:(([]:List (Int×Int)).map (·.1)++s.s0.units.map Th.id).Nodup:=by
  have:=hM.un.2;rw[List.map_append,List.nodup_append] at this;simpa using this.1
 have w1:IntKind.i64.wrap (0+1)=1:=by decide
 have w2:IntKind.i64.wrap (1+1)=2:=by decide
 refine Ya rfl (Zg (Ya rfl ?_));refine Xz (row:=sdC s.s0) (row':=sdC s.s0) rfl rfl rfl (Ya rfl (Ya (v:=thV s.s0.units) (ld (Qh _ _) rfl) (Ya (v:=iv s.s0.units.length) (rd:=[]) (by simp[Zf]) ?_)));refine Qch b hf hsm s hs hmb s.s0.units (by have:=hM.le.s0.units; omega) [] hnd (h0:=⟨rfl,rfl,rfl,rfl⟩) (λτ1 h1=>?_);refine Ya rfl ?_;rw[w1];refine Ym (Ya rfl (Zg (Ya rfl ?_)));refine Xz (row:=sdC s.s1) (row':=sdC s.s1) rfl rfl rfl (Ya rfl (Ya (v:=thV s.s1.units) (ld (Qh _ _) rfl) (Ya (v:=iv s.s1.units.length) (rd:=[]) (by simp[Zf]) ?_)));refine Qch b hf hsm s hs hmb s.s1.units (by have:=hM.le.s1.units; omega) _ ?_ (h0:=h1.app _) (λτ2 h2=>?_)
 ·rw[List.nil_append,Qbh,←List.map_append]; exact hM.un.2
 refine Ya rfl ?_;rw[w2];refine Ym (Ya rfl (Xh ?_));rw[List.nil_append,powM,powM,←List.map_append] at h2;have h2:PwB b s (powM b s (s.s0.units++s.s1.units)) τ2:=h2;have hlk:=λid=>XcB b s id;generalize powM b s (s.s0.units++s.s1.units)=M at h2 hlk;clear h1 hnd w1 w2;have n4:=Qi h2.k3 (by simp);refine Ya (ld h2.k1 rfl) (XcF hs rfl (λτ3 hlen hk hcp=>?_));generalize τ2.length=n at hlen hcp n4 ⊢;have h3:PwB b s M τ3:=⟨hk 0 _ h2.k0 (by simp),hk 1 _ h2.k1 (by simp),hk 2 _ h2.k2 (by simp),hk 3 _ h2.k3 (by simp)⟩;refine Zd (v:=.bptr τ3.length 0) (rd:=[]) (up:=[(τ3.length,.box [.nils])]) rfl (Qs _ _) ?_;refine Zd (v:=.bptr (τ3++[ABlk.box [.nils]]).length 0) (rd:=[]) (up:=[((τ3++[ABlk.box [.nils]]).length,.box [.nils])]) rfl (Qs _ _) ?_;have hX:SX b s M n (fsAll b s l (s.attack.take 0)) .nils (τ3++[ABlk.box [.nils]]++[ABlk.box [.nils]]):=by
  have e1:=Qh τ3 (.box [.nils]);have e2:=Qh (τ3++[ABlk.box [.nils]]) (.box [.nils]);rw[show (τ3++[ABlk.box [.nils]]).length=n+13 by simp[hlen]] at e2;rw[hlen] at e1;refine⟨by simp[hlen],by omega,(h3.app _).app _,⟨Qf _ (Qf _ hcp.box (by simp)) (by simp),λi x hx=>?_⟩,Qf _ e1 (by simp),e2,.inl ⟨rfl,rfl⟩⟩;have hi:i<11:=(YLG hx).1;rw[Xp _ (by simp; omega),Xp _ (by omega)]; exact hcp.key i x hx
 have e13:(τ3++[ABlk.box [AVal.nils]]).length=n+13:=by simp[hlen]
 rw[e13,hlen];clear hcp h3 h2 hk;generalize τ3++[ABlk.box [.nils]]++[ABlk.box [.nils]]=τ4 at hX ⊢;refine Ya (Qam ..) (Ya rfl (Ya (v:=rowV s.attack) (ld hX.pw.k1 rfl) (Ya (v:=iv s.attack.length) (rd:=[]) (by simp[Zf]) ?_)));refine Xo (ι:=Nat) (λi vs τ=>vs=[iv i]∧i≤s.attack.length∧∃v,SX b s M n (fsAll b s l (s.attack.take i)) v τ) (λi=>s.attack.length-i) 0 ⟨rfl,by omega,_,hX⟩ ?_;clear hX;rintro i vs τ again ⟨rfl,hi,v,hX⟩ hag;refine Ya (Qx ..) (Qc (λh=>?_) (λh=>?_));rotate_left
 ·have h:i=s.attack.length:=by simp at h; omega
  subst h;rw[List.take_length] at hX;exact YcW b hf hsm he hM hmv (by have:=QaK b s l s.attack; omega) hX
 have h:i<s.attack.length:=by simpa using h
 have htk:s.attack.take (i+1)=s.attack.take i++[s.attack[i]]:=by rw[List.take_succ_eq_append_getElem h]
 have hix:=λ(t:List ABlk)=>Qu t cel false false 1 s.attack .i64 i h;have hlen:(fsAll b s l (s.attack.take i)).length≤100000:=by
  have:=QaK b s l (s.attack.take i);simp at this; omega
 generalize s.attack[i]=a at htk hix;have hlast:∀v' τ',SX b s M n (fsAll b s l (s.attack.take i)++fsOf b s l a) v' τ'→again [iv (i+1)] τ':=λv' τ' hX'=>by
  refine hag (i+1) _ _ (by omega) ⟨rfl,by omega,v',?_⟩;rw[htk,QK];simpa[fsAll] using hX'
 generalize fsAll b s l (s.attack.take i)=S at hX hlen hlast;refine Xn λk61 hk61=>?_;refine Ya (hix _) (Ya (v:=iv a) (rd:=[]) (ldr rfl) (Xz (row:=[iv a]) (row':=[iv a]) rfl rfl rfl ?_));have hB:=Qh τ (ABlk.box [iv a]);have hX1:=hX.app [.box [iv a]];have hpa:n+14≤τ.length:=hX.ln;clear hX;generalize τ++[ABlk.box [iv a]]=τ5 at hB hX1 ⊢;generalize τ.length=pa at hB hpa ⊢;refine Ya (Qam ..) (YN (rd:=[pa]) (c103 l hl a) rfl g103_ok.plain (.cons (Bor.ro rfl) <| .cons (Bor.func .nil (.cons (Bor.box (row:=[iv a]) (ZF hB (by simp)) (by simp) (BorL.ro rfl)) .nil)) .nil) (by cases ZG l a<;>rfl) (Ya rfl (Ya rfl ?_)));refine Xz (row:=prC ((ZG l a).getD (0,0))) (row':=prC ((ZG l a).getD (0,0))) rfl rfl rfl (Ya rfl ?_);have hB2:=Qh τ5 (ABlk.box (prC ((ZG l a).getD (0,0))));have hB1:=Qf [ABlk.box (prC ((ZG l a).getD (0,0)))] hB (by simp);have hX2:=hX1.app [.box (prC ((ZG l a).getD (0,0)))];have hpb:n+14≤τ5.length:=hX1.ln;clear hX1 hB;generalize τ5++[ABlk.box (prC ((ZG l a).getD (0,0)))]=τ6 at hB1 hB2 hX2 ⊢;generalize τ5.length=pb at hB2 hpb ⊢;have hlook:∀ {τ':List ABlk} (id:Int),hget τ' 3=.map (mpG ivF M)→Zq false false (.int .i64 0) [.map 3,iv id] τ'=.ok (iv (powN b s id)) [3] []:=λid h=>by
  have:=Za3 ivF (.int .i64 0) false h id;rw[←hlk id];refine this.trans ?_;cases ilook id M<;>rfl
 cases hp:ZG l a with
 |none=>
  rw[hp] at hB2;have e:fsOf b s l a=[.harm 0 (powN b s a)]:=by simp[fsOf,hp]
  rw[e] at hlast;refine Zg (Ya (ld hB1 rfl) (Ya (hlook a hX2.pw.k3) (w101 hX2 (by omega) 0 (powN b s a) (λv' τ' h1 _=>?_))));rw[hk61];refine Ya (Qn ..) ?_;rw[Xg (n:=i) (by omega)];exact hlast v' τ' h1
 |some p=>
  rw[hp] at hB2;have hB2:hget τ6 pb=.box [iv p.1,iv p.2]:=hB2;have e:fsOf b s l a=[.block a p.2,.harm p.2 (powN b s a),.harm a (powN b s p.2)]:=by simp[fsOf,hp]
  rw[e] at hlast;refine Xh (Ya (ld hX2.st rfl) (Ya (Qam ..) (ZcL hX2 (by omega) (x:=.block a p.2) (.block hpa hpb hB1 hB2) (λv1 τ7 hX3 b3=>?_))));have hB13:=b3.2 pa _ (by omega) hB1;have hB23:=b3.2 pb _ (by omega) hB2;refine Ya rfl (Ya (v:=iv p.2) (ld hB23 rfl) (Ya (ld hB13 rfl) (Ya (hlook a hX3.pw.k3) (w101 hX3 (by simp; omega) p.2 (powN b s a) (λv2 τ8 hX4 b4=>?_)))));have hB14:=b4.2 pa _ (by omega) hB13;have hB24:=b4.2 pb _ (by omega) hB23;refine Ya (ld hB14 rfl) (Ya rfl (Ya (v:=iv p.2) (ld hB24 rfl) (Ya (hlook p.2 hX4.pw.k3) (w101 hX4 (by simp; omega) a (powN b s p.2) (λv3 τ9 hX5 _=>?_)))));rw[hk61];refine Ya (Qn ..) ?_;rw[Xg (n:=i) (by omega)];exact hlast v3 τ9 (by simpa using hX5)
end Go.Ah.Tz
end
section
namespace Go.Ah.Tz
open Go.Proofs.Tryz (prog)
def cd999(c:Cd):Prop:=(0≤c.shield∧c.shield≤999)∧(0≤c.power∧c.power≤999)∧(0≤c.health∧c.health≤999)∧(0≤c.aurap∧c.aurap≤999)∧(0≤c.aurah∧c.aurah≤999)
theorem Xbz(cs:List Cd):∀(l pre:List Cd),(cdsGo cs pre l).1=0→∀c∈l,cd999 c
 |[],_,_,c,hc=>absurd hc (by simp)
 |d::l,pre,h,c,hc=>by
  unfold cdsGo at h;split at h
  ·cases h
  ·split at h
   ·rename_i h2;rcases List.mem_cons.1 hc with rfl|hc
    ·simp only[cdOk,in999,Bool.and_eq_true,decide_eq_true_eq] at h2;obtain⟨_,_,h3,h4,hs,h5,h6,_⟩:=h2;exact⟨hs,h3,h4,h5,h6⟩
    ·exact Xbz cs l _ h c hc
   ·cases h
theorem Ycv{b:Bk}(h:(bkR b).1=0):∀c∈b.cards,cd999 c:=by
 unfold bkR at h;split at h
 ·rename_i h1; exact absurd h h1
 ·rename_i h1;have h1:(Q2 b.cards).1=0:=by simpa using h1
  unfold Q2 at h1;split at h1
  ·cases h1
  ·exact Xbz _ _ _ h1
theorem XbW{b:Bk}(h:(bkR b).1=0)(k:Int):cd999 (Qae b k):=by
 unfold Qae;cases e:b.cards[k.toNat]? with
 |none=>exact⟨⟨Int.le_refl _,by decide⟩,⟨Int.le_refl _,by decide⟩,⟨Int.le_refl _,by decide⟩,⟨Int.le_refl _,by decide⟩,⟨Int.le_refl _,by decide⟩⟩
 |some c=>exact Ycv h c (List.mem_of_getElem? e)
theorem XbY{kd:Int}{fP:Int→Int×Int}{fU:Th→Int×Int}{s:St}{id sd side:Int}{k:Nat}(h0:0<id)(hu:unitR s id=(side,(k:Int),true)):chgF kd fP fU s id sd=chgU s kd side k id (((Z9 s side).units[k]?).getD default) (fU (((Z9 s side).units[k]?).getD default)):=by
 unfold chgF;rw[if_neg (by omega),if_neg (by omega)];unfold unitR at hu;cases q0:fnd s.s0.units id with
 |some i=>
  rw[q0] at hu;simp only[Prod.mk.injEq,and_true] at hu;obtain⟨rfl,h2⟩:=hu;have h2:i=k:=by omega
  subst h2; rfl
 |none=>
  rw[q0] at hu;cases q1:fnd s.s1.units id with
  |some i=>
   rw[q1] at hu;simp only[Prod.mk.injEq,and_true] at hu;obtain⟨rfl,h2⟩:=hu;have h2:i=k:=by omega
   subst h2; rfl
  |none=>rw[q1] at hu; simp at hu
theorem YbY{kd:Int}{fP:Int→Int×Int}{fU:Th→Int×Int}{s:St}{id sd:Int}(h0:0<id)(hu:(unitR s id).2.2=false):chgF kd fP fU s id sd=(zSt,zEv,4):=by
 unfold chgF;rw[if_neg (by omega),if_neg (by omega)];unfold unitR at hu;cases q0:fnd s.s0.units id with
 |some i=>rw[q0] at hu; cases hu
 |none=>
  rw[q0] at hu;cases q1:fnd s.s1.units id with
  |some i=>rw[q1] at hu; cases hu
  |none=>rfl
structure RY (b:Bk) (s:St) (l:List Ev) (v:AVal) (τ:List ABlk):Prop where
 ln:15≤τ.length
 k0:hget τ 0=.box (bkC b)
 k1:hget τ 1=.box (stC s)
 k2:hget τ 2=.box zStC
 row:EvR 1 τ l v
end Go.Ah.Tz
end
section
namespace Go.Ah.Tz
open Go.Proofs.Tryz (prog)
theorem XY{b:Bk}{mv:Int}(hmv:mv=0∨mv=1):∀(S:List FS) (t:St) (l:List Ev),MayP b t→(fsGo b mv S t l).2.2=0→MayP b (fsGo b mv S t l).1∧(fsGo b mv S t l).2.1.length=l.length+S.length
 |[],t,l,hM,_=>⟨hM,rfl⟩
 |.block a d::S,t,l,hM,h=>by
  have:=XY hmv S t _ hM h;refine⟨this.1,this.2.trans ?_⟩;simp; omega
 |.harm id n::S,t,l,hM,h=>by
  unfold fsGo at h ⊢;by_cases c:(harmF b t id (1-mv) n).2.2=0
  ·rw[if_pos c] at h ⊢;have:=XY hmv S _ _ (Yas hM (by omega) c).1 h;refine⟨this.1,this.2.trans ?_⟩;simp; omega
  ·rw[if_neg c] at h; exact absurd h c
theorem ZbO(b:Bk)(t:St)(id k n:Int):(harmF b t id k n).2.1.cards=[]:=by
 unfold harmF chgF chgP chgU;split
 ·split<;>rfl
 ·split
  ·rfl
  ·cases fnd t.s0.units id with
   |some i=>simp only; split<;>rfl
   |none=>
    cases fnd t.s1.units id with
    |some i=>simp only; split<;>rfl
    |none=>rfl
theorem Zas{b:Bk}{mv:Int}:∀(S:List FS) (t:St) (l:List Ev),(∀e∈l,e.cards=[])→∀e∈(fsGo b mv S t l).2.1,e.cards=[]
 |[],t,l,hl=>hl
 | .block a d :: S,t,l,hl=>Zas S t _ (by
   intro e he;rcases List.mem_append.1 he with h|h
   ·exact hl e h
   ·simp at h; subst h; rfl)
 |.harm id n::S,t,l,hl=>by
  unfold fsGo;split
  ·refine Zas S _ _ (λe he=>?_);rcases List.mem_append.1 he with h|h
   ·exact hl e h
   ·simp at h; subst h; exact ZbO _ _ _ _ _
  ·simp
theorem Yan{b:Bk}{s:St}{l:List (Int×Int)}(h:(fightR b s l).2.2=0):(bkR b).1=0∧MayP b s∧(s.mover=0∨s.mover=1)∧mayR (bkR b).1 b s false=true∧s.phase=1∧QB s l=true∧(fsGo b s.mover (fsAll b s l s.attack) s []).2.2=0 ∧
  fightR b s l=({ (fsGo b s.mover (fsAll b s l s.attack) s []).1 with attack:=[],phase:=0 },(fsGo b s.mover (fsAll b s l s.attack) s []).2.1,0):=by
 unfold fightR at h ⊢;by_cases h1:mayR (bkR b).1 b s false=true;rotate_left
 ·rw[if_neg h1] at h; cases h
 rw[if_pos h1] at h ⊢;by_cases h2:(decide (s.phase≠1) || !QB s l)=true
 ·rw[if_pos h2] at h; cases h
 rw[if_neg h2] at h ⊢;obtain⟨he,hM⟩:=YaN.1 (YaF h1);have hmv:s.mover=0∨s.mover=1:=by have:=hM.hd; unfold HdP at this; omega
 have h2':s.phase=1∧QB s l=true:=by simpa using h2
 unfold XJ at h ⊢;by_cases h3:(fsGo b s.mover (fsAll b s l s.attack) s []).2.2=0
 ·rw[if_pos h3]; exact⟨he,hM,hmv,h1,h2'.1,h2'.2,h3,rfl⟩
 ·rw[if_neg h3] at h; exact absurd h h3
theorem Xar{b:Bk}{s:St}{l:List (Int×Int)}(h:(fightR b s l).2.2≠0):(fightR b s l).1=zSt∧(fightR b s l).2.1=[]:=by
 unfold fightR at h ⊢;split
 ·split
  ·exact⟨rfl,rfl⟩
  ·rename_i h1 h2;rw[if_pos h1,if_neg h2] at h;unfold XJ at h ⊢;split
   ·rename_i h3; rw[if_pos h3] at h; exact absurd rfl h
   ·exact⟨rfl,rfl⟩
 ·exact⟨rfl,rfl⟩
theorem Yda:StLe 1000000 zSt:=⟨by simp[zSt],⟨by simp[zSt,zSd],by simp[zSt,zSd],by simp[zSt,zSd],by simp[zSt,zSd],by simp[zSt,zSd]⟩,⟨by simp[zSt,zSd],by simp[zSt,zSd],by simp[zSt,zSd],by simp[zSt,zSd],by simp[zSt,zSd]⟩⟩
theorem Xb5{b:Bk}{s:St}{l:List (Int×Int)}:StLe 1000000 (fightR b s l).1∧(fightR b s l).2.1.length≤100:=by
 by_cases h:(fightR b s l).2.2=0
 ·obtain⟨he,hM,hmv,h1,h2,h3,h4,h5⟩:=Yan h;rw[h5];obtain⟨k1,k2⟩:=XY hmv _ _ _ hM h4;have hle:=k1.le;refine⟨⟨by simp,hle.s0,hle.s1⟩,?_⟩;show (fsGo b s.mover (fsAll b s l s.attack) s []).2.1.length≤100;have:=QaK b s l s.attack;have:=(hM.at_.2 h2).2.1;rw[k2]; simp; omega
 ·obtain⟨q1,q2⟩:=Xar h;rw[q1,q2]; exact⟨Yda,by simp⟩
attribute [local irreducible] Ans.rd Ans.pu Ans.wr Ans.dr Ans.gr Ans.gw Ans.gl Ans.gd Ans.opt joinK W
set_option maxHeartbeats 8000000
theorem c47m(l:List Ev)(hl:l.length≤1000000000)(hc:∀e∈l,e.cards.length≤1000000000):PC 47 [.rsl false false 7 (l.map evM),.rsl false false 7 (l.map evM)] (.bool true):=by
 refine c47 (by simpa using hl) (λr hr=>?_);obtain⟨e,he,rfl⟩:=List.mem_map.1 hr;refine⟨by unfold evM; split<;>rfl,XcI e,?_⟩;unfold evM;split
 ·have:=c99 e e (x:=.nils) (y:=.nils) rfl rfl rfl rfl (q:=true) (λσ k hk=>YN (rd:=[]) (c62 [] [] (by simp)) rfl g62_ok.plain (.cons (Bor.weak (Bor.ro rfl) (λM u d=>d.nils_rsl 1)) <| .cons (Bor.weak (Bor.ro rfl) (λM u d=>d.nils_rsl 1)) .nil) rfl hk);rw[Xa0] at this;exact this
 ·have:=c99 e e (x:=rowV e.cards) (y:=rowV e.cards) rfl rfl rfl rfl (q:=true) (λσ k hk=>Ye (c62 e.cards e.cards (by have:=hc e he; omega)) rfl g62_ok.plain rfl (by simpa using hk));rw[Xa0] at this;exact this
theorem Ybc{b:Bk}{s:St}{l:List (Int×Int)}:∀e∈(fightR b s l).2.1,e.cards.length≤1000000000:=by
 by_cases h:(fightR b s l).2.2=0
 ·obtain⟨_,_,_,_,_,_,_,h5⟩:=Yan h;rw[h5];intro e he;rw[Zas _ _ _ (by simp) e he]; simp
 ·rw[(Xar h).2]; simp
end Go.Ah.Tz
end
section
namespace Go.Ah.Tz
open Go.Proofs.Tryz (prog)
structure Fk (mv:Int) (t t':St):Prop where
 u0:t'.s0.units.length=t.s0.units.length
 u1:t'.s1.units.length=t.s1.units.length
 m0:t'.s0.mana=t.s0.mana
 m1:t'.s1.mana=t.s1.mana
 lf:(Z9 t' mv).life=(Z9 t mv).life
theorem Fk.trans{mv:Int}{a b c:St}(h:Fk mv a b)(k:Fk mv b c):Fk mv a c:=⟨k.u0.trans h.u0,k.u1.trans h.u1,k.m0.trans h.m0,k.m1.trans h.m1,k.lf.trans h.lf⟩
def FS.who:FS→Option Int
 |.harm id _=>some id
 |.block _ _=>none
def FS.life:FS→Int
 |.harm id n=>if id=0 then cap4 n else 0
 |.block _ _=>0
def FS.on(b:Bk)(u:Th):FS→Int
 |.harm id n=>if id=u.id then hurt b u (cap4 n) else 0
 |.block _ _=>0
def Zv(S:List FS):Int:=(S.map FS.life).sum
def Zr(b:Bk)(u:Th)(S:List FS):Int:=(S.map (FS.on b u)).sum
theorem YbW(n:Int):0≤cap4 n∧cap4 n≤4000000:=by unfold cap4; omega
theorem FS.life_nn(x:FS):0≤x.life:=by
 cases x with
 |harm id n=>
  show 0≤if id=0 then cap4 n else 0
  have:=(YbW n).1;split<;>omega
 |block a d=>exact Int.le_refl _
theorem FS.on_nn(b:Bk)(u:Th)(x:FS):0≤x.on b u:=by
 cases x with
 |harm id n=>
  show 0≤if id=u.id then hurt b u (cap4 n) else 0
  have:0≤hurt b u (cap4 n):=by unfold hurt; omega
  split<;>omega
 |block a d=>exact Int.le_refl _
theorem XbO(S:List FS):0≤Zv S:=by
 induction S with
 |nil=>exact Int.le_refl _
 |cons x S ih=>have:=x.life_nn; simp only[Zv,List.map_cons,List.sum_cons] at *; omega
theorem Zcd(b:Bk)(u:Th)(S:List FS):0≤Zr b u S:=by
 induction S with
 |nil=>exact Int.le_refl _
 |cons x S ih=>have:=x.on_nn b u; simp only[Zr,List.map_cons,List.sum_cons] at *; omega
theorem Xax(x:FS)(S:List FS):Zv (x::S)=x.life+Zv S:=by simp[Zv]
theorem ZS(b:Bk)(u:Th)(x:FS)(S:List FS):Zr b u (x::S)=x.on b u+Zr b u S:=by simp[Zr]
theorem ZK(A B:List FS):Zv (A++B)=Zv A+Zv B:=by simp[Zv]
theorem ZO(b:Bk)(u:Th)(A B:List FS):Zr b u (A++B)=Zr b u A+Zr b u B:=by simp[Zr]
def offAt(mv k:Int)(S:List FS):Int:=if k=mv then 0 else Zv S
def hitU(b:Bk)(S:List FS)(u:Th):Th:={ u with harm:=u.harm+Zr b u S }
def XD(b:Bk)(mv:Int)(S:List FS)(t:St):St:=
 { t with s0:={ t.s0 with life:=t.s0.life-offAt mv 0 S,units:=t.s0.units.map (hitU b S) },s1:={ t.s1 with life:=t.s1.life-offAt mv 1 S,units:=t.s1.units.map (hitU b S) } }
structure CondS (b:Bk) (mv:Int) (S:List FS) (t:St):Prop where
 ids:∀id n,FS.harm id n∈S→id=0∨(0<id∧(unitR t id).2.2=true)
 l0:-1000000≤t.s0.life-offAt mv 0 S
 l1:-1000000≤t.s1.life-offAt mv 1 S
 us:∀u∈t.s0.units++t.s1.units,u.harm+Zr b u S≤1000000
theorem Qas(b:Bk)(S S':List FS)(u:Th):Zr b (hitU b S u) S'=Zr b u S':=by
 unfold Zr
 congr 1
theorem Xcc(b:Bk)(x:FS)(S:List FS)(u:Th):hitU b S (hitU b [x] u)=hitU b (x::S) u:=by
 have h:=Qas b [x] S u;have h1:Zr b u [x]=x.on b u:=by simp[Zr]
 unfold hitU at h ⊢;rw[h1] at h;simp only[h1,h,ZS,Th.mk.injEq,true_and,and_true];omega
theorem YZ(mv k:Int)(x:FS)(S:List FS):offAt mv k (x::S)=offAt mv k [x]+offAt mv k S:=by
 unfold offAt;split
 ·rfl
 ·rw[Xax,Xax]; simp[Zv]
theorem ZbH(mv k:Int)(S:List FS):0≤offAt mv k S:=by unfold offAt; split; exact Int.le_refl _; exact XbO S
theorem Xbp(b:Bk)(mv:Int)(x:FS)(S:List FS)(t:St):XD b mv S (XD b mv [x] t)=XD b mv (x::S) t:=by
 have hm:∀l:List Th,(l.map (hitU b [x])).map (hitU b S)=l.map (hitU b (x::S)):=λl=>by
  rw[List.map_map]; exact List.map_congr_left λu _=>Xcc b x S u
 have h0:=YZ mv 0 x S;have h1:=YZ mv 1 x S;unfold XD;simp only[hm,St.mk.injEq,Sd.mk.injEq,true_and,and_true];omega
theorem ZcQ(b:Bk)(S:List FS)(l:List Th)(id:Int):fnd (l.map (hitU b S)) id=fnd l id:=by
 unfold fnd;rw[List.findIdx?_map]
 congr 1
theorem Ybo(b:Bk)(mv:Int)(S:List FS)(t:St)(id:Int):unitR (XD b mv S t) id=unitR t id:=by
 simp only[unitR,XD,ZcQ]
theorem Qba{b:Bk}{mv:Int}{x:FS}{S:List FS}{t:St}:CondS b mv (x::S) t↔CondS b mv [x] t∧CondS b mv S (XD b mv [x] t):=by
 have h0:=YZ mv 0 x S;have h1:=YZ mv 1 x S;have n0:=ZbH mv 0 S;have n1:=ZbH mv 1 S;constructor
 ·rintro⟨i,a,c,u⟩;refine⟨⟨λid n hm=>i id n (by simp at hm; simp[hm]),by omega,by omega,λw hw=>?_⟩,⟨λid n hm=>?_,?_,?_,λw hw=>?_⟩⟩
  ·have:=u w hw;have:=Zcd b w S;rw[ZS] at *;simp[Zr] at *; omega
  ·rw[Ybo]; exact i id n (List.mem_cons_of_mem _ hm)
  ·show -1000000≤t.s0.life-offAt mv 0 [x]-offAt mv 0 S; omega
  ·show -1000000≤t.s1.life-offAt mv 1 [x]-offAt mv 1 S; omega
  ·have hw:w∈(t.s0.units++t.s1.units).map (hitU b [x]):=by rw[List.map_append]; exact hw
   obtain⟨v,hv,rfl⟩:=List.mem_map.1 hw;have:=u v hv;rw[Qas];show v.harm+Zr b v [x]+Zr b v S≤_;rw[ZS] at this;simp[Zr] at *; omega
 ·rintro⟨⟨i,a,c,u⟩,⟨i',a',c',u'⟩⟩;have a':-1000000≤t.s0.life-offAt mv 0 [x]-offAt mv 0 S:=a';have c':-1000000≤t.s1.life-offAt mv 1 [x]-offAt mv 1 S:=c';refine⟨λid n hm=>?_,by omega,by omega,λw hw=>?_⟩
  ·rcases List.mem_cons.1 hm with h|h
   ·exact i id n (by simp[h])
   ·have:=i' id n h
    rwa [Ybo] at this
  ·have:=u' (hitU b [x] w) (by
    show _∈t.s0.units.map _ ++ t.s1.units.map _;rw[← List.map_append]; exact List.mem_map.2 ⟨w,hw,rfl⟩)
   rw[Qas] at this;have:w.harm+Zr b w [x]+Zr b w S≤1000000:=this;rw[ZS];simp[Zr] at *; omega
theorem XaW{b:Bk}{id n:Int}{u:Th}(h:id≠u.id):hitU b [.harm id n] u=u:=by
 have:Zr b u [.harm id n]=0:=by simp[Zr,FS.on,h]
 unfold hitU; rw[this]; simp
theorem Qcc{b:Bk}{n:Int}{u:Th}:hitU b [.harm u.id n] u = { u with harm:=u.harm+hurt b u (cap4 n) }:=by
 have:Zr b u [.harm u.id n]=hurt b u (cap4 n):=by simp[Zr,FS.on]
 unfold hitU; rw[this]
theorem ZV{b:Bk}{id n:Int}{l:List Th}(h:∀u∈l,id≠u.id):l.map (hitU b [.harm id n])=l:=by
 exact(List.map_congr_left (g:=_root_.id) (λu hu=>XaW (h u hu))).trans (by simp)
theorem QaM{b:Bk}{n:Int}{l:List Th}{k:Nat}{u:Th}(hk:l[k]?=some u)(hn:(l.map Th.id).Nodup):l.map (hitU b [.harm u.id n])=l.set k { u with harm:=u.harm+hurt b u (cap4 n) }:=by
 apply List.ext_getElem?;intro j;have hkl:k<l.length:=(YLG hk).1;by_cases e:j=k
 ·subst e;rw[List.getElem?_set_self hkl,List.getElem?_map,hk,Option.map_some,Qcc]
 ·rw[List.getElem?_set_ne (λh=>e h.symm),List.getElem?_map];cases hj:l[j]? with
  |none=>rfl
  |some w=>
   have hjl:j<l.length:=(YLG hj).1;have hne:u.id≠w.id:=λh=>by
    have h1:=List.pairwise_iff_getElem.1 (List.nodup_iff_pairwise_ne.1 hn);have e1:(l.map Th.id)[j]'(by simpa using hjl)=w.id:=by simp[(YLG hj).2]
    have e2:(l.map Th.id)[k]'(by simpa using hkl)=u.id:=by simp[(YLG hk).2]
    rcases Nat.lt_or_gt_of_ne e with h'|h'
    ·exact h1 j k (by simpa using hjl) (by simpa using hkl) h' (by rw[e1,e2,h])
    ·exact h1 k j (by simpa using hkl) (by simpa using hjl) h' (by rw[e1,e2,h])
   rw[Option.map_some,XaW hne]
theorem ZcJ:∀ {l:List Th},(l.map Th.id).Nodup→∀u∈l,∀w∈l,u.id=w.id→w=u
 |[],_,u,hu,_,_,_=>absurd hu (by simp)
 |x::l,h,u,hu,w,hw,e=>by
  rw[List.map_cons,List.nodup_cons] at h;rcases List.mem_cons.1 hu with rfl|hu'
  ·rcases List.mem_cons.1 hw with rfl|hw'
   ·rfl
   ·exact absurd (List.mem_map.2 ⟨w,hw',e.symm⟩) h.1
  ·rcases List.mem_cons.1 hw with rfl|hw'
   ·exact absurd (List.mem_map.2 ⟨u,hu',e⟩) h.1
   ·exact ZcJ h.2 u hu' w hw' e
theorem QM(x:Int):wIn x=true↔-1000000≤x∧x≤1000000:=by unfold wIn; simp
theorem harm1{b:Bk}(he:(bkR b).1=0){t:St}(hM:MayP b t){mv:Int}(hmv:mv=0∨mv=1)(id n:Int):((harmF b t id (1-mv) n).2.2=0↔CondS b mv [.harm id n] t)∧(CondS b mv [.harm id n] t→(harmF b t id (1-mv) n).1=XD b mv [.harm id n] t):=by
 have L0:=(QM _).1 hM.s0.life;have L1:=(QM _).1 hM.s1.life;have hc:=YbW n;have hun:∀u∈t.s0.units++t.s1.units,1≤u.id∧0≤u.harm∧u.harm≤1000000:=λu hu=>by
  have:=hM.un.1 u hu;simp only[XH,Bool.and_eq_true,decide_eq_true_eq] at this;exact⟨this.2.2.2.2.2.1,this.2.2.2.1,this.2.2.2.2.1⟩
 by_cases h0:id=0
 ·subst h0;have hlo:Zv [.harm 0 n]=cap4 n:=by simp[Zv,FS.life]
  have hm0:t.s0.units.map (hitU b [.harm 0 n])=t.s0.units:=ZV λu hu=>by have:=hun u (List.mem_append_left _ hu); omega
  have hm1:t.s1.units.map (hitU b [.harm 0 n])=t.s1.units:=ZV λu hu=>by have:=hun u (List.mem_append_right _ hu); omega
  have hus:∀u∈t.s0.units++t.s1.units,u.harm+Zr b u [.harm 0 n]≤1000000:=λu hu=>by
   have:=hun u hu;rw[show Zr b u [.harm 0 n]=0 by simp[Zr,FS.on]; intro h; omega]; omega
  have hids:∀id' n',FS.harm id' n'∈[FS.harm 0 n]→id'=0∨(0<id'∧(unitR t id').2.2=true):=λid' n' hm=>by simp at hm; exact .inl hm.1
  unfold harmF chgF;rw[if_pos rfl];unfold chgP;rcases hmv with rfl|rfl
  ·have e:IntKind.i64.wrap ((t.side (1-0)).life-cap4 n)=t.s1.life-cap4 n:=wrapI (n:=t.s1.life-cap4 n) (by omega) (by omega);simp only[e];by_cases c:wIn (t.s1.life-cap4 n)=true
   ·rw[if_pos c];have c':=(QM _).1 c;refine⟨⟨λ_=>⟨hids,by show _≤t.s0.life-0; omega,by show _≤t.s1.life-Zv _; rw[hlo]; omega,hus⟩,λ_=>rfl⟩,λ_=>?_⟩;unfold XD;rw[hm0,hm1,show offAt 0 0 [.harm 0 n]=0 from rfl,show offAt 0 1 [.harm 0 n]=cap4 n from hlo];simp only[Int.sub_zero];rfl
   ·rw[if_neg c];refine⟨⟨λh=>(by cases h),λh=>absurd ((QM _).2 ?_) c⟩,λh=>absurd ((QM _).2 ?_) c⟩
    ·have:-1000000≤t.s1.life-Zv [.harm 0 n]:=h.l1;rw[hlo] at this; omega
    ·have:-1000000≤t.s1.life-Zv [.harm 0 n]:=h.l1;rw[hlo] at this; omega
  ·have e:IntKind.i64.wrap ((t.side (1-1)).life-cap4 n)=t.s0.life-cap4 n:=wrapI (n:=t.s0.life-cap4 n) (by omega) (by omega);simp only[e];by_cases c:wIn (t.s0.life-cap4 n)=true
   ·rw[if_pos c];have c':=(QM _).1 c;refine⟨⟨λ_=>⟨hids,by show _≤t.s0.life-Zv _; rw[hlo]; omega,by show _≤t.s1.life-0; omega,hus⟩,λ_=>rfl⟩,λ_=>?_⟩;unfold XD;rw[hm0,hm1,show offAt 1 1 [.harm 0 n]=0 from rfl,show offAt 1 0 [.harm 0 n]=cap4 n from hlo];simp only[Int.sub_zero];rfl
   ·rw[if_neg c];refine⟨⟨λh=>(by cases h),λh=>absurd ((QM _).2 ?_) c⟩,λh=>absurd ((QM _).2 ?_) c⟩
    ·have:-1000000≤t.s0.life-Zv [.harm 0 n]:=h.l0;rw[hlo] at this; omega
    ·have:-1000000≤t.s0.life-Zv [.harm 0 n]:=h.l0;rw[hlo] at this; omega
 have hbad:¬(0<id∧(unitR t id).2.2=true)→¬CondS b mv [.harm id n] t:=λh c=>by
  rcases c.ids id n (by simp) with q|q
  ·exact h0 q
  ·exact h q
 by_cases hp:0<id;rotate_left
 ·have e:harmF b t id (1-mv) n=(zSt,zEv,4):=by
   unfold harmF chgF; rw[if_neg h0,if_pos (by omega)]
  have hb:=hbad (λh=>hp h.1);rw[e];exact⟨⟨λh=>(by cases h),λh=>absurd h hb⟩,λh=>absurd h hb⟩
 cases hu:(unitR t id).2.2 with
 |false=>
  have hb:=hbad (λh=>by rw[hu] at h; exact absurd h.2 (by simp));have e:harmF b t id (1-mv) n=(zSt,zEv,4):=YbY hp hu;rw[e];exact⟨⟨λh=>(by cases h),λh=>absurd h hb⟩,λh=>absurd h hb⟩
 |true=>
  obtain⟨k,u,h1,h2,h3,h4⟩:=Zct hu;have hur:unitR t id=((unitR t id).1,(k:Int),true):=by rw[←h1,←hu]
  have e:harmF b t id (1-mv) n=chgU t 5 (unitR t id).1 k id u (IntKind.i64.wrap (u.harm+hurt b u (cap4 n)),hurt b u (cap4 n)):=by
   unfold harmF;rw[XbY hp hur,h2]; rfl
  rw[e];clear e hur h1 hbad;have hids:∀id' n',FS.harm id' n'∈[FS.harm id n]→id'=0∨(0<id'∧(unitR t id').2.2=true):=λid' n' hm=>by simp at hm; rw[hm.1]; exact .inr ⟨hp,hu⟩
  subst h3;generalize (unitR t u.id).1=side at h2 h4 ⊢;have hlo:Zv [.harm u.id n]=0:=by simp[Zv,FS.life,h0]
  have hof:∀k,offAt mv k [.harm u.id n]=0:=λk=>by unfold offAt; rw[hlo]; simp
  have hmem:u∈t.s0.units++t.s1.units:=by
   have hm:=List.mem_of_getElem? h2;rcases h4 with rfl|rfl
   ·exact List.mem_append_left _ hm
   ·exact List.mem_append_right _ hm
  have hub:=hun u hmem;have hhurt:0≤hurt b u (cap4 n)∧hurt b u (cap4 n)≤4000000:=by
   obtain⟨⟨q1,q2⟩,_⟩:=XbW he u.card;have q1:0≤Yad b u.card:=q1;have q2:Yad b u.card≤999:=q2;unfold hurt;rw[wrapI (by omega) (by omega)];omega
  rw[wrapI (by omega) (by omega)];have hon:Zr b u [.harm u.id n]=hurt b u (cap4 n):=by simp[Zr,FS.on]
  obtain⟨n0,n1,nd⟩:=List.nodup_append.1 (by rw[←List.map_append]; exact hM.un.2:(t.s0.units.map Th.id++t.s1.units.map Th.id).Nodup);have huq:∀w∈t.s0.units++t.s1.units,u.id=w.id→w=u:=λw hw e=>ZcJ hM.un.2 u hmem w hw e;have hus:u.harm+hurt b u (cap4 n)≤1000000→∀w∈t.s0.units++t.s1.units,w.harm+Zr b w [.harm u.id n]≤1000000:=λhle w hw=>by
   by_cases c:u.id=w.id
   ·rw[huq w hw c,hon]; exact hle
   ·rw[show Zr b w [.harm u.id n]=0 by simp[Zr,FS.on,c]];have:=hun w hw; omega
  unfold chgU;by_cases c:wIn (u.harm+hurt b u (cap4 n))=true
  ·rw[if_pos c];have c':=(QM _).1 c;refine⟨⟨λ_=>⟨hids,by rw[hof]; omega,by rw[hof]; omega,hus c'.2⟩,λ_=>rfl⟩,λ_=>?_⟩;unfold XD;rw[hof,hof];simp only[Int.sub_zero];rcases h4 with rfl|rfl
   ·have h2:t.s0.units[k]?=some u:=h2;rw[QaM h2 n0,ZV (l:=t.s1.units) (λw hw q=>nd u.id (List.mem_map.2 ⟨u,List.mem_of_getElem? h2,rfl⟩) w.id (List.mem_map.2 ⟨w,hw,rfl⟩) q)];rfl
   ·have h2:t.s1.units[k]?=some u:=h2;rw[QaM h2 n1,ZV (l:=t.s0.units) (λw hw q=>nd w.id (List.mem_map.2 ⟨w,hw,rfl⟩) u.id (List.mem_map.2 ⟨u,List.mem_of_getElem? h2,rfl⟩) q.symm)];rfl
  ·rw[if_neg c];have hno:¬ CondS b mv [.harm u.id n] t:=λh=>c ((QM _).2 (by
    have:=h.us u hmem;rw[hon] at this;omega))
   exact⟨⟨λh=>(by cases h),λh=>absurd h hno⟩,λh=>absurd h hno⟩
theorem Yab{b:Bk}(he:(bkR b).1=0){mv:Int}(hmv:mv=0∨mv=1):∀(S:List FS) (t:St) (l:List Ev),MayP b t→((fsGo b mv S t l).2.2=0↔CondS b mv S t)∧(CondS b mv S t→(fsGo b mv S t l).1=XD b mv S t)
 |[],t,l,hM=>by
  have L0:=(QM _).1 hM.s0.life;have L1:=(QM _).1 hM.s1.life;have ho:∀k,offAt mv k []=0:=λk=>by unfold offAt; split<;>rfl
  have hm:∀l:List Th,l.map (hitU b [])=l:=λl=>(List.map_congr_left (g:=_root_.id) (λu _=>by unfold hitU; simp[Zr])).trans (by simp);refine⟨⟨λ_=>⟨λ_ _ h=>by simp at h,by rw[ho]; omega,by rw[ho]; omega,λu hu=>?_⟩,λ_=>rfl⟩,λ_=>?_⟩
  ·have:=hM.un.1 u hu;simp only[XH,Bool.and_eq_true,decide_eq_true_eq] at this;have:=this.2.2.2.2.1;simpa[Zr] using this
  ·show t=XD b mv [] t;unfold XD;simp only[ho,hm,Int.sub_zero]
 |.block a d::S,t,l,hM=>by
  have ih:=Yab he hmv S t (l++[⟨12,mv,0,a,d,0,[]⟩]) hM;have ho:∀k,offAt mv k (.block a d::S)=offAt mv k S:=λk=>by rw[YZ]; unfold offAt; split<;>simp[Zv,FS.life]
  have hh:∀u,Zr b u (.block a d::S)=Zr b u S:=λu=>by rw[ZS]; simp[FS.on]
  have hc:CondS b mv (.block a d::S) t↔CondS b mv S t:=by
   constructor
   ·rintro⟨i,q1,q2,q3⟩;exact⟨λid n hm=>i id n (List.mem_cons_of_mem _ hm),by rw[ho] at q1; exact q1,by rw[ho] at q2; exact q2,λu hu=>by have:=q3 u hu; rwa [hh] at this⟩
   ·rintro⟨i,q1,q2,q3⟩;exact⟨λid n hm=>i id n (by simpa using hm),by rw[ho]; exact q1,by rw[ho]; exact q2,λu hu=>by rw[hh]; exact q3 u hu⟩
  have ha:XD b mv (.block a d::S) t=XD b mv S t:=by
   have hu:hitU b (.block a d::S)=hitU b S:=by funext u; unfold hitU; rw[hh]
   unfold XD; rw[ho,ho,hu]
  rw[hc,ha];exact ih
 |.harm id n::S,t,l,hM=>by
  have h1:=harm1 he hM hmv id n;by_cases c:(harmF b t id (1-mv) n).2.2=0
  ·have c1:=h1.1.1 c;have e1:=h1.2 c1;have hM1:=(Yas hM (by omega) c).1;have ih:=Yab he hmv S (harmF b t id (1-mv) n).1 (l++[(harmF b t id (1-mv) n).2.1]) hM1;have e:fsGo b mv (.harm id n::S) t l=fsGo b mv S (harmF b t id (1-mv) n).1 (l++[(harmF b t id (1-mv) n).2.1]):=if_pos c;rw[e,ih.1,e1,Qba];refine⟨⟨λh=>⟨c1,h⟩,λh=>h.2⟩,λh=>?_⟩;have:=ih.2 (by rw[e1]; exact h.2);rw[e1] at this;rw[this,Xbp]
  ·have e:fsGo b mv (.harm id n::S) t l=(zSt,[],(harmF b t id (1-mv) n).2.2):=if_neg c;rw[e,Qba];exact⟨⟨λh=>absurd h c,λh=>absurd (h1.1.2 h.1) c⟩,λh=>absurd (h1.1.2 h.1) c⟩
theorem Zau{a:Int}{p:Int×Int}:∀ {l:List (Int×Int)},(l.map (·.1)).Nodup→(ZG l a=some p↔p∈l∧p.1=a)
 |[],_=>by simp[ZG]
 |q::l,h=>by
  rw[List.map_cons,List.nodup_cons] at h;unfold ZG;by_cases c:q.1=a
  ·rw[if_pos c];constructor
   ·intro e; cases e; exact⟨List.mem_cons_self,c⟩
   ·rintro⟨hm,e⟩;rcases List.mem_cons.1 hm with rfl|hm
    ·rfl
    ·exact absurd (List.mem_map.2 ⟨p,hm,by rw[e,c]⟩) h.1
  ·rw[if_neg c,Zau h.2];constructor
   ·rintro⟨hm,e⟩; exact⟨List.mem_cons_of_mem _ hm,e⟩
   ·rintro⟨hm,e⟩;rcases List.mem_cons.1 hm with rfl|hm
    ·exact absurd e c
    ·exact⟨hm,e⟩
theorem Yac{α β:Type}[DecidableEq β](f:α→β)(x y:List α):((y++x).map f).Nodup↔((x++y).map f).Nodup:=by
 rw[List.map_append,List.map_append,List.nodup_append,List.nodup_append];constructor<;>rintro⟨h1,h2,h3⟩<;>exact⟨h2,h1,λa ha b hb e=>h3 b hb a ha e.symm⟩
theorem Xbh(s:St)(x y:List (Int×Int)):QB s (y++x)=QB s (x++y):=by
 unfold QB;rw[List.all_append,List.all_append,Bool.and_comm (y.all _),decide_eq_decide.2 (Yac (·.1) x y),decide_eq_decide.2 (Yac (·.2) x y)]
theorem XbN{b:Bk}{s:St}{x y:List (Int×Int)}(h:((x++y).map (·.1)).Nodup)(at_:List Int):fsAll b s (y++x) at_=fsAll b s (x++y) at_:=by
 have hp:∀a,ZG (y++x) a=ZG (x++y) a:=λa=>by
  apply Option.ext;intro p;rw[Zau ((Yac (·.1) x y).2 h),Zau h];simp only[List.mem_append,or_comm]
 induction at_ with
 |nil=>rfl
 |cons a r ih=>rw[fsAll,fsAll,ih,fsOf,fsOf,hp]
theorem Qbs(b:Bk)(s:St)(x y:List (Int×Int)):fightR b s (y++x)=fightR b s (x++y):=by
 unfold fightR;rw[Xbh];split
 ·split
  ·rfl
  ·rename_i h;have h:QB s (x++y)=true:=by
    have:s.phase=1∧QB s (x++y)=true:=by simpa using h
    exact this.2
   simp only[QB,Bool.and_eq_true,decide_eq_true_eq] at h;rw[XbN h.2.1]
 ·rfl
theorem QbF{e:Int}{b:Bk}{s:St}:mayR e b s false=true↔mayR e b s true=true∧(s.phase=1→s.attack≠[]):=by
 constructor
 ·intro h;refine⟨YaF h,λhp he=>?_⟩;simp only[mayR,Bool.and_eq_true] at h;have h14:=h.2.2.2.2.2.2.2.2.2.2.2.2.2;rw[if_neg (by simpa using hp),he] at h14;simp at h14
 ·rintro⟨h,hne⟩;simp only[mayR,Bool.and_eq_true] at h ⊢;refine⟨h.1,h.2.1,h.2.2.1,h.2.2.2.1,h.2.2.2.2.1,h.2.2.2.2.2.1,h.2.2.2.2.2.2.1,h.2.2.2.2.2.2.2.1,h.2.2.2.2.2.2.2.2.1,h.2.2.2.2.2.2.2.2.2.1,h.2.2.2.2.2.2.2.2.2.2.1,h.2.2.2.2.2.2.2.2.2.2.2.1,h.2.2.2.2.2.2.2.2.2.2.2.2.1,?_⟩;have h14:=h.2.2.2.2.2.2.2.2.2.2.2.2.2;by_cases hp:s.phase≠1
  ·rw[if_pos hp] at h14 ⊢; exact h14
  ·rw[if_neg hp] at h14 ⊢;have:=hne (by simpa using hp);simp only[Bool.and_eq_true] at h14 ⊢;refine⟨?_,h14.2⟩;have hl:s.attack.length≠0:=λhc=>this (List.length_eq_zero_iff.1 hc);simp[hl]
@[reducible] def turned(s:St)(x y:List Int):St:={ s with attack:=y++x }
theorem QbS{b:Bk}{s:St}{x y:List Int}(h:s.attack=x++y)(hm:mayR (bkR b).1 b s false=true):mayR (bkR b).1 b (turned s x y) false=true:=by
 rw[QbF,YaN] at hm ⊢;obtain⟨⟨he,hM⟩,hn⟩:=hm;refine⟨⟨he,hM.hd,hM.s0,hM.s1,hM.un,λhp=>?_,λhp=>?_⟩,λhp hc=>hn hp ?_⟩
 ·have:=hM.at_.1 hp;rw[h] at this;show y++x=[];simp only[List.append_eq_nil_iff] at this ⊢;exact⟨this.2,this.1⟩
 ·obtain⟨q1,q2,q3,q4⟩:=hM.at_.2 hp;rw[h] at q2 q3 q4;refine⟨q1,?_,?_,λa ha=>q4 a ?_⟩
  ·show (y++x).length≤7;simp at q2 ⊢; omega
  ·show (y++x).Nodup;have:=(Yac _root_.id x y).2 (by simpa using q3);simpa using this
  ·have ha:a∈y++x:=ha;simp only[List.mem_append] at ha ⊢;exact ha.symm
 ·have hc:y++x=[]:=hc;rw[h];simp only[List.append_eq_nil_iff] at hc ⊢;exact⟨hc.2,hc.1⟩
theorem Ybn{s:St}{x y:List Int}(h:s.attack=x++y)(l:List (Int×Int)):QB (turned s x y) l=QB s l:=by
 have:Qaf (turned s x y)=Qaf s:=by
  funext p
  unfold Qaf;rw[h];show (((unitR s p.2).2.2 && !decide ((unitR s p.2).1=s.mover))&&(y++x).any λz=>decide (z=p.1))=_;rw[List.any_append,List.any_append,Bool.or_comm (y.any _)]
 unfold QB;rw[this]
theorem Xb1{b:Bk}{mv:Int}{A B:List FS}{s:St}{at_:List Int}:CondS b mv (B++A) { s with attack:=at_ }↔CondS b mv (A++B) s:=by
 have ho:∀k,offAt mv k (B++A)=offAt mv k (A++B):=λk=>by unfold offAt; rw[ZK,ZK,Int.add_comm]
 have hh:∀u,Zr b u (B++A)=Zr b u (A++B):=λu=>by rw[ZO,ZO,Int.add_comm]
 constructor
 ·rintro⟨q1,q2,q3,q4⟩;exact⟨λid n hm=>q1 id n (by simp only[List.mem_append] at hm ⊢; exact hm.symm),by rw[ho] at q2; exact q2,by rw[ho] at q3; exact q3,λu hu=>by have:=q4 u hu; rwa [hh] at this⟩
 ·rintro⟨q1,q2,q3,q4⟩;exact⟨λid n hm=>q1 id n (by simp only[List.mem_append] at hm ⊢; exact hm.symm),by rw[ho]; exact q2,by rw[ho]; exact q3,λu hu=>by rw[hh]; exact q4 u hu⟩
theorem QbJ{b:Bk}{mv:Int}{A B:List FS}{s:St}{at_:List Int}:XD b mv (B++A) { s with attack:=at_ } = { XD b mv (A++B) s with attack:=at_ }:=by
 have ho:∀k,offAt mv k (B++A)=offAt mv k (A++B):=λk=>by unfold offAt; rw[ZK,ZK,Int.add_comm]
 have hu:hitU b (B++A)=hitU b (A++B):=by funext u; unfold hitU; rw[ZO,ZO,Int.add_comm]; simp[Int.add_comm]
 unfold XD;rw[ho,ho,hu]
theorem Qaw(b:Bk)(s:St)(x y:List Int)(l:List (Int×Int)):∀at_,fsAll b (turned s x y) l at_=fsAll b s l at_
 |[]=>rfl
 |a::r=>by rw[fsAll,fsAll,Qaw b s x y l r]; rfl
theorem Zbt{b:Bk}{s:St}{l:List (Int×Int)}{x y:List Int}(hat:s.attack=x++y)(h:(fightR b s l).2.2=0) :
  (fightR b (turned s x y) l).2.2=0∧(fightR b (turned s x y) l).1=(fightR b s l).1∧(fightR b (turned s x y) l).2.1.length=(fightR b s l).2.1.length:=by
 obtain⟨he,hM,hmv,h1,h2,h3,h4,h5⟩:=Yan h;have hm2:=QbS hat h1;have hM2:=(YaN.1 (YaF hm2)).2;have a1:=Yab he hmv (fsAll b s l s.attack) s [] hM;have a2:=Yab he hmv (fsAll b s l y++fsAll b s l x) (turned s x y) [] hM2;rw[hat,QK] at a1;have c1:=a1.1.1 (by rw[hat,QK] at h4; exact h4);have c2:CondS b s.mover (fsAll b s l y++fsAll b s l x) (turned s x y):=Xb1.2 c1;have g2:=a2.1.2 c2;have e2:fightR b (turned s x y) l=XJ (fsGo b s.mover (fsAll b s l y++fsAll b s l x) (turned s x y) []):=by
  unfold fightR;rw[if_pos hm2,Ybn hat,if_neg (by simp[h2,h3])];show XJ (fsGo b s.mover (fsAll b (turned s x y) l (y++x)) _ _)=_;rw[Qaw,QK]
 have l1:=(XY hmv (fsAll b s l x++fsAll b s l y) s [] hM (a1.1.2 c1)).2;have l2:=(XY hmv _ _ [] hM2 g2).2;rw[e2,h5,XJ,if_pos g2,a2.2 c2,hat,QK,a1.2 c1];refine⟨rfl,?_,?_⟩
 ·show { XD b s.mover (fsAll b s l y++fsAll b s l x) { s with attack:=y++x } with attack:=[],phase:=0 }=_;rw[QbJ]
 ·show (fsGo b s.mover (fsAll b s l y++fsAll b s l x) (turned s x y) []).2.1.length=(fsGo b s.mover (fsAll b s l x++fsAll b s l y) s []).2.1.length;rw[l1,l2]; simp; omega
end Go.Ah.Tz
end
section
namespace Go.Ah.Tz
open Go.Proofs.Tryz (prog)
theorem Qcw{ib:Bool}{σ:List ABlk}{a:Int}{n:Nat}(h:0<n):Yh .rem ib [iv a,iv (n:Int)] σ=.ok (iv (a.tmod n)) [] []:=by
 have h0:Nat.beq n 0=false:=by
  cases e:Nat.beq n 0 with
  |false=>rfl
  |true=>have:=YNB e; omega
 have e:binX .rem .i64 .i64 a (Int.ofNat n)=(bif Nat.beq n 0 then none else bif ikEq .i64 .i64 then some (.int .i64 (a.tmod (.ofNat n))) else none):=rfl;show (match binX .rem .i64 .i64 a (Int.ofNat n) with
  |some v=>SRes.ok v [] []
  | none=>.stop)=_
 rw[e,h0]; rfl
theorem Xcr{n:Nat}(h:0<n)(hn:n≤2000000000)(a:Int):∃j:Nat,j<n∧(IntKind.i64.wrap (a.tmod n+n)).tmod n=(j:Int):=by
 have h1:=Int.tmod_lt_of_pos a (b:=(n:Int)) (by omega);have h2:=Int.lt_tmod_of_pos a (b:=(n:Int)) (by omega);rw[wrapI (by omega) (by omega)];have h3:=Int.tmod_nonneg (a:=a.tmod n+n) n (by omega);have h4:=Int.tmod_lt_of_pos (a.tmod n+n) (b:=(n:Int)) (by omega);exact⟨((a.tmod n+n).tmod n).toNat,by omega,by omega⟩
theorem Zc2{α:Type}(f:α→List AVal)(sz:Nat)(l:List α)(j:Nat)(h:j≤l.length)(σ:List ABlk):XG sz [.rsl false false sz (l.map f),iv j] σ=.ok (.rsl false false sz ((l.drop j).map f)) [] []:=by
 have h1:Nat.ble j (l.map f).length=true:=Nat.ble_eq_true_of_le (by simpa using h);have h2:cut j (l.map f).length (l.map f)=(l.drop j).map f:=by unfold cut; rw[List.take_length,List.map_drop]
 show (bif Nat.beq sz sz&&Nat.ble j (l.map f).length then SRes.ok (.rsl false false sz (cut j (l.map f).length (l.map f))) [] [] else .stop)=_;rw[h1,h2,Nat.beq_refl]; rfl
theorem Yc2{α:Type}(f:α→List AVal)(sz:Nat)(l:List α)(j:Nat)(h:j≤l.length)(σ:List ABlk):YK sz [.rsl false false sz (l.map f),iv j] σ=.ok (.rsl false false sz ((l.take j).map f)) [] []:=by
 have h1:Nat.ble j (l.map f).length=true:=Nat.ble_eq_true_of_le (by simpa using h);have h2:cut 0 j (l.map f)=(l.take j).map f:=by unfold cut; rw[List.drop_zero,List.map_take]
 show (bif Nat.beq sz sz&&Nat.ble j (l.map f).length then SRes.ok (.rsl false false sz (cut 0 j (l.map f))) [] [] else .stop)=_;rw[h1,h2,Nat.beq_refl]; rfl
theorem Yb3(n by_:Nat)(σ:List ABlk)(e nn:Bool)(rows:List (List AVal))(hr:Ys rows=true)(hroom:(2*rows.length+192)*by_≤2 ^ 48)(x:AVal)(hx:x=.nils∨x=.rsl true true n []) :
  Qg n by_ [x,.rsl e nn n rows] σ=.ok (.sl σ.length 0 rows.length false) [] [(σ.length,.rows n rows)]:=by
 have h3:Nat.ble ((2*rows.length+192)*by_) (2 ^ 48)=true:=Nat.ble_eq_true_of_le hroom;have:Qg n by_ [x,.rsl e nn n rows] σ=ZB n by_ σ [] [] (.rsl e nn n rows):=by rcases hx with rfl|rfl<;>rfl
 rw[this];unfold ZB;have h1:Qy n σ (.rsl e nn n rows)=some (rows,[]):=by simp[Qy]
 simp only[h1,hr,List.length_nil,Nat.zero_add,h3,Bool.and_self,cond_true,List.nil_append]
theorem QaO(l:List (Int×Int)):Ys (l.map prC)=true:=Yai λr hr=>by
 obtain⟨p,_,rfl⟩:=List.mem_map.1 hr;rfl
theorem Yaz(l:List Int):Ys (l.map cel)=true:=Yai λr hr=>by
 obtain⟨p,_,rfl⟩:=List.mem_map.1 hr;rfl
theorem Qcr{τ:List ABlk}{n c:Nat}{s:St}{x y:List Int}(key:∀i z,1≤i→(stB s)[i]?=some z→hget τ (n+i)=z)(hc:hget τ c=.rows 1 ((y++x).map cel)) :
  SB τ (c::(List.range 11).map (n + ·)) (stQ s (.sl c 0 (y++x).length false) (.sl (n+1) 0 s.s0.deck.length false) (.sl (n+2) 0 s.s0.hand.length false) (.sl (n+3) 0 s.s0.grave.length false) (.sl (n+4) 0 s.s0.units.length false) (.sl (n+5) 0 s.s0.told.length false) (.sl (n+6) 0 s.s1.deck.length false) (.sl (n+7) 0 s.s1.hand.length false) (.sl (n+8) 0 s.s1.grave.length false) (.sl (n+9) 0 s.s1.units.length false) (.sl (n+10) 0 s.s1.told.length false)) (turned s x y):=by
 have hin:∀i,i<11→n+i∈c::(List.range 11).map (n + ·):=λi hi=>List.mem_cons_of_mem _ (List.mem_map.2 ⟨i,List.mem_range.2 hi,rfl⟩);exact SB.mk (s:=turned s x y) (RI.own hc (by simp) rfl) (RI.own (key 1 _ (by decide) rfl) (hin 1 (by decide)) rfl) (RI.own (key 2 _ (by decide) rfl) (hin 2 (by decide)) rfl) (RI.own (key 3 _ (by decide) rfl) (hin 3 (by decide)) rfl) (RT.own (key 4 _ (by decide) rfl) (hin 4 (by decide)) rfl) (RI.own (key 5 _ (by decide) rfl) (hin 5 (by decide)) rfl)
  (RI.own (key 6 _ (by decide) rfl) (hin 6 (by decide)) rfl) (RI.own (key 7 _ (by decide) rfl) (hin 7 (by decide)) rfl) (RI.own (key 8 _ (by decide) rfl) (hin 8 (by decide)) rfl) (RT.own (key 9 _ (by decide) rfl) (hin 9 (by decide)) rfl) (RI.own (key 10 _ (by decide) rfl) (hin 10 (by decide)) rfl)
attribute [local irreducible] Ans.rd Ans.pu Ans.wr Ans.dr Ans.gr Ans.gw Ans.gl Ans.gd Ans.opt joinK W
set_option maxHeartbeats 8000000
theorem c12(h89:SortC prog 89)(hn:SortN prog 89)(h44:PC 44 [] (.bool true))(b:Bk)(hf:bkFit b=true)(hsm:Zt b.cards)(s:St)(hs2:StLe 2000000 s)(l:List (Int×Int))(hl:l.length≤1000000000)(by_ turn:Int):PC 12 [bkV b,stV s,prV l,iv by_,iv turn] (.bool true):=by
 have hs:StLe 1000000000 s:=hs2.mono (by decide);obtain⟨q,h43⟩:=c43 b hf s (x:=.nils) (y:=prV l) (n:=0) (m:=l.length) (λσ=>rfl) (λσ=>by rw[Zf,List.length_map]);have h48:=c48 h89 hn b hf hsm s hs l hl;have hbad:=Xar (b:=b) (s:=s) (l:=l);have hle:=Xb5 (b:=b) (s:=s) (l:=l);have hcd:=Ybc (b:=b) (s:=s) (l:=l);refine Ze hP g12_ok rfl rfl ?_;unfold g12;refine Zd (v:=.bptr 0 0) (rd:=[]) (up:=[(0,.box (bkC b))]) rfl rfl ?_;refine Zd (v:=.bptr 1 0) (rd:=[]) (up:=[(1,.box (stC s))]) rfl rfl ?_;refine Ya rfl (Ya rfl (Ye h43 rfl g43_ok.plain rfl ?_));refine Qc (λ_=>Ye h44 rfl g44_ok.plain rfl rfl) (λ_=>?_);refine Ya rfl (Ya rfl (Ye h48 rfl g48_ok.plain rfl (Ya rfl (Ya rfl (Ya rfl ?_)))));refine Xz (row:=stC (fightR b s l).1) (row':=stC (fightR b s l).1) rfl rfl rfl (Ya (YT ..) (Qc (λhz=>?_) (λhz=>?_)))
 ·have hz:(fightR b s l).2.2≠0:=by simpa using hz
  rw[(hbad hz).2];exact Ya rfl (Ya rfl (Yc (Ye h44 rfl g44_ok.plain rfl (Ya rfl rfl))))
 have hz:(fightR b s l).2.2=0:=by simpa using hz
 obtain⟨j,hj,ej⟩:=Xcr (n:=l.length+1) (by omega) (by omega) by_;refine Ya (v:=iv l.length) (rd:=[]) (by simp[Zf]) (Ya (Qn ..) ?_);rw[show IntKind.i64.wrap ((l.length:Int)+1)=((l.length+1:Nat):Int) by rw[wrapI (by omega) (by omega)]; push_cast; rfl];refine Ya (Qcw (by omega)) (Ya (Qn ..) (Ya (Qcw (by omega)) ?_));rw[ej];have hj:j≤l.length:=by omega
 refine Qj (Zc2 prC 2 l j hj _) (Yn _) (Qj (Yb3 2 16 _ _ _ _ (QaO _) (by simp; omega) _ (.inl rfl)) (Qs _ _) (Qj (Yc2 prC 2 l j hj _) (Yn _) ?_));have hrow:=Qh ([]++[ABlk.box (bkC b)]++[ABlk.box (stC s)]++[ABlk.box (stC (fightR b s l).1)]) (.rows 2 ((l.drop j).map prC));refine Qj (QcH 2 16 hrow rfl (QaO _) (by simp; omega)) (YW _ _ (by simp)) (QO (by rfl) ?_);clear hrow;have hother:fightR b s (l.drop j++l.take j)=fightR b s l:=by rw[Qbs b s (l.take j) (l.drop j),List.take_append_drop]
 have h48o:=c48 h89 hn b hf hsm s hs (l.drop j++l.take j) (by simp; omega);rw[hother] at h48o;obtain⟨σ,hσ⟩:∃σ,σ=(([]++[ABlk.box (bkC b)]++[ABlk.box (stC s)]++[ABlk.box (stC (fightR b s l).1)]++[ABlk.rows 2 ((l.drop j).map prC)]).set ([]++[ABlk.box (bkC b)]++[ABlk.box (stC s)]++[ABlk.box (stC (fightR b s l).1)]).length .dead++[ABlk.rows 2 ((l.drop j).map prC++(l.take j).map prC)]):=⟨_,rfl⟩;have y0:hget σ 0=.box (bkC b):=by rw[hσ]; rfl
 have y1:hget σ 1=.box (stC s):=by rw[hσ]; rfl
 have y2:hget σ 2=.box (stC (fightR b s l).1):=by rw[hσ]; rfl
 have y4:hget σ 4=.rows 2 ((l.drop j++l.take j).map prC):=by rw[hσ,List.map_append]; rfl
 have yl:σ.length=5:=by rw[hσ]; rfl
 rw[←hσ];show VV.rd (Zc true 2 [.bptr 0 0] σ) _;refine Ya (ld y0 rfl) (Ya (ld y1 rfl) ?_);refine Yag (rd:=[4]) h48o rfl g48_ok.plain (.cons (Bor.ro rfl) <| .cons (Bor.ro rfl) <| .cons (Bor.own (rs:=(l.drop j++l.take j).map prC) y4 (by simp) ?_ ?_ ?_) .nil) (by simp[y4]) (Ya rfl (Ya rfl (Ya rfl ?_)))
 ·simp
 ·exact Yam _ _ (by simp)
 ·intro r hr;obtain⟨p,_,rfl⟩:=List.mem_map.1 hr;rfl
 clear hσ h48o hother;have hA:=Yao [4] σ;have y0:=hA.get y0 (by simp) (by simp);have y1:=hA.get y1 (by simp) (by simp);have y2:=hA.get y2 (by simp) (by simp);have yl:(killL σ [4]).length=5:=by rw[Zbe]; exact yl
 clear hA y4;generalize killL σ [4]=τ0 at y0 y1 y2 yl ⊢;refine Xz (row:=stC (fightR b s l).1) (row':=stC (fightR b s l).1) rfl rfl rfl ?_;have y5:=Qh τ0 (.box (stC (fightR b s l).1));have y0:=Qf [.box (stC (fightR b s l).1)] y0 (by simp);have y1:=Qf [.box (stC (fightR b s l).1)] y1 (by simp);have y2:=Qf [.box (stC (fightR b s l).1)] y2 (by simp);have yl':(τ0++[ABlk.box (stC (fightR b s l).1)]).length=6:=by simp[yl]
 rw[yl] at y5 ⊢;clear yl;generalize τ0++[ABlk.box (stC (fightR b s l).1)]=τ1 at y0 y1 y2 y5 yl' ⊢;refine Ya (YT ..) ?_;rw[decide_eq_false (λh=>h rfl)];refine ZaR (v1:=stV (fightR b s l).1) (v2:=stV (fightR b s l).1) (u0:=.bool true) (λ_=>ld y2 rfl) (λ_=>ld y5 rfl) (λ_ k hk=>Ye (c20s _ (hle.1.mono (by decide))) rfl g20_ok.plain rfl hk) (λ_=>rfl) ?_;refine ZaR (u0:=.bool true) (λ_=>rfl) (λ_=>rfl) (λ_ k hk=>Ye (c47m _ (by omega) hcd) rfl g47_ok.plain rfl hk) (λ_=>rfl) ?_;refine Xh ?_;obtain⟨he,hM,hmv,hm1,hph,hpo,hgo,h5⟩:=Yan hz;have hne:s.attack≠[]:=(QbF.1 hm1).2 hph;have hpos:0<s.attack.length:=by
  cases h:s.attack with
  |nil=>exact absurd h hne
  |cons=>simp
 have hat7:s.attack.length≤7:=(hM.at_.2 hph).2.1;obtain⟨k,hk,ek⟩:=Xcr (n:=s.attack.length) hpos (by omega) turn;refine Ya rfl (Ya (v:=rowV s.attack) (ld y1 rfl) (Ya (v:=iv s.attack.length) (rd:=[]) (by simp[Zf]) (Ya (Qcw hpos) (Ya (Qn ..) (Ya (Qcw hpos) ?_)))));rw[ek];refine Ya (ld y1 rfl) (QcF hs (n:=6) yl' (λτ hlen hbx hcp=>?_));have y0:=hbx 0 _ y0;have y1:=hbx 1 _ y1;have y2:=hbx 2 _ y2;have y5:=hbx 5 _ y5;have hlen:τ.length=18:=hlen;clear hbx yl';refine Yk rfl (Yk rfl (Qj (v:=rowV s.attack) (ld y1 rfl) (Yn _) (Qj (Zc2 cel 1 s.attack k (by omega) _) (Yn _) (Qj (Yb3 1 8 _ _ _ _ (Yaz _) (by simp; omega) _ (.inr rfl)) (Qs _ _) ?_))));have hrow:=Qh τ (.rows 1 ((s.attack.drop k).map cel));have y1a:=Qf [.rows 1 ((s.attack.drop k).map cel)] y1 (by simp);refine Yk rfl (Qj (v:=rowV s.attack) (ld y1a rfl) (Yn _) (Qj (Yc2 cel 1 s.attack k (by omega) _) (Yn _) ?_));refine Qj (QcH 1 8 hrow rfl (Yaz _) (by simp; omega)) (YW _ _ (by simp)) ?_;have e19:(τ++[ABlk.rows 1 ((s.attack.drop k).map cel)]).length=19:=by simp[hlen]
 have hA:Agr τ ((τ ++ [ABlk.rows 1 ((s.attack.drop k).map cel)]).set τ.length .dead ++ [ABlk.rows 1 ((s.attack.drop k).map cel ++ (s.attack.take k).map cel)]) []:=⟨by simp; try omega,λc hc _=>by
  rw[Xp _ (by simp; omega),Yj _ (by simp; omega) (by omega),Xp _ hc]⟩
 have h19:=Qh ((τ++[ABlk.rows 1 ((s.attack.drop k).map cel)]).set τ.length .dead) (.rows 1 ((s.attack.drop k).map cel++(s.attack.take k).map cel));rw[show ((τ++[ABlk.rows 1 ((s.attack.drop k).map cel)]).set τ.length .dead).length=19 by simp[hlen]] at h19;rw[e19];generalize ((τ++[ABlk.rows 1 ((s.attack.drop k).map cel)]).set τ.length .dead++[ABlk.rows 1 ((s.attack.drop k).map cel++(s.attack.take k).map cel)])=τ2 at hA h19 ⊢;rw[←List.map_append] at h19;rw[hlen];have hbox:=hA.get hcp.box (by simp) (by simp);refine Yk rfl (Qj (stv (row':=stQ s (.sl 19 0 (((s.attack.drop k).map cel).length+((s.attack.take k).map cel).length) false) (.sl (6+1) 0 s.s0.deck.length false) (.sl (6+2) 0 s.s0.hand.length false) (.sl (6+3) 0 s.s0.grave.length false) (.sl (6+4) 0 s.s0.units.length false) (.sl (6+5) 0 s.s0.told.length false) (.sl (6+6) 0 s.s1.deck.length false) (.sl (6+7) 0 s.s1.hand.length false) (.sl (6+8) 0 s.s1.grave.length false) (.sl (6+9) 0 s.s1.units.length false) (.sl (6+10) 0 s.s1.told.length false)) hbox rfl rfl rfl) (Yo _ (Qi hbox (by simp))) (QO ?_ ?_))
 ·simp[Qe,List.range,List.range.loop,ZD,Z3,QA,apart2,disj]
 have hat:s.attack=s.attack.take k++s.attack.drop k:=(List.take_append_drop k s.attack).symm;obtain⟨t1,t2,t3⟩:=Zbt (b:=b) (l:=l) hat hz;have hsw:StLe 1000000000 (turned s (s.attack.take k) (s.attack.drop k)):=⟨by simp; omega,hs.s0,hs.s1⟩;have h48t:=c48 h89 hn b hf hsm (turned s (s.attack.take k) (s.attack.drop k)) hsw l hl;have hlE:((s.attack.drop k).map cel).length+((s.attack.take k).map cel).length=(s.attack.drop k++s.attack.take k).length:=by simp
 rw[hlE];have hA3:=Agr.set τ2 17 (.box (stQ s (.sl 19 0 (s.attack.drop k++s.attack.take k).length false) (.sl (6+1) 0 s.s0.deck.length false) (.sl (6+2) 0 s.s0.hand.length false) (.sl (6+3) 0 s.s0.grave.length false) (.sl (6+4) 0 s.s0.units.length false) (.sl (6+5) 0 s.s0.told.length false) (.sl (6+6) 0 s.s1.deck.length false) (.sl (6+7) 0 s.s1.hand.length false) (.sl (6+8) 0 s.s1.grave.length false) (.sl (6+9) 0 s.s1.units.length false) (.sl (6+10) 0 s.s1.told.length false)));have z0:=hA3.get (hA.get y0 (by simp) (by simp)) (by simp) (by simp);have z2:=hA3.get (hA.get y2 (by simp) (by simp)) (by simp) (by simp);have z5:=hA3.get (hA.get y5 (by simp) (by simp)) (by simp) (by simp);have z19:=hA3.get h19 (by simp) (by simp);have z17:=Qk (.box (stQ s (.sl 19 0 (s.attack.drop k++s.attack.take k).length false) (.sl (6+1) 0 s.s0.deck.length false) (.sl (6+2) 0 s.s0.hand.length false) (.sl (6+3) 0 s.s0.grave.length false) (.sl (6+4) 0 s.s0.units.length false) (.sl (6+5) 0 s.s0.told.length false) (.sl (6+6) 0 s.s1.deck.length false) (.sl (6+7) 0 s.s1.hand.length false) (.sl (6+8) 0 s.s1.grave.length false) (.sl (6+9) 0 s.s1.units.length false) (.sl (6+10) 0 s.s1.told.length false))) (Qi hbox (by simp));have zkey:∀i z,(stB s)[i]?=some z→hget (τ2.set 17 (.box (stQ s (.sl 19 0 (s.attack.drop k++s.attack.take k).length false) (.sl (6+1) 0 s.s0.deck.length false) (.sl (6+2) 0 s.s0.hand.length false) (.sl (6+3) 0 s.s0.grave.length false) (.sl (6+4) 0 s.s0.units.length false) (.sl (6+5) 0 s.s0.told.length false) (.sl (6+6) 0 s.s1.deck.length false) (.sl (6+7) 0 s.s1.hand.length false) (.sl (6+8) 0 s.s1.grave.length false) (.sl (6+9) 0 s.s1.units.length false) (.sl (6+10) 0 s.s1.told.length false)))) (6+i)=z:=λi z hx=>by
  have hi:i<11:=(YLG hx).1;rw[hA3.2 (6+i) (by have:=hA.1; omega) (by simp; omega),hA.2 (6+i) (by omega) (by simp)]; exact hcp.key i z hx
 clear hA hA3 hbox h19 hrow y1a e19 y0 y1 y2 y5;have z17:hget (τ2.set 17 (.box (stQ s (.sl 19 0 (s.attack.drop k++s.attack.take k).length false) (.sl (6+1) 0 s.s0.deck.length false) (.sl (6+2) 0 s.s0.hand.length false) (.sl (6+3) 0 s.s0.grave.length false) (.sl (6+4) 0 s.s0.units.length false) (.sl (6+5) 0 s.s0.told.length false) (.sl (6+6) 0 s.s1.deck.length false) (.sl (6+7) 0 s.s1.hand.length false) (.sl (6+8) 0 s.s1.grave.length false) (.sl (6+9) 0 s.s1.units.length false) (.sl (6+10) 0 s.s1.told.length false)))) 17=_:=z17;show VV.rd (Zc true 2 [.bptr 0 0] (τ2.set 17 _)) _;generalize τ2.set 17 (.box (stQ s (.sl 19 0 (s.attack.drop k++s.attack.take k).length false) (.sl (6+1) 0 s.s0.deck.length false) (.sl (6+2) 0 s.s0.hand.length false) (.sl (6+3) 0 s.s0.grave.length false) (.sl (6+4) 0 s.s0.units.length false) (.sl (6+5) 0 s.s0.told.length false) (.sl (6+6) 0 s.s1.deck.length false) (.sl (6+7) 0 s.s1.hand.length false) (.sl (6+8) 0 s.s1.grave.length false) (.sl (6+9) 0 s.s1.units.length false) (.sl (6+10) 0 s.s1.told.length false)))=τ3 at z0 z2 z5 z19 z17 zkey ⊢;have hsb:=Qcr (n:=6) (s:=s) (x:=s.attack.take k) (y:=s.attack.drop k) (λi z _ hx=>zkey i z hx) z19;refine Ya (ld z0 rfl) (Ya (ld z17 rfl) ?_);refine Yag (rd:=19::(List.range 11).map (6 + ·)) h48t rfl g48_ok.plain (.cons (Bor.ro rfl) <| .cons hsb.agg <| .cons (Bor.ro rfl) .nil) (λc hc=>?_) (Ya rfl (Ya rfl (Ya rfl ?_)))
 ·rcases List.mem_cons.1 hc with rfl|hc
  ·rw[z19]; simp
  ·obtain⟨i,hi,rfl⟩:=List.mem_map.1 hc;have hi:=List.mem_range.1 hi;have hl:i<(stB s).length:=by simpa[stB,sdB] using hi
   rw[zkey i _ (List.getElem?_eq_getElem hl)]
   match i,hi with
   |0,_|1,_|2,_|3,_|4,_|5,_|6,_|7,_|8,_|9,_|10,_=>simp[stB,sdB]
 have hA:=Yao (19::(List.range 11).map (6 + ·)) τ3;have w2:=hA.get z2 (by simp) (by decide);have w5:=hA.get z5 (by simp) (by decide);clear hA hsb z0 z2 z5 z19 z17 zkey h48t;generalize killL τ3 (19::(List.range 11).map (6 + ·))=τ4 at w2 w5 ⊢;generalize fightR b (turned s (s.attack.take k) (s.attack.drop k)) l=r2 at t1 t2 t3 ⊢;refine Zd (stv (row':=stC r2.1) w5 rfl rfl rfl) (Yo _ (Qi w5 (by simp))) ?_;have v5:=Qk (.box (stC r2.1)) (Qi w5 (by simp));have v2:=Xj (c:=5) (x:=.box (stC r2.1)) w2 (by simp) (by decide);rw[t2] at v5 v2 ⊢;refine Ya (Yi ..) ?_;rw[decide_eq_true (t1.trans hz.symm)];refine Yb (Ya (ld v2 rfl) (Yb (Ya (ld v5 rfl) (Yc (Ye (c20s _ (hle.1.mono (by decide))) rfl g20_ok.plain rfl (Ya rfl ?_))))));refine Yb (Ya rfl (Yb (Ya (v:=iv (fightR b s l).2.1.length) (rd:=[]) (by simp[Zf]) (Yb (Ya rfl (Yb (Ya (v:=iv r2.2.1.length) (rd:=[]) (by simp[Zf]) (Yb (Ya (Yi ..) ?_)))))))));rw[decide_eq_true (by rw[t3])];exact Ya rfl (Yc (Ye h44 rfl g44_ok.plain rfl (Ya rfl rfl)))
end Go.Ah.Tz
end
section
namespace Go.Ah.Tz
open Go.Proofs.Tryz (prog)
set_option maxRecDepth 100000
def tb44:GT:=(.node 171 4 g171 (.node 105 4 g105 (.node 66 4 g66 (.node 55 2 g55 (.node 48 3 g48 (.node 44 0 g44 (.node 22 5 g22 .leaf .leaf) (.node 45 3 g45 .leaf .leaf)) (.node 54 3 g54 (.node 50 3 g50 .leaf .leaf) .leaf)) (.node 59 1 g59 (.node 57 1 g57 (.node 56 2 g56 .leaf .leaf) .leaf) (.node 65 1 g65 (.node 64 7 g64 .leaf .leaf) .leaf))) (.node 96 1 g96 (.node 93 0 g93 (.node 75 3 g75 (.node 71 2 g71 .leaf .leaf) (.node 89 1 g89 .leaf .leaf)) (.node 95 1 g95 (.node 94 0 g94 .leaf .leaf) .leaf)) (.node 102 6 g102 (.node 101 7 g101 (.node 100 2 g100 .leaf .leaf) .leaf) (.node 104 2 g104 (.node 103 2 g103 .leaf .leaf) .leaf)))) (.node 143 1 g143 (.node 128 4 g128 (.node 119 2 g119 (.node 112 1 g112 (.node 111 3 g111 .leaf .leaf) (.node 118 2 g118 .leaf .leaf)) (.node 124 1 g124 (.node 120 2 g120 .leaf .leaf) .leaf)) (.node 137 1 g137 (.node 136 0 g136 (.node 129 1 g129 .leaf .leaf) .leaf) (.node 139 2 g139 (.node 138 2 g138 .leaf .leaf) .leaf))) (.node 165 3 g165 (.node 157 3 g157 (.node 155 2 g155 (.node 144 4 g144 .leaf .leaf) (.node 156 2 g156 .leaf .leaf)) (.node 164 3 g164 (.node 163 3 g163 .leaf .leaf) .leaf)) (.node 168 3 g168 (.node 167 3 g167 (.node 166 3 g166 .leaf .leaf) .leaf) (.node 170 4 g170 (.node 169 2 g169 .leaf .leaf) .leaf))))) (.node 223 1 g223 (.node 209 1 g209 (.node 182 1 g182 (.node 179 1 g179 (.node 173 1 g173 (.node 172 1 g172 .leaf .leaf) (.node 176 2 g176 .leaf .leaf)) (.node 181 1 g181 (.node 180 1 g180 .leaf .leaf) .leaf)) (.node 185 2 g185 (.node 184 1 g184 (.node 183 1 g183 .leaf .leaf) .leaf) (.node 208 2 g208 (.node 186 2 g186 .leaf .leaf) .leaf))) (.node 217 1 g217 (.node 213 2 g213 (.node 211 2 g211 (.node 210 1 g210 .leaf .leaf) (.node 212 1 g212 .leaf .leaf)) (.node 216 1 g216 (.node 215 4 g215 .leaf .leaf) .leaf)) (.node 220 1 g220 (.node 219 5 g219 (.node 218 3 g218 .leaf .leaf) .leaf) (.node 222 2 g222 (.node 221 2 g221 .leaf .leaf) .leaf)))) (.node 250 2 g250 (.node 239 2 g239 (.node 236 2 g236 (.node 234 4 g234 (.node 224 2 g224 .leaf .leaf) (.node 235 2 g235 .leaf .leaf)) (.node 238 2 g238 (.node 237 2 g237 .leaf .leaf) .leaf)) (.node 242 1 g242 (.node 241 1 g241 (.node 240 3 g240 .leaf .leaf) .leaf) (.node 244 2 g244 (.node 243 2 g243 .leaf .leaf) .leaf))) (.node 256 1 g256 (.node 253 2 g253 (.node 252 1 g252 (.node 251 1 g251 .leaf .leaf) .leaf) (.node 255 2 g255 (.node 254 1 g254 .leaf .leaf) .leaf)) (.node 259 2 g259 (.node 258 0 g258 (.node 257 1 g257 .leaf .leaf) .leaf) (.node 264 1 g264 (.node 263 0 g263 .leaf .leaf) .leaf))))))
theorem QcU:tb44.Ok prog GL0:=⟨g171_ok,⟨g105_ok,⟨g66_ok,⟨g55_ok,⟨g48_ok,⟨g44_ok,⟨g22_ok,trivial,trivial⟩,⟨g45_ok,trivial,trivial⟩⟩,⟨g54_ok,⟨g50_ok,trivial,trivial⟩,trivial⟩⟩,⟨g59_ok,⟨g57_ok,⟨g56_ok,trivial,trivial⟩,trivial⟩,⟨g65_ok,⟨g64_ok,trivial,trivial⟩,trivial⟩⟩⟩,⟨g96_ok,⟨g93_ok,⟨g75_ok,⟨g71_ok,trivial,trivial⟩,⟨g89_ok,trivial,trivial⟩⟩,⟨g95_ok,⟨g94_ok,trivial,trivial⟩,trivial⟩⟩,⟨g102_ok,⟨g101_ok,⟨g100_ok,trivial,trivial⟩,trivial⟩,⟨g104_ok,⟨g103_ok,trivial,trivial⟩,trivial⟩⟩⟩⟩,⟨g143_ok,⟨g128_ok,⟨g119_ok,⟨g112_ok,⟨g111_ok,trivial,trivial⟩,⟨g118_ok,trivial,trivial⟩⟩,⟨g124_ok,⟨g120_ok,trivial,trivial⟩,trivial⟩⟩,⟨g137_ok,⟨g136_ok,⟨g129_ok,trivial,trivial⟩,trivial⟩,⟨g139_ok,⟨g138_ok,trivial,trivial⟩,trivial⟩⟩⟩,⟨g165_ok,⟨g157_ok,⟨g155_ok,⟨g144_ok,trivial,trivial⟩,⟨g156_ok,trivial,trivial⟩⟩,⟨g164_ok,⟨g163_ok,trivial,trivial⟩,trivial⟩⟩,⟨g168_ok,⟨g167_ok,⟨g166_ok,trivial,trivial⟩,trivial⟩,⟨g170_ok,⟨g169_ok,trivial,trivial⟩,trivial⟩⟩⟩⟩⟩,⟨g223_ok,⟨g209_ok,⟨g182_ok,⟨g179_ok,⟨g173_ok,⟨g172_ok,trivial,trivial⟩,⟨g176_ok,trivial,trivial⟩⟩,⟨g181_ok,⟨g180_ok,trivial,trivial⟩,trivial⟩⟩,⟨g185_ok,⟨g184_ok,⟨g183_ok,trivial,trivial⟩,trivial⟩,⟨g208_ok,⟨g186_ok,trivial,trivial⟩,trivial⟩⟩⟩,⟨g217_ok,⟨g213_ok,⟨g211_ok,⟨g210_ok,trivial,trivial⟩,⟨g212_ok,trivial,trivial⟩⟩,⟨g216_ok,⟨g215_ok,trivial,trivial⟩,trivial⟩⟩,⟨g220_ok,⟨g219_ok,⟨g218_ok,trivial,trivial⟩,trivial⟩,⟨g222_ok,⟨g221_ok,trivial,trivial⟩,trivial⟩⟩⟩⟩,⟨g250_ok,⟨g239_ok,⟨g236_ok,⟨g234_ok,⟨g224_ok,trivial,trivial⟩,⟨g235_ok,trivial,trivial⟩⟩,⟨g238_ok,⟨g237_ok,trivial,trivial⟩,trivial⟩⟩,⟨g242_ok,⟨g241_ok,⟨g240_ok,trivial,trivial⟩,trivial⟩,⟨g244_ok,⟨g243_ok,trivial,trivial⟩,trivial⟩⟩⟩,⟨g256_ok,⟨g253_ok,⟨g252_ok,⟨g251_ok,trivial,trivial⟩,trivial⟩,⟨g255_ok,⟨g254_ok,trivial,trivial⟩,trivial⟩⟩,⟨g259_ok,⟨g258_ok,⟨g257_ok,trivial,trivial⟩,trivial⟩,⟨g264_ok,⟨g263_ok,trivial,trivial⟩,trivial⟩⟩⟩⟩⟩⟩
end Go.Ah.Tz
end
section
namespace Go.Ah.Tz
open Go.Proofs.Tryz (prog)
set_option maxRecDepth 1000000
theorem hT44:∀f np g,tb44.get f=some (np,g)→GQ f np g:=GT.get_ok QcU
def b20V:AVal:=(.agg [(.rsl true false 12 [[(.str [73,109,112]),(.bool true),(.int .i64 1),(.int .i64 2),(.int .i64 3),(.int .i64 1),(.int .i64 0),(.int .i64 0),.nils,.nils,.nils,(.int .i64 0)],[(.str [69,108,102]),(.bool true),(.int .i64 2),(.int .i64 1),(.int .i64 1),(.int .i64 0),(.int .i64 1),(.int .i64 0),.nils,.nils,.nils,(.int .i64 0)],[(.str [66,111,108,116]),(.bool false),(.int .i64 1),(.int .i64 0),(.int .i64 0),(.int .i64 0),(.int .i64 0),(.int .i64 0),(.rsl true false 14 [[(.int .i8 0),(.int .i8 2),(.int .i8 0),(.int .i64 3),(.int .i8 0),.nils,(.str []),(.int .i8 0),(.int .i8 0),(.str []),.nils,.nils,.nils,.nils]]),.nils,.nils,(.int .i64 0)]]),(.rsl true false 7 [[(.str [115,116,100]),(.int .i64 0),(.int .i64 60),(.int .i64 60),.nils,.nils,(.int .i64 0)]])])
def m22V:AVal:=(.agg [(.int .i64 1),(.int .i64 0),(.int .i8 0),(.bool false),(.int .i8 0),.nils,(.int .i64 4),(.int .i64 20),(.int .i64 3),(.int .i64 3),(.rsl true false 1 [[(.int .i64 0)],[(.int .i64 1)],[(.int .i64 2)]]),(.rsl true false 1 [[(.int .i64 2)],[(.int .i64 0)]]),.nils,(.rsl false false 4 [[(.int .i64 1),(.int .i64 0),(.int .i64 0),(.bool false)],[(.int .i64 3),(.int .i64 1),(.int .i64 0),(.bool false)]]),.nils,(.int .i64 20),(.int .i64 3),(.int .i64 3),(.rsl true false 1 [[(.int .i64 0)],[(.int .i64 1)],[(.int .i64 2)]]),(.rsl true false 1 [[(.int .i64 2)],[(.int .i64 0)]]),.nils,(.rsl true false 4 [[(.int .i64 2),(.int .i64 1),(.int .i64 0),(.bool false)]]),.nils])
def s45V:AVal:=(.agg [(.int .i64 1),(.int .i64 0),(.int .i8 1),(.bool true),(.int .i8 0),(.rsl false false 1 [[(.int .i64 1)],[(.int .i64 3)]]),(.int .i64 4),(.int .i64 20),(.int .i64 3),(.int .i64 3),(.rsl false false 1 [[(.int .i64 0)],[(.int .i64 1)],[(.int .i64 2)]]),(.rsl false false 1 [[(.int .i64 2)],[(.int .i64 0)]]),.nils,(.rsl false false 4 [[(.int .i64 1),(.int .i64 0),(.int .i64 0),(.bool true)],[(.int .i64 3),(.int .i64 1),(.int .i64 0),(.bool true)]]),.nils,(.int .i64 20),(.int .i64 3),(.int .i64 3),(.rsl false false 1 [[(.int .i64 0)],[(.int .i64 1)],[(.int .i64 2)]]),(.rsl false false 1 [[(.int .i64 2)],[(.int .i64 0)]]),.nils,(.rsl false false 4 [[(.int .i64 2),(.int .i64 1),(.int .i64 0),(.bool false)]]),.nils])
def s48V:AVal:=(.agg [(.int .i64 1),(.int .i64 0),(.int .i8 0),(.bool true),(.int .i8 0),.nils,(.int .i64 4),(.int .i64 20),(.int .i64 3),(.int .i64 3),(.rsl false false 1 [[(.int .i64 0)],[(.int .i64 1)],[(.int .i64 2)]]),(.rsl false false 1 [[(.int .i64 2)],[(.int .i64 0)]]),.nils,(.rsl false false 4 [[(.int .i64 1),(.int .i64 0),(.int .i64 0),(.bool true)],[(.int .i64 3),(.int .i64 1),(.int .i64 0),(.bool true)]]),.nils,(.int .i64 19),(.int .i64 3),(.int .i64 3),(.rsl false false 1 [[(.int .i64 0)],[(.int .i64 1)],[(.int .i64 2)]]),(.rsl false false 1 [[(.int .i64 2)],[(.int .i64 0)]]),.nils,(.rsl false false 4 [[(.int .i64 2),(.int .i64 1),(.int .i64 3),(.bool false)]]),.nils])
def s00V:AVal:=(.agg [(.int .i64 0),(.int .i64 0),(.int .i8 0),(.bool false),(.int .i8 0),.nils,(.int .i64 0),(.int .i64 0),(.int .i64 0),(.int .i64 0),.nils,.nils,.nils,.nils,.nils,(.int .i64 0),(.int .i64 0),(.int .i64 0),.nils,.nils,.nils,.nils,.nils])
def r13:AVal:=.rsl false false 1 [[.int .i64 1],[.int .i64 3]]
def r2:AVal:=.rsl false false 1 [[.int .i64 2]]
def r12:AVal:=.rsl false false 2 [[.int .i64 1,.int .i64 2]]
theorem p93:PC 93 [] b20V:=QaC hP hT44 (much:=1000000000) 60 (by kernel_rfl)
theorem p94:PC 94 [] m22V:=QaC hP hT44 (much:=1000000000) 60 (by kernel_rfl)
theorem p143:PC 143 [b20V] (.agg [.int .i64 0,.int .i64 0]):=QaC hP hT44 (much:=1000000000) 60 (by kernel_rfl)
def kn44:Known:=[(143,[b20V],.agg [.int .i64 0,.int .i64 0])]
theorem Qa4:KnOk prog GL0 kn44:=⟨⟨⟨g143_ok.plain,rfl,rfl⟩,p143⟩,trivial⟩
theorem p45a:PC 45 [b20V,m22V,r13] (.tup [s45V,(.rsl false false 7 [[(.int .i8 11),(.int .i64 0),(.int .i64 0),(.int .i64 1),(.int .i64 0),(.int .i64 0),.nils],[(.int .i8 11),(.int .i64 0),(.int .i64 0),(.int .i64 3),(.int .i64 0),(.int .i64 0),.nils]]),(.int .i64 0)]):=ZaD hP hT44 (much:=1000000000) Qa4 60 (by kernel_rfl)
theorem p45b:PC 45 [b20V,m22V,r2] (.tup [s00V,.nils,(.int .i64 2)]):=ZaD hP hT44 (much:=1000000000) Qa4 60 (by kernel_rfl)
theorem p48:PC 48 [b20V,s45V,r12] (.tup [s48V,(.rsl false false 7 [[(.int .i8 12),(.int .i64 0),(.int .i64 0),(.int .i64 1),(.int .i64 2),(.int .i64 0),.nils],[(.int .i8 5),(.int .i64 1),(.int .i64 0),(.int .i64 2),(.int .i64 0),(.int .i64 3),.nils],[(.int .i8 5),(.int .i64 0),(.int .i64 0),(.int .i64 1),(.int .i64 0),(.int .i64 0),.nils],[(.int .i8 5),(.int .i64 1),(.int .i64 0),(.int .i64 0),(.int .i64 0),(.int .i64 1),.nils]]),(.int .i64 0)]):=ZaD hP hT44 (much:=1000000000) Qa4 60 (by kernel_rfl)
theorem p50:PC 50 [b20V,s45V,.nils] (.tup [(.int .i64 4),(.int .i64 0)]):=ZaD hP hT44 (much:=1000000000) Qa4 60 (by kernel_rfl)
attribute [local irreducible] Ans.rd Ans.pu Ans.wr Ans.dr Ans.gr Ans.gw Ans.gl Ans.gd Ans.opt joinK W
set_option maxHeartbeats 8000000
theorem p44:PC 44 [] (.bool true):=by
 refine Ze hP g44_ok rfl rfl ?_;unfold g44;refine Ye p93 rfl g93_ok.plain rfl (Ye p94 rfl g94_ok.plain rfl (Zd rfl rfl ?_));refine YaU (pre:=[b20V,m22V]) p45a rfl g45_ok.plain rfl rfl rfl (by simp) (Ya rfl (Ya rfl (Ya rfl (Zd rfl rfl (Zd rfl rfl ?_)))));refine Qp p93 rfl g93_ok.plain rfl (Qj (v:=s45V) rfl rfl (Yk rfl (Qj rfl rfl ?_)));refine Zbp (pre:=[b20V,s45V]) p48 rfl g48_ok.plain rfl rfl rfl (by simp) (Yk rfl (Yk rfl (Yk rfl (Qj rfl rfl (Qj rfl rfl (QO (by kernel_rfl) ?_))))));refine Qp p93 rfl g93_ok.plain rfl (Qj (v:=s45V) rfl rfl (Qp p50 rfl g50_ok.plain rfl (Yk rfl (Yk rfl (QO (by kernel_rfl) ?_)))));refine Ye p93 rfl g93_ok.plain rfl (Ye p94 rfl g94_ok.plain rfl (Zd rfl rfl ?_));refine YaU (pre:=[b20V,m22V]) p45b rfl g45_ok.plain rfl rfl rfl (by simp) (Ya rfl (Ya rfl (Ya rfl (Zd rfl rfl (Zd rfl rfl ?_)))));repeat first|refine Yb (Ya rfl ?_)|refine Ya rfl ?_
 rfl
end Go.Ah.Tz
end
section
namespace Go.Proofs.YtflcpnaigpgciaaGreatDoor
open Go.ChangeShapes Go.WideShapes Go.ChangeAt Go.RowKit Go.Ah Go.Ah.Tz
set_option maxRecDepth 100000
theorem ZbN:Rows.fightAtOnceUptoRow.laid=[("unicode.White_Space",Rows.laid_unicode_White_Space),("strings.asciiSpace",Lib.tabData .u8 spaces)]:=by kernel_rfl
theorem YaS(H:Type)(enc:TypeId×Value→H)(W:World)(base:Nat)(args:Array Value)(ds gs:List (DataW H))(before:List MemPlace)
 (hval:∀(j:Nat) t v,Tryz.f12.params[j]?=some t→args[j]?=some v→Value.okWide Tryz.prog W .any base t v)
 (hW:DataW.Whole enc Tryz.prog Tryz.f12.params.toList Rows.fightAtOnceSpec.vars false W args.toList ds gs before)(hk:Rows.uptoSmall H (ds++gs)=true)(hL:laidMetH Tryz.prog Rows.fightAtOnceUptoRow.laid W) :
  Calls Tryz.prog 12 args W λe W'=>∃v,e=.returned v∧Rows.fightAtOnceSpec.post enc Tryz.prog Tryz.f12 false true false false W args v W':=by
 have hW':=hW;have hlt:=hW.lt;obtain⟨p,q,hA0,hV,rfl,hfz,hnd⟩:=hW;have hA:DataW.TrodAll enc Tryz.prog W 0 (λ_=>true) true Tryz.f12.params.toList args.toList ds p:=hA0;rw[Tryz.params12] at hA hval;obtain⟨v0,vs,d0,ds,p0,p,hargs,rfl,rfl,h0,r⟩:=trodAll_cons hA;obtain⟨v1,vs,d1,ds,p1,p,rfl,rfl,rfl,h1,r⟩:=trodAll_cons r;obtain⟨v2,vs,d2,ds,p2,p,rfl,rfl,rfl,h2,r⟩:=trodAll_cons r;obtain⟨v3,vs,d3,ds,p3,p,rfl,rfl,rfl,h3,r⟩:=trodAll_cons r;obtain⟨v4,vs,d4,ds,p4,p,rfl,rfl,rfl,h4,r⟩:=trodAll_cons r;obtain⟨rfl,rfl,rfl⟩:=trodAll_nil r;obtain rfl:args = #[v0,v1,v2,v3,v4]:=by cases args; simp_all
 obtain⟨rfl,rfl⟩:=trodVars_none hV;have hbk:Rows.uptoBulkAll [d0,d1,d2,d3,d4]≤1048576:=of_decide_eq_true hk;simp only[Rows.uptoBulkAll] at hbk;obtain⟨b,hf,hsm,e0⟩:=XcZ (hval 0 _ v0 rfl rfl) h0 (by omega);obtain⟨s,hs,e1⟩:=YcN (hval 1 _ v1 rfl rfl) h1 (by omega);obtain⟨a2,l2,e2⟩:=d_prs (hval 2 _ v2 rfl rfl) h2 (by omega);obtain⟨n3,e3⟩:=QcZ (hval 3 _ v3 rfl rfl) h3;obtain⟨n4,e4⟩:=QcZ (hval 4 _ v4 rfl rfl) h4;have hg:=ZcN ZbN (show laidMet Tryz.prog Rows.fightAtOnceUptoRow.laid W from hL);refine(c12 sort89 sortn89 p44 b hf hsm s hs a2 l2 n3 n4 W (λk=>W.heap[k]?) [v0,v1,v2,v3,v4] (λ_ _ h=>h) hg ⟨e0,e1,e2,e3,e4,trivial⟩).mono ?_;rintro e W' ⟨u,rfl,hkeep,M',_,_,_,hd⟩;cases hd;have hb:=hkeep.below;refine⟨_,rfl,Qa5 (pa:=p0++(p1++(p2++(p3++(p4++[]))))) (pv:=[]) hW' (λ_ _ _=>trodAll_cons_mk (shut_bool Zbo _) trodAll_mk0) (λsp hsp=>?_) (λ_ _=>rfl) rfl hb (ok_one (by kernel_rfl) rfl (okWide_bool_mk Zbo _))⟩;rw[Tryz.params12];refine trodAll_cons_mk (ZaJ r_bk.1 r_bk.2 h0 hb hlt (λp hp=>by simp[hp]) hsp) <| trodAll_cons_mk (ZaJ r_st.1 r_st.2 h1 hb hlt (λp hp=>by simp[hp]) hsp) <| trodAll_cons_mk (ZaJ Xc5.1 Xc5.2 h2 hb hlt (λp hp=>by simp[hp]) hsp) <| trodAll_cons_mk (ZaJ YcC.1 YcC.2 h3 hb hlt (λp hp=>by simp[hp]) hsp) <| trodAll_cons_mk (ZaJ YcC.1 YcC.2 h4 hb hlt (λp hp=>by simp[hp]) hsp) trodAll_mk0
def Qaa:Array Value:=#[.agg #[.slice none 0 0,.slice none 0 0],.agg #[.int .i64 0,.int .i64 0,.int .i8 0,.bool false,.int .i8 0,.slice none 0 0,.int .i64 0,.int .i64 0,.int .i64 0,.int .i64 0,.slice none 0 0,.slice none 0 0,.slice none 0 0,.slice none 0 0,.slice none 0 0,.int .i64 0,.int .i64 0,.int .i64 0,.slice none 0 0,.slice none 0 0,.slice none 0 0,.slice none 0 0,.slice none 0 0],.slice none 0 0,.int .i64 0,.int .i64 0]
theorem Zcc(os:Os):laidMet Tryz.prog Rows.fightAtOnceUptoRow.laid ((Qbr os).forCall (λ_ _=>0) ⟨#[],Qaa,[]⟩).memory:=
 laidMet_of_run' 8 (by kernel_rfl) (by kernel_rfl)
theorem Zbu(os:Os){H:Type}(enc:TypeId×Value→H):∃places,DataW.whole enc Tryz.prog ((Qbr os).forCall (λ_ _=>0) ⟨#[],Qaa,[]⟩).memory Tryz.f12.params.toList Rows.fightAtOnceSpec.vars false Qaa.toList 8 =
  some ([.agg [.nil,.nil],.agg [.lit (.int .i64 0),.lit (.int .i64 0),.lit (.int .i8 0),.lit (.bool false),.lit (.int .i8 0),.nil,.lit (.int .i64 0),.agg [.agg [.lit (.int .i64 0),.lit (.int .i64 0),.lit (.int .i64 0),.nil,.nil,.nil,.nil,.nil],.agg [.lit (.int .i64 0),.lit (.int .i64 0),.lit (.int .i64 0),.nil,.nil,.nil,.nil,.nil]]],.nil,.lit (.int .i64 0),.lit (.int .i64 0)],[],places):=⟨[],by kernel_rfl⟩
theorem Ybd(os:Os)(started:os.Started)(H:Type)(enc:TypeId×Value→H)(F:Stop.Interp) :
  ReturnsInHanded {} Tryz.checked os 12 .any ((Rows.OpenSpec.upto Rows.fightAtOnceSpec).preRow enc Tryz.prog Tryz.f12 Rows.fightAtOnceUptoRow.domain false Rows.fightAtOnceUptoRow.laid) (((Rows.OpenSpec.upto Rows.fightAtOnceSpec).at F).post enc Tryz.prog Tryz.f12 false true false false):=by
 obtain⟨places,hx⟩:=Zbu os enc;refine returnsInHanded_of_row (C:=Tryz.checked) (s:=Rows.OpenSpec.upto Rows.fightAtOnceSpec) d_own started (by kernel_rfl) Tryz.func12
  (witness_row_atRef (enc:=enc) (C:=Tryz.checked) false (Qbr os) Qaa rfl (by kernel_rfl) (by kernel_rfl) (by kernel_rfl)
   (OpenSpec.preRow_of_cond 8 hx (by kernel_rfl) (λk hk=>by cases hk; kernel_rfl) (by kernel_rfl) (Zcc os))) ?_
 intro W base args ds gs before hval hW _ hcond _ hL _ _;exact YaS H enc W base args ds gs before hval hW (hcond _ rfl) hL
theorem Xcx:Tryz.prog.funcNamed Rows.fightAtOnceUptoRow.func=some 12:=by kernel_rfl
theorem Qcx:(Rows.fightAtOnceUptoRow.wf (OpenSpec.ofChange (Rows.OpenSpec.upto Rows.fightAtOnceSpec).bare))=true:=by kernel_rfl
theorem Zcy:(laidOutB Tryz.prog)=true:=by kernel_rfl
theorem Ycy:(mapsRowed Tryz.prog)=true:=by kernel_rfl
theorem Xcy:(Tryz.f12.params.all (Tryz.prog.readableRec ·))=true:=by kernel_rfl
theorem Qcy:(namedTie Tryz.prog Rows.fightAtOnceUptoRow.named (Rows.OpenSpec.upto Rows.fightAtOnceSpec).bare.vars)=true:=by kernel_rfl
theorem Zcz:(Rows.fightAtOnceUptoRow.stops==[])=true:=by kernel_rfl
theorem Ycz:(Tryz.prog.stops==[])=true:=by kernel_rfl
theorem Xcz:(Rows.fightAtOnceUptoRow.knobs==[])=true:=by kernel_rfl
theorem Qcz:(Tryz.prog.stopKnobs==[])=true:=by kernel_rfl
theorem Yb6:(Rows.fightAtOnceUptoRow.inPlace==Tryz.prog.inPlace 12)=true:=by kernel_rfl
theorem Xb6:(Rows.fightAtOnceUptoRow.unfollowed==Tryz.prog.unfollowed 12)=true:=by kernel_rfl
theorem Qb6:(Rows.fightAtOnceUptoRow.recurses==Tryz.prog.recurses 12)=true:=by kernel_rfl
theorem Zb7:(Rows.fightAtOnceUptoRow.named==Tryz.prog.varsNamed 12)=true:=by kernel_rfl
theorem Yb7:(Rows.fightAtOnceUptoRow.maps==(Tryz.f12.params.toList++(Rows.OpenSpec.upto Rows.fightAtOnceSpec).bare.plain.varTypes Tryz.prog).any (Tryz.prog.mapsRec ·))=true:=by kernel_rfl
theorem Xb7:(Rows.fightAtOnceUptoRow.ifaces==(Tryz.f12.params.toList++(Rows.OpenSpec.upto Rows.fightAtOnceSpec).bare.plain.varTypes Tryz.prog).any (Tryz.prog.ifacesRec ·))=true:=by kernel_rfl
theorem Qb7:(Rows.fightAtOnceUptoRow.mapsOut==Tryz.prog.mapsAmong Tryz.f12.resultTypes.toList)=true:=by kernel_rfl
theorem Zb8:(Rows.fightAtOnceUptoRow.loops==(Tryz.f12.params.toList++(Rows.OpenSpec.upto Rows.fightAtOnceSpec).bare.plain.varTypes Tryz.prog).any (Tryz.prog.loopsFrom ·))=true:=by kernel_rfl
theorem Yb8:(Rows.fightAtOnceUptoRow.wideKeys==(Tryz.f12.params.toList++(Rows.OpenSpec.upto Rows.fightAtOnceSpec).bare.plain.varTypes Tryz.prog++Tryz.f12.resultTypes.toList).any (Tryz.prog.wideKeysFrom ·))=true:=by kernel_rfl
theorem Xb8:((Rows.OpenSpec.upto Rows.fightAtOnceSpec).bare.vars.all (Tryz.prog.varReadable ·))=true:=by kernel_rfl
theorem Qb8:(Tryz.f12.resultTypes.all (λt=>Tryz.prog.readableRec t&&decide (t<Tryz.prog.types.size)))=true:=by kernel_rfl
theorem Zb9:(Rows.fightAtOnceUptoRow.ifacesOut==Tryz.f12.resultTypes.toList.any (Tryz.prog.ifacesRec ·))=true:=by kernel_rfl
theorem Yb9:(Rows.fightAtOnceUptoRow.loopsOut==Tryz.f12.resultTypes.toList.any (Tryz.prog.loopsFrom ·))=true:=by kernel_rfl
theorem Xb9:(Rows.fightAtOnceUptoRow.plainKeys==Tryz.prog.plainKeys)=true:=by kernel_rfl
theorem Qb9:(Rows.fightAtOnceUptoRow.shortTexts.isNone)=true:=by kernel_rfl
theorem Zca:(Tryz.prog.stopsHeard)=true:=by kernel_rfl
theorem Yca:(Tryz.prog.mayEnter)=true:=by kernel_rfl
theorem Xca:(Rows.fightAtOnceUptoRow.lifted==Tryz.prog.liftsFinal)=true:=by kernel_rfl
theorem Qca:(Tryz.prog.make==some Rows.fightAtOnceUptoRow.make)=true:=by kernel_rfl
theorem Zcb:(Rows.fightAtOnceUptoRow.kinds==(if Rows.fightAtOnceUptoRow.domain.isEmpty then [] else Tryz.f12.params.toList.map λt=>match Tryz.prog.underlying t with|some (.int k)=>some k|_=>none))=true:=by kernel_rfl
theorem Ycb:(Rows.fightAtOnceUptoRow.pinned==Rows.fightAtOnceUptoRow.pinnedBy)=true:=by kernel_rfl
theorem Xcb:(Rows.fightAtOnceUptoRow.veiled==(Tryz.f12.params.toList++(Rows.OpenSpec.upto Rows.fightAtOnceSpec).bare.plain.varTypes Tryz.prog++Tryz.f12.resultTypes.toList).any (Tryz.prog.veiledRec ·))=true:=by kernel_rfl
theorem Qcb:(Rows.fightAtOnceUptoRow.veiledFits Tryz.prog Tryz.f12.params.toList (Tryz.f12.params.toList++(Rows.OpenSpec.upto Rows.fightAtOnceSpec).bare.plain.varTypes Tryz.prog++Tryz.f12.resultTypes.toList))=true:=by kernel_rfl
theorem Zbd:joinedFacts Tryz.prog 12 Tryz.f12 (Rows.OpenSpec.upto Rows.fightAtOnceSpec).bare Rows.fightAtOnceUptoRow=true:=(Ql (Ql (Ql (Ql (Ql (Ql (Ql (Ql (Ql (Ql (Ql (Ql (Ql (Ql (Ql (Ql (Ql (Ql (Ql (Ql (Ql (Ql (Ql (Ql (Ql (Ql (Ql (Ql (Ql (Ql (Ql Qcx Zcy) Ycy) Xcy) Qcy) Zcz) Ycz) Xcz) Qcz) Yb6) Xb6) Qb6) Zb7) Yb7) Xb7) Qb7) Zb8) Yb8) Xb8) Qb8) Zb9) Yb9) Xb9) Qb9) Zca) Yca) Xca) Qca) Zcb) Ycb) Xcb) Qcb)
theorem YbN:Rows.FightAtOnceUptoSaid:=
 OpenClaim.holds_of_cond 12 Tryz.f12 rfl rfl rfl rfl rfl rfl rfl ⟨rfl,rfl,rfl,rfl,rfl⟩ rfl rfl rfl rfl rfl Xcx Tryz.func12 Zbd
  (of_decide_eq_true (by kernel_rfl)) (by unfold Func.isWrapper; first|(rw[if_pos (by decide +kernel)]; kernel_rfl)|(rw[if_neg (by decide +kernel)]; exact⟨rfl,rfl⟩))
  (λos started H enc _ F=>by rw[OpenClaim.pre_eq_preRow]; exact Ybd os started H enc F)
theorem Qbt(f:FuncId)(fn:Func)(hf:Tryz.pinned.checked.prog.funcNamed "baize/baizelaw22.FightAtOnce" = some f)(hfn:Tryz.pinned.checked.prog.funcs[f]?=some fn) :
  true=Tryz.pinned.checked.prog.looks []∧∀(j:Nat) t,fn.params[j]?=some t→Tryz.pinned.checked.prog.wantsStandIn t=false:=by
 obtain rfl:f=12:=Option.some.inj ((show Tryz.prog.funcNamed "baize/baizelaw22.FightAtOnce" = some 12 by kernel_rfl).symm.trans hf) |>.symm;obtain rfl:fn=Tryz.f12:=(Option.some.inj (Tryz.func12.symm.trans hfn)).symm;refine⟨by kernel_rfl,λj t ht=>?_⟩;rw[Tryz.params12] at ht;have hm:t∈[Xcq,Zcr,YaR,Qz,Qz]:=by simpa using Array.mem_of_getElem? ht
 have hall:([Xcq,Zcr,YaR,Qz,Qz].all λu=>!Tryz.prog.wantsStandIn u)=true:=by kernel_rfl
 exact(show Tryz.prog.wantsStandIn t=false by simpa using List.all_eq_true.1 hall t hm)
theorem fightAtOnce_upto_card:Rows.FightAtOnceUptoCardSaid:=
 Claim7.holds_tied_plain_at .later [] _ _ _ _ YbN (λ_ h=>by cases h) (by kernel_rfl) (λ_ h=>by cases h) fightAtOnceUpto_row_tie rfl ⟨rfl,rfl⟩ (by kernel_rfl) rfl Qbt (by kernel_rfl)
#print axioms fightAtOnce_upto_card
end Go.Proofs.YtflcpnaigpgciaaGreatDoor
end
