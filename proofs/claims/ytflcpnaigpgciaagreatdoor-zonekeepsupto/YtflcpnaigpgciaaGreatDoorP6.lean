/- Part of the proof that ZoneKeeps holds of the program for arguments that together hold at most 1048576 values and letters; no other condition. -/
import Derived.Test.YtflcpnaigpgciaaGreatDoorP5
import Derived.Test.YtflcpnaigpgciaaGreatDoorRows
import Derived.Test.YtflcpnaigpgciaaGreatDoorCards
import Derived.Test.YtflcpnaigpgciaaGreatDoorTie
import Derived.ProofKit
import Derived.OpenShut
import Derived.Carry
import Derived.SevenTiedAt
import Derived.JoinedCond
import Derived.LaidMore
import Derived.SizedLaws
import Derived.Stop.LaidErr
import Derived.Deep.DeepHandedRow
import Derived.Deep.DeepWitnessRowRef
import Derived.Lib.LaidTab
set_option linter.all false
section
namespace Go.Ah.Tz
open Go.Proofs.Tryz (prog)
open Go.Proofs.YtflcpnaigpgciaaGreatDoor.Rows (uptoBulk uptoBulkAll)
variable {H:Type}
theorem XO(b:List UInt8):uptoBulk (DataW.lit (H:=H) (.string b))=b.length+1:=by simp only[uptoBulk]
theorem YL(ds:List (DataW H)):uptoBulk (.agg ds)=uptoBulkAll ds+1:=by simp only[uptoBulk]
theorem YcB(es sp:List (DataW H)):uptoBulk (.slice es sp)=uptoBulkAll es+uptoBulkAll sp+1:=by simp only[uptoBulk]
theorem Yz(d:DataW H)(ds:List (DataW H)):uptoBulkAll (d::ds)=uptoBulk d+uptoBulkAll ds:=by simp only[uptoBulkAll]
theorem Xcl(d:DataW H):1≤uptoBulk d:=by
 cases d with
 |lit l=>cases l<;>simp[uptoBulk]
 |_=>simp[uptoBulk]
def Xu(P:Program)(t:TypeId):Option (List TypeId):=match P.underlying t with
 |some (.struct fs)=>some (fs.toList.map (·.type))
 |_=>none
theorem QI{P:Program}{fuel:Nat}{t:TypeId}{xs:List AVal}{d:DataW H}{ts:List TypeId}(h:Typed P fuel t xs d)(hs:Xu P t=some ts):∃f parts ds,fuel=f+1∧xs=parts.flatten∧d=.agg ds∧Tri (Typed P f) ts parts ds:=by
 cases fuel with
 |zero=>exact h.elim
 |succ f=>
  unfold Typed at h;unfold Xu at hs;split at hs
  ·rename_i fs e;rw[e] at h;cases hs;obtain⟨parts,ds,h1,h2,h3⟩:=h;exact⟨f,parts,ds,rfl,h1,h2,h3⟩
  ·cases hs
theorem Yw{P:Program}{fuel:Nat}{t:TypeId}{xs:List AVal}{d:DataW H}{k:IntKind}(h:Typed P fuel t xs d)(hu:P.underlying t=some (.int k)):∃n,xs=[.int k n]∧(Lit.int k n).wf=true∧d=.lit (.int k n):=by
 cases fuel with
 |zero=>exact h.elim
 |succ f=>unfold Typed at h; rw[hu] at h; exact h
theorem Ybt{P:Program}{fuel:Nat}{t:TypeId}{xs:List AVal}{d:DataW H}(h:Typed P fuel t xs d)(hu:P.underlying t=some .bool):∃b,xs=[.bool b]∧d=.lit (.bool b):=by
 cases fuel with
 |zero=>exact h.elim
 |succ f=>unfold Typed at h; rw[hu] at h; exact h
theorem Qbj{P:Program}{fuel:Nat}{t:TypeId}{xs:List AVal}{d:DataW H}(h:Typed P fuel t xs d)(hu:P.underlying t=some .string):∃s,xs=[.str s]∧d=.lit (.string s):=by
 cases fuel with
 |zero=>exact h.elim
 |succ f=>unfold Typed at h; rw[hu] at h; exact h
theorem Xci{P:Program}{fuel:Nat}{e:TypeId}{X:Type}(toC:X→List AVal)(m:X→Nat)(Q:X→Prop){B:Nat}(hx:∀xs (d:DataW H),Typed P fuel e xs d→uptoBulk d≤B→∃x,xs=toC x∧Q x∧m x≤uptoBulk d) :
  ∀ {rows:List (List AVal)} {es:List (DataW H)},Two (Typed P fuel e) rows es→uptoBulkAll es≤B→∃l:List X,rows=l.map toC∧(∀x∈l,Q x)∧(l.map m).sum≤uptoBulkAll es∧l.length≤uptoBulkAll es
 |[],[],_,_=>⟨[],rfl,by simp,by simp,by simp⟩
 |r::rows,d::es,h,hb=>by
  rw[Yz] at hb;obtain⟨x,e1,q1,m1⟩:=hx r d h.1 (by omega);obtain⟨l,e2,q2,s2,l2⟩:=Xci toC m Q hx h.2 (by omega);refine⟨x::l,by rw[e1,e2]; rfl,λy hy=>?_,?_,?_⟩
  ·rcases List.mem_cons.1 hy with rfl|hy
   ·exact q1
   ·exact q2 y hy
  ·rw[List.map_cons,List.sum_cons,Yz]; omega
  ·have:=Xcl d;rw[List.length_cons,Yz]; omega
 |[],_::_,h,_=>h.elim
 |_::_,[],h,_=>h.elim
theorem XG{P:Program}{fuel:Nat}{t e:TypeId}{n:Nat}{xs:List AVal}{d:DataW H}{X:Type}(toC:X→List AVal)(m:X→Nat)(Q:X→Prop){B:Nat}(h:Typed P fuel t xs d)(hu:P.underlying t=some (.slice e))(hn:P.cellsOf e=n)
 (hx:∀f,f<fuel→∀xs (d:DataW H),Typed P f e xs d→uptoBulk d≤B→∃x,xs=toC x∧Q x∧m x≤uptoBulk d)(hb:uptoBulk d≤B) :
  ∃l:List X,xs=[.rsl false false n (l.map toC)]∧(∀x∈l,Q x)∧(l.map m).sum≤uptoBulk d∧l.length≤uptoBulk d:=by
 cases fuel with
 |zero=>exact h.elim
 |succ f=>
  unfold Typed at h;rw[hu] at h;subst hn;obtain⟨rows,rfl,⟨rfl,rfl⟩|⟨es,sp,rfl,h2⟩⟩:=h
  ·exact⟨[],rfl,by simp,by simp,by simp⟩
  ·rw[YcB] at hb ⊢;obtain⟨l,rfl,q,s,k⟩:=Xci toC m Q (hx f (by omega)) h2 (by omega);exact⟨l,rfl,q,by omega,by omega⟩
theorem XcI{P:Program}{fuel:Nat}{t e:TypeId}{xs:List AVal}{d:DataW H}(h:Typed P fuel t xs d)(hu:P.underlying t=some (.array 2 e)):∃f p q a b,fuel=f+1∧xs=p++q∧d=.agg [a,b]∧Typed P f e p a∧Typed P f e q b:=by
 cases fuel with
 |zero=>exact h.elim
 |succ f=>
  unfold Typed at h;rw[hu] at h;obtain⟨parts,ds,rfl,rfl,hl,h2⟩:=h
  match parts,hl,h2 with
  |[p,q],_,h2=>
   obtain⟨a,ds,rfl,ha,h2⟩:=h2.cons;obtain⟨b,ds,rfl,hb,h2⟩:=h2.cons
   match ds,h2 with
   |[],_=>exact⟨f,p,q,a,b,rfl,by simp,rfl,ha,hb⟩
theorem wf8{n:Int}(h:(Lit.int .i8 n).wf=true):i8B n=true:=by
 have h1:IntKind.i8.min = -128:=by decide
 have h2:IntKind.i8.max=127:=by decide
 simp only[Lit.wf,h1,h2] at h;exact h
theorem wf64{n:Int}(h:(Lit.int .i64 n).wf=true):i64B n=true:=by
 have h1:IntKind.i64.min = -9223372036854775808:=by decide
 have h2:IntKind.i64.max=9223372036854775807:=by decide
 simp only[Lit.wf,h1,h2] at h;exact h
theorem Ybe{l:List Nm}(h:∀x∈l,nmFit x=true):XaK l=true:=by
 induction l with
 |nil=>rfl
 |cons x l ih=>simp only[XaK,Bool.and_eq_true]; exact⟨h x (List.mem_cons_self ..),ih λy hy=>h y (List.mem_cons_of_mem _ hy)⟩
theorem ZbT{l:List Cn}(h:∀x∈l,cnFit x=true):YaR l=true:=by
 induction l with
 |nil=>rfl
 |cons x l ih=>simp only[YaR,Bool.and_eq_true]; exact⟨h x (List.mem_cons_self ..),ih λy hy=>h y (List.mem_cons_of_mem _ hy)⟩
theorem QaG{l:List Ef}(h:∀x∈l,efFit x=true):Yat l=true:=by
 induction l with
 |nil=>rfl
 |cons x l ih=>simp only[Yat,Bool.and_eq_true]; exact⟨h x (List.mem_cons_self ..),ih λy hy=>h y (List.mem_cons_of_mem _ hy)⟩
theorem Qa2:∀l:List Nm,(nmPs l).length=(l.map λx=>(nmP x).length).sum
 |[]=>rfl
 |x::l=>by simp only[nmPs,List.length_append,List.map_cons,List.sum_cons,Qa2 l]
theorem Xbv:∀l:List Cn,(cnPs l).length=(l.map λx=>(cnP x).length).sum
 |[]=>rfl
 |x::l=>by simp only[cnPs,List.length_append,List.map_cons,List.sum_cons,Xbv l]
theorem YaB:∀l:List Ef,(efPs l).length=(l.map λx=>(efP x).length).sum
 |[]=>rfl
 |x::l=>by simp only[efPs,List.length_append,List.map_cons,List.sum_cons,YaB l]
theorem bigLe{n k:Nat}(h:n≤k)(hk:k≤1048576):decide (n≤big)=true:=decide_eq_true (Nat.le_trans h (Nat.le_trans hk (by decide)))
abbrev Qcj:TypeId:=26
abbrev QA:TypeId:=3
abbrev Xbi:TypeId:=4
abbrev Xa5:TypeId:=9
abbrev ZcK:TypeId:=64
abbrev Qcv:TypeId:=62
abbrev QcJ:TypeId:=137
abbrev YcH:TypeId:=135
abbrev XcR:TypeId:=192
abbrev Qbi:TypeId:=80
abbrev YcR:TypeId:=82
abbrev ZcH:TypeId:=22
abbrev QcR:TypeId:=96
abbrev XcH:TypeId:=23
abbrev Zcw:TypeId:=94
abbrev Xch:TypeId:=25
abbrev YcS:TypeId:=51
abbrev ZcI:TypeId:=28
abbrev Yax:TypeId:=27
abbrev XcV:TypeId:=30
abbrev QcH:TypeId:=31
abbrev Qch:TypeId:=33
theorem XcA:prog.underlying Qcj=some (.int .i8):=by kernel_rfl
theorem XT:prog.underlying QA=some (.int .i64):=by kernel_rfl
theorem Zbk:prog.underlying Xbi=some .bool:=by kernel_rfl
theorem Qci:prog.underlying Xa5=some .string:=by kernel_rfl
theorem ZcU:prog.underlying Qcv=some (.slice ZcK):=by kernel_rfl
theorem u_cns:prog.underlying YcH=some (.slice QcJ):=by kernel_rfl
theorem QcI:prog.underlying Qbi=some (.slice XcR):=by kernel_rfl
theorem u_cds:prog.underlying ZcH=some (.slice YcR):=by kernel_rfl
theorem u_fos:prog.underlying XcH=some (.slice QcR):=by kernel_rfl
theorem YcU:prog.underlying Zcw=some (.slice Xa5):=by kernel_rfl
theorem u_ths:prog.underlying ZcI=some (.slice YcS):=by kernel_rfl
theorem QcT:prog.underlying Yax=some (.slice QA):=by kernel_rfl
theorem u_sds:prog.underlying QcH=some (.array 2 XcV):=by kernel_rfl
theorem n_nm:prog.cellsOf ZcK=4:=by kernel_rfl
theorem n_cn:prog.cellsOf QcJ=5:=by kernel_rfl
theorem n_ef:prog.cellsOf XcR=14:=by kernel_rfl
theorem n_cd:prog.cellsOf YcR=12:=by kernel_rfl
theorem n_fo:prog.cellsOf QcR=7:=by kernel_rfl
theorem YcQ:prog.cellsOf Xa5=1:=by kernel_rfl
theorem n_th:prog.cellsOf YcS=4:=by kernel_rfl
theorem n_int:prog.cellsOf QA=1:=by kernel_rfl
theorem s_nm:Xu prog ZcK=some [Qcj,QA,Qcj,Qcv]:=by kernel_rfl
theorem s_cn:Xu prog QcJ=some [Qcj,Qcj,Xa5,Qcv,YcH]:=by kernel_rfl
theorem s_ef:Xu prog XcR=some [Qcj,Qcj,ZcK,Xa5,QcJ,Qbi,Qbi]:=by kernel_rfl
theorem s_cd:Xu prog YcR=some [Xa5,Xbi,QA,QA,QA,QA,QA,QA,Qbi,Qbi,Qbi,QA]:=by kernel_rfl
theorem s_fo:Xu prog QcR=some [Xa5,QA,QA,QA,Zcw,Zcw,QA]:=by kernel_rfl
theorem s_bk:Xu prog Xch=some [ZcH,XcH]:=by kernel_rfl
theorem s_th:Xu prog YcS=some [QA,QA,QA,Xbi]:=by kernel_rfl
theorem s_sd:Xu prog XcV=some [QA,QA,QA,Yax,Yax,Yax,ZcI,Yax]:=by kernel_rfl
theorem s_st:Xu prog Qch=some [QA,QA,Qcj,Xbi,Qcj,Yax,QA,QcH]:=by kernel_rfl
theorem ZcT(fuel:Nat):∀xs (d:DataW H),Typed prog fuel ZcK xs d→uptoBulk d≤1048576→∃x,xs=nmC x∧nmFit x=true∧(nmP x).length≤uptoBulk d:=by
 induction fuel using Nat.strongRecOn with
 |_ fuel ih=>
 intro xs d h hb;obtain⟨f,parts,ds,rfl,rfl,rfl,r⟩:=QI h s_nm;obtain⟨p0,parts,d0,ds,rfl,rfl,h0,r⟩:=r.cons;obtain⟨p1,parts,d1,ds,rfl,rfl,h1,r⟩:=r.cons;obtain⟨p2,parts,d2,ds,rfl,rfl,h2,r⟩:=r.cons;obtain⟨p3,parts,d3,ds,rfl,rfl,h3,r⟩:=r.cons;obtain⟨rfl,rfl⟩:=r.nil;obtain⟨v0,rfl,w0,rfl⟩:=Yw h0 XcA;obtain⟨v1,rfl,w1,rfl⟩:=Yw h1 XT;obtain⟨v2,rfl,w2,rfl⟩:=Yw h2 XcA;simp only[YL,Yz,XO] at hb ⊢;obtain⟨l,rfl,q,s,k⟩:=XG nmC (λx=>(nmP x).length) (λx=>nmFit x=true) h3 ZcU n_nm (λf' hf=>ih f' (by omega)) (show uptoBulk d3≤1048576 by omega);refine⟨.mk v0 v1 v2 l,by rw[QF]; rfl,?_,?_⟩
 ·simp only[nmFit,bigLe k (show uptoBulk d3≤1048576 by omega),Ybe q,wf8 w0,wf64 w1,Bool.and_self]
 ·simp only[nmP,List.length_cons,Qa2]; omega
theorem ty_cn(fuel:Nat):∀xs (d:DataW H),Typed prog fuel QcJ xs d→uptoBulk d≤1048576→∃x,xs=cnC x∧cnFit x=true∧(cnP x).length≤uptoBulk d:=by
 induction fuel using Nat.strongRecOn with
 |_ fuel ih=>
 intro xs d h hb;obtain⟨f,parts,ds,rfl,rfl,rfl,r⟩:=QI h s_cn;obtain⟨p0,parts,d0,ds,rfl,rfl,h0,r⟩:=r.cons;obtain⟨p1,parts,d1,ds,rfl,rfl,h1,r⟩:=r.cons;obtain⟨p2,parts,d2,ds,rfl,rfl,h2,r⟩:=r.cons;obtain⟨p3,parts,d3,ds,rfl,rfl,h3,r⟩:=r.cons;obtain⟨p4,parts,d4,ds,rfl,rfl,h4,r⟩:=r.cons;obtain⟨rfl,rfl⟩:=r.nil;obtain⟨v0,rfl,w0,rfl⟩:=Yw h0 XcA;obtain⟨v1,rfl,w1,rfl⟩:=Yw h1 XcA;obtain⟨v2,rfl,rfl⟩:=Qbj h2 Qci;simp only[YL,Yz,XO] at hb ⊢;obtain⟨l,rfl,q,s,k⟩:=XG nmC (λx=>(nmP x).length) (λx=>nmFit x=true) h3 ZcU n_nm (λf' _=>ZcT f') (show uptoBulk d3≤1048576 by omega);obtain⟨l2,rfl,q2,s2,k2⟩:=XG cnC (λx=>(cnP x).length) (λx=>cnFit x=true) h4 u_cns n_cn (λf' hf=>ih f' (by omega)) (show uptoBulk d4≤1048576 by omega);refine⟨.mk v0 v1 v2 l l2,by rw[YO]; rfl,?_,?_⟩
 ·simp only[cnFit,bigLe k (show uptoBulk d3≤1048576 by omega),Ybe q,bigLe k2 (show uptoBulk d4≤1048576 by omega),ZbT q2,wf8 w0,Bool.and_self]
 ·simp only[cnP,List.length_cons,List.length_append,Qa2,Xbv]; omega
theorem ty_ef(fuel:Nat):∀xs (d:DataW H),Typed prog fuel XcR xs d→uptoBulk d≤1048576→∃x,xs=efC x∧efFit x=true∧(efP x).length≤uptoBulk d:=by
 induction fuel using Nat.strongRecOn with
 |_ fuel ih=>
 intro xs d h hb;obtain⟨f,parts,ds,rfl,rfl,rfl,r⟩:=QI h s_ef;obtain⟨p0,parts,d0,ds,rfl,rfl,h0,r⟩:=r.cons;obtain⟨p1,parts,d1,ds,rfl,rfl,h1,r⟩:=r.cons;obtain⟨p2,parts,d2,ds,rfl,rfl,h2,r⟩:=r.cons;obtain⟨p3,parts,d3,ds,rfl,rfl,h3,r⟩:=r.cons;obtain⟨p4,parts,d4,ds,rfl,rfl,h4,r⟩:=r.cons;obtain⟨p5,parts,d5,ds,rfl,rfl,h5,r⟩:=r.cons;obtain⟨p6,parts,d6,ds,rfl,rfl,h6,r⟩:=r.cons;obtain⟨rfl,rfl⟩:=r.nil;obtain⟨v0,rfl,w0,rfl⟩:=Yw h0 XcA;obtain⟨v1,rfl,w1,rfl⟩:=Yw h1 XcA;obtain⟨v3,rfl,rfl⟩:=Qbj h3 Qci;simp only[YL,Yz,XO] at hb ⊢;obtain⟨n,rfl,qn,kn⟩:=ZcT _ _ _ h2 (by omega);obtain⟨c,rfl,qc,kc⟩:=ty_cn _ _ _ h4 (by omega);obtain⟨l,rfl,q,s,k⟩:=XG efC (λx=>(efP x).length) (λx=>efFit x=true) h5 QcI n_ef (λf' hf=>ih f' (by omega)) (show uptoBulk d5≤1048576 by omega);obtain⟨l2,rfl,q2,s2,k2⟩:=XG efC (λx=>(efP x).length) (λx=>efFit x=true) h6 QcI n_ef (λf' hf=>ih f' (by omega)) (show uptoBulk d6≤1048576 by omega);refine⟨.mk v0 v1 n v3 c l l2,by rw[QH,QF,YO]; rfl,?_,?_⟩
 ·simp only[efFit,qn,qc,bigLe k (show uptoBulk d5≤1048576 by omega),QaG q,bigLe k2 (show uptoBulk d6≤1048576 by omega),QaG q2,wf8 w0,Bool.and_self]
 ·have e1:(if cntOp v0 then nmP n else []).length≤(nmP n).length:=by split<;>simp
  have e2:(if v0=8 then cnP c++(efPs l++efPs l2) else []).length≤(cnP c).length+(efPs l).length+(efPs l2).length:=by
   split
   ·simp only[List.length_append]; omega
   ·simp
  rw[YaB,YaB] at e2;simp only[efP,List.length_cons,List.length_append];omega
theorem Yci{fuel:Nat}{xs:List AVal}{d:DataW H}(h:Typed prog fuel Qbi xs d)(hb:uptoBulk d≤1048576):∃l,xs=[efV l]∧lsFit l=true∧(efPs l).length≤uptoBulk d:=by
 obtain⟨l,rfl,q,s,k⟩:=XG efC (λx=>(efP x).length) (λx=>efFit x=true) h QcI n_ef (λf' _=>ty_ef f') hb;exact⟨l,rfl,by simp only[lsFit,bigLe k hb,QaG q,Bool.and_self],by rw[YaB]; exact s⟩
theorem ty_cd(fuel:Nat)(xs:List AVal)(d:DataW H)(h:Typed prog fuel YcR xs d)(hb:uptoBulk d≤1048576):∃x,xs=cdC x∧(cdFit x=true∧(cdP x).length≤1048576)∧0≤uptoBulk d:=by
 obtain⟨f,parts,ds,rfl,rfl,rfl,r⟩:=QI h s_cd;obtain⟨p0,parts,d0,ds,rfl,rfl,h0,r⟩:=r.cons;obtain⟨p1,parts,d1,ds,rfl,rfl,h1,r⟩:=r.cons;obtain⟨p2,parts,d2,ds,rfl,rfl,h2,r⟩:=r.cons;obtain⟨p3,parts,d3,ds,rfl,rfl,h3,r⟩:=r.cons;obtain⟨p4,parts,d4,ds,rfl,rfl,h4,r⟩:=r.cons;obtain⟨p5,parts,d5,ds,rfl,rfl,h5,r⟩:=r.cons;obtain⟨p6,parts,d6,ds,rfl,rfl,h6,r⟩:=r.cons;obtain⟨p7,parts,d7,ds,rfl,rfl,h7,r⟩:=r.cons;obtain⟨p8,parts,d8,ds,rfl,rfl,h8,r⟩:=r.cons;obtain⟨p9,parts,d9,ds,rfl,rfl,h9,r⟩:=r.cons;obtain⟨p10,parts,d10,ds,rfl,rfl,h10,r⟩:=r.cons;obtain⟨p11,parts,d11,ds,rfl,rfl,h11,r⟩:=r.cons;obtain⟨rfl,rfl⟩:=r.nil;obtain⟨v0,rfl,rfl⟩:=Qbj h0 Qci;obtain⟨v1,rfl,rfl⟩:=Ybt h1 Zbk;obtain⟨v2,rfl,w2,rfl⟩:=Yw h2 XT;obtain⟨v3,rfl,w3,rfl⟩:=Yw h3 XT;obtain⟨v4,rfl,w4,rfl⟩:=Yw h4 XT;obtain⟨v5,rfl,w5,rfl⟩:=Yw h5 XT;obtain⟨v6,rfl,w6,rfl⟩:=Yw h6 XT;obtain⟨v7,rfl,w7,rfl⟩:=Yw h7 XT;obtain⟨v11,rfl,w11,rfl⟩:=Yw h11 XT;simp only[YL,Yz,XO] at hb ⊢;obtain⟨a,rfl,qa,ka⟩:=Yci h8 (by omega);obtain⟨b,rfl,qb,kb⟩:=Yci h9 (by omega);obtain⟨c,rfl,qc,kc⟩:=Yci h10 (by omega);refine⟨⟨v0,v1,v2,v3,v4,v5,v6,v7,a,b,c,v11⟩,rfl,⟨?_,?_⟩,by omega⟩
 ·simp only[cdFit,bigLe (Nat.le_refl v0.length) (by omega),qa,qb,qc,Bool.and_self]
 ·simp only[cdP,List.length_append]; omega
theorem XcT(fuel:Nat)(xs:List AVal)(d:DataW H)(h:Typed prog fuel Xa5 xs d)(_:uptoBulk d≤1048576):∃x,xs=txC x∧True∧0≤uptoBulk d:=by
 obtain⟨s,rfl,rfl⟩:=Qbj h Qci;exact⟨s,rfl,trivial,by omega⟩
theorem ty_fo(fuel:Nat)(xs:List AVal)(d:DataW H)(h:Typed prog fuel QcR xs d)(hb:uptoBulk d≤1048576):∃x,xs=foC x∧foFit x=true∧0≤uptoBulk d:=by
 obtain⟨f,parts,ds,rfl,rfl,rfl,r⟩:=QI h s_fo;obtain⟨p0,parts,d0,ds,rfl,rfl,h0,r⟩:=r.cons;obtain⟨p1,parts,d1,ds,rfl,rfl,h1,r⟩:=r.cons;obtain⟨p2,parts,d2,ds,rfl,rfl,h2,r⟩:=r.cons;obtain⟨p3,parts,d3,ds,rfl,rfl,h3,r⟩:=r.cons;obtain⟨p4,parts,d4,ds,rfl,rfl,h4,r⟩:=r.cons;obtain⟨p5,parts,d5,ds,rfl,rfl,h5,r⟩:=r.cons;obtain⟨p6,parts,d6,ds,rfl,rfl,h6,r⟩:=r.cons;obtain⟨rfl,rfl⟩:=r.nil;obtain⟨v0,rfl,rfl⟩:=Qbj h0 Qci;obtain⟨v1,rfl,w1,rfl⟩:=Yw h1 XT;obtain⟨v2,rfl,w2,rfl⟩:=Yw h2 XT;obtain⟨v3,rfl,w3,rfl⟩:=Yw h3 XT;obtain⟨v6,rfl,w6,rfl⟩:=Yw h6 XT;simp only[YL,Yz,XO] at hb ⊢;obtain⟨a,rfl,_,_,ka⟩:=XG txC (λ_=>0) (λ_=>True) h4 YcU YcQ (λf' _=>XcT f') (show uptoBulk d4≤1048576 by omega);obtain⟨b,rfl,_,_,kb⟩:=XG txC (λ_=>0) (λ_=>True) h5 YcU YcQ (λf' _=>XcT f') (show uptoBulk d5≤1048576 by omega);refine⟨⟨v0,v1,v2,v3,a,b,v6⟩,rfl,?_,by omega⟩;simp only[foFit,bigLe (Nat.le_refl v0.length) (by omega),bigLe ka (show uptoBulk d4≤1048576 by omega),bigLe kb (show uptoBulk d5≤1048576 by omega),Bool.and_self]
theorem ty_bk{fuel:Nat}{xs:List AVal}{d:DataW H}(h:Typed prog fuel Xch xs d)(hb:uptoBulk d≤1048576):∃x,xs=bkC x∧bkFit x=true∧Yo x.cards:=by
 obtain⟨f,parts,ds,rfl,rfl,rfl,r⟩:=QI h s_bk;obtain⟨p0,parts,d0,ds,rfl,rfl,h0,r⟩:=r.cons;obtain⟨p1,parts,d1,ds,rfl,rfl,h1,r⟩:=r.cons;obtain⟨rfl,rfl⟩:=r.nil;simp only[YL,Yz,XO] at hb ⊢;obtain⟨a,rfl,q,_,k⟩:=XG cdC (λ_=>0) (λx=>cdFit x=true∧(cdP x).length≤1048576) h0 u_cds n_cd (λf' _=>ty_cd f') (show uptoBulk d0≤1048576 by omega);obtain⟨b,rfl,q2,_,k2⟩:=XG foC (λ_=>0) (λx=>foFit x=true) h1 u_fos n_fo (λf' _=>ty_fo f') (show uptoBulk d1≤1048576 by omega);refine⟨⟨a,b⟩,rfl,?_,λc hc=>Nat.le_trans (q c hc).2 (by decide)⟩;simp only[bkFit,ZO,bigLe k (show uptoBulk d0≤1048576 by omega),bigLe k2 (show uptoBulk d1≤1048576 by omega),Bool.true_and,Bool.and_eq_true,List.all_eq_true];exact⟨λc hc=>(q c hc).1,q2⟩
theorem ty_th(fuel:Nat)(xs:List AVal)(d:DataW H)(h:Typed prog fuel YcS xs d)(hb:uptoBulk d≤1048576):∃x,xs=thC x∧True∧0≤uptoBulk d:=by
 obtain⟨f,parts,ds,rfl,rfl,rfl,r⟩:=QI h s_th;obtain⟨p0,parts,d0,ds,rfl,rfl,h0,r⟩:=r.cons;obtain⟨p1,parts,d1,ds,rfl,rfl,h1,r⟩:=r.cons;obtain⟨p2,parts,d2,ds,rfl,rfl,h2,r⟩:=r.cons;obtain⟨p3,parts,d3,ds,rfl,rfl,h3,r⟩:=r.cons;obtain⟨rfl,rfl⟩:=r.nil;obtain⟨v0,rfl,w0,rfl⟩:=Yw h0 XT;obtain⟨v1,rfl,w1,rfl⟩:=Yw h1 XT;obtain⟨v2,rfl,w2,rfl⟩:=Yw h2 XT;obtain⟨v3,rfl,rfl⟩:=Ybt h3 Zbk;simp only[YL,Yz,XO] at hb ⊢;exact⟨⟨v0,v1,v2,v3⟩,rfl,trivial,by omega⟩
theorem ty_i(fuel:Nat)(xs:List AVal)(d:DataW H)(h:Typed prog fuel QA xs d)(_:uptoBulk d≤1048576):∃x,xs=cel x∧True∧0≤uptoBulk d:=by
 obtain⟨s,rfl,_,rfl⟩:=Yw h XT;exact⟨s,rfl,trivial,by omega⟩
theorem Xbj{fuel:Nat}{xs:List AVal}{d:DataW H}(h:Typed prog fuel Yax xs d)(hb:uptoBulk d≤1048576):∃l,xs=[rowV l]∧l.length≤2000000:=by
 obtain⟨l,rfl,_,_,k⟩:=XG cel (λ_=>0) (λ_=>True) h QcT n_int (λf' _=>ty_i f') hb;exact⟨l,rfl,by omega⟩
theorem YcT{fuel:Nat}{xs:List AVal}{d:DataW H}(h:Typed prog fuel XcV xs d)(hb:uptoBulk d≤1048576):∃x,xs=sdC x∧SdLe 2000000 x:=by
 obtain⟨f,parts,ds,rfl,rfl,rfl,r⟩:=QI h s_sd;obtain⟨p0,parts,d0,ds,rfl,rfl,h0,r⟩:=r.cons;obtain⟨p1,parts,d1,ds,rfl,rfl,h1,r⟩:=r.cons;obtain⟨p2,parts,d2,ds,rfl,rfl,h2,r⟩:=r.cons;obtain⟨p3,parts,d3,ds,rfl,rfl,h3,r⟩:=r.cons;obtain⟨p4,parts,d4,ds,rfl,rfl,h4,r⟩:=r.cons;obtain⟨p5,parts,d5,ds,rfl,rfl,h5,r⟩:=r.cons;obtain⟨p6,parts,d6,ds,rfl,rfl,h6,r⟩:=r.cons;obtain⟨p7,parts,d7,ds,rfl,rfl,h7,r⟩:=r.cons;obtain⟨rfl,rfl⟩:=r.nil;obtain⟨v0,rfl,w0,rfl⟩:=Yw h0 XT;obtain⟨v1,rfl,w1,rfl⟩:=Yw h1 XT;obtain⟨v2,rfl,w2,rfl⟩:=Yw h2 XT;simp only[YL,Yz,XO] at hb ⊢;obtain⟨a,rfl,ka⟩:=Xbj h3 (by omega);obtain⟨b,rfl,kb⟩:=Xbj h4 (by omega);obtain⟨c,rfl,kc⟩:=Xbj h5 (by omega);obtain⟨u,rfl,_,_,ku⟩:=XG thC (λ_=>0) (λ_=>True) h6 u_ths n_th (λf' _=>ty_th f') (show uptoBulk d6≤1048576 by omega);obtain⟨t,rfl,kt⟩:=Xbj h7 (by omega);exact⟨⟨v0,v1,v2,a,b,c,u,t⟩,rfl,ka,kb,kc,by show u.length≤_; omega,kt⟩
theorem ty_st{fuel:Nat}{xs:List AVal}{d:DataW H}(h:Typed prog fuel Qch xs d)(hb:uptoBulk d≤1048576):∃x,xs=stC x∧StLe 2000000 x:=by
 obtain⟨f,parts,ds,rfl,rfl,rfl,r⟩:=QI h s_st;obtain⟨p0,parts,d0,ds,rfl,rfl,h0,r⟩:=r.cons;obtain⟨p1,parts,d1,ds,rfl,rfl,h1,r⟩:=r.cons;obtain⟨p2,parts,d2,ds,rfl,rfl,h2,r⟩:=r.cons;obtain⟨p3,parts,d3,ds,rfl,rfl,h3,r⟩:=r.cons;obtain⟨p4,parts,d4,ds,rfl,rfl,h4,r⟩:=r.cons;obtain⟨p5,parts,d5,ds,rfl,rfl,h5,r⟩:=r.cons;obtain⟨p6,parts,d6,ds,rfl,rfl,h6,r⟩:=r.cons;obtain⟨p7,parts,d7,ds,rfl,rfl,h7,r⟩:=r.cons;obtain⟨rfl,rfl⟩:=r.nil;obtain⟨v0,rfl,w0,rfl⟩:=Yw h0 XT;obtain⟨v1,rfl,w1,rfl⟩:=Yw h1 XT;obtain⟨v2,rfl,w2,rfl⟩:=Yw h2 XcA;obtain⟨v3,rfl,rfl⟩:=Ybt h3 Zbk;obtain⟨v4,rfl,w4,rfl⟩:=Yw h4 XcA;obtain⟨v6,rfl,w6,rfl⟩:=Yw h6 XT;simp only[YL,Yz,XO] at hb ⊢;obtain⟨a,rfl,ka⟩:=Xbj h5 (by omega);obtain⟨f',p,q,da,db,rfl,rfl,rfl,hp,hq⟩:=XcI h7 u_sds;simp only[YL,Yz] at hb;obtain⟨x,rfl,kx⟩:=YcT hp (by omega);obtain⟨y,rfl,ky⟩:=YcT hq (by omega);exact⟨⟨v0,v1,v2,v3,v4,a,v6,x,y⟩,rfl,ka,kx,ky⟩
end Go.Ah.Tz
end
section
namespace Go.Proofs.YtflcpnaigpgciaaGreatDoor
open Go.ChangeShapes Go.WideShapes Go.ChangeAt Go.RowKit Go.Ah Go.Ah.Tz
theorem Za3{H:Type}{enc:TypeId×Value→H}{P:Program}{f:Func}{s:ChangeSpec}{apart fresh handsOn again:Bool}{W W':World}{args:Array Value}{v:Value}{ds gs:List (DataW H)}{before pa pv:List MemPlace}
 (hW:DataW.Whole enc P f.params.toList s.vars apart W args.toList ds gs before)
 (hres:∀(b:Nat) (sp:Nat→Bool) (hd:Bool),DataW.TrodAll enc P W' b sp hd f.resultTypes.toList (v.resultList f.resultTypes.size) (s.fn H (ds++gs)).results [])
 (hargs:∀sp:Nat→Bool,(∀p∈before,sp p.block=true)→DataW.TrodAll enc P W' 0 sp true f.params.toList args.toList (s.fn H (ds++gs)).args pa)
 (hvars:∀sp:Nat→Bool,(∀p∈before,sp p.block=true)→DataW.TrodVars enc P W' sp s.vars (s.fn H (ds++gs)).vars pv)
 (hps:before=pa++pv)(hb:Below W.heap.size W W')
 (hok:∀(j:Nat) (t:TypeId) (r:Value),f.resultTypes[j]?=some t→(v.resultList f.resultTypes.size)[j]?=some r→Value.okWide P W' .any 0 t r) :
  s.post enc P f apart fresh handsOn again W args v W':=by
 have hold:∀p∈before,(λb=>decide (b<W.heap.size)) p.block=true:=λp hp=>by simpa using hW.lt p hp
 refine⟨ds,gs,before,[],pa,pv,hW,hres _ _ _,hargs _ hold,hvars _ hold,World.keptBut_mono (λp hp=>⟨hp,?_⟩) (hb.frame (·∈before)),λ_=>?_⟩
 ·rw[hps,List.mem_append] at hp;exact Or.inr hp
 ·have hlt:=hW.lt;obtain⟨_,_,_,_,_,hz,hn⟩:=hW;refine⟨hok,_,_,([]++pa)++pv,⟨[]++pa,pv,trodAll_append (hargs _ (λ_ _=>rfl)) (hres _ _ _),hvars _ (λ_ _=>rfl),rfl,?_,?_⟩,?_⟩
  ·intro b off hp;have hin:MemPlace.cell b off∈before:=by rw[hps]; simpa using hp
   rw[hb.frozen (p:=⟨b,off,none⟩) (show b<W.heap.size from hlt _ hin)];exact hz b off hin
  ·intro ha;have:=hn ha;rw[hps] at this;simpa using this
  ·intro p hp _;rw[hps];simpa using hp
set_option maxRecDepth 100000
abbrev t_u8:TypeId:=5
abbrev ZcS:TypeId:=318
theorem d_own:ownKnob Tryz.prog.godebug=none:=by kernel_rfl
theorem YcM:Tryz.prog.globalNamed "strings.asciiSpace" = some 0:=by kernel_rfl
theorem QbV:(Tryz.prog.globals[0]?).map (·.type)=some ZcS:=by kernel_rfl
theorem YbV:laidOutB Tryz.prog=true:=by kernel_rfl
def spaces:List Int:=(List.range 256).map λi=>match (Nat.ble 9 i&&Nat.ble i 13)||Nat.beq i 32 with|true=>1|false=>0
theorem QcB{l:List (String×DataW Unit)}{x:String×DataW Unit}(hl:l=[x,("strings.asciiSpace",Lib.tabData .u8 spaces)]){W:World}(h:laidMet Tryz.prog l W):∀p∈GL0,Den (λb=>W.heap[b]?) noOwn (.rptr p.2 0) (.pointer (some ⟨p.1,0,none⟩)):=by
 subst hl;have ht:Lib.TabIs Tryz.prog W "strings.asciiSpace" .u8 spaces:=Lib.tabIs_of_head (rest:=[]) YcM QbV (show Tryz.prog.underlying ZcS=some (.array 256 t_u8) by kernel_rfl) (show Tryz.prog.underlying t_u8=some (.int .u8) by kernel_rfl) (by kernel_rfl) (by kernel_rfl) h.tail;have hlen:spaces.length=256:=by simp[spaces]
 have hrow:row0=spaces.map (AVal.int .u8):=by rw[row0,spaces,List.map_map]; rfl
 intro p hp;simp only[GL0,List.mem_singleton] at hp;subst hp;refine .rptr _ row0 0 0 0 (λk=>.int .u8 (spaces.getD k 0)) (λk hk=>?_) (λk y hy=>?_)
 ·have hk':k<spaces.length:=by rw[hrow,List.length_map] at hk; exact hk
  have:=(ZbR (ht.cell YcM k hk')).2;rw[Nat.zero_add]; exact this
 ·rw[hrow,List.getElem?_map] at hy;obtain⟨z,hz,rfl⟩:=Option.map_eq_some_iff.1 hy;have:spaces.getD k 0=z:=by simp[List.getD,hz]
  rw[this]; exact .int _ _ _
def Ya0:List TypeId:=[Qcj,QA,Xbi,Xa5,ZcK,Qcv,QcJ,YcH,XcR,Qbi,YcR,ZcH,QcR,XcH,Zcw,Xch,YcS,ZcI,Yax,XcV,QcH,Qch]
theorem Ya8:Ya0.all (tyOk Tryz.prog Ya0)=true:=by kernel_rfl
theorem QcL{M:Nat→Option Obj}{xs:List AVal}{cs:Array Value}(h:DL M xs cs.toList):Den M noOwn (.agg xs) (.agg cs):=
 .agg _ _ _ (by have:=h.1; simpa using this.symm) (λi x v h1 h2=>h.2 i x v h1 (by simpa using h2))
theorem Ybi{P:Program}{t:TypeId}{ts:List TypeId}(h:Xu P t=some ts):∃fs,P.underlying t=some (.struct fs):=by
 unfold Xu at h;split at h
 ·rename_i fs e; exact⟨fs,e⟩
 ·cases h
section
variable {H:Type} {enc:TypeId×Value→H} {W:World} {base:Nat} {v:Value} {d:DataW H} {ps:List MemPlace}
theorem ZcM(ho:Value.okWide Tryz.prog W .any base Xch v)(h:DataW.Trod enc Tryz.prog W 0 (λ_=>true) true Xch v d ps)(hb:Rows.uptoBulk d≤1048576):∃b:Bk,bkFit b=true∧Yo b.cards∧Den (λk=>W.heap[k]?) noOwn (bkV b) v:=by
 obtain⟨fs,hfs⟩:=Ybi s_bk;obtain⟨cs,rfl,_⟩:=okWide_struct hfs ho;obtain⟨fuel,hf⟩:=h;obtain⟨_,xs,h1,h2⟩:=XaN (S:=Ya0) Ya8 fuel Xch (by decide) _ _ ⟨_,hf⟩;obtain⟨b,rfl,k1,k2⟩:=ty_bk h2 hb;exact⟨b,k1,k2,QcL h1⟩
theorem ZcC(ho:Value.okWide Tryz.prog W .any base Qch v)(h:DataW.Trod enc Tryz.prog W 0 (λ_=>true) true Qch v d ps)(hb:Rows.uptoBulk d≤1048576):∃s:St,StLe 2000000 s∧Den (λk=>W.heap[k]?) noOwn (stV s) v:=by
 obtain⟨fs,hfs⟩:=Ybi s_st;obtain⟨cs,rfl,_⟩:=okWide_struct hfs ho;obtain⟨fuel,hf⟩:=h;obtain⟨_,xs,h1,h2⟩:=XaN (S:=Ya0) Ya8 fuel Qch (by decide) _ _ ⟨_,hf⟩;obtain⟨s,rfl,k⟩:=ty_st h2 hb;exact⟨s,k,QcL h1⟩
theorem Ycm(ho:Value.okWide Tryz.prog W .any base QA v)(h:DataW.Trod enc Tryz.prog W 0 (λ_=>true) true QA v d ps):∃n:Int,Den (λk=>W.heap[k]?) noOwn (iv n) v:=by
 obtain⟨n,rfl,_⟩:=open_int XT ho h;exact⟨n,.int _ _ _⟩
end
theorem Yao{H:Type}{enc:TypeId×Value→H}{t:TypeId}(hr:Tryz.prog.readableRec t=true)(hrow:t<Tryz.prog.types.size){W W':World}{v:Value}{d:DataW H}{ps all:List MemPlace}(h:DataW.Trod enc Tryz.prog W 0 (λ_=>true) true t v d ps)(hb:Below W.heap.size W W')(hlt:∀p∈all,p.block<W.heap.size)(hin:∀p∈ps,p∈all){sp:Nat→Bool}(hs:∀p∈all,sp p.block=true):DataW.Trod enc Tryz.prog W' 0 sp true t v d ps:=
 WideElems.Trod_stays YbV hr hrow h (λp hp=>hb.same (hlt p (hin p hp))) (λp hp=>hs p (hin p hp))
theorem XbV(t:TypeId)(h:(Tryz.prog.readableRec t&&decide (t<Tryz.prog.types.size))=true):Tryz.prog.readableRec t=true∧t<Tryz.prog.types.size:=by simpa using h
theorem r_bk:Tryz.prog.readableRec Xch=true∧Xch<Tryz.prog.types.size:=XbV Xch (by kernel_rfl)
theorem r_st:Tryz.prog.readableRec Qch=true∧Qch<Tryz.prog.types.size:=XbV Qch (by kernel_rfl)
theorem Qbe:Tryz.prog.readableRec QA=true∧QA<Tryz.prog.types.size:=XbV QA (by kernel_rfl)
def Xcm:List Int:=[9,13,1,32,133,101,160,5760,5600,8192,8202,1,8232,8233,1,8239,8287,48,12288,12288,1]
noncomputable def Ybn (os:Os):World:=
 let w0:=World.holding Tryz.prog os ⟨#[],#[],[]⟩
 let put (h:Array Obj) (g:Nat) (cs:Array Value):Array Obj:=h.modify g fun
  |.cells _ t frozen=>.cells cs t frozen
  |o=>o
 let h1:=put w0.heap 0 (spaces.map λz=>Value.int .u8 z).toArray
 let h2:=put h1 1 #[.pointer (some ⟨w0.heap.size,0,none⟩)]
 { w0 with heap:=(h2.push (.cells #[.slice (some ⟨w0.heap.size+1,0,none⟩) 7 7,.slice none 0 0,.int .i64 2] 328 (0,0))).push (.cells (Xcm.map λz=>Value.int .u16 z).toArray 331 (0,0)) }
theorem Zn{a b:Bool}(h:a=true)(k:b=true):(a&&b)=true:=by rw[h,k]; rfl
end Go.Proofs.YtflcpnaigpgciaaGreatDoor
end
section
namespace Go.Proofs.YtflcpnaigpgciaaGreatDoor
open Go.ChangeShapes Go.WideShapes Go.ChangeAt Go.RowKit Go.Ah Go.Ah.Tz
set_option maxRecDepth 100000
theorem XbJ:Rows.zoneKeepsUptoRow.laid=[("unicode.White_Space",Rows.laid_unicode_White_Space),("strings.asciiSpace",Lib.tabData .u8 spaces)]:=by kernel_rfl
theorem QaO(H:Type)(enc:TypeId×Value→H)(W:World)(base:Nat)(args:Array Value)(ds gs:List (DataW H))(before:List MemPlace)
 (hval:∀(j:Nat) t v,Tryz.f4.params[j]?=some t→args[j]?=some v→Value.okWide Tryz.prog W .any base t v)
 (hW:DataW.Whole enc Tryz.prog Tryz.f4.params.toList Rows.zoneKeepsSpec.vars false W args.toList ds gs before)(hk:Rows.uptoSmall H (ds++gs)=true)(hL:laidMetH Tryz.prog Rows.zoneKeepsUptoRow.laid W) :
  Calls Tryz.prog 4 args W λe W'=>∃v,e=.returned v∧Rows.zoneKeepsSpec.post enc Tryz.prog Tryz.f4 false true false false W args v W':=by
 have hW':=hW;have hlt:=hW.lt;obtain⟨p,q,hA0,hV,rfl,hfz,hnd⟩:=hW;have hA:DataW.TrodAll enc Tryz.prog W 0 (λ_=>true) true Tryz.f4.params.toList args.toList ds p:=hA0;rw[Tryz.params4] at hA hval;obtain⟨v0,vs,d0,ds,p0,p,hargs,rfl,rfl,h0,r⟩:=trodAll_cons hA;obtain⟨v1,vs,d1,ds,p1,p,rfl,rfl,rfl,h1,r⟩:=trodAll_cons r;obtain⟨v2,vs,d2,ds,p2,p,rfl,rfl,rfl,h2,r⟩:=trodAll_cons r;obtain⟨v3,vs,d3,ds,p3,p,rfl,rfl,rfl,h3,r⟩:=trodAll_cons r;obtain⟨v4,vs,d4,ds,p4,p,rfl,rfl,rfl,h4,r⟩:=trodAll_cons r;obtain⟨v5,vs,d5,ds,p5,p,rfl,rfl,rfl,h5,r⟩:=trodAll_cons r;obtain⟨rfl,rfl,rfl⟩:=trodAll_nil r;obtain rfl:args = #[v0,v1,v2,v3,v4,v5]:=by cases args; simp_all
 obtain⟨rfl,rfl⟩:=trodVars_none hV;have hbk:Rows.uptoBulkAll [d0,d1,d2,d3,d4,d5]≤1048576:=of_decide_eq_true hk;simp only[Rows.uptoBulkAll] at hbk;obtain⟨b,hf,hsm,e0⟩:=ZcM (hval 0 _ v0 rfl rfl) h0 (by omega);obtain⟨s,hs,e1⟩:=ZcC (hval 1 _ v1 rfl rfl) h1 (by omega);obtain⟨n2,e2⟩:=Ycm (hval 2 _ v2 rfl rfl) h2;obtain⟨n3,e3⟩:=Ycm (hval 3 _ v3 rfl rfl) h3;obtain⟨n4,e4⟩:=Ycm (hval 4 _ v4 rfl rfl) h4;obtain⟨n5,e5⟩:=Ycm (hval 5 _ v5 rfl rfl) h5;have hg:=QcB XbJ (show laidMet Tryz.prog Rows.zoneKeepsUptoRow.laid W from hL);refine(c4 p17 b hf hsm s hs n2 n3 n4 n5 W (λk=>W.heap[k]?) [v0,v1,v2,v3,v4,v5] (λ_ _ h=>h) hg ⟨e0,e1,e2,e3,e4,e5,trivial⟩).mono ?_;rintro e W' ⟨u,rfl,hkeep,M',_,_,_,hd⟩;cases hd;have hb:=hkeep.below;refine⟨_,rfl,Za3 (pa:=p0++(p1++(p2++(p3++(p4++(p5++[])))))) (pv:=[]) hW' (λ_ _ _=>trodAll_cons_mk (shut_bool Zbk _) trodAll_mk0) (λsp hsp=>?_) (λ_ _=>rfl) rfl hb (ok_one (by kernel_rfl) rfl (okWide_bool_mk Zbk _))⟩;rw[Tryz.params4];refine trodAll_cons_mk (Yao r_bk.1 r_bk.2 h0 hb hlt (λp hp=>by simp[hp]) hsp) <| trodAll_cons_mk (Yao r_st.1 r_st.2 h1 hb hlt (λp hp=>by simp[hp]) hsp) <| trodAll_cons_mk (Yao Qbe.1 Qbe.2 h2 hb hlt (λp hp=>by simp[hp]) hsp) <| trodAll_cons_mk (Yao Qbe.1 Qbe.2 h3 hb hlt (λp hp=>by simp[hp]) hsp) <| trodAll_cons_mk (Yao Qbe.1 Qbe.2 h4 hb hlt (λp hp=>by simp[hp]) hsp) <| trodAll_cons_mk (Yao Qbe.1 Qbe.2 h5 hb hlt (λp hp=>by simp[hp]) hsp) trodAll_mk0
def Qab:Array Value:=#[.agg #[.slice none 0 0,.slice none 0 0],.agg #[.int .i64 0,.int .i64 0,.int .i8 0,.bool false,.int .i8 0,.slice none 0 0,.int .i64 0,.int .i64 0,.int .i64 0,.int .i64 0,.slice none 0 0,.slice none 0 0,.slice none 0 0,.slice none 0 0,.slice none 0 0,.int .i64 0,.int .i64 0,.int .i64 0,.slice none 0 0,.slice none 0 0,.slice none 0 0,.slice none 0 0,.slice none 0 0],.int .i64 0,.int .i64 0,.int .i64 0,.int .i64 0]
theorem Qb5(os:Os):laidMet Tryz.prog Rows.zoneKeepsUptoRow.laid ((Ybn os).forCall (λ_ _=>0) ⟨#[],Qab,[]⟩).memory:=
 laidMet_of_run' 8 (by kernel_rfl) (by kernel_rfl)
theorem Ybq(os:Os){H:Type}(enc:TypeId×Value→H):∃places,DataW.whole enc Tryz.prog ((Ybn os).forCall (λ_ _=>0) ⟨#[],Qab,[]⟩).memory Tryz.f4.params.toList Rows.zoneKeepsSpec.vars false Qab.toList 8 =
  some ([.agg [.nil,.nil],.agg [.lit (.int .i64 0),.lit (.int .i64 0),.lit (.int .i8 0),.lit (.bool false),.lit (.int .i8 0),.nil,.lit (.int .i64 0),.agg [.agg [.lit (.int .i64 0),.lit (.int .i64 0),.lit (.int .i64 0),.nil,.nil,.nil,.nil,.nil],.agg [.lit (.int .i64 0),.lit (.int .i64 0),.lit (.int .i64 0),.nil,.nil,.nil,.nil,.nil]]],.lit (.int .i64 0),.lit (.int .i64 0),.lit (.int .i64 0),.lit (.int .i64 0)],[],places):=⟨[],by kernel_rfl⟩
theorem Xbb(os:Os)(started:os.Started)(H:Type)(enc:TypeId×Value→H)(F:Stop.Interp) :
  ReturnsInHanded {} Tryz.checked os 4 .any ((Rows.OpenSpec.upto Rows.zoneKeepsSpec).preRow enc Tryz.prog Tryz.f4 Rows.zoneKeepsUptoRow.domain false Rows.zoneKeepsUptoRow.laid) (((Rows.OpenSpec.upto Rows.zoneKeepsSpec).at F).post enc Tryz.prog Tryz.f4 false true false false):=by
 obtain⟨places,hx⟩:=Ybq os enc;refine returnsInHanded_of_row (C:=Tryz.checked) (s:=Rows.OpenSpec.upto Rows.zoneKeepsSpec) d_own started (by kernel_rfl) Tryz.func4
  (witness_row_atRef (enc:=enc) (C:=Tryz.checked) false (Ybn os) Qab rfl (by kernel_rfl) (by kernel_rfl) (by kernel_rfl)
   (OpenSpec.preRow_of_cond 8 hx (by kernel_rfl) (λk hk=>by cases hk; kernel_rfl) (by kernel_rfl) (Qb5 os))) ?_
 intro W base args ds gs before hval hW _ hcond _ hL _ _;exact QaO H enc W base args ds gs before hval hW (hcond _ rfl) hL
theorem Zco:Tryz.prog.funcNamed Rows.zoneKeepsUptoRow.func=some 4:=by kernel_rfl
theorem Yco:(Rows.zoneKeepsUptoRow.wf (OpenSpec.ofChange (Rows.OpenSpec.upto Rows.zoneKeepsSpec).bare))=true:=by kernel_rfl
theorem Xco:(laidOutB Tryz.prog)=true:=by kernel_rfl
theorem Qco:(mapsRowed Tryz.prog)=true:=by kernel_rfl
theorem Zcp:(Tryz.f4.params.all (Tryz.prog.readableRec ·))=true:=by kernel_rfl
theorem Ycp:(namedTie Tryz.prog Rows.zoneKeepsUptoRow.named (Rows.OpenSpec.upto Rows.zoneKeepsSpec).bare.vars)=true:=by kernel_rfl
theorem Xcp:(Rows.zoneKeepsUptoRow.stops==[])=true:=by kernel_rfl
theorem Qcp:(Tryz.prog.stops==[])=true:=by kernel_rfl
theorem Zcq:(Rows.zoneKeepsUptoRow.knobs==[])=true:=by kernel_rfl
theorem Ycq:(Tryz.prog.stopKnobs==[])=true:=by kernel_rfl
theorem Zb0:(Rows.zoneKeepsUptoRow.inPlace==Tryz.prog.inPlace 4)=true:=by kernel_rfl
theorem Yb0:(Rows.zoneKeepsUptoRow.unfollowed==Tryz.prog.unfollowed 4)=true:=by kernel_rfl
theorem Xb0:(Rows.zoneKeepsUptoRow.recurses==Tryz.prog.recurses 4)=true:=by kernel_rfl
theorem Qb0:(Rows.zoneKeepsUptoRow.named==Tryz.prog.varsNamed 4)=true:=by kernel_rfl
theorem Zb1:(Rows.zoneKeepsUptoRow.maps==(Tryz.f4.params.toList++(Rows.OpenSpec.upto Rows.zoneKeepsSpec).bare.plain.varTypes Tryz.prog).any (Tryz.prog.mapsRec ·))=true:=by kernel_rfl
theorem Yb1:(Rows.zoneKeepsUptoRow.ifaces==(Tryz.f4.params.toList++(Rows.OpenSpec.upto Rows.zoneKeepsSpec).bare.plain.varTypes Tryz.prog).any (Tryz.prog.ifacesRec ·))=true:=by kernel_rfl
theorem Xb1:(Rows.zoneKeepsUptoRow.mapsOut==Tryz.prog.mapsAmong Tryz.f4.resultTypes.toList)=true:=by kernel_rfl
theorem Qb1:(Rows.zoneKeepsUptoRow.loops==(Tryz.f4.params.toList++(Rows.OpenSpec.upto Rows.zoneKeepsSpec).bare.plain.varTypes Tryz.prog).any (Tryz.prog.loopsFrom ·))=true:=by kernel_rfl
theorem Zb2:(Rows.zoneKeepsUptoRow.wideKeys==(Tryz.f4.params.toList++(Rows.OpenSpec.upto Rows.zoneKeepsSpec).bare.plain.varTypes Tryz.prog++Tryz.f4.resultTypes.toList).any (Tryz.prog.wideKeysFrom ·))=true:=by kernel_rfl
theorem Yb2:((Rows.OpenSpec.upto Rows.zoneKeepsSpec).bare.vars.all (Tryz.prog.varReadable ·))=true:=by kernel_rfl
theorem Xb2:(Tryz.f4.resultTypes.all (λt=>Tryz.prog.readableRec t&&decide (t<Tryz.prog.types.size)))=true:=by kernel_rfl
theorem Qb2:(Rows.zoneKeepsUptoRow.ifacesOut==Tryz.f4.resultTypes.toList.any (Tryz.prog.ifacesRec ·))=true:=by kernel_rfl
theorem Zb3:(Rows.zoneKeepsUptoRow.loopsOut==Tryz.f4.resultTypes.toList.any (Tryz.prog.loopsFrom ·))=true:=by kernel_rfl
theorem Yb3:(Rows.zoneKeepsUptoRow.plainKeys==Tryz.prog.plainKeys)=true:=by kernel_rfl
theorem Xb3:(Rows.zoneKeepsUptoRow.shortTexts.isNone)=true:=by kernel_rfl
theorem Qb3:(Tryz.prog.stopsHeard)=true:=by kernel_rfl
theorem Zb4:(Tryz.prog.mayEnter)=true:=by kernel_rfl
theorem Yb4:(Rows.zoneKeepsUptoRow.lifted==Tryz.prog.liftsFinal)=true:=by kernel_rfl
theorem Xb4:(Tryz.prog.make==some Rows.zoneKeepsUptoRow.make)=true:=by kernel_rfl
theorem Qb4:(Rows.zoneKeepsUptoRow.kinds==(if Rows.zoneKeepsUptoRow.domain.isEmpty then [] else Tryz.f4.params.toList.map λt=>match Tryz.prog.underlying t with|some (.int k)=>some k|_=>none))=true:=by kernel_rfl
theorem Zb5:(Rows.zoneKeepsUptoRow.pinned==Rows.zoneKeepsUptoRow.pinnedBy)=true:=by kernel_rfl
theorem Yb5:(Rows.zoneKeepsUptoRow.veiled==(Tryz.f4.params.toList++(Rows.OpenSpec.upto Rows.zoneKeepsSpec).bare.plain.varTypes Tryz.prog++Tryz.f4.resultTypes.toList).any (Tryz.prog.veiledRec ·))=true:=by kernel_rfl
theorem Xb5:(Rows.zoneKeepsUptoRow.veiledFits Tryz.prog Tryz.f4.params.toList (Tryz.f4.params.toList++(Rows.OpenSpec.upto Rows.zoneKeepsSpec).bare.plain.varTypes Tryz.prog++Tryz.f4.resultTypes.toList))=true:=by kernel_rfl
theorem Ybb:joinedFacts Tryz.prog 4 Tryz.f4 (Rows.OpenSpec.upto Rows.zoneKeepsSpec).bare Rows.zoneKeepsUptoRow=true:=(Zn (Zn (Zn (Zn (Zn (Zn (Zn (Zn (Zn (Zn (Zn (Zn (Zn (Zn (Zn (Zn (Zn (Zn (Zn (Zn (Zn (Zn (Zn (Zn (Zn (Zn (Zn (Zn (Zn (Zn (Zn Yco Xco) Qco) Zcp) Ycp) Xcp) Qcp) Zcq) Ycq) Zb0) Yb0) Xb0) Qb0) Zb1) Yb1) Xb1) Qb1) Zb2) Yb2) Xb2) Qb2) Zb3) Yb3) Xb3) Qb3) Zb4) Yb4) Xb4) Qb4) Zb5) Yb5) Xb5)
theorem ZbK:Rows.ZoneKeepsUptoSaid:=
 OpenClaim.holds_of_cond 4 Tryz.f4 rfl rfl rfl rfl rfl rfl rfl ⟨rfl,rfl,rfl,rfl,rfl⟩ rfl rfl rfl rfl rfl Zco Tryz.func4 Ybb
  (of_decide_eq_true (by kernel_rfl)) (by unfold Func.isWrapper; first|(rw[if_pos (by decide +kernel)]; kernel_rfl)|(rw[if_neg (by decide +kernel)]; exact⟨rfl,rfl⟩))
  (λos started H enc _ F=>by rw[OpenClaim.pre_eq_preRow]; exact Xbb os started H enc F)
theorem Zbq(f:FuncId)(fn:Func)(hf:Tryz.pinned.checked.prog.funcNamed "baize/baizelaw17.ZoneKeeps" = some f)(hfn:Tryz.pinned.checked.prog.funcs[f]?=some fn) :
  true=Tryz.pinned.checked.prog.looks []∧∀(j:Nat) t,fn.params[j]?=some t→Tryz.pinned.checked.prog.wantsStandIn t=false:=by
 obtain rfl:f=4:=Option.some.inj ((show Tryz.prog.funcNamed "baize/baizelaw17.ZoneKeeps" = some 4 by kernel_rfl).symm.trans hf) |>.symm;obtain rfl:fn=Tryz.f4:=(Option.some.inj (Tryz.func4.symm.trans hfn)).symm;refine⟨by kernel_rfl,λj t ht=>?_⟩;rw[Tryz.params4] at ht;have hm:t∈[Xch,Qch,QA,QA,QA,QA]:=by simpa using Array.mem_of_getElem? ht
 have hall:([Xch,Qch,QA,QA,QA,QA].all λu=>!Tryz.prog.wantsStandIn u)=true:=by kernel_rfl
 exact(show Tryz.prog.wantsStandIn t=false by simpa using List.all_eq_true.1 hall t hm)
theorem zoneKeeps_upto_card:Rows.ZoneKeepsUptoCardSaid:=
 Claim7.holds_tied_plain_at .later [] _ _ _ _ ZbK (λ_ h=>by cases h) (by kernel_rfl) (λ_ h=>by cases h) zoneKeepsUpto_row_tie rfl ⟨rfl,rfl⟩ (by kernel_rfl) rfl Zbq (by kernel_rfl)
#print axioms zoneKeeps_upto_card
end Go.Proofs.YtflcpnaigpgciaaGreatDoor
end
