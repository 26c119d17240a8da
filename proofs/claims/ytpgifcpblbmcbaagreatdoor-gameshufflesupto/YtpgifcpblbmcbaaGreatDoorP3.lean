/- Part of the proof that GameShuffles holds of the program for arguments that together hold at most 1048576 values and letters; no other condition. -/
import Derived.Test.YtpgifcpblbmcbaaGreatDoorP2
import Derived.Test.YtpgifcpblbmcbaaGreatDoorRows
import Derived.Test.YtpgifcpblbmcbaaGreatDoorCards
import Derived.Test.YtpgifcpblbmcbaaGreatDoorTie
import Derived.ProofKit
import Derived.OpenShut
import Derived.Carry
import Derived.SevenTiedAt
import Derived.JoinedCond
import Derived.LaidMore
import Derived.SizedLaws
import Derived.Stop.LaidErr
import Derived.Deep.DeepHandedRow
import Derived.Deep.DeepWitnessRowRef
import Derived.Lib.LaidTab
set_option linter.all false
section
namespace Go.Ah.Tz
open Go.Proofs.Tryz (prog)
set_option maxRecDepth 100000
attribute [local irreducible] Ans.rd Ans.pu Ans.wr Ans.dr Ans.gr Ans.gw Ans.gl Ans.gd Ans.opt joinK W
set_option maxHeartbeats 4000000
theorem c3(h4:PC 4 [] (.bool true))(deck d:List Int)(hk:deck.length≤1000000000)(hd:d.length≤1000000000)(f:Int):PC 3 [rowV deck,rowV d,iv f] (.bool true):=by
 have hend:∀σ,VV.call (.call 4) [] σ λt44_18 σ=>(λ(v':AVal) (_:List ABlk)=>v'=.bool true) t44_18 σ:=λσ=>XX h4 rfl g4_ok.plain rfl rfl;refine Xad hP g3_ok rfl rfl ?_;unfold g3;refine Yf (v:=iv deck.length) (rd:=[]) (by simp[Zc]) (Yf (v:=.bool (decide ((deck.length:Int)>300))) rfl ?_);rcases YBE (decide ((deck.length:Int)>300)) with q1|q1
 ·rw[q1];repeat first|refine YP rfl ?_|refine Yf rfl ?_
  exact Qba (hend _)
 rw[q1];refine Yl (Yf rfl (Yl (Yf (v:=iv d.length) (rd:=[]) (by simp[Zc]) (Yl (Yf (v:=.bool (decide ((d.length:Int)>300))) rfl (Yf rfl ?_))))));refine ZB (λ_=>hend _) (λq2=>?_);have q2:(d.length:Int)≤300:=by simpa using q2
 have q1:(deck.length:Int)≤300:=by simpa using q1
 refine XX (c5 deck d hk hd f) rfl g5_ok.plain rfl ?_;obtain⟨hs,ha⟩:=Qae hk hd f;generalize (shuffle deck d f).1=l at hs;generalize (shuffle deck d f).2=a at ha;obtain⟨a1,a2,a3⟩:=ha;have hl:=hs.1;refine Yf rfl (Yf rfl (Yf (v:=iv l.length) (rd:=[]) (by simp[Zc]) (Yf (v:=iv deck.length) (rd:=[]) (by simp[Zc]) (Yf (e_neq ..) ?_))));rw[show decide ((l.length:Int)≠(deck.length:Int))=false by simp[hl]];refine Yl (Yf rfl (Yl (Yf (v:=.bool (decide (a < 0))) rfl (Yf rfl ?_))));rw[show decide (a < 0)=false from decide_eq_false (by omega)];refine Yl (Yf rfl (Yl (Yf (v:=.bool (decide (a > 0))) rfl (Yl (Yf rfl ?_)))));have fin:∀ σ,VV.loop (λag25 v26 σ=>
   VV.rd (Zc [rowV deck] σ) λt49_27=>
   VV.rd (Yi .lss false [(h0 v26),t49_27] σ) λt50_28=>
   VV.test t50_28 (
   VV.loop (λag29 v30 σ=>
   VV.rd (Zc [rowV deck] σ) λt55_31=>
   VV.rd (Yi .lss false [(h0 v30),t55_31] σ) λt56_32=>
   VV.test t56_32 (
   joinK (λk33=>
   VV.rd (Qa 1 [rowV deck,(h0 v30)] σ) λt61_35=>
   VV.rd (Xb false 1 [t61_35] σ) λt62_36=>
   VV.rd (Qa 1 [rowV deck,(h0 v26)] σ) λt65_37=>
   VV.rd (Xb false 1 [t65_37] σ) λt66_38=>
   VV.rd (Yi .eql false [t62_36,t66_38] σ) λt67_39=>
   joinK (λk40=>
   VV.test t67_39 (
   VV.rd (Yi .add false [(h1 v30),(.int .i64 1)] σ) λt69_42=>
   k40 [t69_42] σ) (
   k40 [(h1 v30)] σ)) (λv41 σ=>
   VV.rd (Qa 1 [rowV l,(h0 v30)] σ) λt72_43=>
   VV.rd (Xb false 1 [t72_43] σ) λt73_44=>
   VV.rd (Qa 1 [rowV deck,(h0 v26)] σ) λt76_45=>
   VV.rd (Xb false 1 [t76_45] σ) λt77_46=>
   VV.rd (Yi .eql false [t73_44,t77_46] σ) λt78_47=>
   VV.test t78_47 (
   VV.rd (Yi .sub false [(h0 v41),(.int .i64 1)] σ) λt80_48=>
   k33 [t80_48] σ) (
   k33 [(h0 v41)] σ))) (λv34 σ=>
   VV.rd (Yi .add false [(h0 v30),(.int .i64 1)] σ) λt58_49=>
   ag29 [t58_49,(h0 v34)] σ)) (
   VV.rd (Yi .neq false [(h1 v30),(.int .i64 0)] σ) λt82_50=>
   VV.test t82_50 (
   AVal.bool false=.bool true) (
   VV.rd (Yi .add false [(h0 v26),(.int .i64 1)] σ) λt52_51=>
   ag25 [t52_51] σ))) [(.int .i64 0),(.int .i64 0)] σ) (
   VV.call (.call 4) [] σ λt83_52 σ=>
   t83_52=.bool true)) [(.int .i64 0)] σ:=by
  intro σ;refine QaR (ι:=Nat) (λi vs σ=>vs=[iv i]∧i≤deck.length) (λi=>deck.length-i) 0 ⟨rfl,by omega⟩ ?_;rintro i vs σ again ⟨rfl,hi⟩ hag;refine Yf (v:=iv deck.length) (rd:=[]) (by simp[Zc]) (Yf rfl (ZB (λh=>?_) (λ_=>hend _)));have h:i<deck.length:=by simpa[Ah.h0] using h
  refine QaR (ι:=Nat) (λj vs σ=>∃k:Int,vs=[iv j,iv k]∧j≤deck.length∧k=((deck.take j).count deck[i]:Int)-((l.take j).count deck[i]:Int)) (λj=>deck.length-j) 0 ⟨0,rfl,by omega,by simp⟩ ?_;rintro j vs σ' again2 ⟨k,rfl,hj,hk2⟩ hag2;have c1:∀(m:List Int) (n:Nat) (x:Int),(m.take n).count x≤n:=λm n x=>Nat.le_trans List.count_le_length (by simp; omega);have b1:=c1 deck j deck[i];have b2:=c1 l j deck[i];refine Yf (v:=iv deck.length) (rd:=[]) (by simp[Zc]) (Yf rfl (ZB (λh2=>?_) (λh2=>?_)))
  ·have h2:j<deck.length:=by simpa[Ah.h0] using h2
   have h3:j<l.length:=by omega
   have t1:=Zaf deck j h2 deck[i];have t2:=Zaf l j h3 deck[i];refine Xaj λk1 hk1=>?_;have kk:∀k':Int,k'=((deck.take (j+1)).count deck[i]:Int)-((l.take (j+1)).count deck[i]:Int)→k1 [iv k'] σ':=by
    intro k' hk';rw[hk1];refine Yf (ZaM ..) ?_;rw[QP (n:=j) (by omega)];exact hag2 (j+1) _ _ (by omega) ⟨k',rfl,by omega,hk'⟩
   clear hk1;refine Yf (YaY _ cel _ _ _ deck _ j h2) (Yf (v:=iv deck[j]) (ldr rfl) (Yf (YaY _ cel _ _ _ deck _ i h) (Yf (v:=iv deck[i]) (ldr rfl) (Yf (v:=.bool (deck[j]==deck[i])) rfl ?_))));refine Xaj λk2 hk2'=>?_;have kk2:∀k':Int,k'=((deck.take (j+1)).count deck[i]:Int)-((l.take j).count deck[i]:Int)→k2 [iv k'] σ':=by
    intro k' hk';rw[hk2'];refine Yf (YaY _ cel _ _ _ l _ j h3) (Yf (v:=iv l[j]) (ldr rfl) (Yf (YaY _ cel _ _ _ deck _ i h) (Yf (v:=iv deck[i]) (ldr rfl) (Yf (v:=.bool (l[j]==deck[i])) rfl ?_))));refine ZB (λh4=>?_) (λh4=>?_)
    ·refine Yf (Ybp ..) ?_;have h4:(l[j]==deck[i])=true:=h4;rw[h4] at t2;simp only[if_true] at t2;have b3:=c1 deck (j+1) deck[i];show k1 [iv (IntKind.i64.wrap (k'-1))] σ';rw[wrapI (by omega) (by omega)];exact kk _ (by omega)
    ·have h4:(l[j]==deck[i])=false:=h4;rw[h4] at t2;exact kk _ (by simp at t2; omega)
   clear hk2';refine ZB (λh4=>?_) (λh4=>?_)
   ·have h4:(deck[j]==deck[i])=true:=h4;rw[h4] at t1;simp only[if_true] at t1;refine Yf (ZaM ..) ?_;show k2 [iv (IntKind.i64.wrap (k+1))] σ';rw[wrapI (by omega) (by omega)];exact kk2 _ (by omega)
   ·have h4:(deck[j]==deck[i])=false:=h4;rw[h4] at t1;exact kk2 _ (by simp at t1; omega)
  ·have h2:j=deck.length:=by simp[Ah.h0] at h2; omega
   subst h2;have hk0:k=0:=by
    rw[hk2,List.take_length,List.take_of_length_le (by omega),hs.2]; omega
   subst hk0;refine Yf (v:=.bool false) rfl (ZP (Yf (ZaM ..) ?_));show again [iv (IntKind.i64.wrap ((i:Int)+1))] σ';rw[QP (n:=i) (by omega)];exact hag (i+1) _ _ (by omega) ⟨rfl,by omega⟩
 rcases YBE (decide (a>0)) with q3|q3
 ·rw[q3];have q3:a>0:=by simpa using q3
  refine Yl (Yf rfl (Yl (Yf rfl (Yl (Yf (v:=iv d.length) (rd:=[]) (by simp[Zc]) (Yl (Yf (v:=.bool (decide (a ≥ (d.length:Int)))) rfl ?_)))))));rw[show decide (a ≥ (d.length:Int))=false from decide_eq_false (by omega)];exact Yl (Yf rfl (Yf rfl (ZP (fin _))))
 ·rw[q3];exact YP rfl (YP rfl (YP rfl (YP rfl (Yl (Yf rfl (Yf rfl (ZP (fin _))))))))
end Go.Ah.Tz
end
section
namespace Go.Ah.Tz
open Go.Proofs.Tryz (prog)
open Go.Proofs.YtpgifcpblbmcbaaGreatDoor.Rows (uptoBulk uptoBulkAll)
variable {H:Type}
theorem Qbn(es sp:List (DataW H)):uptoBulk (.slice es sp)=uptoBulkAll es+uptoBulkAll sp+1:=by simp only[uptoBulk]
theorem X0(d:DataW H)(ds:List (DataW H)):uptoBulkAll (d::ds)=uptoBulk d+uptoBulkAll ds:=by simp only[uptoBulkAll]
theorem Zbd(d:DataW H):1≤uptoBulk d:=by
 cases d with
 |lit l=>cases l<;>simp[uptoBulk]
 |_=>simp[uptoBulk]
theorem Yby{P:Program}{fuel:Nat}{t:TypeId}{xs:List AVal}{d:DataW H}{k:IntKind}(h:Typed P fuel t xs d)(hu:P.underlying t=some (.int k)):∃n,xs=[.int k n]∧(Lit.int k n).wf=true∧d=.lit (.int k n):=by
 cases fuel with
 |zero=>exact h.elim
 |succ f=>unfold Typed at h; rw[hu] at h; exact h
theorem Zbb{P:Program}{fuel:Nat}{e:TypeId}{X:Type}(toC:X→List AVal)(m:X→Nat)(Q:X→Prop){B:Nat}(hx:∀xs (d:DataW H),Typed P fuel e xs d→uptoBulk d≤B→∃x,xs=toC x∧Q x∧m x≤uptoBulk d) :
  ∀ {rows:List (List AVal)} {es:List (DataW H)},Two (Typed P fuel e) rows es→uptoBulkAll es≤B→∃l:List X,rows=l.map toC∧(∀x∈l,Q x)∧(l.map m).sum≤uptoBulkAll es∧l.length≤uptoBulkAll es
 |[],[],_,_=>⟨[],rfl,by simp,by simp,by simp⟩
 |r::rows,d::es,h,hb=>by
  rw[X0] at hb;obtain⟨x,e1,q1,m1⟩:=hx r d h.1 (by omega);obtain⟨l,e2,q2,s2,l2⟩:=Zbb toC m Q hx h.2 (by omega);refine⟨x::l,by rw[e1,e2]; rfl,λy hy=>?_,?_,?_⟩
  ·rcases List.mem_cons.1 hy with rfl|hy
   ·exact q1
   ·exact q2 y hy
  ·rw[List.map_cons,List.sum_cons,X0]; omega
  ·have:=Zbd d;rw[List.length_cons,X0]; omega
 |[],_::_,h,_=>h.elim
 |_::_,[],h,_=>h.elim
theorem Ybl{P:Program}{fuel:Nat}{t e:TypeId}{n:Nat}{xs:List AVal}{d:DataW H}{X:Type}(toC:X→List AVal)(m:X→Nat)(Q:X→Prop){B:Nat}(h:Typed P fuel t xs d)(hu:P.underlying t=some (.slice e))(hn:P.cellsOf e=n)
 (hx:∀f,f<fuel→∀xs (d:DataW H),Typed P f e xs d→uptoBulk d≤B→∃x,xs=toC x∧Q x∧m x≤uptoBulk d)(hb:uptoBulk d≤B) :
  ∃l:List X,xs=[.rsl false false n (l.map toC)]∧(∀x∈l,Q x)∧(l.map m).sum≤uptoBulk d∧l.length≤uptoBulk d:=by
 cases fuel with
 |zero=>exact h.elim
 |succ f=>
  unfold Typed at h;rw[hu] at h;subst hn;obtain⟨rows,rfl,⟨rfl,rfl⟩|⟨es,sp,rfl,h2⟩⟩:=h
  ·exact⟨[],rfl,by simp,by simp,by simp⟩
  ·rw[Qbn] at hb ⊢;obtain⟨l,rfl,q,s,k⟩:=Zbb toC m Q (hx f (by omega)) h2 (by omega);exact⟨l,rfl,q,by omega,by omega⟩
abbrev YX:TypeId:=3
abbrev Xbx:TypeId:=4
abbrev Xy:TypeId:=22
theorem Qby:prog.underlying YX=some (.int .i64):=by kernel_rfl
theorem Qbm:prog.underlying Xbx=some .bool:=by kernel_rfl
theorem Zbn:prog.underlying Xy=some (.slice YX):=by kernel_rfl
theorem n_int:prog.cellsOf YX=1:=by kernel_rfl
theorem ty_i(fuel:Nat)(xs:List AVal)(d:DataW H)(h:Typed prog fuel YX xs d)(_:uptoBulk d≤1048576):∃x,xs=cel x∧True∧0≤uptoBulk d:=by
 obtain⟨s,rfl,_,rfl⟩:=Yby h Qby;exact⟨s,rfl,trivial,by omega⟩
theorem Xby{fuel:Nat}{xs:List AVal}{d:DataW H}(h:Typed prog fuel Xy xs d)(hb:uptoBulk d≤1048576):∃l,xs=[rowV l]∧l.length≤2000000:=by
 obtain⟨l,rfl,_,_,k⟩:=Ybl cel (λ_=>0) (λ_=>True) h Zbn n_int (λf' _=>ty_i f') hb;exact⟨l,rfl,by omega⟩
end Go.Ah.Tz
end
section
namespace Go.Ah
inductive GT:Type 1 where
 |leaf
 |node (k np:Nat) (g:GFun) (l r:GT)
def GT.get:GT→Nat→Option (Nat×GFun)
 |.leaf,_=>none
 |.node k np g l r,f=>match Nat.beq f k with
  |true=>some (np,g)
  |false=>match Nat.blt f k with
   |true=>l.get f
   |false=>r.get f
def GT.Ok(P:Program)(GL:Globs):GT→Prop
 |.leaf=>True
 |.node k np g l r=>GOk P GL k np g∧l.Ok P GL∧r.Ok P GL
theorem GT.get_ok{P:Program}{GL:Globs}:∀ {t:GT},t.Ok P GL→∀f np g,t.get f=some (np,g)→GOk P GL f np g
 |.leaf,_,f,np,g,h=>by simp only[GT.get] at h; cases h
 |.node k np' g' l r,ok,f,np,g,h=>by
  unfold GT.get at h;obtain⟨o1,o2,o3⟩:=ok;split at h
  ·rename_i hb;have:=YNB hb;subst this;cases h;exact o1
  ·split at h
   ·exact GT.get_ok o2 f np g h
   ·exact GT.get_ok o3 f np g h
end Go.Ah
end
section
namespace Go.Ah.Tz
open Go.Proofs.Tryz (prog)
set_option maxRecDepth 100000
def g25:GFun:=λA xs b d=>match xs with
 |[x0]=>
 A.wr (Yc [jv 0,jv 0] [] b) b λc b=>A.r (Za 0) x0 b λe=>A.a e b λf=>A.k 26 [f] b λg b=>A.ws (Xa 2) c g b λ_ b=>A.opt (cellV true 2 c b) λr4=>
 d r4 b
 |_=>A.stop
theorem g25_ok:GQ 25 1 g25:=gq1 [] λ_ _ _ _ _=>by kernel_rfl
def g26:GFun:=λA xs c f=>match xs with
 |[x0]=>
 A.wr (Yc [jv 0,jv 0] [] c) c λd c=>A.r Zc x0 c λo=>A.b .gtr o (jv 240) c λp=>A.test p (A.rd (Qb [jv 0,jv 0] [(0,1)] [jv 3] c) λq=>
 A.ws (Xa 2) d q c λ_ c=>A.opt (cellV true 2 d c) λr4=>f r4 c) (A.wr (Qk [] c) c λh c=>A.r Zc x0 c λt=>A.loop (λu i c=>A.b .lss (h0 i) t c λv=>
 A.test v (joinK (λl=>A.s (Qa 12) x0 (h0 i) c λw=>A.r (Xb true 12) w c λy=>A.wr (Yc [.str [],.bool false,jv 0,jv 0,jv 0,jv 0,jv 0,jv 0,.nils,.nils,.nils,jv 0] [] c) c λg c=>
 A.ws (Xa 12) g y c λ_ c=>A.r (Za 0) g c λz=>A.a z c λa0=>A.s (Yk true true (.bool false)) h a0 c λm=>A.r (Zb 0) m c λd0=>
 A.r (Zb 1) m c λa1=>A.r (Xp .not) a1 c λa2=>A.test a2 (A.r (Za 0) g c λa3=>A.a a3 c λa4=>A.r (Za 1) g c λa5=>A.a a5 c λa6=>
 A.wr (Xn true [h,a4,a6] c) c λ_ c=>l [] c) (l [] c)) (λd1 c=>A.b .add (h0 i) (jv 1) c λa7=>u [a7] c)) (A.wr (Qk [] c) c λn c=>A.r Zc x0 c λa8=>
 A.loop (λa9 j c=>A.b .lss (h0 j) a8 c λb0=>A.test b0 (A.s (Qa 12) x0 (h0 j) c λe=>A.r Ya e c λb1=>A.r (Za 0) b1 c λb2=>
 A.a b2 c λb3=>A.s (Yk true false (.bool false)) n b3 c λb4=>A.test b4 (A.r Ya e c λb5=>A.r (Za 11) b5 c λb6=>A.a b6 c λb7=>
 A.rd (Qb [jv 0,jv 0] [(0,1),(1,1)] [jv 101,b7] c) λb8=>A.ws (Xa 2) d b8 c λ_ c=>A.opt (cellV true 2 d c) λr40=>f r40 c) (A.k 50 [e,h] c λb9 c=>
 A.r (Xp .not) b9 c λc0=>A.test c0 (A.r Ya e c λc1=>A.r (Za 11) c1 c λc2=>A.a c2 c λc3=>A.rd (Qb [jv 0,jv 0] [(0,1),(1,1)] [jv 130,c3] c) λc4=>
 A.ws (Xa 2) d c4 c λ_ c=>A.opt (cellV true 2 d c) λr47=>f r47 c) (A.r Ya e c λc5=>A.r (Za 0) c5 c λc6=>A.a c6 c λc7=>A.wr (Xn true [n,c7,.bool true] c) c λ_ c=>
 A.b .add (h0 j) (jv 1) c λc8=>a9 [c8] c))) (A.rd (Qb [jv 0,jv 0] [] [] c) λc9=>A.ws (Xa 2) d c9 c λ_ c=>A.opt (cellV true 2 d c) λr53=>
 f r53 c)) [jv 0] c)) [jv 0] c)
 |_=>A.stop
theorem g26_ok:GQ 26 1 g26:=gq1 [none,none,some [18],none,some [],none,none,some [40],none,none,none,none,none] λ_ _ _ _ _=>by kernel_rfl
def g27:GFun:=λA xs b d=>match xs with
 |[x0]=>
 A.wr (Yc [jv 0,jv 0] [] b) b λc b=>A.r (Za 0) x0 b λe=>A.a e b λf=>A.k 28 [f] b λg b=>A.ws (Xa 2) c g b λ_ b=>A.opt (cellV true 2 c b) λr4=>
 d r4 b
 |_=>A.stop
theorem g27_ok:GQ 27 1 g27:=gq1 [] λ_ _ _ _ _=>by kernel_rfl
def g28:GFun:=λA xs d l=>match xs with
 |[x0]=>
 A.wr (Yc [jv 0,jv 0] [] d) d λh d=>A.rd (Qb [.int .i8 0] [(0,1)] [.int .i8 0] d) λm=>A.wr (Yc [.int .i8 0] [] d) d λi d=>
 A.ws (Xa 1) i m d λ_ d=>A.r Zc x0 d λn=>A.loop (λo j d=>A.b .lss (h0 j) n d λp=>A.test p (A.s (Qa 12) x0 (h0 j) d λq=>A.r (Xb true 12) q d λt=>
 A.wr (Yc [.str [],.bool false,jv 0,jv 0,jv 0,jv 0,jv 0,jv 0,.nils,.nils,.nils,jv 0] [] d) d λg d=>A.ws (Xa 12) g t d λ_ d=>
 A.r (Xb true 1) i d λu=>A.r (Za 8) g d λv=>A.a v d λw=>A.k 51 [u,w] d λy d=>A.r (Xp .not) y d λe=>A.fr e (Xb true 1) i d λz=>
 A.fr e (Za 9) g d λa0=>A.fa e a0 d λa1=>A.gw e false (λk=>A.k 51 [z,a1] d k) d λa2 d=>A.fr e (Xp .not) a2 d λa3=>A.c e (.bool true) a3 d λf=>
 A.fr f (Xb true 1) i d λa4=>A.fr f (Za 10) g d λa5=>A.fa f a5 d λa6=>A.gw f false (λk=>A.k 51 [a4,a6] d k) d λa7 d=>A.fr f (Xp .not) a7 d λa8=>
 A.c f (.bool true) a8 d λa9=>A.test a9 (A.r (Za 11) g d λb0=>A.a b0 d λb1=>A.rd (Qb [jv 0,jv 0] [(0,1),(1,1)] [jv 140,b1] d) λb2=>
 A.ws (Xa 2) h b2 d λ_ d=>A.opt (cellV true 2 h d) λr30=>l r30 d) (A.b .add (h0 j) (jv 1) d λb3=>o [b3] d)) (A.rd (Qb [jv 0,jv 0] [] [] d) λb4=>
 A.ws (Xa 2) h b4 d λ_ d=>A.opt (cellV true 2 h d) λr33=>l r33 d)) [jv 0] d
 |_=>A.stop
theorem g28_ok:GQ 28 1 g28:=gq1 [none,some [9],none,none,none] λ_ _ _ _ _=>by kernel_rfl
def g29:GFun:=λA xs a c=>match xs with
 |[x0]=>
 A.wr (Yc [jv 0,jv 0] [] a) a λb a=>A.r (Xb true 2) x0 a λd=>A.k 30 [d] a λe a=>A.ws (Xa 2) b e a λ_ a=>A.opt (cellV true 2 b a) λr3=>
 c r3 a
 |_=>A.stop
theorem g29_ok:GQ 29 1 g29:=gq1 [] λ_ _ _ _ _=>by kernel_rfl
def g30:GFun:=λA xs d v=>match xs with
 |[x0]=>
 A.w1 Xg x0 d λw d=>A.wr (Yc [jv 0,jv 0] [] d) d λl d=>A.wr (Qk [] d) d λy d=>A.r (Za 1) w d λt3=>A.a t3 d λz=>A.r Zc z d λt5=>
 A.loop (λa3 m d=>A.b .lss (h0 m) t5 d λt8=>A.test t8 (A.s (Qa 7) z (h0 m) d λt9=>A.r (Xb true 7) t9 d λa4=>A.wr (Yc [.str [],jv 0,jv 0,jv 0,.nils,.nils,jv 0] [] d) d λe d=>
 A.ws (Xa 7) e a4 d λ_ d=>A.b .lss (h0 m) (jv 240) d λn=>A.tr n (Za 0) e d λa5=>A.ta n a5 d λa6=>A.gw n true (λk=>A.k 52 [a6] d k) d λa7 d=>
 A.c n a7 (.bool false) d λf=>A.tr f Qe y d λa8=>A.tr f (Za 0) e d λa9=>A.ta f a9 d λb0=>A.ts f (Yk true false (.bool false)) a8 b0 d λb1=>
 A.tr f (Xp .not) b1 d λb2=>A.c f b2 (.bool false) d λo=>A.tr o (Za 1) e d λb3=>A.ta o b3 d λb4=>A.tb o .geq b4 (jv 0) d λb5=>A.c o b5 (.bool false) d λg=>
 A.tr g (Za 1) e d λb6=>A.ta g b6 d λb7=>A.tr g (Za 2) e d λb8=>A.ta g b8 d λb9=>A.tb g .leq b7 b9 d λc0=>A.c g c0 (.bool false) d λp=>
 A.tr p (Za 2) e d λc1=>A.ta p c1 d λc2=>A.tb p .leq c2 (jv 60) d λc3=>A.c p c3 (.bool false) d λq=>A.tr q (Za 3) e d λc4=>
 A.ta q c4 d λc5=>A.tb q .geq c5 (jv 0) d λc6=>A.c q c6 (.bool false) d λt=>A.tr t (Za 3) e d λc7=>A.ta t c7 d λc8=>A.tb t .leq c8 (jv 999) d λc9=>
 A.c t c9 (.bool false) d λd0=>A.r (Za 4) e d λd1=>A.a d1 d λd2=>A.r (Za 5) e d λd3=>A.a d3 d λd4=>A.rd (Qb [.nils,.nils] [(0,1),(1,1)] [d2,d4] d) λd5=>
 A.loop (λd6 i d=>A.b .lss (h0 i) (jv 2) d λd7=>A.test d7 (A.s (Yw false 2 1) d5 (h0 i) d λa0=>A.wr (Qk [] d) d λa1 d=>A.r Zc a0 d λd8=>
 A.loop (λd9 h d=>A.b .lss (h0 h) d8 d λe0=>A.test e0 (A.s (Qa 1) a0 (h0 h) d λe1=>A.a e1 d λu=>A.r (Xb true 2) w d λe2=>A.k 53 [e2,u] d λa2 d=>
 A.r (Zb 0) a2 d λg0=>A.r (Zb 1) a2 d λe3=>A.gr (h1 h) true (λk=>A.rd (Qe [e3] d) k) λe4=>A.c (h1 h) e4 (.bool false) d λj=>
 A.tr j Qe a1 d λe5=>A.tr j Qe u d λe6=>A.ts j (Yk true false (.bool false)) e5 e6 d λe7=>A.tr j (Xp .not) e7 d λe8=>A.c j e8 (.bool false) d λe9=>
 A.wr (Xn true [a1,u,.bool true] d) d λ_ d=>A.b .add (h0 h) (jv 1) d λf0=>d9 [f0,e9] d) (A.b .add (h0 i) (jv 1) d λf1=>d6 [f1,(h1 h)] d)) [jv 0,(h1 i)] d) (
 A.r (Xp .not) (h1 i) d λf2=>A.test f2 (A.r (Za 6) e d λf3=>A.a f3 d λf4=>A.rd (Qb [jv 0,jv 0] [(0,1),(1,1)] [jv 151,f4] d) λf5=>
 A.ws (Xa 2) l f5 d λ_ d=>A.opt (cellV true 2 l d) λr78=>v r78 d) (A.r (Za 0) e d λf6=>A.a f6 d λf7=>A.wr (Xn true [y,f7,.bool true] d) d λ_ d=>
 A.b .add (h0 m) (jv 1) d λf8=>a3 [f8] d))) [jv 0,d0] d) (A.rd (Qb [jv 0,jv 0] [] [] d) λf9=>A.ws (Xa 2) l f9 d λ_ d=>A.opt (cellV true 2 l d) λr83=>
 v r83 d)) [jv 0] d
 |_=>A.stop
theorem g30_ok:GQ 30 1 g30:=gq1 [none,some [18],none,none,none,some [69,6],none,none,none,some [75,6],none,none,none] λ_ _ _ _ _=>by kernel_rfl
def g31:GFun:=λA xs c e=>match xs with
 |[x0,x1]=>
 A.r Zc x0 c λf=>A.loop (λg d c=>A.b .lss (h0 d) f c λh=>A.test h (A.s (Qa 1) x0 (h0 d) c λi=>A.a i c λj=>A.call .callv [x1,j] c λl c=>
 A.test l (e (h0 d) c) (A.b .add (h0 d) (jv 1) c λm=>g [m] c)) (e (jv (-1)) c)) [jv 0] c
 |_=>A.stop
theorem g31_ok:GQ 31 2 g31:=gq2 [none,some [8],none,none,none] λ_ _ _ _ _ _=>by kernel_rfl
def g32:GFun:=λA xs d g=>match xs with
 |[x0,x1]=>
 A.r Ya x1 d λi=>A.r (Xb true 23) i d λj=>A.wr (Yc zq0 [] d) d λf d=>A.ws (Xa 23) f j d λ_ d=>A.r Ya x1 d λl=>A.r (Za 2) l d λm=>
 A.a m d λn=>A.b .eql n (.int .i8 1) d λe=>A.tr e Qe x1 d λo=>A.tr e Ya o d λp=>A.tr e (Za 5) p d λq=>A.ta e q d λs=>A.tr e Zc s d λt=>
 A.tb e .eql t (jv 0) d λu=>A.c e u (.bool false) d λv=>joinK (λh=>A.test v (A.r Ya x1 d λw=>A.r (Za 3) w d λy=>A.a y d λz=>
 A.r (Xp .not) z d λa0=>A.test a0 (g (.bool false) d) (A.r (Za 2) f d λa1=>A.ws (Xa 1) a1 (.int .i8 0) d λ_ d=>h [] d)) (h [] d)) (λb0 d=>
 A.pu (Ya [x0] d) λa2=>A.dr (Xb true 2 [a2] d) d λa3 a4 d=>A.dr (Xb true 23 [f] d) d λa5 a6 d=>A.dcall (.call 35) [a3,a5] d λa7 a8 d=>
 A.pu (Yi .eql false [a7,jv 0] d) λa9=>A.gd (Qd [[],[0],[0,1],[],[0,1,2,3],[0,1,2,3,4],[0,1,2,3,4,5]] [([],[]),([],[]),a4,a6,a8,([],[]),([],[])]) <|
 g a9 d)
 |_=>A.stop
theorem g32_ok:GQ 32 2 g32:=gq2 [some [],none] λ_ _ _ _ _ _=>by kernel_rfl
def g33:GFun:=λA xs d j=>match xs with
 |[x0,x1,x2]=>
 A.w1 Xg x0 d λo d=>A.w1 Xg x1 d λp d=>A.wr (Yc zq0 [] d) d λf d=>A.wr (Yc zq1 [] d) d λg d=>A.k 54 [o,p] d λi d=>A.s (ZL .ptr false false) i .nilp d λq=>
 A.test q (A.rd (Qb zq0 [] [] d) λt=>A.rd (Qb zq1 [] [] d) λu=>A.ws (Xa 23) f t d λ_ d=>A.ws (Xa 7) g u d λ_ d=>A.opt (cellV true 23 f d) λr8=>
 A.opt (cellV true 7 g d) λr9=>j (.tup [r8,r9,jv 170]) d) (A.b .lss x2 (jv 0) d λm=>A.fr m Qe x2 d λv=>A.fb m .gtr v (jv 1) d λw=>A.c m (.bool true) w d λy=>
 A.test y (A.rd (Qb zq0 [] [] d) λz=>A.rd (Qb zq1 [] [] d) λa0=>A.ws (Xa 23) f z d λ_ d=>A.ws (Xa 7) g a0 d λ_ d=>A.opt (cellV true 23 f d) λr16=>
 A.opt (cellV true 7 g d) λr17=>j (.tup [r16,r17,jv 2]) d) (A.r Ya i d λa1=>A.r (Za 1) a1 d λa2=>A.r (Za 7) a2 d λa3=>
 A.s (Xc 2 8) a3 x2 d λe=>A.rd (Qb zq1 [(0,1),(1,1)] [.int .i8 3,x2] d) λa4=>A.wr (Yc zq1 [] d) d λh d=>A.ws (Xa 7) h a4 d λ_ d=>
 joinK (λn=>A.r Ya e d λa5=>A.r (Za 3) a5 d λa6=>A.a a6 d λa7=>A.r Zc a7 d λa8=>A.b .eql a8 (jv 0) d λa9=>A.test a9 (
 A.r (Za 2) h d λb0=>A.ws (Xa 1) b0 (jv (-1)) d λ_ d=>A.r Ya e d λb1=>A.r (Za 0) b1 d λb2=>A.a b2 d λb3=>A.b .sub b3 (jv 1) d λb4=>
 A.r Ya e d λb5=>A.r (Za 0) b5 d λb6=>A.ws (Xa 1) b6 b4 d λ_ d=>A.r Ya e d λb7=>A.r (Za 0) b7 d λb8=>A.a b8 d λb9=>
 A.k 55 [b9] d λc0 d=>A.r (Xp .not) c0 d λc1=>A.test c1 (A.rd (Qb zq0 [] [] d) λc2=>A.rd (Qb zq1 [] [] d) λc3=>A.ws (Xa 23) f c2 d λ_ d=>
 A.ws (Xa 7) g c3 d λ_ d=>A.opt (cellV true 23 f d) λr45=>A.opt (cellV true 7 g d) λr46=>j (.tup [r45,r46,jv 171]) d) (n [] d)) (A.r Ya e d λc4=>
 A.r (Za 4) c4 d λc5=>A.a c5 d λc6=>A.r Zc c6 d λc7=>A.b .geq c7 (jv 10) d λc8=>A.test c8 (A.r (Za 0) h d λc9=>A.ws (Xa 1) c9 (.int .i8 4) d λ_ d=>
 A.pu (Ya [e] d) λd0=>A.pu (Za 3 [d0] d) λd1=>A.pu (Ya [e] d) λd2=>A.pu (Za 5 [d2] d) λd3=>A.dcall (.call 56) [d1,d3] d λd4 d5 d=>
 A.pu (Za 2 [h] d) λd6=>A.dr (Xa 1 [d6,d4] d) d λ_ d7 d=>A.gd (Qd [[],[0],[0,1],[],[3],[3,4],[0,1,2,3,4,5],[0,1,2,3,4,5,6],[0,1,2,3,4,5,6,7]] [([],[]),([],[]),([],[]),([],[]),([],[]),([],[]),d5,([],[]),d7]) <|
 A.loop (λd8 l d=>A.b .lss (h0 l) (jv 2) d λd9=>A.test d9 (A.pu (Ya [i] d) λe0=>A.pu (Za 1 [e0] d) λe1=>A.pu (Za 7 [e1] d) λe2=>
 A.pu (Xc 2 8 [e2,(h0 l)] d) λe3=>A.pu (Za 7 [e3] d) λe4=>A.dr (Xd [e4] d) d λe5 e6 d=>A.pu (Za 2 [h] d) λe7=>A.dr (Xd [e7] d) d λe8 e9 d=>
 A.dr (Xf 1 1 [jv 0] [(0,1)] [e8] d) d λf0 f1 d=>A.dr (Zg 1 8 [e5,f0] d) d λf2 f3 d=>A.pu (Ya [i] d) λf4=>A.pu (Za 1 [f4] d) λf5=>
 A.pu (Za 7 [f5] d) λf6=>A.pu (Xc 2 8 [f6,(h0 l)] d) λf7=>A.pu (Za 7 [f7] d) λf8=>A.dr (Xa 1 [f8,f2] d) d λ_ f9 d=>
 A.gd (Qd [[],[],[],[],[2],[2,4],[2,4,5],[2,3,4,5,6],[2,3,4,5,6,7],[2,3,4,5,6,7,8],[],[10],[10,11],[2,3,4,5,6,7,8,9,10,11,12],[0],[0,14],[0,14,15],[0,1,2,3,4,5,6,7,8,9,10,11,12,13,14,15,16],[0,1,2,3,4,5,6,7,8,9,10,11,12,13,14,15,16,17],[0,1,2,3,4,5,6,7,8,9,10,11,12,13,14,15,16,17,18]] [([],[]),([],[]),([],[]),([],[]),([],[]),([],[]),([],[]),([],[]),([],[]),e6,([],[]),e9,f1,f3,([],[]),([],[]),([],[]),([],[]),([],[]),f9]) <|
 A.b .add (h0 l) (jv 1) d λg0=>d8 [g0] d) (n [] d)) [jv 0] d) (A.pu (Ya [e] d) λg1=>A.pu (Za 3 [g1] d) λg2=>A.pu (Ya [e] d) λg3=>
 A.pu (Za 4 [g3] d) λg4=>A.dcall (.call 56) [g2,g4] d λg5 g6 d=>A.pu (Za 2 [h] d) λg7=>A.dr (Xa 1 [g7,g5] d) d λ_ g8 d=>
 A.gd (Qd [[],[0],[0,1],[],[3],[3,4],[0,1,2,3,4,5],[0,1,2,3,4,5,6],[0,1,2,3,4,5,6,7]] [([],[]),([],[]),([],[]),([],[]),([],[]),([],[]),g6,([],[]),g8]) <|
 A.pu (Ya [e] d) λg9=>A.pu (Za 7 [g9] d) λi0=>A.dr (Xd [i0] d) d λi1 i2 d=>A.pu (Za 2 [h] d) λi3=>A.dr (Xd [i3] d) d λi4 i5 d=>
 A.dr (Xf 1 1 [jv 0] [(0,1)] [i4] d) d λi6 i7 d=>A.dr (Zg 1 8 [i1,i6] d) d λi9 j0 d=>A.pu (Ya [e] d) λj1=>A.pu (Za 7 [j1] d) λj2=>
 A.dr (Xa 1 [j2,i9] d) d λ_ j3 d=>A.gd (Qd [[],[],[1],[1,2],[1,2,3],[],[5],[5,6],[1,2,3,4,5,6,7],[0,1,2,3,4,5,6,7,8],[0,1,2,3,4,5,6,7,8,9],[0,1,2,3,4,5,6,7,8,9,10]] [([],[]),([],[]),([],[]),([],[]),i2,([],[]),i5,i7,j0,([],[]),([],[]),j3]) <|
 n [] d))) (λl4 d=>A.pu (Ya [i] d) λj4=>A.pu (Za 1 [j4] d) λj5=>A.dr (Xb true 23 [j5] d) d λj6 j7 d=>A.dcall (.call 18) [j6] d λj8 j9 d=>
 A.dr (Xb true 7 [h] d) d λl0 l1 d=>A.dr (Xa 23 [f,j8] d) d λ_ l2 d=>A.dr (Xa 7 [g,l0] d) d λ_ l3 d=>A.gd (Qd [[],[0],[0,1],[0,1,2],[0,1,2,3],[],[0,1,2,3,4],[0,1,2,3,4,5,6],[0,1,2,3,4,5,6,7]] [([],[]),([],[]),([],[]),j7,j9,l1,l2,l3,([],[])]) <|
 A.opt (cellV true 23 f d) λr117=>A.opt (cellV true 7 g d) λr118=>j (.tup [r117,r118,jv 0]) d)))
 |_=>A.stop
theorem g33_ok:GQ 33 3 g33:=gq3 [none,none,none,some [],none,none,none,none,some [94],none,none] λ_ _ _ _ _ _ _=>by kernel_rfl
def g34:GFun:=λA xs d m=>match xs with
 |[x0,x1,x2,x3]=>
 A.w1 Xg x0 d λg d=>A.w1 Xg x1 d λe d=>A.w1 Xg x3 d λh d=>A.wr (Yc zq0 [] d) d λf d=>A.a h d λt4=>A.s Z6 t4 (jv 0) d λt5=>
 A.s XV t5 (jv 1000) d λt6=>A.ws (Xa 1) h t6 d λ_ d=>A.r Zc x2 d λt7=>A.b .gtr t7 (jv 1000) d λt=>A.gw t false (λk=>A.k 32 [g,e] d k) d λt9 d=>
 A.fr t (Xp .not) t9 d λb2=>A.c t (.bool true) b2 d λb3=>A.test b3 (A.rd (Qb zq0 [] [] d) λb4=>A.ws (Xa 23) f b4 d λ_ d=>A.opt (cellV true 23 f d) λr13=>
 m (.tup [r13,.nils,jv 0,jv 170]) d) (A.r Zc x2 d λb5=>A.loop (λb6 u d=>A.b .lss (h0 u) b5 d λb7=>A.test b7 (A.s (Qa 3) x2 (h0 u) d λb8=>
 A.r (Xb true 3) b8 d λb9=>A.wr (Yc zq2 [] d) d λn d=>A.ws (Xa 3) n b9 d λ_ d=>A.r (Za 0) n d λc0=>A.a c0 d λc1=>A.b .lss c1 (jv 0) d λi=>
 A.fr i (Za 0) n d λc2=>A.fa i c2 d λc3=>A.fr i (Za 0) g d λc4=>A.fa i c4 d λc5=>A.fr i Zc c5 d λc6=>A.fb i .geq c3 c6 d λc7=>
 A.c i (.bool true) c7 d λo=>A.fr o (Za 1) n d λc8=>A.fa o c8 d λc9=>A.fb o .lss c9 (jv 0) d λd0=>A.c o (.bool true) d0 d λp=>A.fr p (Za 1) n d λd1=>
 A.fa p d1 d λd2=>A.fb p .gtr d2 (jv 1) d λd3=>A.c p (.bool true) d3 d λd4=>A.test d4 (A.rd (Qb zq0 [] [] d) λd5=>A.ws (Xa 23) f d5 d λ_ d=>
 A.opt (cellV true 23 f d) λr40=>m (.tup [r40,.nils,jv 0,jv 170]) d) (A.b .add (h0 u) (jv 1) d λd6=>b6 [d6] d)) (A.r (Xb true 23) e d λd7=>
 A.k 18 [d7] d λd8 d=>A.ws (Xa 23) e d8 d λ_ d=>A.wr (Yc [.nils] [] d) d λj d=>A.r (Za 2) e d λd9=>A.a d9 d λe0=>A.b .eql e0 (.int .i8 2) d λe1=>
 A.test e1 (A.dr (Xb true 23 [e] d) d λe2 e3 d=>A.dr (Xd [h] d) d λe4 e5 d=>A.dr (Xa 23 [f,e2] d) d λ_ e6 d=>A.gd (Qd [[],[],[0],[0,2],[0,1,2,3],[0,1,2,3,4]] [e3,e5,e6,([],[]),([],[]),([],[])]) <|
 A.opt (cellV true 23 f d) λr53=>m (.tup [r53,.nils,e4,jv 0]) d) (A.rd (Qb [.nils] [] [] d) λe7=>A.w1 Xg e7 d λv d=>A.k 57 [v,x2] d λr7 d=>
 A.rd (Xe (.func 58) 0 [g,e,h,j] d) λe8=>joinK (λw=>A.loop (λe9 r8 d=>A.r (Xb true 2) g d λf0=>A.r (Xb true 23) e d λf1=>A.k 59 [f0,f1] d λf2 d=>
 A.loop (λf3 q d=>A.r Zc (h0 q) d λf4=>A.b .gtr f4 (jv 0) d λf5=>A.test f5 (A.r Zc (h0 q) d λf6=>A.loop (λf7 y d=>A.b .lss (h0 y) f6 d λf8=>
 A.test f8 (joinK (λa1=>A.s (Qa 1) (h0 q) (h0 y) d λf9=>A.a f9 d λg0=>A.r (Xb true 23) e d λg1=>A.k 60 [g1,g0] d λz d=>A.r (Zb 0) z d λa2=>
 A.r (Zb 1) z d λg2=>A.r (Zb 2) z d λr9=>A.r (Za 7) e d λg3=>A.s (Xc 2 8) g3 a2 d λg4=>A.r (Za 6) g4 d λg5=>
 A.a g5 d λg6=>A.s (Qa 4) g6 g2 d λg7=>A.r (Za 1) g7 d λg8=>A.a g8 d λa3=>A.r (Za 0) g d λg9=>A.a g9 d λi0=>A.s (Qa 12) i0 a3 d λi1=>
 A.r (Za 9) i1 d λi2=>A.a i2 d λi3=>A.r Zc i3 d λi4=>A.b .gtr i4 (jv 0) d λi5=>A.test i5 (A.rd (Qb zq2 [(0,1),(1,1)] [a3,a2] d) λi6=>
 A.wr (Xf 3 1 zq2 [(0,3)] [i6] d) d λi7 d=>A.k 57 [v,i7] d λs0 d=>a1 [] d) (a1 [] d)) (λs1 d=>A.b .add (h0 y) (jv 1) d λi9=>f7 [i9] d)) (
 A.r (Xb true 2) g d λj0=>A.r (Xb true 23) e d λj1=>A.k 61 [j0,j1,(h0 q)] d λa4 d=>A.r (Zb 0) a4 d λj2=>A.r (Zb 1) a4 d λj3=>
 A.wr (Yc zq0 [] d) d λa5 d=>A.ws (Xa 23) a5 j2 d λ_ d=>A.dr (Xb true 23 [a5] d) d λj4 j5 d=>A.dr (Xd [j] d) d λj6 j7 d=>A.dr (Zg 7 72 [j6,j3] d) d λj8 j9 d=>
 A.dr (Xa 23 [e,j4] d) d λ_ l0 d=>A.dr (Xa 1 [j,j8] d) d λ_ l1 d=>A.gd (Qd [[],[],[],[1,2],[0,1,2,3],[0,1,2,3,4]] [j5,j7,([],[]),j9,l0,l1]) <|
 A.r (Xb true 2) g d λl2=>A.r (Xb true 23) e d λl3=>A.k 59 [l2,l3] d λl4 d=>f3 [l4] d)) [jv 0] d) (A.k 62 [e] d λa6 d=>A.b .neq a6 (.int .i8 0) d λl5=>
 A.test l5 (w [a6] d) (A.k 63 [v] d λa7 d=>A.r (Zb 0) a7 d λl6=>A.r (Zb 1) a7 d λl7=>A.wr (Yc zq2 [] d) d λl d=>A.ws (Xa 3) l l6 d λ_ d=>
 A.r (Xp .not) l7 d λl8=>A.test l8 (A.dr (Xb true 23 [e] d) d λl9 m0 d=>A.dr (Xd [j] d) d λm1 m2 d=>A.dr (Xd [h] d) d λm3 m4 d=>A.dr (Xa 23 [f,l9] d) d λ_ m5 d=>
 A.gd (Qd [[],[],[],[0],[0,1,3],[0,1,2,3,4],[0,1,2,3,4,5]] [m0,m2,m4,m5,([],[]),([],[]),([],[])]) <| A.opt (cellV true 23 f d) λr131=>
 m (.tup [r131,m1,m3,jv 0]) d) (A.a h d λm6=>A.b .eql m6 (jv 0) d λm7=>A.test m7 (w [.int .i8 3] d) (A.a h d λm8=>A.b .sub m8 (jv 1) d λm9=>
 A.ws (Xa 1) h m9 d λ_ d=>A.a j d λn0=>A.r (Za 1) l d λn1=>A.a n1 d λn2=>A.r (Za 0) l d λn3=>A.a n3 d λn4=>A.rd (Qb zq1 [(0,1),(1,1),(2,1)] [.int .i8 14,n2,n4] d) λn5=>
 A.wr (Xf 7 1 zq1 [(0,7)] [n5] d) d λn6 d=>A.wr (Zg 7 72 [n0,n6] d) d λn7 d=>A.ws (Xa 1) j n7 d λ_ d=>A.r (Za 0) g d λn8=>
 A.a n8 d λn9=>A.r (Za 0) l d λo0=>A.a o0 d λo1=>A.s (Qa 12) n9 o1 d λo2=>A.r (Za 9) o2 d λo3=>A.a o3 d λo4=>A.r (Za 2) l d λo5=>
 A.a o5 d λo6=>joinK (λa8=>A.test o6 (A.r (Za 0) g d λo7=>A.a o7 d λo8=>A.r (Za 0) l d λo9=>A.a o9 d λp0=>A.s (Qa 12) o8 p0 d λp1=>
 A.r (Za 10) p1 d λp2=>A.a p2 d λp3=>a8 [p3] d) (a8 [o4] d)) (λp4 d=>A.r (Xb true 3) l d λp5=>A.call .callv [e8,p5,(h0 p4)] d λa0 d=>
 A.b .eql a0 (jv 0) d λp6=>A.test p6 (e9 [] d) (A.b .eql a0 (jv 190) d λp7=>A.test p7 (w [.int .i8 3] d) (A.rd (Qb zq0 [] [] d) λp8=>A.ws (Xa 23) f p8 d λ_ d=>
 A.opt (cellV true 23 f d) λr167=>m (.tup [r167,.nils,jv 0,a0]) d)))))))) [f2] d) [] d) (λp9 d=>A.r (Xb true 2) g d λq0=>A.r (Xb true 23) e d λq1=>
 A.k 64 [q0,q1,(h0 p9)] d λa9 d=>A.r (Zb 0) a9 d λq2=>A.r (Zb 1) a9 d λq3=>A.wr (Yc zq0 [] d) d λb0 d=>A.wr (Yc zq1 [] d) d λb1 d=>
 A.ws (Xa 23) b0 q2 d λ_ d=>A.ws (Xa 7) b1 q3 d λ_ d=>A.dr (Xb true 23 [b0] d) d λq4 q5 d=>A.dr (Xd [j] d) d λq6 q7 d=>A.dr (Xb true 7 [b1] d) d λq8 q9 d=>
 A.dr (Xf 7 1 zq1 [(0,7)] [q8] d) d λr0 r1 d=>A.dr (Zg 7 72 [q6,r0] d) d λr2 r3 d=>A.dr (Xd [h] d) d λr4 r5 d=>A.dr (Xa 23 [f,q4] d) d λ_ r6 d=>
 A.gd (Qd [[],[],[],[2],[1,2,3],[],[0,1,2,3,4],[0,1,2,3,4,6],[0,1,2,3,4,5,6,7],[0,1,2,3,4,5,6,7,8]] [q5,q7,q9,r1,r3,r5,r6,([],[]),([],[]),([],[])]) <|
 A.opt (cellV true 23 f d) λr188=>m (.tup [r188,r2,r4,jv 0]) d)))) [jv 0] d)
 |_=>A.stop
theorem g34_ok:GQ 34 4 g34:=gq4 [none,none,some [46],none,none,none,none,some [17],some [],none,none,some [18],none,none,none,some [97],none,some [],none,none,none,none,some [29],none,none,none] λ_ _ _ _ _ _ _ _=>by kernel_rfl
def g35:GFun:=λA xs a b=>match xs with
 |[x0,x1]=>
 A.w1 Xg x0 a λc a=>A.w1 Xg x1 a λd a=>A.k 65 [c,d,.bool false] a λe a=>A.r (Xp .not) e a λf=>A.test f (b (jv 170) a) (b (jv 0) a)
 |_=>A.stop
theorem g35_ok:GQ 35 2 g35:=gq2 [none] λ_ _ _ _ _ _=>by kernel_rfl
def g36:GFun:=λA xs c f=>match xs with
 |[x0,x1,x2]=>
 A.r Ya x2 c λn=>A.r (Za 1) n c λo=>A.a o c λp=>A.b .lss p (jv 0) c λg=>joinK (λe=>A.test g (e [g] c) (A.r Ya x2 c λq=>
 A.r (Za 1) q c λs=>A.a s c λt=>A.b .gtr t (jv 1) c λh=>A.test h (e [h] c) (A.r Ya x2 c λu=>A.r (Za 0) u c λv=>A.a v c λw=>
 A.b .lss w (.int .i8 0) c λi=>A.test i (e [i] c) (A.r Ya x2 c λy=>A.r (Za 0) y c λz=>A.a z c λa0=>A.b .gtr a0 (.int .i8 4) c λj=>
 A.test j (e [j] c) (A.k 66 [x2] c λa1 c=>A.r (Xp .not) a1 c λa2=>e [a2] c))))) (λv5 c=>A.test (h0 v5) (f (jv 2) c) (A.pu (Ya [x2] c) λa3=>
 A.pu (Za 0 [a3] c) λa4=>A.dr (Xd [a4] c) c λa5 a6 c=>A.pu (Yi .neq false [a5,.int .i8 4] c) λd=>A.gr d true (λk=>A.pu (Qe [x2] c) k) λa7=>
 A.gr d true (λk=>A.pu (Ya [a7] c) k) λa8=>A.gr d true (λk=>A.pu (Za 1 [a8] c) k) λa9=>A.gl d true (λk=>A.dr (Xd [a9] c) c k) c λb0 b1 c=>
 A.gr d true (λk=>A.pu (Qe [x1] c) k) λb2=>A.gr d true (λk=>A.pu (Ya [b2] c) k) λb3=>A.gl d true (λk=>A.dr (Xb true 23 [b3] c) c k) c λb4 b5 c=>
 A.gl d true (λk=>A.dcall (.call 67) [b4] c k) c λb6 b7 c=>A.gr d true (λk=>A.pu (Yi .neq false [b0,b6] c) k) λb8=>A.pu (XB [d,b8,.bool false] c) λl=>
 A.gd (Qd [[],[0],[0,1],[0,1,2],[0,1,2,3],[0,1,2,3,4],[0,1,2,3,4,5],[0,1,2,3,4,5,6],[0,1,2,3,4,5,6,7],[0,1,2,3,4,5,6,7,8],[0,1,2,3,4,5],[0,1,2,3,4,5,10],[0,1,2,3,4,5,10,11],[0,1,2,3,4,5,10,11,12],[0,1,2,3,4,5,6,7,8,9,10,11,12,13],[0,1,2,3,4,5,6,7,8,9,10,11,12,13,14],[0,1,2,3,4,5,6,7,8,9,10,11,12,13,14,15]] [([],[]),([],[]),([],[]),a6,([],[]),([],[]),([],[]),([],[]),([],[]),b1,([],[]),([],[]),b5,b7,([],[]),([],[]),([],[])]) <|
 joinK (λm=>A.test l (m [l] c) (A.dcall (.call 68) [] c λb9 c0 c=>A.pu (Ya [x2] c) λc1=>A.pu (Za 0 [c1] c) λc2=>A.dr (Xd [c2] c) c λc3 c4 c=>
 A.pu (Yw false 5 1 [b9,c3] c) λc5=>A.pu (Qb [.nilp,.nilp,.nilp] [(0,1),(1,1),(2,1)] [x0,x1,x2] c) λc6=>A.dcall .callv [c5,c6] c λc7 c8 c=>
 A.pu (Xp .not [c7] c) λc9=>A.gd (Qd [[],[],[1],[1,2],[1,2,3],[0,1,2,3,4],[],[],[],[6,7,8],[0,1,2,3,4,5,6,7,8,9],[0,1,2,3,4,5,6,7,8,9,10],[0,1,2,3,4,5,6,7,8,9,10,11]] [c0,([],[]),([],[]),([],[]),c4,([],[]),([],[]),([],[]),([],[]),([],[]),c8,([],[]),([],[])]) <|
 m [c9] c)) (λd0 c=>A.test (h0 d0) (f (jv 210) c) (f (jv 0) c))))
 |_=>A.stop
theorem g36_ok:GQ 36 3 g36:=gq3 [none,some [7],none,none,none,none,some [31],none] λ_ _ _ _ _ _ _=>by kernel_rfl
def g37:GFun:=λA xs a b=>match xs with
 |[x0]=>
 A.s (ZL .slice false false) x0 .nils a λc=>A.test c (b .nils a) (A.rd (XO 4 [] a) λd=>A.wr (Zg 4 32 [d,x0] a) a λe a=>b e a)
 |_=>A.stop
theorem g37_ok:GQ 37 1 g37:=gq1 [none] λ_ _ _ _ _=>by kernel_rfl
def g42:GFun:=λA xs a c=>match xs with
 |[x0,x1,x2,x3]=>
 A.w1 Xg x1 a λd a=>A.b .eql x3 (jv 0) a λe=>A.test e (A.dr (Xb true 23 [d] a) a λf g a=>A.pu (Ya [x0] a) λh=>A.pu (Za 31 [h] a) λi=>
 A.dr (Xd [i] a) a λj l a=>A.dr (Zg 7 72 [j,x2] a) a λm n a=>A.pu (Ya [x0] a) λo=>A.pu (Za 2 [o] a) λp=>A.dr (Xa 23 [p,f] a) a λ_ q a=>
 A.pu (Ya [x0] a) λr=>A.pu (Za 31 [r] a) λs=>A.dr (Xa 1 [s,m] a) a λ_ t a=>A.gd (Qd [[],[],[],[],[3],[3,4],[3,4,5],[],[3,4,5,6,7],[0,2,3,4,5,6,7,8],[0,2,3,4,5,6,7,8,9],[0,2,3,4,5,6,7,8,9,10],[0,1,2,3,4,5,6,7,8,9,10,11],[0,1,2,3,4,5,6,7,8,9,10,11,12],[0,1,2,3,4,5,6,7,8,9,10,11,12,13]] [([],[]),([],[]),g,([],[]),([],[]),([],[]),l,([],[]),n,([],[]),([],[]),q,([],[]),([],[]),t]) <|
 c x3 a) (c x3 a)
 |_=>A.stop
theorem g42_ok:GQ 42 4 g42:=gq4 [none] λ_ _ _ _ _ _ _ _=>by kernel_rfl
def g45:GFun:=λA xs a e=>match xs with
 |[x0,x1]=>
 A.pu (Ya [x0] a) λf=>A.pu (Za 0 [f] a) λg=>A.dr (Xb true 2 [g] a) a λh i a=>A.pu (Ya [x0] a) λj=>A.pu (Za 2 [j] a) λl=>
 A.dr (Xb true 23 [l] a) a λm n a=>A.dcall (.call 64) [h,m,x1] a λb o a=>A.pu (Zb 0 [b] a) λp=>A.pu (Zb 1 [b] a) λq=>A.dr (Yc zq0 [] a) a λc s a=>
 A.dr (Yc zq1 [] a) a λd t a=>A.dr (Xa 23 [c,p] a) a λ_ u a=>A.dr (Xa 7 [d,q] a) a λ_ v a=>A.gd (Qd [[],[0],[0,1],[0,1,2],[],[4],[4,5],[4,5,6],[],[0,1,2,3,4,5,6,7,8],[0,1,2,3,4,5,6,7,8,9],[0,1,2,3,4,5,6,7,8,9,10],[0,1,2,3,4,5,6,7,8,9,10],[],[],[0,1,2,3,4,5,6,7,8,9,10,11,13,14],[0,1,2,3,4,5,6,7,8,9,10,11,12,13,14,15]] [([],[]),([],[]),([],[]),i,([],[]),([],[]),([],[]),n,([],[]),o,([],[]),([],[]),([],[]),s,t,u,v]) <|
 A.r (Xb true 23) c a λw=>A.r (Xb true 7) d a λy=>A.wr (Xf 7 1 zq1 [(0,7)] [y] a) a λz a=>A.k 42 [x0,w,z,jv 0] a λa0 a=>e a0 a
 |_=>A.stop
theorem g45_ok:GQ 45 2 g45:=gq2 [] λ_ _ _ _ _ _=>by kernel_rfl
def g50:GFun:=λA xs d i=>match xs with
 |[x0,x1]=>
 A.r Ya x0 d λt=>A.r (Za 2) t d λu=>A.a u d λv=>A.r Ya x0 d λw=>A.r (Za 3) w d λy=>A.a y d λz=>A.r Ya x0 d λt6=>
 A.r (Za 4) t6 d λt7=>A.a t7 d λt8=>A.r Ya x0 d λt9=>A.r (Za 5) t9 d λa0=>A.a a0 d λa1=>A.r Ya x0 d λa2=>
 A.r (Za 6) a2 d λa3=>A.a a3 d λa4=>A.r Ya x0 d λa5=>A.r (Za 7) a5 d λa6=>A.a a6 d λa7=>A.rd (Qb [jv 0,jv 0,jv 0,jv 0,jv 0,jv 0] [(0,1),(1,1),(2,1),(3,1),(4,1),(5,1)] [v,z,t8,a1,a4,a7] d) λa8=>
 A.loop (λa9 l d=>A.b .lss (h0 l) (jv 6) d λb0=>A.test b0 (A.s (Yw false 6 1) a8 (h0 l) d λo=>A.b .lss o (jv 0) d λm=>A.fr m Qe o d λb1=>
 A.fb m .gtr b1 (jv 999) d λb2=>A.c m (.bool true) b2 d λb3=>A.test b3 (i (.bool false) d) (A.b .add (h0 l) (jv 1) d λb4=>a9 [b4] d)) (A.r Ya x0 d λb5=>
 A.r (Za 0) b5 d λb6=>A.a b6 d λb7=>A.k 52 [b7] d λb8 d=>A.r (Xp .not) b8 d λp=>joinK (λn=>A.test p (n [p] d) (A.r Ya x0 d λb9=>
 A.r (Xb true 12) b9 d λc0=>A.k 80 [c0] d λc1 d=>A.b .gtr c1 (jv 200) d λq=>A.test q (n [q] d) (A.r Ya x0 d λc2=>A.r (Za 1) c2 d λc3=>
 A.a c3 d λh=>A.tr h Qe x0 d λc4=>A.tr h Ya c4 d λc5=>A.tr h (Za 4) c5 d λc6=>A.ta h c6 d λc7=>A.tb h .lss c7 (jv 1) d λc8=>
 A.c h c8 (.bool false) d λc9=>n [c9] d))) (λd0 d=>A.test (h0 d0) (i (.bool false) d) (A.r Ya x0 d λd1=>A.r (Za 1) d1 d λd2=>A.a d2 d λd3=>
 A.r (Xp .not) d3 d λe=>A.tr e Qe x0 d λd4=>A.tr e Ya d4 d λd5=>A.tr e (Za 3) d5 d λd6=>A.ta e d6 d λd7=>A.tr e Qe x0 d λd8=>
 A.tr e Ya d8 d λd9=>A.tr e (Za 4) d9 d λe0=>A.ta e e0 d λe1=>A.tb e .add d7 e1 d λe2=>A.tr e Qe x0 d λe3=>A.tr e Ya e3 d λe4=>
 A.tr e (Za 5) e4 d λe5=>A.ta e e5 d λe6=>A.tb e .add e2 e6 d λe7=>A.tr e Qe x0 d λe8=>A.tr e Ya e8 d λe9=>A.tr e (Za 6) e9 d λf0=>
 A.ta e f0 d λf1=>A.tb e .add e7 f1 d λf2=>A.tr e Qe x0 d λf3=>A.tr e Ya f3 d λf4=>A.tr e (Za 7) f4 d λf5=>A.ta e f5 d λf6=>
 A.tb e .add f2 f6 d λf7=>A.tb e .gtr f7 (jv 0) d λf8=>A.tr e Qe f8 d λf=>A.fr f Qe x0 d λf9=>A.fr f Ya f9 d λg0=>A.fr f (Za 9) g0 d λg1=>
 A.fa f g1 d λg2=>A.fr f Zc g2 d λg3=>A.fr f Qe x0 d λg4=>A.fr f Ya g4 d λg5=>A.fr f (Za 10) g5 d λg6=>A.fa f g6 d λg7=>
 A.fr f Zc g7 d λg8=>A.fb f .add g3 g8 d λg9=>A.fb f .gtr g9 (jv 0) d λi0=>A.tc e f (.bool true) i0 d λi1=>A.c e i1 (.bool false) d λi2=>
 A.test i2 (i (.bool false) d) (A.rd (Qb [.nilmap,.bool false] [(0,1),(1,1)] [x1,.bool true] d) λi3=>A.w1 Xg i3 d λj d=>A.r Ya x0 d λi4=>
 A.r (Za 8) i4 d λi5=>A.a i5 d λi6=>A.k 81 [j,i6,jv 1] d λi7 d=>A.r (Xp .not) i7 d λi8=>A.test i8 (i (.bool false) d) (A.r Ya j d λi9=>
 A.r (Za 1) i9 d λj0=>A.ws (Xa 1) j0 (.bool false) d λ_ d=>A.r Ya x0 d λj1=>A.r (Za 9) j1 d λj2=>A.a j2 d λj3=>
 A.k 81 [j,j3,jv 1] d λg d=>A.tr g Qe j d λj4=>A.tr g Qe x0 d λj5=>A.tr g Ya j5 d λj6=>A.tr g (Za 10) j6 d λj7=>A.ta g j7 d λj8=>
 A.gw g true (λk=>A.k 81 [j4,j8,jv 1] d k) d λj9 d=>A.c g j9 (.bool false) d λl0=>i l0 d)))))) [jv 0] d
 |_=>A.stop
theorem g50_ok:GQ 50 2 g50:=gq2 [none,some [33],none,none,none,none,some [43],none,none,none,none] λ_ _ _ _ _ _=>by kernel_rfl
def g51:GFun:=λA xs a d=>match xs with
 |[x0,x1]=>
 A.w1 Xg x0 a λb a=>A.r (Xb true 1) b a λe=>A.r (Xe (.func 82) 1) e a λf=>A.r (Xb true 1) b a λg=>A.r (Xe (.func 82) 1) g a λh=>
 A.r (Xb true 1) b a λi=>A.r (Xe (.func 82) 1) i a λj=>A.r (Xb true 1) b a λl=>A.r (Xe (.func 82) 1) l a λm=>A.r (Xb true 1) b a λn=>
 A.r (Xe (.func 83) 1) n a λo=>A.r (Xb true 1) b a λp=>A.r (Xe (.func 84) 1) p a λq=>A.r (Xb true 1) b a λt=>A.r (Xe (.func 83) 1) t a λu=>
 A.r (Xb true 1) b a λv=>A.r (Xe (.func 83) 1) v a λw=>A.r (Xb true 1) b a λy=>A.r (Xe (.func 85) 1) y a λz=>A.rd (Qb [.nilf,.nilf,.nilf,.nilf,.nilf,.nilf,.nilf,.nilf,.nilf] [(0,1),(1,1),(2,1),(3,1),(4,1),(5,1),(6,1),(7,1),(8,1)] [f,h,j,m,o,q,u,w,z] a) λa0=>
 A.wr (Yc [.nilf,.nilf,.nilf,.nilf,.nilf,.nilf,.nilf,.nilf,.nilf] [] a) a λc a=>A.ws (Xa 9) c a0 a λ_ a=>A.s (Xe (.func 87) 0) b c a λa1=>
 A.k 86 [x1,a1] a λa2 a=>A.r (Xp .not) a2 a λa3=>d a3 a
 |_=>A.stop
theorem g51_ok:GQ 51 2 g51:=gq2 [] λ_ _ _ _ _ _=>by kernel_rfl
def g52:GFun:=λA xs a l=>match xs with
 |[x0]=>
 A.k 88 [x0] a λh a=>A.r (Zb 0) h a λi=>A.r (Zb 1) h a λj=>A.b .gtr j (jv 0) a λf=>A.tr f Qe j a λm=>A.tb f .leq m (jv 24) a λn=>
 A.c f n (.bool false) a λd=>A.tr d Qe i a λo=>A.tr d Qe x0 a λp=>A.tr d Qp p a λq=>A.tb d .eql o q a λs=>A.c d s (.bool false) a λg=>
 A.tr g Qe i a λt=>A.tb g .leq t (jv 40) a λu=>A.c g u (.bool false) a λe=>A.tr e Qe x0 a λv=>A.gw e true (λk=>A.k 89 [v] a k) a λw a=>
 A.tr e (Xp .not) w a λy=>A.c e y (.bool false) a λz=>l z a
 |_=>A.stop
theorem g52_ok:GQ 52 1 g52:=gq1 [] λ_ _ _ _ _=>by kernel_rfl
def g53:GFun:=λA xs b d=>match xs with
 |[x0,x1]=>
 A.w1 Xg x0 b λe b=>A.w1 Xg x1 b λf b=>A.r (Za 0) e b λg=>A.a g b λh=>A.r (Xe (.func 91) 0) f b λi=>A.k 90 [h,i] b λc b=>
 A.r (Zb 0) c b λj=>A.r (Zb 1) c b λl=>A.r (Zb 2) c b λm=>A.wr (Yc [.str [],.bool false,jv 0,jv 0,jv 0,jv 0,jv 0,jv 0,.nils,.nils,.nils,jv 0] [] b) b λn b=>
 A.ws (Xa 12) n j b λ_ b=>d (.tup [l,m]) b
 |_=>A.stop
theorem g53_ok:GQ 53 2 g53:=gq2 [] λ_ _ _ _ _ _=>by kernel_rfl
def g54:GFun:=λA xs a b=>match xs with
 |[x0,x1]=>
 A.k 65 [x0,x1,.bool true] a λc a=>A.r (Xp .not) c a λd=>A.test d (b .nilp a) (A.r Ya x1 a λe=>A.r (Xb true 23) e a λf=>A.k 18 [f] a λg a=>
 A.rd (Qb [.nilp,jv 0,jv 0,.int .i8 0,.bool false,.int .i8 0,.nils,jv 0,jv 0,jv 0,jv 0,.nils,.nils,.nils,.nils,.nils,jv 0,jv 0,jv 0,.nils,.nils,.nils,.nils,.nils] [(0,1),(1,23)] [x0,g] a) λh=>
 A.w1 Xg h a λi a=>b i a)
 |_=>A.stop
theorem g54_ok:GQ 54 2 g54:=gq2 [none] λ_ _ _ _ _ _=>by kernel_rfl
def g55:GFun:=λA xs a e=>match xs with
 |[x0]=>
 A.b .geq x0 (jv (-1000000)) a λd=>A.tr d Qe x0 a λf=>A.tb d .leq f (jv 1000000) a λg=>A.c d g (.bool false) a λh=>e h a
 |_=>A.stop
theorem g55_ok:GQ 55 1 g55:=gq1 [] λ_ _ _ _ _=>by kernel_rfl
def g56:GFun:=λA xs b d=>match xs with
 |[x0,x1]=>
 A.r Ya x0 b λe=>A.a e b λf=>A.s (Qa 1) f (jv 0) b λg=>A.a g b λc=>A.r Ya x0 b λh=>A.a h b λi=>A.s (Yz 1) i (jv 1) b λj=>
 A.r Ya x0 b λl=>A.ws (Xa 1) l j b λ_ b=>A.r Ya x1 b λm=>A.a m b λn=>A.wr (Xf 1 1 [jv 0] [(0,1)] [c] b) b λo b=>
 A.wr (Zg 1 8 [n,o] b) b λp b=>A.r Ya x1 b λq=>A.ws (Xa 1) q p b λ_ b=>d c b
 |_=>A.stop
theorem g56_ok:GQ 56 2 g56:=gq2 [] λ_ _ _ _ _ _=>by kernel_rfl
def g57:GFun:=λA xs b c=>match xs with
 |[x0,x1]=>
 A.r Ya x0 b λd=>A.r (Za 0) d b λe=>A.a e b λf=>A.wr (Zg 3 24 [f,x1] b) b λg b=>A.r Ya x0 b λh=>A.r (Za 0) h b λi=>
 A.ws (Xa 1) i g b λ_ b=>c (.tup []) b
 |_=>A.stop
theorem g57_ok:GQ 57 2 g57:=gq2 [] λ_ _ _ _ _ _=>by kernel_rfl
def g58:GFun:=λA xs d h=>match xs with
 |[x0,x1,x2,x3,x4,x5]=>
 A.w1 Xg x0 d λj d=>A.r (Xb true 2) x2 d λl=>A.r (Xb true 23) x3 d λm=>A.r (Za 1) j d λn=>A.a n d λo=>A.rd (Qb [jv 0,jv 0] [(0,1),(1,1)] [o,jv (-1)] d) λp=>
 A.a x4 d λq=>A.k 44 [l,m,p,x1,q] d λe d=>A.r (Zb 0) e d λs=>A.r (Zb 1) e d λt=>A.r (Zb 2) e d λu=>A.r (Zb 3) e d λf=>
 A.wr (Yc zq0 [] d) d λi d=>A.ws (Xa 23) i s d λ_ d=>A.b .eql f (jv 0) d λg=>A.fr g Qe f d λv=>A.fb g .eql v (jv 190) d λw=>A.c g (.bool true) w d λy=>
 A.test y (A.dr (Xb true 23 [i] d) d λz a0 d=>A.dr (Xd [x5] d) d λa1 a2 d=>A.dr (Zg 7 72 [a1,t] d) d λa3 a4 d=>A.dr (Xa 23 [x3,z] d) d λ_ a5 d=>
 A.dr (Xa 1 [x4,u] d) d λ_ a6 d=>A.dr (Xa 1 [x5,a3] d) d λ_ a7 d=>A.gd (Qd [[],[],[],[],[2,3],[0,2,3,4],[0,1,2,3,4,5],[0,1,2,3,4,5,6]] [a0,([],[]),a2,([],[]),a4,a5,a6,a7]) <|
 h f d) (h f d)
 |_=>A.stop
theorem g58_ok:GQ 58 6 g58:=gq6 [none] λ_ _ _ _ _ _ _ _ _ _=>by kernel_rfl
def g59:GFun:=λA xs c i=>match xs with
 |[x0,x1]=>
 A.w1 Xg x0 c λo c=>A.w1 Xg x1 c λf c=>A.k 54 [o,f] c λg c=>A.s (ZL .ptr false false) g .nilp c λp=>A.test p (i .nils c) (A.r (Za 1) f c λq=>
 A.a q c λt=>A.r (Za 1) f c λu=>A.a u c λv=>A.b .sub (jv 1) v c λw=>A.rd (Qb [jv 0,jv 0] [(0,1),(1,1)] [t,w] c) λy=>A.loop (λz e c=>
 A.b .lss (h0 e) (jv 2) c λa0=>A.test a0 (A.s (Yw false 2 1) y (h0 e) c λj=>A.r Ya g c λa1=>A.r (Za 1) a1 c λa2=>A.r (Za 7) a2 c λa3=>
 A.s (Xc 2 8) a3 j c λa4=>A.r (Za 6) a4 c λa5=>A.a a5 c λl=>A.r Zc l c λa6=>A.loop (λa7 d c=>A.b .lss (h0 d) a6 c λa8=>
 A.test a8 (joinK (λm=>A.s (Qa 4) l (h0 d) c λa9=>A.r (Xb true 4) a9 c λb0=>A.wr (Yc zq3 [] c) c λh c=>A.ws (Xa 4) h b0 c λ_ c=>
 A.k 92 [g,j,(h0 d)] c λn c=>A.r (Zb 0) n c λc2=>A.r (Zb 1) n c λb1=>A.r (Za 2) h c λb2=>A.a b2 c λb3=>A.b .geq b3 b1 c λb4=>
 A.test b4 (A.r (Za 0) h c λb5=>A.a b5 c λb6=>A.wr (Xf 1 1 [jv 0] [(0,1)] [b6] c) c λb7 c=>A.wr (Zg 1 8 [(h1 d),b7] c) c λb8 c=>
 m [b8] c) (m [(h1 d)] c)) (λb9 c=>A.b .add (h0 d) (jv 1) c λc0=>a7 [c0,(h0 b9)] c)) (A.b .add (h0 e) (jv 1) c λc1=>z [c1,(h1 d)] c)) [jv 0,(h1 e)] c) (
 i (h1 e) c)) [jv 0,.nils] c)
 |_=>A.stop
theorem g59_ok:GQ 59 2 g59:=gq2 [none,none,some [22,6],none,none,none,some [34,6],none,some [6],none] λ_ _ _ _ _ _=>by kernel_rfl
def g60:GFun:=λA xs c e=>match xs with
 |[x0,x1]=>
 A.w1 Xg x0 c λg c=>A.w1 Xg x1 c λh c=>A.loop (λi d c=>A.b .lss (h0 d) (jv 2) c λj=>A.test j (A.r (Za 7) g c λl=>A.s (Xc 2 8) l (h0 d) c λm=>
 A.r (Za 6) m c λn=>A.a n c λo=>A.r (Xe (.func 94) 0) h c λp=>A.k 93 [o,p] c λf c=>A.b .geq f (jv 0) c λq=>A.test q (e (.tup [(h0 d),f,.bool true]) c) (
 A.b .add (h0 d) (jv 1) c λt=>i [t] c)) (e (.tup zq2) c)) [jv 0] c
 |_=>A.stop
theorem g60_ok:GQ 60 2 g60:=gq2 [none,some [9],none,none,none] λ_ _ _ _ _ _=>by kernel_rfl
def g61:GFun:=λA xs c l=>match xs with
 |[x0,x1,x2]=>
 A.w1 Xg x0 c λp c=>A.w1 Xg x1 c λq c=>A.wr (Yc zq0 [] c) c λg c=>A.k 54 [p,q] c λd c=>A.s (ZL .ptr false false) d .nilp c λt=>
 A.test t (A.rd (Qb zq0 [] [] c) λu=>A.ws (Xa 23) g u c λ_ c=>A.opt (cellV true 23 g c) λr6=>l (.tup [r6,.nils]) c) (A.r Zc x2 c λv=>
 A.loop (λw e c=>A.b .lss (h0 e) v c λy=>A.test y (joinK (λm=>A.s (Qa 1) x2 (h0 e) c λz=>A.a z c λa0=>A.wr (Yc [jv 0] [] c) c λh c=>
 A.ws (Xa 1) h a0 c λ_ c=>A.pu (Ya [d] c) λa1=>A.pu (Za 1 [a1] c) λa2=>A.dr (Xb true 23 [a2] c) c λa3 a4 c=>A.dr (Xd [h] c) c λa5 a6 c=>
 A.dcall (.call 60) [a3,a5] c λi a7 c=>A.pu (Zb 0 [i] c) λn=>A.pu (Zb 1 [i] c) λj=>A.pu (Zb 2 [i] c) λa8=>A.gd (Qd [[],[0],[0,1],[0,1,2],[],[0,1,2,3,4],[0,1,2,3,4,5],[0,1,2,3,4,5,6],[0,1,2,3,4,5,6],[0,1,2,3,4,5,6],[0,1,2,3,4,5,6,7],[0,1,2,3,4,5,6,7,8,10],[0,1,2,3,4,5,6,7,8,9,10,11]] [([],[]),([],[]),([],[]),a4,a6,a7,([],[]),([],[]),([],[]),([],[]),([],[]),([],[]),([],[])]) <|
 A.r (Xp .not) a8 c λa9=>A.test a9 (m [(h1 e)] c) (A.r Ya d c λb0=>A.r (Za 1) b0 c λb1=>A.r (Za 7) b1 c λb2=>A.s (Xc 2 8) b2 n c λf=>
 A.r Ya f c λb3=>A.r (Za 6) b3 c λb4=>A.a b4 c λb5=>A.s (Qa 4) b5 j c λb6=>A.r (Za 1) b6 c λb7=>A.a b7 c λo=>
 A.r Ya f c λb8=>A.r (Za 6) b8 c λb9=>A.a b9 c λc0=>A.b .add j (jv 1) c λc1=>A.k 95 [c0,j,c1] c λc2 c=>A.r Ya f c λc3=>
 A.r (Za 6) c3 c λc4=>A.ws (Xa 1) c4 c2 c λ_ c=>A.r Ya f c λc5=>A.r (Za 5) c5 c λc6=>A.a c6 c λc7=>A.wr (Xf 1 1 [jv 0] [(0,1)] [o] c) c λc8 c=>
 A.wr (Zg 1 8 [c7,c8] c) c λc9 c=>A.r Ya f c λd0=>A.r (Za 5) d0 c λd1=>A.ws (Xa 1) d1 c9 c λ_ c=>A.r Ya d c λd2=>
 A.r (Za 1) d2 c λd3=>A.r (Za 5) d3 c λd4=>A.a d4 c λd5=>A.r (Xe (.func 97) 0) h c λd6=>A.k 96 [d5,d6] c λd7 c=>A.r Ya d c λd8=>
 A.r (Za 1) d8 c λd9=>A.r (Za 5) d9 c λe0=>A.ws (Xa 1) e0 d7 c λ_ c=>A.a h c λe1=>A.rd (Qb zq1 [(0,1),(1,1),(2,1),(3,1)] [.int .i8 13,n,o,e1] c) λe2=>
 A.wr (Xf 7 1 zq1 [(0,7)] [e2] c) c λe3 c=>A.wr (Zg 7 72 [(h1 e),e3] c) c λe4 c=>m [e4] c)) (λe5 c=>A.b .add (h0 e) (jv 1) c λe6=>w [e6,(h0 e5)] c)) (
 A.r Ya d c λe7=>A.r (Za 1) e7 c λe8=>A.r (Xb true 23) e8 c λe9=>A.ws (Xa 23) g e9 c λ_ c=>A.opt (cellV true 23 g c) λr69=>
 l (.tup [r69,(h1 e)]) c)) [jv 0,.nils] c)
 |_=>A.stop
theorem g61_ok:GQ 61 3 g61:=gq3 [none,none,some [23,9],none,some [9],none] λ_ _ _ _ _ _ _=>by kernel_rfl
def g62:GFun:=λA xs d e=>match xs with
 |[x0]=>
 A.r Ya x0 d λh=>A.r (Za 7) h d λi=>A.s (Xc 2 8) i (jv 0) d λj=>A.r (Za 0) j d λl=>A.a l d λm=>A.b .leq m (jv 0) d λf=>
 A.r Ya x0 d λn=>A.r (Za 7) n d λo=>A.s (Xc 2 8) o (jv 1) d λp=>A.r (Za 0) p d λq=>A.a q d λt=>A.b .leq t (jv 0) d λg=>
 A.tr f Qe g d λu=>A.c f u (.bool false) d λv=>A.test v (e (.int .i8 3) d) (A.test f (e (.int .i8 2) d) (A.test g (e (.int .i8 1) d) (e (.int .i8 0) d)))
 |_=>A.stop
theorem g62_ok:GQ 62 1 g62:=gq1 [none,none,none,none] λ_ _ _ _ _=>by kernel_rfl
def g63:GFun:=λA xs c e=>match xs with
 |[x0]=>
 A.wr (Yc zq2 [] c) c λd c=>A.r Ya x0 c λf=>A.r (Za 0) f c λg=>A.a g c λh=>A.r Zc h c λi=>A.b .eql i (jv 0) c λj=>
 A.test j (A.r (Xb true 3) d c λl=>A.ws (Xa 3) d l c λ_ c=>A.opt (cellV true 3 d c) λr7=>e (.tup [r7,.bool false]) c) (A.r Ya x0 c λm=>
 A.r (Za 0) m c λn=>A.a n c λo=>A.s (Qa 3) o (jv 0) c λp=>A.r (Xb true 3) p c λq=>A.ws (Xa 3) d q c λ_ c=>A.r Ya x0 c λt=>
 A.r (Za 0) t c λu=>A.a u c λv=>A.s (Yz 3) v (jv 1) c λw=>A.r Ya x0 c λy=>A.r (Za 0) y c λz=>A.ws (Xa 1) z w c λ_ c=>
 A.r (Xb true 3) d c λa0=>A.ws (Xa 3) d a0 c λ_ c=>A.opt (cellV true 3 d c) λr20=>e (.tup [r20,.bool true]) c)
 |_=>A.stop
theorem g63_ok:GQ 63 1 g63:=gq1 [none] λ_ _ _ _ _=>by kernel_rfl
def g64:GFun:=λA xs a l=>match xs with
 |[x0,x1,x2]=>
 A.w1 Xg x0 a λm a=>A.w1 Xg x1 a λh a=>A.wr (Yc zq0 [] a) a λe a=>A.wr (Yc zq1 [] a) a λf a=>A.r (Xb true 23) h a λn=>A.k 18 [n] a λo a=>
 A.wr (Yc zq0 [] a) a λd a=>A.ws (Xa 23) d o a λ_ a=>A.b .leq x2 (.int .i8 0) a λi=>A.fr i Qe x2 a λp=>A.fb i .gtr p (.int .i8 3) a λq=>
 A.c i (.bool true) q a λg=>A.fr g (Za 2) h a λs=>A.fa g s a λt=>A.fb g .eql t (.int .i8 2) a λu=>A.c g (.bool true) u a λj=>A.gw j false (λk=>A.k 32 [m,h] a k) a λv a=>
 A.fr j (Xp .not) v a λw=>A.c j (.bool true) w a λy=>A.test y (A.r (Xb true 23) d a λz=>A.rd (Qb zq1 [] [] a) λa0=>A.ws (Xa 23) e z a λ_ a=>
 A.ws (Xa 7) f a0 a λ_ a=>A.opt (cellV true 23 e a) λr20=>A.opt (cellV true 7 f a) λr21=>l (.tup [r20,r21]) a) (A.r (Za 2) d a λa1=>
 A.ws (Xa 1) a1 (.int .i8 2) a λ_ a=>A.r (Za 5) d a λa2=>A.ws (Xa 1) a2 .nils a λ_ a=>A.r (Za 4) d a λa3=>A.ws (Xa 1) a3 x2 a λ_ a=>
 A.r (Xb true 23) d a λa4=>A.r (Zae .i64) x2 a λa5=>A.rd (Qb zq1 [(0,1),(5,1)] [.int .i8 15,a5] a) λa6=>A.ws (Xa 23) e a4 a λ_ a=>
 A.ws (Xa 7) f a6 a λ_ a=>A.opt (cellV true 23 e a) λr28=>A.opt (cellV true 7 f a) λr29=>l (.tup [r28,r29]) a)
 |_=>A.stop
theorem g64_ok:GQ 64 3 g64:=gq3 [none] λ_ _ _ _ _ _ _=>by kernel_rfl
def g65:GFun:=λA xs d h=>match xs with
 |[x0,x1,x2]=>
 A.r Ya x1 d λt0=>A.r (Za 0) t0 d λt1=>A.a t1 d λt2=>A.b .lss t2 (jv 1) d λo=>joinK (λe=>A.test o (e [o] d) (A.r Ya x1 d λt6=>
 A.r (Za 0) t6 d λt7=>A.a t7 d λt8=>A.b .gtr t8 (jv 4096) d λp=>A.test p (e [p] d) (A.r Ya x1 d λa7=>A.r (Za 1) a7 d λa8=>
 A.a a8 d λa9=>A.b .lss a9 (jv 0) d λq=>A.test q (e [q] d) (A.r Ya x1 d λb0=>A.r (Za 1) b0 d λb1=>A.a b1 d λb2=>A.b .gtr b2 (jv 1) d λt=>
 A.test t (e [t] d) (A.r Ya x1 d λb3=>A.r (Za 2) b3 d λb4=>A.a b4 d λb5=>A.b .lss b5 (.int .i8 0) d λu=>A.test u (e [u] d) (A.r Ya x1 d λb6=>
 A.r (Za 2) b6 d λb7=>A.a b7 d λb8=>A.b .gtr b8 (.int .i8 2) d λv=>A.test v (e [v] d) (A.r Ya x1 d λb9=>A.r (Za 4) b9 d λc0=>
 A.a c0 d λc1=>A.b .lss c1 (.int .i8 0) d λw=>A.test w (e [w] d) (A.r Ya x1 d λc2=>A.r (Za 4) c2 d λc3=>A.a c3 d λc4=>A.b .gtr c4 (.int .i8 3) d λy=>
 A.test y (e [y] d) (A.r Ya x1 d λc5=>A.r (Za 4) c5 d λc6=>A.a c6 d λc7=>A.b .eql c7 (.int .i8 0) d λc8=>A.r Ya x1 d λc9=>
 A.r (Za 2) c9 d λd0=>A.a d0 d λd1=>A.b .neq d1 (.int .i8 2) d λd2=>A.s (Yi .neq true) c8 d2 d λz=>A.test z (e [z] d) (A.r Ya x1 d λd3=>
 A.r (Za 6) d3 d λd4=>A.a d4 d λd5=>A.b .lss d5 (jv 1) d λa0=>A.test a0 (e [a0] d) (A.r Ya x1 d λd6=>A.r (Za 6) d6 d λd7=>
 A.a d7 d λd8=>A.b .gtr d8 (jv 1000000) d λa1=>A.test a1 (e [a1] d) (A.r Ya x1 d λd9=>A.r (Za 5) d9 d λe0=>A.a e0 d λe1=>A.r Zc e1 d λe2=>
 A.b .gtr e2 (jv 7) d λa2=>A.test a2 (e [a2] d) (A.r Ya x0 d λe3=>A.r (Xb true 2) e3 d λe4=>A.k 13 [e4] d λe5 d=>A.r (Q5 false 0 1) e5 d λe6=>
 A.b .neq e6 (jv 0) d λe7=>e [e7] d))))))))))))) (λv5 d=>A.test (h0 v5) (h (.bool false) d) (A.wr (Qk [] d) d λa3 d=>A.loop (λe8 l d=>A.b .lss (h0 l) (jv 2) d λe9=>
 A.test e9 (A.k 98 [x0,x1,(h0 l),a3] d λf0 d=>A.r (Xp .not) f0 d λf1=>A.test f1 (h (.bool false) d) (A.b .add (h0 l) (jv 1) d λf2=>e8 [f2] d)) (
 A.r Ya x1 d λf3=>A.r (Za 2) f3 d λf4=>A.a f4 d λf5=>A.b .neq f5 (.int .i8 1) d λf6=>A.test f6 (A.r Ya x1 d λf7=>A.r (Za 5) f7 d λf8=>
 A.a f8 d λf9=>A.r Zc f9 d λg0=>A.b .eql g0 (jv 0) d λg1=>h g1 d) (A.wr (Qk [] d) d λa4 d=>A.r Ya x1 d λg2=>A.r (Za 5) g2 d λg3=>
 A.a g3 d λa5=>A.r Zc a5 d λg4=>A.loop (λg5 m d=>A.b .lss (h0 m) g4 d λg6=>A.test g6 (A.s (Qa 1) a5 (h0 m) d λg7=>A.a g7 d λn=>
 A.s (Yk false true (jv 0)) a3 n d λa6=>A.r (Zb 0) a6 d λg8=>A.r (Zb 1) a6 d λg9=>A.r (Xp .not) g9 d λf=>A.fr f Qe g8 d λi0=>
 A.fr f Qe x1 d λi1=>A.fr f Ya i1 d λi2=>A.fr f (Za 1) i2 d λi3=>A.fa f i3 d λi4=>A.fb f .neq i0 i4 d λi5=>A.c f (.bool true) i5 d λi=>
 A.fr i Qe a4 d λi6=>A.fr i Qe n d λi7=>A.fs i (Yk false false (.bool false)) i6 i7 d λi9=>A.c i (.bool true) i9 d λj0=>A.test j0 (h (.bool false) d) (
 A.wr (Xn false [a4,n,.bool true] d) d λ_ d=>A.b .add (h0 m) (jv 1) d λj1=>g5 [j1] d)) (A.r Ya x1 d λj2=>A.r (Za 3) j2 d λj3=>
 A.a j3 d λj=>A.tr j Qe x2 d λj4=>A.tr j Qe j4 d λg=>A.fr g Qe x1 d λj5=>A.fr g Ya j5 d λj6=>A.fr g (Za 5) j6 d λj7=>
 A.fa g j7 d λj8=>A.fr g Zc j8 d λj9=>A.fb g .gtr j9 (jv 0) d λl0=>A.tc j g (.bool true) l0 d λl1=>A.c j l1 (.bool false) d λl2=>h l2 d)) [jv 0] d))) [jv 0] d))
 |_=>A.stop
theorem g65_ok:GQ 65 3 g65:=gq3 [none,some [14],none,none,none,none,none,none,none,none,none,none,none,none,none,some [89],none,none,none,none,none,some [116],none,none,none] λ_ _ _ _ _ _ _=>by kernel_rfl
def g66:GFun:=λA xs d j=>match xs with
 |[x0]=>
 A.r Ya x0 d λl=>A.r (Za 0) l d λm=>A.a m d λn=>A.b .neq n (.int .i8 0) d λe=>A.tr e Qe x0 d λo=>A.tr e Ya o d λp=>
 A.tr e (Za 2) p d λq=>A.ta e q d λs=>A.tb e .neq s (jv 0) d λt=>A.tr e Qe t d λi=>A.fr i Qe x0 d λu=>A.fr i Ya u d λv=>
 A.fr i (Za 3) v d λw=>A.fa i w d λy=>A.fb i .neq y (jv (-1)) d λz=>A.tc e i (.bool true) z d λa0=>A.c e a0 (.bool false) d λa1=>A.test a1 (
 j (.bool false) d) (A.r Ya x0 d λa2=>A.r (Za 0) a2 d λa3=>A.a a3 d λa4=>A.b .eql a4 (.int .i8 1) d λg=>A.fr g Qe x0 d λa5=>
 A.fr g Ya a5 d λa6=>A.fr g (Za 4) a6 d λa7=>A.fa g a7 d λa8=>A.fr g Zc a8 d λa9=>A.fb g .eql a9 (jv 0) d λb0=>A.c g (.bool true) b0 d λf=>
 A.tr f Qe x0 d λb1=>A.tr f Ya b1 d λb2=>A.tr f (Za 0) b2 d λb3=>A.ta f b3 d λb4=>A.tb f .eql b4 (.int .i8 2) d λb5=>A.tr f Qe b5 d λh=>
 A.fr h Qe x0 d λb6=>A.fr h Ya b6 d λb7=>A.fr h (Za 5) b7 d λb8=>A.fa h b8 d λb9=>A.fr h Zc b9 d λc0=>A.fb h .eql c0 (jv 0) d λc1=>
 A.tc f h (.bool true) c1 d λc2=>A.c f c2 (.bool false) d λc3=>j c3 d)
 |_=>A.stop
theorem g66_ok:GQ 66 1 g66:=gq1 [none] λ_ _ _ _ _=>by kernel_rfl
def g67:GFun:=λA xs c d=>match xs with
 |[x0]=>
 A.w1 Xg x0 c λe c=>A.r (Za 1) e c λh=>A.a h c λi=>A.b .and i (jv 1) c λf=>A.r (Za 2) e c λj=>A.a j c λg=>A.b .eql g (.int .i8 0) c λl=>
 A.test l (d f c) (A.b .eql g (.int .i8 1) c λm=>A.test m (A.b .sub (jv 1) f c λn=>d n c) (d (jv 0) c))
 |_=>A.stop
theorem g67_ok:GQ 67 1 g67:=gq1 [none,none,none] λ_ _ _ _ _=>by kernel_rfl
def g68:GFun:=λA xs a c=>match xs with
 |[]=>
 A.wr (Yc [.nilf,.nilf,.nilf,.nilf,.nilf] [] a) a λb a=>A.rd (Qb [.nilf,.nilf,.nilf,.nilf,.nilf] [(0,1),(1,1),(2,1),(3,1),(4,1)] [(.func (.func 99) [] []),(.func (.func 100) [] []),(.func (.func 101) [] []),(.func (.func 102) [] []),(.func (.func 103) [] [])] a) λd=>
 A.ws (Xa 5) b d a λ_ a=>A.opt (cellV true 5 b a) λr2=>c r2 a
 |_=>A.stop
theorem g68_ok:GQ 68 0 g68:=gq0 [] λ_ _ _ _=>by kernel_rfl
def g80:GFun:=λA xs b d=>match xs with
 |[x0]=>
 A.w1 Xg x0 b λe b=>A.wr (Yc [jv 0] [] b) b λc b=>A.ws (Xa 1) c (jv 0) b λ_ b=>A.r (Xe (.func 125) 0) c b λf=>A.k 124 [e,f] b λh b=>
 A.a c b λg=>d g b
 |_=>A.stop
theorem g80_ok:GQ 80 1 g80:=gq1 [] λ_ _ _ _ _=>by kernel_rfl
def g81:GFun:=λA xs d t=>match xs with
 |[x0,x1,x2]=>
 A.r Zc x1 d λt0=>A.b .gtr t0 (jv 16) d λu=>A.fr u Qe x2 d λt2=>A.fb u .gtr t2 (jv 8) d λt3=>A.c u (.bool true) t3 d λt4=>A.test t4 (t (.bool false) d) (
 A.r Zc x1 d λt5=>A.loop (λa4 v d=>A.b .lss (h0 v) t5 d λt8=>A.test t8 (A.s (Qa 14) x1 (h0 v) d λf=>A.k 126 [f] d λh d=>A.tr h Qe f d λa5=>
 A.tr h Ya a5 d λa6=>A.tr h (Za 0) a6 d λa7=>A.ta h a7 d λa8=>A.gw h true (λk=>A.k 127 [a8] d k) d λa9 d=>A.tr h (Xp .not) a9 d λb0=>
 A.tr h Qe b0 d λn=>A.fr n Qe x0 d λb1=>A.fr n Qe f d λb2=>A.fr n Ya b2 d λb3=>A.fr n (Za 2) b3 d λb4=>A.gw n false (λk=>A.k 128 [b1,b4] d k) d λb5 d=>
 A.tc h n (.bool true) b5 d λb6=>A.c h b6 (.bool false) d λe=>A.r Ya f d λb7=>A.r (Za 0) b7 d λb8=>A.a b8 d λi=>joinK (λp=>
 A.b .eql i (.int .i8 0) d λy=>joinK (λz=>A.test y (z [y] d) (A.b .eql i (.int .i8 1) d λb9=>z [b9] d)) (λc0 d=>A.test (h0 c0) (A.tr e Qe f d λc1=>
 A.tr e Ya c1 d λc2=>A.tr e (Za 1) c2 d λc3=>A.ta e c3 d λc4=>A.gw e true (λk=>A.k 129 [c4] d k) d λc5 d=>A.tr e Qe c5 d λm=>
 A.fr m Qe f d λc6=>A.fr m Ya c6 d λc7=>A.fr m (Za 1) c7 d λc8=>A.fa m c8 d λc9=>A.fb m .eql c9 (.int .i8 2) d λd0=>A.fr m Qe d0 d λq=>
 A.tr q Qe x0 d λd1=>A.tr q Ya d1 d λd2=>A.tr q (Za 1) d2 d λd3=>A.ta q d3 d λd4=>A.fc m q d4 (.bool false) d λd5=>A.tc e m (.bool true) d5 d λd6=>
 A.c e d6 (.bool false) d λd7=>p [d7] d) (A.b .eql i (.int .i8 2) d λa0=>joinK (λw=>A.test a0 (w [a0] d) (A.b .eql i (.int .i8 4) d λa1=>A.test a1 (
 w [a1] d) (A.b .eql i (.int .i8 6) d λd8=>w [d8] d))) (λd9 d=>A.test (h0 d9) (A.tr e Qe f d λe0=>A.tr e Ya e0 d λe1=>A.tr e (Za 1) e1 d λe2=>
 A.ta e e2 d λe3=>A.gw e true (λk=>A.k 129 [e3] d k) d λe4 d=>A.c e e4 (.bool false) d λe5=>p [e5] d) (A.b .eql i (.int .i8 3) d λa2=>joinK (λa3=>
 A.test a2 (a3 [a2] d) (A.b .eql i (.int .i8 5) d λe6=>a3 [e6] d)) (λe7 d=>A.test (h0 e7) (A.tr e Qe f d λe8=>A.tr e Ya e8 d λe9=>A.tr e (Za 1) e9 d λf0=>
 A.ta e f0 d λf1=>A.tb e .eql f1 (.int .i8 0) d λf2=>A.c e f2 (.bool false) d λf3=>p [f3] d) (A.b .eql i (.int .i8 7) d λf4=>A.test f4 (A.tr e Qe f d λf5=>
 A.tr e Ya f5 d λf6=>A.tr e (Za 1) f6 d λf7=>A.ta e f7 d λf8=>A.tb e .eql f8 (.int .i8 0) d λf9=>A.c e f9 (.bool false) d λg=>
 A.tr g Qe x0 d λg0=>A.tr g Ya g0 d λg1=>A.tr g (Za 0) g1 d λg2=>A.ta g g2 d λg3=>A.tr g Qe f d λg4=>A.tr g Ya g4 d λg5=>
 A.tr g (Za 6) g5 d λg6=>A.ta g g6 d λg7=>A.ts g (Yk true false (.bool false)) g3 g7 d λg8=>A.c g g8 (.bool false) d λg9=>p [g9] d) (
 A.b .eql i (.int .i8 8) d λi0=>A.test i0 (A.tr e Qe f d λi1=>A.tr e Ya i1 d λi2=>A.tr e (Za 1) i2 d λi3=>A.ta e i3 d λi4=>
 A.tb e .eql i4 (.int .i8 0) d λi5=>A.c e i5 (.bool false) d λo=>A.tr o Qe x0 d λi6=>A.tr o Qe f d λi7=>A.tr o Ya i7 d λi9=>A.tr o (Za 7) i9 d λj0=>
 A.gw o true (λk=>A.k 130 [i6,j0] d k) d λj1 d=>A.c o j1 (.bool false) d λj=>A.tr j Qe x0 d λj2=>A.tr j Qe f d λj3=>A.tr j Ya j3 d λj4=>
 A.tr j (Za 12) j4 d λj5=>A.ta j j5 d λj6=>A.tr j Qe x2 d λj7=>A.tb j .add j7 (jv 1) d λj8=>A.gw j true (λk=>A.k 81 [j2,j6,j8] d k) d λj9 d=>
 A.c j j9 (.bool false) d λl=>A.tr l Qe x0 d λl0=>A.tr l Qe f d λl1=>A.tr l Ya l1 d λl2=>A.tr l (Za 13) l2 d λl3=>A.ta l l3 d λl4=>
 A.tr l Qe x2 d λl5=>A.tb l .add l5 (jv 1) d λl6=>A.gw l true (λk=>A.k 81 [l0,l4,l6] d k) d λl7 d=>A.c l l7 (.bool false) d λl8=>p [l8] d) (
 t (.bool false) d))))))))) (λl9 d=>A.r (Xp .not) (h0 l9) d λm0=>A.test m0 (t (.bool false) d) (A.b .add (h0 v) (jv 1) d λm1=>a4 [m1] d))) (t (.bool true) d)) [jv 0] d)
 |_=>A.stop
theorem g81_ok:GQ 81 3 g81:=gq3 [none,none,some [19],none,none,some [9],some [46],none,some [70],none,none,some [82],none,none,none,none] λ_ _ _ _ _ _ _=>by kernel_rfl
def g82:GFun:=λA xs a b=>match xs with
 |[x0,x1]=>
 A.w1 Xg x0 a λc a=>A.w1 Xg x1 a λd a=>A.pu (Za 0 [c] a) λe=>A.dr (Xd [e] a) a λf g a=>A.pu (Za 2 [d] a) λh=>A.dr (Xb true 4 [h] a) a λi j a=>
 A.dcall (.call 132) [i] a λl m a=>A.dcall (.call 131) [f,l] a λn o a=>A.pu (Yi .eql false [n,.int .i8 0] a) λp=>A.gd (Qd [[],[0],[],[2],[2,3],[0,1,2,3,4],[0,1,2,3,4,5],[0,1,2,3,4,5,6]] [([],[]),g,([],[]),j,m,o,([],[]),([],[])]) <|
 b p a
 |_=>A.stop
theorem g82_ok:GQ 82 2 g82:=gq2 [] λ_ _ _ _ _ _=>by kernel_rfl
def g83:GFun:=λA xs c d=>match xs with
 |[x0,x1]=>
 A.w1 Xg x0 c λe c=>A.w1 Xg x1 c λj c=>A.r (Za 0) e c λf=>A.a f c λg=>A.k 133 [g] c λh c=>A.b .eql h (.int .i8 0) c λi=>d i c
 |_=>A.stop
theorem g83_ok:GQ 83 2 g83:=gq2 [] λ_ _ _ _ _ _=>by kernel_rfl
def g84:GFun:=λA xs a b=>match xs with
 |[x0,x1]=>
 A.w1 Xg x0 a λc a=>A.w1 Xg x1 a λd a=>A.pu (Za 0 [c] a) λe=>A.dr (Xd [e] a) a λf g a=>A.pu (Za 2 [d] a) λh=>A.dr (Xb true 4 [h] a) a λi j a=>
 A.dcall (.call 132) [i] a λl m a=>A.dcall (.call 131) [f,l] a λn o a=>A.dcall (.call 134) [n,.int .i8 1] a λp q a=>A.gd (Qd [[],[0],[],[2],[2,3],[0,1,2,3,4],[0,1,2,3,4,5],[0,1,2,3,4,5,6]] [([],[]),g,([],[]),j,m,o,q,([],[])]) <|
 b p a
 |_=>A.stop
theorem g84_ok:GQ 84 2 g84:=gq2 [] λ_ _ _ _ _ _=>by kernel_rfl
def g85:GFun:=λA xs b g=>match xs with
 |[x0,x1]=>
 A.w1 Xg x0 b λh b=>A.w1 Xg x1 b λe b=>A.pu (Za 0 [h] b) λi=>A.dr (Xd [i] b) b λj l b=>A.pu (Za 7 [e] b) λm=>A.dr (Xb true 5 [m] b) b λn o b=>
 A.dcall (.call 135) [n] b λp q b=>A.dcall (.call 131) [j,p] b λs t b=>A.pu (Qb [.int .i8 0] [(0,1)] [s] b) λu=>A.dr (Yc [.int .i8 0] [] b) b λf v b=>
 A.dr (Xa 1 [f,u] b) b λ_ w b=>A.gd (Qd [[],[0],[],[2],[2,3],[0,1,2,3,4],[0,1,2,3,4,5],[],[0,1,2,3,4,5,6,7]] [([],[]),l,([],[]),o,q,t,([],[]),v,w]) <|
 A.r (Xb true 1) f b λy=>A.r (Za 12) e b λz=>A.a z b λa0=>A.k 51 [y,a0] b λd b=>A.tr d (Xb true 1) f b λa1=>A.tr d (Za 13) e b λa2=>
 A.ta d a2 b λa3=>A.gw d true (λk=>A.k 51 [a1,a3] b k) b λa4 b=>A.c d a4 (.bool false) b λa5=>g a5 b
 |_=>A.stop
theorem g85_ok:GQ 85 2 g85:=gq2 [] λ_ _ _ _ _ _=>by kernel_rfl
def g86:GFun:=λA xs a c=>match xs with
 |[x0,x1]=>
 A.k 136 [x0,x1] a λd a=>A.b .geq d (jv 0) a λe=>c e a
 |_=>A.stop
theorem g86_ok:GQ 86 2 g86:=gq2 [] λ_ _ _ _ _ _=>by kernel_rfl
def g87:GFun:=λA xs d h=>match xs with
 |[x0,x1,x2]=>
 A.w1 Xg x0 d λf d=>A.r (Xb true 1) x1 d λi=>A.r (Xe (.func 83) 1) i d λj=>A.r (Za 0) f d λl=>A.a l d λm=>A.b .geq m (.int .i8 0) d λe=>
 A.tr e (Za 0) f d λn=>A.ta e n d λo=>A.tr e (Zae .i64) o d λp=>A.tb e .lss p (jv 9) d λq=>A.c e q (.bool false) d λt=>joinK (λg=>
 A.test t (A.r (Za 0) f d λu=>A.a u d λv=>A.s (Xc 9 1) x2 v d λw=>A.a w d λy=>g [y] d) (g [j] d)) (λz d=>A.r (Xb true 14) f d λa0=>
 A.call .callv [(h0 z),a0] d λa1 d=>A.r (Xp .not) a1 d λa2=>h a2 d)
 |_=>A.stop
theorem g87_ok:GQ 87 3 g87:=gq3 [some [5]] λ_ _ _ _ _ _ _=>by kernel_rfl
def g88:GFun:=λA xs a j=>match xs with
 |[x0]=>
 A.w1 Qaz x0 a λm a=>A.loop (λn f a=>A.w1 QaT m a λg a=>A.r (Zb 0) g a λo=>A.test o (A.r (Zb 1) g a λl=>A.r (Zb 2) g a λh=>
 A.k 137 [h] a λp a=>A.r (Xp .not) p a λe=>A.tr e Qe l a λq=>A.tb e .eql q (jv 0) a λs=>A.tr e Qe s a λd=>A.fr d Qe h a λt=>A.gw d false (λk=>A.k 138 [t] a k) a λu a=>
 A.fr d (Xp .not) u a λv=>A.fr d Qe v a λi=>A.tr i Qe h a λw=>A.tb i .neq w (.int .i32 39) a λy=>A.fc d i y (.bool false) a λz=>A.tc e d (.bool true) z a λa0=>
 A.c e a0 (.bool false) a λa1=>A.test a1 (j (.tup [l,(h0 f)]) a) (A.b .add (h0 f) (jv 1) a λa2=>n [a2] a)) (A.r Qp x0 a λa3=>j (.tup [a3,(h0 f)]) a)) [jv 0] a
 |_=>A.stop
theorem g88_ok:GQ 88 1 g88:=gq1 [none,some [3],none,none,none] λ_ _ _ _ _=>by kernel_rfl
def g89:GFun:=λA xs a b=>match xs with
 |[x0]=>
 A.k 139 [] a λc a=>A.s (Yk true false (.bool false)) c x0 a λd=>b d a
 |_=>A.stop
theorem g89_ok:GQ 89 1 g89:=gq1 [] λ_ _ _ _ _=>by kernel_rfl
def g90:GFun:=λA xs a e=>match xs with
 |[x0,x1]=>
 A.wr (Yc [.str [],.bool false,jv 0,jv 0,jv 0,jv 0,jv 0,jv 0,.nils,.nils,.nils,jv 0] [] a) a λc a=>A.k 140 [x0,x1] a λd a=>
 A.b .lss d (jv 0) a λf=>A.test f (A.r (Xb true 12) c a λg=>A.ws (Xa 12) c g a λ_ a=>A.opt (cellV true 12 c a) λr4=>e (.tup [r4,jv 0,.bool false]) a) (
 A.s (Qa 12) x0 d a λh=>A.r (Xb true 12) h a λi=>A.ws (Xa 12) c i a λ_ a=>A.opt (cellV true 12 c a) λr7=>e (.tup [r7,d,.bool true]) a)
 |_=>A.stop
theorem g90_ok:GQ 90 2 g90:=gq2 [none] λ_ _ _ _ _ _=>by kernel_rfl
def g91:GFun:=λA xs c d=>match xs with
 |[x0,x1]=>
 A.w1 Xg x0 c λe c=>A.r (Za 0) e c λf=>A.a f c λg=>A.a x1 c λh=>A.b .eql g h c λi=>d i c
 |_=>A.stop
theorem g91_ok:GQ 91 2 g91:=gq2 [] λ_ _ _ _ _ _=>by kernel_rfl
def g92:GFun:=λA xs c j=>match xs with
 |[x0,x1,x2]=>
 A.r Ya x0 c λl=>A.r (Za 1) l c λm=>A.r (Za 7) m c λn=>A.s (Xc 2 8) n x1 c λo=>A.r (Za 6) o c λp=>
 A.a p c λf=>A.r Zc f c λq=>A.loop (λt d c=>A.b .lss (h0 d) q c λu=>A.test u (joinK (λg=>A.s (Qa 4) f (h0 d) c λv=>A.r (Xb true 4) v c λw=>
 A.wr (Yc zq3 [] c) c λh c=>A.ws (Xa 4) h w c λ_ c=>A.r Ya x0 c λy=>A.r (Za 0) y c λz=>A.a z c λa0=>A.r Ya a0 c λa1=>
 A.r (Za 0) a1 c λa2=>A.a a2 c λa3=>A.r (Za 1) h c λa4=>A.a a4 c λa5=>A.s (Qa 12) a3 a5 c λe=>A.b .eql (h0 d) x2 c λa6=>
 A.test a6 (A.r Ya e c λa7=>A.r (Za 3) a7 c λa8=>A.a a8 c λa9=>A.b .add (h1 d) a9 c λb0=>A.r Ya e c λb1=>A.r (Za 4) b1 c λb2=>
 A.a b2 c λb3=>A.b .add (h2 d) b3 c λb4=>g [b0,b4] c) (A.r Ya e c λb5=>A.r (Za 6) b5 c λb6=>A.a b6 c λb7=>A.b .add (h1 d) b7 c λb8=>
 A.r Ya e c λb9=>A.r (Za 7) b9 c λc0=>A.a c0 c λc1=>A.b .add (h2 d) c1 c λc2=>g [b8,c2] c)) (λi c=>A.b .add (h0 d) (jv 1) c λc3=>
 t [c3,(h0 i),(h1 i)] c)) (j (.tup [(h1 d),(h2 d)]) c)) zq6 c
 |_=>A.stop
theorem g92_ok:GQ 92 3 g92:=gq3 [none,some [20,6,7],none,some [6,7],none] λ_ _ _ _ _ _ _=>by kernel_rfl
def g93:GFun:=λA xs a d=>match xs with
 |[x0,x1]=>
 A.r Zc x0 a λe=>A.loop (λf c a=>A.b .lss (h0 c) e a λg=>A.test g (A.s (Qa 4) x0 (h0 c) a λh=>A.r (Xb true 4) h a λi=>A.call .callv [x1,i] a λj a=>
 A.test j (d (h0 c) a) (A.b .add (h0 c) (jv 1) a λl=>f [l] a)) (d (jv (-1)) a)) [jv 0] a
 |_=>A.stop
theorem g93_ok:GQ 93 2 g93:=gq2 [none,some [8],none,none,none] λ_ _ _ _ _ _=>by kernel_rfl
def g94:GFun:=λA xs c d=>match xs with
 |[x0,x1]=>
 A.w1 Xg x0 c λe c=>A.r (Za 0) e c λf=>A.a f c λg=>A.a x1 c λh=>A.b .eql g h c λi=>d i c
 |_=>A.stop
theorem g94_ok:GQ 94 2 g94:=gq2 [] λ_ _ _ _ _ _=>by kernel_rfl
def g95:GFun:=λA xs a d=>match xs with
 |[x0,x1,x2]=>
 A.r Zc x0 a λe=>A.rd (ZN [x0,x1,x2,e] a) λp=>A.b .eql x1 x2 a λf=>A.test f (d x0 a) (A.r Zc x0 a λg=>A.dr (Yx 4 [x0,x1] a) a λh i a=>
 A.dr (Yz 4 [x0,x2] a) a λj l a=>A.dr (Zg 4 32 [h,j] a) a λc m a=>A.gd (Qd [[],[],[0,1],[],[],[3,4],[0,1,2,3,4,5],[0,1,2,3,4,5,6]] [([],[]),([],[]),i,([],[]),([],[]),l,m,([],[])]) <|
 A.r Zc c a λn=>A.rd (Z1 4 [c,n,g] a) λo=>A.w1 (Q0 4 zq3) o a λ_ a=>d c a)
 |_=>A.stop
theorem g95_ok:GQ 95 3 g95:=gq3 [none] λ_ _ _ _ _ _ _=>by kernel_rfl
def g96:GFun:=λA xs c f=>match xs with
 |[x0,x1]=>
 A.k 31 [x0,x1] c λe c=>A.b .eql e (jv (-1)) c λi=>A.test i (f x0 c) (A.b .add e (jv 1) c λj=>A.loop (λl d c=>A.r Zc x0 c λm=>A.b .lss (h0 d) m c λn=>
 A.test n (joinK (λg=>A.s (Qa 1) x0 (h0 d) c λo=>A.a o c λh=>A.call .callv [x1,h] c λp c=>A.r (Xp .not) p c λq=>A.test q (A.s (Qa 1) x0 (h1 d) c λt=>
 A.ws (Xa 1) t h c λ_ c=>A.b .add (h1 d) (jv 1) c λu=>g [u] c) (g [(h1 d)] c)) (λv c=>A.b .add (h0 d) (jv 1) c λw=>l [w,(h0 v)] c)) (A.s (Yz 1) x0 (h1 d) c λy=>
 A.wr (Q0 1 [jv 0] [y] c) c λ_ c=>A.s (Yx 1) x0 (h1 d) c λz=>f z c)) [j,e] c)
 |_=>A.stop
theorem g96_ok:GQ 96 2 g96:=gq2 [none,none,some [6,5],none,some [5],none] λ_ _ _ _ _ _=>by kernel_rfl
def g97:GFun:=λA xs c d=>match xs with
 |[x0,x1]=>
 A.a x1 c λe=>A.b .eql x0 e c λf=>d f c
 |_=>A.stop
theorem g97_ok:GQ 97 2 g97:=gq2 [] λ_ _ _ _ _ _=>by kernel_rfl
def g98:GFun:=λA xs d q=>match xs with
 |[x0,x1,x2,x3]=>
 A.w1 Xg x0 d λz d=>A.r Ya x1 d λt1=>A.r (Za 7) t1 d λt2=>A.s (Xc 2 8) t2 x2 d λe=>A.r Ya e d λt4=>A.r (Za 0) t4 d λt5=>
 A.a t5 d λt6=>A.k 55 [t6] d λt7 d=>A.r (Xp .not) t7 d λm=>A.fr m Qe e d λt9=>A.fr m Ya t9 d λa4=>A.fr m (Za 1) a4 d λa5=>
 A.fa m a5 d λa6=>A.fb m .lss a6 (jv 0) d λa7=>A.c m (.bool true) a7 d λj=>A.fr j Qe e d λa8=>A.fr j Ya a8 d λa9=>A.fr j (Za 1) a9 d λb0=>
 A.fa j b0 d λb1=>A.gw j false (λk=>A.k 55 [b1] d k) d λb2 d=>A.fr j (Xp .not) b2 d λb3=>A.c j (.bool true) b3 d λn=>A.fr n Qe e d λb4=>
 A.fr n Ya b4 d λb5=>A.fr n (Za 2) b5 d λb6=>A.fa n b6 d λb7=>A.fb n .lss b7 (jv 0) d λb8=>A.c n (.bool true) b8 d λo=>A.fr o Qe e d λb9=>
 A.fr o Ya b9 d λc0=>A.fr o (Za 2) c0 d λc1=>A.fa o c1 d λc2=>A.fb o .gtr c2 (jv 10) d λc3=>A.c o (.bool true) c3 d λl=>A.fr l Qe e d λc4=>
 A.fr l Ya c4 d λc5=>A.fr l (Za 6) c5 d λc6=>A.fa l c6 d λc7=>A.fr l Zc c7 d λc8=>A.fb l .gtr c8 (jv 7) d λc9=>A.c l (.bool true) c9 d λd0=>
 A.test d0 (q (.bool false) d) (A.r Ya e d λd1=>A.r (Za 3) d1 d λd2=>A.a d2 d λd3=>A.rd (Qb [.nils,jv 0] [(0,1),(1,1)] [d3,jv 60] d) λd4=>
 A.r Ya e d λd5=>A.r (Za 4) d5 d λd6=>A.a d6 d λd7=>A.rd (Qb [.nils,jv 0] [(0,1),(1,1)] [d7,jv 10] d) λd8=>A.r Ya e d λd9=>
 A.r (Za 5) d9 d λe0=>A.a e0 d λe1=>A.rd (Qb [.nils,jv 0] [(0,1),(1,1)] [e1,jv 1000000] d) λe2=>A.r Ya e d λe3=>A.r (Za 7) e3 d λe4=>
 A.a e4 d λe5=>A.rd (Qb [.nils,jv 0] [(0,1),(1,1)] [e5,jv 1000000] d) λe6=>A.rd (Qb [.nils,jv 0,.nils,jv 0,.nils,jv 0,.nils,jv 0] [(0,2),(2,2),(4,2),(6,2)] [d4,d8,e2,e6] d) λe7=>
 A.loop (λe8 a0 d=>A.b .lss (h0 a0) (jv 4) d λe9=>A.test e9 (A.s (Yw true 4 2) e7 (h0 a0) d λf0=>A.wr (Yc [.nils,jv 0] [] d) d λt d=>
 A.ws (Xa 2) t f0 d λ_ d=>A.r (Za 0) t d λf1=>A.a f1 d λf2=>A.r Zc f2 d λf3=>A.r (Za 1) t d λf4=>A.a f4 d λf5=>
 A.b .gtr f3 f5 d λp=>A.fr p (Za 0) t d λf6=>A.fa p f6 d λf7=>A.fr p (Xe (.func 141) 0) z d λf8=>A.gw p false (λk=>A.k 14 [f7,f8] d k) d λf9 d=>
 A.c p (.bool true) f9 d λg0=>A.test g0 (q (.bool false) d) (A.b .add (h0 a0) (jv 1) d λg1=>e8 [g1] d)) (A.r Ya e d λg2=>A.r (Za 6) g2 d λg3=>
 A.a g3 d λa2=>A.r Zc a2 d λg4=>A.loop (λg5 a1 d=>A.b .lss (h0 a1) g4 d λg6=>A.test g6 (A.s (Qa 4) a2 (h0 a1) d λg7=>A.r (Xb true 4) g7 d λg8=>
 A.wr (Yc zq3 [] d) d λg d=>A.ws (Xa 4) g g8 d λ_ d=>A.r (Za 0) g d λg9=>A.a g9 d λi0=>A.s (Yk false true (jv 0)) x3 i0 d λa3=>
 A.r (Zb 0) a3 d λn2=>A.r (Zb 1) a3 d λu=>A.fr u (Za 1) g d λi1=>A.fa u i1 d λi2=>A.fb u .lss i2 (jv 0) d λi3=>A.c u (.bool true) i3 d λh=>
 A.fr h (Za 1) g d λi4=>A.fa h i4 d λi5=>A.fa h z d λi6=>A.fr h Ya i6 d λi7=>A.fr h (Za 0) i7 d λi8=>A.fa h i8 d λi9=>
 A.fr h Zc i9 d λj0=>A.fb h .geq i5 j0 d λj1=>A.c h (.bool true) j1 d λf=>A.fa f z d λj2=>A.fr f Ya j2 d λj3=>A.fr f (Za 0) j3 d λj4=>
 A.fa f j4 d λj5=>A.fr f (Za 1) g d λj6=>A.fa f j6 d λj7=>A.fs f (Qa 12) j5 j7 d λj8=>A.fr f (Za 1) j8 d λj9=>A.fa f j9 d λl0=>
 A.fr f (Xp .not) l0 d λl1=>A.c f (.bool true) l1 d λv=>A.fr v (Za 2) g d λl2=>A.fa v l2 d λl3=>A.fb v .lss l3 (jv 0) d λl4=>A.c v (.bool true) l4 d λw=>
 A.fr w (Za 2) g d λl5=>A.fa w l5 d λl6=>A.fb w .gtr l6 (jv 1000000) d λl7=>A.c w (.bool true) l7 d λy=>A.fr y (Za 0) g d λl8=>
 A.fa y l8 d λl9=>A.fb y .lss l9 (jv 1) d λm0=>A.c y (.bool true) m0 d λi=>A.fr i (Za 0) g d λm1=>A.fa i m1 d λm2=>A.fr i Qe x1 d λm3=>
 A.fr i Ya m3 d λm4=>A.fr i (Za 6) m4 d λm5=>A.fa i m5 d λm6=>A.fb i .geq m2 m6 d λm7=>A.c i (.bool true) m7 d λm8=>A.test m8 (
 q (.bool false) d) (A.r (Za 0) g d λm9=>A.a m9 d λn0=>A.wr (Xn false [x3,n0,x2] d) d λ_ d=>A.b .add (h0 a1) (jv 1) d λn1=>g5 [n1] d)) (
 q (.bool true) d)) [jv 0] d)) [jv 0] d)
 |_=>A.stop
theorem g98_ok:GQ 98 4 g98:=gq4 [none,none,some [85],none,none,none,none,some [106],none,none,none] λ_ _ _ _ _ _ _ _=>by kernel_rfl
def g99:GFun:=λA xs d m=>match xs with
 |[x0]=>
 A.w1 Xg x0 d λe d=>A.r (Za 1) e d λt=>A.a t d λu=>A.r (Za 2) e d λv=>A.a v d λw=>A.r Ya w d λy=>A.r (Za 1) y d λz=>
 A.a z d λt7=>A.r Ya u d λt8=>A.r (Za 7) t8 d λt9=>A.s (Xc 2 8) t9 t7 d λn=>A.r (Za 1) e d λa0=>A.a a0 d λa1=>
 A.r Ya a1 d λa2=>A.r (Za 2) a2 d λa3=>A.a a3 d λa4=>A.b .neq a4 (.int .i8 0) d λh=>A.fr h (Za 2) e d λa5=>A.fa h a5 d λa6=>
 A.fr h Ya a6 d λa7=>A.fr h (Za 2) a7 d λa8=>A.fa h a8 d λa9=>A.fb h .lss a9 (jv 0) d λb0=>A.c h (.bool true) b0 d λf=>A.fr f (Za 2) e d λb1=>
 A.fa f b1 d λb2=>A.fr f Ya b2 d λb3=>A.fr f (Za 2) b3 d λb4=>A.fa f b4 d λb5=>A.fr f Qe n d λb6=>A.fr f Ya b6 d λb7=>
 A.fr f (Za 4) b7 d λb8=>A.fa f b8 d λb9=>A.fr f Zc b9 d λc0=>A.fb f .geq b5 c0 d λc1=>A.c f (.bool true) c1 d λc2=>A.test c2 (m (.bool false) d) (
 A.pu (Za 0 [e] d) λc3=>A.dr (Xd [c3] d) d λc4 c5 d=>A.pu (Ya [c4] d) λc6=>A.pu (Za 0 [c6] d) λc7=>A.dr (Xd [c7] d) d λc8 c9 d=>
 A.pu (Ya [n] d) λd0=>A.pu (Za 4 [d0] d) λd1=>A.dr (Xd [d1] d) d λd2 d3 d=>A.pu (Za 2 [e] d) λd4=>A.dr (Xd [d4] d) d λd5 d6 d=>
 A.pu (Ya [d5] d) λd7=>A.pu (Za 2 [d7] d) λd8=>A.dr (Xd [d8] d) d λd9 e0 d=>A.dr (Qa 1 [d2,d9] d) d λe1 e2 d=>A.dr (Xd [e1] d) d λe3 e4 d=>
 A.dr (Qa 12 [c8,e3] d) d λe5 e6 d=>A.dr (Xb true 12 [e5] d) d λe7 e8 d=>A.dr (Yc [.str [],.bool false,jv 0,jv 0,jv 0,jv 0,jv 0,jv 0,.nils,.nils,.nils,jv 0] [] d) d λo e9 d=>
 A.dr (Xa 12 [o,e7] d) d λ_ f0 d=>A.gd (Qd [[],[0],[0,1],[0,1,2],[0,1,2,3],[],[5],[5,6],[5,6,7],[],[9],[9,10],[9,10,11],[9,10,11,12],[5,6,7,8,9,10,11,12,13],[5,6,7,8,9,10,11,12,13,14],[0,1,2,3,4,5,6,7,8,9,10,11,12,13,14,15],[0,1,2,3,4,5,6,7,8,9,10,11,12,13,14,15,16],[],[0,1,2,3,4,5,6,7,8,9,10,11,12,13,14,15,16,17,18]] [([],[]),c5,([],[]),([],[]),c9,([],[]),([],[]),([],[]),d3,([],[]),d6,([],[]),([],[]),e0,e2,e4,e6,e8,e9,f0]) <|
 A.r (Za 2) o d λf1=>A.a f1 d λf2=>A.r Ya n d λf3=>A.r (Za 1) f3 d λf4=>A.a f4 d λf5=>A.b .gtr f2 f5 d λl=>A.fr l (Za 1) o d λf6=>
 A.fa l f6 d λf7=>A.fr l Qe f7 d λi=>A.tr i Qe n d λf8=>A.tr i Ya f8 d λf9=>A.tr i (Za 6) f9 d λg0=>A.ta i g0 d λg1=>
 A.tr i Zc g1 d λg2=>A.tb i .geq g2 (jv 7) d λg3=>A.fc l i g3 (.bool false) d λg4=>A.c l (.bool true) g4 d λg5=>A.test g5 (m (.bool false) d) (
 A.r (Xb true 12) o d λg6=>A.k 142 [g6] d λg7 d=>A.r (Xp .not) g7 d λg8=>A.test g8 (A.r (Za 2) e d λg9=>A.a g9 d λi0=>A.r Ya i0 d λi1=>
 A.r (Za 3) i1 d λi2=>A.a i2 d λi3=>A.b .eql i3 (jv (-1)) d λi4=>m i4 d) (A.pu (Za 1 [e] d) λi5=>A.dr (Xd [i5] d) d λi6 i7 d=>
 A.pu (Ya [i6] d) λi9=>A.dr (Xb true 23 [i9] d) d λj0 j1 d=>A.pu (Za 2 [e] d) λj2=>A.dr (Xd [j2] d) d λj3 j4 d=>A.pu (Ya [j3] d) λj5=>
 A.pu (Za 3 [j5] d) λj6=>A.dr (Xd [j6] d) d λj7 j8 d=>A.dcall (.call 60) [j0,j7] d λp j9 d=>A.pu (Zb 0 [p] d) λn1=>A.pu (Zb 1 [p] d) λn2=>
 A.pu (Zb 2 [p] d) λl0=>A.gd (Qd [[],[0],[0,1],[0,1,2],[],[4],[4,5],[4,5,6],[4,5,6,7],[0,1,2,3,4,5,6,7,8],[0,1,2,3,4,5,6,7,8,9],[0,1,2,3,4,5,6,7,8,9,10],[0,1,2,3,4,5,6,7,8,9,10],[0,1,2,3,4,5,6,7,8,9,10],[0,1,2,3,4,5,6,7,8,9,10,11],[0,1,2,3,4,5,6,7,8,9,10,11,12,14],[0,1,2,3,4,5,6,7,8,9,10,11,12,13,14,15]] [([],[]),i7,([],[]),j1,([],[]),j4,([],[]),([],[]),j8,j9,([],[]),([],[]),([],[]),([],[]),([],[]),([],[]),([],[])]) <|
 A.r (Za 2) e d λl1=>A.a l1 d λl2=>A.r Ya l2 d λl3=>A.r (Za 3) l3 d λl4=>A.a l4 d λl5=>A.b .eql l5 (jv (-2)) d λj=>
 A.fr j (Za 2) e d λl6=>A.fa j l6 d λl7=>A.fr j Ya l7 d λl8=>A.fr j (Za 3) l8 d λl9=>A.fa j l9 d λm0=>A.fb j .eql m0 (jv (-3)) d λm1=>
 A.c j (.bool true) m1 d λg=>A.fr g (Za 2) e d λm2=>A.fa g m2 d λm3=>A.fr g Ya m3 d λm4=>A.fr g (Za 3) m4 d λm5=>A.fa g m5 d λm6=>
 A.fb g .gtr m6 (jv 0) d λm7=>A.fr g Qe m7 d λq=>A.tr q Qe l0 d λm8=>A.fc g q m8 (.bool false) d λm9=>A.c g (.bool true) m9 d λn0=>m n0 d)))
 |_=>A.stop
theorem g99_ok:GQ 99 1 g99:=gq1 [none,none,none] λ_ _ _ _ _=>by kernel_rfl
def g100:GFun:=λA xs d p=>match xs with
 |[x0]=>
 A.w1 Xg x0 d λh d=>A.wr (Qk [] d) d λl d=>A.r (Za 2) h d λu=>A.a u d λv=>A.r Ya v d λw=>A.r (Za 4) w d λy=>
 A.a y d λq=>A.r Zc q d λz=>A.loop (λa0 m d=>A.b .lss (h0 m) z d λa1=>A.test a1 (A.s (Qa 1) q (h0 m) d λa2=>A.a a2 d λn=>A.r (Za 1) h d λa3=>
 A.a a3 d λa4=>A.r Ya a4 d λa5=>A.r (Xb true 23) a5 d λa6=>A.k 60 [a6,n] d λo d=>A.r (Zb 0) o d λt=>A.r (Zb 1) o d λa7=>
 A.r (Zb 2) o d λa8=>A.r (Xp .not) a8 d λf=>A.fr f Qe t d λa9=>A.fr f (Za 2) h d λb0=>A.fa f b0 d λb1=>A.fr f Ya b1 d λb2=>
 A.fr f (Za 1) b2 d λb3=>A.fa f b3 d λb4=>A.fb f .neq a9 b4 d λb5=>A.c f (.bool true) b5 d λe=>A.fr e (Za 1) h d λb6=>A.fa e b6 d λb7=>
 A.fr e Qe t d λb8=>A.fr e Ya b7 d λb9=>A.fr e (Za 7) b9 d λc0=>A.fs e (Xc 2 8) c0 b8 d λc1=>A.fr e (Za 6) c1 d λc2=>
 A.fa e c2 d λc3=>A.fr e Qe a7 d λc4=>A.fs e (Qa 4) c3 c4 d λc5=>A.fr e (Za 3) c5 d λc6=>A.fa e c6 d λc7=>A.c e (.bool true) c7 d λi=>
 A.fr i Qe l d λc8=>A.fr i Qe n d λc9=>A.fs i (Yk false false (.bool false)) c8 c9 d λd0=>A.c i (.bool true) d0 d λd1=>A.test d1 (p (.bool false) d) (
 A.wr (Xn false [l,n,.bool true] d) d λ_ d=>A.b .add (h0 m) (jv 1) d λd2=>a0 [d2] d)) (A.r (Za 1) h d λd3=>A.a d3 d λd4=>A.r Ya d4 d λd5=>
 A.r (Za 2) d5 d λd6=>A.a d6 d λd7=>A.b .eql d7 (.int .i8 0) d λg=>A.tr g (Za 1) h d λd8=>A.ta g d8 d λd9=>A.tr g Ya d9 d λe0=>
 A.tr g (Za 3) e0 d λe1=>A.ta g e1 d λe2=>A.tr g (Xp .not) e2 d λe3=>A.c g e3 (.bool false) d λj=>A.tr j Qe l d λe4=>A.tr j XaI e4 d λe5=>
 A.tb j .gtr e5 (jv 0) d λe6=>A.c j e6 (.bool false) d λe7=>p e7 d)) [jv 0] d
 |_=>A.stop
theorem g100_ok:GQ 100 1 g100:=gq1 [none,some [16],none,none,none] λ_ _ _ _ _=>by kernel_rfl
def g101:GFun:=λA xs d p=>match xs with
 |[x0]=>
 A.w1 Xg x0 d λg d=>A.wr (Qk [] d) d λl d=>A.wr (Qk [] d) d λq d=>A.r (Za 2) g d λu=>A.a u d λv=>A.r Ya v d λw=>
 A.r (Za 5) w d λy=>A.a y d λt=>A.r Zc t d λz=>A.loop (λa0 m d=>A.b .lss (h0 m) z d λa1=>A.test a1 (A.s (Qa 2) t (h0 m) d λa2=>
 A.r (Xb true 2) a2 d λa3=>A.wr (Yc [jv 0,jv 0] [] d) d λf d=>A.ws (Xa 2) f a3 d λ_ d=>A.pu (Za 1 [g] d) λa4=>A.dr (Xd [a4] d) d λa5 a6 d=>
 A.pu (Ya [a5] d) λa7=>A.dr (Xb true 23 [a7] d) d λa8 a9 d=>A.pu (Za 1 [f] d) λb0=>A.dr (Xd [b0] d) d λb1 b2 d=>A.dcall (.call 60) [a8,b1] d λn b3 d=>
 A.pu (Zb 0 [n] d) λb4=>A.pu (Zb 1 [n] d) λi0=>A.pu (Zb 2 [n] d) λb5=>A.gd (Qd [[],[0],[0,1],[0,1,2],[],[4],[0,1,2,3,4,5],[0,1,2,3,4,5,6],[0,1,2,3,4,5,6,7],[0,1,2,3,4,5,6,7],[0,1,2,3,4,5,6,7],[0,1,2,3,4,5,6,7,8],[0,1,2,3,4,5,6,7,8,9,11],[0,1,2,3,4,5,6,7,8,9,10,11,12]] [([],[]),a6,([],[]),a9,([],[]),b2,b3,([],[]),([],[]),([],[]),([],[]),([],[]),([],[]),([],[])]) <|
 A.pu (Za 1 [g] d) λb6=>A.dr (Xd [b6] d) d λb7 b8 d=>A.pu (Ya [b7] d) λb9=>A.pu (Za 5 [b9] d) λc0=>A.dr (Xd [c0] d) d λc1 c2 d=>
 A.pu (Za 0 [f] d) λc3=>A.dr (Xd [c3] d) d λc4 c5 d=>A.dcall (.call 119) [c1,c4] d λc6 c7 d=>A.pu (Xp .not [c6] d) λo=>A.gr o false (λk=>A.pu (Qe [b5] d) k) λc8=>
 A.gr o false (λk=>A.pu (Xp .not [c8] d) k) λc9=>A.pu (XB [o,.bool true,c9] d) λe=>A.gr e false (λk=>A.pu (Qe [b4] d) k) λd0=>A.gr e false (λk=>A.pu (Za 2 [g] d) k) λd1=>
 A.gl e false (λk=>A.dr (Xd [d1] d) d k) d λd2 d3 d=>A.gr e false (λk=>A.pu (Ya [d2] d) k) λd4=>A.gr e false (λk=>A.pu (Za 1 [d4] d) k) λd5=>
 A.gl e false (λk=>A.dr (Xd [d5] d) d k) d λd6 d7 d=>A.gr e false (λk=>A.pu (Yi .neq false [d0,d6] d) k) λd8=>A.pu (XB [e,.bool true,d8] d) λh=>
 A.gr h false (λk=>A.pu (Qe [l] d) k) λd9=>A.gr h false (λk=>A.pu (Za 0 [f] d) k) λe0=>A.gl h false (λk=>A.dr (Xd [e0] d) d k) d λe1 e2 d=>
 A.gl h false (λk=>A.dr (Yk false false (.bool false) [d9,e1] d) d k) d λe3 e4 d=>A.pu (XB [h,.bool true,e3] d) λi=>A.gr i false (λk=>A.pu (Qe [q] d) k) λe5=>
 A.gr i false (λk=>A.pu (Za 1 [f] d) k) λe6=>A.gl i false (λk=>A.dr (Xd [e6] d) d k) d λe7 e8 d=>A.gl i false (λk=>A.dr (Yk false false (.bool false) [e5,e7] d) d k) d λe9 f0 d=>
 A.pu (XB [i,.bool true,e9] d) λf1=>A.gd (Qd [[],[0],[0,1],[0,1,2],[0,1,2,3],[],[5],[0,1,2,3,4,5,6],[0,1,2,3,4,5,6,7],[0,1,2,3,4,5,6,7,8],[0,1,2,3,4,5,6,7,8,9],[0,1,2,3,4,5,6,7,8,9,10],[0,1,2,3,4,5,6,7,8,9,10,11],[0,1,2,3,4,5,6,7,8,9,10,11,12],[0,1,2,3,4,5,6,7,8,9,10,11,12,13],[0,1,2,3,4,5,6,7,8,9,10,11,12,13],[0,1,2,3,4,5,6,7,8,9,10,11,12,13,15],[0,1,2,3,4,5,6,7,8,9,10,11,12,13,15,16],[0,1,2,3,4,5,6,7,8,9,10,11,12,13,15,16,17],[0,1,2,3,4,5,6,7,8,9,10,11,12,13,15,16,17,18],[0,1,2,3,4,5,6,7,8,9,10,11,12,13,14,15,16,17,18,19],[0,1,2,3,4,5,6,7,8,9,10,11,12,13,14,15,16,17,18,19,20],[0,1,2,3,4,5,6,7,8,9,10,11,12,13,14,15,16,17,18,19,20,21],[0,1,2,3,4,5,6,7,8,9,10,11,12,13,14,15,16,17,18,19,20,21,22],[0,1,2,3,4,5,6,7,8,9,10,11,12,13,14,15,16,17,18,19,20,21,22],[0,1,2,3,4,5,6,7,8,9,10,11,12,13,14,15,16,17,18,19,20,21,22,24],[0,1,2,3,4,5,6,7,8,9,10,11,12,13,14,15,16,17,18,19,20,21,22,23,24,25],[0,1,2,3,4,5,6,7,8,9,10,11,12,13,14,15,16,17,18,19,20,21,22,23,24,25,26],[0,1,2,3,4,5,6,7,8,9,10,11,12,13,14,15,16,17,18,19,20,21,22,23,24,25,26,27],[0,1,2,3,4,5,6,7,8,9,10,11,12,13,14,15,16,17,18,19,20,21,22,23,24,25,26,27,28],[0,1,2,3,4,5,6,7,8,9,10,11,12,13,14,15,16,17,18,19,20,21,22,23,24,25,26,27,28],[0,1,2,3,4,5,6,7,8,9,10,11,12,13,14,15,16,17,18,19,20,21,22,23,24,25,26,27,28,30],[0,1,2,3,4,5,6,7,8,9,10,11,12,13,14,15,16,17,18,19,20,21,22,23,24,25,26,27,28,29,30,31],[0,1,2,3,4,5,6,7,8,9,10,11,12,13,14,15,16,17,18,19,20,21,22,23,24,25,26,27,28,29,30,31,32]] [([],[]),b8,([],[]),([],[]),c2,([],[]),c5,c7,([],[]),([],[]),([],[]),([],[]),([],[]),([],[]),([],[]),([],[]),d3,([],[]),([],[]),d7,([],[]),([],[]),([],[]),([],[]),([],[]),e2,e4,([],[]),([],[]),([],[]),([],[]),e8,f0,([],[])]) <|
 A.test f1 (p (.bool false) d) (A.pu (Za 0 [f] d) λf2=>A.dr (Xd [f2] d) d λf3 f4 d=>A.pu (Za 1 [f] d) λf5=>A.dr (Xd [f5] d) d λf6 f7 d=>
 A.dr (Xn false [l,f3,.bool true] d) d λ_ f8 d=>A.dr (Xn false [q,f6,.bool true] d) d λ_ f9 d=>A.gd (Qd [[],[],[1],[],[],[4],[0,1,2],[0,1,2,3,4,5,6]] [([],[]),([],[]),f4,([],[]),([],[]),f7,f8,f9]) <|
 A.b .add (h0 m) (jv 1) d λg0=>a0 [g0] d)) (A.r (Za 1) g d λg1=>A.a g1 d λg2=>A.r Ya g2 d λg3=>A.r (Za 2) g3 d λg4=>
 A.a g4 d λg5=>A.b .eql g5 (.int .i8 1) d λj=>A.tr j Qe l d λg6=>A.tr j XaI g6 d λg7=>A.tb j .gtr g7 (jv 0) d λg8=>A.c j g8 (.bool false) d λg9=>
 p g9 d)) [jv 0] d
 |_=>A.stop
theorem g101_ok:GQ 101 1 g101:=gq1 [none,some [18],none,none,none] λ_ _ _ _ _=>by kernel_rfl
def g102:GFun:=λA xs a b=>match xs with
 |[x0]=>
 A.w1 Xg x0 a λc a=>b (.bool true) a
 |_=>A.stop
theorem g102_ok:GQ 102 1 g102:=gq1 [] λ_ _ _ _ _=>by kernel_rfl
def g103:GFun:=λA xs a b=>match xs with
 |[x0]=>
 A.w1 Xg x0 a λc a=>b (.bool true) a
 |_=>A.stop
theorem g103_ok:GQ 103 1 g103:=gq1 [] λ_ _ _ _ _=>by kernel_rfl
def g119:GFun:=λA xs a c=>match xs with
 |[x0,x1]=>
 A.k 154 [x0,x1] a λd a=>A.b .geq d (jv 0) a λe=>c e a
 |_=>A.stop
theorem g119_ok:GQ 119 2 g119:=gq2 [] λ_ _ _ _ _ _=>by kernel_rfl
def g124:GFun:=λA xs c f=>match xs with
 |[x0,x1]=>
 A.r Ya x0 c λh=>A.r (Za 8) h c λi=>A.a i c λj=>A.r Ya x0 c λl=>A.r (Za 9) l c λm=>A.a m c λn=>A.r Ya x0 c λo=>
 A.r (Za 10) o c λp=>A.a p c λq=>A.rd (Qb [.nils,.nils,.nils] [(0,1),(1,1),(2,1)] [j,n,q] c) λt=>A.loop (λu d c=>A.b .lss (h0 d) (jv 3) c λv=>
 A.test v (A.s (Yw false 3 1) t (h0 d) c λg=>A.r Zc g c λw=>A.loop (λy e c=>A.b .lss (h0 e) w c λz=>A.test z (A.s (Qa 14) g (h0 e) c λa0=>
 A.rd (Qb [.nilp] [(0,1)] [a0] c) λa1=>A.r (Zn 254) a1 c λa2=>A.k 155 [a2,x1] c λa3 c=>A.r (Xp .not) a3 c λa4=>A.test a4 (f (.tup []) c) (
 A.b .add (h0 e) (jv 1) c λa5=>y [a5] c)) (A.b .add (h0 d) (jv 1) c λa6=>u [a6] c)) [jv 0] c) (f (.tup []) c)) [jv 0] c
 |_=>A.stop
theorem g124_ok:GQ 124 2 g124:=gq2 [none,some [20],none,none,none,some [25],none,none,none] λ_ _ _ _ _ _=>by kernel_rfl
def g125:GFun:=λA xs c d=>match xs with
 |[x0,x1]=>
 A.a x1 c λe=>A.b .add e (jv 1) c λf=>A.ws (Xa 1) x1 f c λ_ c=>A.a x1 c λg=>A.b .lss g (jv 1073741824) c λh=>d h c
 |_=>A.stop
theorem g125_ok:GQ 125 2 g125:=gq2 [] λ_ _ _ _ _ _=>by kernel_rfl
def g126:GFun:=λA xs d s=>match xs with
 |[x0]=>
 A.r Ya x0 d λt=>A.r (Za 0) t d λu=>A.a u d λv=>A.k 127 [v] d λf d=>A.fr f Qe x0 d λw=>A.fr f Ya w d λy=>A.fr f (Za 2) y d λz=>
 A.fr f (Za 0) z d λt7=>A.fa f t7 d λt8=>A.fb f .eql t8 (.int .i8 0) d λt9=>A.fr f Qe t9 d λi=>A.tr i Qe x0 d λa0=>A.tr i Ya a0 d λa1=>
 A.tr i (Za 2) a1 d λa2=>A.tr i (Za 1) a2 d λa3=>A.ta i a3 d λa4=>A.tb i .eql a4 (jv 0) d λa5=>A.fc f i a5 (.bool false) d λa6=>
 A.fr f Qe a6 d λj=>A.tr j Qe x0 d λa7=>A.tr j Ya a7 d λa8=>A.tr j (Za 2) a8 d λa9=>A.tr j (Za 2) a9 d λb0=>A.ta j b0 d λb1=>
 A.tb j .eql b1 (.int .i8 0) d λb2=>A.fc f j b2 (.bool false) d λb3=>A.fr f Qe b3 d λh=>A.tr h Qe x0 d λb4=>A.tr h Ya b4 d λb5=>A.tr h (Za 2) b5 d λb6=>
 A.tr h (Za 3) b6 d λb7=>A.ta h b7 d λb8=>A.tr h Zc b8 d λb9=>A.tb h .eql b9 (jv 0) d λc0=>A.fc f h c0 (.bool false) d λc1=>A.c f (.bool true) c1 d λp=>
 A.r Ya x0 d λc2=>A.r (Za 0) c2 d λc3=>A.a c3 d λc4=>A.b .eql c4 (.int .i8 7) d λl=>A.fr l Qe x0 d λc5=>A.fr l Ya c5 d λc6=>
 A.fr l (Za 6) c6 d λc7=>A.fa l c7 d λc8=>A.gof l (Yi .eql false [c8,.str []] d) λc9=>A.c l (.bool true) c9 d λd0=>A.r Ya x0 d λd1=>
 A.r (Za 7) d1 d λo=>A.r Ya x0 d λd2=>A.r (Za 0) d2 d λd3=>A.a d3 d λd4=>A.b .eql d4 (.int .i8 8) d λg=>A.fr g Qe o d λd5=>
 A.fr g Ya d5 d λd6=>A.fr g (Za 0) d6 d λd7=>A.fa g d7 d λd8=>A.fb g .eql d8 (.int .i8 0) d λd9=>A.fr g Qe d9 d λm=>A.tr m Qe o d λe0=>
 A.tr m Ya e0 d λe1=>A.tr m (Za 1) e1 d λe2=>A.ta m e2 d λe3=>A.tb m .eql e3 (.int .i8 0) d λe4=>A.fc g m e4 (.bool false) d λe5=>
 A.fr g Qe e5 d λn=>A.tr n Qe o d λe6=>A.tr n Ya e6 d λe7=>A.tr n (Za 2) e7 d λe8=>A.ta n e8 d λe9=>A.got n (Yi .eql false [e9,.str []] d) λf0=>
 A.fc g n f0 (.bool false) d λf1=>A.fr g Qe f1 d λe=>A.tr e Qe o d λf2=>A.tr e Ya f2 d λf3=>A.tr e (Za 3) f3 d λf4=>A.ta e f4 d λf5=>
 A.tr e Zc f5 d λf6=>A.tr e Qe o d λf7=>A.tr e Ya f7 d λf8=>A.tr e (Za 4) f8 d λf9=>A.ta e f9 d λg0=>A.tr e Zc g0 d λg1=>
 A.tb e .add f6 g1 d λg2=>A.tr e Qe x0 d λg3=>A.tr e Ya g3 d λg4=>A.tr e (Za 12) g4 d λg5=>A.ta e g5 d λg6=>A.tr e Zc g6 d λg7=>
 A.tb e .add g2 g7 d λg8=>A.tr e Qe x0 d λg9=>A.tr e Ya g9 d λi0=>A.tr e (Za 13) i0 d λi1=>A.ta e i1 d λi2=>A.tr e Zc i2 d λi3=>
 A.tb e .add g8 i3 d λi4=>A.tb e .eql i4 (jv 0) d λi5=>A.fc g e i5 (.bool false) d λi6=>A.c g (.bool true) i6 d λi7=>A.tr p Qe d0 d λi9=>A.c p i9 (.bool false) d λq=>
 A.tr q Qe i7 d λj0=>A.c q j0 (.bool false) d λj1=>s j1 d
 |_=>A.stop
theorem g126_ok:GQ 126 1 g126:=gq1 [] λ_ _ _ _ _=>by kernel_rfl
def g127:GFun:=λA xs a d=>match xs with
 |[x0]=>
 A.b .eql x0 (.int .i8 0) a λe=>joinK (λc=>A.test e (c [e] a) (A.b .eql x0 (.int .i8 1) a λf=>A.test f (c [f] a) (A.b .eql x0 (.int .i8 2) a λg=>
 A.test g (c [g] a) (A.b .eql x0 (.int .i8 3) a λh=>A.test h (c [h] a) (A.b .eql x0 (.int .i8 5) a λi=>c [i] a))))) (λj a=>A.test (h0 j) (d (.bool true) a) (
 d (.bool false) a))
 |_=>A.stop
theorem g127_ok:GQ 127 1 g127:=gq1 [none,some [4],none,none,none,none] λ_ _ _ _ _=>by kernel_rfl
def g128:GFun:=λA xs d l=>match xs with
 |[x0,x1]=>
 A.r Ya x1 d λt0=>A.r (Za 1) t0 d λt1=>A.a t1 d λt2=>A.b .eql t2 (jv 0) d λm=>A.r Ya x1 d λt4=>A.r (Za 2) t4 d λt5=>
 A.a t5 d λt6=>A.b .eql t6 (.int .i8 0) d λf=>A.r Ya x1 d λt8=>A.r (Za 0) t8 d λt9=>A.a t9 d λe=>joinK (λi=>A.b .eql e (.int .i8 0) d λa3=>
 A.test a3 (A.r Ya x1 d λa4=>A.r (Za 1) a4 d λa5=>A.a a5 d λa6=>A.b .geq a6 (jv 0) d λh=>A.tr h Qe x1 d λa7=>A.tr h Ya a7 d λa8=>
 A.tr h (Za 1) a8 d λa9=>A.ta h a9 d λb0=>A.tb h .leq b0 (jv 999) d λb1=>A.c h b1 (.bool false) d λb2=>i [b2,f,jv 0] d) (A.b .eql e (.int .i8 1) d λt=>
 joinK (λn=>A.test t (n [t] d) (A.b .eql e (.int .i8 2) d λu=>A.test u (n [u] d) (A.b .eql e (.int .i8 3) d λv=>A.test v (n [v] d) (A.b .eql e (.int .i8 4) d λb3=>
 n [b3] d)))) (λb4 d=>A.test (h0 b4) (A.r Ya x1 d λb5=>A.r (Za 2) b5 d λb6=>A.a b6 d λb7=>A.k 129 [b7] d λb8 d=>i [m,b8,jv 0] d) (
 A.b .eql e (.int .i8 5) d λw=>joinK (λy=>A.test w (y [w] d) (A.b .eql e (.int .i8 6) d λb9=>y [b9] d)) (λc0 d=>A.test (h0 c0) (i [m,f,jv 0] d) (
 A.b .eql e (.int .i8 7) d λc1=>A.test c1 (A.tr f Qe x0 d λc2=>A.tr f Ya c2 d λc3=>A.tr f (Za 1) c3 d λc4=>A.ta f c4 d λc5=>
 A.c f c5 (.bool false) d λc6=>i [m,c6,jv 0] d) (A.b .eql e (.int .i8 8) d λz=>joinK (λj=>A.test z (j [z] d) (A.b .eql e (.int .i8 9) d λa0=>
 A.test a0 (j [a0] d) (A.b .eql e (.int .i8 10) d λa1=>A.test a1 (j [a1] d) (A.b .eql e (.int .i8 11) d λa2=>A.test a2 (j [a2] d) (A.b .eql e (.int .i8 12) d λc7=>
 j [c7] d))))) (λc8 d=>A.test (h0 c8) (i [m,f,jv 2] d) (l (.bool false) d))))))))) (λo d=>A.r (Xp .not) (h0 o) d λp=>A.fr p Qe (h1 o) d λc9=>
 A.fr p (Xp .not) c9 d λd0=>A.c p (.bool true) d0 d λg=>A.fr g Qe x1 d λd1=>A.fr g Ya d1 d λd2=>A.fr g (Za 3) d2 d λd3=>
 A.fa g d3 d λd4=>A.fr g Zc d4 d λd5=>A.fr g Qe (h2 o) d λd6=>A.fb g .neq d5 d6 d λd7=>A.c g (.bool true) d7 d λd8=>A.test d8 (l (.bool false) d) (
 A.r Ya x1 d λd9=>A.r (Za 3) d9 d λe0=>A.a e0 d λe1=>A.r Zc e1 d λe2=>A.loop (λe3 q d=>A.b .lss (h0 q) e2 d λe4=>A.test e4 (
 A.r Ya x1 d λe5=>A.r (Za 3) e5 d λe6=>A.a e6 d λe7=>A.s (Qa 4) e7 (h0 q) d λe8=>A.k 128 [x0,e8] d λe9 d=>A.r (Xp .not) e9 d λf0=>
 A.test f0 (l (.bool false) d) (A.b .add (h0 q) (jv 1) d λf1=>e3 [f1] d)) (l (.bool true) d)) [jv 0] d))
 |_=>A.stop
theorem g128_ok:GQ 128 2 g128:=gq2 [some [6,7,5],none,some [37],none,none,none,some [47],none,none,some [59],none,none,none,none,none,none,some [85],none,none,none] λ_ _ _ _ _ _=>by kernel_rfl
def g129:GFun:=λA xs a e=>match xs with
 |[x0]=>
 A.b .eql x0 (.int .i8 0) a λd=>A.fr d Qe x0 a λf=>A.fb d .eql f (.int .i8 1) a λg=>A.c d (.bool true) g a λh=>e h a
 |_=>A.stop
theorem g129_ok:GQ 129 1 g129:=gq1 [] λ_ _ _ _ _=>by kernel_rfl
def g130:GFun:=λA xs d j=>match xs with
 |[x0,x1]=>
 A.r Ya x1 d λz=>A.r (Za 1) z d λt1=>A.a t1 d λt2=>A.b .eql t2 (.int .i8 0) d λh=>A.tr h Qe x1 d λt4=>A.tr h Ya t4 d λt5=>
 A.tr h (Za 2) t5 d λt6=>A.ta h t6 d λt7=>A.got h (Yi .eql false [t7,.str []] d) λt8=>A.c h t8 (.bool false) d λm=>A.r Ya x1 d λa0=>
 A.r (Za 0) a0 d λa1=>A.a a1 d λg=>joinK (λl=>A.b .eql g (.int .i8 0) d λt=>joinK (λn=>A.test t (n [t] d) (A.b .eql g (.int .i8 1) d λu=>
 A.test u (n [u] d) (A.b .eql g (.int .i8 2) d λa2=>n [a2] d))) (λa3 d=>A.test (h0 a3) (l [m,jv 2,jv 0] d) (A.b .eql g (.int .i8 3) d λa4=>A.test a4 (
 l [m,jv 0,jv 1] d) (A.b .eql g (.int .i8 4) d λv=>joinK (λw=>A.test v (w [v] d) (A.b .eql g (.int .i8 5) d λa5=>w [a5] d)) (λa6 d=>A.test (h0 a6) (
 l [m,jv 0,jv 2] d) (A.b .eql g (.int .i8 6) d λa7=>A.test a7 (A.r Ya x0 d λa8=>A.r (Za 0) a8 d λa9=>A.a a9 d λb0=>A.r Ya x1 d λb1=>
 A.r (Za 2) b1 d λb2=>A.a b2 d λb3=>A.s (Yk true true (.bool false)) b0 b3 d λy=>A.r (Zb 0) y d λg1=>A.r (Zb 1) y d λi=>
 A.tr i Qe x1 d λb4=>A.tr i Ya b4 d λb5=>A.tr i (Za 1) b5 d λb6=>A.ta i b6 d λb7=>A.gw i true (λk=>A.k 129 [b7] d k) d λb8 d=>
 A.c i b8 (.bool false) d λb9=>l [b9,jv 0,jv 0] d) (j (.bool false) d))))))) (λo d=>A.r (Xp .not) (h0 o) d λe=>A.fr e Qe x1 d λc0=>A.fr e Ya c0 d λc1=>
 A.fr e (Za 3) c1 d λc2=>A.fa e c2 d λc3=>A.fr e Zc c3 d λc4=>A.fr e Qe (h1 o) d λc5=>A.fb e .neq c4 c5 d λc6=>A.c e (.bool true) c6 d λf=>
 A.fr f Qe x1 d λc7=>A.fr f Ya c7 d λc8=>A.fr f (Za 4) c8 d λc9=>A.fa f c9 d λd0=>A.fr f Zc d0 d λd1=>A.fr f Qe (h2 o) d λd2=>
 A.fb f .neq d1 d2 d λd3=>A.c f (.bool true) d3 d λd4=>A.test d4 (j (.bool false) d) (A.r Ya x1 d λd5=>A.r (Za 3) d5 d λd6=>A.a d6 d λd7=>
 A.r Zc d7 d λd8=>A.loop (λd9 p d=>A.b .lss (h0 p) d8 d λe0=>A.test e0 (A.r Ya x1 d λe1=>A.r (Za 3) e1 d λe2=>A.a e2 d λe3=>
 A.s (Qa 4) e3 (h0 p) d λe4=>A.k 128 [x0,e4] d λe5 d=>A.r (Xp .not) e5 d λe6=>A.test e6 (j (.bool false) d) (A.b .add (h0 p) (jv 1) d λe7=>
 d9 [e7] d)) (A.r Ya x1 d λe8=>A.r (Za 4) e8 d λe9=>A.a e9 d λf0=>A.r Zc f0 d λf1=>A.loop (λf2 q d=>A.b .lss (h0 q) f1 d λf3=>
 A.test f3 (A.r Ya x1 d λf4=>A.r (Za 4) f4 d λf5=>A.a f5 d λf6=>A.s (Qa 5) f6 (h0 q) d λf7=>A.k 130 [x0,f7] d λf8 d=>
 A.r (Xp .not) f8 d λf9=>A.test f9 (j (.bool false) d) (A.b .add (h0 q) (jv 1) d λg0=>f2 [g0] d)) (j (.bool true) d)) [jv 0] d)) [jv 0] d))
 |_=>A.stop
theorem g130_ok:GQ 130 2 g130:=gq2 [some [7,5,6],some [26],none,none,none,some [32],none,none,none,none,some [82],none,none,none,none,some [100],none,none,none] λ_ _ _ _ _ _=>by kernel_rfl
def g131:GFun:=λA xs a b=>match xs with
 |[x0,x1]=>
 A.dcall (.call 156) [] a λc d a=>A.dcall (.call 133) [x0] a λe f a=>A.pu (Yw true 4 4 [c,e] a) λg=>A.dcall (.call 133) [x1] a λh i a=>A.pu (Yw false 4 1 [g,h] a) λj=>
 A.gd (Qd [[],[],[0,1],[0,1,2],[],[0,1,2,4],[0,1,2,3,4,5],[0,1,2,3,4,5,6]] [d,([],[]),f,([],[]),([],[]),i,([],[]),([],[])]) <|
 b j a
 |_=>A.stop
theorem g131_ok:GQ 131 2 g131:=gq2 [] λ_ _ _ _ _ _=>by kernel_rfl
def g132:GFun:=λA xs d h=>match xs with
 |[x0]=>
 A.w1 Xg x0 d λf d=>A.r (Za 0) f d λl=>A.a l d λm=>A.b .eql m (.int .i8 6) d λn=>A.test n (h (.int .i8 3) d) (A.r (Za 0) f d λo=>
 A.a o d λp=>A.b .geq p (.int .i8 8) d λg=>A.tr g (Za 0) f d λq=>A.ta g q d λt=>A.tb g .leq t (.int .i8 12) d λu=>A.c g u (.bool false) d λv=>
 A.test v (A.r (Za 3) f d λw=>A.a w d λi=>A.r Zc i d λy=>A.loop (λz e d=>A.b .lss (h0 e) y d λa0=>A.test a0 (A.s (Qa 4) i (h0 e) d λa1=>
 A.r (Xb true 4) a1 d λa2=>A.wr (Yc zq5 [] d) d λj d=>A.ws (Xa 4) j a2 d λ_ d=>A.r (Xb true 4) j d λa3=>A.k 132 [a3] d λa4 d=>
 A.k 131 [(h1 e),a4] d λa5 d=>A.b .add (h0 e) (jv 1) d λa6=>z [a6,a5] d) (h (h1 e) d)) [jv 0,.int .i8 0] d) (h (.int .i8 0) d))
 |_=>A.stop
theorem g132_ok:GQ 132 1 g132:=gq1 [none,none,none,none,some [22,3],none,none] λ_ _ _ _ _=>by kernel_rfl
def g133:GFun:=λA xs a e=>match xs with
 |[x0]=>
 A.b .lss x0 (.int .i8 0) a λd=>A.fr d Qe x0 a λf=>A.fb d .gtr f (.int .i8 3) a λg=>A.c d (.bool true) g a λh=>A.test h (e (.int .i8 3) a) (e x0 a)
 |_=>A.stop
theorem g133_ok:GQ 133 1 g133:=gq1 [none] λ_ _ _ _ _=>by kernel_rfl
def g134:GFun:=λA xs a c=>match xs with
 |[x0,x1]=>
 A.k 131 [x0,x1] a λd a=>A.k 133 [x1] a λe a=>A.b .eql d e a λf=>c f a
 |_=>A.stop
theorem g134_ok:GQ 134 2 g134:=gq2 [] λ_ _ _ _ _ _=>by kernel_rfl
def g135:GFun:=λA xs c f=>match xs with
 |[x0]=>
 A.w1 Xg x0 c λg c=>A.r (Za 0) g c λn=>A.a n c λo=>A.b .eql o (.int .i8 6) c λp=>A.test p (A.r (Za 1) g c λq=>A.a q c λh=>
 A.b .eql h (.int .i8 0) c λt=>A.test t (f (.int .i8 1) c) (A.b .eql h (.int .i8 1) c λu=>A.test u (f (.int .i8 2) c) (f (.int .i8 3) c))) (A.r (Za 3) g c λv=>
 A.a v c λi=>A.r Zc i c λw=>A.loop (λy d c=>A.b .lss (h0 d) w c λz=>A.test z (A.s (Qa 4) i (h0 d) c λa0=>A.r (Xb true 4) a0 c λa1=>
 A.wr (Yc zq5 [] c) c λj c=>A.ws (Xa 4) j a1 c λ_ c=>A.r (Xb true 4) j c λa2=>A.k 132 [a2] c λa3 c=>A.k 131 [(h1 d),a3] c λa4 c=>
 A.b .add (h0 d) (jv 1) c λa5=>y [a5,a4] c) (A.r (Za 4) g c λa6=>A.a a6 c λl=>A.r Zc l c λa7=>A.loop (λa8 e c=>A.b .lss (h0 e) a7 c λa9=>
 A.test a9 (A.s (Qa 5) l (h0 e) c λb0=>A.r (Xb true 5) b0 c λb1=>A.wr (Yc [.int .i8 0,.int .i8 0,.str [],.nils,.nils] [] c) c λm c=>
 A.ws (Xa 5) m b1 c λ_ c=>A.r (Xb true 5) m c λb2=>A.k 135 [b2] c λb3 c=>A.k 131 [(h1 e),b3] c λb4 c=>A.b .add (h0 e) (jv 1) c λb5=>
 a8 [b5,b4] c) (f (h1 e) c)) [jv 0,(h1 d)] c)) [jv 0,.int .i8 0] c)
 |_=>A.stop
theorem g135_ok:GQ 135 1 g135:=gq1 [none,none,none,none,none,some [20,3],none,none,none,some [32,3],none,none] λ_ _ _ _ _=>by kernel_rfl
def g136:GFun:=λA xs a d=>match xs with
 |[x0,x1]=>
 A.r Zc x0 a λe=>A.loop (λf c a=>A.b .lss (h0 c) e a λg=>A.test g (A.s (Qa 14) x0 (h0 c) a λh=>A.r (Xb true 14) h a λi=>A.call .callv [x1,i] a λj a=>
 A.test j (d (h0 c) a) (A.b .add (h0 c) (jv 1) a λl=>f [l] a)) (d (jv (-1)) a)) [jv 0] a
 |_=>A.stop
theorem g136_ok:GQ 136 2 g136:=gq2 [none,some [8],none,none,none] λ_ _ _ _ _ _=>by kernel_rfl
def g137:GFun:=λA xs a d=>match xs with
 |[x0]=>
 A.b .geq x0 (.int .i32 97) a λe=>A.tr e Qe x0 a λm=>A.tb e .leq m (.int .i32 122) a λn=>A.c e n (.bool false) a λh=>joinK (λi=>A.test h (i [h] a) (
 A.b .geq x0 (.int .i32 65) a λf=>A.tr f Qe x0 a λo=>A.tb f .leq o (.int .i32 90) a λp=>A.c f p (.bool false) a λq=>i [q] a)) (λr a=>A.test (h0 r) (
 d (.bool true) a) (A.b .eql x0 (.int .i32 215) a λj=>joinK (λl=>A.test j (l [j] a) (A.b .eql x0 (.int .i32 247) a λs=>l [s] a)) (λt a=>A.test (h0 t) (
 d (.bool false) a) (A.b .geq x0 (.int .i32 192) a λg=>A.tr g Qe x0 a λu=>A.tb g .leq u (.int .i32 591) a λv=>A.c g v (.bool false) a λw=>d w a))))
 |_=>A.stop
theorem g137_ok:GQ 137 1 g137:=gq1 [none,some [3],none,some [16],none] λ_ _ _ _ _=>by kernel_rfl
def g138:GFun:=λA xs a e=>match xs with
 |[x0]=>
 A.b .geq x0 (.int .i32 48) a λd=>A.tr d Qe x0 a λf=>A.tb d .leq f (.int .i32 57) a λg=>A.c d g (.bool false) a λh=>e h a
 |_=>A.stop
theorem g138_ok:GQ 138 1 g138:=gq1 [] λ_ _ _ _ _=>by kernel_rfl
def g139:GFun:=λA xs c g=>match xs with
 |[]=>
 A.wr (Qk [] c) c λe c=>A.k 157 [(.str [99,97,114,100,32,117,110,105,116,32,99,104,97,114,109,32,102,111,114,109,97,116,32,112,108,97,121,101,100,32,100,101,97,100,32,100,97,119,110,32,97,117,114,97,32,115,104,105,101,108,100,32,104,97,114,109,32,109,101,110,100,32,100,114,97,119,32,103,97,105,110,32,100,114,111,112,32,108,111,111,107,32,115,104,111,119,32,115,117,109,109,111,110,32,105,102,32,101,108,115,101,32,109,101,32,102,111,101,32,116,97,114,103,101,116,32,108,105,102,101,32,104,97,110,100,32,100,101,99,107,32,117,110,105,116,115,32,109,97,110,97,32,99,111,115,116,32,116,111,112,32,112,111,119,101,114,32,109,105,110,32,109,97,120,32,110,111,116,32,97,110,100,32,111,114,32,104,111,108,100,115,32,108,101,97,115,116,32,109,111,115,116,32,99,111,112,105,101,115,32,98,97,110,110,101,100,32,115,105,110,103,108,101])] c λf c=>
 A.r Zc f c λh=>A.loop (λi d c=>A.b .lss (h0 d) h c λj=>A.test j (A.s (Qa 1) f (h0 d) c λl=>A.a l c λm=>A.wr (Xn true [e,m,.bool true] c) c λ_ c=>
 A.b .add (h0 d) (jv 1) c λn=>i [n] c) (g e c)) [jv 0] c
 |_=>A.stop
theorem g139_ok:GQ 139 0 g139:=gq0 [none,some [7],none,none] λ_ _ _ _=>by kernel_rfl
def g140:GFun:=λA xs a d=>match xs with
 |[x0,x1]=>
 A.r Zc x0 a λe=>A.loop (λf c a=>A.b .lss (h0 c) e a λg=>A.test g (A.s (Qa 12) x0 (h0 c) a λh=>A.r (Xb true 12) h a λi=>A.call .callv [x1,i] a λj a=>
 A.test j (d (h0 c) a) (A.b .add (h0 c) (jv 1) a λl=>f [l] a)) (d (jv (-1)) a)) [jv 0] a
 |_=>A.stop
theorem g140_ok:GQ 140 2 g140:=gq2 [none,some [8],none,none,none] λ_ _ _ _ _ _=>by kernel_rfl
def g141:GFun:=λA xs a e=>match xs with
 |[x0,x1]=>
 A.b .lss x0 (jv 0) a λd=>A.fr d Qe x0 a λf=>A.fa d x1 a λg=>A.fr d Ya g a λh=>A.fr d (Za 0) h a λi=>A.fa d i a λj=>A.fr d Zc j a λl=>
 A.fb d .geq f l a λm=>A.c d (.bool true) m a λn=>e n a
 |_=>A.stop
theorem g141_ok:GQ 141 2 g141:=gq2 [] λ_ _ _ _ _ _=>by kernel_rfl
def g142:GFun:=λA xs b d=>match xs with
 |[x0]=>
 A.w1 Xg x0 b λe b=>A.wr (Yc [.bool false] [] b) b λc b=>A.ws (Xa 1) c (.bool false) b λ_ b=>A.r (Xe (.func 158) 0) c b λf=>
 A.k 124 [e,f] b λh b=>A.a c b λg=>d g b
 |_=>A.stop
theorem g142_ok:GQ 142 1 g142:=gq1 [] λ_ _ _ _ _=>by kernel_rfl
def g154:GFun:=λA xs c e=>match xs with
 |[x0,x1]=>
 A.r Zc x0 c λf=>A.loop (λg d c=>A.b .lss (h0 d) f c λh=>A.test h (A.s (Qa 1) x0 (h0 d) c λi=>A.a i c λj=>A.b .eql x1 j c λl=>
 A.test l (e (h0 d) c) (A.b .add (h0 d) (jv 1) c λm=>g [m] c)) (e (jv (-1)) c)) [jv 0] c
 |_=>A.stop
theorem g154_ok:GQ 154 2 g154:=gq2 [none,some [8],none,none,none] λ_ _ _ _ _ _=>by kernel_rfl
def g155:GFun:=λA xs c m=>match xs with
 |[x0,x1]=>
 A.call .callv [x1,x0] c λz c=>A.r (Xp .not) z c λt1=>A.test t1 (m (.bool false) c) (joinK (λe=>A.r (Xu 254 true (.agg [.nilp])) x0 c λp=>
 A.r (Zb 1) p c λt5=>A.r (Zb 0) p c λt6=>A.test t5 (A.wr (Yc [.nilp] [] c) c λd c=>A.ws (Xa 1) d t6 c λ_ c=>A.r (Za 0) d c λt8=>
 A.a t8 c λt9=>A.r Ya t9 c λa0=>A.r (Za 0) a0 c λa1=>A.a a1 c λa2=>A.k 127 [a2] c λa3 c=>joinK (λq=>A.test a3 (A.r (Za 0) d c λa4=>
 A.a a4 c λa5=>A.r Ya a5 c λa6=>A.r (Za 2) a6 c λa7=>A.rd (Qb [.nilp] [(0,1)] [a7] c) λa8=>A.r (Zn 261) a8 c λa9=>
 A.wr (Xf 1 1 [.nili] [(0,1)] [a9] c) c λb0 c=>A.wr (Zg 1 16 [.nils,b0] c) c λb1 c=>q [b1] c) (q [.nils] c)) (λt c=>A.r (Za 0) d c λb2=>
 A.a b2 c λb3=>A.r Ya b3 c λb4=>A.r (Za 0) b4 c λb5=>A.a b5 c λb6=>A.b .eql b6 (.int .i8 8) c λb7=>A.test b7 (A.r (Za 0) d c λb8=>
 A.a b8 c λb9=>A.r Ya b9 c λc0=>A.r (Za 7) c0 c λc1=>A.rd (Qb [.nilp] [(0,1)] [c1] c) λc2=>A.r (Zn 289) c2 c λc3=>
 A.wr (Xf 1 1 [.nili] [(0,1)] [c3] c) c λc4 c=>A.wr (Zg 1 16 [(h0 t),c4] c) c λc5 c=>A.r (Za 0) d c λc6=>A.a c6 c λc7=>A.r Ya c7 c λc8=>
 A.r (Za 12) c8 c λc9=>A.a c9 c λd0=>A.r (Za 0) d c λd1=>A.a d1 c λd2=>A.r Ya d2 c λd3=>A.r (Za 13) d3 c λd4=>
 A.a d4 c λd5=>A.rd (Qb [.nils,.nils] [(0,1),(1,1)] [d0,d5] c) λd6=>A.loop (λd7 f c=>A.b .lss (h0 f) (jv 2) c λd8=>A.test d8 (A.s (Yw false 2 1) d6 (h0 f) c λu=>
 A.r Zc u c λd9=>A.loop (λe0 g c=>A.b .lss (h0 g) d9 c λe1=>A.test e1 (A.s (Qa 14) u (h0 g) c λe2=>A.rd (Qb [.nilp] [(0,1)] [e2] c) λe3=>
 A.r (Zn 254) e3 c λe4=>A.wr (Xf 1 1 [.nili] [(0,1)] [e4] c) c λe5 c=>A.wr (Zg 1 16 [(h1 g),e5] c) c λe6 c=>A.b .add (h0 g) (jv 1) c λe7=>
 e0 [e7,e6] c) (A.b .add (h0 f) (jv 1) c λe8=>d7 [e8,(h1 g)] c)) [jv 0,(h1 f)] c) (e [(h1 f)] c)) [jv 0,c5] c) (e [(h0 t)] c))) (A.r (Xu 261 true (.agg [.nilp])) x0 c λv=>
 A.r (Zb 1) v c λe9=>A.r (Zb 0) v c λf0=>A.test e9 (A.wr (Yc [.nilp] [] c) c λn c=>A.ws (Xa 1) n f0 c λ_ c=>A.r (Za 0) n c λf1=>
 A.a f1 c λf2=>A.r Ya f2 c λf3=>A.r (Za 3) f3 c λf4=>A.a f4 c λf5=>A.r Zc f5 c λf6=>A.loop (λf7 h c=>A.b .lss (h0 h) f6 c λf8=>
 A.test f8 (A.r (Za 0) n c λf9=>A.a f9 c λg0=>A.r Ya g0 c λg1=>A.r (Za 3) g1 c λg2=>A.a g2 c λg3=>A.s (Qa 4) g3 (h0 h) c λg4=>
 A.rd (Qb [.nilp] [(0,1)] [g4] c) λg5=>A.r (Zn 261) g5 c λg6=>A.wr (Xf 1 1 [.nili] [(0,1)] [g6] c) c λg7 c=>A.wr (Zg 1 16 [(h1 h),g7] c) c λg8 c=>
 A.b .add (h0 h) (jv 1) c λg9=>f7 [g9,g8] c) (e [(h1 h)] c)) [jv 0,.nils] c) (A.r (Xu 289 true (.agg [.nilp])) x0 c λw=>A.r (Zb 1) w c λi0=>
 A.r (Zb 0) w c λi1=>A.test i0 (A.wr (Yc [.nilp] [] c) c λi c=>A.ws (Xa 1) i i1 c λ_ c=>A.r (Za 0) i c λi2=>A.a i2 c λi3=>
 A.r Ya i3 c λi4=>A.r (Za 3) i4 c λi5=>A.a i5 c λi6=>A.r Zc i6 c λi7=>A.loop (λi9 j c=>A.b .lss (h0 j) i7 c λj0=>A.test j0 (
 A.r (Za 0) i c λj1=>A.a j1 c λj2=>A.r Ya j2 c λj3=>A.r (Za 3) j3 c λj4=>A.a j4 c λj5=>A.s (Qa 4) j5 (h0 j) c λj6=>
 A.rd (Qb [.nilp] [(0,1)] [j6] c) λj7=>A.r (Zn 261) j7 c λj8=>A.wr (Xf 1 1 [.nili] [(0,1)] [j8] c) c λj9 c=>A.wr (Zg 1 16 [(h1 j),j9] c) c λl0 c=>
 A.b .add (h0 j) (jv 1) c λl1=>i9 [l1,l0] c) (A.r (Za 0) i c λl2=>A.a l2 c λl3=>A.r Ya l3 c λl4=>A.r (Za 4) l4 c λl5=>
 A.a l5 c λl6=>A.r Zc l6 c λl7=>A.loop (λl8 l c=>A.b .lss (h0 l) l7 c λl9=>A.test l9 (A.r (Za 0) i c λm0=>A.a m0 c λm1=>A.r Ya m1 c λm2=>
 A.r (Za 4) m2 c λm3=>A.a m3 c λm4=>A.s (Qa 5) m4 (h0 l) c λm5=>A.rd (Qb [.nilp] [(0,1)] [m5] c) λm6=>A.r (Zn 289) m6 c λm7=>
 A.wr (Xf 1 1 [.nili] [(0,1)] [m7] c) c λm8 c=>A.wr (Zg 1 16 [(h1 l),m8] c) c λm9 c=>A.b .add (h0 l) (jv 1) c λn0=>l8 [n0,m9] c) (e [(h1 l)] c)) [jv 0,(h1 j)] c)) [jv 0,.nils] c) (
 e [.nils] c)))) (λy c=>A.r Zc (h0 y) c λn1=>A.loop (λn2 o c=>A.b .lss (h0 o) n1 c λn3=>A.test n3 (A.s (Qa 1) (h0 y) (h0 o) c λn4=>
 A.a n4 c λn5=>A.k 155 [n5,x1] c λn6 c=>A.r (Xp .not) n6 c λn7=>A.test n7 (m (.bool false) c) (A.b .add (h0 o) (jv 1) c λn8=>n2 [n8] c)) (m (.bool true) c)) [jv 0] c))
 |_=>A.stop
theorem g155_ok:GQ 155 2 g155:=gq2 [none,some [5],none,some [5],none,none,some [66,5],none,none,none,some [71,5],none,none,none,none,some [93,5],none,none,none,none,some [118,5],none,none,none,some [140,5],none,none,none,some [158],none,none,none] λ_ _ _ _ _ _=>by kernel_rfl
def g156:GFun:=λA xs a c=>match xs with
 |[]=>
 A.wr (Yc [.int .i8 0,.int .i8 0,.int .i8 0,.int .i8 0,.int .i8 0,.int .i8 0,.int .i8 0,.int .i8 0,.int .i8 0,.int .i8 0,.int .i8 0,.int .i8 0,.int .i8 0,.int .i8 0,.int .i8 0,.int .i8 0] [] a) a λb a=>
 A.rd (Qb zq4 [(0,1),(1,1),(2,1),(3,1)] [.int .i8 0,.int .i8 1,.int .i8 2,.int .i8 3] a) λd=>A.rd (Qb zq4 [(0,1),(1,1),(2,1),(3,1)] [.int .i8 1,.int .i8 1,.int .i8 3,.int .i8 3] a) λe=>
 A.rd (Qb zq4 [(0,1),(1,1),(2,1),(3,1)] [.int .i8 2,.int .i8 3,.int .i8 2,.int .i8 3] a) λf=>A.rd (Qb zq4 [(0,1),(1,1),(2,1),(3,1)] [.int .i8 3,.int .i8 3,.int .i8 3,.int .i8 3] a) λg=>
 A.rd (Qb [.int .i8 0,.int .i8 0,.int .i8 0,.int .i8 0,.int .i8 0,.int .i8 0,.int .i8 0,.int .i8 0,.int .i8 0,.int .i8 0,.int .i8 0,.int .i8 0,.int .i8 0,.int .i8 0,.int .i8 0,.int .i8 0] [(0,4),(4,4),(8,4),(12,4)] [d,e,f,g] a) λh=>
 A.ws (Xa 16) b h a λ_ a=>A.opt (cellV true 16 b a) λr6=>c r6 a
 |_=>A.stop
theorem g156_ok:GQ 156 0 g156:=gq0 [] λ_ _ _ _=>by kernel_rfl
def g157:GFun:=λA xs d m=>match xs with
 |[x0]=>
 A.loop (λq f d=>A.r Qp x0 d λt=>A.b .lss (h0 f) t d λu=>A.test u (A.s QF x0 (h0 f) d λn=>A.b .or (h1 f) n d λv=>A.s (Xc 256 1) (.rptr row0 0) n d λw=>
 A.a w d λy=>A.r (Zae .i64) y d λo=>A.r (Xp .xor) o d λz=>A.b .and (h3 f) z d λa0=>A.b .add (h2 f) a0 d λa1=>A.b .add (h0 f) (jv 1) d λa2=>
 q [a2,v,a1,o] d) (A.b .geq (h1 f) (.int .u8 128) d λa3=>A.test a3 (A.k 176 [x0,(.func (.func 177) [] [])] d λa4 d=>m a4 d) (A.wr (Yav 1 16 [.str []] [(h2 f)] d) d λl d=>
 A.loop (λa5 i d=>A.r Qp x0 d λa6=>A.b .lss (h0 i) a6 d λg=>A.tr g Qe x0 d λa7=>A.tr g Qe (h0 i) d λa8=>A.ts g QF a7 a8 d λa9=>
 A.ts g (Xc 256 1) (.rptr row0 0) a9 d λb0=>A.ta g b0 d λb1=>A.tb g .neq b1 (.int .u8 0) d λb2=>A.c g b2 (.bool false) d λb3=>A.test b3 (
 A.b .add (h0 i) (jv 1) d λb4=>a5 [b4] d) (A.loop (λp e d=>A.r Qp x0 d λb5=>A.b .lss (h0 e) b5 d λb6=>A.test b6 (A.s QF x0 (h0 e) d λb7=>
 A.s (Xc 256 1) (.rptr row0 0) b7 d λb8=>A.a b8 d λb9=>A.b .eql b9 (.int .u8 0) d λc0=>A.test c0 (A.b .add (h0 e) (jv 1) d λc1=>p [c1,(h1 e),(h2 e)] d) (
 A.rd (YQ [x0,(h2 e),(h0 e)] d) λc2=>A.s (Qa 1) l (h1 e) d λc3=>A.ws (Xa 1) c3 c2 d λ_ d=>A.b .add (h1 e) (jv 1) d λc4=>A.b .add (h0 e) (jv 1) d λc5=>
 A.loop (λc6 j d=>A.r Qp x0 d λc7=>A.b .lss (h0 j) c7 d λh=>A.tr h Qe x0 d λc8=>A.tr h Qe (h0 j) d λc9=>A.ts h QF c8 c9 d λd0=>
 A.ts h (Xc 256 1) (.rptr row0 0) d0 d λd1=>A.ta h d1 d λd2=>A.tb h .neq d2 (.int .u8 0) d λd3=>A.c h d3 (.bool false) d λd4=>A.test d4 (
 A.b .add (h0 j) (jv 1) d λd5=>c6 [d5] d) (p [(h0 j),c4,(h0 j)] d)) [c5] d)) (A.r Qp x0 d λd6=>A.b .lss (h2 e) d6 d λd7=>A.test d7 (A.s XJ x0 (h2 e) d λd8=>
 A.s (Qa 1) l (h1 e) d λd9=>A.ws (Xa 1) d9 d8 d λ_ d=>m l d) (m l d))) [(h0 i),jv 0,(h0 i)] d)) [jv 0] d))) [jv 0,.int .u8 0,jv 0,jv 1] d
 |_=>A.stop
theorem g157_ok:GQ 157 1 g157:=gq1 [none,some [6,5,3,4],none,none,none,none,some [12],none,none,none,some [12,10,11],none,none,none,none,some [12],none,none,none] λ_ _ _ _ _=>by kernel_rfl
def g158:GFun:=λA xs b o=>match xs with
 |[x0,x1]=>
 A.r (Xu 254 true (.agg [.nilp])) x0 b λi=>A.r (Zb 0) i b λp=>A.r (Zb 1) i b λq=>A.wr (Yc [.nilp] [] b) b λh b=>A.ws (Xa 1) h p b λ_ b=>
 joinK (λj=>A.test q (A.a x1 b λd=>A.fr d (Za 0) h b λs=>A.fa d s b λt=>A.fr d Ya t b λu=>A.fr d (Za 1) u b λv=>
 A.fa d v b λw=>A.fb d .eql w (.int .i8 2) b λy=>A.fr d Qe y b λe=>A.tr e (Za 0) h b λz=>A.ta e z b λa0=>A.tr e Ya a0 b λa1=>
 A.tr e (Za 0) a1 b λa2=>A.ta e a2 b λa3=>A.tb e .eql a3 (.int .i8 0) b λa4=>A.tr e Qe a4 b λf=>A.fr f (Za 0) h b λa5=>A.fa f a5 b λa6=>
 A.fr f Ya a6 b λa7=>A.fr f (Za 0) a7 b λa8=>A.fa f a8 b λa9=>A.fb f .eql a9 (.int .i8 1) b λb0=>A.tc e f (.bool true) b0 b λb1=>
 A.fc d e b1 (.bool false) b λb2=>A.c d (.bool true) b2 b λb3=>A.ws (Xa 1) x1 b3 b λ_ b=>j [] b) (j [] b)) (λv5 b=>A.r (Xu 261 true (.agg [.nilp])) x0 b λl=>
 A.r (Zb 0) l b λb4=>A.r (Zb 1) l b λb5=>A.wr (Yc [.nilp] [] b) b λm b=>A.ws (Xa 1) m b4 b λ_ b=>joinK (λn=>A.test b5 (
 A.a x1 b λg=>A.fr g (Za 0) m b λb6=>A.fa g b6 b λb7=>A.fr g Ya b7 b λb8=>A.fr g (Za 0) b8 b λb9=>A.fa g b9 b λc0=>
 A.fb g .eql c0 (.int .i8 7) b λc1=>A.c g (.bool true) c1 b λc2=>A.ws (Xa 1) x1 c2 b λ_ b=>n [] b) (n [] b)) (λc5 b=>A.a x1 b λc3=>A.r (Xp .not) c3 b λc4=>
 o c4 b))
 |_=>A.stop
theorem g158_ok:GQ 158 2 g158:=gq2 [some [],some []] λ_ _ _ _ _ _=>by kernel_rfl
def tb4:GT:=(.node 68 0 g68 (.node 33 3 g33 (.node 16 3 g16 (.node 10 2 g10 (.node 7 0 g7 (.node 5 3 g5 (.node 4 0 g4 .leaf .leaf) (.node 6 3 g6 .leaf .leaf)) (.node 9 3 g9 (.node 8 0 g8 .leaf .leaf) .leaf)) (.node 13 1 g13 (.node 12 1 g12 (.node 11 2 g11 .leaf .leaf) .leaf) (.node 15 2 g15 (.node 14 2 g14 .leaf .leaf) .leaf))) (.node 27 1 g27 (.node 24 2 g24 (.node 18 1 g18 (.node 17 3 g17 .leaf .leaf) (.node 23 1 g23 .leaf .leaf)) (.node 26 1 g26 (.node 25 1 g25 .leaf .leaf) .leaf)) (.node 30 1 g30 (.node 29 1 g29 (.node 28 1 g28 .leaf .leaf) .leaf) (.node 32 2 g32 (.node 31 2 g31 .leaf .leaf) .leaf)))) (.node 56 2 g56 (.node 50 2 g50 (.node 37 1 g37 (.node 35 2 g35 (.node 34 4 g34 .leaf .leaf) (.node 36 3 g36 .leaf .leaf)) (.node 45 2 g45 (.node 42 4 g42 .leaf .leaf) .leaf)) (.node 53 2 g53 (.node 52 1 g52 (.node 51 2 g51 .leaf .leaf) .leaf) (.node 55 1 g55 (.node 54 2 g54 .leaf .leaf) .leaf))) (.node 62 1 g62 (.node 59 2 g59 (.node 58 6 g58 (.node 57 2 g57 .leaf .leaf) .leaf) (.node 61 3 g61 (.node 60 2 g60 .leaf .leaf) .leaf)) (.node 65 3 g65 (.node 64 3 g64 (.node 63 1 g63 .leaf .leaf) .leaf) (.node 67 1 g67 (.node 66 1 g66 .leaf .leaf) .leaf))))) (.node 119 2 g119 (.node 92 3 g92 (.node 86 2 g86 (.node 83 2 g83 (.node 81 3 g81 (.node 80 1 g80 .leaf .leaf) (.node 82 2 g82 .leaf .leaf)) (.node 85 2 g85 (.node 84 2 g84 .leaf .leaf) .leaf)) (.node 89 1 g89 (.node 88 1 g88 (.node 87 3 g87 .leaf .leaf) .leaf) (.node 91 2 g91 (.node 90 2 g90 .leaf .leaf) .leaf))) (.node 98 4 g98 (.node 95 3 g95 (.node 94 2 g94 (.node 93 2 g93 .leaf .leaf) .leaf) (.node 97 2 g97 (.node 96 2 g96 .leaf .leaf) .leaf)) (.node 101 1 g101 (.node 100 1 g100 (.node 99 1 g99 .leaf .leaf) .leaf) (.node 103 1 g103 (.node 102 1 g102 .leaf .leaf) .leaf)))) (.node 136 2 g136 (.node 130 2 g130 (.node 127 1 g127 (.node 125 2 g125 (.node 124 2 g124 .leaf .leaf) (.node 126 1 g126 .leaf .leaf)) (.node 129 1 g129 (.node 128 2 g128 .leaf .leaf) .leaf)) (.node 133 1 g133 (.node 132 1 g132 (.node 131 2 g131 .leaf .leaf) .leaf) (.node 135 1 g135 (.node 134 2 g134 .leaf .leaf) .leaf))) (.node 142 1 g142 (.node 139 0 g139 (.node 138 1 g138 (.node 137 1 g137 .leaf .leaf) .leaf) (.node 141 2 g141 (.node 140 2 g140 .leaf .leaf) .leaf)) (.node 156 0 g156 (.node 155 2 g155 (.node 154 2 g154 .leaf .leaf) .leaf) (.node 158 2 g158 (.node 157 1 g157 .leaf .leaf) .leaf))))))
theorem Zby:tb4.Ok prog GL0:=⟨g68_ok,⟨g33_ok,⟨g16_ok,⟨g10_ok,⟨g7_ok,⟨g5_ok,⟨g4_ok,trivial,trivial⟩,⟨g6_ok,trivial,trivial⟩⟩,⟨g9_ok,⟨g8_ok,trivial,trivial⟩,trivial⟩⟩,⟨g13_ok,⟨g12_ok,⟨g11_ok,trivial,trivial⟩,trivial⟩,⟨g15_ok,⟨g14_ok,trivial,trivial⟩,trivial⟩⟩⟩,⟨g27_ok,⟨g24_ok,⟨g18_ok,⟨g17_ok,trivial,trivial⟩,⟨g23_ok,trivial,trivial⟩⟩,⟨g26_ok,⟨g25_ok,trivial,trivial⟩,trivial⟩⟩,⟨g30_ok,⟨g29_ok,⟨g28_ok,trivial,trivial⟩,trivial⟩,⟨g32_ok,⟨g31_ok,trivial,trivial⟩,trivial⟩⟩⟩⟩,⟨g56_ok,⟨g50_ok,⟨g37_ok,⟨g35_ok,⟨g34_ok,trivial,trivial⟩,⟨g36_ok,trivial,trivial⟩⟩,⟨g45_ok,⟨g42_ok,trivial,trivial⟩,trivial⟩⟩,⟨g53_ok,⟨g52_ok,⟨g51_ok,trivial,trivial⟩,trivial⟩,⟨g55_ok,⟨g54_ok,trivial,trivial⟩,trivial⟩⟩⟩,⟨g62_ok,⟨g59_ok,⟨g58_ok,⟨g57_ok,trivial,trivial⟩,trivial⟩,⟨g61_ok,⟨g60_ok,trivial,trivial⟩,trivial⟩⟩,⟨g65_ok,⟨g64_ok,⟨g63_ok,trivial,trivial⟩,trivial⟩,⟨g67_ok,⟨g66_ok,trivial,trivial⟩,trivial⟩⟩⟩⟩⟩,⟨g119_ok,⟨g92_ok,⟨g86_ok,⟨g83_ok,⟨g81_ok,⟨g80_ok,trivial,trivial⟩,⟨g82_ok,trivial,trivial⟩⟩,⟨g85_ok,⟨g84_ok,trivial,trivial⟩,trivial⟩⟩,⟨g89_ok,⟨g88_ok,⟨g87_ok,trivial,trivial⟩,trivial⟩,⟨g91_ok,⟨g90_ok,trivial,trivial⟩,trivial⟩⟩⟩,⟨g98_ok,⟨g95_ok,⟨g94_ok,⟨g93_ok,trivial,trivial⟩,trivial⟩,⟨g97_ok,⟨g96_ok,trivial,trivial⟩,trivial⟩⟩,⟨g101_ok,⟨g100_ok,⟨g99_ok,trivial,trivial⟩,trivial⟩,⟨g103_ok,⟨g102_ok,trivial,trivial⟩,trivial⟩⟩⟩⟩,⟨g136_ok,⟨g130_ok,⟨g127_ok,⟨g125_ok,⟨g124_ok,trivial,trivial⟩,⟨g126_ok,trivial,trivial⟩⟩,⟨g129_ok,⟨g128_ok,trivial,trivial⟩,trivial⟩⟩,⟨g133_ok,⟨g132_ok,⟨g131_ok,trivial,trivial⟩,trivial⟩,⟨g135_ok,⟨g134_ok,trivial,trivial⟩,trivial⟩⟩⟩,⟨g142_ok,⟨g139_ok,⟨g138_ok,⟨g137_ok,trivial,trivial⟩,trivial⟩,⟨g141_ok,⟨g140_ok,trivial,trivial⟩,trivial⟩⟩,⟨g156_ok,⟨g155_ok,⟨g154_ok,trivial,trivial⟩,trivial⟩,⟨g158_ok,⟨g157_ok,trivial,trivial⟩,trivial⟩⟩⟩⟩⟩⟩
end Go.Ah.Tz
end
section
namespace Go.Ah.Tz
open Go.Proofs.Tryz (prog)
set_option maxRecDepth 1000000
theorem hT4:∀f np g,tb4.get f=some (np,g)→GQ f np g:=GT.get_ok Zby
def b20V:AVal:=(.agg [(.rsl true false 12 [[(.str [73,109,112]),(.bool true),(.int .i64 1),(.int .i64 2),(.int .i64 3),(.int .i64 1),(.int .i64 0),(.int .i64 0),.nils,.nils,.nils,(.int .i64 0)],[(.str [69,108,102]),(.bool true),(.int .i64 2),(.int .i64 1),(.int .i64 1),(.int .i64 0),(.int .i64 1),(.int .i64 0),.nils,.nils,.nils,(.int .i64 0)],[(.str [66,111,108,116]),(.bool false),(.int .i64 1),(.int .i64 0),(.int .i64 0),(.int .i64 0),(.int .i64 0),(.int .i64 0),(.rsl true false 14 [[(.int .i8 0),(.int .i8 2),(.int .i8 0),(.int .i64 3),(.int .i8 0),.nils,(.str []),(.int .i8 0),(.int .i8 0),(.str []),.nils,.nils,.nils,.nils]]),.nils,.nils,(.int .i64 0)]]),(.rsl true false 7 [[(.str [115,116,100]),(.int .i64 0),(.int .i64 60),(.int .i64 60),.nils,.nils,(.int .i64 0)]])])
def dkV:AVal:=(.agg [(.rsl true false 1 [[(.int .i64 0)],[(.int .i64 1)],[(.int .i64 2)],[(.int .i64 0)],[(.int .i64 1)],[(.int .i64 2)]]),(.rsl true false 1 [[(.int .i64 2)],[(.int .i64 1)],[(.int .i64 0)],[(.int .i64 0)]])])
theorem p7:PC 7 [] b20V:=Xaf hP hT4 (much:=1000000000) 60 (by kernel_rfl)
theorem p8:PC 8 [] dkV:=Xaf hP hT4 (much:=1000000000) 60 (by kernel_rfl)
theorem p13:PC 13 [b20V] (.agg [.int .i64 0,.int .i64 0]):=Xaf hP hT4 (much:=1000000000) 60 (by kernel_rfl)
def kn4:Known:=[(7,[],b20V),(8,[],dkV),(13,[b20V],.agg [.int .i64 0,.int .i64 0])]
theorem Ybw:KnOk prog GL0 kn4:=⟨⟨⟨g7_ok.plain,rfl,rfl⟩,p7⟩,⟨⟨g8_ok.plain,rfl,rfl⟩,p8⟩,⟨⟨g13_ok.plain,rfl,rfl⟩,p13⟩,trivial⟩
theorem p4:PC 4 [] (.bool true):=Ybd hP hT4 (much:=1000000000) Ybw 60 (by kernel_rfl)
end Go.Ah.Tz
end
section
namespace Go.Proofs.YtpgifcpblbmcbaaGreatDoor
open Go.ChangeShapes Go.WideShapes Go.ChangeAt Go.RowKit Go.Ah Go.Ah.Tz
theorem Qah{H:Type}{enc:TypeId×Value→H}{P:Program}{f:Func}{s:ChangeSpec}{apart fresh handsOn again:Bool}{W W':World}{args:Array Value}{v:Value}{ds gs:List (DataW H)}{before pa pv:List MemPlace}
 (hW:DataW.Whole enc P f.params.toList s.vars apart W args.toList ds gs before)
 (hres:∀(b:Nat) (sp:Nat→Bool) (hd:Bool),DataW.TrodAll enc P W' b sp hd f.resultTypes.toList (v.resultList f.resultTypes.size) (s.fn H (ds++gs)).results [])
 (hargs:∀sp:Nat→Bool,(∀p∈before,sp p.block=true)→DataW.TrodAll enc P W' 0 sp true f.params.toList args.toList (s.fn H (ds++gs)).args pa)
 (hvars:∀sp:Nat→Bool,(∀p∈before,sp p.block=true)→DataW.TrodVars enc P W' sp s.vars (s.fn H (ds++gs)).vars pv)
 (hps:before=pa++pv)(hb:Below W.heap.size W W')
 (hok:∀(j:Nat) (t:TypeId) (r:Value),f.resultTypes[j]?=some t→(v.resultList f.resultTypes.size)[j]?=some r→Value.okWide P W' .any 0 t r) :
  s.post enc P f apart fresh handsOn again W args v W':=by
 have hold:∀p∈before,(λb=>decide (b<W.heap.size)) p.block=true:=λp hp=>by simpa using hW.lt p hp
 refine⟨ds,gs,before,[],pa,pv,hW,hres _ _ _,hargs _ hold,hvars _ hold,World.keptBut_mono (λp hp=>⟨hp,?_⟩) (hb.frame (·∈before)),λ_=>?_⟩
 ·rw[hps,List.mem_append] at hp;exact Or.inr hp
 ·have hlt:=hW.lt;obtain⟨_,_,_,_,_,hz,hn⟩:=hW;refine⟨hok,_,_,([]++pa)++pv,⟨[]++pa,pv,trodAll_append (hargs _ (λ_ _=>rfl)) (hres _ _ _),hvars _ (λ_ _=>rfl),rfl,?_,?_⟩,?_⟩
  ·intro b off hp;have hin:MemPlace.cell b off∈before:=by rw[hps]; simpa using hp
   rw[hb.frozen (p:=⟨b,off,none⟩) (show b<W.heap.size from hlt _ hin)];exact hz b off hin
  ·intro ha;have:=hn ha;rw[hps] at this;simpa using this
  ·intro p hp _;rw[hps];simpa using hp
set_option maxRecDepth 100000
abbrev t_u8:TypeId:=5
abbrev Qbx:TypeId:=291
theorem d_own:ownKnob Tryz.prog.godebug=none:=by kernel_rfl
theorem Xbt:Tryz.prog.globalNamed "strings.asciiSpace" = some 0:=by kernel_rfl
theorem YaX:(Tryz.prog.globals[0]?).map (·.type)=some Qbx:=by kernel_rfl
theorem ZaX:laidOutB Tryz.prog=true:=by kernel_rfl
def spaces:List Int:=(List.range 256).map λi=>match (Nat.ble 9 i&&Nat.ble i 13)||Nat.beq i 32 with|true=>1|false=>0
theorem Xbo{l:List (String×DataW Unit)}{x1 x2 x3 x4:String×DataW Unit}(hl:l=[x1,x2,x3,x4,("strings.asciiSpace",Lib.tabData .u8 spaces)]){W:World}(h:laidMet Tryz.prog l W):∀p∈GL0,Den (λb=>W.heap[b]?) noOwn (.rptr p.2 0) (.pointer (some ⟨p.1,0,none⟩)):=by
 subst hl;have ht:Lib.TabIs Tryz.prog W "strings.asciiSpace" .u8 spaces:=Lib.tabIs_of_head (rest:=[]) Xbt YaX (show Tryz.prog.underlying Qbx=some (.array 256 t_u8) by kernel_rfl) (show Tryz.prog.underlying t_u8=some (.int .u8) by kernel_rfl) (by kernel_rfl) (by kernel_rfl) h.tail.tail.tail.tail;have hlen:spaces.length=256:=by simp[spaces]
 have hrow:row0=spaces.map (AVal.int .u8):=by rw[row0,spaces,List.map_map]; rfl
 intro p hp;simp only[GL0,List.mem_singleton] at hp;subst hp;refine .rptr _ row0 0 0 0 (λk=>.int .u8 (spaces.getD k 0)) (λk hk=>?_) (λk y hy=>?_)
 ·have hk':k<spaces.length:=by rw[hrow,List.length_map] at hk; exact hk
  have:=(ZaU (ht.cell Xbt k hk')).2;rw[Nat.zero_add]; exact this
 ·rw[hrow,List.getElem?_map] at hy;obtain⟨z,hz,rfl⟩:=Option.map_eq_some_iff.1 hy;have:spaces.getD k 0=z:=by simp[List.getD,hz]
  rw[this]; exact .int _ _ _
def Zax:List TypeId:=[YX,Xy]
theorem XaX:Zax.all (tyOk Tryz.prog Zax)=true:=by kernel_rfl
section
variable {H:Type} {enc:TypeId×Value→H} {W:World} {base:Nat} {v:Value} {d:DataW H} {ps:List MemPlace}
theorem d_int(ho:Value.okWide Tryz.prog W .any base YX v)(h:DataW.Trod enc Tryz.prog W 0 (λ_=>true) true YX v d ps):∃n:Int,Den (λk=>W.heap[k]?) noOwn (iv n) v:=by
 obtain⟨n,rfl,_⟩:=open_int Qby ho h;exact⟨n,.int _ _ _⟩
theorem Ybt(ho:Value.okWide Tryz.prog W .any base Xy v)(h:DataW.Trod enc Tryz.prog W 0 (λ_=>true) true Xy v d ps)(hb:Rows.uptoBulk d≤1048576):∃l:List Int,l.length≤1000000000∧Den (λk=>W.heap[k]?) noOwn (rowV l) v:=by
 obtain⟨a,len,cap,rfl⟩:=okWide_slice Zbn ho;obtain⟨fuel,hf⟩:=h;obtain⟨_,xs,h1,h2⟩:=Yau (S:=Zax) XaX fuel Xy (by decide) _ _ ⟨_,hf⟩;obtain⟨l,rfl,k⟩:=Xby h2 hb;exact⟨l,by omega,h1.2 0 _ _ rfl rfl⟩
end
theorem Qaw{H:Type}{enc:TypeId×Value→H}{t:TypeId}(hr:Tryz.prog.readableRec t=true)(hrow:t<Tryz.prog.types.size){W W':World}{v:Value}{d:DataW H}{ps all:List MemPlace}(h:DataW.Trod enc Tryz.prog W 0 (λ_=>true) true t v d ps)(hb:Below W.heap.size W W')(hlt:∀p∈all,p.block<W.heap.size)(hin:∀p∈ps,p∈all){sp:Nat→Bool}(hs:∀p∈all,sp p.block=true):DataW.Trod enc Tryz.prog W' 0 sp true t v d ps:=
 WideElems.Trod_stays ZaX hr hrow h (λp hp=>hb.same (hlt p (hin p hp))) (λp hp=>hs p (hin p hp))
theorem Xbl(t:TypeId)(h:(Tryz.prog.readableRec t&&decide (t<Tryz.prog.types.size))=true):Tryz.prog.readableRec t=true∧t<Tryz.prog.types.size:=by simpa using h
theorem Qbw:Tryz.prog.readableRec YX=true∧YX<Tryz.prog.types.size:=Xbl YX (by kernel_rfl)
theorem Ybi:Tryz.prog.readableRec Xy=true∧Xy<Tryz.prog.types.size:=Xbl Xy (by kernel_rfl)
theorem Ze{a b:Bool}(h:a=true)(k:b=true):(a&&b)=true:=by rw[h,k]; rfl
def d_pow:List Int:=[1,10,100,1000,10000,100000,1000000,10000000,100000000,1000000000,10000000000,100000000000,1000000000000,10000000000000,100000000000000,1000000000000000,10000000000000000,100000000000000000,1000000000000000000,10000000000000000000]
def d_b32:List Int:=[0,1,28,2,29,14,24,3,30,22,20,15,25,17,4,8,31,27,13,23,21,19,16,7,26,12,18,6,11,5,10,9]
def d_b64:List Int:=[0,1,56,2,57,49,28,3,61,58,42,50,38,29,17,4,62,47,59,36,45,43,51,22,53,39,33,30,24,18,12,5,63,55,48,27,60,41,37,16,46,35,44,21,52,32,23,11,54,26,40,15,34,20,31,10,25,14,19,9,13,8,7,6]
def Xbd:List Int:=[9,13,1,32,133,101,160,5760,5600,8192,8202,1,8232,8233,1,8239,8287,48,12288,12288,1]
noncomputable def Yax (os:Os):World:=
 let w0:=World.holding Tryz.prog os ⟨#[],#[],[]⟩
 let put (h:Array Obj) (g:Nat) (cs:Array Value):Array Obj:=h.modify g fun
  |.cells _ t frozen=>.cells cs t frozen
  |o=>o
 let h1:=put w0.heap 0 (spaces.map λz=>Value.int .u8 z).toArray
 let h2:=put h1 1 #[.pointer (some ⟨w0.heap.size,0,none⟩)]
 let h3:=put h2 2 (d_pow.map λz=>Value.int .u64 z).toArray
 let h4:=put h3 3 (d_b32.map λz=>Value.int .u8 z).toArray
 let h5:=put h4 4 (d_b64.map λz=>Value.int .u8 z).toArray
 { w0 with heap:=(h5.push (.cells #[.slice (some ⟨w0.heap.size+1,0,none⟩) 7 7,.slice none 0 0,.int .i64 2] 317 (0,0))).push (.cells (Xbd.map λz=>Value.int .u16 z).toArray 320 (0,0)) }
theorem YaM:Rows.gameShufflesUptoRow.laid=[("math/bits.deBruijn32tab",Rows.laid_math_bits_deBruijn32tab),("math/bits.deBruijn64tab",Rows.laid_math_bits_deBruijn64tab),("internal/strconv.uint64pow10",Rows.laid_internal_strconv_uint64pow10),("unicode.White_Space",Rows.laid_unicode_White_Space),("strings.asciiSpace",Lib.tabData .u8 spaces)]:=by kernel_rfl
theorem X7(H:Type)(enc:TypeId×Value→H)(W:World)(base:Nat)(args:Array Value)(ds gs:List (DataW H))(before:List MemPlace)
 (hval:∀(j:Nat) t v,Tryz.f3.params[j]?=some t→args[j]?=some v→Value.okWide Tryz.prog W .any base t v)
 (hW:DataW.Whole enc Tryz.prog Tryz.f3.params.toList Rows.gameShufflesSpec.vars false W args.toList ds gs before)(hk:Rows.uptoSmall H (ds++gs)=true)(hL:laidMetH Tryz.prog Rows.gameShufflesUptoRow.laid W) :
  Calls Tryz.prog 3 args W λe W'=>∃v,e=.returned v∧Rows.gameShufflesSpec.post enc Tryz.prog Tryz.f3 false true false false W args v W':=by
 have hW':=hW;have hlt:=hW.lt;obtain⟨p,q,hA0,hV,rfl,hfz,hnd⟩:=hW;have hA:DataW.TrodAll enc Tryz.prog W 0 (λ_=>true) true Tryz.f3.params.toList args.toList ds p:=hA0;rw[Tryz.params3] at hA hval;obtain⟨v0,vs,d0,ds,p0,p,hargs,rfl,rfl,h0,r⟩:=trodAll_cons hA;obtain⟨v1,vs,d1,ds,p1,p,rfl,rfl,rfl,h1,r⟩:=trodAll_cons r;obtain⟨v2,vs,d2,ds,p2,p,rfl,rfl,rfl,h2,r⟩:=trodAll_cons r;obtain⟨rfl,rfl,rfl⟩:=trodAll_nil r;obtain rfl:args = #[v0,v1,v2]:=by cases args; simp_all
 obtain⟨rfl,rfl⟩:=trodVars_none hV;have hbk:Rows.uptoBulkAll [d0,d1,d2]≤1048576:=of_decide_eq_true hk;simp only[Rows.uptoBulkAll] at hbk;obtain⟨a0,l0,e0⟩:=Ybt (hval 0 _ v0 rfl rfl) h0 (by omega);obtain⟨a1,l1,e1⟩:=Ybt (hval 1 _ v1 rfl rfl) h1 (by omega);obtain⟨n2,e2⟩:=d_int (hval 2 _ v2 rfl rfl) h2;have hg:=Xbo YaM (show laidMet Tryz.prog Rows.gameShufflesUptoRow.laid W from hL);refine(c3 p4 a0 a1 l0 l1 n2 W (λk=>W.heap[k]?) [v0,v1,v2] (λ_ _ h=>h) hg ⟨e0,e1,e2,trivial⟩).mono ?_;rintro e W' ⟨u,rfl,hkeep,M',_,_,_,hd⟩;cases hd;have hb:=hkeep.below;refine⟨_,rfl,Qah (pa:=p0++(p1++(p2++[]))) (pv:=[]) hW' (λ_ _ _=>trodAll_cons_mk (shut_bool Qbm _) trodAll_mk0) (λsp hsp=>?_) (λ_ _=>rfl) rfl hb (ok_one (by kernel_rfl) rfl (okWide_bool_mk Qbm _))⟩;rw[Tryz.params3];refine trodAll_cons_mk (Qaw Ybi.1 Ybi.2 h0 hb hlt (λp hp=>by simp[hp]) hsp) <| trodAll_cons_mk (Qaw Ybi.1 Ybi.2 h1 hb hlt (λp hp=>by simp[hp]) hsp) <| trodAll_cons_mk (Qaw Qbw.1 Qbw.2 h2 hb hlt (λp hp=>by simp[hp]) hsp) trodAll_mk0
def QG:Array Value:=#[.slice none 0 0,.slice none 0 0,.int .i64 0]
theorem Xa4(os:Os):laidMet Tryz.prog Rows.gameShufflesUptoRow.laid ((Yax os).forCall (λ_ _=>0) ⟨#[],QG,[]⟩).memory:=
 laidMet_of_run' 8 (by kernel_rfl) (by kernel_rfl)
theorem Qay(os:Os){H:Type}(enc:TypeId×Value→H):∃places,DataW.whole enc Tryz.prog ((Yax os).forCall (λ_ _=>0) ⟨#[],QG,[]⟩).memory Tryz.f3.params.toList Rows.gameShufflesSpec.vars false QG.toList 8 =
  some ([.nil,.nil,.lit (.int .i64 0)],[],places):=⟨[],by kernel_rfl⟩
theorem Qan(os:Os)(started:os.Started)(H:Type)(enc:TypeId×Value→H)(F:Stop.Interp) :
  ReturnsInHanded {} Tryz.checked os 3 .any ((Rows.OpenSpec.upto Rows.gameShufflesSpec).preRow enc Tryz.prog Tryz.f3 Rows.gameShufflesUptoRow.domain false Rows.gameShufflesUptoRow.laid) (((Rows.OpenSpec.upto Rows.gameShufflesSpec).at F).post enc Tryz.prog Tryz.f3 false true false false):=by
 obtain⟨places,hx⟩:=Qay os enc;refine returnsInHanded_of_row (C:=Tryz.checked) (s:=Rows.OpenSpec.upto Rows.gameShufflesSpec) d_own started (by kernel_rfl) Tryz.func3
  (witness_row_atRef (enc:=enc) (C:=Tryz.checked) false (Yax os) QG rfl (by kernel_rfl) (by kernel_rfl) (by kernel_rfl)
   (OpenSpec.preRow_of_cond 8 hx (by kernel_rfl) (λk hk=>by cases hk; kernel_rfl) (by kernel_rfl) (Xa4 os))) ?_
 intro W base args ds gs before hval hW _ hcond _ hL _ _;exact X7 H enc W base args ds gs before hval hW (hcond _ rfl) hL
theorem Xbe:Tryz.prog.funcNamed Rows.gameShufflesUptoRow.func=some 3:=by kernel_rfl
theorem Qbe:(Rows.gameShufflesUptoRow.wf (OpenSpec.ofChange (Rows.OpenSpec.upto Rows.gameShufflesSpec).bare))=true:=by kernel_rfl
theorem Zbf:(laidOutB Tryz.prog)=true:=by kernel_rfl
theorem Ybf:(mapsRowed Tryz.prog)=true:=by kernel_rfl
theorem Xbf:(Tryz.f3.params.all (Tryz.prog.readableRec ·))=true:=by kernel_rfl
theorem Qbf:(namedTie Tryz.prog Rows.gameShufflesUptoRow.named (Rows.OpenSpec.upto Rows.gameShufflesSpec).bare.vars)=true:=by kernel_rfl
theorem Zbg:(Rows.gameShufflesUptoRow.stops==[])=true:=by kernel_rfl
theorem Ybg:(Tryz.prog.stops==[])=true:=by kernel_rfl
theorem Xbg:(Rows.gameShufflesUptoRow.knobs==[])=true:=by kernel_rfl
theorem Qbg:(Tryz.prog.stopKnobs==[])=true:=by kernel_rfl
theorem QaY:(Rows.gameShufflesUptoRow.inPlace==Tryz.prog.inPlace 3)=true:=by kernel_rfl
theorem ZaZ:(Rows.gameShufflesUptoRow.unfollowed==Tryz.prog.unfollowed 3)=true:=by kernel_rfl
theorem YaZ:(Rows.gameShufflesUptoRow.recurses==Tryz.prog.recurses 3)=true:=by kernel_rfl
theorem XaZ:(Rows.gameShufflesUptoRow.named==Tryz.prog.varsNamed 3)=true:=by kernel_rfl
theorem QaZ:(Rows.gameShufflesUptoRow.maps==(Tryz.f3.params.toList++(Rows.OpenSpec.upto Rows.gameShufflesSpec).bare.plain.varTypes Tryz.prog).any (Tryz.prog.mapsRec ·))=true:=by kernel_rfl
theorem Za0:(Rows.gameShufflesUptoRow.ifaces==(Tryz.f3.params.toList++(Rows.OpenSpec.upto Rows.gameShufflesSpec).bare.plain.varTypes Tryz.prog).any (Tryz.prog.ifacesRec ·))=true:=by kernel_rfl
theorem Ya0:(Rows.gameShufflesUptoRow.mapsOut==Tryz.prog.mapsAmong Tryz.f3.resultTypes.toList)=true:=by kernel_rfl
theorem Xa0:(Rows.gameShufflesUptoRow.loops==(Tryz.f3.params.toList++(Rows.OpenSpec.upto Rows.gameShufflesSpec).bare.plain.varTypes Tryz.prog).any (Tryz.prog.loopsFrom ·))=true:=by kernel_rfl
theorem Qa0:(Rows.gameShufflesUptoRow.wideKeys==(Tryz.f3.params.toList++(Rows.OpenSpec.upto Rows.gameShufflesSpec).bare.plain.varTypes Tryz.prog++Tryz.f3.resultTypes.toList).any (Tryz.prog.wideKeysFrom ·))=true:=by kernel_rfl
theorem Za1:((Rows.OpenSpec.upto Rows.gameShufflesSpec).bare.vars.all (Tryz.prog.varReadable ·))=true:=by kernel_rfl
theorem Ya1:(Tryz.f3.resultTypes.all (λt=>Tryz.prog.readableRec t&&decide (t<Tryz.prog.types.size)))=true:=by kernel_rfl
theorem Xa1:(Rows.gameShufflesUptoRow.ifacesOut==Tryz.f3.resultTypes.toList.any (Tryz.prog.ifacesRec ·))=true:=by kernel_rfl
theorem Qa1:(Rows.gameShufflesUptoRow.loopsOut==Tryz.f3.resultTypes.toList.any (Tryz.prog.loopsFrom ·))=true:=by kernel_rfl
theorem Za2:(Rows.gameShufflesUptoRow.plainKeys==Tryz.prog.plainKeys)=true:=by kernel_rfl
theorem Ya2:(Rows.gameShufflesUptoRow.shortTexts.isNone)=true:=by kernel_rfl
theorem Xa2:(Tryz.prog.stopsHeard)=true:=by kernel_rfl
theorem Qa2:(Tryz.prog.mayEnter)=true:=by kernel_rfl
theorem Za3:(Rows.gameShufflesUptoRow.lifted==Tryz.prog.liftsFinal)=true:=by kernel_rfl
theorem Ya3:(Tryz.prog.make==some Rows.gameShufflesUptoRow.make)=true:=by kernel_rfl
theorem Xa3:(Rows.gameShufflesUptoRow.kinds==(if Rows.gameShufflesUptoRow.domain.isEmpty then [] else Tryz.f3.params.toList.map λt=>match Tryz.prog.underlying t with|some (.int k)=>some k|_=>none))=true:=by kernel_rfl
theorem Qa3:(Rows.gameShufflesUptoRow.pinned==Rows.gameShufflesUptoRow.pinnedBy)=true:=by kernel_rfl
theorem Za4:(Rows.gameShufflesUptoRow.veiled==(Tryz.f3.params.toList++(Rows.OpenSpec.upto Rows.gameShufflesSpec).bare.plain.varTypes Tryz.prog++Tryz.f3.resultTypes.toList).any (Tryz.prog.veiledRec ·))=true:=by kernel_rfl
theorem Ya4:(Rows.gameShufflesUptoRow.veiledFits Tryz.prog Tryz.f3.params.toList (Tryz.f3.params.toList++(Rows.OpenSpec.upto Rows.gameShufflesSpec).bare.plain.varTypes Tryz.prog++Tryz.f3.resultTypes.toList))=true:=by kernel_rfl
theorem Xan:joinedFacts Tryz.prog 3 Tryz.f3 (Rows.OpenSpec.upto Rows.gameShufflesSpec).bare Rows.gameShufflesUptoRow=true:=(Ze (Ze (Ze (Ze (Ze (Ze (Ze (Ze (Ze (Ze (Ze (Ze (Ze (Ze (Ze (Ze (Ze (Ze (Ze (Ze (Ze (Ze (Ze (Ze (Ze (Ze (Ze (Ze (Ze (Ze (Ze Qbe Zbf) Ybf) Xbf) Qbf) Zbg) Ybg) Xbg) Qbg) QaY) ZaZ) YaZ) XaZ) QaZ) Za0) Ya0) Xa0) Qa0) Za1) Ya1) Xa1) Qa1) Za2) Ya2) Xa2) Qa2) Za3) Ya3) Xa3) Qa3) Za4) Ya4)
theorem XaM:Rows.GameShufflesUptoSaid:=
 OpenClaim.holds_of_cond 3 Tryz.f3 rfl rfl rfl rfl rfl rfl rfl ⟨rfl,rfl,rfl,rfl,rfl⟩ rfl rfl rfl rfl rfl Xbe Tryz.func3 Xan
  (of_decide_eq_true (by kernel_rfl)) (by unfold Func.isWrapper; first|(rw[if_pos (by decide +kernel)]; kernel_rfl)|(rw[if_neg (by decide +kernel)]; exact⟨rfl,rfl⟩))
  (λos started H enc _ F=>by rw[OpenClaim.pre_eq_preRow]; exact Qan os started H enc F)
theorem Xay(f:FuncId)(fn:Func)(hf:Tryz.pinned.checked.prog.funcNamed "baize/baizelaw24.GameShuffles" = some f)(hfn:Tryz.pinned.checked.prog.funcs[f]?=some fn) :
  true=Tryz.pinned.checked.prog.looks []∧∀(j:Nat) t,fn.params[j]?=some t→Tryz.pinned.checked.prog.wantsStandIn t=false:=by
 obtain rfl:f=3:=Option.some.inj ((show Tryz.prog.funcNamed "baize/baizelaw24.GameShuffles" = some 3 by kernel_rfl).symm.trans hf) |>.symm;obtain rfl:fn=Tryz.f3:=(Option.some.inj (Tryz.func3.symm.trans hfn)).symm;refine⟨by kernel_rfl,λj t ht=>?_⟩;rw[Tryz.params3] at ht;have hm:t∈[Xy,Xy,YX]:=by simpa using Array.mem_of_getElem? ht
 have hall:([Xy,Xy,YX].all λu=>!Tryz.prog.wantsStandIn u)=true:=by kernel_rfl
 exact(show Tryz.prog.wantsStandIn t=false by simpa using List.all_eq_true.1 hall t hm)
theorem gameShuffles_upto_card:Rows.GameShufflesUptoCardSaid:=
 Claim7.holds_tied_plain_at .later [] _ _ _ _ XaM (λ_ h=>by cases h) (by kernel_rfl) (λ_ h=>by cases h) gameShufflesUpto_row_tie rfl ⟨rfl,rfl⟩ (by kernel_rfl) rfl Xay (by kernel_rfl)
#print axioms gameShuffles_upto_card
end Go.Proofs.YtpgifcpblbmcbaaGreatDoor
end
