/- Part of the proof that ArchiveBack holds of the program for arguments that together hold at most 1048576 values and letters; no other condition. -/
import Derived.Test.YtflkgbeolnbadaaGreatDoorZ3
import Derived.Test.YtflkgbeolnbadaaGreatDoorRows
import Derived.Test.YtflkgbeolnbadaaGreatDoorCards
import Derived.Test.YtflkgbeolnbadaaGreatDoorTie
import Derived.ProofKit
import Derived.OpenShut
import Derived.Carry
import Derived.SevenTiedAt
import Derived.JoinedCond
import Derived.LaidMore
import Derived.SizedLaws
import Derived.Stop.LaidErr
import Derived.Deep.DeepHandedRow
import Derived.Deep.DeepWitnessRowRef
import Derived.Lib.LaidTab
set_option linter.all false
section
namespace Go.Ah.Tz
open Go.Proofs.Tryz (prog)
set_option maxRecDepth 100000
theorem Zcu{σ:List ABlk}{b i j n sz:Nat}{rows:List (List AVal)}{row row' cs:List AVal}{x:AVal}(hb:hget σ b=.rows sz rows)(hr:rows[i]?=some row)(hc:cellsOf x=some cs)(hn:Nat.beq cs.length n=true)(hs:splice j cs row=some row') :
  Ym n [.ptr b i j,x] σ=.ok .junk [] [(b,.rows sz (rows.set i row'))]:=by
 have hi:i<rows.length:=by
  rcases Nat.lt_or_ge i rows.length with h|h
  ·exact h
  ·rw[List.getElem?_eq_none h] at hr; cases hr
 unfold Ym;simp only[hb,ZR,hr,hc,hn,cond_true,hs,XaM hi]
theorem Xcj{τ:List ABlk}{b i j sz:Nat}{rows:List (List AVal)}{row:List AVal}{v:AVal}(hb:hget τ b=.rows sz rows)(hr:rows[i]?=some row)(hv:partA false j 1 row=some v):Zf false 1 [.ptr b i j] τ=.ok v [b] []:=by
 show (match hget τ b with
   |.rows _ rs=>match nth rs i with
    |some row=>match partA false j 1 row with
     |some v=>SRes.ok v [b] []
     |none=>.stop
    |none=>.stop
   | _=>.stop)=_
 rw[hb];simp only[ZR,hr,hv]
theorem Qb{σ:List ABlk}{b c:Nat}{x:ABlk}(hbc:b≠c):hget (σ.set c x) b=hget σ b:=by
 rcases Nat.lt_or_ge b σ.length with h|h
 ·have e1:hget σ b=σ[b]:=Yw (by simp[h]);rw[e1];exact Yw (by rw[List.getElem?_set_ne (Ne.symm hbc)]; simp[h])
 ·rw[YaC h,YaC (by simpa using h)]
theorem OL.cell{l:List Int}{v:AVal}{σ:List ABlk}(h:OL l v σ):cellsOf v=some [v]:=by
 rcases h with ⟨rfl,_⟩|⟨b,ex,rfl,_⟩<;>rfl
theorem KA.kb{c a:Nat}{σ υ τ:List ABlk}(h:KA c a σ υ)(k:KB c υ τ)(hac:a≠c):KA c a σ τ:=by
 obtain⟨x0,x1,x2,x3,x4,x5,e⟩:=h.2.2;exact h.trans (k.ka hac e)
theorem KA.out{c a n:Nat}{σ τ:List ABlk}(h:KA c a σ τ)(hn:σ.length≤n)(hna:n≠a)(x:ABlk):KA c a σ (τ.set n x):=by
 obtain⟨h1,h2,x0,x1,x2,x3,x4,x5,e⟩:=h;refine⟨by simpa using h1,λd k1 k2 k3=>?_,x0,x1,x2,x3,x4,x5,Qa e (by simp) hna⟩;have:=hlt k3;exact Qa (h2 d k1 k2 k3) k3 (by omega)
theorem KA.seta{c a:Nat}{σ τ:List ABlk}(h:KA c a σ τ)(x0 x1 x2 x3 x4 x5:AVal):KA c a σ (τ.set a (.box [x0,x1,x2,x3,x4,x5])):=by
 obtain⟨y0,y1,y2,y3,y4,y5,e⟩:=h.2.2;exact h.trans (KA.set (by rw[e]; simp) _ _ _ _ _ _)
theorem KA.kp{c a:Nat}{σ υ τ:List ABlk}{v:AVal}(h:KA c a σ υ)(k:Kp v υ τ)(hv:∀d o n e,v=.sl d o n e→σ.length≤d∧d≠a):KA c a σ τ:=by
 obtain⟨h1,h2,x0,x1,x2,x3,x4,x5,e⟩:=h;refine⟨Nat.le_trans h1 k.1,λd k1 k2 k3=>?_,x0,x1,x2,x3,x4,x5,?_⟩
 ·have q:=h2 d k1 k2 k3;have hl:=hlt k3;rw[k.2 d (by rw[q]; exact k3) (λo n e w=>by have:=(hv _ _ _ _ w).1; omega),q]
 ·rw[k.2 a (by rw[e]; simp) (λo n e w=>(hv _ _ _ _ w).2 rfl)]; exact e
theorem XbO{α β:Type}(f:α→β)(l:List α)(x y:α)(k:Nat)(hk:l.length=k):((l++[x]).map f).set k (f y)=(l++[y]).map f:=by
 subst hk;simp
theorem Ycu{m n:Nat}(h:n≤m)(hm:m≤1000000000):IntKind.i64.wrap ((m:Int)-(n:Int))=((m-n:Nat):Int):=by
 rw[show (m:Int)-(n:Int)=((m-n:Nat):Int) by omega];exact IntWalk.i64_in _ (by omega)
theorem QW(b:List UInt8)(p k:Nat):(nums8 b p k).length=k:=by simp[nums8]
attribute [local irreducible] Ans.rd Ans.pu Ans.wr Ans.dr Ans.gr Ans.gw Ans.gl Ans.gd Ans.opt joinK W
set_option maxHeartbeats 8000000
theorem ZcX{b:List UInt8}{p c a:Nat}{x0 x1 x2 x3 x5:AVal}{σ:List ABlk}{Z:PZ}{K:KT}(hc:hget σ c=.box [byV b,iv p,.bool true])(hlen:b.length≤900000000)(hle:p≤b.length)
 (ha:hget σ a=.box [x0,x1,x2,x3,.nils,x5])(hac:a≠c)(hZ:listO 8 numO (b.drop p)=none→∀(q:Nat) τ,KA c a σ τ→Z (.iface 182 (.agg [iv q])) τ)
 (hK:∀l (q:Nat) v τ,q≤b.length→listO 8 numO (b.drop p)=some (l,b.drop q)→KA c a σ τ→hget τ c=.box [byV b,iv q,.bool true]→hget τ a=.box [x0,x1,x2,x3,v,x5]→OL l v τ→(∀d o n e,v=.sl d o n e→σ.length≤d)→K (.tup []) τ) :
  (VV Z).call (.call 84) [.bptr c 0,.bptr a 4,iv 8,.func (.func 85) [.bptr c 0] []] σ K:=by
 refine Zg hP rfl k84.ok rfl ?_;show k84.u (VV Z) [.bptr c 0,.bptr a 4,iv 8,.func (.func 85) [.bptr c 0] []] σ K;rw[H4.e]; unfold k84; dsimp only; simp only[Xd];refine Qd rfl (Qd rfl (Qf (v:=iv p) (Zm hc rfl) rfl (Qd rfl (Qf (v:=.nils) (Zm ha rfl) rfl (Qd (v:=iv 0) rfl ?_)))));refine Qf (YD σ _) (Xj _ _) (Qf (stv (row':=[iv 0]) (Xb _ _) rfl rfl rfl) (Zd _ (by simp)) ?_);have hσ:(σ++[ABlk.box [AVal.int .i64 0]]).set σ.length (.box [iv 0])=σ++[.box [iv 0]]:=by
  rw[List.set_append_right _ _ (Nat.le_refl _)]; simp
 rw[hσ];have hal:=Yb ha;have n1:c≠σ.length:=by have:=Yb hc; omega
 have n2:a≠σ.length:=by omega
 refine XA (by simp[Xe,Yi,Xh,Zp,apart2,disj,List.range,List.range.loop,n1,n2]) ?_;have hn:hget (σ++[ABlk.box [iv 0]]) σ.length=.box [iv 0]:=Xb _ _;have hk0:KB c σ (σ++[ABlk.box [iv 0]]):=KB.new _;refine Qcl rfl (Xc _ hc) hlen hle (λ_=>rfl) (λτ k=>⟨0,_,Zm (by rw[k.2 _ n1.symm (by rw[hn]; simp)]; exact hn) rfl⟩) (λe q τ k=>hZ (XaV (.inl e)) q τ ((hk0.trans k).ka hac ha)) (λh8 τ k hct=>?_);have hnt:hget τ σ.length=.box [iv 0]:=by rw[k.2 _ n1.symm (by rw[hn]; simp)]; exact hn
 have hat:hget τ a=.box [x0,x1,x2,x3,.nils,x5]:=by rw[(hk0.trans k).2 a hac (by rw[ha]; simp)]; exact ha
 have hv:w64 (d8 ((b.drop p).take 8))=nat8 b p 0:=rfl;rw[hv];refine⟨[(σ.length,.box [iv (nat8 b p 0)])],τ.set σ.length (.box [iv (nat8 b p 0)]),stv hnt rfl rfl rfl,Zd _ (Yb hnt),?_⟩;have hkt:KA c a σ (τ.set σ.length (.box [iv (nat8 b p 0)])):=((hk0.trans k).ka hac ha).out (Nat.le_refl _) n2.symm _;have hct2:hget (τ.set σ.length (.box [iv (nat8 b p 0)])) c=.box [byV b,iv (p+8:Nat),.bool true]:=Qa hct (by simp) n1.symm;have hat2:hget (τ.set σ.length (.box [iv (nat8 b p 0)])) a=.box [x0,x1,x2,x3,.nils,x5]:=Qa hat (by simp) n2.symm;have hnt2:hget (τ.set σ.length (.box [iv (nat8 b p 0)])) σ.length=.box [iv (nat8 b p 0)]:=Yd hnt (by simp);have hnone:=XaV (b:=b) (p:=p);have hsome:∀n:Nat,nat8 b p 0=n→n≤(b.length-(p+8))/8→listO 8 numO (b.drop p)=some (nums8 b (p+8) n,b.drop (p+8+8*n)):=λn=>YbV h8;generalize τ.set σ.length (.box [iv (nat8 b p 0)])=τ2 at hkt hct2 hnt2 hat2;generalize nat8 b p 0=w at *;refine Za rfl (Za rfl (Za (v:=.bool true) (Zm hct2 rfl) (Qr (Yj ?_))));refine Za (v:=iv w) (Zm hnt2 rfl) (Za (QI ..) ?_);cases h0:decide (w<0)
 case true=>exact aw (Xac (hZ (hnone (.inr (.inl (by simpa using h0)))) p τ2 hkt))
 refine Ya (Za (v:=iv w) (Zm hnt2 rfl) (Ya (Za rfl (Ya (Za rfl (Ya (Za rfl (Ya (Za (v:=byV b) (Zm hct2 rfl) (Ya (Za (Zj ..) ?_)))))))))));refine Ya (Za rfl (Ya (Za rfl (Ya (Za rfl (Ya (Za (v:=iv (p+8:Nat)) (Zm hct2 rfl) (Ya (Za (XcF ..) ?_)))))))));rw[Ycu h8 (by omega)];refine Ya (Za rfl (Ya (Za (quo8 _ (by omega)) (Ya (Za (Xad ..) (Za rfl ?_))))));refine Qr (Xg (λq=>?_) (λq=>?_))
 ·exact Za rfl (Za rfl (Xac (hZ (hnone (.inr (.inr (by simpa using q)))) p τ2 hkt)))
 have h0:¬w<0:=by simpa using h0
 have q:w≤((b.length-(p+8))/8:Nat):=by simp at q; omega
 obtain⟨m,rfl⟩:∃m:Nat,w=m:=⟨w.toNat,by omega⟩;have hs:=hsome m rfl (by omega);refine Za rfl (Zh (stv (row':=[x0,x1,x2,x3,.nils,x5]) hat2 rfl rfl rfl) (Zd _ (Yb hat2)) ?_);have hkt3:=hkt.seta x0 x1 x2 x3 .nils x5;have hct3:hget (τ2.set a (.box [x0,x1,x2,x3,.nils,x5])) c=.box [byV b,iv (p+8:Nat),.bool true]:=Qa hct2 (by simp) hac;have hnt3:hget (τ2.set a (.box [x0,x1,x2,x3,.nils,x5])) σ.length=.box [iv m]:=Qa hnt2 (by simp) n2;have hat3:hget (τ2.set a (.box [x0,x1,x2,x3,.nils,x5])) a=.box [x0,x1,x2,x3,.nils,x5]:=Yd hat2 (by simp);generalize τ2.set a (.box [x0,x1,x2,x3,.nils,x5])=τ3 at hkt3 hct3 hnt3 hat3;refine Za (v:=iv m) (Zm hnt3 rfl) ?_;refine ZC (ι:=Nat) (λi vs υ=>∃v,vs=[iv i]∧i≤m∧KA c a σ υ∧hget υ c=.box [byV b,iv (p+8+8*i:Nat),.bool true]∧hget υ a=.box [x0,x1,x2,x3,v,x5]∧OL (nums8 b (p+8) i) v υ∧∀d o n e,v=.sl d o n e→σ.length≤d)
  (λi=>m-i) 0 ⟨.nils,rfl,by omega,hkt3,hct3,hat3,.inl ⟨rfl,rfl⟩,λ_ _ _ _ e=>by cases e⟩ ?_
 rintro i vs υ again ⟨v,rfl,hi,hkυ,hcυ,haυ,hgυ,hdυ⟩ hag;refine Za (QI ..) (Xg (λh=>?_) (λh=>?_))
 ·have h:i<m:=by simp at h; omega
  refine Za rfl (Za rfl (Za (v:=.bool true) (Zm hcυ rfl) (Qr (Yj ?_))));refine Za rfl (Za (v:=v) (Zm haυ rfl) (Zh (v:=.sl υ.length 0 1 true) (rd:=[]) (up:=[(υ.length,.rows 1 [cel 0])]) rfl (Xj _ _) ?_));obtain⟨v',up,υ1,e1,e2,e3,e4,e5⟩:=(hgυ.more [.rows 1 [cel 0]]).upd (m:=[0]) (y:=.sl υ.length 0 1 true) (rd:=[υ.length]) (Yae (Xb _ _) rfl) (by rw[QW]; simp; omega);have e3:=e3.more;have hdv:∀d o n e,v=.sl d o n e→d≠a∧d≠c:=by
   rintro d o n e rfl;rcases hgυ with ⟨z,_⟩|⟨d',ex,z,hb⟩
   ·cases z
   ·cases z;constructor<;>rintro rfl
    ·rw[haυ] at hb; cases hb
    ·rw[hcυ] at hb; cases hb
  have hkυ1:=hkυ.kp e3 (λd o n e z=>⟨hdυ d o n e z,(hdv d o n e z).1⟩);have haυ1:hget υ1 a=.box [x0,x1,x2,x3,v,x5]:=by rw[e3.2 a (by rw[haυ]; simp) (λo n e z=>(hdv _ _ _ _ z).1 rfl)]; exact haυ
  have hcυ1:hget υ1 c=.box [byV b,iv (p+8+8*i:Nat),.bool true]:=by rw[e3.2 c (by rw[hcυ]; simp) (λo n e z=>(hdv _ _ _ _ z).2 rfl)]; exact hcυ
  have hl:(nums8 b (p+8) i++[0]).length=i+1:=by simp[QW]
  refine Zh e1 e2 (Za rfl (Zh (stv (row':=[x0,x1,x2,x3,v',x5]) haυ1 e4.cell rfl rfl) (Zd _ (Yb haυ1)) ?_));rcases e4 with ⟨z,_⟩|⟨d,ex,z,hb⟩
  ·rw[e5] at z; cases z
  rw[hl] at e5 z;rw[e5] at z;injection z with z1 z2 z3 z4
  subst z1 z4 e5;have hda:υ.length+1≠a:=by have:=Yb haυ; omega
  have hdc:υ.length+1≠c:=by have:=Yb hcυ; omega
  have hdl:σ.length≤υ.length+1:=by have:=hkυ.1; omega
  rw[show (υ++[ABlk.rows 1 [cel 0]]).length=υ.length+1 by simp] at *;generalize υ.length+1=d at *;have hb2:hget (υ1.set a (.box [x0,x1,x2,x3,.sl d 0 (i+1) false,x5])) d=.rows 1 ((nums8 b (p+8) i++[0]).map cel):=Qa hb (by simp) hda.symm;have ha2:hget (υ1.set a (.box [x0,x1,x2,x3,.sl d 0 (i+1) false,x5])) a=.box [x0,x1,x2,x3,.sl d 0 (i+1) false,x5]:=Yd haυ1 (by simp);have hc2:hget (υ1.set a (.box [x0,x1,x2,x3,.sl d 0 (i+1) false,x5])) c=.box [byV b,iv (p+8+8*i:Nat),.bool true]:=Qa hcυ1 (by simp) hac;have hk2:=hkυ1.seta x0 x1 x2 x3 (.sl d 0 (i+1) false) x5;generalize υ1.set a (.box [x0,x1,x2,x3,.sl d 0 (i+1) false,x5])=υ2 at hb2 ha2 hc2 hk2;have hix:Qk 1 [.sl d 0 (i+1) false,iv i] υ2=.ok (.ptr d (0+i) 0) [d] []:=QcE υ2 d 0 (i+1) false 1 _ .i64 i (by omega) hb2;rw[Nat.zero_add] at hix;have hrow:((nums8 b (p+8) i++[0]).map cel)[i]?=some (cel 0):=by
   rw[List.getElem?_map,List.getElem?_append_right (by simp[QW])]; simp[QW]
  refine Za rfl (Za (v:=.sl d 0 (i+1) false) (Zm ha2 rfl) (Za hix ?_));refine Qcl rfl hc2 hlen (by omega) (λ_=>rfl) (λτ k=>⟨0,[d],Xcj (by rw[k.2 d hdc (by rw[hb2]; simp)]; exact hb2) hrow rfl⟩) (λe q τ k=>by omega) (λh8' τ k hct=>?_);have hbt:hget τ d=.rows 1 ((nums8 b (p+8) i++[0]).map cel):=by rw[k.2 d hdc (by rw[hb2]; simp)]; exact hb2
  have hat':hget τ a=.box [x0,x1,x2,x3,.sl d 0 (i+1) false,x5]:=by rw[k.2 a hac (by rw[ha2]; simp)]; exact ha2
  refine⟨_,_,Zcu (row':=cel (nat8 b (p+8) i)) hbt hrow rfl rfl rfl,Zd _ (Yb hbt),?_⟩;rw[XbO cel _ _ _ _ (QW ..)];refine Za (XL ..) ?_;rw[Xl (n:=i) (by omega)];refine hag (i+1) _ _ (by omega) ⟨.sl d 0 (i+1) false,rfl,by omega,(hk2.kb k hac).out hdl hda _,?_,Qa hat' (by simp) hda,.inr ⟨d,false,by rw[QW],?_⟩,λd' o n e z=>by cases z; exact hdl⟩
  ·rw[show p+8+8*(i+1)=p+8+8*i+8 by omega];exact Qa hct (by simp) hdc
  ·rw[XaY];exact Yd hbt (by simp)
 ·have h:i=m:=by simp at h; omega
  subst h;exact hK _ _ v υ (by omega) hs hkυ hcυ haυ hgυ hdυ
theorem OP.cell{l:List (Int×Int)}{v:AVal}{σ:List ABlk}(h:OP l v σ):cellsOf v=some [v]:=by
 rcases h with ⟨rfl,_⟩|⟨b,ex,rfl,_⟩<;>rfl
theorem OP.more{l:List (Int×Int)}{v:AVal}{σ:List ABlk}(h:OP l v σ)(x:List ABlk):OP l v (σ++x):=by
 rcases h with h|⟨b,ex,h2,h3⟩
 ·exact .inl h
 ·exact .inr ⟨b,ex,h2,Xc x h3⟩
theorem QM(b:List UInt8)(p k:Nat):(pairs8 b p k).length=k:=by simp[pairs8]
def KD(c d:Nat)(σ τ:List ABlk):Prop:=σ.length≤τ.length∧∀e,e≠c→e≠d→hget σ e≠.dead→hget τ e=hget σ e
def rowN(ns:List Int):List AVal:=[iv (ns.getD 0 0),iv (ns.getD 1 0)]
theorem ZcY{k:MK}{xs:List AVal}{b:List UInt8}{p c d i:Nat}{rows:List (List AVal)}{σ:List ABlk}{Z:PZ}{K:KT}(hcal:Qh k xs=some (87,[.bptr c 0,.ptr d i 0]))(hc:hget σ c=.box [byV b,iv p,.bool true])(hlen:b.length≤900000000)
 (hd:hget σ d=.rows 2 rows)(hr:rows[i]?=some [iv 0,iv 0])(hdc:d≠c)(hroom:p+16≤b.length)
 (hK:∀τ,KD c d σ τ→hget τ c=.box [byV b,iv (p+16:Nat),.bool true]→hget τ d=.rows 2 (rows.set i (prC (nat8 b p 0,nat8 b p 1)))→K (.tup []) τ):(VV Z).call k xs σ K:=by
 refine Zg hP hcal g87.ok rfl ?_;show g87.u (VV Z) [.bptr c 0,.ptr d i 0] σ K;rw[H2.e]; unfold g87; dsimp only;have hi:i<rows.length:=by
  rcases Nat.lt_or_ge i rows.length with h|h
  ·exact h
  ·rw[List.getElem?_eq_none h] at hr; cases hr
 have hself:rows.set i (rowN [])=rows:=by
  apply List.ext_getElem?;intro j;rw[List.getElem?_set];split
  ·rename_i e; subst e; rw[hr]; simp[hi,rowN]
  ·rfl
 refine Qr (Qd rfl (Qd rfl (Qd rfl (Qd rfl (Qf (v:=.sl σ.length 0 2 true) (rd:=[]) (up:=[(σ.length,.rows 1 [[.ptr d i 0],[.ptr d i 1]])]) rfl (Xj _ _) (XA (by simp[Xe,Yi,Xh,Zp,apart2,disj,List.range,List.range.loop]) ?_))))));have n1:c≠σ.length:=by have:=Yb hc; omega
 have n2:d≠σ.length:=by have:=Yb hd; omega
 refine XcR (ps:=[.ptr d i 0,.ptr d i 1]) (p:=p) (λns τ=>KD c d σ τ∧hget τ d=.rows 2 (rows.set i (rowN ns))) (Xc _ hc) hlen (by omega) (Xb _ _) n1.symm (by simp) ?_ ⟨⟨by simp,λe _ _ h=>Xc _ rfl h⟩,by rw[hself]; exact Xc _ hd⟩ ?_ ?_ ?_ ?_ ?_
 ·intro q hq;simp only[List.mem_cons,List.not_mem_nil,or_false] at hq;rcases hq with rfl|rfl<;>exact⟨λ_=>rfl,rfl⟩
 ·rintro ns τ τ' ⟨⟨k1,k2⟩,k3⟩ k;refine⟨⟨Nat.le_trans k1 k.1,λe q1 q2 q3=>?_⟩,by rw[k.2 d hdc (by rw[k3]; simp)]; exact k3⟩;have:=k2 e q1 q2 q3;rw[k.2 e q1 (by rw[this]; exact q3),this]
 ·rintro ns τ h ⟨_,k3⟩;have hrow:(rows.set i (rowN ns))[i]?=some (rowN ns):=by simp[hi]
  match ns,h,k3,hrow with
  |[],_,k3,hrow=>exact⟨_,_,Xcj k3 hrow rfl⟩
  |[x],_,k3,hrow=>exact⟨_,_,Xcj k3 hrow rfl⟩
  |_::_::_,h,_,_=>exact absurd h (by simp)
 ·rintro ns τ n h ⟨⟨k1,k2⟩,k3⟩;have hrow:(rows.set i (rowN ns))[i]?=some (rowN ns):=by simp[hi]
  have hdl:=Yb k3;have key:∀r,KD c d σ (τ.set d (.rows 2 r))∧hget (τ.set d (.rows 2 r)) d=.rows 2 r∧hget (τ.set d (.rows 2 r)) c=hget τ c∧∀y,hget τ σ.length=.rows 1 y→hget (τ.set d (.rows 2 r)) σ.length=hget τ σ.length:=by
   intro r;refine⟨⟨by simpa using k1,λe q1 q2 q3=>by rw[Qa rfl (by rw[k2 e q1 q2 q3]; exact q3) (Ne.symm q2)]; exact k2 e q1 q2 q3⟩,Yd k3 (by simp),?_,λy hy=>by rw[Qa rfl (by rw[hy]; simp) n2]⟩;exact Qb hdc.symm
  match ns,h,k3,hrow with
  |[],_,k3,hrow=>
   refine⟨_,_,Zcu (row':=rowN [n]) k3 hrow rfl rfl rfl,Zd _ hdl,?_⟩;rw[List.set_set];obtain⟨q1,q2,q3,q4⟩:=key (rows.set i (rowN [n]));exact⟨⟨q1,q2⟩,q3,q4 _⟩
  |[x],_,k3,hrow=>
   refine⟨_,_,Zcu (row':=rowN [x,n]) k3 hrow rfl rfl rfl,Zd _ hdl,?_⟩;rw[List.set_set];obtain⟨q1,q2,q3,q4⟩:=key (rows.set i (rowN [x,n]));exact⟨⟨q1,q2⟩,q3,q4 _⟩
  |_::_::_,h,_,_=>exact absurd h (by simp)
 ·intro ns τ q hq; simp at hq; omega
 ·rintro _ τ ⟨k1,k2⟩ hct;exact hK τ k1 hct k2
theorem XcG{b:List UInt8}{p c a:Nat}{x0 x1 x2 x3 x4:AVal}{σ:List ABlk}{Z:PZ}{K:KT}(hc:hget σ c=.box [byV b,iv p,.bool true])(hlen:b.length≤900000000)(hle:p≤b.length)
 (ha:hget σ a=.box [x0,x1,x2,x3,x4,.nils])(hac:a≠c)(hZ:listO 16 prO (b.drop p)=none→∀(q:Nat) τ,KA c a σ τ→Z (.iface 182 (.agg [iv q])) τ)
 (hK:∀l (q:Nat) v τ,q≤b.length→listO 16 prO (b.drop p)=some (l,b.drop q)→KA c a σ τ→hget τ c=.box [byV b,iv q,.bool true]→hget τ a=.box [x0,x1,x2,x3,x4,v]→OP l v τ→(∀d o n e,v=.sl d o n e→σ.length≤d)→K (.tup []) τ) :
  (VV Z).call (.call 86) [.bptr c 0,.bptr a 5,iv 16,.func (.func 87) [.bptr c 0] []] σ K:=by
 refine Zg hP rfl k86.ok rfl ?_;show k86.u (VV Z) [.bptr c 0,.bptr a 5,iv 16,.func (.func 87) [.bptr c 0] []] σ K;rw[H4.e]; unfold k86; dsimp only; simp only[Xd];refine Qd rfl (Qd rfl (Qf (v:=iv p) (Zm hc rfl) rfl (Qd rfl (Qf (v:=.nils) (Zm ha rfl) rfl (Qd (v:=iv 0) rfl ?_)))));refine Qf (YD σ _) (Xj _ _) (Qf (stv (row':=[iv 0]) (Xb _ _) rfl rfl rfl) (Zd _ (by simp)) ?_);have hσ:(σ++[ABlk.box [AVal.int .i64 0]]).set σ.length (.box [iv 0])=σ++[.box [iv 0]]:=by
  rw[List.set_append_right _ _ (Nat.le_refl _)]; simp
 rw[hσ];have hal:=Yb ha;have n1:c≠σ.length:=by have:=Yb hc; omega
 have n2:a≠σ.length:=by omega
 refine XA (by simp[Xe,Yi,Xh,Zp,apart2,disj,List.range,List.range.loop,n1,n2]) ?_;have hn:hget (σ++[ABlk.box [iv 0]]) σ.length=.box [iv 0]:=Xb _ _;have hk0:KB c σ (σ++[ABlk.box [iv 0]]):=KB.new _;refine Qcl rfl (Xc _ hc) hlen hle (λ_=>rfl) (λτ k=>⟨0,_,Zm (by rw[k.2 _ n1.symm (by rw[hn]; simp)]; exact hn) rfl⟩) (λe q τ k=>hZ (QaV (.inl e)) q τ ((hk0.trans k).ka hac ha)) (λh8 τ k hct=>?_);have hnt:hget τ σ.length=.box [iv 0]:=by rw[k.2 _ n1.symm (by rw[hn]; simp)]; exact hn
 have hat:hget τ a=.box [x0,x1,x2,x3,x4,.nils]:=by rw[(hk0.trans k).2 a hac (by rw[ha]; simp)]; exact ha
 have hv:w64 (d8 ((b.drop p).take 8))=nat8 b p 0:=rfl;rw[hv];refine⟨[(σ.length,.box [iv (nat8 b p 0)])],τ.set σ.length (.box [iv (nat8 b p 0)]),stv hnt rfl rfl rfl,Zd _ (Yb hnt),?_⟩;have hkt:KA c a σ (τ.set σ.length (.box [iv (nat8 b p 0)])):=((hk0.trans k).ka hac ha).out (Nat.le_refl _) n2.symm _;have hct2:hget (τ.set σ.length (.box [iv (nat8 b p 0)])) c=.box [byV b,iv (p+8:Nat),.bool true]:=Qa hct (by simp) n1.symm;have hat2:hget (τ.set σ.length (.box [iv (nat8 b p 0)])) a=.box [x0,x1,x2,x3,x4,.nils]:=Qa hat (by simp) n2.symm;have hnt2:hget (τ.set σ.length (.box [iv (nat8 b p 0)])) σ.length=.box [iv (nat8 b p 0)]:=Yd hnt (by simp);have hnone:=QaV (b:=b) (p:=p);have hsome:∀n:Nat,nat8 b p 0=n→n≤(b.length-(p+8))/16→listO 16 prO (b.drop p)=some (pairs8 b (p+8) n,b.drop (p+8+16*n)):=λn=>XbV h8;generalize τ.set σ.length (.box [iv (nat8 b p 0)])=τ2 at hkt hct2 hnt2 hat2;generalize nat8 b p 0=w at *;refine Za rfl (Za rfl (Za (v:=.bool true) (Zm hct2 rfl) (Qr (Yj ?_))));refine Za (v:=iv w) (Zm hnt2 rfl) (Za (QI ..) ?_);cases h0:decide (w<0)
 case true=>exact aw (Xac (hZ (hnone (.inr (.inl (by simpa using h0)))) p τ2 hkt))
 refine Ya (Za (v:=iv w) (Zm hnt2 rfl) (Ya (Za rfl (Ya (Za rfl (Ya (Za rfl (Ya (Za (v:=byV b) (Zm hct2 rfl) (Ya (Za (Zj ..) ?_)))))))))));refine Ya (Za rfl (Ya (Za rfl (Ya (Za rfl (Ya (Za (v:=iv (p+8:Nat)) (Zm hct2 rfl) (Ya (Za (XcF ..) ?_)))))))));rw[Ycu h8 (by omega)];have quo16:∀(n:Nat) {σ:List ABlk},n≤1000000000→Zu .quo false [iv n,iv 16] σ=.ok (iv (n/16:Nat)) [] []:=by
  intro n σ h;have:IntKind.i64.wrap ((n:Int).tdiv 16)=((n/16:Nat):Int):=by
   rw[show (n:Int).tdiv 16=((n/16:Nat):Int) from rfl];exact IntWalk.i64_in _ (by omega)
  show SRes.ok (.int .i64 (IntKind.i64.wrap ((n:Int).tdiv 16))) [] []=_;rw[this]
 refine Ya (Za rfl (Ya (Za (quo16 _ (by omega)) (Ya (Za (Xad ..) (Za rfl ?_))))));refine Qr (Xg (λq=>?_) (λq=>?_))
 ·exact Za rfl (Za rfl (Xac (hZ (hnone (.inr (.inr (by simpa using q)))) p τ2 hkt)))
 have h0:¬w<0:=by simpa using h0
 have q:w≤((b.length-(p+8))/16:Nat):=by simp at q; omega
 obtain⟨m,rfl⟩:∃m:Nat,w=m:=⟨w.toNat,by omega⟩;have hs:=hsome m rfl (by omega);refine Za rfl (Zh (stv (row':=[x0,x1,x2,x3,x4,.nils]) hat2 rfl rfl rfl) (Zd _ (Yb hat2)) ?_);have hkt3:=hkt.seta x0 x1 x2 x3 x4 .nils;have hct3:hget (τ2.set a (.box [x0,x1,x2,x3,x4,.nils])) c=.box [byV b,iv (p+8:Nat),.bool true]:=Qa hct2 (by simp) hac;have hnt3:hget (τ2.set a (.box [x0,x1,x2,x3,x4,.nils])) σ.length=.box [iv m]:=Qa hnt2 (by simp) n2;have hat3:hget (τ2.set a (.box [x0,x1,x2,x3,x4,.nils])) a=.box [x0,x1,x2,x3,x4,.nils]:=Yd hat2 (by simp);generalize τ2.set a (.box [x0,x1,x2,x3,x4,.nils])=τ3 at hkt3 hct3 hnt3 hat3;refine Za (v:=iv m) (Zm hnt3 rfl) ?_;refine ZC (ι:=Nat) (λi vs υ=>∃v,vs=[iv i]∧i≤m∧KA c a σ υ∧hget υ c=.box [byV b,iv (p+8+16*i:Nat),.bool true]∧hget υ a=.box [x0,x1,x2,x3,x4,v]∧OP (pairs8 b (p+8) i) v υ∧∀d o n e,v=.sl d o n e→σ.length≤d)
  (λi=>m-i) 0 ⟨.nils,rfl,by omega,hkt3,hct3,hat3,.inl ⟨rfl,rfl⟩,λ_ _ _ _ e=>by cases e⟩ ?_
 rintro i vs υ0 again ⟨v,rfl,hi,hkυ0,hcυ0,haυ0,hgυ0,hdυ⟩ hag;refine Za (QI ..) (Xg (λh=>?_) (λh=>?_))
 ·have h:i<m:=by simp at h; omega
  refine Za rfl (Za rfl (Za (v:=.bool true) (Zm hcυ0 rfl) (Qr (Yj ?_))));refine Zh (v:=.bptr υ0.length 0) (rd:=[]) (up:=[(υ0.length,.box [iv 0,iv 0])]) rfl (Xj _ _) ?_;have hkυ:=hkυ0.new (.box [iv 0,iv 0]);have hcυ:=Xc [ABlk.box [iv 0,iv 0]] hcυ0;have haυ:=Xc [ABlk.box [iv 0,iv 0]] haυ0;have hgυ:=hgυ0.more [ABlk.box [iv 0,iv 0]];have htυ:=Xb υ0 (ABlk.box [iv 0,iv 0]);generalize υ0.length=t at htυ;generalize υ0++[ABlk.box [iv 0,iv 0]]=υ at hkυ hcυ haυ hgυ htυ;refine Qd rfl (Qf (v:=v) (Zm haυ rfl) rfl (Qf (v:=.agg [iv 0,iv 0]) (Zm htυ rfl) rfl (Qf (v:=.sl υ.length 0 1 true) (rd:=[]) (up:=[(υ.length,.rows 2 [prC (0,0)])]) rfl (Xj _ _) ?_)));obtain⟨v',up,υ1,e1,e2,e3,e4,e5,e6⟩:=(hgυ.more [.rows 2 [prC (0,0)]]).upd (m:=[(0,0)]) (y:=.sl υ.length 0 1 true) (rd:=[υ.length]) (Yae (Xb _ _) rfl) (by rw[QM]; simp; omega);have e3:=e3.more;have hdv:∀d o n e,v=.sl d o n e→d≠a∧d≠c:=by
   rintro d o n e rfl;rcases hgυ with ⟨z,_⟩|⟨d',ex,z,hb⟩
   ·cases z
   ·cases z;constructor<;>rintro rfl
    ·rw[haυ] at hb; cases hb
    ·rw[hcυ] at hb; cases hb
  have hkυ1:=hkυ.kp e3 (λd o n e z=>⟨hdυ d o n e z,(hdv d o n e z).1⟩);have haυ1:hget υ1 a=.box [x0,x1,x2,x3,x4,v]:=by rw[e3.2 a (by rw[haυ]; simp) (λo n e z=>(hdv _ _ _ _ z).1 rfl)]; exact haυ
  have hcυ1:hget υ1 c=.box [byV b,iv (p+8+16*i:Nat),.bool true]:=by rw[e3.2 c (by rw[hcυ]; simp) (λo n e z=>(hdv _ _ _ _ z).2 rfl)]; exact hcυ
  have hl:(pairs8 b (p+8) i++[(0,0)]).length=i+1:=by simp[QM]
  have haυl:=Yb haυ;refine Qf e1 e2 (Qd rfl (Qf (stv (row':=[x0,x1,x2,x3,x4,v']) haυ1 e4.cell rfl rfl) (Zd _ (Yb haυ1)) (XA ?_ ?_)))
  ·rw[e6];have m1:a≠υ.length:=by omega
   cases v<;>simp[upsOf,Xe,Yi,Xh,Zp,apart2,disj,List.range,List.range.loop,m1,m1.symm]
  clear e6;rcases e4 with ⟨z,_⟩|⟨d,ex,z,hb⟩
  ·rw[e5] at z; cases z
  rw[hl] at e5 z;rw[e5] at z;injection z with z1 z2 z3 z4
  subst z1 z4 e5;have hda:υ.length+1≠a:=by omega
  have hdc:υ.length+1≠c:=by have:=Yb hcυ; omega
  have hdl:σ.length≤υ.length+1:=by have:=hkυ.1; omega
  rw[show (υ++[ABlk.rows 2 [prC (0,0)]]).length=υ.length+1 by simp] at *;generalize υ.length+1=d at *;have hb2:hget (υ1.set a (.box [x0,x1,x2,x3,x4,.sl d 0 (i+1) false])) d=.rows 2 ((pairs8 b (p+8) i++[(0,0)]).map prC):=Qa hb (by simp) hda.symm;have ha2:hget (υ1.set a (.box [x0,x1,x2,x3,x4,.sl d 0 (i+1) false])) a=.box [x0,x1,x2,x3,x4,.sl d 0 (i+1) false]:=Yd haυ1 (by simp);have hc2:hget (υ1.set a (.box [x0,x1,x2,x3,x4,.sl d 0 (i+1) false])) c=.box [byV b,iv (p+8+16*i:Nat),.bool true]:=Qa hcυ1 (by simp) hac;have hk2:=hkυ1.seta x0 x1 x2 x3 x4 (.sl d 0 (i+1) false);generalize υ1.set a (.box [x0,x1,x2,x3,x4,.sl d 0 (i+1) false])=υ2 at hb2 ha2 hc2 hk2;have hix:Qk 2 [.sl d 0 (i+1) false,iv i] υ2=.ok (.ptr d (0+i) 0) [d] []:=QcE υ2 d 0 (i+1) false 2 _ .i64 i (by omega) hb2;rw[Nat.zero_add] at hix;have hrow:((pairs8 b (p+8) i++[(0,0)]).map prC)[i]?=some [iv 0,iv 0]:=by
   rw[List.getElem?_map,List.getElem?_append_right (by simp[QM])]; simp[QM,prC]
  refine Za rfl (Za (v:=.sl d 0 (i+1) false) (Zm ha2 rfl) (Za hix ?_));refine ZcY rfl hc2 hlen hb2 hrow hdc (by omega) (λτ k hct hbt=>?_);have hat':hget τ a=.box [x0,x1,x2,x3,x4,.sl d 0 (i+1) false]:=by rw[k.2 a hac hda.symm (by rw[ha2]; simp)]; exact ha2
  rw[XbO prC _ _ _ _ (QM ..)] at hbt;refine Za (XL ..) ?_;rw[Xl (n:=i) (by omega)];have hps:pairs8 b (p+8) (i+1)=pairs8 b (p+8) i++[(nat8 b (p+8+16*i) 0,nat8 b (p+8+16*i) 1)]:=by
   rw[Yby];unfold nat8;rw[show p+8+16*i+8*0=p+8+8*(2*i) by omega,show p+8+16*i+8*1=p+8+8*(2*i+1) by omega]
  refine hag (i+1) _ _ (by omega) ⟨.sl d 0 (i+1) false,rfl,by omega,?_,by rw[show p+8+16*(i+1)=p+8+16*i+16 by omega]; exact hct,hat',.inr ⟨d,false,by rw[QM],?_⟩,λd' o n e z=>by cases z; exact hdl⟩
  ·refine⟨Nat.le_trans hk2.1 k.1,λe q1 q2 q3=>?_,_,_,_,_,_,_,hat'⟩;have q4:=hk2.2.1 e q1 q2 q3;have:=hlt q3;rw[k.2 e q1 (by omega) (by rw[q4]; exact q3),q4]
  ·rw[hps]; exact hbt
 ·have h:i=m:=by simp at h; omega
  subst h;exact hK _ _ v υ0 (by omega) hs hkυ0 hcυ0 haυ0 hgυ0 hdυ
theorem QaM{b:List UInt8}{p:Nat}(h:p+8≤b.length)(hr:R8 (nat8 b p 0)):Yaz (b.drop p)=some (nat8 b p 0,b.drop (p+8)):=by
 unfold Yaz R8 at *;rw[Xo h];simp only[Option.bind_some];rw[YIN (by omega)]
theorem YbB{b:List UInt8}{p:Nat}(h:b.length<p+8∨¬R8 (nat8 b p 0)):Yaz (b.drop p)=none:=by
 unfold Yaz;by_cases h8:b.length<p+8
 ·rw[XW h8]; rfl
 ·rw[Xo (by omega)];simp only[Option.bind_some];unfold R8 at h;rw[YIP (by omega)]
theorem Qb7{b:List UInt8}{l1:List Int}{l2:List (Int×Int)}{q1 q2:Nat}(h8:32≤b.length)(hr:R8 (nat8 b 0 0))(h1:listO 8 numO (b.drop 32)=some (l1,b.drop q1))(h2:listO 16 prO (b.drop q1)=some (l2,b.drop q2)) :
  actO b=some (⟨nat8 b 0 0,nat8 b 8 0,nat8 b 8 1,nat8 b 8 2,l1,l2⟩,b.drop q2):=by
 have e0:=QaM (b:=b) (p:=0) (by omega) hr;have e1:=Xo (b:=b) (p:=8) (by omega);have e2:=Xo (b:=b) (p:=16) (by omega);have e3:=Xo (b:=b) (p:=24) (by omega);rw[List.drop_zero] at e0;have n2:nat8 b 16 0=nat8 b 8 1:=by unfold nat8; rfl
 have n3:nat8 b 24 0=nat8 b 8 2:=by unfold nat8; rfl
 unfold actO seqR;simp only[e0,e1,e2,e3,h1,h2,n2,n3,Option.bind_some,Option.map_some,acP,Nat.reduceAdd,Nat.zero_add]
theorem Zag{b:List UInt8}(h:b.length<32∨¬R8 (nat8 b 0 0)∨listO 8 numO (b.drop 32)=none∨∃l1 q1,listO 8 numO (b.drop 32)=some (l1,b.drop q1)∧listO 16 prO (b.drop q1)=none):actO b=none:=by
 have hz:b=b.drop 0:=(List.drop_zero).symm;unfold actO seqR;by_cases h0:b.length<8∨¬R8 (nat8 b 0 0)
 ·have:=YbB (b:=b) (p:=0) (by simpa using h0);rw[←hz] at this;simp[this]
 have e0:=QaM (b:=b) (p:=0) (by omega) (Classical.not_not.1 λh=>h0 (.inr h));rw[List.drop_zero] at e0;simp only[e0,Option.bind_some,Nat.zero_add];by_cases h1:b.length<16
 ·simp[XW (b:=b) (p:=8) (by omega)]
 simp only[Xo (b:=b) (p:=8) (by omega),Option.bind_some,Nat.reduceAdd];by_cases h2:b.length<24
 ·simp[XW (b:=b) (p:=16) (by omega)]
 simp only[Xo (b:=b) (p:=16) (by omega),Option.bind_some,Nat.reduceAdd];by_cases h3:b.length<32
 ·simp[XW (b:=b) (p:=24) (by omega)]
 simp only[Xo (b:=b) (p:=24) (by omega),Option.bind_some,Nat.reduceAdd];have h:listO 8 numO (b.drop 32)=none∨∃l1 q1,listO 8 numO (b.drop 32)=some (l1,b.drop q1)∧listO 16 prO (b.drop q1)=none:=by
  rcases h with h|h|h
  ·exact(h3 h).elim
  ·exact(h0 (.inr h)).elim
  ·exact h
 rcases h with h|⟨l1,q1,h,h'⟩
 ·simp[h]
 ·simp[h,h']
def row3(o:Int)(ns:List Int):List AVal:=[iv8 o,iv (ns.getD 0 0),iv (ns.getD 1 0),iv (ns.getD 2 0),.nils,.nils]
theorem Zb8{k:MK}{xs:List AVal}{b:List UInt8}{c a:Nat}{σ:List ABlk}{Z:PZ}{K:KT}(hcal:Qh k xs=some (65,[.bptr c 0,.bptr a 0]))(hc:hget σ c=.box [byV b,iv 0,.bool true])(hlen:b.length≤900000000)
 (ha:hget σ a=.box [iv8 0,iv 0,iv 0,iv 0,.nils,.nils])(hac:a≠c)(hZ:actO b=none→∀(q:Nat) τ,KA c a σ τ→Z (.iface 182 (.agg [iv q])) τ)
 (hK:∀x (q:Nat) v w τ,q≤b.length→actO b=some (x,b.drop q)→KA c a σ τ→hget τ c=.box [byV b,iv q,.bool true]→hget τ a=.box [iv8 x.op,iv x.side,iv x.place,iv x.target,v,w]→OL x.ids v τ→OP x.prs w τ→K (.tup []) τ) :
  (VV Z).call k xs σ K:=by
 refine Zg hP hcal g65.ok rfl ?_;show g65.u (VV Z) [.bptr c 0,.bptr a 0] σ K;rw[H2.e]; unfold g65; dsimp only;refine aw (YcZ (p:=0) hc hlen (by omega) ha hac (λe q τ k=>hZ (Zag (e.elim (λe=>.inl (by omega)) (λe=>.inr (.inl e)))) q τ (k.ka hac ha)) (λh8 hr σ1 k1 hc1=>?_));have ka1:KA c a σ σ1:=(KA.set (by rw[ha]; simp) _ _ _ _ _ _).kb k1 hac;have ha1:hget σ1 a=.box [iv8 (nat8 b 0 0),iv 0,iv 0,iv 0,.nils,.nils]:=by
  have q:=Yd (x:=.box [iv8 (nat8 b 0 0),iv 0,iv 0,iv 0,.nils,.nils]) ha (by simp);rw[k1.2 a hac (by rw[q]; simp)]; exact q
 refine Qr (Qd rfl (Qd rfl (Qd rfl (Qd rfl (Qd rfl (Qd rfl (Qf (v:=.sl σ1.length 0 3 true) (rd:=[]) (up:=[(σ1.length,.rows 1 [[.bptr a 1],[.bptr a 2],[.bptr a 3]])]) rfl (Xj _ _) (XA (by simp[Xe,Yi,Xh,Zp,apart2,disj,List.range,List.range.loop]) ?_))))))));have n1:c≠σ1.length:=by have:=Yb hc1; omega
 have n2:a≠σ1.length:=by have:=Yb ha1; omega
 refine XcR (ps:=[.bptr a 1,.bptr a 2,.bptr a 3]) (p:=0+8) (λns τ=>KA c a σ τ∧hget τ a=.box (row3 (nat8 b 0 0) ns)) (Xc _ hc1) hlen (by omega) (Xb _ _) n1.symm (by simp) ?_ ⟨ka1.new _,Xc _ ha1⟩ ?_ ?_ ?_ ?_ ?_
 ·intro q hq;simp only[List.mem_cons,List.not_mem_nil,or_false] at hq;rcases hq with rfl|rfl|rfl<;>exact⟨λ_=>rfl,rfl⟩
 ·rintro ns τ τ' ⟨k2,k3⟩ k;exact⟨k2.kb k hac,by rw[k.2 a hac (by rw[k3]; simp)]; exact k3⟩
 ·rintro ns τ h ⟨_,k3⟩
  match ns,h,k3 with
  |[],_,k3=>exact⟨_,_,Zm k3 rfl⟩
  |[_],_,k3=>exact⟨_,_,Zm k3 rfl⟩
  |[_,_],_,k3=>exact⟨_,_,Zm k3 rfl⟩
  |_::_::_::_,h,_=>exact absurd h (by simp)
 ·rintro ns τ n h ⟨k2,k3⟩;have hal:=Yb k3;have key:∀y0 y1 y2 y3 y4 y5,KA c a σ (τ.set a (.box [y0,y1,y2,y3,y4,y5]))∧hget (τ.set a (.box [y0,y1,y2,y3,y4,y5])) a=.box [y0,y1,y2,y3,y4,y5]∧hget (τ.set a (.box [y0,y1,y2,y3,y4,y5])) c=hget τ c∧∀y,hget τ σ1.length=.rows 1 y→hget (τ.set a (.box [y0,y1,y2,y3,y4,y5])) σ1.length=hget τ σ1.length:=by
   intro y0 y1 y2 y3 y4 y5;refine⟨k2.seta _ _ _ _ _ _,Yd k3 (by simp),Qb hac.symm,λy hy=>Qb n2.symm⟩
  match ns,h,k3 with
  |[],_,k3=>
   obtain⟨q1,q2,q3,q4⟩:=key (iv8 (nat8 b 0 0)) (iv n) (iv 0) (iv 0) .nils .nils;exact⟨_,_,stv (row':=row3 (nat8 b 0 0) [n]) k3 rfl rfl rfl,Zd _ hal,⟨q1,q2⟩,q3,q4 _⟩
  |[x],_,k3=>
   obtain⟨q1,q2,q3,q4⟩:=key (iv8 (nat8 b 0 0)) (iv x) (iv n) (iv 0) .nils .nils;exact⟨_,_,stv (row':=row3 (nat8 b 0 0) [x,n]) k3 rfl rfl rfl,Zd _ hal,⟨q1,q2⟩,q3,q4 _⟩
  |[x,y],_,k3=>
   obtain⟨q1,q2,q3,q4⟩:=key (iv8 (nat8 b 0 0)) (iv x) (iv y) (iv n) .nils .nils;exact⟨_,_,stv (row':=row3 (nat8 b 0 0) [x,y,n]) k3 rfl rfl rfl,Zd _ hal,⟨q1,q2⟩,q3,q4 _⟩
  |_::_::_::_,h,_=>exact absurd h (by simp)
 ·rintro ns τ q hq ⟨k2,_⟩;exact hZ (Zag (.inl (by simp at hq; omega))) q τ k2
 rintro h24 σ3 ⟨ka3,ha3⟩ hc3;have h24:32≤b.length:=by simp at h24; omega
 have hc3:hget σ3 c=.box [byV b,iv (32:Nat),.bool true]:=hc3;have ha3:hget σ3 a=.box [iv8 (nat8 b 0 0),iv (nat8 b 8 0),iv (nat8 b 8 1),iv (nat8 b 8 2),.nils,.nils]:=ha3;refine aw (ZcX hc3 hlen h24 ha3 hac (λe q τ k=>hZ (Zag (.inr (.inr (.inl e)))) q τ (ka3.trans k)) (λl1 q1 v τ4 hq1 hl1 k4 hc4 ha4 hol hv=>?_));have ka4:=ka3.trans k4;refine aw (XcG hc4 hlen hq1 ha4 hac (λe q τ k=>hZ (Zag (.inr (.inr (.inr ⟨l1,q1,hl1,e⟩)))) q τ (ka4.trans k)) (λl2 q2 w τ5 hq2 hl2 k5 hc5 ha5 hop hw=>?_));refine aw (hK ⟨nat8 b 0 0,nat8 b 8 0,nat8 b 8 1,nat8 b 8 2,l1,l2⟩ q2 v w τ5 hq2 (Qb7 h24 hr hl1 hl2) (ka4.trans k5) hc5 ha5 ?_ hop);rcases hol with z|⟨d,ex,z,hb⟩
 ·exact .inl z
 ·refine .inr ⟨d,ex,z,?_⟩;rw[k5.2.1 d (by rintro rfl; rw[hc4] at hb; cases hb) (by rintro rfl; rw[ha4] at hb; cases hb) (by rw[hb]; simp)];exact hb
end Go.Ah.Tz
end
section
namespace Go.Ah
section
variable {P:Program} {GL:Globs} {Z:PZ}
theorem Ya5(hP:POk P){n:Nat}{w0:World}{L:Ln}{Qw:Exit→Act→World→Prop}(m:DCode){c:Code}{ρ:Frame}{σ:List ABlk}{K:Frame→List ABlk→Prop}{E:Nat→Frame→List ABlk→Prop}{R:Frame→List ABlk→Prop}{g:Gm}{a:Act}{w:World}
 (hs:straight true [] m=true)(hc:CodeOk P GL n c m.er)(r:Rep GL w0 L g (hp σ) w)(d:DenF n g ρ a)(h:dn (W P GL Z) m ρ σ K E R)
 (hK:∀g' ρ' σ' a' w',g.Le g'→Rep GL w0 L g' (hp σ') w'→DenF n g' ρ' a'→K ρ' σ'→Qw .normal a' w')
 (hE:∀i g' ρ' σ' a' w',g.Le g'→Rep GL w0 L g' (hp σ') w'→DenF n g' ρ' a'→E i ρ' σ'→Qw (.exit i) a' w')
 (hR:∀g' ρ' σ' a' w',g.Le g'→Rep GL w0 L g' (hp σ') w'→DenF n g' ρ' a'→R ρ' σ'→Qw .ret a' w')
 (hZ:∀g' x σ' u a' w',g.Le g'→Rep GL w0 L g' (hp σ') w'→DenF n g' [] a'→g'.den x u→Z x σ'→Qw (.panic [{ v:=u,recovered:=false }]) a' w'):c.wpIn (wz none) 0 P Qw a w:=by
 have:=YaG hP true [] [] (λ_=>⟨rfl,rfl⟩) m hs hc r d h (Qw:=Qw) (λg' ρ' σ' a' w' k1 k2 k3 _ k5=>by rw[Z0]; exact hK g' ρ' σ' a' w' k1 k2 k3 k5) (λi g' ρ' σ' a' w' k1 k2 k3 _ k5=>by rw[Z0]; exact hE i g' ρ' σ' a' w' k1 k2 k3 k5)
  (λg' ρ' σ' a' w' k1 k2 k3 _ k5=>by rw[Z0]; exact hR g' ρ' σ' a' w' k1 k2 k3 k5) (λg' x σ' u a' w' k1 k2 k3 _ k5 k6=>by rw[Z0]; exact hZ g' x σ' u a' w' k1 k2 k3 k5 k6)
 rwa [Z0] at this
theorem Zbb{f:FuncId}{xs:List AVal}{σ:List ABlk}{K:KT}
 (key:∀(w0:World) (L:Ln) (g:Gm) (w:World) (vs:List Value),Rep GL w0 L g (hp σ) w→DenL g xs vs→Calls P f vs.toArray w (OutE GL w0 L g K Z)):(W P GL Z).call (.call f) xs σ K:=by
 refine⟨K,?_,λ_ _ q=>q⟩;intro o os hco w0 L g w a r hx;generalize ho:o.op=op at hco;cases hco with
 |call _ args ts _=>
  have hrun:(execOp a.eval o).run P w=.ok (.enter f (args.map a.eval)) w:=by
   simp_all [execOp,resolve,Act.eval,Deferred.ofValue,invoke,Zy]
  rw[hrun];have:=key w0 L g w _ r hx
  rwa [←Array.toList_map,Array.toArray_toList] at this
def Recs(u:FrameMode)(rv:Value)(u':FrameMode):Prop:=∀(c₀:Go.Frame) (cs:List Go.Frame),c₀.mode=u →
 (recoverD (c₀::cs)=some (rv,{ c₀ with mode:=u' }::cs))∨(recoverD (c₀::cs)=none∧rv=.nilIface∧u'=u)
theorem YcK:Recs .returning .nilIface .returning:=λc₀ cs h=>.inr ⟨by simp[recoverD,h],rfl,rfl⟩
theorem YbW(v:Value):Recs (.panicking [{ v,recovered:=false }]) v (.panicking [{ v,recovered:=true }]):=λc₀ cs h=>.inl (by simp[recoverD,h])
end
end Go.Ah
namespace Go.Ah.Tz
open Go.Proofs.Tryz (prog)
set_option maxRecDepth 100000
set_option maxHeartbeats 4000000
theorem clo88{u u':FrameMode}{rv:Value}(hrec:Recs u rv u'){w0:World}{L:Ln}{g:Gm}{w:World}{σ:List ABlk}{x0 x1 x2 x3 x7:AVal}{p0 p1 p2 p3:Value}(r:Rep GL0 w0 L g (hp σ) w)(hdk:g.dk=[])(hx:DenL g [x0,x1,x2,x3] [p0,p1,p2,p3])(hrv:g.den x7 rv)
 {Kσ:List ABlk→Prop}(hwalk:dn (VV noZ) (d88 prog) [(0,x0),(1,x1),(2,x2),(3,x3),(7,x7)] σ (λ_ σ=>Kσ σ) (λ_ _ _=>False) (λ_ _=>False)) :
  CallsDIn (wz none) 0 prog 88 #[p0,p1,p2,p3] u w (λe u2 w'=>(∃v,e=.returned v)∧u2=u'∧∃g' σ',g.Le g'∧Rep GL0 w0 L g' (hp σ') w'∧Kσ σ'):=by
 refine callsDIn_of_wpSIn Go.Proofs.Tryz.func88 Zc3 trivial λc₀ cs hu=>?_;rw[n88];have d0:DenF 16 g (frame0 [x0,x1,x2,x3]) { tmps:=#[p0,p1,p2,p3]++Array.replicate (16 - #[p0,p1,p2,p3].size) undef,defers:=[] }:=Zat hdk hx (n:=16) (by simp);generalize ({ tmps:=#[p0,p1,p2,p3]++Array.replicate (16 - #[p0,p1,p2,p3].size) undef,defers:=[] }:Act)=a0 at d0;have fin:∀cs',cs' = { c₀ with mode:=u' }::cs→(e88 prog).wpSIn (wz none) 0 prog (bodyPostS prog Go.Proofs.Tryz.f88 c₀ cs (λe u2 w'=>(∃v,e=.returned v)∧u2=u'∧∃g' σ',g.Le g'∧Rep GL0 w0 L g' (hp σ') w'∧Kσ σ')) (a0.put (some 7) rv) cs' w:=by
  rintro cs' rfl;have d1:DenF 16 g [(0,x0),(1,x1),(2,x2),(3,x3),(7,x7)] (a0.put (some 7) rv):=(d0.put (d:=7) (by decide) hrv).weak (Z7.le ⟨rfl,rfl,rfl,rfl,rfl,trivial⟩);have er:(d88 prog).er=mcC prog 16 (e88 prog):=Xs _ _ _;refine wpSIn_of_wpIn rfl (Ya5 hP (d88 prog) s88 (er▸c88_1) r d1 hwalk (λg' ρ' σ' a' w' k1 k2 k3 k4=>?_) (λ_ _ _ _ _ _ _ _ _ k=>k.elim) (λ_ _ _ _ _ _ _ _ k=>k.elim) (λ_ _ _ _ _ _ _ _ _ _ k=>k.elim));obtain⟨uo,ho1,ho2⟩:=YR (P:=prog) k2 k3 r88 (v:=.tup []) rfl;refine⟨?_,u',rfl,uo,ho1,⟨uo,rfl⟩,rfl,g',σ',k1,k2,k4⟩;have:=k3.defers;rw[k1.k,hdk] at this;exact this
 refine wpSIn_seq (wpSIn_region ?_);rw[z88];obtain⟨h1,⟨ts,h2⟩,h3,h4⟩:=o88_0;simp only[show List.range 1=[0] from rfl,wpOpsSIn,h1];refine⟨λ_ _=>trivial,?_⟩;rw[YIP (by simp[Region.wanted,h4])];have hrun:(execOp a0.eval (opAt (o88 prog) 0)).run prog w=.ok .recover w:=by
  simp[execOp,h2,resolve,builtin,Sem.run_pure,invoke,Sem.run]
 rw[hrun,h3];rcases hrec c₀ cs hu with h|⟨h,hv,hu'⟩
 ·simp only[h];exact fin _ rfl
 ·simp only[h];subst hv hu';refine fin _ ?_;rw[←hu]
end Go.Ah.Tz
end
section
namespace Go.Ah.Tz
open Go.Proofs.Tryz (prog)
set_option maxRecDepth 100000
@[reducible] def zC:List AVal:=[iv8 0,iv 0,iv 0,iv 0,.nils,.nils]
def KS(σ τ:List ABlk):Prop:=σ.length≤τ.length∧∀d,hget σ d≠.dead→hget τ d=hget σ d
theorem dnW{m:DCode}{ρ:Frame}{σ:List ABlk}{K:Frame→List ABlk→Prop}{Z:PZ}(h:dn (VV Z) m ρ σ K (λ_ _ _=>(VV Z).stop) (λ_ _=>(VV Z).stop)):dn (VV Z) m ρ σ K (λ_ _ _=>False) (λ_ _=>False):=h
attribute [local irreducible] Ans.rd Ans.pu Ans.wr Ans.dr Ans.gr Ans.gw Ans.gl Ans.gd Ans.opt joinK W
set_option maxHeartbeats 8000000
theorem w88i(x0 x1 x2 x3:AVal){σ:List ABlk}{K:List ABlk→Prop}(hK:K σ):dn (VV noZ) (d88 prog) [(0,x0),(1,x1),(2,x2),(3,x3),(7,.nili)] σ (λ_ σ=>K σ) (λ_ _ _=>False) (λ_ _=>False):=by
 have:=d88e x0 x1 x2 x3 .nili Prop (VV noZ) σ K;refine dnW ?_;rw[this];exact Za rfl (Yj hK)
theorem w88p{n q:Nat}{y0 y1 y2 y3 y4 y5 u v:AVal}{σ:List ABlk}{K:List ABlk→Prop}(hx:hget σ n=.box [y0,y1,y2,y3,y4,y5])(hy:hget σ (n+1)=.box [u])(he:hget σ (n+2)=.box [v])(hz:hget σ (n+3)=.box zC)
 (hK:∀τ,hget τ n=.box zC→hget τ (n+1)=.box [iv q]→hget τ (n+2)=.box [iv 180]→σ.length≤τ.length→(∀d,d<n→hget σ d≠.dead→hget τ d=hget σ d)→K τ) :
  dn (VV noZ) (d88 prog) [(0,.bptr (n+3) 0),(1,.bptr n 0),(2,.bptr (n+1) 0),(3,.bptr (n+2) 0),(7,.iface 182 (.agg [iv q]))] σ (λ_ σ=>K σ) (λ_ _ _=>False) (λ_ _=>False):=by
 have:=d88e (.bptr (n+3) 0) (.bptr n 0) (.bptr (n+1) 0) (.bptr (n+2) 0) (.iface 182 (.agg [iv q])) Prop (VV noZ) σ K;refine dnW ?_;rw[this];refine Za rfl (Yh (Za rfl (Za rfl (Za rfl (Yj ?_)))));refine Zh (YD σ _) (Xj _ _) (Zh (stv (row':=[iv q]) (Xb _ _) rfl rfl rfl) (Zd _ (by simp)) ?_);have hσ:(σ++[ABlk.box [AVal.int .i64 0]]).set σ.length (.box [iv q])=σ++[.box [iv q]]:=by
  rw[List.set_append_right _ _ (Nat.le_refl _)]; simp
 rw[hσ];have hzl:=Yb hz;have hx:=Xc [ABlk.box [iv q]] hx;have hy:=Xc [ABlk.box [iv q]] hy;have he:=Xc [ABlk.box [iv q]] he;have hz:=Xc [ABlk.box [iv q]] hz;have hn:=Xb σ (.box [iv q]);have hk:∀d,hget σ d≠.dead→hget (σ++[ABlk.box [iv q]]) d=hget σ d:=λd h=>Xc _ rfl h;have hl:σ.length≤(σ++[ABlk.box [iv q]]).length:=by simp
 generalize hm:σ.length=m at hn;generalize σ++[ABlk.box [iv q]]=τ at hx hy he hz hn hk hl;refine Qf (v:=.agg zC) (Zm hz rfl) rfl (Qd rfl (Qf (v:=iv q) (Zm hn rfl) rfl ?_));have hxl:=Yb hx;have hyl:=Yb hy;have hel:=Yb he;refine Qf (stv (row':=zC) hx rfl rfl rfl) (Zd _ hxl) ?_;refine Qf (stv (row':=[iv q]) (Qa hy (by simp) (by omega)) rfl rfl rfl) (Zd _ (by simpa using hyl)) ?_;refine Qf (stv (row':=[iv 180]) (Qa (Qa he (by simp) (by omega)) (by simp) (by omega)) rfl rfl rfl) (Zd _ (by simpa using hel)) ?_;refine XA (by simp[Xe,Yi,Xh,Zp,apart2,disj,List.range,List.range.loop]; try omega) ?_;refine hK _ ?_ ?_ ?_ (by simpa using hl) (λd hd hnd=>?_)
 ·rw[Qb (by omega),Qb (by omega)]; exact Yd hx (by simp)
 ·rw[Qb (by omega)];exact Yd (Qa hy (by simp) (by omega)) (by simp)
 ·exact Yd (Qa (Qa he (by simp) (by omega)) (by simp) (by omega)) (by simp)
 ·rw[Qb (by omega),Qb (by omega),Qb (by omega)]; exact hk d hnd
def Zw(b:List UInt8)(σ:List ABlk):PZ:=λv τ=>∃q:Nat,v=.iface 182 (.agg [iv q])∧(∀x,actO b≠some (x,[]))∧KS σ τ∧(∃y0 y1 y2 y3 y4 y5,hget τ σ.length=.box [y0,y1,y2,y3,y4,y5])∧(∃u,hget τ (σ.length+1)=.box [u])∧(∃u,hget τ (σ.length+2)=.box [u])∧hget τ (σ.length+3)=.box zC
def Gw(b:List UInt8)(σ τ:List ABlk):Prop:=∃x v w,actO b=some (x,[])∧KS σ τ∧hget τ σ.length=.box [iv8 x.op,iv x.side,iv x.place,iv x.target,v,w]∧hget τ (σ.length+1)=.box [iv 0]∧hget τ (σ.length+2)=.box [iv 0]∧OL x.ids v τ∧OP x.prs w τ
@[reducible] def base70(σ:List ABlk):List ABlk:=σ++[.box zC,.box [iv 0],.box [iv 0],.box zC]
theorem YcB(σ:List ABlk):hget (base70 σ) σ.length=.box zC∧hget (base70 σ) (σ.length+1)=.box [iv 0]∧hget (base70 σ) (σ.length+2)=.box [iv 0]∧hget (base70 σ) (σ.length+3)=.box zC:=
 ⟨Yw (by simp),Yw (by simp),Yw (by simp),Yw (by simp)⟩
theorem w70a(b:List UInt8)(hlen:b.length≤1000000)(σ:List ABlk){K R:KTs}(hK:K [byV b,.func (.func 65) [] [],.bptr σ.length 0,.bptr (σ.length+1) 0,.bptr (σ.length+2) 0,.bptr (σ.length+3) 0] (base70 σ)) :
  dn (VV noZ) (Qcd prog) (frame0 [byV b,.func (.func 65) [] []]) σ (λρ σ=>dn (VV noZ) (Zce prog) ρ σ (λρ σ=>dn (VV noZ) (Yce prog) ρ σ (λρ σ=>K (getF ρ [0,1,4,5,6,7]) σ) (λ_ _ _=>(VV noZ).stop) (λρ σ=>R (getF ρ [4,5,6]) σ)) (λ_ _ _=>(VV noZ).stop) (λρ σ=>R (getF ρ [4,5,6]) σ)) (λ_ _ _=>(VV noZ).stop) (λρ σ=>R (getF ρ [4,5,6]) σ):=by
 rw[Yc4];simp only[Xd];refine Zh (YD σ _) (Xj _ _) (Zh (YD _ _) (Xj _ _) (Zh (YD _ _) (Xj _ _) (Zh (YD _ _) (Xj _ _) ?_)));refine Za (Zj ..) (Za (Xad ..) ?_);rw[YDF (by omega)];refine Yh ?_;have e:σ++[ABlk.box [AVal.int .i8 0,.int .i64 0,.int .i64 0,.int .i64 0,.nils,.nils]]++[.box [.int .i64 0]]++[.box [.int .i64 0]]++[.box [.int .i8 0,.int .i64 0,.int .i64 0,.int .i64 0,.nils,.nils]]=base70 σ:=by simp[base70,zC]
 rw[e];simpa using hK
theorem w70b(b:List UInt8)(hlen:b.length≤1000000)(σ:List ABlk){R:KTs}(hR:∀τ,Gw b σ τ→R [.bptr σ.length 0,.bptr (σ.length+1) 0,.bptr (σ.length+2) 0] τ) :
  dn (VV (Zw b σ)) (Xce prog) [(0,byV b),(1,.func (.func 65) [] []),(4,.bptr σ.length 0),(5,.bptr (σ.length+1) 0),(6,.bptr (σ.length+2) 0)] (base70 σ) (λ_ _=>(VV (Zw b σ)).stop) (λ_ _ _=>(VV (Zw b σ)).stop) (λρ σ=>R (getF ρ [4,5,6]) σ):=by
 rw[Xc4];simp only[Xd];obtain⟨b0,b1,b2,b3⟩:=YcB σ;have hbl:(base70 σ).length=σ.length+4:=by simp[base70]
 have hks:KS σ (base70 σ):=⟨by omega,λd hd=>Xc _ rfl hd⟩;generalize base70 σ=τ0 at b0 b1 b2 b3 hbl hks;refine Za rfl (Zh (v:=.bptr τ0.length 0) (rd:=[]) (up:=[(τ0.length,.box [byV b,iv 0,.bool true])]) rfl (Xj _ _) ?_);have c0:=Xc [ABlk.box [byV b,iv 0,.bool true]] b0;have c1:=Xc [ABlk.box [byV b,iv 0,.bool true]] b1;have c2:=Xc [ABlk.box [byV b,iv 0,.bool true]] b2;have c3:=Xc [ABlk.box [byV b,iv 0,.bool true]] b3;have cc:=Xb τ0 (.box [byV b,iv 0,.bool true]);have ck:KS σ (τ0 ++ [.box [byV b,iv 0,.bool true]]):=⟨by have:=hks.1; simp; omega,λd hd=>by
  have:=hks.2 d hd;rw[Xc [ABlk.box [byV b,iv 0,.bool true]] this hd]⟩
 generalize τ0++[ABlk.box [byV b,iv 0,.bool true]]=τ1 at c0 c1 c2 c3 cc ck;rw[hbl] at cc ⊢;have kz:∀τ,KA (σ.length+4) σ.length τ1 τ→KS σ τ∧(∃u,hget τ (σ.length+1)=.box [u])∧(∃u,hget τ (σ.length+2)=.box [u])∧hget τ (σ.length+3)=.box zC:=by
  intro τ k;refine⟨⟨Nat.le_trans ck.1 k.1,λd hd=>?_⟩,⟨iv 0,?_⟩,⟨iv 0,?_⟩,?_⟩
  ·have:=hlt hd;have q:=ck.2 d hd;rw[k.2.1 d (by omega) (by omega) (by rw[q]; exact hd),q]
  ·rw[k.2.1 _ (by omega) (by omega) (by rw[c1]; simp)]; exact c1
  ·rw[k.2.1 _ (by omega) (by omega) (by rw[c2]; simp)]; exact c2
  ·rw[k.2.1 _ (by omega) (by omega) (by rw[c3]; simp)]; exact c3
 refine Zb8 rfl cc (by omega) c0 (by omega) (λe q τ k=>?_) (λx q v w τ hq hx k hc ha hol hop=>?_)
 ·obtain⟨k1,k2,k3,k4⟩:=kz τ k;exact⟨q,rfl,λx=>by rw[e]; simp,k1,k.2.2,k2,k3,k4⟩
 obtain⟨k1,⟨u2,k2⟩,⟨u3,k3⟩,k4⟩:=kz τ k;refine Za rfl (Za rfl (Za (v:=iv q) (Zm hc rfl) (Za (Zj ..) (Za (QI ..) (Xg (λh=>?_) (λh=>?_))))))
 ·have h:q<b.length:=by simpa using h
  refine Za rfl (Za rfl (Za (v:=iv q) (Zm hc rfl) (Za rfl (Za rfl (Xac ?_)))));refine⟨q,rfl,λy e=>?_,k1,⟨_,_,_,_,_,_,ha⟩,⟨u2,k2⟩,⟨u3,k3⟩,k4⟩;rw[hx] at e;simp at e;omega
 ·have h:q=b.length:=by simp at h; omega
  subst h;rw[List.drop_length] at hx;have hal:=Yb ha;have h2l:=Yb k2;have h3l:=Yb k3;unfold fin70;have hcs:cellsOf (.agg [iv8 x.op,iv x.side,iv x.place,iv x.target,v,w])=some [iv8 x.op,iv x.side,iv x.place,iv x.target,v,w]:=by
   rcases hol with ⟨rfl,_⟩|⟨d,ex,rfl,_⟩<;>rcases hop with ⟨rfl,_⟩|⟨d',ex',rfl,_⟩<;>rfl
  refine Za (v:=.agg [iv8 x.op,iv x.side,iv x.place,iv x.target,v,w]) (Zm ha rfl) ?_;refine Zh (stv (cs:=[iv8 x.op,iv x.side,iv x.place,iv x.target,v,w]) (row':=[iv8 x.op,iv x.side,iv x.place,iv x.target,v,w]) ha hcs rfl rfl) (Zd _ hal) ?_;refine Zh (stv (row':=[iv 0]) (Qa k2 (by simp) (by omega)) rfl rfl rfl) (Zd _ (by simpa using h2l)) ?_;refine Zh (stv (row':=[iv 0]) (Qa (Qa k3 (by simp) (by omega)) (by simp) (by omega)) rfl rfl rfl) (Zd _ (by simpa using h3l)) ?_;refine hR _ ⟨x,v,w,hx,⟨by simpa using k1.1,λd hd=>?_⟩,?_,?_,?_,?_,?_⟩
  ·have:=hlt hd;rw[Qb (by omega),Qb (by omega),Qb (by omega)]; exact k1.2 d hd
  ·rw[Qb (by omega),Qb (by omega)]; exact Yd ha (by simp)
  ·rw[Qb (by omega)]; exact Yd (Qa k2 (by simp) (by omega)) (by simp)
  ·exact Yd (Qa (Qa k3 (by simp) (by omega)) (by simp) (by omega)) (by simp)
  ·rcases hol with z|⟨d,ex,z,hb⟩
   ·exact .inl z
   ·refine .inr ⟨d,ex,z,?_⟩;rw[Qb (by rintro rfl; rw[k3] at hb; cases hb),Qb (by rintro rfl; rw[k2] at hb; cases hb),Qb (by rintro rfl; rw[ha] at hb; cases hb)]; exact hb
  ·rcases hop with z|⟨d,ex,z,hb⟩
   ·exact .inl z
   ·refine .inr ⟨d,ex,z,?_⟩;rw[Qb (by rintro rfl; rw[k3] at hb; cases hb),Qb (by rintro rfl; rw[k2] at hb; cases hb),Qb (by rintro rfl; rw[ha] at hb; cases hb)]; exact hb
theorem YaP{P:Program}{ops:Array Oper}{Q:Exit→Act→World→Prop}{i:Nat}{rest:List Nat}{a:Act}{w:World}{o:Oper}(ho:ops[i]?=some o)(hg:o.guard=none)
 (h:o.uponIn (wz none) 0 P a (wpOpsIn (wz none) 0 P ops Q rest) Q ((execOp a.eval o).run P w)):wpOpsIn (wz none) 0 P ops Q (i::rest) a w:=by
 simp only[wpOpsIn,ho];rw[YIP (by simp[Region.wanted,hg])];exact⟨λ_ _=>trivial,h⟩
theorem denF3{n:Nat}{g:Gm}{a:Act}(d:DenF n g [] a){x y z:AVal}(hx:g.den x (a.tmps.getD 4 undef))(hy:g.den y (a.tmps.getD 5 undef))(hz:g.den z (a.tmps.getD 6 undef)):DenF n g [(4,x),(5,y),(6,z)] a:=
 ⟨d.size,λt=>by
  rw[Qv,Qv,Qv];split
  ·rename_i e; subst e; exact hx
  split
  ·rename_i e; subst e; exact hy
  split
  ·rename_i e; subst e; exact hz
  exact d.slot t,d.defers⟩
theorem Yc1{b:List UInt8}{σ:List ABlk}{Z:PZ}{K:KT}(hlen:b.length≤1000000)
 (hgood:∀x v w τ,actO b=some (x,[])→KS σ τ→OL x.ids v τ→OP x.prs w τ→K (.tup [.agg [iv8 x.op,iv x.side,iv x.place,iv x.target,v,w],iv 0,iv 0]) τ)
 (hbad:(∀x,actO b≠some (x,[]))→∀(q:Nat) τ,KS σ τ→K (.tup [.agg zC,iv q,iv 180]) τ):(VV Z).call (.call 70) [byV b,.func (.func 65) [] []] σ K:=by
 refine Zbb λw0 L g w vs r hx=>?_;have r0:Rep GL0 w0 L ⟨g.M,g.c,[]⟩ (hp σ) w:={ r with mks:=by simp };have d0:=Zat (g:=⟨g.M,g.c,[]⟩) rfl (hx.mk' (mk:=[])) (n:=34) (by simp);refine QU.1 (callsIn_of_wp_defers (F:=wz none) (n:=0) Go.Proofs.Tryz.func70 Qc2 trivial ?_);rw[n70];have e0:(Qcd prog).er=mcC prog 34 (Qcf prog):=Xs _ _ _;have e1:(Zce prog).er=mcC prog 34 (Zcg prog):=Xs _ _ _;have e2:(Yce prog).er=mcC prog 34 (Ycg prog):=Xs _ _ _;have e4:(Xce prog).er=mcC prog 34 (Xcg prog):=Xs _ _ _;have hw:=w70a b hlen σ (K:=λvs τ=>vs=[byV b,.func (.func 65) [] [],.bptr σ.length 0,.bptr (σ.length+1) 0,.bptr (σ.length+2) 0,.bptr (σ.length+3) 0]∧τ=base70 σ) (R:=λ_ _=>False) ⟨rfl,rfl⟩;refine wpIn_seq (Ya5 hP (Qcd prog) s70_0 (e0▸c70_0) r0 d0 hw (λg1 ρ1 σ1 a1 w1 l1 r1 d1 hw1=>?_) (λ_ _ _ _ _ _ _ _ _ k=>(by first|exact False.elim k|exact False.elim (Z3.mp k))) (λ_ _ _ _ _ _ _ _ k=>(by first|exact False.elim k|exact False.elim (Z3.mp k))) (λ_ _ _ _ _ _ _ _ _ _ k=>(by first|exact False.elim k|exact False.elim (Z3.mp k))));refine wpIn_seq (Ya5 hP (Zce prog) s70_1 (e1▸c70_1) r1 d1 hw1 (λg2 ρ2 σ2 a2 w2 l2 r2 d2 hw2=>?_) (λ_ _ _ _ _ _ _ _ _ k=>(by first|exact False.elim k|exact False.elim (Z3.mp k))) (λ_ _ _ _ _ _ _ _ k=>(by first|exact False.elim k|exact False.elim (Z3.mp k))) (λ_ _ _ _ _ _ _ _ _ _ k=>(by first|exact False.elim k|exact False.elim (Z3.mp k))));refine wpIn_seq (Ya5 hP (Yce prog) s70_2 (e2▸c70_2) r2 d2 hw2 (λg3 ρ3 σ3 a3 w3 l3 r3 d3 hw3=>?_) (λ_ _ _ _ _ _ _ _ _ k=>(by first|exact False.elim k|exact False.elim (Z3.mp k))) (λ_ _ _ _ _ _ _ _ k=>(by first|exact False.elim k|exact False.elim (Z3.mp k))) (λ_ _ _ _ _ _ _ _ _ _ k=>(by first|exact False.elim k|exact False.elim (Z3.mp k))));obtain⟨hv,hσ⟩:=hw3;subst hσ;simp only[getF,List.cons.injEq,and_true] at hv;obtain⟨q0,q1,q4,q5,q6,q7⟩:=hv;have d4:DenF 34 g3 [(0,byV b),(1,.func (.func 65) [] []),(4,.bptr σ.length 0),(5,.bptr (σ.length+1) 0),(6,.bptr (σ.length+2) 0),(7,.bptr (σ.length+3) 0)] a3:=d3.weak (Z7.le ⟨q0,q1,q4,q5,q6,q7,trivial⟩);have le3:=(l1.trans l2).trans l3;have hdk3:g3.dk=[]:=le3.k;have k4:g3.den (.bptr σ.length 0) (a3.tmps.getD 4 undef):=d4.slot 4;have k5:g3.den (.bptr (σ.length+1) 0) (a3.tmps.getD 5 undef):=d4.slot 5;have k6:g3.den (.bptr (σ.length+2) 0) (a3.tmps.getD 6 undef):=d4.slot 6;have k7:g3.den (.bptr (σ.length+3) 0) (a3.tmps.getD 7 undef):=d4.slot 7;clear d3 hw hw1 hw2 d1 d2 d0 q0 q1 q4 q5 q6 q7;generalize hp4:a3.tmps.getD 4 undef=p4 at k4;generalize hp5:a3.tmps.getD 5 undef=p5 at k5;generalize hp6:a3.tmps.getD 6 undef=p6 at k6;generalize hp7:a3.tmps.getD 7 undef=p7 at k7;refine wpIn_seq (wpIn_region ?_);rw[z70,show List.range 2=[0,1] from rfl];refine YaP XcH.1 XcH.2.2.2 ?_;have hmf:∀(fn:Fn) (first cap:Array Value) (w:World),(Instr.makeFunc fn first cap).run prog w=.ok (.func fn first cap) w:=λ_ _ _ _=>rfl;have run0:(execOp a3.eval (opAt (o70 prog) 0)).run prog w3=.ok (.value (.func (.func 88) #[] #[p7,p4,p5,p6])) w3:=by
  simp_all [execOp,Act.eval,XcH]
 rw[run0,Oper.uponIn_value,XcH.2.2.1];have hd13:g3.den (.func (.func 88) [] [.bptr (σ.length+3) 0,.bptr σ.length 0,.bptr (σ.length+1) 0,.bptr (σ.length+2) 0]) (.func (.func 88) #[] #[p7,p4,p5,p6]):=by
  refine .func _ _ _ _ _ _ rfl rfl (by simp) (λi x u e1 e2=>?_)
  match i with
  |0=>simp at e1 e2; subst e1; subst e2; exact k7
  |1=>simp at e1 e2; subst e1; subst e2; exact k4
  |2=>simp at e1 e2; subst e1; subst e2; exact k5
  |3=>simp at e1 e2; subst e1; subst e2; exact k6
  |i+4=>simp at e1
 have d5:=d4.put (d:=13) (by decide) hd13;have t4:(a3.put (some 13) (.func (.func 88) #[] #[p7,p4,p5,p6])).tmps.getD 4 undef=p4:=by rw[←hp4]; simp[Act.put,Array.getD_eq_getD_getElem?]
 have t5:(a3.put (some 13) (.func (.func 88) #[] #[p7,p4,p5,p6])).tmps.getD 5 undef=p5:=by rw[←hp5]; simp[Act.put,Array.getD_eq_getD_getElem?]
 have t6:(a3.put (some 13) (.func (.func 88) #[] #[p7,p4,p5,p6])).tmps.getD 6 undef=p6:=by rw[←hp6]; simp[Act.put,Array.getD_eq_getD_getElem?]
 have t13:(a3.put (some 13) (.func (.func 88) #[] #[p7,p4,p5,p6])).tmps.getD 13 undef=.func (.func 88) #[] #[p7,p4,p5,p6]:=by
  have hsz:=d4.size;simp[Act.put,Array.getD,hsz]
 generalize a3.put (some 13) (.func (.func 88) #[] #[p7,p4,p5,p6])=a5 at d5 t4 t5 t6 t13;refine YaP QcH.1 QcH.2.2.2 ?_;have run1:(execOp a5.eval (opAt (o70 prog) 1)).run prog w3=.ok (.defer { target:=.fn (.func 88) #[p7,p4,p5,p6],args:=#[] }) w3:=by
  grind [execOp,resolve,Act.eval,Deferred.ofValue,QcH,Sem.run_pure]
 rw[run1,Oper.uponIn_defer,QcH.2.2.1];have hlay:({ a5 with defers:={ target:=.fn (.func 88) #[p7,p4,p5,p6],args:=#[] }::a5.defers }:Act).put none undef=layD [{ target:=.fn (.func 88) #[p7,p4,p5,p6],args:=#[] }] a5:=by
  have:=d5.defers;rw[hdk3] at this;simp[Act.put,layD,this]
 rw[hlay];simp only[wpOpsIn];have d6:DenF 34 g3 [(0,byV b),(1,.func (.func 65) [] []),(4,.bptr σ.length 0),(5,.bptr (σ.length+1) 0),(6,.bptr (σ.length+2) 0)] a5:=d5.weak (Z7.le ⟨rfl,rfl,rfl,rfl,rfl,trivial⟩);refine YaG hP false [{ target:=.fn (.func 88) #[p7,p4,p5,p6],args:=#[] }] [4,5,6] (by simp) (Xce prog) s70_4 (e4▸c70_4) r3 d6
  (w70b b hlen σ (R:=λvs τ=>vs=[.bptr σ.length 0,.bptr (σ.length+1) 0,.bptr (σ.length+2) 0]∧Gw b σ τ) (λτ h=>⟨rfl,h⟩)) (λ_ _ _ _ _ _ _ _ _ k=>(by first|exact False.elim k|exact False.elim (Z3.mp k))) (λ_ _ _ _ _ _ _ _ _ _ k=>(by first|exact False.elim k|exact False.elim (Z3.mp k))) (λg' ρ' σ' a' w' k1 k2 k3 kt kr=>?_) (λg' xv σ' u a' w' k1 k2 k3 kt ku kz=>?_)
 ·
  obtain⟨hv,x,v,w,hax,hks,h0,h1,h2,hol,hop⟩:=kr;have hdk':g'.dk=[]:=k1.k.trans hdk3;show LeavesIn (wz none) 0 prog Go.Proofs.Tryz.f70 a'.tmps _ (a'.defers++[_]) .returning w';rw[k3.defers,hdk'];refine leavesIn_cons (f:=88) (args:=#[p7,p4,p5,p6]) (by simp) (λh=>Xab h) (by rfl) (λ_ _=>trivial) ((clo88 YcK k2 hdk' ⟨Gm.den_mono k1 k7,Gm.den_mono k1 k4,Gm.den_mono k1 k5,Gm.den_mono k1 k6,trivial⟩ (x7:=.nili) (.nili _) (w88i _ _ _ _ (K:=λτ=>τ=σ') rfl)).mono ?_);rintro e u' w9 ⟨⟨vv,rfl⟩,rfl,g9,σ9,l9,r9,rfl⟩;simp only[getF,List.cons.injEq,and_true] at hv;obtain⟨s4,s5,s6⟩:=hv;have d9:DenF 34 g9 [(4,.bptr σ.length 0),(5,.bptr (σ.length+1) 0),(6,.bptr (σ.length+2) 0)] a':=(k3.mono l9).weak (Z7.le ⟨s4,s5,s6,trivial⟩);have hret:retV [.c 4 true 6,.c 5 false 1,.c 6 false 1] [(4,.bptr σ.length 0),(5,.bptr (σ.length+1) 0),(6,.bptr (σ.length+2) 0)] σ9=some (.tup [.agg [iv8 x.op,iv x.side,iv x.place,iv x.target,v,w],iv 0,iv 0]):=by
   simp[retV,retL,ret1,retOf,fget,h0,h1,h2,partA,show Nat.beq 4 5=false from rfl,show Nat.beq 4 6=false from rfl,show Nat.beq 5 6=false from rfl,nth]
  obtain⟨uo,ho1,ho2⟩:=YR (P:=prog) r9 d9 r70 hret;exact⟨uo,ho1,⟨g9.M,g9.c,g.dk⟩,_,σ9,hgood x v w σ9 hax hks hol hop,⟨((le3.trans k1).trans l9).m,((le3.trans k1).trans l9).c,rfl⟩,{ r9 with mks:=r.mks },ho2⟩
 ·
  obtain⟨q,rfl,hno,hks,⟨y0,y1,y2,y3,y4,y5,h0⟩,⟨u1,h1⟩,⟨u2,h2⟩,h3⟩:=kz;have hdk':g'.dk=[]:=k1.k.trans hdk3;show LeavesIn (wz none) 0 prog Go.Proofs.Tryz.f70 a'.tmps _ (a'.defers ++ [_]) (.panicking _) w';rw[k3.defers,hdk'];refine leavesIn_cons (f:=88) (args:=#[p7,p4,p5,p6]) (by simp) (λh=>Xab h) (by rfl) (λ_ _=>trivial) ((clo88 (YbW u) k2 hdk' ⟨Gm.den_mono k1 k7,Gm.den_mono k1 k4,Gm.den_mono k1 k5,Gm.den_mono k1 k6,trivial⟩ ku (w88p h0 h1 h2 h3 (K:=λτ=>hget τ σ.length=.box zC∧hget τ (σ.length + 1)=.box [iv q]∧hget τ (σ.length + 2)=.box [iv 180]∧KS σ τ)
   (λτ m1 m2 m3 m4 m5=>⟨m1,m2,m3,Nat.le_trans hks.1 m4,λd hd=>by rw[m5 d (hlt hd) (by rw[hks.2 d hd]; exact hd),hks.2 d hd]⟩))).mono ?_)
  rintro e u' w9 ⟨⟨vv,rfl⟩,rfl,g9,σ9,l9,r9,m1,m2,m3,m4⟩;have le9:=k1.trans l9;have d9:DenF 34 g9 [(4,.bptr σ.length 0),(5,.bptr (σ.length+1) 0),(6,.bptr (σ.length+2) 0)] a':=denF3 (k3.mono l9) (by rw[kt 4 (by simp),t4]; exact Gm.den_mono le9 k4) (by rw[kt 5 (by simp),t5]; exact Gm.den_mono le9 k5) (by rw[kt 6 (by simp),t6]; exact Gm.den_mono le9 k6);have hret:retV [.c 4 true 6,.c 5 false 1,.c 6 false 1] [(4,.bptr σ.length 0),(5,.bptr (σ.length+1) 0),(6,.bptr (σ.length+2) 0)] σ9=some (.tup [.agg zC,iv q,iv 180]):=by
   simp[retV,retL,ret1,retOf,fget,m1,m2,m3,partA,zC,show Nat.beq 4 5=false from rfl,show Nat.beq 4 6=false from rfl,show Nat.beq 5 6=false from rfl,nth]
  obtain⟨uo,ho1,ho2⟩:=YR (P:=prog) r9 d9 r70 hret;exact⟨uo,ho1,⟨g9.M,g9.c,g.dk⟩,_,σ9,hbad hno q σ9 m4,⟨((le3.trans k1).trans l9).m,((le3.trans k1).trans l9).c,rfl⟩,{ r9 with mks:=r.mks },ho2⟩
end Go.Ah.Tz
end
section
namespace Go.Ah.Tz
open Go.Proofs.Tryz (prog)
set_option maxRecDepth 100000
attribute [local irreducible] Ans.rd Ans.pu Ans.wr Ans.dr Ans.gr Ans.gw Ans.gl Ans.gd Ans.opt joinK W
set_option maxHeartbeats 8000000
theorem Qcu(n:Int){s:List UInt8×Bool}{c:Nat}{σ:List ABlk}{Z:PZ}{K:KT}(h:CR s c σ)
 (hK:K (byV (tk n s).1) (σ.set c (.box [byV (tk n s).2.1,.bool (tk n s).2.2]))):(VV Z).call (.call 40) [.bptr c 0,iv n] σ K:=by
 unfold CR at h;refine Zg hP rfl k40.ok rfl ?_;show k40.u (VV Z) [.bptr c 0,iv n] σ K;rw[H2.e]; unfold k40; dsimp only; simp only[Xd];refine Za (QI ..) ?_;refine Xct (λ_=>rfl) (λ_=>rfl) (λ_=>rfl) (λ_=>rfl) (v5:=byV s.1) (λ_=>Zm h rfl) (λ_=>Zj ..) (λ_=>Xad ..) ?_;refine Qr (Xg (λq=>?_) (λq=>?_))
 ·have hq:n<0∨(s.1.length:Int)<n:=by simpa using q
  have ht:tk n s=([],s.1,true):=by rw[tk,YIP hq]
  rw[ht] at hK;have h1:hget (σ.set c (.box [byV s.1,.bool true])) c=.box [byV s.1,.bool true]:=Yd h (by simp);refine Za rfl (Za rfl (Zh (stv (row':=[byV s.1,.bool true]) h rfl rfl rfl) (Zd _ (Yb h)) ?_));have k1:∀y,(σ.set c (.box [byV s.1,.bool true])).set c y=σ.set c y:=λy=>List.set_set ..;generalize σ.set c (.box [byV s.1,.bool true])=τ at h1 k1;refine Za rfl (Za rfl (Za (v:=byV s.1) (Zm h1 rfl) (Za (ZcB false false s.1 0 (by omega)) ?_)));refine Za rfl (Za rfl (Za (v:=byV s.1) (Zm h1 rfl) (Za (QbS false false s.1 0 (by omega)) ?_)));refine Za rfl (Za rfl (Zh (stv (row':=[byV s.1,.bool true]) h1 rfl rfl rfl) (Zd _ (Yb h1)) ?_));rw[k1];exact hK
 ·have hq:¬(n<0∨(s.1.length:Int)<n):=by
   simp only[Bool.or_eq_false_iff,YDN] at q;omega
  have ht:tk n s=(s.1.take n.toNat,s.1.drop n.toNat,s.2):=by rw[tk,YIN hq]
  rw[ht] at hK;obtain⟨m,rfl⟩:∃m:Nat,n=m:=⟨n.toNat,by omega⟩;rw[Int.toNat_natCast] at hK;have hm:m≤s.1.length:=by omega
  refine Za rfl (Za rfl (Za (v:=byV s.1) (Zm h rfl) (Za (ZcB false false s.1 m hm) ?_)));refine Za rfl (Za rfl (Za (v:=byV s.1) (Zm h rfl) (Za (QbS false false s.1 m hm) ?_)));refine Za rfl (Za rfl (Zh (stv (row':=[byV (s.1.drop m),.bool s.2]) h rfl rfl rfl) (Zd _ (Yb h)) ?_));exact hK
theorem YbK{s:List UInt8×Bool}{c:Nat}{σ:List ABlk}{Z:PZ}{K:KT}(h:CR s c σ)
 (hK:K (iv (numF s).1) (σ.set c (.box [byV (numF s).2.1,.bool (numF s).2.2]))):k41.u (VV Z) [.bptr c 0] σ K:=by
 rw[H1.e]; unfold k41; dsimp only; simp only[Xd,Yo];refine Qcu 8 h ?_;have hlen:(tk 8 s).1.length≤8:=by
  unfold tk; split
  ·simp
  ·simp; omega
 have hn:(numF s).1=w64 (d8 (tk 8 s).1):=rfl;have hn2:(numF s).2=(tk 8 s).2:=rfl;rw[hn,hn2] at hK;generalize (tk 8 s).1=l at *;refine Za (Zj ..) ?_;refine ZC (ι:=Nat) (λi vs τ=>vs=[iv i,.int .u64 (d8 (l.take i):Nat)]∧i≤l.length∧τ=σ.set c (.box [byV (numF s).2.1,.bool (numF s).2.2])) (λi=>l.length-i) 0 ⟨rfl,by omega,rfl⟩ ?_;rintro i vs τ again ⟨rfl,hi,rfl⟩ hag;refine Za (QI ..) (Xg (λh=>?_) (λh=>?_))
 ·have h:i<l.length:=by simpa using h
  have hb:=ZcD i (l.take i) (by simp; omega);have hb7:256 ^ i≤256 ^ 7:=Nat.pow_le_pow_right (by omega) (by omega);refine Za (Xbr byC false false 1 l .i64 i h) (Za (v:=.int .u8 (l[i].toNat:Int)) (QJ rfl) (Za rfl (Za (Zs ..) (Za (Ya1 _ _ (by omega)) (Za (XL ..) ?_)))));rw[Xl (n:=i) (by omega)];exact hag (i+1) _ _ (by omega) ⟨by rw[List.take_succ_eq_append_getElem h,Za4],by omega,rfl⟩
 ·have h:i=l.length:=by simp at h; omega
  subst h;rw[List.take_length];refine Za (Zs ..) ?_;exact hK
theorem XbK{s:List UInt8×Bool}{c:Nat}{σ:List ABlk}{Z:PZ}{K:KT}(h:CR s c σ)
 (hK:K (iv (numF s).1) (σ.set c (.box [byV (numF s).2.1,.bool (numF s).2.2]))):(VV Z).call (.call 41) [.bptr c 0] σ K:=Zg hP rfl k41.ok rfl (YbK h hK)
theorem Zcv{s:List UInt8×Bool}{c:Nat}{σ:List ABlk}{Z:PZ}{K:KT}(h:CR s c σ)
 (hK:K (.str (textF s).1) (σ.set c (.box [byV (textF s).2.1,.bool (textF s).2.2]))):(VV Z).call (.call 42) [.bptr c 0] σ K:=by
 refine Zg hP rfl k42.ok rfl ?_;show k42.u (VV Z) [.bptr c 0] σ K;rw[H1.e]; unfold k42; dsimp only;refine XbK h (Qcu (s:=(numF s).2) _ (Yd h (by simp)) ?_);rw[List.set_set];have:∀σ2,XF [byV (tk (numF s).1 (numF s).2).1] σ2=.ok (.str (tk (numF s).1 (numF s).2).1) [] []:=by
  intro σ2;simp[XF,isSl,QbO,Yad]
 exact Za (this _) hK
def seqF{α β:Type}(F:Fl α)(F':Fl β):Fl (α×β):=λs=>(((F s).1,(F' (F s).2).1),(F' (F s).2).2)
theorem Agr.seq{α β:Type}{F:Fl α}{O:Rd α}{F':Fl β}{O':Rd β}(h:Agr F O)(h':Agr F' O'):Agr (seqF F F') (seqR O O') where
 yes:=λr a r' e=>by
  unfold seqR at e;cases h1:O r with
  |none=>simp[h1] at e
  |some x=>
   cases h2:O' x.2 with
   |none=>simp[h1,h2] at e
   |some y=>
    simp[h1,h2] at e;obtain⟨rfl,rfl⟩:=e;have e1:=h.yes r x.1 x.2 h1;have e2:=h'.yes x.2 y.1 y.2 h2;simp only[seqF,e1,e2]
 no:=λr e=>by
  unfold seqR at e;cases h1:O r with
  |none=>
   have e1:=h.no r h1;simp only[seqF];rcases hq:F (r,false) with ⟨a,r',q⟩
   rw[hq] at e1;have e1:q=true:=e1;subst e1;exact h'.bad r'
  |some x=>
   have e1:=h.yes r x.1 x.2 h1;cases h2:O' x.2 with
   |none=>
    simp only[seqF,e1];exact h'.no _ h2
   |some y=>simp[h1,h2] at e
 bad:=λr=>by
  have e1:=h.bad r;simp only[seqF];rcases hq:F (r,true) with ⟨a,r',q⟩
  rw[hq] at e1;have e1:q=true:=e1;subst e1;exact h'.bad r'
def begF:Fl Bg:=seqF numF (seqF textF (seqF textF (seqF textF (seqF listF (seqF listF listF)))))
theorem Xbs:Agr begF begO:=Yv.seq (Qba.seq (Qba.seq (Qba.seq (Xa8.seq (Xa8.seq Xa8)))))
theorem ZcH{x:De}(h:mayD x=true):x.kind=1∨x.kind=2:=by
 simp only[mayD,m3,Bool.and_eq_true,Bool.or_eq_true,YDE] at h;rcases h.2 with h|h
 ·exact .inl h
 ·exact .inr h.1.1.1.1
def tellO(bad:Bool)(n:Nat)(x:De):Option De:=if bad=false∧n=0∧mayD x=true then some x else none
theorem YcJ(u:UInt8)(r:List UInt8)(hk:ki u=1):readO (u::r)=tellO (begF (numF (r,false)).2).2.2 (begF (numF (r,false)).2).2.1.length (begD (ki u) (numF (r,false)).1 (begF (numF (r,false)).2).1):=by
 unfold readO tellO;simp only[YIP hk];cases h1:numO r with
 |none=>
  have e1:=Yv.no r h1;rcases hq:numF (r,false) with ⟨a,r',q⟩
  rw[hq] at e1;have e1:q=true:=e1;subst e1;rw[YIN (λh=>by have:=Xbs.bad r'; simp only at h; rw[this] at h; cases h.1)];rfl
 |some g=>
  rw[Yv.yes r g.1 g.2 h1];simp only[Option.bind_some];cases h2:begO g.2 with
  |none=>
   rw[YIN (λh=>by have:=Xbs.no _ h2; rw[this] at h; cases h.1)];rfl
  |some y=>
   rw[Xbs.yes _ y.1 y.2 h2];simp only[Option.bind_some,true_and,List.length_eq_zero_iff]
theorem ZcJ(u:UInt8)(r:List UInt8)(hk:ki u=2)(a:Ac)(h:actO (numF (r,false)).2.1=some (a,[])):readO (u::r)=tellO (numF (r,false)).2.2 0 (actD (ki u) (numF (r,false)).1 a):=by
 unfold readO tellO;simp only[YIN (show ¬ki u=1 by omega),YIP hk];cases h1:numO r with
 |none=>
  have e1:=Yv.no r h1;rw[YIN (λh=>by rw[e1] at h; cases h.1)];rfl
 |some g=>
  rw[Yv.yes r g.1 g.2 h1] at h ⊢;simp only at h;simp only[Option.bind_some,h,true_and]
theorem Xcn(u:UInt8)(r:List UInt8)(hk:ki u=2)(h:∀a,actO (numF (r,false)).2.1≠some (a,[]))(n:Nat)(x:De):readO (u::r)=tellO true n x:=by
 unfold readO tellO;simp only[YIN (show ¬ki u=1 by omega),YIP hk];rw[YIN (λh=>by cases h.1)];cases h1:numO r with
 |none=>rfl
 |some g=>
  rw[Yv.yes r g.1 g.2 h1] at h;simp only at h;simp only[Option.bind_some];cases h2:actO g.2 with
  |none=>rfl
  |some y=>
   simp only[Option.bind_some];rw[YIN];rintro⟨h3,_⟩;exact h y.1 (by rw[h2,←h3])
theorem XcJ(u:UInt8)(r:List UInt8)(h1:¬ki u=1)(h2:¬ki u=2)(bad:Bool)(n:Nat)(x:De)(hx:x.kind=ki u):readO (u::r)=tellO bad n x:=by
 unfold readO tellO;simp only[YIN h1,YIN h2];rw[YIN (λh=>by rcases ZcH h.2.2 with q|q<;>omega)];cases numO r<;>rfl
theorem Qah(s:List UInt8×Bool):(textF s).2.1.length≤s.1.length∧(listF s).2.1.length≤s.1.length:=by
 have h:=Yao s;constructor
 ·refine Nat.le_trans ?_ h;simp only[textF,tk]; split<;>simp
 ·unfold listF;split
  ·exact h
  ·exact Nat.le_trans (QbM _ _) h
@[reducible] def zDe:List AVal:=[iv8 0,iv 0,iv 0,.str [],.str [],.str [],.nils,.nils,.nils,iv8 0,iv 0,iv 0,iv 0,.nils,.nils]
def resV(o:Option De):AVal:=match o with
 |some x=>.tup [.agg (deC x),iv 0]
 |none=>.tup [.agg zDe,iv 2]
def OD(x:De)(cs:List AVal)(σ:List ABlk):Prop:=∃v0 v1 v2 v3 v4,cs=[iv8 x.kind,iv x.game,iv x.table,.str x.fmt,.str x.n0,.str x.n1,v0,v1,v2,iv8 x.ac.op,iv x.ac.side,iv x.ac.place,iv x.ac.target,v3,v4]∧OL x.d0 v0 σ∧OL x.d1 v1 σ∧OL x.dr v2 σ∧OL x.ac.ids v3 σ∧OP x.ac.prs v4 σ
theorem OL.borr{l:List Int}{v:AVal}{σ:List ABlk}(h:OL l v σ):∃b,∀rd,b∈rd→Bor (hp σ) rd v (rowV l):=by
 rcases h with ⟨rfl,rfl⟩|⟨b,ex,rfl,hb⟩
 ·exact⟨0,λrd _=>Bor.weak (Bor.ro rfl) (λM u d=>d.nils_rsl 1)⟩
 ·exact⟨b,λrd hr=>Bor.own hb hr (by simp) (Xak _ _ (by simp)) (λr hr=>by obtain⟨x,_,rfl⟩:=List.mem_map.1 hr; rfl)⟩
theorem OP.borr{l:List (Int×Int)}{v:AVal}{σ:List ABlk}(h:OP l v σ):∃b,∀rd,b∈rd→Bor (hp σ) rd v (prV l):=by
 rcases h with ⟨rfl,rfl⟩|⟨b,ex,rfl,hb⟩
 ·exact⟨0,λrd _=>Bor.weak (Bor.ro rfl) (λM u d=>d.nils_rsl 2)⟩
 ·exact⟨b,λrd hr=>Bor.own hb hr (by simp) (Xak _ _ (by simp)) (λr hr=>by obtain⟨x,_,rfl⟩:=List.mem_map.1 hr; rfl)⟩
theorem OD.bor{x:De}{cs:List AVal}{σ:List ABlk}(h:OD x cs σ):∃rd,Bor (hp σ) rd (.agg cs) (.agg (deC x)):=by
 obtain⟨v0,v1,v2,v3,v4,rfl,h0,h1,h2,h3,h4⟩:=h;obtain⟨b0,h0⟩:=h0.borr;obtain⟨b1,h1⟩:=h1.borr;obtain⟨b2,h2⟩:=h2.borr;obtain⟨b3,h3⟩:=h3.borr;obtain⟨b4,h4⟩:=h4.borr;refine⟨[b0,b1,b2,b3,b4],Bor.agg ?_⟩;have r0:∀ {v:AVal},v.ro=true→Bor (hp σ) [b0,b1,b2,b3,b4] v v:=λh=>Bor.ro h;exact .cons (r0 rfl) (.cons (r0 rfl) (.cons (r0 rfl) (.cons (r0 rfl) (.cons (r0 rfl) (.cons (r0 rfl) (.cons (h0 _ (by simp)) (.cons (h1 _ (by simp)) (.cons (h2 _ (by simp))
  (.cons (r0 rfl) (.cons (r0 rfl) (.cons (r0 rfl) (.cons (r0 rfl) (.cons (h3 _ (by simp)) (.cons (h4 _ (by simp)) .nil))))))))))))))
theorem OL.stay{l:List Int}{v:AVal}{σ τ:List ABlk}(h:OL l v σ)(hk:∀d,(∃y,hget σ d=.rows 1 y)→hget τ d=hget σ d):OL l v τ:=by
 rcases h with z|⟨b,ex,z,hb⟩
 ·exact .inl z
 ·exact .inr ⟨b,ex,z,by rw[hk b ⟨_,hb⟩]; exact hb⟩
theorem OP.stay{l:List (Int×Int)}{v:AVal}{σ τ:List ABlk}(h:OP l v σ)(hk:∀d,(∃y,hget σ d=.rows 2 y)→hget τ d=hget σ d):OP l v τ:=by
 rcases h with z|⟨b,ex,z,hb⟩
 ·exact .inl z
 ·exact .inr ⟨b,ex,z,by rw[hk b ⟨_,hb⟩]; exact hb⟩
theorem OD.cells{x:De}{cs:List AVal}{σ:List ABlk}(h:OD x cs σ):cellsOf (.agg cs)=some cs:=by
 obtain⟨v0,v1,v2,v3,v4,rfl,h0,h1,h2,h3,h4⟩:=h;have o:∀ {l v},OL l v σ→v.cell=true:=by
  intro l v h;rcases h with ⟨rfl,_⟩|⟨b,ex,rfl,_⟩<;>rfl
 have p:v4.cell=true:=by rcases h4 with ⟨rfl,_⟩|⟨b,ex,rfl,_⟩<;>rfl
 have ha:[iv8 x.kind,iv x.game,iv x.table,.str x.fmt,.str x.n0,.str x.n1,v0,v1,v2,iv8 x.ac.op,iv x.ac.side,iv x.ac.place,iv x.ac.target,v3,v4].all AVal.cell=true:=by
  simp only[List.all_cons,List.all_nil,o h0,o h1,o h2,o h3,p,Bool.and_true,Bool.true_and];rfl
 simp only[cellsOf,ha,cond_true]
theorem ZbP{f:(KTs)→Prop}{k:KTs}(T:KTs)(hk:∀vs σ,T vs σ→k vs σ)(hf:∀k',(∀vs σ,T vs σ→k' vs σ)→f k'):joinK f k:=by
 unfold joinK; exact hf k hk
@[reducible] def M22(s:List UInt8×Bool)(cs:List AVal):List ABlk:=[.box zDe,.box [byV s.1,.bool s.2],.box cs]
def T22(b:List UInt8)(vs:List AVal)(τ:List ABlk):Prop:=vs=[]∧∃bv n bad cs x,hget τ 0=.box zDe∧hget τ 1=.box [bv,.bool bad]∧(∀σ,XI [bv] σ=.ok (iv (n:Nat)) [] [])∧hget τ 2=.box cs∧OD x cs τ∧readO b=tellO bad n x
theorem c22(b:List UInt8)(hlen:b.length≤1000000):PC 22 [byV b] (resV (readO b)):=by
 refine YJ hP k22.ok rfl ?_;rw[H1.e]; unfold k22; dsimp only; simp only[Xd,Xw,Yo];refine Zh (v:=.bptr 0 0) (rd:=[]) (up:=[(0,.box zDe)]) rfl rfl (Za rfl (Zh (v:=.bptr 1 0) (rd:=[]) (up:=[(1,.box [byV b,.bool false])]) rfl rfl ?_));refine Qcu (s:=(b,false)) (c:=1) 1 rfl ?_;cases b with
 |nil=>
  have ht:tk 1 (([]:List UInt8),false)=([],[],true):=rfl;rw[ht];refine Za rfl (Za rfl (Za (v:=.bool true) rfl (Yj (Za rfl (Zh rfl rfl (Qaz rfl ?_))))));exact⟨[],Bor.ro rfl⟩
 |cons u r=>
  have ht:tk 1 (u::r,false)=([u],r,false):=by
   rw[tk,YIN (by simp; omega)]; rfl
  rw[ht];refine Za rfl (Za rfl (Za (v:=.bool false) rfl (Yh ?_)));refine Qf (v:=.rptr (byC u) 0) rfl rfl (Qf (v:=.int .u8 (u.toNat:Int)) rfl rfl (Qd (v:=iv8 (ki u)) rfl ?_));refine YbQ hP rfl k41.ok rfl (τ:=[.dead,.box [byV r,.bool false]]) (τ':=[.dead,.box [byV (numF (r,false)).2.1,.bool (numF (r,false)).2.2]]) [1] [1] (m:=0) (v:=iv (numF (r,false)).1) (by simp) (by simp) rfl rfl (YbK (s:=(r,false)) (c:=1) (σ:=[.dead,.box [byV r,.bool false]]) rfl ⟨rfl,rfl⟩) rfl rfl rfl (σ':=[.box zDe,.box [byV (numF (r,false)).2.1,.bool (numF (r,false)).2.2]]) rfl ?_;have hl1:=Yao (r,false);have hrb:=YcJ u r;have hra:=ZcJ u r;have hrn:=Xcn u r;have hro:=XcJ u r;have hr64:(r.length≤1000000):=by simp at hlen; omega
  generalize numF (r,false)=gs at hl1 hrb hra hrn hro;obtain⟨g,s1⟩:=gs;simp only at hl1 hrb hra hrn hro;refine Qd (v:=.agg [iv8 (ki u),iv g,iv 0,.str [],.str [],.str [],.nils,.nils,.nils,iv8 0,iv 0,iv 0,iv 0,.nils,.nils]) rfl ?_;refine Qf (v:=.bptr 2 0) (rd:=[]) (up:=[(2,.box zDe)]) rfl (σ':=[.box zDe,.box [byV s1.1,.bool s1.2],.box zDe]) rfl ?_;refine Qf (v:=.junk) (rd:=[]) (up:=[(2,.box [iv8 (ki u),iv g,iv 0,.str [],.str [],.str [],.nils,.nils,.nils,iv8 0,iv 0,iv 0,iv 0,.nils,.nils])]) rfl (σ':=M22 s1 [iv8 (ki u),iv g,iv 0,.str [],.str [],.str [],.nils,.nils,.nils,iv8 0,iv 0,iv 0,iv 0,.nils,.nils]) rfl ?_;refine XA (by kernel_rfl) (Za rfl (Za (v:=iv8 (ki u)) rfl ?_));refine ZbP (T22 (u::r)) (λvs τ hT=>?_) (λk' hk'=>?_)
  ·
   obtain⟨rfl,bv,n,bad,cs,x,h0,h1,hlb,h2,hod,hr⟩:=hT;rw[hr];have hno:tellO bad n x=none→∃rd,Bor (hp (τ.set 0 (.box zDe))) rd (.tup [.agg zDe,iv 2]) (resV (tellO bad n x)):=λe=>by rw[e]; exact⟨[],Bor.ro rfl⟩
   have h0l:=Yb h0;have hcv:∀cs,hget (τ.set 0 (.box cs)) 0=.box cs:=λcs=>Yd h0 (by simp);have hc0:cellV true 15 (.bptr 0 0) (τ.set 0 (.box zDe))=some (.agg zDe):=by simp only[cellV,hcv]; rfl
   refine Za rfl (Za rfl (Za (v:=.bool bad) (Zm h1 rfl) ?_));cases bad
   case true=>exact aw (Zh (stv (row':=zDe) h0 rfl rfl rfl) (Zd _ h0l) (Qaz hc0 (hno (by simp[tellO]))))
   refine Ya (Za rfl (Ya (Za rfl (Ya (Za rfl (Ya (Za (v:=bv) (Zm h1 rfl) (Ya (Za (hlb _) (Ya (Za (Xad ..) (Za rfl ?_))))))))))));cases hn:decide ((0:Int)<(n:Int))
   case true=>exact aw (Zh (stv (row':=zDe) h0 rfl rfl rfl) (Zd _ h0l) (Qaz hc0 (hno (by simp at hn; simp[tellO]; omega))))
   have hn:n=0:=by simp at hn; omega
   subst hn;obtain⟨rd,hbor⟩:=hod.bor;have hld:Zf true 15 [.bptr 2 0] τ=.ok (.agg cs) [2] []:=Zm h2 (by obtain⟨v0,v1,v2,v3,v4,rfl,_⟩:=hod; rfl);refine Ya (Za hld (XM (XbC (c32 x) rfl g32.ok.plain (.cons hbor .nil) rfl (Ya (Za (XaG ..) (Za rfl ?_))))));cases hm:mayD x
   ·exact Yj (Za rfl (Zh (stv (row':=zDe) h0 rfl rfl rfl) (Zd _ h0l) (Qaz hc0 (hno (by simp[tellO,hm])))))
   ·refine Yh (Za hld (Zh (stv (cs:=cs) (row':=cs) h0 hod.cells ?_ ?_) (Zd _ h0l) (Qaz (v:=.agg cs) ?_ ?_)))
    ·obtain⟨v0,v1,v2,v3,v4,rfl,_⟩:=hod; rfl
    ·obtain⟨v0,v1,v2,v3,v4,rfl,_⟩:=hod; rfl
    ·simp only[cellV,hcv];obtain⟨v0,v1,v2,v3,v4,rfl,_⟩:=hod; rfl
    ·have hst:∀(m d:Nat),(∃y,hget τ d=.rows m y)→hget (τ.set 0 (.box cs)) d=hget τ d:=λm d ⟨y,e⟩=>Qb (by rintro rfl; rw[h0] at e; cases e);have hod':OD x cs (τ.set 0 (.box cs)):=by
      obtain⟨v0,v1,v2,v3,v4,e,k0,k1,k2,k3,k4⟩:=hod;exact⟨v0,v1,v2,v3,v4,e,k0.stay (hst 1),k1.stay (hst 1),k2.stay (hst 1),k3.stay (hst 1),k4.stay (hst 2)⟩
     obtain⟨rd',hbor'⟩:=hod'.bor;have ht:tellO false 0 x=some x:=by simp[tellO,hm]
     rw[ht];exact⟨rd',Bor.tup (.cons hbor' (BorL.ro rfl))⟩
  ·
   refine Za (QZ ..) (Xg (λh=>?_) (λh=>?_))
   ·have hk1:ki u=1:=by simpa using h
    have hrb:=hrb hk1;have l2:=Yao s1;refine XbK (s:=s1) (c:=1) rfl (Za rfl (Zh (v:=.junk) (rd:=[]) (up:=[(2,.box [iv8 (ki u),iv g,iv (numF s1).1,.str [],.str [],.str [],.nils,.nils,.nils,iv8 0,iv 0,iv 0,iv 0,.nils,.nils])]) rfl (σ':=M22 (numF s1).2 [iv8 (ki u),iv g,iv (numF s1).1,.str [],.str [],.str [],.nils,.nils,.nils,iv8 0,iv 0,iv 0,iv 0,.nils,.nils]) rfl ?_));generalize hs2:(numF s1).2=s2 at l2;generalize ht2:(numF s1).1=t2;have l3:=(Qah s2).1;refine Zcv (s:=s2) (c:=1) rfl (Za rfl (Zh (v:=.junk) (rd:=[]) (up:=[(2,.box [iv8 (ki u),iv g,iv t2,.str (textF s2).1,.str [],.str [],.nils,.nils,.nils,iv8 0,iv 0,iv 0,iv 0,.nils,.nils])]) rfl (σ':=M22 (textF s2).2 [iv8 (ki u),iv g,iv t2,.str (textF s2).1,.str [],.str [],.nils,.nils,.nils,iv8 0,iv 0,iv 0,iv 0,.nils,.nils]) rfl ?_));generalize hs3:(textF s2).2=s3 at l3;generalize ht3:(textF s2).1=t3;have l4:=(Qah s3).1;refine YaN 3 (XB (Za rfl (Yj ?_)));refine Zcv (s:=s3) (c:=1) rfl (Za rfl (Za rfl (Zh (v:=.junk) (rd:=[]) (up:=[(2,.box [iv8 (ki u),iv g,iv t2,.str t3,.str (textF s3).1,.str [],.nils,.nils,.nils,iv8 0,iv 0,iv 0,iv 0,.nils,.nils])]) rfl (σ':=M22 (textF s3).2 [iv8 (ki u),iv g,iv t2,.str t3,.str (textF s3).1,.str [],.nils,.nils,.nils,iv8 0,iv 0,iv 0,iv 0,.nils,.nils]) rfl (Za rfl ?_))));generalize hs4:(textF s3).2=s4 at l4;generalize ht4:(textF s3).1=t4;have l5:=(Qah s4).1;refine XB (Za rfl (Yj ?_));refine Zcv (s:=s4) (c:=1) rfl (Za rfl (Za rfl (Zh (v:=.junk) (rd:=[]) (up:=[(2,.box [iv8 (ki u),iv g,iv t2,.str t3,.str t4,.str (textF s4).1,.nils,.nils,.nils,iv8 0,iv 0,iv 0,iv 0,.nils,.nils])]) rfl (σ':=M22 (textF s4).2 [iv8 (ki u),iv g,iv t2,.str t3,.str t4,.str (textF s4).1,.nils,.nils,.nils,iv8 0,iv 0,iv 0,iv 0,.nils,.nils]) rfl (Za rfl ?_))));generalize hs5:(textF s4).2=s5 at l5;generalize ht5:(textF s4).1=t5;have l6:=(Qah s5).2;have l7:=(Qah (listF s5).2).2;refine XB (Za rfl (Yh ?_));have e0:hget (M22 s5 [iv8 (ki u),iv g,iv t2,.str t3,.str t4,.str t5,.nils,.nils,.nils,iv8 0,iv 0,iv 0,iv 0,.nils,.nils]) 0=.box zDe:=rfl;have e2:hget (M22 s5 [iv8 (ki u),iv g,iv t2,.str t3,.str t4,.str t5,.nils,.nils,.nils,iv8 0,iv 0,iv 0,iv 0,.nils,.nils]) 2=.box [iv8 (ki u),iv g,iv t2,.str t3,.str t4,.str t5,.nils,.nils,.nils,iv8 0,iv 0,iv 0,iv 0,.nils,.nils]:=rfl;have e1:CR s5 1 (M22 s5 [iv8 (ki u),iv g,iv t2,.str t3,.str t4,.str t5,.nils,.nils,.nils,iv8 0,iv 0,iv 0,iv 0,.nils,.nils]):=rfl;generalize M22 s5 [iv8 (ki u),iv g,iv t2,.str t3,.str t4,.str t5,.nils,.nils,.nils,iv8 0,iv 0,iv 0,iv 0,.nils,.nils]=τ0 at e0 e1 e2;refine YaN 3 (XB (Za rfl (Yj ?_)));refine Zck e1 (by omega) λv6 τ1 k1 c1 o6 _=>?_;have f0:hget τ1 0=.box zDe:=by rw[k1.2 0 (by simp) (by rw[e0]; simp)]; exact e0
    have f2:=k1.2 2 (by simp) (by rw[e2]; simp);rw[e2] at f2;refine Za rfl (Za rfl (Zh (stv (row':=[iv8 (ki u),iv g,iv t2,.str t3,.str t4,.str t5,v6,.nils,.nils,iv8 0,iv 0,iv 0,iv 0,.nils,.nils]) f2 o6.cell rfl rfl) (Zd _ (Yb f2)) (Za rfl ?_)));have o6:=o6.stay (τ:=τ1.set 2 (.box [iv8 (ki u),iv g,iv t2,.str t3,.str t4,.str t5,v6,.nils,.nils,iv8 0,iv 0,iv 0,iv 0,.nils,.nils])) (λd ⟨y,e⟩=>Qb (by rintro rfl; rw[f2] at e; cases e));have g2:=Yd (x:=.box [iv8 (ki u),iv g,iv t2,.str t3,.str t4,.str t5,v6,.nils,.nils,iv8 0,iv 0,iv 0,iv 0,.nils,.nils]) f2 (by simp);have g0:=Qb (x:=.box [iv8 (ki u),iv g,iv t2,.str t3,.str t4,.str t5,v6,.nils,.nils,iv8 0,iv 0,iv 0,iv 0,.nils,.nils]) (σ:=τ1) (b:=0) (c:=2) (by simp);have g1:=Qb (x:=.box [iv8 (ki u),iv g,iv t2,.str t3,.str t4,.str t5,v6,.nils,.nils,iv8 0,iv 0,iv 0,iv 0,.nils,.nils]) (σ:=τ1) (b:=1) (c:=2) (by simp);rw[f0] at g0;have c1':hget τ1 1=_:=c1;rw[c1'] at g1;generalize τ1.set 2 (.box [iv8 (ki u),iv g,iv t2,.str t3,.str t4,.str t5,v6,.nils,.nils,iv8 0,iv 0,iv 0,iv 0,.nils,.nils])=τ2 at o6 g2 g0 g1;refine XB (Za rfl (Yj ?_));refine Zck (s:=(listF s5).2) (c:=1) (σ:=τ2) g1 (by omega) λv7 τ3 k3 c3 o7 _=>?_;have o6:=o6.stay (τ:=τ3) (λd ⟨y,e⟩=>k3.2 d (by rintro rfl; rw[g1] at e; cases e) (by rw[e]; simp));have f0:hget τ3 0=.box zDe:=by rw[k3.2 0 (by simp) (by rw[g0]; simp)]; exact g0
    have f2:=k3.2 2 (by simp) (by rw[g2]; simp);rw[g2] at f2;refine Za rfl (Za rfl (Zh (stv (row':=[iv8 (ki u),iv g,iv t2,.str t3,.str t4,.str t5,v6,v7,.nils,iv8 0,iv 0,iv 0,iv 0,.nils,.nils]) f2 o7.cell rfl rfl) (Zd _ (Yb f2)) (Za rfl ?_)));have o6:=o6.stay (τ:=τ3.set 2 (.box [iv8 (ki u),iv g,iv t2,.str t3,.str t4,.str t5,v6,v7,.nils,iv8 0,iv 0,iv 0,iv 0,.nils,.nils])) (λd ⟨y,e⟩=>Qb (by rintro rfl; rw[f2] at e; cases e));have o7:=o7.stay (τ:=τ3.set 2 (.box [iv8 (ki u),iv g,iv t2,.str t3,.str t4,.str t5,v6,v7,.nils,iv8 0,iv 0,iv 0,iv 0,.nils,.nils])) (λd ⟨y,e⟩=>Qb (by rintro rfl; rw[f2] at e; cases e));have g2:=Yd (x:=.box [iv8 (ki u),iv g,iv t2,.str t3,.str t4,.str t5,v6,v7,.nils,iv8 0,iv 0,iv 0,iv 0,.nils,.nils]) f2 (by simp);have g0:=Qb (x:=.box [iv8 (ki u),iv g,iv t2,.str t3,.str t4,.str t5,v6,v7,.nils,iv8 0,iv 0,iv 0,iv 0,.nils,.nils]) (σ:=τ3) (b:=0) (c:=2) (by simp);have g1:=Qb (x:=.box [iv8 (ki u),iv g,iv t2,.str t3,.str t4,.str t5,v6,v7,.nils,iv8 0,iv 0,iv 0,iv 0,.nils,.nils]) (σ:=τ3) (b:=1) (c:=2) (by simp);rw[f0] at g0;have c3':hget τ3 1=_:=c3;rw[c3'] at g1;generalize τ3.set 2 (.box [iv8 (ki u),iv g,iv t2,.str t3,.str t4,.str t5,v6,v7,.nils,iv8 0,iv 0,iv 0,iv 0,.nils,.nils])=τ4 at o6 o7 g2 g0 g1;refine XB (Za rfl (Yh ?_));refine Zck (s:=(listF (listF s5).2).2) (c:=1) (σ:=τ4) g1 (by omega) λv8 τ5 k5 c5 o8 _=>?_;have o6:=o6.stay (τ:=τ5) (λd ⟨y,e⟩=>k5.2 d (by rintro rfl; rw[g1] at e; cases e) (by rw[e]; simp));have o7:=o7.stay (τ:=τ5) (λd ⟨y,e⟩=>k5.2 d (by rintro rfl; rw[g1] at e; cases e) (by rw[e]; simp));have f0:hget τ5 0=.box zDe:=by rw[k5.2 0 (by simp) (by rw[g0]; simp)]; exact g0
    have f2:=k5.2 2 (by simp) (by rw[g2]; simp);rw[g2] at f2;refine Za rfl (Zh (stv (row':=[iv8 (ki u),iv g,iv t2,.str t3,.str t4,.str t5,v6,v7,v8,iv8 0,iv 0,iv 0,iv 0,.nils,.nils]) f2 o8.cell rfl rfl) (Zd _ (Yb f2)) ?_);have hst:∀d,(∃y,hget τ5 d=.rows 1 y)→hget (τ5.set 2 (.box [iv8 (ki u),iv g,iv t2,.str t3,.str t4,.str t5,v6,v7,v8,iv8 0,iv 0,iv 0,iv 0,.nils,.nils])) d=hget τ5 d:=λd ⟨y,e⟩=>Qb (by rintro rfl; rw[f2] at e; cases e);have hbeg:begF s1=((t2,t3,t4,t5,(listF s5).1,(listF (listF s5).2).1,(listF (listF (listF s5).2).2).1),(listF (listF (listF s5).2).2).2):=by
     simp only[begF,seqF,hs2,ht2,hs3,ht3,hs4,ht4,hs5,ht5]
    rw[hbeg] at hrb;have g1:hget (τ5.set 2 (.box [iv8 (ki u),iv g,iv t2,.str t3,.str t4,.str t5,v6,v7,v8,iv8 0,iv 0,iv 0,iv 0,.nils,.nils])) 1=.box [byV (listF (listF (listF s5).2).2).2.1,.bool (listF (listF (listF s5).2).2).2.2]:=(Qb (by simp)).trans c5;have g0:hget (τ5.set 2 (.box [iv8 (ki u),iv g,iv t2,.str t3,.str t4,.str t5,v6,v7,v8,iv8 0,iv 0,iv 0,iv 0,.nils,.nils])) 0=.box zDe:=(Qb (by simp)).trans f0;have g2:=Yd (x:=.box [iv8 (ki u),iv g,iv t2,.str t3,.str t4,.str t5,v6,v7,v8,iv8 0,iv 0,iv 0,iv 0,.nils,.nils]) f2 (by simp);have o6:=o6.stay hst;have o7:=o7.stay hst;have o8:=o8.stay hst;generalize τ5.set 2 (.box [iv8 (ki u),iv g,iv t2,.str t3,.str t4,.str t5,v6,v7,v8,iv8 0,iv 0,iv 0,iv 0,.nils,.nils])=τ6 at g0 g1 g2 o6 o7 o8;generalize (listF (listF (listF s5).2).2).2=sf at g1 hrb;generalize (listF (listF (listF s5).2).2).1=e8 at o8 hrb;generalize (listF (listF s5).2).1=e7 at o7 hrb;generalize (listF s5).1=e6 at o6 hrb;exact hk' _ _ ⟨rfl,byV sf.1,sf.1.length,sf.2,_,begD (ki u) g (t2,t3,t4,t5,e6,e7,e8),g0,g1,λσ=>Zj ..,g2,⟨v6,v7,v8,.nils,.nils,rfl,o6,o7,o8,.inl ⟨rfl,rfl⟩,.inl ⟨rfl,rfl⟩⟩,hrb⟩
   ·have hk1:¬ki u=1:=by simpa using h
    refine Za (QZ ..) (Xg (λh=>?_) (λh=>?_))
    ·have hk2:ki u=2:=by simpa using h
     refine Za rfl (Za rfl (Za (v:=byV s1.1) rfl ?_));refine Zg hP rfl k44.ok rfl ?_;show k44.u (VV noZ) [byV s1.1] _ _;rw[H1.e]; unfold k44; dsimp only;refine Zh (v:=.bptr 3 0) (rd:=[]) (up:=[(3,.box zC)]) rfl (σ':=M22 s1 [iv8 (ki u),iv g,iv 0,.str [],.str [],.str [],.nils,.nils,.nils,iv8 0,iv 0,iv 0,iv 0,.nils,.nils]++[.box zC]) rfl ?_;have e0:hget (M22 s1 [iv8 (ki u),iv g,iv 0,.str [],.str [],.str [],.nils,.nils,.nils,iv8 0,iv 0,iv 0,iv 0,.nils,.nils]++[.box zC]) 0=.box zDe:=rfl;have e1:hget (M22 s1 [iv8 (ki u),iv g,iv 0,.str [],.str [],.str [],.nils,.nils,.nils,iv8 0,iv 0,iv 0,iv 0,.nils,.nils]++[.box zC]) 1=.box [byV s1.1,.bool s1.2]:=rfl;have e2:hget (M22 s1 [iv8 (ki u),iv g,iv 0,.str [],.str [],.str [],.nils,.nils,.nils,iv8 0,iv 0,iv 0,iv 0,.nils,.nils]++[.box zC]) 2=.box [iv8 (ki u),iv g,iv 0,.str [],.str [],.str [],.nils,.nils,.nils,iv8 0,iv 0,iv 0,iv 0,.nils,.nils]:=rfl;have e3:hget (M22 s1 [iv8 (ki u),iv g,iv 0,.str [],.str [],.str [],.nils,.nils,.nils,iv8 0,iv 0,iv 0,iv 0,.nils,.nils]++[.box zC]) 3=.box zC:=rfl;generalize M22 s1 [iv8 (ki u),iv g,iv 0,.str [],.str [],.str [],.nils,.nils,.nils,iv8 0,iv 0,iv 0,iv 0,.nils,.nils]++[.box zC]=τ0 at e0 e1 e2 e3;refine Yc1 (by omega) (λx v w τ hx hks hol hop=>?_) (λhno q τ hks=>?_)
     ·have f0:=hks.2 0 (by rw[e0]; simp);have f1:=hks.2 1 (by rw[e1]; simp);have f2:=hks.2 2 (by rw[e2]; simp);have f3:=hks.2 3 (by rw[e3]; simp);rw[e0] at f0; rw[e1] at f1; rw[e2] at f2; rw[e3] at f3;have hcs:cellsOf (.agg [iv8 x.op,iv x.side,iv x.place,iv x.target,v,w])=some [iv8 x.op,iv x.side,iv x.place,iv x.target,v,w]:=by
       rcases hol with ⟨rfl,_⟩|⟨d,ex,rfl,_⟩<;>rcases hop with ⟨rfl,_⟩|⟨d',ex',rfl,_⟩<;>rfl
      have hov:cellV true 6 (.bptr 3 0) (τ.set 3 (.box [iv8 x.op,iv x.side,iv x.place,iv x.target,v,w]))=some (.agg [iv8 x.op,iv x.side,iv x.place,iv x.target,v,w]):=by
       simp only[cellV,Yd (x:=.box [iv8 x.op,iv x.side,iv x.place,iv x.target,v,w]) f3 (by simp)]; rfl
      refine Za rfl (Za rfl (Za rfl (Zh (stv (cs:=[iv8 x.op,iv x.side,iv x.place,iv x.target,v,w]) (row':=[iv8 x.op,iv x.side,iv x.place,iv x.target,v,w]) f3 hcs rfl rfl) (Zd _ (Yb f3)) (Qaz hov ?_))));have hol:=hol.stay (τ:=τ.set 3 (.box [iv8 x.op,iv x.side,iv x.place,iv x.target,v,w])) (λd ⟨y,e⟩=>Qb (by rintro rfl; rw[f3] at e; cases e));have hop:=hop.stay (τ:=τ.set 3 (.box [iv8 x.op,iv x.side,iv x.place,iv x.target,v,w])) (λd ⟨y,e⟩=>Qb (by rintro rfl; rw[f3] at e; cases e));have g0:hget (τ.set 3 (.box [iv8 x.op,iv x.side,iv x.place,iv x.target,v,w])) 0=_:=(Qb (by simp)).trans f0;have g1:hget (τ.set 3 (.box [iv8 x.op,iv x.side,iv x.place,iv x.target,v,w])) 1=_:=(Qb (by simp)).trans f1;have g2:hget (τ.set 3 (.box [iv8 x.op,iv x.side,iv x.place,iv x.target,v,w])) 2=_:=(Qb (by simp)).trans f2;generalize τ.set 3 (.box [iv8 x.op,iv x.side,iv x.place,iv x.target,v,w])=τ1 at hol hop g0 g1 g2;refine Za rfl (Za rfl (Za rfl (Za rfl (Zh (stv (cs:=[iv8 x.op,iv x.side,iv x.place,iv x.target,v,w]) (row':=[iv8 (ki u),iv g,iv 0,.str [],.str [],.str [],.nils,.nils,.nils,iv8 x.op,iv x.side,iv x.place,iv x.target,v,w]) g2 hcs rfl rfl) (Zd _ (Yb g2)) ?_))));have hol:=hol.stay (τ:=τ1.set 2 (.box [iv8 (ki u),iv g,iv 0,.str [],.str [],.str [],.nils,.nils,.nils,iv8 x.op,iv x.side,iv x.place,iv x.target,v,w])) (λd ⟨y,e⟩=>Qb (by rintro rfl; rw[g2] at e; cases e));have hop:=hop.stay (τ:=τ1.set 2 (.box [iv8 (ki u),iv g,iv 0,.str [],.str [],.str [],.nils,.nils,.nils,iv8 x.op,iv x.side,iv x.place,iv x.target,v,w])) (λd ⟨y,e⟩=>Qb (by rintro rfl; rw[g2] at e; cases e));have h2:=Yd (x:=.box [iv8 (ki u),iv g,iv 0,.str [],.str [],.str [],.nils,.nils,.nils,iv8 x.op,iv x.side,iv x.place,iv x.target,v,w]) g2 (by simp);have h0:hget (τ1.set 2 (.box [iv8 (ki u),iv g,iv 0,.str [],.str [],.str [],.nils,.nils,.nils,iv8 x.op,iv x.side,iv x.place,iv x.target,v,w])) 0=_:=(Qb (by simp)).trans g0;have h1:hget (τ1.set 2 (.box [iv8 (ki u),iv g,iv 0,.str [],.str [],.str [],.nils,.nils,.nils,iv8 x.op,iv x.side,iv x.place,iv x.target,v,w])) 1=_:=(Qb (by simp)).trans g1;generalize τ1.set 2 (.box [iv8 (ki u),iv g,iv 0,.str [],.str [],.str [],.nils,.nils,.nils,iv8 x.op,iv x.side,iv x.place,iv x.target,v,w])=τ2 at hol hop h0 h1 h2;have hR:=hra hk2 x hx;have fin:∀B,s1.2=B→k' [] ((τ2.set 1 (.box [byV s1.1,.bool B])).set 1 (.box [.nils,.bool B])):=λB hB=>by
       rw[List.set_set];refine hk' _ _ ⟨rfl,.nils,0,B,_,actD (ki u) g x,(Qb (by simp)).trans h0,Yd h1 (by simp),λσ=>rfl,(Qb (by simp)).trans h2,⟨.nils,.nils,.nils,v,w,rfl,.inl ⟨rfl,rfl⟩,.inl ⟨rfl,rfl⟩,.inl ⟨rfl,rfl⟩,hol.stay ?_,hop.stay ?_⟩,by rw[hR,hB]⟩
       ·exact λd ⟨y,e⟩=>Qb (by rintro rfl; rw[h1] at e; cases e)
       ·exact λd ⟨y,e⟩=>Qb (by rintro rfl; rw[h1] at e; cases e)
      have hb2:∀B,hget (τ2.set 1 (.box [byV s1.1,.bool B])) 1=.box [byV s1.1,.bool B]:=λB=>Yd h1 (by simp);have hl1:=Yb h1;refine Za rfl (Za rfl (Za (v:=.bool s1.2) (Zm h1 rfl) ?_));cases hs:s1.2
      ·refine aw (Zh (stv (row':=[byV s1.1,.bool false]) h1 rfl rfl rfl) (Zd _ hl1) ?_);exact Za rfl (Za rfl (Zh (stv (row':=[.nils,.bool false]) (hb2 false) rfl rfl rfl) (Zd _ (by simpa using hl1)) (fin false hs)))
      ·refine aw (Zh (stv (row':=[byV s1.1,.bool true]) h1 rfl rfl rfl) (Zd _ hl1) ?_);exact Za rfl (Za rfl (Zh (stv (row':=[.nils,.bool true]) (hb2 true) rfl rfl rfl) (Zd _ (by simpa using hl1)) (fin true hs)))
     ·have f0:=hks.2 0 (by rw[e0]; simp);have f1:=hks.2 1 (by rw[e1]; simp);have f2:=hks.2 2 (by rw[e2]; simp);have f3:=hks.2 3 (by rw[e3]; simp);rw[e0] at f0; rw[e1] at f1; rw[e2] at f2; rw[e3] at f3;have hov:cellV true 6 (.bptr 3 0) (τ.set 3 (.box zC))=some (.agg zC):=by
       simp only[cellV,Yd (x:=.box zC) f3 (by simp)]; rfl
      refine Za rfl (Za rfl (Za rfl (Zh (stv (row':=zC) f3 rfl rfl rfl) (Zd _ (Yb f3)) (Qaz hov ?_))));have g0:hget (τ.set 3 (.box zC)) 0=_:=(Qb (by simp)).trans f0;have g1:hget (τ.set 3 (.box zC)) 1=_:=(Qb (by simp)).trans f1;have g2:hget (τ.set 3 (.box zC)) 2=_:=(Qb (by simp)).trans f2;generalize τ.set 3 (.box zC)=τ1 at g0 g1 g2;refine Za rfl (Za rfl (Za rfl (Za rfl (Zh (stv (row':=[iv8 (ki u),iv g,iv 0,.str [],.str [],.str [],.nils,.nils,.nils,iv8 0,iv 0,iv 0,iv 0,.nils,.nils]) g2 rfl rfl rfl) (Zd _ (Yb g2)) ?_))));have h2:=Yd (x:=.box [iv8 (ki u),iv g,iv 0,.str [],.str [],.str [],.nils,.nils,.nils,iv8 0,iv 0,iv 0,iv 0,.nils,.nils]) g2 (by simp);have h0:hget (τ1.set 2 (.box [iv8 (ki u),iv g,iv 0,.str [],.str [],.str [],.nils,.nils,.nils,iv8 0,iv 0,iv 0,iv 0,.nils,.nils])) 0=_:=(Qb (by simp)).trans g0;have h1:hget (τ1.set 2 (.box [iv8 (ki u),iv g,iv 0,.str [],.str [],.str [],.nils,.nils,.nils,iv8 0,iv 0,iv 0,iv 0,.nils,.nils])) 1=_:=(Qb (by simp)).trans g1;generalize τ1.set 2 (.box [iv8 (ki u),iv g,iv 0,.str [],.str [],.str [],.nils,.nils,.nils,iv8 0,iv 0,iv 0,iv 0,.nils,.nils])=τ2 at h0 h1 h2;have hR:=hrn hk2 hno 0 (actD (ki u) g zAc);have fin:k' [] ((τ2.set 1 (.box [byV s1.1,.bool true])).set 1 (.box [.nils,.bool true])):=by
       rw[List.set_set];exact hk' _ _ ⟨rfl,.nils,0,true,_,actD (ki u) g zAc,(Qb (by simp)).trans h0,Yd h1 (by simp),λσ=>rfl,(Qb (by simp)).trans h2,⟨.nils,.nils,.nils,.nils,.nils,rfl,.inl ⟨rfl,rfl⟩,.inl ⟨rfl,rfl⟩,.inl ⟨rfl,rfl⟩,.inl ⟨rfl,rfl⟩,.inl ⟨rfl,rfl⟩⟩,hR⟩
      have hb2:hget (τ2.set 1 (.box [byV s1.1,.bool true])) 1=.box [byV s1.1,.bool true]:=Yd h1 (by simp);have hl1:=Yb h1;refine Za rfl (Za rfl (Za (v:=.bool s1.2) (Zm h1 rfl) ?_));cases hs:s1.2
      ·refine aw (Zh (stv (row':=[byV s1.1,.bool true]) h1 rfl rfl rfl) (Zd _ hl1) ?_);exact Za rfl (Za rfl (Zh (stv (row':=[.nils,.bool true]) hb2 rfl rfl rfl) (Zd _ (by simpa using hl1)) fin))
      ·refine aw (Zh (stv (row':=[byV s1.1,.bool true]) h1 rfl rfl rfl) (Zd _ hl1) ?_);exact Za rfl (Za rfl (Zh (stv (row':=[.nils,.bool true]) hb2 rfl rfl rfl) (Zd _ (by simpa using hl1)) fin))
    ·have hk2:¬ki u=2:=by simpa using h
     exact hk' _ _ ⟨rfl,byV s1.1,s1.1.length,s1.2,_,actD (ki u) g zAc,rfl,rfl,λσ=>Zj ..,rfl,⟨.nils,.nils,.nils,.nils,.nils,rfl,.inl ⟨rfl,rfl⟩,.inl ⟨rfl,rfl⟩,.inl ⟨rfl,rfl⟩,.inl ⟨rfl,rfl⟩,.inl ⟨rfl,rfl⟩⟩,hro hk1 hk2 _ _ _ rfl⟩
def resA(o:Option (List De)):AVal:=match o with
 |some l=>if oneB l then .tup [deV l,iv 0] else .tup [.nils,iv 260]
 |none=>.tup [.nils,iv 260]
theorem c9(b:List UInt8)(hlen:b.length≤1000000):PC 9 [byV b] (resA (archF b)):=by
 refine YJ hP k9.ok rfl ?_;rw[H1.e]; unfold k9; dsimp only; simp only[Xd,Xw,Yo];refine ZC (ι:=List UInt8×List De) (λi vs σ=>∃v,vs=[byV i.1,v]∧DL i.2 v σ∧archF b=(archF i.1).map (i.2 ++ ·)∧i.2.length+i.1.length≤b.length) (λi=>i.1.length) (b,[]) ⟨.nils,rfl,.inl ⟨rfl,rfl⟩,by cases archF b<;>rfl,by simp⟩ ?_;rintro⟨rb,l⟩ vs σ again ⟨v,rfl,hd,hA,hl⟩ hag;simp only at hd hA hl;refine Za (Zj ..) (Za (Xad ..) (Xg (λh=>?_) (λh=>?_)))
 ·have h:0<rb.length:=by simpa using h
  have hne:rb≠[]:=by rintro rfl; simp at h
  have hbad:(rb.length<4∨rb.length<4+d4 (rb.take 4))→resA (archF b)=.tup [.nils,iv 260]:=λq=>by rw[hA,Yb9 hne q]; rfl
  refine Za (Zj ..) (Za (QI ..) (Xg (λh4=>?_) (λh4=>?_)))
  ·rw[hbad (.inl (by simp at h4; omega))];exact⟨[],Bor.ro rfl⟩
  have h4:4≤rb.length:=by simp at h4; omega
  obtain⟨x0,x1,x2,x3,rest,rfl⟩:∃x0 x1 x2 x3 rest,rb=x0::x1::x2::x3::rest:=by
   match rb,h4 with
   |x0::x1::x2::x3::rest,_=>exact⟨x0,x1,x2,x3,rest,rfl⟩
  have hstep:=XbR (b:=x0::x1::x2::x3::rest) hne;have e4:(x0::x1::x2::x3::rest).take 4=[x0,x1,x2,x3]:=rfl;have e5:∀m,(x0::x1::x2::x3::rest).drop (4+m)=rest.drop m:=λm=>by rw[←List.drop_drop]; rfl
  have e6:(x0::x1::x2::x3::rest).drop 4=rest:=rfl;have e7:(x0::x1::x2::x3::rest).length=4+rest.length:=by simp; omega
  rw[e4,e5,e6,e7] at hstep;rw[e4,e7] at hbad;refine Za (v:=.rptr (byC x0) 0) rfl (Za (v:=.int .u8 (x0.toNat:Int)) (QJ rfl) (Za (Zs ..) (Za rfl ?_)));refine Za (v:=.rptr (byC x1) 0) rfl (Za (v:=.int .u8 (x1.toNat:Int)) (QJ rfl) (Za (Zs ..) (Za rfl (Za rfl ?_))));refine Za (v:=.rptr (byC x2) 0) rfl (Za (v:=.int .u8 (x2.toNat:Int)) (QJ rfl) (Za (Zs ..) (Za rfl (Za rfl ?_))));refine Za (v:=.rptr (byC x3) 0) rfl (Za (v:=.int .u8 (x3.toNat:Int)) (QJ rfl) (Za (Zs ..) (Za (v:=iv (d4 [x0,x1,x2,x3]:Nat)) (rd:=[]) ?_ ?_)))
  ·show SRes.ok (.int .i64 _) [] []=_;exact congrArg (λz=>SRes.ok (.int .i64 z) [] []) (or4 x0 x1 x2 x3)
  refine Za (QbS false false (x0::x1::x2::x3::rest) 4 (by simp)) ?_;rw[e6];generalize d4 [x0,x1,x2,x3]=m at hstep hbad;refine Za (Zj ..) (Za (Xad ..) (Xg (λhm=>?_) (λhm=>?_)))
  ·rw[hbad (.inr (by simp at hm; omega))];exact⟨[],Bor.ro rfl⟩
  have hm:m≤rest.length:=by simp at hm; omega
  have hstep:=hstep (by omega);obtain⟨x,ex,hro,hpc⟩:=sl5 (σ:=σ) false false rest m hm;have hc:=hpc (c22 (rest.take m) (by simp at hl ⊢; omega));refine Za ex (QbC hc rfl g22.ok.plain (by simp[roL,hro]) ?_);cases hO:readO (rest.take m) with
  |none=>
   rw[hO] at hstep;refine Za rfl (Za rfl (Zh (YD σ _) (Xj _ _) (Zh (stv (cs:=zDe) (row':=zDe) (Xb _ _) rfl rfl rfl) (Zd _ (by simp)) (Za rfl (Yj ?_)))));rw[hA,hstep];exact⟨[],Bor.ro rfl⟩
  |some y=>
   rw[hO] at hstep;refine Za rfl (Za rfl (Zh (YD σ _) (Xj _ _) (Zh (stv (cs:=deC y) (row':=deC y) (Xb _ _) rfl rfl rfl) (Zd _ (by simp)) (Za rfl (Yh ?_)))));have hσ:∀z,(σ++[z]).set σ.length (.box (deC y))=σ++[.box (deC y)]:=λz=>by
    rw[List.set_append_right _ _ (Nat.le_refl _)]; simp
   rw[hσ];have hd1:=hd.more [ABlk.box (deC y)];have hn:=Xb σ (.box (deC y));generalize hsl:σ.length=s at hn;generalize σ++[ABlk.box (deC y)]=σ1 at hd1 hn;refine Qf (v:=.agg (deC y)) (Zm hn rfl) rfl (Qf (v:=.sl σ1.length 0 1 true) (rd:=[]) (up:=[(σ1.length,.rows 15 [deC y])]) rfl (Xj _ _) ?_);obtain⟨v',up,σ2,e1,e2,e3,g1,-,g3⟩:=(hd1.more [.rows 15 [deC y]]).upd (m:=[y]) (y:=.sl σ1.length 0 1 true) (rd:=[σ1.length]) (Yae (Xb _ _) rfl) (by simp at hl ⊢; omega);refine Qf e1 e2 (Qf (QbS false false rest m hm) rfl (XA ?_ ?_))
   ·rw[g3];cases v<;>simp[upsOf,Xe,Yi,Xh,Zp,apart2,disj,List.range,List.range.loop]
   refine hag (rest.drop m,l++[y]) _ _ (by show (rest.drop m).length<_; rw[e7,List.length_drop]; omega) ⟨v',rfl,g1,?_,by simp at hl ⊢; omega⟩;rw[hA,hstep];simp only[Option.bind_some,Option.map_map]
   congr 1
   funext q
   simp
 ·have h:rb=[]:=by simpa using h
  subst h;obtain⟨rd,hb⟩:=hd.bor;have hR:resA (archF b)=if oneB l then .tup [deV l,iv 0] else .tup [.nils,iv 260]:=by rw[hA,Xb9]; simp[resA]
  rw[hR];refine XbC (c17 l (by omega)) rfl g17.ok.plain (.cons hb .nil) rfl (Za (XaG ..) ?_);cases ho:oneB l
  ·exact Yj ⟨[],Bor.ro rfl⟩
  ·exact Yh ⟨rd,Bor.tup (.cons hb (BorL.ro rfl))⟩
set_option maxRecDepth 1000000
def zB:AVal:=(.agg [(.rsl true false 12 [[(.str [73,109,112]),(.bool true),(.int .i64 1),(.int .i64 2),(.int .i64 3),(.int .i64 1),(.int .i64 0),(.int .i64 0),.nils,.nils,.nils,(.int .i64 0)],[(.str [69,108,102]),(.bool true),(.int .i64 2),(.int .i64 1),(.int .i64 1),(.int .i64 0),(.int .i64 1),(.int .i64 0),.nils,.nils,.nils,(.int .i64 0)],[(.str [66,111,108,116]),(.bool false),(.int .i64 1),(.int .i64 0),(.int .i64 0),(.int .i64 0),(.int .i64 0),(.int .i64 0),(.rsl true false 14 [[(.int .i8 0),(.int .i8 2),(.int .i8 0),(.int .i64 3),(.int .i8 0),.nils,(.str []),(.int .i8 0),(.int .i8 0),(.str []),.nils,.nils,.nils,.nils]]),.nils,.nils,(.int .i64 0)]]),(.rsl true false 7 [[(.str [115,116,100]),(.int .i64 0),(.int .i64 60),(.int .i64 60),.nils,.nils,(.int .i64 0)]])])
def zD0:AVal:=.rsl true false 1 [[.int .i64 0],[.int .i64 1],[.int .i64 2],[.int .i64 0],[.int .i64 1]]
def zD1:AVal:=.rsl true false 1 [[.int .i64 2],[.int .i64 1],[.int .i64 0],[.int .i64 0],[.int .i64 2]]
def zDr:AVal:=.rsl true false 1 [[.int .i64 1],[.int .i64 2]]
def zS:AVal:=(.agg [(.int .i64 1),(.int .i64 0),(.int .i8 0),(.bool false),(.int .i8 0),.nils,(.int .i64 1),(.int .i64 20),(.int .i64 1),(.int .i64 1),(.rsl true true 1 []),(.rsl false false 1 [[(.int .i64 0)],[(.int .i64 0)],[(.int .i64 1)],[(.int .i64 2)],[(.int .i64 1)]]),.nils,.nils,(.rsl false false 1 [[(.int .i64 0)],[(.int .i64 0)],[(.int .i64 1)],[(.int .i64 2)],[(.int .i64 1)]]),(.int .i64 20),(.int .i64 0),(.int .i64 0),(.rsl false false 1 [[(.int .i64 1)]]),(.rsl false false 1 [[(.int .i64 0)],[(.int .i64 2)],[(.int .i64 2)],[(.int .i64 0)]]),.nils,.nils,(.rsl false false 1 [[(.int .i64 0)],[(.int .i64 2)],[(.int .i64 2)],[(.int .i64 0)]])])
def zE:AVal:=(.rsl false false 7 [[(.int .i8 0),(.int .i64 0),(.int .i64 0),(.int .i64 0),(.int .i64 0),(.int .i64 1),.nils],[(.int .i8 3),(.int .i64 0),(.int .i64 1),(.int .i64 0),(.int .i64 0),(.int .i64 0),.nils]])
def zA:AVal:=.agg [.int .i8 4,.int .i64 0,.int .i64 0,.int .i64 (-1),.nils,.nils]
def zS2:AVal:=(.agg [(.int .i64 1),(.int .i64 0),(.int .i8 2),(.bool false),(.int .i8 2),.nils,(.int .i64 1),(.int .i64 20),(.int .i64 1),(.int .i64 1),(.rsl true true 1 []),(.rsl false false 1 [[(.int .i64 0)],[(.int .i64 0)],[(.int .i64 1)],[(.int .i64 2)],[(.int .i64 1)]]),.nils,.nils,.nils,(.int .i64 20),(.int .i64 0),(.int .i64 0),(.rsl false false 1 [[(.int .i64 1)]]),(.rsl false false 1 [[(.int .i64 0)],[(.int .i64 2)],[(.int .i64 2)],[(.int .i64 0)]]),.nils,.nils,.nils])
def zE2:AVal:=(.rsl false false 7 [[(.int .i8 15),(.int .i64 0),(.int .i64 0),(.int .i64 0),(.int .i64 0),(.int .i64 2),.nils]])
def zDv:AVal:=(.agg [(.int .i8 1),(.int .i64 0),(.int .i64 0),(.str [115,116,100]),(.str [97,110,110]),(.str [98,111,98]),(.rsl true false 1 [[(.int .i64 0)],[(.int .i64 1)],[(.int .i64 2)],[(.int .i64 0)],[(.int .i64 1)]]),(.rsl true false 1 [[(.int .i64 2)],[(.int .i64 1)],[(.int .i64 0)],[(.int .i64 0)],[(.int .i64 2)]]),(.rsl true false 1 [[(.int .i64 1)],[(.int .i64 2)]]),(.int .i8 0),(.int .i64 0),(.int .i64 0),(.int .i64 0),.nils,.nils])
noncomputable def zR:List RBD:=[r416.d]
theorem QbB:RBsOk prog GL0 zR:=⟨XcC hP r416.h,trivial⟩
def z0:KnF:=λ_ _=>none
theorem XcP:KfOk prog GL0 z0:=λ_ _ _ h=>by cases h
theorem z78:PC 78 [zB] (.agg [.int .i64 0,.int .i64 0]):=ZZ hP (hs:=[]) trivial QbB hT XcP (kb:=λ_=>false) (he:=λ_=>false) (much:=1000000000) 60 (by kernel_rfl)
theorem z14:PC 14 [] zB:=ZZ hP (hs:=[]) trivial QbB hT XcP (kb:=λ_=>false) (he:=λ_=>false) (much:=1000000000) 60 (by kernel_rfl)
theorem z15:PC 15 [] zDv:=ZZ hP (hs:=[]) trivial QbB hT XcP (kb:=λ_=>false) (he:=λ_=>false) (much:=1000000000) 60 (by kernel_rfl)
def z1:KnF:=λf xs=>match Nat.beq f 78&&eqL xs [zB] with
 |true=>some (.agg [.int .i64 0,.int .i64 0])
 |false=>none
theorem Xcw{f n:Nat}{xs ys:List AVal}(h:(Nat.beq f n&&eqL xs ys)=true):f=n∧xs=ys:=by
 simp only[Bool.and_eq_true] at h;exact⟨YNB h.1,QbG h.2⟩
theorem Qc1:KfOk prog GL0 z1:=by
 intro f xs v h;unfold z1 at h;split at h
 ·rename_i q; obtain⟨rfl,rfl⟩:=Xcw q; cases h; exact⟨g78.ok.plain,rfl,rfl,z78⟩
 ·cases h
def zb:FuncId→Bool:=λf=>Nat.beq f 78
theorem z79:PC 79 [zB,.agg [zD0,zD1],zDr] (.tup [zS,zE,.int .i64 0]):=ZZ hP (hs:=[]) trivial QbB hT Qc1 (kb:=zb) (he:=λ_=>false) (much:=1000000000) 60 (by kernel_rfl)
theorem z80:PC 80 [zB,zS,zA] (.tup [zS2,zE2,.int .i64 0]):=ZZ hP (hs:=[]) trivial QbB hT Qc1 (kb:=zb) (he:=λ_=>false) (much:=1000000000) 60 (by kernel_rfl)
def z2:KnF:=λf xs=>match Nat.beq f 14&&eqL xs [] with
 |true=>some zB
 |false=>match Nat.beq f 15&&eqL xs [] with
  |true=>some zDv
  |false=>match Nat.beq f 79&&eqL xs [zB,.agg [zD0,zD1],zDr] with
   |true=>some (.tup [zS,zE,.int .i64 0])
   |false=>match Nat.beq f 80&&eqL xs [zB,zS,zA] with
    |true=>some (.tup [zS2,zE2,.int .i64 0])
    |false=>z1 f xs
theorem z2_ok:KfOk prog GL0 z2:=by
 intro f xs v h;unfold z2 at h;split at h
 ·rename_i q; obtain⟨rfl,rfl⟩:=Xcw q; cases h; exact⟨g14.ok.plain,rfl,rfl,z14⟩
 split at h
 ·rename_i q; obtain⟨rfl,rfl⟩:=Xcw q; cases h; exact⟨g15.ok.plain,rfl,rfl,z15⟩
 split at h
 ·rename_i q; obtain⟨rfl,rfl⟩:=Xcw q; cases h; exact⟨g79.ok.plain,rfl,rfl,z79⟩
 split at h
 ·rename_i q; obtain⟨rfl,rfl⟩:=Xcw q; cases h; exact⟨g80.ok.plain,rfl,rfl,z80⟩
 exact Qc1 _ _ _ h
theorem p6:PC 6 [] (.bool true):=ZZ hP (hs:=[]) trivial QbB hT z2_ok (kb:=zb) (he:=λ_=>false) (much:=1000000000) 60 (by kernel_rfl)
theorem z12:PC 12 [.agg [.nils,.nils]] (.bool false):=ZZ hP (hs:=[]) trivial QbB hT XcP (kb:=λ_=>false) (he:=λ_=>false) (much:=1000000000) 60 (by kernel_rfl)
def deN(x:De):Nat:=x.d0.length+x.d1.length+x.dr.length+x.ac.ids.length+x.ac.prs.length
def Xbg(l:List De):Bool:=decide (40<l.length∨600<((l.take 41).map deN).sum)
theorem c5(l:List De)(hl:l.length≤1000000000)(hn:∀x∈l,deN x≤1000000000):PC 5 [.agg [.nils,.nils],deV l] (.bool (Xbg l)):=by
 refine Qy hP k5.ok rfl rfl ?_;rw[H2.e]; unfold k5; dsimp only; simp only[Xd];refine Zh (v:=.bptr 0 0) (rd:=[]) (up:=[(0,.box [.nils,.nils])]) rfl rfl ?_;refine ZC (ι:=Nat) (λi vs σ=>∃s:Nat,vs=[iv i,iv s]∧i≤l.length∧i≤41∧s=((l.take i).map deN).sum∧s≤1000000000*i∧σ=[.box [.nils,.nils]]) (λi=>l.length-i) 0 ⟨0,rfl,by omega,by omega,rfl,by omega,rfl⟩ ?_;rintro i vs σ again ⟨s,rfl,hi,hi2,hs,hsl,rfl⟩ hag;refine Za (Zj ..) (Za (QI ..) ?_);refine Zdb (λ_=>rfl) (λ_=>XbU ..) ?_;refine Xg (λh=>?_) (λh=>?_)
 ·have h:i<l.length∧i≤40:=by simp at h; omega
  have hx:=hn l[i] (List.getElem_mem h.1);have hst:((l.take (i+1)).map deN).sum=s+deN l[i]:=by rw[List.take_succ_eq_append_getElem h.1,List.map_append,List.sum_append,←hs]; simp
  have hix:=λσ=>Xbr (σ:=σ) deC false false 15 l .i64 i h.1;generalize l[i]=x at hx hst hix;unfold deN at hx;refine Za (hix _) (Za rfl (Za rfl (Za (v:=rowV x.d0) (QJ rfl) (Za (Zj ..) (Za (XL ..) ?_)))));rw[ZJ (by omega) (by omega)];refine Za (hix _) (Za rfl (Za rfl (Za (v:=rowV x.d1) (QJ rfl) (Za (Zj ..) (Za (XL ..) ?_)))));rw[ZJ (by omega) (by omega)];refine Za (hix _) (Za rfl (Za (v:=rowV x.dr) (QJ rfl) (Za (Zj ..) (Za (XL ..) ?_))));rw[ZJ (by omega) (by omega)];refine Za (hix _) (Za rfl (Za rfl (Za (v:=rowV x.ac.ids) (QJ rfl) (Za (Zj ..) (Za (XL ..) ?_)))));rw[ZJ (by omega) (by omega)];refine Za (hix _) (Za rfl (Za rfl (Za (v:=prV x.ac.prs) (QJ rfl) (Za (Zj ..) (Za (XL ..) ?_)))));rw[ZJ (by omega) (by omega)];refine Za (XL ..) ?_;rw[Xl (n:=i) (by omega)];refine hag (i+1) _ _ (by omega) ⟨s+deN x,?_,by omega,by omega,hst.symm,by unfold deN; omega,rfl⟩;unfold deN
  congr 2
  exact congrArg iv (by omega)
 ·have h:i=l.length∨i=41:=by simp at h; omega
  have ht:s=((l.take 41).map deN).sum:=by
   rcases h with h|h
   ·rw[hs,h,List.take_length,List.take_of_length_le (by omega)]
   ·rw[hs,h]
  refine Za (Zj ..) (Za (Xad ..) ?_);refine ZcS (λ_=>rfl) (λ_=>Xad ..) ?_;have hR:Xbg l=(decide ((40:Int)<(l.length:Int))||decide ((600:Int)<(s:Int))):=by
   rw[Bool.eq_iff_iff]; simp only[Xbg,YDE,Bool.or_eq_true,←ht]; omega
  rw[←hR];cases hg:Xbg l
  ·refine aw (W_q z12 g12.ok (Za rfl ?_));rfl
  ·refine aw ?_;rfl
theorem Xa1(a:Ac):(actQ a).length=48+8*a.ids.length+16*a.prs.length:=by
 simp only[actQ,listQ,List.length_append,Zl,Q9 Zl,Q9 Xby]; omega
theorem YcO(s:List UInt8):(strQ s).length=8+s.length:=by simp[strQ,Zl]
theorem Qcj(l:List Int):(listQ n8 l).length=8+8*l.length:=by
 simp only[listQ,List.length_append,Zl,Q9 Zl]; omega
theorem YaD(x:De):(recQ x).length=13+(if x.kind=2 then 48+8*x.ac.ids.length+16*x.ac.prs.length else 56+x.fmt.length+x.n0.length+x.n1.length+8*x.d0.length+8*x.d1.length+8*x.dr.length):=by
 rw[recQ,List.length_append,show (n4 (deQ x).length).length=4 from rfl,deQ,List.length_append,List.length_cons,Zl];split
 ·rw[Xa1]; omega
 ·simp only[begQ,List.flatMap_cons,List.flatMap_nil,List.append_nil,List.length_append,Zl,YcO,Qcj]; omega
theorem ZcK{x:De}(h:mayD x=true):(recQ x).length≤200+16*deN x:=by
 rw[YaD];unfold deN;split
 ·omega
 ·rename_i hk;have:=QbI h hk;omega
theorem QcJ{x:De}{n:Nat}(h0:x.fmt.length≤n)(h1:x.n0.length≤n)(h2:x.n1.length≤n):(recQ x).length≤200+3*n+16*deN x:=by
 rw[YaD];unfold deN;split<;>omega
theorem Ybw{c d:Nat}:∀l:List De,(∀x∈l,(recQ x).length≤c+d*deN x)→(l.flatMap recQ).length≤c*l.length+d*(l.map deN).sum
 |[],_=>by simp
 |x::l,h=>by
  have ih:=Ybw l (λy hy=>h y (by simp[hy]));have hx:=h x (by simp);simp only[List.flatMap_cons,List.length_append,List.length_cons,List.map_cons,List.sum_cons,Nat.mul_add,Nat.mul_one] at *;omega
theorem Xcu:∀ {l:List De} {x:De},x∈l→deN x≤(l.map deN).sum
 |y::l,x,h=>by
  rcases List.mem_cons.1 h with rfl|h
  ·simp
  ·have:=Xcu h; simp; omega
theorem Ya6:∀ {l:List De} {x:De},x∈l→(recQ x).length≤(l.flatMap recQ).length
 |y::l,x,h=>by
  rcases List.mem_cons.1 h with rfl|h
  ·simp
  ·have:=Ya6 h;rw[List.flatMap_cons,List.length_append]; omega
theorem Qas:∀l:List De,l.length≤(l.flatMap recQ).length
 |[]=>by simp
 |x::l=>by
  have:=Qas l;have h:=YaD x;simp only[List.flatMap_cons,List.length_append,List.length_cons];omega
theorem XcI{b:List UInt8}{x:De}(h:readO b=some x)(hk:¬x.kind=2):x.ac=zAc:=by
 unfold readO at h;split at h
 ·cases h
 ·rename_i u r;cases h1:numO r with
  |none=>simp[h1] at h
  |some g=>
   simp only[h1,Option.bind_some] at h;split at h
   ·cases h2:begO g.2 with
    |none=>simp[h2] at h
    |some y=>
     simp only[h2,Option.bind_some] at h;split at h
     ·cases h; rfl
     ·cases h
   ·split at h
    ·rename_i hk2;cases h2:actO g.2 with
     |none=>simp[h2] at h
     |some y=>
      simp only[h2,Option.bind_some] at h;split at h
      ·cases h; exact(hk hk2).elim
      ·cases h
    ·cases h
theorem Qb9:∀(f:Nat) (b:List UInt8) (l:List De),archO f b=some l→∀x∈l,¬x.kind=2→x.ac=zAc
 |f,[],l,e,x,hx=>by
  cases f<;>(simp[archO] at e; subst e; simp at hx)
 |0,u::r,l,e,x,hx=>by simp[archO] at e
 |f+1,u::r,l,e,x,hx=>by
  unfold archO at e;split at e
  ·cases e
  ·generalize hb:u::r=b at *;cases h1:readO ((b.drop 4).take (d4 (b.take 4))) with
   |none=>simp[h1] at e
   |some y=>
    cases h2:archO f (b.drop (4+d4 (b.take 4))) with
    |none=>simp[h1,h2] at e
    |some m=>
     simp[h1,h2] at e;subst e;rcases List.mem_cons.1 hx with rfl|hx
     ·exact XcI h1
     ·exact Qb9 f _ _ h2 x hx
theorem QbR{b:List UInt8}{l:List De}(h:archF b=some l):∀x∈l,x.ac.ids.length+x.ac.prs.length≤b.length:=by
 intro x hx;have h1:=(XaE _ _ _ h).1;by_cases hk:x.kind=2
 ·have:=Ya6 hx;rw[h1,YaD,YIP hk] at this;omega
 ·rw[Qb9 _ _ _ h x hx hk]; simp[zAc]
structure FairD (x:De):Prop where
 ok:DeOk x
 fmt:x.fmt.length≤1048576
 n0:x.n0.length≤1048576
 n1:x.n1.length≤1048576
 d0:x.d0.length≤1048576
 d1:x.d1.length≤1048576
 dr:x.dr.length≤1048576
 ids:x.ac.ids.length≤1048576
 prs:x.ac.prs.length≤1048576
theorem c7b{b:List UInt8}{m:List De}(hb:b.length≤20000)(h:archF b=some m):PC 7 [deV m] (.tup (if oneB m then [byV b,iv 0] else [.nils,iv 2])):=by
 have h1:=XaE _ _ _ h;have hs:=QbR h;have hc:=Qas m;rw[h1.1] at hc;have:=c7 m (by omega) (λx hx=>c34 x.ac (h1.2 x hx).2.ac.op (by have:=hs x hx; omega)) (λx hx=>by rw[Xa1]; have:=hs x hx; omega) (by rw[h1.1]; omega)
 rwa [h1.1] at this
theorem c4(l:List De)(b:List UInt8)(hl:l.length≤1048576)(hf:∀x∈l,FairD x):PC 4 [deV l,byV b] (.bool true):=by
 refine Qy hP k4.ok rfl rfl ?_;rw[H2.e]; unfold k4; dsimp only; simp only[Xd,Xw,Yo];refine Za rfl (W_q (c5 l (by omega) (λx hx=>by have:=hf x hx; unfold deN; have:=this.d0; have:=(hf x hx).d1; have:=(hf x hx).dr; have:=(hf x hx).ids; have:=(hf x hx).prs; omega)) g5.ok ?_);cases hg:Xbg l
 case true=>exact aw (W_q p6 g6.ok rfl)
 refine Ya (Za rfl (Ya (Za (Zj ..) (Ya (Za (Xad ..) (Za rfl ?_))))));cases hb:decide ((20000:Int)<(b.length:Int))
 case true=>exact aw (W_q p6 g6.ok rfl)
 have hb:b.length≤20000:=by simp at hb; omega
 have hg':l.length≤40∧(l.map deN).sum≤600:=by
  have:¬(40<l.length∨600<((l.take 41).map deN).sum):=of_decide_eq_false hg;rw[List.take_of_length_le (by omega)] at this;omega
 have hN:∀x∈l,deN x≤600:=λx hx=>Nat.le_trans (Xcu hx) hg'.2;have hflat:=Ybw (c:=200+3*1048576) (d:=16) l (λx hx=>QcJ (hf x hx).fmt (hf x hx).n0 (hf x hx).n1);have hc7:=c7 l (by omega) (λx hx=>c34 x.ac (hf x hx).ok.ac.op (by have:=(hf x hx).ids; have:=(hf x hx).prs; omega)) (λx hx=>by rw[Xa1]; have:=(hf x hx).ids; have:=(hf x hx).prs; omega) (by omega);obtain⟨v,e,hve,hcase⟩:∃(v:AVal) (e:Int),(if oneB l then [byV (l.flatMap recQ),iv 0] else [.nils,iv 2])=[v,iv e]∧((oneB l=true∧v=byV (l.flatMap recQ)∧e=0)∨(oneB l=false∧v=.nils∧e=2)):=by
  by_cases ho:oneB l=true
  ·exact⟨_,_,YIP ho,.inl ⟨ho,rfl,rfl⟩⟩
  ·exact⟨_,_,YIN ho,.inr ⟨by simpa using ho,rfl,rfl⟩⟩
 rw[hve] at hc7;clear hve;refine Yh (W_q hc7 g7.ok (Za rfl (Za rfl (Za (QZ ..) ?_))));refine ZbP (λvs _=>vs=[]) (λvs σ hv=>?_) (λk' hk'=>?_)
 ·
  subst hv;have hc9:=c9 b (by omega);cases hA:archF b with
  |none=>
   rw[hA] at hc9;have hc9:PC 9 [byV b] (.tup [.nils,iv 260]):=hc9;refine W_q hc9 g9.ok (Za rfl (Za rfl (Za rfl (Yj (Za rfl (Za rfl (XM (W_q p6 g6.ok (Za rfl rfl)))))))))
  |some m=>
   rw[hA] at hc9;by_cases hm:oneB m=true
   ·have hc9:PC 9 [byV b] (.tup [deV m,iv 0]):=by simpa[resA,hm] using hc9
    have h7:=c7b hb hA;rw[YIP hm] at h7;have hts:∀(σ:List ABlk),XF [byV b] σ=.ok (.str b) [] []:=λσ=>by simp[XF,isSl,QbO,Yad]
    refine W_q hc9 g9.ok (Za rfl (Za rfl (Za rfl (Yh (W_q h7 g7.ok (Za rfl (Za rfl (Za rfl ?_))))))));refine Ya (Za rfl (Ya (Za (hts _) (Ya (Za rfl (Ya (Za (hts _) (Ya (Za (Qcg ..) (Za rfl ?_))))))))));rw[beq_self_eq_true];exact XM (W_q p6 g6.ok (Za rfl rfl))
   ·have hc9:PC 9 [byV b] (.tup [.nils,iv 260]):=by simpa[resA,hm] using hc9
    refine W_q hc9 g9.ok (Za rfl (Za rfl (Za rfl (Yj (Za rfl (Za rfl (XM (W_q p6 g6.ok (Za rfl rfl)))))))))
 ·
  rcases hcase with ⟨ho,rfl,rfl⟩|⟨ho,rfl,rfl⟩
  ·have hmay:∀x∈l,mayD x=true:=by
    have:=of_decide_eq_true ho;intro x hx;obtain⟨i,hi,rfl⟩:=List.getElem_of_mem hx;have:=this.2 i hi;simp only[okAt,Bool.and_eq_true] at this;exact this.1.1
   have hsm:=Ybw (c:=200) (d:=16) l (λx hx=>ZcK (hmay x hx));have hA:archF (l.flatMap recQ)=some l:=by
    refine Zca l _ (Qas l) (λx hx=>⟨?_,?_⟩)
    ·have hx2:=hN x hx;unfold deN at hx2;exact QcI (hmay x hx) (hf x hx).ok (by omega) (by omega)
    ·have:=Ya6 hx;have h2:(deQ x).length≤(recQ x).length:=by rw[recQ,List.length_append]; omega
     omega
   have hc9:=c9 (l.flatMap recQ) (by omega);rw[hA] at hc9;have hc9:PC 9 [byV (l.flatMap recQ)] (.tup [deV l,iv 0]):=by simpa[resA,ho] using hc9
   have h11:=c11 l l (by omega) (λx hx=>⟨by have:=(hf x hx).d0; omega,by have:=(hf x hx).d1; omega,by have:=(hf x hx).dr; omega,by have:=(hf x hx).ids; omega,by have:=(hf x hx).prs; omega⟩);rw[YDT rfl] at h11;refine Yj (W_q hc9 g9.ok (Za rfl (Za rfl (Za rfl (Ya (Za rfl (Ya (Za rfl (XM (W_q h11 g11.ok (Ya (Za rfl (Za rfl (Yh (hk' _ _ rfl)))))))))))))))
  ·exact Yh (Za rfl (Za rfl (Yh (hk' _ _ rfl))))
open Go.Proofs.YtflkgbeolnbadaaGreatDoor.Rows (uptoBulk uptoBulkAll)
variable {H:Type}
theorem YcC(b:List UInt8):uptoBulk (DataW.lit (H:=H) (.string b))=b.length+1:=by simp only[uptoBulk]
theorem QbD(ds:List (DataW H)):uptoBulk (.agg ds)=uptoBulkAll ds+1:=by simp only[uptoBulk]
theorem QcT(es sp:List (DataW H)):uptoBulk (.slice es sp)=uptoBulkAll es+uptoBulkAll sp+1:=by simp only[uptoBulk]
theorem X3(d:DataW H)(ds:List (DataW H)):uptoBulkAll (d::ds)=uptoBulk d+uptoBulkAll ds:=by simp only[uptoBulkAll]
theorem ZcC(d:DataW H):1≤uptoBulk d:=by
 cases d with
 |lit l=>cases l<;>simp[uptoBulk]
 |_=>simp[uptoBulk]
def XP(P:Program)(t:TypeId):Option (List TypeId):=match P.underlying t with
 |some (.struct fs)=>some (fs.toList.map (·.type))
 |_=>none
theorem XaO{P:Program}{fuel:Nat}{t:TypeId}{xs:List AVal}{d:DataW H}{ts:List TypeId}(h:Typed P fuel t xs d)(hs:XP P t=some ts):∃f parts ds,fuel=f+1∧xs=parts.flatten∧d=.agg ds∧Tri (Typed P f) ts parts ds:=by
 cases fuel with
 |zero=>exact h.elim
 |succ f=>
  unfold Typed at h;unfold XP at hs;split at hs
  ·rename_i fs e;rw[e] at h;cases hs;obtain⟨parts,ds,h1,h2,h3⟩:=h;exact⟨f,parts,ds,rfl,h1,h2,h3⟩
  ·cases hs
theorem Z8{P:Program}{fuel:Nat}{t:TypeId}{xs:List AVal}{d:DataW H}{k:IntKind}(h:Typed P fuel t xs d)(hu:P.underlying t=some (.int k)):∃n,xs=[.int k n]∧(Lit.int k n).wf=true∧d=.lit (.int k n):=by
 cases fuel with
 |zero=>exact h.elim
 |succ f=>unfold Typed at h; rw[hu] at h; exact h
theorem Qcv{P:Program}{fuel:Nat}{t:TypeId}{xs:List AVal}{d:DataW H}(h:Typed P fuel t xs d)(hu:P.underlying t=some .string):∃s,xs=[.str s]∧d=.lit (.string s):=by
 cases fuel with
 |zero=>exact h.elim
 |succ f=>unfold Typed at h; rw[hu] at h; exact h
theorem Xcv{P:Program}{fuel:Nat}{e:TypeId}{X:Type}(toC:X→List AVal)(m:X→Nat)(Q:X→Prop){B:Nat}(hx:∀xs (d:DataW H),Typed P fuel e xs d→uptoBulk d≤B→∃x,xs=toC x∧Q x∧m x≤uptoBulk d) :
  ∀ {rows:List (List AVal)} {es:List (DataW H)},Two (Typed P fuel e) rows es→uptoBulkAll es≤B→∃l:List X,rows=l.map toC∧(∀x∈l,Q x)∧(l.map m).sum≤uptoBulkAll es∧l.length≤uptoBulkAll es
 |[],[],_,_=>⟨[],rfl,by simp,by simp,by simp⟩
 |r::rows,d::es,h,hb=>by
  rw[X3] at hb;obtain⟨x,e1,q1,m1⟩:=hx r d h.1 (by omega);obtain⟨l,e2,q2,s2,l2⟩:=Xcv toC m Q hx h.2 (by omega);refine⟨x::l,by rw[e1,e2]; rfl,λy hy=>?_,?_,?_⟩
  ·rcases List.mem_cons.1 hy with rfl|hy
   ·exact q1
   ·exact q2 y hy
  ·rw[List.map_cons,List.sum_cons,X3]; omega
  ·have:=ZcC d;rw[List.length_cons,X3]; omega
 |[],_::_,h,_=>h.elim
 |_::_,[],h,_=>h.elim
theorem ZaE{P:Program}{fuel:Nat}{t e:TypeId}{n:Nat}{xs:List AVal}{d:DataW H}{X:Type}(toC:X→List AVal)(m:X→Nat)(Q:X→Prop){B:Nat}(h:Typed P fuel t xs d)(hu:P.underlying t=some (.slice e))(hn:P.cellsOf e=n)
 (hx:∀f,f<fuel→∀xs (d:DataW H),Typed P f e xs d→uptoBulk d≤B→∃x,xs=toC x∧Q x∧m x≤uptoBulk d)(hb:uptoBulk d≤B) :
  ∃l:List X,xs=[.rsl false false n (l.map toC)]∧(∀x∈l,Q x)∧(l.map m).sum≤uptoBulk d∧l.length≤uptoBulk d:=by
 cases fuel with
 |zero=>exact h.elim
 |succ f=>
  unfold Typed at h;rw[hu] at h;subst hn;obtain⟨rows,rfl,⟨rfl,rfl⟩|⟨es,sp,rfl,h2⟩⟩:=h
  ·exact⟨[],rfl,by simp,by simp,by simp⟩
  ·rw[QcT] at hb ⊢;obtain⟨l,rfl,q,s,k⟩:=Xcv toC m Q (hx f (by omega)) h2 (by omega);exact⟨l,rfl,q,by omega,by omega⟩
theorem Ycv{P:Program}{fuel:Nat}{t e:TypeId}{xs:List AVal}{d:DataW H}(h:Typed P fuel t xs d)(hu:P.underlying t=some (.array 2 e)):∃f p q a b,fuel=f+1∧xs=p++q∧d=.agg [a,b]∧Typed P f e p a∧Typed P f e q b:=by
 cases fuel with
 |zero=>exact h.elim
 |succ f=>
  unfold Typed at h;rw[hu] at h;obtain⟨parts,ds,rfl,rfl,hl,h2⟩:=h
  match parts,hl,h2 with
  |[p,q],_,h2=>
   obtain⟨a,ds,rfl,ha,h2⟩:=h2.cons;obtain⟨b,ds,rfl,hb,h2⟩:=h2.cons
   match ds,h2 with
   |[],_=>exact⟨f,p,q,a,b,rfl,by simp,rfl,ha,hb⟩
theorem wf8{n:Int}(h:(Lit.int .i8 n).wf=true):R8 n:=by
 have h1:IntKind.i8.min = -128:=by decide
 have h2:IntKind.i8.max=127:=by decide
 simp only[Lit.wf,h1,h2] at h;unfold R8;simpa using h
theorem wf64{n:Int}(h:(Lit.int .i64 n).wf=true):R64 n:=by
 have h1:IntKind.i64.min = -9223372036854775808:=by decide
 have h2:IntKind.i64.max=9223372036854775807:=by decide
 simp only[Lit.wf,h1,h2] at h;unfold R64;simpa using h
theorem wfu8{n:Int}(h:(Lit.int .u8 n).wf=true):0≤n∧n≤255:=by
 have h1:IntKind.u8.min=0:=by decide
 have h2:IntKind.u8.max=255:=by decide
 simp only[Lit.wf,h1,h2] at h;simpa using h
abbrev Zdg:TypeId:=38
abbrev YaB:TypeId:=3
abbrev Xc0:TypeId:=5
abbrev Zdc:TypeId:=4
abbrev QcO:TypeId:=9
abbrev Xdc:TypeId:=155
abbrev XcO:TypeId:=41
abbrev Qa0:TypeId:=37
abbrev Yc0:TypeId:=39
abbrev Zc0:TypeId:=40
abbrev Qdf:TypeId:=43
abbrev Ydc:TypeId:=45
abbrev XaN:TypeId:=22
abbrev QP:TypeId:=23
theorem u_i8:prog.underlying Zdg=some (.int .i8):=by kernel_rfl
theorem Xbq:prog.underlying YaB=some (.int .i64):=by kernel_rfl
theorem u_u8:prog.underlying Xc0=some (.int .u8):=by kernel_rfl
theorem YcS:prog.underlying Zdc=some .bool:=by kernel_rfl
theorem Qc0:prog.underlying QcO=some .string:=by kernel_rfl
theorem u_prs:prog.underlying XcO=some (.slice Xdc):=by kernel_rfl
theorem Zde:prog.underlying Qa0=some (.slice YaB):=by kernel_rfl
theorem u_txs:prog.underlying Yc0=some (.array 2 QcO):=by kernel_rfl
theorem u_rws:prog.underlying Zc0=some (.array 2 Qa0):=by kernel_rfl
theorem Qdd:prog.underlying XaN=some (.slice Ydc):=by kernel_rfl
theorem Zcw:prog.underlying QP=some (.slice Xc0):=by kernel_rfl
theorem n_pr:prog.cellsOf Xdc=2:=by kernel_rfl
theorem n_int:prog.cellsOf YaB=1:=by kernel_rfl
theorem n_u8:prog.cellsOf Xc0=1:=by kernel_rfl
theorem n_de:prog.cellsOf Ydc=15:=by kernel_rfl
theorem s_pr:XP prog Xdc=some [YaB,YaB]:=by kernel_rfl
theorem s_ac:XP prog Qdf=some [Zdg,YaB,YaB,YaB,Qa0,XcO]:=by kernel_rfl
theorem s_de:XP prog Ydc=some [Zdg,YaB,YaB,QcO,Yc0,Zc0,Qa0,Qdf]:=by kernel_rfl
theorem ty_i(fuel:Nat)(xs:List AVal)(d:DataW H)(h:Typed prog fuel YaB xs d)(_:uptoBulk d≤1048576):∃x,xs=cel x∧R64 x∧0≤uptoBulk d:=by
 obtain⟨s,rfl,w,rfl⟩:=Z8 h Xbq;exact⟨s,rfl,wf64 w,Nat.zero_le _⟩
theorem ZbQ{fuel:Nat}{xs:List AVal}{d:DataW H}(h:Typed prog fuel Qa0 xs d)(hb:uptoBulk d≤1048576):∃l,xs=[rowV l]∧l.length≤1048576∧∀a∈l,R64 a:=by
 obtain⟨l,rfl,q,_,k⟩:=ZaE cel (λ_=>0) R64 h Zde n_int (λf' _=>ty_i f') hb;exact⟨l,rfl,by omega,q⟩
theorem ty_pr(fuel:Nat)(xs:List AVal)(d:DataW H)(h:Typed prog fuel Xdc xs d)(_:uptoBulk d≤1048576):∃x,xs=prC x∧(R64 x.1∧R64 x.2)∧0≤uptoBulk d:=by
 obtain⟨f,parts,ds,rfl,rfl,rfl,r⟩:=XaO h s_pr;obtain⟨p0,parts,d0,ds,rfl,rfl,h0,r⟩:=r.cons;obtain⟨p1,parts,d1,ds,rfl,rfl,h1,r⟩:=r.cons;obtain⟨rfl,rfl⟩:=r.nil;obtain⟨v0,rfl,w0,rfl⟩:=Z8 h0 Xbq;obtain⟨v1,rfl,w1,rfl⟩:=Z8 h1 Xbq;exact⟨(v0,v1),rfl,⟨wf64 w0,wf64 w1⟩,Nat.zero_le _⟩
theorem Xdd{fuel:Nat}{xs:List AVal}{d:DataW H}(h:Typed prog fuel XcO xs d)(hb:uptoBulk d≤1048576):∃l,xs=[prV l]∧l.length≤1048576∧∀x∈l,R64 x.1∧R64 x.2:=by
 obtain⟨l,rfl,q,_,k⟩:=ZaE prC (λ_=>0) (λx=>R64 x.1∧R64 x.2) h u_prs n_pr (λf' _=>ty_pr f') hb;exact⟨l,rfl,by omega,q⟩
theorem ty_ac{fuel:Nat}{xs:List AVal}{d:DataW H}(h:Typed prog fuel Qdf xs d)(hb:uptoBulk d≤1048576):∃x,xs=acC x∧AcOk x∧x.ids.length≤1048576∧x.prs.length≤1048576:=by
 obtain⟨f,parts,ds,rfl,rfl,rfl,r⟩:=XaO h s_ac;obtain⟨p0,parts,d0,ds,rfl,rfl,h0,r⟩:=r.cons;obtain⟨p1,parts,d1,ds,rfl,rfl,h1,r⟩:=r.cons;obtain⟨p2,parts,d2,ds,rfl,rfl,h2,r⟩:=r.cons;obtain⟨p3,parts,d3,ds,rfl,rfl,h3,r⟩:=r.cons;obtain⟨p4,parts,d4,ds,rfl,rfl,h4,r⟩:=r.cons;obtain⟨p5,parts,d5,ds,rfl,rfl,h5,r⟩:=r.cons;obtain⟨rfl,rfl⟩:=r.nil;obtain⟨v0,rfl,w0,rfl⟩:=Z8 h0 u_i8;obtain⟨v1,rfl,w1,rfl⟩:=Z8 h1 Xbq;obtain⟨v2,rfl,w2,rfl⟩:=Z8 h2 Xbq;obtain⟨v3,rfl,w3,rfl⟩:=Z8 h3 Xbq;simp only[QbD,X3] at hb;obtain⟨a,rfl,ka,qa⟩:=ZbQ h4 (by omega);obtain⟨b,rfl,kb,qb⟩:=Xdd h5 (by omega);exact⟨⟨v0,v1,v2,v3,a,b⟩,rfl,⟨wf8 w0,wf64 w1,wf64 w2,wf64 w3,by show a.length≤_; omega,qa,by show b.length≤_; omega,qb⟩,ka,kb⟩
theorem ty_de(fuel:Nat)(xs:List AVal)(d:DataW H)(h:Typed prog fuel Ydc xs d)(hb:uptoBulk d≤1048576):∃x,xs=deC x∧FairD x∧0≤uptoBulk d:=by
 obtain⟨f,parts,ds,rfl,rfl,rfl,r⟩:=XaO h s_de;obtain⟨p0,parts,d0,ds,rfl,rfl,h0,r⟩:=r.cons;obtain⟨p1,parts,d1,ds,rfl,rfl,h1,r⟩:=r.cons;obtain⟨p2,parts,d2,ds,rfl,rfl,h2,r⟩:=r.cons;obtain⟨p3,parts,d3,ds,rfl,rfl,h3,r⟩:=r.cons;obtain⟨p4,parts,d4,ds,rfl,rfl,h4,r⟩:=r.cons;obtain⟨p5,parts,d5,ds,rfl,rfl,h5,r⟩:=r.cons;obtain⟨p6,parts,d6,ds,rfl,rfl,h6,r⟩:=r.cons;obtain⟨p7,parts,d7,ds,rfl,rfl,h7,r⟩:=r.cons;obtain⟨rfl,rfl⟩:=r.nil;obtain⟨v0,rfl,w0,rfl⟩:=Z8 h0 u_i8;obtain⟨v1,rfl,w1,rfl⟩:=Z8 h1 Xbq;obtain⟨v2,rfl,w2,rfl⟩:=Z8 h2 Xbq;obtain⟨v3,rfl,rfl⟩:=Qcv h3 Qc0;obtain⟨f1,pa,pb,da,db,rfl,rfl,rfl,ha,hbb⟩:=Ycv h4 u_txs;obtain⟨va,rfl,rfl⟩:=Qcv ha Qc0;obtain⟨vb,rfl,rfl⟩:=Qcv hbb Qc0;obtain⟨f2,pc,pd,dc,dd,e2,rfl,rfl,hc,hd⟩:=Ycv h5 u_rws;simp only[QbD,X3,YcC] at hb;obtain⟨l0,rfl,k0,r0⟩:=ZbQ hc (by omega);obtain⟨l1,rfl,k1,r1⟩:=ZbQ hd (by omega);obtain⟨l2,rfl,k2,r2⟩:=ZbQ h6 (by omega);obtain⟨a,rfl,ka,ki,kp⟩:=ty_ac h7 (by omega);refine⟨⟨v0,v1,v2,v3,va,vb,l0,l1,l2,a⟩,rfl,⟨⟨wf8 w0,wf64 w1,wf64 w2,?_,?_,?_,⟨?_,r0⟩,⟨?_,r1⟩,⟨?_,r2⟩,ka⟩,?_,?_,?_,k0,k1,k2,ki,kp⟩,Nat.zero_le _⟩
 all_goals (dsimp only; omega)
theorem Ydd{fuel:Nat}{xs:List AVal}{d:DataW H}(h:Typed prog fuel XaN xs d)(hb:uptoBulk d≤1048576):∃l,xs=[deV l]∧l.length≤1048576∧∀x∈l,FairD x:=by
 obtain⟨l,rfl,q,_,k⟩:=ZaE deC (λ_=>0) FairD h Qdd n_de (λf' _=>ty_de f') hb;exact⟨l,rfl,by omega,q⟩
theorem ty_by(fuel:Nat)(xs:List AVal)(d:DataW H)(h:Typed prog fuel Xc0 xs d)(_:uptoBulk d≤1048576):∃x,xs=byC x∧True∧0≤uptoBulk d:=by
 obtain⟨s,rfl,w,rfl⟩:=Z8 h u_u8;obtain⟨w1,w2⟩:=wfu8 w;refine⟨UInt8.ofNat s.toNat,?_,trivial,Nat.zero_le _⟩;have:((UInt8.ofNat s.toNat).toNat:Int)=s:=by simp; omega
 rw[byC,this]
theorem ZcP{fuel:Nat}{xs:List AVal}{d:DataW H}(h:Typed prog fuel QP xs d)(hb:uptoBulk d≤1048576):∃l,xs=[byV l]:=by
 obtain⟨l,rfl,_,_,k⟩:=ZaE byC (λ_=>0) (λ_=>True) h Zcw n_u8 (λf' _=>ty_by f') hb;exact⟨l,rfl⟩
end Go.Ah.Tz
end
section
namespace Go.Proofs.YtflkgbeolnbadaaGreatDoor
open Go.ChangeShapes Go.WideShapes Go.ChangeAt Go.RowKit Go.Ah Go.Ah.Tz
theorem Qa8{H:Type}{enc:TypeId×Value→H}{P:Program}{f:Func}{s:ChangeSpec}{apart fresh handsOn again:Bool}{W W':World}{args:Array Value}{v:Value}{ds gs:List (DataW H)}{before pa pv:List MemPlace}
 (hW:DataW.Whole enc P f.params.toList s.vars apart W args.toList ds gs before)
 (hres:∀(b:Nat) (sp:Nat→Bool) (hd:Bool),DataW.TrodAll enc P W' b sp hd f.resultTypes.toList (v.resultList f.resultTypes.size) (s.fn H (ds++gs)).results [])
 (hargs:∀sp:Nat→Bool,(∀p∈before,sp p.block=true)→DataW.TrodAll enc P W' 0 sp true f.params.toList args.toList (s.fn H (ds++gs)).args pa)
 (hvars:∀sp:Nat→Bool,(∀p∈before,sp p.block=true)→DataW.TrodVars enc P W' sp s.vars (s.fn H (ds++gs)).vars pv)
 (hps:before=pa++pv)(hb:Below W.heap.size W W')
 (hok:∀(j:Nat) (t:TypeId) (r:Value),f.resultTypes[j]?=some t→(v.resultList f.resultTypes.size)[j]?=some r→Value.okWide P W' .any 0 t r) :
  s.post enc P f apart fresh handsOn again W args v W':=by
 have hold:∀p∈before,(λb=>decide (b<W.heap.size)) p.block=true:=λp hp=>by simpa using hW.lt p hp
 refine⟨ds,gs,before,[],pa,pv,hW,hres _ _ _,hargs _ hold,hvars _ hold,World.keptBut_mono (λp hp=>⟨hp,?_⟩) (hb.frame (·∈before)),λ_=>?_⟩
 ·rw[hps,List.mem_append] at hp;exact Or.inr hp
 ·have hlt:=hW.lt;obtain⟨_,_,_,_,_,hz,hn⟩:=hW;refine⟨hok,_,_,([]++pa)++pv,⟨[]++pa,pv,trodAll_append (hargs _ (λ_ _=>rfl)) (hres _ _ _),hvars _ (λ_ _=>rfl),rfl,?_,?_⟩,?_⟩
  ·intro b off hp;have hin:MemPlace.cell b off∈before:=by rw[hps]; simpa using hp
   rw[hb.frozen (p:=⟨b,off,none⟩) (show b<W.heap.size from hlt _ hin)];exact hz b off hin
  ·intro ha;have:=hn ha;rw[hps] at this;simpa using this
  ·intro p hp _;rw[hps];simpa using hp
set_option maxRecDepth 100000
abbrev Qdc:TypeId:=375
theorem d_own:ownKnob Tryz.prog.godebug=none:=by kernel_rfl
theorem Zc5:Tryz.prog.globalNamed "strings.asciiSpace" = some 0:=by kernel_rfl
theorem Ycf:(Tryz.prog.globals[0]?).map (·.type)=some Qdc:=by kernel_rfl
theorem Qce:laidOutB Tryz.prog=true:=by kernel_rfl
def spaces:List Int:=(List.range 256).map λi=>match (Nat.ble 9 i&&Nat.ble i 13)||Nat.beq i 32 with|true=>1|false=>0
theorem XcU{l:List (String×DataW Unit)}{x0 x1 x2 x3:String×DataW Unit}(hl:l=[x0,x1,x2,x3,("strings.asciiSpace",Lib.tabData .u8 spaces)]){W:World}(h:laidMet Tryz.prog l W):∀p∈GL0,Den (λb=>W.heap[b]?) noOwn (.rptr p.2 0) (.pointer (some ⟨p.1,0,none⟩)):=by
 subst hl;have ht:Lib.TabIs Tryz.prog W "strings.asciiSpace" .u8 spaces:=Lib.tabIs_of_head (rest:=[]) Zc5 Ycf (show Tryz.prog.underlying Qdc=some (.array 256 Xc0) by kernel_rfl) (show Tryz.prog.underlying Xc0=some (.int .u8) by kernel_rfl) (by kernel_rfl) (by kernel_rfl) h.tail.tail.tail.tail;have hlen:spaces.length=256:=by simp[spaces]
 have hrow:row0=spaces.map (AVal.int .u8):=by rw[row0,spaces,List.map_map]; rfl
 intro p hp;simp only[GL0,List.mem_singleton] at hp;subst hp;refine .rptr _ row0 0 0 0 (λk=>.int .u8 (spaces.getD k 0)) (λk hk=>?_) (λk y hy=>?_)
 ·have hk':k<spaces.length:=by rw[hrow,List.length_map] at hk; exact hk
  have:=(Qcb (ht.cell Zc5 k hk')).2;rw[Nat.zero_add]; exact this
 ·rw[hrow,List.getElem?_map] at hy;obtain⟨z,hz,rfl⟩:=Option.map_eq_some_iff.1 hy;have:spaces.getD k 0=z:=by simp[List.getD,hz]
  rw[this]; exact .int _ _ _
def Ya4:List TypeId:=[Zdg,YaB,Xc0,QcO,Xdc,XcO,Qa0,Yc0,Zc0,Qdf,Ydc,XaN,QP]
theorem Xbe:Ya4.all (tyOk Tryz.prog Ya4)=true:=by kernel_rfl
section
variable {H:Type} {enc:TypeId×Value→H} {W:World} {base:Nat} {v:Value} {d:DataW H} {ps:List MemPlace}
theorem YcU(ho:Value.okWide Tryz.prog W .any base XaN v)(h:DataW.Trod enc Tryz.prog W 0 (λ_=>true) true XaN v d ps)(hb:Rows.uptoBulk d≤1048576):∃l:List De,l.length≤1048576∧(∀x∈l,FairD x)∧Den (λk=>W.heap[k]?) noOwn (deV l) v:=by
 obtain⟨a,len,cap,rfl⟩:=okWide_slice Qdd ho;obtain⟨fuel,hf⟩:=h;obtain⟨_,xs,h1,h2⟩:=YaO (S:=Ya4) Xbe fuel XaN (by decide) _ _ ⟨_,hf⟩;obtain⟨l,rfl,k1,k2⟩:=Ydd h2 hb;exact⟨l,k1,k2,h1.2 0 _ _ rfl rfl⟩
theorem ZcU(ho:Value.okWide Tryz.prog W .any base QP v)(h:DataW.Trod enc Tryz.prog W 0 (λ_=>true) true QP v d ps)(hb:Rows.uptoBulk d≤1048576):∃l:List UInt8,Den (λk=>W.heap[k]?) noOwn (byV l) v:=by
 obtain⟨a,len,cap,rfl⟩:=okWide_slice Zcw ho;obtain⟨fuel,hf⟩:=h;obtain⟨_,xs,h1,h2⟩:=YaO (S:=Ya4) Xbe fuel QP (by decide) _ _ ⟨_,hf⟩;obtain⟨l,rfl⟩:=ZcP h2 hb;exact⟨l,h1.2 0 _ _ rfl rfl⟩
end
theorem Zcf{H:Type}{enc:TypeId×Value→H}{t:TypeId}(hr:Tryz.prog.readableRec t=true)(hrow:t<Tryz.prog.types.size){W W':World}{v:Value}{d:DataW H}{ps all:List MemPlace}(h:DataW.Trod enc Tryz.prog W 0 (λ_=>true) true t v d ps)(hb:Below W.heap.size W W')(hlt:∀p∈all,p.block<W.heap.size)(hin:∀p∈ps,p∈all){sp:Nat→Bool}(hs:∀p∈all,sp p.block=true):DataW.Trod enc Tryz.prog W' 0 sp true t v d ps:=
 WideElems.Trod_stays Qce hr hrow h (λp hp=>hb.same (hlt p (hin p hp))) (λp hp=>hs p (hin p hp))
theorem ZcQ(t:TypeId)(h:(Tryz.prog.readableRec t&&decide (t<Tryz.prog.types.size))=true):Tryz.prog.readableRec t=true∧t<Tryz.prog.types.size:=by simpa using h
theorem Yda:Tryz.prog.readableRec XaN=true∧XaN<Tryz.prog.types.size:=ZcQ XaN (by kernel_rfl)
theorem Ycn:Tryz.prog.readableRec QP=true∧QP<Tryz.prog.types.size:=ZcQ QP (by kernel_rfl)
theorem Qe{a b:Bool}(h:a=true)(k:b=true):(a&&b)=true:=by rw[h,k]; rfl
def d_pow:List Int:=[1,10,100,1000,10000,100000,1000000,10000000,100000000,1000000000,10000000000,100000000000,1000000000000,10000000000000,100000000000000,1000000000000000,10000000000000000,100000000000000000,1000000000000000000,10000000000000000000]
def d_b32:List Int:=[0,1,28,2,29,14,24,3,30,22,20,15,25,17,4,8,31,27,13,23,21,19,16,7,26,12,18,6,11,5,10,9]
def d_b64:List Int:=[0,1,56,2,57,49,28,3,61,58,42,50,38,29,17,4,62,47,59,36,45,43,51,22,53,39,33,30,24,18,12,5,63,55,48,27,60,41,37,16,46,35,44,21,52,32,23,11,54,26,40,15,34,20,31,10,25,14,19,9,13,8,7,6]
def YcD:List Int:=[9,13,1,32,133,101,160,5760,5600,8192,8202,1,8232,8233,1,8239,8287,48,12288,12288,1]
noncomputable def Qbu (os:Os):World:=
 let w0:=World.holding Tryz.prog os ⟨#[],#[],[]⟩
 let put (h:Array Obj) (g:Nat) (cs:Array Value):Array Obj:=h.modify g fun
  |.cells _ t frozen=>.cells cs t frozen
  |o=>o
 let h1:=put w0.heap 0 (spaces.map λz=>Value.int .u8 z).toArray
 let h2:=put h1 1 #[.pointer (some ⟨w0.heap.size,0,none⟩)]
 let h3:=put h2 2 (d_pow.map λz=>Value.int .u64 z).toArray
 let h4:=put h3 3 (d_b32.map λz=>Value.int .u8 z).toArray
 let h5:=put h4 4 (d_b64.map λz=>Value.int .u8 z).toArray
 { w0 with heap:=(h5.push (.cells #[.slice (some ⟨w0.heap.size+1,0,none⟩) 7 7,.slice none 0 0,.int .i64 2] 419 (0,0))).push (.cells (YcD.map λz=>Value.int .u16 z).toArray 422 (0,0)) }
theorem QbQ:Rows.archiveBackUptoRow.laid=[("math/bits.deBruijn32tab",Rows.laid_math_bits_deBruijn32tab),("math/bits.deBruijn64tab",Rows.laid_math_bits_deBruijn64tab),("internal/strconv.uint64pow10",Rows.laid_internal_strconv_uint64pow10),("unicode.White_Space",Rows.laid_unicode_White_Space),("strings.asciiSpace",Lib.tabData .u8 spaces)]:=by kernel_rfl
theorem XaP(H:Type)(enc:TypeId×Value→H)(W:World)(base:Nat)(args:Array Value)(ds gs:List (DataW H))(before:List MemPlace)
 (hval:∀(j:Nat) t v,Tryz.f4.params[j]?=some t→args[j]?=some v→Value.okWide Tryz.prog W .any base t v)
 (hW:DataW.Whole enc Tryz.prog Tryz.f4.params.toList Rows.archiveBackSpec.vars false W args.toList ds gs before)(hk:Rows.uptoSmall H (ds++gs)=true)(hL:laidMetH Tryz.prog Rows.archiveBackUptoRow.laid W) :
  Calls Tryz.prog 4 args W λe W'=>∃v,e=.returned v∧Rows.archiveBackSpec.post enc Tryz.prog Tryz.f4 false true false false W args v W':=by
 have hW':=hW;have hlt:=hW.lt;obtain⟨p,q,hA0,hV,rfl,hfz,hnd⟩:=hW;have hA:DataW.TrodAll enc Tryz.prog W 0 (λ_=>true) true Tryz.f4.params.toList args.toList ds p:=hA0;rw[Tryz.params4] at hA hval;obtain⟨v0,vs,d0,ds,p0,p,hargs,rfl,rfl,h0,r⟩:=trodAll_cons hA;obtain⟨v1,vs,d1,ds,p1,p,rfl,rfl,rfl,h1,r⟩:=trodAll_cons r;obtain⟨rfl,rfl,rfl⟩:=trodAll_nil r;obtain rfl:args = #[v0,v1]:=by cases args; simp_all
 obtain⟨rfl,rfl⟩:=trodVars_none hV;have hbk:Rows.uptoBulkAll [d0,d1]≤1048576:=of_decide_eq_true hk;simp only[Rows.uptoBulkAll] at hbk;obtain⟨a0,l0,m0,e0⟩:=YcU (hval 0 _ v0 rfl rfl) h0 (by omega);obtain⟨a1,e1⟩:=ZcU (hval 1 _ v1 rfl rfl) h1 (by omega);have hg:=XcU QbQ (show laidMet Tryz.prog Rows.archiveBackUptoRow.laid W from hL);refine(c4 a0 a1 l0 m0 W (λk=>W.heap[k]?) [v0,v1] (λ_ _ h=>h) hg ⟨e0,e1,trivial⟩).mono ?_;rintro e W' ⟨u,rfl,hkeep,M',_,_,_,hd⟩;cases hd;have hb:=hkeep.below;refine⟨_,rfl,Qa8 (pa:=p0++(p1++[])) (pv:=[]) hW' (λ_ _ _=>trodAll_cons_mk (shut_bool YcS _) trodAll_mk0) (λsp hsp=>?_) (λ_ _=>rfl) rfl hb (ok_one (by kernel_rfl) rfl (okWide_bool_mk YcS _))⟩;rw[Tryz.params4];refine trodAll_cons_mk (Zcf Yda.1 Yda.2 h0 hb hlt (λp hp=>by simp[hp]) hsp) <| trodAll_cons_mk (Zcf Ycn.1 Ycn.2 h1 hb hlt (λp hp=>by simp[hp]) hsp) trodAll_mk0
def Q8:Array Value:=#[.slice none 0 0,.slice none 0 0]
theorem Xb7(os:Os):laidMet Tryz.prog Rows.archiveBackUptoRow.laid ((Qbu os).forCall (λ_ _=>0) ⟨#[],Q8,[]⟩).memory:=
 laidMet_of_run' 8 (by kernel_rfl) (by kernel_rfl)
theorem Zbs(os:Os){H:Type}(enc:TypeId×Value→H):∃places,DataW.whole enc Tryz.prog ((Qbu os).forCall (λ_ _=>0) ⟨#[],Q8,[]⟩).memory Tryz.f4.params.toList Rows.archiveBackSpec.vars false Q8.toList 8 =
  some ([.nil,.nil],[],places):=⟨[],by kernel_rfl⟩
theorem Qbb(os:Os)(started:os.Started)(H:Type)(enc:TypeId×Value→H)(F:Stop.Interp) :
  ReturnsInHanded {} Tryz.checked os 4 .any ((Rows.OpenSpec.upto Rows.archiveBackSpec).preRow enc Tryz.prog Tryz.f4 Rows.archiveBackUptoRow.domain false Rows.archiveBackUptoRow.laid) (((Rows.OpenSpec.upto Rows.archiveBackSpec).at F).post enc Tryz.prog Tryz.f4 false true false false):=by
 obtain⟨places,hx⟩:=Zbs os enc;refine returnsInHanded_of_row (C:=Tryz.checked) (s:=Rows.OpenSpec.upto Rows.archiveBackSpec) d_own started (by kernel_rfl) Tryz.func4
  (witness_row_atRef (enc:=enc) (C:=Tryz.checked) false (Qbu os) Q8 rfl (by kernel_rfl) (by kernel_rfl) (by kernel_rfl)
   (OpenSpec.preRow_of_cond 8 hx (by kernel_rfl) (λk hk=>by cases hk; kernel_rfl) (by kernel_rfl) (Xb7 os))) ?_
 intro W base args ds gs before hval hW _ hcond _ hL _ _;exact XaP H enc W base args ds gs before hval hW (hcond _ rfl) hL
theorem Ycx:Tryz.prog.funcNamed Rows.archiveBackUptoRow.func=some 4:=by kernel_rfl
theorem Xcx:(Rows.archiveBackUptoRow.wf (OpenSpec.ofChange (Rows.OpenSpec.upto Rows.archiveBackSpec).bare))=true:=by kernel_rfl
theorem Qcx:(laidOutB Tryz.prog)=true:=by kernel_rfl
theorem Zcy:(mapsRowed Tryz.prog)=true:=by kernel_rfl
theorem Ycy:(Tryz.f4.params.all (Tryz.prog.readableRec ·))=true:=by kernel_rfl
theorem Xcy:(namedTie Tryz.prog Rows.archiveBackUptoRow.named (Rows.OpenSpec.upto Rows.archiveBackSpec).bare.vars)=true:=by kernel_rfl
theorem Qcy:(Rows.archiveBackUptoRow.stops==[])=true:=by kernel_rfl
theorem Zcz:(Tryz.prog.stops==[])=true:=by kernel_rfl
theorem Ycz:(Rows.archiveBackUptoRow.knobs==[])=true:=by kernel_rfl
theorem Xcz:(Tryz.prog.stopKnobs==[])=true:=by kernel_rfl
theorem Qb1:(Rows.archiveBackUptoRow.inPlace==Tryz.prog.inPlace 4)=true:=by kernel_rfl
theorem Zb2:(Rows.archiveBackUptoRow.unfollowed==Tryz.prog.unfollowed 4)=true:=by kernel_rfl
theorem Yb2:(Rows.archiveBackUptoRow.recurses==Tryz.prog.recurses 4)=true:=by kernel_rfl
theorem Xb2:(Rows.archiveBackUptoRow.named==Tryz.prog.varsNamed 4)=true:=by kernel_rfl
theorem Qb2:(Rows.archiveBackUptoRow.maps==(Tryz.f4.params.toList++(Rows.OpenSpec.upto Rows.archiveBackSpec).bare.plain.varTypes Tryz.prog).any (Tryz.prog.mapsRec ·))=true:=by kernel_rfl
theorem Zb3:(Rows.archiveBackUptoRow.ifaces==(Tryz.f4.params.toList++(Rows.OpenSpec.upto Rows.archiveBackSpec).bare.plain.varTypes Tryz.prog).any (Tryz.prog.ifacesRec ·))=true:=by kernel_rfl
theorem Yb3:(Rows.archiveBackUptoRow.mapsOut==Tryz.prog.mapsAmong Tryz.f4.resultTypes.toList)=true:=by kernel_rfl
theorem Xb3:(Rows.archiveBackUptoRow.loops==(Tryz.f4.params.toList++(Rows.OpenSpec.upto Rows.archiveBackSpec).bare.plain.varTypes Tryz.prog).any (Tryz.prog.loopsFrom ·))=true:=by kernel_rfl
theorem Qb3:(Rows.archiveBackUptoRow.wideKeys==(Tryz.f4.params.toList++(Rows.OpenSpec.upto Rows.archiveBackSpec).bare.plain.varTypes Tryz.prog++Tryz.f4.resultTypes.toList).any (Tryz.prog.wideKeysFrom ·))=true:=by kernel_rfl
theorem Zb4:((Rows.OpenSpec.upto Rows.archiveBackSpec).bare.vars.all (Tryz.prog.varReadable ·))=true:=by kernel_rfl
theorem Yb4:(Tryz.f4.resultTypes.all (λt=>Tryz.prog.readableRec t&&decide (t<Tryz.prog.types.size)))=true:=by kernel_rfl
theorem Xb4:(Rows.archiveBackUptoRow.ifacesOut==Tryz.f4.resultTypes.toList.any (Tryz.prog.ifacesRec ·))=true:=by kernel_rfl
theorem Qb4:(Rows.archiveBackUptoRow.loopsOut==Tryz.f4.resultTypes.toList.any (Tryz.prog.loopsFrom ·))=true:=by kernel_rfl
theorem Zb5:(Rows.archiveBackUptoRow.plainKeys==Tryz.prog.plainKeys)=true:=by kernel_rfl
theorem Yb5:(Rows.archiveBackUptoRow.shortTexts.isNone)=true:=by kernel_rfl
theorem Xb5:(Tryz.prog.stopsHeard)=true:=by kernel_rfl
theorem Qb5:(Tryz.prog.mayEnter)=true:=by kernel_rfl
theorem Zb6:(Rows.archiveBackUptoRow.lifted==Tryz.prog.liftsFinal)=true:=by kernel_rfl
theorem Yb6:(Tryz.prog.make==some Rows.archiveBackUptoRow.make)=true:=by kernel_rfl
theorem Xb6:(Rows.archiveBackUptoRow.kinds==(if Rows.archiveBackUptoRow.domain.isEmpty then [] else Tryz.f4.params.toList.map λt=>match Tryz.prog.underlying t with|some (.int k)=>some k|_=>none))=true:=by kernel_rfl
theorem Qb6:(Rows.archiveBackUptoRow.pinned==Rows.archiveBackUptoRow.pinnedBy)=true:=by kernel_rfl
theorem Zb7:(Rows.archiveBackUptoRow.veiled==(Tryz.f4.params.toList++(Rows.OpenSpec.upto Rows.archiveBackSpec).bare.plain.varTypes Tryz.prog++Tryz.f4.resultTypes.toList).any (Tryz.prog.veiledRec ·))=true:=by kernel_rfl
theorem Yb7:(Rows.archiveBackUptoRow.veiledFits Tryz.prog Tryz.f4.params.toList (Tryz.f4.params.toList++(Rows.OpenSpec.upto Rows.archiveBackSpec).bare.plain.varTypes Tryz.prog++Tryz.f4.resultTypes.toList))=true:=by kernel_rfl
theorem Xbb:joinedFacts Tryz.prog 4 Tryz.f4 (Rows.OpenSpec.upto Rows.archiveBackSpec).bare Rows.archiveBackUptoRow=true:=(Qe (Qe (Qe (Qe (Qe (Qe (Qe (Qe (Qe (Qe (Qe (Qe (Qe (Qe (Qe (Qe (Qe (Qe (Qe (Qe (Qe (Qe (Qe (Qe (Qe (Qe (Qe (Qe (Qe (Qe (Qe Xcx Qcx) Zcy) Ycy) Xcy) Qcy) Zcz) Ycz) Xcz) Qb1) Zb2) Yb2) Xb2) Qb2) Zb3) Yb3) Xb3) Qb3) Zb4) Yb4) Xb4) Qb4) Zb5) Yb5) Xb5) Qb5) Zb6) Yb6) Xb6) Qb6) Zb7) Yb7)
theorem ZbR:Rows.ArchiveBackUptoSaid:=
 OpenClaim.holds_of_cond 4 Tryz.f4 rfl rfl rfl rfl rfl rfl rfl ⟨rfl,rfl,rfl,rfl,rfl⟩ rfl rfl rfl rfl rfl Ycx Tryz.func4 Xbb
  (of_decide_eq_true (by kernel_rfl)) (by unfold Func.isWrapper; first|(rw[YIP (by decide +kernel)]; kernel_rfl)|(rw[YIN (by decide +kernel)]; exact⟨rfl,rfl⟩))
  (λos started H enc _ F=>by rw[OpenClaim.pre_eq_preRow]; exact Qbb os started H enc F)
theorem Qbr(f:FuncId)(fn:Func)(hf:Tryz.pinned.checked.prog.funcNamed "baize/baizelaw28.ArchiveBack" = some f)(hfn:Tryz.pinned.checked.prog.funcs[f]?=some fn) :
  true=Tryz.pinned.checked.prog.looks []∧∀(j:Nat) t,fn.params[j]?=some t→Tryz.pinned.checked.prog.wantsStandIn t=false:=by
 obtain rfl:f=4:=Option.some.inj ((show Tryz.prog.funcNamed "baize/baizelaw28.ArchiveBack" = some 4 by kernel_rfl).symm.trans hf) |>.symm;obtain rfl:fn=Tryz.f4:=(Option.some.inj (Tryz.func4.symm.trans hfn)).symm;refine⟨by kernel_rfl,λj t ht=>?_⟩;rw[Tryz.params4] at ht;have hm:t∈[XaN,QP]:=by simpa using Array.mem_of_getElem? ht
 have hall:([XaN,QP].all λu=>!Tryz.prog.wantsStandIn u)=true:=by kernel_rfl
 exact(show Tryz.prog.wantsStandIn t=false by simpa using List.all_eq_true.1 hall t hm)
theorem archiveBack_upto_card:Rows.ArchiveBackUptoCardSaid:=
 Claim7.holds_tied_plain_at .later [] _ _ _ _ ZbR (λ_ h=>by cases h) (by kernel_rfl) (λ_ h=>by cases h) archiveBackUpto_row_tie rfl ⟨rfl,rfl⟩ (by kernel_rfl) rfl Qbr (by kernel_rfl)
#print axioms archiveBack_upto_card
end Go.Proofs.YtflkgbeolnbadaaGreatDoor
end
