/- Part of the proof that ArchiveBytes holds of the program for arguments that together hold at most 1048576 values and letters; no other condition. -/
import Derived.Test.YtflkgbeolnbadaaGreatDoorZ3
import Derived.Test.YtflkgbeolnbadaaGreatDoorRows
import Derived.Test.YtflkgbeolnbadaaGreatDoorCards
import Derived.Test.YtflkgbeolnbadaaGreatDoorTie
import Derived.ProofKit
import Derived.OpenShut
import Derived.Carry
import Derived.SevenTiedAt
import Derived.JoinedCond
import Derived.LaidMore
import Derived.SizedLaws
import Derived.Stop.LaidErr
import Derived.Deep.DeepHandedRow
import Derived.Deep.DeepWitnessRowRef
import Derived.Lib.LaidTab
set_option linter.all false
section
namespace Go.Ah.Tz
open Go.Proofs.Tryz (prog)
set_option maxRecDepth 100000
theorem XcD{σ:List ABlk}{b i j n sz:Nat}{rows:List (List AVal)}{row row' cs:List AVal}{x:AVal}(hb:hget σ b=.rows sz rows)(hr:rows[i]?=some row)(hc:cellsOf x=some cs)(hn:Nat.beq cs.length n=true)(hs:splice j cs row=some row') :
  Yn n [.ptr b i j,x] σ=.ok .junk [] [(b,.rows sz (rows.set i row'))]:=by
 have hi:i<rows.length:=by
  rcases Nat.lt_or_ge i rows.length with h|h
  ·exact h
  ·rw[List.getElem?_eq_none h] at hr; cases hr
 unfold Yn;simp only[hb,YU,hr,hc,hn,cond_true,hs,Xax hi]
theorem Qcr{τ:List ABlk}{b i j sz:Nat}{rows:List (List AVal)}{row:List AVal}{v:AVal}(hb:hget τ b=.rows sz rows)(hr:rows[i]?=some row)(hv:partA false j 1 row=some v):Zg false 1 [.ptr b i j] τ=.ok v [b] []:=by
 show (match hget τ b with
   |.rows _ rs=>match nth rs i with
    |some row=>match partA false j 1 row with
     |some v=>SRes.ok v [b] []
     |none=>.stop
    |none=>.stop
   | _=>.stop)=_
 rw[hb];simp only[YU,hr,hv]
theorem Yc{σ:List ABlk}{b c:Nat}{x:ABlk}(hbc:b≠c):hget (σ.set c x) b=hget σ b:=by
 rcases Nat.lt_or_ge b σ.length with h|h
 ·have e1:hget σ b=σ[b]:=Xq (by simp[h]);rw[e1];exact Xq (by rw[List.getElem?_set_ne (Ne.symm hbc)]; simp[h])
 ·rw[Yaf h,Yaf (by simpa using h)]
theorem OL.cell{l:List Int}{v:AVal}{σ:List ABlk}(h:OL l v σ):cellsOf v=some [v]:=by
 rcases h with ⟨rfl,_⟩|⟨b,ex,rfl,_⟩<;>rfl
theorem KA.kb{c a:Nat}{σ υ τ:List ABlk}(h:KA c a σ υ)(k:KB c υ τ)(hac:a≠c):KA c a σ τ:=by
 obtain⟨x0,x1,x2,x3,x4,x5,e⟩:=h.2.2;exact h.trans (k.ka hac e)
theorem KA.out{c a n:Nat}{σ τ:List ABlk}(h:KA c a σ τ)(hn:σ.length≤n)(hna:n≠a)(x:ABlk):KA c a σ (τ.set n x):=by
 obtain⟨h1,h2,x0,x1,x2,x3,x4,x5,e⟩:=h;refine⟨by simpa using h1,λd k1 k2 k3=>?_,x0,x1,x2,x3,x4,x5,Xb e (by simp) hna⟩;have:=hlt k3;exact Xb (h2 d k1 k2 k3) k3 (by omega)
theorem KA.seta{c a:Nat}{σ τ:List ABlk}(h:KA c a σ τ)(x0 x1 x2 x3 x4 x5:AVal):KA c a σ (τ.set a (.box [x0,x1,x2,x3,x4,x5])):=by
 obtain⟨y0,y1,y2,y3,y4,y5,e⟩:=h.2.2;exact h.trans (KA.set (by rw[e]; simp) _ _ _ _ _ _)
theorem KA.kp{c a:Nat}{σ υ τ:List ABlk}{v:AVal}(h:KA c a σ υ)(k:Kp v υ τ)(hv:∀d o n e,v=.sl d o n e→σ.length≤d∧d≠a):KA c a σ τ:=by
 obtain⟨h1,h2,x0,x1,x2,x3,x4,x5,e⟩:=h;refine⟨Nat.le_trans h1 k.1,λd k1 k2 k3=>?_,x0,x1,x2,x3,x4,x5,?_⟩
 ·have q:=h2 d k1 k2 k3;have hl:=hlt k3;rw[k.2 d (by rw[q]; exact k3) (λo n e w=>by have:=(hv _ _ _ _ w).1; omega),q]
 ·rw[k.2 a (by rw[e]; simp) (λo n e w=>(hv _ _ _ _ w).2 rfl)]; exact e
theorem XbX{α β:Type}(f:α→β)(l:List α)(x y:α)(k:Nat)(hk:l.length=k):((l++[x]).map f).set k (f y)=(l++[y]).map f:=by
 subst hk;simp
theorem Qam{m n:Nat}(h:n≤m)(hm:m≤1000000000):IntKind.i64.wrap ((m:Int)-(n:Int))=((m-n:Nat):Int):=by
 rw[show (m:Int)-(n:Int)=((m-n:Nat):Int) by omega];exact IntWalk.i64_in _ (by omega)
theorem ZN(b:List UInt8)(p k:Nat):(nums8 b p k).length=k:=by simp[nums8]
attribute [local irreducible] Ans.rd Ans.pu Ans.wr Ans.dr Ans.gr Ans.gw Ans.gl Ans.gd Ans.opt joinK W
set_option maxHeartbeats 8000000
theorem Zc3{b:List UInt8}{p c a:Nat}{x0 x1 x2 x3 x5:AVal}{σ:List ABlk}{Z:PZ}{K:KT}(hc:hget σ c=.box [byV b,iv p,.bool true])(hlen:b.length≤900000000)(hle:p≤b.length)
 (ha:hget σ a=.box [x0,x1,x2,x3,.nils,x5])(hac:a≠c)(hZ:listO 8 numO (b.drop p)=none→∀(q:Nat) τ,KA c a σ τ→Z (.iface 182 (.agg [iv q])) τ)
 (hK:∀l (q:Nat) v τ,q≤b.length→listO 8 numO (b.drop p)=some (l,b.drop q)→KA c a σ τ→hget τ c=.box [byV b,iv q,.bool true]→hget τ a=.box [x0,x1,x2,x3,v,x5]→OL l v τ→(∀d o n e,v=.sl d o n e→σ.length≤d)→K (.tup []) τ) :
  (VV Z).call (.call 84) [.bptr c 0,.bptr a 4,iv 8,.func (.func 85) [.bptr c 0] []] σ K:=by
 refine Ze hP rfl k84.ok rfl ?_;show k84.u (VV Z) [.bptr c 0,.bptr a 4,iv 8,.func (.func 85) [.bptr c 0] []] σ K;rw[H4.e]; unfold k84; dsimp only; simp only[Yb];refine Yd rfl (Yd rfl (Yf (v:=iv p) (Zj hc rfl) rfl (Yd rfl (Yf (v:=.nils) (Zj ha rfl) rfl (Yd (v:=iv 0) rfl ?_)))));refine Yf (Yz σ _) (Yi _ _) (Yf (stv (row':=[iv 0]) (Zc _ _) rfl rfl rfl) (Zb _ (by simp)) ?_);have hσ:(σ++[ABlk.box [AVal.int .i64 0]]).set σ.length (.box [iv 0])=σ++[.box [iv 0]]:=by
  rw[List.set_append_right _ _ (Nat.le_refl _)]; simp
 rw[hσ];have hal:=Qa ha;have n1:c≠σ.length:=by have:=Qa hc; omega
 have n2:a≠σ.length:=by omega
 refine Xv (by simp[Xf,Xj,Yj,Qp,apart2,disj,List.range,List.range.loop,n1,n2]) ?_;have hn:hget (σ++[ABlk.box [iv 0]]) σ.length=.box [iv 0]:=Zc _ _;have hk0:KB c σ (σ++[ABlk.box [iv 0]]):=KB.new _;refine Zcu rfl (Qd _ hc) hlen hle (λ_=>rfl) (λτ k=>⟨0,_,Zj (by rw[k.2 _ n1.symm (by rw[hn]; simp)]; exact hn) rfl⟩) (λe q τ k=>hZ (Xa3 (.inl e)) q τ ((hk0.trans k).ka hac ha)) (λh8 τ k hct=>?_);have hnt:hget τ σ.length=.box [iv 0]:=by rw[k.2 _ n1.symm (by rw[hn]; simp)]; exact hn
 have hat:hget τ a=.box [x0,x1,x2,x3,.nils,x5]:=by rw[(hk0.trans k).2 a hac (by rw[ha]; simp)]; exact ha
 have hv:w64 (d8 ((b.drop p).take 8))=nat8 b p 0:=rfl;rw[hv];refine⟨[(σ.length,.box [iv (nat8 b p 0)])],τ.set σ.length (.box [iv (nat8 b p 0)]),stv hnt rfl rfl rfl,Zb _ (Qa hnt),?_⟩;have hkt:KA c a σ (τ.set σ.length (.box [iv (nat8 b p 0)])):=((hk0.trans k).ka hac ha).out (Nat.le_refl _) n2.symm _;have hct2:hget (τ.set σ.length (.box [iv (nat8 b p 0)])) c=.box [byV b,iv (p+8:Nat),.bool true]:=Xb hct (by simp) n1.symm;have hat2:hget (τ.set σ.length (.box [iv (nat8 b p 0)])) a=.box [x0,x1,x2,x3,.nils,x5]:=Xb hat (by simp) n2.symm;have hnt2:hget (τ.set σ.length (.box [iv (nat8 b p 0)])) σ.length=.box [iv (nat8 b p 0)]:=Xc hnt (by simp);have hnone:=Xa3 (b:=b) (p:=p);have hsome:∀n:Nat,nat8 b p 0=n→n≤(b.length-(p+8))/8→listO 8 numO (b.drop p)=some (nums8 b (p+8) n,b.drop (p+8+8*n)):=λn=>Qb7 h8;generalize τ.set σ.length (.box [iv (nat8 b p 0)])=τ2 at hkt hct2 hnt2 hat2;generalize nat8 b p 0=w at *;refine Za rfl (Za rfl (Za (v:=.bool true) (Zj hct2 rfl) (Qv (Xi ?_))));refine Za (v:=iv w) (Zj hnt2 rfl) (Za (Qn ..) ?_);cases h0:decide (w<0)
 case true=>exact aw (Xal (hZ (hnone (.inr (.inl (by simpa using h0)))) p τ2 hkt))
 refine Ya (Za (v:=iv w) (Zj hnt2 rfl) (Ya (Za rfl (Ya (Za rfl (Ya (Za rfl (Ya (Za (v:=byV b) (Zj hct2 rfl) (Ya (Za (Qe ..) ?_)))))))))));refine Ya (Za rfl (Ya (Za rfl (Ya (Za rfl (Ya (Za (v:=iv (p+8:Nat)) (Zj hct2 rfl) (Ya (Za (YaH ..) ?_)))))))));rw[Qam h8 (by omega)];refine Ya (Za rfl (Ya (Za (quo8 _ (by omega)) (Ya (Za (ZW ..) (Za rfl ?_))))));refine Qv (Zd (λq=>?_) (λq=>?_))
 ·exact Za rfl (Za rfl (Xal (hZ (hnone (.inr (.inr (by simpa using q)))) p τ2 hkt)))
 have h0:¬w<0:=by simpa using h0
 have q:w≤((b.length-(p+8))/8:Nat):=by simp at q; omega
 obtain⟨m,rfl⟩:∃m:Nat,w=m:=⟨w.toNat,by omega⟩;have hs:=hsome m rfl (by omega);refine Za rfl (Xd (stv (row':=[x0,x1,x2,x3,.nils,x5]) hat2 rfl rfl rfl) (Zb _ (Qa hat2)) ?_);have hkt3:=hkt.seta x0 x1 x2 x3 .nils x5;have hct3:hget (τ2.set a (.box [x0,x1,x2,x3,.nils,x5])) c=.box [byV b,iv (p+8:Nat),.bool true]:=Xb hct2 (by simp) hac;have hnt3:hget (τ2.set a (.box [x0,x1,x2,x3,.nils,x5])) σ.length=.box [iv m]:=Xb hnt2 (by simp) n2;have hat3:hget (τ2.set a (.box [x0,x1,x2,x3,.nils,x5])) a=.box [x0,x1,x2,x3,.nils,x5]:=Xc hat2 (by simp);generalize τ2.set a (.box [x0,x1,x2,x3,.nils,x5])=τ3 at hkt3 hct3 hnt3 hat3;refine Za (v:=iv m) (Zj hnt3 rfl) ?_;refine Xp (ι:=Nat) (λi vs υ=>∃v,vs=[iv i]∧i≤m∧KA c a σ υ∧hget υ c=.box [byV b,iv (p+8+8*i:Nat),.bool true]∧hget υ a=.box [x0,x1,x2,x3,v,x5]∧OL (nums8 b (p+8) i) v υ∧∀d o n e,v=.sl d o n e→σ.length≤d)
  (λi=>m-i) 0 ⟨.nils,rfl,by omega,hkt3,hct3,hat3,.inl ⟨rfl,rfl⟩,λ_ _ _ _ e=>by cases e⟩ ?_
 rintro i vs υ again ⟨v,rfl,hi,hkυ,hcυ,haυ,hgυ,hdυ⟩ hag;refine Za (Qn ..) (Zd (λh=>?_) (λh=>?_))
 ·have h:i<m:=by simp at h; omega
  refine Za rfl (Za rfl (Za (v:=.bool true) (Zj hcυ rfl) (Qv (Xi ?_))));refine Za rfl (Za (v:=v) (Zj haυ rfl) (Xd (v:=.sl υ.length 0 1 true) (rd:=[]) (up:=[(υ.length,.rows 1 [cel 0])]) rfl (Yi _ _) ?_));obtain⟨v',up,υ1,e1,e2,e3,e4,e5⟩:=(hgυ.more [.rows 1 [cel 0]]).upd (m:=[0]) (y:=.sl υ.length 0 1 true) (rd:=[υ.length]) (ZJ (Zc _ _) rfl) (by rw[ZN]; simp; omega);have e3:=e3.more;have hdv:∀d o n e,v=.sl d o n e→d≠a∧d≠c:=by
   rintro d o n e rfl;rcases hgυ with ⟨z,_⟩|⟨d',ex,z,hb⟩
   ·cases z
   ·cases z;constructor<;>rintro rfl
    ·rw[haυ] at hb; cases hb
    ·rw[hcυ] at hb; cases hb
  have hkυ1:=hkυ.kp e3 (λd o n e z=>⟨hdυ d o n e z,(hdv d o n e z).1⟩);have haυ1:hget υ1 a=.box [x0,x1,x2,x3,v,x5]:=by rw[e3.2 a (by rw[haυ]; simp) (λo n e z=>(hdv _ _ _ _ z).1 rfl)]; exact haυ
  have hcυ1:hget υ1 c=.box [byV b,iv (p+8+8*i:Nat),.bool true]:=by rw[e3.2 c (by rw[hcυ]; simp) (λo n e z=>(hdv _ _ _ _ z).2 rfl)]; exact hcυ
  have hl:(nums8 b (p+8) i++[0]).length=i+1:=by simp[ZN]
  refine Xd e1 e2 (Za rfl (Xd (stv (row':=[x0,x1,x2,x3,v',x5]) haυ1 e4.cell rfl rfl) (Zb _ (Qa haυ1)) ?_));rcases e4 with ⟨z,_⟩|⟨d,ex,z,hb⟩
  ·rw[e5] at z; cases z
  rw[hl] at e5 z;rw[e5] at z;injection z with z1 z2 z3 z4
  subst z1 z4 e5;have hda:υ.length+1≠a:=by have:=Qa haυ; omega
  have hdc:υ.length+1≠c:=by have:=Qa hcυ; omega
  have hdl:σ.length≤υ.length+1:=by have:=hkυ.1; omega
  rw[show (υ++[ABlk.rows 1 [cel 0]]).length=υ.length+1 by simp] at *;generalize υ.length+1=d at *;have hb2:hget (υ1.set a (.box [x0,x1,x2,x3,.sl d 0 (i+1) false,x5])) d=.rows 1 ((nums8 b (p+8) i++[0]).map cel):=Xb hb (by simp) hda.symm;have ha2:hget (υ1.set a (.box [x0,x1,x2,x3,.sl d 0 (i+1) false,x5])) a=.box [x0,x1,x2,x3,.sl d 0 (i+1) false,x5]:=Xc haυ1 (by simp);have hc2:hget (υ1.set a (.box [x0,x1,x2,x3,.sl d 0 (i+1) false,x5])) c=.box [byV b,iv (p+8+8*i:Nat),.bool true]:=Xb hcυ1 (by simp) hac;have hk2:=hkυ1.seta x0 x1 x2 x3 (.sl d 0 (i+1) false) x5;generalize υ1.set a (.box [x0,x1,x2,x3,.sl d 0 (i+1) false,x5])=υ2 at hb2 ha2 hc2 hk2;have hix:Xl 1 [.sl d 0 (i+1) false,iv i] υ2=.ok (.ptr d (0+i) 0) [d] []:=ZcL υ2 d 0 (i+1) false 1 _ .i64 i (by omega) hb2;rw[Nat.zero_add] at hix;have hrow:((nums8 b (p+8) i++[0]).map cel)[i]?=some (cel 0):=by
   rw[List.getElem?_map,List.getElem?_append_right (by simp[ZN])]; simp[ZN]
  refine Za rfl (Za (v:=.sl d 0 (i+1) false) (Zj ha2 rfl) (Za hix ?_));refine Zcu rfl hc2 hlen (by omega) (λ_=>rfl) (λτ k=>⟨0,[d],Qcr (by rw[k.2 d hdc (by rw[hb2]; simp)]; exact hb2) hrow rfl⟩) (λe q τ k=>by omega) (λh8' τ k hct=>?_);have hbt:hget τ d=.rows 1 ((nums8 b (p+8) i++[0]).map cel):=by rw[k.2 d hdc (by rw[hb2]; simp)]; exact hb2
  have hat':hget τ a=.box [x0,x1,x2,x3,.sl d 0 (i+1) false,x5]:=by rw[k.2 a hac (by rw[ha2]; simp)]; exact ha2
  refine⟨_,_,XcD (row':=cel (nat8 b (p+8) i)) hbt hrow rfl rfl rfl,Zb _ (Qa hbt),?_⟩;rw[XbX cel _ _ _ _ (ZN ..)];refine Za (Xr ..) ?_;rw[Zh (n:=i) (by omega)];refine hag (i+1) _ _ (by omega) ⟨.sl d 0 (i+1) false,rfl,by omega,(hk2.kb k hac).out hdl hda _,?_,Xb hat' (by simp) hda,.inr ⟨d,false,by rw[ZN],?_⟩,λd' o n e z=>by cases z; exact hdl⟩
  ·rw[show p+8+8*(i+1)=p+8+8*i+8 by omega];exact Xb hct (by simp) hdc
  ·rw[Xaf];exact Xc hbt (by simp)
 ·have h:i=m:=by simp at h; omega
  subst h;exact hK _ _ v υ (by omega) hs hkυ hcυ haυ hgυ hdυ
theorem OP.cell{l:List (Int×Int)}{v:AVal}{σ:List ABlk}(h:OP l v σ):cellsOf v=some [v]:=by
 rcases h with ⟨rfl,_⟩|⟨b,ex,rfl,_⟩<;>rfl
theorem OP.more{l:List (Int×Int)}{v:AVal}{σ:List ABlk}(h:OP l v σ)(x:List ABlk):OP l v (σ++x):=by
 rcases h with h|⟨b,ex,h2,h3⟩
 ·exact .inl h
 ·exact .inr ⟨b,ex,h2,Qd x h3⟩
theorem YI(b:List UInt8)(p k:Nat):(pairs8 b p k).length=k:=by simp[pairs8]
def KD(c d:Nat)(σ τ:List ABlk):Prop:=σ.length≤τ.length∧∀e,e≠c→e≠d→hget σ e≠.dead→hget τ e=hget σ e
def rowN(ns:List Int):List AVal:=[iv (ns.getD 0 0),iv (ns.getD 1 0)]
theorem Xc3{k:MK}{xs:List AVal}{b:List UInt8}{p c d i:Nat}{rows:List (List AVal)}{σ:List ABlk}{Z:PZ}{K:KT}(hcal:Zk k xs=some (87,[.bptr c 0,.ptr d i 0]))(hc:hget σ c=.box [byV b,iv p,.bool true])(hlen:b.length≤900000000)
 (hd:hget σ d=.rows 2 rows)(hr:rows[i]?=some [iv 0,iv 0])(hdc:d≠c)(hroom:p+16≤b.length)
 (hK:∀τ,KD c d σ τ→hget τ c=.box [byV b,iv (p+16:Nat),.bool true]→hget τ d=.rows 2 (rows.set i (prC (nat8 b p 0,nat8 b p 1)))→K (.tup []) τ):(VV Z).call k xs σ K:=by
 refine Ze hP hcal g87.ok rfl ?_;show g87.u (VV Z) [.bptr c 0,.ptr d i 0] σ K;rw[H2.e]; unfold g87; dsimp only;have hi:i<rows.length:=by
  rcases Nat.lt_or_ge i rows.length with h|h
  ·exact h
  ·rw[List.getElem?_eq_none h] at hr; cases hr
 have hself:rows.set i (rowN [])=rows:=by
  apply List.ext_getElem?;intro j;rw[List.getElem?_set];split
  ·rename_i e; subst e; rw[hr]; simp[hi,rowN]
  ·rfl
 refine Qv (Yd rfl (Yd rfl (Yd rfl (Yd rfl (Yf (v:=.sl σ.length 0 2 true) (rd:=[]) (up:=[(σ.length,.rows 1 [[.ptr d i 0],[.ptr d i 1]])]) rfl (Yi _ _) (Xv (by simp[Xf,Xj,Yj,Qp,apart2,disj,List.range,List.range.loop]) ?_))))));have n1:c≠σ.length:=by have:=Qa hc; omega
 have n2:d≠σ.length:=by have:=Qa hd; omega
 refine XcX (ps:=[.ptr d i 0,.ptr d i 1]) (p:=p) (λns τ=>KD c d σ τ∧hget τ d=.rows 2 (rows.set i (rowN ns))) (Qd _ hc) hlen (by omega) (Zc _ _) n1.symm (by simp) ?_ ⟨⟨by simp,λe _ _ h=>Qd _ rfl h⟩,by rw[hself]; exact Qd _ hd⟩ ?_ ?_ ?_ ?_ ?_
 ·intro q hq;simp only[List.mem_cons,List.not_mem_nil,or_false] at hq;rcases hq with rfl|rfl<;>exact⟨λ_=>rfl,rfl⟩
 ·rintro ns τ τ' ⟨⟨k1,k2⟩,k3⟩ k;refine⟨⟨Nat.le_trans k1 k.1,λe q1 q2 q3=>?_⟩,by rw[k.2 d hdc (by rw[k3]; simp)]; exact k3⟩;have:=k2 e q1 q2 q3;rw[k.2 e q1 (by rw[this]; exact q3),this]
 ·rintro ns τ h ⟨_,k3⟩;have hrow:(rows.set i (rowN ns))[i]?=some (rowN ns):=by simp[hi]
  match ns,h,k3,hrow with
  |[],_,k3,hrow=>exact⟨_,_,Qcr k3 hrow rfl⟩
  |[x],_,k3,hrow=>exact⟨_,_,Qcr k3 hrow rfl⟩
  |_::_::_,h,_,_=>exact absurd h (by simp)
 ·rintro ns τ n h ⟨⟨k1,k2⟩,k3⟩;have hrow:(rows.set i (rowN ns))[i]?=some (rowN ns):=by simp[hi]
  have hdl:=Qa k3;have key:∀r,KD c d σ (τ.set d (.rows 2 r))∧hget (τ.set d (.rows 2 r)) d=.rows 2 r∧hget (τ.set d (.rows 2 r)) c=hget τ c∧∀y,hget τ σ.length=.rows 1 y→hget (τ.set d (.rows 2 r)) σ.length=hget τ σ.length:=by
   intro r;refine⟨⟨by simpa using k1,λe q1 q2 q3=>by rw[Xb rfl (by rw[k2 e q1 q2 q3]; exact q3) (Ne.symm q2)]; exact k2 e q1 q2 q3⟩,Xc k3 (by simp),?_,λy hy=>by rw[Xb rfl (by rw[hy]; simp) n2]⟩;exact Yc hdc.symm
  match ns,h,k3,hrow with
  |[],_,k3,hrow=>
   refine⟨_,_,XcD (row':=rowN [n]) k3 hrow rfl rfl rfl,Zb _ hdl,?_⟩;rw[List.set_set];obtain⟨q1,q2,q3,q4⟩:=key (rows.set i (rowN [n]));exact⟨⟨q1,q2⟩,q3,q4 _⟩
  |[x],_,k3,hrow=>
   refine⟨_,_,XcD (row':=rowN [x,n]) k3 hrow rfl rfl rfl,Zb _ hdl,?_⟩;rw[List.set_set];obtain⟨q1,q2,q3,q4⟩:=key (rows.set i (rowN [x,n]));exact⟨⟨q1,q2⟩,q3,q4 _⟩
  |_::_::_,h,_,_=>exact absurd h (by simp)
 ·intro ns τ q hq; simp at hq; omega
 ·rintro _ τ ⟨k1,k2⟩ hct;exact hK τ k1 hct k2
theorem XcM{b:List UInt8}{p c a:Nat}{x0 x1 x2 x3 x4:AVal}{σ:List ABlk}{Z:PZ}{K:KT}(hc:hget σ c=.box [byV b,iv p,.bool true])(hlen:b.length≤900000000)(hle:p≤b.length)
 (ha:hget σ a=.box [x0,x1,x2,x3,x4,.nils])(hac:a≠c)(hZ:listO 16 prO (b.drop p)=none→∀(q:Nat) τ,KA c a σ τ→Z (.iface 182 (.agg [iv q])) τ)
 (hK:∀l (q:Nat) v τ,q≤b.length→listO 16 prO (b.drop p)=some (l,b.drop q)→KA c a σ τ→hget τ c=.box [byV b,iv q,.bool true]→hget τ a=.box [x0,x1,x2,x3,x4,v]→OP l v τ→(∀d o n e,v=.sl d o n e→σ.length≤d)→K (.tup []) τ) :
  (VV Z).call (.call 86) [.bptr c 0,.bptr a 5,iv 16,.func (.func 87) [.bptr c 0] []] σ K:=by
 refine Ze hP rfl k86.ok rfl ?_;show k86.u (VV Z) [.bptr c 0,.bptr a 5,iv 16,.func (.func 87) [.bptr c 0] []] σ K;rw[H4.e]; unfold k86; dsimp only; simp only[Yb];refine Yd rfl (Yd rfl (Yf (v:=iv p) (Zj hc rfl) rfl (Yd rfl (Yf (v:=.nils) (Zj ha rfl) rfl (Yd (v:=iv 0) rfl ?_)))));refine Yf (Yz σ _) (Yi _ _) (Yf (stv (row':=[iv 0]) (Zc _ _) rfl rfl rfl) (Zb _ (by simp)) ?_);have hσ:(σ++[ABlk.box [AVal.int .i64 0]]).set σ.length (.box [iv 0])=σ++[.box [iv 0]]:=by
  rw[List.set_append_right _ _ (Nat.le_refl _)]; simp
 rw[hσ];have hal:=Qa ha;have n1:c≠σ.length:=by have:=Qa hc; omega
 have n2:a≠σ.length:=by omega
 refine Xv (by simp[Xf,Xj,Yj,Qp,apart2,disj,List.range,List.range.loop,n1,n2]) ?_;have hn:hget (σ++[ABlk.box [iv 0]]) σ.length=.box [iv 0]:=Zc _ _;have hk0:KB c σ (σ++[ABlk.box [iv 0]]):=KB.new _;refine Zcu rfl (Qd _ hc) hlen hle (λ_=>rfl) (λτ k=>⟨0,_,Zj (by rw[k.2 _ n1.symm (by rw[hn]; simp)]; exact hn) rfl⟩) (λe q τ k=>hZ (Qa3 (.inl e)) q τ ((hk0.trans k).ka hac ha)) (λh8 τ k hct=>?_);have hnt:hget τ σ.length=.box [iv 0]:=by rw[k.2 _ n1.symm (by rw[hn]; simp)]; exact hn
 have hat:hget τ a=.box [x0,x1,x2,x3,x4,.nils]:=by rw[(hk0.trans k).2 a hac (by rw[ha]; simp)]; exact ha
 have hv:w64 (d8 ((b.drop p).take 8))=nat8 b p 0:=rfl;rw[hv];refine⟨[(σ.length,.box [iv (nat8 b p 0)])],τ.set σ.length (.box [iv (nat8 b p 0)]),stv hnt rfl rfl rfl,Zb _ (Qa hnt),?_⟩;have hkt:KA c a σ (τ.set σ.length (.box [iv (nat8 b p 0)])):=((hk0.trans k).ka hac ha).out (Nat.le_refl _) n2.symm _;have hct2:hget (τ.set σ.length (.box [iv (nat8 b p 0)])) c=.box [byV b,iv (p+8:Nat),.bool true]:=Xb hct (by simp) n1.symm;have hat2:hget (τ.set σ.length (.box [iv (nat8 b p 0)])) a=.box [x0,x1,x2,x3,x4,.nils]:=Xb hat (by simp) n2.symm;have hnt2:hget (τ.set σ.length (.box [iv (nat8 b p 0)])) σ.length=.box [iv (nat8 b p 0)]:=Xc hnt (by simp);have hnone:=Qa3 (b:=b) (p:=p);have hsome:∀n:Nat,nat8 b p 0=n→n≤(b.length-(p+8))/16→listO 16 prO (b.drop p)=some (pairs8 b (p+8) n,b.drop (p+8+16*n)):=λn=>Zb8 h8;generalize τ.set σ.length (.box [iv (nat8 b p 0)])=τ2 at hkt hct2 hnt2 hat2;generalize nat8 b p 0=w at *;refine Za rfl (Za rfl (Za (v:=.bool true) (Zj hct2 rfl) (Qv (Xi ?_))));refine Za (v:=iv w) (Zj hnt2 rfl) (Za (Qn ..) ?_);cases h0:decide (w<0)
 case true=>exact aw (Xal (hZ (hnone (.inr (.inl (by simpa using h0)))) p τ2 hkt))
 refine Ya (Za (v:=iv w) (Zj hnt2 rfl) (Ya (Za rfl (Ya (Za rfl (Ya (Za rfl (Ya (Za (v:=byV b) (Zj hct2 rfl) (Ya (Za (Qe ..) ?_)))))))))));refine Ya (Za rfl (Ya (Za rfl (Ya (Za rfl (Ya (Za (v:=iv (p+8:Nat)) (Zj hct2 rfl) (Ya (Za (YaH ..) ?_)))))))));rw[Qam h8 (by omega)];have quo16:∀(n:Nat) {σ:List ABlk},n≤1000000000→Zq .quo false [iv n,iv 16] σ=.ok (iv (n/16:Nat)) [] []:=by
  intro n σ h;have:IntKind.i64.wrap ((n:Int).tdiv 16)=((n/16:Nat):Int):=by
   rw[show (n:Int).tdiv 16=((n/16:Nat):Int) from rfl];exact IntWalk.i64_in _ (by omega)
  show SRes.ok (.int .i64 (IntKind.i64.wrap ((n:Int).tdiv 16))) [] []=_;rw[this]
 refine Ya (Za rfl (Ya (Za (quo16 _ (by omega)) (Ya (Za (ZW ..) (Za rfl ?_))))));refine Qv (Zd (λq=>?_) (λq=>?_))
 ·exact Za rfl (Za rfl (Xal (hZ (hnone (.inr (.inr (by simpa using q)))) p τ2 hkt)))
 have h0:¬w<0:=by simpa using h0
 have q:w≤((b.length-(p+8))/16:Nat):=by simp at q; omega
 obtain⟨m,rfl⟩:∃m:Nat,w=m:=⟨w.toNat,by omega⟩;have hs:=hsome m rfl (by omega);refine Za rfl (Xd (stv (row':=[x0,x1,x2,x3,x4,.nils]) hat2 rfl rfl rfl) (Zb _ (Qa hat2)) ?_);have hkt3:=hkt.seta x0 x1 x2 x3 x4 .nils;have hct3:hget (τ2.set a (.box [x0,x1,x2,x3,x4,.nils])) c=.box [byV b,iv (p+8:Nat),.bool true]:=Xb hct2 (by simp) hac;have hnt3:hget (τ2.set a (.box [x0,x1,x2,x3,x4,.nils])) σ.length=.box [iv m]:=Xb hnt2 (by simp) n2;have hat3:hget (τ2.set a (.box [x0,x1,x2,x3,x4,.nils])) a=.box [x0,x1,x2,x3,x4,.nils]:=Xc hat2 (by simp);generalize τ2.set a (.box [x0,x1,x2,x3,x4,.nils])=τ3 at hkt3 hct3 hnt3 hat3;refine Za (v:=iv m) (Zj hnt3 rfl) ?_;refine Xp (ι:=Nat) (λi vs υ=>∃v,vs=[iv i]∧i≤m∧KA c a σ υ∧hget υ c=.box [byV b,iv (p+8+16*i:Nat),.bool true]∧hget υ a=.box [x0,x1,x2,x3,x4,v]∧OP (pairs8 b (p+8) i) v υ∧∀d o n e,v=.sl d o n e→σ.length≤d)
  (λi=>m-i) 0 ⟨.nils,rfl,by omega,hkt3,hct3,hat3,.inl ⟨rfl,rfl⟩,λ_ _ _ _ e=>by cases e⟩ ?_
 rintro i vs υ0 again ⟨v,rfl,hi,hkυ0,hcυ0,haυ0,hgυ0,hdυ⟩ hag;refine Za (Qn ..) (Zd (λh=>?_) (λh=>?_))
 ·have h:i<m:=by simp at h; omega
  refine Za rfl (Za rfl (Za (v:=.bool true) (Zj hcυ0 rfl) (Qv (Xi ?_))));refine Xd (v:=.bptr υ0.length 0) (rd:=[]) (up:=[(υ0.length,.box [iv 0,iv 0])]) rfl (Yi _ _) ?_;have hkυ:=hkυ0.new (.box [iv 0,iv 0]);have hcυ:=Qd [ABlk.box [iv 0,iv 0]] hcυ0;have haυ:=Qd [ABlk.box [iv 0,iv 0]] haυ0;have hgυ:=hgυ0.more [ABlk.box [iv 0,iv 0]];have htυ:=Zc υ0 (ABlk.box [iv 0,iv 0]);generalize υ0.length=t at htυ;generalize υ0++[ABlk.box [iv 0,iv 0]]=υ at hkυ hcυ haυ hgυ htυ;refine Yd rfl (Yf (v:=v) (Zj haυ rfl) rfl (Yf (v:=.agg [iv 0,iv 0]) (Zj htυ rfl) rfl (Yf (v:=.sl υ.length 0 1 true) (rd:=[]) (up:=[(υ.length,.rows 2 [prC (0,0)])]) rfl (Yi _ _) ?_)));obtain⟨v',up,υ1,e1,e2,e3,e4,e5,e6⟩:=(hgυ.more [.rows 2 [prC (0,0)]]).upd (m:=[(0,0)]) (y:=.sl υ.length 0 1 true) (rd:=[υ.length]) (ZJ (Zc _ _) rfl) (by rw[YI]; simp; omega);have e3:=e3.more;have hdv:∀d o n e,v=.sl d o n e→d≠a∧d≠c:=by
   rintro d o n e rfl;rcases hgυ with ⟨z,_⟩|⟨d',ex,z,hb⟩
   ·cases z
   ·cases z;constructor<;>rintro rfl
    ·rw[haυ] at hb; cases hb
    ·rw[hcυ] at hb; cases hb
  have hkυ1:=hkυ.kp e3 (λd o n e z=>⟨hdυ d o n e z,(hdv d o n e z).1⟩);have haυ1:hget υ1 a=.box [x0,x1,x2,x3,x4,v]:=by rw[e3.2 a (by rw[haυ]; simp) (λo n e z=>(hdv _ _ _ _ z).1 rfl)]; exact haυ
  have hcυ1:hget υ1 c=.box [byV b,iv (p+8+16*i:Nat),.bool true]:=by rw[e3.2 c (by rw[hcυ]; simp) (λo n e z=>(hdv _ _ _ _ z).2 rfl)]; exact hcυ
  have hl:(pairs8 b (p+8) i++[(0,0)]).length=i+1:=by simp[YI]
  have haυl:=Qa haυ;refine Yf e1 e2 (Yd rfl (Yf (stv (row':=[x0,x1,x2,x3,x4,v']) haυ1 e4.cell rfl rfl) (Zb _ (Qa haυ1)) (Xv ?_ ?_)))
  ·rw[e6];have m1:a≠υ.length:=by omega
   cases v<;>simp[upsOf,Xf,Xj,Yj,Qp,apart2,disj,List.range,List.range.loop,m1,m1.symm]
  clear e6;rcases e4 with ⟨z,_⟩|⟨d,ex,z,hb⟩
  ·rw[e5] at z; cases z
  rw[hl] at e5 z;rw[e5] at z;injection z with z1 z2 z3 z4
  subst z1 z4 e5;have hda:υ.length+1≠a:=by omega
  have hdc:υ.length+1≠c:=by have:=Qa hcυ; omega
  have hdl:σ.length≤υ.length+1:=by have:=hkυ.1; omega
  rw[show (υ++[ABlk.rows 2 [prC (0,0)]]).length=υ.length+1 by simp] at *;generalize υ.length+1=d at *;have hb2:hget (υ1.set a (.box [x0,x1,x2,x3,x4,.sl d 0 (i+1) false])) d=.rows 2 ((pairs8 b (p+8) i++[(0,0)]).map prC):=Xb hb (by simp) hda.symm;have ha2:hget (υ1.set a (.box [x0,x1,x2,x3,x4,.sl d 0 (i+1) false])) a=.box [x0,x1,x2,x3,x4,.sl d 0 (i+1) false]:=Xc haυ1 (by simp);have hc2:hget (υ1.set a (.box [x0,x1,x2,x3,x4,.sl d 0 (i+1) false])) c=.box [byV b,iv (p+8+16*i:Nat),.bool true]:=Xb hcυ1 (by simp) hac;have hk2:=hkυ1.seta x0 x1 x2 x3 x4 (.sl d 0 (i+1) false);generalize υ1.set a (.box [x0,x1,x2,x3,x4,.sl d 0 (i+1) false])=υ2 at hb2 ha2 hc2 hk2;have hix:Xl 2 [.sl d 0 (i+1) false,iv i] υ2=.ok (.ptr d (0+i) 0) [d] []:=ZcL υ2 d 0 (i+1) false 2 _ .i64 i (by omega) hb2;rw[Nat.zero_add] at hix;have hrow:((pairs8 b (p+8) i++[(0,0)]).map prC)[i]?=some [iv 0,iv 0]:=by
   rw[List.getElem?_map,List.getElem?_append_right (by simp[YI])]; simp[YI,prC]
  refine Za rfl (Za (v:=.sl d 0 (i+1) false) (Zj ha2 rfl) (Za hix ?_));refine Xc3 rfl hc2 hlen hb2 hrow hdc (by omega) (λτ k hct hbt=>?_);have hat':hget τ a=.box [x0,x1,x2,x3,x4,.sl d 0 (i+1) false]:=by rw[k.2 a hac hda.symm (by rw[ha2]; simp)]; exact ha2
  rw[XbX prC _ _ _ _ (YI ..)] at hbt;refine Za (Xr ..) ?_;rw[Zh (n:=i) (by omega)];have hps:pairs8 b (p+8) (i+1)=pairs8 b (p+8) i++[(nat8 b (p+8+16*i) 0,nat8 b (p+8+16*i) 1)]:=by
   rw[XaQ];unfold nat8;rw[show p+8+16*i+8*0=p+8+8*(2*i) by omega,show p+8+16*i+8*1=p+8+8*(2*i+1) by omega]
  refine hag (i+1) _ _ (by omega) ⟨.sl d 0 (i+1) false,rfl,by omega,?_,by rw[show p+8+16*(i+1)=p+8+16*i+16 by omega]; exact hct,hat',.inr ⟨d,false,by rw[YI],?_⟩,λd' o n e z=>by cases z; exact hdl⟩
  ·refine⟨Nat.le_trans hk2.1 k.1,λe q1 q2 q3=>?_,_,_,_,_,_,_,hat'⟩;have q4:=hk2.2.1 e q1 q2 q3;have:=hlt q3;rw[k.2 e q1 (by omega) (by rw[q4]; exact q3),q4]
  ·rw[hps]; exact hbt
 ·have h:i=m:=by simp at h; omega
  subst h;exact hK _ _ v υ0 (by omega) hs hkυ0 hcυ0 haυ0 hgυ0 hdυ
theorem ZaU{b:List UInt8}{p:Nat}(h:p+8≤b.length)(hr:R8 (nat8 b p 0)):YO (b.drop p)=some (nat8 b p 0,b.drop (p+8)):=by
 unfold YO R8 at *;rw[Yl h];simp only[Option.bind_some];rw[YIN (by omega)]
theorem QbK{b:List UInt8}{p:Nat}(h:b.length<p+8∨¬R8 (nat8 b p 0)):YO (b.drop p)=none:=by
 unfold YO;by_cases h8:b.length<p+8
 ·rw[QM h8]; rfl
 ·rw[Yl (by omega)];simp only[Option.bind_some];unfold R8 at h;rw[YIP (by omega)]
theorem Xcg{b:List UInt8}{l1:List Int}{l2:List (Int×Int)}{q1 q2:Nat}(h8:32≤b.length)(hr:R8 (nat8 b 0 0))(h1:listO 8 numO (b.drop 32)=some (l1,b.drop q1))(h2:listO 16 prO (b.drop q1)=some (l2,b.drop q2)) :
  actO b=some (⟨nat8 b 0 0,nat8 b 8 0,nat8 b 8 1,nat8 b 8 2,l1,l2⟩,b.drop q2):=by
 have e0:=ZaU (b:=b) (p:=0) (by omega) hr;have e1:=Yl (b:=b) (p:=8) (by omega);have e2:=Yl (b:=b) (p:=16) (by omega);have e3:=Yl (b:=b) (p:=24) (by omega);rw[List.drop_zero] at e0;have n2:nat8 b 16 0=nat8 b 8 1:=by unfold nat8; rfl
 have n3:nat8 b 24 0=nat8 b 8 2:=by unfold nat8; rfl
 unfold actO seqR;simp only[e0,e1,e2,e3,h1,h2,n2,n3,Option.bind_some,Option.map_some,acP,Nat.reduceAdd,Nat.zero_add]
theorem Xao{b:List UInt8}(h:b.length<32∨¬R8 (nat8 b 0 0)∨listO 8 numO (b.drop 32)=none∨∃l1 q1,listO 8 numO (b.drop 32)=some (l1,b.drop q1)∧listO 16 prO (b.drop q1)=none):actO b=none:=by
 have hz:b=b.drop 0:=(List.drop_zero).symm;unfold actO seqR;by_cases h0:b.length<8∨¬R8 (nat8 b 0 0)
 ·have:=QbK (b:=b) (p:=0) (by simpa using h0);rw[←hz] at this;simp[this]
 have e0:=ZaU (b:=b) (p:=0) (by omega) (Classical.not_not.1 λh=>h0 (.inr h));rw[List.drop_zero] at e0;simp only[e0,Option.bind_some,Nat.zero_add];by_cases h1:b.length<16
 ·simp[QM (b:=b) (p:=8) (by omega)]
 simp only[Yl (b:=b) (p:=8) (by omega),Option.bind_some,Nat.reduceAdd];by_cases h2:b.length<24
 ·simp[QM (b:=b) (p:=16) (by omega)]
 simp only[Yl (b:=b) (p:=16) (by omega),Option.bind_some,Nat.reduceAdd];by_cases h3:b.length<32
 ·simp[QM (b:=b) (p:=24) (by omega)]
 simp only[Yl (b:=b) (p:=24) (by omega),Option.bind_some,Nat.reduceAdd];have h:listO 8 numO (b.drop 32)=none∨∃l1 q1,listO 8 numO (b.drop 32)=some (l1,b.drop q1)∧listO 16 prO (b.drop q1)=none:=by
  rcases h with h|h|h
  ·exact(h3 h).elim
  ·exact(h0 (.inr h)).elim
  ·exact h
 rcases h with h|⟨l1,q1,h,h'⟩
 ·simp[h]
 ·simp[h,h']
def row3(o:Int)(ns:List Int):List AVal:=[iv8 o,iv (ns.getD 0 0),iv (ns.getD 1 0),iv (ns.getD 2 0),.nils,.nils]
theorem Zch{k:MK}{xs:List AVal}{b:List UInt8}{c a:Nat}{σ:List ABlk}{Z:PZ}{K:KT}(hcal:Zk k xs=some (65,[.bptr c 0,.bptr a 0]))(hc:hget σ c=.box [byV b,iv 0,.bool true])(hlen:b.length≤900000000)
 (ha:hget σ a=.box [iv8 0,iv 0,iv 0,iv 0,.nils,.nils])(hac:a≠c)(hZ:actO b=none→∀(q:Nat) τ,KA c a σ τ→Z (.iface 182 (.agg [iv q])) τ)
 (hK:∀x (q:Nat) v w τ,q≤b.length→actO b=some (x,b.drop q)→KA c a σ τ→hget τ c=.box [byV b,iv q,.bool true]→hget τ a=.box [iv8 x.op,iv x.side,iv x.place,iv x.target,v,w]→OL x.ids v τ→OP x.prs w τ→K (.tup []) τ) :
  (VV Z).call k xs σ K:=by
 refine Ze hP hcal g65.ok rfl ?_;show g65.u (VV Z) [.bptr c 0,.bptr a 0] σ K;rw[H2.e]; unfold g65; dsimp only;refine aw (Qc4 (p:=0) hc hlen (by omega) ha hac (λe q τ k=>hZ (Xao (e.elim (λe=>.inl (by omega)) (λe=>.inr (.inl e)))) q τ (k.ka hac ha)) (λh8 hr σ1 k1 hc1=>?_));have ka1:KA c a σ σ1:=(KA.set (by rw[ha]; simp) _ _ _ _ _ _).kb k1 hac;have ha1:hget σ1 a=.box [iv8 (nat8 b 0 0),iv 0,iv 0,iv 0,.nils,.nils]:=by
  have q:=Xc (x:=.box [iv8 (nat8 b 0 0),iv 0,iv 0,iv 0,.nils,.nils]) ha (by simp);rw[k1.2 a hac (by rw[q]; simp)]; exact q
 refine Qv (Yd rfl (Yd rfl (Yd rfl (Yd rfl (Yd rfl (Yd rfl (Yf (v:=.sl σ1.length 0 3 true) (rd:=[]) (up:=[(σ1.length,.rows 1 [[.bptr a 1],[.bptr a 2],[.bptr a 3]])]) rfl (Yi _ _) (Xv (by simp[Xf,Xj,Yj,Qp,apart2,disj,List.range,List.range.loop]) ?_))))))));have n1:c≠σ1.length:=by have:=Qa hc1; omega
 have n2:a≠σ1.length:=by have:=Qa ha1; omega
 refine XcX (ps:=[.bptr a 1,.bptr a 2,.bptr a 3]) (p:=0+8) (λns τ=>KA c a σ τ∧hget τ a=.box (row3 (nat8 b 0 0) ns)) (Qd _ hc1) hlen (by omega) (Zc _ _) n1.symm (by simp) ?_ ⟨ka1.new _,Qd _ ha1⟩ ?_ ?_ ?_ ?_ ?_
 ·intro q hq;simp only[List.mem_cons,List.not_mem_nil,or_false] at hq;rcases hq with rfl|rfl|rfl<;>exact⟨λ_=>rfl,rfl⟩
 ·rintro ns τ τ' ⟨k2,k3⟩ k;exact⟨k2.kb k hac,by rw[k.2 a hac (by rw[k3]; simp)]; exact k3⟩
 ·rintro ns τ h ⟨_,k3⟩
  match ns,h,k3 with
  |[],_,k3=>exact⟨_,_,Zj k3 rfl⟩
  |[_],_,k3=>exact⟨_,_,Zj k3 rfl⟩
  |[_,_],_,k3=>exact⟨_,_,Zj k3 rfl⟩
  |_::_::_::_,h,_=>exact absurd h (by simp)
 ·rintro ns τ n h ⟨k2,k3⟩;have hal:=Qa k3;have key:∀y0 y1 y2 y3 y4 y5,KA c a σ (τ.set a (.box [y0,y1,y2,y3,y4,y5]))∧hget (τ.set a (.box [y0,y1,y2,y3,y4,y5])) a=.box [y0,y1,y2,y3,y4,y5]∧hget (τ.set a (.box [y0,y1,y2,y3,y4,y5])) c=hget τ c∧∀y,hget τ σ1.length=.rows 1 y→hget (τ.set a (.box [y0,y1,y2,y3,y4,y5])) σ1.length=hget τ σ1.length:=by
   intro y0 y1 y2 y3 y4 y5;refine⟨k2.seta _ _ _ _ _ _,Xc k3 (by simp),Yc hac.symm,λy hy=>Yc n2.symm⟩
  match ns,h,k3 with
  |[],_,k3=>
   obtain⟨q1,q2,q3,q4⟩:=key (iv8 (nat8 b 0 0)) (iv n) (iv 0) (iv 0) .nils .nils;exact⟨_,_,stv (row':=row3 (nat8 b 0 0) [n]) k3 rfl rfl rfl,Zb _ hal,⟨q1,q2⟩,q3,q4 _⟩
  |[x],_,k3=>
   obtain⟨q1,q2,q3,q4⟩:=key (iv8 (nat8 b 0 0)) (iv x) (iv n) (iv 0) .nils .nils;exact⟨_,_,stv (row':=row3 (nat8 b 0 0) [x,n]) k3 rfl rfl rfl,Zb _ hal,⟨q1,q2⟩,q3,q4 _⟩
  |[x,y],_,k3=>
   obtain⟨q1,q2,q3,q4⟩:=key (iv8 (nat8 b 0 0)) (iv x) (iv y) (iv n) .nils .nils;exact⟨_,_,stv (row':=row3 (nat8 b 0 0) [x,y,n]) k3 rfl rfl rfl,Zb _ hal,⟨q1,q2⟩,q3,q4 _⟩
  |_::_::_::_,h,_=>exact absurd h (by simp)
 ·rintro ns τ q hq ⟨k2,_⟩;exact hZ (Xao (.inl (by simp at hq; omega))) q τ k2
 rintro h24 σ3 ⟨ka3,ha3⟩ hc3;have h24:32≤b.length:=by simp at h24; omega
 have hc3:hget σ3 c=.box [byV b,iv (32:Nat),.bool true]:=hc3;have ha3:hget σ3 a=.box [iv8 (nat8 b 0 0),iv (nat8 b 8 0),iv (nat8 b 8 1),iv (nat8 b 8 2),.nils,.nils]:=ha3;refine aw (Zc3 hc3 hlen h24 ha3 hac (λe q τ k=>hZ (Xao (.inr (.inr (.inl e)))) q τ (ka3.trans k)) (λl1 q1 v τ4 hq1 hl1 k4 hc4 ha4 hol hv=>?_));have ka4:=ka3.trans k4;refine aw (XcM hc4 hlen hq1 ha4 hac (λe q τ k=>hZ (Xao (.inr (.inr (.inr ⟨l1,q1,hl1,e⟩)))) q τ (ka4.trans k)) (λl2 q2 w τ5 hq2 hl2 k5 hc5 ha5 hop hw=>?_));refine aw (hK ⟨nat8 b 0 0,nat8 b 8 0,nat8 b 8 1,nat8 b 8 2,l1,l2⟩ q2 v w τ5 hq2 (Xcg h24 hr hl1 hl2) (ka4.trans k5) hc5 ha5 ?_ hop);rcases hol with z|⟨d,ex,z,hb⟩
 ·exact .inl z
 ·refine .inr ⟨d,ex,z,?_⟩;rw[k5.2.1 d (by rintro rfl; rw[hc4] at hb; cases hb) (by rintro rfl; rw[ha4] at hb; cases hb) (by rw[hb]; simp)];exact hb
end Go.Ah.Tz
end
section
namespace Go.Ah
section
variable {P:Program} {GL:Globs} {Z:PZ}
theorem Qbc(hP:POk P){n:Nat}{w0:World}{L:Ln}{Qw:Exit→Act→World→Prop}(m:DCode){c:Code}{ρ:Frame}{σ:List ABlk}{K:Frame→List ABlk→Prop}{E:Nat→Frame→List ABlk→Prop}{R:Frame→List ABlk→Prop}{g:Gm}{a:Act}{w:World}
 (hs:straight true [] m=true)(hc:CodeOk P GL n c m.er)(r:Rep GL w0 L g (hp σ) w)(d:DenF n g ρ a)(h:dn (W P GL Z) m ρ σ K E R)
 (hK:∀g' ρ' σ' a' w',g.Le g'→Rep GL w0 L g' (hp σ') w'→DenF n g' ρ' a'→K ρ' σ'→Qw .normal a' w')
 (hE:∀i g' ρ' σ' a' w',g.Le g'→Rep GL w0 L g' (hp σ') w'→DenF n g' ρ' a'→E i ρ' σ'→Qw (.exit i) a' w')
 (hR:∀g' ρ' σ' a' w',g.Le g'→Rep GL w0 L g' (hp σ') w'→DenF n g' ρ' a'→R ρ' σ'→Qw .ret a' w')
 (hZ:∀g' x σ' u a' w',g.Le g'→Rep GL w0 L g' (hp σ') w'→DenF n g' [] a'→g'.den x u→Z x σ'→Qw (.panic [{ v:=u,recovered:=false }]) a' w'):c.wpIn (wz none) 0 P Qw a w:=by
 have:=QaN hP true [] [] (λ_=>⟨rfl,rfl⟩) m hs hc r d h (Qw:=Qw) (λg' ρ' σ' a' w' k1 k2 k3 _ k5=>by rw[Z3]; exact hK g' ρ' σ' a' w' k1 k2 k3 k5) (λi g' ρ' σ' a' w' k1 k2 k3 _ k5=>by rw[Z3]; exact hE i g' ρ' σ' a' w' k1 k2 k3 k5)
  (λg' ρ' σ' a' w' k1 k2 k3 _ k5=>by rw[Z3]; exact hR g' ρ' σ' a' w' k1 k2 k3 k5) (λg' x σ' u a' w' k1 k2 k3 _ k5 k6=>by rw[Z3]; exact hZ g' x σ' u a' w' k1 k2 k3 k5 k6)
 rwa [Z3] at this
theorem Ybj{f:FuncId}{xs:List AVal}{σ:List ABlk}{K:KT}
 (key:∀(w0:World) (L:Ln) (g:Gm) (w:World) (vs:List Value),Rep GL w0 L g (hp σ) w→DenL g xs vs→Calls P f vs.toArray w (OutE GL w0 L g K Z)):(W P GL Z).call (.call f) xs σ K:=by
 refine⟨K,?_,λ_ _ q=>q⟩;intro o os hco w0 L g w a r hx;generalize ho:o.op=op at hco;cases hco with
 |call _ args ts _=>
  have hrun:(execOp a.eval o).run P w=.ok (.enter f (args.map a.eval)) w:=by
   simp_all [execOp,resolve,Act.eval,Deferred.ofValue,invoke,QB]
  rw[hrun];have:=key w0 L g w _ r hx
  rwa [←Array.toList_map,Array.toArray_toList] at this
def Recs(u:FrameMode)(rv:Value)(u':FrameMode):Prop:=∀(c₀:Go.Frame) (cs:List Go.Frame),c₀.mode=u →
 (recoverD (c₀::cs)=some (rv,{ c₀ with mode:=u' }::cs))∨(recoverD (c₀::cs)=none∧rv=.nilIface∧u'=u)
theorem QcP:Recs .returning .nilIface .returning:=λc₀ cs h=>.inr ⟨by simp[recoverD,h],rfl,rfl⟩
theorem Xb8(v:Value):Recs (.panicking [{ v,recovered:=false }]) v (.panicking [{ v,recovered:=true }]):=λc₀ cs h=>.inl (by simp[recoverD,h])
end
end Go.Ah
namespace Go.Ah.Tz
open Go.Proofs.Tryz (prog)
set_option maxRecDepth 100000
set_option maxHeartbeats 4000000
theorem clo88{u u':FrameMode}{rv:Value}(hrec:Recs u rv u'){w0:World}{L:Ln}{g:Gm}{w:World}{σ:List ABlk}{x0 x1 x2 x3 x7:AVal}{p0 p1 p2 p3:Value}(r:Rep GL0 w0 L g (hp σ) w)(hdk:g.dk=[])(hx:DenL g [x0,x1,x2,x3] [p0,p1,p2,p3])(hrv:g.den x7 rv)
 {Kσ:List ABlk→Prop}(hwalk:dn (VV noZ) (d88 prog) [(0,x0),(1,x1),(2,x2),(3,x3),(7,x7)] σ (λ_ σ=>Kσ σ) (λ_ _ _=>False) (λ_ _=>False)) :
  CallsDIn (wz none) 0 prog 88 #[p0,p1,p2,p3] u w (λe u2 w'=>(∃v,e=.returned v)∧u2=u'∧∃g' σ',g.Le g'∧Rep GL0 w0 L g' (hp σ') w'∧Kσ σ'):=by
 refine callsDIn_of_wpSIn Go.Proofs.Tryz.func88 Xc9 trivial λc₀ cs hu=>?_;rw[n88];have d0:DenF 16 g (frame0 [x0,x1,x2,x3]) { tmps:=#[p0,p1,p2,p3]++Array.replicate (16 - #[p0,p1,p2,p3].size) undef,defers:=[] }:=ZaA hdk hx (n:=16) (by simp);generalize ({ tmps:=#[p0,p1,p2,p3]++Array.replicate (16 - #[p0,p1,p2,p3].size) undef,defers:=[] }:Act)=a0 at d0;have fin:∀cs',cs' = { c₀ with mode:=u' }::cs→(e88 prog).wpSIn (wz none) 0 prog (bodyPostS prog Go.Proofs.Tryz.f88 c₀ cs (λe u2 w'=>(∃v,e=.returned v)∧u2=u'∧∃g' σ',g.Le g'∧Rep GL0 w0 L g' (hp σ') w'∧Kσ σ')) (a0.put (some 7) rv) cs' w:=by
  rintro cs' rfl;have d1:DenF 16 g [(0,x0),(1,x1),(2,x2),(3,x3),(7,x7)] (a0.put (some 7) rv):=(d0.put (d:=7) (by decide) hrv).weak (Qab.le ⟨rfl,rfl,rfl,rfl,rfl,trivial⟩);have er:(d88 prog).er=mcC prog 16 (e88 prog):=Xw _ _ _;refine wpSIn_of_wpIn rfl (Qbc hP (d88 prog) s88 (er▸c88_1) r d1 hwalk (λg' ρ' σ' a' w' k1 k2 k3 k4=>?_) (λ_ _ _ _ _ _ _ _ _ k=>k.elim) (λ_ _ _ _ _ _ _ _ k=>k.elim) (λ_ _ _ _ _ _ _ _ _ _ k=>k.elim));obtain⟨uo,ho1,ho2⟩:=XU (P:=prog) k2 k3 r88 (v:=.tup []) rfl;refine⟨?_,u',rfl,uo,ho1,⟨uo,rfl⟩,rfl,g',σ',k1,k2,k4⟩;have:=k3.defers;rw[k1.k,hdk] at this;exact this
 refine wpSIn_seq (wpSIn_region ?_);rw[z88];obtain⟨h1,⟨ts,h2⟩,h3,h4⟩:=o88_0;simp only[show List.range 1=[0] from rfl,wpOpsSIn,h1];refine⟨λ_ _=>trivial,?_⟩;rw[YIP (by simp[Region.wanted,h4])];have hrun:(execOp a0.eval (opAt (o88 prog) 0)).run prog w=.ok .recover w:=by
  simp[execOp,h2,resolve,builtin,Sem.run_pure,invoke,Sem.run]
 rw[hrun,h3];rcases hrec c₀ cs hu with h|⟨h,hv,hu'⟩
 ·simp only[h];exact fin _ rfl
 ·simp only[h];subst hv hu';refine fin _ ?_;rw[←hu]
end Go.Ah.Tz
end
section
namespace Go.Ah.Tz
open Go.Proofs.Tryz (prog)
set_option maxRecDepth 100000
@[reducible] def zC:List AVal:=[iv8 0,iv 0,iv 0,iv 0,.nils,.nils]
def KS(σ τ:List ABlk):Prop:=σ.length≤τ.length∧∀d,hget σ d≠.dead→hget τ d=hget σ d
theorem dnW{m:DCode}{ρ:Frame}{σ:List ABlk}{K:Frame→List ABlk→Prop}{Z:PZ}(h:dn (VV Z) m ρ σ K (λ_ _ _=>(VV Z).stop) (λ_ _=>(VV Z).stop)):dn (VV Z) m ρ σ K (λ_ _ _=>False) (λ_ _=>False):=h
attribute [local irreducible] Ans.rd Ans.pu Ans.wr Ans.dr Ans.gr Ans.gw Ans.gl Ans.gd Ans.opt joinK W
set_option maxHeartbeats 8000000
theorem w88i(x0 x1 x2 x3:AVal){σ:List ABlk}{K:List ABlk→Prop}(hK:K σ):dn (VV noZ) (d88 prog) [(0,x0),(1,x1),(2,x2),(3,x3),(7,.nili)] σ (λ_ σ=>K σ) (λ_ _ _=>False) (λ_ _=>False):=by
 have:=d88e x0 x1 x2 x3 .nili Prop (VV noZ) σ K;refine dnW ?_;rw[this];exact Za rfl (Xi hK)
theorem w88p{n q:Nat}{y0 y1 y2 y3 y4 y5 u v:AVal}{σ:List ABlk}{K:List ABlk→Prop}(hx:hget σ n=.box [y0,y1,y2,y3,y4,y5])(hy:hget σ (n+1)=.box [u])(he:hget σ (n+2)=.box [v])(hz:hget σ (n+3)=.box zC)
 (hK:∀τ,hget τ n=.box zC→hget τ (n+1)=.box [iv q]→hget τ (n+2)=.box [iv 180]→σ.length≤τ.length→(∀d,d<n→hget σ d≠.dead→hget τ d=hget σ d)→K τ) :
  dn (VV noZ) (d88 prog) [(0,.bptr (n+3) 0),(1,.bptr n 0),(2,.bptr (n+1) 0),(3,.bptr (n+2) 0),(7,.iface 182 (.agg [iv q]))] σ (λ_ σ=>K σ) (λ_ _ _=>False) (λ_ _=>False):=by
 have:=d88e (.bptr (n+3) 0) (.bptr n 0) (.bptr (n+1) 0) (.bptr (n+2) 0) (.iface 182 (.agg [iv q])) Prop (VV noZ) σ K;refine dnW ?_;rw[this];refine Za rfl (Qf (Za rfl (Za rfl (Za rfl (Xi ?_)))));refine Xd (Yz σ _) (Yi _ _) (Xd (stv (row':=[iv q]) (Zc _ _) rfl rfl rfl) (Zb _ (by simp)) ?_);have hσ:(σ++[ABlk.box [AVal.int .i64 0]]).set σ.length (.box [iv q])=σ++[.box [iv q]]:=by
  rw[List.set_append_right _ _ (Nat.le_refl _)]; simp
 rw[hσ];have hzl:=Qa hz;have hx:=Qd [ABlk.box [iv q]] hx;have hy:=Qd [ABlk.box [iv q]] hy;have he:=Qd [ABlk.box [iv q]] he;have hz:=Qd [ABlk.box [iv q]] hz;have hn:=Zc σ (.box [iv q]);have hk:∀d,hget σ d≠.dead→hget (σ++[ABlk.box [iv q]]) d=hget σ d:=λd h=>Qd _ rfl h;have hl:σ.length≤(σ++[ABlk.box [iv q]]).length:=by simp
 generalize hm:σ.length=m at hn;generalize σ++[ABlk.box [iv q]]=τ at hx hy he hz hn hk hl;refine Yf (v:=.agg zC) (Zj hz rfl) rfl (Yd rfl (Yf (v:=iv q) (Zj hn rfl) rfl ?_));have hxl:=Qa hx;have hyl:=Qa hy;have hel:=Qa he;refine Yf (stv (row':=zC) hx rfl rfl rfl) (Zb _ hxl) ?_;refine Yf (stv (row':=[iv q]) (Xb hy (by simp) (by omega)) rfl rfl rfl) (Zb _ (by simpa using hyl)) ?_;refine Yf (stv (row':=[iv 180]) (Xb (Xb he (by simp) (by omega)) (by simp) (by omega)) rfl rfl rfl) (Zb _ (by simpa using hel)) ?_;refine Xv (by simp[Xf,Xj,Yj,Qp,apart2,disj,List.range,List.range.loop]; try omega) ?_;refine hK _ ?_ ?_ ?_ (by simpa using hl) (λd hd hnd=>?_)
 ·rw[Yc (by omega),Yc (by omega)]; exact Xc hx (by simp)
 ·rw[Yc (by omega)];exact Xc (Xb hy (by simp) (by omega)) (by simp)
 ·exact Xc (Xb (Xb he (by simp) (by omega)) (by simp) (by omega)) (by simp)
 ·rw[Yc (by omega),Yc (by omega),Yc (by omega)]; exact hk d hnd
def Zw(b:List UInt8)(σ:List ABlk):PZ:=λv τ=>∃q:Nat,v=.iface 182 (.agg [iv q])∧(∀x,actO b≠some (x,[]))∧KS σ τ∧(∃y0 y1 y2 y3 y4 y5,hget τ σ.length=.box [y0,y1,y2,y3,y4,y5])∧(∃u,hget τ (σ.length+1)=.box [u])∧(∃u,hget τ (σ.length+2)=.box [u])∧hget τ (σ.length+3)=.box zC
def Gw(b:List UInt8)(σ τ:List ABlk):Prop:=∃x v w,actO b=some (x,[])∧KS σ τ∧hget τ σ.length=.box [iv8 x.op,iv x.side,iv x.place,iv x.target,v,w]∧hget τ (σ.length+1)=.box [iv 0]∧hget τ (σ.length+2)=.box [iv 0]∧OL x.ids v τ∧OP x.prs w τ
@[reducible] def base70(σ:List ABlk):List ABlk:=σ++[.box zC,.box [iv 0],.box [iv 0],.box zC]
theorem ZcI(σ:List ABlk):hget (base70 σ) σ.length=.box zC∧hget (base70 σ) (σ.length+1)=.box [iv 0]∧hget (base70 σ) (σ.length+2)=.box [iv 0]∧hget (base70 σ) (σ.length+3)=.box zC:=
 ⟨Xq (by simp),Xq (by simp),Xq (by simp),Xq (by simp)⟩
theorem w70a(b:List UInt8)(hlen:b.length≤1000000)(σ:List ABlk){K R:KTs}(hK:K [byV b,.func (.func 65) [] [],.bptr σ.length 0,.bptr (σ.length+1) 0,.bptr (σ.length+2) 0,.bptr (σ.length+3) 0] (base70 σ)) :
  dn (VV noZ) (Zcm prog) (frame0 [byV b,.func (.func 65) [] []]) σ (λρ σ=>dn (VV noZ) (Ycm prog) ρ σ (λρ σ=>dn (VV noZ) (Xcm prog) ρ σ (λρ σ=>K (getF ρ [0,1,4,5,6,7]) σ) (λ_ _ _=>(VV noZ).stop) (λρ σ=>R (getF ρ [4,5,6]) σ)) (λ_ _ _=>(VV noZ).stop) (λρ σ=>R (getF ρ [4,5,6]) σ)) (λ_ _ _=>(VV noZ).stop) (λρ σ=>R (getF ρ [4,5,6]) σ):=by
 rw[Zdb];simp only[Yb];refine Xd (Yz σ _) (Yi _ _) (Xd (Yz _ _) (Yi _ _) (Xd (Yz _ _) (Yi _ _) (Xd (Yz _ _) (Yi _ _) ?_)));refine Za (Qe ..) (Za (ZW ..) ?_);rw[YDF (by omega)];refine Qf ?_;have e:σ++[ABlk.box [AVal.int .i8 0,.int .i64 0,.int .i64 0,.int .i64 0,.nils,.nils]]++[.box [.int .i64 0]]++[.box [.int .i64 0]]++[.box [.int .i8 0,.int .i64 0,.int .i64 0,.int .i64 0,.nils,.nils]]=base70 σ:=by simp[base70,zC]
 rw[e];simpa using hK
theorem w70b(b:List UInt8)(hlen:b.length≤1000000)(σ:List ABlk){R:KTs}(hR:∀τ,Gw b σ τ→R [.bptr σ.length 0,.bptr (σ.length+1) 0,.bptr (σ.length+2) 0] τ) :
  dn (VV (Zw b σ)) (Qcm prog) [(0,byV b),(1,.func (.func 65) [] []),(4,.bptr σ.length 0),(5,.bptr (σ.length+1) 0),(6,.bptr (σ.length+2) 0)] (base70 σ) (λ_ _=>(VV (Zw b σ)).stop) (λ_ _ _=>(VV (Zw b σ)).stop) (λρ σ=>R (getF ρ [4,5,6]) σ):=by
 rw[Ydb];simp only[Yb];obtain⟨b0,b1,b2,b3⟩:=ZcI σ;have hbl:(base70 σ).length=σ.length+4:=by simp[base70]
 have hks:KS σ (base70 σ):=⟨by omega,λd hd=>Qd _ rfl hd⟩;generalize base70 σ=τ0 at b0 b1 b2 b3 hbl hks;refine Za rfl (Xd (v:=.bptr τ0.length 0) (rd:=[]) (up:=[(τ0.length,.box [byV b,iv 0,.bool true])]) rfl (Yi _ _) ?_);have c0:=Qd [ABlk.box [byV b,iv 0,.bool true]] b0;have c1:=Qd [ABlk.box [byV b,iv 0,.bool true]] b1;have c2:=Qd [ABlk.box [byV b,iv 0,.bool true]] b2;have c3:=Qd [ABlk.box [byV b,iv 0,.bool true]] b3;have cc:=Zc τ0 (.box [byV b,iv 0,.bool true]);have ck:KS σ (τ0 ++ [.box [byV b,iv 0,.bool true]]):=⟨by have:=hks.1; simp; omega,λd hd=>by
  have:=hks.2 d hd;rw[Qd [ABlk.box [byV b,iv 0,.bool true]] this hd]⟩
 generalize τ0++[ABlk.box [byV b,iv 0,.bool true]]=τ1 at c0 c1 c2 c3 cc ck;rw[hbl] at cc ⊢;have kz:∀τ,KA (σ.length+4) σ.length τ1 τ→KS σ τ∧(∃u,hget τ (σ.length+1)=.box [u])∧(∃u,hget τ (σ.length+2)=.box [u])∧hget τ (σ.length+3)=.box zC:=by
  intro τ k;refine⟨⟨Nat.le_trans ck.1 k.1,λd hd=>?_⟩,⟨iv 0,?_⟩,⟨iv 0,?_⟩,?_⟩
  ·have:=hlt hd;have q:=ck.2 d hd;rw[k.2.1 d (by omega) (by omega) (by rw[q]; exact hd),q]
  ·rw[k.2.1 _ (by omega) (by omega) (by rw[c1]; simp)]; exact c1
  ·rw[k.2.1 _ (by omega) (by omega) (by rw[c2]; simp)]; exact c2
  ·rw[k.2.1 _ (by omega) (by omega) (by rw[c3]; simp)]; exact c3
 refine Zch rfl cc (by omega) c0 (by omega) (λe q τ k=>?_) (λx q v w τ hq hx k hc ha hol hop=>?_)
 ·obtain⟨k1,k2,k3,k4⟩:=kz τ k;exact⟨q,rfl,λx=>by rw[e]; simp,k1,k.2.2,k2,k3,k4⟩
 obtain⟨k1,⟨u2,k2⟩,⟨u3,k3⟩,k4⟩:=kz τ k;refine Za rfl (Za rfl (Za (v:=iv q) (Zj hc rfl) (Za (Qe ..) (Za (Qn ..) (Zd (λh=>?_) (λh=>?_))))))
 ·have h:q<b.length:=by simpa using h
  refine Za rfl (Za rfl (Za (v:=iv q) (Zj hc rfl) (Za rfl (Za rfl (Xal ?_)))));refine⟨q,rfl,λy e=>?_,k1,⟨_,_,_,_,_,_,ha⟩,⟨u2,k2⟩,⟨u3,k3⟩,k4⟩;rw[hx] at e;simp at e;omega
 ·have h:q=b.length:=by simp at h; omega
  subst h;rw[List.drop_length] at hx;have hal:=Qa ha;have h2l:=Qa k2;have h3l:=Qa k3;unfold fin70;have hcs:cellsOf (.agg [iv8 x.op,iv x.side,iv x.place,iv x.target,v,w])=some [iv8 x.op,iv x.side,iv x.place,iv x.target,v,w]:=by
   rcases hol with ⟨rfl,_⟩|⟨d,ex,rfl,_⟩<;>rcases hop with ⟨rfl,_⟩|⟨d',ex',rfl,_⟩<;>rfl
  refine Za (v:=.agg [iv8 x.op,iv x.side,iv x.place,iv x.target,v,w]) (Zj ha rfl) ?_;refine Xd (stv (cs:=[iv8 x.op,iv x.side,iv x.place,iv x.target,v,w]) (row':=[iv8 x.op,iv x.side,iv x.place,iv x.target,v,w]) ha hcs rfl rfl) (Zb _ hal) ?_;refine Xd (stv (row':=[iv 0]) (Xb k2 (by simp) (by omega)) rfl rfl rfl) (Zb _ (by simpa using h2l)) ?_;refine Xd (stv (row':=[iv 0]) (Xb (Xb k3 (by simp) (by omega)) (by simp) (by omega)) rfl rfl rfl) (Zb _ (by simpa using h3l)) ?_;refine hR _ ⟨x,v,w,hx,⟨by simpa using k1.1,λd hd=>?_⟩,?_,?_,?_,?_,?_⟩
  ·have:=hlt hd;rw[Yc (by omega),Yc (by omega),Yc (by omega)]; exact k1.2 d hd
  ·rw[Yc (by omega),Yc (by omega)]; exact Xc ha (by simp)
  ·rw[Yc (by omega)]; exact Xc (Xb k2 (by simp) (by omega)) (by simp)
  ·exact Xc (Xb (Xb k3 (by simp) (by omega)) (by simp) (by omega)) (by simp)
  ·rcases hol with z|⟨d,ex,z,hb⟩
   ·exact .inl z
   ·refine .inr ⟨d,ex,z,?_⟩;rw[Yc (by rintro rfl; rw[k3] at hb; cases hb),Yc (by rintro rfl; rw[k2] at hb; cases hb),Yc (by rintro rfl; rw[ha] at hb; cases hb)]; exact hb
  ·rcases hop with z|⟨d,ex,z,hb⟩
   ·exact .inl z
   ·refine .inr ⟨d,ex,z,?_⟩;rw[Yc (by rintro rfl; rw[k3] at hb; cases hb),Yc (by rintro rfl; rw[k2] at hb; cases hb),Yc (by rintro rfl; rw[ha] at hb; cases hb)]; exact hb
theorem XaW{P:Program}{ops:Array Oper}{Q:Exit→Act→World→Prop}{i:Nat}{rest:List Nat}{a:Act}{w:World}{o:Oper}(ho:ops[i]?=some o)(hg:o.guard=none)
 (h:o.uponIn (wz none) 0 P a (wpOpsIn (wz none) 0 P ops Q rest) Q ((execOp a.eval o).run P w)):wpOpsIn (wz none) 0 P ops Q (i::rest) a w:=by
 simp only[wpOpsIn,ho];rw[YIP (by simp[Region.wanted,hg])];exact⟨λ_ _=>trivial,h⟩
theorem denF3{n:Nat}{g:Gm}{a:Act}(d:DenF n g [] a){x y z:AVal}(hx:g.den x (a.tmps.getD 4 undef))(hy:g.den y (a.tmps.getD 5 undef))(hz:g.den z (a.tmps.getD 6 undef)):DenF n g [(4,x),(5,y),(6,z)] a:=
 ⟨d.size,λt=>by
  rw[ZA,ZA,ZA];split
  ·rename_i e; subst e; exact hx
  split
  ·rename_i e; subst e; exact hy
  split
  ·rename_i e; subst e; exact hz
  exact d.slot t,d.defers⟩
theorem Yc7{b:List UInt8}{σ:List ABlk}{Z:PZ}{K:KT}(hlen:b.length≤1000000)
 (hgood:∀x v w τ,actO b=some (x,[])→KS σ τ→OL x.ids v τ→OP x.prs w τ→K (.tup [.agg [iv8 x.op,iv x.side,iv x.place,iv x.target,v,w],iv 0,iv 0]) τ)
 (hbad:(∀x,actO b≠some (x,[]))→∀(q:Nat) τ,KS σ τ→K (.tup [.agg zC,iv q,iv 180]) τ):(VV Z).call (.call 70) [byV b,.func (.func 65) [] []] σ K:=by
 refine Ybj λw0 L g w vs r hx=>?_;have r0:Rep GL0 w0 L ⟨g.M,g.c,[]⟩ (hp σ) w:={ r with mks:=by simp };have d0:=ZaA (g:=⟨g.M,g.c,[]⟩) rfl (hx.mk' (mk:=[])) (n:=34) (by simp);refine YY.1 (callsIn_of_wp_defers (F:=wz none) (n:=0) Go.Proofs.Tryz.func70 Yc9 trivial ?_);rw[n70];have e0:(Zcm prog).er=mcC prog 34 (Zco prog):=Xw _ _ _;have e1:(Ycm prog).er=mcC prog 34 (Yco prog):=Xw _ _ _;have e2:(Xcm prog).er=mcC prog 34 (Xco prog):=Xw _ _ _;have e4:(Qcm prog).er=mcC prog 34 (Qco prog):=Xw _ _ _;have hw:=w70a b hlen σ (K:=λvs τ=>vs=[byV b,.func (.func 65) [] [],.bptr σ.length 0,.bptr (σ.length+1) 0,.bptr (σ.length+2) 0,.bptr (σ.length+3) 0]∧τ=base70 σ) (R:=λ_ _=>False) ⟨rfl,rfl⟩;refine wpIn_seq (Qbc hP (Zcm prog) s70_0 (e0▸c70_0) r0 d0 hw (λg1 ρ1 σ1 a1 w1 l1 r1 d1 hw1=>?_) (λ_ _ _ _ _ _ _ _ _ k=>(by first|exact False.elim k|exact False.elim (Q6.mp k))) (λ_ _ _ _ _ _ _ _ k=>(by first|exact False.elim k|exact False.elim (Q6.mp k))) (λ_ _ _ _ _ _ _ _ _ _ k=>(by first|exact False.elim k|exact False.elim (Q6.mp k))));refine wpIn_seq (Qbc hP (Ycm prog) s70_1 (e1▸c70_1) r1 d1 hw1 (λg2 ρ2 σ2 a2 w2 l2 r2 d2 hw2=>?_) (λ_ _ _ _ _ _ _ _ _ k=>(by first|exact False.elim k|exact False.elim (Q6.mp k))) (λ_ _ _ _ _ _ _ _ k=>(by first|exact False.elim k|exact False.elim (Q6.mp k))) (λ_ _ _ _ _ _ _ _ _ _ k=>(by first|exact False.elim k|exact False.elim (Q6.mp k))));refine wpIn_seq (Qbc hP (Xcm prog) s70_2 (e2▸c70_2) r2 d2 hw2 (λg3 ρ3 σ3 a3 w3 l3 r3 d3 hw3=>?_) (λ_ _ _ _ _ _ _ _ _ k=>(by first|exact False.elim k|exact False.elim (Q6.mp k))) (λ_ _ _ _ _ _ _ _ k=>(by first|exact False.elim k|exact False.elim (Q6.mp k))) (λ_ _ _ _ _ _ _ _ _ _ k=>(by first|exact False.elim k|exact False.elim (Q6.mp k))));obtain⟨hv,hσ⟩:=hw3;subst hσ;simp only[getF,List.cons.injEq,and_true] at hv;obtain⟨q0,q1,q4,q5,q6,q7⟩:=hv;have d4:DenF 34 g3 [(0,byV b),(1,.func (.func 65) [] []),(4,.bptr σ.length 0),(5,.bptr (σ.length+1) 0),(6,.bptr (σ.length+2) 0),(7,.bptr (σ.length+3) 0)] a3:=d3.weak (Qab.le ⟨q0,q1,q4,q5,q6,q7,trivial⟩);have le3:=(l1.trans l2).trans l3;have hdk3:g3.dk=[]:=le3.k;have k4:g3.den (.bptr σ.length 0) (a3.tmps.getD 4 undef):=d4.slot 4;have k5:g3.den (.bptr (σ.length+1) 0) (a3.tmps.getD 5 undef):=d4.slot 5;have k6:g3.den (.bptr (σ.length+2) 0) (a3.tmps.getD 6 undef):=d4.slot 6;have k7:g3.den (.bptr (σ.length+3) 0) (a3.tmps.getD 7 undef):=d4.slot 7;clear d3 hw hw1 hw2 d1 d2 d0 q0 q1 q4 q5 q6 q7;generalize hp4:a3.tmps.getD 4 undef=p4 at k4;generalize hp5:a3.tmps.getD 5 undef=p5 at k5;generalize hp6:a3.tmps.getD 6 undef=p6 at k6;generalize hp7:a3.tmps.getD 7 undef=p7 at k7;refine wpIn_seq (wpIn_region ?_);rw[z70,show List.range 2=[0,1] from rfl];refine XaW ZcO.1 ZcO.2.2.2 ?_;have hmf:∀(fn:Fn) (first cap:Array Value) (w:World),(Instr.makeFunc fn first cap).run prog w=.ok (.func fn first cap) w:=λ_ _ _ _=>rfl;have run0:(execOp a3.eval (opAt (o70 prog) 0)).run prog w3=.ok (.value (.func (.func 88) #[] #[p7,p4,p5,p6])) w3:=by
  simp_all [execOp,Act.eval,ZcO]
 rw[run0,Oper.uponIn_value,ZcO.2.2.1];have hd13:g3.den (.func (.func 88) [] [.bptr (σ.length+3) 0,.bptr σ.length 0,.bptr (σ.length+1) 0,.bptr (σ.length+2) 0]) (.func (.func 88) #[] #[p7,p4,p5,p6]):=by
  refine .func _ _ _ _ _ _ rfl rfl (by simp) (λi x u e1 e2=>?_)
  match i with
  |0=>simp at e1 e2; subst e1; subst e2; exact k7
  |1=>simp at e1 e2; subst e1; subst e2; exact k4
  |2=>simp at e1 e2; subst e1; subst e2; exact k5
  |3=>simp at e1 e2; subst e1; subst e2; exact k6
  |i+4=>simp at e1
 have d5:=d4.put (d:=13) (by decide) hd13;have t4:(a3.put (some 13) (.func (.func 88) #[] #[p7,p4,p5,p6])).tmps.getD 4 undef=p4:=by rw[←hp4]; simp[Act.put,Array.getD_eq_getD_getElem?]
 have t5:(a3.put (some 13) (.func (.func 88) #[] #[p7,p4,p5,p6])).tmps.getD 5 undef=p5:=by rw[←hp5]; simp[Act.put,Array.getD_eq_getD_getElem?]
 have t6:(a3.put (some 13) (.func (.func 88) #[] #[p7,p4,p5,p6])).tmps.getD 6 undef=p6:=by rw[←hp6]; simp[Act.put,Array.getD_eq_getD_getElem?]
 have t13:(a3.put (some 13) (.func (.func 88) #[] #[p7,p4,p5,p6])).tmps.getD 13 undef=.func (.func 88) #[] #[p7,p4,p5,p6]:=by
  have hsz:=d4.size;simp[Act.put,Array.getD,hsz]
 generalize a3.put (some 13) (.func (.func 88) #[] #[p7,p4,p5,p6])=a5 at d5 t4 t5 t6 t13;refine XaW YcO.1 YcO.2.2.2 ?_;have run1:(execOp a5.eval (opAt (o70 prog) 1)).run prog w3=.ok (.defer { target:=.fn (.func 88) #[p7,p4,p5,p6],args:=#[] }) w3:=by
  grind [execOp,resolve,Act.eval,Deferred.ofValue,YcO,Sem.run_pure]
 rw[run1,Oper.uponIn_defer,YcO.2.2.1];have hlay:({ a5 with defers:={ target:=.fn (.func 88) #[p7,p4,p5,p6],args:=#[] }::a5.defers }:Act).put none undef=layD [{ target:=.fn (.func 88) #[p7,p4,p5,p6],args:=#[] }] a5:=by
  have:=d5.defers;rw[hdk3] at this;simp[Act.put,layD,this]
 rw[hlay];simp only[wpOpsIn];have d6:DenF 34 g3 [(0,byV b),(1,.func (.func 65) [] []),(4,.bptr σ.length 0),(5,.bptr (σ.length+1) 0),(6,.bptr (σ.length+2) 0)] a5:=d5.weak (Qab.le ⟨rfl,rfl,rfl,rfl,rfl,trivial⟩);refine QaN hP false [{ target:=.fn (.func 88) #[p7,p4,p5,p6],args:=#[] }] [4,5,6] (by simp) (Qcm prog) s70_4 (e4▸c70_4) r3 d6
  (w70b b hlen σ (R:=λvs τ=>vs=[.bptr σ.length 0,.bptr (σ.length+1) 0,.bptr (σ.length+2) 0]∧Gw b σ τ) (λτ h=>⟨rfl,h⟩)) (λ_ _ _ _ _ _ _ _ _ k=>(by first|exact False.elim k|exact False.elim (Q6.mp k))) (λ_ _ _ _ _ _ _ _ _ _ k=>(by first|exact False.elim k|exact False.elim (Q6.mp k))) (λg' ρ' σ' a' w' k1 k2 k3 kt kr=>?_) (λg' xv σ' u a' w' k1 k2 k3 kt ku kz=>?_)
 ·
  obtain⟨hv,x,v,w,hax,hks,h0,h1,h2,hol,hop⟩:=kr;have hdk':g'.dk=[]:=k1.k.trans hdk3;show LeavesIn (wz none) 0 prog Go.Proofs.Tryz.f70 a'.tmps _ (a'.defers++[_]) .returning w';rw[k3.defers,hdk'];refine leavesIn_cons (f:=88) (args:=#[p7,p4,p5,p6]) (by simp) (λh=>Qah h) (by rfl) (λ_ _=>trivial) ((clo88 QcP k2 hdk' ⟨Gm.den_mono k1 k7,Gm.den_mono k1 k4,Gm.den_mono k1 k5,Gm.den_mono k1 k6,trivial⟩ (x7:=.nili) (.nili _) (w88i _ _ _ _ (K:=λτ=>τ=σ') rfl)).mono ?_);rintro e u' w9 ⟨⟨vv,rfl⟩,rfl,g9,σ9,l9,r9,rfl⟩;simp only[getF,List.cons.injEq,and_true] at hv;obtain⟨s4,s5,s6⟩:=hv;have d9:DenF 34 g9 [(4,.bptr σ.length 0),(5,.bptr (σ.length+1) 0),(6,.bptr (σ.length+2) 0)] a':=(k3.mono l9).weak (Qab.le ⟨s4,s5,s6,trivial⟩);have hret:retV [.c 4 true 6,.c 5 false 1,.c 6 false 1] [(4,.bptr σ.length 0),(5,.bptr (σ.length+1) 0),(6,.bptr (σ.length+2) 0)] σ9=some (.tup [.agg [iv8 x.op,iv x.side,iv x.place,iv x.target,v,w],iv 0,iv 0]):=by
   simp[retV,retL,ret1,retOf,fget,h0,h1,h2,partA,show Nat.beq 4 5=false from rfl,show Nat.beq 4 6=false from rfl,show Nat.beq 5 6=false from rfl,nth]
  obtain⟨uo,ho1,ho2⟩:=XU (P:=prog) r9 d9 r70 hret;exact⟨uo,ho1,⟨g9.M,g9.c,g.dk⟩,_,σ9,hgood x v w σ9 hax hks hol hop,⟨((le3.trans k1).trans l9).m,((le3.trans k1).trans l9).c,rfl⟩,{ r9 with mks:=r.mks },ho2⟩
 ·
  obtain⟨q,rfl,hno,hks,⟨y0,y1,y2,y3,y4,y5,h0⟩,⟨u1,h1⟩,⟨u2,h2⟩,h3⟩:=kz;have hdk':g'.dk=[]:=k1.k.trans hdk3;show LeavesIn (wz none) 0 prog Go.Proofs.Tryz.f70 a'.tmps _ (a'.defers ++ [_]) (.panicking _) w';rw[k3.defers,hdk'];refine leavesIn_cons (f:=88) (args:=#[p7,p4,p5,p6]) (by simp) (λh=>Qah h) (by rfl) (λ_ _=>trivial) ((clo88 (Xb8 u) k2 hdk' ⟨Gm.den_mono k1 k7,Gm.den_mono k1 k4,Gm.den_mono k1 k5,Gm.den_mono k1 k6,trivial⟩ ku (w88p h0 h1 h2 h3 (K:=λτ=>hget τ σ.length=.box zC∧hget τ (σ.length + 1)=.box [iv q]∧hget τ (σ.length + 2)=.box [iv 180]∧KS σ τ)
   (λτ m1 m2 m3 m4 m5=>⟨m1,m2,m3,Nat.le_trans hks.1 m4,λd hd=>by rw[m5 d (hlt hd) (by rw[hks.2 d hd]; exact hd),hks.2 d hd]⟩))).mono ?_)
  rintro e u' w9 ⟨⟨vv,rfl⟩,rfl,g9,σ9,l9,r9,m1,m2,m3,m4⟩;have le9:=k1.trans l9;have d9:DenF 34 g9 [(4,.bptr σ.length 0),(5,.bptr (σ.length+1) 0),(6,.bptr (σ.length+2) 0)] a':=denF3 (k3.mono l9) (by rw[kt 4 (by simp),t4]; exact Gm.den_mono le9 k4) (by rw[kt 5 (by simp),t5]; exact Gm.den_mono le9 k5) (by rw[kt 6 (by simp),t6]; exact Gm.den_mono le9 k6);have hret:retV [.c 4 true 6,.c 5 false 1,.c 6 false 1] [(4,.bptr σ.length 0),(5,.bptr (σ.length+1) 0),(6,.bptr (σ.length+2) 0)] σ9=some (.tup [.agg zC,iv q,iv 180]):=by
   simp[retV,retL,ret1,retOf,fget,m1,m2,m3,partA,zC,show Nat.beq 4 5=false from rfl,show Nat.beq 4 6=false from rfl,show Nat.beq 5 6=false from rfl,nth]
  obtain⟨uo,ho1,ho2⟩:=XU (P:=prog) r9 d9 r70 hret;exact⟨uo,ho1,⟨g9.M,g9.c,g.dk⟩,_,σ9,hbad hno q σ9 m4,⟨((le3.trans k1).trans l9).m,((le3.trans k1).trans l9).c,rfl⟩,{ r9 with mks:=r.mks },ho2⟩
end Go.Ah.Tz
end
section
namespace Go.Ah.Tz
open Go.Proofs.Tryz (prog)
set_option maxRecDepth 100000
attribute [local irreducible] Ans.rd Ans.pu Ans.wr Ans.dr Ans.gr Ans.gw Ans.gl Ans.gd Ans.opt joinK W
set_option maxHeartbeats 8000000
theorem YcE(n:Int){s:List UInt8×Bool}{c:Nat}{σ:List ABlk}{Z:PZ}{K:KT}(h:CR s c σ)
 (hK:K (byV (tk n s).1) (σ.set c (.box [byV (tk n s).2.1,.bool (tk n s).2.2]))):(VV Z).call (.call 40) [.bptr c 0,iv n] σ K:=by
 unfold CR at h;refine Ze hP rfl k40.ok rfl ?_;show k40.u (VV Z) [.bptr c 0,iv n] σ K;rw[H2.e]; unfold k40; dsimp only; simp only[Yb];refine Za (Qn ..) ?_;refine ZcD (λ_=>rfl) (λ_=>rfl) (λ_=>rfl) (λ_=>rfl) (v5:=byV s.1) (λ_=>Zj h rfl) (λ_=>Qe ..) (λ_=>ZW ..) ?_;refine Qv (Zd (λq=>?_) (λq=>?_))
 ·have hq:n<0∨(s.1.length:Int)<n:=by simpa using q
  have ht:tk n s=([],s.1,true):=by rw[tk,YIP hq]
  rw[ht] at hK;have h1:hget (σ.set c (.box [byV s.1,.bool true])) c=.box [byV s.1,.bool true]:=Xc h (by simp);refine Za rfl (Za rfl (Xd (stv (row':=[byV s.1,.bool true]) h rfl rfl rfl) (Zb _ (Qa h)) ?_));have k1:∀y,(σ.set c (.box [byV s.1,.bool true])).set c y=σ.set c y:=λy=>List.set_set ..;generalize σ.set c (.box [byV s.1,.bool true])=τ at h1 k1;refine Za rfl (Za rfl (Za (v:=byV s.1) (Zj h1 rfl) (Za (QcH false false s.1 0 (by omega)) ?_)));refine Za rfl (Za rfl (Za (v:=byV s.1) (Zj h1 rfl) (Za (Xbl false false s.1 0 (by omega)) ?_)));refine Za rfl (Za rfl (Xd (stv (row':=[byV s.1,.bool true]) h1 rfl rfl rfl) (Zb _ (Qa h1)) ?_));rw[k1];exact hK
 ·have hq:¬(n<0∨(s.1.length:Int)<n):=by
   simp only[Bool.or_eq_false_iff,YDN] at q;omega
  have ht:tk n s=(s.1.take n.toNat,s.1.drop n.toNat,s.2):=by rw[tk,YIN hq]
  rw[ht] at hK;obtain⟨m,rfl⟩:∃m:Nat,n=m:=⟨n.toNat,by omega⟩;rw[Int.toNat_natCast] at hK;have hm:m≤s.1.length:=by omega
  refine Za rfl (Za rfl (Za (v:=byV s.1) (Zj h rfl) (Za (QcH false false s.1 m hm) ?_)));refine Za rfl (Za rfl (Za (v:=byV s.1) (Zj h rfl) (Za (Xbl false false s.1 m hm) ?_)));refine Za rfl (Za rfl (Xd (stv (row':=[byV (s.1.drop m),.bool s.2]) h rfl rfl rfl) (Zb _ (Qa h)) ?_));exact hK
theorem ZbT{s:List UInt8×Bool}{c:Nat}{σ:List ABlk}{Z:PZ}{K:KT}(h:CR s c σ)
 (hK:K (iv (numF s).1) (σ.set c (.box [byV (numF s).2.1,.bool (numF s).2.2]))):k41.u (VV Z) [.bptr c 0] σ K:=by
 rw[H1.e]; unfold k41; dsimp only; simp only[Yb,Qh];refine YcE 8 h ?_;have hlen:(tk 8 s).1.length≤8:=by
  unfold tk; split
  ·simp
  ·simp; omega
 have hn:(numF s).1=w64 (d8 (tk 8 s).1):=rfl;have hn2:(numF s).2=(tk 8 s).2:=rfl;rw[hn,hn2] at hK;generalize (tk 8 s).1=l at *;refine Za (Qe ..) ?_;refine Xp (ι:=Nat) (λi vs τ=>vs=[iv i,.int .u64 (d8 (l.take i):Nat)]∧i≤l.length∧τ=σ.set c (.box [byV (numF s).2.1,.bool (numF s).2.2])) (λi=>l.length-i) 0 ⟨rfl,by omega,rfl⟩ ?_;rintro i vs τ again ⟨rfl,hi,rfl⟩ hag;refine Za (Qn ..) (Zd (λh=>?_) (λh=>?_))
 ·have h:i<l.length:=by simpa using h
  have hb:=Xb6 i (l.take i) (by simp; omega);have hb7:256 ^ i≤256 ^ 7:=Nat.pow_le_pow_right (by omega) (by omega);refine Za (Xaq byC false false 1 l .i64 i h) (Za (v:=.int .u8 (l[i].toNat:Int)) (Yu rfl) (Za rfl (Za (Qk ..) (Za (Yao _ _ (by omega)) (Za (Xr ..) ?_)))));rw[Zh (n:=i) (by omega)];exact hag (i+1) _ _ (by omega) ⟨by rw[List.take_succ_eq_append_getElem h,Xaz],by omega,rfl⟩
 ·have h:i=l.length:=by simp at h; omega
  subst h;rw[List.take_length];refine Za (Qk ..) ?_;exact hK
theorem YbT{s:List UInt8×Bool}{c:Nat}{σ:List ABlk}{Z:PZ}{K:KT}(h:CR s c σ)
 (hK:K (iv (numF s).1) (σ.set c (.box [byV (numF s).2.1,.bool (numF s).2.2]))):(VV Z).call (.call 41) [.bptr c 0] σ K:=Ze hP rfl k41.ok rfl (ZbT h hK)
theorem XcE{s:List UInt8×Bool}{c:Nat}{σ:List ABlk}{Z:PZ}{K:KT}(h:CR s c σ)
 (hK:K (.str (textF s).1) (σ.set c (.box [byV (textF s).2.1,.bool (textF s).2.2]))):(VV Z).call (.call 42) [.bptr c 0] σ K:=by
 refine Ze hP rfl k42.ok rfl ?_;show k42.u (VV Z) [.bptr c 0] σ K;rw[H1.e]; unfold k42; dsimp only;refine YbT h (YcE (s:=(numF s).2) _ (Xc h (by simp)) ?_);rw[List.set_set];have:∀σ2,QA [byV (tk (numF s).1 (numF s).2).1] σ2=.ok (.str (tk (numF s).1 (numF s).2).1) [] []:=by
  intro σ2;simp[QA,isSl,Qak,X1]
 exact Za (this _) hK
def seqF{α β:Type}(F:Fl α)(F':Fl β):Fl (α×β):=λs=>(((F s).1,(F' (F s).2).1),(F' (F s).2).2)
theorem Agr.seq{α β:Type}{F:Fl α}{O:Rd α}{F':Fl β}{O':Rd β}(h:Agr F O)(h':Agr F' O'):Agr (seqF F F') (seqR O O') where
 yes:=λr a r' e=>by
  unfold seqR at e;cases h1:O r with
  |none=>simp[h1] at e
  |some x=>
   cases h2:O' x.2 with
   |none=>simp[h1,h2] at e
   |some y=>
    simp[h1,h2] at e;obtain⟨rfl,rfl⟩:=e;have e1:=h.yes r x.1 x.2 h1;have e2:=h'.yes x.2 y.1 y.2 h2;simp only[seqF,e1,e2]
 no:=λr e=>by
  unfold seqR at e;cases h1:O r with
  |none=>
   have e1:=h.no r h1;simp only[seqF];rcases hq:F (r,false) with ⟨a,r',q⟩
   rw[hq] at e1;have e1:q=true:=e1;subst e1;exact h'.bad r'
  |some x=>
   have e1:=h.yes r x.1 x.2 h1;cases h2:O' x.2 with
   |none=>
    simp only[seqF,e1];exact h'.no _ h2
   |some y=>simp[h1,h2] at e
 bad:=λr=>by
  have e1:=h.bad r;simp only[seqF];rcases hq:F (r,true) with ⟨a,r',q⟩
  rw[hq] at e1;have e1:q=true:=e1;subst e1;exact h'.bad r'
def begF:Fl Bg:=seqF numF (seqF textF (seqF textF (seqF textF (seqF listF (seqF listF listF)))))
theorem XbB:Agr begF begO:=Xz.seq (Zbj.seq (Zbj.seq (Zbj.seq (Zbg.seq (Zbg.seq Zbg)))))
theorem Ybg{x:De}(h:mayD x=true):x.kind=1∨x.kind=2:=by
 simp only[mayD,m3,Bool.and_eq_true,Bool.or_eq_true,YDE] at h;rcases h.2 with h|h
 ·exact .inl h
 ·exact .inr h.1.1.1.1
def tellO(bad:Bool)(n:Nat)(x:De):Option De:=if bad=false∧n=0∧mayD x=true then some x else none
theorem YcP(u:UInt8)(r:List UInt8)(hk:ki u=1):readO (u::r)=tellO (begF (numF (r,false)).2).2.2 (begF (numF (r,false)).2).2.1.length (begD (ki u) (numF (r,false)).1 (begF (numF (r,false)).2).1):=by
 unfold readO tellO;simp only[YIP hk];cases h1:numO r with
 |none=>
  have e1:=Xz.no r h1;rcases hq:numF (r,false) with ⟨a,r',q⟩
  rw[hq] at e1;have e1:q=true:=e1;subst e1;rw[YIN (λh=>by have:=XbB.bad r'; simp only at h; rw[this] at h; cases h.1)];rfl
 |some g=>
  rw[Xz.yes r g.1 g.2 h1];simp only[Option.bind_some];cases h2:begO g.2 with
  |none=>
   rw[YIN (λh=>by have:=XbB.no _ h2; rw[this] at h; cases h.1)];rfl
  |some y=>
   rw[XbB.yes _ y.1 y.2 h2];simp only[Option.bind_some,true_and,List.length_eq_zero_iff]
theorem ZcP(u:UInt8)(r:List UInt8)(hk:ki u=2)(a:Ac)(h:actO (numF (r,false)).2.1=some (a,[])):readO (u::r)=tellO (numF (r,false)).2.2 0 (actD (ki u) (numF (r,false)).1 a):=by
 unfold readO tellO;simp only[YIN (show ¬ki u=1 by omega),YIP hk];cases h1:numO r with
 |none=>
  have e1:=Xz.no r h1;rw[YIN (λh=>by rw[e1] at h; cases h.1)];rfl
 |some g=>
  rw[Xz.yes r g.1 g.2 h1] at h ⊢;simp only at h;simp only[Option.bind_some,h,true_and]
theorem Qcv(u:UInt8)(r:List UInt8)(hk:ki u=2)(h:∀a,actO (numF (r,false)).2.1≠some (a,[]))(n:Nat)(x:De):readO (u::r)=tellO true n x:=by
 unfold readO tellO;simp only[YIN (show ¬ki u=1 by omega),YIP hk];rw[YIN (λh=>by cases h.1)];cases h1:numO r with
 |none=>rfl
 |some g=>
  rw[Xz.yes r g.1 g.2 h1] at h;simp only at h;simp only[Option.bind_some];cases h2:actO g.2 with
  |none=>rfl
  |some y=>
   simp only[Option.bind_some];rw[YIN];rintro⟨h3,_⟩;exact h y.1 (by rw[h2,←h3])
theorem QbU(u:UInt8)(r:List UInt8)(h1:¬ki u=1)(h2:¬ki u=2)(bad:Bool)(n:Nat)(x:De)(hx:x.kind=ki u):readO (u::r)=tellO bad n x:=by
 unfold readO tellO;simp only[YIN h1,YIN h2];rw[YIN (λh=>by rcases Ybg h.2.2 with q|q<;>omega)];cases numO r<;>rfl
theorem Qaq(s:List UInt8×Bool):(textF s).2.1.length≤s.1.length∧(listF s).2.1.length≤s.1.length:=by
 have h:=Xav s;constructor
 ·refine Nat.le_trans ?_ h;simp only[textF,tk]; split<;>simp
 ·unfold listF;split
  ·exact h
  ·exact Nat.le_trans (ZbW _ _) h
@[reducible] def zDe:List AVal:=[iv8 0,iv 0,iv 0,.str [],.str [],.str [],.nils,.nils,.nils,iv8 0,iv 0,iv 0,iv 0,.nils,.nils]
def resV(o:Option De):AVal:=match o with
 |some x=>.tup [.agg (deC x),iv 0]
 |none=>.tup [.agg zDe,iv 2]
def OD(x:De)(cs:List AVal)(σ:List ABlk):Prop:=∃v0 v1 v2 v3 v4,cs=[iv8 x.kind,iv x.game,iv x.table,.str x.fmt,.str x.n0,.str x.n1,v0,v1,v2,iv8 x.ac.op,iv x.ac.side,iv x.ac.place,iv x.ac.target,v3,v4]∧OL x.d0 v0 σ∧OL x.d1 v1 σ∧OL x.dr v2 σ∧OL x.ac.ids v3 σ∧OP x.ac.prs v4 σ
theorem OL.borr{l:List Int}{v:AVal}{σ:List ABlk}(h:OL l v σ):∃b,∀rd,b∈rd→Bor (hp σ) rd v (rowV l):=by
 rcases h with ⟨rfl,rfl⟩|⟨b,ex,rfl,hb⟩
 ·exact⟨0,λrd _=>Bor.weak (Bor.ro rfl) (λM u d=>d.nils_rsl 1)⟩
 ·exact⟨b,λrd hr=>Bor.own hb hr (by simp) (Zas _ _ (by simp)) (λr hr=>by obtain⟨x,_,rfl⟩:=List.mem_map.1 hr; rfl)⟩
theorem OP.borr{l:List (Int×Int)}{v:AVal}{σ:List ABlk}(h:OP l v σ):∃b,∀rd,b∈rd→Bor (hp σ) rd v (prV l):=by
 rcases h with ⟨rfl,rfl⟩|⟨b,ex,rfl,hb⟩
 ·exact⟨0,λrd _=>Bor.weak (Bor.ro rfl) (λM u d=>d.nils_rsl 2)⟩
 ·exact⟨b,λrd hr=>Bor.own hb hr (by simp) (Zas _ _ (by simp)) (λr hr=>by obtain⟨x,_,rfl⟩:=List.mem_map.1 hr; rfl)⟩
theorem OD.bor{x:De}{cs:List AVal}{σ:List ABlk}(h:OD x cs σ):∃rd,Bor (hp σ) rd (.agg cs) (.agg (deC x)):=by
 obtain⟨v0,v1,v2,v3,v4,rfl,h0,h1,h2,h3,h4⟩:=h;obtain⟨b0,h0⟩:=h0.borr;obtain⟨b1,h1⟩:=h1.borr;obtain⟨b2,h2⟩:=h2.borr;obtain⟨b3,h3⟩:=h3.borr;obtain⟨b4,h4⟩:=h4.borr;refine⟨[b0,b1,b2,b3,b4],Bor.agg ?_⟩;have r0:∀ {v:AVal},v.ro=true→Bor (hp σ) [b0,b1,b2,b3,b4] v v:=λh=>Bor.ro h;exact .cons (r0 rfl) (.cons (r0 rfl) (.cons (r0 rfl) (.cons (r0 rfl) (.cons (r0 rfl) (.cons (r0 rfl) (.cons (h0 _ (by simp)) (.cons (h1 _ (by simp)) (.cons (h2 _ (by simp))
  (.cons (r0 rfl) (.cons (r0 rfl) (.cons (r0 rfl) (.cons (r0 rfl) (.cons (h3 _ (by simp)) (.cons (h4 _ (by simp)) .nil))))))))))))))
theorem OL.stay{l:List Int}{v:AVal}{σ τ:List ABlk}(h:OL l v σ)(hk:∀d,(∃y,hget σ d=.rows 1 y)→hget τ d=hget σ d):OL l v τ:=by
 rcases h with z|⟨b,ex,z,hb⟩
 ·exact .inl z
 ·exact .inr ⟨b,ex,z,by rw[hk b ⟨_,hb⟩]; exact hb⟩
theorem OP.stay{l:List (Int×Int)}{v:AVal}{σ τ:List ABlk}(h:OP l v σ)(hk:∀d,(∃y,hget σ d=.rows 2 y)→hget τ d=hget σ d):OP l v τ:=by
 rcases h with z|⟨b,ex,z,hb⟩
 ·exact .inl z
 ·exact .inr ⟨b,ex,z,by rw[hk b ⟨_,hb⟩]; exact hb⟩
theorem OD.cells{x:De}{cs:List AVal}{σ:List ABlk}(h:OD x cs σ):cellsOf (.agg cs)=some cs:=by
 obtain⟨v0,v1,v2,v3,v4,rfl,h0,h1,h2,h3,h4⟩:=h;have o:∀ {l v},OL l v σ→v.cell=true:=by
  intro l v h;rcases h with ⟨rfl,_⟩|⟨b,ex,rfl,_⟩<;>rfl
 have p:v4.cell=true:=by rcases h4 with ⟨rfl,_⟩|⟨b,ex,rfl,_⟩<;>rfl
 have ha:[iv8 x.kind,iv x.game,iv x.table,.str x.fmt,.str x.n0,.str x.n1,v0,v1,v2,iv8 x.ac.op,iv x.ac.side,iv x.ac.place,iv x.ac.target,v3,v4].all AVal.cell=true:=by
  simp only[List.all_cons,List.all_nil,o h0,o h1,o h2,o h3,p,Bool.and_true,Bool.true_and];rfl
 simp only[cellsOf,ha,cond_true]
theorem ZV{f:(KTs)→Prop}{k:KTs}(T:KTs)(hk:∀vs σ,T vs σ→k vs σ)(hf:∀k',(∀vs σ,T vs σ→k' vs σ)→f k'):joinK f k:=by
 unfold joinK; exact hf k hk
@[reducible] def M22(s:List UInt8×Bool)(cs:List AVal):List ABlk:=[.box zDe,.box [byV s.1,.bool s.2],.box cs]
def T22(b:List UInt8)(vs:List AVal)(τ:List ABlk):Prop:=vs=[]∧∃bv n bad cs x,hget τ 0=.box zDe∧hget τ 1=.box [bv,.bool bad]∧(∀σ,QG [bv] σ=.ok (iv (n:Nat)) [] [])∧hget τ 2=.box cs∧OD x cs τ∧readO b=tellO bad n x
theorem c22(b:List UInt8)(hlen:b.length≤1000000):PC 22 [byV b] (resV (readO b)):=by
 refine Xn hP k22.ok rfl ?_;rw[H1.e]; unfold k22; dsimp only; simp only[Yb,Qo,Qh];refine Xd (v:=.bptr 0 0) (rd:=[]) (up:=[(0,.box zDe)]) rfl rfl (Za rfl (Xd (v:=.bptr 1 0) (rd:=[]) (up:=[(1,.box [byV b,.bool false])]) rfl rfl ?_));refine YcE (s:=(b,false)) (c:=1) 1 rfl ?_;cases b with
 |nil=>
  have ht:tk 1 (([]:List UInt8),false)=([],[],true):=rfl;rw[ht];refine Za rfl (Za rfl (Za (v:=.bool true) rfl (Xi (Za rfl (Xd rfl rfl (YS rfl ?_))))));exact⟨[],Bor.ro rfl⟩
 |cons u r=>
  have ht:tk 1 (u::r,false)=([u],r,false):=by
   rw[tk,YIN (by simp; omega)]; rfl
  rw[ht];refine Za rfl (Za rfl (Za (v:=.bool false) rfl (Qf ?_)));refine Yf (v:=.rptr (byC u) 0) rfl rfl (Yf (v:=.int .u8 (u.toNat:Int)) rfl rfl (Yd (v:=iv8 (ki u)) rfl ?_));refine Xay hP rfl k41.ok rfl (τ:=[.dead,.box [byV r,.bool false]]) (τ':=[.dead,.box [byV (numF (r,false)).2.1,.bool (numF (r,false)).2.2]]) [1] [1] (m:=0) (v:=iv (numF (r,false)).1) (by simp) (by simp) rfl rfl (ZbT (s:=(r,false)) (c:=1) (σ:=[.dead,.box [byV r,.bool false]]) rfl ⟨rfl,rfl⟩) rfl rfl rfl (σ':=[.box zDe,.box [byV (numF (r,false)).2.1,.bool (numF (r,false)).2.2]]) rfl ?_;have hl1:=Xav (r,false);have hrb:=YcP u r;have hra:=ZcP u r;have hrn:=Qcv u r;have hro:=QbU u r;have hr64:(r.length≤1000000):=by simp at hlen; omega
  generalize numF (r,false)=gs at hl1 hrb hra hrn hro;obtain⟨g,s1⟩:=gs;simp only at hl1 hrb hra hrn hro;refine Yd (v:=.agg [iv8 (ki u),iv g,iv 0,.str [],.str [],.str [],.nils,.nils,.nils,iv8 0,iv 0,iv 0,iv 0,.nils,.nils]) rfl ?_;refine Yf (v:=.bptr 2 0) (rd:=[]) (up:=[(2,.box zDe)]) rfl (σ':=[.box zDe,.box [byV s1.1,.bool s1.2],.box zDe]) rfl ?_;refine Yf (v:=.junk) (rd:=[]) (up:=[(2,.box [iv8 (ki u),iv g,iv 0,.str [],.str [],.str [],.nils,.nils,.nils,iv8 0,iv 0,iv 0,iv 0,.nils,.nils])]) rfl (σ':=M22 s1 [iv8 (ki u),iv g,iv 0,.str [],.str [],.str [],.nils,.nils,.nils,iv8 0,iv 0,iv 0,iv 0,.nils,.nils]) rfl ?_;refine Xv (by kernel_rfl) (Za rfl (Za (v:=iv8 (ki u)) rfl ?_));refine ZV (T22 (u::r)) (λvs τ hT=>?_) (λk' hk'=>?_)
  ·
   obtain⟨rfl,bv,n,bad,cs,x,h0,h1,hlb,h2,hod,hr⟩:=hT;rw[hr];have hno:tellO bad n x=none→∃rd,Bor (hp (τ.set 0 (.box zDe))) rd (.tup [.agg zDe,iv 2]) (resV (tellO bad n x)):=λe=>by rw[e]; exact⟨[],Bor.ro rfl⟩
   have h0l:=Qa h0;have hcv:∀cs,hget (τ.set 0 (.box cs)) 0=.box cs:=λcs=>Xc h0 (by simp);have hc0:cellV true 15 (.bptr 0 0) (τ.set 0 (.box zDe))=some (.agg zDe):=by simp only[cellV,hcv]; rfl
   refine Za rfl (Za rfl (Za (v:=.bool bad) (Zj h1 rfl) ?_));cases bad
   case true=>exact aw (Xd (stv (row':=zDe) h0 rfl rfl rfl) (Zb _ h0l) (YS hc0 (hno (by simp[tellO]))))
   refine Ya (Za rfl (Ya (Za rfl (Ya (Za rfl (Ya (Za (v:=bv) (Zj h1 rfl) (Ya (Za (hlb _) (Ya (Za (ZW ..) (Za rfl ?_))))))))))));cases hn:decide ((0:Int)<(n:Int))
   case true=>exact aw (Xd (stv (row':=zDe) h0 rfl rfl rfl) (Zb _ h0l) (YS hc0 (hno (by simp at hn; simp[tellO]; omega))))
   have hn:n=0:=by simp at hn; omega
   subst hn;obtain⟨rd,hbor⟩:=hod.bor;have hld:Zg true 15 [.bptr 2 0] τ=.ok (.agg cs) [2] []:=Zj h2 (by obtain⟨v0,v1,v2,v3,v4,rfl,_⟩:=hod; rfl);refine Ya (Za hld (ZM (ZaJ (c32 x) rfl g32.ok.plain (.cons hbor .nil) rfl (Ya (Za (X6 ..) (Za rfl ?_))))));cases hm:mayD x
   ·exact Xi (Za rfl (Xd (stv (row':=zDe) h0 rfl rfl rfl) (Zb _ h0l) (YS hc0 (hno (by simp[tellO,hm])))))
   ·refine Qf (Za hld (Xd (stv (cs:=cs) (row':=cs) h0 hod.cells ?_ ?_) (Zb _ h0l) (YS (v:=.agg cs) ?_ ?_)))
    ·obtain⟨v0,v1,v2,v3,v4,rfl,_⟩:=hod; rfl
    ·obtain⟨v0,v1,v2,v3,v4,rfl,_⟩:=hod; rfl
    ·simp only[cellV,hcv];obtain⟨v0,v1,v2,v3,v4,rfl,_⟩:=hod; rfl
    ·have hst:∀(m d:Nat),(∃y,hget τ d=.rows m y)→hget (τ.set 0 (.box cs)) d=hget τ d:=λm d ⟨y,e⟩=>Yc (by rintro rfl; rw[h0] at e; cases e);have hod':OD x cs (τ.set 0 (.box cs)):=by
      obtain⟨v0,v1,v2,v3,v4,e,k0,k1,k2,k3,k4⟩:=hod;exact⟨v0,v1,v2,v3,v4,e,k0.stay (hst 1),k1.stay (hst 1),k2.stay (hst 1),k3.stay (hst 1),k4.stay (hst 2)⟩
     obtain⟨rd',hbor'⟩:=hod'.bor;have ht:tellO false 0 x=some x:=by simp[tellO,hm]
     rw[ht];exact⟨rd',Bor.tup (.cons hbor' (BorL.ro rfl))⟩
  ·
   refine Za (YB ..) (Zd (λh=>?_) (λh=>?_))
   ·have hk1:ki u=1:=by simpa using h
    have hrb:=hrb hk1;have l2:=Xav s1;refine YbT (s:=s1) (c:=1) rfl (Za rfl (Xd (v:=.junk) (rd:=[]) (up:=[(2,.box [iv8 (ki u),iv g,iv (numF s1).1,.str [],.str [],.str [],.nils,.nils,.nils,iv8 0,iv 0,iv 0,iv 0,.nils,.nils])]) rfl (σ':=M22 (numF s1).2 [iv8 (ki u),iv g,iv (numF s1).1,.str [],.str [],.str [],.nils,.nils,.nils,iv8 0,iv 0,iv 0,iv 0,.nils,.nils]) rfl ?_));generalize hs2:(numF s1).2=s2 at l2;generalize ht2:(numF s1).1=t2;have l3:=(Qaq s2).1;refine XcE (s:=s2) (c:=1) rfl (Za rfl (Xd (v:=.junk) (rd:=[]) (up:=[(2,.box [iv8 (ki u),iv g,iv t2,.str (textF s2).1,.str [],.str [],.nils,.nils,.nils,iv8 0,iv 0,iv 0,iv 0,.nils,.nils])]) rfl (σ':=M22 (textF s2).2 [iv8 (ki u),iv g,iv t2,.str (textF s2).1,.str [],.str [],.nils,.nils,.nils,iv8 0,iv 0,iv 0,iv 0,.nils,.nils]) rfl ?_));generalize hs3:(textF s2).2=s3 at l3;generalize ht3:(textF s2).1=t3;have l4:=(Qaq s3).1;refine Qac 3 (Ys (Za rfl (Xi ?_)));refine XcE (s:=s3) (c:=1) rfl (Za rfl (Za rfl (Xd (v:=.junk) (rd:=[]) (up:=[(2,.box [iv8 (ki u),iv g,iv t2,.str t3,.str (textF s3).1,.str [],.nils,.nils,.nils,iv8 0,iv 0,iv 0,iv 0,.nils,.nils])]) rfl (σ':=M22 (textF s3).2 [iv8 (ki u),iv g,iv t2,.str t3,.str (textF s3).1,.str [],.nils,.nils,.nils,iv8 0,iv 0,iv 0,iv 0,.nils,.nils]) rfl (Za rfl ?_))));generalize hs4:(textF s3).2=s4 at l4;generalize ht4:(textF s3).1=t4;have l5:=(Qaq s4).1;refine Ys (Za rfl (Xi ?_));refine XcE (s:=s4) (c:=1) rfl (Za rfl (Za rfl (Xd (v:=.junk) (rd:=[]) (up:=[(2,.box [iv8 (ki u),iv g,iv t2,.str t3,.str t4,.str (textF s4).1,.nils,.nils,.nils,iv8 0,iv 0,iv 0,iv 0,.nils,.nils])]) rfl (σ':=M22 (textF s4).2 [iv8 (ki u),iv g,iv t2,.str t3,.str t4,.str (textF s4).1,.nils,.nils,.nils,iv8 0,iv 0,iv 0,iv 0,.nils,.nils]) rfl (Za rfl ?_))));generalize hs5:(textF s4).2=s5 at l5;generalize ht5:(textF s4).1=t5;have l6:=(Qaq s5).2;have l7:=(Qaq (listF s5).2).2;refine Ys (Za rfl (Qf ?_));have e0:hget (M22 s5 [iv8 (ki u),iv g,iv t2,.str t3,.str t4,.str t5,.nils,.nils,.nils,iv8 0,iv 0,iv 0,iv 0,.nils,.nils]) 0=.box zDe:=rfl;have e2:hget (M22 s5 [iv8 (ki u),iv g,iv t2,.str t3,.str t4,.str t5,.nils,.nils,.nils,iv8 0,iv 0,iv 0,iv 0,.nils,.nils]) 2=.box [iv8 (ki u),iv g,iv t2,.str t3,.str t4,.str t5,.nils,.nils,.nils,iv8 0,iv 0,iv 0,iv 0,.nils,.nils]:=rfl;have e1:CR s5 1 (M22 s5 [iv8 (ki u),iv g,iv t2,.str t3,.str t4,.str t5,.nils,.nils,.nils,iv8 0,iv 0,iv 0,iv 0,.nils,.nils]):=rfl;generalize M22 s5 [iv8 (ki u),iv g,iv t2,.str t3,.str t4,.str t5,.nils,.nils,.nils,iv8 0,iv 0,iv 0,iv 0,.nils,.nils]=τ0 at e0 e1 e2;refine Qac 3 (Ys (Za rfl (Xi ?_)));refine Zcs e1 (by omega) λv6 τ1 k1 c1 o6 _=>?_;have f0:hget τ1 0=.box zDe:=by rw[k1.2 0 (by simp) (by rw[e0]; simp)]; exact e0
    have f2:=k1.2 2 (by simp) (by rw[e2]; simp);rw[e2] at f2;refine Za rfl (Za rfl (Xd (stv (row':=[iv8 (ki u),iv g,iv t2,.str t3,.str t4,.str t5,v6,.nils,.nils,iv8 0,iv 0,iv 0,iv 0,.nils,.nils]) f2 o6.cell rfl rfl) (Zb _ (Qa f2)) (Za rfl ?_)));have o6:=o6.stay (τ:=τ1.set 2 (.box [iv8 (ki u),iv g,iv t2,.str t3,.str t4,.str t5,v6,.nils,.nils,iv8 0,iv 0,iv 0,iv 0,.nils,.nils])) (λd ⟨y,e⟩=>Yc (by rintro rfl; rw[f2] at e; cases e));have g2:=Xc (x:=.box [iv8 (ki u),iv g,iv t2,.str t3,.str t4,.str t5,v6,.nils,.nils,iv8 0,iv 0,iv 0,iv 0,.nils,.nils]) f2 (by simp);have g0:=Yc (x:=.box [iv8 (ki u),iv g,iv t2,.str t3,.str t4,.str t5,v6,.nils,.nils,iv8 0,iv 0,iv 0,iv 0,.nils,.nils]) (σ:=τ1) (b:=0) (c:=2) (by simp);have g1:=Yc (x:=.box [iv8 (ki u),iv g,iv t2,.str t3,.str t4,.str t5,v6,.nils,.nils,iv8 0,iv 0,iv 0,iv 0,.nils,.nils]) (σ:=τ1) (b:=1) (c:=2) (by simp);rw[f0] at g0;have c1':hget τ1 1=_:=c1;rw[c1'] at g1;generalize τ1.set 2 (.box [iv8 (ki u),iv g,iv t2,.str t3,.str t4,.str t5,v6,.nils,.nils,iv8 0,iv 0,iv 0,iv 0,.nils,.nils])=τ2 at o6 g2 g0 g1;refine Ys (Za rfl (Xi ?_));refine Zcs (s:=(listF s5).2) (c:=1) (σ:=τ2) g1 (by omega) λv7 τ3 k3 c3 o7 _=>?_;have o6:=o6.stay (τ:=τ3) (λd ⟨y,e⟩=>k3.2 d (by rintro rfl; rw[g1] at e; cases e) (by rw[e]; simp));have f0:hget τ3 0=.box zDe:=by rw[k3.2 0 (by simp) (by rw[g0]; simp)]; exact g0
    have f2:=k3.2 2 (by simp) (by rw[g2]; simp);rw[g2] at f2;refine Za rfl (Za rfl (Xd (stv (row':=[iv8 (ki u),iv g,iv t2,.str t3,.str t4,.str t5,v6,v7,.nils,iv8 0,iv 0,iv 0,iv 0,.nils,.nils]) f2 o7.cell rfl rfl) (Zb _ (Qa f2)) (Za rfl ?_)));have o6:=o6.stay (τ:=τ3.set 2 (.box [iv8 (ki u),iv g,iv t2,.str t3,.str t4,.str t5,v6,v7,.nils,iv8 0,iv 0,iv 0,iv 0,.nils,.nils])) (λd ⟨y,e⟩=>Yc (by rintro rfl; rw[f2] at e; cases e));have o7:=o7.stay (τ:=τ3.set 2 (.box [iv8 (ki u),iv g,iv t2,.str t3,.str t4,.str t5,v6,v7,.nils,iv8 0,iv 0,iv 0,iv 0,.nils,.nils])) (λd ⟨y,e⟩=>Yc (by rintro rfl; rw[f2] at e; cases e));have g2:=Xc (x:=.box [iv8 (ki u),iv g,iv t2,.str t3,.str t4,.str t5,v6,v7,.nils,iv8 0,iv 0,iv 0,iv 0,.nils,.nils]) f2 (by simp);have g0:=Yc (x:=.box [iv8 (ki u),iv g,iv t2,.str t3,.str t4,.str t5,v6,v7,.nils,iv8 0,iv 0,iv 0,iv 0,.nils,.nils]) (σ:=τ3) (b:=0) (c:=2) (by simp);have g1:=Yc (x:=.box [iv8 (ki u),iv g,iv t2,.str t3,.str t4,.str t5,v6,v7,.nils,iv8 0,iv 0,iv 0,iv 0,.nils,.nils]) (σ:=τ3) (b:=1) (c:=2) (by simp);rw[f0] at g0;have c3':hget τ3 1=_:=c3;rw[c3'] at g1;generalize τ3.set 2 (.box [iv8 (ki u),iv g,iv t2,.str t3,.str t4,.str t5,v6,v7,.nils,iv8 0,iv 0,iv 0,iv 0,.nils,.nils])=τ4 at o6 o7 g2 g0 g1;refine Ys (Za rfl (Qf ?_));refine Zcs (s:=(listF (listF s5).2).2) (c:=1) (σ:=τ4) g1 (by omega) λv8 τ5 k5 c5 o8 _=>?_;have o6:=o6.stay (τ:=τ5) (λd ⟨y,e⟩=>k5.2 d (by rintro rfl; rw[g1] at e; cases e) (by rw[e]; simp));have o7:=o7.stay (τ:=τ5) (λd ⟨y,e⟩=>k5.2 d (by rintro rfl; rw[g1] at e; cases e) (by rw[e]; simp));have f0:hget τ5 0=.box zDe:=by rw[k5.2 0 (by simp) (by rw[g0]; simp)]; exact g0
    have f2:=k5.2 2 (by simp) (by rw[g2]; simp);rw[g2] at f2;refine Za rfl (Xd (stv (row':=[iv8 (ki u),iv g,iv t2,.str t3,.str t4,.str t5,v6,v7,v8,iv8 0,iv 0,iv 0,iv 0,.nils,.nils]) f2 o8.cell rfl rfl) (Zb _ (Qa f2)) ?_);have hst:∀d,(∃y,hget τ5 d=.rows 1 y)→hget (τ5.set 2 (.box [iv8 (ki u),iv g,iv t2,.str t3,.str t4,.str t5,v6,v7,v8,iv8 0,iv 0,iv 0,iv 0,.nils,.nils])) d=hget τ5 d:=λd ⟨y,e⟩=>Yc (by rintro rfl; rw[f2] at e; cases e);have hbeg:begF s1=((t2,t3,t4,t5,(listF s5).1,(listF (listF s5).2).1,(listF (listF (listF s5).2).2).1),(listF (listF (listF s5).2).2).2):=by
     simp only[begF,seqF,hs2,ht2,hs3,ht3,hs4,ht4,hs5,ht5]
    rw[hbeg] at hrb;have g1:hget (τ5.set 2 (.box [iv8 (ki u),iv g,iv t2,.str t3,.str t4,.str t5,v6,v7,v8,iv8 0,iv 0,iv 0,iv 0,.nils,.nils])) 1=.box [byV (listF (listF (listF s5).2).2).2.1,.bool (listF (listF (listF s5).2).2).2.2]:=(Yc (by simp)).trans c5;have g0:hget (τ5.set 2 (.box [iv8 (ki u),iv g,iv t2,.str t3,.str t4,.str t5,v6,v7,v8,iv8 0,iv 0,iv 0,iv 0,.nils,.nils])) 0=.box zDe:=(Yc (by simp)).trans f0;have g2:=Xc (x:=.box [iv8 (ki u),iv g,iv t2,.str t3,.str t4,.str t5,v6,v7,v8,iv8 0,iv 0,iv 0,iv 0,.nils,.nils]) f2 (by simp);have o6:=o6.stay hst;have o7:=o7.stay hst;have o8:=o8.stay hst;generalize τ5.set 2 (.box [iv8 (ki u),iv g,iv t2,.str t3,.str t4,.str t5,v6,v7,v8,iv8 0,iv 0,iv 0,iv 0,.nils,.nils])=τ6 at g0 g1 g2 o6 o7 o8;generalize (listF (listF (listF s5).2).2).2=sf at g1 hrb;generalize (listF (listF (listF s5).2).2).1=e8 at o8 hrb;generalize (listF (listF s5).2).1=e7 at o7 hrb;generalize (listF s5).1=e6 at o6 hrb;exact hk' _ _ ⟨rfl,byV sf.1,sf.1.length,sf.2,_,begD (ki u) g (t2,t3,t4,t5,e6,e7,e8),g0,g1,λσ=>Qe ..,g2,⟨v6,v7,v8,.nils,.nils,rfl,o6,o7,o8,.inl ⟨rfl,rfl⟩,.inl ⟨rfl,rfl⟩⟩,hrb⟩
   ·have hk1:¬ki u=1:=by simpa using h
    refine Za (YB ..) (Zd (λh=>?_) (λh=>?_))
    ·have hk2:ki u=2:=by simpa using h
     refine Za rfl (Za rfl (Za (v:=byV s1.1) rfl ?_));refine Ze hP rfl k44.ok rfl ?_;show k44.u (VV noZ) [byV s1.1] _ _;rw[H1.e]; unfold k44; dsimp only;refine Xd (v:=.bptr 3 0) (rd:=[]) (up:=[(3,.box zC)]) rfl (σ':=M22 s1 [iv8 (ki u),iv g,iv 0,.str [],.str [],.str [],.nils,.nils,.nils,iv8 0,iv 0,iv 0,iv 0,.nils,.nils]++[.box zC]) rfl ?_;have e0:hget (M22 s1 [iv8 (ki u),iv g,iv 0,.str [],.str [],.str [],.nils,.nils,.nils,iv8 0,iv 0,iv 0,iv 0,.nils,.nils]++[.box zC]) 0=.box zDe:=rfl;have e1:hget (M22 s1 [iv8 (ki u),iv g,iv 0,.str [],.str [],.str [],.nils,.nils,.nils,iv8 0,iv 0,iv 0,iv 0,.nils,.nils]++[.box zC]) 1=.box [byV s1.1,.bool s1.2]:=rfl;have e2:hget (M22 s1 [iv8 (ki u),iv g,iv 0,.str [],.str [],.str [],.nils,.nils,.nils,iv8 0,iv 0,iv 0,iv 0,.nils,.nils]++[.box zC]) 2=.box [iv8 (ki u),iv g,iv 0,.str [],.str [],.str [],.nils,.nils,.nils,iv8 0,iv 0,iv 0,iv 0,.nils,.nils]:=rfl;have e3:hget (M22 s1 [iv8 (ki u),iv g,iv 0,.str [],.str [],.str [],.nils,.nils,.nils,iv8 0,iv 0,iv 0,iv 0,.nils,.nils]++[.box zC]) 3=.box zC:=rfl;generalize M22 s1 [iv8 (ki u),iv g,iv 0,.str [],.str [],.str [],.nils,.nils,.nils,iv8 0,iv 0,iv 0,iv 0,.nils,.nils]++[.box zC]=τ0 at e0 e1 e2 e3;refine Yc7 (by omega) (λx v w τ hx hks hol hop=>?_) (λhno q τ hks=>?_)
     ·have f0:=hks.2 0 (by rw[e0]; simp);have f1:=hks.2 1 (by rw[e1]; simp);have f2:=hks.2 2 (by rw[e2]; simp);have f3:=hks.2 3 (by rw[e3]; simp);rw[e0] at f0; rw[e1] at f1; rw[e2] at f2; rw[e3] at f3;have hcs:cellsOf (.agg [iv8 x.op,iv x.side,iv x.place,iv x.target,v,w])=some [iv8 x.op,iv x.side,iv x.place,iv x.target,v,w]:=by
       rcases hol with ⟨rfl,_⟩|⟨d,ex,rfl,_⟩<;>rcases hop with ⟨rfl,_⟩|⟨d',ex',rfl,_⟩<;>rfl
      have hov:cellV true 6 (.bptr 3 0) (τ.set 3 (.box [iv8 x.op,iv x.side,iv x.place,iv x.target,v,w]))=some (.agg [iv8 x.op,iv x.side,iv x.place,iv x.target,v,w]):=by
       simp only[cellV,Xc (x:=.box [iv8 x.op,iv x.side,iv x.place,iv x.target,v,w]) f3 (by simp)]; rfl
      refine Za rfl (Za rfl (Za rfl (Xd (stv (cs:=[iv8 x.op,iv x.side,iv x.place,iv x.target,v,w]) (row':=[iv8 x.op,iv x.side,iv x.place,iv x.target,v,w]) f3 hcs rfl rfl) (Zb _ (Qa f3)) (YS hov ?_))));have hol:=hol.stay (τ:=τ.set 3 (.box [iv8 x.op,iv x.side,iv x.place,iv x.target,v,w])) (λd ⟨y,e⟩=>Yc (by rintro rfl; rw[f3] at e; cases e));have hop:=hop.stay (τ:=τ.set 3 (.box [iv8 x.op,iv x.side,iv x.place,iv x.target,v,w])) (λd ⟨y,e⟩=>Yc (by rintro rfl; rw[f3] at e; cases e));have g0:hget (τ.set 3 (.box [iv8 x.op,iv x.side,iv x.place,iv x.target,v,w])) 0=_:=(Yc (by simp)).trans f0;have g1:hget (τ.set 3 (.box [iv8 x.op,iv x.side,iv x.place,iv x.target,v,w])) 1=_:=(Yc (by simp)).trans f1;have g2:hget (τ.set 3 (.box [iv8 x.op,iv x.side,iv x.place,iv x.target,v,w])) 2=_:=(Yc (by simp)).trans f2;generalize τ.set 3 (.box [iv8 x.op,iv x.side,iv x.place,iv x.target,v,w])=τ1 at hol hop g0 g1 g2;refine Za rfl (Za rfl (Za rfl (Za rfl (Xd (stv (cs:=[iv8 x.op,iv x.side,iv x.place,iv x.target,v,w]) (row':=[iv8 (ki u),iv g,iv 0,.str [],.str [],.str [],.nils,.nils,.nils,iv8 x.op,iv x.side,iv x.place,iv x.target,v,w]) g2 hcs rfl rfl) (Zb _ (Qa g2)) ?_))));have hol:=hol.stay (τ:=τ1.set 2 (.box [iv8 (ki u),iv g,iv 0,.str [],.str [],.str [],.nils,.nils,.nils,iv8 x.op,iv x.side,iv x.place,iv x.target,v,w])) (λd ⟨y,e⟩=>Yc (by rintro rfl; rw[g2] at e; cases e));have hop:=hop.stay (τ:=τ1.set 2 (.box [iv8 (ki u),iv g,iv 0,.str [],.str [],.str [],.nils,.nils,.nils,iv8 x.op,iv x.side,iv x.place,iv x.target,v,w])) (λd ⟨y,e⟩=>Yc (by rintro rfl; rw[g2] at e; cases e));have h2:=Xc (x:=.box [iv8 (ki u),iv g,iv 0,.str [],.str [],.str [],.nils,.nils,.nils,iv8 x.op,iv x.side,iv x.place,iv x.target,v,w]) g2 (by simp);have h0:hget (τ1.set 2 (.box [iv8 (ki u),iv g,iv 0,.str [],.str [],.str [],.nils,.nils,.nils,iv8 x.op,iv x.side,iv x.place,iv x.target,v,w])) 0=_:=(Yc (by simp)).trans g0;have h1:hget (τ1.set 2 (.box [iv8 (ki u),iv g,iv 0,.str [],.str [],.str [],.nils,.nils,.nils,iv8 x.op,iv x.side,iv x.place,iv x.target,v,w])) 1=_:=(Yc (by simp)).trans g1;generalize τ1.set 2 (.box [iv8 (ki u),iv g,iv 0,.str [],.str [],.str [],.nils,.nils,.nils,iv8 x.op,iv x.side,iv x.place,iv x.target,v,w])=τ2 at hol hop h0 h1 h2;have hR:=hra hk2 x hx;have fin:∀B,s1.2=B→k' [] ((τ2.set 1 (.box [byV s1.1,.bool B])).set 1 (.box [.nils,.bool B])):=λB hB=>by
       rw[List.set_set];refine hk' _ _ ⟨rfl,.nils,0,B,_,actD (ki u) g x,(Yc (by simp)).trans h0,Xc h1 (by simp),λσ=>rfl,(Yc (by simp)).trans h2,⟨.nils,.nils,.nils,v,w,rfl,.inl ⟨rfl,rfl⟩,.inl ⟨rfl,rfl⟩,.inl ⟨rfl,rfl⟩,hol.stay ?_,hop.stay ?_⟩,by rw[hR,hB]⟩
       ·exact λd ⟨y,e⟩=>Yc (by rintro rfl; rw[h1] at e; cases e)
       ·exact λd ⟨y,e⟩=>Yc (by rintro rfl; rw[h1] at e; cases e)
      have hb2:∀B,hget (τ2.set 1 (.box [byV s1.1,.bool B])) 1=.box [byV s1.1,.bool B]:=λB=>Xc h1 (by simp);have hl1:=Qa h1;refine Za rfl (Za rfl (Za (v:=.bool s1.2) (Zj h1 rfl) ?_));cases hs:s1.2
      ·refine aw (Xd (stv (row':=[byV s1.1,.bool false]) h1 rfl rfl rfl) (Zb _ hl1) ?_);exact Za rfl (Za rfl (Xd (stv (row':=[.nils,.bool false]) (hb2 false) rfl rfl rfl) (Zb _ (by simpa using hl1)) (fin false hs)))
      ·refine aw (Xd (stv (row':=[byV s1.1,.bool true]) h1 rfl rfl rfl) (Zb _ hl1) ?_);exact Za rfl (Za rfl (Xd (stv (row':=[.nils,.bool true]) (hb2 true) rfl rfl rfl) (Zb _ (by simpa using hl1)) (fin true hs)))
     ·have f0:=hks.2 0 (by rw[e0]; simp);have f1:=hks.2 1 (by rw[e1]; simp);have f2:=hks.2 2 (by rw[e2]; simp);have f3:=hks.2 3 (by rw[e3]; simp);rw[e0] at f0; rw[e1] at f1; rw[e2] at f2; rw[e3] at f3;have hov:cellV true 6 (.bptr 3 0) (τ.set 3 (.box zC))=some (.agg zC):=by
       simp only[cellV,Xc (x:=.box zC) f3 (by simp)]; rfl
      refine Za rfl (Za rfl (Za rfl (Xd (stv (row':=zC) f3 rfl rfl rfl) (Zb _ (Qa f3)) (YS hov ?_))));have g0:hget (τ.set 3 (.box zC)) 0=_:=(Yc (by simp)).trans f0;have g1:hget (τ.set 3 (.box zC)) 1=_:=(Yc (by simp)).trans f1;have g2:hget (τ.set 3 (.box zC)) 2=_:=(Yc (by simp)).trans f2;generalize τ.set 3 (.box zC)=τ1 at g0 g1 g2;refine Za rfl (Za rfl (Za rfl (Za rfl (Xd (stv (row':=[iv8 (ki u),iv g,iv 0,.str [],.str [],.str [],.nils,.nils,.nils,iv8 0,iv 0,iv 0,iv 0,.nils,.nils]) g2 rfl rfl rfl) (Zb _ (Qa g2)) ?_))));have h2:=Xc (x:=.box [iv8 (ki u),iv g,iv 0,.str [],.str [],.str [],.nils,.nils,.nils,iv8 0,iv 0,iv 0,iv 0,.nils,.nils]) g2 (by simp);have h0:hget (τ1.set 2 (.box [iv8 (ki u),iv g,iv 0,.str [],.str [],.str [],.nils,.nils,.nils,iv8 0,iv 0,iv 0,iv 0,.nils,.nils])) 0=_:=(Yc (by simp)).trans g0;have h1:hget (τ1.set 2 (.box [iv8 (ki u),iv g,iv 0,.str [],.str [],.str [],.nils,.nils,.nils,iv8 0,iv 0,iv 0,iv 0,.nils,.nils])) 1=_:=(Yc (by simp)).trans g1;generalize τ1.set 2 (.box [iv8 (ki u),iv g,iv 0,.str [],.str [],.str [],.nils,.nils,.nils,iv8 0,iv 0,iv 0,iv 0,.nils,.nils])=τ2 at h0 h1 h2;have hR:=hrn hk2 hno 0 (actD (ki u) g zAc);have fin:k' [] ((τ2.set 1 (.box [byV s1.1,.bool true])).set 1 (.box [.nils,.bool true])):=by
       rw[List.set_set];exact hk' _ _ ⟨rfl,.nils,0,true,_,actD (ki u) g zAc,(Yc (by simp)).trans h0,Xc h1 (by simp),λσ=>rfl,(Yc (by simp)).trans h2,⟨.nils,.nils,.nils,.nils,.nils,rfl,.inl ⟨rfl,rfl⟩,.inl ⟨rfl,rfl⟩,.inl ⟨rfl,rfl⟩,.inl ⟨rfl,rfl⟩,.inl ⟨rfl,rfl⟩⟩,hR⟩
      have hb2:hget (τ2.set 1 (.box [byV s1.1,.bool true])) 1=.box [byV s1.1,.bool true]:=Xc h1 (by simp);have hl1:=Qa h1;refine Za rfl (Za rfl (Za (v:=.bool s1.2) (Zj h1 rfl) ?_));cases hs:s1.2
      ·refine aw (Xd (stv (row':=[byV s1.1,.bool true]) h1 rfl rfl rfl) (Zb _ hl1) ?_);exact Za rfl (Za rfl (Xd (stv (row':=[.nils,.bool true]) hb2 rfl rfl rfl) (Zb _ (by simpa using hl1)) fin))
      ·refine aw (Xd (stv (row':=[byV s1.1,.bool true]) h1 rfl rfl rfl) (Zb _ hl1) ?_);exact Za rfl (Za rfl (Xd (stv (row':=[.nils,.bool true]) hb2 rfl rfl rfl) (Zb _ (by simpa using hl1)) fin))
    ·have hk2:¬ki u=2:=by simpa using h
     exact hk' _ _ ⟨rfl,byV s1.1,s1.1.length,s1.2,_,actD (ki u) g zAc,rfl,rfl,λσ=>Qe ..,rfl,⟨.nils,.nils,.nils,.nils,.nils,rfl,.inl ⟨rfl,rfl⟩,.inl ⟨rfl,rfl⟩,.inl ⟨rfl,rfl⟩,.inl ⟨rfl,rfl⟩,.inl ⟨rfl,rfl⟩⟩,hro hk1 hk2 _ _ _ rfl⟩
def resA(o:Option (List De)):AVal:=match o with
 |some l=>if oneB l then .tup [deV l,iv 0] else .tup [.nils,iv 260]
 |none=>.tup [.nils,iv 260]
theorem c9(b:List UInt8)(hlen:b.length≤1000000):PC 9 [byV b] (resA (archF b)):=by
 refine Xn hP k9.ok rfl ?_;rw[H1.e]; unfold k9; dsimp only; simp only[Yb,Qo,Qh];refine Xp (ι:=List UInt8×List De) (λi vs σ=>∃v,vs=[byV i.1,v]∧DL i.2 v σ∧archF b=(archF i.1).map (i.2 ++ ·)∧i.2.length+i.1.length≤b.length) (λi=>i.1.length) (b,[]) ⟨.nils,rfl,.inl ⟨rfl,rfl⟩,by cases archF b<;>rfl,by simp⟩ ?_;rintro⟨rb,l⟩ vs σ again ⟨v,rfl,hd,hA,hl⟩ hag;simp only at hd hA hl;refine Za (Qe ..) (Za (ZW ..) (Zd (λh=>?_) (λh=>?_)))
 ·have h:0<rb.length:=by simpa using h
  have hne:rb≠[]:=by rintro rfl; simp at h
  have hbad:(rb.length<4∨rb.length<4+d4 (rb.take 4))→resA (archF b)=.tup [.nils,iv 260]:=λq=>by rw[hA,Qbk hne q]; rfl
  refine Za (Qe ..) (Za (Qn ..) (Zd (λh4=>?_) (λh4=>?_)))
  ·rw[hbad (.inl (by simp at h4; omega))];exact⟨[],Bor.ro rfl⟩
  have h4:4≤rb.length:=by simp at h4; omega
  obtain⟨x0,x1,x2,x3,rest,rfl⟩:∃x0 x1 x2 x3 rest,rb=x0::x1::x2::x3::rest:=by
   match rb,h4 with
   |x0::x1::x2::x3::rest,_=>exact⟨x0,x1,x2,x3,rest,rfl⟩
  have hstep:=Za0 (b:=x0::x1::x2::x3::rest) hne;have e4:(x0::x1::x2::x3::rest).take 4=[x0,x1,x2,x3]:=rfl;have e5:∀m,(x0::x1::x2::x3::rest).drop (4+m)=rest.drop m:=λm=>by rw[←List.drop_drop]; rfl
  have e6:(x0::x1::x2::x3::rest).drop 4=rest:=rfl;have e7:(x0::x1::x2::x3::rest).length=4+rest.length:=by simp; omega
  rw[e4,e5,e6,e7] at hstep;rw[e4,e7] at hbad;refine Za (v:=.rptr (byC x0) 0) rfl (Za (v:=.int .u8 (x0.toNat:Int)) (Yu rfl) (Za (Qk ..) (Za rfl ?_)));refine Za (v:=.rptr (byC x1) 0) rfl (Za (v:=.int .u8 (x1.toNat:Int)) (Yu rfl) (Za (Qk ..) (Za rfl (Za rfl ?_))));refine Za (v:=.rptr (byC x2) 0) rfl (Za (v:=.int .u8 (x2.toNat:Int)) (Yu rfl) (Za (Qk ..) (Za rfl (Za rfl ?_))));refine Za (v:=.rptr (byC x3) 0) rfl (Za (v:=.int .u8 (x3.toNat:Int)) (Yu rfl) (Za (Qk ..) (Za (v:=iv (d4 [x0,x1,x2,x3]:Nat)) (rd:=[]) ?_ ?_)))
  ·show SRes.ok (.int .i64 _) [] []=_;exact congrArg (λz=>SRes.ok (.int .i64 z) [] []) (or4 x0 x1 x2 x3)
  refine Za (Xbl false false (x0::x1::x2::x3::rest) 4 (by simp)) ?_;rw[e6];generalize d4 [x0,x1,x2,x3]=m at hstep hbad;refine Za (Qe ..) (Za (ZW ..) (Zd (λhm=>?_) (λhm=>?_)))
  ·rw[hbad (.inr (by simp at hm; omega))];exact⟨[],Bor.ro rfl⟩
  have hm:m≤rest.length:=by simp at hm; omega
  have hstep:=hstep (by omega);obtain⟨x,ex,hro,hpc⟩:=sl5 (σ:=σ) false false rest m hm;have hc:=hpc (c22 (rest.take m) (by simp at hl ⊢; omega));refine Za ex (Yad hc rfl g22.ok.plain (by simp[roL,hro]) ?_);cases hO:readO (rest.take m) with
  |none=>
   rw[hO] at hstep;refine Za rfl (Za rfl (Xd (Yz σ _) (Yi _ _) (Xd (stv (cs:=zDe) (row':=zDe) (Zc _ _) rfl rfl rfl) (Zb _ (by simp)) (Za rfl (Xi ?_)))));rw[hA,hstep];exact⟨[],Bor.ro rfl⟩
  |some y=>
   rw[hO] at hstep;refine Za rfl (Za rfl (Xd (Yz σ _) (Yi _ _) (Xd (stv (cs:=deC y) (row':=deC y) (Zc _ _) rfl rfl rfl) (Zb _ (by simp)) (Za rfl (Qf ?_)))));have hσ:∀z,(σ++[z]).set σ.length (.box (deC y))=σ++[.box (deC y)]:=λz=>by
    rw[List.set_append_right _ _ (Nat.le_refl _)]; simp
   rw[hσ];have hd1:=hd.more [ABlk.box (deC y)];have hn:=Zc σ (.box (deC y));generalize hsl:σ.length=s at hn;generalize σ++[ABlk.box (deC y)]=σ1 at hd1 hn;refine Yf (v:=.agg (deC y)) (Zj hn rfl) rfl (Yf (v:=.sl σ1.length 0 1 true) (rd:=[]) (up:=[(σ1.length,.rows 15 [deC y])]) rfl (Yi _ _) ?_);obtain⟨v',up,σ2,e1,e2,e3,g1,-,g3⟩:=(hd1.more [.rows 15 [deC y]]).upd (m:=[y]) (y:=.sl σ1.length 0 1 true) (rd:=[σ1.length]) (ZJ (Zc _ _) rfl) (by simp at hl ⊢; omega);refine Yf e1 e2 (Yf (Xbl false false rest m hm) rfl (Xv ?_ ?_))
   ·rw[g3];cases v<;>simp[upsOf,Xf,Xj,Yj,Qp,apart2,disj,List.range,List.range.loop]
   refine hag (rest.drop m,l++[y]) _ _ (by show (rest.drop m).length<_; rw[e7,List.length_drop]; omega) ⟨v',rfl,g1,?_,by simp at hl ⊢; omega⟩;rw[hA,hstep];simp only[Option.bind_some,Option.map_map]
   congr 1
   funext q
   simp
 ·have h:rb=[]:=by simpa using h
  subst h;obtain⟨rd,hb⟩:=hd.bor;have hR:resA (archF b)=if oneB l then .tup [deV l,iv 0] else .tup [.nils,iv 260]:=by rw[hA,Zbl]; simp[resA]
  rw[hR];refine ZaJ (c17 l (by omega)) rfl g17.ok.plain (.cons hb .nil) rfl (Za (X6 ..) ?_);cases ho:oneB l
  ·exact Xi ⟨[],Bor.ro rfl⟩
  ·exact Qf ⟨rd,Bor.tup (.cons hb (BorL.ro rfl))⟩
set_option maxRecDepth 1000000
def zB:AVal:=(.agg [(.rsl true false 12 [[(.str [73,109,112]),(.bool true),(.int .i64 1),(.int .i64 2),(.int .i64 3),(.int .i64 1),(.int .i64 0),(.int .i64 0),.nils,.nils,.nils,(.int .i64 0)],[(.str [69,108,102]),(.bool true),(.int .i64 2),(.int .i64 1),(.int .i64 1),(.int .i64 0),(.int .i64 1),(.int .i64 0),.nils,.nils,.nils,(.int .i64 0)],[(.str [66,111,108,116]),(.bool false),(.int .i64 1),(.int .i64 0),(.int .i64 0),(.int .i64 0),(.int .i64 0),(.int .i64 0),(.rsl true false 14 [[(.int .i8 0),(.int .i8 2),(.int .i8 0),(.int .i64 3),(.int .i8 0),.nils,(.str []),(.int .i8 0),(.int .i8 0),(.str []),.nils,.nils,.nils,.nils]]),.nils,.nils,(.int .i64 0)]]),(.rsl true false 7 [[(.str [115,116,100]),(.int .i64 0),(.int .i64 60),(.int .i64 60),.nils,.nils,(.int .i64 0)]])])
def zD0:AVal:=.rsl true false 1 [[.int .i64 0],[.int .i64 1],[.int .i64 2],[.int .i64 0],[.int .i64 1]]
def zD1:AVal:=.rsl true false 1 [[.int .i64 2],[.int .i64 1],[.int .i64 0],[.int .i64 0],[.int .i64 2]]
def zDr:AVal:=.rsl true false 1 [[.int .i64 1],[.int .i64 2]]
def zS:AVal:=(.agg [(.int .i64 1),(.int .i64 0),(.int .i8 0),(.bool false),(.int .i8 0),.nils,(.int .i64 1),(.int .i64 20),(.int .i64 1),(.int .i64 1),(.rsl true true 1 []),(.rsl false false 1 [[(.int .i64 0)],[(.int .i64 0)],[(.int .i64 1)],[(.int .i64 2)],[(.int .i64 1)]]),.nils,.nils,(.rsl false false 1 [[(.int .i64 0)],[(.int .i64 0)],[(.int .i64 1)],[(.int .i64 2)],[(.int .i64 1)]]),(.int .i64 20),(.int .i64 0),(.int .i64 0),(.rsl false false 1 [[(.int .i64 1)]]),(.rsl false false 1 [[(.int .i64 0)],[(.int .i64 2)],[(.int .i64 2)],[(.int .i64 0)]]),.nils,.nils,(.rsl false false 1 [[(.int .i64 0)],[(.int .i64 2)],[(.int .i64 2)],[(.int .i64 0)]])])
def zE:AVal:=(.rsl false false 7 [[(.int .i8 0),(.int .i64 0),(.int .i64 0),(.int .i64 0),(.int .i64 0),(.int .i64 1),.nils],[(.int .i8 3),(.int .i64 0),(.int .i64 1),(.int .i64 0),(.int .i64 0),(.int .i64 0),.nils]])
def zA:AVal:=.agg [.int .i8 4,.int .i64 0,.int .i64 0,.int .i64 (-1),.nils,.nils]
def zS2:AVal:=(.agg [(.int .i64 1),(.int .i64 0),(.int .i8 2),(.bool false),(.int .i8 2),.nils,(.int .i64 1),(.int .i64 20),(.int .i64 1),(.int .i64 1),(.rsl true true 1 []),(.rsl false false 1 [[(.int .i64 0)],[(.int .i64 0)],[(.int .i64 1)],[(.int .i64 2)],[(.int .i64 1)]]),.nils,.nils,.nils,(.int .i64 20),(.int .i64 0),(.int .i64 0),(.rsl false false 1 [[(.int .i64 1)]]),(.rsl false false 1 [[(.int .i64 0)],[(.int .i64 2)],[(.int .i64 2)],[(.int .i64 0)]]),.nils,.nils,.nils])
def zE2:AVal:=(.rsl false false 7 [[(.int .i8 15),(.int .i64 0),(.int .i64 0),(.int .i64 0),(.int .i64 0),(.int .i64 2),.nils]])
def zDv:AVal:=(.agg [(.int .i8 1),(.int .i64 0),(.int .i64 0),(.str [115,116,100]),(.str [97,110,110]),(.str [98,111,98]),(.rsl true false 1 [[(.int .i64 0)],[(.int .i64 1)],[(.int .i64 2)],[(.int .i64 0)],[(.int .i64 1)]]),(.rsl true false 1 [[(.int .i64 2)],[(.int .i64 1)],[(.int .i64 0)],[(.int .i64 0)],[(.int .i64 2)]]),(.rsl true false 1 [[(.int .i64 1)],[(.int .i64 2)]]),(.int .i8 0),(.int .i64 0),(.int .i64 0),(.int .i64 0),.nils,.nils])
noncomputable def zR:List RBD:=[r416.d]
theorem ZbL:RBsOk prog GL0 zR:=⟨YcJ hP r416.h,trivial⟩
def z0:KnF:=λ_ _=>none
theorem ZcV:KfOk prog GL0 z0:=λ_ _ _ h=>by cases h
theorem z78:PC 78 [zB] (.agg [.int .i64 0,.int .i64 0]):=Z2 hP (hs:=[]) trivial ZbL hT ZcV (kb:=λ_=>false) (he:=λ_=>false) (much:=1000000000) 60 (by kernel_rfl)
theorem z14:PC 14 [] zB:=Z2 hP (hs:=[]) trivial ZbL hT ZcV (kb:=λ_=>false) (he:=λ_=>false) (much:=1000000000) 60 (by kernel_rfl)
theorem z15:PC 15 [] zDv:=Z2 hP (hs:=[]) trivial ZbL hT ZcV (kb:=λ_=>false) (he:=λ_=>false) (much:=1000000000) 60 (by kernel_rfl)
def z1:KnF:=λf xs=>match Nat.beq f 78&&eqL xs [zB] with
 |true=>some (.agg [.int .i64 0,.int .i64 0])
 |false=>none
theorem ZcG{f n:Nat}{xs ys:List AVal}(h:(Nat.beq f n&&eqL xs ys)=true):f=n∧xs=ys:=by
 simp only[Bool.and_eq_true] at h;exact⟨YNB h.1,YbP h.2⟩
theorem Qc7:KfOk prog GL0 z1:=by
 intro f xs v h;unfold z1 at h;split at h
 ·rename_i q; obtain⟨rfl,rfl⟩:=ZcG q; cases h; exact⟨g78.ok.plain,rfl,rfl,z78⟩
 ·cases h
def zb:FuncId→Bool:=λf=>Nat.beq f 78
theorem z79:PC 79 [zB,.agg [zD0,zD1],zDr] (.tup [zS,zE,.int .i64 0]):=Z2 hP (hs:=[]) trivial ZbL hT Qc7 (kb:=zb) (he:=λ_=>false) (much:=1000000000) 60 (by kernel_rfl)
theorem z80:PC 80 [zB,zS,zA] (.tup [zS2,zE2,.int .i64 0]):=Z2 hP (hs:=[]) trivial ZbL hT Qc7 (kb:=zb) (he:=λ_=>false) (much:=1000000000) 60 (by kernel_rfl)
def z2:KnF:=λf xs=>match Nat.beq f 14&&eqL xs [] with
 |true=>some zB
 |false=>match Nat.beq f 15&&eqL xs [] with
  |true=>some zDv
  |false=>match Nat.beq f 79&&eqL xs [zB,.agg [zD0,zD1],zDr] with
   |true=>some (.tup [zS,zE,.int .i64 0])
   |false=>match Nat.beq f 80&&eqL xs [zB,zS,zA] with
    |true=>some (.tup [zS2,zE2,.int .i64 0])
    |false=>z1 f xs
theorem z2_ok:KfOk prog GL0 z2:=by
 intro f xs v h;unfold z2 at h;split at h
 ·rename_i q; obtain⟨rfl,rfl⟩:=ZcG q; cases h; exact⟨g14.ok.plain,rfl,rfl,z14⟩
 split at h
 ·rename_i q; obtain⟨rfl,rfl⟩:=ZcG q; cases h; exact⟨g15.ok.plain,rfl,rfl,z15⟩
 split at h
 ·rename_i q; obtain⟨rfl,rfl⟩:=ZcG q; cases h; exact⟨g79.ok.plain,rfl,rfl,z79⟩
 split at h
 ·rename_i q; obtain⟨rfl,rfl⟩:=ZcG q; cases h; exact⟨g80.ok.plain,rfl,rfl,z80⟩
 exact Qc7 _ _ _ h
theorem p6:PC 6 [] (.bool true):=Z2 hP (hs:=[]) trivial ZbL hT z2_ok (kb:=zb) (he:=λ_=>false) (much:=1000000000) 60 (by kernel_rfl)
theorem z12:PC 12 [.agg [.nils,.nils]] (.bool false):=Z2 hP (hs:=[]) trivial ZbL hT ZcV (kb:=λ_=>false) (he:=λ_=>false) (much:=1000000000) 60 (by kernel_rfl)
def deN(x:De):Nat:=x.d0.length+x.d1.length+x.dr.length+x.ac.ids.length+x.ac.prs.length
def Xbp(l:List De):Bool:=decide (40<l.length∨600<((l.take 41).map deN).sum)
theorem c5(l:List De)(hl:l.length≤1000000000)(hn:∀x∈l,deN x≤1000000000):PC 5 [.agg [.nils,.nils],deV l] (.bool (Xbp l)):=by
 refine Xo hP k5.ok rfl rfl ?_;rw[H2.e]; unfold k5; dsimp only; simp only[Yb];refine Xd (v:=.bptr 0 0) (rd:=[]) (up:=[(0,.box [.nils,.nils])]) rfl rfl ?_;refine Xp (ι:=Nat) (λi vs σ=>∃s:Nat,vs=[iv i,iv s]∧i≤l.length∧i≤41∧s=((l.take i).map deN).sum∧s≤1000000000*i∧σ=[.box [.nils,.nils]]) (λi=>l.length-i) 0 ⟨0,rfl,by omega,by omega,rfl,by omega,rfl⟩ ?_;rintro i vs σ again ⟨s,rfl,hi,hi2,hs,hsl,rfl⟩ hag;refine Za (Qe ..) (Za (Qn ..) ?_);refine Xdh (λ_=>rfl) (λ_=>ZaO ..) ?_;refine Zd (λh=>?_) (λh=>?_)
 ·have h:i<l.length∧i≤40:=by simp at h; omega
  have hx:=hn l[i] (List.getElem_mem h.1);have hst:((l.take (i+1)).map deN).sum=s+deN l[i]:=by rw[List.take_succ_eq_append_getElem h.1,List.map_append,List.sum_append,←hs]; simp
  have hix:=λσ=>Xaq (σ:=σ) deC false false 15 l .i64 i h.1;generalize l[i]=x at hx hst hix;unfold deN at hx;refine Za (hix _) (Za rfl (Za rfl (Za (v:=rowV x.d0) (Yu rfl) (Za (Qe ..) (Za (Xr ..) ?_)))));rw[XM (by omega) (by omega)];refine Za (hix _) (Za rfl (Za rfl (Za (v:=rowV x.d1) (Yu rfl) (Za (Qe ..) (Za (Xr ..) ?_)))));rw[XM (by omega) (by omega)];refine Za (hix _) (Za rfl (Za (v:=rowV x.dr) (Yu rfl) (Za (Qe ..) (Za (Xr ..) ?_))));rw[XM (by omega) (by omega)];refine Za (hix _) (Za rfl (Za rfl (Za (v:=rowV x.ac.ids) (Yu rfl) (Za (Qe ..) (Za (Xr ..) ?_)))));rw[XM (by omega) (by omega)];refine Za (hix _) (Za rfl (Za rfl (Za (v:=prV x.ac.prs) (Yu rfl) (Za (Qe ..) (Za (Xr ..) ?_)))));rw[XM (by omega) (by omega)];refine Za (Xr ..) ?_;rw[Zh (n:=i) (by omega)];refine hag (i+1) _ _ (by omega) ⟨s+deN x,?_,by omega,by omega,hst.symm,by unfold deN; omega,rfl⟩;unfold deN
  congr 2
  exact congrArg iv (by omega)
 ·have h:i=l.length∨i=41:=by simp at h; omega
  have ht:s=((l.take 41).map deN).sum:=by
   rcases h with h|h
   ·rw[hs,h,List.take_length,List.take_of_length_le (by omega)]
   ·rw[hs,h]
  refine Za (Qe ..) (Za (ZW ..) ?_);refine XcC (λ_=>rfl) (λ_=>ZW ..) ?_;have hR:Xbp l=(decide ((40:Int)<(l.length:Int))||decide ((600:Int)<(s:Int))):=by
   rw[Bool.eq_iff_iff]; simp only[Xbp,YDE,Bool.or_eq_true,←ht]; omega
  rw[←hR];cases hg:Xbp l
  ·refine aw (W_q z12 g12.ok (Za rfl ?_));rfl
  ·refine aw ?_;rfl
theorem Qao(a:Ac):(actQ a).length=48+8*a.ids.length+16*a.prs.length:=by
 simp only[actQ,listQ,List.length_append,Xg,Xae Xg,Xae QbH]; omega
theorem Xag(s:List UInt8):(strQ s).length=8+s.length:=by simp[strQ,Xg]
theorem XZ(l:List Int):(listQ n8 l).length=8+8*l.length:=by
 simp only[listQ,List.length_append,Xg,Xae Xg]; omega
theorem ZbV(x:De):(recQ x).length=13+(if x.kind=2 then 48+8*x.ac.ids.length+16*x.ac.prs.length else 56+x.fmt.length+x.n0.length+x.n1.length+8*x.d0.length+8*x.d1.length+8*x.dr.length):=by
 rw[recQ,List.length_append,show (n4 (deQ x).length).length=4 from rfl,deQ,List.length_append,List.length_cons,Xg];split
 ·rw[Qao]; omega
 ·simp only[begQ,List.flatMap_cons,List.flatMap_nil,List.append_nil,List.length_append,Xg,Xag,XZ]; omega
theorem XcP{x:De}{n:Nat}(h0:x.fmt.length≤n)(h1:x.n0.length≤n)(h2:x.n1.length≤n):(recQ x).length≤200+3*n+16*deN x:=by
 rw[ZbV];unfold deN;split<;>omega
theorem Qcp{c d:Nat}:∀l:List De,(∀x∈l,(recQ x).length≤c+d*deN x)→(l.flatMap recQ).length≤c*l.length+d*(l.map deN).sum
 |[],_=>by simp
 |x::l,h=>by
  have ih:=Qcp l (λy hy=>h y (by simp[hy]));have hx:=h x (by simp);simp only[List.flatMap_cons,List.length_append,List.length_cons,List.map_cons,List.sum_cons,Nat.mul_add,Nat.mul_one] at *;omega
theorem ZcE:∀ {l:List De} {x:De},x∈l→deN x≤(l.map deN).sum
 |y::l,x,h=>by
  rcases List.mem_cons.1 h with rfl|h
  ·simp
  ·have:=ZcE h; simp; omega
theorem Ya2:∀l:List De,l.length≤(l.flatMap recQ).length
 |[]=>by simp
 |x::l=>by
  have:=Ya2 l;have h:=ZbV x;simp only[List.flatMap_cons,List.length_append,List.length_cons];omega
structure FairD (x:De):Prop where
 ok:DeOk x
 fmt:x.fmt.length≤1048576
 n0:x.n0.length≤1048576
 n1:x.n1.length≤1048576
 d0:x.d0.length≤1048576
 d1:x.d1.length≤1048576
 dr:x.dr.length≤1048576
 ids:x.ac.ids.length≤1048576
 prs:x.ac.prs.length≤1048576
end Go.Ah.Tz
end
section
namespace Go.Ah.Tz
open Go.Proofs.Tryz (prog)
set_option maxRecDepth 100000
set_option maxHeartbeats 4000000
attribute [local irreducible] Ans.rd Ans.pu Ans.wr Ans.dr Ans.gr Ans.gw Ans.gl Ans.gd Ans.opt joinK hdV tlV cellV Xf qC qD qT qL qS qR Yh YK Yai QA Qai Zai ZaX XV Zaj Xl QG XC Zg YP Yr XJ YT QJ QV ZK Xai Zs YE Yx Xx XA Zt Yy Qt Zu Yn ZC YC Zq QF ZR XaH Xaw XN XE QD QQ YR XaC Zv XR Ye Qaa Xs Zab Xaj QU YG Qaj ZE Zak Yak QL Zy Qcx Qj Xak QW ZX YbI
def k08:H1 prog GL0 8 [none,none,some [5,4],none,none,none]:={g:=_}
def k10:H1 prog GL0 10 [none,some [5,4],none,none,none,none,none,none]:={g:=_}
def k19:H1 prog GL0 19 [none,none,some [3],none,none,none]:={g:=_}
def k20:H1 prog GL0 20 [none,none]:={g:=_}
def k21:H1 prog GL0 21 [none,some [4,3],none,none]:={g:=_}
def k23:H1 prog GL0 23 [none,some [],some [],none,some [12],none,none,none,some [14],none,none,none]:={g:=_}
def k35:H1 prog GL0 35 [none,none]:={g:=_}
def k36:H2 prog GL0 36 [none,some [5,0],none,none]:={g:=_}
def q37:H1 prog GL0 37 [some [999],none,some [4,3],none,none]:={g:=_}
def k38:H2 prog GL0 38 []:={g:=_}
def k39:H2 prog GL0 39 [none,some [5,0],none,none]:={g:=_}
def k45:H1 prog GL0 45 [none,none,some [4,3],none,none]:={g:=_}
def k46:H1 prog GL0 46 [none,none,some [7],none,none,none]:={g:=_}
def k47:H1 prog GL0 47 []:={g:=_}
def k48:H1 prog GL0 48 [none,some [5,3],none,none]:={g:=_}
def k66:H1 prog GL0 66 []:={g:=_}
def k67:H1 prog GL0 67 []:={g:=_}
def k71:H1 prog GL0 71 [none]:={g:=_}
def k72:H1 prog GL0 72 [none,some [4,3],none,none]:={g:=_}
def k73:H1 prog GL0 73 [none,some [5,3],none,none]:={g:=_}
def k74:H2 prog GL0 74 [some [],none]:={g:=_}
def k75:H1 prog GL0 75 [some []]:={g:=_}
def k76:H2 prog GL0 76 [none]:={g:=_}
def k89:H2 prog GL0 89 [none]:={g:=_}
def k90:H1 prog GL0 90 [some [],none]:={g:=_}
end Go.Ah.Tz
end
section
namespace Go.Ah.Tz
open Go.Proofs.Tryz (prog)
set_option maxRecDepth 100000
theorem shr_i{σ:List ABlk}(n:Int)(r:Nat)(h:r<8):Zq .shr false [.int .u64 (IntKind.u64.wrap n),iv (56-8*(r:Int))] σ=.ok (.int .u64 ((IntKind.u64.wrap n).fdiv (2 ^ (56-8*r)))) [] []:=by
 match r,h with
 |0,_=>rfl
 |1,_=>rfl
 |2,_=>rfl
 |3,_=>rfl
 |4,_=>rfl
 |5,_=>rfl
 |6,_=>rfl
 |7,_=>rfl
theorem shr_7{σ:List ABlk}(n:Int)(r:Nat)(h:r<8):Zq .shr false [.int .u64 (IntKind.u64.wrap n),.int .u64 (IntKind.u64.wrap (IntKind.i64.wrap (8*(7-(r:Int)))))] σ=.ok (.int .u64 ((IntKind.u64.wrap n).fdiv (2 ^ (56-8*r)))) [] []:=by
 match r,h with
 |0,_=>rfl
 |1,_=>rfl
 |2,_=>rfl
 |3,_=>rfl
 |4,_=>rfl
 |5,_=>rfl
 |6,_=>rfl
 |7,_=>rfl
theorem Qct(n:Int)(r:Nat)(h:r<8):(n8 n).take (r+1)=(n8 n).take r++[by8 n r]:=by
 have hn8:=Xg n;rw[List.take_succ_eq_append_getElem (by omega)]; simp[n8]
attribute [local irreducible] Ans.rd Ans.pu Ans.wr Ans.dr Ans.gr Ans.gw Ans.gl Ans.gd Ans.opt joinK W
set_option maxHeartbeats 8000000
theorem c21(n:Int):PC 21 [.int .u64 (IntKind.u64.wrap n)] (byV (n8 n)):=by
 refine Xn hP k21.ok rfl ?_;rw[H1.e]; unfold k21; dsimp only; simp only[Yb,Qh];refine Xp (ι:=Nat) (λi vs σ=>∃v,vs=[iv i,v]∧i≤8∧GB ((n8 n).take i) v σ) (λi=>8-i) 0 ⟨.nils,rfl,by omega,.inl ⟨rfl,rfl⟩⟩ ?_;rintro i vs σ again ⟨v,rfl,hi,hg⟩ hag;refine Za (Qn ..) (Zd (λh=>?_) (λh=>?_))
 ·have h:i<8:=by simp at h; omega
  refine Za (Ydd ..) (Za (YaH ..) ?_);rw[show IntKind.i64.wrap (8*(i:Int))=8*(i:Int) from IntWalk.i64_in _ (by omega),show IntKind.i64.wrap (56-8*(i:Int))=56-8*(i:Int) from IntWalk.i64_in _ (by omega)];refine Za (shr_i n i h) (Za (Qk ..) ?_);rw[X7 n i _ rfl];refine Xd (v:=.sl σ.length 0 1 true) (rd:=[]) (up:=[(σ.length,.rows 1 [byC (by8 n i)])]) rfl (Yi _ _) ?_;refine(hg.more _).app (cs:=[by8 n i]) (ZJ (Zc _ _) rfl) (by simp; omega) λv' σ' _ g=>?_;refine Za (Xr ..) ?_;rw[Zh (n:=i) (by omega)];exact hag (i+1) _ _ (by omega) ⟨v',rfl,by omega,by rw[Qct n i h]; exact g⟩
 ·have h:i=8:=by simp at h; omega
  subst h;rw[List.take_of_length_le (by rw[Xg]; exact Nat.le_refl 8)] at hg;exact hg.bor
theorem number27(n:Int){bs:List UInt8}{v:AVal}{σ:List ABlk}{Z:PZ}{K:KT}(hg:GB bs v σ)(hroom:bs.length+8≤1000000000)(hK:∀v' σ',BX σ σ'→GB (bs++n8 n) v' σ'→K v' σ'):(VV Z).call (.call 36) [v,iv n] σ K:=by
 refine Ze hP rfl k36.ok rfl ?_;show k36.u (VV Z) [v,iv n] σ K;rw[H2.e]; unfold k36; dsimp only; simp only[Yb,Qh];have hn8:=Xg n;refine Xp (ι:=Nat) (λr vs τ=>∃v,vs=[iv (7-(r:Int)),v]∧r≤8∧BX σ τ∧GB (bs++(n8 n).take r) v τ) (λr=>8-r) 0 ⟨v,rfl,by omega,λ_ _ q=>q,by simpa using hg⟩ ?_;rintro r vs τ again ⟨v,rfl,hr,hb,hg⟩ hag;refine Za (Xbd ..) (Zd (λh=>?_) (λh=>?_))
 ·have h:r<8:=by simp at h; omega
  refine Za (Qk ..) (Za (Ydd ..) (Za (Qk ..) (Za (shr_7 n r h) (Za (Qk ..) ?_))));rw[X7 n r _ rfl];refine Xd (v:=.sl τ.length 0 1 true) (rd:=[]) (up:=[(τ.length,.rows 1 [byC (by8 n r)])]) rfl (Yi _ _) ?_;refine(hg.more _).app (cs:=[by8 n r]) (ZJ (Zc _ _) rfl) (by simp; omega) λv' σ' k g=>?_;refine Za (YaH ..) ?_;rw[show IntKind.i64.wrap (7-(r:Int)-1)=7-((r+1:Nat):Int) by rw[IntWalk.i64_in _ (by omega)]; omega];refine hag (r+1) _ _ (by omega) ⟨v',rfl,by omega,λc row hc=>?_,by rw[Qct n r h,←List.append_assoc]; exact g⟩;exact hg.bx k.more c row (hb c row hc)
 ·have h:r=8:=by simp at h; omega
  subst h;rw[List.take_of_length_le (by omega)] at hg;exact hK _ _ hb hg
theorem text27(s:List UInt8){bs:List UInt8}{v:AVal}{σ:List ABlk}{Z:PZ}{K:KT}(hg:GB bs v σ)(hroom:bs.length+8+s.length≤1000000000)(hK:∀v' σ',BX σ σ'→GB (bs++strQ s) v' σ'→K v' σ'):(VV Z).call (.call 38) [v,.str s] σ K:=by
 refine Ze hP rfl k38.ok rfl ?_;show k38.u (VV Z) [v,.str s] σ K;rw[H2.e]; unfold k38; dsimp only;refine Za rfl (number27 _ hg (by omega) λv1 σ1 k1 g1=>?_);refine g1.app (Ybi s) (by rw[List.length_append,Xg]; omega) λv2 σ2 k2 g2=>?_;exact hK _ _ (λc row hc=>g1.bx k2 c row (k1 c row hc)) (by rw[strQ,←List.append_assoc]; exact g2)
theorem list27(l:List Int){bs:List UInt8}{v:AVal}{σ:List ABlk}{Z:PZ}{K:KT}(hg:GB bs v σ)(hroom:bs.length+8+8*l.length≤1000000000)(hK:∀v' σ',BX σ σ'→GB (bs++listQ n8 l) v' σ'→K v' σ'):(VV Z).call (.call 39) [v,rowV l] σ K:=by
 refine Ze hP rfl k39.ok rfl ?_;show k39.u (VV Z) [v,rowV l] σ K;rw[H2.e]; unfold k39; dsimp only; simp only[Yb];refine Za (Qe ..) (number27 _ hg (by omega) λv1 σ1 k1 g1=>?_);refine Xp (ι:=Nat) (λi vs τ=>∃v cs,vs=[iv i,v]∧i≤l.length∧BX σ τ∧cs=bs++n8 l.length++(l.take i).flatMap n8∧cs.length=bs.length+8+8*i∧GB cs v τ) (λi=>l.length-i) 0 ⟨v1,_,rfl,by omega,k1,by simp,by simp[Xg],g1⟩ ?_;rintro i vs τ again ⟨v,cs,rfl,hi,hb,hc1,hc2,hg⟩ hag;refine Za (Qe ..) (Za (Qn ..) (Zd (λh=>?_) (λh=>?_)))
 ·have h:i<l.length:=by simpa using h
  refine Za (Xaq cel false false 1 l .i64 i h) (Za (v:=iv l[i]) (Yu rfl) (number27 _ hg (by omega) λv2 σ2 k2 g2=>?_));refine Za (Xr ..) ?_;rw[Zh (n:=i) (by omega)];exact hag (i+1) _ _ (by omega) ⟨v2,_,rfl,by omega,λc row hc=>k2 c row (hb c row hc),by rw[hc1,List.take_succ_eq_append_getElem h,List.flatMap_append,←List.append_assoc]; simp only[List.flatMap_cons,List.flatMap_nil,List.append_nil],by rw[List.length_append,Xg]; omega,g2⟩
 ·have h:i=l.length:=by simp at h; omega
  subst h;rw[List.take_length] at hc1;subst hc1;exact hK _ _ hb (by rw[listQ,←List.append_assoc]; exact hg)
theorem c66(s:List UInt8):PC 66 [.str s] (.bool (Y6 s)):=by
 refine Xo hP k66.ok rfl rfl ?_;rw[H1.e]; unfold k66; dsimp only; simp only[Yb];refine Za rfl (Za (Xbd ..) ?_);refine Zal (λ_=>rfl) (λ_=>rfl) (λ_=>ZaO ..) ?_;refine congrArg AVal.bool ?_;have:decide ((s.length:Int) ≥ 1) = !(s==[]):=by cases s<;>simp; omega
 rw[Y6,←this]
def noAcB(a:Ac):Bool:=((((decide (a.op=0)&&decide (a.side=0))&&decide (a.place=0))&&decide (a.target=0))&&decide ((a.ids.length:Int)=0))&&decide ((a.prs.length:Int)=0)
theorem c67(a:Ac):PC 67 [.agg (acC a)] (.bool (noAcB a)):=by
 refine Xo hP k67.ok rfl rfl ?_;rw[H1.e]; unfold k67; dsimp only; simp only[Yb];refine Xd (v:=.bptr 0 0) (rd:=[]) (up:=[(0,.box (acC a))]) rfl rfl (Za rfl (Za (v:=iv8 a.op) rfl (Za (YB ..) ?_)));refine Zal (v2:=iv a.side) (λ_=>rfl) (λ_=>rfl) (λ_=>YB ..) ?_;refine Zal (v2:=iv a.place) (λ_=>rfl) (λ_=>rfl) (λ_=>YB ..) ?_;refine Zal (v2:=iv a.target) (λ_=>rfl) (λ_=>rfl) (λ_=>YB ..) ?_;refine XaU (v2:=rowV a.ids) (v3:=iv a.ids.length) (λ_=>rfl) (λ_=>rfl) (λ_=>Qe ..) (λ_=>YB ..) ?_;refine XaU (v2:=prV a.prs) (v3:=iv a.prs.length) (λ_=>rfl) (λ_=>rfl) (λ_=>Qe ..) (λ_=>YB ..) ?_;rfl
def begB(x:De):Bool:=((((((decide ((x.fmt.length:Int)≤40)&&Y6 x.n0)&&Y6 x.n1)&&decide ((x.d0.length:Int)≤60))&&decide ((x.d1.length:Int)≤60))&&decide ((x.dr.length:Int)≤256))&&noAcB x.ac)
def actB(x:De):Bool:=(((((((decide (x.kind=2)&&(x.fmt==[]))&&(x.n0==[]))&&(x.n1==[]))&&decide ((x.d0.length:Int)=0))&&decide ((x.d1.length:Int)=0))&&decide ((x.dr.length:Int)=0))&&decide (x.table=0))
theorem Qcs{x:De}(hl:DeLe 1000000000 x):mayD x=((decide (0≤x.game)&&decide (0≤x.table))&&((decide (x.kind=1)&&begB x)||(!decide (x.kind=1)&&actB x))):=by
 obtain⟨l1,l2,l3,l4,l5⟩:=hl;have w1:IntKind.i64.wrap ((x.ac.ids.length:Int)+x.ac.prs.length)=(x.ac.ids.length:Int)+x.ac.prs.length:=XM (by omega) (by omega);have w2:IntKind.i64.wrap ((x.d0.length:Int)+x.d1.length)=(x.d0.length:Int)+x.d1.length:=XM (by omega) (by omega);have w3:IntKind.i64.wrap ((x.d0.length:Int)+x.d1.length+x.dr.length)=(x.d0.length:Int)+x.d1.length+x.dr.length:=XM (by omega) (by omega);have e1:decide ((x.ac.ids.length:Int)+x.ac.prs.length=0)=(decide ((x.ac.ids.length:Int)=0)&&decide ((x.ac.prs.length:Int)=0)):=by
  rw[Bool.eq_iff_iff]; simp only[Bool.and_eq_true,YDE]; omega
 have e2:decide ((x.d0.length:Int)+x.d1.length+x.dr.length=0)=((decide ((x.d0.length:Int)=0)&&decide ((x.d1.length:Int)=0))&&decide ((x.dr.length:Int)=0)):=by
  rw[Bool.eq_iff_iff]; simp only[Bool.and_eq_true,YDE]; omega
 unfold mayD m1 m2 m3 begB actB noAcB;rw[w1,w2,w3,e1,e2];have ne:decide (x.kind≠1) = !decide (x.kind=1):=by simp
 rw[ne];by_cases hk:x.kind=1
 ·rw[hk];simp only[decide_true,Bool.not_true,Bool.false_or,Bool.true_or,Bool.and_true,Bool.true_and,Bool.false_and,Bool.or_false,Bool.and_assoc]
 ·rw[YDF hk];simp only[Bool.not_false,Bool.true_or,Bool.and_true,Bool.false_or,Bool.true_and,Bool.false_and,Bool.and_assoc];rw[Bool.eq_iff_iff];simp only[Bool.and_eq_true];constructor
  ·rintro⟨h1,h2,h3,h4,h5,h6,h7,h8⟩; simp_all
  ·rintro⟨h1,h2,h3,h4,h5,h6,h7,h8⟩; simp_all
theorem c35(x:De)(hl:DeLe 1000000000 x):PC 35 [.agg (deC x)] (.bool (mayD x)):=by
 rw[Qcs hl];refine Xo hP k35.ok rfl rfl ?_;rw[H1.e]; unfold k35; dsimp only; simp only[Yb];refine Xd (v:=.bptr 0 0) (rd:=[]) (up:=[(0,.box (deC x))]) rfl rfl (Za rfl (Za (v:=iv x.game) rfl (Za (Qn ..) ?_)));refine Qdh (v2:=iv x.table) (λ_=>rfl) (λ_=>rfl) (λ_=>Qn ..) ?_;refine Zd (λh=>?_) (λh=>?_)
 ·refine congrArg AVal.bool ?_;have:(decide (0≤x.game)&&decide (0≤x.table))=false:=by
   simp only[Bool.or_eq_true,YDE] at h;simp only[Bool.and_eq_false_iff,YDN]; omega
  rw[this]; rfl
 have hgt:(decide (0≤x.game)&&decide (0≤x.table))=true:=by
  simp only[Bool.or_eq_false_iff,YDN] at h;simp only[Bool.and_eq_true,YDE]; omega
 rw[hgt];refine Za rfl (Za (v:=iv8 x.kind) rfl (Za (YB ..) (Zd (λhk=>?_) (λhk=>?_))))
 ·rw[hk];refine Za rfl (Za (v:=.str x.fmt) rfl (Za (v:=iv x.fmt.length) rfl (Za (ZaO ..) ?_)));refine Xby (v3:=.str x.n0) (d:=Y6 x.n0) (λ_=>rfl) (λ_=>rfl) (λ_=>rfl) (λ_ k hk=>W_q (c66 x.n0) g66.ok hk) ?_;refine Xby (v3:=.str x.n1) (d:=Y6 x.n1) (λ_=>rfl) (λ_=>rfl) (λ_=>rfl) (λ_ k hk=>W_q (c66 x.n1) g66.ok hk) ?_;refine Qax (v3:=rowV x.d0) (v4:=iv x.d0.length) (λ_=>rfl) (λ_=>rfl) (λ_=>rfl) (λ_=>Qe ..) (λ_=>ZaO ..) ?_;refine Qax (v3:=rowV x.d1) (v4:=iv x.d1.length) (λ_=>rfl) (λ_=>rfl) (λ_=>rfl) (λ_=>Qe ..) (λ_=>ZaO ..) ?_;refine XaU (v2:=rowV x.dr) (v3:=iv x.dr.length) (λ_=>rfl) (λ_=>rfl) (λ_=>Qe ..) (λ_=>ZaO ..) ?_;refine YcC (v2:=.agg (acC x.ac)) (d:=noAcB x.ac) (λ_=>rfl) (λ_=>rfl) (λ_ k hk=>W_q (c67 x.ac) g67.ok hk) ?_;simp only[Bool.true_and,Bool.not_true,Bool.false_and,Bool.or_false];rfl
 ·rw[hk];refine Za rfl (Za (v:=iv8 x.kind) rfl (Za (YB ..) ?_));refine Zal (v2:=.str x.fmt) (λ_=>rfl) (λ_=>rfl) (λ_=>Ya1 ..) ?_;refine XaU (v3:=.str x.n0) (λ_=>rfl) (λ_=>rfl) (λ_=>rfl) (λ_=>Ya1 ..) ?_;refine XaU (v3:=.str x.n1) (λ_=>rfl) (λ_=>rfl) (λ_=>rfl) (λ_=>Ya1 ..) ?_;refine Qax (v3:=rowV x.d0) (v4:=iv x.d0.length) (λ_=>rfl) (λ_=>rfl) (λ_=>rfl) (λ_=>Qe ..) (λ_=>YB ..) ?_;refine Qax (v3:=rowV x.d1) (v4:=iv x.d1.length) (λ_=>rfl) (λ_=>rfl) (λ_=>rfl) (λ_=>Qe ..) (λ_=>YB ..) ?_;refine XaU (v2:=rowV x.dr) (v3:=iv x.dr.length) (λ_=>rfl) (λ_=>rfl) (λ_=>Qe ..) (λ_=>YB ..) ?_;refine Zal (v2:=iv x.table) (λ_=>rfl) (λ_=>rfl) (λ_=>YB ..) ?_;simp only[Bool.true_and,Bool.not_false,Bool.false_and,Bool.false_or];rfl
end Go.Ah.Tz
end
section
namespace Go.Ah
theorem ZaF(f:AVal→AVal):∀(B A:List ABlk),((List.range' A.length B.length).map λc=>(c,(hget (A++B) c).mapV f))=Yp A.length (B.map (ABlk.mapV f))
 |[],_=>rfl
 |x::B,A=>by
  have ih:=ZaF f B (A++[x]);rw[List.length_append,List.length_singleton,List.append_assoc,List.singleton_append] at ih;simp only[List.length_cons,List.range'_succ,List.map_cons,Yp,ih]
  congr 2
  congr 1
  exact Xq (by simp)
end Go.Ah
namespace Go.Ah.Tz
open Go.Proofs.Tryz (prog)
set_option maxRecDepth 100000
theorem app_x{bs cs:List UInt8}{b:Nat}{ex:Bool}{y:AVal}{σ:List ABlk}{rd:List Nat}(hg:hget σ b=.rows 1 (bs.map byC))(hs:Zp 1 σ y=some (cs.map byC,rd))(hroom:bs.length+cs.length≤1000000000) :
  Yh 1 1 [.sl b 0 bs.length ex,y] σ=.ok (.sl σ.length 0 (bs++cs).length false) rd ([(b,.dead)]++[(σ.length,.rows 1 ((bs++cs).map byC))]):=by
 have hb:Nat.ble ((2*(bs.length+cs.length)+192)*1) (2 ^ 48)=true:=Nat.ble_eq_true_of_le (by omega);have:Yh 1 1 [.sl b 0 bs.length ex,y] σ=Zn 1 1 σ (bs.map byC) [(b,.dead)] y:=by
  simp[Yh,X5,hg]
 rw[this];unfold Zn;simp only[hs,Zba,List.length_map,hb,Bool.and_self,cond_true,List.length_append,List.map_append]
theorem YcX(f:AVal→AVal)(hf:∀n,f (.int .u8 n)=.int .u8 n)(bs:List UInt8):(ABlk.rows 1 (bs.map byC)).mapV f=.rows 1 (bs.map byC):=by
 simp[ABlk.mapV,byC,hf]
attribute [local irreducible] Ans.rd Ans.pu Ans.wr Ans.dr Ans.gr Ans.gw Ans.gl Ans.gd Ans.opt joinK W
set_option maxHeartbeats 8000000
theorem ZbH(n:Int){bs:List UInt8}{b:Nat}{ex:Bool}{σ:List ABlk}{Z:PZ}{K:KT}(hb:hget σ b=.rows 1 (bs.map byC))(hroom:bs.length+8≤1000000000)
 (hK:K (.sl σ.length 0 (bs++n8 n).length false) (σ.set b .dead++[.rows 1 ((bs++n8 n).map byC)])):k68.u (VV Z) [.sl b 0 bs.length ex,iv n] σ K:=by
 rw[H2.e]; unfold k68; dsimp only; simp only[Qh];refine Za (Qk ..) (W_q (c21 n) g21.ok ?_);exact Xd (app_x hb (Qak _) (by rw[Xg]; exact hroom)) (Zah _ _ (Qa hb)) hK
theorem num68(n:Int){bs:List UInt8}{v:AVal}{σ:List ABlk}{Z:PZ}{K:KT}(hg:GB bs v σ)(hroom:bs.length+8≤1000000000)(hK:∀v' σ',BX σ σ'→GB (bs++n8 n) v' σ'→K v' σ'):(VV Z).call (.call 68) [v,iv n] σ K:=by
 refine Ze hP rfl k68.ok rfl ?_;show k68.u (VV Z) [v,iv n] σ K;rw[H2.e]; unfold k68; dsimp only; simp only[Qh];refine Za (Qk ..) (W_q (c21 n) g21.ok ?_);exact hg.app (Qak _) (by rw[Xg]; exact hroom) λv' σ' k g=>hK v' σ' (λc row hc=>hg.bx k c row hc) g
theorem c68n(n:Int):NCall prog GL0 68 [.nils,iv n] (.sl 0 0 8 false) [.rows 1 ((n8 n).map byC)]:=by
 refine Xa5 hP k68.ok rfl ?_;rw[H2.e]; unfold k68; dsimp only; simp only[Qh];refine Za (Qk ..) (W_q (c21 n) g21.ok ?_);exact Xd (v:=.sl 0 0 8 false) (rd:=[]) (up:=[(0,.rows 1 ((n8 n).map byC))]) rfl rfl ⟨rfl,rfl⟩
theorem YbR{fp:List Nat}{σ:List ABlk}{b:Nat}{bs:List UInt8}(hb:hget σ b=.rows 1 (bs.map byC))(hin:b∈fp):hget (maskR fp σ) b=.rows 1 (bs.map byC):=by
 refine Xq ?_;rw[Q8,Qae hb (by simp),XaA.2 hin];simp only[Option.map_some,cond_true];rw[YcX _ (λ_=>rfl)]
theorem XbR(fp:List Nat)(σ:List ABlk):(maskR fp σ).length=σ.length:=by
 have:∀i,(maskR fp σ)[i]?=none↔σ[i]?=none:=λi=>by rw[Q8]; cases σ[i]?<;>simp
 apply Nat.le_antisymm
 ·have:=(this σ.length).2 (by simp);simpa using this
 ·have:=(this (maskR fp σ).length).1 (by simp);simpa using this
theorem ZbU{σ τ:List ABlk}{b:Nat}(hl:τ.length=σ.length)(hb:b<σ.length)(B:List ABlk)(hB:∀x∈B,x=.dead∨∃cs:List UInt8,x=.rows 1 (cs.map byC)) :
  upL σ (([b]++List.range' σ.length B.length).map λc=>(c,(hget (τ.set b .dead++B) c).mapV (AVal.ren (keepM [b] σ.length B.length))))=some (σ.set b .dead++B) ∧
  (([b]++List.range' σ.length B.length).map λc=>(c,(hget (τ.set b .dead++B) c).mapV (AVal.ren (keepM [b] σ.length B.length)))).map (·.1)=b::List.range' σ.length B.length:=by
 have hmap:B.map (ABlk.mapV (AVal.ren (keepM [b] σ.length B.length)))=B:=by
  conv=>rhs; rw[←List.map_id B]
  apply List.map_congr_left;intro x hx;rcases hB x hx with rfl|⟨cs,rfl⟩
  ·rfl
  ·exact YcX _ (λ_=>rfl) cs
 have hd:hget (τ.set b .dead++B) b=.dead:=Xq (by rw[List.getElem?_append_left (by simp; omega)]; simp[hl,hb]);have hlen:(τ.set b .dead).length=σ.length:=by simp[hl]
 have hr:=ZaF (AVal.ren (keepM [b] σ.length B.length)) B (τ.set b .dead);rw[hlen,hmap] at hr;refine⟨?_,?_⟩
 ·rw[List.singleton_append,List.map_cons,hd,hr];show (bif Nat.beq b σ.length then upL (σ ++ [.dead]) _ else (match ZO b .dead σ with
   |some σ'=>upL σ' (Yp σ.length B)
   | none=>none))=_
  have:Nat.beq b σ.length=false:=by
   cases e:Nat.beq b σ.length with
   |false=>rfl
   |true=>have:=YNB e; omega
  rw[this,Xax hb];have:=Y5 B (σ.set b .dead);rw[List.length_set] at this;exact this
 ·rw[List.map_map];exact List.map_id' _
theorem QbG(n:Int){bs:List UInt8}{b:Nat}{ex:Bool}{σ:List ABlk}{Z:PZ}{K:AVal→List Nat×List Nat→List ABlk→Prop}(hb:hget σ b=.rows 1 (bs.map byC))(hroom:bs.length+8≤1000000000)
 (hK:K (.sl σ.length 0 (bs++n8 n).length false) ([b],[b,σ.length]) (σ.set b .dead++[.rows 1 ((bs++n8 n).map byC)])):(VV Z).dcall (.call 68) [.sl b 0 bs.length ex,iv n] σ K:=by
 have hlt:=Qa hb;have hml:=XbR [b] σ;obtain⟨o1,o2⟩:=ZbU hml hlt [.rows 1 ((bs++n8 n).map byC)] (λx hx=>.inr ⟨_,List.mem_singleton.1 hx⟩);refine Xay hP rfl k68.ok rfl (zs:=[.sl b 0 bs.length ex,iv n]) (τ:=maskR [b] σ) (τ':=(maskR [b] σ).set b .dead++[.rows 1 ((bs++n8 n).map byC)]) [b] [b] (m:=1) (v:=.sl (maskR [b] σ).length 0 (bs++n8 n).length false)
  (λ_ h=>h) (by simpa using hlt) ?_ rfl (ZbH n (YbR hb (by simp)) hroom ⟨rfl,rfl⟩) (by simp[hml]) (u:=.sl σ.length 0 (bs++n8 n).length false) ?_ rfl o1 ?_
 ·have:Nat.blt b σ.length=true:=Nat.ble_eq_true_of_le hlt;simp[renL,AVal.ren,ltM,this]
 ·have h1:Nat.blt σ.length (σ.length+1)=true:=Nat.ble_eq_true_of_le (Nat.le_refl _);have h2:Nat.ble σ.length σ.length=true:=Nat.ble_eq_true_of_le (Nat.le_refl _);simp[AVal.ren,keepM,hml,h1,h2]
 ·have o2':(([b]++List.range' σ.length 1).map λc=>(c,(hget ((maskR [b] σ).set b .dead++[.rows 1 ((bs++n8 n).map byC)]) c).mapV (AVal.ren (keepM [b] σ.length 1)))).map (·.1)=[b,σ.length]:=o2;rw[o2'];exact hK
end Go.Ah.Tz
end
section
namespace Go.Ah.Tz
open Go.Proofs.Tryz (prog)
set_option maxRecDepth 100000
attribute [local irreducible] Ans.rd Ans.pu Ans.wr Ans.dr Ans.gr Ans.gw Ans.gl Ans.gd Ans.opt joinK W
set_option maxHeartbeats 8000000
theorem QcN(l:List Int){bs:List UInt8}{b:Nat}{ex:Bool}{σ:List ABlk}{Z:PZ}{K:KT}(hb:hget σ b=.rows 1 (bs.map byC))(hroom:bs.length+8+8*l.length≤1000000000)
 (hK:K (.sl (σ.length+l.length) 0 (bs++listQ n8 l).length false) (σ.set b .dead++(List.replicate l.length .dead++[.rows 1 ((bs++listQ n8 l).map byC)]))):k69.u (VV Z) [.sl b 0 bs.length ex,rowV l] σ K:=by
 rw[H2.e]; unfold k69; dsimp only; simp only[Yb];refine Za (Qe ..) (Ze hP rfl k68.ok rfl (ZbH l.length hb (by omega) ?_));refine Xp (ι:=Nat) (λi vs τ=>∃cs:List UInt8,vs=[iv i,.sl (σ.length+i) 0 cs.length false]∧i≤l.length∧cs=bs++n8 l.length++(l.take i).flatMap n8∧cs.length=bs.length+8+8*i∧τ=σ.set b .dead++(List.replicate i .dead++[.rows 1 (cs.map byC)])) (λi=>l.length-i) 0 ⟨bs++n8 l.length,rfl,by omega,by simp,by simp[Xg],rfl⟩ ?_;rintro i vs τ again ⟨cs,rfl,hi,hc1,hc2,hτ⟩ hag;refine Za (Qe ..) (Za (Qn ..) (Zd (λh=>?_) (λh=>?_)))
 ·have h:i<l.length:=by simpa using h
  have hget:hget τ (σ.length+i)=.rows 1 (cs.map byC):=by
   subst hτ;refine Xq ?_;rw[List.getElem?_append_right (by simp),List.getElem?_append_right (by simp)];simp
  have hlen:τ.length=σ.length+(i+1):=by subst hτ; simp
  have hset:τ.set (σ.length+i) .dead=σ.set b .dead++List.replicate (i+1) .dead:=by
   subst hτ;rw[List.set_append_right _ _ (by simp),List.set_append_right _ _ (by simp),List.replicate_succ'];simp
  refine Za (Xaq cel false false 1 l .i64 i h) (Za (v:=iv l[i]) (Yu rfl) (Ze hP rfl k68.ok rfl (ZbH l[i] hget (by omega) ?_)));refine Za (Xr ..) ?_;rw[Zh (n:=i) (by omega),hlen];refine hag (i+1) _ _ (by omega) ⟨cs++n8 l[i],rfl,by omega,?_,by rw[List.length_append,Xg]; omega,by rw[hset,List.append_assoc]⟩;rw[hc1,List.take_succ_eq_append_getElem h,List.flatMap_append];simp
 ·have h:i=l.length:=by simp at h; omega
  subst h;have hcs:cs=bs++listQ n8 l:=by rw[hc1,List.take_length,listQ,List.append_assoc]
  subst hcs hτ;exact hK
theorem XcN(l:List Int){bs:List UInt8}{b:Nat}{ex:Bool}{σ:List ABlk}{Z:PZ}{K:AVal→List Nat×List Nat→List ABlk→Prop}(hb:hget σ b=.rows 1 (bs.map byC))(hroom:bs.length+8+8*l.length≤1000000000)
 (hK:K (.sl (σ.length+l.length) 0 (bs++listQ n8 l).length false) ([b],b::List.range' σ.length (l.length+1)) (σ.set b .dead++(List.replicate l.length .dead++[.rows 1 ((bs++listQ n8 l).map byC)]))):(VV Z).dcall (.call 69) [.sl b 0 bs.length ex,rowV l] σ K:=by
 have hlt:=Qa hb;have hml:=XbR [b] σ;have hBl:(List.replicate l.length ABlk.dead++[ABlk.rows 1 ((bs++listQ n8 l).map byC)]).length=l.length+1:=by simp
 obtain⟨o1,o2⟩:=ZbU hml hlt (List.replicate l.length .dead ++ [.rows 1 ((bs ++ listQ n8 l).map byC)]) (λx hx=>by
  rcases List.mem_append.1 hx with h|h
  ·exact .inl (List.eq_of_mem_replicate h)
  ·exact .inr ⟨_,List.mem_singleton.1 h⟩)
 rw[hBl] at o1 o2;refine Xay hP rfl k69.ok rfl (zs:=[.sl b 0 bs.length ex,rowV l]) (τ:=maskR [b] σ) (τ':=(maskR [b] σ).set b .dead++(List.replicate l.length .dead++[.rows 1 ((bs++listQ n8 l).map byC)])) [b] [b] (m:=l.length+1) (v:=.sl ((maskR [b] σ).length+l.length) 0 (bs++listQ n8 l).length false)
  (λ_ h=>h) (by simpa using hlt) ?_ rfl (QcN l (YbR hb (by simp)) hroom ⟨rfl,rfl⟩) (by simp[hml]) (u:=.sl (σ.length+l.length) 0 (bs++listQ n8 l).length false) ?_ rfl o1 ?_
 ·have:Nat.blt b σ.length=true:=Nat.ble_eq_true_of_le hlt;simp[renL,AVal.ren,ltM,this]
 ·have h1:Nat.blt (σ.length+l.length) (σ.length+(l.length+1))=true:=Nat.ble_eq_true_of_le (by omega);have h2:Nat.ble σ.length (σ.length+l.length)=true:=Nat.ble_eq_true_of_le (by omega);simp[AVal.ren,keepM,hml,h1,h2]
 ·rw[o2];exact hK
theorem c37(x:Ac)(hop:R8 x.op)(room:x.ids.length+x.prs.length≤10000000):PC 37 [.agg (acC x)] (byV (actQ x)):=by
 refine Xn hP q37.ok rfl ?_;rw[H1.e]; unfold q37; dsimp only; simp only[Yb,Qh];refine Xd (v:=.bptr 0 0) (rd:=[]) (up:=[(0,.box (acC x))]) rfl rfl (Yd rfl (Yf (v:=iv8 x.op) rfl rfl (Yd (Qk ..) ?_)));rw[XcW hop];refine QaZ (c68n x.op) rfl g68.ok.plain (BorL.ro (rd:=[]) rfl) rfl (XbG _) ?_;rw[Xbg];refine Yd rfl (Yf (v:=iv x.side) rfl rfl ?_);refine QbG x.side (bs:=n8 x.op) (b:=1) rfl (by rw[Xg]; omega) ?_;refine Yd rfl (Yf (v:=iv x.place) rfl rfl ?_);refine QbG x.place (bs:=n8 x.op++n8 x.side) (b:=2) rfl (by simp[Xg]) ?_;refine Yd rfl (Yf (v:=iv x.target) rfl rfl (Xv (by kernel_rfl) ?_));refine num68 x.target (bs:=n8 x.op++n8 x.side++n8 x.place) (.inr ⟨3,false,rfl,rfl⟩) (by simp[Xg]) λv1 σ1 k1 g1=>?_;have h0:hget σ1 0=.box (acC x):=k1 0 _ rfl;clear k1;generalize hB1:n8 x.op++n8 x.side++n8 x.place++n8 x.target=B1 at g1;have hB1l:B1.length=32:=by rw[←hB1]; simp[Xg]
 rcases g1 with ⟨-,hz⟩|⟨b1,ex1,rfl,hb1⟩
 ·rw[hz] at hB1l; simp at hB1l
 have hb1l:=Qa hb1;have hb10:b1≠0:=by rintro rfl; rw[h0] at hb1; cases hb1
 refine Yd rfl (Yf (v:=rowV x.ids) (Zj h0 rfl) rfl (XcN x.ids hb1 (by omega) ?_));have h02:hget (σ1.set b1 .dead++(List.replicate x.ids.length .dead++[.rows 1 ((B1++listQ n8 x.ids).map byC)])) 0=.box (acC x):=Qd _ ((Yc (Ne.symm hb10)).trans h0);have hb2:hget (σ1.set b1 .dead++(List.replicate x.ids.length .dead++[.rows 1 ((B1++listQ n8 x.ids).map byC)])) (σ1.length+x.ids.length)=.rows 1 ((B1++listQ n8 x.ids).map byC):=by
  refine Xq ?_;rw[List.getElem?_append_right (by simp),List.getElem?_append_right (by simp)];simp
 have hl1:0<σ1.length:=by omega
 refine Yd rfl (Yf (v:=prV x.prs) (Zj h02 rfl) rfl (Yd (Qe ..) (Xv ?_ ?_)))
 ·have d0:∀l:List Nat,disj l []=true:=by intro l; induction l<;>simp_all [disj]
  have d1:∀l:List Nat,0∉l→disj l [0]=true:=by
   intro l hl
   induction l with
   |nil=>rfl
   |cons a l ih=>
    simp only[List.mem_cons,not_or] at hl;simp[disj,ih hl.2,Ne.symm hl.1]
  have h0r:(0:Nat)∉List.range' σ1.length (x.ids.length+1):=by rw[List.mem_range'_1]; omega
  simp[Xf,Xj,Yj,Qp,apart2,disj,List.range,List.range.loop,hb10,hb10.symm,d0,d1 _ h0r]
 generalize σ1.set b1 .dead++(List.replicate x.ids.length .dead++[.rows 1 ((B1++listQ n8 x.ids).map byC)])=σ2 at h02 hb2;refine num68 x.prs.length (bs:=B1++listQ n8 x.ids) (.inr ⟨_,false,rfl,hb2⟩) (by rw[List.length_append,XZ]; omega) λv3 σ3 k3 g3=>?_;have h03:=k3 0 _ h02;clear k3;generalize hB3:B1++listQ n8 x.ids++n8 x.prs.length=B3 at g3;have hB3l:B3.length=48+8*x.ids.length:=by rw[←hB3]; simp only[List.length_append,XZ,Xg]; omega
 refine Xp (ι:=Nat) (λi vs τ=>∃v cs,vs=[iv i,v]∧i≤x.prs.length∧hget τ 0=.box (acC x)∧cs=B3++(x.prs.take i).flatMap prQ∧cs.length=B3.length+16*i∧GB cs v τ) (λi=>x.prs.length-i) 0 ⟨v3,B3,rfl,by omega,h03,by simp,by omega,g3⟩ ?_;rintro i vs τ again ⟨v,cs,rfl,hi,ht0,hc1,hc2,hg⟩ hag;refine Za rfl (Za (v:=prV x.prs) (Zj ht0 rfl) (Za (Qe ..) (Za (Qn ..) (Zd (λh=>?_) (λh=>?_)))))
 ·have h:i<x.prs.length:=by simpa using h
  rcases hg with ⟨-,hz⟩|⟨b,ex,rfl,hb⟩
  ·rw[hz] at hc2; simp at hc2; omega
  have hbl:=Qa hb;have hb0:b≠0:=by rintro rfl; rw[ht0] at hb; cases hb
  refine Yd rfl (Yf (v:=prV x.prs) (Zj ht0 rfl) rfl (Yf (Xaq prC false false 2 x.prs .i64 i h) rfl (Yd rfl (Yf (v:=iv x.prs[i].1) (Yu rfl) rfl ?_))));refine QbG x.prs[i].1 hb (by omega) ?_;have ht2:hget (τ.set b .dead++[.rows 1 ((cs++n8 x.prs[i].1).map byC)]) 0=.box (acC x):=Qd _ ((Yc (Ne.symm hb0)).trans ht0);have hbn:hget (τ.set b .dead++[.rows 1 ((cs++n8 x.prs[i].1).map byC)]) τ.length=.rows 1 ((cs++n8 x.prs[i].1).map byC):=by
   have:=Zc (τ.set b .dead) (.rows 1 ((cs++n8 x.prs[i].1).map byC));simpa using this
  refine Yd rfl (Yf (v:=prV x.prs) (Zj ht2 rfl) rfl (Yf (Xaq prC false false 2 x.prs .i64 i h) rfl (Yd rfl (Yf (v:=iv x.prs[i].2) (Yu rfl) rfl (Xv ?_ ?_)))))
  ·have hl0:τ.length≠0:=by omega
   simp[Xf,Xj,Yj,Qp,apart2,disj,List.range,List.range.loop,hb0,hb0.symm,hl0,hl0.symm]
  generalize τ.set b .dead++[ABlk.rows 1 ((cs++n8 x.prs[i].1).map byC)]=τ2 at ht2 hbn;refine num68 x.prs[i].2 (bs:=cs++n8 x.prs[i].1) (.inr ⟨_,false,rfl,hbn⟩) (by rw[List.length_append,Xg]; omega) λv4 σ4 k4 g4=>?_;refine Za (Xr ..) ?_;rw[Zh (n:=i) (by omega)];refine hag (i+1) _ _ (by omega) ⟨v4,_,rfl,by omega,k4 0 _ ht2,?_,by simp only[List.length_append,Xg]; omega,g4⟩;rw[hc1,List.take_succ_eq_append_getElem h,List.flatMap_append];simp[prQ]
 ·have h:i=x.prs.length:=by simp at h; omega
  subst h;rw[List.take_length] at hc1;have:actQ x=cs:=by
   rw[hc1,←hB3,←hB1];simp[actQ,listQ]
  rw[this];exact hg.bor
end Go.Ah.Tz
end
section
namespace Go.Ah
theorem Xc5{P:Program}{GL:Globs}{Z:PZ}{cs:List (Bool×Bool)}{q w:Bool}{r:(AVal→List Nat×List Nat→List ABlk→Prop)→Prop}{σ:List ABlk}{K:AVal→List Nat×List Nat→List ABlk→Prop}(hc:Yaj.holdNot cs=true)(h:K (udf (cs++[(q,w)])) ([],[]) σ):(W P GL Z).gl (.when cs (.bool q)) w r σ K:=by
 show (match Yaj.holdNot cs with
  |true=>K (udf (cs++[(q,w)])) ([],[]) σ
  | false=>(W P GL Z).stop)
 rw[hc]; exact h
end Go.Ah
namespace Go.Ah.Tz
open Go.Proofs.Tryz (prog)
set_option maxRecDepth 100000
theorem az{A B:Prop}(k:B)(h:B→A:=by intro k; (repeat (first|refine Za rfl ?_|refine Yd rfl ?_|refine Ya ?_|refine Qb rfl ?_|refine Xk ?_|refine QbX rfl ?_|refine Qc5 rfl ?_|refine Xc5 rfl ?_)); exact k):A:=h k
attribute [local irreducible] Ans.rd Ans.pu Ans.wr Ans.dr Ans.gr Ans.gw Ans.gl Ans.gd Ans.opt joinK W
set_option maxHeartbeats 8000000
theorem c20(x:De)(hl:DeLe 1000000000 x)(hop:R8 x.ac.op)(room:x.ac.ids.length+x.ac.prs.length≤10000000):PC 20 [.agg (deC x)] (.tup (if mayD x then [byV (deQ x),iv 0] else [.nils,iv 2])):=by
 refine Xn hP k20.ok rfl ?_;rw[H1.e]; unfold k20; dsimp only; simp only[Yb,Qo,Qh];refine Xd (v:=.bptr 0 0) (rd:=[]) (up:=[(0,.box (deC x))]) rfl rfl (Za (v:=.agg (deC x)) rfl ?_);refine W_q (c35 x hl) g35.ok (Za (X6 ..) ?_);cases hm:mayD x
 ·exact Xi ⟨[],Bor.ro rfl⟩
 refine Qf (Za rfl (Za (v:=iv8 x.kind) rfl (Za (Qk ..) ?_)));rw[Ydf];refine Xd (v:=.sl 1 0 1 true) (rd:=[]) (up:=[(1,.rows 1 [byC (k8 x.kind)])]) rfl rfl (Za rfl (Za (v:=iv x.game) rfl ?_));refine number27 x.game (bs:=[k8 x.kind]) (.inr ⟨1,true,rfl,rfl⟩) (by simp) λv1 σ1 k1 g1=>?_;have h1:hget σ1 0=.box (deC x):=k1 0 _ rfl;clear k1;refine Za rfl (Za (v:=iv8 x.kind) (Zj h1 rfl) (Za (YB ..) (Zd (λhk=>?_) (λhk=>?_))))
 ·have hk:x.kind=2:=by simpa using hk
  refine Za rfl (Za (v:=.agg (acC x.ac)) (Zj h1 rfl) (W_q (c37 x.ac hop room) g37.ok ?_));refine g1.app (Qak _) (by rw[Qao]; simp[Xg]; omega) λv' σ' _ g=>?_;obtain⟨rd,hb⟩:=g.bor;refine⟨rd,Bor.tup (.cons ?_ (BorL.ro rfl))⟩;rw[deQ,YIP hk]; exact hb
 have hk:¬x.kind=2:=by simpa using hk
 obtain⟨l1,l2,l3,l4,l5,l6⟩:=QbR hm hk;refine Za rfl (Za (v:=iv x.table) (Zj h1 rfl) (number27 x.table g1 (by simp[Xg]) λv2 σ2 k2 g2=>?_));have h2:=k2 0 _ h1;refine Za rfl (Za (v:=.str x.fmt) (Zj h2 rfl) (text27 x.fmt g2 (by simp[Xg]; omega) λv3 σ3 k3 g3=>?_));have h3:=k3 0 _ h2;refine Za rfl (Za rfl (Za (v:=.str x.n0) (Zj h3 rfl) (text27 x.n0 g3 (by simp[Xg,Xag]; omega) λv4 σ4 k4 g4=>?_)));have h4:=k4 0 _ h3;refine Za rfl (Za rfl (Za (v:=.str x.n1) (Zj h4 rfl) (text27 x.n1 g4 (by simp[Xg,Xag]; omega) λv5 σ5 k5 g5=>?_)));have h5:=k5 0 _ h4;refine Za rfl (Za rfl (Za (v:=rowV x.d0) (Zj h5 rfl) (list27 x.d0 g5 (by simp[Xg,Xag]; omega) λv6 σ6 k6 g6=>?_)));have h6:=k6 0 _ h5;refine Za rfl (Za rfl (Za (v:=rowV x.d1) (Zj h6 rfl) (list27 x.d1 g6 (by simp[Xg,Xag,XZ]; omega) λv7 σ7 k7 g7=>?_)));have h7:=k7 0 _ h6;refine Za rfl (Za (v:=rowV x.dr) (Zj h7 rfl) (list27 x.dr g7 (by simp[Xg,Xag,XZ]; omega) λv8 σ8 k8' g8=>?_));obtain⟨rd,hb⟩:=g8.bor;refine⟨rd,Bor.tup (.cons ?_ (BorL.ro rfl))⟩;rw[deQ,YIN hk,begQ];have e:(k8 x.kind::n8 x.game)++(n8 x.table++([x.fmt,x.n0,x.n1].flatMap strQ++[x.d0,x.d1,x.dr].flatMap (listQ n8)))=[k8 x.kind]++n8 x.game++n8 x.table++strQ x.fmt++strQ x.n0++strQ x.n1++listQ n8 x.d0++listQ n8 x.d1++listQ n8 x.dr:=by simp
 rw[e];exact hb
def stepB(y:De)(i:Nat)(x:De):Bool:=(mayD x && !decide (x.game≠y.game)) && !(decide ((0:Int)<(i:Int))&&decide (x.kind≠2))
theorem QcD{y x:De}{i:Nat}(hy:y.kind=1)(hi:i=0→x=y):stepB y i x=okAt y i x:=by
 unfold stepB okAt;rw[Bool.eq_iff_iff];simp only[Bool.and_eq_true,Bool.not_eq_true',YDN,Bool.and_eq_false_iff,YDE,beq_iff_eq,ne_eq,Decidable.not_not];constructor
 ·rintro⟨⟨h1,h2⟩,h3⟩;refine⟨⟨h1,h2⟩,?_⟩;rw[decide_eq_decide];by_cases h0:i=0
  ·rw[hi h0]; omega
  ·rcases Ybg h1 with q|q<;>omega
 ·rintro⟨⟨h1,h2⟩,h3⟩;rw[decide_eq_decide] at h3;refine⟨⟨h1,h2⟩,?_⟩;by_cases h0:i=0
  ·exact .inl (by omega)
  ·rcases Ybg h1 with q|q<;>omega
theorem c19(l:List De)(hl:l.length≤1000000000)(hd:∀x∈l,DeLe 1000000000 x):PC 19 [deV l] (.bool (oneB l)):=by
 refine Xo hP k19.ok rfl rfl ?_;rw[H1.e]; unfold k19; dsimp only; simp only[Yb,Qo];cases l with
 |nil=>exact aw rfl
 |cons y r=>
 generalize hL:y::r=L at hl hd;have h0:0<L.length:=by rw[←hL]; simp
 have hy:L[0]=y:=by subst hL; rfl
 have hhd:L.headD default=y:=by subst hL; rfl
 have hix:=λσ=>Xaq (σ:=σ) deC false false 15 L .i64 0 h0;rw[hy] at hix;refine Za (Qe ..) (Za (YB ..) ?_);rw[YDF (show ¬(L.length:Int)=0 by omega)];refine Ya (Za rfl (Ya (Za (hix _) (Ya (Za rfl (Ya (Za (v:=iv8 y.kind) (Yu rfl) (Ya (Za (Qaz ..) (Za rfl (Zd (λhk=>?_) (λhk=>?_))))))))))))
 ·refine congrArg AVal.bool (YDF λq=>?_).symm;have:=q.2 0 h0;rw[hhd,hy] at this;simp only[okAt,Bool.and_eq_true,beq_iff_eq] at this;have h2:=this.2;simp at h2 hk;exact hk h2
 have hk:y.kind=1:=by simpa using hk
 have hR:oneB L=decide (∀(i:Nat) (h:i<L.length),stepB y i L[i]=true):=by
  unfold oneB;rw[decide_eq_decide,hhd];constructor
  ·rintro⟨_,q⟩ i h;rw[QcD hk (λe=>by subst e; exact hy)]; exact q i h
  ·intro q;refine⟨h0,λi h=>?_⟩;have:=q i h
   rwa [QcD hk (λe=>by subst e; exact hy)] at this
 rw[hR];refine Xp (ι:=Nat) (λi vs σ=>vs=[iv i]∧i≤L.length∧∀(j:Nat) (h:j<L.length),j<i→stepB y j L[j]=true) (λi=>L.length-i) 0 ⟨rfl,by omega,by intros; omega⟩ ?_;rintro i vs σ again ⟨rfl,hi,hst⟩ hag;refine Za (Qe ..) (Za (Qn ..) (Zd (λh=>?_) (λh=>?_)))
 ·have h:i<L.length:=by simpa using h
  have hbad:stepB y i L[i]=false→AVal.bool false=.bool (decide (∀(i:Nat) (h:i<L.length),stepB y i L[i]=true)):=λe=>congrArg AVal.bool (YDF λq=>by rw[q i h] at e; cases e).symm;have hgood:stepB y i L[i]=true→(VV noZ).rd (Zq .add false [iv i,iv 1] σ) λt=>again [t] σ:=λe=>by
   refine Za (Xr ..) ?_;rw[Zh (n:=i) (by omega)];refine hag (i+1) _ _ (by omega) ⟨rfl,by omega,λj hj hji=>?_⟩;by_cases e2:j=i
   ·subst e2; exact e
   ·exact hst j hj (by omega)
  have hixi:=λσ=>Xaq (σ:=σ) deC false false 15 L .i64 i h;have hdl:=hd _ (List.getElem_mem h);generalize L[i]=x at hbad hgood hixi hdl;refine Yf (hixi _) rfl (Yf (v:=.agg (deC x)) (Yu rfl) rfl (Xc8 (c35 x hdl) g35.ok (Yd (X6 ..) ?_)));cases q1:mayD x
  ·exact az (Xv (by kernel_rfl) (Xi (hbad (by rw[stepB,q1]; rfl))))
  refine Ya (Yd rfl (Ya (Yd rfl (Xk (Yf (hixi _) rfl (Ya (Yd rfl (Xk (Yf (v:=iv x.game) (Yu rfl) rfl ?_)))))))));refine Ya (Yd rfl (Xk (Yf (hix _) rfl (Ya (Yd rfl (Xk (Yf (v:=iv y.game) (Yu rfl) rfl (Ya (Yd (Qaz ..) (Yd rfl ?_))))))))));cases q2:decide (x.game≠y.game)
  case true=>exact az (Xv (by kernel_rfl) (Xi (hbad (by rw[stepB,q1,q2]; rfl))))
  refine Ya (Yd rfl (Ya (Yd (ZW ..) (Ya (Yd rfl ?_)))));cases q3:decide ((0:Int)<(i:Int))
  ·exact az (Xv (by kernel_rfl) (Qf (hgood (by rw[stepB,q1,q2,q3]; rfl))))
  refine Ya (Yd rfl (Ya (Yd rfl (Xk (Yf (hixi _) rfl (Ya (Yd rfl (Xk (Yf (v:=iv8 x.kind) (Yu rfl) rfl (Ya (Yd (Qaz ..) ?_)))))))))));cases q4:decide (x.kind≠2)
  ·exact az (Xv (by kernel_rfl) (Qf (hgood (by rw[stepB,q1,q2,q3,q4]; rfl))))
  ·exact az (Xv (by kernel_rfl) (Xi (hbad (by rw[stepB,q1,q2,q3,q4]; rfl))))
 ·have h:i=L.length:=by simp at h; omega
  subst h;exact congrArg AVal.bool (YDT λj hj=>hst j hj hj).symm
theorem ZcN{n:Nat}(h:n<4294967296):(n8 n).drop 4=n4 n:=by
 have hm:m64 (n:Int)=n:=by unfold m64; omega
 simp[n8,by8,hm,n4,List.range,List.range.loop]
theorem c8(l:List De)(hl:l.length≤1000000000)(hd:∀x∈l,DeLe 1000000000 x)(hop:∀x∈l,R8 x.ac.op)(ha:∀x∈l,x.ac.ids.length+x.ac.prs.length≤10000000)(hr:(l.flatMap recQ).length≤900000000) :
  PC 8 [deV l] (.tup (if oneB l then [byV (l.flatMap recQ),iv 0] else [.nils,iv 2])):=by
 refine Xn hP k08.ok rfl ?_;rw[H1.e]; unfold k08; dsimp only; simp only[Yb,Qo,Qh];refine W_q (c19 l hl hd) g19.ok (Za (X6 ..) ?_);cases ho:oneB l
 ·exact Xi ⟨[],Bor.ro rfl⟩
 have hok:∀(i:Nat) (h:i<l.length),mayD l[i]=true:=by
  have:=of_decide_eq_true ho;intro i h;have:=this.2 i h;simp only[okAt,Bool.and_eq_true] at this;exact this.1.1
 refine Qf ?_;refine Xp (ι:=Nat) (λi vs σ=>∃v bs,vs=[iv i,v]∧i≤l.length∧bs=(l.take i).flatMap recQ∧GB bs v σ) (λi=>l.length-i) 0 ⟨.nils,[],rfl,by omega,rfl,.inl ⟨rfl,rfl⟩⟩ ?_;rintro i vs σ again ⟨v,bs,rfl,hi,hb,hg⟩ hag;refine Za (Qe ..) (Za (Qn ..) (Zd (λh=>?_) (λh=>?_)))
 ·have h:i<l.length:=by simpa using h
  have hm:=hok i h;have hx:=List.getElem_mem h;have hls:(l.take (i+1)).flatMap recQ=bs++recQ l[i]:=by
   rw[List.take_succ_eq_append_getElem h,List.flatMap_append,hb]; simp only[List.flatMap_cons,List.flatMap_nil,List.append_nil]
  have hle:=YaE recQ l (i+1);rw[hls,List.length_append,recQ,List.length_append] at hle;have hc:=c20 l[i] (hd _ hx) (hop _ hx) (ha _ hx);rw[YIP hm] at hc;refine Za (Xaq deC false false 15 l .i64 i h) ?_;generalize l[i]=x at hc hls hle;refine Za (v:=.agg (deC x)) (Yu rfl) (W_q hc g20.ok ?_);refine Za rfl (Za rfl (Za rfl (Qf (Za (Qe ..) (Za (Qk ..) (W_q (c21 _) g21.ok ?_))))));refine Za (Xbl false false (n8 (deQ x).length) 4 (by rw[Xg]; omega)) ?_;rw[ZcN (by omega)];have hl4:(n4 (deQ x).length).length=4:=rfl;refine hg.app (cs:=n4 (deQ x).length) (Qak _) (by omega) λv1 σ2 _ g1=>?_;refine g1.app (Qak _) (by rw[List.length_append]; omega) λv2 σ3 _ g2=>?_;refine Za (Xr ..) ?_;rw[Zh (n:=i) (by omega)];exact hag (i+1) _ _ (by omega) ⟨v2,_,rfl,by omega,by rw[hls,recQ,List.append_assoc],g2⟩
 ·have h:i=l.length:=by simp at h; omega
  subst h;rw[List.take_length] at hb;subst hb;obtain⟨rd,hb⟩:=hg.bor;exact⟨rd,Bor.tup (.cons hb (BorL.ro rfl))⟩
end Go.Ah.Tz
end
section
namespace Go.Ah.Tz
open Go.Proofs.Tryz (prog)
set_option maxRecDepth 100000
def Ag{α:Type}(O:Rd α)(s:List UInt8×Bool)(a:α)(s':List UInt8×Bool):Prop:=(∀x,s.2=false→O s.1=some x→a=x.1∧s'=(x.2,false))∧((s.2=true∨O s.1=none)→s'.2=true)
theorem Ag.flag{α:Type}{O:Rd α}{s s':List UInt8×Bool}{a:α}(h:Ag O s a s')(e:s'.2=false):s.2=false∧O s.1=some (a,s'.1):=by
 have h1:s.2=false:=by
  cases q:s.2 with
  |false=>rfl
  |true=>rw[h.2 (.inl q)] at e; cases e
 refine⟨h1,?_⟩;cases q:O s.1 with
 |none=>rw[h.2 (.inr q)] at e; cases e
 |some x=>
  obtain⟨rfl,h3⟩:=h.1 x h1 q;rw[h3]
theorem Ag.seq{α β:Type}{O:Rd α}{O':Rd β}{s s1 s2:List UInt8×Bool}{a:α}{c:β}(h:Ag O s a s1)(h':Ag O' s1 c s2):Ag (seqR O O') s (a,c) s2:=by
 refine⟨λx h1 h2=>?_,λq=>?_⟩
 ·unfold seqR at h2;cases q1:O s.1 with
  |none=>simp[q1] at h2
  |some y=>
   obtain⟨rfl,e1⟩:=h.1 y h1 q1;cases q2:O' y.2 with
   |none=>simp[q1,q2] at h2
   |some z=>
    simp[q1,q2] at h2;subst h2;obtain⟨rfl,e2⟩:=h'.1 z (by rw[e1]) (by rw[e1]; exact q2);exact⟨rfl,e2⟩
 ·cases e:s2.2 with
  |true=>rfl
  |false=>
   obtain⟨k1,k2⟩:=h'.flag e;obtain⟨k3,k4⟩:=h.flag k1;rcases q with q|q
   ·rw[k3] at q; cases q
   ·rw[seqR,k4] at q;simp[k2] at q
def R18(b:List UInt8)(p:Nat)(f:Bool)(c:Nat)(σ:List ABlk):Prop:=∃bad:Int,hget σ c=.box [byV b,iv p,iv bad]∧p≤b.length∧f=decide (0≤bad)
theorem Ybd{b:List UInt8}{p q:Nat}(hp:p≤b.length)(hq:q≤b.length)(h:b.drop p=b.drop q):p=q:=by
 have:=congrArg List.length h;simp at this; omega
def XD(each:Nat):Rd Int:=λr=>(numO r).bind λx=>if x.1<0∨((x.2.length/each:Nat):Int)<x.1 then none else some x
attribute [local irreducible] Ans.rd Ans.pu Ans.wr Ans.dr Ans.gr Ans.gw Ans.gl Ans.gd Ans.opt joinK W
set_option maxHeartbeats 8000000
theorem wrong89{b:List UInt8}{p c:Nat}{bad w:Int}{σ:List ABlk}{Z:PZ}{K:KT}(hc:hget σ c=.box [byV b,iv p,iv bad])
 (hK:∀bad' τ,KB c σ τ→hget τ c=.box [byV b,iv p,iv bad']→(0≤bad→bad'=bad)→(bad<0→bad'=w)→K (.tup []) τ):(VV Z).call (.call 89) [.bptr c 0,iv w] σ K:=by
 refine Ze hP rfl k89.ok rfl ?_;show k89.u (VV Z) [.bptr c 0,iv w] σ K;rw[H2.e]; unfold k89; dsimp only; simp only[Yb];refine Za rfl (Za rfl (Za (v:=iv bad) (Zj hc rfl) (Za (Qn ..) (Zd (λh=>?_) (λh=>?_)))))
 ·refine Za rfl (Za rfl (Xd (stv (row':=[byV b,iv p,iv w]) hc rfl rfl rfl) (Zb _ (Qa hc)) ?_));exact hK w _ (KB.set _) (Xc hc (by simp)) (λq=>by simp at h; omega) (λ_=>rfl)
 ·exact hK bad σ (KB.refl c σ) hc (λ_=>rfl) (λq=>by simp at h; omega)
theorem one90{b:List UInt8}{p c:Nat}{bad:Int}{σ:List ABlk}{Z:PZ}{K:KT}(hc:hget σ c=.box [byV b,iv p,iv bad])(hp:p≤b.length)(hlen:b.length≤1000000)
 (hgood:∀h:p<b.length,bad<0→∀τ,KB c σ τ→hget τ c=.box [byV b,iv (p+1:Nat),iv bad]→K (.int .u8 (b[p].toNat:Int)) τ)
 (hbad:(0≤bad∨p=b.length)→∀bad' τ,KB c σ τ→hget τ c=.box [byV b,iv p,iv bad']→0≤bad'→K (.int .u8 0) τ):(VV Z).call (.call 90) [.bptr c 0] σ K:=by
 refine Ze hP rfl k90.ok rfl ?_;show k90.u (VV Z) [.bptr c 0] σ K;rw[H1.e]; unfold k90; dsimp only; simp only[Yb];refine Za rfl (Za rfl (Za (v:=iv bad) (Zj hc rfl) (Za (Qn ..) ?_)));refine ZcC (v4:=iv p) (v8:=byV b) (v9:=iv b.length) (λ_=>rfl) (λ_=>rfl) (λ_=>rfl) (λ_=>Zj hc rfl) (λ_=>rfl) (λ_=>rfl) (λ_=>rfl) (λ_=>Zj hc rfl) (λ_=>Qe ..) (λ_=>Xbd ..) ?_;refine ZV (λvs τ=>∃bad':Int,KB c σ τ∧hget τ c=.box [byV b,iv p,iv bad']∧(0≤bad'→0≤bad∨p=b.length)∧(bad'<0→bad'=bad∧p<b.length)) (λvs τ hT=>?_) (λk' hk'=>?_)
 ·obtain⟨bad',hk,hc',hT1,hT2⟩:=hT;refine Za rfl (Za rfl (Za (v:=iv bad') (Zj hc' rfl) (Za (Xbd ..) (Zd (λh=>?_) (λh=>?_)))))
  ·have h:0≤bad':=by simpa using h
   exact hbad (hT1 h) bad' τ hk hc' h
  ·obtain⟨rfl,hp2⟩:=hT2 (by simp at h; omega);refine Za rfl (Za rfl (Za (v:=iv p) (Zj hc' rfl) (Za (Xr ..) ?_)));rw[Zh (n:=p) (by omega)];refine Za rfl (Za rfl (Xd (stv (row':=[byV b,iv (p+1:Nat),iv bad']) hc' rfl rfl rfl) (Zb _ (Qa hc')) ?_));have hc2:=Xc (x:=.box [byV b,iv (p+1:Nat),iv bad']) hc' (by simp);have hk2:=hk.trans (KB.set (c:=c) (σ:=τ) (.box [byV b,iv (p+1:Nat),iv bad']));generalize τ.set c (.box [byV b,iv (p+1:Nat),iv bad'])=τ2 at hc2 hk2;refine Za rfl (Za rfl (Za (v:=byV b) (Zj hc2 rfl) (Za rfl (Za rfl (Za (v:=iv (p+1:Nat)) (Zj hc2 rfl) (Za (YaH ..) ?_))))));rw[show IntKind.i64.wrap (((p+1:Nat):Int)-1)=(p:Int) by rw[IntWalk.i64_in _ (by omega)]; omega];refine Za (Xaq byC false false 1 b .i64 p hp2) (Za (v:=.int .u8 (b[p].toNat:Int)) (Yu rfl) ?_);exact hgood hp2 (by simp at h; omega) τ2 hk2 hc2
 ·refine Zd (λh=>?_) (λh=>?_)
  ·have h:bad<0∧p=b.length:=by
    simp only[Bool.and_eq_true,YDE] at h; omega
   refine Za rfl (Za rfl (Za (v:=byV b) (Zj hc rfl) (Za (Qe ..) (wrong89 hc λbad' τ hk hc' _ h2=>?_))));have:=h2 h.1;exact hk' _ _ ⟨bad',hk,hc',λ_=>.inr h.2,λq=>by omega⟩
  ·have h:¬(bad<0∧p=b.length):=by
    rintro⟨h1,h2⟩;rw[Bool.and_eq_false_iff] at h;rcases h with h|h<;>(rw[YDN] at h; omega)
   exact hk' _ _ ⟨bad,KB.refl c σ,hc,λq=>.inl q,λq=>⟨rfl,by omega⟩⟩
theorem num72{b:List UInt8}{p c:Nat}{f:Bool}{σ:List ABlk}{Z:PZ}{K:KT}(hc:R18 b p f c σ)(hlen:b.length≤1000000)
 (hK:∀v q f' τ,KB c σ τ→R18 b q f' c τ→Ag numO (b.drop p,f) v (b.drop q,f')→K (iv v) τ):(VV Z).call (.call 72) [.bptr c 0] σ K:=by
 obtain⟨bad0,h0,hp,hf⟩:=hc;refine Ze hP rfl k72.ok rfl ?_;show k72.u (VV Z) [.bptr c 0] σ K;rw[H1.e]; unfold k72; dsimp only; simp only[Yb,Qh];refine Xp (ι:=Nat) (λi vs τ=>∃ (w:Int) (q:Nat) (bad:Int),vs=[iv i,.int .u64 w]∧i≤8∧KB c σ τ∧hget τ c=.box [byV b,iv q,iv bad]∧q≤b.length ∧
   ((bad0 < 0∧p + i≤b.length∧q=p + i∧bad=bad0∧w=(d8 ((b.drop p).take i):Nat))∨(¬ (bad0 < 0∧p + i≤b.length)∧0≤bad))) (λi=>8 - i) 0
  ⟨0,p,bad0,rfl,by omega,KB.refl c σ,h0,hp,by by_cases q:bad0<0; exact .inl ⟨q,by omega,by omega,rfl,rfl⟩; exact .inr ⟨λz=>q z.1,by omega⟩⟩ ?_
 rintro i vs τ again ⟨w,q,bad,rfl,hi,hk,hq,hql,hcase⟩ hag;refine Za (Qn ..) (Zd (λh=>?_) (λh=>?_))
 ·have h:i<8:=by simp at h; omega
  have hb7:256 ^ i≤256 ^ 7:=Nat.pow_le_pow_right (by omega) (by omega);refine one90 hq hql hlen (λhlt hb τ2 k2 q2=>?_) (λhor bad' τ2 k2 q2 hb'=>?_)
  ·rcases hcase with ⟨c1,c2,rfl,rfl,rfl⟩|⟨c1,c2⟩
   ·have hd:=Xb6 i ((b.drop p).take i) (by simp; omega);refine Za rfl (Za (Qk ..) (Za (Yao _ _ (by omega)) (Za (Xr ..) ?_)));rw[Zh (n:=i) (by omega)];refine hag (i+1) _ _ (by omega) ⟨_,_,_,rfl,by omega,hk.trans k2,q2,by omega,.inl ⟨c1,by omega,by omega,rfl,?_⟩⟩;have:(b.drop p).take (i+1)=(b.drop p).take i++[b[p+i]]:=by
     rw[List.take_succ_eq_append_getElem (by simp; omega)]; simp
    rw[this,Xaz]
   ·omega
  ·refine Za rfl (Za (Qk ..) (Za rfl (Za (Xr ..) ?_)));rw[Zh (n:=i) (by omega)];refine hag (i+1) _ _ (by omega) ⟨_,_,_,rfl,by omega,hk.trans k2,q2,hql,.inr ⟨?_,hb'⟩⟩;rcases hcase with ⟨c1,c2,rfl,rfl,rfl⟩|⟨c1,c2⟩
   ·omega
   ·omega
 ·have h:i=8:=by simp at h; omega
  subst h;refine Za (Qk ..) ?_;refine hK _ q (decide (0≤bad)) τ hk ⟨bad,hq,hql,rfl⟩ ?_;rcases hcase with ⟨c1,c2,rfl,rfl,rfl⟩|⟨c1,c2⟩
  ·have e1:=Yl (b:=b) (p:=p) c2;refine⟨λx h1 h2=>?_,λh1=>?_⟩
   ·rw[e1] at h2; cases h2;exact⟨rfl,by rw[YDF (by omega)]⟩
   ·rcases h1 with h1|h1
    ·simp only[hf,YDE] at h1; omega
    ·rw[e1] at h1; cases h1
  ·refine⟨λx h1 h2=>?_,λh1=>YDT c2⟩;simp only[hf,YDN] at h1;rw[QM (by omega)] at h2; cases h2
theorem small71{b:List UInt8}{p c:Nat}{f:Bool}{σ:List ABlk}{Z:PZ}{K:KT}(hc:R18 b p f c σ)(hlen:b.length≤1000000)
 (hK:∀v q f' τ,KB c σ τ→R18 b q f' c τ→Ag YO (b.drop p,f) v (b.drop q,f')→K (iv8 v) τ):(VV Z).call (.call 71) [.bptr c 0] σ K:=by
 obtain⟨bad0,h0,hp,hf⟩:=id hc;refine Ze hP rfl k71.ok rfl ?_;show k71.u (VV Z) [.bptr c 0] σ K;rw[H1.e]; unfold k71; dsimp only; simp only[Yb,Qh];refine Za rfl (Za rfl (Za (v:=iv p) (Zj h0 rfl) (num72 hc hlen λv q f' τ k1 r1 a1=>Za (Qn ..) ?_)));refine XcC (v1:=iv v) (λ_=>rfl) (λ_=>ZW ..) ?_;refine Zd (λh=>?_) (λh=>?_)
 ·have h:v < -128∨127<v:=by simpa using h
  obtain⟨bad1,r2,r3,r4⟩:=r1;refine wrong89 r2 λbad2 τ2 k2 r5 w1 w2=>?_;refine hK 0 q (decide (0≤bad2)) τ2 (k1.trans k2) ⟨bad2,r5,r3,rfl⟩ ?_;have hb2:0≤bad2:=by
   rcases Int.lt_or_le bad1 0 with z|z
   ·rw[w2 z]; omega
   ·rw[w1 z]; exact z
  refine⟨λx h1 h2=>?_,λ_=>YDT hb2⟩;unfold YO at h2;cases e:numO (b.drop p) with
  |none=>simp only[e] at h2; cases h2
  |some y=>
   obtain⟨rfl,_⟩:=a1.1 y h1 e;simp only[e,Option.bind_some] at h2;rw[YIP h] at h2; cases h2
 ·have h:¬(v < -128∨127<v):=by
   simp only[Bool.or_eq_false_iff,YDN] at h; omega
  refine Za (Qk ..) ?_;rw[Yc2 (n:=v) (by unfold R8; omega)];refine hK v q f' τ k1 r1 ⟨λx h1 h2=>?_,λh1=>?_⟩
  ·unfold YO at h2;cases e:numO (b.drop p) with
   |none=>simp only[e] at h2; cases h2
   |some y=>
    obtain⟨rfl,e2⟩:=a1.1 y h1 e;simp only[e,Option.bind_some] at h2;rw[YIN h] at h2; cases h2;exact⟨rfl,e2⟩
  ·rcases h1 with h1|h1
   ·exact a1.2 (.inl h1)
   ·unfold YO at h1;cases e:numO (b.drop p) with
    |none=>exact a1.2 (.inr e)
    |some y=>
     cases hf2:f with
     |true=>exact a1.2 (.inl hf2)
     |false=>
      obtain⟨rfl,e2⟩:=a1.1 y hf2 e;simp only[e,Option.bind_some] at h1;rw[YIN h] at h1; cases h1
theorem QaP{α:Type}{P:Rd α}{e:Nat}(r:List UInt8):listO e P r=(XD e r).bind λx=>repO P x.1.toNat x.2:=by
 unfold listO XD;cases numO r with
 |none=>rfl
 |some x=>
  simp only[Option.bind_some];split<;>rfl
theorem Ag.list{α:Type}{P:Rd α}{e:Nat}{s s1 s2:List UInt8×Bool}{n:Int}{l:List α}(h:Ag (XD e) s n s1)(h2:s2.2=s1.2)(hl:s1.2=false→repO P n.toNat s1.1=some (l,s2.1)):Ag (listO e P) s l s2:=by
 refine⟨λx k1 k2=>?_,λk=>?_⟩
 ·rw[QaP] at k2;cases q:XD e s.1 with
  |none=>simp[q] at k2
  |some y=>
   obtain⟨rfl,e1⟩:=h.1 y k1 q;rw[e1] at hl h2;simp only[q,Option.bind_some] at k2;rw[hl rfl] at k2;cases k2;exact⟨rfl,by cases s2; simp only at h2; rw[h2]⟩
 ·rw[h2];rcases k with k|k
  ·exact h.2 (.inl k)
  ·rw[QaP] at k;cases q:XD e s.1 with
   |none=>exact h.2 (.inr q)
   |some y=>
    cases hs:s.2 with
    |true=>exact h.2 (.inl hs)
    |false=>
     obtain⟨rfl,e1⟩:=h.1 y hs q;rw[e1] at hl;simp only[q,Option.bind_some] at k;rw[hl rfl] at k; cases k
theorem tail74{b:List UInt8}{p c:Nat}{bad n:Int}{τ:List ABlk}{Z:PZ}{K:KT}(hc:hget τ c=.box [byV b,iv p,iv bad])(h1:0≤bad→K (iv 0) τ)(h2:bad<0→K (iv n) τ) :
  (VV Z).rd (Qj [.bptr c 0] τ) λv=>(VV Z).rd (Ye 2 [v] τ) λv=>(VV Z).rd (Zg false 1 [v] τ) λv=>(VV Z).rd (Zq .geq false [v,.int .i64 0] τ) λt=>(VV Z).test t (K (.int .i64 0) τ) (K (iv n) τ):=
 Za rfl (Za rfl (Za (v:=iv bad) (Zj hc rfl) (Za (Xbd ..) (Zd (λh=>h1 (by simpa using h)) (λh=>h2 (by simp at h; omega))))))
theorem count74{e:Nat}(he:e=8∨e=16){b:List UInt8}{p c:Nat}{f:Bool}{σ:List ABlk}{Z:PZ}{K:KT}(hc:R18 b p f c σ)(hlen:b.length≤1000000)
 (hK:∀n q f' τ,KB c σ τ→R18 b q f' c τ→Ag (XD e) (b.drop p,f) n (b.drop q,f')→(f'=true→n=0)→K (iv n) τ):(VV Z).call (.call 74) [.bptr c 0,iv e] σ K:=by
 obtain⟨bad0,h0,hp,hf⟩:=id hc;refine Ze hP rfl k74.ok rfl ?_;show k74.u (VV Z) [.bptr c 0,iv e] σ K;rw[H2.e]; unfold k74; dsimp only; simp only[Yb];refine Za rfl (Za rfl (Za (v:=iv p) (Zj h0 rfl) (num72 hc hlen λv q f1 τ k1 r1 a1=>?_)));obtain⟨bad1,r2,r3,r4⟩:=r1;refine Za rfl (Za rfl (Za (v:=iv bad1) (Zj r2 rfl) (Za (Qn ..) ?_)));have hq:∀(n:Nat),n≤1000000000→∀ {σ:List ABlk},Zq .quo false [iv n,iv e] σ=.ok (iv (n/e:Nat)) [] []:=by
  intro n hn σ;have h16:Zq .quo false [iv n,iv 16] σ=.ok (iv (n/16:Nat)) [] []:=by
   have:IntKind.i64.wrap ((n:Int).tdiv 16)=((n/16:Nat):Int):=by
    rw[show (n:Int).tdiv 16=((n/16:Nat):Int) from rfl];exact IntWalk.i64_in _ (by omega)
   show SRes.ok (.int .i64 (IntKind.i64.wrap ((n:Int).tdiv 16))) [] []=_;rw[this]
  rcases he with rfl|rfl
  ·exact quo8 n hn
  ·exact h16
 have fin:∀bad2 τ2,KB c τ τ2→hget τ2 c=.box [byV b,iv q,iv bad2]→(0≤bad1→0≤bad2)→(bad1<0→(v<0∨(((b.length-q)/e:Nat):Int)<v)→0≤bad2)→(bad1<0→¬(v<0∨(((b.length-q)/e:Nat):Int)<v)→bad2<0) →
   (VV Z).rd (Qj [.bptr c 0] τ2) λv'=>(VV Z).rd (Ye 2 [v'] τ2) λv'=>(VV Z).rd (Zg false 1 [v'] τ2) λv'=>(VV Z).rd (Zq .geq false [v',.int .i64 0] τ2) λt=>(VV Z).test t (K (.int .i64 0) τ2) (K (iv v) τ2):=by
  intro bad2 τ2 k2 r5 c1 c2 c3;have hnone:0≤bad2→∀x,f=false→XD e (b.drop p)=some x→False:=by
   intro hb x h1 h2;unfold XD at h2;cases z:numO (b.drop p) with
   |none=>simp[z] at h2
   |some y=>
    obtain⟨rfl,e2⟩:=a1.1 y h1 z;have e3:y.2=b.drop q:=(congrArg Prod.fst e2).symm;have e4:f1=false:=congrArg Prod.snd e2;rw[r4,YDN] at e4;simp only[z,Option.bind_some] at h2;split at h2
    ·cases h2
    ·rename_i hn;rw[e3,List.length_drop] at hn;have:=c3 (by omega) hn;omega
  refine tail74 r5 (λhb=>?_) (λhb=>?_)
  ·refine hK 0 q true τ2 (k1.trans k2) ⟨bad2,r5,r3,(YDT hb).symm⟩ ⟨λx h1 h2=>(hnone hb x h1 h2).elim,λ_=>rfl⟩ (λ_=>rfl)
  ·refine hK v q false τ2 (k1.trans k2) ⟨bad2,r5,r3,(YDF (by omega)).symm⟩ ?_ (λh=>by cases h);have hb1:bad1<0:=by
    rcases Int.lt_or_le bad1 0 with z|z
    ·exact z
    ·have:=c1 z; omega
   have hf1:f1=false:=by rw[r4]; exact YDF (by omega)
   have hn:¬(v<0∨(((b.length-q)/e:Nat):Int)<v):=λz=>by have:=c2 hb1 z; omega
   obtain⟨g1,g2⟩:=a1.flag hf1;simp only at g1 g2;have hco:XD e (b.drop p)=some (v,b.drop q):=by
    unfold XD;rw[g2];simp only[Option.bind_some,List.length_drop];rw[YIN hn]
   exact⟨λx h1 h2=>by rw[hco] at h2; cases h2; exact⟨rfl,rfl⟩,λz=>by rcases z with z|z; simp only[g1] at z; cases z; rw[hco] at z; cases z⟩
 cases hb1:decide (bad1<0)
 ·have hb1:0≤bad1:=by simp at hb1; omega
  refine az (ZV (λ_ τ2=>τ2=τ) (λvs τ2 hT=>?_) (λk' hk'=>Qf (hk' _ _ rfl)));subst hT;exact fin bad1 τ2 (KB.refl c τ2) r2 (λz=>z) (λz=>by omega) (λz=>by omega)
 ·have hb1:bad1<0:=by simpa using hb1
  refine Ya (Za rfl (Ya (Za (Qn ..) (Ya (Za rfl ?_)))));cases hv:decide (v<0)
  ·refine Ya (Za rfl (Ya (Za rfl (Ya (Za rfl (Ya (Za rfl (Ya (Za (v:=byV b) (Zj r2 rfl) (Ya (Za (Qe ..) ?_)))))))))));refine Ya (Za rfl (Ya (Za rfl (Ya (Za rfl (Ya (Za (v:=iv q) (Zj r2 rfl) (Ya (Za (YaH ..) ?_)))))))));rw[Qam r3 (by omega)];refine Ya (Za rfl (Ya (Za (hq _ (by omega)) (Ya (Za (ZW ..) (Ya (Za rfl (Za rfl ?_))))))));refine ZV (λ_ τ2=>∃bad2:Int,KB c τ τ2∧hget τ2 c=.box [byV b,iv q,iv bad2]∧(0≤bad1→0≤bad2)∧(bad1<0→(v<0∨(((b.length-q)/e:Nat):Int)<v)→0≤bad2)∧(bad1<0→¬(v<0∨(((b.length-q)/e:Nat):Int)<v)→bad2<0)) (λvs τ2 hT=>?_) (λk' hk'=>?_)
   ·obtain⟨bad2,k2,r5,c1,c2,c3⟩:=hT;exact fin bad2 τ2 k2 r5 c1 c2 c3
   ·refine Zd (λh=>?_) (λh=>?_)
    ·refine wrong89 r2 λbad2 τ2 k2 r5 _ w2=>?_;have:=w2 hb1;exact hk' _ _ ⟨bad2,k2,r5,λz=>by omega,λ_ _=>by omega,λ_ z=>(z (.inr (by simpa using h))).elim⟩
    ·refine hk' _ _ ⟨bad1,KB.refl c τ,r2,λz=>z,λ_ z=>?_,λ_ _=>hb1⟩;simp at h hv;omega
  ·refine az (ZV (λ_ τ2=>∃bad2:Int,KB c τ τ2∧hget τ2 c=.box [byV b,iv q,iv bad2]∧(0≤bad1→0≤bad2)∧(bad1<0→(v<0∨(((b.length-q)/e:Nat):Int)<v)→0≤bad2)∧(bad1<0→¬(v<0∨(((b.length-q)/e:Nat):Int)<v)→bad2<0)) (λvs τ2 hT=>?_) (λk' hk'=>Xi ?_))
   ·obtain⟨bad2,k2,r5,c1,c2,c3⟩:=hT;exact fin bad2 τ2 k2 r5 c1 c2 c3
   ·refine wrong89 r2 λbad2 τ2 k2 r5 _ w2=>?_;have:=w2 hb1;exact hk' _ _ ⟨bad2,k2,r5,λz=>by omega,λ_ _=>by omega,λ_ z=>(z (.inl (by simpa using hv))).elim⟩
theorem X2{e:Nat}{b:List UInt8}{p q:Nat}{f:Bool}{n:Int}(hq:q≤b.length)(h:Ag (XD e) (b.drop p,f) n (b.drop q,false)):0≤n∧n≤((b.length-q)/e:Nat):=by
 obtain⟨_,k⟩:=h.flag rfl;simp only at k;unfold XD at k;cases z:numO (b.drop p) with
 |none=>simp[z] at k
 |some y=>
  simp only[z,Option.bind_some] at k;split at k
  ·cases k
  ·rename_i hn;cases k;simp only[List.length_drop] at hn;omega
theorem nums73{b:List UInt8}{p c:Nat}{f:Bool}{σ:List ABlk}{Z:PZ}{K:KT}(hc:R18 b p f c σ)(hlen:b.length≤1000000)
 (hK:∀l v q f' τ,KB c σ τ→R18 b q f' c τ→Ag (listO 8 numO) (b.drop p,f) l (b.drop q,f')→OL l v τ→K v τ):(VV Z).call (.call 73) [.bptr c 0] σ K:=by
 refine Ze hP rfl k73.ok rfl ?_;show k73.u (VV Z) [.bptr c 0] σ K;rw[H1.e]; unfold k73; dsimp only; simp only[Yb];refine count74 (e:=8) (.inl rfl) hc hlen λn q f1 τ0 k1 r1 a1 hz=>?_;obtain⟨bad1,r2,r3,r4⟩:=id r1;obtain⟨N,rfl⟩:∃N:Nat,n=N:=by
  cases f1
  ·have:=X2 r3 a1; exact⟨n.toNat,by omega⟩
  ·exact⟨0,hz rfl⟩
 have hroom:f1=false→q+8*N≤b.length:=by
  rintro rfl;have:=X2 r3 a1; omega
 have hz:f1=true→N=0:=λe=>by have:=hz e; omega
 refine Xp (ι:=Nat) (λi vs τ=>∃v,vs=[iv i,v]∧i≤N∧KB c σ τ∧R18 b (q+8*i) f1 c τ∧OL (nums8 b q i) v τ∧∀d o n e,v=.sl d o n e→hget σ d=.dead) (λi=>N-i) 0 ⟨.nils,rfl,by omega,k1,r1,.inl ⟨rfl,rfl⟩,λ_ _ _ _ e=>by cases e⟩ ?_;rintro i vs τ again ⟨v,rfl,hi,hk,hr,hg,hd⟩ hag;refine Za (Qn ..) (Zd (λh'=>?_) (λh'=>?_))
 ·have h':i<N:=by simp at h'; omega
  have hf1:f1=false:=by
   cases f1
   ·rfl
   ·have:=hz rfl; omega
  subst hf1;have hroom:=hroom rfl;obtain⟨bad2,s2,s3,s4⟩:=id hr;refine num72 hr hlen λw q2 f2 τ2 k2 r5 a2=>?_;obtain⟨rfl,e2⟩:=a2.1 _ rfl (Yl (by omega));obtain⟨bad3,t2,t3,t4⟩:=id r5;have e3:f2=false:=congrArg Prod.snd e2;have e4:q2=q+8*i+8:=Ybd t3 (by omega) (congrArg Prod.fst e2);subst e3 e4;simp only;have hnb:∀b' o n e,v=.sl b' o n e→b'≠c∧hget τ b'≠.dead:=by
   rintro b' o n e rfl;rcases hg with ⟨z,_⟩|⟨b'',ex,z,hb⟩
   ·cases z
   ·cases z;refine⟨?_,by rw[hb]; simp⟩;rintro rfl;rw[s2] at hb; cases hb
  have hg2:OL (nums8 b q i) v τ2:=hg.stay (λd ⟨y,e⟩=>k2.2 d (by rintro rfl; rw[s2] at e; cases e) (by rw[e]; simp));refine Xd (v:=.sl τ2.length 0 1 true) (rd:=[]) (up:=[(τ2.length,.rows 1 [cel (nat8 b (q+8*i) 0)])]) rfl (Yi _ _) ?_;obtain⟨v',up,σ4,e1,e2,e3,e4,e5⟩:=(hg2.more [.rows 1 [cel (nat8 b (q+8*i) 0)]]).upd (m:=[nat8 b (q+8*i) 0]) (y:=.sl τ2.length 0 1 true) (rd:=[τ2.length]) (ZJ (Zc _ _) rfl) (by rw[ZN]; simp; omega);refine Xd e1 e2 (Za (Xr ..) ?_);rw[Zh (n:=i) (by omega)];have hkeep:∀d,hget τ2 d≠.dead→(∀o n e,v≠.sl d o n e)→hget σ4 d=hget τ2 d:=λd hn hv=>e3.more.2 d hn hv;have hk2:=hk.trans k2;refine hag (i+1) _ _ (by omega) ⟨v',rfl,by omega,⟨Nat.le_trans hk2.1 e3.more.1,λd h1 h2=>?_⟩,⟨bad3,?_,by omega,t4⟩,?_,λb' o n e z=>?_⟩
  ·have z:=hk2.2 d h1 h2;rw[hkeep d (by rw[z]; exact h2) (λo n e w=>h2 (hd _ _ _ _ w)),z]
  ·rw[hkeep c (by rw[t2]; simp) (λo n e w=>(hnb _ _ _ _ w).1 rfl)];rw[show q+8*(i+1)=q+8*i+8 by omega]; exact t2
  ·rw[Xaf];exact e4
  ·rw[e5] at z;cases z;have hx:σ.length≤τ2.length+1:=by have:=hk2.1; omega
   rw[List.length_append];show hget σ (τ2.length+1)=_;exact Yaf hx
 ·have h':i=N:=by simp at h'; omega
  subst h';refine hK _ v _ f1 τ hk hr (a1.list rfl (λe=>?_)) hg;simp only at e ⊢;rw[Int.toNat_natCast];exact QaK i b q (hroom e)
theorem end75{b:List UInt8}{p c:Nat}{f:Bool}{σ:List ABlk}{Z:PZ}{K:KT}(hc:R18 b p f c σ)(hlen:b.length≤1000000)
 (hK:∀bad' τ,KB c σ τ→hget τ c=.box [byV b,iv p,iv bad']→K (.bool (decide (f=false∧p=b.length))) τ):(VV Z).call (.call 75) [.bptr c 0] σ K:=by
 obtain⟨bad0,h0,hp,hf⟩:=id hc;refine Ze hP rfl k75.ok rfl ?_;show k75.u (VV Z) [.bptr c 0] σ K;rw[H1.e]; unfold k75; dsimp only; simp only[Yb];refine Za rfl (Za rfl (Za (v:=iv bad0) (Zj h0 rfl) (Za (Qn ..) ?_)));refine ZcC (v4:=iv p) (v8:=byV b) (v9:=iv b.length) (λ_=>rfl) (λ_=>rfl) (λ_=>rfl) (λ_=>Zj h0 rfl) (λ_=>rfl) (λ_=>rfl) (λ_=>rfl) (λ_=>Zj h0 rfl) (λ_=>Qe ..) (λ_=>Qn ..) ?_;refine ZV (λ_ τ=>∃bad':Int,KB c σ τ∧hget τ c=.box [byV b,iv p,iv bad']∧decide (bad'<0)=decide (f=false∧p=b.length)) (λvs τ hT=>?_) (λk' hk'=>?_)
 ·obtain⟨bad',k,r,e⟩:=hT;refine Za rfl (Za rfl (Za (v:=iv bad') (Zj r rfl) (Za (Qn ..) ?_)));rw[e];exact hK bad' τ k r
 ·refine Zd (λh=>?_) (λh=>?_)
  ·simp only[Bool.and_eq_true,YDE] at h;refine Za rfl (Za rfl (Za (v:=iv p) (Zj h0 rfl) (wrong89 h0 λbad' τ hk hc' _ h2=>?_)));have:=h2 h.1;refine hk' _ _ ⟨bad',hk,hc',?_⟩;rw[YDF (show ¬bad'<0 by omega),YDF (show ¬(f=false∧p=b.length) by omega)]
  ·refine hk' _ _ ⟨bad0,KB.refl c σ,h0,?_⟩;rw[Bool.and_eq_false_iff,YDN,YDN] at h;rw[decide_eq_decide,hf,YDN];omega
theorem KS.kb{c:Nat}{σ τ υ:List ABlk}(h:KS σ τ)(k:KB c τ υ)(hc:σ.length≤c):KS σ υ:=⟨Nat.le_trans h.1 k.1,λd hd=>by
 have:=h.2 d hd;have:=hlt hd;rw[k.2 d (by omega) (by rw[h.2 d hd]; exact hd),h.2 d hd]⟩
theorem KS.set{σ τ:List ABlk}{a:Nat}(h:KS σ τ)(ha:σ.length≤a)(x:ABlk):KS σ (τ.set a x):=⟨by simpa using h.1,λd hd=>by
 have:=hlt hd;rw[Yc (by omega),h.2 d hd]⟩
theorem KS.add{σ τ:List ABlk}(h:KS σ τ)(x:List ABlk):KS σ (τ++x):=⟨by have:=h.1; simp; omega,λd hd=>Qd x (h.2 d hd) hd⟩
theorem KS.kp{σ τ υ:List ABlk}{v:AVal}(h:KS σ τ)(k:Kp v τ υ)(hv:∀ d o n e,v=.sl d o n e→σ.length≤d):KS σ υ:=⟨Nat.le_trans h.1 k.1,λd hd=>by
 have:=hlt hd;rw[k.2 d (by rw[h.2 d hd]; exact hd) (λo n e z=>by have:=hv _ _ _ _ z; omega),h.2 d hd]⟩
theorem R18.oth{b:List UInt8}{p c a:Nat}{f:Bool}{σ:List ABlk}(h:R18 b p f c σ)(hac:a≠c)(x:ABlk):R18 b p f c (σ.set a x):=by
 obtain⟨bad,h1,h2⟩:=h;exact⟨bad,by rw[Yc hac.symm]; exact h1,h2⟩
theorem R18.add{b:List UInt8}{p c:Nat}{f:Bool}{σ:List ABlk}(h:R18 b p f c σ)(x:List ABlk):R18 b p f c (σ++x):=by
 obtain⟨bad,h1,h2⟩:=h;exact⟨bad,Qd _ h1,h2⟩
def In46(σ:List ABlk)(b:List UInt8)(cs:List AVal)(p:Nat)(f:Bool)(τ:List ABlk):Prop:=KS σ τ∧hget τ σ.length=.box cs∧R18 b p f (σ.length+1) τ
theorem In46.kb{σ τ υ:List ABlk}{b:List UInt8}{cs:List AVal}{p q:Nat}{f g:Bool}(h:In46 σ b cs p f τ)(k:KB (σ.length+1) τ υ)(r:R18 b q g (σ.length+1) υ):In46 σ b cs q g υ:=
 ⟨h.1.kb k (by omega),by rw[k.2 _ (by omega) (by rw[h.2.1]; simp)]; exact h.2.1,r⟩
theorem In46.put{σ τ:List ABlk}{b:List UInt8}{cs:List AVal}{p:Nat}{f:Bool}(h:In46 σ b cs p f τ)(ds:List AVal):In46 σ b ds p f (τ.set σ.length (.box ds)):=
 ⟨h.1.set (Nat.le_refl _) _,Xc h.2.1 (by simp),h.2.2.oth (by omega) _⟩
theorem In46.add{σ τ:List ABlk}{b:List UInt8}{cs:List AVal}{p:Nat}{f:Bool}(h:In46 σ b cs p f τ)(x:List ABlk):In46 σ b cs p f (τ++x):=
 ⟨h.1.add x,Qd _ h.2.1,h.2.2.add x⟩
abbrev Rd46:Rd (Int×Int×Int×Int×List Int×List (Int×Int)):=seqR YO (seqR numO (seqR numO (seqR numO (seqR (listO 8 numO) (listO 16 prO)))))
theorem Zc9{b:List UInt8}{q:Nat}{f:Bool}{y:Int×Int×Int×Int×List Int×List (Int×Int)}(h:Ag Rd46 (b,false) y (b.drop q,f))(hq:q≤b.length) :
  (f=false→q=b.length→actO b=some (acP y,[]))∧(¬(f=false∧q=b.length)→∀x,actO b≠some (x,[])):=by
 refine⟨λh1 h2=>?_,λh1 x h2=>?_⟩
 ·subst h1 h2;obtain⟨_,k⟩:=h.flag rfl;simp only[List.drop_length] at k;unfold actO;rw[show seqR YO (seqR numO (seqR numO (seqR numO (seqR (listO 8 numO) (listO 16 prO))))) b=some (y,[]) from k]; rfl
 ·unfold actO at h2;cases z:Rd46 b with
  |none=>rw[show seqR YO (seqR numO (seqR numO (seqR numO (seqR (listO 8 numO) (listO 16 prO))))) b=none from z] at h2; cases h2
  |some w=>
   rw[show seqR YO (seqR numO (seqR numO (seqR numO (seqR (listO 8 numO) (listO 16 prO))))) b=some w from z] at h2;have e:=(h.1 w rfl z).2;simp only[Option.map_some,Option.some.injEq,Prod.mk.injEq] at h2;rw[h2.2] at e;injection e with e1 e2
   exact h1 ⟨e2,by have:=congrArg List.length e1; simp at this; omega⟩
theorem read46{b:List UInt8}{σ:List ABlk}{Z:PZ}{K:KT}(hlen:b.length≤1000000)
 (hgood:∀x v w τ,actO b=some (x,[])→KS σ τ→OL x.ids v τ→OP x.prs w τ→K (.tup [.agg [iv8 x.op,iv x.side,iv x.place,iv x.target,v,w],iv 0,iv 0]) τ)
 (hbad:(∀x,actO b≠some (x,[]))→∀(q:Int) τ,KS σ τ→K (.tup [.agg zC,iv q,iv 180]) τ):(VV Z).call (.call 46) [byV b] σ K:=by
 refine Ze hP rfl k46.ok rfl ?_;show k46.u (VV Z) [byV b] σ K;rw[H1.e]; unfold k46; dsimp only; simp only[Yb,Qo];refine Xd (v:=.bptr σ.length 0) (rd:=[]) (up:=[(σ.length,.box zC)]) rfl (Yi _ _) (Za (Qe ..) (Za (ZW ..) (Zd (λh=>by simp at h; omega) (λ_=>?_))));have hl1:(σ++[ABlk.box zC]).length=σ.length+1:=by simp
 refine Za rfl (Xd (v:=.bptr (σ.length+1) 0) (rd:=[]) (up:=[(σ.length+1,.box [byV b,iv 0,iv (-1)])]) (by show SRes.ok _ _ _=_; rw[hl1]) (by rw[←hl1]; exact Yi _ _) ?_);have i0:In46 σ b zC 0 false ((σ++[.box zC])++[.box [byV b,iv 0,iv (-1)]]):=by
  refine⟨⟨by simp,λd hd=>by rw[List.append_assoc]; exact Qd _ rfl hd⟩,Qd _ (Zc _ _),-1,?_,by omega,rfl⟩;have:=Zc (σ++[.box zC]) (.box [byV b,iv 0,iv (-1)]);rw[hl1] at this; exact this
 generalize (σ++[ABlk.box zC])++[.box [byV b,iv 0,iv (-1)]]=τ0 at i0;refine small71 i0.2.2 hlen λw0 q0 f0 τ1 k0 r0 a0=>?_;have i1:=i0.kb k0 r0;refine Za rfl (Xd (stv (row':=[iv8 w0,iv 0,iv 0,iv 0,.nils,.nils]) i1.2.1 rfl rfl rfl) (Zb _ (Qa i1.2.1)) ?_);have i1:=i1.put [iv8 w0,iv 0,iv 0,iv 0,.nils,.nils];generalize τ1.set σ.length (.box [iv8 w0,iv 0,iv 0,iv 0,.nils,.nils])=τ1' at i1;refine num72 i1.2.2 hlen λw1 q1 f1 τ2 k1 r1 a1=>?_;have i2:=i1.kb k1 r1;refine Za rfl (Xd (stv (row':=[iv8 w0,iv w1,iv 0,iv 0,.nils,.nils]) i2.2.1 rfl rfl rfl) (Zb _ (Qa i2.2.1)) ?_);have i2:=i2.put [iv8 w0,iv w1,iv 0,iv 0,.nils,.nils];generalize τ2.set σ.length (.box [iv8 w0,iv w1,iv 0,iv 0,.nils,.nils])=τ2' at i2;refine num72 i2.2.2 hlen λw2 q2 f2 τ3 k2 r2 a2=>?_;have i3:=i2.kb k2 r2;refine Za rfl (Xd (stv (row':=[iv8 w0,iv w1,iv w2,iv 0,.nils,.nils]) i3.2.1 rfl rfl rfl) (Zb _ (Qa i3.2.1)) ?_);have i3:=i3.put [iv8 w0,iv w1,iv w2,iv 0,.nils,.nils];generalize τ3.set σ.length (.box [iv8 w0,iv w1,iv w2,iv 0,.nils,.nils])=τ3' at i3;refine num72 i3.2.2 hlen λw3 q3 f3 τ4 k3 r3 a3=>?_;have i4:=i3.kb k3 r3;refine Za rfl (Xd (stv (row':=[iv8 w0,iv w1,iv w2,iv w3,.nils,.nils]) i4.2.1 rfl rfl rfl) (Zb _ (Qa i4.2.1)) ?_);have i4:=i4.put [iv8 w0,iv w1,iv w2,iv w3,.nils,.nils];generalize τ4.set σ.length (.box [iv8 w0,iv w1,iv w2,iv w3,.nils,.nils])=τ4' at i4;refine nums73 i4.2.2 hlen λl4 v4 q4 f4 τ5 k4 r4 a4 o4=>?_;have i5:=i4.kb k4 r4;refine Za rfl (Xd (stv (row':=[iv8 w0,iv w1,iv w2,iv w3,v4,.nils]) i5.2.1 o4.cell rfl rfl) (Zb _ (Qa i5.2.1)) ?_);have o4:=o4.stay (τ:=τ5.set σ.length (.box [iv8 w0,iv w1,iv w2,iv w3,v4,.nils])) (λd ⟨y,e⟩=>Yc (by rintro rfl; rw[i5.2.1] at e; cases e));have i5:=i5.put [iv8 w0,iv w1,iv w2,iv w3,v4,.nils];generalize τ5.set σ.length (.box [iv8 w0,iv w1,iv w2,iv w3,v4,.nils])=τ5' at i5 o4;refine count74 (e:=16) (.inr rfl) i5.2.2 hlen λn q5 f5 τ6 k5 r5 a5 hz=>?_;have o4:=o4.stay (τ:=τ6) (λd ⟨y,e⟩=>k5.2 d (by rintro rfl; obtain⟨z,e',_⟩:=i5.2.2; rw[e'] at e; cases e) (by rw[e]; simp));have i6:=i5.kb k5 r5;obtain⟨bad6,-,hq5,-⟩:=id r5;obtain⟨N,rfl⟩:∃N:Nat,n=N:=by
  cases f5
  ·have:=X2 hq5 a5; exact⟨n.toNat,by omega⟩
  ·exact⟨0,hz rfl⟩
 have hroom:f5=false→q5+16*N≤b.length:=by
  rintro rfl;have:=X2 hq5 a5; omega
 have hz:f5=true→N=0:=λe=>by have:=hz e; omega
 refine Xp (ι:=Nat) (λi vs τ=>∃v,vs=[iv i]∧i≤N∧In46 σ b [iv8 w0,iv w1,iv w2,iv w3,v4,v] (q5+16*i) f5 τ∧OL l4 v4 τ∧OP (pairs8 b q5 i) v τ∧∀d o n e,v=.sl d o n e→σ.length≤d) (λi=>N-i) 0 ⟨.nils,rfl,by omega,i6,o4,.inl ⟨rfl,rfl⟩,λ_ _ _ _ e=>by cases e⟩ ?_;clear i6 o4 r5 k5 k0 k1 k2 k3 k4 i5 i4 i3 i2 i1 i0;rintro i vs τ again ⟨v,rfl,hi,hin,hol,hop,hd⟩ hag;refine Za (Qn ..) (Zd (λh'=>?_) (λh'=>?_))
 ·have h':i<N:=by simp at h'; omega
  have hf1:f5=false:=by
   cases f5
   ·rfl
   ·have:=hz rfl; omega
  subst hf1;have hroom:=hroom rfl;refine Xd (v:=.bptr τ.length 0) (rd:=[]) (up:=[(τ.length,.box [iv 0,iv 0])]) rfl (Yi _ _) ?_;have hta:σ.length+1<τ.length:=by
   obtain⟨z,e',_⟩:=hin.2.2;exact Qa e'
  have hin:=hin.add [.box [iv 0,iv 0]];have hol:=hol.more [.box [iv 0,iv 0]];have hop:=hop.more [.box [iv 0,iv 0]];have ht:=Zc τ (.box [iv 0,iv 0]);generalize hT:τ.length=t at ht hta;generalize τ++[ABlk.box [iv 0,iv 0]]=τ2 at hin hol hop ht;have step:∀ {υ:List ABlk} {p:Nat} {cells:List AVal} {Z:PZ} {K:KT},p+8≤b.length→In46 σ b [iv8 w0,iv w1,iv w2,iv w3,v4,v] p false υ→OL l4 v4 υ→OP (pairs8 b q5 i) v υ→hget υ t=.box cells →
    (∀υ',In46 σ b [iv8 w0,iv w1,iv w2,iv w3,v4,v] (p+8) false υ'→OL l4 v4 υ'→OP (pairs8 b q5 i) v υ'→hget υ' t=.box cells→K (iv (nat8 b p 0)) υ')→(VV Z).call (.call 72) [.bptr (σ.length+1) 0] υ K:=by
   intro υ p cells Z K hp h1 h2 h3 h4 hK;refine num72 h1.2.2 hlen λw q f υ' k r a=>?_;obtain⟨rfl,e2⟩:=a.1 _ rfl (Yl hp);obtain⟨bad3,t2,t3,t4⟩:=id r;have e3:f=false:=congrArg Prod.snd e2;have e4:q=p+8:=Ybd t3 (by omega) (congrArg Prod.fst e2);subst e3 e4;obtain⟨bad4,u2,u3,u4⟩:=id h1.2.2;exact hK υ' (h1.kb k r) (h2.stay (λd ⟨y,e⟩=>k.2 d (by rintro rfl; rw[u2] at e; cases e) (by rw[e]; simp))) (h3.stay (λd ⟨y,e⟩=>k.2 d (by rintro rfl; rw[u2] at e; cases e) (by rw[e]; simp)))
    (by rw[k.2 t (by omega) (by rw[h4]; simp)]; exact h4)
  have putT:∀ {υ:List ABlk} {p:Nat} {cells:List AVal} (ds:List AVal),In46 σ b [iv8 w0,iv w1,iv w2,iv w3,v4,v] p false υ→OL l4 v4 υ→OP (pairs8 b q5 i) v υ→hget υ t=.box cells →
    In46 σ b [iv8 w0,iv w1,iv w2,iv w3,v4,v] p false (υ.set t (.box ds))∧OL l4 v4 (υ.set t (.box ds))∧OP (pairs8 b q5 i) v (υ.set t (.box ds))∧hget (υ.set t (.box ds)) t=.box ds:=by
   intro υ p cells ds h1 h2 h3 h4;exact⟨⟨h1.1.set (by omega) _,by rw[Yc (by omega)]; exact h1.2.1,h1.2.2.oth (by omega) _⟩,h2.stay (λd ⟨y,e⟩=>Yc (by rintro rfl; rw[h4] at e; cases e)),h3.stay (λd ⟨y,e⟩=>Yc (by rintro rfl; rw[h4] at e; cases e)),Xc h4 (by simp)⟩
  refine step (by omega) hin hol hop ht λυ1 hin hol hop ht=>?_;refine Za rfl (Xd (stv (row':=[iv (nat8 b (q5+16*i) 0),iv 0]) ht rfl rfl rfl) (Zb _ (Qa ht)) ?_);obtain⟨hin,hol,hop,ht⟩:=putT [iv (nat8 b (q5+16*i) 0),iv 0] hin hol hop ht;generalize υ1.set t (.box [iv (nat8 b (q5+16*i) 0),iv 0])=υ2 at hin hol hop ht;refine step (by omega) hin hol hop ht λυ3 hin hol hop ht=>?_;refine Za rfl (Xd (stv (row':=[iv (nat8 b (q5+16*i) 0),iv (nat8 b (q5+16*i+8) 0)]) ht rfl rfl rfl) (Zb _ (Qa ht)) ?_);obtain⟨hin,hol,hop,ht⟩:=putT [iv (nat8 b (q5+16*i) 0),iv (nat8 b (q5+16*i+8) 0)] hin hol hop ht;generalize υ3.set t (.box [iv (nat8 b (q5+16*i) 0),iv (nat8 b (q5+16*i+8) 0)])=υ at hin hol hop ht;clear step putT;refine Za rfl (Za (v:=v) (Zj hin.2.1 rfl) (Za (v:=.agg (prC (nat8 b (q5+16*i) 0,nat8 b (q5+16*i+8) 0))) (Zj ht rfl) ?_));refine Xd (v:=.sl υ.length 0 1 true) (rd:=[]) (up:=[(υ.length,.rows 2 [prC (nat8 b (q5+16*i) 0,nat8 b (q5+16*i+8) 0)])]) rfl (Yi _ _) ?_;obtain⟨v',up,σ4,e1,e2,e3,e4,e5,-⟩:=(hop.more [.rows 2 [prC (nat8 b (q5+16*i) 0,nat8 b (q5+16*i+8) 0)]]).upd (m:=[(nat8 b (q5+16*i) 0,nat8 b (q5+16*i+8) 0)]) (y:=.sl υ.length 0 1 true) (rd:=[υ.length]) (ZJ (Zc _ _) rfl) (by rw[YI]; simp; omega);have e3:=e3.more;have hps:pairs8 b q5 (i+1)=pairs8 b q5 i++[(nat8 b (q5+16*i) 0,nat8 b (q5+16*i+8) 0)]:=by
   rw[XaQ];unfold nat8;rw[show q5+8*(2*i)=q5+16*i+8*0 by omega,show q5+8*(2*i+1)=q5+16*i+8+8*0 by omega]
  rw[←hps] at e4;have hv2:∀d o n e,v=.sl d o n e→∃y,hget υ d=.rows 2 y:=by
   rintro d o n e rfl;rcases hop with ⟨z,_⟩|⟨d',ex,z,hb⟩
   ·cases z
   ·cases z; exact⟨_,hb⟩
  obtain⟨bad4,u2,u3,u4⟩:=id hin.2.2;have hin4:In46 σ b [iv8 w0,iv w1,iv w2,iv w3,v4,v] (q5+16*i+8+8) false σ4:=by
   refine⟨hin.1.kp e3 hd,?_,bad4,?_,u3,u4⟩
   ·rw[e3.2 _ (by rw[hin.2.1]; simp) (λo n e z=>by obtain⟨y,hy⟩:=hv2 _ _ _ _ z; rw[hin.2.1] at hy; cases hy)]; exact hin.2.1
   ·rw[e3.2 _ (by rw[u2]; simp) (λo n e z=>by obtain⟨y,hy⟩:=hv2 _ _ _ _ z; rw[u2] at hy; cases hy)]; exact u2
  have hol4:OL l4 v4 σ4:=hol.stay (λd ⟨y,e⟩=>e3.2 d (by rw[e]; simp) (λo n e' z=>by obtain⟨y',hy⟩:=hv2 _ _ _ _ z; rw[hy] at e; cases e));have hd':∀d o n e,v'=.sl d o n e→σ.length≤d:=by
   rintro d o n e z;rw[e5] at z; cases z;have:=hin.1.1;simp; omega
  clear e5;refine Xd e1 e2 (Za rfl (Xd (stv (row':=[iv8 w0,iv w1,iv w2,iv w3,v4,v']) hin4.2.1 e4.cell rfl rfl) (Zb _ (Qa hin4.2.1)) (Za (Xr ..) ?_)));rw[Zh (n:=i) (by omega)];refine hag (i+1) _ _ (by omega) ⟨v',rfl,by omega,?_,hol4.stay (λd ⟨y,e⟩=>Yc (by rintro rfl; rw[hin4.2.1] at e; cases e)),e4.stay (λd ⟨y,e⟩=>Yc (by rintro rfl; rw[hin4.2.1] at e; cases e)),hd'⟩;rw[show q5+16*(i+1)=q5+16*i+8+8 by omega];exact hin4.put _
 ·have h':i=N:=by simp at h'; omega
  subst h';have a6:Ag (listO 16 prO) (b.drop q4,f4) (pairs8 b q5 i) (b.drop (q5 + 16 * i),f5):=a5.list rfl (λe=>by
   simp only at e ⊢;rw[Int.toNat_natCast];exact YaR i b q5 (hroom e))
  have A:=a0.seq (a1.seq (a2.seq (a3.seq (a4.seq a6))));rw[List.drop_zero] at A;obtain⟨bad4,u2,u3,u4⟩:=id hin.2.2;have hA:=Zc9 A u3;clear A a0 a1 a2 a3 a4 a5 a6;refine end75 hin.2.2 hlen λbad' υ k r=>?_;have hs:KS σ υ:=hin.1.kb k (by omega);have h2:hget υ σ.length=.box [iv8 w0,iv w1,iv w2,iv w3,v4,v]:=by rw[k.2 _ (by omega) (by rw[hin.2.1]; simp)]; exact hin.2.1
  have hol:=hol.stay (τ:=υ) (λd ⟨y,e⟩=>k.2 d (by rintro rfl; rw[u2] at e; cases e) (by rw[e]; simp));have hop:=hop.stay (τ:=υ) (λd ⟨y,e⟩=>k.2 d (by rintro rfl; rw[u2] at e; cases e) (by rw[e]; simp));refine Za (X6 ..) (Zd (λh=>?_) (λh=>?_))
  ·have h:¬(f5=false∧q5+16*i=b.length):=λz=>by simp[z] at h
   have hc0:cellV true 6 (.bptr σ.length 0) (υ.set σ.length (.box zC))=some (.agg zC):=by simp only[cellV,Xc (x:=.box zC) h2 (by simp)]; rfl
   refine Yd rfl (Yd rfl (Yd rfl (Yf (v:=iv bad') (Zj r rfl) rfl (Yf (stv (row':=zC) h2 rfl rfl rfl) (Zb _ (Qa h2)) (Xv ?_ (YS hc0 ?_))))))
   ·simp[Xf,Xj,Yj,Qp,apart2,disj,List.range,List.range.loop]
   ·exact hbad (hA.2 h) bad' _ (hs.set (Nat.le_refl _) _)
  ·have h:f5=false∧q5+16*i=b.length:=by simpa using h
   have hcs:cellsOf (.agg [iv8 w0,iv w1,iv w2,iv w3,v4,v])=some [iv8 w0,iv w1,iv w2,iv w3,v4,v]:=by
    rcases hol with ⟨rfl,_⟩|⟨b1,ex1,rfl,_⟩<;>rcases hop with ⟨rfl,_⟩|⟨b2,ex2,rfl,_⟩<;>rfl
   have hc0:cellV true 6 (.bptr σ.length 0) (υ.set σ.length (.box [iv8 w0,iv w1,iv w2,iv w3,v4,v]))=some (.agg [iv8 w0,iv w1,iv w2,iv w3,v4,v]):=by simp only[cellV,Xc (x:=.box [iv8 w0,iv w1,iv w2,iv w3,v4,v]) h2 (by simp)]; rfl
   refine Za (v:=.agg [iv8 w0,iv w1,iv w2,iv w3,v4,v]) (Zj h2 rfl) (Xd (stv (row':=[iv8 w0,iv w1,iv w2,iv w3,v4,v]) h2 hcs rfl rfl) (Zb _ (Qa h2)) (YS hc0 ?_));have:=hgood _ v4 v (υ.set σ.length (.box [iv8 w0,iv w1,iv w2,iv w3,v4,v])) (hA.1 h.1 h.2) (hs.set (Nat.le_refl _) _) (hol.stay (λd ⟨y,e⟩=>Yc (by rintro rfl; rw[h2] at e; cases e))) (hop.stay (λd ⟨y,e⟩=>Yc (by rintro rfl; rw[h2] at e; cases e)));exact this
def R27(b:List UInt8)(p:Nat)(f:Bool)(c:Nat)(σ:List ABlk):Prop:=hget σ c=.box [byV b,iv p,.bool f]∧p≤b.length
theorem Q5{a c:Nat}(h:a+c≤4000000000):IntKind.i64.wrap ((a:Int)+(c:Int))=((a+c:Nat):Int):=by
 rw[IntWalk.i64_in _ (by omega)]; omega
theorem Qc9{σ:List ABlk}(e n:Bool)(l:List UInt8)(i m:Nat)(h:i+m≤l.length):XC 1 true true [.rsl e n 1 (l.map byC),iv i,iv (i+m:Nat)] σ=.ok (.rsl false n 1 (((l.drop i).take m).map byC)) [] []:=by
 show Xx 1 [.rsl e n 1 (l.map byC),.int .i64 (Int.ofNat i),.int .i64 (Int.ofNat (i+m))] σ=_;have h1:Nat.ble i (i+m)=true:=Nat.ble_eq_true_of_le (by omega);have h2:Nat.ble (i+m) (l.map byC).length=true:=Nat.ble_eq_true_of_le (by simpa using h);simp only[Xx,h1,h2,Nat.beq_refl,Bool.and_self,cond_true,cut]
 congr 2
 rw[List.map_take,List.map_drop,List.drop_take]
 congr 1
 omega
theorem Ag.text{s s1 s2:List UInt8×Bool}{n:Int}{t:List UInt8}(h:Ag (XD 1) s n s1)(h2:s2.2=s1.2)(hl:s1.2=false→t=s1.1.take n.toNat∧s2.1=s1.1.drop n.toNat):Ag textO s t s2:=by
 have e:∀r,textO r=(XD 1 r).bind λx=>some (x.2.take x.1.toNat,x.2.drop x.1.toNat):=by
  intro r;unfold textO XD;cases numO r with
  |none=>rfl
  |some x=>
   simp only[Option.bind_some,Nat.div_one];split<;>rfl
 refine⟨λx k1 k2=>?_,λk=>?_⟩
 ·rw[e] at k2;cases q:XD 1 s.1 with
  |none=>simp[q] at k2
  |some y=>
   obtain⟨rfl,e1⟩:=h.1 y k1 q;rw[e1] at hl h2;simp only[q,Option.bind_some] at k2;cases k2;obtain⟨z1,z2⟩:=hl rfl;exact⟨z1,by cases s2; simp only at h2 z2; rw[h2,z2]⟩
 ·rw[h2];rcases k with k|k
  ·exact h.2 (.inl k)
  ·rw[e] at k;cases q:XD 1 s.1 with
   |none=>exact h.2 (.inr q)
   |some y=>simp[q] at k
theorem number45{b:List UInt8}{p c:Nat}{f:Bool}{σ:List ABlk}{Z:PZ}{K:KT}(hc:R27 b p f c σ)(hlen:b.length≤1000000)
 (hK:∀v q f' τ,KB c σ τ→R27 b q f' c τ→Ag numO (b.drop p,f) v (b.drop q,f')→K (iv v) τ):(VV Z).call (.call 45) [.bptr c 0] σ K:=by
 obtain⟨h0,hp⟩:=hc;refine Ze hP rfl k45.ok rfl ?_;show k45.u (VV Z) [.bptr c 0] σ K;rw[H1.e]; unfold k45; dsimp only; simp only[Yb,Qh];refine Za rfl (Za rfl (Za (v:=byV b) (Zj h0 rfl) (Za (Qe ..) (Za rfl (Za rfl (Za (v:=iv p) (Zj h0 rfl) (Za (YaH ..) ?_)))))));rw[Qam hp (by omega)];refine Za (Qn ..) (Zd (λh=>?_) (λh=>?_))
 ·have h:b.length<p+8:=by simp at h; omega
  refine Za rfl (Za rfl (Xd (stv (row':=[byV b,iv p,.bool true]) h0 rfl rfl rfl) (Zb _ (Qa h0)) ?_));exact hK 0 p true _ (KB.set _) ⟨Xc h0 (by simp),hp⟩ ⟨λx _ h2=>(by rw[QM h] at h2; cases h2),λ_=>rfl⟩
 ·have h:p+8≤b.length:=by simp at h; omega
  refine Xp (ι:=Nat) (λi vs τ=>vs=[iv i,.int .u64 (d8 ((b.drop p).take i):Nat)]∧i≤8∧τ=σ) (λi=>8-i) 0 ⟨rfl,by omega,rfl⟩ ?_;rintro i vs τ again ⟨rfl,hi,rfl⟩ hag;refine Za (Qn ..) (Zd (λh'=>?_) (λh'=>?_))
  ·have h':i<8:=by simp at h'; omega
   have hb:=Xb6 i ((b.drop p).take i) (by simp; omega);have hb7:256 ^ i≤256 ^ 7:=Nat.pow_le_pow_right (by omega) (by omega);refine Za rfl (Za rfl (Za rfl (Za (v:=byV b) (Zj h0 rfl) (Za rfl (Za rfl (Za (v:=iv p) (Zj h0 rfl) (Za (Xr ..) ?_)))))));rw[Q5 (a:=p) (c:=i) (by omega)];refine Za (Xaq byC false false 1 b .i64 (p+i) (by omega)) (Za (v:=.int .u8 (b[p+i].toNat:Int)) (Yu rfl) (Za (Qk ..) (Za (Yao _ _ (by omega)) (Za (Xr ..) ?_))));rw[Zh (n:=i) (by omega)];refine hag (i+1) _ _ (by omega) ⟨?_,by omega,rfl⟩;have:(b.drop p).take (i+1)=(b.drop p).take i++[b[p+i]]:=by
    rw[List.take_succ_eq_append_getElem (by simp; omega)]; simp
   rw[this,Xaz]
  ·have h':i=8:=by simp at h'; omega
   subst h';refine Za rfl (Za rfl (Za (v:=iv p) (Zj h0 rfl) (Za (Xr ..) ?_)));rw[show IntKind.i64.wrap ((p:Int)+8)=((p+8:Nat):Int) from Q5 (c:=8) (by omega)];refine Za rfl (Za rfl (Xd (stv (row':=[byV b,iv (p+8:Nat),.bool f]) h0 rfl rfl rfl) (Zb _ (Qa h0)) (Za (Qk ..) ?_)));refine hK _ (p+8) f _ (KB.set _) ⟨Xc h0 (by simp),by omega⟩ ⟨λx h1 h2=>?_,λh1=>?_⟩
   ·rw[Yl h] at h2; cases h2;simp only at h1; subst h1;exact⟨rfl,rfl⟩
   ·rcases h1 with h1|h1
    ·exact h1
    ·rw[Yl h] at h1; cases h1
theorem count76{e:Nat}(he:e=1∨e=8){b:List UInt8}{p c:Nat}{f:Bool}{σ:List ABlk}{Z:PZ}{K:KT}(hc:R27 b p f c σ)(hlen:b.length≤1000000)
 (hK:∀n q f' τ,KB c σ τ→R27 b q f' c τ→Ag (XD e) (b.drop p,f) n (b.drop q,f')→(f'=true→n=0)→K (iv n) τ):(VV Z).call (.call 76) [.bptr c 0,iv e] σ K:=by
 refine Ze hP rfl k76.ok rfl ?_;show k76.u (VV Z) [.bptr c 0,iv e] σ K;rw[H2.e]; unfold k76; dsimp only; simp only[Yb];refine number45 hc hlen λv q f1 τ k1 r1 a1=>?_;obtain⟨r2,hq⟩:=id r1;have wrong:∀ {A:Prop},(K (iv 0) (τ.set c (.box [byV b,iv q,.bool true]))→A)→(f1=true∨v<0∨(((b.length-q)/e:Nat):Int)<v)→A:=by
  intro A h hw;refine h (hK 0 q true _ (k1.trans (KB.set _)) ⟨Xc r2 (by simp),hq⟩ ⟨λx h1 h2=>?_,λ_=>rfl⟩ (λ_=>rfl));unfold XD at h2;cases z:numO (b.drop p) with
  |none=>simp[z] at h2
  |some y=>
   obtain⟨rfl,e2⟩:=a1.1 y h1 z;have e3:y.2=b.drop q:=(congrArg Prod.fst e2).symm;have e4:f1=false:=congrArg Prod.snd e2;simp only[z,Option.bind_some] at h2;rw[e3,List.length_drop,YIP (by rcases hw with hw|hw; rw[e4] at hw; cases hw; exact hw)] at h2;cases h2
 have hl:=Qa r2;have hs:∀ {n:Nat},Zq .quo false [iv n,iv e] τ=.ok (iv (n/e:Nat)) [] []∨1000000000<n:=by
  intro n;rcases Nat.lt_or_ge 1000000000 n with z|z
  ·exact .inr z
  ·left;rcases he with rfl|rfl
   ·have:IntKind.i64.wrap ((n:Int).tdiv 1)=((n/1:Nat):Int):=by
     rw[Int.tdiv_one,Nat.div_one];exact IntWalk.i64_in _ (by omega)
    show SRes.ok (.int .i64 (IntKind.i64.wrap ((n:Int).tdiv 1))) [] []=_;rw[this]
   ·exact quo8 n z
 refine Za rfl (Za rfl (Za (v:=.bool f1) (Zj r2 rfl) ?_));cases f1
 case true=>exact aw (wrong (A:=_) (λh=>Xd (stv (row':=[byV b,iv q,.bool true]) r2 rfl rfl rfl) (Zb _ hl) h) (.inl rfl))
 refine Ya (Za rfl (Ya (Za (Qn ..) (Za rfl ?_))));cases hv:decide (v<0)
 case true=>exact aw (wrong (A:=_) (λh=>Xd (stv (row':=[byV b,iv q,.bool true]) r2 rfl rfl rfl) (Zb _ hl) h) (.inr (.inl (by simpa using hv))))
 refine Ya (Za rfl (Ya (Za rfl (Ya (Za rfl (Ya (Za rfl (Ya (Za (v:=byV b) (Zj r2 rfl) (Ya (Za (Qe ..) ?_)))))))))));refine Ya (Za rfl (Ya (Za rfl (Ya (Za rfl (Ya (Za (v:=iv q) (Zj r2 rfl) (Ya (Za (YaH ..) ?_)))))))));rw[Qam hq (by omega)];refine Ya (Za rfl (Ya (Za (hs.resolve_right (by omega)) (Ya (Za (ZW ..) (Za rfl (Zd (λh=>?_) (λh=>?_))))))))
 ·exact wrong (A:=_) (λh=>Za rfl (Za rfl (Xd (stv (row':=[byV b,iv q,.bool true]) r2 rfl rfl rfl) (Zb _ hl) h))) (.inr (.inr (by simpa using h)))
 ·have hn:¬(v<0∨(((b.length-q)/e:Nat):Int)<v):=by simp at h hv; omega
  obtain⟨g1,g2⟩:=a1.flag rfl;simp only at g1 g2;have hco:XD e (b.drop p)=some (v,b.drop q):=by
   unfold XD;rw[g2];simp only[Option.bind_some,List.length_drop];rw[YIN hn]
  exact hK v q false τ k1 r1 ⟨λx h1 h2=>by rw[hco] at h2; cases h2; exact⟨rfl,rfl⟩,λz=>by rcases z with z|z; simp only[g1] at z; cases z; rw[hco] at z; cases z⟩ (λh=>by cases h)
theorem text47{b:List UInt8}{p c:Nat}{f:Bool}{σ:List ABlk}{Z:PZ}{K:KT}(hc:R27 b p f c σ)(hlen:b.length≤1000000)
 (hK:∀t q f' τ,KB c σ τ→R27 b q f' c τ→Ag textO (b.drop p,f) t (b.drop q,f')→K (.str t) τ):(VV Z).call (.call 47) [.bptr c 0] σ K:=by
 refine Ze hP rfl k47.ok rfl ?_;show k47.u (VV Z) [.bptr c 0] σ K;rw[H1.e]; unfold k47; dsimp only; simp only[Yb];refine count76 (e:=1) (.inl rfl) hc hlen λn q f1 τ k1 r1 a1 hz=>?_;obtain⟨r2,hq⟩:=id r1;have hN:∃N:Nat,n=N∧q+N≤b.length:=by
  cases f1
  ·have:=X2 hq a1; rw[Nat.div_one] at this; exact⟨n.toNat,by omega,by omega⟩
  ·exact⟨0,hz rfl,by omega⟩
 obtain⟨N,rfl,hN⟩:=hN;refine Za rfl (Za rfl (Za (v:=byV b) (Zj r2 rfl) (Za rfl (Za rfl (Za (v:=iv q) (Zj r2 rfl) (Za rfl (Za rfl (Za (v:=iv q) (Zj r2 rfl) (Za (Xr ..) ?_)))))))));rw[Q5 (a:=q) (c:=N) (by omega)];have hs:∀(t:List UInt8) σ2,QA [byV t] σ2=.ok (.str t) [] []:=by
  intro t σ2;simp[QA,isSl,Qak,X1]
 refine Za (Qc9 false false b q N hN) (Za (hs _ _) (Za rfl (Za rfl (Za (v:=iv q) (Zj r2 rfl) (Za (Xr ..) ?_)))));rw[Q5 (a:=q) (c:=N) (by omega)];refine Za rfl (Za rfl (Xd (stv (row':=[byV b,iv (q+N:Nat),.bool f1]) r2 rfl rfl rfl) (Zb _ (Qa r2)) ?_));refine hK _ (q+N) f1 _ (k1.trans (KB.set _)) ⟨Xc r2 (by simp),hN⟩ (a1.text rfl (λ_=>?_));rw[Int.toNat_natCast];exact⟨rfl,by rw[List.drop_drop]⟩
theorem list48{b:List UInt8}{p c:Nat}{f:Bool}{σ:List ABlk}{Z:PZ}{K:KT}(hc:R27 b p f c σ)(hlen:b.length≤1000000)
 (hK:∀l v q f' τ,KB c σ τ→R27 b q f' c τ→Ag (listO 8 numO) (b.drop p,f) l (b.drop q,f')→OL l v τ→K v τ):(VV Z).call (.call 48) [.bptr c 0] σ K:=by
 refine Ze hP rfl k48.ok rfl ?_;show k48.u (VV Z) [.bptr c 0] σ K;rw[H1.e]; unfold k48; dsimp only; simp only[Yb];refine count76 (e:=8) (.inr rfl) hc hlen λn q f1 τ0 k1 r1 a1 hz=>?_;obtain⟨r2,r3⟩:=id r1;obtain⟨N,rfl⟩:∃N:Nat,n=N:=by
  cases f1
  ·have:=X2 r3 a1; exact⟨n.toNat,by omega⟩
  ·exact⟨0,hz rfl⟩
 have hroom:f1=false→q+8*N≤b.length:=by
  rintro rfl;have:=X2 r3 a1; omega
 have hz:f1=true→N=0:=λe=>by have:=hz e; omega
 refine Xp (ι:=Nat) (λi vs τ=>∃v,vs=[iv i,v]∧i≤N∧KB c σ τ∧R27 b (q+8*i) f1 c τ∧OL (nums8 b q i) v τ∧∀d o n e,v=.sl d o n e→hget σ d=.dead) (λi=>N-i) 0 ⟨.nils,rfl,by omega,k1,r1,.inl ⟨rfl,rfl⟩,λ_ _ _ _ e=>by cases e⟩ ?_;rintro i vs τ again ⟨v,rfl,hi,hk,hr,hg,hd⟩ hag;refine Za (Qn ..) (Zd (λh'=>?_) (λh'=>?_))
 ·have h':i<N:=by simp at h'; omega
  have hf1:f1=false:=by
   cases f1
   ·rfl
   ·have:=hz rfl; omega
  subst hf1;have hroom:=hroom rfl;obtain⟨s2,s3⟩:=id hr;refine number45 hr hlen λw q2 f2 τ2 k2 r5 a2=>?_;obtain⟨rfl,e2⟩:=a2.1 _ rfl (Yl (by omega));obtain⟨t2,t3⟩:=id r5;have e3:f2=false:=congrArg Prod.snd e2;have e4:q2=q+8*i+8:=Ybd t3 (by omega) (congrArg Prod.fst e2);subst e3 e4;simp only;have hnb:∀b' o n e,v=.sl b' o n e→b'≠c∧hget τ b'≠.dead:=by
   rintro b' o n e rfl;rcases hg with ⟨z,_⟩|⟨b'',ex,z,hb⟩
   ·cases z
   ·cases z;refine⟨?_,by rw[hb]; simp⟩;rintro rfl;rw[s2] at hb; cases hb
  have hg2:OL (nums8 b q i) v τ2:=hg.stay (λd ⟨y,e⟩=>k2.2 d (by rintro rfl; rw[s2] at e; cases e) (by rw[e]; simp));refine Xd (v:=.sl τ2.length 0 1 true) (rd:=[]) (up:=[(τ2.length,.rows 1 [cel (nat8 b (q+8*i) 0)])]) rfl (Yi _ _) ?_;obtain⟨v',up,σ4,e1,e2,e3,e4,e5⟩:=(hg2.more [.rows 1 [cel (nat8 b (q+8*i) 0)]]).upd (m:=[nat8 b (q+8*i) 0]) (y:=.sl τ2.length 0 1 true) (rd:=[τ2.length]) (ZJ (Zc _ _) rfl) (by rw[ZN]; simp; omega);refine Xd e1 e2 (Za (Xr ..) ?_);rw[Zh (n:=i) (by omega)];have hkeep:∀d,hget τ2 d≠.dead→(∀o n e,v≠.sl d o n e)→hget σ4 d=hget τ2 d:=λd hn hv=>e3.more.2 d hn hv;have hk2:=hk.trans k2;refine hag (i+1) _ _ (by omega) ⟨v',rfl,by omega,⟨Nat.le_trans hk2.1 e3.more.1,λd h1 h2=>?_⟩,⟨?_,by omega⟩,?_,λb' o n e z=>?_⟩
  ·have z:=hk2.2 d h1 h2;rw[hkeep d (by rw[z]; exact h2) (λo n e w=>h2 (hd _ _ _ _ w)),z]
  ·rw[hkeep c (by rw[t2]; simp) (λo n e w=>(hnb _ _ _ _ w).1 rfl)];rw[show q+8*(i+1)=q+8*i+8 by omega]; exact t2
  ·rw[Xaf];exact e4
  ·rw[e5] at z;cases z;have hx:σ.length≤τ2.length+1:=by have:=hk2.1; omega
   rw[List.length_append];show hget σ (τ2.length+1)=_;exact Yaf hx
 ·have h':i=N:=by simp at h'; omega
  subst h';refine hK _ v _ f1 τ hk hr (a1.list rfl (λe=>?_)) hg;simp only at e ⊢;rw[Int.toNat_natCast];exact QaK i b q (hroom e)
theorem YcU{u:UInt8}{r:List UInt8}{g:Int}{y:Bg}{q:Nat}{f:Bool}(hk:ki u=1)(A:Ag (seqR numO begO) (r,false) (g,y) ((u::r).drop q,f)):readO (u::r)=tellO f ((u::r).length-q) (begD (ki u) g y):=by
 have e:readO (u::r)=(seqR numO begO r).bind λz=>if z.2=[]∧mayD (begD (ki u) z.1.1 z.1.2)=true then some (begD (ki u) z.1.1 z.1.2) else none:=by
  unfold readO seqR;simp only[YIP hk];cases numO r with
  |none=>rfl
  |some g=>
   simp only[Option.bind_some];cases begO g.2 with
   |none=>rfl
   |some y=>rfl
 rw[e];cases f with
 |false=>
  obtain⟨_,k⟩:=A.flag rfl;rw[k];simp only[Option.bind_some,tellO,true_and,List.drop_eq_nil_iff,Nat.sub_eq_zero_iff_le]
 |true=>
  rw[tellO,YIN (λh=>by cases h.1)];cases hz:seqR numO begO r with
  |none=>rfl
  |some z=>have:=congrArg Prod.snd (A.1 z rfl hz).2; simp at this
theorem ZcU{u:UInt8}{r:List UInt8}{g:Int}{a:Ac}{p:Nat}(hk:ki u=2)(A:Ag numO (r,false) g ((u::r).drop p,false))(h:actO ((u::r).drop p)=some (a,[])):readO (u::r)=tellO false 0 (actD (ki u) g a):=by
 obtain⟨_,k⟩:=A.flag rfl;simp only at k;unfold readO tellO;simp only[YIN (show ¬ki u=1 by omega),YIP hk,k,Option.bind_some,h,true_and]
theorem Ybz{u:UInt8}{r:List UInt8}{g:Int}{p:Nat}{f:Bool}(hk:ki u=2)(A:Ag numO (r,false) g ((u::r).drop p,f))(h:f=false→∀a,actO ((u::r).drop p)≠some (a,[]))(n:Nat)(x:De):readO (u::r)=tellO true n x:=by
 unfold readO tellO;simp only[YIN (show ¬ki u=1 by omega),YIP hk];rw[YIN (λh=>by cases h.1)];cases f with
 |false=>
  obtain⟨_,k⟩:=A.flag rfl;simp only at k;simp only[k,Option.bind_some];cases h2:actO ((u::r).drop p) with
  |none=>rfl
  |some y=>
   simp only[Option.bind_some];rw[YIN];rintro⟨h3,_⟩;exact h rfl y.1 (by rw[h2,←h3])
 |true=>
  cases hz:numO r with
  |none=>rfl
  |some z=>have:=congrArg Prod.snd (A.1 z rfl hz).2; simp at this
theorem Zbm{r r':List UInt8}{g:Int}{y:Bg}(h:seqR numO begO r=some ((g,y),r')):y.2.2.2.2.1.length≤r.length∧y.2.2.2.2.2.1.length≤r.length∧y.2.2.2.2.2.2.length≤r.length:=by
 have:=((Xm.seq Qbl).back _ _ _ h).2;have:=congrArg List.length this;simp only[List.length_append,XZ] at this;omega
theorem Qcg{r r':List UInt8}{a:Ac}(h:actO r=some (a,r')):a.ids.length≤r.length∧a.prs.length≤r.length:=by
 have:=(ZaM.back _ _ _ h).2;have:=congrArg List.length this;simp only[List.length_append,Qao] at this;omega
def recV(x:De)(v0 v1 v2 v3 v4:AVal):List AVal:=[iv8 x.kind,iv x.game,iv x.table,.str x.fmt,.str x.n0,.str x.n1,v0,v1,v2,iv8 x.ac.op,iv x.ac.side,iv x.ac.place,iv x.ac.target,v3,v4]
structure In23 (b:List UInt8) (x:De) (v0 v1 v2 v3 v4:AVal) (p:Nat) (f:Bool) (τ:List ABlk):Prop where
 z:hget τ 0=.box zDe
 c:hget τ 2=.box (recV x v0 v1 v2 v3 v4)
 r:R27 b p f 1 τ
 o0:OL x.d0 v0 τ
 o1:OL x.d1 v1 τ
 o2:OL x.dr v2 τ
 o3:OL x.ac.ids v3 τ
 o4:OP x.ac.prs v4 τ
theorem In23.kb{b:List UInt8}{x:De}{v0 v1 v2 v3 v4:AVal}{p q:Nat}{f g:Bool}{τ υ:List ABlk}(h:In23 b x v0 v1 v2 v3 v4 p f τ)(k:KB 1 τ υ)(r:R27 b q g 1 υ):In23 b x v0 v1 v2 v3 v4 q g υ:=by
 have h1:=h.r.1;have st:∀(m d:Nat),(∃y,hget τ d=.rows m y)→hget υ d=hget τ d:=λm d ⟨y,e⟩=>k.2 d (by rintro rfl; rw[h1] at e; cases e) (by rw[e]; simp);exact⟨by rw[k.2 0 (by simp) (by rw[h.z]; simp)]; exact h.z,by rw[k.2 2 (by simp) (by rw[h.c]; simp)]; exact h.c,r,h.o0.stay (st 1),h.o1.stay (st 1),h.o2.stay (st 1),h.o3.stay (st 1),h.o4.stay (st 2)⟩
theorem In23.put{b:List UInt8}{x x':De}{v0 v1 v2 v3 v4 w0 w1 w2 w3 w4:AVal}{p:Nat}{f:Bool}{τ:List ABlk}(h:In23 b x v0 v1 v2 v3 v4 p f τ)(k0:OL x'.d0 w0 τ)(k1:OL x'.d1 w1 τ)(k2:OL x'.dr w2 τ)(k3:OL x'.ac.ids w3 τ)(k4:OP x'.ac.prs w4 τ) :
  In23 b x' w0 w1 w2 w3 w4 p f (τ.set 2 (.box (recV x' w0 w1 w2 w3 w4))):=by
 have hc:=h.c;have st:∀(y:ABlk) (m d:Nat),(∃y,hget τ d=.rows m y)→hget (τ.set 2 y) d=hget τ d:=λy m d ⟨y,e⟩=>Yc (by rintro rfl; rw[hc] at e; cases e);exact⟨by rw[Yc (by simp)]; exact h.z,Xc h.c (by simp),⟨by rw[Yc (by simp)]; exact h.r.1,h.r.2⟩,k0.stay (st _ 1),k1.stay (st _ 1),k2.stay (st _ 1),k3.stay (st _ 1),k4.stay (st _ 2)⟩
theorem In23.own{b:List UInt8}{x:De}{v0 v1 v2 v3 v4:AVal}{p q:Nat}{f g:Bool}{τ:List ABlk}(h:In23 b x v0 v1 v2 v3 v4 p f τ)(hq:q≤b.length):In23 b x v0 v1 v2 v3 v4 q g (τ.set 1 (.box [byV b,iv q,.bool g])):=
 h.kb (KB.set _) ⟨Xc h.r.1 (by simp),hq⟩
theorem In23.ks{b:List UInt8}{x:De}{v0 v1 v2 v3 v4:AVal}{p:Nat}{f:Bool}{τ υ:List ABlk}(h:In23 b x v0 v1 v2 v3 v4 p f τ)(k:KS τ υ):In23 b x v0 v1 v2 v3 v4 p f υ:=by
 have h1:=h.r.1;have st:∀(m d:Nat),(∃y,hget τ d=.rows m y)→hget υ d=hget τ d:=λm d ⟨y,e⟩=>k.2 d (by rw[e]; simp);exact⟨by rw[k.2 0 (by rw[h.z]; simp)]; exact h.z,by rw[k.2 2 (by rw[h.c]; simp)]; exact h.c,⟨by rw[k.2 1 (by rw[h1]; simp)]; exact h1,h.r.2⟩,h.o0.stay (st 1),h.o1.stay (st 1),h.o2.stay (st 1),h.o3.stay (st 1),h.o4.stay (st 2)⟩
theorem In23.od{b:List UInt8}{x:De}{v0 v1 v2 v3 v4:AVal}{p:Nat}{f:Bool}{τ:List ABlk}(h:In23 b x v0 v1 v2 v3 v4 p f τ):OD x (recV x v0 v1 v2 v3 v4) τ:=⟨v0,v1,v2,v3,v4,rfl,h.o0,h.o1,h.o2,h.o3,h.o4⟩
def T23a(u:UInt8)(r:List UInt8)(vs:List AVal)(τ:List ABlk):Prop:=vs=[]∧∃g a v3 v4 p f,In23 (u::r) (actD (ki u) g a) .nils .nils .nils v3 v4 p f τ∧(ki u=1→a=zAc∧Ag numO (r,false) g ((u::r).drop p,f)) ∧
 (ki u≠1→readO (u::r)=tellO f ((u::r).length-p) (actD (ki u) g a)∧(f=false→a.ids.length≤1000000∧a.prs.length≤1000000))
def T23b(b:List UInt8)(vs:List AVal)(τ:List ABlk):Prop:=vs=[]∧∃x v0 v1 v2 v3 v4 p f,In23 b x v0 v1 v2 v3 v4 p f τ∧(f=false→DeLe 1000000000 x)∧readO b=tellO f (b.length-p) x
theorem KS.refl(σ:List ABlk):KS σ σ:=⟨Nat.le_refl _,λ_ _=>rfl⟩
theorem c23(b:List UInt8)(hlen:b.length≤1000000):PC 23 [byV b] (resV (readO b)):=by
 refine Xn hP k23.ok rfl ?_;rw[H1.e]; unfold k23; dsimp only; simp only[Yb,Qo,Qh];refine Xd (v:=.bptr 0 0) (rd:=[]) (up:=[(0,.box zDe)]) rfl rfl (Za (Qe ..) (Za (Qn ..) ?_));cases b with
 |nil=>exact Zd (λ_=>Za rfl (Xd rfl rfl (YS rfl ⟨[],Bor.ro rfl⟩))) (λh=>by simp at h)
 |cons u r=>
  refine Zd (λh=>by simp at h; omega) (λ_=>?_);refine Za rfl (Xd (v:=.bptr 1 0) (rd:=[]) (up:=[(1,.box [byV (u::r),iv 1,.bool false])]) rfl rfl ?_);refine Za (v:=.rptr (byC u) 0) rfl (Za (v:=.int .u8 (u.toNat:Int)) rfl (Za (v:=iv8 (ki u)) rfl ?_));refine Za (v:=.agg (recV (actD (ki u) 0 zAc) .nils .nils .nils .nils .nils)) rfl ?_;refine Xd (v:=.bptr 2 0) (rd:=[]) (up:=[(2,.box zDe)]) rfl (σ':=[.box zDe,.box [byV (u::r),iv 1,.bool false],.box zDe]) rfl ?_;refine Xd (v:=.junk) (rd:=[]) (up:=[(2,.box (recV (actD (ki u) 0 zAc) .nils .nils .nils .nils .nils))]) rfl (σ':=[.box zDe,.box [byV (u::r),iv 1,.bool false],.box (recV (actD (ki u) 0 zAc) .nils .nils .nils .nils .nils)]) rfl ?_;have i0:In23 (u::r) (actD (ki u) 0 zAc) .nils .nils .nils .nils .nils 1 false [.box zDe,.box [byV (u::r),iv 1,.bool false],.box (recV (actD (ki u) 0 zAc) .nils .nils .nils .nils .nils)]:=⟨rfl,rfl,⟨rfl,by simp⟩,.inl ⟨rfl,rfl⟩,.inl ⟨rfl,rfl⟩,.inl ⟨rfl,rfl⟩,.inl ⟨rfl,rfl⟩,.inl ⟨rfl,rfl⟩⟩;generalize [ABlk.box zDe,.box [byV (u::r),iv 1,.bool false],.box (recV (actD (ki u) 0 zAc) .nils .nils .nils .nils .nils)]=τ0 at i0;refine number45 i0.r hlen λg p f τ1 k r1 a1=>?_;have i1:=i0.kb k r1;clear i0 k r1;have a1:Ag numO (r,false) g ((u::r).drop p,f):=a1;refine Za rfl (Xd (stv (row':=recV (actD (ki u) g zAc) .nils .nils .nils .nils .nils) i1.c rfl rfl rfl) (Zb _ (Qa i1.c)) ?_);have i1:=i1.put (x':=actD (ki u) g zAc) i1.o0 i1.o1 i1.o2 i1.o3 i1.o4;generalize τ1.set 2 (.box (recV (actD (ki u) g zAc) .nils .nils .nils .nils .nils))=τ2 at i1;refine Za rfl (Za (v:=iv8 (ki u)) (Zj i1.c rfl) (Za (YB ..) ?_));refine Qax (v4:=.bool f) (λ_=>rfl) (λ_=>rfl) (λ_=>rfl) (λ_=>Zj i1.r.1 rfl) (λ_=>X6 ..) ?_;refine ZV (T23a u r) (λvs τ hT=>?_) (λk' hk'=>?_)
  ·clear i1 a1;obtain⟨rfl,g,a,v3,v4,p,f,i,h1,h2⟩:=hT;refine Za rfl (Za (v:=iv8 (ki u)) (Zj i.c rfl) (Za (YB ..) ?_));refine ZV (T23b (u::r)) (λvs τ hT=>?_) (λk' hk'=>?_)
   ·
    clear i h1 h2;obtain⟨rfl,x,v0,v1,v2,v3,v4,p,f,i,hle,hr⟩:=hT;rw[hr];obtain⟨rb,hpl⟩:=i.r;have h0:=i.z;have hno:tellO f ((u::r).length-p) x=none→∃rd,Bor (Go.Ah.hp (τ.set 0 (.box zDe))) rd (.tup [.agg zDe,iv 2]) (resV (tellO f ((u::r).length-p) x)):=λe=>by rw[e]; exact⟨[],Bor.ro rfl⟩
    have h0l:=Qa h0;have hcv:∀cs,hget (τ.set 0 (.box cs)) 0=.box cs:=λcs=>Xc h0 (by simp);have hc0:cellV true 15 (.bptr 0 0) (τ.set 0 (.box zDe))=some (.agg zDe):=by simp only[cellV,hcv]; rfl
    refine Za rfl (Za rfl (Za (v:=.bool f) (Zj rb rfl) ?_));cases f
    case true=>exact aw (Xd (stv (row':=zDe) h0 rfl rfl rfl) (Zb _ h0l) (YS hc0 (hno (by simp[tellO]))))
    refine Ya (Za rfl (Ya (Za rfl (Ya (Za rfl (Ya (Za (v:=iv p) (Zj rb rfl) (Ya (Za rfl (Ya (Za (Qe ..) (Ya (Za (Qaz ..) (Za rfl ?_))))))))))))));cases hn:decide ((p:Int)≠((u::r).length:Int))
    case true=>exact aw (Xd (stv (row':=zDe) h0 rfl rfl rfl) (Zb _ h0l) (YS hc0 (hno (by simp only[YDE] at hn; rw[tellO,YIN (by omega)]))))
    have hn:(u::r).length-p=0:=by simp only[YDN] at hn; omega
    rw[hn] at hno ⊢;obtain⟨rd,hbor⟩:=i.od.bor;have hld:Zg true 15 [.bptr 2 0] τ=.ok (.agg (recV x v0 v1 v2 v3 v4)) [2] []:=Zj i.c rfl;refine Ya (Za hld (ZM (ZaJ (c35 x (hle rfl)) rfl k35.ok.plain (.cons hbor .nil) rfl (Ya (Za (X6 ..) (Za rfl ?_))))));cases hm:mayD x
    ·exact Xi (Za rfl (Xd (stv (row':=zDe) h0 rfl rfl rfl) (Zb _ h0l) (YS hc0 (hno (by simp[tellO,hm])))))
    ·refine Qf (Za hld (Xd (stv (cs:=recV x v0 v1 v2 v3 v4) (row':=recV x v0 v1 v2 v3 v4) h0 i.od.cells rfl rfl) (Zb _ h0l) (YS (v:=.agg (recV x v0 v1 v2 v3 v4)) ?_ ?_)))
     ·simp only[cellV,hcv]; rfl
     ·have hst:∀(m d:Nat),(∃y,hget τ d=.rows m y)→hget (τ.set 0 (.box (recV x v0 v1 v2 v3 v4))) d=hget τ d:=λm d ⟨y,e⟩=>Yc (by rintro rfl; rw[h0] at e; cases e);have hod':OD x (recV x v0 v1 v2 v3 v4) (τ.set 0 (.box (recV x v0 v1 v2 v3 v4))):=⟨v0,v1,v2,v3,v4,rfl,i.o0.stay (hst 1),i.o1.stay (hst 1),i.o2.stay (hst 1),i.o3.stay (hst 1),i.o4.stay (hst 2)⟩;obtain⟨rd',hbor'⟩:=hod'.bor;have ht:tellO false 0 x=some x:=by simp[tellO,hm]
      rw[ht];exact⟨rd',Bor.tup (.cons hbor' (BorL.ro rfl))⟩
   ·refine Zd (λh=>?_) (λh=>?_)
    ·
     have hk1:ki u=1:=by simpa using h
     obtain⟨rfl,a0⟩:=h1 hk1;clear h1 h2;refine number45 i.r hlen λw p1 f1 τ1 k r1 a1=>?_;have i:=i.kb k r1;refine Za rfl (Xd (stv (row':=recV ⟨ki u,g,w,[],[],[],[],[],[],zAc⟩ .nils .nils .nils v3 v4) i.c rfl rfl rfl) (Zb _ (Qa i.c)) ?_);have i:=i.put (x':=⟨ki u,g,w,[],[],[],[],[],[],zAc⟩) i.o0 i.o1 i.o2 i.o3 i.o4;clear k r1;generalize τ1.set 2 (.box (recV ⟨ki u,g,w,[],[],[],[],[],[],zAc⟩ .nils .nils .nils v3 v4))=τ1' at i;refine text47 i.r hlen λt1 p2 f2 τ2 k r1 a2=>?_;have i:=i.kb k r1;refine Za rfl (Xd (stv (row':=recV ⟨ki u,g,w,t1,[],[],[],[],[],zAc⟩ .nils .nils .nils v3 v4) i.c rfl rfl rfl) (Zb _ (Qa i.c)) ?_);have i:=i.put (x':=⟨ki u,g,w,t1,[],[],[],[],[],zAc⟩) i.o0 i.o1 i.o2 i.o3 i.o4;clear k r1;generalize τ2.set 2 (.box (recV ⟨ki u,g,w,t1,[],[],[],[],[],zAc⟩ .nils .nils .nils v3 v4))=τ2' at i;refine Qac 3 (Ys (Za rfl (Xi ?_)));refine text47 i.r hlen λt2 p3 f3 τ3 k r1 a3=>?_;have i:=i.kb k r1;refine Za rfl (Za rfl (Xd (stv (row':=recV ⟨ki u,g,w,t1,t2,[],[],[],[],zAc⟩ .nils .nils .nils v3 v4) i.c rfl rfl rfl) (Zb _ (Qa i.c)) (Za rfl ?_)));have i:=i.put (x':=⟨ki u,g,w,t1,t2,[],[],[],[],zAc⟩) i.o0 i.o1 i.o2 i.o3 i.o4;clear k r1;generalize τ3.set 2 (.box (recV ⟨ki u,g,w,t1,t2,[],[],[],[],zAc⟩ .nils .nils .nils v3 v4))=τ3' at i;refine Ys (Za rfl (Xi ?_));refine text47 i.r hlen λt3 p4 f4 τ4 k r1 a4=>?_;have i:=i.kb k r1;refine Za rfl (Za rfl (Xd (stv (row':=recV ⟨ki u,g,w,t1,t2,t3,[],[],[],zAc⟩ .nils .nils .nils v3 v4) i.c rfl rfl rfl) (Zb _ (Qa i.c)) (Za rfl ?_)));have i:=i.put (x':=⟨ki u,g,w,t1,t2,t3,[],[],[],zAc⟩) i.o0 i.o1 i.o2 i.o3 i.o4;clear k r1;generalize τ4.set 2 (.box (recV ⟨ki u,g,w,t1,t2,t3,[],[],[],zAc⟩ .nils .nils .nils v3 v4))=τ4' at i;refine Ys (Za rfl (Qf ?_));refine Qac 3 (Ys (Za rfl (Xi ?_)));refine list48 i.r hlen λl1 w1 p5 f5 τ5 k r1 a5 o5=>?_;have i:=i.kb k r1;refine Za rfl (Za rfl (Xd (stv (row':=recV ⟨ki u,g,w,t1,t2,t3,l1,[],[],zAc⟩ w1 .nils .nils v3 v4) i.c o5.cell rfl rfl) (Zb _ (Qa i.c)) (Za rfl ?_)));have i:=i.put (x':=⟨ki u,g,w,t1,t2,t3,l1,[],[],zAc⟩) o5 i.o1 i.o2 i.o3 i.o4;clear k r1 o5;generalize τ5.set 2 (.box (recV ⟨ki u,g,w,t1,t2,t3,l1,[],[],zAc⟩ w1 .nils .nils v3 v4))=τ5' at i;refine Ys (Za rfl (Xi ?_));refine list48 i.r hlen λl2 w2 p6 f6 τ6 k r1 a6 o6=>?_;have i:=i.kb k r1;refine Za rfl (Za rfl (Xd (stv (row':=recV ⟨ki u,g,w,t1,t2,t3,l1,l2,[],zAc⟩ w1 w2 .nils v3 v4) i.c o6.cell rfl rfl) (Zb _ (Qa i.c)) (Za rfl ?_)));have i:=i.put (x':=⟨ki u,g,w,t1,t2,t3,l1,l2,[],zAc⟩) i.o0 o6 i.o2 i.o3 i.o4;clear k r1 o6;generalize τ6.set 2 (.box (recV ⟨ki u,g,w,t1,t2,t3,l1,l2,[],zAc⟩ w1 w2 .nils v3 v4))=τ6' at i;refine Ys (Za rfl (Qf ?_));refine list48 i.r hlen λl3 w3 p7 f7 τ7 k r1 a7 o7=>?_;have i:=i.kb k r1;refine Za rfl (Xd (stv (row':=recV ⟨ki u,g,w,t1,t2,t3,l1,l2,l3,zAc⟩ w1 w2 w3 v3 v4) i.c o7.cell rfl rfl) (Zb _ (Qa i.c)) ?_);have i:=i.put (x':=⟨ki u,g,w,t1,t2,t3,l1,l2,l3,zAc⟩) i.o0 i.o1 o7 i.o3 i.o4;clear k r1 o7;generalize τ7.set 2 (.box (recV ⟨ki u,g,w,t1,t2,t3,l1,l2,l3,zAc⟩ w1 w2 w3 v3 v4))=τ7' at i;have A:Ag (seqR numO begO) (r,false) (g,(w,t1,t2,t3,l1,l2,l3)) ((u::r).drop p7,f7):=a0.seq (a1.seq (a2.seq (a3.seq (a4.seq (a5.seq (a6.seq a7))))));refine hk' _ _ ⟨rfl,_,_,_,_,_,_,_,_,i,λhf=>?_,YcU hk1 A⟩;subst hf;obtain⟨_,hz⟩:=A.flag rfl;obtain⟨m1,m2,m3⟩:=Zbm hz;simp only[List.length_cons] at hlen m1 m2 m3;exact⟨by simp only; omega,by simp only; omega,by simp only; omega,by simp[zAc],by simp[zAc]⟩
    ·have hk1:ki u≠1:=by simpa using h
     obtain⟨h3,h4⟩:=h2 hk1;refine hk' _ _ ⟨rfl,_,_,_,_,_,_,_,_,i,λhf=>?_,h3⟩;obtain⟨m1,m2⟩:=h4 hf;exact⟨by simp[actD],by simp[actD],by simp[actD],by simp only[actD]; omega,by simp only[actD]; omega⟩
  ·refine Zd (λh=>?_) (λh=>?_)
   ·
    simp only[Bool.and_eq_true,YDE,Bool.not_eq_true'] at h;obtain⟨hk2,rfl⟩:=h;have hp:=i1.r.2;refine Za rfl (Za rfl (Za (v:=iv p) (Zj i1.r.1 rfl) (Za (Xbl false false (u::r) p hp) ?_)));refine read46 (b:=(u::r).drop p) (by rw[List.length_drop]; omega) (λx v w τ hx hks hol hop=>?_) (λhno q τ hks=>?_)
    ·have i:=i1.ks hks;have hcs:cellsOf (.agg [iv8 x.op,iv x.side,iv x.place,iv x.target,v,w])=some [iv8 x.op,iv x.side,iv x.place,iv x.target,v,w]:=by
      rcases hol with ⟨rfl,_⟩|⟨d,ex,rfl,_⟩<;>rcases hop with ⟨rfl,_⟩|⟨d',ex',rfl,_⟩<;>rfl
     refine Za rfl (Za rfl (Za rfl (Xd (Yz τ _) (Yi _ _) (Xd (stv (cs:=[iv8 x.op,iv x.side,iv x.place,iv x.target,v,w]) (row':=[iv8 x.op,iv x.side,iv x.place,iv x.target,v,w]) (Zc _ _) hcs rfl rfl) (Zb _ (by simp)) ?_))));have hK:KS τ ((τ++[ABlk.box zC]).set τ.length (.box [iv8 x.op,iv x.side,iv x.place,iv x.target,v,w])):=((KS.refl τ).add _).set (Nat.le_refl _) _;have hn:hget ((τ++[ABlk.box zC]).set τ.length (.box [iv8 x.op,iv x.side,iv x.place,iv x.target,v,w])) τ.length=.box [iv8 x.op,iv x.side,iv x.place,iv x.target,v,w]:=Xc (Zc _ _) (by simp);have i:=i.ks hK;have hol:=hol.stay (λd ⟨y,e⟩=>hK.2 d (by rw[e]; simp));have hop:=hop.stay (λd ⟨y,e⟩=>hK.2 d (by rw[e]; simp));clear hK i1 hks;generalize (τ++[ABlk.box zC]).set τ.length (.box [iv8 x.op,iv x.side,iv x.place,iv x.target,v,w])=τ3 at hn i hol hop;refine Za (v:=.agg [iv8 x.op,iv x.side,iv x.place,iv x.target,v,w]) (Zj hn rfl) (Za rfl (Xd (stv (cs:=[iv8 x.op,iv x.side,iv x.place,iv x.target,v,w]) (row':=recV (actD (ki u) g x) .nils .nils .nils v w) i.c hcs rfl rfl) (Zb _ (Qa i.c)) ?_));have i:=i.put (x':=actD (ki u) g x) i.o0 i.o1 i.o2 hol hop;clear hn hol hop;generalize τ3.set 2 (.box (recV (actD (ki u) g x) .nils .nils .nils v w))=τ4 at i;refine Za (v:=.bool false) rfl (Za rfl (Za rfl (Xd (stv (row':=[byV (u::r),iv p,.bool false]) i.r.1 rfl rfl rfl) (Zb _ (Qa i.r.1)) ?_)));have i:=i.own (g:=false) hp;generalize τ4.set 1 (.box [byV (u::r),iv p,.bool false])=τ5 at i;refine Za (Qe ..) (Za rfl (Za rfl (Xd (stv (row':=[byV (u::r),iv (u::r).length,.bool false]) i.r.1 rfl rfl rfl) (Zb _ (Qa i.r.1)) ?_)));have i:=i.own (g:=false) (Nat.le_refl (u::r).length);refine hk' _ _ ⟨rfl,g,x,v,w,(u::r).length,false,i,λe=>by omega,λ_=>⟨by rw[Nat.sub_self]; exact ZcU hk2 a1 hx,λ_=>?_⟩⟩;have:=Qcg hx;rw[List.length_drop] at this;omega
    ·have i:=i1.ks hks;refine Za rfl (Za rfl (Za rfl (Xd (Yz τ _) (Yi _ _) (Xd (stv (cs:=zC) (row':=zC) (Zc _ _) rfl rfl rfl) (Zb _ (by simp)) ?_))));have hK:KS τ ((τ++[ABlk.box zC]).set τ.length (.box zC)):=((KS.refl τ).add _).set (Nat.le_refl _) _;have hn:hget ((τ++[ABlk.box zC]).set τ.length (.box zC)) τ.length=.box zC:=Xc (Zc _ _) (by simp);have i:=i.ks hK;clear hK i1 hks;generalize (τ++[ABlk.box zC]).set τ.length (.box zC)=τ3 at hn i;refine Za (v:=.agg zC) (Zj hn rfl) (Za rfl (Xd (stv (cs:=zC) (row':=recV (actD (ki u) g zAc) .nils .nils .nils .nils .nils) i.c rfl rfl rfl) (Zb _ (Qa i.c)) ?_));have i:=i.put (x':=actD (ki u) g zAc) (w3:=.nils) (w4:=.nils) i.o0 i.o1 i.o2 (.inl ⟨rfl,rfl⟩) (.inl ⟨rfl,rfl⟩);clear hn;generalize τ3.set 2 (.box (recV (actD (ki u) g zAc) .nils .nils .nils .nils .nils))=τ4 at i;refine Za (v:=.bool true) rfl (Za rfl (Za rfl (Xd (stv (row':=[byV (u::r),iv p,.bool true]) i.r.1 rfl rfl rfl) (Zb _ (Qa i.r.1)) ?_)));have i:=i.own (g:=true) hp;generalize τ4.set 1 (.box [byV (u::r),iv p,.bool true])=τ5 at i;refine Za (Qe ..) (Za rfl (Za rfl (Xd (stv (row':=[byV (u::r),iv (u::r).length,.bool true]) i.r.1 rfl rfl rfl) (Zb _ (Qa i.r.1)) ?_)));have i:=i.own (g:=true) (Nat.le_refl (u::r).length);exact hk' _ _ ⟨rfl,g,zAc,.nils,.nils,(u::r).length,true,i,λe=>by omega,λ_=>⟨Ybz hk2 a1 (λ_=>hno) _ _,λe=>by cases e⟩⟩
   ·refine hk' _ _ ⟨rfl,g,zAc,.nils,.nils,p,f,i1,λ_=>⟨rfl,a1⟩,λhk1=>⟨?_,λ_=>by simp[zAc]⟩⟩;by_cases hk2:ki u=2
    ·have hf:f=true:=by
      cases f
      ·simp[hk2] at h
      ·rfl
     subst hf;exact Ybz hk2 a1 (λe=>by cases e) _ _
    ·exact QbU u r hk1 hk2 _ _ _ rfl
theorem Zcw{b:List UInt8}{x:De}(h:readO b=some x):DeLe b.length x:=by
 unfold readO at h;split at h
 ·cases h
 ·rename_i u r;cases h1:numO r with
  |none=>simp[h1] at h
  |some g=>
   simp only[h1,Option.bind_some] at h;split at h
   ·cases h2:begO g.2 with
    |none=>simp[h2] at h
    |some y=>
     simp only[h2,Option.bind_some] at h;split at h
     ·cases h;have hz:seqR numO begO r=some ((g.1,y.1),y.2):=by simp[seqR,h1,h2]
      obtain⟨m1,m2,m3⟩:=Zbm hz;exact⟨by simp only[begD,List.length_cons]; omega,by simp only[begD,List.length_cons]; omega,by simp only[begD,List.length_cons]; omega,by simp[begD,zAc],by simp[begD,zAc]⟩
     ·cases h
   ·split at h
    ·cases h2:actO g.2 with
     |none=>simp[h2] at h
     |some y=>
      simp only[h2,Option.bind_some] at h;split at h
      ·cases h;have hz:seqR numO actO r=some ((g.1,y.1),y.2):=by simp[seqR,h1,h2]
       have:=congrArg List.length ((Xm.seq ZaM).back _ _ _ hz).2;simp only[List.length_append,Qao] at this;exact⟨by simp[actD],by simp[actD],by simp[actD],by simp only[actD,List.length_cons]; omega,by simp only[actD,List.length_cons]; omega⟩
      ·cases h
    ·cases h
theorem DeLe.mono{m n:Nat}{x:De}(h:DeLe m x)(hm:m≤n):DeLe n x:=⟨Nat.le_trans h.d0 hm,Nat.le_trans h.d1 hm,Nat.le_trans h.dr hm,Nat.le_trans h.ids hm,Nat.le_trans h.prs hm⟩
theorem c10(b:List UInt8)(hlen:b.length≤1000000):PC 10 [byV b] (resA (archF b)):=by
 refine Xn hP k10.ok rfl ?_;rw[H1.e]; unfold k10; dsimp only; simp only[Yb,Qo,Qh];refine Xp (ι:=Nat×List De) (λi vs σ=>∃v,vs=[iv i.1,v]∧i.1≤b.length∧DL i.2 v σ∧archF b=(archF (b.drop i.1)).map (i.2 ++ ·)∧i.2.length≤i.1∧∀x∈i.2,DeLe 1000000000 x) (λi=>b.length-i.1) (0,[]) ⟨.nils,rfl,by simp,.inl ⟨rfl,rfl⟩,by rw[List.drop_zero]; cases archF b<;>rfl,by simp,by simp⟩ ?_;rintro⟨p,l⟩ vs σ again ⟨v,rfl,hp,hd,hA,hl,hle⟩ hag;simp only at hp hd hA hl hle;refine Za (Qe ..) (Za (Qn ..) (Zd (λh=>?_) (λh=>?_)))
 ·have h:p<b.length:=by simpa using h
  have hne:b.drop p≠[]:=by
   intro e;have:=congrArg List.length e;simp at this; omega
  have hbad:(b.length-p<4∨b.length-p<4+d4 ((b.drop p).take 4))→resA (archF b)=.tup [.nils,iv 260]:=λq=>by rw[hA,Qbk hne (by rw[List.length_drop]; exact q)]; rfl
  refine Za (Qe ..) (Za (YaH ..) ?_);rw[Qam hp (by omega)];refine Za (Qn ..) (Zd (λh4=>?_) (λh4=>?_))
  ·rw[hbad (.inl (by simp at h4; omega))];exact⟨[],Bor.ro rfl⟩
  have h4:p+4≤b.length:=by simp at h4; omega
  have hstep:=Za0 (b:=b.drop p) hne;have e4:(b.drop p).take 4=[b[p],b[p+1],b[p+2],b[p+3]]:=by
   rw[YLD (by omega),YLD (by omega),YLD (by omega),YLD (by omega)];rfl
  rw[e4,List.length_drop,List.drop_drop,List.drop_drop] at hstep;rw[e4] at hbad;have wn:∀c:Nat,c≤4→IntKind.i64.wrap ((p:Int)+(c:Int))=((p+c:Nat):Int):=λc hc=>Q5 (by omega);refine Za (Xaq byC false false 1 b .i64 p h) (Za (v:=.int .u8 (b[p].toNat:Int)) (Yu rfl) (Za (Qk ..) (Za rfl (Za (Xr ..) ?_))));rw[show IntKind.i64.wrap ((p:Int)+1)=((p+1:Nat):Int) from wn 1 (by omega)];refine Za (Xaq byC false false 1 b .i64 (p+1) (by omega)) (Za (v:=.int .u8 (b[p+1].toNat:Int)) (Yu rfl) (Za (Qk ..) (Za rfl (Za rfl (Za (Xr ..) ?_)))));rw[show IntKind.i64.wrap ((p:Int)+2)=((p+2:Nat):Int) from wn 2 (by omega)];refine Za (Xaq byC false false 1 b .i64 (p+2) (by omega)) (Za (v:=.int .u8 (b[p+2].toNat:Int)) (Yu rfl) (Za (Qk ..) (Za rfl (Za rfl (Za (Xr ..) ?_)))));rw[show IntKind.i64.wrap ((p:Int)+3)=((p+3:Nat):Int) from wn 3 (by omega)];refine Za (Xaq byC false false 1 b .i64 (p+3) (by omega)) (Za (v:=.int .u8 (b[p+3].toNat:Int)) (Yu rfl) (Za (Qk ..) (Za (v:=iv (d4 [b[p],b[p+1],b[p+2],b[p+3]]:Nat)) (rd:=[]) ?_ ?_)))
  ·show SRes.ok (.int .i64 _) [] []=_;exact congrArg (λz=>SRes.ok (.int .i64 z) [] []) (or4 b[p] b[p+1] b[p+2] b[p+3])
  generalize d4 [b[p],b[p+1],b[p+2],b[p+3]]=m at hstep hbad;refine Za (Xr ..) ?_;rw[show IntKind.i64.wrap ((p:Int)+4)=((p+4:Nat):Int) from wn 4 (by omega)];refine Za (Qe ..) (Za (YaH ..) ?_);rw[Qam h4 (by omega)];refine Za (ZW ..) (Zd (λhm=>?_) (λhm=>?_))
  ·rw[hbad (.inr (by simp at hm; omega))];exact⟨[],Bor.ro rfl⟩
  have hm:p+4+m≤b.length:=by simp at hm; omega
  have hstep:=hstep (by omega);rw[show p+(4+m)=p+4+m by omega] at hstep;refine Za (Xr ..) ?_;rw[Q5 (a:=p+4) (c:=m) (by omega)];have hc:=c23 ((b.drop (p+4)).take m) (by simp; omega);refine Za (Qc9 false false b (p+4) m hm) (Yad hc rfl k23.ok.plain rfl ?_);cases hO:readO ((b.drop (p+4)).take m) with
  |none=>
   rw[hO] at hstep;refine Za rfl (Za rfl (Xd (Yz σ _) (Yi _ _) (Xd (stv (cs:=zDe) (row':=zDe) (Zc _ _) rfl rfl rfl) (Zb _ (by simp)) (Za rfl (Xi ?_)))));rw[hA,hstep];exact⟨[],Bor.ro rfl⟩
  |some y=>
   rw[hO] at hstep;refine Za rfl (Za rfl (Xd (Yz σ _) (Yi _ _) (Xd (stv (cs:=deC y) (row':=deC y) (Zc _ _) rfl rfl rfl) (Zb _ (by simp)) (Za rfl (Qf ?_)))));have hσ:∀z,(σ++[z]).set σ.length (.box (deC y))=σ++[.box (deC y)]:=λz=>by
    rw[List.set_append_right _ _ (Nat.le_refl _)]; simp
   rw[hσ];have hd1:=hd.more [ABlk.box (deC y)];have hn:=Zc σ (.box (deC y));generalize hsl:σ.length=s at hn;generalize σ++[ABlk.box (deC y)]=σ1 at hd1 hn;refine Za (v:=.agg (deC y)) (Zj hn rfl) (Xd (v:=.sl σ1.length 0 1 true) (rd:=[]) (up:=[(σ1.length,.rows 15 [deC y])]) rfl (Yi _ _) ?_);obtain⟨v',up,σ2,e1,e2,e3,g1,-,g3⟩:=(hd1.more [.rows 15 [deC y]]).upd (m:=[y]) (y:=.sl σ1.length 0 1 true) (rd:=[σ1.length]) (ZJ (Zc _ _) rfl) (by simp; omega);refine Xd e1 e2 (Za (Xr ..) ?_);rw[Q5 (a:=p+4) (c:=m) (by omega)];refine hag (p+4+m,l++[y]) _ _ (by show b.length-(p+4+m)<b.length-p; omega) ⟨v',rfl,hm,g1,?_,by simp; omega,λx hx=>?_⟩
   ·rw[hA,hstep];simp only[Option.bind_some,Option.map_map]
    congr 1
    funext q
    simp
   ·rcases List.mem_append.1 hx with hx|hx
    ·exact hle x hx
    ·rw[List.mem_singleton.1 hx];exact(Zcw hO).mono (by simp; omega)
 ·have h:p=b.length:=by simp at h; omega
  subst h;obtain⟨rd,hb⟩:=hd.bor;have hR:resA (archF b)=if oneB l then .tup [deV l,iv 0] else .tup [.nils,iv 260]:=by rw[hA,List.drop_length,Zbl]; simp[resA]
  rw[hR];refine ZaJ (c19 l (by omega) hle) rfl k19.ok.plain (.cons hb .nil) rfl (Za (X6 ..) ?_);cases ho:oneB l
  ·exact Xi ⟨[],Bor.ro rfl⟩
  ·exact Qf ⟨rd,Bor.tup (.cons hb (BorL.ro rfl))⟩
theorem Yci:∀(f:Nat) (b:List UInt8) (l:List De),archO f b=some l→∀x∈l,DeLe b.length x
 |f,[],l,e,x,hx=>by
  cases f<;>(simp[archO] at e; subst e; simp at hx)
 |0,u::r,l,e,x,hx=>by simp[archO] at e
 |f+1,u::r,l,e,x,hx=>by
  unfold archO at e;split at e
  ·cases e
  ·generalize hb:u::r=b at *;cases h1:readO ((b.drop 4).take (d4 (b.take 4))) with
   |none=>simp[h1] at e
   |some y=>
    cases h2:archO f (b.drop (4+d4 (b.take 4))) with
    |none=>simp[h1,h2] at e
    |some m=>
     simp[h1,h2] at e;subst e;rcases List.mem_cons.1 hx with rfl|hx
     ·exact(Zcw h1).mono (by simp; omega)
     ·exact(Yci f _ _ h2 x hx).mono (by simp)
theorem p11:PC 11 [.nils,.nils] (.bool true):=by
 refine Xo hP k11.ok rfl rfl ?_;rw[H2.e]; unfold k11; dsimp only; simp only[Yb,Qo];exact Za rfl (Za rfl (Za rfl (Qf (Qac 1 (Ys (Za rfl (Za rfl (Qf trivial))))))))
theorem c3(l:List De)(b:List UInt8)(hl:l.length≤1048576)(hf:∀x∈l,FairD x):PC 3 [deV l,byV b] (.bool true):=by
 refine Xo hP k3.ok rfl rfl ?_;rw[H2.e]; unfold k3; dsimp only; simp only[Yb];refine Za rfl (W_q (c5 l (by omega) (λx hx=>by have:=hf x hx; unfold deN; have:=this.d0; have:=(hf x hx).d1; have:=(hf x hx).dr; have:=(hf x hx).ids; have:=(hf x hx).prs; omega)) g5.ok ?_);cases hg:Xbp l
 case true=>exact aw (W_q p6 g6.ok rfl)
 refine Ya (Za rfl (Ya (Za (Qe ..) (Ya (Za (ZW ..) (Za rfl ?_))))));cases hb:decide ((20000:Int)<(b.length:Int))
 case true=>exact aw (W_q p6 g6.ok rfl)
 have hb:b.length≤20000:=by simp at hb; omega
 have hg':l.length≤40∧(l.map deN).sum≤600:=by
  have:¬(40<l.length∨600<((l.take 41).map deN).sum):=of_decide_eq_false hg;rw[List.take_of_length_le (by omega)] at this;omega
 have hN:∀x∈l,deN x≤600:=λx hx=>Nat.le_trans (ZcE hx) hg'.2;have hflat:=Qcp (c:=200+3*1048576) (d:=16) l (λx hx=>XcP (hf x hx).fmt (hf x hx).n0 (hf x hx).n1);have hc7:=c7 l (by omega) (λx hx=>c34 x.ac (hf x hx).ok.ac.op (by have:=(hf x hx).ids; have:=(hf x hx).prs; omega)) (λx hx=>by rw[Qao]; have:=(hf x hx).ids; have:=(hf x hx).prs; omega) (by omega);have hc8:=c8 l (by omega) (λx hx=>⟨by have:=(hf x hx).d0; omega,by have:=(hf x hx).d1; omega,by have:=(hf x hx).dr; omega,by have:=(hf x hx).ids; omega,by have:=(hf x hx).prs; omega⟩) (λx hx=>(hf x hx).ok.ac.op) (λx hx=>by have:=(hf x hx).ids; have:=(hf x hx).prs; omega) (by omega);have hts:∀(b:List UInt8) (σ:List ABlk),QA [byV b] σ=.ok (.str b) [] []:=λb σ=>by simp[QA,isSl,Qak,X1]
 obtain⟨v,e,s,hve,hs⟩:∃(v:AVal) (e:Int) (s:List UInt8),(if oneB l then [byV (l.flatMap recQ),iv 0] else [.nils,iv 2])=[v,iv e]∧∀(σ:List ABlk),QA [v] σ=.ok (.str s) [] []:=by
  by_cases ho:oneB l=true
  ·exact⟨_,_,_,YIP ho,hts _⟩
  ·exact⟨_,_,[],YIN ho,λσ=>rfl⟩
 rw[hve] at hc7 hc8;obtain⟨w,e2,hw,h11,hro⟩:∃(w:AVal) (e2:Int),resA (archF b)=.tup [w,iv e2]∧PC 11 [w,w] (.bool true)∧roL [w,w]=true:=by
  cases hA:archF b with
  |none=>exact⟨_,_,rfl,p11,rfl⟩
  |some m=>
   have hc:=Ya2 m;rw[(Ybl _ _ _ hA).1] at hc;have h11:=c11 m m (by omega) (λx hx=>(Yci _ _ _ hA x hx).mono (by omega));rw[YDT rfl] at h11;by_cases hm:oneB m=true
   ·exact⟨_,_,YIP hm,h11,rfl⟩
   ·exact⟨_,_,YIN hm,p11,rfl⟩
 have hc9:=c9 b (by omega);have hc10:=c10 b (by omega);rw[hw] at hc9 hc10;have he:∀(e:Int) (σ:List ABlk),Zq .eql false [iv e,iv e] σ=.ok (.bool true) [] []:=λe σ=>by rw[YB]; simp
 clear hve hw;refine Qf (W_q hc7 g7.ok (Za rfl (Za rfl (Yad hc8 rfl k08.ok.plain rfl (Za rfl (Za rfl ?_))))));refine W_q hc9 g9.ok (Za rfl (Za rfl (Yad hc10 rfl k10.ok.plain rfl (Za rfl (Za rfl (Za (he _ _) ?_))))));refine Ya (Za rfl (Ya (Za (hs _) (Ya (Za rfl (Ya (Za (hs _) (Ya (Za (v:=.bool true) (by rw[Ya1,beq_self_eq_true]) (Za rfl ?_))))))))));refine Ya (Za rfl (Ya (Za rfl (Ya (Za (he _ _) (Za rfl ?_))))));refine Ya (Za rfl (Ya (Za rfl (ZM (Yad h11 rfl g11.ok.plain hro (Za rfl (ZM (W_q p6 g6.ok (Za rfl rfl)))))))))
open Go.Proofs.YtflkgbeolnbadaaGreatDoor.Rows (uptoBulk uptoBulkAll)
variable {H:Type}
theorem ZcJ(b:List UInt8):uptoBulk (DataW.lit (H:=H) (.string b))=b.length+1:=by simp only[uptoBulk]
theorem XbM(ds:List (DataW H)):uptoBulk (.agg ds)=uptoBulkAll ds+1:=by simp only[uptoBulk]
theorem XcZ(es sp:List (DataW H)):uptoBulk (.slice es sp)=uptoBulkAll es+uptoBulkAll sp+1:=by simp only[uptoBulk]
theorem Y7(d:DataW H)(ds:List (DataW H)):uptoBulkAll (d::ds)=uptoBulk d+uptoBulkAll ds:=by simp only[uptoBulkAll]
theorem QcI(d:DataW H):1≤uptoBulk d:=by
 cases d with
 |lit l=>cases l<;>simp[uptoBulk]
 |_=>simp[uptoBulk]
def XS(P:Program)(t:TypeId):Option (List TypeId):=match P.underlying t with
 |some (.struct fs)=>some (fs.toList.map (·.type))
 |_=>none
theorem QaV{P:Program}{fuel:Nat}{t:TypeId}{xs:List AVal}{d:DataW H}{ts:List TypeId}(h:Typed P fuel t xs d)(hs:XS P t=some ts):∃f parts ds,fuel=f+1∧xs=parts.flatten∧d=.agg ds∧Tri (Typed P f) ts parts ds:=by
 cases fuel with
 |zero=>exact h.elim
 |succ f=>
  unfold Typed at h;unfold XS at hs;split at hs
  ·rename_i fs e;rw[e] at h;cases hs;obtain⟨parts,ds,h1,h2,h3⟩:=h;exact⟨f,parts,ds,rfl,h1,h2,h3⟩
  ·cases hs
theorem Zad{P:Program}{fuel:Nat}{t:TypeId}{xs:List AVal}{d:DataW H}{k:IntKind}(h:Typed P fuel t xs d)(hu:P.underlying t=some (.int k)):∃n,xs=[.int k n]∧(Lit.int k n).wf=true∧d=.lit (.int k n):=by
 cases fuel with
 |zero=>exact h.elim
 |succ f=>unfold Typed at h; rw[hu] at h; exact h
theorem YcF{P:Program}{fuel:Nat}{t:TypeId}{xs:List AVal}{d:DataW H}(h:Typed P fuel t xs d)(hu:P.underlying t=some .string):∃s,xs=[.str s]∧d=.lit (.string s):=by
 cases fuel with
 |zero=>exact h.elim
 |succ f=>unfold Typed at h; rw[hu] at h; exact h
theorem ZcF{P:Program}{fuel:Nat}{e:TypeId}{X:Type}(toC:X→List AVal)(m:X→Nat)(Q:X→Prop){B:Nat}(hx:∀xs (d:DataW H),Typed P fuel e xs d→uptoBulk d≤B→∃x,xs=toC x∧Q x∧m x≤uptoBulk d) :
  ∀ {rows:List (List AVal)} {es:List (DataW H)},Two (Typed P fuel e) rows es→uptoBulkAll es≤B→∃l:List X,rows=l.map toC∧(∀x∈l,Q x)∧(l.map m).sum≤uptoBulkAll es∧l.length≤uptoBulkAll es
 |[],[],_,_=>⟨[],rfl,by simp,by simp,by simp⟩
 |r::rows,d::es,h,hb=>by
  rw[Y7] at hb;obtain⟨x,e1,q1,m1⟩:=hx r d h.1 (by omega);obtain⟨l,e2,q2,s2,l2⟩:=ZcF toC m Q hx h.2 (by omega);refine⟨x::l,by rw[e1,e2]; rfl,λy hy=>?_,?_,?_⟩
  ·rcases List.mem_cons.1 hy with rfl|hy
   ·exact q1
   ·exact q2 y hy
  ·rw[List.map_cons,List.sum_cons,Y7]; omega
  ·have:=QcI d;rw[List.length_cons,Y7]; omega
 |[],_::_,h,_=>h.elim
 |_::_,[],h,_=>h.elim
theorem YaL{P:Program}{fuel:Nat}{t e:TypeId}{n:Nat}{xs:List AVal}{d:DataW H}{X:Type}(toC:X→List AVal)(m:X→Nat)(Q:X→Prop){B:Nat}(h:Typed P fuel t xs d)(hu:P.underlying t=some (.slice e))(hn:P.cellsOf e=n)
 (hx:∀f,f<fuel→∀xs (d:DataW H),Typed P f e xs d→uptoBulk d≤B→∃x,xs=toC x∧Q x∧m x≤uptoBulk d)(hb:uptoBulk d≤B) :
  ∃l:List X,xs=[.rsl false false n (l.map toC)]∧(∀x∈l,Q x)∧(l.map m).sum≤uptoBulk d∧l.length≤uptoBulk d:=by
 cases fuel with
 |zero=>exact h.elim
 |succ f=>
  unfold Typed at h;rw[hu] at h;subst hn;obtain⟨rows,rfl,⟨rfl,rfl⟩|⟨es,sp,rfl,h2⟩⟩:=h
  ·exact⟨[],rfl,by simp,by simp,by simp⟩
  ·rw[XcZ] at hb ⊢;obtain⟨l,rfl,q,s,k⟩:=ZcF toC m Q (hx f (by omega)) h2 (by omega);exact⟨l,rfl,q,by omega,by omega⟩
theorem QcE{P:Program}{fuel:Nat}{t e:TypeId}{xs:List AVal}{d:DataW H}(h:Typed P fuel t xs d)(hu:P.underlying t=some (.array 2 e)):∃f p q a b,fuel=f+1∧xs=p++q∧d=.agg [a,b]∧Typed P f e p a∧Typed P f e q b:=by
 cases fuel with
 |zero=>exact h.elim
 |succ f=>
  unfold Typed at h;rw[hu] at h;obtain⟨parts,ds,rfl,rfl,hl,h2⟩:=h
  match parts,hl,h2 with
  |[p,q],_,h2=>
   obtain⟨a,ds,rfl,ha,h2⟩:=h2.cons;obtain⟨b,ds,rfl,hb,h2⟩:=h2.cons
   match ds,h2 with
   |[],_=>exact⟨f,p,q,a,b,rfl,by simp,rfl,ha,hb⟩
theorem wf8{n:Int}(h:(Lit.int .i8 n).wf=true):R8 n:=by
 have h1:IntKind.i8.min = -128:=by decide
 have h2:IntKind.i8.max=127:=by decide
 simp only[Lit.wf,h1,h2] at h;unfold R8;simpa using h
theorem wf64{n:Int}(h:(Lit.int .i64 n).wf=true):R64 n:=by
 have h1:IntKind.i64.min = -9223372036854775808:=by decide
 have h2:IntKind.i64.max=9223372036854775807:=by decide
 simp only[Lit.wf,h1,h2] at h;unfold R64;simpa using h
theorem wfu8{n:Int}(h:(Lit.int .u8 n).wf=true):0≤n∧n≤255:=by
 have h1:IntKind.u8.min=0:=by decide
 have h2:IntKind.u8.max=255:=by decide
 simp only[Lit.wf,h1,h2] at h;simpa using h
abbrev Ydm:TypeId:=38
abbrev QaI:TypeId:=3
abbrev Xc6:TypeId:=5
abbrev Xdi:TypeId:=4
abbrev QcT:TypeId:=9
abbrev Zdj:TypeId:=155
abbrev XcT:TypeId:=41
abbrev Xa8:TypeId:=37
abbrev Yc6:TypeId:=39
abbrev Zc6:TypeId:=40
abbrev Zdm:TypeId:=43
abbrev Qdi:TypeId:=45
abbrev QaU:TypeId:=22
abbrev QS:TypeId:=23
theorem u_i8:prog.underlying Ydm=some (.int .i8):=by kernel_rfl
theorem Qbz:prog.underlying QaI=some (.int .i64):=by kernel_rfl
theorem u_u8:prog.underlying Xc6=some (.int .u8):=by kernel_rfl
theorem ZcY:prog.underlying Xdi=some .bool:=by kernel_rfl
theorem Qc6:prog.underlying QcT=some .string:=by kernel_rfl
theorem u_prs:prog.underlying XcT=some (.slice Zdj):=by kernel_rfl
theorem Xdk:prog.underlying Xa8=some (.slice QaI):=by kernel_rfl
theorem u_txs:prog.underlying Yc6=some (.array 2 QcT):=by kernel_rfl
theorem u_rws:prog.underlying Zc6=some (.array 2 Xa8):=by kernel_rfl
theorem Ydk:prog.underlying QaU=some (.slice Qdi):=by kernel_rfl
theorem XcF:prog.underlying QS=some (.slice Xc6):=by kernel_rfl
theorem n_pr:prog.cellsOf Zdj=2:=by kernel_rfl
theorem n_int:prog.cellsOf QaI=1:=by kernel_rfl
theorem n_u8:prog.cellsOf Xc6=1:=by kernel_rfl
theorem n_de:prog.cellsOf Qdi=15:=by kernel_rfl
theorem s_pr:XS prog Zdj=some [QaI,QaI]:=by kernel_rfl
theorem s_ac:XS prog Zdm=some [Ydm,QaI,QaI,QaI,Xa8,XcT]:=by kernel_rfl
theorem s_de:XS prog Qdi=some [Ydm,QaI,QaI,QcT,Yc6,Zc6,Xa8,Zdm]:=by kernel_rfl
theorem ty_i(fuel:Nat)(xs:List AVal)(d:DataW H)(h:Typed prog fuel QaI xs d)(_:uptoBulk d≤1048576):∃x,xs=cel x∧R64 x∧0≤uptoBulk d:=by
 obtain⟨s,rfl,w,rfl⟩:=Zad h Qbz;exact⟨s,rfl,wf64 w,Nat.zero_le _⟩
theorem YbY{fuel:Nat}{xs:List AVal}{d:DataW H}(h:Typed prog fuel Xa8 xs d)(hb:uptoBulk d≤1048576):∃l,xs=[rowV l]∧l.length≤1048576∧∀a∈l,R64 a:=by
 obtain⟨l,rfl,q,_,k⟩:=YaL cel (λ_=>0) R64 h Xdk n_int (λf' _=>ty_i f') hb;exact⟨l,rfl,by omega,q⟩
theorem ty_pr(fuel:Nat)(xs:List AVal)(d:DataW H)(h:Typed prog fuel Zdj xs d)(_:uptoBulk d≤1048576):∃x,xs=prC x∧(R64 x.1∧R64 x.2)∧0≤uptoBulk d:=by
 obtain⟨f,parts,ds,rfl,rfl,rfl,r⟩:=QaV h s_pr;obtain⟨p0,parts,d0,ds,rfl,rfl,h0,r⟩:=r.cons;obtain⟨p1,parts,d1,ds,rfl,rfl,h1,r⟩:=r.cons;obtain⟨rfl,rfl⟩:=r.nil;obtain⟨v0,rfl,w0,rfl⟩:=Zad h0 Qbz;obtain⟨v1,rfl,w1,rfl⟩:=Zad h1 Qbz;exact⟨(v0,v1),rfl,⟨wf64 w0,wf64 w1⟩,Nat.zero_le _⟩
theorem Zdk{fuel:Nat}{xs:List AVal}{d:DataW H}(h:Typed prog fuel XcT xs d)(hb:uptoBulk d≤1048576):∃l,xs=[prV l]∧l.length≤1048576∧∀x∈l,R64 x.1∧R64 x.2:=by
 obtain⟨l,rfl,q,_,k⟩:=YaL prC (λ_=>0) (λx=>R64 x.1∧R64 x.2) h u_prs n_pr (λf' _=>ty_pr f') hb;exact⟨l,rfl,by omega,q⟩
theorem ty_ac{fuel:Nat}{xs:List AVal}{d:DataW H}(h:Typed prog fuel Zdm xs d)(hb:uptoBulk d≤1048576):∃x,xs=acC x∧AcOk x∧x.ids.length≤1048576∧x.prs.length≤1048576:=by
 obtain⟨f,parts,ds,rfl,rfl,rfl,r⟩:=QaV h s_ac;obtain⟨p0,parts,d0,ds,rfl,rfl,h0,r⟩:=r.cons;obtain⟨p1,parts,d1,ds,rfl,rfl,h1,r⟩:=r.cons;obtain⟨p2,parts,d2,ds,rfl,rfl,h2,r⟩:=r.cons;obtain⟨p3,parts,d3,ds,rfl,rfl,h3,r⟩:=r.cons;obtain⟨p4,parts,d4,ds,rfl,rfl,h4,r⟩:=r.cons;obtain⟨p5,parts,d5,ds,rfl,rfl,h5,r⟩:=r.cons;obtain⟨rfl,rfl⟩:=r.nil;obtain⟨v0,rfl,w0,rfl⟩:=Zad h0 u_i8;obtain⟨v1,rfl,w1,rfl⟩:=Zad h1 Qbz;obtain⟨v2,rfl,w2,rfl⟩:=Zad h2 Qbz;obtain⟨v3,rfl,w3,rfl⟩:=Zad h3 Qbz;simp only[XbM,Y7] at hb;obtain⟨a,rfl,ka,qa⟩:=YbY h4 (by omega);obtain⟨b,rfl,kb,qb⟩:=Zdk h5 (by omega);exact⟨⟨v0,v1,v2,v3,a,b⟩,rfl,⟨wf8 w0,wf64 w1,wf64 w2,wf64 w3,by show a.length≤_; omega,qa,by show b.length≤_; omega,qb⟩,ka,kb⟩
theorem ty_de(fuel:Nat)(xs:List AVal)(d:DataW H)(h:Typed prog fuel Qdi xs d)(hb:uptoBulk d≤1048576):∃x,xs=deC x∧FairD x∧0≤uptoBulk d:=by
 obtain⟨f,parts,ds,rfl,rfl,rfl,r⟩:=QaV h s_de;obtain⟨p0,parts,d0,ds,rfl,rfl,h0,r⟩:=r.cons;obtain⟨p1,parts,d1,ds,rfl,rfl,h1,r⟩:=r.cons;obtain⟨p2,parts,d2,ds,rfl,rfl,h2,r⟩:=r.cons;obtain⟨p3,parts,d3,ds,rfl,rfl,h3,r⟩:=r.cons;obtain⟨p4,parts,d4,ds,rfl,rfl,h4,r⟩:=r.cons;obtain⟨p5,parts,d5,ds,rfl,rfl,h5,r⟩:=r.cons;obtain⟨p6,parts,d6,ds,rfl,rfl,h6,r⟩:=r.cons;obtain⟨p7,parts,d7,ds,rfl,rfl,h7,r⟩:=r.cons;obtain⟨rfl,rfl⟩:=r.nil;obtain⟨v0,rfl,w0,rfl⟩:=Zad h0 u_i8;obtain⟨v1,rfl,w1,rfl⟩:=Zad h1 Qbz;obtain⟨v2,rfl,w2,rfl⟩:=Zad h2 Qbz;obtain⟨v3,rfl,rfl⟩:=YcF h3 Qc6;obtain⟨f1,pa,pb,da,db,rfl,rfl,rfl,ha,hbb⟩:=QcE h4 u_txs;obtain⟨va,rfl,rfl⟩:=YcF ha Qc6;obtain⟨vb,rfl,rfl⟩:=YcF hbb Qc6;obtain⟨f2,pc,pd,dc,dd,e2,rfl,rfl,hc,hd⟩:=QcE h5 u_rws;simp only[XbM,Y7,ZcJ] at hb;obtain⟨l0,rfl,k0,r0⟩:=YbY hc (by omega);obtain⟨l1,rfl,k1,r1⟩:=YbY hd (by omega);obtain⟨l2,rfl,k2,r2⟩:=YbY h6 (by omega);obtain⟨a,rfl,ka,ki,kp⟩:=ty_ac h7 (by omega);refine⟨⟨v0,v1,v2,v3,va,vb,l0,l1,l2,a⟩,rfl,⟨⟨wf8 w0,wf64 w1,wf64 w2,?_,?_,?_,⟨?_,r0⟩,⟨?_,r1⟩,⟨?_,r2⟩,ka⟩,?_,?_,?_,k0,k1,k2,ki,kp⟩,Nat.zero_le _⟩
 all_goals (dsimp only; omega)
theorem Qdj{fuel:Nat}{xs:List AVal}{d:DataW H}(h:Typed prog fuel QaU xs d)(hb:uptoBulk d≤1048576):∃l,xs=[deV l]∧l.length≤1048576∧∀x∈l,FairD x:=by
 obtain⟨l,rfl,q,_,k⟩:=YaL deC (λ_=>0) FairD h Ydk n_de (λf' _=>ty_de f') hb;exact⟨l,rfl,by omega,q⟩
theorem ty_by(fuel:Nat)(xs:List AVal)(d:DataW H)(h:Typed prog fuel Xc6 xs d)(_:uptoBulk d≤1048576):∃x,xs=byC x∧True∧0≤uptoBulk d:=by
 obtain⟨s,rfl,w,rfl⟩:=Zad h u_u8;obtain⟨w1,w2⟩:=wfu8 w;refine⟨UInt8.ofNat s.toNat,?_,trivial,Nat.zero_le _⟩;have:((UInt8.ofNat s.toNat).toNat:Int)=s:=by simp; omega
 rw[byC,this]
theorem XcU{fuel:Nat}{xs:List AVal}{d:DataW H}(h:Typed prog fuel QS xs d)(hb:uptoBulk d≤1048576):∃l,xs=[byV l]:=by
 obtain⟨l,rfl,_,_,k⟩:=YaL byC (λ_=>0) (λ_=>True) h XcF n_u8 (λf' _=>ty_by f') hb;exact⟨l,rfl⟩
end Go.Ah.Tz
end
section
namespace Go.Proofs.YtflkgbeolnbadaaGreatDoor
open Go.ChangeShapes Go.WideShapes Go.ChangeAt Go.RowKit Go.Ah Go.Ah.Tz
theorem Qbg{H:Type}{enc:TypeId×Value→H}{P:Program}{f:Func}{s:ChangeSpec}{apart fresh handsOn again:Bool}{W W':World}{args:Array Value}{v:Value}{ds gs:List (DataW H)}{before pa pv:List MemPlace}
 (hW:DataW.Whole enc P f.params.toList s.vars apart W args.toList ds gs before)
 (hres:∀(b:Nat) (sp:Nat→Bool) (hd:Bool),DataW.TrodAll enc P W' b sp hd f.resultTypes.toList (v.resultList f.resultTypes.size) (s.fn H (ds++gs)).results [])
 (hargs:∀sp:Nat→Bool,(∀p∈before,sp p.block=true)→DataW.TrodAll enc P W' 0 sp true f.params.toList args.toList (s.fn H (ds++gs)).args pa)
 (hvars:∀sp:Nat→Bool,(∀p∈before,sp p.block=true)→DataW.TrodVars enc P W' sp s.vars (s.fn H (ds++gs)).vars pv)
 (hps:before=pa++pv)(hb:Below W.heap.size W W')
 (hok:∀(j:Nat) (t:TypeId) (r:Value),f.resultTypes[j]?=some t→(v.resultList f.resultTypes.size)[j]?=some r→Value.okWide P W' .any 0 t r) :
  s.post enc P f apart fresh handsOn again W args v W':=by
 have hold:∀p∈before,(λb=>decide (b<W.heap.size)) p.block=true:=λp hp=>by simpa using hW.lt p hp
 refine⟨ds,gs,before,[],pa,pv,hW,hres _ _ _,hargs _ hold,hvars _ hold,World.keptBut_mono (λp hp=>⟨hp,?_⟩) (hb.frame (·∈before)),λ_=>?_⟩
 ·rw[hps,List.mem_append] at hp;exact Or.inr hp
 ·have hlt:=hW.lt;obtain⟨_,_,_,_,_,hz,hn⟩:=hW;refine⟨hok,_,_,([]++pa)++pv,⟨[]++pa,pv,trodAll_append (hargs _ (λ_ _=>rfl)) (hres _ _ _),hvars _ (λ_ _=>rfl),rfl,?_,?_⟩,?_⟩
  ·intro b off hp;have hin:MemPlace.cell b off∈before:=by rw[hps]; simpa using hp
   rw[hb.frozen (p:=⟨b,off,none⟩) (show b<W.heap.size from hlt _ hin)];exact hz b off hin
  ·intro ha;have:=hn ha;rw[hps] at this;simpa using this
  ·intro p hp _;rw[hps];simpa using hp
set_option maxRecDepth 100000
abbrev Ydj:TypeId:=375
theorem d_own:ownKnob Tryz.prog.godebug=none:=by kernel_rfl
theorem Qdb:Tryz.prog.globalNamed "strings.asciiSpace" = some 0:=by kernel_rfl
theorem Xcn:(Tryz.prog.globals[0]?).map (·.type)=some Ydj:=by kernel_rfl
theorem Zcn:laidOutB Tryz.prog=true:=by kernel_rfl
def spaces:List Int:=(List.range 256).map λi=>match (Nat.ble 9 i&&Nat.ble i 13)||Nat.beq i 32 with|true=>1|false=>0
theorem Yc0{l:List (String×DataW Unit)}{x0 x1 x2 x3:String×DataW Unit}(hl:l=[x0,x1,x2,x3,("strings.asciiSpace",Lib.tabData .u8 spaces)]){W:World}(h:laidMet Tryz.prog l W):∀p∈GL0,Den (λb=>W.heap[b]?) noOwn (.rptr p.2 0) (.pointer (some ⟨p.1,0,none⟩)):=by
 subst hl;have ht:Lib.TabIs Tryz.prog W "strings.asciiSpace" .u8 spaces:=Lib.tabIs_of_head (rest:=[]) Qdb Xcn (show Tryz.prog.underlying Ydj=some (.array 256 Xc6) by kernel_rfl) (show Tryz.prog.underlying Xc6=some (.int .u8) by kernel_rfl) (by kernel_rfl) (by kernel_rfl) h.tail.tail.tail.tail;have hlen:spaces.length=256:=by simp[spaces]
 have hrow:row0=spaces.map (AVal.int .u8):=by rw[row0,spaces,List.map_map]; rfl
 intro p hp;simp only[GL0,List.mem_singleton] at hp;subst hp;refine .rptr _ row0 0 0 0 (λk=>.int .u8 (spaces.getD k 0)) (λk hk=>?_) (λk y hy=>?_)
 ·have hk':k<spaces.length:=by rw[hrow,List.length_map] at hk; exact hk
  have:=(Zck (ht.cell Qdb k hk')).2;rw[Nat.zero_add]; exact this
 ·rw[hrow,List.getElem?_map] at hy;obtain⟨z,hz,rfl⟩:=Option.map_eq_some_iff.1 hy;have:spaces.getD k 0=z:=by simp[List.getD,hz]
  rw[this]; exact .int _ _ _
def Qbb:List TypeId:=[Ydm,QaI,Xc6,QcT,Zdj,XcT,Xa8,Yc6,Zc6,Zdm,Qdi,QaU,QS]
theorem Qbn:Qbb.all (tyOk Tryz.prog Qbb)=true:=by kernel_rfl
section
variable {H:Type} {enc:TypeId×Value→H} {W:World} {base:Nat} {v:Value} {d:DataW H} {ps:List MemPlace}
theorem Zc0(ho:Value.okWide Tryz.prog W .any base QaU v)(h:DataW.Trod enc Tryz.prog W 0 (λ_=>true) true QaU v d ps)(hb:Rows.uptoBulk d≤1048576):∃l:List De,l.length≤1048576∧(∀x∈l,FairD x)∧Den (λk=>W.heap[k]?) noOwn (deV l) v:=by
 obtain⟨a,len,cap,rfl⟩:=okWide_slice Ydk ho;obtain⟨fuel,hf⟩:=h;obtain⟨_,xs,h1,h2⟩:=XaV (S:=Qbb) Qbn fuel QaU (by decide) _ _ ⟨_,hf⟩;obtain⟨l,rfl,k1,k2⟩:=Qdj h2 hb;exact⟨l,k1,k2,h1.2 0 _ _ rfl rfl⟩
theorem QcZ(ho:Value.okWide Tryz.prog W .any base QS v)(h:DataW.Trod enc Tryz.prog W 0 (λ_=>true) true QS v d ps)(hb:Rows.uptoBulk d≤1048576):∃l:List UInt8,Den (λk=>W.heap[k]?) noOwn (byV l) v:=by
 obtain⟨a,len,cap,rfl⟩:=okWide_slice XcF ho;obtain⟨fuel,hf⟩:=h;obtain⟨_,xs,h1,h2⟩:=XaV (S:=Qbb) Qbn fuel QS (by decide) _ _ ⟨_,hf⟩;obtain⟨l,rfl⟩:=XcU h2 hb;exact⟨l,h1.2 0 _ _ rfl rfl⟩
end
theorem Ycn{H:Type}{enc:TypeId×Value→H}{t:TypeId}(hr:Tryz.prog.readableRec t=true)(hrow:t<Tryz.prog.types.size){W W':World}{v:Value}{d:DataW H}{ps all:List MemPlace}(h:DataW.Trod enc Tryz.prog W 0 (λ_=>true) true t v d ps)(hb:Below W.heap.size W W')(hlt:∀p∈all,p.block<W.heap.size)(hin:∀p∈ps,p∈all){sp:Nat→Bool}(hs:∀p∈all,sp p.block=true):DataW.Trod enc Tryz.prog W' 0 sp true t v d ps:=
 WideElems.Trod_stays Zcn hr hrow h (λp hp=>hb.same (hlt p (hin p hp))) (λp hp=>hs p (hin p hp))
theorem XcV(t:TypeId)(h:(Tryz.prog.readableRec t&&decide (t<Tryz.prog.types.size))=true):Tryz.prog.readableRec t=true∧t<Tryz.prog.types.size:=by simpa using h
theorem Qdg:Tryz.prog.readableRec QaU=true∧QaU<Tryz.prog.types.size:=XcV QaU (by kernel_rfl)
theorem Xcv:Tryz.prog.readableRec QS=true∧QS<Tryz.prog.types.size:=XcV QS (by kernel_rfl)
theorem Qg{a b:Bool}(h:a=true)(k:b=true):(a&&b)=true:=by rw[h,k]; rfl
def d_pow:List Int:=[1,10,100,1000,10000,100000,1000000,10000000,100000000,1000000000,10000000000,100000000000,1000000000000,10000000000000,100000000000000,1000000000000000,10000000000000000,100000000000000000,1000000000000000000,10000000000000000000]
def d_b32:List Int:=[0,1,28,2,29,14,24,3,30,22,20,15,25,17,4,8,31,27,13,23,21,19,16,7,26,12,18,6,11,5,10,9]
def d_b64:List Int:=[0,1,56,2,57,49,28,3,61,58,42,50,38,29,17,4,62,47,59,36,45,43,51,22,53,39,33,30,24,18,12,5,63,55,48,27,60,41,37,16,46,35,44,21,52,32,23,11,54,26,40,15,34,20,31,10,25,14,19,9,13,8,7,6]
def QcJ:List Int:=[9,13,1,32,133,101,160,5760,5600,8192,8202,1,8232,8233,1,8239,8287,48,12288,12288,1]
noncomputable def QbD (os:Os):World:=
 let w0:=World.holding Tryz.prog os ⟨#[],#[],[]⟩
 let put (h:Array Obj) (g:Nat) (cs:Array Value):Array Obj:=h.modify g fun
  |.cells _ t frozen=>.cells cs t frozen
  |o=>o
 let h1:=put w0.heap 0 (spaces.map λz=>Value.int .u8 z).toArray
 let h2:=put h1 1 #[.pointer (some ⟨w0.heap.size,0,none⟩)]
 let h3:=put h2 2 (d_pow.map λz=>Value.int .u64 z).toArray
 let h4:=put h3 3 (d_b32.map λz=>Value.int .u8 z).toArray
 let h5:=put h4 4 (d_b64.map λz=>Value.int .u8 z).toArray
 { w0 with heap:=(h5.push (.cells #[.slice (some ⟨w0.heap.size+1,0,none⟩) 7 7,.slice none 0 0,.int .i64 2] 419 (0,0))).push (.cells (QcJ.map λz=>Value.int .u16 z).toArray 422 (0,0)) }
theorem QbA:Rows.archiveBytesUptoRow.laid=[("math/bits.deBruijn32tab",Rows.laid_math_bits_deBruijn32tab),("math/bits.deBruijn64tab",Rows.laid_math_bits_deBruijn64tab),("internal/strconv.uint64pow10",Rows.laid_internal_strconv_uint64pow10),("unicode.White_Space",Rows.laid_unicode_White_Space),("strings.asciiSpace",Lib.tabData .u8 spaces)]:=by kernel_rfl
theorem QaL(H:Type)(enc:TypeId×Value→H)(W:World)(base:Nat)(args:Array Value)(ds gs:List (DataW H))(before:List MemPlace)
 (hval:∀(j:Nat) t v,Tryz.f3.params[j]?=some t→args[j]?=some v→Value.okWide Tryz.prog W .any base t v)
 (hW:DataW.Whole enc Tryz.prog Tryz.f3.params.toList Rows.archiveBytesSpec.vars false W args.toList ds gs before)(hk:Rows.uptoSmall H (ds++gs)=true)(hL:laidMetH Tryz.prog Rows.archiveBytesUptoRow.laid W) :
  Calls Tryz.prog 3 args W λe W'=>∃v,e=.returned v∧Rows.archiveBytesSpec.post enc Tryz.prog Tryz.f3 false true false false W args v W':=by
 have hW':=hW;have hlt:=hW.lt;obtain⟨p,q,hA0,hV,rfl,hfz,hnd⟩:=hW;have hA:DataW.TrodAll enc Tryz.prog W 0 (λ_=>true) true Tryz.f3.params.toList args.toList ds p:=hA0;rw[Tryz.params3] at hA hval;obtain⟨v0,vs,d0,ds,p0,p,hargs,rfl,rfl,h0,r⟩:=trodAll_cons hA;obtain⟨v1,vs,d1,ds,p1,p,rfl,rfl,rfl,h1,r⟩:=trodAll_cons r;obtain⟨rfl,rfl,rfl⟩:=trodAll_nil r;obtain rfl:args = #[v0,v1]:=by cases args; simp_all
 obtain⟨rfl,rfl⟩:=trodVars_none hV;have hbk:Rows.uptoBulkAll [d0,d1]≤1048576:=of_decide_eq_true hk;simp only[Rows.uptoBulkAll] at hbk;obtain⟨a0,l0,m0,e0⟩:=Zc0 (hval 0 _ v0 rfl rfl) h0 (by omega);obtain⟨a1,e1⟩:=QcZ (hval 1 _ v1 rfl rfl) h1 (by omega);have hg:=Yc0 QbA (show laidMet Tryz.prog Rows.archiveBytesUptoRow.laid W from hL);refine(c3 a0 a1 l0 m0 W (λk=>W.heap[k]?) [v0,v1] (λ_ _ h=>h) hg ⟨e0,e1,trivial⟩).mono ?_;rintro e W' ⟨u,rfl,hkeep,M',_,_,_,hd⟩;cases hd;have hb:=hkeep.below;refine⟨_,rfl,Qbg (pa:=p0++(p1++[])) (pv:=[]) hW' (λ_ _ _=>trodAll_cons_mk (shut_bool ZcY _) trodAll_mk0) (λsp hsp=>?_) (λ_ _=>rfl) rfl hb (ok_one (by kernel_rfl) rfl (okWide_bool_mk ZcY _))⟩;rw[Tryz.params3];refine trodAll_cons_mk (Ycn Qdg.1 Qdg.2 h0 hb hlt (λp hp=>by simp[hp]) hsp) <| trodAll_cons_mk (Ycn Xcv.1 Xcv.2 h1 hb hlt (λp hp=>by simp[hp]) hsp) trodAll_mk0
def Z1:Array Value:=#[.slice none 0 0,.slice none 0 0]
theorem Yb4(os:Os):laidMet Tryz.prog Rows.archiveBytesUptoRow.laid ((QbD os).forCall (λ_ _=>0) ⟨#[],Z1,[]⟩).memory:=
 laidMet_of_run' 8 (by kernel_rfl) (by kernel_rfl)
theorem Zbk(os:Os){H:Type}(enc:TypeId×Value→H):∃places,DataW.whole enc Tryz.prog ((QbD os).forCall (λ_ _=>0) ⟨#[],Z1,[]⟩).memory Tryz.f3.params.toList Rows.archiveBytesSpec.vars false Z1.toList 8 =
  some ([.nil,.nil],[],places):=⟨[],by kernel_rfl⟩
theorem Ya9(os:Os)(started:os.Started)(H:Type)(enc:TypeId×Value→H)(F:Stop.Interp) :
  ReturnsInHanded {} Tryz.checked os 3 .any ((Rows.OpenSpec.upto Rows.archiveBytesSpec).preRow enc Tryz.prog Tryz.f3 Rows.archiveBytesUptoRow.domain false Rows.archiveBytesUptoRow.laid) (((Rows.OpenSpec.upto Rows.archiveBytesSpec).at F).post enc Tryz.prog Tryz.f3 false true false false):=by
 obtain⟨places,hx⟩:=Zbk os enc;refine returnsInHanded_of_row (C:=Tryz.checked) (s:=Rows.OpenSpec.upto Rows.archiveBytesSpec) d_own started (by kernel_rfl) Tryz.func3
  (witness_row_atRef (enc:=enc) (C:=Tryz.checked) false (QbD os) Z1 rfl (by kernel_rfl) (by kernel_rfl) (by kernel_rfl)
   (OpenSpec.preRow_of_cond 8 hx (by kernel_rfl) (λk hk=>by cases hk; kernel_rfl) (by kernel_rfl) (Yb4 os))) ?_
 intro W base args ds gs before hval hW _ hcond _ hL _ _;exact QaL H enc W base args ds gs before hval hW (hcond _ rfl) hL
theorem Zce:Tryz.prog.funcNamed Rows.archiveBytesUptoRow.func=some 3:=by kernel_rfl
theorem Yce:(Rows.archiveBytesUptoRow.wf (OpenSpec.ofChange (Rows.OpenSpec.upto Rows.archiveBytesSpec).bare))=true:=by kernel_rfl
theorem Xce:(laidOutB Tryz.prog)=true:=by kernel_rfl
theorem Qce:(mapsRowed Tryz.prog)=true:=by kernel_rfl
theorem Zcf:(Tryz.f3.params.all (Tryz.prog.readableRec ·))=true:=by kernel_rfl
theorem Ycf:(namedTie Tryz.prog Rows.archiveBytesUptoRow.named (Rows.OpenSpec.upto Rows.archiveBytesSpec).bare.vars)=true:=by kernel_rfl
theorem Xcf:(Rows.archiveBytesUptoRow.stops==[])=true:=by kernel_rfl
theorem Qcf:(Tryz.prog.stops==[])=true:=by kernel_rfl
theorem Zcg:(Rows.archiveBytesUptoRow.knobs==[])=true:=by kernel_rfl
theorem Ycg:(Tryz.prog.stopKnobs==[])=true:=by kernel_rfl
theorem XbY:(Rows.archiveBytesUptoRow.inPlace==Tryz.prog.inPlace 3)=true:=by kernel_rfl
theorem QbY:(Rows.archiveBytesUptoRow.unfollowed==Tryz.prog.unfollowed 3)=true:=by kernel_rfl
theorem ZbZ:(Rows.archiveBytesUptoRow.recurses==Tryz.prog.recurses 3)=true:=by kernel_rfl
theorem YbZ:(Rows.archiveBytesUptoRow.named==Tryz.prog.varsNamed 3)=true:=by kernel_rfl
theorem XbZ:(Rows.archiveBytesUptoRow.maps==(Tryz.f3.params.toList++(Rows.OpenSpec.upto Rows.archiveBytesSpec).bare.plain.varTypes Tryz.prog).any (Tryz.prog.mapsRec ·))=true:=by kernel_rfl
theorem QbZ:(Rows.archiveBytesUptoRow.ifaces==(Tryz.f3.params.toList++(Rows.OpenSpec.upto Rows.archiveBytesSpec).bare.plain.varTypes Tryz.prog).any (Tryz.prog.ifacesRec ·))=true:=by kernel_rfl
theorem Zb0:(Rows.archiveBytesUptoRow.mapsOut==Tryz.prog.mapsAmong Tryz.f3.resultTypes.toList)=true:=by kernel_rfl
theorem Yb0:(Rows.archiveBytesUptoRow.loops==(Tryz.f3.params.toList++(Rows.OpenSpec.upto Rows.archiveBytesSpec).bare.plain.varTypes Tryz.prog).any (Tryz.prog.loopsFrom ·))=true:=by kernel_rfl
theorem Xb0:(Rows.archiveBytesUptoRow.wideKeys==(Tryz.f3.params.toList++(Rows.OpenSpec.upto Rows.archiveBytesSpec).bare.plain.varTypes Tryz.prog++Tryz.f3.resultTypes.toList).any (Tryz.prog.wideKeysFrom ·))=true:=by kernel_rfl
theorem Qb0:((Rows.OpenSpec.upto Rows.archiveBytesSpec).bare.vars.all (Tryz.prog.varReadable ·))=true:=by kernel_rfl
theorem Zb1:(Tryz.f3.resultTypes.all (λt=>Tryz.prog.readableRec t&&decide (t<Tryz.prog.types.size)))=true:=by kernel_rfl
theorem Yb1:(Rows.archiveBytesUptoRow.ifacesOut==Tryz.f3.resultTypes.toList.any (Tryz.prog.ifacesRec ·))=true:=by kernel_rfl
theorem Xb1:(Rows.archiveBytesUptoRow.loopsOut==Tryz.f3.resultTypes.toList.any (Tryz.prog.loopsFrom ·))=true:=by kernel_rfl
theorem Qb1:(Rows.archiveBytesUptoRow.plainKeys==Tryz.prog.plainKeys)=true:=by kernel_rfl
theorem Zb2:(Rows.archiveBytesUptoRow.shortTexts.isNone)=true:=by kernel_rfl
theorem Yb2:(Tryz.prog.stopsHeard)=true:=by kernel_rfl
theorem Xb2:(Tryz.prog.mayEnter)=true:=by kernel_rfl
theorem Qb2:(Rows.archiveBytesUptoRow.lifted==Tryz.prog.liftsFinal)=true:=by kernel_rfl
theorem Zb3:(Tryz.prog.make==some Rows.archiveBytesUptoRow.make)=true:=by kernel_rfl
theorem Yb3:(Rows.archiveBytesUptoRow.kinds==(if Rows.archiveBytesUptoRow.domain.isEmpty then [] else Tryz.f3.params.toList.map λt=>match Tryz.prog.underlying t with|some (.int k)=>some k|_=>none))=true:=by kernel_rfl
theorem Xb3:(Rows.archiveBytesUptoRow.pinned==Rows.archiveBytesUptoRow.pinnedBy)=true:=by kernel_rfl
theorem Qb3:(Rows.archiveBytesUptoRow.veiled==(Tryz.f3.params.toList++(Rows.OpenSpec.upto Rows.archiveBytesSpec).bare.plain.varTypes Tryz.prog++Tryz.f3.resultTypes.toList).any (Tryz.prog.veiledRec ·))=true:=by kernel_rfl
theorem Zb4:(Rows.archiveBytesUptoRow.veiledFits Tryz.prog Tryz.f3.params.toList (Tryz.f3.params.toList++(Rows.OpenSpec.upto Rows.archiveBytesSpec).bare.plain.varTypes Tryz.prog++Tryz.f3.resultTypes.toList))=true:=by kernel_rfl
theorem Za9:joinedFacts Tryz.prog 3 Tryz.f3 (Rows.OpenSpec.upto Rows.archiveBytesSpec).bare Rows.archiveBytesUptoRow=true:=(Qg (Qg (Qg (Qg (Qg (Qg (Qg (Qg (Qg (Qg (Qg (Qg (Qg (Qg (Qg (Qg (Qg (Qg (Qg (Qg (Qg (Qg (Qg (Qg (Qg (Qg (Qg (Qg (Qg (Qg (Qg Yce Xce) Qce) Zcf) Ycf) Xcf) Qcf) Zcg) Ycg) XbY) QbY) ZbZ) YbZ) XbZ) QbZ) Zb0) Yb0) Xb0) Qb0) Zb1) Yb1) Xb1) Qb1) Zb2) Yb2) Xb2) Qb2) Zb3) Yb3) Xb3) Qb3) Zb4)
theorem ZbB:Rows.ArchiveBytesUptoSaid:=
 OpenClaim.holds_of_cond 3 Tryz.f3 rfl rfl rfl rfl rfl rfl rfl ⟨rfl,rfl,rfl,rfl,rfl⟩ rfl rfl rfl rfl rfl Zce Tryz.func3 Za9
  (of_decide_eq_true (by kernel_rfl)) (by unfold Func.isWrapper; first|(rw[YIP (by decide +kernel)]; kernel_rfl)|(rw[YIN (by decide +kernel)]; exact⟨rfl,rfl⟩))
  (λos started H enc _ F=>by rw[OpenClaim.pre_eq_preRow]; exact Ya9 os started H enc F)
theorem Qbj(f:FuncId)(fn:Func)(hf:Tryz.pinned.checked.prog.funcNamed "baize/baizelaw28.ArchiveBytes" = some f)(hfn:Tryz.pinned.checked.prog.funcs[f]?=some fn) :
  true=Tryz.pinned.checked.prog.looks []∧∀(j:Nat) t,fn.params[j]?=some t→Tryz.pinned.checked.prog.wantsStandIn t=false:=by
 obtain rfl:f=3:=Option.some.inj ((show Tryz.prog.funcNamed "baize/baizelaw28.ArchiveBytes" = some 3 by kernel_rfl).symm.trans hf) |>.symm;obtain rfl:fn=Tryz.f3:=(Option.some.inj (Tryz.func3.symm.trans hfn)).symm;refine⟨by kernel_rfl,λj t ht=>?_⟩;rw[Tryz.params3] at ht;have hm:t∈[QaU,QS]:=by simpa using Array.mem_of_getElem? ht
 have hall:([QaU,QS].all λu=>!Tryz.prog.wantsStandIn u)=true:=by kernel_rfl
 exact(show Tryz.prog.wantsStandIn t=false by simpa using List.all_eq_true.1 hall t hm)
theorem archiveBytes_upto_card:Rows.ArchiveBytesUptoCardSaid:=
 Claim7.holds_tied_plain_at .later [] _ _ _ _ ZbB (λ_ h=>by cases h) (by kernel_rfl) (λ_ h=>by cases h) archiveBytesUpto_row_tie rfl ⟨rfl,rfl⟩ (by kernel_rfl) rfl Qbj (by kernel_rfl)
#print axioms archiveBytes_upto_card
end Go.Proofs.YtflkgbeolnbadaaGreatDoor
end
