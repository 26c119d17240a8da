/- Part of the proof that EffectParts holds of the program for arguments that together hold at most 1048576 values and letters; no other condition. -/
import Derived.Test.YtklmhbamnghbhaaGreatDoorZ3
import Derived.Sort.OwnSortedInts
import Derived.Recover
set_option linter.all false
section
namespace Go.Ah.Tz
open Go.Proofs.Tryz (prog)
theorem NCall.case1{P:Program}{GL:Globs}{f:FuncId}{e:Bool}{sz:Nat}{v:AVal}{bs:List ABlk}(h1:NCall P GL f [.nils] v bs)(h2:NCall P GL f [.rsl e true sz []] v bs):NCall P GL f [.rsl e false sz []] v bs:=by
 intro w M vs hM hg hx
 match vs,hx with
 |[u],⟨hu,_⟩=>
  have hu':Den M noOwn (.rsl e false sz []) u:=hu;cases hu' with
  |rsl _ _ _ _ _ a cap blk off f q1 q2 q3 q4 q5 q6 q7 q8=>
   cases a with
   |none=>
    have:=q4 rfl;subst this;exact h1 w M _ hM hg ⟨.nils _,trivial⟩
   |some p=>exact h2 w M _ hM hg ⟨.rsl _ e true sz [] (some p) cap blk off f q1 (λ_=>rfl) q3 q4 q5 q6 q7 q8,trivial⟩
attribute [local irreducible] Ans.rd Ans.pu Ans.wr Ans.dr Ans.gr Ans.gw Ans.gl Ans.gd Ans.opt joinK W
theorem c96(l:List Int)(hl:l.length≤1000000000):NCall prog GL0 31 [rowV l] (.sl 0 0 l.length false) [.rows 1 (l.map cel)]:=by
 cases l with
 |nil=>
  refine NCall.case1 ?_ ?_
  ·refine Zw hP g31.ok rfl ?_;rw[H1.e]; unfold g31; dsimp only;exact Za rfl (Yd (Tidy.ghost 1 (.inl rfl)))
  ·refine Zw hP g31.ok rfl ?_;rw[H1.e]; unfold g31; dsimp only;exact Za rfl (Yc (Za rfl (Qa rfl rfl (Tidy.trans (Tidy.weak λM c u d=>ZQ (.rsl true true 1 []) ⟨M,c⟩ u d) (Tidy.ghost 1 (.inr rfl))))))
 |cons x l=>
  refine Zw hP g31.ok rfl ?_;rw[H1.e]; unfold g31; dsimp only;refine Za rfl (Yc (Za rfl ?_));refine Qa (v:=.sl 0 0 (x :: l).length false) (rd:=[]) (up:=[(0,.rows 1 ((x :: l).map cel))]) ?_ rfl (Tidy.refl _ _);show (match Xr 1 [] (rowV (x :: l)) with
   |some (ys,rd)=>bif Zv ys&&Nat.ble ((2*(([]:List (List AVal)).length+ys.length)+192)*8) (2 ^ 48) then SRes.ok (.sl 0 0 (([]:List (List AVal)).length+ys.length) false) rd ([]++[(0,ABlk.rows 1 ([]++ys))]) else SRes.stop
   | none=>.stop)=_
  have h1:Xr 1 [] (rowV (x::l))=some ((x::l).map cel,[]):=rfl;have h2:∀q:List Int,Zv (q.map cel)=true:=by
   intro q; induction q with
   |nil=>rfl
   |cons y q ih=>simp only[List.map_cons,Zv,ih,Bool.and_true]; rfl
  have h3:Nat.ble ((2*(([]:List (List AVal)).length+((x::l).map cel).length)+192)*8) (2 ^ 48)=true:=Nat.ble_eq_true_of_le (by simp only[List.length_map,List.length_nil]; omega);simp only[h1,h2,h3,Bool.and_self,cond_true];simp
theorem w96{l:List Int}(hl:l.length≤1000000000){σ:List ABlk}{K:AVal→List ABlk→Prop}(hK:K (.sl σ.length 0 l.length false) (σ++[.rows 1 (l.map cel)])):VV.call (.call 31) [rowV l] σ K:=by
 refine Xbm (c96 l hl) rfl g31.ok.plain rfl ?_;simp only[Yv,List.map_cons,List.map_nil,Qs,AVal.ren,ZE,Nat.zero_add];exact hK
theorem d96{l:List Int}(hl:l.length≤1000000000){σ:List ABlk}{K:AVal→List Nat×List Nat→List ABlk→Prop}(hK:K (.sl σ.length 0 l.length false) ([],[σ.length]) (σ++[.rows 1 (l.map cel)])):VV.dcall (.call 31) [rowV l] σ K:=by
 refine QaT (c96 l hl) rfl g31.ok.plain rfl ?_;simp only[Yv,List.map_cons,List.map_nil,Qs,AVal.ren,ZE,Nat.zero_add,Q0];exact hK
theorem c112(l:List Th)(hl:l.length≤1000000000):NCall prog GL0 32 [thV l] (.sl 0 0 l.length false) [.rows 4 (l.map thC)]:=by
 cases l with
 |nil=>
  refine NCall.case1 ?_ ?_
  ·refine Zw hP g32.ok rfl ?_;rw[H1.e]; unfold g32; dsimp only;exact Za rfl (Yd (Tidy.ghost 4 (.inl rfl)))
  ·refine Zw hP g32.ok rfl ?_;rw[H1.e]; unfold g32; dsimp only;exact Za rfl (Yc (Za rfl (Qa rfl rfl (Tidy.trans (Tidy.weak λM c u d=>ZQ (.rsl true true 4 []) ⟨M,c⟩ u d) (Tidy.ghost 4 (.inr rfl))))))
 |cons x l=>
  refine Zw hP g32.ok rfl ?_;rw[H1.e]; unfold g32; dsimp only;refine Za rfl (Yc (Za rfl ?_));refine Qa (v:=.sl 0 0 (x :: l).length false) (rd:=[]) (up:=[(0,.rows 4 ((x :: l).map thC))]) ?_ rfl (Tidy.refl _ _);show (match Xr 4 [] (thV (x :: l)) with
   |some (ys,rd)=>bif Zv ys&&Nat.ble ((2*(([]:List (List AVal)).length+ys.length)+192)*32) (2 ^ 48) then SRes.ok (.sl 0 0 (([]:List (List AVal)).length+ys.length) false) rd ([]++[(0,ABlk.rows 4 ([]++ys))]) else SRes.stop
   | none=>.stop)=_
  have h1:Xr 4 [] (thV (x::l))=some ((x::l).map thC,[]):=rfl;have h2:∀q:List Th,Zv (q.map thC)=true:=by
   intro q; induction q with
   |nil=>rfl
   |cons y q ih=>simp only[List.map_cons,Zv,ih,Bool.and_true]; rfl
  have h3:Nat.ble ((2*(([]:List (List AVal)).length+((x::l).map thC).length)+192)*32) (2 ^ 48)=true:=Nat.ble_eq_true_of_le (by simp only[List.length_map,List.length_nil]; omega);simp only[h1,h2,h3,Bool.and_self,cond_true];simp
theorem d112{l:List Th}(hl:l.length≤1000000000){σ:List ABlk}{K:AVal→List Nat×List Nat→List ABlk→Prop}(hK:K (.sl σ.length 0 l.length false) ([],[σ.length]) (σ++[.rows 4 (l.map thC)])):VV.dcall (.call 32) [thV l] σ K:=by
 refine QaT (c112 l hl) rfl g32.ok.plain rfl ?_;simp only[Yv,List.map_cons,List.map_nil,Ybu,AVal.ren,ZE,Nat.zero_add,Q0];exact hK
theorem c59(s:St)(hs:StLe 1000000000 s):NCall prog GL0 18 [stV s] (.agg (stO s 0)) (stB s):=by
 refine Zw hP g18.ok rfl ?_;rw[H1.e]; unfold g18; dsimp only;have w1:IntKind.i64.wrap (0+1)=1:=by decide
 have w2:IntKind.i64.wrap (1+1)=2:=by decide
 repeat first|refine Za rfl ?_|refine Qa rfl rfl ?_|refine Xb rfl ?_|refine Zd rfl rfl ?_
 refine w96 hs.attack ?_;simp only[List.length_cons,List.length_nil,List.nil_append,List.cons_append,Nat.zero_add,Nat.reduceAdd];repeat first|refine Za rfl ?_|refine Qa rfl rfl ?_|refine Xb rfl ?_|refine Zd rfl rfl ?_
 refine QP 3 (Qk ?_);refine Za rfl (Yd ?_);repeat first|refine Za rfl ?_|refine Qa rfl rfl ?_|refine Xb rfl ?_|refine Zd rfl rfl ?_
 refine d96 hs.s0.deck ?_;simp only[List.length_cons,List.length_nil,List.nil_append,List.cons_append,Nat.zero_add,Nat.reduceAdd];repeat first|refine Za rfl ?_|refine Qa rfl rfl ?_|refine Xb rfl ?_|refine Zd rfl rfl ?_
 refine d96 hs.s0.hand ?_;simp only[List.length_cons,List.length_nil,List.nil_append,List.cons_append,Nat.zero_add,Nat.reduceAdd];repeat first|refine Za rfl ?_|refine Qa rfl rfl ?_|refine Xb rfl ?_|refine Zd rfl rfl ?_
 refine d96 hs.s0.grave ?_;simp only[List.length_cons,List.length_nil,List.nil_append,List.cons_append,Nat.zero_add,Nat.reduceAdd];repeat first|refine Za rfl ?_|refine Qa rfl rfl ?_|refine Xb rfl ?_|refine Zd rfl rfl ?_
 refine d96 hs.s0.told ?_;simp only[List.length_cons,List.length_nil,List.nil_append,List.cons_append,Nat.zero_add,Nat.reduceAdd];repeat first|refine Za rfl ?_|refine Qa rfl rfl ?_|refine Xb rfl ?_|refine Zd rfl rfl ?_
 refine d112 hs.s0.units ?_;simp only[List.length_cons,List.length_nil,List.nil_append,List.cons_append,Nat.zero_add,Nat.reduceAdd];repeat first|refine Za rfl ?_|refine Qa rfl rfl ?_|refine Xb rfl ?_|refine Zd rfl rfl ?_
 refine Yn (by kernel_rfl) (Za rfl ?_);rw[w1];refine Qk ?_;refine Za rfl (Yd ?_);repeat first|refine Za rfl ?_|refine Qa rfl rfl ?_|refine Xb rfl ?_|refine Zd rfl rfl ?_
 refine d96 hs.s1.deck ?_;simp only[List.length_cons,List.length_nil,List.nil_append,List.cons_append,Nat.zero_add,Nat.reduceAdd];repeat first|refine Za rfl ?_|refine Qa rfl rfl ?_|refine Xb rfl ?_|refine Zd rfl rfl ?_
 refine d96 hs.s1.hand ?_;simp only[List.length_cons,List.length_nil,List.nil_append,List.cons_append,Nat.zero_add,Nat.reduceAdd];repeat first|refine Za rfl ?_|refine Qa rfl rfl ?_|refine Xb rfl ?_|refine Zd rfl rfl ?_
 refine d96 hs.s1.grave ?_;simp only[List.length_cons,List.length_nil,List.nil_append,List.cons_append,Nat.zero_add,Nat.reduceAdd];repeat first|refine Za rfl ?_|refine Qa rfl rfl ?_|refine Xb rfl ?_|refine Zd rfl rfl ?_
 refine d96 hs.s1.told ?_;simp only[List.length_cons,List.length_nil,List.nil_append,List.cons_append,Nat.zero_add,Nat.reduceAdd];repeat first|refine Za rfl ?_|refine Qa rfl rfl ?_|refine Xb rfl ?_|refine Zd rfl rfl ?_
 refine d112 hs.s1.units ?_;simp only[List.length_cons,List.length_nil,List.nil_append,List.cons_append,Nat.zero_add,Nat.reduceAdd];repeat first|refine Za rfl ?_|refine Qa rfl rfl ?_|refine Xb rfl ?_|refine Zd rfl rfl ?_
 refine Yn (by kernel_rfl) (Za rfl ?_);rw[w2];refine Qk ?_;refine Za rfl (Yc ?_);repeat first|refine Za rfl ?_|refine Qa rfl rfl ?_|refine Xb rfl ?_|refine Zd rfl rfl ?_
 refine Yi rfl ?_;refine Tidy.gc [2,3,4,5,7,6,8,9,10,12,11] (by decide) (by simp) ?_ rfl;simp only[gcH,List.map_cons,List.map_nil,hget,Qs,Ybu]
end Go.Ah.Tz
end
section
namespace Go.Ah.Tz
open Go.Proofs.Tryz (prog)
def ilook{α:Type}(t:Int):List (Int×α)→Option α
 |[]=>none
 |p::l=>if t==p.1 then some p.2 else ilook t l
def mpG{α:Type}(f:α→AVal)(l:List (Int×α)):List (AVal×AVal):=l.map λp=>(iv p.1,f p.2)
theorem Ybw{α:Type}(f:α→AVal)(t:Int):∀l:List (Int×α),alook (iv t) (mpG f l)=some ((ilook t l).map f)
 |[]=>rfl
 |p::l=>by
  simp only[mpG,List.map_cons,alook,keyEq,ilook,ikEq,cond_true];cases h:t==p.1 with
  |true=>rfl
  |false=>exact Ybw f t l
theorem XbY{α:Type}(f:α→AVal)(t:Int)(v:α):∀l:List (Int×α),ilook t l=none→aput (iv t) (f v) (mpG f l)=some (mpG f (l++[(t,v)]))
 |[],_=>rfl
 |p::l,h=>by
  rw[ilook] at h;split at h
  ·cases h
  ·rename_i h2;have h2:(t==p.1)=false:=by simpa using h2
   have:=XbY f t v l h;simp only[mpG] at this;simp only[mpG,List.map_cons,List.cons_append,aput,keyEq,ikEq,cond_true,h2,this]
theorem QaJ{α:Type}(t:Int):∀ (a b:List (Int × α)),ilook t (a ++ b)=(match ilook t a with
 |some v=>some v
 | none=>ilook t b)
 |[],b=>rfl
 |p::a,b=>by
  simp only[List.cons_append,ilook];split
  ·rfl
  ·exact QaJ t a b
theorem QaE{α:Type}(t:Int):∀l:List (Int×α),(ilook t l).isSome=(l.map (·.1)).contains t
 |[]=>rfl
 |p::l=>by
  simp only[ilook,List.map_cons,List.contains_cons];cases h:t==p.1 with
  |true=>simp
  |false=>simp only[Bool.false_eq_true,if_false,Bool.false_or]; exact QaE t l
theorem QbQ{α:Type}(f:α→AVal)(z:AVal)(ok:Bool){σ:List ABlk}{b:Nat}{l:List (Int×α)}(h:hget σ b=.map (mpG f l))(t:Int):Xu false ok z [.map b,iv t] σ=.ok (lookV ok z ((ilook t l).map f)) [b] []:=by
 simp only[Xu,Zab,mapOf,h,Ybw,cond_true]
theorem Xdf{α:Type}(f:α→AVal){σ:List ABlk}{b:Nat}{l:List (Int×α)}(h:hget σ b=.map (mpG f l))(t:Int)(v:α)(hn:ilook t l=none):XA false [.map b,iv t,f v] σ=.ok .junk [] [(b,.map (mpG f (l++[(t,v)])))]:=by
 simp only[XA,Zab,h,XbY f t v l hn,cond_true]
structure SdAt (row:List AVal) (j:Nat) (x:Sd):Prop where
 h0:partA false (j+0) 1 row=some (iv x.life)
 h1:partA false (j+1) 1 row=some (iv x.mana)
 h2:partA false (j+2) 1 row=some (iv x.most)
 h3:partA false (j+3) 1 row=some (rowV x.deck)
 h4:partA false (j+4) 1 row=some (rowV x.hand)
 h5:partA false (j+5) 1 row=some (rowV x.grave)
 h6:partA false (j+6) 1 row=some (thV x.units)
 h7:partA false (j+7) 1 row=some (rowV x.told)
theorem sdAt0(s:St):SdAt (stC s) 7 s.s0:=⟨rfl,rfl,rfl,rfl,rfl,rfl,rfl,rfl⟩
theorem sdAt1(s:St):SdAt (stC s) 15 s.s1:=⟨rfl,rfl,rfl,rfl,rfl,rfl,rfl,rfl⟩
attribute [local irreducible] Ans.rd Ans.pu Ans.wr Ans.dr Ans.gr Ans.gw Ans.gl Ans.gd Ans.opt joinK W
set_option maxHeartbeats 2000000
theorem c120(l:List Int)(hl:l.length≤big)(id:FuncId)(fs cs:List AVal)(hp:Zh prog id=true)(f:Int→Bool)(hc:∀x∈l,PC id (fs++[iv x]++cs) (.bool (f x)))(hr:∀x,roL (fs++[iv x]++cs)=true) :
  PC 84 [rowV l,.func (.func id) fs cs] (iv (idxF f l 0)):=by
 rw[bigE] at hl;refine Qb hP g84.ok rfl rfl ?_;rw[H2.e]; unfold g84; dsimp only;refine Za (v:=iv l.length) (rd:=[]) (by simp[Qd]) ?_;refine Xn (ι:=Nat) (λi vs s=>vs=[iv i]∧i≤l.length∧idxF f l 0=idxF f (l.drop i) i) (λi=>l.length-i) 0 ⟨rfl,by omega,by simp⟩ ?_;rintro i vs s again ⟨rfl,hi,hr'⟩ hag;refine Za rfl (Zb (λh=>?_) (λh=>?_))
 ·have h:i<l.length:=by simpa using h
  refine Za (Xw _ cel _ _ _ l _ i h) (Za (ldr rfl) ?_);refine Zc (hc _ (List.getElem_mem h)) rfl hp (hr _) ?_;rw[YLD h,idxF] at hr';refine Zb (λh2=>?_) (λh2=>?_)
  ·rw[if_pos h2] at hr'; rw[hr']; rfl
  ·rw[if_neg (by rw[h2]; simp)] at hr';refine Za (Zl ..) ?_;rw[Zg (n:=i) (by omega)];exact hag (i+1) _ _ (by omega) ⟨rfl,by omega,by rw[hr']; push_cast; rfl⟩
 ·have h:i=l.length:=by simp at h; omega
  subst h;rw[List.drop_length,idxF] at hr';rw[hr']
theorem c185(l:List Int)(hl:l.length≤big)(id:FuncId)(fs cs:List AVal)(hp:Zh prog id=true)(f:Int→Bool)(hc:∀x∈l,PC id (fs++[iv x]++cs) (.bool (f x)))(hr:∀x,roL (fs++[iv x]++cs)=true)(hr2:roL [rowV l,.func (.func id) fs cs]=true) :
  PC 65 [rowV l,.func (.func id) fs cs] (.bool (l.any f)):=by
 refine Qb hP g65.ok rfl rfl ?_;rw[H2.e]; unfold g65; dsimp only;refine Zc (c120 l hl id fs cs hp f hc hr) rfl g84.ok.plain hr2 ?_;refine Za (Yaa ..) ?_;rw[YaR f l 0 (by omega)]
theorem c186(b:Bk)(x:Int):PC 66 [iv x,.rptr [.rptr [cdV b.cards,foV b.formats] 0] 0] (.bool (decide (x<0)||decide ((b.cards.length:Int)≤x))):=by
 refine Qb hP g66.ok rfl rfl ?_;rw[H2.e]; unfold g66; dsimp only;refine Za (QL ..) ?_;refine Xbl (λ_=>rfl) (λ_=>ldr rfl) (λ_=>rfl) (λ_=>rfl) (λ_=>ldr rfl) (v6:=iv b.cards.length) (q6:=[]) (λ_=>by simp[Qd]) (λ_=>Yaa ..) rfl
theorem Xcc(n:Nat)(l:List Int)(most:Int):(!(decide ((l.length:Int)>most)||l.any λx=>decide (x<0)||decide ((n:Int)≤x)))=Yp n l most:=by
 rw[Yp,Bool.not_or,XcN]
 congr 1
 ·rw[Bool.eq_iff_iff]; simp
 ·congr 1; funext x
  rw[Bool.eq_iff_iff]; simp
end Go.Ah.Tz
end
section
namespace Go.Ah.Tz
open Go.Proofs.Tryz (prog)
theorem Zc7(f:Int→AVal)(z:AVal)(o:Option Int):lookV true z (o.map f)=.tup [(o.map f).getD z,.bool o.isSome]:=by cases o<;>rfl
theorem Qct{σ:List ABlk}{b:Nat}{row:List AVal}(h:hget σ b=.box [.rptr row 0])(l:List Int)(id:FuncId):Zs σ 1000 [rowV l,.func (.func id) [] [.bptr b 0]]=some ([rowV l,.func (.func id) [] [.rptr [.rptr row 0] 0]],[b]):=by
 show Zs σ (997+1+1+1) _=_;simp[Zs,h,AVal.ro]
attribute [local irreducible] Ans.rd Ans.pu Ans.wr Ans.dr Ans.gr Ans.gw Ans.gl Ans.gd Ans.opt joinK W
set_option maxHeartbeats 4000000
@[reducible] def bkC(b:Bk):List AVal:=[cdV b.cards,foV b.formats]
theorem Xb5(b:Bk)(l:List Int)(hl:l.length≤big)(most:Int){σ:List ABlk}{b4:Nat}(hb:hget σ b4=.box [.rptr (bkC b) 0]){R K:List ABlk→Prop}(hR:Yp b.cards.length l most=false→∀σ',Old σ σ'→R σ')(hK:Yp b.cards.length l most=true→∀σ',Old σ σ'→K σ') :
  VV.wr (Zx [.nils,(.int .i64 0)] [] σ) σ λt11_62 σ=>VV.wr (Yo 2 [t11_62,.agg [rowV l,iv most]] σ) σ λ_ σ=>
  VV.rd (Qc 0 [t11_62] σ) λt88_63=>VV.rd (Zk false 1 [t88_63] σ) λt89_64=>VV.rd (Qp [t89_64] σ) λt90_65=>
  VV.rd (Qc 1 [t11_62] σ) λt91_66=>VV.rd (Zk false 1 [t91_66] σ) λt92_67=>VV.rd (Qm .gtr false [t90_65,t92_67] σ) λt93_68=>
  VV.gr t93_68 false (λk=>VV.rd (Qc 0 [t11_62] σ) k) λt95_69=>VV.gr t93_68 false (λk=>VV.rd (Zk false 1 [t95_69] σ) k) λt96_70=>
  VV.gr t93_68 false (λk=>VV.rd (ZN (.func 66) 0 [.bptr b4 0] σ) k) λt97_71=>VV.gw t93_68 false (λk=>VV.call (.call 65) [t96_70,t97_71] σ k) σ λt98_72 σ=>
  VV.rd (Ql [t93_68,(.bool true),t98_72] σ) λt99_73=>VV.test t99_73 (R σ) (K σ):=by
 refine XG (row:=[rowV l,iv most]) rfl rfl rfl ?_;have hB:=Zf σ (ABlk.box [rowV l,iv most]);have hb':hget (σ++[ABlk.box [rowV l,iv most]]) b4=.box [.rptr (bkC b) 0]:=Ze _ hb (by simp);have ho:=Old.app σ [ABlk.box [rowV l,iv most]];generalize σ++[ABlk.box [rowV l,iv most]]=τ at hB hb' ho ⊢;generalize σ.length=c at hB ⊢;refine Za rfl (Za (ld hB rfl) (Za (v:=iv l.length) (rd:=[]) (by simp[Qd]) (Za rfl (Za (ld hB rfl) (Za (Z5 ..) ?_)))));refine QcV (d:=l.any λx=>decide (x<0)||decide ((b.cards.length:Int)≤x)) (λ_=>rfl) (λ_=>ld hB rfl) (λ_=>rfl) (λ_ k hk=>?_) ?_
 ·exact ZJ (c185 l hl 66 [] [.rptr [.rptr (bkC b) 0] 0] g66.ok.plain (λx=>decide (x<0)||decide ((b.cards.length:Int)≤x)) (λx _=>c186 b x) (λx=>rfl) rfl) rfl g65.ok.plain (Qct hb' l 66) rfl hk
 have he:=Xcc b.cards.length l most;refine Zb (λh=>hR ?_ _ ho) (λh=>hK ?_ _ ho)
 ·rw[←he,h]; rfl
 ·rw[←he,h]; rfl
theorem Qdv(b:Bk)(next:Int)(u:Th)(met:Bool) :
  (!((((((((met||decide (u.card<0))||decide ((b.cards.length:Int)≤u.card)) || !((b.cards[u.card.toNat]?).getD default).unit)||decide (u.harm<0))||decide (1000000<u.harm))||decide (u.id<1))||decide (next≤u.id))))=(QC b next u && !met):=by
 rw[QC];cases met with
 |true=>simp
 |false=>
  by_cases h1:u.card<0
  ·have:¬0≤u.card:=by omega
   simp[h1,this]
  by_cases h2:(b.cards.length:Int)≤u.card
  ·have:¬u.card<b.cards.length:=by omega
   simp[h2,this]
  have e1:0≤u.card:=by omega
  have e2:u.card<b.cards.length:=by omega
  have e3:u.card.toNat<b.cards.length:=by omega
  simp only[h1,h2,e1,e2,decide_true,decide_false,Bool.or_false,Bool.true_and,Bool.not_false,Bool.and_true,Bool.false_or];rw[List.getElem?_eq_getElem e3];simp only[Option.map_some,Option.getD_some];generalize b.cards[u.card.toNat].unit=q;rw[Bool.eq_iff_iff];cases q<;>simp<;>omega
theorem c144(b:Bk)(s:St)(side:Int)(j:Nat)(x:Sd)(hx:SdAt (stC s) j x)(hj:∀σ,Qt 2 8 [.rptr (stC s) (0+7),iv side] σ=.ok (.rptr (stC s) j) [] [])(hs:SdLe 1000000000 x)(ids:List (Int×Int)){m:Nat}{σ:List ABlk}(hm:hget σ m=.map (mpG iv ids)){K:AVal→List ABlk→Prop}
 (hF:(YE b.cards.length x&&YD b s.next (ids.map (·.1)) x.units)=false→∀σ',K (.bool false) σ')
 (hT:(YE b.cards.length x&&YD b s.next (ids.map (·.1)) x.units)=true→∀σ',Bt m σ σ'→hget σ' m=.map (mpG iv (ids++x.units.map λu=>(u.id,side)))→K (.bool true) σ') :
  g43.u VV [.rptr (bkC b) 0,.rptr (stC s) 0,iv side,.map m] σ K:=by
 rw[H4.e]; unfold g43; dsimp only;refine Qa rfl (Yk _ _) ?_;have hB:=Zf σ (ABlk.box [.rptr (bkC b) 0]);have hm':hget (σ++[ABlk.box [.rptr (bkC b) 0]]) m=.map (mpG iv ids):=Ze _ hm (by simp);have ho:=Old.app σ [ABlk.box [.rptr (bkC b) 0]];have hml:=Xi hm (by simp);have hne:m≠σ.length:=by omega
 generalize σ++[ABlk.box [.rptr (bkC b) 0]]=τ at hB hm' ho ⊢;generalize σ.length=c at hB hne ⊢;refine Za rfl (Za rfl (Za (hj _) (Za rfl (Za rfl (Za (ldr hx.h0) ?_)))));refine Zc (c57 _) rfl g64.ok.plain rfl (Za rfl ?_);refine XbL (λ_=>rfl) (λ_=>rfl) (λ_=>rfl) (λ_=>ldr hx.h1) (λ_=>QL ..) ?_;refine ZcW (λ_=>rfl) (λ_=>rfl) (λ_=>rfl) (λ_=>ldr hx.h1) (λ_ k hk=>Zc (c57 _) rfl g64.ok.plain rfl hk) (λ_=>rfl) ?_;refine XbL (λ_=>rfl) (λ_=>rfl) (λ_=>rfl) (λ_=>ldr hx.h2) (λ_=>QL ..) ?_;refine XbL (λ_=>rfl) (λ_=>rfl) (λ_=>rfl) (λ_=>ldr hx.h2) (λ_=>Z5 ..) ?_;refine Xdh (λ_=>rfl) (λ_=>rfl) (λ_=>rfl) (λ_=>ldr hx.h6) (v5:=iv x.units.length) (q5:=[]) (λ_=>by simp[Qd]) (λ_=>Z5 ..) ?_;refine Zb (λh=>hF ?_ _) (λh=>?_)
 ·have:YE b.cards.length x=false:=by
   rw[Bool.eq_false_iff]; intro hh;simp only[YE,Bool.and_eq_true,decide_eq_true_eq] at hh;obtain⟨p1,p2,p3,p4,p5,_,_,_,_,p6⟩:=hh;simp only[p1,p3,Bool.not_true,Bool.false_or,Bool.or_false,Bool.or_eq_true,decide_eq_true_eq] at h;omega
  rw[this]; rfl
 simp only[Bool.or_eq_false_iff,Bool.not_eq_false',decide_eq_false_iff_not] at h;obtain⟨⟨⟨⟨⟨p1,p2⟩,p3⟩,p4⟩,p5⟩,p6⟩:=h;have hh:YE b.cards.length x=(Yp b.cards.length x.deck 60&&(Yp b.cards.length x.hand 10&&(Yp b.cards.length x.grave 1000000&&Yp b.cards.length x.told 1000000))):=by
  have q2:decide (0≤x.mana)=true:=by simp; omega
  have q4:decide (0≤x.most)=true:=by simp; omega
  have q5:decide (x.most≤10)=true:=by simp; omega
  have q6:decide (x.units.length≤7)=true:=by simp; omega
  rw[YE,p1,p3,q2,q4,q5,q6]; simp
 rw[hh] at hF hT;clear hh p1 p2 p3 p4 p5 p6;refine Za rfl (Za rfl (Za (ldr hx.h3) (Za rfl (Za rfl (Za rfl (Za (ldr hx.h4) (Za rfl (Za rfl (Za rfl (Za (ldr hx.h5) (Za rfl (Za rfl (Za rfl (Za (ldr hx.h7) (Za rfl (Za rfl ?_))))))))))))))));have d1:=hs.deck;have d2:=hs.hand;have d3:=hs.grave;have d4:=hs.told;have d5:=hs.units;refine QP 5 (Qk (Za rfl (Yd (Za rfl ?_))));refine Xb5 b x.deck (by rw[bigE]; omega) 60 hB (λh _ _=>hF (by rw[h]; rfl) _) (λa1 σ1 o1=>Za rfl (Qk (Za rfl (Yd (Za rfl ?_)))));refine Xb5 b x.hand (by rw[bigE]; omega) 10 (o1.get hB (by simp)) (λh _ _=>hF (by rw[a1,h]; rfl) _) (λa2 σ2 o2=>Za rfl (Qk (Za rfl (Yd (Za rfl ?_)))))
 replace o2:=o1.trans o2
 refine Xb5 b x.grave (by rw[bigE]; omega) 1000000 (o2.get hB (by simp)) (λh _ _=>hF (by rw[a1,a2,h]; rfl) _) (λa3 σ3 o3=>Za rfl (Qk (Za rfl (Yd (Za rfl ?_)))))
 replace o3:=o2.trans o3
 refine Xb5 b x.told (by rw[bigE]; omega) 1000000 (o3.get hB (by simp)) (λh _ _=>hF (by rw[a1,a2,a3,h]; rfl) _) (λa4 σ4 o4=>Za rfl (Qk (Za rfl (Yc ?_))))
 replace o4:=o3.trans o4
 rw[a1,a2,a3,a4] at hF hT;simp only[Bool.and_self,Bool.true_and] at hF hT;have hB4:=o4.get hB (by simp);have hm4:=o4.get hm' (by simp);have oo:=ho.trans o4;clear o1 o2 o3 o4 ho hB hm' hm;refine Za rfl (Za rfl (Za (ldr hx.h6) (Za (v:=iv x.units.length) (rd:=[]) (by simp[Qd]) ?_)));refine Xn (ι:=Nat) (λi vs τ=>vs=[iv i]∧i≤x.units.length∧hget τ c=.box [.rptr (bkC b) 0]∧hget τ m=.map (mpG iv (ids++(x.units.take i).map λu=>(u.id,side)))∧Bt m σ τ∧YD b s.next (ids.map (·.1)) x.units=YD b s.next ((ids++(x.units.take i).map λu=>(u.id,side)).map (·.1)) (x.units.drop i)) (λi=>x.units.length-i) 0
  ⟨rfl,by omega,hB4,by simpa using hm4,⟨oo.1,λc hc _=>oo.2 c hc⟩,by simp⟩ ?_
 clear hB4 hm4 oo;rintro i vs τ1 again ⟨rfl,hi,hB,hm,hbt,hr⟩ hag;refine Za rfl (Zb (λh=>?_) (λh=>?_));rotate_left
 ·have h:i=x.units.length:=by simp at h; omega
  subst h;rw[List.drop_length,YD] at hr;rw[List.take_length] at hm;exact hT hr _ hbt hm
 have h:i<x.units.length:=by simpa using h
 have hix:=λ(s:List ABlk)=>Xw s thC false false 4 x.units .i64 i h;have htk:=XI _ _ h;rw[YLD h,YD] at hr;generalize x.units[i]=u at hix htk hr;generalize hq:ids++(x.units.take i).map (λu=>(u.id,side))=cur at hm hr;have hcur:ids++(x.units.take (i+1)).map (λu=>(u.id,side))=cur++[(u.id,side)]:=by rw[htk,List.map_append,←List.append_assoc,hq]; rfl
 refine Za (hix _) (Za (ldr rfl) (XG (row:=thC u) (row':=thC u) rfl rfl rfl ?_));have hU:=Zf τ1 (ABlk.box (thC u));have hB':hget (τ1++[ABlk.box (thC u)]) c=.box [.rptr (bkC b) 0]:=Ze _ hB (by simp);have hm':hget (τ1++[ABlk.box (thC u)]) m=.map (mpG iv cur):=Ze _ hm (by simp);have hml':=Xi hm' (by simp);have hbt':Bt m σ (τ1++[ABlk.box (thC u)]):=hbt.trans (Bt.gr m (Old.app _ _).1 (Old.app _ _).2);generalize τ1++[ABlk.box (thC u)]=τ2 at hU hB' hm' hml' hbt' ⊢;generalize τ1.length=d at hU ⊢;refine Za rfl (Za (ld hU rfl) (Za (QbQ iv _ _ hm' _) ?_));rw[Zc7];refine Za rfl (Za rfl ?_);refine ZaM (λ_=>rfl) (λ_=>ld hU rfl) (λ_=>QL ..) ?_;refine XdJ (λ_=>rfl) (λ_=>ld hU rfl) (λ_=>ld hB' rfl) (λ_=>rfl) (λ_=>rfl) (λ_=>ldr rfl) (v7:=iv b.cards.length) (q7:=[]) (λ_=>by simp[Qd]) (λ_=>Yaa ..) ?_;refine Xdt (d:=!((b.cards[u.card.toNat]?).getD default).unit) (λ_=>ld hB' rfl) (λ_=>rfl) (λ_=>rfl) (λ_=>ldr rfl) (λ_=>rfl) (λ_=>ld hU rfl) (v7:=.rptr (cdC ((b.cards[u.card.toNat]?).getD default)) 0) (q7:=[]) (λhc=>?_) (λ_=>rfl) (λ_=>ldr (cdLd1 _)) (λ_=>rfl) ?_
 ·simp only[Bool.or_eq_false_iff,decide_eq_false_iff_not] at hc;have e3:u.card.toNat<b.cards.length:=by omega
  rw[List.getElem?_eq_getElem e3];exact Xbz _ cdC _ _ _ b.cards _ u.card (by omega) e3
 refine ZaM (λ_=>rfl) (λ_=>ld hU rfl) (λ_=>QL ..) ?_;refine ZaM (λ_=>rfl) (λ_=>ld hU rfl) (λ_=>Z5 ..) ?_;refine ZaM (λ_=>rfl) (λ_=>ld hU rfl) (λ_=>QL ..) ?_;refine Xbl (λ_=>rfl) (λ_=>ld hU rfl) (λ_=>rfl) (λ_=>rfl) (λ_=>rfl) (v6:=iv s.next) (q6:=[]) (λ_=>ldr rfl) (λ_=>Yaa ..) ?_;have hue:=Qdv b s.next u (ilook u.id cur).isSome;have hk:=QaE u.id cur;refine Zb (λh2=>hF ?_ _) (λh2=>?_)
 ·rw[h2] at hue;rw[hr,←hk];have hue:(QC b s.next u && !(ilook u.id cur).isSome)=false:=hue.symm;cases h5:QC b s.next u with
  |false=>rfl
  |true=>
   rw[h5] at hue;have:(ilook u.id cur).isSome=true:=by simpa using hue
   rw[this]; rfl
 ·rw[h2] at hue;have hue:(QC b s.next u && !(ilook u.id cur).isSome)=true:=hue.symm;simp only[Bool.and_eq_true,Bool.not_eq_true'] at hue;have hnone:ilook u.id cur=none:=by
   have:=hue.2;cases h5:ilook u.id cur with
   |none=>rfl
   |some v=>rw[h5] at this; cases this
  rw[hue.1,←hk,hue.2,Bool.not_false,Bool.true_and,Bool.true_and] at hr;refine Za rfl (Za (ld hU rfl) (Qa (Xdf iv hm' _ side hnone) (Qi _ hml') (Za (Zl ..) ?_)));rw[Zg (n:=i) (by omega)];refine hag (i+1) _ _ (by omega) ⟨rfl,by omega,Qe hB' (by simp) (λe=>hne e),?_,hbt'.trans ⟨by simp,λc hc hne=>Xd _ hc hne⟩,?_⟩
  ·rw[hcur]; exact Xf _ hml'
  ·rw[hcur,hr,List.map_append]; rfl
end Go.Ah.Tz
end
section
namespace Go.Ah.Tz
open Go.Proofs.Tryz (prog)
theorem Xbs(k:Int)(a:Int):∀l:List Th,ilook a (l.map λu=>(u.id,k))=(fnd l a).map λ_=>k
 |[]=>rfl
 |u::l=>by
  have:=Xbs k a l;simp only[List.map_cons,ilook,fnd,List.findIdx?_cons];by_cases h:u.id=a
  ·have h2:(a==u.id)=true:=by simp[h]
   simp[h]
  ·have h2:(a==u.id)=false:=by simp; exact λe=>h e.symm
   simp only[h2,Bool.false_eq_true,if_false,decide_eq_false h,this,fnd,Option.map_map];rfl
theorem YcJ(s:St)(a:Int):ilook a (s.s0.units.map (λu=>(u.id,(0:Int)))++s.s1.units.map (λu=>(u.id,(1:Int))))=if (unitR s a).2.2=true then some (unitR s a).1 else none:=by
 rw[QaJ,Xbs,Xbs,unitR];cases fnd s.s0.units a with
 |some k=>rfl
 |none=>cases fnd s.s1.units a<;>rfl
attribute [local irreducible] Ans.rd Ans.pu Ans.wr Ans.dr Ans.gr Ans.gw Ans.gl Ans.gd Ans.opt joinK W
set_option maxHeartbeats 4000000
theorem bkLd(b:Bk):partA true 0 2 (bkC b)=some (bkV b):=rfl
theorem Ys{e:Int}{b:Bk}{s:St}{bare:Bool}(h:mayR e b s bare=true):e=0∧1≤s.turn∧s.turn≤4096∧0≤s.mover∧s.mover≤1∧0≤s.phase∧s.phase≤2∧0≤s.result∧s.result≤3∧((s.result==0)==(s.phase != 2))=true∧1≤s.next∧s.next≤1000000∧s.attack.length≤7:=by
 simp only[mayR,Bool.and_eq_true,decide_eq_true_eq] at h;obtain⟨h1,h2,h3,h4,h5,h6,h7,h8,h9,h10,h11,h12,h13,h14⟩:=h;refine⟨h1,h2,h3,h4,h5,h6,h7,h8,h9,h10,h11,h12,?_⟩;by_cases hp:s.phase≠1
 ·rw[if_pos hp] at h14; simp at h14; simp[h14]
 ·rw[if_neg hp] at h14; simp at h14; exact h14.2.2.1
theorem ZcJ(o:Option Int):lookV true (iv 0) (o.map iv)=.tup [iv (o.getD 0),.bool o.isSome]:=by cases o<;>rfl
theorem QcI(o:Option Bool):lookV false (.bool false) (o.map AVal.bool)=.bool (o.getD false):=by cases o<;>rfl
theorem Yb5(t:Int):∀l:List Int,(ilook t (l.map λa=>(a,true))).getD false=l.contains t
 |[]=>rfl
 |a::l=>by
  simp only[List.map_cons,ilook,List.contains_cons];cases h:t==a with
  |true=>rfl
  |false=>simp only[Bool.false_eq_true,if_false,Bool.false_or]; exact Yb5 t l
theorem c111(b:Bk)(hf:bkFit b=true)(hsm:Yj b.cards)(s:St)(hs:StLe 1000000000 s)(bare:Bool):PC 25 [.rptr (bkC b) 0,.rptr (stC s) 0,.bool bare] (.bool (mayR (bkR b).1 b s bare)):=by
 have h143:=c143 b hf hsm;generalize (bkR b).1=e at h143 ⊢;generalize (bkR b).2=ep at h143;have hat:=hs.attack;refine Qb hP g25.ok rfl rfl ?_;rw[H3.e]; unfold g25; dsimp only;refine Za rfl (Za rfl (Za (ldr rfl) (Za (QL ..) ?_)));refine Xj λk4 hk4=>?_;have kbad:(mayR e b s bare=true→False)→k4 [.bool true] []:=by
  intro h; rw[hk4]; refine Yd ?_;rw[Bool.eq_false_iff.2 (λhm=>h hm)]
 apply cutF (R:=k4 [.bool false] []) (1≤s.turn∧s.turn≤4096∧0≤s.mover∧s.mover≤1∧0≤s.phase∧s.phase≤2∧0≤s.result∧s.result≤3∧((s.result==0)==(s.phase != 2))=true∧1≤s.next∧s.next≤1000000∧s.attack.length≤7∧e=0)
 ·intro hR;clear hk4;refine Zb (λh=>by rw[h]; exact kbad (λhm=>by have:=Ys hm; simp at h; omega)) (λb1=>Za rfl (Za rfl (Za (ldr rfl) (Za (Z5 ..) ?_))));refine Zb (λh=>by rw[h]; exact kbad (λhm=>by have:=Ys hm; simp at h; omega)) (λb2=>Za rfl (Za rfl (Za (ldr rfl) (Za (QL ..) ?_))));refine Zb (λh=>by rw[h]; exact kbad (λhm=>by have:=Ys hm; simp at h; omega)) (λb3=>Za rfl (Za rfl (Za (ldr rfl) (Za (Z5 ..) ?_))));refine Zb (λh=>by rw[h]; exact kbad (λhm=>by have:=Ys hm; simp at h; omega)) (λb4=>Za rfl (Za rfl (Za (ldr rfl) (Za (QL ..) ?_))));refine Zb (λh=>by rw[h]; exact kbad (λhm=>by have:=Ys hm; simp at h; omega)) (λb5=>Za rfl (Za rfl (Za (ldr rfl) (Za (Z5 ..) ?_))));refine Zb (λh=>by rw[h]; exact kbad (λhm=>by have:=Ys hm; simp at h; omega)) (λb6=>Za rfl (Za rfl (Za (ldr rfl) (Za (QL ..) ?_))));refine Zb (λh=>by rw[h]; exact kbad (λhm=>by have:=Ys hm; simp at h; omega)) (λb7=>Za rfl (Za rfl (Za (ldr rfl) (Za (Z5 ..) ?_))));refine Zb (λh=>by rw[h]; exact kbad (λhm=>by have:=Ys hm; simp at h; omega)) (λb8=>Za rfl (Za rfl (Za (ldr rfl) (Za (Yf ..) (Za rfl (Za rfl (Za (ldr rfl) (Za (XS ..) (Za (ZdD ..) ?_)))))))));have hx:(!(decide (s.result=0)==decide (s.phase≠2))) = !((s.result==0)==(s.phase != 2)):=by
   congr 1
   have e1:decide (s.result=0)=(s.result==0):=by rw[Bool.eq_iff_iff]; simp
   have e2:decide (s.phase≠2)=(s.phase != 2):=by rw[Bool.eq_iff_iff]; simp
   rw[e1,e2]
  rw[hx];refine Zb (λh=>by rw[h]; exact kbad (λhm=>by have:=(Ys hm).2.2.2.2.2.2.2.2.2.1; rw[this] at h; cases h)) (λb9=>Za rfl (Za rfl (Za (ldr rfl) (Za (QL ..) ?_))));refine Zb (λh=>by rw[h]; exact kbad (λhm=>by have:=Ys hm; simp at h; omega)) (λb10=>Za rfl (Za rfl (Za (ldr rfl) (Za (Z5 ..) ?_))));refine Zb (λh=>by rw[h]; exact kbad (λhm=>by have:=Ys hm; simp at h; omega)) (λb11=>Za rfl (Za rfl (Za (ldr rfl) (Za (v:=iv s.attack.length) (rd:=[]) (by simp[Qd]) (Za (Z5 ..) ?_)))));refine Zb (λh=>by rw[h]; exact kbad (λhm=>by have:=Ys hm; simp at h; omega)) (λb12=>Za rfl (Za (ldr (bkLd b)) ?_));refine Zc h143 rfl g42.ok.plain rfl (Za rfl (Za (XS ..) ?_));by_cases he:e=0
  ·rw[show decide (e≠0)=false by simp[he]];simp at b1 b2 b3 b4 b5 b6 b7 b8 b10 b11 b12;exact hR ⟨by omega,by omega,by omega,by omega,by omega,by omega,by omega,by omega,by simpa using b9,by omega,by omega,by omega,he⟩
  ·rw[show decide (e≠0)=true by simp[he]];exact kbad (λhm=>he (Ys hm).1)
 rintro⟨p1,p2,p3,p4,p5,p6,p7,p8,p9,p10,p11,p12,p13⟩;rw[hk4]; clear hk4 kbad k4;have hmay:mayR e b s bare=(YN b s&&(if s.phase≠1 then decide (s.attack.length=0) else !(decide (s.attack.length=0) && !bare)&&(s.struck&&attOk s [] s.attack))):=by
  rw[mayR,decide_eq_true p13,decide_eq_true p1,decide_eq_true p2,decide_eq_true p3,decide_eq_true p4,decide_eq_true p5,decide_eq_true p6,decide_eq_true p7,decide_eq_true p8,p9,decide_eq_true p10,decide_eq_true p11,decide_eq_true p12];rfl
 rw[hmay]; clear hmay h143 p1 p2 p3 p4 p5 p6 p7 p8 p9 p10 p11 p13;have w1:IntKind.i64.wrap (0+1)=1:=by decide
 have w2:IntKind.i64.wrap (1+1)=2:=by decide
 refine Yc (Qa rfl rfl (QP 3 (Qk (Za rfl (Yd ?_)))));refine Xg hP rfl g43.ok rfl (c144 b s 0 7 s.s0 (sdAt0 s) (λ_=>rfl) hs.s0 [] (by rfl) (λh σ1=>?_) (λh σ1 t1 m1=>?_))
 ·refine Za rfl (Yd ?_);have h:(YE b.cards.length s.s0&&YD b s.next [] s.s0.units)=false:=h;have:YN b s=false:=by
   rw[YN,←Bool.and_assoc,h]; rfl
  rw[this]; rfl
 refine Za rfl (Yc (Za rfl ?_));rw[w1];refine Qk (Za rfl (Yd ?_));refine Xg hP rfl g43.ok rfl (c144 b s 1 15 s.s1 (sdAt1 s) (λ_=>rfl) hs.s1 _ m1 (λh2 σ2=>?_) (λh2 σ2 t2 m2=>?_))
 ·refine Za rfl (Yd ?_);have e0:(([]++s.s0.units.map λu=>(u.id,(0:Int))):List (Int×Int)).map (·.1)=s.s0.units.map Th.id:=by simp[Function.comp_def]
  rw[e0] at h2;have:YN b s=false:=by
   rw[YN,h2]; simp
  rw[this]; rfl
 have hso:YN b s=true:=by
  have e0:(([]++s.s0.units.map λu=>(u.id,(0:Int))):List (Int×Int)).map (·.1)=s.s0.units.map Th.id:=by simp[Function.comp_def]
  rw[e0] at h2;have h:(YE b.cards.length s.s0&&YD b s.next [] s.s0.units)=true:=h;rw[YN,←Bool.and_assoc,h,h2]; rfl
 rw[hso,Bool.true_and];clear hso h h2 m1 t1 t2;refine Za rfl (Yc (Za rfl ?_));rw[w2];refine Qk (Za rfl (Yc (Za rfl (Za rfl (Za (ldr rfl) (Za (XS ..) ?_))))));refine Zb (λhp=>?_) (λhp=>?_)
 ·have hp:s.phase≠1:=by simpa using hp
  rw[if_pos hp];refine Za rfl (Za rfl (Za (ldr rfl) (Za (v:=iv s.attack.length) (rd:=[]) (by simp[Qd]) (Za (Yf ..) ?_))))
  congr 1
  rw[Bool.eq_iff_iff]; simp
 have hp:¬s.phase≠1:=by simpa using hp
 rw[if_neg hp];refine Qa rfl (Yk _ _) (Za rfl (Za rfl (Za (ldr rfl) (Za (v:=iv s.attack.length) (rd:=[]) (by simp[Qd]) ?_))));have hnew:hget (σ2++[ABlk.map []]) σ2.length=.map (mpG AVal.bool (([]:List Int).map λa=>(a,true))):=Zf _ _;have hold:=Ze [ABlk.map []] m2 (by simp);have hne:σ2.length≠0:=by have:=Xi m2 (by simp); omega
 generalize σ2++[ABlk.map []]=τ at hnew hold ⊢;generalize σ2.length=mb at hnew hne ⊢;refine Xn (ι:=Nat) (λi vs τ=>vs=[iv i]∧i≤s.attack.length∧hget τ 0=.map (mpG iv (([]++s.s0.units.map λu=>(u.id,(0:Int)))++s.s1.units.map λu=>(u.id,(1:Int))))∧hget τ mb=.map (mpG AVal.bool ((s.attack.take i).map λa=>(a,true)))∧attOk s [] s.attack=attOk s (s.attack.take i) (s.attack.drop i)) (λi=>s.attack.length-i) 0
  ⟨rfl,by omega,hold,by simpa using hnew,by simp⟩ ?_
 clear hnew hold m2;rintro i vs τ1 again ⟨rfl,hi,hm0,hmb,hr⟩ hag;refine Za rfl (Zb (λh=>?_) (λh=>?_));rotate_left
 ·have h:i=s.attack.length:=by simp at h; omega
  subst h;rw[List.drop_length,attOk] at hr;rw[hr,Bool.and_true];refine Za rfl (Za rfl (Za (ldr rfl) ?_));cases hst:s.struck with
  |false=>
   refine Xa rfl (Xa rfl (Qf rfl (Qf rfl (Qf rfl (Qf rfl (Qf rfl (Qf rfl (Xa rfl (Za rfl ?_)))))))));simp
  |true=>
   refine Ya (Za rfl (Ya (Za rfl ?_)));cases bare with
   |true=>
    refine Xa rfl (Xa rfl (Xa rfl (Xa rfl (Xa rfl (Xa rfl (Ya (Za rfl (Za rfl ?_))))))));simp
   |false=>
    refine Ya (Za rfl (Ya (Za rfl (Ya (Za rfl (Ya (Za (ldr rfl) (Ya (Za (v:=iv s.attack.length) (rd:=[]) (by simp[Qd]) (Ya (Za (Z5 ..) (Ya (Za rfl (Za rfl ?_))))))))))))));show AVal.bool _=_
    congr 1
    rw[Bool.eq_iff_iff];simp[List.length_pos_iff]
 have h:i<s.attack.length:=by simpa using h
 have htk:=XI _ _ h;rw[YLD h,attOk] at hr;refine Za (Xw _ cel _ _ _ s.attack _ i h) (Za (ldr rfl) (Za (QbQ iv _ _ hm0 _) ?_));rw[ZcJ,List.nil_append,YcJ];generalize s.attack[i]=a at htk hr ⊢;generalize ho:(if (unitR s a).2.2=true then some (unitR s a).1 else none)=o;have ho1:o.isSome=(unitR s a).2.2:=by rw[←ho]; cases (unitR s a).2.2<;>rfl
 have ho2:(unitR s a).2.2=true→o.getD 0=(unitR s a).1:=by intro q; rw[←ho,if_pos q]; rfl
 refine Za rfl (Za rfl (Za rfl ?_));refine Xdh (λ_=>rfl) (λ_=>rfl) (λ_=>rfl) (λ_=>rfl) (λ_=>ldr rfl) (λ_=>XS ..) ?_;refine ZaM (d:=(ilook a ((s.attack.take i).map λa=>(a,true))).getD false) (λ_=>rfl) (λ_=>rfl) (λ_=>by rw[QbQ AVal.bool _ _ hmb,QcI]) ?_;have hmet:=Yb5 a (s.attack.take i);refine Zb (λh2=>?_) (λh2=>?_)
 ·have:attOk s [] s.attack=false:=by
   rw[hr,Bool.eq_false_iff]; intro q;simp only[Bool.and_eq_true,decide_eq_true_eq,Bool.not_eq_true'] at q;obtain⟨⟨q1,q2⟩,q3,q4⟩:=q;rw[ho1,ho2 q1,q1,q2,hmet,q3] at h2;simp at h2
  rw[this]; simp
 ·simp only[Bool.or_eq_false_iff,Bool.not_eq_false',decide_eq_false_iff_not,Decidable.not_not] at h2;obtain⟨⟨q1,q2⟩,q3⟩:=h2;rw[ho1] at q1;rw[ho2 q1] at q2;have hnone:ilook a ((s.attack.take i).map λa=>(a,true))=none:=by
   have:=QaE a ((s.attack.take i).map λa=>(a,true));simp only[List.map_map,Function.comp_def,List.map_id'] at this;rw[←hmet,q3] at this;cases h5:ilook a ((s.attack.take i).map λa=>(a,true)) with
   |none=>rfl
   |some v=>rw[h5] at this; cases this
  rw[hmet] at q3;rw[q1,q2,q3] at hr;have hml:=Xi hmb (by simp);refine Qa (Xdf AVal.bool hmb a true hnone) (Qi _ hml) (Za (Zl ..) ?_);rw[Zg (n:=i) (by omega)];refine hag (i+1) _ _ (by omega) ⟨rfl,by omega,Qe hm0 (by simp) (λe=>hne e),?_,?_⟩
  ·rw[htk,List.map_append]; exact Xf _ hml
  ·rw[htk,hr]; simp
end Go.Ah.Tz
end
section
namespace Go.Ah.Tz
open Go.Proofs.Tryz (prog)
def RI(σ:List ABlk)(rd:List Nat)(v:AVal)(l:List Int):Prop:=Bor (hp σ) rd v (rowV l)
def RT(σ:List ABlk)(rd:List Nat)(v:AVal)(l:List Th):Prop:=Bor (hp σ) rd v (thV l)
theorem Xde:∀ {l:List Int},∀r∈l.map cel,roL r=true:=by
 intro l r hr;obtain⟨x,_,rfl⟩:=List.mem_map.1 hr; rfl
theorem th_ro:∀ {l:List Th},∀r∈l.map thC,roL r=true:=by
 intro l r hr;obtain⟨x,_,rfl⟩:=List.mem_map.1 hr; rfl
theorem RI.own{σ:List ABlk}{rd:List Nat}{b:Nat}{ex:Bool}{l:List Int}{n:Nat}(hb:hget σ b=.rows 1 (l.map cel))(hin:b∈rd)(hn:n=l.length):RI σ rd (.sl b 0 n ex) l:=
 Bor.own hb hin (by simp[hn]) (Yaw _ _ (by simp[hn])) Xde
theorem RI.tail{σ:List ABlk}{rd:List Nat}{b:Nat}{ex:Bool}{x:Int}{l:List Int}{n:Nat}(hb:hget σ b=.rows 1 ((x::l).map cel))(hin:b∈rd)(hn:n=l.length):RI σ rd (.sl b 1 n ex) l:=
 Bor.own hb hin (by simp[hn]; omega) (Xc2 _ _ _ (by simp[hn])) Xde
theorem RI.nils{σ:List ABlk}{rd:List Nat}:RI σ rd .nils []:=Bor.weak (Bor.ro rfl) (λM u d=>d.nils_rsl 1)
theorem RT.nils{σ:List ABlk}{rd:List Nat}:RT σ rd .nils []:=Bor.weak (Bor.ro rfl) (λM u d=>d.nils_rsl 4)
theorem RT.own{σ:List ABlk}{rd:List Nat}{b:Nat}{ex:Bool}{l:List Th}{n:Nat}(hb:hget σ b=.rows 4 (l.map thC))(hin:b∈rd)(hn:n=l.length):RT σ rd (.sl b 0 n ex) l:=
 Bor.own hb hin (by simp[hn]) (Yaw _ _ (by simp[hn])) th_ro
@[reducible] def stQ(s:St)(a d0 h0 g0 u0 t0 d1 h1 g1 u1 t1:AVal):List AVal:=[iv s.turn,iv s.mover,iv8 s.phase,.bool s.struck,iv8 s.result,a,iv s.next,
 iv s.s0.life,iv s.s0.mana,iv s.s0.most,d0,h0,g0,u0,t0,iv s.s1.life,iv s.s1.mana,iv s.s1.most,d1,h1,g1,u1,t1]
def SB(σ:List ABlk)(rd:List Nat)(cs:List AVal)(s:St):Prop:=BorL (hp σ) rd cs (stC s)
theorem SB.mk{σ:List ABlk}{rd:List Nat}{s:St}{a d0 h0 g0 u0 t0 d1 h1 g1 u1 t1:AVal}(x1:RI σ rd a s.attack)(x2:RI σ rd d0 s.s0.deck)(x3:RI σ rd h0 s.s0.hand)(x4:RI σ rd g0 s.s0.grave)(x5:RT σ rd u0 s.s0.units)(x6:RI σ rd t0 s.s0.told)
 (y2:RI σ rd d1 s.s1.deck)(y3:RI σ rd h1 s.s1.hand)(y4:RI σ rd g1 s.s1.grave)(y5:RT σ rd u1 s.s1.units)(y6:RI σ rd t1 s.s1.told):SB σ rd (stQ s a d0 h0 g0 u0 t0 d1 h1 g1 u1 t1) s:=
 .cons (Bor.ro rfl) <| .cons (Bor.ro rfl) <| .cons (Bor.ro rfl) <| .cons (Bor.ro rfl) <| .cons (Bor.ro rfl) <| .cons x1 <| .cons (Bor.ro rfl) <| .cons (Bor.ro rfl) <| .cons (Bor.ro rfl) <| .cons (Bor.ro rfl) <| .cons x2 <| .cons x3 <| .cons x4 <| .cons x5 <| .cons x6 <|
 .cons (Bor.ro rfl) <| .cons (Bor.ro rfl) <| .cons (Bor.ro rfl) <| .cons y2 <| .cons y3 <| .cons y4 <| .cons y5 <| .cons y6 .nil
theorem SB.agg{σ:List ABlk}{rd:List Nat}{cs:List AVal}{s:St}(h:SB σ rd cs s):Bor (hp σ) rd (.agg cs) (stV s):=Bor.agg h
def zSd:Sd:=⟨0,0,0,[],[],[],[],[]⟩
def zSt:St:=⟨0,0,0,false,0,[],0,zSd,zSd⟩
theorem SB.zero{σ:List ABlk}{rd:List Nat}:SB σ rd (stQ zSt .nils .nils .nils .nils .nils .nils .nils .nils .nils .nils .nils) zSt:=SB.mk .nils .nils .nils .nils .nils .nils .nils .nils .nils .nils .nils
structure Ev where
 kind:Int
 side:Int
 card:Int
 id:Int
 other:Int
 n:Int
 cards:List Int
 deriving DecidableEq,Inhabited
@[reducible] def evC(e:Ev):List AVal:=[iv8 e.kind,iv e.side,iv e.card,iv e.id,iv e.other,iv e.n,rowV e.cards]
@[reducible] def evV(e:Ev):AVal:=.agg (evC e)
def zEv:Ev:=⟨0,0,0,0,0,0,[]⟩
theorem evB{σ:List ABlk}{rd:List Nat}{e:Ev}{v:AVal}(h:RI σ rd v e.cards):Bor (hp σ) rd (.agg [iv8 e.kind,iv e.side,iv e.card,iv e.id,iv e.other,iv e.n,v]) (evV e):=
 Bor.agg (.cons (Bor.ro rfl) <| .cons (Bor.ro rfl) <| .cons (Bor.ro rfl) <| .cons (Bor.ro rfl) <| .cons (Bor.ro rfl) <| .cons (Bor.ro rfl) <| .cons h .nil)
attribute [local irreducible] Ans.rd Ans.pu Ans.wr Ans.dr Ans.gr Ans.gw Ans.gl Ans.gd Ans.opt joinK W
set_option maxHeartbeats 1000000
theorem c56(b:Bk)(hf:bkFit b=true)(hsm:Yj b.cards)(s:St)(hs:StLe 1000000000 s){σ:List ABlk}{bb sb:Nat}(h1:hget σ bb=.box (bkC b))(h2:hget σ sb=.box (stC s)){K:AVal→List ABlk→Prop}
 (hF:mayR (bkR b).1 b s true=false→K .nilp σ)(hT:mayR (bkR b).1 b s true=true→K (.bptr (σ++stB s).length 0) (σ++stB s++[.box (.bptr bb 0::stO s σ.length)])):g77.u VV [.bptr bb 0,.bptr sb 0] σ K:=by
 rw[H2.e]; unfold g77; dsimp only;have hb1:hp σ bb=some (.box (bkC b)):=XV h1 (by simp);have hb2:hp σ sb=some (.box (stC s)):=XV h2 (by simp);refine Xy (rd:=[bb,sb]) (c111 b hf hsm s hs true) rfl g25.ok.plain (.cons (Bor.box hb1 (by simp) (BorL.ro rfl)) <| .cons (Bor.box hb2 (by simp) (BorL.ro rfl)) <| .cons (Bor.ro rfl) .nil) rfl ?_;refine Za rfl (Zb (λh=>?_) (λh=>?_))
 ·exact hF (by simpa using h)
 refine Za rfl (Za (ld h2 rfl) ?_);refine Xbm (c59 s hs) rfl g18.ok.plain rfl ?_;have e1:(AVal.agg (stO s 0)).ren (ZE σ.length)=.agg (stO s σ.length):=by
  simp[AVal.ren,renL,ZE,Nat.add_comm]; omega
 have e2:Yv σ.length (stB s)=stB s:=by
  simp only[Yv,stB,sdB,List.map_cons,List.map_append,List.map_nil,Qs,Ybu]
 rw[e1,e2];refine Za rfl (Qa rfl (Yk _ _) ?_);exact hT (by simpa using h)
def tailV(b:Nat):List Int→AVal
 |[]=>.rsl false true 1 []
 |y::l=>.sl b 1 (y::l).length false
theorem Qds{τ:List ABlk}{bf:Nat}{x:Int}{l:List Int}(hbf:hget τ bf=.rows 1 ((x::l).map cel)):∃rd,QF 1 [.sl bf 0 (l.length+1) false,iv 1] τ=.ok (tailV bf l) rd []:=by
 cases l with
 |nil=>
  refine⟨[],?_⟩;show (match hget τ bf with
   |.rows s _=>bif Nat.beq s 1 then (bif Nat.blt 1 1 then SRes.ok (.sl bf (0+1) (1-1) false) [bf] [] else bif Nat.beq 1 1 then .ok (.rsl false true 1 []) [] [] else .stop) else .stop
   | _=>.stop)=_
  rw[hbf]; rfl
 |cons y l=>
  refine⟨[bf],?_⟩;show (match hget τ bf with
   |.rows s _=>bif Nat.beq s 1 then (bif Nat.blt 1 ((y::l).length+1) then SRes.ok (.sl bf (0+1) ((y::l).length+1-1) false) [bf] [] else bif Nat.beq 1 ((y::l).length+1) then .ok (.rsl false true 1 []) [] [] else .stop) else .stop
   | _=>.stop)=_
  rw[hbf];have:Nat.blt 1 ((y::l).length+1)=true:=Nat.ble_eq_true_of_le (by simp);simp only[this];rfl
theorem RI.tailV{σ:List ABlk}{rd:List Nat}{b:Nat}{x:Int}{l:List Int}(hb:hget σ b=.rows 1 ((x::l).map cel))(hin:b∈rd):RI σ rd (Tz.tailV b l) l:=by
 cases l with
 |nil=>
  refine Bor.weak (Bor.ro (x:=.rsl false true 1 []) rfl) (λM u d=>?_);cases d with
  |rsl _ _ _ _ _ a cap blk off f q1 q2 q3 q4 q5 q6 q7 q8=>exact .rsl _ _ _ _ _ a cap blk off f q1 (λh=>by cases h) q3 q4 q5 q6 q7 q8
 |cons y l=>exact RI.tail hb hin rfl
theorem c58{τ:List ABlk}{mb jf jt bf bt n k:Nat}{row row1 row2:List AVal}{x:Int}{l t:List Int}{vf:AVal}(hm:hget τ mb=.box row)(hf:partA false jf 1 row=some (.sl bf 0 n false))(hn:n=l.length+1)(ht:partA false jt 1 row1=some (.sl bt 0 k false))(hk:k=t.length)(hkl:t.length≤1000000000)
 (hbf:hget τ bf=.rows 1 ((x::l).map cel))(hbt:hget τ bt=.rows 1 (t.map cel))(hne:mb≠bf)(hne2:mb≠bt)(hvf:vf=tailV bf l)
 (h1:splice jf [vf] row=some row1)(h2:splice jt [.sl (τ.length+1) 0 (k+1) false] row1=some row2){K:AVal→List ABlk→Prop}
 (hK:K (iv x) (((((τ.set mb (.box row1)).set bt .dead)++[ABlk.rows 1 [cel x]])++[ABlk.rows 1 ((t++[x]).map cel)]).set mb (.box row2))):g78.u VV [.bptr mb jf,.bptr mb jt] τ K:=by
 subst hn; subst hk;have hml:=Xi hm (by simp);have hbl:=Xi hbt (by simp);rw[H2.e]; unfold g78; dsimp only;refine Za rfl (Za (ld hm hf) ?_);have hx:Zm 1 [.sl bf 0 (l.length+1) false,iv ((0:Nat):Int)] τ=.ok (.ptr bf (0+0) 0) [bf] []:=XcB τ bf 0 _ false 1 _ .i64 0 (by omega) hbf;refine Za hx ?_;refine Za (v:=iv x) (rd:=[bf]) ?_ ?_
 ·show (match hget τ bf with
   |.rows _ rs=>match nth rs 0 with
    |some row=>match partA false 0 1 row with
     |some v=>SRes.ok v [bf] []
     |none=>.stop
    |none=>.stop
   | _=>.stop)=_
  rw[hbf]; rfl
 refine Za rfl (Za (ld hm hf) ?_);have hvc:cellsOf vf=some [vf]:=by subst hvf; cases l<;>rfl
 obtain⟨rd,hsl⟩:=Qds hbf;rw[←hvf] at hsl;refine Za hsl ?_;refine Za rfl (Qa (stv hm hvc rfl h1) (Qi _ hml) (Za rfl (Za (ld (Xf _ hml) ht) ?_)));have hbt':hget (τ.set mb (.box row1)) bt=.rows 1 (t.map cel):=Qe hbt (by simp) hne2;rw[Zbx _ _ _ _ _ (cel x) rfl rfl,Ycs _ 1 8 (τ.set mb (.box row1)) bt t.length false _ (cel x) hbt' (by simp) rfl (by omega)];refine Za rfl ?_;have hz:t.map cel++[cel x]=(t++[x]).map cel:=by simp
 have hlen:(τ.set mb (ABlk.box row1)).length=τ.length:=by simp
 have hm3:hget ((((τ.set mb (.box row1)).set bt .dead)++[ABlk.rows 1 [cel x]])++[ABlk.rows 1 ((t++[x]).map cel)]) mb=.box row1:=by
  rw[Ym _ (by simp; omega),Ym _ (by simp; omega),Xd _ (by simp; omega) hne2,Xf _ hml]
 rw[hz,hlen];refine Qa (stv hm3 rfl rfl h2) (Qi _ (by simp; omega)) ?_;exact hK
end Go.Ah.Tz
end
section
namespace Go.Ah.Tz
open Go.Proofs.Tryz (prog)
theorem Ydt(s:St)(n:Nat):(AVal.agg (stO s 0)).ren (ZE n)=.agg (stO s n):=by
 simp[AVal.ren,renL,ZE,Nat.add_comm]; omega
theorem Zdt(s:St)(n:Nat):Yv n (stB s)=stB s:=by
 simp only[Yv,stB,sdB,List.map_cons,List.map_append,List.map_nil,Qs,Ybu]
theorem Yb7:∀l:List Int,X3 (l.map cel)=true
 |[]=>rfl
 |x::l=>by simp only[List.map_cons,X3,Yb7 l,Bool.and_true]; rfl
theorem YcN:∀l:List Th,X3 (l.map thC)=true
 |[]=>rfl
 |x::l=>by simp only[List.map_cons,X3,YcN l,Bool.and_true]; rfl
theorem Ydc(s:St):YaK (stB s)=true:=by
 simp only[stB,sdB,List.cons_append,List.nil_append,YaK,ABlk.nosh,Yb7,YcN,Bool.and_self]
theorem d59{s:St}(hs:StLe 1000000000 s){σ:List ABlk}{rd:List Nat}{cs:List AVal}(h:SB σ rd cs s){K:AVal→List Nat×List Nat→List ABlk→Prop}(hK:K (.agg (stO s σ.length)) (rd,Q0 σ.length (stB s)) (σ++stB s)):VV.dcall (.call 18) [.agg cs] σ K:=by
 refine Xcb (c59 s hs) rfl g18.ok.plain (.cons (SB.agg h) .nil) rfl (Ydc s) ?_;rw[Ydt,Zdt]; exact hK
theorem SdLe.mono{n m:Nat}{s:Sd}(h:SdLe n s)(k:n≤m):SdLe m s:=⟨Nat.le_trans h.1 k,Nat.le_trans h.2 k,Nat.le_trans h.3 k,Nat.le_trans h.4 k,Nat.le_trans h.5 k⟩
theorem StLe.mono{n m:Nat}{s:St}(h:StLe n s)(k:n≤m):StLe m s:=⟨Nat.le_trans h.1 k,h.2.mono k,h.3.mono k⟩
theorem Zaz{e:Int}{b:Bk}{s:St}{bare:Bool}(h:mayR e b s bare=true):YN b s=true:=by
 simp only[mayR,Bool.and_eq_true] at h;exact h.2.2.2.2.2.2.2.2.2.2.2.2.1
theorem ZcL{e:Int}{b:Bk}{s:St}{bare:Bool}(h:mayR e b s bare=true):wIn s.s0.life=true:=by
 have:=Zaz h;simp only[YN,YE,Bool.and_eq_true] at this;exact this.1.1
theorem YcL{e:Int}{b:Bk}{s:St}{bare:Bool}(h:mayR e b s bare=true):wIn s.s1.life=true:=by
 have:=Zaz h;simp only[YN,YE,Bool.and_eq_true] at this;exact this.2.2.1.1
theorem Yak{n:Int}:wIn n=true↔-1000000≤n∧n≤1000000:=by simp[wIn]
theorem SB.copy{σ:List ABlk}{rd:List Nat}{s:St}{n:Nat}(key:∀i x,(stB s)[i]?=some x→hget σ (n+i)=x)(hin:∀i,i<11→n+i∈rd):SB σ rd (stO s n) s:=
 SB.mk (RI.own (key 0 _ rfl) (hin 0 (by decide)) rfl) (RI.own (key 1 _ rfl) (hin 1 (by decide)) rfl) (RI.own (key 2 _ rfl) (hin 2 (by decide)) rfl) (RI.own (key 3 _ rfl) (hin 3 (by decide)) rfl) (RT.own (key 4 _ rfl) (hin 4 (by decide)) rfl) (RI.own (key 5 _ rfl) (hin 5 (by decide)) rfl)
  (RI.own (key 6 _ rfl) (hin 6 (by decide)) rfl) (RI.own (key 7 _ rfl) (hin 7 (by decide)) rfl) (RI.own (key 8 _ rfl) (hin 8 (by decide)) rfl) (RT.own (key 9 _ rfl) (hin 9 (by decide)) rfl) (RI.own (key 10 _ rfl) (hin 10 (by decide)) rfl)
theorem Xav{agg:Bool}{σ:List ABlk}{b j n:Nat}{row:List AVal}{v:AVal}(hb:hget σ b=.box row)(hv:partA agg j n row=some v):cellV agg n (.bptr b j) σ=some v:=by
 simp only[cellV,hb,hv]
theorem c56n(b:Bk)(hf:bkFit b=true)(hsm:Yj b.cards)(s:St)(hs:StLe 1000000000 s){σ:List ABlk}{bb sb n0 n:Nat}(hn0:σ.length=n0)(hn:n0+11=n)(h1:hget σ bb=.box (bkC b))(h2:hget σ sb=.box (stC s)){K:AVal→List ABlk→Prop}
 (hF:mayR (bkR b).1 b s true=false→K .nilp σ)(hT:mayR (bkR b).1 b s true=true→K (.bptr n 0) (σ++stB s++[.box (.bptr bb 0::stO s n0)])):VV.call (.call 77) [.bptr bb 0,.bptr sb 0] σ K:=by
 subst hn0; subst hn;refine Xg hP rfl g77.ok rfl (c56 b hf hsm s hs h1 h2 hF (λh=>?_));have:(σ++stB s).length=σ.length+11:=by simp[stB,sdB]
 rw[this]; exact hT h
def St.side(s:St)(k:Int):Sd:=if k=0 then s.s0 else s.s1
def St.put(s:St)(k:Int)(d:Sd):St:=if k=0 then { s with s0:=d } else { s with s1:=d }
@[reducible] def resX(s:St)(e:Ev)(x:AVal):AVal:=.tup [stV s,evV e,x]
@[reducible] def resV(r:St×Ev×Int):AVal:=resX r.1 r.2.1 (iv r.2.2)
theorem resXB{σ:List ABlk}{rd:List Nat}{cs ec:List AVal}{s:St}{e:Ev}{x:AVal}(h1:SB σ rd cs s)(h2:Bor (hp σ) rd (.agg ec) (evV e))(hx:x.ro=true):Bor (hp σ) rd (.tup [.agg cs,.agg ec,x]) (resX s e x):=
 Bor.tup (.cons (SB.agg h1) <| .cons h2 <| .cons (Bor.ro hx) .nil)
theorem resB{σ:List ABlk}{rd:List Nat}{cs ec:List AVal}{r:St×Ev×Int}(h1:SB σ rd cs r.1)(h2:Bor (hp σ) rd (.agg ec) (evV r.2.1)):Bor (hp σ) rd (.tup [.agg cs,.agg ec,iv r.2.2]) (resV r):=resXB h1 h2 rfl
@[reducible] def zStC:List AVal:=stQ zSt .nils .nils .nils .nils .nils .nils .nils .nils .nils .nils .nils
@[reducible] def zEvC:List AVal:=[iv8 0,iv 0,iv 0,iv 0,iv 0,iv 0,.nils]
theorem resZ{σ:List ABlk}{rd:List Nat}(e:Int):Bor (hp σ) rd (.tup [.agg zStC,.agg zEvC,iv e]) (resV (zSt,zEv,e)):=
 resB (r:=(zSt,zEv,e)) SB.zero (evB (e:=zEv) RI.nils)
theorem resZX{σ:List ABlk}{rd:List Nat}{x:AVal}(hx:x.ro=true):Bor (hp σ) rd (.tup [.agg zStC,.agg zEvC,x]) (resX zSt zEv x):=
 resXB SB.zero (evB (e:=zEv) RI.nils) hx
end Go.Ah.Tz
end
section
namespace Go.Ah.Tz
open Go.Proofs.Tryz (prog)
theorem XaB{b:Nat}{l:List Int}{m:Nat→Option Nat}(h:m b=some b):(tailV b l).ren m=tailV b l:=by
 cases l with
 |nil=>rfl
 |cons y l=>simp only[tailV,AVal.ren,h]
abbrev mv4(s:St):List AVal:=[.bptr 0 0,iv s.turn,iv s.mover,iv8 s.phase,.bool s.struck,iv8 s.result,.sl 4 0 s.attack.length false,iv s.next,iv s.s0.life,iv s.s0.mana,iv s.s0.most,.sl 5 0 s.s0.deck.length false,.sl 6 0 s.s0.hand.length false,.sl 7 0 s.s0.grave.length false,.sl 8 0 s.s0.units.length false,.sl 9 0 s.s0.told.length false,iv s.s1.life,iv s.s1.mana,iv s.s1.most,.sl 10 0 s.s1.deck.length false,.sl 11 0 s.s1.hand.length false,.sl 12 0 s.s1.grave.length false,.sl 13 0 s.s1.units.length false,.sl 14 0 s.s1.told.length false]
abbrev st4(s:St):List AVal:=[iv s.turn,iv s.mover,iv8 s.phase,.bool s.struck,iv8 s.result,.sl 4 0 s.attack.length false,iv s.next,iv s.s0.life,iv s.s0.mana,iv s.s0.most,.sl 5 0 s.s0.deck.length false,.sl 6 0 s.s0.hand.length false,.sl 7 0 s.s0.grave.length false,.sl 8 0 s.s0.units.length false,.sl 9 0 s.s0.told.length false,iv s.s1.life,iv s.s1.mana,iv s.s1.most,.sl 10 0 s.s1.deck.length false,.sl 11 0 s.s1.hand.length false,.sl 12 0 s.s1.grave.length false,.sl 13 0 s.s1.units.length false,.sl 14 0 s.s1.told.length false]
abbrev sg4(b:Bk)(s:St):List ABlk:=[.box (bkC b),.box (stC s),.box zStC,.box zEvC,.rows 1 (s.attack.map cel),.rows 1 (s.s0.deck.map cel),.rows 1 (s.s0.hand.map cel),.rows 1 (s.s0.grave.map cel),.rows 4 (s.s0.units.map thC),.rows 1 (s.s0.told.map cel),.rows 1 (s.s1.deck.map cel),.rows 1 (s.s1.hand.map cel),.rows 1 (s.s1.grave.map cel),.rows 4 (s.s1.units.map thC),.rows 1 (s.s1.told.map cel)]
abbrev dd17:List ABlk:=[.dead,.dead,.dead,.dead,.dead,.dead,.dead,.dead,.dead,.dead,.dead,.dead,.dead,.dead,.dead,.dead,.dead]
def drawF(s:St)(k:Int):St×Ev×Int:=
 match (s.side k).deck with
 |[]=>if wIn ((s.side k).life-1) then (s.put k { s.side k with life:=(s.side k).life-1 },⟨3,k,-1,0,0,0,[]⟩,0) else (zSt,zEv,171)
 |c::l=>if 10≤(s.side k).hand.length then
   ({ s with s0:={ s.s0 with told:=s.s0.told++[c] },s1:={ s.s1 with told:=s.s1.told++[c] } } |> λs'=>s'.put k { s'.side k with deck:=l,grave:=(s.side k).grave++[c] },⟨4,k,c,0,0,0,[]⟩,0)
  else (s.put k { s.side k with deck:=l,hand:=(s.side k).hand++[c],told:=(s.side k).told++[c] },⟨3,k,c,0,0,0,[]⟩,0)
attribute [local irreducible] Ans.rd Ans.pu Ans.wr Ans.dr Ans.gr Ans.gw Ans.gl Ans.gd Ans.opt joinK W
set_option maxHeartbeats 4000000
theorem c18_0(b:Bk)(hf:bkFit b=true)(hsm:Yj b.cards)(s:St)(hs:StLe 2000000 s)(hm:mayR (bkR b).1 b s true=true):PC 51 [bkV b,stV s,iv 0] (resV (drawF s 0)):=by
 have hlf:=Yak.1 (ZcL hm);have hs9:StLe 1000000000 s:=hs.mono (by decide);refine Yt hP g51.ok rfl ?_;rw[H3.e]; unfold g51; dsimp only;refine Qa (v:=.bptr 0 0) (rd:=[]) (up:=[(0,.box (bkC b))]) rfl rfl ?_;refine Qa (v:=.bptr 1 0) (rd:=[]) (up:=[(1,.box (stC s))]) rfl rfl ?_;refine Qa (v:=.bptr 2 0) (rd:=[]) (up:=[(2,.box zStC)]) rfl rfl ?_;refine Qa (v:=.bptr 3 0) (rd:=[]) (up:=[(3,.box zEvC)]) rfl rfl ?_;refine c56n b hf hsm s (hs.mono (by decide)) (n0:=4) (n:=15) rfl rfl rfl rfl (λh=>by rw[hm] at h; cases h) (λ_=>?_);refine Za rfl (Yc ?_);refine Za rfl (Ya (Za rfl (Ya (Za rfl (Za rfl (Yc ?_))))));refine Za rfl (Za rfl (Za rfl (Za rfl (Za rfl ?_))));refine Qa (v:=.bptr 16 0) (rd:=[]) (up:=[(16,.box zEvC)]) rfl rfl ?_;refine Qa (v:=.junk) (rd:=[]) (up:=[(16,.box [iv8 3,iv 0,iv 0,iv 0,iv 0,iv 0,.nils])]) rfl rfl ?_;refine Xj λk24 hk24=>?_;have kk:∀(σ:List ABlk) (cs:List AVal) (s':St) (e:Ev) (rd:List Nat) (n:Nat),σ.length=n→17≤n→hget σ 15=.box (.bptr 0 0::cs)→hget σ 16=.box [iv8 e.kind,iv e.side,iv e.card,iv e.id,iv e.other,iv e.n,.nils]→hget σ 2=.box zStC→hget σ 3=.box zEvC →
   partA true 1 23 (.bptr 0 0::cs)=some (.agg cs)→e.cards=[]→SB σ rd cs s'→StLe 1000000000 s'→drawF s 0=(s',e,0) →
   Xl [[],[0],[0,1],[0,1,2],[0,1,2,3],[],[0,1,2,3,4],[0,1,2,3,4,5,6],[0,1,2,3,4,5,6,7]] [([],[]),([],[]),([],[]),([15],[]),(rd,Q0 n (stB s')),([16],[]),([],[2]),([],[3]),([],[])]=true→k24 [] σ:=by
  intro σ cs s' e rd n hl hn h15 h16 h2 h3 hld hec hsb hle hr hap;subst hl;rw[hk24];refine Xb rfl (Xb rfl (Zd (ld h15 hld) (Yg _) (d59 hle hsb ?_)));have q15:=Ze (stB s') h16 (by simp);have q2:=Ze (stB s') h2 (by simp);have q3:=Ze (stB s') h3 (by simp);have hln:(σ++stB s').length=σ.length+11:=by simp[stB,sdB]
  refine Zd (ld q15 rfl) (Yg _) ?_;refine Zd (stv q2 rfl rfl rfl) (Qi _ (by omega)) ?_;refine Zd (stv (Qe q3 (by simp) (by decide)) rfl rfl rfl) (Qi _ (by simp<;>omega)) ?_;refine Yn hap ?_;refine Yi (Xav (Qe (Xf _ (by omega)) (by simp) (by decide)) rfl) ?_;refine Yi (Xav (Xf _ (by simp<;>omega)) rfl) ?_;refine⟨List.range' σ.length 11,?_⟩;rw[hr];refine resB (r:=(s',e,0)) (SB.copy (λi x hx=>?_) (λi hi=>by simp; omega)) ?_
  ·have hi:i<11:=(YLG hx).1;rw[Xd _ (by simp<;>omega) (by omega),Xd _ (by simp<;>omega) (by omega)];exact Qo (by rw[List.getElem?_append_right (by omega)]; simpa using hx)
  ·exact evB (by rw[hec]; exact RI.nils)
 refine Za rfl (Za rfl (Za rfl (Za rfl (Za (Yf ..) ?_))));refine Zb (λh=>?_) (λh=>?_)
 ·have hd:s.s0.deck=[]:=List.length_eq_zero_iff.1 (by have:=of_decide_eq_true h; omega);have hw:IntKind.i64.wrap (s.s0.life-1)=s.s0.life-1:=IntWalk.i64_in _ (by omega);refine Za rfl ?_;refine Qa (v:=.junk) (rd:=[]) (up:=[(16,.box [iv8 3,iv 0,iv (-1),iv 0,iv 0,iv 0,.nils])]) rfl rfl ?_;refine Za rfl (Za rfl (Za rfl (Za (ZaD ..) (Za rfl (Za rfl ?_)))));rw[hw];refine Qa (v:=.junk) (rd:=[]) (up:=[(15,.box ((mv4 s).set 8 (iv (s.s0.life-1))))]) rfl rfl ?_;refine Za rfl (Za rfl (Za rfl (Zc (c57 _) rfl g64.ok.plain rfl ?_)));refine Za rfl (Zb (λh2=>?_) (λh2=>?_))
  ·have h3:wIn (s.s0.life-1)=false:=by simpa using h2
   refine Za rfl (Za rfl (Qa rfl rfl (Qa rfl rfl (Yi rfl (Yi rfl ?_)))));have hr:drawF s 0=(zSt,zEv,171):=by
    show (match s.s0.deck with | []=>_|c::l=>_)=_;rw[hd]; show (if wIn (s.s0.life-1)=true then _ else _)=_;rw[h3]; rfl
   rw[hr];exact⟨[],resZ 171⟩
  ·have h3:wIn (s.s0.life-1)=true:=by simpa using h2
   refine kk _ _ { s with s0:={ s.s0 with life:=s.s0.life-1 } } ⟨3,0,-1,0,0,0,[]⟩ (List.range 17) 17 rfl (by decide) rfl rfl rfl rfl rfl rfl ?_ ?_ ?_ (by kernel_rfl)
   ·refine SB.mk (rd:=List.range 17) (s:={ s with s0:={ s.s0 with life:=s.s0.life-1 } }) ?_ ?_ ?_ ?_ ?_ ?_ ?_ ?_ ?_ ?_ ?_<;>first|exact RI.own rfl (by decide) rfl|exact RT.own rfl (by decide) rfl
   ·exact⟨hs9.1,⟨hs9.2.1,hs9.2.2,hs9.2.3,hs9.2.4,hs9.2.5⟩,⟨hs9.3.1,hs9.3.2,hs9.3.3,hs9.3.4,hs9.3.5⟩⟩
   ·show (match s.s0.deck with | []=>_|c::l=>_)=_;rw[hd]; show (if wIn (s.s0.life-1)=true then _ else _)=_;rw[h3]; rfl
 ·obtain⟨c,l,hd⟩:∃c l,s.s0.deck=c::l:=by
   cases q:s.s0.deck with
   |nil=>rw[q] at h; cases h
   |cons c l=>exact⟨c,l,rfl⟩
  have hdl:s.s0.deck.length=l.length+1:=by rw[hd]; rfl
  refine Za rfl (Za rfl (Za rfl (Za rfl (Za (Yaa ..) ?_))));refine Zb (λh2=>?_) (λh2=>?_)
  ·have h3:10≤s.s0.hand.length:=by have:=of_decide_eq_true h2; omega
   have w1:IntKind.i64.wrap (0+1)=1:=by decide
   have w2:IntKind.i64.wrap (1+1)=2:=by decide
   refine Za rfl (Qa (v:=.junk) (rd:=[]) (up:=[(16,.box [iv8 4,iv 0,iv 0,iv 0,iv 0,iv 0,.nils])]) rfl rfl ?_);refine Xb rfl (Xb rfl (Xb rfl (Xb rfl ?_)));refine QK hP rfl g78.ok rfl [15,5,7] [0,4,5,6,7,8,9,10,11,12,13,14,15] (v:=iv c) (m:=2) (σ:=((sg4 b s).append [.box (mv4 s),.box [iv8 4,iv 0,iv 0,iv 0,iv 0,iv 0,.nils]])) (τ:=(((dd17.set 5 (.rows 1 (s.s0.deck.map cel))).set 7 (.rows 1 (s.s0.grave.map cel))).set 15 (.box (mv4 s)))) (τ':=(((dd17.set 5 (.rows 1 (s.s0.deck.map cel))).set 15 (.box (((mv4 s).set 11 (tailV 5 l)).set 13 (.sl 18 0 (s.s0.grave.length+1) false)))).append [.rows 1 [cel c],.rows 1 ((s.s0.grave++[c]).map cel)])) (by decide) (show ∀b∈[0,4,5,6,7,8,9,10,11,12,13,14,15],b<17 by decide) rfl ?_ ?_ rfl (u:=iv c) (up:=[(15,.box (((mv4 s).set 11 (tailV 5 l)).set 13 (.sl 18 0 (s.s0.grave.length+1) false))),(5,.rows 1 (s.s0.deck.map cel)),(7,.dead),(17,.rows 1 [cel c]),(18,.rows 1 ((s.s0.grave++[c]).map cel))]) (σ':=(((sg4 b s).set 7 .dead).append [.box (((mv4 s).set 11 (tailV 5 l)).set 13 (.sl 18 0 (s.s0.grave.length+1) false)),.box [iv8 4,iv 0,iv 0,iv 0,iv 0,iv 0,.nils],.rows 1 [cel c],.rows 1 ((s.s0.grave++[c]).map cel)])) rfl ?_ rfl ?_
   ·show (((dd17.set 5 (ABlk.mapV (AVal.ren (ltM 17)) (.rows 1 (s.s0.deck.map cel)))).set 7 (ABlk.mapV (AVal.ren (ltM 17)) (.rows 1 (s.s0.grave.map cel)))).set 15 (.box (mv4 s)))=_;rw[Qs,Qs]
   ·exact c58 (τ:=(((dd17.set 5 (.rows 1 (s.s0.deck.map cel))).set 7 (.rows 1 (s.s0.grave.map cel))).set 15 (.box (mv4 s)))) (mb:=15) (jf:=11) (jt:=13) (bf:=5) (bt:=7) (row:=(mv4 s)) (row1:=((mv4 s).set 11 (tailV 5 l))) (row2:=(((mv4 s).set 11 (tailV 5 l)).set 13 (.sl 18 0 (s.s0.grave.length+1) false))) (x:=c) (l:=l) (t:=s.s0.grave) (vf:=tailV 5 l) rfl rfl hdl rfl rfl (Nat.le_trans hs.s0.grave (by decide)) (show ABlk.rows 1 (s.s0.deck.map cel)=_ by rw[hd]) rfl (by decide) (by decide) rfl rfl rfl ⟨rfl,rfl⟩
   ·show [(15,.box (((mv4 s).set 11 ((tailV 5 l).ren (keepM [0,4,5,6,7,8,9,10,11,12,13,14,15] 17 2))).set 13 (.sl 18 0 (s.s0.grave.length+1) false))),(5,ABlk.mapV (AVal.ren (keepM [0,4,5,6,7,8,9,10,11,12,13,14,15] 17 2)) (.rows 1 (s.s0.deck.map cel))),(7,.dead),(17,.rows 1 [cel c]),(18,ABlk.mapV (AVal.ren (keepM [0,4,5,6,7,8,9,10,11,12,13,14,15] 17 2)) (.rows 1 ((s.s0.grave++[c]).map cel)))]=_;rw[XaB (b:=5) (l:=l) (m:=keepM [0,4,5,6,7,8,9,10,11,12,13,14,15] 17 2) rfl,Qs,Qs]
   refine Xb rfl (Zd (v:=.junk) (rd:=[]) (up:=[(16,.box [iv8 4,iv 0,iv c,iv 0,iv 0,iv 0,.nils])]) rfl rfl ?_);refine Yn (by kernel_rfl) ?_;refine QP 3 (Qk ?_);refine Za rfl (Yd ?_);refine Xb rfl (Xb rfl (Xb rfl (Xb rfl (Xb rfl (Zd (ld (row:=(((mv4 s).set 11 (tailV 5 l)).set 13 (.sl 18 0 (s.s0.grave.length+1) false))) rfl rfl) (Yg _) ?_)))));refine Xb rfl (Zd (ld (row:=[iv8 4,iv 0,iv c,iv 0,iv 0,iv 0,.nils]) rfl rfl) (Yg _) ?_);refine Zd (v:=.sl 19 0 1 true) (rd:=[]) (up:=[(19,.rows 1 [cel c])]) rfl rfl ?_;refine Zd (v:=.sl 20 0 (s.s0.told.length+1) false) (rd:=[19]) (up:=[(9,.dead),(20,.rows 1 ((s.s0.told++[c]).map cel))]) ?_ rfl ?_
   ·have:=YR 1 8 (σ:=(((sg4 b s).set 7 .dead).append [.box (((mv4 s).set 11 (tailV 5 l)).set 13 (.sl 18 0 (s.s0.grave.length+1) false)),.box [iv8 4,iv 0,iv c,iv 0,iv 0,iv 0,.nils],.rows 1 [cel c],.rows 1 ((s.s0.grave++[c]).map cel),.rows 1 [cel c]])) (b:=9) (c:=19) (len:=s.s0.told.length) (ex:=false) (rs:=s.s0.told.map cel) (row:=cel c) rfl rfl (by simp) rfl (by have:=hs.s0.told; omega);rw[show (s.s0.told++[c]).map cel=s.s0.told.map cel++[cel c] by simp]; exact this
   refine Xb rfl (Xb rfl (Xb rfl (Xb rfl (Xb rfl (Zd (v:=.junk) (rd:=[]) (up:=[(15,.box ((((mv4 s).set 11 (tailV 5 l)).set 13 (.sl 18 0 (s.s0.grave.length+1) false)).set 15 (.sl 20 0 (s.s0.told.length+1) false)))]) rfl rfl ?_)))));refine Yn (by kernel_rfl) (Za rfl ?_);rw[w1];refine Qk ?_;refine Za rfl (Yd ?_);refine Xb rfl (Xb rfl (Xb rfl (Xb rfl (Xb rfl (Zd (ld (row:=((((mv4 s).set 11 (tailV 5 l)).set 13 (.sl 18 0 (s.s0.grave.length+1) false)).set 15 (.sl 20 0 (s.s0.told.length+1) false))) rfl rfl) (Yg _) ?_)))));refine Xb rfl (Zd (ld (row:=[iv8 4,iv 0,iv c,iv 0,iv 0,iv 0,.nils]) rfl rfl) (Yg _) ?_);refine Zd (v:=.sl 21 0 1 true) (rd:=[]) (up:=[(21,.rows 1 [cel c])]) rfl rfl ?_;refine Zd (v:=.sl 22 0 (s.s1.told.length+1) false) (rd:=[21]) (up:=[(14,.dead),(22,.rows 1 ((s.s1.told++[c]).map cel))]) ?_ rfl ?_
   ·have:=YR 1 8 (σ:=((((sg4 b s).set 7 .dead).set 9 .dead).append [.box ((((mv4 s).set 11 (tailV 5 l)).set 13 (.sl 18 0 (s.s0.grave.length+1) false)).set 15 (.sl 20 0 (s.s0.told.length+1) false)),.box [iv8 4,iv 0,iv c,iv 0,iv 0,iv 0,.nils],.rows 1 [cel c],.rows 1 ((s.s0.grave++[c]).map cel),.rows 1 [cel c],.rows 1 ((s.s0.told++[c]).map cel),.rows 1 [cel c]])) (b:=14) (c:=21) (len:=s.s1.told.length) (ex:=false) (rs:=s.s1.told.map cel) (row:=cel c) rfl rfl (by simp) rfl (by have:=hs.s1.told; omega);rw[show (s.s1.told++[c]).map cel=s.s1.told.map cel++[cel c] by simp]; exact this
   refine Xb rfl (Xb rfl (Xb rfl (Xb rfl (Xb rfl (Zd (v:=.junk) (rd:=[]) (up:=[(15,.box (((((mv4 s).set 11 (tailV 5 l)).set 13 (.sl 18 0 (s.s0.grave.length+1) false)).set 15 (.sl 20 0 (s.s0.told.length+1) false)).set 23 (.sl 22 0 (s.s1.told.length+1) false)))]) rfl rfl ?_)))));refine Yn (by kernel_rfl) (Za rfl ?_);rw[w2];refine Qk ?_;refine Za rfl (Yc ?_);refine kk _ _ { s with s0:={ s.s0 with deck:=l,grave:=s.s0.grave++[c],told:=s.s0.told++[c] },s1:={ s.s1 with told:=s.s1.told++[c] } } ⟨4,0,c,0,0,0,[]⟩ (List.range 23) 23 rfl (by decide) rfl rfl rfl rfl rfl rfl ?_ ?_ ?_ (by kernel_rfl)
   ·refine SB.mk (rd:=List.range 23) (s:={ s with s0:={ s.s0 with deck:=l,grave:=s.s0.grave++[c],told:=s.s0.told++[c] },s1:={ s.s1 with told:=s.s1.told++[c] } }) ?_ ?_ ?_ ?_ ?_ ?_ ?_ ?_ ?_ ?_ ?_<;>first|exact RI.own rfl (by decide) rfl|exact RI.own rfl (by decide) (by simp)|exact RT.own rfl (by decide) rfl|exact RI.tailV (show ABlk.rows 1 (s.s0.deck.map cel)=_ by rw[hd]) (by decide)
   ·have q1:=hs.s0.grave;have q2:=hs.s0.told;have q3:=hs.s0.deck;have q4:=hs.s1.told;refine⟨hs9.1,⟨by show l.length≤_; omega,hs9.2.2,by show (s.s0.grave++[c]).length≤_; simp; omega,hs9.2.4,by show (s.s0.told++[c]).length≤_; simp; omega⟩,⟨hs9.3.1,hs9.3.2,hs9.3.3,hs9.3.4,by show (s.s1.told++[c]).length≤_; simp; omega⟩⟩
   ·show (match s.s0.deck with | []=>_|c::l=>_)=_;rw[hd]; show (if 10≤s.s0.hand.length then _ else _)=_;rw[if_pos h3]; rfl
  ·have h3:¬10≤s.s0.hand.length:=by have:=of_decide_eq_false h2; omega
   refine Xb rfl (Xb rfl (Xb rfl (Xb rfl ?_)));refine QK hP rfl g78.ok rfl [15,5,6] [0,4,5,6,7,8,9,10,11,12,13,14,15] (v:=iv c) (m:=2) (σ:=((sg4 b s).append [.box (mv4 s),.box [iv8 3,iv 0,iv 0,iv 0,iv 0,iv 0,.nils]])) (τ:=(((dd17.set 5 (.rows 1 (s.s0.deck.map cel))).set 6 (.rows 1 (s.s0.hand.map cel))).set 15 (.box (mv4 s)))) (τ':=(((dd17.set 5 (.rows 1 (s.s0.deck.map cel))).set 15 (.box (((mv4 s).set 11 (tailV 5 l)).set 12 (.sl 18 0 (s.s0.hand.length+1) false)))).append [.rows 1 [cel c],.rows 1 ((s.s0.hand++[c]).map cel)])) (by decide) (show ∀b∈[0,4,5,6,7,8,9,10,11,12,13,14,15],b<17 by decide) rfl ?_ ?_ rfl (u:=iv c) (up:=[(15,.box (((mv4 s).set 11 (tailV 5 l)).set 12 (.sl 18 0 (s.s0.hand.length+1) false))),(5,.rows 1 (s.s0.deck.map cel)),(6,.dead),(17,.rows 1 [cel c]),(18,.rows 1 ((s.s0.hand++[c]).map cel))]) (σ':=(((sg4 b s).set 6 .dead).append [.box (((mv4 s).set 11 (tailV 5 l)).set 12 (.sl 18 0 (s.s0.hand.length+1) false)),.box [iv8 3,iv 0,iv 0,iv 0,iv 0,iv 0,.nils],.rows 1 [cel c],.rows 1 ((s.s0.hand++[c]).map cel)])) rfl ?_ rfl ?_
   ·show (((dd17.set 5 (ABlk.mapV (AVal.ren (ltM 17)) (.rows 1 (s.s0.deck.map cel)))).set 6 (ABlk.mapV (AVal.ren (ltM 17)) (.rows 1 (s.s0.hand.map cel)))).set 15 (.box (mv4 s)))=_;rw[Qs,Qs]
   ·exact c58 (τ:=(((dd17.set 5 (.rows 1 (s.s0.deck.map cel))).set 6 (.rows 1 (s.s0.hand.map cel))).set 15 (.box (mv4 s)))) (mb:=15) (jf:=11) (jt:=12) (bf:=5) (bt:=6) (row:=(mv4 s)) (row1:=((mv4 s).set 11 (tailV 5 l))) (row2:=(((mv4 s).set 11 (tailV 5 l)).set 12 (.sl 18 0 (s.s0.hand.length+1) false))) (x:=c) (l:=l) (t:=s.s0.hand) (vf:=tailV 5 l) rfl rfl hdl rfl rfl (Nat.le_trans hs.s0.hand (by decide)) (show ABlk.rows 1 (s.s0.deck.map cel)=_ by rw[hd]) rfl (by decide) (by decide) rfl rfl rfl ⟨rfl,rfl⟩
   ·show [(15,.box (((mv4 s).set 11 ((tailV 5 l).ren (keepM [0,4,5,6,7,8,9,10,11,12,13,14,15] 17 2))).set 12 (.sl 18 0 (s.s0.hand.length+1) false))),(5,ABlk.mapV (AVal.ren (keepM [0,4,5,6,7,8,9,10,11,12,13,14,15] 17 2)) (.rows 1 (s.s0.deck.map cel))),(6,.dead),(17,.rows 1 [cel c]),(18,ABlk.mapV (AVal.ren (keepM [0,4,5,6,7,8,9,10,11,12,13,14,15] 17 2)) (.rows 1 ((s.s0.hand++[c]).map cel)))]=_;rw[XaB (b:=5) (l:=l) (m:=keepM [0,4,5,6,7,8,9,10,11,12,13,14,15] 17 2) rfl,Qs,Qs]
   refine Xb rfl (Zd (v:=.junk) (rd:=[]) (up:=[(16,.box [iv8 3,iv 0,iv c,iv 0,iv 0,iv 0,.nils])]) rfl rfl ?_);refine Yn (by kernel_rfl) ?_;refine Xb rfl (Xb rfl (Zd (ld (row:=(((mv4 s).set 11 (tailV 5 l)).set 12 (.sl 18 0 (s.s0.hand.length+1) false))) rfl rfl) (Yg _) ?_));refine Xb rfl (Zd (ld (row:=[iv8 3,iv 0,iv c,iv 0,iv 0,iv 0,.nils]) rfl rfl) (Yg _) ?_);refine Zd (v:=.sl 19 0 1 true) (rd:=[]) (up:=[(19,.rows 1 [cel c])]) rfl rfl ?_;refine Zd (v:=.sl 20 0 (s.s0.told.length+1) false) (rd:=[19]) (up:=[(9,.dead),(20,.rows 1 ((s.s0.told++[c]).map cel))]) ?_ rfl ?_
   ·have:=YR 1 8 (σ:=(((sg4 b s).set 6 .dead).append [.box (((mv4 s).set 11 (tailV 5 l)).set 12 (.sl 18 0 (s.s0.hand.length+1) false)),.box [iv8 3,iv 0,iv c,iv 0,iv 0,iv 0,.nils],.rows 1 [cel c],.rows 1 ((s.s0.hand++[c]).map cel),.rows 1 [cel c]])) (b:=9) (c:=19) (len:=s.s0.told.length) (ex:=false) (rs:=s.s0.told.map cel) (row:=cel c) rfl rfl (by simp) rfl (by have:=hs.s0.told; omega);rw[show (s.s0.told++[c]).map cel=s.s0.told.map cel++[cel c] by simp]; exact this
   refine Xb rfl (Xb rfl (Zd (v:=.junk) (rd:=[]) (up:=[(15,.box ((((mv4 s).set 11 (tailV 5 l)).set 12 (.sl 18 0 (s.s0.hand.length+1) false)).set 15 (.sl 20 0 (s.s0.told.length+1) false)))]) rfl rfl ?_));refine Yn (by kernel_rfl) ?_;refine kk _ _ { s with s0:={ s.s0 with deck:=l,hand:=s.s0.hand++[c],told:=s.s0.told++[c] } } ⟨3,0,c,0,0,0,[]⟩ (List.range 21) 21 rfl (by decide) rfl rfl rfl rfl rfl rfl ?_ ?_ ?_ (by kernel_rfl)
   ·refine SB.mk (rd:=List.range 21) (s:={ s with s0:={ s.s0 with deck:=l,hand:=s.s0.hand++[c],told:=s.s0.told++[c] } }) ?_ ?_ ?_ ?_ ?_ ?_ ?_ ?_ ?_ ?_ ?_<;>first|exact RI.own rfl (by decide) rfl|exact RI.own rfl (by decide) (by simp)|exact RT.own rfl (by decide) rfl|exact RI.tailV (show ABlk.rows 1 (s.s0.deck.map cel)=_ by rw[hd]) (by decide)
   ·have q1:=hs.s0.hand;have q2:=hs.s0.told;have q3:=hs.s0.deck;refine⟨hs9.1,⟨by show l.length≤_; omega,by show (s.s0.hand++[c]).length≤_; simp; omega,hs9.2.3,hs9.2.4,by show (s.s0.told++[c]).length≤_; simp; omega⟩,⟨hs9.3.1,hs9.3.2,hs9.3.3,hs9.3.4,hs9.3.5⟩⟩
   ·show (match s.s0.deck with | []=>_|c::l=>_)=_;rw[hd]; show (if 10≤s.s0.hand.length then _ else _)=_;rw[if_neg h3]; rfl
theorem c18_1(b:Bk)(hf:bkFit b=true)(hsm:Yj b.cards)(s:St)(hs:StLe 2000000 s)(hm:mayR (bkR b).1 b s true=true):PC 51 [bkV b,stV s,iv 1] (resV (drawF s 1)):=by
 have hlf:=Yak.1 (YcL hm);have hs9:StLe 1000000000 s:=hs.mono (by decide);refine Yt hP g51.ok rfl ?_;rw[H3.e]; unfold g51; dsimp only;refine Qa (v:=.bptr 0 0) (rd:=[]) (up:=[(0,.box (bkC b))]) rfl rfl ?_;refine Qa (v:=.bptr 1 0) (rd:=[]) (up:=[(1,.box (stC s))]) rfl rfl ?_;refine Qa (v:=.bptr 2 0) (rd:=[]) (up:=[(2,.box zStC)]) rfl rfl ?_;refine Qa (v:=.bptr 3 0) (rd:=[]) (up:=[(3,.box zEvC)]) rfl rfl ?_;refine c56n b hf hsm s (hs.mono (by decide)) (n0:=4) (n:=15) rfl rfl rfl rfl (λh=>by rw[hm] at h; cases h) (λ_=>?_);refine Za rfl (Yc ?_);refine Za rfl (Ya (Za rfl (Ya (Za rfl (Za rfl (Yc ?_))))));refine Za rfl (Za rfl (Za rfl (Za rfl (Za rfl ?_))));refine Qa (v:=.bptr 16 0) (rd:=[]) (up:=[(16,.box zEvC)]) rfl rfl ?_;refine Qa (v:=.junk) (rd:=[]) (up:=[(16,.box [iv8 3,iv 1,iv 0,iv 0,iv 0,iv 0,.nils])]) rfl rfl ?_;refine Xj λk24 hk24=>?_;have kk:∀(σ:List ABlk) (cs:List AVal) (s':St) (e:Ev) (rd:List Nat) (n:Nat),σ.length=n→17≤n→hget σ 15=.box (.bptr 0 0::cs)→hget σ 16=.box [iv8 e.kind,iv e.side,iv e.card,iv e.id,iv e.other,iv e.n,.nils]→hget σ 2=.box zStC→hget σ 3=.box zEvC →
   partA true 1 23 (.bptr 0 0::cs)=some (.agg cs)→e.cards=[]→SB σ rd cs s'→StLe 1000000000 s'→drawF s 1=(s',e,0) →
   Xl [[],[0],[0,1],[0,1,2],[0,1,2,3],[],[0,1,2,3,4],[0,1,2,3,4,5,6],[0,1,2,3,4,5,6,7]] [([],[]),([],[]),([],[]),([15],[]),(rd,Q0 n (stB s')),([16],[]),([],[2]),([],[3]),([],[])]=true→k24 [] σ:=by
  intro σ cs s' e rd n hl hn h15 h16 h2 h3 hld hec hsb hle hr hap;subst hl;rw[hk24];refine Xb rfl (Xb rfl (Zd (ld h15 hld) (Yg _) (d59 hle hsb ?_)));have q15:=Ze (stB s') h16 (by simp);have q2:=Ze (stB s') h2 (by simp);have q3:=Ze (stB s') h3 (by simp);have hln:(σ++stB s').length=σ.length+11:=by simp[stB,sdB]
  refine Zd (ld q15 rfl) (Yg _) ?_;refine Zd (stv q2 rfl rfl rfl) (Qi _ (by omega)) ?_;refine Zd (stv (Qe q3 (by simp) (by decide)) rfl rfl rfl) (Qi _ (by simp<;>omega)) ?_;refine Yn hap ?_;refine Yi (Xav (Qe (Xf _ (by omega)) (by simp) (by decide)) rfl) ?_;refine Yi (Xav (Xf _ (by simp<;>omega)) rfl) ?_;refine⟨List.range' σ.length 11,?_⟩;rw[hr];refine resB (r:=(s',e,0)) (SB.copy (λi x hx=>?_) (λi hi=>by simp; omega)) ?_
  ·have hi:i<11:=(YLG hx).1;rw[Xd _ (by simp<;>omega) (by omega),Xd _ (by simp<;>omega) (by omega)];exact Qo (by rw[List.getElem?_append_right (by omega)]; simpa using hx)
  ·exact evB (by rw[hec]; exact RI.nils)
 refine Za rfl (Za rfl (Za rfl (Za rfl (Za (Yf ..) ?_))));refine Zb (λh=>?_) (λh=>?_)
 ·have hd:s.s1.deck=[]:=List.length_eq_zero_iff.1 (by have:=of_decide_eq_true h; omega);have hw:IntKind.i64.wrap (s.s1.life-1)=s.s1.life-1:=IntWalk.i64_in _ (by omega);refine Za rfl ?_;refine Qa (v:=.junk) (rd:=[]) (up:=[(16,.box [iv8 3,iv 1,iv (-1),iv 0,iv 0,iv 0,.nils])]) rfl rfl ?_;refine Za rfl (Za rfl (Za rfl (Za (ZaD ..) (Za rfl (Za rfl ?_)))));rw[hw];refine Qa (v:=.junk) (rd:=[]) (up:=[(15,.box ((mv4 s).set 16 (iv (s.s1.life-1))))]) rfl rfl ?_;refine Za rfl (Za rfl (Za rfl (Zc (c57 _) rfl g64.ok.plain rfl ?_)));refine Za rfl (Zb (λh2=>?_) (λh2=>?_))
  ·have h3:wIn (s.s1.life-1)=false:=by simpa using h2
   refine Za rfl (Za rfl (Qa rfl rfl (Qa rfl rfl (Yi rfl (Yi rfl ?_)))));have hr:drawF s 1=(zSt,zEv,171):=by
    show (match s.s1.deck with | []=>_|c::l=>_)=_;rw[hd]; show (if wIn (s.s1.life-1)=true then _ else _)=_;rw[h3]; rfl
   rw[hr];exact⟨[],resZ 171⟩
  ·have h3:wIn (s.s1.life-1)=true:=by simpa using h2
   refine kk _ _ { s with s1:={ s.s1 with life:=s.s1.life-1 } } ⟨3,1,-1,0,0,0,[]⟩ (List.range 17) 17 rfl (by decide) rfl rfl rfl rfl rfl rfl ?_ ?_ ?_ (by kernel_rfl)
   ·refine SB.mk (rd:=List.range 17) (s:={ s with s1:={ s.s1 with life:=s.s1.life-1 } }) ?_ ?_ ?_ ?_ ?_ ?_ ?_ ?_ ?_ ?_ ?_<;>first|exact RI.own rfl (by decide) rfl|exact RT.own rfl (by decide) rfl
   ·exact⟨hs9.1,⟨hs9.2.1,hs9.2.2,hs9.2.3,hs9.2.4,hs9.2.5⟩,⟨hs9.3.1,hs9.3.2,hs9.3.3,hs9.3.4,hs9.3.5⟩⟩
   ·show (match s.s1.deck with | []=>_|c::l=>_)=_;rw[hd]; show (if wIn (s.s1.life-1)=true then _ else _)=_;rw[h3]; rfl
 ·obtain⟨c,l,hd⟩:∃c l,s.s1.deck=c::l:=by
   cases q:s.s1.deck with
   |nil=>rw[q] at h; cases h
   |cons c l=>exact⟨c,l,rfl⟩
  have hdl:s.s1.deck.length=l.length+1:=by rw[hd]; rfl
  refine Za rfl (Za rfl (Za rfl (Za rfl (Za (Yaa ..) ?_))));refine Zb (λh2=>?_) (λh2=>?_)
  ·have h3:10≤s.s1.hand.length:=by have:=of_decide_eq_true h2; omega
   have w1:IntKind.i64.wrap (0+1)=1:=by decide
   have w2:IntKind.i64.wrap (1+1)=2:=by decide
   refine Za rfl (Qa (v:=.junk) (rd:=[]) (up:=[(16,.box [iv8 4,iv 1,iv 0,iv 0,iv 0,iv 0,.nils])]) rfl rfl ?_);refine Xb rfl (Xb rfl (Xb rfl (Xb rfl ?_)));refine QK hP rfl g78.ok rfl [15,10,12] [0,4,5,6,7,8,9,10,11,12,13,14,15] (v:=iv c) (m:=2) (σ:=((sg4 b s).append [.box (mv4 s),.box [iv8 4,iv 1,iv 0,iv 0,iv 0,iv 0,.nils]])) (τ:=(((dd17.set 10 (.rows 1 (s.s1.deck.map cel))).set 12 (.rows 1 (s.s1.grave.map cel))).set 15 (.box (mv4 s)))) (τ':=(((dd17.set 10 (.rows 1 (s.s1.deck.map cel))).set 15 (.box (((mv4 s).set 19 (tailV 10 l)).set 21 (.sl 18 0 (s.s1.grave.length+1) false)))).append [.rows 1 [cel c],.rows 1 ((s.s1.grave++[c]).map cel)])) (by decide) (show ∀b∈[0,4,5,6,7,8,9,10,11,12,13,14,15],b<17 by decide) rfl ?_ ?_ rfl (u:=iv c) (up:=[(15,.box (((mv4 s).set 19 (tailV 10 l)).set 21 (.sl 18 0 (s.s1.grave.length+1) false))),(10,.rows 1 (s.s1.deck.map cel)),(12,.dead),(17,.rows 1 [cel c]),(18,.rows 1 ((s.s1.grave++[c]).map cel))]) (σ':=(((sg4 b s).set 12 .dead).append [.box (((mv4 s).set 19 (tailV 10 l)).set 21 (.sl 18 0 (s.s1.grave.length+1) false)),.box [iv8 4,iv 1,iv 0,iv 0,iv 0,iv 0,.nils],.rows 1 [cel c],.rows 1 ((s.s1.grave++[c]).map cel)])) rfl ?_ rfl ?_
   ·show (((dd17.set 10 (ABlk.mapV (AVal.ren (ltM 17)) (.rows 1 (s.s1.deck.map cel)))).set 12 (ABlk.mapV (AVal.ren (ltM 17)) (.rows 1 (s.s1.grave.map cel)))).set 15 (.box (mv4 s)))=_;rw[Qs,Qs]
   ·exact c58 (τ:=(((dd17.set 10 (.rows 1 (s.s1.deck.map cel))).set 12 (.rows 1 (s.s1.grave.map cel))).set 15 (.box (mv4 s)))) (mb:=15) (jf:=19) (jt:=21) (bf:=10) (bt:=12) (row:=(mv4 s)) (row1:=((mv4 s).set 19 (tailV 10 l))) (row2:=(((mv4 s).set 19 (tailV 10 l)).set 21 (.sl 18 0 (s.s1.grave.length+1) false))) (x:=c) (l:=l) (t:=s.s1.grave) (vf:=tailV 10 l) rfl rfl hdl rfl rfl (Nat.le_trans hs.s1.grave (by decide)) (show ABlk.rows 1 (s.s1.deck.map cel)=_ by rw[hd]) rfl (by decide) (by decide) rfl rfl rfl ⟨rfl,rfl⟩
   ·show [(15,.box (((mv4 s).set 19 ((tailV 10 l).ren (keepM [0,4,5,6,7,8,9,10,11,12,13,14,15] 17 2))).set 21 (.sl 18 0 (s.s1.grave.length+1) false))),(10,ABlk.mapV (AVal.ren (keepM [0,4,5,6,7,8,9,10,11,12,13,14,15] 17 2)) (.rows 1 (s.s1.deck.map cel))),(12,.dead),(17,.rows 1 [cel c]),(18,ABlk.mapV (AVal.ren (keepM [0,4,5,6,7,8,9,10,11,12,13,14,15] 17 2)) (.rows 1 ((s.s1.grave++[c]).map cel)))]=_;rw[XaB (b:=10) (l:=l) (m:=keepM [0,4,5,6,7,8,9,10,11,12,13,14,15] 17 2) rfl,Qs,Qs]
   refine Xb rfl (Zd (v:=.junk) (rd:=[]) (up:=[(16,.box [iv8 4,iv 1,iv c,iv 0,iv 0,iv 0,.nils])]) rfl rfl ?_);refine Yn (by kernel_rfl) ?_;refine QP 3 (Qk ?_);refine Za rfl (Yd ?_);refine Xb rfl (Xb rfl (Xb rfl (Xb rfl (Xb rfl (Zd (ld (row:=(((mv4 s).set 19 (tailV 10 l)).set 21 (.sl 18 0 (s.s1.grave.length+1) false))) rfl rfl) (Yg _) ?_)))));refine Xb rfl (Zd (ld (row:=[iv8 4,iv 1,iv c,iv 0,iv 0,iv 0,.nils]) rfl rfl) (Yg _) ?_);refine Zd (v:=.sl 19 0 1 true) (rd:=[]) (up:=[(19,.rows 1 [cel c])]) rfl rfl ?_;refine Zd (v:=.sl 20 0 (s.s0.told.length+1) false) (rd:=[19]) (up:=[(9,.dead),(20,.rows 1 ((s.s0.told++[c]).map cel))]) ?_ rfl ?_
   ·have:=YR 1 8 (σ:=(((sg4 b s).set 12 .dead).append [.box (((mv4 s).set 19 (tailV 10 l)).set 21 (.sl 18 0 (s.s1.grave.length+1) false)),.box [iv8 4,iv 1,iv c,iv 0,iv 0,iv 0,.nils],.rows 1 [cel c],.rows 1 ((s.s1.grave++[c]).map cel),.rows 1 [cel c]])) (b:=9) (c:=19) (len:=s.s0.told.length) (ex:=false) (rs:=s.s0.told.map cel) (row:=cel c) rfl rfl (by simp) rfl (by have:=hs.s0.told; omega);rw[show (s.s0.told++[c]).map cel=s.s0.told.map cel++[cel c] by simp]; exact this
   refine Xb rfl (Xb rfl (Xb rfl (Xb rfl (Xb rfl (Zd (v:=.junk) (rd:=[]) (up:=[(15,.box ((((mv4 s).set 15 (.sl 20 0 (s.s0.told.length+1) false)).set 19 (tailV 10 l)).set 21 (.sl 18 0 (s.s1.grave.length+1) false)))]) rfl rfl ?_)))));refine Yn (by kernel_rfl) (Za rfl ?_);rw[w1];refine Qk ?_;refine Za rfl (Yd ?_);refine Xb rfl (Xb rfl (Xb rfl (Xb rfl (Xb rfl (Zd (ld (row:=((((mv4 s).set 15 (.sl 20 0 (s.s0.told.length+1) false)).set 19 (tailV 10 l)).set 21 (.sl 18 0 (s.s1.grave.length+1) false))) rfl rfl) (Yg _) ?_)))));refine Xb rfl (Zd (ld (row:=[iv8 4,iv 1,iv c,iv 0,iv 0,iv 0,.nils]) rfl rfl) (Yg _) ?_);refine Zd (v:=.sl 21 0 1 true) (rd:=[]) (up:=[(21,.rows 1 [cel c])]) rfl rfl ?_;refine Zd (v:=.sl 22 0 (s.s1.told.length+1) false) (rd:=[21]) (up:=[(14,.dead),(22,.rows 1 ((s.s1.told++[c]).map cel))]) ?_ rfl ?_
   ·have:=YR 1 8 (σ:=((((sg4 b s).set 9 .dead).set 12 .dead).append [.box ((((mv4 s).set 15 (.sl 20 0 (s.s0.told.length+1) false)).set 19 (tailV 10 l)).set 21 (.sl 18 0 (s.s1.grave.length+1) false)),.box [iv8 4,iv 1,iv c,iv 0,iv 0,iv 0,.nils],.rows 1 [cel c],.rows 1 ((s.s1.grave++[c]).map cel),.rows 1 [cel c],.rows 1 ((s.s0.told++[c]).map cel),.rows 1 [cel c]])) (b:=14) (c:=21) (len:=s.s1.told.length) (ex:=false) (rs:=s.s1.told.map cel) (row:=cel c) rfl rfl (by simp) rfl (by have:=hs.s1.told; omega);rw[show (s.s1.told++[c]).map cel=s.s1.told.map cel++[cel c] by simp]; exact this
   refine Xb rfl (Xb rfl (Xb rfl (Xb rfl (Xb rfl (Zd (v:=.junk) (rd:=[]) (up:=[(15,.box (((((mv4 s).set 15 (.sl 20 0 (s.s0.told.length+1) false)).set 19 (tailV 10 l)).set 21 (.sl 18 0 (s.s1.grave.length+1) false)).set 23 (.sl 22 0 (s.s1.told.length+1) false)))]) rfl rfl ?_)))));refine Yn (by kernel_rfl) (Za rfl ?_);rw[w2];refine Qk ?_;refine Za rfl (Yc ?_);refine kk _ _ { s with s1:={ s.s1 with deck:=l,grave:=s.s1.grave++[c],told:=s.s1.told++[c] },s0:={ s.s0 with told:=s.s0.told++[c] } } ⟨4,1,c,0,0,0,[]⟩ (List.range 23) 23 rfl (by decide) rfl rfl rfl rfl rfl rfl ?_ ?_ ?_ (by kernel_rfl)
   ·refine SB.mk (rd:=List.range 23) (s:={ s with s1:={ s.s1 with deck:=l,grave:=s.s1.grave++[c],told:=s.s1.told++[c] },s0:={ s.s0 with told:=s.s0.told++[c] } }) ?_ ?_ ?_ ?_ ?_ ?_ ?_ ?_ ?_ ?_ ?_<;>first|exact RI.own rfl (by decide) rfl|exact RI.own rfl (by decide) (by simp)|exact RT.own rfl (by decide) rfl|exact RI.tailV (show ABlk.rows 1 (s.s1.deck.map cel)=_ by rw[hd]) (by decide)
   ·have q1:=hs.s1.grave;have q2:=hs.s1.told;have q3:=hs.s1.deck;have q4:=hs.s0.told;refine⟨hs9.1,⟨hs9.2.1,hs9.2.2,hs9.2.3,hs9.2.4,by show (s.s0.told++[c]).length≤_; simp; omega⟩,⟨by show l.length≤_; omega,hs9.3.2,by show (s.s1.grave++[c]).length≤_; simp; omega,hs9.3.4,by show (s.s1.told++[c]).length≤_; simp; omega⟩⟩
   ·show (match s.s1.deck with | []=>_|c::l=>_)=_;rw[hd]; show (if 10≤s.s1.hand.length then _ else _)=_;rw[if_pos h3]; rfl
  ·have h3:¬10≤s.s1.hand.length:=by have:=of_decide_eq_false h2; omega
   refine Xb rfl (Xb rfl (Xb rfl (Xb rfl ?_)));refine QK hP rfl g78.ok rfl [15,10,11] [0,4,5,6,7,8,9,10,11,12,13,14,15] (v:=iv c) (m:=2) (σ:=((sg4 b s).append [.box (mv4 s),.box [iv8 3,iv 1,iv 0,iv 0,iv 0,iv 0,.nils]])) (τ:=(((dd17.set 10 (.rows 1 (s.s1.deck.map cel))).set 11 (.rows 1 (s.s1.hand.map cel))).set 15 (.box (mv4 s)))) (τ':=(((dd17.set 10 (.rows 1 (s.s1.deck.map cel))).set 15 (.box (((mv4 s).set 19 (tailV 10 l)).set 20 (.sl 18 0 (s.s1.hand.length+1) false)))).append [.rows 1 [cel c],.rows 1 ((s.s1.hand++[c]).map cel)])) (by decide) (show ∀b∈[0,4,5,6,7,8,9,10,11,12,13,14,15],b<17 by decide) rfl ?_ ?_ rfl (u:=iv c) (up:=[(15,.box (((mv4 s).set 19 (tailV 10 l)).set 20 (.sl 18 0 (s.s1.hand.length+1) false))),(10,.rows 1 (s.s1.deck.map cel)),(11,.dead),(17,.rows 1 [cel c]),(18,.rows 1 ((s.s1.hand++[c]).map cel))]) (σ':=(((sg4 b s).set 11 .dead).append [.box (((mv4 s).set 19 (tailV 10 l)).set 20 (.sl 18 0 (s.s1.hand.length+1) false)),.box [iv8 3,iv 1,iv 0,iv 0,iv 0,iv 0,.nils],.rows 1 [cel c],.rows 1 ((s.s1.hand++[c]).map cel)])) rfl ?_ rfl ?_
   ·show (((dd17.set 10 (ABlk.mapV (AVal.ren (ltM 17)) (.rows 1 (s.s1.deck.map cel)))).set 11 (ABlk.mapV (AVal.ren (ltM 17)) (.rows 1 (s.s1.hand.map cel)))).set 15 (.box (mv4 s)))=_;rw[Qs,Qs]
   ·exact c58 (τ:=(((dd17.set 10 (.rows 1 (s.s1.deck.map cel))).set 11 (.rows 1 (s.s1.hand.map cel))).set 15 (.box (mv4 s)))) (mb:=15) (jf:=19) (jt:=20) (bf:=10) (bt:=11) (row:=(mv4 s)) (row1:=((mv4 s).set 19 (tailV 10 l))) (row2:=(((mv4 s).set 19 (tailV 10 l)).set 20 (.sl 18 0 (s.s1.hand.length+1) false))) (x:=c) (l:=l) (t:=s.s1.hand) (vf:=tailV 10 l) rfl rfl hdl rfl rfl (Nat.le_trans hs.s1.hand (by decide)) (show ABlk.rows 1 (s.s1.deck.map cel)=_ by rw[hd]) rfl (by decide) (by decide) rfl rfl rfl ⟨rfl,rfl⟩
   ·show [(15,.box (((mv4 s).set 19 ((tailV 10 l).ren (keepM [0,4,5,6,7,8,9,10,11,12,13,14,15] 17 2))).set 20 (.sl 18 0 (s.s1.hand.length+1) false))),(10,ABlk.mapV (AVal.ren (keepM [0,4,5,6,7,8,9,10,11,12,13,14,15] 17 2)) (.rows 1 (s.s1.deck.map cel))),(11,.dead),(17,.rows 1 [cel c]),(18,ABlk.mapV (AVal.ren (keepM [0,4,5,6,7,8,9,10,11,12,13,14,15] 17 2)) (.rows 1 ((s.s1.hand++[c]).map cel)))]=_;rw[XaB (b:=10) (l:=l) (m:=keepM [0,4,5,6,7,8,9,10,11,12,13,14,15] 17 2) rfl,Qs,Qs]
   refine Xb rfl (Zd (v:=.junk) (rd:=[]) (up:=[(16,.box [iv8 3,iv 1,iv c,iv 0,iv 0,iv 0,.nils])]) rfl rfl ?_);refine Yn (by kernel_rfl) ?_;refine Xb rfl (Xb rfl (Zd (ld (row:=(((mv4 s).set 19 (tailV 10 l)).set 20 (.sl 18 0 (s.s1.hand.length+1) false))) rfl rfl) (Yg _) ?_));refine Xb rfl (Zd (ld (row:=[iv8 3,iv 1,iv c,iv 0,iv 0,iv 0,.nils]) rfl rfl) (Yg _) ?_);refine Zd (v:=.sl 19 0 1 true) (rd:=[]) (up:=[(19,.rows 1 [cel c])]) rfl rfl ?_;refine Zd (v:=.sl 20 0 (s.s1.told.length+1) false) (rd:=[19]) (up:=[(14,.dead),(20,.rows 1 ((s.s1.told++[c]).map cel))]) ?_ rfl ?_
   ·have:=YR 1 8 (σ:=(((sg4 b s).set 11 .dead).append [.box (((mv4 s).set 19 (tailV 10 l)).set 20 (.sl 18 0 (s.s1.hand.length+1) false)),.box [iv8 3,iv 1,iv c,iv 0,iv 0,iv 0,.nils],.rows 1 [cel c],.rows 1 ((s.s1.hand++[c]).map cel),.rows 1 [cel c]])) (b:=14) (c:=19) (len:=s.s1.told.length) (ex:=false) (rs:=s.s1.told.map cel) (row:=cel c) rfl rfl (by simp) rfl (by have:=hs.s1.told; omega);rw[show (s.s1.told++[c]).map cel=s.s1.told.map cel++[cel c] by simp]; exact this
   refine Xb rfl (Xb rfl (Zd (v:=.junk) (rd:=[]) (up:=[(15,.box ((((mv4 s).set 19 (tailV 10 l)).set 20 (.sl 18 0 (s.s1.hand.length+1) false)).set 23 (.sl 20 0 (s.s1.told.length+1) false)))]) rfl rfl ?_));refine Yn (by kernel_rfl) ?_;refine kk _ _ { s with s1:={ s.s1 with deck:=l,hand:=s.s1.hand++[c],told:=s.s1.told++[c] } } ⟨3,1,c,0,0,0,[]⟩ (List.range 21) 21 rfl (by decide) rfl rfl rfl rfl rfl rfl ?_ ?_ ?_ (by kernel_rfl)
   ·refine SB.mk (rd:=List.range 21) (s:={ s with s1:={ s.s1 with deck:=l,hand:=s.s1.hand++[c],told:=s.s1.told++[c] } }) ?_ ?_ ?_ ?_ ?_ ?_ ?_ ?_ ?_ ?_ ?_<;>first|exact RI.own rfl (by decide) rfl|exact RI.own rfl (by decide) (by simp)|exact RT.own rfl (by decide) rfl|exact RI.tailV (show ABlk.rows 1 (s.s1.deck.map cel)=_ by rw[hd]) (by decide)
   ·have q1:=hs.s1.hand;have q2:=hs.s1.told;have q3:=hs.s1.deck;refine⟨hs9.1,⟨hs9.2.1,hs9.2.2,hs9.2.3,hs9.2.4,hs9.2.5⟩,⟨by show l.length≤_; omega,by show (s.s1.hand++[c]).length≤_; simp; omega,hs9.3.3,hs9.3.4,by show (s.s1.told++[c]).length≤_; simp; omega⟩⟩
   ·show (match s.s1.deck with | []=>_|c::l=>_)=_;rw[hd]; show (if 10≤s.s1.hand.length then _ else _)=_;rw[if_neg h3]; rfl
end Go.Ah.Tz
end
section
namespace Go.Ah.Tz
open Go.Proofs.Tryz (prog)
def XO(b:Bk)(s:St)(k c:Int):Bool:=((((decide (c<0)||decide ((b.cards.length:Int)≤c)) || !((b.cards[c.toNat]?).getD default).unit)||decide (7≤((s.side k).units.length:Int)))||decide (1000000≤s.next))
def QA(s:St)(k c:Int):St:={ s.put k { s.side k with units:=(s.side k).units++[⟨s.next,c,0,true⟩] } with next:=s.next+1 }
def Xax(b:Bk)(s:St)(k c:Int):AVal:=
 if XO b s k c then resX zSt zEv (.bool false) else resX (QA s k c) ⟨2,k,c,s.next,0,0,[]⟩ (.bool true)
attribute [local irreducible] Ans.rd Ans.pu Ans.wr Ans.dr Ans.gr Ans.gw Ans.gl Ans.gd Ans.opt joinK W
set_option maxHeartbeats 4000000
theorem c21_0(b:Bk)(hf:bkFit b=true)(hsm:Yj b.cards)(s:St)(hs:StLe 2000000 s)(hm:mayR (bkR b).1 b s true=true)(c:Int):PC 56 [bkV b,stV s,iv 0,iv c] (Xax b s 0 c):=by
 have hfac:=Ys hm;have hw:IntKind.i64.wrap (s.next+1)=s.next+1:=IntWalk.i64_in _ (by omega);refine Yt hP g56.ok rfl ?_;rw[H4.e]; unfold g56; dsimp only;refine Qa (v:=.bptr 0 0) (rd:=[]) (up:=[(0,.box (bkC b))]) rfl rfl ?_;refine Qa (v:=.bptr 1 0) (rd:=[]) (up:=[(1,.box (stC s))]) rfl rfl ?_;refine Qa (v:=.bptr 2 0) (rd:=[]) (up:=[(2,.box zStC)]) rfl rfl ?_;refine Qa (v:=.bptr 3 0) (rd:=[]) (up:=[(3,.box zEvC)]) rfl rfl ?_;refine c56n b hf hsm s (hs.mono (by decide)) (n0:=4) (n:=15) rfl rfl rfl rfl (λh=>by rw[hm] at h; cases h) (λ_=>?_);refine Za rfl ?_;refine Y2 (c:=false) (d:=false) (λ_=>rfl) (λ_=>rfl) ?_;refine Y2 (c:=false) (d:=false) (λ_=>rfl) (λ_=>rfl) ?_;refine Y2 (c:=false) (λ_=>rfl) (λ_=>QL ..) ?_;refine XbL (c:=decide (c<0)) (λ_=>rfl) (λ_=>rfl) (λ_=>rfl) (v4:=iv b.cards.length) (q4:=[]) (λ_=>by simp[Qd]) (λ_=>Yaa ..) ?_;refine Xbl (d:=!((b.cards[c.toNat]?).getD default).unit) (λ_=>rfl) (λ_=>rfl) (λ_=>rfl) (v4:=.rptr (cdC ((b.cards[c.toNat]?).getD default)) 0) (q4:=[]) (λhc=>?_) (λ_=>rfl) (λ_=>ldr (cdLd1 _)) (λ_=>rfl) ?_
 ·have h0:0≤c∧c.toNat<b.cards.length:=by
   have:¬c<0∧¬(b.cards.length:Int)≤c:=by simpa using hc
   omega
  have:=Xbz (((sg4 b s).append [.box (mv4 s)])) cdC false false 12 b.cards .i64 c h0.1 h0.2;rw[List.getElem?_eq_getElem h0.2]; exact this
 refine Xbl (λ_=>rfl) (λ_=>rfl) (λ_=>rfl) (λ_=>rfl) (λ_=>rfl) (v6:=iv s.s0.units.length) (q6:=[]) (λ_=>by simp[Qd]) (λ_=>Yaa ..) ?_;refine ZaM (λ_=>rfl) (λ_=>rfl) (λ_=>Yaa ..) ?_;refine Zb (λh=>?_) (λh=>?_)
 ·refine Za rfl (Za rfl (Qa rfl rfl (Qa rfl rfl (Yi rfl (Yi rfl ?_)))));have hr:Xax b s 0 c=resX zSt zEv (.bool false):=if_pos h;rw[hr];exact⟨[],resZX rfl⟩
 have hr:Xax b s 0 c=resX (QA s 0 c) ⟨2,0,c,s.next,0,0,[]⟩ (.bool true):=if_neg (by rw[Bool.not_eq_true]; exact h);have hu:¬7≤(s.s0.units.length:Int):=by
  have h':XO b s 0 c=false:=h;simp only[XO,Bool.or_eq_false_iff,decide_eq_false_iff_not] at h';exact h'.1.2
 refine Za rfl (Za rfl (Za rfl (Za rfl ?_)));refine Xb rfl (Xb rfl (Zd (ld (row:=(mv4 s)) rfl rfl) (Yg _) ?_));refine Xb rfl (Zd (ld (row:=stC s) rfl rfl) (Yg _) (Xb rfl ?_));refine Zd (v:=.sl 16 0 1 true) (rd:=[]) (up:=[(16,.rows 4 [thC (⟨s.next,c,0,true⟩:Th)])]) rfl rfl ?_;refine Zd (v:=.sl 17 0 (s.s0.units.length+1) false) (rd:=[16]) (up:=[(8,.dead),(17,.rows 4 ((s.s0.units++[(⟨s.next,c,0,true⟩:Th)]).map thC))]) ?_ rfl ?_
 ·have:=YR 4 32 (σ:=((sg4 b s).append [.box (mv4 s),.rows 4 [thC (⟨s.next,c,0,true⟩:Th)]])) (b:=8) (c:=16) (len:=s.s0.units.length) (ex:=false) (rs:=s.s0.units.map thC) (row:=thC (⟨s.next,c,0,true⟩:Th)) rfl rfl (by simp) rfl (by omega);rw[show (s.s0.units++[(⟨s.next,c,0,true⟩:Th)]).map thC=s.s0.units.map thC++[thC (⟨s.next,c,0,true⟩:Th)] by simp]; exact this
 refine Xb rfl (Xb rfl (Zd (v:=.junk) (rd:=[]) (up:=[(15,.box ((mv4 s).set 14 (.sl 17 0 (s.s0.units.length+1) false)))]) rfl rfl ?_));refine Yn (by kernel_rfl) ?_;refine Za rfl (Za rfl (Za rfl (Za (ld (row:=((mv4 s).set 14 (.sl 17 0 (s.s0.units.length+1) false))) rfl rfl) (Za (Zl ..) ?_))));rw[hw];refine Za rfl (Za rfl (Za rfl (Qa (v:=.junk) (rd:=[]) (up:=[(15,.box (((mv4 s).set 7 (iv (s.next+1))).set 14 (.sl 17 0 (s.s0.units.length+1) false)))]) rfl rfl ?_)));refine Xb rfl (Xb rfl (Zd (ld (row:=(((mv4 s).set 7 (iv (s.next+1))).set 14 (.sl 17 0 (s.s0.units.length+1) false))) rfl rfl) (Yg _) ?_));refine Xb rfl (Zd (ld (row:=stC s) rfl rfl) (Yg _) (Xb rfl ?_));refine Zd (v:=.junk) (rd:=[]) (up:=[(2,.box (((st4 s).set 6 (iv (s.next+1))).set 13 (.sl 17 0 (s.s0.units.length+1) false)))]) rfl rfl ?_;refine Zd (v:=.junk) (rd:=[]) (up:=[(3,.box [iv8 2,iv 0,iv c,iv s.next,iv 0,iv 0,.nils])]) rfl rfl ?_;refine Yn (by kernel_rfl) (Yi rfl (Yi rfl ?_));refine⟨List.range 18,?_⟩;rw[hr];refine resXB (cs:=(((st4 s).set 6 (iv (s.next+1))).set 13 (.sl 17 0 (s.s0.units.length+1) false))) (s:=QA s 0 c) ?_ (evB (e:=⟨2,0,c,s.next,0,0,[]⟩) RI.nils) rfl;refine SB.mk (rd:=List.range 18) (s:=QA s 0 c) ?_ ?_ ?_ ?_ ?_ ?_ ?_ ?_ ?_ ?_ ?_<;>first|exact RI.own rfl (by decide) rfl|exact RT.own rfl (by decide) rfl|exact RT.own (l:=s.s0.units++[(⟨s.next,c,0,true⟩:Th)]) rfl (by decide) (by simp)
theorem c21_1(b:Bk)(hf:bkFit b=true)(hsm:Yj b.cards)(s:St)(hs:StLe 2000000 s)(hm:mayR (bkR b).1 b s true=true)(c:Int):PC 56 [bkV b,stV s,iv 1,iv c] (Xax b s 1 c):=by
 have hfac:=Ys hm;have hw:IntKind.i64.wrap (s.next+1)=s.next+1:=IntWalk.i64_in _ (by omega);refine Yt hP g56.ok rfl ?_;rw[H4.e]; unfold g56; dsimp only;refine Qa (v:=.bptr 0 0) (rd:=[]) (up:=[(0,.box (bkC b))]) rfl rfl ?_;refine Qa (v:=.bptr 1 0) (rd:=[]) (up:=[(1,.box (stC s))]) rfl rfl ?_;refine Qa (v:=.bptr 2 0) (rd:=[]) (up:=[(2,.box zStC)]) rfl rfl ?_;refine Qa (v:=.bptr 3 0) (rd:=[]) (up:=[(3,.box zEvC)]) rfl rfl ?_;refine c56n b hf hsm s (hs.mono (by decide)) (n0:=4) (n:=15) rfl rfl rfl rfl (λh=>by rw[hm] at h; cases h) (λ_=>?_);refine Za rfl ?_;refine Y2 (c:=false) (d:=false) (λ_=>rfl) (λ_=>rfl) ?_;refine Y2 (c:=false) (d:=false) (λ_=>rfl) (λ_=>rfl) ?_;refine Y2 (c:=false) (λ_=>rfl) (λ_=>QL ..) ?_;refine XbL (c:=decide (c<0)) (λ_=>rfl) (λ_=>rfl) (λ_=>rfl) (v4:=iv b.cards.length) (q4:=[]) (λ_=>by simp[Qd]) (λ_=>Yaa ..) ?_;refine Xbl (d:=!((b.cards[c.toNat]?).getD default).unit) (λ_=>rfl) (λ_=>rfl) (λ_=>rfl) (v4:=.rptr (cdC ((b.cards[c.toNat]?).getD default)) 0) (q4:=[]) (λhc=>?_) (λ_=>rfl) (λ_=>ldr (cdLd1 _)) (λ_=>rfl) ?_
 ·have h0:0≤c∧c.toNat<b.cards.length:=by
   have:¬c<0∧¬(b.cards.length:Int)≤c:=by simpa using hc
   omega
  have:=Xbz (((sg4 b s).append [.box (mv4 s)])) cdC false false 12 b.cards .i64 c h0.1 h0.2;rw[List.getElem?_eq_getElem h0.2]; exact this
 refine Xbl (λ_=>rfl) (λ_=>rfl) (λ_=>rfl) (λ_=>rfl) (λ_=>rfl) (v6:=iv s.s1.units.length) (q6:=[]) (λ_=>by simp[Qd]) (λ_=>Yaa ..) ?_;refine ZaM (λ_=>rfl) (λ_=>rfl) (λ_=>Yaa ..) ?_;refine Zb (λh=>?_) (λh=>?_)
 ·refine Za rfl (Za rfl (Qa rfl rfl (Qa rfl rfl (Yi rfl (Yi rfl ?_)))));have hr:Xax b s 1 c=resX zSt zEv (.bool false):=if_pos h;rw[hr];exact⟨[],resZX rfl⟩
 have hr:Xax b s 1 c=resX (QA s 1 c) ⟨2,1,c,s.next,0,0,[]⟩ (.bool true):=if_neg (by rw[Bool.not_eq_true]; exact h);have hu:¬7≤(s.s1.units.length:Int):=by
  have h':XO b s 1 c=false:=h;simp only[XO,Bool.or_eq_false_iff,decide_eq_false_iff_not] at h';exact h'.1.2
 refine Za rfl (Za rfl (Za rfl (Za rfl ?_)));refine Xb rfl (Xb rfl (Zd (ld (row:=(mv4 s)) rfl rfl) (Yg _) ?_));refine Xb rfl (Zd (ld (row:=stC s) rfl rfl) (Yg _) (Xb rfl ?_));refine Zd (v:=.sl 16 0 1 true) (rd:=[]) (up:=[(16,.rows 4 [thC (⟨s.next,c,0,true⟩:Th)])]) rfl rfl ?_;refine Zd (v:=.sl 17 0 (s.s1.units.length+1) false) (rd:=[16]) (up:=[(13,.dead),(17,.rows 4 ((s.s1.units++[(⟨s.next,c,0,true⟩:Th)]).map thC))]) ?_ rfl ?_
 ·have:=YR 4 32 (σ:=((sg4 b s).append [.box (mv4 s),.rows 4 [thC (⟨s.next,c,0,true⟩:Th)]])) (b:=13) (c:=16) (len:=s.s1.units.length) (ex:=false) (rs:=s.s1.units.map thC) (row:=thC (⟨s.next,c,0,true⟩:Th)) rfl rfl (by simp) rfl (by omega);rw[show (s.s1.units++[(⟨s.next,c,0,true⟩:Th)]).map thC=s.s1.units.map thC++[thC (⟨s.next,c,0,true⟩:Th)] by simp]; exact this
 refine Xb rfl (Xb rfl (Zd (v:=.junk) (rd:=[]) (up:=[(15,.box ((mv4 s).set 22 (.sl 17 0 (s.s1.units.length+1) false)))]) rfl rfl ?_));refine Yn (by kernel_rfl) ?_;refine Za rfl (Za rfl (Za rfl (Za (ld (row:=((mv4 s).set 22 (.sl 17 0 (s.s1.units.length+1) false))) rfl rfl) (Za (Zl ..) ?_))));rw[hw];refine Za rfl (Za rfl (Za rfl (Qa (v:=.junk) (rd:=[]) (up:=[(15,.box (((mv4 s).set 7 (iv (s.next+1))).set 22 (.sl 17 0 (s.s1.units.length+1) false)))]) rfl rfl ?_)));refine Xb rfl (Xb rfl (Zd (ld (row:=(((mv4 s).set 7 (iv (s.next+1))).set 22 (.sl 17 0 (s.s1.units.length+1) false))) rfl rfl) (Yg _) ?_));refine Xb rfl (Zd (ld (row:=stC s) rfl rfl) (Yg _) (Xb rfl ?_));refine Zd (v:=.junk) (rd:=[]) (up:=[(2,.box (((st4 s).set 6 (iv (s.next+1))).set 21 (.sl 17 0 (s.s1.units.length+1) false)))]) rfl rfl ?_;refine Zd (v:=.junk) (rd:=[]) (up:=[(3,.box [iv8 2,iv 1,iv c,iv s.next,iv 0,iv 0,.nils])]) rfl rfl ?_;refine Yn (by kernel_rfl) (Yi rfl (Yi rfl ?_));refine⟨List.range 18,?_⟩;rw[hr];refine resXB (cs:=(((st4 s).set 6 (iv (s.next+1))).set 21 (.sl 17 0 (s.s1.units.length+1) false))) (s:=QA s 1 c) ?_ (evB (e:=⟨2,1,c,s.next,0,0,[]⟩) RI.nils) rfl;refine SB.mk (rd:=List.range 18) (s:=QA s 1 c) ?_ ?_ ?_ ?_ ?_ ?_ ?_ ?_ ?_ ?_ ?_<;>first|exact RI.own rfl (by decide) rfl|exact RT.own rfl (by decide) rfl|exact RT.own (l:=s.s1.units++[(⟨s.next,c,0,true⟩:Th)]) rfl (by decide) (by simp)
end Go.Ah.Tz
end
section
namespace Go.Ah.Tz
open Go.Proofs.Tryz (prog)
attribute [local irreducible] Ans.rd Ans.pu Ans.wr Ans.dr Ans.gr Ans.gw Ans.gl Ans.gd Ans.opt joinK W
set_option maxHeartbeats 4000000
theorem c118(l:List Th)(hl:l.length≤1000000000)(id:FuncId)(fs cs:List AVal)(hp:Zh prog id=true)(f:Th→Bool)(hc:∀x∈l,PC id (fs++[.agg (thC x)]++cs) (.bool (f x)))(hr:∀x,roL (fs++[.agg (thC x)]++cs)=true) :
  PC 114 [thV l,.func (.func id) fs cs] (iv (idxF f l 0)):=by
 refine Qb hP g114.ok rfl rfl ?_;rw[H2.e]; unfold g114; dsimp only;refine Za (v:=iv l.length) (rd:=[]) (by simp[Qd]) ?_;refine Xn (ι:=Nat) (λi vs s=>vs=[iv i]∧i≤l.length∧idxF f l 0=idxF f (l.drop i) i) (λi=>l.length-i) 0 ⟨rfl,by omega,by simp⟩ ?_;rintro i vs s again ⟨rfl,hi,hr'⟩ hag;refine Za rfl (Zb (λh=>?_) (λh=>?_))
 ·have h:i<l.length:=by simpa using h
  refine Za (Xw _ thC _ _ _ l _ i h) (Za (ldr rfl) ?_);refine Zc (hc _ (List.getElem_mem h)) rfl hp (hr _) ?_;rw[YLD h,idxF] at hr';refine Zb (λh2=>?_) (λh2=>?_)
  ·rw[if_pos h2] at hr'; rw[hr']; rfl
  ·rw[if_neg (by rw[h2]; simp)] at hr';refine Za (Zl ..) ?_;rw[Zg (n:=i) (by omega)];exact hag (i+1) _ _ (by omega) ⟨rfl,by omega,by rw[hr']; push_cast; rfl⟩
 ·have h:i=l.length:=by simp at h; omega
  subst h;rw[List.drop_length,idxF] at hr';rw[hr']
theorem c119(u:Th)(id:Int):PC 115 [.agg (thC u),.rptr [iv id] 0] (.bool (decide (u.id=id))):=by
 refine Qb hP g115.ok rfl rfl ?_;rw[H2.e]; unfold g115; dsimp only;exact Qa rfl rfl (Za rfl (Za (ld rfl rfl) (Za rfl (Za (Yf ..) rfl))))
theorem Qb4(id:Int):∀(l:List Th) (n:Int),idxF (λu:Th=>decide (u.id=id)) l n=match fnd l id with
  |some k=>n+k
  |none=>-1
 |[],n=>rfl
 |u::l,n=>by
  have ih:=Qb4 id l (n+1);simp only[idxF,fnd,List.findIdx?_cons] at ih ⊢;by_cases h:u.id=id
  ·simp[h]
  ·simp only[decide_eq_false h,Bool.false_eq_true,if_false,ih];cases List.findIdx? (λu=>decide (u.id=id)) l with
   |none=>rfl
   |some k=>show n+1+(k:Int)=n+((k+1:Nat):Int); omega
theorem c71(s:St)(hs:StLe 1000000000 s)(id:Int):PC 98 [stV s,iv id] (unitV s id):=by
 have h0:=c118 s.s0.units hs.s0.units 115 [] [.rptr [iv id] 0] g115.ok.plain (λu=>decide (u.id=id)) (λx _=>c119 x id) (λx=>rfl);have h1:=c118 s.s1.units hs.s1.units 115 [] [.rptr [iv id] 0] g115.ok.plain (λu=>decide (u.id=id)) (λx _=>c119 x id) (λx=>rfl);have w1:IntKind.i64.wrap (0+1)=1:=by decide
 have w2:IntKind.i64.wrap (1+1)=2:=by decide
 rw[Qb4] at h0 h1;refine Qb hP g98.ok rfl rfl ?_;rw[H2.e]; unfold g98; dsimp only;refine Qa rfl rfl (Qa rfl rfl ?_);refine QP 3 (Qk ?_);refine Za rfl (Yd (Za rfl (Za rfl (Za rfl (Za rfl (Za rfl ?_))))));refine ZJ h0 rfl g114.ok.plain rfl rfl ?_;simp only[unitV,unitR];cases q0:fnd s.s0.units id with
 |some k=>
  simp only[q0];refine Za (Yaa ..) ?_;rw[decide_eq_true (by omega)];exact Yd (by simp)
 |none=>
  simp only[q0];refine Za rfl (Yc (Za rfl ?_));rw[w1];refine Qk ?_;refine Za rfl (Yd (Za rfl (Za rfl (Za rfl (Za rfl (Za rfl ?_))))));refine ZJ h1 rfl g114.ok.plain rfl rfl ?_;cases q1:fnd s.s1.units id with
  |some k=>
   simp only[q1];refine Za (Yaa ..) ?_;rw[decide_eq_true (by omega)];exact Yd (by simp)
  |none=>
   simp only[q1];refine Za rfl (Yc (Za rfl ?_));rw[w2];refine Qk ?_;exact Za rfl (Yc (by simp))
def YaT(b:Bk)(c:Int):Int:=((b.cards[c.toNat]?).getD default).shield
def hurt(b:Bk)(u:Th)(n:Int):Int:=max (IntKind.i64.wrap (n-YaT b u.card)) 0
theorem cdLd5(x:Cd):partA false 5 1 (cdC x)=some (iv x.shield):=rfl
theorem c66n(m:List AVal)(life n:Int):PC 73 [.rptr m 0,.nilp,iv life,iv n] (.tup [iv (IntKind.i64.wrap (life-n)),iv n]):=by
 refine Qb hP g73.ok rfl rfl ?_;rw[H4.e]; unfold g73; dsimp only;exact Za rfl (Yc (Za (ZaD ..) rfl))
theorem c66u(b:Bk)(m:List AVal)(u:Th)(life n:Int)(h0:0≤u.card)(h1:u.card.toNat<b.cards.length):PC 73 [.rptr (.rptr (bkC b) 0::m) 0,.rptr (thC u) 0,iv life,iv n] (.tup [iv (IntKind.i64.wrap (u.harm+hurt b u n)),iv (hurt b u n)]):=by
 refine Qb hP g73.ok rfl rfl ?_;rw[H4.e]; unfold g73; dsimp only;refine Za rfl (Yd (Za rfl (Za rfl (Za (ldr rfl) (Za rfl (Za rfl (Za (ldr rfl) (Za rfl (Za rfl (Za (ldr rfl) ?_))))))))));have hx:=Xbz [] cdC false false 12 b.cards .i64 u.card h0 h1;refine Za hx (Za rfl (Za (ldr (cdLd5 _)) (Za (ZaD ..) (Za (Qad ..) ?_))));refine Za rfl (Za rfl (Za (ldr rfl) (Za (Zl ..) ?_)));have:YaT b u.card=(b.cards[u.card.toNat]).shield:=by simp[YaT,List.getElem?_eq_getElem h1]
 rw[hurt,this]
end Go.Ah.Tz
end
section
namespace Go.Ah.Tz
open Go.Proofs.Tryz (prog)
abbrev mv6(s:St):List AVal:=[.bptr 0 0,iv s.turn,iv s.mover,iv8 s.phase,.bool s.struck,iv8 s.result,.sl 6 0 s.attack.length false,iv s.next,iv s.s0.life,iv s.s0.mana,iv s.s0.most,.sl 7 0 s.s0.deck.length false,.sl 8 0 s.s0.hand.length false,.sl 9 0 s.s0.grave.length false,.sl 10 0 s.s0.units.length false,.sl 11 0 s.s0.told.length false,iv s.s1.life,iv s.s1.mana,iv s.s1.most,.sl 12 0 s.s1.deck.length false,.sl 13 0 s.s1.hand.length false,.sl 14 0 s.s1.grave.length false,.sl 15 0 s.s1.units.length false,.sl 16 0 s.s1.told.length false]
abbrev st6(s:St):List AVal:=[iv s.turn,iv s.mover,iv8 s.phase,.bool s.struck,iv8 s.result,.sl 6 0 s.attack.length false,iv s.next,iv s.s0.life,iv s.s0.mana,iv s.s0.most,.sl 7 0 s.s0.deck.length false,.sl 8 0 s.s0.hand.length false,.sl 9 0 s.s0.grave.length false,.sl 10 0 s.s0.units.length false,.sl 11 0 s.s0.told.length false,iv s.s1.life,iv s.s1.mana,iv s.s1.most,.sl 12 0 s.s1.deck.length false,.sl 13 0 s.s1.hand.length false,.sl 14 0 s.s1.grave.length false,.sl 15 0 s.s1.units.length false,.sl 16 0 s.s1.told.length false]
abbrev sg6(b:Bk)(s:St):List ABlk:=[.box (bkC b),.box (stC s),.box zStC,.box zEvC,.box zStC,.box zEvC,.rows 1 (s.attack.map cel),.rows 1 (s.s0.deck.map cel),.rows 1 (s.s0.hand.map cel),.rows 1 (s.s0.grave.map cel),.rows 4 (s.s0.units.map thC),.rows 1 (s.s0.told.map cel),.rows 1 (s.s1.deck.map cel),.rows 1 (s.s1.hand.map cel),.rows 1 (s.s1.grave.map cel),.rows 4 (s.s1.units.map thC),.rows 1 (s.s1.told.map cel)]
abbrev dd18:List ABlk:=[.dead,.dead,.dead,.dead,.dead,.dead,.dead,.dead,.dead,.dead,.dead,.dead,.dead,.dead,.dead,.dead,.dead,.dead]
def cap4(n:Int):Int:=min (max n 0) 4000000
def chgU(s:St)(kd k:Int)(i:Nat)(id:Int)(u:Th)(v:Int×Int):St×Ev×Int:=
 if wIn v.1 then (s.put k { s.side k with units:=(s.side k).units.set i { u with harm:=v.1 } },⟨kd,k,0,id,0,v.2,[]⟩,0) else (zSt,zEv,171)
def chgP(s:St)(kd k:Int)(v:Int×Int):St×Ev×Int:=
 if wIn v.1 then (s.put k { s.side k with life:=v.1 },⟨kd,k,0,0,0,v.2,[]⟩,0) else (zSt,zEv,171)
def chgF(kd:Int)(fP:Int→Int×Int)(fU:Th→Int×Int)(s:St)(id k:Int):St×Ev×Int:=
 if id=0 then chgP s kd k (fP (s.side k).life) else if id<0 then (zSt,zEv,4) else match fnd s.s0.units id with
  |some i=>chgU s kd 0 i id ((s.s0.units[i]?).getD default) (fU ((s.s0.units[i]?).getD default))
  |none=>match fnd s.s1.units id with
   |some i=>chgU s kd 1 i id ((s.s1.units[i]?).getD default) (fU ((s.s1.units[i]?).getD default))
   |none=>(zSt,zEv,4)
def harmF(b:Bk)(s:St)(id k n:Int):St×Ev×Int:=
 chgF 5 (λl=>(IntKind.i64.wrap (l-cap4 n),cap4 n)) (λu=>(IntKind.i64.wrap (u.harm+hurt b u (cap4 n)),hurt b u (cap4 n))) s id k
def mendF(s:St)(id k n:Int):St×Ev×Int:=
 chgF 6 (λl=>(IntKind.i64.wrap (l+cap4 n),cap4 n)) (λu=>(IntKind.i64.wrap (u.harm-min (cap4 n) u.harm),min (cap4 n) u.harm)) s id k
def gT(kd:Int)(F:FuncId):GFun:=λA xs σ ret=>match xs with
|[x0,x1,x2,x3,x4]=>
 A.wr (Xac [x0] σ) σ λt5_0 σ=>
 A.wr (Xac [x1] σ) σ λt6_1 σ=>
 A.wr (Zx zStC [] σ) σ λt10_2 σ=>
 A.wr (Zx zEvC [] σ) σ λt11_3 σ=>
 A.call (.call 71) [t5_0,t6_1,(.int .i8 kd),x2,x3,x4,(.func (.func F) [] [])] σ λt16_4 σ=>
 A.rd (Zn 0 [t16_4] σ) λt17_5=>
 A.rd (Zn 1 [t16_4] σ) λt18_6=>
 A.rd (Zn 2 [t16_4] σ) λt19_7=>
 A.wr (Yo 23 [t10_2,t17_5] σ) σ λ_ σ=>
 A.wr (Yo 7 [t11_3,t18_6] σ) σ λ_ σ=>
 A.opt (cellV true 23 t10_2 σ) λr8=>
 A.opt (cellV true 7 t11_3 σ) λr9=>
 ret (.tup [r8,r9,t19_7]) σ
|_=>A.stop
theorem Yat{b:Bk}{next:Int}:∀ {l:List Th} {ids:List Int},YD b next ids l=true→∀u∈l,QC b next u=true
 |v::l,ids,h,u,hu=>by
  simp only[YD,Bool.and_eq_true] at h;rcases List.mem_cons.1 hu with rfl|hu
  ·exact h.1
  ·exact Yat h.2.2 u hu
theorem Ya7{b:Bk}{next:Int}{u:Th}(h:QC b next u=true):0≤u.card∧u.card.toNat<b.cards.length:=by
 simp only[QC,Bool.and_eq_true,decide_eq_true_eq] at h;omega
theorem YbF{e:Int}{b:Bk}{s:St}{bare:Bool}(h:mayR e b s bare=true):∀u∈s.s0.units,0≤u.card∧u.card.toNat<b.cards.length:=by
 have:=Zaz h;simp only[YN,Bool.and_eq_true] at this;exact λu hu=>Ya7 (Yat this.2.1 u hu)
theorem XbF{e:Int}{b:Bk}{s:St}{bare:Bool}(h:mayR e b s bare=true):∀u∈s.s1.units,0≤u.card∧u.card.toNat<b.cards.length:=by
 have:=Zaz h;simp only[YN,Bool.and_eq_true] at this;exact λu hu=>Ya7 (Yat this.2.2.2 u hu)
theorem Zbf{l:List Th}{id:Int}{k:Nat}(h:fnd l id=some k):∃u,l[k]?=some u∧u.id=id:=by
 obtain⟨hk,h2,_⟩:=List.findIdx?_eq_some_iff_getElem.1 h;exact⟨l[k],by simp[hk],by simpa using h2⟩
theorem Yb1{σ:List ABlk}{b k:Nat}{l:List Th}{u:Th}(hU:hget σ b=.rows 4 (l.map thC))(hk:l[k]?=some u)(now:Int):Yo 1 [.ptr b k 2,iv now] σ=.ok .junk [] [(b,.rows 4 ((l.set k { u with harm:=now }).map thC))]:=by
 have h1:nth (l.map thC) k=some (thC u):=by rw[Zae,List.getElem?_map,hk]; rfl
 have hl:k<(l.map thC).length:=by simpa using (YLG hk).1
 have h2:YI k [iv u.id,iv u.card,iv now,.bool u.tired] (l.map thC)=some ((l.set k { u with harm:=now }).map thC):=by
  rw[Qa5 hl,List.map_set]; rfl
 show (match hget σ b with
   |.rows sz rs=>match nth rs k with
    |some row=>match cellsOf (iv now) with
     | some cs=>bif Nat.beq cs.length 1 then (match splice 2 cs row with
      |some row'=>match YI k row' rs with
       |some rs'=>SRes.ok .junk [] [(b,.rows sz rs')]
       |none=>.stop
      | none=>.stop) else .stop
     |none=>.stop
    |none=>.stop
   | _=>.stop)=_
 rw[hU];simp only[h1];show (match YI k [iv u.id,iv u.card,iv now,.bool u.tired] (l.map thC) with
  |some rs'=>SRes.ok .junk [] [(b,.rows 4 rs')]
  | none=>.stop)=_
 rw[h2]
attribute [local irreducible] Ans.rd Ans.pu Ans.wr Ans.dr Ans.gr Ans.gw Ans.gl Ans.gd Ans.opt joinK W
set_option maxHeartbeats 4000000
theorem cTp_0{b:Bk}(hf:bkFit b=true)(hsm:Yj b.cards){s:St}(hs:StLe 2000000 s)(hm:mayR (bkR b).1 b s true=true){f F F2:FuncId}{kd:Int}(hg:GQ f 5 (gT kd F)){gF:GFun}(hgF:GQ F 1 gF)(hF:∀x τ (K:AVal→List ABlk→Prop),K (.func (.func F2) [x] []) τ→gF VV [x] τ K)(h2p:Zh prog F2=true)(n:Int)(v:Int×Int)(hc:PC F2 [.rptr (.rptr (bkC b) 0::stC s) 0,.nilp,iv s.s0.life,iv (cap4 n)] (.tup [iv v.1,iv v.2])):PC f [bkV b,stV s,iv 0,iv 0,iv n] (resV (chgP s kd 0 v)):=by
 have hr:chgP s kd 0 v=(if wIn v.1 then (s.put 0 { s.s0 with life:=v.1 },⟨kd,0,0,0,0,v.2,[]⟩,0) else (zSt,zEv,171)):=rfl;refine Yt hP hg rfl ?_;unfold gT;refine Qa (v:=.bptr 0 0) (rd:=[]) (up:=[(0,.box (bkC b))]) rfl rfl ?_;refine Qa (v:=.bptr 1 0) (rd:=[]) (up:=[(1,.box (stC s))]) rfl rfl ?_;refine Qa (v:=.bptr 2 0) (rd:=[]) (up:=[(2,.box zStC)]) rfl rfl ?_;refine Qa (v:=.bptr 3 0) (rd:=[]) (up:=[(3,.box zEvC)]) rfl rfl ?_;refine Xg hP rfl g71.ok rfl ?_;rw[H7.e]; unfold g71; dsimp only;refine Qa (v:=.bptr 4 0) (rd:=[]) (up:=[(4,.box zStC)]) rfl rfl ?_;refine Qa (v:=.bptr 5 0) (rd:=[]) (up:=[(5,.box zEvC)]) rfl rfl ?_;refine c56n b hf hsm s (hs.mono (by decide)) (n0:=6) (n:=17) rfl rfl rfl rfl (λh=>by rw[hm] at h; cases h) (λ_=>?_);refine Za rfl (Yc (Za (Qad ..) (Za (XU ..) (Za (XS ..) ?_))));refine Xj λk11 hk11=>?_;refine Yc ?_;rw[hk11];refine Za rfl ?_;refine Y2 (c:=false) (d:=false) (λ_=>rfl) (λ_=>rfl) ?_;refine Yc (Za rfl (Za rfl (Za rfl (Za rfl ?_))));refine QK hP (ys:=[.bptr 17 0]) (zs:=[.bptr 17 0]) rfl hgF rfl [] [17] (v:=.func (.func F2) [.bptr 17 0] []) (m:=0) (σ:=((sg6 b s).append [.box (mv6 s)])) (τ:=dd18) (τ':=dd18) (by decide) (show ∀b∈[17],b<18 by decide) rfl rfl ?_ rfl (u:=.func (.func F2) [.bptr 17 0] []) (up:=[]) (σ':=((sg6 b s).append [.box (mv6 s)])) rfl rfl rfl ?_
 ·exact hF _ _ _ ⟨rfl,rfl⟩
 refine Xb rfl (Xb rfl (Zd (ld (row:=(mv6 s)) rfl rfl) (Yg _) ?_));refine QX (rd:=[0,6,7,8,9,10,11,12,13,14,15,16,17]) (hc) rfl h2p (.cons (Bor.box (row:=(mv6 s)) rfl (by decide) (.cons (Bor.box (row:=bkC b) rfl (by decide) (BorL.ro rfl)) ?_)) <| .cons (Bor.ro rfl) <| .cons (Bor.ro rfl) <| .cons (Bor.ro rfl) .nil) rfl ?_
 ·exact SB.mk (s:=s) (RI.own rfl (by decide) rfl) (RI.own rfl (by decide) rfl) (RI.own rfl (by decide) rfl) (RI.own rfl (by decide) rfl) (RT.own rfl (by decide) rfl) (RI.own rfl (by decide) rfl) (RI.own rfl (by decide) rfl) (RI.own rfl (by decide) rfl) (RI.own rfl (by decide) rfl) (RT.own rfl (by decide) rfl) (RI.own rfl (by decide) rfl)
 refine Xb rfl (Xb rfl (Yn (by kernel_rfl) ?_));refine Zc (c57 _) rfl g64.ok.plain rfl (Za rfl (Zb (λh2=>?_) (λh2=>?_)))
 ·have h3:wIn v.1=false:=by simpa using h2
  replace hr:=hr.trans (if_neg (by rw[h3]; decide))
  refine Za rfl (Za rfl (Qa rfl rfl (Qa rfl rfl (Yi rfl (Yi rfl ?_)))));refine Za rfl (Za rfl (Za rfl (Qa rfl rfl (Qa rfl rfl (Yi rfl (Yi rfl ?_))))));rw[hr];exact⟨[],resZ 171⟩
 have h3:wIn v.1=true:=by simpa using h2
 replace hr:=hr.trans (if_pos h3)
 refine Za rfl ?_;refine Xj λk63 hk63=>?_;refine Yc (Za rfl (Za rfl (Qa (v:=.junk) (rd:=[]) (up:=[(17,.box ((mv6 s).set 8 (iv v.1)))]) rfl rfl ?_)));rw[hk63];refine Za rfl (Za rfl (Za (ld (row:=((mv6 s).set 8 (iv v.1))) rfl rfl) (Za rfl ?_)));refine Qa (v:=.junk) (rd:=[]) (up:=[(4,.box ((st6 s).set 7 (iv v.1)))]) rfl rfl ?_;refine Qa (v:=.junk) (rd:=[]) (up:=[(5,.box [iv8 kd,iv 0,iv 0,iv 0,iv 0,iv v.2,.nils])]) rfl rfl (Yi rfl (Yi rfl ?_));refine Za rfl (Za rfl (Za rfl ?_));refine Qa (v:=.junk) (rd:=[]) (up:=[(2,.box ((st6 s).set 7 (iv v.1)))]) rfl rfl ?_;refine Qa (v:=.junk) (rd:=[]) (up:=[(3,.box [iv8 kd,iv 0,iv 0,iv 0,iv 0,iv v.2,.nils])]) rfl rfl (Yi rfl (Yi rfl ?_));rw[hr];refine⟨List.range 18,?_⟩;refine resB (cs:=((st6 s).set 7 (iv v.1))) (r:=({ s with s0:={ s.s0 with life:=v.1 } },⟨kd,0,0,0,0,v.2,[]⟩,0)) ?_ (evB (e:=⟨kd,0,0,0,0,v.2,[]⟩) RI.nils);refine SB.mk (rd:=List.range 18) (s:={ s with s0:={ s.s0 with life:=v.1 } }) ?_ ?_ ?_ ?_ ?_ ?_ ?_ ?_ ?_ ?_ ?_<;>first|exact RI.own rfl (by decide) rfl|exact RT.own rfl (by decide) rfl
theorem cTp_1{b:Bk}(hf:bkFit b=true)(hsm:Yj b.cards){s:St}(hs:StLe 2000000 s)(hm:mayR (bkR b).1 b s true=true){f F F2:FuncId}{kd:Int}(hg:GQ f 5 (gT kd F)){gF:GFun}(hgF:GQ F 1 gF)(hF:∀x τ (K:AVal→List ABlk→Prop),K (.func (.func F2) [x] []) τ→gF VV [x] τ K)(h2p:Zh prog F2=true)(n:Int)(v:Int×Int)(hc:PC F2 [.rptr (.rptr (bkC b) 0::stC s) 0,.nilp,iv s.s1.life,iv (cap4 n)] (.tup [iv v.1,iv v.2])):PC f [bkV b,stV s,iv 0,iv 1,iv n] (resV (chgP s kd 1 v)):=by
 have hr:chgP s kd 1 v=(if wIn v.1 then (s.put 1 { s.s1 with life:=v.1 },⟨kd,1,0,0,0,v.2,[]⟩,0) else (zSt,zEv,171)):=rfl;refine Yt hP hg rfl ?_;unfold gT;refine Qa (v:=.bptr 0 0) (rd:=[]) (up:=[(0,.box (bkC b))]) rfl rfl ?_;refine Qa (v:=.bptr 1 0) (rd:=[]) (up:=[(1,.box (stC s))]) rfl rfl ?_;refine Qa (v:=.bptr 2 0) (rd:=[]) (up:=[(2,.box zStC)]) rfl rfl ?_;refine Qa (v:=.bptr 3 0) (rd:=[]) (up:=[(3,.box zEvC)]) rfl rfl ?_;refine Xg hP rfl g71.ok rfl ?_;rw[H7.e]; unfold g71; dsimp only;refine Qa (v:=.bptr 4 0) (rd:=[]) (up:=[(4,.box zStC)]) rfl rfl ?_;refine Qa (v:=.bptr 5 0) (rd:=[]) (up:=[(5,.box zEvC)]) rfl rfl ?_;refine c56n b hf hsm s (hs.mono (by decide)) (n0:=6) (n:=17) rfl rfl rfl rfl (λh=>by rw[hm] at h; cases h) (λ_=>?_);refine Za rfl (Yc (Za (Qad ..) (Za (XU ..) (Za (XS ..) ?_))));refine Xj λk11 hk11=>?_;refine Yc ?_;rw[hk11];refine Za rfl ?_;refine Y2 (c:=false) (d:=false) (λ_=>rfl) (λ_=>rfl) ?_;refine Yc (Za rfl (Za rfl (Za rfl (Za rfl ?_))));refine QK hP (ys:=[.bptr 17 0]) (zs:=[.bptr 17 0]) rfl hgF rfl [] [17] (v:=.func (.func F2) [.bptr 17 0] []) (m:=0) (σ:=((sg6 b s).append [.box (mv6 s)])) (τ:=dd18) (τ':=dd18) (by decide) (show ∀b∈[17],b<18 by decide) rfl rfl ?_ rfl (u:=.func (.func F2) [.bptr 17 0] []) (up:=[]) (σ':=((sg6 b s).append [.box (mv6 s)])) rfl rfl rfl ?_
 ·exact hF _ _ _ ⟨rfl,rfl⟩
 refine Xb rfl (Xb rfl (Zd (ld (row:=(mv6 s)) rfl rfl) (Yg _) ?_));refine QX (rd:=[0,6,7,8,9,10,11,12,13,14,15,16,17]) (hc) rfl h2p (.cons (Bor.box (row:=(mv6 s)) rfl (by decide) (.cons (Bor.box (row:=bkC b) rfl (by decide) (BorL.ro rfl)) ?_)) <| .cons (Bor.ro rfl) <| .cons (Bor.ro rfl) <| .cons (Bor.ro rfl) .nil) rfl ?_
 ·exact SB.mk (s:=s) (RI.own rfl (by decide) rfl) (RI.own rfl (by decide) rfl) (RI.own rfl (by decide) rfl) (RI.own rfl (by decide) rfl) (RT.own rfl (by decide) rfl) (RI.own rfl (by decide) rfl) (RI.own rfl (by decide) rfl) (RI.own rfl (by decide) rfl) (RI.own rfl (by decide) rfl) (RT.own rfl (by decide) rfl) (RI.own rfl (by decide) rfl)
 refine Xb rfl (Xb rfl (Yn (by kernel_rfl) ?_));refine Zc (c57 _) rfl g64.ok.plain rfl (Za rfl (Zb (λh2=>?_) (λh2=>?_)))
 ·have h3:wIn v.1=false:=by simpa using h2
  replace hr:=hr.trans (if_neg (by rw[h3]; decide))
  refine Za rfl (Za rfl (Qa rfl rfl (Qa rfl rfl (Yi rfl (Yi rfl ?_)))));refine Za rfl (Za rfl (Za rfl (Qa rfl rfl (Qa rfl rfl (Yi rfl (Yi rfl ?_))))));rw[hr];exact⟨[],resZ 171⟩
 have h3:wIn v.1=true:=by simpa using h2
 replace hr:=hr.trans (if_pos h3)
 refine Za rfl ?_;refine Xj λk63 hk63=>?_;refine Yc (Za rfl (Za rfl (Qa (v:=.junk) (rd:=[]) (up:=[(17,.box ((mv6 s).set 16 (iv v.1)))]) rfl rfl ?_)));rw[hk63];refine Za rfl (Za rfl (Za (ld (row:=((mv6 s).set 16 (iv v.1))) rfl rfl) (Za rfl ?_)));refine Qa (v:=.junk) (rd:=[]) (up:=[(4,.box ((st6 s).set 15 (iv v.1)))]) rfl rfl ?_;refine Qa (v:=.junk) (rd:=[]) (up:=[(5,.box [iv8 kd,iv 1,iv 0,iv 0,iv 0,iv v.2,.nils])]) rfl rfl (Yi rfl (Yi rfl ?_));refine Za rfl (Za rfl (Za rfl ?_));refine Qa (v:=.junk) (rd:=[]) (up:=[(2,.box ((st6 s).set 15 (iv v.1)))]) rfl rfl ?_;refine Qa (v:=.junk) (rd:=[]) (up:=[(3,.box [iv8 kd,iv 1,iv 0,iv 0,iv 0,iv v.2,.nils])]) rfl rfl (Yi rfl (Yi rfl ?_));rw[hr];refine⟨List.range 18,?_⟩;refine resB (cs:=((st6 s).set 15 (iv v.1))) (r:=({ s with s1:={ s.s1 with life:=v.1 } },⟨kd,1,0,0,0,v.2,[]⟩,0)) ?_ (evB (e:=⟨kd,1,0,0,0,v.2,[]⟩) RI.nils);refine SB.mk (rd:=List.range 18) (s:={ s with s1:={ s.s1 with life:=v.1 } }) ?_ ?_ ?_ ?_ ?_ ?_ ?_ ?_ ?_ ?_ ?_<;>first|exact RI.own rfl (by decide) rfl|exact RT.own rfl (by decide) rfl
theorem cTu_0{b:Bk}(hf:bkFit b=true)(hsm:Yj b.cards){s:St}(hs:StLe 2000000 s)(hm:mayR (bkR b).1 b s true=true){f F F2:FuncId}{kd:Int}(hg:GQ f 5 (gT kd F)){gF:GFun}(hgF:GQ F 1 gF)(hF:∀x τ (K:AVal→List ABlk→Prop),K (.func (.func F2) [x] []) τ→gF VV [x] τ K)(h2p:Zh prog F2=true)(id sd n:Int)(hid:id≠0)(hid2:¬id<0)(k:Nat)(hfn:unitV s id=.tup [iv 0,iv k,.bool true])(u:Th)(hk:s.s0.units[k]?=some u)(v:Int×Int)(hc:PC F2 [.rptr (.rptr (bkC b) 0::stC s) 0,.rptr (thC u) 0,iv s.s0.life,iv (cap4 n)] (.tup [iv v.1,iv v.2])):PC f [bkV b,stV s,iv id,iv sd,iv n] (resV (chgU s kd 0 k id u v)):=by
 have h71:=c71 s (hs.mono (by decide)) id;rw[hfn] at h71;have hkl:k<s.s0.units.length:=(YLG hk).1;have hr:chgU s kd 0 k id u v=(if wIn v.1 then (s.put 0 { s.s0 with units:=s.s0.units.set k { u with harm:=v.1 } },⟨kd,0,0,id,0,v.2,[]⟩,0) else (zSt,zEv,171)):=rfl;refine Yt hP hg rfl ?_;unfold gT;refine Qa (v:=.bptr 0 0) (rd:=[]) (up:=[(0,.box (bkC b))]) rfl rfl ?_;refine Qa (v:=.bptr 1 0) (rd:=[]) (up:=[(1,.box (stC s))]) rfl rfl ?_;refine Qa (v:=.bptr 2 0) (rd:=[]) (up:=[(2,.box zStC)]) rfl rfl ?_;refine Qa (v:=.bptr 3 0) (rd:=[]) (up:=[(3,.box zEvC)]) rfl rfl ?_;refine Xg hP rfl g71.ok rfl ?_;rw[H7.e]; unfold g71; dsimp only;refine Qa (v:=.bptr 4 0) (rd:=[]) (up:=[(4,.box zStC)]) rfl rfl ?_;refine Qa (v:=.bptr 5 0) (rd:=[]) (up:=[(5,.box zEvC)]) rfl rfl ?_;refine c56n b hf hsm s (hs.mono (by decide)) (n0:=6) (n:=17) rfl rfl rfl rfl (λh=>by rw[hm] at h; cases h) (λ_=>?_);refine Za rfl (Yc (Za (Qad ..) (Za (XU ..) (Za (XS ..) ?_))));refine Xj λk11 hk11=>?_;rw[decide_eq_true hid];refine Yd (Za rfl (Za (ld (row:=stC s) rfl rfl) ?_));refine Zc h71 rfl g98.ok.plain rfl (Za rfl (Za rfl (Za rfl (Za rfl ?_))));refine Y2 (c:=false) (λ_=>rfl) (λ_=>QL ..) ?_;rw[decide_eq_false hid2];refine Yc (Za rfl (Za rfl (Za rfl (Za rfl (Za rfl (Za (ld (row:=(mv6 s)) rfl rfl) ?_))))));refine Za (v:=.ptr 10 k 0) (rd:=[10]) ?_ ?_
 ·have:=XcB (((sg6 b s).append [.box (mv6 s)])) 10 0 s.s0.units.length false 4 (s.s0.units.map thC) .i64 k hkl rfl;rw[Nat.zero_add] at this; exact this
 rw[hk11];refine Za rfl ?_;refine Y2 (c:=false) (d:=false) (λ_=>rfl) (λ_=>rfl) ?_;refine Yc (Za rfl (Za rfl (Za rfl (Za rfl ?_))));refine QK hP (ys:=[.bptr 17 0]) (zs:=[.bptr 17 0]) rfl hgF rfl [] [17] (v:=.func (.func F2) [.bptr 17 0] []) (m:=0) (σ:=((sg6 b s).append [.box (mv6 s)])) (τ:=dd18) (τ':=dd18) (by decide) (show ∀b∈[17],b<18 by decide) rfl rfl ?_ rfl (u:=.func (.func F2) [.bptr 17 0] []) (up:=[]) (σ':=((sg6 b s).append [.box (mv6 s)])) rfl rfl rfl ?_
 ·exact hF _ _ _ ⟨rfl,rfl⟩
 refine Xb rfl (Xb rfl (Zd (ld (row:=(mv6 s)) rfl rfl) (Yg _) ?_));refine QX (rd:=[0,6,7,8,9,10,11,12,13,14,15,16,17]) (hc) rfl h2p (.cons (Bor.box (row:=(mv6 s)) rfl (by decide) (.cons (Bor.box (row:=bkC b) rfl (by decide) (BorL.ro rfl)) ?_)) <| .cons (Bor.ptr (rs:=s.s0.units.map thC) (row:=thC u) rfl (by decide) (by rw[List.getElem?_map,hk]; rfl) (BorL.ro rfl)) <| .cons (Bor.ro rfl) <| .cons (Bor.ro rfl) .nil) rfl ?_
 ·exact SB.mk (s:=s) (RI.own rfl (by decide) rfl) (RI.own rfl (by decide) rfl) (RI.own rfl (by decide) rfl) (RI.own rfl (by decide) rfl) (RT.own rfl (by decide) rfl) (RI.own rfl (by decide) rfl) (RI.own rfl (by decide) rfl) (RI.own rfl (by decide) rfl) (RI.own rfl (by decide) rfl) (RT.own rfl (by decide) rfl) (RI.own rfl (by decide) rfl)
 refine Xb rfl (Xb rfl (Yn (by kernel_rfl) ?_));refine Zc (c57 _) rfl g64.ok.plain rfl (Za rfl (Zb (λh2=>?_) (λh2=>?_)))
 ·have h3:wIn v.1=false:=by simpa using h2
  replace hr:=hr.trans (if_neg (by rw[h3]; decide))
  refine Za rfl (Za rfl (Qa rfl rfl (Qa rfl rfl (Yi rfl (Yi rfl ?_)))));refine Za rfl (Za rfl (Za rfl (Qa rfl rfl (Qa rfl rfl (Yi rfl (Yi rfl ?_))))));rw[hr];exact⟨[],resZ 171⟩
 have h3:wIn v.1=true:=by simpa using h2
 replace hr:=hr.trans (if_pos h3)
 refine Za rfl ?_;refine Xj λk63 hk63=>?_;refine Yd (Za rfl (Za rfl (Qa (v:=.junk) (rd:=[]) (up:=[(10,.rows 4 ((s.s0.units.set k { u with harm:=v.1 }).map thC))]) (Yb1 rfl hk _) rfl ?_)));rw[hk63];refine Za rfl (Za rfl (Za (ld (row:=(mv6 s)) rfl rfl) (Za rfl ?_)));refine Qa (v:=.junk) (rd:=[]) (up:=[(4,.box (st6 s))]) rfl rfl ?_;refine Qa (v:=.junk) (rd:=[]) (up:=[(5,.box [iv8 kd,iv 0,iv 0,iv id,iv 0,iv v.2,.nils])]) rfl rfl (Yi rfl (Yi rfl ?_));refine Za rfl (Za rfl (Za rfl ?_));refine Qa (v:=.junk) (rd:=[]) (up:=[(2,.box (st6 s))]) rfl rfl ?_;refine Qa (v:=.junk) (rd:=[]) (up:=[(3,.box [iv8 kd,iv 0,iv 0,iv id,iv 0,iv v.2,.nils])]) rfl rfl (Yi rfl (Yi rfl ?_));rw[hr];refine⟨List.range 18,?_⟩;refine resB (cs:=(st6 s)) (r:=({ s with s0:={ s.s0 with units:=s.s0.units.set k { u with harm:=v.1 } } },⟨kd,0,0,id,0,v.2,[]⟩,0)) ?_ (evB (e:=⟨kd,0,0,id,0,v.2,[]⟩) RI.nils);refine SB.mk (rd:=List.range 18) (s:={ s with s0:={ s.s0 with units:=s.s0.units.set k { u with harm:=v.1 } } }) ?_ ?_ ?_ ?_ ?_ ?_ ?_ ?_ ?_ ?_ ?_<;>first|exact RI.own rfl (by decide) rfl|exact RT.own rfl (by decide) rfl|exact RT.own (l:=s.s0.units.set k { u with harm:=v.1 }) rfl (by decide) (by simp)
theorem cTu_1{b:Bk}(hf:bkFit b=true)(hsm:Yj b.cards){s:St}(hs:StLe 2000000 s)(hm:mayR (bkR b).1 b s true=true){f F F2:FuncId}{kd:Int}(hg:GQ f 5 (gT kd F)){gF:GFun}(hgF:GQ F 1 gF)(hF:∀x τ (K:AVal→List ABlk→Prop),K (.func (.func F2) [x] []) τ→gF VV [x] τ K)(h2p:Zh prog F2=true)(id sd n:Int)(hid:id≠0)(hid2:¬id<0)(k:Nat)(hfn:unitV s id=.tup [iv 1,iv k,.bool true])(u:Th)(hk:s.s1.units[k]?=some u)(v:Int×Int)(hc:PC F2 [.rptr (.rptr (bkC b) 0::stC s) 0,.rptr (thC u) 0,iv s.s1.life,iv (cap4 n)] (.tup [iv v.1,iv v.2])):PC f [bkV b,stV s,iv id,iv sd,iv n] (resV (chgU s kd 1 k id u v)):=by
 have h71:=c71 s (hs.mono (by decide)) id;rw[hfn] at h71;have hkl:k<s.s1.units.length:=(YLG hk).1;have hr:chgU s kd 1 k id u v=(if wIn v.1 then (s.put 1 { s.s1 with units:=s.s1.units.set k { u with harm:=v.1 } },⟨kd,1,0,id,0,v.2,[]⟩,0) else (zSt,zEv,171)):=rfl;refine Yt hP hg rfl ?_;unfold gT;refine Qa (v:=.bptr 0 0) (rd:=[]) (up:=[(0,.box (bkC b))]) rfl rfl ?_;refine Qa (v:=.bptr 1 0) (rd:=[]) (up:=[(1,.box (stC s))]) rfl rfl ?_;refine Qa (v:=.bptr 2 0) (rd:=[]) (up:=[(2,.box zStC)]) rfl rfl ?_;refine Qa (v:=.bptr 3 0) (rd:=[]) (up:=[(3,.box zEvC)]) rfl rfl ?_;refine Xg hP rfl g71.ok rfl ?_;rw[H7.e]; unfold g71; dsimp only;refine Qa (v:=.bptr 4 0) (rd:=[]) (up:=[(4,.box zStC)]) rfl rfl ?_;refine Qa (v:=.bptr 5 0) (rd:=[]) (up:=[(5,.box zEvC)]) rfl rfl ?_;refine c56n b hf hsm s (hs.mono (by decide)) (n0:=6) (n:=17) rfl rfl rfl rfl (λh=>by rw[hm] at h; cases h) (λ_=>?_);refine Za rfl (Yc (Za (Qad ..) (Za (XU ..) (Za (XS ..) ?_))));refine Xj λk11 hk11=>?_;rw[decide_eq_true hid];refine Yd (Za rfl (Za (ld (row:=stC s) rfl rfl) ?_));refine Zc h71 rfl g98.ok.plain rfl (Za rfl (Za rfl (Za rfl (Za rfl ?_))));refine Y2 (c:=false) (λ_=>rfl) (λ_=>QL ..) ?_;rw[decide_eq_false hid2];refine Yc (Za rfl (Za rfl (Za rfl (Za rfl (Za rfl (Za (ld (row:=(mv6 s)) rfl rfl) ?_))))));refine Za (v:=.ptr 15 k 0) (rd:=[15]) ?_ ?_
 ·have:=XcB (((sg6 b s).append [.box (mv6 s)])) 15 0 s.s1.units.length false 4 (s.s1.units.map thC) .i64 k hkl rfl;rw[Nat.zero_add] at this; exact this
 rw[hk11];refine Za rfl ?_;refine Y2 (c:=false) (d:=false) (λ_=>rfl) (λ_=>rfl) ?_;refine Yc (Za rfl (Za rfl (Za rfl (Za rfl ?_))));refine QK hP (ys:=[.bptr 17 0]) (zs:=[.bptr 17 0]) rfl hgF rfl [] [17] (v:=.func (.func F2) [.bptr 17 0] []) (m:=0) (σ:=((sg6 b s).append [.box (mv6 s)])) (τ:=dd18) (τ':=dd18) (by decide) (show ∀b∈[17],b<18 by decide) rfl rfl ?_ rfl (u:=.func (.func F2) [.bptr 17 0] []) (up:=[]) (σ':=((sg6 b s).append [.box (mv6 s)])) rfl rfl rfl ?_
 ·exact hF _ _ _ ⟨rfl,rfl⟩
 refine Xb rfl (Xb rfl (Zd (ld (row:=(mv6 s)) rfl rfl) (Yg _) ?_));refine QX (rd:=[0,6,7,8,9,10,11,12,13,14,15,16,17]) (hc) rfl h2p (.cons (Bor.box (row:=(mv6 s)) rfl (by decide) (.cons (Bor.box (row:=bkC b) rfl (by decide) (BorL.ro rfl)) ?_)) <| .cons (Bor.ptr (rs:=s.s1.units.map thC) (row:=thC u) rfl (by decide) (by rw[List.getElem?_map,hk]; rfl) (BorL.ro rfl)) <| .cons (Bor.ro rfl) <| .cons (Bor.ro rfl) .nil) rfl ?_
 ·exact SB.mk (s:=s) (RI.own rfl (by decide) rfl) (RI.own rfl (by decide) rfl) (RI.own rfl (by decide) rfl) (RI.own rfl (by decide) rfl) (RT.own rfl (by decide) rfl) (RI.own rfl (by decide) rfl) (RI.own rfl (by decide) rfl) (RI.own rfl (by decide) rfl) (RI.own rfl (by decide) rfl) (RT.own rfl (by decide) rfl) (RI.own rfl (by decide) rfl)
 refine Xb rfl (Xb rfl (Yn (by kernel_rfl) ?_));refine Zc (c57 _) rfl g64.ok.plain rfl (Za rfl (Zb (λh2=>?_) (λh2=>?_)))
 ·have h3:wIn v.1=false:=by simpa using h2
  replace hr:=hr.trans (if_neg (by rw[h3]; decide))
  refine Za rfl (Za rfl (Qa rfl rfl (Qa rfl rfl (Yi rfl (Yi rfl ?_)))));refine Za rfl (Za rfl (Za rfl (Qa rfl rfl (Qa rfl rfl (Yi rfl (Yi rfl ?_))))));rw[hr];exact⟨[],resZ 171⟩
 have h3:wIn v.1=true:=by simpa using h2
 replace hr:=hr.trans (if_pos h3)
 refine Za rfl ?_;refine Xj λk63 hk63=>?_;refine Yd (Za rfl (Za rfl (Qa (v:=.junk) (rd:=[]) (up:=[(15,.rows 4 ((s.s1.units.set k { u with harm:=v.1 }).map thC))]) (Yb1 rfl hk _) rfl ?_)));rw[hk63];refine Za rfl (Za rfl (Za (ld (row:=(mv6 s)) rfl rfl) (Za rfl ?_)));refine Qa (v:=.junk) (rd:=[]) (up:=[(4,.box (st6 s))]) rfl rfl ?_;refine Qa (v:=.junk) (rd:=[]) (up:=[(5,.box [iv8 kd,iv 1,iv 0,iv id,iv 0,iv v.2,.nils])]) rfl rfl (Yi rfl (Yi rfl ?_));refine Za rfl (Za rfl (Za rfl ?_));refine Qa (v:=.junk) (rd:=[]) (up:=[(2,.box (st6 s))]) rfl rfl ?_;refine Qa (v:=.junk) (rd:=[]) (up:=[(3,.box [iv8 kd,iv 1,iv 0,iv id,iv 0,iv v.2,.nils])]) rfl rfl (Yi rfl (Yi rfl ?_));rw[hr];refine⟨List.range 18,?_⟩;refine resB (cs:=(st6 s)) (r:=({ s with s1:={ s.s1 with units:=s.s1.units.set k { u with harm:=v.1 } } },⟨kd,1,0,id,0,v.2,[]⟩,0)) ?_ (evB (e:=⟨kd,1,0,id,0,v.2,[]⟩) RI.nils);refine SB.mk (rd:=List.range 18) (s:={ s with s1:={ s.s1 with units:=s.s1.units.set k { u with harm:=v.1 } } }) ?_ ?_ ?_ ?_ ?_ ?_ ?_ ?_ ?_ ?_ ?_<;>first|exact RI.own rfl (by decide) rfl|exact RT.own rfl (by decide) rfl|exact RT.own (l:=s.s1.units.set k { u with harm:=v.1 }) rfl (by decide) (by simp)
theorem cTn{b:Bk}(hf:bkFit b=true)(hsm:Yj b.cards){s:St}(hs:StLe 2000000 s)(hm:mayR (bkR b).1 b s true=true){f F F2:FuncId}{kd:Int}(hg:GQ f 5 (gT kd F)){gF:GFun}(hgF:GQ F 1 gF)(hF:∀x τ (K:AVal→List ABlk→Prop),K (.func (.func F2) [x] []) τ→gF VV [x] τ K)(h2p:Zh prog F2=true)(id sd n:Int)(hid:id≠0)(v:AVal)(w:AVal)(x:Bool)(hfn:unitV s id=.tup [v,w,.bool x])(hx:id<0∨x=false):PC f [bkV b,stV s,iv id,iv sd,iv n] (resV (zSt,zEv,4)):=by
 have h71:=c71 s (hs.mono (by decide)) id;rw[hfn] at h71;have hfl:roL [.tup [v,w,.bool x]]=true:=by rw[←hfn]; rfl
 refine Yt hP hg rfl ?_;unfold gT;refine Qa (v:=.bptr 0 0) (rd:=[]) (up:=[(0,.box (bkC b))]) rfl rfl ?_;refine Qa (v:=.bptr 1 0) (rd:=[]) (up:=[(1,.box (stC s))]) rfl rfl ?_;refine Qa (v:=.bptr 2 0) (rd:=[]) (up:=[(2,.box zStC)]) rfl rfl ?_;refine Qa (v:=.bptr 3 0) (rd:=[]) (up:=[(3,.box zEvC)]) rfl rfl ?_;refine Xg hP rfl g71.ok rfl ?_;rw[H7.e]; unfold g71; dsimp only;refine Qa (v:=.bptr 4 0) (rd:=[]) (up:=[(4,.box zStC)]) rfl rfl ?_;refine Qa (v:=.bptr 5 0) (rd:=[]) (up:=[(5,.box zEvC)]) rfl rfl ?_;refine c56n b hf hsm s (hs.mono (by decide)) (n0:=6) (n:=17) rfl rfl rfl rfl (λh=>by rw[hm] at h; cases h) (λ_=>?_);refine Za rfl (Yc (Za (Qad ..) (Za (XU ..) (Za (XS ..) ?_))));refine Xj λk11 hk11=>?_;rw[decide_eq_true hid];refine Yd (Za rfl (Za (ld (row:=stC s) rfl rfl) ?_));refine Zc h71 rfl g98.ok.plain rfl (Za rfl (Za rfl (Za rfl (Za rfl ?_))));refine Y2 (c:=!x) (λ_=>rfl) (λ_=>QL ..) ?_;rw[show (!x||decide (id<0))=true by rcases hx with h|h<;>simp[h]];refine Yd ?_;refine Za rfl (Za rfl (Qa rfl rfl (Qa rfl rfl (Yi rfl (Yi rfl ?_)))));refine Za rfl (Za rfl (Za rfl (Qa rfl rfl (Qa rfl rfl (Yi rfl (Yi rfl ?_))))));exact⟨[],resZ 4⟩
theorem cT{b:Bk}(hf:bkFit b=true)(hsm:Yj b.cards){s:St}(hs:StLe 2000000 s)(hm:mayR (bkR b).1 b s true=true){f F F2:FuncId}{kd:Int}(hg:GQ f 5 (gT kd F)){gF:GFun}(hgF:GQ F 1 gF)(hF:∀x τ (K:AVal→List ABlk→Prop),K (.func (.func F2) [x] []) τ→gF VV [x] τ K)(h2p:Zh prog F2=true)(id sd n:Int)(h0:sd=0∨sd=1){fP:Int→Int×Int}{fU:Th→Int×Int}(hcP:∀m life,PC F2 [.rptr m 0,.nilp,iv life,iv (cap4 n)] (.tup [iv (fP life).1,iv (fP life).2]))(hcU:∀m u life,0≤u.card→u.card.toNat<b.cards.length→PC F2 [.rptr (.rptr (bkC b) 0::m) 0,.rptr (thC u) 0,iv life,iv (cap4 n)] (.tup [iv (fU u).1,iv (fU u).2])) :
  PC f [bkV b,stV s,iv id,iv sd,iv n] (resV (chgF kd fP fU s id sd)):=by
 unfold chgF;by_cases hid:id=0
 ·rw[if_pos hid]; subst hid;rcases h0 with rfl|rfl
  ·exact cTp_0 hf hsm hs hm hg hgF hF h2p n _ (hcP _ _)
  ·exact cTp_1 hf hsm hs hm hg hgF hF h2p n _ (hcP _ _)
 rw[if_neg hid];by_cases hid2:id<0
 ·rw[if_pos hid2];exact cTn hf hsm hs hm hg hgF hF h2p id sd n hid _ _ _ rfl (.inl hid2)
 rw[if_neg hid2];cases q0:fnd s.s0.units id with
 |some k=>
  obtain⟨u,hk,_⟩:=Zbf q0;have hca:=YbF hm u (List.mem_of_getElem? hk);simp only[hk,Option.getD_some];exact cTu_0 hf hsm hs hm hg hgF hF h2p id sd n hid hid2 k (by simp[unitV,unitR,q0]) u hk _ (hcU _ _ _ hca.1 hca.2)
 |none=>
  cases q1:fnd s.s1.units id with
  |some k=>
   obtain⟨u,hk,_⟩:=Zbf q1;have hca:=XbF hm u (List.mem_of_getElem? hk);simp only[hk,Option.getD_some];exact cTu_1 hf hsm hs hm hg hgF hF h2p id sd n hid hid2 k (by simp[unitV,unitR,q0,q1]) u hk _ (hcU _ _ _ hca.1 hca.2)
  |none=>exact cTn hf hsm hs hm hg hgF hF h2p id sd n hid _ _ _ rfl (.inr (by simp[unitR,q0,q1]))
theorem w65(x:AVal)(τ:List ABlk)(K:AVal→List ABlk→Prop)(h:K (.func (.func 73) [x] []) τ):g72.u VV [x] τ K:=by
 rw[H1.e]; unfold g72; dsimp only;exact Za rfl h
theorem c22(b:Bk)(hf:bkFit b=true)(hsm:Yj b.cards)(s:St)(hs:StLe 2000000 s)(hm:mayR (bkR b).1 b s true=true)(id sd n:Int)(h0:sd=0∨sd=1):PC 47 [bkV b,stV s,iv id,iv sd,iv n] (resV (harmF b s id sd n)):=
 cT hf hsm hs hm (show GQ 47 5 (gT 5 72) from g47.ok) g72.ok w65 g73.ok.plain id sd n h0 (λm life=>c66n m life _) (λm u life h1 h2=>c66u b m u life _ h1 h2)
end Go.Ah.Tz
end
section
namespace Go.Ah.Tz
open Go.Proofs.Tryz (prog)
abbrev mv2(s:St):List AVal:=[.bptr 0 0,iv s.turn,iv s.mover,iv8 s.phase,.bool s.struck,iv8 s.result,.sl 2 0 s.attack.length false,iv s.next,iv s.s0.life,iv s.s0.mana,iv s.s0.most,.sl 3 0 s.s0.deck.length false,.sl 4 0 s.s0.hand.length false,.sl 5 0 s.s0.grave.length false,.sl 6 0 s.s0.units.length false,.sl 7 0 s.s0.told.length false,iv s.s1.life,iv s.s1.mana,iv s.s1.most,.sl 8 0 s.s1.deck.length false,.sl 9 0 s.s1.hand.length false,.sl 10 0 s.s1.grave.length false,.sl 11 0 s.s1.units.length false,.sl 12 0 s.s1.told.length false]
def X2(b:Bk)(c:Int):Cd:=(b.cards[c.toNat]?).getD default
def powGo(b:Bk)(place:Int):List Th→Int→Int×Int→Int×Int
 |[],_,a=>a
 |u::l,i,a=>powGo b place l (i+1) (if i=place then (IntKind.i64.wrap (a.1+(X2 b u.card).power),IntKind.i64.wrap (a.2+(X2 b u.card).health)) else (IntKind.i64.wrap (a.1+(X2 b u.card).aurap),IntKind.i64.wrap (a.2+(X2 b u.card).aurah)))
def powF(b:Bk)(l:List Th)(place:Int):Int×Int:=powGo b place l 0 (0,0)
theorem cdLd3(x:Cd):partA false 3 1 (cdC x)=some (iv x.power):=rfl
theorem cdLd4(x:Cd):partA false 4 1 (cdC x)=some (iv x.health):=rfl
theorem cdLd6(x:Cd):partA false 6 1 (cdC x)=some (iv x.aurap):=rfl
theorem cdLd7(x:Cd):partA false 7 1 (cdC x)=some (iv x.aurah):=rfl
theorem ldp{σ:List ABlk}{b i j n sz:Nat}{agg:Bool}{rs:List (List AVal)}{row:List AVal}{v:AVal}(hb:hget σ b=.rows sz rs)(hi:rs[i]?=some row)(hv:partA agg j n row=some v):Zk agg n [.ptr b i j] σ=.ok v [b] []:=by
 show (match hget σ b with
   |.rows _ rs=>match nth rs i with
    |some row=>match partA agg j n row with
     |some v=>SRes.ok v [b] []
     |none=>.stop
    |none=>.stop
   | _=>.stop)=_
 rw[hb];simp only[Zae,hi,hv]
attribute [local irreducible] Ans.rd Ans.pu Ans.wr Ans.dr Ans.gr Ans.gw Ans.gl Ans.gd Ans.opt joinK W
set_option maxHeartbeats 4000000
theorem c75_0(b:Bk)(s:St)(hl:s.s0.units.length≤1000000000)(hu:∀u∈s.s0.units,0≤u.card∧u.card.toNat<b.cards.length)(place:Int):PC 166 [.rptr (.rptr (bkC b) 0::stC s) 0,iv 0,iv place] (.tup [iv (powF b s.s0.units place).1,iv (powF b s.s0.units place).2]):=by
 refine Qb hP g166.ok rfl rfl ?_;rw[H3.e]; unfold g166; dsimp only;refine Za rfl (Za rfl (Za rfl (Za rfl (Za rfl (Za (v:=thV s.s0.units) (rd:=[]) (ldr rfl) (Za (v:=iv s.s0.units.length) (rd:=[]) (by simp[Qd]) ?_))))));refine Xn (ι:=Nat) (λi vs _=>(∃a:Int×Int,vs=[iv i,iv a.1,iv a.2]∧powF b s.s0.units place=powGo b place (s.s0.units.drop i) i a)∧i≤s.s0.units.length) (λi=>s.s0.units.length-i) 0 ⟨⟨(0,0),rfl,by simp[powF]⟩,by omega⟩ ?_;rintro i vs σ again ⟨⟨a,rfl,hr⟩,hi⟩ hag;refine Za rfl (Zb (λh=>?_) (λh=>?_));rotate_left
 ·have h:i=s.s0.units.length:=by simp at h; omega
  subst h;rw[List.drop_length,powGo] at hr;show AVal.tup [iv a.1,iv a.2]=_;rw[hr]
 have h:i<s.s0.units.length:=by simpa using h
 have hmem:=List.getElem_mem h;rw[YLD h,powGo] at hr;have hix:=λ(t:List ABlk)=>Xw t thC false false 4 s.s0.units .i64 i h;generalize s.s0.units[i]=u at hmem hr hix;have hcu:=hu u hmem;have hcx:=λ(t:List ABlk)=>Xbz t cdC false false 12 b.cards .i64 u.card hcu.1 hcu.2;have hcd:X2 b u.card=b.cards[u.card.toNat]:=by simp[X2,List.getElem?_eq_getElem hcu.2]
 rw[hcd] at hr;generalize b.cards[u.card.toNat]=c at hr hcx;refine Xj λk10 hk10=>?_;refine Za (hix _) (Za (ldr rfl) (XG (row:=thC u) (row':=thC u) rfl rfl rfl ?_));have hB:=Zf σ (.box (thC u));refine Za rfl (Za rfl (Za (ldr rfl) (Za rfl (Za rfl (Za (ldr rfl) (Za rfl (Za (ld hB rfl) (Za (hcx _) (Za (Yf ..) ?_)))))))));refine Zb (λhp=>?_) (λhp=>?_)
 ·rw[if_pos (of_decide_eq_true hp)] at hr;refine Za rfl (Za rfl (Za (ldr (cdLd3 _)) (Za (Zl ..) (Za rfl (Za rfl (Za (ldr (cdLd4 _)) (Za (Zl ..) ?_)))))));rw[hk10];refine Za (Zl ..) ?_;rw[Zg (n:=i) (by omega)];exact hag (i+1) _ _ (by omega) ⟨⟨_,rfl,by rw[hr]; push_cast; rfl⟩,by omega⟩
 ·rw[if_neg (of_decide_eq_false hp)] at hr;refine Za rfl (Za rfl (Za (ldr (cdLd6 _)) (Za (Zl ..) (Za rfl (Za rfl (Za (ldr (cdLd7 _)) (Za (Zl ..) ?_)))))));rw[hk10];refine Za (Zl ..) ?_;rw[Zg (n:=i) (by omega)];exact hag (i+1) _ _ (by omega) ⟨⟨_,rfl,by rw[hr]; push_cast; rfl⟩,by omega⟩
theorem c75_1(b:Bk)(s:St)(hl:s.s1.units.length≤1000000000)(hu:∀u∈s.s1.units,0≤u.card∧u.card.toNat<b.cards.length)(place:Int):PC 166 [.rptr (.rptr (bkC b) 0::stC s) 0,iv 1,iv place] (.tup [iv (powF b s.s1.units place).1,iv (powF b s.s1.units place).2]):=by
 refine Qb hP g166.ok rfl rfl ?_;rw[H3.e]; unfold g166; dsimp only;refine Za rfl (Za rfl (Za rfl (Za rfl (Za rfl (Za (v:=thV s.s1.units) (rd:=[]) (ldr rfl) (Za (v:=iv s.s1.units.length) (rd:=[]) (by simp[Qd]) ?_))))));refine Xn (ι:=Nat) (λi vs _=>(∃a:Int×Int,vs=[iv i,iv a.1,iv a.2]∧powF b s.s1.units place=powGo b place (s.s1.units.drop i) i a)∧i≤s.s1.units.length) (λi=>s.s1.units.length-i) 0 ⟨⟨(0,0),rfl,by simp[powF]⟩,by omega⟩ ?_;rintro i vs σ again ⟨⟨a,rfl,hr⟩,hi⟩ hag;refine Za rfl (Zb (λh=>?_) (λh=>?_));rotate_left
 ·have h:i=s.s1.units.length:=by simp at h; omega
  subst h;rw[List.drop_length,powGo] at hr;show AVal.tup [iv a.1,iv a.2]=_;rw[hr]
 have h:i<s.s1.units.length:=by simpa using h
 have hmem:=List.getElem_mem h;rw[YLD h,powGo] at hr;have hix:=λ(t:List ABlk)=>Xw t thC false false 4 s.s1.units .i64 i h;generalize s.s1.units[i]=u at hmem hr hix;have hcu:=hu u hmem;have hcx:=λ(t:List ABlk)=>Xbz t cdC false false 12 b.cards .i64 u.card hcu.1 hcu.2;have hcd:X2 b u.card=b.cards[u.card.toNat]:=by simp[X2,List.getElem?_eq_getElem hcu.2]
 rw[hcd] at hr;generalize b.cards[u.card.toNat]=c at hr hcx;refine Xj λk10 hk10=>?_;refine Za (hix _) (Za (ldr rfl) (XG (row:=thC u) (row':=thC u) rfl rfl rfl ?_));have hB:=Zf σ (.box (thC u));refine Za rfl (Za rfl (Za (ldr rfl) (Za rfl (Za rfl (Za (ldr rfl) (Za rfl (Za (ld hB rfl) (Za (hcx _) (Za (Yf ..) ?_)))))))));refine Zb (λhp=>?_) (λhp=>?_)
 ·rw[if_pos (of_decide_eq_true hp)] at hr;refine Za rfl (Za rfl (Za (ldr (cdLd3 _)) (Za (Zl ..) (Za rfl (Za rfl (Za (ldr (cdLd4 _)) (Za (Zl ..) ?_)))))));rw[hk10];refine Za (Zl ..) ?_;rw[Zg (n:=i) (by omega)];exact hag (i+1) _ _ (by omega) ⟨⟨_,rfl,by rw[hr]; push_cast; rfl⟩,by omega⟩
 ·rw[if_neg (of_decide_eq_false hp)] at hr;refine Za rfl (Za rfl (Za (ldr (cdLd6 _)) (Za (Zl ..) (Za rfl (Za rfl (Za (ldr (cdLd7 _)) (Za (Zl ..) ?_)))))));rw[hk10];refine Za (Zl ..) ?_;rw[Zg (n:=i) (by omega)];exact hag (i+1) _ _ (by omega) ⟨⟨_,rfl,by rw[hr]; push_cast; rfl⟩,by omega⟩
end Go.Ah.Tz
end
section
namespace Go.Ah.Tz
open Go.Proofs.Tryz (prog)
def Agr(τ τ':List ABlk)(ex:List Nat):Prop:=τ.length≤τ'.length∧∀c,c<τ.length→c∉ex→hget τ' c=hget τ c
theorem Agr.app(τ l:List ABlk):Agr τ (τ++l) []:=⟨by simp,λc hc _=>Ym l hc⟩
theorem Agr.set(τ:List ABlk)(b:Nat)(x:ABlk):Agr τ (τ.set b x) [b]:=⟨by simp,λc hc h=>Xd x hc (by simpa using h)⟩
theorem Agr.trans{a b c:List ABlk}{e f:List Nat}(h:Agr a b e)(k:Agr b c f):Agr a c (e++f):=
 ⟨Nat.le_trans h.1 k.1,λx hx hn=>by
  rw[List.mem_append,not_or] at hn;rw[k.2 x (Nat.lt_of_lt_of_le hx h.1) hn.2,h.2 x hx hn.1]⟩
theorem Agr.get{a b:List ABlk}{e:List Nat}(h:Agr a b e){c:Nat}{x:ABlk}(hx:hget a c=x)(hd:x≠.dead)(hn:c∉e):hget b c=x:=by
 rw[h.2 c (Xi hx hd) hn]; exact hx
end Go.Ah.Tz
end
section
namespace Go.Ah.Tz
theorem Xo{n:Nat}{l:List Int}{most:Int}:Yp n l most=true↔(l.length:Int)≤most∧∀c∈l,0≤c∧c<n:=by
 simp[Yp,List.all_eq_true]
structure SideP (b:Bk) (x:Sd):Prop where
 life:wIn x.life=true
 mana:0≤x.mana∧wIn x.mana=true
 most:0≤x.most∧x.most≤10
 deck:Yp b.cards.length x.deck 60=true
 hand:Yp b.cards.length x.hand 10=true
 grave:Yp b.cards.length x.grave 1000000=true
 told:Yp b.cards.length x.told 1000000=true
 units:x.units.length≤7
theorem XcT{b:Bk}{x:Sd}:YE b.cards.length x=true↔SideP b x:=by
 simp only[YE,Bool.and_eq_true,decide_eq_true_eq];constructor
 ·rintro⟨h1,h2,h3,h4,h5,h6,h7,h8,h9,h10⟩;exact⟨h1,⟨h2,h3⟩,⟨h4,h5⟩,h6,h7,h8,h9,by omega⟩
 ·rintro⟨h1,⟨h2,h3⟩,⟨h4,h5⟩,h6,h7,h8,h9,h10⟩;exact⟨h1,h2,h3,h4,h5,h6,h7,h8,h9,by omega⟩
theorem Zat{b:Bk}{next:Int}:∀ {l:List Th} {ids:List Int},YD b next ids l=true↔(∀u∈l,QC b next u=true)∧(l.map Th.id).Nodup∧∀u∈l,u.id∉ids
 |[],ids=>by simp[YD]
 |u::l,ids=>by
  simp only[YD,Bool.and_eq_true,Zat (l:=l),Bool.not_eq_true',List.map_cons,List.nodup_cons,List.mem_cons,forall_eq_or_imp,List.mem_append,not_or];have hc:ids.contains u.id=false↔u.id∉ids:=by simp
  rw[hc];constructor
  ·rintro⟨h1,h2,h3,h4,h5⟩;refine⟨⟨h1,h3⟩,⟨?_,h4⟩,h2,λv hv=>(h5 v hv).1⟩;intro hm;obtain⟨v,hv,e⟩:=List.mem_map.1 hm;exact(h5 v hv).2.1 e
  ·rintro⟨⟨h1,h3⟩,⟨h6,h4⟩,h2,h5⟩;exact⟨h1,h2,h3,h4,λv hv=>⟨h5 v hv,λe=>h6 (List.mem_map.2 ⟨v,hv,e⟩),by simp⟩⟩
def UnP(b:Bk)(s:St):Prop:=(∀u∈s.s0.units++s.s1.units,QC b s.next u=true)∧((s.s0.units++s.s1.units).map Th.id).Nodup
theorem QcX{b:Bk}{s:St}:(YD b s.next [] s.s0.units=true∧YD b s.next (s.s0.units.map Th.id) s.s1.units=true)↔UnP b s:=by
 rw[Zat,Zat,UnP,List.map_append,List.nodup_append];constructor
 ·rintro⟨⟨h1,h2,_⟩,h3,h4,h5⟩;refine⟨λu hu=>?_,h2,h4,λa ha c hc e=>?_⟩
  ·rcases List.mem_append.1 hu with hu|hu
   ·exact h1 u hu
   ·exact h3 u hu
  ·subst e;obtain⟨v,hv,rfl⟩:=List.mem_map.1 hc;exact h5 v hv ha
 ·rintro⟨h1,h2,h3,h4⟩;refine⟨⟨λu hu=>h1 u (List.mem_append_left _ hu),h2,by simp⟩,λu hu=>h1 u (List.mem_append_right _ hu),h3,λu hu hm=>h4 _ hm _ (List.mem_map.2 ⟨u,hu,rfl⟩) rfl⟩
theorem ZaU{s:St}:∀ {l prev:List Int},attOk s prev l=true↔(∀a∈l,(unitR s a).2.2=true∧(unitR s a).1=s.mover)∧l.Nodup∧∀a∈l,a∉prev
 |[],prev=>by simp[attOk]
 |a::l,prev=>by
  simp only[attOk,Bool.and_eq_true,ZaU (l:=l),decide_eq_true_eq,Bool.not_eq_true',List.nodup_cons,List.mem_cons,forall_eq_or_imp,List.mem_append,not_or];have hc:prev.contains a=false↔a∉prev:=by simp
  rw[hc];constructor
  ·rintro⟨h1,h2,h3,h4,h5⟩;exact⟨⟨h1,h3⟩,⟨λhm=>(h5 a hm).2.1 rfl,h4⟩,h2,λc hc=>(h5 c hc).1⟩
  ·rintro⟨⟨h1,h3⟩,⟨h6,h4⟩,h2,h5⟩;exact⟨h1,h2,h3,h4,λc hc=>⟨h5 c hc,λe=>h6 (e▸hc),by simp⟩⟩
def AtP(s:St):Prop:=(s.phase≠1→s.attack=[])∧(s.phase=1→s.struck=true∧s.attack.length≤7∧s.attack.Nodup∧∀a∈s.attack,(unitR s a).2.2=true∧(unitR s a).1=s.mover)
def HdP(s:St):Prop:=1≤s.turn∧s.turn≤4096∧0≤s.mover∧s.mover≤1∧0≤s.phase∧s.phase≤2∧0≤s.result∧s.result≤3∧((s.result==0)==(s.phase != 2))=true∧1≤s.next∧s.next≤1000000
structure MayP (b:Bk) (s:St):Prop where
 hd:HdP s
 s0:SideP b s.s0
 s1:SideP b s.s1
 un:UnP b s
 at_:AtP s
theorem YK{e:Int}{b:Bk}{s:St}:mayR e b s true=true↔e=0∧MayP b s:=by
 simp only[mayR,YN,Bool.and_eq_true,decide_eq_true_eq,XcT];constructor
 ·rintro⟨h1,h2,h3,h4,h5,h6,h7,h8,h9,h10,h11,h12,⟨k1,k2,k3,k4⟩,h14⟩;refine⟨h1,⟨h2,h3,h4,h5,h6,h7,h8,h9,h10,h11,h12⟩,k1,k3,QcX.1 ⟨k2,k4⟩,?_,?_⟩
  ·intro hp;rw[if_pos hp] at h14;exact List.length_eq_zero_iff.1 (of_decide_eq_true h14)
  ·intro hp;rw[if_neg (by simpa using hp)] at h14;simp only[Bool.and_eq_true,decide_eq_true_eq] at h14;obtain⟨_,q1,q2,q3⟩:=h14;obtain⟨r1,r2,_⟩:=ZaU.1 q3;exact⟨q1,by omega,r2,r1⟩
 ·rintro⟨h1,⟨h2,h3,h4,h5,h6,h7,h8,h9,h10,h11,h12⟩,k1,k3,hu,ha1,ha2⟩;obtain⟨k2,k4⟩:=QcX.2 hu;refine⟨h1,h2,h3,h4,h5,h6,h7,h8,h9,h10,h11,h12,⟨k1,k2,k3,k4⟩,?_⟩;by_cases hp:s.phase≠1
  ·rw[if_pos hp,ha1 hp]; rfl
  ·rw[if_neg hp];obtain⟨q1,q2,q3,q4⟩:=ha2 (by simpa using hp);simp only[Bool.and_eq_true,decide_eq_true_eq];exact⟨by simp,q1,by omega,ZaU.2 ⟨q4,q3,by simp⟩⟩
end Go.Ah.Tz
end
section
namespace Go.Ah.Tz
open Go.Proofs.Tryz (prog)
theorem c20s(a:St)(ha:StLe 1000000000 a):PC 7 [stV a,stV a] (.bool true):=by
 have:=c20 a a ha
 rwa [decide_eq_true rfl] at this
end Go.Ah.Tz
end
section
namespace Go.Ah.Tz
def Zp(s:St):Int:=((s.s0.deck.length:Int)+s.s0.hand.length+s.s0.grave.length+s.s0.units.length)+(s.s1.deck.length+s.s1.hand.length+s.s1.grave.length+s.s1.units.length)
theorem ZL{n:Nat}{c:Int}{l:List Int}{most:Int}(h:Yp n (c::l) most=true):Yp n l most=true∧0≤c∧c<n:=by
 rw[Xo] at h ⊢;obtain⟨h1,h2⟩:=h;simp only[List.length_cons] at h1;exact⟨⟨by omega,λx hx=>h2 x (List.mem_cons_of_mem _ hx)⟩,h2 c (List.mem_cons_self ..)⟩
theorem Yr{n:Nat}{c:Int}{l:List Int}{most:Int}(h:Yp n l most=true)(hc:0≤c∧c<n)(hl:(l.length:Int)+1≤most):Yp n (l++[c]) most=true:=by
 rw[Xo] at h ⊢;refine⟨by simp; omega,λx hx=>?_⟩;rcases List.mem_append.1 hx with hx|hx
 ·exact h.2 x hx
 ·rw[List.mem_singleton.1 hx]; exact hc
theorem YbS{l:List Th}{a:Int}:fnd l a=none↔a∉l.map Th.id:=by
 rw[fnd,List.findIdx?_eq_none_iff];simp
def InS(s:St)(a k:Int):Prop:=(unitR s a).2.2=true∧(unitR s a).1=k
theorem inS0{s:St}{a:Int}:InS s a 0↔a∈s.s0.units.map Th.id:=by
 unfold InS unitR;have h:=YbS (l:=s.s0.units) (a:=a);cases e:fnd s.s0.units a with
 |some k=>simp only[e] at h ⊢; simp at h ⊢; exact h
 |none=>
  simp only[e] at h ⊢;have h':=h.1 trivial;constructor
  ·intro hh;cases e1:fnd s.s1.units a with
   |some k=>rw[e1] at hh; have:=hh.2; simp at this
   |none=>rw[e1] at hh; have:=hh.1; simp at this
  ·intro hm; exact absurd hm h'
theorem inS1{s:St}{a:Int}:InS s a 1↔a∉s.s0.units.map Th.id∧a∈s.s1.units.map Th.id:=by
 unfold InS unitR;have h:=YbS (l:=s.s0.units) (a:=a);have h1:=YbS (l:=s.s1.units) (a:=a);cases e:fnd s.s0.units a with
 |some k=>
  simp only[e] at h ⊢;constructor
  ·intro hh; have:=hh.2; simp at this
  ·intro hh; have:=h.2 hh.1; simp at this
 |none=>
  simp only[e] at h ⊢;cases e1:fnd s.s1.units a with
  |some k=>simp only[e1] at h1 ⊢; simp at h h1 ⊢; exact⟨h,h1⟩
  |none=>
   simp only[e1] at h1 ⊢;constructor
   ·intro hh; have:=hh.1; simp at this
   ·intro hh; exact absurd hh.2 (h1.1 trivial)
theorem Zbn{s t:St}(h:AtP s)(hm:0≤s.mover∧s.mover≤1)(e1:t.phase=s.phase)(e2:t.struck=s.struck)(e3:t.mover=s.mover)(hs:t.attack.Sublist s.attack)
 (k0:∀a∈t.attack,a∈s.s0.units.map Th.id→a∈t.s0.units.map Th.id)(k1:∀a∈t.attack,a∈s.s1.units.map Th.id→a∉s.s0.units.map Th.id→a∈t.s1.units.map Th.id∧a∉t.s0.units.map Th.id):AtP t:=by
 refine⟨λhp=>?_,λhp=>?_⟩
 ·have:=h.1 (by rw[←e1]; exact hp);rw[this] at hs;exact List.sublist_nil.1 hs
 ·obtain⟨q1,q2,q3,q4⟩:=h.2 (by rw[←e1]; exact hp);refine⟨by rw[e2]; exact q1,Nat.le_trans hs.length_le q2,q3.sublist hs,λa ha=>?_⟩;have hq:=q4 a (hs.subset ha);rw[e3];rcases (show s.mover=0∨s.mover=1 by omega) with e|e
  ·rw[e] at hq ⊢;exact inS0.2 (k0 a ha (inS0.1 hq))
  ·rw[e] at hq ⊢;obtain⟨r1,r2⟩:=inS1.1 hq;obtain⟨t1,t2⟩:=k1 a ha r2 r1;exact inS1.2 ⟨t2,t1⟩
theorem ZaX(s:St)(h:(drawF s 0).2.2=0):(wIn (s.s0.life-1)=true∧drawF s 0=({ s with s0:={ s.s0 with life:=s.s0.life-1 } },⟨3,0,-1,0,0,0,[]⟩,0)) ∨
  (∃c l,s.s0.deck=c::l∧drawF s 0=({ s with s0:={ s.s0 with deck:=l,grave:=s.s0.grave++[c],told:=s.s0.told++[c] },s1:={ s.s1 with told:=s.s1.told++[c] } },⟨4,0,c,0,0,0,[]⟩,0))∨(∃c l,s.s0.deck=c::l∧s.s0.hand.length<10∧drawF s 0=({ s with s0:={ s.s0 with deck:=l,hand:=s.s0.hand++[c],told:=s.s0.told++[c] } },⟨3,0,c,0,0,0,[]⟩,0)):=by
 cases hd:s.s0.deck with
 |nil=>
  have e:drawF s 0=if wIn (s.s0.life-1) then ({ s with s0:={ s.s0 with life:=s.s0.life-1 } },⟨3,0,-1,0,0,0,[]⟩,0) else (zSt,zEv,171):=by
   show (match s.s0.deck with | []=>_|c::l=>_)=_;rw[hd]; rfl
  by_cases hw:wIn (s.s0.life-1)=true
  ·left; exact⟨hw,by rw[e,if_pos hw]⟩
  ·rw[e,if_neg hw] at h; exact absurd h (by decide)
 |cons c l=>
  right;by_cases hh:10≤s.s0.hand.length
  ·left;refine⟨c,l,rfl,?_⟩;show (match s.s0.deck with | []=>_|c::l=>_)=_;rw[hd]; show (if 10≤s.s0.hand.length then _ else _)=_;rw[if_pos hh]; rfl
  ·right;refine⟨c,l,rfl,by omega,?_⟩;show (match s.s0.deck with | []=>_|c::l=>_)=_;rw[hd]; show (if 10≤s.s0.hand.length then _ else _)=_;rw[if_neg hh]; rfl
theorem YbQ{b:Bk}{s:St}(hM:MayP b s)(h:(drawF s 0).2.2=0)(g0:s.s0.grave.length<1000000)(t0:s.s0.told.length<1000000)(t1:s.s1.told.length<1000000):MayP b (drawF s 0).1∧Zp (drawF s 0).1=Zp s:=by
 have S:=hM.s0;rcases ZaX s h with ⟨hw,e⟩|⟨c,l,hd,e⟩|⟨c,l,hd,hh,e⟩
 ·rw[e];refine⟨⟨hM.hd,⟨hw,S.mana,S.most,S.deck,S.hand,S.grave,S.told,S.units⟩,hM.s1,hM.un,hM.at_⟩,rfl⟩
 ·rw[e];have hdk:=S.deck;rw[hd] at hdk;obtain⟨d1,d2⟩:=ZL hdk;have hl:s.s0.deck.length=l.length+1:=by rw[hd]; rfl
  refine⟨⟨hM.hd,⟨S.life,S.mana,S.most,d1,S.hand,Yr S.grave d2 (by omega),Yr S.told d2 (by omega),S.units⟩,⟨hM.s1.life,hM.s1.mana,hM.s1.most,hM.s1.deck,hM.s1.hand,hM.s1.grave,Yr hM.s1.told d2 (by omega),hM.s1.units⟩,hM.un,hM.at_⟩,by simp[Zp,hl]; omega⟩
 ·rw[e];have hdk:=S.deck;rw[hd] at hdk;obtain⟨d1,d2⟩:=ZL hdk;have hl:s.s0.deck.length=l.length+1:=by rw[hd]; rfl
  refine⟨⟨hM.hd,⟨S.life,S.mana,S.most,d1,Yr S.hand d2 (by omega),S.grave,Yr S.told d2 (by omega),S.units⟩,hM.s1,hM.un,hM.at_⟩,by simp[Zp,hl]; omega⟩
theorem YaX(s:St)(h:(drawF s 1).2.2=0):(wIn (s.s1.life-1)=true∧drawF s 1=({ s with s1:={ s.s1 with life:=s.s1.life-1 } },⟨3,1,-1,0,0,0,[]⟩,0)) ∨
  (∃c l,s.s1.deck=c::l∧drawF s 1=({ s with s1:={ s.s1 with deck:=l,grave:=s.s1.grave++[c],told:=s.s1.told++[c] },s0:={ s.s0 with told:=s.s0.told++[c] } },⟨4,1,c,0,0,0,[]⟩,0))∨(∃c l,s.s1.deck=c::l∧s.s1.hand.length<10∧drawF s 1=({ s with s1:={ s.s1 with deck:=l,hand:=s.s1.hand++[c],told:=s.s1.told++[c] } },⟨3,1,c,0,0,0,[]⟩,0)):=by
 cases hd:s.s1.deck with
 |nil=>
  have e:drawF s 1=if wIn (s.s1.life-1) then ({ s with s1:={ s.s1 with life:=s.s1.life-1 } },⟨3,1,-1,0,0,0,[]⟩,0) else (zSt,zEv,171):=by
   show (match s.s1.deck with | []=>_|c::l=>_)=_;rw[hd]; rfl
  by_cases hw:wIn (s.s1.life-1)=true
  ·left; exact⟨hw,by rw[e,if_pos hw]⟩
  ·rw[e,if_neg hw] at h; exact absurd h (by decide)
 |cons c l=>
  right;by_cases hh:10≤s.s1.hand.length
  ·left;refine⟨c,l,rfl,?_⟩;show (match s.s1.deck with | []=>_|c::l=>_)=_;rw[hd]; show (if 10≤s.s1.hand.length then _ else _)=_;rw[if_pos hh]; rfl
  ·right;refine⟨c,l,rfl,by omega,?_⟩;show (match s.s1.deck with | []=>_|c::l=>_)=_;rw[hd]; show (if 10≤s.s1.hand.length then _ else _)=_;rw[if_neg hh]; rfl
theorem XbQ{b:Bk}{s:St}(hM:MayP b s)(h:(drawF s 1).2.2=0)(g0:s.s1.grave.length<1000000)(t0:s.s0.told.length<1000000)(t1:s.s1.told.length<1000000):MayP b (drawF s 1).1∧Zp (drawF s 1).1=Zp s:=by
 have S:=hM.s1;rcases YaX s h with ⟨hw,e⟩|⟨c,l,hd,e⟩|⟨c,l,hd,hh,e⟩
 ·rw[e];refine⟨⟨hM.hd,hM.s0,⟨hw,S.mana,S.most,S.deck,S.hand,S.grave,S.told,S.units⟩,hM.un,hM.at_⟩,rfl⟩
 ·rw[e];have hdk:=S.deck;rw[hd] at hdk;obtain⟨d1,d2⟩:=ZL hdk;have hl:s.s1.deck.length=l.length+1:=by rw[hd]; rfl
  refine⟨⟨hM.hd,⟨hM.s0.life,hM.s0.mana,hM.s0.most,hM.s0.deck,hM.s0.hand,hM.s0.grave,Yr hM.s0.told d2 (by omega),hM.s0.units⟩,⟨S.life,S.mana,S.most,d1,S.hand,Yr S.grave d2 (by omega),Yr S.told d2 (by omega),S.units⟩,hM.un,hM.at_⟩,by simp[Zp,hl]; omega⟩
 ·rw[e];have hdk:=S.deck;rw[hd] at hdk;obtain⟨d1,d2⟩:=ZL hdk;have hl:s.s1.deck.length=l.length+1:=by rw[hd]; rfl
  refine⟨⟨hM.hd,hM.s0,⟨S.life,S.mana,S.most,d1,Yr S.hand d2 (by omega),S.grave,Yr S.told d2 (by omega),S.units⟩,hM.un,hM.at_⟩,by simp[Zp,hl]; omega⟩
theorem Qa7{b:Bk}{n:Int}{u:Th}(h:QC b n u=true):QC b (n+1) u=true:=by
 simp only[QC,Bool.and_eq_true,decide_eq_true_eq] at h ⊢;obtain⟨h1,h2,h3,h4,h5,h6,h7⟩:=h;exact⟨h1,h2,h3,h4,h5,h6,by omega⟩
theorem ZcY{b:Bk}{n:Int}{u:Th}(h:QC b n u=true):u.id<n:=by
 simp only[QC,Bool.and_eq_true,decide_eq_true_eq] at h;exact h.2.2.2.2.2.2
theorem Qca{b:Bk}{s:St}(h:UnP b s):s.next∉(s.s0.units++s.s1.units).map Th.id:=by
 intro hm;obtain⟨u,hu,e⟩:=List.mem_map.1 hm;have:=ZcY (h.1 u hu);omega
theorem YcT{l:List Th}{k:Nat}{u v:Th}(h:l[k]?=some u)(e:v.id=u.id):(l.set k v).map Th.id=l.map Th.id:=by
 rw[List.map_set,e];have hk:k<l.length:=(YLG h).1;have h2:(l.map Th.id)[k]?=some u.id:=by rw[List.getElem?_map,h]; rfl
 obtain⟨hk2,h3⟩:=YLG h2;rw[←h3,List.set_getElem_self]
theorem Ycb{n:Int}(h0:0≤n)(h1:n<13835058055282163712)(h:wIn (IntKind.i64.wrap n)=true):0≤IntKind.i64.wrap n:=by
 have hw:=Yak.1 h;simp only[IntKind.wrap,IntKind.signed,IntKind.bits] at hw ⊢;simp at hw ⊢;split at hw<;>split<;>omega
theorem Zdw(n:Int):IntKind.i64.wrap n<9223372036854775808:=by
 simp only[IntKind.wrap,IntKind.signed,IntKind.bits];simp;split<;>omega
theorem Ycu(n:Int):0≤cap4 n∧cap4 n≤4000000:=by unfold cap4; omega
theorem ZbA{b:Bk}{s:St}{c:Int}(hM:MayP b s)(h:XO b s 0 c=false):MayP b (QA s 0 c)∧Zp (QA s 0 c)=Zp s+1:=by
 simp only[XO,Bool.or_eq_false_iff,decide_eq_false_iff_not] at h;obtain⟨⟨⟨⟨h1,h2⟩,h3⟩,h4⟩,h5⟩:=h;have h4:¬7≤(s.s0.units.length:Int):=h4;obtain⟨d1,d2,d3,d4,d5,d6,d7,d8,d9,d10,d11⟩:=hM.hd;have hnx:=Qca hM.un;have S:=hM.s0;refine⟨⟨⟨d1,d2,d3,d4,d5,d6,d7,d8,d9,by show 1≤s.next+1; omega,by show s.next+1≤1000000; omega⟩,⟨S.life,S.mana,S.most,S.deck,S.hand,S.grave,S.told,by show (s.s0.units++[_]).length≤7; simp; omega⟩,hM.s1,⟨?_,?_⟩,?_⟩,?_⟩
 ·intro u hu;show QC b (s.next+1) u=true;have hu:u∈s.s0.units++s.s1.units∨u=(⟨s.next,c,0,true⟩:Th):=by
   have:u∈(s.s0.units++[(⟨s.next,c,0,true⟩:Th)])++s.s1.units:=hu;simp only[List.mem_append,List.mem_singleton] at this ⊢;rcases this with (q|q)|q
   ·exact .inl (.inl q)
   ·exact .inr q
   ·exact .inl (.inr q)
  rcases hu with hu|rfl
  ·exact Qa7 (hM.un.1 u hu)
  ·have hc:c.toNat<b.cards.length:=by omega
   simp only[QC,Bool.and_eq_true,decide_eq_true_eq];rw[List.getElem?_eq_getElem hc] at h3 ⊢;simp at h3;exact⟨by omega,by omega,by simpa using h3,by omega,by omega,by omega,by omega⟩
 ·have e:((QA s 0 c).s0.units++(QA s 0 c).s1.units).map Th.id=s.s0.units.map Th.id++s.next::s.s1.units.map Th.id:=by
   show ((s.s0.units++[(⟨s.next,c,0,true⟩:Th)])++s.s1.units).map Th.id=_;simp
  rw[e,List.perm_middle.nodup_iff,List.nodup_cons];rw[←List.map_append];exact⟨hnx,hM.un.2⟩
 ·refine Zbn hM.at_ ⟨d3,d4⟩ rfl rfl rfl (List.Sublist.refl _) (λa _ ha=>?_) (λa _ ha hn=>⟨?_,?_⟩)
  ·show a∈(s.s0.units++[_]).map Th.id; rw[List.map_append]; exact List.mem_append_left _ ha
  ·exact ha
  ·show a∉(s.s0.units++[_]).map Th.id; rw[List.map_append,List.mem_append]; rintro (q|q); exact hn q; simp at q; subst q; exact hnx (by rw[List.map_append]; exact List.mem_append_right _ ha)
 ·show ((s.s0.deck.length:Int)+s.s0.hand.length+s.s0.grave.length+(s.s0.units++[(⟨s.next,c,0,true⟩:Th)]).length)+(s.s1.deck.length+s.s1.hand.length+s.s1.grave.length+s.s1.units.length)=_;simp[Zp]; omega
theorem YbA{b:Bk}{s:St}{c:Int}(hM:MayP b s)(h:XO b s 1 c=false):MayP b (QA s 1 c)∧Zp (QA s 1 c)=Zp s+1:=by
 simp only[XO,Bool.or_eq_false_iff,decide_eq_false_iff_not] at h;obtain⟨⟨⟨⟨h1,h2⟩,h3⟩,h4⟩,h5⟩:=h;have h4:¬7≤(s.s1.units.length:Int):=h4;obtain⟨d1,d2,d3,d4,d5,d6,d7,d8,d9,d10,d11⟩:=hM.hd;have hnx:=Qca hM.un;have S:=hM.s1;refine⟨⟨⟨d1,d2,d3,d4,d5,d6,d7,d8,d9,by show 1≤s.next+1; omega,by show s.next+1≤1000000; omega⟩,hM.s0,⟨S.life,S.mana,S.most,S.deck,S.hand,S.grave,S.told,by show (s.s1.units++[_]).length≤7; simp; omega⟩,⟨?_,?_⟩,?_⟩,?_⟩
 ·intro u hu;show QC b (s.next+1) u=true;have hu:u∈s.s0.units++s.s1.units∨u=(⟨s.next,c,0,true⟩:Th):=by
   have:u∈s.s0.units++(s.s1.units++[(⟨s.next,c,0,true⟩:Th)]):=hu;simp only[List.mem_append,List.mem_singleton] at this ⊢;rcases this with q|(q|q)
   ·exact .inl (.inl q)
   ·exact .inl (.inr q)
   ·exact .inr q
  rcases hu with hu|rfl
  ·exact Qa7 (hM.un.1 u hu)
  ·have hc:c.toNat<b.cards.length:=by omega
   simp only[QC,Bool.and_eq_true,decide_eq_true_eq];rw[List.getElem?_eq_getElem hc] at h3 ⊢;simp at h3;exact⟨by omega,by omega,by simpa using h3,by omega,by omega,by omega,by omega⟩
 ·have e:((QA s 1 c).s0.units++(QA s 1 c).s1.units).map Th.id=(s.s0.units++s.s1.units).map Th.id++s.next::[]:=by
   show (s.s0.units++(s.s1.units++[(⟨s.next,c,0,true⟩:Th)])).map Th.id=_;simp
  rw[e,List.perm_middle.nodup_iff,List.nodup_cons];rw[List.append_nil];exact⟨hnx,hM.un.2⟩
 ·refine Zbn hM.at_ ⟨d3,d4⟩ rfl rfl rfl (List.Sublist.refl _) (λa _ ha=>?_) (λa _ ha hn=>⟨?_,?_⟩)
  ·exact ha
  ·show a∈(s.s1.units++[_]).map Th.id; rw[List.map_append]; exact List.mem_append_left _ ha
  ·exact hn
 ·show ((s.s0.deck.length:Int)+s.s0.hand.length+s.s0.grave.length+s.s0.units.length)+(s.s1.deck.length+s.s1.hand.length+s.s1.grave.length+(s.s1.units++[(⟨s.next,c,0,true⟩:Th)]).length)=_;simp[Zp]; omega
theorem Xa7{b:Bk}{n h:Int}{u:Th}(k:QC b n u=true)(h0:0≤h)(h1:h≤1000000):QC b n { u with harm:=h }=true:=by
 simp only[QC,Bool.and_eq_true,decide_eq_true_eq] at k ⊢;exact⟨k.1,k.2.1,k.2.2.1,h0,h1,k.2.2.2.2.2⟩
theorem QaM{b:Bk}{n:Int}{u:Th}(k:QC b n u=true):0≤u.harm∧u.harm≤1000000:=by
 simp only[QC,Bool.and_eq_true,decide_eq_true_eq] at k;exact⟨k.2.2.2.1,k.2.2.2.2.1⟩
theorem Zb6{l:List Th}{k:Nat}{v u:Th}(h:u∈l.set k v):u∈l∨u=v:=List.mem_or_eq_of_mem_set h
theorem YbX{b:Bk}{s:St}(hM:MayP b s){k:Nat}{u:Th}(hk:s.s0.units[k]?=some u){h:Int}(h0:0≤h)(h1:h≤1000000):MayP b { s with s0:={ s.s0 with units:=s.s0.units.set k { u with harm:=h } } }∧Zp { s with s0:={ s.s0 with units:=s.s0.units.set k { u with harm:=h } } }=Zp s:=by
 have S:=hM.s0;have hu:u∈s.s0.units:=List.mem_of_getElem? hk;have hi:(s.s0.units.set k { u with harm:=h }).map Th.id=s.s0.units.map Th.id:=YcT hk rfl;have N:SideP b { s.s0 with units:=s.s0.units.set k { u with harm:=h } }:=⟨S.life,S.mana,S.most,S.deck,S.hand,S.grave,S.told,by show (s.s0.units.set k _).length≤7; rw[List.length_set]; exact S.units⟩;refine⟨⟨hM.hd,N,hM.s1,⟨λv hv=>?_,?_⟩,?_⟩,?_⟩
 ·have hv:v∈(s.s0.units.set k { u with harm:=h })++s.s1.units:=hv;rcases List.mem_append.1 hv with hv|hv
  ·rcases Zb6 hv with hv|rfl; exact hM.un.1 v (List.mem_append_left _ hv); exact Xa7 (hM.un.1 u (List.mem_append_left _ hu)) h0 h1
  ·exact hM.un.1 v (List.mem_append_right _ hv)
 ·have e:((s.s0.units.set k { u with harm:=h })++s.s1.units).map Th.id=(s.s0.units++s.s1.units).map Th.id:=by rw[List.map_append,List.map_append,hi]
  show (((s.s0.units.set k { u with harm:=h })++s.s1.units).map Th.id).Nodup;rw[e]; exact hM.un.2
 ·refine Zbn hM.at_ ⟨hM.hd.2.2.1,hM.hd.2.2.2.1⟩ rfl rfl rfl (List.Sublist.refl _) (λa _ ha=>?_) (λa _ ha hn=>⟨?_,?_⟩)
  ·show a∈(s.s0.units.set k _).map Th.id; rw[hi]; exact ha
  ·exact ha
  ·show a∉(s.s0.units.set k _).map Th.id; rw[hi]; exact hn
 ·simp[Zp]
theorem Ya0{b:Bk}{s:St}(hM:MayP b s){n:Int}(hw:wIn n=true):MayP b { s with s0:={ s.s0 with life:=n } }∧Zp { s with s0:={ s.s0 with life:=n } }=Zp s:=by
 have S:=hM.s0;exact⟨⟨hM.hd,⟨hw,S.mana,S.most,S.deck,S.hand,S.grave,S.told,S.units⟩,hM.s1,hM.un,hM.at_⟩,rfl⟩
theorem XbX{b:Bk}{s:St}(hM:MayP b s){k:Nat}{u:Th}(hk:s.s1.units[k]?=some u){h:Int}(h0:0≤h)(h1:h≤1000000):MayP b { s with s1:={ s.s1 with units:=s.s1.units.set k { u with harm:=h } } }∧Zp { s with s1:={ s.s1 with units:=s.s1.units.set k { u with harm:=h } } }=Zp s:=by
 have S:=hM.s1;have hu:u∈s.s1.units:=List.mem_of_getElem? hk;have hi:(s.s1.units.set k { u with harm:=h }).map Th.id=s.s1.units.map Th.id:=YcT hk rfl;have N:SideP b { s.s1 with units:=s.s1.units.set k { u with harm:=h } }:=⟨S.life,S.mana,S.most,S.deck,S.hand,S.grave,S.told,by show (s.s1.units.set k _).length≤7; rw[List.length_set]; exact S.units⟩;refine⟨⟨hM.hd,hM.s0,N,⟨λv hv=>?_,?_⟩,?_⟩,?_⟩
 ·have hv:v∈s.s0.units++(s.s1.units.set k { u with harm:=h }):=hv;rcases List.mem_append.1 hv with hv|hv
  ·exact hM.un.1 v (List.mem_append_left _ hv)
  ·rcases Zb6 hv with hv|rfl; exact hM.un.1 v (List.mem_append_right _ hv); exact Xa7 (hM.un.1 u (List.mem_append_right _ hu)) h0 h1
 ·have e:(s.s0.units++(s.s1.units.set k { u with harm:=h })).map Th.id=(s.s0.units++s.s1.units).map Th.id:=by rw[List.map_append,List.map_append,hi]
  show ((s.s0.units++(s.s1.units.set k { u with harm:=h })).map Th.id).Nodup;rw[e]; exact hM.un.2
 ·refine Zbn hM.at_ ⟨hM.hd.2.2.1,hM.hd.2.2.2.1⟩ rfl rfl rfl (List.Sublist.refl _) (λa _ ha=>?_) (λa _ ha hn=>⟨?_,?_⟩)
  ·exact ha
  ·show a∈(s.s1.units.set k _).map Th.id; rw[hi]; exact ha
  ·exact hn
 ·simp[Zp]
theorem Xa0{b:Bk}{s:St}(hM:MayP b s){n:Int}(hw:wIn n=true):MayP b { s with s1:={ s.s1 with life:=n } }∧Zp { s with s1:={ s.s1 with life:=n } }=Zp s:=by
 have S:=hM.s1;exact⟨⟨hM.hd,hM.s0,⟨hw,S.mana,S.most,S.deck,S.hand,S.grave,S.told,S.units⟩,hM.un,hM.at_⟩,rfl⟩
theorem Qbx{b:Bk}{s:St}{kd id sd:Int}{fP:Int→Int×Int}{fU:Th→Int×Int}(hM:MayP b s)(hP:∀l,0≤(fP l).2)(hU:∀u,0≤u.harm→u.harm≤1000000→0≤(fU u).2∧(wIn (fU u).1=true→0≤(fU u).1))(h0:sd=0∨sd=1)(h:(chgF kd fP fU s id sd).2.2=0) :
  MayP b (chgF kd fP fU s id sd).1∧Zp (chgF kd fP fU s id sd).1=Zp s∧0≤(chgF kd fP fU s id sd).2.1.n:=by
 have z:∀(x:Int),x≠0→(zSt,zEv,x).2.2=0→False:=λx hx h=>hx h;unfold chgF at h ⊢;by_cases hid:id=0
 ·rw[if_pos hid] at h ⊢;unfold chgP at h ⊢;by_cases hw:wIn (fP (s.side sd).life).1=true
  ·rw[if_pos hw];rcases h0 with rfl|rfl
   ·exact⟨(Ya0 hM hw).1,(Ya0 hM hw).2,hP _⟩
   ·exact⟨(Xa0 hM hw).1,(Xa0 hM hw).2,hP _⟩
  ·rw[if_neg hw] at h; exact(z 171 (by decide) h).elim
 rw[if_neg hid] at h ⊢;by_cases hid2:id<0
 ·rw[if_pos hid2] at h; exact(z 4 (by decide) h).elim
 rw[if_neg hid2] at h ⊢;cases q0:fnd s.s0.units id with
 |some k=>
  obtain⟨u,hk,_⟩:=Zbf q0;rw[q0] at h;simp only[hk,Option.getD_some] at h ⊢;have hh:=QaM (hM.un.1 u (List.mem_append_left _ (List.mem_of_getElem? hk)));obtain⟨k1,k2⟩:=hU u hh.1 hh.2;unfold chgU at h ⊢;by_cases hw:wIn (fU u).1=true
  ·rw[if_pos hw];have:=YbX hM hk (k2 hw) (Yak.1 hw).2;exact⟨this.1,this.2,k1⟩
  ·rw[if_neg hw] at h; exact(z 171 (by decide) h).elim
 |none=>
  rw[q0] at h;cases q1:fnd s.s1.units id with
  |none=>rw[q1] at h; exact(z 4 (by decide) h).elim
  |some k=>
   obtain⟨u,hk,_⟩:=Zbf q1;rw[q1] at h;simp only[hk,Option.getD_some] at h ⊢;have hh:=QaM (hM.un.1 u (List.mem_append_right _ (List.mem_of_getElem? hk)));obtain⟨k1,k2⟩:=hU u hh.1 hh.2;unfold chgU at h ⊢;by_cases hw:wIn (fU u).1=true
   ·rw[if_pos hw];have:=XbX hM hk (k2 hw) (Yak.1 hw).2;exact⟨this.1,this.2,k1⟩
   ·rw[if_neg hw] at h; exact(z 171 (by decide) h).elim
theorem Qck{b:Bk}{s:St}{id sd n:Int}(hM:MayP b s)(h0:sd=0∨sd=1)(h:(harmF b s id sd n).2.2=0):MayP b (harmF b s id sd n).1∧Zp (harmF b s id sd n).1=Zp s∧0≤(harmF b s id sd n).2.1.n:=by
 refine Qbx hM (λl=>(Ycu n).1) (λu h1 h2=>?_) h0 h;have hh:0≤hurt b u (cap4 n)∧hurt b u (cap4 n)<9223372036854775808:=by
  unfold hurt;have:=Zdw (cap4 n-YaT b u.card);omega
 exact⟨hh.1,λhw=>Ycb (by omega) (by omega) hw⟩
theorem Ycl{b:Bk}{s:St}{id sd n:Int}(hM:MayP b s)(h0:sd=0∨sd=1)(h:(mendF s id sd n).2.2=0):MayP b (mendF s id sd n).1∧Zp (mendF s id sd n).1=Zp s∧0≤(mendF s id sd n).2.1.n:=by
 have hc:=Ycu n;refine Qbx hM (λl=>hc.1) (λu h1 h2=>?_) h0 h;exact⟨by show 0≤min (cap4 n) u.harm; omega,λhw=>Ycb (by omega) (by omega) hw⟩
end Go.Ah.Tz
end
section
namespace Go.Ah.Tz
open Go.Proofs.Tryz (prog)
attribute [local irreducible] Ans.rd Ans.pu Ans.wr Ans.dr Ans.gr Ans.gw Ans.gl Ans.gd Ans.opt joinK W
set_option maxHeartbeats 4000000
theorem w69(x:AVal)(τ:List ABlk)(K:AVal→List ABlk→Prop)(h:K (.func (.func 75) [x] []) τ):g74.u VV [x] τ K:=by
 rw[H1.e]; unfold g74; dsimp only;exact Za rfl h
theorem c70n(m:List AVal)(life n:Int):PC 75 [.rptr m 0,.nilp,iv life,iv n] (.tup [iv (IntKind.i64.wrap (life+n)),iv n]):=by
 refine Qb hP g75.ok rfl rfl ?_;rw[H4.e]; unfold g75; dsimp only;exact Za rfl (Yc (Za (Zl ..) rfl))
theorem c70u(b:Bk)(m:List AVal)(u:Th)(life n:Int):PC 75 [.rptr (.rptr (bkC b) 0::m) 0,.rptr (thC u) 0,iv life,iv n] (.tup [iv (IntKind.i64.wrap (u.harm-min n u.harm)),iv (min n u.harm)]):=by
 refine Qb hP g75.ok rfl rfl ?_;rw[H4.e]; unfold g75; dsimp only;exact Za rfl (Yd (Za rfl (Za rfl (Za (ldr rfl) (Za (XU ..) (Za rfl (Za rfl (Za (ldr rfl) (Za (ZaD ..) rfl)))))))))
theorem c26(b:Bk)(hf:bkFit b=true)(hsm:Yj b.cards)(s:St)(hs:StLe 2000000 s)(hm:mayR (bkR b).1 b s true=true)(id sd n:Int)(h0:sd=0∨sd=1):PC 48 [bkV b,stV s,iv id,iv sd,iv n] (resV (mendF s id sd n)):=
 cT hf hsm hs hm (show GQ 48 5 (gT 6 74) from g48.ok) g74.ok w69 g75.ok.plain id sd n h0 (λm life=>c70n m life _) (λm u life _ _=>c70u b m u life _)
def sizeN(s:St):Int:=s.attack.length+(s.s0.deck.length+s.s0.hand.length+s.s0.grave.length+s.s0.units.length+s.s0.told.length)+(s.s1.deck.length+s.s1.hand.length+s.s1.grave.length+s.s1.units.length+s.s1.told.length)
end Go.Ah.Tz
end
section
namespace Go.Ah.Tz
open Go.Proofs.Tryz (prog)
attribute [local irreducible] Ans.rd Ans.pu Ans.wr Ans.dr Ans.gr Ans.gw Ans.gl Ans.gd Ans.opt joinK W
set_option maxHeartbeats 8000000
def runF(go:Int→Bool)(step:Nat→Int→Int):Nat→Nat→Int→Int
 |0,_,a=>a
 |k+1,i,a=>if go a=true then runF go step k (i+1) (step i a) else a
theorem YaG{go:Int→Bool}{step:Nat→Int→Int}{n i:Nat}{a r:Int}(h:i<n)(hg:go a=true)(hr:runF go step (n-i) i a=r):runF go step (n-(i+1)) (i+1) (step i a)=r:=by
 rw[show n-i=n-(i+1)+1 by omega,runF,if_pos hg] at hr; exact hr
theorem Qam{go:Int→Bool}{step:Nat→Int→Int}{n i:Nat}{a r:Int}(h:¬i<n∨go a=false)(hr:runF go step (n-i) i a=r):a=r:=by
 cases k:n-i with
 |zero=>rw[k] at hr; exact hr
 |succ m=>
  rcases h with h|h
  ·omega
  ·rw[k,runF,if_neg (by rw[h]; simp)] at hr; exact hr
theorem c174(k:Nat):∀x:Nm,SizeOf.sizeOf x≤k→nmFit x=true→∃n,PC 23 [.agg (nmC x)] (iv n):=by
 induction k with
 |zero=>intro x h _; cases x; simp at h
 |succ k ih=>
  intro x hk hf;have hl:=Qa1 hf;rw[bigE] at hl;have hF:∃F:Nat→Int,∀i (h:i<x.kids.length),PC 23 [.agg (nmC x.kids[i])] (iv (F i)):=by
   refine Classical.axiomOfChoice (r:=λ(i:Nat) (n:Int)=>∀(h:i<x.kids.length),PC 23 [.agg (nmC x.kids[i])] (iv n)) (λi=>?_);by_cases h:i<x.kids.length
   ·have hm:=List.getElem_mem h;obtain⟨n,hn⟩:=ih x.kids[i] (by have:=Za2 hm; omega) (Q7 hf hm);exact⟨n,λ_=>hn⟩
   ·exact⟨0,λh'=>(h h').elim⟩
  obtain⟨F,hF⟩:=hF;rw[YG];generalize hr:runF (λ_=>true) (λi a=>min (IntKind.i64.wrap (a+F i)) 100000) (x.kids.length-0) 0 1=r;refine⟨r,Qb hP g23.ok rfl rfl ?_⟩;rw[H1.e]; unfold g23; dsimp only;refine Qa rfl rfl ?_;refine Xn (ι:=Nat) (λi vs σ=>(∃a,vs=[iv i,iv a]∧runF (λ_=>true) (λi a=>min (IntKind.i64.wrap (a+F i)) 100000) (x.kids.length-i) i a=r)∧hget σ 0=.box [iv8 x.op,iv x.n,iv8 x.who,.rsl false false 4 (x.kids.map nmC)]∧i≤x.kids.length) (λi=>x.kids.length-i) 0 ⟨⟨1,rfl,hr⟩,rfl,by omega⟩ ?_;rintro i vs σ again ⟨⟨a,rfl,hr⟩,hB,hi⟩ hag;refine Za rfl (Za (ld hB rfl) (Za (Qd ..) ?_));rw[List.length_map];refine Za (QL ..) (Zb (λh=>?_) (λh=>?_))
  ·have h:i<x.kids.length:=by simpa using h
   refine Za rfl (Za (ld hB rfl) (Za (Xw _ nmC false false 4 x.kids .i64 i h) (Za (v:=.agg (nmC x.kids[i])) (ldr (by rw[YG]; rfl)) ?_)));refine Zc (hF i h) rfl g23.ok.plain (by rw[YG]; rfl) (Za (Zl ..) (Za (XU ..) (Za (Zl ..) ?_)));rw[Zg (n:=i) (by omega)];exact hag (i+1) _ _ (by omega) ⟨⟨_,rfl,YaG h rfl hr⟩,hB,by omega⟩
  ·exact congrArg iv (Qam (.inl (by simpa using h)) hr)
theorem c175(k:Nat):∀x:Cn,SizeOf.sizeOf x≤k→cnFit x=true→∃n,PC 24 [.agg (cnC x)] (iv n):=by
 induction k with
 |zero=>intro x h _; cases x; simp at h
 |succ k ih=>
  intro x hk hf;have hl1:=Zal hf;have hl2:=Qak hf;rw[bigE] at hl1 hl2;have hF:∃F:Nat→Int,∀i (h:i<x.nums.length),PC 23 [.agg (nmC x.nums[i])] (iv (F i)):=by
   refine Classical.axiomOfChoice (r:=λ(i:Nat) (n:Int)=>∀(h:i<x.nums.length),PC 23 [.agg (nmC x.nums[i])] (iv n)) (λi=>?_);by_cases h:i<x.nums.length
   ·obtain⟨n,hn⟩:=c174 _ x.nums[i] (Nat.le_refl _) (Qaf hf (List.getElem_mem h));exact⟨n,λ_=>hn⟩
   ·exact⟨0,λh'=>(h h').elim⟩
  have hG:∃F:Nat→Int,∀i (h:i<x.kids.length),PC 24 [.agg (cnC x.kids[i])] (iv (F i)):=by
   refine Classical.axiomOfChoice (r:=λ(i:Nat) (n:Int)=>∀(h:i<x.kids.length),PC 24 [.agg (cnC x.kids[i])] (iv n)) (λi=>?_);by_cases h:i<x.kids.length
   ·have hm:=List.getElem_mem h;obtain⟨n,hn⟩:=ih x.kids[i] (by have:=Xbn hm; omega) (Xaf hf hm);exact⟨n,λ_=>hn⟩
   ·exact⟨0,λh'=>(h h').elim⟩
  obtain⟨F,hF⟩:=hF;obtain⟨G,hG⟩:=hG;rw[YS];generalize hr:runF (λ_=>true) (λi a=>min (IntKind.i64.wrap (a+F i)) 100000) (x.nums.length-0) 0 1=r;generalize hr2:runF (λ_=>true) (λi a=>min (IntKind.i64.wrap (a+G i)) 100000) (x.kids.length-0) 0 r=r2;refine⟨r2,Qb hP g24.ok rfl rfl ?_⟩;rw[H1.e]; unfold g24; dsimp only;refine Qa rfl rfl ?_;refine Xn (ι:=Nat) (λi vs σ=>(∃a,vs=[iv i,iv a]∧runF (λ_=>true) (λi a=>min (IntKind.i64.wrap (a+F i)) 100000) (x.nums.length-i) i a=r)∧hget σ 0=.box [iv8 x.op,iv8 x.who,.str x.name,.rsl false false 4 (x.nums.map nmC),.rsl false false 5 (x.kids.map cnC)]∧i≤x.nums.length) (λi=>x.nums.length-i) 0 ⟨⟨1,rfl,hr⟩,rfl,by omega⟩ ?_;rintro i vs σ again ⟨⟨a,rfl,hr⟩,hB,hi⟩ hag;refine Za rfl (Za (ld hB rfl) (Za (Qd ..) ?_));rw[List.length_map];refine Za (QL ..) (Zb (λh=>?_) (λh=>?_))
  ·have h:i<x.nums.length:=by simpa using h
   refine Za rfl (Za (ld hB rfl) (Za (Xw _ nmC false false 4 x.nums .i64 i h) (Za (v:=.agg (nmC x.nums[i])) (ldr (by rw[YG]; rfl)) ?_)));refine Zc (hF i h) rfl g23.ok.plain (by rw[YG]; rfl) (Za (Zl ..) (Za (XU ..) (Za (Zl ..) ?_)));rw[Zg (n:=i) (by omega)];exact hag (i+1) _ _ (by omega) ⟨⟨_,rfl,YaG h rfl hr⟩,hB,by omega⟩
  obtain rfl:=Qam (.inl (by simpa using h)) hr;clear hag again hr h hi;refine Xn (ι:=Nat) (λi vs σ=>(∃a,vs=[iv i,iv a]∧runF (λ_=>true) (λi a=>min (IntKind.i64.wrap (a+G i)) 100000) (x.kids.length-i) i a=r2)∧hget σ 0=.box [iv8 x.op,iv8 x.who,.str x.name,.rsl false false 4 (x.nums.map nmC),.rsl false false 5 (x.kids.map cnC)]∧i≤x.kids.length) (λi=>x.kids.length-i) 0 ⟨⟨_,rfl,hr2⟩,hB,by omega⟩ ?_;rintro i vs σ again ⟨⟨a,rfl,hr⟩,hB,hi⟩ hag;refine Za rfl (Za (ld hB rfl) (Za (Qd ..) ?_));rw[List.length_map];refine Za (QL ..) (Zb (λh=>?_) (λh=>?_))
  ·have h:i<x.kids.length:=by simpa using h
   refine Za rfl (Za (ld hB rfl) (Za (Xw _ cnC false false 5 x.kids .i64 i h) (Za (v:=.agg (cnC x.kids[i])) (ldr (by rw[YS]; rfl)) ?_)));refine Zc (hG i h) rfl g24.ok.plain (by rw[YS]; rfl) (Za (Zl ..) (Za (XU ..) (Za (Zl ..) ?_)));rw[Zg (n:=i) (by omega)];exact hag (i+1) _ _ (by omega) ⟨⟨_,rfl,YaG h rfl hr⟩,hB,by omega⟩
  ·exact congrArg iv (Qam (.inl (by simpa using h)) hr)
theorem told{α:Type}(l:List α){Q:α→Int→Prop}(h:∀x∈l,∃n,Q x n):∃F:Nat→Int,∀i (h:i<l.length),Q l[i] (F i):=by
 refine Classical.axiomOfChoice (r:=λ(i:Nat) (n:Int)=>∀(h:i<l.length),Q l[i] n) (λi=>?_);by_cases hi:i<l.length
 ·obtain⟨n,hn⟩:=h l[i] (List.getElem_mem hi);exact⟨n,λ_=>hn⟩
 ·exact⟨0,λh'=>(hi h').elim⟩
theorem c135(k:Nat):∀l:List Ef,SizeOf.sizeOf l≤k→lsFit l=true→∃n,PC 12 [efV l] (iv n):=by
 induction k with
 |zero=>intro l h _; cases l<;>simp at h
 |succ k ih=>
  intro l hk hf;have hl:=YM hf;rw[bigE] at hl;have hm:∀x∈l,efFit x=true∧SizeOf.sizeOf x<SizeOf.sizeOf l:=λx hx=>⟨by simp only[lsFit,Bool.and_eq_true] at hf; exact QaD hf.2 x hx,List.sizeOf_lt_of_mem hx⟩;obtain⟨F1,h1⟩:=told l (Q:=λx n=>PC 23 [.agg (nmC x.n)] (iv n)) (λx hx=>c174 _ x.n (Nat.le_refl _) (YaD (hm x hx).1));obtain⟨F2,h2⟩:=told l (Q:=λx n=>PC 24 [.agg (cnC x.c)] (iv n)) (λx hx=>c175 _ x.c (Nat.le_refl _) (Xaq (hm x hx).1));obtain⟨F3,h3⟩:=told l (Q:=λx n=>PC 12 [efV x.thn] (iv n)) (λx hx=>ih x.thn (by have:=(XaQ x).1; have:=(hm x hx).2; omega) (Y0 (hm x hx).1));obtain⟨F4,h4⟩:=told l (Q:=λx n=>PC 12 [efV x.els] (iv n)) (λx hx=>ih x.els (by have:=(XaQ x).2; have:=(hm x hx).2; omega) (Z0 (hm x hx).1))
  let st:Nat→Int→Int:=λi a=>IntKind.i64.wrap (IntKind.i64.wrap (IntKind.i64.wrap (IntKind.i64.wrap (a+F1 i)+F2 i)+F3 i)+F4 i)
  generalize hr:runF (λa=>decide (a<100000)) st (l.length-0) 0 l.length=r;refine⟨min r 100000,Qb hP g12.ok rfl rfl ?_⟩;rw[H1.e]; unfold g12; dsimp only;refine Za (Qd ..) ?_;rw[List.length_map];refine Xn (ι:=Nat) (λi vs σ=>(∃a,vs=[iv i,iv a]∧runF (λa=>decide (a<100000)) st (l.length-i) i a=r)∧i≤l.length) (λi=>l.length-i) 0 ⟨⟨_,rfl,hr⟩,by omega⟩ ?_;rintro i vs σ again ⟨⟨a,rfl,hr⟩,hi⟩ hag;refine Za (Qd ..) ?_;rw[List.length_map];refine Za (QL ..) (QcT (λ_=>rfl) (λ_=>QL ..) (Zb (λh=>?_) (λh=>?_)))
  ·simp only[Bool.and_eq_true,decide_eq_true_eq] at h;obtain⟨h,hlt⟩:=h;have h:i<l.length:=by omega
   have hix:=λσ=>Xw σ efC false false 14 l .i64 i h
   replace h1:=h1 i h
   replace h2:=h2 i h
   replace h3:=h3 i h
   replace h4:=h4 i h
   have hR:=YaG h (decide_eq_true hlt) hr;generalize l[i]=x at hix h1 h2 h3 h4;refine Zd (hix _) (Yg _) (Xb rfl (Zd (ldr (efLdN x)) (Yg _) (Xe h1 rfl g23.ok.plain (by rw[YG]; rfl) (Xb (Zl ..) ?_))));refine Zd (hix _) (Yg _) (Xb rfl (Zd (ldr (efLdC x)) (Yg _) (Xe h2 rfl g24.ok.plain (by rw[YS]; rfl) (Xb (Zl ..) ?_))));refine Zd (hix _) (Yg _) (Xb rfl (Zd (ldr (Zq x)) (Yg _) (Xe h3 rfl g12.ok.plain rfl (Xb (Zl ..) ?_))));refine Zd (hix _) (Yg _) (Xb rfl (Zd (ldr (Yq x)) (Yg _) (Xe h4 rfl g12.ok.plain rfl (Xb (Zl ..) (Yn (YY (by simp[allRd])) ?_)))));refine Za (Zl ..) ?_;rw[Zg (n:=i) (by omega)];exact hag (i+1) _ _ (by omega) ⟨⟨_,rfl,hR⟩,by omega⟩
  ·refine Za (XU ..) (congrArg iv ?_);rw[Qam (a:=a) ?_ hr];simp only[Bool.and_eq_false_iff,decide_eq_false_iff_not] at h;rcases h with h|h
   ·exact .inl (by omega)
   ·exact .inr (decide_eq_false h)
theorem c133(b:Bk)(hf:bkFit b=true):∃q:Bool,PC 10 [bkV b] (.bool q):=by
 simp only[bkFit,QN,Bool.and_eq_true,decide_eq_true_eq] at hf;obtain⟨⟨f0,f3⟩,f1,f2⟩:=hf;rw[bigE] at f0 f1;have hm:∀x∈b.cards,lsFit x.played=true∧lsFit x.dead=true∧lsFit x.dawn=true:=λx hx=>by
  have:=List.all_eq_true.1 f3 x hx;simp only[cdFit,Bool.and_eq_true] at this;exact⟨this.2.1,this.2.2.1,this.2.2.2⟩
 obtain⟨F1,h1⟩:=told b.cards (Q:=λx n=>PC 12 [efV x.played] (iv n)) (λx hx=>c135 _ _ (Nat.le_refl _) (hm x hx).1);obtain⟨F2,h2⟩:=told b.cards (Q:=λx n=>PC 12 [efV x.dead] (iv n)) (λx hx=>c135 _ _ (Nat.le_refl _) (hm x hx).2.1);obtain⟨F3,h3⟩:=told b.cards (Q:=λx n=>PC 12 [efV x.dawn] (iv n)) (λx hx=>c135 _ _ (Nat.le_refl _) (hm x hx).2.2)
 let st:Nat→Int→Int:=λi a=>IntKind.i64.wrap (IntKind.i64.wrap (IntKind.i64.wrap (a+F1 i)+F2 i)+F3 i)
 let st2:Nat→Int→Int:=λi a=>IntKind.i64.wrap (IntKind.i64.wrap (a+((b.formats[i]?).map λf=>(f.banned.length:Int)).getD 0)+((b.formats[i]?).map λf=>(f.single.length:Int)).getD 0)
 generalize hr:runF (λa=>decide (a≤6000)) st (b.cards.length-0) 0 (IntKind.i64.wrap (b.cards.length+b.formats.length))=r;generalize hr2:runF (λa=>decide (a≤6000)) st2 (b.formats.length-0) 0 r=r2;refine⟨decide (r2>6000),Qb hP g10.ok rfl rfl ?_⟩;rw[H1.e]; unfold g10; dsimp only;refine Qa (v:=.bptr 0 0) (rd:=[]) (up:=[(0,.box (bkC b))]) rfl rfl ?_;have lc:∀σ,Qp [cdV b.cards] σ=.ok (iv b.cards.length) [] []:=λσ=>by rw[Qd,List.length_map]
 have lf:∀σ,Qp [foV b.formats] σ=.ok (iv b.formats.length) [] []:=λσ=>by rw[Qd,List.length_map]
 refine Za rfl (Za rfl (Za (lc _) (Za rfl (Za rfl (Za (lf _) (Za (Zl ..) ?_))))));refine Xn (ι:=Nat) (λi vs σ=>(∃a,vs=[iv i,iv a]∧runF (λa=>decide (a≤6000)) st (b.cards.length-i) i a=r)∧hget σ 0=.box (bkC b)∧i≤b.cards.length) (λi=>b.cards.length-i) 0 ⟨⟨_,rfl,hr⟩,rfl,by omega⟩ ?_;rintro i vs σ again ⟨⟨a,rfl,hr⟩,hB,hi⟩ hag;refine Za rfl (Za (ld hB rfl) (Za (lc _) (Za (QL ..) (QcT (λ_=>rfl) (λ_=>QcB ..) (Zb (λh=>?_) (λh=>?_))))))
 ·simp only[Bool.and_eq_true,decide_eq_true_eq] at h;obtain⟨h,hlt⟩:=h;have h:i<b.cards.length:=by omega
  have hix:=Xw σ cdC false false 12 b.cards .i64 i h
  replace h1:=h1 i h
  replace h2:=h2 i h
  replace h3:=h3 i h
  have hR:=YaG h (decide_eq_true hlt) hr;generalize b.cards[i]=x at hix h1 h2 h3;refine Za rfl (Za (ld hB rfl) (Za hix (Za (ldr (cdLd x)) (XG (row:=cdC x) (row':=cdC x) rfl rfl rfl ?_))));have hx:=Zf σ (.box (cdC x));refine Xb rfl (Zd (ld hx rfl) (Yg _) (Xe h1 rfl g12.ok.plain rfl (Xb (Zl ..) ?_)));refine Xb rfl (Zd (ld hx rfl) (Yg _) (Xe h2 rfl g12.ok.plain rfl (Xb (Zl ..) ?_)));refine Xb rfl (Zd (ld hx rfl) (Yg _) (Xe h3 rfl g12.ok.plain rfl (Xb (Zl ..) (Yn (YY (by simp[allRd])) ?_))));refine Za (Zl ..) ?_;rw[Zg (n:=i) (by omega)];exact hag (i+1) _ _ (by omega) ⟨⟨_,rfl,hR⟩,Ze _ hB (by simp),by omega⟩
 obtain rfl:=Qam (a:=a) (by
  simp only[Bool.and_eq_false_iff,decide_eq_false_iff_not] at h;rcases h with h|h
  ·exact .inl (by omega)
  ·exact .inr (decide_eq_false h)) hr
 clear hag again hr h hi;refine Xn (ι:=Nat) (λi vs σ=>(∃a,vs=[iv i,iv a]∧runF (λa=>decide (a≤6000)) st2 (b.formats.length-i) i a=r2)∧hget σ 0=.box (bkC b)∧i≤b.formats.length) (λi=>b.formats.length-i) 0 ⟨⟨_,rfl,hr2⟩,hB,by omega⟩ ?_;rintro i vs σ again ⟨⟨a,rfl,hr⟩,hB,hi⟩ hag;refine Za rfl (Za (ld hB rfl) (Za (lf _) (Za (QL ..) (QcT (λ_=>rfl) (λ_=>QcB ..) (Zb (λh=>?_) (λh=>?_))))))
 ·simp only[Bool.and_eq_true,decide_eq_true_eq] at h;obtain⟨h,hlt⟩:=h;have h:i<b.formats.length:=by omega
  have hix:=Xw σ foC false false 7 b.formats .i64 i h;have hR:=YaG h (decide_eq_true hlt) hr;have e:b.formats[i]?=some b.formats[i]:=by simp[h]
  simp only[st2,e,Option.map_some,Option.getD_some] at hR;generalize b.formats[i]=f at hix hR;refine Za rfl (Za (ld hB rfl) (Za hix (Za rfl (Za (v:=txV f.banned) (rd:=[]) (ldr rfl) (Za (v:=iv f.banned.length) (rd:=[]) (by simp[Qd]) (Za (Zl ..) ?_))))));refine Za rfl (Za (ld hB rfl) (Za hix (Za rfl (Za (v:=txV f.single) (rd:=[]) (ldr rfl) (Za (v:=iv f.single.length) (rd:=[]) (by simp[Qd]) (Za (Zl ..) ?_))))));refine Za (Zl ..) ?_;rw[Zg (n:=i) (by omega)];exact hag (i+1) _ _ (by omega) ⟨⟨_,rfl,hR⟩,hB,by omega⟩
 obtain rfl:=Qam (a:=a) (by
  simp only[Bool.and_eq_false_iff,decide_eq_false_iff_not] at h;rcases h with h|h
  ·exact .inl (by omega)
  ·exact .inr (decide_eq_false h)) hr
 exact Za (Z5 ..) rfl
end Go.Ah.Tz
end
section
namespace Go.Ah.Tz
open Go.Proofs.Tryz (prog)
attribute [local irreducible] Ans.rd Ans.pu Ans.wr Ans.dr Ans.gr Ans.gw Ans.gl Ans.gd Ans.opt joinK W
set_option maxHeartbeats 4000000
theorem c55(b:Bk)(hf:bkFit b=true)(hsm:Yj b.cards)(s:St)(hs:StLe 1000000000 s):PC 16 [bkV b,stV s] (iv (bif mayR (bkR b).1 b s false then 0 else 170)):=by
 refine Qb hP g16.ok rfl rfl ?_;rw[H2.e]; unfold g16; dsimp only;refine Qa (v:=.bptr 0 0) (rd:=[]) (up:=[(0,.box (bkC b))]) rfl rfl ?_;refine Qa (v:=.bptr 1 0) (rd:=[]) (up:=[(1,.box (stC s))]) rfl rfl ?_;refine Xy (rd:=[0,1]) (c111 b hf hsm s hs false) rfl g25.ok.plain (.cons (Bor.box (row:=bkC b) rfl (by simp) (BorL.ro rfl)) <| .cons (Bor.box (row:=stC s) rfl (by simp) (BorL.ro rfl)) <| .cons (Bor.ro rfl) .nil) rfl ?_;generalize mayR (bkR b).1 b s false=q;cases q with
 |true=>exact Za rfl (Yc rfl)
 |false=>exact Za rfl (Yd rfl)
end Go.Ah.Tz
end
section
namespace Go.Ah.Tz
open Go.Proofs.Tryz (prog)
theorem Zcr(s:St)(id:Int):(∃k:Nat,∃u,unitR s id=(0,(k:Int),true)∧s.s0.units[k]?=some u)∨(∃k:Nat,∃u,unitR s id=(1,(k:Int),true)∧s.s1.units[k]?=some u)∨unitR s id=(0,0,false):=by
 unfold unitR;cases q0:fnd s.s0.units id with
 |some k=>obtain⟨u,hk,_⟩:=Zbf q0; exact .inl ⟨k,u,rfl,hk⟩
 |none=>
  cases q1:fnd s.s1.units id with
  |some k=>obtain⟨u,hk,_⟩:=Zbf q1; exact .inr (.inl ⟨k,u,rfl,hk⟩)
  |none=>exact .inr (.inr rfl)
end Go.Ah.Tz
end
section
namespace Go.Ah
open Go.Sort (Holds putRow grow putCells)
theorem Qc1{row:List AVal}(h:row.all AVal.cell=true):cellsOf (.agg row)=some row:=by simp[cellsOf,h]
theorem Zdf{row:List AVal}(h:row.all AVal.cell=true)(σ:List ABlk):Xac [.agg row] σ=.ok (.bptr σ.length 0) [] [(σ.length,.box row)]:=by rw[e_box,Qc1 h]
end Go.Ah
end
section
namespace Go.Ah.Tz
open Go.Proofs.Tryz (prog)
attribute [local irreducible] Ans.rd Ans.pu Ans.wr Ans.dr Ans.gr Ans.gw Ans.gl Ans.gd Ans.opt joinK W
set_option maxHeartbeats 8000000
def sameN(a b:Ev):Bool:=((((decide (a.kind=b.kind)&&decide (a.side=b.side))&&decide (a.card=b.card))&&decide (a.id=b.id))&&decide (a.other=b.other))&&decide (a.n=b.n)
theorem c99(a b:Ev){x y:AVal}(hx:x.cell=true)(hy:y.cell=true)(hr:x.ro=true)(hr2:y.ro=true){q:Bool}(h62:∀(σ:List ABlk) (k:AVal→List ABlk→Prop),k (.bool q) σ→VV.call (.call 20) [x,y] σ k) :
  PC 22 [.agg [iv8 a.kind,iv a.side,iv a.card,iv a.id,iv a.other,iv a.n,x],.agg [iv8 b.kind,iv b.side,iv b.card,iv b.id,iv b.other,iv b.n,y]] (.bool (sameN a b&&q)):=by
 refine Qb hP g22.ok rfl rfl ?_;rw[H2.e]; unfold g22; dsimp only;have h0:hget ([]++[ABlk.box [iv8 a.kind,iv a.side,iv a.card,iv a.id,iv a.other,iv a.n,x]]++[ABlk.box [iv8 b.kind,iv b.side,iv b.card,iv b.id,iv b.other,iv b.n,y]]) 0=.box [iv8 a.kind,iv a.side,iv a.card,iv a.id,iv a.other,iv a.n,x]:=rfl;have h1:hget ([]++[ABlk.box [iv8 a.kind,iv a.side,iv a.card,iv a.id,iv a.other,iv a.n,x]]++[ABlk.box [iv8 b.kind,iv b.side,iv b.card,iv b.id,iv b.other,iv b.n,y]]) 1=.box [iv8 b.kind,iv b.side,iv b.card,iv b.id,iv b.other,iv b.n,y]:=rfl;have hcl:∀(e:Ev) {z:AVal},z.cell=true→[iv8 e.kind,iv e.side,iv e.card,iv e.id,iv e.other,iv e.n,z].all AVal.cell=true:=λe z hz=>by
  show (true&&(true&&(true&&(true&&(true&&(true&&(z.cell&&true)))))))=true;rw[hz]; rfl
 refine Qa (Zdf (hcl a hx) []) (Yk _ _) ?_;refine Qa (Zdf (hcl b hy) _) (Yk _ _) ?_;refine Za rfl (Za rfl (Za rfl (Za rfl (Za (Yf ..) ?_))));refine YbL (λ_=>rfl) (λ_=>rfl) (λ_=>rfl) (λ_=>rfl) (λ_=>Yf ..) ?_;refine YbL (λ_=>rfl) (λ_=>rfl) (λ_=>rfl) (λ_=>rfl) (λ_=>Yf ..) ?_;refine YbL (λ_=>rfl) (λ_=>rfl) (λ_=>rfl) (λ_=>rfl) (λ_=>Yf ..) ?_;refine YbL (λ_=>rfl) (λ_=>rfl) (λ_=>rfl) (λ_=>rfl) (λ_=>Yf ..) ?_;refine YbL (λ_=>rfl) (λ_=>rfl) (λ_=>rfl) (λ_=>rfl) (λ_=>Yf ..) ?_;exact ZcU (v2:=x) (v4:=y) (λ_=>rfl) (λ_=>rfl) (λ_=>rfl) (λ_=>rfl) (λ_ k hk=>h62 _ _ hk) rfl
theorem Ycn(a:Ev):sameN a a=true:=by simp[sameN]
theorem c47{rows:List (List AVal)}(hl:rows.length≤1000000000)(h:∀r∈rows,r.length=7∧roL r=true∧PC 22 [.agg r,.agg r] (.bool true)):PC 9 [.rsl false false 7 rows,.rsl false false 7 rows] (.bool true):=by
 refine Qb hP g9.ok rfl rfl ?_;rw[H2.e]; unfold g9; dsimp only;refine Za (Qd ..) (Za (Qd ..) (Za (XS ..) ?_));rw[decide_eq_false (show ¬((rows.length:Int)≠rows.length) by simp)];refine Yc ?_;refine Xn (ι:=Nat) (λi vs _=>vs=[iv i]∧i≤rows.length) (λi=>rows.length-i) 0 ⟨rfl,by omega⟩ ?_;rintro i vs σ again ⟨rfl,hi⟩ hag;refine Za (Qd ..) (Za (QL ..) (Zb (λhlt=>?_) (λ_=>rfl)));have hlt:i<rows.length:=by simpa using hlt
 obtain⟨q1,q2,q3⟩:=h rows[i] (List.getElem_mem hlt);have hix:=ZdC σ false false 7 rows .i64 i rows[i] (by simp[hlt]);generalize rows[i]=r at hix q1 q2 q3;have hp:partA true 0 7 r=some (.agg r):=by
  match r,q1 with
  |[a,b,c,d,e,f,g],_=>rfl
 refine Zd hix (Yg _) (Zd (ldr hp) (Yg _) (Zd hix (Yg _) (Zd (ldr hp) (Yg _) ?_)));refine Xe q3 rfl g22.ok.plain (by simp[roL,AVal.ro,q2]) (Xb rfl (Yn (YY (by simp[allRd])) (Yc (Za (Zl ..) ?_))));rw[Zg (n:=i) (by omega)];exact hag (i+1) _ _ (by omega) ⟨rfl,by omega⟩
end Go.Ah.Tz
end
section
namespace Go.Ah.Tz
open Go.Proofs.Tryz (prog)
def QbK(s:St)(side:Int):Sd:=if side=0 then s.s0 else s.s1
structure CP (τ:List ABlk) (n:Nat) (t:St):Prop where
 box:hget τ (n+11)=.box (stO t n)
 key:∀i x,(stB t)[i]?=some x→hget τ (n+i)=x
def ubk(side:Int):Nat:=if side=0 then 4 else 9
def uof(side:Int):Nat:=if side=0 then 7 else 15
theorem CP.units{τ:List ABlk}{n:Nat}{t:St}(h:CP τ n t){side:Int}(hs:side=0∨side=1):hget τ (n+ubk side)=.rows 4 ((QbK t side).units.map thC)∧(∀σ,Qt 2 8 [.bptr (n+11) (0+7),iv side] σ=.ok (.bptr (n+11) (uof side)) [] []) ∧
  partA false (uof side+6) 1 (stO t n)=some (.sl (n+ubk side) 0 (QbK t side).units.length false):=by
 rcases hs with rfl|rfl
 ·exact⟨h.key 4 _ rfl,λ_=>rfl,rfl⟩
 ·exact⟨h.key 9 _ rfl,λ_=>rfl,rfl⟩
end Go.Ah.Tz
end
section
namespace Go.Ah.Tz
open Go.Proofs.Tryz (prog)
attribute [local irreducible] Ans.rd Ans.pu Ans.wr Ans.dr Ans.gr Ans.gw Ans.gl Ans.gd Ans.opt joinK W
set_option maxHeartbeats 8000000
theorem Gr.set{σ τ:List ABlk}{n k:Nat}{rows:List (List AVal)}{v:AVal}(h:Gr σ n rows k v τ){c:Nat}(hc:c<σ.length)(x:ABlk):Gr (σ.set c x) n rows k v (τ.set c x):=by
 obtain⟨h1,h2,h3⟩:=h;refine⟨by simpa using h1,λd hd=>?_,?_⟩
 ·have hd':d<σ.length:=by simpa using hd
  by_cases e:d=c
  ·subst e; rw[Xf _ (by omega),Xf _ hc]
  ·rw[Xd _ (by omega) e,Xd _ hd' e]; exact h2 d hd'
 ·rcases h3 with h3|⟨q1,b,q2,q3,q4,q5⟩
  ·exact .inl h3
  ·exact .inr ⟨q1,b,by simpa using q2,q3,Qe q4 (by simp) (by omega),q5⟩
end Go.Ah.Tz
end
section
namespace Go.Ah.Tz
open Go.Proofs.Tryz (prog)
def powId(b:Bk)(s:St)(id:Int):Int×Int:=if (unitR s id).2.2 then powF b (QbK s (unitR s id).1).units (unitR s id).2.1 else (0,0)
def powV(b:Bk)(s:St)(id:Int):AVal:=.tup [iv (powId b s id).1,iv (powId b s id).2,.bool (unitR s id).2.2]
attribute [local irreducible] Ans.rd Ans.pu Ans.wr Ans.dr Ans.gr Ans.gw Ans.gl Ans.gd Ans.opt joinK W
set_option maxHeartbeats 8000000
theorem c54(b:Bk)(hf:bkFit b=true)(hsm:Yj b.cards)(s:St)(hs:StLe 1000000000 s)(hm:mayR (bkR b).1 b s true=true)(id:Int):PC 160 [bkV b,stV s,iv id] (powV b s id):=by
 refine Qb hP g160.ok rfl rfl ?_;rw[H3.e]; unfold g160; dsimp only;refine Qa (v:=.bptr 0 0) (rd:=[]) (up:=[(0,.box (bkC b))]) rfl rfl ?_;refine Qa (v:=.bptr 1 0) (rd:=[]) (up:=[(1,.box (stC s))]) rfl rfl ?_;refine c56n b hf hsm s hs (n0:=2) (n:=13) rfl rfl rfl rfl (λh=>by rw[hm] at h; cases h) (λ_=>?_);refine Za rfl (Yc (Za (ld (row:=stC s) rfl rfl) (Zc (c71 s hs id) rfl g98.ok.plain rfl (Za rfl (Za rfl (Za rfl (Za rfl ?_)))))));rcases Zcr s id with ⟨k,u,hu,hk⟩|⟨k,u,hu,hk⟩|hu
 ·have e:powV b s id=.tup [iv (powF b s.s0.units k).1,iv (powF b s.s0.units k).2,.bool true]:=by simp[powV,powId,hu,QbK]
  rw[e,hu];refine Yc ?_;refine Xy (rd:=[0,2,3,4,5,6,7,8,9,10,11,12,13]) (c75_0 b s hs.s0.units (YbF hm) k) rfl g166.ok.plain (.cons (Bor.box (row:=mv2 s) rfl (by decide) (.cons (Bor.box (row:=bkC b) rfl (by decide) (BorL.ro rfl)) ?_)) <| .cons (Bor.ro rfl) <| .cons (Bor.ro rfl) .nil) rfl ?_
  ·exact SB.mk (s:=s) (RI.own rfl (by decide) rfl) (RI.own rfl (by decide) rfl) (RI.own rfl (by decide) rfl) (RI.own rfl (by decide) rfl) (RT.own rfl (by decide) rfl) (RI.own rfl (by decide) rfl) (RI.own rfl (by decide) rfl) (RI.own rfl (by decide) rfl) (RI.own rfl (by decide) rfl) (RT.own rfl (by decide) rfl) (RI.own rfl (by decide) rfl)
  exact Za rfl (Za rfl rfl)
 ·have e:powV b s id=.tup [iv (powF b s.s1.units k).1,iv (powF b s.s1.units k).2,.bool true]:=by simp[powV,powId,hu,QbK]
  rw[e,hu];refine Yc ?_;refine Xy (rd:=[0,2,3,4,5,6,7,8,9,10,11,12,13]) (c75_1 b s hs.s1.units (XbF hm) k) rfl g166.ok.plain (.cons (Bor.box (row:=mv2 s) rfl (by decide) (.cons (Bor.box (row:=bkC b) rfl (by decide) (BorL.ro rfl)) ?_)) <| .cons (Bor.ro rfl) <| .cons (Bor.ro rfl) .nil) rfl ?_
  ·exact SB.mk (s:=s) (RI.own rfl (by decide) rfl) (RI.own rfl (by decide) rfl) (RI.own rfl (by decide) rfl) (RI.own rfl (by decide) rfl) (RT.own rfl (by decide) rfl) (RI.own rfl (by decide) rfl) (RI.own rfl (by decide) rfl) (RI.own rfl (by decide) rfl) (RI.own rfl (by decide) rfl) (RT.own rfl (by decide) rfl) (RI.own rfl (by decide) rfl)
  exact Za rfl (Za rfl rfl)
 ·have e:powV b s id=.tup [iv 0,iv 0,.bool false]:=by simp[powV,powId,hu]
  rw[e,hu];exact Yd rfl
end Go.Ah.Tz
end
section
namespace Go.Ah
def layD(D:List Deferred)(a:Act):Act:={ a with defers:=a.defers++D }
section
variable {P:Program}
theorem Yab(D:List Deferred)(a:Act)(d:Option Nat)(v:Value):(layD D a).put d v=layD D (a.put d v):=by
 cases d<;>rfl
theorem Za0(D:List Deferred)(a:Act):(layD D a).eval=a.eval:=by
 funext x; cases x<;>rfl
theorem Ya8{ops:Array Oper}{Q Q':Exit→Act→World→Prop}(D:List Deferred)(l2:List Nat)(hn:∀a w,Q .normal a w→wpOps P ops Q' l2 (layD D a) w)(hq:∀e a w,e≠.normal→Q e a w→Q' e (layD D a) w) :
  ∀(l:List Nat) (a:Act) (w:World),wpOps P ops Q l a w→wpOps P ops Q' (l++l2) (layD D a) w
 |[],a,w,h=>hn _ _ h
 |i::rest,a,w,h=>by
  have hout:LetsOut Q→LetsOut Q':=λ⟨a,w,q⟩=>⟨_,w,hq _ _ _ (by simp) q⟩;have ih:=Ya8 D l2 hn hq rest;simp only[List.cons_append,wpOps] at h ⊢;cases ho:ops[i]? with
  |none=>simp only[ho] at h ⊢; exact ih _ _ h
  |some o=>
   simp only[ho] at h ⊢;have ht:(layD D a).tmps=a.tmps:=rfl;rw[ht];split
   ·rename_i hw;rw[if_pos hw] at h;rcases h with h|⟨h1,h2⟩
    ·left;unfold Oper.wp at h ⊢;rw[Za0];generalize (execOp a.eval o).run P w=r at h ⊢;cases r with
     |ok nx w'=>
      cases nx with
      |value v=>simp only[Oper.upon] at h ⊢; rw[Yab]; exact ih _ _ h
      |skip=>simp only[Oper.upon] at h ⊢; rw[Yab]; exact ih _ _ h
      |defer d=>
       simp only[Oper.upon] at h ⊢;rw[show ({ layD D a with defers:=d::(layD D a).defers }:Act)=layD D { a with defers:=d::a.defers } from rfl,Yab];exact ih _ _ h
      |enter f args=>
       simp only[Oper.upon] at h ⊢;refine Calls.mono h (λe w'' k=>?_);cases e with
       |returned v=>simp only at k ⊢; rw[Yab]; exact ih _ _ k
       |panicked c=>exact hq _ _ _ (by simp) k
       |outgrown=>exact hout k
      |row row args=>
       simp only[Oper.upon] at h ⊢;refine Rows.mono h (λv w'' k=>?_);rw[Yab]; exact ih _ _ k
      |_=>exact h.elim
     |halt hh w'=>
      cases hh with
      |panic v=>exact hq _ _ _ (by simp) h
      |_=>exact h.elim
    ·right;refine⟨?_,hout h2⟩;unfold Oper.asks at h1 ⊢;rw[Za0]; exact h1
   ·rename_i hw; rw[if_neg hw] at h; rw[Yab]; exact ih _ _ h
end
section
variable {P:Program} {GL:Globs}
theorem XaO{n:Nat}{c1 c2:Code}{m1:MCode}(hc:CodeOk P GL n c1 m1){w0:World}{L:Ln}{g:Gm}{ρ:Frame}{σ:List ABlk}{a:Act}{w:World}(r:Rep GL w0 L g (hp σ) w)(d:DenF n g ρ a){Q1:APost}{Qw:Exit→Act→World→Prop}(h:Awp P GL n m1 ρ σ Q1)
 (hn:∀g' ρ' σ' a' w',g.Le g'→Rep GL w0 L g' (hp σ') w'→DenF n g' ρ' a'→Q1 .normal ρ' σ'→c2.wp P Qw a' w')(hx:∀i ρ σ,¬Q1 (.exit i) ρ σ)
 (hr:∀g' ρ' σ' a' w',g.Le g'→Rep GL w0 L g' (hp σ') w'→DenF n g' ρ' a'→Q1 .ret ρ' σ'→Qw .ret a' w'):(Code.seq c1 c2).wp P Qw a w:=by
 refine wp_seq (wp_mono (h c1 hc w0 L g a w r d) (λe a' w' hl=>?_));cases e with
 |normal=>obtain⟨g',ρ',σ',k1,k2,k3,k4⟩:=hl; exact hn g' ρ' σ' a' w' k1 k2 k3 k4
 |ret=>obtain⟨g',ρ',σ',k1,k2,k3,k4⟩:=hl; exact hr g' ρ' σ' a' w' k1 k2 k3 k4
 |exit id=>obtain⟨g',ρ',σ',k1,k2,k3,k4⟩:=hl; exact(hx _ _ _ k4).elim
 |_=>exact hl.elim
end
end Go.Ah
end
section
namespace Go.Ah.Tz
open Go.Proofs.Tryz (prog)
set_option maxRecDepth 100000
def pre81{α:Type}(A:Ans α)(x0 x1 x2 x3:AVal)(σ:List ABlk)(K R:List AVal→List ABlk→α):α:=
 A.wr (Xac [x2] σ) σ λt6_0 σ=>
 A.wr (Zx [.nili] [] σ) σ λt8_1 σ=>
 A.wr (Zx [(.int .i64 0)] [] σ) σ λt9_2 σ=>
 A.rd (Qg [x1] σ) λt12_3=>
 A.rd (Zk true 23 [t12_3] σ) λt13_4=>
 A.wr (Zx [(.int .i64 0),(.int .i64 0),(.int .i8 0),(.bool false),(.int .i8 0),.nils,(.int .i64 0),(.int .i64 0),(.int .i64 0),(.int .i64 0),.nils,.nils,.nils,.nils,.nils,(.int .i64 0),(.int .i64 0),(.int .i64 0),.nils,.nils,.nils,.nils,.nils] [] σ) σ λt10_5 σ=>
 A.wr (Yo 23 [t10_5,t13_4] σ) σ λ_ σ=>
 A.rd (Qc 2 [t10_5] σ) λt14_6=>
 A.rd (Zk false 1 [t14_6] σ) λt15_7=>
 A.rd (Qm .eql false [t15_7,(.int .i8 1)] σ) λt16_8=>
 A.gr t16_8 true (λk=>A.rd (Qc 5 [t10_5] σ) k) λt18_9=>
 A.gr t16_8 true (λk=>A.rd (Zk false 1 [t18_9] σ) k) λt19_10=>
 A.gr t16_8 true (λk=>A.rd (Qp [t19_10] σ) k) λt20_11=>
 A.gr t16_8 true (λk=>A.rd (Qm .eql false [t20_11,(.int .i64 0)] σ) k) λt21_12=>
 A.rd (Ql [t16_8,t21_12,(.bool false)] σ) λt22_13=>
 joinK (λk14=>
 A.test t22_13 (
 A.rd (Qc 2 [t10_5] σ) λt23_16=>
 A.wr (Yo 1 [t23_16,(.int .i8 0)] σ) σ λ_ σ=>
 k14 [] σ) (
 k14 [] σ)) (λv15 σ=>
 A.pu (Qg [x0] σ) λt26_17=>
 A.dr (Zk true 2 [t26_17] σ) σ λt27_18 l19 σ=>
 A.dr (Zk true 23 [t10_5] σ) σ λt28_20 l21 σ=>
 A.dcall (.call 16) [t27_18,t28_20] σ λt29_22 l23 σ=>
 A.pu (Qm .neq false [t29_22,(.int .i64 0)] σ) λt30_24=>
 A.gr t30_24 false (λk=>A.pu (Z7 [x1] σ) k) λt32_25=>
 A.gr t30_24 false (λk=>A.pu (Qg [t32_25] σ) k) λt33_26=>
 A.gr t30_24 false (λk=>A.pu (Qc 2 [t33_26] σ) k) λt34_27=>
 A.gl t30_24 false (λk=>A.dr (Zk false 1 [t34_27] σ) σ k) σ λt35_28 l29 σ=>
 A.gr t30_24 false (λk=>A.pu (Qm .eql false [t35_28,(.int .i8 1)] σ) k) λt36_30=>
 A.gr t30_24 false (λk=>A.pu (Z7 [t36_30] σ) k) λt37_31=>
 A.gr t37_31 true (λk=>A.pu (Z7 [x1] σ) k) λt38_32=>
 A.gr t37_31 true (λk=>A.pu (Qg [t38_32] σ) k) λt39_33=>
 A.gr t37_31 true (λk=>A.pu (Qc 3 [t39_33] σ) k) λt40_34=>
 A.gl t37_31 true (λk=>A.dr (Zk false 1 [t40_34] σ) σ k) σ λt41_35 l36 σ=>
 A.gr t37_31 true (λk=>A.pu (Ybk .not [t41_35] σ) k) λt42_37=>
 A.gr t30_24 false (λk=>A.pu (Ql [t37_31,t42_37,(.bool false)] σ) k) λt43_38=>
 A.pu (Ql [t30_24,(.bool true),t43_38] σ) λt44_39=>
 A.gd (Xl [[],[0],[0,1],[],[0,1,2,3],[0,1,2,3,4],[0,1,2,3,4,5],[0,1,2,3,4,5,6],[0,1,2,3,4,5,6,7],[0,1,2,3,4,5,6,7,8],[0,1,2,3,4,5,6,7,8,9],[0,1,2,3,4,5,6,7,8,9,10],[0,1,2,3,4,5,6,7,8,9,10,11],[0,1,2,3,4,5,6,7,8,9,10,11,12],[0,1,2,3,4,5,6,7,8,9,10,11,12,13],[0,1,2,3,4,5,6,7,8,9,10,11,12,13,14],[0,1,2,3,4,5,6,7,8,9,10,11,12,13,14,15],[0,1,2,3,4,5,6,7,8,9,10,11,12,13,14,15,16],[0,1,2,3,4,5,6,7,8,9,10,11,12,13,14,15,16,17],[0,1,2,3,4,5,6,7,8,9,10,11,12,13,14,15,16,17,18],[0,1,2,3,4,5,6,7,8,9,10,11,12,13,14,15,16,17,18,19]] [([],[]),([],[]),l19,l21,l23,([],[]),([],[]),([],[]),([],[]),([],[]),l29,([],[]),([],[]),([],[]),([],[]),([],[]),l36,([],[]),([],[]),([],[]),([],[])]) <|
 A.test t44_39 (
 A.wr (Yo 1 [t8_1,.nili] σ) σ λ_ σ=>
 A.wr (Yo 1 [t9_2,(.int .i64 170)] σ) σ λ_ σ=>
 R [t8_1,t9_2] σ) (
 A.rd (Qc 0 [t6_0] σ) λt46_40=>
 A.rd (Zk false 1 [t46_40] σ) λt47_41=>
 A.rd (Qm .lss false [t47_41,(.int .i64 0)] σ) λt48_42=>
 A.gr t48_42 false (λk=>A.rd (Qc 0 [t6_0] σ) k) λt50_43=>
 A.gr t48_42 false (λk=>A.rd (Zk false 1 [t50_43] σ) k) λt51_44=>
 A.gr t48_42 false (λk=>A.rd (Qm .gtr false [t51_44,(.int .i64 1)] σ) k) λt52_45=>
 A.rd (Ql [t48_42,(.bool true),t52_45] σ) λt53_46=>
 A.test t53_46 (
 A.wr (Yo 1 [t8_1,.nili] σ) σ λ_ σ=>
 A.wr (Yo 1 [t9_2,(.int .i64 2)] σ) σ λ_ σ=>
 R [t8_1,t9_2] σ) (
 K [x0,x1,x3,t6_0,t8_1,t9_2] σ)))
def k1:Code→Code
 |.seq a _=>a
 |c=>c
def k2:Code→Code
 |.seq _ b=>b
 |c=>c
def kOps:Code→Array Oper
 |.region _ ops _=>ops
 |_=>#[]
def b81(P:Program):Code:=match P.funcs[57]? with
 |some f=>f.body.getD .skip
 |none=>.skip
def ZcA(P:Program):Code:=k1 (b81 P)
def YcA(P:Program):Code:=k1 (k2 (b81 P))
def XcA(P:Program):Code:=k1 (k2 (k2 (b81 P)))
def QcA(P:Program):Code:=k1 (k2 (k2 (k2 (b81 P))))
def Qar(P:Program):Array Oper:=kOps (k1 (k2 (k2 (k2 (k2 (b81 P))))))
def Qab(P:Program):Array Oper:=kOps (k1 (k2 (k2 (k2 (k2 (k2 (b81 P)))))))
theorem Zdx:Go.Proofs.Tryz.f57.body=some (.seq (ZcA prog) (.seq (YcA prog) (.seq (XcA prog) (.seq (QcA prog) (.seq (.region 8 (Qar prog) false) (.seq (.region 9 (Qab prog) false) .ret)))))):=by kernel_rfl
def mc81(P:Program)(c:Code):MCode:=(Qu P GL0 62 c).getD .skip
theorem Qbs{c:Code}(h:(Qu prog GL0 62 c).isSome=true):CodeOk prog GL0 62 c (mc81 prog c):=by
 unfold mc81;cases e:Qu prog GL0 62 c with
 |none=>rw[e] at h; cases h
 |some m=>exact ZaV e
theorem c81_0:CodeOk prog GL0 62 (ZcA prog) (mc81 prog (ZcA prog)):=Qbs (by kernel_rfl)
theorem c81_1:CodeOk prog GL0 62 (YcA prog) (mc81 prog (YcA prog)):=Qbs (by kernel_rfl)
theorem c81_2:CodeOk prog GL0 62 (XcA prog) (mc81 prog (XcA prog)):=Qbs (by kernel_rfl)
theorem c81_3:CodeOk prog GL0 62 (QcA prog) (mc81 prog (QcA prog)):=Qbs (by kernel_rfl)
def Qc2(P:Program):DCode:=(annot (mc81 P (ZcA P)) []).1
def Zc3(P:Program):DCode:=(annot (mc81 P (YcA P)) []).1
def Yc3(P:Program):DCode:=(annot (mc81 P (XcA P)) [some []]).1
def Xc3(P:Program):DCode:=(annot (mc81 P (QcA P)) [none,none,none]).1
theorem Ydy:(Qc2 prog).ok=true:=by kernel_rfl
theorem Xdy:(Zc3 prog).ok=true:=by kernel_rfl
theorem Qdy:(Yc3 prog).ok=true:=by kernel_rfl
theorem Zdz:(Xc3 prog).ok=true:=by kernel_rfl
theorem Xc8(x0 x1 x2 x3:AVal)(α:Type)(A:Ans α)(σ:List ABlk)(K R:List AVal→List ABlk→α) :
  dn A (Qc2 prog) (frame0 [x0,x1,x2,x3]) σ (λρ σ=>dn A (Zc3 prog) ρ σ (λρ σ=>dn A (Yc3 prog) ρ σ (λρ σ=>dn A (Xc3 prog) ρ σ (λρ σ=>K (getF ρ [0,1,3,6,8,9]) σ)
   (λ_ _ _=>A.stop) (λρ σ=>R (getF ρ [8,9]) σ)) (λ_ _ _=>A.stop) (λρ σ=>R (getF ρ [8,9]) σ)) (λ_ _ _=>A.stop) (λρ σ=>R (getF ρ [8,9]) σ)) (λ_ _ _=>A.stop) (λρ σ=>R (getF ρ [8,9]) σ)
  = pre81 A x0 x1 x2 x3 σ K R:=by kernel_rfl
end Go.Ah.Tz
end
section
namespace Go.Ah.Tz
open Go.Proofs.Tryz (prog)
set_option maxRecDepth 100000
attribute [local irreducible] Ans.rd Ans.pu Ans.wr Ans.dr Ans.gr Ans.gw Ans.gl Ans.gd Ans.opt joinK W
set_option maxHeartbeats 8000000
theorem Ya1{e:Int}{b:Bk}{s:St}(h:mayR e b s true=true)(hp:s.phase=1):s.struck=true:=by
 simp only[mayR,Bool.and_eq_true] at h;obtain⟨_,_,_,_,_,_,_,_,_,_,_,_,_,h⟩:=h;rw[if_neg (by simp[hp])] at h;simp only[Bool.and_eq_true] at h;exact h.2.1
theorem ZbF{e:Int}{b:Bk}{s:St}(h:mayR e b s true=true)(hp:s.phase=1)(ha:s.attack.length=0):mayR e b { s with phase:=0 } false=true:=by
 simp only[mayR,Bool.and_eq_true] at h ⊢;obtain⟨a1,a2,a3,a4,a5,a6,a7,a8,a9,b1,b2,b3,b4,h⟩:=h;refine⟨a1,a2,a3,a4,a5,by simp,by simp,a8,a9,?_,b2,b3,b4,?_⟩
 ·rw[hp] at b1; exact b1
 ·rw[if_pos (by simp)]; simp[ha]
theorem QbE{e:Int}{b:Bk}{s:St}(h:mayR e b s true=true)(hp:s.phase=1→s.attack.length≠0):mayR e b s false=true:=by
 simp only[mayR,Bool.and_eq_true] at h ⊢;obtain⟨a1,a2,a3,a4,a5,a6,a7,a8,a9,b1,b2,b3,b4,h⟩:=h;refine⟨a1,a2,a3,a4,a5,a6,a7,a8,a9,b1,b2,b3,b4,?_⟩;split at h
 ·rename_i q; rw[if_pos q]; exact h
 ·rename_i q; rw[if_neg q]; simp only[Bool.and_eq_true] at h ⊢; exact⟨by simp[hp (by simpa using q)],h.2⟩
theorem Zbj(b:Bk)(hf:bkFit b=true)(hsm:Yj b.cards)(s:St)(hs:StLe 1000000000 s)(hm:mayR (bkR b).1 b s true=true)(sd tg:Int)(h0:0≤sd)(h1:sd≤1)(v:AVal){K R:List AVal→List ABlk→Prop}
 (hK:∀z,K [.rptr (bkC b) 0,.rptr (stC s) 0,v,.bptr 0 0,.bptr 1 0,.bptr 2 0] [.box [iv sd,iv tg],.box [.nili],.box [iv 0],.box z]) :
  pre81 VV (.rptr (bkC b) 0) (.rptr (stC s) 0) (.agg [iv sd,iv tg]) (v) [] K R:=by
 unfold pre81;refine Qa (v:=.bptr 0 0) (rd:=[]) (up:=[(0,.box [iv sd,iv tg])]) rfl rfl (Qa (v:=.bptr 1 0) rfl rfl (Qa (v:=.bptr 2 0) rfl rfl (Za rfl (Za (ldr (row:=stC s) rfl) (Qa (v:=.bptr 3 0) rfl rfl (Qa (v:=.junk) (up:=[(3,.box (stC s))]) (rd:=[]) rfl rfl ?_))))));refine Za rfl (Za (ld (row:=stC s) rfl rfl) (Za rfl ?_));refine Zbv (v1:=.bptr 3 5) (v2:=rowV s.attack) (v3:=iv s.attack.length) (d:=((s.attack.length:Int)==0)) (q3:=[]) rfl (ld (row:=stC s) rfl rfl) (by simp[rowV,Qp]) rfl ?_;refine Xj λk' ek=>?_;have hend:∀t:St,mayR (bkR b).1 b t false=true→StLe 1000000000 t→k' [] [.box [iv sd,iv tg],.box [.nili],.box [iv 0],.box (stC t)]:=by
  intro t ht hts;have c55':=c55 b hf hsm t hts;rw[ht] at c55';subst ek;refine Xb rfl (Zd (v:=bkV b) (ldr (row:=bkC b) rfl) rfl (Zd (v:=stV t) (ld (row:=stC t) rfl rfl) rfl (Xe c55' rfl g16.ok.plain rfl (Xb (v:=.bool false) rfl ?_))));refine Ya (Xb rfl (Ya (Xb rfl (Ya (Xb rfl (Yca (Zd (v:=iv8 s.phase) (ldr (row:=stC s) rfl) rfl (Ya (Xb (v:=.bool (s.phase==1)) rfl (Ya (Xb rfl ?_)))))))))));rcases YBE (s.phase==1) with h|h
  ·rw[h];refine Ya (Xb rfl (Ya (Xb rfl (Ya (Xb rfl (Yca (Zd (v:=.bool s.struck) (ldr (row:=stC s) rfl) rfl (Ya (Xb rfl ?_)))))))));rw[Ya1 hm (by simpa using h)];refine Ya (Xb rfl (Xb rfl (Yn (by kernel_rfl) (Yc ?_))));refine Za rfl (Za (ld (row:=[iv sd,iv tg]) (v:=iv sd) rfl rfl) (Za (v:=.bool (decide (sd<0))) rfl ?_));rw[show decide (sd<0)=false from decide_eq_false (by omega)];refine Ya (Za rfl (Ya (Za (ld (row:=[iv sd,iv tg]) (v:=iv sd) rfl rfl) (Ya (Za (v:=.bool (decide (sd>1))) rfl ?_)))));rw[show decide (sd>1)=false from decide_eq_false (by omega)];exact Za rfl (Yc (hK _))
  ·rw[h];refine Xa rfl (Xa rfl (Xa rfl (Xdc rfl (Xa rfl (Ya (Xb rfl (Xb rfl (Yn (by kernel_rfl) (Yc ?_)))))))));refine Za rfl (Za (ld (row:=[iv sd,iv tg]) (v:=iv sd) rfl rfl) (Za (v:=.bool (decide (sd<0))) rfl ?_));rw[show decide (sd<0)=false from decide_eq_false (by omega)];refine Ya (Za rfl (Ya (Za (ld (row:=[iv sd,iv tg]) (v:=iv sd) rfl rfl) (Ya (Za (v:=.bool (decide (sd>1))) rfl ?_)))));rw[show decide (sd>1)=false from decide_eq_false (by omega)];exact Za rfl (Yc (hK _))
 rcases YBE ((s.phase==1)&&((s.attack.length:Int)==0)) with hq|hq
 ·rw[hq];simp only[Bool.and_eq_true,beq_iff_eq] at hq;refine Yd (Za rfl (Qa (stv (row:=stC s) rfl rfl rfl rfl) rfl ?_));exact hend { s with phase:=0 } (ZbF hm hq.1 (by omega)) ⟨hs.attack,hs.s0,hs.s1⟩
 ·rw[hq];refine Yc ?_;exact hend s (QbE hm (λhp e=>by simp[hp,e] at hq)) hs
end Go.Ah.Tz
end
section
namespace Go.Ah.Tz
open Go.Proofs.Tryz (prog)
set_option maxRecDepth 100000
set_option maxHeartbeats 4000000
theorem idle123(p q:Value)(w:World):CallsD prog 81 #[p,q] .returning w λe u' w'=>e=.returned (.tuple #[])∧u'=.returning∧w'=w:=by
 refine callsD_of_wpS Go.Proofs.Tryz.func81 rfl λc₀ cs hu=>?_;apply wpS_seq;apply wpS_region;simp[wpOpsS,go_sem,recoverD,hu,Go.Proofs.Tryz.ntmps81,Exit.thenS];refine wpS_cond (t:=false) (by simp[Act.eval,Act.put,Array.replicate]) ?_;simp only[Bool.false_eq_true,if_false];refine wpS_of_wp (wp_skip ?_);cases c₀;simp_all [bodyPostS,results,Act.put,Go.Proofs.Tryz.results81]
def op81(l:Program→Array Oper)(i:Nat)(P:Program):Oper:=((l P)[i]?).getD default
theorem s81_8:(Qar prog).size=2:=by kernel_rfl
theorem s81_9:(Qab prog).size=9:=by kernel_rfl
theorem QdN:(Qar prog)[0]?=some (op81 Qar 0 prog)∧(op81 Qar 0 prog).op=.makeFunc (.func 81) #[] #[.tmp 8,.tmp 9]∧(op81 Qar 0 prog).dst=some 54∧(op81 Qar 0 prog).guard=none:=⟨by kernel_rfl,by kernel_rfl,by kernel_rfl,by kernel_rfl⟩
theorem ZdO:(Qar prog)[1]?=some (op81 Qar 1 prog)∧(op81 Qar 1 prog).op=.defer ⟨.value (.tmp 54),#[],#[]⟩∧(op81 Qar 1 prog).dst=none∧(op81 Qar 1 prog).guard=none:=⟨by kernel_rfl,by kernel_rfl,by kernel_rfl,by kernel_rfl⟩
theorem YdO:(Qab prog)[6]?=some (op81 Qab 6 prog)∧(∃ts,(op81 Qab 6 prog).op=.call ⟨.invoke (.tmp 55) "baize/value.ask",#[.tmp 60],ts⟩)∧(op81 Qab 6 prog).dst=some 61∧(op81 Qab 6 prog).guard=none:=⟨by kernel_rfl,⟨match (op81 Qab 6 prog).op with | .call c=>c.argTypes|_=>#[],by kernel_rfl⟩,by kernel_rfl,by kernel_rfl⟩
theorem ask143(v:Value)(args:Array Value)(w:World):(callMethod (.iface 128 v) "baize/value.ask" args).run prog w=.ok (.enter 147 (#[v]++args)) w:=by kernel_rfl
theorem ask184(v:Value)(args:Array Value)(w:World):(callMethod (.iface 132 v) "baize/value.ask" args).run prog w=.ok (.enter 167 (#[v]++args)) w:=by kernel_rfl
def m9a(P:Program):List MOper:=(mapM' (Qav P GL0 62 (Qab P).toList) ((Qab P).toList.take 6)).getD []
def m9b(P:Program):List MOper:=(mapM' (Qav P GL0 62 (Qab P).toList) ((Qab P).toList.drop 7)).getD []
theorem ZcK:(m9a prog).length=6:=by kernel_rfl
theorem YcK:(m9b prog).length=2:=by kernel_rfl
theorem YbC{α:Type}{o:Option (List α)}{n:Nat}(h:(o.getD []).length=n+1):o=some (o.getD []):=by
 cases o with
 |none=>cases h
 |some a=>rfl
theorem QdG(j:Nat)(m:MOper)(e:(m9a prog)[j]?=some m):∃o,(Qab prog)[0+j]?=some o∧OperOk prog GL0 62 (Qab prog) o m:=by
 obtain⟨h1,h2⟩:=Qay (YbC (n:=5) ZcK);obtain⟨o,k1,k2⟩:=h2 j m e;refine⟨o,?_,Yaq k2⟩;rw[List.getElem?_take] at k1;split at k1
 ·simpa using k1
 ·cases k1
theorem ZdH(j:Nat)(m:MOper)(e:(m9b prog)[j]?=some m):∃o,(Qab prog)[7+j]?=some o∧OperOk prog GL0 62 (Qab prog) o m:=by
 obtain⟨h1,h2⟩:=Qay (YbC (n:=1) YcK);obtain⟨o,k1,k2⟩:=h2 j m e;refine⟨o,?_,Yaq k2⟩;rw[List.getElem?_drop] at k1;simpa using k1
theorem d9a(x0 x1 x3 t6 t8 t9 f:AVal)(α:Type)(A:Ans α)(σ:List ABlk)(K:List AVal→List ABlk→α) :
  dnOps A (m9a prog) [(54,f),(0,x0),(1,x1),(3,x3),(6,t6),(8,t8),(9,t9)] σ (λρ σ=>K (getF ρ [55,60,8,9]) σ) =
  A.rd (Zk true 2 [t6] σ) λt58=>A.rd (XP [.nilp,.nilp,.int .i64 0,.int .i64 0] [(0,1),(1,1),(2,2)] [x0,x1,t58] σ) λt59=>A.wr (Xac [t59] σ) σ λt60 σ=>K [x3,t60,t8,t9] σ:=by kernel_rfl
theorem d9b(t55 t60 t8 t9 y:AVal)(α:Type)(A:Ans α)(σ:List ABlk)(K:List AVal→List ABlk→α) :
  dnOps A (m9b prog) [(61,y),(55,t55),(60,t60),(8,t8),(9,t9)] σ (λρ σ=>K (getF ρ [8,9]) σ) =
  A.wr (Yo 1 [t8,y] σ) σ λ_ σ=>A.wr (Yo 1 [t9,.int .i64 0] σ) σ λ_ σ=>K [t8,t9] σ:=by kernel_rfl
theorem r81:All2 (RvOk prog) Go.Proofs.Tryz.f57.results.toList [.c 8 false 1,.c 9 false 1]:=Zam (f:=YbP prog) Qbc (by kernel_rfl)
theorem n81:Go.Proofs.Tryz.f57.ntmps=62:=by kernel_rfl
theorem Xa8{P:Program}{ops:Array Oper}{Q:Exit→Act→World→Prop}{i:Nat}{rest:List Nat}{a:Act}{w:World}{o:Oper}(ho:ops[i]?=some o)(hg:o.guard=none)(h:o.wp P a w (wpOps P ops Q rest) Q):wpOps P ops Q (i::rest) a w:=by
 simp only[wpOps,ho];rw[if_pos (by simp[Region.wanted,hg])];exact .inl h
def postQ(K R:Frame→List ABlk→Prop):APost
 |.normal,ρ,σ=>K ρ σ
 |.ret,ρ,σ=>R ρ σ
 |.exit _,_,_=>False
theorem piece{n:Nat}(m:DCode)(hm:m.ok=true){ρ:Frame}{σ:List ABlk}{K R:Frame→List ABlk→Prop}(h:dn VV m ρ σ K (λ_ _ _=>VV.stop) R):Awp prog GL0 n m.er ρ σ (postQ K R):=
 ZR hP (XcZ prog GL0) m (Q:=postQ K R) hm (λ_ _ _ h=>h) (λ_ _ _ _ h=>h) (λ_ _ _ h=>h) h
theorem c81G(bk st:List AVal)(sd tg:Int)(ty:TypeId)(fn:FuncId)(vs0:List AVal)(j:Nat)(y:AVal)(hyf:y.flat=true)(hyr:y.ro=true)(hyc:cellsOf y=some [y])
 (hask:∀(v:Value) (args:Array Value) (w:World),(callMethod (.iface ty v) "baize/value.ask" args).run prog w=.ok (.enter fn (#[v]++args)) w)
 (hw:pre81 VV (.rptr bk 0) (.rptr st 0) (.agg [iv sd,iv tg]) (.iface ty (.agg [.rptr vs0 j])) [] (λvs σ=>vs=[.rptr bk 0,.rptr st 0,.iface ty (.agg [.rptr vs0 j]),.bptr 0 0,.bptr 1 0,.bptr 2 0]∧∃z,σ=[.box [iv sd,iv tg],.box [.nili],.box [iv 0],.box z]) (λ_ _=>False))
 (h289:PC fn [.agg [.rptr vs0 j],.rptr [.rptr bk 0,.rptr st 0,iv sd,iv tg] 0] y) :
  PC 57 [.rptr bk 0,.rptr st 0,.agg [iv sd,iv tg],.iface ty (.agg [.rptr vs0 j])] (.tup [y,iv 0]):=by
 intro w M vs hM hg hx;have r0:=Rep.start (GL:=GL0) w M hM hg;have hh:hp []=noHp:=by funext b; simp[hp,noHp]
 rw[←hh] at r0;have d0:=ZX hx (n:=62) (by simp);refine calls_of_wp_defers Go.Proofs.Tryz.func57 Zdx ?_;rw[n81];rw[←Xc8] at hw;have e0:(Qc2 prog).er=mc81 prog (ZcA prog):=XD _ _;have e1:(Zc3 prog).er=mc81 prog (YcA prog):=XD _ _;have e2:(Yc3 prog).er=mc81 prog (XcA prog):=XD _ _;have e3:(Xc3 prog).er=mc81 prog (QcA prog):=XD _ _;refine XaO (e0▸c81_0) r0 d0 (piece (Qc2 prog) Ydy hw) (λg1 ρ1 σ1 a1 w1 l1 r1 d1 hw1=>?_) (λ_ _ _ h=>h) (λ_ _ _ _ _ _ _ _ h=>False.elim h);refine XaO (e1▸c81_1) r1 d1 (piece (Zc3 prog) Xdy hw1) (λg2 ρ2 σ2 a2 w2 l2 r2 d2 hw2=>?_) (λ_ _ _ h=>h) (λ_ _ _ _ _ _ _ _ h=>False.elim h);refine XaO (e2▸c81_2) r2 d2 (piece (Yc3 prog) Qdy hw2) (λg9993 ρ3 σ3 a3 w3 l3 r3 d3 hw3=>?_) (λ_ _ _ h=>h) (λ_ _ _ _ _ _ _ _ h=>False.elim h);refine XaO (e3▸c81_3) r3 d3 (piece (Xc3 prog) Zdz hw3) (λg9994 ρ4 σ4 a4 w4 l4 r4 d4 hw4=>?_) (λ_ _ _ h=>h) (λ_ _ _ _ _ _ _ _ h=>False.elim h);obtain⟨hv,z,hσ⟩:=hw4;subst hσ;simp only[getF,List.cons.injEq,and_true] at hv;obtain⟨q0,q1,q3,q6,q8,q9⟩:=hv;have d5:DenF 62 g9994 [(0,.rptr bk 0),(1,.rptr st 0),(3,.iface ty (.agg [.rptr vs0 j])),(6,.bptr 0 0),(8,.bptr 1 0),(9,.bptr 2 0)] a4:=d4.weak (QaH.le ⟨q0,q1,q3,q6,q8,q9,trivial⟩);clear d4;have le4:=((l1.trans l2).trans l3).trans l4;have k8:g9994.den (.bptr 1 0) (a4.tmps.getD 8 undef):=d5.slot 8;have k9:g9994.den (.bptr 2 0) (a4.tmps.getD 9 undef):=d5.slot 9;generalize hp8:a4.tmps.getD 8 undef=p8 at k8;generalize hp9:a4.tmps.getD 9 undef=p9 at k9;refine wp_seq (wp_region ?_);rw[s81_8,show List.range 2=[0,1] from rfl];refine Xa8 QdN.1 QdN.2.2.2 ?_;unfold Oper.wp;have hmf:∀(fn:Fn) (first cap:Array Value) (w:World),(Instr.makeFunc fn first cap).run prog w=.ok (.func fn first cap) w:=λ_ _ _ _=>rfl;have run0:(execOp a4.eval (op81 Qar 0 prog)).run prog w4=.ok (.value (.func (.func 81) #[] #[p8,p9])) w4:=by
  rw[←hp8,←hp9];simp only[execOp,QdN.2.1,Sem.run_bind,hmf,Result.andThen_ok,Sem.run_pure];simp[Act.eval]
 rw[run0,Oper.upon_value,QdN.2.2.1];have hd54:g9994.den (.func (.func 81) [] [.bptr 1 0,.bptr 2 0]) (.func (.func 81) #[] #[p8,p9]):=by
  refine .func _ _ _ _ _ _ rfl rfl (by simp) (λi x u e1 e2=>?_)
  match i with
  |0=>simp at e1 e2; subst e1; subst e2; exact k8
  |1=>simp at e1 e2; subst e1; subst e2; exact k9
  |i+2=>simp at e1
 have d6:=d5.put (d:=54) (by decide) hd54;generalize ha5:a4.put (some 54) (.func (.func 81) #[] #[p8,p9])=a5 at d6 ⊢;have h54:a5.tmps.getD 54 undef=.func (.func 81) #[] #[p8,p9]:=by
  rw[←ha5];have hsz:=d5.size;simp[Act.put,Array.getD,hsz]
 refine Xa8 ZdO.1 ZdO.2.2.2 ?_;unfold Oper.wp;have run1:(execOp a5.eval (op81 Qar 1 prog)).run prog w4=.ok (.defer { target:=.fn (.func 81) #[p8,p9],args:=#[] }) w4:=by
  simp only[execOp,ZdO.2.1,resolve,Act.eval,h54,Deferred.ofValue,Sem.run_bind,Sem.run_pure,Result.andThen_ok];simp
 rw[run1,Oper.upon_defer,ZdO.2.2.1];have hlay:({ a5 with defers:={ target:=.fn (.func 81) #[p8,p9],args:=#[] }::a5.defers }:Act).put none undef=layD [{ target:=.fn (.func 81) #[p8,p9],args:=#[] }] a5:=by
  simp[Act.put,layD,d6.defers]
 rw[hlay];show wpOps prog (Qar prog) _ [] _ w4;simp only[wpOps];refine wp_seq (wp_region ?_);rw[s81_9,show List.range 9=List.range' 0 6++(6::List.range' 7 2) from rfl];have key1:dnOps VV (m9a prog) [(54,.func (.func 81) [] [.bptr 1 0,.bptr 2 0]),(0,.rptr bk 0),(1,.rptr st 0),(3,.iface ty (.agg [.rptr vs0 j])),(6,.bptr 0 0),(8,.bptr 1 0),(9,.bptr 2 0)] [.box [iv sd,iv tg],.box [.nili],.box [iv 0],.box z]
   (λρ σ=>getF ρ [55,60,8,9]=[.iface ty (.agg [.rptr vs0 j]),.bptr 4 0,.bptr 1 0,.bptr 2 0]∧σ=[.box [iv sd,iv tg],.box [.nili],.box [iv 0],.box z,.box [.rptr bk 0,.rptr st 0,iv sd,iv tg]]):=by
  have:=d9a (.rptr bk 0) (.rptr st 0) (.iface ty (.agg [.rptr vs0 j])) (.bptr 0 0) (.bptr 1 0) (.bptr 2 0) (.func (.func 81) [] [.bptr 1 0,.bptr 2 0]) Prop VV [.box [iv sd,iv tg],.box [.nili],.box [iv 0],.box z]
   (λvs σ=>vs=[.iface ty (.agg [.rptr vs0 j]),.bptr 4 0,.bptr 1 0,.bptr 2 0]∧σ=[.box [iv sd,iv tg],.box [.nili],.box [iv 0],.box z,.box [.rptr bk 0,.rptr st 0,iv sd,iv tg]])
  rw[this];exact Za (ld (row:=[iv sd,iv tg]) rfl rfl) (Za rfl (Qa rfl rfl ⟨rfl,rfl⟩))
 have key2:=ZK (XcZ prog GL0) (fl:=false) (lg:=[]) (λe=>by cases e) key1;have hlen:List.range' 0 6=List.range' 0 (m9a prog).length:=by rw[ZcK]
 rw[hlen];refine Ya8 (P:=prog) (Q:=λe a w'=>e=.normal∧Lift GL0 w ⟨[],M⟩ 62 g9994 (λρ σ _=>getF ρ [55,60,8,9]=[.iface ty (.agg [.rptr vs0 j]),.bptr 4 0,.bptr 1 0,.bptr 2 0]∧σ=[.box [iv sd,iv tg],.box [.nili],.box [iv 0],.box z,.box [.rptr bk 0,.rptr st 0,iv sd,iv tg]]) a w') _ _ (λa6 w6 hq=>?_) (λe a w hne hq=>(hne hq.1).elim) _ a5 w4
  (Q3 _ _ (m9a prog) 0 _ _ [] g9994 a5 w4 QdG key2 r4 d6 (λa' w' hl=>⟨rfl,?_⟩))
 ·obtain⟨_,g9995,ρ5,σ5,lg5,l5,r5,d5',hv5,hσ5⟩:=hq;subst hσ5;simp only[getF,List.cons.injEq,and_true] at hv5;obtain⟨q55,q60,q8',q9'⟩:=hv5;have d7:DenF 62 g9995 [(55,.iface ty (.agg [.rptr vs0 j])),(60,.bptr 4 0),(8,.bptr 1 0),(9,.bptr 2 0)] a6:=d5'.weak (QaH.le ⟨q55,q60,q8',q9',trivial⟩);refine Xa8 YdO.1 YdO.2.2.2 ?_;unfold Oper.wp;rw[Za0];have k55:=d7.slot 55;have k60:=d7.slot 60;simp only[fget] at k55 k60;obtain⟨ts,hop⟩:=YdO.2.1;generalize hp55:a6.tmps.getD 55 undef=p55 at k55;generalize hp60:a6.tmps.getD 60 undef=p60 at k60;have k55':g9995.den (.iface ty (.agg [.rptr vs0 j])) p55:=k55;have k60':g9995.den (.bptr 4 0) p60:=k60;cases k55' with
  |iface _ _ _ vv hvv=>
  have e60:a6.eval (.tmp 60)=p60:=hp60;have run6:(execOp a6.eval (op81 Qab 6 prog)).run prog w6=.ok (.enter fn #[vv,p60]) w6:=by
   have e55:a6.eval (.tmp 55)=.iface ty vv:=hp55;simp only[execOp,hop,resolve,e55,Sem.run_bind,Sem.run_pure,Result.andThen_ok,invoke];rw[show (#[Value.iface ty vv]++Array.map a6.eval #[Operand.tmp 60]) = #[Value.iface ty vv,p60] from by simp[e60]];exact hask vv #[p60] w6
  rw[run6,Oper.upon_enter];have hbor:Zs [.box [iv sd,iv tg],.box [.nili],.box [iv 0],.box z,.box [.rptr bk 0,.rptr st 0,iv sd,iv tg]] 1000 [.agg [.rptr vs0 j],.bptr 4 0]=some ([.agg [.rptr vs0 j],.rptr [.rptr bk 0,.rptr st 0,iv sd,iv tg] 0],[4]):=rfl;have ac:=h289.lend (XW _ _ _ _ hbor _ (λ_ q=>q)) hyf;refine Calls.mono (ac w ⟨[],M⟩ g9995 _ w6 [vv,p60] r5 ⟨hvv,k60',trivial⟩ (λ_ _=>rfl) (λ_ h=>by cases h)) ?_;rintro e w7 ⟨u,rfl,g9996,l6,r6,hu⟩;show wpOps prog (Qab prog) _ (List.range' 7 2) ((layD _ a6).put (op81 Qab 6 prog).dst u) w7;rw[YdO.2.2.1,Yab];have d8:=(d7.mono l6).put (d:=61) (by decide) hu;have key3:dnOps VV (m9b prog) [(61,y),(55,.iface ty (.agg [.rptr vs0 j])),(60,.bptr 4 0),(8,.bptr 1 0),(9,.bptr 2 0)] [.box [iv sd,iv tg],.box [.nili],.box [iv 0],.box z,.box [.rptr bk 0,.rptr st 0,iv sd,iv tg]]
    (λρ σ=>getF ρ [8,9]=[.bptr 1 0,.bptr 2 0]∧σ=[.box [iv sd,iv tg],.box [y],.box [iv 0],.box z,.box [.rptr bk 0,.rptr st 0,iv sd,iv tg]]):=by
   have:=d9b (.iface ty (.agg [.rptr vs0 j])) (.bptr 4 0) (.bptr 1 0) (.bptr 2 0) y Prop VV [.box [iv sd,iv tg],.box [.nili],.box [iv 0],.box z,.box [.rptr bk 0,.rptr st 0,iv sd,iv tg]]
    (λvs σ=>vs=[.bptr 1 0,.bptr 2 0]∧σ=[.box [iv sd,iv tg],.box [y],.box [iv 0],.box z,.box [.rptr bk 0,.rptr st 0,iv sd,iv tg]])
   rw[this];exact Qa (stv (row:=[.nili]) rfl hyc rfl rfl) rfl (Qa (v:=.junk) (up:=[(2,.box [iv 0])]) (rd:=[]) rfl rfl ⟨rfl,rfl⟩)
  have key4:=ZK (XcZ prog GL0) (fl:=false) (lg:=[]) (λe=>by cases e) key3;rw[show List.range' 7 2=List.range' 7 (m9b prog).length++[] by rw[YcK]; rfl];refine Ya8 (P:=prog) (Q:=λe a w'=>e=.normal∧Lift GL0 w ⟨[],M⟩ 62 g9996 (λρ σ _=>getF ρ [8,9]=[.bptr 1 0,.bptr 2 0]∧σ=[.box [iv sd,iv tg],.box [y],.box [iv 0],.box z,.box [.rptr bk 0,.rptr st 0,iv sd,iv tg]]) a w') _ _ (λa8 w8 hq=>?_) (λe a w hne hq=>(hne hq.1).elim) _ _ w7
   (Q3 _ _ (m9b prog) 7 _ _ [] g9996 _ w7 ZdH key4 r6 d8 (λa' w' hl=>⟨rfl,?_⟩))
  ·obtain⟨_,g9997,ρ7,σ7,lg7,l7,r7,d9,hv7,hσ7⟩:=hq;subst hσ7;simp only[getF,List.cons.injEq,and_true] at hv7;simp only[wpOps];refine wp_ret ?_;show Leaves prog Go.Proofs.Tryz.f57 a8.tmps _ (a8.defers++[{ target:=.fn (.func 81) #[p8,p9],args:=#[] }]) .returning w8;rw[d9.defers];refine leaves_cons (f:=81) (args:=#[p8,p9]) (by simp) (by rfl) ((idle123 p8 p9 w8).mono ?_);rintro e u' w9 ⟨rfl,rfl,rfl⟩;have hret:retV [.c 8 false 1,.c 9 false 1] ρ7 [.box [iv sd,iv tg],.box [y],.box [iv 0],.box z,.box [.rptr bk 0,.rptr st 0,iv sd,iv tg]]=some (.tup [y,iv 0]):=by
    simp[retV,retL,ret1,hv7.1,hv7.2,hget,partA,nth,retOf]
   obtain⟨uo,ho1,ho2⟩:=Xam (P:=prog) r7 d9 r81 hret;refine⟨uo,ho1,uo,rfl,r7.keeps,g9997.M,?_,r7.stable,λb o e=>?_,Den.ro ho2 (by simp[AVal.ro,roL,hyr]) _⟩
   ·exact(le4.trans (l5.trans (l6.trans l7))).m
   ·rcases r7.src b o e with q|q|q
    ·exact .inl q
    ·exact .inr q
    ·simp at q
  ·obtain⟨g',ρ',σ',lg',k1,k2,k3,k4,_⟩:=hl;exact⟨g',ρ',σ',lg',k1,k2,k3,k4⟩
 ·obtain⟨g',ρ',σ',lg',k1,k2,k3,k4,_⟩:=hl;exact⟨g',ρ',σ',lg',k1,k2,k3,k4⟩
theorem c81(b:Bk)(hf:bkFit b=true)(hsm:Yj b.cards)(s:St)(hs:StLe 1000000000 s)(hm:mayR (bkR b).1 b s true=true)(sd tg:Int)(h0:0≤sd)(h1:sd≤1)(vs0:List AVal)(j:Nat)(n:Int)
 (h289:PC 147 [.agg [.rptr vs0 j],.rptr [.rptr (bkC b) 0,.rptr (stC s) 0,iv sd,iv tg] 0] (.iface 3 (iv n))) :
  PC 57 [.rptr (bkC b) 0,.rptr (stC s) 0,.agg [iv sd,iv tg],.iface 128 (.agg [.rptr vs0 j])] (.tup [.iface 3 (iv n),iv 0]):=
 c81G (bkC b) (stC s) sd tg 128 147 vs0 j (.iface 3 (iv n)) rfl rfl rfl ask143 (Zbj b hf hsm s hs hm sd tg h0 h1 (.iface 128 (.agg [.rptr vs0 j])) λz=>⟨rfl,z,rfl⟩) h289
theorem c81C(b:Bk)(hf:bkFit b=true)(hsm:Yj b.cards)(s:St)(hs:StLe 1000000000 s)(hm:mayR (bkR b).1 b s true=true)(sd tg:Int)(h0:0≤sd)(h1:sd≤1)(vs0:List AVal)(j:Nat)(q:Bool)
 (h289:PC 167 [.agg [.rptr vs0 j],.rptr [.rptr (bkC b) 0,.rptr (stC s) 0,iv sd,iv tg] 0] (.iface 4 (.bool q))) :
  PC 57 [.rptr (bkC b) 0,.rptr (stC s) 0,.agg [iv sd,iv tg],.iface 132 (.agg [.rptr vs0 j])] (.tup [.iface 4 (.bool q),iv 0]):=
 c81G (bkC b) (stC s) sd tg 132 167 vs0 j (.iface 4 (.bool q)) rfl rfl rfl ask184 (Zbj b hf hsm s hs hm sd tg h0 h1 (.iface 132 (.agg [.rptr vs0 j])) λz=>⟨rfl,z,rfl⟩) h289
end Go.Ah.Tz
end
section
namespace Go.Ah.Tz
open Go.Proofs.Tryz (prog)
set_option maxRecDepth 100000
attribute [local irreducible] Ans.rd Ans.pu Ans.wr Ans.dr Ans.gr Ans.gw Ans.gl Ans.gd Ans.opt joinK W
set_option maxHeartbeats 4000000
def brt(n:Int):Int:=min (max n (-1000000)) 1000000
theorem c290(n:Int):PC 148 [iv n] (iv (brt n)):=by
 refine Qb hP g148.ok rfl rfl ?_;rw[H1.e]; unfold g148; dsimp only;exact Za (Qad ..) (Za (XU ..) rfl)
@[reducible] def asR(b:Bk)(s:St)(sd tg:Int):List AVal:=[.rptr (bkC b) 0,.rptr (stC s) 0,iv sd,iv tg]
@[reducible] def asP(b:Bk)(s:St)(sd tg:Int):AVal:=.rptr (asR b s sd tg) 0
def whoS(sd who:Int):Int:=if who=1 then 1-sd else sd
theorem c295(b:Bk)(s:St)(sd tg who:Int)(h0:0≤sd)(h1:sd≤1):PC 153 [asP b s sd tg,iv8 who] (.rptr (stC s) (bif whoS sd who==0 then 7 else 15)):=by
 have hs:sd=0∨sd=1:=by omega
 refine Qb hP g153.ok rfl rfl ?_;rw[H2.e]; unfold g153; dsimp only;refine Za (Yf ..) (Zb (λh=>?_) (λh=>?_))
 ·have h:who=1:=by simpa using h
  subst h;rcases hs with rfl|rfl
  ·repeat first|refine Za (ldr (row:=asR _ _ _ _) rfl) ?_|refine Za rfl ?_
   rfl
  ·repeat first|refine Za (ldr (row:=asR _ _ _ _) rfl) ?_|refine Za rfl ?_
   rfl
 ·have h:who≠1:=by simpa using h
  rcases hs with rfl|rfl
  ·repeat first|refine Za (ldr (row:=asR _ _ _ _) rfl) ?_|refine Za rfl ?_
   simp[whoS,h]
  ·repeat first|refine Za (ldr (row:=asR _ _ _ _) rfl) ?_|refine Za rfl ?_
   simp[whoS,h]
def sdK(s:St)(k:Int):Sd:=if k=0 then s.s0 else s.s1
theorem Y8{sd who:Int}(h0:0≤sd)(h1:sd≤1):whoS sd who=0∨whoS sd who=1:=by unfold whoS; split<;>omega
theorem c293(row:List AVal)(j:Nat)(x:Nm)(hx:NmAt row j x):PC 151 [.rptr row j] (iv x.n):=by
 refine Qb hP g151.ok rfl rfl ?_;rw[H1.e]; unfold g151; dsimp only;exact Za rfl (Za rfl (Za (ldr hx.h1) rfl))
theorem c294(b:Bk)(s:St)(sd tg:Int)(h0:0≤sd)(h1:sd≤1)(row:List AVal)(j:Nat)(x:Nm)(hx:NmAt row j x):PC 152 [.rptr row j,.rptr [asP b s sd tg] 0] (iv (sdK s (whoS sd x.who)).life):=by
 refine Qb hP g152.ok rfl rfl ?_;rw[H2.e]; unfold g152; dsimp only;refine Zd (ldr (row:=[asP b s sd tg]) rfl) rfl (Xb rfl (Xb rfl (Zd (ldr hx.h2) rfl (Xe (c295 b s sd tg x.who h0 h1) rfl g153.ok.plain rfl ?_))));rcases Y8 (who:=x.who) h0 h1 with h|h
 ·rw[h];exact Xb rfl (Xb rfl (Zd (ldr (row:=stC s) rfl) rfl (Yn (by kernel_rfl) rfl)))
 ·rw[h];exact Xb rfl (Xb rfl (Zd (ldr (row:=stC s) rfl) rfl (Yn (by kernel_rfl) rfl)))
theorem c296(b:Bk)(s:St)(sd tg:Int)(h0:0≤sd)(h1:sd≤1)(row:List AVal)(j:Nat)(x:Nm)(hx:NmAt row j x):PC 154 [.rptr row j,.rptr [asP b s sd tg] 0] (iv (sdK s (whoS sd x.who)).hand.length):=by
 refine Qb hP g154.ok rfl rfl ?_;rw[H2.e]; unfold g154; dsimp only;refine Zd (ldr (row:=[asP b s sd tg]) rfl) rfl (Xb rfl (Xb rfl (Zd (ldr hx.h2) rfl (Xe (c295 b s sd tg x.who h0 h1) rfl g153.ok.plain rfl ?_))));rcases Y8 (who:=x.who) h0 h1 with h|h
 ·rw[h];refine Xb rfl (Xb rfl (Zd (v:=rowV s.s0.hand) (ldr (row:=stC s) rfl) rfl (Xb (v:=iv s.s0.hand.length) (by simp[Qp]) (Yn (by kernel_rfl) rfl))))
 ·rw[h];refine Xb rfl (Xb rfl (Zd (v:=rowV s.s1.hand) (ldr (row:=stC s) rfl) rfl (Xb (v:=iv s.s1.hand.length) (by simp[Qp]) (Yn (by kernel_rfl) rfl))))
theorem c297(b:Bk)(s:St)(sd tg:Int)(h0:0≤sd)(h1:sd≤1)(row:List AVal)(j:Nat)(x:Nm)(hx:NmAt row j x):PC 155 [.rptr row j,.rptr [asP b s sd tg] 0] (iv (sdK s (whoS sd x.who)).deck.length):=by
 refine Qb hP g155.ok rfl rfl ?_;rw[H2.e]; unfold g155; dsimp only;refine Zd (ldr (row:=[asP b s sd tg]) rfl) rfl (Xb rfl (Xb rfl (Zd (ldr hx.h2) rfl (Xe (c295 b s sd tg x.who h0 h1) rfl g153.ok.plain rfl ?_))));rcases Y8 (who:=x.who) h0 h1 with h|h
 ·rw[h];refine Xb rfl (Xb rfl (Zd (v:=rowV s.s0.deck) (ldr (row:=stC s) rfl) rfl (Xb (v:=iv s.s0.deck.length) (by simp[Qp]) (Yn (by kernel_rfl) rfl))))
 ·rw[h];refine Xb rfl (Xb rfl (Zd (v:=rowV s.s1.deck) (ldr (row:=stC s) rfl) rfl (Xb (v:=iv s.s1.deck.length) (by simp[Qp]) (Yn (by kernel_rfl) rfl))))
theorem c298(b:Bk)(s:St)(sd tg:Int)(h0:0≤sd)(h1:sd≤1)(row:List AVal)(j:Nat)(x:Nm)(hx:NmAt row j x):PC 156 [.rptr row j,.rptr [asP b s sd tg] 0] (iv (sdK s (whoS sd x.who)).units.length):=by
 refine Qb hP g156.ok rfl rfl ?_;rw[H2.e]; unfold g156; dsimp only;refine Zd (ldr (row:=[asP b s sd tg]) rfl) rfl (Xb rfl (Xb rfl (Zd (ldr hx.h2) rfl (Xe (c295 b s sd tg x.who h0 h1) rfl g153.ok.plain rfl ?_))));rcases Y8 (who:=x.who) h0 h1 with h|h
 ·rw[h];refine Xb rfl (Xb rfl (Zd (v:=thV s.s0.units) (ldr (row:=stC s) rfl) rfl (Xb (v:=iv s.s0.units.length) (by simp[Qp]) (Yn (by kernel_rfl) rfl))))
 ·rw[h];refine Xb rfl (Xb rfl (Zd (v:=thV s.s1.units) (ldr (row:=stC s) rfl) rfl (Xb (v:=iv s.s1.units.length) (by simp[Qp]) (Yn (by kernel_rfl) rfl))))
theorem c299(b:Bk)(s:St)(sd tg:Int)(h0:0≤sd)(h1:sd≤1)(y:AVal):PC 157 [y,.rptr [asP b s sd tg] 0] (iv (sdK s sd).mana):=by
 refine Qb hP g157.ok rfl rfl ?_;rw[H2.e]; unfold g157; dsimp only;refine Za (ldr (row:=[asP b s sd tg]) rfl) (Zc (c295 b s sd tg 0 h0 h1) rfl g153.ok.plain rfl ?_);have hs:sd=0∨sd=1:=by omega
 rcases hs with rfl|rfl
 ·exact Za rfl (Za rfl (Za (ldr (row:=stC s) rfl) rfl))
 ·exact Za rfl (Za rfl (Za (ldr (row:=stC s) rfl) rfl))
def topN(b:Bk)(d:Sd):Int:=match d.deck with
 |[]=>0
 |c::_=>match b.cards[c.toNat]? with
  |some k=>k.cost
  |none=>0
theorem c300(b:Bk)(s:St)(sd tg:Int)(h0:0≤sd)(h1:sd≤1)(hd:∀c∈(sdK s sd).deck,0≤c∧c.toNat<b.cards.length)(y:AVal):PC 158 [y,.rptr [asP b s sd tg] 0] (iv (topN b (sdK s sd))):=by
 refine Qb hP g158.ok rfl rfl ?_;rw[H2.e]; unfold g158; dsimp only;refine Za (ldr (row:=[asP b s sd tg]) rfl) (Zc (c295 b s sd tg 0 h0 h1) rfl g153.ok.plain rfl ?_);have go:∀(j:Nat),partA false (j+3) 1 (stC s)=some (rowV (sdK s sd).deck)→∀t:AVal,t=.rptr (stC s) j →
   VV.rd (Qg [t] []) λt7_2=>
   VV.rd (Qc 3 [t7_2] []) λt8_3=>
   VV.rd (Zk false 1 [t8_3] []) λt9_4=>
   VV.rd (Qp [t9_4] []) λt11_5=>
   VV.rd (Qm .gtr false [t11_5,(.int .i64 0)] []) λt12_6=>
   VV.test t12_6 (
   VV.rd (Zk false 1 [.rptr [asP b s sd tg] 0] []) λt13_7=>
   VV.rd (Qg [t13_7] []) λt14_8=>
   VV.rd (Qc 0 [t14_8] []) λt15_9=>
   VV.rd (Zk false 1 [t15_9] []) λt16_10=>
   VV.rd (Qg [t16_10] []) λt17_11=>
   VV.rd (Qc 0 [t17_11] []) λt18_12=>
   VV.rd (Zk false 1 [t18_12] []) λt19_13=>
   VV.rd (Zm 1 [t9_4,(.int .i64 0)] []) λt21_14=>
   VV.rd (Zk false 1 [t21_14] []) λt22_15=>
   VV.rd (Zm 12 [t19_13,t22_15] []) λt23_16=>
   VV.rd (Qc 2 [t23_16] []) λt24_17=>
   VV.rd (Zk false 1 [t24_17] []) λt25_18=>
   t25_18=iv (topN b (sdK s sd))) (
   (AVal.int .i64 0)=iv (topN b (sdK s sd))):=by
  rintro j hj t rfl;refine Za rfl (Za rfl (Za (ldr hj) (Za (v:=iv (sdK s sd).deck.length) (rd:=[]) (by simp[Qp]) (Za rfl ?_))));cases hdk:(sdK s sd).deck with
  |nil=>refine Zb (λh=>by simp at h) (λ_=>?_); simp[topN,hdk]
  |cons c l=>
   obtain⟨q1,q2⟩:=hd c (by rw[hdk]; simp);refine Zb (λ_=>?_) (λh=>by simp at h);refine Za (ldr (row:=[asP b s sd tg]) rfl) (Za rfl (Za rfl (Za (ldr (row:=asR b s sd tg) rfl) (Za rfl (Za rfl (Za (v:=cdV b.cards) (ldr (row:=bkC b) rfl) ?_))))));refine Za (v:=.rptr [iv c] 0) (rd:=[]) rfl (Za (ldr (row:=[iv c]) rfl) (Za (Xbz _ cdC _ _ _ b.cards _ c q1 q2) (Za rfl (Za (v:=iv b.cards[c.toNat].cost) (ldr rfl) ?_))));simp[topN,hdk,q2]
 have hs:sd=0∨sd=1:=by omega
 rcases hs with rfl|rfl
 ·exact go 7 rfl _ rfl
 ·exact go 15 rfl _ rfl
end Go.Ah.Tz
end
section
namespace Go.Ah.Tz
open Go.Proofs.Tryz (prog)
set_option maxRecDepth 100000
def XcO(b:Bk)(s:St)(sd tg op n who:Int):Int:=
 if op=0 then n else if op=1 then (sdK s (whoS sd who)).life else if op=2 then (sdK s (whoS sd who)).hand.length else if op=3 then (sdK s (whoS sd who)).deck.length
 else if op=4 then (sdK s (whoS sd who)).units.length else if op=5 then (sdK s sd).mana else if op=6 then topN b (sdK s sd) else (powId b s tg).1
def bothF(op y z:Int):Int:=if op=8 then y+z else if op=9 then y-z else if op=10 then y*z else if op=11 then min y z else max y z
def bothL(op:Int):List Int→Int
 |y::z::_=>bothF op y z
 |_=>0
mutual
def numF (b:Bk) (s:St) (sd tg:Int):Nm→Int
 |.mk op n who kids=>brt (if op<8 then XcO b s sd tg op n who else bothL op (numFs b s sd tg kids))
def numFs (b:Bk) (s:St) (sd tg:Int):List Nm→List Int
 |[]=>[]
 |x::l=>numF b s sd tg x::numFs b s sd tg l
end
theorem QbT(b:Bk)(s:St)(sd tg:Int)(x:Nm):numF b s sd tg x=brt (if x.op<8 then XcO b s sd tg x.op x.n x.who else bothL x.op (numFs b s sd tg x.kids)):=by cases x; rfl
theorem Xdx(n:Int):-1000000≤brt n∧brt n≤1000000:=by unfold brt; omega
theorem XbT(b:Bk)(s:St)(sd tg:Int)(x:Nm):-1000000≤numF b s sd tg x∧numF b s sd tg x≤1000000:=by rw[QbT]; exact Xdx _
attribute [local irreducible] Ans.rd Ans.pu Ans.wr Ans.dr Ans.gr Ans.gw Ans.gl Ans.gd Ans.opt joinK W
set_option maxHeartbeats 4000000
theorem c302(y z:Int)(hy:-1000000≤y∧y≤1000000)(hz:-1000000≤z∧z≤1000000):PC 161 [iv y,iv z] (iv (y+z)):=by
 refine Qb hP g161.ok rfl rfl ?_;rw[H2.e]; unfold g161; dsimp only;refine Za rfl ?_;rw[wrapI (by omega) (by omega)]
theorem c303(y z:Int)(hy:-1000000≤y∧y≤1000000)(hz:-1000000≤z∧z≤1000000):PC 162 [iv y,iv z] (iv (y-z)):=by
 refine Qb hP g162.ok rfl rfl ?_;rw[H2.e]; unfold g162; dsimp only;refine Za rfl ?_;rw[wrapI (by omega) (by omega)]
theorem YdH{y z:Int}(hy:-1000000≤y∧y≤1000000)(hz:-1000000≤z∧z≤1000000):-1000000000000≤y*z∧y*z≤1000000000000:=by
 have h1:(y*z).natAbs≤1000000*1000000:=by rw[Int.natAbs_mul]; exact Nat.mul_le_mul (by omega) (by omega)
 omega
theorem c304(y z:Int)(hy:-1000000≤y∧y≤1000000)(hz:-1000000≤z∧z≤1000000):PC 163 [iv y,iv z] (iv (y*z)):=by
 refine Qb hP g163.ok rfl rfl ?_;rw[H2.e]; unfold g163; dsimp only;refine Za rfl ?_;have:=YdH hy hz;rw[wrapI (by omega) (by omega)]
theorem c305(y z:Int):PC 164 [iv y,iv z] (iv (min y z)):=by
 refine Qb hP g164.ok rfl rfl ?_;rw[H2.e]; unfold g164; dsimp only;exact Za (XU ..) rfl
theorem c306(y z:Int):PC 165 [iv y,iv z] (iv (max y z)):=by
 refine Qb hP g165.ok rfl rfl ?_;rw[H2.e]; unfold g165; dsimp only;exact Za (Qad ..) rfl
theorem c301(b:Bk)(hf:bkFit b=true)(hsm:Yj b.cards)(s:St)(hs:StLe 1000000000 s)(hm:mayR (bkR b).1 b s true=true)(sd tg:Int)(y:AVal):PC 159 [y,.rptr [asP b s sd tg] 0] (iv (powId b s tg).1):=by
 refine Qb hP g159.ok rfl rfl ?_;rw[H2.e]; unfold g159; dsimp only;refine Zd (ldr (row:=[asP b s sd tg]) rfl) rfl (Xb rfl (Xb rfl (Zd (ldr (row:=asR b s sd tg) rfl) rfl (Xb rfl (Zd (v:=bkV b) (ldr (row:=bkC b) rfl) rfl ?_)))));refine Zd (ldr (row:=[asP b s sd tg]) rfl) rfl (Xb rfl (Xb rfl (Zd (ldr (row:=asR b s sd tg) rfl) rfl (Xb rfl (Zd (v:=stV s) (ldr (row:=stC s) rfl) rfl ?_)))));refine Zd (ldr (row:=[asP b s sd tg]) rfl) rfl (Xb rfl (Xb rfl (Xb rfl (Zd (v:=iv tg) (ldr (row:=asR b s sd tg) rfl) rfl (Xe (c54 b hf hsm s hs hm tg) rfl g160.ok.plain rfl ?_)))));exact Xb rfl (Xb rfl (Xb rfl (Yn (by kernel_rfl) rfl)))
@[reducible] def capA(b:Bk)(s:St)(sd tg:Int):AVal:=.rptr [asP b s sd tg] 0
@[reducible] def clA(b:Bk)(s:St)(sd tg:Int):AVal:=.agg [.func (.func 151) [] [],.func (.func 152) [] [capA b s sd tg],.func (.func 154) [] [capA b s sd tg],.func (.func 155) [] [capA b s sd tg],.func (.func 156) [] [capA b s sd tg],.func (.func 157) [] [capA b s sd tg],.func (.func 158) [] [capA b s sd tg],.func (.func 159) [] [capA b s sd tg]]
theorem c291(b:Bk)(s:St)(sd tg:Int):PC 149 [asP b s sd tg] (clA b s sd tg):=by
 refine ZbH hP g149.ok rfl ⟨.agg [.func (.func 151) [] [],.func (.func 152) [] [.bptr 0 0],.func (.func 154) [] [.bptr 0 0],.func (.func 155) [] [.bptr 0 0],.func (.func 156) [] [.bptr 0 0],.func (.func 157) [] [.bptr 0 0],.func (.func 158) [] [.bptr 0 0],.func (.func 159) [] [.bptr 0 0]],
  [.box [asP b s sd tg],.box [.func (.func 151) [] [],.func (.func 152) [] [.bptr 0 0],.func (.func 154) [] [.bptr 0 0],.func (.func 155) [] [.bptr 0 0],.func (.func 156) [] [.bptr 0 0],.func (.func 157) [] [.bptr 0 0],.func (.func 158) [] [.bptr 0 0],.func (.func 159) [] [.bptr 0 0]]],rfl,?_⟩
 rw[H1.e]; unfold g149; dsimp only;refine Qa rfl rfl (Qa rfl rfl ?_);repeat first|refine Za rfl ?_|refine Qa rfl rfl ?_
 exact Yi rfl ⟨rfl,rfl⟩
@[reducible] def clB:AVal:=.agg [.func (.func 161) [] [],.func (.func 162) [] [],.func (.func 163) [] [],.func (.func 164) [] [],.func (.func 165) [] []]
theorem c292:PC 150 [] clB:=by
 refine Qb hP g150.ok rfl rfl ?_;unfold g150; dsimp only[H0.u];exact Qa rfl rfl (Za rfl (Qa rfl rfl (Yi rfl rfl)))
end Go.Ah.Tz
end
section
namespace Go.Ah.Tz
open Go.Proofs.Tryz (prog)
set_option maxRecDepth 100000
attribute [local irreducible] Ans.rd Ans.pu Ans.wr Ans.dr Ans.gr Ans.gw Ans.gl Ans.gd Ans.opt joinK W
set_option maxHeartbeats 8000000
theorem c289'(b:Bk)(hf:bkFit b=true)(hsm:Yj b.cards)(s:St)(hs:StLe 1000000000 s)(hm:mayR (bkR b).1 b s true=true)(sd tg:Int)(h0:0≤sd)(h1:sd≤1)(hd:∀c∈(sdK s sd).deck,0≤c∧c.toNat<b.cards.length)(t:Bool) :
  ∀(k:Nat) (x:Nm) (row:List AVal) (j:Nat),NmAt row j x→SizeOf.sizeOf x≤k→nmFit x=true→nmOk t x=true→PC 147 [.agg [.rptr row j],asP b s sd tg] (.iface 3 (iv (numF b s sd tg x)))
 |0,x,_,_,_,h,_,_=>by cases x; simp at h
 |k+1,x,row,j,hx,hk,hfx,hok=>by
  have hk1:=hok;rw[YbT] at hk1;simp only[Bool.and_eq_true] at hk1;obtain⟨k1,k2,k3⟩:=hk1;simp only[nmTop,Bool.and_eq_true,decide_eq_true_eq] at k1;obtain⟨ka,kb,kc⟩:=k1;refine Qb hP g147.ok rfl rfl ?_;rw[H2.e]; unfold g147; dsimp only;refine Qa (v:=.bptr 0 0) (rd:=[]) (up:=[(0,.box [.rptr row j])]) rfl rfl (Za rfl (Za (ld (row:=[.rptr row j]) rfl rfl) (Za rfl (Za rfl (Za (ldr hx.h0) (Za (v:=.bool (decide (x.op<8))) rfl ?_))))));refine Zb (λh=>?_) (λh=>?_)
  ·have h:x.op<8:=by simpa using h
   have hv:numF b s sd tg x=brt (XcO b s sd tg x.op x.n x.who):=by rw[QbT,if_pos h]
   rw[hv];refine Xe (c291 b s sd tg) rfl g149.ok.plain rfl ?_;refine Xb rfl (Zd (ld (row:=[.rptr row j]) rfl rfl) rfl (Xb rfl (Xb rfl (Zd (ldr hx.h0) rfl ?_))));have hop:x.op=0∨x.op=1∨x.op=2∨x.op=3∨x.op=4∨x.op=5∨x.op=6∨x.op=7:=by omega
   rcases hop with e|e|e|e|e|e|e|e<;>rw[e]
   ·exact Xb rfl (Xb rfl (Zd (ld (row:=[.rptr row j]) rfl rfl) rfl (Xe (c293 row j x hx) rfl g151.ok.plain rfl (Xe (c290 _) rfl g148.ok.plain rfl (Xb rfl (Yn (by kernel_rfl) rfl))))))
   ·exact Xb rfl (Xb rfl (Zd (ld (row:=[.rptr row j]) rfl rfl) rfl (Xe (c294 b s sd tg h0 h1 row j x hx) rfl g152.ok.plain rfl (Xe (c290 _) rfl g148.ok.plain rfl (Xb rfl (Yn (by kernel_rfl) rfl))))))
   ·exact Xb rfl (Xb rfl (Zd (ld (row:=[.rptr row j]) rfl rfl) rfl (Xe (c296 b s sd tg h0 h1 row j x hx) rfl g154.ok.plain rfl (Xe (c290 _) rfl g148.ok.plain rfl (Xb rfl (Yn (by kernel_rfl) rfl))))))
   ·exact Xb rfl (Xb rfl (Zd (ld (row:=[.rptr row j]) rfl rfl) rfl (Xe (c297 b s sd tg h0 h1 row j x hx) rfl g155.ok.plain rfl (Xe (c290 _) rfl g148.ok.plain rfl (Xb rfl (Yn (by kernel_rfl) rfl))))))
   ·exact Xb rfl (Xb rfl (Zd (ld (row:=[.rptr row j]) rfl rfl) rfl (Xe (c298 b s sd tg h0 h1 row j x hx) rfl g156.ok.plain rfl (Xe (c290 _) rfl g148.ok.plain rfl (Xb rfl (Yn (by kernel_rfl) rfl))))))
   ·exact Xb rfl (Xb rfl (Zd (ld (row:=[.rptr row j]) rfl rfl) rfl (Xe (c299 b s sd tg h0 h1 _) rfl g157.ok.plain rfl (Xe (c290 _) rfl g148.ok.plain rfl (Xb rfl (Yn (by kernel_rfl) rfl))))))
   ·exact Xb rfl (Xb rfl (Zd (ld (row:=[.rptr row j]) rfl rfl) rfl (Xe (c300 b s sd tg h0 h1 hd _) rfl g158.ok.plain rfl (Xe (c290 _) rfl g148.ok.plain rfl (Xb rfl (Yn (by kernel_rfl) rfl))))))
   ·exact Xb rfl (Xb rfl (Zd (ld (row:=[.rptr row j]) rfl rfl) rfl (Xe (c301 b hf hsm s hs hm sd tg _) rfl g159.ok.plain rfl (Xe (c290 _) rfl g148.ok.plain rfl (Xb rfl (Yn (by kernel_rfl) rfl))))))
  ·have h:¬x.op<8:=by simpa using h
   have hl:x.kids.length=2:=by rw[kc]; simp[nmK]; omega
   have hm0:x.kids[0]∈x.kids:=List.getElem_mem (by omega);have hm1:x.kids[1]∈x.kids:=List.getElem_mem (by omega);have hks:∀y∈x.kids,nmOk t y=true:=by
    have:∀l:List Nm,nmsOk t l=true→∀y∈l,nmOk t y=true:=by
     intro l
     induction l with
     |nil=>intro _ y hy; simp at hy
     |cons a l ih=>
      intro hh y hy;simp only[nmsOk,Bool.and_eq_true] at hh;simp only[List.mem_cons] at hy;rcases hy with rfl|hy
      ·exact hh.1
      ·exact ih hh.2 y hy
    exact this _ k2
   have hv:numF b s sd tg x=brt (bothF x.op (numF b s sd tg x.kids[0]) (numF b s sd tg x.kids[1])):=by
    rw[QbT,if_neg h];have hkk:x.kids=[x.kids[0],x.kids[1]]:=by
     apply List.ext_getElem (by simp[hl]);intro i h1 h2;have:i=0∨i=1:=by simp at h2; omega
     rcases this with rfl|rfl<;>rfl
    conv=>lhs; rw[hkk]
    simp[numFs,bothL]
   rw[hv];have r0:=c289' b hf hsm s hs hm sd tg h0 h1 hd t k x.kids[0] (nmC x.kids[0]) 0 (nmAt _) (by have:=Za2 hm0; omega) (Q7 hfx hm0) (hks _ hm0);have r1:=c289' b hf hsm s hs hm sd tg h0 h1 hd t k x.kids[1] (nmC x.kids[1]) 0 (nmAt _) (by have:=Za2 hm1; omega) (Q7 hfx hm1) (hks _ hm1);have b0:=XbT b s sd tg x.kids[0];have b1:=XbT b s sd tg x.kids[1];refine Za rfl (Za (ld (row:=[.rptr row j]) rfl rfl) (Za rfl (Za rfl (Za (ldr hx.h3) (Za (Xw _ nmC _ _ _ x.kids _ 0 (by omega)) (Za rfl (Zc r0 rfl g147.ok.plain rfl (Za rfl ?_))))))));refine Za rfl (Za (ld (row:=[.rptr row j]) rfl rfl) (Za rfl (Za rfl (Za (ldr hx.h3) (Za (Xw _ nmC _ _ _ x.kids _ 1 (by omega)) (Za rfl (Zc r1 rfl g147.ok.plain rfl (Za rfl ?_))))))));refine Xe c292 rfl g150.ok.plain rfl (Xb rfl (Zd (ld (row:=[.rptr row j]) rfl rfl) rfl (Xb rfl (Xb rfl (Zd (ldr hx.h0) rfl ?_)))));have hop:x.op=8∨x.op=9∨x.op=10∨x.op=11∨x.op=12:=by omega
   rcases hop with e|e|e|e|e<;>rw[e]
   ·exact Xb rfl (Xb rfl (Xe (c302 _ _ b0 b1) rfl g161.ok.plain rfl (Xe (c290 _) rfl g148.ok.plain rfl (Xb rfl (Yn (by kernel_rfl) rfl)))))
   ·exact Xb rfl (Xb rfl (Xe (c303 _ _ b0 b1) rfl g162.ok.plain rfl (Xe (c290 _) rfl g148.ok.plain rfl (Xb rfl (Yn (by kernel_rfl) rfl)))))
   ·exact Xb rfl (Xb rfl (Xe (c304 _ _ b0 b1) rfl g163.ok.plain rfl (Xe (c290 _) rfl g148.ok.plain rfl (Xb rfl (Yn (by kernel_rfl) rfl)))))
   ·exact Xb rfl (Xb rfl (Xe (c305 _ _) rfl g164.ok.plain rfl (Xe (c290 _) rfl g148.ok.plain rfl (Xb rfl (Yn (by kernel_rfl) rfl)))))
   ·exact Xb rfl (Xb rfl (Xe (c306 _ _) rfl g165.ok.plain rfl (Xe (c290 _) rfl g148.ok.plain rfl (Xb rfl (Yn (by kernel_rfl) rfl)))))
end Go.Ah.Tz
end
section
namespace Go.Ah.Tz
open Go.Proofs.Tryz (prog)
set_option maxRecDepth 100000
attribute [local irreducible] Ans.rd Ans.pu Ans.wr Ans.dr Ans.gr Ans.gw Ans.gl Ans.gd Ans.opt joinK W
set_option maxHeartbeats 4000000
theorem c125(cs:List Cd)(hf:QN cs=true)(l:List Ef)(hl:lsFit l=true):PC 82 [cdV cs,efV l] (.bool (lstOk cs true 1 l)):=by
 simp only[QN,Bool.and_eq_true,decide_eq_true_eq] at hf;obtain⟨f0,f1⟩:=hf;rw[bigE] at f0;refine Qb hP g82.ok rfl rfl ?_;rw[H2.e]; unfold g82; dsimp only;refine Qa rfl rfl (Za rfl ?_);refine Xn (ι:=Nat) (λi vs σ=>∃m,vs=[iv i]∧hget σ 0=.map (mpE m)∧0<σ.length∧i≤cs.length∧UnitsO m (cs.take i)) (λi=>cs.length-i) 0 ⟨[],rfl,rfl,by simp,by omega,λt=>by simp[tlook,findO]⟩ ?_;rintro i vs σ again ⟨m,rfl,hm,hln,hi,hu⟩ hag;refine Za rfl ?_;refine Zb (λh=>?_) (λh=>?_)
 ·have hil:i<cs.length:=by simpa using h
  have hix:=λ(s:List ABlk)=>Xw s cdC false false 12 cs .i64 i hil;have htk:cs.take (i+1)=cs.take i++[cs[i]]:=XI cs i hil;generalize cs[i]=c at hix htk;refine Xj λk10 hk10=>?_;have kk:∀m' σ',UnitsO m' (cs.take i++[c])→hget σ' 0=.map (mpE m')→0<σ'.length→k10 [] σ':=by
   intro m' σ' q1 q3 q4;rw[hk10];refine Za (Zl ..) ?_;rw[Zg (n:=i) (by omega)];exact hag (i+1) _ _ (by omega) ⟨m',rfl,q3,q4,by omega,by rw[htk]; exact q1⟩
  clear hk10 hag;refine Za (hix _) (Za (ldr (cdLd _)) (XG (row:=cdC c) (row':=cdC c) rfl rfl rfl ?_));have hB0:=Zf σ (ABlk.box (cdC c));have hm':hget (σ++[ABlk.box (cdC c)]) 0=.map (mpE m):=Ze _ hm (by simp);have hl':0<(σ++[ABlk.box (cdC c)]).length:=by simp
  generalize σ++[ABlk.box (cdC c)]=base at hB0 hm' hl' ⊢;generalize σ.length=b at hB0 ⊢;refine Za rfl (Za (ld hB0 rfl) (Za (ZcC hm' _) (Za rfl (Za rfl (Za rfl ?_)))));refine Zb (λh=>?_) (λh=>?_)
  ·have h:(tlook c.name m).isSome=false:=by simpa using h
   refine Za rfl (Za (ld hB0 rfl) (Za rfl (Za (ld hB0 rfl) (Qa (Qbd hm' _ _) (Qi _ hl') ?_))));exact kk _ _ (hu.new h) (Xf _ hl') (by simpa using hl')
  ·have h:(tlook c.name m).isSome=true:=by simpa using h
   exact kk _ _ (hu.old h) hm' hl'
 have h:i=cs.length:=by simp at h; omega
 subst h;rw[List.take_length] at hu;refine Za rfl (Qa (v:=.bptr σ.length 0) (rd:=[]) (up:=[(σ.length,.box [.map 0,.bool true])]) rfl (Yk _ _) ?_);have hB:=Zf σ (ABlk.box [.map 0,.bool true]);have hm':hget (σ++[ABlk.box [.map 0,.bool true]]) 0=.map (mpE m):=Ze _ hm (by simp);refine Xy (rd:=[0,σ.length]) (c157 m cs hu.units true l 1 hl (by omega)) rfl g69.ok.plain (.cons (Bor.box (YJ hB) (by simp) (.cons (Bor.map (Yay hm') (by simp) (XbU (QaS m))) (BorL.ro rfl))) (BorL.ro rfl)) rfl ?_;rfl
def cn0:Cn:=.mk 0 0 [] [] []
def gainE(x:Nm):Ef:=.mk 3 0 x [] cn0 [] []
def Ybj(x:Nm):Cd:=⟨[80,114,111,98,101],false,0,0,0,0,0,0,[gainE x],[],[],0⟩
@[reducible] def gainR(x:Nm):List AVal:=[iv8 3,iv8 0,iv8 x.op,iv x.n,iv8 x.who,.rsl false false 4 (x.kids.map nmC),.str [],iv8 0,iv8 0,.str [],.nils,.nils,.nils,.nils]
theorem Zc6{h0:Hp}{rd:List Nat}(x:Nm):BorL h0 rd (gainR x) (efC (gainE x)):=by
 rw[Qv];exact .cons (Bor.ro rfl) <| .cons (Bor.ro rfl) <| .cons (Bor.ro rfl) <| .cons (Bor.ro rfl) <| .cons (Bor.ro rfl) <| .cons (Bor.ro rfl) <| .cons (Bor.ro rfl) <| .cons (Bor.ro rfl) <| .cons (Bor.ro rfl) <| .cons (Bor.ro rfl) <|
  .cons (Bor.weak (Bor.ro rfl) (λM u d=>d.nils_rsl 4)) <| .cons (Bor.weak (Bor.ro rfl) (λM u d=>d.nils_rsl 5)) <| .cons (Bor.weak (Bor.ro rfl) (λM u d=>d.nils_rsl 14)) <| .cons (Bor.weak (Bor.ro rfl) (λM u d=>d.nils_rsl 14)) .nil
theorem ZcH{h0:Hp}{rd:List Nat}(x:Nm){b:Nat}(hb:h0 b=some (.rows 14 [gainR x]))(hin:b∈rd):Bor h0 rd (.sl b 0 1 true) (efV [gainE x]):=by
 refine Bor.weak (y:=.rsl true false 14 [efC (gainE x)]) (Bor.sl hb hin (by simp) rfl (λi row row' e1 e2=>?_)) (λM u d=>d.rsl_weak)
 match i with
 |0=>simp at e1 e2; subst e1; subst e2; exact Zc6 x
 |i+1=>simp at e2
theorem Qb3{x:Nm}(h:nmFit x=true):lsFit [gainE x]=true:=by
 simp[lsFit,gainE,QU,efFit,h,cnFit,cn0,bigE,Xaz,XaU,i8B]
theorem c82(b:Bk)(hf:bkFit b=true)(x:Nm)(hx:nmFit x=true)(hok:nmOk true x=true)(hw:nmW x≤200):PC 58 [.rptr (nmC x) 0,.nilp,.rptr (bkC b) 0] (.bool true):=by
 have hcs:QN b.cards=true:=by
  simp only[bkFit,Bool.and_eq_true] at hf; exact hf.1
 have hlen:((nmP x).length:Int)=nmW x:=by have:=YcM x; omega
 have hP1:(cdP (Ybj x)).length=1+(nmP x).length:=by simp[cdP,Ybj,efPs,gainE,efP,cntOp]; omega
 have hW:cdW (Ybj x)=1+nmW x:=by rw[Xcu,hP1]; omega
 have hlst:lstOk b.cards true 1 [gainE x]=true:=by
  simp[lstOk,efsOk,XaD,gainE,Ef.op,Ef.c,Ef.thn,Ef.els,Ef.n,Ef.name,Ef.who,cntOp,hok,noCond,cn0,efEnd,efMid,Cn.op,Cn.who,Cn.name,Cn.nums,Cn.kids]
 have hw1:decide (cdW (Ybj x)-1>200)=false:=decide_eq_false (by omega);have h124:=c124 (Ybj x) (Qb3 hx) rfl rfl (by rw[hP1]; omega);have h125:=c125 b.cards hcs [gainE x] (Qb3 hx);rw[hlst] at h125;rw[YG];refine Qb hP g58.ok rfl rfl ?_;rw[H3.e]; unfold g58; dsimp only;refine Za rfl (Qa (v:=.bptr 0 0) rfl rfl (Qa (v:=.junk) (rd:=[]) (up:=[(0,.box [iv8 3,iv8 0,iv8 0,iv 0,iv8 0,.nils,.str [],iv8 0,iv8 0,.str [],.nils,.nils,.nils,.nils])]) rfl rfl (Za rfl (Za6 (Yd (Za rfl (Za (ldr rfl) (Za rfl ?_))))))));refine Qa (v:=.junk) (rd:=[]) (up:=[(0,.box (gainR x))]) rfl rfl ?_;refine Za (ld (row:=gainR x) rfl rfl) (Qa (v:=.sl 1 0 1 true) (rd:=[]) (up:=[(1,.rows 14 [gainR x])]) rfl rfl (Za rfl (Qa (v:=.bptr 2 0) rfl rfl ?_)));refine Qa (v:=.junk) (rd:=[]) (up:=[(2,.box [.str [80,114,111,98,101],.bool false,iv 0,iv 0,iv 0,iv 0,iv 0,iv 0,.sl 1 0 1 true,.nils,.nils,iv 0])]) rfl rfl ?_;refine Za (ld (row:=[.str [80,114,111,98,101],.bool false,iv 0,iv 0,iv 0,iv 0,iv 0,iv 0,.sl 1 0 1 true,.nils,.nils,iv 0]) rfl rfl) ?_;refine Xy (rd:=[1]) h124 rfl g68.ok.plain (.cons (Bor.agg ?_) .nil) rfl ?_
 ·exact .cons (Bor.ro rfl) <| .cons (Bor.ro rfl) <| .cons (Bor.ro rfl) <| .cons (Bor.ro rfl) <| .cons (Bor.ro rfl) <| .cons (Bor.ro rfl) <| .cons (Bor.ro rfl) <| .cons (Bor.ro rfl) <| .cons (ZcH x rfl (by simp)) <|
   .cons (Bor.weak (Bor.ro rfl) (λM u d=>d.nils_rsl 14)) <| .cons (Bor.weak (Bor.ro rfl) (λM u d=>d.nils_rsl 14)) <| .cons (Bor.ro rfl) .nil
 refine Za (ZaD ..) ?_;rw[wrapI (by omega) (by omega)];refine Za (v:=.bool (decide (cdW (Ybj x)-1>200))) rfl ?_;rw[hw1];refine Yc (Xb rfl (Xb rfl (Zd (v:=cdV b.cards) (ldr (row:=bkC b) rfl) rfl (Xb rfl (Zd (v:=.sl 1 0 1 true) (ld (row:=[.str [80,114,111,98,101],.bool false,iv 0,iv 0,iv 0,iv 0,iv 0,iv 0,.sl 1 0 1 true,.nils,.nils,iv 0]) rfl rfl) rfl ?_)))));exact QX (rd:=[1]) h125 rfl g82.ok.plain (.cons (Bor.ro rfl) (.cons (ZcH x rfl (by simp)) .nil)) rfl (Yn (by kernel_rfl) rfl)
end Go.Ah.Tz
end
section
namespace Go.Ah.Tz
open Go.Proofs.Tryz (prog)
set_option maxRecDepth 100000
theorem QcK{e:Int}{b:Bk}{s:St}(h:mayR e b s false=true):mayR e b s true=true:=by
 simp only[mayR,Bool.and_eq_true] at h ⊢;obtain⟨a1,a2,a3,a4,a5,a6,a7,a8,a9,b1,b2,b3,b4,h⟩:=h;refine⟨a1,a2,a3,a4,a5,a6,a7,a8,a9,b1,b2,b3,b4,?_⟩;split at h
 ·rename_i q; rw[if_pos q]; exact h
 ·rename_i q; rw[if_neg q]; simp only[Bool.and_eq_true] at h ⊢; exact⟨by simp,h.2⟩
def nm0:Nm:=.mk 0 0 0 []
theorem g81_plain:Zh prog 57=true:=by kernel_rfl
attribute [local irreducible] Ans.rd Ans.pu Ans.wr Ans.dr Ans.gr Ans.gw Ans.gl Ans.gd Ans.opt joinK W
set_option maxHeartbeats 4000000
theorem c31(b:Bk)(hf:bkFit b=true)(hsm:Yj b.cards)(s:St)(hs:StLe 1000000000 s)(hm:mayR (bkR b).1 b s true=true)(sd tg:Int)(h0:0≤sd)(h1:sd≤1)(hd:∀c∈(sdK s sd).deck,0≤c∧c.toNat<b.cards.length)
 (x:Nm)(hx:nmFit x=true)(hok:nmOk true x=true)(hw:nmW x≤200):PC 41 [bkV b,stV s,.agg [iv sd,iv tg],.agg (nmC x)] (.tup [iv (numF b s sd tg x),iv 0]):=by
 have hz:=c289' b hf hsm s hs hm sd tg h0 h1 hd true _ nm0 (nmC nm0) 0 (nmAt _) (Nat.le_refl _) rfl rfl;have h289:=c289' b hf hsm s hs hm sd tg h0 h1 hd true _ x (nmC x) 0 (nmAt _) (Nat.le_refl _) hx hok;have a0:=c81 b hf hsm s hs hm sd tg h0 h1 _ _ _ hz;have a1:=c81 b hf hsm s hs hm sd tg h0 h1 _ _ _ h289;have h82:=c82 b hf x hx hok hw;refine Qb hP g41.ok rfl rfl ?_;rw[H4.e]; unfold g41; dsimp only;refine Qa (v:=.bptr 0 0) (rd:=[]) (up:=[(0,.box (bkC b))]) rfl rfl (Qa (v:=.bptr 1 0) (rd:=[]) (up:=[(1,.box (stC s))]) rfl rfl (Qa (v:=.bptr 2 0) rfl rfl ?_));refine Qa (v:=.bptr 3 0) (rd:=[]) (up:=[(3,.box (nmC x))]) (by rw[YG]; rfl) rfl ?_;refine Za (ld (row:=[iv sd,iv tg]) rfl rfl) (Za rfl (Qa (v:=.bptr 4 0) rfl rfl (Za rfl (Za rfl ?_))));have B0:∀ {σ:List ABlk} {rd:List Nat},hget σ 0=.box (bkC b)→0∈rd→Bor (hp σ) rd (.bptr 0 0) (.rptr (bkC b) 0):=λh hin=>Bor.box (YJ h) hin (BorL.ro rfl);have B1:∀ {σ:List ABlk} {rd:List Nat},hget σ 1=.box (stC s)→1∈rd→Bor (hp σ) rd (.bptr 1 0) (.rptr (stC s) 0):=λh hin=>Bor.box (YJ h) hin (BorL.ro rfl);have B3:∀ {σ:List ABlk} {rd:List Nat},hget σ 3=.box (nmC x)→3∈rd→Bor (hp σ) rd (.bptr 3 0) (.rptr (nmC x) 0):=λh hin=>Bor.box (YJ h) hin (BorL.ro (by have:=nmRo x; simpa[roL,AVal.ro] using this));refine Xy (rd:=[0,1,4]) a0 rfl g81_plain (.cons (B0 rfl (by simp)) <| .cons (B1 rfl (by simp)) <| .cons (Bor.ro rfl) <| .cons (Bor.iface (Bor.agg (.cons (Bor.box (row:=[iv8 0,iv 0,iv8 0,.nils]) rfl (by simp) ?_) .nil))) .nil) rfl ?_
 ·exact .cons (Bor.ro rfl) <| .cons (Bor.ro rfl) <| .cons (Bor.ro rfl) <| .cons (Bor.weak (Bor.ro rfl) (λM u d=>d.nils_rsl 4)) .nil
 refine Za rfl (Za rfl (Za rfl (Yb ?_)));refine Xy (rd:=[0,3]) h82 rfl g58.ok.plain (.cons (B3 rfl (by simp)) <| .cons (Bor.ro rfl) <| .cons (B0 rfl (by simp)) .nil) rfl ?_;refine Ya (Za rfl (Za rfl (Yc (Za rfl (Za6 (Yd ?_))))));refine Za (ld (row:=[iv sd,iv tg]) rfl rfl) (Za rfl (Za rfl ?_));refine Xy (rd:=[0,1,3]) a1 rfl g81_plain (.cons (B0 rfl (by simp)) <| .cons (B1 rfl (by simp)) <| .cons (Bor.ro rfl) <| .cons (Bor.iface (Bor.agg (.cons (B3 rfl (by simp)) .nil))) .nil) rfl ?_;exact Za rfl (Za rfl (Za rfl (Yc (Za rfl rfl))))
end Go.Ah.Tz
end
section
namespace Go.Ah.Tz
open Go.Proofs.Tryz (prog)
set_option maxRecDepth 100000
@[reducible] def rnC(b:Bk)(s:St)(sd tg:Int)(lv:AVal)(fu:Int)(mv:AVal):List AVal:=bkC b++(stC s++[iv sd,iv tg,lv,iv fu,mv])
@[reducible] def evX(e:Ev)(cv:AVal):List AVal:=[iv8 e.kind,iv e.side,iv e.card,iv e.id,iv e.other,iv e.n,cv]
def CvOk(cv:AVal)(l:List Int):Prop:=cv=rowV l∨(cv=.nils∧l=[])
inductive EvRs:List (List AVal)→List Ev→Prop
 |nil:EvRs [] []
 |snoc (rows:List (List AVal)) (l:List Ev) (e:Ev) (cv:AVal):EvRs rows l→CvOk cv e.cards→EvRs (rows++[evX e cv]) (l++[e])
theorem EvRs.len{rows:List (List AVal)}{l:List Ev}(h:EvRs rows l):rows.length=l.length:=by
 induction h with
 |nil=>rfl
 |snoc _ _ _ _ _ _ ih=>simp[ih]
def LV(rb:Nat)(l:List Ev)(lv:AVal)(σ:List ABlk):Prop:=(l=[]∧lv=.nils)∨(l≠[]∧∃c rows,c≠rb∧lv=.sl c 0 l.length false∧hget σ c=.rows 7 rows∧EvRs rows l)
structure Fr (rb:Nat) (lv lv':AVal) (σ σ':List ABlk):Prop where
 len:σ.length≤σ'.length
 keep:∀k,k<σ.length→k≠rb→(∀n,lv≠.sl k 0 n false)→hget σ' k=hget σ k
 new:∀k n,lv'=.sl k 0 n false→σ.length≤k∨∃m,lv=.sl k 0 m false
theorem Fr.trans{rb:Nat}{a b c:AVal}{σ τ υ:List ABlk}(h:Fr rb a b σ τ)(q:Fr rb b c τ υ):Fr rb a c σ υ:=by
 refine⟨Nat.le_trans h.len q.len,λk hk hr hn=>?_,λk n e=>?_⟩
 ·rw[q.keep k (Nat.lt_of_lt_of_le hk h.len) hr (λn e=>?_),h.keep k hk hr hn];rcases h.new k n e with h1|⟨m,h1⟩
  ·omega
  ·exact hn m h1
 ·rcases q.new k n e with h1|⟨m,h1⟩
  ·exact .inl (Nat.le_trans h.len h1)
  ·exact h.new k m h1
theorem Fr.app{rb:Nat}{lv:AVal}{σ:List ABlk}(l:List ABlk)(hlv:∀k n,lv=.sl k 0 n false→k<σ.length):Fr rb lv lv σ (σ++l):=
 ⟨by simp,λk hk _ _=>Ym l hk,λk n h=>.inr ⟨n,h⟩⟩
theorem Fr.set{rb:Nat}(lv:AVal){σ:List ABlk}(x:ABlk):Fr rb lv lv σ (σ.set rb x):=
 ⟨by simp,λk hk hr _=>Xd x hk hr,λk n h=>.inr ⟨n,h⟩⟩
theorem LV.lt{rb:Nat}{l:List Ev}{lv:AVal}{σ:List ABlk}(h:LV rb l lv σ){k n:Nat}(e:lv=.sl k 0 n false):k<σ.length:=by
 rcases h with ⟨_,h⟩|⟨_,c,rows,_,h,hc,_⟩
 ·rw[h] at e; cases e
 ·rw[h] at e; cases e; exact Xi hc (by simp)
theorem LV.old{rb:Nat}{l:List Ev}{lv:AVal}{σ σ':List ABlk}(h:LV rb l lv σ)(hk:∀k,k<σ.length→k≠rb→hget σ' k=hget σ k):LV rb l lv σ':=by
 rcases h with h|⟨h0,c,rows,h1,h2,hc,h3⟩
 ·exact .inl h
 ·exact .inr ⟨h0,c,rows,h1,h2,by rw[hk c (Xi hc (by simp)) h1]; exact hc,h3⟩
attribute [local irreducible] Ans.rd Ans.pu Ans.wr Ans.dr Ans.gr Ans.gw Ans.gl Ans.gd Ans.opt joinK W
set_option maxHeartbeats 4000000
theorem ZdB(n by_:Nat){σ:List ABlk}{c:Nat}{row:List AVal}(hc:hget σ c=.rows n [row])(hr:row.all AVal.cell=true)(hroom:194*by_≤2 ^ 48) :
  Zo n by_ [.nils,.sl c 0 1 true] σ=.ok (.sl σ.length 0 1 false) [c] [(σ.length,.rows n [row])]:=by
 have h1:Xr n σ (.sl c 0 1 true)=some ([row],[c]):=by
  simp only[Xr,hc];simp[cut]; rfl
 show QJ n by_ σ [] [] (.sl c 0 1 true)=_;unfold QJ;simp only[h1,Z4 hr];simp;rw[show Nat.ble (194*by_) 281474976710656=true from Nat.ble_eq_true_of_le (by simpa using hroom)];rfl
theorem e_bEv{e:Ev}{cv:AVal}{l:List Int}(hcv:CvOk cv l)(σ:List ABlk):ZB 7 1 [.int .i8 0,.int .i64 0,.int .i64 0,.int .i64 0,.int .i64 0,.int .i64 0,.nils] [(0,7)] [.agg (evX e cv)] σ=.ok (.sl σ.length 0 1 true) [] [(σ.length,.rows 7 [evX e cv])]:=by
 rcases hcv with rfl|⟨rfl,_⟩<;>rfl
theorem YdB{e:Ev}{cv:AVal}{l:List Int}(hcv:CvOk cv l)(σ:List ABlk):Xac [.agg (evX e cv)] σ=.ok (.bptr σ.length 0) [] [(σ.length,.box (evX e cv))]:=by
 rcases hcv with rfl|⟨rfl,_⟩<;>rfl
theorem Qa4{σ:List ABlk}{rb:Nat}{b:Bk}{s:St}{sd tg fu:Int}{mv lv:AVal}{l:List Ev}(hr:hget σ rb=.box (rnC b s sd tg lv fu mv))(hl:LV rb l lv σ)(hn:l.length≤1000000000)(e:Ev)(cv:AVal)(hcv:CvOk cv e.cards){K:AVal→List ABlk→Prop}
 (hK:∀σ' lv',Fr rb lv lv' σ σ'→hget σ' rb=.box (rnC b s sd tg lv' fu mv)→LV rb (l++[e]) lv' σ'→K (.tup []) σ'):g50.u VV [.bptr rb 0,.agg (evX e cv)] σ K:=by
 have hrb:=Xi hr (by simp);have hcl:(evX e cv).all AVal.cell=true:=by rcases hcv with rfl|⟨rfl,_⟩<;>rfl
 rw[H2.e]; unfold g50; dsimp only;generalize hX:evX e cv=X at *;have r1:=Ze [.box (evX e cv)] hr (by simp);have r2:=Ze [.rows 7 [evX e cv]] r1 (by simp);have f1:=Zf σ (.box (evX e cv));have f2:=Zf (σ++[.box (evX e cv)]) (.rows 7 [evX e cv]);subst hX;refine Qa (YdB (e:=e) hcv _) (Yk σ _) (Xb rfl (Xb rfl (Zd (ld r1 rfl) (Yg _) (Zd (ld f1 (show partA true 0 7 (evX e cv)=some (.agg (evX e cv)) from rfl)) (Yg _) (Zd (e_bEv (e:=e) hcv _) (Yk _ _) ?_)))));have len1:(σ++[ABlk.box (evX e cv)]).length=σ.length+1:=by simp
 have len2:(σ++[ABlk.box (evX e cv)]++[ABlk.rows 7 [evX e cv]]).length=σ.length+2:=by simp
 rcases hl with ⟨rfl,rfl⟩|⟨h0,c,rows,hc0,rfl,hc,hR⟩
 ·refine Zd (ZdB 7 72 f2 hcl (by decide)) (Yk _ _) (Xb rfl (Xb rfl ?_));have r3:=Ze [.rows 7 [evX e cv]] r2 (by simp);have hlt3:=Xi r3 (by simp);refine Zd (stv r3 rfl rfl rfl) (Qi _ hlt3) (Yn (by have hne:rb≠σ.length+1:=(by omega); simp[Xl,Zt,Qn,QD,apart2,disj,List.range,List.range.loop,hne,hne.symm]) ?_);refine hK _ (.sl (σ++[ABlk.box (evX e cv)]++[ABlk.rows 7 [evX e cv]]).length 0 1 false) ⟨by simp,λk hk hkr _=>?_,λk n h=>.inl ?_⟩ ?_ (.inr ⟨by simp,(σ++[ABlk.box (evX e cv)]++[ABlk.rows 7 [evX e cv]]).length,[]++[evX e cv],by rw[len2]; omega,rfl,?_,EvRs.snoc [] [] e cv .nil hcv⟩)
  ·rw[Xd _ (by simp; omega) hkr,Ym _ (by simp; omega),Ym _ (by simp; omega),Ym _ hk]
  ·cases h; rw[len2]; omega
  ·exact Qo (List.getElem?_set_self hlt3)
  ·have:=Zf (σ++[ABlk.box (evX e cv)]++[ABlk.rows 7 [evX e cv]]) (.rows 7 [evX e cv]);rw[Xd _ (by simp) (by rw[len2]; omega),this]; rfl
 ·have hclt:=Xi hc (by simp);have c2:=Ze [.rows 7 [evX e cv]] (Ze [.box (evX e cv)] hc (by simp)) (by simp);have hclt2:c<(σ++[ABlk.box (evX e cv)]++[ABlk.rows 7 [evX e cv]]).length:=by rw[len2]; omega
  refine Zd (YR 7 72 (rs:=rows) c2 f2 hR.len hcl (by omega)) (Zcb _ _ hclt2) (Xb rfl (Xb rfl ?_));have r3:=Ze [.rows 7 (rows++[evX e cv])] (Qe (x:=.dead) r2 (by simp) hc0) (by simp);have hlt3:=Xi r3 (by simp);refine Zd (stv r3 rfl rfl rfl) (Qi _ hlt3) (Yn (by have hne:rb≠σ.length+1:=(by omega); simp[Xl,Zt,Qn,QD,apart2,disj,List.range,List.range.loop,hne,hne.symm]) ?_);refine hK _ (.sl (σ++[ABlk.box (evX e cv)]++[ABlk.rows 7 [evX e cv]]).length 0 (l.length+1) false) ⟨by simp; omega,λk hk hkr hkc=>?_,λk n h=>.inl ?_⟩ ?_ (.inr ⟨by simp,(σ++[ABlk.box (evX e cv)]++[ABlk.rows 7 [evX e cv]]).length,rows++[evX e cv],by rw[len2]; omega,by simp,?_,EvRs.snoc rows l e cv hR hcv⟩)
  ·have hkc':k≠c:=λe=>hkc l.length (by rw[e]);rw[Xd _ (by simp; omega) hkr,Ym _ (by simp; omega),Xd _ (by simp; omega) hkc',Ym _ (by simp; omega),Ym _ hk]
  ·cases h; rw[len2]; omega
  ·exact Qo (List.getElem?_set_self hlt3)
  ·have:=Zf ((σ++[ABlk.box (evX e cv)]++[ABlk.rows 7 [evX e cv]]).set c .dead) (ABlk.rows 7 (rows++[evX e cv]));simp only[List.length_set] at this;rw[Xd _ (by simp) (by rw[len2]; omega),this]
theorem Zdh{σ:List ABlk}{rb:Nat}{b:Bk}{s:St}{sd tg fu:Int}{mv lv:AVal}(hr:hget σ rb=.box (rnC b s sd tg lv fu mv))(h01:sd=0∨sd=1)(who:Int){K:AVal→List ABlk→Prop}(hK:K (iv (whoS sd who)) σ):g52.u VV [.bptr rb 0,iv8 who] σ K:=by
 rw[H2.e]; unfold g52; dsimp only;refine Za (Yf ..) (Zb (λh=>?_) (λh=>?_))
 ·have h:who=1:=by simpa using h
  refine Za rfl (Za rfl (Za rfl (Za (ld hr rfl) (Za (ZaD ..) ?_))));rw[IntWalk.i64_in _ (by omega)];unfold whoS at hK; rwa [if_pos h] at hK
 ·have h:who≠1:=by simpa using h
  refine Za rfl (Za rfl (Za rfl (Za (ld hr rfl) ?_)));unfold whoS at hK; rwa [if_neg h] at hK
end Go.Ah.Tz
end
section
namespace Go.Ah.Tz
open Go.Proofs.Tryz (prog)
set_option maxRecDepth 100000
section
variable {P:Program} {GL:Globs}
theorem Yb8{f:FuncId}{xs:List AVal}{v y:AVal}{bs:List ABlk}(h:NCall P GL f xs v bs)(hy:∃rd,Bor (hp bs) rd v y):PCall P GL f xs y:=by
 obtain⟨rd,hR⟩:=hy;intro w M vs hM hg hx;refine(h w M vs hM hg hx).mono ?_;rintro e w' ⟨u,he,g',hle,r,hd⟩
 let M2:Nat→Option Obj:=λb=>if b<w.heap.size then g'.M b else w'.heap[b]?
 have cov:Cov g' (hp bs) w' M2:=by
  refine⟨λb o e=>?_,λb blk cb o e1 e2 e3 e4 e5=>?_⟩
  ·show (if b<w.heap.size then g'.M b else w'.heap[b]?)=some o;split
   ·exact e
   ·exact r.stable b o e
  ·obtain⟨_,hin,_⟩:=r.own b blk cb e1 e2 e3 e4;show (if cb.blk<w.heap.size then g'.M cb.blk else w'.heap[cb.blk]?)=some o;rcases hin with hin|hin
   ·simp at hin
   ·rw[if_neg (by omega)]; exact e5
 have hd2:=hR GL w ⟨[],M⟩ g' (hp bs) w' M2 r cov (λ_ _=>rfl) u hd;refine⟨u,he,r.keeps,M2,λb o e=>cov.1 b o (hle b o e),λb o e=>?_,λb o e=>?_,hd2⟩
 ·have e':(if b<w.heap.size then g'.M b else w'.heap[b]?)=some o:=e;split at e'
  ·exact r.stable b o e'
  ·exact e'
 ·have e':(if b<w.heap.size then g'.M b else w'.heap[b]?)=some o:=e;split at e'
  ·rcases r.src b o e' with q|q|q
   ·exact .inl q
   ·exact .inr q
   ·simp at q
  ·exact .inr (by omega)
end
attribute [local irreducible] Ans.rd Ans.pu Ans.wr Ans.dr Ans.gr Ans.gw Ans.gl Ans.gd Ans.opt joinK W
set_option maxHeartbeats 4000000
@[reducible] def clipV(l:List Int):AVal:=.rsl true false 1 (l.map cel)
theorem XdB(nn:Bool)(rows:List (List AVal))(h:rows≠[])(σ:List ABlk):XB 1 [.rsl false nn 1 rows,.int .i64 rows.length,.int .i64 rows.length] σ=.ok (.rsl true nn 1 rows) [] []:=by
 cases rows with
 |nil=>exact(h rfl).elim
 |cons r rs=>
  have hb:Nat.ble (r::rs).length (r::rs).length=true:=Nat.ble_eq_true_of_le (Nat.le_refl _);have hc:cut 0 (r::rs).length (r::rs)=r::rs:=by unfold cut; simp
  show (bif Nat.beq 1 1&&(Nat.beq (r::rs).length (r::rs).length&&Nat.ble (r::rs).length (r::rs).length) then SRes.ok (.rsl true nn 1 (cut 0 (r::rs).length (r::rs))) [] [] else .stop)=_;simp only[hb,hc,Nat.beq_refl]; rfl
theorem c405(l:List Int):PC 53 [rowV l] (clipV l):=by
 refine Yt hP g53.ok rfl ?_;rw[H1.e]; unfold g53; dsimp only;refine Za rfl (Za rfl ?_);cases l with
 |nil=>
  refine Za (v:=.cap0) rfl ⟨[],Bor.weak (Bor.ro rfl) (λM u d=>?_)⟩;cases d with
  |cap0 _ a=>exact .rsl _ _ _ _ [] a 0 0 0 (λ_ _=>undef) (λ_=>rfl) (λh=>by cases h) (λh=>(h rfl).elim) (λ_=>rfl) (by simp) (by simp) (by simp) (by simp)
 |cons x l=>exact Za (XdB false ((x::l).map cel) (by simp) _) ⟨[],Bor.ro rfl⟩
theorem c185P(l:List Int)(hl:l.length≤1000000000):PC 31 [rowV l] (rowV l):=
 Yb8 (c96 l hl) ⟨[0],RI.own (b:=0) rfl (by simp) rfl⟩
theorem Xcm(l:List Int):YaA (l.map cel)=true:=by
 induction l with
 |nil=>rfl
 |cons x l ih=>simpa[YaA,cel,roL,AVal.ro] using ih
theorem ZaQ(l m:List Int){y:AVal}{rd:List Nat}{σ:List ABlk}(hy:Xr 1 σ y=some (m.map cel,rd))(hl:l.length+m.length≤1000000000):Zo 1 8 [clipV l,y] σ=.ok (rowV (l++m)) rd []:=by
 show (match Xr 1 σ y with
   |some (ys,rd)=>bif Nat.beq 1 1&&(YaA (l.map cel++ys)&&Nat.ble ((2*((l.map cel).length+ys.length)+192)*8) (2 ^ 48)) then SRes.ok (.rsl false false 1 (l.map cel++ys)) rd [] else .stop
   | none=>.stop)=_
 rw[hy];simp only;rw[←List.map_append,Xcm,show Nat.ble ((2*((l.map cel).length+(m.map cel).length)+192)*8) (2 ^ 48)=true from Nat.ble_eq_true_of_le (by simp only[List.length_map]; omega)];rfl
def tell1(m:List Int)(s:St)(i:Int):St:=s.put i { s.side i with told:=(s.side i).told++m }
def tellS(s:St)(m:List Int)(is:List Int):St:=is.foldl (tell1 m) s
theorem Qcq(s:St)(m is:List Int)(i:Nat)(h:i<is.length):tellS s m (is.take (i+1))=tell1 m (tellS s m (is.take i)) is[i]:=by
 unfold tellS;rw[List.take_succ_eq_append_getElem h,List.foldl_append]; rfl
def TB(N:Nat)(s:St):Prop:=s.s0.told.length≤N∧s.s1.told.length≤N
theorem TB.tell{N:Nat}{s:St}(h:TB N s)(m:List Int){i:Int}(hi:i=0∨i=1):TB (N+m.length) (tell1 m s i):=by
 obtain⟨h1,h2⟩:=h;rcases hi with rfl|rfl
 ·refine⟨?_,?_⟩<;>simp[tell1,St.put,St.side]<;>omega
 ·refine⟨?_,?_⟩<;>simp[tell1,St.put,St.side]<;>omega
theorem Xds{σ:List ABlk}{rb:Nat}{x:ABlk}(h:hget σ rb=x)(hx:x≠.dead):σ.set rb x=σ:=by
 have hl:=Xi h hx;have:=XV h hx;rw[List.getElem?_eq_getElem hl] at this;have e:=Option.some.inj this;rw[←e]; exact List.set_getElem_self hl
theorem Zbm{σ:List ABlk}{rb:Nat}{b:Bk}{s:St}{sd tg fu:Int}{mv lv:AVal}(hr:hget σ rb=.box (rnC b s sd tg lv fu mv))(m:List Int)(y:AVal)(rd:List Nat)(hy:∀x:ABlk,Xr 1 (σ.set rb x) y=some (m.map cel,rd))
 (is:List Int)(k:Nat)(hk:hget σ k=.rows 1 (is.map cel))(hkr:k≠rb)(h01:∀i∈is,i=0∨i=1)(N:Nat)(hT:TB N s)(hN:N+is.length*m.length+m.length≤1000000000)(his:is.length≤1000000000){K:AVal→List ABlk→Prop}
 (hK:K (.tup []) (σ.set rb (.box (rnC b (tellS s m is) sd tg lv fu mv)))):g54.u VV [.bptr rb 0,y,.sl k 0 is.length true] σ K:=by
 have hrb:=Xi hr (by simp);have hkl:=Xi hk (by simp);rw[H3.e]; unfold g54; dsimp only;refine Za rfl ?_;refine Xn (ι:=Nat) (λi vs τ=>vs=[iv i]∧i≤is.length∧TB (N+i*m.length) (tellS s m (is.take i))∧τ=σ.set rb (.box (rnC b (tellS s m (is.take i)) sd tg lv fu mv))) (λi=>is.length-i) 0 ⟨rfl,by omega,by simpa[tellS] using hT,?_⟩ ?_
 ·have:tellS s m (is.take 0)=s:=rfl;rw[this,Xds hr (by simp)]
 rintro i vs τ again ⟨rfl,hi,hT,rfl⟩ hag;refine Za rfl (Zb (λh=>?_) (λh=>?_))
 ·have h:i<is.length:=by simpa using h
  have hkτ:=Qe (x:=.box (rnC b (tellS s m (is.take i)) sd tg lv fu mv)) hk (by simp) hkr.symm;have hg:(is.map cel)[i]?=some [iv is[i]]:=by simp[h,cel]
  refine Za (XcB _ k 0 is.length true 1 (is.map cel) .i64 i h hkτ) (Za (ldp hkτ (by rw[Nat.zero_add]; exact hg) rfl) (Za rfl (Za rfl (Za rfl ?_))));have hrτ:hget (σ.set rb (.box (rnC b (tellS s m (is.take i)) sd tg lv fu mv))) rb=.box (rnC b (tellS s m (is.take i)) sd tg lv fu mv):=Qo (by simp[hrb]);have hlen:rb<(σ.set rb (.box (rnC b (tellS s m (is.take i)) sd tg lv fu mv))).length:=by simpa using hrb
  have hmul:i*m.length≤is.length*m.length:=Nat.mul_le_mul_right _ hi;have hd:=h01 is[i] (List.getElem_mem h);have hnext:tellS s m (is.take (i+1))=tell1 m (tellS s m (is.take i)) is[i]:=Qcq s m is i h;have hT':TB (N+(i+1)*m.length) (tellS s m (is.take (i+1))):=by
   rw[hnext];have:=hT.tell m hd
   rwa [Nat.add_mul,Nat.one_mul,←Nat.add_assoc]
  generalize tellS s m (is.take i)=t at *;generalize is[i]=d at *;have hbd:∀l:List Int,l.length≤N+i*m.length→l.length+m.length≤1000000000:=λl hl=>by omega
  rcases hd with rfl|rfl
  ·refine Za rfl (Za rfl (Za rfl (Za (ld hrτ rfl) (Zc (c405 t.s0.told) rfl g53.ok.plain rfl ?_))));refine Qa (ZaQ t.s0.told m (hy _) (hbd _ hT.1)) rfl (Za rfl (Qa (stv hrτ rfl rfl rfl) (Qi _ hlen) (Za (Zl ..) ?_)));rw[Zg (n:=i) (by omega),List.set_set];exact hag (i+1) _ _ (by omega) ⟨rfl,by omega,hT',by rw[hnext]; rfl⟩
  ·refine Za rfl (Za rfl (Za rfl (Za (ld hrτ rfl) (Zc (c405 t.s1.told) rfl g53.ok.plain rfl ?_))));refine Qa (ZaQ t.s1.told m (hy _) (hbd _ hT.2)) rfl (Za rfl (Qa (stv hrτ rfl rfl rfl) (Qi _ hlen) (Za (Zl ..) ?_)));rw[Zg (n:=i) (by omega),List.set_set];exact hag (i+1) _ _ (by omega) ⟨rfl,by omega,hT',by rw[hnext]; rfl⟩
 ·have h:i=is.length:=by simp at h; omega
  subst h;rw[List.take_length]; exact hK
def Dn(rb:Nat)(b:Bk)(sd tg fu:Int)(l:List Ev)(lv:AVal)(σ:List ABlk)(r:Int×St×List Ev)(v:AVal)(σ':List ABlk):Prop:=
 ∃lv' mv',Fr rb lv lv' σ σ'∧hget σ' rb=.box (rnC b r.2.1 sd tg lv' fu mv')∧v=iv r.1∧(r.1=0→LV rb (l++r.2.2) lv' σ')
def gainF(s:St)(sd n:Int):Int×St×List Ev:=
 if n<0 then (0,s,[]) else if 1000000<(s.side sd).mana+n then (171,s,[]) else (0,s.put sd { s.side sd with mana:=(s.side sd).mana+n },[⟨7,sd,0,0,0,n,[]⟩])
theorem QdE{σ:List ABlk}{rb:Nat}{b:Bk}{s:St}{sd tg fu:Int}{mv lv:AVal}{l:List Ev}(hr:hget σ rb=.box (rnC b s sd tg lv fu mv))(hl:LV rb l lv σ)(hn:l.length≤1000000000)(h01:sd=0∨sd=1)
 (hm:0≤(s.side sd).mana∧(s.side sd).mana≤1000000)(x:Ef)(n:Int)(hb:n≤1000000){K:AVal→List ABlk→Prop}(hK:∀v σ',Dn rb b sd tg fu l lv σ (gainF s sd n) v σ'→K v σ'):g35.u VV [.bptr rb 0,.agg (efC x),iv n] σ K:=by
 have hrb:=Xi hr (by simp);have f0:Fr rb lv lv σ (σ++[ABlk.box (efC x)]):=Fr.app _ (λk n e=>hl.lt e);have r1:=Ze [ABlk.box (efC x)] hr (by simp);have hrb1:rb<(σ++[ABlk.box (efC x)]).length:=by simp; omega
 have l1:LV rb l lv (σ++[ABlk.box (efC x)]):=hl.old (λk hk _=>Ym _ hk);rw[H3.e]; unfold g35; dsimp only;refine Qa (Zaa _ _) (Yk σ _) (Za rfl (Za rfl (Za rfl (Za (ld r1 rfl) (Za rfl (Za rfl (Za rfl ?_)))))));rcases h01 with rfl|rfl
 ·have hm:0≤s.s0.mana∧s.s0.mana≤1000000:=hm;refine Za rfl (Za rfl (Zb (λh=>?_) (λh=>?_)))
  ·have h:n<0:=by simpa using h
   exact hK _ _ ⟨lv,mv,f0,by rw[gainF,if_pos h]; exact r1,by rw[gainF,if_pos h],λ_=>by rw[gainF,if_pos h]; simpa using l1⟩
  have h:¬n<0:=by simpa using h
  refine Za rfl (Za rfl (Za (ld r1 rfl) (Za (Zl ..) (Za rfl ?_))));rw[IntWalk.i64_in _ (by omega)];refine Zb (λh2=>?_) (λh2=>?_)
  ·have h2:1000000<s.s0.mana+n:=by simpa using h2
   have e:gainF s 0 n=(171,s,[]):=by rw[gainF,if_neg h]; exact if_pos h2
   exact hK _ _ ⟨lv,mv,f0,by rw[e]; exact r1,by rw[e],λq=>by rw[e] at q; cases q⟩
  have h2:¬1000000<s.s0.mana+n:=by simpa using h2
  have e:gainF s 0 n=(0,s.put 0 { s.side 0 with mana:=s.s0.mana+n },[⟨7,0,0,0,0,n,[]⟩]):=by rw[gainF,if_neg h]; exact if_neg h2
  refine Za rfl (Za rfl (Za (ld r1 rfl) (Za (Zl ..) (Za rfl (Za rfl ?_)))));rw[IntWalk.i64_in _ (by omega)];refine Qa (stv r1 rfl rfl rfl) (Qi _ hrb1) ?_;have r2:hget ((σ++[ABlk.box (efC x)]).set rb (.box (rnC b (s.put 0 { s.side 0 with mana:=s.s0.mana+n }) 0 tg lv fu mv))) rb=.box (rnC b (s.put 0 { s.side 0 with mana:=s.s0.mana+n }) 0 tg lv fu mv):=Qo (List.getElem?_set_self hrb1);refine Za rfl (Za rfl (Za rfl (Za (ld r2 rfl) (Za (v:=.agg (evX ⟨7,0,0,0,0,n,[]⟩ .nils)) rfl ?_))));refine Xg hP (f:=50) rfl g50.ok rfl ?_;refine Qa4 r2 (l1.old (λk hk hkr=>Xd _ hk hkr)) hn _ _ (.inr ⟨rfl,rfl⟩) (λσ' lv' q1 q2 q3=>hK _ _ ⟨lv',mv,(f0.trans (Fr.set lv _)).trans q1,by rw[e]; exact q2,by rw[e],λ_=>by rw[e]; exact q3⟩)
 ·have hm:0≤s.s1.mana∧s.s1.mana≤1000000:=hm;refine Za rfl (Za rfl (Zb (λh=>?_) (λh=>?_)))
  ·have h:n<0:=by simpa using h
   exact hK _ _ ⟨lv,mv,f0,by rw[gainF,if_pos h]; exact r1,by rw[gainF,if_pos h],λ_=>by rw[gainF,if_pos h]; simpa using l1⟩
  have h:¬n<0:=by simpa using h
  refine Za rfl (Za rfl (Za (ld r1 rfl) (Za (Zl ..) (Za rfl ?_))));rw[IntWalk.i64_in _ (by omega)];refine Zb (λh2=>?_) (λh2=>?_)
  ·have h2:1000000<s.s1.mana+n:=by simpa using h2
   have e:gainF s 1 n=(171,s,[]):=by rw[gainF,if_neg h]; exact if_pos h2
   exact hK _ _ ⟨lv,mv,f0,by rw[e]; exact r1,by rw[e],λq=>by rw[e] at q; cases q⟩
  have h2:¬1000000<s.s1.mana+n:=by simpa using h2
  have e:gainF s 1 n=(0,s.put 1 { s.side 1 with mana:=s.s1.mana+n },[⟨7,1,0,0,0,n,[]⟩]):=by rw[gainF,if_neg h]; exact if_neg h2
  refine Za rfl (Za rfl (Za (ld r1 rfl) (Za (Zl ..) (Za rfl (Za rfl ?_)))));rw[IntWalk.i64_in _ (by omega)];refine Qa (stv r1 rfl rfl rfl) (Qi _ hrb1) ?_;have r2:hget ((σ++[ABlk.box (efC x)]).set rb (.box (rnC b (s.put 1 { s.side 1 with mana:=s.s1.mana+n }) 1 tg lv fu mv))) rb=.box (rnC b (s.put 1 { s.side 1 with mana:=s.s1.mana+n }) 1 tg lv fu mv):=Qo (List.getElem?_set_self hrb1);refine Za rfl (Za rfl (Za rfl (Za (ld r2 rfl) (Za (v:=.agg (evX ⟨7,1,0,0,0,n,[]⟩ .nils)) rfl ?_))));refine Xg hP (f:=50) rfl g50.ok rfl ?_;refine Qa4 r2 (l1.old (λk hk hkr=>Xd _ hk hkr)) hn _ _ (.inr ⟨rfl,rfl⟩) (λσ' lv' q1 q2 q3=>hK _ _ ⟨lv',mv,(f0.trans (Fr.set lv _)).trans q1,by rw[e]; exact q2,by rw[e],λ_=>by rw[e]; exact q3⟩)
end Go.Ah.Tz
end
section
namespace Go.Ah.Tz
open Go.Proofs.Tryz (prog)
set_option maxRecDepth 100000
attribute [local irreducible] Ans.rd Ans.pu Ans.wr Ans.dr Ans.gr Ans.gw Ans.gl Ans.gd Ans.opt joinK W
set_option maxHeartbeats 4000000
theorem Ydf(l:List Int)(j:Nat)(h:j≤l.length)(σ:List ABlk):YB 1 [rowV l,iv j] σ=.ok (rowV (l.take j)) [] []:=by
 have h1:Nat.ble j (l.map cel).length=true:=Nat.ble_eq_true_of_le (by simpa using h);have h2:cut 0 j (l.map cel)=(l.take j).map cel:=by unfold cut; rw[List.drop_zero,List.map_take]
 show (bif Nat.beq 1 1&&Nat.ble j (l.map cel).length then SRes.ok (.rsl false false 1 (cut 0 j (l.map cel))) [] [] else .stop)=_;rw[h1,h2]; rfl
theorem YcB(x:Int)(l:List Int)(σ:List ABlk):QF 1 [rowV (x::l),iv 1] σ=.ok (rowV l) [] []:=by
 have h1:Nat.ble 1 ((x::l).map cel).length=true:=Nat.ble_eq_true_of_le (by simp);have h2:cut 1 ((x::l).map cel).length ((x::l).map cel)=l.map cel:=by unfold cut; rw[List.take_length]; rfl
 show (bif Nat.beq 1 1&&Nat.ble 1 ((x::l).map cel).length then SRes.ok (.rsl false false 1 (cut 1 ((x::l).map cel).length ((x::l).map cel))) [] [] else .stop)=_;rw[h1,h2]; rfl
def lookF(s:St)(sd n:Int):Int×St×List Ev:=
 match (s.side sd).deck.take (min (max n 0) (s.side sd).deck.length).toNat with
 |[]=>(0,s,[])
 |c::cs=>(0,tellS s (c::cs) [sd],[⟨9,sd,0,0,0,0,c::cs⟩])
theorem YdG{σ:List ABlk}{rb:Nat}{b:Bk}{s:St}{sd tg fu:Int}{mv lv:AVal}{l:List Ev}(hr:hget σ rb=.box (rnC b s sd tg lv fu mv))(hl:LV rb l lv σ)(hn:l.length≤1000000000)(h01:sd=0∨sd=1)
 (hT:TB 100000000 s)(hd:(s.side sd).deck.length≤100000000)(x:Ef)(n:Int){K:AVal→List ABlk→Prop}(hK:∀v σ',Dn rb b sd tg fu l lv σ (lookF s sd n) v σ'→K v σ'):g37.u VV [.bptr rb 0,.agg (efC x),iv n] σ K:=by
 have hrb:=Xi hr (by simp);have f0:Fr rb lv lv σ (σ++[ABlk.box (efC x)]):=Fr.app _ (λk n e=>hl.lt e);have r1:=Ze [ABlk.box (efC x)] hr (by simp);have l1:LV rb l lv (σ++[ABlk.box (efC x)]):=hl.old (λk hk _=>Ym _ hk);have hF:∀cs,(s.side sd).deck.take (min (max n 0) (s.side sd).deck.length).toNat=cs→lookF s sd n=match cs with | []=>(0,s,[])|c::cs=>(0,tellS s (c::cs) [sd],[⟨9,sd,0,0,0,0,c::cs⟩]):=by
  intro cs h; rw[lookF,h]
 obtain⟨j,hj,hjl⟩:∃j:Nat,min (max n 0) ((s.side sd).deck.length:Int)=j∧j≤(s.side sd).deck.length:=⟨(min (max n 0) ((s.side sd).deck.length:Int)).toNat,by omega,by omega⟩;rw[hj,Int.toNat_natCast] at hF;rw[H3.e]; unfold g37; dsimp only;refine Qa (Zaa _ _) (Yk σ _) (Za rfl (Za rfl (Za rfl (Za (ld r1 rfl) (Za rfl (Za rfl (Za rfl ?_)))))));rcases h01 with rfl|rfl
 ·refine Za rfl (Za rfl (Za (ld r1 rfl) (Za (Qad ..) (Za rfl (Za (XU ..) ?_)))));have hjl:j≤s.s0.deck.length:=hjl;have hd:s.s0.deck.length≤100000000:=hd;rw[show min (max n 0) ((s.s0.deck.map cel).length:Int)=j from by rw[List.length_map]; exact hj];refine Za (Ydf _ j hjl _) (Zc (c185P _ (by rw[List.length_take]; omega)) rfl g31.ok.plain rfl (Za rfl (Za (Z5 ..) ?_)));have hle:(s.s0.deck.take j).length≤100000000:=by rw[List.length_take]; omega
  have hF:=hF (s.s0.deck.take j) rfl;generalize s.s0.deck.take j=cs at *;refine Zb (λh=>?_) (λh=>?_)
  ·obtain⟨c,cs,rfl⟩:∃c cs',cs=c::cs':=by
    cases cs with
    |nil=>simp at h
    |cons c cs=>exact⟨c,cs,rfl⟩
   have hF:lookF s 0 n=(0,tellS s (c::cs) [0],[⟨9,0,0,0,0,0,c::cs⟩]):=hF;refine Qa (v:=.sl (σ++[ABlk.box (efC x)]).length 0 1 true) (rd:=[]) (up:=[((σ++[ABlk.box (efC x)]).length,.rows 1 [[iv 0]])]) rfl (Yk _ _) ?_;have hrb1:rb<(σ++[ABlk.box (efC x)]).length:=by simp; omega
   have r2:=Ze [.rows 1 [[iv 0]]] r1 (by simp);have f1:Fr rb lv lv (σ++[ABlk.box (efC x)]) (σ++[ABlk.box (efC x)]++[.rows 1 [[iv 0]]]):=Fr.app _ (λk n e=>l1.lt e);have l2:LV rb l lv (σ++[ABlk.box (efC x)]++[.rows 1 [[iv 0]]]):=l1.old (λk hk _=>Ym _ hk);refine Xg hP (f:=54) rfl g54.ok rfl ?_;refine Zbm r2 (c::cs) (rowV (c::cs)) [] (λ_=>rfl) [0] _ (Zf _ _) (by omega) (by simp) 100000000 hT (by simp at hle ⊢; omega) (by simp) ?_;refine Za (v:=.agg (evX ⟨9,0,0,0,0,0,c::cs⟩ (rowV (c::cs)))) rfl ?_;refine Xg hP (f:=50) rfl g50.ok rfl ?_;refine Qa4 (Qo (List.getElem?_set_self (by simp; omega))) (l2.old (λk hk hkr=>Xd _ hk hkr)) hn _ _ (.inl rfl) (λσ' lv' q1 q2 q3=>?_);exact(hK _ _ ⟨lv',mv,((f0.trans f1).trans (Fr.set lv _)).trans q1,by rw[hF]; exact q2,by rw[hF],λ_=>by rw[hF]; exact q3⟩)
  ·have:cs=[]:=by
    cases cs with
    |nil=>rfl
    |cons c cs=>simp at h
   subst this;have hF:lookF s 0 n=(0,s,[]):=hF;exact hK _ _ ⟨lv,mv,f0,by rw[hF]; exact r1,by rw[hF],λ_=>by rw[hF]; simpa using l1⟩
 ·refine Za rfl (Za rfl (Za (ld r1 rfl) (Za (Qad ..) (Za rfl (Za (XU ..) ?_)))));have hjl:j≤s.s1.deck.length:=hjl;have hd:s.s1.deck.length≤100000000:=hd;rw[show min (max n 0) ((s.s1.deck.map cel).length:Int)=j from by rw[List.length_map]; exact hj];refine Za (Ydf _ j hjl _) (Zc (c185P _ (by rw[List.length_take]; omega)) rfl g31.ok.plain rfl (Za rfl (Za (Z5 ..) ?_)));have hle:(s.s1.deck.take j).length≤100000000:=by rw[List.length_take]; omega
  have hF:=hF (s.s1.deck.take j) rfl;generalize s.s1.deck.take j=cs at *;refine Zb (λh=>?_) (λh=>?_)
  ·obtain⟨c,cs,rfl⟩:∃c cs',cs=c::cs':=by
    cases cs with
    |nil=>simp at h
    |cons c cs=>exact⟨c,cs,rfl⟩
   have hF:lookF s 1 n=(0,tellS s (c::cs) [1],[⟨9,1,0,0,0,0,c::cs⟩]):=hF;refine Qa (v:=.sl (σ++[ABlk.box (efC x)]).length 0 1 true) (rd:=[]) (up:=[((σ++[ABlk.box (efC x)]).length,.rows 1 [[iv 1]])]) rfl (Yk _ _) ?_;have hrb1:rb<(σ++[ABlk.box (efC x)]).length:=by simp; omega
   have r2:=Ze [.rows 1 [[iv 1]]] r1 (by simp);have f1:Fr rb lv lv (σ++[ABlk.box (efC x)]) (σ++[ABlk.box (efC x)]++[.rows 1 [[iv 1]]]):=Fr.app _ (λk n e=>l1.lt e);have l2:LV rb l lv (σ++[ABlk.box (efC x)]++[.rows 1 [[iv 1]]]):=l1.old (λk hk _=>Ym _ hk);refine Xg hP (f:=54) rfl g54.ok rfl ?_;refine Zbm r2 (c::cs) (rowV (c::cs)) [] (λ_=>rfl) [1] _ (Zf _ _) (by omega) (by simp) 100000000 hT (by simp at hle ⊢; omega) (by simp) ?_;refine Za (v:=.agg (evX ⟨9,1,0,0,0,0,c::cs⟩ (rowV (c::cs)))) rfl ?_;refine Xg hP (f:=50) rfl g50.ok rfl ?_;refine Qa4 (Qo (List.getElem?_set_self (by simp; omega))) (l2.old (λk hk hkr=>Xd _ hk hkr)) hn _ _ (.inl rfl) (λσ' lv' q1 q2 q3=>?_);exact(hK _ _ ⟨lv',mv,((f0.trans f1).trans (Fr.set lv _)).trans q1,by rw[hF]; exact q2,by rw[hF],λ_=>by rw[hF]; exact q3⟩)
  ·have:cs=[]:=by
    cases cs with
    |nil=>rfl
    |cons c cs=>simp at h
   subst this;have hF:lookF s 1 n=(0,s,[]):=hF;exact hK _ _ ⟨lv,mv,f0,by rw[hF]; exact r1,by rw[hF],λ_=>by rw[hF]; simpa using l1⟩
theorem Za8{sd:Int}(h:sd=0∨sd=1)(w:Int):whoS sd w=0∨whoS sd w=1:=by
 unfold whoS; split<;>omega
theorem src1{σ:List ABlk}{k:Nat}{c:Int}(h:hget σ k=.rows 1 [[iv c]]):Xr 1 σ (.sl k 0 1 true)=some ([c].map cel,[k]):=by
 simp only[Xr,h];simp[cut]; rfl
def showF(s:St)(i:Int):Int×St×List Ev:=(0,tellS s (s.side i).hand [0,1],[⟨10,i,0,0,0,0,(s.side i).hand⟩])
theorem YdJ{σ:List ABlk}{rb:Nat}{b:Bk}{s:St}{sd tg fu:Int}{mv lv:AVal}{l:List Ev}(hr:hget σ rb=.box (rnC b s sd tg lv fu mv))(hl:LV rb l lv σ)(hn:l.length≤1000000000)(h01:sd=0∨sd=1)
 (hT:TB 100000000 s)(hd0:s.s0.hand.length≤100000000)(hd1:s.s1.hand.length≤100000000)(x:Ef)(n:Int){K:AVal→List ABlk→Prop}(hK:∀v σ',Dn rb b sd tg fu l lv σ (showF s (whoS sd x.who)) v σ'→K v σ'):g38.u VV [.bptr rb 0,.agg (efC x),iv n] σ K:=by
 have hrb:=Xi hr (by simp);have f0:Fr rb lv lv σ (σ++[ABlk.box (efC x)]):=Fr.app _ (λk n e=>hl.lt e);have r1:=Ze [ABlk.box (efC x)] hr (by simp);have l1:LV rb l lv (σ++[ABlk.box (efC x)]):=hl.old (λk hk _=>Ym _ hk);rw[H3.e]; unfold g38; dsimp only;refine Qa (Zaa _ _) (Yk σ _) (Za rfl (Za (ld (Zf _ _) (efLd1 x)) ?_));refine Xg hP (f:=52) rfl g52.ok rfl (Zdh r1 h01 _ ?_);have hw:=Za8 h01 x.who;generalize whoS sd x.who=i at *;refine Za rfl (Za rfl (Za rfl ?_));have hrb1:rb<(σ++[ABlk.box (efC x)]).length:=by simp; omega
 have f1:Fr rb lv lv (σ++[ABlk.box (efC x)]) (σ++[ABlk.box (efC x)]++[.rows 1 [[iv 0],[iv 1]]]):=Fr.app _ (λk n e=>l1.lt e);have l2:LV rb l lv (σ++[ABlk.box (efC x)]++[.rows 1 [[iv 0],[iv 1]]]):=l1.old (λk hk _=>Ym _ hk);have r2:=Ze [.rows 1 [[iv 0],[iv 1]]] r1 (by simp);rcases hw with rfl|rfl
 ·refine Za rfl (Za rfl (Za (ld r1 rfl) (Zc (c185P s.s0.hand (by omega)) rfl g31.ok.plain rfl ?_)));refine Qa (v:=.sl (σ++[ABlk.box (efC x)]).length 0 2 true) (rd:=[]) (up:=[((σ++[ABlk.box (efC x)]).length,.rows 1 [[iv 0],[iv 1]])]) rfl (Yk _ _) ?_;refine Xg hP (f:=54) rfl g54.ok rfl ?_;refine Zbm r2 s.s0.hand (rowV s.s0.hand) [] (λ_=>rfl) [0,1] _ (Zf _ _) (by omega) (by simp) 100000000 hT (by simp; omega) (by simp) ?_;refine Za (v:=.agg (evX ⟨10,0,0,0,0,0,s.s0.hand⟩ (rowV s.s0.hand))) rfl ?_;refine Xg hP (f:=50) rfl g50.ok rfl ?_;refine Qa4 (Qo (List.getElem?_set_self (by simp; omega))) (l2.old (λk hk hkr=>Xd _ hk hkr)) hn _ _ (.inl rfl) (λσ' lv' q1 q2 q3=>?_);exact hK _ _ ⟨lv',mv,((f0.trans f1).trans (Fr.set lv _)).trans q1,q2,rfl,λ_=>q3⟩
 ·refine Za rfl (Za rfl (Za (ld r1 rfl) (Zc (c185P s.s1.hand (by omega)) rfl g31.ok.plain rfl ?_)));refine Qa (v:=.sl (σ++[ABlk.box (efC x)]).length 0 2 true) (rd:=[]) (up:=[((σ++[ABlk.box (efC x)]).length,.rows 1 [[iv 0],[iv 1]])]) rfl (Yk _ _) ?_;refine Xg hP (f:=54) rfl g54.ok rfl ?_;refine Zbm r2 s.s1.hand (rowV s.s1.hand) [] (λ_=>rfl) [0,1] _ (Zf _ _) (by omega) (by simp) 100000000 hT (by simp; omega) (by simp) ?_;refine Za (v:=.agg (evX ⟨10,1,0,0,0,0,s.s1.hand⟩ (rowV s.s1.hand))) rfl ?_;refine Xg hP (f:=50) rfl g50.ok rfl ?_;refine Qa4 (Qo (List.getElem?_set_self (by simp; omega))) (l2.old (λk hk hkr=>Xd _ hk hkr)) hn _ _ (.inl rfl) (λσ' lv' q1 q2 q3=>?_);exact hK _ _ ⟨lv',mv,((f0.trans f1).trans (Fr.set lv _)).trans q1,q2,rfl,λ_=>q3⟩
def dropF(s:St)(i:Int):Int×St×List Ev:=
 match (s.side i).hand with
 |[]=>(0,s,[])
 |c::h=>(0,tellS (s.put i { s.side i with hand:=h,grave:=(s.side i).grave++[c] }) [c] [0,1],[⟨8,i,c,0,0,0,[]⟩])
theorem XdA{σ:List ABlk}{rb:Nat}{b:Bk}{s:St}{sd tg fu:Int}{mv lv:AVal}{l:List Ev}(hr:hget σ rb=.box (rnC b s sd tg lv fu mv))(hl:LV rb l lv σ)(hn:l.length≤1000000000)(h01:sd=0∨sd=1)
 (hT:TB 100000000 s)(hd0:s.s0.hand.length≤100000000∧s.s0.grave.length≤100000000)(hd1:s.s1.hand.length≤100000000∧s.s1.grave.length≤100000000)(x:Ef)(n:Int){K:AVal→List ABlk→Prop}(hK:∀v σ',Dn rb b sd tg fu l lv σ (dropF s (whoS sd x.who)) v σ'→K v σ'):g36.u VV [.bptr rb 0,.agg (efC x),iv n] σ K:=by
 have hrb:=Xi hr (by simp);have f0:Fr rb lv lv σ (σ++[ABlk.box (efC x)]):=Fr.app _ (λk n e=>hl.lt e);have r1:=Ze [ABlk.box (efC x)] hr (by simp);have l1:LV rb l lv (σ++[ABlk.box (efC x)]):=hl.old (λk hk _=>Ym _ hk);rw[H3.e]; unfold g36; dsimp only;refine Qa (Zaa _ _) (Yk σ _) (Za rfl (Za (ld (Zf _ _) (efLd1 x)) ?_));refine Xg hP (f:=52) rfl g52.ok rfl (Zdh r1 h01 _ ?_);have hw:=Za8 h01 x.who;generalize whoS sd x.who=i at *;refine Za rfl (Za rfl (Za rfl ?_));have hrb1:rb<(σ++[ABlk.box (efC x)]).length:=by simp; omega
 generalize hσ:σ++[ABlk.box (efC x)]=τ at *;rcases hw with rfl|rfl
 ·refine Za rfl (Za rfl (Za rfl (Za (ld r1 rfl) (Za rfl (Za (Yf ..) ?_)))));obtain⟨hd,hg⟩:=hd0;have hF:∀h,s.s0.hand=h→dropF s 0=match h with | []=>(0,s,[])|c::h=>(0,tellS (s.put 0 { s.s0 with hand:=h,grave:=s.s0.grave++[c] }) [c] [0,1],[⟨8,0,c,0,0,0,[]⟩]):=by
   intro h e; subst e; rfl
  have r1':=r1;generalize hh:s.s0.hand=h at *;cases h with
  |nil=>
   have hF:=hF [] rfl;refine Yd ?_;exact hK _ _ ⟨lv,mv,f0,by rw[hF]; exact r1',by rw[hF],λ_=>by rw[hF]; simpa using l1⟩
  |cons c h=>
  have hF:dropF s 0=(0,tellS (s.put 0 { s.s0 with hand:=h,grave:=s.s0.grave++[c] }) [c] [0,1],[⟨8,0,c,0,0,0,[]⟩]):=hF _ rfl;refine Zb (λh=>by simp at h; omega) (λ_=>?_);refine Za rfl (Za rfl (Za (ld r1 rfl) ?_));rw[hh];refine Za rfl (Za rfl (Za rfl (Za rfl (Za (ld r1 rfl) ?_))));rw[hh];have hhl:h.length≤1000000000:=by simp at hd; omega
  refine Za (YcB c h _) (Zc (c185P h hhl) rfl g31.ok.plain rfl (Za rfl (Za rfl ?_)));refine Qa (stv (row':=rnC b (s.put 0 { s.s0 with hand:=h }) sd tg lv fu mv) r1 rfl rfl rfl) (Qi _ hrb1) ?_;have r2:hget (τ.set rb (.box (rnC b (s.put 0 { s.s0 with hand:=h }) sd tg lv fu mv))) rb=.box (rnC b (s.put 0 { s.s0 with hand:=h }) sd tg lv fu mv):=Qo (List.getElem?_set_self hrb1);have f2:Fr rb lv lv σ (τ.set rb (.box (rnC b (s.put 0 { s.s0 with hand:=h }) sd tg lv fu mv))):=f0.trans (Fr.set lv _);have l2:LV rb l lv (τ.set rb (.box (rnC b (s.put 0 { s.s0 with hand:=h }) sd tg lv fu mv))):=l1.old (λk hk hkr=>Xd _ hk hkr);have hrb2:rb<(τ.set rb (.box (rnC b (s.put 0 { s.s0 with hand:=h }) sd tg lv fu mv))).length:=by simpa using hrb1
  generalize τ.set rb (.box (rnC b (s.put 0 { s.s0 with hand:=h }) sd tg lv fu mv))=τ2 at *;refine Za rfl (Za rfl (Za (ld r2 rfl) (Zc (c405 s.s0.grave) rfl g53.ok.plain rfl ?_)));refine Qa (v:=.sl τ2.length 0 1 true) (rd:=[]) (up:=[(τ2.length,.rows 1 [[iv c]])]) rfl (Yk _ _) ?_;have r3:=Ze [ABlk.rows 1 [[iv c]]] r2 (by simp);have f3:Fr rb lv lv σ (τ2++[ABlk.rows 1 [[iv c]]]):=f2.trans (Fr.app _ (λk n e=>l2.lt e));have l3:LV rb l lv (τ2++[ABlk.rows 1 [[iv c]]]):=l2.old (λk hk _=>Ym _ hk);have n3:=Zf τ2 (.rows 1 [[iv c]]);have hrb3:rb<(τ2++[ABlk.rows 1 [[iv c]]]).length:=by simp; omega
  refine Qa (ZaQ s.s0.grave [c] (src1 n3) (by simp; omega)) rfl (Za rfl (Za rfl ?_));generalize τ2++[ABlk.rows 1 [[iv c]]]=τ3 at *;refine Qa (stv (row':=rnC b (s.put 0 { s.s0 with hand:=h,grave:=s.s0.grave++[c] }) sd tg lv fu mv) r3 rfl rfl rfl) (Qi _ hrb3) ?_;have r4:hget (τ3.set rb (.box (rnC b (s.put 0 { s.s0 with hand:=h,grave:=s.s0.grave++[c] }) sd tg lv fu mv))) rb=.box (rnC b (s.put 0 { s.s0 with hand:=h,grave:=s.s0.grave++[c] }) sd tg lv fu mv):=Qo (List.getElem?_set_self hrb3);have f4:Fr rb lv lv σ (τ3.set rb (.box (rnC b (s.put 0 { s.s0 with hand:=h,grave:=s.s0.grave++[c] }) sd tg lv fu mv))):=f3.trans (Fr.set lv _);have l4:LV rb l lv (τ3.set rb (.box (rnC b (s.put 0 { s.s0 with hand:=h,grave:=s.s0.grave++[c] }) sd tg lv fu mv))):=l3.old (λk hk hkr=>Xd _ hk hkr);have hrb4:rb<(τ3.set rb (.box (rnC b (s.put 0 { s.s0 with hand:=h,grave:=s.s0.grave++[c] }) sd tg lv fu mv))).length:=by simpa using hrb3
  have hT4:TB 100000000 (s.put 0 { s.s0 with hand:=h,grave:=s.s0.grave++[c] }):=hT;generalize τ3.set rb (.box (rnC b (s.put 0 { s.s0 with hand:=h,grave:=s.s0.grave++[c] }) sd tg lv fu mv))=τ4 at *;generalize s.put 0 { s.s0 with hand:=h,grave:=s.s0.grave++[c] }=s4 at *;refine Qa (v:=.sl τ4.length 0 1 true) (rd:=[]) (up:=[(τ4.length,.rows 1 [[iv c]])]) rfl (Yk _ _) ?_;have r5:=Ze [ABlk.rows 1 [[iv c]]] r4 (by simp);have f5:Fr rb lv lv σ (τ4++[ABlk.rows 1 [[iv c]]]):=f4.trans (Fr.app _ (λk n e=>l4.lt e));have l5:LV rb l lv (τ4++[ABlk.rows 1 [[iv c]]]):=l4.old (λk hk _=>Ym _ hk);have n5:=Zf τ4 (.rows 1 [[iv c]]);have hrb5:rb<(τ4++[ABlk.rows 1 [[iv c]]]).length:=by simp; omega
  have ne5:τ4.length≠rb:=by omega
  generalize τ4++[ABlk.rows 1 [[iv c]]]=τ5 at *;refine Qa (v:=.sl τ5.length 0 2 true) (rd:=[]) (up:=[(τ5.length,.rows 1 [[iv 0],[iv 1]])]) rfl (Yk _ _) ?_;have r6:=Ze [ABlk.rows 1 [[iv 0],[iv 1]]] r5 (by simp);have f6:Fr rb lv lv σ (τ5++[ABlk.rows 1 [[iv 0],[iv 1]]]):=f5.trans (Fr.app _ (λk n e=>l5.lt e));have l6:LV rb l lv (τ5++[ABlk.rows 1 [[iv 0],[iv 1]]]):=l5.old (λk hk _=>Ym _ hk);have n6:=Ze [ABlk.rows 1 [[iv 0],[iv 1]]] n5 (by simp);have m6:=Zf τ5 (.rows 1 [[iv 0],[iv 1]]);have hrb6:rb<(τ5++[ABlk.rows 1 [[iv 0],[iv 1]]]).length:=by simp; omega
  refine Xg hP (f:=54) rfl g54.ok rfl ?_;refine Zbm r6 [c] (.sl τ4.length 0 1 true) [τ4.length] (λy=>src1 (Qe n6 (by simp) ne5.symm)) [0,1] _ m6 (by omega) (by simp) 100000000 hT4 (by simp) (by simp) ?_;refine Za (v:=.agg (evX ⟨8,0,c,0,0,0,[]⟩ .nils)) rfl ?_;refine Xg hP (f:=50) rfl g50.ok rfl ?_;refine Qa4 (Qo (List.getElem?_set_self hrb6)) (l6.old (λk hk hkr=>Xd _ hk hkr)) hn _ _ (.inr ⟨rfl,rfl⟩) (λσ' lv' q1 q2 q3=>?_);exact hK _ _ ⟨lv',mv,(f6.trans (Fr.set lv _)).trans q1,by rw[hF]; exact q2,by rw[hF],λ_=>by rw[hF]; exact q3⟩
 ·refine Za rfl (Za rfl (Za rfl (Za (ld r1 rfl) (Za rfl (Za (Yf ..) ?_)))));obtain⟨hd,hg⟩:=hd1;have hF:∀h,s.s1.hand=h→dropF s 1=match h with | []=>(0,s,[])|c::h=>(0,tellS (s.put 1 { s.s1 with hand:=h,grave:=s.s1.grave++[c] }) [c] [0,1],[⟨8,1,c,0,0,0,[]⟩]):=by
   intro h e; subst e; rfl
  have r1':=r1;generalize hh:s.s1.hand=h at *;cases h with
  |nil=>
   have hF:=hF [] rfl;refine Yd ?_;exact hK _ _ ⟨lv,mv,f0,by rw[hF]; exact r1',by rw[hF],λ_=>by rw[hF]; simpa using l1⟩
  |cons c h=>
  have hF:dropF s 1=(0,tellS (s.put 1 { s.s1 with hand:=h,grave:=s.s1.grave++[c] }) [c] [0,1],[⟨8,1,c,0,0,0,[]⟩]):=hF _ rfl;refine Zb (λh=>by simp at h; omega) (λ_=>?_);refine Za rfl (Za rfl (Za (ld r1 rfl) ?_));rw[hh];refine Za rfl (Za rfl (Za rfl (Za rfl (Za (ld r1 rfl) ?_))));rw[hh];have hhl:h.length≤1000000000:=by simp at hd; omega
  refine Za (YcB c h _) (Zc (c185P h hhl) rfl g31.ok.plain rfl (Za rfl (Za rfl ?_)));refine Qa (stv (row':=rnC b (s.put 1 { s.s1 with hand:=h }) sd tg lv fu mv) r1 rfl rfl rfl) (Qi _ hrb1) ?_;have r2:hget (τ.set rb (.box (rnC b (s.put 1 { s.s1 with hand:=h }) sd tg lv fu mv))) rb=.box (rnC b (s.put 1 { s.s1 with hand:=h }) sd tg lv fu mv):=Qo (List.getElem?_set_self hrb1);have f2:Fr rb lv lv σ (τ.set rb (.box (rnC b (s.put 1 { s.s1 with hand:=h }) sd tg lv fu mv))):=f0.trans (Fr.set lv _);have l2:LV rb l lv (τ.set rb (.box (rnC b (s.put 1 { s.s1 with hand:=h }) sd tg lv fu mv))):=l1.old (λk hk hkr=>Xd _ hk hkr);have hrb2:rb<(τ.set rb (.box (rnC b (s.put 1 { s.s1 with hand:=h }) sd tg lv fu mv))).length:=by simpa using hrb1
  generalize τ.set rb (.box (rnC b (s.put 1 { s.s1 with hand:=h }) sd tg lv fu mv))=τ2 at *;refine Za rfl (Za rfl (Za (ld r2 rfl) (Zc (c405 s.s1.grave) rfl g53.ok.plain rfl ?_)));refine Qa (v:=.sl τ2.length 0 1 true) (rd:=[]) (up:=[(τ2.length,.rows 1 [[iv c]])]) rfl (Yk _ _) ?_;have r3:=Ze [ABlk.rows 1 [[iv c]]] r2 (by simp);have f3:Fr rb lv lv σ (τ2++[ABlk.rows 1 [[iv c]]]):=f2.trans (Fr.app _ (λk n e=>l2.lt e));have l3:LV rb l lv (τ2++[ABlk.rows 1 [[iv c]]]):=l2.old (λk hk _=>Ym _ hk);have n3:=Zf τ2 (.rows 1 [[iv c]]);have hrb3:rb<(τ2++[ABlk.rows 1 [[iv c]]]).length:=by simp; omega
  refine Qa (ZaQ s.s1.grave [c] (src1 n3) (by simp; omega)) rfl (Za rfl (Za rfl ?_));generalize τ2++[ABlk.rows 1 [[iv c]]]=τ3 at *;refine Qa (stv (row':=rnC b (s.put 1 { s.s1 with hand:=h,grave:=s.s1.grave++[c] }) sd tg lv fu mv) r3 rfl rfl rfl) (Qi _ hrb3) ?_;have r4:hget (τ3.set rb (.box (rnC b (s.put 1 { s.s1 with hand:=h,grave:=s.s1.grave++[c] }) sd tg lv fu mv))) rb=.box (rnC b (s.put 1 { s.s1 with hand:=h,grave:=s.s1.grave++[c] }) sd tg lv fu mv):=Qo (List.getElem?_set_self hrb3);have f4:Fr rb lv lv σ (τ3.set rb (.box (rnC b (s.put 1 { s.s1 with hand:=h,grave:=s.s1.grave++[c] }) sd tg lv fu mv))):=f3.trans (Fr.set lv _);have l4:LV rb l lv (τ3.set rb (.box (rnC b (s.put 1 { s.s1 with hand:=h,grave:=s.s1.grave++[c] }) sd tg lv fu mv))):=l3.old (λk hk hkr=>Xd _ hk hkr);have hrb4:rb<(τ3.set rb (.box (rnC b (s.put 1 { s.s1 with hand:=h,grave:=s.s1.grave++[c] }) sd tg lv fu mv))).length:=by simpa using hrb3
  have hT4:TB 100000000 (s.put 1 { s.s1 with hand:=h,grave:=s.s1.grave++[c] }):=hT;generalize τ3.set rb (.box (rnC b (s.put 1 { s.s1 with hand:=h,grave:=s.s1.grave++[c] }) sd tg lv fu mv))=τ4 at *;generalize s.put 1 { s.s1 with hand:=h,grave:=s.s1.grave++[c] }=s4 at *;refine Qa (v:=.sl τ4.length 0 1 true) (rd:=[]) (up:=[(τ4.length,.rows 1 [[iv c]])]) rfl (Yk _ _) ?_;have r5:=Ze [ABlk.rows 1 [[iv c]]] r4 (by simp);have f5:Fr rb lv lv σ (τ4++[ABlk.rows 1 [[iv c]]]):=f4.trans (Fr.app _ (λk n e=>l4.lt e));have l5:LV rb l lv (τ4++[ABlk.rows 1 [[iv c]]]):=l4.old (λk hk _=>Ym _ hk);have n5:=Zf τ4 (.rows 1 [[iv c]]);have hrb5:rb<(τ4++[ABlk.rows 1 [[iv c]]]).length:=by simp; omega
  have ne5:τ4.length≠rb:=by omega
  generalize τ4++[ABlk.rows 1 [[iv c]]]=τ5 at *;refine Qa (v:=.sl τ5.length 0 2 true) (rd:=[]) (up:=[(τ5.length,.rows 1 [[iv 0],[iv 1]])]) rfl (Yk _ _) ?_;have r6:=Ze [ABlk.rows 1 [[iv 0],[iv 1]]] r5 (by simp);have f6:Fr rb lv lv σ (τ5++[ABlk.rows 1 [[iv 0],[iv 1]]]):=f5.trans (Fr.app _ (λk n e=>l5.lt e));have l6:LV rb l lv (τ5++[ABlk.rows 1 [[iv 0],[iv 1]]]):=l5.old (λk hk _=>Ym _ hk);have n6:=Ze [ABlk.rows 1 [[iv 0],[iv 1]]] n5 (by simp);have m6:=Zf τ5 (.rows 1 [[iv 0],[iv 1]]);have hrb6:rb<(τ5++[ABlk.rows 1 [[iv 0],[iv 1]]]).length:=by simp; omega
  refine Xg hP (f:=54) rfl g54.ok rfl ?_;refine Zbm r6 [c] (.sl τ4.length 0 1 true) [τ4.length] (λy=>src1 (Qe n6 (by simp) ne5.symm)) [0,1] _ m6 (by omega) (by simp) 100000000 hT4 (by simp) (by simp) ?_;refine Za (v:=.agg (evX ⟨8,1,c,0,0,0,[]⟩ .nils)) rfl ?_;refine Xg hP (f:=50) rfl g50.ok rfl ?_;refine Qa4 (Qo (List.getElem?_set_self hrb6)) (l6.old (λk hk hkr=>Xd _ hk hkr)) hn _ _ (.inr ⟨rfl,rfl⟩) (λσ' lv' q1 q2 q3=>?_);exact hK _ _ ⟨lv',mv,(f6.trans (Fr.set lv _)).trans q1,by rw[hF]; exact q2,by rw[hF],λ_=>by rw[hF]; exact q3⟩
end Go.Ah.Tz
end
