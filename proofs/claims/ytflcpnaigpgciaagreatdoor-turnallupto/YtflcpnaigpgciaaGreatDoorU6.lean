/- Part of the proof that TurnAll holds of the program for arguments that together hold at most 1048576 values and letters; no other condition. -/
import Derived.Test.YtflcpnaigpgciaaGreatDoorU5
import Derived.Shelf.Sort.Plain
import Derived.Test.YtflcpnaigpgciaaGreatDoorChecked
set_option linter.all false
section
namespace Go.Ah.Tz
open Go.Proofs.Tryz (prog)
attribute [local irreducible] Ans.rd Ans.pu Ans.wr Ans.dr Ans.gr Ans.gw Ans.gl Ans.gd Ans.opt joinK W
set_option maxHeartbeats 8000000
theorem Yag(s:St)(side:Int)(x:Sd):∀a∈cand s side x,a.ids.length≤1∧a.prs.length≤1:=by
 have hp:∀(T:List Int) (k:Nat) (p:Int),∀a∈XC T side p k,a.ids.length≤1∧a.prs.length≤1:=by
  intro T k
  induction k with
  |zero=>intro p a ha; cases ha
  |succ k ih=>
   intro p a ha;rcases List.mem_append.1 ha with ha|ha
   ·obtain⟨t,_,rfl⟩:=List.mem_map.1 ha;simp[Yaj]
   ·exact ih _ a ha
 have hb:∀l,∀a∈Zt side x.units l,a.ids.length≤1∧a.prs.length≤1:=by
  intro l
  induction l with
  |nil=>intro a ha; cases ha
  |cons id l ih=>
   intro a ha;rcases List.mem_append.1 ha with ha|ha
   ·obtain⟨t,_,rfl⟩:=List.mem_map.1 ha;simp[acBlk]
   ·exact ih a ha
 intro a ha;rw[cand] at ha;simp only[List.mem_append] at ha;rcases ha with ha|ha|ha|ha
 ·exact hp _ _ _ a ha
 ·obtain⟨t,_,rfl⟩:=List.mem_map.1 ha;simp[acAtt]
 ·exact hb _ a ha
 ·simp at ha;rcases ha with rfl|rfl<;>simp[acEnd]
theorem XaT{s:St}(hs:StLe 1000000000 s){side:Int}{x:Sd}{j:Nat}(hj:∀τ,Qg 2 8 [.bptr 1 (0+7),iv side] τ=.ok (.bptr 1 j) [] [])(hH:partA false (j+4) 1 (stC s)=some (rowV x.hand))(hU:partA false (j+6) 1 (stC s)=some (thV x.units))(hxl:x.hand.length≤1000000∧x.units.length≤1000000)(hl:(cand s side x).length≤1000000000){T:List Int}(hT:tgs s=T){τs:List ABlk}{tb:Nat}{ex:Bool}
 (h1:hget τs 1=.box (stC s))(htb:hget τs tb=.rows 1 (T.map cel)){F:AVal→List ABlk→Prop}(hF:∀lv τ,LS τs (cand s side x) lv τ→F lv τ) :
  VV.loop (λag20 v21 σ=>
 VV.rd (Ya 7 [.bptr 1 0] σ) λt40_22=>
 VV.rd (Qg 2 8 [t40_22,iv side] σ) λt41_23=>
 VV.rd (Ya 4 [t41_23] σ) λt42_24=>
 VV.rd (Xc false 1 [t42_24] σ) λt43_25=>
 VV.rd (Xe [t43_25] σ) λt44_26=>
 VV.rd (Yh .lss false [(Go.Ah.h0 v21),t44_26] σ) λt45_27=>
 VV.test t45_27 (
 VV.loop (λag28 v29 σ=>
 VV.rd (Xe [.sl tb 0 T.length ex] σ) λt50_30=>
 VV.rd (Yh .lss false [(Go.Ah.h0 v29),t50_30] σ) λt51_31=>
 VV.test t51_31 (
 VV.rd (Yb 1 [.sl tb 0 T.length ex,(Go.Ah.h0 v29)] σ) λt59_32=>
 VV.rd (Xc false 1 [t59_32] σ) λt60_33=>
 VV.rd (Xf [(.int .i8 0),(.int .i64 0),(.int .i64 0),(.int .i64 0),.nils,.nils] [(0,1),(1,1),(2,1),(3,1)] [(.int .i8 0),iv side,(Go.Ah.h0 v21),t60_33] σ) λt61_34=>
 VV.wr (Qh 6 1 [(.int .i8 0),(.int .i64 0),(.int .i64 0),(.int .i64 0),.nils,.nils] [(0,6)] [t61_34] σ) σ λt62_35 σ=>
 VV.wr (Zi 6 80 [(Go.Ah.h1 v29),t62_35] σ) σ λt63_36 σ=>
 VV.rd (Yh .add false [(Go.Ah.h0 v29),(.int .i64 1)] σ) λt53_37=>
 ag28 [t53_37,t63_36] σ) (
 VV.rd (Yh .add false [(Go.Ah.h0 v21),(.int .i64 1)] σ) λt47_38=>
 ag20 [t47_38,(Go.Ah.h1 v29)] σ)) [(.int .i64 0),(Go.Ah.h1 v21)] σ) (
 VV.rd (Ya 7 [.bptr 1 0] σ) λt65_39=>
 VV.rd (Qg 2 8 [t65_39,iv side] σ) λt66_40=>
 VV.rd (Ya 6 [t66_40] σ) λt67_41=>
 VV.rd (Xc false 1 [t67_41] σ) λt68_42=>
 VV.loop (λag43 v44 σ=>
 VV.rd (Xe [t68_42] σ) λt71_45=>
 VV.rd (Yh .lss false [(Go.Ah.h0 v44),t71_45] σ) λt72_46=>
 VV.test t72_46 (
 VV.rd (Yb 4 [t68_42,(Go.Ah.h0 v44)] σ) λt79_47=>
 VV.rd (Ya 0 [t79_47] σ) λt80_48=>
 VV.rd (Xc false 1 [t80_48] σ) λt81_49=>
 VV.wr (Qh 1 1 [(.int .i64 0)] [(0,1)] [t81_49] σ) σ λt82_50 σ=>
 VV.rd (Xf [(.int .i8 0),(.int .i64 0),(.int .i64 0),(.int .i64 0),.nils,.nils] [(0,1),(1,1),(3,1),(4,1)] [(.int .i8 1),iv side,(.int .i64 (-1)),t82_50] σ) λt83_51=>
 VV.wr (Qh 6 1 [(.int .i8 0),(.int .i64 0),(.int .i64 0),(.int .i64 0),.nils,.nils] [(0,6)] [t83_51] σ) σ λt84_52 σ=>
 VV.wr (Zi 6 80 [(Go.Ah.h1 v44),t84_52] σ) σ λt85_53 σ=>
 VV.rd (Yh .add false [(Go.Ah.h0 v44),(.int .i64 1)] σ) λt74_54=>
 ag43 [t74_54,t85_53] σ) (
 VV.loop (λag55 v56 σ=>
 VV.rd (Ya 5 [.bptr 1 0] σ) λt87_57=>
 VV.rd (Xc false 1 [t87_57] σ) λt88_58=>
 VV.rd (Xe [t88_58] σ) λt89_59=>
 VV.rd (Yh .lss false [(Go.Ah.h0 v56),t89_59] σ) λt90_60=>
 VV.test t90_60 (
 VV.loop (λag61 v62 σ=>
 VV.rd (Xe [t68_42] σ) λt95_63=>
 VV.rd (Yh .lss false [(Go.Ah.h0 v62),t95_63] σ) λt96_64=>
 VV.test t96_64 (
 VV.pu (Ya 5 [.bptr 1 0] σ) λt101_65=>
 VV.dr (Xc false 1 [t101_65] σ) σ λt102_66 l67 σ=>
 VV.dr (Yb 1 [t102_66,(Go.Ah.h0 v56)] σ) σ λt104_68 l69 σ=>
 VV.dr (Xc false 1 [t104_68] σ) σ λt105_70 l71 σ=>
 VV.dr (Yb 4 [t68_42,(Go.Ah.h0 v62)] σ) σ λt108_72 l73 σ=>
 VV.pu (Ya 0 [t108_72] σ) λt109_74=>
 VV.dr (Xc false 1 [t109_74] σ) σ λt110_75 l76 σ=>
 VV.pu (Xf [(.int .i64 0),(.int .i64 0)] [(0,1),(1,1)] [t105_70,t110_75] σ) λt111_77=>
 VV.dr (Qh 2 1 [(.int .i64 0),(.int .i64 0)] [(0,2)] [t111_77] σ) σ λt112_78 l79 σ=>
 VV.pu (Xf [(.int .i8 0),(.int .i64 0),(.int .i64 0),(.int .i64 0),.nils,.nils] [(0,1),(1,1),(3,1),(5,1)] [(.int .i8 2),iv side,(.int .i64 (-1)),t112_78] σ) λt113_80=>
 VV.dr (Qh 6 1 [(.int .i8 0),(.int .i64 0),(.int .i64 0),(.int .i64 0),.nils,.nils] [(0,6)] [t113_80] σ) σ λt114_81 l82 σ=>
 VV.dr (Zi 6 80 [(Go.Ah.h1 v62),t114_81] σ) σ λt115_83 l84 σ=>
 VV.gd (Xg [[],[],[],[2],[],[2,3,4],[2,3,4,5],[],[],[7,8],[7,8,9],[7,8,9,10],[2,3,4,5,6,7,8,9,10,11],[2,3,4,5,6,7,8,9,10,11,12],[1,2,3,4,5,6,7,8,9,10,11,12,13],[1,2,3,4,5,6,7,8,9,10,11,12,13,14],[0,1,2,3,4,5,6,7,8,9,10,11,12,13,14,15],[0,1,2,3,4,5,6,7,8,9,10,11,12,13,14,15,16]] [([],[]),([],[]),([],[]),l67,([],[]),l69,l71,([],[]),([],[]),l73,([],[]),l76,([],[]),l79,([],[]),l82,l84,([],[])]) <|
 VV.rd (Yh .add false [(Go.Ah.h0 v62),(.int .i64 1)] σ) λt98_85=>
 ag61 [t98_85,t115_83] σ) (
 VV.rd (Yh .add false [(Go.Ah.h0 v56),(.int .i64 1)] σ) λt92_86=>
 ag55 [t92_86,(Go.Ah.h1 v62)] σ)) [(.int .i64 0),(Go.Ah.h1 v56)] σ) (
 VV.rd (Xf [(.int .i8 0),(.int .i64 0),(.int .i64 0),(.int .i64 0),.nils,.nils] [(0,1),(1,1),(3,1)] [(.int .i8 3),iv side,(.int .i64 (-1))] σ) λt118_87=>
 VV.rd (Xf [(.int .i8 0),(.int .i64 0),(.int .i64 0),(.int .i64 0),.nils,.nils] [(0,1),(1,1),(3,1)] [(.int .i8 4),iv side,(.int .i64 (-1))] σ) λt120_88=>
 VV.wr (Qh 6 2 [(.int .i8 0),(.int .i64 0),(.int .i64 0),(.int .i64 0),.nils,.nils,(.int .i8 0),(.int .i64 0),(.int .i64 0),(.int .i64 0),.nils,.nils] [(0,6),(6,6)] [t118_87,t120_88] σ) σ λt121_89 σ=>
 VV.wr (Zi 6 80 [(Go.Ah.h1 v56),t121_89] σ) σ F)) [(.int .i64 0),(Go.Ah.h1 v44)] σ)) [(.int .i64 0),(Go.Ah.h1 v21)] σ)) [(.int .i64 0),.nils] τs:=by
 have hL0:LS τs [] .nils τs:=⟨OI.nil _ _,Nat.le_refl _,λ_ _=>rfl⟩;have hbig:∀(done rest:List Ac),done++rest=cand s side x→done.length≤1000000000:=λdone rest h=>by
  have:=congrArg List.length h;simp at *; omega
 refine Qi (ι:=Nat) (λp vs τ=>(∃done v,vs=[iv p,v]∧LS τs done v τ∧done++(XC T side p (x.hand.length-p)++(x.units.map (acAtt side)++(Zt side x.units s.attack++[acEnd 3 side,acEnd 4 side])))=cand s side x)∧p≤x.hand.length) (λp=>x.hand.length-p) 0 ⟨⟨[],_,rfl,hL0,by rw[cand,hT]; rfl⟩,by omega⟩ ?_;rintro p vs τ again ⟨⟨done,v,rfl,hPS,hd⟩,hp⟩ hag;have g1:=hPS.get h1 (by simp);refine Za rfl (Za (hj _) (Za rfl (Za (ld g1 hH) (Za (Qf ..) (Za (Xt ..) ?_)))));rw[List.length_map];refine Zc (λh=>?_) (λh=>?_)
 ·have h:p<x.hand.length:=by simpa using h
  obtain⟨k,hk⟩:∃k,x.hand.length-p=k+1:=⟨x.hand.length-p-1,by omega⟩;rw[hk,XC,List.append_assoc] at hd;have hk':x.hand.length-(p+1)=k:=by omega
  refine Qi (ι:=Nat) (λi vs τ=>(∃done v,vs=[iv i,v]∧LS τs done v τ∧done++((T.drop i).map (Yaj side p)++(XC T side ((p:Int)+1) k++(x.units.map (acAtt side)++(Zt side x.units s.attack++[acEnd 3 side,acEnd 4 side]))))=cand s side x)∧i≤T.length) (λi=>T.length-i) 0 ⟨⟨done,v,rfl,hPS,hd⟩,by omega⟩ ?_;clear hPS hd g1;rintro i vs τ again2 ⟨⟨done,v,rfl,hPS,hd⟩,hi⟩ hag2;refine Za rfl (Za (Xt ..) (Zc (λh=>?_) (λh=>?_)))
  ·have h:i<T.length:=by simpa using h
   have hb:=hbig _ _ hd;rw[YLD h,List.map_cons,List.cons_append,List.append_cons] at hd;have htb':=hPS.get htb (by simp);have hget:(T.map cel)[i]?=some (cel T[i]):=by simp[h]
   refine Za (v:=.ptr tb i 0) (rd:=[tb]) ?_ ?_
   ·have:=Zbc τ tb 0 T.length ex 1 (T.map cel) .i64 i h htb'
    rwa [Nat.zero_add] at this
   refine Za (v:=iv T[i]) (ldp htb' hget rfl) (Za (v:=.agg [iv8 0,iv side,iv p,iv T[i],.nils,.nils]) (rd:=[]) rfl ?_);have hl2:T.length≤1000000000:=by
    have:=YZ T side x.hand.length 0;have e:(cand s side x).length ≥ (XC T side 0 x.hand.length).length:=by rw[cand,hT]; simp
    have:T.length≤x.hand.length*T.length:=Nat.le_mul_of_pos_left _ (by omega);omega
   refine hPS.put hb (Yaj side p T[i]) (.inl ⟨rfl,rfl⟩) (.inl ⟨rfl,rfl⟩) (λv' τ' hPS'=>?_);refine Za (Qj ..) ?_;rw[Qe (n:=i) (by omega)];exact hag2 (i+1) _ _ (by omega) ⟨⟨_,_,rfl,hPS',hd⟩,by omega⟩
  ·have h:i=T.length:=by simp at h; omega
   subst h;rw[List.drop_length,List.map_nil,List.nil_append] at hd;refine Za (Qj ..) ?_;rw[Qe (n:=p) (by omega)];refine hag (p+1) _ _ (by omega) ⟨⟨done,v,rfl,hPS,?_⟩,by omega⟩;rw[hk']; push_cast; exact hd
 have h:p=x.hand.length:=by simp at h; omega
 subst h;rw[Nat.sub_self,XC,List.nil_append] at hd;clear hag again hp hL0;refine Za rfl (Za (hj _) (Za rfl (Za (ld g1 hU) ?_)));clear g1;refine Qi (ι:=Nat) (λi vs τ=>(∃done v,vs=[iv i,v]∧LS τs done v τ∧done++((x.units.drop i).map (acAtt side)++(Zt side x.units s.attack++[acEnd 3 side,acEnd 4 side]))=cand s side x)∧i≤x.units.length) (λi=>x.units.length-i) 0 ⟨⟨done,v,rfl,hPS,hd⟩,by omega⟩ ?_;clear hPS hd;rintro i vs τ again ⟨⟨done,v,rfl,hPS,hd⟩,hi⟩ hag;refine Za (Qf ..) ?_;rw[List.length_map];refine Za (Xt ..) (Zc (λh=>?_) (λh=>?_))
 ·have h:i<x.units.length:=by simpa using h
  have hb:=hbig _ _ hd;rw[YLD h,List.map_cons,List.cons_append,List.append_cons] at hd;refine Za (Zn _ thC false false 4 x.units .i64 i h) ?_;generalize x.units[i]=u at hd ⊢;refine Za rfl (Za (v:=iv u.id) (ldr rfl) ?_);refine Zh (Qbb 1 _ _ _ [iv u.id] rfl rfl) (Zy _ _) (Za (v:=.agg [iv8 1,iv side,iv 0,iv (-1),.sl τ.length 0 1 true,.nils]) (rd:=[]) rfl ?_);refine(hPS.more [.rows 1 [[iv u.id]]]).put hb (acAtt side u) (.inr ⟨_,u.id,rfl,rfl,Yj _ _⟩) (.inl ⟨rfl,rfl⟩) (λv' τ' hPS'=>?_);refine Za (Qj ..) ?_;rw[Qe (n:=i) (by omega)];exact hag (i+1) _ _ (by omega) ⟨⟨_,_,rfl,hPS',hd⟩,by omega⟩
 have h:i=x.units.length:=by simp at h; omega
 subst h;rw[List.drop_length,List.map_nil,List.nil_append] at hd;clear hag again hi;have hal:s.attack.length≤1000000000:=hs.attack;refine Qi (ι:=Nat) (λi vs τ=>(∃done v,vs=[iv i,v]∧LS τs done v τ∧done++(Zt side x.units (s.attack.drop i)++[acEnd 3 side,acEnd 4 side])=cand s side x)∧i≤s.attack.length) (λi=>s.attack.length-i) 0 ⟨⟨done,v,rfl,hPS,hd⟩,by omega⟩ ?_;clear hPS hd;rintro i vs τ again ⟨⟨done,v,rfl,hPS,hd⟩,hi⟩ hag;have g1:=hPS.get h1 (by simp);refine Za rfl (Za (v:=rowV s.attack) (ld g1 rfl) (Za (Qf ..) ?_));rw[List.length_map];refine Za (Xt ..) (Zc (λh=>?_) (λh=>?_))
 ·have h:i<s.attack.length:=by simpa using h
  have hix:=λσ=>Zn σ cel false false 1 s.attack .i64 i h;rw[YLD h,Zt,List.append_assoc] at hd;generalize s.attack[i]=id at hd hix ⊢;refine Qi (ι:=Nat) (λk vs τ=>(∃done v,vs=[iv k,v]∧LS τs done v τ∧done++((x.units.drop k).map (acBlk side id)++(Zt side x.units (s.attack.drop (i+1))++[acEnd 3 side,acEnd 4 side]))=cand s side x)∧k≤x.units.length) (λk=>x.units.length-k) 0 ⟨⟨done,v,rfl,hPS,hd⟩,by omega⟩ ?_;clear hPS hd g1;rintro k vs τ again2 ⟨⟨done,v,rfl,hPS,hd⟩,hk⟩ hag2;have g1:=hPS.get h1 (by simp);refine Za (Qf ..) ?_;rw[List.length_map];refine Za (Xt ..) (Zc (λh=>?_) (λh=>?_))
  ·have h:k<x.units.length:=by simpa using h
   have hb:=hbig _ _ hd;rw[YLD h,List.map_cons,List.cons_append,List.append_cons] at hd;have hiu:=Zn τ thC false false 4 x.units .i64 k h;generalize x.units[k]=u at hd hiu ⊢;refine Zj rfl (Xl (ld (v:=rowV s.attack) g1 rfl) (Zl _) (Xl (hix _) (Zl _) (Xl (v:=iv id) (ldr rfl) (Zl _) (Xl hiu (Zl _) (Zj rfl (Xl (v:=iv u.id) (ldr rfl) (Zl _) (Zj (v:=.agg [iv id,iv u.id]) rfl ?_)))))));refine Xl (Qbb 2 _ _ _ [iv id,iv u.id] rfl rfl) (Zy _ _) (Zj (v:=.agg [iv8 2,iv side,iv 0,iv (-1),.nils,.sl τ.length 0 1 true]) rfl ?_);have hPS2:=hPS.more [.rows 2 [[iv id,iv u.id]]];have hx:IdN (τ++[.rows 2 [[iv id,iv u.id]]]) .nils (acBlk side id u).ids:=.inl ⟨rfl,rfl⟩;have hy:PrN (τ++[.rows 2 [[iv id,iv u.id]]]) (.sl τ.length 0 1 true) (acBlk side id u).prs:=.inr ⟨_,(id,u.id),rfl,rfl,Yj _ _⟩;obtain⟨v',rd,up,τ',o1,o2,o3⟩:=hPS2.app hb hx hy;refine Xl (Qbb 6 _ _ _ [iv8 2,iv side,iv 0,iv (-1),.nils,.sl τ.length 0 1 true] rfl rfl) (Zy _ _) (Xl o1 o2 (QC (by rfl) ?_));refine Za (Qj ..) ?_;rw[Qe (n:=k) (by omega)];exact hag2 (k+1) _ _ (by omega) ⟨⟨_,_,rfl,o3,hd⟩,by omega⟩
  ·have h:k=x.units.length:=by simp at h; omega
   subst h;rw[List.drop_length,List.map_nil,List.nil_append] at hd;refine Za (Qj ..) ?_;rw[Qe (n:=i) (by omega)];exact hag (i+1) _ _ (by omega) ⟨⟨done,_,rfl,hPS,hd⟩,by omega⟩
 have h:i=s.attack.length:=by simp at h; omega
 subst h;rw[List.drop_length,Zt,List.nil_append] at hd;have hb:=hbig _ _ hd;refine Za (v:=.agg [iv8 3,iv side,iv 0,iv (-1),.nils,.nils]) (rd:=[]) rfl (Za (v:=.agg [iv8 4,iv side,iv 0,iv (-1),.nils,.nils]) (rd:=[]) rfl ?_);refine Zh (v:=.sl τ.length 0 2 true) (rd:=[]) (up:=[(τ.length,.rows 6 [[iv8 3,iv side,iv 0,iv (-1),.nils,.nils],[iv8 4,iv side,iv 0,iv (-1),.nils,.nils]])]) rfl (Zy _ _) ?_;have hPS2:=hPS.more [.rows 6 [[iv8 3,iv side,iv 0,iv (-1),.nils,.nils],[iv8 4,iv side,iv 0,iv (-1),.nils,.nils]]];obtain⟨v',rd,up,τ',o1,o2,o3,o4,o5,o6⟩:=hPS2.1.ops (as2:=[acEnd 3 side,acEnd 4 side]) (Yj _ _) rfl (by simp) (λd _ i row a e1 e2=>by
  match i,e1,e2 with
  |0,e1,e2=>cases e1; cases e2; exact⟨_,_,rfl,.inl ⟨rfl,rfl⟩,.inl ⟨rfl,rfl⟩⟩
  |1,e1,e2=>cases e1; cases e2; exact⟨_,_,rfl,.inl ⟨rfl,rfl⟩,.inl ⟨rfl,rfl⟩⟩
  | i + 2,e1,_=>simp at e1) hPS2.2.1 (by simp; omega)
 refine Zh o1 o2 (hF _ _ ?_);rw[hd] at o3;exact⟨o3,Nat.le_trans hPS2.2.1 o4,λc hc=>by rw[o5 c hc]; exact hPS2.2.2 c hc⟩
theorem c40(b:Bk)(hf:bkFit b=true)(s:St)(hs:StLe 1000000000 s)(side:Int):PC 40 [bkV b,stV s,iv side] (acV (allF b s side)):=by
 have h67:=c67 b hf;refine X3 hP g40_ok rfl ?_;unfold g40;refine Zh (v:=.bptr 0 0) (rd:=[]) (up:=[(0,.box (bkC b))]) rfl rfl ?_;refine Zh (v:=.bptr 1 0) (rd:=[]) (up:=[(1,.box (stC s))]) rfl rfl ?_;refine Za rfl (Za rfl (Yd (c16 b s hs _ _ h67) rfl g16_ok.plain rfl (Za (YF ..) ?_)));refine ZX (λ_=>rfl) (λ_=>rfl) (λ_=>Zf ..) ?_;refine Xa5 (λ_=>rfl) (λ_=>Xt ..) ?_;refine Xa5 (λ_=>rfl) (λ_=>YD ..) ?_;refine Zc (λh=>?_) (λh=>?_)
 ·rw[allF,if_neg]
  ·exact⟨[],Bor.weak (Bor.ro rfl) (λM u d=>d.nils_rsl 6)⟩
  ·rintro⟨h1,h2,h3⟩;rw[h1] at h;simp only[Bool.or_eq_true,decide_eq_true_eq,cond_true] at h;omega
 have hm:mayR (bkR b).1 b s false=true:=by
  cases e:mayR (bkR b).1 b s false with
  |true=>rfl
  |false=>rw[e] at h; simp at h
 rw[hm] at h;simp only[Bool.or_eq_false_iff,decide_eq_false_iff_not,cond_true] at h;obtain⟨⟨⟨_,hph⟩,hs0⟩,hs1⟩:=h;have hsd:side=0∨side=1:=by omega
 rw[allF,if_pos ⟨hm,hph,hsd⟩];have hM:=(XaO.1 (Qas hm)).2;have hs6:StLe 1000000 s:=by
  have l:∀ {x:Sd},SideP b x→SdLe 1000000 x:=λ{x} S=>by
   have h1:=(Zu.1 S.deck).1;have h2:=(Zu.1 S.hand).1;have h3:=(Zu.1 S.grave).1;have h4:=(Zu.1 S.told).1;have h5:=S.units;exact⟨by omega,by omega,by omega,by omega,by omega⟩
  refine⟨?_,l hM.s0,l hM.s1⟩;by_cases hp:s.phase=1
  ·have:=(hM.at_.2 hp).2.1; omega
  ·rw[hM.at_.1 hp]; simp
 refine Zh (v:=.sl 2 0 3 true) (rd:=[]) (up:=[(2,.rows 1 [[iv (-3)],[iv (-2)],[iv (-1)]])]) rfl rfl ?_;refine Za (v:=stV s) (rd:=[1]) rfl (Yd (c90 s hs6) rfl g90_ok.plain rfl ?_);have hu0:=hM.s0.units;have hu1:=hM.s1.units;have hTl:(tgs s).length≤17:=by rw[Zbg]; omega
 have hL:(srt (YI s)).length+3=(tgs s).length:=by rw[Zbg,YaR,YI]; simp; omega
 refine Zh (XcD 1 8 (b:=2) (len:=3) (ex:=true) (rs:=[[iv (-3)],[iv (-2)],[iv (-1)]]) (rows:=(srt (YI s)).map cel) rfl rfl (Zab (by simp[cel,AVal.cell])) (by rw[show (2:Nat) ^ 48=281474976710656 from rfl,List.length_map]; omega)) (YaS _ _ (by simp)) ?_;have e:[[iv (-3)],[iv (-2)],[iv (-1)]]++(srt (YI s)).map cel=(tgs s).map cel:=by rw[tgs,List.map_append]; rfl
 rw[e,List.length_map,show 3+(srt (YI s)).length=(tgs s).length by omega];generalize hτ:List.set ([]++[ABlk.box (bkC b)]++[ABlk.box (stC s)]++[ABlk.rows 1 [[iv (-3)],[iv (-2)],[iv (-1)]]]) 2 .dead++[.rows 1 ((tgs s).map cel)]=τ;have g0:hget τ 0=.box (bkC b):=by rw[←hτ]; rfl
 have g1:hget τ 1=.box (stC s):=by rw[←hτ]; rfl
 have g3:hget τ 3=.rows 1 ((tgs s).map cel):=by rw[←hτ]; rfl
 clear hτ;rcases hsd with rfl|rfl
 ·have hx:=hM.cand (side:=0) hM.s0;have:=(Zu.1 hM.s0.hand).1;refine XaT hs (x:=s.s0) (j:=7) (λ_=>rfl) rfl rfl ⟨by omega,by omega⟩ (by omega) rfl g1 g3 (λlv τ' hLS=>?_);exact ZbY hf hs hm hph hLS (by omega) (Yag _ _ _) g0 g1 (K:=λv' σ=>∃rd,Bor (Go.Ah.hp σ) rd v' (acV (flt b s (cand s 0 s.s0)))) (λv τ2 h=>h.bor)
 ·have hx:=hM.cand (side:=1) hM.s1;have:=(Zu.1 hM.s1.hand).1;refine XaT hs (x:=s.s1) (j:=15) (λ_=>rfl) rfl rfl ⟨by omega,by omega⟩ (by omega) rfl g1 g3 (λlv τ' hLS=>?_);exact ZbY hf hs hm hph hLS (by omega) (Yag _ _ _) g0 g1 (K:=λv' σ=>∃rd,Bor (Go.Ah.hp σ) rd v' (acV (flt b s (cand s 1 s.s1)))) (λv τ2 h=>h.bor)
def sameA(a b:Ac):Bool:=!(((((decide (a.op≠b.op)||decide (a.side≠b.side))||decide (a.place≠b.place))||decide (a.target≠b.target)) || !decide (a.ids=b.ids))||decide ((a.prs.length:Int)≠b.prs.length))&&decide (a.prs=b.prs)
theorem YbT(a b:Ac):sameA a b=true↔a=b:=by
 cases a; cases b;simp only[sameA,Ac.mk.injEq,Bool.and_eq_true,Bool.not_eq_true',Bool.or_eq_false_iff,decide_eq_false_iff_not,decide_eq_true_eq,Bool.not_eq_false',ne_eq,Decidable.not_not];constructor
 ·rintro⟨⟨⟨⟨⟨⟨h1,h2⟩,h3⟩,h4⟩,h5⟩,_⟩,h6⟩;exact⟨h1,h2,h3,h4,h5,h6⟩
 ·rintro⟨h1,h2,h3,h4,h5,rfl⟩;exact⟨⟨⟨⟨⟨⟨h1,h2⟩,h3⟩,h4⟩,h5⟩,rfl⟩,rfl⟩
theorem e_eqP(p q:Int×Int)(σ:List ABlk):XbS true [false,false] [.agg (prC p),.agg (prC q)] σ=.ok (.bool (!decide (p=q))) [] []:=by
 have:decide (p=q)=(decide (p.1=q.1)&&decide (p.2=q.2)):=by
  cases p; cases q; simp
 simp[XbS,QK,YaF,prC,this];rw[Bool.eq_iff_iff]; simp
theorem c41(a b:Ac)(hl:a.ids.length≤1000000000)(hl2:a.prs.length≤1000000000):PC 41 [.agg (acC a),.agg (acC b)] (.bool (sameA a b)):=by
 refine Xd hP g41_ok rfl rfl ?_;unfold g41;refine Zh (v:=.bptr 0 0) (rd:=[]) (up:=[(0,.box (acC a))]) rfl rfl ?_;refine Zh (v:=.bptr 1 0) (rd:=[]) (up:=[(1,.box (acC b))]) rfl rfl ?_;refine Za rfl (Za rfl (Za rfl (Za rfl (Za (YF ..) ?_))));refine ZaK (λ_=>rfl) (λ_=>rfl) (λ_=>rfl) (λ_=>rfl) (λ_=>YF ..) ?_;refine ZaK (λ_=>rfl) (λ_=>rfl) (λ_=>rfl) (λ_=>rfl) (λ_=>YF ..) ?_;refine ZaK (λ_=>rfl) (λ_=>rfl) (λ_=>rfl) (λ_=>rfl) (λ_=>YF ..) ?_;refine Za6 (v2:=rowV a.ids) (v4:=rowV b.ids) (u0:=.bool (decide (a.ids=b.ids))) (λ_=>rfl) (λ_=>rfl) (λ_=>rfl) (λ_=>rfl) (λ_ k hk=>Yd (c62 a.ids b.ids (by omega)) rfl g62_ok.plain rfl hk) (λ_=>rfl) ?_;refine Qbs (v3:=iv a.prs.length) (v6:=iv b.prs.length) (q3:=[]) (q6:=[]) (λ_=>rfl) (λ_=>rfl) (λ_=>by simp[Qf]) (λ_=>rfl) (λ_=>rfl) (λ_=>by simp[Qf]) (λ_=>YF ..) ?_;refine Zc (λh=>?_) (λh=>?_)
 ·exact congrArg AVal.bool (by rw[sameA,h]; rfl)
 have hR:sameA a b=decide (a.prs=b.prs):=by rw[sameA,h]; rfl
 have hlen:a.prs.length=b.prs.length:=by
  simp only[Bool.or_eq_false_iff,decide_eq_false_iff_not,ne_eq,Decidable.not_not] at h;omega
 rw[hR];clear hR h;have h0:hget ([]++[ABlk.box (acC a)]++[ABlk.box (acC b)]) 0=.box (acC a):=rfl;have h1:hget ([]++[ABlk.box (acC a)]++[ABlk.box (acC b)]) 1=.box (acC b):=rfl;generalize ([]++[ABlk.box (acC a)]++[ABlk.box (acC b)]:List ABlk)=base at h0 h1 ⊢;refine Qi (ι:=Nat) (λi vs σ=>vs=[iv i]∧σ=base∧i≤a.prs.length∧a.prs.take i=b.prs.take i) (λi=>a.prs.length-i) 0 ⟨rfl,rfl,by omega,by simp⟩ ?_;rintro i vs σ again ⟨rfl,rfl,hi,ht⟩ hag;refine Za rfl (Za (v:=prV a.prs) (ld h0 rfl) (Za (Qf ..) ?_));rw[List.length_map];refine Za (Xt ..) (Zc (λh=>?_) (λh=>?_))
 ·have h:i<a.prs.length:=by simpa using h
  have hb:i<b.prs.length:=by omega
  refine Za rfl (Za (v:=prV a.prs) (ld h0 rfl) (Za (Zn _ prC false false 2 a.prs .i64 i h) (Za (v:=.agg (prC a.prs[i])) (ldr rfl) ?_)));refine Za rfl (Za (v:=prV b.prs) (ld h1 rfl) (Za (Zn _ prC false false 2 b.prs .i64 i hb) (Za (v:=.agg (prC b.prs[i])) (ldr rfl) ?_)));refine Za (e_eqP ..) (Zc (λhq=>?_) (λhq=>?_))
  ·refine congrArg AVal.bool (Eq.symm (decide_eq_false λe=>?_));have:a.prs[i]=b.prs[i]:=by simp only[e]
   simp[this] at hq
  ·have he:a.prs[i]=b.prs[i]:=by simpa using hq
   refine Za (Qj ..) ?_;rw[Qe (n:=i) (by omega)];exact hag (i+1) _ _ (by omega) ⟨rfl,rfl,by omega,by rw[List.take_succ_eq_append_getElem h,List.take_succ_eq_append_getElem hb,ht,he]⟩
 ·have h:i=a.prs.length:=by simp at h; omega
  subst h;rw[List.take_length,hlen,List.take_length] at ht;exact congrArg AVal.bool (decide_eq_true ht).symm
theorem Ybt(b:Bk)(s:St)(side:Int):∀a∈allF b s side,a.ids.length≤1∧a.prs.length≤1:=by
 intro a ha;unfold allF at ha;split at ha
 ·exact Yag s side _ a ((List.mem_filter.1 ha).1)
 ·cases ha
theorem Yb0{b:Bk}{s:St}{side:Int}:(allF b s side).length≤1000000000:=by
 unfold allF;split
 ·rename_i h;have hM:=(XaO.1 (Qas h.1)).2;have hx:SideP b (Xbs s side):=by
   unfold Xbs; split
   ·exact hM.s0
   ·exact hM.s1
  have:=hM.cand (side:=side) hx;have:=Zbd b s (cand s side (Xbs s side));omega
 ·simp
theorem c7(h89:SortC prog 89)(h34:PC 34 [] (.bool true))(b:Bk)(hf:bkFit b=true)(hsm:YG b.cards)(s:St)(hs:StLe 2000000 s)(side:Int):PC 7 [bkV b,stV s,iv side] (.bool true):=by
 refine Xd hP g7_ok rfl rfl ?_;unfold g7;refine Zh (v:=.bptr 0 0) (rd:=[]) (up:=[(0,.box (bkC b))]) rfl rfl ?_;refine Zh (v:=.bptr 1 0) (rd:=[]) (up:=[(1,.box (stC s))]) rfl rfl ?_;refine Za rfl ?_;refine Qy hP rfl g14_ok rfl (c14 b hf _ _ (λq=>?_));have hend:∀σ,VV.call (.call 34) [] σ λt44_18 σ=>(λ(v':AVal) (_:List ABlk)=>v'=.bool true) t44_18 σ:=λσ=>Yd h34 rfl g34_ok.plain rfl rfl;cases q with
 |true=>
  repeat first|refine Zb rfl ?_|refine Yc rfl ?_
  exact Za rfl (Ze (hend _))
 |false=>
 refine Xa (Za rfl (Xb ?_));obtain⟨q,h15⟩:=c15 s;refine Yd h15 rfl g15_ok.plain rfl (Za rfl (Zc (λ_=>hend _) (λ_=>?_)));have h9:StLe 1000000000 s:=hs.mono (by decide);have h39:=c39 h89 b hf hsm s h9 side;have h40:=c40 b hf s h9 side;have hsm2:=Ybt b s side;have hlen:=Yb0 (b:=b) (s:=s) (side:=side);generalize allF b s side=l at h39 h40 hsm2 hlen;refine Xl rfl rfl (Xl rfl rfl (Xk h39 rfl g39_ok.plain rfl (Xl rfl rfl (Xl rfl rfl (Xk h40 rfl g40_ok.plain rfl (QC (by kernel_rfl) ?_))))));refine Za (Qf ..) (Za (Qf ..) ?_);rw[List.length_map];refine Za (YF ..) ?_;rw[decide_eq_false (show ¬((l.length:Int)≠l.length) by simp)];refine Xi (Za (Qf ..) ?_);rw[List.length_map];refine Qi (ι:=Nat) (λi vs _=>vs=[iv i]∧i≤l.length) (λi=>l.length-i) 0 ⟨rfl,by omega⟩ ?_;rintro i vs σ again ⟨rfl,hi⟩ hag;refine Za (Xt ..) (Zc (λh=>?_) (λ_=>hend _));have h:i<l.length:=by simpa using h
 have hi1:=Zn σ acC false false 6 l .i64 i h;have hm:=hsm2 l[i] (List.getElem_mem h);generalize l[i]=a at hi1 hm;refine Xl hi1 (Zl _) (Xl (v:=.agg (acC a)) (ldr rfl) (Zl _) (Xl hi1 (Zl _) (Xl (v:=.agg (acC a)) (ldr rfl) (Zl _) ?_)));refine Xk (c41 a a (by omega) (by omega)) rfl g41_ok.plain rfl (Zj rfl (QC (Z9 (by simp[allRd])) ?_));rw[(YbT a a).2 rfl];refine Xi (Za (Qj ..) ?_);rw[Qe (n:=i) (by omega)];exact hag (i+1) _ _ (by omega) ⟨rfl,by omega⟩
end Go.Ah.Tz
end
section
namespace Go.Ah.Tz
open Go.Shelf Go.Proofs
open Go.Proofs.Tryz (prog)
def Zbx:Go.Shelf.Ren:=⟨fun|189=>89|125=>129|257=>128|128=>172|129=>173|294=>163|295=>164|296=>165|297=>166|298=>167|299=>168|216=>169|300=>170|301=>171|328=>215|329=>216|330=>217|331=>218|332=>219|215=>220|343=>234|n=>n,fun|28=>27|3=>3|46=>202|0=>0|51=>245|53=>247|4=>4|183=>238|182=>237|131=>209|5=>5|9=>9|218=>276|222=>280|228=>296|229=>125|n=>n,fun|n=>n⟩
theorem lays89:Go.Proofs.Lays.n189 prog Zbx:={
 mixed:=by kernel_rfl,
 f125:=Tryz.func129.trans (congrArg some (by kernel_rfl)),
 f128:=Tryz.func172.trans (congrArg some (by kernel_rfl)),
 f129:=Tryz.func173.trans (congrArg some (by kernel_rfl)),
 f189:=Tryz.func89.trans (congrArg some (by kernel_rfl)),
 f215:=Tryz.func220.trans (congrArg some (by kernel_rfl)),
 f216:=Tryz.func169.trans (congrArg some (by kernel_rfl)),
 f257:=Tryz.func128.trans (congrArg some (by kernel_rfl)),
 f294:=Tryz.func163.trans (congrArg some (by kernel_rfl)),
 f295:=Tryz.func164.trans (congrArg some (by kernel_rfl)),
 f296:=Tryz.func165.trans (congrArg some (by kernel_rfl)),
 f297:=Tryz.func166.trans (congrArg some (by kernel_rfl)),
 f298:=Tryz.func167.trans (congrArg some (by kernel_rfl)),
 f299:=Tryz.func168.trans (congrArg some (by kernel_rfl)),
 f300:=Tryz.func170.trans (congrArg some (by kernel_rfl)),
 f301:=Tryz.func171.trans (congrArg some (by kernel_rfl)),
 f328:=Tryz.func215.trans (congrArg some (by kernel_rfl)),
 f329:=Tryz.func216.trans (congrArg some (by kernel_rfl)),
 f330:=Tryz.func217.trans (congrArg some (by kernel_rfl)),
 f331:=Tryz.func218.trans (congrArg some (by kernel_rfl)),
 f332:=Tryz.func219.trans (congrArg some (by kernel_rfl)),
 f343:=Tryz.func234.trans (congrArg some (by kernel_rfl)),
 t0:=Tryz.underlying0,
 a0:=Tryz.isAgg0,
 z0:=Tryz.sizeOf0,
 v0:=Tryz.zeroValue0,
 t3:=Tryz.underlying3,
 a3:=Tryz.isAgg3,
 z3:=Tryz.sizeOf3,
 v3:=Tryz.zeroValue3,
 t4:=Tryz.underlying4,
 a4:=Tryz.isAgg4,
 z4:=Tryz.sizeOf4,
 v4:=Tryz.zeroValue4,
 t5:=Tryz.underlying5,
 a5:=Tryz.isAgg5,
 z5:=Tryz.sizeOf5,
 v5:=Tryz.zeroValue5,
 t9:=Tryz.underlying9,
 a9:=Tryz.isAgg9,
 z9:=Tryz.sizeOf9,
 v9:=Tryz.zeroValue9,
 t28:=Tryz.underlying27,
 a28:=Tryz.isAgg27,
 z28:=Tryz.sizeOf27,
 v28:=Tryz.zeroValue27,
 t46:=Tryz.underlying202,
 a46:=Tryz.isAgg202,
 z46:=Tryz.sizeOf202,
 v46:=Tryz.zeroValue202,
 t51:=Tryz.underlying245,
 a51:=Tryz.isAgg245,
 z51:=Tryz.sizeOf245,
 v51:=Tryz.zeroValue245,
 t53:=Tryz.underlying247,
 a53:=Tryz.isAgg247,
 z53:=Tryz.sizeOf247,
 v53:=Tryz.zeroValue247,
 t131:=Tryz.underlying209,
 a131:=Tryz.isAgg209,
 z131:=Tryz.sizeOf209,
 v131:=Tryz.zeroValue209,
 t182:=Tryz.underlying237,
 a182:=Tryz.isAgg237,
 z182:=Tryz.sizeOf237,
 v182:=Tryz.zeroValue237,
 t183:=Tryz.underlying238,
 a183:=Tryz.isAgg238,
 z183:=Tryz.sizeOf238,
 v183:=Tryz.zeroValue238,
 t218:=Tryz.underlying276,
 a218:=Tryz.isAgg276,
 z218:=Tryz.sizeOf276,
 v218:=Tryz.zeroValue276,
 t222:=Tryz.underlying280,
 a222:=Tryz.isAgg280,
 z222:=Tryz.sizeOf280,
 v222:=Tryz.zeroValue280,
 t228:=Tryz.underlying296,
 a228:=Tryz.isAgg296,
 z228:=Tryz.sizeOf296,
 v228:=Tryz.zeroValue296,
 t229:=Tryz.underlying125,
 a229:=Tryz.isAgg125,
 z229:=Tryz.sizeOf125,
 v229:=Tryz.zeroValue125 }
theorem sort89:SortC prog 89:=λblk off cap zs w hH hb hl=>Any.slices_Sort_int lays89 blk off cap zs w hH hb hl
end Go.Ah.Tz
end
section
namespace Go.Proofs.YtflcpnaigpgciaaGreatDoor
open Go.ChangeShapes Go.WideShapes Go.ChangeAt Go.RowKit Go.Ah Go.Ah.Tz
set_option maxRecDepth 100000
theorem Xb0:Rows.turnAllUptoRow.laid=[("unicode.White_Space",Rows.laid_unicode_White_Space),("strings.asciiSpace",Lib.tabData .u8 spaces)]:=by kernel_rfl
theorem YaT(H:Type)(enc:TypeId×Value→H)(W:World)(base:Nat)(args:Array Value)(ds gs:List (DataW H))(before:List MemPlace)
 (hval:∀(j:Nat) t v,Tryz.f7.params[j]?=some t→args[j]?=some v→Value.okWide Tryz.prog W .any base t v)
 (hW:DataW.Whole enc Tryz.prog Tryz.f7.params.toList Rows.turnAllSpec.vars false W args.toList ds gs before)(hk:Rows.uptoSmall H (ds++gs)=true)(hL:laidMetH Tryz.prog Rows.turnAllUptoRow.laid W) :
  Calls Tryz.prog 7 args W λe W'=>∃v,e=.returned v∧Rows.turnAllSpec.post enc Tryz.prog Tryz.f7 false true false false W args v W':=by
 have hW':=hW;have hlt:=hW.lt;obtain⟨p,q,hA0,hV,rfl,hfz,hnd⟩:=hW;have hA:DataW.TrodAll enc Tryz.prog W 0 (λ_=>true) true Tryz.f7.params.toList args.toList ds p:=hA0;rw[Tryz.params7] at hA hval;obtain⟨v0,vs,d0,ds,p0,p,hargs,rfl,rfl,h0,r⟩:=trodAll_cons hA;obtain⟨v1,vs,d1,ds,p1,p,rfl,rfl,rfl,h1,r⟩:=trodAll_cons r;obtain⟨v2,vs,d2,ds,p2,p,rfl,rfl,rfl,h2,r⟩:=trodAll_cons r;obtain⟨rfl,rfl,rfl⟩:=trodAll_nil r;obtain rfl:args = #[v0,v1,v2]:=by cases args; simp_all
 obtain⟨rfl,rfl⟩:=trodVars_none hV;have hbk:Rows.uptoBulkAll [d0,d1,d2]≤1048576:=of_decide_eq_true hk;simp only[Rows.uptoBulkAll] at hbk;obtain⟨b,hf,hsm,e0⟩:=QcC (hval 0 _ v0 rfl rfl) h0 (by omega);obtain⟨s,hs,e1⟩:=Qcn (hval 1 _ v1 rfl rfl) h1 (by omega);obtain⟨n2,e2⟩:=d_int (hval 2 _ v2 rfl rfl) h2;have hg:=Xcn Xb0 (show laidMet Tryz.prog Rows.turnAllUptoRow.laid W from hL);refine(c7 sort89 p34 b hf hsm s hs n2 W (λk=>W.heap[k]?) [v0,v1,v2] (λ_ _ h=>h) hg ⟨e0,e1,e2,trivial⟩).mono ?_;rintro e W' ⟨u,rfl,hkeep,M',_,_,_,hd⟩;cases hd;have hb:=hkeep.below;refine⟨_,rfl,YaP (pa:=p0++(p1++(p2++[]))) (pv:=[]) hW' (λ_ _ _=>trodAll_cons_mk (shut_bool Ya8 _) trodAll_mk0) (λsp hsp=>?_) (λ_ _=>rfl) rfl hb (ok_one (by kernel_rfl) rfl (okWide_bool_mk Ya8 _))⟩;rw[Tryz.params7];refine trodAll_cons_mk (Qba r_bk.1 r_bk.2 h0 hb hlt (λp hp=>by simp[hp]) hsp) <| trodAll_cons_mk (Qba r_st.1 r_st.2 h1 hb hlt (λp hp=>by simp[hp]) hsp) <| trodAll_cons_mk (Qba ZcI.1 ZcI.2 h2 hb hlt (λp hp=>by simp[hp]) hsp) trodAll_mk0
def Xaq:Array Value:=#[.agg #[.slice none 0 0,.slice none 0 0],.agg #[.int .i64 0,.int .i64 0,.int .i8 0,.bool false,.int .i8 0,.slice none 0 0,.int .i64 0,.int .i64 0,.int .i64 0,.int .i64 0,.slice none 0 0,.slice none 0 0,.slice none 0 0,.slice none 0 0,.slice none 0 0,.int .i64 0,.int .i64 0,.int .i64 0,.slice none 0 0,.slice none 0 0,.slice none 0 0,.slice none 0 0,.slice none 0 0],.int .i64 0]
theorem Xck(os:Os):laidMet Tryz.prog Rows.turnAllUptoRow.laid ((Zbb os).forCall (λ_ _=>0) ⟨#[],Xaq,[]⟩).memory:=
 laidMet_of_run' 8 (by kernel_rfl) (by kernel_rfl)
theorem XbC(os:Os){H:Type}(enc:TypeId×Value→H):∃places,DataW.whole enc Tryz.prog ((Zbb os).forCall (λ_ _=>0) ⟨#[],Xaq,[]⟩).memory Tryz.f7.params.toList Rows.turnAllSpec.vars false Xaq.toList 8 =
  some ([.agg [.nil,.nil],.agg [.lit (.int .i64 0),.lit (.int .i64 0),.lit (.int .i8 0),.lit (.bool false),.lit (.int .i8 0),.nil,.lit (.int .i64 0),.agg [.agg [.lit (.int .i64 0),.lit (.int .i64 0),.lit (.int .i64 0),.nil,.nil,.nil,.nil,.nil],.agg [.lit (.int .i64 0),.lit (.int .i64 0),.lit (.int .i64 0),.nil,.nil,.nil,.nil,.nil]]],.lit (.int .i64 0)],[],places):=⟨[],by kernel_rfl⟩
theorem Qbt(os:Os)(started:os.Started)(H:Type)(enc:TypeId×Value→H)(F:Stop.Interp) :
  ReturnsInHanded {} Tryz.checked os 7 .any ((Rows.OpenSpec.upto Rows.turnAllSpec).preRow enc Tryz.prog Tryz.f7 Rows.turnAllUptoRow.domain false Rows.turnAllUptoRow.laid) (((Rows.OpenSpec.upto Rows.turnAllSpec).at F).post enc Tryz.prog Tryz.f7 false true false false):=by
 obtain⟨places,hx⟩:=XbC os enc;refine returnsInHanded_of_row (C:=Tryz.checked) (s:=Rows.OpenSpec.upto Rows.turnAllSpec) d_own started (by kernel_rfl) Tryz.func7
  (witness_row_atRef (enc:=enc) (C:=Tryz.checked) false (Zbb os) Xaq rfl (by kernel_rfl) (by kernel_rfl) (by kernel_rfl)
   (OpenSpec.preRow_of_cond 8 hx (by kernel_rfl) (λk hk=>by cases hk; kernel_rfl) (by kernel_rfl) (Xck os))) ?_
 intro W base args ds gs before hval hW _ hcond _ hL _ _;exact YaT H enc W base args ds gs before hval hW (hcond _ rfl) hL
theorem Zcx:Tryz.prog.funcNamed Rows.turnAllUptoRow.func=some 7:=by kernel_rfl
theorem Ycx:(Rows.turnAllUptoRow.wf (OpenSpec.ofChange (Rows.OpenSpec.upto Rows.turnAllSpec).bare))=true:=by kernel_rfl
theorem Xcx:(laidOutB Tryz.prog)=true:=by kernel_rfl
theorem Qcx:(mapsRowed Tryz.prog)=true:=by kernel_rfl
theorem Zcy:(Tryz.f7.params.all (Tryz.prog.readableRec ·))=true:=by kernel_rfl
theorem Ycy:(namedTie Tryz.prog Rows.turnAllUptoRow.named (Rows.OpenSpec.upto Rows.turnAllSpec).bare.vars)=true:=by kernel_rfl
theorem Xcy:(Rows.turnAllUptoRow.stops==[])=true:=by kernel_rfl
theorem Qcy:(Tryz.prog.stops==[])=true:=by kernel_rfl
theorem Zcz:(Rows.turnAllUptoRow.knobs==[])=true:=by kernel_rfl
theorem Ycz:(Tryz.prog.stopKnobs==[])=true:=by kernel_rfl
theorem Qce:(Rows.turnAllUptoRow.inPlace==Tryz.prog.inPlace 7)=true:=by kernel_rfl
theorem Zcf:(Rows.turnAllUptoRow.unfollowed==Tryz.prog.unfollowed 7)=true:=by kernel_rfl
theorem Ycf:(Rows.turnAllUptoRow.recurses==Tryz.prog.recurses 7)=true:=by kernel_rfl
theorem Xcf:(Rows.turnAllUptoRow.named==Tryz.prog.varsNamed 7)=true:=by kernel_rfl
theorem Qcf:(Rows.turnAllUptoRow.maps==(Tryz.f7.params.toList++(Rows.OpenSpec.upto Rows.turnAllSpec).bare.plain.varTypes Tryz.prog).any (Tryz.prog.mapsRec ·))=true:=by kernel_rfl
theorem Zcg:(Rows.turnAllUptoRow.ifaces==(Tryz.f7.params.toList++(Rows.OpenSpec.upto Rows.turnAllSpec).bare.plain.varTypes Tryz.prog).any (Tryz.prog.ifacesRec ·))=true:=by kernel_rfl
theorem Ycg:(Rows.turnAllUptoRow.mapsOut==Tryz.prog.mapsAmong Tryz.f7.resultTypes.toList)=true:=by kernel_rfl
theorem Xcg:(Rows.turnAllUptoRow.loops==(Tryz.f7.params.toList++(Rows.OpenSpec.upto Rows.turnAllSpec).bare.plain.varTypes Tryz.prog).any (Tryz.prog.loopsFrom ·))=true:=by kernel_rfl
theorem Qcg:(Rows.turnAllUptoRow.wideKeys==(Tryz.f7.params.toList++(Rows.OpenSpec.upto Rows.turnAllSpec).bare.plain.varTypes Tryz.prog++Tryz.f7.resultTypes.toList).any (Tryz.prog.wideKeysFrom ·))=true:=by kernel_rfl
theorem Zch:((Rows.OpenSpec.upto Rows.turnAllSpec).bare.vars.all (Tryz.prog.varReadable ·))=true:=by kernel_rfl
theorem Ych:(Tryz.f7.resultTypes.all (λt=>Tryz.prog.readableRec t&&decide (t<Tryz.prog.types.size)))=true:=by kernel_rfl
theorem Xch:(Rows.turnAllUptoRow.ifacesOut==Tryz.f7.resultTypes.toList.any (Tryz.prog.ifacesRec ·))=true:=by kernel_rfl
theorem Qch:(Rows.turnAllUptoRow.loopsOut==Tryz.f7.resultTypes.toList.any (Tryz.prog.loopsFrom ·))=true:=by kernel_rfl
theorem Zci:(Rows.turnAllUptoRow.plainKeys==Tryz.prog.plainKeys)=true:=by kernel_rfl
theorem Yci:(Rows.turnAllUptoRow.shortTexts.isNone)=true:=by kernel_rfl
theorem Xci:(Tryz.prog.stopsHeard)=true:=by kernel_rfl
theorem Qci:(Tryz.prog.mayEnter)=true:=by kernel_rfl
theorem Zcj:(Rows.turnAllUptoRow.lifted==Tryz.prog.liftsFinal)=true:=by kernel_rfl
theorem Ycj:(Tryz.prog.make==some Rows.turnAllUptoRow.make)=true:=by kernel_rfl
theorem Xcj:(Rows.turnAllUptoRow.kinds==(if Rows.turnAllUptoRow.domain.isEmpty then [] else Tryz.f7.params.toList.map λt=>match Tryz.prog.underlying t with|some (.int k)=>some k|_=>none))=true:=by kernel_rfl
theorem Qcj:(Rows.turnAllUptoRow.pinned==Rows.turnAllUptoRow.pinnedBy)=true:=by kernel_rfl
theorem Zck:(Rows.turnAllUptoRow.veiled==(Tryz.f7.params.toList++(Rows.OpenSpec.upto Rows.turnAllSpec).bare.plain.varTypes Tryz.prog++Tryz.f7.resultTypes.toList).any (Tryz.prog.veiledRec ·))=true:=by kernel_rfl
theorem Yck:(Rows.turnAllUptoRow.veiledFits Tryz.prog Tryz.f7.params.toList (Tryz.f7.params.toList++(Rows.OpenSpec.upto Rows.turnAllSpec).bare.plain.varTypes Tryz.prog++Tryz.f7.resultTypes.toList))=true:=by kernel_rfl
theorem Xbt:joinedFacts Tryz.prog 7 Tryz.f7 (Rows.OpenSpec.upto Rows.turnAllSpec).bare Rows.turnAllUptoRow=true:=(Qm (Qm (Qm (Qm (Qm (Qm (Qm (Qm (Qm (Qm (Qm (Qm (Qm (Qm (Qm (Qm (Qm (Qm (Qm (Qm (Qm (Qm (Qm (Qm (Qm (Qm (Qm (Qm (Qm (Qm (Qm Ycx Xcx) Qcx) Zcy) Ycy) Xcy) Qcy) Zcz) Ycz) Qce) Zcf) Ycf) Xcf) Qcf) Zcg) Ycg) Xcg) Qcg) Zch) Ych) Xch) Qch) Zci) Yci) Xci) Qci) Zcj) Ycj) Xcj) Qcj) Zck) Yck)
theorem Qb0:Rows.TurnAllUptoSaid:=
 OpenClaim.holds_of_cond 7 Tryz.f7 rfl rfl rfl rfl rfl rfl rfl ⟨rfl,rfl,rfl,rfl,rfl⟩ rfl rfl rfl rfl rfl Zcx Tryz.func7 Xbt
  (of_decide_eq_true (by kernel_rfl)) (by unfold Func.isWrapper; first|(rw[if_pos (by decide +kernel)]; kernel_rfl)|(rw[if_neg (by decide +kernel)]; exact⟨rfl,rfl⟩))
  (λos started H enc _ F=>by rw[OpenClaim.pre_eq_preRow]; exact Qbt os started H enc F)
theorem YbC(f:FuncId)(fn:Func)(hf:Tryz.pinned.checked.prog.funcNamed "baize/baizelaw21.TurnAll" = some f)(hfn:Tryz.pinned.checked.prog.funcs[f]?=some fn) :
  true=Tryz.pinned.checked.prog.looks []∧∀(j:Nat) t,fn.params[j]?=some t→Tryz.pinned.checked.prog.wantsStandIn t=false:=by
 obtain rfl:f=7:=Option.some.inj ((show Tryz.prog.funcNamed "baize/baizelaw21.TurnAll" = some 7 by kernel_rfl).symm.trans hf) |>.symm;obtain rfl:fn=Tryz.f7:=(Option.some.inj (Tryz.func7.symm.trans hfn)).symm;refine⟨by kernel_rfl,λj t ht=>?_⟩;rw[Tryz.params7] at ht;have hm:t∈[YbY,XbY,ZD]:=by simpa using Array.mem_of_getElem? ht
 have hall:([YbY,XbY,ZD].all λu=>!Tryz.prog.wantsStandIn u)=true:=by kernel_rfl
 exact(show Tryz.prog.wantsStandIn t=false by simpa using List.all_eq_true.1 hall t hm)
theorem turnAll_upto_card:Rows.TurnAllUptoCardSaid:=
 Claim7.holds_tied_plain_at .later [] _ _ _ _ Qb0 (λ_ h=>by cases h) (by kernel_rfl) (λ_ h=>by cases h) turnAllUpto_row_tie rfl ⟨rfl,rfl⟩ (by kernel_rfl) rfl YbC (by kernel_rfl)
#print axioms turnAll_upto_card
end Go.Proofs.YtflcpnaigpgciaaGreatDoor
end
