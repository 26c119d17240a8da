/- Part of the proof that ZoneApart holds of the program for arguments that together hold at most 1048576 values and letters; no other condition. -/
import Derived.Test.YtflcpnaigpgciaaGreatDoorQ5
import Derived.Test.YtflcpnaigpgciaaGreatDoorRows
import Derived.Test.YtflcpnaigpgciaaGreatDoorCards
import Derived.Test.YtflcpnaigpgciaaGreatDoorTie
import Derived.ProofKit
import Derived.OpenShut
import Derived.Carry
import Derived.SevenTiedAt
import Derived.JoinedCond
import Derived.LaidMore
import Derived.SizedLaws
import Derived.Stop.LaidErr
import Derived.Deep.DeepHandedRow
import Derived.Deep.DeepWitnessRowRef
import Derived.Lib.LaidTab
set_option linter.all false
section
namespace Go.Ah.Tz
open Go.Proofs.Tryz (prog)
abbrev mv6(s:St):List AVal:=[.bptr 0 0,iv s.turn,iv s.mover,iv8 s.phase,.bool s.struck,iv8 s.result,.sl 6 0 s.attack.length false,iv s.next,iv s.s0.life,iv s.s0.mana,iv s.s0.most,.sl 7 0 s.s0.deck.length false,.sl 8 0 s.s0.hand.length false,.sl 9 0 s.s0.grave.length false,.sl 10 0 s.s0.units.length false,.sl 11 0 s.s0.told.length false,iv s.s1.life,iv s.s1.mana,iv s.s1.most,.sl 12 0 s.s1.deck.length false,.sl 13 0 s.s1.hand.length false,.sl 14 0 s.s1.grave.length false,.sl 15 0 s.s1.units.length false,.sl 16 0 s.s1.told.length false]
abbrev st6(s:St):List AVal:=[iv s.turn,iv s.mover,iv8 s.phase,.bool s.struck,iv8 s.result,.sl 6 0 s.attack.length false,iv s.next,iv s.s0.life,iv s.s0.mana,iv s.s0.most,.sl 7 0 s.s0.deck.length false,.sl 8 0 s.s0.hand.length false,.sl 9 0 s.s0.grave.length false,.sl 10 0 s.s0.units.length false,.sl 11 0 s.s0.told.length false,iv s.s1.life,iv s.s1.mana,iv s.s1.most,.sl 12 0 s.s1.deck.length false,.sl 13 0 s.s1.hand.length false,.sl 14 0 s.s1.grave.length false,.sl 15 0 s.s1.units.length false,.sl 16 0 s.s1.told.length false]
abbrev sg6(b:Bk)(s:St):List ABlk:=[.box (bkC b),.box (stC s),.box zStC,.box zEvC,.box zStC,.box zEvC,.rows 1 (s.attack.map cel),.rows 1 (s.s0.deck.map cel),.rows 1 (s.s0.hand.map cel),.rows 1 (s.s0.grave.map cel),.rows 4 (s.s0.units.map thC),.rows 1 (s.s0.told.map cel),.rows 1 (s.s1.deck.map cel),.rows 1 (s.s1.hand.map cel),.rows 1 (s.s1.grave.map cel),.rows 4 (s.s1.units.map thC),.rows 1 (s.s1.told.map cel)]
abbrev dd18:List ABlk:=[.dead,.dead,.dead,.dead,.dead,.dead,.dead,.dead,.dead,.dead,.dead,.dead,.dead,.dead,.dead,.dead,.dead,.dead]
def cap4(n:Int):Int:=min (max n 0) 4000000
def chgU(s:St)(kd k:Int)(i:Nat)(id:Int)(u:Th)(v:Int × Int):St × Ev × Int:=
 if wIn v.1 then (s.put k { s.side k with units:=(s.side k).units.set i { u with harm:=v.1 } },⟨kd,k,0,id,0,v.2,[]⟩,0) else (zSt,zEv,171)
def chgP(s:St)(kd k:Int)(v:Int × Int):St × Ev × Int:=
 if wIn v.1 then (s.put k { s.side k with life:=v.1 },⟨kd,k,0,0,0,v.2,[]⟩,0) else (zSt,zEv,171)
def chgF(kd:Int)(fP:Int→Int × Int)(fU:Th→Int × Int)(s:St)(id k:Int):St × Ev × Int:=
 if id=0 then chgP s kd k (fP (s.side k).life) else if id < 0 then (zSt,zEv,4) else match fnd s.s0.units id with
  | some i=>chgU s kd 0 i id ((s.s0.units[i]?).getD default) (fU ((s.s0.units[i]?).getD default))
  | none=>match fnd s.s1.units id with
   | some i=>chgU s kd 1 i id ((s.s1.units[i]?).getD default) (fU ((s.s1.units[i]?).getD default))
   | none=>(zSt,zEv,4)
def harmF(b:Bk)(s:St)(id k n:Int):St × Ev × Int:=
 chgF 5 (fun l=>(IntKind.i64.wrap (l - cap4 n),cap4 n)) (fun u=>(IntKind.i64.wrap (u.harm + hurt b u (cap4 n)),hurt b u (cap4 n))) s id k
def gT(kd:Int)(F:FuncId):GFun:=fun A xs σ ret=>match xs with
| [x0,x1,x2,x3,x4]=>
 A.wr (Zo [x0] σ) σ fun t5_0 σ=>
 A.wr (Zo [x1] σ) σ fun t6_1 σ=>
 A.wr (Yf zStC [] σ) σ fun t10_2 σ=>
 A.wr (Yf zEvC [] σ) σ fun t11_3 σ=>
 A.call (.call 64) [t5_0,t6_1,(.int .i8 kd),x2,x3,x4,(.func (.func F) [] [])] σ fun t16_4 σ=>
 A.rd (Qe 0 [t16_4] σ) fun t17_5=>
 A.rd (Qe 1 [t16_4] σ) fun t18_6=>
 A.rd (Qe 2 [t16_4] σ) fun t19_7=>
 A.wr (Zc 23 [t10_2,t17_5] σ) σ fun _ σ=>
 A.wr (Zc 7 [t11_3,t18_6] σ) σ fun _ σ=>
 A.opt (cellV true 23 t10_2 σ) fun r8=>
 A.opt (cellV true 7 t11_3 σ) fun r9=>
 ret (.tup [r8,r9,t19_7]) σ
| _=>A.stop
theorem Z0{b:Bk}{next:Int}:∀ {l:List Th} {ids:List Int},Qr b next ids l=true→∀ u∈l,Zv b next u=true
 | v :: l,ids,h,u,hu=>by
  simp only[Qr,Bool.and_eq_true] at h
  rcases List.mem_cons.1 hu with rfl | hu
  ·exact h.1
  ·exact Z0 h.2.2 u hu
theorem XaA{b:Bk}{next:Int}{u:Th}(h:Zv b next u=true):0≤u.card∧u.card.toNat < b.cards.length:=by
 simp only[Zv,Bool.and_eq_true,decide_eq_true_eq] at h
 omega
theorem Zb5{e:Int}{b:Bk}{s:St}{bare:Bool}(h:mayR e b s bare=true):∀ u∈s.s0.units,0≤u.card∧u.card.toNat < b.cards.length:=by
 have:=X6 h
 simp only[Xr,Bool.and_eq_true] at this
 exact fun u hu=>XaA (Z0 this.2.1 u hu)
theorem YbD{e:Int}{b:Bk}{s:St}{bare:Bool}(h:mayR e b s bare=true):∀ u∈s.s1.units,0≤u.card∧u.card.toNat < b.cards.length:=by
 have:=X6 h
 simp only[Xr,Bool.and_eq_true] at this
 exact fun u hu=>XaA (Z0 this.2.2.2 u hu)
theorem Xbq{l:List Th}{id:Int}{k:Nat}(h:fnd l id=some k):∃ u,l[k]?=some u∧u.id=id:=by
 obtain⟨hk,h2,_⟩:=List.findIdx?_eq_some_iff_getElem.1 h
 exact⟨l[k],by simp[hk],by simpa using h2⟩
theorem Q8{σ:List ABlk}{b k:Nat}{l:List Th}{u:Th}(hU:hget σ b=.rows 4 (l.map thC))(hk:l[k]?=some u)(now:Int):Zc 1 [.ptr b k 2,iv now] σ=.ok .junk [] [(b,.rows 4 ((l.set k { u with harm:=now }).map thC))]:=by
 have h1:nth (l.map thC) k=some (thC u):=by rw[Z1,List.getElem?_map,hk]; rfl
 have hl:k < (l.map thC).length:=by simpa using (List.getElem?_eq_some_iff.1 hk).1
 have h2:XD k [iv u.id,iv u.card,iv now,.bool u.tired] (l.map thC)=some ((l.set k { u with harm:=now }).map thC):=by
  rw[XaF hl,List.map_set]; rfl
 show (match hget σ b with
   | .rows sz rs=>match nth rs k with
    | some row=>match cellsOf (iv now) with
     | some cs=>bif Nat.beq cs.length 1 then (match splice 2 cs row with
      | some row'=>match XD k row' rs with
       | some rs'=>SRes.ok .junk [] [(b,.rows sz rs')]
       | none=>.stop
      | none=>.stop) else .stop
     | none=>.stop
    | none=>.stop
   | _=>.stop)=_
 rw[hU]
 simp only[h1]
 show (match XD k [iv u.id,iv u.card,iv now,.bool u.tired] (l.map thC) with
  | some rs'=>SRes.ok .junk [] [(b,.rows 4 rs')]
  | none=>.stop)=_
 rw[h2]
attribute [local irreducible] Ans.rd Ans.pu Ans.wr Ans.dr Ans.gr Ans.gw Ans.gl Ans.gd Ans.opt joinK W
set_option maxHeartbeats 4000000
theorem cTp_0{b:Bk}(hf:bkFit b=true)(hsm:Yt b.cards){s:St}(hs:StLe 2000000 s)(hm:mayR (bkR b).1 b s true=true){f F F2:FuncId}{kd:Int}(hg:GOk prog GL0 f 5 (gT kd F)){gF:GFun}(hgF:GOk prog GL0 F 1 gF)(hF:∀ x τ (K:AVal→List ABlk→Prop),K (.func (.func F2) [x] []) τ→gF (W prog GL0) [x] τ K)(h2p:Zk prog F2=true)(n:Int)(v:Int × Int)(hc:PCall prog GL0 F2 [.rptr (.rptr (bkC b) 0 :: stC s) 0,.nilp,iv s.s0.life,iv (cap4 n)] (.tup [iv v.1,iv v.2])):PCall prog GL0 f [bkV b,stV s,iv 0,iv 0,iv n] (resV (chgP s kd 0 v)):=by
 have hr:chgP s kd 0 v=(if wIn v.1 then (s.put 0 { s.s0 with life:=v.1 },⟨kd,0,0,0,0,v.2,[]⟩,0) else (zSt,zEv,171)):=rfl
 refine Xw hP hg rfl ?_
 unfold gT
 refine Ye (v:=.bptr 0 0) (rd:=[]) (up:=[(0,.box (bkC b))]) rfl rfl ?_
 refine Ye (v:=.bptr 1 0) (rd:=[]) (up:=[(1,.box (stC s))]) rfl rfl ?_
 refine Ye (v:=.bptr 2 0) (rd:=[]) (up:=[(2,.box zStC)]) rfl rfl ?_
 refine Ye (v:=.bptr 3 0) (rd:=[]) (up:=[(3,.box zEvC)]) rfl rfl ?_
 refine Zu hP rfl g64_ok rfl ?_
 unfold g64
 refine Ye (v:=.bptr 4 0) (rd:=[]) (up:=[(4,.box zStC)]) rfl rfl ?_
 refine Ye (v:=.bptr 5 0) (rd:=[]) (up:=[(5,.box zEvC)]) rfl rfl ?_
 refine c56n b hf hsm s (hs.mono (by decide)) (n0:=6) (n:=17) rfl rfl rfl rfl (fun h=>by rw[hm] at h; cases h) (fun _=>?_)
 refine Za rfl (Yh (Za (ZaN ..) (Za (ZW ..) (Za (Xaa ..) ?_))))
 refine Qi fun k11 hk11=>?_
 refine Yh ?_
 rw[hk11]
 refine Za rfl ?_
 refine XH (c:=false) (d:=false) (fun _=>rfl) (fun _=>rfl) ?_
 refine Yh (Za rfl (Za rfl (Za rfl (Za rfl ?_))))
 refine YF hP (ys:=[.bptr 17 0]) (zs:=[.bptr 17 0]) rfl hgF rfl [] [17] (v:=.func (.func F2) [.bptr 17 0] []) (m:=0) (σ:=((sg6 b s).append [.box (mv6 s)])) (τ:=dd18) (τ':=dd18) (by decide) (show ∀ b∈[17],b < 18 by decide) rfl rfl ?_ rfl (u:=.func (.func F2) [.bptr 17 0] []) (up:=[]) (σ':=((sg6 b s).append [.box (mv6 s)])) rfl rfl rfl ?_
 ·exact hF _ _ _ ⟨rfl,rfl⟩
 refine Xf rfl (Xf rfl (Qh (ld (row:=(mv6 s)) rfl rfl) (Xi _) ?_))
 refine Yaj (rd:=[0,6,7,8,9,10,11,12,13,14,15,16,17]) (hc) rfl h2p (.cons (Bor.box (row:=(mv6 s)) rfl (by decide) (.cons (Bor.box (row:=bkC b) rfl (by decide) (BorL.ro rfl)) ?_)) <| .cons (Bor.ro rfl) <| .cons (Bor.ro rfl) <| .cons (Bor.ro rfl) .nil) rfl ?_
 ·exact SB.mk (s:=s) (RI.own rfl (by decide) rfl) (RI.own rfl (by decide) rfl) (RI.own rfl (by decide) rfl) (RI.own rfl (by decide) rfl) (RT.own rfl (by decide) rfl) (RI.own rfl (by decide) rfl) (RI.own rfl (by decide) rfl) (RI.own rfl (by decide) rfl) (RI.own rfl (by decide) rfl) (RT.own rfl (by decide) rfl) (RI.own rfl (by decide) rfl)
 refine Xf rfl (Xf rfl (Yy (by kernel_rfl) ?_))
 refine Zd (c57 _) rfl g57_ok.plain rfl (Za rfl (Xc (fun h2=>?_) (fun h2=>?_)))
 ·have h3:wIn v.1=false:=by simpa using h2
  replace hr:=hr.trans (if_neg (by rw[h3]; decide))
  refine Za rfl (Za rfl (Ye rfl rfl (Ye rfl rfl (Yj rfl (Yj rfl ?_)))))
  refine Za rfl (Za rfl (Za rfl (Ye rfl rfl (Ye rfl rfl (Yj rfl (Yj rfl ?_))))))
  rw[hr]
  exact⟨[],resZ 171⟩
 have h3:wIn v.1=true:=by simpa using h2
 replace hr:=hr.trans (if_pos h3)
 refine Za rfl ?_
 refine Qi fun k63 hk63=>?_
 refine Yh (Za rfl (Za rfl (Ye (v:=.junk) (rd:=[]) (up:=[(17,.box ((mv6 s).set 8 (iv v.1)))]) rfl rfl ?_)))
 rw[hk63]
 refine Za rfl (Za rfl (Za (ld (row:=((mv6 s).set 8 (iv v.1))) rfl rfl) (Za rfl ?_)))
 refine Ye (v:=.junk) (rd:=[]) (up:=[(4,.box ((st6 s).set 7 (iv v.1)))]) rfl rfl ?_
 refine Ye (v:=.junk) (rd:=[]) (up:=[(5,.box [iv8 kd,iv 0,iv 0,iv 0,iv 0,iv v.2,.nils])]) rfl rfl (Yj rfl (Yj rfl ?_))
 refine Za rfl (Za rfl (Za rfl ?_))
 refine Ye (v:=.junk) (rd:=[]) (up:=[(2,.box ((st6 s).set 7 (iv v.1)))]) rfl rfl ?_
 refine Ye (v:=.junk) (rd:=[]) (up:=[(3,.box [iv8 kd,iv 0,iv 0,iv 0,iv 0,iv v.2,.nils])]) rfl rfl (Yj rfl (Yj rfl ?_))
 rw[hr]
 refine⟨List.range 18,?_⟩
 refine resB (cs:=((st6 s).set 7 (iv v.1))) (r:=({ s with s0:={ s.s0 with life:=v.1 } },⟨kd,0,0,0,0,v.2,[]⟩,0)) ?_ (evB (e:=⟨kd,0,0,0,0,v.2,[]⟩) RI.nils)
 refine SB.mk (rd:=List.range 18) (s:={ s with s0:={ s.s0 with life:=v.1 } }) ?_ ?_ ?_ ?_ ?_ ?_ ?_ ?_ ?_ ?_ ?_ <;> first | exact RI.own rfl (by decide) rfl | exact RT.own rfl (by decide) rfl
theorem cTp_1{b:Bk}(hf:bkFit b=true)(hsm:Yt b.cards){s:St}(hs:StLe 2000000 s)(hm:mayR (bkR b).1 b s true=true){f F F2:FuncId}{kd:Int}(hg:GOk prog GL0 f 5 (gT kd F)){gF:GFun}(hgF:GOk prog GL0 F 1 gF)(hF:∀ x τ (K:AVal→List ABlk→Prop),K (.func (.func F2) [x] []) τ→gF (W prog GL0) [x] τ K)(h2p:Zk prog F2=true)(n:Int)(v:Int × Int)(hc:PCall prog GL0 F2 [.rptr (.rptr (bkC b) 0 :: stC s) 0,.nilp,iv s.s1.life,iv (cap4 n)] (.tup [iv v.1,iv v.2])):PCall prog GL0 f [bkV b,stV s,iv 0,iv 1,iv n] (resV (chgP s kd 1 v)):=by
 have hr:chgP s kd 1 v=(if wIn v.1 then (s.put 1 { s.s1 with life:=v.1 },⟨kd,1,0,0,0,v.2,[]⟩,0) else (zSt,zEv,171)):=rfl
 refine Xw hP hg rfl ?_
 unfold gT
 refine Ye (v:=.bptr 0 0) (rd:=[]) (up:=[(0,.box (bkC b))]) rfl rfl ?_
 refine Ye (v:=.bptr 1 0) (rd:=[]) (up:=[(1,.box (stC s))]) rfl rfl ?_
 refine Ye (v:=.bptr 2 0) (rd:=[]) (up:=[(2,.box zStC)]) rfl rfl ?_
 refine Ye (v:=.bptr 3 0) (rd:=[]) (up:=[(3,.box zEvC)]) rfl rfl ?_
 refine Zu hP rfl g64_ok rfl ?_
 unfold g64
 refine Ye (v:=.bptr 4 0) (rd:=[]) (up:=[(4,.box zStC)]) rfl rfl ?_
 refine Ye (v:=.bptr 5 0) (rd:=[]) (up:=[(5,.box zEvC)]) rfl rfl ?_
 refine c56n b hf hsm s (hs.mono (by decide)) (n0:=6) (n:=17) rfl rfl rfl rfl (fun h=>by rw[hm] at h; cases h) (fun _=>?_)
 refine Za rfl (Yh (Za (ZaN ..) (Za (ZW ..) (Za (Xaa ..) ?_))))
 refine Qi fun k11 hk11=>?_
 refine Yh ?_
 rw[hk11]
 refine Za rfl ?_
 refine XH (c:=false) (d:=false) (fun _=>rfl) (fun _=>rfl) ?_
 refine Yh (Za rfl (Za rfl (Za rfl (Za rfl ?_))))
 refine YF hP (ys:=[.bptr 17 0]) (zs:=[.bptr 17 0]) rfl hgF rfl [] [17] (v:=.func (.func F2) [.bptr 17 0] []) (m:=0) (σ:=((sg6 b s).append [.box (mv6 s)])) (τ:=dd18) (τ':=dd18) (by decide) (show ∀ b∈[17],b < 18 by decide) rfl rfl ?_ rfl (u:=.func (.func F2) [.bptr 17 0] []) (up:=[]) (σ':=((sg6 b s).append [.box (mv6 s)])) rfl rfl rfl ?_
 ·exact hF _ _ _ ⟨rfl,rfl⟩
 refine Xf rfl (Xf rfl (Qh (ld (row:=(mv6 s)) rfl rfl) (Xi _) ?_))
 refine Yaj (rd:=[0,6,7,8,9,10,11,12,13,14,15,16,17]) (hc) rfl h2p (.cons (Bor.box (row:=(mv6 s)) rfl (by decide) (.cons (Bor.box (row:=bkC b) rfl (by decide) (BorL.ro rfl)) ?_)) <| .cons (Bor.ro rfl) <| .cons (Bor.ro rfl) <| .cons (Bor.ro rfl) .nil) rfl ?_
 ·exact SB.mk (s:=s) (RI.own rfl (by decide) rfl) (RI.own rfl (by decide) rfl) (RI.own rfl (by decide) rfl) (RI.own rfl (by decide) rfl) (RT.own rfl (by decide) rfl) (RI.own rfl (by decide) rfl) (RI.own rfl (by decide) rfl) (RI.own rfl (by decide) rfl) (RI.own rfl (by decide) rfl) (RT.own rfl (by decide) rfl) (RI.own rfl (by decide) rfl)
 refine Xf rfl (Xf rfl (Yy (by kernel_rfl) ?_))
 refine Zd (c57 _) rfl g57_ok.plain rfl (Za rfl (Xc (fun h2=>?_) (fun h2=>?_)))
 ·have h3:wIn v.1=false:=by simpa using h2
  replace hr:=hr.trans (if_neg (by rw[h3]; decide))
  refine Za rfl (Za rfl (Ye rfl rfl (Ye rfl rfl (Yj rfl (Yj rfl ?_)))))
  refine Za rfl (Za rfl (Za rfl (Ye rfl rfl (Ye rfl rfl (Yj rfl (Yj rfl ?_))))))
  rw[hr]
  exact⟨[],resZ 171⟩
 have h3:wIn v.1=true:=by simpa using h2
 replace hr:=hr.trans (if_pos h3)
 refine Za rfl ?_
 refine Qi fun k63 hk63=>?_
 refine Yh (Za rfl (Za rfl (Ye (v:=.junk) (rd:=[]) (up:=[(17,.box ((mv6 s).set 16 (iv v.1)))]) rfl rfl ?_)))
 rw[hk63]
 refine Za rfl (Za rfl (Za (ld (row:=((mv6 s).set 16 (iv v.1))) rfl rfl) (Za rfl ?_)))
 refine Ye (v:=.junk) (rd:=[]) (up:=[(4,.box ((st6 s).set 15 (iv v.1)))]) rfl rfl ?_
 refine Ye (v:=.junk) (rd:=[]) (up:=[(5,.box [iv8 kd,iv 1,iv 0,iv 0,iv 0,iv v.2,.nils])]) rfl rfl (Yj rfl (Yj rfl ?_))
 refine Za rfl (Za rfl (Za rfl ?_))
 refine Ye (v:=.junk) (rd:=[]) (up:=[(2,.box ((st6 s).set 15 (iv v.1)))]) rfl rfl ?_
 refine Ye (v:=.junk) (rd:=[]) (up:=[(3,.box [iv8 kd,iv 1,iv 0,iv 0,iv 0,iv v.2,.nils])]) rfl rfl (Yj rfl (Yj rfl ?_))
 rw[hr]
 refine⟨List.range 18,?_⟩
 refine resB (cs:=((st6 s).set 15 (iv v.1))) (r:=({ s with s1:={ s.s1 with life:=v.1 } },⟨kd,1,0,0,0,v.2,[]⟩,0)) ?_ (evB (e:=⟨kd,1,0,0,0,v.2,[]⟩) RI.nils)
 refine SB.mk (rd:=List.range 18) (s:={ s with s1:={ s.s1 with life:=v.1 } }) ?_ ?_ ?_ ?_ ?_ ?_ ?_ ?_ ?_ ?_ ?_ <;> first | exact RI.own rfl (by decide) rfl | exact RT.own rfl (by decide) rfl
theorem cTu_0{b:Bk}(hf:bkFit b=true)(hsm:Yt b.cards){s:St}(hs:StLe 2000000 s)(hm:mayR (bkR b).1 b s true=true){f F F2:FuncId}{kd:Int}(hg:GOk prog GL0 f 5 (gT kd F)){gF:GFun}(hgF:GOk prog GL0 F 1 gF)(hF:∀ x τ (K:AVal→List ABlk→Prop),K (.func (.func F2) [x] []) τ→gF (W prog GL0) [x] τ K)(h2p:Zk prog F2=true)(id sd n:Int)(hid:id≠0)(hid2:¬ id < 0)(k:Nat)(hfn:unitV s id=.tup [iv 0,iv k,.bool true])(u:Th)(hk:s.s0.units[k]?=some u)(v:Int × Int)(hc:PCall prog GL0 F2 [.rptr (.rptr (bkC b) 0 :: stC s) 0,.rptr (thC u) 0,iv s.s0.life,iv (cap4 n)] (.tup [iv v.1,iv v.2])):PCall prog GL0 f [bkV b,stV s,iv id,iv sd,iv n] (resV (chgU s kd 0 k id u v)):=by
 have h71:=c71 s (hs.mono (by decide)) id
 rw[hfn] at h71
 have hkl:k < s.s0.units.length:=(List.getElem?_eq_some_iff.1 hk).1
 have hr:chgU s kd 0 k id u v=(if wIn v.1 then (s.put 0 { s.s0 with units:=s.s0.units.set k { u with harm:=v.1 } },⟨kd,0,0,id,0,v.2,[]⟩,0) else (zSt,zEv,171)):=rfl
 refine Xw hP hg rfl ?_
 unfold gT
 refine Ye (v:=.bptr 0 0) (rd:=[]) (up:=[(0,.box (bkC b))]) rfl rfl ?_
 refine Ye (v:=.bptr 1 0) (rd:=[]) (up:=[(1,.box (stC s))]) rfl rfl ?_
 refine Ye (v:=.bptr 2 0) (rd:=[]) (up:=[(2,.box zStC)]) rfl rfl ?_
 refine Ye (v:=.bptr 3 0) (rd:=[]) (up:=[(3,.box zEvC)]) rfl rfl ?_
 refine Zu hP rfl g64_ok rfl ?_
 unfold g64
 refine Ye (v:=.bptr 4 0) (rd:=[]) (up:=[(4,.box zStC)]) rfl rfl ?_
 refine Ye (v:=.bptr 5 0) (rd:=[]) (up:=[(5,.box zEvC)]) rfl rfl ?_
 refine c56n b hf hsm s (hs.mono (by decide)) (n0:=6) (n:=17) rfl rfl rfl rfl (fun h=>by rw[hm] at h; cases h) (fun _=>?_)
 refine Za rfl (Yh (Za (ZaN ..) (Za (ZW ..) (Za (Xaa ..) ?_))))
 refine Qi fun k11 hk11=>?_
 rw[decide_eq_true hid]
 refine Xe (Za rfl (Za (ld (row:=stC s) rfl rfl) ?_))
 refine Zd h71 rfl g71_ok.plain rfl (Za rfl (Za rfl (Za rfl (Za rfl ?_))))
 refine XH (c:=false) (fun _=>rfl) (fun _=>QG ..) ?_
 rw[decide_eq_false hid2]
 refine Yh (Za rfl (Za rfl (Za rfl (Za rfl (Za rfl (Za (ld (row:=(mv6 s)) rfl rfl) ?_))))))
 refine Za (v:=.ptr 10 k 0) (rd:=[10]) ?_ ?_
 ·have:=Xa3 (((sg6 b s).append [.box (mv6 s)])) 10 0 s.s0.units.length false 4 (s.s0.units.map thC) .i64 k hkl rfl
  rw[Nat.zero_add] at this; exact this
 rw[hk11]
 refine Za rfl ?_
 refine XH (c:=false) (d:=false) (fun _=>rfl) (fun _=>rfl) ?_
 refine Yh (Za rfl (Za rfl (Za rfl (Za rfl ?_))))
 refine YF hP (ys:=[.bptr 17 0]) (zs:=[.bptr 17 0]) rfl hgF rfl [] [17] (v:=.func (.func F2) [.bptr 17 0] []) (m:=0) (σ:=((sg6 b s).append [.box (mv6 s)])) (τ:=dd18) (τ':=dd18) (by decide) (show ∀ b∈[17],b < 18 by decide) rfl rfl ?_ rfl (u:=.func (.func F2) [.bptr 17 0] []) (up:=[]) (σ':=((sg6 b s).append [.box (mv6 s)])) rfl rfl rfl ?_
 ·exact hF _ _ _ ⟨rfl,rfl⟩
 refine Xf rfl (Xf rfl (Qh (ld (row:=(mv6 s)) rfl rfl) (Xi _) ?_))
 refine Yaj (rd:=[0,6,7,8,9,10,11,12,13,14,15,16,17]) (hc) rfl h2p (.cons (Bor.box (row:=(mv6 s)) rfl (by decide) (.cons (Bor.box (row:=bkC b) rfl (by decide) (BorL.ro rfl)) ?_)) <| .cons (Bor.ptr (rs:=s.s0.units.map thC) (row:=thC u) rfl (by decide) (by rw[List.getElem?_map,hk]; rfl) (BorL.ro rfl)) <| .cons (Bor.ro rfl) <| .cons (Bor.ro rfl) .nil) rfl ?_
 ·exact SB.mk (s:=s) (RI.own rfl (by decide) rfl) (RI.own rfl (by decide) rfl) (RI.own rfl (by decide) rfl) (RI.own rfl (by decide) rfl) (RT.own rfl (by decide) rfl) (RI.own rfl (by decide) rfl) (RI.own rfl (by decide) rfl) (RI.own rfl (by decide) rfl) (RI.own rfl (by decide) rfl) (RT.own rfl (by decide) rfl) (RI.own rfl (by decide) rfl)
 refine Xf rfl (Xf rfl (Yy (by kernel_rfl) ?_))
 refine Zd (c57 _) rfl g57_ok.plain rfl (Za rfl (Xc (fun h2=>?_) (fun h2=>?_)))
 ·have h3:wIn v.1=false:=by simpa using h2
  replace hr:=hr.trans (if_neg (by rw[h3]; decide))
  refine Za rfl (Za rfl (Ye rfl rfl (Ye rfl rfl (Yj rfl (Yj rfl ?_)))))
  refine Za rfl (Za rfl (Za rfl (Ye rfl rfl (Ye rfl rfl (Yj rfl (Yj rfl ?_))))))
  rw[hr]
  exact⟨[],resZ 171⟩
 have h3:wIn v.1=true:=by simpa using h2
 replace hr:=hr.trans (if_pos h3)
 refine Za rfl ?_
 refine Qi fun k63 hk63=>?_
 refine Xe (Za rfl (Za rfl (Ye (v:=.junk) (rd:=[]) (up:=[(10,.rows 4 ((s.s0.units.set k { u with harm:=v.1 }).map thC))]) (Q8 rfl hk _) rfl ?_)))
 rw[hk63]
 refine Za rfl (Za rfl (Za (ld (row:=(mv6 s)) rfl rfl) (Za rfl ?_)))
 refine Ye (v:=.junk) (rd:=[]) (up:=[(4,.box (st6 s))]) rfl rfl ?_
 refine Ye (v:=.junk) (rd:=[]) (up:=[(5,.box [iv8 kd,iv 0,iv 0,iv id,iv 0,iv v.2,.nils])]) rfl rfl (Yj rfl (Yj rfl ?_))
 refine Za rfl (Za rfl (Za rfl ?_))
 refine Ye (v:=.junk) (rd:=[]) (up:=[(2,.box (st6 s))]) rfl rfl ?_
 refine Ye (v:=.junk) (rd:=[]) (up:=[(3,.box [iv8 kd,iv 0,iv 0,iv id,iv 0,iv v.2,.nils])]) rfl rfl (Yj rfl (Yj rfl ?_))
 rw[hr]
 refine⟨List.range 18,?_⟩
 refine resB (cs:=(st6 s)) (r:=({ s with s0:={ s.s0 with units:=s.s0.units.set k { u with harm:=v.1 } } },⟨kd,0,0,id,0,v.2,[]⟩,0)) ?_ (evB (e:=⟨kd,0,0,id,0,v.2,[]⟩) RI.nils)
 refine SB.mk (rd:=List.range 18) (s:={ s with s0:={ s.s0 with units:=s.s0.units.set k { u with harm:=v.1 } } }) ?_ ?_ ?_ ?_ ?_ ?_ ?_ ?_ ?_ ?_ ?_ <;> first | exact RI.own rfl (by decide) rfl | exact RT.own rfl (by decide) rfl | exact RT.own (l:=s.s0.units.set k { u with harm:=v.1 }) rfl (by decide) (by simp)
theorem cTu_1{b:Bk}(hf:bkFit b=true)(hsm:Yt b.cards){s:St}(hs:StLe 2000000 s)(hm:mayR (bkR b).1 b s true=true){f F F2:FuncId}{kd:Int}(hg:GOk prog GL0 f 5 (gT kd F)){gF:GFun}(hgF:GOk prog GL0 F 1 gF)(hF:∀ x τ (K:AVal→List ABlk→Prop),K (.func (.func F2) [x] []) τ→gF (W prog GL0) [x] τ K)(h2p:Zk prog F2=true)(id sd n:Int)(hid:id≠0)(hid2:¬ id < 0)(k:Nat)(hfn:unitV s id=.tup [iv 1,iv k,.bool true])(u:Th)(hk:s.s1.units[k]?=some u)(v:Int × Int)(hc:PCall prog GL0 F2 [.rptr (.rptr (bkC b) 0 :: stC s) 0,.rptr (thC u) 0,iv s.s1.life,iv (cap4 n)] (.tup [iv v.1,iv v.2])):PCall prog GL0 f [bkV b,stV s,iv id,iv sd,iv n] (resV (chgU s kd 1 k id u v)):=by
 have h71:=c71 s (hs.mono (by decide)) id
 rw[hfn] at h71
 have hkl:k < s.s1.units.length:=(List.getElem?_eq_some_iff.1 hk).1
 have hr:chgU s kd 1 k id u v=(if wIn v.1 then (s.put 1 { s.s1 with units:=s.s1.units.set k { u with harm:=v.1 } },⟨kd,1,0,id,0,v.2,[]⟩,0) else (zSt,zEv,171)):=rfl
 refine Xw hP hg rfl ?_
 unfold gT
 refine Ye (v:=.bptr 0 0) (rd:=[]) (up:=[(0,.box (bkC b))]) rfl rfl ?_
 refine Ye (v:=.bptr 1 0) (rd:=[]) (up:=[(1,.box (stC s))]) rfl rfl ?_
 refine Ye (v:=.bptr 2 0) (rd:=[]) (up:=[(2,.box zStC)]) rfl rfl ?_
 refine Ye (v:=.bptr 3 0) (rd:=[]) (up:=[(3,.box zEvC)]) rfl rfl ?_
 refine Zu hP rfl g64_ok rfl ?_
 unfold g64
 refine Ye (v:=.bptr 4 0) (rd:=[]) (up:=[(4,.box zStC)]) rfl rfl ?_
 refine Ye (v:=.bptr 5 0) (rd:=[]) (up:=[(5,.box zEvC)]) rfl rfl ?_
 refine c56n b hf hsm s (hs.mono (by decide)) (n0:=6) (n:=17) rfl rfl rfl rfl (fun h=>by rw[hm] at h; cases h) (fun _=>?_)
 refine Za rfl (Yh (Za (ZaN ..) (Za (ZW ..) (Za (Xaa ..) ?_))))
 refine Qi fun k11 hk11=>?_
 rw[decide_eq_true hid]
 refine Xe (Za rfl (Za (ld (row:=stC s) rfl rfl) ?_))
 refine Zd h71 rfl g71_ok.plain rfl (Za rfl (Za rfl (Za rfl (Za rfl ?_))))
 refine XH (c:=false) (fun _=>rfl) (fun _=>QG ..) ?_
 rw[decide_eq_false hid2]
 refine Yh (Za rfl (Za rfl (Za rfl (Za rfl (Za rfl (Za (ld (row:=(mv6 s)) rfl rfl) ?_))))))
 refine Za (v:=.ptr 15 k 0) (rd:=[15]) ?_ ?_
 ·have:=Xa3 (((sg6 b s).append [.box (mv6 s)])) 15 0 s.s1.units.length false 4 (s.s1.units.map thC) .i64 k hkl rfl
  rw[Nat.zero_add] at this; exact this
 rw[hk11]
 refine Za rfl ?_
 refine XH (c:=false) (d:=false) (fun _=>rfl) (fun _=>rfl) ?_
 refine Yh (Za rfl (Za rfl (Za rfl (Za rfl ?_))))
 refine YF hP (ys:=[.bptr 17 0]) (zs:=[.bptr 17 0]) rfl hgF rfl [] [17] (v:=.func (.func F2) [.bptr 17 0] []) (m:=0) (σ:=((sg6 b s).append [.box (mv6 s)])) (τ:=dd18) (τ':=dd18) (by decide) (show ∀ b∈[17],b < 18 by decide) rfl rfl ?_ rfl (u:=.func (.func F2) [.bptr 17 0] []) (up:=[]) (σ':=((sg6 b s).append [.box (mv6 s)])) rfl rfl rfl ?_
 ·exact hF _ _ _ ⟨rfl,rfl⟩
 refine Xf rfl (Xf rfl (Qh (ld (row:=(mv6 s)) rfl rfl) (Xi _) ?_))
 refine Yaj (rd:=[0,6,7,8,9,10,11,12,13,14,15,16,17]) (hc) rfl h2p (.cons (Bor.box (row:=(mv6 s)) rfl (by decide) (.cons (Bor.box (row:=bkC b) rfl (by decide) (BorL.ro rfl)) ?_)) <| .cons (Bor.ptr (rs:=s.s1.units.map thC) (row:=thC u) rfl (by decide) (by rw[List.getElem?_map,hk]; rfl) (BorL.ro rfl)) <| .cons (Bor.ro rfl) <| .cons (Bor.ro rfl) .nil) rfl ?_
 ·exact SB.mk (s:=s) (RI.own rfl (by decide) rfl) (RI.own rfl (by decide) rfl) (RI.own rfl (by decide) rfl) (RI.own rfl (by decide) rfl) (RT.own rfl (by decide) rfl) (RI.own rfl (by decide) rfl) (RI.own rfl (by decide) rfl) (RI.own rfl (by decide) rfl) (RI.own rfl (by decide) rfl) (RT.own rfl (by decide) rfl) (RI.own rfl (by decide) rfl)
 refine Xf rfl (Xf rfl (Yy (by kernel_rfl) ?_))
 refine Zd (c57 _) rfl g57_ok.plain rfl (Za rfl (Xc (fun h2=>?_) (fun h2=>?_)))
 ·have h3:wIn v.1=false:=by simpa using h2
  replace hr:=hr.trans (if_neg (by rw[h3]; decide))
  refine Za rfl (Za rfl (Ye rfl rfl (Ye rfl rfl (Yj rfl (Yj rfl ?_)))))
  refine Za rfl (Za rfl (Za rfl (Ye rfl rfl (Ye rfl rfl (Yj rfl (Yj rfl ?_))))))
  rw[hr]
  exact⟨[],resZ 171⟩
 have h3:wIn v.1=true:=by simpa using h2
 replace hr:=hr.trans (if_pos h3)
 refine Za rfl ?_
 refine Qi fun k63 hk63=>?_
 refine Xe (Za rfl (Za rfl (Ye (v:=.junk) (rd:=[]) (up:=[(15,.rows 4 ((s.s1.units.set k { u with harm:=v.1 }).map thC))]) (Q8 rfl hk _) rfl ?_)))
 rw[hk63]
 refine Za rfl (Za rfl (Za (ld (row:=(mv6 s)) rfl rfl) (Za rfl ?_)))
 refine Ye (v:=.junk) (rd:=[]) (up:=[(4,.box (st6 s))]) rfl rfl ?_
 refine Ye (v:=.junk) (rd:=[]) (up:=[(5,.box [iv8 kd,iv 1,iv 0,iv id,iv 0,iv v.2,.nils])]) rfl rfl (Yj rfl (Yj rfl ?_))
 refine Za rfl (Za rfl (Za rfl ?_))
 refine Ye (v:=.junk) (rd:=[]) (up:=[(2,.box (st6 s))]) rfl rfl ?_
 refine Ye (v:=.junk) (rd:=[]) (up:=[(3,.box [iv8 kd,iv 1,iv 0,iv id,iv 0,iv v.2,.nils])]) rfl rfl (Yj rfl (Yj rfl ?_))
 rw[hr]
 refine⟨List.range 18,?_⟩
 refine resB (cs:=(st6 s)) (r:=({ s with s1:={ s.s1 with units:=s.s1.units.set k { u with harm:=v.1 } } },⟨kd,1,0,id,0,v.2,[]⟩,0)) ?_ (evB (e:=⟨kd,1,0,id,0,v.2,[]⟩) RI.nils)
 refine SB.mk (rd:=List.range 18) (s:={ s with s1:={ s.s1 with units:=s.s1.units.set k { u with harm:=v.1 } } }) ?_ ?_ ?_ ?_ ?_ ?_ ?_ ?_ ?_ ?_ ?_ <;> first | exact RI.own rfl (by decide) rfl | exact RT.own rfl (by decide) rfl | exact RT.own (l:=s.s1.units.set k { u with harm:=v.1 }) rfl (by decide) (by simp)
theorem cTn{b:Bk}(hf:bkFit b=true)(hsm:Yt b.cards){s:St}(hs:StLe 2000000 s)(hm:mayR (bkR b).1 b s true=true){f F F2:FuncId}{kd:Int}(hg:GOk prog GL0 f 5 (gT kd F)){gF:GFun}(hgF:GOk prog GL0 F 1 gF)(hF:∀ x τ (K:AVal→List ABlk→Prop),K (.func (.func F2) [x] []) τ→gF (W prog GL0) [x] τ K)(h2p:Zk prog F2=true)(id sd n:Int)(hid:id≠0)(v:AVal)(w:AVal)(x:Bool)(hfn:unitV s id=.tup [v,w,.bool x])(hx:id < 0∨x=false):PCall prog GL0 f [bkV b,stV s,iv id,iv sd,iv n] (resV (zSt,zEv,4)):=by
 have h71:=c71 s (hs.mono (by decide)) id
 rw[hfn] at h71
 have hfl:roL [.tup [v,w,.bool x]]=true:=by rw[← hfn]; rfl
 refine Xw hP hg rfl ?_
 unfold gT
 refine Ye (v:=.bptr 0 0) (rd:=[]) (up:=[(0,.box (bkC b))]) rfl rfl ?_
 refine Ye (v:=.bptr 1 0) (rd:=[]) (up:=[(1,.box (stC s))]) rfl rfl ?_
 refine Ye (v:=.bptr 2 0) (rd:=[]) (up:=[(2,.box zStC)]) rfl rfl ?_
 refine Ye (v:=.bptr 3 0) (rd:=[]) (up:=[(3,.box zEvC)]) rfl rfl ?_
 refine Zu hP rfl g64_ok rfl ?_
 unfold g64
 refine Ye (v:=.bptr 4 0) (rd:=[]) (up:=[(4,.box zStC)]) rfl rfl ?_
 refine Ye (v:=.bptr 5 0) (rd:=[]) (up:=[(5,.box zEvC)]) rfl rfl ?_
 refine c56n b hf hsm s (hs.mono (by decide)) (n0:=6) (n:=17) rfl rfl rfl rfl (fun h=>by rw[hm] at h; cases h) (fun _=>?_)
 refine Za rfl (Yh (Za (ZaN ..) (Za (ZW ..) (Za (Xaa ..) ?_))))
 refine Qi fun k11 hk11=>?_
 rw[decide_eq_true hid]
 refine Xe (Za rfl (Za (ld (row:=stC s) rfl rfl) ?_))
 refine Zd h71 rfl g71_ok.plain rfl (Za rfl (Za rfl (Za rfl (Za rfl ?_))))
 refine XH (c:=!x) (fun _=>rfl) (fun _=>QG ..) ?_
 rw[show (!x || decide (id < 0))=true by rcases hx with h | h <;> simp[h]]
 refine Xe ?_
 refine Za rfl (Za rfl (Ye rfl rfl (Ye rfl rfl (Yj rfl (Yj rfl ?_)))))
 refine Za rfl (Za rfl (Za rfl (Ye rfl rfl (Ye rfl rfl (Yj rfl (Yj rfl ?_))))))
 exact⟨[],resZ 4⟩
theorem cT{b:Bk}(hf:bkFit b=true)(hsm:Yt b.cards){s:St}(hs:StLe 2000000 s)(hm:mayR (bkR b).1 b s true=true){f F F2:FuncId}{kd:Int}(hg:GOk prog GL0 f 5 (gT kd F)){gF:GFun}(hgF:GOk prog GL0 F 1 gF)(hF:∀ x τ (K:AVal→List ABlk→Prop),K (.func (.func F2) [x] []) τ→gF (W prog GL0) [x] τ K)(h2p:Zk prog F2=true)(id sd n:Int)(h0:sd=0∨sd=1){fP:Int→Int × Int}{fU:Th→Int × Int}(hcP:∀ m life,PCall prog GL0 F2 [.rptr m 0,.nilp,iv life,iv (cap4 n)] (.tup [iv (fP life).1,iv (fP life).2]))(hcU:∀ m u life,0≤u.card→u.card.toNat < b.cards.length→PCall prog GL0 F2 [.rptr (.rptr (bkC b) 0 :: m) 0,.rptr (thC u) 0,iv life,iv (cap4 n)] (.tup [iv (fU u).1,iv (fU u).2])) :
  PCall prog GL0 f [bkV b,stV s,iv id,iv sd,iv n] (resV (chgF kd fP fU s id sd)):=by
 unfold chgF
 by_cases hid:id=0
 ·rw[if_pos hid]; subst hid
  rcases h0 with rfl | rfl
  ·exact cTp_0 hf hsm hs hm hg hgF hF h2p n _ (hcP _ _)
  ·exact cTp_1 hf hsm hs hm hg hgF hF h2p n _ (hcP _ _)
 rw[if_neg hid]
 by_cases hid2:id < 0
 ·rw[if_pos hid2]
  exact cTn hf hsm hs hm hg hgF hF h2p id sd n hid _ _ _ rfl (.inl hid2)
 rw[if_neg hid2]
 cases q0:fnd s.s0.units id with
 | some k=>
  obtain⟨u,hk,_⟩:=Xbq q0
  have hca:=Zb5 hm u (List.mem_of_getElem? hk)
  simp only[hk,Option.getD_some]
  exact cTu_0 hf hsm hs hm hg hgF hF h2p id sd n hid hid2 k (by simp[unitV,unitR,q0]) u hk _ (hcU _ _ _ hca.1 hca.2)
 | none=>
  cases q1:fnd s.s1.units id with
  | some k=>
   obtain⟨u,hk,_⟩:=Xbq q1
   have hca:=YbD hm u (List.mem_of_getElem? hk)
   simp only[hk,Option.getD_some]
   exact cTu_1 hf hsm hs hm hg hgF hF h2p id sd n hid hid2 k (by simp[unitV,unitR,q0,q1]) u hk _ (hcU _ _ _ hca.1 hca.2)
  | none=>exact cTn hf hsm hs hm hg hgF hF h2p id sd n hid _ _ _ rfl (.inr (by simp[unitR,q0,q1]))
theorem w65(x:AVal)(τ:List ABlk)(K:AVal→List ABlk→Prop)(h:K (.func (.func 66) [x] []) τ):g65 (W prog GL0) [x] τ K:=by
 unfold g65
 exact Za rfl h
theorem c22(b:Bk)(hf:bkFit b=true)(hsm:Yt b.cards)(s:St)(hs:StLe 2000000 s)(hm:mayR (bkR b).1 b s true=true)(id sd n:Int)(h0:sd=0∨sd=1):PCall prog GL0 22 [bkV b,stV s,iv id,iv sd,iv n] (resV (harmF b s id sd n)):=
 cT hf hsm hs hm (show GOk prog GL0 22 5 (gT 5 65) from g22_ok) g65_ok w65 g66_ok.plain id sd n h0 (fun m life=>c66n m life _) (fun m u life h1 h2=>c66u b m u life _ h1 h2)
end Go.Ah.Tz
end
section
namespace Go.Ah.Tz
open Go.Proofs.Tryz (prog)
attribute [local irreducible] Ans.rd Ans.pu Ans.wr Ans.dr Ans.gr Ans.gw Ans.gl Ans.gd Ans.opt joinK W
set_option maxHeartbeats 4000000
theorem c15(s:St):∃ q:Bool,PCall prog GL0 15 [stV s] (.bool q):=by
 apply Exists.intro
 refine Zf hP g15_ok rfl rfl ?_
 unfold g15
 refine Ye rfl rfl (Za rfl (Za rfl (Za (v:=iv s.attack.length) (rd:=[]) (by simp[Zi]) ?_)))
 have w1:IntKind.i64.wrap (0 + 1)=1:=by decide
 have w2:IntKind.i64.wrap (1 + 1)=2:=by decide
 refine QA 3 (Qj ?_)
 refine Za rfl (Xe ?_)
 refine Za rfl (Za rfl (Za rfl (Ye rfl rfl (Ye rfl rfl ?_))))
 refine Za rfl (Za rfl (Za (v:=iv s.s0.deck.length) (rd:=[]) (by simp[Zi]) ?_))
 refine Za rfl (Za rfl (Za (v:=iv s.s0.hand.length) (rd:=[]) (by simp[Zi]) (Za (Yn ..) ?_)))
 refine Za rfl (Za rfl (Za (v:=iv s.s0.grave.length) (rd:=[]) (by simp[Zi]) (Za (Yn ..) ?_)))
 refine Za rfl (Za rfl (Za (v:=iv s.s0.units.length) (rd:=[]) (by simp[Zi]) (Za (Yn ..) ?_)))
 refine Za rfl (Za rfl (Za (v:=iv s.s0.told.length) (rd:=[]) (by simp[Zi]) (Za (Yn ..) ?_)))
 refine Za (Yn ..) (Za rfl ?_)
 rw[w1]
 refine Qj ?_
 refine Za rfl (Xe ?_)
 refine Za rfl (Za rfl (Za rfl (Ye rfl rfl (Ye rfl rfl ?_))))
 refine Za rfl (Za rfl (Za (v:=iv s.s1.deck.length) (rd:=[]) (by simp[Zi]) ?_))
 refine Za rfl (Za rfl (Za (v:=iv s.s1.hand.length) (rd:=[]) (by simp[Zi]) (Za (Yn ..) ?_)))
 refine Za rfl (Za rfl (Za (v:=iv s.s1.grave.length) (rd:=[]) (by simp[Zi]) (Za (Yn ..) ?_)))
 refine Za rfl (Za rfl (Za (v:=iv s.s1.units.length) (rd:=[]) (by simp[Zi]) (Za (Yn ..) ?_)))
 refine Za rfl (Za rfl (Za (v:=iv s.s1.told.length) (rd:=[]) (by simp[Zi]) (Za (Yn ..) ?_)))
 refine Za (Yn ..) (Za rfl ?_)
 rw[w2]
 refine Qj ?_
 exact Za rfl (Yh (Za (X1 ..) rfl))
theorem c52(cs:List Cd)(hf:ZM cs=true)(σ:List ABlk)(K:AVal→List ABlk→Prop)(hK:∀ q,K (.bool q) σ):g52 (W prog GL0) [cdV cs] σ K:=by
 simp only[ZM,Bool.and_eq_true,decide_eq_true_eq] at hf
 obtain⟨f0,f1⟩:=hf
 rw[bigE] at f0
 have hlen:∀ τ,Qg [cdV cs] τ=.ok (iv cs.length) [] []:=fun τ=>by simp[Zi]
 unfold g52
 refine Za (hlen _) ?_
 refine Xm (ι:=Nat) (fun i vs τ=>(∃ a:Int,vs=[iv i,iv a])∧τ=σ∧i≤cs.length) (fun i=>cs.length - i) 0 ⟨⟨0,rfl⟩,rfl,by omega⟩ ?_
 rintro i vs τ again ⟨⟨a,rfl⟩,rfl,hi⟩ hag
 refine Za rfl (Xc (fun h=>?_) (fun h=>?_))
 ·have h:i < cs.length:=by simpa using h
  have hfc:cdFit cs[i]=true:=List.all_eq_true.1 f1 _ (List.getElem_mem h)
  have hix:=Qo τ cdC false false 12 cs .i64 i h
  generalize cs[i]=c at hfc hix
  simp only[cdFit,Bool.and_eq_true] at hfc
  refine Za hix (Za (ldr (cdLd _)) ?_)
  refine Zd (c110 c hfc.2.1 hfc.2.2.1 hfc.2.2.2) rfl g110_ok.plain rfl (Za (Yn ..) (Za (X1 ..) ?_))
  refine YaC (fun _=>rfl) (fun _=>rfl) (fun _=>hix) (fun _=>rfl) (fun _=>ldr (cdLd0 _)) (fun _=>rfl) (fun _=>X1 ..) ?_
  have nxt:(W prog GL0).rd (Qb .add false [iv i,(.int .i64 1)] τ) fun t37_25=>again [t37_25,iv (IntKind.i64.wrap (a + (min (efsW 0 c.played + efsW 0 c.dead + efsW 0 c.dawn) 1073741824)))] τ:=by
   refine Za (Yn ..) ?_
   rw[Zh (n:=i) (by omega)]
   exact hag (i + 1) _ _ (by omega) ⟨⟨_,rfl⟩,rfl,by omega⟩
  generalize (_ || _:Bool)=q
  cases q with
  | true=>
   refine Yb rfl (Yb rfl (Yb rfl ?_))
   refine Yd rfl (Yd rfl (Yd rfl (Yb rfl (Za rfl ?_))))
   exact Xe (hK _)
  | false=>
   refine Xa (Za rfl (Xa (Za (X1 ..) (Xa (Za rfl ?_)))))
   generalize decide ((60:Int) < (i:Int))=q2
   cases q2 with
   | true=>
    refine Xa (Za rfl (Xa (Za (hlen _) (Xa (Za (Qb8 ..) (Xa (Za rfl (Za rfl ?_))))))))
    exact Xc (fun _=>hK _) (fun _=>nxt)
   | false=>
    refine Yb rfl (Yb rfl (Yb rfl (Xa (Za rfl (Za rfl ?_)))))
    exact Yh nxt
 ·refine Za (hlen _) (Za (X1 ..) ?_)
  exact hK _
theorem c14(b:Bk)(hf:bkFit b=true)(σ:List ABlk)(K:AVal→List ABlk→Prop)(hK:∀ q,K (.bool q) (σ ++ [.box (bkC b)])):g14 (W prog GL0) [bkV b] σ K:=by
 simp only[bkFit,Bool.and_eq_true,decide_eq_true_eq] at hf
 obtain⟨f0,f1,f2⟩:=hf
 rw[bigE] at f1
 unfold g14
 refine Ye (v:=.bptr σ.length 0) (rd:=[]) (up:=[(σ.length,.box (bkC b))]) rfl (XL _ _) ?_
 have hB:=Xn σ (.box (bkC b))
 generalize σ.length=n at hB ⊢
 generalize σ ++ [ABlk.box (bkC b)]=τ at hB hK ⊢
 refine Za rfl (Za (ld hB rfl) (Za (v:=iv b.formats.length) (rd:=[]) (by simp[Zi]) ?_))
 refine Xm (ι:=Nat) (fun i vs τ'=>(∃ a:Int,vs=[iv i,iv a])∧τ'=τ∧i≤b.formats.length) (fun i=>b.formats.length - i) 0 ⟨⟨0,rfl⟩,rfl,by omega⟩ ?_
 rintro i vs τ' again ⟨⟨a,rfl⟩,rfl,hi⟩ hag
 refine Za rfl (Xc (fun h=>?_) (fun h=>?_))
 ·have h:i < b.formats.length:=by simpa using h
  have hix:=Qo τ' foC false false 7 b.formats .i64 i h
  generalize b.formats[i]=f at hix
  refine Za rfl (Za (ld hB rfl) (Za hix (Za rfl (Za (v:=txV f.banned) (rd:=[]) (ldr rfl) (Za (v:=iv f.banned.length) (rd:=[]) (by simp[Zi]) (Za (Yn ..) ?_))))))
  refine Za rfl (Za (ld hB rfl) (Za hix (Za rfl (Za (v:=txV f.single) (rd:=[]) (ldr rfl) (Za (v:=iv f.single.length) (rd:=[]) (by simp[Zi]) (Za (Yn ..) ?_))))))
  refine Za (Yn ..) (Za (Yn ..) ?_)
  rw[Zh (n:=i) (by omega)]
  exact hag (i + 1) _ _ (by omega) ⟨⟨_,rfl⟩,rfl,by omega⟩
 ·refine Za (X1 ..) ?_
  generalize decide ((600:Int) < a)=q
  cases q with
  | true=>
   refine Yb rfl (Yb rfl (Yc rfl (Za rfl ?_)))
   exact hK _
  | false=>
   refine Xa (Za rfl (Xa (Za (ld hB rfl) (Zb ?_))))
   refine Zu hP rfl g52_ok rfl (c52 b.cards f0 _ _ (fun q=>Za rfl ?_))
   exact hK _
end Go.Ah.Tz
end
section
namespace Go.Ah.Tz
open Go.Proofs.Tryz (prog)
abbrev st5(s:St):List AVal:=[iv s.turn,iv s.mover,iv8 s.phase,.bool s.struck,iv8 s.result,.sl 5 0 s.attack.length false,iv s.next,iv s.s0.life,iv s.s0.mana,iv s.s0.most,.sl 6 0 s.s0.deck.length false,.sl 7 0 s.s0.hand.length false,.sl 8 0 s.s0.grave.length false,.sl 9 0 s.s0.units.length false,.sl 10 0 s.s0.told.length false,iv s.s1.life,iv s.s1.mana,iv s.s1.most,.sl 11 0 s.s1.deck.length false,.sl 12 0 s.s1.hand.length false,.sl 13 0 s.s1.grave.length false,.sl 14 0 s.s1.units.length false,.sl 15 0 s.s1.told.length false]
abbrev stm(s:St)(m:Nat):List AVal:=[iv s.turn,iv s.mover,iv8 s.phase,.bool s.struck,iv8 s.result,.sl m 0 s.attack.length false,iv s.next,iv s.s0.life,iv s.s0.mana,iv s.s0.most,.sl (m + 1) 0 s.s0.deck.length false,.sl (m + 2) 0 s.s0.hand.length false,.sl (m + 3) 0 s.s0.grave.length false,.sl (m + 4) 0 s.s0.units.length false,.sl (m + 5) 0 s.s0.told.length false,iv s.s1.life,iv s.s1.mana,iv s.s1.most,.sl (m + 6) 0 s.s1.deck.length false,.sl (m + 7) 0 s.s1.hand.length false,.sl (m + 8) 0 s.s1.grave.length false,.sl (m + 9) 0 s.s1.units.length false,.sl (m + 10) 0 s.s1.told.length false]
abbrev cpB(b:Bk)(s x:St)(ev:Ev):List ABlk:=[.box (bkC b),.box (stC s),.box (bkC b),.box (stC x),.box (evC ev),.rows 1 (s.attack.map cel),.rows 1 (s.s0.deck.map cel),.rows 1 (s.s0.hand.map cel),.rows 1 (s.s0.grave.map cel),.rows 4 (s.s0.units.map thC),.rows 1 (s.s0.told.map cel),.rows 1 (s.s1.deck.map cel),.rows 1 (s.s1.hand.map cel),.rows 1 (s.s1.grave.map cel),.rows 4 (s.s1.units.map thC),.rows 1 (s.s1.told.map cel)]
abbrev sx0(s x:St):List AVal:=[iv s.turn,iv s.mover,iv8 s.phase,.bool s.struck,iv8 s.result,.sl 5 0 s.attack.length false,iv s.next,iv x.s0.life,iv x.s0.mana,iv x.s0.most,rowV x.s0.deck,rowV x.s0.hand,rowV x.s0.grave,thV x.s0.units,rowV x.s0.told,iv s.s1.life,iv s.s1.mana,iv s.s1.most,.sl 11 0 s.s1.deck.length false,.sl 12 0 s.s1.hand.length false,.sl 13 0 s.s1.grave.length false,.sl 14 0 s.s1.units.length false,.sl 15 0 s.s1.told.length false]
abbrev sx1(s x:St):List AVal:=[iv s.turn,iv s.mover,iv8 s.phase,.bool s.struck,iv8 s.result,.sl 5 0 s.attack.length false,iv s.next,iv s.s0.life,iv s.s0.mana,iv s.s0.most,.sl 6 0 s.s0.deck.length false,.sl 7 0 s.s0.hand.length false,.sl 8 0 s.s0.grave.length false,.sl 9 0 s.s0.units.length false,.sl 10 0 s.s0.told.length false,iv x.s1.life,iv x.s1.mana,iv x.s1.most,rowV x.s1.deck,rowV x.s1.hand,rowV x.s1.grave,thV x.s1.units,rowV x.s1.told]
theorem Zbo{e:Int}{b:Bk}{s:St}(h:mayR e b s false=true):mayR e b s true=true:=by
 simp only[mayR,Bool.and_eq_true] at h ⊢
 obtain⟨h1,h2,h3,h4,h5,h6,h7,h8,h9,h10,h11,h12,h13,h14⟩:=h
 refine⟨h1,h2,h3,h4,h5,h6,h7,h8,h9,h10,h11,h12,h13,?_⟩
 by_cases hp:s.phase≠1
 ·rw[if_pos hp] at h14 ⊢; exact h14
 ·rw[if_neg hp] at h14 ⊢
  simp only[Bool.and_eq_true] at h14 ⊢
  exact⟨by simp,h14.2⟩
theorem ZbV{b:Bk}{next:Int}{u:Th}(h:Zv b next u=true):1≤u.id:=by
 simp only[Zv,Bool.and_eq_true,decide_eq_true_eq] at h
 omega
theorem Zbq{b:Bk}{next:Int}{l:List Th}{ids:List Int}(h:Qr b next ids l=true):fnd l 0=none:=by
 rw[fnd,List.findIdx?_eq_none_iff]
 intro u hu
 have:=ZbV (Z0 h u hu)
 simp; omega
theorem Xb8{e:Int}{b:Bk}{s:St}{bare:Bool}(h:mayR e b s bare=true):unitR s 0=(0,0,false):=by
 have:=X6 h
 simp only[Xr,Bool.and_eq_true] at this
 simp[unitR,Zbq this.2.1,Zbq this.2.2.2]
theorem w19{s:St}(hs:StLe 1000000000 s){σ:List ABlk}{K:AVal→List ABlk→Prop}(hK:K (.agg (stO s σ.length)) (σ ++ stB s)):(W prog GL0).call (.call 19) [stV s] σ K:=by
 refine Yaw (c19 s hs) rfl g19_ok.plain rfl ?_
 rw[QbD,Qb0]; exact hK
theorem ZaW{s:St}(hs:StLe 1000000000 s){σ:List ABlk}{K:AVal→AVal→List ABlk→Prop}(hK:∀ τ n,σ.length=n→τ.length=n + 12→(∀ c y,hget σ c=.box y→hget τ c=.box y)→hget τ (n + 11)=.box (stO s n)→(∀ i x,(stB s)[i]?=some x→hget τ (n + i)=x)→K (.bptr (n + 11) 0) .junk τ) :
  (W prog GL0).call (.call 19) [stV s] σ fun v σ=>(W prog GL0).wr (Yf zStC [] σ) σ fun t σ=>(W prog GL0).wr (Zc 23 [t,v] σ) σ (K t):=by
 refine w19 hs ?_
 have hl:(σ ++ stB s).length=σ.length + 11:=by simp[stB,sdB]
 refine ZB (row:=stO s σ.length) (row':=stO s σ.length) rfl rfl rfl ?_
 have h11:=Xn (σ ++ stB s) (.box (stO s σ.length))
 rw[hl] at h11 ⊢
 refine hK _ _ rfl (by simp[stB,sdB]) (fun c y h=>Zl _ (Zl _ h (by simp)) (by simp)) h11 (fun i x hx=>?_)
 have hi:i < 11:=(List.getElem?_eq_some_iff.1 hx).1
 exact YG (by rw[List.getElem?_append_left (by omega),List.getElem?_append_right (by omega)]; simpa using hx)
theorem Ybi(s:St)(hs:StLe 2000000 s)(h:(drawF s 0).2.2=0):(drawF s 0).1 = { s with s0:=(drawF s 0).1.s0,s1:=if (drawF s 0).2.1.kind=4 then { s.s1 with told:=s.s1.told ++ [(drawF s 0).2.1.card] } else s.s1 }∧StLe 1000000000 (drawF s 0).1:=by
 have h9:StLe 1000000000 s:=hs.mono (by decide)
 have h1:=hs.1
 have h2:=hs.2
 have h3:=hs.3
 cases hd:s.s0.deck with
 | nil=>
  have e:drawF s 0=if wIn (s.s0.life - 1) then ({ s with s0:={ s.s0 with life:=s.s0.life - 1 } },⟨3,0,-1,0,0,0,[]⟩,0) else (zSt,zEv,171):=by
   show (match s.s0.deck with | []=>_ | c :: l=>_)=_
   rw[hd]; rfl
  rw[e] at h ⊢
  by_cases hw:wIn (s.s0.life - 1)=true
  ·rw[if_pos hw]
   exact⟨rfl,h9.1,⟨h9.2.1,h9.2.2,h9.2.3,h9.2.4,h9.2.5⟩,⟨h9.3.1,h9.3.2,h9.3.3,h9.3.4,h9.3.5⟩⟩
  ·rw[if_neg hw] at h; cases h
 | cons c l=>
  have hl:l.length≤2000000:=by
   have:=h2.1
   rw[hd] at this; simp at this; omega
  by_cases hh:10≤s.s0.hand.length
  ·have e:drawF s 0=({ s with s0:={ s.s0 with deck:=l,grave:=s.s0.grave ++ [c],told:=s.s0.told ++ [c] },s1:={ s.s1 with told:=s.s1.told ++ [c] } },⟨4,0,c,0,0,0,[]⟩,0):=by
    show (match s.s0.deck with | []=>_ | c :: l=>_)=_
    rw[hd]; show (if 10≤s.s0.hand.length then _ else _)=_
    rw[if_pos hh]; rfl
   rw[e]
   have q1:=h2.3
   have q2:=h2.5
   have q3:=h3.5
   refine⟨rfl,h9.1,⟨by show l.length≤_; omega,h9.2.2,by show (s.s0.grave ++ [c]).length≤_; simp; omega,h9.2.4,by show (s.s0.told ++ [c]).length≤_; simp; omega⟩,⟨h9.3.1,h9.3.2,h9.3.3,h9.3.4,by show (s.s1.told ++ [c]).length≤_; simp; omega⟩⟩
  ·have e:drawF s 0=({ s with s0:={ s.s0 with deck:=l,hand:=s.s0.hand ++ [c],told:=s.s0.told ++ [c] } },⟨3,0,c,0,0,0,[]⟩,0):=by
    show (match s.s0.deck with | []=>_ | c :: l=>_)=_
    rw[hd]; show (if 10≤s.s0.hand.length then _ else _)=_
    rw[if_neg hh]; rfl
   rw[e]
   have q1:=h2.2
   have q2:=h2.5
   refine⟨rfl,h9.1,⟨by show l.length≤_; omega,by show (s.s0.hand ++ [c]).length≤_; simp; omega,h9.2.3,h9.2.4,by show (s.s0.told ++ [c]).length≤_; simp; omega⟩,⟨h9.3.1,h9.3.2,h9.3.3,h9.3.4,h9.3.5⟩⟩
theorem QbG(s:St)(hs:StLe 2000000 s)(c:Int):StLe 1000000000 (ZH s 0 c):=by
 have h9:StLe 1000000000 s:=hs.mono (by decide)
 have h2:=hs.2.4
 refine⟨h9.1,⟨h9.2.1,h9.2.2,h9.2.3,by show (s.s0.units ++ [_]).length≤_; simp; omega,h9.2.5⟩,⟨h9.3.1,h9.3.2,h9.3.3,h9.3.4,h9.3.5⟩⟩
theorem Xbg(s:St)(hs:StLe 2000000 s)(h:(drawF s 1).2.2=0):(drawF s 1).1 = { s with s1:=(drawF s 1).1.s1,s0:=if (drawF s 1).2.1.kind=4 then { s.s0 with told:=s.s0.told ++ [(drawF s 1).2.1.card] } else s.s0 }∧StLe 1000000000 (drawF s 1).1:=by
 have h9:StLe 1000000000 s:=hs.mono (by decide)
 have h1:=hs.1
 have h2:=hs.2
 have h3:=hs.3
 cases hd:s.s1.deck with
 | nil=>
  have e:drawF s 1=if wIn (s.s1.life - 1) then ({ s with s1:={ s.s1 with life:=s.s1.life - 1 } },⟨3,1,-1,0,0,0,[]⟩,0) else (zSt,zEv,171):=by
   show (match s.s1.deck with | []=>_ | c :: l=>_)=_
   rw[hd]; rfl
  rw[e] at h ⊢
  by_cases hw:wIn (s.s1.life - 1)=true
  ·rw[if_pos hw]
   exact⟨rfl,h9.1,⟨h9.2.1,h9.2.2,h9.2.3,h9.2.4,h9.2.5⟩,⟨h9.3.1,h9.3.2,h9.3.3,h9.3.4,h9.3.5⟩⟩
  ·rw[if_neg hw] at h; cases h
 | cons c l=>
  have hl:l.length≤2000000:=by
   have:=h3.1
   rw[hd] at this; simp at this; omega
  by_cases hh:10≤s.s1.hand.length
  ·have e:drawF s 1=({ s with s1:={ s.s1 with deck:=l,grave:=s.s1.grave ++ [c],told:=s.s1.told ++ [c] },s0:={ s.s0 with told:=s.s0.told ++ [c] } },⟨4,1,c,0,0,0,[]⟩,0):=by
    show (match s.s1.deck with | []=>_ | c :: l=>_)=_
    rw[hd]; show (if 10≤s.s1.hand.length then _ else _)=_
    rw[if_pos hh]; rfl
   rw[e]
   have q1:=h3.3
   have q2:=h3.5
   have q3:=h2.5
   refine⟨rfl,h9.1,⟨h9.2.1,h9.2.2,h9.2.3,h9.2.4,by show (s.s0.told ++ [c]).length≤_; simp; omega⟩,⟨by show l.length≤_; omega,h9.3.2,by show (s.s1.grave ++ [c]).length≤_; simp; omega,h9.3.4,by show (s.s1.told ++ [c]).length≤_; simp; omega⟩⟩
  ·have e:drawF s 1=({ s with s1:={ s.s1 with deck:=l,hand:=s.s1.hand ++ [c],told:=s.s1.told ++ [c] } },⟨3,1,c,0,0,0,[]⟩,0):=by
    show (match s.s1.deck with | []=>_ | c :: l=>_)=_
    rw[hd]; show (if 10≤s.s1.hand.length then _ else _)=_
    rw[if_neg hh]; rfl
   rw[e]
   have q1:=h3.2
   have q2:=h3.5
   refine⟨rfl,h9.1,⟨h9.2.1,h9.2.2,h9.2.3,h9.2.4,h9.2.5⟩,⟨by show l.length≤_; omega,by show (s.s1.hand ++ [c]).length≤_; simp; omega,h9.3.3,h9.3.4,by show (s.s1.told ++ [c]).length≤_; simp; omega⟩⟩
theorem XbN(s:St)(hs:StLe 2000000 s)(c:Int):StLe 1000000000 (ZH s 1 c):=by
 have h9:StLe 1000000000 s:=hs.mono (by decide)
 have h2:=hs.3.4
 refine⟨h9.1,⟨h9.2.1,h9.2.2,h9.2.3,h9.2.4,h9.2.5⟩,⟨h9.3.1,h9.3.2,h9.3.3,by show (s.s1.units ++ [_]).length≤_; simp; omega,h9.3.5⟩⟩
theorem ZaY{e:Int}{b:Bk}{s:St}{id sd kd:Int}{fP:Int→Int × Int}{fU:Th→Int × Int}(hm:mayR e b s true=true)(h:(chgF kd fP fU s id sd).2.2=0) :
  (unitV s id=.tup [iv 0,iv 0,.bool false]∧∃ now,(chgF kd fP fU s id sd).1=s.put sd { s.side sd with life:=now }) ∨
  (∃ k u now,unitV s id=.tup [iv 0,iv ((k:Nat):Int),.bool true]∧s.s0.units[k]?=some u∧(chgF kd fP fU s id sd).1 = { s with s0:={ s.s0 with units:=s.s0.units.set k { u with harm:=now } } }) ∨
  (∃ k u now,unitV s id=.tup [iv 1,iv ((k:Nat):Int),.bool true]∧s.s1.units[k]?=some u∧(chgF kd fP fU s id sd).1 = { s with s1:={ s.s1 with units:=s.s1.units.set k { u with harm:=now } } }):=by
 have z:∀ (x:Int),x≠0→(zSt,zEv,x).2.2=0→False:=fun x hx h=>hx h
 unfold chgF at h ⊢
 by_cases hid:id=0
 ·rw[if_pos hid] at h ⊢
  subst hid
  left
  refine⟨by simp[unitV,Xb8 hm],(fP (s.side sd).life).1,?_⟩
  unfold chgP at h ⊢
  by_cases hw:wIn (fP (s.side sd).life).1=true
  ·rw[if_pos hw]
  ·rw[if_neg hw] at h; exact(z 171 (by decide) h).elim
 rw[if_neg hid] at h ⊢
 by_cases hid2:id < 0
 ·rw[if_pos hid2] at h; exact(z 4 (by decide) h).elim
 rw[if_neg hid2] at h ⊢
 right
 cases q0:fnd s.s0.units id with
 | some k=>
  left
  obtain⟨u,hk,_⟩:=Xbq q0
  rw[q0] at h
  simp only[hk,Option.getD_some] at h ⊢
  refine⟨k,u,(fU u).1,by simp[unitV,unitR,q0],hk,?_⟩
  unfold chgU at h ⊢
  by_cases hw:wIn (fU u).1=true
  ·rw[if_pos hw]; rfl
  ·rw[if_neg hw] at h; exact(z 171 (by decide) h).elim
 | none=>
  right
  rw[q0] at h
  cases q1:fnd s.s1.units id with
  | none=>rw[q1] at h; exact(z 4 (by decide) h).elim
  | some k=>
   obtain⟨u,hk,_⟩:=Xbq q1
   rw[q1] at h
   simp only[hk,Option.getD_some] at h ⊢
   refine⟨k,u,(fU u).1,by simp[unitV,unitR,q0,q1],hk,?_⟩
   unfold chgU at h ⊢
   by_cases hw:wIn (fU u).1=true
   ·rw[if_pos hw]; rfl
   ·rw[if_neg hw] at h; exact(z 171 (by decide) h).elim
theorem SB.cast{σ:List ABlk}{rd:List Nat}{cs:List AVal}{a b:St}(e:a=b)(h:SB σ rd cs b):SB σ rd cs a:=by rw[e]; exact h
theorem c20s(a:St)(ha:StLe 1000000000 a):PCall prog GL0 20 [stV a,stV a] (.bool true):=by
 have:=c20 a a ha
 rwa [decide_eq_true rfl] at this
attribute [local irreducible] Ans.rd Ans.pu Ans.wr Ans.dr Ans.gr Ans.gw Ans.gl Ans.gd Ans.opt joinK W
set_option maxHeartbeats 8000000
theorem ZaC(b:Bk)(s:St)(k c:Int):∃ x ev q,Xaq b s k c=resX x ev (.bool q)∧(q=true→x=ZH s k c):=by
 unfold Xaq
 by_cases h:Yam b s k c=true
 ·rw[if_pos h]; exact⟨_,_,_,rfl,fun h=>by cases h⟩
 ·rw[if_neg h]; exact⟨_,_,_,rfl,fun _=>rfl⟩
theorem c3_0(h17:PCall prog GL0 17 [] (.bool true))(b:Bk)(hf:bkFit b=true)(hsm:Yt b.cards)(s:St)(hs:StLe 2000000 s)(h67:PCall prog GL0 67 [bkV b] (.agg [iv (bkR b).1,iv (bkR b).2]))(card id n:Int):PCall prog GL0 3 [bkV b,stV s,iv 0,iv card,iv id,iv n] (.bool true):=by
 refine Zf hP g3_ok rfl rfl ?_
 unfold g3
 refine Ye (v:=.bptr 0 0) (rd:=[]) (up:=[(0,.box (bkC b))]) rfl rfl ?_
 refine Ye (v:=.bptr 1 0) (rd:=[]) (up:=[(1,.box (stC s))]) rfl rfl ?_
 refine Za rfl ?_
 refine Zu hP rfl g14_ok rfl (c14 b hf _ _ (fun q=>?_))
 have hend:∀ σ,(W prog GL0).call (.call 17) [] σ fun t44_18 σ=>(fun (v':AVal) (_:List ABlk)=>v'=.bool true) t44_18 σ:=fun σ=>Zd h17 rfl g17_ok.plain rfl rfl
 cases q with
 | true=>
  refine Yb rfl (Yc rfl (Za rfl (Yb rfl (Yb rfl (Yc rfl (Yb rfl (Za rfl ?_)))))))
  exact Yb rfl (Yb rfl (Za rfl (Yb rfl (Yb rfl (Za rfl (Xe (hend _)))))))
 | false=>
 refine Xa (Za rfl (Zb ?_))
 obtain⟨q,h15⟩:=c15 s
 refine Zd h15 rfl g15_ok.plain rfl ?_
 cases q with
 | true=>
  refine Za rfl (Yb rfl (Yb rfl (Yc rfl (Yb rfl (Za rfl ?_)))))
  exact Yb rfl (Yb rfl (Za rfl (Yb rfl (Yb rfl (Za rfl (Xe (hend _)))))))
 | false=>
 refine Za rfl (Xa (Za rfl (Xa (Za rfl (Zb ?_)))))
 refine Zd (c16 b s (hs.mono (by decide)) _ _ h67) rfl g16_ok.plain rfl ?_
 rcases Bool.eq_false_or_eq_true (mayR (bkR b).1 b s false) with hm0 | hm0
 rotate_left
 ·rw[hm0]
  refine Xa (Za rfl (Za rfl ?_))
  exact Yb rfl (Yb rfl (Za rfl (Yb rfl (Yb rfl (Za rfl (Xe (hend _)))))))
 rw[hm0]
 have hm:=Zbo hm0
 refine Xa (Za rfl (Za rfl ?_))
 refine XH (c:=false) (d:=false) (fun _=>rfl) (fun _=>rfl) ?_
 refine XH (c:=false) (d:=false) (fun _=>rfl) (fun _=>rfl) (Yh ?_)
 refine Za rfl (Za rfl (Zd (c18_0 b hf hsm s hs hm) rfl g18_ok.plain rfl ?_))
 have hap:=Ybi s hs
 generalize drawF s 0=r at hap ⊢
 obtain⟨x,ev,e⟩:=r
 refine Za rfl (Za rfl (Za rfl ?_))
 refine Ye (v:=.bptr 3 0) (rd:=[]) (up:=[(3,.box zStC)]) rfl rfl ?_
 refine Ye (v:=.bptr 4 0) (rd:=[]) (up:=[(4,.box zEvC)]) rfl rfl ?_
 refine Ye (v:=.junk) (rd:=[]) (up:=[(3,.box (stC x))]) rfl rfl ?_
 refine Ye (v:=.junk) (rd:=[]) (up:=[(4,.box (evC ev))]) rfl rfl (Za (Zg ..) ?_)
 refine Qi fun k28 hk28=>?_
 have kB:∀ σ x0,hget σ 0=.box (bkC b)→hget σ 1=.box (stC s)→hget σ 3=.box (stC x0)→k28 [] σ:=by
  rw[hk28]
  clear hk28 k28 hap ev e x
  intro σ x0 h0 h1 h3
  obtain⟨x,ev,q,hv,hq⟩:=ZaC b s 0 card
  have h21:=c21_0 b hf hsm s hs hm card
  rw[hv] at h21
  refine Za (ld h0 rfl) (Za (ld h1 rfl) (Zd h21 rfl g21_ok.plain rfl (Za rfl (Za rfl (Za rfl ?_)))))
  have hlt:3 < σ.length:=Zt h3 (by simp)
  refine Ye (Xbc σ _) (XL _ _) ?_
  refine Ye (v:=.junk) (rd:=[]) (up:=[(3,.box (stC x))]) (stv (Zl _ h3 (by simp)) rfl rfl rfl) (Yo _ (by simp; omega)) ?_
  obtain⟨σ2,hσ2⟩:∃ σ2:List ABlk,((σ ++ [ABlk.box zEvC]).set 3 (.box (stC x))).set σ.length (.box (evC ev))=σ2:=⟨_,rfl⟩
  refine Ye (v:=.junk) (rd:=[]) (up:=[(σ.length,.box (evC ev))]) (σ':=σ2) (stv (Xh (Xn σ _) (by simp) (by omega)) rfl rfl rfl) (by rw[← hσ2]; exact Yo _ (by simp)) ?_
  have g0:hget σ2 0=.box (bkC b):=by rw[← hσ2]; exact Xh (Xh (Zl _ h0 (by simp)) (by simp) (by decide)) (by simp) (by omega)
  have g1:hget σ2 1=.box (stC s):=by rw[← hσ2]; exact Xh (Xh (Zl _ h1 (by simp)) (by simp) (by decide)) (by simp) (by omega)
  have g3:hget σ2 3=.box (stC x):=by rw[← hσ2]; exact Xh (Qk _ (by simp; omega)) (by simp) (by omega)
  clear hσ2
  clear h0 h1 h3 hlt
  clear σ x0
  refine Qi fun k72 hk72=>?_
  have kC:∀ σ x0,hget σ 0=.box (bkC b)→hget σ 1=.box (stC s)→hget σ 3=.box (stC x0)→k72 [] σ:=by
   rw[hk72]
   clear hk72 k72 g0 g1 g3 σ2 hq hv h21 q ev x
   intro σ x0 h0 h1 h3
   refine Za (ld h0 rfl) (Za (ld h1 rfl) (Zd (c22 b hf hsm s hs hm id 0 n (.inl rfl)) rfl g22_ok.plain rfl ?_))
   have hcas:(harmF b s id 0 n).2.2=0→_:=ZaY (id:=id) (sd:=0) hm
   unfold harmF at hcas ⊢
   generalize chgF _ _ _ s id 0=r at hcas ⊢
   obtain⟨x,ev,e⟩:=r
   have hlt:3 < σ.length:=Zt h3 (by simp)
   obtain⟨σ2,hσ2⟩:∃ σ2:List ABlk,σ.set 3 (.box (stC x))=σ2:=⟨_,rfl⟩
   refine Za rfl (Za rfl (Za rfl (Ye (v:=.junk) (rd:=[]) (up:=[(3,.box (stC x))]) (σ':=σ2) (stv h3 rfl rfl rfl) (by rw[← hσ2]; exact Yo _ hlt) (Za (Xaa ..) ?_))))
   have g0:hget σ2 0=.box (bkC b):=by rw[← hσ2]; exact Xh h0 (by simp) (by decide)
   have g1:hget σ2 1=.box (stC s):=by rw[← hσ2]; exact Xh h1 (by simp) (by decide)
   have g3:hget σ2 3=.box (stC x):=by rw[← hσ2]; exact Qk _ hlt
   clear hσ2
   clear h0 h1 h3 hlt
   refine Xc (fun _=>Zd h17 rfl g17_ok.plain rfl rfl) (fun he=>?_)
   have he:e=0:=by simpa using he
   have hcas:=hcas he
   clear he
   have h9:StLe 1000000000 s:=hs.mono (by decide)
   refine Za (ld g1 rfl) (ZaW h9 (fun τ m hm1 hm2 hb hM kk0=>?_))
   have h23:=c23 s h9 id
   refine Za (ld (hb _ _ g1) rfl) ?_
   have t3:=hb _ _ g3
   have hml:m + 11 < τ.length:=by omega
   have hm4:3 < m:=by rw[← hm1]; exact Zt g3 (by simp)
   have hin:∀ i,i < 11→m + i∈List.range' m 11:=fun i hi=>by simp; omega
   rcases hcas with ⟨hu,now,hx⟩ | ⟨k,u,now,hu,hk,hx⟩ | ⟨k,u,now,hu,hk,hx⟩
   ·have hx:x = { s with s0:={ s.s0 with life:=now } }:=hx
    subst hx
    rw[hu] at h23
    refine Zd h23 rfl g23_ok.plain rfl (Za rfl (Za rfl (Za rfl (Za rfl ?_))))
    refine Qi fun k108 hk108=>?_
    refine Xe (Za rfl (Za rfl (Za rfl (Za (ld t3 rfl) (Za rfl (Za rfl (Za rfl ?_)))))))
    refine Ye (v:=.junk) (rd:=[]) (up:=[(m + 11,.box ((stm s m).set 7 (iv now)))]) (stv hM rfl rfl rfl) (Yo _ hml) ?_
    rw[hk108]
    refine Za (ld (Xh t3 (by simp) (by omega)) rfl) (Za (ld (Qk _ hml) rfl) ?_)
    have kk:∀ i y,(stB s)[i]?=some y→hget (τ.set (m + 11) (.box ((stm s m).set 7 (iv now)))) (m + i)=y:=fun i y hy=>by
     have hi:i < 11:=(List.getElem?_eq_some_iff.1 hy).1
     rw[Ym _ (by omega) (by omega)]; exact kk0 i y hy
    refine XC (rd:=List.range' m 11) (c20s { s with s0:={ s.s0 with life:=now } } ⟨h9.1,⟨h9.2.1,h9.2.2,h9.2.3,h9.2.4,h9.2.5⟩,⟨h9.3.1,h9.3.2,h9.3.3,h9.3.4,h9.3.5⟩⟩) rfl g20_ok.plain (.cons (Bor.ro rfl) <| .cons (SB.agg (SB.mk (s:={ s with s0:={ s.s0 with life:=now } }) ?_ ?_ ?_ ?_ ?_ ?_ ?_ ?_ ?_ ?_ ?_)) .nil) rfl ?_
    ·exact RI.own (kk 0 _ rfl) (hin 0 (by decide)) rfl
    ·exact RI.own (kk 1 _ rfl) (hin 1 (by decide)) rfl
    ·exact RI.own (kk 2 _ rfl) (hin 2 (by decide)) rfl
    ·exact RI.own (kk 3 _ rfl) (hin 3 (by decide)) rfl
    ·exact RT.own (kk 4 _ rfl) (hin 4 (by decide)) rfl
    ·exact RI.own (kk 5 _ rfl) (hin 5 (by decide)) rfl
    ·exact RI.own (kk 6 _ rfl) (hin 6 (by decide)) rfl
    ·exact RI.own (kk 7 _ rfl) (hin 7 (by decide)) rfl
    ·exact RI.own (kk 8 _ rfl) (hin 8 (by decide)) rfl
    ·exact RT.own (kk 9 _ rfl) (hin 9 (by decide)) rfl
    ·exact RI.own (kk 10 _ rfl) (hin 10 (by decide)) rfl
    exact Zb (Zd h17 rfl g17_ok.plain rfl (Za rfl rfl))
   ·have hx:x = { s with s0:={ s.s0 with units:=s.s0.units.set k { u with harm:=now } } }:=hx
    subst hx
    rw[hu] at h23
    have hkl:k < s.s0.units.length:=(List.getElem?_eq_some_iff.1 hk).1
    have hkl2:k < (s.s0.units.set k { u with harm:=now }).length:=by simpa using hkl
    refine Zd h23 rfl g23_ok.plain rfl (Za rfl (Za rfl (Za rfl (Za rfl ?_))))
    refine Qi fun k108 hk108=>?_
    refine Yh (Za rfl (Za rfl (Za rfl (Za (ld t3 rfl) (Za (v:=iv (s.s0.units.set k { u with harm:=now }).length) (rd:=[]) (by simp[Zi]) (Za (QG ..) ?_))))))
    rw[decide_eq_true (by omega)]
    have hUb:hget τ (m + 4)=.rows 4 (s.s0.units.map thC):=kk0 4 _ rfl
    have hUl:m + 4 < τ.length:=by omega
    refine Xe (Xf rfl (Xf rfl (Xf rfl (Qh (ld hM rfl) (Xi _) ?_))))
    refine Xf rfl (Xf rfl (Xf rfl (Qh (ld t3 rfl) (Xi _) ?_)))
    refine Qh (Qo _ thC false false 4 _ .i64 k hkl2) (Xi _) ?_
    rw[show (s.s0.units.set k { u with harm:=now })[k] = { u with harm:=now } by simp]
    refine Xf rfl (Qh (v:=iv now) (rd:=[]) (ldr rfl) (Xi _) ?_)
    refine Qh (v:=.ptr (m + 4) k 0) (rd:=[m + 4]) ?_ (Xi _) ?_
    ·have:=Xa3 τ (m + 4) 0 s.s0.units.length false 4 (s.s0.units.map thC) .i64 k hkl hUb
     rw[Nat.zero_add] at this; exact this
    refine Xf rfl (Qh (Q8 hUb hk _) (Yo _ hUl) ?_)
    refine Yy (by rfl) ?_
    rw[hk108]
    refine Za (ld (Xh t3 (by simp) (by omega)) rfl) (Za (ld (Xh hM (by simp) (by omega)) rfl) ?_)
    have kk:∀ i y,i≠4→(stB s)[i]?=some y→hget (τ.set (m + 4) (.rows 4 ((s.s0.units.set k { u with harm:=now }).map thC))) (m + i)=y:=fun i y hne hy=>by
     have hi:i < 11:=(List.getElem?_eq_some_iff.1 hy).1
     rw[Ym _ (by omega) (by omega)]; exact kk0 i y hy
    have kU:hget (τ.set (m + 4) (.rows 4 ((s.s0.units.set k { u with harm:=now }).map thC))) (m + 4)=.rows 4 ((s.s0.units.set k { u with harm:=now }).map thC):=Qk _ hUl
    refine XC (rd:=List.range' m 11) (c20s { s with s0:={ s.s0 with units:=s.s0.units.set k { u with harm:=now } } } ⟨h9.1,⟨h9.2.1,h9.2.2,h9.2.3,by show (s.s0.units.set k _).length≤_; simpa using h9.2.4,h9.2.5⟩,⟨h9.3.1,h9.3.2,h9.3.3,h9.3.4,h9.3.5⟩⟩) rfl g20_ok.plain (.cons (Bor.ro rfl) <| .cons (SB.agg (SB.mk (s:={ s with s0:={ s.s0 with units:=s.s0.units.set k { u with harm:=now } } }) ?_ ?_ ?_ ?_ ?_ ?_ ?_ ?_ ?_ ?_ ?_)) .nil) rfl ?_
    ·exact RI.own (kk 0 _ (by decide) rfl) (hin 0 (by decide)) rfl
    ·exact RI.own (kk 1 _ (by decide) rfl) (hin 1 (by decide)) rfl
    ·exact RI.own (kk 2 _ (by decide) rfl) (hin 2 (by decide)) rfl
    ·exact RI.own (kk 3 _ (by decide) rfl) (hin 3 (by decide)) rfl
    ·exact RT.own kU (hin 4 (by decide)) (by simp)
    ·exact RI.own (kk 5 _ (by decide) rfl) (hin 5 (by decide)) rfl
    ·exact RI.own (kk 6 _ (by decide) rfl) (hin 6 (by decide)) rfl
    ·exact RI.own (kk 7 _ (by decide) rfl) (hin 7 (by decide)) rfl
    ·exact RI.own (kk 8 _ (by decide) rfl) (hin 8 (by decide)) rfl
    ·exact RT.own (kk 9 _ (by decide) rfl) (hin 9 (by decide)) rfl
    ·exact RI.own (kk 10 _ (by decide) rfl) (hin 10 (by decide)) rfl
    exact Zb (Zd h17 rfl g17_ok.plain rfl (Za rfl rfl))
   ·have hx:x = { s with s1:={ s.s1 with units:=s.s1.units.set k { u with harm:=now } } }:=hx
    subst hx
    rw[hu] at h23
    have hkl:k < s.s1.units.length:=(List.getElem?_eq_some_iff.1 hk).1
    have hkl2:k < (s.s1.units.set k { u with harm:=now }).length:=by simpa using hkl
    refine Zd h23 rfl g23_ok.plain rfl (Za rfl (Za rfl (Za rfl (Za rfl ?_))))
    refine Qi fun k108 hk108=>?_
    refine Yh (Za rfl (Za rfl (Za rfl (Za (ld t3 rfl) (Za (v:=iv (s.s1.units.set k { u with harm:=now }).length) (rd:=[]) (by simp[Zi]) (Za (QG ..) ?_))))))
    rw[decide_eq_true (by omega)]
    have hUb:hget τ (m + 9)=.rows 4 (s.s1.units.map thC):=kk0 9 _ rfl
    have hUl:m + 9 < τ.length:=by omega
    refine Xe (Xf rfl (Xf rfl (Xf rfl (Qh (ld hM rfl) (Xi _) ?_))))
    refine Xf rfl (Xf rfl (Xf rfl (Qh (ld t3 rfl) (Xi _) ?_)))
    refine Qh (Qo _ thC false false 4 _ .i64 k hkl2) (Xi _) ?_
    rw[show (s.s1.units.set k { u with harm:=now })[k] = { u with harm:=now } by simp]
    refine Xf rfl (Qh (v:=iv now) (rd:=[]) (ldr rfl) (Xi _) ?_)
    refine Qh (v:=.ptr (m + 9) k 0) (rd:=[m + 9]) ?_ (Xi _) ?_
    ·have:=Xa3 τ (m + 9) 0 s.s1.units.length false 4 (s.s1.units.map thC) .i64 k hkl hUb
     rw[Nat.zero_add] at this; exact this
    refine Xf rfl (Qh (Q8 hUb hk _) (Yo _ hUl) ?_)
    refine Yy (by rfl) ?_
    rw[hk108]
    refine Za (ld (Xh t3 (by simp) (by omega)) rfl) (Za (ld (Xh hM (by simp) (by omega)) rfl) ?_)
    have kk:∀ i y,i≠9→(stB s)[i]?=some y→hget (τ.set (m + 9) (.rows 4 ((s.s1.units.set k { u with harm:=now }).map thC))) (m + i)=y:=fun i y hne hy=>by
     have hi:i < 11:=(List.getElem?_eq_some_iff.1 hy).1
     rw[Ym _ (by omega) (by omega)]; exact kk0 i y hy
    have kU:hget (τ.set (m + 9) (.rows 4 ((s.s1.units.set k { u with harm:=now }).map thC))) (m + 9)=.rows 4 ((s.s1.units.set k { u with harm:=now }).map thC):=Qk _ hUl
    refine XC (rd:=List.range' m 11) (c20s { s with s1:={ s.s1 with units:=s.s1.units.set k { u with harm:=now } } } ⟨h9.1,⟨h9.2.1,h9.2.2,h9.2.3,h9.2.4,h9.2.5⟩,⟨h9.3.1,h9.3.2,h9.3.3,by show (s.s1.units.set k _).length≤_; simpa using h9.3.4,h9.3.5⟩⟩) rfl g20_ok.plain (.cons (Bor.ro rfl) <| .cons (SB.agg (SB.mk (s:={ s with s1:={ s.s1 with units:=s.s1.units.set k { u with harm:=now } } }) ?_ ?_ ?_ ?_ ?_ ?_ ?_ ?_ ?_ ?_ ?_)) .nil) rfl ?_
    ·exact RI.own (kk 0 _ (by decide) rfl) (hin 0 (by decide)) rfl
    ·exact RI.own (kk 1 _ (by decide) rfl) (hin 1 (by decide)) rfl
    ·exact RI.own (kk 2 _ (by decide) rfl) (hin 2 (by decide)) rfl
    ·exact RI.own (kk 3 _ (by decide) rfl) (hin 3 (by decide)) rfl
    ·exact RT.own (kk 4 _ (by decide) rfl) (hin 4 (by decide)) rfl
    ·exact RI.own (kk 5 _ (by decide) rfl) (hin 5 (by decide)) rfl
    ·exact RI.own (kk 6 _ (by decide) rfl) (hin 6 (by decide)) rfl
    ·exact RI.own (kk 7 _ (by decide) rfl) (hin 7 (by decide)) rfl
    ·exact RI.own (kk 8 _ (by decide) rfl) (hin 8 (by decide)) rfl
    ·exact RT.own kU (hin 9 (by decide)) (by simp)
    ·exact RI.own (kk 10 _ (by decide) rfl) (hin 10 (by decide)) rfl
    exact Zb (Zd h17 rfl g17_ok.plain rfl (Za rfl rfl))
  refine Xc (fun hqt=>?_) (fun _=>kC _ x g0 g1 g3)
  have hx:=hq hqt
  subst hx
  have h9:StLe 1000000000 s:=hs.mono (by decide)
  refine Za (ld g1 rfl) (ZaW h9 (fun τ m hm1 hm2 hb hM kk0=>?_))
  have t3:=hb _ _ g3
  have hml:m + 11 < τ.length:=by omega
  have hm4:3 < m:=by rw[← hm1]; exact Zt g3 (by simp)
  have hin:∀ i,i < 11→m + i∈List.range' m 11:=fun i hi=>by simp; omega
  refine Za rfl (Za rfl (Za rfl (Za (ld t3 rfl) (Za rfl (Za rfl (Za rfl ?_))))))
  refine Ye (v:=.junk) (rd:=[]) (up:=[(m + 11,.box ((stm s m).set 13 (thV (s.s0.units ++ [⟨s.next,card,0,true⟩]))))]) (stv hM rfl rfl rfl) (Yo _ hml) ?_
  refine Za rfl (Za (ld (Xh t3 (by simp) (by omega)) rfl) (Za rfl ?_))
  refine Ye (v:=.junk) (rd:=[]) (up:=[(m + 11,.box (((stm s m).set 6 (iv (s.next + 1))).set 13 (thV (s.s0.units ++ [⟨s.next,card,0,true⟩]))))]) (stv (Qk _ hml) rfl rfl rfl) (Yo _ (by simpa using hml)) ?_
  rw[List.set_set]
  refine Za (ld (Xh t3 (by simp) (by omega)) rfl) (Za (ld (Qk _ hml) rfl) ?_)
  have kk:∀ i y,(stB s)[i]?=some y→hget (τ.set (m + 11) (.box (((stm s m).set 6 (iv (s.next + 1))).set 13 (thV (s.s0.units ++ [⟨s.next,card,0,true⟩]))))) (m + i)=y:=fun i y hy=>by
   have hi:i < 11:=(List.getElem?_eq_some_iff.1 hy).1
   rw[Ym _ (by omega) (by omega)]; exact kk0 i y hy
  refine XC (rd:=List.range' m 11) (c20s (ZH s 0 card) (QbG s hs card)) rfl g20_ok.plain (.cons (Bor.ro rfl) <| .cons (SB.agg (SB.mk (s:=(ZH s 0 card)) ?_ ?_ ?_ ?_ ?_ ?_ ?_ ?_ ?_ ?_ ?_)) .nil) rfl ?_
  ·exact RI.own (kk 0 _ rfl) (hin 0 (by decide)) rfl
  ·exact RI.own (kk 1 _ rfl) (hin 1 (by decide)) rfl
  ·exact RI.own (kk 2 _ rfl) (hin 2 (by decide)) rfl
  ·exact RI.own (kk 3 _ rfl) (hin 3 (by decide)) rfl
  ·exact RT.ro _
  ·exact RI.own (kk 5 _ rfl) (hin 5 (by decide)) rfl
  ·exact RI.own (kk 6 _ rfl) (hin 6 (by decide)) rfl
  ·exact RI.own (kk 7 _ rfl) (hin 7 (by decide)) rfl
  ·exact RI.own (kk 8 _ rfl) (hin 8 (by decide)) rfl
  ·exact RT.own (kk 9 _ rfl) (hin 9 (by decide)) rfl
  ·exact RI.own (kk 10 _ rfl) (hin 10 (by decide)) rfl
  exact Za rfl (Yh (kC _ _ (Xh (hb _ _ g0) (by simp) (by omega)) (Xh (hb _ _ g1) (by simp) (by omega)) (Xh t3 (by simp) (by omega))))
 refine Xc (fun he=>?_) (fun _=>kB _ x rfl rfl rfl)
 have he:e=0:=by simpa using he
 obtain⟨hx,hle⟩:=hap he
 have hx:x = { s with s0:=x.s0,s1:=if ev.kind=4 then { s.s1 with told:=s.s1.told ++ [ev.card] } else s.s1 }:=hx
 have h9:StLe 1000000000 s:=hs.mono (by decide)
 refine Za rfl (w19 h9 ?_)
 refine Ye (v:=.bptr 16 0) (rd:=[]) (up:=[(16,.box zStC)]) rfl rfl ?_
 refine Ye (v:=.junk) (rd:=[]) (up:=[(16,.box (st5 s))]) rfl rfl ?_
 refine Za rfl (Za rfl (Za rfl (Za rfl (Za rfl ?_))))
 refine Ye (v:=.junk) (rd:=[]) (up:=[(16,.box (sx0 s x))]) rfl rfl ?_
 refine Za rfl (Za rfl (Za (Zg ..) ?_))
 refine Qi fun k41 hk41=>?_
 refine Xc (fun hk=>?_) (fun hk=>?_)
 ·have hk:ev.kind=4:=by simpa using hk
  rw[if_pos hk] at hx
  refine Xf rfl (Xf rfl (Xf rfl (Xf rfl (Xf rfl (Qh (ld (row:=(sx0 s x)) rfl rfl) (Xi _) ?_)))))
  refine Xf rfl (Qh (ld (row:=evC ev) rfl rfl) (Xi _) ?_)
  refine Qh (v:=.sl 17 0 1 true) (rd:=[]) (up:=[(17,.rows 1 [cel ev.card])]) rfl rfl ?_
  refine Qh (v:=.sl 18 0 (s.s1.told.length + 1) false) (rd:=[17]) (up:=[(15,.dead),(18,.rows 1 ((s.s1.told ++ [ev.card]).map cel))]) ?_ rfl ?_
  ·have:=XJ 1 8 (σ:=((cpB b s x ev).append [.box (sx0 s x),.rows 1 [cel ev.card]])) (b:=15) (c:=17) (len:=s.s1.told.length) (ex:=false) (rs:=s.s1.told.map cel) (row:=cel ev.card) rfl rfl (by simp) rfl (by have:=hs.s1.told; omega)
   rw[show (s.s1.told ++ [ev.card]).map cel=s.s1.told.map cel ++ [cel ev.card] by simp]; exact this
  refine Xf rfl (Xf rfl (Xf rfl (Qh (v:=.junk) (rd:=[]) (up:=[(16,.box ((sx0 s x).set 22 (.sl 18 0 (s.s1.told.length + 1) false)))]) rfl rfl ?_)))
  refine Yy (by kernel_rfl) ?_
  rw[hk41]
  refine Za (ld (row:=stC x) rfl rfl) (Za (ld (row:=((sx0 s x).set 22 (.sl 18 0 (s.s1.told.length + 1) false))) rfl rfl) ?_)
  have hcall:=c20s x hle
  have hB:SB ((((cpB b s x ev).set 15 .dead).append [.box ((sx0 s x).set 22 (.sl 18 0 (s.s1.told.length + 1) false)),.rows 1 [cel ev.card],.rows 1 ((s.s1.told ++ [ev.card]).map cel)])) (List.range 19) ((sx0 s x).set 22 (.sl 18 0 (s.s1.told.length + 1) false)) ({ s with s0:=x.s0,s1:={ s.s1 with told:=s.s1.told ++ [ev.card] } }):=by
   refine SB.mk (rd:=List.range 19) (s:={ s with s0:=x.s0,s1:={ s.s1 with told:=s.s1.told ++ [ev.card] } }) ?_ ?_ ?_ ?_ ?_ ?_ ?_ ?_ ?_ ?_ ?_ <;> first | exact RI.own rfl (by decide) rfl | exact RI.own rfl (by decide) (by simp) | exact RT.own rfl (by decide) rfl | exact RT.ro _ | exact RI.ro _
  have hB2:SB ((((cpB b s x ev).set 15 .dead).append [.box ((sx0 s x).set 22 (.sl 18 0 (s.s1.told.length + 1) false)),.rows 1 [cel ev.card],.rows 1 ((s.s1.told ++ [ev.card]).map cel)])) (List.range 19) ((sx0 s x).set 22 (.sl 18 0 (s.s1.told.length + 1) false)) x:=SB.cast hx hB
  refine XC (rd:=List.range 19) hcall rfl g20_ok.plain (.cons (Bor.ro rfl) <| .cons (SB.agg hB2) .nil) rfl ?_
  exact Za rfl (Yh (kB _ x rfl rfl rfl))
 ·have hk:¬ ev.kind=4:=by simpa using hk
  rw[if_neg hk] at hx
  rw[hk41]
  refine Za (ld (row:=stC x) rfl rfl) (Za (ld (row:=(sx0 s x)) rfl rfl) ?_)
  have hcall:=c20s x hle
  have hB:SB (((cpB b s x ev).append [.box (sx0 s x)])) (List.range 17) (sx0 s x) ({ s with s0:=x.s0 }):=by
   refine SB.mk (rd:=List.range 17) (s:={ s with s0:=x.s0 }) ?_ ?_ ?_ ?_ ?_ ?_ ?_ ?_ ?_ ?_ ?_ <;> first | exact RI.own rfl (by decide) rfl | exact RI.own rfl (by decide) (by simp) | exact RT.own rfl (by decide) rfl | exact RT.ro _ | exact RI.ro _
  have hB2:SB (((cpB b s x ev).append [.box (sx0 s x)])) (List.range 17) (sx0 s x) x:=SB.cast hx hB
  refine XC (rd:=List.range 17) hcall rfl g20_ok.plain (.cons (Bor.ro rfl) <| .cons (SB.agg hB2) .nil) rfl ?_
  exact Za rfl (Yh (kB _ x rfl rfl rfl))
theorem c3_1(h17:PCall prog GL0 17 [] (.bool true))(b:Bk)(hf:bkFit b=true)(hsm:Yt b.cards)(s:St)(hs:StLe 2000000 s)(h67:PCall prog GL0 67 [bkV b] (.agg [iv (bkR b).1,iv (bkR b).2]))(card id n:Int):PCall prog GL0 3 [bkV b,stV s,iv 1,iv card,iv id,iv n] (.bool true):=by
 refine Zf hP g3_ok rfl rfl ?_
 unfold g3
 refine Ye (v:=.bptr 0 0) (rd:=[]) (up:=[(0,.box (bkC b))]) rfl rfl ?_
 refine Ye (v:=.bptr 1 0) (rd:=[]) (up:=[(1,.box (stC s))]) rfl rfl ?_
 refine Za rfl ?_
 refine Zu hP rfl g14_ok rfl (c14 b hf _ _ (fun q=>?_))
 have hend:∀ σ,(W prog GL0).call (.call 17) [] σ fun t44_18 σ=>(fun (v':AVal) (_:List ABlk)=>v'=.bool true) t44_18 σ:=fun σ=>Zd h17 rfl g17_ok.plain rfl rfl
 cases q with
 | true=>
  refine Yb rfl (Yc rfl (Za rfl (Yb rfl (Yb rfl (Yc rfl (Yb rfl (Za rfl ?_)))))))
  exact Yb rfl (Yb rfl (Za rfl (Yb rfl (Yb rfl (Za rfl (Xe (hend _)))))))
 | false=>
 refine Xa (Za rfl (Zb ?_))
 obtain⟨q,h15⟩:=c15 s
 refine Zd h15 rfl g15_ok.plain rfl ?_
 cases q with
 | true=>
  refine Za rfl (Yb rfl (Yb rfl (Yc rfl (Yb rfl (Za rfl ?_)))))
  exact Yb rfl (Yb rfl (Za rfl (Yb rfl (Yb rfl (Za rfl (Xe (hend _)))))))
 | false=>
 refine Za rfl (Xa (Za rfl (Xa (Za rfl (Zb ?_)))))
 refine Zd (c16 b s (hs.mono (by decide)) _ _ h67) rfl g16_ok.plain rfl ?_
 rcases Bool.eq_false_or_eq_true (mayR (bkR b).1 b s false) with hm0 | hm0
 rotate_left
 ·rw[hm0]
  refine Xa (Za rfl (Za rfl ?_))
  exact Yb rfl (Yb rfl (Za rfl (Yb rfl (Yb rfl (Za rfl (Xe (hend _)))))))
 rw[hm0]
 have hm:=Zbo hm0
 refine Xa (Za rfl (Za rfl ?_))
 refine XH (c:=false) (d:=false) (fun _=>rfl) (fun _=>rfl) ?_
 refine XH (c:=false) (d:=false) (fun _=>rfl) (fun _=>rfl) (Yh ?_)
 refine Za rfl (Za rfl (Zd (c18_1 b hf hsm s hs hm) rfl g18_ok.plain rfl ?_))
 have hap:=Xbg s hs
 generalize drawF s 1=r at hap ⊢
 obtain⟨x,ev,e⟩:=r
 refine Za rfl (Za rfl (Za rfl ?_))
 refine Ye (v:=.bptr 3 0) (rd:=[]) (up:=[(3,.box zStC)]) rfl rfl ?_
 refine Ye (v:=.bptr 4 0) (rd:=[]) (up:=[(4,.box zEvC)]) rfl rfl ?_
 refine Ye (v:=.junk) (rd:=[]) (up:=[(3,.box (stC x))]) rfl rfl ?_
 refine Ye (v:=.junk) (rd:=[]) (up:=[(4,.box (evC ev))]) rfl rfl (Za (Zg ..) ?_)
 refine Qi fun k28 hk28=>?_
 have kB:∀ σ x0,hget σ 0=.box (bkC b)→hget σ 1=.box (stC s)→hget σ 3=.box (stC x0)→k28 [] σ:=by
  rw[hk28]
  clear hk28 k28 hap ev e x
  intro σ x0 h0 h1 h3
  obtain⟨x,ev,q,hv,hq⟩:=ZaC b s 1 card
  have h21:=c21_1 b hf hsm s hs hm card
  rw[hv] at h21
  refine Za (ld h0 rfl) (Za (ld h1 rfl) (Zd h21 rfl g21_ok.plain rfl (Za rfl (Za rfl (Za rfl ?_)))))
  have hlt:3 < σ.length:=Zt h3 (by simp)
  refine Ye (Xbc σ _) (XL _ _) ?_
  refine Ye (v:=.junk) (rd:=[]) (up:=[(3,.box (stC x))]) (stv (Zl _ h3 (by simp)) rfl rfl rfl) (Yo _ (by simp; omega)) ?_
  obtain⟨σ2,hσ2⟩:∃ σ2:List ABlk,((σ ++ [ABlk.box zEvC]).set 3 (.box (stC x))).set σ.length (.box (evC ev))=σ2:=⟨_,rfl⟩
  refine Ye (v:=.junk) (rd:=[]) (up:=[(σ.length,.box (evC ev))]) (σ':=σ2) (stv (Xh (Xn σ _) (by simp) (by omega)) rfl rfl rfl) (by rw[← hσ2]; exact Yo _ (by simp)) ?_
  have g0:hget σ2 0=.box (bkC b):=by rw[← hσ2]; exact Xh (Xh (Zl _ h0 (by simp)) (by simp) (by decide)) (by simp) (by omega)
  have g1:hget σ2 1=.box (stC s):=by rw[← hσ2]; exact Xh (Xh (Zl _ h1 (by simp)) (by simp) (by decide)) (by simp) (by omega)
  have g3:hget σ2 3=.box (stC x):=by rw[← hσ2]; exact Xh (Qk _ (by simp; omega)) (by simp) (by omega)
  clear hσ2
  clear h0 h1 h3 hlt
  clear σ x0
  refine Qi fun k72 hk72=>?_
  have kC:∀ σ x0,hget σ 0=.box (bkC b)→hget σ 1=.box (stC s)→hget σ 3=.box (stC x0)→k72 [] σ:=by
   rw[hk72]
   clear hk72 k72 g0 g1 g3 σ2 hq hv h21 q ev x
   intro σ x0 h0 h1 h3
   refine Za (ld h0 rfl) (Za (ld h1 rfl) (Zd (c22 b hf hsm s hs hm id 1 n (.inr rfl)) rfl g22_ok.plain rfl ?_))
   have hcas:(harmF b s id 1 n).2.2=0→_:=ZaY (id:=id) (sd:=1) hm
   unfold harmF at hcas ⊢
   generalize chgF _ _ _ s id 1=r at hcas ⊢
   obtain⟨x,ev,e⟩:=r
   have hlt:3 < σ.length:=Zt h3 (by simp)
   obtain⟨σ2,hσ2⟩:∃ σ2:List ABlk,σ.set 3 (.box (stC x))=σ2:=⟨_,rfl⟩
   refine Za rfl (Za rfl (Za rfl (Ye (v:=.junk) (rd:=[]) (up:=[(3,.box (stC x))]) (σ':=σ2) (stv h3 rfl rfl rfl) (by rw[← hσ2]; exact Yo _ hlt) (Za (Xaa ..) ?_))))
   have g0:hget σ2 0=.box (bkC b):=by rw[← hσ2]; exact Xh h0 (by simp) (by decide)
   have g1:hget σ2 1=.box (stC s):=by rw[← hσ2]; exact Xh h1 (by simp) (by decide)
   have g3:hget σ2 3=.box (stC x):=by rw[← hσ2]; exact Qk _ hlt
   clear hσ2
   clear h0 h1 h3 hlt
   refine Xc (fun _=>Zd h17 rfl g17_ok.plain rfl rfl) (fun he=>?_)
   have he:e=0:=by simpa using he
   have hcas:=hcas he
   clear he
   have h9:StLe 1000000000 s:=hs.mono (by decide)
   refine Za (ld g1 rfl) (ZaW h9 (fun τ m hm1 hm2 hb hM kk0=>?_))
   have h23:=c23 s h9 id
   refine Za (ld (hb _ _ g1) rfl) ?_
   have t3:=hb _ _ g3
   have hml:m + 11 < τ.length:=by omega
   have hm4:3 < m:=by rw[← hm1]; exact Zt g3 (by simp)
   have hin:∀ i,i < 11→m + i∈List.range' m 11:=fun i hi=>by simp; omega
   rcases hcas with ⟨hu,now,hx⟩ | ⟨k,u,now,hu,hk,hx⟩ | ⟨k,u,now,hu,hk,hx⟩
   ·have hx:x = { s with s1:={ s.s1 with life:=now } }:=hx
    subst hx
    rw[hu] at h23
    refine Zd h23 rfl g23_ok.plain rfl (Za rfl (Za rfl (Za rfl (Za rfl ?_))))
    refine Qi fun k108 hk108=>?_
    refine Xe (Za rfl (Za rfl (Za rfl (Za (ld t3 rfl) (Za rfl (Za rfl (Za rfl ?_)))))))
    refine Ye (v:=.junk) (rd:=[]) (up:=[(m + 11,.box ((stm s m).set 15 (iv now)))]) (stv hM rfl rfl rfl) (Yo _ hml) ?_
    rw[hk108]
    refine Za (ld (Xh t3 (by simp) (by omega)) rfl) (Za (ld (Qk _ hml) rfl) ?_)
    have kk:∀ i y,(stB s)[i]?=some y→hget (τ.set (m + 11) (.box ((stm s m).set 15 (iv now)))) (m + i)=y:=fun i y hy=>by
     have hi:i < 11:=(List.getElem?_eq_some_iff.1 hy).1
     rw[Ym _ (by omega) (by omega)]; exact kk0 i y hy
    refine XC (rd:=List.range' m 11) (c20s { s with s1:={ s.s1 with life:=now } } ⟨h9.1,⟨h9.2.1,h9.2.2,h9.2.3,h9.2.4,h9.2.5⟩,⟨h9.3.1,h9.3.2,h9.3.3,h9.3.4,h9.3.5⟩⟩) rfl g20_ok.plain (.cons (Bor.ro rfl) <| .cons (SB.agg (SB.mk (s:={ s with s1:={ s.s1 with life:=now } }) ?_ ?_ ?_ ?_ ?_ ?_ ?_ ?_ ?_ ?_ ?_)) .nil) rfl ?_
    ·exact RI.own (kk 0 _ rfl) (hin 0 (by decide)) rfl
    ·exact RI.own (kk 1 _ rfl) (hin 1 (by decide)) rfl
    ·exact RI.own (kk 2 _ rfl) (hin 2 (by decide)) rfl
    ·exact RI.own (kk 3 _ rfl) (hin 3 (by decide)) rfl
    ·exact RT.own (kk 4 _ rfl) (hin 4 (by decide)) rfl
    ·exact RI.own (kk 5 _ rfl) (hin 5 (by decide)) rfl
    ·exact RI.own (kk 6 _ rfl) (hin 6 (by decide)) rfl
    ·exact RI.own (kk 7 _ rfl) (hin 7 (by decide)) rfl
    ·exact RI.own (kk 8 _ rfl) (hin 8 (by decide)) rfl
    ·exact RT.own (kk 9 _ rfl) (hin 9 (by decide)) rfl
    ·exact RI.own (kk 10 _ rfl) (hin 10 (by decide)) rfl
    exact Zb (Zd h17 rfl g17_ok.plain rfl (Za rfl rfl))
   ·have hx:x = { s with s0:={ s.s0 with units:=s.s0.units.set k { u with harm:=now } } }:=hx
    subst hx
    rw[hu] at h23
    have hkl:k < s.s0.units.length:=(List.getElem?_eq_some_iff.1 hk).1
    have hkl2:k < (s.s0.units.set k { u with harm:=now }).length:=by simpa using hkl
    refine Zd h23 rfl g23_ok.plain rfl (Za rfl (Za rfl (Za rfl (Za rfl ?_))))
    refine Qi fun k108 hk108=>?_
    refine Yh (Za rfl (Za rfl (Za rfl (Za (ld t3 rfl) (Za (v:=iv (s.s0.units.set k { u with harm:=now }).length) (rd:=[]) (by simp[Zi]) (Za (QG ..) ?_))))))
    rw[decide_eq_true (by omega)]
    have hUb:hget τ (m + 4)=.rows 4 (s.s0.units.map thC):=kk0 4 _ rfl
    have hUl:m + 4 < τ.length:=by omega
    refine Xe (Xf rfl (Xf rfl (Xf rfl (Qh (ld hM rfl) (Xi _) ?_))))
    refine Xf rfl (Xf rfl (Xf rfl (Qh (ld t3 rfl) (Xi _) ?_)))
    refine Qh (Qo _ thC false false 4 _ .i64 k hkl2) (Xi _) ?_
    rw[show (s.s0.units.set k { u with harm:=now })[k] = { u with harm:=now } by simp]
    refine Xf rfl (Qh (v:=iv now) (rd:=[]) (ldr rfl) (Xi _) ?_)
    refine Qh (v:=.ptr (m + 4) k 0) (rd:=[m + 4]) ?_ (Xi _) ?_
    ·have:=Xa3 τ (m + 4) 0 s.s0.units.length false 4 (s.s0.units.map thC) .i64 k hkl hUb
     rw[Nat.zero_add] at this; exact this
    refine Xf rfl (Qh (Q8 hUb hk _) (Yo _ hUl) ?_)
    refine Yy (by rfl) ?_
    rw[hk108]
    refine Za (ld (Xh t3 (by simp) (by omega)) rfl) (Za (ld (Xh hM (by simp) (by omega)) rfl) ?_)
    have kk:∀ i y,i≠4→(stB s)[i]?=some y→hget (τ.set (m + 4) (.rows 4 ((s.s0.units.set k { u with harm:=now }).map thC))) (m + i)=y:=fun i y hne hy=>by
     have hi:i < 11:=(List.getElem?_eq_some_iff.1 hy).1
     rw[Ym _ (by omega) (by omega)]; exact kk0 i y hy
    have kU:hget (τ.set (m + 4) (.rows 4 ((s.s0.units.set k { u with harm:=now }).map thC))) (m + 4)=.rows 4 ((s.s0.units.set k { u with harm:=now }).map thC):=Qk _ hUl
    refine XC (rd:=List.range' m 11) (c20s { s with s0:={ s.s0 with units:=s.s0.units.set k { u with harm:=now } } } ⟨h9.1,⟨h9.2.1,h9.2.2,h9.2.3,by show (s.s0.units.set k _).length≤_; simpa using h9.2.4,h9.2.5⟩,⟨h9.3.1,h9.3.2,h9.3.3,h9.3.4,h9.3.5⟩⟩) rfl g20_ok.plain (.cons (Bor.ro rfl) <| .cons (SB.agg (SB.mk (s:={ s with s0:={ s.s0 with units:=s.s0.units.set k { u with harm:=now } } }) ?_ ?_ ?_ ?_ ?_ ?_ ?_ ?_ ?_ ?_ ?_)) .nil) rfl ?_
    ·exact RI.own (kk 0 _ (by decide) rfl) (hin 0 (by decide)) rfl
    ·exact RI.own (kk 1 _ (by decide) rfl) (hin 1 (by decide)) rfl
    ·exact RI.own (kk 2 _ (by decide) rfl) (hin 2 (by decide)) rfl
    ·exact RI.own (kk 3 _ (by decide) rfl) (hin 3 (by decide)) rfl
    ·exact RT.own kU (hin 4 (by decide)) (by simp)
    ·exact RI.own (kk 5 _ (by decide) rfl) (hin 5 (by decide)) rfl
    ·exact RI.own (kk 6 _ (by decide) rfl) (hin 6 (by decide)) rfl
    ·exact RI.own (kk 7 _ (by decide) rfl) (hin 7 (by decide)) rfl
    ·exact RI.own (kk 8 _ (by decide) rfl) (hin 8 (by decide)) rfl
    ·exact RT.own (kk 9 _ (by decide) rfl) (hin 9 (by decide)) rfl
    ·exact RI.own (kk 10 _ (by decide) rfl) (hin 10 (by decide)) rfl
    exact Zb (Zd h17 rfl g17_ok.plain rfl (Za rfl rfl))
   ·have hx:x = { s with s1:={ s.s1 with units:=s.s1.units.set k { u with harm:=now } } }:=hx
    subst hx
    rw[hu] at h23
    have hkl:k < s.s1.units.length:=(List.getElem?_eq_some_iff.1 hk).1
    have hkl2:k < (s.s1.units.set k { u with harm:=now }).length:=by simpa using hkl
    refine Zd h23 rfl g23_ok.plain rfl (Za rfl (Za rfl (Za rfl (Za rfl ?_))))
    refine Qi fun k108 hk108=>?_
    refine Yh (Za rfl (Za rfl (Za rfl (Za (ld t3 rfl) (Za (v:=iv (s.s1.units.set k { u with harm:=now }).length) (rd:=[]) (by simp[Zi]) (Za (QG ..) ?_))))))
    rw[decide_eq_true (by omega)]
    have hUb:hget τ (m + 9)=.rows 4 (s.s1.units.map thC):=kk0 9 _ rfl
    have hUl:m + 9 < τ.length:=by omega
    refine Xe (Xf rfl (Xf rfl (Xf rfl (Qh (ld hM rfl) (Xi _) ?_))))
    refine Xf rfl (Xf rfl (Xf rfl (Qh (ld t3 rfl) (Xi _) ?_)))
    refine Qh (Qo _ thC false false 4 _ .i64 k hkl2) (Xi _) ?_
    rw[show (s.s1.units.set k { u with harm:=now })[k] = { u with harm:=now } by simp]
    refine Xf rfl (Qh (v:=iv now) (rd:=[]) (ldr rfl) (Xi _) ?_)
    refine Qh (v:=.ptr (m + 9) k 0) (rd:=[m + 9]) ?_ (Xi _) ?_
    ·have:=Xa3 τ (m + 9) 0 s.s1.units.length false 4 (s.s1.units.map thC) .i64 k hkl hUb
     rw[Nat.zero_add] at this; exact this
    refine Xf rfl (Qh (Q8 hUb hk _) (Yo _ hUl) ?_)
    refine Yy (by rfl) ?_
    rw[hk108]
    refine Za (ld (Xh t3 (by simp) (by omega)) rfl) (Za (ld (Xh hM (by simp) (by omega)) rfl) ?_)
    have kk:∀ i y,i≠9→(stB s)[i]?=some y→hget (τ.set (m + 9) (.rows 4 ((s.s1.units.set k { u with harm:=now }).map thC))) (m + i)=y:=fun i y hne hy=>by
     have hi:i < 11:=(List.getElem?_eq_some_iff.1 hy).1
     rw[Ym _ (by omega) (by omega)]; exact kk0 i y hy
    have kU:hget (τ.set (m + 9) (.rows 4 ((s.s1.units.set k { u with harm:=now }).map thC))) (m + 9)=.rows 4 ((s.s1.units.set k { u with harm:=now }).map thC):=Qk _ hUl
    refine XC (rd:=List.range' m 11) (c20s { s with s1:={ s.s1 with units:=s.s1.units.set k { u with harm:=now } } } ⟨h9.1,⟨h9.2.1,h9.2.2,h9.2.3,h9.2.4,h9.2.5⟩,⟨h9.3.1,h9.3.2,h9.3.3,by show (s.s1.units.set k _).length≤_; simpa using h9.3.4,h9.3.5⟩⟩) rfl g20_ok.plain (.cons (Bor.ro rfl) <| .cons (SB.agg (SB.mk (s:={ s with s1:={ s.s1 with units:=s.s1.units.set k { u with harm:=now } } }) ?_ ?_ ?_ ?_ ?_ ?_ ?_ ?_ ?_ ?_ ?_)) .nil) rfl ?_
    ·exact RI.own (kk 0 _ (by decide) rfl) (hin 0 (by decide)) rfl
    ·exact RI.own (kk 1 _ (by decide) rfl) (hin 1 (by decide)) rfl
    ·exact RI.own (kk 2 _ (by decide) rfl) (hin 2 (by decide)) rfl
    ·exact RI.own (kk 3 _ (by decide) rfl) (hin 3 (by decide)) rfl
    ·exact RT.own (kk 4 _ (by decide) rfl) (hin 4 (by decide)) rfl
    ·exact RI.own (kk 5 _ (by decide) rfl) (hin 5 (by decide)) rfl
    ·exact RI.own (kk 6 _ (by decide) rfl) (hin 6 (by decide)) rfl
    ·exact RI.own (kk 7 _ (by decide) rfl) (hin 7 (by decide)) rfl
    ·exact RI.own (kk 8 _ (by decide) rfl) (hin 8 (by decide)) rfl
    ·exact RT.own kU (hin 9 (by decide)) (by simp)
    ·exact RI.own (kk 10 _ (by decide) rfl) (hin 10 (by decide)) rfl
    exact Zb (Zd h17 rfl g17_ok.plain rfl (Za rfl rfl))
  refine Xc (fun hqt=>?_) (fun _=>kC _ x g0 g1 g3)
  have hx:=hq hqt
  subst hx
  have h9:StLe 1000000000 s:=hs.mono (by decide)
  refine Za (ld g1 rfl) (ZaW h9 (fun τ m hm1 hm2 hb hM kk0=>?_))
  have t3:=hb _ _ g3
  have hml:m + 11 < τ.length:=by omega
  have hm4:3 < m:=by rw[← hm1]; exact Zt g3 (by simp)
  have hin:∀ i,i < 11→m + i∈List.range' m 11:=fun i hi=>by simp; omega
  refine Za rfl (Za rfl (Za rfl (Za (ld t3 rfl) (Za rfl (Za rfl (Za rfl ?_))))))
  refine Ye (v:=.junk) (rd:=[]) (up:=[(m + 11,.box ((stm s m).set 21 (thV (s.s1.units ++ [⟨s.next,card,0,true⟩]))))]) (stv hM rfl rfl rfl) (Yo _ hml) ?_
  refine Za rfl (Za (ld (Xh t3 (by simp) (by omega)) rfl) (Za rfl ?_))
  refine Ye (v:=.junk) (rd:=[]) (up:=[(m + 11,.box (((stm s m).set 6 (iv (s.next + 1))).set 21 (thV (s.s1.units ++ [⟨s.next,card,0,true⟩]))))]) (stv (Qk _ hml) rfl rfl rfl) (Yo _ (by simpa using hml)) ?_
  rw[List.set_set]
  refine Za (ld (Xh t3 (by simp) (by omega)) rfl) (Za (ld (Qk _ hml) rfl) ?_)
  have kk:∀ i y,(stB s)[i]?=some y→hget (τ.set (m + 11) (.box (((stm s m).set 6 (iv (s.next + 1))).set 21 (thV (s.s1.units ++ [⟨s.next,card,0,true⟩]))))) (m + i)=y:=fun i y hy=>by
   have hi:i < 11:=(List.getElem?_eq_some_iff.1 hy).1
   rw[Ym _ (by omega) (by omega)]; exact kk0 i y hy
  refine XC (rd:=List.range' m 11) (c20s (ZH s 1 card) (XbN s hs card)) rfl g20_ok.plain (.cons (Bor.ro rfl) <| .cons (SB.agg (SB.mk (s:=(ZH s 1 card)) ?_ ?_ ?_ ?_ ?_ ?_ ?_ ?_ ?_ ?_ ?_)) .nil) rfl ?_
  ·exact RI.own (kk 0 _ rfl) (hin 0 (by decide)) rfl
  ·exact RI.own (kk 1 _ rfl) (hin 1 (by decide)) rfl
  ·exact RI.own (kk 2 _ rfl) (hin 2 (by decide)) rfl
  ·exact RI.own (kk 3 _ rfl) (hin 3 (by decide)) rfl
  ·exact RT.own (kk 4 _ rfl) (hin 4 (by decide)) rfl
  ·exact RI.own (kk 5 _ rfl) (hin 5 (by decide)) rfl
  ·exact RI.own (kk 6 _ rfl) (hin 6 (by decide)) rfl
  ·exact RI.own (kk 7 _ rfl) (hin 7 (by decide)) rfl
  ·exact RI.own (kk 8 _ rfl) (hin 8 (by decide)) rfl
  ·exact RT.ro _
  ·exact RI.own (kk 10 _ rfl) (hin 10 (by decide)) rfl
  exact Za rfl (Yh (kC _ _ (Xh (hb _ _ g0) (by simp) (by omega)) (Xh (hb _ _ g1) (by simp) (by omega)) (Xh t3 (by simp) (by omega))))
 refine Xc (fun he=>?_) (fun _=>kB _ x rfl rfl rfl)
 have he:e=0:=by simpa using he
 obtain⟨hx,hle⟩:=hap he
 have hx:x = { s with s1:=x.s1,s0:=if ev.kind=4 then { s.s0 with told:=s.s0.told ++ [ev.card] } else s.s0 }:=hx
 have h9:StLe 1000000000 s:=hs.mono (by decide)
 refine Za rfl (w19 h9 ?_)
 refine Ye (v:=.bptr 16 0) (rd:=[]) (up:=[(16,.box zStC)]) rfl rfl ?_
 refine Ye (v:=.junk) (rd:=[]) (up:=[(16,.box (st5 s))]) rfl rfl ?_
 refine Za rfl (Za rfl (Za rfl (Za rfl (Za rfl ?_))))
 refine Ye (v:=.junk) (rd:=[]) (up:=[(16,.box (sx1 s x))]) rfl rfl ?_
 refine Za rfl (Za rfl (Za (Zg ..) ?_))
 refine Qi fun k41 hk41=>?_
 refine Xc (fun hk=>?_) (fun hk=>?_)
 ·have hk:ev.kind=4:=by simpa using hk
  rw[if_pos hk] at hx
  refine Xf rfl (Xf rfl (Xf rfl (Xf rfl (Xf rfl (Qh (ld (row:=(sx1 s x)) rfl rfl) (Xi _) ?_)))))
  refine Xf rfl (Qh (ld (row:=evC ev) rfl rfl) (Xi _) ?_)
  refine Qh (v:=.sl 17 0 1 true) (rd:=[]) (up:=[(17,.rows 1 [cel ev.card])]) rfl rfl ?_
  refine Qh (v:=.sl 18 0 (s.s0.told.length + 1) false) (rd:=[17]) (up:=[(10,.dead),(18,.rows 1 ((s.s0.told ++ [ev.card]).map cel))]) ?_ rfl ?_
  ·have:=XJ 1 8 (σ:=((cpB b s x ev).append [.box (sx1 s x),.rows 1 [cel ev.card]])) (b:=10) (c:=17) (len:=s.s0.told.length) (ex:=false) (rs:=s.s0.told.map cel) (row:=cel ev.card) rfl rfl (by simp) rfl (by have:=hs.s0.told; omega)
   rw[show (s.s0.told ++ [ev.card]).map cel=s.s0.told.map cel ++ [cel ev.card] by simp]; exact this
  refine Xf rfl (Xf rfl (Xf rfl (Qh (v:=.junk) (rd:=[]) (up:=[(16,.box ((sx1 s x).set 14 (.sl 18 0 (s.s0.told.length + 1) false)))]) rfl rfl ?_)))
  refine Yy (by kernel_rfl) ?_
  rw[hk41]
  refine Za (ld (row:=stC x) rfl rfl) (Za (ld (row:=((sx1 s x).set 14 (.sl 18 0 (s.s0.told.length + 1) false))) rfl rfl) ?_)
  have hcall:=c20s x hle
  have hB:SB ((((cpB b s x ev).set 10 .dead).append [.box ((sx1 s x).set 14 (.sl 18 0 (s.s0.told.length + 1) false)),.rows 1 [cel ev.card],.rows 1 ((s.s0.told ++ [ev.card]).map cel)])) (List.range 19) ((sx1 s x).set 14 (.sl 18 0 (s.s0.told.length + 1) false)) ({ s with s1:=x.s1,s0:={ s.s0 with told:=s.s0.told ++ [ev.card] } }):=by
   refine SB.mk (rd:=List.range 19) (s:={ s with s1:=x.s1,s0:={ s.s0 with told:=s.s0.told ++ [ev.card] } }) ?_ ?_ ?_ ?_ ?_ ?_ ?_ ?_ ?_ ?_ ?_ <;> first | exact RI.own rfl (by decide) rfl | exact RI.own rfl (by decide) (by simp) | exact RT.own rfl (by decide) rfl | exact RT.ro _ | exact RI.ro _
  have hB2:SB ((((cpB b s x ev).set 10 .dead).append [.box ((sx1 s x).set 14 (.sl 18 0 (s.s0.told.length + 1) false)),.rows 1 [cel ev.card],.rows 1 ((s.s0.told ++ [ev.card]).map cel)])) (List.range 19) ((sx1 s x).set 14 (.sl 18 0 (s.s0.told.length + 1) false)) x:=SB.cast hx hB
  refine XC (rd:=List.range 19) hcall rfl g20_ok.plain (.cons (Bor.ro rfl) <| .cons (SB.agg hB2) .nil) rfl ?_
  exact Za rfl (Yh (kB _ x rfl rfl rfl))
 ·have hk:¬ ev.kind=4:=by simpa using hk
  rw[if_neg hk] at hx
  rw[hk41]
  refine Za (ld (row:=stC x) rfl rfl) (Za (ld (row:=(sx1 s x)) rfl rfl) ?_)
  have hcall:=c20s x hle
  have hB:SB (((cpB b s x ev).append [.box (sx1 s x)])) (List.range 17) (sx1 s x) ({ s with s1:=x.s1 }):=by
   refine SB.mk (rd:=List.range 17) (s:={ s with s1:=x.s1 }) ?_ ?_ ?_ ?_ ?_ ?_ ?_ ?_ ?_ ?_ ?_ <;> first | exact RI.own rfl (by decide) rfl | exact RI.own rfl (by decide) (by simp) | exact RT.own rfl (by decide) rfl | exact RT.ro _ | exact RI.ro _
  have hB2:SB (((cpB b s x ev).append [.box (sx1 s x)])) (List.range 17) (sx1 s x) x:=SB.cast hx hB
  refine XC (rd:=List.range 17) hcall rfl g20_ok.plain (.cons (Bor.ro rfl) <| .cons (SB.agg hB2) .nil) rfl ?_
  exact Za rfl (Yh (kB _ x rfl rfl rfl))
end Go.Ah.Tz
end
section
namespace Go.Ah.Tz
open Go.Proofs.Tryz (prog)
attribute [local irreducible] Ans.rd Ans.pu Ans.wr Ans.dr Ans.gr Ans.gw Ans.gl Ans.gd Ans.opt joinK W
set_option maxHeartbeats 8000000
theorem c3_n(h17:PCall prog GL0 17 [] (.bool true))(b:Bk)(hf:bkFit b=true)(s:St)(hs:StLe 2000000 s)(h67:PCall prog GL0 67 [bkV b] (.agg [iv (bkR b).1,iv (bkR b).2]))(side card id n:Int)(hsd:side < 0∨1 < side):PCall prog GL0 3 [bkV b,stV s,iv side,iv card,iv id,iv n] (.bool true):=by
 refine Zf hP g3_ok rfl rfl ?_
 unfold g3
 refine Ye (v:=.bptr 0 0) (rd:=[]) (up:=[(0,.box (bkC b))]) (σ':=[.box (bkC b)]) rfl rfl ?_
 refine Ye (v:=.bptr 1 0) (rd:=[]) (up:=[(1,.box (stC s))]) (σ':=[.box (bkC b),.box (stC s)]) rfl rfl ?_
 refine Za rfl ?_
 refine Zu hP rfl g14_ok rfl (c14 b hf _ _ (fun q=>?_))
 have hend:∀ σ,(W prog GL0).call (.call 17) [] σ fun t44_18 σ=>(fun (v':AVal) (_:List ABlk)=>v'=.bool true) t44_18 σ:=fun σ=>Zd h17 rfl g17_ok.plain rfl rfl
 cases q with
 | true=>
  refine Yb rfl (Yc rfl (Za rfl (Yb rfl (Yb rfl (Yc rfl (Yb rfl (Za rfl ?_)))))))
  exact Yb rfl (Yb rfl (Za rfl (Yb rfl (Yb rfl (Za rfl (Xe (hend _)))))))
 | false=>
 refine Xa (Za rfl (Zb ?_))
 obtain⟨q,h15⟩:=c15 s
 refine Zd h15 rfl g15_ok.plain rfl ?_
 cases q with
 | true=>
  refine Za rfl (Yb rfl (Yb rfl (Yc rfl (Yb rfl (Za rfl ?_)))))
  exact Yb rfl (Yb rfl (Za rfl (Yb rfl (Yb rfl (Za rfl (Xe (hend _)))))))
 | false=>
 refine Za rfl (Xa (Za rfl (Xa (Za rfl (Zb ?_)))))
 refine Zd (c16 b s (hs.mono (by decide)) _ _ h67) rfl g16_ok.plain rfl ?_
 rcases Bool.eq_false_or_eq_true (mayR (bkR b).1 b s false) with hm0 | hm0
 rotate_left
 ·rw[hm0]
  refine Xa (Za rfl (Za rfl ?_))
  exact Yb rfl (Yb rfl (Za rfl (Yb rfl (Yb rfl (Za rfl (Xe (hend _)))))))
 rw[hm0]
 refine Xa (Za rfl (Za rfl ?_))
 refine XH (c:=false) (fun _=>rfl) (fun _=>QG ..) ?_
 refine XH (fun _=>rfl) (fun _=>X1 ..) ?_
 rw[show (false || decide (side < 0) || decide (1 < side))=true by simp; omega]
 exact Xe (hend _)
theorem c3(h17:PCall prog GL0 17 [] (.bool true))(b:Bk)(hf:bkFit b=true)(hsm:Yt b.cards)(s:St)(hs:StLe 2000000 s)(side card id n:Int):PCall prog GL0 3 [bkV b,stV s,iv side,iv card,iv id,iv n] (.bool true):=by
 have h67:=c67 b hf
 by_cases h0:side=0
 ·subst h0; exact c3_0 h17 b hf hsm s hs h67 card id n
 by_cases h1:side=1
 ·subst h1; exact c3_1 h17 b hf hsm s hs h67 card id n
 exact c3_n h17 b hf s hs h67 side card id n (by omega)
end Go.Ah.Tz
end
section
namespace Go.Ah.Tz
open Go.Proofs.Tryz (prog)
open Go.Proofs.YtflcpnaigpgciaaGreatDoor.Rows (uptoBulk uptoBulkAll)
variable {H:Type}
theorem XM(b:List UInt8):uptoBulk (DataW.lit (H:=H) (.string b))=b.length + 1:=by simp only[uptoBulk]
theorem YJ(ds:List (DataW H)):uptoBulk (.agg ds)=uptoBulkAll ds + 1:=by simp only[uptoBulk]
theorem Qct(es sp:List (DataW H)):uptoBulk (.slice es sp)=uptoBulkAll es + uptoBulkAll sp + 1:=by simp only[uptoBulk]
theorem Zy(d:DataW H)(ds:List (DataW H)):uptoBulkAll (d :: ds)=uptoBulk d + uptoBulkAll ds:=by simp only[uptoBulkAll]
theorem Zch(d:DataW H):1≤uptoBulk d:=by
 cases d with
 | lit l=>cases l <;> simp[uptoBulk]
 | _=>simp[uptoBulk]
def Xs(P:Program)(t:TypeId):Option (List TypeId):=match P.underlying t with
 | some (.struct fs)=>some (fs.toList.map (·.type))
 | _=>none
theorem YH{P:Program}{fuel:Nat}{t:TypeId}{xs:List AVal}{d:DataW H}{ts:List TypeId}(h:Typed P fuel t xs d)(hs:Xs P t=some ts):∃ f parts ds,fuel=f + 1∧xs=parts.flatten∧d=.agg ds∧Tri (Typed P f) ts parts ds:=by
 cases fuel with
 | zero=>exact h.elim
 | succ f=>
  unfold Typed at h
  unfold Xs at hs
  split at hs
  ·rename_i fs e
   rw[e] at h
   cases hs
   obtain⟨parts,ds,h1,h2,h3⟩:=h
   exact⟨f,parts,ds,rfl,h1,h2,h3⟩
  ·cases hs
theorem Yv{P:Program}{fuel:Nat}{t:TypeId}{xs:List AVal}{d:DataW H}{k:IntKind}(h:Typed P fuel t xs d)(hu:P.underlying t=some (.int k)):∃ n,xs=[.int k n]∧(Lit.int k n).wf=true∧d=.lit (.int k n):=by
 cases fuel with
 | zero=>exact h.elim
 | succ f=>unfold Typed at h; rw[hu] at h; exact h
theorem Zbf{P:Program}{fuel:Nat}{t:TypeId}{xs:List AVal}{d:DataW H}(h:Typed P fuel t xs d)(hu:P.underlying t=some .bool):∃ b,xs=[.bool b]∧d=.lit (.bool b):=by
 cases fuel with
 | zero=>exact h.elim
 | succ f=>unfold Typed at h; rw[hu] at h; exact h
theorem Qa1{P:Program}{fuel:Nat}{t:TypeId}{xs:List AVal}{d:DataW H}(h:Typed P fuel t xs d)(hu:P.underlying t=some .string):∃ s,xs=[.str s]∧d=.lit (.string s):=by
 cases fuel with
 | zero=>exact h.elim
 | succ f=>unfold Typed at h; rw[hu] at h; exact h
theorem QbS{P:Program}{fuel:Nat}{e:TypeId}{X:Type}(toC:X→List AVal)(m:X→Nat)(Q:X→Prop){B:Nat}(hx:∀ xs (d:DataW H),Typed P fuel e xs d→uptoBulk d≤B→∃ x,xs=toC x∧Q x∧m x≤uptoBulk d) :
  ∀ {rows:List (List AVal)} {es:List (DataW H)},Two (Typed P fuel e) rows es→uptoBulkAll es≤B→∃ l:List X,rows=l.map toC∧(∀ x∈l,Q x)∧(l.map m).sum≤uptoBulkAll es∧l.length≤uptoBulkAll es
 | [],[],_,_=>⟨[],rfl,by simp,by simp,by simp⟩
 | r :: rows,d :: es,h,hb=>by
  rw[Zy] at hb
  obtain⟨x,e1,q1,m1⟩:=hx r d h.1 (by omega)
  obtain⟨l,e2,q2,s2,l2⟩:=QbS toC m Q hx h.2 (by omega)
  refine⟨x :: l,by rw[e1,e2]; rfl,fun y hy=>?_,?_,?_⟩
  ·rcases List.mem_cons.1 hy with rfl | hy
   ·exact q1
   ·exact q2 y hy
  ·rw[List.map_cons,List.sum_cons,Zy]; omega
  ·have:=Zch d
   rw[List.length_cons,Zy]; omega
 | [],_ :: _,h,_=>h.elim
 | _ :: _,[],h,_=>h.elim
theorem XE{P:Program}{fuel:Nat}{t e:TypeId}{n:Nat}{xs:List AVal}{d:DataW H}{X:Type}(toC:X→List AVal)(m:X→Nat)(Q:X→Prop){B:Nat}(h:Typed P fuel t xs d)(hu:P.underlying t=some (.slice e))(hn:P.cellsOf e=n)
 (hx:∀ f,f < fuel→∀ xs (d:DataW H),Typed P f e xs d→uptoBulk d≤B→∃ x,xs=toC x∧Q x∧m x≤uptoBulk d)(hb:uptoBulk d≤B) :
  ∃ l:List X,xs=[.rsl false false n (l.map toC)]∧(∀ x∈l,Q x)∧(l.map m).sum≤uptoBulk d∧l.length≤uptoBulk d:=by
 cases fuel with
 | zero=>exact h.elim
 | succ f=>
  unfold Typed at h
  rw[hu] at h
  subst hn
  obtain⟨rows,rfl,⟨rfl,rfl⟩ | ⟨es,sp,rfl,h2⟩⟩:=h
  ·exact⟨[],rfl,by simp,by simp,by simp⟩
  ·rw[Qct] at hb ⊢
   obtain⟨l,rfl,q,s,k⟩:=QbS toC m Q (hx f (by omega)) h2 (by omega)
   exact⟨l,rfl,q,by omega,by omega⟩
theorem Zcu{P:Program}{fuel:Nat}{t e:TypeId}{xs:List AVal}{d:DataW H}(h:Typed P fuel t xs d)(hu:P.underlying t=some (.array 2 e)):∃ f p q a b,fuel=f + 1∧xs=p ++ q∧d=.agg [a,b]∧Typed P f e p a∧Typed P f e q b:=by
 cases fuel with
 | zero=>exact h.elim
 | succ f=>
  unfold Typed at h
  rw[hu] at h
  obtain⟨parts,ds,rfl,rfl,hl,h2⟩:=h
  match parts,hl,h2 with
  | [p,q],_,h2=>
   obtain⟨a,ds,rfl,ha,h2⟩:=h2.cons
   obtain⟨b,ds,rfl,hb,h2⟩:=h2.cons
   match ds,h2 with
   | [],_=>exact⟨f,p,q,a,b,rfl,by simp,rfl,ha,hb⟩
theorem wf8{n:Int}(h:(Lit.int .i8 n).wf=true):i8B n=true:=by
 have h1:IntKind.i8.min = -128:=by decide
 have h2:IntKind.i8.max=127:=by decide
 simp only[Lit.wf,h1,h2] at h
 exact h
theorem wf64{n:Int}(h:(Lit.int .i64 n).wf=true):i64B n=true:=by
 have h1:IntKind.i64.min = -9223372036854775808:=by decide
 have h2:IntKind.i64.max=9223372036854775807:=by decide
 simp only[Lit.wf,h1,h2] at h
 exact h
theorem Qa0{l:List Nm}(h:∀ x∈l,nmFit x=true):ZaD l=true:=by
 induction l with
 | nil=>rfl
 | cons x l ih=>simp only[ZaD,Bool.and_eq_true]; exact⟨h x (List.mem_cons_self ..),ih fun y hy=>h y (List.mem_cons_of_mem _ hy)⟩
theorem YbW{l:List Cn}(h:∀ x∈l,cnFit x=true):YaN l=true:=by
 induction l with
 | nil=>rfl
 | cons x l ih=>simp only[YaN,Bool.and_eq_true]; exact⟨h x (List.mem_cons_self ..),ih fun y hy=>h y (List.mem_cons_of_mem _ hy)⟩
theorem YaD{l:List Ef}(h:∀ x∈l,efFit x=true):Qan l=true:=by
 induction l with
 | nil=>rfl
 | cons x l ih=>simp only[Qan,Bool.and_eq_true]; exact⟨h x (List.mem_cons_self ..),ih fun y hy=>h y (List.mem_cons_of_mem _ hy)⟩
theorem YaW:∀ l:List Nm,(nmPs l).length=(l.map fun x=>(nmP x).length).sum
 | []=>rfl
 | x :: l=>by simp only[nmPs,List.length_append,List.map_cons,List.sum_cons,YaW l]
theorem Ybm:∀ l:List Cn,(cnPs l).length=(l.map fun x=>(cnP x).length).sum
 | []=>rfl
 | x :: l=>by simp only[cnPs,List.length_append,List.map_cons,List.sum_cons,Ybm l]
theorem Qat:∀ l:List Ef,(efPs l).length=(l.map fun x=>(efP x).length).sum
 | []=>rfl
 | x :: l=>by simp only[efPs,List.length_append,List.map_cons,List.sum_cons,Qat l]
theorem bigLe{n k:Nat}(h:n≤k)(hk:k≤1048576):decide (n≤big)=true:=decide_eq_true (Nat.le_trans h (Nat.le_trans hk (by decide)))
abbrev Zb6:TypeId:=26
abbrev Xy:TypeId:=3
abbrev Xba:TypeId:=4
abbrev YaR:TypeId:=9
abbrev Qcv:TypeId:=64
abbrev Zb9:TypeId:=62
abbrev Xcv:TypeId:=137
abbrev Zcv:TypeId:=135
abbrev Qcx:TypeId:=192
abbrev Ya6:TypeId:=80
abbrev QcB:TypeId:=82
abbrev Zcp:TypeId:=22
abbrev Xcy:TypeId:=96
abbrev Ycq:TypeId:=23
abbrev Qcb:TypeId:=94
abbrev XbQ:TypeId:=25
abbrev ZcB:TypeId:=51
abbrev Qcn:TypeId:=28
abbrev Xan:TypeId:=27
abbrev QcF:TypeId:=30
abbrev Ycp:TypeId:=31
abbrev ZbR:TypeId:=33
theorem Zcj:prog.underlying Zb6=some (.int .i8):=by kernel_rfl
theorem XR:prog.underlying Xy=some (.int .i64):=by kernel_rfl
theorem Ya8:prog.underlying Xba=some .bool:=by kernel_rfl
theorem YbH:prog.underlying YaR=some .string:=by kernel_rfl
theorem ZcC:prog.underlying Zb9=some (.slice Qcv):=by kernel_rfl
theorem u_cns:prog.underlying Zcv=some (.slice Xcv):=by kernel_rfl
theorem Ycn:prog.underlying Ya6=some (.slice Qcx):=by kernel_rfl
theorem u_cds:prog.underlying Zcp=some (.slice QcB):=by kernel_rfl
theorem u_fos:prog.underlying Ycq=some (.slice Xcy):=by kernel_rfl
theorem YcD:prog.underlying Qcb=some (.slice YaR):=by kernel_rfl
theorem u_ths:prog.underlying Qcn=some (.slice ZcB):=by kernel_rfl
theorem XcB:prog.underlying Xan=some (.slice Xy):=by kernel_rfl
theorem u_sds:prog.underlying Ycp=some (.array 2 QcF):=by kernel_rfl
theorem n_nm:prog.cellsOf Qcv=4:=by kernel_rfl
theorem n_cn:prog.cellsOf Xcv=5:=by kernel_rfl
theorem n_ef:prog.cellsOf Qcx=14:=by kernel_rfl
theorem n_cd:prog.cellsOf QcB=12:=by kernel_rfl
theorem n_fo:prog.cellsOf Xcy=7:=by kernel_rfl
theorem Qcy:prog.cellsOf YaR=1:=by kernel_rfl
theorem n_th:prog.cellsOf ZcB=4:=by kernel_rfl
theorem n_int:prog.cellsOf Xy=1:=by kernel_rfl
theorem s_nm:Xs prog Qcv=some [Zb6,Xy,Zb6,Zb9]:=by kernel_rfl
theorem s_cn:Xs prog Xcv=some [Zb6,Zb6,YaR,Zb9,Zcv]:=by kernel_rfl
theorem s_ef:Xs prog Qcx=some [Zb6,Zb6,Qcv,YaR,Xcv,Ya6,Ya6]:=by kernel_rfl
theorem s_cd:Xs prog QcB=some [YaR,Xba,Xy,Xy,Xy,Xy,Xy,Xy,Ya6,Ya6,Ya6,Xy]:=by kernel_rfl
theorem s_fo:Xs prog Xcy=some [YaR,Xy,Xy,Xy,Qcb,Qcb,Xy]:=by kernel_rfl
theorem s_bk:Xs prog XbQ=some [Zcp,Ycq]:=by kernel_rfl
theorem s_th:Xs prog ZcB=some [Xy,Xy,Xy,Xba]:=by kernel_rfl
theorem s_sd:Xs prog QcF=some [Xy,Xy,Xy,Xan,Xan,Xan,Qcn,Xan]:=by kernel_rfl
theorem s_st:Xs prog ZbR=some [Xy,Xy,Zb6,Xba,Zb6,Xan,Xy,Ycp]:=by kernel_rfl
theorem Qcw(fuel:Nat):∀ xs (d:DataW H),Typed prog fuel Qcv xs d→uptoBulk d≤1048576→∃ x,xs=nmC x∧nmFit x=true∧(nmP x).length≤uptoBulk d:=by
 induction fuel using Nat.strongRecOn with
 | _ fuel ih=>
 intro xs d h hb
 obtain⟨f,parts,ds,rfl,rfl,rfl,r⟩:=YH h s_nm
 obtain⟨p0,parts,d0,ds,rfl,rfl,h0,r⟩:=r.cons
 obtain⟨p1,parts,d1,ds,rfl,rfl,h1,r⟩:=r.cons
 obtain⟨p2,parts,d2,ds,rfl,rfl,h2,r⟩:=r.cons
 obtain⟨p3,parts,d3,ds,rfl,rfl,h3,r⟩:=r.cons
 obtain⟨rfl,rfl⟩:=r.nil
 obtain⟨v0,rfl,w0,rfl⟩:=Yv h0 Zcj
 obtain⟨v1,rfl,w1,rfl⟩:=Yv h1 XR
 obtain⟨v2,rfl,w2,rfl⟩:=Yv h2 Zcj
 simp only[YJ,Zy,XM] at hb ⊢
 obtain⟨l,rfl,q,s,k⟩:=XE nmC (fun x=>(nmP x).length) (fun x=>nmFit x=true) h3 ZcC n_nm (fun f' hf=>ih f' (by omega)) (show uptoBulk d3≤1048576 by omega)
 refine⟨.mk v0 v1 v2 l,by rw[QD]; rfl,?_,?_⟩
 ·simp only[nmFit,bigLe k (show uptoBulk d3≤1048576 by omega),Qa0 q,wf8 w0,wf64 w1,Bool.and_self]
 ·simp only[nmP,List.length_cons,YaW]; omega
theorem ty_cn(fuel:Nat):∀ xs (d:DataW H),Typed prog fuel Xcv xs d→uptoBulk d≤1048576→∃ x,xs=cnC x∧cnFit x=true∧(cnP x).length≤uptoBulk d:=by
 induction fuel using Nat.strongRecOn with
 | _ fuel ih=>
 intro xs d h hb
 obtain⟨f,parts,ds,rfl,rfl,rfl,r⟩:=YH h s_cn
 obtain⟨p0,parts,d0,ds,rfl,rfl,h0,r⟩:=r.cons
 obtain⟨p1,parts,d1,ds,rfl,rfl,h1,r⟩:=r.cons
 obtain⟨p2,parts,d2,ds,rfl,rfl,h2,r⟩:=r.cons
 obtain⟨p3,parts,d3,ds,rfl,rfl,h3,r⟩:=r.cons
 obtain⟨p4,parts,d4,ds,rfl,rfl,h4,r⟩:=r.cons
 obtain⟨rfl,rfl⟩:=r.nil
 obtain⟨v0,rfl,w0,rfl⟩:=Yv h0 Zcj
 obtain⟨v1,rfl,w1,rfl⟩:=Yv h1 Zcj
 obtain⟨v2,rfl,rfl⟩:=Qa1 h2 YbH
 simp only[YJ,Zy,XM] at hb ⊢
 obtain⟨l,rfl,q,s,k⟩:=XE nmC (fun x=>(nmP x).length) (fun x=>nmFit x=true) h3 ZcC n_nm (fun f' _=>Qcw f') (show uptoBulk d3≤1048576 by omega)
 obtain⟨l2,rfl,q2,s2,k2⟩:=XE cnC (fun x=>(cnP x).length) (fun x=>cnFit x=true) h4 u_cns n_cn (fun f' hf=>ih f' (by omega)) (show uptoBulk d4≤1048576 by omega)
 refine⟨.mk v0 v1 v2 l l2,by rw[QL]; rfl,?_,?_⟩
 ·simp only[cnFit,bigLe k (show uptoBulk d3≤1048576 by omega),Qa0 q,bigLe k2 (show uptoBulk d4≤1048576 by omega),YbW q2,wf8 w0,Bool.and_self]
 ·simp only[cnP,List.length_cons,List.length_append,YaW,Ybm]; omega
theorem ty_ef(fuel:Nat):∀ xs (d:DataW H),Typed prog fuel Qcx xs d→uptoBulk d≤1048576→∃ x,xs=efC x∧efFit x=true∧(efP x).length≤uptoBulk d:=by
 induction fuel using Nat.strongRecOn with
 | _ fuel ih=>
 intro xs d h hb
 obtain⟨f,parts,ds,rfl,rfl,rfl,r⟩:=YH h s_ef
 obtain⟨p0,parts,d0,ds,rfl,rfl,h0,r⟩:=r.cons
 obtain⟨p1,parts,d1,ds,rfl,rfl,h1,r⟩:=r.cons
 obtain⟨p2,parts,d2,ds,rfl,rfl,h2,r⟩:=r.cons
 obtain⟨p3,parts,d3,ds,rfl,rfl,h3,r⟩:=r.cons
 obtain⟨p4,parts,d4,ds,rfl,rfl,h4,r⟩:=r.cons
 obtain⟨p5,parts,d5,ds,rfl,rfl,h5,r⟩:=r.cons
 obtain⟨p6,parts,d6,ds,rfl,rfl,h6,r⟩:=r.cons
 obtain⟨rfl,rfl⟩:=r.nil
 obtain⟨v0,rfl,w0,rfl⟩:=Yv h0 Zcj
 obtain⟨v1,rfl,w1,rfl⟩:=Yv h1 Zcj
 obtain⟨v3,rfl,rfl⟩:=Qa1 h3 YbH
 simp only[YJ,Zy,XM] at hb ⊢
 obtain⟨n,rfl,qn,kn⟩:=Qcw _ _ _ h2 (by omega)
 obtain⟨c,rfl,qc,kc⟩:=ty_cn _ _ _ h4 (by omega)
 obtain⟨l,rfl,q,s,k⟩:=XE efC (fun x=>(efP x).length) (fun x=>efFit x=true) h5 Ycn n_ef (fun f' hf=>ih f' (by omega)) (show uptoBulk d5≤1048576 by omega)
 obtain⟨l2,rfl,q2,s2,k2⟩:=XE efC (fun x=>(efP x).length) (fun x=>efFit x=true) h6 Ycn n_ef (fun f' hf=>ih f' (by omega)) (show uptoBulk d6≤1048576 by omega)
 refine⟨.mk v0 v1 n v3 c l l2,by rw[XF,QD,QL]; rfl,?_,?_⟩
 ·simp only[efFit,qn,qc,bigLe k (show uptoBulk d5≤1048576 by omega),YaD q,bigLe k2 (show uptoBulk d6≤1048576 by omega),YaD q2,wf8 w0,Bool.and_self]
 ·have e1:(if cntOp v0 then nmP n else []).length≤(nmP n).length:=by split <;> simp
  have e2:(if v0=8 then cnP c ++ (efPs l ++ efPs l2) else []).length≤(cnP c).length + (efPs l).length + (efPs l2).length:=by
   split
   ·simp only[List.length_append]; omega
   ·simp
  rw[Qat,Qat] at e2
  simp only[efP,List.length_cons,List.length_append]
  omega
theorem ZbJ{fuel:Nat}{xs:List AVal}{d:DataW H}(h:Typed prog fuel Ya6 xs d)(hb:uptoBulk d≤1048576):∃ l,xs=[efV l]∧lsFit l=true∧(efPs l).length≤uptoBulk d:=by
 obtain⟨l,rfl,q,s,k⟩:=XE efC (fun x=>(efP x).length) (fun x=>efFit x=true) h Ycn n_ef (fun f' _=>ty_ef f') hb
 exact⟨l,rfl,by simp only[lsFit,bigLe k hb,YaD q,Bool.and_self],by rw[Qat]; exact s⟩
theorem ty_cd(fuel:Nat)(xs:List AVal)(d:DataW H)(h:Typed prog fuel QcB xs d)(hb:uptoBulk d≤1048576):∃ x,xs=cdC x∧(cdFit x=true∧(cdP x).length≤1048576)∧0≤uptoBulk d:=by
 obtain⟨f,parts,ds,rfl,rfl,rfl,r⟩:=YH h s_cd
 obtain⟨p0,parts,d0,ds,rfl,rfl,h0,r⟩:=r.cons
 obtain⟨p1,parts,d1,ds,rfl,rfl,h1,r⟩:=r.cons
 obtain⟨p2,parts,d2,ds,rfl,rfl,h2,r⟩:=r.cons
 obtain⟨p3,parts,d3,ds,rfl,rfl,h3,r⟩:=r.cons
 obtain⟨p4,parts,d4,ds,rfl,rfl,h4,r⟩:=r.cons
 obtain⟨p5,parts,d5,ds,rfl,rfl,h5,r⟩:=r.cons
 obtain⟨p6,parts,d6,ds,rfl,rfl,h6,r⟩:=r.cons
 obtain⟨p7,parts,d7,ds,rfl,rfl,h7,r⟩:=r.cons
 obtain⟨p8,parts,d8,ds,rfl,rfl,h8,r⟩:=r.cons
 obtain⟨p9,parts,d9,ds,rfl,rfl,h9,r⟩:=r.cons
 obtain⟨p10,parts,d10,ds,rfl,rfl,h10,r⟩:=r.cons
 obtain⟨p11,parts,d11,ds,rfl,rfl,h11,r⟩:=r.cons
 obtain⟨rfl,rfl⟩:=r.nil
 obtain⟨v0,rfl,rfl⟩:=Qa1 h0 YbH
 obtain⟨v1,rfl,rfl⟩:=Zbf h1 Ya8
 obtain⟨v2,rfl,w2,rfl⟩:=Yv h2 XR
 obtain⟨v3,rfl,w3,rfl⟩:=Yv h3 XR
 obtain⟨v4,rfl,w4,rfl⟩:=Yv h4 XR
 obtain⟨v5,rfl,w5,rfl⟩:=Yv h5 XR
 obtain⟨v6,rfl,w6,rfl⟩:=Yv h6 XR
 obtain⟨v7,rfl,w7,rfl⟩:=Yv h7 XR
 obtain⟨v11,rfl,w11,rfl⟩:=Yv h11 XR
 simp only[YJ,Zy,XM] at hb ⊢
 obtain⟨a,rfl,qa,ka⟩:=ZbJ h8 (by omega)
 obtain⟨b,rfl,qb,kb⟩:=ZbJ h9 (by omega)
 obtain⟨c,rfl,qc,kc⟩:=ZbJ h10 (by omega)
 refine⟨⟨v0,v1,v2,v3,v4,v5,v6,v7,a,b,c,v11⟩,rfl,⟨?_,?_⟩,by omega⟩
 ·simp only[cdFit,bigLe (Nat.le_refl v0.length) (by omega),qa,qb,qc,Bool.and_self]
 ·simp only[cdP,List.length_append]; omega
theorem Xcz(fuel:Nat)(xs:List AVal)(d:DataW H)(h:Typed prog fuel YaR xs d)(_:uptoBulk d≤1048576):∃ x,xs=txC x∧True∧0≤uptoBulk d:=by
 obtain⟨s,rfl,rfl⟩:=Qa1 h YbH
 exact⟨s,rfl,trivial,by omega⟩
theorem ty_fo(fuel:Nat)(xs:List AVal)(d:DataW H)(h:Typed prog fuel Xcy xs d)(hb:uptoBulk d≤1048576):∃ x,xs=foC x∧foFit x=true∧0≤uptoBulk d:=by
 obtain⟨f,parts,ds,rfl,rfl,rfl,r⟩:=YH h s_fo
 obtain⟨p0,parts,d0,ds,rfl,rfl,h0,r⟩:=r.cons
 obtain⟨p1,parts,d1,ds,rfl,rfl,h1,r⟩:=r.cons
 obtain⟨p2,parts,d2,ds,rfl,rfl,h2,r⟩:=r.cons
 obtain⟨p3,parts,d3,ds,rfl,rfl,h3,r⟩:=r.cons
 obtain⟨p4,parts,d4,ds,rfl,rfl,h4,r⟩:=r.cons
 obtain⟨p5,parts,d5,ds,rfl,rfl,h5,r⟩:=r.cons
 obtain⟨p6,parts,d6,ds,rfl,rfl,h6,r⟩:=r.cons
 obtain⟨rfl,rfl⟩:=r.nil
 obtain⟨v0,rfl,rfl⟩:=Qa1 h0 YbH
 obtain⟨v1,rfl,w1,rfl⟩:=Yv h1 XR
 obtain⟨v2,rfl,w2,rfl⟩:=Yv h2 XR
 obtain⟨v3,rfl,w3,rfl⟩:=Yv h3 XR
 obtain⟨v6,rfl,w6,rfl⟩:=Yv h6 XR
 simp only[YJ,Zy,XM] at hb ⊢
 obtain⟨a,rfl,_,_,ka⟩:=XE txC (fun _=>0) (fun _=>True) h4 YcD Qcy (fun f' _=>Xcz f') (show uptoBulk d4≤1048576 by omega)
 obtain⟨b,rfl,_,_,kb⟩:=XE txC (fun _=>0) (fun _=>True) h5 YcD Qcy (fun f' _=>Xcz f') (show uptoBulk d5≤1048576 by omega)
 refine⟨⟨v0,v1,v2,v3,a,b,v6⟩,rfl,?_,by omega⟩
 simp only[foFit,bigLe (Nat.le_refl v0.length) (by omega),bigLe ka (show uptoBulk d4≤1048576 by omega),bigLe kb (show uptoBulk d5≤1048576 by omega),Bool.and_self]
theorem ty_bk{fuel:Nat}{xs:List AVal}{d:DataW H}(h:Typed prog fuel XbQ xs d)(hb:uptoBulk d≤1048576):∃ x,xs=bkC x∧bkFit x=true∧Yt x.cards:=by
 obtain⟨f,parts,ds,rfl,rfl,rfl,r⟩:=YH h s_bk
 obtain⟨p0,parts,d0,ds,rfl,rfl,h0,r⟩:=r.cons
 obtain⟨p1,parts,d1,ds,rfl,rfl,h1,r⟩:=r.cons
 obtain⟨rfl,rfl⟩:=r.nil
 simp only[YJ,Zy,XM] at hb ⊢
 obtain⟨a,rfl,q,_,k⟩:=XE cdC (fun _=>0) (fun x=>cdFit x=true∧(cdP x).length≤1048576) h0 u_cds n_cd (fun f' _=>ty_cd f') (show uptoBulk d0≤1048576 by omega)
 obtain⟨b,rfl,q2,_,k2⟩:=XE foC (fun _=>0) (fun x=>foFit x=true) h1 u_fos n_fo (fun f' _=>ty_fo f') (show uptoBulk d1≤1048576 by omega)
 refine⟨⟨a,b⟩,rfl,?_,fun c hc=>Nat.le_trans (q c hc).2 (by decide)⟩
 simp only[bkFit,ZM,bigLe k (show uptoBulk d0≤1048576 by omega),bigLe k2 (show uptoBulk d1≤1048576 by omega),Bool.true_and,Bool.and_eq_true,List.all_eq_true]
 exact⟨fun c hc=>(q c hc).1,q2⟩
theorem ty_th(fuel:Nat)(xs:List AVal)(d:DataW H)(h:Typed prog fuel ZcB xs d)(hb:uptoBulk d≤1048576):∃ x,xs=thC x∧True∧0≤uptoBulk d:=by
 obtain⟨f,parts,ds,rfl,rfl,rfl,r⟩:=YH h s_th
 obtain⟨p0,parts,d0,ds,rfl,rfl,h0,r⟩:=r.cons
 obtain⟨p1,parts,d1,ds,rfl,rfl,h1,r⟩:=r.cons
 obtain⟨p2,parts,d2,ds,rfl,rfl,h2,r⟩:=r.cons
 obtain⟨p3,parts,d3,ds,rfl,rfl,h3,r⟩:=r.cons
 obtain⟨rfl,rfl⟩:=r.nil
 obtain⟨v0,rfl,w0,rfl⟩:=Yv h0 XR
 obtain⟨v1,rfl,w1,rfl⟩:=Yv h1 XR
 obtain⟨v2,rfl,w2,rfl⟩:=Yv h2 XR
 obtain⟨v3,rfl,rfl⟩:=Zbf h3 Ya8
 simp only[YJ,Zy,XM] at hb ⊢
 exact⟨⟨v0,v1,v2,v3⟩,rfl,trivial,by omega⟩
theorem ty_i(fuel:Nat)(xs:List AVal)(d:DataW H)(h:Typed prog fuel Xy xs d)(_:uptoBulk d≤1048576):∃ x,xs=cel x∧True∧0≤uptoBulk d:=by
 obtain⟨s,rfl,_,rfl⟩:=Yv h XR
 exact⟨s,rfl,trivial,by omega⟩
theorem Qa4{fuel:Nat}{xs:List AVal}{d:DataW H}(h:Typed prog fuel Xan xs d)(hb:uptoBulk d≤1048576):∃ l,xs=[rowV l]∧l.length≤2000000:=by
 obtain⟨l,rfl,_,_,k⟩:=XE cel (fun _=>0) (fun _=>True) h XcB n_int (fun f' _=>ty_i f') hb
 exact⟨l,rfl,by omega⟩
theorem Ycx{fuel:Nat}{xs:List AVal}{d:DataW H}(h:Typed prog fuel QcF xs d)(hb:uptoBulk d≤1048576):∃ x,xs=sdC x∧SdLe 2000000 x:=by
 obtain⟨f,parts,ds,rfl,rfl,rfl,r⟩:=YH h s_sd
 obtain⟨p0,parts,d0,ds,rfl,rfl,h0,r⟩:=r.cons
 obtain⟨p1,parts,d1,ds,rfl,rfl,h1,r⟩:=r.cons
 obtain⟨p2,parts,d2,ds,rfl,rfl,h2,r⟩:=r.cons
 obtain⟨p3,parts,d3,ds,rfl,rfl,h3,r⟩:=r.cons
 obtain⟨p4,parts,d4,ds,rfl,rfl,h4,r⟩:=r.cons
 obtain⟨p5,parts,d5,ds,rfl,rfl,h5,r⟩:=r.cons
 obtain⟨p6,parts,d6,ds,rfl,rfl,h6,r⟩:=r.cons
 obtain⟨p7,parts,d7,ds,rfl,rfl,h7,r⟩:=r.cons
 obtain⟨rfl,rfl⟩:=r.nil
 obtain⟨v0,rfl,w0,rfl⟩:=Yv h0 XR
 obtain⟨v1,rfl,w1,rfl⟩:=Yv h1 XR
 obtain⟨v2,rfl,w2,rfl⟩:=Yv h2 XR
 simp only[YJ,Zy,XM] at hb ⊢
 obtain⟨a,rfl,ka⟩:=Qa4 h3 (by omega)
 obtain⟨b,rfl,kb⟩:=Qa4 h4 (by omega)
 obtain⟨c,rfl,kc⟩:=Qa4 h5 (by omega)
 obtain⟨u,rfl,_,_,ku⟩:=XE thC (fun _=>0) (fun _=>True) h6 u_ths n_th (fun f' _=>ty_th f') (show uptoBulk d6≤1048576 by omega)
 obtain⟨t,rfl,kt⟩:=Qa4 h7 (by omega)
 exact⟨⟨v0,v1,v2,a,b,c,u,t⟩,rfl,ka,kb,kc,by show u.length≤_; omega,kt⟩
theorem ty_st{fuel:Nat}{xs:List AVal}{d:DataW H}(h:Typed prog fuel ZbR xs d)(hb:uptoBulk d≤1048576):∃ x,xs=stC x∧StLe 2000000 x:=by
 obtain⟨f,parts,ds,rfl,rfl,rfl,r⟩:=YH h s_st
 obtain⟨p0,parts,d0,ds,rfl,rfl,h0,r⟩:=r.cons
 obtain⟨p1,parts,d1,ds,rfl,rfl,h1,r⟩:=r.cons
 obtain⟨p2,parts,d2,ds,rfl,rfl,h2,r⟩:=r.cons
 obtain⟨p3,parts,d3,ds,rfl,rfl,h3,r⟩:=r.cons
 obtain⟨p4,parts,d4,ds,rfl,rfl,h4,r⟩:=r.cons
 obtain⟨p5,parts,d5,ds,rfl,rfl,h5,r⟩:=r.cons
 obtain⟨p6,parts,d6,ds,rfl,rfl,h6,r⟩:=r.cons
 obtain⟨p7,parts,d7,ds,rfl,rfl,h7,r⟩:=r.cons
 obtain⟨rfl,rfl⟩:=r.nil
 obtain⟨v0,rfl,w0,rfl⟩:=Yv h0 XR
 obtain⟨v1,rfl,w1,rfl⟩:=Yv h1 XR
 obtain⟨v2,rfl,w2,rfl⟩:=Yv h2 Zcj
 obtain⟨v3,rfl,rfl⟩:=Zbf h3 Ya8
 obtain⟨v4,rfl,w4,rfl⟩:=Yv h4 Zcj
 obtain⟨v6,rfl,w6,rfl⟩:=Yv h6 XR
 simp only[YJ,Zy,XM] at hb ⊢
 obtain⟨a,rfl,ka⟩:=Qa4 h5 (by omega)
 obtain⟨f',p,q,da,db,rfl,rfl,rfl,hp,hq⟩:=Zcu h7 u_sds
 simp only[YJ,Zy] at hb
 obtain⟨x,rfl,kx⟩:=Ycx hp (by omega)
 obtain⟨y,rfl,ky⟩:=Ycx hq (by omega)
 exact⟨⟨v0,v1,v2,v3,v4,a,v6,x,y⟩,rfl,ka,kx,ky⟩
end Go.Ah.Tz
end
section
namespace Go.Proofs.YtflcpnaigpgciaaGreatDoor
open Go.ChangeShapes Go.WideShapes Go.ChangeAt Go.RowKit Go.Ah Go.Ah.Tz
theorem QaV{H:Type}{enc:TypeId × Value→H}{P:Program}{f:Func}{s:ChangeSpec}{apart fresh handsOn again:Bool}{W W':World}{args:Array Value}{v:Value}{ds gs:List (DataW H)}{before pa pv:List MemPlace}
 (hW:DataW.Whole enc P f.params.toList s.vars apart W args.toList ds gs before)
 (hres:∀ (b:Nat) (sp:Nat→Bool) (hd:Bool),DataW.TrodAll enc P W' b sp hd f.resultTypes.toList (v.resultList f.resultTypes.size) (s.fn H (ds ++ gs)).results [])
 (hargs:∀ sp:Nat→Bool,(∀ p∈before,sp p.block=true)→DataW.TrodAll enc P W' 0 sp true f.params.toList args.toList (s.fn H (ds ++ gs)).args pa)
 (hvars:∀ sp:Nat→Bool,(∀ p∈before,sp p.block=true)→DataW.TrodVars enc P W' sp s.vars (s.fn H (ds ++ gs)).vars pv)
 (hps:before=pa ++ pv)(hb:Below W.heap.size W W')
 (hok:∀ (j:Nat) (t:TypeId) (r:Value),f.resultTypes[j]?=some t→(v.resultList f.resultTypes.size)[j]?=some r→Value.okWide P W' .any 0 t r) :
  s.post enc P f apart fresh handsOn again W args v W':=by
 have hold:∀ p∈before,(fun b=>decide (b < W.heap.size)) p.block=true:=fun p hp=>by simpa using hW.lt p hp
 refine⟨ds,gs,before,[],pa,pv,hW,hres _ _ _,hargs _ hold,hvars _ hold,World.keptBut_mono (fun p hp=>⟨hp,?_⟩) (hb.frame (·∈before)),fun _=>?_⟩
 ·rw[hps,List.mem_append] at hp
  exact Or.inr hp
 ·have hlt:=hW.lt
  obtain⟨_,_,_,_,_,hz,hn⟩:=hW
  refine⟨hok,_,_,([] ++ pa) ++ pv,⟨[] ++ pa,pv,trodAll_append (hargs _ (fun _ _=>rfl)) (hres _ _ _),hvars _ (fun _ _=>rfl),rfl,?_,?_⟩,?_⟩
  ·intro b off hp
   have hin:MemPlace.cell b off∈before:=by rw[hps]; simpa using hp
   rw[hb.frozen (p:=⟨b,off,none⟩) (show b < W.heap.size from hlt _ hin)]
   exact hz b off hin
  ·intro ha
   have:=hn ha
   rw[hps] at this
   simpa using this
  ·intro p hp _
   rw[hps]
   simpa using hp
set_option maxRecDepth 100000
abbrev t_u8:TypeId:=5
abbrev QcD:TypeId:=318
theorem d_own:ownKnob Tryz.prog.godebug=none:=by kernel_rfl
theorem Xcw:Tryz.prog.globalNamed "strings.asciiSpace" = some 0:=by kernel_rfl
theorem XbY:(Tryz.prog.globals[0]?).map (·.type)=some QcD:=by kernel_rfl
theorem Xb2:laidOutB Tryz.prog=true:=by kernel_rfl
def spaces:List Int:=(List.range 256).map fun i=>match (Nat.ble 9 i && Nat.ble i 13) || Nat.beq i 32 with | true=>1 | false=>0
theorem Yco{l:List (String × DataW Unit)}{x:String × DataW Unit}(hl:l=[x,("strings.asciiSpace",Lib.tabData .u8 spaces)]){W:World}(h:laidMet Tryz.prog l W):∀ p∈GL0,Den (fun b=>W.heap[b]?) noOwn (.rptr p.2 0) (.pointer (some ⟨p.1,0,none⟩)):=by
 subst hl
 have ht:Lib.TabIs Tryz.prog W "strings.asciiSpace" .u8 spaces:=Lib.tabIs_of_head (rest:=[]) Xcw XbY (show Tryz.prog.underlying QcD=some (.array 256 t_u8) by kernel_rfl) (show Tryz.prog.underlying t_u8=some (.int .u8) by kernel_rfl) (by kernel_rfl) (by kernel_rfl) h.tail
 have hlen:spaces.length=256:=by simp[spaces]
 have hrow:row0=spaces.map (AVal.int .u8):=by rw[row0,spaces,List.map_map]; rfl
 intro p hp
 simp only[GL0,List.mem_singleton] at hp
 subst hp
 refine .rptr _ row0 0 0 0 (fun k=>.int .u8 (spaces.getD k 0)) (fun k hk=>?_) (fun k y hy=>?_)
 ·have hk':k < spaces.length:=by rw[hrow,List.length_map] at hk; exact hk
  have:=(Zb4 (ht.cell Xcw k hk')).2
  rw[Nat.zero_add]; exact this
 ·rw[hrow,List.getElem?_map] at hy
  obtain⟨z,hz,rfl⟩:=Option.map_eq_some_iff.1 hy
  have:spaces.getD k 0=z:=by simp[List.getD,hz]
  rw[this]; exact .int _ _ _
def YaV:List TypeId:=[Zb6,Xy,Xba,YaR,Qcv,Zb9,Xcv,Zcv,Qcx,Ya6,QcB,Zcp,Xcy,Ycq,Qcb,XbQ,ZcB,Qcn,Xan,QcF,Ycp,ZbR]
theorem YaZ:YaV.all (tyOk Tryz.prog YaV)=true:=by kernel_rfl
theorem YcF{M:Nat→Option Obj}{xs:List AVal}{cs:Array Value}(h:DL M xs cs.toList):Den M noOwn (.agg xs) (.agg cs):=
 .agg _ _ _ (by have:=h.1; simpa using this.symm) (fun i x v h1 h2=>h.2 i x v h1 (by simpa using h2))
theorem Ya1{P:Program}{t:TypeId}{ts:List TypeId}(h:Xs P t=some ts):∃ fs,P.underlying t=some (.struct fs):=by
 unfold Xs at h
 split at h
 ·rename_i fs e; exact⟨fs,e⟩
 ·cases h
section
variable {H:Type} {enc:TypeId × Value→H} {W:World} {base:Nat} {v:Value} {d:DataW H} {ps:List MemPlace}
theorem YcC(ho:Value.okWide Tryz.prog W .any base XbQ v)(h:DataW.Trod enc Tryz.prog W 0 (fun _=>true) true XbQ v d ps)(hb:Rows.uptoBulk d≤1048576):∃ b:Bk,bkFit b=true∧Yt b.cards∧Den (fun k=>W.heap[k]?) noOwn (bkV b) v:=by
 obtain⟨fs,hfs⟩:=Ya1 s_bk
 obtain⟨cs,rfl,_⟩:=okWide_struct hfs ho
 obtain⟨fuel,hf⟩:=h
 obtain⟨_,xs,h1,h2⟩:=Zay (S:=YaV) YaZ fuel XbQ (by decide) _ _ ⟨_,hf⟩
 obtain⟨b,rfl,k1,k2⟩:=ty_bk h2 hb
 exact⟨b,k1,k2,YcF h1⟩
theorem Xcr(ho:Value.okWide Tryz.prog W .any base ZbR v)(h:DataW.Trod enc Tryz.prog W 0 (fun _=>true) true ZbR v d ps)(hb:Rows.uptoBulk d≤1048576):∃ s:St,StLe 2000000 s∧Den (fun k=>W.heap[k]?) noOwn (stV s) v:=by
 obtain⟨fs,hfs⟩:=Ya1 s_st
 obtain⟨cs,rfl,_⟩:=okWide_struct hfs ho
 obtain⟨fuel,hf⟩:=h
 obtain⟨_,xs,h1,h2⟩:=Zay (S:=YaV) YaZ fuel ZbR (by decide) _ _ ⟨_,hf⟩
 obtain⟨s,rfl,k⟩:=ty_st h2 hb
 exact⟨s,k,YcF h1⟩
theorem Zcd(ho:Value.okWide Tryz.prog W .any base Xy v)(h:DataW.Trod enc Tryz.prog W 0 (fun _=>true) true Xy v d ps):∃ n:Int,Den (fun k=>W.heap[k]?) noOwn (iv n) v:=by
 obtain⟨n,rfl,_⟩:=open_int XR ho h
 exact⟨n,.int _ _ _⟩
end
theorem Zam{H:Type}{enc:TypeId × Value→H}{t:TypeId}(hr:Tryz.prog.readableRec t=true)(hrow:t < Tryz.prog.types.size){W W':World}{v:Value}{d:DataW H}{ps all:List MemPlace}(h:DataW.Trod enc Tryz.prog W 0 (fun _=>true) true t v d ps)(hb:Below W.heap.size W W')(hlt:∀ p∈all,p.block < W.heap.size)(hin:∀ p∈ps,p∈all){sp:Nat→Bool}(hs:∀ p∈all,sp p.block=true):DataW.Trod enc Tryz.prog W' 0 sp true t v d ps:=
 WideElems.Trod_stays Xb2 hr hrow h (fun p hp=>hb.same (hlt p (hin p hp))) (fun p hp=>hs p (hin p hp))
theorem QbN(t:TypeId)(h:(Tryz.prog.readableRec t && decide (t < Tryz.prog.types.size))=true):Tryz.prog.readableRec t=true∧t < Tryz.prog.types.size:=by simpa using h
theorem r_bk:Tryz.prog.readableRec XbQ=true∧XbQ < Tryz.prog.types.size:=QbN XbQ (by kernel_rfl)
theorem r_st:Tryz.prog.readableRec ZbR=true∧ZbR < Tryz.prog.types.size:=QbN ZbR (by kernel_rfl)
theorem Qa8:Tryz.prog.readableRec Xy=true∧Xy < Tryz.prog.types.size:=QbN Xy (by kernel_rfl)
theorem Qbx:Rows.zoneApartUptoRow.laid=[("unicode.White_Space",Rows.laid_unicode_White_Space),("strings.asciiSpace",Lib.tabData .u8 spaces)]:=by kernel_rfl
theorem YaI(H:Type)(enc:TypeId × Value→H)(W:World)(base:Nat)(args:Array Value)(ds gs:List (DataW H))(before:List MemPlace)
 (hval:∀ (j:Nat) t v,Tryz.f3.params[j]?=some t→args[j]?=some v→Value.okWide Tryz.prog W .any base t v)
 (hW:DataW.Whole enc Tryz.prog Tryz.f3.params.toList Rows.zoneApartSpec.vars false W args.toList ds gs before)(hk:Rows.uptoSmall H (ds ++ gs)=true)(hL:laidMetH Tryz.prog Rows.zoneApartUptoRow.laid W) :
  Calls Tryz.prog 3 args W fun e W'=>∃ v,e=.returned v∧Rows.zoneApartSpec.post enc Tryz.prog Tryz.f3 false true false false W args v W':=by
 have hW':=hW
 have hlt:=hW.lt
 obtain⟨p,q,hA0,hV,rfl,hfz,hnd⟩:=hW
 have hA:DataW.TrodAll enc Tryz.prog W 0 (fun _=>true) true Tryz.f3.params.toList args.toList ds p:=hA0
 rw[Tryz.params3] at hA hval
 obtain⟨v0,vs,d0,ds,p0,p,hargs,rfl,rfl,h0,r⟩:=trodAll_cons hA
 obtain⟨v1,vs,d1,ds,p1,p,rfl,rfl,rfl,h1,r⟩:=trodAll_cons r
 obtain⟨v2,vs,d2,ds,p2,p,rfl,rfl,rfl,h2,r⟩:=trodAll_cons r
 obtain⟨v3,vs,d3,ds,p3,p,rfl,rfl,rfl,h3,r⟩:=trodAll_cons r
 obtain⟨v4,vs,d4,ds,p4,p,rfl,rfl,rfl,h4,r⟩:=trodAll_cons r
 obtain⟨v5,vs,d5,ds,p5,p,rfl,rfl,rfl,h5,r⟩:=trodAll_cons r
 obtain⟨rfl,rfl,rfl⟩:=trodAll_nil r
 obtain rfl:args = #[v0,v1,v2,v3,v4,v5]:=by cases args; simp_all
 obtain⟨rfl,rfl⟩:=trodVars_none hV
 have hbk:Rows.uptoBulkAll [d0,d1,d2,d3,d4,d5]≤1048576:=of_decide_eq_true hk
 simp only[Rows.uptoBulkAll] at hbk
 obtain⟨b,hf,hsm,e0⟩:=YcC (hval 0 _ v0 rfl rfl) h0 (by omega)
 obtain⟨s,hs,e1⟩:=Xcr (hval 1 _ v1 rfl rfl) h1 (by omega)
 obtain⟨n2,e2⟩:=Zcd (hval 2 _ v2 rfl rfl) h2
 obtain⟨n3,e3⟩:=Zcd (hval 3 _ v3 rfl rfl) h3
 obtain⟨n4,e4⟩:=Zcd (hval 4 _ v4 rfl rfl) h4
 obtain⟨n5,e5⟩:=Zcd (hval 5 _ v5 rfl rfl) h5
 have hg:=Yco Qbx (show laidMet Tryz.prog Rows.zoneApartUptoRow.laid W from hL)
 refine(c3 p17 b hf hsm s hs n2 n3 n4 n5 W (fun k=>W.heap[k]?) [v0,v1,v2,v3,v4,v5] (fun _ _ h=>h) hg ⟨e0,e1,e2,e3,e4,e5,trivial⟩).mono ?_
 rintro e W' ⟨u,rfl,hkeep,M',_,_,_,hd⟩
 cases hd
 have hb:=hkeep.below
 refine⟨_,rfl,QaV (pa:=p0 ++ (p1 ++ (p2 ++ (p3 ++ (p4 ++ (p5 ++ [])))))) (pv:=[]) hW' (fun _ _ _=>trodAll_cons_mk (shut_bool Ya8 _) trodAll_mk0) (fun sp hsp=>?_) (fun _ _=>rfl) rfl hb (ok_one (by kernel_rfl) rfl (okWide_bool_mk Ya8 _))⟩
 rw[Tryz.params3]
 refine trodAll_cons_mk (Zam r_bk.1 r_bk.2 h0 hb hlt (fun p hp=>by simp[hp]) hsp) <| trodAll_cons_mk (Zam r_st.1 r_st.2 h1 hb hlt (fun p hp=>by simp[hp]) hsp) <| trodAll_cons_mk (Zam Qa8.1 Qa8.2 h2 hb hlt (fun p hp=>by simp[hp]) hsp) <| trodAll_cons_mk (Zam Qa8.1 Qa8.2 h3 hb hlt (fun p hp=>by simp[hp]) hsp) <| trodAll_cons_mk (Zam Qa8.1 Qa8.2 h4 hb hlt (fun p hp=>by simp[hp]) hsp) <| trodAll_cons_mk (Zam Qa8.1 Qa8.2 h5 hb hlt (fun p hp=>by simp[hp]) hsp) trodAll_mk0
def Z8:Array Value:=#[.agg #[.slice none 0 0,.slice none 0 0],.agg #[.int .i64 0,.int .i64 0,.int .i8 0,.bool false,.int .i8 0,.slice none 0 0,.int .i64 0,.int .i64 0,.int .i64 0,.int .i64 0,.slice none 0 0,.slice none 0 0,.slice none 0 0,.slice none 0 0,.slice none 0 0,.int .i64 0,.int .i64 0,.int .i64 0,.slice none 0 0,.slice none 0 0,.slice none 0 0,.slice none 0 0,.slice none 0 0],.int .i64 0,.int .i64 0,.int .i64 0,.int .i64 0]
def Xch:List Int:=[9,13,1,32,133,101,160,5760,5600,8192,8202,1,8232,8233,1,8239,8287,48,12288,12288,1]
noncomputable def Zbc (os:Os):World:=
 let w0:=World.holding Tryz.prog os ⟨#[],#[],[]⟩
 let put (h:Array Obj) (g:Nat) (cs:Array Value):Array Obj:=h.modify g fun
  | .cells _ t frozen=>.cells cs t frozen
  | o=>o
 let h1:=put w0.heap 0 (spaces.map fun z=>Value.int .u8 z).toArray
 let h2:=put h1 1 #[.pointer (some ⟨w0.heap.size,0,none⟩)]
 { w0 with heap:=(h2.push (.cells #[.slice (some ⟨w0.heap.size + 1,0,none⟩) 7 7,.slice none 0 0,.int .i64 2] 328 (0,0))).push (.cells (Xch.map fun z=>Value.int .u16 z).toArray 331 (0,0)) }
theorem YbZ(os:Os):laidMet Tryz.prog Rows.zoneApartUptoRow.laid ((Zbc os).forCall (fun _ _=>0) ⟨#[],Z8,[]⟩).memory:=
 laidMet_of_run' 8 (by kernel_rfl) (by kernel_rfl)
theorem Zbb(os:Os){H:Type}(enc:TypeId × Value→H):∃ places,DataW.whole enc Tryz.prog ((Zbc os).forCall (fun _ _=>0) ⟨#[],Z8,[]⟩).memory Tryz.f3.params.toList Rows.zoneApartSpec.vars false Z8.toList 8 =
  some ([.agg [.nil,.nil],.agg [.lit (.int .i64 0),.lit (.int .i64 0),.lit (.int .i8 0),.lit (.bool false),.lit (.int .i8 0),.nil,.lit (.int .i64 0),.agg [.agg [.lit (.int .i64 0),.lit (.int .i64 0),.lit (.int .i64 0),.nil,.nil,.nil,.nil,.nil],.agg [.lit (.int .i64 0),.lit (.int .i64 0),.lit (.int .i64 0),.nil,.nil,.nil,.nil,.nil]]],.lit (.int .i64 0),.lit (.int .i64 0),.lit (.int .i64 0),.lit (.int .i64 0)],[],places):=⟨[],by kernel_rfl⟩
theorem Za8(os:Os)(started:os.Started)(H:Type)(enc:TypeId × Value→H)(F:Stop.Interp) :
  ReturnsInHanded {} Tryz.checked os 3 .any ((Rows.OpenSpec.upto Rows.zoneApartSpec).preRow enc Tryz.prog Tryz.f3 Rows.zoneApartUptoRow.domain false Rows.zoneApartUptoRow.laid) (((Rows.OpenSpec.upto Rows.zoneApartSpec).at F).post enc Tryz.prog Tryz.f3 false true false false):=by
 obtain⟨places,hx⟩:=Zbb os enc
 refine returnsInHanded_of_row (C:=Tryz.checked) (s:=Rows.OpenSpec.upto Rows.zoneApartSpec) d_own started (by kernel_rfl) Tryz.func3
  (witness_row_atRef (enc:=enc) (C:=Tryz.checked) false (Zbc os) Z8 rfl (by kernel_rfl) (by kernel_rfl) (by kernel_rfl)
   (OpenSpec.preRow_of_cond 8 hx (by kernel_rfl) (fun k hk=>by cases hk; kernel_rfl) (by kernel_rfl) (YbZ os))) ?_
 intro W base args ds gs before hval hW _ hcond _ hL _ _
 exact YaI H enc W base args ds gs before hval hW (hcond _ rfl) hL
theorem Yci:Tryz.prog.funcNamed Rows.zoneApartUptoRow.func=some 3:=by kernel_rfl
theorem Zn{a b:Bool}(h:a=true)(k:b=true):(a && b)=true:=by rw[h,k]; rfl
theorem Zca:(Rows.zoneApartUptoRow.wf (OpenSpec.ofChange (Rows.OpenSpec.upto Rows.zoneApartSpec).bare))=true:=by kernel_rfl
theorem Yb8:(laidOutB Tryz.prog)=true:=by kernel_rfl
theorem Yca:(mapsRowed Tryz.prog)=true:=by kernel_rfl
theorem Qch:(Tryz.f3.params.all (Tryz.prog.readableRec ·))=true:=by kernel_rfl
theorem Xce:(namedTie Tryz.prog Rows.zoneApartUptoRow.named (Rows.OpenSpec.upto Rows.zoneApartSpec).bare.vars)=true:=by kernel_rfl
theorem Qcg:(Rows.zoneApartUptoRow.stops == [])=true:=by kernel_rfl
theorem Yce:(Tryz.prog.stops == [])=true:=by kernel_rfl
theorem Ycg:(Rows.zoneApartUptoRow.knobs == [])=true:=by kernel_rfl
theorem Qb7:(Tryz.prog.stopKnobs == [])=true:=by kernel_rfl
theorem YbS:(Rows.zoneApartUptoRow.inPlace == Tryz.prog.inPlace 3)=true:=by kernel_rfl
theorem YbJ:(Rows.zoneApartUptoRow.unfollowed == Tryz.prog.unfollowed 3)=true:=by kernel_rfl
theorem Qb3:(Rows.zoneApartUptoRow.recurses == Tryz.prog.recurses 3)=true:=by kernel_rfl
theorem Zb0:(Rows.zoneApartUptoRow.named == Tryz.prog.varsNamed 3)=true:=by kernel_rfl
theorem ZbX:(Rows.zoneApartUptoRow.maps == (Tryz.f3.params.toList ++ (Rows.OpenSpec.upto Rows.zoneApartSpec).bare.plain.varTypes Tryz.prog).any (Tryz.prog.mapsRec ·))=true:=by kernel_rfl
theorem QbT:(Rows.zoneApartUptoRow.ifaces == (Tryz.f3.params.toList ++ (Rows.OpenSpec.upto Rows.zoneApartSpec).bare.plain.varTypes Tryz.prog).any (Tryz.prog.ifacesRec ·))=true:=by kernel_rfl
theorem YbX:(Rows.zoneApartUptoRow.mapsOut == Tryz.prog.mapsAmong Tryz.f3.resultTypes.toList)=true:=by kernel_rfl
theorem QbQ:(Rows.zoneApartUptoRow.loops == (Tryz.f3.params.toList ++ (Rows.OpenSpec.upto Rows.zoneApartSpec).bare.plain.varTypes Tryz.prog).any (Tryz.prog.loopsFrom ·))=true:=by kernel_rfl
theorem Yb2:(Rows.zoneApartUptoRow.wideKeys == (Tryz.f3.params.toList ++ (Rows.OpenSpec.upto Rows.zoneApartSpec).bare.plain.varTypes Tryz.prog ++ Tryz.f3.resultTypes.toList).any (Tryz.prog.wideKeysFrom ·))=true:=by kernel_rfl
theorem YbL:((Rows.OpenSpec.upto Rows.zoneApartSpec).bare.vars.all (Tryz.prog.varReadable ·))=true:=by kernel_rfl
theorem Xb4:(Tryz.f3.resultTypes.all (fun t=>Tryz.prog.readableRec t && decide (t < Tryz.prog.types.size)))=true:=by kernel_rfl
theorem ZbU:(Rows.zoneApartUptoRow.ifacesOut == Tryz.f3.resultTypes.toList.any (Tryz.prog.ifacesRec ·))=true:=by kernel_rfl
theorem Yb5:(Rows.zoneApartUptoRow.loopsOut == Tryz.f3.resultTypes.toList.any (Tryz.prog.loopsFrom ·))=true:=by kernel_rfl
theorem ZbM:(Rows.zoneApartUptoRow.plainKeys == Tryz.prog.plainKeys)=true:=by kernel_rfl
theorem ZbD:(Rows.zoneApartUptoRow.shortTexts.isNone)=true:=by kernel_rfl
theorem Zb2:(Tryz.prog.stopsHeard)=true:=by kernel_rfl
theorem Xb1:(Tryz.prog.mayEnter)=true:=by kernel_rfl
theorem ZbY:(Rows.zoneApartUptoRow.lifted == Tryz.prog.liftsFinal)=true:=by kernel_rfl
theorem ZbK:(Tryz.prog.make == some Rows.zoneApartUptoRow.make)=true:=by kernel_rfl
theorem ZbF:(Rows.zoneApartUptoRow.kinds == (if Rows.zoneApartUptoRow.domain.isEmpty then [] else Tryz.f3.params.toList.map fun t=>match Tryz.prog.underlying t with | some (.int k)=>some k | _=>none))=true:=by kernel_rfl
theorem XbP:(Rows.zoneApartUptoRow.pinned == Rows.zoneApartUptoRow.pinnedBy)=true:=by kernel_rfl
theorem ZbH:(Rows.zoneApartUptoRow.veiled == (Tryz.f3.params.toList ++ (Rows.OpenSpec.upto Rows.zoneApartSpec).bare.plain.varTypes Tryz.prog ++ Tryz.f3.resultTypes.toList).any (Tryz.prog.veiledRec ·))=true:=by kernel_rfl
theorem ZbZ:(Rows.zoneApartUptoRow.veiledFits Tryz.prog Tryz.f3.params.toList (Tryz.f3.params.toList ++ (Rows.OpenSpec.upto Rows.zoneApartSpec).bare.plain.varTypes Tryz.prog ++ Tryz.f3.resultTypes.toList))=true:=by kernel_rfl
theorem Ya9:joinedFacts Tryz.prog 3 Tryz.f3 (Rows.OpenSpec.upto Rows.zoneApartSpec).bare Rows.zoneApartUptoRow=true:=(Zn (Zn (Zn (Zn (Zn (Zn (Zn (Zn (Zn (Zn (Zn (Zn (Zn (Zn (Zn (Zn (Zn (Zn (Zn (Zn (Zn (Zn (Zn (Zn (Zn (Zn (Zn (Zn (Zn (Zn (Zn Zca Yb8) Yca) Qch) Xce) Qcg) Yce) Ycg) Qb7) YbS) YbJ) Qb3) Zb0) ZbX) QbT) YbX) QbQ) Yb2) YbL) Xb4) ZbU) Yb5) ZbM) ZbD) Zb2) Xb1) ZbY) ZbK) ZbF) XbP) ZbH) ZbZ)
theorem Qbw:Rows.ZoneApartUptoSaid:=
 OpenClaim.holds_of_cond 3 Tryz.f3 rfl rfl rfl rfl rfl rfl rfl ⟨rfl,rfl,rfl,rfl,rfl⟩ rfl rfl rfl rfl rfl Yci Tryz.func3 Ya9
  (of_decide_eq_true (by kernel_rfl)) (by unfold Func.isWrapper; first | (rw[if_pos (by decide +kernel)]; kernel_rfl) | (rw[if_neg (by decide +kernel)]; exact⟨rfl,rfl⟩))
  (fun os started H enc _ F=>by rw[OpenClaim.pre_eq_preRow]; exact Za8 os started H enc F)
theorem Zbd(f:FuncId)(fn:Func)(hf:Tryz.pinned.checked.prog.funcNamed "baize/baizelaw17.ZoneApart" = some f)(hfn:Tryz.pinned.checked.prog.funcs[f]?=some fn) :
  true=Tryz.pinned.checked.prog.looks []∧∀ (j:Nat) t,fn.params[j]?=some t→Tryz.pinned.checked.prog.wantsStandIn t=false:=by
 obtain rfl:f=3:=Option.some.inj ((show Tryz.prog.funcNamed "baize/baizelaw17.ZoneApart" = some 3 by kernel_rfl).symm.trans hf) |>.symm
 obtain rfl:fn=Tryz.f3:=(Option.some.inj (Tryz.func3.symm.trans hfn)).symm
 refine⟨by kernel_rfl,fun j t ht=>?_⟩
 rw[Tryz.params3] at ht
 have hm:t∈[XbQ,ZbR,Xy,Xy,Xy,Xy]:=by simpa using Array.mem_of_getElem? ht
 have hall:([XbQ,ZbR,Xy,Xy,Xy,Xy].all fun u=>!Tryz.prog.wantsStandIn u)=true:=by kernel_rfl
 exact(show Tryz.prog.wantsStandIn t=false by simpa using List.all_eq_true.1 hall t hm)
theorem zoneApart_upto_card:Rows.ZoneApartUptoCardSaid:=
 Claim7.holds_tied_plain_at .later [] _ _ _ _ Qbw (fun _ h=>by cases h) (by kernel_rfl) (fun _ h=>by cases h) zoneApartUpto_row_tie rfl ⟨rfl,rfl⟩ (by kernel_rfl) rfl Zbd (by kernel_rfl)
#print axioms zoneApart_upto_card
end Go.Proofs.YtflcpnaigpgciaaGreatDoor
end
