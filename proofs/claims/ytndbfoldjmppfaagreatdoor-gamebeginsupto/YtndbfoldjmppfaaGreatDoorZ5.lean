/- Part of the proof that GameBegins holds of the program for arguments that together hold at most 1048576 values and letters; no other condition. -/
import Derived.Test.YtndbfoldjmppfaaGreatDoorZ4
import Derived.Test.YtndbfoldjmppfaaGreatDoorRows
import Derived.Test.YtndbfoldjmppfaaGreatDoorCards
import Derived.Test.YtndbfoldjmppfaaGreatDoorTie
import Derived.ProofKit
import Derived.OpenShut
import Derived.Carry
import Derived.SevenTiedAt
import Derived.JoinedCond
import Derived.LaidMore
import Derived.SizedLaws
import Derived.Stop.LaidErr
import Derived.Deep.DeepHandedRow
import Derived.Deep.DeepWitnessRowRef
import Derived.Lib.LaidTab
set_option linter.all false
section
namespace Go.Ah.Tz
open Go.Proofs.Tryz (prog)
set_option maxRecDepth 100000
section
variable {P:Program} {GL:Globs}
theorem Qbh{f:FuncId}{xs:List AVal}{v y:AVal}{bs:List ABlk}(h:NCall P GL f xs v bs)(hy:∃rd,Bor (hp bs) rd v y):PCall P GL f xs y:=by
 obtain⟨rd,hR⟩:=hy;intro w M vs hM hg hx;refine(h w M vs hM hg hx).mono ?_;rintro e w' ⟨u,he,g',hle,r,hd⟩
 let M2:Nat→Option Obj:=λb=>if b<w.heap.size then g'.M b else w'.heap[b]?
 have cov:Cov g' (hp bs) w' M2:=by
  refine⟨λb o e=>?_,λb blk cb o e1 e2 e3 e4 e5=>?_⟩
  ·show (if b<w.heap.size then g'.M b else w'.heap[b]?)=some o;split
   ·exact e
   ·exact r.stable b o e
  ·obtain⟨_,hin,_⟩:=r.own b blk cb e1 e2 e3 e4
   grind
 have hd2:=hR GL w ⟨[],M⟩ g' (hp bs) w' M2 r cov (λ_ _=>rfl) u hd;refine⟨u,he,r.keeps,M2,λb o e=>cov.1 b o (hle b o e),λb o e=>?_,λb o e=>?_,hd2⟩
 ·have e':(if b<w.heap.size then g'.M b else w'.heap[b]?)=some o:=e;split at e'
  ·exact r.stable b o e'
  ·exact e'
 ·have e':(if b<w.heap.size then g'.M b else w'.heap[b]?)=some o:=e;split at e'
  ·rcases r.src b o e' with q|q|q<;>simp_all
  ·exact .inr (by omega)
end
attribute [local irreducible] Ans.rd Ans.pu Ans.wr Ans.dr Ans.gr Ans.gw Ans.gl Ans.gd Ans.opt joinK W
set_option maxHeartbeats 4000000
theorem c185P(l:List Int)(hl:l.length≤1000000000):PC 22 [rowV l] (rowV l):=
 Qbh (c96 l hl) ⟨[0],RI.own (b:=0) rfl (by simp) rfl⟩
def tell1(m:List Int)(s:St)(i:Int):St:=s.put i { s.side i with told:=(s.side i).told++m }
def tellS(s:St)(m:List Int)(is:List Int):St:=is.foldl (tell1 m) s
def TB(N:Nat)(s:St):Prop:=s.s0.told.length≤N∧s.s1.told.length≤N
theorem TB.tell{N:Nat}{s:St}(h:TB N s)(m:List Int){i:Int}(hi:i=0∨i=1):TB (N+m.length) (tell1 m s i):=by
 obtain⟨h1,h2⟩:=h;rcases hi with rfl|rfl
 ·refine⟨?_,?_⟩<;>simp[tell1,St.put,St.side]<;>omega
 ·refine⟨?_,?_⟩<;>simp[tell1,St.put,St.side]<;>omega
end Go.Ah.Tz
end
section
namespace Go.Ah.Tz
open Go.Proofs.Tryz (prog)
set_option maxRecDepth 100000
attribute [local irreducible] Ans.rd Ans.pu Ans.wr Ans.dr Ans.gr Ans.gw Ans.gl Ans.gd Ans.opt joinK W
set_option maxHeartbeats 4000000
theorem QaC(l:List Int)(j:Nat)(h:j≤l.length)(σ:List ABlk):XB 1 [rowV l,iv j] σ=.ok (rowV (l.take j)) [] []:=by
 have h1:Nat.ble j (l.map cel).length=true:=Nat.ble_eq_true_of_le (by simpa using h);have h2:cut 0 j (l.map cel)=(l.take j).map cel:=by unfold cut; rw[List.drop_zero,List.map_take]
 show (bif Nat.beq 1 1&&Nat.ble j (l.map cel).length then SRes.ok (.rsl false false 1 (cut 0 j (l.map cel))) [] [] else .stop)=_;rw[h1,h2]; rfl
def dropF(s:St)(i:Int):Int×St×List Ev:=
 match (s.side i).hand with
 |[]=>(0,s,[])
 |c::h=>(0,tellS (s.put i { s.side i with hand:=h,grave:=(s.side i).grave++[c] }) [c] [0,1],[⟨8,i,c,0,0,0,[]⟩])
def whoR(s:St)(sd tg who:Int):Int×Int×Bool:=
 if who=0 then (0,sd,true) else if who=1 then (0,1-sd,true) else if who≠2 then (0,0,false)
 else if tg = -2∨tg = -3 then (0,-2-tg,true) else if 0<tg then (if (unitR s tg).2.2=true then (tg,(unitR s tg).1,true) else (0,0,false)) else (0,0,false)
end Go.Ah.Tz
end
section
namespace Go.Ah.Tz
open Go.Proofs.Tryz (prog)
set_option maxRecDepth 100000
theorem Xc5{s:St}{sd tg who:Int}(h01:sd=0∨sd=1)(h:(whoR s sd tg who).2.2=true):((whoR s sd tg who).2.1=0∨(whoR s sd tg who).2.1=1)∧0≤(whoR s sd tg who).1:=by
 grind [whoR,unitR]
def mvR(op:Int)(b:Bk)(s:St)(id k n:Int):St×Ev×Int:=if op=1 then mendF s id k n else harmF b s id k n
def hurtE(b:Bk)(s:St)(sd tg op who n:Int):Int×St×List Ev:=
 if (whoR s sd tg who).2.2=true∧0≤n then
  (if (mvR op b s (whoR s sd tg who).1 (whoR s sd tg who).2.1 n).2.2=0 then (0,(mvR op b s (whoR s sd tg who).1 (whoR s sd tg who).2.1 n).1,[(mvR op b s (whoR s sd tg who).1 (whoR s sd tg who).2.1 n).2.1])
  else ((mvR op b s (whoR s sd tg who).1 (whoR s sd tg who).2.1 n).2.2,s,[]))
 else (0,s,[])
theorem Agr.app1(σ:List ABlk)(x:ABlk):Agr σ (σ++[x]) []:=Agr.app σ [x]
end Go.Ah.Tz
end
section
namespace Go.Ah.Tz
open Go.Proofs.Tryz (prog)
attribute [local irreducible] Ans.rd Ans.pu Ans.wr Ans.dr Ans.gr Ans.gw Ans.gl Ans.gd Ans.opt joinK W
set_option maxHeartbeats 4000000
theorem EvRs.take{rows:List (List AVal)}{l:List Ev}(h:EvRs rows l)(k:Nat):EvRs (rows.take k) (l.take k):=by
 induction h with
 |nil=>simp; exact .nil
 |snoc rows l e cv h hc ih=>
  have hl:=h.len;by_cases hk:k≤l.length
  ·rw[List.take_append_of_le_length (by omega),List.take_append_of_le_length hk]; exact ih
  ·rw[List.take_of_length_le (by simp; omega),List.take_of_length_le (by simp; omega)];exact .snoc _ _ _ _ h hc
def LX(rb:Nat)(l:List Ev)(lv:AVal)(evs:List Ev)(lvi:AVal)(τ:List ABlk):Prop:=
 (l=[]∧lv=.nils∧LV rb evs lvi τ)∨(l≠[]∧∃ c rows rest,c≠rb∧lv=.sl c 0 l.length false∧hget τ c=.full 7 (rows ++ rest) ∧
  ((lvi=.sl c 0 (l.length + evs.length) false∧EvRs rows (l ++ evs))∨(EvRs rows l∧LV rb (l ++ evs) lvi τ∧∀ n,lvi≠.sl c 0 n false)))
theorem LX.old{rb:Nat}{l evs:List Ev}{lv lvi:AVal}{σ σ':List ABlk}(h:LX rb l lv evs lvi σ)(hk:∀k,k<σ.length→k≠rb→hget σ' k=hget σ k):LX rb l lv evs lvi σ':=by
 rcases h with ⟨h1,h2,h3⟩|⟨h0,c,rows,rest,h1,h2,hc,h3⟩
 ·exact .inl ⟨h1,h2,h3.old hk⟩
 ·refine .inr ⟨h0,c,rows,rest,h1,h2,by rw[hk c (Qn hc (by simp)) h1]; exact hc,?_⟩;rcases h3 with h3|⟨h3,h4,h5⟩
  ·exact .inl h3
  ·exact .inr ⟨h3,h4.old hk,h5⟩
theorem LX.back{rb:Nat}{l evs:List Ev}{lv lvi:AVal}{σ:List ABlk}(h:LX rb l lv evs lvi σ):LX rb l lv [] lv σ:=by
 rcases h with ⟨rfl,rfl,h3⟩|⟨h0,c,rows,rest,h1,h2,hc,h3⟩
 ·exact .inl ⟨rfl,rfl,.inl ⟨rfl,rfl⟩⟩
 ·rcases h3 with ⟨_,h3⟩|⟨h3,_⟩
  ·have:=h3.take l.length;rw[List.take_left] at this;exact .inr ⟨h0,c,rows.take l.length,rows.drop l.length++rest,h1,h2,by rw[←List.append_assoc,List.take_append_drop]; exact hc,.inl ⟨by simpa using h2,by simpa using this⟩⟩
  ·exact .inr ⟨h0,c,rows,rest,h1,h2,hc,.inl ⟨by simpa using h2,by simpa using h3⟩⟩
theorem LX.cells{rb:Nat}{l evs:List Ev}{lv lvi:AVal}{σ:List ABlk}(h:LX rb l lv evs lvi σ):cellsOf lv=some [lv]:=by
 rcases h with ⟨_,rfl,_⟩|⟨_,c,rows,rest,_,rfl,_⟩<;>rfl
theorem LX.ne_box{rb:Nat}{l evs:List Ev}{lv lvi:AVal}{σ:List ABlk}(h:LX rb l lv evs lvi σ){k:Nat}{row:List AVal}(hk:hget σ k=.box row)(n:Nat):lvi≠.sl k 0 n false:=by
 rcases h with ⟨_,_,h⟩|⟨_,c,rows,rest,_,_,hc,⟨h,_⟩|⟨_,h,_⟩⟩
 ·rcases h with ⟨_,h⟩|⟨_,c,rows,_,h,hc,_⟩<;>grind
 ·grind
 ·rcases h with ⟨_,h⟩|⟨_,c,rows,_,h,hc,_⟩<;>grind
end Go.Ah.Tz
end
section
namespace Go.Ah.Tz
open Go.Proofs.Tryz (prog)
set_option maxRecDepth 100000
structure OkS (b:Bk) (N C:Nat) (s:St):Prop where
 may:MayP b s
 told:TB N s
 cards:Yy s≤C
theorem OkS.mono{b:Bk}{N N' C C':Nat}{s:St}(h:OkS b N C s)(h1:N≤N')(h2:C≤C'):OkS b N' C' s:=⟨h.may,⟨Nat.le_trans h.told.1 h1,Nat.le_trans h.told.2 h1⟩,by have:=h.cards; omega⟩
theorem LV.ne_box{rb:Nat}{l:List Ev}{lv:AVal}{σ:List ABlk}(h:LV rb l lv σ){k:Nat}{row:List AVal}(hk:hget σ k=.box row)(n:Nat):lv≠.sl k 0 n false:=by
 rcases h with ⟨_,h⟩|⟨_,c,rows,_,h,hc,_⟩<;>grind
theorem Fr.back{rb:Nat}{lv lv':AVal}{σ τ:List ABlk}(h:Fr rb lv lv' σ τ):Fr rb lv lv σ τ:=⟨h.len,h.keep,λk n e=>.inr ⟨n,e⟩⟩
theorem Fr.get{rb:Nat}{lv lv':AVal}{σ τ:List ABlk}(h:Fr rb lv lv' σ τ){l:List Ev}(hl:LV rb l lv σ){k:Nat}{row:List AVal}(hk:hget σ k=.box row)(hr:k≠rb):hget τ k=.box row:=by
 rw[h.keep k (Qn hk (by simp)) hr (hl.ne_box hk)]; exact hk
theorem XbO{kd:Int}{fP:Int→Int×Int}{fU:Th→Int×Int}{s:St}{id k:Int}{N:Nat}(h:TB N s)(h01:k=0∨k=1)(e:(chgF kd fP fU s id k).2.2=0):TB N (chgF kd fP fU s id k).1:=by
 have z:∀(x:Int),x≠0→(zSt,zEv,x).2.2=0→False:=λx hx h=>hx h;unfold chgF at e ⊢;by_cases hid:id=0
 ·rw[if_pos hid] at e ⊢;unfold chgP at e ⊢;split at e
  ·rename_i hw;rw[if_pos hw];rcases h01 with rfl|rfl<;>exact h
  ·exact(z 171 (by decide) e).elim
 rw[if_neg hid] at e ⊢;by_cases hid2:id<0
 ·simp_all
 rw[if_neg hid2] at e ⊢;cases q0:fnd s.s0.units id with
 |some i=>
  rw[q0] at e;simp only at e ⊢;unfold chgU at e ⊢;split at e
  ·rename_i hw;rw[if_pos hw]; exact h
  ·exact(z 171 (by decide) e).elim
 |none=>
  rw[q0] at e;simp only at e ⊢;cases q1:fnd s.s1.units id with
  |some i=>
   rw[q1] at e;simp only at e ⊢;unfold chgU at e ⊢;split at e
   ·rename_i hw;rw[if_pos hw]; exact h
   ·exact(z 171 (by decide) e).elim
  |none=>simp_all
theorem OkS.mv{b:Bk}{N C:Nat}{s:St}(h:OkS b N C s){op id k n:Int}(h01:k=0∨k=1)(e:(mvR op b s id k n).2.2=0):OkS b N C (mvR op b s id k n).1:=by
 unfold mvR at e ⊢;split at e
 ·rename_i q;rw[if_pos q];obtain⟨k1,k2,_⟩:=Qb6 h.may h01 e;exact⟨k1,XbO h.told h01 e,by rw[k2]; exact h.cards⟩
 ·rename_i q;rw[if_neg q];obtain⟨k1,k2,_⟩:=Yb6 h.may h01 e;exact⟨k1,XbO h.told h01 e,by rw[k2]; exact h.cards⟩
theorem OkS.hurt{b:Bk}{N C:Nat}{s:St}(h:OkS b N C s){sd:Int}(h01:sd=0∨sd=1)(tg op who n:Int):OkS b N C (hurtE b s sd tg op who n).2.1:=by
 unfold hurtE;split
 ·rename_i q;split
  ·rename_i e;exact h.mv (Xc5 h01 q.1).1 e
  ·exact h
 ·exact h
theorem ZbA{n:Nat}{l m:List Int}{most most':Int}(h:Xi n l most=true)(k:Xi n m most'=true)(hm:((l.length+m.length:Nat):Int)≤most):Xi n (l++m) most=true:=by
 grind [Qy]
theorem SideP.tell{b:Bk}{x:Sd}(h:SideP b x){m:List Int}{most:Int}(hm:Xi b.cards.length m most=true)(hl:x.told.length+m.length≤1000000):SideP b { x with told:=x.told++m }:=
 ⟨h.life,h.mana,h.most,h.deck,h.hand,h.grave,ZbA h.told hm (by omega),h.units⟩
theorem OkS.tell1{b:Bk}{N C:Nat}{s:St}(h:OkS b N C s){m:List Int}{most:Int}(hm:Xi b.cards.length m most=true)(hl:N+m.length≤1000000){i:Int}(h01:i=0∨i=1):OkS b (N+m.length) C (Tz.tell1 m s i):=by
 obtain⟨hM,ht,hc⟩:=h;have ht':=ht.tell m h01;obtain⟨t0,t1⟩:=ht;rcases h01 with rfl|rfl
 ·exact⟨⟨hM.hd,hM.s0.tell hm (by omega),hM.s1,hM.un,hM.at_⟩,ht',hc⟩
 ·exact⟨⟨hM.hd,hM.s0,hM.s1.tell hm (by omega),hM.un,hM.at_⟩,ht',hc⟩
theorem OkS.tell01{b:Bk}{N C:Nat}{s:St}(h:OkS b N C s){m:List Int}{most:Int}(hm:Xi b.cards.length m most=true)(hl:N+(m.length+m.length)≤1000000):OkS b (N+(m.length+m.length)) C (tellS s m [0,1]):=by
 have:=(h.tell1 hm (by omega) (i:=0) (.inl rfl)).tell1 hm (by omega) (i:=1) (.inr rfl);rw[Nat.add_assoc] at this;exact this
theorem OkS.drop{b:Bk}{N C:Nat}{s:St}(h:OkS b N C s)(hN:N+2≤1000000)(hC:C<1000000){i:Int}(h01:i=0∨i=1):OkS b (N+2) C (dropF s i).2.1:=by
 unfold dropF;obtain⟨hM,ht,hc⟩:=h;have hg:s.s0.grave.length<1000000∧s.s1.grave.length<1000000:=by unfold Yy at hc; omega
 rcases h01 with rfl|rfl
 ·show OkS b (N+2) C (match s.s0.hand with | []=>_|c::h=>_:Int×St×List Ev).2.1;cases hh:s.s0.hand with
  |nil=>exact OkS.mono ⟨hM,ht,hc⟩ (by omega) (Nat.le_refl _)
  |cons c r=>
   have hx:=hM.s0.hand;rw[hh] at hx;obtain⟨x1,x2⟩:=XaC hx;refine OkS.tell01 (N:=N) (m:=[c]) (most:=1) (s:=s.put 0 { s.s0 with hand:=r,grave:=s.s0.grave++[c] }) ⟨⟨hM.hd,⟨hM.s0.life,hM.s0.mana,hM.s0.most,hM.s0.deck,x1,YaC hM.s0.grave x2 (by omega),hM.s0.told,hM.s0.units⟩,hM.s1,hM.un,hM.at_⟩,ht,?_⟩ ?_ (by simpa using hN)
   ·have:Yy (s.put 0 { s.s0 with hand:=r,grave:=s.s0.grave++[c] })=Yy s:=by simp[Yy,St.put,hh]; omega
    rw[this]; exact hc
   ·rw[Qy]; simpa using x2
 ·show OkS b (N+2) C (match s.s1.hand with | []=>_|c::h=>_:Int×St×List Ev).2.1;cases hh:s.s1.hand with
  |nil=>exact OkS.mono ⟨hM,ht,hc⟩ (by omega) (Nat.le_refl _)
  |cons c r=>
   have hx:=hM.s1.hand;rw[hh] at hx;obtain⟨x1,x2⟩:=XaC hx;refine OkS.tell01 (N:=N) (m:=[c]) (most:=1) (s:=s.put 1 { s.s1 with hand:=r,grave:=s.s1.grave++[c] }) ⟨⟨hM.hd,hM.s0,⟨hM.s1.life,hM.s1.mana,hM.s1.most,hM.s1.deck,x1,YaC hM.s1.grave x2 (by omega),hM.s1.told,hM.s1.units⟩,hM.un,hM.at_⟩,ht,?_⟩ ?_ (by simpa using hN)
   ·have:Yy (s.put 1 { s.s1 with hand:=r,grave:=s.s1.grave++[c] })=Yy s:=by simp[Yy,St.put,hh]; omega
    rw[this]; exact hc
   ·rw[Qy]; simpa using x2
theorem OkS.rows{b:Bk}{N C:Nat}{s:St}(h:OkS b N C s){i:Int}(h01:i=0∨i=1):Xi b.cards.length (s.side i).deck 60=true∧Xi b.cards.length (s.side i).hand 10=true:=by
 rcases h01 with rfl|rfl
 ·exact⟨h.may.s0.deck,h.may.s0.hand⟩
 ·exact⟨h.may.s1.deck,h.may.s1.hand⟩
def itoaT(i:Nat):Tx:=if i<10 then [UInt8.ofNat (48+i)] else [UInt8.ofNat (48+i/10),UInt8.ofNat (48+i%10)]
def Zcr:Nat→Tx
 |0=>[120]
 |i+1=>120::itoaT i
def Ycn(cs:List Cd):Nat→Nat→Tx
 |0,i=>Zcr i
 |n+1,i=>if (cs.any λc=>c.name==Zcr i)=true then Ycn cs n (i+1) else Zcr i
def Zdc(cs:List Cd):Tx:=Ycn cs 62 0
def newC(cs:List Cd)(l:List Ef):Cd:=⟨Zdc cs,false,0,0,0,0,0,0,l,[],[],0⟩
def fitsB(b:Bk)(l:List Ef):Bool:=decide ((cdsChk (b.cards++[newC b.cards l])).1=0)
end Go.Ah.Tz
end
section
namespace Go.Ah.Tz
open Go.Proofs.Tryz (prog)
set_option maxRecDepth 100000
def ZcV(b:Bk)(sd fu:Int)(l:List Ef):Bool:=(((decide (sd<0)||decide (sd>1))||decide (fu<0))||decide (fu>1000)) || !fitsB b l
attribute [local irreducible] Ans.rd Ans.pu Ans.wr Ans.dr Ans.gr Ans.gw Ans.gl Ans.gd Ans.opt joinK W
set_option maxHeartbeats 8000000
theorem c150P(s:St)(hs:StLe 1000000000 s):PC 34 [stV s] (stV s):=
 Qbh (c59 s hs) ⟨List.range 11,(SB.copy (σ:=stB s) (n:=0) (λi x h=>by rw[Nat.zero_add]; exact XO h) (λi hi=>by simp_all)).agg⟩
end Go.Ah.Tz
end
section
namespace Go.Ah
theorem Tidy.map{σ:List ABlk}{v:AVal}(φ:AVal→AVal)(hφ:∀(M:Nat→Option Obj) (c:Own) (x:AVal) (u:Value),Den M c x u→Den M c (φ x) u):Tidy σ v (σ.map (λb=>b.mapV φ)) v:=by
 intro GL w0 L g w r u d;have back:∀k blk,hp (σ.map (λb=>b.mapV φ)) k=some blk→∃b0,hp σ k=some b0∧blk=b0.mapV φ:=by
  intro k blk e;have e:(σ.map (λb=>b.mapV φ))[k]?=some blk:=e;rw[List.getElem?_map,Option.map_eq_some_iff] at e;obtain⟨b0,h1,h2⟩:=e;exact⟨b0,h1,h2.symm⟩
 refine⟨g.c,?_,d⟩;exact {
  keeps:=r.keeps
  stable:=r.stable
  src:=r.src
  globs:=r.globs
  empt:=λk e=>r.empt k (by
   have e:(σ.map (λb=>b.mapV φ))[k]?=none:=e;rw[List.getElem?_map,Option.map_eq_none_iff] at e;exact e)
  dom:=λk blk e=>by
   obtain⟨b0,h1,_⟩:=back k blk e;exact r.dom k b0 h1
  own:=λk blk cb e hl ec hv=>by
   obtain⟨b0,h1,rfl⟩:=back k blk e;rw[ABlk.mapV_live] at hl;obtain⟨q1,q2,o,q3,q4⟩:=r.own k b0 cb h1 hl ec hv;exact⟨q1,q2,o,q3,q4.mapV (p:=λ_=>True) (λx v _ d=>hφ _ _ x v d) (ABlk.all_true _)⟩
  hollow:=λk blk cb e hl ec hv=>by
   obtain⟨b0,h1,rfl⟩:=back k blk e;rw[ABlk.mapV_live] at hl;have:=r.hollow k b0 cb h1 hl ec hv;subst this;rfl
  inj:=λk k' x x' cb1 cb2 e1 e2 l1 l2 c1 c2' v1 v2 hblk=>by
   obtain⟨y,h1,rfl⟩:=back k x e1;obtain⟨y',h1',rfl⟩:=back k' x' e2;rw[ABlk.mapV_live] at l1 l2;exact r.inj k k' y y' cb1 cb2 h1 h1' l1 l2 c1 c2' v1 v2 hblk }
end Go.Ah
namespace Go.Ah.Tz
open Go.Proofs.Tryz (prog)
set_option maxRecDepth 100000
section
variable (b:Bk) (hf:bkFit b=true) (hsm:Zu b.cards) (hc60:b.cards.length≤61) (s:St) (hs:StLe 1000000000 s) (sd tg fu:Int) (l:List Ef) (hl:lsFit l=true) (hPl:(efPs l).length≤500000000) (N C:Nat) (hT:TB N s) (hN:N+12000≤1000000) (hC:Yy s≤C) (hC2:C+200≤1000000)
 (hm:mayR (bkR b).1 b s true=true) (hb:ZcV b sd fu l=false)
include hf hsm hc60 hs hl hPl hT hN hC hC2 hm hb
end
end Go.Ah.Tz
end
section
namespace Go.Ah.Tz
open Go.Proofs.Tryz (prog)
set_option maxRecDepth 100000
def YH(s:St):Int:=if s.s0.life≤0∧s.s1.life≤0 then 3 else if s.s0.life≤0 then 2 else if s.s1.life≤0 then 1 else 0
attribute [local irreducible] Ans.rd Ans.pu Ans.wr Ans.dr Ans.gr Ans.gw Ans.gl Ans.gd Ans.opt joinK W
set_option maxHeartbeats 4000000
theorem w212(s:St){σ:List ABlk}{sb:Nat}(h2:hget σ sb=.box (stC s)){K:AVal→List ABlk→Prop}(hK:K (iv8 (YH s)) σ):g85.u VV [.bptr sb 0] σ K:=by
 rw[H1.e]; unfold g85; dsimp only;refine Za rfl (Za rfl (Za rfl (Za rfl (Za (v:=iv s.s0.life) (ld h2 rfl) (Za (v:=.bool (decide (s.s0.life≤0))) rfl ?_)))));refine Za rfl (Za rfl (Za rfl (Za rfl (Za (v:=iv s.s1.life) (ld h2 rfl) (Za (v:=.bool (decide (s.s1.life≤0))) rfl ?_)))));refine Zdf (d:=decide (s.s1.life≤0)) (λ_=>rfl) ?_;by_cases a:s.s0.life≤0<;>by_cases c:s.s1.life≤0
 ·rw[decide_eq_true a,decide_eq_true c];have:YH s=3:=by simp[YH,a,c]
  rw[this] at hK; exact Xc hK
 ·rw[decide_eq_true a,decide_eq_false c];have:YH s=2:=by simp[YH,a,c]
  rw[this] at hK; exact Xe (Xc hK)
 ·rw[decide_eq_false a,decide_eq_true c];have:YH s=1:=by simp[YH,a,c]
  rw[this] at hK; exact Xe (Xe (Xc hK))
 ·rw[decide_eq_false a,decide_eq_false c];have:YH s=0:=by simp[YH,a,c]
  rw[this] at hK; exact Xe (Xe (Xe hK))
end Go.Ah.Tz
end
section
namespace Go.Ah.Tz
open Go.Proofs.Tryz (prog)
set_option maxRecDepth 100000
structure Tr where
 card:Int
 side:Int
 dawn:Bool
@[reducible] def trC(x:Tr):List AVal:=[iv x.card,iv x.side,.bool x.dawn]
def LE(l:List Ev)(lv:AVal)(σ:List ABlk):Prop:=(l=[]∧lv=.nils)∨∃c rows,lv=.sl c 0 l.length false∧hget σ c=.rows 7 rows∧EvRs rows l
def QW(ws:List Tr)(qv:AVal)(σ:List ABlk):Prop:=(ws=[]∧qv=.nils)∨∃c off rows,qv=.sl c off ws.length false∧hget σ c=.rows 3 rows∧rows.length=ws.length+off∧rows.drop off=ws.map trC
def Kq(ex:List Nat)(sz:Nat)(σ σ':List ABlk):Prop:=σ.length≤σ'.length∧∀k,k<σ.length→k∉ex→(∀r,hget σ k≠.rows sz r)→hget σ' k=hget σ k
theorem Kq.trans{ex:List Nat}{sz:Nat}{σ τ υ:List ABlk}(h:Kq ex sz σ τ)(q:Kq ex sz τ υ):Kq ex sz σ υ:=
 ⟨Nat.le_trans h.1 q.1,λk hk hn hr=>by rw[q.2 k (Nat.lt_of_lt_of_le hk h.1) hn (by rw[h.2 k hk hn hr]; exact hr),h.2 k hk hn hr]⟩
theorem Kq.app(ex:List Nat)(sz:Nat)(σ l:List ABlk):Kq ex sz σ (σ++l):=⟨by simp,λ_ hk _ _=>QG l hk⟩
theorem Kq.set{ex:List Nat}(sz:Nat)(σ:List ABlk){b:Nat}(x:ABlk)(h:b∈ex):Kq ex sz σ (σ.set b x):=
 ⟨by simp,λk hk hn _=>Zo x hk (λe=>hn (e▸h))⟩
theorem Kq.more{ex ex':List Nat}{sz:Nat}{σ τ:List ABlk}(h:Kq ex sz σ τ)(hs:∀k∈ex,k∈ex'):Kq ex' sz σ τ:=⟨h.1,λk hk hn hr=>h.2 k hk (λe=>hn (hs k e)) hr⟩
theorem Kq.box{ex:List Nat}{sz:Nat}{σ τ:List ABlk}(h:Kq ex sz σ τ){k:Nat}{row:List AVal}(hk:hget σ k=.box row)(hn:k∉ex):hget τ k=.box row:=by
 rw[h.2 k (Qn hk (by simp)) hn (by rw[hk]; simp),hk]
theorem Kq.rows{ex:List Nat}{sz s:Nat}{σ τ:List ABlk}(h:Kq ex sz σ τ){k:Nat}{rs:List (List AVal)}(hk:hget σ k=.rows s rs)(hn:k∉ex)(hs:s≠sz):hget τ k=.rows s rs:=by
 rw[h.2 k (Qn hk (by simp)) hn (by simp_all),hk]
def Bx(σ:List ABlk)(ex:List Nat):Prop:=∀k∈ex,∃row,hget σ k=.box row
theorem Bx.rows{σ:List ABlk}{ex:List Nat}(h:Bx σ ex){k s:Nat}{rs:List (List AVal)}(hk:hget σ k=.rows s rs):k∉ex:=by
 intro e;obtain⟨row,hr⟩:=h k e;rw[hk] at hr; cases hr
theorem LE.mono{l:List Ev}{lv:AVal}{σ τ:List ABlk}(h:LE l lv σ)(hk:∀c rs,hget σ c=.rows 7 rs→hget τ c=.rows 7 rs):LE l lv τ:=by
 rcases h with h|⟨c,rows,h1,h2,h3⟩
 ·exact .inl h
 ·exact .inr ⟨c,rows,h1,hk _ _ h2,h3⟩
theorem QW.mono{ws:List Tr}{qv:AVal}{σ τ:List ABlk}(h:QW ws qv σ)(hk:∀c rs,hget σ c=.rows 3 rs→hget τ c=.rows 3 rs):QW ws qv τ:=by
 rcases h with h|⟨c,off,rows,h1,h2,h3⟩
 ·exact .inl h
 ·exact .inr ⟨c,off,rows,h1,hk _ _ h2,h3⟩
theorem Qba{σ:List ABlk}(l:List ABlk){c s:Nat}{rs:List (List AVal)}(h:hget σ c=.rows s rs):hget (σ++l) c=.rows s rs:=Xj l h (by simp)
theorem XcO{σ:List ABlk}{b c s:Nat}{rs:List (List AVal)}{row:List AVal}(x:ABlk)(hb:hget σ b=.box row)(h:hget σ c=.rows s rs):hget (σ.set b x) c=.rows s rs:=
 Yp h (by simp) (by rintro rfl; rw[hb] at h; cases h)
theorem XcI(n by_:Nat){σ:List ABlk}{ys:List (List AVal)}{y:AVal}{rd:List Nat}(hy:Zq n σ y=some (ys,rd))(hr:rowsCell ys=true)(hroom:(2*ys.length+192)*by_≤2 ^ 48) :
  Yl n by_ [.nils,y] σ=.ok (.sl σ.length 0 ys.length false) rd [(σ.length,.rows n ys)]:=by
 show QL n by_ σ [] [] y=_;simp_all [QL,Nat.ble_eq_true_of_le]
theorem Qc2{n:Nat}{σ:List ABlk}{e nn:Bool}{rows:List (List AVal)}:Zq n σ (.rsl e nn n rows)=some (rows,[]):=by
 simp[Zq]
theorem EvRs.app{rows ys:List (List AVal)}{l m:List Ev}(h:EvRs rows l)(k:EvRs ys m):EvRs (rows++ys) (l++m):=by
 induction k with
 |nil=>simpa using h
 |snoc rows2 l2 e cv _ hcv ih=>rw[←List.append_assoc,←List.append_assoc]; exact .snoc _ _ _ _ ih hcv
structure RS (b:Bk) (s:St) (fu:Int) (l:List Ev) (ws:List Tr) (eb qb:Nat) (τ:List ABlk):Prop where
 hb:hget τ 0=.box (bkC b)
 hs:hget τ 1=.box (stC s)
 hf:hget τ 2=.box [iv fu]
 hr:hget τ 3=.box zStC
 he:∃lv,hget τ eb=.box [lv]∧LE l lv τ
 hq:∃qv,hget τ qb=.box [qv]∧QW ws qv τ
 e3:3<eb
 eq:eb<qb
theorem RS.agr{b:Bk}{s:St}{fu:Int}{l:List Ev}{ws:List Tr}{eb qb:Nat}{τ τ':List ABlk}(h:RS b s fu l ws eb qb τ)(k:Agr τ τ' []):RS b s fu l ws eb qb τ':=by
 obtain⟨hb,hs,hf,hr,⟨lv,he,hl⟩,⟨qv,hq,hw⟩,e3,eq⟩:=h;have g:∀ {c x},hget τ c=x→x≠.dead→hget τ' c=x:=λhx hd=>k.get hx hd (by simp);exact⟨g hb (by simp),g hs (by simp),g hf (by simp),g hr (by simp),⟨lv,g he (by simp),hl.mono λc rs h=>g h (by simp)⟩,⟨qv,g hq (by simp),hw.mono λc rs h=>g h (by simp)⟩,e3,eq⟩
theorem RS.app{b:Bk}{s:St}{fu:Int}{l:List Ev}{ws:List Tr}{eb qb:Nat}{τ:List ABlk}(h:RS b s fu l ws eb qb τ)(x:ABlk):RS b s fu l ws eb qb (τ++[x]):=h.agr (Agr.app1 τ x)
theorem RS.kq7{b:Bk}{s s':St}{fu fu':Int}{l l':List Ev}{ws:List Tr}{lv':AVal}{eb qb:Nat}{τ τ':List ABlk}(h:RS b s fu l ws eb qb τ)(q1:hget τ' 1=.box (stC s'))(q2:hget τ' 2=.box [iv fu'])(q3:hget τ' eb=.box [lv'])(w:LE l' lv' τ')(k:Kq [1,2,eb] 7 τ τ'):RS b s' fu' l' ws eb qb τ':=by
 obtain⟨hb,hs,hf,hr,⟨lv,he,hl⟩,⟨qv,hq,hw⟩,e3,eq⟩:=h;have nr:∀ {c rs},hget τ c=.rows 3 rs→c∉[1,2,eb]:=by
  intro c rs hc;simp only[List.mem_cons,List.not_mem_nil,or_false,not_or];refine⟨?_,?_,?_⟩
  ·rintro rfl; rw[hs] at hc; cases hc
  ·rintro rfl; rw[hf] at hc; cases hc
  ·rintro rfl; rw[he] at hc; cases hc
 exact⟨k.box hb (by simp; omega),q1,q2,k.box hr (by simp; omega),⟨lv',q3,w⟩,⟨qv,k.box hq (by simp; omega),hw.mono λc rs h=>k.rows h (nr h) (by decide)⟩,e3,eq⟩
end Go.Ah.Tz
end
section
namespace Go.Ah.Tz
open Go.Proofs.Tryz (prog)
set_option maxRecDepth 100000
attribute [local irreducible] Ans.rd Ans.pu Ans.wr Ans.dr Ans.gr Ans.gw Ans.gl Ans.gd Ans.opt joinK W
set_option maxHeartbeats 8000000
theorem LE.cells{l:List Ev}{lv:AVal}{σ:List ABlk}(h:LE l lv σ):cellsOf lv=some [lv]:=by
 rcases h with ⟨_,rfl⟩|⟨c,rows,rfl,_⟩<;>rfl
end Go.Ah.Tz
end
section
namespace Go.Ah.Tz
open Go.Proofs.Tryz (prog)
set_option maxRecDepth 100000
theorem RS.evs{b:Bk}{s:St}{fu:Int}{l l':List Ev}{ws:List Tr}{eb qb:Nat}{τ τ':List ABlk}{nv:AVal}(h:RS b s fu l ws eb qb τ)(k:Kq [] 7 τ τ')(hl:LE l' nv τ'):RS b s fu l' ws eb qb (τ'.set eb (.box [nv])):=by
 obtain⟨lv,he,_⟩:=h.he;have e3:=h.e3;have he':=k.box he (by simp);exact h.kq7 (Yp (k.box h.hs (by simp)) (by simp) (by omega)) (Yp (k.box h.hf (by simp)) (by simp) (by omega)) (Qs _ (Qn he' (by simp))) (hl.mono λc rs q=>XcO _ he' q) ((k.more (by simp)).trans (Kq.set 7 τ' _ (by simp)))
def badT(b:Bk)(x:Tr):Bool:=((decide (x.card<0)||decide (x.card ≥ b.cards.length))||decide (x.side<0))||decide (x.side>1)
end Go.Ah.Tz
end
section
namespace Go.Ah.Tz
open Go.Proofs.Tryz (prog)
set_option maxRecDepth 100000
attribute [local irreducible] Ans.rd Ans.pu Ans.wr Ans.dr Ans.gr Ans.gw Ans.gl Ans.gd Ans.opt joinK W
set_option maxHeartbeats 8000000
section
variable (b:Bk) (s:St) (hs9:StLe 1000000000 s) (hm:mayR (bkR b).1 b s true=true) (h67:PC 24 [bkV b] (.agg [iv (bkR b).1,iv (bkR b).2])) (sd tg:Int) (h01:sd=0∨sd=1)
include hs9 hm h67 h01
end
end Go.Ah.Tz
end
section
namespace Go.Ah.Tz
open Go.Proofs.Tryz (prog)
set_option maxRecDepth 100000
attribute [local irreducible] Ans.rd Ans.pu Ans.wr Ans.dr Ans.gr Ans.gw Ans.gl Ans.gd Ans.opt joinK W
set_option maxHeartbeats 8000000
section
variable (b:Bk) (s:St) (hs9:StLe 1000000000 s) (hm:mayR (bkR b).1 b s true=true) (h67:PC 24 [bkV b] (.agg [iv (bkR b).1,iv (bkR b).2])) (sd tg:Int) (h01:sd=0∨sd=1)
include hs9 hm h67 h01
end
end Go.Ah.Tz
end
section
namespace Go.Ah.Tz
open Go.Proofs.Tryz (prog)
set_option maxRecDepth 100000
def OW(q:Nat→Prop)(σ:List ABlk)(v:AVal)(l:List Int):Prop:=v=rowV l∨(v=.nils∧l=[])∨∃c,v=.sl c 0 l.length false∧hget σ c=.rows 1 (l.map cel)∧q c
variable {q:Nat→Prop}
theorem OW.mono{σ τ:List ABlk}{v:AVal}{l:List Int}(h:OW q σ v l)(hk:∀c rs,hget σ c=.rows 1 rs→hget τ c=.rows 1 rs):OW q τ v l:=by
 rcases h with h|h|⟨c,h1,h2⟩
 ·exact .inl h
 ·exact .inr (.inl h)
 ·exact .inr (.inr ⟨c,h1,hk c _ h2.1,h2.2⟩)
theorem OW.wk{q':Nat→Prop}{σ:List ABlk}{v:AVal}{l:List Int}(h:OW q σ v l)(hk:∀c,q c→c<σ.length→q' c):OW q' σ v l:=by
 rcases h with h|h|⟨c,h1,h2,h3⟩
 ·exact .inl h
 ·exact .inr (.inl h)
 ·exact .inr (.inr ⟨c,h1,h2,hk c h3 (Qn h2 (by simp))⟩)
theorem OW.app{σ:List ABlk}{v:AVal}{l:List Int}(h:OW q σ v l)(x:List ABlk):OW q (σ++x) v l:=h.mono λ_ _ e=>Qba _ e
theorem OW.src{σ:List ABlk}{v:AVal}{l:List Int}(h:OW q σ v l):∃rd,Zq 1 σ v=some (l.map cel,rd):=by
 rcases h with rfl|⟨rfl,rfl⟩|⟨c,rfl,h2,_⟩
 ·exact⟨[],Qc2⟩
 ·exact⟨[],rfl⟩
 ·exact⟨[c],YbM h2 (by simp)⟩
theorem OW.cell{σ:List ABlk}{v:AVal}{l:List Int}(h:OW q σ v l):cellsOf v=some [v]:=by
 rcases h with rfl|⟨rfl,rfl⟩|⟨c,rfl,h2,_⟩<;>rfl
theorem OW.len{σ:List ABlk}{v:AVal}{l:List Int}(h:OW q σ v l):Xo [v] σ=.ok (iv l.length) [] []:=by
 rcases h with rfl|⟨rfl,rfl⟩|⟨c,rfl,h2,_⟩
 ·simp[Xo]
 ·rfl
 ·rfl
theorem Ybm(l:List Int):rowsCell (l.map cel)=true:=Zan λr hr=>by obtain⟨x,_,rfl⟩:=List.mem_map.1 hr; rfl
theorem QcX{σ:List ABlk}{v:AVal}{l:List Int}{rd:List Nat}(h:Zq 1 σ v=some (l.map cel,rd))(hl:l.length≤1000000000):Yl 1 8 [.nils,v] σ=.ok (.sl σ.length 0 l.length false) rd [(σ.length,.rows 1 (l.map cel))]:=by
 have:=XcI 1 8 h (Ybm l) (by simp; omega);simpa using this
def ER(q:Nat→Prop)(σ:List ABlk)(rows:List (List AVal))(l:List Ev):Prop:=rows.length=l.length∧∀(i:Nat) (row:List AVal) (e:Ev),rows[i]?=some row→l[i]?=some e→∃cv,row=evX e cv∧OW q σ cv e.cards
def LO(q:Nat→Prop)(l:List Ev)(lv:AVal)(σ:List ABlk):Prop:=(l=[]∧lv=.nils)∨∃c rows,lv=.sl c 0 l.length false∧hget σ c=.rows 7 rows∧ER q σ rows l
theorem ER.mono{σ τ:List ABlk}{rows:List (List AVal)}{l:List Ev}(h:ER q σ rows l)(hk:∀c rs,hget σ c=.rows 1 rs→hget τ c=.rows 1 rs):ER q τ rows l:=
 ⟨h.1,λi row e q1 q2=>by obtain⟨cv,h1,h2⟩:=h.2 i row e q1 q2; exact⟨cv,h1,h2.mono hk⟩⟩
theorem LO.mono{σ τ:List ABlk}{l:List Ev}{lv:AVal}(h:LO q l lv σ)(hk:∀c n rs,hget σ c=.rows n rs→hget τ c=.rows n rs):LO q l lv τ:=by
 rcases h with h|⟨c,rows,h1,h2,h3⟩
 ·exact .inl h
 ·exact .inr ⟨c,rows,h1,hk c 7 _ h2,h3.mono λc rs=>hk c 1 rs⟩
theorem LO.cells{σ:List ABlk}{l:List Ev}{lv:AVal}(h:LO q l lv σ):cellsOf lv=some [lv]:=by
 rcases h with ⟨_,rfl⟩|⟨c,rows,rfl,_⟩<;>rfl
theorem OW.isCell{σ:List ABlk}{v:AVal}{l:List Int}(h:OW q σ v l):v.cell=true:=by
 rcases h with rfl|⟨rfl,rfl⟩|⟨c,rfl,h2,_⟩<;>rfl
theorem ER.rowsCell{σ:List ABlk}{rows:List (List AVal)}{l:List Ev}(h:ER q σ rows l):rowsCell rows=true:=Zan λr hr=>by
 obtain⟨i,hi,rfl⟩:=List.mem_iff_getElem.1 hr;have hi2:i<l.length:=by rw[←h.1]; exact hi
 obtain⟨cv,h1,h2⟩:=h.2 i rows[i] l[i] (by simp) (by simp);rw[h1];show (true&&(true&&(true&&(true&&(true&&(true&&(cv.cell&&true)))))))=true;rw[h2.isCell]; rfl
theorem ER.app{σ:List ABlk}{rows ys:List (List AVal)}{l m:List Ev}(h:ER q σ rows l)(k:ER q σ ys m):ER q σ (rows++ys) (l++m):=by
 refine⟨by simp[h.1,k.1],λi row e q1 q2=>?_⟩;by_cases hi:i<rows.length
 ·rw[List.getElem?_append_left hi] at q1;rw[List.getElem?_append_left (by rw[←h.1]; exact hi)] at q2;exact h.2 i row e q1 q2
 ·rw[List.getElem?_append_right (by omega)] at q1;rw[List.getElem?_append_right (by rw[←h.1]; omega),←h.1] at q2;exact k.2 _ row e q1 q2
@[reducible] def rrC(b:Bk)(s:St)(h0 g0 t0 h1 g1 t1:AVal)(sd tg:Int)(lv:AVal)(fu e:Int):List AVal:=
 bkC b++(stQ s (rowV s.attack) (rowV s.s0.deck) h0 g0 (thV s.s0.units) t0 (rowV s.s1.deck) h1 g1 (thV s.s1.units) t1++[iv sd,iv tg,lv,iv fu,iv e])
def RR1(p:Nat→Prop)(σ:List ABlk)(rb:Nat)(b:Bk)(s:St)(sd tg fu e:Int)(l:List Ev):Prop:=
 ∃h0 g0 t0 h1 g1 t1 lv,hget σ rb=.box (rrC b s h0 g0 t0 h1 g1 t1 sd tg lv fu e)∧OW (¬p ·) σ h0 s.s0.hand∧OW (¬p ·) σ g0 s.s0.grave∧OW (¬p ·) σ t0 s.s0.told∧OW (¬p ·) σ h1 s.s1.hand∧OW (¬p ·) σ g1 s.s1.grave∧OW (¬p ·) σ t1 s.s1.told∧LO p l lv σ
def RR(σ:List ABlk)(rb:Nat)(b:Bk)(s:St)(sd tg fu e:Int)(l:List Ev):Prop:=∃p:Nat→Prop,(∀c,p c→c<σ.length)∧RR1 p σ rb b s sd tg fu e l
attribute [local irreducible] Ans.rd Ans.pu Ans.wr Ans.dr Ans.gr Ans.gw Ans.gl Ans.gd Ans.opt joinK W
set_option maxHeartbeats 8000000
structure Hold (B:Prop):Prop where
 get:B
end Go.Ah.Tz
end
section
namespace Go.Ah.Tz
open Go.Proofs.Tryz (prog)
set_option maxRecDepth 100000
theorem Qc1(x:Int)(i:Nat)(hi:i≤1000000000):(IntKind.i64.wrap (IntKind.i64.wrap (x.tmod ((i+1:Nat):Int)+(i:Int))+1)).tmod ((i+1:Nat):Int)=modF x (i+1):=by
 have h1:=Int.tmod_lt_of_pos x (b:=((i+1:Nat):Int)) (by omega);have h2:=Int.lt_tmod_of_pos x (b:=((i+1:Nat):Int)) (by omega);rw[wrapI (n:=x.tmod ((i+1:Nat):Int)+i) (by omega) (by omega),wrapI (by omega) (by omega)];unfold modF;rw[wrapI (by omega) (by omega)]
 congr 1; omega
theorem Qde{a:Int}{n:Nat}(h0:0≤a)(h1:a<n)(hn:n≤1000000000):(a+1).tmod n=modF (a+1) n:=by
 unfold modF;have e:(a+1).tmod n=(a+1)%n:=Int.tmod_eq_emod_of_nonneg (by omega);have g0:=Int.emod_nonneg (a+1) (b:=(n:Int)) (by omega);have g1:=Int.emod_lt_of_pos (a+1) (b:=(n:Int)) (by omega);rw[e,wrapI (by omega) (by omega),Int.tmod_eq_emod_of_nonneg (by omega),Int.add_emod_right,Int.emod_emod]
attribute [local irreducible] Ans.rd Ans.pu Ans.wr Ans.dr Ans.gr Ans.gw Ans.gl Ans.gd Ans.opt joinK W
set_option maxHeartbeats 4000000
theorem j105(deck d:List Int)(hk:deck.length≤1000000000)(hd:d.length≤1000000000)(f:Int):PC 9 [rowV deck,rowV d,iv f] (.tup [rowV (shuffle deck d f).1,iv (shuffle deck d f).2]):=by
 refine Xm hP g9.ok rfl ?_;rw[H3.e]; unfold g9; dsimp only;refine Zd (QcX (l:=deck) (rd:=[]) rfl hk) (QE [] _) ?_;refine Za (v:=iv d.length) (rd:=[]) (by simp[Xo]) (Za (Xab ..) ?_);refine Yh λkj hkj=>?_;have kk:kj [iv (begF d f)] [.rows 1 (deck.map cel)]:=by
  rw[hkj]; clear hkj kj;refine Za (v:=iv deck.length) (rd:=[]) rfl (Za (ZcJ ..) ?_);rw[wrapI (by omega) (by omega)];have hok:=ZE hk hd f;have hbeg:SameCt deck deck:=⟨rfl,λ_=>rfl⟩;refine Zg (ι:=Nat) (λi vs σ=>∃(L:List Int) (a:Int),vs=[iv (if i=0 then (deck.length:Int)-1-(deck.length-1:Nat) else i),iv a]∧σ=[.rows 1 (L.map cel)]∧SameCt L deck∧AtOk d a∧(i=0∨i<L.length)∧shufF d i L a=shuffle deck d f) (λi=>i) (deck.length-1) ⟨deck,begF d f,?_,rfl,hbeg,Xbz hd f,by omega,rfl⟩ ?_
  ·split
   ·rename_i h; rw[h]; simp
   ·congr 2; omega
  rintro i vs σ again ⟨L,a,rfl,rfl,hs,ha,hi,hF⟩ hag;cases i with
  |zero=>
   simp only[if_true];refine Za rfl (Zb (λh=>?_) (λ_=>?_))
   ·simp at h; omega
   rw[shufF] at hF;rw[←hF];exact⟨[0],Bor.tup (.cons (RI.own rfl (by simp) hs.1.symm) (.cons (Bor.ro rfl) .nil))⟩
  |succ i=>
   have hl:=hs.1;have hi2:i+1<L.length:=by omega
   rw[if_neg (by omega)];refine Za rfl (Zb (λ_=>?_) (λh=>by simp at h));refine Za (Xab ..) ?_;refine Yh λkl hkl=>?_;have kl2:kl [iv (drwF d a).1,iv (drwF d a).2] [.rows 1 (L.map cel)]:=by
    rw[hkl]; clear hkl kl;refine Za (Yf ..) ?_;rw[Qc (n:=i+1) (by omega)];refine Za (QaP (by omega)) (Za (Yf ..) (Za (Yf ..) (Za (Yf ..) ?_)));rw[Qc (n:=i+1) (by omega)];refine Za (QaP (by omega)) ?_;rw[Qc1 _ (i+1) (by omega)];obtain⟨j,j1,j2⟩:=XaT (n:=i+2) (by omega) (by omega) (drwF d a).1;have hF':=hF;rw[shufF,j2] at hF';rw[j2];have hj:j<L.length:=by omega
    simp only[Int.toNat_natCast] at hF';have gj:(L.map cel)[j]?=some (cel L[j]):=by simp[hj]
    have gi:(L.map cel)[i+1]?=some (cel L[i+1]):=by simp[hi2]
    have ix:∀(M:List Int) (k:Nat),k<deck.length→Zj 1 [.sl 0 0 deck.length false,iv k] [.rows 1 (M.map cel)]=.ok (.ptr 0 k 0) [0] []:=by
     intro M k hk;have q:=YbC (σ:=[.rows 1 (M.map cel)]) 0 0 deck.length false 1 (M.map cel) .i64 k hk rfl
     rwa [Nat.zero_add] at q
    refine Qe (ix L j (by omega)) rfl (Qe (v:=iv L[j]) (ldp rfl gj rfl) rfl (Qe (ix L (i+1) (by omega)) rfl (Qe (v:=iv L[i+1]) (ldp rfl gi rfl) rfl (Qe (ix L (i+1) (by omega)) rfl ?_))));refine Qe (ZaK (L:=L) (m:=i+1) rfl hi2 L[j]) rfl (Qe (ix (L.set (i+1) L[j]) j (by omega)) rfl (Qe (ZaK (L:=L.set (i+1) L[j]) (m:=j) rfl (by simpa using hj) L[i+1]) rfl (XX (by kernel_rfl) ?_)));refine Za (ZcJ ..) ?_;rw[wrapI (by omega) (by omega)];have es:(L.set (i+1) L[j]).set j L[i+1]=swp L (i+1) j:=by simp[swp,hi2,hj]
    refine hag i _ _ (by omega) ⟨swp L (i+1) j,(drwF d a).2,?_,by rw[es],ZcC hs hi2 hj,ZbC hd ha,by simp[swp]; omega,hF'⟩
    congr 2
    split
    ·rename_i h; subst h; omega
    ·omega
   refine Zb (λh=>?_) (λh=>?_)
   ·have h:0<d.length:=by simpa using h
    obtain⟨a1,a2,a3⟩:=ha;have a4:=a3 (List.length_pos_iff.1 h);obtain⟨k,rfl⟩:∃k:Nat,a=k:=⟨a.toNat,by omega⟩;have hk:k<d.length:=by omega
    have e:drwF d k=(d[k],modF ((k+1:Nat):Int) d.length):=by unfold drwF; rw[if_neg (by omega)]; simp[hk]
    rw[e] at kl2;refine Za (Yk _ cel _ _ _ d _ k hk) (Za (v:=iv d[k]) (ldr rfl) (Za (Yf ..) ?_));rw[Qc (n:=k) (by omega)];refine Za (QaP h) ?_;have er:=Qde (a:=k) (n:=d.length) (by omega) (by omega) (by omega);rw[show ((k:Int)+1)=((k+1:Nat):Int) by omega] at er;rw[er];exact kl2
   ·have h:d.length=0:=by simpa using h
    have e:drwF d a=(0,a):=by unfold drwF; rw[if_pos h]
    rw[e] at kl2;exact kl2
 refine Zb (λh=>?_) (λh=>?_)
 ·have h:0<d.length:=by simpa using h
  refine Za (QaP h) (Za (Yf ..) (Za (QaP h) ?_));have e:begF d f=modF f d.length:=by unfold begF; rw[if_neg (by omega)]
  rw[e] at kk;exact kk
 ·have h:d.length=0:=by simpa using h
  have e:begF d f=0:=by unfold begF; rw[if_pos h]
  rw[e] at kk;exact kk
end Go.Ah.Tz
end
section
namespace Go.Ah.Tz
open Go.Proofs.Tryz (prog)
set_option maxRecDepth 100000
theorem YR{b:Bk}{s:St}(h:MayP b s):StLe 1000000 s:=by
 obtain⟨hd,h0,h1,_,ha⟩:=h;have side:∀x:Sd,SideP b x→SdLe 1000000 x:=by
  intro x k;have k1:=(Qy.1 k.deck).1;have k2:=(Qy.1 k.hand).1;have k3:=(Qy.1 k.grave).1;have k4:=(Qy.1 k.told).1;have k5:=k.units;exact⟨by omega,by omega,by omega,by omega,by omega⟩
 refine⟨?_,side _ h0,side _ h1⟩;by_cases hp:s.phase=1
 ·have:=(ha.2 hp).2.1; omega
 ·rw[ha.1 hp]; simp
@[reducible] def Qo(l m o:Int)(d h t:List Int)(d' h' t':List Int):St:=⟨1,0,0,false,0,[],1,⟨l,m,o,d,h,[],[],t⟩,⟨20,0,0,d',h',[],[],t'⟩⟩
def inB(b:Bk)(l:List Int):Bool:=l.all λc=>decide (0≤c)&&decide (c<b.cards.length)
theorem Ya4{b:Bk}{l:List Int}{n:Int}(h:inB b l=true)(hn:(l.length:Int)≤n):Xi b.cards.length l n=true:=by
 simp only[Xi,inB] at *;rw[h,decide_eq_true hn]; rfl
theorem Qas{b:Bk}(hb:(bkR b).1=0){l m o:Int}{d h t d' h' t':List Int}(hl:l=20∨l=19)(hm:m=0∨m=1)(ho:o=0∨o=1)(b1:inB b d=true)(b2:inB b h=true)(b3:inB b t=true)(b4:inB b d'=true)(b5:inB b h'=true)(b6:inB b t'=true)
 (n1:d.length≤60)(n2:h.length≤10)(n3:t.length≤10)(n4:d'.length≤60)(n5:h'.length≤10)(n6:t'.length≤10):mayR (bkR b).1 b (Qo l m o d h t d' h' t') true=true:=by
 refine Q0.2 ⟨hb,by simp[HdP],?_,?_,⟨by simp,by simp⟩,by simp[AtP]⟩
 ·refine⟨?_,?_,?_,Ya4 b1 (Int.ofNat_le.2 n1),Ya4 b2 (Int.ofNat_le.2 n2),rfl,Ya4 b3 (Int.ofNat_le.2 (Nat.le_trans n3 (by decide))),Nat.zero_le _⟩
  ·rcases hl with rfl|rfl<;>rfl
  ·show 0≤m∧wIn m=true;rcases hm with rfl|rfl<;>exact⟨by decide,rfl⟩
  ·show 0≤o∧o≤10;rcases ho with rfl|rfl<;>exact⟨by decide,by decide⟩
 ·exact⟨rfl,⟨Int.le_refl 0,rfl⟩,⟨Int.le_refl 0,by show (0:Int)≤10; decide⟩,Ya4 b4 (Int.ofNat_le.2 n4),Ya4 b5 (Int.ofNat_le.2 n5),rfl,Ya4 b6 (Int.ofNat_le.2 (Nat.le_trans n6 (by decide))),Nat.zero_le _⟩
theorem Yai{b:Bk}{l m:List Int}(h:SameCt l m)(hm:inB b m=true):inB b l=true:=by
 simp only[inB,List.all_eq_true] at hm ⊢;intro c hc;refine hm c (List.count_pos_iff.1 ?_);rw[←h.2 c]; exact List.count_pos_iff.2 hc
theorem ZbU{b:Bk}{l:List Int}(h:inB b l=true)(n:Nat):inB b (l.take n)=true:=by
 simp only[inB,List.all_eq_true] at h ⊢;exact λc hc=>h c (List.mem_of_mem_take hc)
theorem QbT{b:Bk}{l:List Int}(h:inB b l=true)(n:Nat):inB b (l.drop n)=true:=by
 simp only[inB,List.all_eq_true] at h ⊢;exact λc hc=>h c (List.mem_of_mem_drop hc)
@[reducible] def n4(l:List Int):Nat:=min 4 l.length
@[reducible] def Qaa(m:Int)(p q:List Int):St:=Qo 20 m m (p.drop (n4 p)) (p.take (n4 p)) (p.take (n4 p)) (q.drop (n4 q)) (q.take (n4 q)) (q.take (n4 q))
theorem Zax{b:Bk}(hb:(bkR b).1=0){p q:List Int}(hp:inB b p=true)(hq:inB b q=true)(np:p.length≤60)(nq:q.length≤60) :
  mayR (bkR b).1 b (Qaa 0 p q) true=true∧mayR (bkR b).1 b (Qaa 1 p q) true=true∧∃(L:Int) (D H T:List Int) (ev:Ev),drawF (Qaa 1 p q) 0=(Qo L 1 1 D H T (q.drop (n4 q)) (q.take (n4 q)) (q.take (n4 q)),ev,0)∧0<L∧mayR (bkR b).1 b (Qo L 1 1 D H T (q.drop (n4 q)) (q.take (n4 q)) (q.take (n4 q))) true=true:=by
 have len:∀l:List Int,(l.take (n4 l)).length≤4:=by intro l; simp[n4]; omega
 have l1:=len p;have l2:=len q;have l3:(p.drop (n4 p)).length≤60:=by simp; omega
 have l4:(q.drop (n4 q)).length≤60:=by simp; omega
 have k1:=ZbU hp (n4 p);have k2:=ZbU hq (n4 q);have k3:=QbT hp (n4 p);have k4:=QbT hq (n4 q);unfold Qaa;generalize hD:p.drop (n4 p)=D at *;generalize p.take (n4 p)=H at *;generalize q.drop (n4 q)=D' at *;generalize q.take (n4 q)=H' at *;refine⟨Qas hb (.inl rfl) (.inl rfl) (.inl rfl) k3 k1 k1 k4 k2 k2 l3 (by omega) (by omega) l4 (by omega) (by omega),Qas hb (.inl rfl) (.inr rfl) (.inr rfl) k3 k1 k1 k4 k2 k2 l3 (by omega) (by omega) l4 (by omega) (by omega),?_⟩;cases D with
 |nil=>exact⟨19,[],H,H,_,rfl,by decide,Qas hb (.inr rfl) (.inr rfl) (.inr rfl) k3 k1 k1 k4 k2 k2 l3 (by omega) (by omega) l4 (by omega) (by omega)⟩
 |cons c D=>
  have kc:inB b D=true:=by simp[inB] at k3 ⊢; exact k3.2
  have kh:inB b (H++[c])=true:=by simp[inB] at k3 k1 ⊢; exact⟨k1,k3.1⟩
  simp only[List.length_cons] at l3;refine⟨20,D,H++[c],H++[c],⟨3,0,c,0,0,0,[]⟩,?_,by decide,Qas hb (.inl rfl) (.inr rfl) (.inr rfl) kc kh kh k4 k2 k2 (by omega) (by simp; omega) (by simp; omega) l4 (by omega) (by omega)⟩;show (if 10≤H.length then _ else _)=_;rw[if_neg (by omega)]; rfl
theorem Qb2(s:St)(k:Int):(drawF s k).2.1.cards=[]:=by
 unfold drawF;split
 ·split<;>rfl
 ·split<;>rfl
@[reducible] def turnE:List AVal:=[iv8 0,iv 0,iv 0,iv 0,iv 0,iv 1,.nils]
def begR(b:Bk)(d0 d1 dr:List Int):St×List (List AVal)×Int:=
 if (bkR b).1≠0 then (zSt,[],170) else if (inB b d0&&inB b d1)=false then (zSt,[],2) else if 60<d0.length∨60<d1.length∨256<dr.length then (zSt,[],3) else
 let p:=shuffle d0 dr 0
 let r:=drawF (Qaa 1 p.1 (shuffle d1 dr p.2).1) 0
 (r.1,[turnE,evC r.2.1],0)
def begV(b:Bk)(d0 d1 dr:List Int):AVal:=.tup [stV (begR b d0 d1 dr).1,.rsl false false 7 (begR b d0 d1 dr).2.1,iv (begR b d0 d1 dr).2.2]
theorem XD{b:Bk}{d0 d1 dr:List Int}{e:Int}(h:begR b d0 d1 dr=(zSt,[],e))(σ:List ABlk):∃rd,Bor (hp σ) rd (.tup [.agg zStC,.nils,iv e]) (begV b d0 d1 dr):=by
 rw[begV,h];exact⟨[],Bor.tup (.cons SB.zero.agg (.cons (Bor.weak (Bor.ro rfl) (λM u d=>d.nils_rsl 7)) (.cons (Bor.ro rfl) .nil)))⟩
theorem ZcW{b:Bk}{d0 d1 dr:List Int}(k0:d0.length≤1000000000)(k1:d1.length≤1000000000)(k2:dr.length≤1000000000):StLe 1000000000 (begR b d0 d1 dr).1∧(begR b d0 d1 dr).2.1.length≤2∧∀r∈(begR b d0 d1 dr).2.1,r=turnE∨∃e:Ev,r=evC e∧e.cards.length≤1000000000:=by
 have z:StLe 1000000000 zSt:=⟨Nat.zero_le _,⟨Nat.zero_le _,Nat.zero_le _,Nat.zero_le _,Nat.zero_le _,Nat.zero_le _⟩,⟨Nat.zero_le _,Nat.zero_le _,Nat.zero_le _,Nat.zero_le _,Nat.zero_le _⟩⟩;unfold begR;split
 ·exact⟨z,Nat.zero_le _,λr h=>by cases h⟩
 split
 ·exact⟨z,Nat.zero_le _,λr h=>by cases h⟩
 split
 ·exact⟨z,Nat.zero_le _,λr h=>by cases h⟩
 rename_i hb hi hl;have sp:=ZE k0 k2 0;have sq:=ZE k1 k2 (shuffle d0 dr 0).2;have i0:inB b d0=true:=by cases e:inB b d0<;>simp_all
 have i1:inB b d1=true:=by cases e:inB b d1<;>simp_all
 obtain⟨_,_,L,D,H,T,ev,f2,_,f4⟩:=Zax (by simpa using hb) (Yai sp.1 i0) (Yai sq.1 i1) (by rw[sp.1.1]; omega) (by rw[sq.1.1]; omega);refine⟨?_,Nat.le_refl 2,λr h=>?_⟩
 ·show StLe 1000000000 (drawF (Qaa 1 _ _) 0).1;rw[f2]; exact(YR (Q0.1 f4).2).mono (by decide)
 ·simp only[List.mem_cons,List.not_mem_nil,or_false] at h;rcases h with rfl|rfl
  ·exact .inl rfl
  ·exact .inr ⟨_,rfl,by rw[Qb2]; exact Nat.zero_le _⟩
end Go.Ah.Tz
end
section
namespace Go.Ah.Tz
open Go.Proofs.Tryz (prog)
set_option maxRecDepth 100000
attribute [local irreducible] Ans.rd Ans.pu Ans.wr Ans.dr Ans.gr Ans.gw Ans.gl Ans.gd Ans.opt joinK W
set_option maxHeartbeats 8000000
theorem OW.cons{q:Nat→Prop}{σ:List ABlk}{v:AVal}{c:Int}{m:List Int}(h:OW q σ v (c::m)):∃p rd1 rd2 u rd3 rd4,Zj 1 [v,iv 0] σ=.ok p rd1 []∧Qk false 1 [p] σ=.ok (iv c) rd2 []∧Qt 1 [v,iv 1] σ=.ok u rd3 []∧Zq 1 σ u=some (m.map cel,rd4):=by
 rcases h with rfl|⟨rfl,h⟩|⟨k,rfl,hk,_⟩
 ·have e:Qt 1 [rowV (c::m),iv 1] σ=.ok (.rsl false false 1 (cut 1 (m.map cel).length.succ (cel c::m.map cel))) [] []:=by
   show (bif Nat.beq 1 1&&Nat.ble 1 ((m.map cel).length+1) then SRes.ok (.rsl false false 1 (cut 1 ((m.map cel).length+1) (cel c::m.map cel))) [] [] else .stop)=_;rw[show Nat.ble 1 ((m.map cel).length+1)=true from Nat.ble_eq_true_of_le (by omega)]; rfl
  refine⟨_,[],[],_,[],[],rfl,rfl,e,?_⟩;have:List.take m.length (List.map cel m)=List.map cel m:=List.take_of_length_le (by simp);simpa[Zq,cut] using this
 ·cases h
 ·have e0:Zj 1 [.sl k 0 (c::m).length false,iv 0] σ=.ok (.ptr k 0 0) [k] []:=YbC σ k 0 _ false 1 _ .i64 0 (by simp) hk;have e1:Qk false 1 [.ptr k 0 0] σ=.ok (iv c) [k] []:=by simp only[Qk,hk]; rfl
  cases m with
  |nil=>exact⟨_,_,_,.rsl false true 1 [],[],[],e0,e1,(by simp only[Qt,hk]; rfl),rfl⟩
  |cons d m=>
   refine⟨_,_,_,.sl k 1 (d::m).length false,[k],[k],e0,e1,(by simp[Qt,hk,Nat.blt,Nat.ble_eq_true_of_le (show 2≤m.length+1+1 by omega)]),?_⟩;simp[Zq,hk,cut,show 1+(m.length+1)=m.length+1+1 by omega,Nat.ble_eq_true_of_le (Nat.le_refl _),List.take_of_length_le]
theorem RR1.app{p:Nat→Prop}{σ:List ABlk}{rb:Nat}{b:Bk}{s:St}{sd tg fu e:Int}{l:List Ev}(h:RR1 p σ rb b s sd tg fu e l)(x:ABlk):RR1 p (σ++[x]) rb b s sd tg fu e l:=by
 obtain⟨h0,g0,t0,h1,g1,t1,lv,hr,o1,o2,o3,o4,o5,o6,ol⟩:=h;exact⟨h0,g0,t0,h1,g1,t1,lv,Xj [x] hr (by simp),o1.app _,o2.app _,o3.app _,o4.app _,o5.app _,o6.app _,ol.mono λc n rs e=>Qba _ e⟩
theorem RR1.more{p:Nat→Prop}{σ:List ABlk}{rb:Nat}{b:Bk}{s:St}{sd tg fu e:Int}{l:List Ev}(h:RR1 p σ rb b s sd tg fu e l)(x:ABlk):RR1 (λc=>p c∨c=σ.length) (σ++[x]) rb b s sd tg fu e l:=by
 obtain⟨h0,g0,t0,h1,g1,t1,lv,hr,o1,o2,o3,o4,o5,o6,ol⟩:=h;have w:=λv m (o:OW (¬p ·) σ v m)=>(o.wk (q':=λc=>¬(p c∨c=σ.length)) λc h1 h2=>by simp[h1]; omega).app [x];refine⟨h0,g0,t0,h1,g1,t1,lv,Xj [x] hr (by simp),w _ _ o1,w _ _ o2,w _ _ o3,w _ _ o4,w _ _ o5,w _ _ o6,?_⟩;rcases ol with ol|⟨c,rows,q1,q2,q3,q4⟩
 ·exact .inl ol
 ·exact .inr ⟨c,rows,q1,Qba _ q2,q3,λi row e a1 a2=>by obtain⟨cv,a3,a4⟩:=q4 i row e a1 a2; exact⟨cv,a3,(a4.wk λc h1 _=>.inl h1).app [x]⟩⟩
theorem Kq.agr{rb:Nat}{σ τ:List ABlk}(h:Agr σ τ [rb]):Kq [rb] 7 σ τ:=⟨h.1,λk hk hn _=>h.2 k hk hn⟩
section
variable {σ:List ABlk} {rb:Nat} {b:Bk} {s:St} {sd tg fu:Int} {l:List Ev} (h:RR σ rb b s sd tg fu 0 l) (hn:l.length<100000000) (h01:sd=0∨sd=1)
include h hn h01
end
end Go.Ah.Tz
end
section
namespace Go.Ah
section
variable {P:Program} {GL:Globs}
theorem DenL.snoc{g:Gm}{x:AVal}:∀ {xs:List AVal} {vs:List Value},DenL g (xs++[x]) vs→∃us u,vs=us++[u]∧DenL g xs us∧g.den x u
 |[],[u],h=>⟨[],u,rfl,trivial,h.1⟩
 |y::xs,v::vs,h=>by
  obtain⟨us,u,rfl,h1,h2⟩:=DenL.snoc h.2;exact⟨v::us,u,rfl,⟨h.1,h1⟩,h2⟩
end
end Go.Ah
end
section
namespace Go.Ah
section
variable {P:Program} {GL:Globs}
def honly(h:Hp)(rd:List Nat):Hp:=λb=>if b∈rd then h b else (h b).map λ_=>.dead
theorem ZS{h:Hp}{rd:List Nat}{b:Nat}{blk:ABlk}(e:honly h rd b=some blk)(hl:blk.live=true):b∈rd∧h b=some blk:=by
 unfold honly at e;by_cases hb:b∈rd
 ·rw[if_pos hb] at e; exact⟨hb,e⟩
 ·rw[if_neg hb] at e;obtain⟨x,_,rfl⟩:=Option.map_eq_some_iff.1 e;simp[ABlk.live] at hl
theorem Rep.only{w0:World}{L:Ln}{g:Gm}{h:Hp}{w:World}(r:Rep GL w0 L g h w)(rd:List Nat):Rep GL w0 L g (honly h rd) w where
 keeps:=r.keeps
 stable:=r.stable
 src:=r.src
 globs:=r.globs
 empt:=λb e=>r.empt b (by
  unfold honly at e;split at e
  ·exact e
  ·simpa using e)
 dom:=λb blk e=>by
  unfold honly at e;split at e
  ·exact r.dom b blk e
  ·obtain⟨x,hx,_⟩:=Option.map_eq_some_iff.1 e;exact r.dom b x hx
 own:=λb blk cb e hl=>r.own b blk cb (ZS e hl).2 hl
 hollow:=λb blk cb e hl=>r.hollow b blk cb (ZS e hl).2 hl
 inj:=λb b' blk blk' cb cb' e e' hl hl'=>r.inj b b' blk blk' cb cb' (ZS e hl).2 (ZS e' hl').2 hl hl'
def killed(rd:List Nat):List (Nat×ABlk):=rd.map λb=>(b,.dead)
theorem Rep.give{w0:World}{L:Ln}{w:World}(c:Own):∀(rd:List Nat) {M0:Nat→Option Obj} {h:Hp},Rep GL w0 L ⟨M0,c⟩ h w→(∀b∈rd,∃blk,h b=some blk) →
  ∃M,MLe M0 M∧Rep GL w0 L ⟨M,c⟩ (hups h (killed rd)) w∧∀b∈rd,∀blk cb o,h b=some blk→blk.live=true→c b=some cb→cb.virt=false→w.heap[cb.blk]?=some o→M cb.blk=some o
 |[],M0,h,r,_=>⟨M0,MLe.refl _,r,λb hb=>absurd hb (by simp)⟩
 |b::rd,M0,h,r,hin=>by
  obtain⟨blk,hb⟩:=hin b (List.mem_cons_self);have hin':∀c∈rd,∃blk,hup h b .dead c=some blk:=λc hc=>by
   by_cases e:c=b
   ·subst e; exact⟨_,Ym _ _ _⟩
   ·rw[Xl _ _ e]; exact hin c (List.mem_cons_of_mem _ hc)
  obtain⟨cb,ec⟩:=r.dom b blk hb;have key:∃M1,MLe M0 M1∧Rep GL w0 L ⟨M1,c⟩ (hup h b .dead) w∧(blk.live=true→cb.virt=false→∀o,w.heap[cb.blk]?=some o→M1 cb.blk=some o):=by
   by_cases hl:blk.live=true∧cb.virt=false
   ·obtain⟨_,_,o,ho,_⟩:=r.own b blk cb hb hl.1 ec hl.2;obtain⟨q1,q2⟩:=r.freeze hb hl.1 ec hl.2 ho;refine⟨_,q1.m,q2,λ_ _ o' ho'=>?_⟩;rw[ho] at ho'; cases ho';simp[mup]
   ·exact⟨M0,MLe.refl _,r.kill hb,λh1 h2=>absurd ⟨h1,h2⟩ hl⟩
  obtain⟨M1,m1,r1,k1⟩:=key;obtain⟨M,m2,r2,k2⟩:=Rep.give c rd r1 hin';refine⟨M,m1.trans m2,r2,λx hx blk' cb' o e1 e2 e3 e4 e5=>?_⟩;by_cases e:x=b
  ·subst e;have e3':c x=some cb:=ec;rw[hb] at e1; cases e1;rw[e3'] at e3; cases e3;exact m2 _ _ (k1 e2 e4 o e5)
  ·rcases List.mem_cons.1 hx with h'|h'
   ·exact absurd h' e
   ·exact k2 x h' blk' cb' o (by rw[Xl _ _ e]; exact e1) e2 e3 e4 e5
theorem PCall.give{f:FuncId}{xs ys:List AVal}{v:AVal}{rd:List Nat}{h0:Hp}(hc:PCall P GL f ys v)(hb:BorL h0 rd xs ys)(hin:∀b∈rd,∃blk,h0 b=some blk):ACall P GL f xs h0 v rd (killed rd):=by
 intro w0 L g h w vs r hx hrd _;obtain⟨M,hM,r2,hcov⟩:=Rep.give g.c rd (M0:=g.M) r (λb hb'=>by rw[hrd b hb']; exact hin b hb');have cov:Cov g (honly h rd) w M:=⟨hM,λb blk cb o e hl ec hv ho=>hcov b (ZS e hl).1 blk cb o (ZS e hl).2 hl ec hv ho⟩;have hd:=hb GL w0 L g (honly h rd) w M (r.only rd) cov (λb hb'=>by unfold honly; rw[if_pos hb']; exact hrd b hb') vs hx;refine(hc w M _ r2.stable r2.globs hd).mono ?_;rintro e w' ⟨y,he,k,M',hle,hst,hsrc,hdv⟩;exact⟨y,he,⟨M',g.c⟩,⟨hM.trans hle,CLe.refl _⟩,r2.after k hle hst hsrc,hdv.mono (MLe.refl _) (CLe.noOwn _)⟩
def killL(σ:List ABlk)(rd:List Nat):List ABlk:=rd.foldl (λσ b=>σ.set b .dead) σ
theorem YbZ:∀(rd:List Nat) (σ:List ABlk),(∀b∈rd,b<σ.length)→upL σ (killed rd)=some (killL σ rd)
 |[],_,_=>rfl
 |b::rd,σ,h=>by
  have hb:=h b List.mem_cons_self;show (bif Nat.beq b σ.length then upL (σ ++ [.dead]) (killed rd) else (match QK b .dead σ with
   |some σ'=>upL σ' (killed rd)
   | none=>none))=_
  have:Nat.beq b σ.length=false:=by
   cases e:Nat.beq b σ.length with
   |false=>rfl
   |true=>have:=YNB e; omega
  rw[this,Xav hb];exact YbZ rd (σ.set b .dead) (λc hc=>by simpa using h c (List.mem_cons_of_mem _ hc))
theorem YaN{k:MK}{xs ys zs:List AVal}{f:FuncId}{v:AVal}{rd:List Nat}(h:PCall P GL f zs v){σ:List ABlk}(hc:Qq k xs=some (f,ys))(hp':Zh P f=true)(hb:BorL (hp σ) rd ys zs)(hin:∀b∈rd,hget σ b≠.dead){K:AVal→List ABlk→Prop}(hK:K v (killL σ rd)):(W P GL).call k xs σ K:=
 Qag hc hp' (h.give hb λb hb'=>⟨_,XG rfl (hin b hb')⟩) (YbZ rd σ λb hb'=>Qn rfl (hin b hb')) hK
end
end Go.Ah
end
section
namespace Go.Ah
def CellsTo(h:Hp)(rd:List Nat):List AVal→List AVal→Prop
 |[],[]=>True
 |x::xs,y::ys=>(y=x∨Bor h rd x y)∧CellsTo h rd xs ys
 |_,_=>False
theorem CellsTo.len{h:Hp}{rd:List Nat}:∀ {xs ys:List AVal},CellsTo h rd xs ys→ys.length=xs.length
 |[],[],_=>rfl
 |_::xs,_::ys,e=>by simp[CellsTo.len (xs:=xs) e.2]
theorem CellsTo.at{h:Hp}{rd:List Nat}:∀ {xs ys:List AVal},CellsTo h rd xs ys→∀(j:Nat) (x x':AVal),xs[j]?=some x→ys[j]?=some x'→x'=x∨Bor h rd x x'
 |[],[],_,j,x,x',e,_=>by cases e
 |y::xs,y'::ys,e,0,x,x',e1,e2=>by cases e1; cases e2; exact e.1
 |y::xs,y'::ys,e,j+1,x,x',e1,e2=>CellsTo.at (xs:=xs) (ys:=ys) e.2 j x x' (by simpa using e1) (by simpa using e2)
end Go.Ah
namespace Go.Ah.Tz
open Go.Proofs.Tryz (prog)
set_option maxRecDepth 100000
@[reducible] def rrT(b:Bk)(s:St)(sd tg:Int)(lv:AVal)(fu e:Int):List AVal:=rrC b s (rowV s.s0.hand) (rowV s.s0.grave) (rowV s.s0.told) (rowV s.s1.hand) (rowV s.s1.grave) (rowV s.s1.told) sd tg lv fu e
def Kb(rb:Nat)(σ τ:List ABlk):Prop:=σ.length≤τ.length∧∀k row,k≠rb→hget σ k=.box row→hget τ k=.box row
theorem Kb.trans{rb:Nat}{σ τ υ:List ABlk}(h:Kb rb σ τ)(q:Kb rb τ υ):Kb rb σ υ:=⟨Nat.le_trans h.1 q.1,λk row h1 h2=>q.2 k row h1 (h.2 k row h1 h2)⟩
attribute [local irreducible] Ans.rd Ans.pu Ans.wr Ans.dr Ans.gr Ans.gw Ans.gl Ans.gd Ans.opt joinK W
set_option maxHeartbeats 8000000
theorem Agr.new{σ τ υ:List ABlk}{zb:Nat}(h:Agr σ τ [])(q:Agr τ υ [zb])(hz:σ.length≤zb):Agr σ υ []:=⟨Nat.le_trans h.1 q.1,λc hc hn=>by rw[q.2 c (Nat.lt_of_lt_of_le hc h.1) (by simp; omega),h.2 c hc hn]⟩
theorem RR1.agr{p:Nat→Prop}{σ τ:List ABlk}{rb:Nat}{b:Bk}{s:St}{sd tg fu e:Int}{l:List Ev}(h:RR1 p σ rb b s sd tg fu e l)(a:Agr σ τ []):RR1 p τ rb b s sd tg fu e l:=by
 obtain⟨h0,g0,t0,h1,g1,t1,lv,hr,o1,o2,o3,o4,o5,o6,ol⟩:=h;have kk:∀c n rs,hget σ c=.rows n rs→hget τ c=.rows n rs:=λc n rs e=>a.get e (by simp) (by simp);exact⟨h0,g0,t0,h1,g1,t1,lv,a.get hr (by simp) (by simp),o1.mono λc=>kk c 1,o2.mono λc=>kk c 1,o3.mono λc=>kk c 1,o4.mono λc=>kk c 1,o5.mono λc=>kk c 1,o6.mono λc=>kk c 1,ol.mono kk⟩
end Go.Ah.Tz
end
section
namespace Go.Ah.Tz
open Go.Proofs.Tryz (prog)
set_option maxRecDepth 100000
theorem LO.agr{p:Nat→Prop}{σ τ:List ABlk}{l:List Ev}{lv:AVal}(h:LO p l lv σ)(a:Agr σ τ []):LO p l lv τ:=h.mono λc n rs e=>a.get e (by simp) (by simp)
attribute [local irreducible] Ans.rd Ans.pu Ans.wr Ans.dr Ans.gr Ans.gw Ans.gl Ans.gd Ans.opt joinK W
set_option maxHeartbeats 8000000
section
variable {p:Nat→Prop} {σ:List ABlk} {rb:Nat} {b:Bk} {s:St} {sd tg fu:Int} {l:List Ev} {lv:AVal} (hp:∀c,p c→c<σ.length) (hr:hget σ rb=.box (rrT b s sd tg lv fu 0)) (ol:LO p l lv σ) (hn:l.length<100000000) (h01:sd=0∨sd=1)
 (hs:StLe 1000000 s) (hm:mayR (bkR b).1 b s true=true) (h67:PC 24 [bkV b] (.agg [iv (bkR b).1,iv (bkR b).2]))
include hp hr ol hn h01 hs hm h67
end
end Go.Ah.Tz
end
section
namespace Go.Ah.Tz
open Go.Proofs.Tryz (prog)
set_option maxRecDepth 100000
def LL(B:Nat)(l:List Ev)(lv:AVal)(σ:List ABlk):Prop:=(l=[]∧lv=.nils)∨∃c,lv=.sl c 0 l.length false∧B≤c∧hget σ c=.rows 7 (l.map evC)
theorem LL.agr{B:Nat}{l:List Ev}{lv:AVal}{σ τ:List ABlk}{zb:Nat}{row:List AVal}(h:LL B l lv σ)(a:Agr σ τ [zb])(hz:hget σ zb=.box row):LL B l lv τ:=by
 rcases h with h|⟨c,h1,h2,h3⟩
 ·exact .inl h
 ·exact .inr ⟨c,h1,h2,a.get h3 (by simp) (by simp; rintro rfl; rw[hz] at h3; cases h3)⟩
theorem LL.rows{B:Nat}{l:List Ev}{lv:AVal}{σ τ:List ABlk}(h:LL B l lv σ)(hk:∀c n rs,hget σ c=.rows n rs→hget τ c=.rows n rs):LL B l lv τ:=by
 rcases h with h|⟨c,h1,h2,h3⟩
 ·exact .inl h
 ·exact .inr ⟨c,h1,h2,hk _ _ _ h3⟩
theorem LL.src{B:Nat}{p:Nat→Prop}{l:List Ev}{lv:AVal}{σ:List ABlk}(h:LL B l lv σ):∃ys rd,Zq 7 σ lv=some (ys,rd)∧ER p σ ys l:=by
 rcases h with ⟨rfl,rfl⟩|⟨c,rfl,_,h3⟩
 ·exact⟨[],[],rfl,rfl,λi row e q=>by simp at q⟩
 ·refine⟨_,_,YbM h3 (by simp),by simp,λi row e q1 q2=>?_⟩;rw[List.getElem?_map,q2] at q1;cases q1;exact⟨_,rfl,.inl rfl⟩
attribute [local irreducible] Ans.rd Ans.pu Ans.wr Ans.dr Ans.gr Ans.gw Ans.gl Ans.gd Ans.opt joinK W
set_option maxHeartbeats 8000000
section
variable {p:Nat→Prop} {σ:List ABlk} {rb:Nat} {b:Bk} {s:St} {sd tg fu:Int} {l:List Ev} {lv:AVal} (hp:∀c,p c→c<σ.length) (hr:hget σ rb=.box (rrT b s sd tg lv fu 0)) (ol:LO p l lv σ) (hn:l.length<100000000)
 (hbk:(bkR b).1=0) (h67:PC 24 [bkV b] (.agg [iv (bkR b).1,iv (bkR b).2])) {N C:Nat} (hok:OkS b N C s) (hC:C<1000000)
include hp hr ol hn hbk h67 hok hC
end
end Go.Ah.Tz
end
section
namespace Go.Ah.Tz
open Go.Proofs.Tryz (prog)
set_option maxRecDepth 100000
attribute [local irreducible] Ans.rd Ans.pu Ans.wr Ans.dr Ans.gr Ans.gw Ans.gl Ans.gd Ans.opt joinK W
set_option maxHeartbeats 8000000
section
variable {p:Nat→Prop} {σ:List ABlk} {rb:Nat} {b:Bk} {s:St} {sd tg fu:Int} {l:List Ev} {lv:AVal} (hp:∀c,p c→c<σ.length) (hr:hget σ rb=.box (rrT b s sd tg lv fu 0)) (ol:LO p l lv σ) (hn:l.length<100000000)
 (hbk:(bkR b).1=0) (h67:PC 24 [bkV b] (.agg [iv (bkR b).1,iv (bkR b).2])) {N C:Nat} (hok:OkS b N C s) (hC:C<1000000) (hN:N+60≤1000000) (h01:sd=0∨sd=1) (hbig:b.cards.length≤big)
include hp hr ol hn hbk h67 hok hC hN h01 hbig
end
end Go.Ah.Tz
end
section
namespace Go.Ah.Tz
open Go.Proofs.Tryz (prog)
set_option maxRecDepth 100000
attribute [local irreducible] Ans.rd Ans.pu Ans.wr Ans.dr Ans.gr Ans.gw Ans.gl Ans.gd Ans.opt joinK W
set_option maxHeartbeats 8000000
theorem u216(s:St):PC 99 [stV s] (iv8 (YH s)):=by
 refine Yc hP g99.ok rfl rfl ?_;rw[H1.e]; unfold g99; dsimp only;unfold YH;by_cases h0:s.s0.life≤0<;>by_cases h1:s.s1.life≤0
 all_goals
  refine au ?_
  first|rw[decide_eq_true h0]|rw[decide_eq_false h0]
  first|rw[decide_eq_true h1]|rw[decide_eq_false h1]
  refine au ?_;simp[h0,h1]
end Go.Ah.Tz
end
section
namespace Go.Ah.Tz
open Go.Proofs.Tryz (prog)
set_option maxRecDepth 100000
theorem c44H(s:St)(hs:StLe 1000000000 s):PC 54 [stV s] (stV s):=
 Qbh (c19 s hs) ⟨List.range 11,(SB.copy (n:=0) (λi x h=>by rw[Nat.zero_add]; exact XO h) (λi h=>List.mem_range.2 (by omega))).agg⟩
theorem Yb3{l m o:Int}{d h t d' h' t':List Int}(hl:0<l):YH (Qo l m o d h t d' h' t')=0:=by
 have z0:¬l≤0:=by omega
 simp[YH,z0]
attribute [local irreducible] Ans.rd Ans.pu Ans.wr Ans.dr Ans.gr Ans.gw Ans.gl Ans.gd Ans.opt joinK W
set_option maxHeartbeats 8000000
section
variable (b:Bk) (hf:bkFit b=true)
include hf
theorem h95(l m o:Int)(d h t d' h' t':List Int)(hm:mayR (bkR b).1 b (Qo l m o d h t d' h' t') true=true) :
  PC 146 [bkV b,stV (Qo l m o d h t d' h' t')] .nils:=by
 have h50:=c25 b (Qo l m o d h t d' h' t') ((YR (Q0.1 hm).2).mono (by decide)) true _ _ (c67 b hf);rw[hm] at h50;refine Xm hP g146.ok rfl ?_;rw[H2.e]; unfold g146; dsimp only;refine au ?_;refine Xb h50 rfl g53.ok.plain rfl ?_;refine au ?_;refine Zl 4 (Zf ?_);refine au ?_;refine Zl 2 (Zf ?_);refine au ?_;refine Zl 2 (Zf ?_);refine au ?_;exact⟨[],Bor.ro rfl⟩
theorem h315(l m o:Int)(d h t d' h' t':List Int)(hm:mayR (bkR b).1 b (Qo l m o d h t d' h' t') true=true) :
  PC 147 [bkV b,stV (Qo l m o d h t d' h' t'),.nils] (.tup [stV (Qo l m o d h t d' h' t'),.nils]):=by
 have hs9:=(YR (Q0.1 hm).2).mono (m:=1000000000) (by decide);have h50:=c25 b _ hs9 true _ _ (c67 b hf);rw[hm] at h50;have h44:=c44H _ hs9;refine Xm hP g147.ok rfl ?_;rw[H3.e]; unfold g147; dsimp only;refine au ?_;refine Xb h50 rfl g53.ok.plain rfl ?_;refine au ?_;refine Xb h44 rfl g54.ok.plain rfl ?_;refine au ?_;refine Zl 2 (Zf ?_);refine au ?_;exact⟨[],Bor.ro rfl⟩
theorem h215(l m o:Int)(d h t d' h' t':List Int)(hm:mayR (bkR b).1 b (Qo l m o d h t d' h' t') true=true) :
  PC 98 [bkV b,stV (Qo l m o d h t d' h' t')] (.tup [stV (Qo l m o d h t d' h' t'),.nils,.nils]):=by
 have q95:=h95 b hf l m o d h t d' h' t' hm;have q315:=h315 b hf l m o d h t d' h' t' hm;refine Xm hP g98.ok rfl ?_;rw[H2.e]; unfold g98; dsimp only;refine au ?_;refine Xb q95 rfl g146.ok.plain rfl ?_;refine au ?_;refine Zl 2 (Zf ?_);refine au ?_;refine Xb q315 rfl g147.ok.plain rfl ?_;refine au ?_;exact⟨[],Bor.ro rfl⟩
theorem h93(l m o:Int)(d h t d' h' t':List Int)(hm:mayR (bkR b).1 b (Qo l m o d h t d' h' t') true=true)(hl:0<l) :
  PC 56 [bkV b,stV (Qo l m o d h t d' h' t'),.nils,iv 1000] (.tup [stV (Qo l m o d h t d' h' t'),.rsl false false 7 [],iv 1000,iv 0]):=by
 have hs9:=(YR (Q0.1 hm).2).mono (m:=1000000000) (by decide);have h50:=c25 b _ hs9 true _ _ (c67 b hf);rw[hm] at h50;have h44:=c44H _ hs9;have q215:=h215 b hf l m o d h t d' h' t' hm;have q216:=u216 (Qo l m o d h t d' h' t');rw[Yb3 hl] at q216;refine Xm hP g56.ok rfl ?_;rw[H4.e]; unfold g56; dsimp only;refine au ?_;refine Xb h50 rfl g53.ok.plain rfl ?_;refine au ?_;refine Qm hP (f:=97) rfl g97.ok rfl ?_;rw[H2.e]; unfold g97; dsimp only;refine au ?_;refine Zl 2 (Zf ?_);refine au ?_;refine Xb h44 rfl g54.ok.plain rfl ?_;refine au ?_;refine Zl 2 (Zf ?_);refine au ?_;refine Xb q215 rfl g98.ok.plain rfl ?_;refine au ?_;refine Xb q216 rfl g99.ok.plain rfl ?_;refine au ?_;exact⟨List.range 40,Bor.tup (.cons (Bor.ro rfl) (.cons (Bor.own rfl (in40 rfl) (Nat.le_refl 0) rfl (λr hr=>by cases hr)) (.cons (Bor.ro rfl) (.cons (Bor.ro rfl) .nil))))⟩
theorem h97(d h t d' h' t':List Int){L:Int}{D H T:List Int}{ev:Ev}(hm:mayR (bkR b).1 b (Qo 20 0 0 d h t d' h' t') true=true)(hm1:mayR (bkR b).1 b (Qo 20 1 1 d h t d' h' t') true=true)
 (hd:drawF (Qo 20 1 1 d h t d' h' t') 0=(Qo L 1 1 D H T d' h' t',ev,0))(hL:0<L)(hm2:mayR (bkR b).1 b (Qo L 1 1 D H T d' h' t') true=true) :
  PC 25 [bkV b,stV (Qo 20 0 0 d h t d' h' t'),iv 1000] (.tup [stV (Qo L 1 1 D H T d' h' t'),.rsl false false 7 [turnE,evC ev],iv 1000,iv 0]):=by
 have hs9:=(YR (Q0.1 hm).2).mono (m:=1000000000) (by decide);have h50:=c25 b _ hs9 true _ _ (c67 b hf);rw[hm] at h50;have h44:=c44H _ hs9;have q218:=u218 b _ (YR (Q0.1 hm1).2) hm1 (c67 b hf) 0 (.inl rfl);rw[hd] at q218;have q93:=h93 b hf L 1 1 D H T d' h' t' hm2 hL;refine Xm hP g25.ok rfl ?_;rw[H3.e]; unfold g25; dsimp only;refine au ?_;refine Xb h50 rfl g53.ok.plain rfl ?_;refine au ?_;refine Xb h44 rfl g54.ok.plain rfl ?_;refine au ?_;refine Zl 2 (Zf ?_);refine au ?_;refine Xb q218 rfl g55.ok.plain rfl ?_;refine au ?_;refine Zl 2 (Zf ?_);refine au ?_;refine Xb q93 rfl g56.ok.plain rfl ?_;refine au ?_;have hro:∀r∈[turnE,evC ev],roL r=true:=by
  intro r hr;simp only[List.mem_cons,List.not_mem_nil,or_false] at hr;rcases hr with rfl|rfl<;>rfl
 exact⟨List.range 40,Bor.tup (.cons (Bor.ro rfl) (.cons (Bor.own rfl (in40 rfl) (Nat.le_refl 2) rfl hro) (.cons (Bor.ro rfl) (.cons (Bor.ro rfl) .nil))))⟩
end
end Go.Ah.Tz
end
section
namespace Go.Ah.Tz
open Go.Proofs.Tryz (prog)
set_option maxRecDepth 100000
theorem QcB{b:Bk}{s:St}(hm:mayR (bkR b).1 b s true=true)(hp:s.phase=0):mayR (bkR b).1 b s false=true:=Qcp hm (λh=>by rw[hp] at h; cases h)
theorem Xcm{l m o:Int}{d h t d' h' t':List Int}(hl:0<l):YH (Qo l m o d h t d' h' t')=0:=by
 have z0:¬l≤0:=by omega
 simp[YH,z0]
attribute [local irreducible] Ans.rd Ans.pu Ans.wr Ans.dr Ans.gr Ans.gw Ans.gl Ans.gd Ans.opt joinK W
set_option maxHeartbeats 8000000
section
variable (b:Bk) (hf:bkFit b=true) (hsm:Zu b.cards)
include hf hsm
theorem h92(l m o:Int)(d h t d' h' t':List Int)(hm:mayR (bkR b).1 b (Qo l m o d h t d' h' t') true=true)(hl:0<l) :
  PC 49 [bkV b,stV (Qo l m o d h t d' h' t'),.nils,iv 1000] (.tup [stV (Qo l m o d h t d' h' t'),.nils,iv 1000,iv 0]):=by
 have hs:=(YR (Q0.1 hm).2).mono (m:=2000000) (by decide);have hs9:=hs.mono (m:=1000000000) (by decide);have h146:=c55 b hf hsm _ hs9;rw[QcB hm rfl] at h146;have h150:=c150P _ hs9;have h53:=c28_0 b hf hsm _ hs hm rfl;have hd:deadF b (Qo l m o d h t d' h' t')=[]:=rfl;rw[hd] at h53;refine Xm hP g49.ok rfl ?_;rw[H4.e]; unfold g49; dsimp only;refine au ?_;refine Qm hP (f:=47) rfl g47.ok rfl ?_;rw[H2.e]; unfold g47; dsimp only;refine au ?_;refine Xb h146 rfl g58.ok.plain rfl ?_;refine au ?_;refine Zl 2 (Zf ?_);refine au ?_;refine Xb h150 rfl g34.ok.plain rfl ?_;refine au ?_;refine Qm hP (f:=80) rfl g80.ok rfl ?_;rw[H2.e]; unfold g80; dsimp only;refine au ?_;refine Zl 2 (Zf ?_);refine au ?_;refine Xb h53 rfl g82.ok.plain rfl ?_;refine au ?_;refine Zl 2 (Zf ?_);refine au ?_;refine Qm hP (f:=85) rfl g85.ok rfl ?_;refine w212 (Qo l m o d h t d' h' t') rfl ?_;rw[Xcm hl];refine au ?_;refine Qm hP (f:=86) rfl g86.ok rfl ?_;rw[H1.e]; unfold g86; dsimp only;refine au ?_;exact⟨[],Bor.ro rfl⟩
theorem h96(d h t d' h' t':List Int){L:Int}{D H T:List Int}{ev:Ev}(hm:mayR (bkR b).1 b (Qo 20 0 0 d h t d' h' t') true=true)(hm1:mayR (bkR b).1 b (Qo 20 1 1 d h t d' h' t') true=true)
 (hd:drawF (Qo 20 1 1 d h t d' h' t') 0=(Qo L 1 1 D H T d' h' t',ev,0))(hL:0<L)(hm2:mayR (bkR b).1 b (Qo L 1 1 D H T d' h' t') true=true) :
  PC 23 [bkV b,stV (Qo 20 0 0 d h t d' h' t'),iv 1000] (.tup [stV (Qo L 1 1 D H T d' h' t'),.rsl false false 7 [turnE,evC ev],iv 1000,iv 0]):=by
 have hs9:=(YR (Q0.1 hm).2).mono (m:=1000000000) (by decide);have h146:=c55 b hf hsm _ hs9;rw[QcB hm rfl] at h146;have h150:=c150P _ hs9;have h43:=c18_0 b hf hsm _ ((YR (Q0.1 hm1).2).mono (by decide)) hm1;rw[hd] at h43;have h92':=h92 b hf hsm L 1 1 D H T d' h' t' hm2 hL;refine Xm hP g23.ok rfl ?_;rw[H3.e]; unfold g23; dsimp only;refine au ?_;refine Qm hP (f:=47) rfl g47.ok rfl ?_;rw[H2.e]; unfold g47; dsimp only;refine au ?_;refine Xb h146 rfl g58.ok.plain rfl ?_;refine au ?_;refine Xb h150 rfl g34.ok.plain rfl ?_;refine au ?_;refine Zl 2 (Zf ?_);refine au ?_;refine Xb h43 rfl g48.ok.plain rfl ?_;refine au ?_;refine Zl 2 (Zf ?_);refine au ?_;refine Xb h92' rfl g49.ok.plain rfl ?_;refine au ?_;have hro:∀r∈[turnE,evC ev],roL r=true:=by
  intro r hr;simp only[List.mem_cons,List.not_mem_nil,or_false] at hr;rcases hr with rfl|rfl<;>rfl
 exact⟨List.range 40,Bor.tup (.cons (Bor.ro rfl) (.cons (Bor.own rfl (in40 rfl) (Nat.le_refl 2) rfl hro) (.cons (Bor.ro rfl) (.cons (Bor.ro rfl) .nil))))⟩
end
end Go.Ah.Tz
end
section
namespace Go.Ah.Tz
open Go.Proofs.Tryz (prog)
set_option maxRecDepth 100000
attribute [local irreducible] Ans.rd Ans.pu Ans.wr Ans.dr Ans.gr Ans.gw Ans.gl Ans.gd Ans.opt joinK W
set_option maxHeartbeats 8000000
def outB(b:Bk)(c:Int):Bool:=decide (c<0)||decide ((b.cards.length:Int)≤c)
theorem w222(b:Bk)(c:Int){σ:List ABlk}{bb:Nat}(h:hget σ bb=.box (bkC b)){K:AVal→List ABlk→Prop}(hK:K (.bool (outB b c)) σ):g21.u VV [iv c,.bptr bb 0] σ K:=by
 rw[H2.e]; unfold g21; dsimp only;refine Za (v:=.bool (decide (c<0))) rfl ?_;unfold outB at hK;by_cases h1:c<0
 ·rw[decide_eq_true h1] at hK ⊢;refine au ?_;exact hK
 ·rw[decide_eq_false h1] at hK ⊢;refine Ya (Za rfl (Ya (Za rfl (Ya (Za (v:=cdV b.cards) (ld h rfl) (Ya (Za (v:=iv b.cards.length) (rd:=[]) (by simp[Xo]) (Ya (Za (XaG ..) ?_)))))))));refine Za rfl ?_;exact hK
theorem Yat(b:Bk){l:List Int}{i:Nat}(h:i<l.length):inB b (l.take (i+1))=(inB b (l.take i) && !outB b l[i]):=by
 rw[←List.take_append_getElem h];simp only[inB,List.all_append,List.all_cons,List.all_nil,Bool.and_true]
 congr 1
 simp only[outB];by_cases h1:l[i]<0<;>by_cases h2:(b.cards.length:Int)≤l[i]<;>simp[h1,h2]<;>omega
theorem Xbg{b:Bk}{l:List Int}{i:Nat}(h:i<l.length)(ho:outB b l[i]=true):inB b l=false:=by
 rw[←List.take_append_drop (i+1) l];simp only[inB,List.all_append];rw[show (List.take (i+1) l).all (λc=>decide (0≤c)&&decide (c<b.cards.length))=inB b (l.take (i+1)) from rfl,Yat b h,ho];simp
theorem w221(b:Bk)(l:List Int)(hl:l.length≤1000000000){σ:List ABlk}{bb:Nat}(h:hget σ bb=.box (bkC b)){K:AVal→List ABlk→Prop}(hK:K (.bool (!inB b l)) σ):VV.call (.call 20) [rowV l,.func (.func 21) [] [.bptr bb 0]] σ K:=by
 refine Qm hP (f:=20) rfl g20.ok rfl ?_;rw[H2.e]; unfold g20; dsimp only;refine Qm hP (f:=46) rfl g46.ok rfl ?_;rw[H2.e]; unfold g46; dsimp only;refine Za (v:=iv l.length) (rd:=[]) (by simp[Xo]) ?_;refine Zg (ι:=Nat) (λi vs s=>vs=[iv i]∧s=σ∧i≤l.length∧inB b (l.take i)=true) (λi=>l.length-i) 0 ⟨rfl,rfl,by omega,rfl⟩ ?_;rintro i vs s again ⟨rfl,rfl,hi,hb⟩ hag;refine Za (XI ..) (Zb (λhlt=>?_) (λhlt=>?_))
 ·have hlt:i<l.length:=by simpa using hlt
  refine Za (Yk _ cel _ _ _ l _ i hlt) (Za (v:=iv l[i]) (ldr rfl) ?_);refine Qm hP (f:=21) rfl g21.ok rfl ?_;refine w222 b l[i] h ?_;cases ho:outB b l[i] with
  |true=>
   refine Xc (Za (XaG ..) ?_);rw[Xbg hlt ho] at hK;rw[decide_eq_true (show (0:Int)≤i by omega)];exact hK
  |false=>
   refine Xe (Za (Yf ..) ?_);rw[Qc (n:=i) (by omega)];exact hag (i+1) _ _ (by omega) ⟨rfl,rfl,by omega,by rw[Yat b hlt,hb,ho]; rfl⟩
 ·have hge:i=l.length:=by simp at hlt; omega
  subst hge;rw[List.take_length] at hb;rw[hb] at hK;exact Za rfl hK
theorem XbQ(l:List Int)(j:Nat)(h:j≤l.length)(σ:List ABlk):Qt 1 [rowV l,iv j] σ=.ok (rowV (l.drop j)) [] []:=by
 have e:Qt 1 [rowV l,iv j] σ=bif Nat.beq 1 1&&Nat.ble j (l.map cel).length then .ok (.rsl false false 1 (cut j (l.map cel).length (l.map cel))) [] [] else .stop:=rfl
 rw[e,Nat.ble_eq_true_of_le (by simpa using h)];rw[show cut j (l.map cel).length (l.map cel)=(l.drop j).map cel by unfold cut; rw[List.take_length,List.map_drop]];rfl
theorem min4(l:List Int):min (4:Int) (l.length:Int)=(n4 l:Nat):=by show min (4:Int) l.length=((min 4 l.length:Nat):Int); omega
section
variable (b:Bk) (hf:bkFit b=true) (hsm:Zu b.cards)
include hf hsm
theorem j102(d0 d1 dr:List Int)(k0:d0.length≤1000000000)(k1:d1.length≤1000000000)(k2:dr.length≤1000000000):PC 6 [bkV b,.agg [rowV d0,rowV d1],rowV dr] (begV b d0 d1 dr):=by
 have h220:=c143 b hf hsm;refine Xm hP g6.ok rfl ?_;rw[H3.e]; unfold g6; dsimp only;refine au ?_;refine Xb h220 rfl g19.ok.plain rfl ?_;refine au ?_;by_cases hb:(bkR b).1=0
 case neg=>
  refine Zb (λ_=>?_) (λh=>by simp at h; exact absurd h hb);refine au ?_;exact XD (by rw[begR,if_pos hb]) _
 refine Zb (λh=>by simp at h; exact absurd hb h) (λ_=>?_);refine au ?_;refine Zl 4 (Zf ?_);refine au ?_;refine w221 b d0 k0 rfl ?_;cases i0:inB b d0 with
 |false=>
  refine au ?_;exact XD (by rw[begR,if_neg (by simp[hb]),if_pos (by rw[i0]; rfl)]) _
 |true=>
 refine au ?_;refine w221 b d1 k1 rfl ?_;cases i1:inB b d1 with
 |false=>
  refine au ?_;exact XD (by rw[begR,if_neg (by simp[hb]),if_pos (by rw[i0,i1]; rfl)]) _
 |true=>
 refine au ?_;have e0:(d0.map cel).length=d0.length:=List.length_map _;have e1:(d1.map cel).length=d1.length:=List.length_map _;have e2:(dr.map cel).length=dr.length:=List.length_map _;have nn:begR b d0 d1 dr=if 60<d0.length∨60<d1.length∨256<dr.length then (zSt,[],3) else ((drawF (Qaa 1 (shuffle d0 dr 0).1 (shuffle d1 dr (shuffle d0 dr 0).2).1) 0).1,[turnE,evC (drawF (Qaa 1 (shuffle d0 dr 0).1 (shuffle d1 dr (shuffle d0 dr 0).2).1) 0).2.1],0):=by
  rw[begR,if_neg (by simp[hb]),if_neg (by rw[i0,i1]; simp)]
 by_cases m0:60<d0.length∨60<d1.length
 ·rw[decide_eq_true (show max ((d0.map cel).length:Int) ((d1.map cel).length:Int)>60 by rw[e0,e1]; omega)];refine au ?_;exact XD (by rw[nn,if_pos (by omega)]) _
 rw[decide_eq_false (show ¬max ((d0.map cel).length:Int) ((d1.map cel).length:Int)>60 by rw[e0,e1]; omega)];refine au ?_;by_cases m1:256<dr.length
 ·refine Zb (λ_=>?_) (λh=>by simp at h; omega);refine au ?_;exact XD (by rw[nn,if_pos (by omega)]) _
 refine Zb (λh=>by simp at h; omega) (λ_=>?_);rw[if_neg (by omega)] at nn;rw[begV,nn];clear nn;refine au ?_;refine Zl 4 (Zf ?_);refine au ?_;refine Xb (j104 d0 dr k0 k2 0) rfl g8.ok.plain rfl ?_;refine au ?_;have sp:=ZE k0 k2 0;obtain⟨P,a,hP'⟩:∃P a,shuffle d0 dr 0=(P,a):=⟨_,_,rfl⟩;rw[hP'] at sp ⊢;have sq:=ZE k1 k2 a;obtain⟨Q,a2,hQ'⟩:∃Q a2,shuffle d1 dr a=(Q,a2):=⟨_,_,rfl⟩;have hQ5:=j104 d1 dr k1 k2 a;rw[hQ'] at sq hQ5;have hQ'':(shuffle d1 dr (P,a).2).1=Q:=by rw[show (P,a).2=a from rfl,hQ']
 rw[hQ''];dsimp only at sp sq ⊢;have lp:n4 P≤P.length:=Nat.min_le_right _ _;have lq:n4 Q≤Q.length:=Nat.min_le_right _ _;have tp:(P.take (n4 P)).length≤1000000000:=by simp[n4]; omega
 have tq:(Q.take (n4 Q)).length≤1000000000:=by simp[n4]; omega
 rw[List.length_map,min4];refine Qe (XbQ P _ lp _) rfl (Qe (QaC P _ lp _) rfl (Qg (c185P _ tp) rfl g22.ok.plain rfl (Qe (QaC P _ lp _) rfl (Qg (c185P _ tp) rfl g22.ok.plain rfl ?_))));refine au ?_;refine Xb hQ5 rfl g8.ok.plain rfl ?_;refine au ?_;rw[List.length_map,min4];refine Qe (XbQ Q _ lq _) rfl (Qe (QaC Q _ lq _) rfl (Qg (c185P _ tq) rfl g22.ok.plain rfl (Qe (QaC Q _ lq _) rfl (Qg (c185P _ tq) rfl g22.ok.plain rfl ?_))));refine au ?_;obtain⟨f0,f1,L,D,H,T,ev,f2,f3,f4⟩:=Zax hb (Yai sp.1 i0) (Yai sq.1 i1) (by rw[sp.1.1]; omega) (by rw[sq.1.1]; omega);have q96:=h96 b hf hsm _ _ _ _ _ _ f0 f1 f2 f3 f4;refine YaN (rd:=[]) q96 rfl g23.ok.plain (.cons (Bor.ro rfl) <| .cons (SB.lit (s:=Qaa 0 P Q) rfl RI.nils (RI.ro _) (RI.ro _) RI.nils RT.nils (RI.ro _) (RI.ro _) (RI.ro _) RI.nils RT.nils (RI.ro _)).agg <| .cons (Bor.ro rfl) .nil) (λ_ h=>by cases h) ?_;refine au ?_;rw[f2];exact⟨[],Bor.ro rfl⟩
end
end Go.Ah.Tz
end
section
namespace Go.Ah.Tz
open Go.Proofs.Tryz (prog)
set_option maxRecDepth 100000
theorem Zc1{σ:List ABlk}{c n:Nat}{rs:List (List AVal)}(h:hget σ c=.rows n rs):hget σ c≠.dead:=by rw[h]; simp
attribute [local irreducible] Ans.rd Ans.pu Ans.wr Ans.dr Ans.gr Ans.gw Ans.gl Ans.gd Ans.opt joinK W
set_option maxHeartbeats 8000000
section
variable (b:Bk) (hf:bkFit b=true)
include hf
theorem j103(d0 d1 dr:List Int)(k0:d0.length≤1000000000)(k1:d1.length≤1000000000)(k2:dr.length≤1000000000):PC 7 [bkV b,.agg [rowV d0,rowV d1],rowV dr] (begV b d0 d1 dr):=by
 have h157:=c67 b hf;refine Xm hP g7.ok rfl ?_;rw[H3.e]; unfold g7; dsimp only;refine au ?_;refine Xb h157 rfl g24.ok.plain rfl ?_;refine au ?_;by_cases hb:(bkR b).1=0
 case neg=>
  refine Zb (λ_=>?_) (λh=>by simp at h; exact absurd h hb);refine au ?_;exact XD (by rw[begR,if_pos hb]) _
 refine Zb (λh=>by simp at h; exact absurd hb h) (λ_=>?_);refine Zl 4 (Zf ?_);refine au ?_;refine Zg (ι:=Nat) (λi vs s=>vs=[iv i]∧s=[.box (bkC b),.box [rowV d0,rowV d1],.box zStC,.box [iv (bkR b).1,iv (bkR b).2]]∧i≤d0.length∧inB b (d0.take i)=true) (λi=>d0.length-i) 0 ⟨rfl,rfl,by omega,rfl⟩ ?_;rintro i vs s again ⟨rfl,rfl,hi,hin⟩ hag;refine au ?_;refine Zb (λhlt=>?_) (λhlt=>?_)
 ·have hlt:i<d0.length:=by simpa using hlt
  have bad:outB b d0[i]=true→begR b d0 d1 dr=(zSt,[],2):=by
   intro ho;rw[begR,if_neg (by simp[hb]),if_pos (by rw[Xbg hlt ho]; rfl)]
  refine au ?_;refine Za (Yk _ cel _ _ _ d0 _ i hlt) (Za (v:=iv d0[i]) (ldr rfl) ?_);refine au ?_;by_cases h1:d0[i]<0
  ·rw[decide_eq_true h1];refine au ?_;exact XD (bad (by simp[outB,h1])) _
  rw[decide_eq_false h1];refine au ?_;refine Za (Yk _ cel _ _ _ d0 _ i hlt) ?_;refine Ya ?_;refine Za (v:=iv d0[i]) (ldr rfl) ?_;refine au ?_;refine Zb (λh2=>?_) (λh2=>?_)
  ·have h2:(b.cards.length:Int)≤d0[i]:=by simpa using h2
   refine au ?_;exact XD (bad (by simp[outB,h2])) _
  have h2:¬(b.cards.length:Int)≤d0[i]:=by simpa using h2
  refine Za (Yf ..) ?_;rw[Qc (n:=i) (by omega)];exact hag (i+1) _ _ (by omega) ⟨rfl,rfl,by omega,by rw[Yat b hlt,hin]; simp[outB,h1,h2]⟩
 have hge:i=d0.length:=by
  have:¬i<d0.length:=by simpa using hlt
  omega
 subst hge;clear hag again;rw[List.take_length] at hin;have i0:=hin;clear hin hi hlt;refine au ?_;refine Zg (ι:=Nat) (λi vs s=>vs=[iv i]∧s=[.box (bkC b),.box [rowV d0,rowV d1],.box zStC,.box [iv (bkR b).1,iv (bkR b).2]]∧i≤d1.length∧inB b (d1.take i)=true) (λi=>d1.length-i) 0 ⟨rfl,rfl,by omega,rfl⟩ ?_;rintro i vs s again ⟨rfl,rfl,hi,hin⟩ hag;refine au ?_;refine Zb (λhlt=>?_) (λhlt=>?_)
 ·have hlt:i<d1.length:=by simpa using hlt
  have bad:outB b d1[i]=true→begR b d0 d1 dr=(zSt,[],2):=by
   intro ho;rw[begR,if_neg (by simp[hb]),if_pos (by rw[Xbg hlt ho]; exact Bool.and_false _)]
  refine au ?_;refine Za (Yk _ cel _ _ _ d1 _ i hlt) (Za (v:=iv d1[i]) (ldr rfl) ?_);refine au ?_;by_cases h1:d1[i]<0
  ·rw[decide_eq_true h1];refine au ?_;exact XD (bad (by simp[outB,h1])) _
  rw[decide_eq_false h1];refine au ?_;refine Za (Yk _ cel _ _ _ d1 _ i hlt) ?_;refine Ya ?_;refine Za (v:=iv d1[i]) (ldr rfl) ?_;refine au ?_;refine Zb (λh2=>?_) (λh2=>?_)
  ·have h2:(b.cards.length:Int)≤d1[i]:=by simpa using h2
   refine au ?_;exact XD (bad (by simp[outB,h2])) _
  have h2:¬(b.cards.length:Int)≤d1[i]:=by simpa using h2
  refine Za (Yf ..) ?_;rw[Qc (n:=i) (by omega)];exact hag (i+1) _ _ (by omega) ⟨rfl,rfl,by omega,by rw[Yat b hlt,hin]; simp[outB,h1,h2]⟩
 have hge:i=d1.length:=by
  have:¬i<d1.length:=by simpa using hlt
  omega
 subst hge;clear hag again;rw[List.take_length] at hin;have i1:=hin;clear hin hi hlt;refine au ?_;have e0:(d0.map cel).length=d0.length:=List.length_map _;have e1:(d1.map cel).length=d1.length:=List.length_map _;have nn:begR b d0 d1 dr=if 60<d0.length∨60<d1.length∨256<dr.length then (zSt,[],3) else ((drawF (Qaa 1 (shuffle d0 dr 0).1 (shuffle d1 dr (shuffle d0 dr 0).2).1) 0).1,[turnE,evC (drawF (Qaa 1 (shuffle d0 dr 0).1 (shuffle d1 dr (shuffle d0 dr 0).2).1) 0).2.1],0):=by
  rw[begR,if_neg (by simp[hb]),if_neg (by rw[i0,i1]; simp)]
 by_cases m0:60<d0.length
 ·rw[decide_eq_true (show ((d0.map cel).length:Int)>60 by omega)];refine au ?_;exact XD (by rw[nn,if_pos (by omega)]) _
 rw[decide_eq_false (show ¬((d0.map cel).length:Int)>60 by omega)];refine au ?_;by_cases m1:60<d1.length
 ·rw[decide_eq_true (show ((d1.map cel).length:Int)>60 by omega)];refine au ?_;exact XD (by rw[nn,if_pos (by omega)]) _
 rw[decide_eq_false (show ¬((d1.map cel).length:Int)>60 by omega)];refine au ?_;by_cases m2:256<dr.length
 ·refine Zb (λ_=>?_) (λh=>by simp at h; omega);refine au ?_;exact XD (by rw[nn,if_pos (by omega)]) _
 refine Zb (λh=>by simp at h; omega) (λ_=>?_);rw[if_neg (by omega)] at nn;rw[begV,nn];clear nn;refine au ?_;refine Zl 4 (Zf ?_);refine au ?_;refine Xb (j105 d0 dr k0 k2 0) rfl g9.ok.plain rfl ?_;refine au ?_;have sp:=ZE k0 k2 0;obtain⟨P,a,hP'⟩:∃P a,shuffle d0 dr 0=(P,a):=⟨_,_,rfl⟩;rw[hP'] at sp ⊢;have sq:=ZE k1 k2 a;obtain⟨Q,a2,hQ'⟩:∃Q a2,shuffle d1 dr a=(Q,a2):=⟨_,_,rfl⟩;have hQ5:=j105 d1 dr k1 k2 a;rw[hQ'] at sq hQ5;have hQ'':(shuffle d1 dr (P,a).2).1=Q:=by rw[show (P,a).2=a from rfl,hQ']
 rw[hQ''];dsimp only at sp sq ⊢;have lp:n4 P≤P.length:=Nat.min_le_right _ _;have lq:n4 Q≤Q.length:=Nat.min_le_right _ _;have tp:(P.take (n4 P)).length≤1000000000:=by simp[n4]; omega
 have tq:(Q.take (n4 Q)).length≤1000000000:=by simp[n4]; omega
 have up:(P.drop (n4 P)).length≤1000000000:=by have:=sp.1.1; simp; omega
 have uq:(Q.drop (n4 Q)).length≤1000000000:=by have:=sq.1.1; simp; omega
 rw[List.length_map,min4];refine Qe (QaC P _ lp _) rfl (Qe (QcX (rd:=[]) rfl tp) (QE _ _) ?_);refine au ?_;refine Qe (QaC P _ lp _) rfl (Qe (QcX (rd:=[]) rfl tp) (QE _ _) ?_);refine au ?_;refine Qe (XbQ P _ lp _) rfl (Qe (QcX (rd:=[]) rfl up) (QE _ _) ?_);refine au ?_;refine Xb hQ5 rfl g9.ok.plain rfl ?_;refine au ?_;rw[List.length_map,min4];refine Qe (QaC Q _ lq _) rfl (Qe (QcX (rd:=[]) rfl tq) (QE _ _) ?_);refine au ?_;refine Qe (QaC Q _ lq _) rfl (Qe (QcX (rd:=[]) rfl tq) (QE _ _) ?_);refine au ?_;refine Qe (XbQ Q _ lq _) rfl (Qe (QcX (rd:=[]) rfl uq) (QE _ _) ?_);refine au ?_;obtain⟨f0,f1,L,D,H,T,ev,f2,f3,f4⟩:=Zax hb (Yai sp.1 i0) (Yai sq.1 i1) (by rw[sp.1.1]; omega) (by rw[sq.1.1]; omega);have q97:=h97 b hf _ _ _ _ _ _ f0 f1 f2 f3 f4;refine YaN (rd:=[6,7,8,10,11,12]) q97 rfl g25.ok.plain (.cons (Bor.ro rfl) <| .cons (SB.lit (s:=Qaa 0 P Q) rfl RI.nils (RI.own (b:=8) rfl (by simp) rfl) (RI.own (b:=6) rfl (by simp) rfl) RI.nils RT.nils (RI.own (b:=7) rfl (by simp) rfl) (RI.own (b:=12) rfl (by simp) rfl) (RI.own (b:=10) rfl (by simp) rfl) RI.nils RT.nils (RI.own (b:=11) rfl (by simp) rfl)).agg <| .cons (Bor.ro rfl) .nil) (λc hc=>?_) ?_
 ·simp only[List.mem_cons,List.not_mem_nil,or_false] at hc;rcases hc with rfl|rfl|rfl|rfl|rfl|rfl<;>exact Zc1 rfl
 refine au ?_;rw[f2];exact⟨[],Bor.ro rfl⟩
end
end Go.Ah.Tz
end
section
namespace Go.Ah.Tz
open Go.Proofs.Tryz (prog)
set_option maxRecDepth 100000
attribute [local irreducible] Ans.rd Ans.pu Ans.wr Ans.dr Ans.gr Ans.gw Ans.gl Ans.gd Ans.opt joinK W
set_option maxHeartbeats 8000000
theorem c109x(s:St)(hs:StLe 2000000 s):PC 14 [stV s] (.bool (decide (1000<sizeN s))):=by
 have a0:=hs.attack;obtain⟨d0,h0,g0,u0,t0⟩:=hs.s0;obtain⟨d1,h1,g1,u1,t1⟩:=hs.s1;refine Yc hP g14.ok rfl rfl ?_;rw[H1.e]; unfold g14; dsimp only;refine Zd rfl rfl (Za rfl (Za rfl (Za (v:=iv s.attack.length) (rd:=[]) (by simp[Ze]) (Zl 3 (Zf ?_)))));refine Za rfl (Xc (Za rfl (Za rfl (Za rfl (Zd rfl rfl (Zd rfl rfl ?_))))));refine Za rfl (Za rfl (Za (v:=iv s.s0.deck.length) (rd:=[]) (by simp[Ze]) (Za (Yf ..) ?_)));rw[IntWalk.i64_in ((s.attack.length:Int)+s.s0.deck.length) (by omega)];refine Za rfl (Za rfl (Za (v:=iv s.s0.hand.length) (rd:=[]) (by simp[Ze]) (Za (Yf ..) ?_)));rw[IntWalk.i64_in ((s.attack.length:Int)+s.s0.deck.length+s.s0.hand.length) (by omega)];refine Za rfl (Za rfl (Za (v:=iv s.s0.grave.length) (rd:=[]) (by simp[Ze]) (Za (Yf ..) ?_)));rw[IntWalk.i64_in ((s.attack.length:Int)+s.s0.deck.length+s.s0.hand.length+s.s0.grave.length) (by omega)];refine Za rfl (Za rfl (Za (v:=iv s.s0.units.length) (rd:=[]) (by simp[Ze]) (Za (Yf ..) ?_)));rw[IntWalk.i64_in ((s.attack.length:Int)+s.s0.deck.length+s.s0.hand.length+s.s0.grave.length+s.s0.units.length) (by omega)];refine Za rfl (Za rfl (Za (v:=iv s.s0.told.length) (rd:=[]) (by simp[Ze]) (Za (Yf ..) ?_)));rw[IntWalk.i64_in ((s.attack.length:Int)+s.s0.deck.length+s.s0.hand.length+s.s0.grave.length+s.s0.units.length+s.s0.told.length) (by omega)];generalize hA:(s.attack.length:Int)+s.s0.deck.length+s.s0.hand.length+s.s0.grave.length+s.s0.units.length+s.s0.told.length=A;refine Za (Yf ..) ?_;rw[show IntKind.i64.wrap (0+1)=1 from by decide];refine Zf ?_;refine Za rfl (Xc (Za rfl (Za rfl (Za rfl (Zd rfl rfl (Zd rfl rfl ?_))))));refine Za rfl (Za rfl (Za (v:=iv s.s1.deck.length) (rd:=[]) (by simp[Ze]) (Za (Yf ..) ?_)));rw[IntWalk.i64_in (A+s.s1.deck.length) (by omega)];refine Za rfl (Za rfl (Za (v:=iv s.s1.hand.length) (rd:=[]) (by simp[Ze]) (Za (Yf ..) ?_)));rw[IntWalk.i64_in (A+s.s1.deck.length+s.s1.hand.length) (by omega)];refine Za rfl (Za rfl (Za (v:=iv s.s1.grave.length) (rd:=[]) (by simp[Ze]) (Za (Yf ..) ?_)));rw[IntWalk.i64_in (A+s.s1.deck.length+s.s1.hand.length+s.s1.grave.length) (by omega)];refine Za rfl (Za rfl (Za (v:=iv s.s1.units.length) (rd:=[]) (by simp[Ze]) (Za (Yf ..) ?_)));rw[IntWalk.i64_in (A+s.s1.deck.length+s.s1.hand.length+s.s1.grave.length+s.s1.units.length) (by omega)];refine Za rfl (Za rfl (Za (v:=iv s.s1.told.length) (rd:=[]) (by simp[Ze]) (Za (Yf ..) ?_)));rw[IntWalk.i64_in (A+s.s1.deck.length+s.s1.hand.length+s.s1.grave.length+s.s1.units.length+s.s1.told.length) (by omega)];refine Za (Yf ..) ?_;rw[show IntKind.i64.wrap (1+1)=2 from by decide];refine Zf ?_;refine Za rfl (Xe (Za (Xab ..) ?_))
 congr 1
 rw[decide_eq_decide];unfold sizeN;omega
theorem c77x(b:Bk)(hf:bkFit b=true)(s:St)(hs:StLe 2000000 s)(l:List Ef)(hl:lsFit l=true):∃q:Bool,PC 4 [bkV b,stV s,efV l] (.bool q)∧(q=false→b.cards.length≤60∧sizeN s≤1000):=by
 obtain⟨q1,h1⟩:=c133 b hf;have h2:=c109x s hs;obtain⟨q3,h3⟩:=c135 _ l (Nat.le_refl _) hl;refine⟨((decide ((b.cards.length:Int)>60)||q1)||decide (1000<sizeN s))||decide (q3>1000),?_,λh=>?_⟩
 ·refine Yc hP g4.ok rfl rfl ?_;rw[H3.e]; unfold g4; dsimp only;refine Zd (v:=.bptr 0 0) (rd:=[]) (up:=[(0,.box (bkC b))]) rfl rfl ?_;refine Zd (v:=.bptr 1 0) (rd:=[]) (up:=[(1,.box (stC s))]) rfl rfl ?_;refine Za rfl (Za rfl (Za (v:=iv b.cards.length) (rd:=[]) (by simp[Ze]) (Za (Xab ..) ?_)));refine Qbx (v1:=bkV b) (λ_=>rfl) (λ_ k hk=>Xb h1 rfl g13.ok.plain rfl hk) ?_;refine Qbx (v1:=stV s) (λ_=>rfl) (λ_ k hk=>Xb h2 rfl g14.ok.plain rfl hk) ?_;exact QcA (v1:=efV l) (u0:=iv q3) (λ_=>rfl) (λ_ k hk=>Xb h3 rfl g15.ok.plain rfl hk) (λ_=>Xab ..) rfl
 ·simp only[Bool.or_eq_false_iff,decide_eq_false_iff_not] at h;omega
theorem Zc2(e:Ev)(h:e.cards.length≤1000000000):PC 30 [.agg (evC e),.agg (evC e)] (.bool true):=by
 have h62:=c62 e.cards e.cards (by omega);rw[show decide (e.cards=e.cards)=true from by simp] at h62;have:=c99 e e (x:=rowV e.cards) (y:=rowV e.cards) rfl rfl rfl rfl (q:=true) (λσ k hk=>Xb h62 rfl g28.ok.plain rfl hk);rw[Xa8] at this;exact this
end Go.Ah.Tz
end
section
namespace Go.Ah.Tz
open Go.Proofs.Tryz (prog)
set_option maxRecDepth 100000
attribute [local irreducible] Ans.rd Ans.pu Ans.wr Ans.dr Ans.gr Ans.gw Ans.gl Ans.gd Ans.opt joinK W
set_option maxHeartbeats 8000000
theorem j106(l:List Int)(hl:l.length≤1000000000):PC 12 [rowV l,rowV l] (.bool true):=by
 refine Yc hP g12.ok rfl rfl ?_;rw[H2.e]; unfold g12; dsimp only;refine Za (v:=iv l.length) (rd:=[]) (by simp[Xo]) (Za (v:=iv l.length) (rd:=[]) (by simp[Xo]) (Za (QaG ..) ?_));rw[decide_eq_false (show ¬((l.length:Int)≠l.length) by simp)];refine Xe ?_;refine Zg (ι:=Nat) (λi vs _=>vs=[iv i]∧i≤l.length) (λi=>l.length-i) 0 ⟨rfl,by omega⟩ ?_;rintro i vs σ again ⟨rfl,hi⟩ hag;refine Za (v:=iv l.length) (rd:=[]) (by simp[Xo]) (Za (XI ..) (Zb (λh=>?_) (λ_=>rfl)));have hlt:i<l.length:=by simpa using h
 refine Za (Yk _ cel _ _ _ l _ i hlt) (Za (v:=iv l[i]) (ldr rfl) (Za (Yk _ cel _ _ _ l _ i hlt) (Za (v:=iv l[i]) (ldr rfl) (Za (QaG ..) ?_))));rw[decide_eq_false (show ¬(l[i]≠l[i]) by simp)];refine Xe (Za (Yf ..) ?_);rw[Qc (n:=i) (by omega)];exact hag (i+1) _ _ (by omega) ⟨rfl,by omega⟩
theorem Qcu:PC 30 [.agg turnE,.agg turnE] (.bool true):=by
 have h85:PC 28 [.nils,.nils] (.bool true):=by
  refine Yc hP g28.ok rfl rfl ?_;rw[H2.e]; unfold g28; dsimp only;refine au ?_;refine Zl 2 (Zf ?_);refine au ?_;rfl
 have:=c99 ⟨0,0,0,0,0,1,[]⟩ ⟨0,0,0,0,0,1,[]⟩ (x:=.nils) (y:=.nils) rfl rfl rfl rfl (q:=true) (λσ k hk=>Xb h85 rfl g28.ok.plain rfl hk);rw[Xa8] at this;exact this
section
variable (h101:PC 5 [] (.bool true)) (b:Bk) (hf:bkFit b=true) (hsm:Zu b.cards)
include h101 hf hsm
theorem j22(d0 d1 dr:List Int)(k0:d0.length≤1000000000)(k1:d1.length≤1000000000)(k2:dr.length≤1000000000)(f:Int):PC 3 [bkV b,.agg [rowV d0,rowV d1],rowV dr,iv f] (.bool true):=by
 obtain⟨q,h77,_⟩:=c77x b hf zSt ⟨Nat.zero_le _,⟨Nat.zero_le _,Nat.zero_le _,Nat.zero_le _,Nat.zero_le _,Nat.zero_le _⟩,⟨Nat.zero_le _,Nat.zero_le _,Nat.zero_le _,Nat.zero_le _,Nat.zero_le _⟩⟩ [] rfl;refine Yc hP g3.ok rfl rfl ?_;rw[H4.e]; unfold g3; dsimp only;refine au ?_;refine Yap (rd:=[]) h77 rfl g4.ok.plain (.cons (Bor.ro rfl) <| .cons SB.zero.agg <| .cons (Bor.weak (Bor.ro rfl) (λM u d=>d.nils_rsl 14)) .nil) rfl ?_;cases q with
 |true=>
  refine au ?_;refine Xb h101 rfl g5.ok.plain rfl ?_;refine au ?_;rfl
 |false=>
 refine au ?_;refine Zb (λ_=>?_) (λ_=>?_)
 ·refine Xb h101 rfl g5.ok.plain rfl ?_;refine au ?_;rfl
 have h102:=j102 b hf hsm d0 d1 dr k0 k1 k2;have h103:=j103 b hf d0 d1 dr k0 k1 k2;obtain⟨r1,r2,r3⟩:=ZcW (b:=b) k0 k1 k2;unfold begV at h102 h103;generalize begR b d0 d1 dr=R at *;have h45:=c20 R.1 R.1 r1;rw[decide_eq_true rfl] at h45;have h72:=c47 (rows:=R.2.1) (by omega) (λr hr=>by
  rcases r3 r hr with rfl|⟨e,rfl,he⟩
  ·exact⟨rfl,rfl,Qcu⟩
  ·exact⟨rfl,rfl,Zc2 e he⟩)
 have h104:=j104 d0 dr k0 k2 f;have h105:=j105 d0 dr k0 k2 f;have h106:=j106 (shuffle d0 dr f).1 (by rw[(ZE k0 k2 f).1.1]; exact k0);generalize shuffle d0 dr f=S at *;refine au ?_;refine Xb h102 rfl g6.ok.plain rfl ?_;refine au ?_;refine Xb h103 rfl g7.ok.plain rfl ?_;refine au ?_;refine Xb h104 rfl g8.ok.plain rfl ?_;refine au ?_;refine Xb h105 rfl g9.ok.plain rfl ?_;refine Za rfl (Za rfl (Za (Yd ..) ?_));rw[decide_eq_true rfl];refine au ?_;refine Xb h45 rfl g10.ok.plain rfl ?_;refine au ?_;refine Xb h72 rfl g11.ok.plain rfl ?_;refine au ?_;refine Xb h106 rfl g12.ok.plain rfl ?_;refine au ?_;rw[show (S.2==S.2)=true from beq_self_eq_true _];refine au ?_;refine Xb h101 rfl g5.ok.plain rfl ?_;refine au ?_;rfl
end
end Go.Ah.Tz
end
section
namespace Go.Ah.Tz
open Go.Proofs.Tryz (prog)
open Go.Proofs.YtndbfoldjmppfaaGreatDoor.Rows (uptoBulk uptoBulkAll)
variable {H:Type}
theorem Yah(b:List UInt8):uptoBulk (DataW.lit (H:=H) (.string b))=b.length+1:=by simp only[uptoBulk]
theorem Z7(ds:List (DataW H)):uptoBulk (.agg ds)=uptoBulkAll ds+1:=by simp only[uptoBulk]
theorem YcW(es sp:List (DataW H)):uptoBulk (.slice es sp)=uptoBulkAll es+uptoBulkAll sp+1:=by simp only[uptoBulk]
theorem YB(d:DataW H)(ds:List (DataW H)):uptoBulkAll (d::ds)=uptoBulk d+uptoBulkAll ds:=by simp only[uptoBulkAll]
theorem YcG(d:DataW H):1≤uptoBulk d:=by
 cases d with
 |lit l=>cases l<;>simp[uptoBulk]
 |_=>simp[uptoBulk]
def Qv(P:Program)(t:TypeId):Option (List TypeId):=match P.underlying t with
 |some (.struct fs)=>some (fs.toList.map (·.type))
 |_=>none
theorem X6{P:Program}{fuel:Nat}{t:TypeId}{xs:List AVal}{d:DataW H}{ts:List TypeId}(h:Typed P fuel t xs d)(hs:Qv P t=some ts):∃f parts ds,fuel=f+1∧xs=parts.flatten∧d=.agg ds∧Tri (Typed P f) ts parts ds:=by
 cases fuel with
 |zero=>exact h.elim
 |succ f=>
  unfold Typed at h;unfold Qv at hs;split at hs
  ·rename_i fs e;rw[e] at h;cases hs;obtain⟨parts,ds,h1,h2,h3⟩:=h;exact⟨f,parts,ds,rfl,h1,h2,h3⟩
  ·cases hs
theorem YK{P:Program}{fuel:Nat}{t:TypeId}{xs:List AVal}{d:DataW H}{k:IntKind}(h:Typed P fuel t xs d)(hu:P.underlying t=some (.int k)):∃n,xs=[.int k n]∧(Lit.int k n).wf=true∧d=.lit (.int k n):=by
 cases fuel with
 |zero=>exact h.elim
 |succ f=>unfold Typed at h; rw[hu] at h; exact h
theorem Qc4{P:Program}{fuel:Nat}{t:TypeId}{xs:List AVal}{d:DataW H}(h:Typed P fuel t xs d)(hu:P.underlying t=some .bool):∃b,xs=[.bool b]∧d=.lit (.bool b):=by
 cases fuel with
 |zero=>exact h.elim
 |succ f=>unfold Typed at h; rw[hu] at h; exact h
theorem Xby{P:Program}{fuel:Nat}{t:TypeId}{xs:List AVal}{d:DataW H}(h:Typed P fuel t xs d)(hu:P.underlying t=some .string):∃s,xs=[.str s]∧d=.lit (.string s):=by
 cases fuel with
 |zero=>exact h.elim
 |succ f=>unfold Typed at h; rw[hu] at h; exact h
theorem XcD{P:Program}{fuel:Nat}{e:TypeId}{X:Type}(toC:X→List AVal)(m:X→Nat)(Q:X→Prop){B:Nat}(hx:∀xs (d:DataW H),Typed P fuel e xs d→uptoBulk d≤B→∃x,xs=toC x∧Q x∧m x≤uptoBulk d) :
  ∀ {rows:List (List AVal)} {es:List (DataW H)},Two (Typed P fuel e) rows es→uptoBulkAll es≤B→∃l:List X,rows=l.map toC∧(∀x∈l,Q x)∧(l.map m).sum≤uptoBulkAll es∧l.length≤uptoBulkAll es
 |[],[],_,_=>⟨[],rfl,by simp,by simp,by simp⟩
 |r::rows,d::es,h,hb=>by
  rw[YB] at hb;obtain⟨x,e1,q1,m1⟩:=hx r d h.1 (by omega);obtain⟨l,e2,q2,s2,l2⟩:=XcD toC m Q hx h.2 (by omega);refine⟨x::l,by rw[e1,e2]; rfl,λy hy=>?_,?_,?_⟩
  ·rcases List.mem_cons.1 hy with rfl|hy
   ·exact q1
   ·exact q2 y hy
  ·rw[List.map_cons,List.sum_cons,YB]; omega
  ·have:=YcG d;rw[List.length_cons,YB]; omega
 |[],_::_,h,_=>h.elim
 |_::_,[],h,_=>h.elim
theorem XK{P:Program}{fuel:Nat}{t e:TypeId}{n:Nat}{xs:List AVal}{d:DataW H}{X:Type}(toC:X→List AVal)(m:X→Nat)(Q:X→Prop){B:Nat}(h:Typed P fuel t xs d)(hu:P.underlying t=some (.slice e))(hn:P.cellsOf e=n)
 (hx:∀f,f<fuel→∀xs (d:DataW H),Typed P f e xs d→uptoBulk d≤B→∃x,xs=toC x∧Q x∧m x≤uptoBulk d)(hb:uptoBulk d≤B) :
  ∃l:List X,xs=[.rsl false false n (l.map toC)]∧(∀x∈l,Q x)∧(l.map m).sum≤uptoBulk d∧l.length≤uptoBulk d:=by
 cases fuel with
 |zero=>exact h.elim
 |succ f=>
  unfold Typed at h;rw[hu] at h;subst hn;obtain⟨rows,rfl,⟨rfl,rfl⟩|⟨es,sp,rfl,h2⟩⟩:=h
  ·exact⟨[],rfl,by simp,by simp,by simp⟩
  ·rw[YcW] at hb ⊢;obtain⟨l,rfl,q,s,k⟩:=XcD toC m Q (hx f (by omega)) h2 (by omega);exact⟨l,rfl,q,by omega,by omega⟩
theorem Xc4{P:Program}{fuel:Nat}{t e:TypeId}{xs:List AVal}{d:DataW H}(h:Typed P fuel t xs d)(hu:P.underlying t=some (.array 2 e)):∃f p q a b,fuel=f+1∧xs=p++q∧d=.agg [a,b]∧Typed P f e p a∧Typed P f e q b:=by
 cases fuel with
 |zero=>exact h.elim
 |succ f=>
  unfold Typed at h;rw[hu] at h;obtain⟨parts,ds,rfl,rfl,hl,h2⟩:=h
  match parts,hl,h2 with
  |[p,q],_,h2=>
   obtain⟨a,ds,rfl,ha,h2⟩:=h2.cons;obtain⟨b,ds,rfl,hb,h2⟩:=h2.cons
   match ds,h2 with
   |[],_=>exact⟨f,p,q,a,b,rfl,by simp,rfl,ha,hb⟩
theorem wf8{n:Int}(h:(Lit.int .i8 n).wf=true):i8B n=true:=by
 have h1:IntKind.i8.min = -128:=by decide
 have h2:IntKind.i8.max=127:=by decide
 simp only[Lit.wf,h1,h2] at h;exact h
theorem wf64{n:Int}(h:(Lit.int .i64 n).wf=true):i64B n=true:=by
 have h1:IntKind.i64.min = -9223372036854775808:=by decide
 have h2:IntKind.i64.max=9223372036854775807:=by decide
 simp only[Lit.wf,h1,h2] at h;exact h
theorem Qbs{l:List Nm}(h:∀x∈l,nmFit x=true):ZaU l=true:=by
 induction l with
 |nil=>rfl
 |cons x l ih=>simp only[ZaU,Bool.and_eq_true]; exact⟨h x (List.mem_cons_self ..),ih λy hy=>h y (List.mem_cons_of_mem _ hy)⟩
theorem Qcg{l:List Cn}(h:∀x∈l,cnFit x=true):Za2 l=true:=by
 induction l with
 |nil=>rfl
 |cons x l ih=>simp only[Za2,Bool.and_eq_true]; exact⟨h x (List.mem_cons_self ..),ih λy hy=>h y (List.mem_cons_of_mem _ hy)⟩
theorem ZaQ{l:List Ef}(h:∀x∈l,efFit x=true):ZaD l=true:=by
 induction l with
 |nil=>rfl
 |cons x l ih=>simp only[ZaD,Bool.and_eq_true]; exact⟨h x (List.mem_cons_self ..),ih λy hy=>h y (List.mem_cons_of_mem _ hy)⟩
theorem Ybh:∀l:List Nm,(nmPs l).length=(l.map λx=>(nmP x).length).sum
 |[]=>rfl
 |x::l=>by simp only[nmPs,List.length_append,List.map_cons,List.sum_cons,Ybh l]
theorem QbO:∀l:List Cn,(cnPs l).length=(l.map λx=>(cnP x).length).sum
 |[]=>rfl
 |x::l=>by simp only[cnPs,List.length_append,List.map_cons,List.sum_cons,QbO l]
theorem YaK:∀l:List Ef,(efPs l).length=(l.map λx=>(efP x).length).sum
 |[]=>rfl
 |x::l=>by simp only[efPs,List.length_append,List.map_cons,List.sum_cons,YaK l]
theorem bigLe{n k:Nat}(h:n≤k)(hk:k≤1048576):decide (n≤big)=true:=decide_eq_true (Nat.le_trans h (Nat.le_trans hk (by decide)))
abbrev XcU:TypeId:=29
abbrev XQ:TypeId:=3
abbrev XcC:TypeId:=4
abbrev Qbj:TypeId:=9
abbrev Xc6:TypeId:=81
abbrev XcP:TypeId:=79
abbrev Yc6:TypeId:=84
abbrev Xc3:TypeId:=82
abbrev Zdg:TypeId:=86
abbrev Zby:TypeId:=47
abbrev Qdf:TypeId:=74
abbrev Yc3:TypeId:=22
abbrev Ydg:TypeId:=77
abbrev Qc3:TypeId:=23
abbrev QcP:TypeId:=75
abbrev YcC:TypeId:=25
abbrev t_th:TypeId:=104
abbrev t_ths:TypeId:=30
abbrev Y6:TypeId:=26
abbrev t_sd:TypeId:=32
abbrev t_sds:TypeId:=33
abbrev t_st:TypeId:=35
theorem Qc6:prog.underlying XcU=some (.int .i8):=by kernel_rfl
theorem Yaw:prog.underlying XQ=some (.int .i64):=by kernel_rfl
theorem ZcE:prog.underlying XcC=some .bool:=by kernel_rfl
theorem YcE:prog.underlying Qbj=some .string:=by kernel_rfl
theorem Qdh:prog.underlying XcP=some (.slice Xc6):=by kernel_rfl
theorem u_cns:prog.underlying Xc3=some (.slice Yc6):=by kernel_rfl
theorem Zc5:prog.underlying Zby=some (.slice Zdg):=by kernel_rfl
theorem u_cds:prog.underlying Yc3=some (.slice Qdf):=by kernel_rfl
theorem u_fos:prog.underlying Qc3=some (.slice Ydg):=by kernel_rfl
theorem Zdi:prog.underlying QcP=some (.slice Qbj):=by kernel_rfl
theorem QcU:prog.underlying Y6=some (.slice XQ):=by kernel_rfl
theorem n_nm:prog.cellsOf Xc6=4:=by kernel_rfl
theorem n_cn:prog.cellsOf Yc6=5:=by kernel_rfl
theorem n_ef:prog.cellsOf Zdg=14:=by kernel_rfl
theorem n_cd:prog.cellsOf Qdf=12:=by kernel_rfl
theorem n_fo:prog.cellsOf Ydg=7:=by kernel_rfl
theorem Xdd:prog.cellsOf Qbj=1:=by kernel_rfl
theorem n_int:prog.cellsOf XQ=1:=by kernel_rfl
theorem s_nm:Qv prog Xc6=some [XcU,XQ,XcU,XcP]:=by kernel_rfl
theorem s_cn:Qv prog Yc6=some [XcU,XcU,Qbj,XcP,Xc3]:=by kernel_rfl
theorem s_ef:Qv prog Zdg=some [XcU,XcU,Xc6,Qbj,Yc6,Zby,Zby]:=by kernel_rfl
theorem s_cd:Qv prog Qdf=some [Qbj,XcC,XQ,XQ,XQ,XQ,XQ,XQ,Zby,Zby,Zby,XQ]:=by kernel_rfl
theorem s_fo:Qv prog Ydg=some [Qbj,XQ,XQ,XQ,QcP,QcP,XQ]:=by kernel_rfl
theorem s_bk:Qv prog YcC=some [Yc3,Qc3]:=by kernel_rfl
theorem Zdh(fuel:Nat):∀xs (d:DataW H),Typed prog fuel Xc6 xs d→uptoBulk d≤1048576→∃x,xs=nmC x∧nmFit x=true∧(nmP x).length≤uptoBulk d:=by
 induction fuel using Nat.strongRecOn with
 |_ fuel ih=>
 intro xs d h hb;obtain⟨f,parts,ds,rfl,rfl,rfl,r⟩:=X6 h s_nm;obtain⟨p0,parts,d0,ds,rfl,rfl,h0,r⟩:=r.cons;obtain⟨p1,parts,d1,ds,rfl,rfl,h1,r⟩:=r.cons;obtain⟨p2,parts,d2,ds,rfl,rfl,h2,r⟩:=r.cons;obtain⟨p3,parts,d3,ds,rfl,rfl,h3,r⟩:=r.cons;obtain⟨rfl,rfl⟩:=r.nil;obtain⟨v0,rfl,w0,rfl⟩:=YK h0 Qc6;obtain⟨v1,rfl,w1,rfl⟩:=YK h1 Yaw;obtain⟨v2,rfl,w2,rfl⟩:=YK h2 Qc6;simp only[Z7,YB,Yah] at hb ⊢;obtain⟨l,rfl,q,s,k⟩:=XK nmC (λx=>(nmP x).length) (λx=>nmFit x=true) h3 Qdh n_nm (λf' hf=>ih f' (by omega)) (show uptoBulk d3≤1048576 by omega);refine⟨.mk v0 v1 v2 l,by rw[Yx]; rfl,?_,?_⟩
 ·simp only[nmFit,bigLe k (show uptoBulk d3≤1048576 by omega),Qbs q,wf8 w0,wf64 w1,Bool.and_self]
 ·simp only[nmP,List.length_cons,Ybh]; omega
theorem ty_cn(fuel:Nat):∀xs (d:DataW H),Typed prog fuel Yc6 xs d→uptoBulk d≤1048576→∃x,xs=cnC x∧cnFit x=true∧(cnP x).length≤uptoBulk d:=by
 induction fuel using Nat.strongRecOn with
 |_ fuel ih=>
 intro xs d h hb;obtain⟨f,parts,ds,rfl,rfl,rfl,r⟩:=X6 h s_cn;obtain⟨p0,parts,d0,ds,rfl,rfl,h0,r⟩:=r.cons;obtain⟨p1,parts,d1,ds,rfl,rfl,h1,r⟩:=r.cons;obtain⟨p2,parts,d2,ds,rfl,rfl,h2,r⟩:=r.cons;obtain⟨p3,parts,d3,ds,rfl,rfl,h3,r⟩:=r.cons;obtain⟨p4,parts,d4,ds,rfl,rfl,h4,r⟩:=r.cons;obtain⟨rfl,rfl⟩:=r.nil;obtain⟨v0,rfl,w0,rfl⟩:=YK h0 Qc6;obtain⟨v1,rfl,w1,rfl⟩:=YK h1 Qc6;obtain⟨v2,rfl,rfl⟩:=Xby h2 YcE;simp only[Z7,YB,Yah] at hb ⊢;obtain⟨l,rfl,q,s,k⟩:=XK nmC (λx=>(nmP x).length) (λx=>nmFit x=true) h3 Qdh n_nm (λf' _=>Zdh f') (show uptoBulk d3≤1048576 by omega);obtain⟨l2,rfl,q2,s2,k2⟩:=XK cnC (λx=>(cnP x).length) (λx=>cnFit x=true) h4 u_cns n_cn (λf' hf=>ih f' (by omega)) (show uptoBulk d4≤1048576 by omega);refine⟨.mk v0 v1 v2 l l2,by rw[QH]; rfl,?_,?_⟩
 ·simp only[cnFit,bigLe k (show uptoBulk d3≤1048576 by omega),Qbs q,bigLe k2 (show uptoBulk d4≤1048576 by omega),Qcg q2,wf8 w0,Bool.and_self]
 ·simp only[cnP,List.length_cons,List.length_append,Ybh,QbO]; omega
theorem ty_ef(fuel:Nat):∀xs (d:DataW H),Typed prog fuel Zdg xs d→uptoBulk d≤1048576→∃x,xs=efC x∧efFit x=true∧(efP x).length≤uptoBulk d:=by
 induction fuel using Nat.strongRecOn with
 |_ fuel ih=>
 intro xs d h hb;obtain⟨f,parts,ds,rfl,rfl,rfl,r⟩:=X6 h s_ef;obtain⟨p0,parts,d0,ds,rfl,rfl,h0,r⟩:=r.cons;obtain⟨p1,parts,d1,ds,rfl,rfl,h1,r⟩:=r.cons;obtain⟨p2,parts,d2,ds,rfl,rfl,h2,r⟩:=r.cons;obtain⟨p3,parts,d3,ds,rfl,rfl,h3,r⟩:=r.cons;obtain⟨p4,parts,d4,ds,rfl,rfl,h4,r⟩:=r.cons;obtain⟨p5,parts,d5,ds,rfl,rfl,h5,r⟩:=r.cons;obtain⟨p6,parts,d6,ds,rfl,rfl,h6,r⟩:=r.cons;obtain⟨rfl,rfl⟩:=r.nil;obtain⟨v0,rfl,w0,rfl⟩:=YK h0 Qc6;obtain⟨v1,rfl,w1,rfl⟩:=YK h1 Qc6;obtain⟨v3,rfl,rfl⟩:=Xby h3 YcE;simp only[Z7,YB,Yah] at hb ⊢;obtain⟨n,rfl,qn,kn⟩:=Zdh _ _ _ h2 (by omega);obtain⟨c,rfl,qc,kc⟩:=ty_cn _ _ _ h4 (by omega);obtain⟨l,rfl,q,s,k⟩:=XK efC (λx=>(efP x).length) (λx=>efFit x=true) h5 Zc5 n_ef (λf' hf=>ih f' (by omega)) (show uptoBulk d5≤1048576 by omega);obtain⟨l2,rfl,q2,s2,k2⟩:=XK efC (λx=>(efP x).length) (λx=>efFit x=true) h6 Zc5 n_ef (λf' hf=>ih f' (by omega)) (show uptoBulk d6≤1048576 by omega);refine⟨.mk v0 v1 n v3 c l l2,by rw[ZI,Yx,QH]; rfl,?_,?_⟩
 ·simp only[efFit,qn,qc,bigLe k (show uptoBulk d5≤1048576 by omega),ZaQ q,bigLe k2 (show uptoBulk d6≤1048576 by omega),ZaQ q2,wf8 w0,Bool.and_self]
 ·have e1:(if cntOp v0 then nmP n else []).length≤(nmP n).length:=by split<;>simp
  have e2:(if v0=8 then cnP c++(efPs l++efPs l2) else []).length≤(cnP c).length+(efPs l).length+(efPs l2).length:=by
   split
   ·simp only[List.length_append]; omega
   ·simp
  rw[YaK,YaK] at e2;simp only[efP,List.length_cons,List.length_append];omega
theorem YcD{fuel:Nat}{xs:List AVal}{d:DataW H}(h:Typed prog fuel Zby xs d)(hb:uptoBulk d≤1048576):∃l,xs=[efV l]∧lsFit l=true∧(efPs l).length≤uptoBulk d:=by
 obtain⟨l,rfl,q,s,k⟩:=XK efC (λx=>(efP x).length) (λx=>efFit x=true) h Zc5 n_ef (λf' _=>ty_ef f') hb;exact⟨l,rfl,by simp only[lsFit,bigLe k hb,ZaQ q,Bool.and_self],by rw[YaK]; exact s⟩
theorem ty_cd(fuel:Nat)(xs:List AVal)(d:DataW H)(h:Typed prog fuel Qdf xs d)(hb:uptoBulk d≤1048576):∃x,xs=cdC x∧(cdFit x=true∧(cdP x).length≤1048576)∧0≤uptoBulk d:=by
 obtain⟨f,parts,ds,rfl,rfl,rfl,r⟩:=X6 h s_cd;obtain⟨p0,parts,d0,ds,rfl,rfl,h0,r⟩:=r.cons;obtain⟨p1,parts,d1,ds,rfl,rfl,h1,r⟩:=r.cons;obtain⟨p2,parts,d2,ds,rfl,rfl,h2,r⟩:=r.cons;obtain⟨p3,parts,d3,ds,rfl,rfl,h3,r⟩:=r.cons;obtain⟨p4,parts,d4,ds,rfl,rfl,h4,r⟩:=r.cons;obtain⟨p5,parts,d5,ds,rfl,rfl,h5,r⟩:=r.cons;obtain⟨p6,parts,d6,ds,rfl,rfl,h6,r⟩:=r.cons;obtain⟨p7,parts,d7,ds,rfl,rfl,h7,r⟩:=r.cons;obtain⟨p8,parts,d8,ds,rfl,rfl,h8,r⟩:=r.cons;obtain⟨p9,parts,d9,ds,rfl,rfl,h9,r⟩:=r.cons;obtain⟨p10,parts,d10,ds,rfl,rfl,h10,r⟩:=r.cons;obtain⟨p11,parts,d11,ds,rfl,rfl,h11,r⟩:=r.cons;obtain⟨rfl,rfl⟩:=r.nil;obtain⟨v0,rfl,rfl⟩:=Xby h0 YcE;obtain⟨v1,rfl,rfl⟩:=Qc4 h1 ZcE;obtain⟨v2,rfl,w2,rfl⟩:=YK h2 Yaw;obtain⟨v3,rfl,w3,rfl⟩:=YK h3 Yaw;obtain⟨v4,rfl,w4,rfl⟩:=YK h4 Yaw;obtain⟨v5,rfl,w5,rfl⟩:=YK h5 Yaw;obtain⟨v6,rfl,w6,rfl⟩:=YK h6 Yaw;obtain⟨v7,rfl,w7,rfl⟩:=YK h7 Yaw;obtain⟨v11,rfl,w11,rfl⟩:=YK h11 Yaw;simp only[Z7,YB,Yah] at hb ⊢;obtain⟨a,rfl,qa,ka⟩:=YcD h8 (by omega);obtain⟨b,rfl,qb,kb⟩:=YcD h9 (by omega);obtain⟨c,rfl,qc,kc⟩:=YcD h10 (by omega);refine⟨⟨v0,v1,v2,v3,v4,v5,v6,v7,a,b,c,v11⟩,rfl,⟨?_,?_⟩,by omega⟩
 ·simp only[cdFit,bigLe (Nat.le_refl v0.length) (by omega),qa,qb,qc,Bool.and_self]
 ·simp only[cdP,List.length_append]; omega
theorem Ydh(fuel:Nat)(xs:List AVal)(d:DataW H)(h:Typed prog fuel Qbj xs d)(_:uptoBulk d≤1048576):∃x,xs=txC x∧True∧0≤uptoBulk d:=by
 obtain⟨s,rfl,rfl⟩:=Xby h YcE;exact⟨s,rfl,trivial,by omega⟩
theorem ty_fo(fuel:Nat)(xs:List AVal)(d:DataW H)(h:Typed prog fuel Ydg xs d)(hb:uptoBulk d≤1048576):∃x,xs=foC x∧foFit x=true∧0≤uptoBulk d:=by
 obtain⟨f,parts,ds,rfl,rfl,rfl,r⟩:=X6 h s_fo;obtain⟨p0,parts,d0,ds,rfl,rfl,h0,r⟩:=r.cons;obtain⟨p1,parts,d1,ds,rfl,rfl,h1,r⟩:=r.cons;obtain⟨p2,parts,d2,ds,rfl,rfl,h2,r⟩:=r.cons;obtain⟨p3,parts,d3,ds,rfl,rfl,h3,r⟩:=r.cons;obtain⟨p4,parts,d4,ds,rfl,rfl,h4,r⟩:=r.cons;obtain⟨p5,parts,d5,ds,rfl,rfl,h5,r⟩:=r.cons;obtain⟨p6,parts,d6,ds,rfl,rfl,h6,r⟩:=r.cons;obtain⟨rfl,rfl⟩:=r.nil;obtain⟨v0,rfl,rfl⟩:=Xby h0 YcE;obtain⟨v1,rfl,w1,rfl⟩:=YK h1 Yaw;obtain⟨v2,rfl,w2,rfl⟩:=YK h2 Yaw;obtain⟨v3,rfl,w3,rfl⟩:=YK h3 Yaw;obtain⟨v6,rfl,w6,rfl⟩:=YK h6 Yaw;simp only[Z7,YB,Yah] at hb ⊢;obtain⟨a,rfl,_,_,ka⟩:=XK txC (λ_=>0) (λ_=>True) h4 Zdi Xdd (λf' _=>Ydh f') (show uptoBulk d4≤1048576 by omega);obtain⟨b,rfl,_,_,kb⟩:=XK txC (λ_=>0) (λ_=>True) h5 Zdi Xdd (λf' _=>Ydh f') (show uptoBulk d5≤1048576 by omega);refine⟨⟨v0,v1,v2,v3,a,b,v6⟩,rfl,?_,by omega⟩;simp only[foFit,bigLe (Nat.le_refl v0.length) (by omega),bigLe ka (show uptoBulk d4≤1048576 by omega),bigLe kb (show uptoBulk d5≤1048576 by omega),Bool.and_self]
theorem ty_bk{fuel:Nat}{xs:List AVal}{d:DataW H}(h:Typed prog fuel YcC xs d)(hb:uptoBulk d≤1048576):∃x,xs=bkC x∧bkFit x=true∧Zu x.cards:=by
 obtain⟨f,parts,ds,rfl,rfl,rfl,r⟩:=X6 h s_bk;obtain⟨p0,parts,d0,ds,rfl,rfl,h0,r⟩:=r.cons;obtain⟨p1,parts,d1,ds,rfl,rfl,h1,r⟩:=r.cons;obtain⟨rfl,rfl⟩:=r.nil;simp only[Z7,YB,Yah] at hb ⊢;obtain⟨a,rfl,q,_,k⟩:=XK cdC (λ_=>0) (λx=>cdFit x=true∧(cdP x).length≤1048576) h0 u_cds n_cd (λf' _=>ty_cd f') (show uptoBulk d0≤1048576 by omega);obtain⟨b,rfl,q2,_,k2⟩:=XK foC (λ_=>0) (λx=>foFit x=true) h1 u_fos n_fo (λf' _=>ty_fo f') (show uptoBulk d1≤1048576 by omega);refine⟨⟨a,b⟩,rfl,?_,λc hc=>Nat.le_trans (q c hc).2 (by decide)⟩;simp only[bkFit,QT,bigLe k (show uptoBulk d0≤1048576 by omega),bigLe k2 (show uptoBulk d1≤1048576 by omega),Bool.true_and,Bool.and_eq_true,List.all_eq_true];exact⟨λc hc=>(q c hc).1,q2⟩
theorem ty_i(fuel:Nat)(xs:List AVal)(d:DataW H)(h:Typed prog fuel XQ xs d)(_:uptoBulk d≤1048576):∃x,xs=cel x∧True∧0≤uptoBulk d:=by
 obtain⟨s,rfl,_,rfl⟩:=YK h Yaw;exact⟨s,rfl,trivial,by omega⟩
theorem QcD{fuel:Nat}{xs:List AVal}{d:DataW H}(h:Typed prog fuel Y6 xs d)(hb:uptoBulk d≤1048576):∃l,xs=[rowV l]∧l.length≤2000000:=by
 obtain⟨l,rfl,_,_,k⟩:=XK cel (λ_=>0) (λ_=>True) h QcU n_int (λf' _=>ty_i f') hb;exact⟨l,rfl,by omega⟩
end Go.Ah.Tz
end
section
namespace Go.Ah.Tz
open Go.Proofs.Tryz (prog)
set_option maxRecDepth 100000
noncomputable def tb24:GT:=(.node 118 3 g118.u (.node 57 2 g57.u (.node 33 3 g33.u (.node 19 1 g19.u (.node 16 0 g16.u (.node 6 3 g6.u (.node 5 0 g5.u .leaf .leaf) (.node 8 3 g8.u .leaf .leaf)) (.node 18 3 g18.u (.node 17 0 g17.u .leaf .leaf) .leaf)) (.node 23 3 g23.u (.node 21 2 g21.u (.node 20 2 g20.u .leaf .leaf) (.node 22 1 g22.u .leaf .leaf)) (.node 27 2 g27.u (.node 26 2 g26.u .leaf .leaf) .leaf))) (.node 44 1 g44.u (.node 41 1 g41.u (.node 39 1 g39.u (.node 34 1 g34.u .leaf .leaf) (.node 40 1 g40.u .leaf .leaf)) (.node 43 1 g43.u (.node 42 1 g42.u .leaf .leaf) .leaf)) (.node 47 2 g47.u (.node 46 2 g46.u (.node 45 1 g45.u .leaf .leaf) .leaf) (.node 49 4 g49.u (.node 48 3 g48.u .leaf .leaf) .leaf)))) (.node 80 2 g80.u (.node 74 2 g74.u (.node 65 4 g65.u (.node 59 3 g59.u (.node 58 2 g58.u .leaf .leaf) (.node 60 1 g60.u .leaf .leaf)) (.node 73 2 g73.u (.node 68 2 g68.u .leaf .leaf) .leaf)) (.node 77 2 g77.u (.node 76 2 g76.u (.node 75 1 g75.u .leaf .leaf) .leaf) (.node 79 2 g79.u (.node 78 1 g78.u .leaf .leaf) .leaf))) (.node 87 3 g87.u (.node 84 3 g84.u (.node 82 2 g82.u (.node 81 6 g81.u .leaf .leaf) (.node 83 2 g83.u .leaf .leaf)) (.node 86 1 g86.u (.node 85 1 g85.u .leaf .leaf) .leaf)) (.node 104 1 g104.u (.node 103 1 g103.u (.node 102 3 g102.u .leaf .leaf) .leaf) (.node 117 1 g117.u (.node 105 0 g105.u .leaf .leaf) .leaf))))) (.node 179 1 g179.u (.node 132 3 g132.u (.node 125 1 g125.u (.node 122 2 g122.u (.node 120 2 g120.u (.node 119 2 g119.u .leaf .leaf) (.node 121 2 g121.u .leaf .leaf)) (.node 124 3 g124.u (.node 123 2 g123.u .leaf .leaf) .leaf)) (.node 129 3 g129.u (.node 127 2 g127.u (.node 126 1 g126.u .leaf .leaf) (.node 128 2 g128.u .leaf .leaf)) (.node 131 2 g131.u (.node 130 2 g130.u .leaf .leaf) .leaf))) (.node 154 1 g154.u (.node 151 1 g151.u (.node 134 2 g134.u (.node 133 2 g133.u .leaf .leaf) (.node 150 4 g150.u .leaf .leaf)) (.node 153 1 g153.u (.node 152 1 g152.u .leaf .leaf) .leaf)) (.node 176 2 g176.u (.node 171 2 g171.u (.node 155 1 g155.u .leaf .leaf) .leaf) (.node 178 1 g178.u (.node 177 2 g177.u .leaf .leaf) .leaf)))) (.node 192 2 g192.u (.node 186 2 g186.u (.node 183 2 g183.u (.node 181 1 g181.u (.node 180 2 g180.u .leaf .leaf) (.node 182 2 g182.u .leaf .leaf)) (.node 185 1 g185.u (.node 184 1 g184.u .leaf .leaf) .leaf)) (.node 189 1 g189.u (.node 188 2 g188.u (.node 187 1 g187.u .leaf .leaf) .leaf) (.node 191 0 g191.u (.node 190 1 g190.u .leaf .leaf) .leaf))) (.node 238 2 g238.u (.node 223 2 g223.u (.node 210 1 g210.u (.node 209 2 g209.u .leaf .leaf) (.node 222 2 g222.u .leaf .leaf)) (.node 225 1 g225.u (.node 224 0 g224.u .leaf .leaf) .leaf)) (.node 274 2 g274.u (.node 257 1 g257.u (.node 256 2 g256.u .leaf .leaf) .leaf) (.node 282 2 g282.u (.node 281 2 g281.u .leaf .leaf) .leaf))))))
theorem Zc4:tb24.Ok prog GL0:=⟨g118.ok,⟨g57.ok,⟨g33.ok,⟨g19.ok,⟨g16.ok,⟨g6.ok,⟨g5.ok,trivial,trivial⟩,⟨g8.ok,trivial,trivial⟩⟩,⟨g18.ok,⟨g17.ok,trivial,trivial⟩,trivial⟩⟩,⟨g23.ok,⟨g21.ok,⟨g20.ok,trivial,trivial⟩,⟨g22.ok,trivial,trivial⟩⟩,⟨g27.ok,⟨g26.ok,trivial,trivial⟩,trivial⟩⟩⟩,⟨g44.ok,⟨g41.ok,⟨g39.ok,⟨g34.ok,trivial,trivial⟩,⟨g40.ok,trivial,trivial⟩⟩,⟨g43.ok,⟨g42.ok,trivial,trivial⟩,trivial⟩⟩,⟨g47.ok,⟨g46.ok,⟨g45.ok,trivial,trivial⟩,trivial⟩,⟨g49.ok,⟨g48.ok,trivial,trivial⟩,trivial⟩⟩⟩⟩,⟨g80.ok,⟨g74.ok,⟨g65.ok,⟨g59.ok,⟨g58.ok,trivial,trivial⟩,⟨g60.ok,trivial,trivial⟩⟩,⟨g73.ok,⟨g68.ok,trivial,trivial⟩,trivial⟩⟩,⟨g77.ok,⟨g76.ok,⟨g75.ok,trivial,trivial⟩,trivial⟩,⟨g79.ok,⟨g78.ok,trivial,trivial⟩,trivial⟩⟩⟩,⟨g87.ok,⟨g84.ok,⟨g82.ok,⟨g81.ok,trivial,trivial⟩,⟨g83.ok,trivial,trivial⟩⟩,⟨g86.ok,⟨g85.ok,trivial,trivial⟩,trivial⟩⟩,⟨g104.ok,⟨g103.ok,⟨g102.ok,trivial,trivial⟩,trivial⟩,⟨g117.ok,⟨g105.ok,trivial,trivial⟩,trivial⟩⟩⟩⟩⟩,⟨g179.ok,⟨g132.ok,⟨g125.ok,⟨g122.ok,⟨g120.ok,⟨g119.ok,trivial,trivial⟩,⟨g121.ok,trivial,trivial⟩⟩,⟨g124.ok,⟨g123.ok,trivial,trivial⟩,trivial⟩⟩,⟨g129.ok,⟨g127.ok,⟨g126.ok,trivial,trivial⟩,⟨g128.ok,trivial,trivial⟩⟩,⟨g131.ok,⟨g130.ok,trivial,trivial⟩,trivial⟩⟩⟩,⟨g154.ok,⟨g151.ok,⟨g134.ok,⟨g133.ok,trivial,trivial⟩,⟨g150.ok,trivial,trivial⟩⟩,⟨g153.ok,⟨g152.ok,trivial,trivial⟩,trivial⟩⟩,⟨g176.ok,⟨g171.ok,⟨g155.ok,trivial,trivial⟩,trivial⟩,⟨g178.ok,⟨g177.ok,trivial,trivial⟩,trivial⟩⟩⟩⟩,⟨g192.ok,⟨g186.ok,⟨g183.ok,⟨g181.ok,⟨g180.ok,trivial,trivial⟩,⟨g182.ok,trivial,trivial⟩⟩,⟨g185.ok,⟨g184.ok,trivial,trivial⟩,trivial⟩⟩,⟨g189.ok,⟨g188.ok,⟨g187.ok,trivial,trivial⟩,trivial⟩,⟨g191.ok,⟨g190.ok,trivial,trivial⟩,trivial⟩⟩⟩,⟨g238.ok,⟨g223.ok,⟨g210.ok,⟨g209.ok,trivial,trivial⟩,⟨g222.ok,trivial,trivial⟩⟩,⟨g225.ok,⟨g224.ok,trivial,trivial⟩,trivial⟩⟩,⟨g274.ok,⟨g257.ok,⟨g256.ok,trivial,trivial⟩,trivial⟩,⟨g282.ok,⟨g281.ok,trivial,trivial⟩,trivial⟩⟩⟩⟩⟩⟩
end Go.Ah.Tz
end
section
namespace Go.Ah.Tz
open Go.Proofs.Tryz (prog)
set_option maxRecDepth 1000000
theorem hT24:∀f np g,tb24.get f=some (np,g)→GQ f np g:=GT.get_ok Zc4
abbrev F182:Nat:=16
abbrev F219:Nat:=17
abbrev F220:Nat:=19
def b20V:AVal:=(.agg [(.rsl true false 12 [[(.str [73,109,112]),(.bool true),(.int .i64 1),(.int .i64 2),(.int .i64 3),(.int .i64 1),(.int .i64 0),(.int .i64 0),.nils,.nils,.nils,(.int .i64 0)],[(.str [69,108,102]),(.bool true),(.int .i64 2),(.int .i64 1),(.int .i64 1),(.int .i64 0),(.int .i64 1),(.int .i64 0),.nils,.nils,.nils,(.int .i64 0)],[(.str [66,111,108,116]),(.bool false),(.int .i64 1),(.int .i64 0),(.int .i64 0),(.int .i64 0),(.int .i64 0),(.int .i64 0),(.rsl true false 14 [[(.int .i8 0),(.int .i8 2),(.int .i8 0),(.int .i64 3),(.int .i8 0),.nils,(.str []),(.int .i8 0),(.int .i8 0),(.str []),.nils,.nils,.nils,.nils]]),.nils,.nils,(.int .i64 0)]]),(.rsl true false 7 [[(.str [115,116,100]),(.int .i64 0),(.int .i64 60),(.int .i64 60),.nils,.nils,(.int .i64 0)]])])
def dkV:AVal:=(.agg [(.rsl true false 1 [[(.int .i64 0)],[(.int .i64 1)],[(.int .i64 2)],[(.int .i64 0)],[(.int .i64 1)],[(.int .i64 2)]]),(.rsl true false 1 [[(.int .i64 2)],[(.int .i64 1)],[(.int .i64 0)],[(.int .i64 0)]])])
theorem p182:PC F182 [] b20V:=ZaJ hP hT24 (much:=1000000000) 60 (by kernel_rfl)
theorem p219:PC F219 [] dkV:=ZaJ hP hT24 (much:=1000000000) 60 (by kernel_rfl)
theorem p220:PC F220 [b20V] (.agg [.int .i64 0,.int .i64 0]):=ZaJ hP hT24 (much:=1000000000) 60 (by kernel_rfl)
def kn24:Known:=[(F182,[],b20V),(F219,[],dkV),(F220,[b20V],.agg [.int .i64 0,.int .i64 0])]
theorem Xc0:KnOk prog GL0 kn24:=⟨⟨⟨g16.ok.plain,rfl,rfl⟩,p182⟩,⟨⟨g17.ok.plain,rfl,rfl⟩,p219⟩,⟨⟨g19.ok.plain,rfl,rfl⟩,p220⟩,trivial⟩
theorem p101:PC 5 [] (.bool true):=QcG hP hT24 (much:=1000000000) Xc0 60 (by kernel_rfl)
end Go.Ah.Tz
end
section
namespace Go.Ah.Tz
open Go.Proofs.Tryz (prog)
open Go.Proofs.YtndbfoldjmppfaaGreatDoor.Rows (uptoBulk uptoBulkAll)
set_option maxRecDepth 100000
section
variable {H:Type}
abbrev YaX:TypeId:=27
theorem Xdh:prog.underlying YaX=some (.array 2 Y6):=by kernel_rfl
theorem Qdg{fuel:Nat}{xs:List AVal}{d:DataW H}(h:Typed prog fuel YaX xs d)(hb:uptoBulk d≤1048576):∃l m:List Int,xs=[rowV l,rowV m]∧l.length≤2000000∧m.length≤2000000:=by
 obtain⟨f',p,q,da,db,rfl,rfl,rfl,hp,hq⟩:=Xc4 h Xdh;rw[Z7,YB,YB] at hb;obtain⟨l,rfl,k1⟩:=QcD hp (by omega);obtain⟨m,rfl,k2⟩:=QcD hq (by omega);exact⟨l,m,rfl,k1,k2⟩
end
end Go.Ah.Tz
namespace Go.Proofs.YtndbfoldjmppfaaGreatDoor
open Go.ChangeShapes Go.WideShapes Go.ChangeAt Go.RowKit Go.Ah Go.Ah.Tz
theorem Zbi{H:Type}{enc:TypeId×Value→H}{P:Program}{f:Func}{s:ChangeSpec}{apart fresh handsOn again:Bool}{W W':World}{args:Array Value}{v:Value}{ds gs:List (DataW H)}{before pa pv:List MemPlace}
 (hW:DataW.Whole enc P f.params.toList s.vars apart W args.toList ds gs before)
 (hres:∀(b:Nat) (sp:Nat→Bool) (hd:Bool),DataW.TrodAll enc P W' b sp hd f.resultTypes.toList (v.resultList f.resultTypes.size) (s.fn H (ds++gs)).results [])
 (hargs:∀sp:Nat→Bool,(∀p∈before,sp p.block=true)→DataW.TrodAll enc P W' 0 sp true f.params.toList args.toList (s.fn H (ds++gs)).args pa)
 (hvars:∀sp:Nat→Bool,(∀p∈before,sp p.block=true)→DataW.TrodVars enc P W' sp s.vars (s.fn H (ds++gs)).vars pv)
 (hps:before=pa++pv)(hb:Below W.heap.size W W')
 (hok:∀(j:Nat) (t:TypeId) (r:Value),f.resultTypes[j]?=some t→(v.resultList f.resultTypes.size)[j]?=some r→Value.okWide P W' .any 0 t r) :
  s.post enc P f apart fresh handsOn again W args v W':=by
 have hold:∀p∈before,(λb=>decide (b<W.heap.size)) p.block=true:=λp hp=>by simpa using hW.lt p hp
 refine⟨ds,gs,before,[],pa,pv,hW,hres _ _ _,hargs _ hold,hvars _ hold,World.keptBut_mono (λp hp=>⟨hp,?_⟩) (hb.frame (·∈before)),λ_=>?_⟩
 ·rw[hps,List.mem_append] at hp;exact Or.inr hp
 ·have hlt:=hW.lt;obtain⟨_,_,_,_,_,hz,hn⟩:=hW;refine⟨hok,_,_,([]++pa)++pv,⟨[]++pa,pv,trodAll_append (hargs _ (λ_ _=>rfl)) (hres _ _ _),hvars _ (λ_ _=>rfl),rfl,?_,?_⟩,?_⟩
  ·intro b off hp;have hin:MemPlace.cell b off∈before:=by rw[hps]; simpa using hp
   rw[hb.frozen (p:=⟨b,off,none⟩) (show b<W.heap.size from hlt _ hin)];exact hz b off hin
  ·intro ha;have:=hn ha;rw[hps] at this;simpa using this
  ·intro p hp _;rw[hps];simpa using hp
set_option maxRecDepth 100000
abbrev t_u8:TypeId:=5
abbrev Xdg:TypeId:=333
theorem d_own:ownKnob Tryz.prog.godebug=none:=by kernel_rfl
theorem Qc8:Tryz.prog.globalNamed "strings.asciiSpace" = some 0:=by kernel_rfl
theorem Ycj:(Tryz.prog.globals[0]?).map (·.type)=some Xdg:=by kernel_rfl
theorem Zcj:laidOutB Tryz.prog=true:=by kernel_rfl
def spaces:List Int:=(List.range 256).map λi=>match (Nat.ble 9 i&&Nat.ble i 13)||Nat.beq i 32 with|true=>1|false=>0
theorem XcW{l:List (String×DataW Unit)}{x0 x1 x2 x3:String×DataW Unit}(hl:l=[x0,x1,x2,x3,("strings.asciiSpace",Lib.tabData .u8 spaces)]){W:World}(h:laidMet Tryz.prog l W):∀p∈GL0,Den (λb=>W.heap[b]?) noOwn (.rptr p.2 0) (.pointer (some ⟨p.1,0,none⟩)):=by
 subst hl;have ht:Lib.TabIs Tryz.prog W "strings.asciiSpace" .u8 spaces:=Lib.tabIs_of_head (rest:=[]) Qc8 Ycj (show Tryz.prog.underlying Xdg=some (.array 256 t_u8) by kernel_rfl) (show Tryz.prog.underlying t_u8=some (.int .u8) by kernel_rfl) (by kernel_rfl) (by kernel_rfl) h.tail.tail.tail.tail;have hlen:spaces.length=256:=by simp[spaces]
 have hrow:row0=spaces.map (AVal.int .u8):=by rw[row0,spaces,List.map_map]; rfl
 intro p hp;simp only[GL0,List.mem_singleton] at hp;subst hp;refine .rptr _ row0 0 0 0 (λk=>.int .u8 (spaces.getD k 0)) (λk hk=>?_) (λk y hy=>?_)
 ·have hk':k<spaces.length:=by rw[hrow,List.length_map] at hk; exact hk
  have:=(Qce (ht.cell Qc8 k hk')).2;rw[Nat.zero_add]; exact this
 ·rw[hrow,List.getElem?_map] at hy;obtain⟨z,hz,rfl⟩:=Option.map_eq_some_iff.1 hy;have:spaces.getD k 0=z:=by simp[List.getD,hz]
  rw[this]; exact .int _ _ _
def Xbc:List TypeId:=[XcU,XQ,XcC,Qbj,Xc6,XcP,Yc6,Xc3,Zdg,Zby,Qdf,Yc3,Ydg,Qc3,QcP,YcC,t_th,t_ths,Y6,t_sd,t_sds,t_st]
theorem Qbm:Xbc.all (tyOk Tryz.prog Xbc)=true:=by kernel_rfl
theorem Yc8{M:Nat→Option Obj}{xs:List AVal}{cs:Array Value}(h:DL M xs cs.toList):Den M noOwn (.agg xs) (.agg cs):=
 .agg _ _ _ (by have:=h.1; simpa using this.symm) (λi x v h1 h2=>h.2 i x v h1 (by simpa using h2))
theorem XcB{P:Program}{t:TypeId}{ts:List TypeId}(h:Qv P t=some ts):∃fs,P.underlying t=some (.struct fs):=by
 unfold Qv at h;split at h
 ·rename_i fs e; exact⟨fs,e⟩
 ·cases h
section
variable {H:Type} {enc:TypeId×Value→H} {W:World} {base:Nat} {v:Value} {d:DataW H} {ps:List MemPlace}
theorem Xc8(ho:Value.okWide Tryz.prog W .any base YcC v)(h:DataW.Trod enc Tryz.prog W 0 (λ_=>true) true YcC v d ps)(hb:Rows.uptoBulk d≤1048576):∃b:Bk,bkFit b=true∧Zu b.cards∧Den (λk=>W.heap[k]?) noOwn (bkV b) v:=by
 obtain⟨fs,hfs⟩:=XcB s_bk;obtain⟨cs,rfl,_⟩:=okWide_struct hfs ho;obtain⟨fuel,hf⟩:=h;obtain⟨_,xs,h1,h2⟩:=Qav (S:=Xbc) Qbm fuel YcC (by decide) _ _ ⟨_,hf⟩;obtain⟨b,rfl,k1,k2⟩:=ty_bk h2 hb;exact⟨b,k1,k2,Yc8 h1⟩
theorem d_int(ho:Value.okWide Tryz.prog W .any base XQ v)(h:DataW.Trod enc Tryz.prog W 0 (λ_=>true) true XQ v d ps):∃n:Int,Den (λk=>W.heap[k]?) noOwn (iv n) v:=by
 obtain⟨n,rfl,_⟩:=open_int Yaw ho h;exact⟨n,.int _ _ _⟩
end
theorem Ybc{H:Type}{enc:TypeId×Value→H}{t:TypeId}(hr:Tryz.prog.readableRec t=true)(hrow:t<Tryz.prog.types.size){W W':World}{v:Value}{d:DataW H}{ps all:List MemPlace}(h:DataW.Trod enc Tryz.prog W 0 (λ_=>true) true t v d ps)(hb:Below W.heap.size W W')(hlt:∀p∈all,p.block<W.heap.size)(hin:∀p∈ps,p∈all){sp:Nat→Bool}(hs:∀p∈all,sp p.block=true):DataW.Trod enc Tryz.prog W' 0 sp true t v d ps:=
 WideElems.Trod_stays Zcj hr hrow h (λp hp=>hb.same (hlt p (hin p hp))) (λp hp=>hs p (hin p hp))
theorem XbP(t:TypeId)(h:(Tryz.prog.readableRec t&&decide (t<Tryz.prog.types.size))=true):Tryz.prog.readableRec t=true∧t<Tryz.prog.types.size:=by simpa using h
theorem r_bk:Tryz.prog.readableRec YcC=true∧YcC<Tryz.prog.types.size:=XbP YcC (by kernel_rfl)
theorem Yde:Tryz.prog.readableRec XQ=true∧XQ<Tryz.prog.types.size:=XbP XQ (by kernel_rfl)
def Qbc:List TypeId:=[XQ,Y6,YaX]
theorem Zb2:Qbc.all (tyOk Tryz.prog Qbc)=true:=by kernel_rfl
theorem Zde:Tryz.prog.readableRec YaX=true∧YaX<Tryz.prog.types.size:=XbP YaX (by kernel_rfl)
theorem Xde:Tryz.prog.readableRec Y6=true∧Y6<Tryz.prog.types.size:=XbP Y6 (by kernel_rfl)
section
variable {H:Type} {enc:TypeId×Value→H} {W:World} {base:Nat} {v:Value} {d:DataW H} {ps:List MemPlace}
theorem d_row(ho:Value.okWide Tryz.prog W .any base Y6 v)(h:DataW.Trod enc Tryz.prog W 0 (λ_=>true) true Y6 v d ps)(hb:Rows.uptoBulk d≤1048576):∃l:List Int,l.length≤1000000000∧Den (λk=>W.heap[k]?) noOwn (rowV l) v:=by
 obtain⟨a,len,cap,rfl⟩:=okWide_slice QcU ho;obtain⟨fuel,hf⟩:=h;obtain⟨_,xs,h1,h2⟩:=Qav (S:=Xbc) Qbm fuel Y6 (by decide) _ _ ⟨_,hf⟩;obtain⟨l,rfl,k⟩:=QcD h2 hb;exact⟨l,by omega,h1.2 0 _ _ rfl rfl⟩
theorem d_dks(ho:Value.okWide Tryz.prog W .any base YaX v)(h:DataW.Trod enc Tryz.prog W 0 (λ_=>true) true YaX v d ps)(hb:Rows.uptoBulk d≤1048576):∃l m:List Int,l.length≤1000000000∧m.length≤1000000000∧Den (λk=>W.heap[k]?) noOwn (.agg [rowV l,rowV m]) v:=by
 have ho':=ho;unfold Value.okWide at ho';rw[Xdh] at ho';obtain⟨cs,rfl,_⟩:=ho';obtain⟨fuel,hf⟩:=h;obtain⟨_,xs,h1,h2⟩:=Qav (S:=Qbc) Zb2 fuel YaX (by decide) _ _ ⟨_,hf⟩;obtain⟨l,m,rfl,k1,k2⟩:=Qdg h2 hb;exact⟨l,m,by omega,by omega,Yc8 h1⟩
end
theorem Yi{a b:Bool}(h:a=true)(k:b=true):(a&&b)=true:=by rw[h,k]; rfl
def d_pow:List Int:=[1,10,100,1000,10000,100000,1000000,10000000,100000000,1000000000,10000000000,100000000000,1000000000000,10000000000000,100000000000000,1000000000000000,10000000000000000,100000000000000000,1000000000000000000,10000000000000000000]
def d_b32:List Int:=[0,1,28,2,29,14,24,3,30,22,20,15,25,17,4,8,31,27,13,23,21,19,16,7,26,12,18,6,11,5,10,9]
def d_b64:List Int:=[0,1,56,2,57,49,28,3,61,58,42,50,38,29,17,4,62,47,59,36,45,43,51,22,53,39,33,30,24,18,12,5,63,55,48,27,60,41,37,16,46,35,44,21,52,32,23,11,54,26,40,15,34,20,31,10,25,14,19,9,13,8,7,6]
def YcH:List Int:=[9,13,1,32,133,101,160,5760,5600,8192,8202,1,8232,8233,1,8239,8287,48,12288,12288,1]
noncomputable def XbB (os:Os):World:=
 let w0:=World.holding Tryz.prog os ⟨#[],#[],[]⟩
 let put (h:Array Obj) (g:Nat) (cs:Array Value):Array Obj:=h.modify g fun
  |.cells _ t frozen=>.cells cs t frozen
  |o=>o
 let h1:=put w0.heap 0 (spaces.map λz=>Value.int .u8 z).toArray
 let h2:=put h1 1 #[.pointer (some ⟨w0.heap.size,0,none⟩)]
 let h3:=put h2 2 (d_pow.map λz=>Value.int .u64 z).toArray
 let h4:=put h3 3 (d_b32.map λz=>Value.int .u8 z).toArray
 let h5:=put h4 4 (d_b64.map λz=>Value.int .u8 z).toArray
 { w0 with heap:=(h5.push (.cells #[.slice (some ⟨w0.heap.size+1,0,none⟩) 7 7,.slice none 0 0,.int .i64 2] 361 (0,0))).push (.cells (YcH.map λz=>Value.int .u16 z).toArray 364 (0,0)) }
theorem Zbp:Rows.gameBeginsUptoRow.laid=[("math/bits.deBruijn32tab",Rows.laid_math_bits_deBruijn32tab),("math/bits.deBruijn64tab",Rows.laid_math_bits_deBruijn64tab),("internal/strconv.uint64pow10",Rows.laid_internal_strconv_uint64pow10),("unicode.White_Space",Rows.laid_unicode_White_Space),("strings.asciiSpace",Lib.tabData .u8 spaces)]:=by kernel_rfl
theorem ZaH(H:Type)(enc:TypeId×Value→H)(W:World)(base:Nat)(args:Array Value)(ds gs:List (DataW H))(before:List MemPlace)
 (hval:∀(j:Nat) t v,Tryz.f3.params[j]?=some t→args[j]?=some v→Value.okWide Tryz.prog W .any base t v)
 (hW:DataW.Whole enc Tryz.prog Tryz.f3.params.toList Rows.gameBeginsSpec.vars false W args.toList ds gs before)(hk:Rows.uptoSmall H (ds++gs)=true)(hL:laidMetH Tryz.prog Rows.gameBeginsUptoRow.laid W) :
  Calls Tryz.prog 3 args W λe W'=>∃v,e=.returned v∧Rows.gameBeginsSpec.post enc Tryz.prog Tryz.f3 false true false false W args v W':=by
 have hW':=hW;have hlt:=hW.lt;obtain⟨p,q,hA0,hV,rfl,hfz,hnd⟩:=hW;have hA:DataW.TrodAll enc Tryz.prog W 0 (λ_=>true) true Tryz.f3.params.toList args.toList ds p:=hA0;rw[Tryz.params3] at hA hval;obtain⟨v0,vs,d0,ds,p0,p,hargs,rfl,rfl,h0,r⟩:=trodAll_cons hA;obtain⟨v1,vs,d1,ds,p1,p,rfl,rfl,rfl,h1,r⟩:=trodAll_cons r;obtain⟨v2,vs,d2,ds,p2,p,rfl,rfl,rfl,h2,r⟩:=trodAll_cons r;obtain⟨v3,vs,d3,ds,p3,p,rfl,rfl,rfl,h3,r⟩:=trodAll_cons r;obtain⟨rfl,rfl,rfl⟩:=trodAll_nil r;obtain rfl:args = #[v0,v1,v2,v3]:=by cases args; simp_all
 obtain⟨rfl,rfl⟩:=trodVars_none hV;have hbk:Rows.uptoBulkAll [d0,d1,d2,d3]≤1048576:=of_decide_eq_true hk;simp only[Rows.uptoBulkAll] at hbk;obtain⟨b,hf,hsm,e0⟩:=Xc8 (hval 0 _ v0 rfl rfl) h0 (by omega);obtain⟨a1,m1,l1,q1,e1⟩:=d_dks (hval 1 _ v1 rfl rfl) h1 (by omega);obtain⟨a2,l2,e2⟩:=d_row (hval 2 _ v2 rfl rfl) h2 (by omega);obtain⟨n3,e3⟩:=d_int (hval 3 _ v3 rfl rfl) h3;have hg:=XcW Zbp (show laidMet Tryz.prog Rows.gameBeginsUptoRow.laid W from hL);refine(j22 p101 b hf hsm a1 m1 a2 l1 q1 l2 n3 W (λk=>W.heap[k]?) [v0,v1,v2,v3] (λ_ _ h=>h) hg ⟨e0,e1,e2,e3,trivial⟩).mono ?_;rintro e W' ⟨u,rfl,hkeep,M',_,_,_,hd⟩;cases hd;have hb:=hkeep.below;refine⟨_,rfl,Zbi (pa:=p0++(p1++(p2++(p3++[])))) (pv:=[]) hW' (λ_ _ _=>trodAll_cons_mk (shut_bool ZcE _) trodAll_mk0) (λsp hsp=>?_) (λ_ _=>rfl) rfl hb (ok_one (by kernel_rfl) rfl (okWide_bool_mk ZcE _))⟩;rw[Tryz.params3];refine trodAll_cons_mk (Ybc r_bk.1 r_bk.2 h0 hb hlt (λp hp=>by simp[hp]) hsp) <| trodAll_cons_mk (Ybc Zde.1 Zde.2 h1 hb hlt (λp hp=>by simp[hp]) hsp) <| trodAll_cons_mk (Ybc Xde.1 Xde.2 h2 hb hlt (λp hp=>by simp[hp]) hsp) <| trodAll_cons_mk (Ybc Yde.1 Yde.2 h3 hb hlt (λp hp=>by simp[hp]) hsp) trodAll_mk0
def ZZ:Array Value:=#[.agg #[.slice none 0 0,.slice none 0 0],.agg #[.slice none 0 0,.slice none 0 0],.slice none 0 0,.int .i64 0]
theorem YbJ(os:Os):laidMet Tryz.prog Rows.gameBeginsUptoRow.laid ((XbB os).forCall (λ_ _=>0) ⟨#[],ZZ,[]⟩).memory:=
 laidMet_of_run' 8 (by kernel_rfl) (by kernel_rfl)
theorem Zbf(os:Os){H:Type}(enc:TypeId×Value→H):∃places,DataW.whole enc Tryz.prog ((XbB os).forCall (λ_ _=>0) ⟨#[],ZZ,[]⟩).memory Tryz.f3.params.toList Rows.gameBeginsSpec.vars false ZZ.toList 8 =
  some ([.agg [.nil,.nil],.agg [.nil,.nil],.nil,.lit (.int .i64 0)],[],places):=⟨[],by kernel_rfl⟩
theorem XaZ(os:Os)(started:os.Started)(H:Type)(enc:TypeId×Value→H)(F:Stop.Interp) :
  ReturnsInHanded {} Tryz.checked os 3 .any ((Rows.OpenSpec.upto Rows.gameBeginsSpec).preRow enc Tryz.prog Tryz.f3 Rows.gameBeginsUptoRow.domain false Rows.gameBeginsUptoRow.laid) (((Rows.OpenSpec.upto Rows.gameBeginsSpec).at F).post enc Tryz.prog Tryz.f3 false true false false):=by
 obtain⟨places,hx⟩:=Zbf os enc;refine returnsInHanded_of_row (C:=Tryz.checked) (s:=Rows.OpenSpec.upto Rows.gameBeginsSpec) d_own started (by kernel_rfl) Tryz.func3
  (witness_row_atRef (enc:=enc) (C:=Tryz.checked) false (XbB os) ZZ rfl (by kernel_rfl) (by kernel_rfl) (by kernel_rfl)
   (OpenSpec.preRow_of_cond 8 hx (by kernel_rfl) (λk hk=>by cases hk; kernel_rfl) (by kernel_rfl) (YbJ os))) ?_
 intro W base args ds gs before hval hW _ hcond _ hL _ _;exact ZaH H enc W base args ds gs before hval hW (hcond _ rfl) hL
theorem Xb3:Tryz.prog.funcNamed Rows.gameBeginsUptoRow.func=some 3:=by kernel_rfl
theorem Qb3:(Rows.gameBeginsUptoRow.wf (OpenSpec.ofChange (Rows.OpenSpec.upto Rows.gameBeginsSpec).bare))=true:=by kernel_rfl
theorem Zb4:(laidOutB Tryz.prog)=true:=by kernel_rfl
theorem Yb4:(mapsRowed Tryz.prog)=true:=by kernel_rfl
theorem Xb4:(Tryz.f3.params.all (Tryz.prog.readableRec ·))=true:=by kernel_rfl
theorem Qb4:(namedTie Tryz.prog Rows.gameBeginsUptoRow.named (Rows.OpenSpec.upto Rows.gameBeginsSpec).bare.vars)=true:=by kernel_rfl
theorem Zb5:(Rows.gameBeginsUptoRow.stops==[])=true:=by kernel_rfl
theorem Yb5:(Tryz.prog.stops==[])=true:=by kernel_rfl
theorem Xb5:(Rows.gameBeginsUptoRow.knobs==[])=true:=by kernel_rfl
theorem Qb5:(Tryz.prog.stopKnobs==[])=true:=by kernel_rfl
theorem XbD:(Rows.gameBeginsUptoRow.inPlace==Tryz.prog.inPlace 3)=true:=by kernel_rfl
theorem QbD:(Rows.gameBeginsUptoRow.unfollowed==Tryz.prog.unfollowed 3)=true:=by kernel_rfl
theorem ZbE:(Rows.gameBeginsUptoRow.recurses==Tryz.prog.recurses 3)=true:=by kernel_rfl
theorem YbE:(Rows.gameBeginsUptoRow.named==Tryz.prog.varsNamed 3)=true:=by kernel_rfl
theorem XbE:(Rows.gameBeginsUptoRow.maps==(Tryz.f3.params.toList++(Rows.OpenSpec.upto Rows.gameBeginsSpec).bare.plain.varTypes Tryz.prog).any (Tryz.prog.mapsRec ·))=true:=by kernel_rfl
theorem QbE:(Rows.gameBeginsUptoRow.ifaces==(Tryz.f3.params.toList++(Rows.OpenSpec.upto Rows.gameBeginsSpec).bare.plain.varTypes Tryz.prog).any (Tryz.prog.ifacesRec ·))=true:=by kernel_rfl
theorem ZbF:(Rows.gameBeginsUptoRow.mapsOut==Tryz.prog.mapsAmong Tryz.f3.resultTypes.toList)=true:=by kernel_rfl
theorem YbF:(Rows.gameBeginsUptoRow.loops==(Tryz.f3.params.toList++(Rows.OpenSpec.upto Rows.gameBeginsSpec).bare.plain.varTypes Tryz.prog).any (Tryz.prog.loopsFrom ·))=true:=by kernel_rfl
theorem XbF:(Rows.gameBeginsUptoRow.wideKeys==(Tryz.f3.params.toList++(Rows.OpenSpec.upto Rows.gameBeginsSpec).bare.plain.varTypes Tryz.prog++Tryz.f3.resultTypes.toList).any (Tryz.prog.wideKeysFrom ·))=true:=by kernel_rfl
theorem QbF:((Rows.OpenSpec.upto Rows.gameBeginsSpec).bare.vars.all (Tryz.prog.varReadable ·))=true:=by kernel_rfl
theorem ZbG:(Tryz.f3.resultTypes.all (λt=>Tryz.prog.readableRec t&&decide (t<Tryz.prog.types.size)))=true:=by kernel_rfl
theorem YbG:(Rows.gameBeginsUptoRow.ifacesOut==Tryz.f3.resultTypes.toList.any (Tryz.prog.ifacesRec ·))=true:=by kernel_rfl
theorem XbG:(Rows.gameBeginsUptoRow.loopsOut==Tryz.f3.resultTypes.toList.any (Tryz.prog.loopsFrom ·))=true:=by kernel_rfl
theorem QbG:(Rows.gameBeginsUptoRow.plainKeys==Tryz.prog.plainKeys)=true:=by kernel_rfl
theorem ZbH:(Rows.gameBeginsUptoRow.shortTexts.isNone)=true:=by kernel_rfl
theorem YbH:(Tryz.prog.stopsHeard)=true:=by kernel_rfl
theorem XbH:(Tryz.prog.mayEnter)=true:=by kernel_rfl
theorem QbH:(Rows.gameBeginsUptoRow.lifted==Tryz.prog.liftsFinal)=true:=by kernel_rfl
theorem ZbI:(Tryz.prog.make==some Rows.gameBeginsUptoRow.make)=true:=by kernel_rfl
theorem YbI:(Rows.gameBeginsUptoRow.kinds==(if Rows.gameBeginsUptoRow.domain.isEmpty then [] else Tryz.f3.params.toList.map λt=>match Tryz.prog.underlying t with|some (.int k)=>some k|_=>none))=true:=by kernel_rfl
theorem XbI:(Rows.gameBeginsUptoRow.pinned==Rows.gameBeginsUptoRow.pinnedBy)=true:=by kernel_rfl
theorem QbI:(Rows.gameBeginsUptoRow.veiled==(Tryz.f3.params.toList++(Rows.OpenSpec.upto Rows.gameBeginsSpec).bare.plain.varTypes Tryz.prog++Tryz.f3.resultTypes.toList).any (Tryz.prog.veiledRec ·))=true:=by kernel_rfl
theorem ZbJ:(Rows.gameBeginsUptoRow.veiledFits Tryz.prog Tryz.f3.params.toList (Tryz.f3.params.toList++(Rows.OpenSpec.upto Rows.gameBeginsSpec).bare.plain.varTypes Tryz.prog++Tryz.f3.resultTypes.toList))=true:=by kernel_rfl
theorem YaZ:joinedFacts Tryz.prog 3 Tryz.f3 (Rows.OpenSpec.upto Rows.gameBeginsSpec).bare Rows.gameBeginsUptoRow=true:=(Yi (Yi (Yi (Yi (Yi (Yi (Yi (Yi (Yi (Yi (Yi (Yi (Yi (Yi (Yi (Yi (Yi (Yi (Yi (Yi (Yi (Yi (Yi (Yi (Yi (Yi (Yi (Yi (Yi (Yi (Yi Qb3 Zb4) Yb4) Xb4) Qb4) Zb5) Yb5) Xb5) Qb5) XbD) QbD) ZbE) YbE) XbE) QbE) ZbF) YbF) XbF) QbF) ZbG) YbG) XbG) QbG) ZbH) YbH) XbH) QbH) ZbI) YbI) XbI) QbI) ZbJ)
theorem Ybp:Rows.GameBeginsUptoSaid:=
 OpenClaim.holds_of_cond 3 Tryz.f3 rfl rfl rfl rfl rfl rfl rfl ⟨rfl,rfl,rfl,rfl,rfl⟩ rfl rfl rfl rfl rfl Xb3 Tryz.func3 YaZ
  (of_decide_eq_true (by kernel_rfl)) (by unfold Func.isWrapper; first|(rw[if_pos (by decide +kernel)]; kernel_rfl)|(rw[if_neg (by decide +kernel)]; exact⟨rfl,rfl⟩))
  (λos started H enc _ F=>by rw[OpenClaim.pre_eq_preRow]; exact XaZ os started H enc F)
theorem Qbe(f:FuncId)(fn:Func)(hf:Tryz.pinned.checked.prog.funcNamed "baize/baizelaw24.GameBegins" = some f)(hfn:Tryz.pinned.checked.prog.funcs[f]?=some fn) :
  true=Tryz.pinned.checked.prog.looks []∧∀(j:Nat) t,fn.params[j]?=some t→Tryz.pinned.checked.prog.wantsStandIn t=false:=by
 obtain rfl:f=3:=Option.some.inj ((show Tryz.prog.funcNamed "baize/baizelaw24.GameBegins" = some 3 by kernel_rfl).symm.trans hf) |>.symm;obtain rfl:fn=Tryz.f3:=(Option.some.inj (Tryz.func3.symm.trans hfn)).symm;refine⟨by kernel_rfl,λj t ht=>?_⟩;rw[Tryz.params3] at ht;have hm:t∈[YcC,YaX,Y6,XQ]:=by simpa using Array.mem_of_getElem? ht
 have hall:([YcC,YaX,Y6,XQ].all λu=>!Tryz.prog.wantsStandIn u)=true:=by kernel_rfl
 exact(show Tryz.prog.wantsStandIn t=false by simpa using List.all_eq_true.1 hall t hm)
theorem gameBegins_upto_card:Rows.GameBeginsUptoCardSaid:=
 Claim7.holds_tied_plain_at .later [] _ _ _ _ Ybp (λ_ h=>by cases h) (by kernel_rfl) (λ_ h=>by cases h) gameBeginsUpto_row_tie rfl ⟨rfl,rfl⟩ (by kernel_rfl) rfl Qbe (by kernel_rfl)
#print axioms gameBegins_upto_card
end Go.Proofs.YtndbfoldjmppfaaGreatDoor
end
