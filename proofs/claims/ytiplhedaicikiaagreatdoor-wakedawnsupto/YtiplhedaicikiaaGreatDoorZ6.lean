/- Part of the proof that WakeDawns holds of the program for arguments that together hold at most 1048576 values and letters; no other condition. -/
import Derived.Test.YtiplhedaicikiaaGreatDoorZ5
import Derived.Test.YtiplhedaicikiaaGreatDoorRows
import Derived.Test.YtiplhedaicikiaaGreatDoorCards
import Derived.Test.YtiplhedaicikiaaGreatDoorTie
import Derived.ProofKit
import Derived.OpenShut
import Derived.Carry
import Derived.SevenTiedAt
import Derived.JoinedCond
import Derived.LaidMore
import Derived.SizedLaws
import Derived.Stop.LaidErr
import Derived.Deep.DeepHandedRow
import Derived.Deep.DeepWitnessRowRef
import Derived.Lib.LaidTab
set_option linter.all false
open Bool renaming and_eq_true->AI,and_self->zAw,and_true->zBA,false_eq_true->zAW,not_eq_true'->zAg,or_eq_false_iff->zAx,true_and->zAH
open Go.DataW renaming Trod->zCX,TrodAll->zDU
open Go.IntKind renaming i64->BY
open Go.IntWalk renaming i64_in->zAY
open Go.Value renaming int->zCy,okWide->zCD
open List renaming all_eq_true->zAm,any_cons->zCv,any_eq_false->zED,append_assoc->zAb,append_nil->zBE,cons_append->zAJ,drop_length->zAD,eraseIdx_of_length_le->zCJ,getElem?_append_left->zAU,getElem?_append_right->zAO,getElem?_eq_getElem->zAP,getElem?_map->zAT,getElem_mem->AT,length_append->By,length_cons->IS,length_map->zAM,length_nil->zAG,length_take->zAk,map->zDv,map_cons->zAN,map_nil->zBC,mem_append->zAF,mem_cons->zAS,mem_cons_of_mem->zAr,mem_cons_self->zBP,mem_map->zAh,mem_of_getElem?->zAI,mem_range->zBD,mem_singleton->zAs,nil_append->zAL,range->zAB,sum_cons->zCr,take_length->zAl,take_of_length_le->zAv,take_succ_eq_append_getElem->zAu
open List.range renaming loop->zAd
open Nat renaming beq->IT,ble->zAR,ble_eq_true_of_le->sh,le_refl->No,le_trans->zAX,lt_of_lt_of_le->zAK,strongRecOn->zBu,sub_self->zCp,zero_add->IN,zero_le->zAZ
open Option renaming map_eq_some_iff->zBh
open Option.some renaming inj->zBy
section
namespace Go.Ah.Tz
open Go.Proofs.Tryz (prog)
set_option maxRecDepth 100000
attribute [local irreducible] aE.rd aE.pu aE.wr aE.dr aE.gr aE.gw aE.gl aE.gd aE.opt cP W
set_option maxHeartbeats 8000000
theorem Xes{cs:List Cd}{t:Bool}{op who:Int}{name:Tx}{aC:List Nm}{kids:List Cn}(h:fH cs t (.mk op who name aC kids)=true) :
  0<=op∧op<=6∧(op<=2→∃y z,aC=[y,z]∧eR t y=true∧eR t z=true)∧(op=3→∃p,kids=[p]∧fH cs t p=true)∧(op=4∨op=5→∃p q,kids=[p,q]∧fH cs t p=true∧fH cs t q=true):=by
 have h:(gW op aC.length kids.length&&(cA t aC&&(eJ cs t kids&&gV cs op who name)))=true:=h;simp only[gW,AI,fD]at h;obtain⟨⟨h1,h2,h3,h4⟩,h5,h6,_⟩:=h;refine⟨h1,h2,λh=>?_,λh=>?_,λh=>?_⟩
 ·rw[nF,aI ⟨h1,h⟩]at h3
  match aC,h3 with
  |[y,z],_=>exact⟨y,z,rfl,GZ h5 y (by simp),GZ h5 z (by simp)⟩
 ·rw[nG,aB (by omega),aI h]at h4
  match kids,h4 with
  |[p],_=>exact⟨p,rfl,Io h6 p (by simp)⟩
 ·rw[nG,aI h]at h4
  match kids,h4 with
  |[p,q],_=>exact⟨p,q,rfl,Io h6 p (by simp),Io h6 q (by simp)⟩
section
variable (b:Bk) (s:St) (gA:aY 1000000000 s) (hm:aL (bu b).1 b s true=true) (h67:PC 42 [cE b] (.agg [iv (bu b).1,iv (bu b).2])) (sd tg:Int) (h01:sd=0∨sd=1)
include gA hm h67 h01
theorem u415:∀(k:Nat) (x:Cn),SizeOf.sizeOf x<=k→fH b.aj true x=true→PC 142 [.aq (cq b++(aF s++[iv sd,iv tg])) 0,.agg (gg x)] (.bool (dV b s sd tg x))
 |0,x,hk,_=>by cases x;simp at hk
 |k+1,.mk op who name aC kids,hk,hx=>by
  obtain⟨h1,h2,h3,h4,h5⟩:=Xes hx;have hM:=(Xo.1 hm).2;have pV:gm b (iT s (bJ sd who)):=by unfold iT;split;exact hM.s0;exact hM.s1
  rw[XF];refine Xa hP g142.ok rfl rfl ?_;rw[H2.e];unfold g142;dsimp only[Cn.op,Cn.who,Cn.name,Cn.aC,Cn.kids];have im:op<=2∨op=3∨op=4∨op=5∨op=6:=by omega
  rcases im with im|rfl|rfl|rfl|rfl
  ·obtain⟨y,z,rfl,hy,hz⟩:=h3 im;have Lz:=u416 b s gA hm h67 sd tg h01 _ y (No _) hy;have LA:=u416 b s gA hm h67 sd tg h01 _ z (No _) hz;have et:dV b s sd tg (.mk op who name [y,z] kids)=pO b s sd op who name [dT b s sd tg y,dT b s sd tg z] (kg b s sd tg kids):=rfl;rw[et];generalize dT b s sd tg y=p at *;generalize dT b s sd tg z=q at *;simp only[zAN,zBC];rw[QA y]at Lz ⊢;rw[QA z]at LA ⊢;have im:op=0∨op=1∨op=2:=by omega
   rcases im with rfl|rfl|rfl
   all_goals
    refine au ?_;refine i_ Lz g144.ok ?_;refine au ?_;refine a_ LA g144.ok ?_;refine au ?_;rfl
  ·obtain⟨p,rfl,hp⟩:=h4 rfl;have B_:=u415 k p (by simp at hk;omega) hp;have et:dV b s sd tg (.mk 3 who name aC [p]) = !dV b s sd tg p:=rfl;rw[et];simp only[zAN,zBC];rw[XF p]at B_ ⊢;refine au ?_;refine a_ B_ g142.ok ?_;refine au ?_;rfl
  ·obtain⟨p,q,rfl,hp,hq⟩:=h5 (.inl rfl);have B_:=u415 k p (by simp at hk;omega) hp;have Ly:=u415 k q (by simp at hk;omega) hq;have et:dV b s sd tg (.mk 4 who name aC [p,q])=(dV b s sd tg p&&dV b s sd tg q):=rfl;rw[et];simp only[zAN,zBC];rw[XF p]at B_ ⊢;rw[XF q]at Ly ⊢;refine au (a_ B_ g142.ok ?_);cases dV b s sd tg p with
   |false=>refine au ?_;rfl
   |true=>
    refine au (a_ Ly g142.ok ?_);cases dV b s sd tg q<;>(refine au ?_;rfl)
  ·obtain⟨p,q,rfl,hp,hq⟩:=h5 (.inr rfl);have B_:=u415 k p (by simp at hk;omega) hp;have Ly:=u415 k q (by simp at hk;omega) hq;have et:dV b s sd tg (.mk 5 who name aC [p,q])=(dV b s sd tg p||dV b s sd tg q):=rfl;rw[et];simp only[zAN,zBC];rw[XF p]at B_ ⊢;rw[XF q]at Ly ⊢;refine au (a_ B_ g142.ok ?_);cases dV b s sd tg p with
   |true=>refine au ?_;rfl
   |false=>
    refine au (a_ Ly g142.ok ?_);cases dV b s sd tg q<;>(refine au ?_;rfl)
  ·have et:dV b s sd tg (.mk 6 who name aC kids)=(iT s (bJ sd who)).hand.any λc=>(Zr b c).name==name:=rfl;rw[et];refine au (a_ (u482 b s sd tg who h01 rfl) g181.ok ?_);have hc:=(Yh.1 pV.hand).2;have hl:=(Yh.1 pV.hand).1;generalize iT s (bJ sd who)=d at *;refine au ?_;generalize d.hand=l at *;refine Xg (ι:=Nat) (λi vs σ=>vs=[iv i]∧i<=l.length∧σ=_∧(l.any λc=>(Zr b c).name==name)=((l.drop i).any λc=>(Zr b c).name==name)) (λi=>l.length-i) 0 ⟨rfl,by omega,rfl,rfl⟩ ?_;rintro i _ _ again ⟨rfl,hi,rfl,he⟩ bj;refine au (Ya (λh=>?_) (λh=>?_))
   ·have h:i<l.length:=by simpa using h
    have qm:=hc l[i] (AT h);have cc:(l[i]).toNat<b.aj.length:=by omega
    refine au ?_;refine Za (Ym _ aS false false 1 l .i64 i h) ?_;refine au ?_;refine Za (s_ _ cN false false 12 b.aj .i64 l[i] qm.1 cc) ?_;refine au ?_;have u7:(Zr b l[i]).name=b.aj[(l[i]).toNat].name:=by unfold Zr;rw[zAP cc];rfl
    rw[gK h,zCv,u7]at he;refine Ya (λh6=>?_) (λh6=>?_)
    ·rw[he,h6];rfl
    ·rw[h6,Bool.false_or]at he;refine Za (Xj ..) ?_;rw[Xc (n:=i) (by omega)];exact bj (i+1) _ _ (by omega) ⟨rfl,by omega,rfl,he⟩
   ·have h:i=l.length:=by simp at h;omega
    subst h;rw[zAD]at he;rw[he];rfl
theorem u307(x:Nm)(hf:c7 x=true)(hx:eR true x=true)(hw:mA x<=200):PC 96 [cE b,bZ s,.agg [iv sd,iv tg],.agg (dd x)] (.bp [iv (dT b s sd tg x),iv 0]):=by
 have h54:=u54 x hf;have h416:=u416 b s gA hm h67 sd tg h01 _ x (No _) hx;rw[hx,eX hw]at h54;rw[QA]at h54 h416 ⊢;refine Xa hP g96.ok rfl rfl ?_;rw[H4.e];unfold g96;dsimp only;refine au (a_ (u413 b s gA hm h67 sd tg h01) g140.ok ?_);refine au (a_ h54 g143.ok ?_);refine au ?_;refine Xu (rd:=[4]) h416 rfl g144.ok.plain (.cons (aA.box (row:=cq b++(aF s++[iv sd,iv tg])) rfl (by simp) (bd.ro rfl)) (bd.ro rfl)) rfl ?_;refine au ?_;rfl
theorem u306(gH:b.aj.length<=gy)(x:Cn)(hf:cK x=true)(hx:fH b.aj true x=true)(hw:oz x<=200):PC 95 [cE b,bZ s,.agg [iv sd,iv tg],.agg (gg x)] (.bp [.bool (dV b s sd tg x),iv 0]):=by
 have h414:=u414 b.aj gH x hf;have h415:=u415 b s gA hm h67 sd tg h01 _ x (No _) hx;rw[hx,eX hw]at h414;rw[XF]at h414 h415 ⊢;refine Xa hP g95.ok rfl rfl ?_;rw[H4.e];unfold g95;dsimp only;refine au (a_ (u413 b s gA hm h67 sd tg h01) g140.ok ?_);refine au (a_ h414 g141.ok ?_);refine au ?_;refine Xu (rd:=[4]) h415 rfl g142.ok.plain (.cons (aA.box (row:=cq b++(aF s++[iv sd,iv tg])) rfl (by simp) (bd.ro rfl)) (bd.ro rfl)) rfl ?_;refine au ?_;rfl
end
theorem u484(s:St)(gA:aY 1000000000 s)(sd tg who:Int)(h01:sd=0∨sd=1):PC 184 [bZ s,.agg [iv sd,iv tg],aO who] (.bp [iv (df s sd tg who).1,iv (df s sd tg who).2.1,.bool (df s sd tg who).2.2]):=by
 have h48:=c23 s gA tg;unfold gJ at h48;refine Xa hP g184.ok rfl rfl ?_;rw[H3.e];unfold g184;dsimp only;have hw:(who<0∨2<who)∨who=0∨who=1∨who=2:=by omega
 rcases hw with hw|rfl|rfl|rfl
 ·have e:df s sd tg who=(0,0,false):=by unfold df;rw[aB (by omega),aB (by omega),aI (by omega)]
  rw[e];rcases h01 with rfl|rfl<;>rcases hw with hw|hw
  all_goals
   refine au ?_
   first
    |rw[eX hw]
     refine au ?_;rfl
    |rw[gB (by omega)]
     refine au ?_;rw[eX hw];refine au ?_;rfl
 ·rcases h01 with rfl|rfl<;>(refine au ?_;rfl)
 ·rcases h01 with rfl|rfl<;>(refine au ?_;rfl)
 have ht:tg = -2∨tg = -3∨(tg≠-2∧tg≠-3∧tg<1)∨0<tg:=by omega
 rcases ht with rfl|rfl|⟨t1,t2,t3⟩|ht
 ·rcases h01 with rfl|rfl<;>(refine au ?_;rfl)
 ·rcases h01 with rfl|rfl<;>(refine au ?_;rfl)
 ·have e:df s sd tg 2=(0,0,false):=by unfold df;rw[aB (by omega),aB (by omega),aB (by omega),aB (by omega),aB (by omega)]
  rw[e];rcases h01 with rfl|rfl
  all_goals
   refine au ?_;rw[show (tg == -2)=false by simpa using t1];refine au ?_;rw[show (tg == -3)=false by simpa using t2];refine au ?_;refine a_ h48 g56.ok ?_;refine au ?_;rw[eX t3];refine au ?_;rfl
 ·have e:df s sd tg 2=if (aM s tg).2.2=true then (tg,(aM s tg).1,true)else (0,0,false):=by unfold df;rw[aB (by omega),aB (by omega),aB (by omega),aB (by omega),aI ht]
  rw[e];rcases h01 with rfl|rfl<;>cases h:(aM s tg).2.2
  all_goals
   rw[h]at h48;refine au ?_;rw[show (tg == -2)=false by simp;omega];refine au ?_;rw[show (tg == -3)=false by simp;omega];refine au ?_;refine a_ h48 g56.ok ?_;refine au ?_;rw[show decide (tg<1)=false by simp;omega];refine au ?_;rfl
def OW(q:Nat→Prop)(σ:List ab)(v:aa)(l:List Int):Prop:=v=aP l∨(v=.al∧l=[])∨∃c,v=.sl c 0 l.length false∧ai σ c=.rows 1 (l.map aS)∧q c
variable {q:Nat→Prop}
variable{v lv y:aa}
variable{σ τ:List ab}
theorem OW.mono{l:List Int}(h:OW q σ v l)(hk:∀c rs,ai σ c=.rows 1 rs→ai τ c=.rows 1 rs):OW q τ v l:=by
 rcases h with h|h|⟨c,h1,h2⟩
 ·exact .inl h
 ·exact .inr (.inl h)
 ·exact .inr (.inr ⟨c,h1,hk c _ h2.1,h2.2⟩)
theorem OW.wk{q':Nat→Prop}{l:List Int}(h:OW q σ v l)(hk:∀c,q c→c<σ.length→q' c):OW q' σ v l:=by
 rcases h with h|h|⟨c,h1,h2,h3⟩
 ·exact .inl h
 ·exact .inr (.inl h)
 ·exact .inr (.inr ⟨c,h1,h2,hk c h3 (Zb h2)⟩)
theorem OW.app{l:List Int}(h:OW q σ v l)(x:List ab):OW q (σ++x) v l:=h.mono λ_ _ e=>ZE _ e
theorem OW.src{l:List Int}(h:OW q σ v l):∃rd,Zk 1 σ v=some (l.map aS,rd):=by
 rcases h with rfl|⟨rfl,rfl⟩|⟨c,rfl,h2,_⟩
 ·exact⟨[],GP⟩
 ·exact⟨[],rfl⟩
 ·exact⟨[c],X2 h2 (by simp)⟩
theorem OW.cell{l:List Int}(h:OW q σ v l):cellsOf v=some [v]:=by
 rcases h with rfl|⟨rfl,rfl⟩|⟨c,rfl,h2,_⟩<;>rfl
theorem OW.len{l:List Int}(h:OW q σ v l):Yn [v] σ=.ok (iv l.length) [] []:=by
 rcases h with rfl|⟨rfl,rfl⟩|⟨c,rfl,h2,_⟩
 ·simp[Yn]
 ·rfl
 ·rfl
theorem WO(l:List Int):aV (l.map aS)=true:=QK λr hr=>by obtain⟨x,_,rfl⟩:=zAh.1 hr;rfl
theorem I2{l:List Int}{rd:List Nat}(h:Zk 1 σ v=some (l.map aS,rd))(hl:l.length<=1000000000):Qf 1 8 [.al,v] σ=.ok (.sl σ.length 0 l.length false) rd [(σ.length,.rows 1 (l.map aS))]:=by
 have:=CQ 1 8 h (WO l) (by simp;omega);simpa using this
theorem T8{c:Nat}{l m:List Int}{rd:List Nat}(hc:ai σ c=.rows 1 (l.map aS))(h:Zk 1 σ v=some (m.map aS,rd))(hl:l.length+m.length<=1000000000) :
  Qf 1 8 [.sl c 0 l.length false,v] σ=.ok (.sl σ.length 0 (l++m).length false) rd ([(c,.dead)]++[(σ.length,.rows 1 ((l++m).map aS))]):=by
 have:=QL 1 8 (off:=0) (len:=l.length) hc (by simp) h (WO m) (by simp;omega);simpa using this
theorem OW.uN{l:List Int}(h:OW q σ v l):RI σ (zAB σ.length) v l:=by
 rcases h with rfl|⟨rfl,rfl⟩|⟨c,rfl,h2,_⟩
 ·exact RI.ro l
 ·exact RI.al
 ·exact RI.own h2 (zBD.2 (Zb h2)) rfl
def ER(q:Nat→Prop)(σ:List ab)(rows:List (List aa))(l:List Ev):Prop:=rows.length=l.length∧∀(i:Nat) (row:List aa) (e:Ev),rows[i]?=some row→l[i]?=some e→∃cv,row=cp e cv∧OW q σ cv e.aj
def LO(q:Nat→Prop)(l:List Ev)(lv:aa)(σ:List ab):Prop:=(l=[]∧lv=.al)∨∃c rows,lv=.sl c 0 l.length false∧ai σ c=.rows 7 rows∧ER q σ rows l
variable{l:List Ev}
theorem ER.mono{rows:List (List aa)}(h:ER q σ rows l)(hk:∀c rs,ai σ c=.rows 1 rs→ai τ c=.rows 1 rs):ER q τ rows l:=
 ⟨h.1,λi row e q1 q2=>by obtain⟨cv,h1,h2⟩:=h.2 i row e q1 q2;exact⟨cv,h1,h2.mono hk⟩⟩
theorem LO.mono(h:LO q l lv σ)(hk:∀c n rs,ai σ c=.rows n rs→ai τ c=.rows n rs):LO q l lv τ:=by
 rcases h with h|⟨c,rows,h1,h2,h3⟩
 ·exact .inl h
 ·exact .inr ⟨c,rows,h1,hk c 7 _ h2,h3.mono λc rs=>hk c 1 rs⟩
theorem LO.cells(h:LO q l lv σ):cellsOf lv=some [lv]:=by
 rcases h with ⟨_,rfl⟩|⟨c,rows,rfl,_⟩<;>rfl
theorem OW.fg{l:List Int}(h:OW q σ v l):v.cell=true:=by
 rcases h with rfl|⟨rfl,rfl⟩|⟨c,rfl,h2,_⟩<;>rfl
theorem ER.aV{rows:List (List aa)}(h:ER q σ rows l):aV rows=true:=QK λr hr=>by
 obtain⟨i,hi,rfl⟩:=List.mem_iff_getElem.1 hr;have uB:i<l.length:=by rw[←h.1];exact hi
 obtain⟨cv,h1,h2⟩:=h.2 i rows[i] l[i] (by simp) (by simp);rw[h1];show (true&&(true&&(true&&(true&&(true&&(true&&(cv.cell&&true)))))))=true;rw[h2.fg];rfl
theorem ER.app{rows ys:List (List aa)}{m:List Ev}(h:ER q σ rows l)(k:ER q σ ys m):ER q σ (rows++ys) (l++m):=by
 refine⟨by simp[h.1,k.1],λi row e q1 q2=>?_⟩;by_cases hi:i<rows.length
 ·rw[zAU hi]at q1;rw[zAU (by rw[←h.1];exact hi)]at q2;exact h.2 i row e q1 q2
 ·rw[zAO (by omega)]at q1;rw[zAO (by rw[←h.1];omega),←h.1]at q2;exact k.2 _ row e q1 q2
theorem Yeb(h:LO q l lv τ){ys:List (List aa)}{rd:List Nat}{m:List Ev}(hy:Zk 7 τ y=some (ys,rd))(hm:ER q τ ys m)(bH:l.length+m.length<=200000000) :
  ∃nv up τ',Qf 7 72 [lv,y] τ=.ok nv rd up∧gC τ up=some τ'∧LO q (l++m) nv τ'∧Kq [] 7 τ τ'∧(∀k row,ai τ k=.box row→k∉up.map (·.1)):=by
 have hlen:=hm.1;rcases h with ⟨rfl,rfl⟩|⟨c,rows,rfl,h2,h3⟩
 ·refine⟨_,_,_,CQ 7 72 hy hm.aV (by rw[hlen];simp at bH;omega),Ye τ _,.inr ⟨τ.length,ys,by simp[hlen],Yc τ _,by simpa using hm.mono λc rs e=>ZE _ e⟩,Kq.app [] 7 τ _,λk row hk=>?_⟩;have:=Zb hk;simp;omega
 ·have hK:=Nu h2 (.rows 7 (rows.drop 0++ys)) [];refine⟨_,_,_,QL 7 72 h2 (by rw[h3.1,Nat.add_zero]) hy hm.aV (by rw[hlen];omega),QC _ _ (Zb h2),.inr ⟨τ.length,rows.drop 0++ys,by simp[hlen],QT c _,by rw[List.drop_zero];exact(h3.app hm).mono λc rs e=>hK.rows e (by simp) (by decide)⟩,hK,λk row hk=>?_⟩;have:=Zb hk;simp;exact⟨(by rintro rfl;rw[h2]at hk;cases hk),(by omega)⟩
theorem LO.Bi(h:LO q l lv σ):aA (hp σ) (zAB σ.length) lv (.aW false false 7 (l.map ck)):=by
 rcases h with ⟨rfl,rfl⟩|⟨k,rows,rfl,hk,hR⟩
 ·exact aA.dP (aA.ro rfl) (λM u d=>d.eO 7)
 ·refine aA.dP (aA.sl (rs:=rows) (rs':=l.map ck) (Xv hk (by simp)) (zBD.2 (Zb hk)) (by rw[hR.1];omega) (by simp) (λi row row' q1 q2=>?_)) (λM u d=>d.gp);rw[IN]at q1;rw[zAT]at q2;cases h:l[i]? with
  |none=>rw[h]at q2;cases q2
  |some e=>
   rw[h]at q2;cases q2;obtain⟨cv,rfl,h2⟩:=hR.2 i row e q1 h;exact .cons (aA.ro rfl) <| .cons (aA.ro rfl) <| .cons (aA.ro rfl) <| .cons (aA.ro rfl) <| .cons (aA.ro rfl) <| .cons (aA.ro rfl) <| .cons h2.uN .nil
@[reducible] def vu(b:Bk)(s:St)(h0 g0 t0 h1 g1 t1:aa)(sd tg:Int)(lv:aa)(fu e:Int):List aa:=
 cq b++(tM s (aP s.ao) (aP s.s0.az) h0 g0 (gS s.s0.af) t0 (aP s.s1.az) h1 g1 (gS s.s1.af) t1++[iv sd,iv tg,lv,iv fu,iv e])
def pI(p:Nat→Prop)(σ:List ab)(rb:Nat)(b:Bk)(s:St)(sd tg fu e:Int)(l:List Ev):Prop:=
 ∃h0 g0 t0 h1 g1 t1 lv,ai σ rb=.box (vu b s h0 g0 t0 h1 g1 t1 sd tg lv fu e)∧OW (¬p ·) σ h0 s.s0.hand∧OW (¬p ·) σ g0 s.s0.an∧OW (¬p ·) σ t0 s.s0.told∧OW (¬p ·) σ h1 s.s1.hand∧OW (¬p ·) σ g1 s.s1.an∧OW (¬p ·) σ t1 s.s1.told∧LO p l lv σ
def RR(σ:List ab)(rb:Nat)(b:Bk)(s:St)(sd tg fu e:Int)(l:List Ev):Prop:=∃p:Nat→Prop,(∀c,p c→c<σ.length)∧pI p σ rb b s sd tg fu e l
structure eG (B:Prop):Prop where
 get:B
theorem av{A B:Prop}(k:B)(h:eG B→A:=by intro k;(repeat (first|refine Za (vT ..) ?_|refine Za (XV ..) ?_|refine Za rfl ?_|refine Za (ld (by assumption) (by rfl)) ?_|refine Zi rfl ?_|refine Xf (ld (by assumption) (by rfl)) (Zg _) ?_|refine Xh ?_|refine Xe ?_|refine GA ?_|refine Qv rfl ?_));exact k.get):A:=h ⟨k⟩
theorem V4(σ:List ab)(x y:ab):dg σ ((σ++[x]).set σ.length .dead++[y]) []∧ai ((σ++[x]).set σ.length .dead++[y]) (σ++[x]).length=y:=by
 refine⟨⟨by simp,λc hc _=>?_⟩,?_⟩
 ·rw[Yf _ (by simp;omega),Xb _ (by simp;omega) (by omega),Yf _ hc]
 ·have:=Yc ((σ++[x]).set σ.length .dead) y;simpa using this
theorem Xen{l m:List Int}(ho:OW q σ v l)(hy:∀x,∃rd,Zk 1 (σ++[x]) y=some (m.map aS,rd))(hlen:l.length+m.length<=1000000000){K:aa→List Nat×List Nat→List ab→Prop}
 (hK:∀τ rd,dg σ τ []→σ.length+2=τ.length→ai τ (σ.length+1)=.rows 1 ((l++m).map aS)→K (.sl (σ.length+1) 0 (l++m).length false) (rd,[σ.length,σ.length+1]) τ) :
  VV.wr (Qf 1 8 [.al,v] σ) σ λt σ=>VV.dr (Qf 1 8 [t,y] σ) σ λu z σ=>K u z σ:=by
 obtain⟨xF,e1⟩:=ho.src;refine Yd (I2 e1 (by omega)) (Ye _ _) ?_;obtain⟨sv,e2⟩:=hy (.rows 1 (l.map aS));refine Xf (T8 (Yc σ _) e2 hlen) (QC _ _ (by simp)) ?_;obtain⟨a1,a2⟩:=V4 σ (.rows 1 (l.map aS)) (.rows 1 ((l++m).map aS));have:=hK _ sv a1 (by simp) (by simpa using a2);simpa using this
theorem w420{p:Nat→Prop}{rb:Nat}{b:Bk}{s:St}{sd tg fu e:Int}(hp:∀c,p c→c<σ.length)(h:pI p σ rb b s sd tg fu e l){side:Int}(h01:side=0∨side=1){m:List Int}(hy:∀x,∃rd,Zk 1 (σ++[x]) y=some (m.map aS,rd))
 (hlen:(s.side side).told.length+m.length<=1000000000){K:KT}(hK:∀σ',pI p σ' rb b (iV m s side) sd tg fu e l→dg σ σ' [rb]→K (.bp []) σ'):g148.u VV [.ak rb 0,iv side,y] σ K:=by
 obtain⟨h0,g0,t0,h1,g1,t1,lv,hr,o1,o2,o3,o4,o5,o6,ol⟩:=h;have vj:=Zb hr;rw[H3.e];unfold g148;dsimp only;rcases h01 with rfl|rfl
 rotate_left;have ot:OW (¬p ·) σ t1 (s.side 1).told:=o6;rotate_left;have ot:OW (¬p ·) σ t0 (s.side 0).told:=o3
 all_goals
  refine av (Xen ot hy hlen λτ rd a1 a2 a3=>?_);have r2:=a1.get hr;have n1:rb≠σ.length:=by omega
  have n2:rb≠σ.length+1:=by omega
  refine av ?_;refine Xf (c8 r2 rfl rfl rfl) (Ze _ (by omega)) ?_;refine Qv (by simp[Qi,Xm,Xn,Yv,cf,dS,zAB,zAd,n1,n2,n1.symm,n2.symm,jW]) ?_;have np:¬p (σ.length+1):=λe=>by have:=hp _ e;omega
  have A:=λx=>a1.trans (dg.set τ rb x);have kr:∀x c n rs,ai σ c=.rows n rs→ai (τ.set rb x) c=.rows n rs:=λx c n rs e=>(A x).get e (by simp) (by simp;rintro rfl;rw[hr]at e;cases e);have a4:=λx=>Yb (x:=x) a3 (by simp) n2;refine hK _ ?_ (A _)
  first
   |exact⟨h0,g0,_,h1,g1,t1,lv,Zd _ (by omega),o1.mono λc rs=>kr _ c 1 rs,o2.mono λc rs=>kr _ c 1 rs,.inr (.inr ⟨_,rfl,a4 _,np⟩),o4.mono λc rs=>kr _ c 1 rs,o5.mono λc rs=>kr _ c 1 rs,o6.mono λc rs=>kr _ c 1 rs,ol.mono (kr _)⟩
   |exact⟨h0,g0,t0,h1,g1,_,lv,Zd _ (by omega),o1.mono λc rs=>kr _ c 1 rs,o2.mono λc rs=>kr _ c 1 rs,o3.mono λc rs=>kr _ c 1 rs,o4.mono λc rs=>kr _ c 1 rs,o5.mono λc rs=>kr _ c 1 rs,.inr (.inr ⟨_,rfl,a4 _,np⟩),ol.mono (kr _)⟩
theorem w417{p:Nat→Prop}{rb:Nat}{b:Bk}{s:St}{sd tg fu e:Int}(h:pI p σ rb b s sd tg fu e l)(h01:sd=0∨sd=1)(who:Int){K:KT}(hK:K (iv (bJ sd who)) σ):g145.u VV [.ak rb 0,aO who] σ K:=by
 obtain⟨h0,g0,t0,h1,g1,t1,lv,hr,_⟩:=h;have ew:bJ sd who=if (who==1)=true then 1-sd else sd:=by unfold bJ;simp
 rw[ew]at hK;rw[H2.e];unfold g145;dsimp only;rcases cD (who==1)with h|h<;>rcases h01 with rfl|rfl
 all_goals
  rw[h]at hK;refine av ?_;rw[h];exact av hK
end Go.Ah.Tz
end
section
namespace Go.Ah.Tz
open Go.Proofs.Tryz (prog)
set_option maxRecDepth 100000
theorem G_{σ:List ab}{rb:Nat}{row:List aa}(hr:ai σ rb=.box row)(x:ab):∀c n rs,ai σ c=.rows n rs→ai (σ.set rb x) c=.rows n rs:=λc n rs e=>(dg.set σ rb x).get e (by simp) (by simp;rintro rfl;rw[hr]at e;cases e)
variable{h0 g0 t0 h1 g1 t1 lv:aa}
theorem Rm{p:Nat→Prop}{τ:List ab}{rb:Nat}{b:Bk}{s:St}{sd tg fu er:Int}{l:List Ev}(hr:ai τ rb=.box (vu b s h0 g0 t0 h1 g1 t1 sd tg lv fu er))
 (o1:OW (¬p ·) τ h0 s.s0.hand)(o2:OW (¬p ·) τ g0 s.s0.an)(o3:OW (¬p ·) τ t0 s.s0.told)(o4:OW (¬p ·) τ h1 s.s1.hand)(o5:OW (¬p ·) τ g1 s.s1.an)(o6:OW (¬p ·) τ t1 s.s1.told)(ol:LO p l lv τ)
 {y:aa}{ys:List (List aa)}{rd:List Nat}{m:List Ev}(hy:Zk 7 τ y=some (ys,rd))(hm:ER p τ ys m)(hlen:l.length+m.length<=200000000) :
  ∃nv up τ',Qf 7 72 [lv,y] τ=.ok nv rd up∧gC τ up=some τ'∧cellsOf nv=some [nv]∧ai τ' rb=.box (vu b s h0 g0 t0 h1 g1 t1 sd tg lv fu er)∧(∀k row,ai τ k=.box row→k∉up.map (·.1)) ∧
   pI p (τ'.set rb (.box (vu b s h0 g0 t0 h1 g1 t1 sd tg nv fu er))) rb b s sd tg fu er (l++m)∧Kq [rb] 7 τ (τ'.set rb (.box (vu b s h0 g0 t0 h1 g1 t1 sd tg nv fu er))):=by
 obtain⟨nv,up,τ',q1,q2,q3,q4,q5⟩:=Yeb ol hy hm hlen;have r2:=q4.box hr (by simp);have kk:∀c rs,ai τ c=.rows 1 rs→ai (τ'.set rb (.box (vu b s h0 g0 t0 h1 g1 t1 sd tg nv fu er))) c=.rows 1 rs:=λc rs e=>G_ r2 _ c 1 rs (q4.rows e (by simp) (by decide));exact⟨nv,up,τ',q1,q2,q3.cells,r2,q5,⟨h0,g0,t0,h1,g1,t1,nv,Zd _ (Zb r2),o1.mono kk,o2.mono kk,o3.mono kk,o4.mono kk,o5.mono kk,o6.mono kk,q3.mono (G_ r2 _)⟩,(q4.more (by simp)).trans (Kq.set 7 τ' _ (by simp))⟩
attribute [local irreducible] aE.rd aE.pu aE.wr aE.dr aE.gr aE.gw aE.gl aE.gd aE.opt cP W
set_option maxHeartbeats 8000000
theorem H'{p:Nat→Prop}{σ:List ab}{rb:Nat}{b:Bk}{s:St}{sd tg fu er:Int}{l:List Ev}(hr:ai σ rb=.box (vu b s h0 g0 t0 h1 g1 t1 sd tg lv fu er))
 (o1:OW (¬p ·) σ h0 s.s0.hand)(o2:OW (¬p ·) σ g0 s.s0.an)(o3:OW (¬p ·) σ t0 s.s0.told)(o4:OW (¬p ·) σ h1 s.s1.hand)(o5:OW (¬p ·) σ g1 s.s1.an)(o6:OW (¬p ·) σ t1 s.s1.told)(ol:LO p l lv σ)(e:Ev){cv:aa}(hc:OW p σ cv e.aj)(hlen:l.length<200000000)
 {K:List ab→Prop}(hK:∀σ',pI p σ' rb b s sd tg fu er (l++[e])→Kq [rb] 7 σ σ'→K σ') :
  VV.wr (Xq 7 1 ca [(0,7)] [.agg (cp e cv)] σ) σ λy σ=>VV.wr (Qf 7 72 [lv,y] σ) σ λnv σ=>VV.rd (Ql [.ak rb 0] σ) λt=>VV.rd (Zc 27 [t] σ) λu=>VV.wr (Zj 1 [u,nv] σ) σ λ_ σ=>K σ:=by
 have e1:Xq 7 1 ca [(0,7)] [.agg (cp e cv)] σ=.ok (.sl σ.length 0 1 true) [] [(σ.length,.rows 7 [cp e cv])]:=by rcases hc with rfl|⟨rfl,_⟩|⟨c,rfl,_⟩<;>rfl
 refine Yd e1 (Ye σ _) ?_;have A:=λq v n h=>OW.app (q:=q) (σ:=σ) (v:=v) (l:=n) h [.rows 7 [cp e cv]];have r1:=Qb [ab.rows 7 [cp e cv]] hr;obtain⟨nv,up,τ',q1,q2,qc,r2,_,q4,q5⟩:=Rm r1 (A _ _ _ o1) (A _ _ _ o2) (A _ _ _ o3) (A _ _ _ o4) (A _ _ _ o5) (A _ _ _ o6) (ol.mono λc n rs e=>ZE _ e) (X2 (ex2:=true) (Yc σ (.rows 7 [cp e cv])) rfl) (m:=[e]) ⟨rfl,λi row x q1 q2=>by
  cases i with
  |zero=>simp at q1 q2;subst q1 q2;exact⟨cv,rfl,A _ _ _ hc⟩
  | succ i=>simp at q1⟩ (by simp;omega)
 refine Yd q1 q2 (Za rfl (Za rfl (Yd (c8 r2 qc rfl rfl) (Ze _ (Zb r2)) ?_)));exact hK _ q4 ((Kq.app [rb] 7 σ _).trans q5)
theorem OW.cons{q:Nat→Prop}{σ:List ab}{v:aa}{c:Int}{m:List Int}(h:OW q σ v (c::m)):∃p xF sv u Cq PE,Xi 1 [v,iv 0] σ=.ok p xF []∧Qe false 1 [p] σ=.ok (iv c) sv []∧Zz 1 [v,iv 1] σ=.ok u Cq []∧Zk 1 σ u=some (m.map aS,PE):=by
 rcases h with rfl|⟨rfl,h⟩|⟨k,rfl,hk,_⟩
 ·have e:Zz 1 [aP (c::m),iv 1] σ=.ok (.aW false false 1 (cut 1 (m.map aS).length.succ (aS c::m.map aS))) [] []:=by
   show (bif IT 1 1&&zAR 1 ((m.map aS).length+1)then aN.ok (.aW false false 1 (cut 1 ((m.map aS).length+1) (aS c::m.map aS))) [] []else .stop)=_;rw[show zAR 1 ((m.map aS).length+1)=true from sh (by omega)];rfl
  refine⟨_,[],[],_,[],[],rfl,rfl,e,?_⟩;have:List.take m.length (zDv aS m)=zDv aS m:=zAv (by simp);simpa[Zk,cut]using this
 ·cases h
 ·have e0:Xi 1 [.sl k 0 (c::m).length false,iv 0] σ=.ok (.ptr k 0 0) [k] []:=rr σ k 0 _ false 1 _ .i64 0 (by simp) hk;have e1:Qe false 1 [.ptr k 0 0] σ=.ok (iv c) [k] []:=by simp only[Qe,hk];rfl
  cases m with
  |nil=>exact⟨_,_,_,.aW false true 1 [],[],[],e0,e1,(by simp only[Zz,hk];rfl),rfl⟩
  |cons d m=>
   refine⟨_,_,_,.sl k 1 (d::m).length false,[k],[k],e0,e1,(by simp[Zz,hk,Nat.blt,sh (show 2<=m.length+1+1 by omega)]),?_⟩;simp[Zk,hk,cut,show 1+(m.length+1)=m.length+1+1 by omega,sh (No _),zAv]
theorem V5(σ:List ab)(x y z:ab):dg σ (((σ++[x])++[y]).set σ.length .dead++[z]) []∧ai (((σ++[x])++[y]).set σ.length .dead++[z]) ((σ++[x])++[y]).length=z:=by
 refine⟨⟨by simp,λc hc _=>?_⟩,?_⟩
 ·rw[Yf _ (by simp;omega),Xb _ (by simp;omega) (by omega),Yf _ (by simp;omega),Yf _ hc]
 ·have:=Yc (((σ++[x])++[y]).set σ.length .dead) z;rw[List.length_set]at this;exact this
theorem NG{σ:List ab}{rb j n:Nat}{x:aa}{cs row row':List aa}{K:aa→List Nat×List Nat→List ab→Prop}(hb:ai σ rb=.box row)(hc:cellsOf x=some cs)(hn:IT cs.length n=true)(hs:bX j cs row=some row')
 (hK:∀τ,ai τ rb=.box row'→Kq [rb] 7 σ τ→(∀c n rs,ai σ c=.rows n rs→ai τ c=.rows n rs)→K .aQ ([],[rb]) τ):VV.dr (Zj n [.ak rb j,x] σ) σ K:=
 Xf (c8 hb hc hn hs) (Ze _ (Zb hb)) (hK _ (Zd _ (Zb hb)) (Kq.set 7 σ _ (by simp)) (G_ hb _))
variable{K:KT}
theorem Zq{σ:List ab}{rb j n:Nat}{x:aa}{cs row row':List aa}(hb:ai σ rb=.box row)(hc:cellsOf x=some cs)(hn:IT cs.length n=true)(hs:bX j cs row=some row')
 (hK:∀τ,ai τ rb=.box row'→Kq [rb] 7 σ τ→(∀c n rs,ai σ c=.rows n rs→ai τ c=.rows n rs)→K .aQ τ):VV.wr (Zj n [.ak rb j,x] σ) σ K:=
 Yd (c8 hb hc hn hs) (Ze _ (Zb hb)) (hK _ (Zd _ (Zb hb)) (Kq.set 7 σ _ (by simp)) (G_ hb _))
def tZ(σ σ':List ab)(rb:Nat)(b:Bk)(sd tg fu:Int)(l:List Ev)(r:Int×St×List Ev):Prop:=RR σ' rb b r.2.1 sd tg fu r.1 (l++r.2.2)∧Kq [rb] 7 σ σ'
theorem pI.app{p:Nat→Prop}{σ:List ab}{rb:Nat}{b:Bk}{s:St}{sd tg fu e:Int}{l:List Ev}(h:pI p σ rb b s sd tg fu e l)(x:ab):pI p (σ++[x]) rb b s sd tg fu e l:=by
 obtain⟨h0,g0,t0,h1,g1,t1,lv,hr,o1,o2,o3,o4,o5,o6,ol⟩:=h;exact⟨h0,g0,t0,h1,g1,t1,lv,Qb [x] hr,o1.app _,o2.app _,o3.app _,o4.app _,o5.app _,o6.app _,ol.mono λc n rs e=>ZE _ e⟩
theorem pI.more{p:Nat→Prop}{σ:List ab}{rb:Nat}{b:Bk}{s:St}{sd tg fu e:Int}{l:List Ev}(h:pI p σ rb b s sd tg fu e l)(x:ab):pI (λc=>p c∨c=σ.length) (σ++[x]) rb b s sd tg fu e l:=by
 obtain⟨h0,g0,t0,h1,g1,t1,lv,hr,o1,o2,o3,o4,o5,o6,ol⟩:=h;have w:=λv m (o:OW (¬p ·) σ v m)=>(o.wk (q':=λc=>¬(p c∨c=σ.length)) λc h1 h2=>by simp[h1];omega).app [x];refine⟨h0,g0,t0,h1,g1,t1,lv,Qb [x] hr,w _ _ o1,w _ _ o2,w _ _ o3,w _ _ o4,w _ _ o5,w _ _ o6,?_⟩;rcases ol with ol|⟨c,rows,q1,q2,q3,q4⟩
 ·exact .inl ol
 ·exact .inr ⟨c,rows,q1,ZE _ q2,q3,λi row e a1 a2=>by obtain⟨cv,a3,a4⟩:=q4 i row e a1 a2;exact⟨cv,a3,(a4.wk λc h1 _=>.inl h1).app [x]⟩⟩
theorem pI.err{p:Nat→Prop}{σ:List ab}{rb:Nat}{b:Bk}{s:St}{sd tg fu e:Int}{l:List Ev}(hr:ai σ rb=.box (vu b s h0 g0 t0 h1 g1 t1 sd tg lv fu e))(h:pI p σ rb b s sd tg fu e l)(e':Int):pI p (σ.set rb (.box (vu b s h0 g0 t0 h1 g1 t1 sd tg lv fu e'))) rb b s sd tg fu e' l:=by
 obtain⟨Ho,Pb,PG,uY,Pc,PH,cJ,j4,o1,o2,o3,o4,o5,o6,ol⟩:=h;rw[hr]at j4;cases j4;have kk:=λc rs=>G_ hr (.box (vu b s h0 g0 t0 h1 g1 t1 sd tg lv fu e')) c 1 rs;exact⟨h0,g0,t0,h1,g1,t1,lv,Zd _ (Zb hr),o1.mono kk,o2.mono kk,o3.mono kk,o4.mono kk,o5.mono kk,o6.mono kk,ol.mono (G_ hr _)⟩
theorem Kq.nS{rb:Nat}{σ τ:List ab}(h:dg σ τ [rb]):Kq [rb] 7 σ τ:=⟨h.1,λk hk hn _=>h.2 k hk hn⟩
section
variable {σ:List ab} {rb:Nat} {b:Bk} {s:St} {sd tg fu:Int} {l:List Ev} (h:RR σ rb b s sd tg fu 0 l) (hn:l.length<100000000) (h01:sd=0∨sd=1)
include h hn h01
theorem YeA(x:Ef)(n:Int)(im:x.op=3)(hb:-1000000<=n∧n<=1000000)(hm:0<=(s.side sd).aU∧(s.side sd).aU<=1000000)(hK:∀σ',tZ σ σ' rb b sd tg fu l (el s sd n)→K (.bp []) σ'):g97.u VV [.ak rb 0,.agg (bq x),iv n] σ K:=by
 obtain⟨op,who,nn,name,c,bQ,bV⟩:=x;obtain⟨p,hp,h⟩:=h;cases (show op=3 from im);have h:=h.app (.box (bq (.mk 3 who nn name c bQ bV)));have n1:=Yc σ (.box (bq (.mk 3 who nn name c bQ bV)));have k1:=Kq.app [rb] 7 σ [.box (bq (.mk 3 who nn name c bQ bV))];rw[H3.e];unfold g97;dsimp only;refine Yd (QN _ _) (Ye σ _) ?_;rw[Qr]at *;dsimp only[Ef.op,Ef.who,Ef.name]at *;generalize σ++[_]=τ at *
 replace hp:∀c,p c→c<τ.length:=λc e=>zAK (hp c e) k1.1
 have h':=h;obtain⟨h0,g0,t0,h1,g1,t1,lv,hr,o1,o2,o3,o4,o5,o6,ol⟩:=h';refine av (Xd hP (f:=145) rfl g145.ok rfl (w417 h h01 who ?_));refine av ?_;unfold el at hK;rcases h01 with rfl|rfl
 rotate_left;have hm:0<=s.s1.aU∧s.s1.aU<=1000000:=hm;rotate_left;have hm:0<=s.s0.aU∧s.s0.aU<=1000000:=hm
 all_goals
  refine Ya (λq=>?_) (λq=>?_)
  ·rw[aI (by simpa using q)]at hK;exact hK _ ⟨⟨p,hp,by simpa using h⟩,k1⟩
  rw[aB (by simpa using q)]at hK;refine av ?_;rw[zAY _ (by omega)];refine Ya (λq2=>?_) (λq2=>?_)
  ·first
    |rw[aI (show 1000000<(s.side 0).aU+n from of_decide_eq_true q2)]at hK
    |rw[aI (show 1000000<(s.side 1).aU+n from of_decide_eq_true q2)]at hK
   exact av (Yd (c8 hr rfl rfl rfl) (Ze _ (Zb hr)) (hK _ ⟨⟨p,by simpa using hp,by simpa using pI.err hr h 171⟩,k1.trans (Kq.set 7 _ _ (by simp))⟩))
  ·first
    |rw[aB (show ¬1000000<(s.side 0).aU+n from of_decide_eq_false q2)]at hK
    |rw[aB (show ¬1000000<(s.side 1).aU+n from of_decide_eq_false q2)]at hK
   refine av ?_;rw[zAY _ (by omega)];refine av (NG hr rfl rfl rfl λτ2 r2 k2 kk=>?_);refine av ?_;have p1:=o1.mono λc=>kk c 1;have p2:=o2.mono λc=>kk c 1;have p3:=o3.mono λc=>kk c 1;have p4:=o4.mono λc=>kk c 1;have p5:=o5.mono λc=>kk c 1;have p6:=o6.mono λc=>kk c 1
   first
    |refine H' (s:=s.put 0 { s.side 0 with aU:=s.s0.aU+n }) r2 p1 p2 p3 p4 p5 p6 (ol.mono kk) ⟨7,0,0,0,0,n,[]⟩ (.inr (.inl ⟨rfl,rfl⟩)) (by omega) λσ' q1 q2=>?_
    |refine H' (s:=s.put 1 { s.side 1 with aU:=s.s1.aU+n }) r2 p1 p2 p3 p4 p5 p6 (ol.mono kk) ⟨7,1,0,0,0,n,[]⟩ (.inr (.inl ⟨rfl,rfl⟩)) (by omega) λσ' q1 q2=>?_
   exact hK _ ⟨⟨p,λc e=>zAK (hp c e) (k2.trans q2).1,q1⟩,(k1.trans k2).trans q2⟩
theorem YeC(x:Ef)(n:Int)(im:x.op=5)(hT:TB 100000000 s)(hd:(s.side sd).az.length<=100000000)(hK:∀σ',tZ σ σ' rb b sd tg fu l (gI s sd n)→K (.bp []) σ'):g97.u VV [.ak rb 0,.agg (bq x),iv n] σ K:=by
 obtain⟨op,who,nn,name,c,bQ,bV⟩:=x;obtain⟨p,hp,h⟩:=h;cases (show op=5 from im);have h:=h.app (.box (bq (.mk 5 who nn name c bQ bV)));have n1:=Yc σ (.box (bq (.mk 5 who nn name c bQ bV)));have k1:=Kq.app [rb] 7 σ [.box (bq (.mk 5 who nn name c bQ bV))];rw[H3.e];unfold g97;dsimp only;refine Yd (QN _ _) (Ye σ _) ?_;rw[Qr]at *;dsimp only[Ef.op,Ef.who,Ef.name]at *;generalize σ++[_]=τ at *
 replace hp:∀c,p c→c<τ.length:=λc e=>zAK (hp c e) k1.1
 have h':=h;obtain⟨h0,g0,t0,h1,g1,t1,lv,hr,o1,o2,o3,o4,o5,o6,ol⟩:=h';refine av (Xd hP (f:=145) rfl g145.ok rfl (w417 h h01 who ?_));refine av ?_;unfold gI at hK;have hT1:(s.side sd).told.length<=100000000:=by rcases h01 with rfl|rfl;exact hT.1;exact hT.2
 obtain⟨k,hk,rS⟩:∃k:Nat,min (max n 0) ((s.side sd).az.length:Int)=(k:Int)∧k<=(s.side sd).az.length:=⟨(min (max n 0) ((s.side sd).az.length:Int)).toNat,by omega,by omega⟩;rcases h01 with rfl|rfl
 rotate_left;have E:s.side 1=s.s1:=rfl;rotate_left;have E:s.side 0=s.s0:=rfl
 all_goals
  simp only[E]at hK hk rS hT1 hd;refine av ?_;rw[zAM,hk];rw[hk]at hK;simp only[Int.toNat_natCast]at hK;cases k with
  |zero=>refine av ?_;exact hK _ ⟨⟨p,hp,by simpa using h⟩,k1⟩
  |succ k=>
   refine av (Za (R4 _ _ rS _) ?_);generalize hm:List.take (k+1) _=m;rw[hm]at hK;have dO:m.length=k+1:=by rw[←hm,zAk];omega
   cases m with
   |nil=>cases dO
   |cons y ys=>
   replace hK:∀σ',tZ σ σ' rb b _ tg fu l (0,dt s (y::ys) [_],[⟨9,_,0,0,0,0,y::ys⟩])→K (.bp []) σ':=hK
   generalize y::ys=m at *;refine Yd (I2 GP (by omega)) (Ye τ _) ?_;have nm:=Yc τ (.rows 1 (m.map aS));have tB:=Zb hr;have h2:=h.more (.rows 1 (m.map aS));have k2:=Kq.app [rb] 7 τ [.rows 1 (m.map aS)];have mI:∀c,(p c∨c=τ.length)→c<(τ++[ab.rows 1 (m.map aS)]).length:=λc e=>by rcases e with e|rfl;have:=hp c e;simp;omega;simp
   generalize τ++[_]=υ at *;refine Xd hP (f:=148) rfl g148.ok rfl (w420 mI h2 (by simp) (y:=.sl τ.length 0 m.length false) (m:=m) (λx=>⟨_,X2 (Qb [x] nm) (by simp)⟩) (by rw[E];omega) λσ3 h3 a3=>?_);have HJ:=a3.get nm (by simp) (by simp;omega);obtain⟨h0,g0,t0,h1,g1,t1,lv,hr,o1,o2,o3,o4,o5,o6,ol⟩:=h3;refine av (H' hr o1 o2 o3 o4 o5 o6 ol ⟨9,_,0,0,0,0,m⟩ (.inr (.inr ⟨_,rfl,HJ,.inr rfl⟩)) (by omega) λσ' q1 q2=>?_);exact hK _ ⟨⟨_,λc e=>zAK (mI c e) ((Kq.nS a3).trans q2).1,q1⟩,(k1.trans k2).trans ((Kq.nS a3).trans q2)⟩
theorem QeF(x:Ef)(n:Int)(im:x.op=6)(hT:TB 100000000 s)(zW:s.s0.hand.length<=100000000)(BU:s.s1.hand.length<=100000000)(hK:∀σ',tZ σ σ' rb b sd tg fu l (mD s (bJ sd x.who))→K (.bp []) σ'):g97.u VV [.ak rb 0,.agg (bq x),iv n] σ K:=by
 obtain⟨op,who,nn,name,c,bQ,bV⟩:=x;obtain⟨p,hp,h⟩:=h;cases (show op=6 from im);have h:=h.app (.box (bq (.mk 6 who nn name c bQ bV)));have n1:=Yc σ (.box (bq (.mk 6 who nn name c bQ bV)));have k1:=Kq.app [rb] 7 σ [.box (bq (.mk 6 who nn name c bQ bV))];rw[H3.e];unfold g97;dsimp only;refine Yd (QN _ _) (Ye σ _) ?_;rw[Qr]at *;dsimp only[Ef.op,Ef.who,Ef.name]at *;generalize σ++[_]=τ at *
 replace hp:∀c,p c→c<τ.length:=λc e=>zAK (hp c e) k1.1
 have h':=h;obtain⟨h0,g0,t0,h1,g1,t1,lv,hr,o1,o2,o3,o4,o5,o6,ol⟩:=h';refine av (Xd hP (f:=145) rfl g145.ok rfl (w417 h h01 who ?_));have hi:bJ sd who=0∨bJ sd who=1:=by unfold bJ;split<;>omega
 generalize bJ sd who=i at *;refine av ?_;unfold mD at hK;rcases hi with rfl|rfl
 rotate_left;have E:s.side 1=s.s1:=rfl;have oh:=o4;have dO:=BU;rotate_left;have E:s.side 0=s.s0:=rfl;have oh:=o1;have dO:=zW
 all_goals
  simp only[E]at hK;clear o1 o2 o3 o4 o5 o6 ol zW BU;refine av ?_;obtain⟨rd,er⟩:=oh.src;have t0l:=hT.1;have t1l:=hT.2;generalize Sd.hand _=m at er dO hK;have tB:=Zb hr;refine Yd (I2 er (by omega)) (Ye τ _) ?_;have nm:=Yc τ (.rows 1 (m.map aS));have h2:=h.more (.rows 1 (m.map aS));have k2:=Kq.app [rb] 7 τ [.rows 1 (m.map aS)];clear hr oh er;have mI:∀c,(p c∨c=τ.length)→c<(τ++[ab.rows 1 (m.map aS)]).length:=λc e=>by rcases e with e|rfl;have:=hp c e;simp;omega;simp
  generalize τ++[_]=υ at *;refine Xd hP (f:=148) rfl g148.ok rfl (w420 mI h2 (.inl rfl) (y:=.sl τ.length 0 m.length false) (m:=m) (λx=>⟨_,X2 (Qb [x] nm) (by simp)⟩) (show s.s0.told.length+m.length<=1000000000 by omega) λσ3 h3 a3=>?_);have HJ:=a3.get nm (by simp) (by simp;omega);refine Xd hP (f:=148) rfl g148.ok rfl (w420 (λc e=>zAK (mI c e) a3.1) h3 (.inr rfl) (y:=.sl τ.length 0 m.length false) (m:=m) (λx=>⟨_,X2 (Qb [x] HJ) (by simp)⟩) (show s.s1.told.length+m.length<=1000000000 by omega) λσ4 h4 a4=>?_);have nm4:=a4.get HJ (by simp) (by simp;omega);obtain⟨h0,g0,t0,h1,g1,t1,lv,hr,o1,o2,o3,o4,o5,o6,ol⟩:=h4;refine av (H' hr o1 o2 o3 o4 o5 o6 ol ⟨10,_,0,0,0,0,m⟩ (.inr (.inr ⟨_,rfl,nm4,.inr rfl⟩)) (by omega) λσ' q1 q2=>?_);exact hK _ ⟨⟨_,λc e=>zAK (mI c e) ((Kq.nS a3).trans ((Kq.nS a4).trans q2)).1,q1⟩,(k1.trans k2).trans ((Kq.nS a3).trans ((Kq.nS a4).trans q2))⟩
theorem Xev(x:Ef)(n:Int)(im:x.op=4)(hT:TB 100000000 s)(zW:s.s0.hand.length<=100000000∧s.s0.an.length<=100000000)(BU:s.s1.hand.length<=100000000∧s.s1.an.length<=100000000)(hK:∀σ',tZ σ σ' rb b sd tg fu l (cZ s (bJ sd x.who))→K (.bp []) σ'):g97.u VV [.ak rb 0,.agg (bq x),iv n] σ K:=by
 obtain⟨op,who,nn,name,c,bQ,bV⟩:=x;obtain⟨p,hp,h⟩:=h;cases (show op=4 from im);have h:=h.app (.box (bq (.mk 4 who nn name c bQ bV)));have n1:=Yc σ (.box (bq (.mk 4 who nn name c bQ bV)));have k1:=Kq.app [rb] 7 σ [.box (bq (.mk 4 who nn name c bQ bV))];rw[H3.e];unfold g97;dsimp only;refine Yd (QN _ _) (Ye σ _) ?_;rw[Qr]at *;dsimp only[Ef.op,Ef.who,Ef.name]at *;generalize σ++[_]=τ at *
 replace hp:∀c,p c→c<τ.length:=λc e=>zAK (hp c e) k1.1
 have h':=h;obtain⟨h0,g0,t0,h1,g1,t1,lv,hr,o1,o2,o3,o4,o5,o6,ol⟩:=h';refine av (Xd hP (f:=145) rfl g145.ok rfl (w417 h h01 who ?_));have hi:bJ sd who=0∨bJ sd who=1:=by unfold bJ;split<;>omega
 generalize bJ sd who=i at *;refine av ?_;unfold cZ at hK;have t0l:=hT.1;have t1l:=hT.2;rcases hi with rfl|rfl
 rotate_left;have E:s.side 1=s.s1:=rfl;have oh:=o4;have og:=o5;have dO:=BU;rotate_left;have E:s.side 0=s.s0:=rfl;have oh:=o1;have og:=o2;have dO:=zW
 all_goals
  simp only[E]at hK;refine av (Za oh.len ?_);generalize hh:Sd.hand _=m at oh dO hK;cases m with
  |nil=>refine av ?_;exact hK _ ⟨⟨p,hp,by simpa using h⟩,k1⟩
  |cons c m=>
   obtain⟨pt,xF,sv,u,Cq,PE,e1,e2,e3,e4⟩:=oh.cons;refine av (Za e1 (Za e2 (Xf e3 (Zg _) ?_)));have lm:m.length<=100000000:=by have:=dO.1;simp at this;omega
   refine Xf (I2 e4 (by omega)) (Ye τ _) ?_;have nm:=Yc τ (.rows 1 (m.map aS));have tB:=Zb hr;have h2:=h.app (.rows 1 (m.map aS));have k2:=Kq.app [rb] 7 τ [.rows 1 (m.map aS)];have r2:=Qb [ab.rows 1 (m.map aS)] hr;have og2:=og.app [ab.rows 1 (m.map aS)];have p1:=o1.app [ab.rows 1 (m.map aS)];have p2:=o2.app [ab.rows 1 (m.map aS)];have p3:=o3.app [ab.rows 1 (m.map aS)];have p4:=o4.app [ab.rows 1 (m.map aS)];have p5:=o5.app [ab.rows 1 (m.map aS)];have p6:=o6.app [ab.rows 1 (m.map aS)];have pl:=ol.mono (τ:=τ++[ab.rows 1 (m.map aS)]) λc n rs e=>ZE _ e;clear e1 e2 e3 e4 oh og o1 o2 o3 o4 o5 o6 ol hr h;generalize aaL:τ++[_]=τ2 at *;refine av (NG r2 rfl rfl rfl λτ3 r3 k3 kk=>?_);refine Qv (by simp[Qi,Xm,Xn,Yv,cf,dS,zAB,zAd,jW]) ?_;have og3:=og2.mono λc=>kk c 1;have HJ:=kk _ _ _ nm
   replace p1:=p1.mono λc=>kk c 1
   replace p2:=p2.mono λc=>kk c 1
   replace p3:=p3.mono λc=>kk c 1
   replace p4:=p4.mono λc=>kk c 1
   replace p5:=p5.mono λc=>kk c 1
   replace p6:=p6.mono λc=>kk c 1
   replace pl:=pl.mono kk
   refine av ?_;obtain⟨rdg,eg⟩:=og3.src;refine Yd (I2 eg (by omega)) (Ye τ3 _) ?_;generalize hg:Sd.an _=g at eg dO hK;refine Xf (v:=.sl (τ3++[ab.rows 1 (g.map aS)]).length 0 1 true) (rd:=[]) (up:=[((τ3++[ab.rows 1 (g.map aS)]).length,.rows 1 [[iv c]])]) rfl (Ye _ _) (Ik (l:=g) (x:=c) (Qb [_] (Yc τ3 _)) (Yc _ _) rfl (by omega) ?_);obtain⟨a4,a5⟩:=V5 τ3 (.rows 1 (g.map aS)) (.rows 1 [[iv c]]) (.rows 1 ((g++[c]).map aS));generalize ((τ3++[ab.rows 1 (g.map aS)])++[_]).set τ3.length .dead++[_]=τ4 at a4 a5 ⊢;have r4:=a4.get r3;refine av (NG r4 rfl rfl rfl λτ5 r5 k5 o0=>?_);refine Qv (by simp[Qi,Xm,Xn,Yv,cf,dS,zAB,zAd,jW]) ?_;have nm5:=o0 _ _ _ (a4.get HJ);have ng5:=o0 _ _ _ a5;have kr:=λq rs (e:ai τ3 q=.rows 1 rs)=>o0 _ _ _ (a4.get e);have kl:=λq n rs (e:ai τ3 q=.rows n rs)=>o0 _ _ _ (a4.get e)
   replace p1:=p1.mono kr
   replace p2:=p2.mono kr
   replace p3:=p3.mono kr
   replace p4:=p4.mono kr
   replace p5:=p5.mono kr
   replace p6:=p6.mono kr
   replace pl:=pl.mono kl
   dsimp only[dt,List.foldl]at hK;generalize hS:St.put s _ _=S at hK;have ht0:S.s0.told=s.s0.told:=by rw[←hS];rfl
   have ht1:S.s1.told=s.s1.told:=by rw[←hS];rfl
   have npm:¬p τ.length:=λe=>by have:=hp _ e;omega
   have npg:¬p (τ3++[ab.rows 1 (g.map aS)]++[ab.rows 1 [[iv c]]]).length:=λe=>by
    have:=hp _ e;have:=(k2.trans k3).1;simp at *;omega
   have Vl:∀c,p c→c<τ5.length:=λc e=>zAK (hp c e) ((k2.trans k3).trans ((Kq.iq a4 [rb] 7).trans k5)).1;have h5:pI p τ5 rb b S sd tg fu 0 l:=by
    rw[←hS]
    first
     |exact⟨_,_,_,_,_,_,_,r5,.inr (.inr ⟨_,rfl,nm5,npm⟩),.inr (.inr ⟨_,rfl,ng5,npg⟩),p3,p4,p5,p6,pl⟩
     |exact⟨_,_,_,_,_,_,_,r5,p1,p2,p3,.inr (.inr ⟨_,rfl,nm5,npm⟩),.inr (.inr ⟨_,rfl,ng5,npg⟩),p6,pl⟩
   refine Yd (v:=.sl τ5.length 0 1 true) (rd:=[]) (up:=[(τ5.length,.rows 1 [[iv c]])]) rfl (Ye τ5 _) (Xd hP (f:=148) rfl g148.ok rfl (w420 (λc e=>by have:=Vl c e;simp;omega) (h5.app _) (.inl rfl) (y:=.sl τ5.length 0 1 true) (m:=[c]) (λx=>⟨_,X2 (Qb [x] (Yc τ5 _)) rfl⟩) (show S.s0.told.length+1<=1000000000 by rw[ht0];omega) λσ7 h7 a7=>?_));refine Yd (v:=.sl σ7.length 0 1 true) (rd:=[]) (up:=[(σ7.length,.rows 1 [[iv c]])]) rfl (Ye σ7 _) (Xd hP (f:=148) rfl g148.ok rfl (w420 (λc e=>by have:=Vl c e;have:=a7.1;simp at *;omega) (h7.app _) (.inr rfl) (y:=.sl σ7.length 0 1 true) (m:=[c]) (λx=>⟨_,X2 (Qb [x] (Yc σ7 _)) rfl⟩) (show S.s1.told.length+1<=1000000000 by rw[ht1];omega) λσ8 h8 a8=>?_));obtain⟨h0,g0,t0,h1,g1,t1,lv,hr,o1,o2,o3,o4,o5,o6,ol⟩:=h8;refine av (H' hr o1 o2 o3 o4 o5 o6 ol ⟨8,_,c,0,0,0,[]⟩ (.inr (.inl ⟨rfl,rfl⟩)) (by omega) λσ' q1 q2=>?_);have kz:=(((Kq.app [rb] 7 τ5 _).trans (Kq.nS a7)).trans (((Kq.app [rb] 7 σ7 _).trans (Kq.nS a8)).trans q2));exact hK _ ⟨⟨p,λc e=>zAK (Vl c e) kz.1,q1⟩,(k1.trans (k2.trans k3)).trans (((Kq.iq a4 [rb] 7).trans k5).trans (((Kq.app [rb] 7 τ5 _).trans (Kq.nS a7)).trans (((Kq.app [rb] 7 σ7 _).trans (Kq.nS a8)).trans q2)))⟩
end
end Go.Ah.Tz
end
section
namespace Go.Ah
section
variable {P:Program} {GL:aw}
def jH(h:Hp)(rd:List Nat):Hp:=λb=>if b∈rd then h b else (h b).map λ_=>.dead
variable{rd:List Nat}
theorem XS{h:Hp}{b:Nat}{blk:ab}(e:jH h rd b=some blk)(hl:blk.live=true):b∈rd∧h b=some blk:=by
 unfold jH at e;by_cases hb:b∈rd
 ·rw[aI hb]at e;exact⟨hb,e⟩
 ·rw[aB hb]at e;obtain⟨x,_,rfl⟩:=zBh.1 e;simp[ab.live]at hl
theorem bx.only{w0:World}{L:Ln}{g:Gm}{h:Hp}{w:World}(r:bx GL w0 L g h w)(rd:List Nat):bx GL w0 L g (jH h rd) w where
 keeps:=r.keeps
 aZ:=r.aZ
 src:=r.src
 cr:=r.cr
 ed:=λb e=>r.ed b (by
  unfold jH at e;split at e
  ·exact e
  ·simpa using e)
 jy:=λb blk e=>by
  unfold jH at e;split at e
  ·exact r.jy b blk e
  ·obtain⟨x,hx,_⟩:=zBh.1 e;exact r.jy b x hx
 own:=λb blk cb e hl=>r.own b blk cb (XS e hl).2 hl
 bn:=λb blk cb e hl=>r.bn b blk cb (XS e hl).2 hl
 inj:=λb b' blk blk' cb eP e e' hl ml=>r.inj b b' blk blk' cb eP (XS e hl).2 (XS e' ml).2 hl ml
def ju(rd:List Nat):List (Nat×ab):=rd.map λb=>(b,.dead)
theorem bx.rK{w0:World}{L:Ln}{w:World}(c:Own):∀(rd:List Nat) {M0:Nat→Option Obj} {h:Hp},bx GL w0 L ⟨M0,c⟩ h w→(∀b∈rd,∃blk,h b=some blk) →
  ∃M,i9 M0 M∧bx GL w0 L ⟨M,c⟩ (cz h (ju rd)) w∧∀b∈rd,∀blk cb o,h b=some blk→blk.live=true→c b=some cb→cb.cR=false→w.heap[cb.blk]?=some o→M cb.blk=some o
 |[],M0,h,r,_=>⟨M0,i9.refl _,r,λb hb=>absurd hb (by simp)⟩
 |b::rd,M0,h,r,dc=>by
  obtain⟨blk,hb⟩:=dc b (zBP);have UT:∀c∈rd,∃blk,eo h b .dead c=some blk:=λc hc=>by
   by_cases e:c=b
   ·subst e;exact⟨_,Qs _ _ _⟩
   ·rw[Qq _ _ e];exact dc c (zAr _ hc)
  obtain⟨cb,ec⟩:=r.jy b blk hb;have key:∃M1,i9 M0 M1∧bx GL w0 L ⟨M1,c⟩ (eo h b .dead) w∧(blk.live=true→cb.cR=false→∀o,w.heap[cb.blk]?=some o→M1 cb.blk=some o):=by
   by_cases hl:blk.live=true∧cb.cR=false
   ·obtain⟨_,_,o,ho,_⟩:=r.own b blk cb hb hl.1 ec hl.2;obtain⟨q1,q2⟩:=r.freeze hb hl.1 ec hl.2 ho;refine⟨_,q1.m,q2,λ_ _ o' fR=>?_⟩;rw[ho]at fR;cases fR;simp[nT]
   ·exact⟨M0,i9.refl _,r.kill hb,λh1 h2=>absurd ⟨h1,h2⟩ hl⟩
  obtain⟨M1,m1,r1,k1⟩:=key;obtain⟨M,m2,r2,k2⟩:=bx.rK c rd r1 UT;refine⟨M,m1.trans m2,r2,λx hx blk' eP o e1 e2 e3 e4 e5=>?_⟩;by_cases e:x=b
  ·subst e;have Hl:c x=some cb:=ec;rw[hb]at e1;cases e1;rw[Hl]at e3;cases e3;exact m2 _ _ (k1 e2 e4 o e5)
  ·rcases zAS.1 hx with h'|h'
   ·exact absurd h' e
   ·exact k2 x h' blk' eP o (by rw[Qq _ _ e];exact e1) e2 e3 e4 e5
theorem di.rK{f:FuncId}{xs ys:List aa}{v:aa}{h0:Hp}(hc:di P GL f ys v)(hb:bd h0 rd xs ys)(dc:∀b∈rd,∃blk,h0 b=some blk):je P GL f xs h0 v rd (ju rd):=by
 intro w0 L g h w vs r hx cO _;obtain⟨M,hM,r2,Dq⟩:=bx.rK g.c rd (M0:=g.M) r (λb cj=>by rw[cO b cj];exact dc b cj);have qR:yq g (jH h rd) w M:=⟨hM,λb blk cb o e hl ec hv ho=>Dq b (XS e hl).1 blk cb o (XS e hl).2 hl ec hv ho⟩;have hd:=hb GL w0 L g (jH h rd) w M (r.only rd) qR (λb cj=>by unfold jH;rw[aI cj];exact cO b cj) vs hx;refine(hc w M _ r2.aZ r2.cr hd).mono ?_;rintro e w' ⟨y,he,k,M',hle,ic,j5,UE⟩;exact⟨y,he,⟨M',g.c⟩,⟨hM.trans hle,gD.refl _⟩,r2.after k hle ic j5,UE.mono (i9.refl _) (gD.bA _)⟩
def lr(σ:List ab)(rd:List Nat):List ab:=rd.foldl (λσ b=>σ.set b .dead) σ
theorem Z9:∀(rd:List Nat) (σ:List ab),(lr σ rd).length=σ.length
 |[],_=>rfl
 |b::rd,σ=>(Z9 rd (σ.set b .dead)).trans (by simp)
theorem Oq:∀(rd:List Nat) (σ:List ab),(∀b∈rd,b<σ.length)→gC σ (ju rd)=some (lr σ rd)
 |[],_,_=>rfl
 |b::rd,σ,h=>by
  have hb:=h b zBP;show (bif IT b σ.length then gC (σ ++ [.dead]) (ju rd)else (match YC b .dead σ with
   |some σ'=>gC σ' (ju rd)
   | none=>none))=_
  have:IT b σ.length=false:=by
   cases e:IT b σ.length with
   |false=>rfl
   |true=>have:=fY e;omega
  rw[this,Z1 hb];exact Oq rd (σ.set b .dead) (λc hc=>by simpa using h c (zAr _ hc))
theorem Xbf{k:MK}{xs ys zs:List aa}{f:FuncId}{v:aa}(h:di P GL f zs v){σ:List ab}(hc:Ys k xs=some (f,ys))(ia:Zh P f=true)(hb:bd (hp σ) rd ys zs)(dc:∀b∈rd,ai σ b≠.dead){K:KT}(hK:K v (lr σ rd)):(W P GL).call k xs σ K:=
 Bc hc ia (h.rK hb λb cj=>⟨_,Xv rfl (dc b cj)⟩) (Oq rd σ λb cj=>Zb rfl (dc b cj)) hK
end
end Go.Ah
end
section
namespace Go.Ah
section
variable {P:Program} {GL:aw}
theorem Xca:∀(l:List (Nat×ab)) (h:Hp) (k:Nat) (x:ab),cz h (l++[(k,x)])=eo (cz h l) k x
 |[],_,_,_=>rfl
 |(b,y)::l,h,k,x=>Xca l (eo h b y) k x
theorem YbH:∀(l:List Nat) (h:Hp) (k:Nat),k∉l→cz h (ju l) k=h k
 |[],_,_,_=>rfl
 |b::l,h,k,hk=>by
  simp only[zAS,not_or]at hk;show cz (eo h b .dead) (ju l) k=h k;rw[YbH l _ k hk.2,Qq _ _ hk.1]
theorem di.uq{f:FuncId}{xs ys:List aa}{v:aa}{rd:List Nat}{h0:Hp}(hc:di P GL f ys v)(hb:bd h0 rd xs ys)(dc:∀b∈rd,∃blk,h0 b=some blk){k:Nat}{row row':List aa}(hk:h0 k=some (.box row))(gN:k∉rd)(hlen:row'.length=row.length)
 (ee:∀(j:Nat) (x x':aa),row[j]?=some x→row'[j]?=some x'→x'=x∨aA h0 rd x x'):je P GL f xs h0 v rd (ju rd++[(k,.box row')]):=by
 intro w0 L g h w vs r hx cO gO;have wX:h k=some (.box row):=by rw[gO (k,.box row') (by simp)];exact hk
 obtain⟨M,hM,r2,Dq⟩:=bx.rK g.c rd (M0:=g.M) r (λb cj=>by rw[cO b cj];exact dc b cj);have qR:yq g (jH h rd) w M:=⟨hM,λb blk cb o e hl ec hv ho=>Dq b (XS e hl).1 blk cb o (XS e hl).2 hl ec hv ho⟩;have KW:∀b∈rd,jH h rd b=h0 b:=λb cj=>by unfold jH;rw[aI cj];exact cO b cj
 have hd:=hb GL w0 L g (jH h rd) w M (r.only rd) qR KW vs hx;have r3:bx GL w0 L ⟨M,g.c⟩ (eo (cz h (ju rd)) k (.box row')) w:=by
  obtain⟨cb,ec⟩:=r.jy k _ wX;have hv:cb.cR=false:=by
   cases e:cb.cR with
   |false=>rfl
   |true=>have:=r.bn k _ cb wX rfl ec e;cases this
  obtain⟨_,_,o,ho,arr,T,rfl,hs,oM⟩:=r.own k _ cb wX rfl ec hv;have rS:cz h (ju rd) k=some (.box row):=by rw[YbH rd h k gN];exact wX
  refine r2.write (w':=w) rS rfl ec hv (blk':=.box row') rfl (o':=.cells arr T (0,0)) rfl rfl rfl ?_ ⟨arr,T,rfl,by rw[hs,hlen],λj x' u e1 e2=>?_⟩
  ·apply Array.ext_getElem?;intro i;by_cases hi:i=cb.blk
   ·subst hi;rw[Array.getElem?_setIfInBounds_self_of_lt (Array.getElem?_eq_some_iff.1 ho).1,ho]
   ·rw[Array.getElem?_setIfInBounds_ne (λe=>hi e.symm)]
  ·have hj:j<row.length:=by rw[←hlen];exact(gE e1).1
   have e0:row[j]?=some row[j]:=by simp[hj]
   have c_:=oM j row[j] u e0 e2;rcases ee j row[j] x' e0 e1 with rfl|mR
   ·exact Den.mono hM c_ (gD.refl _)
   ·exact(mR GL w0 L g (jH h rd) w M (r.only rd) qR KW u c_).mono (i9.refl _) (gD.bA _)
 refine(hc w M _ r3.aZ r3.cr hd).mono ?_;rintro e w' ⟨y,he,kp,M',hle,ic,j5,UE⟩;rw[Xca];exact⟨y,he,⟨M',g.c⟩,⟨hM.trans hle,gD.refl _⟩,r3.after kp hle ic j5,UE.mono (i9.refl _) (gD.bA _)⟩
theorem Zbz{k:MK}{xs ys zs:List aa}{f:FuncId}{v:aa}{b q:Nat}{row row':List aa}(h:di P GL f zs v){σ:List ab}(hc:Ys k xs=some (f,ys))(ia:Zh P f=true)(hb:bd (hp σ) [b] ys zs)(dc:ai σ b≠.dead)(hq:ai σ q=.box row)(Pw:q≠b)(hlen:row'.length=row.length)
 (ee:∀(j:Nat) (x x':aa),row[j]?=some x→row'[j]?=some x'→x'=x∨aA (hp σ) [b] x x'){K:KT}(hK:K v ((σ.set b .dead).set q (.box row'))):(W P GL).call k xs σ K:=by
 refine Bc hc ia (h.uq hb (λc yJ=>by rw[zAs]at yJ;subst yJ;exact⟨_,Xv rfl dc⟩) (Xv hq (by simp)) (by simpa using Pw) hlen ee) ?_ hK;have h1:=Oq [b] σ (λc yJ=>by rw[zAs]at yJ;subst yJ;exact Zb rfl dc);have yP:=Zb hq;have Dk:=Zb (σ:=σ) (b:=b) rfl dc;show gC σ [(b,.dead),(q,.box row')]=_;have s1:∀(τ:List ab) (c:Nat) (x:ab) (r:List (Nat×ab)),c<τ.length→gC τ ((c,x)::r)=gC (τ.set c x) r:=by
  intro τ c x r kR;show (bif IT c τ.length then gC (τ ++ [x]) r else (match YC c x τ with
   |some σ'=>gC σ' r
   | none=>none))=_
  have:IT c τ.length=false:=by
   cases e:IT c τ.length with
   |false=>rfl
   |true=>have:=fY e;omega
  rw[this,Z1 kR];rfl
 rw[s1 σ b .dead _ Dk,s1 _ q _ _ (by simpa using yP)];rfl
end
end Go.Ah
end
section
namespace Go.Ah
theorem SP:∀(a b:List (Nat×ab)) (σ τ:List ab),gC σ a=some τ→gC σ (a++b)=gC τ b
 |[],b,σ,τ,h=>by cases h;rfl
 |(c,x)::a,b,σ,τ,h=>by
  have h:(bif IT c σ.length then gC (σ ++ [x]) a else (match YC c x σ with
   |some σ'=>gC σ' a
   | none=>none))=some τ:=h
  show (bif IT c σ.length then gC (σ ++ [x]) (a ++ b)else (match YC c x σ with
   |some σ'=>gC σ' (a++b)
   | none=>none))=gC τ b
  cases hc:IT c σ.length with
  |true=>rw[hc]at h;exact SP a b _ τ h
  |false=>
   rw[hc]at h;cases hs:YC c x σ with
   |none=>rw[hs]at h;cases h
   |some υ=>rw[hs]at h;exact SP a b υ τ h
theorem Nk:∀(rd:List Nat) (σ:List ab) (c:Nat),c<σ.length→c∉rd→ai (lr σ rd) c=ai σ c
 |[],_,_,_,_=>rfl
 |b::rd,σ,c,h,hn=>by
  show ai (lr (σ.set b .dead) rd) c=_;rw[Nk rd _ c (by simpa using h) (λe=>hn (zAr _ e)),Tz.Xb _ h (λe=>hn (by rw[e];exact zBP))]
def iF(h:Hp)(rd:List Nat):List aa→List aa→Prop
 |[],[]=>True
 |x::xs,y::ys=>(y=x∨aA h rd x y)∧iF h rd xs ys
 |_,_=>False
theorem iF.len{h:Hp}{rd:List Nat}:∀ {xs ys:List aa},iF h rd xs ys→ys.length=xs.length
 |[],[],_=>rfl
 |_::xs,_::ys,e=>by simp[iF.len (xs:=xs) e.2]
theorem iF.at{h:Hp}{rd:List Nat}:∀ {xs ys:List aa},iF h rd xs ys→∀(j:Nat) (x x':aa),xs[j]?=some x→ys[j]?=some x'→x'=x∨aA h rd x x'
 |[],[],_,j,x,x',e,_=>by cases e
 |y::xs,y'::ys,e,0,x,x',e1,e2=>by cases e1;cases e2;exact e.1
 |y::xs,y'::ys,e,j+1,x,x',e1,e2=>iF.at (xs:=xs) (ys:=ys) e.2 j x x' (by simpa using e1) (by simpa using e2)
section
variable {P:Program} {GL:aw}
theorem Q5{k:MK}{xs ys zs:List aa}{f:FuncId}{v:aa}{rd:List Nat}{q:Nat}{row row':List aa}(h:di P GL f zs v){σ:List ab}(hc:Ys k xs=some (f,ys))(ia:Zh P f=true)(hb:bd (hp σ) rd ys zs)(dc:∀b∈rd,ai σ b≠.dead)(hq:ai σ q=.box row)(Pw:q∉rd)
 (ee:iF (hp σ) rd row row'){K:KT}(hK:∀τ,ai τ q=.box row'→σ.length=τ.length→(∀c,c<σ.length→c≠q→c∉rd→ai τ c=ai σ c)→K v τ):(W P GL).call k xs σ K:=by
 have yP:=Zb hq;refine Bc hc ia (h.uq hb (λc yJ=>⟨_,Xv rfl (dc c yJ)⟩) (Xv hq (by simp)) Pw ee.len ee.at) (σ':=(lr σ rd).set q (.box row')) ?_ (hK _ (Tz.Zd _ (by rw[Z9];exact yP)) (by simp[Z9]) λc h1 h2 h3=>by rw[Tz.Xb _ (by rw[Z9];exact h1) h2,Nk rd σ c h1 h3]);rw[SP _ _ _ _ (Oq rd σ (λb cj=>Zb rfl (dc b cj)))];exact Ze _ (by rw[Z9];exact yP)
end
end Go.Ah
namespace Go.Ah.Tz
open Go.Proofs.Tryz (prog)
set_option maxRecDepth 100000
def ow:aa→List Nat
 |.sl c _ _ _=>[c]
 |_=>[]
theorem OW.HK{q:Nat→Prop}{σ:List ab}{v:aa}{l:List Int}{rd:List Nat}(h:OW q σ v l)(hs:∀c∈ow v,c∈rd):RI σ rd v l:=by
 rcases h with rfl|⟨rfl,rfl⟩|⟨c,rfl,h2,_⟩
 ·exact RI.ro l
 ·exact RI.al
 ·exact RI.own h2 (hs c (by simp[ow])) rfl
theorem OW.live{q:Nat→Prop}{σ:List ab}{v:aa}{l:List Int}(h:OW q σ v l):∀c∈ow v,(∃rs,ai σ c=.rows 1 rs)∧q c:=by
 intro c hc;rcases h with rfl|⟨rfl,rfl⟩|⟨k,rfl,h2,h3⟩
 ·simp[ow]at hc
 ·simp[ow]at hc
 ·simp[ow]at hc;subst hc;exact⟨⟨_,h2⟩,h3⟩
@[reducible] def L'(b:Bk)(s:St)(sd tg:Int)(lv:aa)(fu e:Int):List aa:=vu b s (aP s.s0.hand) (aP s.s0.an) (aP s.s0.told) (aP s.s1.hand) (aP s.s1.an) (aP s.s1.told) sd tg lv fu e
def Kb(rb:Nat)(σ τ:List ab):Prop:=σ.length<=τ.length∧∀k row,k≠rb→ai σ k=.box row→ai τ k=.box row
theorem Kb.refl(rb:Nat)(σ:List ab):Kb rb σ σ:=⟨No _,λ_ _ _ h=>h⟩
variable{τ:List ab}
variable{rb:Nat}
theorem Kb.trans{σ υ:List ab}(h:Kb rb σ τ)(q:Kb rb τ υ):Kb rb σ υ:=⟨zAX h.1 q.1,λk row h1 h2=>q.2 k row h1 (h.2 k row h1 h2)⟩
theorem Kb.kq{σ:List ab}(h:Kq [rb] 7 σ τ):Kb rb σ τ:=⟨h.1,λk row h1 h2=>h.box h2 (by simpa using h1)⟩
attribute [local irreducible] aE.rd aE.pu aE.wr aE.dr aE.gr aE.gw aE.gl aE.gd aE.opt cP W
theorem Zb2{p:Nat→Prop}{σ:List ab}{b:Bk}{s:St}{sd tg fu e:Int}{l:List Ev}{h0 g0 t0 h1 g1 t1 lv:aa}(hr:ai σ rb=.box (vu b s h0 g0 t0 h1 g1 t1 sd tg lv fu e))
 (o1:OW (¬p ·) σ h0 s.s0.hand)(o2:OW (¬p ·) σ g0 s.s0.an)(o3:OW (¬p ·) σ t0 s.s0.told)(o4:OW (¬p ·) σ h1 s.s1.hand)(o5:OW (¬p ·) σ g1 s.s1.an)(o6:OW (¬p ·) σ t1 s.s1.told)(ol:LO p l lv σ)
 {f:FuncId}{v x y:aa}(h:PC f [cE b,bZ s,x,y] v)(ia:Zh prog f=true)(hx:x.ro=true)(hy:y.ro=true){K:KT}
 (hK:∀τ,ai τ rb=.box (L' b s sd tg lv fu e)→LO p l lv τ→Kb rb σ τ→K v τ) :
  VV.call (.call f) [.agg (cq b),.agg (tM s (aP s.ao) (aP s.s0.az) h0 g0 (gS s.s0.af) t0 (aP s.s1.az) h1 g1 (gS s.s1.af) t1),x,y] σ K:=by
 have hm:∀w∈[h0,g0,t0,h1,g1,t1],∀c∈ow w,c∈[h0,g0,t0,h1,g1,t1].flatMap ow:=λw hw c hc=>List.mem_flatMap.2 ⟨w,hw,hc⟩;have hl:∀c∈[h0,g0,t0,h1,g1,t1].flatMap ow,(∃rs,ai σ c=.rows 1 rs)∧¬p c:=by
  intro c hc;obtain⟨w,hw,Ht⟩:=List.mem_flatMap.1 hc;simp only[zAS,List.not_mem_nil,or_false]at hw;rcases hw with rfl|rfl|rfl|rfl|rfl|rfl
  ·exact o1.live c Ht
  ·exact o2.live c Ht
  ·exact o3.live c Ht
  ·exact o4.live c Ht
  ·exact o5.live c Ht
  ·exact o6.live c Ht
 have i1:=o1.HK (hm h0 (by simp));have i2:=o2.HK (hm g0 (by simp));have i3:=o3.HK (hm t0 (by simp));have i4:=o4.HK (hm h1 (by simp));have i5:=o5.HK (hm g1 (by simp));have i6:=o6.HK (hm t1 (by simp));generalize [h0,g0,t0,h1,g1,t1].flatMap ow=rd at *;refine Q5 (rd:=rd) (row':=L' b s sd tg lv fu e) h rfl ia (.cons (aA.ro rfl) (.cons (SB.mk (RI.ro _) (RI.ro _) i1 i2 (RT.ro _) i3 (RI.ro _) i4 i5 (RT.ro _) i6).agg (bd.ro (by simp[hx,hy])))) (λc hc=>by obtain⟨⟨rs,e⟩,_⟩:=hl c hc;rw[e];simp) hr (λe=>by obtain⟨⟨rs,e⟩,_⟩:=hl rb e;rw[hr]at e;cases e) ?_ λτ q1 q2 q3=>?_
 ·exact⟨.inl rfl,.inl rfl,.inl rfl,.inl rfl,.inl rfl,.inl rfl,.inl rfl,.inl rfl,.inl rfl,.inl rfl,.inl rfl,.inl rfl,.inl rfl,.inr i1,.inr i2,.inl rfl,.inr i3,.inl rfl,.inl rfl,.inl rfl,.inl rfl,.inr i4,.inr i5,.inl rfl,.inr i6,.inl rfl,.inl rfl,.inl rfl,.inl rfl,.inl rfl,trivial⟩
 ·refine hK τ q1 ?_ ⟨by omega,λk row h1 h2=>by rw[q3 k (Zb h2) h1 (λe=>by obtain⟨⟨rs,e⟩,_⟩:=hl k e;rw[h2]at e;cases e)];exact h2⟩;rcases ol with ol|⟨c,rows,a1,a2,a3,a4⟩
  ·exact .inl ol
  ·refine .inr ⟨c,rows,a1,?_,a3,λi row e b1 b2=>?_⟩
   ·rw[q3 c (Zb a2) (λe=>by rw[e,hr]at a2;cases a2) (λe=>by obtain⟨⟨rs,e⟩,_⟩:=hl c e;rw[a2]at e;cases e)];exact a2
   ·obtain⟨cv,c1,c2⟩:=a4 i row e b1 b2;refine⟨cv,c1,?_⟩;rcases c2 with c2|c2|⟨k,d1,d2,d3⟩
    ·exact .inl c2
    ·exact .inr (.inl c2)
    ·exact .inr (.inr ⟨k,d1,by rw[q3 k (Zb d2) (λe=>by rw[e,hr]at d2;cases d2) (λe=>(hl k e).2 d3)];exact d2,d3⟩)
set_option maxHeartbeats 8000000
theorem YdG{p:Nat→Prop}{σ:List ab}{b:Bk}{s:St}{sd tg fu er:Int}{l:List Ev}{h0 g0 t0 h1 g1 t1 lv:aa}(hr:ai σ rb=.box (vu b s h0 g0 t0 h1 g1 t1 sd tg lv fu er))
 (o1:OW (¬p ·) σ h0 s.s0.hand)(o2:OW (¬p ·) σ g0 s.s0.an)(o3:OW (¬p ·) σ t0 s.s0.told)(o4:OW (¬p ·) σ h1 s.s1.hand)(o5:OW (¬p ·) σ g1 s.s1.an)(o6:OW (¬p ·) σ t1 s.s1.told)(ol:LO p l lv σ)(e:Ev)(hlen:l.length<200000000)
 {K:List Nat×List Nat→List Nat×List Nat→List Nat×List Nat→List ab→Prop}(hK:∀σ' y w,rb≠y→pI p σ' rb b s sd tg fu er (l++[e])→Kq [rb] 7 σ σ'→K ([],[y]) ([y],w) ([],[rb]) σ') :
  VV.dr (Xq 7 1 ca [(0,7)] [.agg (ck e)] σ) σ λy l1 σ=>VV.dr (Qf 7 72 [lv,y] σ) σ λnv l2 σ=>VV.pu (Ql [.ak rb 0] σ) λt=>VV.pu (Zc 27 [t] σ) λu=>VV.dr (Zj 1 [u,nv] σ) σ λ_ l3 σ=>K l1 l2 l3 σ:=by
 refine Xf (v:=.sl σ.length 0 1 true) (rd:=[]) (up:=[(σ.length,.rows 7 [ck e])]) rfl (Ye σ _) ?_;have A:=λq v n h=>OW.app (q:=q) (σ:=σ) (v:=v) (l:=n) h [.rows 7 [ck e]];have r1:=Qb [ab.rows 7 [ck e]] hr;have tB:=Zb hr;obtain⟨nv,up,τ',q1,q2,qc,r2,_,q4,q5⟩:=Rm r1 (A _ _ _ o1) (A _ _ _ o2) (A _ _ _ o3) (A _ _ _ o4) (A _ _ _ o5) (A _ _ _ o6) (ol.mono λc n rs e=>ZE _ e) (X2 (ex2:=true) (Yc σ (.rows 7 [ck e])) rfl) (m:=[e]) ⟨rfl,λi row x q1 q2=>by
  cases i with
  |zero=>simp at q1 q2;subst q1 q2;exact⟨_,rfl,.inl rfl⟩
  | succ i=>simp at q1⟩ (by simp;omega)
 refine Xf q1 q2 (Zi rfl (Zi rfl (Xf (c8 r2 qc rfl rfl) (Ze _ (Zb r2)) ?_)));exact hK _ σ.length _ (by omega) q4 ((Kq.app [rb] 7 σ _).trans q5)
theorem dg.new{σ υ:List ab}{zb:Nat}(h:dg σ τ [])(q:dg τ υ [zb])(hz:σ.length<=zb):dg σ υ []:=⟨zAX h.1 q.1,λc hc hn=>by rw[q.2 c (zAK hc h.1) (by simp;omega),h.2 c hc hn]⟩
theorem YN{σ:List ab}{z:List aa}{K:KT}(hK:∀τ,ai τ σ.length=.box z→dg σ τ []→τ.length=σ.length+1→K (.ak σ.length 0) τ):VV.wr (Zs z [] σ) σ K:=
 Yd (v:=.ak σ.length 0) (rd:=[]) (up:=[(σ.length,.box z)]) rfl (Ye σ _) (hK _ (Yc σ _) (dg.app σ _) (by simp))
theorem OM{σ:List ab}{z:List aa}{K:aa→List Nat×List Nat→List ab→Prop}(hK:∀τ,ai τ σ.length=.box z→dg σ τ []→τ.length=σ.length+1→K (.ak σ.length 0) ([],[σ.length]) τ):VV.dr (Zs z [] σ) σ K:=
 Xf (v:=.ak σ.length 0) (rd:=[]) (up:=[(σ.length,.box z)]) rfl (Ye σ _) (hK _ (Yc σ _) (dg.app σ _) (by simp))
theorem zg{σ:List ab}{zb j n:Nat}{x:aa}{cs row row':List aa}{K:aa→List Nat×List Nat→List ab→Prop}(hb:ai σ zb=.box row)(hc:cellsOf x=some cs)(hn:IT cs.length n=true)(hs:bX j cs row=some row')
 (hK:∀τ,ai τ zb=.box row'→dg σ τ [zb]→K .aQ ([],[zb]) τ):VV.dr (Zj n [.ak zb j,x] σ) σ K:=
 Xf (c8 hb hc hn hs) (Ze _ (Zb hb)) (hK _ (Zd _ (Zb hb)) (dg.set σ zb _))
end Go.Ah.Tz
end
section
namespace Go.Ah.Tz
open Go.Proofs.Tryz (prog)
set_option maxRecDepth 100000
theorem LO.nS{p:Nat→Prop}{σ τ:List ab}{l:List Ev}{lv:aa}(h:LO p l lv σ)(a:dg σ τ []):LO p l lv τ:=h.mono λc n rs e=>a.get e
attribute [local irreducible] aE.rd aE.pu aE.wr aE.dr aE.gr aE.gw aE.gl aE.gd aE.opt cP W
set_option maxHeartbeats 8000000
variable{K:KT}
section
variable {p:Nat→Prop} {σ:List ab} {rb:Nat} {b:Bk} {s:St} {sd tg fu:Int} {l:List Ev} {lv:aa} (hp:∀c,p c→c<σ.length) (hr:ai σ rb=.box (L' b s sd tg lv fu 0)) (ol:LO p l lv σ) (hn:l.length<100000000) (h01:sd=0∨sd=1)
 (hs:aY 1000000 s) (hm:aL (bu b).1 b s true=true) (h67:PC 42 [cE b] (.agg [iv (bu b).1,iv (bu b).2]))
include hp hr ol hn h01 hs hm h67
theorem ZeB(x:Ef)(n:Int)(im:x.op=0∨x.op=1)(hK:∀σ',tZ σ σ' rb b sd tg fu l (f_ b s sd tg x.op x.who n)→K (.bp []) σ'):g146.u VV [.ak rb 0,.agg (bq x),iv n] σ K:=by
 obtain⟨op,who,nn,name,c,bQ,bV⟩:=x;have hw:=Tj (s:=s) (tg:=tg) (who:=who) h01;have h484:=u484 s (hs.mono (by decide)) sd tg who h01;have a0:=dg.ke σ (.box (bq (.mk op who nn name c bQ bV)));have n1:=Yc σ (.box (bq (.mk op who nn name c bQ bV)));rw[H3.e];unfold g146;dsimp only;refine Yd (QN _ _) (Ye σ _) ?_;rw[Qr]at *;dsimp only[Ef.op,Ef.who,Ef.name]at *;generalize σ++[_]=τ at *;have r0:=a0.get hr;have Ck:=ol.nS a0;have tB:=Zb hr;have sz:=a0.1;have same:tZ σ τ rb b sd tg fu l (0,s,[]):=⟨⟨p,λc e=>zAK (hp c e) sz,_,_,_,_,_,_,lv,r0,.inl rfl,.inl rfl,.inl rfl,.inl rfl,.inl rfl,.inl rfl,by simpa using Ck⟩,Kq.iq a0 _ _⟩;unfold f_ at hK;refine av (a_ h484 g184.ok ?_);generalize df s sd tg who=wr at *;obtain⟨id,k,ok⟩:=wr;dsimp only at *;refine av ?_;cases ok with
 |false=>
  refine Qc rfl (Qc rfl ?_);exact av (hK _ same)
 |true=>
 obtain⟨hk,g_⟩:=hw rfl;refine Qa (Za rfl (Qa (Za rfl ?_)));refine av (Ya (λq=>?_) (λq=>?_))
 ·have q:n<0:=by simpa using q
  rw[aB (by omega)]at hK;exact hK _ same
 have q:0<=n:=by simpa using q
 rw[aI ⟨rfl,q⟩]at hK;refine YN λτ1 z1 a1 e1=>?_;refine YN λτ2 z2 a2 e2=>?_;have a12:=a1.trans a2;have n3:=a12.get n1;have zs:=a2.get z1;have r2:=a12.get r0;clear n1 z1;obtain⟨r,xu⟩:∃r,r=o9 op b s id k n:=⟨_,rfl⟩;rw[←xu]at hK;rcases im with rfl|rfl
 rotate_left;have c485:PC 186 [cE b,bZ s,iv id,iv k,iv n] (eE r):=by rw[xu];exact u485 b s hs hm h67 id k n hk
 rotate_left;have c485:PC 185 [cE b,bZ s,iv id,iv k,iv n] (eE r):=by rw[xu];exact u197 b s hs hm h67 id k n hk
 all_goals
  obtain⟨S,ev,er⟩:=r;dsimp only at hK c485;refine av (Qo c485 rfl (by first|exact g186.ok.plain|exact g185.ok.plain) rfl ?_);refine av (zg zs rfl rfl rfl λτ3 zs3 a3=>?_);have ze3:=a3.get z2 (by simp) (by simp;omega);refine zg ze3 rfl rfl rfl λτ4 ze4 a4=>?_;have zs4:=a4.get zs3 (by simp) (by simp;omega);refine Qv (by rfl) ?_;have a04:=a0.trans ((a12.new a3 (by omega)).new a4 (by omega));have r4:=a04.get hr;have LY:=ol.nS a04;have sz4:=a04.1;clear r0 r2 zs zs3 z2 ze3 n3 Ck;refine av (Ya (λq2=>?_) (λq2=>?_))
  ·have q2:er≠0:=by simpa using q2
   rw[aB q2]at hK;refine av (Zq r4 rfl rfl rfl λτ5 r5 k5 o0=>?_);exact hK _ ⟨⟨p,λc e=>zAK (hp c e) (zAX sz4 k5.1),_,_,_,_,_,_,lv,r5,.inl rfl,.inl rfl,.inl rfl,.inl rfl,.inl rfl,.inl rfl,by simpa using LY.mono o0⟩,(Kq.iq a04 _ _).trans k5⟩
  ·have q2:er=0:=by simpa using q2
   subst q2;rw[aI rfl]at hK;refine av (Zq r4 rfl rfl rfl λτ5 r5 k5 o0=>?_);have ze5:=k5.box ze4;refine av (YdG (s:=S) r5 (.inl rfl) (.inl rfl) (.inl rfl) (.inl rfl) (.inl rfl) (.inl rfl) (LY.mono o0) ev (by omega) λσ' y w hy q1 q2=>?_);exact Qv (by simp[Qi,Xm,Xn,Yv,cf,dS,zAB,zAd,jW,hy,hy.symm]) (hK _ ⟨⟨p,λc e=>zAK (hp c e) (zAX sz4 (k5.trans q2).1),q1⟩,(Kq.iq a04 _ _).trans (k5.trans q2)⟩)
end
theorem NY{b:Bk}{s:St}(h:du b s):aY 1000000 s:=by
 obtain⟨hd,h0,h1,_,ha⟩:=h;have side:∀x:Sd,gm b x→lz 1000000 x:=by
  intro x k;have k1:=(Yh.1 k.az).1;have k2:=(Yh.1 k.hand).1;have k3:=(Yh.1 k.an).1;have k4:=(Yh.1 k.told).1;have k5:=k.af;exact⟨by omega,by omega,by omega,by omega,by omega⟩
 refine⟨?_,side _ h0,side _ h1⟩;by_cases hp:s.phase=1
 ·have:=(ha.2 hp).2.1;omega
 ·rw[ha.1 hp];simp
def LL(B:Nat)(l:List Ev)(lv:aa)(σ:List ab):Prop:=(l=[]∧lv=.al)∨∃c,lv=.sl c 0 l.length false∧B<=c∧ai σ c=.rows 7 (l.map ck)
theorem LL.nS{B:Nat}{l:List Ev}{lv:aa}{σ τ:List ab}{zb:Nat}{row:List aa}(h:LL B l lv σ)(a:dg σ τ [zb])(hz:ai σ zb=.box row):LL B l lv τ:=by
 rcases h with h|⟨c,h1,h2,h3⟩
 ·exact .inl h
 ·exact .inr ⟨c,h1,h2,a.get h3 (by simp) (by simp;rintro rfl;rw[hz]at h3;cases h3)⟩
theorem LL.TI{B:Nat}{l:List Ev}{lv:aa}{σ τ:List ab}(h:LL B l lv σ)(a:dg σ τ []):LL B l lv τ:=by
 rcases h with h|⟨c,h1,h2,h3⟩
 ·exact .inl h
 ·exact .inr ⟨c,h1,h2,a.get h3⟩
theorem LL.rows{B:Nat}{l:List Ev}{lv:aa}{σ τ:List ab}(h:LL B l lv σ)(hk:∀c n rs,ai σ c=.rows n rs→ai τ c=.rows n rs):LL B l lv τ:=by
 rcases h with h|⟨c,h1,h2,h3⟩
 ·exact .inl h
 ·exact .inr ⟨c,h1,h2,hk _ _ _ h3⟩
theorem Ybl:∀l:List Ev,aV (l.map ck)=true:=λl=>QK λr hr=>by obtain⟨e,_,rfl⟩:=zAh.1 hr;rfl
theorem LL.src{B:Nat}{p:Nat→Prop}{l:List Ev}{lv:aa}{σ:List ab}(h:LL B l lv σ):∃ys rd,Zk 7 σ lv=some (ys,rd)∧ER p σ ys l:=by
 rcases h with ⟨rfl,rfl⟩|⟨c,rfl,_,h3⟩
 ·exact⟨[],[],rfl,rfl,λi row e q=>by simp at q⟩
 ·refine⟨_,_,X2 h3 (by simp),by simp,λi row e q1 q2=>?_⟩;rw[zAT,q2]at q1;cases q1;exact⟨_,rfl,.inl rfl⟩
theorem Ml{B:Nat}{σ:List ab}{l:List Ev}{lv:aa}(h:LL B l lv σ)(hB:B<=σ.length)(e:Ev)(hlen:l.length<100000000)
 (hK:∀nv τ,LL B (l++[e]) nv τ→(∀c,c<B→ai τ c=ai σ c)→σ.length<=τ.length→K nv τ) :
  VV.wr (Xq 7 1 ca [(0,7)] [.agg (ck e)] σ) σ λy σ=>VV.wr (Qf 7 72 [lv,y] σ) σ K:=by
 refine Yd (v:=.sl σ.length 0 1 true) (rd:=[]) (up:=[(σ.length,.rows 7 [ck e])]) rfl (Ye σ _) ?_;rcases h with ⟨rfl,rfl⟩|⟨c,rfl,h2,h3⟩
 ·refine Yd (W0 7 72 (Yc σ _) rfl rfl (by omega)) (Ye _ _) ?_;exact hK _ _ (.inr ⟨_,rfl,by simp<;>omega,Yc _ _⟩) (λc hc=>by rw[Yf _ (by simp<;>omega),Yf _ (by omega)]) (by simp<;>omega)
 ·have kR:=Zb h3;have uZ:=Qb [ab.rows 7 [ck e]] h3;refine Yd (Ha 7 72 (rs2:=[ck e]) uZ (Yc σ _) (by simp) rfl rfl (by omega)) (QC _ _ (by simp<;>omega)) ?_;refine hK _ _ (.inr ⟨(σ++[ab.rows 7 [ck e]]).length,by simp,by simp<;>omega,?_⟩) (λk hk=>by rw[Yf _ (by simp<;>omega),Xb _ (by simp<;>omega) (by omega),Yf _ (by omega)]) (by simp<;>omega);have:=QT (σ:=σ++[ab.rows 7 [ck e]]) c (.rows 7 (l.map ck++[ck e]));simpa using this
section
variable {p:Nat→Prop} {σ:List ab} {rb:Nat} {b:Bk} {s:St} {sd tg fu:Int} {l:List Ev} {lv:aa} (hp:∀c,p c→c<σ.length) (hr:ai σ rb=.box (L' b s sd tg lv fu 0)) (ol:LO p l lv σ) (hn:l.length<100000000)
 (cI:(bu b).1=0) (h67:PC 42 [cE b] (.agg [iv (bu b).1,iv (bu b).2])) {N C:Nat} (bR:cL b N C s) (hC:C<1000000)
include hp hr ol hn cI h67 bR hC
theorem Zev(hN:N+60<=1000000){k:Int}(hk:k=0∨k=1)(n:Int)(hK:∀σ',tZ σ σ' rb b sd tg fu l (ji s k n)→K (.bp []) σ'):g147.u VV [.ak rb 0,iv k,iv n] σ K:=by
 rw[H3.e];unfold g147;dsimp only;have tB:=Zb hr;refine av (YN λτ1 z1 a1 e1=>?_);have r1:=a1.get hr;refine Yd (c8 z1 rfl rfl rfl) (Ze _ (Zb z1)) ?_;have z2:ai (τ1.set σ.length (.box (aF s))) σ.length=.box (aF s):=Zd _ (by omega);have a2:=a1.new (dg.set τ1 σ.length (.box (aF s))) (No _);have e2:(τ1.set σ.length (.box (aF s))).length=σ.length+1:=by simp;omega
 generalize τ1.set σ.length _=τ2 at *;unfold ji at hK;obtain⟨M,hM⟩:∃ M,M=(min (max n 0) 60).toNat:=⟨_,rfl⟩;rw[← hM]at hK;refine Xg (ι:=Nat) (λi vs τ=>∃ S cJ l',vs=[iv i,cJ]∧i<=M∧ai τ σ.length=.box (aF S)∧dg σ τ []∧σ.length + 1<=τ.length∧LL (σ.length + 1) l' cJ τ∧l'.length=i∧cL b (N + i) C S ∧
  (Xr k M s).1=(Xr k (M - i) S).1∧((Xr k M s).1=0→Xr k M s=(0,(Xr k (M - i) S).2.1,l' ++ (Xr k (M - i) S).2.2))) (λi=>M - i) 0 ⟨s,.al,[],rfl,by omega,z2,a2,by omega,.inl ⟨rfl,rfl⟩,rfl,bR,rfl,λe=>by rw[← e];rfl⟩ ?_
 rintro i _ τ again ⟨S,cJ,l',rfl,hi,hz,ha,mm,KV,hli,hS,yK,Du⟩ bj;have hr3:=ha.get hr;refine av ?_;have lL:=Xo.2 ⟨cI,hS.may⟩;have h218:=u218 b S (NY hS.may) lL h67 k hk;by_cases dc:i<M
 ·rw[show decide ((i:Int)<n)=true from eX (by omega)];refine Qa (Za rfl (Qa (Za rfl ?_)));refine av ?_;refine Ya (λq=>?_) (λq=>absurd q (by simp;omega));refine av ?_;refine i_ h218 g37.ok ?_;have hd:Xr k (M-i) S=if (aH S k).2.2=0 then ((Xr k (M-(i+1)) (aH S k).1).1,(Xr k (M-(i+1)) (aH S k).1).2.1,(aH S k).2.1::(Xr k (M-(i+1)) (aH S k).1).2.2)else ((aH S k).2.2,S,[]):=by
   rw[show M-i=(M-(i+1))+1 by omega];rfl
  have Ph:(aH S k).2.2=0→cL b (N+(i+1)) C (aH S k).1:=λe=>by have:=hS.draw (by omega) hC hk e;rw[Nat.add_assoc]at this;exact this
  rw[hd]at yK Du;generalize aH S k=r at *;obtain⟨S',ev,er⟩:=r;dsimp only at *;refine av (OM λτa za b1 c1=>?_);refine OM λτb zb b2 c2=>?_;have PJ:=b2.get za;have mJ:=(b1.trans b2).get hz;refine zg PJ rfl rfl rfl λτc zc b3=>?_;have PK:=b3.get zb (by simp) (by simp;omega);have yR:=b3.get mJ (by simp) (by simp;omega);refine zg PK rfl rfl rfl λτd zd b4=>?_;have zc4:=b4.get zc (by simp) (by simp;omega);have VE:=b4.get yR (by simp) (by simp;omega);have n1:τ.length≠rb:=by omega
  have n2:τa.length≠rb:=by omega
  have n3:τ.length≠σ.length:=by omega
  have n4:τa.length≠σ.length:=by omega
  have n5:τa.length≠τ.length:=by omega
  refine Qv (by simp[Qi,Xm,Xn,Yv,cf,dS,zAB,zAd,jW,n1,n2,n3,n4,n5,n1.symm,n2.symm,n3.symm,n4.symm,n5.symm]) ?_;have U2:=((KV.TI (b1.trans b2)).nS b3 PJ).nS b4 PK;have Ki:=((ha.trans (b1.trans b2)).new b3 (by omega)).new b4 (by omega);have l4:=b4.1;have l34:=b3.1;have hr4:=Ki.get hr;refine av (Ya (λq2=>?_) (λq2=>?_))
  ·have q2:er≠0:=by simpa using q2
   rw[aB q2]at yK;rw[aB (by rw[yK];exact q2),yK]at hK;refine av (Zq hr4 rfl rfl rfl λτ5 r5 k5 o0=>?_);exact hK _ ⟨⟨p,λc e=>zAK (hp c e) (zAX Ki.1 k5.1),_,_,_,_,_,_,lv,r5,.inl rfl,.inl rfl,.inl rfl,.inl rfl,.inl rfl,.inl rfl,by simpa using (ol.nS Ki).mono o0⟩,(Kq.iq Ki _ _).trans k5⟩
  ·have q2:er=0:=by simpa using q2
   subst q2;rw[aI rfl]at yK Du;refine av (Yd (c8 VE rfl rfl rfl) (Ze _ (Zb VE)) ?_);have VF:ai (τd.set σ.length (.box (aF S'))) σ.length=.box (aF S'):=Zd _ (by omega);have zd5:=Yb (x:=.box (aF S')) zd (by simp) (c:=σ.length) (by omega);have U3:=U2.nS (dg.set τd σ.length (.box (aF S'))) VE;have Uv:=Ki.new (dg.set τd σ.length (.box (aF S'))) (No _);have l5:(τd.set σ.length (.box (aF S'))).length=τd.length:=by simp
   generalize τd.set σ.length _=τ5 at *;refine av ?_;refine Ml U3 (by omega) ev (by omega) λnv τ6 U4 h6 l6=>?_;refine av ?_;rw[Xc (n:=i) (by omega)];refine bj (i+1) _ _ (by omega) ⟨S',nv,l'++[ev],rfl,by omega,by rw[h6 _ (by omega)];exact VF,⟨by omega,λc hc _=>by rw[h6 c (by omega),Uv.2 c hc (by simp)]⟩,by omega,U4,by simp[hli],Ph rfl,yK,λe=>?_⟩;rw[Du e];simp
 ·have hiM:i=M:=by omega
  subst hiM;rw[zCp]at yK Du;have yK:(Xr k i s).1=0:=yK;have Du:Xr k i s=(0,S,l'):=by rw[Du yK];simp[Xr]
  rw[Du,aI rfl]at hK;by_cases q:(i:Int)<n;rotate_left;rw[gB q];refine Qc rfl (Qc rfl ?_);refine av ?_;rotate_left;rw[eX q];refine Qa (Za rfl (Qa (Za rfl ?_)));refine av ?_;refine Ya (λq3=>absurd q3 (by simp;omega)) (λ_=>?_);refine av ?_
  all_goals
   refine Zq hr3 rfl rfl rfl λτ5 r5 k5 o0=>?_;refine av ?_;obtain⟨ys,rd,g1,g2⟩:=(KV.rows o0).src (p:=p);obtain⟨nv,up,τ',q1,q2,qc,r2,_,q4,q5⟩:=Rm (s:=S) r5 (.inl rfl) (.inl rfl) (.inl rfl) (.inl rfl) (.inl rfl) (.inl rfl) ((ol.nS ha).mono o0) g1 g2 (by omega);refine Yd q1 q2 (Za rfl (Za rfl (Yd (c8 r2 qc rfl rfl) (Ze _ (Zb r2)) ?_)));exact hK _ ⟨⟨p,λc e=>zAK (hp c e) (zAX ha.1 (k5.trans q5).1),q4⟩,(Kq.iq ha _ _).trans (k5.trans q5)⟩
theorem Zd2(h01:sd=0∨sd=1)(jq:b.aj.length<=gy)(x:Ef)(n:Int)(im:x.op=7)(hK:∀σ',tZ σ σ' rb b sd tg fu l (YY b s sd x.name)→K (.bp []) σ'):g97.u VV [.ak rb 0,.agg (bq x),iv n] σ K:=by
 obtain⟨op,who,nn,name,c,bQ,bV⟩:=x;cases (show op=7 from im);have a0:=dg.ke σ (.box (bq (.mk 7 who nn name c bQ bV)));have n1:=Yc σ (.box (bq (.mk 7 who nn name c bQ bV)));rw[H3.e];unfold g97;dsimp only;refine Yd (QN _ _) (Ye σ _) ?_;rw[Qr]at *;dsimp only[Ef.op,Ef.who,Ef.name]at *;generalize σ++[_]=τ at *;have r0:=a0.get hr;have Ck:=ol.nS a0;have tB:=Zb hr;have sz:=a0.1;have h0:pI p τ rb b s sd tg fu 0 l:=⟨_,_,_,_,_,_,lv,r0,.inl rfl,.inl rfl,.inl rfl,.inl rfl,.inl rfl,.inl rfl,Ck⟩;refine av (Xd hP (f:=145) rfl g145.ok rfl (w417 h0 h01 who ?_));refine av (a_ (c195 b jq name) g149.ok ?_);unfold YY at hK;generalize (gf 0 b.aj name).1=cd at *;obtain⟨st,ev,q,he,hq⟩:=Xb7 b s sd cd;have u:=u330 b s (NY bR.may) (Xo.2 ⟨cI,bR.may⟩) h67 sd cd h01;rw[he]at u;refine av (i_ u g150.ok ?_);refine av (OM λτa za b1 c1=>?_);refine OM λτb zb b2 c2=>?_;have PJ:=b2.get za;refine zg PJ rfl rfl rfl λτc zc b3=>?_;have PK:=b3.get zb (by simp) (by simp;omega);refine zg PK rfl rfl rfl λτd zd b4=>?_;have zc4:=b4.get zc (by simp) (by simp;omega);have m1:τ.length≠rb:=by omega
 have m2:τa.length≠rb:=by omega
 have m5:τa.length≠τ.length:=by omega
 refine Qv (by simp[Qi,Xm,Xn,Yv,cf,dS,zAB,zAd,jW,m1,m2,m5,m1.symm,m2.symm,m5.symm]) ?_;have a4:=((a0.trans (b1.trans b2)).new b3 (by omega)).new b4 (by omega);have r4:=a4.get hr;have LY:=ol.nS a4;rcases hq with ⟨rfl,hq⟩|⟨rfl,hq,rfl,rfl⟩
 ·rw[aI hq]at hK;exact av (hK _ ⟨⟨p,λc e=>zAK (hp c e) a4.1,_,_,_,_,_,_,lv,r4,.inl rfl,.inl rfl,.inl rfl,.inl rfl,.inl rfl,.inl rfl,by simpa using LY⟩,Kq.iq a4 _ _⟩)
 ·rw[aB (by simp[hq])]at hK;refine av (Zq r4 rfl rfl rfl λτ5 r5 k5 o0=>?_);have ze5:=k5.box zd;refine av (YdG (s:=XB s sd cd) r5 (.inl rfl) (.inl rfl) (.inl rfl) (.inl rfl) (.inl rfl) (.inl rfl) (LY.mono o0) ⟨2,sd,cd,s.next,0,0,[]⟩ (by omega) λσ' y w hy q1 q2=>?_);exact Qv (by simp[Qi,Xm,Xn,Yv,cf,dS,zAB,zAd,jW,hy,hy.symm]) (hK _ ⟨⟨p,λc e=>zAK (hp c e) (zAX a4.1 (k5.trans q2).1),q1⟩,(Kq.iq a4 _ _).trans (k5.trans q2)⟩)
end
theorem tZ.pre{σ τ υ:List ab}{rb:Nat}{b:Bk}{sd tg fu:Int}{l:List Ev}{r:Int×St×List Ev}(k:Kq [rb] 7 σ τ)(h:tZ τ υ rb b sd tg fu l r):tZ σ υ rb b sd tg fu l r:=⟨h.1,k.trans h.2⟩
theorem Nx{σ:List ab}{c:Nat}{x:Ef}(h:ai σ c=.box (bq x)):Qe true 14 [.ak c 0] σ=.ok (.agg (bq x)) [c] []:=ld h (by rw[Qr];rfl)
section
variable {p:Nat→Prop} {σ:List ab} {rb:Nat} {b:Bk} {s:St} {sd tg fu:Int} {l:List Ev} {lv:aa} (hp:∀c,p c→c<σ.length) (hr:ai σ rb=.box (L' b s sd tg lv fu 0)) (ol:LO p l lv σ) (hn:l.length<100000000)
 (cI:(bu b).1=0) (h67:PC 42 [cE b] (.agg [iv (bu b).1,iv (bu b).2])) {N C:Nat} (bR:cL b N C s) (hC:C<1000000) (hN:N+60<=1000000) (h01:sd=0∨sd=1) (jq:b.aj.length<=gy)
include hp hr ol hn cI h67 bR hC hN h01 jq
theorem XeE(x:Ef)(n:Int)(im:0<=x.op∧x.op<=7)(hb:-1000000<=n∧n<=1000000)(hK:∀σ',tZ σ σ' rb b sd tg fu l (jd b s sd tg x.op x.who x.name n)→K (.bp []) σ'):g97.u VV [.ak rb 0,.agg (bq x),iv n] σ K:=by
 have hR:RR σ rb b s sd tg fu 0 l:=⟨p,hp,_,_,_,_,_,_,lv,hr,.inl rfl,.inl rfl,.inl rfl,.inl rfl,.inl rfl,.inl rfl,ol⟩;have hle:=bR.le;have d0:=hle.s0;have d1:=hle.s1;have hT:TB 100000000 s:=⟨by have:=d0.told;omega,by have:=d1.told;omega⟩;have xj:0<=(s.side sd).aU∧(s.side sd).aU<=1000000:=by
  rcases h01 with rfl|rfl
  ·have:=bR.may.s0.aU;exact⟨this.1,(YV.1 this.2).2⟩
  ·have:=bR.may.s1.aU;exact⟨this.1,(YV.1 this.2).2⟩
 have Kt:(s.side sd).az.length<=100000000:=by
  rcases h01 with rfl|rfl
  ·show s.s0.az.length<=_;have:=d0.az;omega
  ·show s.s1.az.length<=_;have:=d1.az;omega
 have hw:=GU h01 x.who;have ops:x.op=3∨x.op=4∨x.op=5∨x.op=6∨x.op=7∨(x.op=0∨x.op=1)∨x.op=2:=by omega
 unfold jd at hK;rcases ops with e|e|e|e|e|e|e
 ·exact YeA hR hn h01 x n e hb xj λσ' h=>hK σ' (by rw[e];exact h)
 ·exact Xev hR hn h01 x n e hT ⟨by have:=d0.hand;omega,by have:=d0.an;omega⟩ ⟨by have:=d1.hand;omega,by have:=d1.an;omega⟩ λσ' h=>hK σ' (by rw[e];exact h)
 ·exact YeC hR hn h01 x n e hT Kt λσ' h=>hK σ' (by rw[e];exact h)
 ·exact QeF hR hn h01 x n e hT (by have:=d0.hand;omega) (by have:=d1.hand;omega) λσ' h=>hK σ' (by rw[e];exact h)
 ·exact Zd2 hp hr ol hn cI h67 bR hC h01 jq x n e λσ' h=>hK σ' (by rw[e];exact h)
 all_goals
  obtain⟨op,who,nn,name,c,bQ,bV⟩:=x;have a0:=dg.ke σ (.box (bq (.mk op who nn name c bQ bV)));have n1:=Yc σ (.box (bq (.mk op who nn name c bQ bV)));rw[H3.e];unfold g97;dsimp only;refine Yd (QN _ _) (Ye σ _) ?_;generalize σ++[_]=τ at *;have n2:=n1;rw[Qr]at n2;dsimp only[Ef.op,Ef.who,Ef.name]at *;have r0:=a0.get hr;have Ck:=ol.nS a0;have sz:=a0.1;have h0:pI p τ rb b s sd tg fu 0 l:=⟨_,_,_,_,_,_,lv,r0,.inl rfl,.inl rfl,.inl rfl,.inl rfl,.inl rfl,.inl rfl,Ck⟩;have hp0:∀c,p c→c<τ.length:=λc e=>zAK (hp c e) sz;refine av (Xd hP (f:=145) rfl g145.ok rfl (w417 h0 h01 who ?_));refine av ?_
 ·clear n2;have lD:∀σ',tZ σ σ' rb b sd tg fu l (f_ b s sd tg op who n)→K (.bp []) σ':=λσ' h=>hK σ' (by rcases e with rfl|rfl<;>exact h);have k0:=Kq.iq a0 [rb] 7;have hh:=ZeB hp0 r0 Ck hn h01 (NY bR.may) (Xo.2 ⟨cI,bR.may⟩) h67 (.mk op who nn name c bQ bV) n e (K:=K) λσ' h=>lD σ' (h.pre k0);rcases e with rfl|rfl
  ·refine Xh (Xh (Za (Nx n1) ?_));exact Xd hP (f:=146) rfl g146.ok rfl hh
  ·refine Xe (Za rfl (Xh (Za (Nx n1) ?_)));exact Xd hP (f:=146) rfl g146.ok rfl hh
 ·subst e;have k0:=Kq.iq a0 [rb] 7;refine av ?_;exact Xd hP (f:=147) rfl g147.ok rfl (Zev hp0 r0 Ck hn cI h67 bR hC hN hw n λσ' h=>hK σ' (h.pre k0))
end
theorem Xdj{b:Bk}{d:Int}{x:Ef}(h:mQ b.aj true d x=true)(h8:x.op=8)(hw:(qQ x.c).length<=200):uU b x.c=true∧oz x.c<=200∧fH b.aj true x.c=true:=by
 rw[yz,aI h8]at h;simp only[AI]at h;obtain⟨_,_,_,_,_,hc,_⟩:=h;refine⟨?_,by rw[SV];omega,hc⟩;have e1:pr (zm x.c)<=201:=by
  rw[IB];have:(pM (zm x.c)).length=(qQ x.c).length+1:=by simp[pM,zm,vn,bz,iG,cw]
  omega
 have e2:mQ b.aj true 1 (vn x.c)=true:=by
  generalize x.c=y at hc;rw[yz];simp[vn,Ef.op,Ef.who,Ef.n,Ef.name,Ef.c,Ef.bQ,Ef.bV,hc,bE,bY,D3,ez,Nm.op,Nm.n,Nm.who,Nm.kids]
 simp only[uU,bE,bY,e2,AI,zAg,s9,fD];exact⟨by omega,by simp,by omega,by simp⟩
def PL(σ σ':List ab)(rb:Nat)(b:Bk)(sd tg:Int)(l:List Ev)(r:Int×St×Int×List Ev):Prop:=RR σ' rb b r.2.1 sd tg r.2.2.1 r.1 (l++r.2.2.2)∧Kb rb σ σ'
def yX(b:Bk)(sd tg:Int)(l:List Ef):Prop:=∀(σ:List ab) (rb:Nat) (s:St) (fu:Int) (cS:List Ev) (N C:Nat) (d:Int) (K:KT),
 RR σ rb b s sd tg fu 0 cS→bF l=true→bY b.aj true d l=true→(bz l).length<=200→cL b N C s→N+60*(bz l).length<=1000000→C+(bz l).length<=1000000 →
 cS.length+60*(bz l).length<=1000000→0<=fu→fu<=1000→(∀σ',PL σ σ' rb b sd tg cS (runs b sd tg l s fu)→K (.bp []) σ')→g62.u VV [.ak rb 0,gZ l] σ K
theorem QcA(b:Bk)(sd tg:Int)(h01:sd=0∨sd=1)(jq:b.aj.length<=gy)(cI:(bu b).1=0)(h67:PC 42 [cE b] (.agg [iv (bu b).1,iv (bu b).2]))(m:Nat)(IH:∀l:List Ef,(bz l).length<m→yX b sd tg l):∀l:List Ef,(bz l).length<=m→yX b sd tg l:=by
 intro l hlm σ rb s fu cS N C d K hR dE bR hW hS hN hC hE wR vb hK;have hlen:=ZC dE;rw[c9]at hlen;rw[H2.e];unfold g62;dsimp only;refine Xg (ι:=Nat) (λi vs τ=>∃ t fi er fm Ni Ci,vs=[iv i]∧i<=l.length∧RR τ rb b t sd tg fi er (cS ++ fm)∧Kb rb σ τ ∧
   ((er≠0∧runs b sd tg l s fu=(er,t,fi,fm))∨(er=0∧runs b sd tg l s fu=((runs b sd tg (l.drop i) t fi).1,(runs b sd tg (l.drop i) t fi).2.1,(runs b sd tg (l.drop i) t fi).2.2.1,fm ++ (runs b sd tg (l.drop i) t fi).2.2.2) ∧
   0<=fi∧fi<=1000∧cL b Ni Ci t∧Ni + 60 * (bz (l.drop i)).length<=1000000∧Ci + (bz (l.drop i)).length<=1000000∧(cS ++ fm).length + 60 * (bz (l.drop i)).length<=1000000∧(bz (l.drop i)).length<=(bz l).length)))
  (λi=>l.length-i) 0 ⟨s,fu,0,[],N,C,rfl,by omega,by simpa using hR,Kb.refl _ _,.inr ⟨rfl,rfl,wR,vb,hS,hN,hC,by simpa using hE,No _⟩⟩ ?_
 rintro i _ τ again ⟨t,fi,er,fm,Ni,Ci,rfl,hi,⟨p,hp,Hq⟩,KL,jG⟩ bj;obtain⟨h0,g0,t0,h1,g1,t1,lv,hr,o1,o2,o3,o4,o5,o6,ol⟩:=id Hq;refine av ?_;rw[zAM];by_cases h:i<l.length;rotate_left
 ·rw[gB (by omega)];refine Qc rfl (Qc rfl (Qc rfl (Qc rfl (Qc rfl ?_))));refine av ?_;have h:i=l.length:=by omega
  subst h;rcases jG with ⟨_,bg⟩|⟨Hu,bg,_⟩
  ·exact hK _ ⟨by rw[bg];exact⟨p,hp,Hq⟩,KL⟩
  ·have e0:runs b sd tg (l.drop l.length) t fi=(0,t,fi,[]):=by rw[zAD,runs]
   rw[e0]at bg;subst Hu;exact hK _ ⟨by rw[bg];exact⟨p,hp,by simpa using Hq⟩,KL⟩
 rw[eX (by omega)];refine Qa (Za rfl (Qa (Za rfl (Qa (Za rfl (Qa (Za (v:=iv er) (ld hr rfl) (Qa (Za rfl ?_)))))))));refine av ?_;rcases jG with ⟨cU,bg⟩|⟨Hu,bg,vc,z7,ht,Ke,Kc,Dd,Df⟩
 ·refine Ya (λq=>absurd q (by simpa using cU)) (λ_=>?_);exact hK _ ⟨by rw[bg];exact⟨p,hp,Hq⟩,KL⟩
 refine Ya (λ_=>?_) (λq=>absurd Hu (by simpa using q));subst Hu;have wP:l.drop i=l[i]::l.drop (i+1):=gK h;have il:=AT h;have Ao:=YP dE il;have uH:=RL bR _ il;have cB:=λ(σ:List ab)=>Ym σ bq false false 14 l .i64 i h;rw[wP]at bg Ke Kc Dd Df;generalize l[i]=x at *;have DR:(bz (x::l.drop (i+1))).length=(iG x).length+(bz (l.drop (i+1))).length:=by simp[bz]
 rw[DR]at Ke Kc Dd Df;have hx1:1<=(iG x).length:=by cases x;simp[iG]
 have rY:=OR (b:=b) (tg:=tg) h01 x fi ht (by omega) (by omega);have Dx:=SI b sd tg x t fi vc;rw[runs]at bg;refine Qg λk' ek=>?_;have fin:∀τ',RR τ' rb b (ct b sd tg x t fi).2.1 sd tg (ct b sd tg x t fi).2.2.1 (ct b sd tg x t fi).1 ((cS++fm)++(ct b sd tg x t fi).2.2.2)→Kb rb τ τ'→(ct b sd tg x t fi).1≠0→K (.bp []) τ':=by
  intro τ' q1 q2 DK;rw[aB DK]at bg;exact hK _ ⟨by rw[bg];simpa using q1,KL.trans q2⟩
 have cont:∀τ',RR τ' rb b (ct b sd tg x t fi).2.1 sd tg (ct b sd tg x t fi).2.2.1 (ct b sd tg x t fi).1 ((cS++fm)++(ct b sd tg x t fi).2.2.2)→Kb rb τ τ'→k' [] τ':=by
  intro τ' q1 q2;rw[ek];refine Za (Xj ..) ?_;rw[Xc (n:=i) (by omega)];refine bj (i+1) _ _ (by omega) ⟨(ct b sd tg x t fi).2.1,(ct b sd tg x t fi).2.2.1,(ct b sd tg x t fi).1,fm++(ct b sd tg x t fi).2.2.2,Ni+60*(iG x).length,Ci+(iG x).length,rfl,by omega,by simpa using q1,KL.trans q2,?_⟩;by_cases h0:(ct b sd tg x t fi).1=0
  ·rw[aI h0]at bg;refine .inr ⟨h0,by rw[bg];simp,Dx.1,by omega,rY.1,by omega,by omega,?_,by omega⟩;have:=rY.2;simp only[By]at Dd ⊢;omega
  ·rw[aB h0]at bg;exact .inl ⟨h0,by rw[bg]⟩
 clear ek bj hK;refine Za (cB _) (Za (bB (mc _)) (Zv (row:=bq x) (row':=bq x) (by rw[Qr];rfl) (by rw[Qr];rfl) (by rw[Qr];rfl) ?_));have b1:=dg.ke τ (.box (bq x));have x1:=Yc τ (.box (bq x));have tB:=Zb hr;have Kg:=Hq.app (.box (bq x));generalize τ++[ab.box (bq x)]=τ1 at *;have Ps:∀c,p c→c<τ1.length:=λc e=>zAK (hp c e) b1.1;clear hr o1 o2 o3 o4 o5 o6 ol Hq hp;obtain⟨h0,g0,t0,h1,g1,t1,lv,hr,o1,o2,o3,o4,o5,o6,ol⟩:=id Kg;have fJ:(cS++fm).length<100000000:=by omega
 have VN:Kb rb τ τ1:=Kb.kq (Kq.iq b1 _ _);generalize fk:cS++fm=ev at *;refine Za rfl (Za (ld x1 (gY x)) (Za (Zt ..) (Ya (λh8=>?_) (λh8=>?_))))
 ·have h8:x.op=8:=by simpa using h8
  have gH:(qQ x.c).length<=200∧(bz x.bQ).length<(iG x).length∧(bz x.bV).length<(iG x).length:=by
   cases x;simp[Ef.op]at h8;simp[iG,h8,Ef.c,Ef.bQ,Ef.bV]at Df ⊢;omega
  have uB:=Zdp uH h8;obtain⟨vG,kX,hc3⟩:=Xdj uH h8 gH.1;have j9:ct b sd tg x t fi=if dV b t sd tg x.c=true then runs b sd tg x.bQ t fi else runs b sd tg x.bV t fi:=by rw[Nw,aI h8,vG,zAH]
  refine av (Za (ld x1 (oF x)) (Zb2 hr o1 o2 o3 o4 o5 o6 ol (u306 b t ht.qA (Xo.2 ⟨cI,ht.may⟩) h67 sd tg h01 jq x.c (Z8 Ao) hc3 kX) g95.ok.plain rfl (by rw[XF];rfl) λτ2 r2 LU vI=>?_));have x2:=vI.2 _ _ (by omega) x1;have Kh:RR τ2 rb b t sd tg fi 0 ev:=⟨p,λc e=>zAK (Ps c e) vI.1,_,_,_,_,_,_,lv,r2,.inl rfl,.inl rfl,.inl rfl,.inl rfl,.inl rfl,.inl rfl,LU⟩;refine Za rfl (Za rfl ?_);refine Ya (λhq=>?_) (λhq=>?_)
  ·rw[aI hq]at j9;refine Za rfl (Za (v:=gZ x.bQ) (ld x2 (by rw[Qr];rfl)) ?_);refine Xd hP (f:=62) rfl g62.ok rfl (IH x.bQ (by omega) τ2 rb t fi ev Ni Ci (d+1) _ Kh (ZP Ao) uB.1 (by omega) ht (by omega) (by omega) (by omega) vc z7 (λτ' hD=>?_));rw[←j9]at hD;exact cont _ hD.1 (VN.trans (vI.trans hD.2))
  ·rw[aB (by simp[hq])]at j9;refine Za rfl (Za (v:=gZ x.bV) (ld x2 (by rw[Qr];rfl)) ?_);refine Xd hP (f:=62) rfl g62.ok rfl (IH x.bV (by omega) τ2 rb t fi ev Ni Ci (d+1) _ Kh (QO Ao) uB.2 (by omega) ht (by omega) (by omega) (by omega) vc z7 (λτ' hD=>?_));rw[←j9]at hD;exact cont _ hD.1 (VN.trans (vI.trans hD.2))
 ·have h8:x.op≠8:=by simpa using h8
  have j9:ct b sd tg x t fi=if fi < fA x.op then (190,t,fi,[])else ((jd b t sd tg x.op x.who x.name (dT b t sd tg x.n)).1,(jd b t sd tg x.op x.who x.name (dT b t sd tg x.n)).2.1,
   (if (jd b t sd tg x.op x.who x.name (dT b t sd tg x.n)).1=0 then fi - fA x.op else fi),(jd b t sd tg x.op x.who x.name (dT b t sd tg x.n)).2.2):=by rw[Nw,aB h8]
  have rW:=ZcH uH h8 (by omega);have im:0<=x.op∧x.op<=7:=by
   rw[yz]at uH;simp only[AI,fD]at uH;exact⟨uH.1,by have:=uH.2.1;omega⟩
  refine av (Za (ld x1 (rI x)) (Zb2 hr o1 o2 o3 o4 o5 o6 ol (u307 b t ht.qA (Xo.2 ⟨cI,ht.may⟩) h67 sd tg h01 x.n (zn Ao) rW.1 rW.2) g96.ok.plain rfl (by rw[QA];rfl) λτ2 r2 LU vI=>?_));have x2:=vI.2 _ _ (by omega) x1;have mI:∀c,p c→c<τ2.length:=λc e=>zAK (Ps c e) vI.1;have yN:=GD b t sd tg x.n;generalize dT b t sd tg x.n=n at *;have DV:=VN.trans vI;refine Za rfl (Za rfl (Za rfl (Za (ld x2 (gY x)) (Za (Zt ..) (Ya (λh5=>?_) (λh5=>?_))))))
  ·have h5:x.op=5:=by simpa using h5
   have hu:fA x.op=0:=by unfold fA;rw[aI h5]
   rw[hu,aB (by omega)]at j9;have Vw:ct b sd tg x t fi=((jd b t sd tg x.op x.who x.name n).1,(jd b t sd tg x.op x.who x.name n).2.1,fi,(jd b t sd tg x.op x.who x.name n).2.2):=by
    rw[j9];split<;>simp
   refine Za (Nx x2) (Xd hP (f:=97) rfl g97.ok rfl (XeE mI r2 LU fJ cI h67 ht (by omega) (by omega) h01 jq x n im yN λτ' hD=>?_));exact cont _ (by rw[Vw];exact hD.1) (DV.trans (Kb.kq hD.2))
  ·have h5:x.op≠5:=by simpa using h5
   have hu:fA x.op=1:=by unfold fA;rw[aB h5]
   rw[hu]at j9;refine Za rfl (Za rfl (Za (v:=iv fi) (ld r2 rfl) (Za (NJ ..) (Ya (λhq=>?_) (λhq=>?_)))))
   ·have hq:fi<=0:=by simpa using hq
    rw[aI (by omega)]at j9;refine Za rfl (Za rfl ?_);refine Zq r2 rfl rfl rfl λτ3 r3 k3 vJ=>?_;refine fin _ ?_ (DV.trans (Kb.kq k3)) (by rw[j9];show (190:Int)≠0;decide);rw[j9];exact⟨p,λc e=>zAK (mI c e) k3.1,_,_,_,_,_,_,lv,r3,.inl rfl,.inl rfl,.inl rfl,.inl rfl,.inl rfl,.inl rfl,by simpa using LU.mono vJ⟩
   ·have hq:¬fi<=0:=by simpa using hq
    rw[aB (by omega)]at j9;refine Za (Nx x2) (Xd hP (f:=97) rfl g97.ok rfl (XeE mI r2 LU fJ cI h67 ht (by omega) (by omega) h01 jq x n im yN λτ' hD=>?_));obtain⟨⟨p3,hp3,Kh⟩,HF⟩:=hD;generalize jd b t sd tg x.op x.who x.name n=r at *;obtain⟨er,S,ev2⟩:=r;dsimp only at *;have kb3:=DV.trans (Kb.kq HF);obtain⟨h0,g0,t0,h1,g1,t1,lv3,r3,w1,w2,w3,w4,w5,w6,wl⟩:=id Kh;refine Za rfl (Za rfl (Za (v:=iv er) (ld r3 rfl) (Za (Zt ..) (Ya (λhz=>?_) (λhz=>?_)))))
    ·have hz:er=0:=by simpa using hz
     subst hz;rw[aI rfl]at j9;refine Za rfl (Za rfl (Za (v:=iv fi) (ld r3 rfl) (Za (CX ..) ?_)));rw[zAY _ (by omega)];refine Za rfl (Za rfl ?_);refine Zq r3 rfl rfl rfl λτ4 r4 k4 yT=>?_;refine cont _ ?_ (kb3.trans (Kb.kq k4));rw[j9];exact⟨p3,λc e=>zAK (hp3 c e) k4.1,h0,g0,t0,h1,g1,t1,lv3,r4,w1.mono λc=>yT c 1,w2.mono λc=>yT c 1,w3.mono λc=>yT c 1,w4.mono λc=>yT c 1,w5.mono λc=>yT c 1,w6.mono λc=>yT c 1,wl.mono yT⟩
    ·have hz:er≠0:=by simpa using hz
     rw[aB hz]at j9;exact cont _ (by rw[j9];exact⟨p3,hp3,Kh⟩) kb3
theorem Jk(b:Bk)(sd tg:Int)(h01:sd=0∨sd=1)(jq:b.aj.length<=gy)(cI:(bu b).1=0)(h67:PC 42 [cE b] (.agg [iv (bu b).1,iv (bu b).2]))(l:List Ef):yX b sd tg l:=by
 have key:∀(m:Nat) (l:List Ef),(bz l).length<=m→yX b sd tg l:=by
  intro m
  induction m with
  |zero=>exact QcA b sd tg h01 jq cI h67 0 (λ_ h=>absurd h (by omega))
  |succ m ih=>exact QcA b sd tg h01 jq cI h67 (m+1) (λl h=>ih l (by omega))
 exact key _ l (No _)
theorem u44(s:St)(hs:aY 1000000000 s):PC 31 [bZ s] (bZ s):=
 RH (c19 s hs) ⟨zAB 11,(SB.copy (n:=0) (λi x h=>by rw[IN];exact Yq h) (λi h=>zBD.2 (by omega))).agg⟩
theorem Ob{cs:List aa}(h:cs.all aa.cell=true):cellsOf (.agg cs)=some cs:=by simp only[cellsOf,h,cond_true]
@[reducible] def Wi(r:Int×St×Int×List Ev):aa:=.bp [bZ r.2.1,.aW false false 7 (r.2.2.2.map ck),iv r.2.2.1,iv r.1]
theorem u80(b:Bk)(sd tg:Int)(h01:sd=0∨sd=1)(jq:b.aj.length<=gy)(cI:(bu b).1=0)(h67:PC 42 [cE b] (.agg [iv (bu b).1,iv (bu b).2]))(l:List Ef)(dE:bF l=true)(bR:bE b.aj true 1 l=true)(hw:dD 0 l<=200)
 (s:St)(fu:Int)(hf:0<=fu∧fu<=1000){N C:Nat}(hS:cL b N C s)(hN:N+12000<=1000000)(hC:C+200<=1000000):PC 34 [cE b,bZ s,.agg [iv sd,iv tg],gZ l,iv fu] (Wi (runs b sd tg l s fu)):=by
 have h50:=c25 b s hS.qA true _ _ h67;rw[Xo.2 ⟨cI,hS.may⟩]at h50;have h204:=u204 b.aj jq l dE;rw[bR,eX hw]at h204;have h44:=u44 s hS.qA;have hW:(bz l).length<=200:=by rw[vR 0 l (by omega) (by omega)]at hw;omega
 have Vj:bY b.aj true 1 l=true:=by simp only[bE,AI]at bR;exact bR.2.2
 refine Yi hP g34.ok rfl ?_;rw[H5.e];unfold g34;dsimp only;refine au (a_ h50 g29.ok ?_);rcases h01 with rfl|rfl
 all_goals
  refine au ?_;rw[gB (show ¬fu<0 by omega)];refine au ?_;rw[gB (show ¬1000<fu by omega)];refine au (a_ h204 g61.ok ?_);refine au (i_ h44 g31.ok ?_);refine au ?_;refine Xd hP (f:=62) rfl g62.ok rfl ?_;refine Jk b _ tg (by simp) jq cI h67 l _ 4 s fu [] N C 1 _ ⟨λ_=>False,λ_ e=>e.elim,_,_,_,_,_,_,.al,rfl,.inl rfl,.inl rfl,.inl rfl,.inl rfl,.inl rfl,.inl rfl,.inl ⟨rfl,rfl⟩⟩ dE Vj hW hS (by omega) (by omega) (by simp;omega) hf.1 hf.2 λσ' hD=>?_;obtain⟨⟨p,hp,h0,g0,t0,h1,g1,t1,lv,hr,o1,o2,o3,o4,o5,o6,ol⟩,kb⟩:=hD;have z3:ai σ' 3=.box aT:=kb.2 3 _ (by decide) rfl;generalize runs b _ tg l s fu=r at *;obtain⟨er,S,fi,cS⟩:=r;simp only[zAL]at *;dsimp only[List.length,List.append,zAJ]at *;refine av ?_;have c1:=o1.fg;have c2:=o2.fg;have c3:=o3.fg;have c4:=o4.fg;have c5:=o5.fg;have c6:=o6.fg;have hc:cellsOf (.agg (tM S (aP S.ao) (aP S.s0.az) h0 g0 (gS S.s0.af) t0 (aP S.s1.az) h1 g1 (gS S.s1.af) t1))=some (tM S (aP S.ao) (aP S.s0.az) h0 g0 (gS S.s0.af) t0 (aP S.s1.az) h1 g1 (gS S.s1.af) t1):=by
   refine Ob ?_;simp only[List.all_cons,List.all_nil,c1,c2,c3,c4,c5,c6,zBA,zAH];rfl
  refine zg (zb:=3) z3 hc rfl rfl λτ z4 a4=>?_;refine Qv (by simp[Qi,Xm,Xn,Yv,cf,dS,zAB,zAd,jW]) (Zp (XH z4 rfl) ?_);have kk:∀c n rs,ai σ' c=.rows n rs→ai τ c=.rows n rs:=λc n rs e=>a4.get e (by simp) (by simp;rintro rfl;rw[z3]at e;cases e);have s1:=o1.mono λc=>kk c 1;have s2:=o2.mono λc=>kk c 1;have s3:=o3.mono λc=>kk c 1;have s4:=o4.mono λc=>kk c 1;have s5:=o5.mono λc=>kk c 1;have s6:=o6.mono λc=>kk c 1;have sl:=(ol.mono kk).Bi;exact⟨zAB τ.length,aA.bp (.cons (SB.mk (RI.ro _) (RI.ro _) s1.uN s2.uN (RT.ro _) s3.uN (RI.ro _) s4.uN s5.uN (RT.ro _) s6.uN).agg (.cons sl (bd.ro rfl)))⟩
theorem u216(s:St):PC 33 [bZ s] (aO (bO s)):=by
 refine Xa hP g33.ok rfl rfl ?_;rw[H1.e];unfold g33;dsimp only;unfold bO;by_cases h0:s.s0.aX<=0<;>by_cases h1:s.s1.aX<=0
 all_goals
  refine au ?_
  first|rw[eX h0]|rw[gB h0]
  first|rw[eX h1]|rw[gB h1]
  refine au ?_;simp[h0,h1]
theorem u99(b:Bk)(s:St)(hs:aY 1000000000 s)(h67:PC 42 [cE b] (.agg [iv (bu b).1,iv (bu b).2]))(r:Int):PC 14 [cE b,bZ s,aO r] (.bp [bZ (dK b s r).1,wB (dK b s r).2]):=by
 have h50:=c25 b s hs true _ _ h67;have h44:=u44 s hs;refine Yi hP g14.ok rfl ?_;rw[H3.e];unfold g14;dsimp only;refine au ?_;refine a_ h44 g31.ok ?_;refine au ?_;have ho:zr b s r=(!(((decide (r<=0)||decide (r>3))||(s.phase==2)) || !aL (bu b).1 b s true)):=rfl;unfold dK;by_cases q1:r<=0
 ·rw[eX q1];refine au ?_;rw[aB (by rw[ho];simp[q1])];exact⟨[],aA.bp (.cons (aA.ro rfl) (.cons (pw (e:=jx) RI.al) .nil))⟩
 rw[gB q1];refine au ?_;by_cases q3:3<r
 ·rw[eX q3];refine au ?_;rw[aB (by rw[ho];simp[q3])];exact⟨[],aA.bp (.cons (aA.ro rfl) (.cons (pw (e:=jx) RI.al) .nil))⟩
 rw[gB q3];refine au ?_;refine a_ h50 g29.ok ?_;generalize aL (bu b).1 b s true=m at *;cases m with
 |false=>
  refine au ?_;rw[aB (by rw[ho];simp)];exact⟨[],aA.bp (.cons (aA.ro rfl) (.cons (pw (e:=jx) RI.al) .nil))⟩
 |true=>
 refine au ?_;by_cases q2:s.phase=2
 ·rw[show (s.phase==2)=true by simpa using q2];refine au ?_;rw[aB (by rw[ho];simp[q2])];exact⟨[],aA.bp (.cons (aA.ro rfl) (.cons (pw (e:=jx) RI.al) .nil))⟩
 ·rw[show (s.phase==2)=false by simpa using q2];refine au ?_;rw[zAY r (by omega),aI (by rw[ho];simp[q2];omega)];exact⟨[],aA.bp (.cons (SB.mk (s:={ s with phase:=2,ao:=[],result:=r }) RI.al (RI.ro _) (RI.ro _) (RI.ro _) (RT.ro _) (RI.ro _) (RI.ro _) (RI.ro _) (RI.ro _) (RT.ro _) (RI.ro _)).agg (.cons (pw (e:=⟨15,0,0,0,0,r,[]⟩) RI.al) .nil))⟩
theorem u214(b:Bk)(row:List Tr)(hl:row.length<=1000000000):PC 30 [cE b,qN row] (.bool (!row.any (kV b)&&decide ((row.length:Int)<=1000))):=by
 refine Xa hP g30.ok rfl rfl ?_;rw[H2.e];unfold g30;dsimp only;refine au ?_;refine Xg (ι:=Nat) (λi vs σ=>vs=[iv i]∧i<=row.length∧σ=[.box (cq b)]∧row.any (kV b)=(row.drop i).any (kV b)) (λi=>row.length-i) 0 ⟨rfl,by omega,rfl,rfl⟩ ?_;rintro i _ _ again ⟨rfl,hi,rfl,he⟩ bj;refine au ?_;rw[zAM];refine QM (λh=>?_) (λh=>?_)
 ·have cB:=λ(σ:List ab)=>Ym σ dG false false 3 row .i64 i h;rw[gK h,zCv]at he;generalize row[i]=x at *;have hb:kV b x=(((decide (x.card<0)||decide (x.card >= b.aj.length))||decide (x.side<0))||decide (x.side>1)):=rfl;refine Za (cB _) ?_;refine au ?_;by_cases q1:x.card<0
  ·rw[eX q1];refine au ?_;rw[he,hb,eX q1];rfl
  rw[gB q1];refine au ?_;refine Za (cB _) ?_;refine au ?_;rw[zAM];by_cases q2:(b.aj.length:Int)<=x.card
  ·rw[eX q2];refine au ?_;rw[he,hb,eX (show x.card >= b.aj.length from q2)];simp
  rw[gB q2];refine au ?_;refine Za (cB _) ?_;refine au ?_;by_cases q3:x.side<0
  ·rw[eX q3];refine au ?_;rw[he,hb,eX q3];simp
  rw[gB q3];refine au ?_;refine Za (cB _) ?_;refine au ?_;by_cases q4:1<x.side
  ·rw[eX q4];refine au ?_;rw[he,hb,eX (show x.side>1 from q4)];simp
  rw[gB q4];refine au ?_;rw[Xc (n:=i) (by omega)];refine bj (i+1) _ _ (by omega) ⟨rfl,by omega,rfl,?_⟩;rw[he,hb,gB q1,gB (show ¬x.card >= b.aj.length from q2),gB q3,gB (show ¬x.side>1 from q4)];rfl
 ·subst h;rw[zAD]at he;rw[he];refine au ?_;rw[zAM];rfl
def OT(σ:List ab)(v:aa)(l:List Th):Prop:=v=gS l∨(v=.al∧l=[])∨∃c,v=.sl c 0 l.length false∧ai σ c=.rows 4 (l.map bc)
theorem OT.bU{σ τ:List ab}{v:aa}{l:List Th}(h:OT σ v l)(hk:∀c rs,ai σ c=.rows 4 rs→ai τ c=.rows 4 rs):OT τ v l:=by
 rcases h with h|h|⟨c,h1,h2⟩
 ·exact .inl h
 ·exact .inr (.inl h)
 ·exact .inr (.inr ⟨c,h1,hk _ _ h2⟩)
theorem OT.rt{σ:List ab}{v:aa}{l:List Th}(h:OT σ v l):RT σ (zAB σ.length) v l:=by
 rcases h with rfl|⟨rfl,rfl⟩|⟨c,rfl,h2⟩
 ·exact RT.ro l
 ·exact RT.al
 ·exact RT.own h2 (zBD.2 (Zb h2)) rfl
theorem OT.len{σ:List ab}{v:aa}{l:List Th}(h:OT σ v l):Yn [v] σ=.ok (iv l.length) [] []:=by
 rcases h with rfl|⟨rfl,rfl⟩|⟨c,rfl,h2⟩
 ·simp[Yn]
 ·rfl
 ·rfl
theorem OT.at{σ:List ab}{v:aa}{l:List Th}(h:OT σ v l){i:Nat}(hi:i<l.length):∃p rd sv,Xi 4 [v,iv i] σ=.ok p rd []∧Qe true 4 [p] σ=.ok (.agg (bc l[i])) sv []:=by
 rcases h with rfl|⟨rfl,rfl⟩|⟨c,rfl,h2⟩
 ·exact⟨_,_,_,Ym σ bc false false 4 l .i64 i hi,rfl⟩
 ·simp at hi
 ·exact⟨.ptr c (0+i) 0,[c],[c],rr σ c 0 l.length false 4 _ .i64 i hi h2,by rw[IN];exact Ar h2 (row:=bc l[i]) (by simp[hi]) rfl⟩
theorem OW.at{q:Nat→Prop}{σ:List ab}{v:aa}{l:List Int}(h:OW q σ v l){i:Nat}(hi:i<l.length):∃p rd sv,Xi 1 [v,iv i] σ=.ok p rd []∧Qe false 1 [p] σ=.ok (iv l[i]) sv []:=by
 rcases h with rfl|⟨rfl,rfl⟩|⟨c,rfl,h2,_⟩
 ·exact⟨_,_,_,Ym σ aS false false 1 l .i64 i hi,rfl⟩
 ·simp at hi
 ·exact⟨.ptr c (0+i) 0,[c],[c],rr σ c 0 l.length false 1 _ .i64 i hi h2,by rw[IN];exact Ar h2 (row:=aS l[i]) (by simp[hi]) rfl⟩
theorem OT.cells{σ:List ab}{v:aa}{l:List Th}(h:OT σ v l):cellsOf v=some [v]:=by
 rcases h with rfl|⟨rfl,rfl⟩|⟨c,rfl,h2⟩<;>rfl
theorem OT.fg{σ:List ab}{v:aa}{l:List Th}(h:OT σ v l):v.cell=true:=by
 rcases h with rfl|⟨rfl,rfl⟩|⟨c,rfl,h2⟩<;>rfl
@[reducible] def evO(e:Ev):List aa:=cp e .al
theorem GR.lo{B:Nat}{l:List Ev}{lv:aa}{σ:List ab}(h:GR 7 evO B l lv σ)(hc:∀e∈l,e.aj=[]):LO (λ_=>True) l lv σ:=by
 rcases h with h|⟨c,h1,_,h3⟩
 ·exact .inl h
 ·refine .inr ⟨c,_,h1,h3,by simp,λi row e q1 q2=>?_⟩;rw[zAT,q2]at q1;cases q1;exact⟨_,rfl,.inr (.inl ⟨rfl,hc e (zAI q2)⟩)⟩
theorem OW.mv{q q':Nat→Prop}{σ τ:List ab}{v:aa}{l:List Int}(h:OW q σ v l)(hk:∀c rs,q c→ai σ c=.rows 1 rs→ai τ c=.rows 1 rs∧q' c):OW q' τ v l:=by
 rcases h with h|h|⟨c,h1,h2,h3⟩
 ·exact .inl h
 ·exact .inr (.inl h)
 ·exact .inr (.inr ⟨c,h1,(hk c _ h3 h2).1,(hk c _ h3 h2).2⟩)
structure GS (σ:List ab) (cb:Nat) (t:St) (c0 c1:Nat) (a d0 h0 u0 t0 d1 h1 u1 t1:aa):Prop where
 ne:c0≠c1
 box:ai σ cb=.box (tM t a d0 h0 (.sl c0 0 t.s0.an.length false) u0 t0 d1 h1 (.sl c1 0 t.s1.an.length false) u1 t1)
 r0:ai σ c0=.rows 1 (t.s0.an.map aS)
 r1:ai σ c1=.rows 1 (t.s1.an.map aS)
 a:OW (λc=>c≠c0∧c≠c1) σ a t.ao
 d0:OW (λc=>c≠c0∧c≠c1) σ d0 t.s0.az
 h0:OW (λc=>c≠c0∧c≠c1) σ h0 t.s0.hand
 u0:OT σ u0 t.s0.af
 t0:OW (λc=>c≠c0∧c≠c1) σ t0 t.s0.told
 d1:OW (λc=>c≠c0∧c≠c1) σ d1 t.s1.az
 h1:OW (λc=>c≠c0∧c≠c1) σ h1 t.s1.hand
 u1:OT σ u1 t.s1.af
 t1:OW (λc=>c≠c0∧c≠c1) σ t1 t.s1.told
theorem GS.bU{σ τ:List ab}{cb:Nat}{t:St}{c0 c1:Nat}{a d0 h0 u0 t0 d1 h1 u1 t1:aa}(h:GS σ cb t c0 c1 a d0 h0 u0 t0 d1 h1 u1 t1)(hk:∀c n rs,ai σ c=.rows n rs→ai τ c=.rows n rs)(hb:∀row,ai σ cb=.box row→ai τ cb=.box row):GS τ cb t c0 c1 a d0 h0 u0 t0 d1 h1 u1 t1:=
 ⟨h.ne,hb _ h.box,hk _ _ _ h.r0,hk _ _ _ h.r1,h.a.mono λc=>hk c 1,h.d0.mono λc=>hk c 1,h.h0.mono λc=>hk c 1,h.u0.bU λc=>hk c 4,h.t0.mono λc=>hk c 1,h.d1.mono λc=>hk c 1,h.h1.mono λc=>hk c 1,h.u1.bU λc=>hk c 4,h.t1.mono λc=>hk c 1⟩
theorem GS.sb{σ:List ab}{cb:Nat}{t:St}{c0 c1:Nat}{a d0 h0 u0 t0 d1 h1 u1 t1:aa}(h:GS σ cb t c0 c1 a d0 h0 u0 t0 d1 h1 u1 t1):SB σ (zAB σ.length) (tM t a d0 h0 (.sl c0 0 t.s0.an.length false) u0 t0 d1 h1 (.sl c1 0 t.s1.an.length false) u1 t1) t:=
 SB.mk h.a.uN h.d0.uN h.h0.uN (RI.own h.r0 (zBD.2 (Zb h.r0)) rfl) h.u0.rt h.t0.uN h.d1.uN h.h1.uN (RI.own h.r1 (zBD.2 (Zb h.r1)) rfl) h.u1.rt h.t1.uN
theorem GS.cells{σ:List ab}{cb:Nat}{t:St}{c0 c1:Nat}{a d0 h0 u0 t0 d1 h1 u1 t1:aa}(h:GS σ cb t c0 c1 a d0 h0 u0 t0 d1 h1 u1 t1):cellsOf (.agg (tM t a d0 h0 (.sl c0 0 t.s0.an.length false) u0 t0 d1 h1 (.sl c1 0 t.s1.an.length false) u1 t1))=some (tM t a d0 h0 (.sl c0 0 t.s0.an.length false) u0 t0 d1 h1 (.sl c1 0 t.s1.an.length false) u1 t1):=by
 refine Ob ?_;simp only[List.all_cons,List.all_nil,h.a.fg,h.d0.fg,h.h0.fg,h.u0.fg,h.t0.fg,h.d1.fg,h.h1.fg,h.u1.fg,h.t1.fg,zBA,zAH];rfl
theorem GR.ot{B:Nat}{l:List Th}{v:aa}{σ:List ab}(h:GR 4 bc B l v σ):OT σ v l:=by
 rcases h with ⟨rfl,rfl⟩|⟨c,h1,_,h3⟩
 ·exact .inr (.inl ⟨rfl,rfl⟩)
 ·exact .inr (.inr ⟨c,h1,h3⟩)
theorem GR.ow{B:Nat}{l:List Int}{v:aa}{σ:List ab}(h:GR 1 aS B l v σ):OW (λ_=>True) σ v l:=by
 rcases h with ⟨rfl,rfl⟩|⟨c,h1,_,h3⟩
 ·exact .inr (.inl ⟨rfl,rfl⟩)
 ·exact .inr (.inr ⟨c,h1,h3,trivial⟩)
theorem YcX(l:List Th)(k:Nat):(l.take k).eraseIdx k=l.take k:=zCJ (by simp;omega)
theorem ZcX{l:List Th}{k j:Nat}(hj:j<l.length):(l.take (j+1)).eraseIdx k=if j=k then (l.take j).eraseIdx k else (l.take j).eraseIdx k++[l[j]]:=by
 rw[zAu hj];have hlen:(l.take j).length=j:=by rw[zAk];omega
 split
 ·rename_i h;subst h;rw[List.eraseIdx_append_of_length_le (by omega),hlen,zCp,YcX];simp
 ·rename_i h;by_cases h2:k<j
  ·rw[List.eraseIdx_append_of_lt_length (by omega)]
  ·rw[zCJ (l:=l.take j++[l[j]]) (by simp;omega),zCJ (l:=l.take j) (by omega)]
theorem Zcn{id:Int}{l:List Int}{j:Nat}(hj:j<l.length):bC id (l.take (j+1))=if l[j]=id then bC id (l.take j)else bC id (l.take j)++[l[j]]:=by
 rw[zAu hj];unfold bC;rw[List.filter_append];split<;>simp_all
theorem u315(b:Bk)(s:St)(hs:aY 1000000 s)(hm:aL (bu b).1 b s true=true)(h67:PC 42 [cE b] (.agg [iv (bu b).1,iv (bu b).2]))(ids:List Int)(pF:ids.length<=1000000) :
  PC 60 [cE b,bZ s,aP ids] (.bp [bZ (Xl ids s).1,.aW false false 7 ((Xl ids s).2.map ck)]):=by
 have gA:aY 1000000000 s:=hs.mono (by decide);have h50:=c25 b s gA true _ _ h67;rw[hm]at h50;refine Yi hP g60.ok rfl ?_;rw[H3.e];unfold g60;dsimp only;refine au (a_ h50 g29.ok ?_);refine au (w19 gA ?_);dsimp only[jz,jn,xJ,sD];refine au ?_;simp only[IS,zAG,zAL,zAJ,IN,Nat.reduceAdd];refine Xg (ι:=Nat) (λi vs τ=>∃ t ev wD c0 c1 a d0 h0 u0 t0 d1 h1 u1 t1,vs=[iv i,wD]∧i<=ids.length∧GS τ 14 t c0 c1 a d0 h0 u0 t0 d1 h1 u1 t1∧GR 7 evO 15 ev wD τ∧ai τ 2=.box aT∧15<=τ.length∧aY (1000000 + i) t∧ev.length<=i∧(∀ e∈ev,e.aj=[]) ∧
  Xl ids s=((Xl (ids.drop i) t).1,ev++(Xl (ids.drop i) t).2)) (λi=>ids.length-i) 0 ⟨s,[],.al,6,11,_,_,_,_,_,_,_,_,_,rfl,by omega,
   ⟨by decide,rfl,rfl,rfl,.inr (.inr ⟨3,rfl,rfl,by decide⟩),.inr (.inr ⟨4,rfl,rfl,by decide⟩),.inr (.inr ⟨5,rfl,rfl,by decide⟩),.inr (.inr ⟨7,rfl,rfl⟩),.inr (.inr ⟨8,rfl,rfl,by decide⟩),.inr (.inr ⟨9,rfl,rfl,by decide⟩),.inr (.inr ⟨10,rfl,rfl,by decide⟩),.inr (.inr ⟨12,rfl,rfl⟩),.inr (.inr ⟨13,rfl,rfl,by decide⟩)⟩,
   .inl ⟨rfl,rfl⟩,rfl,by simp,by simpa using hs,by simp,by simp,rfl⟩ ?_
 rintro i _ τ again ⟨t,ev,wD,c0,c1,a,d0,h0,u0,t0,d1,h1,u1,t1,rfl,hi,G,fk,hz,h4,hle,hel,UF,bg⟩ bj;have hb:=G.box;refine av ?_;rw[zAM];have HD:aY 1000000000 t:=hle.mono (by omega);refine Ya (λh=>?_) (λh=>?_);rotate_left
 ·have h:i=ids.length:=by simp at h;omega
  subst h;rw[zAD]at bg;have bg:Xl ids s=(t,ev):=by rw[bg];simp[Xl]
  rw[bg];refine av ?_;refine Zq hz G.cells rfl rfl λτ' z' kq kk=>?_;refine Zp (XH z' rfl) ?_;have G':=G.bU (τ:=τ') kk λrow e=>kq.box e (by decide);have fk:=(fk.bU λc=>kk c 7).lo UF;exact⟨zAB τ'.length,aA.bp (.cons G'.sb.agg (.cons fk.Bi .nil))⟩
 have h:i<ids.length:=by simpa using h
 rw[gK h]at bg;have cB:=λ(σ:List ab)=>Ym σ aS false false 1 ids .i64 i h;generalize ids[i]=id at *;refine Qg λk' ek=>?_;refine av ?_;refine Za (cB _) ?_;refine av ?_;have h48:=c23 t HD id;unfold gJ at h48;refine Xu h48 rfl g56.ok.plain (.cons G.sb.agg (bd.ro rfl)) rfl ?_;refine av ?_;rcases Ycm t id with mn|⟨side,k,tC⟩
 ·have hB:=W4 mn;rw[mn];refine av ?_;rw[ek];refine Za (Xj ..) ?_;rw[Xc (n:=i) (by omega)];refine bj (i+1) _ _ (by omega) ⟨t,ev,wD,_,_,_,_,_,_,_,_,_,_,_,rfl,by omega,G,fk,hz,h4,hle.mono (by omega),by omega,UF,?_⟩;rw[bg,Xl,hB];simp
 obtain⟨pV,u,j6,g_,hB⟩:=YbC tC;have cc:k<(t.side side).af.length:=(gE j6).1;have PA:(t.side side).af.length<=1000000000:=by rcases pV with rfl|rfl;exact HD.s0.af;exact HD.s1.af
 rw[tC];refine av ?_;have Dc:=XbC hle id;have Li:Xl ids s=((Xl (ids.drop (i+1)) (Qn t id).1).1,ev++((Qn t id).2++(Xl (ids.drop (i+1)) (Qn t id).1).2)):=by rw[bg,Xl]
 rcases pV with rfl|rfl
 rotate_left;have wt:OT τ u1 (t.side 1).af:=G.u1;obtain⟨cg,Dp⟩:∃cg,cg=c1:=⟨_,rfl⟩;obtain⟨gr,Dy⟩:∃gr,gr=(t.side 1).an:=⟨_,rfl⟩;have rg:ai τ cg=.rows 1 (gr.map aS):=by rw[Dp,Dy];exact G.r1
 have hgl:gr.length<=1000000000:=by rw[Dy];exact HD.s1.an
 rotate_left;have wt:OT τ u0 (t.side 0).af:=G.u0;obtain⟨cg,Dp⟩:∃cg,cg=c0:=⟨_,rfl⟩;obtain⟨gr,Dy⟩:∃gr,gr=(t.side 0).an:=⟨_,rfl⟩;have rg:ai τ cg=.rows 1 (gr.map aS):=by rw[Dp,Dy];exact G.r0
 have hgl:gr.length<=1000000000:=by rw[Dy];exact HD.s0.an
 all_goals
  obtain⟨pt,xF,sv,e1,e2⟩:=wt.at cc;refine av (Za e1 ?_);have vH:=(gE j6).2;rw[vH]at e2;clear vH e1 j6;refine Za e2 (Zv (row:=bc u) (row':=bc u) rfl rfl rfl ?_);have G1:=G.bU (τ:=τ++[.box (bc u)]) (λc n rs e=>ZE _ e) (λrow e=>Qb [_] e);have zZ:=fk.bU (τ:=τ++[.box (bc u)]) (λc rs e=>ZE _ e);have hz1:=Qb [ab.box (bc u)] hz;have n1:=Yc τ (.box (bc u));have wt1:=wt.bU (τ:=τ++[.box (bc u)]) (λc rs e=>ZE _ e);have rg1:=ZE [.box (bc u)] rg;have o7:(τ++[ab.box (bc u)]).length=τ.length+1:=by simp
  generalize τ++[_]=τ1 at *;clear wt hz hb;generalize VA:(St.side t _).af=us at cc PA wt1 hB;refine Xg (ι:=Nat) (λj vs υ=>∃uv,vs=[iv j,uv]∧j<=us.length∧GR 4 bc τ1.length ((us.take j).eraseIdx k) uv υ∧(∀c,c<τ1.length→ai υ c=ai τ1 c)∧τ1.length<=υ.length) (λj=>us.length-j) 0 ⟨.al,rfl,by omega,.inl ⟨by simp,rfl⟩,λ_ _=>rfl,No _⟩ ?_;rintro j _ υ mO ⟨uv,rfl,hj,hg,rS,dO⟩ lE;have VX:∀c n rs,ai τ1 c=.rows n rs→ai υ c=.rows n rs:=λc n rs e=>by rw[rS c (Zb e)];exact e
  have vI:∀c row,ai τ1 c=.box row→ai υ c=.box row:=λc row e=>by rw[rS c (Zb e)];exact e
  have G2:=G1.bU VX (vI 14);have WL:=wt1.bU λc=>VX c 4;have mi:=G2.box;have n2:=vI _ _ n1;refine av (Za WL.len ?_);refine av (Ya (λhq=>?_) (λhq=>?_))
  ·have vd:j<us.length:=by simpa using hq
   have en:=ZcX (k:=k) vd;obtain⟨p2,Cq,PE,f1,f2⟩:=WL.at vd;refine Qg λk2 yE=>?_;refine av (Ya (λqY=>?_) (λqY=>?_))
   ·have qY:j≠k:=by rintro rfl;simp at qY
    rw[aB qY]at en;refine av ?_;refine Za f1 (Za f2 ?_);refine zo hg dO us[j] rfl rfl (by have:=List.length_eraseIdx_le (us.take j) k;rw[zAk]at this;omega) λnv υ2 g2 q1 q2 _=>?_;rw[yE];refine Za (Xj ..) ?_;rw[Xc (n:=j) (by omega)];exact lE (j+1) _ _ (by omega) ⟨nv,rfl,by omega,by rw[en];exact g2,λc hc=>by rw[q1 c hc,rS c hc],by omega⟩
   ·have qY:j=k:=by simp at qY;omega
    rw[aI qY]at en;rw[yE];refine Za (Xj ..) ?_;rw[Xc (n:=j) (by omega)];exact lE (j+1) _ _ (by omega) ⟨uv,rfl,by omega,by rw[en];exact hg,rS,dO⟩
  have vd:j=us.length:=by simp at hq;omega
  subst vd;rw[zAl]at hg;refine av ?_;refine Zq mi hg.ot.cells rfl rfl λτ2 b2 VU sU=>?_;have VY:∀c n rs,ai τ1 c=.rows n rs→ai τ2 c=.rows n rs:=λc n rs e=>sU c n rs (VX c n rs e);have hgu:=hg.bU λc=>sU c 4;have n3:=VU.box n2;have l3:=VU.1;have oa3:=G1.a.mono λc=>VY c 1;have Kw:=zZ.bU λc=>VY c 7;have yR:=VU.box (vI _ _ hz1) (by decide);clear mi n2 WL G2 hg;have hal:=HD.ao;refine Xg (ι:=Nat) (λj vs υ=>∃uv,vs=[iv j,uv]∧j<=t.ao.length∧GR 1 aS τ2.length (bC id (t.ao.take j)) uv υ∧(∀c,c<τ2.length→ai υ c=ai τ2 c)∧τ2.length<=υ.length) (λj=>t.ao.length-j) 0 ⟨.al,rfl,by omega,.inl ⟨by simp[bC],rfl⟩,λ_ _=>rfl,No _⟩ ?_;rintro j _ υ3 TH ⟨av3,rfl,hj,sP,KI,mm⟩ Kk;have kr4:∀c n rs,ai τ2 c=.rows n rs→ai υ3 c=.rows n rs:=λc n rs e=>by rw[KI c (Zb e)];exact e
  have VO:∀c row,ai τ2 c=.box row→ai υ3 c=.box row:=λc row e=>by rw[KI c (Zb e)];exact e
  have V':=oa3.mono λc=>kr4 c 1;have b4:=VO _ _ b2;have n4:=VO _ _ n3;refine av (Za V'.len ?_);refine av (Ya (λhq=>?_) (λhq=>?_))
  ·have vd:j<t.ao.length:=by simpa using hq
   have en:=Zcn (id:=id) vd;obtain⟨p2,Cq,PE,f1,f2⟩:=V'.at vd;refine Qg λk2 yE=>?_;refine av (Za f1 (Za f2 ?_));refine av (Ya (λqY=>?_) (λqY=>?_))
   ·have qY:t.ao[j]≠id:=by rw[←g_];simpa using qY
    rw[aB qY]at en;refine av ?_;refine Za f1 (Za f2 ?_);refine zo sP mm t.ao[j] rfl rfl (by have:=Yby id (t.ao.take j);rw[zAk]at this;omega) λnv υ2 g2 q1 q2 _=>?_;rw[yE];refine Za (Xj ..) ?_;rw[Xc (n:=j) (by omega)];exact Kk (j+1) _ _ (by omega) ⟨nv,rfl,by omega,by rw[en];exact g2,λc hc=>by rw[q1 c hc,KI c hc],by omega⟩
   ·have qY:t.ao[j]=id:=by rw[←g_];simpa using qY
    rw[aI qY]at en;rw[yE];refine Za (Xj ..) ?_;rw[Xc (n:=j) (by omega)];exact Kk (j+1) _ _ (by omega) ⟨av3,rfl,by omega,by rw[en];exact sP,KI,mm⟩
  have vd:j=t.ao.length:=by simp at hq;omega
  subst vd;rw[zAl]at sP;refine av ?_;refine Zq b4 sP.ow.cell rfl rfl λτ3 b5 VW o0=>?_;have VZ:∀c n rs,ai τ2 c=.rows n rs→ai τ3 c=.rows n rs:=λc n rs e=>o0 c n rs (kr4 c n rs e);have DW:∀c n rs,ai τ1 c=.rows n rs→ai τ3 c=.rows n rs:=λc n rs e=>VZ c n rs (VY c n rs e);have hga:=sP.bU λc=>o0 c 1;have KC:=hgu.bU λc=>VZ c 4;have n5:=VW.box n4;have UH:=Kw.bU λc=>VZ c 7;have VF:=VW.box (VO _ _ yR) (by decide);have l5:=VW.1;clear b4 n4 V' oa3 Kw yR hgu sP b2 n3;refine av ?_;have L9:=DW _ _ _ rg1;have lcg:=Zb rg1;refine Xf (v:=.sl τ3.length 0 1 true) (rd:=[]) (up:=[(τ3.length,.rows 1 [[iv u.card]])]) rfl (Ye τ3 _) ?_;rw[←Dp];refine Ik (l:=gr) (x:=u.card) (Qb [_] L9) (Yc τ3 _) (by rw[Dy];rfl) hgl ?_;have ng:ai ((τ3++[ab.rows 1 [[iv u.card]]]).set cg ab.dead++[ab.rows 1 ((gr++[u.card]).map aS)]) (τ3++[ab.rows 1 [[iv u.card]]]).length=.rows 1 ((gr++[u.card]).map aS):=by
   have:=Yc ((τ3++[ab.rows 1 [[iv u.card]]]).set cg ab.dead) (ab.rows 1 ((gr++[u.card]).map aS));simpa using this
  have kx:∀c,c<τ3.length→c≠cg→ai ((τ3++[ab.rows 1 [[iv u.card]]]).set cg ab.dead++[ab.rows 1 ((gr++[u.card]).map aS)]) c=ai τ3 c:=λc hc hn=>by rw[Yf _ (by simp;omega),Xb _ (by simp;omega) hn,Yf _ hc]
  have lx:((τ3++[ab.rows 1 [[iv u.card]]]).set cg ab.dead++[ab.rows 1 ((gr++[u.card]).map aS)]).length=τ3.length+2:=by simp
  have nl:(τ3++[ab.rows 1 [[iv u.card]]]).length=τ3.length+1:=by simp
  rw[nl]at ng ⊢;generalize (τ3++[ab.rows 1 [[iv u.card]]]).set cg ab.dead++[ab.rows 1 ((gr++[u.card]).map aS)]=τ4 at *;have VP:∀c row,ai τ3 c=.box row→ai τ4 c=.box row:=λc row e=>by rw[kx c (Zb e) (by rintro rfl;rw[L9]at e;cases e)];exact e
  have b6:=VP _ _ b5;have n6:=VP _ _ n5;refine av (NG b6 rfl rfl rfl λτ5 b7 Cb LH=>?_);refine Qv (by
   have m1:τ3.length≠14:=by omega
   simp[Qi,Xm,Xn,Yv,cf,dS,zAB,zAd,jW,m1,m1.symm]) ?_
  have n7:=Cb.box n6;have V0:∀c n rs,c≠cg→ai τ3 c=.rows n rs→ai τ5 c=.rows n rs:=λc n rs hn e=>LH c n rs (by rw[kx c (Zb e) hn];exact e);have Dv:=UH.bU (τ:=τ5) λc rs e=>V0 c 7 rs (by rintro rfl;rw[L9]at e;cases e) e;have l7:=Cb.1;refine av ?_;refine zo Dv (by omega) ⟨13,_,u.card,u.id,0,0,[]⟩ rfl rfl (by omega) λnv υ6 g9996 _ q2 q3=>?_;rw[ek];refine Za (Xj ..) ?_;rw[Xc (n:=i) (by omega)];have KJ:∀c y,ai τ5 c=y→y≠.dead→(∀rs,y≠.rows 7 rs)→ai υ6 c=y:=λc y e h1 h2=>by rw[q3 c (Zb e h1) (by rw[e];exact h2)];exact e
  have ng7:=KJ _ _ (LH _ _ _ ng) (by simp) (by simp);have aaN:cg<τ3.length:=Zb L9;have mv:∀c rs,c<τ3.length→c≠cg→ai τ3 c=.rows 1 rs→ai υ6 c=.rows 1 rs:=λc rs _ hn e=>KJ _ _ (V0 c 1 rs hn e) (by simp) (by simp);have As:∀c rs,ai τ3 c=.rows 4 rs→ai υ6 c=.rows 4 rs:=λc rs e=>KJ _ _ (V0 c 4 rs (by rintro rfl;rw[L9]at e;cases e) e) (by simp) (by simp);have b8:=KJ _ _ b7 (by simp) (by simp);have z8:=KJ _ _ (Cb.box (VP _ _ VF) (by decide)) (by simp) (by simp);have l13:τ1.length<=τ3.length:=by omega
  have lc0:=Zb G1.r0;have lc1:=Zb G1.r1;have M:∀q':Nat→Prop,(∀c,c<τ3.length→c≠c0→c≠c1→q' c)→∀v m,OW (λc=>c≠c0∧c≠c1) τ1 v m→OW q' υ6 v m:=λq' hq v m o=>o.mv λc rs h1 e=>by
   have hl:=Zb (DW _ _ _ e);exact⟨mv c rs hl (by rw[Dp];first|exact h1.1|exact h1.2) (DW c 1 rs e),hq c hl h1.1 h1.2⟩
  have MA:∀q':Nat→Prop,(∀c,c<τ3.length→c≠c0→c≠c1→q' c)→OW q' υ6 av3 (bC id t.ao):=λq' hq=>by
   rcases hga with ⟨e1,e2⟩|⟨c,e1,e2,e3⟩
   ·rw[e1,e2];exact .inr (.inl ⟨rfl,rfl⟩)
   ·have hl:=Zb e3;exact .inr (.inr ⟨c,e1,mv c _ hl (by omega) e3,hq c hl (by omega) (by omega)⟩)
  have GF:∃TO tf a' T4 Ho WE PG T5 uY WG PH,GS υ6 14 (Qn t id).1 TO tf a' T4 Ho WE PG T5 uY WG PH:=by
   rw[hB];subst Dy
   first
    |exact⟨τ3.length+1,c1,_,_,_,_,_,_,_,_,_,⟨by omega,b8,ng7,mv c1 _ (by omega) (by rw[Dp];exact G1.ne.symm) (DW _ _ _ G1.r1),MA _ (λc h1 h2 h3=>⟨by omega,h3⟩),M _ (λc h1 h2 h3=>⟨by omega,h3⟩) _ _ G1.d0,M _ (λc h1 h2 h3=>⟨by omega,h3⟩) _ _ G1.h0,KC.ot.bU As,M _ (λc h1 h2 h3=>⟨by omega,h3⟩) _ _ G1.t0,M _ (λc h1 h2 h3=>⟨by omega,h3⟩) _ _ G1.d1,M _ (λc h1 h2 h3=>⟨by omega,h3⟩) _ _ G1.h1,(G1.u1.bU λc=>DW c 4).bU As,M _ (λc h1 h2 h3=>⟨by omega,h3⟩) _ _ G1.t1⟩⟩
    |exact⟨c0,τ3.length+1,_,_,_,_,_,_,_,_,_,⟨by omega,b8,mv c0 _ (by omega) (by rw[Dp];exact G1.ne) (DW _ _ _ G1.r0),ng7,MA _ (λc h1 h2 h3=>⟨h2,by omega⟩),M _ (λc h1 h2 h3=>⟨h2,by omega⟩) _ _ G1.d0,M _ (λc h1 h2 h3=>⟨h2,by omega⟩) _ _ G1.h0,(G1.u0.bU λc=>DW c 4).bU As,M _ (λc h1 h2 h3=>⟨h2,by omega⟩) _ _ G1.t0,M _ (λc h1 h2 h3=>⟨h2,by omega⟩) _ _ G1.d1,M _ (λc h1 h2 h3=>⟨h2,by omega⟩) _ _ G1.h1,KC.ot.bU As,M _ (λc h1 h2 h3=>⟨h2,by omega⟩) _ _ G1.t1⟩⟩
  obtain⟨TO,tf,a',T4,Ho,WE,PG,T5,uY,WG,PH,GF⟩:=GF;have e2:(Qn t id).2=_:=congrArg Prod.snd hB;refine bj (i+1) _ _ (by omega) ⟨(Qn t id).1,ev++(Qn t id).2,nv,TO,tf,a',T4,Ho,WE,PG,T5,uY,WG,PH,rfl,by omega,GF,by rw[e2,←g_];exact g9996,z8,by omega,Dc,by rw[e2];simp;omega,λe he=>?_,by rw[Li,zAb]⟩;rcases zAF.1 he with he|he
  ·exact UF e he
  ·rw[e2]at he;simp at he;rw[he]
theorem GR.tr{B:Nat}{l:List Tr}{v:aa}{σ:List ab}(h:GR 3 dG B l v σ):aA (hp σ) (zAB σ.length) v (qN l):=by
 rcases h with ⟨rfl,rfl⟩|⟨c,rfl,_,h3⟩
 ·exact aA.dP (aA.ro rfl) (λM u d=>d.eO 3)
 ·refine aA.dP (aA.sl (rs:=l.map dG) (rs':=l.map dG) (Xv h3 (by simp)) (zBD.2 (Zb h3)) (by simp) (by simp) (λi row row' q1 q2=>?_)) (λM u d=>d.gp);rw[IN]at q1;rw[q1]at q2;cases q2;rw[zAT]at q1;cases h:l[i]? with
  |none=>rw[h]at q1;cases q1
  |some x=>rw[h]at q1;cases q1;exact bd.ro rfl
theorem u215(b:Bk)(s:St)(cI:(bu b).1=0)(hM:du b s)(h67:PC 42 [cE b] (.agg [iv (bu b).1,iv (bu b).2])) :
  PC 32 [cE b,bZ s] (.bp [bZ (Xl (aJ b s) s).1,.aW false false 7 ((Xl (aJ b s) s).2.map ck),qN (e_ b s (aJ b s))]):=by
 have hm:=Xo.2 ⟨cI,hM⟩;have hs:=NY hM;obtain⟨_,il,Pk⟩:=YG hM;have h95:=q95 b s (hs.mono (by decide)) hm h67;have h315:=u315 b s hs hm h67 (aJ b s) (by omega);generalize aJ b s=D at *;refine Yi hP g32.ok rfl ?_;rw[H2.e];unfold g32;dsimp only;refine au (a_ h95 g59.ok ?_);simp only[IS,zAG,zAL,zAJ,IN,Nat.reduceAdd];refine Xg (ι:=Nat) (λj vs τ=>∃wv,vs=[iv j,wv]∧j<=D.length∧GR 3 dG 3 (e_ b s (D.take j)) wv τ∧ai τ 0=.box (cq b)∧ai τ 1=.box (aF s)∧ai τ 2=.box aT∧3<=τ.length) (λj=>D.length-j) 0 ⟨.al,rfl,by omega,.inl ⟨rfl,rfl⟩,rfl,rfl,rfl,by simp⟩ ?_;rintro j _ τ again ⟨wv,rfl,hj,hg,z0,z1,z2,hl⟩ bj;refine av ?_;rw[zAM];refine QM (λh=>?_) (λh=>?_)
 ·have cB:=λ(σ:List ab)=>Ym σ aS false false 1 D .i64 j h;have g_:=il D[j] (AT h);have oV:=Rx b s D[j] (D.take j);rw[←zAu h]at oV;have jr:=X7 b s (D.take j);rw[zAk]at jr;generalize D[j]=id at *;refine Qg λk' ek=>?_;refine av ?_;refine Za (cB _) ?_;refine av ?_;have h48:=c23 s (hs.mono (by decide)) id;unfold gJ at h48;refine a_ h48 g56.ok ?_;obtain⟨k,u,hk,hu,pV,Lo⟩:=S8 g_;have u7:=GJ hM pV hu;have cc:(u.card).toNat<b.aj.length:=by omega
  have qm:Zr b u.card=b.aj[(u.card).toNat]:=by unfold Zr;rw[zAP cc];rfl
  rw[Lo,qm]at oV;have lW:=(gE hu).1;have vH:=(gE hu).2;generalize aM s id=w at *;obtain⟨side,ki,ok⟩:=w;dsimp only at hk pV oV lW vH;subst hk;rcases pV with rfl|rfl
  all_goals
   refine av (Za (Ym _ bc false false 4 _ .i64 k lW) ?_);rw[vH];refine av ?_;refine Za (s_ _ cN false false 12 b.aj .i64 u.card u7.1 cc) ?_;refine av ?_;rw[zAM];refine Ya (λhq=>?_) (λhq=>?_)
   ·have hq:0<(b.aj[(u.card).toNat]).dead.length:=by simpa using hq
    rw[aI hq]at oV;refine av ?_;refine zo hg hl ⟨u.card,_,false⟩ rfl rfl (by omega) λnv υ g2 q1 q2 _=>?_;rw[ek];refine Za (Xj ..) ?_;rw[Xc (n:=j) (by omega)];exact bj (j+1) _ _ (by omega) ⟨nv,rfl,by omega,by rw[oV];exact g2,by rw[q1 0 (by omega)];exact z0,by rw[q1 1 (by omega)];exact z1,by rw[q1 2 (by omega)];exact z2,by omega⟩
   ·have hq:¬0<(b.aj[(u.card).toNat]).dead.length:=by simpa using hq
    rw[aB hq,zBE]at oV;rw[ek];refine Za (Xj ..) ?_;rw[Xc (n:=j) (by omega)];exact bj (j+1) _ _ (by omega) ⟨wv,rfl,by omega,by rw[oV];exact hg,z0,z1,z2,hl⟩
 ·subst h;rw[zAl]at hg;refine av (a_ h315 g60.ok ?_);refine av (YN λτ1 y1 a1 l1=>?_);refine Zq y1 rfl rfl rfl λτ2 y2 k2 sU=>?_;refine av ?_;have z2':=k2.box (a1.get z2) (by simp;omega);refine Zq z2' rfl rfl rfl λτ3 y3 k3 vJ=>?_;refine Zp (XH y3 rfl) ?_;have sP:=hg.bU (τ:=τ3) λc rs e=>vJ c 3 rs (sU c 3 rs (a1.get e));exact⟨zAB τ3.length,aA.bp (.cons (aA.ro rfl) (.cons (aA.ro rfl) (.cons sP.tr .nil)))⟩
theorem Yek{op n who:Int}(h:fL false op n who=true):fL true op n who=true:=by
 unfold fL at h ⊢
 grind
mutual
theorem Yd8:∀x:Nm,eR false x=true→eR true x=true
 |.mk op n who kids,h=>by
  have h:(iS false op n who kids.length&&(cA false kids&&fL false op n who))=true:=h
  show (iS true op n who kids.length&&(cA true kids&&fL true op n who))=true
  simp only[AI]at h ⊢
  exact⟨h.1,Tl kids h.2.1,Yek h.2.2⟩
theorem Tl:∀l:List Nm,cA false l=true→cA true l=true
 |[],_=>rfl
 |x::l,h=>by
  simp only[cA,AI]at h ⊢
  exact⟨Yd8 x h.1,Tl l h.2⟩
end
mutual
theorem Qd3 (cs:List Cd):∀x:Cn,fH cs false x=true→fH cs true x=true
 |.mk op who name aC kids,h=>by
  have h:(gW op aC.length kids.length&&(cA false aC&&(eJ cs false kids&&gV cs op who name)))=true:=h
  show (gW op aC.length kids.length&&(cA true aC&&(eJ cs true kids&&gV cs op who name)))=true
  simp only[AI]at h ⊢
  exact⟨h.1,Tl aC h.2.1,Qdh cs kids h.2.2.1,h.2.2.2⟩
theorem Qdh (cs:List Cd):∀l:List Cn,eJ cs false l=true→eJ cs true l=true
 |[],_=>rfl
 |x::l,h=>by
  simp only[eJ,AI]at h ⊢
  exact⟨Qd3 cs x h.1,Qdh cs l h.2⟩
end
theorem Xeg{op who:Int}(h:iO false op who=true):iO true op who=true:=by
 unfold iO pS at h ⊢
 grind
mutual
theorem Qez (cs:List Cd):∀(x:Ef) (d:Int),mQ cs false d x=true→mQ cs true d x=true
 |.mk op who n name c bQ bV,d,h=>by
  have h:(decide (0<=op) && (decide (op<=8) && (if op=8 then
   decide (who=0)&&(ez n&&(name==[]&&(fH cs false c&&((decide (bQ.length<=16)&&(decide (d+1<=8)&&bY cs false (d+1) bQ))&&(decide (bV.length<=16)&&(decide (d+1<=8)&&bY cs false (d+1) bV))))))
  else fh c && (decide (bQ.length=0) && (decide (bV.length=0) && ((if cw op then eR false n else ez n) && ((if op=7 then ej cs name true else name == []) && iO false op who)))))))=true:=h
  show (decide (0<=op) && (decide (op<=8) && (if op=8 then
   decide (who=0)&&(ez n&&(name==[]&&(fH cs true c&&((decide (bQ.length<=16)&&(decide (d+1<=8)&&bY cs true (d+1) bQ))&&(decide (bV.length<=16)&&(decide (d+1<=8)&&bY cs true (d+1) bV))))))
  else fh c && (decide (bQ.length=0) && (decide (bV.length=0) && ((if cw op then eR true n else ez n) && ((if op=7 then ej cs name true else name == []) && iO true op who)))))))=true
  rw[AI,AI]at h ⊢
  refine⟨h.1,h.2.1,?_⟩
  have h:=h.2.2
  by_cases h8:op=8
  ·rw[aI h8]at h ⊢
   simp only[AI]at h ⊢
   obtain⟨a1,a2,a3,a4,⟨a5,a6,a7⟩,a8,a9,a10⟩:=h
   exact⟨a1,a2,a3,Qd3 cs c a4,⟨a5,a6,HY cs bQ _ a7⟩,a8,a9,HY cs bV _ a10⟩
  ·rw[aB h8]at h ⊢
   simp only[AI]at h ⊢
   obtain⟨a1,a2,a3,a4,a5,a6⟩:=h
   refine⟨a1,a2,a3,?_,a5,Xeg a6⟩
   by_cases hc:cw op=true
   ·rw[aI hc]at a4 ⊢;exact Yd8 n a4
   ·rw[aB hc]at a4 ⊢;exact a4
theorem HY (cs:List Cd):∀(l:List Ef) (d:Int),bY cs false d l=true→bY cs true d l=true
 |[],_,_=>rfl
 |x::l,d,h=>by
  simp only[bY,AI]at h ⊢
  exact⟨Qez cs x d h.1,HY cs l d h.2⟩
end
theorem Ydd{b:Bk}(h:(bu b).1=0){c:Cd}(hc:c∈b.aj):(bE b.aj true 1 c.dead=true∧dD 0 c.dead<=200)∧(bE b.aj true 1 c.cM=true∧dD 0 c.cM<=200):=by
 have k:=RW h c hc;simp only[eI,AI,fD]at k;obtain⟨_,_,_,_,_,_,_,_,hw,_,hd,hn⟩:=k;have p0:=vR 0 c.de (by omega) (by omega);have p1:=vR 0 c.dead (by omega) (by omega);have p2:=vR 0 c.cM (by omega) (by omega);unfold pr at hw;simp only[bE,AI,fD]at hd hn ⊢;exact⟨⟨⟨hd.1,hd.2.1,HY _ _ _ hd.2.2⟩,by omega⟩,⟨hn.1,hn.2.1,HY _ _ _ hn.2.2⟩,by omega⟩
theorem XcX(a:Cd)(t:Tx)(u:Bool):∀p:List Cd,ej p t u=true→ej (p++[a]) t u=true:=by
 intro p
 induction p with
 |nil=>intro h;cases h
 |cons c p ih=>
  intro h;have h:(if c.name==t then c.unit || !u else ej p t u)=true:=h;show (if c.name==t then c.unit || !u else ej (p++[a]) t u)=true;by_cases hc:(c.name==t)=true
  ·rw[aI hc]at h ⊢;exact h
  ·rw[aB hc]at h ⊢;exact ih h
theorem W7{cs:List Cd}(hl:cs.length<=61):∀(n i:Nat),n+i=62→(∀k<i,(cs.any λc=>c.name==ZJ k)=true)→(cs.any λc=>c.name==yy cs n i)=false∧∃j,j<62∧yy cs n i=ZJ j
 |0,i,hi,h=>by
  have:=ZcM (by omega) h;omega
 |n+1,i,hi,h=>by
  unfold yy;by_cases q:(cs.any λc=>c.name==ZJ i)=true
  ·rw[aI q];exact W7 hl n (i + 1) (by omega) (λk hk=>by
    by_cases e:k=i
    ·subst e;exact q
    ·exact h k (by omega))
  ·rw[aB q];exact⟨by simpa using q,i,by omega,rfl⟩
section
variable {A B:List Cd} (yG:∀t u,ej B t u=true→ej A t u=true)
include yG
theorem ZdP{op who:Int}{name:Tx}(h:gV B op who name=true):gV A op who name=true:=by
 unfold gV at h ⊢;by_cases h6:op=6
 ·rw[aI h6]at h ⊢;simp only[AI]at h ⊢;exact⟨h.1,yG _ _ h.2⟩
 ·rw[aB h6]at h ⊢;exact h
mutual
theorem Xdg (t:Bool):∀x:Cn,fH B t x=true→fH A t x=true
 |.mk op who name aC kids,h=>by
  have h:(gW op aC.length kids.length&&(cA t aC&&(eJ B t kids&&gV B op who name)))=true:=h
  show (gW op aC.length kids.length&&(cA t aC&&(eJ A t kids&&gV A op who name)))=true
  simp only[AI]at h ⊢
  exact⟨h.1,h.2.1,XcD t kids h.2.2.1,ZdP yG h.2.2.2⟩
theorem XcD (t:Bool):∀l:List Cn,eJ B t l=true→eJ A t l=true
 |[],_=>rfl
 |x::l,h=>by
  simp only[eJ,AI]at h ⊢
  exact⟨Xdg t x h.1,XcD t l h.2⟩
end
mutual
theorem Qeg (t:Bool):∀(x:Ef) (d:Int),mQ B t d x=true→mQ A t d x=true
 |.mk op who n name c bQ bV,d,h=>by
  have h:(decide (0<=op) && (decide (op<=8) && (if op=8 then
   decide (who=0)&&(ez n&&(name==[]&&(fH B t c&&((decide (bQ.length<=16)&&(decide (d+1<=8)&&bY B t (d+1) bQ))&&(decide (bV.length<=16)&&(decide (d+1<=8)&&bY B t (d+1) bV))))))
  else fh c && (decide (bQ.length=0) && (decide (bV.length=0) && ((if cw op then eR t n else ez n) && ((if op=7 then ej B name true else name == []) && iO t op who)))))))=true:=h
  show (decide (0<=op) && (decide (op<=8) && (if op=8 then
   decide (who=0)&&(ez n&&(name==[]&&(fH A t c&&((decide (bQ.length<=16)&&(decide (d+1<=8)&&bY A t (d+1) bQ))&&(decide (bV.length<=16)&&(decide (d+1<=8)&&bY A t (d+1) bV))))))
  else fh c && (decide (bQ.length=0) && (decide (bV.length=0) && ((if cw op then eR t n else ez n) && ((if op=7 then ej A name true else name == []) && iO t op who)))))))=true
  rw[AI,AI]at h ⊢
  refine⟨h.1,h.2.1,?_⟩
  have h:=h.2.2
  by_cases h8:op=8
  ·rw[aI h8]at h ⊢
   simp only[AI]at h ⊢
   obtain⟨a1,a2,a3,a4,⟨a5,a6,a7⟩,a8,a9,a10⟩:=h
   exact⟨a1,a2,a3,Xdg yG t c a4,⟨a5,a6,NW t bQ _ a7⟩,a8,a9,NW t bV _ a10⟩
  ·rw[aB h8]at h ⊢
   simp only[AI]at h ⊢
   obtain⟨a1,a2,a3,a4,a5,a6⟩:=h
   refine⟨a1,a2,a3,a4,?_,a6⟩
   by_cases h7:op=7
   ·rw[aI h7]at a5 ⊢;exact yG _ _ a5
   ·rw[aB h7]at a5 ⊢;exact a5
theorem NW (t:Bool):∀(l:List Ef) (d:Int),bY B t d l=true→bY A t d l=true
 |[],_,_=>rfl
 |x::l,d,h=>by
  simp only[bY,AI]at h ⊢
  exact⟨Qeg t x d h.1,NW t l d h.2⟩
end
theorem OV{t:Bool}{d:Int}{l:List Ef}(h:bE B t d l=true):bE A t d l=true:=by
 simp only[bE,AI]at h ⊢;exact⟨h.1,h.2.1,NW yG t l d h.2.2⟩
theorem Zed{c:Cd}(h:eI B c=true):eI A c=true:=by
 simp only[eI,AI]at h ⊢;obtain⟨q1,q2,q3,q4,q5,q6,q7,q8,q9,q10,q11,q12⟩:=h;exact⟨q1,q2,q3,q4,q5,q6,q7,q8,q9,OV yG q10,OV yG q11,OV yG q12⟩
theorem ZbD{a:Cd}(ha:eI A a=true):∀(l pre:List Cd),(dI B pre l).1=0→((pre++l).any λd=>d.name==a.name)=false→(dI A pre (l++[a])).1=0
 |[],pre,_,hn=>by
  rw[zBE]at hn;show (dI A pre [a]).1=0;unfold dI;rw[aB (by simp[hn]),aI ha];rfl
 |c::l,pre,h,hn=>by
  unfold dI at h;show (dI A pre (c::(l++[a]))).1=0;unfold dI;split at h
  ·cases h
  ·rename_i h1;rw[aB h1];split at h
   ·rename_i h2;rw[aI (Zed yG h2)];exact ZbD ha l _ h (by simpa using hn)
   ·cases h
end
theorem Au:∀j<62,eD (ZJ j)=true:=by decide +kernel
theorem Yeh{b:Bk}(cI:(bu b).1=0)(hl:b.aj.length<=61){l:List Ef}(h1:bE b.aj true 1 l=true)(h2:dD 0 l<=200):nf b l=true:=by
 have h:(cH b.aj).1=0:=by
  unfold bu at cI;split at cI
  ·rename_i h1;exact absurd cI h1
  ·rename_i h1;simpa using h1
 refine eX ?_;unfold cH at h ⊢;rw[aB (by omega)]at h;rw[aB (by simp;omega)];have up:∀t u,ej b.aj t u=true→ej (b.aj++[nO b.aj l]) t u=true:=λt u=>XcX _ t u b.aj;obtain⟨f1,j,hj,f2⟩:=W7 hl 62 0 rfl (λk hk=>absurd hk (by omega));refine ZbD up ?_ b.aj [] h ?_
 ·have hp:=OV up h1;have e1:dD 0 ([]:List Ef)=0:=rfl;simp only[eI,AI,fD];refine⟨?_,rfl,rfl,rfl,rfl,rfl,rfl,rfl,?_,hp,rfl,rfl⟩
  ·show eD (yy b.aj 62 0)=true;rw[f2];exact Au j hj
  ·show min (dD 0 l+dD 0 []+dD 0 []) 1073741824<=200;rw[e1];omega
 ·rw[zAL];exact f1
theorem YcR{α:Type}{n by_:Nat}{f:α→List aa}{B:Nat}{σ:List ab}{l m:List α}{v y:aa}{rd:List Nat}(h:GR n f B l v σ)(hB:B<=σ.length)(hy:Zk n σ y=some (m.map f,rd))(hc:aV (m.map f)=true)(hlen:(2*(l.length+m.length)+192)*by_<=2 ^ 48)
 (hK:∀nv τ,GR n f B (l++m) nv τ→(∀c,c<B→ai τ c=ai σ c)→σ.length<=τ.length→(∀c,c<σ.length→(∀rs,ai σ c≠.rows n rs)→ai τ c=ai σ c)→K nv τ) :
  VV.wr (Qf n by_ [v,y] σ) σ K:=by
 rcases h with ⟨rfl,rfl⟩|⟨c,rfl,h2,h3⟩
 ·exact Yd (CQ n by_ hy hc (by simpa using hlen)) (Ye σ _) (hK _ _ (.inr ⟨_,by simp,hB,by simpa using Yc σ _⟩) (λc hc=>Yf _ (by omega)) (by simp) (λc hc _=>Yf _ hc))
 ·have kR:=Zb h3;refine Yd (QL n by_ (off:=0) (len:=l.length) h3 (by simp) hy hc (by simpa using hlen)) (QC _ _ kR) (hK _ _ (.inr ⟨σ.length,by simp,hB,?_⟩) (λk hk=>by rw[Yf _ (by simp;omega),Xb _ (by omega) (by omega)]) (by simp) (λk hk hr=>by rw[Yf _ (by simp;omega),Xb _ hk (by rintro rfl;exact hr _ h3)]));have:=QT (σ:=σ) c (.rows n ((l.map f).drop 0++m.map f));simpa using this
def QS(B:Nat)(ws:List Tr)(qv:aa)(σ:List ab):Prop:=(ws=[]∧qv=.al)∨∃c off rows,qv=.sl c off ws.length false∧B<=c∧ai σ c=.rows 3 rows∧rows.length=ws.length+off∧rows.drop off=ws.map dG
theorem QS.bU{B:Nat}{ws:List Tr}{qv:aa}{σ τ:List ab}(h:QS B ws qv σ)(hk:∀c rs,ai σ c=.rows 3 rs→ai τ c=.rows 3 rs):QS B ws qv τ:=by
 rcases h with h|⟨c,off,rows,h1,h2,h3,h4⟩
 ·exact .inl h
 ·exact .inr ⟨c,off,rows,h1,h2,hk _ _ h3,h4⟩
theorem QS.len{B:Nat}{ws:List Tr}{qv:aa}{σ:List ab}(h:QS B ws qv σ):Yn [qv] σ=.ok (iv ws.length) [] []:=by
 rcases h with ⟨rfl,rfl⟩|⟨c,off,rows,rfl,_⟩<;>rfl
theorem QS.head{B:Nat}{x:Tr}{ws:List Tr}{qv:aa}{σ:List ab}(h:QS B (x::ws) qv σ):∃p xF sv u Cq,Xi 3 [qv,iv 0] σ=.ok p xF []∧Qe true 3 [p] σ=.ok (.agg (dG x)) sv []∧Zz 3 [qv,iv 1] σ=.ok u Cq []∧QS B ws u σ:=by
 rcases h with ⟨h,_⟩|⟨c,off,rows,rfl,hB,h2,h3,h4⟩
 ·cases h
 rw[IS]at *;have ee:rows[off]?=some (dG x):=by
  have:(rows.drop off)[0]?=some (dG x):=by rw[h4];rfl
  grind
 have nj:rows.drop (off+1)=ws.map dG:=by
  have:(rows.drop off).drop 1=ws.map dG:=by rw[h4];rfl
  rwa [List.drop_drop]at this
 exact⟨.ptr c (off+0) 0,[c],[c],.sl c (off+1) ws.length false,[c],rr _ c off (ws.length+1) false 3 rows .i64 0 (by omega) h2,Ar h2 ee rfl,Qdo h2,.inr ⟨c,off+1,rows,rfl,hB,h2,by omega,nj⟩⟩
theorem ZdG{B:Nat}{σ:List ab}{ws ys:List Tr}{v y:aa}{rd:List Nat}(h:QS B ws v σ)(hB:B<=σ.length)(hy:Zk 3 σ y=some (ys.map dG,rd))(hlen:ws.length+ys.length<=100000000)
 (hK:∀nv τ,QS B (ws++ys) nv τ→(∀c,c<B→ai τ c=ai σ c)→σ.length<=τ.length→(∀c,c<σ.length→(∀rs,ai σ c≠.rows 3 rs)→ai τ c=ai σ c)→K nv τ) :
  VV.wr (Qf 3 24 [v,y] σ) σ K:=by
 have hc:aV (ys.map dG)=true:=QK λr hr=>by obtain⟨e,_,rfl⟩:=zAh.1 hr;rfl
 rcases h with ⟨rfl,rfl⟩|⟨c,off,rows,rfl,h2,h3,h4,h5⟩
 ·exact Yd (CQ 3 24 hy hc (by simp at hlen ⊢;omega)) (Ye σ _) (hK _ _ (.inr ⟨σ.length,0,ys.map dG,by simp,hB,Yc σ _,by simp,by simp⟩) (λc hc=>Yf _ (by omega)) (by simp) (λc hc _=>Yf _ hc))
 ·have kR:=Zb h3;refine Yd (QL 3 24 (off:=off) (len:=ws.length) h3 h4 hy hc (by simp;omega)) (QC _ _ kR) (hK _ _ (.inr ⟨σ.length,0,rows.drop off++ys.map dG,by simp,hB,QT c _,by simp[h4],by simp[h5]⟩) (λk hk=>by rw[Yf _ (by simp;omega),Xb _ (by omega) (by omega)]) (by simp) (λk hk hr=>by rw[Yf _ (by simp;omega),Xb _ hk (by rintro rfl;exact hr _ h3)]))
def nJ(s:St):Int×Int×Int×Bool×Int:=(s.turn,s.mover,s.phase,s.bD,s.result)
theorem zq(s:St)(k:Int)(d:Sd):nJ (s.put k d)=nJ s:=by unfold St.put;split<;>rfl
theorem Zei(m:List Int)(s:St)(i:Int):nJ (iV m s i)=nJ s:=zq ..
theorem Ol(m:List Int):∀(l:List Int) (s:St),nJ (dt s m l)=nJ s
 |[],_=>rfl
 |i::l,s=>(Ol m l (iV m s i)).trans (Zei m s i)
theorem XdR{s:St}{k:Int}(e:(aH s k).2.2=0):nJ (aH s k).1=nJ s:=by
 unfold aH at e ⊢;split
 ·rename_i h;rw[h]at e;dsimp only at e;split at e
  ·rename_i q;rw[aI q];exact zq ..
  ·cases e
 ·split
  ·exact(zq ..).trans rfl
  ·exact zq ..
theorem Yb6(k:Int):∀(j:Nat) (s:St),nJ (Xr k j s).2.1=nJ s
 |0,_=>rfl
 |j+1,s=>by
  unfold Xr;split
  ·rename_i e;exact(Yb6 k j _).trans (XdR e)
  ·rfl
theorem Xdf{kd:Int}{fP:Int→Int×Int}{fU:Th→Int×Int}{s:St}{id k:Int}(e:(ga kd fP fU s id k).2.2=0):nJ (ga kd fP fU s id k).1=nJ s:=by
 have z:∀(x:Int),x≠0→(fW,jx,x).2.2=0→False:=λx hx h=>hx h;have hP:∀v,(nE s kd k v).2.2=0→nJ (nE s kd k v).1=nJ s:=by
  intro v e;unfold nE at e ⊢;split at e
  ·rename_i q;rw[aI q];exact zq ..
  ·exact(z _ (by decide) e).elim
 have hU:∀w i id u v,(jR s kd w i id u v).2.2=0→nJ (jR s kd w i id u v).1=nJ s:=by
  intro w i id u v e;unfold jR at e ⊢;split at e
  ·rename_i q;rw[aI q];exact zq ..
  ·exact(z _ (by decide) e).elim
 grind [ga]
theorem QeE(b:Bk)(s:St)(sd tg op who:Int)(name:Tx)(n:Int):nJ (jd b s sd tg op who name n).2.1=nJ s:=by
 unfold jd;split
 ·unfold f_;split
  ·split
   ·rename_i e;unfold o9 at e ⊢;split at e
    ·rename_i q;rw[aI q];exact Xdf e
    ·rename_i q;rw[aB q];exact Xdf e
   ·rfl
  ·rfl
 split
 ·unfold ji;split
  ·exact Yb6 ..
  ·rfl
 split
 ·unfold el;split
  ·rfl
  split
  ·rfl
  ·exact zq ..
 split
 ·unfold cZ;split
  ·rfl
  ·exact(Ol ..).trans (zq ..)
 split
 ·unfold gI;split
  ·rfl
  ·exact Ol ..
 split
 ·exact Ol ..
 ·unfold YY;split
  ·rfl
  ·show nJ (s.put sd { s.side sd with af:=(s.side sd).af++[⟨s.next,(gf 0 b.aj name).1,0,true⟩] })=_;exact zq ..
mutual
theorem Qdy (b:Bk) (sd tg:Int):∀(x:Ef) (s:St) (fu:Int),nJ (ct b sd tg x s fu).2.1=nJ s
 |.mk op who n name c bQ bV,s,fu=>by
  rw[ct]
  split
  ·split
   ·exact Oi b sd tg bQ s fu
   ·exact Oi b sd tg bV s fu
  split
  ·rfl
  ·exact QeE ..
theorem Oi (b:Bk) (sd tg:Int):∀(l:List Ef) (s:St) (fu:Int),nJ (runs b sd tg l s fu).2.1=nJ s
 |[],s,fu=>by rw[runs]
 |x::l,s,fu=>by
  rw[runs]
  split
  ·exact(Oi b sd tg l _ _).trans (Qdy b sd tg x s fu)
  ·exact Qdy b sd tg x s fu
end
theorem Xa3:∀(l:List Int) (s:St),(Xl l s).1.phase=s.phase
 |[],_=>rfl
 |id::l,s=>by
  rw[Xl];show (Xl l (Qn s id).1).1.phase=s.phase;rw[Xa3 l];unfold Qn;split
  ·rfl
  ·split<;>rfl
def wC(e:Ev):List aa:=cp e (if e.kind=14 then .al else aP e.aj)
theorem Qd5{e:Ev}(h:e.kind≠14):wC e=ck e:=by unfold wC;rw[aB h]
theorem P4(l:List Ev):aV (l.map wC)=true:=QK λr hr=>by obtain⟨e,_,rfl⟩:=zAh.1 hr;unfold wC;split<;>rfl
theorem Mk{σ:List ab}{m:List Ev}(h:∀e∈m,e.kind≠14):Zk 7 σ (.aW false false 7 (m.map ck))=some (m.map wC,[]):=by
 rw[List.map_congr_left (g:=wC) λe he=>(Qd5 (h e he)).symm];simp[Zk]
theorem GR.loZ{B:Nat}{l:List Ev}{lv:aa}{σ:List ab}(h:GR 7 wC B l lv σ)(hz:∀e∈l,e.kind=14→e.aj=[]):LO (λ_=>True) l lv σ:=by
 rcases h with h|⟨c,h1,_,h3⟩
 ·exact .inl h
 ·refine .inr ⟨c,_,h1,h3,by simp,λi row e q1 q2=>?_⟩;rw[zAT,q2]at q1;cases q1;refine⟨_,rfl,?_⟩;split
  ·exact .inr (.inl ⟨rfl,hz e (zAI q2) ‹_›⟩)
  ·exact .inl rfl
def tK(again:nA)(v54:List aa)(σ:List ab):Prop:=
 VV.rd (Zn .neq false [h0 v54,.int .i8 0] σ) λt143=>VV.test t143 (
  VV.rd (Qe true 2 [.ak 0 0] σ) λt145=>VV.rd (Qe true 23 [.ak 3 0] σ) λt146=>VV.call (.call 14) [t145,t146,h0 v54] σ λt148 σ=>VV.rd (Qj 0 [t148] σ) λt149=>VV.rd (Qj 1 [t148] σ) λt150=>
  VV.wr (Zs aT [] σ) σ λt25 σ=>VV.wr (Zs ca [] σ) σ λt26 σ=>VV.wr (Zj 23 [t25,t149] σ) σ λ_ σ=>VV.wr (Zj 7 [t26,t150] σ) σ λ_ σ=>VV.rd (Qe true 23 [t25] σ) λt151=>VV.wr (Zj 23 [.ak 3 0,t151] σ) σ λ_ σ=>
  VV.rd (Qe true 7 [t26] σ) λt153=>VV.wr (Xq 7 1 ca [(0,7)] [t153] σ) σ λt154 σ=>VV.wr (Qf 7 72 [h1 v54,t154] σ) σ λt155 σ=>again [t155,h2 v54,h3 v54] σ) (again [h1 v54,h2 v54,h3 v54] σ)
theorem XdX{b:Bk}(h67:PC 42 [cE b] (.agg [iv (bu b).1,iv (bu b).2])){t:St}(ht:aY 1000000000 t){how:Int}(hr:1<=how∧how<=3){again:nA}{cS:List Ev}{ws:List Tr}{wD qv fv:aa}{τ:List ab}(fk:GR 7 wC 4 cS wD τ)(iY:QS 4 ws qv τ)
 (c0:ai τ 0=.box (cq b))(c2:ai τ 2=.box aT)(c3:ai τ 3=.box (aF t))(l4:4<=τ.length)(hn:cS.length<=100000000)(h14:(dK b t how).2.kind≠14)
 (hK:∀nv τ',GR 7 wC 4 (cS++[(dK b t how).2]) nv τ'→QS 4 ws qv τ'→ai τ' 0=.box (cq b)→ai τ' 2=.box aT→ai τ' 3=.box (aF (dK b t how).1)→4<=τ'.length→again [nv,qv,fv] τ'):tK again [aO how,wD,qv,fv] τ:=by
 have h99:=u99 b t ht h67 how;unfold tK;refine av ?_;rw[show (how != 0)=true by simp;omega];refine av (a_ h99 g14.ok ?_);generalize dK b t how=r at *;obtain⟨S,e⟩:=r;dsimp only at *;refine av (YN λτ6 y6 a6 e6=>?_);refine YN λτ7 y7 a7 e7=>?_;have a67:=a6.trans a7;have y6:=a7.get y6;have c0:=a67.get c0;have c2:=a67.get c2;have c3:=a67.get c3;have fk:=fk.bU (τ:=τ7) λc rs e=>a67.get e;have iY:=iY.bU (τ:=τ7) λc rs e=>a67.get e;refine Zq y6 rfl rfl rfl λτ8 y8 k8 kk8=>?_;have y7:=k8.box y7;have l8:=k8.1;refine Zq y7 rfl rfl rfl λτ9 y9 k9 LI=>?_;have y8:=k9.box y8;have l9:=k9.1;have c0:=k9.box (k8.box c0) (by simp;omega);have c2:=k9.box (k8.box c2) (by simp;omega);have c3:=k9.box (k8.box c3) (by simp;omega);have fk:=(fk.bU λc=>kk8 c 7).bU λc=>LI c 7;have iY:=(iY.bU λc=>kk8 c 3).bU λc=>LI c 3;refine av (Zq c3 rfl rfl rfl λAX c3 k10 xz=>?_);have y9:=k10.box y9;have l10:=k10.1;have c0:=k10.box c0 (by decide);have c2:=k10.box c2 (by decide);have fk:=fk.bU λc=>xz c 7;have iY:=iY.bU λc=>xz c 3;refine av ?_;refine zo fk (by omega) e (by rw[Qd5 h14];rfl) (P4 [e]) (by omega) λnv2 Gz fk q1 q2 q3=>?_;exact hK _ _ fk (iY.bU λc rs e=>by rw[q3 c (Zb e) (by rw[e];simp)];exact e) (by rw[q1 0 (by decide)];exact c0) (by rw[q1 2 (by decide)];exact c2) (by rw[q1 3 (by decide)];exact c3) (by omega)
theorem u93(b:Bk)(s:St)(hf:ba b=true)(bW:Yg b.aj)(wK:b.aj.length<=61)(cI:(bu b).1=0)(h67:PC 42 [cE b] (.agg [iv (bu b).1,iv (bu b).2]))(row:List Tr)(hl:row.length<=1000)(ee:∀x∈row,jA b x)(fu:Int){N C:Nat}(hS:cL b N C s)(hN:N+12000*(row.length+bG s+1)<=1000000)(hC:C+200*((Xk fu).toNat+1)+14<=1000000) :
  PC 9 [cE b,bZ s,qN row,iv fu] (j0 (bT b s row fu)):=by
 have jq:b.aj.length<=gy:=by rw[c9];omega
 have h50:=c25 b s hS.qA true _ _ h67;rw[Xo.2 ⟨cI,hS.may⟩]at h50;have h214:=u214 b row (by omega);have oK:row.any (kV b)=false:=by
  rw[zED];intro x hx;obtain⟨h1,h2,h3⟩:=ee x hx;have e1:¬x.card<0:=by omega
  have e2:¬x.card >= b.aj.length:=by omega
  have e3:¬x.side<0:=by omega
  have e4:¬x.side>1:=by omega
  unfold kV;rw[gB e1,gB e2,gB e3,gB e4];decide
 rw[oK,eX (by omega)]at h214;have h44:=u44 s hS.qA;refine Yi hP g9.ok rfl ?_;rw[H4.e];unfold g9;dsimp only;refine au (a_ h50 g29.ok ?_);refine au (a_ h214 g30.ok ?_);refine au ?_;refine a_ h44 g31.ok ?_;refine au ?_;simp only[IS,zAG,zAL,zAJ,IN,Nat.reduceAdd];have wT:0<=Xk fu∧Xk fu<=1000:=by unfold Xk;omega
 have hF0:bT b s row fu=if s.phase=2 then (0,s,[],Xk fu)else XK b ((Xk fu).toNat+1) s row (Xk fu) []:=by
  unfold bT;rw[aB (by rw[Xo.2 ⟨cI,hS.may⟩];simp;omega),aB (by rw[oK];simp)]
 refine ZdG (B:=4) (ws:=[]) (ys:=row) (.inl ⟨rfl,rfl⟩) (by simp) (y:=qN row) (rd:=[]) (by simp[Zk]) (by simp;omega) λqv τ0 K9 k0 l0 _=>?_;rw[zAL]at K9;simp only[IS,zAG,IN,Nat.reduceAdd]at l0;have b0:ai τ0 0=.box (cq b):=by rw[k0 0 (by decide)];rfl
 have b2:ai τ0 2=.box aT:=by rw[k0 2 (by decide)];rfl
 have b3:ai τ0 3=.box (aF s):=by rw[k0 3 (by decide)];rfl
 have iZ:Qk s<=14:=by have h0:=hS.may.s0.af;have h1:=hS.may.s1.af;unfold Qk;omega
 refine Qg λkk ekk=>?_;refine Xg (ι:=Nat) (λm vs τ=>∃ t ws fi cS wD qv N' C' n,vs=[wD,qv,iv fi]∧m=(if t.phase=2 then 0 else fi.toNat * 100 + Qk t + 1)∧GR 7 wC 4 cS wD τ∧QS 4 ws qv τ∧ai τ 0=.box (cq b)∧ai τ 2=.box aT∧ai τ 3=.box (aF t)∧4<=τ.length ∧
   cL b N' C' t∧C'+200*(fi.toNat+1)+14<=1000000∧(∀x∈ws,jA b x)∧(∀e∈cS,e.kind=14→e.aj=[])∧0<=fi∧fi<=1000∧fi<=((n:Nat):Int)∧(t.phase≠2→N'+12000*(ws.length+bG t+1)<=1000000∧cS.length+Qk t<=13000*(1001-fi.toNat)∧ws.length+14*Qk t<=1200+200*(1001-fi.toNat)) ∧
   bT b s row fu=(if t.phase=2 then (0,t,cS,fi)else XK b (n + 1) t ws fi cS)) (λm=>m) _ ⟨s,row,Xk fu,[],.al,qv,N,C,(Xk fu).toNat,rfl,rfl,.inl ⟨rfl,rfl⟩,K9,b0,b2,b3,l0,hS,hC,ee,by simp,wT.1,wT.2,by omega,λ_=>⟨hN,by have:=iZ;simp;omega,by have:=iZ;omega⟩,hF0⟩ ?_
 rintro m _ τ again ⟨t,ws,fi,cS,wD,qv,N',C',n,rfl,rfl,fk,iY,c0,c2,c3,l4,ht,Ul,An,hz,wR,vb,yL,hJ,hF⟩ bj;refine av ?_;refine Ya (λhp=>?_) (λhp=>?_)
 ·have hp:t.phase≠2:=by simpa using hp
  rw[aB hp]at hF bj;obtain⟨hN',hJ1,hJ2⟩:=hJ hp;have zU:=(Qz (aJ b t) t).1;have Pk:=X7 b t (aJ b t);have aau:=(YG ht.may).2.2;have h215:=u215 b t cI ht.may h67;refine av (a_ h215 g32.ok ?_);refine av (YN λτ1 z1 a1 e1=>?_);have c0:=a1.get c0;have c2:=a1.get c2;have c3:=a1.get c3;have fk:=fk.bU (τ:=τ1) λc rs e=>a1.get e;have iY:=iY.bU (τ:=τ1) λc rs e=>a1.get e;refine Zq z1 rfl rfl rfl λτ2 z2 k2 sU=>?_;have n0:(0:Nat)∉[τ.length]:=by simp;omega
  have n2:(2:Nat)∉[τ.length]:=by simp;omega
  have n3:(3:Nat)∉[τ.length]:=by simp;omega
  have c0:=k2.box c0 n0;have c2:=k2.box c2 n2;have c3:=k2.box c3 n3;have fk:=fk.bU λc=>sU c 7;have iY:=iY.bU λc=>sU c 3;have l2:=k2.1;refine av (Zq c3 rfl rfl rfl λτ3 c3 k3 vJ=>?_);have c0:=k3.box c0 (by decide);have c2:=k3.box c2 (by decide);have fk:=fk.bU λc=>vJ c 7;have iY:=iY.bU λc=>vJ c 3;have l3:=k3.1;have Kn:∀e∈(Xl (aJ b t) t).2,e.kind≠14:=λe he=>by rw[((Qz (aJ b t) t).2.1 e he).2];decide
  refine YcR fk (by omega) (m:=(Xl (aJ b t) t).2) (Mk Kn) (P4 _) (by omega) λnv τ4 fk k4 l4b r4=>?_;have iY:=iY.bU (τ:=τ4) λc rs e=>by rw[r4 c (Zb e) (by rw[e];simp)];exact e
  refine ZdG iY (by omega) (ys:=e_ b t (aJ b t)) (rd:=[]) (by simp[Zk]) (by omega) λnq τ5 iY k5 l5 r5=>?_;have fk:=fk.bU (τ:=τ5) λc rs e=>by rw[r5 c (Zb e) (by rw[e];simp)];exact e
  have c0:ai τ5 0=.box (cq b):=by rw[k5 0 (by decide),k4 0 (by decide)];exact c0
  have c2:ai τ5 2=.box aT:=by rw[k5 2 (by decide),k4 2 (by decide)];exact c2
  have c3:ai τ5 3=.box (aF (Xl (aJ b t) t).1):=by rw[k5 3 (by decide),k4 3 (by decide)];exact c3
  refine av ?_;rw[zAM];refine Ya (λhq=>?_) (λhq=>?_)
  ·have hd:aJ b t≠[]:=by intro e;rw[e]at hq;simp[Xl]at hq
   have hqs:=X_ (by omega:C'+14<=1000000) ws cS ht hd;have w_:=Hf ht.may hd;have hbh:=Rq (aJ b t) t (YG ht.may).1 ht.may.un.2 (WZ cI ht.may);have xq:(Xl (aJ b t) t).1.phase≠2:=by rw[Xa3];exact hp
   refine bj _ _ _ ?_ ⟨(Xl (aJ b t) t).1,ws++e_ b t (aJ b t),fi,_,nv,nq,N',C',n,rfl,rfl,fk,iY,c0,c2,c3,by omega,ht.te (by omega),Ul,?_,?_,wR,vb,yL,λ_=>⟨by simp only[By];omega,by simp only[By];omega,by simp only[By];omega⟩,?_⟩
   ·rw[aB xq];omega
   ·intro x hx;rcases zAF.1 hx with hx|hx
    ·exact An x hx
    ·exact Sp ht.may _ (YG ht.may).2.1 x hx
   ·intro e he;rcases zAF.1 he with he|he
    ·exact hz e he
    ·exact λq=>absurd q (Kn e he)
   ·rw[aB xq,hF];unfold XK;rw[hqs]
  ·have hd:aJ b t=[]:=by
    by_cases e:aJ b t=[]
    ·exact e
    ·have h1:=Hf ht.may e;have h2:=(Qz (aJ b t) t).1;have hq:¬0<(Xl (aJ b t) t).2.length:=by simpa using hq
     omega
   rw[hd]at fk iY c3;simp only[Xl,e_,zBE]at fk iY c3;have hR:=Nl (b:=b) n fi (XbL (Qk t) ws cS hd);rw[hR]at hF;refine av (a_ (u216 t) g33.ok ?_);have hrr:0<=bO t∧bO t<=3:=by unfold bO;grind
   generalize bO t=how at *;have oT:∀(how:Int) (S:St) (N2 C2:Nat) (fm:List Ev) (vx:List Tr) (wE:Int) (C_ L3:aa) (τ2:List ab),1<=how∧how<=3→cL b N2 C2 S→GR 7 wC 4 fm C_ τ2→QS 4 vx L3 τ2→ai τ2 0=.box (cq b)→ai τ2 2=.box aT→ai τ2 3=.box (aF S)→4<=τ2.length→fm.length<=100000000→0<=wE→wE<=1000 →
     C2+200*(wE.toNat+1)+14<=1000000→(∀x∈vx,jA b x)→(∀e∈fm,e.kind=14→e.aj=[])→bT b s row fu=jm b S fm wE how→tK again [aO how,C_,L3,iv wE] τ2:=by
    intro how S N2 C2 fm vx wE C_ L3 τ2 hr Ph fk iY c0 c2 c3 l4 hn f0 f1 mH VB mJ hF2;obtain⟨Vk,DO,K6⟩:=QcN cI Ph hr;refine XdX h67 Ph.qA hr fk iY c0 c2 c3 l4 hn K6 λnv τ' fk iY c0 c2 c3 l4=>?_;refine bj 0 _ _ (by omega) ⟨_,vx,wE,_,nv,L3,N2,C2,wE.toNat,rfl,by rw[aI DO],fk,iY,c0,c2,c3,l4,Vk,mH,VB,λe he=>?_,f0,f1,by omega,λq=>absurd DO q,by rw[aI DO,hF2];rfl⟩;rcases zAF.1 he with he|he
    ·exact mJ e he
    ·rw[zAs]at he;subst he;exact λq=>absurd q K6
   refine av ?_;by_cases hr:how=0
   ·subst hr;rw[aB (by simp)]at hF;refine Qa (Za rfl (Qa (Za iY.len (Qa (Za rfl ?_)))));cases ws with
    |nil=>
     refine av ?_;rw[ekk,hF];refine av (Zq c2 rfl rfl rfl λτ6 y1 k1 Cc=>?_);refine Zp (XH y1 rfl) ?_;have fk:=fk.bU (τ:=τ6) λc=>Cc c 7;exact⟨zAB τ6.length,aA.bp (.cons (aA.ro rfl) (.cons (fk.loZ hz).Bi (bd.ro rfl)))⟩
    |cons x ws=>
     dsimp only at hF;have hx:=An x (by simp);have Lt:∀y∈ws,jA b y:=λy hy=>An y (by simp[hy]);refine Za rfl (Ya (λh=>by simp at h;omega) λ_=>?_);refine Za rfl (Qa (Za rfl (Qa (Za rfl (Za rfl (Qg λk50 e50=>?_))))));by_cases uy:fi=0
     ·subst uy;rw[aI rfl]at hF;refine Xh ?_;rw[e50];refine Za rfl (Qg λk53 e53=>Xe ?_);rw[e53];exact oT 3 t N' C' _ (x::ws) 0 _ _ _ (by decide) ht fk iY c0 c2 c3 (by omega) (by omega) (by decide) (by decide) Ul An hz hF
     rw[aB uy]at hF;refine Ya (λh=>absurd (by simpa using h) uy) λ_=>?_;rw[e50];refine Za rfl (Qg λk53 e53=>Xh ?_);obtain⟨p,xF,sv,u,Cq,q1,q2,_,_⟩:=iY.head;refine Za q1 (Za q2 ?_);refine YN λτ6 y6 a6 e6=>?_;have c0:=a6.get c0;have c2:=a6.get c2;have c3:=a6.get c3;have fk:=fk.bU (τ:=τ6) λc rs e=>a6.get e;have iY:=iY.bU (τ:=τ6) λc rs e=>a6.get e;refine Zq (cs:=dG x) y6 rfl rfl rfl λτ7 y7 k7 LH=>?_;have c0:=k7.box c0;have c2:=k7.box c2;have c3:=k7.box c3;have fk:=fk.bU λc=>LH c 7;have iY:=iY.bU λc=>LH c 3;have l7:=k7.1;obtain⟨_,_,_,L3,Cq,_,_,q3,xt⟩:=iY.head;clear q1 q2 iY;refine Za q3 (Za (CX ..) ?_);rw[zAY _ (by omega)];refine av ?_;refine zo fk (by omega) (nH x) rfl rfl (by omega) λnv2 τ8 fk r1 r2 r3=>?_;have y8:ai τ8 τ5.length=.box (dG x):=by rw[r3 _ (by omega) (by rw[y7];simp)];exact y7
     have c0:ai τ8 0=.box (cq b):=by rw[r1 0 (by decide)];exact c0
     have c2:ai τ8 2=.box aT:=by rw[r1 2 (by decide)];exact c2
     have c3:ai τ8 3=.box (aF t):=by rw[r1 3 (by decide)];exact c3
     have iY:=xt.bU (τ:=τ8) λc rs e=>by rw[r3 c (Zb e) (by rw[e];simp)];exact e
     generalize τ5.length=xb at *;obtain⟨c,hc,c1,c5⟩:=CA (b:=b) ⟨hx.1,hx.2.1⟩;have cB:=λ(σ:List ab)=>Ym σ cN false false 12 b.aj .i64 c hc;rw[←c1]at cB;have hE:br b x=if x.cM=true then b.aj[c].cM else b.aj[c].dead:=by unfold br;rw[c5]
     have mr:=Ydd cI (AT hc);have zY:=P2 hf bW (AT hc);generalize b.aj[c]=cd at *;refine av (Za (cB _) (Za rfl (Za (v:=gZ cd.dead) (bB rfl) ?_)));refine Za rfl (Za (v:=.bool x.cM) (ld y8 rfl) (Qg λk76 e76=>?_));have body:k76 [gZ (br b x)] τ8:=by
      have jN:bF (br b x)=true∧bE b.aj true 1 (br b x)=true∧dD 0 (br b x)<=200:=by
       rw[hE];split
       ·exact⟨zY.2.1,mr.2⟩
       ·exact⟨zY.1,mr.1⟩
      clear hE cB zY mr;obtain⟨f1,f2,f3⟩:=jN;rw[IS]at hN';have dE:=Yeh cI wK f2 f3;have h80:=u80 b x.side (-1) hx.2.2 jq cI h67 (br b x) f1 f2 f3 t (fi-1) ⟨by omega,by omega⟩ ht (by omega) (by omega);rw[aB (show ¬Yt b x.side (fi-1) (br b x)=true by unfold Yt;rw[dE];have:=hx.2.2;simp;omega)]at hF;have rN:=Hc b x.side (-1) (br b x) t (fi-1) (by omega);have xq:(runs b x.side (-1) (br b x) t (fi-1)).2.1.phase=t.phase:=congrArg (λp=>p.2.2.1) (Oi ..);have Vt:=X9 b x.side (-1) (br b x) 1 t (fi-1) (Oj cI hx);have Po:=Ir b x.side (-1) (br b x) t (fi-1);have va:(bz (br b x)).length<=200:=by rw[vR 0 _ (by omega) (by omega)]at f3;omega
      obtain⟨k1,k2⟩:=A9 (b:=b) (tg:=-1) hx.2.2 (br b x) (fi-1) ht (by omega) (by omega);have k1:=k1.mono (N':=N'+12000) (C':=C'+200) (by omega) (by omega);rw[e76];refine av (a_ h80 g34.ok ?_);generalize runs b x.side (-1) (br b x) t (fi-1)=r at *;obtain⟨er,S,wE,fm⟩:=r;dsimp only at *;refine av (YN λτ9 y9 a9 e9=>?_);have c0:=a9.get c0;have c2:=a9.get c2;have c3:=a9.get c3;have fk:=fk.bU (τ:=τ9) λc rs e=>a9.get e;have iY:=iY.bU (τ:=τ9) λc rs e=>a9.get e;refine Zq y9 rfl rfl rfl λAX y10 k10 xz=>?_;have c0:=k10.box c0;have c2:=k10.box c2;have c3:=k10.box c3;have fk:=fk.bU λc=>xz c 7;have iY:=iY.bU λc=>xz c 3;have l10:=k10.1;refine Za (ZX ..) ?_;by_cases oK:er≠0∧er≠190
      ·rw[aB oK.1,aB oK.2]at hF;rw[eX oK.1,hF];refine Qa (Za rfl (Qa (Za (ZX ..) ?_)));rw[eX oK.2];refine av (Zq c2 rfl rfl rfl λGz y11 k11 aaM=>?_);refine Zp (XH y11 rfl) ?_;exact⟨[],aA.bp (.cons SB.zero.agg (.cons (aA.nl 7) (bd.ro rfl)))⟩
      have skip:∀K,K (.bool false)→VV.gr (.bool (decide (er≠0))) true (λk=>VV.rd (rl [iv er] AX) k) λv=>VV.gr (.bool (decide (er≠0))) true (λk=>VV.rd (Zn .neq false [v,.int .i64 190] AX) k) λw=>VV.rd (Yo [.bool (decide (er≠0)),w,.bool false] AX) K:=by
       intro K hk;by_cases h0:er≠0
       ·have h1:¬er≠190:=λq=>oK ⟨h0,q⟩;rw[eX h0];refine Qa (Za rfl (Qa (Za (ZX ..) ?_)));rw[gB h1];exact Za rfl hk
       ·rw[gB h0];exact Qc rfl (Qc rfl (Za rfl hk))
      refine skip _ (Xe (Za (ld y10 rfl) ?_));refine Zq c3 rfl rfl rfl λGz c3 k11 LG=>?_
      replace c3:ai Gz 3=.box (aF S):=c3
      have c0:=k11.box c0 (by decide);have c2:=k11.box c2 (by decide);have fk:=fk.bU λc=>LG c 7;have iY:=iY.bU λc=>LG c 3;have l11:=k11.1;refine YcR fk (by omega) (m:=fm) (Mk Po) (P4 _) (by simp only[By,IS,zAG];omega) λnv3 AY fk q1 q2 q3=>?_;have iY:=iY.bU (τ:=AY) λc rs e=>by rw[q3 c (Zb e) (by rw[e];simp)];exact e
      have c0:ai AY 0=.box (cq b):=by rw[q1 0 (by decide)];exact c0
      have c2:ai AY 2=.box aT:=by rw[q1 2 (by decide)];exact c2
      have c3:ai AY 3=.box (aF S):=by rw[q1 3 (by decide)];exact c3
      have mJ:∀e∈cS++[nH x]++fm,e.kind=14→e.aj=[]:=by
       intro e he;rcases zAF.1 he with he|he
       ·rcases zAF.1 he with he|he
        ·exact hz e he
        ·rw[zAs]at he;subst he;exact λ_=>rfl
       ·exact λq=>absurd q (Po e he)
      have aaH:Qk S<=14:=by have h0:=k1.may.s0.af;have h1:=k1.may.s1.af;unfold Qk;omega
      have fJ:(cS++[nH x]++fm).length=cS.length+1+fm.length:=by simp;omega
      rw[IS]at hJ2;refine Za (Zt ..) (Ya (λh1=>?_) (λh1=>?_))
      ·have h1:er=190:=by simpa using h1
       subst h1;rw[aB (by decide),aI rfl]at hF;rw[e53];exact oT 3 S _ _ _ ws wE _ _ _ (by decide) k1 fk iY c0 c2 c3 (by omega) (by omega) rN.1 (by omega) (by omega) Lt mJ hF
      ·have h0:er=0:=by
        have h1:er≠190:=by simpa using h1
        by_cases h0:er=0
        ·exact h0
        ·exact absurd ⟨h0,h1⟩ oK
       subst h0;rw[aI rfl]at hF;rw[e53];refine Za rfl (Xe ?_);obtain⟨n',rfl⟩:∃n',n=n'+1:=⟨n-1,by omega⟩;refine bj _ _ _ ?_ ⟨S,ws,wE,_,nv3,_,_,_,n',rfl,rfl,fk,iY,c0,c2,c3,by omega,k1,by omega,Lt,mJ,rN.1,by omega,by omega,λ_=>⟨by omega,by omega,by omega⟩,?_⟩
       ·rw[aB (by rw[xq];exact hp)];omega
       ·rw[aB (by rw[xq];exact hp)];exact hF
     refine Ya (λhd=>?_) (λhd=>?_)
     ·rw[aI hd]at hE;rw[hE]at body;exact av (Za (cB _) (Za rfl (Za (v:=gZ cd.cM) (bB rfl) body)))
     ·rw[aB (by simpa using hd)]at hE;rw[hE]at body;exact body
   ·rw[aI hr]at hF;have zQ:(how==0)=false:=by simpa using hr
    rw[zQ];refine Qc rfl (Qc rfl (Qc rfl ?_));refine av ?_;rw[zQ];refine Qc rfl (Qc rfl (Za rfl (Qg λk50 e50=>Xe ?_)));rw[e50];refine Za rfl (Qg λk53 e53=>?_);rw[zQ];refine Xe ?_;rw[e53];exact oT how t N' C' _ ws fi _ _ _ (by omega) ht fk iY c0 c2 c3 (by omega) (by omega) wR vb Ul An hz hF
 ·have hp:t.phase=2:=by simpa using hp
  rw[aI hp]at hF;rw[ekk,hF];refine av (Zq c2 rfl rfl rfl λτ1 y1 k1 Cc=>?_);refine Zp (XH y1 rfl) ?_;have fk:=fk.bU (τ:=τ1) λc=>Cc c 7;exact⟨zAB τ1.length,aA.bp (.cons (aA.ro rfl) (.cons (fk.loZ hz).Bi (bd.ro rfl)))⟩
theorem WH(b:Bk)(s:St)(hf:ba b=true)(bW:Yg b.aj)(ik:aL (bu b).1 b s true=true→b.aj.length<=61)(hs:aY 1000000000 s)(row:List Tr)(hl:row.length<=1000000000)(fu:Int)(N C:Nat)(hT:TB N s)(hC:Zm s<=C)(hN:aL (bu b).1 b s true=true→N+12000*(row.length+bG s+1)<=1000000)(mH:C+200*((Xk fu).toNat+1)+14<=1000000) :
  PC 9 [cE b,bZ s,qN row,iv fu] (j0 (bT b s row fu)):=by
 have h67:=c67 b hf;have h50:=c25 b s hs true _ _ h67;have h214:=u214 b row hl;by_cases rO:aL (bu b).1 b s true=true∧(!row.any (kV b)&&decide ((row.length:Int)<=1000))=true
 ·obtain⟨hm,hr⟩:=rO;obtain⟨cI,hM⟩:=Xo.1 hm;simp only[AI,fD,zAg]at hr;exact u93 b s hf bW (ik hm) cI h67 row (by omega) (λx hx=>ON (by have:=zED.1 hr.1 x hx;simpa using this)) fu ⟨hM,hT,hC⟩ (hN hm) mH
 have hF:bT b s row fu=(170,fW,[],0):=by
  unfold bT
  grind
 rw[hF];refine Yi hP g9.ok rfl ?_;rw[H4.e];unfold g9;dsimp only;refine au (a_ h50 g29.ok ?_);cases hm:aL (bu b).1 b s true with
 |false=>
  refine au ?_;exact⟨[],aA.bp (.cons SB.zero.agg (.cons (aA.nl 7) (bd.ro rfl)))⟩
 |true=>
  refine au (a_ h214 g30.ok ?_);rw[show (!row.any (kV b)&&decide ((row.length:Int)<=1000))=false by simpa[hm]using rO];refine au ?_;exact⟨[],aA.bp (.cons SB.zero.agg (.cons (aA.nl 7) (bd.ro rfl)))⟩
theorem XcG{σ:List ab}{b k:Nat}{l:List Th}{u:Th}(v:Bool)(hb:ai σ b=.rows 4 (l.map bc))(hk:l[k]?=some u):Zj 1 [.ptr b k 3,.bool v] σ=.ok .aQ [] [(b,.rows 4 ((l.set k { u with nw:=v }).map bc))]:=by
 have lW:k<(l.map bc).length:=by grind
 have h1:nth (l.map bc) k=some (bc u):=by rw[Y3,zAT,hk];rfl
 have h2:YC k (bc { u with nw:=v }) (l.map bc)=some ((l.set k { u with nw:=v }).map bc):=by
  rw[Z1 lW,List.map_set]
 show (match ai σ b with
   |.rows sz rs=>match nth rs k with
    |some row=>match cellsOf (.bool v)with
     | some cs=>bif IT cs.length 1 then (match bX 3 cs row with
      |some row'=>match YC k row' rs with
       |some rs'=>aN.ok .aQ [] [(b,.rows sz rs')]
       |none=>.stop
      | none=>.stop)else .stop
     |none=>.stop
    |none=>.stop
   | _=>.stop)=_
 simp_all [bc]
def Cv(s:St)(m:Int)(l:List Th):St:=s.put m { s.side m with af:=l }
def KP(τ:List ab)(n:Nat)(t:St):Prop:=∀i x,(jn t)[i]?=some x→ai τ (n+i)=x
theorem KP.mono{τ τ':List ab}{n:Nat}{t:St}(h:KP τ n t)(k:∀c m rs,ai τ c=.rows m rs→ai τ' c=.rows m rs):KP τ' n t:=by
 intro i x hx;have:=h i x hx
 match i,hx with
 |0,rfl|1,rfl|2,rfl|3,rfl|4,rfl|5,rfl|6,rfl|7,rfl|8,rfl|9,rfl|10,rfl=>exact k _ _ _ this
theorem KP.un{τ:List ab}{n:Nat}{s:St}{m:Int}(hm:m=0∨m=1){l:List Th}(h:KP τ n (Cv s m l)):ai τ (n+sH m)=.rows 4 (l.map bc):=by
 rcases hm with rfl|rfl
 ·exact h 4 _ rfl
 ·exact h 9 _ rfl
theorem KP.set{τ:List ab}{n:Nat}{s:St}{m:Int}(hm:m=0∨m=1){l l':List Th}(h:KP τ n (Cv s m l)):KP (τ.set (n+sH m) (.rows 4 (l'.map bc))) n (Cv s m l'):=by
 have cc:=Zb (h.un hm);intro i x hx;have hi:i<11:=(gE hx).1;by_cases e:i=sH m
 ·subst e;rw[Zd _ cc];rcases hm with rfl|rfl<;>(cases hx;rfl)
 ·have DT:(jn (Cv s m l))[i]?=some x:=by
   rw[←hx];rcases hm with rfl|rfl
   ·match i,e with
    |0,_|1,_|2,_|3,_|5,_|6,_|7,_|8,_|9,_|10,_=>rfl
    |i+11,_=>rfl
   ·match i,e with
    |0,_|1,_|2,_|3,_|4,_|5,_|6,_|7,_|8,_|10,_=>rfl
    |i+11,_=>rfl
  have h0:=h i x DT;have uE:n+i<τ.length:=by
   by_cases hd:x=.dead
   ·subst hd
    match i,hi with
    |0,_|1,_|2,_|3,_|4,_|5,_|6,_|7,_|8,_|9,_|10,_=>cases hx
   ·exact Zb h0 hd
  rw[Xb _ uE (by omega)];exact h0
def D5(n:Nat):List Nat:=(zAB 11).map (n + ·)
theorem vA{n i:Nat}(h:i<11):n+i∈D5 n:=zAh.2 ⟨i,zBD.2 h,rfl⟩
theorem N4{n c:Nat}(h:c∈D5 n):n<=c∧c<n+11:=by obtain⟨i,hi,rfl⟩:=zAh.1 h;rw[zBD]at hi;omega
theorem KP.sb{τ:List ab}{n:Nat}{t:St}(h:KP τ n t):SB τ (D5 n) (jz t n) t:=SB.copy h λ_ hi=>vA hi
theorem KP.cells{τ:List ab}{n:Nat}{t:St}(h:KP τ n t):iF (hp τ) (D5 n) (jz t n) (aF t):=
 ⟨.inl rfl,.inl rfl,.inl rfl,.inl rfl,.inl rfl,.inr (RI.own (h 0 _ rfl) (vA (i:=0) (by decide)) rfl),.inl rfl,.inl rfl,.inl rfl,.inl rfl,.inr (RI.own (h 1 _ rfl) (vA (i:=1) (by decide)) rfl),.inr (RI.own (h 2 _ rfl) (vA (i:=2) (by decide)) rfl),.inr (RI.own (h 3 _ rfl) (vA (i:=3) (by decide)) rfl),.inr (RT.own (h 4 _ rfl) (vA (i:=4) (by decide)) rfl),.inr (RI.own (h 5 _ rfl) (vA (i:=5) (by decide)) rfl),
  .inl rfl,.inl rfl,.inl rfl,.inr (RI.own (h 6 _ rfl) (vA (i:=6) (by decide)) rfl),.inr (RI.own (h 7 _ rfl) (vA (i:=7) (by decide)) rfl),.inr (RI.own (h 8 _ rfl) (vA (i:=8) (by decide)) rfl),.inr (RT.own (h 9 _ rfl) (vA (i:=9) (by decide)) rfl),.inr (RI.own (h 10 _ rfl) (vA (i:=10) (by decide)) rfl),trivial⟩
theorem KP.live{τ:List ab}{n:Nat}{t:St}(h:KP τ n t):∀c∈D5 n,ai τ c≠.dead:=by
 intro c hc;obtain⟨i,hi,rfl⟩:=zAh.1 hc;have hi:=zBD.1 hi
 match i,hi with
 |0,_|1,_|2,_|3,_|4,_|5,_|6,_|7,_|8,_|9,_|10,_=>rw[h _ _ rfl];simp
def fI(s:St)(m:Int):St:={ s.put m (zp (s.side m))with bD:=false }
theorem Zb5(s:St):ZG s=fI s s.mover:=rfl
def BI(s:St)(m:Int):St:={ s.put m { s.side m with aU:=min ((s.side m).most+1) 10,most:=min ((s.side m).most+1) 10 }with bD:=false }
theorem YbE{s:St}{m:Int}(hm:m=0∨m=1)(n:Nat):jz (fI s m) n=jz (BI s m) n:=by
 rcases hm with rfl|rfl<;>simp[jz,xJ,fI,BI,St.put,St.side,zp]
theorem QcE{τ:List ab}{s:St}{m:Int}{n:Nat}(hm:m=0∨m=1)(h:KP τ n (Cv s m ((s.side m).af.map uS))):KP τ n (fI s m):=by
 rcases hm with rfl|rfl<;>exact h
theorem YcS{s:St}{m:Int}(hm:m=0∨m=1):Cv s m (s.side m).af=s:=by
 rcases hm with rfl|rfl<;>rfl
section
variable {m:Int} (hm:m=0∨m=1)
include hm
theorem yu(q:Nat)(σ:List ab):Yk 2 8 [.ak q (0+7),iv m] σ=.ok (.ak q (sV m)) [] []:=by rcases hm with rfl|rfl<;>rfl
theorem OQ(s:St)(n:Nat):aK false (sV m+2) 1 (jz s n)=some (iv (s.side m).most):=by rcases hm with rfl|rfl<;>rfl
theorem OY(s:St)(n:Nat):aK false (sV m+6) 1 (jz s n)=some (.sl (n+sH m) 0 (s.side m).af.length false):=by rcases hm with rfl|rfl<;>rfl
theorem SH(s:St):aK false (sV m+6) 1 (aF s)=some (gS (s.side m).af):=by rcases hm with rfl|rfl<;>rfl
theorem YdD(s:St)(n:Nat)(x:Int):bX (sV m+2) [iv x] (jz s n)=some (jz (s.put m { s.side m with most:=x }) n):=by rcases hm with rfl|rfl<;>rfl
theorem ZdD(s:St)(n:Nat)(x:Int):bX (sV m+1) [iv x] (jz s n)=some (jz (s.put m { s.side m with aU:=x }) n):=by rcases hm with rfl|rfl<;>rfl
theorem YcQ(s:St)(d:Sd):(s.put m d).side m=d:=by rcases hm with rfl|rfl<;>rfl
end
def mh(l:List Th)(i:Nat):List Th:=(l.take i).map uS++l.drop i
theorem Zdr{l:List Th}{i:Nat}(h:i<l.length):(mh l i)[i]?=some l[i]∧(mh l i).set i (uS l[i])=mh l (i+1):=by
 unfold mh;have hl:((l.take i).map uS).length=i:=by simp;omega
 constructor
 ·rw[zAO (by omega),hl];simp[h]
 ·rw[List.set_append_right _ _ (by omega),hl,zCp,gK h,List.set_cons_zero,Yu l i h,List.map_append,zAb];rfl
def HP(d:List Int)(a:Int):Prop:=0<=a∧(a=0∨a<d.length)∧(d≠[]→a<d.length)
theorem HP.zero(d:List Int):HP d 0:=⟨by omega,.inl rfl,λh=>by cases d with|nil=>exact(h rfl).elim|cons x l=>simp⟩
theorem ZdW{b:Bk}{s:St}(h:du b s):aY 1000000 s:=by
 obtain⟨hd,h0,h1,_,ha⟩:=h;have side:∀x:Sd,gm b x→lz 1000000 x:=by
  intro x k;have k1:=(Yh.1 k.az).1;have k2:=(Yh.1 k.hand).1;have k3:=(Yh.1 k.an).1;have k4:=(Yh.1 k.told).1;have k5:=k.af;exact⟨by omega,by omega,by omega,by omega,by omega⟩
 refine⟨?_,side _ h0,side _ h1⟩;by_cases hp:s.phase=1
 ·have:=(ha.2 hp).2.1;omega
 ·rw[ha.1 hp];simp
@[reducible] def n4(l:List Int):Nat:=min 4 l.length
end Go.Ah.Tz
end
section
namespace Go.Ah
mutual
def WK:aa→aa→Bool
 |.al,.aW e' n' _ r'=>!e'&&(!n'&&r'.isEmpty)
 |.aW e n s r,.aW e' n' s' r'=>((e || !e')&&(n || !n'))&&(IT s s'&&PI r r')
 |.agg a,.agg b=>Cw a b
 |.bool a,.bool b=>a==b
 |.int k a,.int k' b=>j7 k k'&&a==b
 |.str a,.str b=>a==b
 |.al,.al=>true
 |.fo,.fo=>true
 |_,_=>false
def Cw:List aa→List aa→Bool
 |[],[]=>true
 |x::xs,y::ys=>WK x y&&Cw xs ys
 |_,_=>false
def PI:List (List aa)→List (List aa)→Bool
 |[],[]=>true
 |x::xs,y::ys=>Cw x y&&PI xs ys
 |_,_=>false
end
def Wk(x y:aa):Prop:=∀(M:Nat→Option Obj) (u:Value),Den M bA x u→Den M bA y u
mutual
theorem Xea:∀ {x y:aa},WK x y=true→Wk x y:=by
  intro x y h
  cases x<;>cases y<;>simp only[WK,zAW,AI,zAg,List.isEmpty_iff]at h<;>first
    |(obtain⟨rfl,rfl,rfl⟩:=h;exact λM u d=>d.eO _)
    |(intro M u d;exact d)
    |(rw[eq_of_beq h];intro M u d;exact d)
    |(rw[eq_of_beq h.2,zA h.1];intro M u d;exact d)
    | (have hk:=Tp h
       intro M u d
       cases d with
       | agg _ _ vs hs hd=>exact .agg _ _ _ (by rw[hs,hk.1]) (λi y v e1 e2=>by
          obtain⟨x,q1,q2⟩:=hk.2 i y e1
          exact q2 M v (hd i x v q1 e2)))
    | (obtain⟨⟨he,hn⟩,hs,hr⟩:=h
       have hs:=fY hs
       subst hs
       have hk:=Qea hr
       intro M u d
       cases d with
       |aW _ _ _ _ _ a cap blk off f q1 q2 q3 q4 q5 q6 q7 q8=>
         rw[hk.1]
         refine .aW _ _ _ _ _ a cap blk off f (λq=>?_) (λq=>?_) (λq=>q3 (λe=>q ?_)) q4 (by rw[←hk.1];exact q5) (λi row e=>?_) (λi j hi hj=>q7 i j (by rw[hk.1];exact hi) hj) (λi row j y e1 e2=>?_)
         · subst q;simp at he;rw[←hk.1];exact q1 he
         · subst q;simp at hn;exact q2 hn
         · have:=hk.1;rw[e]at this;exact List.length_eq_zero_iff.1 (by simpa using this.symm)
         · obtain⟨r0,p1,p2,_⟩:=hk.2 i row e
           rw[←p2];exact q6 i r0 p1
         · obtain⟨r0,p1,p2,p3⟩:=hk.2 i row e1
           obtain⟨x,x1,x2⟩:=p3 j y e2
           exact x2 M _ (q8 i r0 j x p1 x1))
theorem Tp:∀ {xs ys:List aa},Cw xs ys=true→xs.length=ys.length∧∀(i:Nat) (y:aa),ys[i]?=some y→∃x,xs[i]?=some x∧Wk x y:=by
  intro xs ys h
  cases xs<;>cases ys<;>simp only[Cw,zAW,AI]at h
  · exact⟨rfl,λi y e=>by simp at e⟩
  · rename_i x xs y ys
    have h1:=Xea h.1
    have h2:=Tp h.2
    refine⟨by simp[h2.1],λi z e=>?_⟩
    cases i with
    |zero=>simp at e;subst e;exact⟨x,by simp,h1⟩
    |succ i=>simp at e;obtain⟨w,q1,q2⟩:=h2.2 i z e;exact⟨w,by simpa using q1,q2⟩
theorem Qea:∀ {xs ys:List (List aa)},PI xs ys=true→xs.length=ys.length∧∀(i:Nat) (y:List aa),ys[i]?=some y→∃x,xs[i]?=some x∧x.length=y.length∧∀(j:Nat) (b:aa),y[j]?=some b→∃a,x[j]?=some a∧Wk a b:=by
  intro xs ys h
  cases xs<;>cases ys<;>simp only[PI,zAW,AI]at h
  · exact⟨rfl,λi y e=>by simp at e⟩
  · rename_i x xs y ys
    have h1:=Tp h.1
    have h2:=Qea h.2
    refine⟨by simp[h2.1],λi z e=>?_⟩
    cases i with
    |zero=>simp at e;subst e;exact⟨x,by simp,h1⟩
    |succ i=>simp at e;obtain⟨w,q1,q2⟩:=h2.2 i z e;exact⟨w,by simpa using q1,q2⟩
end
theorem RK{M:Nat→Option Obj}:∀ {xs ys:List aa} {vs:List Value},Cw xs ys=true→dR ⟨M,bA⟩ xs vs→dR ⟨M,bA⟩ ys vs
 |[],[],vs,_,d=>d
 |x::xs,y::ys,[],h,d=>d.elim
 |x::xs,y::ys,v::vs,h,d=>by
  simp only[Cw,AI]at h;exact⟨Xea h.1 M v d.1,RK h.2 d.2⟩
theorem YcZ{P:Program}{GL:aw}{f:FuncId}{xs ys:List aa}{v:aa}(h:di P GL f ys v)(hw:Cw xs ys=true):di P GL f xs v:=λw M vs hM hg hx=>h w M vs hM hg (RK hw hx)
end Go.Ah
end
section
namespace Go.Ah.Tz
open Go.Proofs.Tryz (prog)
set_option maxRecDepth 100000
attribute [local irreducible] aE.rd aE.pu aE.wr aE.dr aE.gr aE.gw aE.gl aE.gd aE.opt cP W
set_option maxHeartbeats 8000000
theorem TR(cs:List Cd)(hf:QG cs=true)(σ:List ab)(K:KT)(hK:∀q,(q=false→cs.length<=61∨240<cs.length)→K (.bool q) σ):g17.u VV [iM cs] σ K:=by
 simp only[QG,AI,fD]at hf;obtain⟨f0,f1⟩:=hf;rw[c9]at f0;have hlen:∀τ,Yn [iM cs] τ=.ok (iv cs.length) [] []:=λτ=>by simp[Zf]
 rw[H1.e];unfold g17;dsimp only;refine Za (hlen _) (Xg (ι:=Nat) (λi vs τ=>(∃a:Int,vs=[iv i,iv a])∧τ=σ∧i<=cs.length∧(61<i→240<cs.length)) (λi=>cs.length-i) 0 ⟨⟨0,rfl⟩,rfl,by omega,by omega⟩ ?_);rintro i vs τ again ⟨⟨a,rfl⟩,rfl,hi,hinv⟩ bj;refine Za rfl (QM (λh=>?_) (λh=>?_))
 ·have wT:iz cs[i]=true:=zAm.1 f1 _ (AT h);have cB:=Ym τ cN false false 12 cs .i64 i h;generalize cs[i]=c at wT cB;simp only[iz,AI]at wT;refine Za cB (Za (bB (qg _)) ?_);refine a_ (c110 c wT.2.1 wT.2.2.1 wT.2.2.2) g40.ok (Za (Xj ..) (Za (Q7 ..) ?_));refine CR (λ_=>rfl) (λ_=>rfl) (λ_=>cB) (λ_=>rfl) (λ_=>bB (oq _)) (λ_=>rfl) (λ_=>Q7 ..) ?_;have nxt:(61<i+1→240<cs.length)→VV.rd (Zn .add false [iv i,(.int .i64 1)] τ) λEW=>again [EW,iv (BY.wrap (a+(min (dD 0 c.de+dD 0 c.dead+dD 0 c.cM) 1073741824)))] τ:=by
   intro aah;refine Za (Xj ..) ?_;rw[Xc (n:=i) (by omega)]
   grind
  generalize (_||_:Bool)=q;cases q with
  |true=>
   refine ay ?_;exact hK _ (λe=>by cases e)
  |false=>
   refine ay ?_;rcases cD (decide ((60:Int)<(i:Int)))with xt|xt
   ·rw[xt];refine Qa (Za rfl (Qa (Za (hlen _) ?_)));refine ay ?_;exact Ya (λe=>hK _ (λe2=>by cases e2)) (λe=>nxt (λ_=>by simp at e;omega))
   ·rw[xt];refine Qc rfl (Qc rfl (Qc rfl (Qa (Za rfl (Za rfl ?_)))));exact Xe (nxt (λ_=>by simp at xt;omega))
 ·refine Za (hlen _) (Za (Q7 ..) ?_)
  grind
theorem TP(b:Bk)(hf:ba b=true)(σ:List ab)(K:KT)(hK:∀q,(q=false→b.aj.length<=61∨240<b.aj.length)→K (.bool q) (σ++[.box (cq b)])):g5.u VV [cE b] σ K:=by
 simp only[ba,AI,fD]at hf;obtain⟨f0,f1,f2⟩:=hf;rw[c9]at f1;rw[H1.e];unfold g5;dsimp only;refine Yd (v:=.ak σ.length 0) (rd:=[]) (up:=[(σ.length,.box (cq b))]) rfl (Ye _ _) ?_;have hB:=Yc σ (.box (cq b));generalize σ.length=n at hB ⊢;generalize σ++[ab.box (cq b)]=τ at hB hK ⊢;refine Za rfl (Za (ld hB rfl) (Za (v:=iv b.ar.length) (rd:=[]) (by simp[Zf]) ?_));refine Xg (ι:=Nat) (λi vs τ'=>(∃a:Int,vs=[iv i,iv a])∧τ'=τ∧i<=b.ar.length) (λi=>b.ar.length-i) 0 ⟨⟨0,rfl⟩,rfl,by omega⟩ ?_;rintro i vs τ' again ⟨⟨a,rfl⟩,rfl,hi⟩ bj;refine Za rfl (QM (λh=>?_) (λh=>?_))
 ·have cB:=Ym τ' oH false false 7 b.ar .i64 i h;generalize b.ar[i]=f at cB;refine Za rfl (Za (ld hB rfl) (Za cB (Za rfl (Za (v:=HM f.jQ) (rd:=[]) (bB rfl) (Za (v:=iv f.jQ.length) (rd:=[]) (by simp[Zf]) (Za (Xj ..) ?_))))));refine Za rfl (Za (ld hB rfl) (Za cB (Za rfl (Za (v:=HM f.single) (rd:=[]) (bB rfl) (Za (v:=iv f.single.length) (rd:=[]) (by simp[Zf]) ?_)))));refine ay ?_;rw[Xc (n:=i) (by omega)]
  grind
 ·refine Za (Q7 ..) ?_;generalize decide ((600:Int)<a)=q;cases q with
  |true=>
   refine ay ?_;exact hK _ (λe=>by cases e)
  |false=>
   refine ay (Za (ld hB rfl) (Qp ?_));refine Xd hP rfl g17.ok rfl (TR b.aj f0 _ _ (λq hq=>Za rfl ?_));exact hK _ hq
variable{s:St}
variable{b:Bk}
theorem Yb4(h:aL (bu b).1 b s true=true)(k:b.aj.length<=61∨240<b.aj.length):b.aj.length<=61:=by
 rcases k with k|k<;>simp_all [bu,cH,Xo]
variable{n fu:Int}
theorem L2{t:St}{v:aa}(h:PC 8 [cE b,bZ t,qN [],iv n] v):PC 8 [cE b,bZ t,.al,iv n] v:=by
 intro w M vs hM hg hx
 match vs,hx with
 |[v1,v2,v3,v4],⟨h1,h2,h3,h4,h5⟩=>exact h w M [v1,v2,v3,v4] hM hg ⟨h1,h2,Den.eO 3 h3,h4,h5⟩
def qO(l:List Ev):Prop:=∀e∈l,e.aj.length<=60
variable{l:List Ev}
theorem qO.app{m:List Ev}(h:qO l)(k:qO m):qO (l++m):=λe he=>(zAF.1 he).elim (h e) (k e)
theorem On(b:Bk)(s:St)(r:Int):qO [(dK b s r).2]:=by
 intro e he;rw[zAs]at he;subst he;unfold dK;split<;>exact zAZ _
theorem XcZ(cI:(bu b).1=0):∀(n:Nat) {s:St} {ws:List Tr} {fu:Int} {l:List Ev} {N C:Nat},cL b N C s→(∀x∈ws,jA b x)→0<=fu→fu<=n→N+12000*(ws.length+bG s+1)<=1000000→C+200*(n+1)+14<=1000000→qO l→qO (XK b (n+1) s ws fu l).2.2.1:=by
 intro n
 induction n using zBu with|ind n ih=>?_
 intro s ws fu l N C hS An wR vb hN hC hl;have hq:=Oo (b:=b) (N:=N) (C:=C) (by omega) (Qk s) s ws l (No _) hS;have hm:qO (quiet b (Qk s) s ws l).2.2:=by
  have key:∀(k:Nat) (s:St) (ws:List Tr) (l:List Ev),qO l→qO (quiet b k s ws l).2.2:=by
   intro k
   induction k with
   |zero=>intro s ws l h;exact h
   |succ k ih=>
    intro s ws l h;unfold quiet;split
    ·exact h
    ·exact ih _ _ _ (h.app λe he=>by rw[((Qz (aJ b s) s).2.1 e he).1];exact zAZ _)
  exact key _ s ws l hl
 have rX:=Oy cI (by omega:C+14<=1000000) (Qk s) s ws l hS;generalize eq:quiet b (Qk s) s ws l=q at hq hm rX;obtain⟨t,kT,l'⟩:=q;obtain⟨q1,_,_,m',q6,q7,q8⟩:=hq;have q1:cL b N C t:=q1
 replace rX:bG t+kT.length<=bG s+ws.length:=rX
 have q6:kT=ws++m':=q6;have hm:qO l':=hm;have bR:∀x∈kT,jA b x:=by grind
 rw[Nl n fu eq];by_cases hz:bO t≠0
 ·rw[aI hz];exact hm.app (On _ _ _)
 rw[aB hz];cases kT with
 |nil=>exact hm
 |cons x wr=>
  simp only;by_cases wV:fu=0
  ·rw[aI wV];exact hm.app (On _ _ _)
  rw[aB wV];by_cases ha:Yt b x.side (fu-1) (br b x)=true
  ·rw[aI ha];intro e he;cases he
  rw[aB ha];have dE:nf b (br b x)=true:=by simp_all [Yt]
  obtain⟨_,va⟩:=Jc dE;have hx:=bR x (by simp)
  replace rX:bG t+(wr.length+1)<=bG s+ws.length:=rX
  have Vt:=X9 b x.side (-1) (br b x) 1 t (fu-1) (Oj cI hx);obtain⟨k1,k2⟩:=A9 (b:=b) (tg:=-1) hx.2.2 (br b x) (fu-1) q1 (by omega) (by omega);have k1:=k1.mono (N':=N+12000) (C':=C+200) (by omega) (by omega);have rN:=Hc b x.side (-1) (br b x) t (fu-1) (by omega);have hc:=Nj (b:=b) (tg:=-1) hx.2.2 (br b x) (fu-1) q1 (by omega) (by omega);generalize runs b x.side (-1) (br b x) t (fu-1)=r at *;have dO:qO (l'++[nH x]++r.2.2.2):=(hm.app λe he=>by rw[zAs]at he;subst he;exact zAZ _).app hc;by_cases h0:r.1=0
  ·rw[aI h0];obtain⟨n',rfl⟩:∃n',n=n'+1:=⟨n-1,by omega⟩;exact ih n' (by omega) k1 (λy hy=>bR y (by simp[hy])) rN.1 (by omega) (by omega) (by omega) dO
  rw[aB h0];by_cases h1:r.1=190
  ·rw[aI h1];exact dO.app (On _ _ _)
  ·rw[aB h1];intro e he;cases he
variable{N C B fuel:Nat}
theorem Ydy{row:List Tr}(hT:TB N s)(hC:Zm s<=C)(hN:aL (bu b).1 b s true=true→N+12000*(row.length+bG s+1)<=1000000)(mH:C+200*((Xk fu).toNat+1)+14<=1000000):qO (bT b s row fu).2.2.1:=by
 have hF:0<=Xk fu:=by unfold Xk;omega
 unfold bT;by_cases q:(decide ((row.length:Int)>1000) || !aL (bu b).1 b s true)=true
 ·rw[aI q];intro e he;cases he
 rw[aB q];have hq:(decide ((row.length:Int)>1000) || !aL (bu b).1 b s true)=false:=by simpa using q
 simp only[zAx,s9,Bool.not_eq_false']at hq;obtain⟨cI,hM⟩:=Xo.1 hq.2;by_cases q2:row.any (kV b)=true
 ·rw[aI q2];intro e he;cases he
 rw[aB q2];have iP:∀x∈row,jA b x:=by simp_all [ON]
 by_cases q3:s.phase=2
 ·rw[aI q3];intro e he;cases he
 rw[aB q3];exact XcZ cI (Xk fu).toNat ⟨hM,hT,hC⟩ iP hF (by omega) (hN hq.2) mH (λe he=>by cases he)
theorem i100{e:Ev}(h:e.aj.length<=60):PC 16 [.agg (ck e),.agg (ck e)] (.bool true):=by
 have h85:=c62 e.aj e.aj (by omega);rw[eX rfl]at h85;have:=c99 e e (x:=aP e.aj) (y:=aP e.aj) rfl rfl rfl rfl (q:=true) (λσ k hk=>a_ h85 g38.ok hk)
 rwa [Xc0]at this
theorem i72(h:qO l)(hl:l.length<=1000000000):PC 35 [.aW false false 7 (l.map ck),.aW false false 7 (l.map ck)] (.bool true):=by
 refine c47 (by simpa using hl) λr hr=>?_;obtain⟨e,he,rfl⟩:=zAh.1 hr;exact⟨rfl,rfl,i100 (h e he)⟩
theorem i94(s:St)(hs:aY 1000000000 s)(h:qO l)(hl:l.length<=1000000000)(n e:Int):PC 10 [bZ s,bZ s,.aW false false 7 (l.map ck),.aW false false 7 (l.map ck),iv n,iv n,iv e,iv e] (.bool true):=by
 have h45:=Ju s hs;have h72:=i72 h hl;refine Xa hP g10.ok rfl rfl ?_;rw[H8.e];unfold g10;dsimp only;refine au ?_;rw[show (e==e)=true from beq_self_eq_true _];refine au ?_;rw[show (n==n)=true from beq_self_eq_true _];refine au ?_;refine a_ h45 g15.ok ?_;refine au ?_;refine a_ h72 g35.ok ?_;refine au ?_;rfl
theorem ZbM:∀(n:Nat) (s:St) (ws:List Tr) (fu:Int) (l:List Ev),(XK b n s ws fu l).1=0∨((XK b n s ws fu l).2.1=fW∧(XK b n s ws fu l).2.2.1=[])
 |0,_,_,_,_=>.inl rfl
 |n+1,s,ws,fu,l=>by
  unfold XK;split
  ·exact .inl rfl
  split
  ·exact .inl rfl
  split
  ·exact .inl rfl
  split
  ·exact .inr ⟨rfl,rfl⟩
  split
  ·exact ZbM n ..
  split
  ·exact .inl rfl
  ·exact .inr ⟨rfl,rfl⟩
theorem Zdy(b:Bk)(s:St)(row:List Tr)(fu:Int):(bT b s row fu).1=0∨((bT b s row fu).2.1=fW∧(bT b s row fu).2.2.1=[]):=by
 unfold bT;split
 ·exact .inr ⟨rfl,rfl⟩
 split
 ·exact .inr ⟨rfl,rfl⟩
 split
 ·exact .inl rfl
 ·exact ZbM ..
theorem Zcv(b:Bk)(s:St)(row:List Tr)(fu:Int):bT b s row fu=bT b s row (Xk fu):=by
 have:Xk (Xk fu)=Xk fu:=by unfold Xk;omega
 unfold bT;rw[this]
theorem SY{row:List Tr}(hT:TB N s)(hC:Zm s<=C)(hN:aL (bu b).1 b s true=true→N+12000*(row.length+bG s+1)<=1000000)(mH:C+200*((Xk fu).toNat+1)+14<=1000000):aY 1000000000 (bT b s row fu).2.1∧(bT b s row fu).2.2.1.length<=100000000:=by
 rcases Zdy b s row fu with e|⟨e1,e2⟩
 ·have hF:0<=Xk fu∧Xk fu<=1000:=by unfold Xk;omega
  rw[Zcv]at e ⊢;obtain⟨_,k,_,_,_,k2,_⟩:=Ycv hT hC hF hN mH e;exact⟨k.qA,by omega⟩
 ·rw[e1,e2];exact⟨⟨zAZ _,⟨zAZ _,zAZ _,zAZ _,zAZ _,zAZ _⟩,⟨zAZ _,zAZ _,zAZ _,zAZ _,zAZ _⟩⟩,zAZ _⟩
variable{σ:List ab}
theorem GR.rK{l:List Tr}{v:aa}(h:GR 3 dG B l v σ):∃rd,(∀c∈rd,B<=c∧ai σ c≠.dead)∧aA (hp σ) rd v (qN l):=by
 rcases h with ⟨rfl,rfl⟩|⟨c,rfl,h2,h3⟩
 ·exact⟨[],by simp,aA.dP (aA.ro rfl) (λM u d=>d.eO 3)⟩
 ·refine⟨[c],by simp[h2,h3],aA.dP (aA.sl (rs:=l.map dG) (rs':=l.map dG) (Xv h3 (by simp)) (by simp) (by simp) (by simp) (λi row row' q1 q2=>?_)) (λM u d=>d.gp)⟩;rw[IN]at q1;rw[q1]at q2;cases q2;obtain⟨x,_,rfl⟩:=zAh.1 (zAI q1);exact bd.ro rfl
theorem Yea{e f:Ev}(he:e.aj=[]){m:List Ev}{c:Nat}(h:ai σ c=.rows 7 ([cp e .al,ck f]++m.map ck)):LO (λ_=>True) ([e,f]++m) (.sl c 0 ([e,f]++m).length false) σ:=by
 refine .inr ⟨c,_,rfl,h,by simp,λi row x q1 q2=>?_⟩
 match i with
 |0=>cases q1;cases q2;exact⟨_,rfl,.inr (.inl ⟨rfl,he⟩)⟩
 |1=>cases q1;cases q2;exact⟨_,rfl,.inl rfl⟩
 |i+2=>
  have q1:(m.map ck)[i]?=some row:=q1;have q2:m[i]?=some x:=q2;rw[zAT,q2]at q1;cases q1;exact⟨_,rfl,.inl rfl⟩
theorem Be(σ:List ab)(e:Int):∃rd,aA (hp σ) rd (.bp [.agg aT,.al,iv 0,iv e]) (j0 (e,fW,[],0)):=
 ⟨[],aA.bp (.cons SB.zero.agg (.cons (aA.nl 7) (bd.ro rfl)))⟩
theorem u97(b:Bk)(s:St)(hf:ba b=true)(bW:Yg b.aj)(ik:aL (bu b).1 b s true=true→b.aj.length<=61)(hs:aY 1000000000 s)(fu:Int)(N C:Nat)(hT:TB N s)(hC:Zm s<=C)(hN:N+1+12000*22<=1000000)(mH:C+200*((Xk fu).toNat+1)+14<=1000000) :
  PC 12 [cE b,bZ s,iv fu] (j0 (e8 b s fu)):=by
 have h67:=c67 b hf;have h50:=c25 b s hs true _ _ h67;refine Yi hP g12.ok rfl ?_;rw[H3.e];unfold g12;dsimp only;refine au (a_ h50 g29.ok ?_);cases hm:aL (bu b).1 b s true with
 |false=>
  have hF:e8 b s fu=(170,fW,[],0):=by unfold e8;rw[hm];rfl
  rw[hF];exact au (Be _ _)
 |true=>
 obtain⟨cI,hM⟩:=Xo.1 hm;have wK:=ik hm;refine au (Ya (λhp=>?_) (λhp=>?_))
 ·have hp:s.phase=1:=by simpa using hp
  have hF:e8 b s fu=(170,fW,[],0):=by unfold e8;rw[hm,hp];rfl
  rw[hF];exact au (Be _ _)
 have hp:s.phase≠1:=by simpa using hp
 refine au (Yen hs λτ n e1 e2 kb hq hk=>?_);have e1:n=3:=by rw[←e1];rfl
 subst e1;have c0:ai τ 0=.box (cq b):=kb 0 _ rfl;have c1:ai τ 1=.box (aF s):=kb 1 _ rfl;have c2:ai τ 2=.box aT:=kb 2 _ rfl;have hk:KP τ 3 s:=hk;clear kb;refine av (Ya (λmI=>?_) (λmI=>?_))
 ·have mI:s.phase=2:=by simpa using mI
  have hF:e8 b s fu=(0,s,[],Xk fu):=by unfold e8;rw[hm,eX hp];rw[aB (by simp),aI mI]
  rw[hF];refine Za (ld hq rfl) (Zq c2 rfl rfl rfl λτ1 y1 k1 kk=>?_);refine Zp (XH y1 rfl) ?_;exact⟨_,aA.bp (.cons (hk.mono kk).sb.agg (.cons (aA.nl 7) (bd.ro rfl)))⟩
 have mI:s.phase≠2:=by simpa using mI
 have hF:e8 b s fu=if (aH (ZG s) s.mover).2.2≠0 then ((aH (ZG s) s.mover).2.2,fW,[],0)else
  let r:=bT b (aH (ZG s) s.mover).1 (dJ b s.mover ((aH (ZG s) s.mover).1.side s.mover).af) (Xk fu)
  if r.1≠0 then (r.1,fW,[],0)else (0,r.2.1,[CS s,(aH (ZG s) s.mover).2.1]++r.2.2.1,r.2.2.2):=by
  unfold e8;rw[hm,eX hp];rw[aB (by simp),aB mI]
 have hO:cL b N C (ZG s):=cL.cM ⟨hM,hT,hC⟩ hp;have h01:s.mover=0∨s.mover=1:=by have:=hM.hd.2.2.1;have:=hM.hd.2.2.2.1;omega
 have h218:=u218 b (ZG s) (ZdW hO.may) (Xo.2 ⟨cI,hO.may⟩) h67 s.mover h01;rw[Zb5]at *;obtain⟨m,em⟩:∃m,s.mover=m:=⟨_,rfl⟩;have KZ:0<=(s.side m).most∧(s.side m).most<=10:=by rcases h01 with h|h<;>rw[←em,h];exact hM.s0.most;exact hM.s1.most
 rw[em]at h218 hF hO h01;refine Za rfl (Za (v:=iv m) (by rw[←em];exact ld c1 rfl) ?_);refine Za rfl (Zq hq rfl rfl rfl λτ1 hq k1 yS=>?_);have c0:=k1.box c0 (by decide);have c1:=k1.box c1 (by decide);have c2:=k1.box c2 (by decide);have hk:=hk.mono yS;refine Za rfl (Za (yu h01 ..) (Za rfl (Za (ld hq (OQ h01 { s with bD:=false } 3)) (Za (Xj ..) (Za (XV ..) ?_)))));have em1:(({ s with bD:=false }:St).side m).most=(s.side m).most:=by rcases h01 with rfl|rfl<;>rfl
 rw[em1,zAY _ (by omega)];refine Za rfl (Za (yu h01 ..) (Za rfl ?_));refine Zq hq rfl rfl (YdD h01 { s with bD:=false } 3 _) λτ2 hq k2 sU=>?_;refine Za rfl (Za (yu h01 ..) (Za rfl (Za (ld hq (OQ h01 _ 3)) ?_)));rw[YcQ h01];refine Za rfl (Za (yu h01 ..) (Za rfl ?_));refine Zq hq rfl rfl (ZdD h01 _ 3 _) λτ3 hq k3 vJ=>?_
 replace hq:ai τ3 14=.box (jz (fI s m) 3):=by rw[YbE h01,hq];rcases h01 with rfl|rfl<;>rfl
 have l3:15<=τ3.length:=by have:=k1.1;have:=k2.1;have:=k3.1;omega
 have c0:=k3.box (k2.box c0 (by decide)) (by decide);have c1:=k3.box (k2.box c1 (by decide)) (by decide);have c2:=k3.box (k2.box c2 (by decide)) (by decide);have hk:=(hk.mono sU).mono vJ;clear k1 yS k2 sU k3 vJ e2;have hlen:(s.side m).af.length<=7:=by rcases h01 with rfl|rfl;exact hM.s0.af;exact hM.s1.af
 have Ut:((fI s m).side m).af.length=(s.side m).af.length:=by rcases h01 with rfl|rfl<;>simp[fI,St.put,St.side,zp]
 refine Xg (ι:=Nat) (λi vs υ=>vs=[iv i]∧i<=(s.side m).af.length∧ai υ 0=.box (cq b)∧ai υ 1=.box (aF s)∧ai υ 2=.box aT∧ai υ 14=.box (jz (fI s m) 3)∧KP υ 3 (Cv s m (mh (s.side m).af i))∧15<=υ.length) (λi=>(s.side m).af.length-i) 0 ⟨rfl,by omega,c0,c1,c2,hq,by rw[show mh (s.side m).af 0=(s.side m).af from rfl,YcS h01];exact hk,l3⟩ ?_;rintro i _ υ again ⟨rfl,hi,c0,c1,c2,hq,hk,l3⟩ bj;refine Za rfl (Za (yu h01 ..) (Za rfl (Za (ld hq (OY h01 _ 3)) (Za rfl ?_))));rw[Ut];refine Za (ZM ..) (QM (λh=>?_) (λh=>?_))
 ·obtain⟨f1,f2⟩:=Zdr h;refine Za rfl (Za (yu h01 ..) (Za rfl (Za (ld hq (OY h01 _ 3)) ?_)));refine Za (rr _ _ 0 _ _ _ _ _ i (by omega) (hk.un h01)) (Za rfl ?_);rw[IN];refine Yd (XcG false (hk.un h01) f1) (Ze _ (Zb (hk.un h01))) ?_;have hb:=Zb (hk.un h01);have ne:∀c,c=0∨c=1∨c=2∨c=14→c≠3+sH m:=by rcases h01 with rfl|rfl<;>(intro c hc;simp[sH];omega)
  refine Za (Xj ..) ?_;rw[Xc (n:=i) (by omega)];have wY:=hk.set h01 (l':=mh (s.side m).af (i+1));rw[←f2]at wY;exact bj (i+1) _ _ (by omega) ⟨rfl,by omega,by rw[Xb _ (by omega) (ne _ (by omega))];exact c0,by rw[Xb _ (by omega) (ne _ (by omega))];exact c1,by rw[Xb _ (by omega) (ne _ (by omega))];exact c2,by rw[Xb _ (by omega) (ne _ (by omega))];exact hq,by rw[←f2];exact wY,by simpa using l3⟩
 subst h;rw[show mh (s.side m).af (s.side m).af.length=(s.side m).af.map uS by simp[mh]]at hk;have hk:=QcE h01 hk;refine Za rfl (Za (ld c1 rfl) (Za rfl ?_));have eT:CS s=⟨0,m,0,0,0,s.turn,[]⟩:=by unfold CS;rw[em]
 rw[eT]at hF;refine Yd (v:=.sl υ.length 0 1 true) (rd:=[]) (up:=[(υ.length,.rows 7 [cp ⟨0,m,0,0,0,s.turn,[]⟩ .al])]) rfl (Ye υ _) ?_;have r1:=Yc υ (.rows 7 [cp ⟨0,m,0,0,0,s.turn,[]⟩ .al]);have a1:=dg.app υ [.rows 7 [cp ⟨0,m,0,0,0,s.turn,[]⟩ .al]];have l1:(υ++[ab.rows 7 [cp ⟨0,m,0,0,0,s.turn,[]⟩ .al]]).length=υ.length+1:=by simp
 have c0:=a1.get c0;have c2:=a1.get c2;have hq:=a1.get hq;have hk:=hk.mono λc n rs e=>a1.get (x:=.rows n rs) e (by simp) (by simp);clear a1 bj;generalize υ++[ab.rows 7 [cp ⟨0,m,0,0,0,s.turn,[]⟩ .al]]=υ1 at *;generalize υ.length=k1 at *;refine Za (ld c0 rfl) (Za (ld hq rfl) ?_);refine Q5 (rd:=D5 3) (row':=aF (fI s m)) h218 rfl g37.ok.plain (.cons (aA.ro rfl) (.cons hk.sb.agg (bd.ro rfl))) hk.live hq (by decide) hk.cells λυ2 hq q1 q2=>?_;have c0:ai υ2 0=.box (cq b):=by rw[q2 0 (by omega) (by decide) (by decide)];exact c0
 have c2:ai υ2 2=.box aT:=by rw[q2 2 (by omega) (by decide) (by decide)];exact c2
 have r1:ai υ2 k1=.rows 7 [cp ⟨0,m,0,0,0,s.turn,[]⟩ .al]:=by rw[q2 k1 (by omega) (by omega) (λe=>by have:=N4 e;omega)];exact r1
 clear hk q2 hq;have dY:=λe=>hO.draw (by omega) (by omega) h01 e;have hdc:=PQ (fI s m) m;generalize aH (fI s m) m=r at *;obtain⟨t,ev,e⟩:=r;dsimp only at *;refine av (YN λυ3 y3 a3 e3=>?_);refine YN λυ4 y4 a4 e4=>?_;have y3:=a4.get y3;have c0:=(a3.trans a4).get c0;have c2:=(a3.trans a4).get c2;have r1:=(a3.trans a4).get r1;refine Zq y3 rfl rfl rfl λυ5 y3 k5 o0=>?_;have y4:=k5.box y4;have c0:=k5.box c0;have c2:=k5.box c2;have r1:=o0 _ _ _ r1;refine Zq y4 rfl rfl rfl λυ6 y4 k6 kk6=>?_;have y3:=k6.box y3;have c0:=k6.box c0;have c2:=k6.box c2;have r1:=kk6 _ _ _ r1;have l6:υ6.length >= υ2.length+2:=by have:=k5.1;have:=k6.1;omega
 generalize hx3:υ2.length=x3 at *;generalize hx4:υ3.length=x4 at *;refine Za (ZX ..) (Ya (λhe=>?_) (λhe=>?_))
 ·have he:e≠0:=by simpa using he
  rw[aI he]at hF;rw[hF];refine av (Zq c2 rfl rfl rfl λτ6 y1 k1 Cc=>?_);exact Zp (XH y1 rfl) (Be _ _)
 have he:e=0:=by simpa using he
 subst he;rw[aB (by simp)]at hF;have hS:=dY rfl;clear dY hO
 replace y3:ai υ6 x3=.box (aF t):=y3
 replace y4:ai υ6 x4=.box (ck ev):=y4
 refine av (Yd (v:=.sl υ6.length 0 1 true) (rd:=[]) (up:=[(υ6.length,.rows 7 [ck ev])]) rfl (Ye υ6 _) ?_);have r2:=Yc υ6 (.rows 7 [ck ev]);have a7:=dg.app υ6 [.rows 7 [ck ev]];have l7:(υ6++[ab.rows 7 [ck ev]]).length=υ6.length+1:=by simp
 have c0:=a7.get c0;have c2:=a7.get c2;have y3:=a7.get y3;have r1:=a7.get r1;clear a7;generalize υ6++[ab.rows 7 [ck ev]]=υ7 at *;generalize rS:υ6.length=k2 at *;refine Yd (Ha 7 72 r1 r2 rfl rfl rfl (by decide)) (QC _ _ (Zb r1)) ?_;have r3:=QT (σ:=υ7) k1 (.rows 7 ([cp ⟨0,m,0,0,0,s.turn,[]⟩ .al]++[ck ev]));have kp:∀c x,ai υ7 c=x→x≠.dead→c≠k1→ai (υ7.set k1 .dead++[ab.rows 7 ([cp ⟨0,m,0,0,0,s.turn,[]⟩ .al]++[ck ev])]) c=x:=λc x h hd hc=>by
  have hl:=Zb h hd;rw[Yf _ (by simpa using hl),Xb _ hl hc];exact h
 have c0:=kp _ _ c0 (by simp) (by omega);have c2:=kp _ _ c2 (by simp) (by omega);have y3:=kp _ _ y3 (by simp) (by rintro rfl;rw[r1]at y3;cases y3);have l8:(υ7.set k1 .dead++[ab.rows 7 ([cp ⟨0,m,0,0,0,s.turn,[]⟩ .al]++[ck ev])]).length=υ7.length+1:=by simp
 clear kp r1 r2;generalize υ7.set k1 .dead++[ab.rows 7 ([cp ⟨0,m,0,0,0,s.turn,[]⟩ .al]++[ck ev])]=υ8 at *;generalize KI:υ7.length=k3 at *;have hU7:(t.side m).af.length<=7:=by rcases h01 with rfl|rfl;exact hS.may.s0.af;exact hS.may.s1.af
 have hTr:=XcE hS h01;have hTl:=GH b m (t.side m).af;have Lo:∀(i:Nat) (h:i<(t.side m).af.length),0<=(t.side m).af[i].card∧(t.side m).af[i].card<b.aj.length:=λi h=>GJ hS.may h01 (zAP h);generalize hU:(t.side m).af=U at *;refine Xg (ι:=Nat) (λi vs φ=>∃rv,vs=[iv i,rv]∧i<=U.length∧GR 3 dG υ8.length (dJ b m (U.take i)) rv φ∧ai φ 0=.box (cq b)∧ai φ 2=.box aT∧ai φ x3=.box (aF t)∧ai φ k3=.rows 7 ([cp ⟨0,m,0,0,0,s.turn,[]⟩ .al]++[ck ev])∧υ8.length<=φ.length) (λi=>U.length-i) 0 ⟨.al,rfl,by omega,.inl ⟨rfl,rfl⟩,c0,c2,y3,r3,by omega⟩ ?_;have VC:x3<υ8.length:=Zb y3;have UZ:k3<υ8.length:=Zb r3;clear c0 c2 y3 r3;rintro i _ φ again ⟨rv,rfl,hi,hg,c0,c2,y3,r3,lφ⟩ bj;refine Za rfl (Za (yu h01 ..) (Za rfl (Za (ld y3 (SH h01 t)) ?_)));rw[hU];refine Za (v:=iv U.length) (rd:=[]) (by simp[Yn]) (Za (ZM ..) (QM (λh=>?_) (λh=>?_)))
 ·refine Qg λk83 ek=>?_;refine Za rfl (Za (yu h01 ..) (Za rfl (Za (ld y3 (SH h01 t)) ?_)));rw[hU];obtain⟨c,hc,q1,q2⟩:=CA (b:=b) (Lo i h);have cB:=λ(σ:List ab)=>Ym σ cN false false 12 b.aj .i64 c hc;rw[←q1]at cB;have oV:dJ b m (U.take (i+1))=dJ b m (U.take i)++(if 0<b.aj[c].cM.length then [⟨U[i].card,m,true⟩]else []):=by rw[Yu U i h,S3,q2]
  have Us:=GH b m (U.take i);rw[zAk]at Us;have Pk:(b.aj[c].cM).length<=gy:=by
   have:=P2 hf bW (AT hc);exact ZC this.2.1
  refine Za (Ym _ bc false false 4 U .i64 i h) (Za rfl (Za (v:=iv U[i].card) (bB rfl) (Za rfl (Za (ld c0 rfl) (Za (cB _) (Za rfl (Za (v:=gZ b.aj[c].cM) (bB rfl) ?_)))))));generalize b.aj[c].cM=dl at *;refine Za (v:=iv dl.length) (rd:=[]) (by simp[Yn]) (Za (Q7 ..) (Ya (λhd=>?_) (λhd=>?_)))
  ·have hd:0<dl.length:=by simpa using hd
   rw[aI hd]at oV;refine av ?_;refine zo hg lφ ⟨U[i].card,m,true⟩ rfl rfl (by omega) λnv φ' hg q1 q2 q3=>?_;rw[ek];refine Za (Xj ..) ?_;rw[Xc (n:=i) (by omega)];exact bj (i+1) _ _ (by omega) ⟨nv,rfl,by omega,by rw[oV];exact hg,by rw[q1 0 (by omega)];exact c0,by rw[q1 2 (by omega)];exact c2,by rw[q1 x3 VC];exact y3,by rw[q1 k3 UZ];exact r3,by omega⟩
  ·have hd:¬0<dl.length:=by simpa using hd
   rw[aB hd,zBE]at oV;rw[ek];refine Za (Xj ..) ?_;rw[Xc (n:=i) (by omega)];exact bj (i+1) _ _ (by omega) ⟨rv,rfl,by omega,by rw[oV];exact hg,c0,c2,y3,r3,lφ⟩
 subst h;rw[zAl]at hg;clear bj;have qm:Xk (Xk fu)=Xk fu:=by unfold Xk;omega
 have h93:=WH b t hf bW (λ_=>wK) hS.qA (dJ b m U) (by omega) (Xk fu) (N+1) C hS.told hS.aj (λ_=>by have:=G7 hS.may;omega) (by rw[qm];exact mH);obtain⟨_,dO⟩:=SY (b:=b) (s:=t) (row:=dJ b m U) (fu:=Xk fu) hS.told hS.aj (λ_=>by have:=G7 hS.may;omega) (by rw[qm];exact mH);obtain⟨rd,cO,mR⟩:=hg.rK;refine Za (ld c0 rfl) (Za (ld y3 rfl) ?_);refine Xbf (rd:=rd) h93 rfl g9.ok.plain (.cons (aA.ro rfl) (.cons (aA.ro rfl) (.cons mR (bd.ro rfl)))) (λc hc=>(cO c hc).2) ?_;have kk:∀c x,ai φ c=x→c<υ8.length→ai (lr φ rd) c=x:=λc x h hc=>by rw[Nk rd φ c (by omega) (λe=>by have:=(cO c e).1;omega)];exact h
 have c2:=kk _ _ c2 (by omega);have r3:=kk _ _ r3 (by omega);have lψ:=Z9 rd φ;generalize lr φ rd=ψ at *;clear hg mR cO kk;generalize bT b t (dJ b m U) (Xk fu)=R at *;obtain⟨e2,u,l,n⟩:=R;dsimp only at hF dO;refine ay (YN λψ1 y5 a5 e5=>?_);have c2:=a5.get c2;have r3:=a5.get r3;refine Zq y5 rfl rfl rfl λψ2 y5 k9 LI=>?_;have c2:=k9.box c2;have r3:=LI _ _ _ r3;have l9:=k9.1
 replace y5:ai ψ2 ψ.length=.box (aF u):=y5
 generalize hx5:ψ.length=x5 at *;refine Za (ZX ..) (Ya (λhe=>?_) (λhe=>?_))
 ·have he:e2≠0:=by simpa using he
  rw[aI he]at hF;rw[hF];refine av (Zq c2 rfl rfl rfl λτ6 y1 k1 Cc=>?_);exact Zp (XH y1 rfl) (Be _ _)
 have he:e2=0:=by simpa using he
 rw[aB (by simpa using he)]at hF;rw[hF];refine Xf (ld y5 rfl) (Zg _) (Xf (QL 7 72 (off:=0) (len:=2) (y:=.aW false false 7 (l.map ck)) (rd:=[]) r3 rfl (by simp[Zk]) (Ybl l) (by simp;omega)) (QC _ _ (Zb r3)) ?_);have r4:=QT (σ:=ψ2) k3 (.rows 7 (([cp ⟨0,m,0,0,0,s.turn,[]⟩ .al]++[ck ev]).drop 0++l.map ck));have c2:ai (ψ2.set k3 .dead++[ab.rows 7 (([cp ⟨0,m,0,0,0,s.turn,[]⟩ .al]++[ck ev]).drop 0++l.map ck)]) 2=.box aT:=by
  rw[Yf _ (by simp;omega),Xb _ (by omega) (by omega)];exact c2
 have hl5:x5 < ψ2.length:=Zb y5;generalize ψ2.set k3 .dead ++ [ab.rows 7 (([cp ⟨0,m,0,0,0,s.turn,[]⟩ .al] ++ [ck ev]).drop 0 ++ l.map ck)]=ψ3 at *;refine zg (zb:=2) c2 (Ob rfl) rfl rfl λψ4 c2 a10=>?_;refine Qv (by
  have n1:x5≠2:=by omega
  have n2:k3≠2:=by omega
  have n3:ψ2.length≠2:=by omega
  simp[Qi,Xm,Xn,Yv,cf,dS,zAB,zAd,n1,n2,n3];omega) ?_
 refine Zp (XH c2 rfl) ?_;have r5:=a10.get r4 (by simp) (by simp;omega);have rU:=Yea (e:=⟨0,m,0,0,0,s.turn,[]⟩) (f:=ev) rfl (m:=l) r5;rw[show ([⟨0,m,0,0,0,s.turn,[]⟩,ev]++l:List Ev).length=2+(l.map ck).length by simp;omega]at rU;exact⟨zAB ψ4.length,aA.bp (.cons (aA.ro rfl) (.cons rU.Bi (bd.ro rfl)))⟩
theorem Xew(n by_:Nat){b len:Nat}{ex:Bool}{rs ys:List (List aa)}{y:aa}{rd:List Nat}(hb:ai σ b=.rows n rs)(hl:rs.length=len)(hy:Zk n σ y=some (ys,rd))(hr:aV ys=true)(bH:(2*(len+ys.length)+192)*by_<=2 ^ 48) :
  Qf n by_ [.sl b 0 len ex,y] σ=.ok (.sl σ.length 0 (len+ys.length) false) rd ([(b,.dead)]++[(σ.length,.rows n (rs++ys))]):=by
 have h2:=sh bH;have:Qf n by_ [.sl b 0 len ex,y] σ=YB n by_ σ rs [(b,.dead)] y:=by
  simp[Qf,yA,hb,hl]
 rw[this];unfold YB;simp only[hy,hr,h2,zAw,cond_true,hl]
theorem Qdk(s:St)(m:Int):(fI s m).turn=s.turn∧(fI s m).mover=s.mover:=by unfold fI St.put;split<;>exact⟨rfl,rfl⟩
theorem u96(b:Bk)(s:St)(hf:ba b=true)(bW:Yg b.aj)(ik:aL (bu b).1 b s true=true→b.aj.length<=61)(hs:aY 1000000000 s)(fu:Int)(N C:Nat)(hT:TB N s)(hC:Zm s<=C)(hN:N+1+12000*22<=1000000)(mH:C+200*((Xk fu).toNat+1)+14<=1000000) :
  PC 11 [cE b,bZ s,iv fu] (j0 (e8 b s fu)):=by
 refine Yi hP g11.ok rfl ?_;rw[H3.e];unfold g11;dsimp only;refine au ?_;simp only[IS,zAG,zAL,zAJ,IN,Nat.reduceAdd];by_cases hp:s.phase=1
 ·have hF:e8 b s fu=(170,fW,[],0):=by unfold e8;rw[hp];simp
  rw[show (s.phase==1)=true by simpa using hp,hF];refine au ?_;exact Be _ _
 rw[show (s.phase==1)=false by simpa using hp];refine Qp (Xd hP (f:=19) rfl g19.ok rfl (w209 b hf bW s hs rfl rfl λτ a=>?_));have c0:=a.get (c:=0) rfl (by simp) (by simp);have c1:=a.get (c:=1) rfl (by simp) (by simp);have c2:=a.get (c:=2) rfl (by simp) (by simp);have l0:=a.1;clear a
 replace c0:ai τ 0=.box (cq b):=c0
 replace c1:ai τ 1=.box (aF s):=c1
 replace c2:ai τ 2=.box aT:=c2
 replace l0:3<=τ.length:=l0
 cases hm:aL (bu b).1 b s true with
 |false=>
  have hF:e8 b s fu=(170,fW,[],0):=by unfold e8;rw[hm];rfl
  rw[hF];refine av ?_;refine ay ?_;refine av ?_;refine Zq c2 rfl rfl rfl λτ6 y1 k1 Cc=>?_;exact Zp (XH y1 rfl) (Be _ _)
 |true=>
 obtain⟨cI,hM⟩:=Xo.1 hm;have wK:=ik hm;refine ay ?_;refine av ?_;refine w59 hs (SB.ro (rd:=[]) s) ?_;have hk:KP (τ++jn s) τ.length s:=λi x hx=>by
  have hi:i<11:=(gE hx).1;exact Yq (by rw[zAO (by omega)];simpa using hx)
 have c0:=Qb (jn s) c0;have c1:=Qb (jn s) c1;have c2:=Qb (jn s) c2;have e2:(τ++jn s).length=τ.length+11:=by simp[jn,sD]
 generalize τ++jn s=τ0 at *;generalize τ.length=n at *;refine Zq c1 rfl rfl rfl λτ1 hq k1 yS=>?_
 replace hq:ai τ1 1=.box (jz s n):=hq
 have c0:=k1.box c0 (by decide);have c2:=k1.box c2 (by decide);have hk:=hk.mono yS;have l1:=k1.1;clear k1 yS c1;refine av (Ya (λmI=>?_) (λmI=>?_))
 ·have mI:s.phase=2:=by simpa using mI
  have hF:e8 b s fu=(0,s,[],Xk fu):=by unfold e8;rw[hm,eX hp];rw[aB (by simp),aI mI]
  rw[hF];refine Za (ld hq rfl) (Zq c2 rfl rfl rfl λτ1 y1 k1 kk=>?_);refine Zp (XH y1 rfl) ?_;exact⟨_,aA.bp (.cons (hk.mono kk).sb.agg (.cons (aA.nl 7) (bd.ro rfl)))⟩
 have mI:s.phase≠2:=by simpa using mI
 have hF:e8 b s fu=if (aH (ZG s) s.mover).2.2≠0 then ((aH (ZG s) s.mover).2.2,fW,[],0)else
  let r:=bT b (aH (ZG s) s.mover).1 (dJ b s.mover ((aH (ZG s) s.mover).1.side s.mover).af) (Xk fu)
  if r.1≠0 then (r.1,fW,[],0)else (0,r.2.1,[CS s,(aH (ZG s) s.mover).2.1]++r.2.2.1,r.2.2.2):=by
  unfold e8;rw[hm,eX hp];rw[aB (by simp),aB mI]
 have hO:cL b N C (ZG s):=cL.cM ⟨hM,hT,hC⟩ hp;have h01:s.mover=0∨s.mover=1:=by have:=hM.hd.2.2.1;have:=hM.hd.2.2.2.1;omega
 have h43:=c18 b hf bW (ZG s) hO.le (Xo.2 ⟨cI,hO.may⟩) s.mover h01;rw[Zb5]at *;obtain⟨m,em⟩:∃m,s.mover=m:=⟨_,rfl⟩;have KZ:0<=(s.side m).most∧(s.side m).most<=10:=by rcases h01 with h|h<;>rw[←em,h];exact hM.s0.most;exact hM.s1.most
 rw[em]at h43 hF hO h01;refine Za rfl (Za (v:=iv m) (by rw[←em];exact ld hq rfl) ?_);refine Za rfl (Za (yu h01 ..) (Za rfl (Za rfl (Za (ld hq (OQ h01 s n)) (Za (Xj ..) (Za (XV ..) ?_))))));rw[zAY _ (by omega)];refine Za rfl (Za rfl ?_);refine Zq hq rfl rfl (YdD h01 s n _) λτ2 hq k2 sU=>?_;refine Za rfl (Za rfl (Za (ld hq (OQ h01 _ n)) ?_));rw[YcQ h01];refine Za rfl (Za rfl ?_);refine Zq hq rfl rfl (ZdD h01 _ n _) λτ3 hq k3 vJ=>?_;refine Za rfl (Zq hq rfl rfl rfl λτ4 hq k4 yT=>?_)
 replace hq:ai τ4 1=.box (jz (fI s m) n):=by rw[YbE h01,hq];rcases h01 with rfl|rfl<;>rfl
 have l3:n+11<=τ4.length:=by have:=k2.1;have:=k3.1;have:=k4.1;omega
 have c0:=k4.box (k3.box (k2.box c0 (by decide)) (by decide)) (by decide);have c2:=k4.box (k3.box (k2.box c2 (by decide)) (by decide)) (by decide);have hk:=((hk.mono sU).mono vJ).mono yT;clear k2 sU k3 vJ k4 yT e2 l1;have hlen:(s.side m).af.length<=7:=by rcases h01 with rfl|rfl;exact hM.s0.af;exact hM.s1.af
 have Ut:((fI s m).side m).af.length=(s.side m).af.length:=by rcases h01 with rfl|rfl<;>simp[fI,St.put,St.side,zp]
 refine Za rfl (Za rfl (Za (ld hq (OY h01 _ n)) (Za rfl ?_)));rw[Ut];refine Xg (ι:=Nat) (λi vs υ=>vs=[iv i]∧i<=(s.side m).af.length∧ai υ 0=.box (cq b)∧ai υ 2=.box aT∧ai υ 1=.box (jz (fI s m) n)∧KP υ n (Cv s m (mh (s.side m).af i))∧n+11<=υ.length) (λi=>(s.side m).af.length-i) 0 ⟨rfl,by omega,c0,c2,hq,by rw[show mh (s.side m).af 0=(s.side m).af from rfl,YcS h01];exact hk,l3⟩ ?_;rintro i _ υ again ⟨rfl,hi,c0,c2,hq,hk,l3⟩ bj;refine Za (ZM ..) (QM (λh=>?_) (λh=>?_))
 ·obtain⟨f1,f2⟩:=Zdr h;refine Za rfl (Za rfl (Za (ld hq (OY h01 _ n)) ?_));refine Za (rr _ _ 0 _ _ _ _ _ i (by omega) (hk.un h01)) (Za rfl ?_);rw[IN];refine Yd (XcG false (hk.un h01) f1) (Ze _ (Zb (hk.un h01))) ?_;have hb:=Zb (hk.un h01);have ne:∀c,c=0∨c=1∨c=2→c≠n+sH m:=by rcases h01 with rfl|rfl<;>(intro c hc;simp[sH];omega)
  refine Za (Xj ..) ?_;rw[Xc (n:=i) (by omega)];have wY:=hk.set h01 (l':=mh (s.side m).af (i+1));rw[←f2]at wY;exact bj (i+1) _ _ (by omega) ⟨rfl,by omega,by rw[Xb _ (by omega) (ne _ (by omega))];exact c0,by rw[Xb _ (by omega) (ne _ (by omega))];exact c2,by rw[Xb _ (by omega) (ne _ (by omega))];exact hq,by rw[←f2];exact wY,by simpa using l3⟩
 subst h;rw[show mh (s.side m).af (s.side m).af.length=(s.side m).af.map uS by simp[mh]]at hk;have hk:=QcE h01 hk;have eT:CS s=⟨0,m,0,0,0,s.turn,[]⟩:=by unfold CS;rw[em]
 rw[eT]at hF;clear bj;refine Za (ld c0 rfl) (Za (ld hq rfl) (Za rfl (Za (v:=iv m) (by rw[←em,← (Qdk s m).2];exact ld hq rfl) ?_)));refine Q5 (rd:=D5 n) (row':=aF (fI s m)) h43 rfl g36.ok.plain (.cons (aA.ro rfl) (.cons hk.sb.agg (bd.ro rfl))) hk.live hq (λe=>by have:=N4 e;omega) hk.cells λυ2 hq q1 q2=>?_;have c0:ai υ2 0=.box (cq b):=by rw[q2 0 (by omega) (by decide) (λe=>by have:=N4 e;omega)];exact c0
 have c2:ai υ2 2=.box aT:=by rw[q2 2 (by omega) (by decide) (λe=>by have:=N4 e;omega)];exact c2
 clear hk q2;have dY:=λe=>hO.draw (by omega) (by omega) h01 e;have UD:=Qdk s m;rw[em]at UD;generalize aH (fI s m) m=r at *;generalize fI s m=s1 at *;obtain⟨t,ev,e⟩:=r;dsimp only at *;refine av (YN λυ3 y3 a3 e3=>?_);refine YN λυ4 y4 a4 e4=>?_;have y3:=a4.get y3;have c0:=(a3.trans a4).get c0;have c1:=(a3.trans a4).get hq;have c2:=(a3.trans a4).get c2;refine Zq y3 rfl rfl rfl λυ5 y3 k5 o0=>?_;have y4:=k5.box y4;have c0:=k5.box c0;have c1:=k5.box c1;have c2:=k5.box c2;refine Zq y4 rfl rfl rfl λυ6 y4 k6 kk6=>?_;have y3:=k6.box y3;have c0:=k6.box c0;have c1:=k6.box c1;have c2:=k6.box c2;have l6:υ6.length >= υ2.length+2:=by have:=k5.1;have:=k6.1;omega
 have lx4:υ2.length<υ3.length:=by omega
 generalize hx3:υ2.length=x3 at *;generalize hx4:υ3.length=x4 at *;refine Za (ZX ..) (Ya (λhe=>?_) (λhe=>?_))
 ·have he:e≠0:=by simpa using he
  rw[aI he]at hF;rw[hF];refine av (Zq c2 rfl rfl rfl λτ6 y1 k1 Cc=>?_);exact Zp (XH y1 rfl) (Be _ _)
 have he:e=0:=by simpa using he
 subst he;rw[aB (by simp)]at hF;have hS:=dY rfl;clear dY hO
 replace y3:ai υ6 x3=.box (aF t):=y3
 replace y4:ai υ6 x4=.box (ck ev):=y4
 have hU7:(t.side m).af.length<=7:=by rcases h01 with rfl|rfl;exact hS.may.s0.af;exact hS.may.s1.af
 have hTr:=XcE hS h01;have hTl:=GH b m (t.side m).af;have Lo:∀(i:Nat) (h:i<(t.side m).af.length),0<=(t.side m).af[i].card∧(t.side m).af[i].card<b.aj.length:=λi h=>GJ hS.may h01 (zAP h);have DG:∀ {σ:List ab},ai σ 1=.box (aF s1)→Qe false 1 [.ak 1 1] σ=.ok (iv m) [1] []:=λh=>by rw[←UD.2];exact ld h rfl
 refine Za rfl (Za (DG c1) (Za rfl (Za (yu h01 ..) (Za rfl (Za (ld y3 (SH h01 t)) ?_)))));generalize hU:(t.side m).af=U at *;refine Za (v:=iv U.length) (rd:=[]) (by simp[Yn]) (Xg (ι:=Nat) (λi vs φ=>∃rv,vs=[iv i,rv]∧i<=U.length∧GR 3 dG υ6.length (dJ b m (U.take i)) rv φ∧ai φ 0=.box (cq b)∧ai φ 1=.box (aF s1)∧ai φ 2=.box aT∧ai φ x3=.box (aF t)∧ai φ x4=.box (ck ev)∧υ6.length<=φ.length) (λi=>U.length-i) 0 ⟨.al,rfl,by omega,.inl ⟨rfl,rfl⟩,c0,c1,c2,y3,y4,by omega⟩ ?_);clear c0 c1 c2 y3 y4;rintro i _ φ again ⟨rv,rfl,hi,hg,c0,c1,c2,y3,y4,lφ⟩ bj;refine Za (ZM ..) (QM (λh=>?_) (λh=>?_))
 ·refine Qg λk83 ek=>?_;obtain⟨c,hc,q1,q2⟩:=CA (b:=b) (Lo i h);have cB:=λ(σ:List ab)=>Ym σ cN false false 12 b.aj .i64 c hc;rw[←q1]at cB;have oV:dJ b m (U.take (i+1))=dJ b m (U.take i)++(if 0<b.aj[c].cM.length then [⟨U[i].card,m,true⟩]else []):=by rw[Yu U i h,S3,q2]
  have Us:=GH b m (U.take i);rw[zAk]at Us;refine Za (Ym _ bc false false 4 U .i64 i h) (ax (YN λφ1 y5 a5 e5=>?_));have c0:=a5.get c0;have c1:=a5.get c1;have c2:=a5.get c2;have y3:=a5.get y3;have y4:=a5.get y4;have hg:=hg.bU (τ:=φ1) λc rs e=>a5.get e;refine Zq (cs:=bc U[i]) y5 rfl rfl rfl λφ2 y5 k5 o0=>?_;have c0:=k5.box c0;have c1:=k5.box c1;have c2:=k5.box c2;have y3:=k5.box y3;have y4:=k5.box y4;have hg:=hg.bU λc=>o0 c 3;have l5:=k5.1;refine av (Za (cB _) (Za rfl (Za (v:=gZ b.aj[c].cM) (bB rfl) ?_)));generalize b.aj[c].cM=dl at *;refine Za (v:=iv dl.length) (rd:=[]) (by simp[Yn]) (Za (Q7 ..) (Ya (λhd=>?_) (λhd=>?_)))
  ·have hd:0<dl.length:=by simpa using hd
   rw[aI hd]at oV;refine Za rfl (Za (v:=iv U[i].card) (ld y5 rfl) (Za rfl (Za (DG c1) (Za rfl ?_))));refine zo hg (by omega) ⟨U[i].card,m,true⟩ rfl rfl (by omega) λnv φ' hg q1 q2 q3=>?_;rw[ek];refine Za (Xj ..) ?_;rw[Xc (n:=i) (by omega)];exact bj (i+1) _ _ (by omega) ⟨nv,rfl,by omega,by rw[oV];exact hg,by rw[q1 0 (by omega)];exact c0,by rw[q1 1 (by omega)];exact c1,by rw[q1 2 (by omega)];exact c2,by rw[q1 x3 (by omega)];exact y3,by rw[q1 x4 (by omega)];exact y4,by omega⟩
  ·have hd:¬0<dl.length:=by simpa using hd
   rw[aB hd,zBE]at oV;rw[ek];refine Za (Xj ..) ?_;rw[Xc (n:=i) (by omega)];exact bj (i+1) _ _ (by omega) ⟨rv,rfl,by omega,by rw[oV];exact hg,c0,c1,c2,y3,y4,by omega⟩
 subst h;rw[zAl]at hg;clear bj;have qm:Xk (Xk fu)=Xk fu:=by unfold Xk;omega
 have h92:=q92 b t hf bW (λ_=>wK) hS.qA (dJ b m U) (Xk fu) (N+1) C hS.told hS.aj (λ_=>by have:=G7 hS.may;omega) (by rw[qm];exact mH);obtain⟨_,dO⟩:=SY (b:=b) (s:=t) (row:=dJ b m U) (fu:=Xk fu) hS.told hS.aj (λ_=>by have:=G7 hS.may;omega) (by rw[qm];exact mH);obtain⟨rd,cO,mR⟩:=hg.rK;refine Za (ld c0 rfl) (Za (ld y3 rfl) ?_);refine Xbf (rd:=rd) h92 rfl g8.ok.plain (.cons (aA.ro rfl) (.cons (aA.ro rfl) (.cons mR (bd.ro rfl)))) (λc hc=>(cO c hc).2) ?_;have kk:∀c x,ai φ c=x→c<υ6.length→ai (lr φ rd) c=x:=λc x h hc=>by rw[Nk rd φ c (by omega) (λe=>by have:=(cO c e).1;omega)];exact h
 have c1:=kk _ _ c1 (by omega);have c2:=kk _ _ c2 (by omega);have y4:=kk _ _ y4 (by omega);have lψ:=Z9 rd φ;generalize lr φ rd=ψ at *;clear hg mR cO kk;generalize bT b t (dJ b m U) (Xk fu)=R at *;obtain⟨e2,u,l,n⟩:=R;dsimp only at hF dO;refine ay (YN λψ1 y5 a5 e5=>?_);have c1:=a5.get c1;have c2:=a5.get c2;have y4:=a5.get y4;refine Zq y5 rfl rfl rfl λψ2 y5 k9 LI=>?_;have c1:=k9.box c1;have c2:=k9.box c2;have y4:=k9.box y4;have l9:=k9.1
 replace y5:ai ψ2 ψ.length=.box (aF u):=y5
 generalize hx5:ψ.length=x5 at *;refine Za (ZX ..) (Ya (λhe=>?_) (λhe=>?_))
 ·have he:e2≠0:=by simpa using he
  rw[aI he]at hF;rw[hF];refine av (Zq c2 rfl rfl rfl λτ6 y1 k1 Cc=>?_);exact Zp (XH y1 rfl) (Be _ _)
 have he:e2=0:=by simpa using he
 rw[aB (by simpa using he)]at hF;rw[hF];refine Xf (ld y5 rfl) (Zg _) (Zi rfl (Xf (DG c1) (Zg _) (Zi rfl (Xf (v:=iv s.turn) (by rw[←UD.1];exact ld c1 rfl) (Zg _) (Zi rfl (Xf (ld y4 rfl) (Zg _) ?_))))));refine Xf (v:=.sl ψ2.length 0 2 true) (rd:=[]) (up:=[(ψ2.length,.rows 7 [cp ⟨0,m,0,0,0,s.turn,[]⟩ .al,ck ev])]) rfl (Ye ψ2 _) ?_;have r3:=Yc ψ2 (.rows 7 [cp ⟨0,m,0,0,0,s.turn,[]⟩ .al,ck ev]);have a7:=dg.app ψ2 [.rows 7 [cp ⟨0,m,0,0,0,s.turn,[]⟩ .al,ck ev]];have l7:(ψ2++[ab.rows 7 [cp ⟨0,m,0,0,0,s.turn,[]⟩ .al,ck ev]]).length=ψ2.length+1:=by simp
 have c2:=a7.get c2;have hl5:x5<ψ2.length:=Zb y5;have hl4:x4<ψ2.length:=Zb y4;clear a7;generalize ψ2++[ab.rows 7 [cp ⟨0,m,0,0,0,s.turn,[]⟩ .al,ck ev]]=ψ3 at *;generalize ψ2.length=k3 at *;refine Xf (Xew 7 72 (y:=.aW false false 7 (l.map ck)) (rd:=[]) r3 rfl (by simp[Zk]) (Ybl l) (by simp;omega)) (QC _ _ (by omega)) ?_;have r4:=QT (σ:=ψ3) k3 (.rows 7 ([cp ⟨0,m,0,0,0,s.turn,[]⟩ .al,ck ev]++l.map ck));have c2:ai (ψ3.set k3 .dead++[ab.rows 7 ([cp ⟨0,m,0,0,0,s.turn,[]⟩ .al,ck ev]++l.map ck)]) 2=.box aT:=by
  rw[Yf _ (by simp;omega),Xb _ (by omega) (by omega)];exact c2
 generalize ψ3.set k3 .dead ++ [ab.rows 7 ([cp ⟨0,m,0,0,0,s.turn,[]⟩ .al,ck ev] ++ l.map ck)]=ψ4 at *;refine zg (zb:=2) c2 (Ob rfl) rfl rfl λψ5 c2 a10=>?_;refine Qv (by
  have n1:x5≠2:=by omega
  have n2:k3≠2:=by omega
  have n3:ψ3.length≠2:=by omega
  have n4:x4≠2:=by omega
  have n5:k3≠1:=by omega
  have n6:ψ3.length≠1:=by omega
  simp[Qi,Xm,Xn,Yv,cf,dS,zAB,zAd,n1,n2,n3,n4,n5,n6];omega) ?_
 refine Zp (XH c2 rfl) ?_;have r5:=a10.get r4 (by simp) (by simp;omega);have rU:=Yea (e:=⟨0,m,0,0,0,s.turn,[]⟩) (f:=ev) rfl (m:=l) r5;rw[show ([⟨0,m,0,0,0,s.turn,[]⟩,ev]++l:List Ev).length=2+(l.map ck).length by simp;omega]at rU;exact⟨zAB ψ5.length,aA.bp (.cons (aA.ro rfl) (.cons rU.Bi (bd.ro rfl)))⟩
theorem YcV(hs:aY 1000000000 s)(hT:TB N s)(hC:Zm s<=C)(hN:N+1+12000*22<=1000000)(mH:C+200*((Xk fu).toNat+1)+14<=1000000):aY 1000000000 (e8 b s fu).2.1∧(e8 b s fu).2.2.1.length<=1000000000∧qO (e8 b s fu).2.2.1:=by
 have z:aY 1000000000 fW:=⟨zAZ _,⟨zAZ _,zAZ _,zAZ _,zAZ _,zAZ _⟩,⟨zAZ _,zAZ _,zAZ _,zAZ _,zAZ _⟩⟩;have n:qO []:=λe he=>by cases he
 have qm:Xk (Xk fu)=Xk fu:=by unfold Xk;omega
 unfold e8;by_cases q:(aL (bu b).1 b s true&&decide (s.phase≠1))=false
 ·rw[aI q];exact⟨z,zAZ _,n⟩
 rw[aB q];have q:(aL (bu b).1 b s true&&decide (s.phase≠1))=true:=by simpa using q
 rw[AI,fD]at q;obtain⟨cI,hM⟩:=Xo.1 q.1;have hO:cL b N C (ZG s):=cL.cM ⟨hM,hT,hC⟩ q.2;have h01:s.mover=0∨s.mover=1:=by have:=hM.hd.2.2.1;have:=hM.hd.2.2.2.1;omega
 split
 ·exact⟨hs,zAZ _,n⟩
 split
 ·exact⟨z,zAZ _,n⟩
 rename_i hd;have hS:=hO.draw (by omega) (by omega) h01 (by simpa using hd);have hTl:(dJ b s.mover ((aH (ZG s) s.mover).1.side s.mover).af).length<=7:=zAX (GH ..) (by unfold St.side;split;exact hS.may.s0.af;exact hS.may.s1.af);obtain⟨k1,k2⟩:=SY (b:=b) (row:=dJ b s.mover ((aH (ZG s) s.mover).1.side s.mover).af) (fu:=Xk fu) hS.told hS.aj (λ_=>by have:=G7 hS.may;omega) (by rw[qm];exact mH);have k3:=Ydy (b:=b) (row:=dJ b s.mover ((aH (ZG s) s.mover).1.side s.mover).af) (fu:=Xk fu) hS.told hS.aj (λ_=>by have:=G7 hS.may;omega) (by rw[qm];exact mH);have hdc:=PQ (ZG s) s.mover;dsimp only;split
 ·exact⟨z,zAZ _,n⟩
 ·refine⟨k1,?_,qO.app (λe he=>?_) k3⟩
  ·simp only[By,IS,zAG];omega
  ·simp only[zAS,List.not_mem_nil,or_false]at he;rcases he with rfl|rfl
   ·exact zAZ _
   ·rw[hdc];exact zAZ _
theorem i21(h91:PC 7 [] (.bool true))(b:Bk)(hf:ba b=true)(bW:Yg b.aj)(s:St)(hs:aY 2000000 s)(fu r:Int) :
  PC 4 [cE b,bZ s,iv fu,aO r] (.bool true):=by
 have gA:aY 1000000000 s:=hs.mono (by decide);have h67:=c67 b hf;refine Xa hP g4.ok rfl rfl ?_;rw[H4.e];unfold g4;dsimp only;refine au ?_;refine Xd hP rfl g5.ok rfl (TP b hf _ _ (λq hq=>?_));obtain⟨σ,eσ⟩:∃σ:List ab,[ab.box (cq b)]++[ab.box (aF s)]++[ab.box (cq b)]=σ:=⟨_,rfl⟩;rw[show ([]++[ab.box (cq b)]++[ab.box (aF s)]++[ab.box (cq b)]:List ab)=σ from eσ];have b1:ai σ 0=.box (cq b):=by rw[←eσ];rfl
 have s1:ai σ 1=.box (aF s):=by rw[←eσ];rfl
 have hl:σ.length=3:=by rw[←eσ];rfl
 clear eσ;refine YdF (d:=decide (2000<uO s)) (v1:=bZ s) (λ_=>ld s1 rfl) (λ_ k hk=>a_ (TQ s hs) g6.ok hk) ?_;refine Ya (λ_=>a_ h91 g7.ok rfl) (λhg=>?_);simp only[zAx,s9]at hg;obtain⟨K9,eN⟩:=hg;have Ky:=hq K9;clear hq K9;refine Za (v:=iv (min fu 60)) (XV ..) ?_;have hF:Xk (min fu 60)<=60:=by unfold Xk;omega
 generalize min fu 60=F at *;have hT:TB 2000 s:=by unfold uO at eN;exact⟨by omega,by omega⟩
 have hC:Zm s<=((2000:Nat):Int):=by grind [uO,Zm]
 have h96:=u96 b s hf bW (λh=>Yb4 h Ky) gA F 2000 2000 hT hC (by omega) (by omega);have h97:=u97 b s hf bW (λh=>Yb4 h Ky) gA F 2000 2000 hT hC (by omega) (by omega);have h98:=q98 b hf bW s gA r;have h99:=u99 b s gA h67 r;obtain⟨gz,dO,hfw⟩:=YcV (b:=b) (s:=s) (fu:=F) gA hT hC (by omega) (by omega);have HA:aY 1000000000 (dK b s r).1:=by unfold dK;split;exact⟨zAZ _,gA.s0,gA.s1⟩;exact gA
 have h45:=Ju _ HA;have h100:=i100 (On b s r _ (zAs.2 rfl));refine Za (v:=cE b) (ld b1 rfl) (Za (v:=bZ s) (ld s1 rfl) (a_ h96 g11.ok (Za rfl (Za rfl (Za rfl (Za rfl ?_))))));generalize e8 b s F=R at *;obtain⟨e,t,l,n⟩:=R;have h94:=i94 t gz hfw dO n e;generalize dK b s r=Q at *;obtain⟨x,ev⟩:=Q;dsimp only at *;refine YN λτ t2 a2 e2=>?_;rw[hl]at t2 ⊢;have b2:=a2.get b1;have s2:=a2.get s1;refine Zq t2 rfl rfl rfl λτ t2 k2 _=>?_;have b2:=k2.box b2 (by simp);have s2:=k2.box s2 (by simp);have hl:=k2.1;refine av (a_ h97 g12.ok ?_);refine av (YN λυ t3 a3 e3=>?_);have t2:=a3.get t2;have b2:=a3.get b2;have s2:=a3.get s2;generalize τ.length=x3 at *;refine Zq t3 rfl rfl rfl λυ t3 k3 _=>?_;have t2:=k3.box t2;have b2:=k3.box b2;have s2:=k3.box s2;have hl:=k3.1;refine av (a_ h98 g13.ok ?_);refine av (YN λρ t4 a4 e4=>?_);refine YN λρ2 t5 a5 e5=>?_;have t4:=a5.get t4;have a45:=a4.trans a5;have t3:=a45.get t3;have t2:=a45.get t2;have b2:=a45.get b2;have s2:=a45.get s2;generalize hx4:υ.length=x4 at *;generalize hx5:ρ.length=x5 at *;refine Zq t4 rfl rfl rfl λρ3 t4 k4 _=>?_;have t5:=k4.box t5;have t3:=k4.box t3;have t2:=k4.box t2;have b2:=k4.box b2;have s2:=k4.box s2;refine Zq t5 rfl rfl rfl λρ4 t5 k5 _=>?_;have t4:=k5.box t4;have t3:=k5.box t3;have t2:=k5.box t2;have b2:=k5.box b2;have s2:=k5.box s2;have l5:=zAX k4.1 k5.1;refine av (a_ h99 g14.ok ?_);refine av (YN λρ5 t6 a6 e6=>?_);refine YN λρ6 t7 a7 e7=>?_;have t6:=a7.get t6;have a67:=a6.trans a7;have t5:=a67.get t5;have t4:=a67.get t4;have t3:=a67.get t3;have t2:=a67.get t2;generalize hx6:ρ4.length=x6 at *;generalize hx7:ρ5.length=x7 at *;refine Zq t6 rfl rfl rfl λρ7 t6 k6 _=>?_;have t7:=k6.box t7;have t5:=k6.box t5;have t4:=k6.box t4;have t3:=k6.box t3;have t2:=k6.box t2;refine Zq t7 rfl rfl rfl λρ8 t7 k7 _=>?_;have t6:=k7.box t6;have t5:=k7.box t5;have t4:=k7.box t4;have t3:=k7.box t3;have t2:=k7.box t2;refine av (a_ h94 g10.ok (Qa (Za (ld t4 rfl) (Qa (Za (ld t6 rfl) (Qp (a_ h45 g15.ok ?_)))))));refine Za rfl (Qa (Za (ld t5 rfl) (Qa (Za (ld t7 rfl) (Qp (a_ h100 g16.ok ?_))))));refine Za rfl (Qp (a_ h91 g7.ok ?_));refine av ?_;rfl
open Go.Proofs.YtiplhedaicikiaaGreatDoor.Rows (uptoBulk uptoBulkAll)
variable {H:Type}
theorem X3(b:List UInt8):uptoBulk (DataW.lit (H:=H) (.string b))=b.length+1:=by simp only[uptoBulk]
theorem QY(ds:List (DataW H)):uptoBulk (.agg ds)=uptoBulkAll ds+1:=by simp only[uptoBulk]
theorem Xec(es sp:List (DataW H)):uptoBulk (.slice es sp)=uptoBulkAll es+uptoBulkAll sp+1:=by simp only[uptoBulk]
theorem ZF(d:DataW H)(ds:List (DataW H)):uptoBulkAll (d::ds)=uptoBulk d+uptoBulkAll ds:=by simp only[uptoBulkAll]
theorem XdO(d:DataW H):1<=uptoBulk d:=by
 cases d with
 |lit l=>cases l<;>simp[uptoBulk]
 |_=>simp[uptoBulk]
def Yx(P:Program)(t:TypeId):Option (List TypeId):=match P.underlying t with
 |some (.struct fs)=>some (fs.toList.map (·.type))
 |_=>none
variable{t e:TypeId}
variable{P:Program}
variable{xs:List aa}
theorem ZV{d:DataW H}{ts:List TypeId}(h:Typed P fuel t xs d)(hs:Yx P t=some ts):∃f parts ds,fuel=f+1∧xs=parts.flatten∧d=.agg ds∧zk (Typed P f) ts parts ds:=by
 cases fuel with
 |zero=>exact h.elim
 |succ f=>
  unfold Typed at h;unfold Yx at hs;split at hs
  ·rename_i fs e;rw[e]at h;cases hs;obtain⟨parts,ds,h1,h2,h3⟩:=h;exact⟨f,parts,ds,rfl,h1,h2,h3⟩
  ·cases hs
theorem ZB{d:DataW H}{k:IntKind}(h:Typed P fuel t xs d)(hu:P.underlying t=some (.int k)):∃n,xs=[.int k n]∧(Lit.int k n).wf=true∧d=.lit (.int k n):=by
 cases fuel with
 |zero=>exact h.elim
 |succ f=>unfold Typed at h;rw[hu]at h;exact h
theorem R1{d:DataW H}(h:Typed P fuel t xs d)(hu:P.underlying t=some .bool):∃b,xs=[.bool b]∧d=.lit (.bool b):=by
 cases fuel with
 |zero=>exact h.elim
 |succ f=>unfold Typed at h;rw[hu]at h;exact h
theorem Iz{d:DataW H}(h:Typed P fuel t xs d)(hu:P.underlying t=some .string):∃s,xs=[.str s]∧d=.lit (.string s):=by
 cases fuel with
 |zero=>exact h.elim
 |succ f=>unfold Typed at h;rw[hu]at h;exact h
theorem ZdI{X:Type}(Gx:X→List aa)(m:X→Nat)(Q:X→Prop)(hx:∀xs (d:DataW H),Typed P fuel e xs d→uptoBulk d<=B→∃x,xs=Gx x∧Q x∧m x<=uptoBulk d) :
  ∀ {rows:List (List aa)} {es:List (DataW H)},sK (Typed P fuel e) rows es→uptoBulkAll es<=B→∃l:List X,rows=l.map Gx∧(∀x∈l,Q x)∧(l.map m).sum<=uptoBulkAll es∧l.length<=uptoBulkAll es
 |[],[],_,_=>⟨[],rfl,by simp,by simp,by simp⟩
 |r::rows,d::es,h,hb=>by
  rw[ZF]at hb;obtain⟨x,e1,q1,m1⟩:=hx r d h.1 (by omega);obtain⟨l,e2,q2,s2,l2⟩:=ZdI Gx m Q hx h.2 (by omega);refine⟨x::l,by rw[e1,e2];rfl,λy hy=>?_,?_,?_⟩
  ·rcases zAS.1 hy with rfl|hy
   ·exact q1
   ·exact q2 y hy
  ·rw[zAN,zCr,ZF];omega
  ·have:=XdO d;rw[IS,ZF];omega
 |[],_::_,h,_=>h.elim
 |_::_,[],h,_=>h.elim
theorem YR{n:Nat}{d:DataW H}{X:Type}(Gx:X→List aa)(m:X→Nat)(Q:X→Prop)(h:Typed P fuel t xs d)(hu:P.underlying t=some (.slice e))(hn:P.cellsOf e=n)
 (hx:∀f,f<fuel→∀xs (d:DataW H),Typed P f e xs d→uptoBulk d<=B→∃x,xs=Gx x∧Q x∧m x<=uptoBulk d)(hb:uptoBulk d<=B) :
  ∃l:List X,xs=[.aW false false n (l.map Gx)]∧(∀x∈l,Q x)∧(l.map m).sum<=uptoBulk d∧l.length<=uptoBulk d:=by
 cases fuel with
 |zero=>exact h.elim
 |succ f=>
  unfold Typed at h;rw[hu]at h;subst hn;obtain⟨rows,rfl,⟨rfl,rfl⟩|⟨es,sp,rfl,h2⟩⟩:=h
  ·exact⟨[],rfl,by simp,by simp,by simp⟩
  ·rw[Xec]at hb ⊢;obtain⟨l,rfl,q,s,k⟩:=ZdI Gx m Q (hx f (by omega)) h2 (by omega);exact⟨l,rfl,q,by omega,by omega⟩
theorem Xep{d:DataW H}(h:Typed P fuel t xs d)(hu:P.underlying t=some (.array 2 e)):∃f p q a b,fuel=f+1∧xs=p++q∧d=.agg [a,b]∧Typed P f e p a∧Typed P f e q b:=by
 cases fuel with
 |zero=>exact h.elim
 |succ f=>
  unfold Typed at h;rw[hu]at h;obtain⟨parts,ds,rfl,rfl,hl,h2⟩:=h
  match parts,hl,h2 with
  |[p,q],_,h2=>
   obtain⟨a,ds,rfl,ha,h2⟩:=h2.cons;obtain⟨b,ds,rfl,hb,h2⟩:=h2.cons
   match ds,h2 with
   |[],_=>exact⟨f,p,q,a,b,rfl,by simp,rfl,ha,hb⟩
theorem WJ(h:(Lit.int .i8 n).wf=true):B9 n=true:=by
 have h1:IntKind.i8.min = -128:=by decide
 have h2:IntKind.i8.max=127:=by decide
 simp only[Lit.wf,h1,h2]at h;exact h
theorem WI(h:(Lit.int .i64 n).wf=true):DU n=true:=by
 have h1:BY.min = -9223372036854775808:=by decide
 have h2:BY.max=9223372036854775807:=by decide
 simp only[Lit.wf,h1,h2]at h;exact h
theorem Xcd{l:List Nm}(h:∀x∈l,c7 x=true):zf l=true:=by
 induction l with
 |nil=>rfl
 |cons x l ih=>simp only[zf,AI];exact⟨h x (zBP ..),ih λy hy=>h y (zAr _ hy)⟩
theorem Xdh{l:List Cn}(h:∀x∈l,cK x=true):CL l=true:=by
 induction l with
 |nil=>rfl
 |cons x l ih=>simp only[CL,AI];exact⟨h x (zBP ..),ih λy hy=>h y (zAr _ hy)⟩
theorem Sz{l:List Ef}(h:∀x∈l,dW x=true):yr l=true:=by
 induction l with
 |nil=>rfl
 |cons x l ih=>simp only[yr,AI];exact⟨h x (zBP ..),ih λy hy=>h y (zAr _ hy)⟩
theorem Tb:∀l:List Nm,(o_ l).length=(l.map λx=>(rf x).length).sum
 |[]=>rfl
 |x::l=>by simp only[o_,By,zAN,zCr,Tb l]
theorem YcD:∀l:List Cn,(qh l).length=(l.map λx=>(qQ x).length).sum
 |[]=>rfl
 |x::l=>by simp only[qh,By,zAN,zCr,YcD l]
theorem OS:∀l:List Ef,(bz l).length=(l.map λx=>(iG x).length).sum
 |[]=>rfl
 |x::l=>by simp only[bz,By,zAN,zCr,OS l]
theorem jV{n k:Nat}(h:n<=k)(hk:k<=1048576):decide (n<=gy)=true:=eX (zAX h (zAX hk (by decide)))
abbrev rm:TypeId:=26
abbrev YO:TypeId:=3
abbrev IW:TypeId:=4
abbrev zh:TypeId:=9
abbrev Hk:TypeId:=153
abbrev N6:TypeId:=151
abbrev GO:TypeId:=156
abbrev SW:TypeId:=154
abbrev I1:TypeId:=158
abbrev Ba:TypeId:=72
abbrev Ji:TypeId:=81
abbrev Tt:TypeId:=22
abbrev ID:TypeId:=54
abbrev R7:TypeId:=23
abbrev NH:TypeId:=52
abbrev vQ:TypeId:=25
abbrev Jj:TypeId:=61
abbrev Tu:TypeId:=28
abbrev A':TypeId:=27
abbrev N9:TypeId:=30
abbrev Rn:TypeId:=31
abbrev vW:TypeId:=33
theorem zC:prog.underlying rm=some (.int .i8):=by kernel_rfl
theorem n_:prog.underlying YO=some (.int .i64):=by kernel_rfl
theorem Ia:prog.underlying IW=some .bool:=by kernel_rfl
theorem IY:prog.underlying zh=some .string:=by kernel_rfl
theorem QeJ:prog.underlying N6=some (.slice Hk):=by kernel_rfl
theorem M5:prog.underlying SW=some (.slice GO):=by kernel_rfl
theorem Ro:prog.underlying Ba=some (.slice I1):=by kernel_rfl
theorem M4:prog.underlying Tt=some (.slice Ji):=by kernel_rfl
theorem M6:prog.underlying R7=some (.slice ID):=by kernel_rfl
theorem ZeK:prog.underlying NH=some (.slice zh):=by kernel_rfl
theorem M8:prog.underlying Tu=some (.slice Jj):=by kernel_rfl
theorem XeJ:prog.underlying A'=some (.slice YO):=by kernel_rfl
theorem M7:prog.underlying Rn=some (.array 2 N9):=by kernel_rfl
theorem LQ:prog.cellsOf Hk=4:=by kernel_rfl
theorem V7:prog.cellsOf GO=5:=by kernel_rfl
theorem D0:prog.cellsOf I1=14:=by kernel_rfl
theorem V6:prog.cellsOf Ji=12:=by kernel_rfl
theorem V8:prog.cellsOf ID=7:=by kernel_rfl
theorem ZeE:prog.cellsOf zh=1:=by kernel_rfl
theorem V9:prog.cellsOf Jj=4:=by kernel_rfl
theorem LP:prog.cellsOf YO=1:=by kernel_rfl
theorem Wp:Yx prog Hk=some [rm,YO,rm,N6]:=by kernel_rfl
theorem Wm:Yx prog GO=some [rm,rm,zh,N6,SW]:=by kernel_rfl
theorem Wn:Yx prog I1=some [rm,rm,Hk,zh,GO,Ba,Ba]:=by kernel_rfl
theorem Wl:Yx prog Ji=some [zh,IW,YO,YO,YO,YO,YO,YO,Ba,Ba,Ba,YO]:=by kernel_rfl
theorem Wo:Yx prog ID=some [zh,YO,YO,YO,NH,NH,YO]:=by kernel_rfl
theorem Md:Yx prog vQ=some [Tt,R7]:=by kernel_rfl
theorem Wr:Yx prog Jj=some [YO,YO,YO,IW]:=by kernel_rfl
theorem Wq:Yx prog N9=some [YO,YO,YO,A',A',A',Tu,A']:=by kernel_rfl
theorem Me:Yx prog vW=some [YO,YO,rm,IW,rm,A',YO,Rn]:=by kernel_rfl
theorem QeI(fuel:Nat):∀xs (d:DataW H),Typed prog fuel Hk xs d→uptoBulk d<=1048576→∃x,xs=dd x∧c7 x=true∧(rf x).length<=uptoBulk d:=by
 induction fuel using zBu with
 |_ fuel ih=>
 intro xs d h hb;obtain⟨f,parts,ds,rfl,rfl,rfl,r⟩:=ZV h Wp;obtain⟨p0,parts,d0,ds,rfl,rfl,h0,r⟩:=r.cons;obtain⟨p1,parts,d1,ds,rfl,rfl,h1,r⟩:=r.cons;obtain⟨p2,parts,d2,ds,rfl,rfl,h2,r⟩:=r.cons;obtain⟨p3,parts,d3,ds,rfl,rfl,h3,r⟩:=r.cons;obtain⟨rfl,rfl⟩:=r.nil;obtain⟨v0,rfl,w0,rfl⟩:=ZB h0 zC;obtain⟨v1,rfl,w1,rfl⟩:=ZB h1 n_;obtain⟨v2,rfl,w2,rfl⟩:=ZB h2 zC;simp only[QY,ZF,X3]at hb ⊢;obtain⟨l,rfl,q,s,k⟩:=YR dd (λx=>(rf x).length) (λx=>c7 x=true) h3 QeJ LQ (λf' hf=>ih f' (by omega)) (show uptoBulk d3<=1048576 by omega);refine⟨.mk v0 v1 v2 l,by rw[QA];rfl,?_,?_⟩
 ·simp only[c7,jV k (show uptoBulk d3<=1048576 by omega),Xcd q,WJ w0,WI w1,zAw]
 ·simp only[rf,IS,Tb];omega
theorem MW(fuel:Nat):∀xs (d:DataW H),Typed prog fuel GO xs d→uptoBulk d<=1048576→∃x,xs=gg x∧cK x=true∧(qQ x).length<=uptoBulk d:=by
 induction fuel using zBu with
 |_ fuel ih=>
 intro xs d h hb;obtain⟨f,parts,ds,rfl,rfl,rfl,r⟩:=ZV h Wm;obtain⟨p0,parts,d0,ds,rfl,rfl,h0,r⟩:=r.cons;obtain⟨p1,parts,d1,ds,rfl,rfl,h1,r⟩:=r.cons;obtain⟨p2,parts,d2,ds,rfl,rfl,h2,r⟩:=r.cons;obtain⟨p3,parts,d3,ds,rfl,rfl,h3,r⟩:=r.cons;obtain⟨p4,parts,d4,ds,rfl,rfl,h4,r⟩:=r.cons;obtain⟨rfl,rfl⟩:=r.nil;obtain⟨v0,rfl,w0,rfl⟩:=ZB h0 zC;obtain⟨v1,rfl,w1,rfl⟩:=ZB h1 zC;obtain⟨v2,rfl,rfl⟩:=Iz h2 IY;simp only[QY,ZF,X3]at hb ⊢;obtain⟨l,rfl,q,s,k⟩:=YR dd (λx=>(rf x).length) (λx=>c7 x=true) h3 QeJ LQ (λf' _=>QeI f') (show uptoBulk d3<=1048576 by omega);obtain⟨l2,rfl,q2,s2,k2⟩:=YR gg (λx=>(qQ x).length) (λx=>cK x=true) h4 M5 V7 (λf' hf=>ih f' (by omega)) (show uptoBulk d4<=1048576 by omega);refine⟨.mk v0 v1 v2 l l2,by rw[XF];rfl,?_,?_⟩
 ·simp only[cK,jV k (show uptoBulk d3<=1048576 by omega),Xcd q,jV k2 (show uptoBulk d4<=1048576 by omega),Xdh q2,WJ w0,zAw]
 ·simp only[qQ,IS,By,Tb,YcD];omega
theorem MX(fuel:Nat):∀xs (d:DataW H),Typed prog fuel I1 xs d→uptoBulk d<=1048576→∃x,xs=bq x∧dW x=true∧(iG x).length<=uptoBulk d:=by
 induction fuel using zBu with
 |_ fuel ih=>
 intro xs d h hb;obtain⟨f,parts,ds,rfl,rfl,rfl,r⟩:=ZV h Wn;obtain⟨p0,parts,d0,ds,rfl,rfl,h0,r⟩:=r.cons;obtain⟨p1,parts,d1,ds,rfl,rfl,h1,r⟩:=r.cons;obtain⟨p2,parts,d2,ds,rfl,rfl,h2,r⟩:=r.cons;obtain⟨p3,parts,d3,ds,rfl,rfl,h3,r⟩:=r.cons;obtain⟨p4,parts,d4,ds,rfl,rfl,h4,r⟩:=r.cons;obtain⟨p5,parts,d5,ds,rfl,rfl,h5,r⟩:=r.cons;obtain⟨p6,parts,d6,ds,rfl,rfl,h6,r⟩:=r.cons;obtain⟨rfl,rfl⟩:=r.nil;obtain⟨v0,rfl,w0,rfl⟩:=ZB h0 zC;obtain⟨v1,rfl,w1,rfl⟩:=ZB h1 zC;obtain⟨v3,rfl,rfl⟩:=Iz h3 IY;simp only[QY,ZF,X3]at hb ⊢;obtain⟨n,rfl,qn,kn⟩:=QeI _ _ _ h2 (by omega);obtain⟨c,rfl,qc,kc⟩:=MW _ _ _ h4 (by omega);obtain⟨l,rfl,q,s,k⟩:=YR bq (λx=>(iG x).length) (λx=>dW x=true) h5 Ro D0 (λf' hf=>ih f' (by omega)) (show uptoBulk d5<=1048576 by omega);obtain⟨l2,rfl,q2,s2,k2⟩:=YR bq (λx=>(iG x).length) (λx=>dW x=true) h6 Ro D0 (λf' hf=>ih f' (by omega)) (show uptoBulk d6<=1048576 by omega);refine⟨.mk v0 v1 n v3 c l l2,by rw[Qr,QA,XF];rfl,?_,?_⟩
 ·simp only[dW,qn,qc,jV k (show uptoBulk d5<=1048576 by omega),Sz q,jV k2 (show uptoBulk d6<=1048576 by omega),Sz q2,WJ w0,zAw]
 ·have e1:(if cw v0 then rf n else []).length<=(rf n).length:=by split<;>simp
  have e2:(if v0=8 then qQ c++(bz l++bz l2)else []).length<=(qQ c).length+(bz l).length+(bz l2).length:=by
   split
   ·simp only[By];omega
   ·simp
  rw[OS,OS]at e2;simp only[iG,IS,By];omega
theorem Rf{d:DataW H}(h:Typed prog fuel Ba xs d)(hb:uptoBulk d<=1048576):∃l,xs=[gZ l]∧bF l=true∧(bz l).length<=uptoBulk d:=by
 obtain⟨l,rfl,q,s,k⟩:=YR bq (λx=>(iG x).length) (λx=>dW x=true) h Ro D0 (λf' _=>MX f') hb;exact⟨l,rfl,by simp only[bF,jV k hb,Sz q,zAw],by rw[OS];exact s⟩
theorem MV(fuel:Nat)(xs:List aa)(d:DataW H)(h:Typed prog fuel Ji xs d)(hb:uptoBulk d<=1048576):∃x,xs=cN x∧(iz x=true∧(pM x).length<=1048576)∧0<=uptoBulk d:=by
 obtain⟨f,parts,ds,rfl,rfl,rfl,r⟩:=ZV h Wl;obtain⟨p0,parts,d0,ds,rfl,rfl,h0,r⟩:=r.cons;obtain⟨p1,parts,d1,ds,rfl,rfl,h1,r⟩:=r.cons;obtain⟨p2,parts,d2,ds,rfl,rfl,h2,r⟩:=r.cons;obtain⟨p3,parts,d3,ds,rfl,rfl,h3,r⟩:=r.cons;obtain⟨p4,parts,d4,ds,rfl,rfl,h4,r⟩:=r.cons;obtain⟨p5,parts,d5,ds,rfl,rfl,h5,r⟩:=r.cons;obtain⟨p6,parts,d6,ds,rfl,rfl,h6,r⟩:=r.cons;obtain⟨p7,parts,d7,ds,rfl,rfl,h7,r⟩:=r.cons;obtain⟨p8,parts,d8,ds,rfl,rfl,h8,r⟩:=r.cons;obtain⟨p9,parts,d9,ds,rfl,rfl,h9,r⟩:=r.cons;obtain⟨p10,parts,d10,ds,rfl,rfl,h10,r⟩:=r.cons;obtain⟨p11,parts,d11,ds,rfl,rfl,h11,r⟩:=r.cons;obtain⟨rfl,rfl⟩:=r.nil;obtain⟨v0,rfl,rfl⟩:=Iz h0 IY;obtain⟨v1,rfl,rfl⟩:=R1 h1 Ia;obtain⟨v2,rfl,w2,rfl⟩:=ZB h2 n_;obtain⟨v3,rfl,w3,rfl⟩:=ZB h3 n_;obtain⟨v4,rfl,w4,rfl⟩:=ZB h4 n_;obtain⟨v5,rfl,w5,rfl⟩:=ZB h5 n_;obtain⟨v6,rfl,w6,rfl⟩:=ZB h6 n_;obtain⟨v7,rfl,w7,rfl⟩:=ZB h7 n_;obtain⟨v11,rfl,w11,rfl⟩:=ZB h11 n_;simp only[QY,ZF,X3]at hb ⊢;obtain⟨a,rfl,qa,ka⟩:=Rf h8 (by omega);obtain⟨b,rfl,qb,kb⟩:=Rf h9 (by omega);obtain⟨c,rfl,qc,kc⟩:=Rf h10 (by omega);refine⟨⟨v0,v1,v2,v3,v4,v5,v6,v7,a,b,c,v11⟩,rfl,⟨?_,?_⟩,by omega⟩
 ·simp only[iz,jV (No v0.length) (by omega),qa,qb,qc,zAw]
 ·simp only[pM,By];omega
theorem YeJ(fuel:Nat)(xs:List aa)(d:DataW H)(h:Typed prog fuel zh xs d)(_:uptoBulk d<=1048576):∃x,xs=vw x∧True∧0<=uptoBulk d:=by
 obtain⟨s,rfl,rfl⟩:=Iz h IY;exact⟨s,rfl,trivial,by omega⟩
theorem MY(fuel:Nat)(xs:List aa)(d:DataW H)(h:Typed prog fuel ID xs d)(hb:uptoBulk d<=1048576):∃x,xs=oH x∧oI x=true∧0<=uptoBulk d:=by
 obtain⟨f,parts,ds,rfl,rfl,rfl,r⟩:=ZV h Wo;obtain⟨p0,parts,d0,ds,rfl,rfl,h0,r⟩:=r.cons;obtain⟨p1,parts,d1,ds,rfl,rfl,h1,r⟩:=r.cons;obtain⟨p2,parts,d2,ds,rfl,rfl,h2,r⟩:=r.cons;obtain⟨p3,parts,d3,ds,rfl,rfl,h3,r⟩:=r.cons;obtain⟨p4,parts,d4,ds,rfl,rfl,h4,r⟩:=r.cons;obtain⟨p5,parts,d5,ds,rfl,rfl,h5,r⟩:=r.cons;obtain⟨p6,parts,d6,ds,rfl,rfl,h6,r⟩:=r.cons;obtain⟨rfl,rfl⟩:=r.nil;obtain⟨v0,rfl,rfl⟩:=Iz h0 IY;obtain⟨v1,rfl,w1,rfl⟩:=ZB h1 n_;obtain⟨v2,rfl,w2,rfl⟩:=ZB h2 n_;obtain⟨v3,rfl,w3,rfl⟩:=ZB h3 n_;obtain⟨v6,rfl,w6,rfl⟩:=ZB h6 n_;simp only[QY,ZF,X3]at hb ⊢;obtain⟨a,rfl,_,_,ka⟩:=YR vw (λ_=>0) (λ_=>True) h4 ZeK ZeE (λf' _=>YeJ f') (show uptoBulk d4<=1048576 by omega);obtain⟨b,rfl,_,_,kb⟩:=YR vw (λ_=>0) (λ_=>True) h5 ZeK ZeE (λf' _=>YeJ f') (show uptoBulk d5<=1048576 by omega);refine⟨⟨v0,v1,v2,v3,a,b,v6⟩,rfl,?_,by omega⟩;simp only[oI,jV (No v0.length) (by omega),jV ka (show uptoBulk d4<=1048576 by omega),jV kb (show uptoBulk d5<=1048576 by omega),zAw]
theorem MU{d:DataW H}(h:Typed prog fuel vQ xs d)(hb:uptoBulk d<=1048576):∃x,xs=cq x∧ba x=true∧Yg x.aj:=by
 obtain⟨f,parts,ds,rfl,rfl,rfl,r⟩:=ZV h Md;obtain⟨p0,parts,d0,ds,rfl,rfl,h0,r⟩:=r.cons;obtain⟨p1,parts,d1,ds,rfl,rfl,h1,r⟩:=r.cons;obtain⟨rfl,rfl⟩:=r.nil;simp only[QY,ZF,X3]at hb ⊢;obtain⟨a,rfl,q,_,k⟩:=YR cN (λ_=>0) (λx=>iz x=true∧(pM x).length<=1048576) h0 M4 V6 (λf' _=>MV f') (show uptoBulk d0<=1048576 by omega);obtain⟨b,rfl,q2,_,k2⟩:=YR oH (λ_=>0) (λx=>oI x=true) h1 M6 V8 (λf' _=>MY f') (show uptoBulk d1<=1048576 by omega);refine⟨⟨a,b⟩,rfl,?_,λc hc=>zAX (q c hc).2 (by decide)⟩;simp only[ba,QG,jV k (show uptoBulk d0<=1048576 by omega),jV k2 (show uptoBulk d1<=1048576 by omega),zAH,AI,zAm];exact⟨λc hc=>(q c hc).1,q2⟩
theorem M3(fuel:Nat)(xs:List aa)(d:DataW H)(h:Typed prog fuel Jj xs d)(hb:uptoBulk d<=1048576):∃x,xs=bc x∧True∧0<=uptoBulk d:=by
 obtain⟨f,parts,ds,rfl,rfl,rfl,r⟩:=ZV h Wr;obtain⟨p0,parts,d0,ds,rfl,rfl,h0,r⟩:=r.cons;obtain⟨p1,parts,d1,ds,rfl,rfl,h1,r⟩:=r.cons;obtain⟨p2,parts,d2,ds,rfl,rfl,h2,r⟩:=r.cons;obtain⟨p3,parts,d3,ds,rfl,rfl,h3,r⟩:=r.cons;obtain⟨rfl,rfl⟩:=r.nil;obtain⟨v0,rfl,w0,rfl⟩:=ZB h0 n_;obtain⟨v1,rfl,w1,rfl⟩:=ZB h1 n_;obtain⟨v2,rfl,w2,rfl⟩:=ZB h2 n_;obtain⟨v3,rfl,rfl⟩:=R1 h3 Ia;simp only[QY,ZF,X3]at hb ⊢;exact⟨⟨v0,v1,v2,v3⟩,rfl,trivial,by omega⟩
theorem WD(fuel:Nat)(xs:List aa)(d:DataW H)(h:Typed prog fuel YO xs d)(_:uptoBulk d<=1048576):∃x,xs=aS x∧True∧0<=uptoBulk d:=by
 obtain⟨s,rfl,_,rfl⟩:=ZB h n_;exact⟨s,rfl,trivial,by omega⟩
theorem IX{d:DataW H}(h:Typed prog fuel A' xs d)(hb:uptoBulk d<=1048576):∃l,xs=[aP l]∧l.length<=2000000:=by
 obtain⟨l,rfl,_,_,k⟩:=YR aS (λ_=>0) (λ_=>True) h XeJ LP (λf' _=>WD f') hb;exact⟨l,rfl,by omega⟩
theorem ZeJ{d:DataW H}(h:Typed prog fuel N9 xs d)(hb:uptoBulk d<=1048576):∃x,xs=yW x∧lz 2000000 x:=by
 obtain⟨f,parts,ds,rfl,rfl,rfl,r⟩:=ZV h Wq;obtain⟨p0,parts,d0,ds,rfl,rfl,h0,r⟩:=r.cons;obtain⟨p1,parts,d1,ds,rfl,rfl,h1,r⟩:=r.cons;obtain⟨p2,parts,d2,ds,rfl,rfl,h2,r⟩:=r.cons;obtain⟨p3,parts,d3,ds,rfl,rfl,h3,r⟩:=r.cons;obtain⟨p4,parts,d4,ds,rfl,rfl,h4,r⟩:=r.cons;obtain⟨p5,parts,d5,ds,rfl,rfl,h5,r⟩:=r.cons;obtain⟨p6,parts,d6,ds,rfl,rfl,h6,r⟩:=r.cons;obtain⟨p7,parts,d7,ds,rfl,rfl,h7,r⟩:=r.cons;obtain⟨rfl,rfl⟩:=r.nil;obtain⟨v0,rfl,w0,rfl⟩:=ZB h0 n_;obtain⟨v1,rfl,w1,rfl⟩:=ZB h1 n_;obtain⟨v2,rfl,w2,rfl⟩:=ZB h2 n_;simp only[QY,ZF,X3]at hb ⊢;obtain⟨a,rfl,ka⟩:=IX h3 (by omega);obtain⟨b,rfl,kb⟩:=IX h4 (by omega);obtain⟨c,rfl,kc⟩:=IX h5 (by omega);obtain⟨u,rfl,_,_,ku⟩:=YR bc (λ_=>0) (λ_=>True) h6 M8 V9 (λf' _=>M3 f') (show uptoBulk d6<=1048576 by omega);obtain⟨t,rfl,kt⟩:=IX h7 (by omega);exact⟨⟨v0,v1,v2,a,b,c,u,t⟩,rfl,ka,kb,kc,by show u.length<=_;omega,kt⟩
theorem MZ{d:DataW H}(h:Typed prog fuel vW xs d)(hb:uptoBulk d<=1048576):∃x,xs=aF x∧aY 2000000 x:=by
 obtain⟨f,parts,ds,rfl,rfl,rfl,r⟩:=ZV h Me;obtain⟨p0,parts,d0,ds,rfl,rfl,h0,r⟩:=r.cons;obtain⟨p1,parts,d1,ds,rfl,rfl,h1,r⟩:=r.cons;obtain⟨p2,parts,d2,ds,rfl,rfl,h2,r⟩:=r.cons;obtain⟨p3,parts,d3,ds,rfl,rfl,h3,r⟩:=r.cons;obtain⟨p4,parts,d4,ds,rfl,rfl,h4,r⟩:=r.cons;obtain⟨p5,parts,d5,ds,rfl,rfl,h5,r⟩:=r.cons;obtain⟨p6,parts,d6,ds,rfl,rfl,h6,r⟩:=r.cons;obtain⟨p7,parts,d7,ds,rfl,rfl,h7,r⟩:=r.cons;obtain⟨rfl,rfl⟩:=r.nil;obtain⟨v0,rfl,w0,rfl⟩:=ZB h0 n_;obtain⟨v1,rfl,w1,rfl⟩:=ZB h1 n_;obtain⟨v2,rfl,w2,rfl⟩:=ZB h2 zC;obtain⟨v3,rfl,rfl⟩:=R1 h3 Ia;obtain⟨v4,rfl,w4,rfl⟩:=ZB h4 zC;obtain⟨v6,rfl,w6,rfl⟩:=ZB h6 n_;simp only[QY,ZF,X3]at hb ⊢;obtain⟨a,rfl,ka⟩:=IX h5 (by omega);obtain⟨f',p,q,da,db,rfl,rfl,rfl,hp,hq⟩:=Xep h7 M7;simp only[QY,ZF]at hb;obtain⟨x,rfl,kx⟩:=ZeJ hp (by omega);obtain⟨y,rfl,ky⟩:=ZeJ hq (by omega);exact⟨⟨v0,v1,v2,v3,v4,a,v6,x,y⟩,rfl,ka,kx,ky⟩
end Go.Ah.Tz
end
section
namespace Go.Ah.Tz
open Go.Proofs.Tryz (prog)
set_option maxRecDepth 100000
noncomputable def MR:GT:=(.node 135 2 g135.u (.node 80 2 g80.u (.node 48 2 g48.u (.node 26 3 g26.u (.node 20 1 g20.u (.node 13 3 g13.u (.node 8 4 g8.u (.node 7 0 g7.u .leaf .leaf) .leaf) (.node 19 2 g19.u (.node 18 1 g18.u .leaf .leaf) .leaf)) (.node 23 5 g23.u (.node 22 6 g22.u (.node 21 2 g21.u .leaf .leaf) .leaf) (.node 25 2 g25.u (.node 24 2 g24.u .leaf .leaf) .leaf))) (.node 42 1 g42.u (.node 36 3 g36.u (.node 28 1 g28.u (.node 27 1 g27.u .leaf .leaf) .leaf) (.node 41 1 g41.u (.node 40 1 g40.u .leaf .leaf) .leaf)) (.node 45 1 g45.u (.node 44 1 g44.u (.node 43 2 g43.u .leaf .leaf) .leaf) (.node 47 2 g47.u (.node 46 2 g46.u .leaf .leaf) .leaf)))) (.node 69 2 g69.u (.node 54 2 g54.u (.node 51 2 g51.u (.node 50 2 g50.u (.node 49 3 g49.u .leaf .leaf) .leaf) (.node 53 2 g53.u (.node 52 3 g52.u .leaf .leaf) .leaf)) (.node 66 1 g66.u (.node 64 2 g64.u (.node 63 1 g63.u .leaf .leaf) .leaf) (.node 68 1 g68.u (.node 67 1 g67.u .leaf .leaf) .leaf))) (.node 75 2 g75.u (.node 72 2 g72.u (.node 71 2 g71.u (.node 70 2 g70.u .leaf .leaf) .leaf) (.node 74 1 g74.u (.node 73 1 g73.u .leaf .leaf) .leaf)) (.node 78 1 g78.u (.node 77 1 g77.u (.node 76 3 g76.u .leaf .leaf) .leaf) (.node 79 2 g79.u .leaf .leaf))))) (.node 110 3 g110.u (.node 99 1 g99.u (.node 86 3 g86.u (.node 83 3 g83.u (.node 82 3 g82.u (.node 81 1 g81.u .leaf .leaf) .leaf) (.node 85 3 g85.u (.node 84 3 g84.u .leaf .leaf) .leaf)) (.node 91 2 g91.u (.node 88 3 g88.u (.node 87 3 g87.u .leaf .leaf) .leaf) (.node 98 1 g98.u (.node 94 3 g94.u .leaf .leaf) .leaf))) (.node 105 0 g105.u (.node 102 1 g102.u (.node 101 2 g101.u (.node 100 1 g100.u .leaf .leaf) .leaf) (.node 104 1 g104.u (.node 103 2 g103.u .leaf .leaf) .leaf)) (.node 108 1 g108.u (.node 107 2 g107.u (.node 106 1 g106.u .leaf .leaf) .leaf) (.node 109 2 g109.u .leaf .leaf)))) (.node 122 1 g122.u (.node 116 1 g116.u (.node 113 1 g113.u (.node 112 1 g112.u (.node 111 1 g111.u .leaf .leaf) .leaf) (.node 115 2 g115.u (.node 114 2 g114.u .leaf .leaf) .leaf)) (.node 119 4 g119.u (.node 118 1 g118.u (.node 117 2 g117.u .leaf .leaf) .leaf) (.node 121 2 g121.u (.node 120 2 g120.u .leaf .leaf) .leaf))) (.node 128 1 g128.u (.node 125 2 g125.u (.node 124 5 g124.u (.node 123 5 g123.u .leaf .leaf) .leaf) (.node 127 2 g127.u (.node 126 2 g126.u .leaf .leaf) .leaf)) (.node 131 4 g131.u (.node 130 2 g130.u (.node 129 3 g129.u .leaf .leaf) .leaf) (.node 134 1 g134.u .leaf .leaf)))))) (.node 199 1 g199.u (.node 168 1 g168.u (.node 157 2 g157.u (.node 151 1 g151.u (.node 138 3 g138.u (.node 137 2 g137.u (.node 136 1 g136.u .leaf .leaf) .leaf) (.node 149 2 g149.u (.node 139 1 g139.u .leaf .leaf) .leaf)) (.node 154 1 g154.u (.node 153 1 g153.u (.node 152 1 g152.u .leaf .leaf) .leaf) (.node 156 2 g156.u (.node 155 1 g155.u .leaf .leaf) .leaf))) (.node 163 1 g163.u (.node 160 1 g160.u (.node 159 1 g159.u (.node 158 1 g158.u .leaf .leaf) .leaf) (.node 162 1 g162.u (.node 161 1 g161.u .leaf .leaf) .leaf)) (.node 166 2 g166.u (.node 165 2 g165.u (.node 164 1 g164.u .leaf .leaf) .leaf) (.node 167 1 g167.u .leaf .leaf)))) (.node 188 2 g188.u (.node 174 1 g174.u (.node 171 7 g171.u (.node 170 2 g170.u (.node 169 3 g169.u .leaf .leaf) .leaf) (.node 173 4 g173.u (.node 172 1 g172.u .leaf .leaf) .leaf)) (.node 177 2 g177.u (.node 176 3 g176.u (.node 175 4 g175.u .leaf .leaf) .leaf) (.node 187 0 g187.u (.node 178 2 g178.u .leaf .leaf) .leaf))) (.node 194 1 g194.u (.node 191 1 g191.u (.node 190 1 g190.u (.node 189 1 g189.u .leaf .leaf) .leaf) (.node 193 2 g193.u (.node 192 1 g192.u .leaf .leaf) .leaf)) (.node 197 2 g197.u (.node 196 2 g196.u (.node 195 1 g195.u .leaf .leaf) .leaf) (.node 198 1 g198.u .leaf .leaf))))) (.node 223 1 g223.u (.node 212 2 g212.u (.node 205 2 g205.u (.node 202 2 g202.u (.node 201 1 g201.u (.node 200 2 g200.u .leaf .leaf) .leaf) (.node 204 1 g204.u (.node 203 1 g203.u .leaf .leaf) .leaf)) (.node 209 3 g209.u (.node 208 1 g208.u (.node 206 5 g206.u .leaf .leaf) .leaf) (.node 211 2 g211.u (.node 210 1 g210.u .leaf .leaf) .leaf))) (.node 218 1 g218.u (.node 215 2 g215.u (.node 214 2 g214.u (.node 213 2 g213.u .leaf .leaf) .leaf) (.node 217 1 g217.u (.node 216 3 g216.u .leaf .leaf) .leaf)) (.node 221 1 g221.u (.node 220 2 g220.u (.node 219 0 g219.u .leaf .leaf) .leaf) (.node 222 1 g222.u .leaf .leaf)))) (.node 235 1 g235.u (.node 229 1 g229.u (.node 226 1 g226.u (.node 225 1 g225.u (.node 224 1 g224.u .leaf .leaf) .leaf) (.node 228 2 g228.u (.node 227 1 g227.u .leaf .leaf) .leaf)) (.node 232 1 g232.u (.node 231 2 g231.u (.node 230 1 g230.u .leaf .leaf) .leaf) (.node 234 1 g234.u (.node 233 2 g233.u .leaf .leaf) .leaf))) (.node 241 2 g241.u (.node 238 0 g238.u (.node 237 1 g237.u (.node 236 1 g236.u .leaf .leaf) .leaf) (.node 240 1 g240.u (.node 239 2 g239.u .leaf .leaf) .leaf)) (.node 280 3 g280.u (.node 243 2 g243.u (.node 242 2 g242.u .leaf .leaf) .leaf) (.node 281 3 g281.u .leaf .leaf)))))))
theorem Yep:MR.Ok prog aG:=⟨g135.ok,⟨g80.ok,⟨g48.ok,⟨g26.ok,⟨g20.ok,⟨g13.ok,⟨g8.ok,⟨g7.ok,trivial,trivial⟩,trivial⟩,⟨g19.ok,⟨g18.ok,trivial,trivial⟩,trivial⟩⟩,⟨g23.ok,⟨g22.ok,⟨g21.ok,trivial,trivial⟩,trivial⟩,⟨g25.ok,⟨g24.ok,trivial,trivial⟩,trivial⟩⟩⟩,⟨g42.ok,⟨g36.ok,⟨g28.ok,⟨g27.ok,trivial,trivial⟩,trivial⟩,⟨g41.ok,⟨g40.ok,trivial,trivial⟩,trivial⟩⟩,⟨g45.ok,⟨g44.ok,⟨g43.ok,trivial,trivial⟩,trivial⟩,⟨g47.ok,⟨g46.ok,trivial,trivial⟩,trivial⟩⟩⟩⟩,⟨g69.ok,⟨g54.ok,⟨g51.ok,⟨g50.ok,⟨g49.ok,trivial,trivial⟩,trivial⟩,⟨g53.ok,⟨g52.ok,trivial,trivial⟩,trivial⟩⟩,⟨g66.ok,⟨g64.ok,⟨g63.ok,trivial,trivial⟩,trivial⟩,⟨g68.ok,⟨g67.ok,trivial,trivial⟩,trivial⟩⟩⟩,⟨g75.ok,⟨g72.ok,⟨g71.ok,⟨g70.ok,trivial,trivial⟩,trivial⟩,⟨g74.ok,⟨g73.ok,trivial,trivial⟩,trivial⟩⟩,⟨g78.ok,⟨g77.ok,⟨g76.ok,trivial,trivial⟩,trivial⟩,⟨g79.ok,trivial,trivial⟩⟩⟩⟩⟩,⟨g110.ok,⟨g99.ok,⟨g86.ok,⟨g83.ok,⟨g82.ok,⟨g81.ok,trivial,trivial⟩,trivial⟩,⟨g85.ok,⟨g84.ok,trivial,trivial⟩,trivial⟩⟩,⟨g91.ok,⟨g88.ok,⟨g87.ok,trivial,trivial⟩,trivial⟩,⟨g98.ok,⟨g94.ok,trivial,trivial⟩,trivial⟩⟩⟩,⟨g105.ok,⟨g102.ok,⟨g101.ok,⟨g100.ok,trivial,trivial⟩,trivial⟩,⟨g104.ok,⟨g103.ok,trivial,trivial⟩,trivial⟩⟩,⟨g108.ok,⟨g107.ok,⟨g106.ok,trivial,trivial⟩,trivial⟩,⟨g109.ok,trivial,trivial⟩⟩⟩⟩,⟨g122.ok,⟨g116.ok,⟨g113.ok,⟨g112.ok,⟨g111.ok,trivial,trivial⟩,trivial⟩,⟨g115.ok,⟨g114.ok,trivial,trivial⟩,trivial⟩⟩,⟨g119.ok,⟨g118.ok,⟨g117.ok,trivial,trivial⟩,trivial⟩,⟨g121.ok,⟨g120.ok,trivial,trivial⟩,trivial⟩⟩⟩,⟨g128.ok,⟨g125.ok,⟨g124.ok,⟨g123.ok,trivial,trivial⟩,trivial⟩,⟨g127.ok,⟨g126.ok,trivial,trivial⟩,trivial⟩⟩,⟨g131.ok,⟨g130.ok,⟨g129.ok,trivial,trivial⟩,trivial⟩,⟨g134.ok,trivial,trivial⟩⟩⟩⟩⟩⟩,⟨g199.ok,⟨g168.ok,⟨g157.ok,⟨g151.ok,⟨g138.ok,⟨g137.ok,⟨g136.ok,trivial,trivial⟩,trivial⟩,⟨g149.ok,⟨g139.ok,trivial,trivial⟩,trivial⟩⟩,⟨g154.ok,⟨g153.ok,⟨g152.ok,trivial,trivial⟩,trivial⟩,⟨g156.ok,⟨g155.ok,trivial,trivial⟩,trivial⟩⟩⟩,⟨g163.ok,⟨g160.ok,⟨g159.ok,⟨g158.ok,trivial,trivial⟩,trivial⟩,⟨g162.ok,⟨g161.ok,trivial,trivial⟩,trivial⟩⟩,⟨g166.ok,⟨g165.ok,⟨g164.ok,trivial,trivial⟩,trivial⟩,⟨g167.ok,trivial,trivial⟩⟩⟩⟩,⟨g188.ok,⟨g174.ok,⟨g171.ok,⟨g170.ok,⟨g169.ok,trivial,trivial⟩,trivial⟩,⟨g173.ok,⟨g172.ok,trivial,trivial⟩,trivial⟩⟩,⟨g177.ok,⟨g176.ok,⟨g175.ok,trivial,trivial⟩,trivial⟩,⟨g187.ok,⟨g178.ok,trivial,trivial⟩,trivial⟩⟩⟩,⟨g194.ok,⟨g191.ok,⟨g190.ok,⟨g189.ok,trivial,trivial⟩,trivial⟩,⟨g193.ok,⟨g192.ok,trivial,trivial⟩,trivial⟩⟩,⟨g197.ok,⟨g196.ok,⟨g195.ok,trivial,trivial⟩,trivial⟩,⟨g198.ok,trivial,trivial⟩⟩⟩⟩⟩,⟨g223.ok,⟨g212.ok,⟨g205.ok,⟨g202.ok,⟨g201.ok,⟨g200.ok,trivial,trivial⟩,trivial⟩,⟨g204.ok,⟨g203.ok,trivial,trivial⟩,trivial⟩⟩,⟨g209.ok,⟨g208.ok,⟨g206.ok,trivial,trivial⟩,trivial⟩,⟨g211.ok,⟨g210.ok,trivial,trivial⟩,trivial⟩⟩⟩,⟨g218.ok,⟨g215.ok,⟨g214.ok,⟨g213.ok,trivial,trivial⟩,trivial⟩,⟨g217.ok,⟨g216.ok,trivial,trivial⟩,trivial⟩⟩,⟨g221.ok,⟨g220.ok,⟨g219.ok,trivial,trivial⟩,trivial⟩,⟨g222.ok,trivial,trivial⟩⟩⟩⟩,⟨g235.ok,⟨g229.ok,⟨g226.ok,⟨g225.ok,⟨g224.ok,trivial,trivial⟩,trivial⟩,⟨g228.ok,⟨g227.ok,trivial,trivial⟩,trivial⟩⟩,⟨g232.ok,⟨g231.ok,⟨g230.ok,trivial,trivial⟩,trivial⟩,⟨g234.ok,⟨g233.ok,trivial,trivial⟩,trivial⟩⟩⟩,⟨g241.ok,⟨g238.ok,⟨g237.ok,⟨g236.ok,trivial,trivial⟩,trivial⟩,⟨g240.ok,⟨g239.ok,trivial,trivial⟩,trivial⟩⟩,⟨g280.ok,⟨g243.ok,⟨g242.ok,trivial,trivial⟩,trivial⟩,⟨g281.ok,trivial,trivial⟩⟩⟩⟩⟩⟩⟩
set_option maxRecDepth 1000000
theorem Up:∀f np g,MR.get f=some (np,g)→GQ f np g:=GT.ql Yep
abbrev F168:Nat:=18
def txI:Tx:=[99,97,114,100,32,73,109,112,32,117,110,105,116,32,49,32,50,47,50,32,123,32,100,101,97,100,32,123,32,103,97,105,110,32,49,59,32,125,32,125]
def ud:List aa:=[(.aW false false 12 [[(.str [73,109,112]),(.bool true),(.int .i64 1),(.int .i64 2),(.int .i64 2),(.int .i64 0),(.int .i64 0),(.int .i64 0),.al,(.aW false false 14 [[(.int .i8 3),(.int .i8 0),(.int .i8 0),(.int .i64 1),(.int .i8 0),.al,(.str []),(.int .i8 0),(.int .i8 0),(.str []),.al,.al,.al,.al]]),.al,(.int .i64 0)]]),.al]
theorem p168:PC F168 [.str txI] (.bp [.agg ud,.agg [iv 0,iv 0]]):=ZcD hP Up (much:=1000000000) 60 (by kernel_rfl)
def bI:Bk:=⟨[⟨[73,109,112],true,1,2,2,0,0,0,[],[.mk 3 0 (.mk 0 1 0 []) [] (.mk 0 0 [] [] []) [] []],[],0⟩],[]⟩
def sI(a c:Int):St:={ turn:=1,mover:=0,phase:=0,bD:=false,result:=0,ao:=[],next:=9,s0:=⟨a,0,0,[],[],[],[⟨1,0,2,false⟩],[]⟩,s1:=⟨c,0,0,[],[],[],[],[]⟩ }
def tI:St:={ turn:=1,mover:=0,phase:=0,bD:=false,result:=0,ao:=[],next:=9,s0:=⟨20,1,0,[],[],[0],[],[]⟩,s1:=⟨20,0,0,[],[],[],[],[]⟩ }
def tJ:St:={ turn:=1,mover:=0,phase:=2,bD:=false,result:=3,ao:=[],next:=9,s0:=⟨0,0,0,[],[],[0],[],[]⟩,s1:=⟨0,0,0,[],[],[],[],[]⟩ }
def lI:List Ev:=[⟨13,0,0,1,0,0,[]⟩,⟨14,0,0,0,0,0,[]⟩,⟨7,0,0,0,0,1,[]⟩]
def lJ:List Ev:=[⟨13,0,0,1,0,0,[]⟩,⟨15,0,0,0,0,3,[]⟩]
theorem QcB:Yg bI.aj:=by
 intro c hc;simp only[bI,zAs]at hc;subst hc;decide
theorem XeF(a c:Int):aY 1000000000 (sI a c):=by
 refine⟨?_,⟨?_,?_,?_,?_,?_⟩,⟨?_,?_,?_,?_,?_⟩⟩<;>(simp[sI])
theorem Uj:PC 8 [cE bI,bZ (sI 20 20),.al,iv 9] (j0 (0,tI,lI,7)):=by
 have:=L2 (q92 bI (sI 20 20) (by kernel_rfl) QcB (λ_=>by decide) (XeF _ _) [] 9 100 100 ⟨by decide,by decide⟩ (by decide) (λ _=>by decide) (by decide))
 rwa [show bT bI (sI 20 20) [] 9=(0,tI,lI,7) from by kernel_rfl]at this
theorem Uk:PC 8 [cE bI,bZ (sI 0 0),.al,iv 9] (j0 (0,tJ,lJ,9)):=by
 have:=L2 (q92 bI (sI 0 0) (by kernel_rfl) QcB (λ_=>by decide) (XeF _ _) [] 9 100 100 ⟨by decide,by decide⟩ (by decide) (λ _=>by decide) (by decide))
 rwa [show bT bI (sI 0 0) [] 9=(0,tJ,lJ,9) from by kernel_rfl]at this
def kP(a c:Int)(u:aa):List aa:=tM (sI a c) .al .al .al .al u .al .al .al .al .al .al
attribute [local irreducible] aE.rd aE.pu aE.wr aE.dr aE.gr aE.gw aE.gl aE.gd aE.opt cP W
set_option maxHeartbeats 8000000
theorem Yec{σ:List ab}{rd:List Nat}:aA (hp σ) rd (.agg ud) (cE bI):=
 aA.dP (y:=.agg ud) (aA.ro rfl) (λM u d=>(RK (M:=M) (xs:=[.agg ud]) (ys:=[cE bI]) (by kernel_rfl) (show dR ⟨M,bA⟩ [.agg ud] [u] from ⟨d,trivial⟩)).1)
theorem p91:PC 7 [] (.bool true):=by
 refine Xa hP g7.ok rfl rfl ?_;rw[H0.e];unfold g7;dsimp only;refine a_ p168 g18.ok (Za (v:=.agg ud) rfl (Za (v:=.agg [iv 0,iv 0]) rfl ?_));refine Yd (v:=.ak 0 0) (rd:=[]) (up:=[(0,.box [.al,.al])]) rfl (Ye [] _) ?_;refine Yd (v:=.ak 1 0) (rd:=[]) (up:=[(1,.box [iv 0,iv 0])]) rfl (Ye [ab.box [.al,.al]] _) ?_;refine Yd (c8 (row:=[.al,.al]) (row':=ud) rfl rfl rfl rfl) (Ze _ (by simp)) ?_;refine Yd (c8 (row:=[iv 0,iv 0]) (row':=[iv 0,iv 0]) rfl rfl rfl rfl) (Ze _ (by simp)) ?_;refine Za (v:=.agg (kP 0 0 .al)) rfl (Zv (row:=kP 0 0 .al) (row':=kP 0 0 .al) rfl rfl rfl ?_);obtain⟨σ,eσ⟩:∃σ:List ab,((([ab.box [.al,.al]]++[ab.box [iv 0,iv 0]]).set 0 (ab.box ud)).set 1 (ab.box [iv 0,iv 0]))++[ab.box (kP 0 0 .al)]=σ:=⟨_,rfl⟩;rw[eσ];have b1:ai σ 0=.box ud:=by rw[←eσ];rfl
 have s1:ai σ 2=.box (kP 0 0 .al):=by rw[←eσ];rfl
 have hl:σ.length=3:=by rw[←eσ];rfl
 have dO:((([ab.box [.al,.al]]++[ab.box [iv 0,iv 0]]).set 0 (ab.box ud)).set 1 (ab.box [iv 0,iv 0])).length=2:=rfl;rw[dO];clear eσ dO;refine Za (v:=.agg (bc ⟨1,0,2,false⟩)) rfl (Yd (Qew 4 σ _ _ (bc ⟨1,0,2,false⟩) rfl rfl) (Ye σ _) ?_);have b2:=Qb [ab.rows 4 [bc ⟨1,0,2,false⟩]] b1;have s2:=Qb [ab.rows 4 [bc ⟨1,0,2,false⟩]] s1;have u2:=Yc σ (.rows 4 [bc ⟨1,0,2,false⟩]);rw[hl]at u2 ⊢;generalize σ++[ab.rows 4 [bc ⟨1,0,2,false⟩]]=σ2 at *;clear b1 s1 hl;refine ay ?_;refine Yd (c8 (row':=kP 20 0 (.sl 3 0 1 true)) s2 rfl rfl rfl) (Ze _ (Zb s2)) ?_;have b3:=Yb (x:=.box (kP 20 0 (.sl 3 0 1 true))) b2 (by simp) (show 2≠0 by decide);have u3:=Yb (x:=.box (kP 20 0 (.sl 3 0 1 true))) u2 (by simp) (show 2≠3 by decide);have s3:ai (σ2.set 2 (.box (kP 20 0 (.sl 3 0 1 true)))) 2=_:=Zd _ (Zb s2);generalize σ2.set 2 (.box (kP 20 0 (.sl 3 0 1 true)))=σ3 at *;refine ay ?_;refine Yd (c8 (row':=kP 20 20 (.sl 3 0 1 true)) s3 rfl rfl rfl) (Ze _ (Zb s3)) ?_;have b4:=Yb (x:=.box (kP 20 20 (.sl 3 0 1 true))) b3 (by simp) (show 2≠0 by decide);have u4:=Yb (x:=.box (kP 20 20 (.sl 3 0 1 true))) u3 (by simp) (show 2≠3 by decide);have s4:ai (σ3.set 2 (.box (kP 20 20 (.sl 3 0 1 true)))) 2=_:=Zd _ (Zb s3);generalize σ3.set 2 (.box (kP 20 20 (.sl 3 0 1 true)))=σ4 at *;clear b2 b3 u2 u3 s2 s3;have Uy:RT σ4 [3] (.sl 3 0 1 true) [⟨1,0,2,false⟩]:=RT.own (l:=[⟨1,0,2,false⟩]) u4 (by simp) rfl;refine Za (v:=.agg ud) (ld b4 rfl) (Za (v:=.agg (kP 20 20 (.sl 3 0 1 true))) (ld s4 rfl) ?_);refine Zbz (b:=3) (q:=2) (row':=kP 20 20 (gS [⟨1,0,2,false⟩])) Uj rfl g8.ok.plain (.cons Yec (.cons (SB.agg (SB.mk (s:=sI 20 20) .al .al .al .al Uy .al .al .al .al .al .al)) (.cons (aA.ro rfl) (.cons (aA.ro rfl) .nil)))) (by rw[u4];simp) s4 (by decide) rfl (λj x x' e1 e2=>?_) ?_
 ·by_cases hj:j=13
  ·subst hj;have e1:x=.sl 3 0 1 true:=by have:some _=some x:=e1;exact(zBy this).symm
   have e2:x'=gS [⟨1,0,2,false⟩]:=by have:some _=some x':=e2;exact(zBy this).symm
   subst e1;subst e2;exact .inr Uy
  ·left;have cc:j<23:=(gE e1).1;have:(kP 20 20 (.sl 3 0 1 true))[j]?=(kP 20 20 (gS [⟨1,0,2,false⟩]))[j]?:=by
    match j,cc,hj with
    |0,_,_|1,_,_|2,_,_|3,_,_|4,_,_|5,_,_|6,_,_|7,_,_|8,_,_|9,_,_|10,_,_|11,_,_|12,_,_|14,_,_|15,_,_|16,_,_|17,_,_|18,_,_|19,_,_|20,_,_|21,_,_|22,_,_=>rfl
    |13,_,h=>exact absurd rfl h
    |j+23,h,_=>omega
   simp_all
 have b5:ai (σ4.set 3 .dead) 0=.box ud:=Yb b4 (by simp) (by decide);have b5:=Yb (x:=.box (kP 20 20 (gS [⟨1,0,2,false⟩]))) b5 (by simp) (show 2≠0 by decide);have s5:ai ((σ4.set 3 .dead).set 2 (.box (kP 20 20 (gS [⟨1,0,2,false⟩])))) 2=_:=Zd _ (by simpa using Zb s4);generalize (σ4.set 3 .dead).set 2 (.box (kP 20 20 (gS [⟨1,0,2,false⟩])))=σ5 at *;clear b4 u4 s4 Uy;refine Za (v:=bZ tI) rfl (Za (v:=.aW false false 7 (lI.map ck)) rfl (Za (v:=iv 7) rfl (Za (v:=iv 0) rfl (Zv (row:=aF tI) (row':=aF tI) rfl rfl rfl ?_))));have b6:=Qb [ab.box (aF tI)] b5;have s6:=Qb [ab.box (aF tI)] s5;have t6:=Yc σ5 (.box (aF tI));have hl6:=Zb s5;generalize σ5.length=tn at *;generalize σ5++[ab.box (aF tI)]=σ6 at *;refine Za rfl (Za rfl (Za rfl (Yd (c8 (row':=kP 0 20 (gS [⟨1,0,2,false⟩])) s6 rfl rfl rfl) (Ze _ (Zb s6)) ?_)));have b7:=Yb (x:=.box (kP 0 20 (gS [⟨1,0,2,false⟩]))) b6 (by simp) (show 2≠0 by decide);have t7:=Yb (x:=.box (kP 0 20 (gS [⟨1,0,2,false⟩]))) t6 (by simp) (show 2≠tn by omega);have s7:ai (σ6.set 2 (.box (kP 0 20 (gS [⟨1,0,2,false⟩])))) 2=_:=Zd _ (Zb s6);generalize σ6.set 2 (.box (kP 0 20 (gS [⟨1,0,2,false⟩])))=σ7 at *;refine ay ?_;refine Yd (c8 (row':=kP 0 0 (gS [⟨1,0,2,false⟩])) s7 rfl rfl rfl) (Ze _ (Zb s7)) ?_;have b8:=Yb (x:=.box (kP 0 0 (gS [⟨1,0,2,false⟩]))) b7 (by simp) (show 2≠0 by decide);have t8:=Yb (x:=.box (kP 0 0 (gS [⟨1,0,2,false⟩]))) t7 (by simp) (show 2≠tn by omega);have s8:ai (σ7.set 2 (.box (kP 0 0 (gS [⟨1,0,2,false⟩])))) 2=_:=Zd _ (Zb s7);generalize σ7.set 2 (.box (kP 0 0 (gS [⟨1,0,2,false⟩])))=σ8 at *;have hJ:PC 8 [.agg ud,.agg (kP 0 0 (gS [⟨1,0,2,false⟩])),.al,iv 9] (j0 (0,tJ,lJ,9)):=YcZ Uk (by kernel_rfl);refine Za (v:=.agg ud) (ld b8 rfl) (Za (v:=.agg (kP 0 0 (gS [⟨1,0,2,false⟩]))) (ld s8 rfl) (a_ hJ g8.ok ?_));refine Za (v:=bZ tJ) rfl (Za (v:=.aW false false 7 (lJ.map ck)) rfl (Za (v:=iv 9) rfl (Za (v:=iv 0) rfl (Zv (row:=aF tJ) (row':=aF tJ) rfl rfl rfl ?_))));have t9:=Qb [ab.box (aF tJ)] t8;have r9:=Yc σ8 (.box (aF tJ));generalize σ8.length=rn at *;generalize σ8++[ab.box (aF tJ)]=σ9 at *;refine Za (v:=.bool true) rfl ?_;refine Qa (Za rfl (Qa (Za rfl (Qa (Za rfl (Qa (Za (v:=gS []) (ld t9 rfl) ?_)))))));refine ay ?_;refine Za (v:=iv 1) (ld t9 rfl) (Qa (Za (v:=.bool true) rfl (Za (v:=.bool true) rfl ?_)));refine Qa (Za rfl (Qa (Za (v:=iv 3) rfl (Qa (Za (v:=.bool true) rfl (Za (v:=.bool true) rfl ?_))))));refine Qa (Za rfl (Qa (Za (Ym _ ck false false 7 lI .i64 1 (by decide)) (Qa (Za rfl (Qa (Za (v:=aO 14) (bB rfl) (Qa (Za (v:=.bool true) rfl (Za (v:=.bool true) rfl ?_))))))))));refine Qa (Za rfl (Qa (Za (v:=.bool true) rfl (Za (v:=.bool true) rfl ?_))));refine Qa (Za rfl (Qa (Za (v:=.bool true) rfl (Za (v:=.bool true) rfl ?_))));refine Qa (Za rfl (Qa (Za (v:=aO 3) (ld r9 rfl) ?_)));refine ay ?_;rfl
end Go.Ah.Tz
end
section
namespace Go.Proofs.YtiplhedaicikiaaGreatDoor
open Go.ChangeShapes Go.WideShapes Go.ChangeAt Go.RowKit Go.Ah Go.Ah.Tz
theorem QbX{H:Type}{enc:TypeId×Value→H}{P:Program}{f:Func}{s:ChangeSpec}{apart fresh handsOn again:Bool}{W W':World}{args:Array Value}{v:Value}{ds gs:List (DataW H)}{before pa pv:List MemPlace}
 (hW:DataW.Whole enc P f.params.toList s.vars apart W args.toList ds gs before)
 (nN:∀(b:Nat) (sp:Nat→Bool) (hd:Bool),zDU enc P W' b sp hd f.resultTypes.toList (v.resultList f.resultTypes.size) (s.fn H (ds++gs)).results [])
 (wI:∀sp:Nat→Bool,(∀p∈before,sp p.block=true)→zDU enc P W' 0 sp true f.params.toList args.toList (s.fn H (ds++gs)).args pa)
 (B8:∀sp:Nat→Bool,(∀p∈before,sp p.block=true)→DataW.TrodVars enc P W' sp s.vars (s.fn H (ds++gs)).vars pv)
 (vi:before=pa++pv)(hb:Below W.heap.size W W')
 (bR:∀(j:Nat) (t:TypeId) (r:Value),f.resultTypes[j]?=some t→(v.resultList f.resultTypes.size)[j]?=some r→zCD P W' .any 0 t r) :
  s.post enc P f apart fresh handsOn again W args v W':=by
 have hold:∀p∈before,(λb=>decide (b<W.heap.size)) p.block=true:=λp hp=>by simpa using hW.lt p hp
 refine⟨ds,gs,before,[],pa,pv,hW,nN _ _ _,wI _ hold,B8 _ hold,World.keptBut_mono (λp hp=>⟨hp,?_⟩) (hb.frame (·∈before)),λ_=>?_⟩
 ·rw[vi,zAF]at hp;exact Or.inr hp
 ·have cc:=hW.lt;obtain⟨_,_,_,_,_,hz,hn⟩:=hW;refine⟨bR,_,_,([]++pa)++pv,⟨[]++pa,pv,trodAll_append (wI _ (λ_ _=>rfl)) (nN _ _ _),B8 _ (λ_ _=>rfl),rfl,?_,?_⟩,?_⟩
  ·intro b off hp;have dc:MemPlace.cell b off∈before:=by rw[vi];simpa using hp
   rw[hb.frozen (p:=⟨b,off,none⟩) (show b<W.heap.size from cc _ dc)];exact hz b off dc
  ·intro ha;have:=hn ha;rw[vi]at this;simpa using this
  ·intro p hp _;rw[vi];simpa using hp
set_option maxRecDepth 100000
abbrev MQ:TypeId:=5
abbrev QeH:TypeId:=311
theorem JQ:ownKnob Tryz.prog.godebug=none:=by kernel_rfl
theorem Yeu:Tryz.prog.globalNamed "strings.asciiSpace" = some 1:=by kernel_rfl
theorem Xdk:(Tryz.prog.globals[1]?).map (·.type)=some QeH:=by kernel_rfl
theorem Ydk:laidOutB Tryz.prog=true:=by kernel_rfl
def iU:List Int:=(zAB 256).map λi=>match (zAR 9 i&&zAR i 13)||IT i 32 with|true=>1|false=>0
theorem Xed{l:List (String×DataW Unit)}{x0 x1 x2 x3:String×DataW Unit}(hl:l=[x0,x1,x2,x3,("strings.asciiSpace",Lib.tabData .u8 iU)]){W:World}(h:laidMet Tryz.prog l W):∀p∈aG,Den (λb=>W.heap[b]?) bA (.aq p.2 0) (.pointer (some ⟨p.1,0,none⟩)):=by
 subst hl;have ht:Lib.TabIs Tryz.prog W "strings.asciiSpace" .u8 iU:=Lib.tabIs_of_head (rest:=[]) Yeu Xdk (show Tryz.prog.underlying QeH=some (.array 256 MQ) by kernel_rfl) (show Tryz.prog.underlying MQ=some (.int .u8) by kernel_rfl) (by kernel_rfl) (by kernel_rfl) h.tail.tail.tail.tail;have hlen:iU.length=256:=by simp[iU]
 have ee:Ay=iU.map (aa.int .u8):=by rw[Ay,iU,List.map_map];rfl
 intro p hp;simp only[aG,zAs]at hp;subst hp;refine .aq _ Ay 0 1 0 (λk=>.int .u8 (iU.getD k 0)) (λk hk=>?_) (λk y hy=>?_)
 ·have wX:k<iU.length:=by rw[ee,zAM]at hk;exact hk
  have:=(R3 (ht.cell Yeu k wX)).2;rw[IN];exact this
 ·rw[ee,zAT]at hy;obtain⟨z,hz,rfl⟩:=zBh.1 hy;have:iU.getD k 0=z:=by simp[List.getD,hz]
  rw[this];exact .int _ _ _
def OP:List TypeId:=[rm,YO,IW,zh,Hk,N6,GO,SW,I1,Ba,Ji,Tt,ID,R7,NH,vQ,Jj,Tu,A',N9,Rn,vW]
theorem WY:OP.all (Gy Tryz.prog OP)=true:=by kernel_rfl
theorem Qet{M:Nat→Option Obj}{xs:List aa}{cs:Array Value}(h:DL M xs cs.toList):Den M bA (.agg xs) (.agg cs):=
 .agg _ _ _ (by have:=h.1;simpa using this.symm) (λi x v h1 h2=>h.2 i x v h1 (by simpa using h2))
theorem Zck{P:Program}{t:TypeId}{ts:List TypeId}(h:Yx P t=some ts):∃fs,P.underlying t=some (.struct fs):=by
 unfold Yx at h;split at h
 ·rename_i fs e;exact⟨fs,e⟩
 ·cases h
section
variable {H:Type} {enc:TypeId×Value→H} {W:World} {base:Nat} {v:Value} {d:DataW H} {ps:List MemPlace}
theorem Zeu(ho:zCD Tryz.prog W .any base vQ v)(h:zCX enc Tryz.prog W 0 (λ_=>true) true vQ v d ps)(hb:Rows.uptoBulk d<=1048576):∃b:Bk,ba b=true∧Yg b.aj∧Den (λk=>W.heap[k]?) bA (cE b) v:=by
 obtain⟨fs,UN⟩:=Zck Md;obtain⟨cs,rfl,_⟩:=okWide_struct UN ho;obtain⟨fuel,hf⟩:=h;obtain⟨_,xs,h1,h2⟩:=Ti (S:=OP) WY fuel vQ (by decide) _ _ ⟨_,hf⟩;obtain⟨b,rfl,k1,k2⟩:=MU h2 hb;exact⟨b,k1,k2,Qet h1⟩
theorem Qed(ho:zCD Tryz.prog W .any base vW v)(h:zCX enc Tryz.prog W 0 (λ_=>true) true vW v d ps)(hb:Rows.uptoBulk d<=1048576):∃s:St,aY 2000000 s∧Den (λk=>W.heap[k]?) bA (bZ s) v:=by
 obtain⟨fs,UN⟩:=Zck Me;obtain⟨cs,rfl,_⟩:=okWide_struct UN ho;obtain⟨fuel,hf⟩:=h;obtain⟨_,xs,h1,h2⟩:=Ti (S:=OP) WY fuel vW (by decide) _ _ ⟨_,hf⟩;obtain⟨s,rfl,k⟩:=MZ h2 hb;exact⟨s,k,Qet h1⟩
theorem JP(ho:zCD Tryz.prog W .any base YO v)(h:zCX enc Tryz.prog W 0 (λ_=>true) true YO v d ps):∃n:Int,Den (λk=>W.heap[k]?) bA (iv n) v:=by
 obtain⟨n,rfl,_⟩:=open_int n_ ho h;exact⟨n,.int _ _ _⟩
end
theorem Nt{H:Type}{enc:TypeId×Value→H}{t:TypeId}(hr:Tryz.prog.readableRec t=true)(ee:t<Tryz.prog.types.size){W W':World}{v:Value}{d:DataW H}{ps all:List MemPlace}(h:zCX enc Tryz.prog W 0 (λ_=>true) true t v d ps)(hb:Below W.heap.size W W')(cc:∀p∈all,p.block<W.heap.size)(dc:∀p∈ps,p∈all){sp:Nat→Bool}(hs:∀p∈all,sp p.block=true):zCX enc Tryz.prog W' 0 sp true t v d ps:=
 WideElems.Trod_stays Ydk hr ee h (λp hp=>hb.same (cc p (dc p hp))) (λp hp=>hs p (dc p hp))
theorem Ot(t:TypeId)(h:(Tryz.prog.readableRec t&&decide (t<Tryz.prog.types.size))=true):Tryz.prog.readableRec t=true∧t<Tryz.prog.types.size:=by simpa using h
theorem L4:Tryz.prog.readableRec vQ=true∧vQ<Tryz.prog.types.size:=Ot vQ (by kernel_rfl)
theorem L6:Tryz.prog.readableRec vW=true∧vW<Tryz.prog.types.size:=Ot vW (by kernel_rfl)
theorem YeF:Tryz.prog.readableRec YO=true∧YO<Tryz.prog.types.size:=Ot YO (by kernel_rfl)
theorem L5:Tryz.prog.readableRec rm=true∧rm<Tryz.prog.types.size:=Ot rm (by kernel_rfl)
section
variable {H:Type} {enc:TypeId×Value→H} {W:World} {base:Nat} {v:Value} {d:DataW H} {ps:List MemPlace}
theorem T6(ho:zCD Tryz.prog W .any base rm v)(h:zCX enc Tryz.prog W 0 (λ_=>true) true rm v d ps):∃n:Int,Den (λk=>W.heap[k]?) bA (aO n) v:=by
 obtain⟨n,rfl,_⟩:=open_int zC ho h;exact⟨n,.int _ _ _⟩
end
theorem Qm{a b:Bool}(h:a=true)(k:b=true):(a&&b)=true:=by rw[h,k];rfl
def JR:List Int:=[1,10,100,1000,10000,100000,1000000,10000000,100000000,1000000000,10000000000,100000000000,1000000000000,10000000000000,100000000000000,1000000000000000,10000000000000000,100000000000000000,1000000000000000000,10000000000000000000]
def JN:List Int:=[0,1,28,2,29,14,24,3,30,22,20,15,25,17,4,8,31,27,13,23,21,19,16,7,26,12,18,6,11,5,10,9]
def JO:List Int:=[0,1,56,2,57,49,28,3,61,58,42,50,38,29,17,4,62,47,59,36,45,43,51,22,53,39,33,30,24,18,12,5,63,55,48,27,60,41,37,16,46,35,44,21,52,32,23,11,54,26,40,15,34,20,31,10,25,14,19,9,13,8,7,6]
def QdQ:List Int:=[9,13,1,32,133,101,160,5760,5600,8192,8202,1,8232,8233,1,8239,8287,48,12288,12288,1]
noncomputable def Q_ (os:Os):World:=
 let w0:=World.holding Tryz.prog os ⟨#[],#[],[]⟩
 let put (h:Array Obj) (g:Nat) (cs:Array Value):Array Obj:=h.modify g fun
  |.cells _ t frozen=>.cells cs t frozen
  |o=>o
 let h1:=put w0.heap 0 (JR.map λz=>zCy .u64 z).toArray
 let h2:=put h1 1 (iU.map λz=>zCy .u8 z).toArray
 let h3:=put h2 2 (JN.map λz=>zCy .u8 z).toArray
 let h4:=put h3 3 (JO.map λz=>zCy .u8 z).toArray
 let h5:=put h4 4 #[.pointer (some ⟨w0.heap.size,0,none⟩)]
 { w0 with heap:=(h5.push (.cells #[.slice (some ⟨w0.heap.size+1,0,none⟩) 7 7,.slice none 0 0,.int .i64 2] 323 (0,0))).push (.cells (QdQ.map λz=>zCy .u16 z).toArray 326 (0,0)) }
theorem Xcz:Rows.wakeDawnsUptoRow.laid=[("math/bits.deBruijn32tab",Rows.laid_math_bits_deBruijn32tab),("math/bits.deBruijn64tab",Rows.laid_math_bits_deBruijn64tab),("internal/strconv.uint64pow10",Rows.laid_internal_strconv_uint64pow10),("unicode.White_Space",Rows.laid_unicode_White_Space),("strings.asciiSpace",Lib.tabData .u8 iU)]:=by kernel_rfl
theorem Zby(H:Type)(enc:TypeId×Value→H)(W:World)(base:Nat)(args:Array Value)(ds gs:List (DataW H))(before:List MemPlace)
 (tD:∀(j:Nat) t v,Tryz.f4.params[j]?=some t→args[j]?=some v→zCD Tryz.prog W .any base t v)
 (hW:DataW.Whole enc Tryz.prog Tryz.f4.params.toList Rows.wakeDawnsSpec.vars false W args.toList ds gs before)(hk:Rows.uptoSmall H (ds++gs)=true)(hL:laidMetH Tryz.prog Rows.wakeDawnsUptoRow.laid W) :
  Calls Tryz.prog 4 args W λe W'=>∃v,e=.returned v∧Rows.wakeDawnsSpec.post enc Tryz.prog Tryz.f4 false true false false W args v W':=by
 have hW':=hW;have cc:=hW.lt;obtain⟨p,q,hA0,hV,rfl,hfz,hnd⟩:=hW;have hA:zDU enc Tryz.prog W 0 (λ_=>true) true Tryz.f4.params.toList args.toList ds p:=hA0;rw[Tryz.params4]at hA tD;obtain⟨v0,vs,d0,ds,p0,p,wI,rfl,rfl,h0,r⟩:=trodAll_cons hA;obtain⟨v1,vs,d1,ds,p1,p,rfl,rfl,rfl,h1,r⟩:=trodAll_cons r;obtain⟨v2,vs,d2,ds,p2,p,rfl,rfl,rfl,h2,r⟩:=trodAll_cons r;obtain⟨v3,vs,d3,ds,p3,p,rfl,rfl,rfl,h3,r⟩:=trodAll_cons r;obtain⟨rfl,rfl,rfl⟩:=trodAll_nil r;obtain rfl:args = #[v0,v1,v2,v3]:=by cases args;simp_all
 obtain⟨rfl,rfl⟩:=trodVars_none hV;have cI:Rows.uptoBulkAll [d0,d1,d2,d3]<=1048576:=of_decide_eq_true hk;simp only[Rows.uptoBulkAll]at cI;obtain⟨b,hf,bW,e0⟩:=Zeu (tD 0 _ v0 rfl rfl) h0 (by omega);obtain⟨s,hs,e1⟩:=Qed (tD 1 _ v1 rfl rfl) h1 (by omega);obtain⟨n2,e2⟩:=JP (tD 2 _ v2 rfl rfl) h2;obtain⟨n3,e3⟩:=T6 (tD 3 _ v3 rfl rfl) h3;have hg:=Xed Xcz (show laidMet Tryz.prog Rows.wakeDawnsUptoRow.laid W from hL);refine(i21 p91 b hf bW s hs n2 n3 W (λk=>W.heap[k]?) [v0,v1,v2,v3] (λ_ _ h=>h) hg ⟨e0,e1,e2,e3,trivial⟩).mono ?_;rintro e W' ⟨u,rfl,KM,M',_,_,_,hd⟩;cases hd;have hb:=KM.below;refine⟨_,rfl,QbX (pa:=p0++(p1++(p2++(p3++[])))) (pv:=[]) hW' (λ_ _ _=>trodAll_cons_mk (shut_bool Ia _) trodAll_mk0) (λsp uG=>?_) (λ_ _=>rfl) rfl hb (ok_one (by kernel_rfl) rfl (okWide_bool_mk Ia _))⟩;rw[Tryz.params4];refine trodAll_cons_mk (Nt L4.1 L4.2 h0 hb cc (λp hp=>by simp[hp]) uG) <| trodAll_cons_mk (Nt L6.1 L6.2 h1 hb cc (λp hp=>by simp[hp]) uG) <| trodAll_cons_mk (Nt YeF.1 YeF.2 h2 hb cc (λp hp=>by simp[hp]) uG) <| trodAll_cons_mk (Nt L5.1 L5.2 h3 hb cc (λp hp=>by simp[hp]) uG) trodAll_mk0
def Of:Array Value:=#[.agg #[.slice none 0 0,.slice none 0 0],.agg #[.int .i64 0,.int .i64 0,.int .i8 0,.bool false,.int .i8 0,.slice none 0 0,.int .i64 0,.int .i64 0,.int .i64 0,.int .i64 0,.slice none 0 0,.slice none 0 0,.slice none 0 0,.slice none 0 0,.slice none 0 0,.int .i64 0,.int .i64 0,.int .i64 0,.slice none 0 0,.slice none 0 0,.slice none 0 0,.slice none 0 0,.slice none 0 0],.int .i64 0,.int .i8 0]
theorem Yda(os:Os):laidMet Tryz.prog Rows.wakeDawnsUptoRow.laid ((Q_ os).forCall (λ_ _=>0) ⟨#[],Of,[]⟩).memory:=
 laidMet_of_run' 8 (by kernel_rfl) (by kernel_rfl)
theorem Qcm(os:Os){H:Type}(enc:TypeId×Value→H):∃places,DataW.whole enc Tryz.prog ((Q_ os).forCall (λ_ _=>0) ⟨#[],Of,[]⟩).memory Tryz.f4.params.toList Rows.wakeDawnsSpec.vars false Of.toList 8 =
  some ([.agg [.nil,.nil],.agg [.lit (.int .i64 0),.lit (.int .i64 0),.lit (.int .i8 0),.lit (.bool false),.lit (.int .i8 0),.nil,.lit (.int .i64 0),.agg [.agg [.lit (.int .i64 0),.lit (.int .i64 0),.lit (.int .i64 0),.nil,.nil,.nil,.nil,.nil],.agg [.lit (.int .i64 0),.lit (.int .i64 0),.lit (.int .i64 0),.nil,.nil,.nil,.nil,.nil]]],.lit (.int .i64 0),.lit (.int .i8 0)],[],places):=⟨[],by kernel_rfl⟩
theorem Xb1(os:Os)(started:os.Started)(H:Type)(enc:TypeId×Value→H)(F:Stop.Interp) :
  ReturnsInHanded {} Tryz.checked os 4 .any ((Rows.OpenSpec.upto Rows.wakeDawnsSpec).preRow enc Tryz.prog Tryz.f4 Rows.wakeDawnsUptoRow.domain false Rows.wakeDawnsUptoRow.laid) (((Rows.OpenSpec.upto Rows.wakeDawnsSpec).at F).post enc Tryz.prog Tryz.f4 false true false false):=by
 obtain⟨places,hx⟩:=Qcm os enc;refine returnsInHanded_of_row (C:=Tryz.checked) (s:=Rows.OpenSpec.upto Rows.wakeDawnsSpec) JQ started (by kernel_rfl) Tryz.func4
  (witness_row_atRef (enc:=enc) (C:=Tryz.checked) false (Q_ os) Of rfl (by kernel_rfl) (by kernel_rfl) (by kernel_rfl)
   (OpenSpec.preRow_of_cond 8 hx (by kernel_rfl) (λk hk=>by cases hk;kernel_rfl) (by kernel_rfl) (Yda os))) ?_
 intro W base args ds gs before tD hW _ ux _ hL _ _;exact Zby H enc W base args ds gs before tD hW (ux _ rfl) hL
theorem XdJ:Tryz.prog.funcNamed Rows.wakeDawnsUptoRow.func=some 4:=by kernel_rfl
theorem QdJ:(Rows.wakeDawnsUptoRow.wf (OpenSpec.ofChange (Rows.OpenSpec.upto Rows.wakeDawnsSpec).bare))=true:=by kernel_rfl
theorem ZdK:(laidOutB Tryz.prog)=true:=by kernel_rfl
theorem YdK:(mapsRowed Tryz.prog)=true:=by kernel_rfl
theorem XdK:(Tryz.f4.params.all (Tryz.prog.readableRec ·))=true:=by kernel_rfl
theorem QdK:(namedTie Tryz.prog Rows.wakeDawnsUptoRow.named (Rows.OpenSpec.upto Rows.wakeDawnsSpec).bare.vars)=true:=by kernel_rfl
theorem ZdL:(Rows.wakeDawnsUptoRow.stops==[])=true:=by kernel_rfl
theorem YdL:(Tryz.prog.stops==[])=true:=by kernel_rfl
theorem XdL:(Rows.wakeDawnsUptoRow.knobs==[])=true:=by kernel_rfl
theorem QdL:(Tryz.prog.stopKnobs==[])=true:=by kernel_rfl
theorem Xc4:(Rows.wakeDawnsUptoRow.inPlace==Tryz.prog.inPlace 4)=true:=by kernel_rfl
theorem Qc4:(Rows.wakeDawnsUptoRow.unfollowed==Tryz.prog.unfollowed 4)=true:=by kernel_rfl
theorem Zc5:(Rows.wakeDawnsUptoRow.recurses==Tryz.prog.recurses 4)=true:=by kernel_rfl
theorem Yc5:(Rows.wakeDawnsUptoRow.named==Tryz.prog.varsNamed 4)=true:=by kernel_rfl
theorem Xc5:(Rows.wakeDawnsUptoRow.maps==(Tryz.f4.params.toList++(Rows.OpenSpec.upto Rows.wakeDawnsSpec).bare.plain.varTypes Tryz.prog).any (Tryz.prog.mapsRec ·))=true:=by kernel_rfl
theorem Qc5:(Rows.wakeDawnsUptoRow.ifaces==(Tryz.f4.params.toList++(Rows.OpenSpec.upto Rows.wakeDawnsSpec).bare.plain.varTypes Tryz.prog).any (Tryz.prog.ifacesRec ·))=true:=by kernel_rfl
theorem Zc6:(Rows.wakeDawnsUptoRow.mapsOut==Tryz.prog.mapsAmong Tryz.f4.resultTypes.toList)=true:=by kernel_rfl
theorem Yc6:(Rows.wakeDawnsUptoRow.loops==(Tryz.f4.params.toList++(Rows.OpenSpec.upto Rows.wakeDawnsSpec).bare.plain.varTypes Tryz.prog).any (Tryz.prog.loopsFrom ·))=true:=by kernel_rfl
theorem Xc6:(Rows.wakeDawnsUptoRow.wideKeys==(Tryz.f4.params.toList++(Rows.OpenSpec.upto Rows.wakeDawnsSpec).bare.plain.varTypes Tryz.prog++Tryz.f4.resultTypes.toList).any (Tryz.prog.wideKeysFrom ·))=true:=by kernel_rfl
theorem Qc6:((Rows.OpenSpec.upto Rows.wakeDawnsSpec).bare.vars.all (Tryz.prog.varReadable ·))=true:=by kernel_rfl
theorem Zc7:(Tryz.f4.resultTypes.all (λt=>Tryz.prog.readableRec t&&decide (t<Tryz.prog.types.size)))=true:=by kernel_rfl
theorem Yc7:(Rows.wakeDawnsUptoRow.ifacesOut==Tryz.f4.resultTypes.toList.any (Tryz.prog.ifacesRec ·))=true:=by kernel_rfl
theorem Xc7:(Rows.wakeDawnsUptoRow.loopsOut==Tryz.f4.resultTypes.toList.any (Tryz.prog.loopsFrom ·))=true:=by kernel_rfl
theorem Qc7:(Rows.wakeDawnsUptoRow.plainKeys==Tryz.prog.plainKeys)=true:=by kernel_rfl
theorem Zc8:(Rows.wakeDawnsUptoRow.shortTexts.isNone)=true:=by kernel_rfl
theorem Yc8:(Tryz.prog.stopsHeard)=true:=by kernel_rfl
theorem Xc8:(Tryz.prog.mayEnter)=true:=by kernel_rfl
theorem Qc8:(Rows.wakeDawnsUptoRow.lifted==Tryz.prog.liftsFinal)=true:=by kernel_rfl
theorem Zc9:(Tryz.prog.make==some Rows.wakeDawnsUptoRow.make)=true:=by kernel_rfl
theorem Yc9:(Rows.wakeDawnsUptoRow.kinds==(if Rows.wakeDawnsUptoRow.domain.isEmpty then []else Tryz.f4.params.toList.map λt=>match Tryz.prog.underlying t with|some (.int k)=>some k|_=>none))=true:=by kernel_rfl
theorem Xc9:(Rows.wakeDawnsUptoRow.pinned==Rows.wakeDawnsUptoRow.pinnedBy)=true:=by kernel_rfl
theorem Qc9:(Rows.wakeDawnsUptoRow.veiled==(Tryz.f4.params.toList++(Rows.OpenSpec.upto Rows.wakeDawnsSpec).bare.plain.varTypes Tryz.prog++Tryz.f4.resultTypes.toList).any (Tryz.prog.veiledRec ·))=true:=by kernel_rfl
theorem Zda:(Rows.wakeDawnsUptoRow.veiledFits Tryz.prog Tryz.f4.params.toList (Tryz.f4.params.toList++(Rows.OpenSpec.upto Rows.wakeDawnsSpec).bare.plain.varTypes Tryz.prog++Tryz.f4.resultTypes.toList))=true:=by kernel_rfl
theorem Yb1:joinedFacts Tryz.prog 4 Tryz.f4 (Rows.OpenSpec.upto Rows.wakeDawnsSpec).bare Rows.wakeDawnsUptoRow=true:=(Qm (Qm (Qm (Qm (Qm (Qm (Qm (Qm (Qm (Qm (Qm (Qm (Qm (Qm (Qm (Qm (Qm (Qm (Qm (Qm (Qm (Qm (Qm (Qm (Qm (Qm (Qm (Qm (Qm (Qm (Qm QdJ ZdK) YdK) XdK) QdK) ZdL) YdL) XdL) QdL) Xc4) Qc4) Zc5) Yc5) Xc5) Qc5) Zc6) Yc6) Xc6) Qc6) Zc7) Yc7) Xc7) Qc7) Zc8) Yc8) Xc8) Qc8) Zc9) Yc9) Xc9) Qc9) Zda)
theorem Qcz:Rows.WakeDawnsUptoSaid:=
 OpenClaim.holds_of_cond 4 Tryz.f4 rfl rfl rfl rfl rfl rfl rfl ⟨rfl,rfl,rfl,rfl,rfl⟩ rfl rfl rfl rfl rfl XdJ Tryz.func4 Yb1
  (of_decide_eq_true (by kernel_rfl)) (by unfold Func.isWrapper;first|(rw[aI (by decide +kernel)];kernel_rfl)|(rw[aB (by decide +kernel)];exact⟨rfl,rfl⟩))
  (λos started H enc _ F=>by rw[OpenClaim.pre_eq_preRow];exact Xb1 os started H enc F)
theorem Xcm(f:FuncId)(fn:Func)(hf:Tryz.pinned.checked.prog.funcNamed "baize/baizelaw23.WakeDawns" = some f)(yL:Tryz.pinned.checked.prog.funcs[f]?=some fn) :
  true=Tryz.pinned.checked.prog.looks []∧∀(j:Nat) t,fn.params[j]?=some t→Tryz.pinned.checked.prog.wantsStandIn t=false:=by
 obtain rfl:f=4:=zBy ((show Tryz.prog.funcNamed "baize/baizelaw23.WakeDawns" = some 4 by kernel_rfl).symm.trans hf) |>.symm;obtain rfl:fn=Tryz.f4:=(zBy (Tryz.func4.symm.trans yL)).symm;refine⟨by kernel_rfl,λj t ht=>?_⟩;rw[Tryz.params4]at ht;have hm:t∈[vQ,vW,YO,rm]:=by simpa using Array.mem_of_getElem? ht
 have iP:([vQ,vW,YO,rm].all λu=>!Tryz.prog.wantsStandIn u)=true:=by kernel_rfl
 exact(show Tryz.prog.wantsStandIn t=false by simpa using zAm.1 iP t hm)
theorem wakeDawns_upto_card:Rows.WakeDawnsUptoCardSaid:=
 Claim7.holds_tied_plain_at .later [] _ _ _ _ Qcz (λ_ h=>by cases h) (by kernel_rfl) (λ_ h=>by cases h) wakeDawnsUpto_row_tie rfl ⟨rfl,rfl⟩ (by kernel_rfl) rfl Xcm (by kernel_rfl)
#print axioms wakeDawns_upto_card
end Go.Proofs.YtiplhedaicikiaaGreatDoor
end
