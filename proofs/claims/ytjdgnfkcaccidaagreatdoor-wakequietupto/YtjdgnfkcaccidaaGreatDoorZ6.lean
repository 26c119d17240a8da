/- Part of the proof that WakeQuiet holds of the program for arguments that together hold at most 1048576 values and letters; no other condition. -/
import Derived.Test.YtjdgnfkcaccidaaGreatDoorZ5
import Derived.Test.YtjdgnfkcaccidaaGreatDoorRows
import Derived.Test.YtjdgnfkcaccidaaGreatDoorCards
import Derived.Test.YtjdgnfkcaccidaaGreatDoorTie
import Derived.ProofKit
import Derived.OpenShut
import Derived.Carry
import Derived.SevenTiedAt
import Derived.JoinedCond
import Derived.LaidMore
import Derived.SizedLaws
import Derived.Stop.LaidErr
import Derived.Deep.DeepHandedRow
import Derived.Deep.DeepWitnessRowRef
import Derived.Lib.LaidTab
set_option linter.all false
section
namespace Go.Ah.Tz
def Yn(s:St):Nat:=s.s0.ae.length+s.s1.ae.length
def lS(s:St)(id:Int):Int:=((((s.side (bj s id).1).ae)[(bj s id).2.1.toNat]?).getD default).card
def fx(b:Bk)(s:St):List Int→List Tr
 |[]=>[]
 |id::l=>(if 0<(Qs b (lS s id)).dead.length then [⟨lS s id,(bj s id).1,false⟩] else [])++fx b s l
def quiet(b:Bk):Nat→St→List Tr→List Ev→St×List Tr×List Ev
 |0,s,ws,l=>(s,ws,l)
 |n+1,s,ws,l=>if aN b s=[] then (s,ws,l) else quiet b n (Qt (aN b s) s).1 (ws++fx b s (aN b s)) (l++(Qt (aN b s) s).2)
def iH(b:Bk)(s:St)(l:List Ev)(fu how:Int):Int×St×List Ev×Int:=(0,(fO b s how).1,l++[(fO b s how).2],fu)
def bO(b:Bk)(x:Tr):List Ef:=if x.dJ=true then (Qs b x.card).dJ else (Qs b x.card).dead
def nG(x:Tr):Ev:=⟨14,x.side,x.card,0,0,0,[]⟩
def X4(b:Bk):Nat→St→List Tr→Int→List Ev→Int×St×List Ev×Int
 |0,s,ws,fu,l=>iH b (quiet b (Yn s) s ws l).1 (quiet b (Yn s) s ws l).2.2 fu 3
 |n+1,s,ws,fu,l=>
  if Qx (quiet b (Yn s) s ws l).1≠0 then iH b (quiet b (Yn s) s ws l).1 (quiet b (Yn s) s ws l).2.2 fu (Qx (quiet b (Yn s) s ws l).1)
  else match (quiet b (Yn s) s ws l).2.1 with
   |[]=>(0,(quiet b (Yn s) s ws l).1,(quiet b (Yn s) s ws l).2.2,fu)
   |x::lF=>
    if fu=0 then iH b (quiet b (Yn s) s ws l).1 (quiet b (Yn s) s ws l).2.2 fu 3
    else if Qv b x.side (fu-1) (bO b x)=true then (2,je,[],0)
    else if (runs b x.side (-1) (bO b x) (quiet b (Yn s) s ws l).1 (fu-1)).1=0 then
     X4 b n (runs b x.side (-1) (bO b x) (quiet b (Yn s) s ws l).1 (fu-1)).2.1 lF (runs b x.side (-1) (bO b x) (quiet b (Yn s) s ws l).1 (fu-1)).2.2.1
      ((quiet b (Yn s) s ws l).2.2++[nG x]++(runs b x.side (-1) (bO b x) (quiet b (Yn s) s ws l).1 (fu-1)).2.2.2)
    else if (runs b x.side (-1) (bO b x) (quiet b (Yn s) s ws l).1 (fu-1)).1=190 then
     iH b (runs b x.side (-1) (bO b x) (quiet b (Yn s) s ws l).1 (fu-1)).2.1 ((quiet b (Yn s) s ws l).2.2++[nG x]++(runs b x.side (-1) (bO b x) (quiet b (Yn s) s ws l).1 (fu-1)).2.2.2)
      (runs b x.side (-1) (bO b x) (quiet b (Yn s) s ws l).1 (fu-1)).2.2.1 3
    else ((runs b x.side (-1) (bO b x) (quiet b (Yn s) s ws l).1 (fu-1)).1,je,[],0)
theorem Ly{b:Bk}(n:Nat){s t:St}{ws lF:List Tr}{l l':List Ev}(fu:Int)(hq:quiet b (Yn s) s ws l=(t,lF,l')):X4 b (n+1) s ws fu l =
  if Qx t≠0 then iH b t l' fu (Qx t) else match (generalizing:=false) lF with
   |[]=>(0,t,l',fu)
   |x::lF=>if fu=0 then iH b t l' fu 3 else if Qv b x.side (fu-1) (bO b x)=true then (2,je,[],0)
    else if (runs b x.side (-1) (bO b x) t (fu-1)).1=0 then X4 b n (runs b x.side (-1) (bO b x) t (fu-1)).2.1 lF (runs b x.side (-1) (bO b x) t (fu-1)).2.2.1 (l'++[nG x]++(runs b x.side (-1) (bO b x) t (fu-1)).2.2.2)
    else if (runs b x.side (-1) (bO b x) t (fu-1)).1=190 then iH b (runs b x.side (-1) (bO b x) t (fu-1)).2.1 (l'++[nG x]++(runs b x.side (-1) (bO b x) t (fu-1)).2.2.2) (runs b x.side (-1) (bO b x) t (fu-1)).2.2.1 3
    else ((runs b x.side (-1) (bO b x) t (fu-1)).1,je,[],0):=by
 rw[X4]; simp only[hq]
def nA(b:Bk)(x:Tr):Prop:=0≤x.card∧x.card<b.af.length∧(x.side=0∨x.side=1)
theorem UD{l:List Th}{id:Int}(h:gU l id=none):id∉l.map Th.id:=by
 unfold gU at h;rw[List.findIdx?_eq_none_iff] at h;intro hm;obtain⟨u,hu,e⟩:=List.mem_map.1 hm;have:=h u hu;simp[e] at this
theorem Sj{s:St}{id:Int}(h:id∈s.s0.ae.map Th.id∨id∈s.s1.ae.map Th.id):∃(k:Nat) (u:Th),(bj s id).2.1=k∧(s.side (bj s id).1).ae[k]?=some u∧((bj s id).1=0∨(bj s id).1=1)∧lS s id=u.card:=by
 unfold lS bj;cases q0:gU s.s0.ae id with
 |some k=>
  obtain⟨u,hu,_⟩:=XY q0;exact⟨k,u,rfl,hu,.inl rfl,by simp[St.side,hu]⟩
 |none=>
  simp only;cases q1:gU s.s1.ae id with
  |some k=>
   obtain⟨u,hu,_⟩:=XY q1;exact⟨k,u,rfl,hu,.inr rfl,by simp[St.side,hu]⟩
  |none=>
   rcases h with h|h
   ·exact absurd h (UD q0)
   ·exact absurd h (UD q1)
theorem I4(b:Bk)(s:St):∀l:List Int,(fx b s l).length≤l.length
 |[]=>Nat.le_refl _
 |id::l=>by
  have:=I4 b s l;unfold fx;split<;>simp<;>omega
theorem UY(b:Bk)(s:St)(id:Int):∀l:List Int,fx b s (l++[id])=fx b s l++(if 0<(Qs b (lS s id)).dead.length then [⟨lS s id,(bj s id).1,false⟩] else [])
 |[]=>by simp[fx]
 |a::l=>by rw[List.cons_append,fx,UY b s id l,fx,List.append_assoc]
theorem RM{b:Bk}{s:St}(hM:dC b s){i:Int}(hi:i=0∨i=1){k:Nat}{u:Th}(hu:(s.side i).ae[k]?=some u):0≤u.card∧u.card<b.af.length:=by
 have eK:u∈s.s0.ae++s.s1.ae:=by
  rcases hi with rfl|rfl
  ·exact List.mem_append_left _ (List.mem_of_getElem? hu)
  ·exact List.mem_append_right _ (List.mem_of_getElem? hu)
 have:=hM.un.1 u eK;simp only[Zq,Bool.and_eq_true,decide_eq_true_eq] at this;omega
theorem Tj{b:Bk}{s:St}(hM:dC b s):∀l:List Int,(∀a∈l,a∈s.s0.ae.map Th.id∨a∈s.s1.ae.map Th.id)→∀x∈fx b s l,nA b x
 |[],_,x,hx=>by simp[fx] at hx
 |id::l,h,x,hx=>by
  rw[fx,List.mem_append] at hx;rcases hx with hx|hx
  ·split at hx
   ·rw[List.mem_singleton] at hx; subst hx;obtain⟨k,u,_,h2,h3,h4⟩:=Sj (h id (by simp));have:=RM hM h3 h2;exact⟨by rw[h4]; exact this.1,by rw[h4]; exact this.2,h3⟩
   ·simp at hx
  ·exact Tj hM l (λa ha=>h a (by simp[ha])) x hx
theorem Ybw(s:St)(id:Int):Yn (Xx s id).1+(Xx s id).2.length=Yn s∧(∀e∈(Xx s id).2,e.af=[]∧e.kind=13)∧(Xx s id).1.s0.told=s.s0.told∧(Xx s id).1.s1.told=s.s1.told:=by
 unfold Xx;cases q0:gU s.s0.ae id with
 |some k=>
  obtain⟨u,hu,_⟩:=XY q0;have hk:=(gn hu).1;refine⟨?_,by simp,rfl,rfl⟩;simp only[Yn,List.length_eraseIdx,if_pos hk,List.length_singleton];omega
 |none=>
  simp only;cases q1:gU s.s1.ae id with
  |some k=>
   obtain⟨u,hu,_⟩:=XY q1;have hk:=(gn hu).1;refine⟨?_,by simp,rfl,rfl⟩;simp only[Yn,List.length_eraseIdx,if_pos hk,List.length_singleton];omega
  |none=>exact⟨by simp[Yn],by simp,rfl,rfl⟩
theorem QP:∀(ids:List Int) (s:St),Yn (Qt ids s).1+(Qt ids s).2.length=Yn s∧(∀e∈(Qt ids s).2,e.af=[]∧e.kind=13)∧(Qt ids s).1.s0.told=s.s0.told∧(Qt ids s).1.s1.told=s.s1.told
 |[],s=>⟨by simp[Qt],by simp[Qt],rfl,rfl⟩
 |id::ids,s=>by
  obtain⟨h1,h2,h3,h4⟩:=Ybw s id;obtain⟨k1,k2,k3,k4⟩:=QP ids (Xx s id).1;refine⟨?_,?_,k3.trans h3,k4.trans h4⟩
  ·simp only[Qt,List.length_append]; omega
  ·intro e he;rw[Qt,List.mem_append] at he;rcases he with he|he
   ·exact h2 e he
   ·exact k2 e he
theorem Zdl(s:St):(s.s0.aj.length:Int)≤Zo s∧(s.s1.aj.length:Int)≤Zo s∧(Yn s:Int)≤Zo s:=by
 unfold Zo Yn; omega
theorem di.tB{b:Bk}{N C:Nat}{s:St}(h:di b N C s)(hC:C+14≤1000000):di b N C (Qt (aN b s) s).1:=by
 obtain⟨_,_,hl⟩:=Z1 h.may;have hg:=Zdl s;have hc:=h.af;obtain⟨k1,k2⟩:=Rx (aN b s) h.may (by omega) (by omega);obtain⟨_,_,t0,t1⟩:=QP (aN b s) s;exact⟨k1,⟨by rw[t0]; exact h.told.1,by rw[t1]; exact h.told.2⟩,by rw[k2]; exact hc⟩
theorem I3{b:Bk}{s:St}(hM:dC b s)(h:aN b s≠[]):Yn (Qt (aN b s) s).1<Yn s:=by
 obtain⟨h1,h2,_⟩:=Z1 hM;have:=(QP (aN b s) s).1;have yz:=Kj (aN b s) s h1 h2;have:0<(aN b s).length:=List.length_pos_iff.2 h;omega
theorem LJ{b:Bk}{s:St}(hM:dC b s)(h:Yn s=0):aN b s=[]:=by
 obtain⟨_,h2,_⟩:=Z1 hM;unfold Yn at h;have e0:s.s0.ae=[]:=List.length_eq_zero_iff.1 (by omega);have e1:s.s1.ae=[]:=List.length_eq_zero_iff.1 (by omega);rw[e0,e1] at h2;exact List.eq_nil_iff_forall_not_mem.2 (λa ha=>by have:=h2 a ha; simp at this)
theorem L8{b:Bk}{N C:Nat}(hC:C+14≤1000000):∀(n:Nat) (s:St) (ws:List Tr) (l:List Ev),Yn s≤n→di b N C s →
  di b N C (quiet b n s ws l).1∧aN b (quiet b n s ws l).1=[]∧(∃m,(quiet b n s ws l).2.2=l++m∧m.length+Yn (quiet b n s ws l).1=Yn s∧∀e∈m,e.kind=13) ∧
   ∃m,(quiet b n s ws l).2.1=ws++m∧m.length+Yn (quiet b n s ws l).1≤Yn s∧∀x∈m,nA b x
 |0,s,ws,l,h,hS=>⟨hS,by rw[quiet]; exact LJ (s:=s) hS.may (by omega),⟨[],by simp[quiet],by simp[quiet],by simp⟩,⟨[],by simp[quiet],by simp[quiet],by simp⟩⟩
 |n+1,s,ws,l,h,hS=>by
  unfold quiet;by_cases hd:aN b s=[]
  ·rw[if_pos hd];exact⟨hS,hd,⟨[],by simp,by simp,by simp⟩,⟨[],by simp,by simp,by simp⟩⟩
  ·rw[if_neg hd];have yF:=I3 hS.may hd;obtain⟨d1,d2,d3⟩:=Z1 hS.may;obtain⟨c1,c2,_⟩:=QP (aN b s) s;have yz:=Kj (aN b s) s d1 d2;obtain⟨q1,q2,⟨m,m1,m2,m3⟩,⟨m',p1,p2,p3⟩⟩:=L8 hC n (Qt (aN b s) s).1 (ws++fx b s (aN b s)) (l++(Qt (aN b s) s).2) (by omega) (hS.tB hC);have hT:=I4 b s (aN b s);refine⟨q1,q2,⟨(Qt (aN b s) s).2++m,by rw[m1,List.append_assoc],by rw[List.length_append]; omega,λe he=>?_⟩,⟨fx b s (aN b s)++m',by rw[p1,List.append_assoc],by rw[List.length_append]; omega,λx hx=>?_⟩⟩
   ·rcases List.mem_append.1 he with he|he
    ·exact(c2 e he).2
    ·exact m3 e he
   ·rcases List.mem_append.1 hx with hx|hx
    ·exact Tj hS.may _ d2 x hx
    ·exact p3 x hx
theorem U4{b:Bk}{N C:Nat}(hC:C+14≤1000000):∀(n m:Nat) (s:St) (ws:List Tr) (l:List Ev),di b N C s→Yn s≤n→Yn s≤m→quiet b n s ws l=quiet b m s ws l
 |0,0,s,ws,l,_,_,_=>rfl
 |0,m+1,s,ws,l,hM,h,_=>by rw[quiet,quiet,if_pos (LJ hM.may (by omega))]
 |n+1,0,s,ws,l,hM,_,h=>by rw[quiet,quiet,if_pos (LJ hM.may (by omega))]
 |n+1,m+1,s,ws,l,hM,h1,h2=>by
  rw[quiet,quiet];split
  ·rfl
  ·rename_i hd;have:=I3 hM.may hd;exact U4 hC n m _ _ _ (hM.tB hC) (by omega) (by omega)
theorem Ycu{b:Bk}{N C:Nat}(hC:C+14≤1000000){s:St}(ws:List Tr)(l:List Ev)(hM:di b N C s)(hd:aN b s≠[]) :
  quiet b (Yn s) s ws l=quiet b (Yn (Qt (aN b s) s).1) (Qt (aN b s) s).1 (ws++fx b s (aN b s)) (l++(Qt (aN b s) s).2):=by
 have h:=I3 hM.may hd;obtain⟨n,hn⟩:∃n,Yn s=n+1:=⟨Yn s-1,by omega⟩;rw[hn,quiet,if_neg hd];exact U4 hC _ _ _ _ _ (hM.tB hC) (by omega) (Nat.le_refl _)
theorem T5{b:Bk}{s:St}(n:Nat)(ws:List Tr)(l:List Ev)(hd:aN b s=[]):quiet b n s ws l=(s,ws,l):=by
 cases n with
 |zero=>rfl
 |succ n=>rw[quiet,if_pos hd]
end Go.Ah.Tz
end
section
namespace Go.Ah
theorem tT:∀U:List Nat,eZ U []=true
 |[]=>rfl
 |y::U=>by simp[eZ,tT U]
theorem pw{x:Nat}:∀ {U:List Nat},x∉U→eZ U [x]=true
 |[],_=>rfl
 |y::U,h=>by
  simp only[List.mem_cons,not_or] at h;simp only[eZ,pw h.2,Bool.and_true];simp[Ne.symm h.1]
end Go.Ah
namespace Go.Ah.Tz
open Go.Proofs.Tryz (prog)
set_option maxRecDepth 100000
structure RS (b:Bk) (s:St) (fu:Int) (l:List Ev) (ws:List Tr) (eb qb:Nat) (τ:List ab):Prop where
 hb:ah τ 0=.box (bU b)
 hs:ah τ 1=.box (aD s)
 hf:ah τ 2=.box [iv fu]
 hr:ah τ 3=.box aU
 he:∃lv,ah τ eb=.box [lv]∧LE l lv τ
 hq:∃qv,ah τ qb=.box [qv]∧QW ws qv τ
 e3:3<eb
 eq:eb<qb
theorem RS.agr{b:Bk}{s:St}{fu:Int}{l:List Ev}{ws:List Tr}{eb qb:Nat}{τ τ':List ab}(h:RS b s fu l ws eb qb τ)(k:dL τ τ' []):RS b s fu l ws eb qb τ':=by
 obtain⟨hb,hs,hf,hr,⟨lv,he,hl⟩,⟨qv,hq,hw⟩,e3,eq⟩:=h;have g:∀ {c x},ah τ c=x→x≠.dead→ah τ' c=x:=λhx hd=>k.get hx hd (by simp);exact⟨g hb (by simp),g hs (by simp),g hf (by simp),g hr (by simp),⟨lv,g he (by simp),hl.mono λc rs h=>g h (by simp)⟩,⟨qv,g hq (by simp),hw.mono λc rs h=>g h (by simp)⟩,e3,eq⟩
theorem RS.app{b:Bk}{s:St}{fu:Int}{l:List Ev}{ws:List Tr}{eb qb:Nat}{τ:List ab}(h:RS b s fu l ws eb qb τ)(x:ab):RS b s fu l ws eb qb (τ++[x]):=h.agr (dL.k_ τ x)
theorem RS.K4{b:Bk}{s:St}{fu:Int}{l:List Ev}{ws lF:List Tr}{tc:aa}{eb qb:Nat}{τ τ':List ab}(h:RS b s fu l ws eb qb τ)(q:ah τ' qb=.box [tc])(w:QW lF tc τ')(k:Kq [qb] 3 τ τ'):RS b s fu l lF eb qb τ':=by
 obtain⟨hb,hs,hf,hr,⟨lv,he,hl⟩,⟨qv,hq,hw⟩,e3,eq⟩:=h;exact⟨k.box hb (by simp; omega),k.box hs (by simp; omega),k.box hf (by simp; omega),k.box hr (by simp; omega),⟨lv,k.box he (by simp; omega),hl.mono λc rs h=>k.rows h (by simp; rintro rfl; rw[hq] at h; cases h) (by decide)⟩,⟨tc,q,w⟩,e3,eq⟩
theorem RS.K5{b:Bk}{s s':St}{fu wB:Int}{l l':List Ev}{ws:List Tr}{eY:aa}{eb qb:Nat}{τ τ':List ab}(h:RS b s fu l ws eb qb τ)(q1:ah τ' 1=.box (aD s'))(q2:ah τ' 2=.box [iv wB])(q3:ah τ' eb=.box [eY])(w:LE l' eY τ')(k:Kq [1,2,eb] 7 τ τ'):RS b s' wB l' ws eb qb τ':=by
 obtain⟨hb,hs,hf,hr,⟨lv,he,hl⟩,⟨qv,hq,hw⟩,e3,eq⟩:=h;have nr:∀ {c rs},ah τ c=.rows 3 rs→c∉[1,2,eb]:=by
  intro c rs hc;simp only[List.mem_cons,List.not_mem_nil,or_false,not_or];refine⟨?_,?_,?_⟩
  ·rintro rfl; rw[hs] at hc; cases hc
  ·rintro rfl; rw[hf] at hc; cases hc
  ·rintro rfl; rw[he] at hc; cases hc
 exact⟨k.box hb (by simp; omega),q1,q2,k.box hr (by simp; omega),⟨eY,q3,w⟩,⟨qv,k.box hq (by simp; omega),hw.mono λc rs h=>k.rows h (nr h) (by decide)⟩,e3,eq⟩
theorem MM{l:List Ev}{lv:aa}{τ:List ab}(h:LE l lv τ){y:aa}{ys:List (List aa)}{rd:List Nat}{m:List Ev}(hy:Qp 7 τ y=some (ys,rd))(hm:fk ys m)(ct:l.length+m.length≤200000000) :
  ∃nv up τ',Zl 7 72 [lv,y] τ=.ok nv rd up∧gP τ up=some τ'∧LE (l++m) nv τ'∧Kq [] 7 τ τ'∧∀k row,ah τ k=.box row→k∉up.map (·.1):=by
 have hlen:=hm.len;rcases h with ⟨rfl,rfl⟩|⟨c,rows,rfl,h2,h3⟩
 ·refine⟨_,_,_,ML 7 72 hy (Mn hm) (by rw[hlen]; simp at ct; omega),Yi τ _,.inr ⟨τ.length,ys,by simp[hlen],Yf τ _,by simpa using hm⟩,Kq.app [] 7 τ _,λk row hk=>?_⟩;have:=Ye hk (by simp);simp; omega
 ·refine⟨_,_,_,Y6 7 72 h2 (by rw[h3.len,Nat.add_zero]) hy (Mn hm) (by rw[hlen]; omega),DC _ _ (Ye h2 (by simp)),.inr ⟨τ.length,rows.drop 0++ys,by simp[hlen],Lt c _,by rw[List.drop_zero]; exact h3.app hm⟩,Nb h2 _ [],λk row hk=>?_⟩;have:=Ye hk (by simp);simp;exact⟨(by rintro rfl; rw[h2] at hk; cases hk),(by omega)⟩
theorem S8{b:Bk}{c:Int}(h:0≤c∧c<b.af.length):∃(k:Nat) (hk:k<b.af.length),c=(k:Int)∧Qs b c=b.af[k]:=by
 refine⟨c.toNat,by omega,by omega,?_⟩;unfold Qs;rw[List.getElem?_eq_getElem (by omega)]; rfl
def nh(r:Int×St×List Ev×Int):aa:=.bn [cf r.2.1,.ax false false 7 (r.2.2.1.map eP),iv r.2.2.2,iv r.1]
theorem uW{σ:List ab}{r:Int×St×List Ev×Int}{lv:aa}{cs:List aa}(h1:SB σ [] cs r.2.1)(h:LE r.2.2.1 lv σ):∃rd,aB (hp σ) rd (.bn [.agg cs,lv,iv r.2.2.2,iv r.1]) (nh r):=by
 obtain⟨e,s,l,f⟩:=r;have G1:∃rd,aB (hp σ) rd lv (.ax false false 7 (l.map eP)):=by
  have h:LE l lv σ:=h;rcases h with ⟨rfl,rfl⟩|⟨k,rows,rfl,hk,hR⟩
  ·exact⟨[],aB.cy (aB.ro rfl) (λM u d=>d.bC 7)⟩
  ·refine⟨[k],?_⟩;refine aB.cy (y:=.ax false false 7 (l.map eP)) (aB.cy (aB.sl (rs:=rows) (rs':=l.map eP) (Yx hk (by simp)) (by simp) (by rw[hR.len]; omega) (by simp) (λi row row' q1 q2=>?_)) (λM u d=>d.iJ)) (λM u d=>d);rw[Nat.zero_add] at q1;have hm:=Vg hR;have h1:(rows.map λr=>r.map od)[i]?=some (row.map od):=by rw[List.getElem?_map,q1]; rfl
   rw[hm,q2] at h1;cases h1;have kV:=U' hR row (List.mem_of_getElem? q1);clear hm q2 q1
   induction row with
   |nil=>exact .nil
   |cons x row ih=>
    simp only[fz,Bool.and_eq_true] at kV;exact .cons (aB.cy (aB.ro kV.1) (λM u d=>Vk M bg x u d)) (ih kV.2)
 obtain⟨rd,G1⟩:=G1;refine⟨rd,aB.bn (.cons (aB.more (SB.agg h1) (by simp)) (.cons G1 (.cons (aB.ro rfl) (.cons (aB.ro rfl) .nil))))⟩
end Go.Ah.Tz
end
section
namespace Go.Ah.Tz
open Go.Proofs.Tryz (prog)
set_option maxRecDepth 100000
theorem Zdg{b:Bk}(hf:aS b=true)(bN:Zj b.af){c:Cd}(hc:c∈b.af):bG c.dead=true∧bG c.dJ=true∧(bS c.dead).length≤500000000∧(bS c.dJ).length≤500000000:=by
 simp only[aS,QE,Bool.and_eq_true,List.all_eq_true] at hf;have h:=hf.1.2 c hc;simp only[f_,Bool.and_eq_true] at h;have hs:=bN c hc;simp only[oW,List.length_append] at hs;exact⟨h.2.2.1,h.2.2.2,by omega,by omega⟩
attribute [local irreducible] ak.rd ak.pu ak.wr ak.dr ak.gr ak.gw ak.gl ak.gd ak.opt aH W
set_option maxHeartbeats 4000000
def vh(eb:Nat)(K:aa→List ab→Prop)(vs:List aa)(σ:List ab):Prop:=
 VV.rd (Xh true 2 [.ai 0 0] σ) λt196=>VV.rd (Xh true 23 [.ai 1 0] σ) λt197=>
 VV.call (.call 23) [t196,t197,h0 vs] σ λt199 σ=>VV.rd (Ql 0 [t199] σ) λt200=>VV.rd (Ql 1 [t199] σ) λt201=>
 VV.wr (Zy aU [] σ) σ λt31 σ=>VV.wr (Zy bK [] σ) σ λt32 σ=>VV.wr (Qm 23 [t31,t200] σ) σ λ_ σ=>VV.wr (Qm 7 [t32,t201] σ) σ λ_ σ=>
 VV.dr (Xh true 23 [t31] σ) σ λt202 l176 σ=>VV.dr (Xh false 1 [.ai eb 0] σ) σ λt203 l178 σ=>VV.dr (Xh true 7 [t32] σ) σ λt204 l180 σ=>
 VV.dr (Yy 7 1 bK [(0,7)] [t204] σ) σ λt205 l182 σ=>VV.dr (Zl 7 72 [t203,t205] σ) σ λt206 l184 σ=>VV.dr (Xh false 1 [.ai 2 0] σ) σ λt207 l186 σ=>
 VV.dr (Qm 23 [.ai 3 0,t202] σ) σ λ_ l187 σ=>
 VV.gd (Xn [[],[],[],[2],[1,2,3],[],[0,1,2,3,4],[0,1,2,3,4,6],[0,1,2,3,4,5,6,7],[0,1,2,3,4,5,6,7,8]] [l176,l178,l180,l182,l184,l186,l187,([],[]),([],[]),([],[])]) <|
 VV.opt (ga true 23 (.ai 3 0) σ) λr188=>K (.bn [r188,t206,t207,.int .i64 0]) σ
theorem Qd2(b:Bk)(hf:aS b=true)(bN:Zj b.af){s:St}(hs:bu 1000000000 s){fu:Int}{l:List Ev}{ws:List Tr}{eb qb:Nat}{τ:List ab}(hR:RS b s fu l ws eb qb τ)(how:Int)(hh:0≤how∧how≤3)(hl:l.length≤100000000){K:aa→List ab→Prop}
 (hK:∀σ' lv,LE (iH b s l fu how).2.2.1 lv σ'→K (.bn [cf (iH b s l fu how).2.1,lv,iv fu,iv 0]) σ'):vh eb K [ar how] τ:=by
 unfold vh;have e3:=hR.e3;refine Za (v:=dg b) (ld hR.hb rfl) (Za (v:=cf s) (ld hR.hs rfl) (Xb (q98 b hf bN s hs how hh) rfl g23.ok.plain rfl (Za (v:=cf (fO b s how).1) rfl (Za (v:=vw (fO b s how).2) rfl ?_))));have j6:∀σ' lv,LE (l++[(fO b s how).2]) lv σ'→K (.bn [cf (fO b s how).1,lv,iv fu,iv 0]) σ':=hK;generalize fO b s how=o at *;refine Qb (v:=.ai τ.length 0) (rd:=[]) (up:=[(τ.length,.box aU)]) rfl (Yi τ _) ?_;have h1:=hR.app (.box aU);have z1:=Yf τ (.box aU);have oO:(τ++[ab.box aU]).length=τ.length+1:=by simp
 have cp:4<τ.length:=by obtain⟨qv,hq,_⟩:=hR.hq; have:=Ye hq (by simp); have:=hR.eq; omega
 generalize τ++[ab.box aU]=τ1 at *;refine Qb (v:=.ai τ1.length 0) (rd:=[]) (up:=[(τ1.length,.box bK)]) rfl (Yi τ1 _) ?_;have h2:=h1.app (.box bK);have z2:=Xd [ab.box bK] z1 (by simp);have y2:=Yf τ1 (.box bK);have m9:(τ1++[ab.box bK]).length=τ1.length+1:=by simp
 have ag:dL τ (τ1++[ab.box bK]) []→True:=λ_=>trivial;generalize τ1++[ab.box bK]=τ2 at *;have aav:∀ {τ':List ab} {k:Nat} (x:ab),RS b s fu l ws eb qb τ'→qb<k→RS b s fu l ws eb qb (τ'.set k x)∨True:=λ_ _ _=>.inr trivial;have V_:qb<τ.length:=by obtain⟨qv,hq,_⟩:=hR.hq; exact Ye hq (by simp)
 have b2:=h2.hb;have f2:=h2.hf;have r2:=h2.hr;obtain⟨lv,e2,l2⟩:=h2.he;have heq:=hR.eq;refine Qb (cM (row':=aD o.1) z2 rfl rfl rfl) (Xg _ (by omega)) ?_;have z3:ah (τ2.set τ.length (.box (aD o.1))) τ.length=.box (aD o.1):=Xe _ (by omega);have y3:=Zd (x:=.box (aD o.1)) y2 (by simp) (show τ.length≠τ1.length by omega);have f3:=Zd (x:=.box (aD o.1)) f2 (by simp) (show τ.length≠2 by omega);have r3:=Zd (x:=.box (aD o.1)) r2 (by simp) (show τ.length≠3 by omega);have D4:=Zd (x:=.box (aD o.1)) e2 (by simp) (show τ.length≠eb by omega);have l3:LE l lv (τ2.set τ.length (.box (aD o.1))):=l2.mono (λc rs h=>YB _ z2 h);have An:(τ2.set τ.length (.box (aD o.1))).length=τ2.length:=by simp
 generalize τ2.set τ.length (.box (aD o.1))=τ3 at *;refine Qb (cM (row':=eP o.2) y3 rfl rfl rfl) (Xg _ (by omega)) ?_;have y4:ah (τ3.set τ1.length (.box (eP o.2))) τ1.length=.box (eP o.2):=Xe _ (by omega);have z4:=Zd (x:=.box (eP o.2)) z3 (by simp) (show τ1.length≠τ.length by omega);have f4:=Zd (x:=.box (eP o.2)) f3 (by simp) (show τ1.length≠2 by omega);have r4:=Zd (x:=.box (eP o.2)) r3 (by simp) (show τ1.length≠3 by omega);have e4:=Zd (x:=.box (eP o.2)) D4 (by simp) (show τ1.length≠eb by omega);have l4:LE l lv (τ3.set τ1.length (.box (eP o.2))):=l3.mono (λc rs h=>YB _ y3 h);have Ao:(τ3.set τ1.length (.box (eP o.2))).length=τ3.length:=by simp
 generalize τ3.set τ1.length (.box (eP o.2))=τ4 at *;refine Yg (v:=cf o.1) (ld z4 rfl) (Xi _) (Yg (v:=lv) (ld e4 rfl) (Xi _) (Yg (v:=vw o.2) (ld y4 rfl) (Xi _) (Yg (MT (e:=o.2) (cv:=aV o.2.af) (.inl rfl) τ4) (Yi τ4 _) ?_)));have b5:=Yf τ4 (.rows 7 [e7 o.2 (aV o.2.af)]);have z5:=Xd [ab.rows 7 [e7 o.2 (aV o.2.af)]] z4 (by simp);have f5:=Xd [ab.rows 7 [e7 o.2 (aV o.2.af)]] f4 (by simp);have r5:=Xd [ab.rows 7 [e7 o.2 (aV o.2.af)]] r4 (by simp);have e5:=Xd [ab.rows 7 [e7 o.2 (aV o.2.af)]] e4 (by simp);have l5:LE l lv (τ4++[ab.rows 7 [e7 o.2 (aV o.2.af)]]):=l4.mono (λc rs h=>Er _ h);generalize τ4++[ab.rows 7 [e7 o.2 (aV o.2.af)]]=τ5 at *;obtain⟨nv,up,τ6,a1,a2,a3,a4,a5⟩:=MM l5 (ME b5) (m:=[o.2]) (by simpa using fk.snoc [] [] o.2 (aV o.2.af) .nil (.inl rfl)) (by simp; omega);refine Yg a1 a2 ?_;have uz:=a5 _ _ z5;have uf:=a5 _ _ f5;have ur:=a5 _ _ r5;have f6:=a4.box f5 (by simp);have r6:=a4.box r5 (by simp);generalize up.map (·.1)=U at *;have Wa:=Ye r6 (by simp);refine Yg (v:=iv fu) (ld f6 rfl) (Xi _) (Yg (cM (row':=aD o.1) r6 rfl rfl rfl) (Xg _ Wa) ?_);have n1:τ.length≠τ4.length:=by omega
 have n2:eb≠τ4.length:=by omega
 have n3:τ4.length≠2:=by omega
 have n4:τ4.length≠3:=by omega
 have n5:τ1.length≠τ4.length:=by omega
 refine Xr (by simp[Xn,Zu,Qq,XF,c9,eZ,List.range,List.range.loop,n1,n2,n3,n4,n5,n1.symm,n2.symm,n3.symm,n4.symm,n5.symm,uz,uf,ur,pw uz,pw uf,pw ur,tT]) (Qi (Zr Wa rfl) ?_);exact j6 _ nv (a3.mono (λc rs h=>YB _ r6 h))
end Go.Ah.Tz
end
section
namespace Go.Ah.Tz
open Go.Proofs.Tryz (prog)
set_option maxRecDepth 100000
attribute [local irreducible] ak.rd ak.pu ak.wr ak.dr ak.gr ak.gw ak.gl ak.gd ak.opt aH W
set_option maxHeartbeats 8000000
theorem LE.cells{l:List Ev}{lv:aa}{σ:List ab}(h:LE l lv σ):cellsOf lv=some [lv]:=by
 rcases h with ⟨_,rfl⟩|⟨c,rows,rfl,_⟩<;>rfl
def vj(qb:Nat)(ids j:aa)(k73:List aa→List ab→Prop)(σ:List ab):Prop:=
 VV.rd (Zm 1 [ids,j] σ) λt99=>VV.rd (Xh false 1 [t99] σ) λt100=>VV.rd (Xh true 23 [.ai 1 0] σ) λt102=>
 VV.call (.call 19) [t102,t100] σ λt104 σ=>VV.rd (Ql 0 [t104] σ) λt105=>VV.rd (Ql 1 [t104] σ) λt106=>VV.rd (Ql 2 [t104] σ) λ_=>
 VV.rd (Ze 7 [.ai 1 0] σ) λt109=>VV.rd (Yt 2 8 [t109,t105] σ) λt110=>VV.rd (Ze 6 [t110] σ) λt111=>VV.rd (Xh false 1 [t111] σ) λt112=>
 VV.rd (Zm 4 [t112,t106] σ) λt114=>VV.rd (Ze 1 [t114] σ) λt115=>VV.rd (Xh false 1 [t115] σ) λt116=>VV.rd (Ze 0 [.ai 0 0] σ) λt117=>
 VV.rd (Xh false 1 [t117] σ) λt118=>VV.rd (Zm 12 [t118,t116] σ) λt120=>VV.rd (Ze 9 [t120] σ) λt121=>VV.rd (Xh false 1 [t121] σ) λt122=>
 VV.rd (Yp [t122] σ) λt123=>VV.rd (Qn .gtr false [t123,.int .i64 0] σ) λt124=>
 VV.test t124 (
  VV.rd (QM [.int .i64 0,.int .i64 0,.bool false] [(0,1),(1,1)] [t116,t105] σ) λt128=>VV.wr (Yy 3 1 [.int .i64 0,.int .i64 0,.bool false] [(0,3)] [t128] σ) σ λt129 σ=>
  VV.call (.call 15) [.ai qb 0,t129] σ λ_ σ=>k73 [] σ) (k73 [] σ)
theorem Yd5{b:Bk}(hf:aS b=true){t:St}{N C:Nat}(hS:di b N C t){fu:Int}{l:List Ev}{ws:List Tr}{eb qb:Nat}{φ:List ab}(hR:RS b t fu l ws eb qb φ){ids:List Int}{j:Nat}(hj:j<ids.length)(cY:ids[j]∈t.s0.ae.map Th.id∨ids[j]∈t.s1.ae.map Th.id)(hw:ws.length≤90000000)
 {k73:List aa→List ab→Prop}(hK:∀φ',RS b t fu l (ws++(if 0<(Qs b (lS t ids[j])).dead.length then [⟨lS t ids[j],(bj t ids[j]).1,false⟩] else [])) eb qb φ'→k73 [] φ'):vj qb (aV ids) (iv j) k73 φ:=by
 unfold vj;refine Za (Zp _ aY false false 1 ids .i64 j hj) ?_;generalize ids[j]=id at *;refine Za (v:=iv id) (an rfl) (Za (v:=cf t) (ld hR.hs rfl) (Xb (c71 t hS.ta id) rfl g19.ok.plain rfl (Za rfl (Za rfl (Za rfl ?_)))));obtain⟨k,u,u1,u2,u3,u4⟩:=Sj cY;have Gx:=RM hS.may u3 u2;rw[u1];rw[u4] at hK;clear u4 u1;generalize (bj t id).1=i at *;have hk:=(gn u2).1;obtain⟨c,hc,e1,e2⟩:=S8 Gx;rw[e2] at hK;have hb:=hR.hb;have hs:=hR.hs;have ny:b.af.length≤gp:=by
  simp only[aS,QE,Bool.and_eq_true,decide_eq_true_eq] at hf; exact hf.1.1
 refine Za rfl (Za (v:=.ai 1 (7+i.toNat*8)) (by rcases u3 with rfl|rfl<;>rfl) (Za (v:=.ai 1 (13+i.toNat*8)) (by rcases u3 with rfl|rfl<;>rfl) (Za (v:=il (t.side i).ae) (by rcases u3 with rfl|rfl<;>exact ld hs rfl) ?_)));refine Za (Zp _ aP false false 4 (t.side i).ae .i64 k hk) ?_;rw[show (t.side i).ae[k]=u from (gn u2).2];refine Za rfl (Za (v:=iv u.card) (an rfl) (Za rfl (Za (v:=fm b.af) (ld hb rfl) ?_)));rw[e1] at hK ⊢;refine Za (Zp _ b_ false false 12 b.af .i64 c hc) ?_;generalize b.af[c]=cd at *;refine Za rfl (Za (v:=ic cd.dead) (an rfl) (Za (v:=iv cd.dead.length) (rd:=[]) (by simp[Yp]) (Za (v:=.bool (decide ((cd.dead.length:Int)>0))) rfl (Zb (λh=>?_) (λh=>?_)))))
 ·have h:0<cd.dead.length:=by simpa using h
  rw[if_pos h] at hK;refine Za (v:=.agg (el ⟨c,i,false⟩)) rfl (Qb (Sm 3 φ _ _ (el ⟨c,i,false⟩) rfl rfl) (Yi φ _) ?_);have h2:=hR.app (.rows 3 [el ⟨c,i,false⟩]);have r2:=Yf φ (.rows 3 [el ⟨c,i,false⟩]);generalize φ++[ab.rows 3 [el ⟨c,i,false⟩]]=φ2 at *;obtain⟨qv,q1,q2⟩:=h2.hq;refine Qg hP (f:=15) rfl g15.ok rfl (w210 (ys:=[⟨c,i,false⟩]) q1 q2 (ME r2) (by simp; omega) λσ' tc p1 p2 p3=>hK _ (h2.K4 p1 p2 p3))
 ·have h:¬0<cd.dead.length:=by simpa using h
  rw[if_neg h,List.append_nil] at hK;exact hK _ hR
def tC(eb:Nat)(ids:aa)(again:List aa→List ab→Prop)(σ:List ab):Prop:=
 VV.rd (Xh true 2 [.ai 0 0] σ) λt133=>VV.rd (Xh true 23 [.ai 1 0] σ) λt134=>VV.call (.call 20) [t133,t134,ids] σ λt136 σ=>
 VV.rd (Ql 0 [t136] σ) λt137=>VV.rd (Ql 1 [t136] σ) λt138=>VV.wr (Zy aU [] σ) σ λt25 σ=>VV.wr (Qm 23 [t25,t137] σ) σ λ_ σ=>
 VV.dr (Xh true 23 [t25] σ) σ λt139 l107 σ=>VV.dr (Xh false 1 [.ai eb 0] σ) σ λt140 l109 σ=>VV.dr (Zl 7 72 [t140,t138] σ) σ λt142 l111 σ=>
 VV.dr (Qm 23 [.ai 1 0,t139] σ) σ λ_ l112 σ=>VV.dr (Qm 1 [.ai eb 0,t142] σ) σ λ_ l113 σ=>
 VV.gd (Xn [[],[],[],[1,2],[0,1,2,3],[0,1,2,3,4]] [l107,l109,([],[]),l111,l112,l113]) <|
 VV.rd (Xh true 2 [.ai 0 0] σ) λt92=>VV.rd (Xh true 23 [.ai 1 0] σ) λt93=>VV.call (.call 18) [t92,t93] σ λt94 σ=>again [t94] σ
theorem YdP{b:Bk}(hf:aS b=true)(bN:Zj b.af)(gK:(cE b).1=0){t:St}{N C:Nat}(hS:di b N C t)(hC:C+14≤1000000){fu:Int}{l:List Ev}{ws:List Tr}{eb qb:Nat}{φ:List ab}(hR:RS b t fu l ws eb qb φ)(hl:l.length≤100000000)
 {again:List aa→List ab→Prop}(hK:∀φ',RS b (Qt (aN b t) t).1 fu (l++(Qt (aN b t) t).2) ws eb qb φ'→again [aV (aN b (Qt (aN b t) t).1)] φ'):tC eb (aV (aN b t)) again φ:=by
 unfold tC;have hd3:=(Z1 hS.may).2.2;have zP:=QP (aN b t) t;have VN:=hS.tB hC;have KZ:Yn t≤14:=by have:=hS.may.s0.ae; have:=hS.may.s1.ae; unfold Yn; omega
 refine Za (v:=dg b) (ld hR.hb rfl) (Za (v:=cf t) (ld hR.hs rfl) (Xb (c27 b hf bN t hS.le (YA.2 ⟨gK,hS.may⟩) (aN b t) (by omega)) rfl g20.ok.plain rfl (Za rfl (Za rfl ?_))));have yz:=QdV (Qt (aN b t) t).2 (λe he=>(zP.2.1 e he).1);have hlen:(Qt (aN b t) t).2.length≤14:=by have:=zP.1; omega
 generalize (Qt (aN b t) t).2=m at *;generalize (Qt (aN b t) t).1=t' at *;refine Xq (row:=aD t') (row':=aD t') rfl rfl rfl ?_;have h1:=hR.app (.box (aD t'));have t1:=Yf φ (.box (aD t'));generalize φ.length=tn at *;generalize φ++[ab.box (aD t')]=φ1 at *;obtain⟨lv,e1,l1⟩:=h1.he;obtain⟨nv,up,φ2,a1,a2,a3,a4,a5⟩:=MM (y:=.ax false false 7 (m.map fK)) l1 Kn yz (by omega);refine Yg (v:=cf t') (ld t1 rfl) (Xi _) (Yg (v:=lv) (ld e1 rfl) (Xi _) (Yg a1 a2 ?_));have ut:=a5 _ _ t1;have s2:=a4.box h1.hs (by simp);have f2:=a4.box h1.hf (by simp);have e2:=a4.box e1 (by simp);have he3:=h1.e3;generalize up.map (·.1)=U at *;refine Yg (cM (row':=aD t') s2 rfl rfl rfl) (Xg _ (Ye s2 (by simp))) ?_;have s3:ah (φ2.set 1 (.box (aD t'))) 1=.box (aD t'):=Xe _ (Ye s2 (by simp));have f3:=Zd (x:=.box (aD t')) f2 (by simp) (show 1≠2 by decide);have e3:=Zd (x:=.box (aD t')) e2 (by simp) (show 1≠eb by omega);have l3:LE (l++m) nv (φ2.set 1 (.box (aD t'))):=a3.mono (λc rs h=>YB _ s2 h);have k3:Kq [1,2,eb] 7 φ1 (φ2.set 1 (.box (aD t'))):=(a4.more (by simp)).trans (Kq.set 7 φ2 _ (by simp));generalize φ2.set 1 (.box (aD t'))=φ3 at *;refine Yg (cM (row':=[nv]) e3 l3.cells rfl rfl) (Xg _ (Ye e3 (by simp))) ?_;have s4:=Zd (x:=.box [nv]) s3 (by simp) (show eb≠1 by omega);have f4:=Zd (x:=.box [nv]) f3 (by simp) (show eb≠2 by omega);have e4:ah (φ3.set eb (.box [nv])) eb=.box [nv]:=Xe _ (Ye e3 (by simp));have l4:LE (l++m) nv (φ3.set eb (.box [nv])):=l3.mono (λc rs h=>YB _ e3 h);have k4:=k3.trans (Kq.set 7 φ3 (.box [nv]) (show eb∈[1,2,eb] by simp));have h4:=h1.K5 s4 f4 e4 l4 k4;clear s4 f4 e4 l4 k4 k3 l3;generalize φ3.set eb (.box [nv])=φ4 at *;refine Xr (by simp[Xn,Zu,Qq,XF,c9,eZ,List.range,List.range.loop,ut,pw ut,tT]) ?_;refine Za (v:=dg b) (ld h4.hb rfl) (Za (v:=cf t') (ld h4.hs rfl) (Xb (c28 b hf bN t' VN.le (YA.2 ⟨gK,VN.may⟩)) rfl g18.ok.plain rfl (hK _ h4)))
end Go.Ah.Tz
end
section
namespace Go.Ah.Tz
open Go.Proofs.Tryz (prog)
set_option maxRecDepth 100000
theorem RS.Rc{b:Bk}{s:St}{fu:Int}{l:List Ev}{ws:List Tr}{eb qb:Nat}{τ:List ab}(h:RS b s fu l ws eb qb τ)(wB:Int):RS b s wB l ws eb qb (τ.set 2 (.box [iv wB])):=by
 obtain⟨lv,he,hl⟩:=h.he;have e3:=h.e3;exact h.K5 (Zd h.hs (by simp) (by decide)) (Xe _ (Ye h.hf (by simp))) (Zd he (by simp) (by omega)) (hl.mono λc rs k=>YB _ h.hf k) (Kq.set 7 τ _ (by simp))
theorem RS.e8{b:Bk}{s:St}{fu:Int}{l l':List Ev}{ws:List Tr}{eb qb:Nat}{τ τ':List ab}{nv:aa}(h:RS b s fu l ws eb qb τ)(k:Kq [] 7 τ τ')(hl:LE l' nv τ'):RS b s fu l' ws eb qb (τ'.set eb (.box [nv])):=by
 obtain⟨lv,he,_⟩:=h.he;have e3:=h.e3;have KN:=k.box he (by simp);exact h.K5 (Zd (k.box h.hs (by simp)) (by simp) (by omega)) (Zd (k.box h.hf (by simp)) (by simp) (by omega)) (Xe _ (Ye KN (by simp))) (hl.mono λc rs q=>YB _ KN q) ((k.more (by simp)).trans (Kq.set 7 τ' _ (by simp)))
theorem S1(s:St):0≤Qx s∧Qx s≤3:=by unfold Qx; split<;>(try split)<;>(try split)<;>omega
attribute [local irreducible] ak.rd ak.pu ak.wr ak.dr ak.gr ak.gw ak.gl ak.gd ak.opt aH W
set_option maxHeartbeats 8000000
def vk(eb:Nat)(again k58:List aa→List ab→Prop)(K:aa→List ab→Prop)(fv t27:aa)(σ:List ab):Prop:=
 VV.rd (Xh false 1 [.ai 2 0] σ) λt158=>VV.rd (Qn .sub false [t158,.int .i64 1] σ) λt159=>VV.wr (Qm 1 [.ai 2 0,t159] σ) σ λ_ σ=>
 VV.rd (Xh false 1 [.ai eb 0] σ) λt160=>VV.rd (Ze 1 [t27] σ) λt161=>VV.rd (Xh false 1 [t161] σ) λt162=>VV.rd (Ze 0 [t27] σ) λt163=>VV.rd (Xh false 1 [t163] σ) λt164=>
 VV.rd (QM bK [(0,1),(1,1),(2,1)] [.int .i8 14,t162,t164] σ) λt165=>VV.wr (Yy 7 1 bK [(0,7)] [t165] σ) σ λt166 σ=>VV.wr (Zl 7 72 [t160,t166] σ) σ λt167 σ=>VV.wr (Qm 1 [.ai eb 0,t167] σ) σ λ_ σ=>
 VV.rd (Ze 0 [.ai 0 0] σ) λt168=>VV.rd (Xh false 1 [t168] σ) λt169=>VV.rd (Ze 0 [t27] σ) λt170=>VV.rd (Xh false 1 [t170] σ) λt171=>VV.rd (Zm 12 [t169,t171] σ) λt172=>
 VV.rd (Ze 9 [t172] σ) λt173=>VV.rd (Xh false 1 [t173] σ) λt174=>VV.rd (Ze 2 [t27] σ) λt175=>VV.rd (Xh false 1 [t175] σ) λt176=>
 aH (λk153=>VV.test t176 (
  VV.rd (Ze 0 [.ai 0 0] σ) λt177=>VV.rd (Xh false 1 [t177] σ) λt178=>VV.rd (Ze 0 [t27] σ) λt179=>VV.rd (Xh false 1 [t179] σ) λt180=>VV.rd (Zm 12 [t178,t180] σ) λt181=>
  VV.rd (Ze 10 [t181] σ) λt182=>VV.rd (Xh false 1 [t182] σ) λt183=>k153 [t183] σ) (k153 [t174] σ)) (λv154 σ=>
 VV.rd (Xh true 3 [t27] σ) λt185=>VV.call .jh [fv,t185,h0 v154] σ λt187 σ=>VV.rd (Qn .eql false [t187,.int .i64 0] σ) λt192=>VV.test t192 (again [] σ) (
  VV.rd (Qn .eql false [t187,.int .i64 190] σ) λt194=>VV.test t194 (k58 [.int .i8 3] σ) (
   VV.rd (QM aU [] [] σ) λt189=>VV.wr (Qm 23 [.ai 3 0,t189] σ) σ λ_ σ=>VV.opt (ga true 23 (.ai 3 0) σ) λr167=>K (.bn [r167,.aq,.int .i64 0,t187]) σ)))
theorem Xd5{b:Bk}(hf:aS b=true)(bN:Zj b.af)(iS:b.af.length≤61)(gK:(cE b).1=0){t:St}{N C:Nat}(hS:di b N C t)(hN:N+12000≤1000000)(hC:C+200≤1000000){fu:Int}(yC:1≤fu∧fu≤1000){l:List Ev}{ws:List Tr}{eb qb xb:Nat}{φ:List ab}
 (hR:RS b t fu l ws eb qb φ)(hl:l.length≤90000000){x:Tr}(hx:nA b x)(Wo:ah φ xb=.box (el x))(cL:qb<xb){again k58:List aa→List ab→Prop}{K:aa→List ab→Prop}
 (zF:Qv b x.side (fu-1) (bO b x)=true→∀σ',K (.bn [.agg aU,.aq,iv 0,iv 2]) σ')
 (zG:Qv b x.side (fu-1) (bO b x)=false→(runs b x.side (-1) (bO b x) t (fu-1)).1≠0→(runs b x.side (-1) (bO b x) t (fu-1)).1≠190→∀σ',K (.bn [.agg aU,.aq,iv 0,iv (runs b x.side (-1) (bO b x) t (fu-1)).1]) σ')
 (Oh:Qv b x.side (fu-1) (bO b x)=false→(runs b x.side (-1) (bO b x) t (fu-1)).1=190→∀σ',RS b (runs b x.side (-1) (bO b x) t (fu-1)).2.1 (runs b x.side (-1) (bO b x) t (fu-1)).2.2.1 (l++[nG x]++(runs b x.side (-1) (bO b x) t (fu-1)).2.2.2) ws eb qb σ'→k58 [ar 3] σ')
 (hGo:Qv b x.side (fu-1) (bO b x)=false→(runs b x.side (-1) (bO b x) t (fu-1)).1=0→∀σ',RS b (runs b x.side (-1) (bO b x) t (fu-1)).2.1 (runs b x.side (-1) (bO b x) t (fu-1)).2.2.1 (l++[nG x]++(runs b x.side (-1) (bO b x) t (fu-1)).2.2.2) ws eb qb σ'→again [] σ') :
  vk eb again k58 K (.func (.func 16) [] [.ai 0 0,.ai 1 0,.ai 2 0,.ai eb 0]) (.ai xb 0) φ:=by
 unfold vk;have e3:=hR.e3;have eq:=hR.eq;refine Za (v:=iv fu) (ld hR.hf rfl) (Za (sV ..) ?_);rw[IntWalk.i64_in _ (by omega)];refine Qb (cM (row':=[iv (fu-1)]) hR.hf rfl rfl rfl) (Xg _ (Ye hR.hf (by simp))) ?_;have h1:=hR.Rc (fu-1);have x1:=Zd (x:=.box [iv (fu-1)]) Wo (by simp) (show 2≠xb by omega);generalize φ.set 2 (.box [iv (fu-1)])=φ1 at *;clear hR Wo;obtain⟨lv,e1,l1⟩:=h1.he;refine Za (v:=lv) (ld e1 rfl) (Za rfl (Za (v:=iv x.side) (ld x1 rfl) (Za rfl (Za (v:=iv x.card) (ld x1 rfl) (Za (v:=.agg (e7 (nG x) .aq)) rfl ?_)))));refine Qb (MT (e:=nG x) (cv:=.aq) (.inr ⟨rfl,rfl⟩) φ1) (Yi φ1 _) ?_;have h2:=h1.app (.rows 7 [e7 (nG x) .aq]);have x2:=Xd [ab.rows 7 [e7 (nG x) .aq]] x1 (by simp);have r2:=Yf φ1 (.rows 7 [e7 (nG x) .aq]);have l2:LE l lv (φ1++[ab.rows 7 [e7 (nG x) .aq]]):=l1.mono (λc rs h=>Er _ h);generalize φ1++[ab.rows 7 [e7 (nG x) .aq]]=φ2 at *;obtain⟨nv,up,φ3,a1,a2,a3,a4,_⟩:=MM l2 (ME r2) (m:=[nG x]) (by simpa using fk.snoc [] [] (nG x) .aq .nil (.inr ⟨rfl,rfl⟩)) (by simp; omega);refine Qb a1 a2 ?_;obtain⟨lv2,e2,_⟩:=h2.he;have D4:=a4.box e2 (by simp);have x3:=a4.box x2 (by simp);refine Qb (cM (row':=[nv]) D4 a3.cells rfl rfl) (Xg _ (Ye D4 (by simp))) ?_;have h4:=h2.e8 a4 a3;have x4:=Zd (x:=.box [nv]) x3 (by simp) (show eb≠xb by omega);generalize φ3.set eb (.box [nv])=φ4 at *;obtain⟨c,hc,c1,c2⟩:=S8 (b:=b) ⟨hx.1,hx.2.1⟩;have wP:=Zdg hf bN (List.getElem_mem hc);refine Za rfl (Za (v:=fm b.af) (ld h4.hb rfl) (Za rfl (Za (v:=iv x.card) (ld x4 rfl) ?_)));have dc:=λ(σ:List ab)=>Zp σ b_ false false 12 b.af .i64 c hc;rw[←c1] at dc;have hE:bO b x=if x.dJ=true then b.af[c].dJ else b.af[c].dead:=by unfold bO; rw[c2]
 generalize b.af[c]=cd at *;refine Za (dc _) (Za rfl (Za (v:=ic cd.dead) (an rfl) (Za rfl (Za (v:=.bool x.dJ) (ld x4 rfl) (Qh λk153 ek=>?_)))));have fj:(l++[nG x]).length≤100000000:=by simp; omega
 have body:k153 [ic (bO b x)] φ4:=by
  have z7:bG (bO b x)=true∧(bS (bO b x)).length≤500000000:=by
   rw[hE]; split
   ·exact⟨wP.2.1,wP.2.2.2⟩
   ·exact⟨wP.1,wP.2.2.1⟩
  rw[ek];clear ek dc;obtain⟨lv4,e4,l4⟩:=h4.he;refine Za (v:=.agg (el x)) (ld x4 rfl) ?_;refine Qg hP (f:=16) (ys:=[.agg (el x),ic (bO b x),.ai 0 0,.ai 1 0,.ai 2 0,.ai eb 0]) rfl g16.ok rfl ?_;refine w211 b hf bN iS gK x (bO b x) z7.1 z7.2 hS hN hC h4.hb h4.hs h4.hf e4 l4 (by decide) (by omega) (by omega) fj (λhb σ' k=>?_) (λhb z1 z2 σ' k=>?_) (λhb hr σ' eY q1 q2 q3 q4 k=>?_)
  ·have hr:=k.box h4.hr (by simp);refine Za (Zf ..) (Yd (Za (Zf ..) (Yd (Za (v:=.agg aU) rfl (Qb (cM (row':=aU) hr rfl rfl rfl) (Xg _ (Ye hr (by simp))) (Qi (Zr (Ye hr (by simp)) rfl) ?_))))));exact zF hb _
  ·have hr:=k.box h4.hr (by simp);refine Za (Zf ..) ?_;rw[decide_eq_false z1];refine Yd (Za (Zf ..) ?_);rw[decide_eq_false z2];refine Yd (Za (v:=.agg aU) rfl (Qb (cM (row':=aU) hr rfl rfl rfl) (Xg _ (Ye hr (by simp))) (Qi (Zr (Ye hr (by simp)) rfl) ?_)));exact zG hb z1 z2 _
  ·have h5:=h4.K5 q1 q2 q3 q4 k;refine Za (Zf ..) (Zb (λz=>?_) (λz=>?_))
   ·exact hGo hb (by simpa using z) _ h5
   ·have z:(runs b x.side (-1) (bO b x) t (fu-1)).1=190:=by
     rcases hr with hr|hr
     ·rw[hr] at z; simp at z
     ·exact hr
    refine Za (Zf ..) ?_;rw[decide_eq_true z];exact Xc (Oh hb z _ h5)
 clear ek;refine Zb (λhd=>?_) (λhd=>?_)
 ·rw[if_pos hd] at hE;rw[hE] at body;refine Za rfl (Za (v:=fm b.af) (ld h4.hb rfl) (Za rfl (Za (v:=iv x.card) (ld x4 rfl) (Za (dc _) (Za rfl (Za (v:=ic cd.dJ) (an rfl) body))))))
 ·rw[if_neg (by rw[hd]; simp)] at hE;rw[hE] at body;exact body
end Go.Ah.Tz
end
section
namespace Go.Ah.Tz
open Go.Proofs.Tryz (prog)
set_option maxRecDepth 100000
attribute [local irreducible] ak.rd ak.pu ak.wr ak.dr ak.gr ak.gw ak.gl ak.gd ak.opt aH W
set_option maxHeartbeats 8000000
def UF(eb qb:Nat)(K:aa→List ab→Prop)(k58 Ny:List aa→List ab→Prop)(aaa:List aa)(σ:List ab):Prop:=
 VV.rd (Xh true 2 [.ai 0 0] σ) λt86=>VV.rd (Xh true 23 [.ai 1 0] σ) λt87=>VV.call (.call 18) [t86,t87] σ λt88 σ=>
 VV.loop (λNz v66 σ=>VV.rd (Yp [h0 v66] σ) λt90=>VV.rd (Qn .gtr false [t90,.int .i64 0] σ) λt91=>VV.test t91 (
  VV.rd (Yp [h0 v66] σ) λt96=>VV.loop (λNA v71 σ=>VV.rd (Qn .lss false [h0 v71,t96] σ) λt98=>VV.test t98 (
    aH (λk73=>vj qb (h0 v66) (h0 v71) k73 σ) (λ_ σ=>VV.rd (Qn .add false [h0 v71,.int .i64 1] σ) λt131=>NA [t131] σ))
    (tC eb (h0 v66) Nz σ)) [.int .i64 0] σ) (
  VV.call (.call 21) [.ai 1 0] σ λt143 σ=>VV.rd (Qn .neq false [t143,.int .i8 0] σ) λt145=>VV.test t145 (k58 [t143] σ) (
   VV.call (.call 22) [.ai qb 0] σ λt148 σ=>VV.rd (Ql 0 [t148] σ) λt149=>VV.rd (Ql 1 [t148] σ) λt150=>VV.wr (Zy [.int .i64 0,.int .i64 0,.bool false] [] σ) σ λt27 σ=>
   VV.wr (Qm 3 [t27,t149] σ) σ λ_ σ=>VV.rd (pd .not [t150] σ) λt152=>VV.test t152 (
    VV.dr (Xh true 23 [.ai 1 0] σ) σ λt153 l125 σ=>VV.dr (Xh false 1 [.ai eb 0] σ) σ λt154 l127 σ=>VV.dr (Xh false 1 [.ai 2 0] σ) σ λt155 l129 σ=>VV.dr (Qm 23 [.ai 3 0,t153] σ) σ λ_ l130 σ=>
    VV.gd (Xn [[],[],[],[0],[0,1,3],[0,1,2,3,4],[0,1,2,3,4,5]] [l125,l127,l129,l130,([],[]),([],[]),([],[])]) <| VV.opt (ga true 23 (.ai 3 0) σ) λr131=>K (.bn [r131,t154,t155,.int .i64 0]) σ) (
    VV.rd (Xh false 1 [.ai 2 0] σ) λt156=>VV.rd (Qn .eql false [t156,.int .i64 0] σ) λt157=>VV.test t157 (k58 [.int .i8 3] σ) (
     vk eb Ny k58 K (.func (.func 16) [] [.ai 0 0,.ai 1 0,.ai 2 0,.ai eb 0]) t27 σ))))) [t88] σ
def yR(eb qb:Nat)(K:aa→List ab→Prop)(σ:List ab):Prop:=
 aH (λk58=>VV.loop (UF eb qb K k58) [] σ) (λv59 σ=>vh eb K v59 σ)
theorem QdX{b:Bk}(hf:aS b=true)(bN:Zj b.af)(iS:b.af.length≤61)(gK:(cE b).1=0){s:St}{N C:Nat}(hS:di b N C s){fu:Int}(yC:0≤fu∧fu≤1000)(hN:N+12000*(fu.toNat+1)≤1000000)(hC:C+200*(fu.toNat+1)+14≤1000000){ws:List Tr}(Wn:ws.length≤1000)(bV:∀x∈ws,nA b x)
 {eb qb:Nat}{τ:List ab}(hR:RS b s fu [] ws eb qb τ){K:aa→List ab→Prop}
 (hK:∀(r:Int×St×List Ev×Int) (lv:aa) (cs:List aa) (σ':List ab),r=X4 b (fu.toNat+1) s ws fu []→SB σ' [] cs r.2.1→LE r.2.2.1 lv σ'→K (.bn [.agg cs,lv,iv r.2.2.2,iv r.1]) σ'):yR eb qb K τ:=by
 unfold yR;refine Qh λk58 ek=>?_;have uG:∀(t:St) (iN how:Int) (l2:List Ev) (Dv:List Tr) (υ:List ab),bu 1000000000 t→RS b t iN l2 Dv eb qb υ→0≤how∧how≤3→l2.length≤100000000→iH b t l2 iN how=X4 b (fu.toNat+1) s ws fu []→k58 [ar how] υ:=by
  intro t iN how l2 Dv υ ht hr hh hl e;rw[ek];exact Qd2 b hf bN ht hr how hh hl (λσ' lv hle=>hK _ lv _ σ' e (SB.ro _) hle)
 clear ek;refine Xj (ι:=Nat) (λi vs υ=>vs=[]∧∃ (t:St) (iN:Int) (l2:List Ev) (Dv:List Tr) (N2 C2 n:Nat),RS b t iN l2 Dv eb qb υ∧di b N2 C2 t∧0≤iN∧iN≤1000∧i=iN.toNat∧N2 + 12000 * (i + 1)≤1000000∧C2 + 200 * (i + 1) + 14≤1000000 ∧
   l2.length + 13000 * (i + 1)≤90000000∧Dv.length + 20 * (i + 1)≤80000000∧(∀ x∈Dv,nA b x)∧iN≤n∧X4 b (n + 1) t Dv iN l2=X4 b (fu.toNat + 1) s ws fu []) id fu.toNat
  ⟨rfl,s,fu,[],ws,N,C,fu.toNat,hR,hS,yC.1,yC.2,rfl,hN,hC,by simp; omega,by omega,bV,by omega,rfl⟩ ?_
 clear hR hS hN hC Wn bV;rintro i vs υ again ⟨rfl,t0,iN,l0,IY,N2,C2,n,hR,hS,GF,zR,rfl,hN,hC,hl,hw,bV,hn,n9⟩ aZ;unfold UF;refine Za (v:=dg b) (ld hR.hb rfl) (Za (v:=cf t0) (ld hR.hs rfl) (Xb (c28 b hf bN t0 hS.le (YA.2 ⟨gK,hS.may⟩)) rfl g18.ok.plain rfl ?_));have KZ:Yn t0≤14:=by have:=hS.may.s0.ae; have:=hS.may.s1.ae; unfold Yn; omega
 have qW:=L8 (b:=b) (N:=N2) (C:=C2) (by omega) (Yn t0) t0 IY l0 (Nat.le_refl _) hS;refine Xj (ι:=Nat) (λi vs φ=>∃(t:St) (l':List Ev) (lF:List Tr),vs=[aV (aN b t)]∧i=Yn t∧RS b t iN l' lF eb qb φ∧di b N2 C2 t∧quiet b (Yn t) t lF l'=quiet b (Yn t0) t0 IY l0∧l'.length+Yn t≤l0.length+14∧lF.length+Yn t≤IY.length+14) id (Yn t0)
  ⟨t0,l0,IY,rfl,rfl,hR,hS,rfl,by omega,by omega⟩ ?_
 clear hR;rintro _ _ φ NB ⟨t,l',lF,rfl,rfl,hR,vy,hq,fj,K0⟩ Gp;refine Za (v:=iv (aN b t).length) (rd:=[]) (by simp[Yp,h0]) (Za (v:=.bool (decide (((aN b t).length:Int)>0))) rfl (Zb (λh=>?_) (λh=>?_)))
 ·have hd:aN b t≠[]:=by rintro e; rw[e] at h; simp at h
  obtain⟨d1,d2,d3⟩:=Z1 vy.may;refine Za (v:=iv (aN b t).length) (rd:=[]) (by simp[Yp,h0]) ?_;refine Xj (ι:=Nat) (λj vs ψ=>vs=[iv j]∧j≤(aN b t).length∧RS b t iN l' (lF++fx b t ((aN b t).take j)) eb qb ψ) (λj=>(aN b t).length-j) 0 ⟨rfl,by omega,by simpa[fx] using hR⟩ ?_;rintro j _ ψ kZ ⟨rfl,hj,Om⟩ jJ;refine Za (v:=.bool (decide ((j:Int)<(aN b t).length))) rfl (Zb (λh2=>?_) (λh2=>?_))
  ·have h2:j<(aN b t).length:=by simpa using h2
   have Wm:(lF++fx b t ((aN b t).take j)).length≤90000000:=by
    have:=I4 b t ((aN b t).take j);rw[List.length_take] at this;rw[List.length_append]; omega
   refine Qh λk73 ek=>?_;refine Yd5 hf vy Om h2 (d2 _ (List.getElem_mem h2)) Wm λψ' h3=>?_;rw[List.append_assoc,←UY,←Yv _ _ h2] at h3;rw[ek];refine Za (Yj ..) ?_;rw[Qd (n:=j) (by omega)];exact jJ (j+1) _ _ (by omega) ⟨rfl,by omega,h3⟩
  ·have h2:j=(aN b t).length:=by simp at h2; omega
   subst h2;rw[List.take_length] at Om;refine YdP hf bN gK vy (by omega) Om (by omega) λψ' h3=>?_;have yF:=I3 vy.may hd;have zP:=(QP (aN b t) t).1;have yz:=Kj (aN b t) t d1 d2;have hT:=I4 b t (aN b t);rw[Ycu (N:=N2) (C:=C2) (by omega) lF l' vy hd] at hq;refine Gp _ _ _ yF ⟨_,_,_,rfl,rfl,h3,vy.tB (by omega),hq,?_,?_⟩
   ·rw[List.length_append]; omega
   ·rw[List.length_append]; omega
 ·have hd:aN b t=[]:=by
   have h:¬0<(aN b t).length:=by simpa using h
   exact List.length_eq_zero_iff.1 (by omega)
  rw[T5 _ _ _ hd] at hq;have jn:=Ly n iN hq.symm;rw[n9] at jn;clear Gp n9;obtain⟨_,_,_,⟨m',p1,p2,p3⟩⟩:=qW;rw[←hq] at p1;have p1:lF=IY++m':=p1;have sF:∀x∈lF,nA b x:=by
   intro x hx;rw[p1] at hx;rcases List.mem_append.1 hx with hx|hx
   ·exact bV x hx
   ·exact p3 x hx
  clear p1 p2 p3 hq;refine Qg hP (f:=21) rfl g21.ok rfl (w212 t hR.hs ?_);have zL:=S1 t;refine Za (XZ ..) (Zb (λhz=>?_) (λhz=>?_))
  ·have hz:Qx t≠0:=by simpa using hz
   rw[if_pos hz] at jn;exact uG t iN _ l' lF φ vy.ta hR zL (by omega) jn.symm
  have hz:Qx t=0:=by simpa using hz
  rw[if_neg (by simpa using hz)] at jn;obtain⟨qv,q1,q2⟩:=hR.hq;refine Qg hP (f:=22) rfl g22.ok rfl (w213 q1 q2 (by omega) (λAb σ' r1 r2 r3=>?_) (λx wr ui σ' tc r1 r2 r3=>?_))
  ·subst Ab;have h3:=hR.K4 r1 r2 r3;refine Za rfl (Za rfl (Xq (row:=[iv 0,iv 0,.bool false]) (row':=[iv 0,iv 0,.bool false]) rfl rfl rfl ?_));have h4:=h3.app (.box [iv 0,iv 0,.bool false]);generalize σ'++[ab.box [iv 0,iv 0,.bool false]]=φ2 at *;obtain⟨lv,e1,l1⟩:=h4.he;have hr:=h4.hr;have e3:=h4.e3;refine Za rfl (Xc (Yg (v:=cf t) (ld h4.hs rfl) (Xi _) (Yg (v:=lv) (ld e1 rfl) (Xi _) (Yg (v:=iv iN) (ld h4.hf rfl) (Xi _) (Yg (cM (row':=aD t) hr rfl rfl rfl) (Xg _ (Ye hr (by simp))) ?_)))));have n1:eb≠3:=by omega
   refine Xr (by simp[Xn,Zu,Qq,XF,c9,eZ,List.range,List.range.loop,n1,n1.symm]) (Qi (Zr (Ye hr (by simp)) rfl) ?_);exact hK (0,t,l',iN) lv _ _ jn.symm (SB.ro _) (l1.mono λc rs k=>YB _ hr k)
  ·subst ui;have h3:=hR.K4 r1 r2 r3;refine Za rfl (Za rfl (Xq (row:=el x) (row':=el x) rfl rfl rfl ?_));have hq3:=Ye r1 (by simp);have h4:=h3.app (.box (el x));have x4:=Yf σ' (.box (el x));generalize σ'.length=xb at *;generalize σ'++[ab.box (el x)]=φ2 at *;refine Za rfl (Yd (Za (v:=iv iN) (ld h4.hf rfl) (Za (Zf ..) (Zb (λnM=>?_) (λnM=>?_)))))
   ·have nM:iN=0:=by simpa using nM
    have ig:X4 b (fu.toNat+1) s ws fu []=iH b t l' iN 3:=by rw[jn]; simp only; rw[if_pos nM]
    exact uG t iN 3 l' wr φ2 vy.ta h4 (by decide) (by omega) ig.symm
   have nM:iN≠0:=by simpa using nM
   have hx:=sF x (by simp);have ig:X4 b (fu.toNat+1) s ws fu []=if Qv b x.side (iN-1) (bO b x)=true then (2,je,[],0)
    else if (runs b x.side (-1) (bO b x) t (iN-1)).1=0 then X4 b n (runs b x.side (-1) (bO b x) t (iN-1)).2.1 wr (runs b x.side (-1) (bO b x) t (iN-1)).2.2.1 (l'++[nG x]++(runs b x.side (-1) (bO b x) t (iN-1)).2.2.2)
    else if (runs b x.side (-1) (bO b x) t (iN-1)).1=190 then iH b (runs b x.side (-1) (bO b x) t (iN-1)).2.1 (l'++[nG x]++(runs b x.side (-1) (bO b x) t (iN-1)).2.2.2) (runs b x.side (-1) (bO b x) t (iN-1)).2.2.1 3
    else ((runs b x.side (-1) (bO b x) t (iN-1)).1,je,[],0):=by rw[jn]; simp only; rw[if_neg nM]
   clear jn;have pI:Qv b x.side (iN-1) (bO b x)=false→di b (N2+12000) (C2+200) (runs b x.side (-1) (bO b x) t (iN-1)).2.1∧(runs b x.side (-1) (bO b x) t (iN-1)).2.2.2.length≤12000:=by
    intro ha;have eh:nY b (bO b x)=true:=by
     unfold Qv at ha;simp only[Bool.or_eq_false_iff,Bool.not_eq_false'] at ha;exact ha.2
    obtain⟨_,wO⟩:=Km eh;obtain⟨k1,k2⟩:=Dy (b:=b) (tg:=-1) hx.2.2 (bO b x) (iN-1) vy (by omega) (by omega);exact⟨k1.mono (by omega) (by omega),by omega⟩
   refine Xd5 hf bN iS gK vy (by omega) (by omega) (by omega) h4 (by omega) hx x4 hq3 (λha σ2=>?_) (λha z1 z2 σ2=>?_) (λha z σ2 h5=>?_) (λha z σ2 h5=>?_)
   ·rw[if_pos ha] at ig;exact hK (2,je,[],0) .aq _ _ ig.symm SB.zero (.inl ⟨rfl,rfl⟩)
   ·rw[if_neg (by rw[ha]; simp),if_neg z1,if_neg z2] at ig;exact hK (_,je,[],0) .aq _ _ ig.symm SB.zero (.inl ⟨rfl,rfl⟩)
   ·rw[if_neg (by rw[ha]; simp),if_neg (by rw[z]; decide),if_pos z] at ig;obtain⟨k1,k2⟩:=pI ha;exact uG _ _ 3 _ wr σ2 k1.ta h5 (by decide) (by simp only[List.length_append,List.length_singleton]; omega) ig.symm
   ·rw[if_neg (by rw[ha]; simp),if_pos z] at ig;obtain⟨k1,k2⟩:=pI ha;have OR:=I6 b x.side (-1) (bO b x) t (iN-1) (by omega);obtain⟨n',rfl⟩:∃n',n=n'+1:=⟨n-1,by omega⟩;have Wm:wr.length+1=(x::wr).length:=rfl;obtain⟨m,hm⟩:∃m,((runs b x.side (-1) (bO b x) t (iN-1)).2.2.1).toNat=m:=⟨_,rfl⟩;have s_:m<iN.toNat:=by omega
    have vE:(runs b x.side (-1) (bO b x) t (iN-1)).2.2.1≤(n':Int):=by omega
    refine aZ m [] σ2 s_ ⟨rfl,_,_,_,wr,_,_,n',h5,k1,OR.1,by omega,hm.symm,by omega,by omega,by simp only[List.length_append,List.length_singleton]; omega,by omega,λy hy=>sF y (by simp[hy]),vE,ig.symm⟩
end Go.Ah.Tz
end
section
namespace Go.Ah.Tz
open Go.Proofs.Tryz (prog)
set_option maxRecDepth 100000
def nC(b:Bk)(x:Tr):Bool:=((decide (x.card<0)||decide (x.card ≥ b.af.length))||decide (x.side<0))||decide (x.side>1)
def YC(fu:Int):Int:=min (max fu 0) 1000
def dz(b:Bk)(s:St)(row:List Tr)(fu:Int):Int×St×List Ev×Int:=
 if (decide ((row.length:Int)>1000) || !aQ (cE b).1 b s true)=true then (170,je,[],0)
 else if row.any (nC b)=true then (170,je,[],0)
 else if s.phase=2 then (0,s,[],YC fu)
 else X4 b ((YC fu).toNat+1) s row (YC fu) []
theorem T'{b:Bk}{x:Tr}(h:nC b x=false):nA b x:=by
 unfold nC at h;simp only[Bool.or_eq_false_iff,decide_eq_false_iff_not] at h;obtain⟨⟨⟨h1,h2⟩,h3⟩,h4⟩:=h;exact⟨by omega,by omega,by omega⟩
attribute [local irreducible] ak.rd ak.pu ak.wr ak.dr ak.gr ak.gw ak.gl ak.gd ak.opt aH W
set_option maxHeartbeats 8000000
theorem q92(b:Bk)(s:St)(hf:aS b=true)(bN:Zj b.af)(iS:aQ (cE b).1 b s true=true→b.af.length≤61)(hs:bu 1000000000 s)(row:List Tr)(fu:Int)(N C:Nat)(hT:TB N s)(hC:Zo s≤C)(hN:N+12000*((YC fu).toNat+1)≤1000000)(ub:C+200*((YC fu).toNat+1)+14≤1000000) :
  PC 7 [dg b,cf s,sQ row,iv fu] (nh (dz b s row fu)):=by
 refine Qo hP g7.ok rfl ?_;have hF:0≤YC fu∧YC fu≤1000:=by unfold YC; omega
 rw[H4.e]; unfold g7; dsimp only;refine Qb (v:=.ai 0 0) (rd:=[]) (up:=[(0,.box (bU b))]) rfl (Yi [] _) ?_;refine Qb (v:=.ai 1 0) (rd:=[]) (up:=[(1,.box (aD s))]) rfl (Yi [ab.box (bU b)] _) ?_;refine Qb (v:=.ai 2 0) (rd:=[]) (up:=[(2,.box [iv fu])]) rfl (Yi [ab.box (bU b),.box (aD s)] _) ?_;refine Qb (v:=.ai 3 0) (rd:=[]) (up:=[(3,.box aU)]) rfl (Yi [ab.box (bU b),.box (aD s),.box [iv fu]] _) ?_;refine Za (v:=iv fu) (ld (row:=[iv fu]) rfl rfl) (Za (v:=iv (max fu 0)) (X6 ..) (Za (v:=iv (YC fu)) (ZM ..) (Qb (cM (row:=[iv fu]) (row':=[iv (YC fu)]) rfl rfl rfl rfl) (Xg _ (by simp)) ?_)));obtain⟨σ,eσ⟩:∃σ:List ab,([ab.box (bU b),ab.box (aD s),ab.box [iv fu]]++[ab.box aU]).set 2 (ab.box [iv (YC fu)])=σ:=⟨_,rfl⟩;rw[eσ];have b1:ah σ 0=.box (bU b):=by rw[←eσ]; rfl
 have s1:ah σ 1=.box (aD s):=by rw[←eσ]; rfl
 have f1:ah σ 2=.box [iv (YC fu)]:=by rw[←eσ]; rfl
 have r1:ah σ 3=.box aU:=by rw[←eσ]; rfl
 clear eσ;refine Za (v:=iv row.length) (rd:=[]) (by simp[Yp]) (Za (v:=.bool (decide ((row.length:Int)>1000))) rfl ?_);have uw:∀K':aa→List ab→Prop,(∀τ,dL σ τ []→K' (.bool (decide ((row.length:Int)>1000) || !aQ (cE b).1 b s true)) τ) →
   VV.gw (.bool (decide ((row.length:Int)>1000))) false (λk=>VV.call (.call 13) [.ai 0 0,.ai 1 0] σ k) σ λt40 σ=>
   VV.gr (.bool (decide ((row.length:Int)>1000))) false (λk=>VV.rd (pd .not [t40] σ) k) λt41=>
   VV.rd (Ym [.bool (decide ((row.length:Int)>1000)),.bool true,t41] σ) (λv=>K' v σ):=by
  intro K' j6;rcases aT (decide ((row.length:Int)>1000)) with q|q
  ·rw[q] at j6 ⊢;have:=j6 σ ⟨Nat.le_refl _,λ_ _ _=>rfl⟩;exact Yb rfl (Qa rfl (Za rfl (by simpa using this)))
  ·rw[q] at j6 ⊢;refine Xa (Qg hP (f:=13) rfl g13.ok rfl (w209 b hf bN s hs b1 s1 λτ hτ=>Ya (Za rfl (Za rfl ?_))));have:=j6 τ hτ;simpa using this
 refine uw _ λτ hτ=>?_;clear uw;have b2:=hτ.get b1 (by simp) (by simp);have s2:=hτ.get s1 (by simp) (by simp);have f2:=hτ.get f1 (by simp) (by simp);have r2:=hτ.get r1 (by simp) (by simp);clear hτ b1 s1 f1 r1;have hz:∀(υ:List ab),ah υ 3=.box aU→dz b s row fu=(170,je,[],0) →
   VV.wr (Qm 23 [.ai 3 0,.agg aU] υ) υ λ_ σ=>VV.opt (ga true 23 (.ai 3 0) σ) λr13=>∃rd,aB (hp σ) rd (.bn [r13,.aq,.int .i64 0,.int .i64 170]) (nh (dz b s row fu)):=by
  intro υ hr e;refine Qb (cM (row':=aU) hr rfl rfl rfl) (Xg _ (Ye hr (by simp))) (Qi (Zr (Ye hr (by simp)) rfl) ?_);rw[e];exact uW (r:=(170,je,[],0)) SB.zero (.inl ⟨rfl,rfl⟩)
 rcases aT (decide ((row.length:Int)>1000) || !aQ (cE b).1 b s true) with q|q
 ·rw[q];exact Xc (Za (v:=.agg aU) rfl (hz _ r2 (by unfold dz; rw[if_pos q])))
 rw[q];have hq:=q;simp only[Bool.or_eq_false_iff,decide_eq_false_iff_not,Bool.not_eq_false'] at hq;obtain⟨hlen,mc⟩:=hq;have hlen:row.length≤1000:=by omega
 have gK:=(YA.1 mc).1;have hS:di b N C s:=⟨(YA.1 mc).2,hT,hC⟩;refine Yd (Za (v:=iv row.length) (rd:=[]) (by simp[Yp]) ?_);refine Xj (ι:=Nat) (λj vs υ=>vs=[iv j]∧j≤row.length∧dL τ υ []∧∀x∈row.take j,nC b x=false) (λj=>row.length-j) 0 ⟨rfl,by omega,⟨Nat.le_refl _,λ_ _ _=>rfl⟩,by simp⟩ ?_;rintro j _ υ again ⟨rfl,hj,aZ,iD⟩ n8;have b3:=aZ.get b2 (by simp) (by simp);have s3:=aZ.get s2 (by simp) (by simp);have f3:=aZ.get f2 (by simp) (by simp);have r3:=aZ.get r2 (by simp) (by simp);refine Za (v:=.bool (decide ((j:Int)<row.length))) rfl (Zb (λh=>?_) (λh=>?_))
 ·have h:j<row.length:=by simpa using h
  refine Za (Zp _ el false false 3 row .i64 j h) ?_;have eK:row[j]∈row:=List.getElem_mem h;have jb:=Yv row j h;generalize row[j]=x at *;refine Za (v:=.agg (el x)) (an rfl) (Xq (row:=el x) (row':=el x) rfl rfl rfl ?_);have jJ:=aZ.i9 (.box (el x));have x4:=Yf υ (.box (el x));have b4:=Xd [ab.box (el x)] b3 (by simp);have r4:=Xd [ab.box (el x)] r3 (by simp);generalize υ.length=xb at *;generalize υ++[ab.box (el x)]=υ2 at *;refine Za rfl (Za (v:=iv x.card) (ld x4 rfl) (Za (v:=.bool (decide (x.card<0))) rfl ?_));refine LC (d:=decide (x.card ≥ b.af.length)) (v1:=.ai xb 0) (v2:=iv x.card) (v3:=.ai 0 0) (v4:=fm b.af) (v5:=iv b.af.length) (q5:=[]) (λ_=>rfl) (λ_=>ld x4 rfl) (λ_=>rfl) (λ_=>ld b4 rfl) (λ_=>by simp[Yp]) (λ_=>rfl) ?_;refine sq (d:=decide (x.side<0)) (v1:=.ai xb 1) (v2:=iv x.side) (λ_=>rfl) (λ_=>ld x4 rfl) (λ_=>rfl) ?_;refine sq (d:=decide (x.side>1)) (v1:=.ai xb 1) (v2:=iv x.side) (λ_=>rfl) (λ_=>ld x4 rfl) (λ_=>rfl) ?_;refine Zb (c:=nC b x) (λhb=>?_) (λhb=>?_)
  ·exact Za (v:=.agg aU) rfl (hz _ r4 (by unfold dz; rw[if_neg (by rw[q]; simp),if_pos (List.any_eq_true.2 ⟨x,eK,hb⟩)]))
  ·refine Za (Yj ..) ?_;rw[Qd (n:=j) (by omega)];refine n8 (j+1) _ _ (by omega) ⟨rfl,by omega,jJ,λy hy=>?_⟩;rw[jb] at hy;rcases List.mem_append.1 hy with hy|hy
   ·exact iD y hy
   ·rw[List.mem_singleton] at hy; subst hy; exact hb
 ·have h:j=row.length:=by simp at h; omega
  subst h;rw[List.take_length] at iD;clear n8;have Gq:row.any (nC b)=false:=by
   rw[List.any_eq_false]; intro x hx; rw[iD x hx]; simp
  refine Za (v:=cf s) (ld s3 rfl) (Xb (tF s hs) rfl g14.ok.plain rfl (Qb (cM (row':=aD s) s3 rfl rfl rfl) (Xg _ (Ye s3 (by simp))) ?_));have b4:=Zd (x:=.box (aD s)) b3 (by simp) (show 1≠0 by decide);have s4:ah (υ.set 1 (.box (aD s))) 1=.box (aD s):=Xe _ (Ye s3 (by simp));have f4:=Zd (x:=.box (aD s)) f3 (by simp) (show 1≠2 by decide);have r4:=Zd (x:=.box (aD s)) r3 (by simp) (show 1≠3 by decide);generalize υ.set 1 (.box (aD s))=υ1 at *;have hr4:=Ye r4 (by simp);refine Qb (v:=.ai υ1.length 0) (rd:=[]) (up:=[(υ1.length,.box [.aq])]) rfl (Yi υ1 _) ?_;have b5:=Xd [ab.box [.aq]] b4 (by simp);have s5:=Xd [ab.box [.aq]] s4 (by simp);have f5:=Xd [ab.box [.aq]] f4 (by simp);have r5:=Xd [ab.box [.aq]] r4 (by simp);have e5:=Yf υ1 (.box [.aq]);have hl5:(υ1++[ab.box [.aq]]).length=υ1.length+1:=by simp
  generalize υ1++[ab.box [.aq]]=υ2 at *;refine Za rfl (Za (v:=ar s.phase) (ld s5 rfl) (Za (Zf ..) (Zb (λAd=>?_) (λAd=>?_))))
  ·have Ad:s.phase=2:=by simpa using Ad
   refine Yg (v:=cf s) (ld s5 rfl) (Xi _) (Yg (v:=iv (YC fu)) (ld f5 rfl) (Xi _) (Yg (cM (row':=aD s) r5 rfl rfl rfl) (Xg _ (Ye r5 (by simp))) ?_));refine Xr (by simp[Xn,Zu,Qq,XF,c9,eZ,List.range,List.range.loop]) (Qi (Zr (Ye r5 (by simp)) rfl) ?_);have e:dz b s row fu=(0,s,[],YC fu):=by
    unfold dz; rw[if_neg (by rw[q]; simp),if_neg (by rw[Gq]; simp),if_pos Ad]
   rw[e];exact uW (r:=(0,s,[],YC fu)) (SB.ro s) (.inl ⟨rfl,rfl⟩)
  ·have Ad:¬s.phase=2:=by simpa using Ad
   have e:dz b s row fu=X4 b ((YC fu).toNat+1) s row (YC fu) []:=by
    unfold dz; rw[if_neg (by rw[q]; simp),if_neg (by rw[Gq]; simp),if_neg Ad]
   rw[e];refine Za (v:=.agg [.aq]) rfl (Qb (v:=.ai υ2.length 0) (rd:=[]) (up:=[(υ2.length,.box [.aq])]) rfl (Yi υ2 _) ?_);have h6:RS b s (YC fu) [] [] υ1.length υ2.length (υ2++[.box [.aq]]):=
    ⟨Xd _ b5 (by simp),Xd _ s5 (by simp),Xd _ f5 (by simp),Xd _ r5 (by simp),⟨.aq,Xd _ e5 (by simp),.inl ⟨rfl,rfl⟩⟩,⟨.aq,Yf υ2 _,.inl ⟨rfl,rfl⟩⟩,by omega,by omega⟩
   generalize υ2++[ab.box [.aq]]=υ3 at *;generalize υ2.length=qb at *;generalize υ1.length=eb at *;obtain⟨qv,q1,q2⟩:=h6.hq;refine Qg hP (f:=15) rfl g15.ok rfl (w210 (ys:=row) q1 q2 Kn (by simp; omega) λσ' tc p1 p2 p3=>?_);have h7:=h6.K4 p1 p2 p3;rw[List.nil_append] at h7;refine Za rfl ?_;exact QdX hf bN (iS mc) gK hS hF hN ub hlen (λx hx=>T' (iD x hx)) h7 (K:=λv σ=>∃rd,aB (hp σ) rd v (nh (X4 b ((YC fu).toNat+1) s row (YC fu) []))) (λr lv cs σ' er hsb hle=>by rw[←er]; exact uW hsb hle)
end Go.Ah.Tz
end
section
namespace Go.Ah.Tz
open Go.Proofs.Tryz (prog)
def tM(c:Cd):Prop:=(0≤c.cw∧c.cw≤999)∧(0≤c.cJ∧c.cJ≤999)∧(0≤c.bD∧c.bD≤999)∧(0≤c.dG∧c.dG≤999)∧(0≤c.eu∧c.eu≤999)
theorem tR(cs:List Cd):∀(l pre:List Cd),(fw cs pre l).1=0→∀c∈l,tM c
 |[],_,_,c,hc=>absurd hc (by simp)
 |d::l,pre,h,c,hc=>by
  unfold fw at h;split at h
  ·cases h
  ·split at h
   ·rename_i h2;rcases List.mem_cons.1 hc with rfl|hc
    ·simp only[eR,bz,Bool.and_eq_true,decide_eq_true_eq] at h2;obtain⟨_,_,h3,h4,hs,h5,h6,_⟩:=h2;exact⟨hs,h3,h4,h5,h6⟩
    ·exact tR cs l _ h c hc
   ·cases h
theorem Ydf{b:Bk}(h:(cE b).1=0):∀c∈b.af,tM c:=by
 unfold cE at h;split at h
 ·rename_i h1; exact absurd h h1
 ·rename_i h1;have h1:(cW b.af).1=0:=by simpa using h1
  unfold cW at h1;split at h1
  ·cases h1
  ·exact tR _ _ _ h1
theorem Ml{b:Bk}(h:(cE b).1=0)(k:Int):tM (Qs b k):=by
 unfold Qs;cases e:b.af[k.toNat]? with
 |none=>exact⟨⟨Int.le_refl _,by decide⟩,⟨Int.le_refl _,by decide⟩,⟨Int.le_refl _,by decide⟩,⟨Int.le_refl _,by decide⟩,⟨Int.le_refl _,by decide⟩⟩
 |some c=>exact Ydf h c (List.mem_of_getElem? e)
def kQ(b:Bk)(place:Int):List Th→Int→Int×Int→Int×Int
 |[],_,a=>a
 |u::l,i,a=>kQ b place l (i+1) (if i=place then a else (IntKind.i64.wrap (a.1+(Qs b u.card).dG),IntKind.i64.wrap (a.2+(Qs b u.card).eu)))
def gj(f g:Th→Int)(place:Int):List Th→Int→Int
 |[],_=>0
 |u::l,i=>(if i=place then f u else g u)+gj f g place l (i+1)
theorem S3(f g f':Th→Int)(place:Int):∀(l:List Th) (i:Int),place<i→gj f g place l i=gj f' g place l i
 |[],_,_=>rfl
 |u::l,i,h=>by
  unfold gj;rw[if_neg (by omega),if_neg (by omega),S3 f g f' place l (i+1) (by omega)]
theorem M9(f g:Th→Int)(place:Int):∀(l:List Th) (i:Int) (k:Nat) (u:Th),l[k]?=some u→i+k=place→gj f g place l i=f u+gj (λ_=>0) g place l i
 |[],_,_,_,h,_=>by simp at h
 |v::l,i,0,u,h,e=>by
  simp at h; subst h;unfold gj;rw[if_pos (by omega),if_pos (by omega),S3 f g (λ_=>0) place l (i+1) (by omega)];omega
 |v::l,i,k+1,u,h,e=>by
  unfold gj;rw[if_neg (by omega),if_neg (by omega),M9 f g place l (i+1) k u (by simpa using h) (by omega)];omega
theorem Lx{b:Bk}(h:(cE b).1=0)(place:Int):∀(l:List Th) (i:Int) (a:Int×Int),0≤a.1→0≤a.2→a.1+999*l.length≤1000000000000→a.2+999*l.length≤1000000000000 →
  jz b place l i a=(a.1+gj (λu=>(Qs b u.card).cJ) (λu=>(Qs b u.card).dG) place l i,a.2+gj (λu=>(Qs b u.card).bD) (λu=>(Qs b u.card).eu) place l i)
 |[],_,a,_,_,_,_=>by simp[jz,gj]
 |u::l,i,a,h1,h2,h3,h4=>by
  obtain⟨_,⟨q1,q2⟩,⟨q3,q4⟩,⟨q5,q6⟩,q7,q8⟩:=Ml h u.card;simp only[List.length_cons] at h3 h4;unfold jz gj;split
  ·rw[bc (by omega) (by omega),bc (by omega) (by omega),Lx h place l _ _ (by show 0≤a.1+_; omega) (by show 0≤a.2+_; omega) (by show a.1+_+_≤_; omega) (by show a.2+_+_≤_; omega)];simp only[Prod.mk.injEq]; omega
  ·rw[bc (by omega) (by omega),bc (by omega) (by omega),Lx h place l _ _ (by show 0≤a.1+_; omega) (by show 0≤a.2+_; omega) (by show a.1+_+_≤_; omega) (by show a.2+_+_≤_; omega)];simp only[Prod.mk.injEq]; omega
theorem L'{b:Bk}(h:(cE b).1=0)(place:Int):∀(l:List Th) (i:Int) (a:Int×Int),0≤a.1→0≤a.2→a.1+999*l.length≤1000000000000→a.2+999*l.length≤1000000000000 →
  kQ b place l i a=(a.1+gj (λ_=>0) (λu=>(Qs b u.card).dG) place l i,a.2+gj (λ_=>0) (λu=>(Qs b u.card).eu) place l i)
 |[],_,a,_,_,_,_=>by simp[kQ,gj]
 |u::l,i,a,h1,h2,h3,h4=>by
  obtain⟨_,⟨q1,q2⟩,⟨q3,q4⟩,⟨q5,q6⟩,q7,q8⟩:=Ml h u.card;simp only[List.length_cons] at h3 h4;unfold kQ gj;split
  ·rw[L' h place l _ _ h1 h2 (by omega) (by omega)];simp only[Prod.mk.injEq]; omega
  ·rw[bc (by omega) (by omega),bc (by omega) (by omega),L' h place l _ _ (by show 0≤a.1+_; omega) (by show 0≤a.2+_; omega) (by show a.1+_+_≤_; omega) (by show a.2+_+_≤_; omega)];simp only[Prod.mk.injEq]; omega
theorem XdI{b:Bk}(h:(cE b).1=0){l:List Th}(hl:l.length≤1000000){k:Nat}{u:Th}(hk:l[k]?=some u):kQ b k l 0 ((Qs b u.card).cJ,(Qs b u.card).bD)=iI b l k:=by
 obtain⟨_,⟨q1,q2⟩,⟨q3,q4⟩,_⟩:=Ml h u.card;rw[iI,Lx h k l 0 (0,0) (Int.le_refl _) (Int.le_refl _) (by show (0:Int) + _≤_; omega) (by show (0:Int) + _≤_; omega),L' h k l 0 _ q1 q3 (by show (Qs b u.card).cJ + _≤_; omega) (by show (Qs b u.card).bD + _≤_; omega),
  M9 (λu=>(Qs b u.card).cJ) _ k l 0 k u hk (by simp),M9 (λu=>(Qs b u.card).bD) _ k l 0 k u hk (by simp)]
 simp
attribute [local irreducible] ak.rd ak.pu ak.wr ak.dr ak.gr ak.gw ak.gl ak.gd ak.opt aH W
set_option maxHeartbeats 8000000
theorem c177(b:Bk)(he:(cE b).1=0)(s:St){side:Int}(hs:side=0∨side=1)(hl:(QF s side).ae.length≤1000000)(hu:∀u∈(QF s side).ae,0≤u.card∧u.card.toNat<b.af.length){k:Nat}{u:Th}(hk:(QF s side).ae[k]?=some u) :
  PC 27 [dg b,cf s,iv side,iv k] (.bn [iv (iI b (QF s side).ae k).1,iv (iI b (QF s side).ae k).2]):=by
 refine Yc hP g27.ok rfl rfl ?_;rw[H4.e]; unfold g27; dsimp only;have hj:∀σ,Yt 2 8 [.ai 1 (0+7),iv side] σ=.ok (.ai 1 (Em side)) [] []:=by rcases hs with rfl|rfl<;>exact λ_=>rfl
 have hU:aL false (Em side+6) 1 (aD s)=some (il (QF s side).ae):=by rcases hs with rfl|rfl<;>rfl
 rw[←XdI he hl hk];have hm:=List.mem_of_getElem? hk;have mW:k<(QF s side).ae.length:=(gn hk).1;generalize (QF s side).ae=U at hl hu hk hU hm mW ⊢;refine Qb (v:=.ai 0 0) (rd:=[]) (up:=[(0,.box (bU b))]) rfl rfl ?_;refine Qb (v:=.ai 1 0) (rd:=[]) (up:=[(1,.box (aD s))]) rfl rfl ?_;have rW:=λ(t:List ab)=>sU t b_ false false 12 b.af .i64 u.card (hu u hm).1 (hu u hm).2;have uh:Qs b u.card=b.af[u.card.toNat]'(hu u hm).2:=by simp[Qs,List.getElem?_eq_getElem (hu u hm).2]
 have dc:=λ(t:List ab)=>Zp t aP false false 4 U .i64 k mW;rw[(gn hk).2] at dc;rw[uh];generalize b.af[u.card.toNat]'(hu u hm).2=c at rW ⊢;refine Za rfl (Za (hj _) (Za rfl (Za (ld rfl hU) ?_)));refine Za rfl (Za (v:=fm b.af) rfl (Za (dc _) (Za rfl (Za (v:=iv u.card) (rd:=[]) (an rfl) (Za (rW _) (Za rfl (Za (an (tN _)) ?_)))))));refine Za rfl (Za (v:=fm b.af) rfl (Za (dc _) (Za rfl (Za (v:=iv u.card) (rd:=[]) (an rfl) (Za (rW _) (Za rfl (Za (an (tO _)) ?_)))))));clear rW dc uh hm;refine Xj (ι:=Nat) (λi vs τ=>(∃a:Int×Int,vs=[iv i,iv a.1,iv a.2]∧kQ b k U 0 (c.cJ,c.bD)=kQ b k (U.drop i) i a)∧i≤U.length∧ah τ 0=.box (bU b)) (λi=>U.length-i) 0 ⟨⟨_,rfl,rfl⟩,by omega,rfl⟩ ?_;rintro i vs τ again ⟨⟨a,rfl,hr⟩,hi,h0⟩ aZ;refine Za (v:=iv U.length) (rd:=[]) (by simp[Zh]) (Za (YZ ..) (Zb (λh=>?_) (λh=>?_)));rotate_left
 ·have h:i=U.length:=by simp at h; omega
  subst h;rw[List.drop_length,kQ] at hr;show aa.bn [iv a.1,iv a.2]=_;rw[hr]
 have h:i<U.length:=by simpa using h
 have hm:=List.getElem_mem h;have dc:=λ(t:List ab)=>Zp t aP false false 4 U .i64 i h;rw[fA h,kQ] at hr;generalize U[i]=w at hm dc hr;have rW:=λ(t:List ab)=>sU t b_ false false 12 b.af .i64 w.card (hu w hm).1 (hu w hm).2;have uh:Qs b w.card=b.af[w.card.toNat]'(hu w hm).2:=by simp[Qs,List.getElem?_eq_getElem (hu w hm).2]
 rw[uh] at hr;generalize b.af[w.card.toNat]'(hu w hm).2=d at rW hr;refine Qh λk26 GO=>?_;refine Za (XZ ..) (Zb (λcL=>?_) (λcL=>?_))
 ·have cL:(i:Int)≠k:=by simpa using cL
  rw[if_neg cL] at hr;refine Za rfl (Za (ld h0 rfl) (Za (dc _) (Za rfl (Za (v:=iv w.card) (rd:=[]) (an rfl) (Za (rW _) (Za rfl (Za (an (tP _)) (Za (Yj ..) ?_))))))));refine Za rfl (Za (ld h0 rfl) (Za (dc _) (Za rfl (Za (v:=iv w.card) (rd:=[]) (an rfl) (Za (rW _) (Za rfl (Za (an (tQ _)) (Za (Yj ..) ?_))))))));rw[GO];refine Za (Yj ..) ?_;rw[Qd (n:=i) (by omega)];exact aZ (i+1) _ _ (by omega) ⟨⟨_,rfl,by rw[hr]; push_cast; rfl⟩,by omega,h0⟩
 ·have cL:(i:Int)=k:=by simpa using cL
  rw[if_pos cL] at hr;rw[GO];refine Za (Yj ..) ?_;rw[Qd (n:=i) (by omega)];exact aZ (i+1) _ _ (by omega) ⟨⟨a,rfl,by rw[hr]; push_cast; rfl⟩,by omega,h0⟩
end Go.Ah.Tz
end
section
namespace Go.Ah.Tz
open Go.Proofs.Tryz (prog)
set_option maxRecDepth 100000
theorem F9(ib:Bool)(a:Int)(n:Nat)(h:n≠0)(σ:List ab):Qn .rem ib [iv a,iv n] σ=.ok (iv (a.tmod n)) [] []:=by
 cases n with
 |zero=>exact(h rfl).elim
 |succ n=>rfl
end Go.Ah.Tz
end
section
namespace Go.Ah.Tz
open Go.Proofs.Tryz (prog)
set_option maxRecDepth 100000
def dpre(b:Bk)(s:St)(i:Nat):List Int:=if i=0 then [] else if i=1 then YF b (QF s s.mover) else aN b s
theorem YcO(b:Bk){s:St}(vF:0≤s.mover∧s.mover≤1){i:Nat}(hi:i<2):∃sd:Int,(sd=0∨sd=1)∧(IntKind.i64.wrap (s.mover+i)).tmod ((2:Nat):Int)=sd∧dpre b s (i+1)=dpre b s i++YF b (QF s sd):=by
 have hm:s.mover=0∨s.mover=1:=by omega
 have hi:i=0∨i=1:=by omega
 rcases hm with hm|hm<;>rcases hi with rfl|rfl
 ·exact⟨0,.inl rfl,by rw[hm]; decide,by simp[dpre,hm]⟩
 ·exact⟨1,.inr rfl,by rw[hm]; decide,by simp[dpre,hm,aN,QF]⟩
 ·exact⟨1,.inr rfl,by rw[hm]; decide,by simp[dpre,hm]⟩
 ·exact⟨0,.inl rfl,by rw[hm]; decide,by simp[dpre,hm,aN,QF]⟩
attribute [local irreducible] ak.rd ak.pu ak.wr ak.dr ak.gr ak.gw ak.gl ak.gd ak.opt aH W
set_option maxHeartbeats 8000000
theorem q95(b:Bk)(s:St)(hs:bu 2000000 s)(hm:aQ (cE b).1 b s true=true)(h67:PC 24 [dg b] (.agg [iv (cE b).1,iv (cE b).2])):PC 9 [dg b,cf s] (aV (aN b s)):=by
 have hM:=(YA.1 hm).2;have he:=(YA.1 hm).1;have pK:bu 1000000000 s:=hs.mono (by decide);refine Qo hP g9.ok rfl ?_;rw[H2.e]; unfold g9; dsimp only;refine Qb (v:=.ai 0 0) (rd:=[]) (up:=[(0,.box (bU b))]) rfl rfl ?_;refine Qb (v:=.ai 1 0) (rd:=[]) (up:=[(1,.box (aD s))]) rfl rfl ?_;refine Za (v:=dg b) (ld (row:=bU b) rfl rfl) (Za (v:=cf s) (ld (row:=aD s) rfl rfl) (Xb (c25 b s pK true _ _ h67) rfl g8.ok.plain rfl (Za rfl ?_)));rw[hm];refine Yd ?_;have vF:0≤s.mover∧s.mover≤1:=⟨hM.hd.2.2.1,hM.hd.2.2.2.1⟩;refine Xj (ι:=Nat) (λi vs τ=>∃v,vs=[iv i,v]∧i≤2∧Gr [.box (bU b),.box (aD s)] 1 ((dpre b s i).map aY) (dpre b s i).length v τ∧(dpre b s i).length≤10*i) (λi=>2-i) 0 ⟨.aq,rfl,by omega,Gr.nil 1 _,by simp[dpre]⟩ ?_;rintro i vs τ again ⟨v,rfl,hi,hG,hlen⟩ aZ;refine Za (v:=.bool (decide ((i:Int)<2))) rfl (Zb (λh=>?_) (λh=>?_));rotate_left
 ·have h:i=2:=by simp at h; omega
  subst h;exact hG.ri
 have h:i<2:=by simp at h; omega
 obtain⟨sd,h01,hsd,Hn⟩:=YcO b vF h;have g1:ah τ 1=.box (aD s):=hG.eo rfl (by simp);refine Za rfl (Za (v:=iv s.mover) (ld g1 rfl) (Za (Yj ..) (Za (F9 _ _ 2 (by decide) _) ?_)));rw[hsd];have hj:∀σ,Yt 2 8 [.ai 1 (0+7),iv sd] σ=.ok (.ai 1 (Em sd)) [] []:=by rcases h01 with rfl|rfl<;>exact λ_=>rfl
 have hU:aL false (Em sd+6) 1 (aD s)=some (il (QF s sd).ae):=by rcases h01 with rfl|rfl<;>rfl
 have hl7:(QF s sd).ae.length≤7:=by rcases h01 with rfl|rfl; exact hM.s0.ae; exact hM.s1.ae
 have hu:∀u∈(QF s sd).ae,0≤u.card∧u.card.toNat<b.af.length:=by
  intro u hu;have eK:u∈s.s0.ae++s.s1.ae:=by
   rcases h01 with rfl|rfl
   ·exact List.mem_append_left _ hu
   ·exact List.mem_append_right _ hu
  have:=hM.un.1 u eK;simp only[Zq,Bool.and_eq_true,decide_eq_true_eq] at this;omega
 have Pk:=λ(k:Nat) (u:Th) (hk:(QF s sd).ae[k]?=some u)=>c177 b he s h01 (by omega) hu hk;refine Xj (ι:=Nat) (λk vs τ'=>(∃(done:List Int) (v':aa),vs=[iv k,v']∧Gr [.box (bU b),.box (aD s)] 1 (done.map aY) done.length v' τ'∧dpre b s (i+1)=done++ZF b (QF s sd).ae ((QF s sd).ae.drop k) k∧done.length≤10*i+k)∧k≤(QF s sd).ae.length) (λk=>(QF s sd).ae.length-k) 0 ⟨⟨dpre b s i,v,rfl,hG,Hn,by omega⟩,by omega⟩ ?_;clear hG g1;rintro k vs τ' kZ ⟨⟨done,v',rfl,hG,hr,yy⟩,hk⟩ jJ;have g0:ah τ' 0=.box (bU b):=hG.eo rfl (by simp);have g1:ah τ' 1=.box (aD s):=hG.eo rfl (by simp);generalize hUn:(QF s sd).ae=U at *;refine Za rfl (Za (hj _) (Za rfl (Za (ld g1 hU) (Za (v:=iv U.length) (rd:=[]) (by simp[Zh]) (Za (YZ ..) (Zb (λh2=>?_) (λh2=>?_)))))));rotate_left
 ·have h2:k=U.length:=by simp at h2; omega
  subst h2;rw[List.drop_length,ZF,List.append_nil] at hr;subst hr;refine Za (Yj ..) ?_;rw[Qd (n:=i) (by omega)];exact aZ (i+1) _ _ (by omega) ⟨v',rfl,by omega,hG,by omega⟩
 have h2:k<U.length:=by simpa using h2
 have GV:U[k]?=some U[k]:=by simp[h2]
 have hP:=Pk k U[k] GV;have dc:=λ(t:List ab)=>Zp t aP false false 4 U .i64 k h2;rw[fA h2,ZF] at hr;generalize U[k]=u at *;refine Qh λk21 ek=>?_;refine Za (v:=dg b) (ld g0 rfl) (Za (v:=cf s) (ld g1 rfl) (Xb hP rfl g27.ok.plain rfl (Za rfl (Za rfl ?_))));refine Za rfl (Za (hj _) (Za rfl (Za (ld g1 hU) (Za (dc _) (Za rfl (Za (v:=iv u.harm) (rd:=[]) (an rfl) (Za (X5 ..) (Zb (λhp=>?_) (λhp=>?_)))))))))
 ·have hp:(iI b U k).2≤u.harm:=by simpa using hp
  rw[if_pos hp] at hr;refine Za rfl (Za (hj _) (Za rfl (Za (ld g1 hU) (Za (dc _) (Za rfl (Za (v:=iv u.id) (rd:=[]) (an rfl) ?_))))));refine hG.put (by_:=8) rfl rfl rfl (by omega) (λv2 τ2 wG=>?_);rw[ek];refine Za (Yj ..) ?_;rw[Qd (n:=k) (by omega)];refine jJ (k+1) _ _ (by omega) ⟨⟨done++[u.id],v2,rfl,?_,?_,?_⟩,by omega⟩
  ·rw[List.map_append,List.length_append]; exact wG
  ·rw[hr,List.append_assoc]; push_cast; rfl
  ·rw[List.length_append,List.length_singleton]; omega
 ·have hp:¬(iI b U k).2≤u.harm:=by simpa using hp
  rw[if_neg hp] at hr;rw[ek];refine Za (Yj ..) ?_;rw[Qd (n:=k) (by omega)];exact jJ (k+1) _ _ (by omega) ⟨⟨done,v',rfl,hG,by rw[hr]; push_cast; rfl,by omega⟩,by omega⟩
end Go.Ah.Tz
end
section
namespace Go.Ah.Tz
set_option maxRecDepth 100000
theorem ZcK{kd:Int}(h0:kd≠14)(fP:Int→Int×Int)(fU:Th→Int×Int)(s:St)(id k:Int):(jH kd fP fU s id k).2.1.kind≠14:=by
 have z:kS.kind≠14:=by decide
 have hP:∀v,(nE s kd k v).2.1.kind≠14:=by intro v; unfold nE; split; exact h0; exact z
 have hU:∀k i id u v,(lj s kd k i id u v).2.1.kind≠14:=by intro k i id u v; unfold lj; split; exact h0; exact z
 grind [jH]
theorem Zcs(s:St)(k:Int):(a_ s k).2.1.kind≠14:=by
 unfold a_;split
 ·split
  ·show (3:Int)≠14; decide
  ·show kS.kind≠14; decide
 grind
theorem UH(k:Int):∀(j:Nat) (s:St),∀e∈(YE k j s).2.2,e.kind≠14
 |0,s,e,h=>by simp[YE] at h
 |j+1,s,e,h=>by
  unfold YE at h;split at h
  ·simp only[List.mem_cons] at h;rcases h with rfl|h
   ·exact Zcs s k
   ·exact UH k j _ e h
  ·simp at h
theorem Xdn(b:Bk)(s:St)(sd tg op who:Int)(name:Tx)(n:Int):∀e∈(ki b s sd tg op who name n).2.2,e.kind≠14:=by
 intro e he;unfold ki at he;split at he
 ·grind [gM,n_,na,mM,ZcK]
 grind [mH,ez,c6,hZ,oh,vS,UH]
mutual
theorem UU (b:Bk) (sd tg:Int):∀(x:Ef) (s:St) (fu:Int),∀e∈(dW b sd tg x s fu).2.2.2,e.kind≠14
 |.mk op who n name c bM bQ,s,fu,e,he=>by
  rw[dW] at he
  split at he
  ·split at he
   ·exact Kb b sd tg bM s fu e he
   ·exact Kb b sd tg bQ s fu e he
  split at he
  ·simp at he
  ·exact Xdn b s sd tg op who name _ e he
theorem Kb (b:Bk) (sd tg:Int):∀(l:List Ef) (s:St) (fu:Int),∀e∈(runs b sd tg l s fu).2.2.2,e.kind≠14
 |[],s,fu,e,he=>by rw[runs] at he; simp at he
 |x::l,s,fu,e,he=>by
  rw[runs] at he
  split at he
  ·rcases List.mem_append.1 he with he|he
   ·exact UU b sd tg x s fu e he
   ·exact Kb b sd tg l _ _ e he
  ·exact UU b sd tg x s fu e he
end
def cU:List Ev→Nat
 |[]=>0
 |e::l=>(if e.kind=14 then 1 else 0)+cU l
theorem QQ:∀l m:List Ev,cU (l++m)=cU l+cU m
 |[],m=>by simp[cU]
 |e::l,m=>by simp only[List.cons_append,cU,QQ l m]; omega
theorem Kl:∀ {l:List Ev},(∀e∈l,e.kind≠14)→cU l=0
 |[],_=>rfl
 |e::l,h=>by
  rw[cU,if_neg (h e (by simp)),Kl (λx hx=>h x (by simp[hx]))]
theorem Qdn{b:Bk}{N C:Nat}{s:St}(gK:(cE b).1=0)(h:di b N C s){r:Int}(hr:1≤r∧r≤3):di b N C (fO b s r).1∧(fO b s r).1.phase=2∧(fO b s r).2.kind≠14:=by
 have hm:=YA.2 ⟨gK,h.may⟩;unfold fO;by_cases ho:zo b s r=true
 ·rw[if_pos ho];refine⟨⟨?_,h.told,h.af⟩,rfl,by show (15:Int)≠14; decide⟩;obtain⟨⟨t1,t2,t3,t4,t5,t6,t7,t8,t9,t10,t11⟩,m2,m3,m4,m5⟩:=h.may;refine⟨⟨t1,t2,t3,t4,by show (0:Int)≤2; decide,by show (2:Int)≤2; decide,by show 0≤r; omega,hr.2,?_,t10,t11⟩,m2,m3,m4,⟨λ_=>rfl,λe=>?_⟩⟩
  ·show ((r==0)==((2:Int) != 2))=true;have:(r==0)=false:=by simp; omega
   rw[this]; rfl
  ·have e:(2:Int)=1:=e;exact absurd e (by decide)
 ·rw[if_neg ho];have ho:zo b s r=false:=by simpa using ho
  unfold zo at ho;rw[hm] at ho;simp only[Bool.not_true,Bool.or_false,Bool.not_eq_false',Bool.or_eq_true,decide_eq_true_eq,beq_iff_eq] at ho;have hp:s.phase=2:=by
   rcases ho with (ho|ho)|ho
   ·omega
   ·omega
   ·exact ho
  exact⟨h,hp,by show kS.kind≠14; decide⟩
def mq(b:Bk)(N C:Nat)(fu:Int)(l:List Ev)(r:Int×St×List Ev×Int):Prop:=
 r.1=0→di b (N+12000*(fu-r.2.2.2).toNat) (C+200*(fu-r.2.2.2).toNat) r.2.1∧0≤r.2.2.2∧r.2.2.2≤fu∧(cU r.2.2.1:Int)≤cU l+(fu-r.2.2.2)∧r.2.2.1.length≤l.length+13000*((fu-r.2.2.2).toNat+1)∧(r.2.1.phase=2∨(aN b r.2.1=[]∧Qx r.2.1=0))
theorem Ll{b:Bk}{N C N' C':Nat}{s:St}(gK:(cE b).1=0)(h:di b N' C' s){how:Int}(hr:1≤how∧how≤3){fu f0:Int}{l l0:List Ev}(hf:0≤fu∧fu≤f0)(hw:(cU l:Int)≤cU l0+(f0-fu))(hN:N'≤N+12000*(f0-fu).toNat)(hC:C'≤C+200*(f0-fu).toNat)(hlen:l.length+1≤l0.length+13000*((f0-fu).toNat+1)):mq b N C f0 l0 (iH b s l fu how):=by
 intro _;obtain⟨k1,k2,k3⟩:=Qdn gK h hr;refine⟨k1.mono hN hC,hf.1,hf.2,?_,by show (l++[(fO b s how).2]).length≤l0.length+13000*((f0-fu).toNat+1); simp_all,.inl k2⟩;show (cU (l++[(fO b s how).2]):Int)≤_+(f0-fu);simp_all [QQ,Kl]
theorem mq.mono{b:Bk}{N C:Nat}{fu wB:Int}{l l':List Ev}{r:Int×St×List Ev×Int}(h:mq b (N+12000) (C+200) fu l r)(hf:fu+1≤wB)(hw:(cU l:Int)+fu≤cU l'+wB)(hlen:l.length≤l'.length+13000):mq b N C wB l' r:=by
 intro e;obtain⟨h1,h2,h3,h4,h6,h5⟩:=h e;exact⟨h1.mono (by omega) (by omega),h2,by omega,by omega,by omega,h5⟩
theorem ZbS{b:Bk}(gK:(cE b).1=0):∀(n:Nat) {s:St} {ws:List Tr} {fu:Int} {l:List Ev} {N C:Nat},di b N C s→(∀x∈ws,nA b x)→0≤fu→fu≤n→N+12000*(n+1)≤1000000→C+200*(n+1)+14≤1000000 →
  mq b N C fu l (X4 b (n+1) s ws fu l):=by
  intro n
  induction n using Nat.strongRecOn with|ind n ih=>?_
  intro s ws fu l N C hS Wn GF zR hN hC;have hq:=L8 (b:=b) (N:=N) (C:=C) (by omega) (Yn s) s ws l (Nat.le_refl _) hS;generalize eq:quiet b (Yn s) s ws l=q at hq;obtain⟨t,lF,l'⟩:=q;obtain⟨q1,q2,⟨m,q3,q4,q5⟩,⟨m',q6,q7,q8⟩⟩:=hq;have q1:di b N C t:=q1;have q2:aN b t=[]:=q2;have q3:l'=l++m:=q3;have q6:lF=ws++m':=q6;have KZ:Yn s≤14:=by have:=hS.may.s0.ae; have:=hS.may.s1.ae; unfold Yn; omega
  have hlen:l'.length≤l.length+14:=by rw[q3,List.length_append]; omega
  have hw:cU l'=cU l:=by
   simp_all [QQ,Kl]
  have bV:∀x∈lF,nA b x:=by
   grind
  rw[Ly n fu eq];have zL:=S1 t;by_cases hz:Qx t≠0
  ·rw[if_pos hz];exact Ll gK q1 (by omega) (f0:=fu) (l0:=l) ⟨GF,Int.le_refl _⟩ (by omega) (by omega) (by omega) (by omega)
  rw[if_neg hz];have hz:Qx t=0:=by omega
  cases lF with
  |nil=>
   intro _
   grind
  |cons x wr=>
   simp only;by_cases yC:fu=0
   ·rw[if_pos yC];exact Ll gK q1 (by omega) (f0:=fu) (l0:=l) ⟨GF,Int.le_refl _⟩ (by omega) (by omega) (by omega) (by omega)
   rw[if_neg yC];by_cases ha:Qv b x.side (fu-1) (bO b x)=true
   ·rw[if_pos ha]; intro e; exact absurd e (by decide)
   rw[if_neg ha];have ha:Qv b x.side (fu-1) (bO b x)=false:=by simpa using ha
   have eh:nY b (bO b x)=true:=by
    simp_all [Qv]
   obtain⟨_,wO⟩:=Km eh;have hx:=bV x (by simp);obtain⟨k1,k2⟩:=Dy (b:=b) (tg:=-1) hx.2.2 (bO b x) (fu-1) q1 (by omega) (by omega);have k1:=k1.mono (N':=N+12000) (C':=C+200) (by omega) (by omega);have sY:=I6 b x.side (-1) (bO b x) t (fu-1) (by omega);have hkd:=Kl (Kb b x.side (-1) (bO b x) t (fu-1));generalize runs b x.side (-1) (bO b x) t (fu-1)=r at *;have eX:(l'++[nG x]++r.2.2.2).length≤l.length+13000:=by grind
   have Wl:cU (l'++[nG x]++r.2.2.2)=cU l+1:=by
    rw[QQ,QQ,hkd,hw]; rfl
   by_cases h0:r.1=0
   ·rw[if_pos h0];obtain⟨n',rfl⟩:∃n',n=n'+1:=⟨n-1,by omega⟩;have:=ih n' (by omega) (l:=l'++[nG x]++r.2.2.2) k1 (λy hy=>bV y (by simp[hy])) sY.1 (by omega) (by omega) (by omega) (ws:=wr);exact this.mono (by omega) (by omega) (by omega)
   rw[if_neg h0];by_cases h1:r.1=190
   ·rw[if_pos h1]
    grind [Ll]
   ·rw[if_neg h1]; intro e; exact absurd e h0
theorem WM{b:Bk}{s:St}{row:List Tr}{fu:Int}{N C:Nat}(hT:TB N s)(hC:Zo s≤C)(hf:0≤fu∧fu≤1000)(hN:N+12000*(fu.toNat+1)≤1000000)(ub:C+200*(fu.toNat+1)+14≤1000000)(h:(dz b s row fu).1=0) :
  (cE b).1=0∧di b (N+12000*(fu-(dz b s row fu).2.2.2).toNat) (C+200*(fu-(dz b s row fu).2.2.2).toNat) (dz b s row fu).2.1∧0≤(dz b s row fu).2.2.2∧(dz b s row fu).2.2.2≤fu∧(cU (dz b s row fu).2.2.1:Int)≤fu-(dz b s row fu).2.2.2∧(dz b s row fu).2.2.1.length≤13000*(fu.toNat+1) ∧
   ((dz b s row fu).2.1.phase=2∨(aN b (dz b s row fu).2.1=[]∧Qx (dz b s row fu).2.1=0)):=by
 have hc:YC fu=fu:=by unfold YC; omega
 unfold dz at h ⊢;rw[hc] at h ⊢;by_cases q:(decide ((row.length:Int)>1000) || !aQ (cE b).1 b s true)=true
 ·simp_all
 rw[if_neg q] at h ⊢;have hq:(decide ((row.length:Int)>1000) || !aQ (cE b).1 b s true)=false:=by simpa using q
 simp only[Bool.or_eq_false_iff,decide_eq_false_iff_not,Bool.not_eq_false'] at hq;obtain⟨gK,hM⟩:=YA.1 hq.2;have hS:di b N C s:=⟨hM,hT,hC⟩;by_cases q2:row.any (nC b)=true
 ·simp_all
 rw[if_neg q2] at h ⊢;have iD:∀x∈row,nA b x:=by
  simp_all [T']
 by_cases q3:s.phase=2
 ·rw[if_pos q3] at h ⊢;exact⟨gK,hS.mono (Nat.le_add_right _ _) (Nat.le_add_right _ _),hf.1,Int.le_refl _,by show ((0:Nat):Int)≤fu-fu; omega,Nat.zero_le _,.inl q3⟩
 rw[if_neg q3] at h ⊢;obtain⟨k1,k2,k3,k4,k6,k5⟩:=ZbS gK fu.toNat (l:=[]) hS iD hf.1 (by omega) hN ub h;exact⟨gK,k1,k2,k3,by simp_all [cU],by rw[List.length_nil] at k6; omega,k5⟩
theorem Qcu{b:Bk}{t:St}{n:Int}(gK:(cE b).1=0)(hM:dC b t)(hn:0≤n∧n≤1000)(hp:t.phase≠2)(hd:aN b t=[])(hr:Qx t=0):dz b t [] n=(0,t,[],n):=by
 have hc:YC n=n:=by unfold YC; omega
 unfold dz;rw[hc,YA.2 ⟨gK,hM⟩];rw[if_neg (by simp),if_neg (by simp),if_neg hp,Ly n.toNat n (T5 (Yn t) [] [] hd),if_neg (by simpa using hr)]
end Go.Ah.Tz
end
section
namespace Go.Ah
mutual
def Rp:aa→aa→Bool
 |.aq,.ax e' n' _ r'=>!e'&&(!n'&&r'.isEmpty)
 |.ax e n s r,.ax e' n' s' r'=>((e || !e')&&(n || !n'))&&(Nat.beq s s'&&K_ r r')
 |.agg a,.agg b=>y0 a b
 |.bool a,.bool b=>a==b
 |.int k a,.int k' b=>jc k k'&&a==b
 |.str a,.str b=>a==b
 |.aq,.aq=>true
 |.ei,.ei=>true
 |_,_=>false
def y0:List aa→List aa→Bool
 |[],[]=>true
 |x::xs,y::ys=>Rp x y&&y0 xs ys
 |_,_=>false
def K_:List (List aa)→List (List aa)→Bool
 |[],[]=>true
 |x::xs,y::ys=>y0 x y&&K_ xs ys
 |_,_=>false
end
def Wk(x y:aa):Prop:=∀(M:Nat→Option Obj) (u:Value),Den M bg x u→Den M bg y u
mutual
theorem TF:∀ {x y:aa},Rp x y=true→Wk x y:=by
  intro x y h
  cases x<;>cases y<;>simp only[Rp,Bool.false_eq_true,Bool.and_eq_true,Bool.not_eq_true',List.isEmpty_iff] at h<;>first
    |(obtain⟨rfl,rfl,rfl⟩:=h; exact λM u d=>d.bC _)
    |(intro M u d; exact d)
    |(rw[eq_of_beq h]; intro M u d; exact d)
    |(rw[eq_of_beq h.2,we h.1]; intro M u d; exact d)
    | (have hk:=Mk h
       intro M u d
       cases d with
       | agg _ _ vs hs hd=>exact .agg _ _ _ (by rw[hs,hk.1]) (λi y v e1 e2=>by
          obtain⟨x,q1,q2⟩:=hk.2 i y e1
          exact q2 M v (hd i x v q1 e2)))
    | (obtain⟨⟨he,hn⟩,hs,hr⟩:=h
       have hs:=e9 hs
       subst hs
       have hk:=Sv hr
       intro M u d
       cases d with
       |ax _ _ _ _ _ a cap aE off f q1 q2 q3 q4 q5 q6 q7 q8=>
         rw[hk.1]
         refine .ax _ _ _ _ _ a cap aE off f (λq=>?_) (λq=>?_) (λq=>q3 (λe=>q ?_)) q4 (by rw[←hk.1]; exact q5) (λi row e=>?_) (λi j hi hj=>q7 i j (by rw[hk.1]; exact hi) hj) (λi row j y e1 e2=>?_)
         · subst q; simp at he; rw[←hk.1]; exact q1 he
         · subst q; simp at hn; exact q2 hn
         · have:=hk.1; rw[e] at this; exact List.length_eq_zero_iff.1 (by simpa using this.symm)
         · obtain⟨r0,p1,p2,_⟩:=hk.2 i row e
           rw[←p2]; exact q6 i r0 p1
         · obtain⟨r0,p1,p2,p3⟩:=hk.2 i row e1
           obtain⟨x,x1,x2⟩:=p3 j y e2
           exact x2 M _ (q8 i r0 j x p1 x1))
theorem Mk:∀ {xs ys:List aa},y0 xs ys=true→xs.length=ys.length∧∀(i:Nat) (y:aa),ys[i]?=some y→∃x,xs[i]?=some x∧Wk x y:=by
  intro xs ys h
  cases xs<;>cases ys<;>simp only[y0,Bool.false_eq_true,Bool.and_eq_true] at h
  · exact⟨rfl,λi y e=>by simp at e⟩
  · rename_i x xs y ys
    have h1:=TF h.1
    have h2:=Mk h.2
    refine⟨by simp[h2.1],λi z e=>?_⟩
    cases i with
    |zero=>simp at e; subst e; exact⟨x,by simp,h1⟩
    |succ i=>simp at e; obtain⟨w,q1,q2⟩:=h2.2 i z e; exact⟨w,by simpa using q1,q2⟩
theorem Sv:∀ {xs ys:List (List aa)},K_ xs ys=true→xs.length=ys.length∧∀(i:Nat) (y:List aa),ys[i]?=some y→∃x,xs[i]?=some x∧x.length=y.length∧∀(j:Nat) (b:aa),y[j]?=some b→∃a,x[j]?=some a∧Wk a b:=by
  intro xs ys h
  cases xs<;>cases ys<;>simp only[K_,Bool.false_eq_true,Bool.and_eq_true] at h
  · exact⟨rfl,λi y e=>by simp at e⟩
  · rename_i x xs y ys
    have h1:=Mk h.1
    have h2:=Sv h.2
    refine⟨by simp[h2.1],λi z e=>?_⟩
    cases i with
    |zero=>simp at e; subst e; exact⟨x,by simp,h1⟩
    |succ i=>simp at e; obtain⟨w,q1,q2⟩:=h2.2 i z e; exact⟨w,by simpa using q1,q2⟩
end
theorem Lc{M:Nat→Option Obj}:∀ {xs ys:List aa} {vs:List Value},y0 xs ys=true→df ⟨M,bg⟩ xs vs→df ⟨M,bg⟩ ys vs
 |[],[],vs,_,d=>d
 |x::xs,y::ys,[],h,d=>d.elim
 |x::xs,y::ys,v::vs,h,d=>by
  simp only[y0,Bool.and_eq_true] at h;exact⟨TF h.1 M v d.1,Lc h.2 d.2⟩
theorem Zcu{P:Program}{GL:aw}{f:FuncId}{xs ys:List aa}{v:aa}(h:dM P GL f ys v)(hw:y0 xs ys=true):dM P GL f xs v:=λw M vs hM hg hx=>h w M vs hM hg (Lc hw hx)
end Go.Ah
end
section
namespace Go.Ah.Tz
open Go.Proofs.Tryz (prog)
set_option maxRecDepth 100000
attribute [local irreducible] ak.rd ak.pu ak.wr ak.dr ak.gr ak.gw ak.gl ak.gd ak.opt aH W
set_option maxHeartbeats 8000000
theorem NL(cs:List Cd)(hf:QE cs=true)(σ:List ab)(K:aa→List ab→Prop)(hK:∀q,(q=false→cs.length≤61∨240<cs.length)→K (.bool q) σ):g11.u VV [fm cs] σ K:=by
 simp only[QE,Bool.and_eq_true,decide_eq_true_eq] at hf;obtain⟨f0,f1⟩:=hf;rw[cO] at f0;have hlen:∀τ,Yp [fm cs] τ=.ok (iv cs.length) [] []:=λτ=>by simp[Zh]
 rw[H1.e]; unfold g11; dsimp only;refine Za (hlen _) ?_;refine Xj (ι:=Nat) (λi vs τ=>(∃a:Int,vs=[iv i,iv a])∧τ=σ∧i≤cs.length∧(61<i→240<cs.length)) (λi=>cs.length-i) 0 ⟨⟨0,rfl⟩,rfl,by omega,by omega⟩ ?_;rintro i vs τ again ⟨⟨a,rfl⟩,rfl,hi,hinv⟩ aZ;refine Za rfl (Zb (λh=>?_) (λh=>?_))
 ·have h:i<cs.length:=by simpa using h
  have yA:f_ cs[i]=true:=List.all_eq_true.1 f1 _ (List.getElem_mem h);have dc:=Zp τ b_ false false 12 cs .i64 i h;generalize cs[i]=c at yA dc;simp only[f_,Bool.and_eq_true] at yA;refine Za dc (Za (an (ov _)) ?_);refine Xb (c110 c yA.2.1 yA.2.2.1 yA.2.2.2) rfl g30.ok.plain rfl (Za (Yj ..) (Za (Z9 ..) ?_));refine zk (λ_=>rfl) (λ_=>rfl) (λ_=>dc) (λ_=>rfl) (λ_=>an (mA _)) (λ_=>rfl) (λ_=>Z9 ..) ?_;have Wx:(61<i+1→240<cs.length)→VV.rd (Qn .add false [iv i,(.int .i64 1)] τ) λBI=>again [BI,iv (IntKind.i64.wrap (a+(min (ee 0 c.ca+ee 0 c.dead+ee 0 c.dJ) 1073741824)))] τ:=by
   intro VW;refine Za (Yj ..) ?_;rw[Qd (n:=i) (by omega)]
   grind
  generalize (_||_:Bool)=q;cases q with
  |true=>
   refine Qa rfl (Qa rfl (Qa rfl ?_));refine Zc rfl (Zc rfl (Zc rfl (Qa rfl (Za rfl ?_))));exact Xc (hK _ (λe=>by cases e))
  |false=>
   refine Ya (Za rfl (Ya (Za (Z9 ..) (Ya (Za rfl ?_)))));rcases aT (decide ((60:Int)<(i:Int))) with KW|KW
   ·rw[KW];refine Ya (Za rfl (Ya (Za (hlen _) (Ya (Za (JN ..) (Ya (Za rfl (Za rfl ?_))))))));exact Zb (λe=>hK _ (λe2=>by cases e2)) (λe=>Wx (λ_=>by simp at e; omega))
   ·rw[KW];refine Qa rfl (Qa rfl (Qa rfl (Ya (Za rfl (Za rfl ?_)))));exact Yd (Wx (λ_=>by simp at KW; omega))
 ·refine Za (hlen _) (Za (Z9 ..) ?_)
  grind
theorem NI(b:Bk)(hf:aS b=true)(σ:List ab)(K:aa→List ab→Prop)(hK:∀q,(q=false→b.af.length≤61∨240<b.af.length)→K (.bool q) (σ++[.box (bU b)])):g4.u VV [dg b] σ K:=by
 simp only[aS,Bool.and_eq_true,decide_eq_true_eq] at hf;obtain⟨f0,f1,f2⟩:=hf;rw[cO] at f1;rw[H1.e]; unfold g4; dsimp only;refine Qb (v:=.ai σ.length 0) (rd:=[]) (up:=[(σ.length,.box (bU b))]) rfl (Yi _ _) ?_;have hB:=Yf σ (.box (bU b));generalize σ.length=n at hB ⊢;generalize σ++[ab.box (bU b)]=τ at hB hK ⊢;refine Za rfl (Za (ld hB rfl) (Za (v:=iv b.av.length) (rd:=[]) (by simp[Zh]) ?_));refine Xj (ι:=Nat) (λi vs τ'=>(∃a:Int,vs=[iv i,iv a])∧τ'=τ∧i≤b.av.length) (λi=>b.av.length-i) 0 ⟨⟨0,rfl⟩,rfl,by omega⟩ ?_;rintro i vs τ' again ⟨⟨a,rfl⟩,rfl,hi⟩ aZ;refine Za rfl (Zb (λh=>?_) (λh=>?_))
 ·have h:i<b.av.length:=by simpa using h
  have dc:=Zp τ' mK false false 7 b.av .i64 i h;generalize b.av[i]=f at dc;refine Za rfl (Za (ld hB rfl) (Za dc (Za rfl (Za (v:=El f.iQ) (rd:=[]) (an rfl) (Za (v:=iv f.iQ.length) (rd:=[]) (by simp[Zh]) (Za (Yj ..) ?_))))));refine Za rfl (Za (ld hB rfl) (Za dc (Za rfl (Za (v:=El f.single) (rd:=[]) (an rfl) (Za (v:=iv f.single.length) (rd:=[]) (by simp[Zh]) (Za (Yj ..) ?_))))));refine Za (Yj ..) (Za (Yj ..) ?_);rw[Qd (n:=i) (by omega)]
  grind
 ·refine Za (Z9 ..) ?_;generalize decide ((600:Int)<a)=q;cases q with
  |true=>
   refine Qa rfl (Qa rfl (Yb rfl (Za rfl ?_)));exact hK _ (λe=>by cases e)
  |false=>
   refine Ya (Za rfl (Ya (Za (ld hB rfl) (Xa ?_))));refine Qg hP rfl g11.ok rfl (NL b.af f0 _ _ (λq hq=>Za rfl ?_));exact hK _ hq
theorem TQ{b:Bk}{s:St}(h:aQ (cE b).1 b s true=true)(k:b.af.length≤61∨240<b.af.length):b.af.length≤61:=by
 rcases k with k|k<;>simp_all [cE,cW,YA]
theorem Zc0{s:St}(h:Qx s=0):0<s.s0.aJ∧0<s.s1.aJ:=by
 grind [Qx]
theorem Av{b:Bk}{t:St}{n:Int}{v:aa}(h:PC 7 [dg b,cf t,sQ [],iv n] v):PC 7 [dg b,cf t,.aq,iv n] v:=by
 intro w M vs hM hg hx
 match vs,hx with
 |[v1,v2,v3,v4],⟨h1,h2,h3,h4,h5⟩=>exact h w M [v1,v2,v3,v4] hM hg ⟨h1,h2,Den.bC 3 h3,h4,h5⟩
theorem q20(h91:PC 6 [] (.bool true))(b:Bk)(hf:aS b=true)(bN:Zj b.af)(s:St)(hs:bu 2000000 s)(row:List Tr)(fu:Int)(dT:row.length≤1000000000) :
  PC 3 [dg b,cf s,sQ row,iv fu] (.bool true):=by
 have pK:bu 1000000000 s:=hs.mono (by decide);have h67:=c67 b hf;refine Yc hP g3.ok rfl rfl ?_;rw[H4.e]; unfold g3; dsimp only;refine Qb (v:=.ai 0 0) (rd:=[]) (up:=[(0,.box (bU b))]) rfl (Yi [] _) ?_;refine Qb (v:=.ai 1 0) (rd:=[]) (up:=[(1,.box (aD s))]) rfl (Yi [ab.box (bU b)] _) ?_;refine Za (v:=dg b) (ld (row:=bU b) rfl rfl) (Qg hP rfl g4.ok rfl (NI b hf _ _ (λq hq=>?_)));obtain⟨σ,eσ⟩:∃σ:List ab,[ab.box (bU b)]++[ab.box (aD s)]++[ab.box (bU b)]=σ:=⟨_,rfl⟩;rw[eσ];have b1:ah σ 0=.box (bU b):=by rw[←eσ]; rfl
 have s1:ah σ 1=.box (aD s):=by rw[←eσ]; rfl
 have hl:σ.length=3:=by rw[←eσ]; rfl
 clear eσ;refine Zc7 (d:=decide (2000<sm s)) (v1:=cf s) (λ_=>ld s1 rfl) (λ_ k hk=>Xb (NJ s hs) rfl g5.ok.plain rfl hk) ?_;refine sq (d:=decide ((row.length:Int)>60)) (v1:=sQ row) (v2:=iv row.length) (q2:=[]) (λ_=>rfl) (λ_=>by simp[Yp]) (λ_=>rfl) ?_;refine Zb (λ_=>Xb h91 rfl g6.ok.plain rfl rfl) (λhg=>?_);simp only[Bool.or_eq_false_iff,decide_eq_false_iff_not] at hg;obtain⟨⟨V9,dU⟩,hlen⟩:=hg;have GH:=hq V9;clear hq V9;have hF:0≤min (max fu 0) 60∧min (max fu 0) 60≤60:=by omega
 refine Za (v:=iv (max fu 0)) (X6 ..) (Za (v:=iv (min (max fu 0) 60)) (ZM ..) ?_);generalize min (max fu 0) 60=F at *;have hT:TB 2000 s:=by unfold sm at dU; exact⟨by omega,by omega⟩
 have hC:Zo s≤((2000:Nat):Int):=by grind [sm,Zo]
 have ny:YC F=F:=by unfold YC; omega
 have h92:=q92 b s hf bN (λh=>TQ h GH) pK row F 2000 2000 hT hC (by rw[ny]; omega) (by rw[ny]; omega);refine Za (v:=dg b) (ld b1 rfl) (Za (v:=cf s) (ld s1 rfl) (Xb h92 rfl g7.ok.plain rfl (Za rfl (Za rfl (Za rfl (Za rfl ?_))))));have qW:=WM (b:=b) (s:=s) (row:=row) (fu:=F) hT hC (by omega) (by omega) (by omega);generalize dz b s row F=R at *;obtain⟨e,t,l,n⟩:=R;refine Xq (row:=aD t) (row':=aD t) rfl rfl rfl ?_;have b2:=Xd [ab.box (aD t)] b1 (by simp);have t2:=Yf σ (.box (aD t));rw[hl] at t2 ⊢;generalize σ++[ab.box (aD t)]=τ at *;refine Za (XZ ..) (Zb (λ_=>Xb h91 rfl g6.ok.plain rfl rfl) (λhe=>?_));have he:e=0:=by simpa using he
 obtain⟨gK,hS,jK,wW,hw,D',Pl⟩:=qW he;have hS:di b (2000+12000*(F-n).toNat) (2000+200*(F-n).toNat) t:=hS;have jK:0≤n:=jK;have wW:n≤F:=wW;have hw:(cU l:Int)≤F-n:=hw;have Pl:t.phase=2∨(aN b t=[]∧Qx t=0):=Pl;have hm:=YA.2 ⟨gK,hS.may⟩;refine Za (v:=dg b) (ld b2 rfl) (Za (v:=cf t) (ld t2 rfl) (Xb (c25 b t hS.ta true _ _ h67) rfl g8.ok.plain rfl (Za rfl ?_)));rw[hm];refine XQ (d:=decide (n<0)) (v1:=iv n) (λ_=>rfl) (λ_=>rfl) ?_;refine sq (d:=decide (n>F)) (v1:=iv n) (v2:=iv F) (λ_=>rfl) (λ_=>rfl) (λ_=>rfl) ?_;rw[show ((!true||decide (n<0))||decide (n>F))=false by simp; omega];have D':l.length≤13000*(F.toNat+1):=D';have D':l.length≤1000000000:=by omega
 refine Yd (Za (v:=iv l.length) (rd:=[]) (by simp[Yp]) ?_);refine Xj (ι:=Nat) (λi vs υ=>vs=[iv i,iv (cU (l.take i))]∧i≤l.length∧υ=τ) (λi=>l.length-i) 0 ⟨rfl,by omega,rfl⟩ ?_;rintro i _ υ again ⟨rfl,hi,rfl⟩ aZ;refine Za (v:=.bool (decide ((i:Int)<l.length))) rfl (Zb (λh=>?_) (λh=>?_))
 ·have h:i<l.length:=by simpa using h
  refine Qh λk39 ek=>?_;refine Za (Zp _ eP false false 7 l .i64 i h) ?_;have jb:=Yv l i h;generalize l[i]=e at *;have K1:cU (l.take (i+1))=cU (l.take i)+(if e.kind=14 then 1 else 0):=by rw[jb,QQ]; simp[cU]
  have hwb:cU (l.take i)≤i:=by
   have:∀m:List Ev,cU m≤m.length:=by
    intro m; induction m<;>grind [cU]
   grind
  refine Za rfl (Za (v:=ar e.kind) (an rfl) (Za (Zf ..) (Zb (λhk=>?_) (λhk=>?_))))
  ·have hk:e.kind=14:=by simpa using hk
   rw[if_pos hk] at K1;refine Za (Yj ..) ?_;rw[ek];refine Za (Yj ..) ?_;rw[Qd (n:=i) (by omega),Qd (n:=cU (l.take i)) (by omega)];exact aZ (i+1) _ _ (by omega) ⟨by rw[K1]; rfl,by omega,rfl⟩
  ·have hk:¬e.kind=14:=by simpa using hk
   rw[if_neg hk] at K1;rw[ek];refine Za (Yj ..) ?_;rw[Qd (n:=i) (by omega)];exact aZ (i+1) _ _ (by omega) ⟨by rw[K1]; rfl,by omega,rfl⟩
 ·have h:i=l.length:=by simp at h; omega
  subst h;rw[List.take_length];clear aZ;refine Za (sV ..) ?_;rw[IntWalk.i64_in _ (by omega)];refine Za (v:=.bool (decide ((cU l:Int)>F-n))) rfl ?_;rw[decide_eq_false (by omega)];refine Yd (Za rfl (Za (v:=ar t.phase) (ld t2 rfl) (Za (Zf ..) (Zb (λ_=>Xb h91 rfl g6.ok.plain rfl rfl) (λhp=>?_)))));have hp:t.phase≠2:=by simpa using hp
  obtain⟨hd,V'⟩:=Pl.resolve_left hp;obtain⟨lf0,lf1⟩:=Zc0 V';have h95:=q95 b t hS.le hm h67;rw[hd] at h95;refine Za (v:=dg b) (ld b2 rfl) (Za (v:=cf t) (ld t2 rfl) (Xb h95 rfl g9.ok.plain rfl ?_));refine Za (v:=iv 0) (rd:=[]) rfl (Za (v:=.bool false) rfl ?_);refine zq (d:=decide (t.s0.aJ≤0)) (v1:=.ai 3 7) (v2:=.ai 3 7) (v3:=.ai 3 7) (v4:=iv t.s0.aJ) (λ_=>rfl) (λ_=>rfl) (λ_=>rfl) (λ_=>ld t2 rfl) (λ_=>rfl) ?_;refine zq (d:=decide (t.s1.aJ≤0)) (v1:=.ai 3 7) (v2:=.ai 3 15) (v3:=.ai 3 15) (v4:=iv t.s1.aJ) (λ_=>rfl) (λ_=>rfl) (λ_=>rfl) (λ_=>ld t2 rfl) (λ_=>rfl) ?_;rw[show ((false||decide (t.s0.aJ≤0))||decide (t.s1.aJ≤0))=false by simp; omega];have Gy:YC n=n:=by unfold YC; omega
  have Gg:=Av (q92 b t hf bN (λh=>TQ h GH) hS.ta [] n (2000+12000*(F-n).toNat) (2000+200*(F-n).toNat) hS.told hS.af (by rw[Gy]; omega) (by rw[Gy]; omega));rw[Qcu gK hS.may (by omega) hp hd V'] at Gg;refine Yd (Za (v:=dg b) (ld b2 rfl) (Za (v:=cf t) (ld t2 rfl) (Xb Gg rfl g7.ok.plain rfl (Za rfl (Za rfl (Za rfl (Za rfl ?_)))))));refine Xq (row:=aD t) (row':=aD t) rfl rfl rfl ?_;have t3:=Xd [ab.box (aD t)] t2 (by simp);have u3:=Yf υ (.box (aD t));generalize υ.length=xb at *;generalize υ++[ab.box (aD t)]=υ3 at *;refine Za (v:=.bool true) rfl ?_;refine VA (d:=decide (n=n)) (v1:=iv n) (v2:=iv n) (λ_=>rfl) (λ_=>rfl) (λ_=>Zf ..) ?_;refine VA (d:=true) (v1:=.ax false false 7 (([]:List Ev).map eP)) (v2:=iv 0) (q2:=[]) (λ_=>rfl) (λ_=>rfl) (λ_=>rfl) ?_;refine Yc5 (d:=true) (v1:=cf t) (v2:=cf t) (λ_=>ld t3 rfl) (λ_=>ld u3 rfl) (λ_ k hk=>Xb (NK t hS.ta) rfl g10.ok.plain rfl hk) ?_;refine Zc5 (d:=true) (λ_ k hk=>Xb h91 rfl g6.ok.plain rfl hk) ?_;show aa.bool _=_;simp
end Go.Ah.Tz
end
section
namespace Go.Ah.Tz
open Go.Proofs.Tryz (prog)
open Go.Proofs.YtjdgnfkcaccidaaGreatDoor.Rows (uptoBulk uptoBulkAll)
variable {H:Type}
theorem ZZ(b:List UInt8):uptoBulk (DataW.lit (H:=H) (.string b))=b.length+1:=by simp only[uptoBulk]
theorem ZV(ds:List (DataW H)):uptoBulk (.agg ds)=uptoBulkAll ds+1:=by simp only[uptoBulk]
theorem ZdA(es sp:List (DataW H)):uptoBulk (.slice es sp)=uptoBulkAll es+uptoBulkAll sp+1:=by simp only[uptoBulk]
theorem XD(d:DataW H)(ds:List (DataW H)):uptoBulkAll (d::ds)=uptoBulk d+uptoBulkAll ds:=by simp only[uptoBulkAll]
theorem Qdf(d:DataW H):1≤uptoBulk d:=by
 cases d with
 |lit l=>cases l<;>simp[uptoBulk]
 |_=>simp[uptoBulk]
def Zv(P:Program)(t:TypeId):Option (List TypeId):=match P.underlying t with
 |some (.struct fs)=>some (fs.toList.map (·.type))
 |_=>none
theorem YO{P:Program}{fuel:Nat}{t:TypeId}{xs:List aa}{d:DataW H}{ts:List TypeId}(h:Typed P fuel t xs d)(hs:Zv P t=some ts):∃f parts ds,fuel=f+1∧xs=parts.flatten∧d=.agg ds∧vV (Typed P f) ts parts ds:=by
 cases fuel with
 |zero=>exact h.elim
 |succ f=>
  unfold Typed at h;unfold Zv at hs;split at hs
  ·rename_i fs e;rw[e] at h;cases hs;obtain⟨parts,ds,h1,h2,h3⟩:=h;exact⟨f,parts,ds,rfl,h1,h2,h3⟩
  ·cases hs
theorem Qz{P:Program}{fuel:Nat}{t:TypeId}{xs:List aa}{d:DataW H}{k:IntKind}(h:Typed P fuel t xs d)(hu:P.underlying t=some (.int k)):∃n,xs=[.int k n]∧(Lit.int k n).wf=true∧d=.lit (.int k n):=by
 cases fuel with
 |zero=>exact h.elim
 |succ f=>unfold Typed at h; rw[hu] at h; exact h
theorem J4{P:Program}{fuel:Nat}{t:TypeId}{xs:List aa}{d:DataW H}(h:Typed P fuel t xs d)(hu:P.underlying t=some .bool):∃b,xs=[.bool b]∧d=.lit (.bool b):=by
 cases fuel with
 |zero=>exact h.elim
 |succ f=>unfold Typed at h; rw[hu] at h; exact h
theorem E2{P:Program}{fuel:Nat}{t:TypeId}{xs:List aa}{d:DataW H}(h:Typed P fuel t xs d)(hu:P.underlying t=some .string):∃s,xs=[.str s]∧d=.lit (.string s):=by
 cases fuel with
 |zero=>exact h.elim
 |succ f=>unfold Typed at h; rw[hu] at h; exact h
theorem U8{P:Program}{fuel:Nat}{e:TypeId}{X:Type}(Dt:X→List aa)(m:X→Nat)(Q:X→Prop){B:Nat}(hx:∀xs (d:DataW H),Typed P fuel e xs d→uptoBulk d≤B→∃x,xs=Dt x∧Q x∧m x≤uptoBulk d) :
  ∀ {rows:List (List aa)} {es:List (DataW H)},qm (Typed P fuel e) rows es→uptoBulkAll es≤B→∃l:List X,rows=l.map Dt∧(∀x∈l,Q x)∧(l.map m).sum≤uptoBulkAll es∧l.length≤uptoBulkAll es
 |[],[],_,_=>⟨[],rfl,by simp,by simp,by simp⟩
 |r::rows,d::es,h,hb=>by
  rw[XD] at hb;obtain⟨x,e1,q1,m1⟩:=hx r d h.1 (by omega);obtain⟨l,e2,q2,s2,l2⟩:=U8 Dt m Q hx h.2 (by omega);refine⟨x::l,by rw[e1,e2]; rfl,λy hy=>?_,?_,?_⟩
  ·rcases List.mem_cons.1 hy with rfl|hy
   ·exact q1
   ·exact q2 y hy
  ·rw[List.map_cons,List.sum_cons,XD]; omega
  ·have:=Qdf d;rw[List.length_cons,XD]; omega
 |[],_::_,h,_=>h.elim
 |_::_,[],h,_=>h.elim
theorem XL{P:Program}{fuel:Nat}{t e:TypeId}{n:Nat}{xs:List aa}{d:DataW H}{X:Type}(Dt:X→List aa)(m:X→Nat)(Q:X→Prop){B:Nat}(h:Typed P fuel t xs d)(hu:P.underlying t=some (.slice e))(hn:P.cellsOf e=n)
 (hx:∀f,f<fuel→∀xs (d:DataW H),Typed P f e xs d→uptoBulk d≤B→∃x,xs=Dt x∧Q x∧m x≤uptoBulk d)(hb:uptoBulk d≤B) :
  ∃l:List X,xs=[.ax false false n (l.map Dt)]∧(∀x∈l,Q x)∧(l.map m).sum≤uptoBulk d∧l.length≤uptoBulk d:=by
 cases fuel with
 |zero=>exact h.elim
 |succ f=>
  unfold Typed at h;rw[hu] at h;subst hn;obtain⟨rows,rfl,⟨rfl,rfl⟩|⟨es,sp,rfl,h2⟩⟩:=h
  ·exact⟨[],rfl,by simp,by simp,by simp⟩
  ·rw[ZdA] at hb ⊢;obtain⟨l,rfl,q,s,k⟩:=U8 Dt m Q (hx f (by omega)) h2 (by omega);exact⟨l,rfl,q,by omega,by omega⟩
theorem QdM{P:Program}{fuel:Nat}{t e:TypeId}{xs:List aa}{d:DataW H}(h:Typed P fuel t xs d)(hu:P.underlying t=some (.array 2 e)):∃f p q a b,fuel=f+1∧xs=p++q∧d=.agg [a,b]∧Typed P f e p a∧Typed P f e q b:=by
 cases fuel with
 |zero=>exact h.elim
 |succ f=>
  unfold Typed at h;rw[hu] at h;obtain⟨parts,ds,rfl,rfl,hl,h2⟩:=h
  match parts,hl,h2 with
  |[p,q],_,h2=>
   obtain⟨a,ds,rfl,ha,h2⟩:=h2.cons;obtain⟨b,ds,rfl,hb,h2⟩:=h2.cons
   match ds,h2 with
   |[],_=>exact⟨f,p,q,a,b,rfl,by simp,rfl,ha,hb⟩
theorem Ro{n:Int}(h:(Lit.int .i8 n).wf=true):yO n=true:=by
 have h1:IntKind.i8.min = -128:=by decide
 have h2:IntKind.i8.max=127:=by decide
 simp only[Lit.wf,h1,h2] at h;exact h
theorem Rn{n:Int}(h:(Lit.int .i64 n).wf=true):Am n=true:=by
 have h1:IntKind.i64.min = -9223372036854775808:=by decide
 have h2:IntKind.i64.max=9223372036854775807:=by decide
 simp only[Lit.wf,h1,h2] at h;exact h
theorem UT{l:List Nm}(h:∀x∈l,cQ x=true):wi l=true:=by
 induction l with
 |nil=>rfl
 |cons x l ih=>simp only[wi,Bool.and_eq_true]; exact⟨h x (List.mem_cons_self ..),ih λy hy=>h y (List.mem_cons_of_mem _ hy)⟩
theorem ZcL{l:List Cn}(h:∀x∈l,cz x=true):y9 l=true:=by
 induction l with
 |nil=>rfl
 |cons x l ih=>simp only[y9,Bool.and_eq_true]; exact⟨h x (List.mem_cons_self ..),ih λy hy=>h y (List.mem_cons_of_mem _ hy)⟩
theorem Ld{l:List Ef}(h:∀x∈l,dk x=true):vn l=true:=by
 induction l with
 |nil=>rfl
 |cons x l ih=>simp only[vn,Bool.and_eq_true]; exact⟨h x (List.mem_cons_self ..),ih λy hy=>h y (List.mem_cons_of_mem _ hy)⟩
theorem Nh:∀l:List Nm,(nd l).length=(l.map λx=>(o8 x).length).sum
 |[]=>rfl
 |x::l=>by simp only[nd,List.length_append,List.map_cons,List.sum_cons,Nh l]
theorem Uh:∀l:List Cn,(ow l).length=(l.map λx=>(qJ x).length).sum
 |[]=>rfl
 |x::l=>by simp only[ow,List.length_append,List.map_cons,List.sum_cons,Uh l]
theorem Kd:∀l:List Ef,(bS l).length=(l.map λx=>(jk x).length).sum
 |[]=>rfl
 |x::l=>by simp only[bS,List.length_append,List.map_cons,List.sum_cons,Kd l]
theorem iZ{n k:Nat}(h:n≤k)(hk:k≤1048576):decide (n≤gp)=true:=decide_eq_true (Nat.le_trans h (Nat.le_trans hk (by decide)))
abbrev vp:TypeId:=26
abbrev QI:TypeId:=3
abbrev zi:TypeId:=4
abbrev wq:TypeId:=9
abbrev DX:TypeId:=137
abbrev Jq:TypeId:=135
abbrev D3:TypeId:=140
abbrev MU:TypeId:=138
abbrev EC:TypeId:=142
abbrev xO:TypeId:=68
abbrev EM:TypeId:=76
abbrev Ns:TypeId:=22
abbrev Fp:TypeId:=50
abbrev Mi:TypeId:=23
abbrev Kt:TypeId:=48
abbrev tv:TypeId:=25
abbrev EN:TypeId:=57
abbrev Nt:TypeId:=28
abbrev xS:TypeId:=27
abbrev JL:TypeId:=30
abbrev LH:TypeId:=31
abbrev tq:TypeId:=33
theorem xQ:prog.underlying vp=some (.int .i8):=by kernel_rfl
theorem YY:prog.underlying QI=some (.int .i64):=by kernel_rfl
theorem DW:prog.underlying zi=some .bool:=by kernel_rfl
theorem E4:prog.underlying wq=some .string:=by kernel_rfl
theorem Tu:prog.underlying Jq=some (.slice DX):=by kernel_rfl
theorem IQ:prog.underlying MU=some (.slice D3):=by kernel_rfl
theorem Nu:prog.underlying xO=some (.slice EC):=by kernel_rfl
theorem IP:prog.underlying Ns=some (.slice EM):=by kernel_rfl
theorem IU:prog.underlying Mi=some (.slice Fp):=by kernel_rfl
theorem Vt:prog.underlying Kt=some (.slice wq):=by kernel_rfl
theorem IW:prog.underlying Nt=some (.slice EN):=by kernel_rfl
theorem Yd4:prog.underlying xS=some (.slice QI):=by kernel_rfl
theorem IV:prog.underlying LH=some (.array 2 JL):=by kernel_rfl
theorem HI:prog.cellsOf DX=4:=by kernel_rfl
theorem PT:prog.cellsOf D3=5:=by kernel_rfl
theorem Aq:prog.cellsOf EC=14:=by kernel_rfl
theorem PS:prog.cellsOf EM=12:=by kernel_rfl
theorem PU:prog.cellsOf Fp=7:=by kernel_rfl
theorem Uz:prog.cellsOf wq=1:=by kernel_rfl
theorem PV:prog.cellsOf EN=4:=by kernel_rfl
theorem HH:prog.cellsOf QI=1:=by kernel_rfl
theorem P':Zv prog DX=some [vp,QI,vp,Jq]:=by kernel_rfl
theorem P8:Zv prog D3=some [vp,vp,wq,Jq,MU]:=by kernel_rfl
theorem P9:Zv prog EC=some [vp,vp,DX,wq,D3,xO,xO]:=by kernel_rfl
theorem P7:Zv prog EM=some [wq,zi,QI,QI,QI,QI,QI,QI,xO,xO,xO,QI]:=by kernel_rfl
theorem P_:Zv prog Fp=some [wq,QI,QI,QI,Kt,Kt,QI]:=by kernel_rfl
theorem HX:Zv prog tv=some [Ns,Mi]:=by kernel_rfl
theorem Ra:Zv prog EN=some [QI,QI,QI,zi]:=by kernel_rfl
theorem Q_:Zv prog JL=some [QI,QI,QI,xS,xS,xS,Nt,xS]:=by kernel_rfl
theorem HY:Zv prog tq=some [QI,QI,vp,zi,vp,xS,QI,LH]:=by kernel_rfl
theorem Uw(fuel:Nat):∀xs (d:DataW H),Typed prog fuel DX xs d→uptoBulk d≤1048576→∃x,xs=ba x∧cQ x=true∧(o8 x).length≤uptoBulk d:=by
 induction fuel using Nat.strongRecOn with
 |_ fuel ih=>
 intro xs d h hb;obtain⟨f,parts,ds,rfl,rfl,rfl,r⟩:=YO h P';obtain⟨p0,parts,d0,ds,rfl,rfl,h0,r⟩:=r.cons;obtain⟨p1,parts,d1,ds,rfl,rfl,h1,r⟩:=r.cons;obtain⟨p2,parts,d2,ds,rfl,rfl,h2,r⟩:=r.cons;obtain⟨p3,parts,d3,ds,rfl,rfl,h3,r⟩:=r.cons;obtain⟨rfl,rfl⟩:=r.nil;obtain⟨v0,rfl,w0,rfl⟩:=Qz h0 xQ;obtain⟨v1,rfl,w1,rfl⟩:=Qz h1 YY;obtain⟨v2,rfl,w2,rfl⟩:=Qz h2 xQ;simp only[ZV,XD,ZZ] at hb ⊢;obtain⟨l,rfl,q,s,k⟩:=XL ba (λx=>(o8 x).length) (λx=>cQ x=true) h3 Tu HI (λf' hf=>ih f' (by omega)) (show uptoBulk d3≤1048576 by omega);refine⟨.mk v0 v1 v2 l,by rw[XI]; rfl,?_,?_⟩
 ·simp only[cQ,iZ k (show uptoBulk d3≤1048576 by omega),UT q,Ro w0,Rn w1,Bool.and_self]
 ·simp only[o8,List.length_cons,Nh]; omega
theorem IG(fuel:Nat):∀xs (d:DataW H),Typed prog fuel D3 xs d→uptoBulk d≤1048576→∃x,xs=cG x∧cz x=true∧(qJ x).length≤uptoBulk d:=by
 induction fuel using Nat.strongRecOn with
 |_ fuel ih=>
 intro xs d h hb;obtain⟨f,parts,ds,rfl,rfl,rfl,r⟩:=YO h P8;obtain⟨p0,parts,d0,ds,rfl,rfl,h0,r⟩:=r.cons;obtain⟨p1,parts,d1,ds,rfl,rfl,h1,r⟩:=r.cons;obtain⟨p2,parts,d2,ds,rfl,rfl,h2,r⟩:=r.cons;obtain⟨p3,parts,d3,ds,rfl,rfl,h3,r⟩:=r.cons;obtain⟨p4,parts,d4,ds,rfl,rfl,h4,r⟩:=r.cons;obtain⟨rfl,rfl⟩:=r.nil;obtain⟨v0,rfl,w0,rfl⟩:=Qz h0 xQ;obtain⟨v1,rfl,w1,rfl⟩:=Qz h1 xQ;obtain⟨v2,rfl,rfl⟩:=E2 h2 E4;simp only[ZV,XD,ZZ] at hb ⊢;obtain⟨l,rfl,q,s,k⟩:=XL ba (λx=>(o8 x).length) (λx=>cQ x=true) h3 Tu HI (λf' _=>Uw f') (show uptoBulk d3≤1048576 by omega);obtain⟨l2,rfl,q2,s2,k2⟩:=XL cG (λx=>(qJ x).length) (λx=>cz x=true) h4 IQ PT (λf' hf=>ih f' (by omega)) (show uptoBulk d4≤1048576 by omega);refine⟨.mk v0 v1 v2 l l2,by rw[YQ]; rfl,?_,?_⟩
 ·simp only[cz,iZ k (show uptoBulk d3≤1048576 by omega),UT q,iZ k2 (show uptoBulk d4≤1048576 by omega),ZcL q2,Ro w0,Bool.and_self]
 ·simp only[qJ,List.length_cons,List.length_append,Nh,Uh]; omega
theorem II(fuel:Nat):∀xs (d:DataW H),Typed prog fuel EC xs d→uptoBulk d≤1048576→∃x,xs=aM x∧dk x=true∧(jk x).length≤uptoBulk d:=by
 induction fuel using Nat.strongRecOn with
 |_ fuel ih=>
 intro xs d h hb;obtain⟨f,parts,ds,rfl,rfl,rfl,r⟩:=YO h P9;obtain⟨p0,parts,d0,ds,rfl,rfl,h0,r⟩:=r.cons;obtain⟨p1,parts,d1,ds,rfl,rfl,h1,r⟩:=r.cons;obtain⟨p2,parts,d2,ds,rfl,rfl,h2,r⟩:=r.cons;obtain⟨p3,parts,d3,ds,rfl,rfl,h3,r⟩:=r.cons;obtain⟨p4,parts,d4,ds,rfl,rfl,h4,r⟩:=r.cons;obtain⟨p5,parts,d5,ds,rfl,rfl,h5,r⟩:=r.cons;obtain⟨p6,parts,d6,ds,rfl,rfl,h6,r⟩:=r.cons;obtain⟨rfl,rfl⟩:=r.nil;obtain⟨v0,rfl,w0,rfl⟩:=Qz h0 xQ;obtain⟨v1,rfl,w1,rfl⟩:=Qz h1 xQ;obtain⟨v3,rfl,rfl⟩:=E2 h3 E4;simp only[ZV,XD,ZZ] at hb ⊢;obtain⟨n,rfl,qn,kn⟩:=Uw _ _ _ h2 (by omega);obtain⟨c,rfl,qc,kc⟩:=IG _ _ _ h4 (by omega);obtain⟨l,rfl,q,s,k⟩:=XL aM (λx=>(jk x).length) (λx=>dk x=true) h5 Nu Aq (λf' hf=>ih f' (by omega)) (show uptoBulk d5≤1048576 by omega);obtain⟨l2,rfl,q2,s2,k2⟩:=XL aM (λx=>(jk x).length) (λx=>dk x=true) h6 Nu Aq (λf' hf=>ih f' (by omega)) (show uptoBulk d6≤1048576 by omega);refine⟨.mk v0 v1 n v3 c l l2,by rw[XC,XI,YQ]; rfl,?_,?_⟩
 ·simp only[dk,qn,qc,iZ k (show uptoBulk d5≤1048576 by omega),Ld q,iZ k2 (show uptoBulk d6≤1048576 by omega),Ld q2,Ro w0,Bool.and_self]
 ·have e1:(if bd v0 then o8 n else []).length≤(o8 n).length:=by split<;>simp
  have e2:(if v0=8 then qJ c++(bS l++bS l2) else []).length≤(qJ c).length+(bS l).length+(bS l2).length:=by
   split
   ·simp only[List.length_append]; omega
   ·simp
  rw[Kd,Kd] at e2;simp only[jk,List.length_cons,List.length_append];omega
theorem LD{fuel:Nat}{xs:List aa}{d:DataW H}(h:Typed prog fuel xO xs d)(hb:uptoBulk d≤1048576):∃l,xs=[ic l]∧bG l=true∧(bS l).length≤uptoBulk d:=by
 obtain⟨l,rfl,q,s,k⟩:=XL aM (λx=>(jk x).length) (λx=>dk x=true) h Nu Aq (λf' _=>II f') hb;exact⟨l,rfl,by simp only[bG,iZ k hb,Ld q,Bool.and_self],by rw[Kd]; exact s⟩
theorem IF(fuel:Nat)(xs:List aa)(d:DataW H)(h:Typed prog fuel EM xs d)(hb:uptoBulk d≤1048576):∃x,xs=b_ x∧(f_ x=true∧(oW x).length≤1048576)∧0≤uptoBulk d:=by
 obtain⟨f,parts,ds,rfl,rfl,rfl,r⟩:=YO h P7;obtain⟨p0,parts,d0,ds,rfl,rfl,h0,r⟩:=r.cons;obtain⟨p1,parts,d1,ds,rfl,rfl,h1,r⟩:=r.cons;obtain⟨p2,parts,d2,ds,rfl,rfl,h2,r⟩:=r.cons;obtain⟨p3,parts,d3,ds,rfl,rfl,h3,r⟩:=r.cons;obtain⟨p4,parts,d4,ds,rfl,rfl,h4,r⟩:=r.cons;obtain⟨p5,parts,d5,ds,rfl,rfl,h5,r⟩:=r.cons;obtain⟨p6,parts,d6,ds,rfl,rfl,h6,r⟩:=r.cons;obtain⟨p7,parts,d7,ds,rfl,rfl,h7,r⟩:=r.cons;obtain⟨p8,parts,d8,ds,rfl,rfl,h8,r⟩:=r.cons;obtain⟨p9,parts,d9,ds,rfl,rfl,h9,r⟩:=r.cons;obtain⟨p10,parts,d10,ds,rfl,rfl,h10,r⟩:=r.cons;obtain⟨p11,parts,d11,ds,rfl,rfl,h11,r⟩:=r.cons;obtain⟨rfl,rfl⟩:=r.nil;obtain⟨v0,rfl,rfl⟩:=E2 h0 E4;obtain⟨v1,rfl,rfl⟩:=J4 h1 DW;obtain⟨v2,rfl,w2,rfl⟩:=Qz h2 YY;obtain⟨v3,rfl,w3,rfl⟩:=Qz h3 YY;obtain⟨v4,rfl,w4,rfl⟩:=Qz h4 YY;obtain⟨v5,rfl,w5,rfl⟩:=Qz h5 YY;obtain⟨v6,rfl,w6,rfl⟩:=Qz h6 YY;obtain⟨v7,rfl,w7,rfl⟩:=Qz h7 YY;obtain⟨v11,rfl,w11,rfl⟩:=Qz h11 YY;simp only[ZV,XD,ZZ] at hb ⊢;obtain⟨a,rfl,qa,ka⟩:=LD h8 (by omega);obtain⟨b,rfl,qb,kb⟩:=LD h9 (by omega);obtain⟨c,rfl,qc,kc⟩:=LD h10 (by omega);refine⟨⟨v0,v1,v2,v3,v4,v5,v6,v7,a,b,c,v11⟩,rfl,⟨?_,?_⟩,by omega⟩
 ·simp only[f_,iZ (Nat.le_refl v0.length) (by omega),qa,qb,qc,Bool.and_self]
 ·simp only[oW,List.length_append]; omega
theorem Vs(fuel:Nat)(xs:List aa)(d:DataW H)(h:Typed prog fuel wq xs d)(_:uptoBulk d≤1048576):∃x,xs=sR x∧True∧0≤uptoBulk d:=by
 obtain⟨s,rfl,rfl⟩:=E2 h E4;exact⟨s,rfl,trivial,by omega⟩
theorem IJ(fuel:Nat)(xs:List aa)(d:DataW H)(h:Typed prog fuel Fp xs d)(hb:uptoBulk d≤1048576):∃x,xs=mK x∧mL x=true∧0≤uptoBulk d:=by
 obtain⟨f,parts,ds,rfl,rfl,rfl,r⟩:=YO h P_;obtain⟨p0,parts,d0,ds,rfl,rfl,h0,r⟩:=r.cons;obtain⟨p1,parts,d1,ds,rfl,rfl,h1,r⟩:=r.cons;obtain⟨p2,parts,d2,ds,rfl,rfl,h2,r⟩:=r.cons;obtain⟨p3,parts,d3,ds,rfl,rfl,h3,r⟩:=r.cons;obtain⟨p4,parts,d4,ds,rfl,rfl,h4,r⟩:=r.cons;obtain⟨p5,parts,d5,ds,rfl,rfl,h5,r⟩:=r.cons;obtain⟨p6,parts,d6,ds,rfl,rfl,h6,r⟩:=r.cons;obtain⟨rfl,rfl⟩:=r.nil;obtain⟨v0,rfl,rfl⟩:=E2 h0 E4;obtain⟨v1,rfl,w1,rfl⟩:=Qz h1 YY;obtain⟨v2,rfl,w2,rfl⟩:=Qz h2 YY;obtain⟨v3,rfl,w3,rfl⟩:=Qz h3 YY;obtain⟨v6,rfl,w6,rfl⟩:=Qz h6 YY;simp only[ZV,XD,ZZ] at hb ⊢;obtain⟨a,rfl,_,_,ka⟩:=XL sR (λ_=>0) (λ_=>True) h4 Vt Uz (λf' _=>Vs f') (show uptoBulk d4≤1048576 by omega);obtain⟨b,rfl,_,_,kb⟩:=XL sR (λ_=>0) (λ_=>True) h5 Vt Uz (λf' _=>Vs f') (show uptoBulk d5≤1048576 by omega);refine⟨⟨v0,v1,v2,v3,a,b,v6⟩,rfl,?_,by omega⟩;simp only[mL,iZ (Nat.le_refl v0.length) (by omega),iZ ka (show uptoBulk d4≤1048576 by omega),iZ kb (show uptoBulk d5≤1048576 by omega),Bool.and_self]
theorem IE{fuel:Nat}{xs:List aa}{d:DataW H}(h:Typed prog fuel tv xs d)(hb:uptoBulk d≤1048576):∃x,xs=bU x∧aS x=true∧Zj x.af:=by
 obtain⟨f,parts,ds,rfl,rfl,rfl,r⟩:=YO h HX;obtain⟨p0,parts,d0,ds,rfl,rfl,h0,r⟩:=r.cons;obtain⟨p1,parts,d1,ds,rfl,rfl,h1,r⟩:=r.cons;obtain⟨rfl,rfl⟩:=r.nil;simp only[ZV,XD,ZZ] at hb ⊢;obtain⟨a,rfl,q,_,k⟩:=XL b_ (λ_=>0) (λx=>f_ x=true∧(oW x).length≤1048576) h0 IP PS (λf' _=>IF f') (show uptoBulk d0≤1048576 by omega);obtain⟨b,rfl,q2,_,k2⟩:=XL mK (λ_=>0) (λx=>mL x=true) h1 IU PU (λf' _=>IJ f') (show uptoBulk d1≤1048576 by omega);refine⟨⟨a,b⟩,rfl,?_,λc hc=>Nat.le_trans (q c hc).2 (by decide)⟩;simp only[aS,QE,iZ k (show uptoBulk d0≤1048576 by omega),iZ k2 (show uptoBulk d1≤1048576 by omega),Bool.true_and,Bool.and_eq_true,List.all_eq_true];exact⟨λc hc=>(q c hc).1,q2⟩
theorem IL(fuel:Nat)(xs:List aa)(d:DataW H)(h:Typed prog fuel EN xs d)(hb:uptoBulk d≤1048576):∃x,xs=aP x∧True∧0≤uptoBulk d:=by
 obtain⟨f,parts,ds,rfl,rfl,rfl,r⟩:=YO h Ra;obtain⟨p0,parts,d0,ds,rfl,rfl,h0,r⟩:=r.cons;obtain⟨p1,parts,d1,ds,rfl,rfl,h1,r⟩:=r.cons;obtain⟨p2,parts,d2,ds,rfl,rfl,h2,r⟩:=r.cons;obtain⟨p3,parts,d3,ds,rfl,rfl,h3,r⟩:=r.cons;obtain⟨rfl,rfl⟩:=r.nil;obtain⟨v0,rfl,w0,rfl⟩:=Qz h0 YY;obtain⟨v1,rfl,w1,rfl⟩:=Qz h1 YY;obtain⟨v2,rfl,w2,rfl⟩:=Qz h2 YY;obtain⟨v3,rfl,rfl⟩:=J4 h3 DW;simp only[ZV,XD,ZZ] at hb ⊢;exact⟨⟨v0,v1,v2,v3⟩,rfl,trivial,by omega⟩
theorem Rm(fuel:Nat)(xs:List aa)(d:DataW H)(h:Typed prog fuel QI xs d)(_:uptoBulk d≤1048576):∃x,xs=aY x∧True∧0≤uptoBulk d:=by
 obtain⟨s,rfl,_,rfl⟩:=Qz h YY;exact⟨s,rfl,trivial,by omega⟩
theorem Fj{fuel:Nat}{xs:List aa}{d:DataW H}(h:Typed prog fuel xS xs d)(hb:uptoBulk d≤1048576):∃l,xs=[aV l]∧l.length≤2000000:=by
 obtain⟨l,rfl,_,_,k⟩:=XL aY (λ_=>0) (λ_=>True) h Yd4 HH (λf' _=>Rm f') hb;exact⟨l,rfl,by omega⟩
theorem Tt{fuel:Nat}{xs:List aa}{d:DataW H}(h:Typed prog fuel JL xs d)(hb:uptoBulk d≤1048576):∃x,xs=rm x∧pc 2000000 x:=by
 obtain⟨f,parts,ds,rfl,rfl,rfl,r⟩:=YO h Q_;obtain⟨p0,parts,d0,ds,rfl,rfl,h0,r⟩:=r.cons;obtain⟨p1,parts,d1,ds,rfl,rfl,h1,r⟩:=r.cons;obtain⟨p2,parts,d2,ds,rfl,rfl,h2,r⟩:=r.cons;obtain⟨p3,parts,d3,ds,rfl,rfl,h3,r⟩:=r.cons;obtain⟨p4,parts,d4,ds,rfl,rfl,h4,r⟩:=r.cons;obtain⟨p5,parts,d5,ds,rfl,rfl,h5,r⟩:=r.cons;obtain⟨p6,parts,d6,ds,rfl,rfl,h6,r⟩:=r.cons;obtain⟨p7,parts,d7,ds,rfl,rfl,h7,r⟩:=r.cons;obtain⟨rfl,rfl⟩:=r.nil;obtain⟨v0,rfl,w0,rfl⟩:=Qz h0 YY;obtain⟨v1,rfl,w1,rfl⟩:=Qz h1 YY;obtain⟨v2,rfl,w2,rfl⟩:=Qz h2 YY;simp only[ZV,XD,ZZ] at hb ⊢;obtain⟨a,rfl,ka⟩:=Fj h3 (by omega);obtain⟨b,rfl,kb⟩:=Fj h4 (by omega);obtain⟨c,rfl,kc⟩:=Fj h5 (by omega);obtain⟨u,rfl,_,_,ku⟩:=XL aP (λ_=>0) (λ_=>True) h6 IW PV (λf' _=>IL f') (show uptoBulk d6≤1048576 by omega);obtain⟨t,rfl,kt⟩:=Fj h7 (by omega);exact⟨⟨v0,v1,v2,a,b,c,u,t⟩,rfl,ka,kb,kc,by show u.length≤_; omega,kt⟩
theorem IK{fuel:Nat}{xs:List aa}{d:DataW H}(h:Typed prog fuel tq xs d)(hb:uptoBulk d≤1048576):∃x,xs=aD x∧bu 2000000 x:=by
 obtain⟨f,parts,ds,rfl,rfl,rfl,r⟩:=YO h HY;obtain⟨p0,parts,d0,ds,rfl,rfl,h0,r⟩:=r.cons;obtain⟨p1,parts,d1,ds,rfl,rfl,h1,r⟩:=r.cons;obtain⟨p2,parts,d2,ds,rfl,rfl,h2,r⟩:=r.cons;obtain⟨p3,parts,d3,ds,rfl,rfl,h3,r⟩:=r.cons;obtain⟨p4,parts,d4,ds,rfl,rfl,h4,r⟩:=r.cons;obtain⟨p5,parts,d5,ds,rfl,rfl,h5,r⟩:=r.cons;obtain⟨p6,parts,d6,ds,rfl,rfl,h6,r⟩:=r.cons;obtain⟨p7,parts,d7,ds,rfl,rfl,h7,r⟩:=r.cons;obtain⟨rfl,rfl⟩:=r.nil;obtain⟨v0,rfl,w0,rfl⟩:=Qz h0 YY;obtain⟨v1,rfl,w1,rfl⟩:=Qz h1 YY;obtain⟨v2,rfl,w2,rfl⟩:=Qz h2 xQ;obtain⟨v3,rfl,rfl⟩:=J4 h3 DW;obtain⟨v4,rfl,w4,rfl⟩:=Qz h4 xQ;obtain⟨v6,rfl,w6,rfl⟩:=Qz h6 YY;simp only[ZV,XD,ZZ] at hb ⊢;obtain⟨a,rfl,ka⟩:=Fj h5 (by omega);obtain⟨f',p,q,da,db,rfl,rfl,rfl,hp,hq⟩:=QdM h7 IV;simp only[ZV,XD] at hb;obtain⟨x,rfl,kx⟩:=Tt hp (by omega);obtain⟨y,rfl,ky⟩:=Tt hq (by omega);exact⟨⟨v0,v1,v2,v3,v4,a,v6,x,y⟩,rfl,ka,kx,ky⟩
end Go.Ah.Tz
end
section
namespace Go.Ah
section
variable {P:Program} {GL:aw}
def jU(h:Hp)(rd:List Nat):Hp:=λb=>if b∈rd then h b else (h b).map λ_=>.dead
theorem X1{h:Hp}{rd:List Nat}{b:Nat}{aE:ab}(e:jU h rd b=some aE)(hl:aE.live=true):b∈rd∧h b=some aE:=by
 unfold jU at e;by_cases hb:b∈rd
 ·rw[if_pos hb] at e; exact⟨hb,e⟩
 ·rw[if_neg hb] at e;obtain⟨x,_,rfl⟩:=Option.map_eq_some_iff.1 e;simp[ab.live] at hl
theorem br.only{w0:World}{L:Ln}{g:Gm}{h:Hp}{w:World}(r:br GL w0 L g h w)(rd:List Nat):br GL w0 L g (jU h rd) w where
 keeps:=r.keeps
 aR:=r.aR
 src:=r.src
 bY:=r.bY
 dD:=λb e=>r.dD b (by
  unfold jU at e;split at e
  ·exact e
  ·simpa using e)
 iM:=λb aE e=>by
  unfold jU at e;split at e
  ·exact r.iM b aE e
  ·obtain⟨x,hx,_⟩:=Option.map_eq_some_iff.1 e;exact r.iM b x hx
 own:=λb aE cb e hl=>r.own b aE cb (X1 e hl).2 hl
 aX:=λb aE cb e hl=>r.aX b aE cb (X1 e hl).2 hl
 inj:=λb b' aE blk' cb dR e e' hl lq=>r.inj b b' aE blk' cb dR (X1 e hl).2 (X1 e' lq).2 hl lq
def iV(rd:List Nat):List (Nat×ab):=rd.map λb=>(b,.dead)
theorem br.Gd{w0:World}{L:Ln}{w:World}(c:Own):∀(rd:List Nat) {M0:Nat→Option Obj} {h:Hp},br GL w0 L ⟨M0,c⟩ h w→(∀b∈rd,∃aE,h b=some aE) →
  ∃M,gZ M0 M∧br GL w0 L ⟨M,c⟩ (cq h (iV rd)) w∧∀b∈rd,∀aE cb o,h b=some aE→aE.live=true→c b=some cb→cb.cS=false→w.heap[cb.aE]?=some o→M cb.aE=some o
 |[],M0,h,r,_=>⟨M0,gZ.refl _,r,λb hb=>absurd hb (by simp)⟩
 |b::rd,M0,h,r,cY=>by
  obtain⟨aE,hb⟩:=cY b (List.mem_cons_self);have OU:∀c∈rd,∃aE,eA h b .dead c=some aE:=λc hc=>by
   by_cases e:c=b
   ·subst e; exact⟨_,Qu _ _ _⟩
   ·rw[Yq _ _ e]; exact cY c (List.mem_cons_of_mem _ hc)
  obtain⟨cb,ec⟩:=r.iM b aE hb;have key:∃M1,gZ M0 M1∧br GL w0 L ⟨M1,c⟩ (eA h b .dead) w∧(aE.live=true→cb.cS=false→∀o,w.heap[cb.aE]?=some o→M1 cb.aE=some o):=by
   by_cases hl:aE.live=true∧cb.cS=false
   ·obtain⟨_,_,o,ho,_⟩:=r.own b aE cb hb hl.1 ec hl.2;obtain⟨q1,q2⟩:=r.freeze hb hl.1 ec hl.2 ho;refine⟨_,q1.m,q2,λ_ _ o' eI=>?_⟩;rw[ho] at eI; cases eI;simp[mi]
   ·exact⟨M0,gZ.refl _,r.kill hb,λh1 h2=>absurd ⟨h1,h2⟩ hl⟩
  obtain⟨M1,m1,r1,k1⟩:=key;obtain⟨M,m2,r2,k2⟩:=br.Gd c rd r1 OU;refine⟨M,m1.trans m2,r2,λx hx blk' dR o e1 e2 e3 e4 e5=>?_⟩;by_cases e:x=b
  ·subst e;have D4:c x=some cb:=ec;rw[hb] at e1; cases e1;rw[D4] at e3; cases e3;exact m2 _ _ (k1 e2 e4 o e5)
  ·rcases List.mem_cons.1 hx with h'|h'
   ·exact absurd h' e
   ·exact k2 x h' blk' dR o (by rw[Yq _ _ e]; exact e1) e2 e3 e4 e5
def HC(σ:List ab)(rd:List Nat):List ab:=rd.foldl (λσ b=>σ.set b .dead) σ
theorem Vp:∀(rd:List Nat) (σ:List ab),(∀b∈rd,b<σ.length)→gP σ (iV rd)=some (HC σ rd)
 |[],_,_=>rfl
 |b::rd,σ,h=>by
  have hb:=h b List.mem_cons_self;show (bif Nat.beq b σ.length then gP (σ ++ [.dead]) (iV rd) else (match YM b .dead σ with
   |some σ'=>gP σ' (iV rd)
   | none=>none))=_
  have:Nat.beq b σ.length=false:=by
   cases e:Nat.beq b σ.length with
   |false=>rfl
   |true=>have:=e9 e; omega
  rw[this,DA hb];exact Vp rd (σ.set b .dead) (λc hc=>by simpa using h c (List.mem_cons_of_mem _ hc))
end
end Go.Ah
end
section
namespace Go.Ah
section
variable {P:Program} {GL:aw}
theorem TT:∀(l:List (Nat×ab)) (h:Hp) (k:Nat) (x:ab),cq h (l++[(k,x)])=eA (cq h l) k x
 |[],_,_,_=>rfl
 |(b,y)::l,h,k,x=>TT l (eA h b y) k x
theorem RQ:∀(l:List Nat) (h:Hp) (k:Nat),k∉l→cq h (iV l) k=h k
 |[],_,_,_=>rfl
 |b::l,h,k,hk=>by
  simp only[List.mem_cons,not_or] at hk;show cq (eA h b .dead) (iV l) k=h k;rw[RQ l _ k hk.2,Yq _ _ hk.1]
theorem dM.wC{f:FuncId}{xs ys:List aa}{v:aa}{rd:List Nat}{h0:Hp}(hc:dM P GL f ys v)(hb:bp h0 rd xs ys)(cY:∀b∈rd,∃aE,h0 b=some aE){k:Nat}{row row':List aa}(hk:h0 k=some (.box row))(gV:k∉rd)(hlen:row'.length=row.length)
 (dT:∀(j:Nat) (x x':aa),row[j]?=some x→row'[j]?=some x'→x'=x∨aB h0 rd x x'):im P GL f xs h0 v rd (iV rd++[(k,.box row')]):=by
 intro w0 L g h w vs r hx cH gy;have uy:h k=some (.box row):=by rw[gy (k,.box row') (by simp)]; exact hk
 obtain⟨M,hM,r2,OB⟩:=br.Gd g.c rd (M0:=g.M) r (λb bZ=>by rw[cH b bZ]; exact cY b bZ);have qp:vN g (jU h rd) w M:=⟨hM,λb aE cb o e hl ec hv ho=>OB b (X1 e hl).1 aE cb o (X1 e hl).2 hl ec hv ho⟩;have G0:∀b∈rd,jU h rd b=h0 b:=λb bZ=>by unfold jU; rw[if_pos bZ]; exact cH b bZ
 have hd:=hb GL w0 L g (jU h rd) w M (r.only rd) qp G0 vs hx;have r3:br GL w0 L ⟨M,g.c⟩ (eA (cq h (iV rd)) k (.box row')) w:=by
  obtain⟨cb,ec⟩:=r.iM k _ uy;have hv:cb.cS=false:=by
   cases e:cb.cS with
   |false=>rfl
   |true=>have:=r.aX k _ cb uy rfl ec e; cases this
  obtain⟨_,_,o,ho,arr,T,rfl,hs,mR⟩:=r.own k _ cb uy rfl ec hv;have yE:cq h (iV rd) k=some (.box row):=by rw[RQ rd h k gV]; exact uy
  refine r2.write (w':=w) yE rfl ec hv (blk':=.box row') rfl (o':=.cells arr T (0,0)) rfl rfl rfl ?_ ⟨arr,T,rfl,by rw[hs,hlen],λj x' u e1 e2=>?_⟩
  ·apply Array.ext_getElem?;intro i;by_cases hi:i=cb.aE
   ·subst hi;rw[Array.getElem?_setIfInBounds_self_of_lt (Array.getElem?_eq_some_iff.1 ho).1,ho]
   ·rw[Array.getElem?_setIfInBounds_ne (λe=>hi e.symm)]
  ·have hj:j<row.length:=by rw[←hlen]; exact(gn e1).1
   have e0:row[j]?=some row[j]:=by simp[hj]
   have cI:=mR j row[j] u e0 e2;rcases dT j row[j] x' e0 e1 with rfl|qM
   ·exact Den.mono hM cI (fH.refl _)
   ·exact(qM GL w0 L g (jU h rd) w M (r.only rd) qp G0 u cI).mono (gZ.refl _) (fH.bg _)
 refine(hc w M _ r3.aR r3.bY hd).mono ?_;rintro e w' ⟨y,he,kp,M',hle,fT,kJ,hdv⟩;rw[TT];exact⟨y,he,⟨M',g.c⟩,⟨hM.trans hle,fH.refl _⟩,r3.after kp hle fT kJ,hdv.mono (gZ.refl _) (fH.bg _)⟩
theorem Zbh{k:MK}{xs ys zs:List aa}{f:FuncId}{v:aa}{b q:Nat}{row row':List aa}(h:dM P GL f zs v){σ:List ab}(hc:Zw k xs=some (f,ys))(hY:Qj P f=true)(hb:bp (hp σ) [b] ys zs)(cY:ah σ b≠.dead)(hq:ah σ q=.box row)(V_:q≠b)(hlen:row'.length=row.length)
 (dT:∀(j:Nat) (x x':aa),row[j]?=some x→row'[j]?=some x'→x'=x∨aB (hp σ) [b] x x'){K:aa→List ab→Prop}(hK:K v ((σ.set b .dead).set q (.box row'))):(W P GL).call k xs σ K:=by
 refine Ez hc hY (h.wC hb (λc yv=>by rw[List.mem_singleton] at yv; subst yv; exact⟨_,Yx rfl cY⟩) (Yx hq (by simp)) (by simpa using V_) hlen dT) ?_ hK;have h1:=Vp [b] σ (λc yv=>by rw[List.mem_singleton] at yv; subst yv; exact Ye rfl cY);have Ae:=Ye hq (by simp);have zN:=Ye (σ:=σ) (b:=b) rfl cY;show gP σ [(b,.dead),(q,.box row')]=_;have s1:∀(τ:List ab) (c:Nat) (x:ab) (r:List (Nat×ab)),c<τ.length→gP τ ((c,x)::r)=gP (τ.set c x) r:=by
  intro τ c x r ny;show (bif Nat.beq c τ.length then gP (τ ++ [x]) r else (match YM c x τ with
   |some σ'=>gP σ' r
   | none=>none))=_
  have:Nat.beq c τ.length=false:=by
   cases e:Nat.beq c τ.length with
   |false=>rfl
   |true=>have:=e9 e; omega
  rw[this,DA ny]; rfl
 rw[s1 σ b .dead _ zN,s1 _ q _ _ (by simpa using Ae)];rfl
end
end Go.Ah
end
section
namespace Go.Ah.Tz
open Go.Proofs.Tryz (prog)
set_option maxRecDepth 100000
noncomputable def IB:GT:=(.node 113 1 g113.u (.node 63 3 g63.u (.node 38 3 g38.u (.node 21 1 g21.u (.node 15 2 g15.u (.node 12 1 g12.u (.node 7 4 g7.u (.node 6 0 g6.u .leaf .leaf) .leaf) (.node 14 1 g14.u (.node 13 2 g13.u .leaf .leaf) .leaf)) (.node 18 2 g18.u (.node 17 5 g17.u (.node 16 6 g16.u .leaf .leaf) .leaf) (.node 20 3 g20.u (.node 19 2 g19.u .leaf .leaf) .leaf))) (.node 32 2 g32.u (.node 24 1 g24.u (.node 23 3 g23.u (.node 22 1 g22.u .leaf .leaf) .leaf) (.node 31 1 g31.u (.node 30 1 g30.u .leaf .leaf) .leaf)) (.node 35 2 g35.u (.node 34 1 g34.u (.node 33 1 g33.u .leaf .leaf) .leaf) (.node 37 2 g37.u (.node 36 2 g36.u .leaf .leaf) .leaf)))) (.node 52 2 g52.u (.node 44 1 g44.u (.node 41 3 g41.u (.node 40 2 g40.u (.node 39 2 g39.u .leaf .leaf) .leaf) (.node 43 2 g43.u (.node 42 2 g42.u .leaf .leaf) .leaf)) (.node 49 1 g49.u (.node 46 2 g46.u (.node 45 1 g45.u .leaf .leaf) .leaf) (.node 51 1 g51.u (.node 50 1 g50.u .leaf .leaf) .leaf))) (.node 58 1 g58.u (.node 55 2 g55.u (.node 54 2 g54.u (.node 53 2 g53.u .leaf .leaf) .leaf) (.node 57 1 g57.u (.node 56 3 g56.u .leaf .leaf) .leaf)) (.node 61 1 g61.u (.node 60 2 g60.u (.node 59 2 g59.u .leaf .leaf) .leaf) (.node 62 3 g62.u .leaf .leaf))))) (.node 88 3 g88.u (.node 77 1 g77.u (.node 71 2 g71.u (.node 66 3 g66.u (.node 65 3 g65.u (.node 64 3 g64.u .leaf .leaf) .leaf) (.node 68 3 g68.u (.node 67 3 g67.u .leaf .leaf) .leaf)) (.node 74 1 g74.u (.node 73 2 g73.u (.node 72 2 g72.u .leaf .leaf) .leaf) (.node 76 1 g76.u (.node 75 2 g75.u .leaf .leaf) .leaf))) (.node 83 0 g83.u (.node 80 1 g80.u (.node 79 2 g79.u (.node 78 1 g78.u .leaf .leaf) .leaf) (.node 82 1 g82.u (.node 81 2 g81.u .leaf .leaf) .leaf)) (.node 86 1 g86.u (.node 85 2 g85.u (.node 84 1 g84.u .leaf .leaf) .leaf) (.node 87 2 g87.u .leaf .leaf)))) (.node 100 2 g100.u (.node 94 2 g94.u (.node 91 1 g91.u (.node 90 1 g90.u (.node 89 1 g89.u .leaf .leaf) .leaf) (.node 93 4 g93.u (.node 92 1 g92.u .leaf .leaf) .leaf)) (.node 97 5 g97.u (.node 96 1 g96.u (.node 95 2 g95.u .leaf .leaf) .leaf) (.node 99 2 g99.u (.node 98 5 g98.u .leaf .leaf) .leaf))) (.node 106 4 g106.u (.node 103 1 g103.u (.node 102 2 g102.u (.node 101 3 g101.u .leaf .leaf) .leaf) (.node 105 2 g105.u (.node 104 3 g104.u .leaf .leaf) .leaf)) (.node 111 2 g111.u (.node 110 3 g110.u (.node 109 1 g109.u .leaf .leaf) .leaf) (.node 112 2 g112.u .leaf .leaf)))))) (.node 161 1 g161.u (.node 136 4 g136.u (.node 125 1 g125.u (.node 119 1 g119.u (.node 116 2 g116.u (.node 115 1 g115.u (.node 114 1 g114.u .leaf .leaf) .leaf) (.node 118 1 g118.u (.node 117 1 g117.u .leaf .leaf) .leaf)) (.node 122 1 g122.u (.node 121 1 g121.u (.node 120 1 g120.u .leaf .leaf) .leaf) (.node 124 1 g124.u (.node 123 1 g123.u .leaf .leaf) .leaf))) (.node 131 2 g131.u (.node 128 1 g128.u (.node 127 2 g127.u (.node 126 2 g126.u .leaf .leaf) .leaf) (.node 130 3 g130.u (.node 129 1 g129.u .leaf .leaf) .leaf)) (.node 134 4 g134.u (.node 133 1 g133.u (.node 132 7 g132.u .leaf .leaf) .leaf) (.node 135 1 g135.u .leaf .leaf)))) (.node 150 2 g150.u (.node 144 2 g144.u (.node 139 2 g139.u (.node 138 2 g138.u (.node 137 3 g137.u .leaf .leaf) .leaf) (.node 143 1 g143.u (.node 140 2 g140.u .leaf .leaf) .leaf)) (.node 147 3 g147.u (.node 146 2 g146.u (.node 145 1 g145.u .leaf .leaf) .leaf) (.node 149 0 g149.u (.node 148 1 g148.u .leaf .leaf) .leaf))) (.node 156 1 g156.u (.node 153 1 g153.u (.node 152 1 g152.u (.node 151 1 g151.u .leaf .leaf) .leaf) (.node 155 2 g155.u (.node 154 1 g154.u .leaf .leaf) .leaf)) (.node 159 2 g159.u (.node 158 2 g158.u (.node 157 1 g157.u .leaf .leaf) .leaf) (.node 160 1 g160.u .leaf .leaf))))) (.node 184 1 g184.u (.node 173 2 g173.u (.node 167 2 g167.u (.node 164 2 g164.u (.node 163 1 g163.u (.node 162 2 g162.u .leaf .leaf) .leaf) (.node 166 1 g166.u (.node 165 1 g165.u .leaf .leaf) .leaf)) (.node 170 3 g170.u (.node 169 1 g169.u (.node 168 5 g168.u .leaf .leaf) .leaf) (.node 172 2 g172.u (.node 171 1 g171.u .leaf .leaf) .leaf))) (.node 179 1 g179.u (.node 176 2 g176.u (.node 175 2 g175.u (.node 174 2 g174.u .leaf .leaf) .leaf) (.node 178 1 g178.u (.node 177 3 g177.u .leaf .leaf) .leaf)) (.node 182 1 g182.u (.node 181 2 g181.u (.node 180 0 g180.u .leaf .leaf) .leaf) (.node 183 1 g183.u .leaf .leaf)))) (.node 196 1 g196.u (.node 190 1 g190.u (.node 187 1 g187.u (.node 186 1 g186.u (.node 185 1 g185.u .leaf .leaf) .leaf) (.node 189 2 g189.u (.node 188 1 g188.u .leaf .leaf) .leaf)) (.node 193 1 g193.u (.node 192 2 g192.u (.node 191 1 g191.u .leaf .leaf) .leaf) (.node 195 1 g195.u (.node 194 2 g194.u .leaf .leaf) .leaf))) (.node 202 2 g202.u (.node 199 0 g199.u (.node 198 1 g198.u (.node 197 1 g197.u .leaf .leaf) .leaf) (.node 201 1 g201.u (.node 200 2 g200.u .leaf .leaf) .leaf)) (.node 241 3 g241.u (.node 204 2 g204.u (.node 203 2 g203.u .leaf .leaf) .leaf) (.node 242 3 g242.u .leaf .leaf)))))))
theorem YdM:IB.Ok prog aK:=⟨g113.ok,⟨g63.ok,⟨g38.ok,⟨g21.ok,⟨g15.ok,⟨g12.ok,⟨g7.ok,⟨g6.ok,trivial,trivial⟩,trivial⟩,⟨g14.ok,⟨g13.ok,trivial,trivial⟩,trivial⟩⟩,⟨g18.ok,⟨g17.ok,⟨g16.ok,trivial,trivial⟩,trivial⟩,⟨g20.ok,⟨g19.ok,trivial,trivial⟩,trivial⟩⟩⟩,⟨g32.ok,⟨g24.ok,⟨g23.ok,⟨g22.ok,trivial,trivial⟩,trivial⟩,⟨g31.ok,⟨g30.ok,trivial,trivial⟩,trivial⟩⟩,⟨g35.ok,⟨g34.ok,⟨g33.ok,trivial,trivial⟩,trivial⟩,⟨g37.ok,⟨g36.ok,trivial,trivial⟩,trivial⟩⟩⟩⟩,⟨g52.ok,⟨g44.ok,⟨g41.ok,⟨g40.ok,⟨g39.ok,trivial,trivial⟩,trivial⟩,⟨g43.ok,⟨g42.ok,trivial,trivial⟩,trivial⟩⟩,⟨g49.ok,⟨g46.ok,⟨g45.ok,trivial,trivial⟩,trivial⟩,⟨g51.ok,⟨g50.ok,trivial,trivial⟩,trivial⟩⟩⟩,⟨g58.ok,⟨g55.ok,⟨g54.ok,⟨g53.ok,trivial,trivial⟩,trivial⟩,⟨g57.ok,⟨g56.ok,trivial,trivial⟩,trivial⟩⟩,⟨g61.ok,⟨g60.ok,⟨g59.ok,trivial,trivial⟩,trivial⟩,⟨g62.ok,trivial,trivial⟩⟩⟩⟩⟩,⟨g88.ok,⟨g77.ok,⟨g71.ok,⟨g66.ok,⟨g65.ok,⟨g64.ok,trivial,trivial⟩,trivial⟩,⟨g68.ok,⟨g67.ok,trivial,trivial⟩,trivial⟩⟩,⟨g74.ok,⟨g73.ok,⟨g72.ok,trivial,trivial⟩,trivial⟩,⟨g76.ok,⟨g75.ok,trivial,trivial⟩,trivial⟩⟩⟩,⟨g83.ok,⟨g80.ok,⟨g79.ok,⟨g78.ok,trivial,trivial⟩,trivial⟩,⟨g82.ok,⟨g81.ok,trivial,trivial⟩,trivial⟩⟩,⟨g86.ok,⟨g85.ok,⟨g84.ok,trivial,trivial⟩,trivial⟩,⟨g87.ok,trivial,trivial⟩⟩⟩⟩,⟨g100.ok,⟨g94.ok,⟨g91.ok,⟨g90.ok,⟨g89.ok,trivial,trivial⟩,trivial⟩,⟨g93.ok,⟨g92.ok,trivial,trivial⟩,trivial⟩⟩,⟨g97.ok,⟨g96.ok,⟨g95.ok,trivial,trivial⟩,trivial⟩,⟨g99.ok,⟨g98.ok,trivial,trivial⟩,trivial⟩⟩⟩,⟨g106.ok,⟨g103.ok,⟨g102.ok,⟨g101.ok,trivial,trivial⟩,trivial⟩,⟨g105.ok,⟨g104.ok,trivial,trivial⟩,trivial⟩⟩,⟨g111.ok,⟨g110.ok,⟨g109.ok,trivial,trivial⟩,trivial⟩,⟨g112.ok,trivial,trivial⟩⟩⟩⟩⟩⟩,⟨g161.ok,⟨g136.ok,⟨g125.ok,⟨g119.ok,⟨g116.ok,⟨g115.ok,⟨g114.ok,trivial,trivial⟩,trivial⟩,⟨g118.ok,⟨g117.ok,trivial,trivial⟩,trivial⟩⟩,⟨g122.ok,⟨g121.ok,⟨g120.ok,trivial,trivial⟩,trivial⟩,⟨g124.ok,⟨g123.ok,trivial,trivial⟩,trivial⟩⟩⟩,⟨g131.ok,⟨g128.ok,⟨g127.ok,⟨g126.ok,trivial,trivial⟩,trivial⟩,⟨g130.ok,⟨g129.ok,trivial,trivial⟩,trivial⟩⟩,⟨g134.ok,⟨g133.ok,⟨g132.ok,trivial,trivial⟩,trivial⟩,⟨g135.ok,trivial,trivial⟩⟩⟩⟩,⟨g150.ok,⟨g144.ok,⟨g139.ok,⟨g138.ok,⟨g137.ok,trivial,trivial⟩,trivial⟩,⟨g143.ok,⟨g140.ok,trivial,trivial⟩,trivial⟩⟩,⟨g147.ok,⟨g146.ok,⟨g145.ok,trivial,trivial⟩,trivial⟩,⟨g149.ok,⟨g148.ok,trivial,trivial⟩,trivial⟩⟩⟩,⟨g156.ok,⟨g153.ok,⟨g152.ok,⟨g151.ok,trivial,trivial⟩,trivial⟩,⟨g155.ok,⟨g154.ok,trivial,trivial⟩,trivial⟩⟩,⟨g159.ok,⟨g158.ok,⟨g157.ok,trivial,trivial⟩,trivial⟩,⟨g160.ok,trivial,trivial⟩⟩⟩⟩⟩,⟨g184.ok,⟨g173.ok,⟨g167.ok,⟨g164.ok,⟨g163.ok,⟨g162.ok,trivial,trivial⟩,trivial⟩,⟨g166.ok,⟨g165.ok,trivial,trivial⟩,trivial⟩⟩,⟨g170.ok,⟨g169.ok,⟨g168.ok,trivial,trivial⟩,trivial⟩,⟨g172.ok,⟨g171.ok,trivial,trivial⟩,trivial⟩⟩⟩,⟨g179.ok,⟨g176.ok,⟨g175.ok,⟨g174.ok,trivial,trivial⟩,trivial⟩,⟨g178.ok,⟨g177.ok,trivial,trivial⟩,trivial⟩⟩,⟨g182.ok,⟨g181.ok,⟨g180.ok,trivial,trivial⟩,trivial⟩,⟨g183.ok,trivial,trivial⟩⟩⟩⟩,⟨g196.ok,⟨g190.ok,⟨g187.ok,⟨g186.ok,⟨g185.ok,trivial,trivial⟩,trivial⟩,⟨g189.ok,⟨g188.ok,trivial,trivial⟩,trivial⟩⟩,⟨g193.ok,⟨g192.ok,⟨g191.ok,trivial,trivial⟩,trivial⟩,⟨g195.ok,⟨g194.ok,trivial,trivial⟩,trivial⟩⟩⟩,⟨g202.ok,⟨g199.ok,⟨g198.ok,⟨g197.ok,trivial,trivial⟩,trivial⟩,⟨g201.ok,⟨g200.ok,trivial,trivial⟩,trivial⟩⟩,⟨g241.ok,⟨g204.ok,⟨g203.ok,trivial,trivial⟩,trivial⟩,⟨g242.ok,trivial,trivial⟩⟩⟩⟩⟩⟩⟩
end Go.Ah.Tz
end
section
namespace Go.Ah.Tz
open Go.Proofs.Tryz (prog)
set_option maxRecDepth 1000000
theorem On:∀f np g,IB.get f=some (np,g)→GQ f np g:=GT.oD YdM
abbrev F168:Nat:=12
def txI:Tx:=[99,97,114,100,32,73,109,112,32,117,110,105,116,32,49,32,50,47,50,32,123,32,100,101,97,100,32,123,32,103,97,105,110,32,49,59,32,125,32,125]
def rL:List aa:=[(.ax false false 12 [[(.str [73,109,112]),(.bool true),(.int .i64 1),(.int .i64 2),(.int .i64 2),(.int .i64 0),(.int .i64 0),(.int .i64 0),.aq,(.ax false false 14 [[(.int .i8 3),(.int .i8 0),(.int .i8 0),(.int .i64 1),(.int .i8 0),.aq,(.str []),(.int .i8 0),(.int .i8 0),(.str []),.aq,.aq,.aq,.aq]]),.aq,(.int .i64 0)]]),.aq]
theorem p168:PC F168 [.str txI] (.bn [.agg rL,.agg [iv 0,iv 0]]):=Vd hP On (much:=1000000000) 60 (by kernel_rfl)
def bI:Bk:=⟨[⟨[73,109,112],true,1,2,2,0,0,0,[],[.mk 3 0 (.mk 0 1 0 []) [] (.mk 0 0 [] [] []) [] []],[],0⟩],[]⟩
def sI(a c:Int):St:={ turn:=1,mover:=0,phase:=0,bF:=false,result:=0,al:=[],next:=9,s0:=⟨a,0,0,[],[],[],[⟨1,0,2,false⟩],[]⟩,s1:=⟨c,0,0,[],[],[],[],[]⟩ }
def tI:St:={ turn:=1,mover:=0,phase:=0,bF:=false,result:=0,al:=[],next:=9,s0:=⟨20,1,0,[],[],[0],[],[]⟩,s1:=⟨20,0,0,[],[],[],[],[]⟩ }
def tJ:St:={ turn:=1,mover:=0,phase:=2,bF:=false,result:=3,al:=[],next:=9,s0:=⟨0,0,0,[],[],[0],[],[]⟩,s1:=⟨0,0,0,[],[],[],[],[]⟩ }
def lI:List Ev:=[⟨13,0,0,1,0,0,[]⟩,⟨14,0,0,0,0,0,[]⟩,⟨7,0,0,0,0,1,[]⟩]
def lJ:List Ev:=[⟨13,0,0,1,0,0,[]⟩,⟨15,0,0,0,0,3,[]⟩]
theorem R_:Zj bI.af:=by
 intro c hc;simp only[bI,List.mem_singleton] at hc;subst hc; decide
theorem Uu(a c:Int):bu 1000000000 (sI a c):=by
 refine⟨?_,⟨?_,?_,?_,?_,?_⟩,⟨?_,?_,?_,?_,?_⟩⟩<;>(simp[sI])
theorem Oe:PC 7 [dg bI,cf (sI 20 20),.aq,iv 9] (nh (0,tI,lI,7)):=by
 have:=Av (q92 bI (sI 20 20) (by kernel_rfl) R_ (λ_=>by decide) (Uu _ _) [] 9 100 100 ⟨by decide,by decide⟩ (by decide) (by decide) (by decide))
 rwa [show dz bI (sI 20 20) [] 9=(0,tI,lI,7) from by kernel_rfl] at this
theorem Of:PC 7 [dg bI,cf (sI 0 0),.aq,iv 9] (nh (0,tJ,lJ,9)):=by
 have:=Av (q92 bI (sI 0 0) (by kernel_rfl) R_ (λ_=>by decide) (Uu _ _) [] 9 100 100 ⟨by decide,by decide⟩ (by decide) (by decide) (by decide))
 rwa [show dz bI (sI 0 0) [] 9=(0,tJ,lJ,9) from by kernel_rfl] at this
def jE(a c:Int)(u:aa):List aa:=Ax (sI a c) .aq .aq .aq .aq u .aq .aq .aq .aq .aq .aq
attribute [local irreducible] ak.rd ak.pu ak.wr ak.dr ak.gr ak.gw ak.gl ak.gd ak.opt aH W
set_option maxHeartbeats 8000000
theorem Qdz{σ:List ab}{rd:List Nat}:aB (hp σ) rd (.agg rL) (dg bI):=
 aB.cy (y:=.agg rL) (aB.ro rfl) (λM u d=>(Lc (M:=M) (xs:=[.agg rL]) (ys:=[dg bI]) (by kernel_rfl) (show df ⟨M,bg⟩ [.agg rL] [u] from ⟨d,trivial⟩)).1)
theorem p91:PC 6 [] (.bool true):=by
 refine Yc hP g6.ok rfl rfl ?_;rw[H0.e]; unfold g6; dsimp only;refine Xb p168 rfl g12.ok.plain rfl (Za (v:=.agg rL) rfl (Za (v:=.agg [iv 0,iv 0]) rfl ?_));refine Qb (v:=.ai 0 0) (rd:=[]) (up:=[(0,.box [.aq,.aq])]) rfl (Yi [] _) ?_;refine Qb (v:=.ai 1 0) (rd:=[]) (up:=[(1,.box [iv 0,iv 0])]) rfl (Yi [ab.box [.aq,.aq]] _) ?_;refine Qb (cM (row:=[.aq,.aq]) (row':=rL) rfl rfl rfl rfl) (Xg _ (by simp)) ?_;refine Qb (cM (row:=[iv 0,iv 0]) (row':=[iv 0,iv 0]) rfl rfl rfl rfl) (Xg _ (by simp)) ?_;refine Za (v:=.agg (jE 0 0 .aq)) rfl (Xq (row:=jE 0 0 .aq) (row':=jE 0 0 .aq) rfl rfl rfl ?_);obtain⟨σ,eσ⟩:∃σ:List ab,((([ab.box [.aq,.aq]]++[ab.box [iv 0,iv 0]]).set 0 (ab.box rL)).set 1 (ab.box [iv 0,iv 0]))++[ab.box (jE 0 0 .aq)]=σ:=⟨_,rfl⟩;rw[eσ];have b1:ah σ 0=.box rL:=by rw[←eσ]; rfl
 have s1:ah σ 2=.box (jE 0 0 .aq):=by rw[←eσ]; rfl
 have hl:σ.length=3:=by rw[←eσ]; rfl
 have eX:((([ab.box [.aq,.aq]]++[ab.box [iv 0,iv 0]]).set 0 (ab.box rL)).set 1 (ab.box [iv 0,iv 0])).length=2:=rfl;rw[eX];clear eσ eX;refine Za (v:=.agg (aP ⟨1,0,2,false⟩)) rfl (Qb (Sm 4 σ _ _ (aP ⟨1,0,2,false⟩) rfl rfl) (Yi σ _) ?_);have b2:=Xd [ab.rows 4 [aP ⟨1,0,2,false⟩]] b1 (by simp);have s2:=Xd [ab.rows 4 [aP ⟨1,0,2,false⟩]] s1 (by simp);have u2:=Yf σ (.rows 4 [aP ⟨1,0,2,false⟩]);rw[hl] at u2 ⊢;generalize σ++[ab.rows 4 [aP ⟨1,0,2,false⟩]]=σ2 at *;clear b1 s1 hl;refine Za (v:=.agg [iv 20,iv 0,iv 0,.aq,.aq,.aq,.sl 3 0 1 true,.aq]) rfl (Za rfl (Za rfl (Qb (cM (row':=jE 20 0 (.sl 3 0 1 true)) s2 rfl rfl rfl) (Xg _ (Ye s2 (by simp))) ?_)));have b3:=Zd (x:=.box (jE 20 0 (.sl 3 0 1 true))) b2 (by simp) (show 2≠0 by decide);have u3:=Zd (x:=.box (jE 20 0 (.sl 3 0 1 true))) u2 (by simp) (show 2≠3 by decide);have s3:ah (σ2.set 2 (.box (jE 20 0 (.sl 3 0 1 true)))) 2=_:=Xe _ (Ye s2 (by simp));generalize σ2.set 2 (.box (jE 20 0 (.sl 3 0 1 true)))=σ3 at *;refine Za rfl (Za rfl (Za rfl (Qb (cM (row':=jE 20 20 (.sl 3 0 1 true)) s3 rfl rfl rfl) (Xg _ (Ye s3 (by simp))) ?_)));have b4:=Zd (x:=.box (jE 20 20 (.sl 3 0 1 true))) b3 (by simp) (show 2≠0 by decide);have u4:=Zd (x:=.box (jE 20 20 (.sl 3 0 1 true))) u3 (by simp) (show 2≠3 by decide);have s4:ah (σ3.set 2 (.box (jE 20 20 (.sl 3 0 1 true)))) 2=_:=Xe _ (Ye s3 (by simp));generalize σ3.set 2 (.box (jE 20 20 (.sl 3 0 1 true)))=σ4 at *;clear b2 b3 u2 u3 s2 s3;have Ow:RT σ4 [3] (.sl 3 0 1 true) [⟨1,0,2,false⟩]:=RT.own (l:=[⟨1,0,2,false⟩]) u4 (by simp) rfl;refine Za (v:=.agg rL) (ld b4 rfl) (Za (v:=.agg (jE 20 20 (.sl 3 0 1 true))) (ld s4 rfl) ?_);refine Zbh (b:=3) (q:=2) (row':=jE 20 20 (il [⟨1,0,2,false⟩])) Oe rfl g7.ok.plain (.cons Qdz (.cons (SB.agg (SB.mk (s:=sI 20 20) .aq .aq .aq .aq Ow .aq .aq .aq .aq .aq .aq)) (.cons (aB.ro rfl) (.cons (aB.ro rfl) .nil)))) (by rw[u4]; simp) s4 (by decide) rfl (λj x x' e1 e2=>?_) ?_
 ·by_cases hj:j=13
  ·subst hj;have e1:x=.sl 3 0 1 true:=by have:some _=some x:=e1; exact(Option.some.inj this).symm
   have e2:x'=il [⟨1,0,2,false⟩]:=by have:some _=some x':=e2; exact(Option.some.inj this).symm
   subst e1; subst e2;exact .inr Ow
  ·left;have cp:j<23:=(gn e1).1;have:(jE 20 20 (.sl 3 0 1 true))[j]?=(jE 20 20 (il [⟨1,0,2,false⟩]))[j]?:=by
    match j,cp,hj with
    |0,_,_|1,_,_|2,_,_|3,_,_|4,_,_|5,_,_|6,_,_|7,_,_|8,_,_|9,_,_|10,_,_|11,_,_|12,_,_|14,_,_|15,_,_|16,_,_|17,_,_|18,_,_|19,_,_|20,_,_|21,_,_|22,_,_=>rfl
    |13,_,h=>exact absurd rfl h
    |j+23,h,_=>omega
   rw[e1,e2] at this;exact(Option.some.inj this).symm
 have b5:ah (σ4.set 3 .dead) 0=.box rL:=Zd b4 (by simp) (by decide);have b5:=Zd (x:=.box (jE 20 20 (il [⟨1,0,2,false⟩]))) b5 (by simp) (show 2≠0 by decide);have s5:ah ((σ4.set 3 .dead).set 2 (.box (jE 20 20 (il [⟨1,0,2,false⟩])))) 2=_:=Xe _ (by simpa using Ye s4 (by simp));generalize (σ4.set 3 .dead).set 2 (.box (jE 20 20 (il [⟨1,0,2,false⟩])))=σ5 at *;clear b4 u4 s4 Ow;refine Za (v:=cf tI) rfl (Za (v:=.ax false false 7 (lI.map eP)) rfl (Za (v:=iv 7) rfl (Za (v:=iv 0) rfl (Xq (row:=aD tI) (row':=aD tI) rfl rfl rfl ?_))));have b6:=Xd [ab.box (aD tI)] b5 (by simp);have s6:=Xd [ab.box (aD tI)] s5 (by simp);have t6:=Yf σ5 (.box (aD tI));have hl6:=Ye s5 (by simp);generalize σ5.length=tn at *;generalize σ5++[ab.box (aD tI)]=σ6 at *;refine Za rfl (Za rfl (Za rfl (Qb (cM (row':=jE 0 20 (il [⟨1,0,2,false⟩])) s6 rfl rfl rfl) (Xg _ (Ye s6 (by simp))) ?_)));have b7:=Zd (x:=.box (jE 0 20 (il [⟨1,0,2,false⟩]))) b6 (by simp) (show 2≠0 by decide);have t7:=Zd (x:=.box (jE 0 20 (il [⟨1,0,2,false⟩]))) t6 (by simp) (show 2≠tn by omega);have s7:ah (σ6.set 2 (.box (jE 0 20 (il [⟨1,0,2,false⟩])))) 2=_:=Xe _ (Ye s6 (by simp));generalize σ6.set 2 (.box (jE 0 20 (il [⟨1,0,2,false⟩])))=σ7 at *;refine Za rfl (Za rfl (Za rfl (Qb (cM (row':=jE 0 0 (il [⟨1,0,2,false⟩])) s7 rfl rfl rfl) (Xg _ (Ye s7 (by simp))) ?_)));have b8:=Zd (x:=.box (jE 0 0 (il [⟨1,0,2,false⟩]))) b7 (by simp) (show 2≠0 by decide);have t8:=Zd (x:=.box (jE 0 0 (il [⟨1,0,2,false⟩]))) t7 (by simp) (show 2≠tn by omega);have s8:ah (σ7.set 2 (.box (jE 0 0 (il [⟨1,0,2,false⟩])))) 2=_:=Xe _ (Ye s7 (by simp));generalize σ7.set 2 (.box (jE 0 0 (il [⟨1,0,2,false⟩])))=σ8 at *;have hJ:PC 7 [.agg rL,.agg (jE 0 0 (il [⟨1,0,2,false⟩])),.aq,iv 9] (nh (0,tJ,lJ,9)):=Zcu Of (by kernel_rfl);refine Za (v:=.agg rL) (ld b8 rfl) (Za (v:=.agg (jE 0 0 (il [⟨1,0,2,false⟩]))) (ld s8 rfl) (Xb hJ rfl g7.ok.plain rfl ?_));refine Za (v:=cf tJ) rfl (Za (v:=.ax false false 7 (lJ.map eP)) rfl (Za (v:=iv 9) rfl (Za (v:=iv 0) rfl (Xq (row:=aD tJ) (row':=aD tJ) rfl rfl rfl ?_))));have t9:=Xd [ab.box (aD tJ)] t8 (by simp);have r9:=Yf σ8 (.box (aD tJ));generalize σ8.length=rn at *;generalize σ8++[ab.box (aD tJ)]=σ9 at *;refine Za (v:=.bool true) rfl ?_;refine Ya (Za rfl (Ya (Za rfl (Ya (Za rfl (Ya (Za (v:=il []) (ld t9 rfl) (Ya (Za (v:=iv 0) rfl (Ya (Za (v:=.bool true) rfl (Za (v:=.bool true) rfl ?_))))))))))));refine Ya (Za rfl (Ya (Za rfl (Ya (Za rfl (Ya (Za (v:=iv 1) (ld t9 rfl) (Ya (Za (v:=.bool true) rfl (Za (v:=.bool true) rfl ?_))))))))));refine Ya (Za rfl (Ya (Za (v:=iv 3) rfl (Ya (Za (v:=.bool true) rfl (Za (v:=.bool true) rfl ?_))))));refine Ya (Za rfl (Ya (Za (Zp _ eP false false 7 lI .i64 1 (by decide)) (Ya (Za rfl (Ya (Za (v:=ar 14) (an rfl) (Ya (Za (v:=.bool true) rfl (Za (v:=.bool true) rfl ?_))))))))));refine Ya (Za rfl (Ya (Za (v:=.bool true) rfl (Za (v:=.bool true) rfl ?_))));refine Ya (Za rfl (Ya (Za (v:=.bool true) rfl (Za (v:=.bool true) rfl ?_))));refine Ya (Za rfl (Ya (Za (v:=ar 3) (ld r9 rfl) (Ya (Za (v:=.bool true) rfl (Za (v:=.bool true) rfl ?_))))));rfl
end Go.Ah.Tz
end
section
namespace Go.Ah.Tz
open Go.Proofs.Tryz (prog)
open Go.Proofs.YtjdgnfkcaccidaaGreatDoor.Rows (uptoBulk uptoBulkAll)
set_option maxRecDepth 100000
section
variable {H:Type}
abbrev Jo:TypeId:=62
abbrev tk:TypeId:=34
theorem Rb:Zv prog Jo=some [QI,QI,zi]:=by kernel_rfl
theorem Sk:prog.underlying tk=some (.slice Jo):=by kernel_rfl
theorem IM(fuel:Nat)(xs:List aa)(d:DataW H)(h:Typed prog fuel Jo xs d)(_:uptoBulk d≤1048576):∃x,xs=el x∧True∧0≤uptoBulk d:=by
 obtain⟨f,parts,ds,rfl,rfl,rfl,r⟩:=YO h Rb;obtain⟨p0,parts,d0,ds,rfl,rfl,h0,r⟩:=r.cons;obtain⟨p1,parts,d1,ds,rfl,rfl,h1,r⟩:=r.cons;obtain⟨p2,parts,d2,ds,rfl,rfl,h2,r⟩:=r.cons;obtain⟨rfl,rfl⟩:=r.nil;obtain⟨v0,rfl,w0,rfl⟩:=Qz h0 YY;obtain⟨v1,rfl,w1,rfl⟩:=Qz h1 YY;obtain⟨v2,rfl,rfl⟩:=J4 h2 DW;exact⟨⟨v0,v1,v2⟩,rfl,trivial,Nat.zero_le _⟩
theorem Qd3{fuel:Nat}{xs:List aa}{d:DataW H}(h:Typed prog fuel tk xs d)(hb:uptoBulk d≤1048576):∃l:List Tr,xs=[sQ l]∧l.length≤1000000000:=by
 obtain⟨l,e,_,_,k⟩:=XL el (λ_=>0) (λ_=>True) h Sk (by kernel_rfl) (λf _ xs d h hb=>IM f xs d h hb) hb;exact⟨l,e,by omega⟩
end
end Go.Ah.Tz
namespace Go.Proofs.YtjdgnfkcaccidaaGreatDoor
open Go.ChangeShapes Go.WideShapes Go.ChangeAt Go.RowKit Go.Ah Go.Ah.Tz
theorem YbD{H:Type}{enc:TypeId×Value→H}{P:Program}{f:Func}{s:ChangeSpec}{apart fresh handsOn again:Bool}{W W':World}{args:Array Value}{v:Value}{ds gs:List (DataW H)}{before pa pv:List MemPlace}
 (hW:DataW.Whole enc P f.params.toList s.vars apart W args.toList ds gs before)
 (mf:∀(b:Nat) (sp:Nat→Bool) (hd:Bool),DataW.TrodAll enc P W' b sp hd f.resultTypes.toList (v.resultList f.resultTypes.size) (s.fn H (ds++gs)).results [])
 (ue:∀sp:Nat→Bool,(∀p∈before,sp p.block=true)→DataW.TrodAll enc P W' 0 sp true f.params.toList args.toList (s.fn H (ds++gs)).args pa)
 (yN:∀sp:Nat→Bool,(∀p∈before,sp p.block=true)→DataW.TrodVars enc P W' sp s.vars (s.fn H (ds++gs)).vars pv)
 (sH:before=pa++pv)(hb:Below W.heap.size W W')
 (bV:∀(j:Nat) (t:TypeId) (r:Value),f.resultTypes[j]?=some t→(v.resultList f.resultTypes.size)[j]?=some r→Value.okWide P W' .any 0 t r) :
  s.post enc P f apart fresh handsOn again W args v W':=by
 have hold:∀p∈before,(λb=>decide (b<W.heap.size)) p.block=true:=λp hp=>by simpa using hW.lt p hp
 refine⟨ds,gs,before,[],pa,pv,hW,mf _ _ _,ue _ hold,yN _ hold,World.keptBut_mono (λp hp=>⟨hp,?_⟩) (hb.frame (·∈before)),λ_=>?_⟩
 ·rw[sH,List.mem_append] at hp;exact Or.inr hp
 ·have cp:=hW.lt;obtain⟨_,_,_,_,_,hz,hn⟩:=hW;refine⟨bV,_,_,([]++pa)++pv,⟨[]++pa,pv,trodAll_append (ue _ (λ_ _=>rfl)) (mf _ _ _),yN _ (λ_ _=>rfl),rfl,?_,?_⟩,?_⟩
  ·intro b off hp;have cY:MemPlace.cell b off∈before:=by rw[sH]; simpa using hp
   rw[hb.frozen (p:=⟨b,off,none⟩) (show b<W.heap.size from cp _ cY)];exact hz b off cY
  ·intro ha;have:=hn ha;rw[sH] at this;simpa using this
  ·intro p hp _;rw[sH];simpa using hp
set_option maxRecDepth 100000
abbrev IA:TypeId:=5
abbrev Uv:TypeId:=287
theorem F1:ownKnob Tryz.prog.godebug=none:=by kernel_rfl
theorem Ux:Tryz.prog.globalNamed "strings.asciiSpace" = some 1:=by kernel_rfl
theorem YcN:(Tryz.prog.globals[1]?).map (·.type)=some Uv:=by kernel_rfl
theorem ZcN:laidOutB Tryz.prog=true:=by kernel_rfl
def gO:List Int:=(List.range 256).map λi=>match (Nat.ble 9 i&&Nat.ble i 13)||Nat.beq i 32 with|true=>1|false=>0
theorem XdB{l:List (String×DataW Unit)}{x0 x1 x2 x3:String×DataW Unit}(hl:l=[x0,x1,x2,x3,("strings.asciiSpace",Lib.tabData .u8 gO)]){W:World}(h:laidMet Tryz.prog l W):∀p∈aK,Den (λb=>W.heap[b]?) bg (.ao p.2 0) (.pointer (some ⟨p.1,0,none⟩)):=by
 subst hl;have ht:Lib.TabIs Tryz.prog W "strings.asciiSpace" .u8 gO:=Lib.tabIs_of_head (rest:=[]) Ux YcN (show Tryz.prog.underlying Uv=some (.array 256 IA) by kernel_rfl) (show Tryz.prog.underlying IA=some (.int .u8) by kernel_rfl) (by kernel_rfl) (by kernel_rfl) h.tail.tail.tail.tail;have hlen:gO.length=256:=by simp[gO]
 have dT:xt=gO.map (aa.int .u8):=by rw[xt,gO,List.map_map]; rfl
 intro p hp;simp only[aK,List.mem_singleton] at hp;subst hp;refine .ao _ xt 0 1 0 (λk=>.int .u8 (gO.getD k 0)) (λk hk=>?_) (λk y hy=>?_)
 ·have uy:k<gO.length:=by rw[dT,List.length_map] at hk; exact hk
  have:=(MN (ht.cell Ux k uy)).2;rw[Nat.zero_add]; exact this
 ·rw[dT,List.getElem?_map] at hy;obtain⟨z,hz,rfl⟩:=Option.map_eq_some_iff.1 hy;have:gO.getD k 0=z:=by simp[List.getD,hz]
  rw[this]; exact .int _ _ _
def Ji:List TypeId:=[vp,QI,zi,wq,DX,Jq,D3,MU,EC,xO,EM,Ns,Fp,Mi,Kt,tv,EN,Nt,xS,JL,LH,tq]
theorem UO:Ji.all (xH Tryz.prog Ji)=true:=by kernel_rfl
theorem Sl{M:Nat→Option Obj}{xs:List aa}{cs:Array Value}(h:DL M xs cs.toList):Den M bg (.agg xs) (.agg cs):=
 .agg _ _ _ (by have:=h.1; simpa using this.symm) (λi x v h1 h2=>h.2 i x v h1 (by simpa using h2))
theorem TY{P:Program}{t:TypeId}{ts:List TypeId}(h:Zv P t=some ts):∃fs,P.underlying t=some (.struct fs):=by
 unfold Zv at h;split at h
 ·rename_i fs e; exact⟨fs,e⟩
 ·cases h
section
variable {H:Type} {enc:TypeId×Value→H} {W:World} {base:Nat} {v:Value} {d:DataW H} {ps:List MemPlace}
theorem ZdR(ho:Value.okWide Tryz.prog W .any base tv v)(h:DataW.Trod enc Tryz.prog W 0 (λ_=>true) true tv v d ps)(hb:Rows.uptoBulk d≤1048576):∃b:Bk,aS b=true∧Zj b.af∧Den (λk=>W.heap[k]?) bg (dg b) v:=by
 obtain⟨fs,OP⟩:=TY HX;obtain⟨cs,rfl,_⟩:=okWide_struct OP ho;obtain⟨fuel,hf⟩:=h;obtain⟨_,xs,h1,h2⟩:=I7 (S:=Ji) UO fuel tv (by decide) _ _ ⟨_,hf⟩;obtain⟨b,rfl,k1,k2⟩:=IE h2 hb;exact⟨b,k1,k2,Sl h1⟩
theorem QdB(ho:Value.okWide Tryz.prog W .any base tq v)(h:DataW.Trod enc Tryz.prog W 0 (λ_=>true) true tq v d ps)(hb:Rows.uptoBulk d≤1048576):∃s:St,bu 2000000 s∧Den (λk=>W.heap[k]?) bg (cf s) v:=by
 obtain⟨fs,OP⟩:=TY HY;obtain⟨cs,rfl,_⟩:=okWide_struct OP ho;obtain⟨fuel,hf⟩:=h;obtain⟨_,xs,h1,h2⟩:=I7 (S:=Ji) UO fuel tq (by decide) _ _ ⟨_,hf⟩;obtain⟨s,rfl,k⟩:=IK h2 hb;exact⟨s,k,Sl h1⟩
theorem F0(ho:Value.okWide Tryz.prog W .any base QI v)(h:DataW.Trod enc Tryz.prog W 0 (λ_=>true) true QI v d ps):∃n:Int,Den (λk=>W.heap[k]?) bg (iv n) v:=by
 obtain⟨n,rfl,_⟩:=open_int YY ho h;exact⟨n,.int _ _ _⟩
end
theorem JG{H:Type}{enc:TypeId×Value→H}{t:TypeId}(hr:Tryz.prog.readableRec t=true)(dT:t<Tryz.prog.types.size){W W':World}{v:Value}{d:DataW H}{ps all:List MemPlace}(h:DataW.Trod enc Tryz.prog W 0 (λ_=>true) true t v d ps)(hb:Below W.heap.size W W')(cp:∀p∈all,p.block<W.heap.size)(cY:∀p∈ps,p∈all){sp:Nat→Bool}(hs:∀p∈all,sp p.block=true):DataW.Trod enc Tryz.prog W' 0 sp true t v d ps:=
 WideElems.Trod_stays ZcN hr dT h (λp hp=>hb.same (cp p (cY p hp))) (λp hp=>hs p (cY p hp))
theorem Kp(t:TypeId)(h:(Tryz.prog.readableRec t&&decide (t<Tryz.prog.types.size))=true):Tryz.prog.readableRec t=true∧t<Tryz.prog.types.size:=by simpa using h
theorem HO:Tryz.prog.readableRec tv=true∧tv<Tryz.prog.types.size:=Kp tv (by kernel_rfl)
theorem HP:Tryz.prog.readableRec tq=true∧tq<Tryz.prog.types.size:=Kp tq (by kernel_rfl)
theorem Sn:Tryz.prog.readableRec QI=true∧QI<Tryz.prog.types.size:=Kp QI (by kernel_rfl)
def Nl:List TypeId:=[QI,zi,Jo,tk]
theorem Ycr:Nl.all (xH Tryz.prog Nl)=true:=by kernel_rfl
theorem Vq:Tryz.prog.readableRec tk=true∧tk<Tryz.prog.types.size:=Kp tk (by kernel_rfl)
section
variable {H:Type} {enc:TypeId×Value→H} {W:World} {base:Nat} {v:Value} {d:DataW H} {ps:List MemPlace}
theorem F4(ho:Value.okWide Tryz.prog W .any base tk v)(h:DataW.Trod enc Tryz.prog W 0 (λ_=>true) true tk v d ps)(hb:Rows.uptoBulk d≤1048576):∃l:List Tr,l.length≤1000000000∧Den (λk=>W.heap[k]?) bg (sQ l) v:=by
 obtain⟨a,len,cap,rfl⟩:=okWide_slice Sk ho;obtain⟨fuel,hf⟩:=h;obtain⟨_,xs,h1,h2⟩:=I7 (S:=Nl) Ycr fuel tk (by decide) _ _ ⟨_,hf⟩;obtain⟨l,rfl,k1⟩:=Qd3 h2 hb;exact⟨l,k1,h1.2 0 _ _ rfl rfl⟩
end
theorem Xm{a b:Bool}(h:a=true)(k:b=true):(a&&b)=true:=by rw[h,k]; rfl
def F3:List Int:=[1,10,100,1000,10000,100000,1000000,10000000,100000000,1000000000,10000000000,100000000000,1000000000000,10000000000000,100000000000000,1000000000000000,10000000000000000,100000000000000000,1000000000000000000,10000000000000000000]
def FY:List Int:=[0,1,28,2,29,14,24,3,30,22,20,15,25,17,4,8,31,27,13,23,21,19,16,7,26,12,18,6,11,5,10,9]
def FZ:List Int:=[0,1,56,2,57,49,28,3,61,58,42,50,38,29,17,4,62,47,59,36,45,43,51,22,53,39,33,30,24,18,12,5,63,55,48,27,60,41,37,16,46,35,44,21,52,32,23,11,54,26,40,15,34,20,31,10,25,14,19,9,13,8,7,6]
def Zdi:List Int:=[9,13,1,32,133,101,160,5760,5600,8192,8202,1,8232,8233,1,8239,8287,48,12288,12288,1]
noncomputable def L0 (os:Os):World:=
 let w0:=World.holding Tryz.prog os ⟨#[],#[],[]⟩
 let put (h:Array Obj) (g:Nat) (cs:Array Value):Array Obj:=h.modify g fun
  |.cells _ t frozen=>.cells cs t frozen
  |o=>o
 let h1:=put w0.heap 0 (F3.map λz=>Value.int .u64 z).toArray
 let h2:=put h1 1 (gO.map λz=>Value.int .u8 z).toArray
 let h3:=put h2 2 (FY.map λz=>Value.int .u8 z).toArray
 let h4:=put h3 3 (FZ.map λz=>Value.int .u8 z).toArray
 let h5:=put h4 4 #[.pointer (some ⟨w0.heap.size,0,none⟩)]
 { w0 with heap:=(h5.push (.cells #[.slice (some ⟨w0.heap.size+1,0,none⟩) 7 7,.slice none 0 0,.int .i64 2] 299 (0,0))).push (.cells (Zdi.map λz=>Value.int .u16 z).toArray 302 (0,0)) }
theorem Zb9:Rows.wakeQuietUptoRow.laid=[("math/bits.deBruijn32tab",Rows.laid_math_bits_deBruijn32tab),("math/bits.deBruijn64tab",Rows.laid_math_bits_deBruijn64tab),("internal/strconv.uint64pow10",Rows.laid_internal_strconv_uint64pow10),("unicode.White_Space",Rows.laid_unicode_White_Space),("strings.asciiSpace",Lib.tabData .u8 gO)]:=by kernel_rfl
theorem W2(H:Type)(enc:TypeId×Value→H)(W:World)(base:Nat)(args:Array Value)(ds gs:List (DataW H))(before:List MemPlace)
 (qY:∀(j:Nat) t v,Tryz.f3.params[j]?=some t→args[j]?=some v→Value.okWide Tryz.prog W .any base t v)
 (hW:DataW.Whole enc Tryz.prog Tryz.f3.params.toList Rows.wakeQuietSpec.vars false W args.toList ds gs before)(hk:Rows.uptoSmall H (ds++gs)=true)(hL:laidMetH Tryz.prog Rows.wakeQuietUptoRow.laid W) :
  Calls Tryz.prog 3 args W λe W'=>∃v,e=.returned v∧Rows.wakeQuietSpec.post enc Tryz.prog Tryz.f3 false true false false W args v W':=by
 have hW':=hW;have cp:=hW.lt;obtain⟨p,q,hA0,hV,rfl,hfz,hnd⟩:=hW;have hA:DataW.TrodAll enc Tryz.prog W 0 (λ_=>true) true Tryz.f3.params.toList args.toList ds p:=hA0;rw[Tryz.params3] at hA qY;obtain⟨v0,vs,d0,ds,p0,p,ue,rfl,rfl,h0,r⟩:=trodAll_cons hA;obtain⟨v1,vs,d1,ds,p1,p,rfl,rfl,rfl,h1,r⟩:=trodAll_cons r;obtain⟨v2,vs,d2,ds,p2,p,rfl,rfl,rfl,h2,r⟩:=trodAll_cons r;obtain⟨v3,vs,d3,ds,p3,p,rfl,rfl,rfl,h3,r⟩:=trodAll_cons r;obtain⟨rfl,rfl,rfl⟩:=trodAll_nil r;obtain rfl:args = #[v0,v1,v2,v3]:=by cases args; simp_all
 obtain⟨rfl,rfl⟩:=trodVars_none hV;have gK:Rows.uptoBulkAll [d0,d1,d2,d3]≤1048576:=of_decide_eq_true hk;simp only[Rows.uptoBulkAll] at gK;obtain⟨b,hf,bN,e0⟩:=ZdR (qY 0 _ v0 rfl rfl) h0 (by omega);obtain⟨s,hs,e1⟩:=QdB (qY 1 _ v1 rfl rfl) h1 (by omega);obtain⟨a2,l2,e2⟩:=F4 (qY 2 _ v2 rfl rfl) h2 (by omega);obtain⟨n3,e3⟩:=F0 (qY 3 _ v3 rfl rfl) h3;have hg:=XdB Zb9 (show laidMet Tryz.prog Rows.wakeQuietUptoRow.laid W from hL);refine(q20 p91 b hf bN s hs a2 n3 l2 W (λk=>W.heap[k]?) [v0,v1,v2,v3] (λ_ _ h=>h) hg ⟨e0,e1,e2,e3,trivial⟩).mono ?_;rintro e W' ⟨u,rfl,GR,M',_,_,_,hd⟩;cases hd;have hb:=GR.below;refine⟨_,rfl,YbD (pa:=p0++(p1++(p2++(p3++[])))) (pv:=[]) hW' (λ_ _ _=>trodAll_cons_mk (shut_bool DW _) trodAll_mk0) (λsp sa=>?_) (λ_ _=>rfl) rfl hb (ok_one (by kernel_rfl) rfl (okWide_bool_mk DW _))⟩;rw[Tryz.params3];refine trodAll_cons_mk (JG HO.1 HO.2 h0 hb cp (λp hp=>by simp[hp]) sa) <| trodAll_cons_mk (JG HP.1 HP.2 h1 hb cp (λp hp=>by simp[hp]) sa) <| trodAll_cons_mk (JG Vq.1 Vq.2 h2 hb cp (λp hp=>by simp[hp]) sa) <| trodAll_cons_mk (JG Sn.1 Sn.2 h3 hb cp (λp hp=>by simp[hp]) sa) trodAll_mk0
def JD:Array Value:=#[.agg #[.slice none 0 0,.slice none 0 0],.agg #[.int .i64 0,.int .i64 0,.int .i8 0,.bool false,.int .i8 0,.slice none 0 0,.int .i64 0,.int .i64 0,.int .i64 0,.int .i64 0,.slice none 0 0,.slice none 0 0,.slice none 0 0,.slice none 0 0,.slice none 0 0,.int .i64 0,.int .i64 0,.int .i64 0,.slice none 0 0,.slice none 0 0,.slice none 0 0,.slice none 0 0,.slice none 0 0],.slice none 0 0,.int .i64 0]
theorem YcF(os:Os):laidMet Tryz.prog Rows.wakeQuietUptoRow.laid ((L0 os).forCall (λ_ _=>0) ⟨#[],JD,[]⟩).memory:=
 laidMet_of_run' 8 (by kernel_rfl) (by kernel_rfl)
theorem YbY(os:Os){H:Type}(enc:TypeId×Value→H):∃places,DataW.whole enc Tryz.prog ((L0 os).forCall (λ_ _=>0) ⟨#[],JD,[]⟩).memory Tryz.f3.params.toList Rows.wakeQuietSpec.vars false JD.toList 8 =
  some ([.agg [.nil,.nil],.agg [.lit (.int .i64 0),.lit (.int .i64 0),.lit (.int .i8 0),.lit (.bool false),.lit (.int .i8 0),.nil,.lit (.int .i64 0),.agg [.agg [.lit (.int .i64 0),.lit (.int .i64 0),.lit (.int .i64 0),.nil,.nil,.nil,.nil,.nil],.agg [.lit (.int .i64 0),.lit (.int .i64 0),.lit (.int .i64 0),.nil,.nil,.nil,.nil,.nil]]],.nil,.lit (.int .i64 0)],[],places):=⟨[],by kernel_rfl⟩
theorem ZbH(os:Os)(started:os.Started)(H:Type)(enc:TypeId×Value→H)(F:Stop.Interp) :
  ReturnsInHanded {} Tryz.checked os 3 .any ((Rows.OpenSpec.upto Rows.wakeQuietSpec).preRow enc Tryz.prog Tryz.f3 Rows.wakeQuietUptoRow.domain false Rows.wakeQuietUptoRow.laid) (((Rows.OpenSpec.upto Rows.wakeQuietSpec).at F).post enc Tryz.prog Tryz.f3 false true false false):=by
 obtain⟨places,hx⟩:=YbY os enc;refine returnsInHanded_of_row (C:=Tryz.checked) (s:=Rows.OpenSpec.upto Rows.wakeQuietSpec) F1 started (by kernel_rfl) Tryz.func3
  (witness_row_atRef (enc:=enc) (C:=Tryz.checked) false (L0 os) JD rfl (by kernel_rfl) (by kernel_rfl) (by kernel_rfl)
   (OpenSpec.preRow_of_cond 8 hx (by kernel_rfl) (λk hk=>by cases hk; kernel_rfl) (by kernel_rfl) (YcF os))) ?_
 intro W base args ds gs before qY hW _ rV _ hL _ _;exact W2 H enc W base args ds gs before qY hW (rV _ rfl) hL
theorem Qda:Tryz.prog.funcNamed Rows.wakeQuietUptoRow.func=some 3:=by kernel_rfl
theorem Zdb:(Rows.wakeQuietUptoRow.wf (OpenSpec.ofChange (Rows.OpenSpec.upto Rows.wakeQuietSpec).bare))=true:=by kernel_rfl
theorem Ydb:(laidOutB Tryz.prog)=true:=by kernel_rfl
theorem Xdb:(mapsRowed Tryz.prog)=true:=by kernel_rfl
theorem Qdb:(Tryz.f3.params.all (Tryz.prog.readableRec ·))=true:=by kernel_rfl
theorem Zdc:(namedTie Tryz.prog Rows.wakeQuietUptoRow.named (Rows.OpenSpec.upto Rows.wakeQuietSpec).bare.vars)=true:=by kernel_rfl
theorem Ydc:(Rows.wakeQuietUptoRow.stops==[])=true:=by kernel_rfl
theorem Xdc:(Tryz.prog.stops==[])=true:=by kernel_rfl
theorem Qdc:(Rows.wakeQuietUptoRow.knobs==[])=true:=by kernel_rfl
theorem Zdd:(Tryz.prog.stopKnobs==[])=true:=by kernel_rfl
theorem Xcz:(Rows.wakeQuietUptoRow.inPlace==Tryz.prog.inPlace 3)=true:=by kernel_rfl
theorem Qcz:(Rows.wakeQuietUptoRow.unfollowed==Tryz.prog.unfollowed 3)=true:=by kernel_rfl
theorem ZcA:(Rows.wakeQuietUptoRow.recurses==Tryz.prog.recurses 3)=true:=by kernel_rfl
theorem YcA:(Rows.wakeQuietUptoRow.named==Tryz.prog.varsNamed 3)=true:=by kernel_rfl
theorem XcA:(Rows.wakeQuietUptoRow.maps==(Tryz.f3.params.toList++(Rows.OpenSpec.upto Rows.wakeQuietSpec).bare.plain.varTypes Tryz.prog).any (Tryz.prog.mapsRec ·))=true:=by kernel_rfl
theorem W_:(Rows.wakeQuietUptoRow.ifaces==(Tryz.f3.params.toList++(Rows.OpenSpec.upto Rows.wakeQuietSpec).bare.plain.varTypes Tryz.prog).any (Tryz.prog.ifacesRec ·))=true:=by kernel_rfl
theorem ZcB:(Rows.wakeQuietUptoRow.mapsOut==Tryz.prog.mapsAmong Tryz.f3.resultTypes.toList)=true:=by kernel_rfl
theorem YcB:(Rows.wakeQuietUptoRow.loops==(Tryz.f3.params.toList++(Rows.OpenSpec.upto Rows.wakeQuietSpec).bare.plain.varTypes Tryz.prog).any (Tryz.prog.loopsFrom ·))=true:=by kernel_rfl
theorem XcB:(Rows.wakeQuietUptoRow.wideKeys==(Tryz.f3.params.toList++(Rows.OpenSpec.upto Rows.wakeQuietSpec).bare.plain.varTypes Tryz.prog++Tryz.f3.resultTypes.toList).any (Tryz.prog.wideKeysFrom ·))=true:=by kernel_rfl
theorem X_:((Rows.OpenSpec.upto Rows.wakeQuietSpec).bare.vars.all (Tryz.prog.varReadable ·))=true:=by kernel_rfl
theorem ZcC:(Tryz.f3.resultTypes.all (λt=>Tryz.prog.readableRec t&&decide (t<Tryz.prog.types.size)))=true:=by kernel_rfl
theorem YcC:(Rows.wakeQuietUptoRow.ifacesOut==Tryz.f3.resultTypes.toList.any (Tryz.prog.ifacesRec ·))=true:=by kernel_rfl
theorem XcC:(Rows.wakeQuietUptoRow.loopsOut==Tryz.f3.resultTypes.toList.any (Tryz.prog.loopsFrom ·))=true:=by kernel_rfl
theorem X':(Rows.wakeQuietUptoRow.plainKeys==Tryz.prog.plainKeys)=true:=by kernel_rfl
theorem ZcD:(Rows.wakeQuietUptoRow.shortTexts.isNone)=true:=by kernel_rfl
theorem YcD:(Tryz.prog.stopsHeard)=true:=by kernel_rfl
theorem XcD:(Tryz.prog.mayEnter)=true:=by kernel_rfl
theorem Y_:(Rows.wakeQuietUptoRow.lifted==Tryz.prog.liftsFinal)=true:=by kernel_rfl
theorem ZcE:(Tryz.prog.make==some Rows.wakeQuietUptoRow.make)=true:=by kernel_rfl
theorem YcE:(Rows.wakeQuietUptoRow.kinds==(if Rows.wakeQuietUptoRow.domain.isEmpty then [] else Tryz.f3.params.toList.map λt=>match Tryz.prog.underlying t with|some (.int k)=>some k|_=>none))=true:=by kernel_rfl
theorem XcE:(Rows.wakeQuietUptoRow.pinned==Rows.wakeQuietUptoRow.pinnedBy)=true:=by kernel_rfl
theorem Y':(Rows.wakeQuietUptoRow.veiled==(Tryz.f3.params.toList++(Rows.OpenSpec.upto Rows.wakeQuietSpec).bare.plain.varTypes Tryz.prog++Tryz.f3.resultTypes.toList).any (Tryz.prog.veiledRec ·))=true:=by kernel_rfl
theorem ZcF:(Rows.wakeQuietUptoRow.veiledFits Tryz.prog Tryz.f3.params.toList (Tryz.f3.params.toList++(Rows.OpenSpec.upto Rows.wakeQuietSpec).bare.plain.varTypes Tryz.prog++Tryz.f3.resultTypes.toList))=true:=by kernel_rfl
theorem WS:joinedFacts Tryz.prog 3 Tryz.f3 (Rows.OpenSpec.upto Rows.wakeQuietSpec).bare Rows.wakeQuietUptoRow=true:=(Xm (Xm (Xm (Xm (Xm (Xm (Xm (Xm (Xm (Xm (Xm (Xm (Xm (Xm (Xm (Xm (Xm (Xm (Xm (Xm (Xm (Xm (Xm (Xm (Xm (Xm (Xm (Xm (Xm (Xm (Xm Zdb Ydb) Xdb) Qdb) Zdc) Ydc) Xdc) Qdc) Zdd) Xcz) Qcz) ZcA) YcA) XcA) W_) ZcB) YcB) XcB) X_) ZcC) YcC) XcC) X') ZcD) YcD) XcD) Y_) ZcE) YcE) XcE) Y') ZcF)
theorem Yb9:Rows.WakeQuietUptoSaid:=
 OpenClaim.holds_of_cond 3 Tryz.f3 rfl rfl rfl rfl rfl rfl rfl ⟨rfl,rfl,rfl,rfl,rfl⟩ rfl rfl rfl rfl rfl Qda Tryz.func3 WS
  (of_decide_eq_true (by kernel_rfl)) (by unfold Func.isWrapper; first|(rw[if_pos (by decide +kernel)]; kernel_rfl)|(rw[if_neg (by decide +kernel)]; exact⟨rfl,rfl⟩))
  (λos started H enc _ F=>by rw[OpenClaim.pre_eq_preRow]; exact ZbH os started H enc F)
theorem ZbY(f:FuncId)(fn:Func)(hf:Tryz.pinned.checked.prog.funcNamed "baize/baizelaw23.WakeQuiet" = some f)(vC:Tryz.pinned.checked.prog.funcs[f]?=some fn) :
  true=Tryz.pinned.checked.prog.looks []∧∀(j:Nat) t,fn.params[j]?=some t→Tryz.pinned.checked.prog.wantsStandIn t=false:=by
 obtain rfl:f=3:=Option.some.inj ((show Tryz.prog.funcNamed "baize/baizelaw23.WakeQuiet" = some 3 by kernel_rfl).symm.trans hf) |>.symm;obtain rfl:fn=Tryz.f3:=(Option.some.inj (Tryz.func3.symm.trans vC)).symm;refine⟨by kernel_rfl,λj t ht=>?_⟩;rw[Tryz.params3] at ht;have hm:t∈[tv,tq,tk,QI]:=by simpa using Array.mem_of_getElem? ht
 have iD:([tv,tq,tk,QI].all λu=>!Tryz.prog.wantsStandIn u)=true:=by kernel_rfl
 exact(show Tryz.prog.wantsStandIn t=false by simpa using List.all_eq_true.1 iD t hm)
theorem wakeQuiet_upto_card:Rows.WakeQuietUptoCardSaid:=
 Claim7.holds_tied_plain_at .later [] _ _ _ _ Yb9 (λ_ h=>by cases h) (by kernel_rfl) (λ_ h=>by cases h) wakeQuietUpto_row_tie rfl ⟨rfl,rfl⟩ (by kernel_rfl) rfl ZbY (by kernel_rfl)
#print axioms wakeQuiet_upto_card
end Go.Proofs.YtjdgnfkcaccidaaGreatDoor
end
