/- Part of the proof that WakeQuiet holds of the program for arguments that together hold at most 1048576 values and letters; no other condition. -/
import Derived.Test.YtjdgnfkcaccidaaGreatDoorZ4
import Derived.Recover
set_option linter.all false
section
namespace Go.Ah.Tz
def Zo(s:St):Int:=((s.s0.aA.length:Int)+s.s0.hand.length+s.s0.aj.length+s.s0.ae.length)+(s.s1.aA.length+s.s1.hand.length+s.s1.aj.length+s.s1.ae.length)
theorem ZQ{n:Nat}{c:Int}{l:List Int}{most:Int}(h:Zn n (c::l) most=true):Zn n l most=true∧0≤c∧c<n:=by
 rw[Yu] at h ⊢;obtain⟨h1,h2⟩:=h;simp only[List.length_cons] at h1;exact⟨⟨by omega,λx hx=>h2 x (List.mem_cons_of_mem _ hx)⟩,h2 c (List.mem_cons_self ..)⟩
theorem Yr{n:Nat}{c:Int}{l:List Int}{most:Int}(h:Zn n l most=true)(hc:0≤c∧c<n)(hl:(l.length:Int)+1≤most):Zn n (l++[c]) most=true:=by
 grind [Yu]
theorem L2{l:List Th}{a:Int}:gU l a=none↔a∉l.map Th.id:=by
 simp[gU]
def I2(s:St)(a k:Int):Prop:=(bj s a).2.2=true∧(bj s a).1=k
theorem Hy{s:St}{a:Int}:I2 s a 0↔a∈s.s0.ae.map Th.id:=by
 grind [I2,bj,gU]
theorem Hz{s:St}{a:Int}:I2 s a 1↔a∉s.s0.ae.map Th.id∧a∈s.s1.ae.map Th.id:=by
 unfold I2 bj;have h:=L2 (l:=s.s0.ae) (a:=a);have h1:=L2 (l:=s.s1.ae) (a:=a)
 grind
theorem Dw{s t:St}(h:La s)(hm:0≤s.mover∧s.mover≤1)(e1:t.phase=s.phase)(e2:t.bF=s.bF)(e3:t.mover=s.mover)(hs:t.al.Sublist s.al)
 (k0:∀a∈t.al,a∈s.s0.ae.map Th.id→a∈t.s0.ae.map Th.id)(k1:∀a∈t.al,a∈s.s1.ae.map Th.id→a∉s.s0.ae.map Th.id→a∈t.s1.ae.map Th.id∧a∉t.s0.ae.map Th.id):La t:=by
 refine⟨λhp=>?_,λhp=>?_⟩
 ·have:=h.1 (by rw[←e1]; exact hp);simp_all
 ·obtain⟨q1,q2,q3,q4⟩:=h.2 (by rw[←e1]; exact hp);refine⟨by rw[e2]; exact q1,Nat.le_trans hs.length_le q2,q3.sublist hs,λa ha=>?_⟩;have hq:=q4 a (hs.subset ha);rw[e3];rcases (show s.mover=0∨s.mover=1 by omega) with e|e
  ·rw[e] at hq ⊢;exact Hy.2 (k0 a ha (Hy.1 hq))
  ·rw[e] at hq ⊢;obtain⟨r1,r2⟩:=Hz.1 hq;obtain⟨t1,t2⟩:=k1 a ha r2 r1;exact Hz.2 ⟨t2,t1⟩
theorem TG(s:St)(h:(a_ s 0).2.2=0):(gD (s.s0.aJ-1)=true∧a_ s 0=({ s with s0:={ s.s0 with aJ:=s.s0.aJ-1 } },⟨3,0,-1,0,0,0,[]⟩,0)) ∨
  (∃c l,s.s0.aA=c::l∧a_ s 0=({ s with s0:={ s.s0 with aA:=l,aj:=s.s0.aj++[c],told:=s.s0.told++[c] },s1:={ s.s1 with told:=s.s1.told++[c] } },⟨4,0,c,0,0,0,[]⟩,0))∨(∃c l,s.s0.aA=c::l∧s.s0.hand.length<10∧a_ s 0=({ s with s0:={ s.s0 with aA:=l,hand:=s.s0.hand++[c],told:=s.s0.told++[c] } },⟨3,0,c,0,0,0,[]⟩,0)):=by
 cases hd:s.s0.aA with
 |nil=>
  have e:a_ s 0=if gD (s.s0.aJ-1) then ({ s with s0:={ s.s0 with aJ:=s.s0.aJ-1 } },⟨3,0,-1,0,0,0,[]⟩,0) else (je,kS,171):=by
   show (match s.s0.aA with | []=>_|c::l=>_)=_;rw[hd]; rfl
  grind
 |cons c l=>
  right;by_cases hh:10≤s.s0.hand.length
  ·left;refine⟨c,l,rfl,?_⟩;show (match s.s0.aA with | []=>_|c::l=>_)=_;rw[hd]; show (if 10≤s.s0.hand.length then _ else _)=_;rw[if_pos hh]; rfl
  ·right;refine⟨c,l,rfl,by omega,?_⟩;show (match s.s0.aA with | []=>_|c::l=>_)=_;rw[hd]; show (if 10≤s.s0.hand.length then _ else _)=_;rw[if_neg hh]; rfl
theorem Zb2{b:Bk}{s:St}(hM:dC b s)(h:(a_ s 0).2.2=0)(g0:s.s0.aj.length<1000000)(t0:s.s0.told.length<1000000)(t1:s.s1.told.length<1000000):dC b (a_ s 0).1∧Zo (a_ s 0).1=Zo s:=by
 have S:=hM.s0;rcases TG s h with ⟨hw,e⟩|⟨c,l,hd,e⟩|⟨c,l,hd,hh,e⟩
 ·rw[e];refine⟨⟨hM.hd,⟨hw,S.aW,S.most,S.aA,S.hand,S.aj,S.told,S.ae⟩,hM.s1,hM.un,hM.at_⟩,rfl⟩
 ·rw[e];have pB:=S.aA;rw[hd] at pB;obtain⟨d1,d2⟩:=ZQ pB;have hl:s.s0.aA.length=l.length+1:=by rw[hd]; rfl
  refine⟨⟨hM.hd,⟨S.aJ,S.aW,S.most,d1,S.hand,Yr S.aj d2 (by omega),Yr S.told d2 (by omega),S.ae⟩,⟨hM.s1.aJ,hM.s1.aW,hM.s1.most,hM.s1.aA,hM.s1.hand,hM.s1.aj,Yr hM.s1.told d2 (by omega),hM.s1.ae⟩,hM.un,hM.at_⟩,by simp[Zo,hl]; omega⟩
 ·rw[e];have pB:=S.aA;rw[hd] at pB;obtain⟨d1,d2⟩:=ZQ pB;have hl:s.s0.aA.length=l.length+1:=by rw[hd]; rfl
  refine⟨⟨hM.hd,⟨S.aJ,S.aW,S.most,d1,Yr S.hand d2 (by omega),S.aj,Yr S.told d2 (by omega),S.ae⟩,hM.s1,hM.un,hM.at_⟩,by simp[Zo,hl]; omega⟩
theorem Sw(s:St)(h:(a_ s 1).2.2=0):(gD (s.s1.aJ-1)=true∧a_ s 1=({ s with s1:={ s.s1 with aJ:=s.s1.aJ-1 } },⟨3,1,-1,0,0,0,[]⟩,0)) ∨
  (∃c l,s.s1.aA=c::l∧a_ s 1=({ s with s1:={ s.s1 with aA:=l,aj:=s.s1.aj++[c],told:=s.s1.told++[c] },s0:={ s.s0 with told:=s.s0.told++[c] } },⟨4,1,c,0,0,0,[]⟩,0))∨(∃c l,s.s1.aA=c::l∧s.s1.hand.length<10∧a_ s 1=({ s with s1:={ s.s1 with aA:=l,hand:=s.s1.hand++[c],told:=s.s1.told++[c] } },⟨3,1,c,0,0,0,[]⟩,0)):=by
 cases hd:s.s1.aA with
 |nil=>
  have e:a_ s 1=if gD (s.s1.aJ-1) then ({ s with s1:={ s.s1 with aJ:=s.s1.aJ-1 } },⟨3,1,-1,0,0,0,[]⟩,0) else (je,kS,171):=by
   show (match s.s1.aA with | []=>_|c::l=>_)=_;rw[hd]; rfl
  grind
 |cons c l=>
  right;by_cases hh:10≤s.s1.hand.length
  ·left;refine⟨c,l,rfl,?_⟩;show (match s.s1.aA with | []=>_|c::l=>_)=_;rw[hd]; show (if 10≤s.s1.hand.length then _ else _)=_;rw[if_pos hh]; rfl
  ·right;refine⟨c,l,rfl,by omega,?_⟩;show (match s.s1.aA with | []=>_|c::l=>_)=_;rw[hd]; show (if 10≤s.s1.hand.length then _ else _)=_;rw[if_neg hh]; rfl
theorem Yb2{b:Bk}{s:St}(hM:dC b s)(h:(a_ s 1).2.2=0)(g0:s.s1.aj.length<1000000)(t0:s.s0.told.length<1000000)(t1:s.s1.told.length<1000000):dC b (a_ s 1).1∧Zo (a_ s 1).1=Zo s:=by
 have S:=hM.s1;rcases Sw s h with ⟨hw,e⟩|⟨c,l,hd,e⟩|⟨c,l,hd,hh,e⟩
 ·rw[e];refine⟨⟨hM.hd,hM.s0,⟨hw,S.aW,S.most,S.aA,S.hand,S.aj,S.told,S.ae⟩,hM.un,hM.at_⟩,rfl⟩
 ·rw[e];have pB:=S.aA;rw[hd] at pB;obtain⟨d1,d2⟩:=ZQ pB;have hl:s.s1.aA.length=l.length+1:=by rw[hd]; rfl
  refine⟨⟨hM.hd,⟨hM.s0.aJ,hM.s0.aW,hM.s0.most,hM.s0.aA,hM.s0.hand,hM.s0.aj,Yr hM.s0.told d2 (by omega),hM.s0.ae⟩,⟨S.aJ,S.aW,S.most,d1,S.hand,Yr S.aj d2 (by omega),Yr S.told d2 (by omega),S.ae⟩,hM.un,hM.at_⟩,by simp[Zo,hl]; omega⟩
 ·rw[e];have pB:=S.aA;rw[hd] at pB;obtain⟨d1,d2⟩:=ZQ pB;have hl:s.s1.aA.length=l.length+1:=by rw[hd]; rfl
  refine⟨⟨hM.hd,hM.s0,⟨S.aJ,S.aW,S.most,d1,Yr S.hand d2 (by omega),S.aj,Yr S.told d2 (by omega),S.ae⟩,hM.un,hM.at_⟩,by simp[Zo,hl]; omega⟩
theorem RN{b:Bk}{n:Int}{u:Th}(h:Zq b n u=true):Zq b (n+1) u=true:=by
 simp only[Zq,Bool.and_eq_true,decide_eq_true_eq] at h ⊢
 grind
theorem W9{b:Bk}{n:Int}{u:Th}(h:Zq b n u=true):u.id<n:=by
 simp_all [Zq]
theorem Ts{b:Bk}{s:St}(h:Jr b s):s.next∉(s.s0.ae++s.s1.ae).map Th.id:=by
 intro hm;obtain⟨u,hu,e⟩:=List.mem_map.1 hm;have:=W9 (h.1 u hu);omega
theorem T_{l:List Th}{k:Nat}{u v:Th}(h:l[k]?=some u)(e:v.id=u.id):(l.set k v).map Th.id=l.map Th.id:=by
 rw[List.map_set,e];have hk:k<l.length:=(gn h).1;have h2:(l.map Th.id)[k]?=some u.id:=by rw[List.getElem?_map,h]; rfl
 obtain⟨yE,h3⟩:=gn h2;rw[←h3,List.set_getElem_self]
theorem JQ{l:List Th}{k:Nat}{u:Th}{a:Int}(h:l[k]?=some u)(ha:a∈l.map Th.id)(cL:a≠u.id):a∈(l.eraseIdx k).map Th.id:=by
 obtain⟨v,hv,rfl⟩:=List.mem_map.1 ha;obtain⟨hk,hu⟩:=gn h;obtain⟨l1,w,l2,e1,e2,e3⟩:=Uj l k hk;simp_all
theorem Ut{n:Int}(h0:0≤n)(h1:n<13835058055282163712)(h:gD (IntKind.i64.wrap n)=true):0≤IntKind.i64.wrap n:=by
 grind [IntKind.wrap,IntKind.bits,tp]
theorem QdN(n:Int):IntKind.i64.wrap n<9223372036854775808:=by
 grind [IntKind.wrap,IntKind.signed,IntKind.bits]
theorem Ua(n:Int):0≤iu n∧iu n≤4000000:=by unfold iu; omega
theorem WU{b:Bk}{s:St}{c:Int}(hM:dC b s)(h:ZU b s 0 c=false):dC b (XG s 0 c)∧Zo (XG s 0 c)=Zo s+1:=by
 simp only[ZU,Bool.or_eq_false_iff,decide_eq_false_iff_not] at h;obtain⟨⟨⟨⟨h1,h2⟩,h3⟩,h4⟩,h5⟩:=h;have h4:¬7≤(s.s0.ae.length:Int):=h4;obtain⟨d1,d2,d3,d4,d5,d6,d7,d8,d9,d10,d11⟩:=hM.hd;have Pe:=Ts hM.un;have S:=hM.s0;refine⟨⟨⟨d1,d2,d3,d4,d5,d6,d7,d8,d9,by show 1≤s.next+1; omega,by show s.next+1≤1000000; omega⟩,⟨S.aJ,S.aW,S.most,S.aA,S.hand,S.aj,S.told,by show (s.s0.ae++[_]).length≤7; simp; omega⟩,hM.s1,⟨?_,?_⟩,?_⟩,?_⟩
 ·intro u hu;show Zq b (s.next+1) u=true;have hu:u∈s.s0.ae++s.s1.ae∨u=(⟨s.next,c,0,true⟩:Th):=by
   have:u∈(s.s0.ae++[(⟨s.next,c,0,true⟩:Th)])++s.s1.ae:=hu
   grind
  rcases hu with hu|rfl
  ·exact RN (hM.un.1 u hu)
  ·have hc:c.toNat<b.af.length:=by omega
   simp only[Zq,Bool.and_eq_true,decide_eq_true_eq]
   grind
 ·have e:((XG s 0 c).s0.ae++(XG s 0 c).s1.ae).map Th.id=s.s0.ae.map Th.id++s.next::s.s1.ae.map Th.id:=by
   show ((s.s0.ae++[(⟨s.next,c,0,true⟩:Th)])++s.s1.ae).map Th.id=_;simp
  rw[e,List.perm_middle.nodup_iff,List.nodup_cons];rw[←List.map_append];exact⟨Pe,hM.un.2⟩
 ·refine Dw hM.at_ ⟨d3,d4⟩ rfl rfl rfl (List.Sublist.refl _) (λa _ ha=>?_) (λa _ ha hn=>⟨?_,?_⟩)
  ·show a∈(s.s0.ae++[_]).map Th.id; simp_all
  ·exact ha
  ·show a∉(s.s0.ae++[_]).map Th.id; grind
 ·show ((s.s0.aA.length:Int)+s.s0.hand.length+s.s0.aj.length+(s.s0.ae++[(⟨s.next,c,0,true⟩:Th)]).length)+(s.s1.aA.length+s.s1.hand.length+s.s1.aj.length+s.s1.ae.length)=_;simp[Zo]; omega
theorem ZbM{b:Bk}{s:St}{c:Int}(hM:dC b s)(h:ZU b s 1 c=false):dC b (XG s 1 c)∧Zo (XG s 1 c)=Zo s+1:=by
 simp only[ZU,Bool.or_eq_false_iff,decide_eq_false_iff_not] at h;obtain⟨⟨⟨⟨h1,h2⟩,h3⟩,h4⟩,h5⟩:=h;have h4:¬7≤(s.s1.ae.length:Int):=h4;obtain⟨d1,d2,d3,d4,d5,d6,d7,d8,d9,d10,d11⟩:=hM.hd;have Pe:=Ts hM.un;have S:=hM.s1;refine⟨⟨⟨d1,d2,d3,d4,d5,d6,d7,d8,d9,by show 1≤s.next+1; omega,by show s.next+1≤1000000; omega⟩,hM.s0,⟨S.aJ,S.aW,S.most,S.aA,S.hand,S.aj,S.told,by show (s.s1.ae++[_]).length≤7; simp; omega⟩,⟨?_,?_⟩,?_⟩,?_⟩
 ·intro u hu;show Zq b (s.next+1) u=true;have hu:u∈s.s0.ae++s.s1.ae∨u=(⟨s.next,c,0,true⟩:Th):=by
   have:u∈s.s0.ae++(s.s1.ae++[(⟨s.next,c,0,true⟩:Th)]):=hu
   grind
  rcases hu with hu|rfl
  ·exact RN (hM.un.1 u hu)
  ·have hc:c.toNat<b.af.length:=by omega
   simp only[Zq,Bool.and_eq_true,decide_eq_true_eq]
   grind
 ·have e:((XG s 1 c).s0.ae++(XG s 1 c).s1.ae).map Th.id=(s.s0.ae++s.s1.ae).map Th.id++s.next::[]:=by
   show (s.s0.ae++(s.s1.ae++[(⟨s.next,c,0,true⟩:Th)])).map Th.id=_;simp
  rw[e,List.perm_middle.nodup_iff,List.nodup_cons];rw[List.append_nil];exact⟨Pe,hM.un.2⟩
 ·refine Dw hM.at_ ⟨d3,d4⟩ rfl rfl rfl (List.Sublist.refl _) (λa _ ha=>?_) (λa _ ha hn=>⟨?_,?_⟩)
  ·exact ha
  ·show a∈(s.s1.ae++[_]).map Th.id; simp_all
  ·exact hn
 ·show ((s.s0.aA.length:Int)+s.s0.hand.length+s.s0.aj.length+s.s0.ae.length)+(s.s1.aA.length+s.s1.hand.length+s.s1.aj.length+(s.s1.ae++[(⟨s.next,c,0,true⟩:Th)]).length)=_;simp[Zo]; omega
theorem SU{b:Bk}{n h:Int}{u:Th}(k:Zq b n u=true)(h0:0≤h)(h1:h≤1000000):Zq b n { u with harm:=h }=true:=by
 simp only[Zq,Bool.and_eq_true,decide_eq_true_eq] at k ⊢
 grind
theorem TM{b:Bk}{n:Int}{u:Th}(k:Zq b n u=true):0≤u.harm∧u.harm≤1000000:=by
 simp_all [Zq]
theorem Uo{l:List Th}{k:Nat}{v u:Th}(h:u∈l.set k v):u∈l∨u=v:=List.mem_or_eq_of_mem_set h
theorem Xb8{b:Bk}{s:St}(hM:dC b s){k:Nat}{u:Th}(hk:s.s0.ae[k]?=some u){h:Int}(h0:0≤h)(h1:h≤1000000):dC b { s with s0:={ s.s0 with ae:=s.s0.ae.set k { u with harm:=h } } }∧Zo { s with s0:={ s.s0 with ae:=s.s0.ae.set k { u with harm:=h } } }=Zo s:=by
 have S:=hM.s0;have hu:u∈s.s0.ae:=List.mem_of_getElem? hk;have hi:(s.s0.ae.set k { u with harm:=h }).map Th.id=s.s0.ae.map Th.id:=T_ hk rfl;have N:iY b { s.s0 with ae:=s.s0.ae.set k { u with harm:=h } }:=⟨S.aJ,S.aW,S.most,S.aA,S.hand,S.aj,S.told,by show (s.s0.ae.set k _).length≤7; rw[List.length_set]; exact S.ae⟩;refine⟨⟨hM.hd,N,hM.s1,⟨λv hv=>?_,?_⟩,?_⟩,?_⟩
 ·have hv:v∈(s.s0.ae.set k { u with harm:=h })++s.s1.ae:=hv;rcases List.mem_append.1 hv with hv|hv
  ·rcases Uo hv with hv|rfl; exact hM.un.1 v (List.mem_append_left _ hv); exact SU (hM.un.1 u (List.mem_append_left _ hu)) h0 h1
  ·exact hM.un.1 v (List.mem_append_right _ hv)
 ·have e:((s.s0.ae.set k { u with harm:=h })++s.s1.ae).map Th.id=(s.s0.ae++s.s1.ae).map Th.id:=by rw[List.map_append,List.map_append,hi]
  show (((s.s0.ae.set k { u with harm:=h })++s.s1.ae).map Th.id).Nodup;rw[e]; exact hM.un.2
 ·refine Dw hM.at_ ⟨hM.hd.2.2.1,hM.hd.2.2.2.1⟩ rfl rfl rfl (List.Sublist.refl _) (λa _ ha=>?_) (λa _ ha hn=>⟨?_,?_⟩)
  ·show a∈(s.s0.ae.set k _).map Th.id; rw[hi]; exact ha
  ·exact ha
  ·show a∉(s.s0.ae.set k _).map Th.id; rw[hi]; exact hn
 ·simp[Zo]
theorem Ru{b:Bk}{s:St}(hM:dC b s){n:Int}(hw:gD n=true):dC b { s with s0:={ s.s0 with aJ:=n } }∧Zo { s with s0:={ s.s0 with aJ:=n } }=Zo s:=by
 have S:=hM.s0;exact⟨⟨hM.hd,⟨hw,S.aW,S.most,S.aA,S.hand,S.aj,S.told,S.ae⟩,hM.s1,hM.un,hM.at_⟩,rfl⟩
theorem WZ{b:Bk}{s:St}(hM:dC b s){k:Nat}{u:Th}(hk:s.s0.ae[k]?=some u)(hg:s.s0.aj.length<1000000) :
  dC b { s with al:=aO u.id s.al,s0:={ s.s0 with ae:=s.s0.ae.eraseIdx k,aj:=s.s0.aj++[u.card] } }∧Zo { s with al:=aO u.id s.al,s0:={ s.s0 with ae:=s.s0.ae.eraseIdx k,aj:=s.s0.aj++[u.card] } }=Zo s:=by
 have S:=hM.s0;have hu:u∈s.s0.ae:=List.mem_of_getElem? hk;have mW:k<s.s0.ae.length:=(gn hk).1;have m8:=List.eraseIdx_sublist s.s0.ae k;have hlen:(s.s0.ae.eraseIdx k).length=s.s0.ae.length-1:=List.length_eraseIdx_of_lt mW;have hc:=Ki (hM.un.1 u (List.mem_append_left _ hu));have N:iY b { s.s0 with ae:=s.s0.ae.eraseIdx k,aj:=s.s0.aj++[u.card] }:=⟨S.aJ,S.aW,S.most,S.aA,S.hand,Yr S.aj ⟨hc.1,by omega⟩ (by omega),S.told,by show (s.s0.ae.eraseIdx k).length≤7; have:=S.ae; omega⟩;refine⟨⟨hM.hd,N,hM.s1,⟨λv hv=>?_,?_⟩,?_⟩,?_⟩
 ·have hv:v∈(s.s0.ae.eraseIdx k)++s.s1.ae:=hv;rcases List.mem_append.1 hv with hv|hv
  ·exact hM.un.1 v (List.mem_append_left _ (m8.subset hv))
  ·exact hM.un.1 v (List.mem_append_right _ hv)
 ·refine hM.un.2.sublist (List.Sublist.map _ ?_);exact m8.append (List.Sublist.refl _)
 ·refine Dw hM.at_ ⟨hM.hd.2.2.1,hM.hd.2.2.2.1⟩ rfl rfl rfl List.filter_sublist (λa ha hm=>?_) (λa ha hm hn=>⟨?_,?_⟩)
  ·have ha:a∈aO u.id s.al:=ha; simp only[aO,List.mem_filter] at ha; exact JQ hk hm (by simpa using ha.2)
  ·exact hm
  ·intro hq; exact hn ((m8.map Th.id).subset hq)
 ·have:0<s.s0.ae.length:=by omega
  simp only[Zo,hlen,List.length_append,List.length_singleton];omega
theorem WQ{b:Bk}{s:St}(hM:dC b s){k:Nat}{u:Th}(hk:s.s1.ae[k]?=some u){h:Int}(h0:0≤h)(h1:h≤1000000):dC b { s with s1:={ s.s1 with ae:=s.s1.ae.set k { u with harm:=h } } }∧Zo { s with s1:={ s.s1 with ae:=s.s1.ae.set k { u with harm:=h } } }=Zo s:=by
 have S:=hM.s1;have hu:u∈s.s1.ae:=List.mem_of_getElem? hk;have hi:(s.s1.ae.set k { u with harm:=h }).map Th.id=s.s1.ae.map Th.id:=T_ hk rfl;have N:iY b { s.s1 with ae:=s.s1.ae.set k { u with harm:=h } }:=⟨S.aJ,S.aW,S.most,S.aA,S.hand,S.aj,S.told,by show (s.s1.ae.set k _).length≤7; rw[List.length_set]; exact S.ae⟩;refine⟨⟨hM.hd,hM.s0,N,⟨λv hv=>?_,?_⟩,?_⟩,?_⟩
 ·have hv:v∈s.s0.ae++(s.s1.ae.set k { u with harm:=h }):=hv;rcases List.mem_append.1 hv with hv|hv
  ·exact hM.un.1 v (List.mem_append_left _ hv)
  ·rcases Uo hv with hv|rfl; exact hM.un.1 v (List.mem_append_right _ hv); exact SU (hM.un.1 u (List.mem_append_right _ hu)) h0 h1
 ·have e:(s.s0.ae++(s.s1.ae.set k { u with harm:=h })).map Th.id=(s.s0.ae++s.s1.ae).map Th.id:=by rw[List.map_append,List.map_append,hi]
  show ((s.s0.ae++(s.s1.ae.set k { u with harm:=h })).map Th.id).Nodup;rw[e]; exact hM.un.2
 ·refine Dw hM.at_ ⟨hM.hd.2.2.1,hM.hd.2.2.2.1⟩ rfl rfl rfl (List.Sublist.refl _) (λa _ ha=>?_) (λa _ ha hn=>⟨?_,?_⟩)
  ·exact ha
  ·show a∈(s.s1.ae.set k _).map Th.id; rw[hi]; exact ha
  ·exact hn
 ·simp[Zo]
theorem UI{b:Bk}{s:St}(hM:dC b s){n:Int}(hw:gD n=true):dC b { s with s1:={ s.s1 with aJ:=n } }∧Zo { s with s1:={ s.s1 with aJ:=n } }=Zo s:=by
 have S:=hM.s1;exact⟨⟨hM.hd,hM.s0,⟨hw,S.aW,S.most,S.aA,S.hand,S.aj,S.told,S.ae⟩,hM.un,hM.at_⟩,rfl⟩
theorem ZbZ{b:Bk}{s:St}(hM:dC b s){k:Nat}{u:Th}(hk:s.s1.ae[k]?=some u)(hg:s.s1.aj.length<1000000) :
  dC b { s with al:=aO u.id s.al,s1:={ s.s1 with ae:=s.s1.ae.eraseIdx k,aj:=s.s1.aj++[u.card] } }∧Zo { s with al:=aO u.id s.al,s1:={ s.s1 with ae:=s.s1.ae.eraseIdx k,aj:=s.s1.aj++[u.card] } }=Zo s:=by
 have S:=hM.s1;have hu:u∈s.s1.ae:=List.mem_of_getElem? hk;have mW:k<s.s1.ae.length:=(gn hk).1;have m8:=List.eraseIdx_sublist s.s1.ae k;have hlen:(s.s1.ae.eraseIdx k).length=s.s1.ae.length-1:=List.length_eraseIdx_of_lt mW;have hc:=Ki (hM.un.1 u (List.mem_append_right _ hu));have N:iY b { s.s1 with ae:=s.s1.ae.eraseIdx k,aj:=s.s1.aj++[u.card] }:=⟨S.aJ,S.aW,S.most,S.aA,S.hand,Yr S.aj ⟨hc.1,by omega⟩ (by omega),S.told,by show (s.s1.ae.eraseIdx k).length≤7; have:=S.ae; omega⟩;refine⟨⟨hM.hd,hM.s0,N,⟨λv hv=>?_,?_⟩,?_⟩,?_⟩
 ·have hv:v∈s.s0.ae++(s.s1.ae.eraseIdx k):=hv;rcases List.mem_append.1 hv with hv|hv
  ·exact hM.un.1 v (List.mem_append_left _ hv)
  ·exact hM.un.1 v (List.mem_append_right _ (m8.subset hv))
 ·refine hM.un.2.sublist (List.Sublist.map _ ?_);exact(List.Sublist.refl _).append m8
 ·refine Dw hM.at_ ⟨hM.hd.2.2.1,hM.hd.2.2.2.1⟩ rfl rfl rfl List.filter_sublist (λa ha hm=>?_) (λa ha hm hn=>⟨?_,?_⟩)
  ·exact hm
  ·have ha:a∈aO u.id s.al:=ha; simp only[aO,List.mem_filter] at ha; exact JQ hk hm (by simpa using ha.2)
  ·exact hn
 ·have:0<s.s1.ae.length:=by omega
  simp only[Zo,hlen,List.length_append,List.length_singleton];omega
theorem Xbw{b:Bk}{s:St}(id:Int)(hM:dC b s)(g0:s.s0.aj.length<1000000)(g1:s.s1.aj.length<1000000) :
  dC b (Xx s id).1∧Zo (Xx s id).1=Zo s∧(Xx s id).1.s0.aj.length≤s.s0.aj.length+1∧(Xx s id).1.s1.aj.length≤s.s1.aj.length+1:=by
 unfold Xx;cases q0:gU s.s0.ae id with
 |some k=>
  obtain⟨u,hk,e⟩:=XY q0;simp only[hk,Option.getD_some];subst e;obtain⟨h1,h2⟩:=WZ hM hk g0;exact⟨h1,h2,by simp,by simp⟩
 |none=>
  cases q1:gU s.s1.ae id with
  |some k=>
   obtain⟨u,hk,e⟩:=XY q1;simp only[hk,Option.getD_some];subst e;obtain⟨h1,h2⟩:=ZbZ hM hk g1;exact⟨h1,h2,by simp,by simp⟩
  |none=>exact⟨hM,rfl,by simp,by simp⟩
theorem Rx{b:Bk}:∀(ids:List Int) {s:St},dC b s→s.s0.aj.length+ids.length≤1000000→s.s1.aj.length+ids.length≤1000000→dC b (Qt ids s).1∧Zo (Qt ids s).1=Zo s
 |[],s,hM,_,_=>⟨hM,rfl⟩
 |id::ids,s,hM,g0,g1=>by
  simp only[List.length_cons] at g0 g1;obtain⟨h1,h2,h3,h4⟩:=Xbw id hM (by omega) (by omega);obtain⟨k1,k2⟩:=Rx ids h1 (by omega) (by omega);exact⟨k1,k2.trans h2⟩
theorem Kj:∀(ids:List Int) (s:St),ids.Nodup→(∀a∈ids,a∈s.s0.ae.map Th.id∨a∈s.s1.ae.map Th.id)→(Qt ids s).2.length=ids.length
 |[],_,_,_=>rfl
 |id::ids,s,hn,cY=>by
  have ja:=List.nodup_cons.1 hn;have cL:∀a∈ids,a≠id:=λa ha e=>ja.1 (e▸ha);have key:(Xx s id).2.length=1∧∀a∈ids,a∈(Xx s id).1.s0.ae.map Th.id∨a∈(Xx s id).1.s1.ae.map Th.id:=by
   unfold Xx;cases q0:gU s.s0.ae id with
   |some k=>
    obtain⟨u,hk,e⟩:=XY q0;simp only[hk,Option.getD_some];refine⟨rfl,λa ha=>?_⟩
    grind [JQ]
   |none=>
    cases q1:gU s.s1.ae id with
    |some k=>
     obtain⟨u,hk,e⟩:=XY q1;simp only[hk,Option.getD_some];refine⟨rfl,λa ha=>?_⟩
     grind [JQ]
    |none=>
     grind [L2]
  have ih:=Kj ids (Xx s id).1 ja.2 key.2;simp only[Qt,List.length_append,List.length_cons,key.1,ih];omega
theorem Mo(b:Bk)(all:List Th):∀(l:List Th) (i:Int),(ZF b all l i).Sublist (l.map Th.id)
 |[],_=>List.Sublist.refl _
 |u::l,i=>by
  have:=Mo b all l (i+1);unfold ZF;rw[List.map_cons];split
  ·exact this.cons_cons _
  ·exact this.cons _
theorem Z1{b:Bk}{s:St}(hM:dC b s):(aN b s).Nodup∧(∀a∈aN b s,a∈s.s0.ae.map Th.id∨a∈s.s1.ae.map Th.id)∧(aN b s).length≤14:=by
 have h0:=Mo b s.s0.ae s.s0.ae 0;have h1:=Mo b s.s1.ae s.s1.ae 0;have hn:=hM.un.2;rw[List.map_append] at hn;have l0:=h0.length_le;have l1:=h1.length_le;rw[List.length_map] at l0 l1;have u0:=hM.s0.ae;have u1:=hM.s1.ae;have k:∀a,a∈YF b s.s0∨a∈YF b s.s1→a∈s.s0.ae.map Th.id∨a∈s.s1.ae.map Th.id:=by
  rintro a (h|h)
  ·exact .inl (h0.subset h)
  ·exact .inr (h1.subset h)
 unfold aN;by_cases hm:s.mover=0
 ·rw[if_pos hm];exact⟨hn.sublist (h0.append h1),λa ha=>k a (List.mem_append.1 ha),by rw[List.length_append]; show (ZF b s.s0.ae s.s0.ae 0).length+(ZF b s.s1.ae s.s1.ae 0).length≤14; omega⟩
 ·rw[if_neg hm];exact⟨(List.perm_append_comm.nodup_iff.1 hn).sublist (h1.append h0),λa ha=>k a (List.mem_append.1 ha).symm,by rw[List.length_append]; show (ZF b s.s1.ae s.s1.ae 0).length+(ZF b s.s0.ae s.s0.ae 0).length≤14; omega⟩
theorem SJ{b:Bk}{s:St}{kd id sd:Int}{fP:Int→Int×Int}{fU:Th→Int×Int}(hM:dC b s)(hP:∀l,0≤(fP l).2)(hU:∀u,0≤u.harm→u.harm≤1000000→0≤(fU u).2∧(gD (fU u).1=true→0≤(fU u).1))(h0:sd=0∨sd=1)(h:(jH kd fP fU s id sd).2.2=0) :
  dC b (jH kd fP fU s id sd).1∧Zo (jH kd fP fU s id sd).1=Zo s∧0≤(jH kd fP fU s id sd).2.1.n:=by
 have z:∀(x:Int),x≠0→(je,kS,x).2.2=0→False:=λx hx h=>hx h;unfold jH at h ⊢;by_cases jg:id=0
 ·rw[if_pos jg] at h ⊢;unfold nE at h ⊢;by_cases hw:gD (fP (s.side sd).aJ).1=true
  ·rw[if_pos hw];rcases h0 with rfl|rfl
   ·exact⟨(Ru hM hw).1,(Ru hM hw).2,hP _⟩
   ·exact⟨(UI hM hw).1,(UI hM hw).2,hP _⟩
  simp_all
 rw[if_neg jg] at h ⊢;by_cases lp:id<0
 ·simp_all
 rw[if_neg lp] at h ⊢;cases q0:gU s.s0.ae id with
 |some k=>
  obtain⟨u,hk,_⟩:=XY q0;rw[q0] at h;simp only[hk,Option.getD_some] at h ⊢;have hh:=TM (hM.un.1 u (List.mem_append_left _ (List.mem_of_getElem? hk)));obtain⟨k1,k2⟩:=hU u hh.1 hh.2;unfold lj at h ⊢;by_cases hw:gD (fU u).1=true
  ·rw[if_pos hw];have:=Xb8 hM hk (k2 hw) (tp.1 hw).2;exact⟨this.1,this.2,k1⟩
  simp_all
 |none=>
  rw[q0] at h;cases q1:gU s.s1.ae id with
  |none=>simp_all
  |some k=>
   obtain⟨u,hk,_⟩:=XY q1;rw[q1] at h;simp only[hk,Option.getD_some] at h ⊢;have hh:=TM (hM.un.1 u (List.mem_append_right _ (List.mem_of_getElem? hk)));obtain⟨k1,k2⟩:=hU u hh.1 hh.2;unfold lj at h ⊢;by_cases hw:gD (fU u).1=true
   ·rw[if_pos hw];have:=WQ hM hk (k2 hw) (tp.1 hw).2;exact⟨this.1,this.2,k1⟩
   simp_all
theorem Qcs{b:Bk}{s:St}{id sd n:Int}(hM:dC b s)(h0:sd=0∨sd=1)(h:(mM b s id sd n).2.2=0):dC b (mM b s id sd n).1∧Zo (mM b s id sd n).1=Zo s∧0≤(mM b s id sd n).2.1.n:=by
 refine SJ hM (λl=>(Ua n).1) (λu h1 h2=>?_) h0 h;have hh:0≤nL b u (iu n)∧nL b u (iu n)<9223372036854775808:=by
  unfold nL;have:=QdN (iu n-Jt b u.card);omega
 grind [Ut]
theorem Yct{b:Bk}{s:St}{id sd n:Int}(hM:dC b s)(h0:sd=0∨sd=1)(h:(na s id sd n).2.2=0):dC b (na s id sd n).1∧Zo (na s id sd n).1=Zo s∧0≤(na s id sd n).2.1.n:=by
 have hc:=Ua n;refine SJ hM (λl=>hc.1) (λu h1 h2=>?_) h0 h
 grind [Ut]
end Go.Ah.Tz
end
section
namespace Go.Ah.Tz
open Go.Proofs.Tryz (prog)
attribute [local irreducible] ak.rd ak.pu ak.wr ak.dr ak.gr ak.gw ak.gl ak.gd ak.opt aH W
set_option maxHeartbeats 4000000
theorem w69(x:aa)(τ:List ab)(K:aa→List ab→Prop)(h:K (.func (.func 136) [x] []) τ):g135.u VV [x] τ K:=by
 rw[H1.e]; unfold g135; dsimp only;exact Za rfl h
theorem NO(m:List aa)(aJ n:Int):PC 136 [.ao m 0,.ei,iv aJ,iv n] (.bn [iv (IntKind.i64.wrap (aJ+n)),iv n]):=by
 refine Yc hP g136.ok rfl rfl ?_;rw[H4.e]; unfold g136; dsimp only;exact Za rfl (Yd (Za (Yj ..) rfl))
theorem NP(b:Bk)(m:List aa)(u:Th)(aJ n:Int):PC 136 [.ao (.ao (bU b) 0::m) 0,.ao (aP u) 0,iv aJ,iv n] (.bn [iv (IntKind.i64.wrap (u.harm-min n u.harm)),iv (min n u.harm)]):=by
 refine Yc hP g136.ok rfl rfl ?_;rw[H4.e]; unfold g136; dsimp only;exact Za rfl (Xc (Za rfl (Za rfl (Za (an rfl) (Za (ZM ..) (Za rfl (Za rfl (Za (an rfl) (Za (sV ..) rfl)))))))))
theorem c26(b:Bk)(hf:aS b=true)(bN:Zj b.af)(s:St)(hs:bu 2000000 s)(hm:aQ (cE b).1 b s true=true)(id sd n:Int)(h0:sd=0∨sd=1):PC 98 [dg b,cf s,iv id,iv sd,iv n] (fQ (na s id sd n)):=
 cT hf bN hs hm (show GQ 98 5 (gT 6 135) from g98.ok) g135.ok w69 g136.ok.plain id sd n h0 (λm aJ=>NO m aJ _) (λm u aJ _ _=>NP b m u aJ _)
def sm(s:St):Int:=s.al.length+(s.s0.aA.length+s.s0.hand.length+s.s0.aj.length+s.s0.ae.length+s.s0.told.length)+(s.s1.aA.length+s.s1.hand.length+s.s1.aj.length+s.s1.ae.length+s.s1.told.length)
theorem NJ(s:St)(hs:bu 2000000 s):PC 5 [cf s] (.bool (decide (2000<sm s))):=by
 have a0:=hs.al;obtain⟨d0,h0,g0,u0,t0⟩:=hs.s0;obtain⟨d1,h1,g1,u1,t1⟩:=hs.s1;have w1:IntKind.i64.wrap (0+1)=1:=by decide
 have w2:IntKind.i64.wrap (1+1)=2:=by decide
 refine Yc hP g5.ok rfl rfl ?_;rw[H1.e]; unfold g5; dsimp only;refine Qb rfl rfl (Za rfl (Za rfl (Za (v:=iv s.al.length) (rd:=[]) (by simp[Zh]) ?_)));refine YK 3 (Xk ?_);refine Za rfl (Xc ?_);refine Za rfl (Za rfl (Za rfl (Qb rfl rfl (Qb rfl rfl ?_))));refine Za rfl (Za rfl (Za (v:=iv s.s0.aA.length) (rd:=[]) (by simp[Zh]) ?_));refine Za rfl (Za rfl (Za (v:=iv s.s0.hand.length) (rd:=[]) (by simp[Zh]) (Za (Yj ..) ?_)));rw[bc (n:=(s.s0.aA.length:Int)+(s.s0.hand.length:Int)) (by omega) (by omega)];refine Za rfl (Za rfl (Za (v:=iv s.s0.aj.length) (rd:=[]) (by simp[Zh]) (Za (Yj ..) ?_)));rw[bc (n:=(s.s0.aA.length:Int)+(s.s0.hand.length:Int)+(s.s0.aj.length:Int)) (by omega) (by omega)];refine Za rfl (Za rfl (Za (v:=iv s.s0.ae.length) (rd:=[]) (by simp[Zh]) (Za (Yj ..) ?_)));rw[bc (n:=(s.s0.aA.length:Int)+(s.s0.hand.length:Int)+(s.s0.aj.length:Int)+(s.s0.ae.length:Int)) (by omega) (by omega)];refine Za rfl (Za rfl (Za (v:=iv s.s0.told.length) (rd:=[]) (by simp[Zh]) (Za (Yj ..) ?_)));rw[bc (n:=(s.s0.aA.length:Int)+(s.s0.hand.length:Int)+(s.s0.aj.length:Int)+(s.s0.ae.length:Int)+(s.s0.told.length:Int)) (by omega) (by omega)];refine Za (Yj ..) (Za rfl ?_);rw[w1,bc (n:=(s.al.length:Int)+((s.s0.aA.length:Int)+(s.s0.hand.length:Int)+(s.s0.aj.length:Int)+(s.s0.ae.length:Int)+(s.s0.told.length:Int))) (by omega) (by omega)];refine Xk ?_;refine Za rfl (Xc ?_);refine Za rfl (Za rfl (Za rfl (Qb rfl rfl (Qb rfl rfl ?_))));refine Za rfl (Za rfl (Za (v:=iv s.s1.aA.length) (rd:=[]) (by simp[Zh]) ?_));refine Za rfl (Za rfl (Za (v:=iv s.s1.hand.length) (rd:=[]) (by simp[Zh]) (Za (Yj ..) ?_)));rw[bc (n:=(s.s1.aA.length:Int)+(s.s1.hand.length:Int)) (by omega) (by omega)];refine Za rfl (Za rfl (Za (v:=iv s.s1.aj.length) (rd:=[]) (by simp[Zh]) (Za (Yj ..) ?_)));rw[bc (n:=(s.s1.aA.length:Int)+(s.s1.hand.length:Int)+(s.s1.aj.length:Int)) (by omega) (by omega)];refine Za rfl (Za rfl (Za (v:=iv s.s1.ae.length) (rd:=[]) (by simp[Zh]) (Za (Yj ..) ?_)));rw[bc (n:=(s.s1.aA.length:Int)+(s.s1.hand.length:Int)+(s.s1.aj.length:Int)+(s.s1.ae.length:Int)) (by omega) (by omega)];refine Za rfl (Za rfl (Za (v:=iv s.s1.told.length) (rd:=[]) (by simp[Zh]) (Za (Yj ..) ?_)));rw[bc (n:=(s.s1.aA.length:Int)+(s.s1.hand.length:Int)+(s.s1.aj.length:Int)+(s.s1.ae.length:Int)+(s.s1.told.length:Int)) (by omega) (by omega)];refine Za (Yj ..) (Za rfl ?_);rw[w2,bc (n:=(s.al.length:Int)+((s.s0.aA.length:Int)+(s.s0.hand.length:Int)+(s.s0.aj.length:Int)+(s.s0.ae.length:Int)+(s.s0.told.length:Int))+((s.s1.aA.length:Int)+(s.s1.hand.length:Int)+(s.s1.aj.length:Int)+(s.s1.ae.length:Int)+(s.s1.told.length:Int))) (by omega) (by omega)];refine Xk ?_;exact Za rfl (Yd (Za (Z9 ..) rfl))
end Go.Ah.Tz
end
section
namespace Go.Ah
def lu(D:List Deferred)(a:Act):Act:={ a with defers:=a.defers++D }
section
variable {P:Program}
theorem za(D:List Deferred)(a:Act)(d:Option Nat)(v:Value):(lu D a).put d v=lu D (a.put d v):=by
 cases d<;>rfl
theorem LL(D:List Deferred)(a:Act):(lu D a).eval=a.eval:=by
 funext x; cases x<;>rfl
theorem MJ{ops:Array Oper}{Q Q':Exit→Act→World→Prop}(D:List Deferred)(l2:List Nat)(hn:∀a w,Q .normal a w→wpOps P ops Q' l2 (lu D a) w)(hq:∀e a w,e≠.normal→Q e a w→Q' e (lu D a) w) :
  ∀(l:List Nat) (a:Act) (w:World),wpOps P ops Q l a w→wpOps P ops Q' (l++l2) (lu D a) w
 |[],a,w,h=>hn _ _ h
 |i::rest,a,w,h=>by
  have mY:LetsOut Q→LetsOut Q':=λ⟨a,w,q⟩=>⟨_,w,hq _ _ _ (by simp) q⟩;have ih:=MJ D l2 hn hq rest;simp only[List.cons_append,wpOps] at h ⊢;cases ho:ops[i]? with
  |none=>simp only[ho] at h ⊢; exact ih _ _ h
  |some o=>
   simp only[ho] at h ⊢;have ht:(lu D a).tmps=a.tmps:=rfl;rw[ht];split
   ·rename_i hw;rw[if_pos hw] at h;rcases h with h|⟨h1,h2⟩
    ·left;unfold Oper.wp at h ⊢;rw[LL];generalize (execOp a.eval o).run P w=r at h ⊢;cases r with
     |ok nx w'=>
      cases nx with
      |value v=>simp only[Oper.upon] at h ⊢; rw[za]; exact ih _ _ h
      |skip=>simp only[Oper.upon] at h ⊢; rw[za]; exact ih _ _ h
      |defer d=>
       simp only[Oper.upon] at h ⊢;rw[show ({ lu D a with defers:=d::(lu D a).defers }:Act)=lu D { a with defers:=d::a.defers } from rfl,za];exact ih _ _ h
      |enter f args=>
       simp only[Oper.upon] at h ⊢;refine Calls.mono h (λe xI k=>?_);cases e with
       |returned v=>simp only at k ⊢; rw[za]; exact ih _ _ k
       |panicked c=>exact hq _ _ _ (by simp) k
       |outgrown=>exact mY k
      |row row args=>
       simp only[Oper.upon] at h ⊢;refine Rows.mono h (λv xI k=>?_);rw[za]; exact ih _ _ k
      |_=>exact h.elim
     |halt hh w'=>
      cases hh with
      |panic v=>exact hq _ _ _ (by simp) h
      |_=>exact h.elim
    ·right;refine⟨?_,mY h2⟩;unfold Oper.asks at h1 ⊢;rw[LL]; exact h1
   ·rename_i hw; rw[if_neg hw] at h; rw[za]; exact ih _ _ h
end
section
variable {P:Program} {GL:aw}
theorem I8{n:Nat}{c1 c2:Code}{m1:cN}(hc:ck P GL n c1 m1){w0:World}{L:Ln}{g:Gm}{ρ:Frame}{σ:List ab}{a:Act}{w:World}(r:br GL w0 L g (hp σ) w)(d:cD n g ρ a){Q1:dK}{Qw:Exit→Act→World→Prop}(h:gR P GL n m1 ρ σ Q1)
 (hn:∀g' ρ' σ' a' w',g.Le g'→br GL w0 L g' (hp σ') w'→cD n g' ρ' a'→Q1 .normal ρ' σ'→c2.wp P Qw a' w')(hx:∀i ρ σ,¬Q1 (.exit i) ρ σ)
 (hr:∀g' ρ' σ' a' w',g.Le g'→br GL w0 L g' (hp σ') w'→cD n g' ρ' a'→Q1 .ret ρ' σ'→Qw .ret a' w'):(Code.seq c1 c2).wp P Qw a w:=by
 refine wp_seq (wp_mono (h c1 hc w0 L g a w r d) (λe a' w' hl=>?_));cases e with
 |normal=>obtain⟨g',ρ',σ',k1,k2,k3,k4⟩:=hl; exact hn g' ρ' σ' a' w' k1 k2 k3 k4
 |ret=>obtain⟨g',ρ',σ',k1,k2,k3,k4⟩:=hl; exact hr g' ρ' σ' a' w' k1 k2 k3 k4
 |exit id=>obtain⟨g',ρ',σ',k1,k2,k3,k4⟩:=hl; exact(hx _ _ _ k4).elim
 |_=>exact hl.elim
end
end Go.Ah
end
section
namespace Go.Ah.Tz
open Go.Proofs.Tryz (prog)
set_option maxRecDepth 100000
def si{α:Type}(A:ak α)(x0 x1 x2 x3:aa)(σ:List ab)(K R:List aa→List ab→α):α:=
 A.wr (tl [x2] σ) σ λCv σ=>
 A.wr (Zy [.cV] [] σ) σ λve σ=>
 A.wr (Zy [(.int .i64 0)] [] σ) σ λvg σ=>
 A.rd (Zi [x1] σ) λIc=>
 A.rd (Xh true 23 [Ic] σ) λqi=>
 A.wr (Zy [(.int .i64 0),(.int .i64 0),(.int .i8 0),(.bool false),(.int .i8 0),.aq,(.int .i64 0),(.int .i64 0),(.int .i64 0),(.int .i64 0),.aq,.aq,.aq,.aq,.aq,(.int .i64 0),(.int .i64 0),(.int .i64 0),.aq,.aq,.aq,.aq,.aq] [] σ) σ λqh σ=>
 A.wr (Qm 23 [qh,qi] σ) σ λ_ σ=>
 A.rd (Ze 2 [qh] σ) λu5=>
 A.rd (Xh false 1 [u5] σ) λIp=>
 A.rd (Qn .eql false [Ip,(.int .i8 1)] σ) λqk=>
 A.gr qk true (λk=>A.rd (Ze 5 [qh] σ) k) λu_=>
 A.gr qk true (λk=>A.rd (Xh false 1 [u_] σ) k) λiW=>
 A.gr qk true (λk=>A.rd (Yp [iW] σ) k) λrz=>
 A.gr qk true (λk=>A.rd (Qn .eql false [rz,(.int .i64 0)] σ) k) λrA=>
 A.rd (Ym [qk,rA,(.bool false)] σ) λrB=>
 aH (λk14=>
 A.test rB (
 A.rd (Ze 2 [qh] σ) λrC=>
 A.wr (Qm 1 [rC,(.int .i8 0)] σ) σ λ_ σ=>
 k14 [] σ) (
 k14 [] σ)) (λv15 σ=>
 A.pu (Zi [x0] σ) λnq=>
 A.dr (Xh true 2 [nq] σ) σ λiX l19 σ=>
 A.dr (Xh true 23 [qh] σ) σ λBa l21 σ=>
 A.eJ (.call 32) [iX,Ba] σ λBd l23 σ=>
 A.pu (Qn .neq false [Bd,(.int .i64 0)] σ) λjA=>
 A.gr jA false (λk=>A.pu (Q9 [x1] σ) k) λBo=>
 A.gr jA false (λk=>A.pu (Zi [Bo] σ) k) λBs=>
 A.gr jA false (λk=>A.pu (Ze 2 [Bs] σ) k) λBz=>
 A.gl jA false (λk=>A.dr (Xh false 1 [Bz] σ) σ k) σ λBC l29 σ=>
 A.gr jA false (λk=>A.pu (Qn .eql false [BC,(.int .i8 1)] σ) k) λBG=>
 A.gr jA false (λk=>A.pu (Q9 [BG] σ) k) λlA=>
 A.gr lA true (λk=>A.pu (Q9 [x1] σ) k) λBM=>
 A.gr lA true (λk=>A.pu (Zi [BM] σ) k) λBP=>
 A.gr lA true (λk=>A.pu (Ze 3 [BP] σ) k) λBT=>
 A.gl lA true (λk=>A.dr (Xh false 1 [BT] σ) σ k) σ λBZ l36 σ=>
 A.gr lA true (λk=>A.pu (pd .not [BZ] σ) k) λB4=>
 A.gr jA false (λk=>A.pu (Ym [lA,B4,(.bool false)] σ) k) λB7=>
 A.pu (Ym [jA,(.bool true),B7] σ) λB9=>
 A.gd (Xn [[],[0],[0,1],[],[0,1,2,3],[0,1,2,3,4],[0,1,2,3,4,5],[0,1,2,3,4,5,6],[0,1,2,3,4,5,6,7],[0,1,2,3,4,5,6,7,8],[0,1,2,3,4,5,6,7,8,9],[0,1,2,3,4,5,6,7,8,9,10],[0,1,2,3,4,5,6,7,8,9,10,11],[0,1,2,3,4,5,6,7,8,9,10,11,12],[0,1,2,3,4,5,6,7,8,9,10,11,12,13],[0,1,2,3,4,5,6,7,8,9,10,11,12,13,14],[0,1,2,3,4,5,6,7,8,9,10,11,12,13,14,15],[0,1,2,3,4,5,6,7,8,9,10,11,12,13,14,15,16],[0,1,2,3,4,5,6,7,8,9,10,11,12,13,14,15,16,17],[0,1,2,3,4,5,6,7,8,9,10,11,12,13,14,15,16,17,18],[0,1,2,3,4,5,6,7,8,9,10,11,12,13,14,15,16,17,18,19]] [([],[]),([],[]),l19,l21,l23,([],[]),([],[]),([],[]),([],[]),([],[]),l29,([],[]),([],[]),([],[]),([],[]),([],[]),l36,([],[]),([],[]),([],[]),([],[])]) <|
 A.test B9 (
 A.wr (Qm 1 [ve,.cV] σ) σ λ_ σ=>
 A.wr (Qm 1 [vg,(.int .i64 170)] σ) σ λ_ σ=>
 R [ve,vg] σ) (
 A.rd (Ze 0 [Cv] σ) λB_=>
 A.rd (Xh false 1 [B_] σ) λCa=>
 A.rd (Qn .lss false [Ca,(.int .i64 0)] σ) λoU=>
 A.gr oU false (λk=>A.rd (Ze 0 [Cv] σ) k) λCe=>
 A.gr oU false (λk=>A.rd (Xh false 1 [Ce] σ) k) λCh=>
 A.gr oU false (λk=>A.rd (Qn .gtr false [Ch,(.int .i64 1)] σ) k) λCk=>
 A.rd (Ym [oU,(.bool true),Ck] σ) λCo=>
 A.test Co (
 A.wr (Qm 1 [ve,.cV] σ) σ λ_ σ=>
 A.wr (Qm 1 [vg,(.int .i64 2)] σ) σ λ_ σ=>
 R [ve,vg] σ) (
 K [x0,x1,x3,Cv,ve,vg] σ)))
def k1:Code→Code
 |.seq a _=>a
 |c=>c
def k2:Code→Code
 |.seq _ b=>b
 |c=>c
def HB:Code→Array Oper
 |.region _ ops _=>ops
 |_=>#[]
def b81(P:Program):Code:=match P.funcs[107]? with
 |some f=>f.body.getD .skip
 |none=>.skip
def EB(P:Program):Code:=k1 (b81 P)
def Fm(P:Program):Code:=k1 (k2 (b81 P))
def E5(P:Program):Code:=k1 (k2 (k2 (b81 P)))
def EL(P:Program):Code:=k1 (k2 (k2 (k2 (b81 P))))
def qE(P:Program):Array Oper:=HB (k1 (k2 (k2 (k2 (k2 (b81 P))))))
def ot(P:Program):Array Oper:=HB (k1 (k2 (k2 (k2 (k2 (k2 (b81 P)))))))
theorem XdO:Go.Proofs.Tryz.f107.body=some (.seq (EB prog) (.seq (Fm prog) (.seq (E5 prog) (.seq (EL prog) (.seq (.region 8 (qE prog) false) (.seq (.region 9 (ot prog) false) .ret)))))):=by kernel_rfl
def kO(P:Program)(c:Code):cN:=(Yz P aK 62 c).getD .skip
theorem J2{c:Code}(h:(Yz prog aK 62 c).isSome=true):ck prog aK 62 c (kO prog c):=by
 unfold kO;cases e:Yz prog aK 62 c with
 |none=>rw[e] at h; cases h
 |some m=>exact UG e
theorem FL:ck prog aK 62 (EB prog) (kO prog (EB prog)):=J2 (by kernel_rfl)
theorem FM:ck prog aK 62 (Fm prog) (kO prog (Fm prog)):=J2 (by kernel_rfl)
theorem FN:ck prog aK 62 (E5 prog) (kO prog (E5 prog)):=J2 (by kernel_rfl)
theorem FO:ck prog aK 62 (EL prog) (kO prog (EL prog)):=J2 (by kernel_rfl)
def Ks(P:Program):bA:=(eW (kO P (EB P)) []).1
def J_(P:Program):bA:=(eW (kO P (Fm P)) []).1
def JM(P:Program):bA:=(eW (kO P (E5 P)) [some []]).1
def Jp(P:Program):bA:=(eW (kO P (EL P)) [none,none,none]).1
theorem QdP:(Ks prog).ok=true:=by kernel_rfl
theorem ZdQ:(J_ prog).ok=true:=by kernel_rfl
theorem YdQ:(JM prog).ok=true:=by kernel_rfl
theorem XdQ:(Jp prog).ok=true:=by kernel_rfl
theorem Zdo(x0 x1 x2 x3:aa)(α:Type)(A:ak α)(σ:List ab)(K R:List aa→List ab→α) :
  dn A (Ks prog) (dS [x0,x1,x2,x3]) σ (λρ σ=>dn A (J_ prog) ρ σ (λρ σ=>dn A (JM prog) ρ σ (λρ σ=>dn A (Jp prog) ρ σ (λρ σ=>K (gq ρ [0,1,3,6,8,9]) σ)
   (λ_ _ _=>A.stop) (λρ σ=>R (gq ρ [8,9]) σ)) (λ_ _ _=>A.stop) (λρ σ=>R (gq ρ [8,9]) σ)) (λ_ _ _=>A.stop) (λρ σ=>R (gq ρ [8,9]) σ)) (λ_ _ _=>A.stop) (λρ σ=>R (gq ρ [8,9]) σ)
  = si A x0 x1 x2 x3 σ K R:=by kernel_rfl
end Go.Ah.Tz
end
section
namespace Go.Ah.Tz
open Go.Proofs.Tryz (prog)
set_option maxRecDepth 100000
attribute [local irreducible] ak.rd ak.pu ak.wr ak.dr ak.gr ak.gw ak.gl ak.gd ak.opt aH W
set_option maxHeartbeats 8000000
theorem TI{e:Int}{b:Bk}{s:St}(h:aQ e b s true=true)(hp:s.phase=1):s.bF=true:=by
 simp only[aQ,Bool.and_eq_true] at h;obtain⟨_,_,_,_,_,_,_,_,_,_,_,_,_,h⟩:=h;rw[if_neg (by simp[hp])] at h;simp only[Bool.and_eq_true] at h;exact h.2.1
theorem TV{e:Int}{b:Bk}{s:St}(h:aQ e b s true=true)(hp:s.phase=1)(ha:s.al.length=0):aQ e b { s with phase:=0 } false=true:=by
 simp only[aQ,Bool.and_eq_true] at h ⊢;obtain⟨a1,a2,a3,a4,a5,a6,a7,a8,a9,b1,b2,b3,b4,h⟩:=h;refine⟨a1,a2,a3,a4,a5,by simp,by simp,a8,a9,?_,b2,b3,b4,?_⟩
 ·rw[hp] at b1; exact b1
 ·rw[if_pos (by simp)]; simp[ha]
theorem MY{e:Int}{b:Bk}{s:St}(h:aQ e b s true=true)(hp:s.phase=1→s.al.length≠0):aQ e b s false=true:=by
 simp only[aQ,Bool.and_eq_true] at h ⊢;obtain⟨a1,a2,a3,a4,a5,a6,a7,a8,a9,b1,b2,b3,b4,h⟩:=h;refine⟨a1,a2,a3,a4,a5,a6,a7,a8,a9,b1,b2,b3,b4,?_⟩;split at h
 ·rename_i q; rw[if_pos q]; exact h
 ·rename_i q; rw[if_neg q]; simp only[Bool.and_eq_true] at h ⊢; exact⟨by simp[hp (by simpa using q)],h.2⟩
theorem S0(b:Bk)(hf:aS b=true)(bN:Zj b.af)(s:St)(hs:bu 1000000000 s)(hm:aQ (cE b).1 b s true=true)(sd tg:Int)(h0:0≤sd)(h1:sd≤1)(v:aa){K R:List aa→List ab→Prop}
 (hK:∀z,K [.ao (bU b) 0,.ao (aD s) 0,v,.ai 0 0,.ai 1 0,.ai 2 0] [.box [iv sd,iv tg],.box [.cV],.box [iv 0],.box z]) :
  si VV (.ao (bU b) 0) (.ao (aD s) 0) (.agg [iv sd,iv tg]) (v) [] K R:=by
 unfold si;refine Qb (v:=.ai 0 0) (rd:=[]) (up:=[(0,.box [iv sd,iv tg])]) rfl rfl (Qb (v:=.ai 1 0) rfl rfl (Qb (v:=.ai 2 0) rfl rfl (Za rfl (Za (an (row:=aD s) rfl) (Qb (v:=.ai 3 0) rfl rfl (Qb (v:=.aF) (up:=[(3,.box (aD s))]) (rd:=[]) rfl rfl ?_))))));refine Za rfl (Za (ld (row:=aD s) rfl rfl) (Za rfl ?_));refine L9 (v1:=.ai 3 5) (v2:=aV s.al) (v3:=iv s.al.length) (d:=((s.al.length:Int)==0)) (q3:=[]) rfl (ld (row:=aD s) rfl rfl) (by simp[aV,Yp]) rfl ?_;refine Qh λk' ek=>?_;have lY:∀t:St,aQ (cE b).1 b t false=true→bu 1000000000 t→k' [] [.box [iv sd,iv tg],.box [.cV],.box [iv 0],.box (aD t)]:=by
  intro t ht Ho;have wv:=c55 b hf bN t Ho;rw[ht] at wv;subst ek;refine Qe rfl (Yg (v:=dg b) (an (row:=bU b) rfl) rfl (Yg (v:=cf t) (ld (row:=aD t) rfl rfl) rfl (Yh wv rfl g32.ok.plain rfl (Qe (v:=.bool false) rfl ?_))));refine Ya (Qe rfl (Ya (Qe rfl (Ya (Qe rfl (Vo (Yg (v:=ar s.phase) (an (row:=aD s) rfl) rfl (Ya (Qe (v:=.bool (s.phase==1)) rfl (Ya (Qe rfl ?_)))))))))));rcases aT (s.phase==1) with h|h
  ·rw[h];refine Ya (Qe rfl (Ya (Qe rfl (Ya (Qe rfl (Vo (Yg (v:=.bool s.bF) (an (row:=aD s) rfl) rfl (Ya (Qe rfl ?_)))))))));rw[TI hm (by simpa using h)];refine Ya (Qe rfl (Qe rfl (Xr (by kernel_rfl) (Yd ?_))));refine Za rfl (Za (ld (row:=[iv sd,iv tg]) (v:=iv sd) rfl rfl) (Za (v:=.bool (decide (sd<0))) rfl ?_));rw[show decide (sd<0)=false from decide_eq_false (by omega)];refine Ya (Za rfl (Ya (Za (ld (row:=[iv sd,iv tg]) (v:=iv sd) rfl rfl) (Ya (Za (v:=.bool (decide (sd>1))) rfl ?_)))));rw[show decide (sd>1)=false from decide_eq_false (by omega)];exact Za rfl (Yd (hK _))
  ·rw[h];refine Qa rfl (Qa rfl (Qa rfl (Zds rfl (Qa rfl (Ya (Qe rfl (Qe rfl (Xr (by kernel_rfl) (Yd ?_)))))))));refine Za rfl (Za (ld (row:=[iv sd,iv tg]) (v:=iv sd) rfl rfl) (Za (v:=.bool (decide (sd<0))) rfl ?_));rw[show decide (sd<0)=false from decide_eq_false (by omega)];refine Ya (Za rfl (Ya (Za (ld (row:=[iv sd,iv tg]) (v:=iv sd) rfl rfl) (Ya (Za (v:=.bool (decide (sd>1))) rfl ?_)))));rw[show decide (sd>1)=false from decide_eq_false (by omega)];exact Za rfl (Yd (hK _))
 rcases aT ((s.phase==1)&&((s.al.length:Int)==0)) with hq|hq
 ·rw[hq];simp only[Bool.and_eq_true,beq_iff_eq] at hq;refine Xc (Za rfl (Qb (cM (row:=aD s) rfl rfl rfl rfl) rfl ?_));exact lY { s with phase:=0 } (TV hm hq.1 (by omega)) ⟨hs.al,hs.s0,hs.s1⟩
 ·rw[hq];refine Yd ?_;exact lY s (MY hm (λhp e=>by simp[hp,e] at hq)) hs
end Go.Ah.Tz
end
section
namespace Go.Ah.Tz
open Go.Proofs.Tryz (prog)
set_option maxRecDepth 100000
set_option maxHeartbeats 4000000
theorem xo(p q:Value)(w:World):CallsD prog 141 #[p,q] .returning w λe u' w'=>e=.returned (.tuple #[])∧u'=.returning∧w'=w:=by
 refine callsD_of_wpS Go.Proofs.Tryz.func141 rfl λc₀ cs hu=>?_;apply wpS_seq;apply wpS_region;simp[wpOpsS,go_sem,recoverD,hu,Go.Proofs.Tryz.ntmps141,Exit.thenS];refine wpS_cond (t:=false) (by simp[Act.eval,Act.put,Array.replicate]) ?_;simp only[Bool.false_eq_true,if_false];refine wpS_of_wp (wp_skip ?_);cases c₀;simp_all [bodyPostS,results,Act.put,Go.Proofs.Tryz.results141]
def jx(l:Program→Array Oper)(i:Nat)(P:Program):Oper:=((l P)[i]?).getD default
theorem HV:(qE prog).size=2:=by kernel_rfl
theorem HW:(ot prog).size=9:=by kernel_rfl
theorem Jn:(qE prog)[0]?=some (jx qE 0 prog)∧(jx qE 0 prog).op=.makeFunc (.func 141) #[] #[.tmp 8,.tmp 9]∧(jx qE 0 prog).dst=some 54∧(jx qE 0 prog).guard=none:=⟨by kernel_rfl,by kernel_rfl,by kernel_rfl,by kernel_rfl⟩
theorem Kr:(qE prog)[1]?=some (jx qE 1 prog)∧(jx qE 1 prog).op=.defer ⟨.value (.tmp 54),#[],#[]⟩∧(jx qE 1 prog).dst=none∧(jx qE 1 prog).guard=none:=⟨by kernel_rfl,by kernel_rfl,by kernel_rfl,by kernel_rfl⟩
theorem J8:(ot prog)[6]?=some (jx ot 6 prog)∧(∃ts,(jx ot 6 prog).op=.call ⟨.invoke (.tmp 55) "baize/value.ask",#[.tmp 60],ts⟩)∧(jx ot 6 prog).dst=some 61∧(jx ot 6 prog).guard=none:=⟨by kernel_rfl,⟨match (jx ot 6 prog).op with | .call c=>c.argTypes|_=>#[],by kernel_rfl⟩,by kernel_rfl,by kernel_rfl⟩
theorem zu(v:Value)(args:Array Value)(w:World):(callMethod (.iface 188 v) "baize/value.ask" args).run prog w=.ok (.enter 221 (#[v]++args)) w:=by kernel_rfl
theorem zw(v:Value)(args:Array Value)(w:World):(callMethod (.iface 192 v) "baize/value.ask" args).run prog w=.ok (.enter 240 (#[v]++args)) w:=by kernel_rfl
def Eg(P:Program):List aI:=(mapM' (E9 P aK 62 (ot P).toList) ((ot P).toList.take 6)).getD []
def Eh(P:Program):List aI:=(mapM' (E9 P aK 62 (ot P).toList) ((ot P).toList.drop 7)).getD []
theorem Tc:(Eg prog).length=6:=by kernel_rfl
theorem R6:(Eh prog).length=2:=by kernel_rfl
theorem SM{α:Type}{o:Option (List α)}{n:Nat}(h:(o.getD []).length=n+1):o=some (o.getD []):=by
 cases o with
 |none=>cases h
 |some a=>rfl
theorem YdY(j:Nat)(m:aI)(e:(Eg prog)[j]?=some m):∃o,(ot prog)[0+j]?=some o∧e_ prog aK 62 (ot prog) o m:=by
 obtain⟨h1,h2⟩:=I5 (SM (n:=5) Tc);obtain⟨o,k1,k2⟩:=h2 j m e;refine⟨o,?_,Mw k2⟩;rw[List.getElem?_take] at k1;split at k1
 ·simpa using k1
 ·cases k1
theorem XdY(j:Nat)(m:aI)(e:(Eh prog)[j]?=some m):∃o,(ot prog)[7+j]?=some o∧e_ prog aK 62 (ot prog) o m:=by
 obtain⟨h1,h2⟩:=I5 (SM (n:=1) R6);obtain⟨o,k1,k2⟩:=h2 j m e;refine⟨o,?_,Mw k2⟩;rw[List.getElem?_drop] at k1;simpa using k1
theorem d9a(x0 x1 x3 t6 t8 t9 f:aa)(α:Type)(A:ak α)(σ:List ab)(K:List aa→List ab→α) :
  iA A (Eg prog) [(54,f),(0,x0),(1,x1),(3,x3),(6,t6),(8,t8),(9,t9)] σ (λρ σ=>K (gq ρ [55,60,8,9]) σ) =
  A.rd (Xh true 2 [t6] σ) λt58=>A.rd (QM [.ei,.ei,.int .i64 0,.int .i64 0] [(0,1),(1,1),(2,2)] [x0,x1,t58] σ) λt59=>A.wr (tl [t59] σ) σ λt60 σ=>K [x3,t60,t8,t9] σ:=by kernel_rfl
theorem d9b(t55 t60 t8 t9 y:aa)(α:Type)(A:ak α)(σ:List ab)(K:List aa→List ab→α) :
  iA A (Eh prog) [(61,y),(55,t55),(60,t60),(8,t8),(9,t9)] σ (λρ σ=>K (gq ρ [8,9]) σ) =
  A.wr (Qm 1 [t8,y] σ) σ λ_ σ=>A.wr (Qm 1 [t9,.int .i64 0] σ) σ λ_ σ=>K [t8,t9] σ:=by kernel_rfl
theorem r81:kv (qB prog) Go.Proofs.Tryz.f107.results.toList [.c 8 false 1,.c 9 false 1]:=J1 (f:=MC prog) SV (by kernel_rfl)
theorem n81:Go.Proofs.Tryz.f107.ntmps=62:=by kernel_rfl
theorem Ma{P:Program}{ops:Array Oper}{Q:Exit→Act→World→Prop}{i:Nat}{rest:List Nat}{a:Act}{w:World}{o:Oper}(ho:ops[i]?=some o)(hg:o.guard=none)(h:o.wp P a w (wpOps P ops Q rest) Q):wpOps P ops Q (i::rest) a w:=by
 simp_all [wpOps,Region.wanted]
def yW(K R:Frame→List ab→Prop):dK
 |.normal,ρ,σ=>K ρ σ
 |.ret,ρ,σ=>R ρ σ
 |.exit _,_,_=>False
theorem piece{n:Nat}(m:bA)(hm:m.ok=true){ρ:Frame}{σ:List ab}{K R:Frame→List ab→Prop}(h:dn VV m ρ σ K (λ_ _ _=>VV.stop) R):gR prog aK n m.er ρ σ (yW K R):=
 YV hP (wa prog aK) m (Q:=yW K R) hm (λ_ _ _ h=>h) (λ_ _ _ _ h=>h) (λ_ _ _ h=>h) h
theorem FK(bk st:List aa)(sd tg:Int)(ty:TypeId)(fn:FuncId)(lT:List aa)(j:Nat)(y:aa)(hyf:y.flat=true)(hyr:y.ro=true)(hyc:cellsOf y=some [y])
 (aad:∀(v:Value) (args:Array Value) (w:World),(callMethod (.iface ty v) "baize/value.ask" args).run prog w=.ok (.enter fn (#[v]++args)) w)
 (hw:si VV (.ao bk 0) (.ao st 0) (.agg [iv sd,iv tg]) (.iface ty (.agg [.ao lT j])) [] (λvs σ=>vs=[.ao bk 0,.ao st 0,.iface ty (.agg [.ao lT j]),.ai 0 0,.ai 1 0,.ai 2 0]∧∃z,σ=[.box [iv sd,iv tg],.box [.cV],.box [iv 0],.box z]) (λ_ _=>False))
 (h289:PC fn [.agg [.ao lT j],.ao [.ao bk 0,.ao st 0,iv sd,iv tg] 0] y) :
  PC 107 [.ao bk 0,.ao st 0,.agg [iv sd,iv tg],.iface ty (.agg [.ao lT j])] (.bn [y,iv 0]):=by
 intro w M vs hM hg hx;have r0:=br.start (GL:=aK) w M hM hg;have hh:hp []=nf:=by funext b; simp[hp,nf]
 rw[←hh] at r0;have d0:=Y1 hx (n:=62) (by simp);refine calls_of_wp_defers Go.Proofs.Tryz.func107 XdO ?_;rw[n81];rw[←Zdo] at hw;have e0:(Ks prog).er=kO prog (EB prog):=XO _ _;have e1:(J_ prog).er=kO prog (Fm prog):=XO _ _;have e2:(JM prog).er=kO prog (E5 prog):=XO _ _;have e3:(Jp prog).er=kO prog (EL prog):=XO _ _;refine I8 (e0▸FL) r0 d0 (piece (Ks prog) QdP hw) (λg1 ρ1 σ1 a1 w1 l1 r1 d1 K0=>?_) (λ_ _ _ h=>h) (λ_ _ _ _ _ _ _ _ h=>False.elim h);refine I8 (e1▸FM) r1 d1 (piece (J_ prog) ZdQ K0) (λg2 ρ2 σ2 a2 w2 l2 r2 d2 Wl=>?_) (λ_ _ _ h=>h) (λ_ _ _ _ _ _ _ _ h=>False.elim h);refine I8 (e2▸FN) r2 d2 (piece (JM prog) YdQ Wl) (λg9993 ρ3 σ3 a3 w3 l3 r3 d3 hw3=>?_) (λ_ _ _ h=>h) (λ_ _ _ _ _ _ _ _ h=>False.elim h);refine I8 (e3▸FO) r3 d3 (piece (Jp prog) XdQ hw3) (λg9994 ρ4 σ4 a4 w4 l4 r4 d4 hw4=>?_) (λ_ _ _ h=>h) (λ_ _ _ _ _ _ _ _ h=>False.elim h);obtain⟨hv,z,hσ⟩:=hw4;subst hσ;simp only[gq,List.cons.injEq,and_true] at hv;obtain⟨q0,q1,q3,q6,q8,q9⟩:=hv;have d5:cD 62 g9994 [(0,.ao bk 0),(1,.ao st 0),(3,.iface ty (.agg [.ao lT j])),(6,.ai 0 0),(8,.ai 1 0),(9,.ai 2 0)] a4:=d4.cy (DZ.le ⟨q0,q1,q3,q6,q8,q9,trivial⟩);clear d4;have le4:=((l1.trans l2).trans l3).trans l4;have k8:g9994.den (.ai 1 0) (a4.tmps.getD 8 undef):=d5.slot 8;have k9:g9994.den (.ai 2 0) (a4.tmps.getD 9 undef):=d5.slot 9;generalize hp8:a4.tmps.getD 8 undef=p8 at k8;generalize hp9:a4.tmps.getD 9 undef=p9 at k9;refine wp_seq (wp_region ?_);rw[HV,show List.range 2=[0,1] from rfl];refine Ma Jn.1 Jn.2.2.2 ?_;unfold Oper.wp;have hmf:∀(fn:Fn) (first cap:Array Value) (w:World),(Instr.makeFunc fn first cap).run prog w=.ok (.func fn first cap) w:=λ_ _ _ _=>rfl;have P4:(execOp a4.eval (jx qE 0 prog)).run prog w4=.ok (.value (.func (.func 141) #[] #[p8,p9])) w4:=by
  simp_all [execOp,Act.eval,Jn]
 rw[P4,Oper.upon_value,Jn.2.2.1];have OC:g9994.den (.func (.func 141) [] [.ai 1 0,.ai 2 0]) (.func (.func 141) #[] #[p8,p9]):=by
  refine .func _ _ _ _ _ _ rfl rfl (by simp) (λi x u e1 e2=>?_)
  match i with
  |0=>simp at e1 e2; subst e1; subst e2; exact k8
  |1=>simp at e1 e2; subst e1; subst e2; exact k9
  |i+2=>simp at e1
 have d6:=d5.put (d:=54) (by decide) OC;generalize ha5:a4.put (some 54) (.func (.func 141) #[] #[p8,p9])=a5 at d6 ⊢;have h54:a5.tmps.getD 54 undef=.func (.func 141) #[] #[p8,p9]:=by
  rw[←ha5];have dU:=d5.size;simp[Act.put,Array.getD,dU]
 refine Ma Kr.1 Kr.2.2.2 ?_;unfold Oper.wp;have dW:(execOp a5.eval (jx qE 1 prog)).run prog w4=.ok (.defer { target:=.fn (.func 141) #[p8,p9],args:=#[] }) w4:=by
  grind [execOp,resolve,Act.eval,Deferred.ofValue,Kr,Sem.run_pure]
 rw[dW,Oper.upon_defer,Kr.2.2.1];have O0:({ a5 with defers:={ target:=.fn (.func 141) #[p8,p9],args:=#[] }::a5.defers }:Act).put none undef=lu [{ target:=.fn (.func 141) #[p8,p9],args:=#[] }] a5:=by
  simp[Act.put,lu,d6.defers]
 rw[O0];show wpOps prog (qE prog) _ [] _ w4;simp only[wpOps];refine wp_seq (wp_region ?_);rw[HW,show List.range 9=List.range' 0 6++(6::List.range' 7 2) from rfl];have PK:iA VV (Eg prog) [(54,.func (.func 141) [] [.ai 1 0,.ai 2 0]),(0,.ao bk 0),(1,.ao st 0),(3,.iface ty (.agg [.ao lT j])),(6,.ai 0 0),(8,.ai 1 0),(9,.ai 2 0)] [.box [iv sd,iv tg],.box [.cV],.box [iv 0],.box z]
   (λρ σ=>gq ρ [55,60,8,9]=[.iface ty (.agg [.ao lT j]),.ai 4 0,.ai 1 0,.ai 2 0]∧σ=[.box [iv sd,iv tg],.box [.cV],.box [iv 0],.box z,.box [.ao bk 0,.ao st 0,iv sd,iv tg]]):=by
  have:=d9a (.ao bk 0) (.ao st 0) (.iface ty (.agg [.ao lT j])) (.ai 0 0) (.ai 1 0) (.ai 2 0) (.func (.func 141) [] [.ai 1 0,.ai 2 0]) Prop VV [.box [iv sd,iv tg],.box [.cV],.box [iv 0],.box z]
   (λvs σ=>vs=[.iface ty (.agg [.ao lT j]),.ai 4 0,.ai 1 0,.ai 2 0]∧σ=[.box [iv sd,iv tg],.box [.cV],.box [iv 0],.box z,.box [.ao bk 0,.ao st 0,iv sd,iv tg]])
  rw[this];exact Za (ld (row:=[iv sd,iv tg]) rfl rfl) (Za rfl (Qb rfl rfl ⟨rfl,rfl⟩))
 have PL:=YP (wa prog aK) (fl:=false) (lg:=[]) (λe=>by cases e) PK;have hlen:List.range' 0 6=List.range' 0 (Eg prog).length:=by rw[Tc]
 rw[hlen];refine MJ (P:=prog) (Q:=λe a w'=>e=.normal∧vQ aK w ⟨[],M⟩ 62 g9994 (λρ σ _=>gq ρ [55,60,8,9]=[.iface ty (.agg [.ao lT j]),.ai 4 0,.ai 1 0,.ai 2 0]∧σ=[.box [iv sd,iv tg],.box [.cV],.box [iv 0],.box z,.box [.ao bk 0,.ao st 0,iv sd,iv tg]]) a w') _ _ (λa6 w6 hq=>?_) (λe a w cL hq=>(cL hq.1).elim) _ a5 w4
  (X7 _ _ (Eg prog) 0 _ _ [] g9994 a5 w4 YdY PL r4 d6 (λa' w' hl=>⟨rfl,?_⟩))
 ·obtain⟨_,g9995,ρ5,σ5,lg5,l5,r5,d5',Wi,uN⟩:=hq;subst uN;simp only[gq,List.cons.injEq,and_true] at Wi;obtain⟨q55,q60,q8',q9'⟩:=Wi;have d7:cD 62 g9995 [(55,.iface ty (.agg [.ao lT j])),(60,.ai 4 0),(8,.ai 1 0),(9,.ai 2 0)] a6:=d5'.cy (DZ.le ⟨q55,q60,q8',q9',trivial⟩);refine Ma J8.1 J8.2.2.2 ?_;unfold Oper.wp;rw[LL];have k55:=d7.slot 55;have k60:=d7.slot 60;simp only[bB] at k55 k60;obtain⟨ts,mX⟩:=J8.2.1;generalize Pg:a6.tmps.getD 55 undef=p55 at k55;generalize Ph:a6.tmps.getD 60 undef=p60 at k60;have PI:g9995.den (.iface ty (.agg [.ao lT j])) p55:=k55;have PJ:g9995.den (.ai 4 0) p60:=k60;cases PI with
  |iface _ _ _ vv Hs=>
  have e60:a6.eval (.tmp 60)=p60:=Ph;have P5:(execOp a6.eval (jx ot 6 prog)).run prog w6=.ok (.enter fn #[vv,p60]) w6:=by
   have e55:a6.eval (.tmp 55)=.iface ty vv:=Pg;simp only[execOp,mX,resolve,e55,Sem.run_bind,Sem.run_pure,Result.andThen_ok,invoke];simp_all
  rw[P5,Oper.upon_enter];have qM:Xy [.box [iv sd,iv tg],.box [.cV],.box [iv 0],.box z,.box [.ao bk 0,.ao st 0,iv sd,iv tg]] 1000 [.agg [.ao lT j],.ai 4 0]=some ([.agg [.ao lT j],.ao [.ao bk 0,.ao st 0,iv sd,iv tg] 0],[4]):=rfl;have ac:=h289.pS (Y0 _ _ _ _ qM _ (λ_ q=>q)) hyf;refine Calls.mono (ac w ⟨[],M⟩ g9995 _ w6 [vv,p60] r5 ⟨Hs,PJ,trivial⟩ (λ_ _=>rfl) (λ_ h=>by cases h)) ?_;rintro e w7 ⟨u,rfl,g9996,l6,r6,hu⟩;show wpOps prog (ot prog) _ (List.range' 7 2) ((lu _ a6).put (jx ot 6 prog).dst u) w7;rw[J8.2.2.1,za];have d8:=(d7.mono l6).put (d:=61) (by decide) hu;have PM:iA VV (Eh prog) [(61,y),(55,.iface ty (.agg [.ao lT j])),(60,.ai 4 0),(8,.ai 1 0),(9,.ai 2 0)] [.box [iv sd,iv tg],.box [.cV],.box [iv 0],.box z,.box [.ao bk 0,.ao st 0,iv sd,iv tg]]
    (λρ σ=>gq ρ [8,9]=[.ai 1 0,.ai 2 0]∧σ=[.box [iv sd,iv tg],.box [y],.box [iv 0],.box z,.box [.ao bk 0,.ao st 0,iv sd,iv tg]]):=by
   have:=d9b (.iface ty (.agg [.ao lT j])) (.ai 4 0) (.ai 1 0) (.ai 2 0) y Prop VV [.box [iv sd,iv tg],.box [.cV],.box [iv 0],.box z,.box [.ao bk 0,.ao st 0,iv sd,iv tg]]
    (λvs σ=>vs=[.ai 1 0,.ai 2 0]∧σ=[.box [iv sd,iv tg],.box [y],.box [iv 0],.box z,.box [.ao bk 0,.ao st 0,iv sd,iv tg]])
   rw[this];exact Qb (cM (row:=[.cV]) rfl hyc rfl rfl) rfl (Qb (v:=.aF) (up:=[(2,.box [iv 0])]) (rd:=[]) rfl rfl ⟨rfl,rfl⟩)
  have PN:=YP (wa prog aK) (fl:=false) (lg:=[]) (λe=>by cases e) PM;rw[show List.range' 7 2=List.range' 7 (Eh prog).length++[] by rw[R6]; rfl];refine MJ (P:=prog) (Q:=λe a w'=>e=.normal∧vQ aK w ⟨[],M⟩ 62 g9996 (λρ σ _=>gq ρ [8,9]=[.ai 1 0,.ai 2 0]∧σ=[.box [iv sd,iv tg],.box [y],.box [iv 0],.box z,.box [.ao bk 0,.ao st 0,iv sd,iv tg]]) a w') _ _ (λa8 w8 hq=>?_) (λe a w cL hq=>(cL hq.1).elim) _ _ w7
   (X7 _ _ (Eh prog) 7 _ _ [] g9996 _ w7 XdY PN r6 d8 (λa' w' hl=>⟨rfl,?_⟩))
  ·obtain⟨_,g9997,ρ7,σ7,lg7,l7,r7,d9,hv7,PD⟩:=hq;subst PD;simp only[gq,List.cons.injEq,and_true] at hv7;simp only[wpOps];refine wp_ret ?_;show Leaves prog Go.Proofs.Tryz.f107 a8.tmps _ (a8.defers++[{ target:=.fn (.func 141) #[p8,p9],args:=#[] }]) .returning w8;rw[d9.defers];refine leaves_cons (f:=141) (args:=#[p8,p9]) (by simp) (by rfl) ((xo p8 p9 w8).mono ?_);rintro e u' w9 ⟨rfl,rfl,rfl⟩;have mZ:gA [.c 8 false 1,.c 9 false 1] ρ7 [.box [iv sd,iv tg],.box [y],.box [iv 0],.box z,.box [.ao bk 0,.ao st 0,iv sd,iv tg]]=some (.bn [y,iv 0]):=by
    simp_all [gA,ni,qf,og]
   obtain⟨uo,KT,KU⟩:=DB (P:=prog) r7 d9 r81 mZ;refine⟨uo,KT,uo,rfl,r7.keeps,g9997.M,?_,r7.aR,λb o e=>?_,Den.ro KU (by simp[aa.ro,fz,hyr]) _⟩
   ·exact(le4.trans (l5.trans (l6.trans l7))).m
   ·rcases r7.src b o e with q|q|q<;>grind
  ·obtain⟨g',ρ',σ',iP,k1,k2,k3,k4,_⟩:=hl;exact⟨g',ρ',σ',iP,k1,k2,k3,k4⟩
 ·obtain⟨g',ρ',σ',iP,k1,k2,k3,k4,_⟩:=hl;exact⟨g',ρ',σ',iP,k1,k2,k3,k4⟩
theorem c81(b:Bk)(hf:aS b=true)(bN:Zj b.af)(s:St)(hs:bu 1000000000 s)(hm:aQ (cE b).1 b s true=true)(sd tg:Int)(h0:0≤sd)(h1:sd≤1)(lT:List aa)(j:Nat)(n:Int)
 (h289:PC 221 [.agg [.ao lT j],.ao [.ao (bU b) 0,.ao (aD s) 0,iv sd,iv tg] 0] (.iface 3 (iv n))) :
  PC 107 [.ao (bU b) 0,.ao (aD s) 0,.agg [iv sd,iv tg],.iface 188 (.agg [.ao lT j])] (.bn [.iface 3 (iv n),iv 0]):=
 FK (bU b) (aD s) sd tg 188 221 lT j (.iface 3 (iv n)) rfl rfl rfl zu (S0 b hf bN s hs hm sd tg h0 h1 (.iface 188 (.agg [.ao lT j])) λz=>⟨rfl,z,rfl⟩) h289
theorem NT(b:Bk)(hf:aS b=true)(bN:Zj b.af)(s:St)(hs:bu 1000000000 s)(hm:aQ (cE b).1 b s true=true)(sd tg:Int)(h0:0≤sd)(h1:sd≤1)(lT:List aa)(j:Nat)(q:Bool)
 (h289:PC 240 [.agg [.ao lT j],.ao [.ao (bU b) 0,.ao (aD s) 0,iv sd,iv tg] 0] (.iface 4 (.bool q))) :
  PC 107 [.ao (bU b) 0,.ao (aD s) 0,.agg [iv sd,iv tg],.iface 192 (.agg [.ao lT j])] (.bn [.iface 4 (.bool q),iv 0]):=
 FK (bU b) (aD s) sd tg 192 240 lT j (.iface 4 (.bool q)) rfl rfl rfl zw (S0 b hf bN s hs hm sd tg h0 h1 (.iface 192 (.agg [.ao lT j])) λz=>⟨rfl,z,rfl⟩) h289
end Go.Ah.Tz
end
section
namespace Go.Ah.Tz
open Go.Proofs.Tryz (prog)
set_option maxRecDepth 100000
attribute [local irreducible] ak.rd ak.pu ak.wr ak.dr ak.gr ak.gw ak.gl ak.gd ak.opt aH W
set_option maxHeartbeats 4000000
def xV(n:Int):Int:=min (max n (-1000000)) 1000000
theorem c290(n:Int):PC 222 [iv n] (iv (xV n)):=by
 refine Yc hP g222.ok rfl rfl ?_;rw[H1.e]; unfold g222; dsimp only;exact Za (X6 ..) (Za (ZM ..) rfl)
@[reducible] def vq(b:Bk)(s:St)(sd tg:Int):List aa:=[.ao (bU b) 0,.ao (aD s) 0,iv sd,iv tg]
@[reducible] def la(b:Bk)(s:St)(sd tg:Int):aa:=.ao (vq b s sd tg) 0
def c_(sd who:Int):Int:=if who=1 then 1-sd else sd
theorem c295(b:Bk)(s:St)(sd tg who:Int)(h0:0≤sd)(h1:sd≤1):PC 227 [la b s sd tg,ar who] (.ao (aD s) (bif c_ sd who==0 then 7 else 15)):=by
 have hs:sd=0∨sd=1:=by omega
 refine Yc hP g227.ok rfl rfl ?_;rw[H2.e]; unfold g227; dsimp only;refine Za (Zf ..) (Zb (λh=>?_) (λh=>?_))
 ·have h:who=1:=by simpa using h
  subst h;rcases hs with rfl|rfl
  ·repeat first|refine Za (an (row:=vq _ _ _ _) rfl) ?_|refine Za rfl ?_
   rfl
  ·repeat first|refine Za (an (row:=vq _ _ _ _) rfl) ?_|refine Za rfl ?_
   rfl
 ·have h:who≠1:=by simpa using h
  rcases hs with rfl|rfl
  ·repeat first|refine Za (an (row:=vq _ _ _ _) rfl) ?_|refine Za rfl ?_
   simp[c_,h]
  ·repeat first|refine Za (an (row:=vq _ _ _ _) rfl) ?_|refine Za rfl ?_
   simp[c_,h]
def kR(s:St)(k:Int):Sd:=if k=0 then s.s0 else s.s1
theorem EU{sd who:Int}(h0:0≤sd)(h1:sd≤1):c_ sd who=0∨c_ sd who=1:=by unfold c_; split<;>omega
theorem c293(row:List aa)(j:Nat)(x:Nm)(hx:lV row j x):PC 225 [.ao row j] (iv x.n):=by
 refine Yc hP g225.ok rfl rfl ?_;rw[H1.e]; unfold g225; dsimp only;exact Za rfl (Za rfl (Za (an hx.h1) rfl))
theorem c294(b:Bk)(s:St)(sd tg:Int)(h0:0≤sd)(h1:sd≤1)(row:List aa)(j:Nat)(x:Nm)(hx:lV row j x):PC 226 [.ao row j,.ao [la b s sd tg] 0] (iv (kR s (c_ sd x.who)).aJ):=by
 refine Yc hP g226.ok rfl rfl ?_;rw[H2.e]; unfold g226; dsimp only;refine Yg (an (row:=[la b s sd tg]) rfl) rfl (Qe rfl (Qe rfl (Yg (an hx.h2) rfl (Yh (c295 b s sd tg x.who h0 h1) rfl g227.ok.plain rfl ?_))));rcases EU (who:=x.who) h0 h1 with h|h
 ·rw[h];exact Qe rfl (Qe rfl (Yg (an (row:=aD s) rfl) rfl (Xr (by kernel_rfl) rfl)))
 ·rw[h];exact Qe rfl (Qe rfl (Yg (an (row:=aD s) rfl) rfl (Xr (by kernel_rfl) rfl)))
theorem c296(b:Bk)(s:St)(sd tg:Int)(h0:0≤sd)(h1:sd≤1)(row:List aa)(j:Nat)(x:Nm)(hx:lV row j x):PC 228 [.ao row j,.ao [la b s sd tg] 0] (iv (kR s (c_ sd x.who)).hand.length):=by
 refine Yc hP g228.ok rfl rfl ?_;rw[H2.e]; unfold g228; dsimp only;refine Yg (an (row:=[la b s sd tg]) rfl) rfl (Qe rfl (Qe rfl (Yg (an hx.h2) rfl (Yh (c295 b s sd tg x.who h0 h1) rfl g227.ok.plain rfl ?_))));rcases EU (who:=x.who) h0 h1 with h|h
 ·rw[h];refine Qe rfl (Qe rfl (Yg (v:=aV s.s0.hand) (an (row:=aD s) rfl) rfl (Qe (v:=iv s.s0.hand.length) (by simp[Yp]) (Xr (by kernel_rfl) rfl))))
 ·rw[h];refine Qe rfl (Qe rfl (Yg (v:=aV s.s1.hand) (an (row:=aD s) rfl) rfl (Qe (v:=iv s.s1.hand.length) (by simp[Yp]) (Xr (by kernel_rfl) rfl))))
theorem c297(b:Bk)(s:St)(sd tg:Int)(h0:0≤sd)(h1:sd≤1)(row:List aa)(j:Nat)(x:Nm)(hx:lV row j x):PC 229 [.ao row j,.ao [la b s sd tg] 0] (iv (kR s (c_ sd x.who)).aA.length):=by
 refine Yc hP g229.ok rfl rfl ?_;rw[H2.e]; unfold g229; dsimp only;refine Yg (an (row:=[la b s sd tg]) rfl) rfl (Qe rfl (Qe rfl (Yg (an hx.h2) rfl (Yh (c295 b s sd tg x.who h0 h1) rfl g227.ok.plain rfl ?_))));rcases EU (who:=x.who) h0 h1 with h|h
 ·rw[h];refine Qe rfl (Qe rfl (Yg (v:=aV s.s0.aA) (an (row:=aD s) rfl) rfl (Qe (v:=iv s.s0.aA.length) (by simp[Yp]) (Xr (by kernel_rfl) rfl))))
 ·rw[h];refine Qe rfl (Qe rfl (Yg (v:=aV s.s1.aA) (an (row:=aD s) rfl) rfl (Qe (v:=iv s.s1.aA.length) (by simp[Yp]) (Xr (by kernel_rfl) rfl))))
theorem c298(b:Bk)(s:St)(sd tg:Int)(h0:0≤sd)(h1:sd≤1)(row:List aa)(j:Nat)(x:Nm)(hx:lV row j x):PC 230 [.ao row j,.ao [la b s sd tg] 0] (iv (kR s (c_ sd x.who)).ae.length):=by
 refine Yc hP g230.ok rfl rfl ?_;rw[H2.e]; unfold g230; dsimp only;refine Yg (an (row:=[la b s sd tg]) rfl) rfl (Qe rfl (Qe rfl (Yg (an hx.h2) rfl (Yh (c295 b s sd tg x.who h0 h1) rfl g227.ok.plain rfl ?_))));rcases EU (who:=x.who) h0 h1 with h|h
 ·rw[h];refine Qe rfl (Qe rfl (Yg (v:=il s.s0.ae) (an (row:=aD s) rfl) rfl (Qe (v:=iv s.s0.ae.length) (by simp[Yp]) (Xr (by kernel_rfl) rfl))))
 ·rw[h];refine Qe rfl (Qe rfl (Yg (v:=il s.s1.ae) (an (row:=aD s) rfl) rfl (Qe (v:=iv s.s1.ae.length) (by simp[Yp]) (Xr (by kernel_rfl) rfl))))
theorem c299(b:Bk)(s:St)(sd tg:Int)(h0:0≤sd)(h1:sd≤1)(y:aa):PC 231 [y,.ao [la b s sd tg] 0] (iv (kR s sd).aW):=by
 refine Yc hP g231.ok rfl rfl ?_;rw[H2.e]; unfold g231; dsimp only;refine Za (an (row:=[la b s sd tg]) rfl) (Xb (c295 b s sd tg 0 h0 h1) rfl g227.ok.plain rfl ?_);have hs:sd=0∨sd=1:=by omega
 rcases hs with rfl|rfl
 ·exact Za rfl (Za rfl (Za (an (row:=aD s) rfl) rfl))
 ·exact Za rfl (Za rfl (Za (an (row:=aD s) rfl) rfl))
def sP(b:Bk)(d:Sd):Int:=match d.aA with
 |[]=>0
 |c::_=>match b.af[c.toNat]? with
  |some k=>k.cost
  |none=>0
theorem c300(b:Bk)(s:St)(sd tg:Int)(h0:0≤sd)(h1:sd≤1)(hd:∀c∈(kR s sd).aA,0≤c∧c.toNat<b.af.length)(y:aa):PC 232 [y,.ao [la b s sd tg] 0] (iv (sP b (kR s sd))):=by
 refine Yc hP g232.ok rfl rfl ?_;rw[H2.e]; unfold g232; dsimp only;refine Za (an (row:=[la b s sd tg]) rfl) (Xb (c295 b s sd tg 0 h0 h1) rfl g227.ok.plain rfl ?_);have go:∀(j:Nat),aL false (j+3) 1 (aD s)=some (aV (kR s sd).aA)→∀t:aa,t=.ao (aD s) j →
   VV.rd (Zi [t] []) λRi=>
   VV.rd (Ze 3 [Ri] []) λRk=>
   VV.rd (Xh false 1 [Rk] []) λIz=>
   VV.rd (Yp [Iz] []) λIb=>
   VV.rd (Qn .gtr false [Ib,(.int .i64 0)] []) λIg=>
   VV.test Ig (
   VV.rd (Xh false 1 [.ao [la b s sd tg] 0] []) λIk=>
   VV.rd (Zi [Ik] []) λIm=>
   VV.rd (Ze 0 [Im] []) λIq=>
   VV.rd (Xh false 1 [Iq] []) λAz=>
   VV.rd (Zi [Az] []) λAD=>
   VV.rd (Ze 0 [AD] []) λAE=>
   VV.rd (Xh false 1 [AE] []) λAF=>
   VV.rd (Zm 1 [Iz,(.int .i64 0)] []) λAH=>
   VV.rd (Xh false 1 [AH] []) λAJ=>
   VV.rd (Zm 12 [AF,AJ] []) λrC=>
   VV.rd (Ze 2 [rC] []) λAP=>
   VV.rd (Xh false 1 [AP] []) λAX=>
   AX=iv (sP b (kR s sd))) (
   (aa.int .i64 0)=iv (sP b (kR s sd))):=by
  rintro j hj t rfl;refine Za rfl (Za rfl (Za (an hj) (Za (v:=iv (kR s sd).aA.length) (rd:=[]) (by simp[Yp]) (Za rfl ?_))));cases pB:(kR s sd).aA with
  |nil=>refine Zb (λh=>by simp at h) (λ_=>?_); simp[sP,pB]
  |cons c l=>
   obtain⟨q1,q2⟩:=hd c (by rw[pB]; simp);refine Zb (λ_=>?_) (λh=>by simp at h);refine Za (an (row:=[la b s sd tg]) rfl) (Za rfl (Za rfl (Za (an (row:=vq b s sd tg) rfl) (Za rfl (Za rfl (Za (v:=fm b.af) (an (row:=bU b) rfl) ?_))))));refine Za (v:=.ao [iv c] 0) (rd:=[]) rfl (Za (an (row:=[iv c]) rfl) (Za (sU _ b_ _ _ _ b.af _ c q1 q2) (Za rfl (Za (v:=iv b.af[c.toNat].cost) (an rfl) ?_))));simp[sP,pB,q2]
 have hs:sd=0∨sd=1:=by omega
 rcases hs with rfl|rfl
 ·exact go 7 rfl _ rfl
 ·exact go 15 rfl _ rfl
end Go.Ah.Tz
end
section
namespace Go.Ah.Tz
open Go.Proofs.Tryz (prog)
set_option maxRecDepth 100000
def MR(b:Bk)(s:St)(sd tg op n who:Int):Int:=
 if op=0 then n else if op=1 then (kR s (c_ sd who)).aJ else if op=2 then (kR s (c_ sd who)).hand.length else if op=3 then (kR s (c_ sd who)).aA.length
 else if op=4 then (kR s (c_ sd who)).ae.length else if op=5 then (kR s sd).aW else if op=6 then sP b (kR s sd) else (ng b s tg).1
def xU(op y z:Int):Int:=if op=8 then y+z else if op=9 then y-z else if op=10 then y*z else if op=11 then min y z else max y z
def tA(op:Int):List Int→Int
 |y::z::_=>xU op y z
 |_=>0
mutual
def fX (b:Bk) (s:St) (sd tg:Int):Nm→Int
 |.mk op n who kids=>xV (if op<8 then MR b s sd tg op n who else tA op (jY b s sd tg kids))
def jY (b:Bk) (s:St) (sd tg:Int):List Nm→List Int
 |[]=>[]
 |x::l=>fX b s sd tg x::jY b s sd tg l
end
theorem Nc(b:Bk)(s:St)(sd tg:Int)(x:Nm):fX b s sd tg x=xV (if x.op<8 then MR b s sd tg x.op x.n x.who else tA x.op (jY b s sd tg x.kids)):=by cases x; rfl
theorem ZdP(n:Int):-1000000≤xV n∧xV n≤1000000:=by unfold xV; omega
theorem Lr(b:Bk)(s:St)(sd tg:Int)(x:Nm):-1000000≤fX b s sd tg x∧fX b s sd tg x≤1000000:=by rw[Nc]; exact ZdP _
attribute [local irreducible] ak.rd ak.pu ak.wr ak.dr ak.gr ak.gw ak.gl ak.gd ak.opt aH W
set_option maxHeartbeats 4000000
theorem c302(y z:Int)(hy:-1000000≤y∧y≤1000000)(hz:-1000000≤z∧z≤1000000):PC 235 [iv y,iv z] (iv (y+z)):=by
 refine Yc hP g235.ok rfl rfl ?_;rw[H2.e]; unfold g235; dsimp only;refine Za rfl ?_;rw[bc (by omega) (by omega)]
theorem c303(y z:Int)(hy:-1000000≤y∧y≤1000000)(hz:-1000000≤z∧z≤1000000):PC 236 [iv y,iv z] (iv (y-z)):=by
 refine Yc hP g236.ok rfl rfl ?_;rw[H2.e]; unfold g236; dsimp only;refine Za rfl ?_;rw[bc (by omega) (by omega)]
theorem QdY{y z:Int}(hy:-1000000≤y∧y≤1000000)(hz:-1000000≤z∧z≤1000000):-1000000000000≤y*z∧y*z≤1000000000000:=by
 have h1:(y*z).natAbs≤1000000*1000000:=by rw[Int.natAbs_mul]; exact Nat.mul_le_mul (by omega) (by omega)
 omega
theorem c304(y z:Int)(hy:-1000000≤y∧y≤1000000)(hz:-1000000≤z∧z≤1000000):PC 237 [iv y,iv z] (iv (y*z)):=by
 refine Yc hP g237.ok rfl rfl ?_;rw[H2.e]; unfold g237; dsimp only;refine Za rfl ?_;have:=QdY hy hz;rw[bc (by omega) (by omega)]
theorem c305(y z:Int):PC 238 [iv y,iv z] (iv (min y z)):=by
 refine Yc hP g238.ok rfl rfl ?_;rw[H2.e]; unfold g238; dsimp only;exact Za (ZM ..) rfl
theorem c306(y z:Int):PC 239 [iv y,iv z] (iv (max y z)):=by
 refine Yc hP g239.ok rfl rfl ?_;rw[H2.e]; unfold g239; dsimp only;exact Za (X6 ..) rfl
theorem c301(b:Bk)(hf:aS b=true)(bN:Zj b.af)(s:St)(hs:bu 1000000000 s)(hm:aQ (cE b).1 b s true=true)(sd tg:Int)(y:aa):PC 233 [y,.ao [la b s sd tg] 0] (iv (ng b s tg).1):=by
 refine Yc hP g233.ok rfl rfl ?_;rw[H2.e]; unfold g233; dsimp only;refine Yg (an (row:=[la b s sd tg]) rfl) rfl (Qe rfl (Qe rfl (Yg (an (row:=vq b s sd tg) rfl) rfl (Qe rfl (Yg (v:=dg b) (an (row:=bU b) rfl) rfl ?_)))));refine Yg (an (row:=[la b s sd tg]) rfl) rfl (Qe rfl (Qe rfl (Yg (an (row:=vq b s sd tg) rfl) rfl (Qe rfl (Yg (v:=cf s) (an (row:=aD s) rfl) rfl ?_)))));refine Yg (an (row:=[la b s sd tg]) rfl) rfl (Qe rfl (Qe rfl (Qe rfl (Yg (v:=iv tg) (an (row:=vq b s sd tg) rfl) rfl (Yh (c54 b hf bN s hs hm tg) rfl g234.ok.plain rfl ?_)))));exact Qe rfl (Qe rfl (Qe rfl (Xr (by kernel_rfl) rfl)))
@[reducible] def qI(b:Bk)(s:St)(sd tg:Int):aa:=.ao [la b s sd tg] 0
@[reducible] def clA(b:Bk)(s:St)(sd tg:Int):aa:=.agg [.func (.func 225) [] [],.func (.func 226) [] [qI b s sd tg],.func (.func 228) [] [qI b s sd tg],.func (.func 229) [] [qI b s sd tg],.func (.func 230) [] [qI b s sd tg],.func (.func 231) [] [qI b s sd tg],.func (.func 232) [] [qI b s sd tg],.func (.func 233) [] [qI b s sd tg]]
theorem c291(b:Bk)(s:St)(sd tg:Int):PC 223 [la b s sd tg] (clA b s sd tg):=by
 refine MH hP g223.ok rfl ⟨.agg [.func (.func 225) [] [],.func (.func 226) [] [.ai 0 0],.func (.func 228) [] [.ai 0 0],.func (.func 229) [] [.ai 0 0],.func (.func 230) [] [.ai 0 0],.func (.func 231) [] [.ai 0 0],.func (.func 232) [] [.ai 0 0],.func (.func 233) [] [.ai 0 0]],
  [.box [la b s sd tg],.box [.func (.func 225) [] [],.func (.func 226) [] [.ai 0 0],.func (.func 228) [] [.ai 0 0],.func (.func 229) [] [.ai 0 0],.func (.func 230) [] [.ai 0 0],.func (.func 231) [] [.ai 0 0],.func (.func 232) [] [.ai 0 0],.func (.func 233) [] [.ai 0 0]]],rfl,?_⟩
 rw[H1.e]; unfold g223; dsimp only;refine Qb rfl rfl (Qb rfl rfl ?_);repeat first|refine Za rfl ?_|refine Qb rfl rfl ?_
 exact Qi rfl ⟨rfl,rfl⟩
@[reducible] def clB:aa:=.agg [.func (.func 235) [] [],.func (.func 236) [] [],.func (.func 237) [] [],.func (.func 238) [] [],.func (.func 239) [] []]
theorem c292:PC 224 [] clB:=by
 refine Yc hP g224.ok rfl rfl ?_;unfold g224; dsimp only[H0.u];exact Qb rfl rfl (Za rfl (Qb rfl rfl (Qi rfl rfl)))
end Go.Ah.Tz
end
section
namespace Go.Ah.Tz
open Go.Proofs.Tryz (prog)
set_option maxRecDepth 100000
attribute [local irreducible] ak.rd ak.pu ak.wr ak.dr ak.gr ak.gw ak.gl ak.gd ak.opt aH W
set_option maxHeartbeats 8000000
theorem nS(b:Bk)(hf:aS b=true)(bN:Zj b.af)(s:St)(hs:bu 1000000000 s)(hm:aQ (cE b).1 b s true=true)(sd tg:Int)(h0:0≤sd)(h1:sd≤1)(hd:∀c∈(kR s sd).aA,0≤c∧c.toNat<b.af.length)(t:Bool) :
  ∀(k:Nat) (x:Nm) (row:List aa) (j:Nat),lV row j x→SizeOf.sizeOf x≤k→cQ x=true→eT t x=true→PC 221 [.agg [.ao row j],la b s sd tg] (.iface 3 (iv (fX b s sd tg x)))
 |0,x,_,_,_,h,_,_=>by cases x; simp at h
 |k+1,x,row,j,hx,hk,iT,bV=>by
  have fo:=bV;rw[Jg] at fo;simp only[Bool.and_eq_true] at fo;obtain⟨k1,k2,k3⟩:=fo;simp only[ia,Bool.and_eq_true,decide_eq_true_eq] at k1;obtain⟨ka,kb,kc⟩:=k1;refine Yc hP g221.ok rfl rfl ?_;rw[H2.e]; unfold g221; dsimp only;refine Qb (v:=.ai 0 0) (rd:=[]) (up:=[(0,.box [.ao row j])]) rfl rfl (Za rfl (Za (ld (row:=[.ao row j]) rfl rfl) (Za rfl (Za rfl (Za (an hx.h0) (Za (v:=.bool (decide (x.op<8))) rfl ?_))))));refine Zb (λh=>?_) (λh=>?_)
  ·have h:x.op<8:=by simpa using h
   have hv:fX b s sd tg x=xV (MR b s sd tg x.op x.n x.who):=by rw[Nc,if_pos h]
   rw[hv];refine Yh (c291 b s sd tg) rfl g223.ok.plain rfl ?_;refine Qe rfl (Yg (ld (row:=[.ao row j]) rfl rfl) rfl (Qe rfl (Qe rfl (Yg (an hx.h0) rfl ?_))));have mX:x.op=0∨x.op=1∨x.op=2∨x.op=3∨x.op=4∨x.op=5∨x.op=6∨x.op=7:=by omega
   rcases mX with e|e|e|e|e|e|e|e<;>rw[e]
   ·exact Qe rfl (Qe rfl (Yg (ld (row:=[.ao row j]) rfl rfl) rfl (Yh (c293 row j x hx) rfl g225.ok.plain rfl (Yh (c290 _) rfl g222.ok.plain rfl (Qe rfl (Xr (by kernel_rfl) rfl))))))
   ·exact Qe rfl (Qe rfl (Yg (ld (row:=[.ao row j]) rfl rfl) rfl (Yh (c294 b s sd tg h0 h1 row j x hx) rfl g226.ok.plain rfl (Yh (c290 _) rfl g222.ok.plain rfl (Qe rfl (Xr (by kernel_rfl) rfl))))))
   ·exact Qe rfl (Qe rfl (Yg (ld (row:=[.ao row j]) rfl rfl) rfl (Yh (c296 b s sd tg h0 h1 row j x hx) rfl g228.ok.plain rfl (Yh (c290 _) rfl g222.ok.plain rfl (Qe rfl (Xr (by kernel_rfl) rfl))))))
   ·exact Qe rfl (Qe rfl (Yg (ld (row:=[.ao row j]) rfl rfl) rfl (Yh (c297 b s sd tg h0 h1 row j x hx) rfl g229.ok.plain rfl (Yh (c290 _) rfl g222.ok.plain rfl (Qe rfl (Xr (by kernel_rfl) rfl))))))
   ·exact Qe rfl (Qe rfl (Yg (ld (row:=[.ao row j]) rfl rfl) rfl (Yh (c298 b s sd tg h0 h1 row j x hx) rfl g230.ok.plain rfl (Yh (c290 _) rfl g222.ok.plain rfl (Qe rfl (Xr (by kernel_rfl) rfl))))))
   ·exact Qe rfl (Qe rfl (Yg (ld (row:=[.ao row j]) rfl rfl) rfl (Yh (c299 b s sd tg h0 h1 _) rfl g231.ok.plain rfl (Yh (c290 _) rfl g222.ok.plain rfl (Qe rfl (Xr (by kernel_rfl) rfl))))))
   ·exact Qe rfl (Qe rfl (Yg (ld (row:=[.ao row j]) rfl rfl) rfl (Yh (c300 b s sd tg h0 h1 hd _) rfl g232.ok.plain rfl (Yh (c290 _) rfl g222.ok.plain rfl (Qe rfl (Xr (by kernel_rfl) rfl))))))
   ·exact Qe rfl (Qe rfl (Yg (ld (row:=[.ao row j]) rfl rfl) rfl (Yh (c301 b hf bN s hs hm sd tg _) rfl g233.ok.plain rfl (Yh (c290 _) rfl g222.ok.plain rfl (Qe rfl (Xr (by kernel_rfl) rfl))))))
  ·have h:¬x.op<8:=by simpa using h
   have hl:x.kids.length=2:=by rw[kc]; simp[qw]; omega
   have Ea:x.kids[0]∈x.kids:=List.getElem_mem (by omega);have O8:x.kids[1]∈x.kids:=List.getElem_mem (by omega);have V3:∀y∈x.kids,eT t y=true:=by
    have:∀l:List Nm,de t l=true→∀y∈l,eT t y=true:=by
     intro l
     induction l with
     |nil=>intro _ y hy; simp at hy
     |cons a l ih=>
      intro hh y hy;simp only[de,Bool.and_eq_true] at hh;simp only[List.mem_cons] at hy;rcases hy with rfl|hy
      ·exact hh.1
      ·exact ih hh.2 y hy
    exact this _ k2
   have hv:fX b s sd tg x=xV (xU x.op (fX b s sd tg x.kids[0]) (fX b s sd tg x.kids[1])):=by
    rw[Nc,if_neg h];have GV:x.kids=[x.kids[0],x.kids[1]]:=by
     apply List.ext_getElem (by simp[hl]);intro i h1 h2;have:i=0∨i=1:=by simp at h2; omega
     rcases this with rfl|rfl<;>rfl
    conv=>lhs; rw[GV]
    simp[jY,tA]
   rw[hv];have r0:=nS b hf bN s hs hm sd tg h0 h1 hd t k x.kids[0] (ba x.kids[0]) 0 (oR _) (by have:=xN Ea; omega) (XW iT Ea) (V3 _ Ea);have r1:=nS b hf bN s hs hm sd tg h0 h1 hd t k x.kids[1] (ba x.kids[1]) 0 (oR _) (by have:=xN O8; omega) (XW iT O8) (V3 _ O8);have b0:=Lr b s sd tg x.kids[0];have b1:=Lr b s sd tg x.kids[1];refine Za rfl (Za (ld (row:=[.ao row j]) rfl rfl) (Za rfl (Za rfl (Za (an hx.h3) (Za (Zp _ ba _ _ _ x.kids _ 0 (by omega)) (Za rfl (Xb r0 rfl g221.ok.plain rfl (Za rfl ?_))))))));refine Za rfl (Za (ld (row:=[.ao row j]) rfl rfl) (Za rfl (Za rfl (Za (an hx.h3) (Za (Zp _ ba _ _ _ x.kids _ 1 (by omega)) (Za rfl (Xb r1 rfl g221.ok.plain rfl (Za rfl ?_))))))));refine Yh c292 rfl g224.ok.plain rfl (Qe rfl (Yg (ld (row:=[.ao row j]) rfl rfl) rfl (Qe rfl (Qe rfl (Yg (an hx.h0) rfl ?_)))));have mX:x.op=8∨x.op=9∨x.op=10∨x.op=11∨x.op=12:=by omega
   rcases mX with e|e|e|e|e<;>rw[e]
   ·exact Qe rfl (Qe rfl (Yh (c302 _ _ b0 b1) rfl g235.ok.plain rfl (Yh (c290 _) rfl g222.ok.plain rfl (Qe rfl (Xr (by kernel_rfl) rfl)))))
   ·exact Qe rfl (Qe rfl (Yh (c303 _ _ b0 b1) rfl g236.ok.plain rfl (Yh (c290 _) rfl g222.ok.plain rfl (Qe rfl (Xr (by kernel_rfl) rfl)))))
   ·exact Qe rfl (Qe rfl (Yh (c304 _ _ b0 b1) rfl g237.ok.plain rfl (Yh (c290 _) rfl g222.ok.plain rfl (Qe rfl (Xr (by kernel_rfl) rfl)))))
   ·exact Qe rfl (Qe rfl (Yh (c305 _ _) rfl g238.ok.plain rfl (Yh (c290 _) rfl g222.ok.plain rfl (Qe rfl (Xr (by kernel_rfl) rfl)))))
   ·exact Qe rfl (Qe rfl (Yh (c306 _ _) rfl g239.ok.plain rfl (Yh (c290 _) rfl g222.ok.plain rfl (Qe rfl (Xr (by kernel_rfl) rfl)))))
end Go.Ah.Tz
end
section
namespace Go.Ah.Tz
open Go.Proofs.Tryz (prog)
set_option maxRecDepth 100000
attribute [local irreducible] ak.rd ak.pu ak.wr ak.dr ak.gr ak.gw ak.gl ak.gd ak.opt aH W
set_option maxHeartbeats 4000000
theorem c125(cs:List Cd)(hf:QE cs=true)(l:List Ef)(hl:bG l=true):PC 142 [fm cs,ic l] (.bool (bT cs true 1 l)):=by
 simp only[QE,Bool.and_eq_true,decide_eq_true_eq] at hf;obtain⟨f0,f1⟩:=hf;rw[cO] at f0;refine Yc hP g142.ok rfl rfl ?_;rw[H2.e]; unfold g142; dsimp only;refine Qb rfl rfl (Za rfl ?_);refine Xj (ι:=Nat) (λi vs σ=>∃m,vs=[iv i]∧ah σ 0=.map (ik m)∧0<σ.length∧i≤cs.length∧fV m (cs.take i)) (λi=>cs.length-i) 0 ⟨[],rfl,rfl,by simp,by omega,λt=>by simp[bJ,jQ]⟩ ?_;rintro i vs σ again ⟨m,rfl,hm,iE,hi,hu⟩ aZ;refine Za rfl ?_;refine Zb (λh=>?_) (λh=>?_)
 ·have oH:i<cs.length:=by simpa using h
  have dc:=λ(s:List ab)=>Zp s b_ false false 12 cs .i64 i oH;have jb:cs.take (i+1)=cs.take i++[cs[i]]:=Yv cs i oH;generalize cs[i]=c at dc jb;refine Qh λk10 mT=>?_;have kk:∀m' σ',fV m' (cs.take i++[c])→ah σ' 0=.map (ik m')→0<σ'.length→k10 [] σ':=by
   intro m' σ' q1 q3 q4;rw[mT];refine Za (Yj ..) ?_;rw[Qd (n:=i) (by omega)];exact aZ (i+1) _ _ (by omega) ⟨m',rfl,q3,q4,by omega,by rw[jb]; exact q1⟩
  clear mT aZ;refine Za (dc _) (Za (an (ov _)) (Xq (row:=b_ c) (row':=b_ c) rfl rfl rfl ?_));have aG:=Yf σ (ab.box (b_ c));have ma:ah (σ++[ab.box (b_ c)]) 0=.map (ik m):=Xd _ hm (by simp);have lq:0<(σ++[ab.box (b_ c)]).length:=by simp
  generalize σ++[ab.box (b_ c)]=base at aG ma lq ⊢;generalize σ.length=b at aG ⊢;refine Za rfl (Za (ld aG rfl) (Za (S_ ma _) (Za rfl (Za rfl (Za rfl ?_)))));refine Zb (λh=>?_) (λh=>?_)
  ·have h:(bJ c.name m).isSome=false:=by simpa using h
   refine Za rfl (Za (ld aG rfl) (Za rfl (Za (ld aG rfl) (Qb (D2 ma _ _) (Xg _ lq) ?_))));exact kk _ _ (hu.new h) (Xe _ lq) (by simpa using lq)
  ·have h:(bJ c.name m).isSome=true:=by simpa using h
   exact kk _ _ (hu.eo h) ma lq
 have h:i=cs.length:=by simp at h; omega
 subst h;rw[List.take_length] at hu;refine Za rfl (Qb (v:=.ai σ.length 0) (rd:=[]) (up:=[(σ.length,.box [.map 0,.bool true])]) rfl (Yi _ _) ?_);have hB:=Yf σ (ab.box [.map 0,.bool true]);have ma:ah (σ++[ab.box [.map 0,.bool true]]) 0=.map (ik m):=Xd _ hm (by simp);refine Zx (rd:=[0,σ.length]) (c157 m cs hu.ae true l 1 hl (by omega)) rfl g130.ok.plain (.cons (aB.box (ZP hB) (by simp) (.cons (aB.map (E' ma) (by simp) (Nd (Ja m))) (bp.ro rfl))) (bp.ro rfl)) rfl ?_;rfl
def NV:Cn:=.mk 0 0 [] [] []
def jR(x:Nm):Ef:=.mk 3 0 x [] NV [] []
def DF(x:Nm):Cd:=⟨[80,114,111,98,101],false,0,0,0,0,0,0,[jR x],[],[],0⟩
@[reducible] def pz(x:Nm):List aa:=[ar 3,ar 0,ar x.op,iv x.n,ar x.who,.ax false false 4 (x.kids.map ba),.str [],ar 0,ar 0,.str [],.aq,.aq,.aq,.aq]
theorem Qdk{h0:Hp}{rd:List Nat}(x:Nm):bp h0 rd (pz x) (aM (jR x)):=by
 rw[XC];exact .cons (aB.ro rfl) <| .cons (aB.ro rfl) <| .cons (aB.ro rfl) <| .cons (aB.ro rfl) <| .cons (aB.ro rfl) <| .cons (aB.ro rfl) <| .cons (aB.ro rfl) <| .cons (aB.ro rfl) <| .cons (aB.ro rfl) <| .cons (aB.ro rfl) <|
  .cons (aB.cy (aB.ro rfl) (λM u d=>d.bC 4)) <| .cons (aB.cy (aB.ro rfl) (λM u d=>d.bC 5)) <| .cons (aB.cy (aB.ro rfl) (λM u d=>d.bC 14)) <| .cons (aB.cy (aB.ro rfl) (λM u d=>d.bC 14)) .nil
theorem R5{h0:Hp}{rd:List Nat}(x:Nm){b:Nat}(hb:h0 b=some (.rows 14 [pz x]))(cY:b∈rd):aB h0 rd (.sl b 0 1 true) (ic [jR x]):=by
 refine aB.cy (y:=.ax true false 14 [aM (jR x)]) (aB.sl hb cY (by simp) rfl (λi row row' e1 e2=>?_)) (λM u d=>d.iJ)
 match i with
 |0=>simp at e1 e2; subst e1; subst e2; exact Qdk x
 |i+1=>simp at e2
theorem Um{x:Nm}(h:cQ x=true):bG [jR x]=true:=by
 simp[bG,jR,vn,dk,h,cz,NV,cO,wi,y9,yO]
theorem c82(b:Bk)(hf:aS b=true)(x:Nm)(hx:cQ x=true)(bV:eT true x=true)(hw:lP x≤200):PC 108 [.ao (ba x) 0,.ei,.ao (bU b) 0] (.bool true):=by
 have gC:QE b.af=true:=by
  simp only[aS,Bool.and_eq_true] at hf; exact hf.1
 have hlen:((o8 x).length:Int)=lP x:=by have:=E6 x; omega
 have Gn:(oW (DF x)).length=1+(o8 x).length:=by simp[oW,DF,bS,jR,jk,bd]; omega
 have hW:nD (DF x)=1+lP x:=by rw[J9,Gn]; omega
 have O3:bT b.af true 1 [jR x]=true:=by
  simp[bT,dp,zg,jR,Ef.op,Ef.c,Ef.bM,Ef.bQ,Ef.n,Ef.name,Ef.who,bd,bV,eU,NV,gJ,iC,Cn.op,Cn.who,Cn.name,Cn.ay,Cn.kids]
 have K0:decide (nD (DF x)-1>200)=false:=decide_eq_false (by omega);have h124:=c124 (DF x) (Um hx) rfl rfl (by rw[Gn]; omega);have h125:=c125 b.af gC [jR x] (Um hx);rw[O3] at h125;rw[XI];refine Yc hP g108.ok rfl rfl ?_;rw[H3.e]; unfold g108; dsimp only;refine Za rfl (Qb (v:=.ai 0 0) rfl rfl (Qb (v:=.aF) (rd:=[]) (up:=[(0,.box [ar 3,ar 0,ar 0,iv 0,ar 0,.aq,.str [],ar 0,ar 0,.str [],.aq,.aq,.aq,.aq])]) rfl rfl (Za rfl (ZY (Xc (Za rfl (Za (an rfl) (Za rfl ?_))))))));refine Qb (v:=.aF) (rd:=[]) (up:=[(0,.box (pz x))]) rfl rfl ?_;refine Za (ld (row:=pz x) rfl rfl) (Qb (v:=.sl 1 0 1 true) (rd:=[]) (up:=[(1,.rows 14 [pz x])]) rfl rfl (Za rfl (Qb (v:=.ai 2 0) rfl rfl ?_)));refine Qb (v:=.aF) (rd:=[]) (up:=[(2,.box [.str [80,114,111,98,101],.bool false,iv 0,iv 0,iv 0,iv 0,iv 0,iv 0,.sl 1 0 1 true,.aq,.aq,iv 0])]) rfl rfl ?_;refine Za (ld (row:=[.str [80,114,111,98,101],.bool false,iv 0,iv 0,iv 0,iv 0,iv 0,iv 0,.sl 1 0 1 true,.aq,.aq,iv 0]) rfl rfl) ?_;refine Zx (rd:=[1]) h124 rfl g129.ok.plain (.cons (aB.agg ?_) .nil) rfl ?_
 ·exact .cons (aB.ro rfl) <| .cons (aB.ro rfl) <| .cons (aB.ro rfl) <| .cons (aB.ro rfl) <| .cons (aB.ro rfl) <| .cons (aB.ro rfl) <| .cons (aB.ro rfl) <| .cons (aB.ro rfl) <| .cons (R5 x rfl (by simp)) <|
   .cons (aB.cy (aB.ro rfl) (λM u d=>d.bC 14)) <| .cons (aB.cy (aB.ro rfl) (λM u d=>d.bC 14)) <| .cons (aB.ro rfl) .nil
 refine Za (sV ..) ?_;rw[bc (by omega) (by omega)];refine Za (v:=.bool (decide (nD (DF x)-1>200))) rfl ?_;rw[K0];refine Yd (Qe rfl (Qe rfl (Yg (v:=fm b.af) (an (row:=bU b) rfl) rfl (Qe rfl (Yg (v:=.sl 1 0 1 true) (ld (row:=[.str [80,114,111,98,101],.bool false,iv 0,iv 0,iv 0,iv 0,iv 0,iv 0,.sl 1 0 1 true,.aq,.aq,iv 0]) rfl rfl) rfl ?_)))));exact YW (rd:=[1]) h125 rfl g142.ok.plain (.cons (aB.ro rfl) (.cons (R5 x rfl (by simp)) .nil)) rfl (Xr (by kernel_rfl) rfl)
end Go.Ah.Tz
end
section
namespace Go.Ah.Tz
open Go.Proofs.Tryz (prog)
set_option maxRecDepth 100000
theorem US{e:Int}{b:Bk}{s:St}(h:aQ e b s false=true):aQ e b s true=true:=by
 simp only[aQ,Bool.and_eq_true] at h ⊢;obtain⟨a1,a2,a3,a4,a5,a6,a7,a8,a9,b1,b2,b3,b4,h⟩:=h;refine⟨a1,a2,a3,a4,a5,a6,a7,a8,a9,b1,b2,b3,b4,?_⟩;split at h
 ·rename_i q; rw[if_pos q]; exact h
 ·rename_i q; rw[if_neg q]; simp only[Bool.and_eq_true] at h ⊢; exact⟨by simp,h.2⟩
def Ei:Nm:=.mk 0 0 0 []
theorem jF:Qj prog 107=true:=by kernel_rfl
attribute [local irreducible] ak.rd ak.pu ak.wr ak.dr ak.gr ak.gw ak.gl ak.gd ak.opt aH W
set_option maxHeartbeats 4000000
theorem c31(b:Bk)(hf:aS b=true)(bN:Zj b.af)(s:St)(hs:bu 1000000000 s)(hm:aQ (cE b).1 b s true=true)(sd tg:Int)(h0:0≤sd)(h1:sd≤1)(hd:∀c∈(kR s sd).aA,0≤c∧c.toNat<b.af.length)
 (x:Nm)(hx:cQ x=true)(bV:eT true x=true)(hw:lP x≤200):PC 70 [dg b,cf s,.agg [iv sd,iv tg],.agg (ba x)] (.bn [iv (fX b s sd tg x),iv 0]):=by
 have hz:=nS b hf bN s hs hm sd tg h0 h1 hd true _ Ei (ba Ei) 0 (oR _) (Nat.le_refl _) rfl rfl;have h289:=nS b hf bN s hs hm sd tg h0 h1 hd true _ x (ba x) 0 (oR _) (Nat.le_refl _) hx bV;have a0:=c81 b hf bN s hs hm sd tg h0 h1 _ _ _ hz;have a1:=c81 b hf bN s hs hm sd tg h0 h1 _ _ _ h289;have h82:=c82 b hf x hx bV hw;refine Yc hP g70.ok rfl rfl ?_;rw[H4.e]; unfold g70; dsimp only;refine Qb (v:=.ai 0 0) (rd:=[]) (up:=[(0,.box (bU b))]) rfl rfl (Qb (v:=.ai 1 0) (rd:=[]) (up:=[(1,.box (aD s))]) rfl rfl (Qb (v:=.ai 2 0) rfl rfl ?_));refine Qb (v:=.ai 3 0) (rd:=[]) (up:=[(3,.box (ba x))]) (by rw[XI]; rfl) rfl ?_;refine Za (ld (row:=[iv sd,iv tg]) rfl rfl) (Za rfl (Qb (v:=.ai 4 0) rfl rfl (Za rfl (Za rfl ?_))));have B0:∀ {σ:List ab} {rd:List Nat},ah σ 0=.box (bU b)→0∈rd→aB (hp σ) rd (.ai 0 0) (.ao (bU b) 0):=λh cY=>aB.box (ZP h) cY (bp.ro rfl);have B1:∀ {σ:List ab} {rd:List Nat},ah σ 1=.box (aD s)→1∈rd→aB (hp σ) rd (.ai 1 0) (.ao (aD s) 0):=λh cY=>aB.box (ZP h) cY (bp.ro rfl);have B3:∀ {σ:List ab} {rd:List Nat},ah σ 3=.box (ba x)→3∈rd→aB (hp σ) rd (.ai 3 0) (.ao (ba x) 0):=λh cY=>aB.box (ZP h) cY (bp.ro (by have:=kP x; simpa[fz,aa.ro] using this));refine Zx (rd:=[0,1,4]) a0 rfl jF (.cons (B0 rfl (by simp)) <| .cons (B1 rfl (by simp)) <| .cons (aB.ro rfl) <| .cons (aB.iface (aB.agg (.cons (aB.box (row:=[ar 0,iv 0,ar 0,.aq]) rfl (by simp) ?_) .nil))) .nil) rfl ?_
 ·exact .cons (aB.ro rfl) <| .cons (aB.ro rfl) <| .cons (aB.ro rfl) <| .cons (aB.cy (aB.ro rfl) (λM u d=>d.bC 4)) .nil
 refine Za rfl (Za rfl (Za rfl (Xa ?_)));refine Zx (rd:=[0,3]) h82 rfl g108.ok.plain (.cons (B3 rfl (by simp)) <| .cons (aB.ro rfl) <| .cons (B0 rfl (by simp)) .nil) rfl ?_;refine Ya (Za rfl (Za rfl (Yd (Za rfl (ZY (Xc ?_))))));refine Za (ld (row:=[iv sd,iv tg]) rfl rfl) (Za rfl (Za rfl ?_));refine Zx (rd:=[0,1,3]) a1 rfl jF (.cons (B0 rfl (by simp)) <| .cons (B1 rfl (by simp)) <| .cons (aB.ro rfl) <| .cons (aB.iface (aB.agg (.cons (B3 rfl (by simp)) .nil))) .nil) rfl ?_;exact Za rfl (Za rfl (Za rfl (Yd (Za rfl rfl))))
end Go.Ah.Tz
end
section
namespace Go.Ah.Tz
open Go.Proofs.Tryz (prog)
set_option maxRecDepth 100000
@[reducible] def dF(b:Bk)(s:St)(sd tg:Int)(lv:aa)(fu:Int)(mv:aa):List aa:=bU b++(aD s++[iv sd,iv tg,lv,iv fu,mv])
@[reducible] def e7(e:Ev)(cv:aa):List aa:=[ar e.kind,iv e.side,iv e.card,iv e.id,iv e.other,iv e.n,cv]
def vO(cv:aa)(l:List Int):Prop:=cv=aV l∨(cv=.aq∧l=[])
inductive fk:List (List aa)→List Ev→Prop
 |nil:fk [] []
 |snoc (rows:List (List aa)) (l:List Ev) (e:Ev) (cv:aa):fk rows l→vO cv e.af→fk (rows++[e7 e cv]) (l++[e])
theorem fk.len{rows:List (List aa)}{l:List Ev}(h:fk rows l):rows.length=l.length:=by
 induction h with
 |nil=>rfl
 |snoc _ _ _ _ _ _ ih=>simp[ih]
def LV(rb:Nat)(l:List Ev)(lv:aa)(σ:List ab):Prop:=(l=[]∧lv=.aq)∨(l≠[]∧∃c rows,c≠rb∧lv=.sl c 0 l.length false∧ah σ c=.rows 7 rows∧fk rows l)
structure Fr (rb:Nat) (lv eY:aa) (σ σ':List ab):Prop where
 len:σ.length≤σ'.length
 uP:∀k,k<σ.length→k≠rb→(∀n,lv≠.sl k 0 n false)→ah σ' k=ah σ k
 new:∀k n,eY=.sl k 0 n false→σ.length≤k∨∃m,lv=.sl k 0 m false
theorem Fr.trans{rb:Nat}{a b c:aa}{σ τ υ:List ab}(h:Fr rb a b σ τ)(q:Fr rb b c τ υ):Fr rb a c σ υ:=by
 refine⟨Nat.le_trans h.len q.len,λk hk hr hn=>?_,λk n e=>?_⟩
 ·rw[q.uP k (Nat.lt_of_lt_of_le hk h.len) hr (λn e=>?_),h.uP k hk hr hn];rcases h.new k n e with h1|⟨m,h1⟩
  ·omega
  ·exact hn m h1
 ·rcases q.new k n e with h1|⟨m,h1⟩
  ·exact .inl (Nat.le_trans h.len h1)
  ·exact h.new k m h1
theorem Fr.app{rb:Nat}{lv:aa}{σ:List ab}(l:List ab)(yG:∀k n,lv=.sl k 0 n false→k<σ.length):Fr rb lv lv σ (σ++l):=
 ⟨by simp,λk hk _ _=>Xo l hk,λk n h=>.inr ⟨n,h⟩⟩
theorem Fr.set{rb:Nat}(lv:aa){σ:List ab}(x:ab):Fr rb lv lv σ (σ.set rb x):=
 ⟨by simp,λk hk hr _=>Zg x hk hr,λk n h=>.inr ⟨n,h⟩⟩
theorem LV.lt{rb:Nat}{l:List Ev}{lv:aa}{σ:List ab}(h:LV rb l lv σ){k n:Nat}(e:lv=.sl k 0 n false):k<σ.length:=by
 rcases h with ⟨_,h⟩|⟨_,c,rows,_,h,hc,_⟩
 ·rw[h] at e; cases e
 ·rw[h] at e; cases e; exact Ye hc (by simp)
theorem LV.eo{rb:Nat}{l:List Ev}{lv:aa}{σ σ':List ab}(h:LV rb l lv σ)(hk:∀k,k<σ.length→k≠rb→ah σ' k=ah σ k):LV rb l lv σ':=by
 rcases h with h|⟨h0,c,rows,h1,h2,hc,h3⟩
 ·exact .inl h
 ·exact .inr ⟨h0,c,rows,h1,h2,by rw[hk c (Ye hc (by simp)) h1]; exact hc,h3⟩
attribute [local irreducible] ak.rd ak.pu ak.wr ak.dr ak.gr ak.gw ak.gl ak.gd ak.opt aH W
set_option maxHeartbeats 4000000
theorem XdS(n by_:Nat){σ:List ab}{c:Nat}{row:List aa}(hc:ah σ c=.rows n [row])(hr:row.all aa.cell=true)(ct:194*by_≤2 ^ 48) :
  Zl n by_ [.aq,.sl c 0 1 true] σ=.ok (.sl σ.length 0 1 false) [c] [(σ.length,.rows n [row])]:=by
 have h1:Qp n σ (.sl c 0 1 true)=some ([row],[c]):=by
  simp only[Qp,hc];simp[cut]; rfl
 show QH n by_ σ [] [] (.sl c 0 1 true)=_;unfold QH;simp only[h1,Q7 hr];simp;rw[show Nat.ble (194*by_) 281474976710656=true from Nat.ble_eq_true_of_le (by simpa using ct)];rfl
theorem MT{e:Ev}{cv:aa}{l:List Int}(pA:vO cv l)(σ:List ab):Yy 7 1 [.int .i8 0,.int .i64 0,.int .i64 0,.int .i64 0,.int .i64 0,.int .i64 0,.aq] [(0,7)] [.agg (e7 e cv)] σ=.ok (.sl σ.length 0 1 true) [] [(σ.length,.rows 7 [e7 e cv])]:=by
 rcases pA with rfl|⟨rfl,_⟩<;>rfl
theorem ZdT{e:Ev}{cv:aa}{l:List Int}(pA:vO cv l)(σ:List ab):tl [.agg (e7 e cv)] σ=.ok (.ai σ.length 0) [] [(σ.length,.box (e7 e cv))]:=by
 rcases pA with rfl|⟨rfl,_⟩<;>rfl
theorem tt{σ:List ab}{rb:Nat}{b:Bk}{s:St}{sd tg fu:Int}{mv lv:aa}{l:List Ev}(hr:ah σ rb=.box (dF b s sd tg lv fu mv))(hl:LV rb l lv σ)(hn:l.length≤1000000000)(e:Ev)(cv:aa)(pA:vO cv e.af){K:aa→List ab→Prop}
 (hK:∀σ' eY,Fr rb lv eY σ σ'→ah σ' rb=.box (dF b s sd tg eY fu mv)→LV rb (l++[e]) eY σ'→K (.bn []) σ'):g100.u VV [.ai rb 0,.agg (e7 e cv)] σ K:=by
 have uI:=Ye hr (by simp);have ny:(e7 e cv).all aa.cell=true:=by rcases pA with rfl|⟨rfl,_⟩<;>rfl
 rw[H2.e]; unfold g100; dsimp only;generalize hX:e7 e cv=X at *;have r1:=Xd [.box (e7 e cv)] hr (by simp);have r2:=Xd [.rows 7 [e7 e cv]] r1 (by simp);have f1:=Yf σ (.box (e7 e cv));have f2:=Yf (σ++[.box (e7 e cv)]) (.rows 7 [e7 e cv]);subst hX;refine Qb (ZdT (e:=e) pA _) (Yi σ _) (Qe rfl (Qe rfl (Yg (ld r1 rfl) (Xi _) (Yg (ld f1 (show aL true 0 7 (e7 e cv)=some (.agg (e7 e cv)) from rfl)) (Xi _) (Yg (MT (e:=e) pA _) (Yi _ _) ?_)))));have oO:(σ++[ab.box (e7 e cv)]).length=σ.length+1:=by simp
 have m9:(σ++[ab.box (e7 e cv)]++[ab.rows 7 [e7 e cv]]).length=σ.length+2:=by simp
 rcases hl with ⟨rfl,rfl⟩|⟨h0,c,rows,Ox,rfl,hc,hR⟩
 ·refine Yg (XdS 7 72 f2 ny (by decide)) (Yi _ _) (Qe rfl (Qe rfl ?_));have r3:=Xd [.rows 7 [e7 e cv]] r2 (by simp);have uC:=Ye r3 (by simp);refine Yg (cM r3 rfl rfl rfl) (Xg _ uC) (Xr (by have cL:rb≠σ.length+1:=(by omega); simp[Xn,Zu,Qq,XF,c9,eZ,List.range,List.range.loop,cL,cL.symm]) ?_);refine hK _ (.sl (σ++[ab.box (e7 e cv)]++[ab.rows 7 [e7 e cv]]).length 0 1 false) ⟨by simp,λk hk gV _=>?_,λk n h=>.inl ?_⟩ ?_ (.inr ⟨by simp,(σ++[ab.box (e7 e cv)]++[ab.rows 7 [e7 e cv]]).length,[]++[e7 e cv],by rw[m9]; omega,rfl,?_,fk.snoc [] [] e cv .nil pA⟩)
  ·rw[Zg _ (by simp; omega) gV,Xo _ (by simp; omega),Xo _ (by simp; omega),Xo _ hk]
  ·cases h; rw[m9]; omega
  ·exact Xt (List.getElem?_set_self uC)
  ·have:=Yf (σ++[ab.box (e7 e cv)]++[ab.rows 7 [e7 e cv]]) (.rows 7 [e7 e cv]);rw[Zg _ (by simp) (by rw[m9]; omega),this]; rfl
 ·have OA:=Ye hc (by simp);have c2:=Xd [.rows 7 [e7 e cv]] (Xd [.box (e7 e cv)] hc (by simp)) (by simp);have Gz:c<(σ++[ab.box (e7 e cv)]++[ab.rows 7 [e7 e cv]]).length:=by rw[m9]; omega
  refine Yg (Y6 7 72 (rs:=rows) c2 f2 hR.len ny (by omega)) (DC _ _ Gz) (Qe rfl (Qe rfl ?_));have r3:=Xd [.rows 7 (rows++[e7 e cv])] (Zd (x:=.dead) r2 (by simp) Ox) (by simp);have uC:=Ye r3 (by simp);refine Yg (cM r3 rfl rfl rfl) (Xg _ uC) (Xr (by have cL:rb≠σ.length+1:=(by omega); simp[Xn,Zu,Qq,XF,c9,eZ,List.range,List.range.loop,cL,cL.symm]) ?_);refine hK _ (.sl (σ++[ab.box (e7 e cv)]++[ab.rows 7 [e7 e cv]]).length 0 (l.length+1) false) ⟨by simp; omega,λk hk gV hkc=>?_,λk n h=>.inl ?_⟩ ?_ (.inr ⟨by simp,(σ++[ab.box (e7 e cv)]++[ab.rows 7 [e7 e cv]]).length,rows++[e7 e cv],by rw[m9]; omega,by simp,?_,fk.snoc rows l e cv hR pA⟩)
  ·have OZ:k≠c:=λe=>hkc l.length (by rw[e]);rw[Zg _ (by simp; omega) gV,Xo _ (by simp; omega),Zg _ (by simp; omega) OZ,Xo _ (by simp; omega),Xo _ hk]
  ·cases h; rw[m9]; omega
  ·exact Xt (List.getElem?_set_self uC)
  ·have:=Yf ((σ++[ab.box (e7 e cv)]++[ab.rows 7 [e7 e cv]]).set c .dead) (ab.rows 7 (rows++[e7 e cv]));simp only[List.length_set] at this;rw[Zg _ (by simp) (by rw[m9]; omega),this]
theorem TE{σ:List ab}{rb:Nat}{b:Bk}{s:St}{sd tg fu:Int}{mv lv:aa}(hr:ah σ rb=.box (dF b s sd tg lv fu mv))(h01:sd=0∨sd=1)(who:Int){K:aa→List ab→Prop}(hK:K (iv (c_ sd who)) σ):g102.u VV [.ai rb 0,ar who] σ K:=by
 rw[H2.e]; unfold g102; dsimp only;refine Za (Zf ..) (Zb (λh=>?_) (λh=>?_))
 ·have h:who=1:=by simpa using h
  refine Za rfl (Za rfl (Za rfl (Za (ld hr rfl) (Za (sV ..) ?_))));rw[IntWalk.i64_in _ (by omega)];unfold c_ at hK; rwa [if_pos h] at hK
 ·have h:who≠1:=by simpa using h
  refine Za rfl (Za rfl (Za rfl (Za (ld hr rfl) ?_)));unfold c_ at hK; rwa [if_neg h] at hK
end Go.Ah.Tz
end
section
namespace Go.Ah.Tz
open Go.Proofs.Tryz (prog)
set_option maxRecDepth 100000
section
variable {P:Program} {GL:aw}
theorem Vm{f:FuncId}{xs:List aa}{v y:aa}{bs:List ab}(h:dh P GL f xs v bs)(hy:∃rd,aB (hp bs) rd v y):dM P GL f xs y:=by
 obtain⟨rd,hR⟩:=hy;intro w M vs hM hg hx;refine(h w M vs hM hg hx).mono ?_;rintro e w' ⟨u,he,g',hle,r,hd⟩
 let M2:Nat→Option Obj:=λb=>if b<w.heap.size then g'.M b else w'.heap[b]?
 have qp:vN g' (hp bs) w' M2:=by
  refine⟨λb o e=>?_,λb aE cb o e1 e2 e3 e4 e5=>?_⟩
  ·show (if b<w.heap.size then g'.M b else w'.heap[b]?)=some o;split
   ·exact e
   ·exact r.aR b o e
  ·obtain⟨_,cY,_⟩:=r.own b aE cb e1 e2 e3 e4
   grind
 have qq:=hR GL w ⟨[],M⟩ g' (hp bs) w' M2 r qp (λ_ _=>rfl) u hd;refine⟨u,he,r.keeps,M2,λb o e=>qp.1 b o (hle b o e),λb o e=>?_,λb o e=>?_,qq⟩
 ·have e':(if b<w.heap.size then g'.M b else w'.heap[b]?)=some o:=e;split at e'
  ·exact r.aR b o e'
  ·exact e'
 ·have e':(if b<w.heap.size then g'.M b else w'.heap[b]?)=some o:=e;split at e'
  ·rcases r.src b o e' with q|q|q<;>simp_all
  ·exact .inr (by omega)
end
attribute [local irreducible] ak.rd ak.pu ak.wr ak.dr ak.gr ak.gw ak.gl ak.gd ak.opt aH W
set_option maxHeartbeats 4000000
@[reducible] def yf(l:List Int):aa:=.ax true false 1 (l.map aY)
theorem YdT(nn:Bool)(rows:List (List aa))(h:rows≠[])(σ:List ab):QG 1 [.ax false nn 1 rows,.int .i64 rows.length,.int .i64 rows.length] σ=.ok (.ax true nn 1 rows) [] []:=by
 cases rows with
 |nil=>exact(h rfl).elim
 |cons r rs=>
  have hb:Nat.ble (r::rs).length (r::rs).length=true:=Nat.ble_eq_true_of_le (Nat.le_refl _);have hc:cut 0 (r::rs).length (r::rs)=r::rs:=by unfold cut; simp
  show (bif Nat.beq 1 1&&(Nat.beq (r::rs).length (r::rs).length&&Nat.ble (r::rs).length (r::rs).length) then az.ok (.ax true nn 1 (cut 0 (r::rs).length (r::rs))) [] [] else .stop)=_;simp only[hb,hc,Nat.beq_refl]; rfl
theorem c405(l:List Int):PC 103 [aV l] (yf l):=by
 refine Qo hP g103.ok rfl ?_;rw[H1.e]; unfold g103; dsimp only;refine Za rfl (Za rfl ?_);cases l with
 |nil=>
  refine Za (v:=.cK) rfl ⟨[],aB.cy (aB.ro rfl) (λM u d=>?_)⟩;cases d with
  |cK _ a=>exact .ax _ _ _ _ [] a 0 0 0 (λ_ _=>undef) (λ_=>rfl) (λh=>by cases h) (λh=>(h rfl).elim) (λ_=>rfl) (by simp) (by simp) (by simp) (by simp)
 |cons x l=>exact Za (YdT false ((x::l).map aY) (by simp) _) ⟨[],aB.ro rfl⟩
theorem nR(l:List Int)(hl:l.length≤1000000000):PC 33 [aV l] (aV l):=
 Vm (c96 l hl) ⟨[0],RI.own (b:=0) rfl (by simp) rfl⟩
theorem Zcv(l:List Int):wk (l.map aY)=true:=by
 induction l<;>simp_all [wk,aY]
theorem I9(l m:List Int){y:aa}{rd:List Nat}{σ:List ab}(hy:Qp 1 σ y=some (m.map aY,rd))(hl:l.length+m.length≤1000000000):Zl 1 8 [yf l,y] σ=.ok (aV (l++m)) rd []:=by
 show (match Qp 1 σ y with
   |some (ys,rd)=>bif Nat.beq 1 1&&(wk (l.map aY++ys)&&Nat.ble ((2*((l.map aY).length+ys.length)+192)*8) (2 ^ 48)) then az.ok (.ax false false 1 (l.map aY++ys)) rd [] else .stop
   | none=>.stop)=_
 rw[hy];simp only;rw[←List.map_append,Zcv,show Nat.ble ((2*((l.map aY).length+(m.map aY).length)+192)*8) (2 ^ 48)=true from Nat.ble_eq_true_of_le (by simp only[List.length_map]; omega)];rfl
def jC(m:List Int)(s:St)(i:Int):St:=s.put i { s.side i with told:=(s.side i).told++m }
def dB(s:St)(m:List Int)(is:List Int):St:=is.foldl (jC m) s
theorem Zcz(s:St)(m is:List Int)(i:Nat)(h:i<is.length):dB s m (is.take (i+1))=jC m (dB s m (is.take i)) is[i]:=by
 grind [dB,List.take_succ_eq_append_getElem]
def TB(N:Nat)(s:St):Prop:=s.s0.told.length≤N∧s.s1.told.length≤N
theorem TB.tell{N:Nat}{s:St}(h:TB N s)(m:List Int){i:Int}(hi:i=0∨i=1):TB (N+m.length) (jC m s i):=by
 obtain⟨h1,h2⟩:=h;rcases hi with rfl|rfl
 ·refine⟨?_,?_⟩<;>simp[jC,St.put,St.side]<;>omega
 ·refine⟨?_,?_⟩<;>simp[jC,St.put,St.side]<;>omega
theorem QdJ{σ:List ab}{rb:Nat}{x:ab}(h:ah σ rb=x)(hx:x≠.dead):σ.set rb x=σ:=by
 have hl:=Ye h hx;have:=Yx h hx
 grind [List.set_getElem_self]
theorem DG{σ:List ab}{rb:Nat}{b:Bk}{s:St}{sd tg fu:Int}{mv lv:aa}(hr:ah σ rb=.box (dF b s sd tg lv fu mv))(m:List Int)(y:aa)(rd:List Nat)(hy:∀x:ab,Qp 1 (σ.set rb x) y=some (m.map aY,rd))
 (is:List Int)(k:Nat)(hk:ah σ k=.rows 1 (is.map aY))(gV:k≠rb)(h01:∀i∈is,i=0∨i=1)(N:Nat)(hT:TB N s)(hN:N+is.length*m.length+m.length≤1000000000)(his:is.length≤1000000000){K:aa→List ab→Prop}
 (hK:K (.bn []) (σ.set rb (.box (dF b (dB s m is) sd tg lv fu mv)))):g104.u VV [.ai rb 0,y,.sl k 0 is.length true] σ K:=by
 have uI:=Ye hr (by simp);have mW:=Ye hk (by simp);rw[H3.e]; unfold g104; dsimp only;refine Za rfl ?_;refine Xj (ι:=Nat) (λi vs τ=>vs=[iv i]∧i≤is.length∧TB (N+i*m.length) (dB s m (is.take i))∧τ=σ.set rb (.box (dF b (dB s m (is.take i)) sd tg lv fu mv))) (λi=>is.length-i) 0 ⟨rfl,by omega,by simpa[dB] using hT,?_⟩ ?_
 ·simp_all [dB,QdJ]
 rintro i vs τ again ⟨rfl,hi,hT,rfl⟩ aZ;refine Za rfl (Zb (λh=>?_) (λh=>?_))
 ·have h:i<is.length:=by simpa using h
  have GX:=Zd (x:=.box (dF b (dB s m (is.take i)) sd tg lv fu mv)) hk (by simp) gV.symm;have hg:(is.map aY)[i]?=some [iv is[i]]:=by simp[h,aY]
  refine Za (rI _ k 0 is.length true 1 (is.map aY) .i64 i h GX) (Za (xp GX (by rw[Nat.zero_add]; exact hg) rfl) (Za rfl (Za rfl (Za rfl ?_))));have xi:ah (σ.set rb (.box (dF b (dB s m (is.take i)) sd tg lv fu mv))) rb=.box (dF b (dB s m (is.take i)) sd tg lv fu mv):=Xt (by simp[uI]);have hlen:rb<(σ.set rb (.box (dF b (dB s m (is.take i)) sd tg lv fu mv))).length:=by simpa using uI
  have hmul:i*m.length≤is.length*m.length:=Nat.mul_le_mul_right _ hi;have hd:=h01 is[i] (List.getElem_mem h);have n8:dB s m (is.take (i+1))=jC m (dB s m (is.take i)) is[i]:=Zcz s m is i h;have VO:TB (N+(i+1)*m.length) (dB s m (is.take (i+1))):=by
   rw[n8];have:=hT.tell m hd
   grind
  generalize dB s m (is.take i)=t at *;generalize is[i]=d at *;have zL:∀l:List Int,l.length≤N+i*m.length→l.length+m.length≤1000000000:=λl hl=>by omega
  rcases hd with rfl|rfl
  ·refine Za rfl (Za rfl (Za rfl (Za (ld xi rfl) (Xb (c405 t.s0.told) rfl g103.ok.plain rfl ?_))));refine Qb (I9 t.s0.told m (hy _) (zL _ hT.1)) rfl (Za rfl (Qb (cM xi rfl rfl rfl) (Xg _ hlen) (Za (Yj ..) ?_)));rw[Qd (n:=i) (by omega),List.set_set];exact aZ (i+1) _ _ (by omega) ⟨rfl,by omega,VO,by rw[n8]; rfl⟩
  ·refine Za rfl (Za rfl (Za rfl (Za (ld xi rfl) (Xb (c405 t.s1.told) rfl g103.ok.plain rfl ?_))));refine Qb (I9 t.s1.told m (hy _) (zL _ hT.2)) rfl (Za rfl (Qb (cM xi rfl rfl rfl) (Xg _ hlen) (Za (Yj ..) ?_)));rw[Qd (n:=i) (by omega),List.set_set];exact aZ (i+1) _ _ (by omega) ⟨rfl,by omega,VO,by rw[n8]; rfl⟩
 grind
def Dn(rb:Nat)(b:Bk)(sd tg fu:Int)(l:List Ev)(lv:aa)(σ:List ab)(r:Int×St×List Ev)(v:aa)(σ':List ab):Prop:=
 ∃eY se,Fr rb lv eY σ σ'∧ah σ' rb=.box (dF b r.2.1 sd tg eY fu se)∧v=iv r.1∧(r.1=0→LV rb (l++r.2.2) eY σ')
def ez(s:St)(sd n:Int):Int×St×List Ev:=
 if n<0 then (0,s,[]) else if 1000000<(s.side sd).aW+n then (171,s,[]) else (0,s.put sd { s.side sd with aW:=(s.side sd).aW+n },[⟨7,sd,0,0,0,n,[]⟩])
theorem ZdW{σ:List ab}{rb:Nat}{b:Bk}{s:St}{sd tg fu:Int}{mv lv:aa}{l:List Ev}(hr:ah σ rb=.box (dF b s sd tg lv fu mv))(hl:LV rb l lv σ)(hn:l.length≤1000000000)(h01:sd=0∨sd=1)
 (hm:0≤(s.side sd).aW∧(s.side sd).aW≤1000000)(x:Ef)(n:Int)(hb:n≤1000000){K:aa→List ab→Prop}(hK:∀v σ',Dn rb b sd tg fu l lv σ (ez s sd n) v σ'→K v σ'):g64.u VV [.ai rb 0,.agg (aM x),iv n] σ K:=by
 have uI:=Ye hr (by simp);have f0:Fr rb lv lv σ (σ++[ab.box (aM x)]):=Fr.app _ (λk n e=>hl.lt e);have r1:=Xd [ab.box (aM x)] hr (by simp);have iF:rb<(σ++[ab.box (aM x)]).length:=by simp; omega
 have l1:LV rb l lv (σ++[ab.box (aM x)]):=hl.eo (λk hk _=>Xo _ hk);rw[H3.e]; unfold g64; dsimp only;refine Qb (vZ _ _) (Yi σ _) (Za rfl (Za rfl (Za rfl (Za (ld r1 rfl) (Za rfl (Za rfl (Za rfl ?_)))))));rcases h01 with rfl|rfl
 ·have hm:0≤s.s0.aW∧s.s0.aW≤1000000:=hm;refine Za rfl (Za rfl (Zb (λh=>?_) (λh=>?_)))
  ·have h:n<0:=by simpa using h
   exact hK _ _ ⟨lv,mv,f0,by rw[ez,if_pos h]; exact r1,by rw[ez,if_pos h],λ_=>by rw[ez,if_pos h]; simpa using l1⟩
  have h:¬n<0:=by simpa using h
  refine Za rfl (Za rfl (Za (ld r1 rfl) (Za (Yj ..) (Za rfl ?_))));rw[IntWalk.i64_in _ (by omega)];refine Zb (λh2=>?_) (λh2=>?_)
  ·have h2:1000000<s.s0.aW+n:=by simpa using h2
   have e:ez s 0 n=(171,s,[]):=by rw[ez,if_neg h]; exact if_pos h2
   exact hK _ _ ⟨lv,mv,f0,by rw[e]; exact r1,by rw[e],λq=>by rw[e] at q; cases q⟩
  have h2:¬1000000<s.s0.aW+n:=by simpa using h2
  have e:ez s 0 n=(0,s.put 0 { s.side 0 with aW:=s.s0.aW+n },[⟨7,0,0,0,0,n,[]⟩]):=by rw[ez,if_neg h]; exact if_neg h2
  refine Za rfl (Za rfl (Za (ld r1 rfl) (Za (Yj ..) (Za rfl (Za rfl ?_)))));rw[IntWalk.i64_in _ (by omega)];refine Qb (cM r1 rfl rfl rfl) (Xg _ iF) ?_;have r2:ah ((σ++[ab.box (aM x)]).set rb (.box (dF b (s.put 0 { s.side 0 with aW:=s.s0.aW+n }) 0 tg lv fu mv))) rb=.box (dF b (s.put 0 { s.side 0 with aW:=s.s0.aW+n }) 0 tg lv fu mv):=Xt (List.getElem?_set_self iF);refine Za rfl (Za rfl (Za rfl (Za (ld r2 rfl) (Za (v:=.agg (e7 ⟨7,0,0,0,0,n,[]⟩ .aq)) rfl ?_))));refine Qg hP (f:=100) rfl g100.ok rfl ?_;refine tt r2 (l1.eo (λk hk gV=>Zg _ hk gV)) hn _ _ (.inr ⟨rfl,rfl⟩) (λσ' eY q1 q2 q3=>hK _ _ ⟨eY,mv,(f0.trans (Fr.set lv _)).trans q1,by rw[e]; exact q2,by rw[e],λ_=>by rw[e]; exact q3⟩)
 ·have hm:0≤s.s1.aW∧s.s1.aW≤1000000:=hm;refine Za rfl (Za rfl (Zb (λh=>?_) (λh=>?_)))
  ·have h:n<0:=by simpa using h
   exact hK _ _ ⟨lv,mv,f0,by rw[ez,if_pos h]; exact r1,by rw[ez,if_pos h],λ_=>by rw[ez,if_pos h]; simpa using l1⟩
  have h:¬n<0:=by simpa using h
  refine Za rfl (Za rfl (Za (ld r1 rfl) (Za (Yj ..) (Za rfl ?_))));rw[IntWalk.i64_in _ (by omega)];refine Zb (λh2=>?_) (λh2=>?_)
  ·have h2:1000000<s.s1.aW+n:=by simpa using h2
   have e:ez s 1 n=(171,s,[]):=by rw[ez,if_neg h]; exact if_pos h2
   exact hK _ _ ⟨lv,mv,f0,by rw[e]; exact r1,by rw[e],λq=>by rw[e] at q; cases q⟩
  have h2:¬1000000<s.s1.aW+n:=by simpa using h2
  have e:ez s 1 n=(0,s.put 1 { s.side 1 with aW:=s.s1.aW+n },[⟨7,1,0,0,0,n,[]⟩]):=by rw[ez,if_neg h]; exact if_neg h2
  refine Za rfl (Za rfl (Za (ld r1 rfl) (Za (Yj ..) (Za rfl (Za rfl ?_)))));rw[IntWalk.i64_in _ (by omega)];refine Qb (cM r1 rfl rfl rfl) (Xg _ iF) ?_;have r2:ah ((σ++[ab.box (aM x)]).set rb (.box (dF b (s.put 1 { s.side 1 with aW:=s.s1.aW+n }) 1 tg lv fu mv))) rb=.box (dF b (s.put 1 { s.side 1 with aW:=s.s1.aW+n }) 1 tg lv fu mv):=Xt (List.getElem?_set_self iF);refine Za rfl (Za rfl (Za rfl (Za (ld r2 rfl) (Za (v:=.agg (e7 ⟨7,1,0,0,0,n,[]⟩ .aq)) rfl ?_))));refine Qg hP (f:=100) rfl g100.ok rfl ?_;refine tt r2 (l1.eo (λk hk gV=>Zg _ hk gV)) hn _ _ (.inr ⟨rfl,rfl⟩) (λσ' eY q1 q2 q3=>hK _ _ ⟨eY,mv,(f0.trans (Fr.set lv _)).trans q1,by rw[e]; exact q2,by rw[e],λ_=>by rw[e]; exact q3⟩)
end Go.Ah.Tz
end
section
namespace Go.Ah.Tz
open Go.Proofs.Tryz (prog)
set_option maxRecDepth 100000
attribute [local irreducible] ak.rd ak.pu ak.wr ak.dr ak.gr ak.gw ak.gl ak.gd ak.opt aH W
set_option maxHeartbeats 4000000
theorem TA(l:List Int)(j:Nat)(h:j≤l.length)(σ:List ab):ZJ 1 [aV l,iv j] σ=.ok (aV (l.take j)) [] []:=by
 have h1:Nat.ble j (l.map aY).length=true:=Nat.ble_eq_true_of_le (by simpa using h);have h2:cut 0 j (l.map aY)=(l.take j).map aY:=by unfold cut; rw[List.drop_zero,List.map_take]
 show (bif Nat.beq 1 1&&Nat.ble j (l.map aY).length then az.ok (.ax false false 1 (cut 0 j (l.map aY))) [] [] else .stop)=_;rw[h1,h2]; rfl
theorem U9(x:Int)(l:List Int)(σ:List ab):ZI 1 [aV (x::l),iv 1] σ=.ok (aV l) [] []:=by
 have h1:Nat.ble 1 ((x::l).map aY).length=true:=Nat.ble_eq_true_of_le (by simp);have h2:cut 1 ((x::l).map aY).length ((x::l).map aY)=l.map aY:=by unfold cut; rw[List.take_length]; rfl
 show (bif Nat.beq 1 1&&Nat.ble 1 ((x::l).map aY).length then az.ok (.ax false false 1 (cut 1 ((x::l).map aY).length ((x::l).map aY))) [] [] else .stop)=_;rw[h1,h2]; rfl
def hZ(s:St)(sd n:Int):Int×St×List Ev:=
 match (s.side sd).aA.take (min (max n 0) (s.side sd).aA.length).toNat with
 |[]=>(0,s,[])
 |c::cs=>(0,dB s (c::cs) [sd],[⟨9,sd,0,0,0,0,c::cs⟩])
theorem XdX{σ:List ab}{rb:Nat}{b:Bk}{s:St}{sd tg fu:Int}{mv lv:aa}{l:List Ev}(hr:ah σ rb=.box (dF b s sd tg lv fu mv))(hl:LV rb l lv σ)(hn:l.length≤1000000000)(h01:sd=0∨sd=1)
 (hT:TB 100000000 s)(hd:(s.side sd).aA.length≤100000000)(x:Ef)(n:Int){K:aa→List ab→Prop}(hK:∀v σ',Dn rb b sd tg fu l lv σ (hZ s sd n) v σ'→K v σ'):g66.u VV [.ai rb 0,.agg (aM x),iv n] σ K:=by
 have uI:=Ye hr (by simp);have f0:Fr rb lv lv σ (σ++[ab.box (aM x)]):=Fr.app _ (λk n e=>hl.lt e);have r1:=Xd [ab.box (aM x)] hr (by simp);have l1:LV rb l lv (σ++[ab.box (aM x)]):=hl.eo (λk hk _=>Xo _ hk);have hF:∀cs,(s.side sd).aA.take (min (max n 0) (s.side sd).aA.length).toNat=cs→hZ s sd n=match cs with | []=>(0,s,[])|c::cs=>(0,dB s (c::cs) [sd],[⟨9,sd,0,0,0,0,c::cs⟩]):=by
  intro cs h; rw[hZ,h]
 obtain⟨j,hj,nJ⟩:∃j:Nat,min (max n 0) ((s.side sd).aA.length:Int)=j∧j≤(s.side sd).aA.length:=⟨(min (max n 0) ((s.side sd).aA.length:Int)).toNat,by omega,by omega⟩;rw[hj,Int.toNat_natCast] at hF;rw[H3.e]; unfold g66; dsimp only;refine Qb (vZ _ _) (Yi σ _) (Za rfl (Za rfl (Za rfl (Za (ld r1 rfl) (Za rfl (Za rfl (Za rfl ?_)))))));rcases h01 with rfl|rfl
 ·refine Za rfl (Za rfl (Za (ld r1 rfl) (Za (X6 ..) (Za rfl (Za (ZM ..) ?_)))));have nJ:j≤s.s0.aA.length:=nJ;have hd:s.s0.aA.length≤100000000:=hd;rw[show min (max n 0) ((s.s0.aA.map aY).length:Int)=j from by rw[List.length_map]; exact hj];refine Za (TA _ j nJ _) (Xb (nR _ (by rw[List.length_take]; omega)) rfl g33.ok.plain rfl (Za rfl (Za (Z9 ..) ?_)));have hle:(s.s0.aA.take j).length≤100000000:=by rw[List.length_take]; omega
  have hF:=hF (s.s0.aA.take j) rfl;generalize s.s0.aA.take j=cs at *;refine Zb (λh=>?_) (λh=>?_)
  ·obtain⟨c,cs,rfl⟩:∃c yj,cs=c::yj:=by
    cases cs with
    |nil=>simp at h
    |cons c cs=>exact⟨c,cs,rfl⟩
   have hF:hZ s 0 n=(0,dB s (c::cs) [0],[⟨9,0,0,0,0,0,c::cs⟩]):=hF;refine Qb (v:=.sl (σ++[ab.box (aM x)]).length 0 1 true) (rd:=[]) (up:=[((σ++[ab.box (aM x)]).length,.rows 1 [[iv 0]])]) rfl (Yi _ _) ?_;have iF:rb<(σ++[ab.box (aM x)]).length:=by simp; omega
   have r2:=Xd [.rows 1 [[iv 0]]] r1 (by simp);have f1:Fr rb lv lv (σ++[ab.box (aM x)]) (σ++[ab.box (aM x)]++[.rows 1 [[iv 0]]]):=Fr.app _ (λk n e=>l1.lt e);have l2:LV rb l lv (σ++[ab.box (aM x)]++[.rows 1 [[iv 0]]]):=l1.eo (λk hk _=>Xo _ hk);refine Qg hP (f:=104) rfl g104.ok rfl ?_;refine DG r2 (c::cs) (aV (c::cs)) [] (λ_=>rfl) [0] _ (Yf _ _) (by omega) (by simp) 100000000 hT (by simp at hle ⊢; omega) (by simp) ?_;refine Za (v:=.agg (e7 ⟨9,0,0,0,0,0,c::cs⟩ (aV (c::cs)))) rfl ?_;refine Qg hP (f:=100) rfl g100.ok rfl ?_;refine tt (Xt (List.getElem?_set_self (by simp; omega))) (l2.eo (λk hk gV=>Zg _ hk gV)) hn _ _ (.inl rfl) (λσ' eY q1 q2 q3=>?_);exact(hK _ _ ⟨eY,mv,((f0.trans f1).trans (Fr.set lv _)).trans q1,by rw[hF]; exact q2,by rw[hF],λ_=>by rw[hF]; exact q3⟩)
  ·have:cs=[]:=by
    cases cs with
    |nil=>rfl
    |cons c cs=>simp at h
   subst this;have hF:hZ s 0 n=(0,s,[]):=hF;exact hK _ _ ⟨lv,mv,f0,by rw[hF]; exact r1,by rw[hF],λ_=>by rw[hF]; simpa using l1⟩
 ·refine Za rfl (Za rfl (Za (ld r1 rfl) (Za (X6 ..) (Za rfl (Za (ZM ..) ?_)))));have nJ:j≤s.s1.aA.length:=nJ;have hd:s.s1.aA.length≤100000000:=hd;rw[show min (max n 0) ((s.s1.aA.map aY).length:Int)=j from by rw[List.length_map]; exact hj];refine Za (TA _ j nJ _) (Xb (nR _ (by rw[List.length_take]; omega)) rfl g33.ok.plain rfl (Za rfl (Za (Z9 ..) ?_)));have hle:(s.s1.aA.take j).length≤100000000:=by rw[List.length_take]; omega
  have hF:=hF (s.s1.aA.take j) rfl;generalize s.s1.aA.take j=cs at *;refine Zb (λh=>?_) (λh=>?_)
  ·obtain⟨c,cs,rfl⟩:∃c yj,cs=c::yj:=by
    cases cs with
    |nil=>simp at h
    |cons c cs=>exact⟨c,cs,rfl⟩
   have hF:hZ s 1 n=(0,dB s (c::cs) [1],[⟨9,1,0,0,0,0,c::cs⟩]):=hF;refine Qb (v:=.sl (σ++[ab.box (aM x)]).length 0 1 true) (rd:=[]) (up:=[((σ++[ab.box (aM x)]).length,.rows 1 [[iv 1]])]) rfl (Yi _ _) ?_;have iF:rb<(σ++[ab.box (aM x)]).length:=by simp; omega
   have r2:=Xd [.rows 1 [[iv 1]]] r1 (by simp);have f1:Fr rb lv lv (σ++[ab.box (aM x)]) (σ++[ab.box (aM x)]++[.rows 1 [[iv 1]]]):=Fr.app _ (λk n e=>l1.lt e);have l2:LV rb l lv (σ++[ab.box (aM x)]++[.rows 1 [[iv 1]]]):=l1.eo (λk hk _=>Xo _ hk);refine Qg hP (f:=104) rfl g104.ok rfl ?_;refine DG r2 (c::cs) (aV (c::cs)) [] (λ_=>rfl) [1] _ (Yf _ _) (by omega) (by simp) 100000000 hT (by simp at hle ⊢; omega) (by simp) ?_;refine Za (v:=.agg (e7 ⟨9,1,0,0,0,0,c::cs⟩ (aV (c::cs)))) rfl ?_;refine Qg hP (f:=100) rfl g100.ok rfl ?_;refine tt (Xt (List.getElem?_set_self (by simp; omega))) (l2.eo (λk hk gV=>Zg _ hk gV)) hn _ _ (.inl rfl) (λσ' eY q1 q2 q3=>?_);exact(hK _ _ ⟨eY,mv,((f0.trans f1).trans (Fr.set lv _)).trans q1,by rw[hF]; exact q2,by rw[hF],λ_=>by rw[hF]; exact q3⟩)
  ·have:cs=[]:=by
    cases cs with
    |nil=>rfl
    |cons c cs=>simp at h
   subst this;have hF:hZ s 1 n=(0,s,[]):=hF;exact hK _ _ ⟨lv,mv,f0,by rw[hF]; exact r1,by rw[hF],λ_=>by rw[hF]; simpa using l1⟩
theorem JF{sd:Int}(h:sd=0∨sd=1)(w:Int):c_ sd w=0∨c_ sd w=1:=by
 unfold c_; split<;>omega
theorem xv{σ:List ab}{k:Nat}{c:Int}(h:ah σ k=.rows 1 [[iv c]]):Qp 1 σ (.sl k 0 1 true)=some ([c].map aY,[k]):=by
 simp only[Qp,h];simp[cut]; rfl
def oh(s:St)(i:Int):Int×St×List Ev:=(0,dB s (s.side i).hand [0,1],[⟨10,i,0,0,0,0,(s.side i).hand⟩])
theorem Xd0{σ:List ab}{rb:Nat}{b:Bk}{s:St}{sd tg fu:Int}{mv lv:aa}{l:List Ev}(hr:ah σ rb=.box (dF b s sd tg lv fu mv))(hl:LV rb l lv σ)(hn:l.length≤1000000000)(h01:sd=0∨sd=1)
 (hT:TB 100000000 s)(KL:s.s0.hand.length≤100000000)(VR:s.s1.hand.length≤100000000)(x:Ef)(n:Int){K:aa→List ab→Prop}(hK:∀v σ',Dn rb b sd tg fu l lv σ (oh s (c_ sd x.who)) v σ'→K v σ'):g67.u VV [.ai rb 0,.agg (aM x),iv n] σ K:=by
 have uI:=Ye hr (by simp);have f0:Fr rb lv lv σ (σ++[ab.box (aM x)]):=Fr.app _ (λk n e=>hl.lt e);have r1:=Xd [ab.box (aM x)] hr (by simp);have l1:LV rb l lv (σ++[ab.box (aM x)]):=hl.eo (λk hk _=>Xo _ hk);rw[H3.e]; unfold g67; dsimp only;refine Qb (vZ _ _) (Yi σ _) (Za rfl (Za (ld (Yf _ _) (bR x)) ?_));refine Qg hP (f:=102) rfl g102.ok rfl (TE r1 h01 _ ?_);have hw:=JF h01 x.who;generalize c_ sd x.who=i at *;refine Za rfl (Za rfl (Za rfl ?_));have iF:rb<(σ++[ab.box (aM x)]).length:=by simp; omega
 have f1:Fr rb lv lv (σ++[ab.box (aM x)]) (σ++[ab.box (aM x)]++[.rows 1 [[iv 0],[iv 1]]]):=Fr.app _ (λk n e=>l1.lt e);have l2:LV rb l lv (σ++[ab.box (aM x)]++[.rows 1 [[iv 0],[iv 1]]]):=l1.eo (λk hk _=>Xo _ hk);have r2:=Xd [.rows 1 [[iv 0],[iv 1]]] r1 (by simp);rcases hw with rfl|rfl
 ·refine Za rfl (Za rfl (Za (ld r1 rfl) (Xb (nR s.s0.hand (by omega)) rfl g33.ok.plain rfl ?_)));refine Qb (v:=.sl (σ++[ab.box (aM x)]).length 0 2 true) (rd:=[]) (up:=[((σ++[ab.box (aM x)]).length,.rows 1 [[iv 0],[iv 1]])]) rfl (Yi _ _) ?_;refine Qg hP (f:=104) rfl g104.ok rfl ?_;refine DG r2 s.s0.hand (aV s.s0.hand) [] (λ_=>rfl) [0,1] _ (Yf _ _) (by omega) (by simp) 100000000 hT (by simp; omega) (by simp) ?_;refine Za (v:=.agg (e7 ⟨10,0,0,0,0,0,s.s0.hand⟩ (aV s.s0.hand))) rfl ?_;refine Qg hP (f:=100) rfl g100.ok rfl ?_;refine tt (Xt (List.getElem?_set_self (by simp; omega))) (l2.eo (λk hk gV=>Zg _ hk gV)) hn _ _ (.inl rfl) (λσ' eY q1 q2 q3=>?_);exact hK _ _ ⟨eY,mv,((f0.trans f1).trans (Fr.set lv _)).trans q1,q2,rfl,λ_=>q3⟩
 ·refine Za rfl (Za rfl (Za (ld r1 rfl) (Xb (nR s.s1.hand (by omega)) rfl g33.ok.plain rfl ?_)));refine Qb (v:=.sl (σ++[ab.box (aM x)]).length 0 2 true) (rd:=[]) (up:=[((σ++[ab.box (aM x)]).length,.rows 1 [[iv 0],[iv 1]])]) rfl (Yi _ _) ?_;refine Qg hP (f:=104) rfl g104.ok rfl ?_;refine DG r2 s.s1.hand (aV s.s1.hand) [] (λ_=>rfl) [0,1] _ (Yf _ _) (by omega) (by simp) 100000000 hT (by simp; omega) (by simp) ?_;refine Za (v:=.agg (e7 ⟨10,1,0,0,0,0,s.s1.hand⟩ (aV s.s1.hand))) rfl ?_;refine Qg hP (f:=100) rfl g100.ok rfl ?_;refine tt (Xt (List.getElem?_set_self (by simp; omega))) (l2.eo (λk hk gV=>Zg _ hk gV)) hn _ _ (.inl rfl) (λσ' eY q1 q2 q3=>?_);exact hK _ _ ⟨eY,mv,((f0.trans f1).trans (Fr.set lv _)).trans q1,q2,rfl,λ_=>q3⟩
def c6(s:St)(i:Int):Int×St×List Ev:=
 match (s.side i).hand with
 |[]=>(0,s,[])
 |c::h=>(0,dB (s.put i { s.side i with hand:=h,aj:=(s.side i).aj++[c] }) [c] [0,1],[⟨8,i,c,0,0,0,[]⟩])
theorem ZdS{σ:List ab}{rb:Nat}{b:Bk}{s:St}{sd tg fu:Int}{mv lv:aa}{l:List Ev}(hr:ah σ rb=.box (dF b s sd tg lv fu mv))(hl:LV rb l lv σ)(hn:l.length≤1000000000)(h01:sd=0∨sd=1)
 (hT:TB 100000000 s)(KL:s.s0.hand.length≤100000000∧s.s0.aj.length≤100000000)(VR:s.s1.hand.length≤100000000∧s.s1.aj.length≤100000000)(x:Ef)(n:Int){K:aa→List ab→Prop}(hK:∀v σ',Dn rb b sd tg fu l lv σ (c6 s (c_ sd x.who)) v σ'→K v σ'):g65.u VV [.ai rb 0,.agg (aM x),iv n] σ K:=by
 have uI:=Ye hr (by simp);have f0:Fr rb lv lv σ (σ++[ab.box (aM x)]):=Fr.app _ (λk n e=>hl.lt e);have r1:=Xd [ab.box (aM x)] hr (by simp);have l1:LV rb l lv (σ++[ab.box (aM x)]):=hl.eo (λk hk _=>Xo _ hk);rw[H3.e]; unfold g65; dsimp only;refine Qb (vZ _ _) (Yi σ _) (Za rfl (Za (ld (Yf _ _) (bR x)) ?_));refine Qg hP (f:=102) rfl g102.ok rfl (TE r1 h01 _ ?_);have hw:=JF h01 x.who;generalize c_ sd x.who=i at *;refine Za rfl (Za rfl (Za rfl ?_));have iF:rb<(σ++[ab.box (aM x)]).length:=by simp; omega
 generalize hσ:σ++[ab.box (aM x)]=τ at *;rcases hw with rfl|rfl
 ·refine Za rfl (Za rfl (Za rfl (Za (ld r1 rfl) (Za rfl (Za (Zf ..) ?_)))));obtain⟨hd,hg⟩:=KL;have hF:∀h,s.s0.hand=h→c6 s 0=match h with | []=>(0,s,[])|c::h=>(0,dB (s.put 0 { s.s0 with hand:=h,aj:=s.s0.aj++[c] }) [c] [0,1],[⟨8,0,c,0,0,0,[]⟩]):=by
   intro h e; subst e; rfl
  have P1:=r1;generalize hh:s.s0.hand=h at *;cases h with
  |nil=>
   have hF:=hF [] rfl;refine Xc ?_;exact hK _ _ ⟨lv,mv,f0,by rw[hF]; exact P1,by rw[hF],λ_=>by rw[hF]; simpa using l1⟩
  |cons c h=>
  have hF:c6 s 0=(0,dB (s.put 0 { s.s0 with hand:=h,aj:=s.s0.aj++[c] }) [c] [0,1],[⟨8,0,c,0,0,0,[]⟩]):=hF _ rfl;refine Zb (λh=>by simp at h; omega) (λ_=>?_);refine Za rfl (Za rfl (Za (ld r1 rfl) ?_));rw[hh];refine Za rfl (Za rfl (Za rfl (Za rfl (Za (ld r1 rfl) ?_))));rw[hh];have OT:h.length≤1000000000:=by simp at hd; omega
  refine Za (U9 c h _) (Xb (nR h OT) rfl g33.ok.plain rfl (Za rfl (Za rfl ?_)));refine Qb (cM (row':=dF b (s.put 0 { s.s0 with hand:=h }) sd tg lv fu mv) r1 rfl rfl rfl) (Xg _ iF) ?_;have r2:ah (τ.set rb (.box (dF b (s.put 0 { s.s0 with hand:=h }) sd tg lv fu mv))) rb=.box (dF b (s.put 0 { s.s0 with hand:=h }) sd tg lv fu mv):=Xt (List.getElem?_set_self iF);have f2:Fr rb lv lv σ (τ.set rb (.box (dF b (s.put 0 { s.s0 with hand:=h }) sd tg lv fu mv))):=f0.trans (Fr.set lv _);have l2:LV rb l lv (τ.set rb (.box (dF b (s.put 0 { s.s0 with hand:=h }) sd tg lv fu mv))):=l1.eo (λk hk gV=>Zg _ hk gV);have Pm:rb<(τ.set rb (.box (dF b (s.put 0 { s.s0 with hand:=h }) sd tg lv fu mv))).length:=by simpa using iF
  generalize τ.set rb (.box (dF b (s.put 0 { s.s0 with hand:=h }) sd tg lv fu mv))=τ2 at *;refine Za rfl (Za rfl (Za (ld r2 rfl) (Xb (c405 s.s0.aj) rfl g103.ok.plain rfl ?_)));refine Qb (v:=.sl τ2.length 0 1 true) (rd:=[]) (up:=[(τ2.length,.rows 1 [[iv c]])]) rfl (Yi _ _) ?_;have r3:=Xd [ab.rows 1 [[iv c]]] r2 (by simp);have f3:Fr rb lv lv σ (τ2++[ab.rows 1 [[iv c]]]):=f2.trans (Fr.app _ (λk n e=>l2.lt e));have l3:LV rb l lv (τ2++[ab.rows 1 [[iv c]]]):=l2.eo (λk hk _=>Xo _ hk);have n3:=Yf τ2 (.rows 1 [[iv c]]);have qX:rb<(τ2++[ab.rows 1 [[iv c]]]).length:=by simp; omega
  refine Qb (I9 s.s0.aj [c] (xv n3) (by simp; omega)) rfl (Za rfl (Za rfl ?_));generalize τ2++[ab.rows 1 [[iv c]]]=τ3 at *;refine Qb (cM (row':=dF b (s.put 0 { s.s0 with hand:=h,aj:=s.s0.aj++[c] }) sd tg lv fu mv) r3 rfl rfl rfl) (Xg _ qX) ?_;have r4:ah (τ3.set rb (.box (dF b (s.put 0 { s.s0 with hand:=h,aj:=s.s0.aj++[c] }) sd tg lv fu mv))) rb=.box (dF b (s.put 0 { s.s0 with hand:=h,aj:=s.s0.aj++[c] }) sd tg lv fu mv):=Xt (List.getElem?_set_self qX);have f4:Fr rb lv lv σ (τ3.set rb (.box (dF b (s.put 0 { s.s0 with hand:=h,aj:=s.s0.aj++[c] }) sd tg lv fu mv))):=f3.trans (Fr.set lv _);have l4:LV rb l lv (τ3.set rb (.box (dF b (s.put 0 { s.s0 with hand:=h,aj:=s.s0.aj++[c] }) sd tg lv fu mv))):=l3.eo (λk hk gV=>Zg _ hk gV);have Pn:rb<(τ3.set rb (.box (dF b (s.put 0 { s.s0 with hand:=h,aj:=s.s0.aj++[c] }) sd tg lv fu mv))).length:=by simpa using qX
  have Oo:TB 100000000 (s.put 0 { s.s0 with hand:=h,aj:=s.s0.aj++[c] }):=hT;generalize τ3.set rb (.box (dF b (s.put 0 { s.s0 with hand:=h,aj:=s.s0.aj++[c] }) sd tg lv fu mv))=τ4 at *;generalize s.put 0 { s.s0 with hand:=h,aj:=s.s0.aj++[c] }=s4 at *;refine Qb (v:=.sl τ4.length 0 1 true) (rd:=[]) (up:=[(τ4.length,.rows 1 [[iv c]])]) rfl (Yi _ _) ?_;have r5:=Xd [ab.rows 1 [[iv c]]] r4 (by simp);have f5:Fr rb lv lv σ (τ4++[ab.rows 1 [[iv c]]]):=f4.trans (Fr.app _ (λk n e=>l4.lt e));have l5:LV rb l lv (τ4++[ab.rows 1 [[iv c]]]):=l4.eo (λk hk _=>Xo _ hk);have n5:=Yf τ4 (.rows 1 [[iv c]]);have Po:rb<(τ4++[ab.rows 1 [[iv c]]]).length:=by simp; omega
  have PW:τ4.length≠rb:=by omega
  generalize τ4++[ab.rows 1 [[iv c]]]=τ5 at *;refine Qb (v:=.sl τ5.length 0 2 true) (rd:=[]) (up:=[(τ5.length,.rows 1 [[iv 0],[iv 1]])]) rfl (Yi _ _) ?_;have r6:=Xd [ab.rows 1 [[iv 0],[iv 1]]] r5 (by simp);have f6:Fr rb lv lv σ (τ5++[ab.rows 1 [[iv 0],[iv 1]]]):=f5.trans (Fr.app _ (λk n e=>l5.lt e));have l6:LV rb l lv (τ5++[ab.rows 1 [[iv 0],[iv 1]]]):=l5.eo (λk hk _=>Xo _ hk);have n6:=Xd [ab.rows 1 [[iv 0],[iv 1]]] n5 (by simp);have m6:=Yf τ5 (.rows 1 [[iv 0],[iv 1]]);have Af:rb<(τ5++[ab.rows 1 [[iv 0],[iv 1]]]).length:=by simp; omega
  refine Qg hP (f:=104) rfl g104.ok rfl ?_;refine DG r6 [c] (.sl τ4.length 0 1 true) [τ4.length] (λy=>xv (Zd n6 (by simp) PW.symm)) [0,1] _ m6 (by omega) (by simp) 100000000 Oo (by simp) (by simp) ?_;refine Za (v:=.agg (e7 ⟨8,0,c,0,0,0,[]⟩ .aq)) rfl ?_;refine Qg hP (f:=100) rfl g100.ok rfl ?_;refine tt (Xt (List.getElem?_set_self Af)) (l6.eo (λk hk gV=>Zg _ hk gV)) hn _ _ (.inr ⟨rfl,rfl⟩) (λσ' eY q1 q2 q3=>?_);exact hK _ _ ⟨eY,mv,(f6.trans (Fr.set lv _)).trans q1,by rw[hF]; exact q2,by rw[hF],λ_=>by rw[hF]; exact q3⟩
 ·refine Za rfl (Za rfl (Za rfl (Za (ld r1 rfl) (Za rfl (Za (Zf ..) ?_)))));obtain⟨hd,hg⟩:=VR;have hF:∀h,s.s1.hand=h→c6 s 1=match h with | []=>(0,s,[])|c::h=>(0,dB (s.put 1 { s.s1 with hand:=h,aj:=s.s1.aj++[c] }) [c] [0,1],[⟨8,1,c,0,0,0,[]⟩]):=by
   intro h e; subst e; rfl
  have P1:=r1;generalize hh:s.s1.hand=h at *;cases h with
  |nil=>
   have hF:=hF [] rfl;refine Xc ?_;exact hK _ _ ⟨lv,mv,f0,by rw[hF]; exact P1,by rw[hF],λ_=>by rw[hF]; simpa using l1⟩
  |cons c h=>
  have hF:c6 s 1=(0,dB (s.put 1 { s.s1 with hand:=h,aj:=s.s1.aj++[c] }) [c] [0,1],[⟨8,1,c,0,0,0,[]⟩]):=hF _ rfl;refine Zb (λh=>by simp at h; omega) (λ_=>?_);refine Za rfl (Za rfl (Za (ld r1 rfl) ?_));rw[hh];refine Za rfl (Za rfl (Za rfl (Za rfl (Za (ld r1 rfl) ?_))));rw[hh];have OT:h.length≤1000000000:=by simp at hd; omega
  refine Za (U9 c h _) (Xb (nR h OT) rfl g33.ok.plain rfl (Za rfl (Za rfl ?_)));refine Qb (cM (row':=dF b (s.put 1 { s.s1 with hand:=h }) sd tg lv fu mv) r1 rfl rfl rfl) (Xg _ iF) ?_;have r2:ah (τ.set rb (.box (dF b (s.put 1 { s.s1 with hand:=h }) sd tg lv fu mv))) rb=.box (dF b (s.put 1 { s.s1 with hand:=h }) sd tg lv fu mv):=Xt (List.getElem?_set_self iF);have f2:Fr rb lv lv σ (τ.set rb (.box (dF b (s.put 1 { s.s1 with hand:=h }) sd tg lv fu mv))):=f0.trans (Fr.set lv _);have l2:LV rb l lv (τ.set rb (.box (dF b (s.put 1 { s.s1 with hand:=h }) sd tg lv fu mv))):=l1.eo (λk hk gV=>Zg _ hk gV);have Pm:rb<(τ.set rb (.box (dF b (s.put 1 { s.s1 with hand:=h }) sd tg lv fu mv))).length:=by simpa using iF
  generalize τ.set rb (.box (dF b (s.put 1 { s.s1 with hand:=h }) sd tg lv fu mv))=τ2 at *;refine Za rfl (Za rfl (Za (ld r2 rfl) (Xb (c405 s.s1.aj) rfl g103.ok.plain rfl ?_)));refine Qb (v:=.sl τ2.length 0 1 true) (rd:=[]) (up:=[(τ2.length,.rows 1 [[iv c]])]) rfl (Yi _ _) ?_;have r3:=Xd [ab.rows 1 [[iv c]]] r2 (by simp);have f3:Fr rb lv lv σ (τ2++[ab.rows 1 [[iv c]]]):=f2.trans (Fr.app _ (λk n e=>l2.lt e));have l3:LV rb l lv (τ2++[ab.rows 1 [[iv c]]]):=l2.eo (λk hk _=>Xo _ hk);have n3:=Yf τ2 (.rows 1 [[iv c]]);have qX:rb<(τ2++[ab.rows 1 [[iv c]]]).length:=by simp; omega
  refine Qb (I9 s.s1.aj [c] (xv n3) (by simp; omega)) rfl (Za rfl (Za rfl ?_));generalize τ2++[ab.rows 1 [[iv c]]]=τ3 at *;refine Qb (cM (row':=dF b (s.put 1 { s.s1 with hand:=h,aj:=s.s1.aj++[c] }) sd tg lv fu mv) r3 rfl rfl rfl) (Xg _ qX) ?_;have r4:ah (τ3.set rb (.box (dF b (s.put 1 { s.s1 with hand:=h,aj:=s.s1.aj++[c] }) sd tg lv fu mv))) rb=.box (dF b (s.put 1 { s.s1 with hand:=h,aj:=s.s1.aj++[c] }) sd tg lv fu mv):=Xt (List.getElem?_set_self qX);have f4:Fr rb lv lv σ (τ3.set rb (.box (dF b (s.put 1 { s.s1 with hand:=h,aj:=s.s1.aj++[c] }) sd tg lv fu mv))):=f3.trans (Fr.set lv _);have l4:LV rb l lv (τ3.set rb (.box (dF b (s.put 1 { s.s1 with hand:=h,aj:=s.s1.aj++[c] }) sd tg lv fu mv))):=l3.eo (λk hk gV=>Zg _ hk gV);have Pn:rb<(τ3.set rb (.box (dF b (s.put 1 { s.s1 with hand:=h,aj:=s.s1.aj++[c] }) sd tg lv fu mv))).length:=by simpa using qX
  have Oo:TB 100000000 (s.put 1 { s.s1 with hand:=h,aj:=s.s1.aj++[c] }):=hT;generalize τ3.set rb (.box (dF b (s.put 1 { s.s1 with hand:=h,aj:=s.s1.aj++[c] }) sd tg lv fu mv))=τ4 at *;generalize s.put 1 { s.s1 with hand:=h,aj:=s.s1.aj++[c] }=s4 at *;refine Qb (v:=.sl τ4.length 0 1 true) (rd:=[]) (up:=[(τ4.length,.rows 1 [[iv c]])]) rfl (Yi _ _) ?_;have r5:=Xd [ab.rows 1 [[iv c]]] r4 (by simp);have f5:Fr rb lv lv σ (τ4++[ab.rows 1 [[iv c]]]):=f4.trans (Fr.app _ (λk n e=>l4.lt e));have l5:LV rb l lv (τ4++[ab.rows 1 [[iv c]]]):=l4.eo (λk hk _=>Xo _ hk);have n5:=Yf τ4 (.rows 1 [[iv c]]);have Po:rb<(τ4++[ab.rows 1 [[iv c]]]).length:=by simp; omega
  have PW:τ4.length≠rb:=by omega
  generalize τ4++[ab.rows 1 [[iv c]]]=τ5 at *;refine Qb (v:=.sl τ5.length 0 2 true) (rd:=[]) (up:=[(τ5.length,.rows 1 [[iv 0],[iv 1]])]) rfl (Yi _ _) ?_;have r6:=Xd [ab.rows 1 [[iv 0],[iv 1]]] r5 (by simp);have f6:Fr rb lv lv σ (τ5++[ab.rows 1 [[iv 0],[iv 1]]]):=f5.trans (Fr.app _ (λk n e=>l5.lt e));have l6:LV rb l lv (τ5++[ab.rows 1 [[iv 0],[iv 1]]]):=l5.eo (λk hk _=>Xo _ hk);have n6:=Xd [ab.rows 1 [[iv 0],[iv 1]]] n5 (by simp);have m6:=Yf τ5 (.rows 1 [[iv 0],[iv 1]]);have Af:rb<(τ5++[ab.rows 1 [[iv 0],[iv 1]]]).length:=by simp; omega
  refine Qg hP (f:=104) rfl g104.ok rfl ?_;refine DG r6 [c] (.sl τ4.length 0 1 true) [τ4.length] (λy=>xv (Zd n6 (by simp) PW.symm)) [0,1] _ m6 (by omega) (by simp) 100000000 Oo (by simp) (by simp) ?_;refine Za (v:=.agg (e7 ⟨8,1,c,0,0,0,[]⟩ .aq)) rfl ?_;refine Qg hP (f:=100) rfl g100.ok rfl ?_;refine tt (Xt (List.getElem?_set_self Af)) (l6.eo (λk hk gV=>Zg _ hk gV)) hn _ _ (.inr ⟨rfl,rfl⟩) (λσ' eY q1 q2 q3=>?_);exact hK _ _ ⟨eY,mv,(f6.trans (Fr.set lv _)).trans q1,by rw[hF]; exact q2,by rw[hF],λ_=>by rw[hF]; exact q3⟩
end Go.Ah.Tz
end
section
namespace Go.Ah.Tz
open Go.Proofs.Tryz (prog)
set_option maxRecDepth 100000
def pq(b:Bk)(s:St)(sd op who:Int)(name:Tx)(ns:List Int)(qs:List Bool):Bool:=
 if op=0 then decide (ns.getD 0 0<ns.getD 1 0) else if op=1 then decide (ns.getD 0 0≤ns.getD 1 0) else if op=2 then decide (ns.getD 0 0=ns.getD 1 0)
 else if op=3 then !qs.getD 0 false else if op=4 then qs.getD 0 false&&qs.getD 1 false else if op=5 then qs.getD 0 false||qs.getD 1 false
 else (kR s (c_ sd who)).hand.any λc=>(Qs b c).name==name
mutual
def jO (b:Bk) (s:St) (sd tg:Int):Cn→Bool
 |.mk op who name ay kids=>pq b s sd op who name (jY b s sd tg ay) (j4 b s sd tg kids)
def j4 (b:Bk) (s:St) (sd tg:Int):List Cn→List Bool
 |[]=>[]
 |x::l=>jO b s sd tg x::j4 b s sd tg l
end
theorem Xdg(b:Bk)(s:St)(sd tg:Int)(x:Cn):jO b s sd tg x=pq b s sd x.op x.who x.name (jY b s sd tg x.ay) (j4 b s sd tg x.kids):=by cases x; rfl
theorem SQ(b:Bk)(s:St)(sd tg:Int):∀(l:List Nm) (i:Nat) (h:i<l.length),(jY b s sd tg l).getD i 0=fX b s sd tg l[i]
 |x::l,0,_=>rfl
 |x::l,i+1,h=>by
  have:=SQ b s sd tg l i (by simpa using h);simpa[jY] using this
theorem RO(b:Bk)(s:St)(sd tg:Int):∀(l:List Cn) (i:Nat) (h:i<l.length),(j4 b s sd tg l).getD i false=jO b s sd tg l[i]
 |x::l,0,_=>rfl
 |x::l,i+1,h=>by
  have:=RO b s sd tg l i (by simpa using h);simpa[j4] using this
def Fv(ns:List Int)(i:Nat):List aa:=[iv (if 0<i then ns.getD 0 0 else 0),iv (if 1<i then ns.getD 1 0 else 0)]
def Fu(qs:List Bool)(i:Nat):List aa:=[.bool (if 0<i then qs.getD 0 false else false),.bool (if 1<i then qs.getD 1 false else false)]
theorem TW{t:Bool}:∀ {l:List Nm},de t l=true→∀y∈l,eT t y=true
 |a::l,h,y,hy=>by
  simp only[de,Bool.and_eq_true] at h;simp only[List.mem_cons] at hy;rcases hy with rfl|hy
  ·exact h.1
  ·exact TW h.2 y hy
theorem RD{cs:List Cd}{t:Bool}:∀ {l:List Cn},gH cs t l=true→∀y∈l,iz cs t y=true
 |a::l,h,y,hy=>by
  simp only[gH,Bool.and_eq_true] at h;simp only[List.mem_cons] at hy;rcases hy with rfl|hy
  ·exact h.1
  ·exact RD h.2 y hy
def I1(b:Bk)(s:St):Prop:=∀k c,c∈(kR s k).aA∨c∈(kR s k).hand→0≤c∧c.toNat<b.af.length
attribute [local irreducible] ak.rd ak.pu ak.wr ak.dr ak.gr ak.gw ak.gl ak.gd ak.opt aH W
set_option maxHeartbeats 8000000
theorem ye(b:Bk)(hf:aS b=true)(bN:Zj b.af)(s:St)(hs:bu 1000000000 s)(hm:aQ (cE b).1 b s true=true)(sd tg:Int)(h0:0≤sd)(h1:sd≤1)(hd:I1 b s)(t:Bool) :
  ∀(k:Nat) (x:Cn) (row:List aa) (j:Nat),qA row j x→SizeOf.sizeOf x≤k→cz x=true→iz b.af t x=true→PC 240 [.agg [.ao row j],la b s sd tg] (.iface 4 (.bool (jO b s sd tg x)))
 |0,x,_,_,_,h,_,_=>by cases x; simp at h
 |k+1,x,row,j,hx,hk,iT,bV=>by
  have fo:=bV;rw[MB] at fo;simp only[Bool.and_eq_true] at fo;obtain⟨k1,k2,k3,_⟩:=fo;simp only[i3,Bool.and_eq_true,decide_eq_true_eq] at k1;obtain⟨ka,kb,kc,kd⟩:=k1;have kc2:x.ay.length≤2:=by rw[kc,ji]; split<;>omega
  have kd2:x.kids.length≤2:=by grind [j0]
  have uE:∀(i:Nat) (hi:i<x.ay.length),PC 221 [.agg [.ao (ba x.ay[i]) 0],la b s sd tg] (.iface 3 (iv ((jY b s sd tg x.ay).getD i 0))):=by
   intro i hi;have eK:=List.getElem_mem hi;rw[SQ b s sd tg x.ay i hi];exact nS b hf bN s hs hm sd tg h0 h1 (λc hc=>hd _ c (.inl hc)) t _ _ _ 0 (oR _) (Nat.le_refl _) (X3 iT eK) (TW k2 _ eK)
  have GS:∀(i:Nat) (hi:i<x.kids.length),PC 240 [.agg [.ao (cG x.kids[i]) 0],la b s sd tg] (.iface 4 (.bool ((j4 b s sd tg x.kids).getD i false))):=by
   intro i hi;have eK:=List.getElem_mem hi;rw[RO b s sd tg x.kids i hi];exact ye b hf bN s hs hm sd tg h0 h1 hd t k _ _ 0 (wx _) (by have:=zl eK; omega) (Y3 iT eK) (RD k3 _ eK)
  rw[Xdg];generalize jY b s sd tg x.ay=ns at uE ⊢;generalize j4 b s sd tg x.kids=qs at GS ⊢;refine Yc hP g240.ok rfl rfl ?_;rw[H2.e]; unfold g240; dsimp only;refine Qb (v:=.ai 0 0) (rd:=[]) (up:=[(0,.box [.ao row j])]) rfl rfl (Qb (v:=.ai 1 0) rfl rfl (Qb (v:=.ai 2 0) rfl rfl ?_));refine Za rfl (Za (ld (row:=[.ao row j]) rfl rfl) (Za rfl (Za rfl (Za (an hx.h3) (Za (v:=iv x.ay.length) (rd:=[]) (by simp[Yp]) ?_)))));refine Xj (ι:=Nat) (λi vs τ=>vs=[iv i]∧i≤x.ay.length∧τ=[.box [.ao row j],.box (Fv ns i),.box [.bool false,.bool false]]) (λi=>x.ay.length-i) 0 ⟨rfl,by omega,rfl⟩ ?_;rintro i vs τ again ⟨rfl,hi,rfl⟩ aZ;refine Za rfl (Zb (λh=>?_) (λh=>?_))
  ·have h:i<x.ay.length:=by simpa using h
   refine Za rfl (Za (ld (row:=[.ao row j]) rfl rfl) (Za rfl (Za rfl (Za (an hx.h3) (Za (Zp _ ba _ _ _ x.ay _ i h) (Za rfl (Xb (uE i h) rfl g221.ok.plain rfl (Za rfl ?_))))))));have h01:i=0∨i=1:=by omega
   rcases h01 with rfl|rfl
   ·refine Za rfl (Qb (v:=.aF) (rd:=[]) (up:=[(1,.box [iv (ns.getD 0 0),iv 0])]) rfl rfl (Za rfl (aZ 1 _ _ (by omega) ⟨rfl,by omega,rfl⟩)))
   ·refine Za rfl (Qb (v:=.aF) (rd:=[]) (up:=[(1,.box [iv (ns.getD 0 0),iv (ns.getD 1 0)])]) rfl rfl (Za rfl (aZ 2 _ _ (by omega) ⟨rfl,by omega,rfl⟩)))
  have h:i=x.ay.length:=by simp at h; omega
  subst h;clear aZ;refine Za rfl (Za (ld (row:=[.ao row j]) rfl rfl) (Za rfl (Za rfl (Za (an hx.h4) (Za (v:=iv x.kids.length) (rd:=[]) (by simp[Yp]) ?_)))));generalize hA:Fv ns x.ay.length=A1;refine Xj (ι:=Nat) (λi vs τ=>vs=[iv i]∧i≤x.kids.length∧τ=[.box [.ao row j],.box A1,.box (Fu qs i)]) (λi=>x.kids.length-i) 0 ⟨rfl,by omega,rfl⟩ ?_;rintro i vs τ again ⟨rfl,hi,rfl⟩ aZ;refine Za rfl (Zb (λh=>?_) (λh=>?_))
  ·have h:i<x.kids.length:=by simpa using h
   refine Za rfl (Za (ld (row:=[.ao row j]) rfl rfl) (Za rfl (Za rfl (Za (an hx.h4) (Za (Zp _ cG _ _ _ x.kids _ i h) (Za rfl (Xb (GS i h) rfl g240.ok.plain rfl (Za rfl ?_))))))));have h01:i=0∨i=1:=by omega
   rcases h01 with rfl|rfl
   ·refine Za rfl (Qb (v:=.aF) (rd:=[]) (up:=[(2,.box [.bool (qs.getD 0 false),.bool false])]) rfl rfl (Za rfl (aZ 1 _ _ (by omega) ⟨rfl,by omega,rfl⟩)))
   ·refine Za rfl (Qb (v:=.aF) (rd:=[]) (up:=[(2,.box [.bool (qs.getD 0 false),.bool (qs.getD 1 false)])]) rfl rfl (Za rfl (aZ 2 _ _ (by omega) ⟨rfl,by omega,rfl⟩)))
  have h:i=x.kids.length:=by simp at h; omega
  subst h;clear aZ;generalize hB:Fu qs x.kids.length=B1;refine Za rfl (Za (ld (row:=[.ao row j]) rfl rfl) (Za rfl (Za rfl (Za (an hx.h0) ?_))));have mX:x.op=0∨x.op=1∨x.op=2∨x.op=3∨x.op=4∨x.op=5∨x.op=6:=by omega
  rcases mX with e|e|e|e|e|e|e
  ·have Gh:A1=[iv (ns.getD 0 0),iv (ns.getD 1 0)]:=by rw[←hA,kc,e]; rfl
   subst Gh; rw[e];exact Za rfl (Xc (Za rfl (Za rfl (Za rfl (Za rfl (Za rfl (Za rfl rfl)))))))
  ·have Gh:A1=[iv (ns.getD 0 0),iv (ns.getD 1 0)]:=by rw[←hA,kc,e]; rfl
   subst Gh; rw[e];exact Za rfl (Yd (Za rfl (Xc (Za rfl (Za rfl (Za rfl (Za rfl (Za rfl (Za rfl rfl)))))))))
  ·have Gh:A1=[iv (ns.getD 0 0),iv (ns.getD 1 0)]:=by rw[←hA,kc,e]; rfl
   subst Gh; rw[e];exact Za rfl (Yd (Za rfl (Yd (Za rfl (Xc (Za rfl (Za rfl (Za rfl (Za rfl (Za (Zf ..) (Za rfl rfl)))))))))))
  ·have vx:B1=[.bool (qs.getD 0 false),.bool false]:=by rw[←hB,kd,e]; rfl
   subst vx; rw[e];exact Za rfl (Yd (Za rfl (Yd (Za rfl (Yd (Za rfl (Xc (Za rfl (Za rfl (Za rfl (Za rfl rfl)))))))))))
  ·have vx:B1=[.bool (qs.getD 0 false),.bool (qs.getD 1 false)]:=by rw[←hB,kd,e]; rfl
   subst vx; rw[e];refine Za rfl (Yd (Za rfl (Yd (Za rfl (Yd (Za rfl (Yd (Za rfl (Xc (Za rfl (Za rfl ?_)))))))))));rw[show pq b s sd 4 x.who x.name ns qs=(qs.getD 0 false&&qs.getD 1 false) from rfl];rcases aT (qs.getD 0 false) with q|q
   ·rw[q];refine Ya (Za rfl (Ya (Za rfl (Za rfl (Za rfl ?_)))));rfl
   ·rw[q];refine Qa rfl (Qa rfl (Za rfl (Za rfl ?_)));rfl
  ·have vx:B1=[.bool (qs.getD 0 false),.bool (qs.getD 1 false)]:=by rw[←hB,kd,e]; rfl
   subst vx; rw[e];refine Za rfl (Yd (Za rfl (Yd (Za rfl (Yd (Za rfl (Yd (Za rfl (Yd (Za rfl (Xc (Za rfl (Za rfl ?_)))))))))))));rw[show pq b s sd 5 x.who x.name ns qs=(qs.getD 0 false||qs.getD 1 false) from rfl];rcases aT (qs.getD 0 false) with q|q
   ·rw[q];refine Qa rfl (Qa rfl (Za rfl (Za rfl ?_)));rfl
   ·rw[q];refine Ya (Za rfl (Ya (Za rfl (Za rfl (Za rfl ?_)))));rfl
  ·rw[e];refine Za rfl (Yd (Za rfl (Yd (Za rfl (Yd (Za rfl (Yd (Za rfl (Yd (Za rfl (Yd ?_)))))))))));refine Za rfl (Za (ld (row:=[.ao row j]) rfl rfl) (Za rfl (Za rfl (Za (an hx.h1) (Xb (c295 b s sd tg x.who h0 h1) rfl g227.ok.plain rfl ?_)))));have hv:pq b s sd 6 x.who x.name ns qs=(kR s (c_ sd x.who)).hand.any λc=>(Qs b c).name==x.name:=rfl;rw[hv];have cY:∀c∈(kR s (c_ sd x.who)).hand,0≤c∧c.toNat<b.af.length:=λc hc=>hd _ c (.inr hc);obtain⟨jj,VZ,hpt,iE⟩:∃jj:Nat,aL false (jj+4) 1 (aD s)=some (aV (kR s (c_ sd x.who)).hand)∧(bif c_ sd x.who==0 then 7 else 15)=jj∧(kR s (c_ sd x.who)).hand.length≤1000000000:=by
    rcases EU (who:=x.who) h0 h1 with h|h
    ·rw[h]; exact⟨7,rfl,rfl,hs.s0.hand⟩
    ·rw[h]; exact⟨15,rfl,rfl,hs.s1.hand⟩
   rw[hpt];generalize (kR s (c_ sd x.who)).hand=hand at VZ cY iE ⊢;refine Za rfl (Za rfl (Za (an VZ) (Za (v:=iv hand.length) (rd:=[]) (by simp[Yp]) ?_)));refine Xj (ι:=Nat) (λi vs τ=>vs=[iv i]∧i≤hand.length∧τ=[.box [.ao row j],.box A1,.box B1]∧(hand.take i).any (λc=>(Qs b c).name==x.name)=false) (λi=>hand.length-i) 0 ⟨rfl,by omega,rfl,rfl⟩ ?_;rintro i vs τ again ⟨rfl,hi,rfl,me⟩ aZ;refine Za rfl (Zb (λh=>?_) (λh=>?_))
   ·have h:i<hand.length:=by simpa using h
    obtain⟨q1,q2⟩:=cY hand[i] (List.getElem_mem h);refine Za (Zp _ aY _ _ _ hand _ i h) (Za (v:=iv hand[i]) (an rfl) ?_);refine Za rfl (Za rfl (Za (v:=.ao (bU b) 0) (an (row:=vq b s sd tg) rfl) (Za rfl (Za rfl (Za (v:=fm b.af) (an (row:=bU b) rfl) ?_)))));refine Za (sU _ b_ _ _ _ b.af _ _ q1 q2) (Za rfl (Za (v:=.str b.af[hand[i].toNat].name) (an rfl) ?_));refine Za rfl (Za (ld (row:=[.ao row j]) rfl rfl) (Za rfl (Za rfl (Za (an hx.h2) (Za (Xf ..) ?_)))));have hc:Qs b hand[i]=b.af[hand[i].toNat]:=by simp[Qs,q2]
    refine Zb (λhq=>?_) (λhq=>?_)
    ·have:hand.any (λc=>(Qs b c).name==x.name)=true:=List.any_eq_true.2 ⟨hand[i],List.getElem_mem h,by rw[hc]; exact hq⟩;rw[this];exact Za rfl rfl
    ·refine Za (Yj ..) ?_;rw[Qd (n:=i) (by omega)];refine aZ (i+1) _ _ (by omega) ⟨rfl,by omega,rfl,?_⟩
     grind [Yv]
   ·have h:i=hand.length:=by simp at h; omega
    subst h;rw[List.take_length] at me;rw[me];exact Za rfl rfl
theorem c569(b:Bk)(hf:aS b=true)(bN:Zj b.af)(s:St)(hs:bu 1000000000 s)(hm:aQ (cE b).1 b s true=true)(sd tg:Int)(h0:0≤sd)(h1:sd≤1)(hd:I1 b s)(t:Bool)(x:Cn)(hx:cz x=true)(bV:iz b.af t x=true) :
  PC 240 [.agg [.ao (cG x) 0],la b s sd tg] (.iface 4 (.bool (jO b s sd tg x))):=ye b hf bN s hs hm sd tg h0 h1 hd t _ x _ 0 (wx x) (Nat.le_refl _) hx bV
end Go.Ah.Tz
end
section
namespace Go.Ah.Tz
open Go.Proofs.Tryz (prog)
set_option maxRecDepth 100000
def vH(y:Cn):Ef:=.mk 8 0 Ei [] y [] []
def zp(y:Cn):Cd:=⟨[80,114,111,98,101],false,0,0,0,0,0,0,[vH y],[],[],0⟩
def tm(b:Bk)(y:Cn):Bool:=!decide (nD (zp y)-1>200)&&bT b.af true 1 [vH y]
theorem XcM{b:Bk}{y:Cn}(h:tm b y=true):iz b.af true y=true:=by
 simp only[tm,bT,dp,Bool.and_eq_true] at h;obtain⟨_,_,_,h,_⟩:=h;rw[zg,if_pos (show (vH y).op=8 from rfl)] at h;simp only[Bool.and_eq_true] at h;exact h.2.2.2.2.2.1
@[reducible] def Hx(y:Cn):List aa:=[ar 8,ar 0,ar 0,iv 0,ar 0,.aq,.str [],ar y.op,ar y.who,.str y.name,.ax false false 4 (y.ay.map ba),.ax false false 5 (y.kids.map cG),.aq,.aq]
theorem QdW{h0:Hp}{rd:List Nat}(y:Cn):bp h0 rd (Hx y) (aM (vH y)):=by
 rw[XC];exact .cons (aB.ro rfl) <| .cons (aB.ro rfl) <| .cons (aB.ro rfl) <| .cons (aB.ro rfl) <| .cons (aB.ro rfl) <| .cons (aB.cy (aB.ro rfl) (λM u d=>d.bC 4)) <| .cons (aB.ro rfl) <| .cons (aB.ro rfl) <| .cons (aB.ro rfl) <| .cons (aB.ro rfl) <|
  .cons (aB.ro rfl) <| .cons (aB.ro rfl) <| .cons (aB.cy (aB.ro rfl) (λM u d=>d.bC 14)) <| .cons (aB.cy (aB.ro rfl) (λM u d=>d.bC 14)) .nil
theorem Vu{h0:Hp}{rd:List Nat}(y:Cn){b:Nat}(hb:h0 b=some (.rows 14 [Hx y]))(cY:b∈rd):aB h0 rd (.sl b 0 1 true) (ic [vH y]):=by
 refine aB.cy (y:=.ax true false 14 [aM (vH y)]) (aB.sl hb cY (by simp) rfl (λi row row' e1 e2=>?_)) (λM u d=>d.iJ)
 grind [QdW]
theorem Sr{y:Cn}(h:cz y=true):bG [vH y]=true:=by
 simp[bG,vH,vn,dk,h,cQ,Ei,cO,wi,yO,Am]
attribute [local irreducible] ak.rd ak.pu ak.wr ak.dr ak.gr ak.gw ak.gl ak.gd ak.opt aH W
set_option maxHeartbeats 4000000
theorem Fx(b:Bk)(hf:aS b=true)(y:Cn)(hy:cz y=true)(dU:(qJ y).length≤1000000):PC 108 [.ei,.ao (cG y) 0,.ao (bU b) 0] (.bool (tm b y)):=by
 have gC:QE b.af=true:=by
  simp_all [aS]
 have Gn:(oW (zp y)).length≤500000000:=by grind [oW,zp,bS,vH,jk,bd]
 have h124:=c124 (zp y) (Sr hy) rfl rfl Gn;have h125:=c125 b.af gC [vH y] (Sr hy);have hwr:-9223372036854775808≤nD (zp y)-1∧nD (zp y)-1≤9223372036854775807:=by rw[J9]; omega
 unfold tm;rw[YQ];refine Yc hP g108.ok rfl rfl ?_;rw[H3.e]; unfold g108; dsimp only;refine Za rfl (Qb (v:=.ai 0 0) rfl rfl (Qb (v:=.aF) (rd:=[]) (up:=[(0,.box [ar 3,ar 0,ar 0,iv 0,ar 0,.aq,.str [],ar 0,ar 0,.str [],.aq,.aq,.aq,.aq])]) rfl rfl (Za rfl (ZY (Yd ?_)))));refine Qe rfl (Yg (an rfl) rfl (Qe rfl (Yg (v:=.aF) (rd:=[]) (up:=[(0,.box [ar 8,ar 0,ar 0,iv 0,ar 0,.aq,.str [],ar 0,ar 0,.str [],.aq,.aq,.aq,.aq])]) rfl rfl (Qe rfl (Yg (v:=.aF) (rd:=[]) (up:=[(0,.box (Hx y))]) rfl rfl (Xr (by kernel_rfl) ?_))))));refine Za (ld (row:=Hx y) rfl rfl) (Qb (v:=.sl 1 0 1 true) (rd:=[]) (up:=[(1,.rows 14 [Hx y])]) rfl rfl (Za rfl (Qb (v:=.ai 2 0) rfl rfl ?_)));refine Qb (v:=.aF) (rd:=[]) (up:=[(2,.box [.str [80,114,111,98,101],.bool false,iv 0,iv 0,iv 0,iv 0,iv 0,iv 0,.sl 1 0 1 true,.aq,.aq,iv 0])]) rfl rfl ?_;refine Za (ld (row:=[.str [80,114,111,98,101],.bool false,iv 0,iv 0,iv 0,iv 0,iv 0,iv 0,.sl 1 0 1 true,.aq,.aq,iv 0]) rfl rfl) ?_;refine Zx (rd:=[1]) h124 rfl g129.ok.plain (.cons (aB.agg ?_) .nil) rfl ?_
 ·exact .cons (aB.ro rfl) <| .cons (aB.ro rfl) <| .cons (aB.ro rfl) <| .cons (aB.ro rfl) <| .cons (aB.ro rfl) <| .cons (aB.ro rfl) <| .cons (aB.ro rfl) <| .cons (aB.ro rfl) <| .cons (Vu y rfl (by simp)) <|
   .cons (aB.cy (aB.ro rfl) (λM u d=>d.bC 14)) <| .cons (aB.cy (aB.ro rfl) (λM u d=>d.bC 14)) <| .cons (aB.ro rfl) .nil
 refine Za (sV ..) ?_;rw[IntWalk.i64_in _ hwr];refine Za (v:=.bool (decide (nD (zp y)-1>200))) rfl ?_;refine Zb (λh=>?_) (λh=>?_)
 ·rw[h]; rfl
 rw[h];refine Qe rfl (Qe rfl (Yg (v:=fm b.af) (an (row:=bU b) rfl) rfl (Qe rfl (Yg (v:=.sl 1 0 1 true) (ld (row:=[.str [80,114,111,98,101],.bool false,iv 0,iv 0,iv 0,iv 0,iv 0,iv 0,.sl 1 0 1 true,.aq,.aq,iv 0]) rfl rfl) rfl ?_))));exact YW (rd:=[1]) h125 rfl g142.ok.plain (.cons (aB.ro rfl) (.cons (Vu y rfl (by simp)) .nil)) rfl (Xr (by kernel_rfl) rfl)
theorem c169(b:Bk)(hf:aS b=true)(bN:Zj b.af)(s:St)(hs:bu 1000000000 s)(hm:aQ (cE b).1 b s true=true)(sd tg:Int)(h0:0≤sd)(h1:sd≤1)(hd:I1 b s)(y:Cn)(hy:cz y=true)(dU:(qJ y).length≤1000000) :
  PC 69 [dg b,cf s,.agg [iv sd,iv tg],.agg (cG y)] (.bn [.bool (tm b y&&jO b s sd tg y),iv (if tm b y=true then 0 else 2)]):=by
 have hz:=nS b hf bN s hs hm sd tg h0 h1 (λc hc=>hd _ c (.inl hc)) true _ Ei (ba Ei) 0 (oR _) (Nat.le_refl _) rfl rfl;have a0:=c81 b hf bN s hs hm sd tg h0 h1 _ _ _ hz;have h82:=Fx b hf y hy dU;have a1:tm b y=true→PC 107 [.ao (bU b) 0,.ao (aD s) 0,.agg [iv sd,iv tg],.iface 192 (.agg [.ao (cG y) 0])] (.bn [.iface 4 (.bool (jO b s sd tg y)),iv 0]):=λh=>
  NT b hf bN s hs hm sd tg h0 h1 _ _ _ (c569 b hf bN s hs hm sd tg h0 h1 hd true y hy (XcM h))
 refine Yc hP g69.ok rfl rfl ?_;rw[H4.e]; unfold g69; dsimp only;refine Qb (v:=.ai 0 0) (rd:=[]) (up:=[(0,.box (bU b))]) rfl rfl (Qb (v:=.ai 1 0) (rd:=[]) (up:=[(1,.box (aD s))]) rfl rfl (Qb (v:=.ai 2 0) rfl rfl ?_));refine Qb (v:=.ai 3 0) (rd:=[]) (up:=[(3,.box (cG y))]) (by rw[YQ]; rfl) rfl ?_;refine Za (ld (row:=[iv sd,iv tg]) rfl rfl) (Za rfl (Qb (v:=.ai 4 0) rfl rfl (Za rfl (Za rfl ?_))));have B0:∀ {σ:List ab} {rd:List Nat},ah σ 0=.box (bU b)→0∈rd→aB (hp σ) rd (.ai 0 0) (.ao (bU b) 0):=λh cY=>aB.box (ZP h) cY (bp.ro rfl);have B1:∀ {σ:List ab} {rd:List Nat},ah σ 1=.box (aD s)→1∈rd→aB (hp σ) rd (.ai 1 0) (.ao (aD s) 0):=λh cY=>aB.box (ZP h) cY (bp.ro rfl);have B3:∀ {σ:List ab} {rd:List Nat},ah σ 3=.box (cG y)→3∈rd→aB (hp σ) rd (.ai 3 0) (.ao (cG y) 0):=λh cY=>aB.box (ZP h) cY (bp.ro (by rw[YQ]; rfl));refine Zx (rd:=[0,1,4]) a0 rfl jF (.cons (B0 rfl (by simp)) <| .cons (B1 rfl (by simp)) <| .cons (aB.ro rfl) <| .cons (aB.iface (aB.agg (.cons (aB.box (row:=[ar 0,iv 0,ar 0,.aq]) rfl (by simp) ?_) .nil))) .nil) rfl ?_
 ·exact .cons (aB.ro rfl) <| .cons (aB.ro rfl) <| .cons (aB.ro rfl) <| .cons (aB.cy (aB.ro rfl) (λM u d=>d.bC 4)) .nil
 refine Za rfl (Za rfl (Za rfl (Xa ?_)));refine Zx (rd:=[0,3]) h82 rfl g108.ok.plain (.cons (aB.ro rfl) <| .cons (B3 rfl (by simp)) <| .cons (B0 rfl (by simp)) .nil) rfl ?_;rcases aT (tm b y) with hq|hq
 ·rw[hq];refine Ya (Za rfl (Za rfl (Yd (Za rfl (ZY (Xc ?_))))));refine Za (ld (row:=[iv sd,iv tg]) rfl rfl) (Za rfl (Za rfl ?_));refine Zx (rd:=[0,1,3]) (a1 hq) rfl jF (.cons (B0 rfl (by simp)) <| .cons (B1 rfl (by simp)) <| .cons (aB.ro rfl) <| .cons (aB.iface (aB.agg (.cons (B3 rfl (by simp)) .nil))) .nil) rfl ?_;exact Za rfl (Za rfl (Za rfl (Yd (Za rfl rfl))))
 ·rw[hq];refine Ya (Za rfl (Za rfl (Xc rfl)))
def dX(s:St)(sd tg who:Int):Int×Int×Bool:=
 if who=0 then (0,sd,true) else if who=1 then (0,1-sd,true) else if who≠2 then (0,0,false)
 else if tg = -2∨tg = -3 then (0,-2-tg,true) else if 0<tg then (if (bj s tg).2.2=true then (tg,(bj s tg).1,true) else (0,0,false)) else (0,0,false)
theorem c170(s:St)(hs:bu 1000000000 s)(sd tg who:Int)(h0:0≤sd)(h1:sd≤1):PC 137 [cf s,.agg [iv sd,iv tg],ar who] (.bn [iv (dX s sd tg who).1,iv (dX s sd tg who).2.1,.bool (dX s sd tg who).2.2]):=by
 have h71:=c71 s hs tg;refine Yc hP g137.ok rfl rfl ?_;rw[H3.e]; unfold g137; dsimp only;refine Qb (v:=.ai 0 0) (rd:=[]) (up:=[(0,.box (aD s))]) rfl rfl (Qb (v:=.ai 1 0) (rd:=[]) (up:=[(1,.box [iv sd,iv tg])]) rfl rfl ?_);refine Za rfl (Za (ld (row:=[iv sd,iv tg]) (v:=iv sd) rfl rfl) (Za (v:=.bool (decide (sd<0))) rfl ?_));rw[show decide (sd<0)=false from decide_eq_false (by omega)];refine Ya (Za rfl (Ya (Za (ld (row:=[iv sd,iv tg]) (v:=iv sd) rfl rfl) (Ya (Za (v:=.bool (decide (sd>1))) rfl ?_)))));rw[show decide (sd>1)=false from decide_eq_false (by omega)];refine Za rfl (Yd (Qh λk' ek=>?_));have me:dX s sd tg who=(0,0,false)→k' [] [.box (aD s),.box [iv sd,iv tg]]:=by
  simp_all
 clear ek;refine Za (Zf ..) (Zb (λh=>?_) (λh=>?_))
 ·have h:who=0:=by simpa using h
  have e:dX s sd tg who=(0,sd,true):=by rw[dX,if_pos h]
  rw[e];exact Za rfl (Za (ld (row:=[iv sd,iv tg]) (v:=iv sd) rfl rfl) rfl)
 have h:who≠0:=by simpa using h
 refine Za (Zf ..) (Zb (λh2=>?_) (λh2=>?_))
 ·have h2:who=1:=by simpa using h2
  have e:dX s sd tg who=(0,1-sd,true):=by rw[dX,if_neg h,if_pos h2]
  rw[e];refine Za rfl (Za (ld (row:=[iv sd,iv tg]) (v:=iv sd) rfl rfl) (Za (sV ..) ?_));rw[IntWalk.i64_in _ (by omega)]
 have h2:who≠1:=by simpa using h2
 refine Za (XZ ..) (Zb (λh3=>?_) (λh3=>?_))
 ·simp_all [dX]
 have h3:¬who≠2:=by simpa using h3
 have e0:dX s sd tg who=if tg = -2∨tg = -3 then (0,-2-tg,true) else if 0<tg then (if (bj s tg).2.2=true then (tg,(bj s tg).1,true) else (0,0,false)) else (0,0,false):=by simp_all [dX]
 refine Za rfl (Za (ld (row:=[iv sd,iv tg]) (v:=iv tg) rfl rfl) (Za (Zf ..) ?_));have pick:∀K:aa→Prop,K (.bool (decide (tg = -2∨tg = -3)))→VV.gr (.bool (decide (tg = -2))) false (λk=>VV.rd (Ze 1 [.ai 1 0] [.box (aD s),.box [iv sd,iv tg]]) k) λt39=>
   VV.gr (.bool (decide (tg = -2))) false (λk=>VV.rd (Xh false 1 [t39] [.box (aD s),.box [iv sd,iv tg]]) k) λt40=>
   VV.gr (.bool (decide (tg = -2))) false (λk=>VV.rd (Qn .eql false [t40,(.int .i64 (-3))] [.box (aD s),.box [iv sd,iv tg]]) k) λt41=>
   VV.rd (Ym [.bool (decide (tg = -2)),(.bool true),t41] [.box (aD s),.box [iv sd,iv tg]]) K:=by
  intro K hK;by_cases hq:tg = -2
  ·rw[show decide (tg = -2)=true from decide_eq_true hq];refine Qa rfl (Qa rfl (Qa rfl (Za rfl ?_)));simp_all
  ·rw[show decide (tg = -2)=false from decide_eq_false hq];refine Ya (Za rfl (Ya (Za (ld (row:=[iv sd,iv tg]) (v:=iv tg) rfl rfl) (Ya (Za (Zf ..) (Za rfl ?_))))));simp_all
 refine pick _ (Zb (λh4=>?_) (λh4=>?_))
 ·have h4:tg = -2∨tg = -3:=by simpa using h4
  rw[e0,if_pos h4];refine Za rfl (Za (ld (row:=[iv sd,iv tg]) (v:=iv tg) rfl rfl) (Za (sV ..) ?_));rw[IntWalk.i64_in _ (by omega)]
 have h4:¬(tg = -2∨tg = -3):=by simpa using h4
 rw[if_neg h4] at e0;refine Za rfl (Za (ld (row:=[iv sd,iv tg]) (v:=iv tg) rfl rfl) (Za (Z9 ..) (Zb (λh5=>?_) (λh5=>?_))))
 ·have h5:0<tg:=by simpa using h5
  rw[if_pos h5] at e0;refine Za (ld (row:=aD s) rfl rfl) (Za rfl (Za (ld (row:=[iv sd,iv tg]) (v:=iv tg) rfl rfl) (Xb h71 rfl g19.ok.plain rfl ?_)));unfold i7;refine Za rfl (Za rfl (Za rfl (Zb (λh6=>?_) (λh6=>?_))))
  ·rw[if_pos h6] at e0;rw[e0];exact Za rfl (Za (ld (row:=[iv sd,iv tg]) (v:=iv tg) rfl rfl) rfl)
  simp_all
 grind
end Go.Ah.Tz
end
section
namespace Go.Ah.Tz
open Go.Proofs.Tryz (prog)
set_option maxRecDepth 100000
def Mf(s:St)(sd tg who:Int):aa:=if (dX s sd tg who).2.2=true then (if 0<(dX s sd tg who).1 then .iface 218 (.agg [iv (dX s sd tg who).1,iv (dX s sd tg who).2.1]) else .iface 219 (iv (dX s sd tg who).2.1)) else .cV
theorem UA{s:St}{sd tg who:Int}(h01:sd=0∨sd=1)(h:(dX s sd tg who).2.2=true):((dX s sd tg who).2.1=0∨(dX s sd tg who).2.1=1)∧0≤(dX s sd tg who).1:=by
 grind [dX,bj]
def n_(op:Int)(b:Bk)(s:St)(id k n:Int):St×Ev×Int:=if op=1 then na s id k n else mM b s id k n
def gM(b:Bk)(s:St)(sd tg op who n:Int):Int×St×List Ev:=
 if (dX s sd tg who).2.2=true∧0≤n then
  (if (n_ op b s (dX s sd tg who).1 (dX s sd tg who).2.1 n).2.2=0 then (0,(n_ op b s (dX s sd tg who).1 (dX s sd tg who).2.1 n).1,[(n_ op b s (dX s sd tg who).1 (dX s sd tg who).2.1 n).2.1])
  else ((n_ op b s (dX s sd tg who).1 (dX s sd tg who).2.1 n).2.2,s,[]))
 else (0,s,[])
theorem JH{σ:List ab}{b j n:Nat}{row:List aa}{v:aa}(hb:ah σ b=.box row)(hv:aL true j n row=some v):ga true n (.ai b j) σ=some v:=by
 simp only[ga,hb,hv]
theorem dL.lift{σ σ':List ab}(h:dL σ σ' [])(rb:Nat){lv:aa}:Fr rb lv lv σ σ':=⟨h.1,λk hk _ _=>h.2 k hk (by simp),λk n e=>.inr ⟨n,e⟩⟩
theorem dL.k_(σ:List ab)(x:ab):dL σ (σ++[x]) []:=dL.app σ [x]
theorem dL.cR{σ τ:List ab}(h:dL σ τ []){b:Nat}(hb:σ.length≤b)(x:ab):dL σ (τ.set b x) []:=
 ⟨by simpa using h.1,λc hc _=>by rw[Zg x (Nat.lt_of_lt_of_le hc h.1) (by omega),h.2 c hc (by simp)]⟩
theorem dL.i9{σ τ:List ab}(h:dL σ τ [])(x:ab):dL σ (τ++[x]) []:=by
 have:=h.trans (dL.k_ τ x); simpa using this
attribute [local irreducible] ak.rd ak.pu ak.wr ak.dr ak.gr ak.gw ak.gl ak.gd ak.opt aH W
set_option maxHeartbeats 4000000
theorem YdH{σ:List ab}{rb:Nat}{b:Bk}{s:St}{sd tg fu:Int}{mv lv:aa}(hr:ah σ rb=.box (dF b s sd tg lv fu mv))(h01:sd=0∨sd=1)(hs:bu 1000000000 s)(who:Int){K:aa→List ab→Prop}(hK:K (Mf s sd tg who) σ):g99.u VV [.ai rb 0,ar who] σ K:=by
 rw[H2.e]; unfold g99; dsimp only;refine Za rfl (Za rfl (Za (v:=cf s) (ld hr rfl) (Za rfl (Za rfl (Za (v:=.agg [iv sd,iv tg]) (ld hr rfl) ?_)))));refine Xb (c170 s hs sd tg who (by omega) (by omega)) rfl g137.ok.plain rfl ?_;unfold Mf at hK;refine Za rfl (Za rfl (Za rfl (Za rfl (Zb (λh=>?_) (λh=>?_)))))
 ·simp_all
 ·rw[if_pos (by simpa using h)] at hK;refine Za (Z9 ..) (Zb (λh2=>?_) (λh2=>?_))
  ·rw[if_pos (by simpa using h2)] at hK; exact Za rfl (Za rfl hK)
  ·rw[if_neg (by simpa using h2)] at hK; exact Za rfl hK
theorem Zda{σ:List ab}{rb:Nat}{b:Bk}{s:St}{sd tg fu:Int}{lv:aa}{F:FuncId}(hr:ah σ rb=.box (dF b s sd tg lv fu (.func (.func F) [] [])))(id k n:Int){r:St×Ev×Int}(hc:PC F [dg b,cf s,iv id,iv k,iv n] (fQ r))(Ec:Qj prog F=true){K:aa→List ab→Prop}
 (hK:∀σ',dL σ σ' []→K (fQ r) σ'):g241.u VV [.agg [iv id,iv k],.ai rb 0,iv n] σ K:=by
 rw[H3.e]; unfold g241; dsimp only;refine Qb (v:=.ai σ.length 0) (rd:=[]) (up:=[(σ.length,.box [iv id,iv k])]) rfl (Yi σ _) ?_;have a1:=dL.k_ σ (.box [iv id,iv k]);have r1:=Xd [ab.box [iv id,iv k]] hr (by simp);have n1:=Yf σ (.box [iv id,iv k]);have l1:(σ++[ab.box [iv id,iv k]]).length=σ.length+1:=by simp
 generalize σ++[ab.box [iv id,iv k]]=τ1 at *;refine Qb (v:=.ai τ1.length 0) (rd:=[]) (up:=[(τ1.length,.box aU)]) rfl (Yi τ1 _) ?_;have a2:=a1.i9 (.box aU);have r2:=Xd [ab.box aU] r1 (by simp);have n2:=Xd [ab.box aU] n1 (by simp);have z2:=Yf τ1 (.box aU);have l2:(τ1++[ab.box aU]).length=τ1.length+1:=by simp
 generalize τ1++[ab.box aU]=τ2 at *;refine Qb (v:=.ai τ2.length 0) (rd:=[]) (up:=[(τ2.length,.box bK)]) rfl (Yi τ2 _) ?_;have a3:=a2.i9 (.box bK);have r3:=Xd [ab.box bK] r2 (by simp);have n3:=Xd [ab.box bK] n2 (by simp);have z3:=Xd [ab.box bK] z2 (by simp);have e3:=Yf τ2 (.box bK);have l3:(τ2++[ab.box bK]).length=τ2.length+1:=by simp
 generalize τ2++[ab.box bK]=τ3 at *;refine Za rfl (Za rfl (Za (v:=.func (.func F) [] []) (ld r3 rfl) (Za rfl (Za rfl (Za (v:=dg b) (ld r3 rfl) (Za rfl (Za rfl (Za (v:=cf s) (ld r3 rfl) ?_))))))));refine Za rfl (Za (v:=iv id) (ld n3 rfl) (Za rfl (Za (v:=iv k) (ld n3 rfl) ?_)));refine Xb (f:=F) (ys:=[dg b,cf s,iv id,iv k,iv n]) hc rfl Ec rfl ?_;refine Qe rfl (Qe rfl (Qe rfl ?_));refine Yg (cM z3 rfl rfl rfl) (Xg _ (by omega)) ?_;have e4:=Zd (x:=.box (aD r.1)) e3 (by simp) (c:=τ1.length) (by omega);have s4:ah (τ3.set τ1.length (.box (aD r.1))) τ1.length=.box (aD r.1):=Xe _ (by omega);refine Yg (cM e4 rfl rfl rfl) (Xg _ (by simp; omega)) (Xr (by rfl) ?_);refine Qi (JH (Zd s4 (by simp) (by omega)) rfl) (Qi (JH (Xe _ (by simp; omega)) rfl) ?_);exact hK _ ((a3.cR (by omega) _).cR (by omega) _)
theorem Xb5{σ:List ab}{rb:Nat}{b:Bk}{s:St}{sd tg fu:Int}{lv:aa}{F:FuncId}(hr:ah σ rb=.box (dF b s sd tg lv fu (.func (.func F) [] [])))(k n:Int){r:St×Ev×Int}(hc:PC F [dg b,cf s,iv 0,iv k,iv n] (fQ r))(Ec:Qj prog F=true){K:aa→List ab→Prop}
 (hK:∀σ',dL σ σ' []→K (fQ r) σ'):g242.u VV [iv k,.ai rb 0,iv n] σ K:=by
 rw[H3.e]; unfold g242; dsimp only;refine Qb (v:=.ai σ.length 0) (rd:=[]) (up:=[(σ.length,.box aU)]) rfl (Yi σ _) ?_;have a2:=dL.k_ σ (.box aU);have r2:=Xd [ab.box aU] hr (by simp);have z2:=Yf σ (.box aU);have l2:(σ++[ab.box aU]).length=σ.length+1:=by simp
 generalize σ++[ab.box aU]=τ2 at *;refine Qb (v:=.ai τ2.length 0) (rd:=[]) (up:=[(τ2.length,.box bK)]) rfl (Yi τ2 _) ?_;have a3:=a2.i9 (.box bK);have r3:=Xd [ab.box bK] r2 (by simp);have z3:=Xd [ab.box bK] z2 (by simp);have e3:=Yf τ2 (.box bK);have l3:(τ2++[ab.box bK]).length=τ2.length+1:=by simp
 generalize τ2++[ab.box bK]=τ3 at *;refine Za rfl (Za rfl (Za (v:=.func (.func F) [] []) (ld r3 rfl) (Za rfl (Za rfl (Za (v:=dg b) (ld r3 rfl) (Za rfl (Za rfl (Za (v:=cf s) (ld r3 rfl) ?_))))))));refine Xb (f:=F) (ys:=[dg b,cf s,iv 0,iv k,iv n]) hc rfl Ec rfl ?_;refine Qe rfl (Qe rfl (Qe rfl ?_));refine Yg (cM z3 rfl rfl rfl) (Xg _ (by omega)) ?_;have e4:=Zd (x:=.box (aD r.1)) e3 (by simp) (c:=σ.length) (by omega);have s4:ah (τ3.set σ.length (.box (aD r.1))) σ.length=.box (aD r.1):=Xe _ (by omega);refine Yg (cM e4 rfl rfl rfl) (Xg _ (by simp; omega)) (Xr (by rfl) ?_);refine Qi (JH (Zd s4 (by simp) (by omega)) rfl) (Qi (JH (Xe _ (by simp; omega)) rfl) ?_);exact hK _ ((a3.cR (by omega) _).cR (by omega) _)
theorem TC{σ:List ab}{rb:Nat}{b:Bk}{s:St}{sd tg fu:Int}{mv lv:aa}{l:List Ev}(hr:ah σ rb=.box (dF b s sd tg lv fu mv))(hl:LV rb l lv σ)(hn:l.length≤1000000000)(h01:sd=0∨sd=1)
 (hf:aS b=true)(bN:Zj b.af)(hs:bu 2000000 s)(hm:aQ (cE b).1 b s true=true)(x:Ef)(n:Int){K:aa→List ab→Prop}(hK:∀v σ',Dn rb b sd tg fu l lv σ (gM b s sd tg x.op x.who n) v σ'→K v σ'):g62.u VV [.ai rb 0,.agg (aM x),iv n] σ K:=by
 have uI:=Ye hr (by simp);have f0:Fr rb lv lv σ (σ++[ab.box (aM x)]):=Fr.app _ (λk n e=>hl.lt e);have r1:=Xd [ab.box (aM x)] hr (by simp);have l1:LV rb l lv (σ++[ab.box (aM x)]):=hl.eo (λk hk _=>Xo _ hk);have n1:=Yf σ (.box (aM x));have iF:rb<(σ++[ab.box (aM x)]).length:=by simp; omega
 have cL:σ.length≠rb:=by omega
 have pK:bu 1000000000 s:=⟨by have:=hs.al; omega,⟨by have:=hs.s0.aA; omega,by have:=hs.s0.hand; omega,by have:=hs.s0.aj; omega,by have:=hs.s0.ae; omega,by have:=hs.s0.told; omega⟩,⟨by have:=hs.s1.aA; omega,by have:=hs.s1.hand; omega,by have:=hs.s1.aj; omega,by have:=hs.s1.ae; omega,by have:=hs.s1.told; omega⟩⟩;rw[H3.e]; unfold g62; dsimp only;refine Qb (vZ _ _) (Yi σ _) (Za rfl (Za rfl ?_));generalize σ++[ab.box (aM x)]=τ at *;refine Qb (cM (row':=dF b s sd tg lv fu (.func (.func 97) [] [])) r1 rfl rfl rfl) (Xg _ iF) ?_;refine Za rfl (Za (ld (Zd n1 (by simp) cL.symm) (bq x)) (Za (Zf ..) (Qh λk' ek=>?_)));have hR:∀(F:FuncId) (υ:List ab),(∀id k n,k=0∨k=1→PC F [dg b,cf s,iv id,iv k,iv n] (fQ (n_ x.op b s id k n)))→Qj prog F=true→Fr rb lv lv σ υ→ah υ rb=.box (dF b s sd tg lv fu (.func (.func F) [] []))→ah υ σ.length=.box (aM x)→LV rb l lv υ→k' [] υ:=by
  intro F υ hc Ec rX Hi hnu KR;subst ek;have stay:gM b s sd tg x.op x.who n=(0,s,[])→K (iv 0) υ:=λe=>hK _ _ ⟨lv,_,rX,by rw[e]; exact Hi,by rw[e],λ_=>by rw[e]; simpa using KR⟩;refine Za rfl (Za (ld hnu (bR x)) ?_);refine Qg hP (f:=99) rfl g99.ok rfl (YdH Hi h01 pK x.who ?_);have bV:=UA (s:=s) (tg:=tg) (who:=x.who) h01;unfold Mf;have last:∀(id k:Int) (υ2:List ab),dX s sd tg x.who=(id,k,true)→0≤n→dL υ υ2 [] →
    VV.rd (Ql 0 [fQ (n_ x.op b s id k n)] υ2) λt40=>
    VV.rd (Ql 1 [fQ (n_ x.op b s id k n)] υ2) λt41=>
    VV.rd (Ql 2 [fQ (n_ x.op b s id k n)] υ2) λt42=>
    VV.wr (Zy aU [] υ2) υ2 λt9 σ=>
    VV.wr (Zy bK [] σ) σ λt10 σ=>
    VV.wr (Qm 23 [t9,t40] σ) σ λ_ σ=>
    VV.wr (Qm 7 [t10,t41] σ) σ λ_ σ=>
    VV.rd (Qn .neq false [t42,(.int .i64 0)] σ) λt44=>
    VV.test t44 (K t42 σ) (
    VV.rd (Xh true 23 [t9] σ) λt47=>
    VV.rd (Zi [.ai rb 0] σ) λt48=>
    VV.rd (Ze 2 [t48] σ) λt49=>
    VV.wr (Qm 23 [t49,t47] σ) σ λ_ σ=>
    VV.rd (Xh true 7 [t10] σ) λt51=>
    VV.call (.call 100) [.ai rb 0,t51] σ λt52 σ=>K (.int .i64 0) σ):=by
   intro id k υ2 hw jK ha;have he:gM b s sd tg x.op x.who n=if (n_ x.op b s id k n).2.2=0 then (0,(n_ x.op b s id k n).1,[(n_ x.op b s id k n).2.1]) else ((n_ x.op b s id k n).2.2,s,[]):=by
    rw[gM,hw,if_pos ⟨rfl,jK⟩]
   generalize n_ x.op b s id k n=r at *;have Hj:=ha.get Hi (by simp) (by simp);have O6:LV rb l lv υ2:=KR.eo (λk hk _=>ha.2 k hk (by simp));have OO:Fr rb lv lv σ υ2:=rX.trans (ha.lift rb);refine Za rfl (Za rfl (Za rfl ?_));refine Qb (v:=.ai υ2.length 0) (rd:=[]) (up:=[(υ2.length,.box aU)]) rfl (Yi υ2 _) ?_;have a3:=dL.k_ υ2 (.box aU);have z3:=Yf υ2 (.box aU);have l3:(υ2++[ab.box aU]).length=υ2.length+1:=by simp
   generalize υ2++[ab.box aU]=υ3 at *;refine Qb (v:=.ai υ3.length 0) (rd:=[]) (up:=[(υ3.length,.box bK)]) rfl (Yi υ3 _) ?_;have a4:=a3.i9 (.box bK);have z4:=Xd [ab.box bK] z3 (by simp);have e4:=Yf υ3 (.box bK);have l4:(υ3++[ab.box bK]).length=υ3.length+1:=by simp
   generalize υ3++[ab.box bK]=υ4 at *;refine Qb (cM z4 rfl rfl rfl) (Xg _ (by omega)) ?_;have a5:=a4.cR (b:=υ2.length) (by omega) (.box (aD r.1));have e5:=Zd (x:=.box (aD r.1)) e4 (by simp) (c:=υ2.length) (by omega);have s5:ah (υ4.set υ2.length (.box (aD r.1))) υ2.length=.box (aD r.1):=Xe _ (by omega);have l5:(υ4.set υ2.length (ab.box (aD r.1))).length=υ4.length:=by simp
   generalize υ4.set υ2.length (ab.box (aD r.1))=υ5 at *;refine Qb (cM e5 rfl rfl rfl) (Xg _ (by omega)) ?_;have a6:=a5.cR (b:=υ3.length) (by omega) (.box (eP r.2.1));have s6:=Zd (x:=.box (eP r.2.1)) s5 (by simp) (c:=υ3.length) (by omega);have e6:ah (υ5.set υ3.length (.box (eP r.2.1))) υ3.length=.box (eP r.2.1):=Xe _ (by omega);have l6:(υ5.set υ3.length (ab.box (eP r.2.1))).length=υ5.length:=by simp
   generalize υ5.set υ3.length (ab.box (eP r.2.1))=υ6 at *;have w_:=a6.get Hj (by simp) (by simp);have O7:LV rb l lv υ6:=O6.eo (λk hk _=>a6.2 k hk (by simp));have GJ:Fr rb lv lv σ υ6:=OO.trans (a6.lift rb);have Wb:=Ye Hj (by simp);refine Za (XZ ..) (Zb (λh=>?_) (λh=>?_))
   ·have h:r.2.2≠0:=by simpa using h
    rw[if_neg h] at he;exact hK _ _ ⟨lv,_,GJ,by rw[he]; exact w_,by rw[he],λq=>by rw[he] at q; exact(h q).elim⟩
   ·have h:r.2.2=0:=by simpa using h
    rw[if_pos h] at he;refine Za (v:=cf r.1) (ld s6 rfl) (Za rfl (Za rfl (Qb (cM (row':=dF b r.1 sd tg lv fu (.func (.func F) [] [])) w_ rfl rfl rfl) (Xg _ (Ye w_ (by simp))) (Za (v:=vw r.2.1) (ld (Zd e6 (by simp) (by omega)) rfl) ?_))));refine Qg hP (f:=100) rfl g100.ok rfl ?_;refine tt (Xe _ (Ye w_ (by simp))) (O7.eo (λk hk gV=>Zg _ hk gV)) hn r.2.1 _ (.inl rfl) (λσ' eY q1 q2 q3=>?_);exact hK _ _ ⟨eY,_,(GJ.trans (Fr.set lv _)).trans q1,by rw[he]; exact q2,by rw[he],λ_=>by rw[he]; exact q3⟩
  by_cases hq:(dX s sd tg x.who).2.2=true
  ·obtain⟨hk,jg⟩:=bV hq;rw[if_pos hq];have hw:dX s sd tg x.who=((dX s sd tg x.who).1,(dX s sd tg x.who).2.1,true):=by rw[←hq]
   have G7:n<0→gM b s sd tg x.op x.who n=(0,s,[]):=λh=>by rw[gM,if_neg (by omega)]
   generalize (dX s sd tg x.who).1=id at *;generalize (dX s sd tg x.who).2.1=k at *;by_cases hi:0<id
   ·rw[if_pos hi];refine Za rfl (Za rfl (Za rfl (Za rfl (Ya (Za rfl (Ya (Za rfl (Za rfl (Zb (λh=>?_) (λh=>?_))))))))))
    ·exact stay (G7 (by simpa using h))
    ·have h:¬n<0:=by simpa using h
     refine Qg hP (f:=241) (ys:=[.agg [iv id,iv k],.ai rb 0,iv n]) rfl g241.ok rfl ?_;exact Zda Hi id k n (hc id k n hk) Ec (λυ2 ha=>last id k υ2 hw (by omega) ha)
   ·rw[if_neg hi];have:id=0:=by omega
    subst this;refine Za rfl (Za rfl (Za rfl (Za rfl (Ya (Za rfl (Ya (Za rfl (Za rfl (Zb (λh=>?_) (λh=>?_))))))))))
    ·exact stay (G7 (by simpa using h))
    ·have h:¬n<0:=by simpa using h
     refine Qg hP (f:=242) (ys:=[iv k,.ai rb 0,iv n]) rfl g242.ok rfl ?_;exact Xb5 Hi k n (hc 0 k n hk) Ec (λυ2 ha=>last 0 k υ2 hw (by omega) ha)
  ·rw[if_neg hq];refine Za rfl (Za rfl (Za rfl (Za rfl (Qa rfl (Qa rfl (Za rfl (Xc ?_)))))))
   grind [gM]
 refine Zb (λh=>?_) (λh=>?_)
 ·have h:x.op=1:=by simpa using h
  have r2:ah (τ.set rb (.box (dF b s sd tg lv fu (.func (.func 97) [] [])))) rb=.box (dF b s sd tg lv fu (.func (.func 97) [] [])):=Xe _ iF;refine Za rfl (Za rfl (Qb (cM (row':=dF b s sd tg lv fu (.func (.func 98) [] [])) r2 rfl rfl rfl) (Xg _ (by simpa using iF)) ?_));rw[List.set_set];refine hR _ _ (λid k n hk=>?_) g98.ok.plain (f0.trans (Fr.set lv _)) (Xe _ iF) (Zd n1 (by simp) cL.symm) (l1.eo (λk hk gV=>Zg _ hk gV));rw[n_,if_pos h]; exact c26 b hf bN s hs hm id k n hk
 ·have h:x.op≠1:=by simpa using h
  refine hR _ _ (λid k n hk=>?_) g97.ok.plain (f0.trans (Fr.set lv _)) (Xe _ iF) (Zd n1 (by simp) cL.symm) (l1.eo (λk hk gV=>Zg _ hk gV));rw[n_,if_neg h]; exact c22 b hf bN s hs hm id k n hk
end Go.Ah.Tz
end
section
namespace Go.Ah.Tz
open Go.Proofs.Tryz (prog)
set_option maxRecDepth 100000
structure di (b:Bk) (N C:Nat) (s:St):Prop where
 may:dC b s
 told:TB N s
 af:Zo s≤C
theorem ZdH{b:Bk}{s:St}(h:dC b s):bu 2000000 s:=by
 obtain⟨hd,h0,h1,_,ha⟩:=h;have side:∀x:Sd,iY b x→pc 2000000 x:=by
  intro x k;have k1:=(Yu.1 k.aA).1;have k2:=(Yu.1 k.hand).1;have k3:=(Yu.1 k.aj).1;have k4:=(Yu.1 k.told).1;have k5:=k.ae;exact⟨by omega,by omega,by omega,by omega,by omega⟩
 refine⟨?_,side _ h0,side _ h1⟩;by_cases hp:s.phase=1
 ·have:=(ha.2 hp).2.1; omega
 ·rw[ha.1 hp]; simp
theorem di.le{b:Bk}{N C:Nat}{s:St}(h:di b N C s):bu 2000000 s:=ZdH h.may
theorem di.ta{b:Bk}{N C:Nat}{s:St}(h:di b N C s):bu 1000000000 s:=by
 have hs:=h.le;exact⟨by have:=hs.al; omega,⟨by have:=hs.s0.aA; omega,by have:=hs.s0.hand; omega,by have:=hs.s0.aj; omega,by have:=hs.s0.ae; omega,by have:=hs.s0.told; omega⟩,⟨by have:=hs.s1.aA; omega,by have:=hs.s1.hand; omega,by have:=hs.s1.aj; omega,by have:=hs.s1.ae; omega,by have:=hs.s1.told; omega⟩⟩
theorem di.mono{b:Bk}{N N' C C':Nat}{s:St}(h:di b N C s)(h1:N≤N')(h2:C≤C'):di b N' C' s:=⟨h.may,⟨Nat.le_trans h.told.1 h1,Nat.le_trans h.told.2 h1⟩,by have:=h.af; omega⟩
theorem di.draw{b:Bk}{N C:Nat}{s:St}(h:di b N C s)(hN:N<1000000)(hC:C<1000000){k:Int}(h01:k=0∨k=1)(e:(a_ s k).2.2=0):di b (N+1) C (a_ s k).1:=by
 obtain⟨hM,⟨t0,t1⟩,hc⟩:=h;have hg:s.s0.aj.length<1000000∧s.s1.aj.length<1000000:=by unfold Zo at hc; omega
 rcases h01 with rfl|rfl
 ·obtain⟨k1,k2⟩:=Zb2 hM e hg.1 (by omega) (by omega);refine⟨k1,?_,by rw[k2]; exact hc⟩;rcases TG s e with ⟨_,q⟩|⟨c,l,_,q⟩|⟨c,l,_,_,q⟩<;>rw[q]<;>refine⟨?_,?_⟩<;>simp<;>omega
 ·obtain⟨k1,k2⟩:=Yb2 hM e hg.2 (by omega) (by omega);refine⟨k1,?_,by rw[k2]; exact hc⟩;rcases Sw s e with ⟨_,q⟩|⟨c,l,_,q⟩|⟨c,l,_,_,q⟩<;>rw[q]<;>refine⟨?_,?_⟩<;>simp<;>omega
def YE(k:Int):Nat→St→Int×St×List Ev
 |0,s=>(0,s,[])
 |j+1,s=>if (a_ s k).2.2=0 then ((YE k j (a_ s k).1).1,(YE k j (a_ s k).1).2.1,(a_ s k).2.1::(YE k j (a_ s k).1).2.2) else ((a_ s k).2.2,s,[])
def mH(s:St)(k n:Int):Int×St×List Ev:=
 if (YE k (min (max n 0) 60).toNat s).1=0 then YE k (min (max n 0) 60).toNat s else ((YE k (min (max n 0) 60).toNat s).1,s,[])
theorem RE{b:Bk}{C:Nat}(hC:C<1000000){k:Int}(h01:k=0∨k=1):∀(j:Nat) {N:Nat} {s:St},di b N C s→N+j≤1000000→di b (N+j) C (YE k j s).2.1
 |0,N,s,h,_=>h
 |j+1,N,s,h,hN=>by
  unfold YE;split
  ·rename_i e;have:=RE hC h01 j (h.draw (by omega) hC h01 e) (by omega)
   grind
  ·exact h.mono (by omega) (Nat.le_refl _)
theorem LV.Ar{rb:Nat}{l:List Ev}{lv:aa}{σ:List ab}(h:LV rb l lv σ){k:Nat}{row:List aa}(hk:ah σ k=.box row)(n:Nat):lv≠.sl k 0 n false:=by
 rcases h with ⟨_,h⟩|⟨_,c,rows,_,h,hc,_⟩<;>grind
theorem Fr.back{rb:Nat}{lv eY:aa}{σ τ:List ab}(h:Fr rb lv eY σ τ):Fr rb lv lv σ τ:=⟨h.len,h.uP,λk n e=>.inr ⟨n,e⟩⟩
theorem Fr.get{rb:Nat}{lv eY:aa}{σ τ:List ab}(h:Fr rb lv eY σ τ){l:List Ev}(hl:LV rb l lv σ){k:Nat}{row:List aa}(hk:ah σ k=.box row)(hr:k≠rb):ah τ k=.box row:=by
 rw[h.uP k (Ye hk (by simp)) hr (hl.Ar hk)]; exact hk
def vS(b:Bk)(s:St)(sd:Int)(name:Tx):Int×St×List Ev:=
 if ZU b s sd (fE 0 b.af name).1=true then (0,s,[]) else (0,XG s sd (fE 0 b.af name).1,[⟨2,sd,(fE 0 b.af name).1,s.next,0,0,[]⟩])
theorem di.Ay{b:Bk}{N C:Nat}{s:St}(h:di b N C s){sd:Int}(h01:sd=0∨sd=1)(name:Tx):di b N (C+1) (vS b s sd name).2.1:=by
 unfold vS;split
 ·exact h.mono (Nat.le_refl _) (by omega)
 ·rename_i e;obtain⟨hM,ht,hc⟩:=h;rcases h01 with rfl|rfl
  ·obtain⟨k1,k2⟩:=WU hM (by simpa using e);exact⟨k1,ht,by rw[k2]; omega⟩
  ·obtain⟨k1,k2⟩:=ZbM hM (by simpa using e);exact⟨k1,ht,by rw[k2]; omega⟩
attribute [local irreducible] ak.rd ak.pu ak.wr ak.dr ak.gr ak.gw ak.gl ak.gd ak.opt aH W
set_option maxHeartbeats 4000000
theorem aB.aF{h0:Hp}{rd:List Nat}{x:aa}:aB h0 rd x .aF:=λ_ _ _ _ _ _ _ _ _ _ v _=>.aF _ v
theorem bp.rl{h0:Hp}{rd:List Nat}{zs ws:List aa}(h:bp h0 rd zs ws):∀ {l:List aa},fz l=true→bp h0 rd (l++zs) (l++ws)
 |[],_=>h
 |x::l,hl=>by
  simp_all [bp.cons,aB.ro,bp.rl]
theorem c404(b:Bk)(s:St)(sd tg fu who:Int)(h01:sd=0∨sd=1):PC 102 [.ao (dF b s sd tg .aF fu .aF) 0,ar who] (iv (c_ sd who)):=by
 refine Yc hP g102.ok rfl rfl ?_;rw[H2.e]; unfold g102; dsimp only;refine Za (Zf ..) (Zb (λh=>?_) (λh=>?_))
 ·have h:who=1:=by simpa using h
  refine Za rfl (Za rfl (Za rfl (Za (v:=iv sd) (an rfl) (Za (sV ..) ?_))));rw[IntWalk.i64_in _ (by omega),c_,if_pos h]
 ·have h:who≠1:=by simpa using h
  refine Za rfl (Za rfl (Za rfl (Za (v:=iv sd) (an rfl) ?_)));rw[c_,if_neg h]
theorem ZdJ{σ:List ab}{rb:Nat}{b:Bk}{s:St}{sd tg fu:Int}{mv lv:aa}(hr:ah σ rb=.box (dF b s sd tg lv fu mv))(who:Int):bp (hp σ) [rb] [.ai rb 0,ar who] [.ao (dF b s sd tg .aF fu .aF) 0,ar who]:=by
 refine .cons (aB.box (ZP hr) (by simp) ?_) (.cons (aB.ro rfl) .nil);refine bp.rl (l:=bU b) (bp.rl (l:=aD s) ?_ rfl) rfl;exact .cons (aB.ro rfl) <| .cons (aB.ro rfl) <| .cons aB.aF <| .cons (aB.ro rfl) <| .cons aB.aF .nil
theorem QdR{σ:List ab}{rb:Nat}{b:Bk}{s:St}{sd tg fu:Int}{mv lv:aa}{l:List Ev}(hr:ah σ rb=.box (dF b s sd tg lv fu mv))(hl:LV rb l lv σ)(hn:l.length+60≤1000000000)(h01:sd=0∨sd=1)
 (hf:aS b=true)(bN:Zj b.af)(gK:(cE b).1=0){N C:Nat}(bV:di b N C s)(hN:N+60≤1000000)(hC:C<1000000)(x:Ef)(n:Int){K:aa→List ab→Prop}(hK:∀v σ',Dn rb b sd tg fu l lv σ (mH s (c_ sd x.who) n) v σ'→K v σ'):g63.u VV [.ai rb 0,.agg (aM x),iv n] σ K:=by
 have uI:=Ye hr (by simp);have a0:=dL.k_ σ (.box (aM x));have r0:=Xd [ab.box (aM x)] hr (by simp);have n0:=Yf σ (.box (aM x));have HE:(σ++[ab.box (aM x)]).length=σ.length+1:=by simp
 have cL:σ.length≠rb:=by omega
 rw[H3.e]; unfold g63; dsimp only;refine Qb (vZ _ _) (Yi σ _) ?_;generalize σ++[ab.box (aM x)]=τ0 at *;refine Qe rfl (Qe rfl (Yg (v:=cf s) (ld r0 rfl) (Xi _) (Qe rfl (Qe rfl (Yg (v:=lv) (ld r0 rfl) (Xi _) ?_)))));refine Yg (v:=.ai τ0.length 0) (rd:=[]) (up:=[(τ0.length,.box aU)]) rfl (Yi τ0 _) ?_;have a1:=a0.i9 (.box aU);have r1:=Xd [ab.box aU] r0 (by simp);have n1:=Xd [ab.box aU] n0 (by simp);have z1:=Yf τ0 (.box aU);have oO:(τ0++[ab.box aU]).length=τ0.length+1:=by simp
 generalize τ0++[ab.box aU]=τ1 at *;have G8:τ0.length≠rb:=by omega
 refine Yg (cM z1 rfl rfl rfl) (Xg _ (by omega)) (Xr (by simp[Xn,Zu,Qq,XF,c9,eZ,List.range,List.range.loop,G8,G8.symm]) ?_);have a2:=a1.cR (b:=τ0.length) (by omega) (.box (aD s));have r2:=Zd (x:=.box (aD s)) r1 (by simp) G8;have n2:=Zd (x:=.box (aD s)) n1 (by simp) (c:=τ0.length) (by omega);have s2:ah (τ1.set τ0.length (.box (aD s))) τ0.length=.box (aD s):=Xe _ (by omega);have m9:(τ1.set τ0.length (ab.box (aD s))).length=τ1.length:=by simp
 generalize τ1.set τ0.length (ab.box (aD s))=τ2 at *;obtain⟨j,hj,aag,pE⟩:∃j:Nat,min (max n 0) 60=j∧j≤60∧(min (max n 0) 60).toNat=j:=⟨(min (max n 0) 60).toNat,by omega,by omega,rfl⟩;refine Za (X6 ..) (Za (ZM ..) ?_);rw[hj];unfold mH at hK;rw[pE] at hK;have hk:=JF h01 x.who;generalize GV:c_ sd x.who=k at *;have eX:LV rb l lv τ2:=hl.eo (λk hk _=>a2.2 k hk (by simp));refine Xj (ι:=Nat) (λi vs τ=>∃t e8 kM,vs=[iv i]∧i≤j∧YE k j s=((YE k (j-i) t).1,(YE k (j-i) t).2.1,e8++(YE k (j-i) t).2.2)∧e8.length=i∧di b (N+i) C t∧Fr rb lv kM σ τ∧ah τ rb=.box (dF b t sd tg kM fu mv)∧LV rb (l++e8) kM τ∧ah τ τ0.length=.box (aD s)∧ah τ σ.length=.box (aM x))
  (λi=>j-i) 0 ⟨s,[],lv,rfl,by omega,rfl,rfl,bV,a2.lift rb,r2,by simpa using eX,s2,n2⟩ ?_
 rintro i vs τ again ⟨t,e8,kM,rfl,hi,rY,yz,ht,rX,vG,cp,fT,Ac⟩ aZ;have Pr:=Ye vG (by simp);have aan:=Ye fT (by simp);have aal:=Ye Ac (by simp);refine Za rfl (Zb (λh=>?_) (λh=>?_))
 ·have h:i<j:=by simpa using h
  refine Qe rfl (Qe rfl (Yg (v:=dg b) (ld vG rfl) (Xi _) (Qe rfl (Qe rfl (Yg (v:=cf t) (ld vG rfl) (Xi _) (Qe rfl (Yg (ld Ac (bR x)) (Xi _) ?_)))))));refine YW (rd:=[rb]) (c404 b t sd tg fu x.who h01) rfl g102.ok.plain (ZdJ vG x.who) rfl ?_;rw[GV];have c43:PC 101 [dg b,cf t,iv k] (fQ (a_ t k)):=by
   rcases hk with rfl|rfl
   ·exact Fy b hf bN t ht.le (YA.2 ⟨gK,ht.may⟩)
   ·exact Fz b hf bN t ht.le (YA.2 ⟨gK,ht.may⟩)
  refine Yh c43 rfl g101.ok.plain rfl (Qe rfl (Qe rfl (Qe rfl ?_)));refine Yg (v:=.ai τ.length 0) (rd:=[]) (up:=[(τ.length,.box aU)]) rfl (Yi τ _) ?_;have b1:=dL.k_ τ (.box aU);have z3:=Yf τ (.box aU);have An:(τ++[ab.box aU]).length=τ.length+1:=by simp
  generalize τ++[ab.box aU]=τ3 at *;refine Yg (v:=.ai τ3.length 0) (rd:=[]) (up:=[(τ3.length,.box bK)]) rfl (Yi τ3 _) ?_;have b2:=b1.i9 (.box bK);have z4:=Xd [ab.box bK] z3 (by simp);have e4:=Yf τ3 (.box bK);have Ao:(τ3++[ab.box bK]).length=τ3.length+1:=by simp
  generalize τ3++[ab.box bK]=τ4 at *;refine Yg (cM z4 rfl rfl rfl) (Xg _ (by omega)) ?_;have b3:=b2.cR (b:=τ.length) (by omega) (.box (aD (a_ t k).1));have s5:ah (τ4.set τ.length (.box (aD (a_ t k).1))) τ.length=.box (aD (a_ t k).1):=Xe _ (by omega);have e5:=Zd (x:=.box (aD (a_ t k).1)) e4 (by simp) (c:=τ.length) (by omega);have PO:(τ4.set τ.length (ab.box (aD (a_ t k).1))).length=τ4.length:=by simp
  generalize τ4.set τ.length (ab.box (aD (a_ t k).1))=τ5 at *;refine Yg (cM e5 rfl rfl rfl) (Xg _ (by omega)) ?_;have b4:=b3.cR (b:=τ3.length) (by omega) (.box (eP (a_ t k).2.1));have s6:=Zd (x:=.box (eP (a_ t k).2.1)) s5 (by simp) (c:=τ3.length) (by omega);have e6:ah (τ5.set τ3.length (.box (eP (a_ t k).2.1))) τ3.length=.box (eP (a_ t k).2.1):=Xe _ (by omega);have PQ:(τ5.set τ3.length (ab.box (eP (a_ t k).2.1))).length=τ5.length:=by simp
  generalize τ5.set τ3.length (ab.box (eP (a_ t k).2.1))=τ6 at *;have q1:τ.length≠rb:=by omega
  have q2:τ3.length≠rb:=by omega
  have q3:τ.length≠σ.length:=by omega
  have q4:τ3.length≠σ.length:=by omega
  have q5:τ3.length≠τ.length:=by omega
  refine Xr (by simp[Xn,Zu,Qq,XF,c9,eZ,List.range,List.range.loop,q1,q2,q3,q4,q5,q1.symm,q2.symm,q3.symm,q4.symm,q5.symm]) ?_;have r6:=b4.get vG (by simp) (by simp);have rq:=b4.get fT (by simp) (by simp);have nt6:=b4.get Ac (by simp) (by simp);have l6:LV rb (l++e8) kM τ6:=cp.eo (λk hk _=>b4.2 k hk (by simp));have f6:Fr rb lv kM σ τ6:=rX.trans (b4.lift rb);have oJ:=Ye r6 (by simp);have hd:YE k (j-i) t=if (a_ t k).2.2=0 then ((YE k (j-(i+1)) (a_ t k).1).1,(YE k (j-(i+1)) (a_ t k).1).2.1,(a_ t k).2.1::(YE k (j-(i+1)) (a_ t k).1).2.2) else ((a_ t k).2.2,t,[]):=by
   rw[show j-i=(j-(i+1))+1 from by omega]; rfl
  refine Za (XZ ..) (Zb (λh2=>?_) (λh2=>?_))
  ·have h2:(a_ t k).2.2≠0:=by simpa using h2
   rw[if_neg h2] at hd;have sD:(YE k j s).1=(a_ t k).2.2:=by rw[rY,hd]
   refine Za (v:=cf s) (ld rq rfl) (Za rfl (Za rfl (Qb (cM (row':=dF b s sd tg kM fu mv) r6 rfl rfl rfl) (Xg _ oJ) (Za rfl (Za rfl ?_)))));have r7:ah (τ6.set rb (.box (dF b s sd tg kM fu mv))) rb=.box (dF b s sd tg kM fu mv):=Xe _ oJ;have hlc:∃cs,cellsOf lv=some cs∧cs=[lv]:=by
    rcases hl with ⟨_,e⟩|⟨_,c,rows,_,e,_,_⟩<;>rw[e]<;>exact⟨_,rfl,rfl⟩
   obtain⟨cs,gC,rfl⟩:=hlc;refine Qb (cM (row':=dF b s sd tg lv fu mv) r7 gC rfl rfl) (Xg _ (by simpa using oJ)) ?_;rw[List.set_set];exact hK _ _ ⟨lv,mv,(f6.back).trans (Fr.set lv _),by rw[sD,if_neg h2]; exact Xe _ oJ,by rw[sD,if_neg h2],λq=>by grind⟩
  ·have h2:(a_ t k).2.2=0:=by simpa using h2
   rw[if_pos h2] at hd;refine Za (v:=cf (a_ t k).1) (ld s6 rfl) (Za rfl (Za rfl (Qb (cM (row':=dF b (a_ t k).1 sd tg kM fu mv) r6 rfl rfl rfl) (Xg _ oJ) (Za (v:=vw (a_ t k).2.1) (ld (Zd e6 (by simp) (by omega)) rfl) ?_))));refine Qg hP (f:=100) rfl g100.ok rfl ?_;have l7:LV rb (l++e8) kM (τ6.set rb (.box (dF b (a_ t k).1 sd tg kM fu mv))):=l6.eo (λk hk gV=>Zg _ hk gV);refine tt (Xe _ oJ) l7 (by simp[yz]; omega) (a_ t k).2.1 _ (.inl rfl) (λσ' eY p1 p2 p3=>?_);refine Za (Yj ..) ?_;rw[Qd (n:=i) (by omega)];refine aZ (i+1) _ _ (by omega) ⟨(a_ t k).1,e8++[(a_ t k).2.1],eY,rfl,by omega,by rw[rY,hd]; simp,by simp[yz],?_,(f6.trans (Fr.set kM _)).trans p1,p2,by simpa using p3,?_,?_⟩
   ·exact ht.draw (by omega) hC hk h2
   ·exact p1.get l7 (Zd rq (by simp) G8.symm) G8
   ·exact p1.get l7 (Zd nt6 (by simp) cL.symm) cL
 ·have h:i=j:=by simp at h; omega
  subst h;rw[Nat.sub_self] at rY;have rY:YE k i s=(0,t,e8):=by rw[rY]; simp[YE]
  exact hK _ _ ⟨kM,mv,rX,by rw[rY]; exact vG,by rw[rY]; rfl,λ_=>by rw[rY]; exact cp⟩
end Go.Ah.Tz
end
section
namespace Go.Ah.Tz
open Go.Proofs.Tryz (prog)
set_option maxRecDepth 100000
attribute [local irreducible] ak.rd ak.pu ak.wr ak.dr ak.gr ak.gw ak.gl ak.gd ak.opt aH W
set_option maxHeartbeats 4000000
theorem XcR(b:Bk)(s:St)(k c:Int):∃st ev q,wh b s k c=nN st ev (.bool q)∧((q=false∧ZU b s k c=true)∨(q=true∧ZU b s k c=false∧st=XG s k c∧ev=⟨2,k,c,s.next,0,0,[]⟩)):=by
 unfold wh;by_cases h:ZU b s k c=true
 ·rw[if_pos h]; exact⟨_,_,_,rfl,.inl ⟨rfl,h⟩⟩
 ·rw[if_neg h]; exact⟨_,_,_,rfl,.inr ⟨rfl,by simpa using h,rfl,rfl⟩⟩
theorem Xds{σ:List ab}{rb:Nat}{b:Bk}{s:St}{sd tg fu:Int}{mv lv:aa}{l:List Ev}(hr:ah σ rb=.box (dF b s sd tg lv fu mv))(hl:LV rb l lv σ)(hn:l.length≤1000000000)(h01:sd=0∨sd=1)
 (hf:aS b=true)(bN:Zj b.af)(gK:(cE b).1=0){N C:Nat}(bV:di b N C s)(wK:b.af.length≤gp)(x:Ef)(n:Int){K:aa→List ab→Prop}(hK:∀v σ',Dn rb b sd tg fu l lv σ (vS b s sd x.name) v σ'→K v σ'):g68.u VV [.ai rb 0,.agg (aM x),iv n] σ K:=by
 have uI:=Ye hr (by simp);have a0:=dL.k_ σ (.box (aM x));have r0:=Xd [ab.box (aM x)] hr (by simp);have n0:=Yf σ (.box (aM x));have HE:(σ++[ab.box (aM x)]).length=σ.length+1:=by simp
 rw[H3.e]; unfold g68; dsimp only;refine Qb (vZ _ _) (Yi σ _) ?_;generalize σ++[ab.box (aM x)]=τ at *;refine Za rfl (Za rfl (Za (v:=dg b) (ld r0 rfl) (Za rfl (Za (v:=.str x.name) (ld n0 (by rw[XC]; rfl)) ?_))));refine Xb (c224 b wK x.name) rfl g105.ok.plain rfl (Za rfl (Za rfl ?_));unfold vS at hK;generalize (fE 0 b.af x.name).1=c at hK ⊢;refine Qe rfl (Qe rfl (Yg (v:=dg b) (ld r0 rfl) (Xi _) (Qe rfl (Qe rfl (Yg (v:=cf s) (ld r0 rfl) (Xi _) (Qe rfl (Qe rfl (Qe rfl (Yg (v:=iv sd) (ld r0 rfl) (Xi _) ?_)))))))));have c46:PC 106 [dg b,cf s,iv sd,iv c] (wh b s sd c):=by
  rcases h01 with rfl|rfl
  ·exact FA b hf bN s bV.le (YA.2 ⟨gK,bV.may⟩) c
  ·exact FB b hf bN s bV.le (YA.2 ⟨gK,bV.may⟩) c
 obtain⟨st,ev,q,he,hq⟩:=XcR b s sd c;rw[he] at c46;refine Yh c46 rfl g106.ok.plain rfl (Qe rfl (Qe rfl (Qe rfl ?_)));refine Yg (v:=.ai τ.length 0) (rd:=[]) (up:=[(τ.length,.box aU)]) rfl (Yi τ _) ?_;have b1:=a0.i9 (.box aU);have b1':=dL.k_ τ (.box aU);have z3:=Yf τ (.box aU);have An:(τ++[ab.box aU]).length=τ.length+1:=by simp
 generalize τ++[ab.box aU]=τ3 at *;refine Yg (v:=.ai τ3.length 0) (rd:=[]) (up:=[(τ3.length,.box bK)]) rfl (Yi τ3 _) ?_;have b2:=b1.i9 (.box bK);have b2':=b1'.i9 (.box bK);have z4:=Xd [ab.box bK] z3 (by simp);have e4:=Yf τ3 (.box bK);have Ao:(τ3++[ab.box bK]).length=τ3.length+1:=by simp
 generalize τ3++[ab.box bK]=τ4 at *;refine Yg (cM z4 rfl rfl rfl) (Xg _ (by omega)) ?_;have b3:=b2.cR (b:=τ.length) (by omega) (.box (aD st));have b3':=b2'.cR (b:=τ.length) (by omega) (.box (aD st));have s5:ah (τ4.set τ.length (.box (aD st))) τ.length=.box (aD st):=Xe _ (by omega);have e5:=Zd (x:=.box (aD st)) e4 (by simp) (c:=τ.length) (by omega);have PO:(τ4.set τ.length (ab.box (aD st))).length=τ4.length:=by simp
 generalize τ4.set τ.length (ab.box (aD st))=τ5 at *;refine Yg (cM e5 rfl rfl rfl) (Xg _ (by omega)) ?_;have b4:=b3.cR (b:=τ3.length) (by omega) (.box (eP ev));have b4':=b3'.cR (b:=τ3.length) (by omega) (.box (eP ev));have s6:=Zd (x:=.box (eP ev)) s5 (by simp) (c:=τ3.length) (by omega);have e6:ah (τ5.set τ3.length (.box (eP ev))) τ3.length=.box (eP ev):=Xe _ (by omega);have PQ:(τ5.set τ3.length (ab.box (eP ev))).length=τ5.length:=by simp
 generalize τ5.set τ3.length (ab.box (eP ev))=τ6 at *;have q1:τ.length≠rb:=by omega
 have q2:τ3.length≠rb:=by omega
 have q3:τ.length≠σ.length:=by omega
 have q4:τ3.length≠σ.length:=by omega
 have q5:τ3.length≠τ.length:=by omega
 refine Xr (by simp[Xn,Zu,Qq,XF,c9,eZ,List.range,List.range.loop,q1,q2,q3,q4,q5,q1.symm,q2.symm,q3.symm,q4.symm,q5.symm]) ?_;have r6:=b4'.get r0 (by simp) (by simp);have l6:LV rb l lv τ6:=hl.eo (λk hk _=>b4.2 k hk (by simp));have f6:Fr rb lv lv σ τ6:=b4.lift rb;have oJ:=Ye r6 (by simp);rcases hq with ⟨rfl,hq⟩|⟨rfl,hq,rfl,rfl⟩
 ·refine Yd ?_;exact hK _ _ ⟨lv,mv,f6,by rw[if_pos hq]; exact r6,by rw[if_pos hq],λ_=>by rw[if_pos hq]; simpa using l6⟩
 ·rw[if_neg (by simp[hq])] at hK;refine Xc ?_;refine Za (v:=cf (XG s sd c)) (ld s6 rfl) (Za rfl (Za rfl (Qb (cM (row':=dF b (XG s sd c) sd tg lv fu mv) r6 rfl rfl rfl) (Xg _ oJ) (Za (v:=vw ⟨2,sd,c,s.next,0,0,[]⟩) (ld (Zd e6 (by simp) (by omega)) rfl) ?_))));refine Qg hP (f:=100) rfl g100.ok rfl ?_;refine tt (Xe _ oJ) (l6.eo (λk hk gV=>Zg _ hk gV)) hn _ _ (.inl rfl) (λσ' eY p1 p2 p3=>?_);exact hK _ _ ⟨eY,mv,(f6.trans (Fr.set lv _)).trans p1,p2,rfl,λ_=>p3⟩
end Go.Ah.Tz
end
section
namespace Go.Ah.Tz
open Go.Proofs.Tryz (prog)
set_option maxRecDepth 100000
def ki(b:Bk)(s:St)(sd tg op who:Int)(name:Tx)(n:Int):Int×St×List Ev:=
 if op=0∨op=1 then gM b s sd tg op who n else if op=2 then mH s (c_ sd who) n else if op=3 then ez s sd n
 else if op=4 then c6 s (c_ sd who) else if op=5 then hZ s sd n else if op=6 then oh s (c_ sd who) else vS b s sd name
def gk(op:Int):Int:=if op=5 then 0 else 1
mutual
def dW (b:Bk) (sd tg:Int):Ef→St→Int→Int×St×Int×List Ev
 |.mk op who n name c bM bQ,s,fu=>
  if op=8 then (if (tm b c&&jO b s sd tg c)=true then runs b sd tg bM s fu else runs b sd tg bQ s fu)
  else if fu<gk op then (190,s,fu,[])
  else ((ki b s sd tg op who name (fX b s sd tg n)).1,(ki b s sd tg op who name (fX b s sd tg n)).2.1,
   (if (ki b s sd tg op who name (fX b s sd tg n)).1=0 then fu - gk op else fu),(ki b s sd tg op who name (fX b s sd tg n)).2.2)
def runs (b:Bk) (sd tg:Int):List Ef→St→Int→Int×St×Int×List Ev
 |[],s,fu=>(0,s,fu,[])
 |x::l,s,fu=>
  if (dW b sd tg x s fu).1=0 then
   ((runs b sd tg l (dW b sd tg x s fu).2.1 (dW b sd tg x s fu).2.2.1).1,(runs b sd tg l (dW b sd tg x s fu).2.1 (dW b sd tg x s fu).2.2.1).2.1,
    (runs b sd tg l (dW b sd tg x s fu).2.1 (dW b sd tg x s fu).2.2.1).2.2.1,(dW b sd tg x s fu).2.2.2 ++ (runs b sd tg l (dW b sd tg x s fu).2.1 (dW b sd tg x s fu).2.2.1).2.2.2)
  else dW b sd tg x s fu
end
theorem S4(b:Bk)(sd tg:Int)(x:Ef)(s:St)(fu:Int):dW b sd tg x s fu =
  if x.op=8 then (if (tm b x.c&&jO b s sd tg x.c)=true then runs b sd tg x.bM s fu else runs b sd tg x.bQ s fu)
  else if fu<gk x.op then (190,s,fu,[])
  else ((ki b s sd tg x.op x.who x.name (fX b s sd tg x.n)).1,(ki b s sd tg x.op x.who x.name (fX b s sd tg x.n)).2.1,
   (if (ki b s sd tg x.op x.who x.name (fX b s sd tg x.n)).1=0 then fu - gk x.op else fu),(ki b s sd tg x.op x.who x.name (fX b s sd tg x.n)).2.2):=by
 cases x; rw[dW]; rfl
theorem R'{kd:Int}{fP:Int→Int×Int}{fU:Th→Int×Int}{s:St}{id k:Int}{N:Nat}(h:TB N s)(h01:k=0∨k=1)(e:(jH kd fP fU s id k).2.2=0):TB N (jH kd fP fU s id k).1:=by
 have z:∀(x:Int),x≠0→(je,kS,x).2.2=0→False:=λx hx h=>hx h;unfold jH at e ⊢;by_cases jg:id=0
 ·rw[if_pos jg] at e ⊢;unfold nE at e ⊢;split at e
  ·rename_i hw;rw[if_pos hw];rcases h01 with rfl|rfl<;>exact h
  ·exact(z 171 (by decide) e).elim
 rw[if_neg jg] at e ⊢;by_cases lp:id<0
 ·simp_all
 rw[if_neg lp] at e ⊢;cases q0:gU s.s0.ae id with
 |some i=>
  rw[q0] at e;simp only at e ⊢;unfold lj at e ⊢;split at e
  ·rename_i hw;rw[if_pos hw]; exact h
  ·exact(z 171 (by decide) e).elim
 |none=>
  rw[q0] at e;simp only at e ⊢;cases q1:gU s.s1.ae id with
  |some i=>
   rw[q1] at e;simp only at e ⊢;unfold lj at e ⊢;split at e
   ·rename_i hw;rw[if_pos hw]; exact h
   ·exact(z 171 (by decide) e).elim
  |none=>simp_all
theorem di.mv{b:Bk}{N C:Nat}{s:St}(h:di b N C s){op id k n:Int}(h01:k=0∨k=1)(e:(n_ op b s id k n).2.2=0):di b N C (n_ op b s id k n).1:=by
 unfold n_ at e ⊢;split at e
 ·rename_i q;rw[if_pos q];obtain⟨k1,k2,_⟩:=Yct h.may h01 e;exact⟨k1,R' h.told h01 e,by rw[k2]; exact h.af⟩
 ·rename_i q;rw[if_neg q];obtain⟨k1,k2,_⟩:=Qcs h.may h01 e;exact⟨k1,R' h.told h01 e,by rw[k2]; exact h.af⟩
theorem di.nL{b:Bk}{N C:Nat}{s:St}(h:di b N C s){sd:Int}(h01:sd=0∨sd=1)(tg op who n:Int):di b N C (gM b s sd tg op who n).2.1:=by
 unfold gM;split
 ·rename_i q;split
  ·rename_i e;exact h.mv (UA h01 q.1).1 e
  ·exact h
 ·exact h
theorem W0{n:Nat}{l l':List Int}{most most':Int}(h:Zn n l most=true)(hl:∀c∈l',c∈l)(hm:(l'.length:Int)≤most'):Zn n l' most'=true:=by
 simp_all [Yu]
theorem XbZ{n:Nat}{l m:List Int}{most most':Int}(h:Zn n l most=true)(k:Zn n m most'=true)(hm:((l.length+m.length:Nat):Int)≤most):Zn n (l++m) most=true:=by
 grind [Yu]
theorem iY.tell{b:Bk}{x:Sd}(h:iY b x){m:List Int}{most:Int}(hm:Zn b.af.length m most=true)(hl:x.told.length+m.length≤1000000):iY b { x with told:=x.told++m }:=
 ⟨h.aJ,h.aW,h.most,h.aA,h.hand,h.aj,XbZ h.told hm (by omega),h.ae⟩
theorem di.jC{b:Bk}{N C:Nat}{s:St}(h:di b N C s){m:List Int}{most:Int}(hm:Zn b.af.length m most=true)(hl:N+m.length≤1000000){i:Int}(h01:i=0∨i=1):di b (N+m.length) C (Tz.jC m s i):=by
 obtain⟨hM,ht,hc⟩:=h;have Wd:=ht.tell m h01;obtain⟨t0,t1⟩:=ht;rcases h01 with rfl|rfl
 ·exact⟨⟨hM.hd,hM.s0.tell hm (by omega),hM.s1,hM.un,hM.at_⟩,Wd,hc⟩
 ·exact⟨⟨hM.hd,hM.s0,hM.s1.tell hm (by omega),hM.un,hM.at_⟩,Wd,hc⟩
theorem di.rG{b:Bk}{N C:Nat}{s:St}(h:di b N C s){m:List Int}{most:Int}(hm:Zn b.af.length m most=true)(hl:N+(m.length+m.length)≤1000000):di b (N+(m.length+m.length)) C (dB s m [0,1]):=by
 have:=(h.jC hm (by omega) (i:=0) (.inl rfl)).jC hm (by omega) (i:=1) (.inr rfl);rw[Nat.add_assoc] at this;exact this
theorem di.N8{b:Bk}{N C:Nat}{s:St}(h:di b N C s){sd:Int}(h01:sd=0∨sd=1)(n:Int):di b N C (ez s sd n).2.1:=by
 unfold ez;split
 ·exact h
 split
 ·exact h
 ·rename_i q1 q2;obtain⟨hM,ht,hc⟩:=h;rcases h01 with rfl|rfl
  ·have:=hM.s0.aW;have hw:=tp.1 this.2;have q2:¬1000000<s.s0.aW+n:=q2;exact⟨⟨hM.hd,⟨hM.s0.aJ,⟨by show 0≤s.s0.aW+n; omega,tp.2 ⟨by show -1000000≤s.s0.aW+n; omega,by show s.s0.aW+n≤1000000; omega⟩⟩,hM.s0.most,hM.s0.aA,hM.s0.hand,hM.s0.aj,hM.s0.told,hM.s0.ae⟩,hM.s1,hM.un,hM.at_⟩,ht,hc⟩
  ·have:=hM.s1.aW;have hw:=tp.1 this.2;have q2:¬1000000<s.s1.aW+n:=q2;exact⟨⟨hM.hd,hM.s0,⟨hM.s1.aJ,⟨by show 0≤s.s1.aW+n; omega,tp.2 ⟨by show -1000000≤s.s1.aW+n; omega,by show s.s1.aW+n≤1000000; omega⟩⟩,hM.s1.most,hM.s1.aA,hM.s1.hand,hM.s1.aj,hM.s1.told,hM.s1.ae⟩,hM.un,hM.at_⟩,ht,hc⟩
theorem di.drop{b:Bk}{N C:Nat}{s:St}(h:di b N C s)(hN:N+2≤1000000)(hC:C<1000000){i:Int}(h01:i=0∨i=1):di b (N+2) C (c6 s i).2.1:=by
 unfold c6;obtain⟨hM,ht,hc⟩:=h;have hg:s.s0.aj.length<1000000∧s.s1.aj.length<1000000:=by unfold Zo at hc; omega
 rcases h01 with rfl|rfl
 ·show di b (N+2) C (match s.s0.hand with | []=>_|c::h=>_:Int×St×List Ev).2.1;cases hh:s.s0.hand with
  |nil=>exact di.mono ⟨hM,ht,hc⟩ (by omega) (Nat.le_refl _)
  |cons c r=>
   have hx:=hM.s0.hand;rw[hh] at hx;obtain⟨x1,x2⟩:=ZQ hx;refine di.rG (N:=N) (m:=[c]) (most:=1) (s:=s.put 0 { s.s0 with hand:=r,aj:=s.s0.aj++[c] }) ⟨⟨hM.hd,⟨hM.s0.aJ,hM.s0.aW,hM.s0.most,hM.s0.aA,x1,Yr hM.s0.aj x2 (by omega),hM.s0.told,hM.s0.ae⟩,hM.s1,hM.un,hM.at_⟩,ht,?_⟩ ?_ (by simpa using hN)
   ·have:Zo (s.put 0 { s.s0 with hand:=r,aj:=s.s0.aj++[c] })=Zo s:=by simp[Zo,St.put,hh]; omega
    rw[this]; exact hc
   ·rw[Yu]; simpa using x2
 ·show di b (N+2) C (match s.s1.hand with | []=>_|c::h=>_:Int×St×List Ev).2.1;cases hh:s.s1.hand with
  |nil=>exact di.mono ⟨hM,ht,hc⟩ (by omega) (Nat.le_refl _)
  |cons c r=>
   have hx:=hM.s1.hand;rw[hh] at hx;obtain⟨x1,x2⟩:=ZQ hx;refine di.rG (N:=N) (m:=[c]) (most:=1) (s:=s.put 1 { s.s1 with hand:=r,aj:=s.s1.aj++[c] }) ⟨⟨hM.hd,hM.s0,⟨hM.s1.aJ,hM.s1.aW,hM.s1.most,hM.s1.aA,x1,Yr hM.s1.aj x2 (by omega),hM.s1.told,hM.s1.ae⟩,hM.un,hM.at_⟩,ht,?_⟩ ?_ (by simpa using hN)
   ·have:Zo (s.put 1 { s.s1 with hand:=r,aj:=s.s1.aj++[c] })=Zo s:=by simp[Zo,St.put,hh]; omega
    rw[this]; exact hc
   ·rw[Yu]; simpa using x2
theorem di.rows{b:Bk}{N C:Nat}{s:St}(h:di b N C s){i:Int}(h01:i=0∨i=1):Zn b.af.length (s.side i).aA 60=true∧Zn b.af.length (s.side i).hand 10=true:=by
 rcases h01 with rfl|rfl
 ·exact⟨h.may.s0.aA,h.may.s0.hand⟩
 ·exact⟨h.may.s1.aA,h.may.s1.hand⟩
theorem di.look{b:Bk}{N C:Nat}{s:St}(h:di b N C s)(hN:N+60≤1000000){sd:Int}(h01:sd=0∨sd=1)(n:Int):di b (N+60) C (hZ s sd n).2.1:=by
 unfold hZ;have hd:=(h.rows h01).1;generalize gC:(s.side sd).aA.take (min (max n 0) (s.side sd).aA.length).toNat=cs;have m8:∀c∈cs,c∈(s.side sd).aA:=λc hc=>by grind
 have hl:cs.length≤60:=by
  have:=(Yu.1 hd).1
  grind
 cases cs with
 |nil=>exact h.mono (by omega) (Nat.le_refl _)
 |cons c cs=>exact(h.jC (m:=c::cs) (W0 (most':=60) hd m8 (by omega)) (by omega) h01).mono (by omega) (Nat.le_refl _)
theorem di.H'{b:Bk}{N C:Nat}{s:St}(h:di b N C s)(hN:N+60≤1000000){i:Int}(h01:i=0∨i=1):di b (N+60) C (oh s i).2.1:=by
 have hd:=(h.rows h01).2;have:=(Yu.1 hd).1;exact(h.rG hd (by omega)).mono (by omega) (Nat.le_refl _)
theorem SW(k:Int):∀(j:Nat) (s:St),(YE k j s).2.2.length≤j
 |0,s=>by simp[YE]
 |j+1,s=>by
  unfold YE;split
  ·have:=SW k j (a_ s k).1;simp; omega
  ·simp
theorem XdZ{b:Bk}{N C:Nat}{s:St}(h:di b N C s)(hN:N+60≤1000000)(hC:C<1000000){sd:Int}(h01:sd=0∨sd=1)(tg op who:Int)(name:Tx)(n:Int) :
  di b (N+60) (C+1) (ki b s sd tg op who name n).2.1∧(ki b s sd tg op who name n).2.2.length≤60:=by
 have hw:=JF h01 who;unfold ki;split
 ·refine⟨(h.nL h01 tg op who n).mono (by omega) (by omega),?_⟩
  grind [gM]
 split
 ·have hj:(min (max n 0) 60).toNat≤60:=by omega
  have:=SW (c_ sd who) (min (max n 0) 60).toNat s;unfold mH;split
  ·exact⟨(RE hC hw _ h (by omega)).mono (by omega) (by omega),by omega⟩
  ·exact⟨h.mono (by omega) (by omega),by simp⟩
 split
 ·refine⟨(h.N8 h01 n).mono (by omega) (by omega),?_⟩
  grind [ez]
 split
 ·refine⟨(h.drop (by omega) hC hw).mono (by omega) (by omega),?_⟩;unfold c6;split<;>simp
 split
 ·refine⟨(h.look (by omega) h01 n).mono (by omega) (by omega),?_⟩;unfold hZ;split<;>simp
 split
 ·exact⟨(h.H' (by omega) hw).mono (by omega) (by omega),by simp[oh]⟩
 ·refine⟨(h.Ay h01 name).mono (by omega) (Nat.le_refl _),?_⟩;unfold vS;split<;>simp
mutual
theorem RZ {b:Bk} {sd tg:Int} (h01:sd=0∨sd=1):∀(x:Ef) {N C:Nat} {s:St} (fu:Int),di b N C s→N+60*(jk x).length≤1000000→C+(jk x).length≤1000000 →
  di b (N+60*(jk x).length) (C+(jk x).length) (dW b sd tg x s fu).2.1∧(dW b sd tg x s fu).2.2.2.length≤60*(jk x).length
 |.mk op who n name c bM bQ,N,C,s,fu,h,hN,hC=>by
  rw[dW]
  have h1:1≤(jk (.mk op who n name c bM bQ)).length:=by simp[jk]
  split
  ·rename_i h8
   have hl:(bS bM).length+(bS bQ).length≤(jk (.mk op who n name c bM bQ)).length:=by simp[jk,h8]; omega
   split
   ·obtain⟨q1,q2⟩:=Dy h01 bM fu h (by omega) (by omega)
    exact⟨q1.mono (by omega) (by omega),by omega⟩
   ·obtain⟨q1,q2⟩:=Dy h01 bQ fu h (by omega) (by omega)
    exact⟨q1.mono (by omega) (by omega),by omega⟩
  split
  ·exact⟨h.mono (by omega) (by omega),by simp⟩
  ·obtain⟨q1,q2⟩:=XdZ h (by omega) (by omega) h01 tg op who name (fX b s sd tg n)
   exact⟨q1.mono (by omega) (by omega),Nat.le_trans q2 (by omega)⟩
theorem Dy {b:Bk} {sd tg:Int} (h01:sd=0∨sd=1):∀(l:List Ef) {N C:Nat} {s:St} (fu:Int),di b N C s→N+60*(bS l).length≤1000000→C+(bS l).length≤1000000 →
  di b (N+60*(bS l).length) (C+(bS l).length) (runs b sd tg l s fu).2.1∧(runs b sd tg l s fu).2.2.2.length≤60*(bS l).length
 |[],N,C,s,fu,h,hN,hC=>by rw[runs]; exact⟨h.mono (by omega) (by omega),by simp⟩
 |x::l,N,C,s,fu,h,hN,hC=>by
  rw[runs]
  have hl:(bS (x::l)).length=(jk x).length+(bS l).length:=by simp[bS]
  obtain⟨q1,q2⟩:=RZ h01 x fu h (by omega) (by omega)
  split
  ·obtain⟨p1,p2⟩:=Dy h01 l (dW b sd tg x s fu).2.2.1 q1 (by omega) (by omega)
   refine⟨p1.mono (by omega) (by omega),?_⟩
   simp only[List.length_append]; omega
  ·exact⟨q1.mono (by omega) (by omega),by omega⟩
end
end Go.Ah.Tz
end
section
namespace Go.Ah.Tz
open Go.Proofs.Tryz (prog)
set_option maxRecDepth 100000
mutual
theorem RK (b:Bk) (sd tg:Int):∀(x:Ef) (s:St) (fu:Int),0≤fu→0≤(dW b sd tg x s fu).2.2.1∧(dW b sd tg x s fu).2.2.1≤fu
 |.mk op who n name c bM bQ,s,fu,h=>by
  rw[dW]
  split
  ·split<;>simp_all [I6]
  grind [gk]
theorem I6 (b:Bk) (sd tg:Int):∀(l:List Ef) (s:St) (fu:Int),0≤fu→0≤(runs b sd tg l s fu).2.2.1∧(runs b sd tg l s fu).2.2.1≤fu
 |[],s,fu,h=>by rw[runs]; exact⟨h,Int.le_refl _⟩
 |x::l,s,fu,h=>by
  have h1:=RK b sd tg x s fu h
  rw[runs]
  split
  ·have h2:=I6 b sd tg l (dW b sd tg x s fu).2.1 (dW b sd tg x s fu).2.2.1 h1.1
   grind
  ·exact h1
end
theorem Vy{b:Bk}{s:St}(h:dC b s):I1 b s:=by
 have go:∀x:Sd,iY b x→∀c,c∈x.aA∨c∈x.hand→0≤c∧c.toNat<b.af.length:=by
  intro x k c hc;have:0≤c∧c<(b.af.length:Int):=by
   rcases hc with hc|hc
   ·exact(Yu.1 k.aA).2 c hc
   ·exact(Yu.1 k.hand).2 c hc
  omega
 intro k c hc;unfold kR at hc;split at hc
 ·exact go _ h.s0 c hc
 ·exact go _ h.s1 c hc
theorem Zdn{n:Nm}(h:dQ n=true):eT true n=true∧lP n≤200:=by
 simp only[dQ,Bool.and_eq_true,decide_eq_true_eq] at h;obtain⟨h1,h2,h3,h4⟩:=h;have h4:=List.length_eq_zero_iff.1 h4;constructor
 ·rw[Jg,h1,h2,h3,h4]; rfl
 ·have:(o8 n).length=1:=by cases n; simp_all [Nm.kids,o8,nd]
  rw[E6,this]; decide
theorem Xdk{cs:List Cd}{d:Int}{x:Ef}(h:nF cs true d x=true)(h8:x.op≠8)(hp:(jk x).length≤200):eT true x.n=true∧lP x.n≤200:=by
 rw[zg,if_neg h8] at h;simp only[Bool.and_eq_true] at h;obtain⟨_,_,_,_,_,h,_⟩:=h;by_cases hc:bd x.op=true
 ·rw[if_pos hc] at h;refine⟨h,?_⟩;have:(o8 x.n).length≤(jk x).length:=by
   cases x<;>simp_all [Ef.op,jk,Ef.n]
  rw[E6]; omega
 simp_all [Zdn]
theorem QdE{cs:List Cd}{d:Int}{x:Ef}(h:nF cs true d x=true)(h8:x.op=8):dp cs true (d+1) x.bM=true∧dp cs true (d+1) x.bQ=true:=by
 simp_all [bT,zg]
theorem SK{cs:List Cd}{t:Bool}{d:Int}:∀ {l:List Ef},dp cs t d l=true→∀x∈l,nF cs t d x=true
 |a::l,h,x,hx=>by
  simp only[dp,Bool.and_eq_true] at h;simp only[List.mem_cons] at hx;rcases hx with rfl|hx
  ·exact h.1
  ·exact SK h.2 x hx
theorem HG:(0:Int)≠190:=by decide
theorem Tg(kd:Int)(fP:Int→Int×Int)(fU:Th→Int×Int)(s:St)(id k:Int):(jH kd fP fU s id k).2.2≠190:=by
 grind [jH,nE,lj]
theorem XcO(s:St)(k:Int):(a_ s k).2.2≠190:=by
 grind [a_]
theorem T0(k:Int):∀(j:Nat) (s:St),(YE k j s).1≠190
 |0,s=>by show (0:Int)≠190; omega
 |j+1,s=>by
  unfold YE;split
  ·exact T0 k j _
  ·exact XcO s k
theorem ZdI(b:Bk)(s:St)(sd tg op who:Int)(name:Tx)(n:Int):(ki b s sd tg op who name n).1≠190:=by
 unfold ki;split
 ·unfold gM;split
  ·split
   ·omega
   ·unfold n_;split
    ·exact Tg _ _ _ _ _ _
    ·exact Tg _ _ _ _ _ _
  omega
 split
 ·grind [mH,T0]
 split
 ·grind [ez]
 split
 ·grind [c6]
 split
 ·grind [hZ]
 split
 ·(first|exact HG|exact Wu|exact Wv)
 grind [vS]
def I0(rb:Nat)(b:Bk)(sd tg:Int)(l:List Ev)(lv:aa)(σ:List ab)(r:Int×St×Int×List Ev)(v:aa)(σ':List ab):Prop:=
 ∃eY se,Fr rb lv eY σ σ'∧ah σ' rb=.box (dF b r.2.1 sd tg eY r.2.2.1 se)∧v=iv r.1∧(r.1=0∨r.1=190→LV rb (l++r.2.2.2) eY σ')
@[reducible] def pk(rb:Nat):List aa:=[.func (.func 62) [.ai rb 0] [],.func (.func 62) [.ai rb 0] [],.func (.func 63) [.ai rb 0] [],.func (.func 64) [.ai rb 0] [],.func (.func 65) [.ai rb 0] [],.func (.func 66) [.ai rb 0] [],.func (.func 67) [.ai rb 0] [],.func (.func 68) [.ai rb 0] []]
def vU(b:Bk)(wA:List Cd)(sd tg:Int)(l:List Ef):Prop:=∀(σ:List ab) (rb:Nat) (s:St) (fu:Int) (mv lv:aa) (e8:List Ev) (N C:Nat) (d:Int) (K:aa→List ab→Prop),
 ah σ rb=.box (dF b s sd tg lv fu mv)→LV rb e8 lv σ→bG l=true→dp wA true d l=true→(bS l).length≤200→di b N C s→N+60*(bS l).length≤1000000→C+(bS l).length≤1000000 →
 e8.length+60*(bS l).length≤1000000→0≤fu→fu≤1000→(∀v σ',I0 rb b sd tg e8 lv σ (runs b sd tg l s fu) v σ'→K v σ')→g36.u VV [.ai rb 0,ic l] σ K
attribute [local irreducible] ak.rd ak.pu ak.wr ak.dr ak.gr ak.gw ak.gl ak.gd ak.opt aH W
set_option maxHeartbeats 8000000
theorem Sh(b:Bk)(wA:List Cd)(sd tg:Int)(h01:sd=0∨sd=1)(hf:aS b=true)(bN:Zj b.af)(gK:(cE b).1=0)(m:Nat)(IH:∀l:List Ef,(bS l).length<m→vU b wA sd tg l):∀l:List Ef,(bS l).length≤m→vU b wA sd tg l:=by
 intro l hlm σ rb s fu mv lv e8 N C d K hr hl eh bV hW hS hN hC hE GF zR hK;have uI:=Ye hr (by simp);have hlen:=YH eh;rw[cO] at hlen;have wK:b.af.length≤gp:=by
  simp only[aS,QE,Bool.and_eq_true,decide_eq_true_eq] at hf; exact hf.1.1
 rw[H2.e]; unfold g36; dsimp only;refine Za rfl (Za rfl (Za rfl (Za rfl (Za rfl (Za rfl (Za rfl (Za rfl (Za (v:=.agg (pk rb)) rfl ?_))))))));refine Qb (v:=.ai σ.length 0) (rd:=[]) (up:=[(σ.length,.box [.bx,.bx,.bx,.bx,.bx,.bx,.bx,.bx])]) rfl (Yi σ _) ?_;have a1:=dL.k_ σ (.box [.bx,.bx,.bx,.bx,.bx,.bx,.bx,.bx]);have r1:=Xd [ab.box [.bx,.bx,.bx,.bx,.bx,.bx,.bx,.bx]] hr (by simp);have z1:=Yf σ (.box [.bx,.bx,.bx,.bx,.bx,.bx,.bx,.bx]);have oO:(σ++[ab.box [.bx,.bx,.bx,.bx,.bx,.bx,.bx,.bx]]).length=σ.length+1:=by simp
 generalize σ++[ab.box [.bx,.bx,.bx,.bx,.bx,.bx,.bx,.bx]]=σ1 at *;refine Qb (cM (row':=pk rb) z1 rfl rfl rfl) (Xg _ (by omega)) (Za (v:=iv l.length) (rd:=[]) (by simp[Yp]) ?_);have a2:=a1.cR (b:=σ.length) (by omega) (.box (pk rb));have cL:σ.length≠rb:=by omega
 have r2:=Zd (x:=.box (pk rb)) r1 (by simp) cL;have c2:ah (σ1.set σ.length (.box (pk rb))) σ.length=.box (pk rb):=Xe _ (by omega);generalize σ1.set σ.length (.box (pk rb))=σ2 at *;have l2:LV rb e8 lv σ2:=hl.eo (λk hk _=>a2.2 k hk (by simp));refine Xj (ι:=Nat) (λi vs τ=>∃ t fi lX kM HF Ni Ci,vs=[iv i,iv 0]∧i≤l.length∧runs b sd tg l s fu=((runs b sd tg (l.drop i) t fi).1,(runs b sd tg (l.drop i) t fi).2.1,(runs b sd tg (l.drop i) t fi).2.2.1,lX ++ (runs b sd tg (l.drop i) t fi).2.2.2) ∧
   0≤fi∧fi≤1000∧di b Ni Ci t∧Ni+60*(bS (l.drop i)).length≤1000000∧Ci+(bS (l.drop i)).length≤1000000∧(e8++lX).length+60*(bS (l.drop i)).length≤1000000∧(bS (l.drop i)).length≤(bS l).length ∧
   Fr rb lv kM σ τ∧ah τ rb=.box (dF b t sd tg kM fi HF)∧LV rb (e8 ++ lX) kM τ∧ah τ σ.length=.box (pk rb))
  (λi=>l.length-i) 0 ⟨s,fu,[],lv,mv,N,C,rfl,by omega,rfl,GF,zR,hS,hN,hC,by simpa using hE,Nat.le_refl _,a2.lift rb,r2,by simpa using l2,c2⟩ ?_
 rintro i vs τ again ⟨t,fi,lX,kM,HF,Ni,Ci,rfl,hi,bL,GI,OL,ht,VL,VK,Oi,Ot,rX,vG,cp,yx⟩ aZ;have Pr:=Ye vG (by simp);have OA:=Ye yx (by simp);refine Za rfl (Zb (λh=>?_) (λh=>?_));rotate_left
 ·have h:i=l.length:=by simp at h; omega
  subst h;have e0:runs b sd tg (l.drop l.length) t fi=(0,t,fi,[]):=by rw[List.drop_length,runs]
  rw[e0] at bL;exact hK _ _ ⟨kM,HF,rX,by rw[bL]; exact vG,by rw[bL]; rfl,λ_=>by rw[bL]; simpa using cp⟩
 have h:i<l.length:=by simpa using h
 have GC:l.drop i=l[i]::l.drop (i+1):=fA h;have eK:=List.getElem_mem h;have K2:=ZS eh eK;have Ed:=SK bV _ eK;have dc:=λ(σ:List ab)=>Zp σ aM false false 14 l .i64 i h;rw[GC] at bL VL VK Oi Ot;generalize l[i]=x at *;have Py:(bS (x::l.drop (i+1))).length=(jk x).length+(bS (l.drop (i+1))).length:=by simp[bS]
 rw[Py] at VL VK Oi Ot;have hx1:1≤(jk x).length:=by cases x; simp[jk]
 have yJ:=RZ (b:=b) (tg:=tg) h01 x fi ht (by omega) (by omega);have OQ:=RK b sd tg x t fi GI;rw[runs] at bL;refine Qh λk' ek=>?_;have fin:∀v τ',I0 rb b sd tg (e8++lX) kM τ (dW b sd tg x t fi) v τ'→(dW b sd tg x t fi).1≠0→K v τ':=by
  rintro v τ' ⟨eY,se,p1,p2,p3,p4⟩ Pb;rw[if_neg Pb] at bL;exact hK _ _ ⟨eY,se,rX.trans p1,by rw[bL]; exact p2,by rw[bL]; exact p3,λq=>by rw[bL] at q ⊢; have:=p4 q; simpa using this⟩
 have cont:∀v τ',I0 rb b sd tg (e8++lX) kM τ (dW b sd tg x t fi) v τ'→(dW b sd tg x t fi).1=0→k' [v] τ':=by
  rintro v τ' ⟨eY,se,p1,p2,p3,p4⟩ h0;rw[if_pos h0] at bL;rw[h0] at p3;subst p3;rw[ek];refine Za (Yj ..) ?_;rw[Qd (n:=i) (by omega)];refine aZ (i+1) _ _ (by omega) ⟨(dW b sd tg x t fi).2.1,(dW b sd tg x t fi).2.2.1,lX++(dW b sd tg x t fi).2.2.2,eY,se,Ni+60*(jk x).length,Ci+(jk x).length,rfl,by omega,?_,OQ.1,by omega,yJ.1,by omega,by omega,?_,by omega,rX.trans p1,p2,?_,?_⟩
  ·rw[bL]; simp
  ·have:=yJ.2;simp only[List.length_append] at Oi ⊢; omega
  ·have:=p4 (.inl h0); simpa using this
  ·exact p1.get cp yx cL
 clear ek aZ hK;refine Za (dc _) (Za (an (lk _)) (Xq (row:=aM x) (row':=aM x) (by rw[XC]; rfl) (by rw[XC]; rfl) (by rw[XC]; rfl) ?_));have b1:=dL.k_ τ (.box (aM x));have qg:=Xd [ab.box (aM x)] vG (by simp);have yk:=Xd [ab.box (aM x)] yx (by simp);have x1:=Yf τ (.box (aM x));have vI:LV rb (e8++lX) kM (τ++[ab.box (aM x)]):=cp.eo (λk hk _=>Xo _ hk);have aat:(τ++[ab.box (aM x)]).length=τ.length+1:=by simp
 have aar:τ.length<(τ++[ab.box (aM x)]).length:=by omega
 generalize τ++[ab.box (aM x)]=τ1 at *;have f1:Fr rb kM kM τ τ1:=b1.lift rb;refine Za rfl (Za (ld x1 (bq x)) (Za (Zf ..) (Zb (λh8=>?_) (λh8=>?_))))
 ·have h8:x.op=8:=by simpa using h8
  have gC:(qJ x.c).length≤1000000∧(bS x.bM).length<(jk x).length∧(bS x.bQ).length<(jk x).length:=by
   cases x; simp[Ef.op] at h8; simp[jk,h8,Ef.c,Ef.bM,Ef.bQ] at Ot ⊢; omega
  have vD:=QdE Ed h8;have oK:dW b sd tg x t fi=if (tm b x.c&&jO b t sd tg x.c)=true then runs b sd tg x.bM t fi else runs b sd tg x.bQ t fi:=by rw[S4,if_pos h8]
  refine Za rfl (Za (v:=ic x.bQ) (ld x1 (by rw[XC]; rfl)) (Za rfl (Za rfl (Za (v:=dg b) (ld qg rfl) (Za rfl (Za rfl (Za (v:=cf t) (ld qg rfl) (Za rfl (Za rfl (Za (v:=.agg [iv sd,iv tg]) (ld qg rfl) (Za rfl (Za (ld x1 (rR x)) ?_))))))))))));refine Xb (c169 b hf bN t ht.ta (YA.2 ⟨gK,ht.may⟩) sd tg (by omega) (by omega) (Vy ht.may) x.c (Y9 K2) gC.1) rfl g69.ok.plain (by rw[YQ]; rfl) ?_;refine Za rfl (Za rfl (Qh λk2 KB=>?_));have body:∀th:List Ef,bG th=true→dp wA true (d+1) th=true→(bS th).length<(jk x).length→dW b sd tg x t fi=runs b sd tg th t fi→k2 [ic th] τ1:=by
   intro th q1 q2 q3 q4;rw[KB];refine Qg hP (f:=36) rfl g36.ok rfl ?_;refine IH th (by omega) τ1 rb t fi HF kM (e8++lX) Ni Ci (d+1) _ qg vI q1 q2 (by omega) ht (by omega) (by omega) (by omega) GI OL (λv τ' hD=>?_);rw[←q4] at hD;obtain⟨eY,se,p1,p2,p3,p4⟩:=hD;have Og:I0 rb b sd tg (e8++lX) kM τ (dW b sd tg x t fi) v τ':=⟨eY,se,f1.trans p1,p2,p3,p4⟩;rw[p3];rw[p3] at Og;refine Za (XZ ..) (Zb (λhq=>?_) (λhq=>?_))
   ·exact fin _ _ Og (by simpa using hq)
   ·exact cont _ _ Og (by simpa using hq)
  refine Zb (λhq=>?_) (λhq=>?_)
  ·refine Za rfl (Za (v:=ic x.bM) (ld x1 (by rw[XC]; rfl)) ?_);exact body _ (XR K2) vD.1 gC.2.1 (by rw[oK,if_pos hq])
  ·exact body _ (YR K2) vD.2 gC.2.2 (by rw[oK,if_neg (by simp[hq])])
 ·have h8:x.op≠8:=by simpa using h8
  have oK:dW b sd tg x t fi=if fi < gk x.op then (190,t,fi,[]) else ((ki b t sd tg x.op x.who x.name (fX b t sd tg x.n)).1,(ki b t sd tg x.op x.who x.name (fX b t sd tg x.n)).2.1,
   (if (ki b t sd tg x.op x.who x.name (fX b t sd tg x.n)).1=0 then fi - gk x.op else fi),(ki b t sd tg x.op x.who x.name (fX b t sd tg x.n)).2.2):=by rw[S4,if_neg h8]
  have uE:=Xdk Ed h8 (by omega);have mX:0≤x.op∧x.op≤8:=by
   rw[zg] at Ed; simp only[Bool.and_eq_true,decide_eq_true_eq] at Ed; exact⟨Ed.1,Ed.2.1⟩
  refine Za rfl (Za (ld x1 (bq x)) (Za (Zf ..) (Qh λk2 KB=>?_)));have hu:0≤gk x.op∧gk x.op≤1:=by unfold gk; split<;>omega
  have body:k2 [iv (gk x.op)] τ1:=by
   rw[KB];clear KB k2;generalize gk x.op=u at *;refine Za rfl (Za rfl (Za (v:=iv fi) (ld qg rfl) (Za (v:=.bool (decide (fi<u))) rfl (Zb (λhq=>?_) (λhq=>?_)))))
   ·have hq:fi<u:=by simpa using hq
    rw[if_pos hq] at oK;exact fin _ _ ⟨kM,HF,f1,by rw[oK]; exact qg,by rw[oK],λ_=>by rw[oK]; simpa using vI⟩ (by rw[oK]; show (190:Int)≠0; decide)
   have hq:¬fi<u:=by simpa using hq
   rw[if_neg hq] at oK;refine Za rfl (Za rfl (Za (v:=dg b) (ld qg rfl) (Za rfl (Za rfl (Za (v:=cf t) (ld qg rfl) (Za rfl (Za rfl (Za (v:=.agg [iv sd,iv tg]) (ld qg rfl) (Za rfl (Za (ld x1 (yn x)) ?_))))))))));refine Xb (c31 b hf bN t ht.ta (YA.2 ⟨gK,ht.may⟩) sd tg (by omega) (by omega) (λc hc=>Vy ht.may _ c (.inl hc)) x.n (vR K2) uE.1 uE.2) rfl g70.ok.plain (by rw[XI]; rfl) ?_;refine Za rfl (Za rfl (Za rfl (Za (ld x1 (bq x)) ?_)));have Aa:=Lr b t sd tg x.n;generalize fX b t sd tg x.n=n at *;have after:∀v τ2,Dn rb b sd tg fi (e8++lX) kM τ1 (ki b t sd tg x.op x.who x.name n) v τ2 →
     VV.rd (Qn .neq false [v,(.int .i64 0)] τ2) λt103=>VV.test t103 (K v τ2) (
     VV.rd (Zi [.ai rb 0] τ2) λt105=>VV.rd (Ze 28 [t105] τ2) λt106=>VV.rd (Xh false 1 [t106] τ2) λt107=>
     VV.rd (Qn .sub false [t107,iv u] τ2) λt109=>VV.rd (Zi [.ai rb 0] τ2) λt110=>VV.rd (Ze 28 [t110] τ2) λt111=>
     VV.wr (Qm 1 [t111,t109] τ2) τ2 λ_ σ=>k' [v] σ):=by
    rintro v τ2 ⟨eY,se,p1,p2,rfl,p4⟩;have h190:=ZdI b t sd tg x.op x.who x.name n;generalize ki b t sd tg x.op x.who x.name n=r at *;refine Za (XZ ..) (Zb (λhz=>?_) (λhz=>?_))
    ·have hz:r.1≠0:=by simpa using hz
     rw[if_neg hz] at oK;exact fin _ _ ⟨eY,se,f1.trans p1,by rw[oK]; exact p2,by rw[oK],λq=>by rw[oK] at q; rcases q with q|q; exact(hz q).elim; exact(h190 q).elim⟩ (by rw[oK]; exact hz)
    ·have hz:r.1=0:=by simpa using hz
     rw[if_pos hz] at oK;have eX:=Ye p2 (by simp);refine Za rfl (Za rfl (Za (v:=iv fi) (ld p2 rfl) (Za (sV ..) (Za rfl (Za rfl ?_)))));rw[IntWalk.i64_in _ (by omega)];refine Qb (cM (row':=dF b r.2.1 sd tg eY (fi-u) se) p2 rfl rfl rfl) (Xg _ eX) ?_;refine cont _ _ ⟨eY,se,(f1.trans p1).trans (Fr.set eY _),by rw[oK]; exact Xe _ eX,by rw[oK],λ_=>by rw[oK]; exact(p4 hz).eo (λk hk gV=>Zg _ hk gV)⟩ (by rw[oK]; exact hz)
   have Oq:TB 100000000 t:=⟨by have:=ht.told.1; omega,by have:=ht.told.2; omega⟩;have nK:=ht.le;have iE:(e8++lX).length+60≤1000000000:=by omega
   have kI:x.op=0∨x.op=1∨x.op=2∨x.op=3∨x.op=4∨x.op=5∨x.op=6∨x.op=7:=by omega
   rcases kI with e|e|e|e|e|e|e|e
   ·rw[e];refine Za rfl (Za (v:=.func (.func 62) [.ai rb 0] []) (ld yk rfl) (Za (ld x1 (lk x)) ?_));refine Qg hP (f:=62) (ys:=[.ai rb 0,.agg (aM x),iv n]) rfl g62.ok rfl (TC qg vI (by omega) h01 hf bN nK (YA.2 ⟨gK,ht.may⟩) x n (λv τ2 hD=>after v τ2 ?_));have:ki b t sd tg x.op x.who x.name n=gM b t sd tg x.op x.who n:=by rw[ki,if_pos (.inl e)]
    rw[this]; exact hD
   ·rw[e];refine Za rfl (Za (v:=.func (.func 62) [.ai rb 0] []) (ld yk rfl) (Za (ld x1 (lk x)) ?_));refine Qg hP (f:=62) (ys:=[.ai rb 0,.agg (aM x),iv n]) rfl g62.ok rfl (TC qg vI (by omega) h01 hf bN nK (YA.2 ⟨gK,ht.may⟩) x n (λv τ2 hD=>after v τ2 ?_));have:ki b t sd tg x.op x.who x.name n=gM b t sd tg x.op x.who n:=by rw[ki,if_pos (.inr e)]
    rw[this]; exact hD
   ·rw[e];refine Za rfl (Za (v:=.func (.func 63) [.ai rb 0] []) (ld yk rfl) (Za (ld x1 (lk x)) ?_));refine Qg hP (f:=63) (ys:=[.ai rb 0,.agg (aM x),iv n]) rfl g63.ok rfl (QdR qg vI iE h01 hf bN gK ht (by omega) (by omega) x n (λv τ2 hD=>after v τ2 ?_));have:ki b t sd tg x.op x.who x.name n=mH t (c_ sd x.who) n:=by rw[e]; rfl
    rw[this]; exact hD
   ·rw[e];refine Za rfl (Za (v:=.func (.func 64) [.ai rb 0] []) (ld yk rfl) (Za (ld x1 (lk x)) ?_));have G2:0≤(t.side sd).aW∧(t.side sd).aW≤1000000:=by
     rcases h01 with rfl|rfl
     ·exact⟨ht.may.s0.aW.1,(tp.1 ht.may.s0.aW.2).2⟩
     ·exact⟨ht.may.s1.aW.1,(tp.1 ht.may.s1.aW.2).2⟩
    refine Qg hP (f:=64) (ys:=[.ai rb 0,.agg (aM x),iv n]) rfl g64.ok rfl (ZdW qg vI (by omega) h01 G2 x n (by omega) (λv τ2 hD=>after v τ2 ?_));have:ki b t sd tg x.op x.who x.name n=ez t sd n:=by rw[e]; rfl
    rw[this]; exact hD
   ·rw[e];refine Za rfl (Za (v:=.func (.func 65) [.ai rb 0] []) (ld yk rfl) (Za (ld x1 (lk x)) ?_));refine Qg hP (f:=65) (ys:=[.ai rb 0,.agg (aM x),iv n]) rfl g65.ok rfl (ZdS qg vI (by omega) h01 Oq ⟨by have:=nK.s0.hand; omega,by have:=nK.s0.aj; omega⟩ ⟨by have:=nK.s1.hand; omega,by have:=nK.s1.aj; omega⟩ x n (λv τ2 hD=>after v τ2 ?_));have:ki b t sd tg x.op x.who x.name n=c6 t (c_ sd x.who):=by rw[e]; rfl
    rw[this]; exact hD
   ·rw[e];refine Za rfl (Za (v:=.func (.func 66) [.ai rb 0] []) (ld yk rfl) (Za (ld x1 (lk x)) ?_));have pB:(t.side sd).aA.length≤100000000:=by
     rcases h01 with rfl|rfl
     ·have:=nK.s0.aA; show t.s0.aA.length≤_; omega
     ·have:=nK.s1.aA; show t.s1.aA.length≤_; omega
    refine Qg hP (f:=66) (ys:=[.ai rb 0,.agg (aM x),iv n]) rfl g66.ok rfl (XdX qg vI (by omega) h01 Oq pB x n (λv τ2 hD=>after v τ2 ?_));have:ki b t sd tg x.op x.who x.name n=hZ t sd n:=by rw[e]; rfl
    rw[this]; exact hD
   ·rw[e];refine Za rfl (Za (v:=.func (.func 67) [.ai rb 0] []) (ld yk rfl) (Za (ld x1 (lk x)) ?_));refine Qg hP (f:=67) (ys:=[.ai rb 0,.agg (aM x),iv n]) rfl g67.ok rfl (Xd0 qg vI (by omega) h01 Oq (by have:=nK.s0.hand; omega) (by have:=nK.s1.hand; omega) x n (λv τ2 hD=>after v τ2 ?_));have:ki b t sd tg x.op x.who x.name n=oh t (c_ sd x.who):=by rw[e]; rfl
    rw[this]; exact hD
   ·rw[e];refine Za rfl (Za (v:=.func (.func 68) [.ai rb 0] []) (ld yk rfl) (Za (ld x1 (lk x)) ?_));refine Qg hP (f:=68) (ys:=[.ai rb 0,.agg (aM x),iv n]) rfl g68.ok rfl (Xds qg vI (by omega) h01 hf bN gK ht wK x n (λv τ2 hD=>after v τ2 ?_));have:ki b t sd tg x.op x.who x.name n=vS b t sd x.name:=by rw[e]; rfl
    rw[this]; exact hD
  refine Zb (λhq=>?_) (λhq=>?_)
  ·have:gk x.op=0:=by rw[gk,if_pos (by simpa using hq)]
   rw[this] at body; exact body
  ·have:gk x.op=1:=by rw[gk,if_neg (by simpa using hq)]
   rw[this] at body; exact body
theorem HU(b:Bk)(wA:List Cd)(sd tg:Int)(h01:sd=0∨sd=1)(hf:aS b=true)(bN:Zj b.af)(gK:(cE b).1=0)(l:List Ef):vU b wA sd tg l:=by
 have go:∀(m:Nat) (l:List Ef),(bS l).length≤m→vU b wA sd tg l:=by
  intro m
  induction m with
  |zero=>exact Sh b wA sd tg h01 hf bN gK 0 (λ_ h=>absurd h (by omega))
  |succ m ih=>grind [Sh]
 exact go _ l (Nat.le_refl _)
end Go.Ah.Tz
end
section
namespace Go.Ah.Tz
open Go.Proofs.Tryz (prog)
set_option maxRecDepth 100000
def F5:Tx:=[48,49,50,51,52,53,54,55,56,57,97,98,99,100,101,102,103,104,105,106,107,108,109,110,111,112,113,114,115,116,117,118,119,120,121,122]
def yl:Tx:=[48,48,48,49,48,50,48,51,48,52,48,53,48,54,48,55,48,56,48,57,49,48,49,49,49,50,49,51,49,52,49,53,49,54,49,55,49,56,49,57,50,48,50,49,50,50,50,51,50,52,50,53,50,54,50,55,50,56,50,57,51,48,51,49,51,50,51,51,51,52,51,53,51,54,51,55,51,56,51,57,52,48,52,49,52,50,52,51,52,52,52,53,52,54,52,55,52,56,52,57,53,48,53,49,53,50,53,51,53,52,53,53,53,54,53,55,53,56,53,57,54,48,54,49,54,50,54,51,54,52,54,53,54,54,54,55,54,56,54,57,55,48,55,49,55,50,55,51,55,52,55,53,55,54,55,55,55,56,55,57,56,48,56,49,56,50,56,51,56,52,56,53,56,54,56,55,56,56,56,57,57,48,57,49,57,50,57,51,57,52,57,53,57,54,57,55,57,56,57,57]
def i5(i:Nat):Tx:=if i<10 then [UInt8.ofNat (48+i)] else [UInt8.ofNat (48+i/10),UInt8.ofNat (48+i%10)]
theorem YdC:∀i<10,(F5.take (i+1)).drop i=i5 i:=by decide
theorem Ydi:∀i<63,10≤i→(yl.take (i*2+2)).drop (i*2)=i5 i:=by decide
theorem Qdl:∀i<63,∀j<63,i5 i=i5 j→i=j:=by decide
theorem RP(s:Tx)(i j:Nat)(h1:i≤j)(h2:j≤s.length)(σ:List ab):QD [.str s,iv i,iv j] σ=.ok (.str ((s.take j).drop i)) [] []:=by
 show (bif Nat.ble i j&&Nat.ble j s.length then az.ok (.str ((s.take j).drop i)) [] [] else .stop)=_;simp[h1,h2,Nat.ble_eq_true_of_le]
theorem YdS(ib:Bool)(a b:Tx)(h:a.length+b.length≤1099511627776)(σ:List ab):Qn .add ib [.str a,.str b] σ=.ok (.str (a++b)) [] []:=by
 show (bif Nat.ble (a.length+b.length) 1099511627776 then az.ok (.str (a++b)) [] [] else .stop)=_;rw[Nat.ble_eq_true_of_le h]; rfl
def YI:Nat→Tx
 |0=>[120]
 |i+1=>120::i5 i
def Dx(cs:List Cd):Nat→Nat→Tx
 |0,i=>YI i
 |n+1,i=>if (cs.any λc=>c.name==YI i)=true then Dx cs n (i+1) else YI i
def E0(cs:List Cd):Tx:=Dx cs 62 0
theorem SN(i:Nat):(i5 i).length≤2:=by unfold i5; split<;>simp
theorem T3(i:Nat):(YI i).length≤3:=by
 cases i<;>simp_all [YI,SN]
theorem TH(cs:List Cd):∀(n i:Nat),(Dx cs n i).length≤3
 |0,i=>T3 i
 |n+1,i=>by
  unfold Dx;split
  ·exact TH cs n (i+1)
  ·exact T3 i
theorem Xct{i j:Nat}(hi:i≤63)(hj:j≤63)(h:YI i=YI j):i=j:=by
 have h0:∀k,i5 k≠[]:=by intro k; unfold i5; split<;>simp
 cases i with
 |zero=>
  cases j<;>simp_all [YI]
 |succ i=>
  cases j with
  |zero=>simp_all [YI]
  |succ j=>
   grind [YI,Qdl]
theorem R1:∀(l m:List Tx),l.Nodup→(∀x∈l,x∈m)→l.length≤m.length
 |[],_,_,_=>by simp
 |a::l,m,hn,hs=>by
  have ha:=hs a (by simp);rw[List.nodup_cons] at hn;have:=R1 l (m.erase a) hn.2 (λx hx=>(List.mem_erase_of_ne (λe=>hn.1 (by rw[←e]; exact hx))).2 (hs x (by simp[hx])))
  grind
theorem Xdm{cs:List Cd}{i:Nat}(hi:i≤62)(h:∀k<i,(cs.any λc=>c.name==YI k)=true):i≤cs.length:=by
 have hn:((List.range i).map YI).Nodup:=by
  rw[List.Nodup,List.pairwise_map];refine List.Pairwise.imp_of_mem ?_ List.nodup_range;intro a b ha hb cL e;rw[List.mem_range] at ha hb;exact cL (Xct (by omega) (by omega) e)
 have:=R1 _ (cs.map Cd.name) hn (λx hx=>by
  grind)
 simpa using this
def mg(cs:List Cd)(l:List Ef):Cd:=⟨E0 cs,false,0,0,0,0,0,0,l,[],[],0⟩
def nY(b:Bk)(l:List Ef):Bool:=decide ((cW (b.af++[mg b.af l])).1=0)
@[reducible] def uR(t:Tx)(l:List Ef):List aa:=[.str t,.bool false,iv 0,iv 0,iv 0,iv 0,iv 0,iv 0,ic l,.aq,.aq,iv 0]
theorem XdH{h0:Hp}{rd:List Nat}(cs:List Cd)(l:List Ef):bp h0 rd (uR (E0 cs) l) (b_ (mg cs l)):=
 .cons (aB.ro rfl) <| .cons (aB.ro rfl) <| .cons (aB.ro rfl) <| .cons (aB.ro rfl) <| .cons (aB.ro rfl) <| .cons (aB.ro rfl) <| .cons (aB.ro rfl) <| .cons (aB.ro rfl) <| .cons (aB.ro rfl) <|
  .cons (aB.cy (aB.ro rfl) (λM u d=>d.bC 14)) <| .cons (aB.cy (aB.ro rfl) (λM u d=>d.bC 14)) <| .cons (aB.ro rfl) .nil
theorem QdA(m:Nat→Option Nat)(c:Cd):(b_ c).map (aa.cj m)=b_ c:=rfl
theorem QdI(m:Nat→Option Nat)(l:List Cd):(ab.rows 12 (l.map b_)).c7 (aa.cj m)=.rows 12 (l.map b_):=by
 simp[QdA]
attribute [local irreducible] ak.rd ak.pu ak.wr ak.dr ak.gr ak.gw ak.gl ak.gd ak.opt aH W
set_option maxHeartbeats 4000000
theorem c504(i:Nat)(h:i<63):PC 165 [iv i] (.str (i5 i)):=by
 refine Yc hP g165.ok rfl rfl ?_;rw[H1.e]; unfold g165; dsimp only;refine Za (v:=.bool (decide ((i:Int)<10))) rfl (Zb (λq=>?_) (λq=>?_))
 ·have q:i<10:=by have:=of_decide_eq_true q; omega
  refine Za (Yj ..) ?_;rw[Qd (n:=i) (by omega)];refine Za (RP F5 i (i+1) (by omega) (by show i+1≤36; omega) _) ?_;rw[YdC i q]
 ·have q:¬i<10:=by have:=of_decide_eq_false q; omega
  refine Za (Uy ..) (Za (Uy ..) (Za (Yj ..) ?_));have w1:IntKind.i64.wrap ((i:Int)*2)=((i*2:Nat):Int):=by grind [IntWalk.i64_in]
  rw[w1];have w2:IntKind.i64.wrap (((i*2:Nat):Int)+2)=((i*2+2:Nat):Int):=by grind [IntWalk.i64_in]
  rw[w2];refine Za (RP yl (i*2) (i*2+2) (by omega) (by show i*2+2≤200; omega) _) ?_;rw[Ydi i h (by omega)]
theorem FH(i:Nat)(h:i<63):PC 61 [iv i] (.str (i5 i)):=by
 refine Yc hP g61.ok rfl rfl ?_;rw[H1.e]; unfold g61; dsimp only;refine Qg hP (f:=96) rfl g96.ok rfl ?_;rw[H1.e]; unfold g96; dsimp only;refine Qg hP (f:=131) rfl g131.ok rfl ?_;rw[H2.e]; unfold g131; dsimp only;refine Za rfl (Xc (Za (v:=.bool (decide ((0:Int)≤(i:Int)))) rfl ?_));rw[show decide ((0:Int)≤(i:Int))=true from decide_eq_true (by omega)];refine Ya (Za rfl (Ya (Za (v:=.bool (decide ((i:Int)<100))) rfl ?_)));rw[show decide ((i:Int)<100)=true from decide_eq_true (by omega)];exact Za rfl (Xc (Xb (c504 i h) rfl g165.ok.plain rfl rfl))
theorem FE(l:List Cd)(hl:l.length≤1000000000):dh prog aK 57 [fm l] (.sl 0 0 l.length false) [.rows 12 (l.map b_)]:=by
 cases l with
 |nil=>
  refine dh.tK ?_ ?_
  ·refine ZC hP g57.ok rfl ?_;rw[H1.e]; unfold g57; dsimp only;exact Za rfl (Xc (Tidy.ghost 12 (.inl rfl)))
  ·refine ZC hP g57.ok rfl ?_;rw[H1.e]; unfold g57; dsimp only;exact Za rfl (Yd (Za rfl (Qb rfl rfl (Tidy.trans (Tidy.cy λM c u d=>QU (.ax true true 12 []) ⟨M,c⟩ u d) (Tidy.ghost 12 (.inr rfl))))))
 |cons x l=>
  refine ZC hP g57.ok rfl ?_;rw[H1.e]; unfold g57; dsimp only;refine Za rfl (Yd (Za rfl ?_));refine Qb (v:=.sl 0 0 (x :: l).length false) (rd:=[]) (up:=[(0,.rows 12 ((x :: l).map b_))]) ?_ rfl (Tidy.refl _ _);show (match Qp 12 [] (fm (x :: l)) with
   |some (ys,rd)=>bif Xs ys&&Nat.ble ((2*(([]:List (List aa)).length+ys.length)+192)*152) (2 ^ 48) then az.ok (.sl 0 0 (([]:List (List aa)).length+ys.length) false) rd ([]++[(0,ab.rows 12 ([]++ys))]) else az.stop
   | none=>.stop)=_
  have h1:Qp 12 [] (fm (x::l))=some ((x::l).map b_,[]):=rfl;have h2:∀q:List Cd,Xs (q.map b_)=true:=by
   intro q; induction q with
   |nil=>rfl
   |cons y q ih=>simp only[List.map_cons,Xs,ih,Bool.and_true]; rfl
  have h3:Nat.ble ((2*(([]:List (List aa)).length+((x::l).map b_).length)+192)*152) (2 ^ 48)=true:=Nat.ble_eq_true_of_le (by grind)
  grind
theorem w292{l:List Cd}(hl:l.length≤1000000000){σ:List ab}{K:aa→List ab→Prop}(hK:K (.sl σ.length 0 l.length false) (σ++[.rows 12 (l.map b_)])):VV.call (.call 57) [fm l] σ K:=by
 refine Mb (FE l hl) rfl g57.ok.plain rfl ?_;simp only[QA,List.map_cons,List.map_nil,QdI,aa.cj,ZK,Nat.zero_add];exact hK
theorem FG(c:Cd)(t:Tx):PC 60 [.agg (b_ c),.ao [.str t] 0] (.bool (c.name==t)):=by
 refine Yc hP g60.ok rfl rfl ?_;rw[H2.e]; unfold g60; dsimp only;exact Qb rfl rfl (Za rfl (Za (v:=.str c.name) rfl (Za (v:=.str t) (an rfl) (Za rfl rfl))))
theorem FF(l:List Cd)(hl:l.length≤1000000000)(t:Tx):PC 59 [fm l,.func (.func 60) [] [.ao [.str t] 0]] (.bool (l.any λc=>c.name==t)):=by
 refine Yc hP g59.ok rfl rfl ?_;rw[H2.e]; unfold g59; dsimp only;refine Xb (c259 l (by rw[cO]; omega) 60 [] [.ao [.str t] 0] g60.ok.plain (λc=>c.name==t) (λc _=>FG c t) (λc=>rfl)) rfl g95.ok.plain rfl ?_;refine Za (X5 ..) ?_;simp[JW]
theorem c202(b:Bk)(hf:aS b=true)(bN:Zj b.af)(iS:b.af.length≤61)(l:List Ef)(hl:bG l=true)(Gn:(bS l).length≤500000000):PC 35 [dg b,ic l] (.bool (nY b l)):=by
 have gC:QE b.af=true:=by
  simp_all [aS]
 have eh:QE (b.af++[mg b.af l])=true:=by
  simp only[QE,Bool.and_eq_true,decide_eq_true_eq,cO] at gC ⊢;refine⟨by simp; omega,?_⟩;rw[List.all_append,gC.2];have:=TH b.af 62 0;simp only[List.all_cons,List.all_nil,Bool.and_true,Bool.true_and,f_,mg,E0,cO,Bool.and_eq_true,decide_eq_true_eq];exact⟨by omega,hl,rfl,rfl⟩
 have Pw:Zj (b.af++[mg b.af l]):=by
  intro c hc;rcases List.mem_append.1 hc with hc|hc
  ·exact bN c hc
  simp_all [oW,mg,bS]
 have h293:=xX _ eh Pw;refine Yc hP g35.ok rfl rfl ?_;rw[H2.e]; unfold g35; dsimp only;refine Qb (v:=.ai 0 0) (rd:=[]) (up:=[(0,.box (bU b))]) rfl rfl (Za rfl (Za (v:=fm b.af) (ld (row:=bU b) rfl rfl) (w292 (by omega) ?_)));refine Za (v:=iv b.af.length) rfl (Za (Zf ..) ?_);rw[show decide ((b.af.length:Int)=240)=false from decide_eq_false (by omega)];refine Yd (Qb (v:=.ai 2 0) (rd:=[]) (up:=[(2,.box [.str []])]) rfl rfl (Qb (v:=.aF) (rd:=[]) (up:=[(2,.box [.str [120]])]) rfl rfl ?_));have Hg:∀r∈b.af.map b_,fz r=true:=by
  intro r hr;obtain⟨c,_,rfl⟩:=List.mem_map.1 hr;rfl
 refine Xj (ι:=Nat) (λi vs τ=>vs=[iv i]∧i≤61∧τ=[.box (bU b),.rows 12 (b.af.map b_),.box [.str (YI i)]]∧(∀k<i,(b.af.any λc=>c.name==YI k)=true)∧E0 b.af=Dx b.af (62-i) i) (λi=>62-i) 0 ⟨rfl,by omega,rfl,by omega,rfl⟩ ?_;rintro i vs τ again ⟨rfl,hi,rfl,iD,rX⟩ aZ;have e61:62-i=(61-i)+1:=by omega
 rw[e61,Dx] at rX;refine Za rfl ?_;refine Zx (rd:=[1,2]) (FF b.af (by omega) (YI i)) rfl g59.ok.plain (.cons (aB.own (σ:=[.box (bU b),.rows 12 (b.af.map b_),.box [.str (YI i)]]) rfl (by simp) (by simp) (Ju _ _ (by simp)) Hg) (.cons (aB.func .nil (.cons (aB.box (row:=[.str (YI i)]) rfl (by simp) (.cons (aB.ro rfl) .nil)) .nil)) .nil)) rfl ?_;refine Zb (λh=>?_) (λh=>?_)
 ·rw[if_pos h] at rX;have ud:∀k<i+1,(b.af.any λc=>c.name==YI k)=true:=by
   intro k hk;by_cases e:k=i
   ·rw[e]; exact h
   ·exact iD k (by omega)
  have hle:=Xdm (cs:=b.af) (i:=i+1) (by omega) ud;refine Xb (FH i (by omega)) rfl g61.ok.plain rfl (Za (YdS _ [120] (i5 i) (by have:=SN i; simp; omega) _) (Qb (v:=.aF) (rd:=[]) (up:=[(2,.box [.str (YI (i+1))])]) rfl rfl (Za (Yj ..) ?_)));rw[Qd (n:=i) (by omega)]
  grind
 ·rw[if_neg (by simp[h])] at rX;refine Za (v:=.str (YI i)) (ld (row:=[.str (YI i)]) rfl rfl) (Za (v:=.agg (uR (YI i) l)) rfl (Qb (v:=.sl 3 0 1 true) (rd:=[]) (up:=[(3,.rows 12 [uR (YI i) l])]) rfl rfl ?_));refine Qb (Y6 12 152 (b:=1) (c:=3) (len:=b.af.length) (rs:=b.af.map b_) (row:=uR (YI i) l) rfl rfl (by simp) rfl (by omega)) rfl ?_;rw[←rX];refine Zx (rd:=[4]) h293 rfl g58.ok.plain (.cons (aB.cy (y:=.ax false false 12 ((b.af++[mg b.af l]).map b_)) (aB.sl (rs:=b.af.map b_++[uR (E0 b.af) l]) rfl (by simp) (by simp) (by simp) (λk row row' q1 q2=>?_)) (λM u d=>d.iJ)) .nil) rfl ?_
  ·rw[Nat.zero_add] at q1;by_cases hk:k<b.af.length
   ·grind [bp.ro]
   grind [XdH]
  ·refine Za (v:=iv (cW (b.af++[mg b.af l])).1) rfl (Za (Zf ..) ?_);rfl
end Go.Ah.Tz
end
section
namespace Go.Ah.Tz
open Go.Proofs.Tryz (prog)
set_option maxRecDepth 100000
theorem Rv{e:Int}{b:Bk}{s:St}(hp:s.phase=1)(ha:s.al.length=0):aQ e b s true=(aQ e b { s with phase:=0 } false&&s.bF):=by
 rw[Bool.eq_iff_iff,Bool.and_eq_true];constructor
 ·intro h; exact⟨TV h hp ha,TI h hp⟩
 ·rintro⟨h,fT⟩;simp only[aQ,Bool.and_eq_true] at h ⊢;obtain⟨a1,a2,a3,a4,a5,a6,a7,a8,a9,b1,b2,b3,b4,h⟩:=h;have vz:=List.length_eq_zero_iff.1 ha;refine⟨a1,a2,a3,a4,a5,by simp[hp],by simp[hp],a8,a9,?_,b2,b3,b4,?_⟩
  ·rw[hp]; exact b1
  ·rw[if_neg (by simp[hp]),vz]; simp[fT,et]
theorem Ug{cs:List Cd}:∀ {l pre:List Cd},(fw cs pre l).1=0→∀c∈l,eR cs c=true
 |c::l,pre,h,x,hx=>by
  unfold fw at h;split at h
  ·omega
  split at h
  ·rename_i hc;simp only[List.mem_cons] at hx;rcases hx with rfl|hx
   ·exact hc
   ·exact Ug h x hx
  omega
theorem QcI{cs:List Cd}(h:(cW cs).1=0):∀c∈cs,eR cs c=true:=by
 grind [cW,Ug]
theorem Km{b:Bk}{l:List Ef}(h:nY b l=true):dp (b.af++[mg b.af l]) true 1 l=true∧(bS l).length≤200:=by
 have hc:=QcI (of_decide_eq_true h) (mg b.af l) (by simp);simp only[eR,Bool.and_eq_true,decide_eq_true_eq,bT] at hc
 grind [oW,mg,J9]
def Qv(b:Bk)(sd fu:Int)(l:List Ef):Bool:=(((decide (sd<0)||decide (sd>1))||decide (fu<0))||decide (fu>1000)) || !nY b l
def LW(l:List Ev)(lv:aa)(σ:List ab):Prop:=(l=[]∧lv=.aq)∨(l≠[]∧∃c rows,lv=.sl c 0 l.length false∧ah σ c=.rows 7 rows∧fk rows l)
theorem LV.lw{rb:Nat}{l:List Ev}{lv:aa}{σ:List ab}(h:LV rb l lv σ):LW l lv σ:=by
 rcases h with h|⟨h0,c,rows,_,h1,h2,h3⟩
 ·exact .inl h
 ·exact .inr ⟨h0,c,rows,h1,h2,h3⟩
attribute [local irreducible] ak.rd ak.pu ak.wr ak.dr ak.gr ak.gw ak.gl ak.gd ak.opt aH W
set_option maxHeartbeats 8000000
theorem tF(s:St)(hs:bu 1000000000 s):PC 14 [cf s] (cf s):=
 Vm (c59 s hs) ⟨List.range 11,(SB.copy (σ:=nk s) (n:=0) (λi x h=>by rw[Nat.zero_add]; exact Xt h) (λi hi=>by simp_all)).agg⟩
theorem MD(b:Bk)(hf:aS b=true)(bN:Zj b.af)(iS:b.af.length≤61)(s:St)(hs:bu 1000000000 s)(sd tg fu:Int)(l:List Ef)(hl:bG l=true)(sX:(bS l).length≤500000000)(N C:Nat)(hT:TB N s)(hN:N+12000≤1000000)(hC:Zo s≤C)(ub:C+200≤1000000){σ:List ab}{K:aa→List ab→Prop}
 (hE1:aQ (cE b).1 b s true=false→∀σ',dL σ σ' []→K (.bn [.agg aU,.aq,iv 0,iv 170]) σ')
 (hE2:aQ (cE b).1 b s true=true→Qv b sd fu l=true→∀σ',dL σ σ' []→K (.bn [.agg aU,.aq,iv 0,iv 2]) σ')
 (hK:aQ (cE b).1 b s true=true→Qv b sd fu l=false→∀ σ' lv,dL σ σ' []→((runs b sd tg l s fu).1=0∨(runs b sd tg l s fu).1=190→LW (runs b sd tg l s fu).2.2.2 lv σ')→(∀ k n,lv=.sl k 0 n false→σ.length≤k) →
   K (.bn [cf (runs b sd tg l s fu).2.1,lv,iv (runs b sd tg l s fu).2.2.1,iv (runs b sd tg l s fu).1]) σ') :
  g17.u VV [dg b,cf s,.agg [iv sd,iv tg],ic l,iv fu] σ K:=by
 rw[H5.e]; unfold g17; dsimp only;refine Qb (v:=.ai σ.length 0) (rd:=[]) (up:=[(σ.length,.box (bU b))]) rfl (Yi σ _) ?_;have a0:=dL.k_ σ (.box (bU b));have b0:=Yf σ (.box (bU b));have HE:(σ++[ab.box (bU b)]).length=σ.length+1:=by simp
 generalize σ++[ab.box (bU b)]=σ0 at *;refine Qb (v:=.ai σ0.length 0) (rd:=[]) (up:=[(σ0.length,.box (aD s))]) rfl (Yi σ0 _) ?_;have a1:=a0.i9 (.box (aD s));have b1:=Xd [ab.box (aD s)] b0 (by simp);have s1:=Yf σ0 (.box (aD s));have oO:(σ0++[ab.box (aD s)]).length=σ0.length+1:=by simp
 generalize σ0++[ab.box (aD s)]=σ1 at *;refine Qb (v:=.ai σ1.length 0) (rd:=[]) (up:=[(σ1.length,.box [iv sd,iv tg])]) rfl (Yi σ1 _) ?_;have a2:=a1.i9 (.box [iv sd,iv tg]);have b2:=Xd [ab.box [iv sd,iv tg]] b1 (by simp);have s2:=Xd [ab.box [iv sd,iv tg]] s1 (by simp);have v2:=Yf σ1 (.box [iv sd,iv tg]);have m9:(σ1++[ab.box [iv sd,iv tg]]).length=σ1.length+1:=by simp
 generalize σ1++[ab.box [iv sd,iv tg]]=σ2 at *;refine Qb (v:=.ai σ2.length 0) (rd:=[]) (up:=[(σ2.length,.box aU)]) rfl (Yi σ2 _) ?_;have a3:=a2.i9 (.box aU);have b3:=Xd [ab.box aU] b2 (by simp);have s3:=Xd [ab.box aU] s2 (by simp);have v3:=Xd [ab.box aU] v2 (by simp);have z3:=Yf σ2 (.box aU);have An:(σ2++[ab.box aU]).length=σ2.length+1:=by simp
 generalize σ2++[ab.box aU]=σ3 at *;refine Za (v:=cf s) (ld s3 rfl) (Xq (row:=aD s) (row':=aD s) rfl rfl rfl ?_);have a4:=a3.i9 (.box (aD s));have b4:=Xd [ab.box (aD s)] b3 (by simp);have s4:=Xd [ab.box (aD s)] s3 (by simp);have v4:=Xd [ab.box (aD s)] v3 (by simp);have z4:=Xd [ab.box (aD s)] z3 (by simp);have p4:=Yf σ3 (.box (aD s));have Ao:(σ3++[ab.box (aD s)]).length=σ3.length+1:=by simp
 generalize σ3++[ab.box (aD s)]=σ4 at *;refine Za rfl (Za (v:=ar s.phase) (ld s4 rfl) (Za (v:=.bool (s.phase==1)) rfl ?_));refine L9 (v1:=.ai σ0.length 5) (v2:=aV s.al) (v3:=iv s.al.length) (d:=((s.al.length:Int)==0)) (q3:=[]) rfl (ld (row:=aD s) s4 rfl) (by simp[Yp]) rfl ?_;refine Qh λk' ek=>?_;have lY:∀(t:St) (τ:List ab),bu 1000000000 t→dL σ τ []→ah τ σ.length=.box (bU b)→ah τ σ0.length=.box (aD s)→ah τ σ1.length=.box [iv sd,iv tg]→ah τ σ2.length=.box aU→ah τ σ3.length=.box (aD t) →
   (aQ (cE b).1 b t false && !(decide (t.phase≠s.phase) && !s.bF))=aQ (cE b).1 b s true→k' [] τ:=by
  intro t τ Ho at_ bt st vt zt pt mc;have K6:=Ye zt (by simp);rw[ek]; clear ek;have wv:=c55 b hf bN t Ho;refine Za (v:=dg b) (ld bt rfl) (Za (v:=cf t) (ld pt rfl) (Xb wv rfl g32.ok.plain rfl ?_));refine Za (XZ ..) ?_;have rV:∀K':aa→Prop,K' (.bool (!aQ (cE b).1 b s true)) →
    VV.gr (.bool (decide ((bif aQ (cE b).1 b t false then (0:Int) else 170)≠0))) false (λk=>VV.rd (Ze 2 [.ai σ3.length 0] τ) k) λt34=>
    VV.gr (.bool (decide ((bif aQ (cE b).1 b t false then (0:Int) else 170)≠0))) false (λk=>VV.rd (Xh false 1 [t34] τ) k) λt35=>
    VV.gr (.bool (decide ((bif aQ (cE b).1 b t false then (0:Int) else 170)≠0))) false (λk=>VV.rd (Ze 2 [.ai σ0.length 0] τ) k) λt36=>
    VV.gr (.bool (decide ((bif aQ (cE b).1 b t false then (0:Int) else 170)≠0))) false (λk=>VV.rd (Xh false 1 [t36] τ) k) λt37=>
    VV.gr (.bool (decide ((bif aQ (cE b).1 b t false then (0:Int) else 170)≠0))) false (λk=>VV.rd (Qn .neq false [t35,t37] τ) k) λt38=>
    VV.gr (.bool (decide ((bif aQ (cE b).1 b t false then (0:Int) else 170)≠0))) false (λk=>VV.rd (Q9 [t38] τ) k) λt39=>
    VV.gr t39 true (λk=>VV.rd (Ze 3 [.ai σ0.length 0] τ) k) λt40=>
    VV.gr t39 true (λk=>VV.rd (Xh false 1 [t40] τ) k) λt41=>
    VV.gr t39 true (λk=>VV.rd (pd .not [t41] τ) k) λt42=>
    VV.gr (.bool (decide ((bif aQ (cE b).1 b t false then (0:Int) else 170)≠0))) false (λk=>VV.rd (Ym [t39,t42,(.bool false)] τ) k) λt43=>
    VV.rd (Ym [(.bool (decide ((bif aQ (cE b).1 b t false then (0:Int) else 170)≠0))),(.bool true),t43] τ) K':=by
   intro K' j6;rw[←mc] at j6;rcases aT (aQ (cE b).1 b t false) with q|q
   ·rw[q] at j6 ⊢;refine Ya (Za rfl (Ya (Za (v:=ar t.phase) (ld pt rfl) (Ya (Za rfl (Ya (Za (v:=ar s.phase) (ld st rfl) (Ya (Za (XZ ..) (Ya (Za rfl ?_)))))))))));rcases aT (decide (t.phase≠s.phase)) with u|u
    ·rw[u] at j6 ⊢;refine Ya (Za rfl (Ya (Za (v:=.bool s.bF) (ld st rfl) (Ya (Za rfl (Ya (Za rfl (Za rfl ?_))))))));simpa using j6
    ·rw[u] at j6 ⊢;refine Qa rfl (Qa rfl (Qa rfl (Ya (Za rfl (Za rfl ?_)))));simpa using j6
   ·rw[q] at j6 ⊢;refine Qa rfl (Qa rfl (Qa rfl (Qa rfl (Qa rfl (Qa rfl ?_)))));refine Zc rfl (Zc rfl (Zc rfl (Qa rfl (Za rfl ?_))));simpa using j6
  refine rV _ ?_;clear rV;rcases aT (aQ (cE b).1 b s true) with hm|hm
  rotate_left
  ·rw[hm];refine Xc (Za (v:=.agg aU) rfl (Qb (cM (row':=aU) zt rfl rfl rfl) (Xg _ K6) (Qi (Zr K6 rfl) ?_)));exact hE1 hm _ (at_.cR (by omega) _)
  rw[hm];refine Yd ?_;refine Za rfl (Za (v:=iv sd) (ld vt rfl) (Za (v:=.bool (decide (sd<0))) rfl ?_));refine sq (d:=decide (sd>1)) (v1:=.ai σ1.length 0) (v2:=iv sd) (λ_=>rfl) (λ_=>ld vt rfl) (λ_=>rfl) ?_;refine XQ (d:=decide (fu<0)) (v1:=iv fu) (λ_=>rfl) (λ_=>rfl) ?_;refine XQ (d:=decide (fu>1000)) (v1:=iv fu) (λ_=>rfl) (λ_=>rfl) ?_;have Ov:Qv b sd fu l=true→∀K':aa→Prop,True:=λ_ _=>trivial;have pF:∀K':aa→List ab→Prop,K' (.bool (Qv b sd fu l)) τ →
    VV.gr (.bool (((decide (sd<0)||decide (sd>1))||decide (fu<0))||decide (fu>1000))) false (λk=>VV.rd (Xh true 2 [.ai σ.length 0] τ) k) λt64=>
    VV.gr (.bool (((decide (sd<0)||decide (sd>1))||decide (fu<0))||decide (fu>1000))) false (λk=>VV.rd (Q9 [ic l] τ) k) λt65=>
    VV.gw (.bool (((decide (sd<0)||decide (sd>1))||decide (fu<0))||decide (fu>1000))) false (λk=>VV.call (.call 35) [t64,t65] τ k) τ λt66 σ=>
    VV.gr (.bool (((decide (sd<0)||decide (sd>1))||decide (fu<0))||decide (fu>1000))) false (λk=>VV.rd (pd .not [t66] σ) k) λt67=>
    VV.rd (Ym [(.bool (((decide (sd<0)||decide (sd>1))||decide (fu<0))||decide (fu>1000))),(.bool true),t67] σ) (λv=>K' v σ):=by
   intro K' j6;unfold Qv at j6;rcases aT (((decide (sd<0)||decide (sd>1))||decide (fu<0))||decide (fu>1000)) with q|q
   ·rw[q] at j6 ⊢;exact Qa rfl (Qa rfl (Yb rfl (Qa rfl (Za rfl j6))))
   ·rw[q] at j6 ⊢;refine Ya (Za (v:=dg b) (ld bt rfl) (Ya (Za rfl (Xa ?_))));refine Xb (c202 b hf bN iS l hl sX) rfl g35.ok.plain rfl (Ya (Za rfl (Za rfl j6)))
  refine pF _ ?_;clear pF Ov;rcases aT (Qv b sd fu l) with hb|hb
  ·rw[hb];refine Xc (Za (v:=.agg aU) rfl (Qb (cM (row':=aU) zt rfl rfl rfl) (Xg _ K6) (Qi (Zr K6 rfl) ?_)));exact hE2 hm hb _ (at_.cR (by omega) _)
  rw[hb];refine Yd ?_;have bZ:=hb;unfold Qv at bZ;simp only[Bool.or_eq_false_iff,decide_eq_false_iff_not,Bool.not_eq_false'] at bZ;obtain⟨⟨⟨⟨h1,h2⟩,h3⟩,h4⟩,h5⟩:=bZ;have gK:=(YA.1 hm).1;have hM:=(YA.1 hm).2;obtain⟨OH,wO⟩:=Km h5;refine Yg (v:=dg b) (ld bt rfl) (Xi _) (Yg (v:=cf s) (ld st rfl) (Xi _) (Yh (tF s hs) rfl g14.ok.plain rfl (Yg (v:=.agg [iv sd,iv tg]) (ld vt rfl) (Xi _) (Qe (v:=.agg (dF b s sd tg .aq fu .bx)) rfl ?_))));refine Yg (v:=.ai τ.length 0) (rd:=[]) (up:=[(τ.length,.box (dF b s sd tg .aq fu .bx))]) rfl (Yi τ _) ?_;have oY:=Ye bt (by simp);have fT:=Ye st (by simp);have Hr:=Ye vt (by simp);have w1:τ.length≠σ.length:=by omega
  have w2:τ.length≠σ0.length:=by omega
  have w3:τ.length≠σ1.length:=by omega
  have w4:τ.length≠σ2.length:=by omega
  refine Xr (by rfl) ?_;have ND:=at_.i9 (.box (dF b s sd tg .aq fu .bx));have rt2:=Yf τ (.box (dF b s sd tg .aq fu .bx));have zt2:=Xd [ab.box (dF b s sd tg .aq fu .bx)] zt (by simp);have Ws:(τ++[ab.box (dF b s sd tg .aq fu .bx)]).length=τ.length+1:=by simp
  generalize τ++[ab.box (dF b s sd tg .aq fu .bx)]=τ2 at *;refine Qg hP (f:=36) rfl g36.ok rfl ?_;refine HU b (b.af++[mg b.af l]) sd tg (by omega) hf bN gK l τ2 τ.length s fu .bx .aq [] N C 1 _ rt2 (.inl ⟨rfl,rfl⟩) hl OH wO ⟨hM,hT,hC⟩ (by omega) (by omega) (by simp; omega) (by omega) (by omega) (λv τ3 hD=>?_);obtain⟨eY,se,p1,p2,rfl,p4⟩:=hD;rw[List.nil_append] at p4;have j6:=hK hm hb;generalize runs b sd tg l s fu=r at *;have aaj:∃cs,True:=⟨0,trivial⟩;have wT:LV τ.length [] aa.aq τ2:=.inl ⟨rfl,rfl⟩;have WG:=p1.get wT zt2 w4.symm;have Hv:=Ye WG (by simp);refine Qe rfl (Qe rfl (Yg (v:=cf r.2.1) (ld p2 rfl) (Xi _) (Qe rfl (Qe rfl (Yg (v:=eY) (ld p2 rfl) (Xi _) (Qe rfl (Qe rfl (Yg (v:=iv r.2.2.1) (ld p2 rfl) (Xi _) ?_))))))));refine Yg (cM (row':=aD r.2.1) WG rfl rfl rfl) (Xg _ Hv) ?_;refine Xr (by simp[Xn,Zu,Qq,XF,c9,eZ,List.range,List.range.loop,w4,w4.symm]) (Qi (Zr Hv rfl) ?_);have jl:∀k n,eY=.sl k 0 n false→τ2.length≤k:=by
   intro k n e;rcases p1.new k n e with h|⟨m,h⟩<;>simp_all
  have at3:dL σ τ3 []:=⟨Nat.le_trans ND.1 p1.len,λk hk _=>by rw[p1.uP k (Nat.lt_of_lt_of_le hk ND.1) (by omega) (by intro n e; cases e),ND.2 k hk (by simp)]⟩;refine j6 _ eY (at3.cR (by omega) _) (λq=>?_) (λk n e=>by have:=jl k n e; omega);have G1:=(p4 q).lw;rcases G1 with h|⟨g0,c,rows,g1,g2,g9993⟩
  ·exact .inl h
  ·refine .inr ⟨g0,c,rows,g1,?_,g9993⟩;have:=jl c _ g1;rw[Zg _ (Ye g2 (by simp)) (by omega)]; exact g2
 rcases aT ((s.phase==1)&&((s.al.length:Int)==0)) with hq|hq
 ·rw[hq];simp only[Bool.and_eq_true,beq_iff_eq] at hq;have V5:=Ye p4 (by simp);refine Xc (Za rfl (Qb (cM (row:=aD s) (row':=aD { s with phase:=0 }) p4 rfl rfl rfl) (Xg _ V5) ?_));refine lY { s with phase:=0 } _ ⟨hs.al,hs.s0,hs.s1⟩ (a4.cR (by omega) _) (Zd b4 (by simp) (by omega)) (Zd s4 (by simp) (by omega)) (Zd v4 (by simp) (by omega)) (Zd z4 (by simp) (by omega)) (Xe _ V5) ?_
  grind [Rv]
 ·rw[hq];refine Yd ?_;refine lY s _ hs a4 b4 s4 v4 z4 p4 ?_;rw[show decide (s.phase≠s.phase)=false from by simp];simp only[Bool.false_and,Bool.not_false,Bool.and_true];rw[Bool.eq_iff_iff]
  grind [US,MY]
end Go.Ah.Tz
end
section
namespace Go.Ah
theorem Tidy.map{σ:List ab}{v:aa}(φ:aa→aa)(hφ:∀(M:Nat→Option Obj) (c:Own) (x:aa) (u:Value),Den M c x u→Den M c (φ x) u):Tidy σ v (σ.map (λb=>b.c7 φ)) v:=by
 intro GL w0 L g w r u d;have back:∀k aE,hp (σ.map (λb=>b.c7 φ)) k=some aE→∃b0,hp σ k=some b0∧aE=b0.c7 φ:=by
  intro k aE e;have e:(σ.map (λb=>b.c7 φ))[k]?=some aE:=e;rw[List.getElem?_map,Option.map_eq_some_iff] at e;obtain⟨b0,h1,h2⟩:=e;exact⟨b0,h1,h2.symm⟩
 refine⟨g.c,?_,d⟩;exact {
  keeps:=r.keeps
  aR:=r.aR
  src:=r.src
  bY:=r.bY
  dD:=λk e=>r.dD k (by
   have e:(σ.map (λb=>b.c7 φ))[k]?=none:=e;rw[List.getElem?_map,Option.map_eq_none_iff] at e;exact e)
  iM:=λk aE e=>by
   obtain⟨b0,h1,_⟩:=back k aE e;exact r.iM k b0 h1
  own:=λk aE cb e hl ec hv=>by
   obtain⟨b0,h1,rfl⟩:=back k aE e;rw[ab.bH] at hl;obtain⟨q1,q2,o,q3,q4⟩:=r.own k b0 cb h1 hl ec hv;exact⟨q1,q2,o,q3,q4.c7 (p:=λ_=>True) (λx v _ d=>hφ _ _ x v d) (ab.all_true _)⟩
  aX:=λk aE cb e hl ec hv=>by
   obtain⟨b0,h1,rfl⟩:=back k aE e;rw[ab.bH] at hl;have:=r.aX k b0 cb h1 hl ec hv;subst this;rfl
  inj:=λk k' x x' qo cb2 e1 e2 l1 l2 c1 pg v1 v2 gu=>by
   obtain⟨y,h1,rfl⟩:=back k x e1;obtain⟨y',yr,rfl⟩:=back k' x' e2;rw[ab.bH] at l1 l2;exact r.inj k k' y y' qo cb2 h1 yr l1 l2 c1 pg v1 v2 gu }
end Go.Ah
namespace Go.Ah.Tz
open Go.Proofs.Tryz (prog)
set_option maxRecDepth 100000
def od(x:aa):aa:=match x with
 |.aq=>.ax false false 1 []
 |x=>x
theorem Vk(M:Nat→Option Obj)(c:Own)(x:aa)(u:Value)(d:Den M c x u):Den M c (od x) u:=by
 cases x with
 |aq=>exact d.bC 1
 |_=>exact d
theorem Vg{rows:List (List aa)}{l:List Ev}(h:fk rows l):rows.map (λr=>r.map od)=l.map eP:=by
 induction h with
 |nil=>rfl
 |snoc rows l e cv _ pA ih=>
  simp only[List.map_append,List.map_cons,List.map_nil,ih]
  congr 1
  rcases pA with rfl|⟨rfl,h⟩
  ·rfl
  ·rw[eP,h]; rfl
theorem U'{rows:List (List aa)}{l:List Ev}(h:fk rows l):∀r∈rows,fz r=true:=by
 induction h with
 |nil=>intro r hr; simp at hr
 |snoc rows l e cv _ pA ih=>
  intro r hr;rcases List.mem_append.1 hr with hr|hr
  ·exact ih r hr
  ·rw[List.mem_singleton] at hr; subst hr;rcases pA with rfl|⟨rfl,_⟩<;>rfl
theorem LW.bor{l:List Ev}{lv:aa}{σ:List ab}(h:LW l lv σ)(s:St)(b c:Int):∃rd,aB (hp σ) rd (.bn [cf s,lv,iv b,iv c]) (.bn [cf s,.ax false false 7 (l.map eP),iv b,iv c]):=by
 rcases h with ⟨rfl,rfl⟩|⟨_,k,rows,rfl,hk,hR⟩
 ·exact⟨[],aB.bn (.cons (aB.ro rfl) (.cons (aB.cy (aB.ro rfl) (λM u d=>d.bC 7)) (.cons (aB.ro rfl) (.cons (aB.ro rfl) .nil))))⟩
 ·refine⟨[k],aB.bn (.cons (aB.ro rfl) (.cons (aB.cy (y:=.ax false false 7 (l.map eP)) ?_ (λM u d=>d)) (.cons (aB.ro rfl) (.cons (aB.ro rfl) .nil))))⟩;refine aB.cy (y:=.ax false false 7 (l.map eP)) (aB.cy (aB.sl (rs:=rows) (rs':=l.map eP) (Yx hk (by simp)) (by simp) (by rw[hR.len]; omega) (by simp) (λi row row' q1 q2=>?_)) (λM u d=>d.iJ)) (λM u d=>d);rw[Nat.zero_add] at q1;have hm:=Vg hR;have h1:(rows.map λr=>r.map od)[i]?=some (row.map od):=by rw[List.getElem?_map,q1]; rfl
  rw[hm,q2] at h1;cases h1;have kV:=U' hR row (List.mem_of_getElem? q1);clear hm q2 q1
  induction row with
  |nil=>exact .nil
  |cons x row ih=>
   simp only[fz,Bool.and_eq_true] at kV;exact .cons (aB.cy (aB.ro kV.1) (λM u d=>Vk M bg x u d)) (ih kV.2)
section
variable (b:Bk) (hf:aS b=true) (bN:Zj b.af) (iS:b.af.length≤61) (s:St) (hs:bu 1000000000 s) (sd tg fu:Int) (l:List Ef) (hl:bG l=true) (sX:(bS l).length≤500000000) (N C:Nat) (hT:TB N s) (hN:N+12000≤1000000) (hC:Zo s≤C) (ub:C+200≤1000000)
 (hm:aQ (cE b).1 b s true=true) (hb:Qv b sd fu l=false) (hr:(runs b sd tg l s fu).1=0∨(runs b sd tg l s fu).1=190)
include hf bN iS hs hl sX hT hN hC ub hm hb hr
theorem NS:PC 17 [dg b,cf s,.agg [iv sd,iv tg],ic l,iv fu] (.bn [cf (runs b sd tg l s fu).2.1,.ax false false 7 ((runs b sd tg l s fu).2.2.2.map eP),iv (runs b sd tg l s fu).2.2.1,iv (runs b sd tg l s fu).1]):=by
 refine Qo hP g17.ok rfl ?_;exact MD b hf bN iS s hs sd tg fu l hl sX N C hT hN hC ub (λh=>by rw[hm] at h; cases h) (λ_ h=>by rw[hb] at h; cases h) (λ_ _ σ' lv _ h _=>(h hr).bor _ _ _)
end
end Go.Ah.Tz
end
section
namespace Go.Ah.Tz
open Go.Proofs.Tryz (prog)
set_option maxRecDepth 100000
def Qx(s:St):Int:=if s.s0.aJ≤0∧s.s1.aJ≤0 then 3 else if s.s0.aJ≤0 then 2 else if s.s1.aJ≤0 then 1 else 0
def zo(b:Bk)(s:St)(r:Int):Bool:=!(((decide (r≤0)||decide (r>3))||(s.phase==2)) || !aQ (cE b).1 b s true)
def fO(b:Bk)(s:St)(r:Int):St×Ev:=if zo b s r=true then ({ s with phase:=2,al:=[],result:=r },⟨15,0,0,0,0,r,[]⟩) else (s,kS)
attribute [local irreducible] ak.rd ak.pu ak.wr ak.dr ak.gr ak.gw ak.gl ak.gd ak.opt aH W
set_option maxHeartbeats 4000000
theorem ZdC(b:Bool):decide ((bif b then (0:Int) else 170)=0)=b:=by cases b<;>rfl
theorem w209(b:Bk)(hf:aS b=true)(bN:Zj b.af)(s:St)(hs:bu 1000000000 s){σ:List ab}{bb sb:Nat}(h1:ah σ bb=.box (bU b))(h2:ah σ sb=.box (aD s)){K:aa→List ab→Prop}
 (hK:∀σ',dL σ σ' []→K (.bool (aQ (cE b).1 b s true)) σ'):g13.u VV [.ai bb 0,.ai sb 0] σ K:=by
 rw[H2.e]; unfold g13; dsimp only;refine Za rfl (Za (v:=cf s) (ld h2 rfl) (Xq (row:=aD s) (row':=aD s) rfl rfl rfl ?_));have a1:=dL.k_ σ (.box (aD s));have b1:=Xd [ab.box (aD s)] h1 (by simp);have s1:=Xd [ab.box (aD s)] h2 (by simp);have p1:=Yf σ (.box (aD s));have V4:=Ye h1 (by simp);have oO:(σ++[ab.box (aD s)]).length=σ.length+1:=by simp
 generalize σ++[ab.box (aD s)]=σ1 at *;refine Za rfl (Za rfl (Za (v:=ar s.phase) (ld s1 rfl) (Za (v:=.bool (s.phase==1)) rfl ?_)));refine Zd1 (d:=((s.al.length:Int)==0)) (v1:=.ai sb 0) (v2:=.ai sb 0) (v3:=.ai sb 5) (v4:=aV s.al) (v5:=iv s.al.length) (q5:=[]) (λ_=>rfl) (λ_=>rfl) (λ_=>rfl) (λ_=>ld s1 rfl) (λ_=>by simp[Yp]) (λ_=>rfl) ?_;refine Qh λk' ek=>?_;have lY:∀(t:St) (τ:List ab),bu 1000000000 t→dL σ τ []→ah τ bb=.box (bU b)→ah τ σ.length=.box (aD t)→aQ (cE b).1 b t false=aQ (cE b).1 b s true→k' [] τ:=by
  intro t τ Ho at_ bt pt mc;rw[ek];refine Za rfl (Za (v:=dg b) (ld bt rfl) (Za (v:=cf t) (ld pt rfl) (Xb (c55 b hf bN t Ho) rfl g32.ok.plain rfl (Za (Zf ..) ?_))));rw[ZdC,mc];exact hK _ at_
 rcases aT ((s.phase==1)&&((s.al.length:Int)==0)) with hq|hq
 ·rw[hq];simp only[Bool.and_eq_true,beq_iff_eq] at hq;have hm:=Rv (e:=(cE b).1) (b:=b) hq.1 (by omega);refine Xc (Za rfl (Za rfl (Za (v:=.bool s.bF) (ld s1 rfl) (Za rfl (Zb (λh=>?_) (λh=>?_))))))
  ·have h:s.bF=false:=by simpa using h
   have:=hK σ1 a1;rw[hm,h,Bool.and_false] at this;exact this
  ·have h:s.bF=true:=by simpa using h
   rw[h,Bool.and_true] at hm;refine Za rfl (Qb (cM (row:=aD s) (row':=aD { s with phase:=0 }) p1 rfl rfl rfl) (Xg _ (by omega)) ?_);exact lY { s with phase:=0 } _ ⟨hs.al,hs.s0,hs.s1⟩ (a1.cR (by omega) _) (Zd b1 (by simp) (by omega)) (Xe _ (by omega)) hm.symm
 ·rw[hq];refine Yd ?_;refine lY s _ hs a1 b1 p1 ?_;rw[Bool.eq_iff_iff];exact⟨US,λh=>MY h (λhp e=>by simp[hp,e] at hq)⟩
theorem w212(s:St){σ:List ab}{sb:Nat}(h2:ah σ sb=.box (aD s)){K:aa→List ab→Prop}(hK:K (ar (Qx s)) σ):g21.u VV [.ai sb 0] σ K:=by
 rw[H1.e]; unfold g21; dsimp only;refine Za rfl (Za rfl (Za rfl (Za rfl (Za (v:=iv s.s0.aJ) (ld h2 rfl) (Za (v:=.bool (decide (s.s0.aJ≤0))) rfl ?_)))));refine Za rfl (Za rfl (Za rfl (Za rfl (Za (v:=iv s.s1.aJ) (ld h2 rfl) (Za (v:=.bool (decide (s.s1.aJ≤0))) rfl ?_)))));refine Qd0 (d:=decide (s.s1.aJ≤0)) (λ_=>rfl) ?_;by_cases a:s.s0.aJ≤0<;>by_cases c:s.s1.aJ≤0
 ·rw[decide_eq_true a,decide_eq_true c];have:Qx s=3:=by simp[Qx,a,c]
  rw[this] at hK; exact Xc hK
 ·rw[decide_eq_true a,decide_eq_false c];have:Qx s=2:=by simp[Qx,a,c]
  rw[this] at hK; exact Yd (Xc hK)
 ·rw[decide_eq_false a,decide_eq_true c];have:Qx s=1:=by simp[Qx,a,c]
  rw[this] at hK; exact Yd (Yd (Xc hK))
 ·rw[decide_eq_false a,decide_eq_false c];have:Qx s=0:=by simp[Qx,a,c]
  rw[this] at hK; exact Yd (Yd (Yd hK))
theorem q98(b:Bk)(hf:aS b=true)(bN:Zj b.af)(s:St)(hs:bu 1000000000 s)(r:Int)(hr:0≤r∧r≤3):PC 23 [dg b,cf s,ar r] (.bn [cf (fO b s r).1,vw (fO b s r).2]):=by
 refine Qo hP g23.ok rfl ?_;rw[H3.e]; unfold g23; dsimp only;refine Qb (v:=.ai 0 0) (rd:=[]) (up:=[(0,.box (bU b))]) rfl (Yi [] _) ?_;refine Qb (v:=.ai 1 0) (rd:=[]) (up:=[(1,.box (aD s))]) rfl (Yi [ab.box (bU b)] _) ?_;refine Qb (v:=.ai 2 0) (rd:=[]) (up:=[(2,.box aU)]) rfl (Yi [ab.box (bU b),.box (aD s)] _) ?_;refine Qb (v:=.ai 3 0) (rd:=[]) (up:=[(3,.box bK)]) rfl (Yi [ab.box (bU b),.box (aD s),.box aU] _) ?_;refine Za (v:=cf s) (ld (row:=aD s) rfl rfl) (Xb (tF s hs) rfl g14.ok.plain rfl (Xq (row:=aD s) (row':=aD s) rfl rfl rfl ?_));have key:∃σ:List ab,σ=[ab.box (bU b),.box (aD s),.box aU,.box bK]++[.box (aD s)]:=⟨_,rfl⟩;obtain⟨σ,eσ⟩:=key;rw[show ([ab.box (bU b),.box (aD s),.box aU]++[.box bK]++[.box (aD s)]:List ab)=σ by rw[eσ]; rfl];rw[show ([ab.box (bU b),.box (aD s),.box aU]++[.box bK]:List ab).length=4 from rfl];have b1:ah σ 0=.box (bU b):=by rw[eσ]; rfl
 have s1:ah σ 1=.box (aD s):=by rw[eσ]; rfl
 have z1:ah σ 2=.box aU:=by rw[eσ]; rfl
 have e1:ah σ 3=.box bK:=by rw[eσ]; rfl
 have o1:ah σ 4=.box (aD s):=by rw[eσ]; rfl
 have hl:σ.length=5:=by rw[eσ]; rfl
 clear eσ;refine Za (v:=.bool (decide (r≤0))) rfl ?_;refine XQ (d:=decide (r>3)) (v1:=ar r) (λ_=>rfl) (λ_=>rfl) ?_;refine sq (d:=(s.phase==2)) (v1:=.ai 1 2) (v2:=ar s.phase) (λ_=>rfl) (λ_=>ld s1 rfl) (λ_=>rfl) ?_;have pF:∀K':aa→List ab→Prop,(∀τ,dL σ τ []→K' (.bool (!zo b s r)) τ) →
   VV.gw (.bool ((decide (r≤0)||decide (r>3))||(s.phase==2))) false (λk=>VV.call (.call 13) [.ai 0 0,.ai 1 0] σ k) σ λt23 σ=>
   VV.gr (.bool ((decide (r≤0)||decide (r>3))||(s.phase==2))) false (λk=>VV.rd (pd .not [t23] σ) k) λt24=>
   VV.rd (Ym [.bool ((decide (r≤0)||decide (r>3))||(s.phase==2)),.bool true,t24] σ) (λv=>K' v σ):=by
  intro K' j6;unfold zo at j6;rcases aT ((decide (r≤0)||decide (r>3))||(s.phase==2)) with q|q
  ·rw[q] at j6 ⊢;have:=j6 σ ⟨Nat.le_refl _,λ_ _ _=>rfl⟩;exact Yb rfl (Qa rfl (Za rfl (by simpa using this)))
  ·rw[q] at j6 ⊢;refine Xa (Qg hP (f:=13) rfl g13.ok rfl (w209 b hf bN s hs b1 s1 λτ hτ=>Ya (Za rfl (Za rfl ?_))));have:=j6 τ hτ;simpa using this
 refine pF _ λτ hτ=>?_;clear pF;have z2:=hτ.get z1 (by simp) (by simp);have e2:=hτ.get e1 (by simp) (by simp);have o2:=hτ.get o1 (by simp) (by simp);have l2:=Ye z2 (by simp);have l3:=Ye e2 (by simp);have l4:=Ye o2 (by simp);rcases aT (zo b s r) with q|q
 ·rw[q];refine Yd (Za rfl (Qb (cM (row':=aD { s with phase:=2 }) o2 rfl rfl rfl) (Xg _ l4) ?_));have o3:ah (τ.set 4 (.box (aD { s with phase:=2 }))) 4=.box (aD { s with phase:=2 }):=Xe _ l4;have z3:=Zd (x:=.box (aD { s with phase:=2 })) z2 (by simp) (show 4≠2 by decide);have e3:=Zd (x:=.box (aD { s with phase:=2 })) e2 (by simp) (show 4≠3 by decide);have k4:4<(τ.set 4 (.box (aD { s with phase:=2 }))).length:=by simpa using l4
  have k3:3<(τ.set 4 (.box (aD { s with phase:=2 }))).length:=by simpa using l3
  generalize τ.set 4 (.box (aD { s with phase:=2 }))=τ1 at *;have key:∀row,∃row',cr 5 [aa.aq] (aD { s with phase:=2 })=some row'∧row'=row→True:=λ_=>⟨[],λ_=>trivial⟩
  let X:List aa:=Ax { s with phase:=2,al:=[],result:=s.result } .aq (aV s.s0.aA) (aV s.s0.hand) (aV s.s0.aj) (il s.s0.ae) (aV s.s0.told) (aV s.s1.aA) (aV s.s1.hand) (aV s.s1.aj) (il s.s1.ae) (aV s.s1.told)
  let Y:List aa:=Ax { s with phase:=2,al:=[],result:=r } .aq (aV s.s0.aA) (aV s.s0.hand) (aV s.s0.aj) (il s.s0.ae) (aV s.s0.told) (aV s.s1.aA) (aV s.s1.hand) (aV s.s1.aj) (il s.s1.ae) (aV s.s1.told)
  refine Za rfl (Qb (cM (row':=X) o3 rfl rfl rfl) (Xg _ k4) ?_);have o4:ah (τ1.set 4 (.box X)) 4=.box X:=Xe _ k4;have z4:=Zd (x:=.box X) z3 (by simp) (show 4≠2 by decide);have e4:=Zd (x:=.box X) e3 (by simp) (show 4≠3 by decide);have m4:4<(τ1.set 4 (.box X)).length:=by simpa using k4
  generalize τ1.set 4 (.box X)=τ2 at *;refine Za rfl (Qb (cM (row':=Y) o4 rfl rfl rfl) (Xg _ m4) ?_);have o5:ah (τ2.set 4 (.box Y)) 4=.box Y:=Xe _ m4;have z5:=Zd (x:=.box Y) z4 (by simp) (show 4≠2 by decide);have e5:=Zd (x:=.box Y) e4 (by simp) (show 4≠3 by decide);have m5:4<(τ2.set 4 (.box Y)).length:=by simpa using m4
  generalize τ2.set 4 (.box Y)=τ3 at *;refine Za (v:=.agg Y) (ld o5 rfl) (Za (v:=iv r) (by show DI .i64 [.int .i8 r] τ3=_; simp only[DI]; rw[IntWalk.i64_in _ (by omega)]) (Za (v:=.agg [ar 15,iv 0,iv 0,iv 0,iv 0,iv r,.aq]) rfl ?_));refine Qb (cM (row':=Y) z5 rfl rfl rfl) (Xg _ (by omega)) ?_;have z6:ah (τ3.set 2 (.box Y)) 2=.box Y:=Xe _ (by omega);have e6:=Zd (x:=.box Y) e5 (by simp) (show 2≠3 by decide);have m6:4<(τ3.set 2 (.box Y)).length:=by simpa using m5
  generalize τ3.set 2 (.box Y)=τ4 at *;refine Qb (cM (row':=[ar 15,iv 0,iv 0,iv 0,iv 0,iv r,.aq]) e6 rfl rfl rfl) (Xg _ (by omega)) ?_;refine Qi (LI (Zd z6 (by simp) (show 3≠2 by decide)) rfl) (Qi (Zr (by omega) rfl) ?_);unfold fO;rw[if_pos q];exact⟨[],aB.bn (.cons (SB.agg (SB.mk (s:={ s with phase:=2,al:=[],result:=r }) .aq (RI.ro _) (RI.ro _) (RI.ro _) (RT.ro _) (RI.ro _) (RI.ro _) (RI.ro _) (RI.ro _) (RT.ro _) (RI.ro _))) (.cons (ss (e:=⟨15,0,0,0,0,r,[]⟩) RI.aq) .nil))⟩
 ·rw[q];refine Xc (Za (v:=cf s) (ld o2 rfl) (Za (v:=.agg bK) rfl (Qb (cM (row':=aD s) z2 rfl rfl rfl) (Xg _ l2) ?_)));have e3:=Zd (x:=.box (aD s)) e2 (by simp) (show 2≠3 by decide);have z3:ah (τ.set 2 (.box (aD s))) 2=.box (aD s):=Xe _ l2;have k3:3<(τ.set 2 (.box (aD s))).length:=by simpa using l3
  generalize τ.set 2 (.box (aD s))=τ1 at *;refine Qb (cM (row':=bK) e3 rfl rfl rfl) (Xg _ k3) ?_;refine Qi (LI (Zd z3 (by simp) (show 3≠2 by decide)) rfl) (Qi (Zr k3 rfl) ?_);unfold fO;rw[if_neg (by rw[q]; simp)];exact⟨[],aB.bn (.cons (SB.agg (SB.ro s)) (.cons (ss (e:=kS) RI.aq) .nil))⟩
end Go.Ah.Tz
end
section
namespace Go.Ah.Tz
open Go.Proofs.Tryz (prog)
set_option maxRecDepth 100000
structure Tr where
 card:Int
 side:Int
 dJ:Bool
@[reducible] def el(x:Tr):List aa:=[iv x.card,iv x.side,.bool x.dJ]
@[reducible] def sQ(l:List Tr):aa:=.ax false false 3 (l.map el)
def LE(l:List Ev)(lv:aa)(σ:List ab):Prop:=(l=[]∧lv=.aq)∨∃c rows,lv=.sl c 0 l.length false∧ah σ c=.rows 7 rows∧fk rows l
def QW(ws:List Tr)(qv:aa)(σ:List ab):Prop:=(ws=[]∧qv=.aq)∨∃c off rows,qv=.sl c off ws.length false∧ah σ c=.rows 3 rows∧rows.length=ws.length+off∧rows.drop off=ws.map el
def Kq(ex:List Nat)(sz:Nat)(σ σ':List ab):Prop:=σ.length≤σ'.length∧∀k,k<σ.length→k∉ex→(∀r,ah σ k≠.rows sz r)→ah σ' k=ah σ k
theorem Kq.trans{ex:List Nat}{sz:Nat}{σ τ υ:List ab}(h:Kq ex sz σ τ)(q:Kq ex sz τ υ):Kq ex sz σ υ:=
 ⟨Nat.le_trans h.1 q.1,λk hk hn hr=>by rw[q.2 k (Nat.lt_of_lt_of_le hk h.1) hn (by rw[h.2 k hk hn hr]; exact hr),h.2 k hk hn hr]⟩
theorem Kq.app(ex:List Nat)(sz:Nat)(σ l:List ab):Kq ex sz σ (σ++l):=⟨by simp,λ_ hk _ _=>Xo l hk⟩
theorem Kq.set{ex:List Nat}(sz:Nat)(σ:List ab){b:Nat}(x:ab)(h:b∈ex):Kq ex sz σ (σ.set b x):=
 ⟨by simp,λk hk hn _=>Zg x hk (λe=>hn (e▸h))⟩
theorem Kq.cR{ex:List Nat}{sz:Nat}{σ τ:List ab}(h:Kq ex sz σ τ){b:Nat}(hb:σ.length≤b)(x:ab):Kq ex sz σ (τ.set b x):=
 ⟨by simpa using h.1,λk hk hn hr=>by rw[Zg x (Nat.lt_of_lt_of_le hk h.1) (by omega),h.2 k hk hn hr]⟩
theorem Kq.more{ex sW:List Nat}{sz:Nat}{σ τ:List ab}(h:Kq ex sz σ τ)(hs:∀k∈ex,k∈sW):Kq sW sz σ τ:=⟨h.1,λk hk hn hr=>h.2 k hk (λe=>hn (hs k e)) hr⟩
theorem Kq.box{ex:List Nat}{sz:Nat}{σ τ:List ab}(h:Kq ex sz σ τ){k:Nat}{row:List aa}(hk:ah σ k=.box row)(hn:k∉ex):ah τ k=.box row:=by
 rw[h.2 k (Ye hk (by simp)) hn (by rw[hk]; simp),hk]
theorem Kq.rows{ex:List Nat}{sz s:Nat}{σ τ:List ab}(h:Kq ex sz σ τ){k:Nat}{rs:List (List aa)}(hk:ah σ k=.rows s rs)(hn:k∉ex)(hs:s≠sz):ah τ k=.rows s rs:=by
 rw[h.2 k (Ye hk (by simp)) hn (by simp_all),hk]
def Bx(σ:List ab)(ex:List Nat):Prop:=∀k∈ex,∃row,ah σ k=.box row
theorem Bx.rows{σ:List ab}{ex:List Nat}(h:Bx σ ex){k s:Nat}{rs:List (List aa)}(hk:ah σ k=.rows s rs):k∉ex:=by
 intro e;obtain⟨row,hr⟩:=h k e;rw[hk] at hr; cases hr
theorem LE.mono{l:List Ev}{lv:aa}{σ τ:List ab}(h:LE l lv σ)(hk:∀c rs,ah σ c=.rows 7 rs→ah τ c=.rows 7 rs):LE l lv τ:=by
 rcases h with h|⟨c,rows,h1,h2,h3⟩
 ·exact .inl h
 ·exact .inr ⟨c,rows,h1,hk _ _ h2,h3⟩
theorem QW.mono{ws:List Tr}{qv:aa}{σ τ:List ab}(h:QW ws qv σ)(hk:∀c rs,ah σ c=.rows 3 rs→ah τ c=.rows 3 rs):QW ws qv τ:=by
 rcases h with h|⟨c,off,rows,h1,h2,h3⟩
 ·exact .inl h
 ·exact .inr ⟨c,off,rows,h1,hk _ _ h2,h3⟩
theorem Er{σ:List ab}(l:List ab){c s:Nat}{rs:List (List aa)}(h:ah σ c=.rows s rs):ah (σ++l) c=.rows s rs:=Xd l h (by simp)
theorem YB{σ:List ab}{b c s:Nat}{rs:List (List aa)}{row:List aa}(x:ab)(hb:ah σ b=.box row)(h:ah σ c=.rows s rs):ah (σ.set b x) c=.rows s rs:=
 Zd h (by simp) (by rintro rfl; rw[hb] at h; cases h)
theorem Y6(n by_:Nat){σ:List ab}{c off len:Nat}{rs ys:List (List aa)}{y:aa}{rd:List Nat}(hc:ah σ c=.rows n rs)(hl:rs.length=len+off)(hy:Qp n σ y=some (ys,rd))(hr:Xs ys=true)(ct:(2*(len+ys.length)+192)*by_≤2 ^ 48) :
  Zl n by_ [.sl c off len false,y] σ=.ok (.sl σ.length 0 (len+ys.length) false) rd ([(c,.dead)]++[(σ.length,.rows n (rs.drop off++ys))]):=by
 simp_all [Zl,QH,zh,Nat.ble_eq_true_of_le]
theorem ML(n by_:Nat){σ:List ab}{ys:List (List aa)}{y:aa}{rd:List Nat}(hy:Qp n σ y=some (ys,rd))(hr:Xs ys=true)(ct:(2*ys.length+192)*by_≤2 ^ 48) :
  Zl n by_ [.aq,y] σ=.ok (.sl σ.length 0 ys.length false) rd [(σ.length,.rows n ys)]:=by
 show QH n by_ σ [] [] y=_;simp_all [QH,Nat.ble_eq_true_of_le]
theorem Kn{n:Nat}{σ:List ab}{e nn:Bool}{rows:List (List aa)}:Qp n σ (.ax e nn n rows)=some (rows,[]):=by
 simp[Qp]
theorem ME{n:Nat}{σ:List ab}{c:Nat}{row:List aa}(hc:ah σ c=.rows n [row]):Qp n σ (.sl c 0 1 true)=some ([row],[c]):=R0 hc rfl
theorem Us(l:List Tr):Xs (l.map el)=true:=M8 (λr hr=>by obtain⟨x,_,rfl⟩:=List.mem_map.1 hr; rfl)
theorem fk.app{rows ys:List (List aa)}{l m:List Ev}(h:fk rows l)(k:fk ys m):fk (rows++ys) (l++m):=by
 induction k with
 |nil=>simpa using h
 |snoc WB l2 e cv _ pA ih=>rw[←List.append_assoc,←List.append_assoc]; exact .snoc _ _ _ _ ih pA
theorem TR:∀(m:List Ev) {rows:List (List aa)} {l:List Ev},fk rows l→fk (rows++m.map eP) (l++m)
 |[],rows,l,h=>by simpa using h
 |e::m,rows,l,h=>by
  have:=TR m (fk.snoc rows l e (aV e.af) h (.inl rfl));simpa[List.append_assoc] using this
theorem LF(l:List Ev):fk (l.map eP) l:=by simpa using TR l .nil
theorem SL:∀(m:List Ev) {rows:List (List aa)} {l:List Ev},(∀e∈m,e.af=[])→fk rows l→fk (rows++m.map fK) (l++m)
 |[],rows,l,_,h=>by simpa using h
 |e::m,rows,l,hm,h=>by
  have:=SL m (λx hx=>hm x (by simp[hx])) (fk.snoc rows l e .aq h (.inr ⟨rfl,hm e (by simp)⟩));simp_all [fK]
theorem QdV(l:List Ev)(h:∀e∈l,e.af=[]):fk (l.map fK) l:=by simpa using SL l h .nil
theorem Mn{rows:List (List aa)}{l:List Ev}(h:fk rows l):Xs rows=true:=by
 refine M8 ?_
 induction h with
 |nil=>intro r hr; simp at hr
 |snoc rows l e cv _ pA ih=>
  intro r hr;rcases List.mem_append.1 hr with hr|hr
  ·exact ih r hr
  ·rw[List.mem_singleton] at hr; subst hr;rcases pA with rfl|⟨rfl,h⟩<;>rfl
attribute [local irreducible] ak.rd ak.pu ak.wr ak.dr ak.gr ak.gw ak.gl ak.gd ak.opt aH W
set_option maxHeartbeats 4000000
theorem Nb{σ:List ab}{c n:Nat}{rs:List (List aa)}(hc:ah σ c=.rows n rs)(x:ab)(ex:List Nat):Kq ex n σ (σ.set c .dead++[x]):=
 ⟨by simp,λk hk _ hr=>by
  grind [Xo,Zg]⟩
theorem Lt{σ:List ab}(c:Nat)(x:ab):ah (σ.set c .dead++[x]) σ.length=x:=by
 grind [Yf]
theorem w210{σ:List ab}{qb:Nat}{qv y:aa}{rd:List Nat}{ws ys:List Tr}(hq:ah σ qb=.box [qv])(hw:QW ws qv σ)(hy:Qp 3 σ y=some (ys.map el,rd))(ct:ws.length+ys.length≤100000000){K:aa→List ab→Prop}
 (hK:∀σ' tc,ah σ' qb=.box [tc]→QW (ws++ys) tc σ'→Kq [qb] 3 σ σ'→K (.bn []) σ'):g15.u VV [.ai qb 0,y] σ K:=by
 rw[H2.e]; unfold g15; dsimp only;have Ae:=Ye hq (by simp);refine Za rfl (Za rfl (Za (v:=qv) (ld hq rfl) ?_));rcases hw with ⟨rfl,rfl⟩|⟨c,off,rows,rfl,h2,h3,h4⟩
 ·refine Qb (ML 3 24 hy (Us _) (by simp at ct ⊢; omega)) (Yi σ _) ?_;have k1:=Kq.app [qb] 3 σ [.rows 3 (ys.map el)];have q1:=Xd [ab.rows 3 (ys.map el)] hq (by simp);have r1:=Yf σ (.rows 3 (ys.map el));have fj:=Ye q1 (by simp);generalize σ++[ab.rows 3 (ys.map el)]=τ at *;refine Za rfl (Za rfl (Qb (cM (row':=[.sl σ.length 0 (ys.map el).length false]) q1 rfl rfl rfl) (Xg _ fj) ?_));refine hK _ _ (Xe _ fj) (.inr ⟨σ.length,0,ys.map el,by simp,YB _ q1 r1,by simp,by simp⟩) (k1.trans (Kq.set 3 τ _ (by simp)))
 ·have ny:=Ye h2 (by simp);refine Qb (Y6 3 24 h2 h3 hy (Us _) (by simp at ct ⊢; omega)) (DC _ _ ny) ?_;rw[h4];have k1:=Nb h2 (.rows 3 (ws.map el++ys.map el)) [qb];have q1:ah (σ.set c .dead++[.rows 3 (ws.map el++ys.map el)]) qb=.box [.sl c off ws.length false]:=
   Xd _ (Zd hq (by simp) (by rintro rfl; rw[hq] at h2; cases h2)) (by simp)
  have r1:=Lt (σ:=σ) c (.rows 3 (ws.map el++ys.map el));have fj:=Ye q1 (by simp);generalize σ.set c .dead++[ab.rows 3 (ws.map el++ys.map el)]=τ at *;refine Za rfl (Za rfl (Qb (cM (row':=[.sl σ.length 0 (ws.length+(ys.map el).length) false]) q1 rfl rfl rfl) (Xg _ fj) ?_));refine hK _ _ (Xe _ fj) (.inr ⟨σ.length,0,ws.map el++ys.map el,by simp,YB _ q1 r1,by simp,by simp⟩) (k1.trans (Kq.set 3 τ _ (by simp)))
theorem XdE{σ:List ab}{c off m:Nat}{rows:List (List aa)}(hc:ah σ c=.rows 3 rows):ZI 3 [.sl c off (m+1) false,.int .i64 1] σ=.ok (.sl c (off+1) m false) [c] []:=by
 show (match ah σ c with
   |.rows s _=>bif Nat.beq s 3 then (bif Nat.blt 1 (m+1) then az.ok (.sl c (off+1) (m+1-1) false) [c] [] else bif Nat.beq 1 (m+1) then (bif Nat.beq 3 3 then .ok (.sl c (off+(m+1)) 0 false) [c] [] else .ok (.ax false (Nat.blt 0 (m+1)) 3 []) [] []) else .stop) else .stop
   | _=>.stop)=_
 rw[hc];cases m with
 |zero=>rfl
 |succ m=>
  rfl
theorem w213{σ:List ab}{qb:Nat}{qv:aa}{ws:List Tr}(hq:ah σ qb=.box [qv])(hw:QW ws qv σ)(wK:ws.length≤100000000){K:aa→List ab→Prop}
 (Ab:ws=[]→∀σ',ah σ' qb=.box [qv]→QW [] qv σ'→Kq [qb] 3 σ σ'→K (.bn [.agg [iv 0,iv 0,.bool false],.bool false]) σ')
 (ui:∀x lF,ws=x::lF→∀σ' tc,ah σ' qb=.box [tc]→QW lF tc σ'→Kq [qb] 3 σ σ'→K (.bn [.agg (el x),.bool true]) σ'):g22.u VV [.ai qb 0] σ K:=by
 rw[H1.e]; unfold g22; dsimp only;refine Qb (v:=.ai σ.length 0) (rd:=[]) (up:=[(σ.length,.box [iv 0,iv 0,.bool false])]) rfl (Yi σ _) ?_;have k1:=Kq.app [qb] 3 σ [.box [iv 0,iv 0,.bool false]];have q1:=Xd [ab.box [iv 0,iv 0,.bool false]] hq (by simp);have z1:=Yf σ (.box [iv 0,iv 0,.bool false]);have w1:QW ws qv (σ++[.box [iv 0,iv 0,.bool false]]):=hw.mono (λc rs h=>Er _ h);have Ae:=Ye hq (by simp);have hlen:(σ++[ab.box [iv 0,iv 0,.bool false]]).length=σ.length+1:=by simp
 generalize σ++[ab.box [iv 0,iv 0,.bool false]]=τ at *;refine Za rfl (Za rfl (Za (v:=qv) (ld q1 rfl) ?_));have hz:σ.length<τ.length:=by omega
 cases ws with
 |nil=>
  have e1:Yp [qv] τ=.ok (iv 0) [] []:=by
   rcases w1 with ⟨_,rfl⟩|⟨c,off,rows,rfl,_⟩<;>rfl
  refine Za e1 (Za rfl (Xc (Za (v:=.agg [iv 0,iv 0,.bool false]) (ld z1 rfl) (Qb (cM (row':=[iv 0,iv 0,.bool false]) z1 rfl rfl rfl) (Xg _ hz) (Qi (Zr hz rfl) ?_)))));exact Ab rfl _ (Zd q1 (by simp) (by omega)) (w1.mono (λc rs h=>YB _ z1 h)) (k1.cR (Nat.le_refl _) _)
 |cons x ws=>
  rcases w1 with ⟨h,_⟩|⟨c,off,rows,rfl,h2,h3,h4⟩
  ·cases h
  rw[List.length_cons] at *;have dT:rows[off]?=some (el x):=by
   have:(rows.drop off)[0]?=some (el x):=by rw[h4]; rfl
   grind
  have n9:rows.drop (off+1)=ws.map el:=by
   have:(rows.drop off).drop 1=ws.map el:=by rw[h4]; rfl
   rwa [List.drop_drop] at this
  refine Za (v:=iv (ws.length+1:Nat)) rfl (Za (Zf ..) (Zb (λh=>?_) (λ_=>?_)))
  ·simp at h; omega
  refine Za rfl (Za rfl (Za (v:=.sl c off (ws.length+1) false) (ld q1 rfl) (Za (v:=.ptr c (off+0) 0) (rI _ c off (ws.length+1) false 3 rows .i64 0 (by omega) h2) (Za (v:=.agg (el x)) (xp h2 dT rfl) (Qb (cM (row':=el x) z1 rfl rfl rfl) (Xg _ hz) ?_)))));have k2:=k1.cR (Nat.le_refl _) (.box (el x));have q2:=Zd (x:=.box (el x)) q1 (by simp) (show σ.length≠qb by omega);have r2:=YB (.box (el x)) z1 h2;have z2:ah (τ.set σ.length (.box (el x))) σ.length=.box (el x):=Xe _ hz;have nM:σ.length<(τ.set σ.length (.box (el x))).length:=by simpa using hz
  generalize τ.set σ.length (.box (el x))=τ2 at *;have Hc:=Ye q2 (by simp);refine Za rfl (Za rfl (Za (v:=.sl c off (ws.length+1) false) (ld q2 rfl) (Za (XdE r2) (Za rfl (Za rfl (Qb (cM (row':=[.sl c (off+1) ws.length false]) q2 rfl rfl rfl) (Xg _ Hc) ?_))))));have k3:=k2.trans (Kq.set 3 τ2 (.box [.sl c (off+1) ws.length false]) (show qb∈[qb] by simp));have q3:ah (τ2.set qb (.box [.sl c (off+1) ws.length false])) qb=.box [.sl c (off+1) ws.length false]:=Xe _ Hc;have r3:=YB (.box [.sl c (off+1) ws.length false]) q2 r2;have z3:=Zd (x:=.box [.sl c (off+1) ws.length false]) z2 (by simp) (show qb≠σ.length by omega);have Hv:σ.length<(τ2.set qb (.box [.sl c (off+1) ws.length false])).length:=by simpa using nM
  generalize τ2.set qb (.box [.sl c (off+1) ws.length false])=τ3 at *;refine Za (v:=.agg (el x)) (ld z3 rfl) (Qb (cM (row':=el x) z3 rfl rfl rfl) (Xg _ Hv) (Qi (Zr Hv rfl) ?_));exact ui x ws rfl _ _ (Zd q3 (by simp) (by omega)) (.inr ⟨c,off+1,rows,rfl,YB _ z3 r3,by omega,n9⟩) (k3.cR (Nat.le_refl _) _)
end Go.Ah.Tz
end
section
namespace Go.Ah
theorem Xdf{h0:Hp}{rd:List Nat}{x:aa}:aB h0 rd x .aF:=λ_ _ _ _ _ _ _ _ _ _ _ _=>Den.aF _ _
end Go.Ah
namespace Go.Ah.Tz
open Go.Proofs.Tryz (prog)
set_option maxRecDepth 100000
section
variable (b:Bk) (hf:aS b=true) (bN:Zj b.af) (iS:b.af.length≤61) (s:St) (hs:bu 1000000000 s) (sd tg fu:Int) (l:List Ef) (hl:bG l=true) (sX:(bS l).length≤500000000) (N C:Nat) (hT:TB N s) (hN:N+12000≤1000000) (hC:Zo s≤C) (ub:C+200≤1000000)
 (hm:aQ (cE b).1 b s true=true)
include hf bN iS hs hl sX hT hN hC ub hm
theorem NR(hb:Qv b sd fu l=false):PC 17 [dg b,cf s,.agg [iv sd,iv tg],ic l,iv fu] (.bn [cf (runs b sd tg l s fu).2.1,.aF,iv (runs b sd tg l s fu).2.2.1,iv (runs b sd tg l s fu).1]):=by
 refine Qo hP g17.ok rfl ?_;exact MD b hf bN iS s hs sd tg fu l hl sX N C hT hN hC ub (λh=>by rw[hm] at h; cases h) (λ_ h=>by rw[hb] at h; cases h)
  (λ_ _ σ' lv _ _ _=>⟨[],aB.bn (.cons (aB.ro rfl) (.cons Xdf (.cons (aB.ro rfl) (.cons (aB.ro rfl) .nil))))⟩)
theorem NQ(hb:Qv b sd fu l=true):PC 17 [dg b,cf s,.agg [iv sd,iv tg],ic l,iv fu] (.bn [.agg aU,.aq,iv 0,iv 2]):=by
 refine Qo hP g17.ok rfl ?_;exact MD b hf bN iS s hs sd tg fu l hl sX N C hT hN hC ub (λh=>by rw[hm] at h; cases h) (λ_ _ σ' _=>⟨[],aB.ro rfl⟩) (λ_ h=>by rw[hb] at h; cases h)
end
attribute [local irreducible] ak.rd ak.pu ak.wr ak.dr ak.gr ak.gw ak.gl ak.gd ak.opt aH W
set_option maxHeartbeats 4000000
theorem w211(b:Bk)(hf:aS b=true)(bN:Zj b.af)(iS:b.af.length≤61)(gK:(cE b).1=0)(x:Tr)(l:List Ef)(hl:bG l=true)(sX:(bS l).length≤500000000){s:St}{fu:Int}{N C:Nat}(hS:di b N C s)(hN:N+12000≤1000000)(hC:C+200≤1000000)
 {e8:List Ev}{lv:aa}{σ:List ab}{bb sb fb eb:Nat}(hb:ah σ bb=.box (bU b))(hs:ah σ sb=.box (aD s))(yC:ah σ fb=.box [iv fu])(he:ah σ eb=.box [lv])(hle:LE e8 lv σ)(n1:sb≠fb)(n2:sb≠eb)(n3:fb≠eb)(ct:e8.length≤100000000){K:aa→List ab→Prop}
 (zF:Qv b x.side fu l=true→∀σ',Kq [] 7 σ σ'→K (iv 2) σ')
 (zG:Qv b x.side fu l=false→(runs b x.side (-1) l s fu).1≠0→(runs b x.side (-1) l s fu).1≠190→∀σ',Kq [] 7 σ σ'→K (iv (runs b x.side (-1) l s fu).1) σ')
 (hK:Qv b x.side fu l=false→((runs b x.side (-1) l s fu).1=0∨(runs b x.side (-1) l s fu).1=190)→∀ σ' eY,ah σ' sb=.box (aD (runs b x.side (-1) l s fu).2.1)→ah σ' fb=.box [iv (runs b x.side (-1) l s fu).2.2.1]→ah σ' eb=.box [eY] →
   LE (e8 ++ (runs b x.side (-1) l s fu).2.2.2) eY σ'→Kq [sb,fb,eb] 7 σ σ'→K (iv (runs b x.side (-1) l s fu).1) σ') :
  g16.u VV [.agg (el x),ic l,.ai bb 0,.ai sb 0,.ai fb 0,.ai eb 0] σ K:=by
 rw[H6.e]; unfold g16; dsimp only;refine Qb (v:=.ai σ.length 0) (rd:=[]) (up:=[(σ.length,.box (el x))]) rfl (Yi σ _) ?_;have k1:=Kq.app [] 7 σ [.box (el x)];have b1:=Xd [ab.box (el x)] hb (by simp);have s1:=Xd [ab.box (el x)] hs (by simp);have f1:=Xd [ab.box (el x)] yC (by simp);have e1:=Xd [ab.box (el x)] he (by simp);have l1:LE e8 lv (σ++[.box (el x)]):=hle.mono (λc rs h=>Er _ h);have x1:=Yf σ (.box (el x));generalize σ++[ab.box (el x)]=τ at *;have hM:=YA.2 ⟨gK,hS.may⟩;refine Za (v:=dg b) (ld b1 rfl) (Za (v:=cf s) (ld s1 rfl) (Za rfl (Za (v:=iv x.side) (ld x1 rfl) (Za (v:=.agg [iv x.side,iv (-1)]) rfl (Za (v:=iv fu) (ld f1 rfl) ?_)))));rcases aT (Qv b x.side fu l) with ha|ha
 ·refine Xb (NQ b hf bN iS s hS.ta x.side (-1) fu l hl sX N C hS.told hN hS.af hC hM ha) rfl g17.ok.plain rfl ?_;refine Za rfl (Za rfl (Za rfl (Za rfl (Xq (row:=aU) (row':=aU) rfl rfl rfl ?_))));refine Za rfl (XQ (d:=false) (v1:=iv 2) (λ_=>rfl) (λ_=>rfl) ?_);exact Yd (zF ha _ (k1.trans (Kq.app [] 7 τ _)))
 have pI:=Dy (b:=b) (tg:=-1) (sd:=x.side) (by
  have vz:=ha;unfold Qv at vz;simp only[Bool.or_eq_false_iff,decide_eq_false_iff_not] at vz;omega) l fu hS
 have eh:nY b l=true:=by
  have vz:=ha;unfold Qv at vz;simp only[Bool.or_eq_false_iff,Bool.not_eq_false'] at vz;exact vz.2
 obtain⟨_,wO⟩:=Km eh;have aaf:=(pI (by omega) (by omega)).2;clear pI;by_cases hr:(runs b x.side (-1) l s fu).1=0∨(runs b x.side (-1) l s fu).1=190;rotate_left
 ·refine Xb (NR b hf bN iS s hS.ta x.side (-1) fu l hl sX N C hS.told hN hS.af hC hM ha) rfl g17.ok.plain rfl ?_;have hz:=zG ha (λe=>hr (.inl e)) (λe=>hr (.inr e));generalize runs b x.side (-1) l s fu=r at *;refine Za rfl (Za rfl (Za rfl (Za rfl (Xq (row:=aD r.2.1) (row':=aD r.2.1) rfl rfl rfl ?_))));refine Za (Zf ..) (XQ (d:=decide (r.1=190)) (v1:=iv r.1) (λ_=>rfl) (λ_=>Zf ..) ?_);rw[show (decide (r.1=0)||decide (r.1=190))=false by simpa using hr];exact Yd (hz _ (k1.trans (Kq.app [] 7 τ _)))
 refine Xb (NS b hf bN iS s hS.ta x.side (-1) fu l hl sX N C hS.told hN hS.af hC hM ha hr) rfl g17.ok.plain rfl ?_;have j6:=hK ha hr;generalize runs b x.side (-1) l s fu=r at *;refine Za rfl (Za rfl (Za rfl (Za rfl (Xq (row:=aD r.2.1) (row':=aD r.2.1) rfl rfl rfl ?_))));refine Za (Zf ..) (XQ (d:=decide (r.1=190)) (v1:=iv r.1) (λ_=>rfl) (λ_=>Zf ..) ?_);rw[show (decide (r.1=0)||decide (r.1=190))=true by simpa using hr];have k2:=k1.trans (Kq.app [] 7 τ [.box (aD r.2.1)]);have s2:=Xd [ab.box (aD r.2.1)] s1 (by simp);have f2:=Xd [ab.box (aD r.2.1)] f1 (by simp);have e2:=Xd [ab.box (aD r.2.1)] e1 (by simp);have l2:LE e8 lv (τ++[.box (aD r.2.1)]):=l1.mono (λc rs h=>Er _ h);have t2:=Yf τ (.box (aD r.2.1));generalize τ.length=tn at *;generalize τ++[ab.box (aD r.2.1)]=τ2 at *;have htn:=Ye t2 (by simp);have Pv:=Ye s2 (by simp);have sY:=Ye f2 (by simp);have hel:=Ye e2 (by simp);have k2':Kq [sb,fb,eb] 7 σ τ2:=k2.more (by simp);refine Xc (Yg (v:=cf r.2.1) (ld t2 rfl) (Xi _) (Yg (v:=lv) (ld e2 rfl) (Xi _) ?_));have mR:=Mn (LF r.2.2.2);have fin:∀(υ:List ab) (nv:aa),Kq [sb,fb,eb] 7 τ2 υ→ah υ sb=.box (aD s)→ah υ fb=.box [iv fu]→ah υ eb=.box [lv]→LE (e8++r.2.2.2) nv υ →
   K (iv r.1) (((υ.set sb (.box (aD r.2.1))).set fb (.box [iv r.2.2.1])).set eb (.box [nv])):=by
  intro υ nv hk hs hf he hl;have h1:=Ye hs (by simp);have h2:=Ye hf (by simp);have h3:=Ye he (by simp);have kA:=k2'.trans hk;have kB:=kA.trans (Kq.set 7 υ (.box (aD r.2.1)) (show sb∈[sb,fb,eb] by simp));have sB:ah (υ.set sb (.box (aD r.2.1))) sb=.box (aD r.2.1):=Xe _ h1;have fB:=Zd (x:=.box (aD r.2.1)) hf (by simp) n1;have eB:=Zd (x:=.box (aD r.2.1)) he (by simp) n2;have lB:LE (e8++r.2.2.2) nv (υ.set sb (.box (aD r.2.1))):=hl.mono (λc rs h=>YB _ hs h);generalize υ.set sb (.box (aD r.2.1))=υ1 at *;have N_:=Ye fB (by simp);have kC:=kB.trans (Kq.set 7 υ1 (.box [iv r.2.2.1]) (show fb∈[sb,fb,eb] by simp));have sC:=Zd (x:=.box [iv r.2.2.1]) sB (by simp) n1.symm;have fC:ah (υ1.set fb (.box [iv r.2.2.1])) fb=.box [iv r.2.2.1]:=Xe _ N_;have eC:=Zd (x:=.box [iv r.2.2.1]) eB (by simp) n3;have lC:LE (e8++r.2.2.2) nv (υ1.set fb (.box [iv r.2.2.1])):=lB.mono (λc rs h=>YB _ fB h);generalize υ1.set fb (.box [iv r.2.2.1])=υ2 at *;have wF:=Ye eC (by simp);exact j6 _ nv (Zd sC (by simp) n2.symm) (Zd fC (by simp) n3.symm) (Xe _ wF) (lC.mono (λc rs h=>YB _ eC h)) (kC.trans (Kq.set 7 υ2 _ (by simp)))
 rcases l2 with ⟨rfl,rfl⟩|⟨c,rows,rfl,h2,h3⟩
 ·refine Yg (ML 7 72 Kn mR (by simp; omega)) (Yi τ2 _) ?_;have hk:=Kq.app [sb,fb,eb] 7 τ2 [.rows 7 (r.2.2.2.map eP)];have s3:=Xd [ab.rows 7 (r.2.2.2.map eP)] s2 (by simp);have f3:=Xd [ab.rows 7 (r.2.2.2.map eP)] f2 (by simp);have e3:=Xd [ab.rows 7 (r.2.2.2.map eP)] e2 (by simp);have r3:=Yf τ2 (.rows 7 (r.2.2.2.map eP));have zE:=fin _ (.sl τ2.length 0 (r.2.2.2.map eP).length false) hk s3 f3 e3 (.inr ⟨τ2.length,_,by simp,r3,by simpa using LF r.2.2.2⟩);have q1:τ2.length≠sb:=by omega
  have q2:τ2.length≠fb:=by omega
  have q3:τ2.length≠eb:=by omega
  have q4:τ2.length≠tn:=by omega
  generalize τ2++[ab.rows 7 (r.2.2.2.map eP)]=υ at *;generalize τ2.length=m at *;refine Yg (cM (row':=aD r.2.1) s3 rfl rfl rfl) (Xg _ (Ye s3 (by simp))) ?_;have f4:=Zd (x:=.box (aD r.2.1)) f3 (by simp) n1;have e4:=Zd (x:=.box (aD r.2.1)) e3 (by simp) n2;refine Yg (cM (row':=[iv r.2.2.1]) f4 rfl rfl rfl) (Xg _ (Ye f4 (by simp))) ?_;have e5:=Zd (x:=.box [iv r.2.2.1]) e4 (by simp) n3;refine Yg (cM (row':=[.sl m 0 (r.2.2.2.map eP).length false]) e5 rfl rfl rfl) (Xg _ (Ye e5 (by simp))) ?_;refine Xr (by simp[Xn,Zu,Qq,XF,c9,eZ,List.range,List.range.loop,n1,n2,n3,n1.symm,n2.symm,n3.symm,q1,q2,q3,q4,q1.symm,q2.symm,q3.symm,q4.symm]) ?_;exact zE
 ·refine Yg (Y6 7 72 h2 (by rw[h3.len,Nat.add_zero]) Kn mR (by simp; omega)) (DC _ _ (Ye h2 (by simp))) ?_;rw[List.drop_zero];have gC:c≠sb:=by rintro rfl; rw[h2] at s2; cases s2
  have D8:c≠fb:=by rintro rfl; rw[h2] at f2; cases f2
  have Oy:c≠eb:=by rintro rfl; rw[h2] at e2; cases e2
  have yx:c≠tn:=by rintro rfl; rw[h2] at t2; cases t2
  have hk:=Nb h2 (.rows 7 (rows++r.2.2.2.map eP)) [sb,fb,eb];have s3:ah (τ2.set c .dead++[.rows 7 (rows++r.2.2.2.map eP)]) sb=_:=Xd _ (Zd s2 (by simp) gC) (by simp);have f3:ah (τ2.set c .dead++[.rows 7 (rows++r.2.2.2.map eP)]) fb=_:=Xd _ (Zd f2 (by simp) D8) (by simp);have e3:ah (τ2.set c .dead++[.rows 7 (rows++r.2.2.2.map eP)]) eb=_:=Xd _ (Zd e2 (by simp) Oy) (by simp);have r3:=Lt (σ:=τ2) c (.rows 7 (rows++r.2.2.2.map eP));have zE:=fin _ (.sl τ2.length 0 (e8.length+(r.2.2.2.map eP).length) false) hk s3 f3 e3 (.inr ⟨τ2.length,_,by simp,r3,h3.app (LF r.2.2.2)⟩);have q1:τ2.length≠sb:=by omega
  have q2:τ2.length≠fb:=by omega
  have q3:τ2.length≠eb:=by omega
  have q4:τ2.length≠tn:=by omega
  generalize τ2.set c .dead++[ab.rows 7 (rows++r.2.2.2.map eP)]=υ at *;generalize τ2.length=m at *;refine Yg (cM (row':=aD r.2.1) s3 rfl rfl rfl) (Xg _ (Ye s3 (by simp))) ?_;have f4:=Zd (x:=.box (aD r.2.1)) f3 (by simp) n1;have e4:=Zd (x:=.box (aD r.2.1)) e3 (by simp) n2;refine Yg (cM (row':=[iv r.2.2.1]) f4 rfl rfl rfl) (Xg _ (Ye f4 (by simp))) ?_;have e5:=Zd (x:=.box [iv r.2.2.1]) e4 (by simp) n3;refine Yg (cM (row':=[.sl m 0 (e8.length+(r.2.2.2.map eP).length) false]) e5 rfl rfl rfl) (Xg _ (Ye e5 (by simp))) ?_;refine Xr (by simp[Xn,Zu,Qq,XF,c9,eZ,List.range,List.range.loop,n1,n2,n3,n1.symm,n2.symm,n3.symm,q1,q2,q3,q4,q1.symm,q2.symm,q3.symm,q4.symm,gC,D8,Oy,yx,gC.symm,D8.symm,Oy.symm,yx.symm]) ?_;exact zE
end Go.Ah.Tz
end
