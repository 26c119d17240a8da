/- Part of the proof that ArchiveBytes holds of the program for arguments that together hold at most 1048576 values and letters; no other condition. -/
import Derived.Test.YtflkgbeolnbadaaGreatDoorZ2
import Derived.DataReads
import Derived.ChangeShapes
import Derived.RecoverIn
import Derived.KernelRfl
set_option linter.all false
section
namespace Go.Ah
def W(P:Program)(GL:Globs)(Z:PZ):Ans Prop where
 stop:=False
 call k xs σ K:=∃R,OpRelP P GL k xs σ R Z∧∀v σ',R v σ'→K v σ'
 dcall k xs σ K:=∃v rd up σ',OpSem P GL k xs (hp σ) v rd up∧upL σ up=some σ'∧K v (rd,up.map (·.1)) σ'
 test v a b:=match v with
  |.bool c=>(c=true→a)∧(c=false→b)
  |_=>False
 loop F vs σ:=∃n,iterA False n F vs σ
 rng v id row σ K:=∃f ys R,Zk .callv [v,.iter σ.length]=some (f,ys)∧Qi P f=true∧OpRel P GL .callv [v,.iter σ.length] (σ++[.lp id row 0]) R ∧
  ∀u σ',R u σ'→∃id' row' st,hget σ' σ.length=.lp id' row' st∧K st (σ'.set σ.length .dead)
theorem YcG(P:Program)(GL:Globs)(Z:PZ):AnsOk P GL Z (W P GL Z) (λp=>p) where
 stop:=λh=>h
 call:=λh=>h
 dcall:=λh=>h
 test:=λ{v a b} h=>by
  simp only[W] at h
  grind
 loop:=λh=>h
 rng:=λh=>h
section
variable {P:Program} {GL:Globs} {Z:PZ}
theorem GOk.awp(hP:POk P){α:Type}{A:Ans α}{hold:α→Prop}(ok:AnsOk P GL Z A hold){f:FuncId}{np:Nat}{g:GFun}(hg:GOk P GL f np g){xs:List AVal}(hn:xs.length=np){σ:List ABlk}{ret:AVal→List ABlk→α}(h:hold (g A xs σ ret)) :
  ∃F,FnOk P GL f F∧F.np=np∧Awp P GL Z F.n F.body (frame0 xs) σ (λe ρ σ'=>(e=.normal∨e=.ret)∧∃v,retV F.rets ρ σ'=some v∧hold (ret v σ')):=by
 obtain⟨D,h1,h2,h3,h4⟩:=hg.ex;rw[h4 α A xs σ ret hn] at h;exact⟨D.fn,h2,h1,Qb6 hP ok h3 h⟩
theorem Xo(hP:POk P){f:FuncId}{np:Nat}{g:GFun}(hg:GOk P GL f np g){xs:List AVal}(hn:xs.length=np){v:AVal}(hv:v.ro=true)(h:g (W P GL noZ) xs [] (λv' _=>v'=v)):PCall P GL f xs v:=by
 obtain⟨F,h1,h2,h3⟩:=hg.awp hP (YcG P GL _) hn h;refine QaF h1 (hn.trans h2.symm) hv (h3.mono λe ρ σ k=>?_);simp_all
theorem Xa5(hP:POk P){f:FuncId}{np:Nat}{g:GFun}(hg:GOk P GL f np g){xs:List AVal}(hn:xs.length=np){v:AVal}{bs:List ABlk}(h:g (W P GL noZ) xs [] (λv' σ=>v'=v∧σ=bs)):NCall P GL f xs v bs:=by
 obtain⟨F,h1,h2,h3⟩:=hg.awp hP (YcG P GL _) hn h;refine YaF h1 (hn.trans h2.symm) (h3.mono λe ρ σ k=>?_)
 grind
def frz(σ:List ABlk)(v:AVal):Option AVal:=match v with
 |.tup vs=>match YA σ 1000 vs with
  |some (ys,_)=>some (.tup ys)
  |none=>none
 |v=>match YA σ 1000 [v] with
  |some ([y],_)=>some y
  |_=>none
theorem Xc1{σ:List ABlk}{v y:AVal}(hy:frz σ v=some y){w0:World}{L:Ln}{g:Gm}{w:World}{M2:Nat→Option Obj}(r:Rep GL w0 L g (hp σ) w)(cov:Cov g (hp σ) w M2){u:Value}(hd:g.den v u):Den M2 noOwn y u:=by
 unfold frz at hy;split at hy
 ·rename_i vs;split at hy
  ·rename_i ys rd hb;cases hy;have hbor:=ZY _ _ _ _ hb rd (λ_ q=>q);cases hd with
   |tup _ _ us hs hd=>
    have hd2:=hbor GL w0 L g (hp σ) w M2 r cov (λ_ _=>rfl) us.toList (DenL.of_get (by simp[hs]) (λi x v e1 e2=>hd i x v e1 (by simpa using e2)));exact .tup _ _ _ (by have:=hd2.length; simpa using this.symm) (λi x v e1 e2=>hd2.get i x v e1 (by simpa using e2))
  ·cases hy
 ·split at hy
  ·rename_i y' rd hb;cases hy;have hbor:=ZY _ _ _ _ hb rd (λ_ q=>q);exact(hbor GL w0 L g (hp σ) w M2 r cov (λ_ _=>rfl) [u] ⟨hd,trivial⟩).1
  ·cases hy
theorem XaX{f:FuncId}{xs:List AVal}{v y:AVal}{bs:List ABlk}(h:NCall P GL f xs v bs)(hy:frz bs v=some y):PCall P GL f xs y:=by
 intro w M vs hM hg hx;refine(h w M vs hM hg hx).mono ?_;rintro e w' ⟨u,he,g',hle,r,hd⟩
 let M2:Nat→Option Obj:=λb=>if b<w.heap.size then g'.M b else w'.heap[b]?
 have cov:Cov g' (hp bs) w' M2:=by
  refine⟨λb o e=>?_,λb blk cb o e1 e2 e3 e4 e5=>?_⟩
  ·show (if b<w.heap.size then g'.M b else w'.heap[b]?)=some o;split
   ·exact e
   ·exact r.stable b o e
  ·obtain⟨_,hin,_⟩:=r.own b blk cb e1 e2 e3 e4
   grind
 have hd2:=Xc1 hy r cov hd;refine⟨u,he,r.keeps,M2,λb o e=>cov.1 b o (hle b o e),λb o e=>?_,λb o e=>?_,hd2⟩
 ·have e':(if b<w.heap.size then g'.M b else w'.heap[b]?)=some o:=e;split at e'
  ·exact r.stable b o e'
  ·exact e'
 ·have e':(if b<w.heap.size then g'.M b else w'.heap[b]?)=some o:=e;split at e'
  ·rcases r.src b o e' with q|q|q<;>simp_all
  ·exact .inr (by omega)
theorem Q9{k:MK}{xs:List AVal}{σ σ':List ABlk}{v:AVal}{rd:List Nat}{up:List (Nat×ABlk)}(h:OpSem P GL k xs (hp σ) v rd up)(hu:upL σ up=some σ'):OpRelP P GL k xs σ (λv' s=>v'=v∧s=σ') Z:=by
 intro o os hc w0 L g w a r hx;have:=h o os hc w0 L g (hp σ) w a r hx (λ_ _=>rfl) (λ_ _=>rfl);rw[Yay _ _ _ hu] at this;generalize (execOp a.eval o).run P w=res at this;cases res with
 |ok nx w'=>
  cases nx with
  |value u=>obtain⟨g',k1,k2,k3⟩:=this; exact⟨g',v,σ',⟨rfl,rfl⟩,k1,k2,k3⟩
  |skip=>obtain⟨g',k1,k2,k3⟩:=this; exact⟨g',σ',⟨k3.symm,rfl⟩,k1,k2⟩
  |enter f args=>
   exact Calls.mono this (λe w'' q=>OutE.of (by obtain⟨u,e1,g',k1,k2,k3⟩:=q; exact⟨u,e1,g',v,σ',⟨rfl,rfl⟩,k1,k2,k3⟩))
  |_=>exact this.elim
 |_=>exact this.elim
theorem Yv{k:MK}{xs ys:List AVal}{f:FuncId}(hc:Zk k xs=some (f,ys))(hp':Qi P f=true){σ:List ABlk}{v:AVal}{rd:List Nat}{up:List (Nat×ABlk)}(h:ACall P GL f ys (hp σ) v rd up):OpSem P GL k xs (hp σ) v rd up:=by
 unfold Zk at hc
 grind [QcQ,Zcz,Yca]
theorem Qa8{k:MK}{xs ys:List AVal}{f:FuncId}(hc:Zk k xs=some (f,ys))(hp':Qi P f=true){σ σ':List ABlk}{v:AVal}{rd:List Nat}{up:List (Nat×ABlk)}(h:ACall P GL f ys (hp σ) v rd up)(hu:upL σ up=some σ'){K:KT}(hK:K v σ'):(W P GL Z).call k xs σ K:=
 ⟨_,Q9 (Yv hc hp' h) hu,by rintro _ _ ⟨rfl,rfl⟩; exact hK⟩
theorem XaL{k:MK}{xs ys:List AVal}{f:FuncId}(hc:Zk k xs=some (f,ys))(hp':Qi P f=true){σ σ':List ABlk}{v:AVal}{rd:List Nat}{up:List (Nat×ABlk)}(h:ACall P GL f ys (hp σ) v rd up)(hu:upL σ up=some σ'){K:AVal→List Nat×List Nat→List ABlk→Prop}(hK:K v (rd,up.map (·.1)) σ'):(W P GL Z).dcall k xs σ K:=
 ⟨v,rd,up,σ',Yv hc hp' h,hu,hK⟩
theorem Ze(hP:POk P){k:MK}{xs ys:List AVal}{f:FuncId}(hc:Zk k xs=some (f,ys)){np:Nat}{g:GFun}(hg:GOk P GL f np g)(hn:ys.length=np){σ:List ABlk}{K:KT}(h:g (W P GL Z) ys σ K):(W P GL Z).call k xs σ K:=by
 obtain⟨F,h1,h2,h3⟩:=hg.awp hP (YcG P GL _) hn h;exact⟨K,Xa6 hc hg.plain h1 (hn.trans h2.symm) h3,λ_ _ q=>q⟩
theorem Yad{k:MK}{xs ys:List AVal}{f:FuncId}{v:AVal}(h:PCall P GL f ys v)(hc:Zk k xs=some (f,ys))(hp':Qi P f=true)(hro:roL ys=true){σ:List ABlk}{K:KT}(hK:K v σ):(W P GL Z).call k xs σ K:=
 Qa8 hc hp' (h.here hro (hp σ)) (ZT σ) hK
theorem Qcd{k:MK}{xs ys:List AVal}{f:FuncId}{v:AVal}(h:PCall P GL f ys v)(hc:Zk k xs=some (f,ys))(hp':Qi P f=true)(hro:roL ys=true){σ:List ABlk}{K:AVal→List Nat×List Nat→List ABlk→Prop}(hK:K v ([],[]) σ):(W P GL Z).dcall k xs σ K:=
 XaL hc hp' (h.here hro (hp σ)) (ZT σ) hK
theorem Xp{ι:Type}(I:ι→KTs)(μ:ι→Nat){F:(KTs)→KTs}(i0:ι){vs:List AVal}{σ:List ABlk}(h0:I i0 vs σ)
 (round:∀i vs σ again,I i vs σ→(∀j vs' σ',μ j<μ i→I j vs' σ'→again vs' σ')→F again vs σ):(W P GL Z).loop F vs σ:=by
 have key:∀(m:Nat) (i:ι) (vs:List AVal) (σ:List ABlk),μ i<m→I i vs σ→iterA False m F vs σ:=by
  intro m
  induction m with
  |zero=>intro i vs σ h; omega
  |succ m ih=>
   intro i vs σ h hI;exact round i vs σ _ hI (λj vs' σ' hlt hj=>ih j vs' σ' (by omega) hj)
 exact⟨_,key (μ i0+1) i0 vs σ (by omega) h0⟩
end
section
variable {P:Program} {GL:Globs} {Z:PZ}
theorem Q6:(W P GL Z).stop=False:=rfl
theorem Qc8(c:Bool)(a b:Prop):(W P GL Z).test (.bool c) a b=((c=true→a)∧(c=false→b)):=rfl
end
section
variable {α:Type} (A:Ans α)
theorem rd_ok(v:AVal)(rd:List Nat)(K:AVal→α):A.rd (.ok v rd []) K=K v:=rfl
theorem pu_ok(v:AVal)(K:AVal→α):A.pu (.ok v [] []) K=K v:=rfl
theorem Xc7(v:AVal)(rd:List Nat)(up:List (Nat×ABlk))(σ:List ABlk)(K:AVal→List ABlk→α):A.wr (.ok v rd up) σ K=A.opt (upL σ up) (K v):=by
 show (match upL σ up with|some σ'=>K v σ'|none=>A.stop)=_;unfold Ans.opt; cases upL σ up<;>rfl
theorem Zdc(v:AVal)(rd:List Nat)(up:List (Nat×ABlk))(σ:List ABlk)(K:AVal→List Nat×List Nat→List ABlk→α):A.dr (.ok v rd up) σ K=A.opt (upL σ up) (K v (rd,up.map (·.1))):=by
 show (match upL σ up with|some σ'=>K v _ σ'|none=>A.stop)=_;unfold Ans.opt; cases upL σ up<;>rfl
theorem XbT{β:Type}(v:β)(K:β→α):A.opt (some v) K=K v:=rfl
theorem Qc1(k:α):A.gd true k=k:=rfl
end
theorem ZP{n:Nat}:∀ {a b:List Nat},Zo n (a++b)=true→Zo n a=true∧Zo n b=true
 |[],_,h=>⟨rfl,h⟩
 |x::a,b,h=>by
  simp only[List.cons_append,Zo,Bool.and_eq_true] at h;obtain⟨h1,h2⟩:=ZP h.2;exact⟨by simp[Zo,h.1,h1],h2⟩
def tstC{α:Type}(stop:α)(v:AVal)(a b:α):α:=match v with
 |.bool true=>a
 |.bool false=>b
 |_=>stop
abbrev CG:=FuncId→List AVal→List ABlk→Option (AVal×List ABlk)
def ZbO(cg:CG)(f:FuncId)(ys:List AVal)(σ:List ABlk):Option (AVal × List ABlk):=bif Zo σ.length (idsL ys) then (match cg f (renL (ltM σ.length) ys) (YD σ) with
 | some (v,σ')=>(match ZS σ.length σ' with
  |some news=>some (v,news)
  | none=>none)
 | none=>none) else none
def Zda:ABlk→List Nat
 |.box row=>idsL row
 |.rows _ rs=>rs.flatMap idsL
 |.lp _ row _=>idsL row
 |_=>[]
def ZaR(σ:List ABlk):Nat→List Nat→List Nat→List Nat
 |0,_,seen=>seen
 |_+1,[],seen=>seen
 |n+1,b::r,seen=>bif inL b seen then ZaR σ n r seen else ZaR σ n (Zda (hget σ b)++r) (b::seen)
def Zbo(cg:CG)(f:FuncId)(ys:List AVal)(σ:List ABlk)(ids:List Nat):SRes:=bif Zo σ.length (idsL ys) && Zo σ.length ids then (match cg f (renL (ltM σ.length) ys) (maskR ids σ) with
 |some (v,τ)=>bif Nat.ble σ.length τ.length then .ok (v.ren (keepM ids σ.length (τ.length-σ.length))) ids ((ids++List.range' σ.length (τ.length-σ.length)).map λb=>(b,(hget τ b).mapV (AVal.ren (keepM ids σ.length (τ.length-σ.length))))) else .stop
 | none=>.stop) else .stop
def XbN(cg:CG)(k:MK)(xs:List AVal)(σ:List ABlk):SRes:=match Zk k xs with
 |none=>.stop
 | some (f,ys)=>bif roL ys then (match cg f ys [] with
   |some (v,bs)=>bif v.ro then .ok v [] [] else .ok (v.ren (QR σ.length)) [] (Yp σ.length (QI σ.length bs))
   | none=>.stop)
  else match ZbO cg f ys σ with
  |some (v,news)=>bif v.ro then .ok (v.ren (keepM (idsL ys) σ.length 0)) (idsL ys) [] else .ok (v.ren (keepM (idsL ys) σ.length news.length)) (idsL ys) (Yp σ.length (news.map (ABlk.mapV (AVal.ren (keepM (idsL ys) σ.length news.length)))))
  |none=>match YA σ 1000 ys with
   | some (zs,rd)=>(match cg f zs [] with
    |some (v,bs)=>bif v.flat&&v.ro then .ok v rd [] else bif v.nosh&&XaF bs then .ok (v.ren (QR σ.length)) rd (Yp σ.length (QI σ.length bs)) else Zbo cg f ys σ (ZaR σ 1000 (idsL ys) [])
    | none=>Zbo cg f ys σ (ZaR σ 1000 (idsL ys) []))
   |none=>Zbo cg f ys σ (ZaR σ 1000 (idsL ys) [])
def Cl(much:Nat)(cg:CG):Ans (Option (AVal×List ABlk)) where
 stop:=none
 call k xs σ K:=match Zk k xs with
  |some (f,ys)=>match cg f ys σ with
   |some (v,σ')=>K v σ'
   |none=>none
  |none=>none
 dcall k xs σ K:=match XbN cg k xs σ with
  |.ok v rd up=>match upL σ up with
   |some σ'=>K v (rd,up.map (·.1)) σ'
   |none=>none
  |.stop=>none
 test:=tstC none
 loop F vs σ:=iterA none much F vs σ
 rng _ _ _ _ _:=none
section
variable {P:Program} {GL:Globs} {Z:PZ}
def CGOk(P:Program)(GL:Globs)(cg:CG):Prop:=∀f xs σ v σ',cg f xs σ=some (v,σ')→Qi P f=true∧(∀k ys,Zk k ys=some (f,xs)→OpRel P GL k ys σ (λv' s=>v'=v∧s=σ')) ∧
 (σ=[]→NCall P GL f xs v σ'∧(v.ro=true→PCall P GL f xs v)) ∧
 (roL xs=false→∃F,FnOk P GL f F∧F.np=xs.length∧Awp P GL noZ F.n F.body (frame0 xs) σ (λe ρ s=>(e=.normal∨e=.ret)∧∃v',retV F.rets ρ s=some v'∧v'=v∧s=σ'))
theorem CGOk.ncall{cg:CG}(h:CGOk P GL cg){f:FuncId}{xs:List AVal}{v:AVal}{bs:List ABlk}(hc:cg f xs []=some (v,bs)):NCall P GL f xs v bs:=((h f xs [] v bs hc).2.2.1 rfl).1
theorem CGOk.pcall{cg:CG}(h:CGOk P GL cg){f:FuncId}{xs:List AVal}{v:AVal}{bs:List ABlk}(hc:cg f xs []=some (v,bs))(hv:v.ro=true):PCall P GL f xs v:=((h f xs [] v bs hc).2.2.1 rfl).2 hv
theorem YbC{f:FuncId}{xs:List AVal}{σ σ':List ABlk}{v:AVal}{F:MFn}(hp':Qi P f=true)(h1:FnOk P GL f F)(h2:F.np=xs.length)(h3:Awp P GL noZ F.n F.body (frame0 xs) σ (λe ρ s=>(e=.normal∨e=.ret)∧∃v',retV F.rets ρ s=some v'∧v'=v∧s=σ')) :
  Qi P f=true∧(∀k ys,Zk k ys=some (f,xs)→OpRel P GL k ys σ (λv' s=>v'=v∧s=σ'))∧(σ=[]→NCall P GL f xs v σ'∧(v.ro=true→PCall P GL f xs v)) ∧
  (roL xs=false→∃F,FnOk P GL f F∧F.np=xs.length∧Awp P GL noZ F.n F.body (frame0 xs) σ (λe ρ s=>(e=.normal∨e=.ret)∧∃v',retV F.rets ρ s=some v'∧v'=v∧s=σ')):=by
 refine⟨hp',λk ys hc=>Xa6 hc hp' h1 h2.symm h3,λhσ=>?_,λ_=>⟨F,h1,h2,h3⟩⟩;subst hσ;refine⟨YaF h1 h2.symm (h3.mono λe ρ s k=>?_),λhv=>QaF h1 h2.symm hv (h3.mono λe ρ s k=>?_)⟩
 ·obtain⟨k1,v',k2,rfl,rfl⟩:=k;exact⟨k1,k2,rfl⟩
 ·obtain⟨k1,v',k2,rfl,rfl⟩:=k;exact⟨k1,k2⟩
mutual
theorem AVal.ro_ren_ltM {n:Nat}:∀ {x:AVal},Zo n x.ids=true→(x.ren (ltM n)).ro=true→x.ro=true
 |.bptr b j,h,k=>by
  grind [AVal.ids,Zo,AVal.ren,ltM]
 |.ptr b i j,h,k=>by
  grind [AVal.ids,Zo,AVal.ren,ltM]
 |.sl b o l e,h,k=>by
  grind [AVal.ids,Zo,AVal.ren,ltM]
 |.map b,h,k=>by
  grind [AVal.ids,Zo,AVal.ren,ltM]
 |.iter b,h,k=>by
  grind [AVal.ids,Zo,AVal.ren,ltM]
 |.bsl b _ _ _,h,k=>by
  grind [AVal.ids,Zo,AVal.ren,ltM]
 |.func fn xs ys,h,k=>by
  simp only[AVal.ids] at h
  obtain⟨a,b⟩:=ZP h
  simp only[AVal.ren,AVal.ro,Bool.and_eq_true] at k ⊢
  exact⟨XI a k.1,XI b k.2⟩
 |.iface t v,h,k=>AVal.ro_ren_ltM (x:=v) h k
 |.agg cs,h,k=>XI (xs:=cs) h k
 |.tup cs,h,k=>XI (xs:=cs) h k
 |.when cs x,h,k=>AVal.ro_ren_ltM (x:=x) h k
 |.junk,_,_=>rfl
 |.bool _,_,_=>rfl
 |.int _ _,_,_=>rfl
 |.str _,_,_=>rfl
 |.nilp,_,_=>rfl
 |.rptr _ _,_,_=>rfl
 |.nils,_,_=>rfl
 |.cap0,_,_=>rfl
 |.rsl _ _ _ _,_,_=>rfl
 |.rmap _,_,_=>rfl
 |.nilmap,_,_=>rfl
 |.nilf,_,_=>rfl
 |.nili,_,_=>rfl
theorem XI {n:Nat}:∀ {xs:List AVal},Zo n (idsL xs)=true→roL (renL (ltM n) xs)=true→roL xs=true
 |[],_,_=>rfl
 |x::xs,h,k=>by
  simp only[idsL] at h
  obtain⟨a,b⟩:=ZP h
  simp only[renL,roL,Bool.and_eq_true] at k ⊢
  exact⟨AVal.ro_ren_ltM a k.1,XI b k.2⟩
end
theorem Yaw{n:Nat}{xs:List AVal}(h:Zo n (idsL xs)=true)(k:roL xs=false):roL (renL (ltM n) xs)=false:=by
 grind [XI]
theorem XaM{cg:CG}(h:CGOk P GL cg){k:MK}{f:FuncId}{xs ys:List AVal}{σ:List ABlk}{ids:List Nat}(hc:Zk k xs=some (f,ys))(hnro:roL ys=false){v:AVal}{rd:List Nat}{up:List (Nat×ABlk)}(e:Zbo cg f ys σ ids=.ok v rd up):OpSem P GL k xs (hp σ) v rd up:=by
 unfold Zbo at e
 replace e:=Qc e
 obtain⟨hb,e⟩:=e;simp only[Bool.and_eq_true] at hb;split at e
 ·rename_i v' τ hc2
  replace e:=Qc e
  obtain⟨hle,e⟩:=e;obtain⟨hpl,_,_,hF⟩:=h f _ _ _ _ hc2;obtain⟨F,f1,f2,f3⟩:=hF (Yaw hb.1 hnro);cases e;have hn:ys.length=F.np:=by rw[f2,Qr]
  have:=YNL hle;exact Yv hc hpl (QaD f1 hn σ ids ids (λ_ q=>q) (Y1 hb.2) rfl rfl (f3.mono λe ρ s k=>by
   grind) (by omega))
 ·cases e
theorem Qcn{cg:CG}(h:CGOk P GL cg){k:MK}{xs:List AVal}{σ:List ABlk}{v:AVal}{rd:List Nat}{up:List (Nat×ABlk)}(e:XbN cg k xs σ=.ok v rd up):OpSem P GL k xs (hp σ) v rd up:=by
 unfold XbN at e;split at e
 ·cases e
 ·rename_i f ys hc;have hnew:∀(bs:List ABlk) (i:Nat),i<bs.length→hp σ (σ.length+i)=none:=λbs i _=>by simp[hp]
  replace e:=Qz e
  rcases e with ⟨hro,e⟩|⟨hnro,e⟩
  ·split at e
   ·rename_i v' bs hv
    replace e:=Qz e
    rcases e with ⟨hvr,e⟩|⟨_,e⟩
    ·cases e; exact Yv hc (h f ys [] _ _ hv).1 ((h.pcall hv hvr).here hro _)
    ·cases e; exact Yv hc (h f ys [] _ _ hv).1 ((h.ncall hv).here hro (hnew bs))
   ·cases e
  ·split at e
   ·rename_i v' news hd;unfold ZbO at hd;obtain⟨hbel,hd⟩:=Ql hd;split at hd
    ·rename_i v2 σ' hc2;split at hd
     ·rename_i news2 hs2;cases hd;obtain⟨hpl,_,_,hF⟩:=h f _ _ _ _ hc2;obtain⟨F,f1,f2,f3⟩:=hF (Yaw hbel hnro);have:=ZaH _ _ _ hs2;subst this;have hw:Awp P GL noZ F.n F.body (frame0 (renL (ltM σ.length) ys)) (YD σ) (λe ρ s=>(e=.normal∨e=.ret)∧retV F.rets ρ s=some v'∧s=YD σ++news):=f3.mono λe ρ s k=>by
       grind
      have hn:ys.length=F.np:=by rw[f2,Qr]
      replace e:=Qz e
      rcases e with ⟨_,e⟩|⟨_,e⟩
      ·cases e;exact Yv hc hpl (Zao f1 hn σ (idsL ys) (Y1 hbel) (bs:=[]) (.inr rfl) hw)
      ·cases e;exact Yv hc hpl (Zao f1 hn σ (idsL ys) (Y1 hbel) (bs:=news) (.inl rfl) hw)
     ·cases hd
    ·cases hd
   split at e
   ·rename_i zs rd' hb;split at e
    ·rename_i v' bs hv
     replace e:=Qz e
     rcases e with ⟨hvr,e⟩|⟨_,e⟩
     ·simp only[Bool.and_eq_true] at hvr;cases e;exact Yv hc (h f zs [] _ _ hv).1 ((h.pcall hv hvr.2).lend (ZY _ _ _ _ hb _ (λ_ q=>q)) hvr.1)
     ·replace e:=Qz e
      rcases e with ⟨hns,e⟩|⟨_,e⟩
      ·simp only[Bool.and_eq_true] at hns;cases e;exact Yv hc (h f zs [] _ _ hv).1 ((h.ncall hv).lend (ZY _ _ _ _ hb _ (λ_ q=>q)) hns.1 hns.2 (hnew bs))
      ·exact XaM h hc hnro e
    ·exact XaM h hc hnro e
   ·exact XaM h hc hnro e
theorem Yc8{cg:CG}(h:CGOk P GL cg)(much:Nat)(r:AVal×List ABlk):AnsOk P GL noZ (Cl much cg) (λo=>o=some r) where
 stop:=λe=>by cases e
 call:=λ{k xs σ K} e=>by
  simp only[Cl] at e;split at e
  ·rename_i f ys hc;split at e
   ·rename_i v σ' hv;obtain⟨_,h1,_⟩:=h f ys σ v σ' hv
    grind
   ·cases e
  ·cases e
 dcall:=λ{k xs σ K} e=>by
  grind [Cl,Qcn]
 test:=λ{v a b} e=>by
  simp only[Cl,tstC] at e
  grind
 loop:=λ{F vs σ} e=>⟨much,e⟩
 rng:=λe=>by cases e
end
mutual
def eqA:AVal→AVal→Bool
 |.junk,.junk=>true
 |.bool a,.bool b=>a==b
 |.int k a,.int k' b=>ikEq k k'&&a==b
 |.str a,.str b=>a==b
 |.nilp,.nilp=>true
 |.nils,.nils=>true
 |.cap0,.cap0=>true
 |.rsl e n s r,.rsl e' n' s' r'=>(e==e'&&n==n')&&(Nat.beq s s'&&eqR r r')
 |.agg a,.agg b=>eqL a b
 |.nilmap,.nilmap=>true
 |.nilf,.nilf=>true
 |.nili,.nili=>true
 |_,_=>false
def eqL:List AVal→List AVal→Bool
 |[],[]=>true
 |x::xs,y::ys=>eqA x y&&eqL xs ys
 |_,_=>false
def eqR:List (List AVal)→List (List AVal)→Bool
 |[],[]=>true
 |x::xs,y::ys=>eqL x y&&eqR xs ys
 |_,_=>false
end
mutual
theorem Qdd:∀ {x y:AVal},eqA x y=true→x=y:=by
 intro x y h
 cases x<;>cases y<;>simp only[eqA,Bool.false_eq_true,Bool.and_eq_true] at h<;>first
  |rfl
  |(rw[eq_of_beq h])
  |(rw[eq_of_beq h.2,YQ h.1])
  |(rw[eq_of_beq h.1.1,eq_of_beq h.1.2,YNB h.2.1,ZcW h.2.2])
  |(rw[YbP h])
theorem YbP:∀ {x y:List AVal},eqL x y=true→x=y:=by
 intro x y h
 cases x<;>cases y<;>simp only[eqL,Bool.false_eq_true,Bool.and_eq_true] at h<;>first
  |rfl
  |(rw[Qdd h.1,YbP h.2])
theorem ZcW:∀ {x y:List (List AVal)},eqR x y=true→x=y:=by
 intro x y h
 cases x<;>cases y<;>simp only[eqR,Bool.false_eq_true,Bool.and_eq_true] at h<;>first
  |rfl
  |(rw[YbP h.1,ZcW h.2])
end
section
variable {P:Program} {GL:Globs} {Z:PZ}
theorem YaX{f:FuncId}{xs:List AVal}{v:AVal}(h:PCall P GL f xs v):NCall P GL f xs v []:=by
 intro w M vs hM hg hx;refine(h w M vs hM hg hx).mono ?_;rintro e w' ⟨u,he,k,M',hle,hst,hsrc,hd⟩;refine⟨u,he,⟨M',noOwn,[]⟩,hle,?_,hd⟩;exact {
  mks:=λ_ q=>by cases q
  keeps:=k
  stable:=hst
  src:=λb o e=>by
   simp_all
  globs:=λp hp'=>(hg p hp').mono hle (CLe.refl _)
  empt:=λ_ _=>rfl
  dom:=λb blk e=>by simp[hp] at e
  own:=λb blk cb e=>by simp[hp] at e
  hollow:=λb blk cb e=>by simp[hp] at e
  inj:=λb b' blk blk' cb cb' e=>by simp[hp] at e }
end
end Go.Ah
end
section
namespace Go.Ah
@[reducible] def h0(v:List AVal):AVal:=hdV v
@[reducible] def h1(v:List AVal):AVal:=hdV (tlV v)
@[reducible] def h2(v:List AVal):AVal:=hdV (tlV (tlV v))
@[reducible] def h3(v:List AVal):AVal:=hdV (tlV (tlV (tlV v)))
@[reducible] def h4(v:List AVal):AVal:=hdV (tlV (tlV (tlV (tlV v))))
@[reducible] def h5(v:List AVal):AVal:=hdV (tlV (tlV (tlV (tlV (tlV v)))))
@[reducible] def h6(v:List AVal):AVal:=hdV (tlV (tlV (tlV (tlV (tlV (tlV v))))))
@[reducible] def h7(v:List AVal):AVal:=hdV (tlV (tlV (tlV (tlV (tlV (tlV (tlV v)))))))
@[reducible] def h8(v:List AVal):AVal:=h7 (tlV v)
@[reducible] def h9(v:List AVal):AVal:=h8 (tlV v)
@[reducible] def h10(v:List AVal):AVal:=h9 (tlV v)
@[reducible] def h11(v:List AVal):AVal:=h10 (tlV v)
def row0:List AVal:=(List.range 256).map λi=>AVal.int .u8 (match (Nat.ble 9 i&&Nat.ble i 13)||Nat.beq i 32 with|true=>1|false=>0)
def GL0:Globs:=[(0,row0)]
end Go.Ah
end
section
namespace Go.Ah
section
variable (σ:List ABlk)
attribute [simp] Qc8 rd_ok pu_ok Xc7 Zdc XbT Qc1 hdV tlV
@[simp] theorem W_stop'(P:Program)(GL:Globs){Z:PZ}:(W P GL Z).stop=False:=rfl
@[simp] theorem Qdl{α:Type}(f:(List AVal→List ABlk→α)→α)(k:List AVal→List ABlk→α):joinK f k=f k:=rfl
@[simp] theorem gx_bool{α:Type}(A:Ans α)(b w:Bool)(r:α)(s:List (Bool×Bool)→α):A.gx (.bool b) w r s=A.test (.bool b) (bif w then r else s [(true,w)]) (bif w then s [(false,w)] else r):=rfl
@[simp] theorem gr_eq{α:Type}(A:Ans α)(c:AVal)(w:Bool)(r:(AVal→α)→α)(K:AVal→α):A.gr c w r K=A.gx c w (r K) (λcs=>K (udf cs)):=rfl
@[simp] theorem gw_eq{α:Type}(A:Ans α)(c:AVal)(w:Bool)(r:(AVal→List ABlk→α)→α)(σ:List ABlk)(K:AVal→List ABlk→α):A.gw c w r σ K=A.gx c w (r K) (λcs=>K (udf cs) σ):=rfl
@[simp] theorem gl_eq{α:Type}(A:Ans α)(c:AVal)(w:Bool)(r:(AVal→List Nat×List Nat→List ABlk→α)→α)(σ:List ABlk)(K:AVal→List Nat×List Nat→List ABlk→α):A.gl c w r σ K=A.gx c w (r K) (λcs=>K (udf cs) ([],[]) σ):=rfl
@[simp] theorem gx_when{α:Type}(A:Ans α)(cs:List (Bool×Bool))(q w:Bool)(r:α)(s:List (Bool×Bool)→α):A.gx (.when cs (.bool q)) w r s=match Yaj.holdNot cs with
  |true=>s (cs++[(q,w)])
  |false=>A.stop:=rfl
attribute [simp] Yaj.holdNot
@[simp] theorem e_mv(x:AVal):Qcx [x] σ=.ok x [] []:=rfl
@[simp] theorem Zc8(e n:Bool)(s:Nat)(rows:List (List AVal)):QU [.rsl e n s rows] σ=.ok (.int .i64 rows.length) [] []:=rfl
@[simp] theorem Yc1:QU [.nils] σ=.ok (.int .i64 0) [] []:=rfl
@[simp] theorem Zc1:QU [.cap0] σ=.ok (.int .i64 0) [] []:=rfl
@[simp] theorem Qdc(b o n:Nat)(e:Bool):QU [.sl b o n e] σ=.ok (.int .i64 n) [] []:=rfl
@[simp] theorem Xdl(s:List UInt8):YG [.str s] σ=.ok (.int .i64 s.length) [] []:=rfl
@[simp] theorem e_lenA(n:Nat)(x:AVal):Zab n [x] σ=.ok (.int .i64 n) [] []:=rfl
@[simp] theorem Xde(k:IntKind):ikEq k k=true:=by cases k<;>rfl
section
variable (ib:Bool) (k:IntKind) (a b:Int)
@[simp] theorem Xr:Zq .add ib [.int k a,.int k b] σ=.ok (.int k (k.wrap (a+b))) [] []:=by simp[Zq,binI]
@[simp] theorem YaH:Zq .sub ib [.int k a,.int k b] σ=.ok (.int k (k.wrap (a-b))) [] []:=by simp[Zq,binI]
@[simp] theorem Ydd:Zq .mul ib [.int k a,.int k b] σ=.ok (.int k (k.wrap (a*b))) [] []:=by simp[Zq,binI]
@[simp] theorem YB:Zq .eql ib [.int k a,.int k b] σ=.ok (.bool (decide (a=b))) [] []:=by
 simp[Zq,binI]; exact Bool.eq_iff_iff.2 (by simp)
@[simp] theorem Qaz:Zq .neq ib [.int k a,.int k b] σ=.ok (.bool (decide (a≠b))) [] []:=by
 simp[Zq,binI]; exact Bool.eq_iff_iff.2 (by simp)
@[simp] theorem Qn:Zq .lss ib [.int k a,.int k b] σ=.ok (.bool (decide (a<b))) [] []:=by simp[Zq,binI]
@[simp] theorem ZaO:Zq .leq ib [.int k a,.int k b] σ=.ok (.bool (decide (a≤b))) [] []:=by simp[Zq,binI]
@[simp] theorem ZW:Zq .gtr ib [.int k a,.int k b] σ=.ok (.bool (decide (b<a))) [] []:=by simp[Zq,binI]
@[simp] theorem Xbd:Zq .geq ib [.int k a,.int k b] σ=.ok (.bool (decide (b≤a))) [] []:=by simp[Zq,binI]
end
@[simp] theorem Ya1(ib:Bool)(a b:List UInt8):Zq .eql ib [.str a,.str b] σ=.ok (.bool (a==b)) [] []:=rfl
@[simp] theorem Xdd(ib:Bool)(a b:List UInt8):Zq .neq ib [.str a,.str b] σ=.ok (.bool (!(a==b))) [] []:=rfl
@[simp] theorem Ydc(a b:Bool):Zq .eql true [.bool a,.bool b] σ=.ok (.bool (a==b)) [] []:=rfl
@[simp] theorem e_neqB(a b:Bool):Zq .neq true [.bool a,.bool b] σ=.ok (.bool (!(a==b))) [] []:=rfl
@[simp] theorem X6(b:Bool):YbI .not [.bool b] σ=.ok (.bool (!b)) [] []:=rfl
@[simp] theorem e_neg(k:IntKind)(n:Int):YbI .neg [.int k n] σ=.ok (.int k (k.wrap (0-n))) [] []:=rfl
@[simp] theorem Qk(k k':IntKind)(n:Int):QQ k [.int k' n] σ=.ok (.int k (k.wrap n)) [] []:=rfl
@[simp] theorem Zdd(t:TypeId)(x:AVal):Zy t [x] σ=.ok (.iface t x) [] []:=rfl
@[simp] theorem e_nil_b(b j:Nat):Qj [.bptr b j] σ=.ok (.bptr b j) [] []:=rfl
@[simp] theorem e_nil_p(b i j:Nat):Qj [.ptr b i j] σ=.ok (.ptr b i j) [] []:=rfl
@[simp] theorem e_nil_r(row:List AVal)(j:Nat):Qj [.rptr row j] σ=.ok (.rptr row j) [] []:=rfl
@[simp] theorem e_nil_f(f:FuncId)(a b:List AVal):Qj [.func (.func f) a b] σ=.ok (.func (.func f) a b) [] []:=rfl
@[simp] theorem e_fa_b(o b j:Nat):Ye o [.bptr b j] σ=.ok (.bptr b (j+o)) [] []:=rfl
@[simp] theorem e_fa_p(o b i j:Nat):Ye o [.ptr b i j] σ=.ok (.ptr b i (j+o)) [] []:=rfl
@[simp] theorem e_fa_r(o:Nat)(row:List AVal)(j:Nat):Ye o [.rptr row j] σ=.ok (.rptr row (j+o)) [] []:=rfl
@[simp] theorem e_field(agg:Bool)(o n:Nat)(cs:List AVal):XR agg o n [.agg cs] σ=(match partA agg o n cs with
   |some v=>.ok v [] []
   | none=>.stop):=rfl
attribute [simp] partA takeN dropN nth
@[simp] theorem Xdc(i:Nat)(vs:List AVal):Zv i [.tup vs] σ=(match nth vs i with
   |some v=>.ok v [] []
   | none=>.stop):=rfl
@[simp] theorem Zdl(len esz b j:Nat)(k:IntKind)(i:Nat):Xs len esz [.bptr b j,.int k (@OfNat.ofNat Int i _)] σ=bif Nat.blt i len then .ok (.bptr b (j+i*esz)) [] [] else .stop:=rfl
@[simp] theorem Ydl(len esz:Nat)(row:List AVal)(j:Nat)(k:IntKind)(i:Nat):Xs len esz [.rptr row j,.int k (@OfNat.ofNat Int i _)] σ=bif Nat.blt i len then .ok (.rptr row (j+i*esz)) [] [] else .stop:=rfl
theorem e_ixS(e n:Bool)(s:Nat)(rows:List (List AVal))(k:IntKind)(i:Nat)(row:List AVal)(h:rows[i]?=some row):Yr s [.rsl e n s rows,.int k (i:Int)] σ=.ok (.rptr row 0) [] []:=by
 show (bif Nat.beq s s then (match nth rows i with
   |some row=>SRes.ok (.rptr row 0) [] []
   | none=>.stop) else .stop)=_
 rw[Nat.beq_refl,YU,h]; rfl
theorem e_ixM{α:Type}(f:α→List AVal)(e n:Bool)(s:Nat)(l:List α)(k:IntKind)(i:Nat)(h:i<l.length):Yr s [.rsl e n s (l.map f),.int k (i:Int)] σ=.ok (.rptr (f l[i]) 0) [] []:=
 e_ixS σ e n s _ k i _ (by simp[h])
theorem ZcL(b o len:Nat)(ex:Bool)(s:Nat)(rows:List (List AVal))(k:IntKind)(i:Nat)(h:i<len)(hb:hget σ b=.rows s rows):Yr s [.sl b o len ex,.int k (i:Int)] σ=.ok (.ptr b (o+i) 0) [b] []:=by
 show (bif Nat.blt i len then (match hget σ b with
   |.rows s' _=>bif Nat.beq s' s then SRes.ok (.ptr b (o+i) 0) [b] [] else .stop
   | _=>.stop) else .stop)=_
 rw[show Nat.blt i len=true from Nat.ble_eq_true_of_le h,hb];simp
@[simp] theorem XcL(agg:Bool)(n:Nat)(row:List AVal)(j:Nat):YT agg n [.rptr row j] σ=(match partA agg j n row with
   |some v=>.ok v [] []
   | none=>.stop):=rfl
@[simp] theorem YcL(agg:Bool)(n b j:Nat):YT agg n [.bptr b j] σ=(match hget σ b with
   |.box row=>match partA agg j n row with
    |some v=>.ok v [b] []
    |none=>.stop
   | _=>.stop):=rfl
attribute [simp] hget upL ZO splice cellsOf AVal.cell
@[simp] theorem Yz(z:List AVal):ZC z [] σ=.ok (.bptr σ.length 0) [] [(σ.length,.box z)]:=rfl
@[simp] theorem e_box(x:AVal):Xaw [x] σ=(match cellsOf x with
   |some cs=>.ok (.bptr σ.length 0) [] [(σ.length,.box cs)]
   | none=>.stop):=rfl
@[simp] theorem Zcp(n b j:Nat)(x:AVal):Yn n [.bptr b j,x] σ=(match hget σ b with
   |.box row=>match cellsOf x with
    | some cs=>bif Nat.beq cs.length n then (match splice j cs row with
     |some row'=>.ok .junk [] [(b,.box row')]
     | none=>.stop) else .stop
    |none=>.stop
   | _=>.stop):=rfl
end
end Go.Ah
end
section
namespace Go.Ah
structure RenOk (σ σ2:List ABlk) (m:Nat→Option Nat):Prop where
 inj:∀b b' k,m b=some k→m b'=some k→b=b'
 img:∀b k,m b=some k→∃blk,σ[b]?=some blk∧σ2[k]?=some (blk.mapV (AVal.ren m))
 cov:∀k,k<σ2.length→∃b,m b=some k
def Tidy(σ:List ABlk)(v:AVal)(σ2:List ABlk)(v2:AVal):Prop:=
 ∀(GL:Globs) (w0:World) (L:Ln) (g:Gm) (w:World),Rep GL w0 L g (hp σ) w→∀u,g.den v u→∃c2,Rep GL w0 L ⟨g.M,c2,g.dk⟩ (hp σ2) w∧Den g.M c2 v2 u
theorem Tidy.trans{σ σ2 σ3:List ABlk}{v v2 v3:AVal}(h:Tidy σ v σ2 v2)(k:Tidy σ2 v2 σ3 v3):Tidy σ v σ3 v3:=by
 intro GL w0 L g w r u d;obtain⟨c2,r2,d2⟩:=h GL w0 L g w r u d;obtain⟨c3,r3,d3⟩:=k GL w0 L ⟨g.M,c2,g.dk⟩ w r2 u d2;exact⟨c3,r3,d3⟩
section
variable {P:Program} {GL:Globs} {Z:PZ}
theorem Y5:∀(bs σ:List ABlk),upL σ (Yp σ.length bs)=some (σ++bs)
 |[],σ=>by simp[Yp,upL]
 |b::bs,σ=>by
  have:=Y5 bs (σ++[b]);simp_all [Yp]
def QaO(n:Nat):List ABlk→List Nat
 |[]=>[]
 |_::bs=>n::QaO (n+1) bs
theorem YaW:∀(bs:List ABlk) (n:Nat),(Yp n bs).map (·.1)=QaO n bs
 |[],_=>rfl
 |b::bs,n=>by simp[Yp,QaO,YaW bs (n+1)]
end
attribute [simp] AVal.ren renL QR QI ABlk.mapV QaO AVal.ro roL AVal.flat flatL
end Go.Ah
end
section
namespace Go.Ah
theorem Yi(σ:List ABlk)(x:ABlk):upL σ [(σ.length,x)]=some (σ++[x]):=by simp[upL]
theorem Qae{σ:List ABlk}{b:Nat}{x:ABlk}(h:hget σ b=x)(hx:x≠.dead):σ[b]?=some x:=XW h hx
theorem Zc(σ:List ABlk)(x:ABlk):hget (σ++[x]) σ.length=x:=Xq (by simp)
theorem Qd{σ:List ABlk}{b:Nat}{y:ABlk}(x:List ABlk)(h:hget σ b=y)(hy:y≠.dead:=by simp):hget (σ++x) b=y:=by
 have:=Qae h hy
 grind [Xq]
theorem Qa{σ:List ABlk}{b:Nat}{y:ABlk}(h:hget σ b=y)(hy:y≠.dead:=by simp):b<σ.length:=(YLG (Qae h hy)).1
theorem Xax{α:Type}{b:Nat}{x:α}:∀ {σ:List α},b<σ.length→ZO b x σ=some (σ.set b x):=by
 intro σ h
 induction σ generalizing b with
 |nil=>simp at h
 |cons y σ ih=>cases b<;>simp_all
theorem Zah{σ:List ABlk}{b:Nat}(x y:ABlk)(h:b<σ.length):upL σ ([(b,x)]++[(σ.length,y)])=some (σ.set b x++[y]):=by
 have hb:Nat.beq b σ.length=false:=by
  grind [YNB]
 simp[upL,hb,Xax h]
theorem Zb{σ:List ABlk}{b:Nat}(x:ABlk)(h:b<σ.length):upL σ [(b,x)]=some (σ.set b x):=by
 grind [upL,YNB,Xax]
theorem Xb{σ:List ABlk}{b c:Nat}{x y:ABlk}(h:hget σ b=y)(hy:y≠.dead)(hc:c≠b):hget (σ.set c x) b=y:=by
 simp_all [Qae,Xq]
section
variable {α:Type} (A:Ans α)
theorem Qcj(n:Nat)(σ:List ABlk)(x:AVal)(z:List AVal)(cs:List AVal)(hx:fill z [(0,n)] [x]=some cs)(hc:chunk n 1 cs=some [cs])(K:AVal→List ABlk→α) :
  A.wr (XE n 1 z [(0,n)] [x] σ) σ K=K (.sl σ.length 0 1 true) (σ++[.rows n [cs]]):=by
 simp_all [XE]
theorem ZaG{row:List AVal}(h:row.all AVal.cell=true):Zx [row]=true:=by simp[Zx,h]
theorem Qcl(row:List AVal):cut 0 (0+1) [row]=[row]:=rfl
theorem QbL(n by_:Nat)(σ:List ABlk)(row:List AVal)(hr:row.all AVal.cell=true)(hroom:194*by_≤2 ^ 48)(K:AVal→List ABlk→α) :
  A.wr (Yh n by_ [.nils,.sl σ.length 0 1 true] (σ++[.rows n [row]])) (σ++[.rows n [row]]) K=K (.sl (σ.length+1) 0 1 false) (σ++[.rows n [row]]++[.rows n [row]]):=by
 have h1:Zp n (σ++[.rows n [row]]) (.sl σ.length 0 1 true)=some ([row],[σ.length]):=by
  simp[Zp,Zc,Qcl];rfl
 have e:Yh n by_ [.nils,.sl σ.length 0 1 true] (σ++[.rows n [row]])=.ok (.sl (σ.length+1) 0 1 false) [σ.length] [(σ.length+1,.rows n [row])]:=by
  show Zn n by_ (σ++[.rows n [row]]) [] [] (.sl σ.length 0 1 true)=_;simp_all [Zn,ZaG,Nat.ble_eq_true_of_le]
 simp_all
theorem Zci(n by_:Nat)(σ:List ABlk)(b len:Nat)(ex:Bool)(rs:List (List AVal))(row:List AVal)(hb:hget σ b=.rows n rs)(hl:rs.length=len)(hr:row.all AVal.cell=true)(hroom:(2*(len+1)+192)*by_≤2 ^ 48)(K:AVal→List ABlk→α) :
  A.wr (Yh n by_ [.sl b 0 len ex,.sl σ.length 0 1 true] (σ++[.rows n [row]])) (σ++[.rows n [row]]) K=K (.sl (σ.length+1) 0 (len+1) false) (σ.set b .dead++[.rows n [row]]++[.rows n (rs++[row])]):=by
 have hlt:=Qa hb (by simp);have h1:Zp n (σ++[.rows n [row]]) (.sl σ.length 0 1 true)=some ([row],[σ.length]):=by
  simp[Zp,Zc,Qcl];rfl
 have h2:Nat.ble ((2*(len+1)+192)*by_) (2 ^ 48)=true:=Nat.ble_eq_true_of_le hroom;have hb2:=Qd [.rows n [row]] hb (by simp);have e:Yh n by_ [.sl b 0 len ex,.sl σ.length 0 1 true] (σ++[.rows n [row]])=.ok (.sl (σ.length+1) 0 (len+1) false) [σ.length] ([(b,.dead)]++[(σ.length+1,.rows n (rs++[row]))]):=by
  have:Yh n by_ [.sl b 0 len ex,.sl σ.length 0 1 true] (σ++[.rows n [row]])=Zn n by_ (σ++[.rows n [row]]) rs [(b,.dead)] (.sl σ.length 0 1 true):=by
   simp[Yh,X5,hb2,hl]
  rw[this];unfold Zn;simp only[h1,ZaG hr,List.length_singleton,h2,Bool.and_self,cond_true,hl,List.length_append]
 grind [Xc7,Zah,List.length_append,List.length_singleton,XbT]
end
end Go.Ah
end
section
namespace Go.Ah
section
variable {P:Program} {GL:Globs} {Z:PZ}
theorem Za{r:SRes}{K:AVal→Prop}{v:AVal}{rd:List Nat}(h:r=.ok v rd [])(hK:K v):(W P GL Z).rd r K:=by rw[h]; exact hK
theorem Yd{r:SRes}{K:AVal→Prop}{v:AVal}(h:r=.ok v [] [])(hK:K v):(W P GL Z).pu r K:=by rw[h]; exact hK
theorem Xd{r:SRes}{σ σ':List ABlk}{K:KT}{v:AVal}{rd:List Nat}{up:List (Nat×ABlk)}(h:r=.ok v rd up)(hu:upL σ up=some σ')(hK:K v σ'):(W P GL Z).wr r σ K:=by rw[h,Xc7,hu]; exact hK
theorem Yf{r:SRes}{σ σ':List ABlk}{K:AVal→List Nat×List Nat→List ABlk→Prop}{v:AVal}{rd:List Nat}{up:List (Nat×ABlk)}(h:r=.ok v rd up)(hu:upL σ up=some σ')(hK:K v (rd,up.map (·.1)) σ'):(W P GL Z).dr r σ K:=by rw[h,Zdc,hu]; exact hK
theorem Zd{c:Bool}{a b:Prop}(ht:c=true→a)(hf:c=false→b):(W P GL Z).test (.bool c) a b:=⟨ht,hf⟩
theorem Xi{a b:Prop}(h:a):(W P GL Z).test (.bool true) a b:=⟨λ_=>h,(λe=>by cases e)⟩
theorem Qf{a b:Prop}(h:b):(W P GL Z).test (.bool false) a b:=⟨(λe=>by cases e),λ_=>h⟩
theorem Xv{b:Bool}{k:Prop}(h:b=true)(hK:k):(W P GL Z).gd b k:=by rw[h]; exact hK
theorem YS{β:Type}{o:Option β}{K:β→Prop}{v:β}(h:o=some v)(hK:K v):(W P GL Z).opt o K:=by rw[h]; exact hK
theorem Ya{w:Bool}{r:(AVal→Prop)→Prop}{K:AVal→Prop}(h:r K):(W P GL Z).gr (.bool w) w r K:=by
 cases w
 ·exact⟨(λe=>by cases e),λ_=>h⟩
 ·exact⟨λ_=>h,(λe=>by cases e)⟩
theorem ZM{w:Bool}{r:(KT)→Prop}{σ:List ABlk}{K:KT}(h:r K):(W P GL Z).gw (.bool w) w r σ K:=by
 cases w
 ·exact⟨(λe=>by cases e),λ_=>h⟩
 ·exact⟨λ_=>h,(λe=>by cases e)⟩
theorem Xk{w:Bool}{r:(AVal→List Nat×List Nat→List ABlk→Prop)→Prop}{σ:List ABlk}{K:AVal→List Nat×List Nat→List ABlk→Prop}(h:r K):(W P GL Z).gl (.bool w) w r σ K:=by
 cases w
 ·exact⟨(λe=>by cases e),λ_=>h⟩
 ·exact⟨λ_=>h,(λe=>by cases e)⟩
theorem Qb{c w:Bool}{r:(AVal→Prop)→Prop}{K:AVal→Prop}(hc:c = !w)(h:K (udf [(c,w)])):(W P GL Z).gr (.bool c) w r K:=by
 subst hc;cases w
 ·exact⟨λ_=>h,(λe=>by cases e)⟩
 ·exact⟨(λe=>by cases e),λ_=>h⟩
theorem Zag{c w:Bool}{r:(KT)→Prop}{σ:List ABlk}{K:KT}(hc:c = !w)(h:K (udf [(c,w)]) σ):(W P GL Z).gw (.bool c) w r σ K:=by
 subst hc;cases w
 ·exact⟨λ_=>h,(λe=>by cases e)⟩
 ·exact⟨(λe=>by cases e),λ_=>h⟩
theorem QbX{c w:Bool}{r:(AVal→List Nat×List Nat→List ABlk→Prop)→Prop}{σ:List ABlk}{K:AVal→List Nat×List Nat→List ABlk→Prop}(hc:c = !w)(h:K (udf [(c,w)]) ([],[]) σ):(W P GL Z).gl (.bool c) w r σ K:=by
 subst hc;cases w
 ·exact⟨λ_=>h,(λe=>by cases e)⟩
 ·exact⟨(λe=>by cases e),λ_=>h⟩
theorem Qc5{cs:List (Bool×Bool)}{q w:Bool}{r:(AVal→Prop)→Prop}{K:AVal→Prop}(hc:Yaj.holdNot cs=true)(h:K (udf (cs++[(q,w)]))):(W P GL Z).gr (.when cs (.bool q)) w r K:=by
 show (match Yaj.holdNot cs with
  |true=>K (udf (cs++[(q,w)]))
  | false=>(W P GL Z).stop)
 rw[hc]; exact h
theorem Qac(n:Nat){F:(KTs)→KTs}{vs:List AVal}{σ:List ABlk}(h:iterA False n F vs σ):(W P GL Z).loop F vs σ:=⟨n,h⟩
theorem Ys{n:Nat}{F:(KTs)→KTs}{vs:List AVal}{σ:List ABlk}(h:F (iterA False n F) vs σ):iterA False (n+1) F vs σ:=h
end
def pos:List Nat→Nat→Option Nat
 |[],_=>none
 |x::l,n=>match Nat.beq x n with
  |true=>some 0
  |false=>match pos l n with
   |some k=>some (k+1)
   |none=>none
end Go.Ah
end
section
namespace Go.Ah
section
variable {P:Program} {GL:Globs} {Z:PZ}
theorem Xdh{c d:Bool}{K:AVal→Prop}{r1:SRes}{r2:AVal→SRes}{σ:List ABlk}{v1:AVal}{q1 q2:List Nat}(h1:c=true→r1=.ok v1 q1 [])(h2:c=true→r2 v1=.ok (.bool d) q2 [])(hK:K (.bool (c&&d))) :
  (W P GL Z).gr (.bool c) true (λk=>(W P GL Z).rd r1 k) λt1=>(W P GL Z).gr (.bool c) true (λk=>(W P GL Z).rd (r2 t1) k) λt2=>(W P GL Z).rd (Zs [.bool c,t2,.bool false] σ) K:=by
 cases c with
 |true=>exact Ya (Za (h1 rfl) (Ya (Za (h2 rfl) (Za rfl hK))))
 |false=>exact Qb rfl (Qb rfl (Za rfl hK))
theorem Zal{c d:Bool}{K:AVal→Prop}{r1:SRes}{r2:AVal→SRes}{r3:AVal→AVal→SRes}{σ:List ABlk}{v1 v2:AVal}{q1 q2 q3:List Nat}(h1:c=true→r1=.ok v1 q1 [])(h2:c=true→r2 v1=.ok v2 q2 [])(h3:c=true→r3 v1 v2=.ok (.bool d) q3 [])(hK:K (.bool (c&&d))) :
  (W P GL Z).gr (.bool c) true (λk=>(W P GL Z).rd r1 k) λt1=>(W P GL Z).gr (.bool c) true (λk=>(W P GL Z).rd (r2 t1) k) λt2=>(W P GL Z).gr (.bool c) true (λk=>(W P GL Z).rd (r3 t1 t2) k) λt3=>(W P GL Z).rd (Zs [.bool c,t3,.bool false] σ) K:=by
 cases c with
 |true=>exact Ya (Za (h1 rfl) (Ya (Za (h2 rfl) (Ya (Za (h3 rfl) (Za rfl hK))))))
 |false=>exact Qb rfl (Qb rfl (Qb rfl (Za rfl hK)))
theorem XaU{c d:Bool}{K:AVal→Prop}{r1:SRes}{r2:AVal→SRes}{r3:AVal→AVal→SRes}{r4:AVal→AVal→AVal→SRes}{σ:List ABlk}{v1 v2 v3:AVal}{q1 q2 q3 q4:List Nat}(h1:c=true→r1=.ok v1 q1 [])(h2:c=true→r2 v1=.ok v2 q2 [])(h3:c=true→r3 v1 v2=.ok v3 q3 [])(h4:c=true→r4 v1 v2 v3=.ok (.bool d) q4 [])(hK:K (.bool (c&&d))) :
  (W P GL Z).gr (.bool c) true (λk=>(W P GL Z).rd r1 k) λt1=>(W P GL Z).gr (.bool c) true (λk=>(W P GL Z).rd (r2 t1) k) λt2=>(W P GL Z).gr (.bool c) true (λk=>(W P GL Z).rd (r3 t1 t2) k) λt3=>(W P GL Z).gr (.bool c) true (λk=>(W P GL Z).rd (r4 t1 t2 t3) k) λt4=>(W P GL Z).rd (Zs [.bool c,t4,.bool false] σ) K:=by
 cases c with
 |true=>exact Ya (Za (h1 rfl) (Ya (Za (h2 rfl) (Ya (Za (h3 rfl) (Ya (Za (h4 rfl) (Za rfl hK))))))))
 |false=>exact Qb rfl (Qb rfl (Qb rfl (Qb rfl (Za rfl hK))))
theorem Qax{c d:Bool}{K:AVal→Prop}{r1:SRes}{r2:AVal→SRes}{r3:AVal→AVal→SRes}{r4:AVal→AVal→AVal→SRes}{r5:AVal→AVal→AVal→AVal→SRes}{σ:List ABlk}{v1 v2 v3 v4:AVal}{q1 q2 q3 q4 q5:List Nat}(h1:c=true→r1=.ok v1 q1 [])(h2:c=true→r2 v1=.ok v2 q2 [])(h3:c=true→r3 v1 v2=.ok v3 q3 [])(h4:c=true→r4 v1 v2 v3=.ok v4 q4 [])(h5:c=true→r5 v1 v2 v3 v4=.ok (.bool d) q5 [])(hK:K (.bool (c&&d))) :
  (W P GL Z).gr (.bool c) true (λk=>(W P GL Z).rd r1 k) λt1=>(W P GL Z).gr (.bool c) true (λk=>(W P GL Z).rd (r2 t1) k) λt2=>(W P GL Z).gr (.bool c) true (λk=>(W P GL Z).rd (r3 t1 t2) k) λt3=>(W P GL Z).gr (.bool c) true (λk=>(W P GL Z).rd (r4 t1 t2 t3) k) λt4=>(W P GL Z).gr (.bool c) true (λk=>(W P GL Z).rd (r5 t1 t2 t3 t4) k) λt5=>(W P GL Z).rd (Zs [.bool c,t5,.bool false] σ) K:=by
 cases c with
 |true=>exact Ya (Za (h1 rfl) (Ya (Za (h2 rfl) (Ya (Za (h3 rfl) (Ya (Za (h4 rfl) (Ya (Za (h5 rfl) (Za rfl hK))))))))))
 |false=>exact Qb rfl (Qb rfl (Qb rfl (Qb rfl (Qb rfl (Za rfl hK)))))
theorem ZcC{c d:Bool}{K:AVal→Prop}{r1:SRes}{r2:AVal→SRes}{r3:AVal→AVal→SRes}{r4:AVal→AVal→AVal→SRes}{r5:AVal→AVal→AVal→AVal→SRes}{r6:AVal→AVal→AVal→AVal→AVal→SRes}{r7:AVal→AVal→AVal→AVal→AVal→AVal→SRes}{r8:AVal→AVal→AVal→AVal→AVal→AVal→AVal→SRes}{r9:AVal→AVal→AVal→AVal→AVal→AVal→AVal→AVal→SRes}{r10:AVal→AVal→AVal→AVal→AVal→AVal→AVal→AVal→AVal→SRes}{σ:List ABlk}{v1 v2 v3 v4 v5 v6 v7 v8 v9:AVal}{q1 q2 q3 q4 q5 q6 q7 q8 q9 q10:List Nat}(h1:c=true→r1=.ok v1 q1 [])(h2:c=true→r2 v1=.ok v2 q2 [])(h3:c=true→r3 v1 v2=.ok v3 q3 [])(h4:c=true→r4 v1 v2 v3=.ok v4 q4 [])(h5:c=true→r5 v1 v2 v3 v4=.ok v5 q5 [])(h6:c=true→r6 v1 v2 v3 v4 v5=.ok v6 q6 [])(h7:c=true→r7 v1 v2 v3 v4 v5 v6=.ok v7 q7 [])(h8:c=true→r8 v1 v2 v3 v4 v5 v6 v7=.ok v8 q8 [])(h9:c=true→r9 v1 v2 v3 v4 v5 v6 v7 v8=.ok v9 q9 [])(h10:c=true→r10 v1 v2 v3 v4 v5 v6 v7 v8 v9=.ok (.bool d) q10 [])(hK:K (.bool (c&&d))) :
  (W P GL Z).gr (.bool c) true (λk=>(W P GL Z).rd r1 k) λt1=>(W P GL Z).gr (.bool c) true (λk=>(W P GL Z).rd (r2 t1) k) λt2=>(W P GL Z).gr (.bool c) true (λk=>(W P GL Z).rd (r3 t1 t2) k) λt3=>(W P GL Z).gr (.bool c) true (λk=>(W P GL Z).rd (r4 t1 t2 t3) k) λt4=>(W P GL Z).gr (.bool c) true (λk=>(W P GL Z).rd (r5 t1 t2 t3 t4) k) λt5=>(W P GL Z).gr (.bool c) true (λk=>(W P GL Z).rd (r6 t1 t2 t3 t4 t5) k) λt6=>(W P GL Z).gr (.bool c) true (λk=>(W P GL Z).rd (r7 t1 t2 t3 t4 t5 t6) k) λt7=>(W P GL Z).gr (.bool c) true (λk=>(W P GL Z).rd (r8 t1 t2 t3 t4 t5 t6 t7) k) λt8=>(W P GL Z).gr (.bool c) true (λk=>(W P GL Z).rd (r9 t1 t2 t3 t4 t5 t6 t7 t8) k) λt9=>(W P GL Z).gr (.bool c) true (λk=>(W P GL Z).rd (r10 t1 t2 t3 t4 t5 t6 t7 t8 t9) k) λt10=>(W P GL Z).rd (Zs [.bool c,t10,.bool false] σ) K:=by
 cases c with
 |true=>exact Ya (Za (h1 rfl) (Ya (Za (h2 rfl) (Ya (Za (h3 rfl) (Ya (Za (h4 rfl) (Ya (Za (h5 rfl) (Ya (Za (h6 rfl) (Ya (Za (h7 rfl) (Ya (Za (h8 rfl) (Ya (Za (h9 rfl) (Ya (Za (h10 rfl) (Za rfl hK))))))))))))))))))))
 |false=>exact Qb rfl (Qb rfl (Qb rfl (Qb rfl (Qb rfl (Qb rfl (Qb rfl (Qb rfl (Qb rfl (Qb rfl (Za rfl hK))))))))))
theorem XcC{c d:Bool}{K:AVal→Prop}{r1:SRes}{r2:AVal→SRes}{σ:List ABlk}{v1:AVal}{q1 q2:List Nat}(h1:c=false→r1=.ok v1 q1 [])(h2:c=false→r2 v1=.ok (.bool d) q2 [])(hK:K (.bool (c||d))) :
  (W P GL Z).gr (.bool c) false (λk=>(W P GL Z).rd r1 k) λt1=>(W P GL Z).gr (.bool c) false (λk=>(W P GL Z).rd (r2 t1) k) λt2=>(W P GL Z).rd (Zs [.bool c,.bool true,t2] σ) K:=by
 cases c with
 |false=>exact Ya (Za (h1 rfl) (Ya (Za (h2 rfl) (Za rfl hK))))
 |true=>exact Qb rfl (Qb rfl (Za rfl hK))
theorem Qdh{c d:Bool}{K:AVal→Prop}{r1:SRes}{r2:AVal→SRes}{r3:AVal→AVal→SRes}{σ:List ABlk}{v1 v2:AVal}{q1 q2 q3:List Nat}(h1:c=false→r1=.ok v1 q1 [])(h2:c=false→r2 v1=.ok v2 q2 [])(h3:c=false→r3 v1 v2=.ok (.bool d) q3 [])(hK:K (.bool (c||d))) :
  (W P GL Z).gr (.bool c) false (λk=>(W P GL Z).rd r1 k) λt1=>(W P GL Z).gr (.bool c) false (λk=>(W P GL Z).rd (r2 t1) k) λt2=>(W P GL Z).gr (.bool c) false (λk=>(W P GL Z).rd (r3 t1 t2) k) λt3=>(W P GL Z).rd (Zs [.bool c,.bool true,t3] σ) K:=by
 cases c with
 |false=>exact Ya (Za (h1 rfl) (Ya (Za (h2 rfl) (Ya (Za (h3 rfl) (Za rfl hK))))))
 |true=>exact Qb rfl (Qb rfl (Qb rfl (Za rfl hK)))
theorem QcC{c d:Bool}{K:AVal→Prop}{r1:SRes}{r2:AVal→SRes}{r3:AVal→AVal→SRes}{r4:AVal→AVal→AVal→SRes}{r5:AVal→AVal→AVal→AVal→SRes}{σ:List ABlk}{v1 v2 v3 v4:AVal}{q1 q2 q3 q4 q5:List Nat}(h1:c=false→r1=.ok v1 q1 [])(h2:c=false→r2 v1=.ok v2 q2 [])(h3:c=false→r3 v1 v2=.ok v3 q3 [])(h4:c=false→r4 v1 v2 v3=.ok v4 q4 [])(h5:c=false→r5 v1 v2 v3 v4=.ok (.bool d) q5 [])(hK:K (.bool (c||d))) :
  (W P GL Z).gr (.bool c) false (λk=>(W P GL Z).rd r1 k) λt1=>(W P GL Z).gr (.bool c) false (λk=>(W P GL Z).rd (r2 t1) k) λt2=>(W P GL Z).gr (.bool c) false (λk=>(W P GL Z).rd (r3 t1 t2) k) λt3=>(W P GL Z).gr (.bool c) false (λk=>(W P GL Z).rd (r4 t1 t2 t3) k) λt4=>(W P GL Z).gr (.bool c) false (λk=>(W P GL Z).rd (r5 t1 t2 t3 t4) k) λt5=>(W P GL Z).rd (Zs [.bool c,.bool true,t5] σ) K:=by
 cases c with
 |false=>exact Ya (Za (h1 rfl) (Ya (Za (h2 rfl) (Ya (Za (h3 rfl) (Ya (Za (h4 rfl) (Ya (Za (h5 rfl) (Za rfl hK))))))))))
 |true=>exact Qb rfl (Qb rfl (Qb rfl (Qb rfl (Qb rfl (Za rfl hK)))))
theorem ZcD{c d:Bool}{K:AVal→Prop}{r1:SRes}{r2:AVal→SRes}{r3:AVal→AVal→SRes}{r4:AVal→AVal→AVal→SRes}{r5:AVal→AVal→AVal→AVal→SRes}{r6:AVal→AVal→AVal→AVal→AVal→SRes}{r7:AVal→AVal→AVal→AVal→AVal→AVal→SRes}{σ:List ABlk}{v1 v2 v3 v4 v5 v6:AVal}{q1 q2 q3 q4 q5 q6 q7:List Nat}(h1:c=false→r1=.ok v1 q1 [])(h2:c=false→r2 v1=.ok v2 q2 [])(h3:c=false→r3 v1 v2=.ok v3 q3 [])(h4:c=false→r4 v1 v2 v3=.ok v4 q4 [])(h5:c=false→r5 v1 v2 v3 v4=.ok v5 q5 [])(h6:c=false→r6 v1 v2 v3 v4 v5=.ok v6 q6 [])(h7:c=false→r7 v1 v2 v3 v4 v5 v6=.ok (.bool d) q7 [])(hK:K (.bool (c||d))) :
  (W P GL Z).gr (.bool c) false (λk=>(W P GL Z).rd r1 k) λt1=>(W P GL Z).gr (.bool c) false (λk=>(W P GL Z).rd (r2 t1) k) λt2=>(W P GL Z).gr (.bool c) false (λk=>(W P GL Z).rd (r3 t1 t2) k) λt3=>(W P GL Z).gr (.bool c) false (λk=>(W P GL Z).rd (r4 t1 t2 t3) k) λt4=>(W P GL Z).gr (.bool c) false (λk=>(W P GL Z).rd (r5 t1 t2 t3 t4) k) λt5=>(W P GL Z).gr (.bool c) false (λk=>(W P GL Z).rd (r6 t1 t2 t3 t4 t5) k) λt6=>(W P GL Z).gr (.bool c) false (λk=>(W P GL Z).rd (r7 t1 t2 t3 t4 t5 t6) k) λt7=>(W P GL Z).rd (Zs [.bool c,.bool true,t7] σ) K:=by
 cases c with
 |false=>exact Ya (Za (h1 rfl) (Ya (Za (h2 rfl) (Ya (Za (h3 rfl) (Ya (Za (h4 rfl) (Ya (Za (h5 rfl) (Ya (Za (h6 rfl) (Ya (Za (h7 rfl) (Za rfl hK))))))))))))))
 |true=>exact Qb rfl (Qb rfl (Qb rfl (Qb rfl (Qb rfl (Qb rfl (Qb rfl (Za rfl hK)))))))
theorem Zdi{c d:Bool}{K:AVal→Prop}{r1:SRes}{r2:AVal→SRes}{r3:AVal→AVal→SRes}{r4:AVal→AVal→AVal→SRes}{r5:AVal→AVal→AVal→AVal→SRes}{r6:AVal→AVal→AVal→AVal→AVal→SRes}{r7:AVal→AVal→AVal→AVal→AVal→AVal→SRes}{r8:AVal→AVal→AVal→AVal→AVal→AVal→AVal→SRes}{σ:List ABlk}{v1 v2 v3 v4 v5 v6 v7:AVal}{q1 q2 q3 q4 q5 q6 q7 q8:List Nat}(h1:c=false→r1=.ok v1 q1 [])(h2:c=false→r2 v1=.ok v2 q2 [])(h3:c=false→r3 v1 v2=.ok v3 q3 [])(h4:c=false→r4 v1 v2 v3=.ok v4 q4 [])(h5:c=false→r5 v1 v2 v3 v4=.ok v5 q5 [])(h6:c=false→r6 v1 v2 v3 v4 v5=.ok v6 q6 [])(h7:c=false→r7 v1 v2 v3 v4 v5 v6=.ok v7 q7 [])(h8:c=false→r8 v1 v2 v3 v4 v5 v6 v7=.ok (.bool d) q8 [])(hK:K (.bool (c||d))) :
  (W P GL Z).gr (.bool c) false (λk=>(W P GL Z).rd r1 k) λt1=>(W P GL Z).gr (.bool c) false (λk=>(W P GL Z).rd (r2 t1) k) λt2=>(W P GL Z).gr (.bool c) false (λk=>(W P GL Z).rd (r3 t1 t2) k) λt3=>(W P GL Z).gr (.bool c) false (λk=>(W P GL Z).rd (r4 t1 t2 t3) k) λt4=>(W P GL Z).gr (.bool c) false (λk=>(W P GL Z).rd (r5 t1 t2 t3 t4) k) λt5=>(W P GL Z).gr (.bool c) false (λk=>(W P GL Z).rd (r6 t1 t2 t3 t4 t5) k) λt6=>(W P GL Z).gr (.bool c) false (λk=>(W P GL Z).rd (r7 t1 t2 t3 t4 t5 t6) k) λt7=>(W P GL Z).gr (.bool c) false (λk=>(W P GL Z).rd (r8 t1 t2 t3 t4 t5 t6 t7) k) λt8=>(W P GL Z).rd (Zs [.bool c,.bool true,t8] σ) K:=by
 cases c with
 |false=>exact Ya (Za (h1 rfl) (Ya (Za (h2 rfl) (Ya (Za (h3 rfl) (Ya (Za (h4 rfl) (Ya (Za (h5 rfl) (Ya (Za (h6 rfl) (Ya (Za (h7 rfl) (Ya (Za (h8 rfl) (Za rfl hK))))))))))))))))
 |true=>exact Qb rfl (Qb rfl (Qb rfl (Qb rfl (Qb rfl (Qb rfl (Qb rfl (Qb rfl (Za rfl hK))))))))
theorem YcC{c d:Bool}{K:List ABlk→AVal→Prop}{r1:SRes}{r2:AVal→SRes}{cl:AVal→AVal→(KT)→Prop} {σ:List ABlk}{v1 v2:AVal}{q1 q2:List Nat}(h1:c=true→r1=.ok v1 q1 [])(h2:c=true→r2 v1=.ok v2 q2 [])(hc:c=true→∀k:KT,k (.bool d) σ→cl v1 v2 k)(hK:K σ (.bool (c&&d))) :
  (W P GL Z).gr (.bool c) true (λk=>(W P GL Z).rd r1 k) λt1=>(W P GL Z).gr (.bool c) true (λk=>(W P GL Z).rd (r2 t1) k) λt2=>(W P GL Z).gw (.bool c) true (λk=>cl t1 t2 k) σ λw0 τ=>(W P GL Z).rd (Zs [.bool c,w0,.bool false] τ) (K τ):=by
 cases c with
 |true=>exact Ya (Za (h1 rfl) (Ya (Za (h2 rfl) (ZM (hc rfl _ (Za rfl hK))))))
 |false=>exact Qb rfl (Qb rfl (Zag rfl (Za rfl hK)))
theorem Xby{c d:Bool}{K:List ABlk→AVal→Prop}{r1:SRes}{r2:AVal→SRes}{r3:AVal→AVal→SRes}{cl:AVal→AVal→AVal→(KT)→Prop} {σ:List ABlk}{v1 v2 v3:AVal}{q1 q2 q3:List Nat}(h1:c=true→r1=.ok v1 q1 [])(h2:c=true→r2 v1=.ok v2 q2 [])(h3:c=true→r3 v1 v2=.ok v3 q3 [])(hc:c=true→∀k:KT,k (.bool d) σ→cl v1 v2 v3 k)(hK:K σ (.bool (c&&d))) :
  (W P GL Z).gr (.bool c) true (λk=>(W P GL Z).rd r1 k) λt1=>(W P GL Z).gr (.bool c) true (λk=>(W P GL Z).rd (r2 t1) k) λt2=>(W P GL Z).gr (.bool c) true (λk=>(W P GL Z).rd (r3 t1 t2) k) λt3=>(W P GL Z).gw (.bool c) true (λk=>cl t1 t2 t3 k) σ λw0 τ=>(W P GL Z).rd (Zs [.bool c,w0,.bool false] τ) (K τ):=by
 cases c with
 |true=>exact Ya (Za (h1 rfl) (Ya (Za (h2 rfl) (Ya (Za (h3 rfl) (ZM (hc rfl _ (Za rfl hK))))))))
 |false=>exact Qb rfl (Qb rfl (Qb rfl (Zag rfl (Za rfl hK))))
theorem Qby{c d:Bool}{K:List ABlk→AVal→Prop}{r1:SRes}{r2:AVal→SRes}{r3:AVal→AVal→SRes}{r4:AVal→AVal→AVal→SRes}{cl:AVal→AVal→AVal→AVal→(KT)→Prop} {σ:List ABlk}{v1 v2 v3 v4:AVal}{q1 q2 q3 q4:List Nat}(h1:c=true→r1=.ok v1 q1 [])(h2:c=true→r2 v1=.ok v2 q2 [])(h3:c=true→r3 v1 v2=.ok v3 q3 [])(h4:c=true→r4 v1 v2 v3=.ok v4 q4 [])(hc:c=true→∀k:KT,k (.bool d) σ→cl v1 v2 v3 v4 k)(hK:K σ (.bool (c&&d))) :
  (W P GL Z).gr (.bool c) true (λk=>(W P GL Z).rd r1 k) λt1=>(W P GL Z).gr (.bool c) true (λk=>(W P GL Z).rd (r2 t1) k) λt2=>(W P GL Z).gr (.bool c) true (λk=>(W P GL Z).rd (r3 t1 t2) k) λt3=>(W P GL Z).gr (.bool c) true (λk=>(W P GL Z).rd (r4 t1 t2 t3) k) λt4=>(W P GL Z).gw (.bool c) true (λk=>cl t1 t2 t3 t4 k) σ λw0 τ=>(W P GL Z).rd (Zs [.bool c,w0,.bool false] τ) (K τ):=by
 cases c with
 |true=>exact Ya (Za (h1 rfl) (Ya (Za (h2 rfl) (Ya (Za (h3 rfl) (Ya (Za (h4 rfl) (ZM (hc rfl _ (Za rfl hK))))))))))
 |false=>exact Qb rfl (Qb rfl (Qb rfl (Qb rfl (Zag rfl (Za rfl hK)))))
theorem Zbz{c d:Bool}{K:List ABlk→AVal→Prop}{r1:SRes}{r2:AVal→SRes}{r3:AVal→AVal→SRes}{r4:AVal→AVal→AVal→SRes}{r5:AVal→AVal→AVal→AVal→SRes}{r6:AVal→AVal→AVal→AVal→AVal→SRes}{cl:AVal→AVal→AVal→AVal→AVal→AVal→(KT)→Prop} {σ:List ABlk}{v1 v2 v3 v4 v5 v6:AVal}{q1 q2 q3 q4 q5 q6:List Nat}(h1:c=true→r1=.ok v1 q1 [])(h2:c=true→r2 v1=.ok v2 q2 [])(h3:c=true→r3 v1 v2=.ok v3 q3 [])(h4:c=true→r4 v1 v2 v3=.ok v4 q4 [])(h5:c=true→r5 v1 v2 v3 v4=.ok v5 q5 [])(h6:c=true→r6 v1 v2 v3 v4 v5=.ok v6 q6 [])(hc:c=true→∀k:KT,k (.bool d) σ→cl v1 v2 v3 v4 v5 v6 k)(hK:K σ (.bool (c&&d))) :
  (W P GL Z).gr (.bool c) true (λk=>(W P GL Z).rd r1 k) λt1=>(W P GL Z).gr (.bool c) true (λk=>(W P GL Z).rd (r2 t1) k) λt2=>(W P GL Z).gr (.bool c) true (λk=>(W P GL Z).rd (r3 t1 t2) k) λt3=>(W P GL Z).gr (.bool c) true (λk=>(W P GL Z).rd (r4 t1 t2 t3) k) λt4=>(W P GL Z).gr (.bool c) true (λk=>(W P GL Z).rd (r5 t1 t2 t3 t4) k) λt5=>(W P GL Z).gr (.bool c) true (λk=>(W P GL Z).rd (r6 t1 t2 t3 t4 t5) k) λt6=>(W P GL Z).gw (.bool c) true (λk=>cl t1 t2 t3 t4 t5 t6 k) σ λw0 τ=>(W P GL Z).rd (Zs [.bool c,w0,.bool false] τ) (K τ):=by
 cases c with
 |true=>exact Ya (Za (h1 rfl) (Ya (Za (h2 rfl) (Ya (Za (h3 rfl) (Ya (Za (h4 rfl) (Ya (Za (h5 rfl) (Ya (Za (h6 rfl) (ZM (hc rfl _ (Za rfl hK))))))))))))))
 |false=>exact Qb rfl (Qb rfl (Qb rfl (Qb rfl (Qb rfl (Qb rfl (Zag rfl (Za rfl hK)))))))
theorem YcD{c d:Bool}{K:List ABlk→AVal→Prop}{r1:SRes}{r2:AVal→SRes}{r3:AVal→AVal→SRes}{r4:AVal→AVal→AVal→SRes}{cl:AVal→AVal→AVal→AVal→(KT)→Prop}{s1:AVal→List ABlk→SRes}{σ:List ABlk}{v1 v2 v3 v4 u0:AVal}{q1 q2 q3 q4 p1:List Nat}(h1:c=false→r1=.ok v1 q1 [])(h2:c=false→r2 v1=.ok v2 q2 [])(h3:c=false→r3 v1 v2=.ok v3 q3 [])(h4:c=false→r4 v1 v2 v3=.ok v4 q4 [])(hc:c=false→∀k:KT,k u0 σ→cl v1 v2 v3 v4 k)(g1:c=false→s1 u0 σ=.ok (.bool d) p1 [])(hK:K σ (.bool (c||d))) :
  (W P GL Z).gr (.bool c) false (λk=>(W P GL Z).rd r1 k) λt1=>(W P GL Z).gr (.bool c) false (λk=>(W P GL Z).rd (r2 t1) k) λt2=>(W P GL Z).gr (.bool c) false (λk=>(W P GL Z).rd (r3 t1 t2) k) λt3=>(W P GL Z).gr (.bool c) false (λk=>(W P GL Z).rd (r4 t1 t2 t3) k) λt4=>(W P GL Z).gw (.bool c) false (λk=>cl t1 t2 t3 t4 k) σ λw0 τ=>(W P GL Z).gr (.bool c) false (λk=>(W P GL Z).rd (s1 w0 τ) k) λw1=>(W P GL Z).rd (Zs [.bool c,.bool true,w1] τ) (K τ):=by
 cases c with
 |false=>exact Ya (Za (h1 rfl) (Ya (Za (h2 rfl) (Ya (Za (h3 rfl) (Ya (Za (h4 rfl) (ZM (hc rfl _ (Ya (Za (g1 rfl) (Za rfl hK))))))))))))
 |true=>exact Qb rfl (Qb rfl (Qb rfl (Qb rfl (Zag rfl (Qb rfl (Za rfl hK))))))
end
end Go.Ah
end
section
namespace Go.Ah
section
variable {P:Program} {GL:Globs} {Z:PZ}
theorem Xay(hP:POk P){k:MK}{xs ys zs:List AVal}{f:FuncId}(hc:Zk k xs=some (f,ys)){np:Nat}{g:GFun}(hg:GOk P GL f np g)(hn:ys.length=np){σ τ τ':List ABlk}(fp ids:List Nat){v:AVal}{m:Nat}(hfp:∀b∈fp,b∈ids)(hids:∀b∈ids,b<σ.length)
 (hys:renL (ltM σ.length) ys=zs)(hτ:maskR fp σ=τ)(h:g (W P GL noZ) zs τ (λv' s=>v'=v∧s=τ'))(hk:τ'.length=σ.length+m)
 {K:AVal→List Nat×List Nat→List ABlk→Prop}{u:AVal}{up:List (Nat×ABlk)}{σ':List ABlk}(hv:v.ren (keepM ids σ.length m)=u)(hup:((fp++List.range' σ.length m).map λb=>(b,(hget τ' b).mapV (AVal.ren (keepM ids σ.length m))))=up)(hu:upL σ up=some σ')(hK:K u (ids,up.map (·.1)) σ'):(W P GL Z).dcall k xs σ K:=by
 subst hv; subst hup;have hzl:zs.length=np:=by rw[←hys,Qr,hn]
 obtain⟨F,h1,h2,h3⟩:=hg.awp hP (YcG P GL _) hzl h;refine XaL hc hg.plain (QaD h1 (hn.trans h2.symm) σ fp ids hfp hids hys hτ (h3.mono λe ρ s q=>?_) hk) hu hK
 grind
end
end Go.Ah
end
section
namespace Go.Ah
section
variable {P:Program} {GL:Globs} {Z:PZ}
theorem Xn(hP:POk P){f:FuncId}{np:Nat}{g:GFun}(hg:GOk P GL f np g){xs:List AVal}(hn:xs.length=np){y:AVal}(h:g (W P GL noZ) xs [] (λv' σ=>∃rd,Bor (hp σ) rd v' y)):PCall P GL f xs y:=by
 obtain⟨F,h1,h2,h3⟩:=hg.awp hP (YcG P GL _) hn h;intro w M vs hM hg hx;have r0:=Rep.start (GL:=GL) w M hM hg;have hh:hp []=noHp:=by funext b; simp[hp,noHp]
 rw[←hh] at r0;refine(Zbs h1 (hn.trans h2.symm) h3 w ⟨[],M⟩ ⟨M,noOwn,[]⟩ w vs r0 hx).mono ?_;rintro e w' ⟨u,he,g',x,σ',⟨rd,hR⟩,hle,r,d⟩
 let M2:Nat→Option Obj:=λb=>if b<w.heap.size then g'.M b else w'.heap[b]?
 have cov:Cov g' (hp σ') w' M2:=by
  refine⟨λb o e=>?_,λb blk cb o e1 e2 e3 e4 e5=>?_⟩
  ·show (if b<w.heap.size then g'.M b else w'.heap[b]?)=some o;split
   ·exact e
   ·exact r.stable b o e
  ·obtain⟨_,hin,_⟩:=r.own b blk cb e1 e2 e3 e4
   grind
 have hd2:=hR GL w ⟨[],M⟩ g' (hp σ') w' M2 r cov (λ_ _=>rfl) u d;refine⟨u,he,r.keeps,M2,λb o e=>cov.1 b o (hle.m b o e),λb o e=>?_,λb o e=>?_,hd2⟩
 ·have e':(if b<w.heap.size then g'.M b else w'.heap[b]?)=some o:=e;split at e'
  ·exact r.stable b o e'
  ·exact e'
 ·have e':(if b<w.heap.size then g'.M b else w'.heap[b]?)=some o:=e;split at e'
  ·rcases r.src b o e' with q|q|q<;>simp_all
  ·exact .inr (by omega)
theorem Bor.tup{h0:Hp}{rd:List Nat}{xs ys:List AVal}(h1:BorL h0 rd xs ys):Bor h0 rd (.tup xs) (.tup ys):=by
 intro GL w0 L g h w M2 r hM hrd v d;cases d with
 |tup _ _ vs hs hd=>
  obtain⟨hl,hd'⟩:=h1.get r hM hrd (vs:=vs.toList) (by simp[hs]) (λi x v e1 e2=>hd i x v e1 (by simpa using e2));exact .tup _ _ _ (by simpa[hs] using hl.symm) (λi x v e1 e2=>hd' i x v e1 (by simpa using e2))
theorem Bor.weak{h0:Hp}{rd:List Nat}{x y z:AVal}(h:Bor h0 rd x y)(k:∀(M:Nat→Option Obj) (u:Value),Den M noOwn y u→Den M noOwn z u):Bor h0 rd x z:=
 λGL w0 L g h' w M2 r hM hrd v d=>k M2 v (h GL w0 L g h' w M2 r hM hrd v d)
theorem Den.rsl_weak{M:Nat→Option Obj}{c:Own}{e n:Bool}{sz:Nat}{rows:List (List AVal)}{u:Value}(h:Den M c (.rsl e n sz rows) u):Den M c (.rsl false false sz rows) u:=by
 cases h with
 |rsl _ _ _ _ _ a cap blk off f q1 q2 q3 q4 q5 q6 q7 q8=>exact .rsl _ _ _ _ _ a cap blk off f (λh=>by cases h) (λh=>by cases h) q3 q4 q5 q6 q7 q8
theorem Den.nils_rsl{M:Nat→Option Obj}{c:Own}{u:Value}(sz:Nat)(h:Den M c .nils u):Den M c (.rsl false false sz []) u:=by
 cases h with
 |nils=>exact .rsl _ _ _ _ [] none 0 0 0 (λ_ _=>undef) (λh=>by cases h) (λh=>by cases h) (λh=>(h rfl).elim) (λ_=>rfl) (by simp) (by simp) (by simp) (by simp)
theorem BorL.ro{h0:Hp}{rd:List Nat}:∀ {l:List AVal},roL l=true→BorL h0 rd l l
 |[],_=>BorL.nil
 |x::l,h=>by
  simp only[roL,Bool.and_eq_true] at h;exact BorL.cons (Bor.ro h.1) (BorL.ro h.2)
theorem Bor.own{σ:List ABlk}{rd:List Nat}{b off len sz:Nat}{ex:Bool}{rs rows:List (List AVal)}(hb:hget σ b=.rows sz rs)(hin:b∈rd)(hle:off+len≤rs.length)(hc:cut off (off+len) rs=rows)(hro:∀r∈rs,roL r=true):Bor (hp σ) rd (.sl b off len ex) (.rsl false false sz rows):=by
 refine Bor.weak (y:=.rsl ex false sz rows) ?_ (λM u d=>d.rsl_weak);have hb':hp σ b=some (.rows sz rs):=Qae hb (by simp);subst hc;refine Bor.sl hb' hin hle (XY hle▸by omega) (λi row row' q1 q2=>?_)
 grind [cut,BorL.ro]
theorem Zas(l:List (List AVal))(n:Nat)(h:n=l.length):cut 0 (0+n) l=l:=by subst h; simp[cut]
theorem ZaJ{k:MK}{xs ys zs:List AVal}{f:FuncId}{v:AVal}{rd:List Nat}(h:PCall P GL f zs v){σ:List ABlk}(hc:Zk k xs=some (f,ys))(hp':Qi P f=true)(hb:BorL (hp σ) rd ys zs)(hv:v.flat=true){K:KT}(hK:K v σ):(W P GL Z).call k xs σ K:=
 Qa8 hc hp' (h.lend hb hv) (ZT σ) hK
theorem Xcd{k:MK}{xs ys zs:List AVal}{f:FuncId}{v:AVal}{bs:List ABlk}{rd:List Nat}(h:NCall P GL f zs v bs){σ:List ABlk}(hc:Zk k xs=some (f,ys))(hp':Qi P f=true)(hb:BorL (hp σ) rd ys zs)(hv:v.nosh=true)(hbs:XaF bs=true){K:KT}(hK:K (v.ren (QR σ.length)) (σ++QI σ.length bs)):(W P GL Z).call k xs σ K:=
 Qa8 hc hp' (h.lend hb hv hbs (λi _=>by simp[hp])) (Y5 _ σ) hK
theorem QaZ{k:MK}{xs ys zs:List AVal}{f:FuncId}{v:AVal}{bs:List ABlk}{rd:List Nat}(h:NCall P GL f zs v bs){σ:List ABlk}(hc:Zk k xs=some (f,ys))(hp':Qi P f=true)(hb:BorL (hp σ) rd ys zs)(hv:v.nosh=true)(hbs:XaF bs=true){K:AVal→List Nat×List Nat→List ABlk→Prop}(hK:K (v.ren (QR σ.length)) (rd,QaO σ.length (QI σ.length bs)) (σ++QI σ.length bs)):(W P GL Z).dcall k xs σ K:=
 XaL hc hp' (h.lend hb hv hbs (λi _=>by simp[hp])) (Y5 _ σ) (by rw[YaW]; exact hK)
end
end Go.Ah
end
section
namespace Go.Ah
section
variable {H:Type}
def DLs(M:Nat→Option Obj)(xs:List AVal)(cs:List Value):Prop:=xs.length=cs.length∧∀(i:Nat) (x:AVal) (v:Value),xs[i]?=some x→cs[i]?=some v→Den M noOwn x v
theorem DLs.nil{M:Nat→Option Obj}:DLs M [] []:=⟨rfl,λi x v h=>by simp at h⟩
theorem DLs.one{M:Nat→Option Obj}{x:AVal}{v:Value}(h:Den M noOwn x v):DLs M [x] [v]:=by
 refine⟨rfl,λi y u h1 h2=>?_⟩;cases i with
 |zero=>simp at h1 h2; subst h1; subst h2; exact h
 |succ i=>simp at h1
theorem DLs.append{M:Nat→Option Obj}{xs ys:List AVal}{cs ds:List Value}(h:DLs M xs cs)(k:DLs M ys ds):DLs M (xs++ys) (cs++ds):=by
 refine⟨by simp[h.1,k.1],λi x v h1 h2=>?_⟩;by_cases hi:i<xs.length
 ·rw[List.getElem?_append_left hi] at h1;rw[List.getElem?_append_left (by rw[←h.1]; exact hi)] at h2;exact h.2 i x v h1 h2
 ·rw[List.getElem?_append_right (by omega)] at h1;rw[List.getElem?_append_right (by rw[←h.1]; omega),←h.1] at h2;exact k.2 _ x v h1 h2
def Tri{α β γ:Type}(R:α→β→γ→Prop):List α→List β→List γ→Prop
 |[],[],[]=>True
 |a::us,b::bs,c::cs=>R a b c∧Tri R us bs cs
 |_,_,_=>False
def Two{α β:Type}(R:α→β→Prop):List α→List β→Prop
 |[],[]=>True
 |a::us,b::bs=>R a b∧Two R us bs
 |_,_=>False
theorem Tri.cons{α β γ:Type}{R:α→β→γ→Prop}{a:α}{us:List α}{bs:List β}{cs:List γ}(h:Tri R (a::us) bs cs):∃b bs' c cs',bs=b::bs'∧cs=c::cs'∧R a b c∧Tri R us bs' cs':=by
 match bs,cs,h with
 |b::bs,c::cs,h=>exact⟨b,bs,c,cs,rfl,rfl,h.1,h.2⟩
theorem Tri.nil{α β γ:Type}{R:α→β→γ→Prop}{bs:List β}{cs:List γ}(h:Tri R [] bs cs):bs=[]∧cs=[]:=by
 match bs,cs,h with
 |[],[],_=>exact⟨rfl,rfl⟩
theorem Two.cons{α β:Type}{R:α→β→Prop}{a:α}{us:List α}{bs:List β}(h:Two R (a::us) bs):∃b bs',bs=b::bs'∧R a b∧Two R us bs':=by
 match bs,h with
 |b::bs,h=>exact⟨b,bs,rfl,h.1,h.2⟩
theorem Two.length{α β:Type}{R:α→β→Prop}:∀ {us:List α} {bs:List β},Two R us bs→us.length=bs.length
 |[],[],_=>rfl
 |_::_,_::_,h=>by simp[Two.length h.2]
 |[],_::_,h=>h.elim
 |_::_,[],h=>h.elim
def Typed(P:Program):Nat→TypeId→List AVal→DataW H→Prop
 |0,_,_,_=>False
 |fuel+1,t,xs,d=>match P.underlying t with
  |some .bool=>∃b,xs=[.bool b]∧d=.lit (.bool b)
  |some (.int k)=>∃n,xs=[.int k n]∧(Lit.int k n).wf=true∧d=.lit (.int k n)
  |some .string=>∃s,xs=[.str s]∧d=.lit (.string s)
  |some (.slice e)=>∃rows,xs=[.rsl false false (P.cellsOf e) rows]∧((rows=[]∧d=.nil)∨∃es sp,d=.slice es sp∧Two (Typed P fuel e) rows es)
  |some (.struct fs)=>∃parts ds,xs=parts.flatten∧d=.agg ds∧Tri (Typed P fuel) (fs.toList.map (·.type)) parts ds
  |some (.array n e)=>∃parts ds,xs=parts.flatten∧d=.agg ds∧parts.length=n∧Two (Typed P fuel e) parts ds
  |_=>False
def tiles(P:Program):Nat→List Field→Option Nat
 |o,[]=>some o
 |o,f::r=>bif Nat.beq f.offset o then tiles P (o+P.cellsOf f.type) r else none
def tyOk(P:Program)(S:List TypeId)(t:TypeId):Bool:=match P.underlying t with
 |some .bool=>Nat.beq (P.cellsOf t) 1
 |some (.int _)=>Nat.beq (P.cellsOf t) 1
 |some .string=>Nat.beq (P.cellsOf t) 1
 |some (.slice e)=>Nat.beq (P.cellsOf t) 1&&(Nat.blt 0 (P.cellsOf e)&&S.contains e)
 | some (.struct fs)=>(match tiles P 0 fs.toList with
  |some n=>Nat.beq n (P.cellsOf t)
  | none=>false) && fs.toList.all λf=>S.contains f.type
 |some (.array n e)=>Nat.beq (P.cellsOf t) (n*P.cellsOf e)&&S.contains e
 |_=>false
variable {enc:TypeId×Value→H} {P:Program} {w:World} {base:Nat} {spare:Nat→Bool} {held:Bool}
theorem YaK{α β:Type}{f:α→Option β}:∀ {l:List α} {r:List β},l.mapM f=some r→Two (λa b=>f a=some b) l r
 |[],r,h=>by simp at h; subst h; trivial
 |a::l,r,h=>by
  rw[List.mapM_cons] at h;cases ha:f a with
  |none=>simp[ha] at h
  |some b=>
   cases hl:l.mapM f with
   |none=>simp[ha,hl] at h
   |some bs=>simp[ha,hl] at h; subst h; exact⟨ha,YaK hl⟩
def Tells(enc:TypeId×Value→H)(P:Program)(w:World)(base:Nat)(spare:Nat→Bool)(held:Bool)(fuel:Nat)(t:TypeId)(cs:List Value)(d:DataW H):Prop:=∃ps,DataW.trod enc P w base spare held fuel t cs=some (d,ps)
def Fine(enc:TypeId×Value→H)(P:Program)(w:World)(base:Nat)(spare:Nat→Bool)(held:Bool)(fuel:Nat)(t:TypeId):Prop:=
 ∀cs d,Tells enc P w base spare held fuel t cs d→cs.length=P.cellsOf t∧∃xs,DLs (λb=>w.heap[b]?) xs cs∧Typed P fuel t xs d
theorem Zck{a:Addr}{v:Value}(h:w.cell? a=some v):a.spot=none∧mcell (λb=>w.heap[b]?) a.block a.off=some v:=by
 unfold World.cell? at h;show _∧(match w.heap[a.block]? with
  |some (.cells c _ _)=>c[a.off]?
  | _=>none)=some v
 cases hb:w.heap[a.block]? with
 |none=>rw[hb] at h; cases h
 |some o=>
  rw[hb] at h;cases o with
  |cells c t fr=>
   simp only at h;split at h
   ·cases h
   ·rename_i hs;exact⟨by simpa using hs,h⟩
  |_=>cases h
theorem Ybk(a:Addr)(n:Nat):(a.add n).block=a.block:=by unfold Addr.add; split<;>rfl
theorem Ych(a:Addr)(n:Nat):(a.add n).off=a.off+n:=by unfold Addr.add; split<;>simp_all
theorem YaO{fuel:Nat}{cs:List Value}:∀ {fs:List Field} {o n:Nat} {xs:List (DataW H×List MemPlace)},tiles P o fs=some n→n≤cs.length→(∀f∈fs,Fine enc P w base spare held fuel f.type) →
  Two (λ(f:Field) y=>DataW.trod enc P w base spare held fuel f.type ((cs.drop f.offset).take (P.cellsOf f.type))=some y) fs xs→o≤n ∧
  ∃parts,DLs (λb=>w.heap[b]?) parts.flatten ((cs.take n).drop o)∧Tri (Typed P fuel) (fs.map (·.type)) parts (xs.map (·.1))
 |[],o,n,xs,ht,hn,hf,h=>by
  simp only[tiles,Option.some.injEq] at ht;subst ht
  match xs,h with
  |[],_=>
   refine⟨Nat.le_refl _,[],?_,trivial⟩;have:(cs.take o).drop o=[]:=by simp
   rw[this]; exact DLs.nil
 |f::fs,o,n,xs,ht,hn,hf,h=>by
  simp only[tiles] at ht;cases hb:Nat.beq f.offset o with
  |false=>rw[hb] at ht; cases ht
  |true=>
   rw[hb] at ht;have ho:=YNB hb;obtain⟨y,ys,rfl,h1,h2⟩:=h.cons;obtain⟨hle,parts,hd,h3⟩:=YaO ht hn (λg hg=>hf g (List.mem_cons_of_mem _ hg)) h2;obtain⟨hl,p,hp,hy⟩:=hf f (List.mem_cons_self ..) _ _ ⟨y.2,h1⟩;refine⟨by omega,p::parts,?_,hy,h3⟩;have e:(cs.take n).drop o=(cs.drop f.offset).take (P.cellsOf f.type)++(cs.take n).drop (o+P.cellsOf f.type):=by
    have e1:(cs.take n).drop o=((cs.take n).drop o).take (P.cellsOf f.type)++((cs.take n).drop o).drop (P.cellsOf f.type):=(List.take_append_drop _ _).symm;rw[e1,List.drop_drop,ho]
    congr 1
    rw[List.drop_take,List.take_take]
    congr 1
    omega
   rw[List.flatten_cons,e];exact hp.append hd
theorem Qa2{fuel:Nat}{e:TypeId}{cs:List Value}(hf:Fine enc P w base spare held fuel e):∀ {n o:Nat} {xs:List (DataW H×List MemPlace)},(o+n)*P.cellsOf e≤cs.length →
  Two (λ(i:Nat) y=>DataW.trod enc P w base spare held fuel e ((cs.drop (i*P.cellsOf e)).take (P.cellsOf e))=some y) (List.range' o n) xs →
  ∃parts,DLs (λb=>w.heap[b]?) parts.flatten ((cs.take ((o+n)*P.cellsOf e)).drop (o*P.cellsOf e))∧parts.length=n∧Two (Typed P fuel e) parts (xs.map (·.1))
 |0,o,xs,hn,h=>by
  match xs,h with
  |[],_=>
   refine⟨[],?_,rfl,trivial⟩;have:(cs.take ((o+0)*P.cellsOf e)).drop (o*P.cellsOf e)=[]:=by simp
   rw[this]; exact DLs.nil
 |n+1,o,xs,hn,h=>by
  rw[List.range'_succ] at h;obtain⟨y,ys,rfl,h1,h2⟩:=h.cons;have hn':(o+1+n)*P.cellsOf e≤cs.length:=by rw[show o+1+n=o+(n+1) by omega]; exact hn
  obtain⟨parts,hd,h3,h4⟩:=Qa2 hf hn' h2;obtain⟨hl,p,hp,hy⟩:=hf _ _ ⟨y.2,h1⟩;refine⟨p::parts,?_,by simp[h3],hy,h4⟩;have hs:(o+1)*P.cellsOf e=o*P.cellsOf e+P.cellsOf e:=by rw[Nat.add_mul,Nat.one_mul]
  have hm:(o+1)*P.cellsOf e≤(o+(n+1))*P.cellsOf e:=Nat.mul_le_mul_right _ (by omega);have e1:(cs.take ((o+(n+1))*P.cellsOf e)).drop (o*P.cellsOf e)=(cs.drop (o*P.cellsOf e)).take (P.cellsOf e)++(cs.take ((o+1+n)*P.cellsOf e)).drop ((o+1)*P.cellsOf e):=by
   rw[show o+1+n=o+(n+1) by omega,hs];have e2:(cs.take ((o+(n+1))*P.cellsOf e)).drop (o*P.cellsOf e)=((cs.take ((o+(n+1))*P.cellsOf e)).drop (o*P.cellsOf e)).take (P.cellsOf e)++((cs.take ((o+(n+1))*P.cellsOf e)).drop (o*P.cellsOf e)).drop (P.cellsOf e):=(List.take_append_drop _ _).symm;rw[e2,List.drop_drop]
   congr 1
   rw[List.drop_take,List.take_take]
   congr 1
   omega
  rw[List.flatten_cons,e1];exact hp.append hd
theorem Qbt{fuel:Nat}{e:TypeId}{a:Addr}(hf:Fine enc P w base spare held fuel e)(hpos:0<P.cellsOf e):∀ {n o:Nat} {xs:List (DataW H×List MemPlace)},
  Two (λ(i:Nat) y=>(w.cells? base (a.add (i*P.cellsOf e)) (P.cellsOf e)).bind (DataW.trod enc P w base spare held fuel e)=some y) (List.range' o n) xs →
  ∃(rows:List (List AVal)) (f:Nat→Nat→Value),rows.length=n∧Two (Typed P fuel e) rows (xs.map (·.1))∧(n≠0→o=0→a.spot=none)∧(∀(i:Nat) (row:List AVal),rows[i]?=some row→row.length=P.cellsOf e) ∧
   (∀i j,i<n→j<P.cellsOf e→mcell (λb=>w.heap[b]?) a.block (a.off+((o+i)*P.cellsOf e+j))=some (f i j))∧(∀(i:Nat) (row:List AVal) (j:Nat) (x:AVal),rows[i]?=some row→row[j]?=some x→Den (λb=>w.heap[b]?) noOwn x (f i j))
 |0,o,xs,h=>by
  match xs,h with
  |[],_=>exact⟨[],λ_ _=>undef,rfl,trivial,λh _=>(h rfl).elim,by simp,by intro i j hi; omega,by simp⟩
 |n+1,o,xs,h=>by
  rw[List.range'_succ] at h;obtain⟨y,ys,rfl,h1,h2⟩:=h.cons;obtain⟨rows,f,q1,q2,q3,q4,q5,q6⟩:=Qbt hf hpos h2;obtain⟨cs,hc,hy⟩:=Option.bind_eq_some_iff.1 h1;obtain⟨_,hl,hcell⟩:=World.cells?_some hc;obtain⟨_,xs0,hd,hty⟩:=hf cs y.1 ⟨y.2,hy⟩;have hat:∀j,j<P.cellsOf e→∃v,cs[j]?=some v∧mcell (λb=>w.heap[b]?) a.block (a.off+o*P.cellsOf e+j)=some v:=by
   intro j hj;obtain⟨v,hv⟩:∃v,cs[j]?=some v:=⟨cs[j]'(by omega),by simp[show j<cs.length by omega]⟩;have:=hcell j hj;rw[hv] at this;obtain⟨m1,m2⟩:=Zck this;rw[Ybk,Ybk,Ych,Ych] at m2;exact⟨v,hv,m2⟩
  refine⟨xs0::rows,λi j=>match i with|0=>(cs[j]?).getD undef|i+1=>f i j,by simp[q1],⟨hty,q2⟩,λ_ ho=>?_,?_,?_,?_⟩
  ·have:=hcell 0 hpos;rw[show cs[0]?=some (cs[0]'(by omega)) by simp[show 0<cs.length by omega]] at this;have:=(Zck this).1;subst ho;simpa[Addr.add] using this
  ·intro i row hr;cases i with
   |zero=>simp at hr; subst hr; rw[hd.1,hl]
   |succ i=>exact q4 i row (by simpa using hr)
  ·intro i j hi hj;cases i with
   |zero=>
    obtain⟨v,e1,e2⟩:=hat j hj;simp only[e1,Option.getD_some,Nat.add_zero];rw[←Nat.add_assoc]; exact e2
   |succ i=>
    have:=q5 i j (by omega) hj;rw[show o+(i+1)=o+1+i by omega];exact this
  ·intro i row j x hr hx;cases i with
   |zero=>
    simp at hr; subst hr;have hj:j<cs.length:=by rw[←hd.1]; exact(YLG hx).1
    have hv:cs[j]?=some cs[j]:=by simp[hj]
    simp only[hv,Option.getD_some];exact hd.2 j x _ hx hv
   |succ i=>exact q6 i row j x (by simpa using hr) hx
theorem XaV{S:List TypeId}(hS:S.all (tyOk P S)=true):∀(fuel:Nat) (t:TypeId),t∈S→Fine enc P w base spare held fuel t
 |0,t,_=>by
  rintro cs d ⟨ps,h⟩;simp[DataW.trod] at h
 |fuel+1,t,ht=>by
  rintro cs d ⟨ps,h⟩;have hok:=List.all_eq_true.1 hS t ht;have ih:=λt ht=>XaV hS fuel t ht;unfold tyOk at hok;unfold DataW.trod at h;split at h
  case h_1=>
   rename_i hu;rw[hu] at hok;cases h;exact⟨(YNB hok).symm,_,DLs.one (.bool _ _),by unfold Typed; rw[hu]; exact⟨_,rfl,rfl⟩⟩
  case h_2=>
   rename_i hu;rw[hu] at hok;split at h
   ·rename_i hk;obtain⟨rfl,hw⟩:=hk;cases h;exact⟨(YNB hok).symm,_,DLs.one (.int _ _ _),by unfold Typed; rw[hu]; exact⟨_,rfl,hw,rfl⟩⟩
   ·cases h
  case h_4=>
   rename_i hu;rw[hu] at hok;split at h
   ·cases h;exact⟨(YNB hok).symm,_,DLs.one (.str _ _),by unfold Typed; rw[hu]; exact⟨_,rfl,rfl⟩⟩
   ·cases h
  case h_7=>
   rename_i e hu;rw[hu] at hok;simp only[Bool.and_eq_true] at hok;cases h;refine⟨(YNB hok.1).symm,_,DLs.one (Den.nils_rsl (P.cellsOf e) (.nils _)),?_⟩;unfold Typed; rw[hu]; exact⟨[],rfl,.inl ⟨rfl,rfl⟩⟩
  case h_8=>
   rename_i e a len cap hu;rw[hu] at hok;simp only[Bool.and_eq_true] at hok;obtain⟨k1,k2,k3⟩:=hok;have hpos:0<P.cellsOf e:=YNL k2;simp only at h;split at h
   ·rename_i hc;obtain⟨els,he,h⟩:=Option.bind_eq_some_iff.1 h;obtain⟨rest,hr,h⟩:=Option.map_eq_some_iff.1 h;cases h;rw[List.range_eq_range'] at he;obtain⟨rows,f,q1,q2,q3,q4,q5,q6⟩:=Qbt (ih e (List.contains_iff_mem.1 k3)) hpos (YaK he);refine⟨(YNB k1).symm,[.rsl false false (P.cellsOf e) rows],DLs.one ?_,?_⟩
    ·rw[←q1];refine .rsl _ false false (P.cellsOf e) rows (some a) cap a.block a.off f (λh=>by cases h) (λh=>by cases h) (λhne=>?_) (λh=>by cases h) (by rw[q1]; exact hc.2.1) q4 (λi j hi hj=>?_) q6
     ·have hn:len≠0:=λe=>hne (List.length_eq_zero_iff.1 (q1.trans e));have:=q3 hn rfl;cases a; simp at this; subst this; rfl
     ·have:=q5 i j (by omega) hj;rw[Nat.zero_add] at this; exact this
    ·unfold Typed; rw[hu]; exact⟨rows,rfl,.inr ⟨_,_,rfl,q2⟩⟩
   ·cases h
  case h_9=>
   rename_i fs hu;rw[hu] at hok;simp only[Bool.and_eq_true] at hok;obtain⟨k1,k2⟩:=hok;split at h
   ·rename_i hl;obtain⟨xs,hx,h⟩:=Option.map_eq_some_iff.1 h;cases h;cases ht:tiles P 0 fs.toList with
    |none=>rw[ht] at k1; cases k1
    |some n=>
     rw[ht] at k1;have hn:=YNB k1;obtain⟨_,parts,hd,h3⟩:=YaO ht (by omega) (λg hg=>ih _ (List.contains_iff_mem.1 (List.all_eq_true.1 k2 g hg))) (YaK hx);refine⟨hl,parts.flatten,?_,?_⟩
     ·rw[List.drop_zero,List.take_of_length_le (by omega)] at hd; exact hd
     ·unfold Typed; rw[hu]; exact⟨parts,_,rfl,rfl,h3⟩
   ·cases h
  case h_10=>
   rename_i n e hu;rw[hu] at hok;simp only[Bool.and_eq_true] at hok;obtain⟨k1,k2⟩:=hok;have hn:=YNB k1;split at h
   ·rename_i hl;obtain⟨xs,hx,h⟩:=Option.map_eq_some_iff.1 h;cases h;rw[List.range_eq_range'] at hx;obtain⟨parts,hd,h3,h4⟩:=Qa2 (ih e (List.contains_iff_mem.1 k2)) (o:=0) (n:=n) (by rw[Nat.zero_add]; omega) (YaK hx);refine⟨hl,parts.flatten,?_,?_⟩
    ·rw[Nat.zero_mul,List.drop_zero,Nat.zero_add,List.take_of_length_le (by omega)] at hd; exact hd
    ·unfold Typed; rw[hu]; exact⟨parts,_,rfl,rfl,h3,h4⟩
   ·cases h
  all_goals first|(rename_i hu; rw[hu] at hok; exact absurd (show false=true from hok) (by decide))|cases h
end
end Go.Ah
end
section
namespace Go.Ah
def layD(D:List Deferred)(a:Act):Act:={ a with defers:=a.defers++D }
section
variable {P:Program}
theorem Y3(D:List Deferred)(a:Act)(d:Option Nat)(v:Value):(layD D a).put d v=layD D (a.put d v):=by
 cases d<;>rfl
theorem Xbq(D:List Deferred)(a:Act):(layD D a).eval=a.eval:=by
 funext x; cases x<;>rfl
theorem Z3(a:Act):layD [] a=a:=by simp[layD]
theorem YbA{ops:Array Oper}{Q Q':Exit→Act→World→Prop}{rnd:Option Nat}(D:List Deferred)(S:Array Value→Prop)(hq:∀e a w,S a.tmps→Q e a w→Q' e (layD D a) w)(ho:∀a w,¬Q .outgrown a w) :
  ∀(l:List Nat) (a:Act) (w:World),(∀i∈l,∀o,ops[i]?=some o→∀(a:Act) v,S a.tmps→S (a.put o.dst v).tmps)→S a.tmps→wpOpsIn (wz rnd) 0 P ops Q l a w→wpOpsIn (wz rnd) 0 P ops Q' l (layD D a) w
 |[],a,w,_,hs,h=>hq _ _ _ hs h
 |i::rest,a,w,hS,hs,h=>by
  have hout:LetsOut Q→False:=λ⟨a,w,q⟩=>ho a w q;have ih:=λa w=>YbA (rnd:=rnd) D S hq ho rest a w (λj hj=>hS j (by simp[hj]));simp only[wpOpsIn] at h ⊢;cases hoi:ops[i]? with
  |none=>simp only[hoi] at h ⊢; exact ih _ _ hs h
  |some o=>
   simp only[hoi] at h ⊢;have hp:∀(a:Act) v,S a.tmps→S (a.put o.dst v).tmps:=hS i (by simp) o hoi;have ht:(layD D a).tmps=a.tmps:=rfl;rw[ht];split
   ·rename_i hw;rw[YIP hw] at h;unfold Oper.wpIn at h ⊢;rw[Xbq];refine⟨h.1,?_⟩;have h:=h.2;generalize (o.semAt (wz rnd).round a.eval).run P w=r at h ⊢;cases r with
    |ok nx w'=>
     cases nx with
     |value v=>simp only[Oper.uponIn] at h ⊢; rw[Y3]; exact ih _ _ (hp _ _ hs) h
     |skip=>simp only[Oper.uponIn] at h ⊢; rw[Y3]; exact ih _ _ (hp _ _ hs) h
     |defer d=>
      simp only[Oper.uponIn] at h ⊢;rw[show ({ layD D a with defers:=d::(layD D a).defers }:Act)=layD D { a with defers:=d::a.defers } from rfl,Y3];exact ih _ _ (hp { a with defers:=d::a.defers } _ hs) h
     |enter f args=>
      simp only[Oper.uponIn] at h ⊢;refine⟨h.1,CallsIn.mono h.2 (λe w'' k=>?_)⟩;cases e with
      |returned v=>simp only at k ⊢; rw[Y3]; exact ih _ _ (hp _ _ hs) k
      |panicked c=>exact hq _ _ _ hs k
      |outgrown=>exact(hout k).elim
     |row row args=>
      simp only[Oper.uponIn] at h ⊢;refine⟨h.1,RowsIn.mono h.2 (λv w'' k=>?_)⟩;rw[Y3]; exact ih _ _ (hp _ _ hs) k
     |round l f tmps assign body=>
      simp only[Oper.uponIn] at h ⊢;refine⟨h.1,RoundIn.mono h.2 (λe w'' k=>?_)⟩;cases e with
      |returned v=>simp only at k ⊢; rw[Y3]; exact ih _ _ (hp _ _ hs) k
      |panicked c=>exact hq _ _ _ hs k
      |outgrown=>exact(hout k).elim
     |_=>exact h.elim
    |halt hh w'=>
     cases hh with
     |panic v=>exact hq _ _ _ hs h
     |_=>exact h.elim
   ·rename_i hw; rw[YIN hw] at h; rw[Y3]; exact⟨h.1,ih _ _ (hp _ _ hs) h.2⟩
end
def spare(ks:List Nat)(ms:List MOper):Bool:=ms.all λm=>match m.dst with
 |some t=>!ks.contains t
 |none=>true
def straight(dr:Bool)(ks:List Nat):DCode→Bool
 |.skip=>true
 |.region _ ms none=>spare ks ms
 |.region _ _ (some _)=>dr
 |.seq a b=>straight dr ks a&&straight dr ks b
 |.cond _ a b=>straight dr ks a&&straight dr ks b
 |.block _ a=>straight dr ks a
 |.exit _=>true
 |.ret=>true
 |_=>false
def KeepT(ks:List Nat)(s t:Array Value):Prop:=∀k∈ks,t.getD k undef=s.getD k undef
theorem KeepT.refl(ks:List Nat)(s:Array Value):KeepT ks s s:=λ_ _=>rfl
theorem KeepT.trans{ks:List Nat}{s t u:Array Value}(h:KeepT ks s t)(k:KeepT ks t u):KeepT ks s u:=λx hx=>(k x hx).trans (h x hx)
section
variable {P:Program} {GL:Globs} {Z:PZ}
theorem KeepT.put{ks:List Nat}{s:Array Value}{a:Act}{d:Option Nat}{v:Value}(hd:∀t,d=some t→t∉ks)(h:KeepT ks s a.tmps):KeepT ks s (a.put d v).tmps:=by
 cases d with
 |none=>exact h
 |some t=>
  intro k hk;have hne:t≠k:=by rintro rfl; exact hd t rfl hk
  have:=h k hk;rw[←this];simp only[Act.put,Array.getD_eq_getD_getElem?];rw[Array.getElem?_setIfInBounds_ne hne]
theorem XbC{n:Nat}{c:Code}{o:Opd}{x y:MCode}(h:CodeOk P GL n c (.cond o x y)):(∃oc c1 c2,c=.cond oc c1 c2∧OpdOk GL oc o∧CodeOk P GL n c1 x∧CodeOk P GL n c2 y)∨o=.c .junk:=by
 cases h with
 |cond oc _ c1 c2 _ _ hop h1 h2=>exact .inl ⟨oc,c1,c2,rfl,hop,h1,h2⟩
 |rf=>exact .inr rfl
theorem QaN(hP:POk P)(dr:Bool)(D:List Deferred)(ks:List Nat)(hdr:dr=true→D=[]∧ks=[]){n:Nat}{w0:World}{L:Ln}{Qw:Exit→Act→World→Prop} :
  ∀(m:DCode) {c:Code} {ρ:Frame} {σ:List ABlk} {K:Frame→List ABlk→Prop} {E:Nat→Frame→List ABlk→Prop} {R:Frame→List ABlk→Prop} {g:Gm} {a:Act} {w:World},
  straight dr ks m=true→CodeOk P GL n c m.er→Rep GL w0 L g (hp σ) w→DenF n g ρ a→dn (W P GL Z) m ρ σ K E R →
  (∀g' ρ' σ' a' w',g.Le g'→Rep GL w0 L g' (hp σ') w'→DenF n g' ρ' a'→KeepT ks a.tmps a'.tmps→K ρ' σ'→Qw .normal (layD D a') w') →
  (∀i g' ρ' σ' a' w',g.Le g'→Rep GL w0 L g' (hp σ') w'→DenF n g' ρ' a'→KeepT ks a.tmps a'.tmps→E i ρ' σ'→Qw (.exit i) (layD D a') w') →
  (∀g' ρ' σ' a' w',g.Le g'→Rep GL w0 L g' (hp σ') w'→DenF n g' ρ' a'→KeepT ks a.tmps a'.tmps→R ρ' σ'→Qw .ret (layD D a') w') →
  (∀g' x σ' u a' w',g.Le g'→Rep GL w0 L g' (hp σ') w'→DenF n g' [] a'→KeepT ks a.tmps a'.tmps→g'.den x u→Z x σ'→Qw (.panic [{ v:=u,recovered:=false }]) (layD D a') w') →
  c.wpIn (wz none) 0 P Qw (layD D a) w
 |.skip,c,ρ,σ,K,E,R,g,a,w,_,hc,r,d,h,hK,_,_,_=>by
  cases hc with
  |skip=>exact wpIn_skip (hK g ρ σ a w (Gm.Le.refl g) r d (KeepT.refl _ _) h)
 |.ret,c,ρ,σ,K,E,R,g,a,w,_,hc,r,d,h,_,_,hR,_=>by
  cases hc with
  |ret=>exact wpIn_ret (hR g ρ σ a w (Gm.Le.refl g) r d (KeepT.refl _ _) h)
 |.exit id,c,ρ,σ,K,E,R,g,a,w,_,hc,r,d,h,_,hE,_,_=>by
  cases hc with
  |exit=>exact wpIn_exit (hE id g ρ σ a w (Gm.Le.refl g) r d (KeepT.refl _ _) h)
 |.block id x,c,ρ,σ,K,E,R,g,a,w,hs,hc,r,d,h,hK,hE,hR,hZ=>by
  cases hc with
  |block _ c1 _ h1=>
   refine wpIn_block (QaN hP dr D ks hdr x hs h1 r d h (λg' ρ' σ' a' w' k1 k2 k3 k4 k5=>?_) (λi g' ρ' σ' a' w' k1 k2 k3 k4 k5=>?_) (λg' ρ' σ' a' w' k1 k2 k3 k4 k5=>?_) (λg' v σ' u a' w' k1 k2 k3 k4 k5 k6=>?_))
   ·exact hK g' ρ' σ' a' w' k1 k2 k3 k4 k5
   ·simp only[Exit.inBlock];split
    ·rename_i e;subst e;have hb:Nat.beq i i=true:=Nat.beq_refl i;simp only[hb] at k5;exact hK g' ρ' σ' a' w' k1 k2 k3 k4 k5
    ·rename_i e;have hb:Nat.beq i id=false:=by grind [YNB]
     simp only[hb] at k5;exact hE i g' ρ' σ' a' w' k1 k2 k3 k4 k5
   ·exact hR g' ρ' σ' a' w' k1 k2 k3 k4 k5
   ·exact hZ g' v σ' u a' w' k1 k2 k3 k4 k5 k6
 |.region id ms (some hd),c,ρ,σ,K,E,R,g,a,w,hs,hc,r,d,h,hK,_,_,_=>by
  obtain⟨rfl,rfl⟩:=hdr hs;have h':AwpR true P GL Z ms ρ σ [] (λρ' σ' lg=>Xf hd lg=true∧K ρ' σ'):=by
   unfold dn at h;cases hn:noWr ms with
   |true=>
    simp only[hn] at h;refine AwpR.mono (λρ' σ' lg'=>?_) (ZF (YcG P GL Z) (fl:=true) (λ_=>hn) h);rintro⟨k1,k2,k3⟩;exact⟨Qal (k3 hn (λ_ q=>by simp at q)),k1⟩
   |false=>
    simp only[hn] at h;refine AwpR.mono (λρ' σ' lg'=>?_) (XT (YcG P GL Z) h);rintro⟨k1,k2⟩;exact(YcG P GL Z).gd k1
  cases hc with
  |draw _ ops _ _ hsz hok hdr'=>
   obtain⟨ts,htr⟩:=Zay ms ρ σ [] _ h';obtain⟨hlen,_,ρf,σf,_,_,hf3⟩:=Ycd ms ts 0 ρ σ [] _ htr;rw[List.nil_append] at hf3;rw[Z3];refine wpIn_region_any hP.1 ?_;refine Za1 (w0:=w0) (L:=L) (g:=g) hsz hok hdr' htr hf3.1 _ (λg' ρ' σ' a' w' k1 k2 k3 k4=>by have:=hK g' ρ' σ' a' w' k1 k2 k3 (λ_ q=>by simp at q) k4.2; rwa [Z3] at this) ops.size _ a _ (by simp[hsz]) (λj hj=>?_) ?_ ⟨g,ρ,Gm.Le.refl g,?_,d,λt=>?_⟩
   ·exfalso;rw[Array.getD_eq_getD_getElem?,Array.getElem?_replicate] at hj;split at hj<;>simp at hj
   ·rw[hsz];have:∀m,cnt (λk=>(Array.replicate ms.length false).getD k false) m≤m:=by
     intro m
     induction m<;>grind [cnt]
    exact this _
   ·have hF:(λk=>(Array.replicate ops.size false).getD k false)=λ_=>false:=by
     funext k; rw[Array.getD_eq_getD_getElem?,Array.getElem?_replicate]; split<;>rfl
    rw[hF];have hid:∀(ts:List TS) (i:Nat) (h:Hp),hpS (λ_=>false) i ts h=h:=by
     intro ts
     induction ts<;>simp_all [hpS]
    rw[hid];exact r.drew
   ·have hF:(λk=>(Array.replicate ops.size false).getD k false)=λ_=>false:=by
     funext k; rw[Array.getD_eq_getD_getElem?,Array.getElem?_replicate]; split<;>rfl
    rw[hF];have hid:∀(ms:List MOper) (ts:List TS) (i:Nat) (ρ:Frame),frS (λ_=>false) i ms ts ρ=ρ:=by
     intro ms
     induction ms with
     |nil=>intros; simp[frS]
     |cons m ms ih=>intro ts i ρ; cases ts<;>grind [frS]
    rw[hid]
 |.region id ms none,c,ρ,σ,K,E,R,g,a,w,hs,hc,r,d,h,hK,_,_,hZ=>by
  cases hc with
  |region _ ops _ hsz hok=>
   refine wpIn_region ?_;rw[List.range_eq_range',hsz];have hsp:∀i∈List.range' 0 ms.length,∀o,ops[i]?=some o→∀(a':Act) v,KeepT ks a.tmps a'.tmps→KeepT ks a.tmps (a'.put o.dst v).tmps:=by
    intro i hi o ho a' v hk;have hi:i<ms.length:=by simpa using hi
    obtain⟨o',e1,e2⟩:=hok i ms[i] (by simp[hi]);rw[ho] at e1; cases e1;refine hk.put (λt ht=>?_);rw[e2.dst] at ht;have:=List.all_eq_true.1 hs ms[i] (List.getElem_mem hi);rw[ht] at this;simpa using this
   refine YbA (Q:=λe a' w'=>match e with
    |.normal=>∃g' ρ' σ',g.Le g'∧Rep GL w0 L g' (hp σ') w'∧DenF n g' ρ' a'∧K ρ' σ'
    |.panic ch=>∃g' x σ' u,ch=[{ v:=u,recovered:=false }]∧g.Le g'∧Rep GL w0 L g' (hp σ') w'∧DenF n g' [] a'∧g'.den x u∧Z x σ'
    | _=>False) D (λt=>KeepT ks a.tmps t) ?_ (λ_ _ q=>q) _ a w hsp (KeepT.refl _ _) ?_
   ·intro e a' w' hk hq;cases e with
    |normal=>obtain⟨g',ρ',σ',k1,k2,k3,k4⟩:=hq; exact hK g' ρ' σ' a' w' k1 k2 k3 hk k4
    |panic ch=>obtain⟨g',x,σ',u,rfl,k1,k2,k3,k4,k5⟩:=hq; exact hZ g' x σ' u a' w' k1 k2 k3 hk k4 k5
    |_=>exact hq.elim
   ·have h':dnOps (W P GL Z) ms ρ σ K:=h;exact Yaa (n:=n) (w0:=w0) (L:=L) none _ (λρ' σ' _=>K ρ' σ') ms 0 ρ σ [] g a w (λj m e=>by simpa using hok j m e)
     (AwpR.mono (λ_ _ _ q=>q.1) (ZF (YcG P GL Z) (fl:=false) (lg:=[]) (λe=>by cases e) h')) r d
     (λa' w' ⟨g',ρ',σ',lg',k1,k2,k3,k4⟩=>⟨g',ρ',σ',k1,k2,k3,k4⟩) (λg' x σ' u a' w' q1 q2 q3 q4 q5=>⟨g',x,σ',u,rfl,q2,q3,q4,q5,q1⟩)
 |.seq x y,c,ρ,σ,K,E,R,g,a,w,hs,hc,r,d,h,hK,hE,hR,hZ=>by
  simp only[straight,Bool.and_eq_true] at hs;cases hc with
  |seq c1 c2 _ _ h1 h2=>
   refine wpIn_seq ?_;refine QaN hP dr D ks hdr x hs.1 h1 r d h (λg' ρ' σ' a' w' l1 r1 d1 k1 hk=>?_) (λi g' ρ' σ' a' w' l1 r1 d1 k1 hk=>hE i g' ρ' σ' a' w' l1 r1 d1 k1 hk) (λg' ρ' σ' a' w' l1 r1 d1 k1 hk=>?_) (λg' v σ' u a' w' l1 r1 d1 k1 hu hz=>?_)
   ·exact QaN hP dr D ks hdr y hs.2 h2 r1 d1 hk (λg2 ρ2 σ2 a2 w2 l2 r2 d2 k2=>hK g2 ρ2 σ2 a2 w2 (l1.trans l2) r2 d2 (k1.trans k2)) (λi g2 ρ2 σ2 a2 w2 l2 r2 d2 k2=>hE i g2 ρ2 σ2 a2 w2 (l1.trans l2) r2 d2 (k1.trans k2)) (λg2 ρ2 σ2 a2 w2 l2 r2 d2 k2=>hR g2 ρ2 σ2 a2 w2 (l1.trans l2) r2 d2 (k1.trans k2))
     (λg2 v σ2 u a2 w2 l2 r2 d2 k2=>hZ g2 v σ2 u a2 w2 (l1.trans l2) r2 d2 (k1.trans k2))
   ·exact hR g' ρ' σ' a' w' l1 r1 d1 k1 hk
   ·exact hZ g' v σ' u a' w' l1 r1 d1 k1 hu hz
 |.cond o x y,c,ρ,σ,K,E,R,g,a,w,hs,hc,r,d,h,hK,hE,hR,hZ=>by
  simp only[straight,Bool.and_eq_true] at hs;unfold dn at h;obtain⟨b,hb,ht,hf⟩:=(YcG P GL Z).test h;rcases XbC hc with ⟨oc,c1,c2,rfl,hop,h1,h2⟩|rfl
  ·have hd:=DenF.opd r d hop;rw[hb] at hd;have hd:=Yt hd;rw[←Xbq D a] at hd;exact wpIn_cond_split hd (λe=>QaN hP dr D ks hdr x hs.1 h1 r d (ht e) hK hE hR hZ) (λe=>QaN hP dr D ks hdr y hs.2 h2 r d (hf e) hK hE hR hZ)
  ·cases hb
 |.regionS ..,_,_,_,_,_,_,_,_,_,hs,_,_,_,_,_,_,_,_=>by simp[straight] at hs
 |.join ..,_,_,_,_,_,_,_,_,_,hs,_,_,_,_,_,_,_,_=>by simp[straight] at hs
 |.loop ..,_,_,_,_,_,_,_,_,_,hs,_,_,_,_,_,_,_,_=>by simp[straight] at hs
 |.scope ..,_,_,_,_,_,_,_,_,_,hs,_,_,_,_,_,_,_,_=>by simp[straight] at hs
 |.label ..,_,_,_,_,_,_,_,_,_,hs,_,_,_,_,_,_,_,_=>by simp[straight] at hs
 |.rangeF ..,_,_,_,_,_,_,_,_,_,hs,_,_,_,_,_,_,_,_=>by simp[straight] at hs
end
end Go.Ah
end
section
namespace Go.Ah.Tz
@[reducible] def iv(n:Int):AVal:=.int .i64 n
@[reducible] def iv8(n:Int):AVal:=.int .i8 n
def cel(n:Int):List AVal:=[iv n]
@[reducible] def rowV(l:List Int):AVal:=.rsl false false 1 (l.map cel)
theorem Zh{n:Nat}(h:(n:Int)<4611686018427387904):IntKind.i64.wrap ((n:Int)+1)=((n+1:Nat):Int):=by
 rw[IntWalk.i64_in _ (by omega)]; simp
structure Ac where
 op:Int
 side:Int
 place:Int
 target:Int
 ids:List Int
 prs:List (Int×Int)
 deriving DecidableEq,Inhabited
def prC(p:Int×Int):List AVal:=[iv p.1,iv p.2]
@[reducible] def prV(l:List (Int×Int)):AVal:=.rsl false false 2 (l.map prC)
@[reducible] def acC(a:Ac):List AVal:=[iv8 a.op,iv a.side,iv a.place,iv a.target,rowV a.ids,prV a.prs]
structure De where
 kind:Int
 game:Int
 table:Int
 fmt:List UInt8
 n0:List UInt8
 n1:List UInt8
 d0:List Int
 d1:List Int
 dr:List Int
 ac:Ac
 deriving DecidableEq,Inhabited
@[reducible] def deC(x:De):List AVal:=[iv8 x.kind,iv x.game,iv x.table,.str x.fmt,.str x.n0,.str x.n1,rowV x.d0,rowV x.d1,rowV x.dr,
 iv8 x.ac.op,iv x.ac.side,iv x.ac.place,iv x.ac.target,rowV x.ac.ids,prV x.ac.prs]
def byC(u:UInt8):List AVal:=[.int .u8 (u.toNat:Int)]
@[reducible] def byV(l:List UInt8):AVal:=.rsl false false 1 (l.map byC)
def m64(n:Int):Nat:=(n%18446744073709551616).toNat
def by8(n:Int)(i:Nat):UInt8:=UInt8.ofNat (m64 n/2 ^ (56-8*i))
def n8(n:Int):List UInt8:=(List.range 8).map (by8 n)
def d8(l:List UInt8):Nat:=l.foldl (λa x=>a*256+x.toNat) 0
def R64(n:Int):Prop:=-9223372036854775808≤n∧n≤9223372036854775807
def R8(n:Int):Prop:=-128≤n∧n≤127
def w64(n:Nat):Int:=IntKind.i64.wrap (n:Int)
theorem QcF(n:Nat)(h:n<18446744073709551616):w64 n=if n<9223372036854775808 then (n:Int) else (n:Int)-18446744073709551616:=by
 unfold w64;split
 ·exact IntWalk.i64_in _ (by omega)
 ·have:IntKind.i64.wrap (n:Int)=IntKind.i64.wrap ((n:Int)-18446744073709551616):=by
   simp[IntKind.wrap,IntKind.bits,IntKind.signed]
  rw[this];exact IntWalk.i64_in _ (by omega)
theorem Xg(n:Int):(n8 n).length=8:=by simp[n8]
theorem ZcX(n:Int):m64 n<18446744073709551616:=by unfold m64; omega
theorem d8_n8(n:Int):d8 (n8 n)=m64 n:=by
 have h:=ZcX n;have e:∀i,(by8 n i).toNat=m64 n/2 ^ (56-8*i)%256:=λi=>by simp[by8]
 simp only[d8,n8,show List.range 8=[0,1,2,3,4,5,6,7] from rfl,List.map_cons,List.map_nil,List.foldl_cons,List.foldl_nil,e];generalize m64 n=m at *;simp only[Nat.reduceMul,Nat.reduceSub,Nat.reducePow,Nat.div_one];omega
theorem Zc7{n:Int}(h:R64 n):w64 (m64 n)=n:=by
 rw[QcF _ (ZcX n)];unfold R64 at h;unfold m64;split<;>omega
theorem w64_r(n:Nat)(h:n<18446744073709551616):R64 (w64 n):=by
 rw[QcF _ h]; unfold R64; split<;>omega
theorem Yc3(n:Nat)(h:n<18446744073709551616):m64 (w64 n)=n:=by
 rw[QcF _ h]; unfold m64; split<;>omega
theorem Xdb:∀ {l:List UInt8},l.length=8→d8 l<18446744073709551616:=by
 intro l h
 match l,h with
 |[a,b,c,d,e,f,g,i],_=>
  simp only[d8,List.foldl_cons,List.foldl_nil];have:=a.toNat_lt; have:=b.toNat_lt; have:=c.toNat_lt; have:=d.toNat_lt;have:=e.toNat_lt; have:=f.toNat_lt; have:=g.toNat_lt; have:=i.toNat_lt;omega
theorem n8_d8:∀ {l:List UInt8},l.length=8→n8 (w64 (d8 l))=l:=by
 intro l h;have hl:=Xdb h;have hm:=Yc3 _ hl
 match l,h with
 |[a,b,c,d,e,f,g,i],_=>
  simp only[n8,by8,hm,show List.range 8=[0,1,2,3,4,5,6,7] from rfl,List.map_cons,List.map_nil];simp only[d8,List.foldl_cons,List.foldl_nil,Nat.reduceMul,Nat.reduceSub,Nat.reducePow,Nat.div_one];have:=a.toNat_lt; have:=b.toNat_lt; have:=c.toNat_lt; have:=d.toNat_lt;have:=e.toNat_lt; have:=f.toNat_lt; have:=g.toNat_lt; have:=i.toNat_lt;have key:∀(x:UInt8) (m:Nat),m%256=x.toNat→UInt8.ofNat m=x:=λx m q=>by
   apply UInt8.toNat_inj.1; simpa using q
  simp only[List.cons.injEq,and_true];refine⟨key _ _ ?_,key _ _ ?_,key _ _ ?_,key _ _ ?_,key _ _ ?_,key _ _ ?_,key _ _ ?_,key _ _ ?_⟩<;>omega
abbrev Rd(α:Type):=List UInt8→Option (α×List UInt8)
structure Fits {α:Type} (ok:α→Prop) (q:α→List UInt8) (p:Rd α):Prop where
 to:∀a r,ok a→p (q a++r)=some (a,r)
 back:∀r a r',p r=some (a,r')→ok a∧r=q a++r'
def seqR{α β:Type}(p:Rd α)(f:Rd β):Rd (α×β):=λr=>(p r).bind λx=>(f x.2).map λy=>((x.1,y.1),y.2)
theorem Fits.seq{α β:Type}{ok:α→Prop}{ok':β→Prop}{q:α→List UInt8}{q':β→List UInt8}{p:Rd α}{p':Rd β}(h:Fits ok q p)(h':Fits ok' q' p') :
  Fits (λx=>ok x.1∧ok' x.2) (λx=>q x.1++q' x.2) (seqR p p') where
 to:=λa r ⟨k1,k2⟩=>by simp[seqR,List.append_assoc,h.to _ _ k1,h'.to _ _ k2]
 back:=λr a r' e=>by
  unfold seqR at e;cases h1:p r with
  |none=>simp[h1] at e
  |some x=>
   cases h2:p' x.2 with
   |none=>simp[h1,h2] at e
   |some y=>
    simp[h1,h2] at e;obtain⟨rfl,rfl⟩:=e;obtain⟨k1,k2⟩:=h.back _ _ _ h1;obtain⟨k3,k4⟩:=h'.back _ _ _ h2;exact⟨⟨k1,k3⟩,by rw[k2,k4,List.append_assoc]⟩
def numO:Rd Int:=λr=>if r.length<8 then none else some (w64 (d8 (r.take 8)),r.drop 8)
theorem Xm:Fits R64 n8 numO where
 to:=λa r h=>by
  unfold numO;have hl:=Xg a;rw[YIN (by simp; omega),List.take_left' hl,List.drop_left' hl,d8_n8,Zc7 h]
 back:=λr a r' e=>by
  unfold numO at e;split at e
  ·cases e
  ·rename_i hl;simp at e;obtain⟨rfl,rfl⟩:=e;have:(r.take 8).length=8:=by simp; omega
   exact⟨w64_r _ (Xdb this),by rw[n8_d8 this,List.take_append_drop]⟩
def YO:Rd Int:=λr=>(numO r).bind λx=>if x.1 < -128∨127<x.1 then none else some x
theorem XbK:Fits R8 n8 YO where
 to:=λa r h=>by
  unfold YO R8 at *;rw[Xm.to _ _ (by unfold R64; omega)];simp; omega
 back:=λr a r' e=>by
  unfold YO at e;cases h1:numO r with
  |none=>simp[h1] at e
  |some x=>
   simp[h1] at e;obtain⟨e1,rfl⟩:=e;exact⟨by unfold R8; dsimp at *; omega,(Xm.back _ _ _ h1).2⟩
def repO{α:Type}(p:Rd α):Nat→Rd (List α)
 |0,r=>some ([],r)
 |n+1,r=>(p r).bind λx=>(repO p n x.2).map λy=>(x.1::y.1,y.2)
theorem Ycw{α:Type}{ok:α→Prop}{q:α→List UInt8}{p:Rd α}(h:Fits ok q p):∀(l:List α) (r:List UInt8),(∀a∈l,ok a)→repO p l.length (l.flatMap q++r)=some (l,r)
 |[],r,_=>rfl
 |a::l,r,k=>by
  have ih:=Ycw h l r (λb hb=>k b (by simp[hb]));simp[repO,List.append_assoc,h.to a _ (k a (by simp)),ih]
theorem Zbt{α:Type}{ok:α→Prop}{q:α→List UInt8}{p:Rd α}(h:Fits ok q p):∀(n:Nat) (r:List UInt8) (l:List α) (r':List UInt8),repO p n r=some (l,r')→l.length=n∧(∀a∈l,ok a)∧r=l.flatMap q++r'
 |0,r,l,r',e=>by simp[repO] at e; obtain⟨rfl,rfl⟩:=e; simp
 |n+1,r,l,r',e=>by
  unfold repO at e;cases h1:p r with
  |none=>simp[h1] at e
  |some x=>
   cases h2:repO p n x.2 with
   |none=>simp[h1,h2] at e
   |some y=>
    simp[h1,h2] at e;obtain⟨rfl,rfl⟩:=e;obtain⟨k1,k2⟩:=h.back _ _ _ h1;obtain⟨k3,k4,k5⟩:=Zbt h n _ _ _ h2;refine⟨by simp[k3],?_,by rw[k2,k5]; simp⟩;intro a ha;rcases List.mem_cons.1 ha with rfl|ha
    ·exact k1
    ·exact k4 _ ha
def listO{α:Type}(each:Nat)(p:Rd α):Rd (List α):=λr=>(numO r).bind λx=>if x.1<0∨((x.2.length/each:Nat):Int)<x.1 then none else repO p x.1.toNat x.2
def listQ{α:Type}(q:α→List UInt8)(l:List α):List UInt8:=n8 l.length++l.flatMap q
theorem Xae{α:Type}{q:α→List UInt8}{each:Nat}(hq:∀a,(q a).length=each):∀l:List α,(l.flatMap q).length=l.length*each
 |[]=>by simp
 |a::l=>by simp[Xae hq l,hq,Nat.succ_mul,Nat.add_comm]
theorem YZ{α:Type}{ok:α→Prop}{q:α→List UInt8}{p:Rd α}(h:Fits ok q p){each:Nat}(he:0<each)(hq:∀a,(q a).length=each) :
  Fits (λl=>l.length≤9223372036854775807∧∀a∈l,ok a) (listQ q) (listO each p) where
 to:=λl r ⟨k1,k2⟩=>by
  unfold listO listQ;rw[List.append_assoc,Xm.to _ _ (by unfold R64; omega)];have:l.length≤(l.flatMap q++r).length/each:=by
   rw[Nat.le_div_iff_mul_le he,List.length_append,Xae hq]; omega
  simp only[Option.bind_some];rw[YIN (by omega),Int.toNat_natCast];exact Ycw h l r k2
 back:=λr l r' e=>by
  unfold listO at e;cases h1:numO r with
  |none=>simp[h1] at e
  |some x=>
   simp only[h1,Option.bind_some] at e;split at e
   ·cases e
   ·rename_i hn;obtain⟨k1,k2⟩:=Xm.back _ _ _ h1;obtain⟨k3,k4,k5⟩:=Zbt h _ _ _ _ e;have hx:((l.length:Nat):Int)=x.1:=by omega
    refine⟨⟨?_,k4⟩,?_⟩
    ·unfold R64 at k1; omega
    ·unfold listQ; rw[k2,k5,hx,List.append_assoc]
theorem Fits.map{α β:Type}{ok:α→Prop}{q:α→List UInt8}{p:Rd α}(h:Fits ok q p)(f:α→β)(g:β→α)(fg:∀b,f (g b)=b)(gf:∀a,g (f a)=a) :
  Fits (λb=>ok (g b)) (λb=>q (g b)) (λr=>(p r).map λx=>(f x.1,x.2)) where
 to:=λb r k=>by simp[h.to _ _ k,fg]
 back:=λr b r' e=>by
  cases h1:p r with
  |none=>simp[h1] at e
  |some x=>
   simp[h1] at e;obtain⟨rfl,rfl⟩:=e;rw[gf];exact h.back _ _ _ h1
def prQ(p:Int×Int):List UInt8:=n8 p.1++n8 p.2
def prO:Rd (Int×Int):=seqR numO numO
theorem QcO:Fits (λp=>R64 p.1∧R64 p.2) prQ prO:=Xm.seq Xm
def actQ(a:Ac):List UInt8:=n8 a.op++(n8 a.side++(n8 a.place++(n8 a.target++(listQ n8 a.ids++listQ prQ a.prs))))
def acP(x:Int×Int×Int×Int×List Int×List (Int×Int)):Ac:=⟨x.1,x.2.1,x.2.2.1,x.2.2.2.1,x.2.2.2.2.1,x.2.2.2.2.2⟩
def actO:Rd Ac:=λr=>(seqR YO (seqR numO (seqR numO (seqR numO (seqR (listO 8 numO) (listO 16 prO))))) r).map λx=>(acP x.1,x.2)
structure AcOk (a:Ac):Prop where
 op:R8 a.op
 side:R64 a.side
 place:R64 a.place
 target:R64 a.target
 idn:a.ids.length≤9223372036854775807
 ids:∀x∈a.ids,R64 x
 prn:a.prs.length≤9223372036854775807
 prs:∀x∈a.prs,R64 x.1∧R64 x.2
theorem QbH(p:Int×Int):(prQ p).length=16:=by simp[prQ,Xg]
theorem ZaM:Fits AcOk actQ actO:=by
 have h:=(XbK.seq (Xm.seq (Xm.seq (Xm.seq ((YZ Xm (each:=8) (by omega) Xg).seq (YZ QcO (each:=16) (by omega) QbH)))))).map acP
  (λa=>(a.op,a.side,a.place,a.target,a.ids,a.prs)) (λ_=>rfl) (λ_=>rfl)
 exact⟨λa r k=>h.to a r ⟨k.op,k.side,k.place,k.target,⟨k.idn,k.ids⟩,k.prn,k.prs⟩,λr a r' e=>by
  obtain⟨⟨k1,k2,k3,k4,⟨k5,k6⟩,k7,k8⟩,e'⟩:=h.back r a r' e;exact⟨⟨k1,k2,k3,k4,k5,k6,k7,k8⟩,e'⟩⟩
end Go.Ah.Tz
end
section
namespace Go.Ah
inductive GT:Type 1 where
 |leaf
 |node (k np:Nat) (g:GFun) (l r:GT)
def GT.get:GT→Nat→Option (Nat×GFun)
 |.leaf,_=>none
 |.node k np g l r,f=>match Nat.beq f k with
  |true=>some (np,g)
  |false=>match Nat.blt f k with
   |true=>l.get f
   |false=>r.get f
def GT.Ok(P:Program)(GL:Globs):GT→Prop
 |.leaf=>True
 |.node k np g l r=>GOk P GL k np g∧l.Ok P GL∧r.Ok P GL
theorem GT.get_ok{P:Program}{GL:Globs}:∀ {t:GT},t.Ok P GL→∀f np g,t.get f=some (np,g)→GOk P GL f np g
 |.leaf,_,f,np,g,h=>by simp only[GT.get] at h; cases h
 |.node k np' g' l r,ok,f,np,g,h=>by
  unfold GT.get at h;obtain⟨o1,o2,o3⟩:=ok;split at h
  ·rename_i hb;have:=YNB hb;subst this;cases h;exact o1
  ·split at h
   ·exact GT.get_ok o2 f np g h
   ·exact GT.get_ok o3 f np g h
end Go.Ah
end
section
namespace Go.Ah
section
variable {α β:Type}
abbrev spQ{α β:Type}:List α→(List α→β)→β
 |[],k=>k []
 |x::l,k=>spQ l λl=>k (x::l)
theorem Yby{α β:Type}:∀(l:List α) (k:List α→β),spQ l k=k l
 |[],_=>rfl
 |x::l,k=>Yby l λl=>k (x::l)
abbrev fdQ{α:Type}(d:Nat):Frame→(Frame→α)→α
 |[],k=>k []
 |(q,u)::r,k=>match Nat.beq q d with
  |true=>k r
  |false=>fdQ d r λr=>k ((q,u)::r)
theorem YcW{α:Type}(d:Nat):∀(ρ:Frame) (k:Frame→α),fdQ d ρ k=k (fdel d ρ)
 |[],_=>rfl
 |(q,u)::r,k=>by
  simp only[fdQ,fdel];cases Nat.beq q d
  ·simp only[]; rw[YcW d r]
  ·rfl
abbrev getQ:Frame→Nat→(AVal→β)→β
 |[],_,k=>k .junk
 |(q,v)::r,n,k=>match Nat.beq q n with
  |true=>k v
  |false=>getQ r n k
theorem X8(n:Nat)(k:AVal→β):∀ρ,getQ ρ n k=k (fget ρ n)
 |[]=>rfl
 |(q,v)::r=>by
  simp only[getQ,fget];cases Nat.beq q n
  ·exact X8 n k r
  ·rfl
abbrev evQ(ρ:Frame):Opd→(AVal→β)→β
 |.t n,k=>getQ ρ n k
 |.c v,k=>k v
theorem Xbo(ρ:Frame)(x:Opd)(k:AVal→β):evQ ρ x k=k (ev ρ x):=by
 cases x
 ·exact X8 ..
 ·rfl
abbrev evsQ(ρ:Frame):List Opd→(List AVal→β)→β
 |[],k=>k []
 |x::r,k=>evQ ρ x λv=>evsQ ρ r λvs=>k (v::vs)
theorem QbE(ρ:Frame):∀(l:List Opd) (k:List AVal→β),evsQ ρ l k=k (l.map (ev ρ))
 |[],_=>rfl
 |x::r,k=>by simp[Xbo,QbE]
abbrev putQ(d:Option Nat)(v:AVal)(ρ:Frame)(k:Frame→β):β:=match d with
 |some d=>fdQ d ρ λr=>k ((d,v)::r)
 |none=>k ρ
theorem Ycv(d:Option Nat)(v:AVal)(ρ:Frame)(k:Frame→β):putQ d v ρ k=k (putF d v ρ):=by
 cases d
 ·rfl
 ·simp only[putQ,YcW]; rfl
abbrev getsQ(ρ:Frame):List Nat→(List AVal→β)→β
 |[],k=>k []
 |s::r,k=>getQ ρ s λv=>getsQ ρ r λvs=>k (v::vs)
theorem Ybe(ρ:Frame):∀(l:List Nat) (k:List AVal→β),getsQ ρ l k=k (getF ρ l)
 |[],_=>rfl
 |x::r,k=>by simp only[getsQ,X8,Ybe ρ r]; rfl
abbrev dropQ(l:List Nat):Frame→(Frame→β)→β
 |[],k=>k []
 |(q,v)::r,k=>match inL q l with
  |true=>dropQ l r k
  |false=>dropQ l r λr=>k ((q,v)::r)
theorem Zbd(l:List Nat):∀(ρ:Frame) (k:Frame→β),dropQ l ρ k=k (dropF l ρ)
 |[],_=>rfl
 |(q,v)::r,k=>by
  simp only[dropQ,dropF];cases inL q l<;>simp only[Zbd l r]
abbrev zipQ:List Nat→List AVal→Frame→(Frame→β)→β
 |[],_,ρ,k=>k ρ
 |s::ks,vs,ρ,k=>zipQ ks (tlV vs) ρ λr=>k ((s,hdV vs)::r)
theorem XbL:∀(l:List Nat) (vs:List AVal) (ρ:Frame) (k:Frame→β),zipQ l vs ρ k=k (zipF l vs ρ)
 |[],_,_,_=>rfl
 |s::ks,vs,ρ,k=>by simp only[zipQ,XbL ks]; rfl
def qC(A:Ans α):=A.call
def qD(A:Ans α):=A.dcall
def qT(A:Ans α):=A.test
def qL(A:Ans α):=A.loop
def qS(A:Ans α):=A.stop
def qR(A:Ans α):=A.rng
abbrev rowQ{β:Type}(ρ:Frame):Nat→Nat→(List AVal→β)→β
 |_,0,k=>k []
 |i,n+1,k=>getQ ρ i λv=>rowQ ρ (i+1) n λl=>k (v::l)
theorem Zcx{β:Type}(ρ:Frame):∀(n i:Nat) (k:List AVal→β),rowQ ρ i n k=k (rowF ρ i n)
 |0,_,_=>rfl
 |n+1,i,k=>by simp only[rowQ,X8,Zcx ρ n]; rfl
def dmOp(A:Ans α)(o:MOper)(ρ:Frame)(σ:List ABlk)(K:Frame→List ABlk→α):α:=
 match o.guard with
 |none=>match clsOf o.k with
  |.mv=>match o.xs with
   |[x]=>evQ ρ x λv=>putQ o.dst v ρ λρ=>K ρ σ
   |_=>qS A
  |.pu | .rd=>evsQ ρ o.xs λvs=>A.rd (cstep o.k vs σ) λv=>putQ o.dst v ρ λρ=>K ρ σ
  |.wr=>evsQ ρ o.xs λvs=>A.wr (cstep o.k vs σ) σ λv σ=>putQ o.dst v ρ λρ=>K ρ σ
  |.call=>evsQ ρ o.xs λvs=>qC A o.k vs σ λv σ=>putQ o.dst v ρ λρ=>K ρ σ
 |some (s,w)=>evsQ ρ o.xs λvs=>getQ ρ s λc=>match clsOf o.k with
  |.mv | .pu | .rd=>A.gr c w (λk=>A.rd (cstep o.k vs σ) k) λv=>putQ o.dst v ρ λρ=>K ρ σ
  |.wr=>A.gw c w (λk=>A.wr (cstep o.k vs σ) σ k) σ λv σ=>putQ o.dst v ρ λρ=>K ρ σ
  |.call=>A.gw c w (λk=>qC A o.k vs σ k) σ λv σ=>putQ o.dst v ρ λρ=>K ρ σ
theorem Qc0(A:Ans α)(o:MOper)(ρ:Frame)(σ:List ABlk)(K:Frame→List ABlk→α):dmOp A o ρ σ K=dnOp A o ρ σ K:=by
 unfold dmOp dnOp;simp only[Xbo,QbE,X8,Ycv];rfl
def dmOps(A:Ans α):List MOper→Frame→List ABlk→(Frame→List ABlk→α)→α
 |[],ρ,σ,K=>K ρ σ
 |o::r,ρ,σ,K=>dmOp A o ρ σ λρ σ=>dmOps A r ρ σ K
theorem Yas(A:Ans α):∀(l:List MOper) (ρ:Frame) (σ:List ABlk) (K:Frame→List ABlk→α),dmOps A l ρ σ K=dnOps A l ρ σ K
 |[],_,_,_=>rfl
 |o::r,ρ,σ,K=>by simp only[dmOps,dnOps,Qc0,Yas A r]
def dmOpD(A:Ans α)(o:MOper)(ρ:Frame)(σ:List ABlk)(lg:Log)(K:Frame→List ABlk→Log→α):α:=
 match o.guard with
 |none=>match clsOf o.k with
  |.mv=>match o.xs with
   |[x]=>evQ ρ x λv=>putQ o.dst v ρ λρ=>K ρ σ (lg++[([],[])])
   |_=>qS A
  |.pu=>evsQ ρ o.xs λvs=>A.pu (cstep o.k vs σ) λv=>putQ o.dst v ρ λρ=>K ρ σ (lg++[([],[])])
  |.rd | .wr=>evsQ ρ o.xs λvs=>A.dr (cstep o.k vs σ) σ λv l σ=>putQ o.dst v ρ λρ=>K ρ σ (lg++[l])
  |.call=>evsQ ρ o.xs λvs=>qD A o.k vs σ λv l σ=>putQ o.dst v ρ λρ=>K ρ σ (lg++[l])
 |some (s,w)=>evsQ ρ o.xs λvs=>getQ ρ s λc=>match clsOf o.k with
  |.mv | .pu=>A.gr c w (λk=>A.pu (cstep o.k vs σ) k) λv=>putQ o.dst v ρ λρ=>K ρ σ (lg++[([],[])])
  |.rd | .wr=>A.gl c w (λk=>A.dr (cstep o.k vs σ) σ k) σ λv l σ=>putQ o.dst v ρ λρ=>K ρ σ (lg++[l])
  |.call=>A.gl c w (λk=>qD A o.k vs σ k) σ λv l σ=>putQ o.dst v ρ λρ=>K ρ σ (lg++[l])
theorem ZcK(A:Ans α)(o:MOper)(ρ:Frame)(σ:List ABlk)(lg:Log)(K:Frame→List ABlk→Log→α):dmOpD A o ρ σ lg K=dnOpD A o ρ σ lg K:=by
 unfold dmOpD dnOpD;simp only[Xbo,QbE,X8,Ycv];rfl
def Ybo(A:Ans α):List MOper→Frame→List ABlk→Log→(Frame→List ABlk→Log→α)→α
 |[],ρ,σ,lg,K=>K ρ σ lg
 |o::r,ρ,σ,lg,K=>dmOpD A o ρ σ lg λρ σ lg=>spQ lg λlg=>Ybo A r ρ σ lg K
theorem QaM(A:Ans α):∀(l:List MOper) (ρ:Frame) (σ:List ABlk) (lg:Log) (K:Frame→List ABlk→Log→α),Ybo A l ρ σ lg K=XaN A l ρ σ lg K
 |[],_,_,_,_=>rfl
 |o::r,ρ,σ,lg,K=>by simp only[Ybo,XaN,ZcK,QaM A r,Yby]
def dmPcs(A:Ans α)(hd:List (List Nat)):Nat→Pcs→Frame→List ABlk→(Frame→List ABlk→α)→α
 |_,[],ρ,σ,K=>K ρ σ
 |lo,(seg,true)::r,ρ,σ,K=>dmOps A seg ρ σ λρ σ=>dmPcs A hd (lo+seg.length) r ρ σ K
 |lo,(seg,false)::r,ρ,σ,K=>match noWr seg with
  |true=>dmOps A seg ρ σ λρ σ=>dmPcs A hd (lo+seg.length) r ρ σ K
  |false=>Ybo A seg ρ σ [] λρ σ lg=>A.gd (Xf (hdSeg hd lo seg.length) lg) (dmPcs A hd (lo+seg.length) r ρ σ K)
theorem Ybc(A:Ans α)(hd:List (List Nat)):∀(lo:Nat) (l:Pcs) (ρ:Frame) (σ:List ABlk) (K:Frame→List ABlk→α),dmPcs A hd lo l ρ σ K=dnPcs A hd lo l ρ σ K
 |_,[],_,_,_=>rfl
 |lo,(seg,true)::r,ρ,σ,K=>by simp only[dmPcs,dnPcs,Yas,Ybc A hd _ r]
 |lo,(seg,false)::r,ρ,σ,K=>by simp only[dmPcs,dnPcs,Yas,QaM,Ybc A hd _ r]<;>cases noWr seg<;>rfl
def dm(A:Ans α):DCode→Frame→List ABlk→(Frame→List ABlk→α)→(Nat→Frame→List ABlk→α)→(Frame→List ABlk→α)→α
 |.skip,ρ,σ,K,_,_=>K ρ σ
 |.label _,ρ,σ,K,_,_=>K ρ σ
 |.region _ ms none,ρ,σ,K,_,_=>dmOps A ms ρ σ K
 |.region _ ms (some hd),ρ,σ,K,_,_=>match noWr ms with
  |true=>dmOps A ms ρ σ K
  |false=>Ybo A ms ρ σ [] λρ σ lg=>A.gd (Xf hd lg) (K ρ σ)
 |.regionS _ ps hd,ρ,σ,K,_,_=>dmPcs A hd 0 ps ρ σ K
 |.seq a b,ρ,σ,K,E,R=>dm A a ρ σ (λρ σ=>dm A b ρ σ K E R) E R
 |.cond c a b,ρ,σ,K,E,R=>evQ ρ c λc=>qT A c (dm A a ρ σ K E R) (dm A b ρ σ K E R)
 |.join lv a,ρ,σ,K,E,R=>joinK (λk=>dm A a ρ σ (λρ' σ=>getsQ ρ' lv λvs=>k vs σ) E R) (λvs σ=>spQ a.asg λl=>dropQ l ρ λr=>zipQ lv vs r λr=>K r σ)
 | .block id a,ρ,σ,K,E,R=>dm A a ρ σ K (λi ρ σ=>match Nat.beq i id with
  |true=>K ρ σ
  | false=>E i ρ σ) R
 |.loop lv a,ρ,σ,_,E,R=>getsQ ρ lv λvs=>qL A (λagain vs σ=>spQ a.asg λl=>dropQ l ρ λr=>zipQ lv vs r λr=>dm A a r σ (λρ' σ=>getsQ ρ' lv λvs=>again vs σ) E R) vs σ
 |.exit id,ρ,σ,_,E,_=>E id ρ σ
 |.scope a,ρ,σ,K,E,R=>dm A a ρ σ K E R
 |.ret,ρ,σ,_,_,R=>R ρ σ
 |.rangeF d id m _ _ _,ρ,σ,K,E,R=>evQ ρ d λv=>rowQ ρ 0 m λrow=>qR A v id row σ λst σ'=>match st with
  |0=>K ρ σ'
  |1=>qS A
  |2=>R ρ σ'
  |i+3=>E i ρ σ'
theorem Xbc(A:Ans α):∀(D:DCode) (ρ:Frame) (σ:List ABlk) (K:Frame→List ABlk→α) (E:Nat→Frame→List ABlk→α) (R:Frame→List ABlk→α),dm A D ρ σ K E R=dn A D ρ σ K E R
 |.skip,_,_,_,_,_=>rfl
 |.label _,_,_,_,_,_=>rfl
 |.region _ ms none,ρ,σ,K,E,R=>by simp only[dm,dn,Yas]
 |.region _ ms (some hd),ρ,σ,K,E,R=>by simp only[dm,dn,Yas,QaM]<;>cases noWr ms<;>rfl
 |.regionS _ ps hd,ρ,σ,K,E,R=>by simp only[dm,dn,Ybc]
 |.seq a b,ρ,σ,K,E,R=>by simp only[dm,dn,Xbc A a,Xbc A b]
 |.cond c a b,ρ,σ,K,E,R=>by simp only[dm,dn,qT,Xbc A a,Xbc A b,Xbo]
 |.join lv a,ρ,σ,K,E,R=>by simp only[dm,dn,Xbc A a,Ybe,Yby,Zbd,XbL]
 |.block id a,ρ,σ,K,E,R=>by simp only[dm,dn,Xbc A a]<;>rfl
 |.loop lv a,ρ,σ,K,E,R=>by simp only[dm,dn,qL,Xbc A a,Ybe,Yby,Zbd,XbL]
 |.exit id,_,_,_,_,_=>rfl
 |.scope a,ρ,σ,K,E,R=>by simp only[dm,dn,Xbc A a]
 |.ret,_,_,_,_,_=>rfl
 |.rangeF d id m ps x y,ρ,σ,K,E,R=>by
  simp only[dm,dn,Xbo,Zcx,qR,qS];rfl
def ZaN(A:Ans α):List RV→Frame→List ABlk→(List AVal→α)→α
 |[],_,_,K=>K []
 |.t n::r,ρ,σ,K=>getQ ρ n λv=>ZaN A r ρ σ λvs=>K (v::vs)
 |.c s agg n::r,ρ,σ,K=>getQ ρ s λx=>A.opt (cellV agg n x σ) λv=>ZaN A r ρ σ λvs=>K (v::vs)
theorem YaN(A:Ans α):∀(l:List RV) (ρ:Frame) (σ:List ABlk) (K:List AVal→α),ZaN A l ρ σ K=Xas A l ρ σ K
 |[],_,_,_=>rfl
 |.t n::r,ρ,σ,K=>by simp only[ZaN,Xas,X8,YaN A r]
 |.c s agg n::r,ρ,σ,K=>by simp only[ZaN,Xas,X8,YaN A r]
def dmFn(A:Ans α)(o:Option DFn)(xs:List AVal)(σ:List ABlk)(ret:AVal→List ABlk→α):α:=match o with
 |some D=>spQ (frame0 xs) λρ=>dm A D.body ρ σ (λρ σ=>ZaN A D.rets ρ σ λvs=>ret (retOf vs) σ) (λ_ _ _=>qS A) (λρ σ=>ZaN A D.rets ρ σ λvs=>ret (retOf vs) σ)
 |none=>qS A
theorem Xc0(A:Ans α)(D:DFn)(xs:List AVal)(σ:List ABlk)(ret:AVal→List ABlk→α):dmFn A (some D) xs σ ret=dnFn A D xs σ ret:=by
 simp[dmFn,dnFn,qS,Yby,Xbc,YaN]
end
theorem Yal(n:Nat)(h:n<2 ^ 8):UInt8.ofBitVec (BitVec.ofFin ⟨n,h⟩)=UInt8.ofNat n:=by
 apply UInt8.toNat_inj.1;simp;exact(Nat.mod_eq_of_lt h).symm
section
variable {P:Program} {GL:Globs} {Z:PZ} {f:FuncId} {l:List (Option (List Nat))}
theorem Xbe{np:Nat}{g:GFun}(h:(compD P GL np f l).isSome=true)(hg:∀ {α:Type} (A:Ans α) (xs:List AVal) (σ:List ABlk) (ret:AVal→List ABlk→α),xs.length=np→dmFn A (compD P GL np f l) xs σ ret=g A xs σ ret):GOk P GL f np g:=by
 cases hD:compD P GL np f l with
 |none=>rw[hD] at h; cases h
 |some D=>
  refine Yde hD (λα A xs σ ret hn=>?_);simp_all [Xc0]
end
structure H0 (P:Program) (GL:Globs) (f:FuncId) (l:List (Option (List Nat))):Type 1 where
 g:∀ {α:Type},Ans α→List ABlk→(AVal→List ABlk→α)→α
 h:∀ {α:Type} (A:Ans α) σ ret,dmFn A (compD P GL 0 f l) [] σ ret=g A σ ret:=by intros; conv=>lhs; reduce; simp only[Int.reduceOfNat,Int.reduceNegSucc,Yal,UInt8.reduceOfNat,qC,qD,qT,qL,qS,qR]
 k:(compD P GL 0 f l).isSome=true:=by kernel_rfl
abbrev H0.u{P:Program}{GL:Globs}{f:FuncId}{l:List (Option (List Nat))}(q:H0 P GL f l):GFun:=λA xs σ r=>match xs with
 |[]=>q.g A σ r
 |_=>A.stop
theorem H0.ok{P:Program}{GL:Globs}{f:FuncId}{l:List (Option (List Nat))}(q:H0 P GL f l):GOk P GL f 0 q.u:=Xbe q.k λA xs σ ret hn=>by
 match xs,hn with
 |[],_=>exact q.h A σ ret
structure H1 (P:Program) (GL:Globs) (f:FuncId) (l:List (Option (List Nat))):Type 1 where
 g:∀ {α:Type},Ans α→AVal→List ABlk→(AVal→List ABlk→α)→α
 h:∀ {α:Type} (A:Ans α) x σ ret,dmFn A (compD P GL 1 f l) [x] σ ret=g A x σ ret:=by intros; conv=>lhs; reduce; simp only[Int.reduceOfNat,Int.reduceNegSucc,Yal,UInt8.reduceOfNat,qC,qD,qT,qL,qS,qR]
 k:(compD P GL 1 f l).isSome=true:=by kernel_rfl
abbrev H1.u{P:Program}{GL:Globs}{f:FuncId}{l:List (Option (List Nat))}(q:H1 P GL f l):GFun:=λA xs σ r=>match xs with
 |[x]=>q.g A x σ r
 |_=>A.stop
theorem H1.ok{P:Program}{GL:Globs}{f:FuncId}{l:List (Option (List Nat))}(q:H1 P GL f l):GOk P GL f 1 q.u:=Xbe q.k λA xs σ ret hn=>by
 match xs,hn with
 |[x],_=>exact q.h A x σ ret
structure H2 (P:Program) (GL:Globs) (f:FuncId) (l:List (Option (List Nat))):Type 1 where
 g:∀ {α:Type},Ans α→AVal→AVal→List ABlk→(AVal→List ABlk→α)→α
 h:∀ {α:Type} (A:Ans α) x y σ ret,dmFn A (compD P GL 2 f l) [x,y] σ ret=g A x y σ ret:=by intros; conv=>lhs; reduce; simp only[Int.reduceOfNat,Int.reduceNegSucc,Yal,UInt8.reduceOfNat,qC,qD,qT,qL,qS,qR]
 k:(compD P GL 2 f l).isSome=true:=by kernel_rfl
abbrev H2.u{P:Program}{GL:Globs}{f:FuncId}{l:List (Option (List Nat))}(q:H2 P GL f l):GFun:=λA xs σ r=>match xs with
 |[x,y]=>q.g A x y σ r
 |_=>A.stop
theorem H2.ok{P:Program}{GL:Globs}{f:FuncId}{l:List (Option (List Nat))}(q:H2 P GL f l):GOk P GL f 2 q.u:=Xbe q.k λA xs σ ret hn=>by
 match xs,hn with
 |[x,y],_=>exact q.h A x y σ ret
structure H3 (P:Program) (GL:Globs) (f:FuncId) (l:List (Option (List Nat))):Type 1 where
 g:∀ {α:Type},Ans α→AVal→AVal→AVal→List ABlk→(AVal→List ABlk→α)→α
 h:∀ {α:Type} (A:Ans α) x y z σ ret,dmFn A (compD P GL 3 f l) [x,y,z] σ ret=g A x y z σ ret:=by intros; conv=>lhs; reduce; simp only[Int.reduceOfNat,Int.reduceNegSucc,Yal,UInt8.reduceOfNat,qC,qD,qT,qL,qS,qR]
 k:(compD P GL 3 f l).isSome=true:=by kernel_rfl
abbrev H3.u{P:Program}{GL:Globs}{f:FuncId}{l:List (Option (List Nat))}(q:H3 P GL f l):GFun:=λA xs σ r=>match xs with
 |[x,y,z]=>q.g A x y z σ r
 |_=>A.stop
theorem H3.ok{P:Program}{GL:Globs}{f:FuncId}{l:List (Option (List Nat))}(q:H3 P GL f l):GOk P GL f 3 q.u:=Xbe q.k λA xs σ ret hn=>by
 match xs,hn with
 |[x,y,z],_=>exact q.h A x y z σ ret
structure H4 (P:Program) (GL:Globs) (f:FuncId) (l:List (Option (List Nat))):Type 1 where
 g:∀ {α:Type},Ans α→AVal→AVal→AVal→AVal→List ABlk→(AVal→List ABlk→α)→α
 h:∀ {α:Type} (A:Ans α) x y z u σ ret,dmFn A (compD P GL 4 f l) [x,y,z,u] σ ret=g A x y z u σ ret:=by intros; conv=>lhs; reduce; simp only[Int.reduceOfNat,Int.reduceNegSucc,Yal,UInt8.reduceOfNat,qC,qD,qT,qL,qS,qR]
 k:(compD P GL 4 f l).isSome=true:=by kernel_rfl
abbrev H4.u{P:Program}{GL:Globs}{f:FuncId}{l:List (Option (List Nat))}(q:H4 P GL f l):GFun:=λA xs σ r=>match xs with
 |[x,y,z,u]=>q.g A x y z u σ r
 |_=>A.stop
theorem H4.ok{P:Program}{GL:Globs}{f:FuncId}{l:List (Option (List Nat))}(q:H4 P GL f l):GOk P GL f 4 q.u:=Xbe q.k λA xs σ ret hn=>by
 match xs,hn with
 |[x,y,z,u],_=>exact q.h A x y z u σ ret
structure H5 (P:Program) (GL:Globs) (f:FuncId) (l:List (Option (List Nat))):Type 1 where
 g:∀ {α:Type},Ans α→AVal→AVal→AVal→AVal→AVal→List ABlk→(AVal→List ABlk→α)→α
 h:∀ {α:Type} (A:Ans α) x y z u v σ ret,dmFn A (compD P GL 5 f l) [x,y,z,u,v] σ ret=g A x y z u v σ ret:=by intros; conv=>lhs; reduce; simp only[Int.reduceOfNat,Int.reduceNegSucc,Yal,UInt8.reduceOfNat,qC,qD,qT,qL,qS,qR]
 k:(compD P GL 5 f l).isSome=true:=by kernel_rfl
abbrev H5.u{P:Program}{GL:Globs}{f:FuncId}{l:List (Option (List Nat))}(q:H5 P GL f l):GFun:=λA xs σ r=>match xs with
 |[x,y,z,u,v]=>q.g A x y z u v σ r
 |_=>A.stop
theorem H5.ok{P:Program}{GL:Globs}{f:FuncId}{l:List (Option (List Nat))}(q:H5 P GL f l):GOk P GL f 5 q.u:=Xbe q.k λA xs σ ret hn=>by
 match xs,hn with
 |[x,y,z,u,v],_=>exact q.h A x y z u v σ ret
structure H6 (P:Program) (GL:Globs) (f:FuncId) (l:List (Option (List Nat))):Type 1 where
 g:∀ {α:Type},Ans α→AVal→AVal→AVal→AVal→AVal→AVal→List ABlk→(AVal→List ABlk→α)→α
 h:∀ {α:Type} (A:Ans α) x y z u v w σ ret,dmFn A (compD P GL 6 f l) [x,y,z,u,v,w] σ ret=g A x y z u v w σ ret:=by intros; conv=>lhs; reduce; simp only[Int.reduceOfNat,Int.reduceNegSucc,Yal,UInt8.reduceOfNat,qC,qD,qT,qL,qS,qR]
 k:(compD P GL 6 f l).isSome=true:=by kernel_rfl
abbrev H6.u{P:Program}{GL:Globs}{f:FuncId}{l:List (Option (List Nat))}(q:H6 P GL f l):GFun:=λA xs σ r=>match xs with
 |[x,y,z,u,v,w]=>q.g A x y z u v w σ r
 |_=>A.stop
theorem H6.ok{P:Program}{GL:Globs}{f:FuncId}{l:List (Option (List Nat))}(q:H6 P GL f l):GOk P GL f 6 q.u:=Xbe q.k λA xs σ ret hn=>by
 match xs,hn with
 |[x,y,z,u,v,w],_=>exact q.h A x y z u v w σ ret
structure H7 (P:Program) (GL:Globs) (f:FuncId) (l:List (Option (List Nat))):Type 1 where
 g:∀ {α:Type},Ans α→AVal→AVal→AVal→AVal→AVal→AVal→AVal→List ABlk→(AVal→List ABlk→α)→α
 h:∀ {α:Type} (A:Ans α) x y z u v w t σ ret,dmFn A (compD P GL 7 f l) [x,y,z,u,v,w,t] σ ret=g A x y z u v w t σ ret:=by intros; conv=>lhs; reduce; simp only[Int.reduceOfNat,Int.reduceNegSucc,Yal,UInt8.reduceOfNat,qC,qD,qT,qL,qS,qR]
 k:(compD P GL 7 f l).isSome=true:=by kernel_rfl
abbrev H7.u{P:Program}{GL:Globs}{f:FuncId}{l:List (Option (List Nat))}(q:H7 P GL f l):GFun:=λA xs σ r=>match xs with
 |[x,y,z,u,v,w,t]=>q.g A x y z u v w t σ r
 |_=>A.stop
theorem H7.ok{P:Program}{GL:Globs}{f:FuncId}{l:List (Option (List Nat))}(q:H7 P GL f l):GOk P GL f 7 q.u:=Xbe q.k λA xs σ ret hn=>by
 match xs,hn with
 |[x,y,z,u,v,w,t],_=>exact q.h A x y z u v w t σ ret
structure H8 (P:Program) (GL:Globs) (f:FuncId) (l:List (Option (List Nat))):Type 1 where
 g:∀ {α:Type},Ans α→AVal→AVal→AVal→AVal→AVal→AVal→AVal→AVal→List ABlk→(AVal→List ABlk→α)→α
 h:∀ {α:Type} (A:Ans α) x y z u v w t s σ ret,dmFn A (compD P GL 8 f l) [x,y,z,u,v,w,t,s] σ ret=g A x y z u v w t s σ ret:=by intros; conv=>lhs; reduce; simp only[Int.reduceOfNat,Int.reduceNegSucc,Yal,UInt8.reduceOfNat,qC,qD,qT,qL,qS,qR]
 k:(compD P GL 8 f l).isSome=true:=by kernel_rfl
abbrev H8.u{P:Program}{GL:Globs}{f:FuncId}{l:List (Option (List Nat))}(q:H8 P GL f l):GFun:=λA xs σ r=>match xs with
 |[x,y,z,u,v,w,t,s]=>q.g A x y z u v w t s σ r
 |_=>A.stop
theorem H8.ok{P:Program}{GL:Globs}{f:FuncId}{l:List (Option (List Nat))}(q:H8 P GL f l):GOk P GL f 8 q.u:=Xbe q.k λA xs σ ret hn=>by
 match xs,hn with
 |[x,y,z,u,v,w,t,s],_=>exact q.h A x y z u v w t s σ ret
end Go.Ah
end
section
namespace Go.Ah
section
variable {P:Program} {GL:Globs} {Z:PZ}
abbrev KnF:=FuncId→List AVal→Option AVal
def KfOk(P:Program)(GL:Globs)(kf:KnF):Prop:=∀f xs v,kf f xs=some v→Qi P f=true∧roL xs=true∧v.ro=true∧PCall P GL f xs v
def lentK(kb:FuncId→Bool)(kf:KnF)(f:FuncId)(ys:List AVal)(σ:List ABlk):Option AVal:=bif kb f then (match YA σ 1000 ys with
 |some (zs,_)=>match kf f zs with
  |some v=>bif v.flat then some v else none
  |none=>none
 | none=>none) else none
theorem YcM{kb:FuncId→Bool}{kf:KnF}(hk:KfOk P GL kf){f:FuncId}{ys:List AVal}{σ:List ABlk}{v:AVal}(h:lentK kb kf f ys σ=some v):Qi P f=true∧∃rd,ACall P GL f ys (hp σ) v rd []:=by
 unfold lentK at h;obtain⟨_,h⟩:=Ql h;split at h
 ·rename_i zs rd hb;split at h
  ·rename_i u hu;obtain⟨hf,h⟩:=Ql h;cases h;obtain⟨h1,_,_,h4⟩:=hk _ _ _ hu;exact⟨h1,rd,h4.lend (ZY _ _ _ _ hb _ (λ_ q=>q)) hf⟩
  ·cases h
 ·cases h
end
end Go.Ah
end
section
namespace Go.Ah
def ikN:IntKind→Nat
 |.i8=>0 | .i16=>1 | .i32=>2 | .i64=>3 | .u8=>4 | .u16=>5 | .u32=>6 | .u64=>7
theorem Qde{a b:IntKind}(h:Nat.beq (ikN a) (ikN b)=true):a=b:=by
 have:=YNB h;cases a<;>cases b<;>first|rfl|(simp[ikN] at this)
mutual
def eqV:AVal→AVal→Bool
 |.int k a,.int k' b=>Nat.beq (ikN k) (ikN k')&&a==b
 |.junk,.junk=>true
 |.bool a,.bool b=>a==b
 |.str a,.str b=>a==b
 |.nilp,.nilp=>true
 |.nils,.nils=>true
 |.cap0,.cap0=>true
 |.rsl e n s r,.rsl e' n' s' r'=>(e==e'&&n==n')&&(Nat.beq s s'&&eqVR r r')
 |.agg a,.agg b=>eqVL a b
 |.tup a,.tup b=>eqVL a b
 |.nilmap,.nilmap=>true
 |.nilf,.nilf=>true
 |.nili,.nili=>true
 |.bptr b j,.bptr b' j'=>Nat.beq b b'&&Nat.beq j j'
 |.ptr b i j,.ptr b' i' j'=>Nat.beq b b'&&(Nat.beq i i'&&Nat.beq j j')
 |.rptr r j,.rptr r' j'=>eqVL r r'&&Nat.beq j j'
 |.sl b o l e,.sl b' o' l' e'=>(Nat.beq b b'&&Nat.beq o o')&&(Nat.beq l l'&&e==e')
 |.bsl b o l e,.bsl b' o' l' e'=>(Nat.beq b b'&&Nat.beq o o')&&(Nat.beq l l'&&Nat.beq e e')
 |.map b,.map b'=>Nat.beq b b'
 |.func (.func f) x y,.func (.func f') x' y'=>Nat.beq f f'&&(eqVL x x'&&eqVL y y')
 |.iface t v,.iface t' v'=>Nat.beq t t'&&eqV v v'
 |_,_=>false
def eqVL:List AVal→List AVal→Bool
 |[],[]=>true
 |x::xs,y::ys=>eqV x y&&eqVL xs ys
 |_,_=>false
def eqVR:List (List AVal)→List (List AVal)→Bool
 |[],[]=>true
 |x::xs,y::ys=>eqVL x y&&eqVR xs ys
 |_,_=>false
end
mutual
theorem XbP:∀ {x y:AVal},eqV x y=true→x=y:=by
 intro x y h
 unfold eqV at h
 split at h<;>(try simp only[Bool.false_eq_true,Bool.and_eq_true] at h)<;>first
  |rfl
  |(rw[Qde h.1,eq_of_beq h.2])
  |(rw[eq_of_beq h])
  |(rw[eq_of_beq h.1.1,eq_of_beq h.1.2,YNB h.2.1,YbE h.2.2])
  |(rw[Q7 h])
  |(rw[YNB h.1.1,YNB h.1.2,YNB h.2.1,eq_of_beq h.2.2])
  |(rw[YNB h.1.1,YNB h.1.2,YNB h.2.1,YNB h.2.2])
  |(rw[YNB h.1,Q7 h.2.1,Q7 h.2.2])
  |(rw[YNB h.1,XbP h.2])
  |(rw[Q7 h.1,YNB h.2])
  |(rw[YNB h.1,YNB h.2.1,YNB h.2.2])
  |(rw[YNB h.1,YNB h.2])
  |(rw[YNB h])
theorem Q7:∀ {x y:List AVal},eqVL x y=true→x=y:=by
 intro x y h
 cases x<;>cases y<;>simp only[eqVL,Bool.false_eq_true,Bool.and_eq_true] at h<;>first
  |rfl
  |(rw[XbP h.1,Q7 h.2])
theorem YbE:∀ {x y:List (List AVal)},eqVR x y=true→x=y:=by
 intro x y h
 cases x<;>cases y<;>simp only[eqVR,Bool.false_eq_true,Bool.and_eq_true] at h<;>first
  |rfl
  |(rw[Q7 h.1,YbE h.2])
end
def eqVM:List (AVal×AVal)→List (AVal×AVal)→Bool
 |[],[]=>true
 |(a,b)::r,(c,d)::s=>(eqV a c&&eqV b d)&&eqVM r s
 |_,_=>false
theorem Xcp:∀ {x y:List (AVal×AVal)},eqVM x y=true→x=y
 |[],[],_=>rfl
 |(a,b)::r,(c,d)::s,h=>by
  simp only[eqVM,Bool.and_eq_true] at h;rw[XbP h.1.1,XbP h.1.2,Xcp h.2]
 |[],_::_,h=>by cases h
 |_::_,[],h=>by cases h
def eqB:ABlk→ABlk→Bool
 |.dead,.dead=>true
 |.box r,.box r'=>eqVL r r'
 |.rows n r,.rows n' r'=>Nat.beq n n'&&eqVR r r'
 |.map e,.map e'=>eqVM e e'
 |_,_=>false
theorem Zde{x y:ABlk}(h:eqB x y=true):x=y:=by
 unfold eqB at h;split at h<;>(try simp only[Bool.false_eq_true,Bool.and_eq_true] at h)<;>first
  |rfl
  |(rw[Q7 h])
  |(rw[YNB h.1,YbE h.2])
  |(rw[Xcp h])
def eqH:List ABlk→List ABlk→Bool
 |[],[]=>true
 |x::r,y::s=>eqB x y&&eqH r s
 |_,_=>false
theorem QcV:∀ {x y:List ABlk},eqH x y=true→x=y
 |[],[],_=>rfl
 |a::r,c::s,h=>by
  simp only[eqH,Bool.and_eq_true] at h;rw[Zde h.1,QcV h.2]
 |[],_::_,h=>by cases h
 |_::_,[],h=>by cases h
section
variable {P:Program} {GL:Globs} {Z:PZ}
structure HE where
 f:FuncId
 xs:List AVal
 σ:List ABlk
 v:AVal
 τ:List ABlk
def HEOk(P:Program)(GL:Globs)(f:FuncId)(xs:List AVal)(σ:List ABlk)(v:AVal)(σ':List ABlk):Prop:=Qi P f=true∧(∀k ys,Zk k ys=some (f,xs)→OpRel P GL k ys σ (λv' s=>v'=v∧s=σ')) ∧
 (σ=[]→NCall P GL f xs v σ'∧(v.ro=true→PCall P GL f xs v)) ∧
 (roL xs=false→∃F,FnOk P GL f F∧F.np=xs.length∧Awp P GL noZ F.n F.body (frame0 xs) σ (λe ρ s=>(e=.normal∨e=.ret)∧∃v',retV F.rets ρ s=some v'∧v'=v∧s=σ'))
def ZbQ(f:FuncId)(xs:List AVal)(σ:List ABlk):List HE→Option (AVal×List ABlk)
 |[]=>none
 |e::r=>match Nat.beq f e.f&&(eqVL xs e.xs&&eqH σ e.σ) with
  |true=>some (e.v,e.τ)
  |false=>ZbQ f xs σ r
def HEsOk(P:Program)(GL:Globs):List HE→Prop
 |[]=>True
 |e::r=>HEOk P GL e.f e.xs e.σ e.v e.τ∧HEsOk P GL r
theorem Qbp{f:FuncId}{xs:List AVal}{σ:List ABlk}{v:AVal}{τ:List ABlk}:∀ {l:List HE},HEsOk P GL l→ZbQ f xs σ l=some (v,τ)→HEOk P GL f xs σ v τ
 |[],_,h=>by cases h
 |e::r,ok,h=>by
  unfold ZbQ at h;split at h
  ·rename_i hb;simp only[Bool.and_eq_true] at hb;have h1:=YNB hb.1;have h2:=Q7 hb.2.1;have h3:=QcV hb.2.2;subst h1; subst h2; subst h3;cases h;exact ok.1
  ·exact Qbp ok.2 h
end
end Go.Ah
end
section
namespace Go.Ah
structure RBD where
 id:Nat
 n:Nat
 ps:List Nat
 x:DCode
 y:DCode
def MCode.loops:MCode→List (Nat×List Nat×MCode×MCode)
 |.seq a b | .cond _ a b=>a.loops++b.loops
 |.block _ a | .loop a | .scope a=>a.loops
 |.rangeF _ id ps x y=>[(id,ps,x,y)]
 |_=>[]
section
variable {P:Program} {GL:Globs} {Z:PZ}
def RBOk(P:Program)(GL:Globs)(R:RBD):Prop:=∃lr,lps R.id=some lr∧lr.n=R.n∧lr.ps.toList=R.ps∧CodeOk P GL lr.n lr.a R.x.er∧CodeOk P GL lr.n lr.b R.y.er∧R.x.er.norf=true∧R.y.er.norf=true∧(∀t∈R.ps,t<R.n)∧R.x.ok=true∧R.y.ok=true
theorem Zbn{n:Nat}{c:Code}{m:MCode}(h:CodeOk P GL n c m):∀q∈m.loops,∃lr,lpsOf P q.1=some lr∧lr.n=n∧lr.ps.toList=q.2.1∧CodeOk P GL n lr.a q.2.2.1∧CodeOk P GL n lr.b q.2.2.2∧∀t∈q.2.1,t<n:=by
 induction h with
 |seq a b x y h1 h2 ih1 ih2=>
  intro q hq;rcases List.mem_append.1 hq with hq|hq
  ·exact ih1 q hq
  ·exact ih2 q hq
 |cond c d a b x y h0 h1 h2 ih1 ih2=>
  intro q hq;rcases List.mem_append.1 hq with hq|hq
  ·exact ih1 q hq
  ·exact ih2 q hq
 |block id a x h ih=>exact ih
 |loop a x h ih=>exact ih
 |scope a x h ih=>exact ih
 |rangeF f d ps a b x y id h0 h1 h2 h3 h4 ih1 ih2=>
  intro q hq;simp only[MCode.loops,List.mem_singleton] at hq;subst hq;exact⟨_,h3,rfl,rfl,h1,h2,h4⟩
 |_=>intro q hq; simp[MCode.loops] at hq
def compR(P:Program)(GL:Globs)(f i:Nat)(la lb:List (Option (List Nat))):Option RBD:=match ZbN P GL 0 f with
 |some F=>match nth F.body.loops i with
  |some (id,ps,x,y)=>bif (x.norf&&y.norf)&&((Xap F.n x la).ok&&(Xap F.n y lb).ok) then some ⟨id,F.n,ps,Xap F.n x la,Xap F.n y lb⟩ else none
  |none=>none
 |none=>none
theorem YcJ(hP:POk P){f i:Nat}{la lb:List (Option (List Nat))}{R:RBD}(h:compR P GL f i la lb=some R):RBOk P GL R:=by
 unfold compR at h;split at h
 ·rename_i F hF;split at h
  ·rename_i id ps x y hl;obtain⟨hb,h⟩:=Ql h;cases h;simp only[Bool.and_eq_true] at hb;obtain⟨fn,c,h1,h2,h3,h4,h5⟩:=(Ybn hF).ok;rw[YU] at hl;obtain⟨lr,q1,q2,q3,q4,q5,q6⟩:=Zbn h4 _ (List.mem_of_getElem? hl);exact⟨lr,by rw[←hP.2]; exact q1,q2,q3,by rw[Z7,q2]; exact q4,by rw[Z7,q2]; exact q5,by rw[Z7]; exact hb.1.1,by rw[Z7]; exact hb.1.2,q6,hb.2.1,hb.2.2⟩
  ·cases h
 ·cases h
structure RB (P:Program) (GL:Globs) (f i:Nat) (la lb:List (Option (List Nat))) where
 d:RBD
 h:compR P GL f i la lb=some d:=by conv=>lhs; reduce; simp only[Int.reduceOfNat,Int.reduceNegSucc,Yal,UInt8.reduceOfNat]
def XbU(id:Nat):List RBD→Option RBD
 |[]=>none
 |R::l=>bif Nat.beq id R.id then some R else XbU id l
def RBsOk(P:Program)(GL:Globs):List RBD→Prop
 |[]=>True
 |R::l=>RBOk P GL R∧RBsOk P GL l
theorem Qbs{id:Nat}{R:RBD}:∀ {l:List RBD},RBsOk P GL l→XbU id l=some R→RBOk P GL R∧R.id=id
 |[],_,h=>by cases h
 |A::l,ok,h=>by
  unfold XbU at h;cases hb:Nat.beq id A.id with
  |true=>rw[hb] at h; cases h; exact⟨ok.1,(YNB hb).symm⟩
  |false=>rw[hb] at h; exact Qbs ok.2 h
def finY(b j:Nat)(σ2:List ABlk):Option (AVal×List ABlk):=match hget σ2 b with
 |.lp id2 row2 _=>some (.bool (Nat.beq j 0),σ2.set b (.lp id2 row2 j))
 |_=>none
def runY(rs:List RBD)(A:Ans (Option (AVal×List ABlk)))(b:Nat)(xs:List AVal)(σ:List ABlk):Option (AVal×List ABlk):=match hget σ b with
 |.lp id row 0=>match XbU id rs with
  |some R=>bif Nat.beq R.ps.length xs.length&&Nat.ble row.length R.n then
    dn A R.x (rndF R.ps xs (frame0 row)) σ (λρ1 σ1=>match hget σ1 b with
     |.lp id1 row1 0=>dn A R.y ρ1 (σ1.set b (.lp id1 row1 1)) (λ_ σ2=>finY b 0 σ2) (λi _ σ2=>finY b (i+3) σ2) (λ_ σ2=>finY b 2 σ2)
     | _=>none) (λ_ _ _=>none) (λ_ _=>none)
   else none
  |none=>none
 |_=>none
theorem ZbF{b:Nat}{e:AExit}{σ2 σ':List ABlk}{v:AVal}(h:finY b (exN e) σ2=some (v,σ')):∃id2 row2 st,hget σ2 b=.lp id2 row2 st∧AVal.bool (isNrm e)=v∧σ2.set b (.lp id2 row2 (exN e))=σ':=by
 unfold finY at h;split at h
 ·rename_i id2 row2 st hb;cases h;exact⟨_,_,_,hb,by cases e<;>rfl,rfl⟩
 ·cases h
theorem Qc3(hP:POk P){A:Ans (Option (AVal×List ABlk))}{v:AVal}{σ':List ABlk}(ok:AnsOk P GL noZ A (λo=>o=some (v,σ'))){rs:List RBD}(hr:RBsOk P GL rs){b:Nat}{xs:List AVal}{σ:List ABlk}(h:runY rs A b xs σ=some (v,σ')) :
  OpRel P GL .callv (.iter b::xs) σ (λv' s=>v'=v∧s=σ'):=by
 unfold runY at h;split at h
 ·rename_i id row hb;split at h
  ·rename_i R hR;obtain⟨hc,h⟩:=Ql h;simp only[Bool.and_eq_true] at hc;obtain⟨⟨lr,l1,l2,l3,l4,l5,l6,l7,l8,l9,l10⟩,hid⟩:=Qbs hr hR;rw[hid] at l1;refine YbH hb l1 l4 l5 l6 l7 (by rw[l3]; exact YNB hc.1) (by rw[l3,l2]; exact l8) (by rw[l2]; exact YNL hc.2) ?_;rw[l3];refine ZG hP ok R.x l9 (λρ1 σ1 _ hk=>?_) (λ_ _ _ _ hk=>by cases hk) (λ_ _ _ hk=>by cases hk) h;split at hk
   ·rename_i id1 row1 hb1;refine⟨rfl,id1,row1,hb1,ZG hP ok R.y l10 (λρ2 σ2 _ hk=>?_) (λi ρ2 σ2 _ hk=>?_) (λρ2 σ2 _ hk=>?_) hk⟩
    ·obtain⟨a,b',c,h1,h2,h3⟩:=ZbF (e:=.normal) hk;exact⟨a,b',c,h1,h2,h3⟩
    ·obtain⟨a,b',c,h1,h2,h3⟩:=ZbF (e:=.exit i) hk;exact⟨a,b',c,h1,h2,h3⟩
    ·obtain⟨a,b',c,h1,h2,h3⟩:=ZbF (e:=.ret) hk;exact⟨a,b',c,h1,h2,h3⟩
   ·cases hk
  ·cases h
 ·cases h
def YlOk(P:Program)(GL:Globs)(yl:CG):Prop:=∀b xs σ v σ',yl b xs σ=some (v,σ')→OpRel P GL .callv (.iter b::xs) σ (λv' s=>v'=v∧s=σ')
def yldOf:MK→List AVal→Option (Nat×List AVal)
 |.callv,.iter b::xs=>some (b,xs)
 |_,_=>none
def rngC(cg:CG)(v:AVal)(id:Nat)(row:List AVal)(σ:List ABlk)(K:Nat→List ABlk→Option (AVal×List ABlk)):Option (AVal×List ABlk):=match Zk .callv [v,.iter σ.length] with
 |some (f,ys)=>match cg f ys (σ++[.lp id row 0]) with
  |some (_,σ')=>match hget σ' σ.length with
   |.lp _ _ st=>K st (σ'.set σ.length .dead)
   |_=>none
  |none=>none
 |none=>none
def ClY(kb:FuncId→Bool)(kf:KnF)(much:Nat)(cg yl:CG):Ans (Option (AVal×List ABlk)) where
 stop:=none
 call k xs σ K:=match Zk k xs with
  |some (f,ys)=>match lentK kb kf f ys σ with
   |some v=>K v σ
   |none=>match cg f ys σ with
    |some (v,σ')=>K v σ'
    |none=>none
  |none=>match yldOf k xs with
   |some (b,ys)=>match yl b ys σ with
    |some (v,σ')=>K v σ'
    |none=>none
   |none=>none
 dcall k xs σ K:=match XbN cg k xs σ with
  |.ok v rd up=>match upL σ up with
   |some σ'=>K v (rd,up.map (·.1)) σ'
   |none=>none
  |.stop=>none
 test:=tstC none
 loop F vs σ:=iterA none much F vs σ
 rng:=rngC cg
theorem YcV{kb:FuncId→Bool}{kf:KnF}(hk:KfOk P GL kf){cg yl:CG}(h:CGOk P GL cg)(hy:YlOk P GL yl)(much:Nat)(r:AVal×List ABlk):AnsOk P GL noZ (ClY kb kf much cg yl) (λo=>o=some r) where
 stop:=λe=>by cases e
 call:=λ{k xs σ K} e=>by
  simp only[ClY] at e;split at e
  ·rename_i f ys hc;split at e
   ·rename_i v hv;obtain⟨h1,rd,h2⟩:=YcM hk hv;exact⟨_,Q9 (Yv hc h1 h2) (ZT σ),by rintro v' s ⟨rfl,rfl⟩; exact e⟩
   ·split at e
    ·rename_i v σ' hv;obtain⟨_,h1,_⟩:=h f ys σ v σ' hv;exact⟨_,h1 _ _ hc,by rintro v' s ⟨rfl,rfl⟩; exact e⟩
    ·cases e
  ·split at e
   ·rename_i b ys hb;split at e
    ·rename_i v σ' hv;have hx:k=.callv∧xs=.iter b::ys:=by
      unfold yldOf at hb;split at hb<;>cases hb;exact⟨rfl,rfl⟩
     obtain⟨rfl,rfl⟩:=hx;exact⟨_,hy _ _ _ _ _ hv,by rintro v' s ⟨rfl,rfl⟩; exact e⟩
    ·cases e
   ·cases e
 dcall:=λ{k xs σ K} e=>(Yc8 h much r).dcall e
 test:=λ{v a b} e=>(Yc8 h much r).test e
 loop:=λ{F vs σ} e=>⟨much,e⟩
 rng:=λ{v id row σ K} e=>by
  simp only[ClY,rngC] at e;split at e
  ·rename_i f ys hc;split at e
   ·rename_i u σ' hv;split at e
    ·rename_i id' row' st hl;obtain⟨h0,h1,_⟩:=h f ys _ u σ' hv;refine⟨f,ys,_,hc,h0,h1 _ _ hc,?_⟩;rintro v' s ⟨rfl,rfl⟩;exact⟨id',row',st,hl,e⟩
    ·cases e
   ·cases e
  ·cases e
def cgKy(kb he:FuncId→Bool)(hs:List HE)(rs:List RBD)(much:Nat)(G:Nat→Option (Nat×GFun))(kf:KnF):Nat→Bool→CG
 |0,_,_,_,_=>none
 |d+1,true,b,xs,σ=>runY rs (ClY kb kf much (cgKy kb he hs rs much G kf d false) (cgKy kb he hs rs much G kf d true)) b xs σ
 |d+1,false,f,xs,σ=>match kf f xs with
  |some v=>some (v,σ)
  |none=>match (bif he f then ZbQ f xs σ hs else none) with
   |some r=>some r
   |none=>match G f with
    |some (np,g)=>bif Nat.beq xs.length np then g (ClY kb kf much (cgKy kb he hs rs much G kf d false) (cgKy kb he hs rs much G kf d true)) xs σ (λv σ=>some (v,σ)) else none
    |none=>none
theorem Xck(hP:POk P){kb he:FuncId→Bool}{hs:List HE}(hh:HEsOk P GL hs){rs:List RBD}(hr:RBsOk P GL rs){much:Nat}{G:Nat→Option (Nat×GFun)}(hG:∀f np g,G f=some (np,g)→GOk P GL f np g){kf:KnF}(hk:KfOk P GL kf) :
  ∀d,CGOk P GL (cgKy kb he hs rs much G kf d false)∧YlOk P GL (cgKy kb he hs rs much G kf d true)
 |0=>⟨λf xs σ v σ' h=>(by cases h),λb xs σ v σ' h=>(by cases h)⟩
 |d+1=>by
  obtain⟨ih1,ih2⟩:=Xck hP (kb:=kb) (he:=he) hh hr (much:=much) hG hk d;refine⟨λf xs σ v σ' h=>?_,λb xs σ v σ' h=>Qc3 hP (YcV hk ih1 ih2 much (v,σ')) hr h⟩;unfold cgKy at h;split at h
  ·rename_i v0 hv;cases h;obtain⟨h1,h2,h3,h4⟩:=hk _ _ _ hv;refine⟨h1,λk ys hc=>Q9 (Yv hc h1 (h4.here h2 (hp σ))) (ZT σ),λhσ=>?_,λhro=>by rw[h2] at hro; cases hro⟩;subst hσ;exact⟨YaX h4,λ_=>h4⟩
  split at h
  ·rename_i r hr';obtain⟨_,hr'⟩:=Ql hr';cases h;exact Qbp hh hr'
  split at h
  ·rename_i np g hg;obtain⟨hn,h⟩:=Ql h;have hn':=YNB hn;obtain⟨F,h1,h2,h3⟩:=(hG f np g hg).awp hP (YcV hk ih1 ih2 much (v,σ')) hn' h;refine YbC (hG f np g hg).plain h1 (h2.trans hn'.symm) (h3.mono λe ρ s k=>?_);simp_all
  ·cases h
theorem Z2(hP:POk P){kb he:FuncId→Bool}{hs:List HE}(hh:HEsOk P GL hs){rs:List RBD}(hr:RBsOk P GL rs){much:Nat}{G:Nat→Option (Nat×GFun)}(hG:∀f np g,G f=some (np,g)→GOk P GL f np g){kf:KnF}(hk:KfOk P GL kf)(d:Nat){f:FuncId}{xs:List AVal}{y:AVal}
 (h:((cgKy kb he hs rs much G kf d false f xs []).bind λp=>frz p.2 p.1)=some y):PCall P GL f xs y:=by
 cases hc:cgKy kb he hs rs much G kf d false f xs [] with
 |none=>rw[hc] at h; cases h
 |some p=>
  obtain⟨v,bs⟩:=p;rw[hc] at h;exact XaX ((Xck hP hh hr hG hk d).1.ncall hc) h
end
end Go.Ah
end
section
namespace Go.Ah.Tz
open Go.Proofs.Tryz (prog)
set_option maxRecDepth 100000
set_option maxHeartbeats 4000000
attribute [local irreducible] Ans.rd Ans.pu Ans.wr Ans.dr Ans.gr Ans.gw Ans.gl Ans.gd Ans.opt joinK hdV tlV cellV Xf qC qD qT qL qS qR Yh YK Yai QA Qai Zai ZaX XV Zaj Xl QG XC Zg YP Yr XJ YT QJ QV ZK Xai Zs YE Yx Xx XA Zt Yy Qt Zu Yn ZC YC Zq QF ZR XaH Xaw XN XE QD QQ YR XaC Zv XR Ye Qaa Xs Zab Xaj QU YG Qaj ZE Zak Yak QL Zy Qcx Qj Xak QW ZX YbI
abbrev GQ(f:FuncId)(n:Nat)(g:GFun):Prop:=GOk prog GL0 f n g
abbrev PC(f:FuncId)(xs:List AVal)(v:AVal):Prop:=PCall prog GL0 f xs v
noncomputable abbrev VV (Z:PZ):Ans Prop:=W prog GL0 Z
def g3:H2 prog GL0 3 [some [998],none]:={g:=_}
def g4:H2 prog GL0 4 [some [998],none,some [],none,none,none]:={g:=_}
def g5:H2 prog GL0 5 [some [998],none,some [6,5],none,none]:={g:=_}
def g6:H0 prog GL0 6 [some [998]]:={g:=_}
def g7:H1 prog GL0 7 [some [998],none,none,some [14,2],none,none,none]:={g:=_}
def g8:H1 prog GL0 8 [some [998],none,none,some [5,4],none,none,none]:={g:=_}
def g9:H1 prog GL0 9 [some [998],none,some [0,2],none,none,none,none,none,none]:={g:=_}
def g10:H1 prog GL0 10 [some [998],none,some [5,4],none,none,none,none,none,none]:={g:=_}
def g11:H2 prog GL0 11 [some [998],none,none,some [5],none,none,none]:={g:=_}
def g12:H1 prog GL0 12 [none,some [4,3],none,none,none,some [6,3],none,none]:={g:=_}
def g13:H3 prog GL0 13 [some [998],none,none,none,none,none,some [45,6],none,none]:={g:=_}
def g14:H0 prog GL0 14 []:={g:=_}
def g15:H0 prog GL0 15 [some [998]]:={g:=_}
def g16:H2 prog GL0 16 [some [998],none]:={g:=_}
def g17:H1 prog GL0 17 [some [998]]:={g:=_}
def g18:H1 prog GL0 18 [some [998],none,none,none,some [44,4],none,none,none,some [64,4],none,none,none,some [74,4],none,none]:={g:=_}
def g19:H1 prog GL0 19 [some [998],none,none,some [3],none,none,none]:={g:=_}
def g20:H1 prog GL0 20 [some [998],none,none]:={g:=_}
def g21:H1 prog GL0 21 [some [998],none,some [4,3],none,none]:={g:=_}
def g22:H1 prog GL0 22 [some [998],none,some [],none,none,some [37],none,none,none,some [46],none,none,none,none]:={g:=_}
def g23:H1 prog GL0 23 [some [998],none,some [],some [],none,some [12],none,none,none,some [14],none,none,none]:={g:=_}
def g24:H2 prog GL0 24 [some [998]]:={g:=_}
def g25:H1 prog GL0 25 [none,some [4,3],none,none]:={g:=_}
noncomputable def r416:RB prog GL0 26 0 [] [none]:={d:=_}
noncomputable def g26:H2 prog GL0 26 [some [998],none]:={g:=_}
def g27:H1 prog GL0 27 [some [998],none]:={g:=_}
def g28:H2 prog GL0 28 [some [998],none,none,some [40],none,none]:={g:=_}
def g29:H2 prog GL0 29 [some [998],none,none,some [19,6],none,some [6],none]:={g:=_}
def g30:H2 prog GL0 30 [some [998],none,some [12,4],none,none,none]:={g:=_}
def g31:H3 prog GL0 31 [some [998]]:={g:=_}
def g32:H1 prog GL0 32 [some [998],none,some [11],none,none,none]:={g:=_}
def g33:H1 prog GL0 33 [some [998],none,some [8],none,none]:={g:=_}
def g34:H1 prog GL0 34 [some [998]]:={g:=_}
def g35:H1 prog GL0 35 [some [998],none,none]:={g:=_}
def g36:H2 prog GL0 36 [some [998],none,some [5,0],none,none]:={g:=_}
def g37:H1 prog GL0 37 [some [998],none,some [4,3],none,none]:={g:=_}
def g38:H2 prog GL0 38 [some [998]]:={g:=_}
def g39:H2 prog GL0 39 [some [998],none,some [5,0],none,none]:={g:=_}
def g40:H2 prog GL0 40 [some [998],some [1]]:={g:=_}
def g41:H1 prog GL0 41 [some [998],none,some [9,3],none,none]:={g:=_}
def g42:H1 prog GL0 42 [some [998]]:={g:=_}
def g43:H1 prog GL0 43 [some [998],none,none,some [23,3],none,none]:={g:=_}
def g44:H1 prog GL0 44 [some [998]]:={g:=_}
def g45:H1 prog GL0 45 [some [998],none,none,some [4,3],none,none]:={g:=_}
def g46:H1 prog GL0 46 [some [998],none,none,some [7],none,none,none]:={g:=_}
def g47:H1 prog GL0 47 [some [998]]:={g:=_}
def g48:H1 prog GL0 48 [some [998],none,some [5,3],none,none]:={g:=_}
def g49:H2 prog GL0 49 [none,none,some [5],none,none,none]:={g:=_}
def l50{α:Type}(A:Ans α)(x0 x1:AVal)(σ:List ABlk)(ret:AVal→List ABlk→α):α:=
 A.wr (Xaw [x0] σ) σ λt2_0 σ=>
 A.wr (Xaw [x1] σ) σ λt3_1 σ=>
 A.rd (Ye 0 [t2_0] σ) λt6_2=>
 A.rd (Zg false 1 [t6_2] σ) λt7_3=>
 A.rd (Ye 0 [t3_1] σ) λt8_4=>
 A.rd (Zg false 1 [t8_4] σ) λt9_5=>
 A.rd (QF .neq false [t7_3,t9_5] σ) λt10_6=>
 A.gr t10_6 false (λk=>A.rd (Ye 1 [t2_0] σ) k) λt12_7=>
 A.gr t10_6 false (λk=>A.rd (Zg false 1 [t12_7] σ) k) λt13_8=>
 A.gr t10_6 false (λk=>A.rd (Ye 1 [t3_1] σ) k) λt14_9=>
 A.gr t10_6 false (λk=>A.rd (Zg false 1 [t14_9] σ) k) λt15_10=>
 A.gr t10_6 false (λk=>A.rd (QF .neq false [t13_8,t15_10] σ) k) λt16_11=>
 A.rd (Zs [t10_6,(.bool true),t16_11] σ) λt17_12=>
 A.gr t17_12 false (λk=>A.rd (Ye 2 [t2_0] σ) k) λt19_13=>
 A.gr t17_12 false (λk=>A.rd (Zg false 1 [t19_13] σ) k) λt20_14=>
 A.gr t17_12 false (λk=>A.rd (Ye 2 [t3_1] σ) k) λt21_15=>
 A.gr t17_12 false (λk=>A.rd (Zg false 1 [t21_15] σ) k) λt22_16=>
 A.gr t17_12 false (λk=>A.rd (QF .neq false [t20_14,t22_16] σ) k) λt23_17=>
 A.rd (Zs [t17_12,(.bool true),t23_17] σ) λt24_18=>
 A.gr t24_18 false (λk=>A.rd (Ye 3 [t2_0] σ) k) λt26_19=>
 A.gr t24_18 false (λk=>A.rd (Zg false 1 [t26_19] σ) k) λt27_20=>
 A.gr t24_18 false (λk=>A.rd (Ye 3 [t3_1] σ) k) λt28_21=>
 A.gr t24_18 false (λk=>A.rd (Zg false 1 [t28_21] σ) k) λt29_22=>
 A.gr t24_18 false (λk=>A.rd (QF .neq false [t27_20,t29_22] σ) k) λt30_23=>
 A.rd (Zs [t24_18,(.bool true),t30_23] σ) λt31_24=>
 A.gr t31_24 false (λk=>A.rd (Ye 4 [t2_0] σ) k) λt33_25=>
 A.gr t31_24 false (λk=>A.rd (Zg false 1 [t33_25] σ) k) λt34_26=>
 A.gr t31_24 false (λk=>A.rd (Ye 4 [t3_1] σ) k) λt35_27=>
 A.gr t31_24 false (λk=>A.rd (Zg false 1 [t35_27] σ) k) λt36_28=>
 A.gw t31_24 false (λk=>A.call (.call 49) [t34_26,t36_28] σ k) σ λt37_29 σ=>
 A.gr t31_24 false (λk=>A.rd (XaH .not [t37_29] σ) k) λt38_30=>
 A.rd (Zs [t31_24,(.bool true),t38_30] σ) λt39_31=>
 A.gr t39_31 false (λk=>A.rd (Ye 5 [t2_0] σ) k) λt41_32=>
 A.gr t39_31 false (λk=>A.rd (Zg false 1 [t41_32] σ) k) λt42_33=>
 A.gr t39_31 false (λk=>A.rd (QG [t42_33] σ) k) λt43_34=>
 A.gr t39_31 false (λk=>A.rd (Ye 5 [t3_1] σ) k) λt44_35=>
 A.gr t39_31 false (λk=>A.rd (Zg false 1 [t44_35] σ) k) λt45_36=>
 A.gr t39_31 false (λk=>A.rd (QG [t45_36] σ) k) λt46_37=>
 A.gr t39_31 false (λk=>A.rd (QF .neq false [t43_34,t46_37] σ) k) λt47_38=>
 A.rd (Zs [t39_31,(.bool true),t47_38] σ) λt48_39=>
 A.test t48_39 (
 ret (.bool false) σ) (
 A.loop (λag40 v41 σ=>
 A.rd (Ye 5 [t2_0] σ) λt50_42=>
 A.rd (Zg false 1 [t50_42] σ) λt51_43=>
 A.rd (QG [t51_43] σ) λt52_44=>
 A.rd (QF .lss false [(h0 v41),t52_44] σ) λt53_45=>
 A.test t53_45 (
 A.rd (Ye 5 [t2_0] σ) λt56_46=>
 A.rd (Zg false 1 [t56_46] σ) λt57_47=>
 A.rd (Xl 2 [t57_47,(h0 v41)] σ) λt59_48=>
 A.rd (Zg true 2 [t59_48] σ) λt60_49=>
 A.rd (Ye 5 [t3_1] σ) λt61_50=>
 A.rd (Zg false 1 [t61_50] σ) λt62_51=>
 A.rd (Xl 2 [t62_51,(h0 v41)] σ) λt64_52=>
 A.rd (Zg true 2 [t64_52] σ) λt65_53=>
 A.rd (XaC true [false,false] [t60_49,t65_53] σ) λt66_54=>
 A.test t66_54 (
 ret (.bool false) σ) (
 A.rd (QF .add false [(h0 v41),(.int .i64 1)] σ) λt55_55=>
 ag40 [t55_55] σ)) (
 ret (.bool true) σ)) [(.int .i64 0)] σ)
theorem Qdf{α:Type}(A:Ans α)(x0 x1:AVal)(σ:List ABlk)(ret:AVal→List ABlk→α):dmFn A (compD prog GL0 2 50 [none,none,some [5],none,none,none]) [x0,x1] σ ret=l50 A x0 x1 σ ret:=by kernel_rfl
def g50:H2 prog GL0 50 [none,none,some [5],none,none,none]:=⟨l50,Qdf,by kernel_rfl⟩
def g51:H1 prog GL0 51 [none,some [4,3],none,none]:={g:=_}
def g52:H1 prog GL0 52 [none,some [4,3],none,none,none,some [5,3],none,none]:={g:=_}
def g53:H2 prog GL0 53 [some [998]]:={g:=_}
def g54:H1 prog GL0 54 [some [998]]:={g:=_}
def g55:H1 prog GL0 55 [some [998]]:={g:=_}
def g56:H0 prog GL0 56 [some [998]]:={g:=_}
def g57:H1 prog GL0 57 [none]:={g:=_}
def g58:H2 prog GL0 58 [some [998],none]:={g:=_}
def g59:H2 prog GL0 59 [some [998],none]:={g:=_}
def g60:H2 prog GL0 60 [some [998],none,none,some [],none,none]:={g:=_}
def g61:H1 prog GL0 61 [some [998]]:={g:=_}
def g62:H2 prog GL0 62 [some [998],none]:={g:=_}
def g63:H1 prog GL0 63 [some [998]]:={g:=_}
def g64:H1 prog GL0 64 [some [998],none]:={g:=_}
def g65:H2 prog GL0 65 [some [998]]:={g:=_}
def g66:H1 prog GL0 66 [some [998]]:={g:=_}
def g67:H1 prog GL0 67 [some [998]]:={g:=_}
def g68:H2 prog GL0 68 [some [998]]:={g:=_}
def g69:H2 prog GL0 69 [some [998],none,some [5,0],none,none]:={g:=_}
def g71:H1 prog GL0 71 [some [998],none]:={g:=_}
def g72:H1 prog GL0 72 [some [998],none,some [4,3],none,none]:={g:=_}
def g73:H1 prog GL0 73 [some [998],none,some [5,3],none,none]:={g:=_}
def g74:H2 prog GL0 74 [some [998],some [],none]:={g:=_}
def g75:H1 prog GL0 75 [some [998],some []]:={g:=_}
def g76:H2 prog GL0 76 [some [998],none]:={g:=_}
def g77:H3 prog GL0 77 [some [998],none,none,none,some [45],none,none,none]:={g:=_}
def g78:H1 prog GL0 78 [none,some [10],none,none,none]:={g:=_}
def g79:H3 prog GL0 79 [some [998],none,none,some [25],none,none,none,none,none,some [49,12],none,none,none]:={g:=_}
def g80:H3 prog GL0 80 [some [998],none,none]:={g:=_}
def g81:H1 prog GL0 81 [none]:={g:=_}
def g82:H2 prog GL0 82 [some [998],some []]:={g:=_}
def g83:H2 prog GL0 83 [some [998],none,some [8],none,none]:={g:=_}
def g84:H4 prog GL0 84 [some [998],some [],some [],none,some [50],none,none,some []]:={g:=_}
def g85:H2 prog GL0 85 [some [998],none,some [5,4],none,none,none]:={g:=_}
def g86:H4 prog GL0 86 [some [998],some [],some [],none,some [50],none,none,some []]:={g:=_}
def g87:H2 prog GL0 87 [some [998]]:={g:=_}
def g89:H2 prog GL0 89 [some [998],none]:={g:=_}
def g90:H1 prog GL0 90 [some [998],some [],none]:={g:=_}
def g91:H1 prog GL0 91 []:={g:=_}
def g92:H1 prog GL0 92 [none,none,some [18],none,some [],none,none,some [40],none,none,none,none,none]:={g:=_}
def g93:H1 prog GL0 93 []:={g:=_}
def g94:H1 prog GL0 94 [none,some [9],none,none,none]:={g:=_}
def g95:H1 prog GL0 95 []:={g:=_}
def g96:H1 prog GL0 96 [none,some [18],none,none,none,some [69,6],none,none,none,some [75,6],none,none,none]:={g:=_}
def g97:H2 prog GL0 97 []:={g:=_}
def g98:H2 prog GL0 98 [some [998]]:={g:=_}
def g99:H3 prog GL0 99 [some [998],some [],none,some [11],none,none]:={g:=_}
def g100:H3 prog GL0 100 [some [998],none,none,none,some [65],none,none,none,none,some [96,15],none,some [15],none,none]:={g:=_}
def g101:H3 prog GL0 101 [none,none,none]:={g:=_}
def g102:H1 prog GL0 102 [none,some [9],none,none]:={g:=_}
def g107:H1 prog GL0 107 [some [998],none]:={g:=_}
def g108:H2 prog GL0 108 [some [998],none,some []]:={g:=_}
def g109:H2 prog GL0 109 [none,some [33],none,none,none,none,some [43],none,none,none,none]:={g:=_}
def g110:H2 prog GL0 110 []:={g:=_}
def g111:H1 prog GL0 111 []:={g:=_}
def g112:H2 prog GL0 112 []:={g:=_}
def g113:H2 prog GL0 113 [none,some [8],none,none,none]:={g:=_}
def g114:H2 prog GL0 114 [some [998]]:={g:=_}
def g115:H2 prog GL0 115 [some [998]]:={g:=_}
def g116:H2 prog GL0 116 [some [998],some [],none]:={g:=_}
def g117:H3 prog GL0 117 [some [998],none,none,none,some [],none,none,none,none,some [94],none,none]:={g:=_}
def g118:H4 prog GL0 118 [some [998],none,none,some [46],none,none,none,none,some [17],some [],none,none,some [18],none,none,none,some [97],none,some [],none,none,none,none,some [29],none,none,none]:={g:=_}
def g119:H2 prog GL0 119 [none]:={g:=_}
def g120:H3 prog GL0 120 [none,some [7],none,none,none,none,some [31],none]:={g:=_}
def g125:H4 prog GL0 125 [some [998],none]:={g:=_}
def g128:H2 prog GL0 128 [some [998]]:={g:=_}
def g133:H1 prog GL0 133 []:={g:=_}
def g134:H3 prog GL0 134 [none,none,some [19],none,none,some [9],some [46],none,some [70],none,none,some [82],none,none,none,none]:={g:=_}
def g135:H2 prog GL0 135 []:={g:=_}
def g136:H2 prog GL0 136 []:={g:=_}
def g137:H2 prog GL0 137 []:={g:=_}
def g138:H2 prog GL0 138 []:={g:=_}
def g139:H2 prog GL0 139 []:={g:=_}
def g140:H3 prog GL0 140 [some [5]]:={g:=_}
def g141:H1 prog GL0 141 [none,some [3],none,none,none]:={g:=_}
def g142:H1 prog GL0 142 []:={g:=_}
def g143:H2 prog GL0 143 [none]:={g:=_}
def g144:H2 prog GL0 144 []:={g:=_}
def g145:H2 prog GL0 145 [some [998],none]:={g:=_}
def g146:H2 prog GL0 146 [none]:={g:=_}
def g147:H1 prog GL0 147 []:={g:=_}
def g148:H2 prog GL0 148 []:={g:=_}
def g149:H2 prog GL0 149 [some [998]]:={g:=_}
def g150:H6 prog GL0 150 [some [998],none]:={g:=_}
def g151:H2 prog GL0 151 [none,none,some [22,6],none,none,none,some [34,6],none,some [6],none]:={g:=_}
def g152:H2 prog GL0 152 [none,some [9],none,none,none]:={g:=_}
def g153:H3 prog GL0 153 [none,none,some [23,9],none,some [9],none]:={g:=_}
def g154:H1 prog GL0 154 [some [998],none,none,none,none]:={g:=_}
def g155:H1 prog GL0 155 [some [998],none]:={g:=_}
def g156:H3 prog GL0 156 [some [998],none]:={g:=_}
def g157:H3 prog GL0 157 [none,some [14],none,none,none,none,none,none,none,none,none,none,none,none,none,some [89],none,none,none,none,none,some [116],none,none,none]:={g:=_}
def g158:H1 prog GL0 158 [none]:={g:=_}
def g159:H1 prog GL0 159 [none,none,none]:={g:=_}
def g160:H0 prog GL0 160 []:={g:=_}
def g172:H2 prog GL0 172 [none,some [20],none,none,none,some [25],none,none,none]:={g:=_}
def g173:H2 prog GL0 173 []:={g:=_}
def g174:H1 prog GL0 174 []:={g:=_}
def g175:H1 prog GL0 175 [none,some [4],none,none,none,none]:={g:=_}
def g176:H2 prog GL0 176 [some [6,7,5],none,some [37],none,none,none,some [47],none,none,some [59],none,none,none,none,none,none,some [85],none,none,none]:={g:=_}
def g177:H1 prog GL0 177 []:={g:=_}
def g178:H2 prog GL0 178 [some [7,5,6],some [26],none,none,none,some [32],none,none,none,none,some [82],none,none,none,none,some [100],none,none,none]:={g:=_}
def g179:H2 prog GL0 179 []:={g:=_}
def g180:H1 prog GL0 180 [none,none,none,none,some [22,3],none,none]:={g:=_}
def g181:H1 prog GL0 181 [none]:={g:=_}
def g182:H2 prog GL0 182 []:={g:=_}
def g183:H1 prog GL0 183 [none,none,none,none,none,some [20,3],none,none,none,some [32,3],none,none]:={g:=_}
def g184:H2 prog GL0 184 [none,some [8],none,none,none]:={g:=_}
def g185:H1 prog GL0 185 [none,some [3],none,some [16],none]:={g:=_}
def g186:H1 prog GL0 186 []:={g:=_}
def g187:H0 prog GL0 187 [none,some [7],none,none]:={g:=_}
def g188:H2 prog GL0 188 [none,some [8],none,none,none]:={g:=_}
def g189:H3 prog GL0 189 [none,some [20,6,7],none,some [6,7],none]:={g:=_}
def g190:H2 prog GL0 190 [none,some [8],none,none,none]:={g:=_}
def g191:H2 prog GL0 191 []:={g:=_}
def g192:H3 prog GL0 192 [none]:={g:=_}
def g193:H2 prog GL0 193 [none,none,some [6,5],none,some [5],none]:={g:=_}
def g194:H2 prog GL0 194 []:={g:=_}
def g195:H4 prog GL0 195 [none,none,some [85],none,none,none,none,some [106],none,none,none]:={g:=_}
def g196:H1 prog GL0 196 [none,none,none]:={g:=_}
def g197:H1 prog GL0 197 [none,some [16],none,none,none]:={g:=_}
def g198:H1 prog GL0 198 [none,some [18],none,none,none]:={g:=_}
def g199:H1 prog GL0 199 []:={g:=_}
def g200:H1 prog GL0 200 []:={g:=_}
def g216:H2 prog GL0 216 []:={g:=_}
def g221:H2 prog GL0 221 [none,some [5],none,some [5],none,none,some [66,5],none,none,none,some [71,5],none,none,none,none,some [93,5],none,none,none,none,some [118,5],none,none,none,some [140,5],none,none,none,some [158],none,none,none]:={g:=_}
def g222:H0 prog GL0 222 []:={g:=_}
def g223:H1 prog GL0 223 [none,some [6,5,3,4],none,none,none,none,some [12],none,none,none,some [12,10,11],none,none,none,none,some [12],none,none,none]:={g:=_}
def g224:H2 prog GL0 224 []:={g:=_}
def g225:H1 prog GL0 225 []:={g:=_}
def g237:H2 prog GL0 237 [none,some [8],none,none,none]:={g:=_}
def g239:H1 prog GL0 239 [some [998],none,none,some [7],none,none,none,none,none,none,none]:={g:=_}
def g240:H2 prog GL0 240 [some [],some []]:={g:=_}
def g258:H2 prog GL0 258 [some [998],none,none]:={g:=_}
def g269:H2 prog GL0 269 [some [998],none,none,some [20],none,none,none,none,none,some [7,8],none,none,none,none]:={g:=_}
def g270:H2 prog GL0 270 [some [998],none,none,some [16],none,none,none,none,none,some [7,8],none,none,none,none]:={g:=_}
end Go.Ah.Tz
end
section
namespace Go.Ah.Tz
open Go.Proofs.Tryz (prog)
set_option maxRecDepth 100000
noncomputable def tb:GT:=(.node 96 1 g96.u (.node 48 1 g48.u (.node 25 1 g25.u (.node 14 0 g14.u (.node 8 1 g8.u (.node 5 2 g5.u (.node 4 2 g4.u (.node 3 2 g3.u .leaf .leaf) .leaf) (.node 7 1 g7.u (.node 6 0 g6.u .leaf .leaf) .leaf)) (.node 11 2 g11.u (.node 10 1 g10.u (.node 9 1 g9.u .leaf .leaf) .leaf) (.node 13 3 g13.u (.node 12 1 g12.u .leaf .leaf) .leaf))) (.node 20 1 g20.u (.node 17 1 g17.u (.node 16 2 g16.u (.node 15 0 g15.u .leaf .leaf) .leaf) (.node 19 1 g19.u (.node 18 1 g18.u .leaf .leaf) .leaf)) (.node 23 1 g23.u (.node 22 1 g22.u (.node 21 1 g21.u .leaf .leaf) .leaf) (.node 24 2 g24.u .leaf .leaf)))) (.node 37 1 g37.u (.node 31 3 g31.u (.node 28 2 g28.u (.node 27 1 g27.u (.node 26 2 g26.u .leaf .leaf) .leaf) (.node 30 2 g30.u (.node 29 2 g29.u .leaf .leaf) .leaf)) (.node 34 1 g34.u (.node 33 1 g33.u (.node 32 1 g32.u .leaf .leaf) .leaf) (.node 36 2 g36.u (.node 35 1 g35.u .leaf .leaf) .leaf))) (.node 43 1 g43.u (.node 40 2 g40.u (.node 39 2 g39.u (.node 38 2 g38.u .leaf .leaf) .leaf) (.node 42 1 g42.u (.node 41 1 g41.u .leaf .leaf) .leaf)) (.node 46 1 g46.u (.node 45 1 g45.u (.node 44 1 g44.u .leaf .leaf) .leaf) (.node 47 1 g47.u .leaf .leaf))))) (.node 72 1 g72.u (.node 60 2 g60.u (.node 54 1 g54.u (.node 51 1 g51.u (.node 50 2 g50.u (.node 49 2 g49.u .leaf .leaf) .leaf) (.node 53 2 g53.u (.node 52 1 g52.u .leaf .leaf) .leaf)) (.node 57 1 g57.u (.node 56 0 g56.u (.node 55 1 g55.u .leaf .leaf) .leaf) (.node 59 2 g59.u (.node 58 2 g58.u .leaf .leaf) .leaf))) (.node 66 1 g66.u (.node 63 1 g63.u (.node 62 2 g62.u (.node 61 1 g61.u .leaf .leaf) .leaf) (.node 65 2 g65.u (.node 64 1 g64.u .leaf .leaf) .leaf)) (.node 69 2 g69.u (.node 68 2 g68.u (.node 67 1 g67.u .leaf .leaf) .leaf) (.node 71 1 g71.u .leaf .leaf)))) (.node 84 4 g84.u (.node 78 1 g78.u (.node 75 1 g75.u (.node 74 2 g74.u (.node 73 1 g73.u .leaf .leaf) .leaf) (.node 77 3 g77.u (.node 76 2 g76.u .leaf .leaf) .leaf)) (.node 81 1 g81.u (.node 80 3 g80.u (.node 79 3 g79.u .leaf .leaf) .leaf) (.node 83 2 g83.u (.node 82 2 g82.u .leaf .leaf) .leaf))) (.node 91 1 g91.u (.node 87 2 g87.u (.node 86 4 g86.u (.node 85 2 g85.u .leaf .leaf) .leaf) (.node 90 1 g90.u (.node 89 2 g89.u .leaf .leaf) .leaf)) (.node 94 1 g94.u (.node 93 1 g93.u (.node 92 1 g92.u .leaf .leaf) .leaf) (.node 95 1 g95.u .leaf .leaf)))))) (.node 156 3 g156.u (.node 133 1 g133.u (.node 112 2 g112.u (.node 102 1 g102.u (.node 99 3 g99.u (.node 98 2 g98.u (.node 97 2 g97.u .leaf .leaf) .leaf) (.node 101 3 g101.u (.node 100 3 g100.u .leaf .leaf) .leaf)) (.node 109 2 g109.u (.node 108 2 g108.u (.node 107 1 g107.u .leaf .leaf) .leaf) (.node 111 1 g111.u (.node 110 2 g110.u .leaf .leaf) .leaf))) (.node 118 4 g118.u (.node 115 2 g115.u (.node 114 2 g114.u (.node 113 2 g113.u .leaf .leaf) .leaf) (.node 117 3 g117.u (.node 116 2 g116.u .leaf .leaf) .leaf)) (.node 125 4 g125.u (.node 120 3 g120.u (.node 119 2 g119.u .leaf .leaf) .leaf) (.node 128 2 g128.u .leaf .leaf)))) (.node 145 2 g145.u (.node 139 2 g139.u (.node 136 2 g136.u (.node 135 2 g135.u (.node 134 3 g134.u .leaf .leaf) .leaf) (.node 138 2 g138.u (.node 137 2 g137.u .leaf .leaf) .leaf)) (.node 142 1 g142.u (.node 141 1 g141.u (.node 140 3 g140.u .leaf .leaf) .leaf) (.node 144 2 g144.u (.node 143 2 g143.u .leaf .leaf) .leaf))) (.node 151 2 g151.u (.node 148 2 g148.u (.node 147 1 g147.u (.node 146 2 g146.u .leaf .leaf) .leaf) (.node 150 6 g150.u (.node 149 2 g149.u .leaf .leaf) .leaf)) (.node 154 1 g154.u (.node 153 3 g153.u (.node 152 2 g152.u .leaf .leaf) .leaf) (.node 155 1 g155.u .leaf .leaf))))) (.node 190 2 g190.u (.node 179 2 g179.u (.node 173 2 g173.u (.node 159 1 g159.u (.node 158 1 g158.u (.node 157 3 g157.u .leaf .leaf) .leaf) (.node 172 2 g172.u (.node 160 0 g160.u .leaf .leaf) .leaf)) (.node 176 2 g176.u (.node 175 1 g175.u (.node 174 1 g174.u .leaf .leaf) .leaf) (.node 178 2 g178.u (.node 177 1 g177.u .leaf .leaf) .leaf))) (.node 185 1 g185.u (.node 182 2 g182.u (.node 181 1 g181.u (.node 180 1 g180.u .leaf .leaf) .leaf) (.node 184 2 g184.u (.node 183 1 g183.u .leaf .leaf) .leaf)) (.node 188 2 g188.u (.node 187 0 g187.u (.node 186 1 g186.u .leaf .leaf) .leaf) (.node 189 3 g189.u .leaf .leaf)))) (.node 221 2 g221.u (.node 196 1 g196.u (.node 193 2 g193.u (.node 192 3 g192.u (.node 191 2 g191.u .leaf .leaf) .leaf) (.node 195 4 g195.u (.node 194 2 g194.u .leaf .leaf) .leaf)) (.node 199 1 g199.u (.node 198 1 g198.u (.node 197 1 g197.u .leaf .leaf) .leaf) (.node 216 2 g216.u (.node 200 1 g200.u .leaf .leaf) .leaf))) (.node 239 1 g239.u (.node 224 2 g224.u (.node 223 1 g223.u (.node 222 0 g222.u .leaf .leaf) .leaf) (.node 237 2 g237.u (.node 225 1 g225.u .leaf .leaf) .leaf)) (.node 269 2 g269.u (.node 258 2 g258.u (.node 240 2 g240.u .leaf .leaf) .leaf) (.node 270 2 g270.u .leaf .leaf)))))))
theorem tb_ok:tb.Ok prog GL0:=⟨g96.ok,⟨g48.ok,⟨g25.ok,⟨g14.ok,⟨g8.ok,⟨g5.ok,⟨g4.ok,⟨g3.ok,trivial,trivial⟩,trivial⟩,⟨g7.ok,⟨g6.ok,trivial,trivial⟩,trivial⟩⟩,⟨g11.ok,⟨g10.ok,⟨g9.ok,trivial,trivial⟩,trivial⟩,⟨g13.ok,⟨g12.ok,trivial,trivial⟩,trivial⟩⟩⟩,⟨g20.ok,⟨g17.ok,⟨g16.ok,⟨g15.ok,trivial,trivial⟩,trivial⟩,⟨g19.ok,⟨g18.ok,trivial,trivial⟩,trivial⟩⟩,⟨g23.ok,⟨g22.ok,⟨g21.ok,trivial,trivial⟩,trivial⟩,⟨g24.ok,trivial,trivial⟩⟩⟩⟩,⟨g37.ok,⟨g31.ok,⟨g28.ok,⟨g27.ok,⟨g26.ok,trivial,trivial⟩,trivial⟩,⟨g30.ok,⟨g29.ok,trivial,trivial⟩,trivial⟩⟩,⟨g34.ok,⟨g33.ok,⟨g32.ok,trivial,trivial⟩,trivial⟩,⟨g36.ok,⟨g35.ok,trivial,trivial⟩,trivial⟩⟩⟩,⟨g43.ok,⟨g40.ok,⟨g39.ok,⟨g38.ok,trivial,trivial⟩,trivial⟩,⟨g42.ok,⟨g41.ok,trivial,trivial⟩,trivial⟩⟩,⟨g46.ok,⟨g45.ok,⟨g44.ok,trivial,trivial⟩,trivial⟩,⟨g47.ok,trivial,trivial⟩⟩⟩⟩⟩,⟨g72.ok,⟨g60.ok,⟨g54.ok,⟨g51.ok,⟨g50.ok,⟨g49.ok,trivial,trivial⟩,trivial⟩,⟨g53.ok,⟨g52.ok,trivial,trivial⟩,trivial⟩⟩,⟨g57.ok,⟨g56.ok,⟨g55.ok,trivial,trivial⟩,trivial⟩,⟨g59.ok,⟨g58.ok,trivial,trivial⟩,trivial⟩⟩⟩,⟨g66.ok,⟨g63.ok,⟨g62.ok,⟨g61.ok,trivial,trivial⟩,trivial⟩,⟨g65.ok,⟨g64.ok,trivial,trivial⟩,trivial⟩⟩,⟨g69.ok,⟨g68.ok,⟨g67.ok,trivial,trivial⟩,trivial⟩,⟨g71.ok,trivial,trivial⟩⟩⟩⟩,⟨g84.ok,⟨g78.ok,⟨g75.ok,⟨g74.ok,⟨g73.ok,trivial,trivial⟩,trivial⟩,⟨g77.ok,⟨g76.ok,trivial,trivial⟩,trivial⟩⟩,⟨g81.ok,⟨g80.ok,⟨g79.ok,trivial,trivial⟩,trivial⟩,⟨g83.ok,⟨g82.ok,trivial,trivial⟩,trivial⟩⟩⟩,⟨g91.ok,⟨g87.ok,⟨g86.ok,⟨g85.ok,trivial,trivial⟩,trivial⟩,⟨g90.ok,⟨g89.ok,trivial,trivial⟩,trivial⟩⟩,⟨g94.ok,⟨g93.ok,⟨g92.ok,trivial,trivial⟩,trivial⟩,⟨g95.ok,trivial,trivial⟩⟩⟩⟩⟩⟩,⟨g156.ok,⟨g133.ok,⟨g112.ok,⟨g102.ok,⟨g99.ok,⟨g98.ok,⟨g97.ok,trivial,trivial⟩,trivial⟩,⟨g101.ok,⟨g100.ok,trivial,trivial⟩,trivial⟩⟩,⟨g109.ok,⟨g108.ok,⟨g107.ok,trivial,trivial⟩,trivial⟩,⟨g111.ok,⟨g110.ok,trivial,trivial⟩,trivial⟩⟩⟩,⟨g118.ok,⟨g115.ok,⟨g114.ok,⟨g113.ok,trivial,trivial⟩,trivial⟩,⟨g117.ok,⟨g116.ok,trivial,trivial⟩,trivial⟩⟩,⟨g125.ok,⟨g120.ok,⟨g119.ok,trivial,trivial⟩,trivial⟩,⟨g128.ok,trivial,trivial⟩⟩⟩⟩,⟨g145.ok,⟨g139.ok,⟨g136.ok,⟨g135.ok,⟨g134.ok,trivial,trivial⟩,trivial⟩,⟨g138.ok,⟨g137.ok,trivial,trivial⟩,trivial⟩⟩,⟨g142.ok,⟨g141.ok,⟨g140.ok,trivial,trivial⟩,trivial⟩,⟨g144.ok,⟨g143.ok,trivial,trivial⟩,trivial⟩⟩⟩,⟨g151.ok,⟨g148.ok,⟨g147.ok,⟨g146.ok,trivial,trivial⟩,trivial⟩,⟨g150.ok,⟨g149.ok,trivial,trivial⟩,trivial⟩⟩,⟨g154.ok,⟨g153.ok,⟨g152.ok,trivial,trivial⟩,trivial⟩,⟨g155.ok,trivial,trivial⟩⟩⟩⟩⟩,⟨g190.ok,⟨g179.ok,⟨g173.ok,⟨g159.ok,⟨g158.ok,⟨g157.ok,trivial,trivial⟩,trivial⟩,⟨g172.ok,⟨g160.ok,trivial,trivial⟩,trivial⟩⟩,⟨g176.ok,⟨g175.ok,⟨g174.ok,trivial,trivial⟩,trivial⟩,⟨g178.ok,⟨g177.ok,trivial,trivial⟩,trivial⟩⟩⟩,⟨g185.ok,⟨g182.ok,⟨g181.ok,⟨g180.ok,trivial,trivial⟩,trivial⟩,⟨g184.ok,⟨g183.ok,trivial,trivial⟩,trivial⟩⟩,⟨g188.ok,⟨g187.ok,⟨g186.ok,trivial,trivial⟩,trivial⟩,⟨g189.ok,trivial,trivial⟩⟩⟩⟩,⟨g221.ok,⟨g196.ok,⟨g193.ok,⟨g192.ok,⟨g191.ok,trivial,trivial⟩,trivial⟩,⟨g195.ok,⟨g194.ok,trivial,trivial⟩,trivial⟩⟩,⟨g199.ok,⟨g198.ok,⟨g197.ok,trivial,trivial⟩,trivial⟩,⟨g216.ok,⟨g200.ok,trivial,trivial⟩,trivial⟩⟩⟩,⟨g239.ok,⟨g224.ok,⟨g223.ok,⟨g222.ok,trivial,trivial⟩,trivial⟩,⟨g237.ok,⟨g225.ok,trivial,trivial⟩,trivial⟩⟩,⟨g269.ok,⟨g258.ok,⟨g240.ok,trivial,trivial⟩,trivial⟩,⟨g270.ok,trivial,trivial⟩⟩⟩⟩⟩⟩⟩
theorem hP:POk prog:=⟨by kernel_rfl,λ_=>rfl⟩
theorem hT:∀f np g,tb.get f=some (np,g)→GQ f np g:=GT.get_ok tb_ok
set_option maxHeartbeats 4000000
attribute [local irreducible] Ans.rd Ans.pu Ans.wr Ans.dr Ans.gr Ans.gw Ans.gl Ans.gd Ans.opt joinK hdV tlV cellV Xf qC qD qT qL qS qR Yh YK Yai QA Qai Zai ZaX XV Zaj Xl QG XC Zg YP Yr XJ YT QJ QV ZK Xai Zs YE Yx Xx XA Zt Yy Qt Zu Yn ZC YC Zq QF ZR XaH Xaw XN XE QD QQ YR XaC Zv XR Ye Qaa Xs Zab Xaj QU YG Qaj ZE Zak Yak QL Zy Qcx Qj Xak QW ZX YbI
def k3:H2 prog GL0 3 [none]:={g:=_}
def k4:H2 prog GL0 4 [none,some [],none,none,none]:={g:=_}
def k5:H2 prog GL0 5 [none,some [6,5],none,none]:={g:=_}
def k7:H1 prog GL0 7 [none,none,some [14,2],none,none,none]:={g:=_}
def k9:H1 prog GL0 9 [none,some [0,2],none,none,none,none,none,none]:={g:=_}
def k11:H2 prog GL0 11 [none,none,some [5],none,none,none]:={g:=_}
def k17:H1 prog GL0 17 []:={g:=_}
def k18:H1 prog GL0 18 [none,none,none,some [44,4],none,none,none,some [64,4],none,none,none,some [74,4],none,none]:={g:=_}
def k22:H1 prog GL0 22 [none,some [],none,none,some [37],none,none,none,some [46],none,none,none,none]:={g:=_}
def k24:H2 prog GL0 24 []:={g:=_}
def k30:H2 prog GL0 30 [none,some [12,4],none,none,none]:={g:=_}
def k31:H3 prog GL0 31 []:={g:=_}
def k32:H1 prog GL0 32 [none,some [11],none,none,none]:={g:=_}
def k33:H1 prog GL0 33 [none,some [8],none,none]:={g:=_}
def k34:H1 prog GL0 34 []:={g:=_}
def k40:H2 prog GL0 40 [some [1]]:={g:=_}
def k41:H1 prog GL0 41 [none,some [9,3],none,none]:={g:=_}
def k42:H1 prog GL0 42 []:={g:=_}
def k43:H1 prog GL0 43 [none,none,some [23,3],none,none]:={g:=_}
def k44:H1 prog GL0 44 []:={g:=_}
def k61:H1 prog GL0 61 []:={g:=_}
def k62:H2 prog GL0 62 [none]:={g:=_}
def k63:H1 prog GL0 63 []:={g:=_}
def k64:H1 prog GL0 64 [none]:={g:=_}
def k68:H2 prog GL0 68 []:={g:=_}
def k69:H2 prog GL0 69 [none,some [5,0],none,none]:={g:=_}
def k82:H2 prog GL0 82 [some []]:={g:=_}
def k83:H2 prog GL0 83 [none,some [8],none,none]:={g:=_}
def k84:H4 prog GL0 84 [some [],some [],none,some [50],none,none,some []]:={g:=_}
def k85:H2 prog GL0 85 [none,some [5,4],none,none,none]:={g:=_}
def k86:H4 prog GL0 86 [some [],some [],none,some [50],none,none,some []]:={g:=_}
def k108:H2 prog GL0 108 [none,some []]:={g:=_}
end Go.Ah.Tz
end
section
namespace Go.Ah
theorem H0.e{P:Program}{GL:Globs}{f:FuncId}{l:List (Option (List Nat))}(q:H0 P GL f l){α:Type}(A:Ans α)(σ:List ABlk)(r:AVal→List ABlk→α):q.u A [] σ r=q.g A  σ r:=rfl
theorem H1.e{P:Program}{GL:Globs}{f:FuncId}{l:List (Option (List Nat))}(q:H1 P GL f l){α:Type}(A:Ans α)(xa:AVal)(σ:List ABlk)(r:AVal→List ABlk→α):q.u A [xa] σ r=q.g A xa σ r:=rfl
theorem H2.e{P:Program}{GL:Globs}{f:FuncId}{l:List (Option (List Nat))}(q:H2 P GL f l){α:Type}(A:Ans α)(xa xb:AVal)(σ:List ABlk)(r:AVal→List ABlk→α):q.u A [xa,xb] σ r=q.g A xa xb σ r:=rfl
theorem H3.e{P:Program}{GL:Globs}{f:FuncId}{l:List (Option (List Nat))}(q:H3 P GL f l){α:Type}(A:Ans α)(xa xb xc:AVal)(σ:List ABlk)(r:AVal→List ABlk→α):q.u A [xa,xb,xc] σ r=q.g A xa xb xc σ r:=rfl
theorem H4.e{P:Program}{GL:Globs}{f:FuncId}{l:List (Option (List Nat))}(q:H4 P GL f l){α:Type}(A:Ans α)(xa xb xc xd:AVal)(σ:List ABlk)(r:AVal→List ABlk→α):q.u A [xa,xb,xc,xd] σ r=q.g A xa xb xc xd σ r:=rfl
theorem H5.e{P:Program}{GL:Globs}{f:FuncId}{l:List (Option (List Nat))}(q:H5 P GL f l){α:Type}(A:Ans α)(xa xb xc xd xe:AVal)(σ:List ABlk)(r:AVal→List ABlk→α):q.u A [xa,xb,xc,xd,xe] σ r=q.g A xa xb xc xd xe σ r:=rfl
theorem H6.e{P:Program}{GL:Globs}{f:FuncId}{l:List (Option (List Nat))}(q:H6 P GL f l){α:Type}(A:Ans α)(xa xb xc xd xe xf:AVal)(σ:List ABlk)(r:AVal→List ABlk→α):q.u A [xa,xb,xc,xd,xe,xf] σ r=q.g A xa xb xc xd xe xf σ r:=rfl
theorem H7.e{P:Program}{GL:Globs}{f:FuncId}{l:List (Option (List Nat))}(q:H7 P GL f l){α:Type}(A:Ans α)(xa xb xc xd xe xf xg:AVal)(σ:List ABlk)(r:AVal→List ABlk→α):q.u A [xa,xb,xc,xd,xe,xf,xg] σ r=q.g A xa xb xc xd xe xf xg σ r:=rfl
theorem H8.e{P:Program}{GL:Globs}{f:FuncId}{l:List (Option (List Nat))}(q:H8 P GL f l){α:Type}(A:Ans α)(xa xb xc xd xe xf xg xh:AVal)(σ:List ABlk)(r:AVal→List ABlk→α):q.u A [xa,xb,xc,xd,xe,xf,xg,xh] σ r=q.g A xa xb xc xd xe xf xg xh σ r:=rfl
theorem W_q{P:Program}{GL:Globs}{xs:List AVal}{f:FuncId}{n:Nat}{g:GFun}{v:AVal}(h:PCall P GL f xs v)(hg:GOk P GL f n g){σ:List ABlk}{Z:PZ}{K:AVal→List ABlk→Prop}(hK:K v σ)(hro:roL xs=true:=by rfl):(W P GL Z).call (.call f) xs σ K:=Yad h rfl hg.plain hro hK
theorem Xc8{P:Program}{GL:Globs}{xs:List AVal}{f:FuncId}{n:Nat}{g:GFun}{v:AVal}(h:PCall P GL f xs v)(hg:GOk P GL f n g){σ:List ABlk}{Z:PZ}{K:AVal→List Nat×List Nat→List ABlk→Prop}(hK:K v ([],[]) σ)(hro:roL xs=true:=by rfl):(W P GL Z).dcall (.call f) xs σ K:=Qcd h rfl hg.plain hro hK
end Go.Ah
end
section
namespace Go.Ah.Tz
open Go.Proofs.Tryz (prog)
set_option maxRecDepth 100000
theorem ld{σ:List ABlk}{b j n:Nat}{agg:Bool}{row:List AVal}{v:AVal}(hb:hget σ b=.box row)(hv:partA agg j n row=some v):YT agg n [.bptr b j] σ=.ok v [b] []:=by
 rw[YcL,hb]; simp only[hv]
theorem stv{σ:List ABlk}{b j n:Nat}{x:AVal}{cs row row':List AVal}(hb:hget σ b=.box row)(hc:cellsOf x=some cs)(hn:Nat.beq cs.length n=true)(hs:splice j cs row=some row'):Yn n [.bptr b j,x] σ=.ok .junk [] [(b,.box row')]:=by
 rw[Zcp,hb]; simp only[hc,hn,cond_true,hs]
theorem ldr{σ:List ABlk}{j n:Nat}{agg:Bool}{row:List AVal}{v:AVal}(hv:partA agg j n row=some v):YT agg n [.rptr row j] σ=.ok v [] []:=by
 rw[XcL,hv]
theorem b_len{σ:List ABlk}(e n:Bool)(s:Nat)(rows:List (List AVal)):QG [.rsl e n s rows] σ=.ok (iv rows.length) [] []:=rfl
theorem Qe{α:Type}{σ:List ABlk}(e n:Bool)(s:Nat)(f:α→List AVal)(l:List α):QG [.rsl e n s (l.map f)] σ=.ok (iv l.length) [] []:=by
 rw[b_len,List.length_map]
theorem Xaq{α:Type}{σ:List ABlk}(f:α→List AVal)(e n:Bool)(s:Nat)(l:List α)(k:IntKind)(i:Nat)(h:i<l.length):Xl s [.rsl e n s (l.map f),.int k (i:Int)] σ=.ok (.rptr (f l[i]) 0) [] []:=e_ixM σ f e n s l k i h
theorem Zj{σ:List ABlk}{b j n:Nat}{agg:Bool}{row:List AVal}{v:AVal}(hb:hget σ b=.box row)(hv:partA agg j n row=some v):Zg agg n [.bptr b j] σ=.ok v [b] []:=ld hb hv
theorem Yu{σ:List ABlk}{j n:Nat}{agg:Bool}{row:List AVal}{v:AVal}(hv:partA agg j n row=some v):Zg agg n [.rptr row j] σ=.ok v [] []:=ldr (σ:=σ) hv
theorem Qv{f:(KTs)→Prop}{k:KTs}(h:f k):joinK f k:=by unfold joinK; exact h
attribute [local irreducible] Ans.rd Ans.pu Ans.wr Ans.dr Ans.gr Ans.gw Ans.gl Ans.gd Ans.opt joinK W
set_option maxHeartbeats 8000000
theorem c49(a b:List Int)(ha:a.length<4611686018427387904):PC 49 [rowV a,rowV b] (.bool (decide (a=b))):=by
 refine Xo hP g49.ok rfl rfl ?_;rw[H2.e]; unfold g49; dsimp only; simp only[Yb];refine Za (Qe ..) (Za (Qe ..) (Za (Qaz ..) (Zd (λh=>?_) (λh=>?_))))
 ·simp at h; refine congrArg AVal.bool (YDF ?_).symm; rintro rfl; exact h rfl
 have hl:a.length=b.length:=by simp at h; omega
 refine Xp (ι:=Nat) (λi vs s=>vs=[iv i]∧i≤a.length∧a.take i=b.take i) (λi=>a.length-i) 0 ⟨rfl,by omega,by simp⟩ ?_;rintro i vs s again ⟨rfl,hi,ht⟩ hag;refine Za (Qe ..) (Za (Qn ..) ?_);refine Zd (λh=>?_) (λh=>?_)
 ·have h:i<a.length:=by simpa using h
  refine Za (Xaq cel false false 1 a .i64 i h) (Za (v:=iv a[i]) (Yu rfl) (Za (Xaq cel false false 1 b .i64 i (by omega)) (Za (v:=iv b[i]) (Yu rfl) (Za (Qaz ..) (Zd (λhne=>?_) (λhe=>?_))))))
  ·refine congrArg AVal.bool (YDF λe=>?_).symm;subst e; simp at hne
  ·refine Za (Xr ..) ?_;rw[Zh (n:=i) (by omega)];refine hag (i+1) _ _ (by omega) ⟨rfl,by omega,?_⟩;rw[List.take_succ_eq_append_getElem h,List.take_succ_eq_append_getElem (by omega),ht,show a[i]=b[i] by simpa using he]
 ·have h:i=a.length:=by simp at h; omega
  subst h;rw[List.take_length,hl,List.take_length] at ht;exact congrArg AVal.bool (YDT ht).symm
def sameA(a b:Ac):Bool:=!(((((decide (a.op≠b.op)||decide (a.side≠b.side))||decide (a.place≠b.place))||decide (a.target≠b.target)) || !decide (a.ids=b.ids))||decide ((a.prs.length:Int)≠b.prs.length))&&decide (a.prs=b.prs)
theorem Zcy(a b:Ac):sameA a b=true↔a=b:=by
 cases a; cases b;simp only[sameA,Ac.mk.injEq,Bool.and_eq_true,Bool.not_eq_true',Bool.or_eq_false_iff,YDN,YDE,Bool.not_eq_false',ne_eq,Decidable.not_not];constructor
 ·rintro⟨⟨⟨⟨⟨⟨h1,h2⟩,h3⟩,h4⟩,h5⟩,_⟩,h6⟩;exact⟨h1,h2,h3,h4,h5,h6⟩
 ·rintro⟨h1,h2,h3,h4,h5,rfl⟩;exact⟨⟨⟨⟨⟨⟨h1,h2⟩,h3⟩,h4⟩,h5⟩,rfl⟩,rfl⟩
theorem e_eqP(p q:Int×Int)(σ:List ABlk):XaC true [false,false] [.agg (prC p),.agg (prC q)] σ=.ok (.bool (!decide (p=q))) [] []:=by
 have:decide (p=q)=(decide (p.1=q.1)&&decide (p.2=q.2)):=by
  cases p; cases q; simp
 simp[XaC,QK,Xa1,prC,this];rw[Bool.eq_iff_iff]; simp
theorem c50(a b:Ac)(hl:a.ids.length≤1000000000)(hl2:a.prs.length≤1000000000):PC 50 [.agg (acC a),.agg (acC b)] (.bool (sameA a b)):=by
 refine Xo hP g50.ok rfl rfl ?_;rw[H2.e]; unfold g50; dsimp only; unfold l50; simp only[Yb,Qo];refine Xd (v:=.bptr 0 0) (rd:=[]) (up:=[(0,.box (acC a))]) rfl rfl ?_;refine Xd (v:=.bptr 1 0) (rd:=[]) (up:=[(1,.box (acC b))]) rfl rfl ?_;refine Za rfl (Za rfl (Za rfl (Za rfl (Za (Qaz ..) ?_))));refine QcC (λ_=>rfl) (λ_=>rfl) (λ_=>rfl) (λ_=>rfl) (λ_=>Qaz ..) ?_;refine QcC (λ_=>rfl) (λ_=>rfl) (λ_=>rfl) (λ_=>rfl) (λ_=>Qaz ..) ?_;refine QcC (λ_=>rfl) (λ_=>rfl) (λ_=>rfl) (λ_=>rfl) (λ_=>Qaz ..) ?_;refine YcD (v2:=rowV a.ids) (v4:=rowV b.ids) (u0:=.bool (decide (a.ids=b.ids))) (λ_=>rfl) (λ_=>rfl) (λ_=>rfl) (λ_=>rfl) (λ_ k hk=>W_q (c49 a.ids b.ids (by omega)) g49.ok hk) (λ_=>rfl) ?_;refine ZcD (v3:=iv a.prs.length) (v6:=iv b.prs.length) (q3:=[]) (q6:=[]) (λ_=>rfl) (λ_=>rfl) (λ_=>Qe ..) (λ_=>rfl) (λ_=>rfl) (λ_=>Qe ..) (λ_=>Qaz ..) ?_;refine Zd (λh=>?_) (λh=>?_)
 ·exact congrArg AVal.bool (by rw[sameA,h]; rfl)
 have hR:sameA a b=decide (a.prs=b.prs):=by rw[sameA,h]; rfl
 have hlen:a.prs.length=b.prs.length:=by
  simp only[Bool.or_eq_false_iff,YDN,ne_eq,Decidable.not_not] at h;omega
 rw[hR];clear hR h;have h0:hget ([]++[ABlk.box (acC a)]++[ABlk.box (acC b)]) 0=.box (acC a):=rfl;have h1:hget ([]++[ABlk.box (acC a)]++[ABlk.box (acC b)]) 1=.box (acC b):=rfl;generalize ([]++[ABlk.box (acC a)]++[ABlk.box (acC b)]:List ABlk)=base at h0 h1 ⊢;refine Xp (ι:=Nat) (λi vs σ=>vs=[iv i]∧σ=base∧i≤a.prs.length∧a.prs.take i=b.prs.take i) (λi=>a.prs.length-i) 0 ⟨rfl,rfl,by omega,by simp⟩ ?_;rintro i vs σ again ⟨rfl,rfl,hi,ht⟩ hag;refine Za rfl (Za (v:=prV a.prs) (Zj h0 rfl) (Za (Qe ..) ?_));refine Za (Qn ..) (Zd (λh=>?_) (λh=>?_))
 ·have h:i<a.prs.length:=by simpa using h
  have hb:i<b.prs.length:=by omega
  refine Za rfl (Za (v:=prV a.prs) (Zj h0 rfl) (Za (Xaq prC false false 2 a.prs .i64 i h) (Za (v:=.agg (prC a.prs[i])) (Yu rfl) ?_)));refine Za rfl (Za (v:=prV b.prs) (Zj h1 rfl) (Za (Xaq prC false false 2 b.prs .i64 i hb) (Za (v:=.agg (prC b.prs[i])) (Yu rfl) ?_)));refine Za (e_eqP ..) (Zd (λhq=>?_) (λhq=>?_))
  ·refine congrArg AVal.bool (Eq.symm (YDF λe=>?_));have:a.prs[i]=b.prs[i]:=by simp only[e]
   simp[this] at hq
  ·have he:a.prs[i]=b.prs[i]:=by simpa using hq
   refine Za (Xr ..) ?_;rw[Zh (n:=i) (by omega)];exact hag (i+1) _ _ (by omega) ⟨rfl,rfl,by omega,by rw[List.take_succ_eq_append_getElem h,List.take_succ_eq_append_getElem hb,ht,he]⟩
 ·have h:i=a.prs.length:=by simp at h; omega
  subst h;rw[List.take_length,hlen,List.take_length] at ht;exact congrArg AVal.bool (YDT ht).symm
def sameD(a b:De):Bool:=((((((((decide (a.kind=b.kind)&&decide (a.game=b.game))&&decide (a.table=b.table))&&(a.fmt==b.fmt))&&((a.n0==b.n0)&&((a.n1==b.n1)&&true)))&&decide (a.d0=b.d0))&&decide (a.d1=b.d1))&&decide (a.dr=b.dr))&&sameA a.ac b.ac)
theorem Ycy(a b:De):sameD a b=true↔a=b:=by
 unfold sameD;simp only[Bool.and_eq_true,Zcy,YDE,beq_iff_eq,and_true];cases a; cases b;simp only[De.mk.injEq];constructor
 ·rintro⟨⟨⟨⟨⟨⟨⟨⟨h1,h2⟩,h3⟩,h4⟩,h5,h6⟩,h7⟩,h8⟩,h9⟩,h10⟩;exact⟨h1,h2,h3,h4,h5,h6,h7,h8,h9,h10⟩
 ·rintro⟨h1,h2,h3,h4,h5,h6,h7,h8,h9,h10⟩;exact⟨⟨⟨⟨⟨⟨⟨⟨h1,h2⟩,h3⟩,h4⟩,h5,h6⟩,h7⟩,h8⟩,h9⟩,h10⟩
structure DeLe (n:Nat) (x:De):Prop where
 d0:x.d0.length≤n
 d1:x.d1.length≤n
 dr:x.dr.length≤n
 ids:x.ac.ids.length≤n
 prs:x.ac.prs.length≤n
theorem c24(a b:De)(hl:DeLe 1000000000 a):PC 24 [.agg (deC a),.agg (deC b)] (.bool (decide (a=b))):=by
 have hR:decide (a=b)=sameD a b:=by rw[Bool.eq_iff_iff,Ycy]; simp
 rw[hR];refine Xo hP k24.ok rfl rfl ?_;rw[H2.e]; unfold k24; dsimp only; simp only[Yb];refine Xd (v:=.bptr 0 0) (rd:=[]) (up:=[(0,.box (deC a))]) rfl rfl ?_;refine Xd (v:=.bptr 1 0) (rd:=[]) (up:=[(1,.box (deC b))]) rfl rfl ?_;refine Za rfl (Za rfl (Za rfl (Za rfl (Za (YB ..) ?_))));refine Qax (λ_=>rfl) (λ_=>rfl) (λ_=>rfl) (λ_=>rfl) (λ_=>YB ..) ?_;refine Qax (λ_=>rfl) (λ_=>rfl) (λ_=>rfl) (λ_=>rfl) (λ_=>YB ..) ?_;refine Qax (λ_=>rfl) (λ_=>rfl) (λ_=>rfl) (λ_=>rfl) (λ_=>Ya1 ..) ?_;refine Qax (d:=(a.n0==b.n0)&&((a.n1==b.n1)&&true)) (λ_=>rfl) (λ_=>rfl) (λ_=>rfl) (λ_=>rfl) (λ_=>rfl) ?_;refine Zbz (v3:=rowV a.d0) (v6:=rowV b.d0) (d:=decide (a.d0=b.d0)) (λ_=>rfl) (λ_=>rfl) (λ_=>rfl) (λ_=>rfl) (λ_=>rfl) (λ_=>rfl) (λ_ k hk=>W_q (c49 a.d0 b.d0 (by have:=hl.d0; omega)) g49.ok hk) ?_;refine Zbz (v3:=rowV a.d1) (v6:=rowV b.d1) (d:=decide (a.d1=b.d1)) (λ_=>rfl) (λ_=>rfl) (λ_=>rfl) (λ_=>rfl) (λ_=>rfl) (λ_=>rfl) (λ_ k hk=>W_q (c49 a.d1 b.d1 (by have:=hl.d1; omega)) g49.ok hk) ?_;refine Qby (v2:=rowV a.dr) (v4:=rowV b.dr) (d:=decide (a.dr=b.dr)) (λ_=>rfl) (λ_=>rfl) (λ_=>rfl) (λ_=>rfl) (λ_ k hk=>W_q (c49 a.dr b.dr (by have:=hl.dr; omega)) g49.ok hk) ?_;refine Qby (v2:=.agg (acC a.ac)) (v4:=.agg (acC b.ac)) (d:=sameA a.ac b.ac) (λ_=>rfl) (λ_=>rfl) (λ_=>rfl) (λ_=>rfl) (λ_ k hk=>W_q (c50 a.ac b.ac hl.ids hl.prs) g50.ok hk) ?_;rfl
@[reducible] def deV(l:List De):AVal:=.rsl false false 15 (l.map deC)
theorem c11(a b:List De)(ha:a.length<4611686018427387904)(hl:∀x∈a,DeLe 1000000000 x):PC 11 [deV a,deV b] (.bool (decide (a=b))):=by
 refine Xo hP k11.ok rfl rfl ?_;rw[H2.e]; unfold k11; dsimp only; simp only[Yb,Qo];refine Za (Qe ..) (Za (Qe ..) (Za (Qaz ..) (Zd (λh=>?_) (λh=>?_))))
 ·simp at h; refine congrArg AVal.bool (YDF ?_).symm; rintro rfl; exact h rfl
 have hl':a.length=b.length:=by simp at h; omega
 refine Xp (ι:=Nat) (λi vs s=>vs=[iv i]∧i≤a.length∧a.take i=b.take i) (λi=>a.length-i) 0 ⟨rfl,by omega,by simp⟩ ?_;rintro i vs s again ⟨rfl,hi,ht⟩ hag;refine Za (Qe ..) (Za (Qn ..) ?_);refine Zd (λh=>?_) (λh=>?_)
 ·have h:i<a.length:=by simpa using h
  refine Yf (Xaq deC false false 15 a .i64 i h) rfl (Yf (v:=.agg (deC a[i])) (Yu rfl) rfl (Yf (Xaq deC false false 15 b .i64 i (by omega)) rfl (Yf (v:=.agg (deC b[i])) (Yu rfl) rfl ?_)));refine Xc8 (c24 a[i] b[i] (hl _ (List.getElem_mem h))) g24.ok (Yd (X6 ..) (Xv (by kernel_rfl) (Zd (λhne=>?_) (λhe=>?_))))
  ·refine congrArg AVal.bool (YDF λe=>?_).symm;subst e; simp at hne
  ·refine Za (Xr ..) ?_;rw[Zh (n:=i) (by omega)];refine hag (i+1) _ _ (by omega) ⟨rfl,by omega,?_⟩;rw[List.take_succ_eq_append_getElem h,List.take_succ_eq_append_getElem (by omega),ht,show a[i]=b[i] by simpa using he]
 ·have h:i=a.length:=by simp at h; omega
  subst h;rw[List.take_length,hl',List.take_length] at ht;exact congrArg AVal.bool (YDT ht).symm
theorem aw{A B:Prop}(k:B)(h:B→A:=by intro k; (repeat (first|refine Za rfl ?_|refine Xd rfl rfl ?_|refine YS rfl ?_|refine Yd rfl ?_|refine Yf rfl rfl ?_|refine Xi ?_|refine Qf ?_|refine Ya ?_|refine Qb rfl ?_|refine ZM ?_|refine Zag rfl ?_|refine Xk ?_|refine QbX rfl ?_|refine Qv ?_)); exact k):A:=h k
def Y6(s:List UInt8):Bool:=!(s==[])&&decide ((s.length:Int)≤40)
theorem c63(s:List UInt8):PC 63 [.str s] (.bool (Y6 s)):=by
 refine Xo hP k63.ok rfl rfl ?_;rw[H1.e]; unfold k63; dsimp only; simp only[Yb];refine Za (Xdd ..) ?_;refine Zal (λ_=>rfl) (λ_=>rfl) (λ_=>ZaO ..) ?_;rfl
def m1(x:De):Bool:=decide (0≤x.game)&&decide (0≤x.table)
def m2(x:De):Bool:=decide (x.kind≠1)||(((((((((((decide ((x.fmt.length:Int)≤40)&&Y6 x.n0)&&Y6 x.n1)&&decide ((x.d0.length:Int)≤60))&&decide ((x.d1.length:Int)≤60))&&decide ((x.dr.length:Int)≤256))&&decide (x.ac.op=0))&&decide (x.ac.side=0))&&decide (x.ac.place=0))&&decide (x.ac.target=0))&&decide (IntKind.i64.wrap (x.ac.ids.length+x.ac.prs.length)=0)))
def m3(x:De):Bool:=decide (x.kind=1)||((((decide (x.kind=2)&&decide (x.table=0))&&(x.fmt==[]))&&((x.n0==[])&&((x.n1==[])&&true)))&&decide (IntKind.i64.wrap (IntKind.i64.wrap (x.d0.length+x.d1.length)+x.dr.length)=0))
def mayD(x:De):Bool:=m1 x&&m2 x&&m3 x
@[reducible] def mh(x:De):List ABlk:=[.box (deC x),.box [.bptr 0 9]]
theorem w61(x:De){Z:PZ}{K:KT}(hK:K (.bool (m1 x)) (mh x)):(VV Z).call .callv [.func (.func 61) [] [.bptr 0 0]] (mh x) K:=by
 refine Ze hP rfl k61.ok rfl ?_;show k61.u (VV Z) [.bptr 0 0] (mh x) K;rw[H1.e]; unfold k61; dsimp only; simp only[Yb];refine Za rfl (Za (v:=iv x.game) rfl (Za (Xbd ..) ?_));refine Zal (v2:=iv x.table) (λ_=>rfl) (λ_=>rfl) (λ_=>Xbd ..) ?_;exact hK
theorem w64'(x:De){Z:PZ}{K:KT}(hK:K (.bool (m3 x)) (mh x)):(VV Z).call .callv [.func (.func 64) [] [.bptr 0 0]] (mh x) K:=by
 refine Ze hP rfl k64.ok rfl ?_;show k64.u (VV Z) [.bptr 0 0] (mh x) K;rw[H1.e]; unfold k64; dsimp only; simp only[Yb];refine Za rfl (Za (v:=iv8 x.kind) rfl (Za (YB ..) (Zd (λh=>?_) (λh=>?_))))
 ·rw[show m3 x=true by rw[m3,h]; rfl] at hK; exact hK
 ·refine Za rfl (Za (v:=iv8 x.kind) rfl (Za (YB ..) ?_));refine Zal (v2:=iv x.table) (λ_=>rfl) (λ_=>rfl) (λ_=>YB ..) ?_;refine Zal (v2:=.str x.fmt) (λ_=>rfl) (λ_=>rfl) (λ_=>Ya1 ..) ?_;refine XaU (d:=(x.n0==[])&&((x.n1==[])&&true)) (λ_=>rfl) (λ_=>rfl) (λ_=>rfl) (λ_=>rfl) ?_;cases hc:(((decide (x.kind=2)&&decide (x.table=0))&&(x.fmt==[]))&&((x.n0==[])&&((x.n1==[])&&true)))
  ·refine aw ?_;rw[show m3 x=false by rw[m3,h,hc]; rfl] at hK; exact hK
  ·refine aw ?_;rw[List.length_map,List.length_map,List.length_map];rw[show m3 x=_ by rw[m3,h,hc]] at hK; exact hK
theorem w62(x:De){Z:PZ}{K:KT}(hK:K (.bool (m2 x)) (mh x)):(VV Z).call .callv [.func (.func 62) [] [.bptr 0 0,.bptr 1 0]] (mh x) K:=by
 refine Ze hP rfl k62.ok rfl ?_;show k62.u (VV Z) [.bptr 0 0,.bptr 1 0] (mh x) K;rw[H2.e]; unfold k62; dsimp only; simp only[Yb];refine Za rfl (Za (v:=iv8 x.kind) rfl (Za (Qaz ..) (Zd (λh=>?_) (λh=>?_))))
 ·rw[show m2 x=true by rw[m2,h]; rfl] at hK; exact hK
 refine Yd rfl (Yf (v:=.str x.fmt) rfl rfl (Yd rfl (Yd (ZaO ..) ?_)));cases h1:decide ((x.fmt.length:Int)≤40)
 ·refine aw (Xv (by kernel_rfl) ?_); rw[show m2 x=false by rw[m2,h,h1]; rfl] at hK; exact hK
 refine aw (Xc8 (c63 x.n0) g63.ok (Yd rfl ?_));cases h2:Y6 x.n0
 ·refine aw (Xv (by kernel_rfl) ?_); rw[show m2 x=false by rw[m2,h,h1,h2]; rfl] at hK; exact hK
 refine aw (Xc8 (c63 x.n1) g63.ok (Yd rfl ?_));cases h3:Y6 x.n1
 ·refine aw (Xv (by kernel_rfl) ?_); rw[show m2 x=false by rw[m2,h,h1,h2,h3]; rfl] at hK; exact hK
 refine Ya (Yd rfl (Ya (Yd rfl (Xk (Yf (v:=rowV x.d0) rfl rfl (Ya (Yd (Qe ..) (Ya (Yd (ZaO ..) (Yd rfl ?_))))))))));cases h4:decide ((x.d0.length:Int)≤60)
 ·refine aw (Xv (by kernel_rfl) ?_); rw[show m2 x=false by rw[m2,h,h1,h2,h3,h4]; rfl] at hK; exact hK
 refine Ya (Yd rfl (Ya (Yd rfl (Xk (Yf (v:=rowV x.d1) rfl rfl (Ya (Yd (Qe ..) (Ya (Yd (ZaO ..) (Yd rfl ?_))))))))));cases h5:decide ((x.d1.length:Int)≤60)
 ·refine aw (Xv (by kernel_rfl) ?_); rw[show m2 x=false by rw[m2,h,h1,h2,h3,h4,h5]; rfl] at hK; exact hK
 refine Ya (Yd rfl (Xk (Yf (v:=rowV x.dr) rfl rfl (Ya (Yd (Qe ..) (Ya (Yd (ZaO ..) (Yd rfl ?_))))))));cases h6:decide ((x.dr.length:Int)≤256)
 ·refine aw (Xv (by kernel_rfl) ?_); rw[show m2 x=false by rw[m2,h,h1,h2,h3,h4,h5,h6]; rfl] at hK; exact hK
 refine Xk (Yf (v:=.bptr 0 9) rfl rfl (Ya (Yd rfl (Ya (Yd rfl (Xk (Yf (v:=iv8 x.ac.op) rfl rfl (Ya (Yd (YB ..) (Yd rfl ?_))))))))));cases h7:decide (x.ac.op=0)
 ·refine aw (Xv (by kernel_rfl) ?_); rw[show m2 x=false by rw[m2,h,h1,h2,h3,h4,h5,h6,h7]; rfl] at hK; exact hK
 refine Xk (Yf (v:=.bptr 0 9) rfl rfl (Ya (Yd rfl (Ya (Yd rfl (Xk (Yf (v:=iv x.ac.side) rfl rfl (Ya (Yd (YB ..) (Yd rfl ?_))))))))));cases h8:decide (x.ac.side=0)
 ·refine aw (Xv (by kernel_rfl) ?_); rw[show m2 x=false by rw[m2,h,h1,h2,h3,h4,h5,h6,h7,h8]; rfl] at hK; exact hK
 refine Xk (Yf (v:=.bptr 0 9) rfl rfl (Ya (Yd rfl (Ya (Yd rfl (Xk (Yf (v:=iv x.ac.place) rfl rfl (Ya (Yd (YB ..) (Yd rfl ?_))))))))));cases h9:decide (x.ac.place=0)
 ·refine aw (Xv (by kernel_rfl) ?_); rw[show m2 x=false by rw[m2,h,h1,h2,h3,h4,h5,h6,h7,h8,h9]; rfl] at hK; exact hK
 refine Xk (Yf (v:=.bptr 0 9) rfl rfl (Ya (Yd rfl (Ya (Yd rfl (Xk (Yf (v:=iv x.ac.target) rfl rfl (Ya (Yd (YB ..) (Yd rfl ?_))))))))));cases h10:decide (x.ac.target=0)
 ·refine aw (Xv (by kernel_rfl) ?_); rw[show m2 x=false by rw[m2,h,h1,h2,h3,h4,h5,h6,h7,h8,h9,h10]; rfl] at hK; exact hK
 refine Xk (Yf (v:=.bptr 0 9) rfl rfl (Ya (Yd rfl (Ya (Yd rfl (Xk (Yf (v:=rowV x.ac.ids) rfl rfl (Ya (Yd (Qe ..) ?_)))))))));refine Xk (Yf (v:=.bptr 0 9) rfl rfl (Ya (Yd rfl (Ya (Yd rfl (Xk (Yf (v:=prV x.ac.prs) rfl rfl (Ya (Yd (Qe ..) ?_)))))))));refine Ya (Yd (Xr ..) (Ya (Yd (YB ..) (Yd rfl (Xv (by kernel_rfl) ?_)))));rw[show m2 x=_ by rw[m2,h,h1,h2,h3,h4,h5,h6,h7,h8,h9,h10]] at hK; exact hK
theorem c32(x:De):PC 32 [.agg (deC x)] (.bool (mayD x)):=by
 refine Xo hP k32.ok rfl rfl ?_;rw[H1.e]; unfold k32; dsimp only; simp only[Yb,Qo];refine Xd (v:=.bptr 0 0) (rd:=[]) (up:=[(0,.box (deC x))]) rfl rfl (Za rfl (Xd rfl rfl (Xd rfl rfl ?_)));refine Za rfl (Za rfl (Za rfl (Za rfl (Qac 4 (Ys ?_)))));refine Za rfl (Xi (Za rfl (w61 x (Za (X6 ..) ?_))));cases h1:m1 x
 ·refine Xi ?_; rw[mayD,h1]; rfl
 refine Qf (Za rfl (Ys (Za rfl (Xi (Za rfl (w62 x (Za (X6 ..) ?_)))))));cases h2:m2 x
 ·refine Xi ?_; rw[mayD,h1,h2]; rfl
 refine Qf (Za rfl (Ys (Za rfl (Xi (Za rfl (w64' x (Za (X6 ..) ?_)))))));cases h3:m3 x
 ·refine Xi ?_; rw[mayD,h1,h2,h3]; rfl
 refine Qf (Za rfl (Ys (Za rfl (Qf ?_))));rw[mayD,h1,h2,h3]; rfl
def Grows(n:Nat)(rows:List (List AVal))(k:Nat)(v:AVal)(σ:List ABlk):Prop:=
 (k=0∧v=.nils∧rows=[])∨(0<k∧∃b,v=.sl b 0 k false∧hget σ b=.rows n rows∧rows.length=k)
theorem Grows.nil(n:Nat)(σ:List ABlk):Grows n [] 0 .nils σ:=.inl ⟨rfl,rfl,rfl⟩
theorem Grows.app{α:Type}(A:Ans α){hold:α→Prop}{n by_ k:Nat}{rows:List (List AVal)}{v:AVal}{σ:List ABlk}{row:List AVal}(hg:Grows n rows k v σ)(hr:row.all AVal.cell=true)(hroom:(2*(k+1)+192)*by_≤2 ^ 48)(K:AVal→List ABlk→α)
 (hK:∀v' σ',Grows n (rows++[row]) (k+1) v' σ'→hold (K v' σ')):hold (A.wr (Yh n by_ [v,.sl σ.length 0 1 true] (σ++[.rows n [row]])) (σ++[.rows n [row]]) K):=by
 rcases hg with ⟨rfl,rfl,rfl⟩|⟨hk,b,rfl,hb,hl⟩
 ·rw[QbL A n by_ σ row hr (by simpa using hroom)];exact hK _ _ (.inr ⟨by omega,_,rfl,by have:=Zc (σ++[.rows n [row]]) (.rows n [row]); simpa using this,rfl⟩)
 ·rw[Zci A n by_ σ b k false rows row hb hl hr hroom];refine hK _ _ (.inr ⟨by omega,_,rfl,?_,by simp[hl]⟩);have:=Zc (σ.set b .dead++[.rows n [row]]) (.rows n (rows++[row]));simpa using this
theorem ZbY{P:Program}{GL:Globs}{Z:PZ}{σ:List ABlk}{z:List AVal}{n:Nat}{x:AVal}{row row':List AVal}{K:AVal→KT}(hc:cellsOf x=some row)(hn:Nat.beq row.length n=true)(hs:splice 0 row z=some row')
 (hK:K (.bptr σ.length 0) .junk (σ++[.box row'])):(W P GL Z).wr (ZC z [] σ) σ (λt σ'=>(W P GL Z).wr (Yn n [t,x] σ') σ' (K t)):=by
 refine Xd (Yz σ z) (Yi _ _) (Xd (stv (Zc _ _) hc hn hs) (Zb _ (by simp)) ?_);have:(σ++[ABlk.box z]).set σ.length (.box row')=σ++[.box row']:=by
  rw[List.set_append_right _ _ (Nat.le_refl _)]; simp
 rw[this]; exact hK
def BX(σ σ':List ABlk):Prop:=∀c r,hget σ c=.box r→hget σ' c=.box r
theorem BX.trans{a b c:List ABlk}(h:BX a b)(k:BX b c):BX a c:=λx r e=>k x r (h x r e)
theorem BX.app(σ l:List ABlk):BX σ (σ++l):=λ_ _ h=>Qd l h
theorem Grows.more{n k:Nat}{rows:List (List AVal)}{v:AVal}{σ:List ABlk}(h:Grows n rows k v σ)(l:List ABlk):Grows n rows k v (σ++l):=by
 rcases h with h|⟨h1,b,h2,h3,h4⟩
 ·exact .inl h
 ·exact .inr ⟨h1,b,h2,Qd l h3,h4⟩
theorem Grows.app'{α:Type}(A:Ans α){hold:α→Prop}{n by_ k:Nat}{rows:List (List AVal)}{v:AVal}{σ:List ABlk}{row:List AVal}(hg:Grows n rows k v σ)(hr:row.all AVal.cell=true)(hroom:(2*(k+1)+192)*by_≤2 ^ 48)(K:AVal→List ABlk→α)
 (hK:∀v' σ',BX σ σ'→Grows n (rows++[row]) (k+1) v' σ'→hold (K v' σ')):hold (A.wr (Yh n by_ [v,.sl σ.length 0 1 true] (σ++[.rows n [row]])) (σ++[.rows n [row]]) K):=by
 rcases hg with ⟨rfl,rfl,rfl⟩|⟨hk,b,rfl,hb,hl⟩
 ·rw[QbL A n by_ σ row hr (by simpa using hroom)];exact hK _ _ ((BX.app _ _).trans (BX.app _ _)) (.inr ⟨by omega,_,rfl,by have:=Zc (σ++[.rows n [row]]) (.rows n [row]); simpa using this,rfl⟩)
 ·rw[Zci A n by_ σ b k false rows row hb hl hr hroom];refine hK _ _ (BX.trans (λc r hc=>?_) ((BX.app (σ.set b .dead) _).trans (BX.app _ _))) (.inr ⟨by omega,_,rfl,?_,by simp[hl]⟩)
  ·refine Xb hc (by simp) ?_;rintro rfl;rw[hb] at hc; cases hc
  ·have:=Zc (σ.set b .dead++[.rows n [row]]) (.rows n (rows++[row]));simpa using this
def okAt(y:De)(i:Nat)(x:De):Bool:=(mayD x&&decide (x.game=y.game))&&(decide (x.kind=1)==decide ((i:Int)=0))
theorem w31(i:Nat)(x y:De)(l:List De)(hl:0<l.length)(hy:l[0]=y){σ:List ABlk}(hb:hget σ 0=.box [deV l]){Z:PZ}{K:KT}(hK:K (.tup [.bool true,.bool (okAt y i x)]) (σ++[.box (deC x)])) :
  (VV Z).call .callv [.func (.func 31) [] [.bptr 0 0],iv i,.agg (deC x)] σ K:=by
 refine Ze hP rfl k31.ok rfl ?_;show k31.u (VV Z) [iv i,.agg (deC x),.bptr 0 0] σ K;rw[H3.e]; unfold k31; dsimp only; simp only[Yb];refine Xd (v:=.bptr σ.length 0) (rd:=[]) (up:=[(σ.length,.box (deC x))]) rfl (Yi _ _) ?_;have h1:=Zc σ (.box (deC x));have h0:=Qd [ABlk.box (deC x)] hb;generalize hn:σ.length=n at h1;generalize σ++[ABlk.box (deC x)]=τ at *;refine Yf (v:=.agg (deC x)) (Zj h1 rfl) rfl (Xc8 (c32 x) g32.ok ?_);cases q1:mayD x
 ·refine aw (Xv (by kernel_rfl) ?_); rw[show okAt y i x=false by rw[okAt,q1]; rfl] at hK; exact hK
 refine Ya (Yd rfl (Xk (Yf (v:=iv x.game) (Zj h1 rfl) rfl (Xk (Yf (v:=deV l) (Zj h0 rfl) rfl ?_)))));have hix:=Xaq (σ:=τ) deC false false 15 l .i64 0 hl;rw[hy] at hix;refine Xk (Yf hix rfl (Ya (Yd rfl (Xk (Yf (v:=iv y.game) (Yu rfl) rfl (Ya (Yd (YB ..) (Yd rfl ?_))))))));cases q2:decide (x.game=y.game)
 ·refine aw (Xv (by kernel_rfl) ?_); rw[show okAt y i x=false by rw[okAt,q1,q2]; rfl] at hK; exact hK
 refine Ya (Yd rfl (Xk (Yf (v:=iv8 x.kind) (Zj h1 rfl) rfl (Ya (Yd (YB ..) ?_)))));refine Ya (Yd rfl (Ya (Yd (YB ..) (Ya (Yd (Ydc ..) (Yd rfl (Xv (by kernel_rfl) ?_)))))));rw[show okAt y i x=_ by rw[okAt,q1,q2]] at hK; exact hK
def oneB(l:List De):Bool:=decide (0<l.length∧∀(i:Nat) (h:i<l.length),okAt (l.headD default) i l[i]=true)
theorem c17(l:List De)(hl:l.length≤1000000000):PC 17 [deV l] (.bool (oneB l)):=by
 refine Xo hP k17.ok rfl rfl ?_;rw[H1.e]; unfold k17; dsimp only; simp only[Yb];refine Xd (v:=.bptr 0 0) (rd:=[]) (up:=[(0,.box [deV l])]) rfl rfl (Za (v:=deV l) rfl (Za rfl ?_));refine Ze hP rfl k30.ok rfl ?_;show k30.u (VV noZ) [deV l,.func (.func 31) [] [.bptr 0 0]] [.box [deV l]] _;rw[H2.e]; unfold k30; dsimp only; simp only[Yb,Qo];refine Za (Qe ..) ?_;refine Xp (ι:=Nat) (λi vs σ=>∃v,vs=[iv i,v]∧i≤l.length∧hget σ 0=.box [deV l]∧Grows 1 (List.replicate i [.bool true]) i v σ∧∀j (h:j<l.length),j<i→okAt (l.headD default) j l[j]=true) (λi=>l.length-i) 0 ⟨.nils,rfl,by omega,rfl,Grows.nil _ _,by intros; omega⟩ ?_;rintro i vs σ again ⟨v,rfl,hi,hb,hg,hok⟩ hag;refine Za (Qn ..) (Zd (λh=>?_) (λh=>?_))
 ·have h:i<l.length:=by simpa using h
  refine Za (Xaq deC false false 15 l .i64 i h) (Za (v:=.agg (deC l[i])) (Yu rfl) (ZbY (row:=deC l[i]) rfl rfl rfl ?_));refine Za (v:=.agg (deC l[i])) (Zj (Zc _ _) rfl) ?_;have hb':=Qd [ABlk.box (deC l[i])] hb;have hy:l[0]=l.headD default:=by cases l<;>simp_all
  refine w31 i l[i] (l.headD default) l (by omega) hy hb' ?_;refine Za rfl (Za rfl (Za (X6 ..) ?_));cases q:okAt (l.headD default) i l[i]
  ·refine Xi (Za rfl (Za rfl (aw ?_)));refine congrArg AVal.bool (YDF λe=>?_).symm;have:=e.2 i h;rw[q] at this; cases this
  ·refine Qf ?_;rw[Qcj _ _ _ _ _ [.bool true] rfl rfl];refine((hg.more _).more _).app' _ (hold:=λp=>p) rfl (by omega) _ (λv' σ' hbx hg'=>?_);refine Za (Xr ..) ?_;rw[Zh (n:=i) (by omega)];refine hag (i+1) _ _ (by omega) ⟨v',rfl,by omega,hbx _ _ (Qd _ hb'),by rw[List.replicate_succ']; exact hg',λj hj hji=>?_⟩;by_cases e:j=i
   ·subst e; exact q
   ·exact hok j hj (by omega)
 ·have h:i=l.length:=by simp at h; omega
  refine Za rfl (Za rfl (Ya (Za (v:=deV l) (Zj hb rfl) (Ya (Za (Qe ..) (Ya (Za (ZW ..) (Za rfl ?_))))))));refine congrArg AVal.bool ?_;rw[Bool.eq_iff_iff];simp only[Bool.true_and,oneB,YDE];constructor
  ·intro q; exact⟨by omega,λj hj=>hok j hj (by omega)⟩
  ·intro q; omega
theorem XQ:∀ {rs:List (List AVal)},(∀r∈rs,r.all AVal.cell=true)→Zx rs=true
 |[],_=>rfl
 |r::rs,h=>by simp only[Zx,Bool.and_eq_true]; exact⟨h r (by simp),XQ λx hx=>h x (by simp[hx])⟩
theorem Zba(l:List UInt8):Zx (l.map byC)=true:=XQ λr hr=>by obtain⟨x,_,rfl⟩:=List.mem_map.1 hr; rfl
theorem QcU(n:Int):IntKind.u64.wrap n=(m64 n:Int):=by
 simp[IntKind.wrap,IntKind.bits,IntKind.signed,m64]; omega
theorem ZaW(n:Nat):IntKind.u8.wrap (n:Int)=((n%256:Nat):Int):=by
 simp[IntKind.wrap,IntKind.bits,IntKind.signed]
theorem X7(n:Int)(i k:Nat)(hk:k=56-8*i):IntKind.u8.wrap ((IntKind.u64.wrap n).fdiv (2 ^ k))=((by8 n i).toNat:Int):=by
 subst hk;have:((m64 n:Int)).fdiv (2 ^ (56-8*i))=((m64 n/2 ^ (56-8*i):Nat):Int):=by
  rw[Int.fdiv_eq_ediv_of_nonneg _ (by exact Int.le_of_lt (Int.pow_pos (by decide)))]
  push_cast; rfl
 rw[QcU,this,ZaW];simp[by8]
def GB(bs:List UInt8)(v:AVal)(σ:List ABlk):Prop:=(v=.nils∧bs=[])∨∃b ex,v=.sl b 0 bs.length ex∧hget σ b=.rows 1 (bs.map byC)
def Kp(v:AVal)(σ σ':List ABlk):Prop:=σ.length≤σ'.length∧∀c,hget σ c≠.dead→(∀o n e,v≠.sl c o n e)→hget σ' c=hget σ c
def upsOf(v:AVal)(n:Nat):List Nat:=match v with
 |.sl b _ _ _=>[b,n]
 |_=>[n]
theorem GB.upd{bs cs:List UInt8}{v y:AVal}{σ:List ABlk}{rd:List Nat}(h:GB bs v σ)(hs:Zp 1 σ y=some (cs.map byC,rd))(hroom:bs.length+cs.length≤1000000000) :
  ∃v' up σ',Yh 1 1 [v,y] σ=.ok v' rd up∧upL σ up=some σ'∧Kp v σ σ'∧GB (bs++cs) v' σ'∧up.map (·.1)=upsOf v σ.length∧v'=.sl σ.length 0 (bs++cs).length false:=by
 have hb:Nat.ble ((2*(bs.length+cs.length)+192)*1) (2 ^ 48)=true:=Nat.ble_eq_true_of_le (by omega);rcases h with ⟨rfl,rfl⟩|⟨b,ex,rfl,hg⟩
 ·refine⟨.sl σ.length 0 cs.length false,[(σ.length,.rows 1 (cs.map byC))],σ++[.rows 1 (cs.map byC)],?_,Yi _ _,⟨by simp,λc hc _=>Qd _ rfl hc⟩,.inr ⟨_,false,rfl,Zc _ _⟩,rfl,rfl⟩;show Zn 1 1 σ [] [] y=_;unfold Zn;have hb2:Nat.ble ((2*cs.length+192)*1) (2 ^ 48)=true:=Nat.ble_eq_true_of_le (by simp at hroom; omega);simp only[hs,Zba,List.length_map,List.length_nil,Nat.zero_add,hb2,Bool.and_self,cond_true,List.nil_append]
 ·refine⟨.sl σ.length 0 (bs++cs).length false,[(b,.dead)]++[(σ.length,.rows 1 ((bs++cs).map byC))],σ.set b .dead++[.rows 1 ((bs++cs).map byC)],?_,Zah _ _ (Qa hg),⟨by simp,λc hc hn=>?_⟩,.inr ⟨_,false,rfl,?_⟩,rfl,rfl⟩
  ·have:Yh 1 1 [.sl b 0 bs.length ex,y] σ=Zn 1 1 σ (bs.map byC) [(b,.dead)] y:=by
    simp[Yh,X5,hg]
   rw[this];unfold Zn;simp only[hs,Zba,List.length_map,hb,Bool.and_self,cond_true,List.length_append,List.map_append]
  ·refine(Qd _ (Xb rfl hc ?_) hc);rintro rfl; exact hn _ _ _ rfl
  ·have:=Zc (σ.set b .dead) (.rows 1 ((bs++cs).map byC));simpa using this
theorem GB.app{bs cs:List UInt8}{v y:AVal}{σ:List ABlk}{rd:List Nat}{Z:PZ}{K:KT}(h:GB bs v σ)(hs:Zp 1 σ y=some (cs.map byC,rd))(hroom:bs.length+cs.length≤1000000000)
 (hK:∀v' σ',Kp v σ σ'→GB (bs++cs) v' σ'→K v' σ'):(VV Z).wr (Yh 1 1 [v,y] σ) σ K:=by
 obtain⟨v',up,σ',h1,h2,h3,h4,_⟩:=h.upd hs hroom;exact Xd h1 h2 (hK _ _ h3 h4)
theorem ax{A B:Prop}(k:B)(h:B→A:=by intro k; (repeat (first|refine Za rfl ?_|refine Xd rfl rfl ?_|refine Xi ?_|refine Qf ?_|refine Ys ?_)); exact k):A:=h k
theorem c33(n:Int):NCall prog GL0 33 [iv n] (.sl 0 0 8 true) [.rows 1 ((n8 n).map byC)]:=by
 refine Xa5 hP k33.ok rfl ?_;rw[H1.e]; unfold k33; dsimp only; simp only[Yb,Qh];refine Xd rfl rfl (Za rfl (Qac 9 ?_));refine ax ?_;refine⟨rfl,?_⟩;simp only[n8,show List.range 8=[0,1,2,3,4,5,6,7] from rfl,List.map_cons,List.map_nil,byC];rw[←X7 n 0 56 rfl,←X7 n 1 48 rfl,←X7 n 2 40 rfl,←X7 n 3 32 rfl,←X7 n 4 24 rfl,←X7 n 5 16 rfl,←X7 n 6 8 rfl,←X7 n 7 0 rfl];rfl
theorem ZJ{σ:List ABlk}{n c k:Nat}{ex2:Bool}{rs2:List (List AVal)}(hc:hget σ c=.rows n rs2)(hl2:rs2.length=k):Zp n σ (.sl c 0 k ex2)=some (rs2,[c]):=by
 simp only[Zp,hc];simp[cut,hl2];rw[show Nat.ble k k=true from Nat.ble_eq_true_of_le (Nat.le_refl _)];simp[←hl2]
theorem by_ro(l:List UInt8):∀r∈l.map byC,roL r=true:=by
 intro r hr;obtain⟨x,_,rfl⟩:=List.mem_map.1 hr; rfl
theorem GB.bor{bs:List UInt8}{v:AVal}{σ:List ABlk}(h:GB bs v σ):∃rd,Bor (hp σ) rd v (byV bs):=by
 rcases h with ⟨rfl,rfl⟩|⟨b,ex,rfl,hb⟩
 ·exact⟨[],Bor.weak (Bor.ro rfl) (λM u d=>d.nils_rsl 1)⟩
 ·exact⟨[b],Bor.own hb (by simp) (by simp) (Zas _ _ (by simp)) (by_ro bs)⟩
theorem GB.more{bs:List UInt8}{v:AVal}{σ:List ABlk}(h:GB bs v σ)(l:List ABlk):GB bs v (σ++l):=by
 rcases h with h|⟨b,ex,h2,h3⟩
 ·exact .inl h
 ·exact .inr ⟨b,ex,h2,Qd l h3⟩
theorem Kp.more{v:AVal}{σ σ':List ABlk}{l:List ABlk}(h:Kp v (σ++l) σ'):Kp v σ σ':=
 ⟨by have:=h.1; simp at this; omega,λc hc hn=>by
  have e:=Qd l (y:=hget σ c) rfl hc;rw[h.2 c (by rw[e]; exact hc) hn,e]⟩
theorem Qak{σ:List ABlk}{e n:Bool}(l:List UInt8):Zp 1 σ (.rsl e n 1 (l.map byC))=some (l.map byC,[]):=by
 simp[Zp]
theorem Ybi{σ:List ABlk}(l:List UInt8):Zp 1 σ (.str l)=some (l.map byC,[]):=rfl
theorem XbG(n:Int):XaF [.rows 1 ((n8 n).map byC)]=true:=rfl
theorem Xbg(n:Int)(k:Nat):QI k [.rows 1 ((n8 n).map byC)]=[.rows 1 ((n8 n).map byC)]:=rfl
theorem w33(n:Int){σ:List ABlk}{Z:PZ}{K:KT}(hK:K (.sl σ.length 0 8 true) (σ++[.rows 1 ((n8 n).map byC)])):(VV Z).call (.call 33) [iv n] σ K:=by
 refine Xcd (c33 n) rfl g33.ok.plain (BorL.ro (rd:=[]) rfl) rfl (XbG n) ?_;rw[Xbg];simp only[AVal.ren,QR,Nat.zero_add];exact hK
theorem Ya5(n:Int){bs:List UInt8}{v:AVal}{σ:List ABlk}{Z:PZ}{K:KT}(h:GB bs v σ)(hroom:bs.length+8≤1000000000)
 (hK:∀v' σ',Kp v σ σ'→GB (bs++n8 n) v' σ'→K v' σ'):(VV Z).call (.call 33) [iv n] σ (λt σ'=>(VV Z).wr (Yh 1 1 [v,t] σ') σ' K):=by
 refine w33 n ((h.more _).app (cs:=n8 n) (ZJ (Zc _ _) (by simp[Xg])) (by rw[Xg]; omega) λv' σ' k1 k2=>hK v' σ' k1.more k2)
def k8(n:Int):UInt8:=UInt8.ofNat (n%256).toNat
theorem Ydf(n:Int):IntKind.u8.wrap n=((k8 n).toNat:Int):=by
 simp[IntKind.wrap,IntKind.bits,IntKind.signed,k8]; omega
def strQ(s:List UInt8):List UInt8:=n8 s.length++s
def begQ(x:De):List UInt8:=n8 x.table++([x.fmt,x.n0,x.n1].flatMap strQ++[x.d0,x.d1,x.dr].flatMap (listQ n8))
def deQ(x:De):List UInt8:=(k8 x.kind::n8 x.game)++(if x.kind=2 then actQ x.ac else begQ x)
theorem XM{n:Int}(h0:0≤n)(h1:n<4611686018427387904):IntKind.i64.wrap n=n:=IntWalk.i64_in _ (by omega)
theorem QbR{x:De}(h:mayD x=true)(hk:¬x.kind=2):x.fmt.length≤40∧x.n0.length≤40∧x.n1.length≤40∧x.d0.length≤60∧x.d1.length≤60∧x.dr.length≤256:=by
 simp only[mayD,m2,m3,Y6,Bool.and_eq_true,Bool.or_eq_true,YDE] at h;obtain⟨⟨_,h2⟩,h3⟩:=h;rcases h3 with h3|h3
 ·rcases h2 with h2|h2
  ·exact(h2 h3).elim
  ·omega
 ·exact(hk h3.1.1.1.1).elim
theorem GB.bx{bs:List UInt8}{v:AVal}{σ σ':List ABlk}(g:GB bs v σ)(k:Kp v σ σ'):BX σ σ':=λc r hc=>by
 rw[k.2 c (by simp[hc]) (λo n e=>by
  rintro rfl;rcases g with ⟨h,_⟩|⟨b,ex,h,hb⟩
  ·cases h
  ·cases h; rw[hb] at hc; cases hc)]
 exact hc
theorem c18(x:De)(h34:PC 34 [.agg (acC x.ac)] (byV (actQ x.ac)))(hl:(actQ x.ac).length≤900000000):PC 18 [.agg (deC x)] (.tup (if mayD x then [byV (deQ x),iv 0] else [.nils,iv 2])):=by
 refine Xn hP k18.ok rfl ?_;rw[H1.e]; unfold k18; dsimp only; simp only[Yb,Qo,Qh];refine Xd (v:=.bptr 0 0) (rd:=[]) (up:=[(0,.box (deC x))]) rfl rfl (Za (v:=.agg (deC x)) rfl ?_);refine W_q (c32 x) g32.ok (Za (X6 ..) ?_);cases hm:mayD x
 ·exact Xi ⟨[],Bor.ro rfl⟩
 refine Qf (Yd rfl (Yf (v:=iv8 x.kind) rfl rfl (Yd (Qk ..) (Yf rfl rfl (Yd rfl (Yf (v:=iv x.game) rfl rfl ?_))))));refine QaZ (c33 x.game) rfl g33.ok.plain (BorL.ro (rd:=[]) rfl) rfl (XbG _) ?_;rw[Xbg,Ydf];have g0:GB [k8 x.kind] (.sl 1 0 1 true) [.box (deC x),.rows 1 [byC (k8 x.kind)],.rows 1 ((n8 x.game).map byC)]:=.inr ⟨1,true,rfl,rfl⟩;obtain⟨v,up,σ,e1,e2,e3,e4,e5,-⟩:=g0.upd (y:=.sl 2 0 8 true) (rd:=[2]) (cs:=n8 x.game) rfl (by simp[Xg]);refine Yf e1 e2 ?_;rw[e5];refine Xv (by kernel_rfl) ?_;have h0:hget σ 0=.box (deC x):=e3.2 0 (by simp[hget]) (by simp);clear e1 e2 e3 e5 g0;refine Za rfl (Za (v:=iv8 x.kind) (Zj h0 rfl) (Za (YB ..) (Zd (λhk=>?_) (λhk=>?_))))
 ·have hk:x.kind=2:=by simpa using hk
  refine Za rfl (Za (v:=.agg (acC x.ac)) (Zj h0 rfl) (W_q h34 g34.ok ?_));refine e4.app (Qak _) (by simp[Xg]; omega) λv' σ' _ g=>?_;obtain⟨rd,hb⟩:=g.bor;refine⟨rd,Bor.tup (.cons ?_ (BorL.ro rfl))⟩;rw[deQ,YIP hk]; exact hb
 have hk:¬x.kind=2:=by simpa using hk
 obtain⟨l1,l2,l3,l4,l5,l6⟩:=QbR hm hk;refine Za rfl (Za (v:=iv x.table) (Zj h0 rfl) (Ya5 _ e4 (by simp[Xg]) λv1 σ1 k1 g1=>?_));have h1:=e4.bx k1 _ _ h0;refine Za rfl (Za (v:=.str x.fmt) (Zj h1 rfl) (Za rfl (Za rfl (Za (v:=.str x.n0) (Zj h1 rfl) (Za rfl (Za rfl (Za (v:=.str x.n1) (Zj h1 rfl) (Za rfl (Qac 4 (Ys ?_))))))))));have z:∀ (a:Nat),(n8 a).length=8:=λa=>Xg a;refine Za rfl (Xi (Za rfl (Za rfl (Ya5 _ g1 (by simp[Xg]) λv2 σ2 k2 g2=>g2.app (Ybi _) (by simp[Xg]; omega) λv3 σ3 k3 g3=>?_))));have h3:=g2.bx k3 _ _ (g1.bx k2 _ _ h1);refine Za rfl (Ys (Za rfl (Xi (Za rfl (Za rfl (Ya5 _ g3 (by simp[Xg]; omega) λv4 σ4 k4 g4=>g4.app (Ybi _) (by simp[Xg]; omega) λv5 σ5 k5 g5=>?_))))));have h5:=g4.bx k5 _ _ (g3.bx k4 _ _ h3);refine Za rfl (Ys (Za rfl (Xi (Za rfl (Za rfl (Ya5 _ g5 (by simp[Xg]; omega) λv6 σ6 k6 g6=>g6.app (Ybi _) (by simp[Xg]; omega) λv7 σ7 k7 g7=>?_))))));have h7:=g6.bx k7 _ _ (g5.bx k6 _ _ h5);refine Za rfl (Ys (Za rfl (Qf ?_)));refine Za rfl (Za rfl (Za (v:=rowV x.d0) (Zj h7 rfl) (Za rfl (Za rfl (Za (v:=rowV x.d1) (Zj h7 rfl) (Za rfl (Za (v:=rowV x.dr) (Zj h7 rfl) (Za rfl ?_))))))));have hpre:∃ pre,pre.length≤1000∧(k8 x.kind :: n8 x.game) ++ (n8 x.table ++ [x.fmt,x.n0,x.n1].flatMap strQ)=pre∧GB pre v7 σ7:=⟨_,by simp[strQ,Xg]; omega,rfl,by
  have e:∀a b c d e f g h:List UInt8,((((((a++b)++c)++d)++e)++f)++g)++h=a++(b++((c++d)++((e++f)++((g++h)++[])))):=by intros; simp
  have:=g7;rw[e] at this;exact this⟩
 obtain⟨pre,hp1,hp2,g⟩:=hpre;have hQ:deQ x=pre++[x.d0,x.d1,x.dr].flatMap (listQ n8):=by rw[deQ,YIN hk,begQ,←hp2]; simp
 rw[hQ];clear hQ hp2 h7 g7 h5 h3 h1 h0;have hls:∀l∈[x.d0,x.d1,x.dr],l.length≤256:=by simp; omega
 have hix:∀(σ:List ABlk) (j:Nat) (l:List Int),[x.d0,x.d1,x.dr][j]?=some l→Qaa false 3 1 [.agg [rowV x.d0,rowV x.d1,rowV x.dr],iv j] σ=.ok (rowV l) [] []:=by
  intro σ j l e
  match j,e with
  |0,e=>cases e; rfl
  |1,e=>cases e; rfl
  |2,e=>cases e; rfl
 generalize hL:[x.d0,x.d1,x.dr]=ls at hls hix;have hlen:ls.length=3:=by rw[←hL]; rfl
 refine Xp (ι:=Nat) (λj vs σ=>∃v bs,vs=[iv j,v]∧j≤3∧bs.length≤1000+3000*j∧bs=pre++(ls.take j).flatMap (listQ n8)∧GB bs v σ) (λj=>3-j) 0 ⟨v7,pre,rfl,by omega,by omega,by simp,g⟩ ?_;rintro j vs τ again ⟨v,bs,rfl,hj,hb1,hb2,hg⟩ hag;refine Za (Qn ..) (Zd (λh=>?_) (λh=>?_))
 ·have h:j<3:=by simp at h; omega
  have hll:=hls ls[j] (List.getElem_mem (by omega));have hixj:=hix τ j ls[j] (by simp);have hls':ls.take (j+1)=ls.take j++[ls[j]]:=by rw[List.take_succ_eq_append_getElem]
  generalize ls[j]=l at hll hixj hls';refine Za hixj (Za (Qe ..) (Ya5 _ hg (by omega) λw1 τ1 _ q1=>?_));refine Za (Qe ..) ?_;refine Xp (ι:=Nat) (λi vs σ=>∃v cs,vs=[iv i,v]∧i≤l.length∧cs.length=bs.length+8+8*i∧cs=(bs++n8 l.length)++(l.take i).flatMap n8∧GB cs v σ) (λi=>l.length-i) 0 ⟨w1,_,rfl,by omega,by simp[Xg],by simp,q1⟩ ?_;rintro i vs τ2 again2 ⟨w2,cs,rfl,hi,hc1,hc2,q2⟩ hag2;refine Za (Qn ..) (Zd (λh'=>?_) (λh'=>?_))
  ·have h':i<l.length:=by simpa using h'
   refine Za (Xaq cel false false 1 l .i64 i h') (Za (v:=iv l[i]) (Yu rfl) (Ya5 _ q2 (by omega) λw3 τ3 _ q3=>?_));refine Za (Xr ..) ?_;rw[Zh (n:=i) (by omega)];exact hag2 (i+1) _ _ (by omega) ⟨w3,_,rfl,by omega,by rw[List.length_append,Xg]; omega,by rw[hc2,List.take_succ_eq_append_getElem h',List.flatMap_append,←List.append_assoc]; simp only[List.flatMap_cons,List.flatMap_nil,List.append_nil],q3⟩
  ·have h':i=l.length:=by simp at h'; omega
   refine Za (Xr ..) ?_;rw[Zh (n:=j) (by omega)];refine hag (j+1) _ _ (by omega) ⟨w2,cs,rfl,by omega,by omega,?_,q2⟩;rw[hc2,hb2,hls',h',List.take_length];simp[listQ]
 ·have h:j=3:=by simp at h; omega
  subst h;rw[show ls.take 3=ls by rw[←hlen,List.take_length]] at hb2;subst hb2;obtain⟨rd,hb⟩:=hg.bor;exact⟨rd,Bor.tup (.cons hb (BorL.ro rfl))⟩
def n4(n:Nat):List UInt8:=[UInt8.ofNat (n/16777216),UInt8.ofNat (n/65536),UInt8.ofNat (n/256),UInt8.ofNat n]
def recQ(x:De):List UInt8:=n4 (deQ x).length++deQ x
theorem Qbd(n k:Nat)(hk:0<k):((n:Nat):Int).fdiv (k:Int)=((n/k:Nat):Int):=by
 rw[Int.fdiv_eq_ediv_of_nonneg _ (by omega)]; push_cast; rfl
theorem Ydg(n:Nat):(n4 n).map byC=[[.int .u8 (IntKind.u8.wrap ((n:Int).fdiv (2 ^ 24)))],[.int .u8 (IntKind.u8.wrap ((n:Int).fdiv (2 ^ 16)))],[.int .u8 (IntKind.u8.wrap ((n:Int).fdiv (2 ^ 8)))],[.int .u8 (IntKind.u8.wrap (n:Int))]]:=by
 have e1:=Qbd n 16777216 (by omega);have e2:=Qbd n 65536 (by omega);have e3:=Qbd n 256 (by omega);rw[show ((2:Int) ^ 24)=((16777216:Nat):Int) from rfl,show ((2:Int) ^ 16)=((65536:Nat):Int) from rfl,show ((2:Int) ^ 8)=((256:Nat):Int) from rfl,e1,e2,e3,ZaW,ZaW,ZaW,ZaW];simp[n4,byC]
theorem YaE{α:Type}(f:α→List UInt8)(l:List α)(i:Nat):((l.take i).flatMap f).length≤(l.flatMap f).length:=by
 conv=>rhs; rw[←List.take_append_drop i l,List.flatMap_append,List.length_append]
 omega
theorem c7(l:List De)(hl:l.length≤1000000000)(h34:∀x∈l,PC 34 [.agg (acC x.ac)] (byV (actQ x.ac)))(ha:∀x∈l,(actQ x.ac).length≤900000000)(hr:(l.flatMap recQ).length≤900000000) :
  PC 7 [deV l] (.tup (if oneB l then [byV (l.flatMap recQ),iv 0] else [.nils,iv 2])):=by
 refine Xn hP k7.ok rfl ?_;rw[H1.e]; unfold k7; dsimp only; simp only[Yb,Qo,Qh];refine W_q (c17 l hl) g17.ok (Za (X6 ..) ?_);cases ho:oneB l
 ·exact Xi ⟨[],Bor.ro rfl⟩
 have hok:∀(i:Nat) (h:i<l.length),mayD l[i]=true:=by
  have:=of_decide_eq_true ho;intro i h;have:=this.2 i h;simp only[okAt,Bool.and_eq_true] at this;exact this.1.1
 refine Qf (Za (Qe ..) ?_);refine Xp (ι:=Nat) (λi vs σ=>∃v bs,vs=[iv i,v]∧i≤l.length∧bs=(l.take i).flatMap recQ∧GB bs v σ) (λi=>l.length-i) 0 ⟨.nils,[],rfl,by omega,rfl,.inl ⟨rfl,rfl⟩⟩ ?_;rintro i vs σ again ⟨v,bs,rfl,hi,hb,hg⟩ hag;refine Za (Qn ..) (Zd (λh=>?_) (λh=>?_))
 ·have h:i<l.length:=by simpa using h
  have hm:=hok i h;have hx:=List.getElem_mem h;have hls:(l.take (i+1)).flatMap recQ=bs++recQ l[i]:=by
   rw[List.take_succ_eq_append_getElem h,List.flatMap_append,hb]; simp only[List.flatMap_cons,List.flatMap_nil,List.append_nil]
  have hle:=YaE recQ l (i+1);rw[hls,List.length_append,recQ,List.length_append] at hle;have hc:=c18 l[i] (h34 _ hx) (ha _ hx);rw[YIP hm] at hc;refine Za (Xaq deC false false 15 l .i64 i h) ?_;generalize l[i]=x at hc hls hle;refine Za (v:=.agg (deC x)) (Yu rfl) (ZbY (row:=deC x) rfl rfl rfl ?_);refine Za (v:=.agg (deC x)) (Zj (Zc _ _) rfl) (W_q hc g18.ok ?_);refine Za rfl (Za rfl (Za rfl (Qf (Za (Qe ..) ?_))));refine Za rfl (Za (Qk ..) (Za rfl (Za (Qk ..) (Za rfl (Za (Qk ..) (Za (Qk ..) ?_))))));have hg1:=hg.more [.box (deC x)];generalize σ++[ABlk.box (deC x)]=σ1 at hg1;refine Xd (v:=.sl σ1.length 0 4 true) (rd:=[]) (up:=[(σ1.length,.rows 1 ((n4 (deQ x).length).map byC))]) (by rw[Ydg]; rfl) (Yi _ _) ?_;have hl4:(n4 (deQ x).length).length=4:=rfl;refine(hg1.more _).app (cs:=n4 (deQ x).length) (ZJ (Zc _ _) (by simp[n4])) (by omega) λv1 σ2 _ g1=>?_;refine g1.app (Qak _) (by rw[List.length_append]; omega) λv2 σ3 _ g2=>?_;refine Za (Xr ..) ?_;rw[Zh (n:=i) (by omega)];exact hag (i+1) _ _ (by omega) ⟨v2,_,rfl,by omega,by rw[hls,recQ,List.append_assoc],g2⟩
 ·have h:i=l.length:=by simp at h; omega
  subst h;rw[List.take_length] at hb;subst hb;obtain⟨rd,hb⟩:=hg.bor;exact⟨rd,Bor.tup (.cons hb (BorL.ro rfl))⟩
def CW(bs:List UInt8)(c:Nat)(σ:List ABlk):Prop:=∃v,hget σ c=.box [v,iv 0,.bool false]∧GB bs v σ
def Aw(c d:Nat)(σ:List ABlk):Prop:=d≠c∧hget σ d≠.dead∧∀v r,hget σ c=.box (v::r)→∀o n e,v≠.sl d o n e
def KC(c:Nat)(σ σ':List ABlk):Prop:=∀d,Aw c d σ→hget σ' d=hget σ d∧Aw c d σ'
theorem KC.trans{c:Nat}{σ σ' σ'':List ABlk}(h:KC c σ σ')(k:KC c σ' σ''):KC c σ σ'':=λd hd=>⟨(k d (h d hd).2).1.trans (h d hd).1,(k d (h d hd).2).2⟩
theorem KC.refl(c:Nat)(σ:List ABlk):KC c σ σ:=λ_ h=>⟨rfl,h⟩
theorem hlt{σ:List ABlk}{b:Nat}(h:hget σ b≠.dead):b<σ.length:=Qa rfl h
theorem CW.new{bs:List UInt8}{c:Nat}{σ:List ABlk}(h:CW bs c σ)(x:ABlk):CW bs c (σ++[x])∧KC c σ (σ++[x])∧(x≠.dead→Aw c σ.length (σ++[x])):=by
 obtain⟨v,hc,hg⟩:=h;have hc':=Qd [x] hc;refine⟨⟨v,hc',hg.more _⟩,λd hd=>⟨Qd _ rfl hd.2.1,hd.1,by rw[Qd _ rfl hd.2.1]; exact hd.2.1,λw r e=>hd.2.2 w r (by rw[hc'] at e; rw[hc]; exact e)⟩,λhx=>⟨?_,by rw[Zc]; exact hx,λw r e o n ex q=>?_⟩⟩
 ·have:=hlt (σ:=σ) (b:=c) (by simp[hc]); omega
 ·rw[hc'] at e;cases e;subst q;rcases hg with ⟨q,_⟩|⟨b,ex',q,hb⟩
  ·cases q
  ·cases q;have:=Qa hb;omega
theorem GB.cell{bs:List UInt8}{v:AVal}{σ:List ABlk}(h:GB bs v σ):cellsOf v=some [v]:=by
 rcases h with ⟨rfl,_⟩|⟨b,ex,rfl,_⟩<;>rfl
theorem Xda{bs:List UInt8}{c y:Nat}{u:UInt8}{σ:List ABlk}{Z:PZ}{K:KT}(h:CW bs c σ)(hy:hget σ y=.box [.int .u8 (u.toNat:Int)])(hcy:y≠c)(room:bs.length+1≤1000000000)
 (hK:∀σ',KC c σ σ'→CW (bs++[u]) c σ'→K (.tup []) σ'):(VV Z).call (.call 108) [.bptr c 0,.bptr y 0] σ K:=by
 obtain⟨v,hc,hg⟩:=h;refine Ze hP rfl k108.ok rfl ?_;show k108.u (VV Z) [.bptr c 0,.bptr y 0] σ K;rw[H2.e]; unfold k108; dsimp only; simp only[Yb,Qo];refine Za rfl (Za rfl (Za (v:=.bool false) (Zj hc rfl) (Za (X6 ..) (Xi ?_))));refine Yd rfl (Yd rfl (Yf (v:=v) (Zj hc rfl) rfl (Yd rfl (Yf (v:=.int .u8 (u.toNat:Int)) (Zj hy rfl) rfl ?_))));refine Yf (v:=.sl σ.length 0 1 true) (rd:=[]) (up:=[(σ.length,.rows 1 [byC u])]) rfl (Yi _ _) ?_;obtain⟨v',up,σ',e1,e2,e3,e4,e5,e6⟩:=(hg.more [.rows 1 [byC u]]).upd (y:=.sl σ.length 0 1 true) (rd:=[σ.length]) (cs:=[u]) (ZJ (Zc _ _) rfl) room;have hclt:=Qa hc;have hylt:=Qa hy;refine Yf e1 e2 ?_;rw[e5];have hne:∀b o n e,v=.sl b o n e→b≠c∧b≠y∧b<σ.length:=by
  rintro b o n e rfl;rcases hg with ⟨q,_⟩|⟨b',ex',q,hb⟩
  ·cases q
  ·cases q;refine⟨?_,?_,Qa hb⟩<;>rintro rfl
   ·rw[hc] at hb; cases hb
   ·rw[hy] at hb; cases hb
 have hc':hget σ' c=.box [v,iv 0,.bool false]:=by
  have q:=Qd [ABlk.rows 1 [byC u]] hc;rw[←q];exact e3.2 c (by rw[q]; simp) (λo n e r=>(hne _ _ _ _ r).1 rfl)
 refine Yd rfl (Yd rfl (Yf (stv (row':=[v',iv 0,.bool false]) hc' e4.cell rfl rfl) (Zb _ (Qa hc')) ?_));refine Xv ?_ ?_
 ·have n1:c≠σ.length:=by omega
  have n2:y≠σ.length:=by omega
  rcases hg with ⟨rfl,_⟩|⟨b,ex,rfl,_⟩
  ·simp[upsOf,Xf,Xj,Yj,Qp,apart2,disj,List.range,List.range.loop,n1,n1.symm,n2,n2.symm,hcy,hcy.symm]
   try omega
  ·obtain⟨m1,m2,m3⟩:=hne _ _ _ _ rfl;have m4:b≠σ.length:=by omega
   simp[upsOf,Xf,Xj,Yj,Qp,apart2,disj,List.range,List.range.loop,n1,n1.symm,n2,n2.symm,m1,m1.symm,m2,m2.symm,m4,m4.symm,hcy,hcy.symm]
   try omega
 ·have hcl:=Qa hc';have hset:hget (σ'.set c (ABlk.box [v',iv 0,.bool false])) c=.box [v',iv 0,.bool false]:=Xq (by simp[hcl]);have hoth:∀d,d≠c→hget σ' d≠.dead→hget (σ'.set c (ABlk.box [v',iv 0,.bool false])) d=hget σ' d:=λd hd hn=>Xb rfl hn (Ne.symm hd);refine hK _ (λd hd=>?_) ⟨v',hset,?_⟩
  ·have hd1:=hlt hd.2.1;have q:=Qd [ABlk.rows 1 [byC u]] (rfl:hget σ d=_) hd.2.1;have q2:hget σ' d=hget σ d:=by
    rw[←q];exact e3.2 d (by rw[q]; exact hd.2.1) (hd.2.2 _ _ hc)
   have q3:=hoth d hd.1 (by rw[q2]; exact hd.2.1);refine⟨q3.trans q2,hd.1,by rw[q3,q2]; exact hd.2.1,λw r e o n ex q4=>?_⟩;rw[hset] at e;cases e;rw[e6] at q4;cases q4;exact absurd hd1 (by simp)
  ·rcases e4 with q|⟨b,ex,q1,q2⟩
   ·exact .inl q
   ·refine .inr ⟨b,ex,q1,?_⟩;rw[hoth b (by rintro rfl; rw[hc'] at q2; cases q2) (by rw[q2]; simp)];exact q2
theorem Ydh{σ:List ABlk}(n:Int)(r:Nat)(h:r<8):Zq .shr false [.int .u64 (IntKind.u64.wrap n),.int .u64 (IntKind.u64.wrap (56-8*(r:Int)))] σ=.ok (.int .u64 ((IntKind.u64.wrap n).fdiv (2 ^ (56-8*r)))) [] []:=by
 match r,h with
 |0,_=>rfl
 |1,_=>rfl
 |2,_=>rfl
 |3,_=>rfl
 |4,_=>rfl
 |5,_=>rfl
 |6,_=>rfl
 |7,_=>rfl
theorem Xcq(r:Nat)(h:r<8):IntKind.i64.wrap (56-8*(r:Int)-8)=56-8*((r+1:Nat):Int):=by
 rw[IntWalk.i64_in _ (by omega)]; omega
theorem Ycu{k:MK}{xs:List AVal}{bs:List UInt8}{c:Nat}{x1:AVal}{n:Int}{σ:List ABlk}{Z:PZ}{K:KT}(hcal:Zk k xs=some (85,[.bptr c 0,x1]))(h:CW bs c σ)(hnc:∀σ,Qj [x1] σ=.ok x1 [] [])(hl:∀σ',KC c σ σ'→∃rd,Zg false 1 [x1] σ'=.ok (iv n) rd [])(room:bs.length+8≤1000000000)
 (hK:∀σ',KC c σ σ'→CW (bs++n8 n) c σ'→K (.tup []) σ'):(VV Z).call k xs σ K:=by
 refine Ze hP hcal k85.ok rfl ?_;show k85.u (VV Z) [.bptr c 0,x1] σ K;rw[H2.e]; unfold k85; dsimp only; simp only[Yb,Qo,Qh];have hn8:=Xg n;refine Xp (ι:=Nat) (λr vs τ=>∃w,vs=[iv (56-8*(r:Int)),.int .u64 w]∧r≤8∧KC c σ τ∧CW (bs++(n8 n).take r) c τ) (λr=>8-r) 0 ⟨0,rfl,by omega,KC.refl c σ,by simpa using h⟩ ?_;rintro r vs τ again ⟨w,rfl,hr,hk,hc⟩ hag;refine Za (Xbd ..) (Zd (λh=>?_) (λh=>?_))
 ·have h:r<8:=by simp at h; omega
  obtain⟨rd,hld⟩:=hl τ hk;refine Za (hnc _) (Za hld (Za (Qk ..) (Za (Qk ..) (Za (Ydh n r h) (Za (Qk ..) ?_)))));rw[X7 n r _ rfl];refine ZbY (row:=[.int .u8 ((by8 n r).toNat:Int)]) rfl rfl rfl ?_;obtain⟨c1,c2,c3⟩:=hc.new (.box [.int .u8 ((by8 n r).toNat:Int)]);have c3:=c3 (by simp);refine Xda c1 (Zc _ _) c3.1 (by simp; omega) λσ2 k2 q2=>?_;have hy:=(k2 _ c3).1;rw[Zc] at hy;refine Za rfl (Za (v:=.int .u8 ((by8 n r).toNat:Int)) (Zj hy rfl) (Za (Qk ..) (Za rfl (Za (YaH ..) ?_))));refine hag (r+1) _ _ (by omega) ⟨_,by rw[Xcq r h],by omega,hk.trans (c2.trans k2),?_⟩;rw[List.append_assoc] at q2;have:(n8 n).take (r+1)=(n8 n).take r++[by8 n r]:=by
   rw[List.take_succ_eq_append_getElem (by omega)]; simp[n8]
  rw[this]; exact q2
 ·have h:r=8:=by simp at h; omega
  subst h;rw[List.take_of_length_le (by omega)] at hc;obtain⟨v,hb,hg⟩:=hc;exact Za rfl (Za rfl (Za (v:=.bool false) (Zj hb rfl) (Qf (hK _ hk ⟨v,hb,hg⟩))))
theorem QcX{bs:List UInt8}{c p:Nat}{ps:List AVal}{ns:List Int}{σ:List ABlk}{Z:PZ}{K:KT}(h:CW bs c σ)(hp:hget σ p=.rows 1 (ps.map λq=>[q]))(hap:Aw c p σ)(hlen:ps.length=ns.length)
 (hnc:∀q∈ps,(∀σ,Qj [q] σ=.ok q [] [])∧partA false 0 1 [q]=some q)(hld:∀(i:Nat) (q:AVal) (n:Int),ps[i]?=some q→ns[i]?=some n→∀σ',KC c σ σ'→∃rd,Zg false 1 [q] σ'=.ok (iv n) rd [])(room:bs.length+8*ns.length≤1000000000)
 (hK:∀σ',KC c σ σ'→CW (bs++ns.flatMap n8) c σ'→K (.tup []) σ'):(VV Z).call (.call 83) [.bptr c 0,.sl p 0 ps.length true] σ K:=by
 refine Ze hP rfl k83.ok rfl ?_;show k83.u (VV Z) [.bptr c 0,.sl p 0 ps.length true] σ K;rw[H2.e]; unfold k83; dsimp only; simp only[Yb];refine Za rfl ?_;refine Xp (ι:=Nat) (λi vs τ=>∃cs,vs=[iv i]∧i≤ps.length∧KC c σ τ∧cs=bs++(ns.take i).flatMap n8∧cs.length=bs.length+8*i∧CW cs c τ) (λi=>ps.length-i) 0 ⟨bs,rfl,by omega,KC.refl c σ,by simp,by omega,h⟩ ?_;rintro i vs τ again ⟨cs,rfl,hi,hk,hcs,hcl,hc⟩ hag;refine Za (Qn ..) (Zd (λh=>?_) (λh=>?_))
 ·have h:i<ps.length:=by simpa using h
  have hpt:=(hk p hap).1;rw[hp] at hpt;have hix:Xl 1 [.sl p 0 ps.length true,iv i] τ=.ok (.ptr p (0+i) 0) [p] []:=ZcL τ p 0 ps.length true 1 _ .i64 i h hpt;rw[Nat.zero_add] at hix;have hq:=hnc ps[i] (List.getElem_mem h);have hl:Zg false 1 [.ptr p i 0] τ=.ok ps[i] [p] []:=by
   show (match hget τ p with
   |.rows _ rs=>match nth rs i with
    |some row=>match partA false 0 1 row with
     |some v=>SRes.ok v [p] []
     |none=>.stop
    |none=>.stop
   | _=>.stop)=_
   rw[hpt];simp[YU,h,hq.2]
  refine Za hix (Za hl ?_);refine Ycu rfl hc hq.1 (n:=ns[i]) (λσ' k=>hld i _ _ (by simp[h]) (by simp) σ' (hk.trans k)) (by omega) λσ' k q=>?_;refine Za (Xr ..) ?_;rw[Zh (n:=i) (by omega)];exact hag (i+1) _ _ (by omega) ⟨_,rfl,by omega,hk.trans k,by rw[hcs,List.take_succ_eq_append_getElem (by omega),List.flatMap_append,←List.append_assoc]; simp only[List.flatMap_cons,List.flatMap_nil,List.append_nil],by rw[List.length_append,Xg]; omega,q⟩
 ·have h:i=ns.length:=by simp at h; omega
  subst h;rw[List.take_length] at hcs;subst hcs;exact hK _ hk hc
theorem XcW{n:Int}(h:R8 n):IntKind.i64.wrap n=n:=by
 unfold R8 at h;exact IntWalk.i64_in _ (by omega)
theorem Yc2{n:Int}(h:R8 n):IntKind.i8.wrap n=n:=by
 unfold R8 at h;simp[IntKind.wrap,IntKind.bits,IntKind.signed]; omega
theorem Zc5{bs:List UInt8}{c a:Nat}{x:Ac}{σ:List ABlk}{Z:PZ}{K:KT}(h:CW bs c σ)(ha:hget σ a=.box (acC x))(hap:Aw c a σ)(hn:R8 x.op)(room:bs.length+8≤1000000000)
 (hK:∀σ',KC c σ σ'→CW (bs++n8 x.op) c σ'→K (.tup []) σ'):(VV Z).call (.call 82) [.bptr c 0,.bptr a 0] σ K:=by
 refine Ze hP rfl k82.ok rfl ?_;show k82.u (VV Z) [.bptr c 0,.bptr a 0] σ K;rw[H2.e]; unfold k82; dsimp only; simp only[Yb,Qh];obtain⟨v,hc,hg⟩:=id h;refine Yd rfl (Yd rfl (Yf (v:=iv 0) (Zj hc rfl) rfl (Yd rfl (Yf (v:=iv8 x.op) (Zj ha rfl) rfl (Yd (Qk ..) ?_)))));rw[show IntKind.i64.wrap x.op=x.op from XcW hn];refine Yf (Yz σ _) (Yi _ _) (Yf (stv (row':=[iv x.op]) (Zc _ _) rfl rfl rfl) (Zb _ (by simp)) ?_);have hσ:(σ++[ABlk.box [AVal.int .i64 0]]).set σ.length (.box [iv x.op])=σ++[.box [iv x.op]]:=by
  rw[List.set_append_right _ _ (Nat.le_refl _)]; simp
 rw[hσ];have n1:c≠σ.length:=by have:=Qa hc; omega
 have n2:a≠σ.length:=by have:=Qa ha; omega
 refine Xv (by simp[Xf,Xj,Yj,Qp,apart2,disj,List.range,List.range.loop,n1,n1.symm,n2,n2.symm]) ?_;obtain⟨c1,c2,c3⟩:=h.new (.box [iv x.op]);have c3:=c3 (by simp);have hld:∀τ,KC c (σ++[ABlk.box [iv x.op]]) τ→Zg false 1 [.bptr σ.length 0] τ=.ok (iv x.op) [σ.length] []:=λτ k=>Zj (by rw[(k _ c3).1]; exact Zc _ _) rfl;refine Ycu rfl c1 (λ_=>rfl) (n:=x.op) (λτ k=>⟨_,hld τ k⟩) room λτ k q=>?_;unfold R8 at hn;refine Za (hld τ k) (Za (Qn ..) ?_);rw[YDF (show ¬x.op < -128 by omega)];refine Ya (Za (hld τ k) (Ya (Za (ZW ..) (Za rfl ?_))));rw[YDF (show ¬127<x.op by omega)];refine Qv (Qf ?_);have ha':hget τ a=.box (acC x):=by
  rw[((c2.trans k) a hap).1]; exact ha
 refine Za (hld τ k) (Za (Qk ..) ?_);rw[Yc2 hn];refine Za rfl (Xd (stv (row':=acC x) ha' rfl rfl rfl) (Zb _ (Qa ha')) ?_);have:τ.set a (ABlk.box (acC x))=τ:=by
  apply List.ext_getElem?;intro i;rw[List.getElem?_set];split
  ·rename_i e; subst e;rw[YIP (Qa ha'),Qae ha' (by simp)]
  ·rfl
 rw[this];exact hK _ (c2.trans k) q
theorem Zdg{bs:List UInt8}{c a:Nat}{x:Ac}{σ:List ABlk}{Z:PZ}{K:KT}(h:CW bs c σ)(ha:hget σ a=.box (acC x))(hap:Aw c a σ)(room:bs.length+8+8*x.ids.length≤1000000000)
 (hK:∀σ',KC c σ σ'→CW (bs++listQ n8 x.ids) c σ'→K (.tup []) σ'):(VV Z).call (.call 84) [.bptr c 0,.bptr a 4,iv 8,.func (.func 85) [.bptr c 0] []] σ K:=by
 refine Ze hP rfl k84.ok rfl ?_;show k84.u (VV Z) [.bptr c 0,.bptr a 4,iv 8,.func (.func 85) [.bptr c 0] []] σ K;rw[H4.e]; unfold k84; dsimp only; simp only[Yb];obtain⟨v,hc,hg⟩:=id h;refine Yd rfl (Yd rfl (Yf (v:=iv 0) (Zj hc rfl) rfl (Yd rfl (Yf (v:=rowV x.ids) (Zj ha rfl) rfl (Yd (Qe ..) ?_)))));refine Yf (Yz σ _) (Yi _ _) (Yf (stv (row':=[iv x.ids.length]) (Zc _ _) rfl rfl rfl) (Zb _ (by simp)) ?_);have hσ:(σ++[ABlk.box [AVal.int .i64 0]]).set σ.length (.box [iv x.ids.length])=σ++[.box [iv x.ids.length]]:=by
  rw[List.set_append_right _ _ (Nat.le_refl _)]; simp
 rw[hσ];have n1:c≠σ.length:=by have:=Qa hc; omega
 have n2:a≠σ.length:=by have:=Qa ha; omega
 refine Xv (by simp[Xf,Xj,Yj,Qp,apart2,disj,List.range,List.range.loop,n1,n2]) ?_;obtain⟨c1,c2,c3⟩:=h.new (.box [iv x.ids.length]);have c3:=c3 (by simp);have hld:∀τ,KC c (σ++[ABlk.box [iv x.ids.length]]) τ→Zg false 1 [.bptr σ.length 0] τ=.ok (iv x.ids.length) [σ.length] []:=λτ k=>Zj (by rw[(k _ c3).1]; exact Zc _ _) rfl;refine Ycu rfl c1 (λ_=>rfl) (n:=x.ids.length) (λτ k=>⟨_,hld τ k⟩) (by omega) λτ k q=>?_;obtain⟨v1,hc1,hg1⟩:=id q;refine Za rfl (Za rfl (Za (v:=.bool false) (Zj hc1 rfl) (Qv (Qf (Za (hld τ k) ?_)))));refine Xp (ι:=Nat) (λi vs τ=>∃cs,vs=[iv i]∧i≤x.ids.length∧KC c σ τ∧cs=bs++n8 x.ids.length++(x.ids.take i).flatMap n8∧cs.length=bs.length+8+8*i∧CW cs c τ) (λi=>x.ids.length-i) 0 ⟨_,rfl,by omega,c2.trans k,by simp,by simp[Xg],q⟩ ?_;rintro i vs τ2 again ⟨cs,rfl,hi,hk,hcs,hcl,hq⟩ hag;refine Za (Qn ..) (Zd (λh=>?_) (λh=>?_))
 ·have h:i<x.ids.length:=by simpa using h
  obtain⟨v2,hc2,hg2⟩:=id hq;have ha2:hget τ2 a=.box (acC x):=by rw[(hk a hap).1]; exact ha
  refine Za rfl (Za rfl (Za (v:=.bool false) (Zj hc2 rfl) (Qv (Qf (Za rfl (Za (v:=rowV x.ids) (Zj ha2 rfl) (Za (Xaq cel false false 1 x.ids .i64 i h) ?_)))))));refine Ycu rfl hq (λ_=>rfl) (n:=x.ids[i]) (λτ k=>⟨_,Yu rfl⟩) (by omega) λτ3 k3 q3=>?_;refine Za (Xr ..) ?_;rw[Zh (n:=i) (by omega)];exact hag (i+1) _ _ (by omega) ⟨_,rfl,by omega,hk.trans k3,by rw[hcs,List.take_succ_eq_append_getElem h,List.flatMap_append,←List.append_assoc]; simp only[List.flatMap_cons,List.flatMap_nil,List.append_nil],by rw[List.length_append,Xg]; omega,q3⟩
 ·have h:i=x.ids.length:=by simp at h; omega
  subst h;rw[List.take_length,List.append_assoc] at hcs;subst hcs;exact hK _ hk hq
theorem Xdg{k:MK}{xs:List AVal}{bs:List UInt8}{c:Nat}{p:Int×Int}{σ:List ABlk}{Z:PZ}{K:KT}(hcal:Zk k xs=some (87,[.bptr c 0,.rptr (prC p) 0]))(h:CW bs c σ)(room:bs.length+16≤1000000000)
 (hK:∀σ',KC c σ σ'→CW (bs++prQ p) c σ'→K (.tup []) σ'):(VV Z).call k xs σ K:=by
 refine Ze hP hcal g87.ok rfl ?_;show g87.u (VV Z) [.bptr c 0,.rptr (prC p) 0] σ K;rw[H2.e]; unfold g87; dsimp only;refine Qv (Yd rfl (Yd rfl (Yd rfl (Yd rfl (Yf (v:=.sl σ.length 0 2 true) (rd:=[]) (up:=[(σ.length,.rows 1 [[.rptr (prC p) 0],[.rptr (prC p) 1]])]) rfl (Yi _ _) (Xv (by simp[Xf,Xj,Yj,Qp,apart2,disj,List.range,List.range.loop]) ?_))))));obtain⟨c1,c2,c3⟩:=h.new (.rows 1 [[.rptr (prC p) 0],[.rptr (prC p) 1]]);refine QcX (ps:=[.rptr (prC p) 0,.rptr (prC p) 1]) (ns:=[p.1,p.2]) c1 (Zc _ _) (c3 (by simp)) rfl ?_ ?_ (by simp; omega) (λσ' k q=>hK σ' (c2.trans k) (by simpa[prQ] using q))
 ·intro q hq;simp only[List.mem_cons,List.not_mem_nil,or_false] at hq;rcases hq with rfl|rfl<;>exact⟨λ_=>rfl,rfl⟩
 ·intro i q n e1 e2 σ' _
  match i,e1,e2 with
  |0,e1,e2=>cases e1; cases e2; exact⟨[],Yu rfl⟩
  |1,e1,e2=>cases e1; cases e2; exact⟨[],Yu rfl⟩
theorem Qc2{bs:List UInt8}{c a:Nat}{x:Ac}{σ:List ABlk}{Z:PZ}{K:KT}(h:CW bs c σ)(ha:hget σ a=.box (acC x))(hap:Aw c a σ)(room:bs.length+8+16*x.prs.length≤1000000000)
 (hK:∀σ',KC c σ σ'→CW (bs++listQ prQ x.prs) c σ'→K (.tup []) σ'):(VV Z).call (.call 86) [.bptr c 0,.bptr a 5,iv 16,.func (.func 87) [.bptr c 0] []] σ K:=by
 refine Ze hP rfl k86.ok rfl ?_;show k86.u (VV Z) [.bptr c 0,.bptr a 5,iv 16,.func (.func 87) [.bptr c 0] []] σ K;rw[H4.e]; unfold k86; dsimp only; simp only[Yb];obtain⟨v,hc,hg⟩:=id h;refine Yd rfl (Yd rfl (Yf (v:=iv 0) (Zj hc rfl) rfl (Yd rfl (Yf (v:=prV x.prs) (Zj ha rfl) rfl (Yd (Qe ..) ?_)))));refine Yf (Yz σ _) (Yi _ _) (Yf (stv (row':=[iv x.prs.length]) (Zc _ _) rfl rfl rfl) (Zb _ (by simp)) ?_);have hσ:(σ++[ABlk.box [AVal.int .i64 0]]).set σ.length (.box [iv x.prs.length])=σ++[.box [iv x.prs.length]]:=by
  rw[List.set_append_right _ _ (Nat.le_refl _)]; simp
 rw[hσ];have n1:c≠σ.length:=by have:=Qa hc; omega
 have n2:a≠σ.length:=by have:=Qa ha; omega
 refine Xv (by simp[Xf,Xj,Yj,Qp,apart2,disj,List.range,List.range.loop,n1,n2]) ?_;obtain⟨c1,c2,c3⟩:=h.new (.box [iv x.prs.length]);have c3:=c3 (by simp);have hld:∀τ,KC c (σ++[ABlk.box [iv x.prs.length]]) τ→Zg false 1 [.bptr σ.length 0] τ=.ok (iv x.prs.length) [σ.length] []:=λτ k=>Zj (by rw[(k _ c3).1]; exact Zc _ _) rfl;refine Ycu rfl c1 (λ_=>rfl) (n:=x.prs.length) (λτ k=>⟨_,hld τ k⟩) (by omega) λτ k q=>?_;obtain⟨v1,hc1,hg1⟩:=id q;refine Za rfl (Za rfl (Za (v:=.bool false) (Zj hc1 rfl) (Qv (Qf (Za (hld τ k) ?_)))));refine Xp (ι:=Nat) (λi vs τ=>∃cs,vs=[iv i]∧i≤x.prs.length∧KC c σ τ∧cs=bs++n8 x.prs.length++(x.prs.take i).flatMap prQ∧cs.length=bs.length+8+16*i∧CW cs c τ) (λi=>x.prs.length-i) 0 ⟨_,rfl,by omega,c2.trans k,by simp,by simp[Xg],q⟩ ?_;rintro i vs τ2 again ⟨cs,rfl,hi,hk,hcs,hcl,hq⟩ hag;refine Za (Qn ..) (Zd (λh=>?_) (λh=>?_))
 ·have h:i<x.prs.length:=by simpa using h
  obtain⟨v2,hc2,hg2⟩:=id hq;have ha2:hget τ2 a=.box (acC x):=by rw[(hk a hap).1]; exact ha
  refine Za rfl (Za rfl (Za (v:=.bool false) (Zj hc2 rfl) (Qv (Qf (Za rfl (Za (v:=prV x.prs) (Zj ha2 rfl) (Za (Xaq prC false false 2 x.prs .i64 i h) ?_)))))));refine Xdg (p:=x.prs[i]) rfl hq (by omega) λτ3 k3 q3=>?_;refine Za (Xr ..) ?_;rw[Zh (n:=i) (by omega)];exact hag (i+1) _ _ (by omega) ⟨_,rfl,by omega,hk.trans k3,by rw[hcs,List.take_succ_eq_append_getElem h,List.flatMap_append,←List.append_assoc]; simp only[List.flatMap_cons,List.flatMap_nil,List.append_nil],by rw[List.length_append,QbH]; omega,q3⟩
 ·have h:i=x.prs.length:=by simp at h; omega
  subst h;rw[List.take_length,List.append_assoc] at hcs;subst hcs;exact hK _ hk hq
theorem XcG{bs:List UInt8}{c a:Nat}{x:Ac}{σ:List ABlk}{Z:PZ}{K:KT}(h:CW bs c σ)(ha:hget σ a=.box (acC x))(hap:Aw c a σ)(hop:R8 x.op)(room:bs.length+48+8*x.ids.length+16*x.prs.length≤1000000000)
 (hK:∀σ',KC c σ σ'→CW (bs++actQ x) c σ'→K (.tup []) σ'):(VV Z).call (.call 65) [.bptr c 0,.bptr a 0] σ K:=by
 refine Ze hP rfl g65.ok rfl ?_;show g65.u (VV Z) [.bptr c 0,.bptr a 0] σ K;rw[H2.e]; unfold g65; dsimp only;refine aw (Zc5 h ha hap hop (by omega) λσ1 k1 q1=>?_);refine Qv (Yd rfl (Yd rfl (Yd rfl (Yd rfl (Yd rfl (Yd rfl (Yf (v:=.sl σ1.length 0 3 true) (rd:=[]) (up:=[(σ1.length,.rows 1 [[.bptr a 1],[.bptr a 2],[.bptr a 3]])]) rfl (Yi _ _) (Xv (by simp[Xf,Xj,Yj,Qp,apart2,disj,List.range,List.range.loop]) ?_))))))));obtain⟨c1,c2,c3⟩:=q1.new (.rows 1 [[.bptr a 1],[.bptr a 2],[.bptr a 3]]);have kk:=k1.trans c2;refine QcX (ps:=[.bptr a 1,.bptr a 2,.bptr a 3]) (ns:=[x.side,x.place,x.target]) c1 (Zc _ _) (c3 (by simp)) rfl ?_ ?_ (by simp[Xg]; omega) (λσ3 k3 q3=>?_)
 ·intro q hq;simp only[List.mem_cons,List.not_mem_nil,or_false] at hq;rcases hq with rfl|rfl|rfl<;>exact⟨λ_=>rfl,rfl⟩
 ·intro i q n e1 e2 σ' k';have ha':hget σ' a=.box (acC x):=by rw[((kk.trans k') a hap).1]; exact ha
  match i,e1,e2 with
  |0,e1,e2=>cases e1; cases e2; exact⟨[a],Zj ha' rfl⟩
  |1,e1,e2=>cases e1; cases e2; exact⟨[a],Zj ha' rfl⟩
  |2,e1,e2=>cases e1; cases e2; exact⟨[a],Zj ha' rfl⟩
 have kk3:=kk.trans k3;have ha3:hget σ3 a=.box (acC x):=by rw[(kk3 a hap).1]; exact ha
 refine aw (Zdg q3 ha3 (kk3 a hap).2 (by simp[Xg]; omega) λσ4 k4 q4=>?_);have kk4:=kk3.trans k4;have ha4:hget σ4 a=.box (acC x):=by rw[(kk4 a hap).1]; exact ha
 have hlq:∀l:List Int,(listQ n8 l).length=8+8*l.length:=λl=>by rw[listQ,List.length_append,Xg,Xae Xg]; omega
 refine aw (Qc2 q4 ha4 (kk4 a hap).2 (by simp[Xg,hlq]; omega) λσ5 k5 q5=>?_);refine aw (hK σ5 (kk4.trans k5) ?_);have:bs++actQ x=bs++n8 x.op++[x.side,x.place,x.target].flatMap n8++listQ n8 x.ids++listQ prQ x.prs:=by simp[actQ]
 rw[this]; exact q5
theorem c34(x:Ac)(hop:R8 x.op)(room:x.ids.length+x.prs.length≤10000000):PC 34 [.agg (acC x)] (byV (actQ x)):=by
 refine Xn hP k34.ok rfl ?_;rw[H1.e]; unfold k34; dsimp only;refine Xd (v:=.bptr 0 0) (rd:=[]) (up:=[(0,.box (acC x))]) rfl rfl (Za rfl (Xd (v:=.bptr 1 0) (rd:=[]) (up:=[(1,.box [.nils,iv 0,.bool false])]) rfl rfl ?_));refine XcG (x:=x) (bs:=[]) ⟨.nils,rfl,.inl ⟨rfl,rfl⟩⟩ rfl ⟨by decide,by simp[hget],λv r e o n ex q=>by cases e; cases q⟩ hop (by simp; omega) λσ' k q=>?_;obtain⟨v,hb,hg⟩:=q;refine Za rfl (Za rfl (Za (v:=v) (Zj hb rfl) ?_));exact hg.bor
def tk(n:Int)(s:List UInt8×Bool):List UInt8×List UInt8×Bool:=if n<0∨(s.1.length:Int)<n then ([],s.1,true) else (s.1.take n.toNat,s.1.drop n.toNat,s.2)
def numF(s:List UInt8×Bool):Int×List UInt8×Bool:=(w64 (d8 (tk 8 s).1),(tk 8 s).2)
def textF(s:List UInt8×Bool):List UInt8×List UInt8×Bool:=tk (numF s).1 (numF s).2
def CR(s:List UInt8×Bool)(c:Nat)(σ:List ABlk):Prop:=hget σ c=.box [byV s.1,.bool s.2]
def KB(c:Nat)(σ σ':List ABlk):Prop:=σ.length≤σ'.length∧∀d,d≠c→hget σ d≠.dead→hget σ' d=hget σ d
theorem KB.refl(c:Nat)(σ:List ABlk):KB c σ σ:=⟨Nat.le_refl _,λ_ _ _=>rfl⟩
theorem KB.trans{c:Nat}{σ σ' σ'':List ABlk}(h:KB c σ σ')(k:KB c σ' σ''):KB c σ σ'':=⟨Nat.le_trans h.1 k.1,λd hd hn=>by
 have:=h.2 d hd hn;rw[k.2 d hd (by rw[this]; exact hn),this]⟩
theorem KB.set{c:Nat}{σ:List ABlk}(x:ABlk):KB c σ (σ.set c x):=⟨by simp,λ_ hd hn=>Xb rfl hn (Ne.symm hd)⟩
theorem QcH{σ:List ABlk}(e n:Bool)(l:List UInt8)(m:Nat)(h:m≤l.length):XC 1 false true [.rsl e n 1 (l.map byC),iv m] σ=.ok (.rsl false n 1 ((l.take m).map byC)) [] []:=by
 show Yx 1 [.rsl e n 1 (l.map byC),.int .i64 (Int.ofNat m)] σ=_;have:Nat.ble m (l.map byC).length=true:=Nat.ble_eq_true_of_le (by simpa using h);simp only[Yx,this,Nat.beq_refl,Bool.and_self,cond_true,cut,List.drop_zero,List.map_take]
theorem Xbl{σ:List ABlk}(e n:Bool)(l:List UInt8)(m:Nat)(h:m≤l.length):XC 1 true false [.rsl e n 1 (l.map byC),iv m] σ=.ok (.rsl e n 1 ((l.drop m).map byC)) [] []:=by
 show YE 1 [.rsl e n 1 (l.map byC),.int .i64 (Int.ofNat m)] σ=_;have:Nat.ble m (l.map byC).length=true:=Nat.ble_eq_true_of_le (by simpa using h);simp only[YE,this,Nat.beq_refl,Bool.and_self,cond_true,cut,List.take_length,List.map_drop]
theorem Xc{σ:List ABlk}{c:Nat}{x y:ABlk}(h:hget σ c=y)(hy:y≠.dead):hget (σ.set c x) c=x:=Xq (by simp[Qa h hy])
theorem X1:∀l:List UInt8,bytesOf (l.map byC)=some l
 |[]=>rfl
 |x::l=>by
  have:=X1 l;have hb:Nat.blt x.toNat 256=true:=Nat.ble_eq_true_of_le x.toNat_lt;simp[bytesOf,byC,this,hb]
theorem Xdj(n:Int){s:List UInt8×Bool}{c:Nat}{σ:List ABlk}{Z:PZ}{K:KT}(h:CR s c σ)
 (hK:∀σ',KB c σ σ'→CR (tk n s).2 c σ'→K (byV (tk n s).1) σ'):(VV Z).call (.call 40) [.bptr c 0,iv n] σ K:=by
 unfold CR at *;refine Ze hP rfl k40.ok rfl ?_;show k40.u (VV Z) [.bptr c 0,iv n] σ K;rw[H2.e]; unfold k40; dsimp only; simp only[Yb];refine Za (Qn ..) ?_;refine ZcD (λ_=>rfl) (λ_=>rfl) (λ_=>rfl) (λ_=>rfl) (v5:=byV s.1) (λ_=>Zj h rfl) (λ_=>Qe ..) (λ_=>ZW ..) ?_;refine Qv (Zd (λq=>?_) (λq=>?_))
 ·have hq:n<0∨(s.1.length:Int)<n:=by simpa using q
  have ht:tk n s=([],s.1,true):=by rw[tk,YIP hq]
  rw[ht] at hK;have h1:hget (σ.set c (.box [byV s.1,.bool true])) c=.box [byV s.1,.bool true]:=Xc h (by simp);refine Za rfl (Za rfl (Xd (stv (row':=[byV s.1,.bool true]) h rfl rfl rfl) (Zb _ (Qa h)) ?_));have k1:=KB.set (c:=c) (σ:=σ) (.box [byV s.1,.bool true]);generalize σ.set c (.box [byV s.1,.bool true])=τ at h1 k1;refine Za rfl (Za rfl (Za (v:=byV s.1) (Zj h1 rfl) (Za (QcH false false s.1 0 (by omega)) ?_)));refine Za rfl (Za rfl (Za (v:=byV s.1) (Zj h1 rfl) (Za (Xbl false false s.1 0 (by omega)) ?_)));refine Za rfl (Za rfl (Xd (stv (row':=[byV s.1,.bool true]) h1 rfl rfl rfl) (Zb _ (Qa h1)) ?_));exact hK _ (k1.trans (KB.set _)) (Xc h1 (by simp))
 ·have hq:¬(n<0∨(s.1.length:Int)<n):=by
   simp only[Bool.or_eq_false_iff,YDN] at q;omega
  have ht:tk n s=(s.1.take n.toNat,s.1.drop n.toNat,s.2):=by rw[tk,YIN hq]
  rw[ht] at hK;obtain⟨m,rfl⟩:∃m:Nat,n=m:=⟨n.toNat,by omega⟩;rw[Int.toNat_natCast] at hK;have hm:m≤s.1.length:=by omega
  refine Za rfl (Za rfl (Za (v:=byV s.1) (Zj h rfl) (Za (QcH false false s.1 m hm) ?_)));refine Za rfl (Za rfl (Za (v:=byV s.1) (Zj h rfl) (Za (Xbl false false s.1 m hm) ?_)));refine Za rfl (Za rfl (Xd (stv (row':=[byV (s.1.drop m),.bool s.2]) h rfl rfl rfl) (Zb _ (Qa h)) ?_));exact hK _ (KB.set _) (Xc h (by simp))
theorem QcM(a x:Nat)(h:x<256):a*256 ||| x=a*256+x:=by
 have:=Nat.shiftLeft_add_eq_or_of_lt (b:=x) (i:=8) (by simpa using h) a;rw[Nat.shiftLeft_eq] at this;exact this.symm
theorem Yao{σ:List ABlk}(a:Nat)(x:UInt8)(h:a<72057594037927936):Zq .or false [.int .u64 (IntKind.u64.wrap ((a:Int)*2 ^ 8)),.int .u64 (IntKind.u64.wrap (x.toNat:Int))] σ=.ok (.int .u64 ((a*256+x.toNat:Nat):Int)) [] []:=by
 have hx:=x.toNat_lt;have e1:IntKind.u64.wrap ((a:Int)*2 ^ 8)=((a*256:Nat):Int):=by
  simp[IntKind.wrap,IntKind.bits,IntKind.signed]; omega
 have e2:IntKind.u64.wrap (x.toNat:Int)=((x.toNat:Nat):Int):=by
  simp[IntKind.wrap,IntKind.bits,IntKind.signed]; omega
 rw[e1,e2];have:=(Zar (k:=.u64) (m:=a*256) (n:=x.toNat) (by show _<18446744073709551616; omega) (by show _<18446744073709551616; omega)).2.1;rw[QcM _ _ (by omega)] at this;show SRes.ok (.int .u64 (bits .or .u64 _ _)) [] []=_;rw[this]
theorem Xaz(l:List UInt8)(x:UInt8):d8 (l++[x])=d8 l*256+x.toNat:=by simp[d8]
theorem Xb6:∀(n:Nat) (l:List UInt8),l.length=n→d8 l<256 ^ n
 |0,l,h=>by simp at h; subst h; decide
 |n+1,l,h=>by
  have hl:l≠[]:=by rintro rfl; simp at h
  rw[←List.dropLast_concat_getLast hl,Xaz];have:=Xb6 n l.dropLast (by simp; omega);have:=(l.getLast hl).toNat_lt;rw[Nat.pow_succ]; omega
theorem QbS{s:List UInt8×Bool}{c:Nat}{σ:List ABlk}{Z:PZ}{K:KT}(h:CR s c σ)
 (hK:∀σ',KB c σ σ'→CR (numF s).2 c σ'→K (iv (numF s).1) σ'):(VV Z).call (.call 41) [.bptr c 0] σ K:=by
 refine Ze hP rfl k41.ok rfl ?_;show k41.u (VV Z) [.bptr c 0] σ K;rw[H1.e]; unfold k41; dsimp only; simp only[Yb,Qh];refine Xdj 8 h λσ1 k1 q1=>?_;have hlen:(tk 8 s).1.length≤8:=by
  unfold tk; split
  ·simp
  ·simp; omega
 have hn:(numF s).1=w64 (d8 (tk 8 s).1):=rfl;have hn2:(numF s).2=(tk 8 s).2:=rfl;rw[hn,hn2] at hK;generalize (tk 8 s).1=l at *;refine Za (Qe ..) ?_;refine Xp (ι:=Nat) (λi vs τ=>vs=[iv i,.int .u64 (d8 (l.take i):Nat)]∧i≤l.length∧τ=σ1) (λi=>l.length-i) 0 ⟨rfl,by omega,rfl⟩ ?_;rintro i vs τ again ⟨rfl,hi,rfl⟩ hag;refine Za (Qn ..) (Zd (λh=>?_) (λh=>?_))
 ·have h:i<l.length:=by simpa using h
  have hb:=Xb6 i (l.take i) (by simp; omega);have hb7:256 ^ i≤256 ^ 7:=Nat.pow_le_pow_right (by omega) (by omega);refine Za (Xaq byC false false 1 l .i64 i h) (Za (v:=.int .u8 (l[i].toNat:Int)) (Yu rfl) (Za rfl (Za (Qk ..) (Za (Yao _ _ (by omega)) (Za (Xr ..) ?_)))));rw[Zh (n:=i) (by omega)];exact hag (i+1) _ _ (by omega) ⟨by rw[List.take_succ_eq_append_getElem h,Xaz],by omega,rfl⟩
 ·have h:i=l.length:=by simp at h; omega
  subst h;rw[List.take_length];refine Za (Qk ..) ?_;exact hK _ k1 q1
def rowNF:Nat→List UInt8×Bool→List Int×List UInt8×Bool
 |0,s=>([],s)
 |n+1,s=>((numF s).1::(rowNF n (numF s).2).1,(rowNF n (numF s).2).2)
theorem ZaC:∀(n:Nat) (s:List UInt8×Bool),rowNF (n+1) s=((rowNF n s).1++[(numF (rowNF n s).2).1],(numF (rowNF n s).2).2)
 |0,s=>rfl
 |n+1,s=>by
  have ih:=ZaC n (numF s).2;rw[rowNF,ih];simp[rowNF]
theorem Xbt:∀(n:Nat) (s:List UInt8×Bool),(rowNF n s).1.length=n
 |0,s=>rfl
 |n+1,s=>by rw[rowNF]; simp[Xbt n]
def listF(s:List UInt8×Bool):List Int×List UInt8×Bool:=
 if (numF s).1<0∨(((numF s).2.1.length/8:Nat):Int)<(numF s).1 then ([],(numF s).2.1,true) else rowNF (numF s).1.toNat (numF s).2
def OL(l:List Int)(v:AVal)(σ:List ABlk):Prop:=(v=.nils∧l=[])∨∃b ex,v=.sl b 0 l.length ex∧hget σ b=.rows 1 (l.map cel)
theorem Qbm(l:List Int):Zx (l.map cel)=true:=XQ λr hr=>by obtain⟨x,_,rfl⟩:=List.mem_map.1 hr; rfl
theorem OL.more{l:List Int}{v:AVal}{σ:List ABlk}(h:OL l v σ)(x:List ABlk):OL l v (σ++x):=by
 rcases h with h|⟨b,ex,h2,h3⟩
 ·exact .inl h
 ·exact .inr ⟨b,ex,h2,Qd x h3⟩
theorem OL.upd{l m:List Int}{v y:AVal}{σ:List ABlk}{rd:List Nat}(h:OL l v σ)(hs:Zp 1 σ y=some (m.map cel,rd))(hroom:l.length+m.length≤1000000000) :
  ∃v' up σ',Yh 1 8 [v,y] σ=.ok v' rd up∧upL σ up=some σ'∧Kp v σ σ'∧OL (l++m) v' σ'∧v'=.sl σ.length 0 (l++m).length false:=by
 have hb:Nat.ble ((2*(l.length+m.length)+192)*8) (2 ^ 48)=true:=Nat.ble_eq_true_of_le (by omega);rcases h with ⟨rfl,rfl⟩|⟨b,ex,rfl,hg⟩
 ·refine⟨.sl σ.length 0 m.length false,[(σ.length,.rows 1 (m.map cel))],σ++[.rows 1 (m.map cel)],?_,Yi _ _,⟨by simp,λc hc _=>Qd _ rfl hc⟩,.inr ⟨_,false,rfl,Zc _ _⟩,rfl⟩;show Zn 1 8 σ [] [] y=_;unfold Zn;have hb2:Nat.ble ((2*m.length+192)*8) (2 ^ 48)=true:=Nat.ble_eq_true_of_le (by simp at hroom; omega);simp only[hs,Qbm,List.length_map,List.length_nil,Nat.zero_add,hb2,Bool.and_self,cond_true,List.nil_append]
 ·refine⟨.sl σ.length 0 (l++m).length false,[(b,.dead)]++[(σ.length,.rows 1 ((l++m).map cel))],σ.set b .dead++[.rows 1 ((l++m).map cel)],?_,Zah _ _ (Qa hg),⟨by simp,λc hc hn=>?_⟩,.inr ⟨_,false,rfl,?_⟩,rfl⟩
  ·have:Yh 1 8 [.sl b 0 l.length ex,y] σ=Zn 1 8 σ (l.map cel) [(b,.dead)] y:=by
    simp[Yh,X5,hg]
   rw[this];unfold Zn;simp only[hs,Qbm,List.length_map,hb,Bool.and_self,cond_true,List.length_append,List.map_append]
  ·refine(Qd _ (Xb rfl hc ?_) hc);rintro rfl; exact hn _ _ _ rfl
  ·have:=Zc (σ.set b .dead) (.rows 1 ((l++m).map cel));simpa using this
theorem Yaf:∀ {σ:List ABlk} {b:Nat},σ.length≤b→hget σ b=.dead
 |[],_,_=>by simp[hget]
 |_::σ,0,h=>by simp at h
 |_::σ,b+1,h=>by rw[hget]; exact Yaf (by simpa using h)
theorem Xav(s:List UInt8×Bool):(numF s).2.1.length≤s.1.length:=by
 simp only[numF,tk]; split<;>simp
theorem ZbW:∀(n:Nat) (s:List UInt8×Bool),(rowNF n s).2.1.length≤s.1.length
 |0,s=>Nat.le_refl _
 |n+1,s=>by rw[rowNF]; exact Nat.le_trans (ZbW n _) (Xav s)
theorem quo8{σ:List ABlk}(n:Nat)(h:n≤1000000000):Zq .quo false [iv n,iv 8] σ=.ok (iv (n/8:Nat)) [] []:=by
 have:IntKind.i64.wrap ((n:Int).tdiv 8)=((n/8:Nat):Int):=by
  rw[show (n:Int).tdiv 8=((n/8:Nat):Int) from rfl];exact IntWalk.i64_in _ (by omega)
 show SRes.ok (.int .i64 (IntKind.i64.wrap ((n:Int).tdiv 8))) [] []=_;rw[this]
theorem Zcs{s:List UInt8×Bool}{c:Nat}{σ:List ABlk}{Z:PZ}{K:KT}(h:CR s c σ)(hs:s.1.length≤900000000)
 (hK:∀v σ',KB c σ σ'→CR (listF s).2 c σ'→OL (listF s).1 v σ'→(∀b o n e,v=.sl b o n e→hget σ b=.dead)→K v σ'):(VV Z).call (.call 43) [.bptr c 0] σ K:=by
 refine Ze hP rfl k43.ok rfl ?_;show k43.u (VV Z) [.bptr c 0] σ K;rw[H1.e]; unfold k43; dsimp only; simp only[Yb];refine QbS h λσ1 k1 q1=>?_;have hl:=Xav s;have hc0:hget σ1 c=.box [byV (numF s).2.1,.bool (numF s).2.2]:=q1;refine Za (Qn ..) ?_;refine Zdi (λ_=>rfl) (λ_=>rfl) (λ_=>rfl) (λ_=>rfl) (v5:=byV (numF s).2.1) (λ_=>Zj hc0 rfl) (λ_=>Qe ..) (λ_=>quo8 _ (by omega)) (λ_=>ZW ..) ?_;refine Zd (λq=>?_) (λq=>?_)
 ·have hq:(numF s).1<0∨(((numF s).2.1.length/8:Nat):Int)<(numF s).1:=by simpa using q
  have ht:listF s=([],(numF s).2.1,true):=by rw[listF,YIP hq]
  rw[ht] at hK;refine Za rfl (Za rfl (Xd (stv (row':=[byV (numF s).2.1,.bool true]) hc0 rfl rfl rfl) (Zb _ (Qa hc0)) ?_));exact hK .nils _ (k1.trans (KB.set _)) (Xc hc0 (by simp)) (.inl ⟨rfl,rfl⟩) (λ_ _ _ _ e=>by cases e)
 ·have hq:¬((numF s).1<0∨(((numF s).2.1.length/8:Nat):Int)<(numF s).1):=by
   simp only[Bool.or_eq_false_iff,YDN] at q;omega
  have ht:listF s=rowNF (numF s).1.toNat (numF s).2:=by rw[listF,YIN hq]
  rw[ht] at hK;obtain⟨m,hm⟩:∃m:Nat,(numF s).1=m:=⟨(numF s).1.toNat,by omega⟩;rw[hm] at hq ⊢;rw[hm,Int.toNat_natCast] at hK;refine Xp (ι:=Nat) (λi vs τ=>∃v,vs=[iv i,v]∧i≤m∧KB c σ τ∧CR (rowNF i (numF s).2).2 c τ∧OL (rowNF i (numF s).2).1 v τ∧∀b o n e,v=.sl b o n e→hget σ b=.dead) (λi=>m-i) 0 ⟨.nils,rfl,by omega,k1,q1,.inl ⟨rfl,rfl⟩,λ_ _ _ _ e=>by cases e⟩ ?_;rintro i vs τ again ⟨v,rfl,hi,hk,hc,hg,hd⟩ hag;refine Za (Qn ..) (Zd (λh'=>?_) (λh'=>?_))
  ·have h':i<m:=by simp at h'; omega
   refine QbS hc λσ2 k2 q2=>?_;have hnb:∀b o n e,v=.sl b o n e→b≠c∧hget τ b≠.dead:=by
    rintro b o n e rfl;rcases hg with ⟨z,_⟩|⟨b',ex,z,hb⟩
    ·cases z
    ·cases z;refine⟨?_,by rw[hb]; simp⟩;rintro rfl;have hc':hget τ b=.box _:=hc;rw[hb] at hc'; cases hc'
   have hg2:OL (rowNF i (numF s).2).1 v σ2:=by
    rcases id hg with z|⟨b,ex,z,hb⟩
    ·exact .inl z
    ·have:=hnb b _ _ _ z;exact .inr ⟨b,ex,z,by rw[k2.2 b this.1 this.2]; exact hb⟩
   refine Xd (v:=.sl σ2.length 0 1 true) (rd:=[]) (up:=[(σ2.length,.rows 1 [cel (numF (rowNF i (numF s).2).2).1])]) rfl (Yi _ _) ?_;have hlen:=Xbt i (numF s).2;obtain⟨v',up,σ4,e1,e2,e3,e4,e5⟩:=(hg2.more [.rows 1 [cel (numF (rowNF i (numF s).2).2).1]]).upd (m:=[(numF (rowNF i (numF s).2).2).1]) (y:=.sl σ2.length 0 1 true) (rd:=[σ2.length]) (ZJ (Zc _ _) rfl) (by simp[hlen]; omega);refine Xd e1 e2 (Za (Xr ..) ?_);rw[Zh (n:=i) (by omega)];have hkeep:∀d,hget σ2 d≠.dead→(∀o n e,v≠.sl d o n e)→hget σ4 d=hget σ2 d:=λd hn hv=>e3.more.2 d hn hv;have hk2:=hk.trans k2;refine hag (i+1) _ _ (by omega) ⟨v',rfl,by omega,⟨Nat.le_trans hk2.1 e3.more.1,λd h1 h2=>?_⟩,?_,by rw[ZaC]; exact e4,λb o n e z=>?_⟩
   ·have z:=hk2.2 d h1 h2;rw[hkeep d (by rw[z]; exact h2) (λo n e w=>h2 (hd _ _ _ _ w)),z]
   ·rw[ZaC];have q2':hget σ2 c=.box _:=q2;show hget σ4 c=_;rw[hkeep c (by rw[q2']; simp) (λo n e w=>(hnb _ _ _ _ w).1 rfl)];exact q2
   ·rw[e5] at z;cases z;have hx:σ.length≤σ2.length+1:=by have:=hk2.1; omega
    rw[List.length_append];show hget σ (σ2.length+1)=_;exact Yaf hx
  ·have h':i=m:=by simp at h'; omega
   subst h';exact hK _ _ hk hc hg hd
end Go.Ah.Tz
end
section
namespace Go.Ah
section
variable {P:Program} {GL:Globs} {Z:PZ}
theorem Xal{t:TypeId}{v:AVal}{σ:List ABlk}{K:KT}(hZ:Z (.iface t v) σ):(W P GL Z).call (.x .panic) [.iface t v] σ K:=by
 refine⟨λ_ _=>False,?_,λ_ _ h=>h.elim⟩;intro o os hc w0 L g w a r hx;generalize ho:o.op=op at hc;cases hc with
 |x _ _ _ hc=>
 cases hc with
 |panic x=>
  obtain⟨d1,_⟩:=hx;generalize hu:a.eval x=u at d1;cases d1 with
  |iface _ _ _ u' d2=>
  have hrun:(execOp a.eval o).run P w=.halt (.panic (.iface t u')) w:=by
   simp[execOp,ho,hu,Instr.panic,goPanic,Sem.run,Result.andThen]
  rw[hrun];exact⟨g,_,σ,hZ,Gm.Le.refl _,r,.iface _ _ _ _ d2⟩
end
end Go.Ah
namespace Go.Ah.Tz
open Go.Proofs.Tryz (prog)
set_option maxRecDepth 100000
attribute [local irreducible] Ans.rd Ans.pu Ans.wr Ans.dr Ans.gr Ans.gw Ans.gl Ans.gd Ans.opt joinK W
set_option maxHeartbeats 8000000
theorem Yda{b:List UInt8}{p c y:Nat}{u:AVal}{σ:List ABlk}{Z:PZ}{K:KT}(hc:hget σ c=.box [byV b,iv p,.bool true])(hy:hget σ y=.box [u])(hcy:y≠c)(hlen:b.length≤1000000000)(hle:p≤b.length)
 (hZ:p=b.length→Z (.iface 182 (.agg [iv p])) σ)
 (hK:∀h:p<b.length,K (.tup []) ((σ.set y (.box [.int .u8 (b[p].toNat:Int)])).set c (.box [byV b,iv (p+1:Nat),.bool true]))):(VV Z).call (.call 108) [.bptr c 0,.bptr y 0] σ K:=by
 refine Ze hP rfl k108.ok rfl ?_;show k108.u (VV Z) [.bptr c 0,.bptr y 0] σ K;rw[H2.e]; unfold k108; dsimp only; simp only[Yb,Qo];refine Za rfl (Za rfl (Za (v:=.bool true) (Zj hc rfl) (Za (X6 ..) (Qf ?_))));refine Za rfl (Za rfl (Za (v:=iv p) (Zj hc rfl) (Za rfl (Za rfl (Za (v:=byV b) (Zj hc rfl) (Za (Qe ..) (Za (YB ..) ?_)))))));refine Qv (Zd (λq=>?_) (λq=>?_))
 ·have q:p=b.length:=by simp at q; omega
  exact Za rfl (Za rfl (Za (v:=iv p) (Zj hc rfl) (Za rfl (Za rfl (Xal (hZ q))))))
 ·have q:p<b.length:=by simp at q; omega
  have hyl:=Qa hy;refine Yd rfl (Yd rfl (Yf (v:=byV b) (Zj hc rfl) rfl (Yd rfl (Yd rfl (Yf (v:=iv p) (Zj hc rfl) rfl ?_)))));refine Yf (Xaq byC false false 1 b .i64 p q) rfl (Yf (v:=.int .u8 (b[p].toNat:Int)) (Yu rfl) rfl (Yd rfl (Yf (stv (row':=[.int .u8 (b[p].toNat:Int)]) hy rfl rfl rfl) (Zb _ hyl) ?_)));refine Xv (by simp[Xf,Xj,Yj,Qp,apart2,disj,List.range,List.range.loop,hcy.symm]) ?_;have hc2:=Xb (x:=.box [.int .u8 (b[p].toNat:Int)]) hc (by simp) hcy;refine Za rfl (Za rfl (Za (v:=iv p) (Zj hc2 rfl) (Za (Xr ..) (Za rfl (Za rfl ?_)))));rw[Zh (n:=p) (by omega)];exact Xd (stv (row':=[byV b,iv (p+1:Nat),.bool true]) hc2 rfl rfl rfl) (Zb _ (Qa hc2)) (hK q)
end Go.Ah.Tz
end
section
namespace Go.Ah.Tz
open Go.Proofs.Tryz (prog)
set_option maxRecDepth 100000
attribute [local irreducible] Ans.rd Ans.pu Ans.wr Ans.dr Ans.gr Ans.gw Ans.gl Ans.gd Ans.opt joinK W
set_option maxHeartbeats 8000000
theorem KB.new{c:Nat}{σ:List ABlk}(x:ABlk):KB c σ (σ++[x]):=⟨by simp,λ_ _ hn=>Qd _ rfl hn⟩
theorem Zcu{k:MK}{xs:List AVal}{b:List UInt8}{p c:Nat}{x1:AVal}{σ:List ABlk}{Z:PZ}{K:KT}(hcal:Zk k xs=some (85,[.bptr c 0,x1]))(hc:hget σ c=.box [byV b,iv p,.bool true])(hlen:b.length≤900000000)(hle:p≤b.length)
 (hnc:∀σ,Qj [x1] σ=.ok x1 [] [])(hl:∀τ,KB c σ τ→∃n rd,Zg false 1 [x1] τ=.ok (iv n) rd [])(hZ:b.length<p+8→∀(q:Nat) τ,KB c σ τ→Z (.iface 182 (.agg [iv q])) τ)
 (hK:p+8≤b.length→∀τ,KB c σ τ→hget τ c=.box [byV b,iv (p+8:Nat),.bool true]→∃up τ',Yn 1 [x1,iv (w64 (d8 ((b.drop p).take 8)))] τ=.ok .junk [] up∧upL τ up=some τ'∧K (.tup []) τ'):(VV Z).call k xs σ K:=by
 refine Ze hP hcal k85.ok rfl ?_;show k85.u (VV Z) [.bptr c 0,x1] σ K;rw[H2.e]; unfold k85; dsimp only; simp only[Yb,Qo,Qh];refine Xp (ι:=Nat) (λr vs τ=>vs=[iv (56-8*(r:Int)),.int .u64 (d8 ((b.drop p).take r):Nat)]∧r≤8∧p+r≤b.length∧KB c σ τ∧hget τ c=.box [byV b,iv (p+r:Nat),.bool true]) (λr=>8-r) 0 ⟨rfl,by omega,by omega,KB.refl c σ,hc⟩ ?_;rintro r vs τ again ⟨rfl,hr,hpr,hk,hb⟩ hag;refine Za (Xbd ..) (Zd (λh=>?_) (λh=>?_))
 ·have h:r<8:=by simp at h; omega
  obtain⟨n,rd,hld⟩:=hl τ hk;refine Za (hnc _) (Za hld (Za (Qk ..) (Za (Qk ..) (Za (Ydh n r h) (Za (Qk ..) ?_)))));generalize IntKind.u8.wrap ((IntKind.u64.wrap n).fdiv (2 ^ (56-8*r)))=w;refine ZbY (row:=[.int .u8 w]) rfl rfl rfl ?_;have hclt:=Qa hb;have hyc:τ.length≠c:=by omega
  have hb1:=Qd [ABlk.box [.int .u8 w]] hb;have hk1:KB c σ (τ++[ABlk.box [.int .u8 w]]):=hk.trans (KB.new _);refine Yda hb1 (Zc _ _) hyc (by omega) hpr (λe=>hZ (by omega) _ _ hk1) λq=>?_;have hset:∀x y:ABlk,((τ++[x]).set τ.length y)=τ++[y]:=λx y=>by
   rw[List.set_append_right _ _ (Nat.le_refl _)]; simp
  rw[hset];have hk2:KB c σ ((τ++[ABlk.box [.int .u8 (b[p+r].toNat:Int)]]).set c (.box [byV b,iv (p+r+1:Nat),.bool true])):=(hk.trans (KB.new _)).trans (KB.set _);have hy2:hget ((τ++[ABlk.box [.int .u8 (b[p+r].toNat:Int)]]).set c (.box [byV b,iv (p+r+1:Nat),.bool true])) τ.length=.box [.int .u8 (b[p+r].toNat:Int)]:=Xb (Zc _ _) (by simp) (Ne.symm hyc);have hb2:hget ((τ++[ABlk.box [.int .u8 (b[p+r].toNat:Int)]]).set c (.box [byV b,iv (p+r+1:Nat),.bool true])) c=.box [byV b,iv (p+r+1:Nat),.bool true]:=Xc (Qd _ hb) (by simp);generalize (τ++[ABlk.box [.int .u8 (b[p+r].toNat:Int)]]).set c (.box [byV b,iv (p+r+1:Nat),.bool true])=τ2 at hk2 hy2 hb2;have hd:=Xb6 r ((b.drop p).take r) (by simp; omega);have hb7:256 ^ r≤256 ^ 7:=Nat.pow_le_pow_right (by omega) (by omega);refine Za rfl (Za (v:=.int .u8 (b[p+r].toNat:Int)) (Zj hy2 rfl) (Za (Qk ..) (Za (Yao _ _ (by omega)) (Za (YaH ..) ?_))));rw[Xcq r h];refine hag (r+1) _ _ (by omega) ⟨?_,by omega,by omega,hk2,hb2⟩;have:(b.drop p).take (r+1)=(b.drop p).take r++[b[p+r]]:=by
   rw[List.take_succ_eq_append_getElem (by simp; omega)]; simp
  rw[this,Xaz]
 ·have h:r=8:=by simp at h; omega
  subst h;refine Za rfl (Za rfl (Za (v:=.bool true) (Zj hb rfl) (Xi ?_)));obtain⟨up,τ',e1,e2,e3⟩:=hK (by omega) τ hk hb;exact Za (Qk ..) (Za (hnc _) (Xd e1 e2 e3))
def nat8(b:List UInt8)(p i:Nat):Int:=w64 (d8 ((b.drop (p+8*i)).take 8))
def nums8(b:List UInt8)(p k:Nat):List Int:=(List.range k).map (nat8 b p)
theorem Xaf(b:List UInt8)(p k:Nat):nums8 b p (k+1)=nums8 b p k++[nat8 b p k]:=by simp[nums8,List.range_succ]
theorem XcX{b:List UInt8}{p c pb:Nat}{ps:List AVal}{σ:List ABlk}{Z:PZ}{K:KT}(T:List Int→List ABlk→Prop)(hc:hget σ c=.box [byV b,iv p,.bool true])(hlen:b.length≤900000000)(hle:p≤b.length)
 (hp:hget σ pb=.rows 1 (ps.map λq=>[q]))(hpc:pb≠c)(hps:ps.length≤1000)(hnc:∀q∈ps,(∀σ,Qj [q] σ=.ok q [] [])∧partA false 0 1 [q]=some q)(h0:T [] σ)
 (hkb:∀ns τ τ',T ns τ→KB c τ τ'→T ns τ')(hld:∀ns τ (h:ns.length<ps.length),T ns τ→∃n rd,Zg false 1 [ps[ns.length]] τ=.ok (iv n) rd [])
 (hst:∀ns τ n (h:ns.length<ps.length),T ns τ→∃up τ',Yn 1 [ps[ns.length],iv n] τ=.ok .junk [] up∧upL τ up=some τ'∧T (ns++[n]) τ'∧hget τ' c=hget τ c∧(hget τ pb=.rows 1 (ps.map λq=>[q])→hget τ' pb=hget τ pb))
 (hZ:∀ns τ (q:Nat),b.length<p+8*ps.length→T ns τ→Z (.iface 182 (.agg [iv q])) τ)
 (hK:p+8*ps.length≤b.length→∀τ,T (nums8 b p ps.length) τ→hget τ c=.box [byV b,iv (p+8*ps.length:Nat),.bool true]→K (.tup []) τ):(VV Z).call (.call 83) [.bptr c 0,.sl pb 0 ps.length true] σ K:=by
 refine Ze hP rfl k83.ok rfl ?_;show k83.u (VV Z) [.bptr c 0,.sl pb 0 ps.length true] σ K;rw[H2.e]; unfold k83; dsimp only; simp only[Yb];refine Za rfl ?_;refine Xp (ι:=Nat) (λi vs τ=>vs=[iv i]∧i≤ps.length∧p+8*i≤b.length∧T (nums8 b p i) τ∧hget τ pb=.rows 1 (ps.map λq=>[q])∧hget τ c=.box [byV b,iv (p+8*i:Nat),.bool true]) (λi=>ps.length-i) 0 ⟨rfl,by omega,by omega,h0,hp,hc⟩ ?_;rintro i vs τ again ⟨rfl,hi,hpi,hT,hpt,hct⟩ hag;refine Za (Qn ..) (Zd (λh=>?_) (λh=>?_))
 ·have h:i<ps.length:=by simpa using h
  have hni:(nums8 b p i).length=i:=by simp[nums8]
  have hix:Xl 1 [.sl pb 0 ps.length true,iv i] τ=.ok (.ptr pb (0+i) 0) [pb] []:=ZcL τ pb 0 ps.length true 1 _ .i64 i h hpt;rw[Nat.zero_add] at hix;have hq:=hnc ps[i] (List.getElem_mem h);have hl:Zg false 1 [.ptr pb i 0] τ=.ok ps[i] [pb] []:=by
   show (match hget τ pb with
   |.rows _ rs=>match nth rs i with
    |some row=>match partA false 0 1 row with
     |some v=>SRes.ok v [pb] []
     |none=>.stop
    |none=>.stop
   | _=>.stop)=_
   rw[hpt];simp[YU,h,hq.2]
  refine Za hix (Za hl ?_);have hgi:∀(hh:(nums8 b p i).length<ps.length),ps[(nums8 b p i).length]=ps[i]:=λhh=>by congr 1
  refine Zcu rfl hct hlen hpi hq.1 (λτ' k=>?_) (λe q τ' k=>hZ _ _ q (by omega) (hkb _ _ _ hT k)) (λh8 τ' k hct'=>?_)
  ·have:=hld (nums8 b p i) τ' (by omega) (hkb _ _ _ hT k)
   rwa [hgi] at this
  ·obtain⟨up,τ2,e1,e2,e3,e4,e5⟩:=hst (nums8 b p i) τ' (nat8 b p i) (by omega) (hkb _ _ _ hT k);rw[hgi] at e1;refine⟨up,τ2,e1,e2,Za (Xr ..) ?_⟩;rw[Zh (n:=i) (by omega)];have hpt':hget τ' pb=.rows 1 (ps.map λq=>[q]):=by rw[k.2 pb hpc (by rw[hpt]; simp)]; exact hpt
   refine hag (i+1) _ _ (by omega) ⟨rfl,by omega,by omega,by rw[Xaf]; exact e3,by rw[e5 hpt']; exact hpt',?_⟩;rw[e4,hct'];rw[show p+8*i+8=p+8*(i+1) by omega]
 ·have h:i=ps.length:=by simp at h; omega
  subst h;exact hK hpi τ hT hct
theorem KB.out{c n:Nat}{σ τ:List ABlk}(h:KB c σ τ)(hn:σ.length≤n)(x:ABlk):KB c σ (τ.set n x):=
 ⟨by simpa using h.1,λd h1 h2=>by
  have h3:=h.2 d h1 h2;have:=hlt h2;rw[Xb h3 h2 (by omega)]⟩
theorem KB.seta{c a:Nat}{σ τ:List ABlk}(h:KB c σ τ)(hac:a≠c)(ha:hget σ a≠.dead)(x:ABlk):KB c (σ.set a x) (τ.set a x):=
 ⟨by simpa using h.1,λd h1 h2=>by
  have hta:hget τ a=hget σ a:=h.2 a hac ha;by_cases e:d=a
  ·subst e;rw[Xc (x:=x) rfl ha,Xc (x:=x) hta ha]
  ·have h3:hget (σ.set a x) d=hget σ d:=by
    by_cases hd:hget σ d=.dead
    ·exfalso;apply h2;have hl:=hlt h2;rw[List.length_set] at hl;have:(σ.set a x)[d]?=σ[d]?:=List.getElem?_set_ne (Ne.symm e);have h5:=Xq (σ:=σ) (b:=d) (x:=σ[d]) (by simp[hl]);have h6:=Xq (σ:=σ.set a x) (b:=d) (x:=σ[d]) (by rw[this]; simp[hl]);rw[h6,←h5,hd]
    ·exact Xb rfl hd (Ne.symm e)
   rw[h3] at h2 ⊢;exact Xb (h.2 d h1 h2) h2 (Ne.symm e)⟩
theorem Qc4{b:List UInt8}{p c a:Nat}{o:Int}{x1 x2 x3 x4 x5:AVal}{σ:List ABlk}{Z:PZ}{K:KT}(hc:hget σ c=.box [byV b,iv p,.bool true])(hlen:b.length≤900000000)(hle:p≤b.length)
 (ha:hget σ a=.box [iv8 o,x1,x2,x3,x4,x5])(hac:a≠c)(hZ:b.length<p+8∨¬R8 (nat8 b p 0)→∀(q:Nat) τ,KB c σ τ→Z (.iface 182 (.agg [iv q])) τ)
 (hK:p+8≤b.length→R8 (nat8 b p 0)→∀τ,KB c (σ.set a (.box [iv8 (nat8 b p 0),x1,x2,x3,x4,x5])) τ→hget τ c=.box [byV b,iv (p+8:Nat),.bool true]→K (.tup []) τ):(VV Z).call (.call 82) [.bptr c 0,.bptr a 0] σ K:=by
 refine Ze hP rfl k82.ok rfl ?_;show k82.u (VV Z) [.bptr c 0,.bptr a 0] σ K;rw[H2.e]; unfold k82; dsimp only; simp only[Yb,Qh];refine Yd rfl (Yd rfl (Yf (v:=iv p) (Zj hc rfl) rfl (Yd rfl (Yf (v:=iv8 o) (Zj ha rfl) rfl (Yd (Qk ..) ?_)))));generalize IntKind.i64.wrap o=o';refine Yf (Yz σ _) (Yi _ _) (Yf (stv (row':=[iv o']) (Zc _ _) rfl rfl rfl) (Zb _ (by simp)) ?_);have hσ:(σ++[ABlk.box [AVal.int .i64 0]]).set σ.length (.box [iv o'])=σ++[.box [iv o']]:=by
  rw[List.set_append_right _ _ (Nat.le_refl _)]; simp
 rw[hσ];have n1:c≠σ.length:=by have:=Qa hc; omega
 have n2:a≠σ.length:=by have:=Qa ha; omega
 refine Xv (by simp[Xf,Xj,Yj,Qp,apart2,disj,List.range,List.range.loop,n1,n2]) ?_;have hn:hget (σ++[ABlk.box [iv o']]) σ.length=.box [iv o']:=Zc _ _;have hk0:KB c σ (σ++[ABlk.box [iv o']]):=KB.new _;refine Zcu rfl (Qd _ hc) hlen hle (λ_=>rfl) (λτ k=>⟨o',_,Zj (by rw[k.2 _ n1.symm (by rw[hn]; simp)]; exact hn) rfl⟩) (λe q τ k=>hZ (.inl e) q τ (hk0.trans k)) (λh8 τ k hct=>?_);have hnt:hget τ σ.length=.box [iv o']:=by rw[k.2 _ n1.symm (by rw[hn]; simp)]; exact hn
 have hv:w64 (d8 ((b.drop p).take 8))=nat8 b p 0:=rfl;rw[hv];generalize hw:nat8 b p 0=w at hK;refine⟨[(σ.length,.box [iv w])],τ.set σ.length (.box [iv w]),stv hnt rfl rfl rfl,Zb _ (Qa hnt),?_⟩;have hkt:KB c σ (τ.set σ.length (.box [iv w])):=(hk0.trans k).out (Nat.le_refl _) _;have hct2:hget (τ.set σ.length (.box [iv w])) c=.box [byV b,iv (p+8:Nat),.bool true]:=Xb hct (by simp) n1.symm;have hnt2:hget (τ.set σ.length (.box [iv w])) σ.length=.box [iv w]:=Xc hnt (by simp);generalize τ.set σ.length (.box [iv w])=τ2 at hkt hct2 hnt2;refine Za (v:=iv w) (Zj hnt2 rfl) (Za (Qn ..) ?_);refine XcC (v1:=iv w) (λ_=>Zj hnt2 rfl) (λ_=>ZW ..) ?_;refine Qv (Zd (λq=>?_) (λq=>?_))
 ·exact Za rfl (Za rfl (Xal (hZ (.inr (by rw[hw]; unfold R8; simp at q; omega)) p τ2 hkt)))
 ·have hr:R8 w:=by
   simp only[Bool.or_eq_false_iff,YDN] at q;unfold R8; omega
  have hat:hget τ2 a=.box [iv8 o,x1,x2,x3,x4,x5]:=by rw[hkt.2 a hac (by rw[ha]; simp)]; exact ha
  refine Za (v:=iv w) (Zj hnt2 rfl) (Za (Qk ..) ?_);rw[Yc2 hr];refine Za rfl (Xd (stv (row':=[iv8 w,x1,x2,x3,x4,x5]) hat rfl rfl rfl) (Zb _ (Qa hat)) ?_);exact hK h8 hr _ (hkt.seta hac (by rw[ha]; simp) _) (Xb hct2 (by simp) hac)
def k1:Code→Code
 |.seq a _=>a
 |c=>c
def k2:Code→Code
 |.seq _ b=>b
 |c=>c
def kOps:Code→Array Oper
 |.region _ ops _=>ops
 |_=>#[]
def b70(P:Program):Code:=match P.funcs[70]? with
 |some f=>f.body.getD .skip
 |none=>.skip
def b88(P:Program):Code:=match P.funcs[88]? with
 |some f=>f.body.getD .skip
 |none=>.skip
def Zco(P:Program):Code:=k1 (b70 P)
def Yco(P:Program):Code:=k1 (k2 (b70 P))
def Xco(P:Program):Code:=k1 (k2 (k2 (b70 P)))
def o70(P:Program):Array Oper:=kOps (k1 (k2 (k2 (k2 (b70 P)))))
def Qco(P:Program):Code:=k2 (k2 (k2 (k2 (b70 P))))
def o88(P:Program):Array Oper:=kOps (k1 (b88 P))
def e88(P:Program):Code:=k2 (b88 P)
theorem Yc9:Go.Proofs.Tryz.f70.body=some (.seq (Zco prog) (.seq (Yco prog) (.seq (Xco prog) (.seq (.region 4 (o70 prog) false) (Qco prog))))):=by kernel_rfl
theorem Xc9:Go.Proofs.Tryz.f88.body=some (.seq (.region 0 (o88 prog) false) (e88 prog)):=by kernel_rfl
def mcC(P:Program)(n:Nat)(c:Code):MCode:=(Qm P GL0 n 0 c).getD .skip
theorem Xbr{n:Nat}{c:Code}(h:(Qm prog GL0 n 0 c).isSome=true)(hl:(XB n c).length=0):CodeOk prog GL0 n c (mcC prog n c):=by
 unfold mcC;cases e:Qm prog GL0 n 0 c with
 |none=>rw[e] at h; cases h
 |some m=>
  refine YaM (λi lr q=>?_) e;rw[List.length_eq_zero_iff.1 hl] at q; cases q
theorem c70_0:CodeOk prog GL0 34 (Zco prog) (mcC prog 34 (Zco prog)):=Xbr (by kernel_rfl) (by kernel_rfl)
theorem c70_1:CodeOk prog GL0 34 (Yco prog) (mcC prog 34 (Yco prog)):=Xbr (by kernel_rfl) (by kernel_rfl)
theorem c70_2:CodeOk prog GL0 34 (Xco prog) (mcC prog 34 (Xco prog)):=Xbr (by kernel_rfl) (by kernel_rfl)
theorem c70_4:CodeOk prog GL0 34 (Qco prog) (mcC prog 34 (Qco prog)):=Xbr (by kernel_rfl) (by kernel_rfl)
theorem c88_1:CodeOk prog GL0 16 (e88 prog) (mcC prog 16 (e88 prog)):=Xbr (by kernel_rfl) (by kernel_rfl)
def Zcm(P:Program):DCode:=(annot 34 (mcC P 34 (Zco P)) []).1
def Ycm(P:Program):DCode:=(annot 34 (mcC P 34 (Yco P)) []).1
def Xcm(P:Program):DCode:=(annot 34 (mcC P 34 (Xco P)) [none]).1
def Qcm(P:Program):DCode:=(annot 34 (mcC P 34 (Qco P)) [none]).1
def d88(P:Program):DCode:=(annot 16 (mcC P 16 (e88 P)) [none,none,none]).1
theorem s70_0:straight true [] (Zcm prog)=true:=by kernel_rfl
theorem s70_1:straight true [] (Ycm prog)=true:=by kernel_rfl
theorem s70_2:straight true [] (Xcm prog)=true:=by kernel_rfl
theorem s70_4:straight false [4,5,6] (Qcm prog)=true:=by kernel_rfl
theorem s88:straight true [] (d88 prog)=true:=by kernel_rfl
theorem z70:(o70 prog).size=2:=by kernel_rfl
theorem z88:(o88 prog).size=1:=by kernel_rfl
def opAt(l:Array Oper)(i:Nat):Oper:=(l[i]?).getD default
theorem ZcO:(o70 prog)[0]?=some (opAt (o70 prog) 0)∧(opAt (o70 prog) 0).op=.makeFunc (.func 88) #[] #[.tmp 7,.tmp 4,.tmp 5,.tmp 6]∧(opAt (o70 prog) 0).dst=some 13∧(opAt (o70 prog) 0).guard=none:=⟨by kernel_rfl,by kernel_rfl,by kernel_rfl,by kernel_rfl⟩
theorem YcO:(o70 prog)[1]?=some (opAt (o70 prog) 1)∧(opAt (o70 prog) 1).op=.defer ⟨.value (.tmp 13),#[],#[]⟩∧(opAt (o70 prog) 1).dst=none∧(opAt (o70 prog) 1).guard=none:=⟨by kernel_rfl,by kernel_rfl,by kernel_rfl,by kernel_rfl⟩
theorem o88_0:(o88 prog)[0]?=some (opAt (o88 prog) 0)∧(∃c,(opAt (o88 prog) 0).op=.call ⟨.builtin .recover,#[],c⟩)∧(opAt (o88 prog) 0).dst=some 7∧(opAt (o88 prog) 0).guard=none:=⟨by kernel_rfl,⟨#[],by kernel_rfl⟩,by kernel_rfl,by kernel_rfl⟩
theorem r70:All2 (RvOk prog) Go.Proofs.Tryz.f70.results.toList [.c 4 true 6,.c 5 false 1,.c 6 false 1]:=QZ (f:=Ybb prog) Yaz (by kernel_rfl)
theorem r88:All2 (RvOk prog) Go.Proofs.Tryz.f88.results.toList []:=QZ (f:=Ybb prog) Yaz (by kernel_rfl)
theorem n70:Go.Proofs.Tryz.f70.ntmps=34:=by kernel_rfl
theorem n88:Go.Proofs.Tryz.f88.ntmps=16:=by kernel_rfl
theorem Zdb(x0 x1:AVal)(α:Type)(A:Ans α)(σ:List ABlk)(K R:List AVal→List ABlk→α) :
  dn A (Zcm prog) (frame0 [x0,x1]) σ (λρ σ=>dn A (Ycm prog) ρ σ (λρ σ=>dn A (Xcm prog) ρ σ (λρ σ=>K (getF ρ [0,1,4,5,6,7]) σ) (λ_ _ _=>A.stop) (λρ σ=>R (getF ρ [4,5,6]) σ)) (λ_ _ _=>A.stop) (λρ σ=>R (getF ρ [4,5,6]) σ)) (λ_ _ _=>A.stop) (λρ σ=>R (getF ρ [4,5,6]) σ) =
  (A.wr (ZC [.int .i8 0,.int .i64 0,.int .i64 0,.int .i64 0,.nils,.nils] [] σ) σ λt4 σ=>A.wr (ZC [.int .i64 0] [] σ) σ λt5 σ=>A.wr (ZC [.int .i64 0] [] σ) σ λt6 σ=>A.wr (ZC [.int .i8 0,.int .i64 0,.int .i64 0,.int .i64 0,.nils,.nils] [] σ) σ λt7 σ=>
   A.rd (QG [x0] σ) λt10=>A.rd (QF .gtr false [t10,.int .i64 1048576] σ) λt11=>A.test t11
    (A.rd (Zg true 6 [t7] σ) λt12=>A.wr (Yn 6 [t4,t12] σ) σ λ_ σ=>A.wr (Yn 1 [t5,.int .i64 0] σ) σ λ_ σ=>A.wr (Yn 1 [t6,.int .i64 3] σ) σ λ_ σ=>R [t4,t5,t6] σ)
    (K [x0,x1,t4,t5,t6,t7] σ)):=by kernel_rfl
def fin70{α:Type}(A:Ans α)(x4 x5 x6:AVal)(σ:List ABlk)(R:List AVal→List ABlk→α):α:=
 A.rd (Zg true 6 [x4] σ) λt33=>A.wr (Yn 6 [x4,t33] σ) σ λ_ σ=>A.wr (Yn 1 [x5,.int .i64 0] σ) σ λ_ σ=>A.wr (Yn 1 [x6,.int .i64 0] σ) σ λ_ σ=>R [x4,x5,x6] σ
theorem Ydb(x0 x1 x4 x5 x6:AVal)(α:Type)(A:Ans α)(σ:List ABlk)(R:List AVal→List ABlk→α) :
  dn A (Qcm prog) [(0,x0),(1,x1),(4,x4),(5,x5),(6,x6)] σ (λ_ _=>A.stop) (λ_ _ _=>A.stop) (λρ σ=>R (getF ρ [4,5,6]) σ) =
  (A.rd (XN [.nils,.int .i64 0,.bool false] [(0,1),(2,1)] [x0,.bool true] σ) λt15=>A.wr (Xaw [t15] σ) σ λt16 σ=>A.call .callv [x1,t16,x4] σ λ_ σ=>
   A.rd (Qj [t16] σ) λt21=>A.rd (Ye 1 [t21] σ) λt22=>A.rd (Zg false 1 [t22] σ) λt23=>A.rd (QG [x0] σ) λt25=>A.rd (QF .lss false [t23,t25] σ) λt26=>
   A.test t26
    (A.rd (Qj [t16] σ) λt28=>A.rd (Ye 1 [t28] σ) λt29=>A.rd (Zg false 1 [t29] σ) λt30=>A.rd (XN [.int .i64 0] [(0,1)] [t30] σ) λt31=>A.rd (Zy 182 [t31] σ) λt32=>A.call (.x .panic) [t32] σ λ_ σ=>fin70 A x4 x5 x6 σ R)
    (fin70 A x4 x5 x6 σ R)):=by kernel_rfl
theorem d88e(x0 x1 x2 x3 x7:AVal)(α:Type)(A:Ans α)(σ:List ABlk)(K:List ABlk→α) :
  dn A (d88 prog) [(0,x0),(1,x1),(2,x2),(3,x3),(7,x7)] σ (λ_ σ=>K σ) (λ_ _ _=>A.stop) (λ_ _=>A.stop) =
  (A.rd (YR .iface false false [x7,.nili] σ) λt9=>A.test t9 (K σ)
   (A.rd (YC 182 true (.agg [.int .i64 0]) [x7] σ) λt10=>A.rd (Zv 1 [t10] σ) λt11=>A.rd (Zv 0 [t10] σ) λt12=>A.test t11
    (A.wr (ZC [.int .i64 0] [] σ) σ λt5 σ=>A.wr (Yn 1 [t5,t12] σ) σ λ_ σ=>A.dr (Zg true 6 [x0] σ) σ λt13 l8 σ=>A.pu (Ye 0 [t5] σ) λt14=>A.dr (Zg false 1 [t14] σ) σ λt15 l11 σ=>
     A.dr (Yn 6 [x1,t13] σ) σ λ_ l12 σ=>A.dr (Yn 1 [x2,t15] σ) σ λ_ l13 σ=>A.dr (Yn 1 [x3,.int .i64 180] σ) σ λ_ l14 σ=>
     A.gd (Xf [[],[],[1],[0],[0,1,2,3],[0,1,2,3,4]] [l8,([],[]),l11,l12,l13,l14]) (K σ))
    (A.call (.x .panic) [x7] σ λ_ σ=>K σ))):=by kernel_rfl
abbrev Fl(α:Type):=List UInt8×Bool→α×List UInt8×Bool
structure Agr {α:Type} (F:Fl α) (O:Rd α):Prop where
 yes:∀r a r',O r=some (a,r')→F (r,false)=(a,r',false)
 no:∀r,O r=none→(F (r,false)).2.2=true
 bad:∀r,(F (r,true)).2.2=true
theorem Xz:Agr numF numO where
 yes:=λr a r' e=>by
  unfold numO at e;split at e
  ·cases e
  ·rename_i hl;simp at e;obtain⟨rfl,rfl⟩:=e;simp only[numF,tk];rw[YIN (by simp; omega)];rfl
 no:=λr e=>by
  unfold numO at e;split at e
  ·simp only[numF,tk];rw[YIP (by simp; omega)]
  ·cases e
 bad:=λr=>by
  simp only[numF,tk];split<;>rfl
def textO:Rd (List UInt8):=λr=>(numO r).bind λx=>if x.1<0∨(x.2.length:Int)<x.1 then none else some (x.2.take x.1.toNat,x.2.drop x.1.toNat)
theorem Zbj:Agr textF textO where
 yes:=λr a r' e=>by
  unfold textO at e;cases h1:numO r with
  |none=>simp[h1] at e
  |some x=>
   have h2:=Xz.yes r x.1 x.2 h1;simp only[h1,Option.bind_some] at e;simp only[textF,h2,tk];split at e
   ·cases e
   ·rename_i hn; rw[YIN hn]; simp at e; obtain⟨rfl,rfl⟩:=e; rfl
 no:=λr e=>by
  unfold textO at e;cases h1:numO r with
  |none=>
   have h2:=Xz.no r h1;simp only[textF,tk];split
   ·rfl
   ·exact h2
  |some x=>
   have h2:=Xz.yes r x.1 x.2 h1;simp only[h1,Option.bind_some] at e;simp only[textF,h2,tk];split at e
   ·rename_i hn; rw[YIP hn]
   ·cases e
 bad:=λr=>by
  have h2:=Xz.bad r;simp only[textF,tk];split
  ·rfl
  ·exact h2
theorem YaV:Fits (λs=>s.length≤9223372036854775807) strQ textO where
 to:=λs r h=>by
  unfold textO strQ;rw[List.append_assoc,Xm.to _ _ (by unfold R64; omega)];simp only[Option.bind_some];rw[YIN (by simp; omega)];simp
 back:=λr s r' e=>by
  unfold textO at e;cases h1:numO r with
  |none=>simp[h1] at e
  |some x=>
   simp only[h1,Option.bind_some] at e;split at e
   ·cases e
   ·rename_i hn;simp at e;obtain⟨rfl,rfl⟩:=e;obtain⟨k1,k2⟩:=Xm.back _ _ _ h1;unfold R64 at k1;have hl:((x.2.take x.1.toNat).length:Int)=x.1:=by simp; omega
    refine⟨by omega,?_⟩;rw[k2,strQ,hl,List.append_assoc,List.take_append_drop]
theorem Xaa:∀(n:Nat) (r:List UInt8),(rowNF n (r,true)).2.2=true
 |0,_=>rfl
 |n+1,r=>by
  rw[rowNF];have h2:=Xz.bad r;rcases hq:numF (r,true) with ⟨a,r',q⟩
  rw[hq] at h2;have h2:q=true:=h2;subst h2;exact Xaa n r'
theorem ZbI:∀n:Nat,Agr (rowNF n) (repO numO n)
 |0=>⟨λr a r' e=>by simp[repO] at e; obtain⟨rfl,rfl⟩:=e; rfl,λr e=>by simp[repO] at e,λr=>rfl⟩
 |n+1=>by
  have ih:=ZbI n;refine⟨λr a r' e=>?_,λr e=>?_,Xaa (n+1)⟩
  ·unfold repO at e;cases h1:numO r with
   |none=>simp[h1] at e
   |some x=>
    cases h2:repO numO n x.2 with
    |none=>simp[h1,h2] at e
    |some y=>
     simp[h1,h2] at e;obtain⟨rfl,rfl⟩:=e;rw[rowNF,Xz.yes r x.1 x.2 h1];simp only[ih.yes x.2 y.1 y.2 h2]
  ·unfold repO at e;cases h1:numO r with
   |none=>
    have h2:=Xz.no r h1;rw[rowNF];rcases hq:numF (r,false) with ⟨a,r',q⟩
    rw[hq] at h2;have h2:q=true:=h2;subst h2;exact Xaa n r'
   |some x=>
    rw[rowNF,Xz.yes r x.1 x.2 h1];cases h2:repO numO n x.2 with
    |none=>exact ih.no x.2 h2
    |some y=>simp[h1,h2] at e
theorem Zbg:Agr listF (listO 8 numO) where
 yes:=λr a r' e=>by
  unfold listO at e;cases h1:numO r with
  |none=>simp[h1] at e
  |some x=>
   have h2:=Xz.yes r x.1 x.2 h1;simp only[h1,Option.bind_some] at e;simp only[listF,h2];split at e
   ·cases e
   ·rename_i hn; rw[YIN hn]; exact(ZbI _).yes _ _ _ e
 no:=λr e=>by
  unfold listO at e;cases h1:numO r with
  |none=>
   have h2:=Xz.no r h1;simp only[listF];split
   ·rfl
   ·rcases hq:numF (r,false) with ⟨a,r',q⟩
    rw[hq] at h2;have h2:q=true:=h2;subst h2;exact Xaa _ r'
  |some x=>
   have h2:=Xz.yes r x.1 x.2 h1;simp only[h1,Option.bind_some] at e;simp only[listF,h2];split at e
   ·rename_i hn; rw[YIP hn]
   ·rename_i hn; rw[YIN hn]; exact(ZbI _).no _ e
 bad:=λr=>by
  have h2:=Xz.bad r;simp only[listF];split
  ·rfl
  ·rcases hq:numF (r,true) with ⟨a,r',q⟩
   rw[hq] at h2;have h2:q=true:=h2;subst h2;exact Xaa _ r'
def ki(u:UInt8):Int:=IntKind.i8.wrap (u.toNat:Int)
theorem Xdf(u:UInt8):k8 (ki u)=u:=by
 have h:=u.toNat_lt;apply UInt8.toNat_inj.1;simp[k8,ki,IntKind.wrap,IntKind.bits,IntKind.signed]; omega
abbrev Bg:=Int×List UInt8×List UInt8×List UInt8×List Int×List Int×List Int
def begO:Rd Bg:=seqR numO (seqR textO (seqR textO (seqR textO (seqR (listO 8 numO) (seqR (listO 8 numO) (listO 8 numO))))))
def zAc:Ac:=⟨0,0,0,0,[],[]⟩
def begD(k g:Int)(y:Bg):De:=⟨k,g,y.1,y.2.1,y.2.2.1,y.2.2.2.1,y.2.2.2.2.1,y.2.2.2.2.2.1,y.2.2.2.2.2.2,zAc⟩
def actD(k g:Int)(a:Ac):De:=⟨k,g,0,[],[],[],[],[],[],a⟩
def readO(b:List UInt8):Option De:=match b with
 |[]=>none
 |u::r=>(numO r).bind λg=>
  if ki u=1 then (begO g.2).bind λy=>if y.2=[]∧mayD (begD (ki u) g.1 y.1)=true then some (begD (ki u) g.1 y.1) else none
  else if ki u=2 then (actO g.2).bind λy=>if y.2=[]∧mayD (actD (ki u) g.1 y.1)=true then some (actD (ki u) g.1 y.1) else none
  else none
structure RowOk (l:List Int):Prop where
 len:l.length≤9223372036854775807
 all:∀a∈l,R64 a
structure DeOk (x:De):Prop where
 kind:R8 x.kind
 game:R64 x.game
 table:R64 x.table
 fmt:x.fmt.length≤9223372036854775807
 n0:x.n0.length≤9223372036854775807
 n1:x.n1.length≤9223372036854775807
 d0:RowOk x.d0
 d1:RowOk x.d1
 dr:RowOk x.dr
 ac:AcOk x.ac
theorem Qbl:Fits (λx:Bg=>R64 x.1∧x.2.1.length≤9223372036854775807∧x.2.2.1.length≤9223372036854775807∧x.2.2.2.1.length≤9223372036854775807∧(x.2.2.2.2.1.length≤9223372036854775807∧∀a∈x.2.2.2.2.1,R64 a)∧(x.2.2.2.2.2.1.length≤9223372036854775807∧∀a∈x.2.2.2.2.2.1,R64 a)∧(x.2.2.2.2.2.2.length≤9223372036854775807∧∀a∈x.2.2.2.2.2.2,R64 a))
  (λx=>n8 x.1++(strQ x.2.1++(strQ x.2.2.1++(strQ x.2.2.2.1++(listQ n8 x.2.2.2.2.1++(listQ n8 x.2.2.2.2.2.1++listQ n8 x.2.2.2.2.2.2)))))) begO:=Xm.seq (YaV.seq (YaV.seq (YaV.seq ((YZ Xm (each:=8) (by omega) Xg).seq ((YZ Xm (each:=8) (by omega) Xg).seq (YZ Xm (each:=8) (by omega) Xg))))))
theorem Qdk:AcOk zAc:=⟨by simp[R8,zAc],by simp[R64,zAc],by simp[R64,zAc],by simp[R64,zAc],by simp[zAc],by simp[zAc],by simp[zAc],by simp[zAc]⟩
theorem XaR:RowOk []:=⟨by simp,by simp⟩
theorem Yb8{b:List UInt8}{x:De}(h:readO b=some x):mayD x=true∧DeOk x∧deQ x=b:=by
 unfold readO at h;split at h
 ·cases h
 ·rename_i u r;cases h1:numO r with
  |none=>simp[h1] at h
  |some g=>
   obtain⟨k1,k2⟩:=Xm.back _ _ _ h1;have hk8:R8 (ki u):=by
    have:=u.toNat_lt;unfold R8 ki;simp[IntKind.wrap,IntKind.bits,IntKind.signed]; omega
   simp only[h1,Option.bind_some] at h;split at h
   ·rename_i hk;cases h2:begO g.2 with
    |none=>simp[h2] at h
    |some y=>
     simp only[h2,Option.bind_some] at h;split at h
     ·rename_i hy;cases h;obtain⟨q,e⟩:=Qbl.back _ _ _ h2;obtain⟨q1,q2,q3,q4,q5,q6,q7⟩:=q;refine⟨hy.2,⟨hk8,k1,q1,q2,q3,q4,⟨q5.1,q5.2⟩,⟨q6.1,q6.2⟩,⟨q7.1,q7.2⟩,Qdk⟩,?_⟩;rw[deQ,YIN (by simp only[begD]; omega),k2,e,hy.1];simp[begD,Xdf,begQ]
     ·cases h
   ·split at h
    ·rename_i hk;cases h2:actO g.2 with
     |none=>simp[h2] at h
     |some y=>
      simp only[h2,Option.bind_some] at h;split at h
      ·rename_i hy;cases h;obtain⟨q,e⟩:=ZaM.back _ _ _ h2;refine⟨hy.2,⟨hk8,k1,by simp[R64,actD],by simp[actD],by simp[actD],by simp[actD],XaR,XaR,XaR,q⟩,?_⟩;rw[deQ,YIP (by simp only[actD]; exact hk),k2,e,hy.1];simp[actD,Xdf]
      ·cases h
    ·cases h
def d4(l:List UInt8):Nat:=l.foldl (λa x=>a*256+x.toNat) 0
theorem n4_d4:∀ {l:List UInt8},l.length=4→n4 (d4 l)=l:=by
 intro l h
 match l,h with
 |[a,b,c,d],_=>
  have:=a.toNat_lt; have:=b.toNat_lt; have:=c.toNat_lt; have:=d.toNat_lt;have key:∀(x:UInt8) (m:Nat),m%256=x.toNat→UInt8.ofNat m=x:=λx m q=>by
   apply UInt8.toNat_inj.1; simpa using q
  simp only[d4,n4,List.foldl_cons,List.foldl_nil,List.cons.injEq,and_true];refine⟨key _ _ ?_,key _ _ ?_,key _ _ ?_,key _ _ ?_⟩<;>omega
def archO:Nat→List UInt8→Option (List De)
 |_,[]=>some []
 |0,_::_=>none
 |f+1,u::r=>if (u::r).length<4∨(u::r).length<4+d4 ((u::r).take 4) then none else
  (readO (((u::r).drop 4).take (d4 ((u::r).take 4)))).bind λx=>(archO f ((u::r).drop (4+d4 ((u::r).take 4)))).map λl=>x::l
theorem Ybl:∀(f:Nat) (b:List UInt8) (l:List De),archO f b=some l→l.flatMap recQ=b∧∀x∈l,mayD x=true∧DeOk x
 |f,[],l,e=>by
  cases f<;>(simp[archO] at e; subst e; simp)
 |0,u::r,l,e=>by simp[archO] at e
 |f+1,u::r,l,e=>by
  unfold archO at e;split at e
  ·cases e
  ·rename_i hn;generalize hb:u::r=b at *;cases h1:readO ((b.drop 4).take (d4 (b.take 4))) with
   |none=>simp[h1] at e
   |some x=>
    cases h2:archO f (b.drop (4+d4 (b.take 4))) with
    |none=>simp[h1,h2] at e
    |some m=>
     simp[h1,h2] at e;subst e;obtain⟨k1,k2⟩:=Ybl f _ _ h2;obtain⟨q1,q2,q3⟩:=Yb8 h1;refine⟨?_,λy hy=>?_⟩
     ·have hlen:((b.drop 4).take (d4 (b.take 4))).length=d4 (b.take 4):=by simp; omega
      rw[List.flatMap_cons,recQ,q3,hlen,n4_d4 (by simp; omega),k1,List.append_assoc,←List.drop_drop];rw[List.take_append_drop,List.take_append_drop]
     ·rcases List.mem_cons.1 hy with rfl|hy
      ·exact⟨q1,q2⟩
      ·exact k2 _ hy
end Go.Ah.Tz
end
section
namespace Go.Ah
theorem Ybs{P:Program}{GL:Globs}{f:FuncId}{xs ys:List AVal}{v:AVal}(h:PCall P GL f ys v)(hw:∀(M:Nat→Option Obj) (vs:List Value),DenL ⟨M,noOwn,[]⟩ xs vs→DenL ⟨M,noOwn,[]⟩ ys vs):PCall P GL f xs v:=λw M vs hM hg hx=>h w M vs hM hg (hw M vs hx)
theorem Den.cap0_rsl{M:Nat→Option Obj}{c:Own}{u:Value}(sz:Nat)(h:Den M c .cap0 u):Den M c (.rsl false false sz []) u:=by
 cases h with
 |cap0 _ a=>exact .rsl _ _ _ _ [] a 0 0 0 (λ_ _=>undef) (λh=>by cases h) (λh=>by cases h) (λh=>(h rfl).elim) (λ_=>rfl) (by simp) (by simp) (by simp) (by simp)
end Go.Ah
namespace Go.Ah.Tz
open Go.Proofs.Tryz (prog)
set_option maxRecDepth 100000
theorem XcO{f:FuncId}{v:AVal}{l:List UInt8}(h:PC f [byV l] v){n:Bool}{e:Bool}:PC f [.rsl e n 1 (l.map byC)] v:=
 Ybs h λM vs d=>by
  match vs,d with
  |[u],⟨d1,d2⟩=>exact⟨d1.rsl_weak,d2⟩
theorem Zcv{f:FuncId}{v:AVal}(h:PC f [byV []] v):PC f [.cap0] v:=
 Ybs h λM vs d=>by
  match vs,d with
  |[u],⟨d1,d2⟩=>exact⟨d1.cap0_rsl 1,d2⟩
theorem sl5{σ:List ABlk}(e n:Bool)(l:List UInt8)(m:Nat)(h:m≤l.length):∃x,Zt 1 [.rsl e n 1 (l.map byC),iv m,iv m] σ=.ok x [] []∧x.ro=true∧∀ {f:FuncId} {v:AVal},PC f [byV (l.take m)] v→PC f [x] v:=by
 cases m with
 |zero=>exact⟨.cap0,rfl,rfl,λh=>Zcv (by simpa using h)⟩
 |succ m=>
  refine⟨.rsl true n 1 ((l.take (m+1)).map byC),?_,?_,λh=>XcO h⟩
  ·have h1:Nat.ble (m+1) (l.map byC).length=true:=Nat.ble_eq_true_of_le (by simpa using h);show Zt 1 [.rsl e n 1 (l.map byC),.int .i64 (Int.ofNat (m+1)),.int .i64 (Int.ofNat (m+1))] σ=_;simp only[Zt,show Nat.beq (m+1) 0=false from rfl,Bool.false_and,cond_false,h1,Nat.beq_refl,Bool.and_self,cond_true,cut,List.drop_zero,List.map_take,List.take_length]
  ·rfl
end Go.Ah.Tz
end
section
namespace Go.Ah.Tz
open Go.Proofs.Tryz (prog)
set_option maxRecDepth 100000
def DL(l:List De)(v:AVal)(σ:List ABlk):Prop:=(v=.nils∧l=[])∨∃b ex,v=.sl b 0 l.length ex∧hget σ b=.rows 15 (l.map deC)
theorem QbN(l:List De):Zx (l.map deC)=true:=XQ λr hr=>by obtain⟨x,_,rfl⟩:=List.mem_map.1 hr; rfl
theorem DL.more{l:List De}{v:AVal}{σ:List ABlk}(h:DL l v σ)(x:List ABlk):DL l v (σ++x):=by
 rcases h with h|⟨b,ex,h2,h3⟩
 ·exact .inl h
 ·exact .inr ⟨b,ex,h2,Qd x h3⟩
theorem DL.upd{l m:List De}{v y:AVal}{σ:List ABlk}{rd:List Nat}(h:DL l v σ)(hs:Zp 15 σ y=some (m.map deC,rd))(hroom:l.length+m.length≤1000000000) :
  ∃v' up σ',Yh 15 224 [v,y] σ=.ok v' rd up∧upL σ up=some σ'∧Kp v σ σ'∧DL (l++m) v' σ'∧v'=.sl σ.length 0 (l++m).length false∧up.map (·.1)=upsOf v σ.length:=by
 have hb:Nat.ble ((2*(l.length+m.length)+192)*224) (2 ^ 48)=true:=Nat.ble_eq_true_of_le (by omega);rcases h with ⟨rfl,rfl⟩|⟨b,ex,rfl,hg⟩
 ·refine⟨.sl σ.length 0 m.length false,[(σ.length,.rows 15 (m.map deC))],σ++[.rows 15 (m.map deC)],?_,Yi _ _,⟨by simp,λc hc _=>Qd _ rfl hc⟩,.inr ⟨_,false,rfl,Zc _ _⟩,rfl,rfl⟩;show Zn 15 224 σ [] [] y=_;unfold Zn;have hb2:Nat.ble ((2*m.length+192)*224) (2 ^ 48)=true:=Nat.ble_eq_true_of_le (by simp at hroom; omega);simp only[hs,QbN,List.length_map,List.length_nil,Nat.zero_add,hb2,Bool.and_self,cond_true,List.nil_append]
 ·refine⟨.sl σ.length 0 (l++m).length false,[(b,.dead)]++[(σ.length,.rows 15 ((l++m).map deC))],σ.set b .dead++[.rows 15 ((l++m).map deC)],?_,Zah _ _ (Qa hg),⟨by simp,λc hc hn=>?_⟩,.inr ⟨_,false,rfl,?_⟩,rfl,rfl⟩
  ·have:Yh 15 224 [.sl b 0 l.length ex,y] σ=Zn 15 224 σ (l.map deC) [(b,.dead)] y:=by
    simp[Yh,X5,hg]
   rw[this];unfold Zn;simp only[hs,QbN,List.length_map,hb,Bool.and_self,cond_true,List.length_append,List.map_append]
  ·refine(Qd _ (Xb rfl hc ?_) hc);rintro rfl; exact hn _ _ _ rfl
  ·have:=Zc (σ.set b .dead) (.rows 15 ((l++m).map deC));simpa using this
theorem de_ro(l:List De):∀r∈l.map deC,roL r=true:=by
 intro r hr;obtain⟨x,_,rfl⟩:=List.mem_map.1 hr; rfl
theorem DL.bor{l:List De}{v:AVal}{σ:List ABlk}(h:DL l v σ):∃rd,Bor (hp σ) rd v (deV l):=by
 rcases h with ⟨rfl,rfl⟩|⟨b,ex,rfl,hb⟩
 ·exact⟨[],Bor.weak (Bor.ro rfl) (λM u d=>d.nils_rsl 15)⟩
 ·exact⟨[b],Bor.own hb (by simp) (by simp) (Zas _ _ (by simp)) (de_ro l)⟩
theorem Xcu{m n:Nat}(hm:m<4611686018427387904)(hn:n<4611686018427387904):bits .or .i64 (m:Int) (n:Int)=((m ||| n:Nat):Int):=by
 have h1:(BitVec.ofInt IntKind.i64.bits (m:Int)).toNat=m:=by
  rw[show IntKind.i64.bits=64 from rfl,BitVec.ofInt_natCast,BitVec.toNat_ofNat]; exact Nat.mod_eq_of_lt (by omega)
 have h2:(BitVec.ofInt IntKind.i64.bits (n:Int)).toNat=n:=by
  rw[show IntKind.i64.bits=64 from rfl,BitVec.ofInt_natCast,BitVec.toNat_ofNat]; exact Nat.mod_eq_of_lt (by omega)
 show IntKind.i64.wrap ((BitVec.ofInt IntKind.i64.bits (m:Int) ||| BitVec.ofInt IntKind.i64.bits (n:Int)).toNat:Int)=_;have h3:m ||| n<2 ^ 62:=Nat.or_lt_two_pow (by omega) (by omega);rw[BitVec.toNat_or,h1,h2];exact Xah (by omega)
theorem Xcs(a x i:Nat)(h:x<2 ^ i):a*2 ^ i ||| x=a*2 ^ i+x:=by
 have:=Nat.shiftLeft_add_eq_or_of_lt (b:=x) (i:=i) h a;rw[Nat.shiftLeft_eq] at this;exact this.symm
theorem or4(a b c d:UInt8):bits .or .i64 (bits .or .i64 (bits .or .i64 (IntKind.i64.wrap (IntKind.i64.wrap (a.toNat:Int)*2 ^ 24)) (IntKind.i64.wrap (IntKind.i64.wrap (b.toNat:Int)*2 ^ 16))) (IntKind.i64.wrap (IntKind.i64.wrap (c.toNat:Int)*2 ^ 8))) (IntKind.i64.wrap (d.toNat:Int))=((d4 [a,b,c,d]:Nat):Int):=by
 have ha:=a.toNat_lt; have hb:=b.toNat_lt; have hc:=c.toNat_lt; have hd:=d.toNat_lt;have w:∀n:Nat,n<4611686018427387904→IntKind.i64.wrap (n:Int)=(n:Int):=λn h=>Xah (by omega);rw[w a.toNat (by omega),w b.toNat (by omega),w c.toNat (by omega),w d.toNat (by omega)];rw[show ((a.toNat:Int)*2 ^ 24)=((a.toNat*16777216:Nat):Int) by rw[Int.natCast_mul]; rfl,show ((b.toNat:Int)*2 ^ 16)=((b.toNat*65536:Nat):Int) by rw[Int.natCast_mul]; rfl,show ((c.toNat:Int)*2 ^ 8)=((c.toNat*256:Nat):Int) by rw[Int.natCast_mul]; rfl];rw[w (a.toNat*16777216) (by omega),w (b.toNat*65536) (by omega),w (c.toNat*256) (by omega),Xcu (by omega) (by omega)];have e1:a.toNat*16777216 ||| b.toNat*65536=a.toNat*16777216+b.toNat*65536:=Xcs a.toNat (b.toNat*65536) 24 (by omega);rw[e1,Xcu (by omega) (by omega)];have e2:(a.toNat*16777216+b.toNat*65536) ||| c.toNat*256=a.toNat*16777216+b.toNat*65536+c.toNat*256:=by
  have:=Xcs (a.toNat*256+b.toNat) (c.toNat*256) 16 (by omega);rw[show (a.toNat*256+b.toNat)*2 ^ 16=a.toNat*16777216+b.toNat*65536 by omega] at this;exact this
 rw[e2,Xcu (by omega) (by omega)];have e3:(a.toNat*16777216+b.toNat*65536+c.toNat*256) ||| d.toNat=a.toNat*16777216+b.toNat*65536+c.toNat*256+d.toNat:=by
  have:=Xcs (a.toNat*65536+b.toNat*256+c.toNat) d.toNat 8 (by omega);rw[show (a.toNat*65536+b.toNat*256+c.toNat)*2 ^ 8=a.toNat*16777216+b.toNat*65536+c.toNat*256 by omega] at this;exact this
 rw[e3];simp only[d4,List.foldl_cons,List.foldl_nil];omega
theorem Ya0:∀(f g:Nat) (b:List UInt8),b.length≤f→b.length≤g→archO f b=archO g b
 |f,g,[],_,_=>by cases f<;>cases g<;>rfl
 |0,_,_::_,h,_=>by simp at h
 |_+1,0,_::_,_,h=>by simp at h
 |f+1,g+1,u::r,h1,h2=>by
  unfold archO;split
  ·rfl
  ·rename_i hn;rw[Ya0 f g _ (by simp at *; omega) (by simp at *; omega)]
def archF(b:List UInt8):Option (List De):=archO b.length b
theorem Zbl:archF []=some []:=rfl
theorem Qbk{b:List UInt8}(h0:b≠[])(h:b.length<4∨b.length<4+d4 (b.take 4)):archF b=none:=by
 cases b with
 |nil=>exact(h0 rfl).elim
 |cons u r=>unfold archF; rw[List.length_cons,archO,YIP (by simpa using h)]
theorem Za0{b:List UInt8}(h0:b≠[])(h:¬(b.length<4∨b.length<4+d4 (b.take 4))) :
  archF b=(readO ((b.drop 4).take (d4 (b.take 4)))).bind λx=>(archF (b.drop (4+d4 (b.take 4)))).map λl=>x::l:=by
 cases b with
 |nil=>exact(h0 rfl).elim
 |cons u r=>
  unfold archF;rw[List.length_cons,archO,YIN (by simpa using h)]
  congr 1
  funext x
  rw[Ya0 r.length _ _ (by simp; omega) (Nat.le_refl _)]
theorem Yl{b:List UInt8}{p:Nat}(h:p+8≤b.length):numO (b.drop p)=some (nat8 b p 0,b.drop (p+8)):=by
 unfold numO;rw[YIN (by simp; omega)];simp[nat8,List.drop_drop]
theorem QM{b:List UInt8}{p:Nat}(h:b.length<p+8):numO (b.drop p)=none:=by
 unfold numO;rw[YIP (by simp; omega)]
theorem Qau(b:List UInt8)(p i:Nat):nat8 b (p+8) i=nat8 b p (i+1):=by
 unfold nat8;rw[show p+8+8*i=p+8*(i+1) by omega]
theorem QaK:∀(n:Nat) (b:List UInt8) (p:Nat),p+8*n≤b.length→repO numO n (b.drop p)=some (nums8 b p n,b.drop (p+8*n))
 |0,b,p,_=>rfl
 |n+1,b,p,h=>by
  unfold repO;rw[Yl (by omega)];simp only[Option.bind_some];rw[QaK n b (p+8) (by omega)];simp only[Option.map_some,nums8,List.range_succ_eq_map,List.map_cons,List.map_map];rw[show p+8+8*n=p+8*(n+1) by omega]
  congr 3
  apply List.map_congr_left;intro i _;exact Qau b p i
def pairs8(b:List UInt8)(p k:Nat):List (Int×Int):=(List.range k).map λi=>(nat8 b p (2*i),nat8 b p (2*i+1))
theorem XaQ(b:List UInt8)(p k:Nat):pairs8 b p (k+1)=pairs8 b p k++[(nat8 b p (2*k),nat8 b p (2*k+1))]:=by simp[pairs8,List.range_succ]
theorem YaR:∀(n:Nat) (b:List UInt8) (p:Nat),p+16*n≤b.length→repO prO n (b.drop p)=some (pairs8 b p n,b.drop (p+16*n))
 |0,b,p,_=>rfl
 |n+1,b,p,h=>by
  unfold repO prO seqR;rw[Yl (by omega)];simp only[Option.bind_some];rw[Yl (by omega)];simp only[Option.map_some,Option.bind_some];have ih:=YaR n b (p+16) (by omega);unfold prO seqR at ih;rw[show p+8+8=p+16 by omega,ih];simp only[Option.map_some,pairs8,List.range_succ_eq_map,List.map_cons,List.map_map];rw[show p+16+16*n=p+16*(n+1) by omega];have e:∀i,nat8 b (p+16) i=nat8 b p (i+2):=λi=>by
   rw[show p+16=p+8+8 by omega,Qau,Qau]
  rw[Qau]
  congr 3
  apply List.map_congr_left;intro i _;simp only[Function.comp_apply,e];rw[show 2*(i+1)=2*i+2 by omega,show 2*i+1+2=2*i+2+1 by omega]
theorem Qb7{b:List UInt8}{p n:Nat}(h:p+8≤b.length)(hn:nat8 b p 0=n)(hle:n≤(b.length-(p+8))/8):listO 8 numO (b.drop p)=some (nums8 b (p+8) n,b.drop (p+8+8*n)):=by
 unfold listO;rw[Yl h];simp only[Option.bind_some,hn,List.length_drop];rw[YIN (by omega),Int.toNat_natCast];exact QaK n b (p+8) (by omega)
theorem Xa3{b:List UInt8}{p:Nat}(h:b.length<p+8∨nat8 b p 0<0∨(((b.length-(p+8))/8:Nat):Int)<nat8 b p 0):listO 8 numO (b.drop p)=none:=by
 unfold listO;by_cases h8:b.length<p+8
 ·rw[QM h8]; rfl
 ·rw[Yl (by omega)];simp only[Option.bind_some,List.length_drop];rw[YIP (by omega)]
theorem Zb8{b:List UInt8}{p n:Nat}(h:p+8≤b.length)(hn:nat8 b p 0=n)(hle:n≤(b.length-(p+8))/16):listO 16 prO (b.drop p)=some (pairs8 b (p+8) n,b.drop (p+8+16*n)):=by
 unfold listO;rw[Yl h];simp only[Option.bind_some,hn,List.length_drop];rw[YIN (by omega),Int.toNat_natCast];exact YaR n b (p+8) (by omega)
theorem Qa3{b:List UInt8}{p:Nat}(h:b.length<p+8∨nat8 b p 0<0∨(((b.length-(p+8))/16:Nat):Int)<nat8 b p 0):listO 16 prO (b.drop p)=none:=by
 unfold listO;by_cases h8:b.length<p+8
 ·rw[QM h8]; rfl
 ·rw[Yl (by omega)];simp only[Option.bind_some,List.length_drop];rw[YIP (by omega)]
def OP(l:List (Int×Int))(v:AVal)(σ:List ABlk):Prop:=(v=.nils∧l=[])∨∃b ex,v=.sl b 0 l.length ex∧hget σ b=.rows 2 (l.map prC)
theorem Xbs(l:List (Int×Int)):Zx (l.map prC)=true:=XQ λr hr=>by obtain⟨x,_,rfl⟩:=List.mem_map.1 hr; rfl
theorem OP.upd{l m:List (Int×Int)}{v y:AVal}{σ:List ABlk}{rd:List Nat}(h:OP l v σ)(hs:Zp 2 σ y=some (m.map prC,rd))(hroom:l.length+m.length≤1000000000) :
  ∃v' up σ',Yh 2 16 [v,y] σ=.ok v' rd up∧upL σ up=some σ'∧Kp v σ σ'∧OP (l++m) v' σ'∧v'=.sl σ.length 0 (l++m).length false∧up.map (·.1)=upsOf v σ.length:=by
 have hb:Nat.ble ((2*(l.length+m.length)+192)*16) (2 ^ 48)=true:=Nat.ble_eq_true_of_le (by omega);rcases h with ⟨rfl,rfl⟩|⟨b,ex,rfl,hg⟩
 ·refine⟨.sl σ.length 0 m.length false,[(σ.length,.rows 2 (m.map prC))],σ++[.rows 2 (m.map prC)],?_,Yi _ _,⟨by simp,λc hc _=>Qd _ rfl hc⟩,.inr ⟨_,false,rfl,Zc _ _⟩,rfl,rfl⟩;show Zn 2 16 σ [] [] y=_;unfold Zn;have hb2:Nat.ble ((2*m.length+192)*16) (2 ^ 48)=true:=Nat.ble_eq_true_of_le (by simp at hroom; omega);simp only[hs,Xbs,List.length_map,List.length_nil,Nat.zero_add,hb2,Bool.and_self,cond_true,List.nil_append]
 ·refine⟨.sl σ.length 0 (l++m).length false,[(b,.dead)]++[(σ.length,.rows 2 ((l++m).map prC))],σ.set b .dead++[.rows 2 ((l++m).map prC)],?_,Zah _ _ (Qa hg),⟨by simp,λc hc hn=>?_⟩,.inr ⟨_,false,rfl,?_⟩,rfl,rfl⟩
  ·have:Yh 2 16 [.sl b 0 l.length ex,y] σ=Zn 2 16 σ (l.map prC) [(b,.dead)] y:=by
    simp[Yh,X5,hg]
   rw[this];unfold Zn;simp only[hs,Xbs,List.length_map,hb,Bool.and_self,cond_true,List.length_append,List.map_append]
  ·refine(Qd _ (Xb rfl hc ?_) hc);rintro rfl; exact hn _ _ _ rfl
  ·have:=Zc (σ.set b .dead) (.rows 2 ((l++m).map prC));simpa using this
def KA(c a:Nat)(σ τ:List ABlk):Prop:=σ.length≤τ.length∧(∀d,d≠c→d≠a→hget σ d≠.dead→hget τ d=hget σ d)∧∃x0 x1 x2 x3 x4 x5,hget τ a=.box [x0,x1,x2,x3,x4,x5]
theorem KA.trans{c a:Nat}{σ τ υ:List ABlk}(h:KA c a σ τ)(k:KA c a τ υ):KA c a σ υ:=⟨Nat.le_trans h.1 k.1,λd h1 h2 h3=>by
 have:=h.2.1 d h1 h2 h3;rw[k.2.1 d h1 h2 (by rw[this]; exact h3),this],k.2.2⟩
theorem KB.ka{c a:Nat}{σ τ:List ABlk}(k:KB c σ τ)(hac:a≠c){x0 x1 x2 x3 x4 x5:AVal}(h:hget σ a=.box [x0,x1,x2,x3,x4,x5]):KA c a σ τ:=
 ⟨k.1,λd h1 _ h3=>k.2 d h1 h3,x0,x1,x2,x3,x4,x5,by rw[k.2 a hac (by rw[h]; simp)]; exact h⟩
theorem KA.set{c a:Nat}{σ:List ABlk}(ha:hget σ a≠.dead)(x0 x1 x2 x3 x4 x5:AVal):KA c a σ (σ.set a (.box [x0,x1,x2,x3,x4,x5])):=
 ⟨by simp,λ_ _ h2 h3=>Xb rfl h3 (Ne.symm h2),x0,x1,x2,x3,x4,x5,Xc rfl ha⟩
theorem KA.new{c a:Nat}{σ τ:List ABlk}(h:KA c a σ τ)(x:ABlk):KA c a σ (τ++[x]):=by
 obtain⟨h1,h2,x0,x1,x2,x3,x4,x5,h3⟩:=h;exact⟨by simp; omega,λd k1 k2 k3=>by
  have:=h2 d k1 k2 k3;rw[Qd [x] this k3],x0,x1,x2,x3,x4,x5,Qd _ h3⟩
end Go.Ah.Tz
end
