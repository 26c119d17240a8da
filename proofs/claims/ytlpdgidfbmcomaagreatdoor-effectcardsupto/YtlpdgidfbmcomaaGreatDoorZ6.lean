/- Part of the proof that EffectCards holds of the program for arguments that together hold at most 1048576 values and letters; no other condition. -/
import Derived.Test.YtlpdgidfbmcomaaGreatDoorZ5
import Derived.Test.YtlpdgidfbmcomaaGreatDoorCards
import Derived.Test.YtlpdgidfbmcomaaGreatDoorTie
import Derived.ProofKit
import Derived.OpenShut
import Derived.Carry
import Derived.SevenTiedAt
import Derived.JoinedCond
import Derived.LaidMore
import Derived.SizedLaws
import Derived.Stop.LaidErr
import Derived.Deep.DeepHandedRow
import Derived.Deep.DeepWitnessRowRef
import Derived.Lib.LaidTab
set_option linter.all false
section
namespace Go.Ah.Tz
open Go.Proofs.Tryz (prog)
open Go.Proofs.YtlpdgidfbmcomaaGreatDoor.Rows (uptoBulk uptoBulkAll)
set_option maxRecDepth 100000
section
variable {H:Type}
abbrev Ya5:TypeId:=35
theorem ZdI:Ys prog Ya5=some [QF,QF]:=by kernel_rfl
theorem ZdK{fuel:Nat}{xs:List AVal}{d:DataW H}(h:Typed prog fuel Ya5 xs d):∃a b,xs=[iv a,iv b]:=by
 obtain⟨f,parts,ds,rfl,rfl,rfl,r⟩:=YK h ZdI;obtain⟨p0,parts,d0,ds,rfl,rfl,h0,r⟩:=r.cons;obtain⟨p1,parts,d1,ds,rfl,rfl,h1,r⟩:=r.cons;obtain⟨rfl,rfl⟩:=r.nil;obtain⟨v0,rfl,w0,rfl⟩:=Qv h0 YV;obtain⟨v1,rfl,w1,rfl⟩:=Qv h1 YV;exact⟨v0,v1,rfl⟩
theorem XcD:∀l:List Ef,l.length≤(efPs l).length
 |[]=>Nat.le_refl _
 |x::l=>by
  have:=XcD l;have h1:1≤(efP x).length:=by cases x; simp[efP]
  simp only[efPs,List.length_cons,List.length_append]; omega
end
end Go.Ah.Tz
namespace Go.Proofs.YtlpdgidfbmcomaaGreatDoor
open Go.ChangeShapes Go.WideShapes Go.ChangeAt Go.RowKit Go.Ah Go.Ah.Tz
theorem Ybs{H:Type}{enc:TypeId×Value→H}{P:Program}{f:Func}{s:ChangeSpec}{apart fresh handsOn again:Bool}{W W':World}{args:Array Value}{v:Value}{ds gs:List (DataW H)}{before pa pv:List MemPlace}
 (hW:DataW.Whole enc P f.params.toList s.vars apart W args.toList ds gs before)
 (hres:∀(b:Nat) (sp:Nat→Bool) (hd:Bool),DataW.TrodAll enc P W' b sp hd f.resultTypes.toList (v.resultList f.resultTypes.size) (s.fn H (ds++gs)).results [])
 (hargs:∀sp:Nat→Bool,(∀p∈before,sp p.block=true)→DataW.TrodAll enc P W' 0 sp true f.params.toList args.toList (s.fn H (ds++gs)).args pa)
 (hvars:∀sp:Nat→Bool,(∀p∈before,sp p.block=true)→DataW.TrodVars enc P W' sp s.vars (s.fn H (ds++gs)).vars pv)
 (hps:before=pa++pv)(hb:Below W.heap.size W W')
 (hok:∀(j:Nat) (t:TypeId) (r:Value),f.resultTypes[j]?=some t→(v.resultList f.resultTypes.size)[j]?=some r→Value.okWide P W' .any 0 t r) :
  s.post enc P f apart fresh handsOn again W args v W':=by
 have hold:∀p∈before,(λb=>decide (b<W.heap.size)) p.block=true:=λp hp=>by simpa using hW.lt p hp
 refine⟨ds,gs,before,[],pa,pv,hW,hres _ _ _,hargs _ hold,hvars _ hold,World.keptBut_mono (λp hp=>⟨hp,?_⟩) (hb.frame (·∈before)),λ_=>?_⟩
 ·rw[hps,List.mem_append] at hp;exact Or.inr hp
 ·have hlt:=hW.lt;obtain⟨_,_,_,_,_,hz,hn⟩:=hW;refine⟨hok,_,_,([]++pa)++pv,⟨[]++pa,pv,trodAll_append (hargs _ (λ_ _=>rfl)) (hres _ _ _),hvars _ (λ_ _=>rfl),rfl,?_,?_⟩,?_⟩
  ·intro b off hp;have hin:MemPlace.cell b off∈before:=by rw[hps]; simpa using hp
   rw[hb.frozen (p:=⟨b,off,none⟩) (show b<W.heap.size from hlt _ hin)];exact hz b off hin
  ·intro ha;have:=hn ha;rw[hps] at this;simpa using this
  ·intro p hp _;rw[hps];simpa using hp
set_option maxRecDepth 100000
abbrev t_u8:TypeId:=5
abbrev XdJ:TypeId:=242
theorem d_own:ownKnob Tryz.prog.godebug=none:=by kernel_rfl
theorem Zdz:Tryz.prog.globalNamed "strings.asciiSpace" = some 1:=by kernel_rfl
theorem Ycw:(Tryz.prog.globals[1]?).map (·.type)=some XdJ:=by kernel_rfl
theorem Zcw:laidOutB Tryz.prog=true:=by kernel_rfl
def spaces:List Int:=(List.range 256).map λi=>match (Nat.ble 9 i&&Nat.ble i 13)||Nat.beq i 32 with|true=>1|false=>0
theorem Zdk{l:List (String×DataW Unit)}{x0 x1 x2 x3:String×DataW Unit}(hl:l=[x0,x1,x2,x3,("strings.asciiSpace",Lib.tabData .u8 spaces)]){W:World}(h:laidMet Tryz.prog l W):∀p∈GL0,Den (λb=>W.heap[b]?) noOwn (.rptr p.2 0) (.pointer (some ⟨p.1,0,none⟩)):=by
 subst hl;have ht:Lib.TabIs Tryz.prog W "strings.asciiSpace" .u8 spaces:=Lib.tabIs_of_head (rest:=[]) Zdz Ycw (show Tryz.prog.underlying XdJ=some (.array 256 t_u8) by kernel_rfl) (show Tryz.prog.underlying t_u8=some (.int .u8) by kernel_rfl) (by kernel_rfl) (by kernel_rfl) h.tail.tail.tail.tail;have hlen:spaces.length=256:=by simp[spaces]
 have hrow:row0=spaces.map (AVal.int .u8):=by rw[row0,spaces,List.map_map]; rfl
 intro p hp;simp only[GL0,List.mem_singleton] at hp;subst hp;refine .rptr _ row0 0 1 0 (λk=>.int .u8 (spaces.getD k 0)) (λk hk=>?_) (λk y hy=>?_)
 ·have hk':k<spaces.length:=by rw[hrow,List.length_map] at hk; exact hk
  have:=(Zcs (ht.cell Zdz k hk')).2;rw[Nat.zero_add]; exact this
 ·rw[hrow,List.getElem?_map] at hy;obtain⟨z,hz,rfl⟩:=Option.map_eq_some_iff.1 hy;have:spaces.getD k 0=z:=by simp[List.getD,hz]
  rw[this]; exact .int _ _ _
def XaT:List TypeId:=[YcW,QF,XbK,Xbu,Qdv,Ydb,Xdv,Zdt,ZdJ,Zap,QdI,Qds,YdJ,Ydt,Xdb,ZcU,QdJ,Qdt,ZaL,XdN,Xdt,YcU]
theorem QaT:XaT.all (tyOk Tryz.prog XaT)=true:=by kernel_rfl
theorem Qdj{M:Nat→Option Obj}{xs:List AVal}{cs:Array Value}(h:DL M xs cs.toList):Den M noOwn (.agg xs) (.agg cs):=
 .agg _ _ _ (by have:=h.1; simpa using this.symm) (λi x v h1 h2=>h.2 i x v h1 (by simpa using h2))
theorem Za5{P:Program}{t:TypeId}{ts:List TypeId}(h:Ys P t=some ts):∃fs,P.underlying t=some (.struct fs):=by
 unfold Ys at h;split at h
 ·rename_i fs e; exact⟨fs,e⟩
 ·cases h
section
variable {H:Type} {enc:TypeId×Value→H} {W:World} {base:Nat} {v:Value} {d:DataW H} {ps:List MemPlace}
theorem Qdy(ho:Value.okWide Tryz.prog W .any base ZcU v)(h:DataW.Trod enc Tryz.prog W 0 (λ_=>true) true ZcU v d ps)(hb:Rows.uptoBulk d≤1048576):∃b:Bk,bkFit b=true∧Qj b.cards∧Den (λk=>W.heap[k]?) noOwn (bkV b) v:=by
 obtain⟨fs,hfs⟩:=Za5 s_bk;obtain⟨cs,rfl,_⟩:=okWide_struct hfs ho;obtain⟨fuel,hf⟩:=h;obtain⟨_,xs,h1,h2⟩:=Qak (S:=XaT) QaT fuel ZcU (by decide) _ _ ⟨_,hf⟩;obtain⟨b,rfl,k1,k2⟩:=ty_bk h2 hb;exact⟨b,k1,k2,Qdj h1⟩
theorem Ydk(ho:Value.okWide Tryz.prog W .any base YcU v)(h:DataW.Trod enc Tryz.prog W 0 (λ_=>true) true YcU v d ps)(hb:Rows.uptoBulk d≤1048576):∃s:St,StLe 2000000 s∧Den (λk=>W.heap[k]?) noOwn (stV s) v:=by
 obtain⟨fs,hfs⟩:=Za5 s_st;obtain⟨cs,rfl,_⟩:=okWide_struct hfs ho;obtain⟨fuel,hf⟩:=h;obtain⟨_,xs,h1,h2⟩:=Qak (S:=XaT) QaT fuel YcU (by decide) _ _ ⟨_,hf⟩;obtain⟨s,rfl,k⟩:=ty_st h2 hb;exact⟨s,k,Qdj h1⟩
theorem d_int(ho:Value.okWide Tryz.prog W .any base QF v)(h:DataW.Trod enc Tryz.prog W 0 (λ_=>true) true QF v d ps):∃n:Int,Den (λk=>W.heap[k]?) noOwn (iv n) v:=by
 obtain⟨n,rfl,_⟩:=open_int YV ho h;exact⟨n,.int _ _ _⟩
end
theorem YaT{H:Type}{enc:TypeId×Value→H}{t:TypeId}(hr:Tryz.prog.readableRec t=true)(hrow:t<Tryz.prog.types.size){W W':World}{v:Value}{d:DataW H}{ps all:List MemPlace}(h:DataW.Trod enc Tryz.prog W 0 (λ_=>true) true t v d ps)(hb:Below W.heap.size W W')(hlt:∀p∈all,p.block<W.heap.size)(hin:∀p∈ps,p∈all){sp:Nat→Bool}(hs:∀p∈all,sp p.block=true):DataW.Trod enc Tryz.prog W' 0 sp true t v d ps:=
 WideElems.Trod_stays Zcw hr hrow h (λp hp=>hb.same (hlt p (hin p hp))) (λp hp=>hs p (hin p hp))
theorem Qbx(t:TypeId)(h:(Tryz.prog.readableRec t&&decide (t<Tryz.prog.types.size))=true):Tryz.prog.readableRec t=true∧t<Tryz.prog.types.size:=by simpa using h
theorem r_bk:Tryz.prog.readableRec ZcU=true∧ZcU<Tryz.prog.types.size:=Qbx ZcU (by kernel_rfl)
theorem r_st:Tryz.prog.readableRec YcU=true∧YcU<Tryz.prog.types.size:=Qbx YcU (by kernel_rfl)
theorem QdH:Tryz.prog.readableRec QF=true∧QF<Tryz.prog.types.size:=Qbx QF (by kernel_rfl)
theorem YdH:Tryz.prog.readableRec Zap=true∧Zap<Tryz.prog.types.size:=Qbx Zap (by kernel_rfl)
def Zbn:List TypeId:=[QF,Ya5]
theorem Qcb:Zbn.all (tyOk Tryz.prog Zbn)=true:=by kernel_rfl
theorem XdH:Tryz.prog.readableRec Ya5=true∧Ya5<Tryz.prog.types.size:=Qbx Ya5 (by kernel_rfl)
section
variable {H:Type} {enc:TypeId×Value→H} {W:World} {base:Nat} {v:Value} {d:DataW H} {ps:List MemPlace}
theorem d_env(ho:Value.okWide Tryz.prog W .any base Ya5 v)(h:DataW.Trod enc Tryz.prog W 0 (λ_=>true) true Ya5 v d ps):∃a b:Int,Den (λk=>W.heap[k]?) noOwn (.agg [iv a,iv b]) v:=by
 obtain⟨fs,hfs⟩:=Za5 ZdI;obtain⟨cs,rfl,_⟩:=okWide_struct hfs ho;obtain⟨fuel,hf⟩:=h;obtain⟨_,xs,h1,h2⟩:=Qak (S:=Zbn) Qcb fuel Ya5 (by decide) _ _ ⟨_,hf⟩;obtain⟨a,b,rfl⟩:=ZdK h2;exact⟨a,b,Qdj h1⟩
theorem d_efs(ho:Value.okWide Tryz.prog W .any base Zap v)(h:DataW.Trod enc Tryz.prog W 0 (λ_=>true) true Zap v d ps)(hb:Rows.uptoBulk d≤1048576):∃l:List Ef,lsFit l=true∧(efPs l).length≤500000000∧l.length≤1000000000∧Den (λk=>W.heap[k]?) noOwn (efV l) v:=by
 obtain⟨a,len,cap,rfl⟩:=okWide_slice Qdb ho;obtain⟨fuel,hf⟩:=h;obtain⟨_,xs,h1,h2⟩:=Qak (S:=XaT) QaT fuel Zap (by decide) _ _ ⟨_,hf⟩;obtain⟨l,rfl,k1,k2⟩:=Zb9 h2 hb;have:=XcD l;exact⟨l,k1,by omega,by omega,h1.2 0 _ _ rfl rfl⟩
end
theorem Ql{a b:Bool}(h:a=true)(k:b=true):(a&&b)=true:=by rw[h,k]; rfl
def d_pow:List Int:=[1,10,100,1000,10000,100000,1000000,10000000,100000000,1000000000,10000000000,100000000000,1000000000000,10000000000000,100000000000000,1000000000000000,10000000000000000,100000000000000000,1000000000000000000,10000000000000000000]
def d_b32:List Int:=[0,1,28,2,29,14,24,3,30,22,20,15,25,17,4,8,31,27,13,23,21,19,16,7,26,12,18,6,11,5,10,9]
def d_b64:List Int:=[0,1,56,2,57,49,28,3,61,58,42,50,38,29,17,4,62,47,59,36,45,43,51,22,53,39,33,30,24,18,12,5,63,55,48,27,60,41,37,16,46,35,44,21,52,32,23,11,54,26,40,15,34,20,31,10,25,14,19,9,13,8,7,6]
def Xc0:List Int:=[9,13,1,32,133,101,160,5760,5600,8192,8202,1,8232,8233,1,8239,8287,48,12288,12288,1]
noncomputable def XbO (os:Os):World:=
 let w0:=World.holding Tryz.prog os ⟨#[],#[],[]⟩
 let put (h:Array Obj) (g:Nat) (cs:Array Value):Array Obj:=h.modify g fun
  |.cells _ t frozen=>.cells cs t frozen
  |o=>o
 let h1:=put w0.heap 0 (d_pow.map λz=>Value.int .u64 z).toArray
 let h2:=put h1 1 (spaces.map λz=>Value.int .u8 z).toArray
 let h3:=put h2 2 (d_b32.map λz=>Value.int .u8 z).toArray
 let h4:=put h3 3 (d_b64.map λz=>Value.int .u8 z).toArray
 let h5:=put h4 4 #[.pointer (some ⟨w0.heap.size,0,none⟩)]
 { w0 with heap:=(h5.push (.cells #[.slice (some ⟨w0.heap.size+1,0,none⟩) 7 7,.slice none 0 0,.int .i64 2] 254 (0,0))).push (.cells (Xc0.map λz=>Value.int .u16 z).toArray 257 (0,0)) }
theorem YbP:Rows.effectCardsUptoRow.laid=[("math/bits.deBruijn32tab",Rows.laid_math_bits_deBruijn32tab),("math/bits.deBruijn64tab",Rows.laid_math_bits_deBruijn64tab),("internal/strconv.uint64pow10",Rows.laid_internal_strconv_uint64pow10),("unicode.White_Space",Rows.laid_unicode_White_Space),("strings.asciiSpace",Lib.tabData .u8 spaces)]:=by kernel_rfl
theorem XaW(H:Type)(enc:TypeId×Value→H)(W:World)(base:Nat)(args:Array Value)(ds gs:List (DataW H))(before:List MemPlace)
 (hval:∀(j:Nat) t v,Tryz.f3.params[j]?=some t→args[j]?=some v→Value.okWide Tryz.prog W .any base t v)
 (hW:DataW.Whole enc Tryz.prog Tryz.f3.params.toList Rows.effectCardsSpec.vars false W args.toList ds gs before)(hk:Rows.uptoSmall H (ds++gs)=true)(hL:laidMetH Tryz.prog Rows.effectCardsUptoRow.laid W) :
  Calls Tryz.prog 3 args W λe W'=>∃v,e=.returned v∧Rows.effectCardsSpec.post enc Tryz.prog Tryz.f3 false true false false W args v W':=by
 have hW':=hW;have hlt:=hW.lt;obtain⟨p,q,hA0,hV,rfl,hfz,hnd⟩:=hW;have hA:DataW.TrodAll enc Tryz.prog W 0 (λ_=>true) true Tryz.f3.params.toList args.toList ds p:=hA0;rw[Tryz.params3] at hA hval;obtain⟨v0,vs,d0,ds,p0,p,hargs,rfl,rfl,h0,r⟩:=trodAll_cons hA;obtain⟨v1,vs,d1,ds,p1,p,rfl,rfl,rfl,h1,r⟩:=trodAll_cons r;obtain⟨v2,vs,d2,ds,p2,p,rfl,rfl,rfl,h2,r⟩:=trodAll_cons r;obtain⟨v3,vs,d3,ds,p3,p,rfl,rfl,rfl,h3,r⟩:=trodAll_cons r;obtain⟨v4,vs,d4,ds,p4,p,rfl,rfl,rfl,h4,r⟩:=trodAll_cons r;obtain⟨rfl,rfl,rfl⟩:=trodAll_nil r;obtain rfl:args = #[v0,v1,v2,v3,v4]:=by cases args; simp_all
 obtain⟨rfl,rfl⟩:=trodVars_none hV;have hbk:Rows.uptoBulkAll [d0,d1,d2,d3,d4]≤1048576:=of_decide_eq_true hk;simp only[Rows.uptoBulkAll] at hbk;obtain⟨b,hf,hsm,e0⟩:=Qdy (hval 0 _ v0 rfl rfl) h0 (by omega);obtain⟨s,hs,e1⟩:=Ydk (hval 1 _ v1 rfl rfl) h1 (by omega);obtain⟨m2,n2,e2⟩:=d_env (hval 2 _ v2 rfl rfl) h2;obtain⟨a3,l3,m3,q3,e3⟩:=d_efs (hval 3 _ v3 rfl rfl) h3 (by omega);obtain⟨n4,e4⟩:=d_int (hval 4 _ v4 rfl rfl) h4;have hg:=Zdk YbP (show laidMet Tryz.prog Rows.effectCardsUptoRow.laid W from hL);refine(c16E p78w b hf hsm s hs m2 n2 n4 a3 l3 m3 W (λk=>W.heap[k]?) [v0,v1,v2,v3,v4] (λ_ _ h=>h) hg ⟨e0,e1,e2,e3,e4,trivial⟩).mono ?_;rintro e W' ⟨u,rfl,hkeep,M',_,_,_,hd⟩;cases hd;have hb:=hkeep.below;refine⟨_,rfl,Ybs (pa:=p0++(p1++(p2++(p3++(p4++[]))))) (pv:=[]) hW' (λ_ _ _=>trodAll_cons_mk (shut_bool XbL _) trodAll_mk0) (λsp hsp=>?_) (λ_ _=>rfl) rfl hb (ok_one (by kernel_rfl) rfl (okWide_bool_mk XbL _))⟩;rw[Tryz.params3];refine trodAll_cons_mk (YaT r_bk.1 r_bk.2 h0 hb hlt (λp hp=>by simp[hp]) hsp) <| trodAll_cons_mk (YaT r_st.1 r_st.2 h1 hb hlt (λp hp=>by simp[hp]) hsp) <| trodAll_cons_mk (YaT XdH.1 XdH.2 h2 hb hlt (λp hp=>by simp[hp]) hsp) <| trodAll_cons_mk (YaT YdH.1 YdH.2 h3 hb hlt (λp hp=>by simp[hp]) hsp) <| trodAll_cons_mk (YaT QdH.1 QdH.2 h4 hb hlt (λp hp=>by simp[hp]) hsp) trodAll_mk0
def Zab:Array Value:=#[.agg #[.slice none 0 0,.slice none 0 0],.agg #[.int .i64 0,.int .i64 0,.int .i8 0,.bool false,.int .i8 0,.slice none 0 0,.int .i64 0,.int .i64 0,.int .i64 0,.int .i64 0,.slice none 0 0,.slice none 0 0,.slice none 0 0,.slice none 0 0,.slice none 0 0,.int .i64 0,.int .i64 0,.int .i64 0,.slice none 0 0,.slice none 0 0,.slice none 0 0,.slice none 0 0,.slice none 0 0],.agg #[.int .i64 0,.int .i64 0],.slice none 0 0,.int .i64 0]
theorem Qci(os:Os):laidMet Tryz.prog Rows.effectCardsUptoRow.laid ((XbO os).forCall (λ_ _=>0) ⟨#[],Zab,[]⟩).memory:=
 laidMet_of_run' 8 (by kernel_rfl) (by kernel_rfl)
theorem Ybz(os:Os){H:Type}(enc:TypeId×Value→H):∃places,DataW.whole enc Tryz.prog ((XbO os).forCall (λ_ _=>0) ⟨#[],Zab,[]⟩).memory Tryz.f3.params.toList Rows.effectCardsSpec.vars false Zab.toList 8 =
  some ([.agg [.nil,.nil],.agg [.lit (.int .i64 0),.lit (.int .i64 0),.lit (.int .i8 0),.lit (.bool false),.lit (.int .i8 0),.nil,.lit (.int .i64 0),.agg [.agg [.lit (.int .i64 0),.lit (.int .i64 0),.lit (.int .i64 0),.nil,.nil,.nil,.nil,.nil],.agg [.lit (.int .i64 0),.lit (.int .i64 0),.lit (.int .i64 0),.nil,.nil,.nil,.nil,.nil]]],.agg [.lit (.int .i64 0),.lit (.int .i64 0)],.nil,.lit (.int .i64 0)],[],places):=⟨[],by kernel_rfl⟩
theorem Zbp(os:Os)(started:os.Started)(H:Type)(enc:TypeId×Value→H)(F:Stop.Interp) :
  ReturnsInHanded {} Tryz.checked os 3 .any ((Rows.OpenSpec.upto Rows.effectCardsSpec).preRow enc Tryz.prog Tryz.f3 Rows.effectCardsUptoRow.domain false Rows.effectCardsUptoRow.laid) (((Rows.OpenSpec.upto Rows.effectCardsSpec).at F).post enc Tryz.prog Tryz.f3 false true false false):=by
 obtain⟨places,hx⟩:=Ybz os enc;refine returnsInHanded_of_row (C:=Tryz.checked) (s:=Rows.OpenSpec.upto Rows.effectCardsSpec) d_own started (by kernel_rfl) Tryz.func3
  (witness_row_atRef (enc:=enc) (C:=Tryz.checked) false (XbO os) Zab rfl (by kernel_rfl) (by kernel_rfl) (by kernel_rfl)
   (OpenSpec.preRow_of_cond 8 hx (by kernel_rfl) (λk hk=>by cases hk; kernel_rfl) (by kernel_rfl) (Qci os))) ?_
 intro W base args ds gs before hval hW _ hcond _ hL _ _;exact XaW H enc W base args ds gs before hval hW (hcond _ rfl) hL
theorem XcA:Tryz.prog.funcNamed Rows.effectCardsUptoRow.func=some 3:=by kernel_rfl
theorem QcA:(Rows.effectCardsUptoRow.wf (OpenSpec.ofChange (Rows.OpenSpec.upto Rows.effectCardsSpec).bare))=true:=by kernel_rfl
theorem ZcB:(laidOutB Tryz.prog)=true:=by kernel_rfl
theorem YcB:(mapsRowed Tryz.prog)=true:=by kernel_rfl
theorem XcB:(Tryz.f3.params.all (Tryz.prog.readableRec ·))=true:=by kernel_rfl
theorem QcB:(namedTie Tryz.prog Rows.effectCardsUptoRow.named (Rows.OpenSpec.upto Rows.effectCardsSpec).bare.vars)=true:=by kernel_rfl
theorem ZcC:(Rows.effectCardsUptoRow.stops==[])=true:=by kernel_rfl
theorem YcC:(Tryz.prog.stops==[])=true:=by kernel_rfl
theorem XcC:(Rows.effectCardsUptoRow.knobs==[])=true:=by kernel_rfl
theorem QcC:(Tryz.prog.stopKnobs==[])=true:=by kernel_rfl
theorem Zcd:(Rows.effectCardsUptoRow.inPlace==Tryz.prog.inPlace 3)=true:=by kernel_rfl
theorem Ycd:(Rows.effectCardsUptoRow.unfollowed==Tryz.prog.unfollowed 3)=true:=by kernel_rfl
theorem Xcd:(Rows.effectCardsUptoRow.recurses==Tryz.prog.recurses 3)=true:=by kernel_rfl
theorem Qcd:(Rows.effectCardsUptoRow.named==Tryz.prog.varsNamed 3)=true:=by kernel_rfl
theorem Zce:(Rows.effectCardsUptoRow.maps==(Tryz.f3.params.toList++(Rows.OpenSpec.upto Rows.effectCardsSpec).bare.plain.varTypes Tryz.prog).any (Tryz.prog.mapsRec ·))=true:=by kernel_rfl
theorem Yce:(Rows.effectCardsUptoRow.ifaces==(Tryz.f3.params.toList++(Rows.OpenSpec.upto Rows.effectCardsSpec).bare.plain.varTypes Tryz.prog).any (Tryz.prog.ifacesRec ·))=true:=by kernel_rfl
theorem Xce:(Rows.effectCardsUptoRow.mapsOut==Tryz.prog.mapsAmong Tryz.f3.resultTypes.toList)=true:=by kernel_rfl
theorem Qce:(Rows.effectCardsUptoRow.loops==(Tryz.f3.params.toList++(Rows.OpenSpec.upto Rows.effectCardsSpec).bare.plain.varTypes Tryz.prog).any (Tryz.prog.loopsFrom ·))=true:=by kernel_rfl
theorem Zcf:(Rows.effectCardsUptoRow.wideKeys==(Tryz.f3.params.toList++(Rows.OpenSpec.upto Rows.effectCardsSpec).bare.plain.varTypes Tryz.prog++Tryz.f3.resultTypes.toList).any (Tryz.prog.wideKeysFrom ·))=true:=by kernel_rfl
theorem Ycf:((Rows.OpenSpec.upto Rows.effectCardsSpec).bare.vars.all (Tryz.prog.varReadable ·))=true:=by kernel_rfl
theorem Xcf:(Tryz.f3.resultTypes.all (λt=>Tryz.prog.readableRec t&&decide (t<Tryz.prog.types.size)))=true:=by kernel_rfl
theorem Qcf:(Rows.effectCardsUptoRow.ifacesOut==Tryz.f3.resultTypes.toList.any (Tryz.prog.ifacesRec ·))=true:=by kernel_rfl
theorem Zcg:(Rows.effectCardsUptoRow.loopsOut==Tryz.f3.resultTypes.toList.any (Tryz.prog.loopsFrom ·))=true:=by kernel_rfl
theorem Ycg:(Rows.effectCardsUptoRow.plainKeys==Tryz.prog.plainKeys)=true:=by kernel_rfl
theorem Xcg:(Rows.effectCardsUptoRow.shortTexts.isNone)=true:=by kernel_rfl
theorem Qcg:(Tryz.prog.stopsHeard)=true:=by kernel_rfl
theorem Zch:(Tryz.prog.mayEnter)=true:=by kernel_rfl
theorem Ych:(Rows.effectCardsUptoRow.lifted==Tryz.prog.liftsFinal)=true:=by kernel_rfl
theorem Xch:(Tryz.prog.make==some Rows.effectCardsUptoRow.make)=true:=by kernel_rfl
theorem Qch:(Rows.effectCardsUptoRow.kinds==(if Rows.effectCardsUptoRow.domain.isEmpty then [] else Tryz.f3.params.toList.map λt=>match Tryz.prog.underlying t with|some (.int k)=>some k|_=>none))=true:=by kernel_rfl
theorem Zci:(Rows.effectCardsUptoRow.pinned==Rows.effectCardsUptoRow.pinnedBy)=true:=by kernel_rfl
theorem Yci:(Rows.effectCardsUptoRow.veiled==(Tryz.f3.params.toList++(Rows.OpenSpec.upto Rows.effectCardsSpec).bare.plain.varTypes Tryz.prog++Tryz.f3.resultTypes.toList).any (Tryz.prog.veiledRec ·))=true:=by kernel_rfl
theorem Xci:(Rows.effectCardsUptoRow.veiledFits Tryz.prog Tryz.f3.params.toList (Tryz.f3.params.toList++(Rows.OpenSpec.upto Rows.effectCardsSpec).bare.plain.varTypes Tryz.prog++Tryz.f3.resultTypes.toList))=true:=by kernel_rfl
theorem Qbo:joinedFacts Tryz.prog 3 Tryz.f3 (Rows.OpenSpec.upto Rows.effectCardsSpec).bare Rows.effectCardsUptoRow=true:=(Ql (Ql (Ql (Ql (Ql (Ql (Ql (Ql (Ql (Ql (Ql (Ql (Ql (Ql (Ql (Ql (Ql (Ql (Ql (Ql (Ql (Ql (Ql (Ql (Ql (Ql (Ql (Ql (Ql (Ql (Ql QcA ZcB) YcB) XcB) QcB) ZcC) YcC) XcC) QcC) Zcd) Ycd) Xcd) Qcd) Zce) Yce) Xce) Qce) Zcf) Ycf) Xcf) Qcf) Zcg) Ycg) Xcg) Qcg) Zch) Ych) Xch) Qch) Zci) Yci) Xci)
theorem XbP:Rows.EffectCardsUptoSaid:=
 OpenClaim.holds_of_cond 3 Tryz.f3 rfl rfl rfl rfl rfl rfl rfl ⟨rfl,rfl,rfl,rfl,rfl⟩ rfl rfl rfl rfl rfl XcA Tryz.func3 Qbo
  (of_decide_eq_true (by kernel_rfl)) (by unfold Func.isWrapper; first|(rw[if_pos (by decide +kernel)]; kernel_rfl)|(rw[if_neg (by decide +kernel)]; exact⟨rfl,rfl⟩))
  (λos started H enc _ F=>by rw[OpenClaim.pre_eq_preRow]; exact Zbp os started H enc F)
theorem Zbz(f:FuncId)(fn:Func)(hf:Tryz.pinned.checked.prog.funcNamed "baize/baizelaw20.EffectCards" = some f)(hfn:Tryz.pinned.checked.prog.funcs[f]?=some fn) :
  true=Tryz.pinned.checked.prog.looks []∧∀(j:Nat) t,fn.params[j]?=some t→Tryz.pinned.checked.prog.wantsStandIn t=false:=by
 obtain rfl:f=3:=Option.some.inj ((show Tryz.prog.funcNamed "baize/baizelaw20.EffectCards" = some 3 by kernel_rfl).symm.trans hf) |>.symm;obtain rfl:fn=Tryz.f3:=(Option.some.inj (Tryz.func3.symm.trans hfn)).symm;refine⟨by kernel_rfl,λj t ht=>?_⟩;rw[Tryz.params3] at ht;have hm:t∈[ZcU,YcU,Ya5,Zap,QF]:=by simpa using Array.mem_of_getElem? ht
 have hall:([ZcU,YcU,Ya5,Zap,QF].all λu=>!Tryz.prog.wantsStandIn u)=true:=by kernel_rfl
 exact(show Tryz.prog.wantsStandIn t=false by simpa using List.all_eq_true.1 hall t hm)
theorem effectCards_upto_card:Rows.EffectCardsUptoCardSaid:=
 Claim7.holds_tied_plain_at .later [] _ _ _ _ XbP (λ_ h=>by cases h) (by kernel_rfl) (λ_ h=>by cases h) effectCardsUpto_row_tie rfl ⟨rfl,rfl⟩ (by kernel_rfl) rfl Zbz (by kernel_rfl)
#print axioms effectCards_upto_card
end Go.Proofs.YtlpdgidfbmcomaaGreatDoor
end
