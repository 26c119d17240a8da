/- Part of the proof of GameMay, for arguments of at most 1048576 values and letters together. -/
import Derived.Test.YtcoggjehhecohaaGreatDoorZ1
import Derived.Orders
set_option linter.all false
open Array renaming getD_eq_getD_getElem?->EP,getElem?_eq_getElem->D2,getElem?_replicate->E9,getElem?_setIfInBounds_ne->EF,getElem?_toList->EI,getElem_extract->FM,replicate->FB,toArray_toList->FR,toList_map->E3
open Bool renaming and_eq_true->AA,eq_iff_iff->C6,false_eq_true->B8,not_eq_true'->B9,or_eq_true->EA
open Classical renaming choose->GK,choose_spec->ND
open Go renaming Frame->Fs
open Go.Builtin renaming append_->D5,lenOf->Fb,zeroCells->DT
open Go.Code renaming loop->I1
open Go.Deferred renaming ofValue->GA
open Go.Ending renaming returned->Fm
open Go.Instr renaming missingMethod->Hk,slice->Gi,sliceAt->HD,sliceBounds->B6
open Go.Region renaming ready->E0
open Go.Result renaming andThen_ok->AE
open Go.Sem renaming run_bind->AS,run_pure->Ak
open Go.Utf8 renaming decode->EY
open Go.Value renaming iface->FO,slice->L7
open Int renaming natCast_nonneg->C4,ofNat_le->ES,ofNat_lt->Hf
open List renaming all_eq_true->C1,any_eq_true->FV,append_assoc->Cp,contains_iff_mem->Ew,getD_eq_getElem?_getD->Gy,getElem?_append_left->Bi,getElem?_append_right->Bc,getElem?_map->Ba,length->GF,length_append->AT,length_map->Be,length_singleton->EJ,map_cons->B7,mem_append->Bd,mem_cons->Az,mem_cons_of_mem->DI,mem_cons_self->EL,mem_filterMap->FY,mem_map->By,mem_of_getElem?->Au,mem_range->DW,nil_append->Cm,range->Ao,range'->ED,replicate->CD
open Nat renaming add_comm->Hv,add_zero->FF,beq->AJ,beq_refl->EK,ble->BY,ble_eq_true_of_le->AH,blt->C3,le_refl->AO,le_zero->Hn,mul_le_mul_right->Av,strongRecOn->Eu,sub_self->Hu,succ_mul->EN,zero_add->Al
open Ne renaming symm->Mm
open OfNat renaming ofNat->MG
open Option renaming getD_some->Cw,isSome_iff_exists->An,isSome_none->Hh,map_none->Gd,map_some->E8
open Option.some renaming inj->GC,injEq->E7
section
namespace Go.Ah
variable{ex:Bool}
variable{xs z:List I}
variable{rs:List (List I)}
variable{b off len n sz by_:Nat}
variable{up:List (Nat×U)}
variable{x v y:I}
section
variable {P:Program} {GL:aw}
theorem XbA(s:List UInt8)(k:IntKind)(i:Int)(h1:0<=i)(h2:i<=s.length)(h0:Hp) :
  aG P GL (.e9 true false) [.str s,.int k i] h0 (.str (s.drop i.toNat)) [] []:=by
 intro o os A N L g Q w a r B _ _;obtain⟨t,x,j,p,C,D,E,rfl,F⟩:=Un A;obtain⟨j,rfl⟩:∃z,j=some z:=An.1 D.symm;obtain rfl:p=none:=by cases p<;>first|rfl|cases E
 obtain⟨d,G,_⟩:=B;obtain⟨f,H,rfl⟩:=yQ d;have R:f.data.toList.length=f.size:=by simp
 have K:(execOp a.eval o).run P w=.ok (.value (.string (f.extract i.toNat f.size))) w:=by
  simp only[execOp,C,H,HD,Gi,AS,run_underlying F,AE,E8,Xp G,Gd,Hh,B8,if_false,B6,Ak,Qk k i f.size _ h1 (by omega)]
 rw[K];have:f.data.toList.drop i.toNat=(f.extract i.toNat f.size).data.toList:=by
  simp[List.take_of_length_le]
 rw[this];exact Out.here r (.str _ _)
theorem YbA(s:List UInt8)(k:IntKind)(i:Int)(h1:0<=i)(h2:i<=s.length)(h0:Hp) :
  aG P GL (.e9 false true) [.str s,.int k i] h0 (.str (s.take i.toNat)) [] []:=by
 intro o os A N L g Q w a r B _ _;obtain⟨t,x,j,p,C,D,E,rfl,F⟩:=Un A;obtain rfl:j=none:=by cases j<;>first|rfl|cases D
 obtain⟨p,rfl⟩:∃z,p=some z:=An.1 E.symm;obtain⟨d,G,_⟩:=B;obtain⟨f,H,rfl⟩:=yQ d;have R:f.data.toList.length=f.size:=by simp
 have K:(execOp a.eval o).run P w=.ok (.value (.string (f.extract 0 i.toNat))) w:=by
  simp only[execOp,C,H,HD,Gi,AS,run_underlying F,AE,E8,Xp G,Gd,Hh,B8,if_false,B6,Ak,Qk k i f.size _ h1 (by omega)]
 rw[K];have:f.data.toList.take i.toNat=(f.extract 0 i.toNat).data.toList:=by
  simp
 rw[this];exact Out.here r (.str _ _)
theorem QaA(n by_:Nat)(z:List I)(x y:I)(rd:List Nat)(h0:Hp)(D:x=.aq\/x=.cX\/(∃b o l e,x=.sl b o l e)\/∃e s sz rows,x=.aX e s sz rows)(E:fy h0 n y [] rd) :
  aG P GL (.append n by_ z) [x,y] h0 x rd []:=by
 intro o os A w0 L g h w a r F G _;generalize H:o.op=op at A;cases A with
 |append t K e N Q _ _ v _ R S T V X sM dM Y kU=>
  obtain⟨d,hd,qt⟩:=S;obtain⟨d1,B,_⟩:=F;generalize lq:a.eval N=u1 at d1;generalize rm:a.eval Q=C at B;obtain⟨f,i,j,e1,hle⟩:∃p len cap,u1=.slice p len cap/\len<=cap:=by
   rcases D with rfl|rfl|⟨b,o',l,e',rfl⟩|⟨e',s,sz,rows,rfl⟩
   ·cases d1;exact⟨_,_,_,rfl,AO _⟩
   ·cases d1;exact⟨_,_,_,rfl,AO _⟩
   ·cases d1<;>grind
   grind [HZ]
  subst e1;obtain⟨p2,zZ,newv,e2,f2,rC,_⟩:=QL (P:=P) r E G B;have gV:(Fb C).run P w=.ok 0 w:=by rw[e2];rfl
  have AB:newv.toList=[]:=by have:=rC.1;simp at this;simp[this]
  have bJ:(D5 #[t,K] o.type #[.slice f i j,C]).run P w=.ok (.slice f i j) w:=by
   obtain⟨k1,k2⟩:=(ZJ R hd qt T V X Y (base:=f) (len:=i) (cap:=j) (newv:=newv) gV o.type).1 (by simpa using hle) f2;cases f with
   |none=>exact k1 rfl
   |some ad=>exact k2 ad w rfl (by rw[AB];rfl)
  rw[QI H lq rm bJ];exact Out.here r d1
theorem aG.d_{k:MK}{f:I}{h0:Hp}{rd:List Nat}(hw:∀(g:Gm) (u:Value),g.den x u->g.den f u)(h:aG P GL k (f::xs) h0 v rd up):aG P GL k (x::xs) h0 v rd up:=by
 intro o os j p L g s w a r d A B;refine h o os j p L g s w a r ?_ A B;generalize os.map a.eval=i at d;cases i with
 |nil=>exact d
 |cons v i=>exact⟨hw g v d.1,d.2⟩
theorem Qdb(x y:I)(h0:Hp):aG P GL .pick [.bool true,x,y] h0 x [] []:=by
 intro o os d i L g h w a r f _ _;generalize j:o.op=op at d;cases d with
 |pick p s A=>
  obtain⟨d1,B,C,_⟩:=f;have D:=QD d1;simp_all [execOp,asBool,Out.here]
theorem Zdc(x y:I)(h0:Hp):aG P GL .pick [.bool false,x,y] h0 y [] []:=by
 intro o os d i L g h w a r f _ _;generalize j:o.op=op at d;cases d with
 |pick p s A=>
  obtain⟨d1,B,C,_⟩:=f;have D:=QD d1;simp_all [execOp,asBool,Out.here]
variable{g:Gm}
theorem ZZ{cb:CB}{p:Option Addr}{r cap:Nat}(i:g.c b=some cb)(d:g.den (.sl b off len ex) (.slice p r cap)) :
  r=len/\len<=cap/\(ex=true->cap=len)/\∀ {l h:Nat},l<=h->h<=cap->∀j:Bool,(j=true->cap=h)->(l<h\/(l=0)) ->
   g.den (.sl b (off+l) (h-l) j) (.slice (if cap=l then p else p.map (·.add (l*cb.sz))) (h-l) (cap-l)):=by
 cases d with
 |n9 _ _ _ s _ f o=>
  rw[i]at f;cases f;refine⟨rfl,AO _,λ_=>rfl,λ{l h} w A j hex hs=>?_⟩;have:h=0:=by omega
  subst this;have:l=0:=by omega
  subst this;exact .n9 _ _ _ cb _ i o
 |sle _ _ _ _ s _ f o h1 h2=>
  rw[i]at f;cases f;refine⟨rfl,AO _,λ_=>rfl,λ{l h} w A j hex hs=>?_⟩;have:h=0:=by omega
  subst this;have:l=0:=by omega
  subst this;exact .sle _ _ _ _ cb _ i o h1 h2
 |sl _ _ _ _ _ s _ f o h1 h2 h3=>
  rw[i]at f;cases f;refine⟨rfl,h1,h3,λ{l h} w A j hex hs=>?_⟩;have B:(if cap=l then some (⟨cb.aD,cb.base+off*cb.sz,none⟩:Addr)else (some (⟨cb.aD,cb.base+off*cb.sz,none⟩:Addr)).map (·.add (l*cb.sz)))=some ⟨cb.aD,cb.base+(off+l)*cb.sz,none⟩:=by
   grind [QX]
  rw[B];refine .sl _ _ _ _ _ cb _ i o (by omega) ?_ (λe=>by rw[hex e])
  grind
theorem YdC{w0:World}{L:Ln}{h:Hp}{w:World}(r:bu GL w0 L g h w){cap:Nat}{p:Option Addr}(hb:h b=some (.rows n rs))(j:n≠0)(d:g.den (.sl b off len ex) (.slice p len cap)):rs.length<=off+cap:=by
 cases d with
 |n9 _ _ _ o p f i=>have:=(r.hY hb f i).2;subst this;simp
 |sle _ _ _ _ o p f i h1 h2=>exact Ru (off:=off) (cap:=0) r hb j f i (by simpa using h2)
 |sl _ _ _ _ _ o cap f i h1 h2 h3=>exact Ru r hb j f i h2
theorem Ik{v:Value}(d:g.den (.sl b off len ex) v):∃f p cap,g.c b=some f/\v=.slice p len cap/\(p=none->cap=0):=by
 cases d<;>grind
theorem OV{w0:World}{L:Ln}{h:Hp}{w:World}(r:bu GL w0 L g h w){cb:CB}(hb:h b=some (.rows sz rs))(d:g.c b=some cb):cb.sz=sz:=by
 cases f:cb.cI with
 |true=>have:=r.bd b _ cb hb rfl d f;cases this;rfl
 |false=>exact(r.ff hb d f).1
theorem Ybc(ex:Bool)(sz b off len:Nat)(rs:List (List I))(k:IntKind)(i:Int)(h1:0<=i)(h2:i<len)(h0:Hp)(hb:h0 b=some (.rows sz rs)) :
  aG P GL (.cU sz true false false) [.sl b off len ex,.int k i] h0 (.sl b (off+i.toNat) (len-i.toNat) ex) [b] []:=by
 intro o os B K L g N w a r C D _;obtain⟨t,x,f,j,s,e,Q,E,F,G,rfl,R,S⟩:=Yw B;obtain⟨f,rfl⟩:∃z,f=some z:=An.1 E.symm;obtain rfl:j=none:=by cases j<;>first|rfl|cases F
 obtain rfl:s=none:=by cases s<;>first|rfl|cases G
 obtain⟨d,T,_⟩:=C;obtain⟨V,p,cap,A,H,_⟩:=Ik d;have X:=OV r ((D b (by simp)).trans hb) A;rw[H]at d;obtain⟨_,Y,ll,vz⟩:=ZZ A d;have hb:(B6 true len cap (some (.int k i)) none none).run P w=.ok (i.toNat,len,cap) w:=by
  grind [B6,AS,Ak,AE,Qk]
 grind [Xz,Xp,Out.here]
theorem Xa4(ex:Bool)(sz b off len:Nat)(k:IntKind)(i:Int)(h1:i=len)(h0:Hp) :
  aG P GL (.cU sz true false false) [.sl b off len ex,.int k i] h0 (.aX false (C3 0 len) sz []) [] []:=by
 intro o os B T L g V w a r C X _;obtain⟨t,x,f,j,s,e,D,E,F,G,rfl,H,K⟩:=Yw B;obtain⟨f,rfl⟩:∃z,f=some z:=An.1 E.symm;obtain rfl:j=none:=by cases j<;>first|rfl|cases F
 obtain rfl:s=none:=by cases s<;>first|rfl|cases G
 obtain⟨d,N,_⟩:=C;obtain⟨Y,p,cap,Q,A,R⟩:=Ik d;rw[A]at d;have S:C3 0 len=true->p.isSome=true:=by
  intro e;generalize hq:(L7 p len cap)=q at d;cases d with
  |sl=>cases hq;rfl
  |n9=>cases hq;cases e
  |sle=>cases hq;cases e
 obtain⟨_,ze,ll,_⟩:=ZZ Q d;have hb:(B6 true len cap (some (.int k i)) none none).run P w=.ok (i.toNat,len,cap) w:=by
  grind [B6,AS,Ak,AE,Qk]
 rw[Xz D H K A (l:=i.toNat) (h:=len) (m:=cap) (by simpa[Xp N]using hb)];refine Out.here r ?_;rw[show len-i.toNat=([]:List (List I)).length by simp;omega];refine .aX _ _ _ _ [] _ _ 0 0 (λ_ _=>undef) (by simp) (λe=>by have:=S e;split<;>simp[this]) (by simp) (λe=>?_) (by simp) (by simp) (by simp) (by simp);split at e
 ·omega
 ·simp at e;have:=R e;omega
theorem QaY(ex:Bool)(sz b off len:Nat)(rs:List (List I))(k:IntKind)(i:Int)(h1:i=len)(hz:sz≠0)(h0:Hp)(hb:h0 b=some (.rows sz rs)) :
  aG P GL (.cU sz true false false) [.sl b off len ex,.int k i] h0 (.sl b (off+len) 0 ex) [b] []:=by
 intro o os K w0 L g hp w a r N Q _;obtain⟨t,x,C,j,D,e,R,S,T,V,rfl,X,Y⟩:=Yw K;obtain⟨C,rfl⟩:∃z,C=some z:=An.1 S.symm;obtain rfl:j=none:=by cases j<;>first|rfl|cases T
 obtain rfl:D=none:=by cases D<;>first|rfl|cases V
 obtain⟨d,d2,_⟩:=N;obtain⟨E,p,cap,f,F,_⟩:=Ik d;have G:=OV r ((Q b (by simp)).trans hb) f;rw[F]at d;obtain⟨_,ze,ll,_⟩:=ZZ f d;have DQ:(B6 true len cap (some (.int k i)) none none).run P w=.ok (i.toNat,len,cap) w:=by
  grind [B6,AS,Ak,AE,Qk]
 rw[Xz R X Y F (l:=i.toNat) (h:=len) (m:=cap) (by simpa[Xp d2]using DQ)];have j:i.toNat=len:=by omega
 rw[j,<-G];refine Out.here r ?_;rw[Hu];generalize hq:(L7 p len cap)=q at d;cases d with
 |n9 _ _ _ H _ s A=>
  cases hq<;>grind
 |sle _ _ _ _ H _ s A g1 g2=>
  cases hq<;>grind
 |sl _ _ _ _ _ H _ s A g1 g2 g9993=>
  rw[f]at s;cases s;cases hq;by_cases B:cap=len
  ·subst B;rw[aE rfl,Hu];exact .sle _ _ _ _ E _ f A (by rw[G];exact hz) g2
  ·rw[aB B];have:=Den.sl (M:=g.M) g.c b (off+len) 0 ex E (cap-len) f A (Nat.zero_le _) (by grind) (λe=>absurd (g9993 e) B);show Den g.M g.c _ _
   grind [QX]
theorem Ya4(sz:Nat)(k:IntKind)(h0:Hp):aG P GL (.cU sz true false false) [.aq,.int k 0] h0 .aq [] []:=by
 intro o os p K L g N w a r s Q _;obtain⟨t,x,f,i,j,e,A,B,C,D,rfl,E,F⟩:=Yw p;obtain⟨f,rfl⟩:∃z,f=some z:=An.1 B.symm;obtain rfl:i=none:=by cases i<;>first|rfl|cases C
 obtain rfl:j=none:=by cases j<;>first|rfl|cases D
 obtain⟨d,G,_⟩:=s;have H:a.eval x=.slice none 0 0:=by
  generalize a.eval x=u at d;cases d;rfl
 have hb:(B6 true 0 0 (some (.int k 0)) none none).run P w=.ok (0,0,0) w:=by
  rfl
 rw[Xz A E F H (l:=0) (h:=0) (m:=0) (by simpa[Xp G]using hb)];exact Out.here r (.aq _)
theorem Za4(sz:Nat)(k:IntKind)(h0:Hp):aG P GL (.cU sz false true false) [.aq,.int k 0] h0 .aq [] []:=by
 intro o os p K L g N w a r s Q _;obtain⟨t,x,f,i,j,e,A,B,C,D,rfl,E,F⟩:=Yw p;obtain rfl:f=none:=by cases f<;>first|rfl|cases B
 obtain⟨i,rfl⟩:∃z,i=some z:=An.1 C.symm;obtain rfl:j=none:=by cases j<;>first|rfl|cases D
 obtain⟨d,G,_⟩:=s;have H:a.eval x=.slice none 0 0:=by
  generalize a.eval x=u at d;cases d;rfl
 have hb:(B6 true 0 0 none (some (.int k 0)) none).run P w=.ok (0,0,0) w:=by
  rfl
 rw[Xz A E F H (l:=0) (h:=0) (m:=0) (by simpa[Xp G]using hb)];exact Out.here r (.aq _)
theorem Zbc(ex:Bool)(sz b off len:Nat)(rs:List (List I))(k:IntKind)(i:Int)(h1:0<=i)(h2:i<=len)(h0:Hp)(hb:h0 b=some (.rows sz rs)) :
  aG P GL (.cU sz false true false) [.sl b off len ex,.int k i] h0 (.sl b off i.toNat false) [b] []:=by
 intro o os C V L g X w a r D E _;obtain⟨t,x,f,j,s,e,F,G,H,K,rfl,N,Q⟩:=Yw C;obtain rfl:f=none:=by cases f<;>first|rfl|cases G
 obtain⟨j,rfl⟩:∃z,j=some z:=An.1 H.symm;obtain rfl:s=none:=by cases s<;>first|rfl|cases K
 obtain⟨d,R,_⟩:=D;obtain⟨Y,p,cap,A,B,_⟩:=Ik d;have S:=OV r ((E b (by simp)).trans hb) A;rw[B]at d;obtain⟨_,ze,ll,T⟩:=ZZ A d;have hb:(B6 true len cap none (some (.int k i)) none).run P w=.ok (0,i.toNat,cap) w:=by
  grind [B6,AS,Ak,AE,Qk]
 rw[Xz F N Q B (l:=0) (h:=i.toNat) (m:=cap) (by simpa[Xp R]using hb)];rw[<-S];have:=T (l:=0) (h:=i.toNat) (by omega) (by omega) false (by simp) (.inr rfl);exact Out.here r this
theorem XaY(ex:Bool)(sz b off len:Nat)(rs:List (List I))(k f:IntKind)(i j:Int)(h1:0<=i)(h2:i<j\/(i=0/\0<=j))(h3:j<=len\/(sz≠0/\off+j.toNat<=rs.length))(h0:Hp)(hb:h0 b=some (.rows sz rs)) :
  aG P GL (.cU sz true true false) [.sl b off len ex,.int k i,.int f j] h0 (.sl b (off+i.toNat) (j.toNat-i.toNat) false) [b] []:=by
 intro o os F X L g Y w a r G s _;obtain⟨t,x,A,B,C,e,H,K,N,Q,rfl,R,S⟩:=Yw F;obtain⟨A,rfl⟩:∃z,A=some z:=An.1 K.symm;obtain⟨B,rfl⟩:∃z,B=some z:=An.1 N.symm;obtain rfl:C=none:=by cases C<;>first|rfl|cases Q
 obtain⟨d,T,V,_⟩:=G;obtain⟨cb,p,cap,D,E,_⟩:=Ik d;have ei:=OV r ((s b (by simp)).trans hb) D;rw[E]at d;obtain⟨_,ze,ll,vz⟩:=ZZ D d;have hjc:j<=cap:=by
  rcases h3 with h3|⟨h3,h4⟩
  ·omega
  ·have:=YdC r ((s b (by simp)).trans hb) h3 d;omega
 have hb:(B6 true len cap (some (.int k i)) (some (.int f j)) none).run P w=.ok (i.toNat,j.toNat,cap) w:=by
  simp only[B6,AS,Ak,AE,Qk f j cap _ (by omega) (by omega),Qk k i j.toNat _ h1 (by omega)]
 rw[Xz H R S E (l:=i.toNat) (h:=j.toNat) (m:=cap) (by simpa[Xp T,Xp V]using hb)]
 grind [Out.here]
theorem QbA(ex:Bool)(sz b off len:Nat)(k f k'':IntKind)(i j m:Int)(h1:0<=i)(h2:i<=j)(h3:j<=m)(h4:m<=len)(h0:Hp) :
  aG P GL (.cU sz true true true) [.sl b off len ex,.int k i,.int f j,.int k'' m] h0 .aP [] []:=by
 intro o os D S L g T w a r E V _;obtain⟨t,x,s,A,B,e,F,G,H,K,rfl,N,Q⟩:=Yw D;obtain⟨s,rfl⟩:∃z,s=some z:=An.1 G.symm;obtain⟨A,rfl⟩:∃z,A=some z:=An.1 H.symm;obtain⟨B,rfl⟩:∃z,B=some z:=An.1 K.symm;obtain⟨d,X,Y,d4,_⟩:=E;obtain⟨cb,p,cap,R,C,_⟩:=Ik d;rw[C]at d;obtain⟨_,ze,ll,vz⟩:=ZZ R d;have hb:(B6 true len cap (some (.int k i)) (some (.int f j)) (some (.int k'' m))).run P w=.ok (i.toNat,j.toNat,m.toNat) w:=by
  simp only[B6,AS,Ak,AE,Qk k'' m cap _ (by omega) (by omega),Qk f j m.toNat _ (by omega) (by omega),Qk k i j.toNat _ h1 (by omega)]
 rw[Xz F N Q C (l:=i.toNat) (h:=j.toNat) (m:=m.toNat) (by grind [Xp])];exact Out.here r (.aP _ _)
theorem ZbG(sz:Nat)(x:I)(B:x=.aq\/x=.cX\/(∃b o l e,x=.sl b o l e)\/∃e C s rows,x=.aX e C s rows)(k f:IntKind)(h0:Hp) :
  aG P GL (.cU sz false true true) [x,.int k 0,.int f 0] h0 .cX [] []:=by
 intro o os D V L g X w a r E Y _;obtain⟨t,y,i,j,A,e,F,G,H,K,rfl,N,Q⟩:=Yw D;obtain rfl:i=none:=by cases i<;>first|rfl|cases G
 obtain⟨j,rfl⟩:∃z,j=some z:=An.1 H.symm;obtain⟨A,rfl⟩:∃z,A=some z:=An.1 K.symm;obtain⟨d,R,S,_⟩:=E;have hsh:∃p len cap,a.eval y=.slice p len cap:=by
  generalize lq:a.eval y=u1 at d;rcases B with rfl|rfl|⟨_,_,_,_,rfl⟩|⟨_,_,_,_,rfl⟩
  ·cases d;exact⟨_,_,_,rfl⟩
  ·cases d;exact⟨_,_,_,rfl⟩
  ·cases d<;>exact⟨_,_,_,rfl⟩
  ·cases d;exact⟨_,_,_,rfl⟩
 obtain⟨p,len,cap,T⟩:=hsh;have hb:(B6 true len cap none (some (.int k 0)) (some (.int f 0))).run P w=.ok (0,0,0) w:=by
  rfl
 rw[Xz F N Q T (l:=0) (h:=0) (m:=0) (by simpa[Xp R,Xp S]using hb)];exact Out.here r (.cX _ _)
end
variable{α:Type}
theorem QB{b:Bool}{x:Option α}{v:α}(h:(bif b then x else none)=some v):b=true/\x=some v:=by
 grind
theorem XR{b:Bool}{x y v:α}(h:(bif b then x else y)=v):(b=true/\x=v)\/(b=false/\y=v):=by
 grind
def zG:Bool->I->Bool
 |true,.str _=>true
 |false,.int _ _=>true
 |_,_=>false
theorem XbM{s:Bool}{k:I}(h:zG s k=true):mz s k:=by
 cases s<;>cases k<;>simp_all [zG,mz]
def a_:List (List I)->Bool
 |[]=>true
 |r::rs=>r.all I.cell&&a_ rs
theorem Y0:∀ {rs:List (List I)},a_ rs=true->∀row∈rs,∀x∈row,I.cell x=true
 |[],_,_,hm,_,_=>by cases hm
 |r::rs,h,row,hm,x,d=>by
  simp only[a_,AA]at h;cases hm with
  |head=>exact C1.1 h.1 x d
  |tail _ hm=>exact Y0 h.2 row hm x d
def Yl(sz:Nat)(J:List U):I->Option (List (List I)×List Nat)
 |.aX _ _ s rows=>bif AJ s sz then some (rows,[])else none
 |.aq=>some ([],[])
 |.cX=>some ([],[])
 |.sl b off len _=>match ai J b with
  |.rows s rs=>bif AJ s sz&&BY (off+len) rs.length then some (cut off (off+len) rs,[b])else none
  |_=>none
 |_=>none
variable{J:List U}
theorem XU{ys:List (List I)}{rd:List Nat}(h:Yl sz J y=some (ys,rd)):fy (hp J) sz y ys rd:=by
 unfold Yl at h;split at h
 ·replace h:=QB h;obtain⟨hb,h⟩:=h
  have:=fK hb;subst this;cases h;exact .row _ _ _
 ·cases h;exact .aq
 ·cases h;exact .cX
 ·split at h
  ·rename_i d
   replace h:=QB h;obtain⟨hb,h⟩:=h
   simp only[AA]at hb;have:=fK hb.1;subst this;cases h;exact .own _ _ _ _ _ (wQ d (by simp)) (iq hb.2)
  ·cases h
 ·cases h
def yU:I->I
 |.aX true _ _ []=>.cX
 |x=>x
theorem Q0(x:I)(g:Gm)(u:Value)(d:g.den x u):g.den (yU x) u:=by
 unfold yU;split
 ·obtain⟨p,cap,f,_,i⟩:=HZ d;have:=i rfl;rw[f,this];exact .cX _ _
 ·exact d
def JY:I->Bool
 |.aq=>true
 |.cX=>true
 |.sl ..=>true
 |.aX ..=>true
 |_=>false
theorem TA(h:JY x=true):x=.aq\/x=.cX\/(∃b o l e,x=.sl b o l e)\/∃e d sz rows,x=.aX e d sz rows:=by
 cases x<;>simp_all [JY]
def mapOf(J:List U):I->Option (List (I×I)×List Nat)
 |.map b=>match ai J b with
  |.map es=>some (es,[b])
  |_=>none
 |.fI es=>some (es,[])
 |.cG=>some ([],[])
 |_=>none
theorem Qd7{m:I}{d:List (I×I)}{rd:List Nat}(h:mapOf J m=some (d,rd)):rV (hp J) m d rd:=by
 unfold mapOf at h;split at h
 ·split at h
  ·rename_i f;cases h;exact .own _ _ (JS f)
  ·cases h
 ·cases h;exact .row _
 ·cases h;exact .nil
 ·cases h
def Xk(xs:List I)(J:List U):aL:=match xs with
  |[.bool true,x,_]=>.ok x [] []
  |[.bool false,_,y]=>.ok y [] []
  |_=>.stop
def Zi(sz:Nat)(xs:List I)(J:List U):aL:=match xs with
  | [.aX e n s rows,.int _ (.ofNat i)]=>bif AJ s sz then (match nth rows i with
   |some row=>.ok (.al row 0) [] []
   | none=>.stop)else .stop
  | [.sl b o len _,.int _ (.ofNat i)]=>bif C3 i len then (match ai J b with
   |.rows s _=>bif AJ s sz then .ok (.ptr b (o+i) 0) [b] []else .stop
   | _=>.stop)else .stop
  |_=>.stop
def YR(xs:List I)(J:List U):aL:=match xs with
  |[.str s,.int _ (.ofNat i)]=>match nth s i with
   |some c=>.ok (.int .u8 c.toNat) [] []
   |none=>.stop
  |_=>.stop
def Xf(agg:Bool)(n:Nat)(xs:List I)(J:List U):aL:=match xs with
  |[.ptr b i j]=>match ai J b with
   |.rows _ rs=>match nth rs i with
    |some row=>match aO agg j n row with
     |some v=>.ok v [b] []
     |none=>.stop
    |none=>.stop
   |_=>.stop
  |xs=>sT (.load agg n) xs J
def Xh(n:Nat)(xs:List I)(J:List U):aL:=match xs with
  |[.ptr b i j,x]=>match ai J b with
   |.rows sz rs=>match nth rs i with
    |some row=>match cellsOf x with
     | some cs=>bif AJ cs.length n then (match bW j cs row with
      |some row'=>match QF i row' rs with
       |some rs'=>.ok .aP [] [(b,.rows sz rs')]
       |none=>.stop
      | none=>.stop)else .stop
     |none=>.stop
    |none=>.stop
   |_=>.stop
  |xs=>sT (.store n) xs J
def ZB(sz:Nat)(xs:List I)(J:List U):aL:=match xs with
  |[.aX e n s rows,.int _ (.ofNat i)]=>bif AJ s sz&&BY i rows.length then .ok (.aX e n sz (cut i rows.length rows)) [] []else .stop
  |[.sl b off len e,.int _ (.ofNat i)]=>match ai J b with
   |.rows s _=>bif AJ s sz then (bif C3 i len then .ok (.sl b (off+i) (len-i) e) [b] []else bif AJ i len then (bif AJ sz 3 then .ok (.sl b (off+len) 0 e) [b] []else .ok (.aX false (C3 0 len) sz []) [] [])else .stop)else .stop
   |_=>.stop
  |[.aq,.int _ (.ofNat 0)]=>.ok .aq [] []
  |_=>.stop
def QK(sz:Nat)(xs:List I)(J:List U):aL:=match xs with
  |[.aX e n s rows,.int _ (.ofNat i)]=>bif AJ s sz&&BY i rows.length then .ok (.aX false n sz (cut 0 i rows)) [] []else .stop
  |[.sl b off len e,.int _ (.ofNat i)]=>match ai J b with
   |.rows s _=>bif AJ s sz&&BY i len then .ok (.sl b off i false) [b] []else .stop
   |_=>.stop
  |[.aq,.int _ (.ofNat 0)]=>.ok .aq [] []
  |_=>.stop
def QO(sz:Nat)(xs:List I)(J:List U):aL:=match xs with
  |[.aX e n s rows,.int _ (.ofNat i),.int _ (.ofNat j)]=>bif AJ s sz&&(BY i j&&BY j rows.length)then .ok (.aX false n sz (cut i j rows)) [] []else .stop
  |[.sl b off len e,.int _ (.ofNat i),.int _ (.ofNat j)]=>match ai J b with
   |.rows s rs=>bif AJ s sz&&((C3 i j||AJ i 0)&&(BY j len||(!(AJ sz 0)&&BY (off+j) rs.length)))then .ok (.sl b (off+i) (j-i) false) [b] []else .stop
   |_=>.stop
  |_=>.stop
def XE(xs:List I)(J:List U):aL:=match xs with
  |[.str s,.int _ (.ofNat i),.int _ (.ofNat j)]=>bif BY i j&&BY j s.length then .ok (.str ((s.take j).drop i)) [] []else .stop
  |_=>.stop
def YC(xs:List I)(J:List U):aL:=match xs with
  |[.str s,.int _ (.ofNat i)]=>bif BY i s.length then .ok (.str (s.drop i)) [] []else .stop
  |_=>.stop
def XC(xs:List I)(J:List U):aL:=match xs with
  |[.str s,.int _ (.ofNat i)]=>bif BY i s.length then .ok (.str (s.take i)) [] []else .stop
  |_=>.stop
def TF(n:Nat)(by_:Nat)(z:List I)(xs:List I)(J:List U):aL:=match xs with
  |[.int _ (.ofNat len)]=>bif BY (by_*len) (2 ^ 48)&&C3 len (2 ^ 62)then .ok (.sl J.length 0 len true) [] [(J.length,.rows n (CD len z))]else .stop
  |_=>.stop
def Qz(n by_:Nat)(J:List U)(rs:List (List I))(kill:List (Nat×U))(y:I):aL:=match Yl n J y with
 |some (d,rd)=>bif a_ d&&BY ((2*(rs.length+d.length)+192)*by_) (2 ^ 48)then
   .ok (.sl J.length 0 (rs.length+d.length) false) rd (kill++[(J.length,.rows n (rs++d))])else .stop
 |none=>.stop
def zN(n by_:Nat)(J:List U)(b off len:Nat)(rs:List (List I))(y:I):aL:=match Yl n J y with
 | some (d,rd)=>bif a_ d then (bif BY (off + len + d.length) rs.length then .ok (.sl b off (len + d.length) false) rd [(b,.rows n (over (off + len) d rs))]
   else bif AJ off 0&&(BY len rs.length&&(!(rd.contains b)&&BY ((2*(len+d.length)+192)*by_) (2 ^ 48)))then
    .ok (.sl J.length 0 (len + d.length) false) rd [(b,.dead),(J.length,.rows n (rs.take len ++ d))]else .stop)else .stop
 |none=>.stop
def zw(n by_:Nat)(J:List U)(b len:Nat)(rs:List (List I))(y:I):aL:=match Yl n J y with
 | some (d,rd)=>bif a_ d && BY ((2 * (len + d.length) + 192) * by_) (2 ^ 48)then (bif BY (len + d.length) rs.length then .ok (.sl b 0 (len + d.length) false) rd [(b,.full n (over len d rs))]
   else bif BY len rs.length then .ok (.sl J.length 0 (len + d.length) false) (b :: rd) [(J.length,.rows n (rs.take len ++ d))]else .stop)else .stop
 |none=>.stop
def zu:List (List I)->Bool
 |[]=>true
 |r::rs=>fV r&&zu rs
theorem ZbR:∀ {rs:List (List I)},zu rs=true->∀(i:Nat) (row:List I),rs[i]?=some row->∀(j:Nat) (x:I),row[j]?=some x->x.ro=true
 |r::rs,h,0,row,e,j,x,ex=>by
  simp at e;subst e;simp only[zu,AA]at h;have:∀(l:List I),fV l=true->∀(j:Nat) (x:I),l[j]?=some x->x.ro=true:=by
   intro l
   induction l<;>grind [fV]
  exact this _ h.1 j x ex
 |r::rs,h,i+1,row,e,j,x,ex=>by
  simp only[zu,AA]at h;exact ZbR h.2 i row (by simpa using e) j x ex
theorem YbF{P:Program}{GL:aw}(n by_:Nat)(z:List I)(K:Bool)(y:I)(rs ys:List (List I))(rd:List Nat)(h0:Hp)(N:fy h0 n y ys rd)(km:zu (rs++ys)=true)(bU:(2*(rs.length+ys.length)+192)*by_<=2 ^ 48) :
  aG P GL (.append n by_ z) [.aX true K n rs,y] h0 (.aX false false n (rs++ys)) rd []:=by
 intro o os Q w0 L g h w a r hx R _;generalize S:o.op=op at Q;cases Q with
 |append t t' e ox oy _ _ v _ T AM V X Y sM dM lR kU=>
  obtain⟨d,hd,qt⟩:=AM;obtain⟨d1,A,_⟩:=hx;generalize lq:a.eval ox=u1 at d1;generalize rm:a.eval oy=u2 at A;obtain⟨p,nS,nZ,s,f1,CV,_⟩:=QL (P:=P) (h0:=h0) r.drew (.row true K rs) (λb hb=>by cases hb) d1;obtain⟨p2,zZ,newv,e2,f2,rC,_⟩:=QL (P:=P) r N R A;obtain⟨p2',BS,nI,B,Ld,sY,_⟩:=QL (P:=P) r.drew N R A;have gV:(Fb u2).run P w=.ok ys.length w:=by rw[e2];rfl
  have pR:nS=rs.length:=by
   rw[s]at d1;cases d1<;>simp_all
  subst pR;by_cases sN:ys=[]
  ·subst sN;have AB:newv.toList=[]:=by have:=rC.1;simp at this;simp[this]
   have C:(D5 #[t,t'] o.type #[.slice p rs.length rs.length,u2]).run P w=.ok (.slice p rs.length rs.length) w:=by
    obtain⟨k1,k2⟩:=(ZJ T hd qt V X Y lR (base:=p) (len:=rs.length) (cap:=rs.length) (newv:=newv) gV o.type).1 (by simp) f2;cases p with
    |none=>exact k1 rfl
    |some ad=>exact k2 ad w rfl (by rw[AB];rfl)
   rw[QI S (by rw[lq];exact s) rm C];refine Out.here r ?_;rw[List.append_nil,<-s];cases d1 with
   |aX _ _ _ _ _ a' cap aD off f q1 D q3 q4 q5 q6 q7 q8=>exact .aX _ _ _ _ _ a' cap aD off f (λh=>by cases h) (λh=>by cases h) q3 q4 q5 q6 q7 q8
  ·have rh:0<ys.length:=List.length_pos_iff.2 sN;obtain⟨E,xV,C⟩:=(ZJ T hd qt V X Y lR (base:=p) (len:=rs.length) (cap:=rs.length) (newv:=nI) gV o.type).2 (by omega) bU nZ (by rw[<-s];exact f1) Ld;rw[QI S (by rw[lq];exact s) rm C];obtain⟨q1,D⟩:=SQ (c:=DT v.cells (E-(rs.length+ys.length))) CV sY;generalize oW:nZ++nI++DT v.cells (E-(rs.length+ys.length))=arr at D;have ME:(rs++ys).length*n<=arr.size:=by
    rw[<-oW];simp only[Array.size_append,CV.1,sY.1,AT,Nat.add_mul];omega
   obtain⟨hle,AG⟩:=r.drew.wU (.cells arr e);refine⟨_,hle,AG,?_⟩;have hl:rs.length+ys.length=(rs++ys).length:=(AT).symm;rw[hl];refine .aX _ _ _ _ _ _ E w.heap.size 0 (λi j=>(arr[i*n+j]?).getD undef) (λh=>by cases h) (λh=>by cases h) (λ_=>rfl) (λh=>by cases h) (by rw[<-hl];exact xV) q1 (λi j F hj=>?_) (λi row j x G B=>?_)
   ·have H:i*n+j<arr.size:=by
     have:(i+1)*n<=(rs++ys).length*n:=Av n F;rw[EN]at this;omega
    rw[Al];unfold iS;have:oh g.M w.drew.heap.size (.cells arr e) w.heap.size=some (.cells arr e):=by simp[oh]
    grind
   ·have F:i<(rs++ys).length:=(eS G).1;have hj:j<n:=by grind
    have H:i*n+j<arr.size:=by
     have:(i+1)*n<=(rs++ys).length*n:=Av n F;rw[EN]at this;omega
    have hdn:=D i row j x arr[i*n+j] G B (by simp[H]);have:(arr[i*n+j]?).getD undef=arr[i*n+j]:=by simp[H]
    show Den _ _ x ((arr[i*n+j]?).getD undef);rw[this];exact(Den.mono hle.m hdn (fW.refl _)).ro (ZbR km i row G j x B) _
def Yh(n:Nat)(by_:Nat)(xs:List I)(J:List U):aL:=match xs with
  |[.aX true false s rs,y]=>match Yl n J y with
   |some (d,rd)=>bif AJ s n&&(zu (rs++d)&&BY ((2*(rs.length+d.length)+192)*by_) (2 ^ 48))then .ok (.aX false false n (rs++d)) rd []else .stop
   |none=>.stop
  |[x,y]=>match yU x with
   |.aq=>Qz n by_ J [] [] y
   |.cX=>match Yl n J y with
    |some ([],rd)=>bif JY x then .ok x rd []else .stop
    |_=>Qz n by_ J [] [] y
   |.sl b off len _=>match ai J b with
    |.rows s rs=>bif AJ s n then (bif AJ rs.length (len+off)then Qz n by_ J (rs.drop off) [(b,.dead)] y else zN n by_ J b off len rs y)else .stop
    |.full s rs=>bif AJ s n&&AJ off 0 then zw n by_ J b len rs y else .stop
    |_=>.stop
   |x=>match Yl n J y with
    |some ([],rd)=>bif JY x then .ok x rd []else .stop
    |_=>.stop
  |_=>.stop
def Z4(n:Nat)(z:List I)(xs:List I)(J:List U):aL:=match xs with
  |[.sl b off len _]=>match ai J b with
   |.rows s rs=>bif AJ s n&&BY (off+len) rs.length then .ok .aP [] [(b,.rows n (over off (CD len z) rs))]else .stop
   |_=>.stop
  |[.aq]=>.ok .aP [] []
  |[.cX]=>.ok .aP [] []
  |[.aX _ _ _ []]=>.ok .aP [] []
  |_=>.stop
def ZL(xs:List I)(J:List U):aL:=match xs with
  |[.sl _ _ len _,.int _ (.ofNat i),.int _ (.ofNat j),.int _ (.ofNat m)]=>bif BY i j&&(BY j m&&BY m len)then .ok .aP [] []else .stop
  |_=>.stop
def YH(sz:Nat)(xs:List I)(J:List U):aL:=match xs with
  | [x,.int _ (.ofNat i),.int _ (.ofNat j)]=>bif AJ i 0 && AJ j 0 then (bif JY x then .ok .cX [] []else .stop)else (match x with
   |.aX _ d s rows=>bif AJ s sz&&(AJ i j&&BY i rows.length)then .ok (.aX true d s (cut 0 i rows)) [] []else .stop
   | _=>.stop)
  |_=>.stop
def Yu(str:Bool)(ok:Bool)(z:I)(xs:List I)(J:List U):aL:=match xs with
  | [m,q]=>bif zG str q then (match mapOf J m with
   |some (es,rd)=>match js q es with
    |some r=>.ok (lK ok z r) rd []
    |none=>.stop
   | none=>.stop)else .stop
  |_=>.stop
def XD(str:Bool)(xs:List I)(J:List U):aL:=match xs with
  | [.map b,q,x]=>bif zG str q then (match ai J b with
   |.map es=>match oE q x es with
    |some d=>.ok .aP [] [(b,.map d)]
    |none=>.stop
   | _=>.stop)else .stop
  |_=>.stop
def Kb(xs:List I)(J:List U):aL:=match xs with
  |[.iter b]=>match ai J b with
   |.fo s pos=>bif C3 pos s.length then .ok (.bw [.bool true,.int .i64 pos,.int .i32 (EY ⟨s.toArray⟩ pos).1]) [] [(b,.fo s (pos+(EY ⟨s.toArray⟩ pos).2))]
    else .ok (.bw [.bool false]) [b] []
   |_=>.stop
  |_=>.stop
def eU(k:MK)(xs:List I)(J:List U):aL:=
 match k with
 |.pick=>Xk xs J
 |.fE sz=>Zi sz xs J
 |.lW=>YR xs J
 |.load agg n=>Xf agg n xs J
 |.store n=>Xh n xs J
 |.cU sz true false false=>ZB sz xs J
 |.cU sz false true false=>QK sz xs J
 |.cU sz true true false=>QO sz xs J
 |.cU _ true true true=>ZL xs J
 |.cU sz false true true=>YH sz xs J
 |.iM n z=>Z4 n z xs J
 |.e9 true true=>XE xs J
 |.e9 true false=>YC xs J
 |.e9 false true=>XC xs J
 |.sS n by_ z=>TF n by_ z xs J
 |.append n by_ _=>Yh n by_ xs J
 |.lookup str ok z=>Yu str ok z xs J
 |.lY str=>XD str xs J
 |.next=>Kb xs J
 |k=>sT k xs J
theorem YbS:∀ {l l':List α} {i:Nat} {c:α},QF i c l=some l'->l'=l.set i c
 |[],_,_,_,h=>by simp[QF]at h
 |x::l,l',0,c,h=>by simp[QF]at h;subst h;rfl
 |x::l,l',i+1,c,h=>by
  simp only[QF]at h;cases e:QF i c l with
  |none=>simp[e]at h
  |some r=>simp[e]at h;subst h;rw[YbS e];rfl
theorem ZI(h:ai J b=.rows sz rs):hp J b=some (.rows sz rs):=wQ h (by simp)
theorem UM{P:Program}{GL:aw}{kill:List (Nat×U)}{rd:List Nat}(hx:ny (hp J) n x rs kill)(h:Qz n by_ J rs kill y=.ok v rd up):aG P GL (.append n by_ z) [x,y] (hp J) v rd up:=by
 unfold Qz at h;split at h
 ·rename_i d
  replace h:=Xi h;obtain⟨hs,h⟩:=h
  simp only[AA]at hs
  grind [ZbS,yT,XU,Y0,iq]
 ·cases h
theorem Xde{P:Program}{GL:aw}{rd:List Nat}(hb:hp J b=some (.rows n rs))(h:zN n by_ J b off len rs y=.ok v rd up):aG P GL (.append n by_ z) [.sl b off len ex,y] (hp J) v rd up:=by
 unfold zN at h;split at h
 ·rename_i d
  replace h:=Xi h;obtain⟨f,h⟩:=h
  replace h:=XR h
  rcases h with ⟨hs,h⟩|⟨_,h⟩
  ·grind [YaY,XU,Y0,iq]
  ·replace h:=Xi h;obtain⟨hs,h⟩:=h
   simp only[AA,B9]at hs
   grind [fK,ZbF,yT,iq,XU,Y0]
 ·cases h
theorem Zc0{P:Program}{GL:aw}{rd:List Nat}(hb:hp J b=some (.full n rs))(h:zw n by_ J b len rs y=.ok v rd up):aG P GL (.append n by_ z) [.sl b 0 len ex,y] (hp J) v rd up:=by
 unfold zw at h;split at h
 ·rename_i f o i
  replace h:=Xi h;obtain⟨d,h⟩:=h
  simp only[AA]at d
  replace h:=XR h
  rcases h with ⟨hs,h⟩|⟨hs,h⟩
  ·cases h;exact Qbz n by_ z y b len ex rs f _ _ hb (XU i) (Y0 d.1) (iq hs)
  ·replace h:=Xi h;obtain⟨j,h⟩:=h
   cases h;have hq:¬len+f.length<=rs.length:=λq=>by rw[AH q]at hs;cases hs
   exact ZbA n by_ z y b len ex rs f _ _ _ (yT J) hb (XU i) (Y0 d.1) (iq j) (Nat.lt_of_not_le hq) (iq d.2)
 ·cases h
theorem Xct{P:Program}{GL:aw}{rd:List Nat}(h:Yh n by_ xs J=.ok v rd up):aG P GL (.append n by_ z) xs (hp J) v rd up:=by
 unfold Yh at h;split at h
 ·split at h
  ·rename_i i
   replace h:=Xi h;obtain⟨hs,h⟩:=h
   simp only[AA]at hs
   grind [fK,YbF,XU,iq]
  ·cases h
 ·rename_i x y _;split at h
  ·rename_i d;refine aG.d_ (Q0 x) ?_;rw[d];exact UM .aq h
  ·rename_i d;split at h
   ·rename_i i
    replace h:=Xi h;grind [QaA,TA,XU]
   ·refine aG.d_ (Q0 x) ?_;rw[d];exact UM .cX h
  ·rename_i b off len ex d;refine aG.d_ (Q0 x) ?_;rw[d];split at h
   ·rename_i s rs f
    replace h:=Xi h;obtain⟨hs,h⟩:=h
    have:=fK hs;subst this
    replace h:=XR h
    rcases h with ⟨hq,h⟩|⟨_,h⟩
    ·exact UM (.own _ _ _ _ _ (ZI f) ((fK hq).trans (Hv _ _))) h
    ·exact Xde (ZI f) h
   ·rename_i s rs f
    replace h:=Xi h;obtain⟨hs,h⟩:=h
    simp only[AA]at hs;have h1:=fK hs.1;have h2:=fK hs.2;subst h1;subst h2;exact Zc0 (wQ f (by simp)) h
   ·cases h
  ·refine aG.d_ (Q0 x) ?_;split at h
   ·rename_i i
    replace h:=Xi h;grind [QaA,TA,XU]
   ·cases h
 ·cases h
theorem Zc2{P:Program}{GL:aw}{rd:List Nat}(h:Z4 n z xs J=.ok v rd up):aG P GL (.iM n z) xs (hp J) v rd up:=by
 unfold Z4 at h;split at h
 ·split at h
  ·rename_i d
   replace h:=Xi h;obtain⟨hs,h⟩:=h
   simp only[AA]at hs
   grind [fK,QdH,ZI,iq]
  ·cases h
 ·cases h;exact TH _ _ _ _ (.inl rfl)
 ·cases h;simp[TH]
 ·cases h;simp[TH]
 ·cases h
theorem Yb8{P:Program}{GL:aw}{rd:List Nat}(h:ZL xs J=.ok v rd up):aG P GL (.cU n true true true) xs (hp J) v rd up:=by
 unfold ZL at h;split at h
 ·replace h:=Xi h;obtain⟨hs,h⟩:=h
  simp only[AA]at hs;cases h<;>simp_all [QbA]
 ·cases h
theorem Xb8{P:Program}{GL:aw}{rd:List Nat}(h:YH n xs J=.ok v rd up):aG P GL (.cU n false true true) xs (hp J) v rd up:=by
 unfold YH at h;split at h
 ·rename_i x k i d j
  replace h:=XR h
  rcases h with ⟨hq,h⟩|⟨_,h⟩
  ·simp only[AA]at hq;have h1:=fK hq.1;have h2:=fK hq.2;subst h1;subst h2
   replace h:=Xi h;grind [ZbG,TA]
  ·split at h
   ·replace h:=Xi h;obtain⟨hs,h⟩:=h
    simp only[AA]at hs;have h1:=fK hs.1;have h2:=fK hs.2.1;subst h1;subst h2;cases h;exact XbF _ _ _ _ _ _ (Int.ofNat i) (C4 _) (ES.2 (iq hs.2.2)) _
   ·cases h
 ·cases h
theorem YL{P:Program}{GL:aw}:Dc P GL eU:=by
 intro k xs J v rd up h;unfold eU at h;simp only[Xk,Zi,YR,Xf,Xh,ZB,QK,QO,XE,YC,XC,TF,Yu,XD,Kb]at h;split at h
 ·split at h
  ·cases h;exact Qdb _ _ _
  ·cases h;exact Zdc _ _ _
  ·cases h
 ·split at h
  ·replace h:=Xi h;obtain⟨hs,h⟩:=h
   have:=fK hs;subst this;split at h
   ·rename_i f;cases h;rw[Q4]at f;exact Qbb _ _ _ _ _ _ _ (C4 _) f _
   ·cases h
  ·replace h:=Xi h;obtain⟨i,h⟩:=h
   split at h
   ·rename_i d
    replace h:=Xi h;obtain⟨hs,h⟩:=h
    have:=fK hs;subst this;cases h;exact Xbb _ _ _ _ _ _ _ _ (C4 _) (Hf.2 (iq i)) _ (ZI d)
   ·cases h
  ·cases h
 ·split at h
  ·split at h
   ·rename_i f;cases h;rw[Q4]at f;exact Yda _ _ _ _ (C4 _) f _
   ·cases h
  ·cases h
 ·split at h
  ·split at h
   ·rename_i d;split at h
    ·rename_i f;split at h
     ·rename_i p;cases h;rw[Q4]at f;exact Yb4 _ _ _ _ _ _ _ _ _ _ (ZI d) f p
     ·cases h
    ·cases h
   ·cases h
  ·exact SJ h
 ·split at h
  ·split at h
   ·rename_i d;split at h
    ·rename_i f;split at h
     ·rename_i r
      replace h:=Xi h;obtain⟨j,h⟩:=h
      split at h
      ·rename_i hs;split at h
       ·rename_i s;cases h;rw[Q4]at f;exact YbG _ _ _ _ _ _ _ _ _ _ _ _ (ZI d) f r (fK j) hs (YbS s)
       ·cases h
      ·cases h
     ·cases h
    ·cases h
   ·cases h
  ·exact SJ h
 ·split at h
  ·replace h:=Xi h;obtain⟨hs,h⟩:=h
   simp only[AA]at hs;have:=fK hs.1;subst this;cases h;exact Zco _ _ _ _ _ _ (C4 _) (ES.2 (iq hs.2)) _
  ·split at h
   ·rename_i d
    replace h:=Xi h;obtain⟨hs,h⟩:=h
    have:=fK hs;subst this
    replace h:=XR h;rcases h with ⟨i,h⟩|⟨_,h⟩
    ·cases h;exact Ybc _ _ _ _ _ _ _ _ (C4 _) (Hf.2 (iq i)) _ (ZI d)
    ·replace h:=Xi h;obtain⟨he,h⟩:=h
     have:=fK he;subst this
     replace h:=XR h;rcases h with ⟨h3,h⟩|⟨_,h⟩
     ·cases h;have:=fK h3;exact QaY _ _ _ _ _ _ _ _ rfl (by omega) _ (ZI d)
     ·cases h;exact Xa4 _ _ _ _ _ _ _ rfl _
   ·cases h
  ·cases h;exact Ya4 _ _ _
  ·cases h
 ·split at h
  ·replace h:=Xi h;obtain⟨hs,h⟩:=h
   simp only[AA]at hs;have:=fK hs.1;subst this;cases h;exact Qcn _ _ _ _ _ _ (C4 _) (ES.2 (iq hs.2)) _
  ·split at h
   ·rename_i d
    replace h:=Xi h;obtain⟨hs,h⟩:=h
    simp only[AA]at hs;have:=fK hs.1;subst this;cases h;exact Zbc _ _ _ _ _ _ _ _ (C4 _) (ES.2 (iq hs.2)) _ (ZI d)
   ·cases h
  ·cases h;exact Za4 _ _ _
  ·cases h
 ·split at h
  ·replace h:=Xi h;obtain⟨hs,h⟩:=h
   simp only[AA]at hs;have:=fK hs.1;subst this;cases h;exact QbF _ _ _ _ _ _ _ _ (C4 _) (ES.2 (iq hs.2.1)) (ES.2 (iq hs.2.2)) _
  ·split at h
   ·rename_i d
    replace h:=Xi h;obtain⟨hs,h⟩:=h
    simp only[AA,EA]at hs;have:=fK hs.1;subst this;cases h;refine XaY _ _ _ _ _ _ _ _ _ _ (C4 _) ?_ ?_ _ (ZI d)
    ·rcases hs.2.1 with q|q
     ·exact .inl (Hf.2 (iq q))
     ·have:=fK q;subst this;exact .inr ⟨rfl,C4 _⟩
    ·rcases hs.2.2 with q|q
     ·exact .inl (ES.2 (iq q))
     ·simp only[AA,B9]at q;exact .inr ⟨(λw=>by rw[w]at q;cases q.1),iq q.2⟩
   ·cases h
  ·cases h
 ·exact Yb8 h
 ·exact Xb8 h
 ·exact Zc2 h
 ·split at h
  ·replace h:=Xi h;obtain⟨hs,h⟩:=h
   simp only[AA]at hs;cases h;exact Xcn _ _ _ _ _ (C4 _) (ES.2 (iq hs.1)) (ES.2 (iq hs.2)) _
  ·cases h
 ·split at h
  ·replace h:=Xi h;obtain⟨hs,h⟩:=h
   cases h;exact XbA _ _ _ (C4 _) (ES.2 (iq hs)) _
  ·cases h
 ·split at h
  ·replace h:=Xi h;obtain⟨hs,h⟩:=h
   cases h;exact YbA _ _ _ (C4 _) (ES.2 (iq hs)) _
  ·cases h
 ·split at h
  ·replace h:=Xi h;obtain⟨hs,h⟩:=h
   simp only[AA]at hs;cases h;exact XdI _ _ _ _ _ (iq hs.1) (iq hs.2) _ _ (yT J)
  ·cases h
 ·exact Xct h
 ·split at h
  ·replace h:=Xi h;obtain⟨hs,h⟩:=h
   split at h
   ·rename_i o;split at h
    ·rename_i j;cases h;exact Zdb _ _ _ _ _ _ _ _ _ (Qd7 o) (XbM hs) j
    ·cases h
   ·cases h
  ·cases h
 ·split at h
  ·replace h:=Xi h;obtain⟨hs,h⟩:=h
   split at h
   ·rename_i o;split at h
    ·rename_i j;cases h;exact Ydb _ _ _ _ _ _ _ (JS o) (XbM hs) j
    ·cases h
   ·cases h
  ·cases h
 ·split at h
  ·split at h
   ·rename_i d
    replace h:=XR h;rcases h with ⟨i,h⟩|⟨i,h⟩
    ·cases h;exact(YcW _ _ _ _ (wQ d (by simp))).1 (iq i)
    ·cases h;refine(YcW _ _ _ _ (wQ d (by simp))).2 ?_;exact Nat.le_of_not_lt (λq=>by rw[show C3 _ _=true from AH q]at i;cases i)
   ·cases h
  ·cases h
 ·exact SJ h
def xY:List (Bool×Bool)->Bool
 |[]=>true
 |(true,true)::r=>xY r
 |(false,false)::r=>xY r
 |_=>false
def yP:Cons->Bool
 |[]=>true
 | (G,(x,y)) :: r=>(bif xY G then (match x,y with
  |true,true=>true
  |false,false=>true
  | _,_=>false)else gh G || false) && yP r
where gh:List (Bool×Bool)->Bool
 |[]=>false
 |(true,false)::_=>true
 |(false,true)::_=>true
 |_::r=>gh r
theorem SE:∀ {c:List (Bool×Bool)},yP.gh c=true->¬et c
 |[],h=>by simp[yP.gh]at h
 |(true,false)::r,h=>λq=>by have:=q _ (EL ..);cases this
 |(false,true)::r,h=>λq=>by have:=q _ (EL ..);cases this
 |(true,true)::r,h=>λq=>SE (c:=r) h (λp d=>q p (DI _ d))
 |(false,false)::r,h=>λq=>SE (c:=r) h (λp d=>q p (DI _ d))
theorem Xn{H:Prop}:∀(xs:List I),mu (zD H) xs xs
 |[]=>trivial
 |x::xs=>⟨.inl rfl,Xn xs⟩
end Go.Ah
end
section
namespace Go.Ah
def Loc(P:Program)(GL:aw)(m:aV)(ρ:Frame)(h0:Hp)(v:I)(rd:List Nat)(up:List (Nat×U)):Prop:=
 ∀(n:Nat) (ops:Array Oper) (o:Oper),fZ P GL n ops o m->∀(ρ':Frame) (h:Hp) (f:World) (L:Ln) (g:Gm) (w:World) (a:Act),
  (∀t∈iU m,bM ρ' t=bM ρ t)->(∀b∈rd,h b=h0 b)->(∀p∈up,h p.1=h0 p.1)->bu GL f L g h w->dc n g ρ' a ->
  ∀(next:Act->World->Prop) (Q:Exit->Act->World->Prop),(∀d i u,g.Le d->bu GL f L d (cx h up) i->dc n d (cB m.dst v ρ') (a.put o.dst u)->next (a.put o.dst u) i) ->
   if Region.wanted o (yielded ops a.tmps)then o.wp P a w next Q\/(o.asks P a w/\LetsOut Q)else next (a.put o.dst undef) w
section
variable {P:Program} {GL:aw}
variable{ρ:Frame}
variable{m:aV}
theorem UC{ρ':Frame}(h:∀t∈iU m,bM ρ' t=bM ρ t):m.xs.map (ev ρ')=m.xs.map (ev ρ):=by
 apply List.map_congr_left;intro x b;cases x with
 |t n=>exact h n (Bd.2 (.inl (FY.2 ⟨.t n,b,rfl⟩)))
 |c v=>rfl
theorem JA{ρ':Frame}(h:∀t∈iU m,bM ρ' t=bM ρ t){cs:List (Bool×Bool)}(hg:dG ρ m.guard cs):dG ρ' m.guard cs:=by
 unfold iU at h;generalize m.guard=gd at hg h;cases hg with
 |none=>exact .none
 |bool s w c e=>exact .bool s w c (by rw[h s (by simp)];exact e)
 |when s w c cs e=>exact .when s w c cs (by rw[h s (by simp)];exact e)
theorem Qcz{J:List U}{lg:Log}{K:Frame->List U->Log->Prop}(s:eu true P GL m ρ J lg K) :
  ∃v rd up σ',h_ J up=some σ'/\K (cB m.dst v ρ) σ' (lg++[(rd,up.map (·.1))])/\Loc P GL m ρ (hp J) v rd up:=by
 cases s with
 |run cs S v rd up σ' h1 h2 h3 h4 h5 h6=>
  refine⟨v,rd,up,σ',h5,h6,?_⟩;intro n ops o ok ρ' h A L g w a f B dQ r d next Q i;obtain⟨os,C,D⟩:=ok.op;have j:=Jg r d D;rw[aE ((Zu ok d (JA f h1)).1 h2)];left;have E:=Iq trivial h3 (by rw[<-UC f];exact j);have F:=h4 o os C A L g h w a r E B dQ;refine F.upon (λG u H hle hr f=>i G H u hle hr ?_);rw[ok.dst];exact(d.mono hle).cB ok.lt f
 |skip cs h1 h2 h3=>
  refine⟨.aP,[],[],J,rfl,h3,?_⟩;intro n ops o ok ρ' h A L g w a f B dQ r d next Q i;rw[aB (by grind [Zu,JA])];refine i g w undef (Gm.Le.refl g) r ?_;rw[ok.dst];exact d.cB ok.lt (.aP _ _)
 |lazy cs S v rd h1 h2 h3 h4=>
  refine⟨.when cs v,rd,[],J,rfl,h4,?_⟩;intro n ops o ok ρ' h A L g w a f B dQ r d next Q i;obtain⟨os,C,D⟩:=ok.op;have j:=Jg r d D;by_cases b:et cs
  ·rw[aE ((Zu ok d (JA f h1)).1 b)];left;have E:=Iq b h2 (by rw[<-UC f];exact j);have F:=h3 b o os C A L g h w a r E B dQ;refine F.upon (λG u H hle hr f=>i G H u hle hr ?_);rw[ok.dst];exact(d.mono hle).cB ok.lt (.when _ _ _ _ (λ_=>f) (λh=>(h b).elim))
  ·rw[aB (by grind [Zu,JA])];refine i g w undef (Gm.Le.refl g) r ?_;rw[ok.dst];exact d.cB ok.lt (.when _ _ _ _ (λh=>(b h).elim) (λ_=>rfl))
 |pick cs x y z c p q v h1 hk AP hx hy hz T h8=>
  refine⟨v,[],[],J,rfl,h8,?_⟩;intro n ops o ok ρ' h A L g w a f B dQ r d next Q i;obtain⟨os,C,D⟩:=ok.op;have j:=Jg r d D;rw[UC f,AP]at j;have V:=JA f h1;have N:=C;rw[hk]at N;generalize mn:o.op=op at N;cases N with
  |pick oc X Y=>
   obtain⟨d1,d2,d3,_⟩:=j;by_cases b:et cs
   ·rw[aE ((Zu ok d V).1 b)];left;have e1:=QD (Df b hx d1);have nX:g.den (.bool (bif c then p else q)) (if c then a.eval X else a.eval Y):=by
     cases c
     ·exact Df ⟨b,rfl⟩ hz d3
     ·exact Df ⟨b,rfl⟩ hy d2
    have bJ:(execOp a.eval o).run P w=.ok (.value (if c then a.eval X else a.eval Y)) w:=by
     simp_all [execOp,asBool]
    unfold Oper.wp;rw[bJ];refine i g _ _ (Gm.Le.refl g) r ?_;rw[ok.dst];rcases T with rfl|⟨rfl,rfl⟩
    ·exact d.cB ok.lt (.when _ _ _ _ (λ_=>nX) (λh=>(h b).elim))
    ·exact d.cB ok.lt nX
   ·rw[aB (by rw[(Zu ok d V).2 b];simp)];refine i g _ _ (Gm.Le.refl g) r ?_;rw[ok.dst];rcases T with rfl|⟨rfl,rfl⟩
    ·exact d.cB ok.lt (.when _ _ _ _ (λh=>(b h).elim) (λ_=>rfl))
    ·exact(b (by simp[et])).elim
 |rel cs S R h0=>cases h0
structure TS where
 v:I
 rd:List Nat
 up:List (Nat×U)
def Tr(P:Program)(GL:aw):List aV->List TS->Frame->List U->Log->(Frame->List U->Log->Prop)->Prop
 |[],[],ρ,J,b,Q=>Q ρ J b
 |m::ms,t::d,ρ,J,b,Q=>Loc P GL m ρ (hp J) t.v t.rd t.up/\∃σ',h_ J t.up=some σ'/\Tr P GL ms d (cB m.dst t.v ρ) σ' (b++[(t.rd,t.up.map (·.1))]) Q
 |_,_,_,_,_,_=>False
theorem SY:∀(ms:List aV) (ρ:Frame) (J:List U) (lg:Log) (Q:Frame->List U->Log->Prop),iW true P GL ms ρ J lg Q->∃b,Tr P GL ms b ρ J lg Q
 |[],ρ,J,lg,Q,h=>⟨[],h⟩
 |m::ms,ρ,J,lg,Q,h=>by
  obtain⟨v,rd,up,σ',h1,h2,h3⟩:=Qcz h;obtain⟨b,d⟩:=SY ms _ _ _ Q h2;exact⟨⟨v,rd,up⟩::b,h3,σ',h1,d⟩
def lj(S:Nat->Bool):Nat->List aV->List TS->Frame->Frame
 |i,m::ms,t::b,ρ=>lj S (i+1) ms b (if S i then cB m.dst t.v ρ else ρ)
 |_,_,_,ρ=>ρ
def jF(S:Nat->Bool):Nat->List TS->Hp->Hp
 |i,t::b,h=>jF S (i+1) b (if S i then cx h t.up else h)
 |_,_,h=>h
theorem X1{S S':Nat->Bool}{t:Nat}:∀(ms:List aV) (d:List TS) (i:Nat) (ρ ρ':Frame),(∀(k:Nat) (m:aV),ms[k]?=some m->m.dst=some t->S (i+k)=S' (i+k))->bM ρ t=bM ρ' t->bM (lj S i ms d ρ) t=bM (lj S' i ms d ρ') t
 |[],_,_,_,_,_,h=>by simpa[lj]using h
 |_::_,[],_,_,_,_,h=>by simpa[lj]using h
 |m::ms,x::d,i,ρ,ρ',hs,h=>by
  simp only[lj];refine X1 ms d (i+1) _ _ (λk j f o=>by have:=hs (k+1) j (by simpa using f) o;grind) ?_;by_cases hd:m.dst=some t
  ·have:=hs 0 m rfl hd;rw[FF]at this
   grind [Q9]
  ·have f:∀(b:Bool) (r:Frame),bM (if b then cB m.dst x.v r else r) t=bM r t:=by simp_all [Q9]
   rw[f,f,h]
theorem SU:∀(up:List (Nat×U)) (h d:Hp) (b:Nat),b∈up.map (·.1)->cx h up b=cx d up b
 |[],_,_,_,e=>by cases e
 |(a,x)::up,h,d,b,e=>by
  by_cases hb:b∈up.map (·.1)
  ·exact SU up _ _ b hb
  ·have:b=a:=by simp_all
   subst this;have out:∀(up:List (Nat×U)) (h:Hp),b∉up.map (·.1)->cx h up b=h b:=by
    intro up
    induction up<;>simp_all [cx,Yr]
   simp_all [cx,Ys]
theorem Rs:∀(up:List (Nat×U)) (h:Hp) (b:Nat),b∉up.map (·.1)->cx h up b=h b
 |[],_,_,_=>rfl
 |(a,x)::up,h,b,d=>by
  simp only[B7,Az,not_or]at d;show cx (dQ h a x) up b=h b;rw[Rs up _ b d.2,Yr _ _ d.1]
theorem Z2{S S':Nat->Bool}{b:Nat}:∀(d:List TS) (i:Nat) (h j:Hp),(∀(k:Nat) (t:TS),d[k]?=some t->b∈t.up.map (·.1)->S (i+k)=S' (i+k))->h b=j b->jF S i d h b=jF S' i d j b
 |[],_,_,_,_,h=>by simpa[jF]using h
 |x::d,i,h,j,hs,e=>by
  simp only[jF];refine Z2 d (i+1) _ _ (λk t f o=>by have:=hs (k+1) t (by simpa using f) o;grind) ?_;by_cases hd:b∈x.up.map (·.1)
  ·have:=hs 0 x rfl hd;rw[FF]at this
   grind [SU]
  ·have f:∀(c:Bool) (r:Hp),(if c then cx r x.up else r) b=r b:=by simp_all [Rs]
   rw[f,f,e]
theorem Ut{S:Nat->Bool}{t:Nat}:∀(ms:List aV) (b:List TS) (i:Nat) (ρ:Frame) (j:Nat) (m:aV) (x:TS),ms[j]?=some m->b[j]?=some x->m.dst=some t->S (i+j)=true ->
  (∀(k:Nat) (d:aV),ms[k]?=some d->d.dst=some t->S (i+k)=true->k<=j)->bM (lj S i ms b ρ) t=x.v
 |m::ms,x::b,i,ρ,0,y,z,f,o,e3,p,r=>by
  simp at f o;subst f o;rw[FF]at p;simp only[lj,p,if_true];have:=X1 (S:=S) (S':=λ_=>false) (t:=t) ms b (i + 1) (cB m.dst x.v ρ) (cB m.dst x.v ρ) (λk d s w=>by
   cases C:S (i+1+k)with
   |false=>rfl
   | true=>have:=r (k + 1) d (by simpa using s) w (by grind);omega) rfl
  rw[this];have A:∀(ms:List aV) (b:List TS) (i:Nat) (ρ:Frame),lj (λ_=>false) i ms b ρ=ρ:=by
   intro ms
   induction ms with
   |nil=>intros;simp[lj]
   |cons m ms D=>intro b i ρ;cases b<;>simp_all [lj]
  rw[A,Q9,aE e3]
 |m::ms,x::b,i,ρ,j+1,y,z,f,o,e3,p,r=>by
  simp only[lj];exact Ut ms b (i + 1) _ j y z (by simpa using f) (by simpa using o) e3 (by rwa [show i + 1 + j=i + (j + 1) by omega]) (λk d s w E=>by
   have:=r (k + 1) d (by simpa using s) w (by rwa [show i + (k + 1)=i + 1 + k by omega]);omega)
 |[],_,_,_,_,_,_,f,_,_,_,_=>by simp at f
 |_::_,[],_,_,_,_,_,_,o,_,_,_=>by simp at o
theorem TJ{S:Nat->Bool}{b:Nat}:∀(d:List TS) (i:Nat) (h:Hp) (j:Nat) (x:TS),d[j]?=some x->b∈x.up.map (·.1)->S (i+j)=true ->
  (∀(k:Nat) (z:TS),d[k]?=some z->b∈z.up.map (·.1)->S (i+k)=true->k<=j)->∀o:Hp,jF S i d h b=cx o x.up b
 |x::d,i,h,0,A,f,e3,p,r,o=>by
  simp at f;subst f;rw[FF]at p;simp only[jF,p,if_true];have:=Z2 (S:=S) (S':=λ_=>false) (b:=b) d (i + 1) (cx h x.up) (cx o x.up) (λk s w y=>by
   cases D:S (i+1+k)with
   |false=>rfl
   | true=>have:=r (k + 1) s (by simpa using w) y (by grind);omega) (SU _ _ _ _ e3)
  rw[this];have B:∀(d:List TS) (i:Nat) (h:Hp),jF (λ_=>false) i d h=h:=by
   intro d
   induction d<;>grind [jF]
  rw[B]
 |x::d,i,h,j+1,A,f,e3,p,r,o=>by
  simp only[jF];exact TJ d (i + 1) _ j A (by simpa using f) e3 (by rwa [show i + 1 + j=i + (j + 1) by omega]) (λk s w y E=>by
   have:=r (k + 1) s (by simpa using w) y (by rwa [show i + (k + 1)=i + 1 + k by omega]);omega) o
 |[],_,_,_,_,f,_,_,_,_=>by simp at f
theorem J6:∀(ms:List aV) (d:List TS) (i:Nat) (ρ:Frame) (J:List U) (lg:Log) (Q:Frame->List U->Log->Prop),Tr P GL ms d ρ J lg Q ->
  d.length=ms.length /\
  (∀(j:Nat) (m:aV) (x:TS),ms[j]?=some m->d[j]?=some x->∃ρ',(∀t,bM ρ' t=bM (lj (λk=>decide (k<i+j)) i ms d ρ) t)/\Loc P GL m ρ' (jF (λk=>decide (k<i+j)) i d (hp J)) x.v x.rd x.up) /\
  ∃ρ' σ',(∀t,bM ρ' t=bM (lj (λ_=>true) i ms d ρ) t)/\hp σ'=jF (λ_=>true) i d (hp J)/\Q ρ' σ' (lg++d.map λx=>(x.rd,x.up.map (·.1)))
 |[],[],i,ρ,J,lg,Q,h=>⟨rfl,by simp,ρ,J,by simp[lj],by simp[jF],by simpa[Tr]using h⟩
 |[],_::_,_,_,_,_,_,h=>h.elim
 |_::_,[],_,_,_,_,_,h=>h.elim
 |m::ms,x::d,i,ρ,J,lg,Q,h=>by
  obtain⟨h1,σ',h2,h3⟩:=h;obtain⟨k1,k2,ρ2,σ2,k3,w,r⟩:=J6 ms d (i+1) _ _ _ _ h3;have y:=Ij _ _ _ h2;refine⟨by simp[k1],λj z A o p=>?_,ρ2,σ2,λt=>by rw[k3 t];simp[lj],by simp_all [jF],by simpa[Cp]using r⟩;cases j with
  |zero=>
   simp at o p;subst o p;have hf:∀t,bM ρ t=bM (lj (λk=>decide (k<i+0)) i (m::ms) (x::d) ρ) t:=by
    intro t;have:=X1 (S:=λk=>decide (k<i+0)) (S':=λ_=>false) (t:=t) (m::ms) (x::d) i ρ ρ (λk _ _ _=>by simp) rfl;rw[this];have f:∀(ms:List aV) (d:List TS) (i:Nat) (ρ:Frame),lj (λ_=>false) i ms d ρ=ρ:=by
     intro ms
     induction ms with
     |nil=>intros;simp[lj]
     |cons m ms B=>intro d i ρ;cases d<;>simp_all [lj]
    rw[f]
   have C:jF (λk=>decide (k<i+0)) i (x::d) (hp J)=hp J:=by
    funext b
    have:=Z2 (S:=λk=>decide (k<i+0)) (S':=λ_=>false) (b:=b) (x::d) i (hp J) (hp J) (λk _ _ _=>by simp) rfl;rw[this];have f:∀(d:List TS) (i:Nat) (h:Hp),jF (λ_=>false) i d h=h:=by
     intro d
     induction d<;>simp_all [jF]
    rw[f]
   grind
  |succ j=>
   grind [lj,jF]
end
end Go.Ah
end
section
namespace Go.Ah
theorem Is:∀ {a b:List Nat},df a b=true->∀x,x∈a->x∉b
 |[],_,_,x,h=>by cases h
 |y::a,b,hd,x,h=>by
  simp only[df,AA,B9]at hd;rcases Az.1 h with rfl|h
  ·intro hb;have:=Ew.2 hb;rw[hd.1]at this;cases this
  ·exact Is hd.2 x h
theorem Uk{h:List Nat}{q:List Nat×List Nat}:∀ {lg:Log} {i:Nat},Qj h q i lg=true->∀(k:Nat) (p:List Nat×List Nat),lg[k]?=some p->(i+k)∈h\/bF p q=true
 |[],_,_,_,_,e=>by simp at e
 |p::lg,i,b,0,d,e=>by
  simp_all [Qj]
 |p::lg,i,b,k+1,d,e=>by
  simp only[Qj,AA]at b;have:=Uk b.2 k d (by simpa using e)
  grind
def qj(S:Nat->Bool):Nat->Nat
 |0=>0
 |n+1=>qj S n+(if S n then 0 else 1)
theorem Pe{S:Nat->Bool}:∀ {n:Nat},qj S n=0->∀k,k<n->S k=true
 |0,_,k,h=>by omega
 |n+1,e,k,h=>by
  simp only[qj]at e;by_cases b:k=n
  ·simp_all
  ·exact Pe (S:=S) (n:=n) (by omega) k (by omega)
theorem XcI{S S':Nat->Bool}:∀ {n:Nat},(∀k,k<n->S' k=S k)->qj S' n=qj S n
 |0,_=>rfl
 |n+1,h=>by simp only[qj];rw[XcI (λk b=>h k (by omega)),h n (by omega)]
theorem OE{S S':Nat->Bool}{j:Nat}:∀ {n:Nat},j<n->S j=false->S' j=true->(∀k,k<n->k≠j->S' k=S k)->qj S' n+1=qj S n
 |0,h,_,_,_=>by omega
 |n+1,h,h1,h2,h3=>by
  simp only[qj];by_cases d:j=n
  ·grind [XcI]
  ·have:=OE (n:=n) (by omega) h1 h2 (λk f b=>h3 k (by omega) b)
   grind
structure qd (ops:List Oper) (ms:List aV) (hd:List (List Nat)):Prop where
 len:ops.length=ms.length
 back:∀j,j<ms.length->∀i∈waits (ops.getD j default),i<j
 ahd:∀j,j<ms.length->∀i∈Zl hd j,i<j/\(i∈waits (ops.getD j default)\/∃k∈waits (ops.getD j default),i∈Zl hd k)
 nM:∀j,j<ms.length->∀i,i<j->i∈Zl hd j\/((∀t∈eE (ms.getD i default),t∉iU (ms.getD j default))/\(∀t∈eE (ms.getD i default),t∉eE (ms.getD j default))/\∀t∈iU (ms.getD i default),t∉eE (ms.getD j default))
variable{hd:List (List Nat)}
variable{ms:List aV}
theorem Rl{ops:List Oper}(h:zE ops ms hd=true):qd ops ms hd:=by
 unfold zE at h;simp only[AA,C1,DW,EA,FV]at h;obtain⟨⟨⟨⟨h1,h2⟩,h3⟩,h4⟩,h5⟩:=h;refine⟨fK h1,λj b i d=>iq (h3 j b i d),λj b i d=>?_,λj b i d=>?_⟩
 ·simp_all
 grind [Is]
section
variable {P:Program} {GL:aw}
theorem Jw{ops:List Oper}(D:qd ops ms hd){S:Nat->Bool}(hS:∀j,S j=true->j<ms.length/\∀i∈waits (ops.getD j default),S i=true) :
  ∀(j:Nat),j<ms.length->(∀i∈waits (ops.getD j default),S i=true)->∀i∈Zl hd j,S i=true:=by
 intro j
 induction j using Eu with
 |_ j f=>
  intro b hw i o;rcases (D.ahd j b i o).2 with q|⟨k,q,p⟩
  ·exact hw i q
  ·have d:=hw k q;exact f k (D.back j b k q) (hS k d).1 (hS k d).2 i p
theorem HP{o:Oper}{i:Nat}:i∈waits o↔∃e∈o.after,Region.binds .any e=true/\e.on=i:=by
 grind [waits]
theorem XZ(ops:Array Oper)(j:Nat){o:Oper}(h:ops[j]?=some o):ops.toList.getD j default=o:=by
 simp_all
theorem Yc5{n:Nat}{ops:Array Oper}(ei:ops.size=ms.length)(bT:∀(j:Nat) (m:aV),ms[j]?=some m->∃o,ops[j]?=some o/\fZ P GL n ops o m)(dS:zE ops.toList ms hd=true)
 {ρ:Frame}{J:List U}{d:List TS}{K:Frame->List U->Log->Prop}(AN:Tr P GL ms d ρ J [] K)(xC:Qg hd (d.map λx=>(x.rd,x.up.map (·.1)))=true)
 {w0:World}{L:Ln}{g:Gm}(Q:Exit->Act->World->Prop)(hQ:∀s ρ' σ' a w,g.Le s->bu GL w0 L s (hp σ') w->dc n s ρ' a->K ρ' σ' (d.map λx=>(x.rd,x.up.map (·.1)))->Q .normal a w) :
  ∀(fuel:Nat) (listed:Array Bool) (a:Act) (w:World),listed.size=ms.length->(∀j,listed.getD j false=true->j<ms.length/\∀i∈waits (ops.toList.getD j default),listed.getD i false=true) ->
   qj (λk=>listed.getD k false) ms.length<=fuel->(∃s ρ',g.Le s/\bu GL w0 L s (jF (λk=>listed.getD k false) 0 d (hp J)) w/\dc n s ρ' a/\∀t,bM ρ' t=bM (lj (λk=>listed.getD k false) 0 ms d ρ) t) ->
   wpAny P .any ops Q fuel listed a w:=by
 have D:=Rl dS;obtain⟨hlen,rL,ρf,σf,Cs,WA,xM⟩:=J6 ms d 0 ρ J [] K AN;rw[Cm]at xM;have hA:∀j,j<ms.length->∀i,i<j->i∈Zl hd j\/bF (Zs (d.map λx=>(x.rd,x.up.map (·.1))) i) (Zs (d.map λx=>(x.rd,x.up.map (·.1))) j)=true:=by
  intro j hj i F;unfold Qg at xC;simp only[C1,DW,Be]at xC;have:=Uk (xC j (by omega)) i (Zs (d.map λx=>(x.rd,x.up.map (·.1))) i) (by
   grind [Zs])
  rwa [Al]at this
 have X:∀j x,d[j]?=some x->Zs (d.map λx=>(x.rd,x.up.map (·.1))) j=(x.rd,x.up.map (·.1)):=by
  simp_all [Zs]
 have fin:∀(listed:Array Bool) (a:Act) (w:World),(∀k,k<ms.length->listed.getD k false=true)->(∃s ρ',g.Le s/\bu GL w0 L s (jF (λk=>listed.getD k false) 0 d (hp J)) w/\dc n s ρ' a/\∀t,bM ρ' t=bM (lj (λk=>listed.getD k false) 0 ms d ρ) t)->Q .normal a w:=by
  rintro listed a w fq ⟨s,ρ',h1,h2,h3,h4⟩;refine hQ s ρf σf a w h1 ?_ ?_ xM
  ·rw[WA];have:jF (λk=>listed.getD k false) 0 d (hp J)=jF (λ_=>true) 0 d (hp J):=by
    funext b
    simp_all [Z2,List.getElem?_eq_some_iff]
   rw[<-this];exact h2
  ·refine h3.d_ (λt=>.inl ?_);rw[Cs t,h4 t];refine X1 _ _ _ _ _ (λk m e _=>?_) rfl
   grind
 have rdy:∀(listed:Array Bool),listed.size=ms.length->E0 .any ops listed=[]->∀k,k<ms.length->listed.getD k false=true:=by
  intro listed hs hr k
  induction k using Eu with
  |_ k ih=>
   intro f;cases hl:listed.getD k false with
   |true=>rfl
   |false=>
    exfalso;have Mb:ops[k]?=some ops[k]:=by simp
    have:k∈E0 .any ops listed:=by
     rw[mem_ready];refine⟨?_,ops[k],Mb,λe he hb=>?_⟩
     ·simp_all
     ·have hw:e.on∈waits (ops.toList.getD k default):=by rw[XZ ops k Mb,HP];exact⟨e,he,hb,rfl⟩
      have A:=D.back k f _ hw;exact ih e.on A (by omega)
    rw[hr]at this;cases this
 intro fuel
 induction fuel with
 |zero=>
  intro listed a w hs G hc Y;have fq:=Pe (Hn.1 hc);refine⟨?_,fin listed a w fq Y⟩;cases hr:E0 .any ops listed with
  |nil=>rfl
  |cons k r=>
   exfalso;have:k∈E0 .any ops listed:=by rw[hr];simp
   grind [mem_ready]
 |succ fuel ih=>
  intro listed a w hs G hc Y;refine⟨λhr=>fin listed a w (rdy listed hs hr) Y,λj hj=>?_⟩;obtain⟨h1,o,ho,xK⟩:=mem_ready.1 hj;have H:j<ms.length:=by grind
  have Ai:listed.getD j false=false:=by
   grind
  have Ei:∀i∈waits (ops.toList.getD j default),listed.getD i false=true:=by
   intro i F;rw[XZ ops j ho,HP]at F
   grind
  have hhd:=Jw D (S:=λk=>listed.getD k false) G j H Ei;have xU:ms[j]?=some ms[j]:=by simp
  have N:d[j]?=some (d[j]'(by omega)):=by simp[show j<d.length by omega]
  generalize hmd:ms[j]=m at xU;generalize hxd:(d[j]'(by omega))=x at N;have Y_:ms.getD j default=m:=by grind
  obtain⟨o',fM,M8⟩:=bT j m xU;rw[ho]at fM;cases fM;obtain⟨ρj,q1,q2⟩:=rL j m x xU N;simp only[Al]at q1 q2;obtain⟨s,ρ',s1,s2,s3,s4⟩:=Y;have key:∀k,k<ms.length->(k<j->k∈Zl hd j)->(j<k->j∈Zl hd k)->(k≠j)->(listed.getD k false=decide (k<j)):=by
   intro k f ha hb R;by_cases A:k<j
   ·grind
   ·rw[i7 A];have E:j<k:=by omega
    cases hl:listed.getD k false with
    |false=>rfl
    |true=>
     have:listed.getD j false=true:=Jw D (S:=λk=>listed.getD k false) G k f (G k hl).2 j (hb E);rw[Ai]at this;cases this
  have lJ:∀t,(t∈iU m)->∀k mk,ms[k]?=some mk->mk.dst=some t->k≠j->listed.getD k false=decide (k<j):=by
   intro t ht k mk f DX R;have B:k<ms.length:=(eS f).1;have L9:ms.getD k default=mk:=by grind
   have Wt:t∈eE mk:=by unfold eE;rw[DX];simp
   refine key k B (λA=>?_) (λE=>?_) R
   ·rcases D.nM j H k A with q|⟨q,_,_⟩
    ·exact q
    grind
   ·rcases D.nM k B j E with q|⟨_,_,q⟩
    ·exact q
    grind
  have iE:∀b,(b∈x.rd\/b∈x.up.map (·.1))->∀k C,d[k]?=some C->b∈C.up.map (·.1)->k≠j->listed.getD k false=decide (k<j):=by
   intro b hb k C f ct R;have B:k<ms.length:=by grind
   refine key k B (λA=>?_) (λE=>?_) R
   ·rcases hA j H k A with q|q
    ·exact q
    ·rw[X k C f,X j x N]at q;simp only[bF,AA]at q
     grind [Is]
   ·rcases hA k B j E with q|q
    ·exact q
    ·rw[X k C f,X j x N]at q;simp only[bF,AA]at q
     grind [Is]
  have tX:∀k,k=j->listed.getD k false=decide (k<j):=by rintro k rfl;rw[Ai];simp
  have heq:∀b,(b∈x.rd\/b∈x.up.map (·.1))->jF (λk=>listed.getD k false) 0 d (hp J) b=jF (λk=>decide (k<j)) 0 d (hp J) b:=by
   intro b hb;refine Z2 _ _ _ _ (λk C T V=>?_) rfl
   grind
  unfold wpOp;simp only[ho];refine q2 n ops o M8 ρ' _ w0 L s w a (λt ht=>?_) (λb hb=>heq b (.inl hb)) (λp iu=>heq p.1 (.inr (By.2 ⟨p,iu,rfl⟩))) s2 s3 _ _ (λg2 w2 u hle hr tl=>?_)
  ·rw[s4 t,q1 t];refine X1 _ _ _ _ _ (λk mk T V=>?_) rfl
   grind
  ·have AL:∀k,k<ms.length->(listed.setIfInBounds j true).getD k false=if k=j then true else listed.getD k false:=by
    intro k f;by_cases y:k=j
    ·subst y;simp[show k<listed.size by omega]
    ·rw[aB y];simp[EF (Mm y)]
   have z:∀k,(listed.setIfInBounds j true).getD k false=if k=j then true else listed.getD k false:=by
    intro k;by_cases f:k<ms.length
    ·exact AL k f
    ·rw[aB (by omega)]
     grind
   refine ih _ _ _ (by simpa using hs) (λk f=>?_) ?_ ⟨g2,cB m.dst x.v ρ',s1.trans hle,?_,tl,λt=>?_⟩
   ·rw[z]at f;by_cases y:k=j
    ·subst y;refine⟨H,λi F=>?_⟩;rw[z];split
     ·rfl
     ·exact Ei i F
    ·rw[aB y]at f;refine⟨(G k f).1,λi F=>?_⟩;rw[z];split
     ·rfl
     ·exact(G k f).2 i F
   ·have:=OE (S:=λk=>listed.getD k false) (S':=λk=>(listed.setIfInBounds j true).getD k false) (j:=j) (n:=ms.length) H Ai (by simp only[z];simp) (λk f R=>by simp only[z];rw[aB R]);omega
   ·have:jF (λk=>(listed.setIfInBounds j true).getD k false) 0 d (hp J)=cx (jF (λk=>listed.getD k false) 0 d (hp J)) x.up:=by
     funext b
     by_cases hb:b∈x.up.map (·.1)
     ·refine TJ d 0 (hp J) j x N hb (by rw[Al,z,aE rfl]) (λk C T V e3=>?_) _;rw[Al,z]at e3;by_cases y:k=j
      ·omega
      grind
     ·rw[Rs _ _ _ hb];refine Z2 _ _ _ _ (λk C T V=>?_) rfl;rw[Al];simp only[z];have y:k≠j:=by grind
      rw[aB y]
    rw[this];exact hr
   ·rw[Q9];by_cases Ap:m.dst=some t
    ·rw[aE Ap];refine(Ut ms d 0 ρ j m x xU N Ap (by rw[Al,z,aE rfl]) (λk mk T V e3=>?_)).symm;rw[Al,z]at e3;by_cases y:k=j
     ·omega
     ·rw[aB y]at e3;have B:k<ms.length:=(eS T).1;have L9:ms.getD k default=mk:=by grind
      have xJ:t∈eE m:=by unfold eE;rw[Ap];simp
      have xI:t∈eE mk:=by unfold eE;rw[V];simp
      have:=key k B (λA=>by
       rcases D.nM j H k A with q|⟨_,q,_⟩
       ·exact q
       grind) (λE=>by
       rcases D.nM k B j E with q|⟨_,q,_⟩
       ·exact q
       grind) y
      grind
    ·rw[aB Ap,s4 t];refine X1 _ _ _ _ _ (λk mk T V=>?_) rfl;rw[Al];simp only[z];have y:k≠j:=by grind
     rw[aB y]
theorem ZcH(A:P.follows .mixedOrders=true){n:Nat}{id:Nat}{ρ:Frame}{J:List U}{Q:eo}
 (h:iW true P GL ms ρ J [] (λρ' σ' B=>Qg hd B=true/\Q .normal ρ' σ')):iV P GL n (.region id ms (some hd)) ρ J Q:=by
 intro c C x L g a w r d;cases C with
 |draw _ ops _ _ f D E=>
  obtain⟨b,y⟩:=SY ms ρ J [] _ h;obtain⟨hlen,_,ρf,σf,_,_,z⟩:=J6 ms b 0 ρ J [] _ y;rw[Cm]at z;refine wp_region_any A ?_;refine Yc5 (w0:=x) (L:=L) (g:=g) f D E y z.1 _ (λF ρ' σ' H K k1 k2 k3 G=>⟨F,ρ',σ',k1,k2,k3,G.2⟩) ops.size _ a _ (by simp[f]) (λj o=>?_) ?_ ⟨g,ρ,Gm.Le.refl g,?_,d,λt=>?_⟩
  ·exfalso;rw[EP,E9]at o;split at o<;>simp at o
  ·rw[f];have:∀m,qj (λk=>(FB ms.length false).getD k false) m<=m:=by
    intro m
    induction m<;>grind [qj]
   exact this _
  ·have p:(λk=>(FB ops.size false).getD k false)=λ_=>false:=by
    funext k;rw[EP,E9];split<;>rfl
   rw[p];have s:∀(b:List TS) (i:Nat) (h:Hp),jF (λ_=>false) i b h=h:=by
    intro b
    induction b<;>simp_all [jF]
   rw[s];exact r.drew
  ·have p:(λk=>(FB ops.size false).getD k false)=λ_=>false:=by
    funext k;rw[EP,E9];split<;>rfl
   rw[p];have s:∀(ms:List aV) (b:List TS) (i:Nat) (ρ:Frame),lj (λ_=>false) i ms b ρ=ρ:=by
    intro ms
    induction ms with
    |nil=>intros;simp[lj]
    |cons m ms N=>intro b i ρ;cases b<;>grind [lj]
   rw[s]
end
end Go.Ah
end
section
namespace Go.Ah
theorem Steps.AW{P:Program}{m m₁ t:Machine}(h:Steps P m t)(hs:step P m=.next m₁):t=m\/Steps P m₁ t:=by
 obtain⟨n,b⟩:=h;cases n with
 |zero=>simp[runN]at b;exact .inl b.symm
 |succ n=>simp only[runN,hs]at b;exact .inr ⟨n,b⟩
theorem XbK:∀(k b:List Item) (id:Nat),exitTo id k=some b->b.length<=k.length
  |[],b,id,h=>by simp[exitTo]at h
  |x::k,b,id,h=>by
    have d:=XbK k b id;cases x<;>simp only[exitTo]at h<;>first
      |(have:=d h;simp;omega)
      | (split at h
         · cases h;simp
         · have:=d h;simp;omega)
variable{w:World}
variable{a:Act}
theorem Qcg{b:Fs}{f:Act}{k d:List Item}{cs:List Fs}{w':World}(h:lone (b.at a k) cs w=lone (b.at f d) cs w'):k=d:=by
 simp_all [lone,Fs.at]
theorem Xcg{b:Fs}{d:Act}{k f:List Item}{cs:List Fs}{w':World}{m:FrameMode}(hm:m≠.run)(h:lone { b.at d f with mode:=m } cs w'=lone (b.at a k) cs w):False:=by
 simp_all [lone,Fs.at]
theorem Zdy{P:Program}{c:Code}{Q:Exit->Act->World->Prop}(o:∀a w,¬Q .outgrown a w)(p:∀l a w,¬Q (.goto l) a w)(h:(I1 c).wp P Q a w)(b:Fs)(k:List Item)(cs:List Fs) :
  ∃e d f,Q e d f/\Arrives P (lone (b.at a (.code c::.inLoop c::k)) cs w) b k cs e d f:=by
 obtain⟨e,d,f,hq,i⟩:=h b k cs;refine⟨e,d,f,hq,?_⟩;cases e with
 |normal=>
  rcases Steps.AW i step_loop with e|e
  ·have:=Qcg e;have:=congrArg GF this;simp at this
  ·exact e
 |exit id=>
  intro r j;rcases Steps.AW (i r j) step_loop with e|e
  ·have:=Qcg e;have:=congrArg GF this;have:=XbK _ _ _ j;simp at *;omega
  ·exact e
 |goto l=>exact(p _ _ _ hq).elim
 |ret=>
  obtain⟨todo,hs⟩:=i;rcases Steps.AW hs step_loop with e|e
  ·exact(Xcg (by simp) e).elim
  ·exact⟨todo,e⟩
 |panic s=>
  obtain⟨todo,hs⟩:=i;rcases Steps.AW hs step_loop with e|e
  ·exact(Xcg (by simp) e).elim
  ·exact⟨todo,e⟩
 |outgrown=>exact(o _ _ hq).elim
theorem XbG{P:Program}{c:Code}{Q:Exit->Act->World->Prop}(f:∀a w,¬Q .outgrown a w)(i:∀l a w,¬Q (.goto l) a w)
 (h:c.wp P (Exit.then (λa w=>(I1 c).wp P Q a w) Q) a w):(I1 c).wp P Q a w:=by
 intro b k j;obtain⟨e,a₁,w₁,hq,d⟩:=h b (.inLoop c::k) j;cases e with
 |normal=>
  obtain⟨e₂,a₂,w₂,o,p⟩:=Zdy f i hq b k j;exact⟨e₂,a₂,w₂,o,.of_steps (.one step_loop) (.of_steps (Steps.trans d (.one step_inLoop)) p)⟩
 |exit id=>exact⟨_,a₁,w₁,hq,.of_steps (.one step_loop) (.pass (x:=.inLoop c) rfl (λ_ _=>.inl (by simp)) d)⟩
 |goto l=>exact(i _ _ _ hq).elim
 |ret=>exact⟨_,a₁,w₁,hq,.of_steps (.one step_loop) (.pass (x:=.inLoop c) rfl (λ_ _=>.inl (by simp)) d)⟩
 |panic r=>exact⟨_,a₁,w₁,hq,.of_steps (.one step_loop) (.pass (x:=.inLoop c) rfl (λ_ _=>.inl (by simp)) d)⟩
 |outgrown=>exact(f _ _ hq).elim
theorem Qc0{P:Program}{GL:aw}{n:Nat}{x:dB}{ρ:Frame}{J:List U}{Q:eo}(h:iV P GL n x ρ J (eo.andThen (λρ J=>iV P GL n (.loop x) ρ J Q) Q)):iV P GL n (.loop x) ρ J Q:=by
 intro c j b L g a w r d;cases j with
 |loop f _ h1=>
  refine XbG (λa w h=>h) (λl a w h=>h) (wp_mono (h f h1 b L g a w r d) (λe o p i=>?_));cases e with
  |normal=>
   obtain⟨s,ρ',σ',k1,k2,k3,y⟩:=i;exact wp_mono (y (.loop f) (.loop _ _ h1) b L s o p k2 k3) (ot.mono k1 (λ_ _ _ q=>q))
  |_=>exact i
section
variable (aaO:Bool->Nat->List aV->Frame->List U->Log->Cons->SC)
def Xt:MK->List I->Option (Nat×List I)
 |.call f,xs=>some (f,xs)
 |.gP,.func (.func f) first captured::xs=>some (f,first++xs++captured)
 |.invoke _ b,.iface t v::xs=>match JE t b with
  |some f=>some (f,v::xs)
  |none=>none
 |_,_=>none
end
section
variable {P:Program} {GL:aw}
theorem ZbP{F:vT}{f:FuncId}{k:MK}{xs ys:List I}(hc:Xt k xs=some (f,ys))(hp:Qh P f=true)(ok:mV P GL f F)(hn:ys.length=F.np){J:List U}{R:KT}
 (h:iV P GL F.n F.body (eH ys) J (λe Q σ'=>(e=.normal\/e=.ret)/\∃v,iI F.gI Q σ'=some v/\R v σ')):ou P GL k xs J R:=by
 have key:=TI (P:=P) (GL:=GL) ok hn h;intro o os s C L g w a r D;unfold Xt at hc;split at hc
 ·cases hc;generalize E:o.op=op at s;cases s with
  |call _ args H _=>
   have z:(execOp a.eval o).run P w=.ok (.enter f (args.map a.eval)) w:=by
    simp_all [execOp,resolve,Act.eval,GA,invoke,Q2]
   rw[z];have:=key C L g w _ r D
   rwa [<-E3,FR]at this
 ·rename_i first captured G
  cases hc;generalize E:o.op=op at s;cases s with
  |gP x args H=>
   obtain⟨d,dr⟩:=D;generalize hu:a.eval x=u0 at d;cases d with
   |func _ _ _ _ K ws h1 h2 h3 h4=>
    have z:(execOp a.eval o).run P w=.ok (.enter f (K++args.map a.eval++ws)) w:=by
     simp_all [execOp,resolve,GA,invoke,Q2]
    rw[z];have A:=dr.length;simp at A;have:=key C L g w (K ++ args.map a.eval ++ ws).toList r (eh.ma (by simp[h1,h2,A]) (λi y u p b=>by
     simp only[Array.toList_append]at b;by_cases N:i<first.length
     ·rw[Cp,Bi N]at p;rw[Cp,Bi (by simpa[h1]using N)]at b;exact h3 i y u p (by simpa using b)
     ·by_cases V:i<first.length+G.length
      ·rw[Cp,Bc (by omega),Bi (by omega)]at p;rw[Cp,Bc (by simp;omega),Bi (by simp;omega)]at b;refine dr.get (i-first.length) y u p ?_;simpa[h1]using b
      ·rw[Bc (by simp;omega)]at p;rw[Bc (by simp;omega)]at b;refine h4 (i - (first ++ G).length) y u p ?_;simpa[h1,A]using b))
    rwa [FR]at this
 ·rename_i name X B v G;split at hc
  ·rename_i Y A;cases hc;generalize E:o.op=op at s;cases s with
   |invoke y _ args H _ S=>
    obtain⟨d,dr⟩:=D;generalize hu:a.eval y=u0 at d;cases d with
    |iface _ _ _ j T=>
     obtain⟨k1,k2⟩:=S _ (SL A);have z:(execOp a.eval o).run P w=.ok (.enter f (#[j]++args.map a.eval)) w:=by
      simp only[execOp,E,resolve,AS,hu,Ak,AE,invoke];have e0:(#[FO B j]++args.map a.eval)[0]?=some (FO B j):=by grind
      have p:(#[FO B j]++args.map a.eval).extract 1 (#[FO B j]++args.map a.eval).size=args.map a.eval:=by
       simp
      grind [QbN]
     rw[z];have:=key C L g w (j::(args.map a.eval).toList) r ⟨T,by rwa [E3]⟩;have b:(j::(args.map a.eval).toList).toArray = #[j]++args.map a.eval:=by apply Array.ext';simp
     rw[b]at this;exact this
  ·cases hc
 ·cases hc
end
end Go.Ah
end
section
namespace Go.Ah
def yg:fY->Value->Bool
 |.ptr,.pointer none=>true
 |.slice,.slice none 0 0=>true
 |.iface,.nilIface=>true
 |.func,.nilFunc=>true
 |.map,.map none=>true
 |_,_=>false
theorem Yd8{c:fY}{v:Value}(h:yg c v=true):v=kz c:=by
 unfold yg at h;split at h<;>first|rfl|cases h
def bP{b β:Type}(o:Option b)(f:b->Option β):Option β:=match o with
 |some a=>f a
 |none=>none
variable{α β:Type}
theorem Zf{o:Option α}{f:α->Option β}{b:β}(h:bP o f=some b):∃a,o=some a/\f a=some b:=by
 cases o with
 |none=>cases h
 |some a=>exact⟨a,rfl,h⟩
def X4{β:Type}(c:Bool)(x:Option β):Option β:=match c with
 |true=>x
 |false=>none
theorem Zv{c:Bool}{x:Option β}{b:β}(h:X4 c x=some b):c=true/\x=some b:=by
 cases c with
 |true=>exact⟨rfl,h⟩
 |false=>cases h
def mapM'{α β:Type}(f:α->Option β):List α->Option (List β)
 |[]=>some []
 |a::l=>bP (f a) λb=>bP (mapM' f l) λr=>some (b::r)
theorem QcQ(f:α->Option β):∀(l:List α),l.mapM f=mapM' f l
 |[]=>rfl
 |a::l=>by
  rw[List.mapM_cons,QcQ f l,mapM'];cases f a with
  |none=>rfl
  |some b=>cases mapM' f l<;>rfl
def zeroCells(P:Program)(t:TypeId):Option (List I):=bP (eg P t) λv=>XN v.cells.toList
def Kh(P:Program)(t:TypeId):Bool:=match P.underlying t with
 |some .bool=>true
 |_=>false
variable{t:TypeId}
theorem Uf{P:Program}(h:Kh P t=true):P.underlying t=some .bool:=by
 grind [Kh]
def Tq(P:Program)(t:TypeId):Bool:=match P.underlying t with
 |some .string=>true
 |_=>false
theorem Zdx{P:Program}(h:Tq P t=true):P.underlying t=some .string:=by
 grind [Tq]
def ye(P:Program)(t:TypeId):Option IntKind:=match P.underlying t with
 |some (.int k)=>some k
 |_=>none
theorem YeB{P:Program}{k:IntKind}(h:ye P t=some k):P.underlying t=some (.int k):=by
 grind [ye]
theorem QcL{P:Program}{e:TypeId}(h:eW P t=some e):P.underlying t=some (.slice e):=by
 grind [eW]
def sP(P:Program)(k:TypeId):Option Bool:=match P.underlying k with
 |some .string=>some true
 |some (.int _)=>some false
 |_=>none
theorem UE{P:Program}{k:TypeId}{s:Bool}(h:sP P k=some s):vk P k s:=by
 unfold sP at h;split at h
 ·rename_i e;cases h;exact e
 ·rename_i q e;cases h;exact⟨q,e⟩
 ·cases h
def OQ(c:fY):Operand->Bool
 |.const v=>yg c v
 |_=>false
variable{x:Operand}
theorem Qch{c:fY}(h:OQ c x=true):x=.const (kz c):=by
 cases x<;>simp only[OQ]at h<;>first|cases h|rw[Yd8 h]
def DF:BinOp->Option Bool
 |.eql=>some false
 |.neq=>some true
 |_=>none
theorem Yew{op:BinOp}{b:Bool}(h:DF op=some b):op=if b then .neq else .eql:=by
 grind [DF]
def Vf(P:Program)(op:BinOp)(t:TypeId)(x y:Operand):Option (MK×List Operand):=
 match DF op with
 |none=>some (.bin op (Kh P t),[x,y])
 |some neq=>match vq P t with
  |some c=>match OQ c y with
   |true=>some (.oQ c neq false,[x,y])
   |false=>match OQ c x with
    |true=>some (.oQ c neq true,[x,y])
    |false=>some (.bin op (Kh P t),[x,y])
  |none=>match ry P t with
   |some ls=>X4 (!P.stoodInHeld t && !P.eqGuardType P.depth t) (some (.Cf neq ls,[x,y]))
   |none=>some (.bin op (Kh P t),[x,y])
def U4(P:Program)(c:Call):Option (MK×List Operand):=
 match c.callee with
 |.value (.func f)=>X4 (Qh P f) (some (.call f,c.args.toList))
 |.value x=>some (.gP,x::c.args.toList)
 |.invoke x name=>some (.invoke name (YdA P name),x::c.args.toList)
 |.builtin .len=>match c.args.toList,c.argTypes.toList with
  |[x],[t]=>match P.underlying t with
   |some (.slice _)=>some (.sR,[x])
   |some .string=>some (.kr,[x])
   |some (.array n _)=>some (.sQ n,[x])
   |some (.map _ _)=>some (.nj,[x])
   |_=>none
  |_,_=>none
 |.builtin .clear=>match c.args.toList,c.argTypes.toList with
  |[x],[t]=>bP (eW P t) λe=>bP (size? P e) λn=>bP (eg P e) λv=>bP (XN v.cells.toList) λz=>
   X4 (AJ v.cells.size n && !(AJ n 0)) (some (.iM n z,[x]))
  |_,_=>none
 |.builtin .min=>match c.args.toList with
  |[x,y]=>some (.min2,[x,y])
  |_=>none
 |.builtin .max=>match c.args.toList with
  |[x,y]=>some (.max2,[x,y])
  |_=>none
 |.builtin .append=>match c.args.toList,c.argTypes.toList with
  |[x,y],[t,b]=>bP (eW P t) λe=>bP (eW P b) λ_=>bP (size? P e) λn=>bP (eg P e) λv=>bP (XN v.cells.toList) λz=>
   X4 (AJ v.cells.size n&&(!(AJ (P.bytesOf e) 0) && !(AJ n 0))) (some (.append n (P.bytesOf e) z,[x,y]))
  |_,_=>none
 |_=>none
def UA:Operand->Operand->Bool
 |.tmp a,.tmp b=>AJ a b
 |_,_=>false
theorem Qc9{y:Operand}(h:UA x y=true):x=y:=by
 cases x<;>cases y<;>simp only[UA]at h<;>first|cases h|rw[fK h]
def CL(P:Program)(ms:Array (String×TypeId))(t:TypeId):Bool:=match P.info? t with
 |some i=>match i.methods.size with
  |0=>false
  |_=>ms.toList.all λp=>i.methods.any λm=>m.name==p.1&&m.sig==p.2
 |none=>false
def Xdw(P:Program)(ms:Array (String×TypeId)):List TypeId:=(Ao P.types.size).filter (CL P ms)
theorem Qc6{P:Program}{ms:Array (String×TypeId)}{q:TypeId}(h:q∈Xdw P ms):∃i,P.info? q=some i/\Hk ms i.methods=none:=by
 have h:=(List.mem_filter.1 h).2;unfold CL at h;split at h
 ·rename_i i b;refine⟨i,b,?_⟩;split at h
  ·cases h
  ·have e:(ms.toList.filter λ(x:String×TypeId)=>!i.methods.any λm=>m.name==x.1&&m.sig==x.2)=[]:=by
    grind [List.filter_eq_nil_iff]
   unfold Hk;simp only;rw[show (List.filter (λx=>match x with|(name,sig)=>!i.methods.any λm=>m.name==name&&m.sig==sig) ms.toList)=[] from e];rfl
 ·cases h
def Tp(P:Program):Op->Option (MK×List Operand)
 |.move x=>some (.mv,[x])
 |.assign x=>some (.mv,[x])
 |.pick c a b=>some (.pick,[c,a,b])
 |.alloc t=>bP (zeroCells P t) λz=>some (.alloc z,[])
 |.box _ x=>some (.box,[x])
 |.build t parts=>match P.underlying t with
  |some (.struct j)=>bP (zeroCells P t) λz=>bP (mapM' (λf=>(P.info? f.type).map λi=>(f.offset,i.size)) j.toList) λplaces=>
   bP (mapM' (λ(p:Nat×Operand)=>places[p.1]?) parts.toList) λw=>some (.build z w,parts.toList.map (·.2))
  |some (.array _ e)=>bP (zeroCells P t) λz=>bP (size? P e) λsz=>some (.build z (parts.toList.map (λp=>(p.1*sz,sz))),parts.toList.map (·.2))
  |_=>none
 |.buildSlice t 0 parts=>bP (eW P t) λe=>bP (size? P e) λsz=>match parts.toList with
  |[]=>some (.mC sz,[])
  |_=>none
 |.makeSlice t l c=>bP (eW P t) λe=>bP (size? P e) λn=>bP ((P.info? e).map (·.bytes)) λby_=>bP (eg P e) λv=>bP (XN v.cells.toList) λz=>
  X4 (!(AJ n 0) && AJ v.cells.size n) (match UA l c with
   |true=>some (.sS n by_ z,[l])
   | false=>none)
 |.buildSlice t n parts=>bP (eW P t) λe=>bP (size? P e) λsz=>bP (eg P e) λv=>bP (XN v.cells.toList) λA=>
  X4 (BY (n*sz) (2 ^ 24)&&(!(AJ (n*sz) 0)&&AJ v.cells.size sz)) (some (.mZ sz n (CD n A).flatten (parts.toList.map (λp=>(p.1*sz,sz))),parts.toList.map (·.2)))
 |.load t x=>bP (fN P t) λagg=>bP (size? P t) λn=>some (.load agg n,[x])
 |.store t x y=>bP (size? P t) λn=>some (.store n,[x,y])
 |.nilCheck x=>some (.nilCheck,[x])
 |.binOp op t x y _=>Vf P op t x y
 |.unOp op _ x=>some (.un op,[x])
 |.convert s d x=>X4 (P.underlying s).isSome (bP (ye P d) λk=>some (.conv k,[x]))
 |.makeInterface t x=>X4 (P.concrete t) (some (.jg t,[x]))
 |.makeFunc fn xs B=>some (.kv fn xs.size,xs.toList++B.toList)
 |.makeMap _ none=>some (.makeMap,[])
 |.fieldAddr t x f=>match P.underlying t with
  |some (.struct j)=>bP j[f]? λfd=>bP (size? P fd.type) λn=>X4 (!(AJ n 0)) (some (.fieldAddr fd.offset,[x]))
  |_=>none
 |.field t x f=>match P.underlying t with
  |some (.struct j)=>bP j[f]? λfd=>bP (size? P fd.type) λn=>bP (fN P fd.type) λagg=>some (.field agg fd.offset n,[x])
  |_=>none
 |.indexAddr t x i=>match P.underlying t with
  |some (.array len e)=>bP (size? P e) λn=>some (.gY len n,[x,i])
  |some (.slice e)=>bP (size? P e) λn=>some (.fE n,[x,i])
  |_=>none
 |.index t x i=>match P.underlying t with
  |some (.array len e)=>bP (size? P e) λn=>bP (fN P e) λagg=>some (.sO agg len n,[x,i])
  |some .string=>some (.lW,[x,i])
  |_=>none
 |.extract x i=>some (.extract i,[x])
 |.slice t x lo o r=>match P.underlying t with
  |some (.slice e)=>bP (size? P e) λn=>some (.cU n lo.isSome o.isSome r.isSome,[x]++lo.toList++o.toList++r.toList)
  |some .string=>match r with
   |none=>some (.e9 lo.isSome o.isSome,[x]++lo.toList++o.toList)
   |some _=>none
  |_=>none
 |.call c=>U4 P c
 |.lookup t x i ok=>match P.underlying t with
  |some (.map k e)=>bP (sP P k) λstr=>bP (eg P e) λv=>bP (qI v) λz=>some (.lookup str ok z,[x,i])
  |_=>none
 |.mapUpdate t x i y=>match P.underlying t with
  |some (.map k _)=>bP (sP P k) λstr=>some (.lY str,[x,i,y])
  |_=>none
 |.insert t x i y=>match P.underlying t with
  |some (.map k _)=>bP (sP P k) λstr=>some (.lY str,[x,i,y])
  |_=>none
 |.range t x=>X4 (Tq P t) (some (.range,[x]))
 |.next x true=>some (.next,[x])
 |.typeAssert x _ u ok=>match P.underlying u with
  |some (.interface ms)=>match ok,eg P u with
   |true,some .nilIface=>some (.gL (Xdw P ms),[x])
   |_,_=>none
  |_=>X4 (P.concrete u&&(P.underlying u).isSome) (bP (eg P u) λv=>bP (qI v) λz=>some (.fL u ok z,[x]))
 |_=>none
section
variable {P:Program} {GL:aw}
variable{os:List Operand}
variable{k:MK}
theorem Yc3{op:BinOp}{j:TypeId}{y:Operand}(h:Vf P op t x y=some (k,os)):cz P GL (.binOp op t x y j) k os:=by
 unfold Vf at h;split at h
 ·cases h;exact .bin _ _ _ _ _ _ Uf
 ·rename_i neq heq;have b:=Yew heq;split at h
  ·rename_i c i;split at h
   ·rename_i d;cases h;rw[b,Qch d];exact .xv _ _ _ _ _ i
   ·split at h
    ·rename_i d;cases h;rw[b,Qch d];exact .xu _ _ _ _ _ i
    ·cases h;exact .bin _ _ _ _ _ _ Uf
  ·split at h
   ·rename_i p o;obtain⟨f,h⟩:=Zv h;cases h;simp only[AA,B9]at f;rw[b];exact .Cf _ _ _ _ _ _ o f.1 f.2
   ·cases h;exact .bin _ _ _ _ _ _ Uf
theorem Pz{a:Array α}{x:α}(h:a.toList=[x]):a = #[x]:=by
 cases a;simp at h;subst h;rfl
theorem O6{a:Array α}{x y:α}(h:a.toList=[x,y]):a = #[x,y]:=by
 cases a;simp at h;subst h;rfl
theorem Ycv{c:Call}(h:U4 P c=some (k,os)):cz P GL (.call c) k os:=by
 unfold U4 at h;obtain⟨callee,args,y⟩:=c;simp only at h;split at h
 ·obtain⟨b,h⟩:=Zv h;cases h;exact .call _ _ _ b
 ·cases h;exact .gP _ _ _
 ·cases h;refine .invoke _ _ _ _ _ (λp A=>?_)
  grind [YdA]
 ·split at h
  ·rename_i d i;have:=Pz d;subst this;have:=Pz i;subst this;split at h
   ·rename_i f;cases h;exact .sR _ _ _ f
   ·rename_i f;cases h;exact .kr _ _ f
   ·rename_i f;cases h;exact .sQ _ _ _ _ f
   ·rename_i f;cases h;exact .nj _ _ _ _ f
   ·cases h
  ·cases h
 ·split at h
  ·rename_i d i;have:=Pz d;subst this;have:=Pz i;subst this;obtain⟨e,he,h⟩:=Zf h;obtain⟨n,o,h⟩:=Zf h;obtain⟨v,r,h⟩:=Zf h;obtain⟨z,s,h⟩:=Zf h;obtain⟨b,h⟩:=Zv h;simp only[AA,B9]at b;cases h;exact .iM _ e _ _ v _ he o (λj=>by rw[j]at b;cases b.2) r (fK b.1) s
  ·cases h
 ·split at h
  ·rename_i d;have:=O6 d;subst this;cases h;exact .min2 _ _ _
  ·cases h
 ·split at h
  ·rename_i d;have:=O6 d;subst this;cases h;exact .max2 _ _ _
  ·cases h
 ·split at h
  ·rename_i d i;have:=O6 d;subst this;have:=O6 i;subst this;obtain⟨e,he,h⟩:=Zf h;obtain⟨B,w,h⟩:=Zf h;obtain⟨n,o,h⟩:=Zf h;obtain⟨v,r,h⟩:=Zf h;obtain⟨z,s,h⟩:=Zf h;obtain⟨b,h⟩:=Zv h;simp only[AA,B9]at b;cases h;exact .append _ _ e _ _ _ _ v _ (QcL he) ⟨_,QcL w,by simp⟩ o rfl r (fK b.1) s (λj=>by rw[j]at b;cases b.2.1) (λj=>by rw[j]at b;cases b.2.2)
  ·cases h
 ·cases h
theorem Zch{f:α->Option β}:∀ {l:List α} {r:List β},mapM' f l=some r->l.map f=r.map some
 |[],r,h=>by simp[mapM']at h;subst h;rfl
 |a::l,r,h=>by
  obtain⟨b,hb,h⟩:=Zf h;obtain⟨d,hr,h⟩:=Zf h;cases h;simp[hb,Zch hr]
theorem Zdm{op:Op}(h:Tp P op=some (k,os)):cz P GL op k os:=by
 unfold Tp at h;split at h
 ·cases h;exact .move _
 ·cases h;exact .assign _
 ·cases h;exact .pick _ _ _
 ·obtain⟨z,i,h⟩:=Zf h;obtain⟨v,o,i⟩:=Zf i;cases h;exact .alloc _ v _ o i
 ·cases h;exact .box _ _
 ·split at h
  ·rename_i p d;obtain⟨z,i,h⟩:=Zf h;obtain⟨v,o,i⟩:=Zf i;obtain⟨places,y,h⟩:=Zf h;obtain⟨D,B,h⟩:=Zf h;cases h;exact .buildStruct _ p v _ _ places _ d o i (by rw[QcQ];exact y) (Zch B)
  ·rename_i n e d;obtain⟨z,i,h⟩:=Zf h;obtain⟨v,o,i⟩:=Zf i;obtain⟨sz,hs,h⟩:=Zf h;cases h;exact .oG _ n e v _ _ _ sz d o i hs rfl
  ·cases h
 ·obtain⟨e,he,h⟩:=Zf h;obtain⟨sz,hs,h⟩:=Zf h;split at h
  ·rename_i y;cases h;exact .nA _ e _ _ he hs y
  ·cases h
 ·obtain⟨e,he,h1⟩:=Zf h;obtain⟨n,j,h2⟩:=Zf h1;obtain⟨b,hb,h3⟩:=Zf h2;obtain⟨v,o,h4⟩:=Zf h3;obtain⟨z,i,h5⟩:=Zf h4;obtain⟨f,h6⟩:=Zv h5;clear h h1 h2 h3 h4 h5;simp only[AA,B9]at f;split at h6
  ·rename_i hs;have:=Qc9 hs;subst this;cases h6;exact .makeSlice _ _ e v _ _ _ he j hb (λr=>by rw[r]at f;cases f.1) o (fK f.2) i
  ·cases h6
 ·obtain⟨e,he,h⟩:=Zf h;obtain⟨sz,hs,h⟩:=Zf h;obtain⟨v,o,h⟩:=Zf h;obtain⟨C,i,h⟩:=Zf h;obtain⟨f,h⟩:=Zv h;simp only[AA,B9]at f;cases h;exact .buildSlice _ _ e v C _ _ _ _ he hs (iq f.1) (λr=>by rw[r]at f;cases f.2.1) o (fK f.2.2) i rfl rfl
 ·obtain⟨agg,w,h⟩:=Zf h;obtain⟨n,j,h⟩:=Zf h;cases h;exact .load _ _ _ _ w j
 ·obtain⟨n,j,h⟩:=Zf h;cases h;exact .store _ _ _ _ j
 ·cases h;exact .nilCheck _
 ·exact Yc3 h
 ·cases h;exact .un _ _ _
 ·obtain⟨f,h⟩:=Zv h;obtain⟨q,hq,h⟩:=Zf h;cases h;exact .conv _ _ _ _ f (YeB hq)
 ·obtain⟨f,h⟩:=Zv h;cases h;exact .jg _ _ f
 ·cases h;exact .kv _ _ _
 ·cases h;exact .makeMap _
 ·split at h
  ·rename_i p d;obtain⟨A,hf,h⟩:=Zf h;obtain⟨n,j,h⟩:=Zf h;obtain⟨f,h⟩:=Zv h;cases h;exact .fieldAddr _ _ _ p A n d hf j (λr=>by rw[r]at f;cases f)
  ·cases h
 ·split at h
  ·rename_i p d;obtain⟨A,hf,h⟩:=Zf h;obtain⟨n,j,h⟩:=Zf h;obtain⟨agg,w,h⟩:=Zf h;cases h;exact .field _ _ _ p A _ _ d hf j w
  ·cases h
 ·split at h
  ·rename_i len e d;obtain⟨n,j,h⟩:=Zf h;cases h;exact .gY _ _ _ _ e _ d j
  ·rename_i e d;obtain⟨n,j,h⟩:=Zf h;cases h;exact .fE _ _ _ e _ d j
  ·cases h
 ·split at h
  ·rename_i len e d;obtain⟨n,j,h⟩:=Zf h;obtain⟨agg,w,h⟩:=Zf h;cases h;exact .sO _ _ _ _ e _ _ d j w
  ·rename_i d;cases h;exact .lW _ _ _ d
  ·cases h
 ·cases h;exact .extract _ _
 ·split at h
  ·rename_i e d;obtain⟨n,j,h⟩:=Zf h;cases h;exact .cU _ _ _ _ _ e _ d j
  ·rename_i d;split at h
   ·cases h;exact .e9 _ _ _ _ d
   ·cases h
  ·cases h
 ·exact Ycv h
 ·split at h
  ·rename_i k e d;obtain⟨s,hs,h⟩:=Zf h;obtain⟨v,o,h⟩:=Zf h;obtain⟨z,i,h⟩:=Zf h;cases h;exact .lookup _ k e _ _ _ _ v _ d (UE hs) o i
  ·cases h
 ·split at h
  ·rename_i k e d;obtain⟨s,hs,h⟩:=Zf h;cases h;exact .mapUpdate _ k e _ _ _ _ d (UE hs)
  ·cases h
 ·split at h
  ·rename_i k e d;obtain⟨s,hs,h⟩:=Zf h;cases h;exact .mapInsert _ k e _ _ _ _ d (UE hs)
  ·cases h
 ·obtain⟨f,h⟩:=Zv h;cases h;exact .range _ _ (Zdx f)
 ·cases h;exact .next _
 ·split at h
  ·rename_i d;split at h
   ·rename_i i;cases h;exact .gL _ _ _ _ _ d i (λq hq=>Qc6 hq)
   ·cases h
  ·obtain⟨f,h⟩:=Zv h;simp only[AA]at f;obtain⟨v,o,h⟩:=Zf h;obtain⟨z,i,h⟩:=Zf h;cases h;exact .fL _ _ _ _ v _ f.1 f.2 o i
 ·cases h
end
end Go.Ah
end
section
namespace Go.Ah
def Po(g:Nat):aw->Option (List I)
 |[]=>none
 |(q,row)::r=>match AJ g q with
  |true=>some row
  |false=>Po g r
theorem Xce{g:Nat}{row:List I}:∀ {GL:aw},Po g GL=some row->(g,row)∈GL
 |[],h=>by cases h
 |(q,r)::GL,h=>by
  simp only[Po]at h;split at h
  ·rename_i e;cases h;rw[fK e];simp
  ·exact DI _ (Xce h)
def T7(GL:aw):Operand->Option td
 |.tmp t=>some (.t t)
 |.const v=>bP (qI v) λx=>some (.c x)
 |.global g=>bP (Po g GL) λrow=>some (.c (.al row 0))
 |.func f=>some (.c (.func (.func f) [] []))
variable{GL:aw}
theorem XbH{x:Operand}{y:td}(h:T7 GL x=some y):lz GL x y:=by
 cases x with
 |tmp t=>cases h;exact .tmp _
 |const v=>obtain⟨z,b,h⟩:=Zf h;cases h;exact .const _ _ b
 |global g=>obtain⟨z,b,h⟩:=Zf h;cases h;exact .Lk _ _ (Xce b)
 |func f=>cases h;exact .func _
variable{α β:Type}
theorem Px{f:α->Option β}{R:α->β->Prop}(hR:∀ {a b},f a=some b->R a b):∀ {l:List α} {r:List β},mapM' f l=some r->mu R l r
 |[],r,h=>by simp[mapM']at h;subst h;trivial
 |a::l,r,h=>by
  obtain⟨b,hb,h⟩:=Zf h;obtain⟨d,hr,h⟩:=Zf h;cases h;exact⟨hR hb,Px hR hr⟩
def K7(n:Nat):Option Nat->Bool
 |none=>true
 |some d=>C3 d n
def Xdl(ops:List Oper):Option (Nat×Bool)->Option (Option (Nat×Bool))
 |none=>some none
 |some (j,w)=>bP (nth ops j) λo=>bP o.dst λs=>some (some (s,w))
def QcI(P:Program)(GL:aw)(o:Op):Option (MK×List td):=bP (Tp P o) λ(k,os)=>bP (mapM' (T7 GL) os) λxs=>some (k,xs)
def Jx(P:Program)(GL:aw)(n:Nat)(ops:List Oper)(o:Oper):Option aV:=
 X4 (K7 n o.dst) (bP (Xdl ops o.guard) λg=>match QcI P GL o.op with
  |some (k,xs)=>some ⟨o.dst,k,xs,g⟩
  | none=>some ⟨o.dst,.bad,[],g⟩)
variable{n:Nat}
variable{P:Program}
theorem SH{ops:Array Oper}{o:Oper}{m:aV}(h:Jx P GL n ops.toList o=some m):fZ P GL n ops o m:=by
 unfold Jx at h;obtain⟨hd,h⟩:=Zv h;obtain⟨g,b,h⟩:=Zf h;have f:∃k xs,m=⟨o.dst,k,xs,g⟩/\∃os,cz P GL o.op k os/\mu (lz GL) os xs:=by
  split at h
  ·rename_i k xs f;cases h;unfold QcI at f;obtain⟨⟨k,os⟩,i,f⟩:=Zf f;obtain⟨xs,p,f⟩:=Zf f;cases f;exact⟨_,_,rfl,os,Zdm i,Px XbH p⟩
  ·cases h;exact⟨_,_,rfl,[],.bad _,trivial⟩
 obtain⟨k,xs,rfl,r⟩:=f;refine⟨rfl,λd e=>?_,r,?_⟩
 ·simp only at e;rw[e]at hd;exact iq hd
 ·cases hog:o.guard with
  |none=>rw[hog]at b;cases b;trivial
  |some x=>
   obtain⟨j,w⟩:=x;rw[hog]at b;obtain⟨y,z,b⟩:=Zf b;obtain⟨s,hs,b⟩:=Zf b;cases b<;>simp_all [Q4]
theorem J'{l:List Nat}:lr l n=true↔n∈l:=by
 induction l with
 |nil=>simp[lr]
 |cons x l b=>
  simp only[lr,EA,b,Az]
  grind [fK,EK]
def Kk{β:Type}:List Nat->List Nat->(List Nat->β)->β
 |[],l,k=>k l
 |x::xs,l,k=>match lr l x with
  |true=>Kk xs l k
  |false=>Kk xs (x::l) k
def j5:List (List Nat)->Nat->List Nat
 |[],_=>[]
 |x::_,0=>x
 |_::l,n+1=>j5 l n
def sc{β:Type}(acc:List (List Nat)):List Nat->List Nat->(List Nat->β)->β
 |[],s,k=>k s
 |i::r,s,k=>Kk (i::j5 acc i) s λs=>sc acc r s k
def qz{β:Type}(s:List Nat):Nat->List Nat->(List Nat->β)->β
 |0,l,k=>k l
 |i+1,l,k=>match lr s i with
  |true=>qz s i (i::l) k
  |false=>qz s i l k
def H'{β:Type}:List (List Nat)->Nat->List (List Nat)->(List (List Nat)->β)->β
 |[],_,acc,k=>k acc
 |w::r,j,acc,k=>sc acc w [] λs=>qz s j [] λl=>wO (acc++[l]) λacc=>H' r (j+1) acc k
def tH(p:Nat->Bool):Nat->Bool
 |0=>true
 |i+1=>p i&&tH p i
def tI(p:Nat->Bool):List Nat->Bool
 |[]=>true
 |x::l=>p x&&tI p l
def ql:List Nat->List Nat->Bool
 |[],_=>true
 |x::a,b=>!(lr b x)&&ql a b
def uM(n:Nat)(ws hd ds d:List (List Nat)):Bool:=
 tH (λj=>wO (j5 ws j) λb=>wO (j5 hd j) λf=>wO (j5 ds j) λo=>wO (j5 d j) λp=>
  tI (λi=>C3 i j) b && (tI (λi=>C3 i j && (lr b i || !(tI (λk=>!(lr (j5 hd k) i)) b))) f &&
  tH (λi=>lr f i || (ql (j5 ds i) p && (ql (j5 ds i) o && ql (j5 d i) o))) j)) n
def qp{α β:Type}(f:α->List Nat):List α->(List (List Nat)->β)->β
 |[],k=>k []
 |x::r,k=>wO (f x) λl=>qp f r λr=>k (l::r)
theorem YcL(f:α->List Nat):∀(l:List α) (k:List (List Nat)->β),qp f l k=k (l.map f)
 |[],_=>rfl
 |x::r,k=>by simp only[qp,Jv,YcL f r,B7]
theorem Ig:∀(l:List (List Nat)) (n:Nat),j5 l n=(l[n]?).getD []
 |[],_=>rfl
 |x::_,0=>rfl
 |_::l,n+1=>by simp[j5,Ig l n]
theorem Je{p:Nat->Bool}:∀ {n:Nat},tH p n=true->∀i,i<n->p i=true
 |0,_,i,h=>by omega
 |n+1,h,i,b=>by
  simp only[tH,AA]at h;by_cases e:i=n
  ·rw[e];exact h.1
  ·exact Je h.2 i (by omega)
theorem TN{p:Nat->Bool}:∀ {l:List Nat},tI p l=true↔∀i∈l,p i=true
 |[]=>by simp[tI]
 |x::l=>by simp only[tI,AA,TN (l:=l),Az,forall_eq_or_imp]
theorem XcJ:∀ {a b:List Nat},ql a b=true->df a b=true
 |[],_,_=>rfl
 |x::a,b,h=>by
  simp only[ql,df,AA,B9]at h ⊢;refine⟨?_,XcJ h.2⟩;cases e:b.contains x with
  |false=>rfl
  |true=>rw[J'.2 (Ew.1 e)]at h;cases h.1
theorem YdX{ops:List Oper}{ms:List aV}{hd:List (List Nat)}(h1:AJ ops.length ms.length=true)(h2:AJ hd.length ms.length=true)(h:uM ms.length (ops.map waits) hd (ms.map eE) (ms.map iU)=true):zE ops ms hd=true:=by
 have p:=fK h1;unfold uM at h;simp only[Jv]at h;unfold zE;simp only[AA,C1,DW,EA,FV];have key:=λj b=>Je h j b;simp only[AA,TN]at key;have hw:∀j,j<ms.length->j5 (ops.map waits) j=waits (ops.getD j default):=by
  simp_all [Ig]
 have f:∀j,j5 hd j=Zl hd j:=λj=>Ig _ _;have o:∀j,j<ms.length->j5 (ms.map eE) j=eE (ms.getD j default):=by
  simp_all [Ig]
 have hus:∀j,j<ms.length->j5 (ms.map iU) j=iU (ms.getD j default):=by
  simp_all [Ig]
 refine⟨⟨⟨⟨h1,h2⟩,λj b i d=>?_⟩,λj b i d=>?_⟩,λj b i d=>?_⟩
 ·simp_all
 ·have:=(key j b).2.1 i (by rw[f];exact d);rw[hw j b]at this;refine⟨this.1,?_⟩;have q:=this.2;simp only[EA,J',B9]at q
  grind [TN,J']
 ·have:=Je (key j b).2.2 i d;rw[f,o j b,hus j b,o i (by omega),hus i (by omega)]at this;simp only[EA,AA,J']at this
  grind [XcJ]
theorem Qce:∀(ws:List (List Nat)) (j:Nat) (acc:List (List Nat)) (k:List (List Nat)->β),∃hd,H' ws j acc k=k hd
 |[],_,acc,_=>⟨acc,rfl⟩
 |w::r,j,acc,k=>by
  have hu:∀ {b:Type} (xs l:List Nat) (k:List Nat->b),∃s,Kk xs l k=k s:=by
   intro b xs
   induction xs with
   |nil=>intro l k;exact⟨l,rfl⟩
   |cons x xs d=>
    intro l k;unfold Kk;cases lr l x<;>simp_all
  have f:∀ {b:Type} (w s:List Nat) (k:List Nat->b),∃o,sc acc w s k=k o:=by
   intro b w
   induction w with
   |nil=>intro s k;exact⟨s,rfl⟩
   |cons i w d=>
    intro s k;unfold sc;obtain⟨s1,h1⟩:=hu (i::j5 acc i) s (λs=>sc acc w s k);rw[h1];exact d s1 k
  have hs:∀ {b:Type} (s:List Nat) (j:Nat) (l:List Nat) (k:List Nat->b),∃p,qz s j l k=k p:=by
   intro b s j
   induction j with
   |zero=>intro l k;exact⟨l,rfl⟩
   |succ j d=>
    intro l k;unfold qz;cases lr s j<;>simp_all
  unfold H';obtain⟨s,h1⟩:=f w [] (λs=>qz s j [] λl=>wO (acc++[l]) λacc=>H' r (j+1) acc k);rw[h1];obtain⟨l,h2⟩:=hs s j [] (λl=>wO (acc++[l]) λacc=>H' r (j+1) acc k);simp_all [Jv,Qce]
def Zy(P:Program)(GL:aw)(n:Nat):Code->Option dB
 |.skip=>some .skip
 |.region id ops dr=>bP (mapM' (Jx P GL n ops.toList) ops.toList) λms=>match dr with
  |false=>some (.region id ms none)
  |true=>qp waits ops.toList λf=>H' f 0 [] λhd=>qp eE ms λi=>qp iU ms λj=>
   X4 (AJ ops.toList.length ms.length&&(AJ hd.length ms.length&&uM ms.length f hd i j)) (some (.region id ms (some hd)))
 |.seq a b=>bP (Zy P GL n a) λx=>bP (Zy P GL n b) λy=>some (.seq x y)
 |.cond c a b=>bP (T7 GL c) λd=>bP (Zy P GL n a) λx=>bP (Zy P GL n b) λy=>some (.cond d x y)
 |.block id a=>bP (Zy P GL n a) λx=>some (.block id x)
 |.loop a=>bP (Zy P GL n a) λx=>some (.loop x)
 |.scope a=>bP (Zy P GL n a) λx=>some (.scope x)
 |.exit id=>some (.exit id)
 |.label l=>some (.label l)
 |.ret=>some .ret
 |_=>none
theorem Ri{f:α->Option β}:∀ {l:List α} {r:List β},mapM' f l=some r->l.length=r.length/\∀(j:Nat) (b:β),r[j]?=some b->∃a,l[j]?=some a/\f a=some b
 |[],r,h=>by simp[mapM']at h;subst h;simp
 |a::l,r,h=>by
  obtain⟨b,hb,h⟩:=Zf h;obtain⟨d,hr,h⟩:=Zf h;cases h;obtain⟨h1,h2⟩:=Ri hr
  grind
theorem Xbm:∀ {c:Code} {m:dB},Zy P GL n c=some m->cD P GL n c m:=by
 intro c
 induction c with
 |skip=>intro m h;cases h;exact .skip
 |region id ops dr=>
  intro m h;simp only[Zy]at h;obtain⟨ms,w,h⟩:=Zf h;obtain⟨h1,h2⟩:=Ri w;have s:∀(j:Nat) (x:aV),ms[j]?=some x->∃o,ops[j]?=some o/\fZ P GL n ops o x:=λj x e=>by
   grind [SH]
  cases dr with
  |false=>cases h;exact .region _ _ _ (by simpa using h1) s
  |true=>
   simp only[YcL]at h;obtain⟨hd,z⟩:=Qce (ops.toList.map waits) 0 [] (λhd=>X4 (AJ ops.toList.length ms.length&&(AJ hd.length ms.length&&uM ms.length (ops.toList.map waits) hd (ms.map eE) (ms.map iU))) (some (dB.region id ms (some hd))));rw[z]at h;obtain⟨p,h⟩:=Zv h;simp only[AA]at p;cases h;exact .draw _ _ _ _ (by simpa using h1) s (YdX p.1 p.2.1 p.2.2)
 |seq a b iha ihb=>
  intro m h;simp only[Zy]at h;obtain⟨x,f,h⟩:=Zf h;obtain⟨y,r,h⟩:=Zf h;cases h;exact .seq _ _ _ _ (iha f) (ihb r)
 |cond c a b iha ihb=>
  intro m h;simp only[Zy]at h;obtain⟨d,hd,h⟩:=Zf h;obtain⟨x,f,h⟩:=Zf h;obtain⟨y,r,h⟩:=Zf h;cases h;exact .cond _ _ _ _ _ _ (XbH hd) (iha f) (ihb r)
 |block id a i=>
  intro m h;simp only[Zy]at h;obtain⟨x,f,h⟩:=Zf h;cases h;exact .block _ _ _ (i f)
 |loop a i=>
  intro m h;simp only[Zy]at h;obtain⟨x,f,h⟩:=Zf h;cases h;exact .loop _ _ (i f)
 |scope a i=>
  intro m h;simp only[Zy]at h;obtain⟨x,f,h⟩:=Zf h;cases h;exact .scope _ _ (i f)
 |exit id=>intro m h;cases h;exact .exit _
 |label l=>intro m h;cases h;exact .label _
 |ret=>intro m h;cases h;exact .ret
 |_=>intro m h;simp[Zy]at h
def Tg(P:Program):ResultVar->Option RV
 |.tmp t=>some (.t t)
 |.cell s t=>bP (fN P t) λagg=>bP (size? P t) λn=>some (.c s agg n)
theorem QbH{r:ResultVar}{v:RV}(h:Tg P r=some v):tE P r v:=by
 cases r with
 |tmp t=>cases h;exact .tmp _
 |cell s t=>
  obtain⟨agg,b,h⟩:=Zf h;obtain⟨n,d,h⟩:=Zf h;cases h;exact .cell _ _ _ _ b d
def Vl(P:Program)(GL:aw)(np:Nat)(f:FuncId):Option vT:=
 bP P.funcs[f]? λfn=>bP fn.body λc=>X4 (BY np fn.ntmps) (bP (Zy P GL fn.ntmps c) λm=>bP (mapM' (Tg P) fn.results.toList) λb=>some ⟨np,fn.ntmps,m,b⟩)
theorem Ydl{np:Nat}{f:FuncId}{F:vT}(h:Vl P GL np f=some F):mV P GL f F:=by
 unfold Vl at h;obtain⟨b,h1,h⟩:=Zf h;obtain⟨c,h2,h⟩:=Zf h;obtain⟨h3,h⟩:=Zv h;obtain⟨m,h4,h⟩:=Zf h;obtain⟨d,h5,h⟩:=Zf h;cases h;exact⟨⟨b,c,h1,h2,rfl,Xbm h4,Px QbH h5⟩,iq h3⟩
theorem aA.ptr{h0:Hp}{rd:List Nat}{b i j sz:Nat}{rs:List (List I)}{row row':List I}(hb:h0 b=some (.rows sz rs))(ct:b∈rd)(hi:rs[i]?=some row)(hr:bA h0 rd row row'):aA h0 rd (.ptr b i j) (.al row' j):=by
 intro GL V L g h w G r C D v d;have y:h b=some (.rows sz rs):=by rw[D b ct];exact hb
 cases d with
 |ptr _ _ _ _ f z=>
 cases A:f.cI with
 |true=>
  have:=(r.hY y z A).2;subst this;simp at hi
 |false=>
 obtain⟨H,arr,T,K,hs,hle,N,Q⟩:=r.ff y z A;have hw:G f.aD=some (.cells arr T (0,0)):=C.2 b _ f _ y rfl z A K;have R:i<rs.length:=(eS hi).1;have E:=N _ _ hi;have o:∀k,k<sz->f.base+i*sz+k<arr.size:=by
  intro k p;have:(i+1)*sz<=rs.length*sz:=Av sz R;rw[EN]at this;omega
 obtain⟨k1,k2⟩:=hr.get r C D (vs:=(arr.extract (f.base + i * sz) (f.base + i * sz + sz)).toList) (by
  simp[E];by_cases h0:sz=0
  ·subst h0;simp
  ·have:=o (sz-1) (by omega);omega) (λk x v F s=>by
  have p:k<sz:=by rw[<-E];exact(eS F).1
  have B:=o k p;rw[EI]at s;obtain⟨_,s⟩:=Array.getElem?_eq_some_iff.1 s;rw[FM]at s;exact Q _ row k x v hi F (by rw[D2 B,s]))
 have hlen:row'.length=sz:=by
  rw[k1];simp;by_cases h0:sz=0
  ·subst h0;simp
  ·have:=o (sz-1) (by omega);omega
 rw[H];refine .al _ _ _ _ _ (λk=>(arr[f.base+i*sz+k]?).getD undef) (λk p=>?_) (λk x e=>?_)
 ·have S:=o k (by omega);simp[iS,hw,S]
 ·have p:k<sz:=by rw[<-hlen];exact(eS e).1
  have B:=o k p;simp only[D2 B,Cw];refine k2 k x _ e ?_;rw[EI,D2 (by simp;omega),FM]
def JZ(f:List I->Option (List I×List Nat)):List (List I)->Option (List (List I)×List Nat)
 |[]=>some ([],[])
 |r::rs=>match f r,JZ f rs with
  |some (b,rd),some (rs',d)=>some (b::rs',rd++d)
  |_,_=>none
def vO:List (I×I)->Bool
 |[]=>true
 |(k,v)::r=>k.ro&&(v.ro&&vO r)
def Qx(J:List U):Nat->List I->Option (List I×List Nat)
 |_,[]=>some ([],[])
 |0,_::_=>none
 |fuel+1,x::xs=>match Qx J fuel xs with
  |none=>none
  |some (f,rd)=>match x with
   |.ak b j=>match ai J b with
    |.box row=>match Qx J fuel row with
     |some (row',d)=>some (.al row' j::f,b::d++rd)
     |none=>none
    |_=>none
   |.ptr b i j=>match ai J b with
    |.rows _ rs=>match nth rs i with
     |some row=>match Qx J fuel row with
      |some (row',d)=>some (.al row' j::f,b::d++rd)
      |none=>none
     |none=>none
    |_=>none
   |.sl b off len ex=>match ai J b with
    | .rows sz rs=>bif BY (off + len) rs.length then (match JZ (Qx J fuel) (cut off (off + len) rs)with
     |some (rs',d)=>some (.aX ex false sz rs'::f,b::d++rd)
     | none=>none)else none
    |_=>none
   |.map b=>match ai J b with
    |.map es=>bif vO es then some (.fI es::f,b::rd)else none
    |_=>none
   |.iface t v=>match Qx J fuel [v]with
    |some ([o],d)=>some (.iface t o::f,d++rd)
    |_=>none
   |.agg cs=>match Qx J fuel cs with
    |some (p,d)=>some (.agg p::f,d++rd)
    |_=>none
   |.func fn a b=>match Qx J fuel a,Qx J fuel b with
    |some (r,d),some (s,aaL)=>some (.func fn r s::f,d++aaL++rd)
    |_,_=>none
   |x=>bif x.ro then some (x::f,rd)else none
theorem T0:∀ {d:List (I×I)},vO d=true->∀p∈d,p.1.ro=true/\p.2.ro=true
 |[],_,_,h=>by cases h
 |(k,v)::r,h,p,b=>by
  simp only[vO,AA]at h;rcases Az.1 b with rfl|b
  ·exact⟨h.1,h.2.1⟩
  ·exact T0 h.2.2 p b
theorem QbM{f:List I->Option (List I×List Nat)}:∀ {rs rs':List (List I)} {rd:List Nat},JZ f rs=some (rs',rd)->rs'.length=rs.length/\∀(i:Nat) (r r':List I),rs[i]?=some r->rs'[i]?=some r'->∃d,f r=some (r',d)/\∀b∈d,b∈rd
 |[],rs',rd,h=>by simp only[JZ]at h;cases h;simp
 |r::rs,rs',rd,h=>by
  simp only[JZ]at h;split at h
  ·rename_i r1 p rs1 z s w;cases h;obtain⟨h1,h2⟩:=QbM w;refine⟨by simp[h1],λi x y j o=>?_⟩;cases i with
   |zero=>simp at j o;subst j o;exact⟨p,s,λb hb=>Bd.2 (.inl hb)⟩
   |succ i=>
    simp at j o;obtain⟨d,k1,k2⟩:=h2 i x y j o;exact⟨d,k1,λb hb=>Bd.2 (.inr (k2 b hb))⟩
  ·cases h
theorem Q6{J:List U}:∀(fuel:Nat) (xs ys:List I) (rd:List Nat),Qx J fuel xs=some (ys,rd)->∀f,(∀b∈rd,b∈f)->bA (hp J) f xs ys:=by
 intro fuel
 induction fuel with
 |zero=>
  intro xs ys rd h f hs;cases xs<;>simp_all [Qx,bA.nil]
 |succ fuel o=>
  intro xs ys rd h f hs;cases xs with
  |nil=>simp_all [Qx]
  |cons x xs=>
   simp only[Qx]at h;cases h0:Qx J fuel xs with
   |none=>simp[h0]at h
   |some p=>
    obtain⟨ys0,rd0⟩:=p;simp only[h0]at h;split at h
    ·rename_i b j;split at h<;>grind [bA.cons,aA.box,ZS]
    ·rename_i b i j;split at h
     ·rename_i sz y s;split at h<;>grind [Q4,bA.cons,aA.ptr,ZI]
     ·cases h
    ·rename_i b off len ex;split at h
     ·rename_i sz y s
      replace h:=QB h
      obtain⟨hle,h⟩:=h;split at h
      ·rename_i rs' A hr;cases h;obtain⟨B,H⟩:=QbM hr;have z:=iq hle;refine bA.cons (aA.sl (ZI s) (hs _ (by simp)) z (by rw[B,Jz z];omega) (λi r K N Q=>?_)) (o _ _ _ h0 f (λq hq=>hs q (by simp[hq])));have R:i<len:=by
        grind [Jz]
       have S:(cut off (off+len) y)[i]?=some r:=by
        grind [cut]
       grind
      ·cases h
     ·cases h
    ·rename_i b;split at h
     ·rename_i T s
      replace h:=QB h
      obtain⟨C,h⟩:=h;cases h;exact bA.cons (aA.map (JS s) (hs _ (by simp)) (T0 C)) (o _ _ _ h0 f (λq hq=>hs q (by simp[hq])))
     ·cases h
    ·split at h
     ·rename_i V A hr;cases h;have:=o _ _ _ hr f (λq hq=>hs q (by simp[hq]));refine bA.cons (aA.iface (λGL D L g h w E r F G v d=>?_)) (o _ _ _ h0 f (λq hq=>hs q (by simp[hq])));exact(this GL D L g h w E r F G [v] ⟨d,trivial⟩).1
     ·cases h
    ·grind [bA.cons,aA.agg]
    ·grind [bA.cons,aA.func]
    ·replace h:=QB h
     grind [bA.cons,aA.ro]
end Go.Ah
end
section
namespace Go.Ah
mutual
def I.cy (m:Nat->Option Nat):I->I
 |.ak b j=>match m b with
  |some f=>.ak f j
  |none=>.aP
 |.ptr b i j=>match m b with
  |some f=>.ptr f i j
  |none=>.aP
 |.sl b off len ex=>match m b with
  |some f=>.sl f off len ex
  |none=>.aP
 |.map b=>match m b with
  |some f=>.map f
  |none=>.aP
 |.iter b=>match m b with
  |some f=>.iter f
  |none=>.aP
 |.func fn xs o=>.func fn (gZ m xs) (gZ m o)
 |.iface t v=>.iface t (v.cy m)
 |.agg cs=>.agg (gZ m cs)
 |.bw cs=>.bw (gZ m cs)
 |.when cs x=>.when cs (x.cy m)
 |.aP=>.aP
 |.bool b=>.bool b
 |.int k n=>.int k n
 |.str s=>.str s
 |.dq=>.dq
 |.al row j=>.al row j
 |.aq=>.aq
 |.cX=>.cX
 |.aX a b c d=>.aX a b c d
 |.fI es=>.fI es
 |.cG=>.cG
 |.bH=>.bH
 |.dp=>.dp
def gZ (m:Nat->Option Nat):List I->List I
 |[]=>[]
 |x::xs=>x.cy m::gZ m xs
end
theorem Uq(m:Nat->Option Nat):∀xs:List I,gZ m xs=xs.map (I.cy m)
 |[]=>rfl
 |x::xs=>by simp[gZ,Uq m xs]
variable{xs:List I}
theorem HM{m:Nat->Option Nat}{i:Nat}{y:I}(h:(gZ m xs)[i]?=some y):∃x,xs[i]?=some x/\y=x.cy m:=by
 rw[Uq,Ba]at h
 grind
theorem YA(m:Nat->Option Nat)(xs:List I):(gZ m xs).length=xs.length:=by rw[Uq];simp
variable{c:Own}
variable{M:Nat->Option Obj}
theorem Den.cy{m:Nat->Option Nat}{c':Own}{x:I}{v:Value}(h:Den M c x v):(∀b o p,m b=some o->c b=some p->c' o=some p)->Den M c' (x.cy m) v:=by
 induction h with
 |aP=>intro _;exact .aP _ _
 |bool=>intro _;exact .bool _ _
 |int=>intro _;exact .int _ _ _
 |str=>intro _;exact .str _ _
 |dq=>intro _;exact .dq _
 |ak c b j p e=>
  intro d;simp only[I.cy];cases hb:m b with
  |none=>exact .aP _ _
  |some o=>exact .ak _ _ _ _ (d _ _ _ hb e)
 |ptr c b i j p e=>
  intro d;simp only[I.cy];cases hb:m b with
  |none=>exact .aP _ _
  |some o=>exact .ptr _ _ _ _ _ (d _ _ _ hb e)
 |al c row j aD off f h1 h2 r=>intro _;exact .al _ _ _ _ _ f h1 h2
 |aq=>intro _;exact .aq _
 |cX=>intro _;exact .cX _ _
 |sl c b off len ex p cap e h1 h2 h3 h4=>
  intro d;simp only[I.cy];cases hb:m b with
  |none=>exact .aP _ _
  |some o=>exact .sl _ _ _ _ _ _ _ (d _ _ _ hb e) h1 h2 h3 h4
 |n9 c b ex p a e h1=>
  intro d;simp only[I.cy];cases hb:m b with
  |none=>exact .aP _ _
  |some o=>exact .n9 _ _ _ _ _ (d _ _ _ hb e) h1
 |sle c b off ex p a e h1 h2 h3=>
  intro d;simp only[I.cy];cases hb:m b with
  |none=>exact .aP _ _
  |some o=>exact .sle _ _ _ _ _ _ (d _ _ _ hb e) h1 h2 h3
 |aX c ex F sz rows a cap aD off f h1 h2 h3 D h4 h5 h6 h7 r=>intro _;exact .aX _ _ _ _ _ _ _ aD off f h1 h2 h3 D h4 h5 h6 h7
 |map c b p e=>
  intro d;simp only[I.cy];cases hb:m b with
  |none=>exact .aP _ _
  |some o=>exact .map _ _ _ (d _ _ _ hb e)
 |fI c es aD arr clock e h1 h2 h3 A B=>intro _;exact .fI _ _ _ _ _ e h1 h2 h3
 |cG=>intro _;exact .cG _
 |func c fn first captured C ws h1 h2 h3 h4 A B=>
  intro d;simp only[I.cy];exact .func _ _ _ _ _ _ (by rw[YA];exact h1) (by rw[YA];exact h2)
   (λi y u s w=>by obtain⟨x,z,rfl⟩:=HM s;exact A i x u z w d) (λi y u s w=>by obtain⟨x,z,rfl⟩:=HM s;exact B i x u z w d)
 |bH=>intro _;exact .bH _
 |iface c t x v h r=>intro d;exact .iface _ _ _ _ (r d)
 |dp=>intro _;exact .dp _
 |agg c cs C h1 h2 r=>intro d;simp only[I.cy];exact .agg _ _ _ (by rw[YA];exact h1) (λi y u s w=>by obtain⟨x,z,rfl⟩:=HM s;exact r i x u z w d)
 |bw c cs C h1 h2 r=>intro d;simp only[I.cy];exact .bw _ _ _ (by rw[YA];exact h1) (λi y u s w=>by obtain⟨x,z,rfl⟩:=HM s;exact r i x u z w d)
 |when c cs x v h h2 r=>intro d;exact .when _ _ _ _ (λE=>r E d) h2
 |iter c b p e=>
  intro d;simp only[I.cy];cases hb:m b with
  |none=>exact .aP _ _
  |some o=>exact .iter _ _ _ (d _ _ _ hb e)
mutual
def I.dF:I->Bool
 |.al _ _=>false
 |.aX _ _ _ (_::_)=>false
 |.fI _=>false
 |.func _ xs b=>iA xs&&iA b
 |.iface _ v=>v.dF
 |.agg cs=>iA cs
 |.bw cs=>iA cs
 |.when _ x=>x.dF
 |_=>true
def iA:List I->Bool
 |[]=>true
 |x::xs=>x.dF&&iA xs
end
theorem Jj:∀ {xs:List I} {i:Nat} {x:I},iA xs=true->xs[i]?=some x->x.dF=true
 |[],i,x,_,e=>by simp at e
 |y::xs,0,x,h,e=>by simp_all [iA]
 |y::xs,i+1,x,h,e=>by simp[iA]at h;simp at e;exact Jj h.2 e
mutual
theorem I.kF (m:Nat->Option Nat):∀(x:I),x.dF=true->(x.cy m).dF=true
 |.ak b j,_=>by simp only[I.cy];split<;>rfl
 |.ptr b i j,_=>by simp only[I.cy];split<;>rfl
 |.sl b off len ex,_=>by simp only[I.cy];split<;>rfl
 |.map b,_=>by simp only[I.cy];split<;>rfl
 |.iter b,_=>by simp only[I.cy];split<;>rfl
 |.func fn xs f,h=>by
  simp only[I.dF,AA]at h
  simp only[I.cy,I.dF,AA]
  exact⟨Ke m xs h.1,Ke m f h.2⟩
 |.iface t v,h=>by simp only[I.dF]at h;simp only[I.cy,I.dF];exact I.kF m v h
 |.agg cs,h=>by simp only[I.dF]at h;simp only[I.cy,I.dF];exact Ke m cs h
 |.bw cs,h=>by simp only[I.dF]at h;simp only[I.cy,I.dF];exact Ke m cs h
 |.when cs x,h=>by simp only[I.dF]at h;simp only[I.cy,I.dF];exact I.kF m x h
 |.aP,_=>rfl
 |.bool b,_=>rfl
 |.int k n,_=>rfl
 |.str s,_=>rfl
 |.dq,_=>rfl
 |.al row j,h=>h
 |.aq,_=>rfl
 |.cX,_=>rfl
 |.aX a b c d,h=>h
 |.fI es,h=>h
 |.cG,_=>rfl
 |.bH,_=>rfl
 |.dp,_=>rfl
theorem Ke (m:Nat->Option Nat):∀(xs:List I),iA xs=true->iA (gZ m xs)=true
 |[],_=>rfl
 |x::xs,h=>by
  simp only[iA,AA]at h
  simp only[gZ,iA,AA]
  exact⟨I.kF m x h.1,Ke m xs h.2⟩
end
def U.dE(f:I->I):U->U
 |.dead=>.dead
 |.box row=>.box (row.map f)
 |.rows sz rs=>.rows sz (rs.map λr=>r.map f)
 |.map es=>.map (es.map λp=>(f p.1,f p.2))
 |.fo s p=>.fo s p
 |.full sz rs=>.full sz (rs.map λr=>r.map f)
def U.tz(p:I->Prop):U->Prop
 |.dead=>True
 |.box row=>∀x∈row,p x
 |.rows _ rs=>∀r∈rs,∀x∈r,p x
 |.map es=>∀e∈es,p e.1/\p e.2
 |.fo _ _=>True
 |.full _ rs=>∀r∈rs,∀x∈r,p x
def Y6:List (List I)->Bool
 |[]=>true
 |r::rs=>iA r&&Y6 rs
def PZ:List (I×I)->Bool
 |[]=>true
 |(k,v)::r=>k.dF&&(v.dF&&PZ r)
def U.dF:U->Bool
 |.dead=>true
 |.box row=>iA row
 |.rows _ rs=>Y6 rs
 |.map es=>PZ es
 |.fo _ _=>true
 |.full _ rs=>Y6 rs
def zF:List U->Bool
 |[]=>true
 |b::d=>b.dF&&zF d
theorem TW:∀ {xs:List I},iA xs=true->∀x∈xs,x.dF=true
 |y::xs,h,x,b=>by
  simp only[iA,AA]at h;rcases Az.1 b with rfl|b
  ·exact h.1
  ·exact TW h.2 x b
theorem Uo:∀ {rs:List (List I)},Y6 rs=true->∀r∈rs,∀x∈r,x.dF=true
 |y::rs,h,r,hr=>by
  simp only[Y6,AA]at h;rcases Az.1 hr with rfl|hr
  ·exact TW h.1
  ·exact Uo h.2 r hr
theorem QbO:∀ {b:List (I×I)},PZ b=true->∀e∈b,e.1.dF=true/\e.2.dF=true
 |(k,v)::r,h,e,he=>by
  simp only[PZ,AA]at h;rcases Az.1 he with rfl|he
  ·exact⟨h.1,h.2.1⟩
  ·exact QbO h.2.2 e he
theorem U.yh{b:U}(h:b.dF=true):b.tz (λx=>x.dF=true):=by
 cases b with
 |dead=>trivial
 |box row=>exact TW h
 |rows sz rs=>exact Uo h
 |map es=>exact QbO h
 |fo s q=>trivial
 |full sz rs=>exact Uo h
theorem XbO:∀ {bs:List U},zF bs=true->∀b∈bs,b.tz (λx=>x.dF=true)
 |y::bs,h,b,hb=>by
  simp only[zF,AA]at h;rcases Az.1 hb with rfl|hb
  ·exact U.yh h.1
  ·exact XbO h.2 b hb
theorem U.all_true(b:U):b.tz (λ_=>True):=by
 cases b<;>simp[U.tz]
theorem Den.dF{x:I}{v:Value}(h:Den M c x v):x.dF=true->∀d,Den d c x v:=by
 induction h with
 |aP=>intro _ _;exact .aP _ _
 |bool=>intro _ _;exact .bool _ _
 |int=>intro _ _;exact .int _ _ _
 |str=>intro _ _;exact .str _ _
 |dq=>intro _ _;exact .dq _
 |ak c b j w e=>intro _ _;exact .ak _ _ _ _ e
 |ptr c b i j w e=>intro _ _;exact .ptr _ _ _ _ _ e
 |al=>intro h;simp[I.dF]at h
 |aq=>intro _ _;exact .aq _
 |cX=>intro _ _;exact .cX _ _
 |sl c b off len ex w cap e h1 h2 h3 h4=>intro _ _;exact .sl _ _ _ _ _ _ _ e h1 h2 h3 h4
 |n9 c b ex w a e h1=>intro _ _;exact .n9 _ _ _ _ _ e h1
 |sle c b off ex w a e h1 h2 h3=>intro _ _;exact .sle _ _ _ _ _ _ e h1 h2 h3
 |aX c ex D sz rows a cap aD off f h1 h2 h3 z h4 h5 h6 h7 p=>
  intro h d;cases rows with
  |nil=>exact .aX _ _ _ _ [] _ _ aD off f h1 h2 h3 z h4 h5 (by simp) (by simp)
  |cons r rs=>simp[I.dF]at h
 |map c b w e=>intro _ _;exact .map _ _ _ e
 |fI=>intro h;simp[I.dF]at h
 |cG=>intro _ _;exact .cG _
 |func c fn first captured y ws h1 h2 h3 h4 A B=>
  intro h d;simp[I.dF]at h;exact .func _ _ _ _ _ _ h1 h2 (λi x v o s=>A i x v o s (Jj h.1 o) d) (λi x v o s=>B i x v o s (Jj h.2 o) d)
 |bH=>intro _ _;exact .bH _
 |iface c t x v h p=>intro hr d;exact .iface _ _ _ _ (p (by simpa[I.dF]using hr) d)
 |dp=>intro _ _;exact .dp _
 |agg c cs y h1 h2 p=>intro h d;exact .agg _ _ _ h1 (λi x v o s=>p i x v o s (Jj (by simpa[I.dF]using h) o) d)
 |bw c cs y h1 h2 p=>intro h d;exact .bw _ _ _ h1 (λi x v o s=>p i x v o s (Jj (by simpa[I.dF]using h) o) d)
 |when c cs x v h h2 p=>intro hr d;exact .when _ _ _ _ (λC=>p C (by simpa[I.dF]using hr) d) h2
 |iter c b w e=>intro _ _;exact .iter _ _ _ e
theorem U.bQ(f:I->I)(b:U):(b.dE f).live=b.live:=by cases b<;>rfl
theorem iL.dE{M':Nat->Option Obj}{c':Own}{f:I->I}{p:I->Prop}(hf:∀x v,p x->Den M c x v->Den M' c' (f x) v){cb:CB}{o:Obj}{b:U}(h:iL M c cb o b)(hp:b.tz p):iL M' c' cb o (b.dE f):=by
 cases b with
 |dead=>trivial
 |box row=>
  obtain⟨arr,T,h1,h2,h3⟩:=h;refine⟨arr,T,h1,by simpa using h2,λj x v d w=>?_⟩;rw[Ba]at d;cases r:row[j]? with
  |none=>simp[r]at d
  |some y=>simp[r]at d;subst d;exact hf y v (hp y (Au r)) (h3 j y v r w)
 |rows sz rows=>
  obtain⟨h0,arr,T,h1,h2,h3,h4,h5⟩:=h;refine⟨h0,arr,T,h1,h2,by simpa using h3,λi row e=>?_,λi row j x v d w e3=>?_⟩
  ·grind
  ·rw[Ba]at d;cases r:rows[i]? with
   |none=>simp[r]at d
   |some y=>
    simp[r]at d;subst d;rw[Ba]at w;cases A:y[j]? with
    |none=>simp[A]at w
    |some z=>simp[A]at w;subst w;exact hf z v (hp y (Au r) z (Au A)) (h5 i y j z v r A e3)
 |map es=>
  obtain⟨arr,clock,h1,h2,h3⟩:=h;refine⟨arr,clock,h1,by simpa using h2,λi k x e d w=>?_⟩;rw[Ba]at d;cases r:es[i]? with
  |none=>simp[r]at d
  |some y=>
   simp[r]at d;obtain⟨rfl,rfl⟩:=d;have:=h3 i y.1 y.2 e r w;have hpy:=hp y (Au r);simp_all
 |fo s q=>exact h
 |full sz rows=>
  obtain⟨hq,h0,arr,T,h1,h2,h3,h4,h5⟩:=h;refine⟨by simpa using hq,h0,arr,T,h1,h2,by simpa using h3,λi row e=>?_,λi row j x v d w e3=>?_⟩
  ·grind
  ·rw[Ba]at d;cases r:rows[i]? with
   |none=>simp[r]at d
   |some y=>
    simp[r]at d;subst d;rw[Ba]at w;cases A:y[j]? with
    |none=>simp[A]at w
    |some z=>simp[A]at w;subst w;exact hf z v (hp y (Au r) z (Au A)) (h5 i y j z v r A e3)
def ZG(N:Nat):Nat->Option Nat:=λb=>some (b+N)
def YB(N:Nat):List U->List (Nat×U)
 |[]=>[]
 |b::d=>(N,b)::YB (N+1) d
theorem Qa7:∀(bs:List U) (N:Nat) (h:Hp) (b:Nat),cx h (YB N bs) b=if N<=b/\b<N+bs.length then bs[b-N]? else h b
 |[],N,h,b=>by simp[YB,cx];intro h1 h2;omega
 |x::bs,N,h,b=>by
  simp only[YB,cx];rw[Qa7 bs (N+1)];by_cases h1:b=N
  ·subst h1;rw[aB (by omega),aE (by simp),Ys];simp
  ·by_cases h2:N+1<=b/\b<N+1+bs.length
   ·grind
   ·rw[aB h2,aB (by simp;omega),Yr _ _ h1]
section
variable {P:Program} {GL:aw}
def dH(P:Program)(GL:aw)(f:FuncId)(xs:List I)(v:I)(bs:List U):Prop:=
 ∀(w:World) (M:Nat->Option Obj) (i:List Value),(∀b o,M b=some o->w.heap[b]?=some o)->(∀p∈GL,Den M bE (.al p.2 0) (.pointer (some ⟨p.1,0,none⟩)))->eh ⟨M,bE⟩ xs i ->
  Calls P f i.toArray w λe j=>∃u,e=.returned u/\∃d,iJ M d.M/\bu GL w ⟨[],M⟩ d (hp bs) j/\d.den v u
variable{v:I}
variable{f:FuncId}
variable{bs:List U}
theorem Xa8{F:vT}(ok:mV P GL f F)(hn:xs.length=F.np)
 (h:iV P GL F.n F.body (eH xs) [] (λe i J=>(e=.normal\/e=.ret)/\iI F.gI i J=some v/\J=bs)):dH P GL f xs v bs:=by
 intro w M D x y z;obtain⟨A,c,h1,h2,h3,h4,h5⟩:=ok.ok;have r0:=bu.start (GL:=GL) w M x y;have B:hp []=po:=by funext b;simp[hp,po]
 rw[<-B]at r0;have d0:=Z7 z (n:=F.n) (by rw[hn];exact ok.np);refine calls_of_wp h1 h2 ?_;rw[h3];refine wp_mono (h c h4 w ⟨[],M⟩ _ _ w r0 d0) (λe r o p=>?_);have fin:∀d i J,(⟨M,bE⟩:Gm).Le d->bu GL w ⟨[],M⟩ d (hp J) o->dc F.n d i r->(iI F.gI i J=some v/\J=bs)->∃u,(results A r.tmps).run P o=.ok u o/\(∃s,Fm u=.returned s/\∃d,iJ M d.M/\bu GL w ⟨[],M⟩ d (hp bs) o/\d.den v s):=by
  rintro d i J hle hr hd ⟨C,rfl⟩;obtain⟨u,k1,k2⟩:=Ii hr hd h5 C;exact⟨u,k1,u,rfl,d,hle.m,hr,k2⟩
 cases e with
 |normal=>obtain⟨d,i,J,k1,k2,k3,j⟩:=p;exact⟨k3.defers,fin d i J k1 k2 k3 j.2⟩
 |ret=>obtain⟨d,i,J,k1,k2,k3,j⟩:=p;exact⟨k3.defers,fin d i J k1 k2 k3 j.2⟩
 |exit id=>obtain⟨d,i,J,k1,k2,k3,j⟩:=p;rcases j.1 with q|q<;>cases q
 |_=>exact p.elim
variable{N:Nat}
theorem bu.CM{w0:World}{L:Ln}{g:Gm}{h:Hp}{w w':World}(r:bu GL w0 L g h w){H:Gm}{V:Hp}(r':bu GL w ⟨[],M⟩ H V w')(s:Nat)(hs:∀i,i<bs.length->V (s+i)=bs[i]?)(m:Nat->Option Nat)(M2:Nat->Option Obj)(p:I->Prop)
 (hM:iJ g.M M2)(dW:∀b o,M2 b=some o->w'.heap[b]?=some o)(iP:∀b o,M2 b=some o->g.M b=some o\/w.heap.size<=b)(tU:∀b,w.heap.size<=b->H.M b=none->M2 b=none)
 (cY:∀c x v,p x->Den H.M c x v->Den M2 c x v)(iu:∀b∈bs,b.tz p)(vH:∀x m,p x->p (I.cy m x))(hN:∀i,i<bs.length->h (N+i)=none)
 (hm:∀b z d,m b=some z->H.c b=some d->(∃i,i<bs.length/\b=s+i/\z=N+i)\/(g.c z=some d)) :
  ∃y,fW g.c y/\(∀b z d,m b=some z->H.c b=some d->y z=some d)/\bu GL w0 L ⟨M2,y⟩ (cx h (YB N (bs.map (U.dE (I.cy m))))) w':=by
 let y:Own:=λb=>if N<=b/\b<N+bs.length then H.c (b-N+s)else g.c b
 have X:fW g.c y:=by
  intro b d e;by_cases hb:N<=b/\b<N+bs.length
  ·have:=r.dU b (by have:=hN (b-N) (by omega);simp_all);rw[this]at e;cases e
  ·simp only[y,aB hb];exact e
 have ll:∀b z d,m b=some z->H.c b=some d->y z=some d:=by
  intro b z d e1 e2;rcases hm b z d e1 e2 with ⟨i,B,C,F⟩|q
  ·grind
  ·exact X _ _ q
 have hH:∀b,cx h (YB N (bs.map (U.dE (I.cy m)))) b=if N<=b/\b<N+bs.length then (bs[b-N]?).map (U.dE (I.cy m))else h b:=by
  intro b;rw[Qa7];simp
 have Q:∀b aD,cx h (YB N (bs.map (U.dE (I.cy m)))) b=some aD->(h b=some aD/\y b=g.c b)\/∃i blk0,i<bs.length/\b=i+N/\V (s+i)=some blk0/\aD=blk0.dE (I.cy m)/\y b=H.c (s+i)/\blk0∈bs:=by
  grind
 have ME:=r.keeps.size;refine⟨y,X,ll,?_⟩;refine { keeps:=r.keeps.trans' r'.keeps.os r'.keeps.tape r'.keeps.output r'.keeps.size (λb hb _=>r'.keeps.block b (by omega) (by simp)),aZ:=dW,src:=λb o e=>?_,cr:=λq hq=>(r.cr q hq).mono hM (fW.refl _),dU:=λb e=>?_,jb:=λb aD e=>?_,own:=λb aD d e A j D=>?_,bd:=λb aD d e A j D=>?_,inj:=λb z aD blk' d R e e' A lU j E D S hq=>?_ }
 ·rcases iP b o e with q|q
  ·exact r.src b o q
  ·exact .inr (.inl (by omega))
 ·rw[hH]at e;show y b=none;by_cases hb:N<=b/\b<N+bs.length
  ·grind
  ·rw[aB hb]at e;simp only[y];rw[aB hb];exact r.dU b e
 ·rcases Q b aD e with ⟨B,C⟩|⟨i,blk0,B,C,F,G,K,T⟩
  ·obtain⟨d,k⟩:=r.jb b aD B;simp_all
  ·obtain⟨d,k⟩:=r'.jb (s+i) blk0 F;simp_all
 ·replace j:y b=some d:=j
  rcases Q b aD e with ⟨B,C⟩|⟨i,blk0,B,C,F,G,K,T⟩
  ·rw[C]at j;obtain⟨k1,k2,o,Y,bT⟩:=r.own b aD d B A j D;have bZ:=r.dX B A j D;refine⟨?_,k2,o,by rw[r'.keeps.block _ bZ (by simp)];exact Y,bT.mono hM X⟩;show M2 d.aD=none;cases vA:M2 d.aD<;>grind
  ·rw[K]at j;obtain⟨k1,k2,o,Y,bT⟩:=r'.own (s+i) blk0 d F (by rw[G,U.bQ]at A;exact A) j D;have IQ:w.heap.size<=d.aD:=by simp_all
   refine⟨tU _ IQ k1,.inr (by omega),o,Y,?_⟩;rw[G];refine bT.dE (p:=p) (λx v hx hd=>?_) (iu _ T);exact cY _ _ _ (vH _ _ hx) (hd.cy ll)
 ·replace j:y b=some d:=j
  rcases Q b aD e with ⟨B,C⟩|⟨i,blk0,B,C,F,G,K,T⟩
  ·rw[C]at j;exact r.bd b aD d B A j D
  ·rw[K]at j;have:=r'.bd (s+i) blk0 d F (by rw[G,U.bQ]at A;exact A) j D;rw[G,this];rfl
 ·replace j:y b=some d:=j
  replace E:y z=some R:=E
  rcases Q b aD e with ⟨B,C⟩|⟨i,blk0,B,C,F,G,K,T⟩<;>rcases Q z blk' e' with ⟨p1,p2⟩|⟨i',BE,p1,p2,p3,p4,p5,p6⟩
  ·rw[C]at j;rw[p2]at E;exact r.inj b z aD blk' d R B p1 A lU j E D S hq
  ·rw[C]at j;rw[p5]at E;have h1:=r.dX B A j D;obtain⟨_,k2,_⟩:=r'.own (s+i') BE R p3 (by simp_all [U.bQ]) E S
   grind
  ·rw[K]at j;rw[p2]at E;have h1:=r.dX p1 lU E S;obtain⟨_,k2,_⟩:=r'.own (s+i) blk0 d F (by rw[G,U.bQ]at A;exact A) j D
   grind
  ·rw[K]at j;rw[p5]at E;have:=r'.inj (s+i) (s+i') blk0 BE d R F p3 (by rw[G,U.bQ]at A;exact A) (by simp_all [U.bQ]) j E D S hq;omega
theorem bu.join{w0:World}{L:Ln}{g:Gm}{h:Hp}{w w':World}(r:bu GL w0 L g h w){s:Gm}(r':bu GL w ⟨[],M⟩ s (hp bs) w')(M2:Nat->Option Obj)(p:I->Prop)
 (hM:iJ g.M M2)(dW:∀b o,M2 b=some o->w'.heap[b]?=some o)(A:∀b o,M2 b=some o->g.M b=some o\/w.heap.size<=b)(B:∀b,w.heap.size<=b->s.M b=none->M2 b=none)
 (cY:∀c x v,p x->Den s.M c x v->Den M2 c x v)(C:∀b∈bs,b.tz p)(D:∀x m,p x->p (I.cy m x))(hN:∀i,i<bs.length->h (N+i)=none) :
  ∃d,fW g.c d/\(∀b j,b<bs.length->s.c b=some j->d (b+N)=some j)/\bu GL w0 L ⟨M2,d⟩ (cx h (YB N (bs.map (U.dE (I.cy (ZG N)))))) w':=by
 obtain⟨d,k1,k2,k3⟩:=r.CM r' 0 (λi E=>by simp[hp]) (ZG N) M2 p hM dW A B cY C D hN (λb F j y z=>by
  simp only[ZG,E7]at y;subst y;by_cases hb:b<bs.length
  ·exact .inl ⟨b,hb,by omega,by omega⟩
  ·have:=r'.dU b (by simp[hp];omega);rw[this]at z;cases z)
 exact⟨d,k1,λb j _ e=>k2 b (b+N) j rfl e,k3⟩
def Zx(N:Nat)(bs:List U):List U:=bs.map (U.dE (I.cy (ZG N)))
theorem Rn:∀(bs:List U) (N:Nat) (i:Nat),i<bs.length->∃b,(N+i,b)∈YB N bs
 |b::bs,N,0,_=>⟨b,by simp[YB]⟩
 |b::bs,N,i+1,h=>by
  obtain⟨x,d⟩:=Rn bs (N+1) i (by simpa using h);exact⟨x,by rw[show N+(i+1)=N+1+i by omega];exact DI _ d⟩
theorem dH.here(hc:dH P GL f xs v bs)(z:fV xs=true){h0:Hp}(hN:∀i,i<bs.length->h0 (N+i)=none):im P GL f xs h0 (v.cy (ZG N)) [] (YB N (Zx N bs)):=by
 intro F L g h w A r B _ C;refine(hc w g.M A r.aZ r.cr (SV z B bE)).mono ?_;rintro e G ⟨u,he,s,hle,j,hd⟩;obtain⟨D,k1,k2,k3⟩:=r.join j s.M (λ_=>True) hle j.aZ (λb o e=>by
  rcases j.src b o e with q|q|q<;>simp_all) (λ_ _ e=>e) (λ_ _ _ _ d=>d) (λb _=>U.all_true b) (λ_ _ _=>trivial) (N:=N) (λi x=>by
   obtain⟨b,hb⟩:=Rn (Zx N bs) N i (by simpa[Zx]using x);rw[C _ hb];exact hN i x)
 refine⟨u,he,⟨s.M,D⟩,⟨hle,k1⟩,k3,hd.cy (λb H E y p=>?_)⟩;simp only[ZG,E7]at y;subst y;refine k2 b E ?_ p;by_cases hb:b<bs.length
 ·exact hb
 ·have:=j.dU b (by simp[hp];omega);rw[this]at p;cases p
theorem dH.rz{ys:List I}{rd:List Nat}{h0:Hp}(hc:dH P GL f ys v bs)(hb:bA h0 rd xs ys)(hv:v.dF=true)(E:zF bs=true)(hN:∀i,i<bs.length->h0 (N+i)=none):im P GL f xs h0 (v.cy (ZG N)) rd (YB N (Zx N bs)):=by
 intro F L g h w A r G H K;refine(hc w (World.all w) A (λ_ _ e=>e) (λp hp=>(r.cr p hp).mono r.uc (fW.refl _)) (hb GL F L g h w _ r r.uL H A G)).mono ?_;rintro e R ⟨u,he,S,hle,j,hd⟩;obtain⟨B,k1,k2,k3⟩:=r.join j g.M (λx=>x.dF=true) (iJ.refl _) (λb o e=>by rw[j.keeps.block b (r.fT e) (by simp)];exact r.aZ b o e) (λb o e=>.inl e) (λb T e=>by
   cases hm:g.M b with
   |none=>rfl
   |some z=>have:=r.fT hm;omega) (λ_ _ _ s d=>d.dF s _) (XbO E) (λx m s=>I.kF m x s) (N:=N) (λi C=>by
   obtain⟨b,hb⟩:=Rn (Zx N bs) N i (by simpa[Zx]using C);rw[K _ hb];exact hN i C)
 refine⟨u,he,⟨g.M,B⟩,⟨iJ.refl _,k1⟩,k3,?_⟩;refine(hd.cy (c':=B) (m:=ZG N) (λb X Q D y=>?_)).dF (I.kF _ _ hv) _;simp only[ZG,E7]at D;subst D;refine k2 b Q ?_ y;by_cases hb:b<bs.length
 ·exact hb
 ·have:=j.dU b (by simp[hp];omega);rw[this]at y;cases y
def XO:List U->List U
 |[]=>[]
 |_::l=>.dead::XO l
theorem ZY:∀(l:List U) (i:Nat),(XO l)[i]?=if i<l.length then some .dead else none
 |[],i=>by simp[XO]
 |x::l,0=>by simp[XO]
 |x::l,i+1=>by simp[XO,ZY l i]
theorem YbE(l:List U):(XO l).length=l.length:=by induction l<;>simp_all [XO]
def og(n:Nat):Nat->Option Nat:=λb=>bif C3 b n then some b else none
def eY(ids:List Nat)(n k:Nat):Nat->Option Nat:=λb=>bif ids.contains b||(BY n b&&C3 b (n+k))then some b else none
theorem YaP{F:vT}(ok:mV P GL f F)(hn:xs.length=F.np)(J:List U)(ids:List Nat)(qZ:∀i∈ids,i<J.length){news:List U}(Y:bs=news\/bs=[])
 (h:iV P GL F.n F.body (eH (gZ (og J.length) xs)) (XO J) (λe p σ'=>(e=.normal\/e=.ret)/\iI F.gI p σ'=some v/\σ'=XO J++news)) :
  im P GL f xs (hp J) (v.cy (eY ids J.length bs.length)) ids (YB J.length (bs.map (U.dE (I.cy (eY ids J.length bs.length))))):=by
 intro w0 L g hq w vs r K cZ dQ
 let dm:CB:=⟨0,0,0,true,0⟩
 let z:Own:=λb=>if b<J.length then some ((g.c b).getD dm)else none
 have r0:bu GL w ⟨[],g.M⟩ ⟨g.M,z⟩ (hp (XO J)) w:={
  keeps:=i6.refl _ _,aZ:=r.aZ,src:=λb o e=>.inl e,cr:=r.cr
  dU:=λb e=>by
   show z b=none;simp only[hp,ZY]at e
   grind
  jb:=λb aD e=>by
   simp only[hp,ZY]at e;split at e
   ·rename_i hb;exact⟨_,by show z b=_;simp only[z];rw[aE hb]⟩
   ·cases e
  own:=λb aD C e s _ _=>by
   simp only[hp,ZY]at e;split at e
   ·cases e;cases s
   ·cases e
  bd:=λb aD C e s _ _=>by
   simp only[hp,ZY]at e;split at e
   ·cases e;cases s
   ·cases e
  inj:=λb Q aD blk' C ez e _ s _ _ _ _ _ _=>by
   simp only[hp,ZY]at e;split at e
   ·cases e;cases s
   ·cases e }
 have vJ:eh ⟨g.M,z⟩ (gZ (og J.length) xs) vs:=by
  refine eh.ma (by rw[YA];exact K.length) (λi y u A E=>?_);obtain⟨x,G,rfl⟩:=HM A;refine(K.get i x u G E).cy (λb Q C k1 k2=>?_);unfold og at k1;obtain⟨k0,k1⟩:=QB k1;cases k1;have bZ:b<J.length:=iq k0
  grind
 obtain⟨fn,c,h1,h2,h3,h4,h5⟩:=ok.ok;have d0:=Z7 vJ (n:=F.n) (by rw[YA,hn];exact ok.np);refine calls_of_wp h1 h2 ?_;rw[h3];refine wp_mono (h c h4 w ⟨[],g.M⟩ _ _ w r0 d0) (λe R D s=>?_);have fin:∀j p σ',(⟨g.M,z⟩:Gm).Le j->bu GL w ⟨[],g.M⟩ j (hp σ') D->dc F.n j p R->(iI F.gI p σ'=some v/\σ'=XO J++news)->∃u,(results fn R.tmps).run P D=.ok u D/\(∃S,Fm u=.returned S/\∃g2,g.Le g2/\bu GL w0 L g2 (cx hq (YB J.length (bs.map (U.dE (I.cy (eY ids J.length bs.length)))))) D/\g2.den (v.cy (eY ids J.length bs.length)) S):=by
  rintro j p σ' hle hr hd ⟨pe,rfl⟩;obtain⟨u,k1,k2⟩:=Ii hr hd h5 pe;obtain⟨c2,j1,j2,j3⟩:=r.CM hr J.length (bs:=bs) (λi T=>by
    rcases Y with rfl|rfl<;>simp_all [hp,YbE]) (eY ids J.length bs.length) j.M (λ_=>True) hle.m hr.aZ (λb o e=>by
    rcases hr.src b o e with q|q|q<;>simp_all) (λ_ _ e=>e) (λ_ _ _ _ d=>d) (λb _=>U.all_true b) (λ_ _ _=>trivial) (N:=J.length) (λi T=>by
    obtain⟨b,hb⟩:=Rn (bs.map (U.dE (I.cy (eY ids J.length bs.length)))) J.length i (by simpa using T);rw[dQ _ hb];simp[hp]) (λb Q C A E=>by
    unfold eY at A;obtain⟨V,A⟩:=QB A;cases A;by_cases H:b∈ids/\b<J.length
    ·right;obtain⟨H,hb⟩:=H;have bS:hq b=some (J[b]):=by rw[cZ b H];simp[hp,hb]
     obtain⟨X,vx⟩:=r.jb b _ bS;have:z b=some X:=by grind
     have:=hle.c b X this;rw[E]at this;cases this;exact vx
    ·left;simp only[EA,AA]at V;rcases V with q|⟨G,q2⟩
     ·simp_all
     ·have:=iq G;have:b < J.length + bs.length:=iq q2;exact⟨b - J.length,by omega,by omega,by omega⟩)
  exact⟨u,k1,u,rfl,⟨j.M,c2⟩,⟨hle.m,j1⟩,j3,k2.cy j2⟩
 cases e with
 |normal=>obtain⟨j,p,J,k1,k2,k3,B⟩:=s;exact⟨k3.defers,fin j p J k1 k2 k3 B.2⟩
 |ret=>obtain⟨j,p,J,k1,k2,k3,B⟩:=s;exact⟨k3.defers,fin j p J k1 k2 k3 B.2⟩
 |exit id=>obtain⟨j,p,J,k1,k2,k3,B⟩:=s;rcases B.1 with q|q<;>cases q
 |_=>exact s.elim
end
end Go.Ah
end
section
namespace Go.Ah
mutual
def I.ids:I->List Nat
 |.ak b _=>[b]
 |.ptr b _ _=>[b]
 |.sl b _ _ _=>[b]
 |.map b=>[b]
 |.iter b=>[b]
 |.func _ xs d=>i3 xs++i3 d
 |.iface _ v=>v.ids
 |.agg cs=>i3 cs
 |.bw cs=>i3 cs
 |.when _ x=>x.ids
 |_=>[]
def i3:List I->List Nat
 |[]=>[]
 |x::xs=>x.ids++i3 xs
end
def Dh:Nat->List U->Option (List U)
 |0,l=>some l
 |n+1,.dead::l=>Dh n l
 |_+1,_=>none
theorem Xba:∀(J l news:List U),Dh J.length l=some news->l=XO J++news
 |[],l,news,h=>by simp_all [Dh,XO]
 |x::J,l,news,h=>by
  cases l with
  |nil=>simp[Dh]at h
  |cons y l=>
   cases y with
   |dead=>simp only[List.length_cons,Dh]at h;rw[Xba J l news h];rfl
   |_=>simp[Dh]at h
def Xx(n:Nat):List Nat->Bool
 |[]=>true
 |x::xs=>C3 x n&&Xx n xs
theorem PF{n:Nat}:∀ {l:List Nat},Xx n l=true->∀i∈l,i<n
 |x::xs,h,i,b=>by
  simp only[Xx,AA]at h;rcases Az.1 b with rfl|b
  ·exact iq h.1
  ·exact PF h.2 i b
def much:Nat:=1000000000
end Go.Ah
end
section
namespace Go.Ah
def zX(n:Nat)(hd:List (List Nat))(c:Nat):Bool:=tH (λj=>C3 j c||wO (j5 hd j) λh=>tH (λi=>lr h i) c) n
variable{hd:List (List Nat)}
variable{n lo:Nat}
theorem Xdg{c:Nat}(h:zX n hd c=true):∀j,j<n->c<=j->∀i,i<c->i∈Zl hd j:=by
 intro j b f i d;have:=Je h j b;simp only[Jv,EA]at this;rcases this with q|q
 ·have:j<c:=iq q;omega
 ·have:=J'.1 (Je q i d)
  rwa [Ig]at this
def o7(hd:List (List Nat))(lo n:Nat):List (List Nat):=(Ao n).map λj=>(Zl hd (lo+j)).filterMap λi=>match BY lo i with
 |true=>some (i-lo)
 |false=>none
theorem Xd6{j i:Nat}(h:i∈Zl (o7 hd lo n) j):lo+i∈Zl hd (lo+j):=by
 unfold o7 Zl at h;rw[Ba]at h;cases e:(Ao n)[j]? with
 |none=>rw[e]at h;simp at h
 |some k=>
  rw[e]at h;have b:k=j:=by
   grind
  subst b;simp only[E8,Cw,FY]at h;obtain⟨x,d,h⟩:=h;split at h
  ·rename_i hb;have:=iq hb;cases h
   rwa [show lo+(x-lo)=x by omega]
  ·cases h
section
variable {P:Program} {GL:aw}
variable{J:List U}
variable{ρ:Frame}
theorem QdX{ops:Array Oper}{ms:List aV}(ei:ops.size=ms.length)(bT:∀(j:Nat) (m:aV),ms[j]?=some m->∃o,ops[j]?=some o/\fZ P GL n ops o m)(dS:zE ops.toList ms hd=true)
 {hi:Nat}{r:List aV}(hlh:lo+r.length=hi)(hhi:hi<=ms.length)(yc:∀j m,r[j]?=some m->ms[lo+j]?=some m)(bhi:∀j,j<ms.length->hi<=j->∀i,i<hi->i∈Zl hd j)
 {d:List TS}{K:Frame->List U->Log->Prop}(AN:Tr P GL r d ρ J [] K)(xC:Qg (o7 hd lo r.length) (d.map λx=>(x.rd,x.up.map (·.1)))=true)
 {w0:World}{L:Ln}{g:Gm}(Q:Exit->Act->World->Prop)
 (hQ:∀ y ρ' σ' a w fuel (listed:Array Bool),g.Le y->bu GL w0 L y (hp σ') w->dc n y ρ' a->K ρ' σ' (d.map λx=>(x.rd,x.up.map (·.1)))->listed.size=ms.length->(∀ k,k < hi->listed.getD k false=true)->(∀ k,hi<=k->listed.getD k false=false) ->
   qj (λk=>listed.getD k false) ms.length<=fuel->wpAny P .any ops Q fuel listed a w) :
  ∀(fuel:Nat) (listed:Array Bool) (a:Act) (w:World),listed.size=ms.length->(∀j,listed.getD j false=true->j<ms.length/\∀i∈waits (ops.toList.getD j default),listed.getD i false=true) ->
   (∀k,k<lo->listed.getD k false=true)->(∀k,hi<=k->listed.getD k false=false) ->
   qj (λk=>listed.getD k false) ms.length<=fuel->(∃y ρ',g.Le y/\bu GL w0 L y (jF (λk=>listed.getD k false) lo d (hp J)) w/\dc n y ρ' a/\∀t,bM ρ' t=bM (lj (λk=>listed.getD k false) lo r d ρ) t) ->
   wpAny P .any ops Q fuel listed a w:=by
 have D:=Rl dS;obtain⟨hlen,rL,ρf,σf,Cs,WA,xM⟩:=J6 r d lo ρ J [] K AN;rw[Cm]at xM;have hA:∀j,j<r.length->∀i,i<j->lo+i∈Zl hd (lo+j)\/bF (Zs (d.map λx=>(x.rd,x.up.map (·.1))) i) (Zs (d.map λx=>(x.rd,x.up.map (·.1))) j)=true:=by
  intro j hj i hi;unfold Qg at xC;simp only[C1,DW,Be]at xC;have:=Uk (xC j (by omega)) i (Zs (d.map λx=>(x.rd,x.up.map (·.1))) i) (by
   grind [Zs])
  rw[Al]at this;exact this.imp Xd6 id
 have Y:∀j x,d[j]?=some x->Zs (d.map λx=>(x.rd,x.up.map (·.1))) j=(x.rd,x.up.map (·.1)):=by
  simp_all [Zs]
 have fin:∀(fuel:Nat) (listed:Array Bool) (a:Act) (w:World),listed.size=ms.length->(∀k,k<hi->listed.getD k false=true)->(∀k,hi<=k->listed.getD k false=false)->qj (λk=>listed.getD k false) ms.length<=fuel ->
   (∃y ρ',g.Le y/\bu GL w0 L y (jF (λk=>listed.getD k false) lo d (hp J)) w/\dc n y ρ' a/\∀t,bM ρ' t=bM (lj (λk=>listed.getD k false) lo r d ρ) t)->wpAny P .any ops Q fuel listed a w:=by
  rintro fuel listed a w hs fq R T ⟨y,ρ',h1,h2,h3,h4⟩;refine hQ y ρf σf a w fuel listed h1 ?_ ?_ xM hs fq R T
  ·rw[WA];have:jF (λk=>listed.getD k false) lo d (hp J)=jF (λ_=>true) lo d (hp J):=by
    funext b
    refine Z2 _ _ _ _ (λk t e _=>?_) rfl
    grind
   rw[<-this];exact h2
  ·refine h3.d_ (λt=>.inl ?_);rw[Cs t,h4 t];refine X1 _ _ _ _ _ (λk m e _=>?_) rfl
   grind
 intro fuel
 induction fuel with
 |zero=>
  intro listed a w hs E na R T dW;exact fin 0 listed a w hs (λk f=>Pe (Hn.1 T) k (by omega)) R T dW
 |succ fuel ih=>
  intro listed a w hs E na R T dW;by_cases fq:∀k,k<hi->listed.getD k false=true
  ·grind
  refine⟨λhr=>?_,λj hj=>?_⟩
  ·exfalso;refine fq λk=>?_
   induction k using Eu with
   |_ k ihk=>
    intro f;cases hl:listed.getD k false with
    |true=>rfl
    |false=>
     exfalso;have Mb:ops[k]?=some (ops[k]'(by omega)):=by simp[show k<ops.size by omega]
     have:k∈E0 .any ops listed:=by
      rw[mem_ready];refine⟨?_,_,Mb,λe he hb=>?_⟩
      ·grind
      ·have hw:e.on∈waits (ops.toList.getD k default):=by rw[XZ ops k Mb,HP];exact⟨e,he,hb,rfl⟩
       have F:=D.back k (by omega) _ hw;exact ihk e.on F (by omega)
     rw[hr]at this;cases this
  obtain⟨h1,o,ho,xK⟩:=mem_ready.1 hj;have V:j<ms.length:=by grind
  have Ai:listed.getD j false=false:=by
   grind
  have Ei:∀i∈waits (ops.toList.getD j default),listed.getD i false=true:=by
   intro i hi;rw[XZ ops j ho,HP]at hi;obtain⟨e,he,hb,rfl⟩:=hi;exact xK e he hb
  have hhd:=Jw D (S:=λk=>listed.getD k false) E j V Ei;have abA:lo<=j:=by
   grind
  have abz:j<hi:=by
   grind
  obtain⟨j,rfl⟩:∃q,j=lo+q:=⟨j-lo,by omega⟩;have hjs:j<r.length:=by omega
  have xU:r[j]?=some r[j]:=by simp
  have G:d[j]?=some (d[j]'(by omega)):=by simp[show j<d.length by omega]
  generalize hmd:r[j]=m at xU;generalize hxd:(d[j]'(by omega))=x at G;have hmJ:=yc j m xU;have Y_:ms.getD (lo+j) default=m:=by grind
  obtain⟨o',fM,M8⟩:=bT (lo+j) m hmJ;rw[ho]at fM;cases fM;obtain⟨ρj,q1,q2⟩:=rL j m x xU G;obtain⟨y,ρ',s1,s2,s3,s4⟩:=dW;have key:∀k,k<r.length->(k<j->lo+k∈Zl hd (lo+j))->(j<k->lo+j∈Zl hd (lo+k))->(k≠j)->(listed.getD (lo+k) false=decide (lo+k<lo+j)):=by
   intro k f ha hb H;by_cases F:k<j
   ·grind
   ·rw[i7 (by omega)];have X:j<k:=by omega
    cases hl:listed.getD (lo+k) false with
    |false=>rfl
    |true=>
     have:listed.getD (lo+j) false=true:=Jw D (S:=λk=>listed.getD k false) E (lo+k) (by omega) (E (lo+k) hl).2 (lo+j) (hb X);rw[Ai]at this;cases this
  have lJ:∀t,(t∈iU m)->∀k mk,r[k]?=some mk->mk.dst=some t->k≠j->listed.getD (lo+k) false=decide (lo+k<lo+j):=by
   intro t ht k mk f DX H;have N:k<r.length:=(eS f).1;have L9:ms.getD (lo+k) default=mk:=by rw[Gy,yc k mk f];rfl
   have Wt:t∈eE mk:=by unfold eE;rw[DX];simp
   refine key k N (λF=>?_) (λX=>?_) H
   ·rcases D.nM (lo+j) V (lo+k) (by omega)with q|⟨q,_,_⟩
    ·exact q
    grind
   ·rcases D.nM (lo+k) (by omega) (lo+j) (by omega)with q|⟨_,_,q⟩
    ·exact q
    grind
  have iE:∀b,(b∈x.rd\/b∈x.up.map (·.1))->∀k A,d[k]?=some A->b∈A.up.map (·.1)->k≠j->listed.getD (lo+k) false=decide (lo+k<lo+j):=by
   intro b hb k A f ct H;have N:k<r.length:=by grind
   refine key k N (λF=>?_) (λX=>?_) H
   ·rcases hA j hjs k F with q|q
    ·exact q
    ·rw[Y k A f,Y j x G]at q;simp only[bF,AA]at q
     grind [Is]
   ·rcases hA k N j X with q|q
    ·exact q
    ·rw[Y k A f,Y j x G]at q;simp only[bF,AA]at q
     grind [Is]
  have tX:∀k,k=j->listed.getD (lo+k) false=decide (lo+k<lo+j):=by rintro k rfl;rw[Ai];simp
  have heq:∀b,(b∈x.rd\/b∈x.up.map (·.1))->jF (λk=>listed.getD k false) lo d (hp J) b=jF (λk=>decide (k<lo+j)) lo d (hp J) b:=by
   intro b hb;refine Z2 _ _ _ _ (λk A B C=>?_) rfl;by_cases s:k=j
   ·exact tX k s
   ·exact iE b hb k A B C s
  unfold wpOp;simp only[ho];refine q2 n ops o M8 ρ' _ w0 L y w a (λt ht=>?_) (λb hb=>heq b (.inl hb)) (λp iu=>heq p.1 (.inr (By.2 ⟨p,iu,rfl⟩))) s2 s3 _ _ (λg2 w2 u hle hr tl=>?_)
  ·rw[s4 t,q1 t];refine X1 _ _ _ _ _ (λk mk B C=>?_) rfl;by_cases s:k=j
   ·exact tX k s
   ·exact lJ t ht k mk B C s
  ·have z:∀k,(listed.setIfInBounds (lo+j) true).getD k false=if k=lo+j then true else listed.getD k false:=by
    intro k;by_cases f:k<ms.length
    ·by_cases s:k=lo+j
     ·subst s;simp[show lo+j<listed.size by omega]
     ·rw[aB s];simp[EF (Mm s)]
    ·rw[aB (by omega)]
     grind
   refine ih _ _ _ (by simpa using hs) (λk f=>?_) (λk f=>?_) (λk f=>?_) ?_ ⟨g2,cB m.dst x.v ρ',s1.trans hle,?_,tl,λt=>?_⟩
   ·rw[z]at f;by_cases s:k=lo+j
    ·subst s;refine⟨V,λi hi=>?_⟩;rw[z];split
     ·rfl
     ·exact Ei i hi
    ·rw[aB s]at f;refine⟨(E k f).1,λi hi=>?_⟩;rw[z];split
     ·rfl
     ·exact(E k f).2 i hi
   ·rw[z];split
    ·rfl
    ·exact na k f
   ·rw[z,aB (by omega)];exact R k f
   ·have:=OE (S:=λk=>listed.getD k false) (S':=λk=>(listed.setIfInBounds (lo+j) true).getD k false) (j:=lo+j) (n:=ms.length) V Ai (by simp only[z];simp) (λk f H=>by simp only[z];rw[aB H]);omega
   ·have:jF (λk=>(listed.setIfInBounds (lo+j) true).getD k false) lo d (hp J)=cx (jF (λk=>listed.getD k false) lo d (hp J)) x.up:=by
     funext b
     by_cases hb:b∈x.up.map (·.1)
     ·refine TJ d lo (hp J) j x G hb (by rw[z,aE rfl]) (λk A B C e3=>?_) _;rw[z]at e3;by_cases s:k=j
      ·omega
      ·rw[aB (by omega)]at e3;rw[iE b (.inr hb) k A B C s]at e3;have:=of_decide_eq_true e3;omega
     ·rw[Rs _ _ _ hb];refine Z2 _ _ _ _ (λk A B C=>?_) rfl;simp only[z];have s:k≠j:=by grind
      rw[aB (by omega)]
    rw[this];exact hr
   ·rw[Q9];by_cases Ap:m.dst=some t
    ·rw[aE Ap];refine(Ut r d lo ρ j m x xU G Ap (by rw[z,aE rfl]) (λk mk B C e3=>?_)).symm;rw[z]at e3;by_cases s:k=j
     ·omega
     ·rw[aB (by omega)]at e3;have N:k<r.length:=(eS B).1;have L9:ms.getD (lo+k) default=mk:=by rw[Gy,yc k mk B];rfl
      have xJ:t∈eE m:=by unfold eE;rw[Ap];simp
      have xI:t∈eE mk:=by unfold eE;rw[C];simp
      have:=key k N (λF=>by
       rcases D.nM (lo+j) V (lo+k) (by omega)with q|⟨_,q,_⟩
       ·exact q
       ·rw[L9,Y_]at q;exact(q t xI xJ).elim) (λX=>by
       rcases D.nM (lo+k) (by omega) (lo+j) (by omega)with q|⟨_,q,_⟩
       ·exact q
       ·rw[L9,Y_]at q;exact(q t xJ xI).elim) s
      grind
    ·rw[aB Ap,s4 t];refine X1 _ _ _ _ _ (λk mk B C=>?_) rfl;simp only[z];have s:k≠j:=by grind
     rw[aB (by omega)]
theorem XdX{ops:Array Oper}{ms:List aV}(ei:ops.size=ms.length)(bT:∀(j:Nat) (m:aV),ms[j]?=some m->∃o,ops[j]?=some o/\fZ P GL n ops o m)(dS:zE ops.toList ms hd=true)
 {m:aV}(hm:ms[lo]?=some m)(bhi:∀j,j<ms.length->lo+1<=j->∀i,i<lo+1->i∈Zl hd j)
 {K:Frame->List U->Log->Prop}(dW:eu false P GL m ρ J [] K)
 {w0:World}{L:Ln}{g:Gm}(Q:Exit->Act->World->Prop)
 (F:∀ b ρ' σ' G a w fuel (listed:Array Bool),g.Le b->bu GL w0 L b (hp σ') w->dc n b ρ' a->K ρ' σ' G->listed.size=ms.length->(∀ k,k < lo + 1->listed.getD k false=true)->(∀ k,lo + 1<=k->listed.getD k false=false) ->
   qj (λk=>listed.getD k false) ms.length<=fuel->wpAny P .any ops Q fuel listed a w)
 (fuel:Nat)(listed:Array Bool)(a:Act)(w:World)(hs:listed.size=ms.length)(na:∀k,k<lo->listed.getD k false=true)(mL:∀k,lo<=k->listed.getD k false=false)
 (hc:qj (λk=>listed.getD k false) ms.length<=fuel)(r:bu GL w0 L g (hp J) w)(d:dc n g ρ a):wpAny P .any ops Q fuel listed a w:=by
 have D:=Rl dS;have z:lo<ms.length:=(eS hm).1;have H:∀j,listed.getD j false=true->j<ms.length/\∀i∈waits (ops.toList.getD j default),listed.getD i false=true:=by
  intro j A;have B:j<lo:=by
   grind
  exact⟨by omega,λi s=>na i (by have:=D.back j (by omega) i s;omega)⟩
 obtain⟨o,p,N⟩:=bT lo m hm;cases fuel with
 |zero=>have:=Pe (Hn.1 hc) lo z;grind
 |succ fuel=>
  refine⟨λhr=>?_,λj A=>?_⟩
  ·exfalso;have:lo∈E0 .any ops listed:=by
    rw[mem_ready];refine⟨?_,o,p,λe he hb=>?_⟩
    ·grind
    ·have R:e.on∈waits (ops.toList.getD lo default):=by rw[XZ ops lo p,HP];exact⟨e,he,hb,rfl⟩
     exact na _ (D.back lo z _ R)
   rw[hr]at this;cases this
  ·obtain⟨h1,o',x,xK⟩:=mem_ready.1 A;have C:j<ms.length:=by grind
   have T:listed.getD j false=false:=by
    grind
   have V:∀i∈waits (ops.toList.getD j default),listed.getD i false=true:=by
    intro i s;rw[XZ ops j x,HP]at s
    grind
   have hhd:=Jw D (S:=λk=>listed.getD k false) H j C V;have B:j=lo:=by
    grind
   subst B;rw[p]at x;cases x;unfold wpOp;simp only[p];refine ZbT N dW r d _ Q (λX Y ⟨b,ρ',σ',jG,hle,hr,pS,f⟩=>?_);have E:∀k,(listed.setIfInBounds j true).getD k false=if k=j then true else listed.getD k false:=by
    intro k;by_cases f:k<ms.length
    ·by_cases y:k=j
     ·subst y;simp[show k<listed.size by omega]
     ·rw[aB y];simp[EF (Mm y)]
    grind
   refine F b ρ' σ' jG X Y fuel _ hle hr pS f (by simpa using hs) (λk f=>?_) (λk f=>?_) ?_
   ·grind
   ·grind
   ·have:=OE (S:=λk=>listed.getD k false) (S':=λk=>(listed.setIfInBounds j true).getD k false) (j:=j) (n:=ms.length) C T (by simp only[E];simp) (λk f cC=>by simp only[E];rw[aB cC]);omega
abbrev wF:=List (List aV×Bool)
def YI:wF->List aV
 |[]=>[]
 |p::r=>p.1++YI r
def qx(n:Nat)(hd:List (List Nat)):Nat->wF->Bool
 |_,[]=>true
 |lo,(b,s)::r=>(!s||AJ b.length 1)&&(zX n hd (lo+b.length)&&qx n hd (lo+b.length) r)
def tA(P:Program)(GL:aw)(hd:List (List Nat)):Nat->wF->Frame->List U->(Frame->List U->Prop)->Prop
 |_,[],ρ,J,K=>K ρ J
 |lo,(b,true)::r,ρ,J,K=>iW false P GL b ρ J [] λρ J _=>tA P GL hd (lo+b.length) r ρ J K
 |lo,(b,false)::r,ρ,J,K=>iW true P GL b ρ J [] λρ J d=>Qg (o7 hd lo b.length) d=true/\tA P GL hd (lo+b.length) r ρ J K
theorem TX{n:Nat}{ops:Array Oper}{ms:List aV}{hd:List (List Nat)}(ei:ops.size=ms.length)(bT:∀(j:Nat) (m:aV),ms[j]?=some m->∃o,ops[j]?=some o/\fZ P GL n ops o m)(dS:zE ops.toList ms hd=true)
 {w0:World}{L:Ln}{Q:Exit->Act->World->Prop}{K:Frame->List U->Prop}:∀(ps:wF) (lo:Nat) (ρ:Frame) (J:List U) (g:Gm),qx ms.length hd lo ps=true->lo+(YI ps).length=ms.length->(∀j m,(YI ps)[j]?=some m->ms[lo+j]?=some m) ->
  tA P GL hd lo ps ρ J K->(∀z ρ' σ' a w,g.Le z->bu GL w0 L z (hp σ') w->dc n z ρ' a->K ρ' σ'->Q .normal a w) ->
  ∀(fuel:Nat) (listed:Array Bool) (a:Act) (w:World),listed.size=ms.length->(∀k,k<lo->listed.getD k false=true)->(∀k,lo<=k->listed.getD k false=false)->qj (λk=>listed.getD k false) ms.length<=fuel->bu GL w0 L g (hp J) w->dc n g ρ a->wpAny P .any ops Q fuel listed a w
 |[],lo,ρ,J,g,_,B,_,h,C,fuel,listed,a,w,hs,E,A,s,r,d=>by
  have ir:lo=ms.length:=by simpa[YI]using B
  have hq:Q .normal a w:=C g ρ J a w (Gm.Le.refl g) r d h;have hr:E0 .any ops listed=[]:=by
   simp_all [E0]
  cases fuel with
  |zero=>exact⟨hr,hq⟩
  |succ fuel=>exact⟨λ_=>hq,λi x=>by rw[hr]at x;cases x⟩
 |(p,true)::ps,lo,ρ,J,g,y,B,F,h,C,fuel,listed,a,w,hs,E,A,s,r,d=>by
  simp only[qx,AA,Bool.not_true,Bool.false_or]at y;have h1:=fK y.1;obtain⟨m,rfl⟩:=List.length_eq_one_iff.1 h1;simp only[YI,AT,EJ]at B;have hm:ms[lo]?=some m:=by have:=F 0 m (by simp[YI]);simpa using this
  have dW:eu false P GL m ρ J [] (λρ' σ' _=>tA P GL hd (lo + 1) ps ρ' σ' K):=h;refine XdX ei bT dS hm (λj G s i x=>Xdg y.2.1 j G s i x) dW Q (λz ρ' σ' lg H N R S k1 k2 k3 T V X Y k8=>?_) fuel listed a w hs E A s r d;exact TX ei bT dS ps (lo + 1) ρ' σ' z y.2.2 (by omega) (λj m' e=>by
   have:=F (j+1) m' (by simpa[YI]using e)
   grind) T (λg2 ρ2 σ2 a2 w2 q=>C g2 ρ2 σ2 a2 w2 (k1.trans q)) R S H N V X Y k8 k2 k3
 |(p,false)::ps,lo,ρ,J,g,y,B,F,h,C,fuel,listed,a,w,hs,E,A,s,r,d=>by
  simp only[qx,AA,Bool.not_false,Bool.true_or,true_and]at y;simp only[YI,AT]at B;have yc:∀ j m,p[j]?=some m->ms[lo + j]?=some m:=λj m e=>F j m (by
   grind [YI])
  have hw:iW true P GL p ρ J [] (λρ' σ' lg=>Qg (o7 hd lo p.length) lg=true/\tA P GL hd (lo+p.length) ps ρ' σ' K):=h;obtain⟨f,AN⟩:=SY p ρ J [] _ hw;obtain⟨hlen,_,ρf,σf,_,_,xM⟩:=J6 p f lo ρ J [] _ AN;rw[Cm]at xM;have D:=Rl dS;refine QdX (w0:=w0) (L:=L) (g:=g) ei bT dS rfl (by omega) yc (λj G s i x=>Xdg y.1 j G s i x) AN xM.1 Q (λz ρ' σ' H N R S k1 k2 k3 T V X Y k8=>?_) fuel listed a w hs (λj G=>?_) E (λk hk=>A k (by omega)) s ⟨g,ρ,Gm.Le.refl g,?_,d,λt=>?_⟩
  ·exact TX ei bT dS ps (lo + p.length) ρ' σ' z y.2 (by omega) (λj m' e=>by
    have:=F (p.length+j) m' (by simp_all [YI,Bc])
    grind) T.2 (λg2 ρ2 σ2 a2 w2 q=>C g2 ρ2 σ2 a2 w2 (k1.trans q)) R S H N V X Y k8 k2 k3
  ·have tW:j<lo:=by
    grind
   exact⟨by omega,λi x=>E i (by have:=D.back j (by omega) i x;omega)⟩
  ·have:jF (λk=>listed.getD k false) lo f (hp J)=jF (λ_=>false) lo f (hp J):=by
    funext b
    refine Z2 _ _ _ _ (λk t e _=>A _ (by omega)) rfl
   rw[this];have jE:∀(f:List TS) (i:Nat) (h:Hp),jF (λ_=>false) i f h=h:=by
    intro f
    induction f<;>simp_all [jF]
   rw[jE];exact r
  ·have jE:∀(ms:List aV) (f:List TS) (i:Nat) (ρ:Frame),lj (λ_=>false) i ms f ρ=ρ:=by
    intro ms
    induction ms with
    |nil=>intros;simp[lj]
    |cons m ms ih=>intro f i ρ;cases f<;>simp_all [lj]
   have:bM (lj (λk=>listed.getD k false) lo p f ρ) t=bM (lj (λ_=>false) lo p f ρ) t:=X1 _ _ _ _ _ (λk m e _=>A _ (by omega)) rfl;rw[this,jE]
theorem Xeo(i:P.follows .mixedOrders=true){id:Nat}{ps:wF}{Q:eo}(o:qx (YI ps).length hd 0 ps=true)
 (h:tA P GL hd 0 ps ρ J (λρ' σ'=>Q .normal ρ' σ')):iV P GL n (.region id (YI ps) (some hd)) ρ J Q:=by
 intro c p f L g a w r d;cases p with
 |draw _ ops _ _ b s x=>
  refine wp_region_any i ?_;have y:∀k,(FB ops.size false).getD k false=false:=by
   intro k;rw[EP,E9];split<;>rfl
  refine TX (w0:=f) (L:=L) b s x ps 0 ρ J g o (by simp) (λj m e=>by simpa using e) h (λz ρ' σ' B C k1 k2 k3 A=>⟨z,ρ',σ',k1,k2,k3,A⟩) ops.size _ a _ (by simp[b]) (λk D=>by omega) (λk _=>y k) ?_ r.drew d;rw[b];have:∀m,qj (λk=>(FB (YI ps).length false).getD k false) m<=m:=by
   intro m
   induction m<;>simp_all [qj]
  exact this _
end
end Go.Ah
end
section
namespace Go.Ah
structure aI (α:Type) where
 stop:α
 call:MK->List I->List U->(I->List U->α)->α
 dT:MK->List I->List U->(I->List Nat×List Nat->List U->α)->α
 test:I->α->α->α
 loop:((List I->List U->α)->List I->List U->α)->List I->List U->α
section
variable {α:Type}
def aI.rd(A:aI α)(r:aL)(K:I->α):α:=match r with
 |.ok v _ []=>K v
 |_=>A.stop
def aI.pu(A:aI α)(r:aL)(K:I->α):α:=match r with
 |.ok v [] []=>K v
 |_=>A.stop
def aI.wr(A:aI α)(r:aL)(J:List U)(K:I->List U->α):α:=match r with
 |.ok v _ up=>match h_ J up with
  |some σ'=>K v σ'
  |none=>A.stop
 |.stop=>A.stop
def aI.dr(A:aI α)(r:aL)(J:List U)(K:I->List Nat×List Nat->List U->α):α:=match r with
 |.ok v rd up=>match h_ J up with
  |some σ'=>K v (rd,up.map (·.1)) σ'
  |none=>A.stop
 |.stop=>A.stop
def aI.opt{β:Type}(A:aI α)(o:Option β)(K:β->α):α:=match o with
 |some v=>K v
 |none=>A.stop
def aI.gd(A:aI α)(b:Bool)(k:α):α:=match b with
 |true=>k
 |false=>A.stop
@[reducible] def uF(cs:List (Bool×Bool)):I:=.when cs (.bool false)
def aI.gx(A:aI α)(c:I)(w:Bool)(r:α)(s:List (Bool×Bool)->α):α:=match c with
 |.when cs (.bool q)=>match yP.gh cs with
  |true=>s (cs++[(q,w)])
  |false=>A.stop
 |c=>A.test c (bif w then r else s [(true,w)]) (bif w then s [(false,w)]else r)
def aI.gr(A:aI α)(c:I)(w:Bool)(r:(I->α)->α)(K:I->α):α:=A.gx c w (r K) (λb=>K (uF b))
def aI.gw(A:aI α)(c:I)(w:Bool)(r:(I->List U->α)->α)(J:List U)(K:I->List U->α):α:=A.gx c w (r K) (λb=>K (uF b) J)
def aI.gl(A:aI α)(c:I)(w:Bool)(r:(I->List Nat×List Nat->List U->α)->α)(J:List U)(K:I->List Nat×List Nat->List U->α):α:=
 A.gx c w (r K) (λb=>K (uF b) ([],[]) J)
def c8(f:(List I->List U->α)->α)(k:List I->List U->α):α:=f k
inductive Cls where
 |mv|pu|rd|wr|call
def fj:MK->Cls
 |.mv=>.mv
 |.call _ | .gP | .invoke _ _=>.call
 |.alloc _ | .box | .mZ _ _ _ _ | .store _ | .makeMap | .append _ _ _ | .lY _ | .range | .next | .sS _ _ _ | .iM _ _=>.wr
 |.load _ _ | .lookup _ _ _ | .nj | .cU _ _ _ _ | .fE _=>.rd
 |_=>.pu
def xr(A:aI α)(o:aV)(ρ:Frame)(J:List U)(K:Frame->List U->α):α:=
 match o.guard with
 |none=>match fj o.k with
  |.mv=>match o.xs with
   |[x]=>K (cB o.dst (ev ρ x) ρ) J
   |_=>A.stop
  |.pu | .rd=>A.rd (eU o.k (o.xs.map (ev ρ)) J) λv=>K (cB o.dst v ρ) J
  |.wr=>A.wr (eU o.k (o.xs.map (ev ρ)) J) J λv J=>K (cB o.dst v ρ) J
  |.call=>A.call o.k (o.xs.map (ev ρ)) J λv J=>K (cB o.dst v ρ) J
 |some (s,w)=>match fj o.k with
  |.mv | .pu | .rd=>A.gr (bM ρ s) w (λk=>A.rd (eU o.k (o.xs.map (ev ρ)) J) k) λv=>K (cB o.dst v ρ) J
  |.wr=>A.gw (bM ρ s) w (λk=>A.wr (eU o.k (o.xs.map (ev ρ)) J) J k) J λv J=>K (cB o.dst v ρ) J
  |.call=>A.gw (bM ρ s) w (λk=>A.call o.k (o.xs.map (ev ρ)) J k) J λv J=>K (cB o.dst v ρ) J
def jx(A:aI α):List aV->Frame->List U->(Frame->List U->α)->α
 |[],b,J,K=>K b J
 |o::r,b,J,K=>xr A o b J λb J=>jx A r b J K
def sg(A:aI α)(o:aV)(ρ:Frame)(J:List U)(lg:Log)(K:Frame->List U->Log->α):α:=
 match o.guard with
 |none=>match fj o.k with
  |.mv=>match o.xs with
   |[x]=>K (cB o.dst (ev ρ x) ρ) J (lg++[([],[])])
   |_=>A.stop
  |.pu=>A.pu (eU o.k (o.xs.map (ev ρ)) J) λv=>K (cB o.dst v ρ) J (lg++[([],[])])
  |.rd | .wr=>A.dr (eU o.k (o.xs.map (ev ρ)) J) J λv l J=>K (cB o.dst v ρ) J (lg++[l])
  |.call=>A.dT o.k (o.xs.map (ev ρ)) J λv l J=>K (cB o.dst v ρ) J (lg++[l])
 |some (s,w)=>match fj o.k with
  |.mv | .pu=>A.gr (bM ρ s) w (λk=>A.pu (eU o.k (o.xs.map (ev ρ)) J) k) λv=>K (cB o.dst v ρ) J (lg++[([],[])])
  |.rd | .wr=>A.gl (bM ρ s) w (λk=>A.dr (eU o.k (o.xs.map (ev ρ)) J) J k) J λv l J=>K (cB o.dst v ρ) J (lg++[l])
  |.call=>A.gl (bM ρ s) w (λk=>A.dT o.k (o.xs.map (ev ρ)) J k) J λv l J=>K (cB o.dst v ρ) J (lg++[l])
def Dv(A:aI α):List aV->Frame->List U->Log->(Frame->List U->Log->α)->α
 |[],b,J,d,K=>K b J d
 |o::r,b,J,d,K=>sg A o b J d λb J d=>Dv A r b J d K
def ng:Cls->Bool
 |.wr=>true
 |.call=>true
 |_=>false
def l_:List aV->Bool
 |[]=>true
 |o::r=>!(ng (fj o.k))&&l_ r
inductive bL where
 |skip
 |region (id:Nat) (ms:List aV) (draw:Option (List (List Nat)))
 |iG (id:Nat) (ps:wF) (hd:List (List Nat))
 |seq (a b:bL)
 |cond (c:td) (a b:bL)
 |join (lv:List Nat) (a:bL)
 |block (id:Nat) (a:bL)
 |loop (lv:List Nat) (a:bL)
 |exit (id:Nat)
 |scope (a:bL)
 |label (l:Nat)
 |ret
 deriving Inhabited
def bL.er:bL->dB
 |.skip=>.skip
 |.region id ms hd=>.region id ms hd
 |.iG id d hd=>.region id (YI d) (some hd)
 |.seq a b=>.seq a.er b.er
 |.cond c a b=>.cond c a.er b.er
 |.join _ a=>a.er
 |.block id a=>.block id a.er
 |.loop _ a=>.loop a.er
 |.exit id=>.exit id
 |.scope a=>.scope a.er
 |.label l=>.label l
 |.ret=>.ret
def YE:List aV->List Nat
 |[]=>[]
 |o::r=>match o.dst with
  |some d=>d::YE r
  |none=>YE r
def bL.kY:bL->List Nat
 |.region _ ms _=>YE ms
 |.iG _ d _=>YE (YI d)
 |.seq a b=>a.kY++b.kY
 |.cond _ a b=>a.kY++b.kY
 |.join _ a=>a.kY
 |.block _ a=>a.kY
 |.loop _ a=>a.kY
 |.scope a=>a.kY
 |_=>[]
def ub(x:Nat):List Nat->Bool
 |[]=>false
 |y::l=>AJ x y||ub x l
def ym:List Nat->List Nat->Bool
 |[],_=>true
 |x::l,b=>ub x b&&ym l b
def bL.ok:bL->Bool
 |.iG _ d hd=>qx (YI d).length hd 0 d
 |.seq a b=>a.ok&&b.ok
 |.cond _ a b=>a.ok&&b.ok
 |.join lv a=>ym lv a.kY&&a.ok
 |.block _ a=>a.ok
 |.loop lv a=>ym lv a.kY&&a.ok
 |.scope a=>a.ok
 |_=>true
def tm:List I->I
 |[]=>.aP
 |x::_=>x
def jM:List I->List I
 |[]=>[]
 |_::l=>l
def mh:List Nat->List I->Frame->Frame
 |[],_,b=>b
 |k::f,d,b=>(k,tm d)::mh f (jM d) b
def dt(l:List Nat):Frame->Frame
 |[]=>[]
 |(k,v)::r=>match ub k l with
  |true=>dt l r
  |false=>(k,v)::dt l r
def iD(ρ:Frame):List Nat->List I
 |[]=>[]
 |s::r=>bM ρ s::iD ρ r
def lD(A:aI α)(hd:List (List Nat)):Nat->wF->Frame->List U->(Frame->List U->α)->α
 |_,[],b,J,K=>K b J
 |lo,(d,true)::r,b,J,K=>jx A d b J λb J=>lD A hd (lo+d.length) r b J K
 |lo,(d,false)::r,b,J,K=>match l_ d with
  |true=>jx A d b J λb J=>lD A hd (lo+d.length) r b J K
  |false=>Dv A d b J [] λb J f=>A.gd (Qg (o7 hd lo d.length) f) (lD A hd (lo+d.length) r b J K)
def dn(A:aI α):bL->Frame->List U->(Frame->List U->α)->(Nat->Frame->List U->α)->(Frame->List U->α)->α
 |.skip,d,J,K,_,_=>K d J
 |.label _,d,J,K,_,_=>K d J
 |.region _ ms none,d,J,K,_,_=>jx A ms d J K
 |.region _ ms (some hd),d,J,K,_,_=>match l_ ms with
  |true=>jx A ms d J K
  |false=>Dv A ms d J [] λd J j=>A.gd (Qg hd j) (K d J)
 |.iG _ o hd,d,J,K,_,_=>lD A hd 0 o d J K
 |.seq a b,d,J,K,E,R=>dn A a d J (λd J=>dn A b d J K E R) E R
 |.cond c a b,d,J,K,E,R=>A.test (ev d c) (dn A a d J K E R) (dn A b d J K E R)
 |.join lv a,d,J,K,E,R=>c8 (λk=>dn A a d J (λρ' J=>k (iD ρ' lv) J) E R) (λf J=>K (mh lv f (dt a.kY d)) J)
 | .block id a,d,J,K,E,R=>dn A a d J K (λi d J=>match AJ i id with
  |true=>K d J
  | false=>E i d J) R
 |.loop lv a,d,J,_,E,R=>A.loop (λagain f J=>dn A a (mh lv f (dt a.kY d)) J (λρ' J=>again (iD ρ' lv) J) E R) (iD d lv) J
 |.exit id,d,J,_,E,_=>E id d J
 |.scope a,d,J,K,E,R=>dn A a d J K E R
 |.ret,d,J,_,_,R=>R d J
def fz(agg:Bool)(n:Nat)(x:I)(J:List U):Option I:=match x with
 |.ak b j=>match ai J b with
  |.box row=>aO agg j n row
  |_=>none
 |_=>none
def zI(A:aI α):List RV->Frame->List U->(List I->α)->α
 |[],_,_,K=>K []
 |.t n::r,b,J,K=>zI A r b J λd=>K (bM b n::d)
 |.c s agg n::r,b,J,K=>A.opt (fz agg n (bM b s) J) λv=>zI A r b J λd=>K (v::d)
structure wC where
 np:Nat
 n:Nat
 body:bL
 gI:List RV
 deriving Inhabited
def wC.fn(D:wC):vT:=⟨D.np,D.n,D.body.er,D.gI⟩
def xq(A:aI α)(D:wC)(xs:List I)(J:List U)(ret:I->List U->α):α:=
 dn A D.body (eH xs) J (λb J=>zI A D.gI b J λd=>ret (qy d) J) (λ_ _ _=>A.stop) (λb J=>zI A D.gI b J λd=>ret (qy d) J)
def mN(stop:α):Nat->((List I->List U->α)->List I->List U->α)->List I->List U->α
 |0,_,_,_=>stop
 |n+1,F,b,J=>F (mN stop n F) b J
structure eJ (P:Program) (GL:aw) (A:aI α) (hold:α->Prop):Prop where
 stop:¬hold A.stop
 call:∀ {k xs J K},hold (A.call k xs J K)->∃R,ou P GL k xs J R/\∀v σ',R v σ'->hold (K v σ')
 dT:∀ {k xs J K},hold (A.dT k xs J K)->∃v rd up σ',aG P GL k xs (hp J) v rd up/\h_ J up=some σ'/\hold (K v (rd,up.map (·.1)) σ')
 test:∀ {v a b},hold (A.test v a b)->∃c,v=.bool c/\(c=true->hold a)/\(c=false->hold b)
 loop:∀ {F vs J},hold (A.loop F vs J)->∃n,hold (mN A.stop n F vs J)
section
variable {P:Program} {GL:aw} {A:aI α} {hold:α->Prop}
variable{r:aL}
theorem eJ.rd(ok:eJ P GL A hold){K:I->α}(h:hold (A.rd r K)):∃v rd,r=.ok v rd []/\hold (K v):=by
 unfold aI.rd at h;split at h
 ·exact⟨_,_,rfl,h⟩
 ·exact(ok.stop h).elim
theorem eJ.pu(ok:eJ P GL A hold){K:I->α}(h:hold (A.pu r K)):∃v,r=.ok v [] []/\hold (K v):=by
 unfold aI.pu at h;split at h
 ·exact⟨_,rfl,h⟩
 ·exact(ok.stop h).elim
variable{J:List U}
theorem eJ.wr(ok:eJ P GL A hold){K:I->List U->α}(h:hold (A.wr r J K)):∃v rd up σ',r=.ok v rd up/\h_ J up=some σ'/\hold (K v σ'):=by
 unfold aI.wr at h;split at h
 ·split at h
  ·grind
  ·exact(ok.stop h).elim
 ·exact(ok.stop h).elim
theorem eJ.dr(ok:eJ P GL A hold){K:I->List Nat×List Nat->List U->α}(h:hold (A.dr r J K)):∃v rd up σ',r=.ok v rd up/\h_ J up=some σ'/\hold (K v (rd,up.map (·.1)) σ'):=by
 unfold aI.dr at h;split at h
 ·split at h
  ·grind
  ·exact(ok.stop h).elim
 ·exact(ok.stop h).elim
theorem eJ.gd(ok:eJ P GL A hold){b:Bool}{k:α}(h:hold (A.gd b k)):b=true/\hold k:=by
 unfold aI.gd at h;split at h
 ·exact⟨rfl,h⟩
 ·exact(ok.stop h).elim
theorem eJ.opt(ok:eJ P GL A hold){β:Type}{o:Option β}{K:β->α}(h:hold (A.opt o K)):∃v,o=some v/\hold (K v):=by
 unfold aI.opt at h;split at h
 ·exact⟨_,rfl,h⟩
 ·exact(ok.stop h).elim
theorem Yd(J:List U):h_ J []=some J:=by simp[h_]
variable{w fl:Bool}
variable{s:Nat}
variable{ρ:Frame}
theorem Xc6{c:Bool}(h:bM ρ s=.bool c):dG ρ (some (s,w)) [(c,w)]:=.bool s w c h
theorem Qd6{c:Bool}:et [(c,w)]↔c=w:=by simp[et]
theorem Ih(ok:eJ P GL A hold){r:α}{K:List (Bool×Bool)->α}(h:hold (A.gx (bM ρ s) w r K)):∃d,dG ρ (some (s,w)) d/\((et d/\hold r)\/(¬et d/\hold (K d))):=by
 unfold aI.gx at h;split at h
 ·rename_i d q f;split at h
  ·rename_i i;refine⟨_,.when s w q d f,.inr ⟨λq=>SE i (λp hp=>q p (by simp[hp])),h⟩⟩
  ·exact(ok.stop h).elim
 ·obtain⟨b,hb,h1,h2⟩:=ok.test h;refine⟨_,Xc6 hb,?_⟩
  grind [Qd6]
def Yj(l:List Nat)(ρ ρ':Frame):Prop:=∀s,s∉l->bM ρ' s=bM ρ s
theorem Yj.refl(l:List Nat)(ρ:Frame):Yj l ρ ρ:=λ_ _=>rfl
variable{l:List Nat}
theorem Yj.trans{l':List Nat}{a b c:Frame}(h:Yj l a b)(k:Yj l' b c):Yj (l++l') a c:=λs hs=>by
 simp only[Bd,not_or]at hs;rw[k s hs.2,h s hs.1]
theorem Yj.mono{l':List Nat}{a b:Frame}(h:Yj l a b)(hl:∀x∈l,x∈l'):Yj l' a b:=λs hs=>h s λe=>hs (hl s e)
variable{o:aV}
theorem Yj.put{v:I}:Yj (YE [o]) ρ (cB o.dst v ρ):=by
 intro s hs;rw[Q9];cases hd:o.dst with
 |none=>simp
 |some d=>
  have:s≠d:=by rintro rfl;simp[YE,hd]at hs
  grind
theorem TC(o:aV)(r:List aV):YE (o::r)=YE [o]++YE r:=by
 cases hd:o.dst<;>simp[YE,hd]
variable{lg:Log}
theorem Xc4(ok:eJ P GL A hold){K:Frame->List U->α}(tT:fl=true->ng (fj o.k)=false)(h:hold (xr A o ρ J K)) :
  eu fl P GL o ρ J lg (λρ' σ' d=>hold (K ρ' σ')/\Yj (YE [o]) ρ ρ'/\((∃l,d=lg++[l]/\(ng (fj o.k)=false->l.2=[])))):=by
 unfold xr at h;cases f:o.guard with
 |none=>
  simp only[f]at h;have z:dG ρ o.guard []:=by rw[f];exact .none
  have B:et []:=by simp[et]
  have F:hold (A.rd (eU o.k (o.xs.map (ev ρ)) J) λv=>K (cB o.dst v ρ) J)->eu fl P GL o ρ J lg (λρ' σ' d=>hold (K ρ' σ')/\Yj (YE [o]) ρ ρ'/\((∃l,d=lg++[l]/\(ng (fj o.k)=false->l.2=[])))):=by
   intro h;obtain⟨v,rd,e,h⟩:=ok.rd h;exact .run [] _ v rd [] J z B (Xn _) (YL e) (Yd J) ⟨h,Yj.put,_,rfl,λ_=>rfl⟩
  cases i:fj o.k with
  |mv=>
   simp only[i]at h;split at h
   ·rename_i x G;have j:o.k=.mv:=by
     revert i;unfold fj;split<;>simp_all
    refine .run [] [ev ρ x] (ev ρ x) [] [] J z B (by rw[G];exact Xn _) (by rw[j];exact Tl _ _) (Yd J) ⟨h,Yj.put,_,rfl,λ_=>rfl⟩
   ·exact(ok.stop h).elim
  |pu=>simp_all
  |rd=>simp_all
  |wr=>
   simp only[i]at h;obtain⟨v,rd,up,σ',e,C,h⟩:=ok.wr h;exact .run [] _ v rd up σ' z B (Xn _) (YL e) C ⟨h,Yj.put,_,rfl,λq=>by simp[ng]at q⟩
  |call=>
   simp only[i]at h;obtain⟨R,D,j⟩:=ok.call h;refine .rel [] _ R ?_ z B (Xn _) D (λv σ' E=>⟨j v σ' E,Yj.put,_,rfl,λq=>by simp[ng]at q⟩);simp_all [ng]
 |some p=>
  obtain⟨s,w⟩:=p;simp only[f]at h;have y:∀b,dG ρ (some (s,w)) b->¬et b->hold (K (cB o.dst (uF b) ρ) J)->eu fl P GL o ρ J lg (λρ' σ' d=>hold (K ρ' σ')/\Yj (YE [o]) ρ ρ'/\((∃l,d=lg++[l]/\(ng (fj o.k)=false->l.2=[])))):=by
   intro b hb H h;exact .lazy b _ (.bool false) [] (by rw[f];exact hb) (Xn _) (λq=>(H q).elim) ⟨h,Yj.put,_,rfl,λ_=>rfl⟩
  have F:hold (A.gr (bM ρ s) w (λk=>A.rd (eU o.k (o.xs.map (ev ρ)) J) k) λv=>K (cB o.dst v ρ) J)->eu fl P GL o ρ J lg (λρ' σ' d=>hold (K ρ' σ')/\Yj (YE [o]) ρ ρ'/\((∃l,d=lg++[l]/\(ng (fj o.k)=false->l.2=[])))):=by
   intro h;obtain⟨b,hb,⟨h0,h1⟩|⟨h0,h1⟩⟩:=Ih ok h
   ·obtain⟨v,rd,e,h⟩:=ok.rd h1;exact .run b _ v rd [] J (by rw[f];exact hb) h0 (Xn _) (YL e) (Yd J) ⟨h,Yj.put,_,rfl,λ_=>rfl⟩
   ·exact y b hb h0 h1
  cases i:fj o.k with
  |mv=>simp_all
  |pu=>simp_all
  |rd=>simp_all
  |wr=>
   simp only[i]at h y;obtain⟨b,hb,⟨h0,h1⟩|⟨h0,h1⟩⟩:=Ih ok h
   ·obtain⟨v,rd,up,σ',e,C,h⟩:=ok.wr h1;exact .run b _ v rd up σ' (by rw[f];exact hb) h0 (Xn _) (YL e) C ⟨h,Yj.put,_,rfl,λq=>by simp[ng]at q⟩
   ·exact y b hb h0 h1
  |call=>
   simp only[i]at h y;obtain⟨b,hb,⟨h0,h1⟩|⟨h0,h1⟩⟩:=Ih ok h
   ·obtain⟨R,D,j⟩:=ok.call h1;refine .rel b _ R ?_ (by rw[f];exact hb) h0 (Xn _) D (λv σ' E=>⟨j v σ' E,Yj.put,_,rfl,λq=>by simp[ng]at q⟩);simp_all [ng]
   ·exact y b hb h0 h1
theorem iW.mono:∀ {ms:List aV} {ρ:Frame} {J:List U} {lg:Log} {K K':Frame->List U->Log->Prop},(∀ρ J lg,K ρ J lg->K' ρ J lg)->iW fl P GL ms ρ J lg K->iW fl P GL ms ρ J lg K'
 |[],_,_,_,_,_,h,k=>h _ _ _ k
 |_::_,_,_,_,_,_,h,k=>eu.mono (λ_ _ _ q=>iW.mono h q) k
def qf(lg:Log):Prop:=∀l∈lg,l.2=[]
theorem YS(ok:eJ P GL A hold):∀ {ms:List aV} {ρ:Frame} {J:List U} {lg:Log} {K:Frame->List U->α},(fl=true->l_ ms=true)->hold (jx A ms ρ J K) ->
  iW fl P GL ms ρ J lg (λρ' σ' f=>hold (K ρ' σ')/\Yj (YE ms) ρ ρ'/\(l_ ms=true->qf lg->qf f))
 |[],ρ,J,lg,K,_,h=>⟨h,Yj.refl _ _,λ_ q=>q⟩
 |o::r,ρ,J,lg,K,D,h=>by
  unfold jx at h;have i:fl=true->ng (fj o.k)=false:=λe=>by simp_all [l_]
  have j:fl=true->l_ r=true:=λe=>by simp_all [l_]
  refine eu.mono (λρ' σ' f=>?_) (Xc4 ok (lg:=lg) i h);rintro⟨k1,k2,l,p,k3⟩;refine iW.mono (λaba E aaC=>?_) (YS ok j k1);rintro⟨y,z,B⟩;refine⟨y,by rw[TC];exact k2.trans z,λd C=>?_⟩;simp only[l_,AA,B9]at d;refine B d.2 ?_;rw[p];intro x b;simp only[Bd,List.mem_singleton]at b;rcases b with b|b
  ·exact C x b
  ·rw[b];exact k3 d.1
theorem Ycw(ok:eJ P GL A hold){K:Frame->List U->Log->α}(h:hold (sg A o ρ J lg K)) :
  eu true P GL o ρ J lg (λρ' σ' f=>hold (K ρ' σ' f)/\Yj (YE [o]) ρ ρ'):=by
 unfold sg at h;cases i:o.guard with
 |none=>
  simp only[i]at h;have z:dG ρ o.guard []:=by rw[i];exact .none
  have B:et []:=by simp[et]
  have y:hold (A.dr (eU o.k (o.xs.map (ev ρ)) J) J λv l J=>K (cB o.dst v ρ) J (lg++[l]))->eu true P GL o ρ J lg (λρ' σ' f=>hold (K ρ' σ' f)/\Yj (YE [o]) ρ ρ'):=by
   intro h;obtain⟨v,rd,up,σ',e,j,h⟩:=ok.dr h;exact .run [] _ v rd up σ' z B (Xn _) (YL e) j ⟨h,Yj.put⟩
  cases d:fj o.k with
  |mv=>
   simp only[d]at h;split at h
   ·rename_i x E;have F:o.k=.mv:=by
     revert d;unfold fj;split<;>simp_all
    refine .run [] [ev ρ x] (ev ρ x) [] [] J z B (by rw[E];exact Xn _) (by rw[F];exact Tl _ _) (Yd J) ⟨h,Yj.put⟩
   ·exact(ok.stop h).elim
  |pu=>
   simp only[d]at h;obtain⟨v,e,h⟩:=ok.pu h;exact .run [] _ v [] [] J z B (Xn _) (YL e) (Yd J) ⟨h,Yj.put⟩
  |rd=>simp only[d]at h;exact y h
  |wr=>simp only[d]at h;exact y h
  |call=>
   simp only[d]at h;obtain⟨v,rd,up,σ',e,j,h⟩:=ok.dT h;exact .run [] _ v rd up σ' z B (Xn _) e j ⟨h,Yj.put⟩
 |some p=>
  obtain⟨s,w⟩:=p;simp only[i]at h;have C:∀b,dG ρ (some (s,w)) b->¬et b->hold (K (cB o.dst (uF b) ρ) J (lg++[([],[])]))->eu true P GL o ρ J lg (λρ' σ' f=>hold (K ρ' σ' f)/\Yj (YE [o]) ρ ρ'):=by
   intro b hb G h;exact .lazy b _ (.bool false) [] (by rw[i];exact hb) (Xn _) (λq=>(G q).elim) ⟨h,Yj.put⟩
  have D:hold (A.gr (bM ρ s) w (λk=>A.pu (eU o.k (o.xs.map (ev ρ)) J) k) λv=>K (cB o.dst v ρ) J (lg++[([],[])]))->eu true P GL o ρ J lg (λρ' σ' f=>hold (K ρ' σ' f)/\Yj (YE [o]) ρ ρ'):=by
   intro h;obtain⟨b,hb,⟨h0,h1⟩|⟨h0,h1⟩⟩:=Ih ok h
   ·obtain⟨v,e,h⟩:=ok.pu h1;exact .run b _ v [] [] J (by rw[i];exact hb) h0 (Xn _) (YL e) (Yd J) ⟨h,Yj.put⟩
   ·exact C b hb h0 h1
  have y:hold (A.gl (bM ρ s) w (λk=>A.dr (eU o.k (o.xs.map (ev ρ)) J) J k) J λv l J=>K (cB o.dst v ρ) J (lg++[l]))->eu true P GL o ρ J lg (λρ' σ' f=>hold (K ρ' σ' f)/\Yj (YE [o]) ρ ρ'):=by
   intro h;obtain⟨b,hb,⟨h0,h1⟩|⟨h0,h1⟩⟩:=Ih ok h
   ·obtain⟨v,rd,up,σ',e,j,h⟩:=ok.dr h1;exact .run b _ v rd up σ' (by rw[i];exact hb) h0 (Xn _) (YL e) j ⟨h,Yj.put⟩
   ·exact C b hb h0 h1
  cases d:fj o.k with
  |mv=>simp only[d]at h;exact D h
  |pu=>simp only[d]at h;exact D h
  |rd=>simp only[d]at h;exact y h
  |wr=>simp only[d]at h;exact y h
  |call=>
   simp only[d]at h;obtain⟨b,hb,⟨h0,h1⟩|⟨h0,h1⟩⟩:=Ih ok h
   ·obtain⟨v,rd,up,σ',e,j,h⟩:=ok.dT h1;exact .run b _ v rd up σ' (by rw[i];exact hb) h0 (Xn _) e j ⟨h,Yj.put⟩
   ·exact C b hb h0 h1
theorem SS(ok:eJ P GL A hold):∀ {ms:List aV} {ρ:Frame} {J:List U} {lg:Log} {K:Frame->List U->Log->α},hold (Dv A ms ρ J lg K) ->
  iW true P GL ms ρ J lg (λρ' σ' b=>hold (K ρ' σ' b)/\Yj (YE ms) ρ ρ')
 |[],ρ,J,lg,K,h=>⟨h,Yj.refl _ _⟩
 |o::r,ρ,J,lg,K,h=>by
  unfold Dv at h;refine eu.mono (λρ' σ' b=>?_) (Ycw ok h);rintro⟨k1,k2⟩;refine iW.mono (λaba i aaC=>?_) (SS ok k1);rintro⟨d,f⟩;exact⟨d,by rw[TC];exact k2.trans f⟩
theorem QcJ:∀a:List Nat,df a []=true
 |[]=>rfl
 |x::a=>by simp[df,QcJ a]
theorem O_{hd:List (List Nat)}(h:qf lg):Qg hd lg=true:=by
 have one:∀(d:List Nat) (q:List Nat×List Nat),q.2=[]->∀(l:Log) (i:Nat),qf l->Qj d q i l=true:=by
  intro d q hq l
  induction l with
  |nil=>intro i _;rfl
  |cons p r y=>
   intro i f;have hp:p.2=[]:=f p (by simp);simp[Qj,bF,hq,hp,df,QcJ,y (i+1) (λx b=>f x (by simp[b]))]
 unfold Qg;rw[C1];intro j _;refine one _ _ ?_ _ _ (λx b=>h x (List.mem_of_mem_take b));unfold Zs;cases z:lg[j]? with
 |none=>rfl
 |some p=>exact h p (Au z)
theorem Jm{x:Nat}:∀ {l:List Nat},ub x l=true↔x∈l
 |[]=>by simp[ub]
 |y::l=>by simp[ub,Jm (l:=l)]
theorem SW:∀ {l b:List Nat},ym l b=true->∀x∈l,x∈b
 |[],_,_,x,h=>by simp at h
 |y::l,b,h,x,d=>by
  simp only[ym,AA]at h;simp only[Az]at d;rcases d with rfl|d
  ·exact Jm.1 h.1
  ·exact SW h.2 x d
theorem Ot(l:List Nat)(s:Nat):∀ρ:Frame,bM (dt l ρ) s=if s∈l then .aP else bM ρ s
 |[]=>by simp[dt,bM]
 |(k,v)::r=>by
  unfold dt;cases b:ub k l with
  |true=>
   have hm:=Jm.1 b;simp only;rw[Ot l s r];by_cases hs:s∈l
   ·simp[hs]
   ·have:s≠k:=by rintro rfl;exact hs hm
    simp_all [ZV]
  |false=>
   have hm:k∉l:=λe=>by rw[Jm.2 e]at b;cases b
   simp only;rw[ZV,ZV,Ot l s r];by_cases hs:s=k
   ·subst hs;simp[hm]
   ·simp[hs]
theorem XaT:∀ {lv:List Nat} {vs:List I} {ρ:Frame},s∉lv->bM (mh lv vs ρ) s=bM ρ s
 |[],_,_,_=>rfl
 |k::b,vs,ρ,h=>by
  simp only[Az,not_or]at h;simp only[mh];rw[ZV,aB h.1,XaT h.2]
theorem Tc{lv:List Nat}{ρ1:Frame}(hl:∀x∈lv,x∈l)(h:Yj l ρ ρ1):vS (mh lv (iD ρ1 lv) (dt l ρ)) ρ1:=by
 have key:∀(b:List Nat) (ρ0:Frame),vS ρ0 ρ1->vS (mh b (iD ρ1 b) ρ0) ρ1:=by
  intro b
  induction b with
  |nil=>intro ρ0 h;exact h
  |cons k b f=>
   intro ρ0 h t;simp only[mh,iD,tm,jM];rw[ZV];by_cases e:t=k
   ·simp_all
   ·rw[aB e];exact f ρ0 h t
 refine key lv _ (λt=>?_);rw[Ot];by_cases d:t∈l
 ·rw[aE d];exact .inr rfl
 ·rw[aB d];exact .inl (h t d).symm
theorem Qcr{lv:List Nat}{vs:List I}(hl:∀x∈lv,x∈l):Yj l ρ (mh lv vs (dt l ρ)):=by
 intro s hs;rw[XaT (λe=>hs (hl s e)),Ot,aB hs]
theorem ZbV{n:Nat}{m:dB}{Q:eo}(h:iV P GL n m ρ J (λe ρ1 σ1=>∃ρ2,vS ρ2 ρ1/\Q e ρ2 σ1)):iV P GL n m ρ J Q:=by
 intro c p x L g a w r d;refine wp_mono (h c p x L g a w r d) (λe y z j=>?_);cases e with
 |normal=>obtain⟨b,ρ',σ',k1,k2,k3,ρ2,f,i⟩:=j;exact⟨b,ρ2,σ',k1,k2,k3.d_ f,i⟩
 |exit id=>obtain⟨b,ρ',σ',k1,k2,k3,ρ2,f,i⟩:=j;exact⟨b,ρ2,σ',k1,k2,k3.d_ f,i⟩
 |ret=>obtain⟨b,ρ',σ',k1,k2,k3,ρ2,f,i⟩:=j;exact⟨b,ρ2,σ',k1,k2,k3.d_ f,i⟩
 |_=>exact j.elim
theorem vS.refl(ρ:Frame):vS ρ ρ:=λ_=>.inl rfl
theorem QaQ(a b:List aV):YE (a++b)=YE a++YE b:=by
 induction a with
 |nil=>rfl
 |cons o r d=>grind [TC]
theorem O'(ok:eJ P GL A hold){hd:List (List Nat)}:∀(ps:wF) (d:Nat) {ρ:Frame} {J:List U} {K:Frame->List U->α} {Q:Frame->List U->Prop},(∀ρ' σ',Yj (YE (YI ps)) ρ ρ'->hold (K ρ' σ')->Q ρ' σ')->hold (lD A hd d ps ρ J K)->tA P GL hd d ps ρ J Q
 |[],_,_,_,_,_,b,h=>b _ _ (Yj.refl _ _) h
 |(i,true)::r,d,ρ,J,K,Q,b,h=>by
  unfold lD at h;refine iW.mono (λρ' σ' j=>?_) (YS ok (fl:=false) (λe=>by cases e) h);rintro⟨k1,k2,_⟩;exact O' ok r _ (λρ2 σ2 q=>b ρ2 σ2 (by rw[YI,QaQ];exact k2.trans q)) k1
 |(i,false)::r,d,ρ,J,K,Q,b,h=>by
  unfold lD at h;have hQ':∀ρ',Yj (YE i) ρ ρ'->∀ρ2 σ2,Yj (YE (YI r)) ρ' ρ2->hold (K ρ2 σ2)->Q ρ2 σ2:=λρ' k2 ρ2 σ2 q=>b ρ2 σ2 (by rw[YI,QaQ];exact k2.trans q);cases f:l_ i with
  |true=>
   simp only[f]at h;refine iW.mono (λρ' σ' j=>?_) (YS ok (fl:=true) (λ_=>f) h);rintro⟨k1,k2,k3⟩;exact⟨O_ (k3 f (λ_ q=>by simp at q)),O' ok r _ (hQ' _ k2) k1⟩
  |false=>
   simp only[f]at h;refine iW.mono (λρ' σ' j=>?_) (SS ok h);rintro⟨k1,k2⟩;obtain⟨p,x⟩:=ok.gd k1;exact⟨p,O' ok r _ (hQ' _ k2) x⟩
theorem Z1(y:P.follows .mixedOrders=true)(ok:eJ P GL A hold){n:Nat}:∀(m:bL) {ρ:Frame} {J:List U} {K:Frame->List U->α} {E:Nat->Frame->List U->α} {R:Frame->List U->α} {Q:eo},m.ok=true ->
  (∀ρ' σ',Yj m.kY ρ ρ'->hold (K ρ' σ')->Q .normal ρ' σ')->(∀i ρ' σ',Yj m.kY ρ ρ'->hold (E i ρ' σ')->Q (.exit i) ρ' σ')->(∀ρ' σ',Yj m.kY ρ ρ'->hold (R ρ' σ')->Q .ret ρ' σ') ->
  hold (dn A m ρ J K E R)->iV P GL n m.er ρ J Q
 |.skip,_,_,_,_,_,_,_,f,_,_,h=>YdR (f _ _ (Yj.refl _ _) h)
 |.label _,_,_,_,_,_,_,_,f,_,_,h=>Xdf (f _ _ (Yj.refl _ _) h)
 |.exit id,_,_,_,_,_,_,_,_,j,_,h=>ZdR (j _ _ _ (Yj.refl _ _) h)
 |.ret,_,_,_,_,_,_,_,_,_,p,h=>Qeo (p _ _ (Yj.refl _ _) h)
 |.scope a,_,_,_,_,_,_,hm,f,j,p,h=>Qdf (Z1 y ok a hm f j p h)
 |.region id ms none,ρ,J,K,E,R,Q,_,f,_,_,h=>by
  refine Xc0 (iW.mono (λρ' σ' N=>?_) (YS ok (fl:=false) (λe=>by cases e) h));rintro⟨k1,k2,_⟩;exact f _ _ k2 k1
 |.region id ms (some hd),ρ,J,K,E,R,Q,_,f,_,_,h=>by
  unfold dn at h;cases F:l_ ms with
  |true=>
   simp only[F]at h;refine ZcH y (iW.mono (λρ' σ' N=>?_) (YS ok (fl:=true) (λ_=>F) h));rintro⟨k1,k2,k3⟩;exact⟨O_ (k3 F (λ_ q=>by simp at q)),f _ _ k2 k1⟩
  |false=>
   simp only[F]at h;refine ZcH y (iW.mono (λρ' σ' N=>?_) (SS ok h));rintro⟨k1,k2⟩;obtain⟨T,V⟩:=ok.gd k1;exact⟨T,f _ _ k2 V⟩
 |.iG id X hd,ρ,J,K,E,R,Q,hm,f,_,_,h=>Xeo y hm (O' ok X 0 (λρ' σ' q k=>f _ _ q k) h)
 |.seq a b,ρ,J,K,E,R,Q,hm,f,j,p,h=>by
  simp only[bL.ok,AA]at hm;refine Zep (Z1 y ok a hm.1 (Q:=eo.andThen (λρ J=>iV P GL n b.er ρ J Q) Q) (λρ' σ' hs d=>?_) (λi ρ' σ' hs d=>?_) (λρ' σ' hs d=>?_) h)
  ·exact Z1 y ok b hm.2 (λρ2 σ2 D=>f _ _ (hs.trans D)) (λi ρ2 σ2 D=>j _ _ _ (hs.trans D)) (λρ2 σ2 D=>p _ _ (hs.trans D)) d
  ·exact j i ρ' σ' (hs.mono (λx z=>by simp[bL.kY,z])) d
  ·exact p ρ' σ' (hs.mono (λx z=>by simp[bL.kY,z])) d
 |.cond c a b,ρ,J,K,E,R,Q,hm,f,j,p,h=>by
  simp only[bL.ok,AA]at hm;unfold dn at h;obtain⟨v,Y,h1,h2⟩:=ok.test h;have G:∀ρ',Yj a.kY ρ ρ'->Yj (bL.cond c a b).kY ρ ρ':=λρ' q=>q.mono (λx z=>by simp[bL.kY,z]);have H:∀ρ',Yj b.kY ρ ρ'->Yj (bL.cond c a b).kY ρ ρ':=λρ' q=>q.mono (λx z=>by simp[bL.kY,z]);refine QdQ Y (λe=>?_) (λe=>?_)
  ·exact Z1 y ok a hm.1 (λρ2 σ2 q=>f _ _ (G _ q)) (λi ρ2 σ2 q=>j _ _ _ (G _ q)) (λρ2 σ2 q=>p _ _ (G _ q)) (h1 e)
  ·exact Z1 y ok b hm.2 (λρ2 σ2 q=>f _ _ (H _ q)) (λi ρ2 σ2 q=>j _ _ _ (H _ q)) (λρ2 σ2 q=>p _ _ (H _ q)) (h2 e)
 |.join lv a,ρ,J,K,E,R,Q,hm,f,j,p,h=>by
  simp only[bL.ok,AA]at hm;have C:=SW hm.1;refine ZbV (Z1 y ok a hm.2 (K:=λρ' J=>K (mh lv (iD ρ' lv) (dt a.kY ρ)) J) (E:=E) (R:=R) (λρ' σ' hs d=>?_) (λi ρ' σ' hs d=>⟨ρ',vS.refl _,j i ρ' σ' hs d⟩) (λρ' σ' hs d=>⟨ρ',vS.refl _,p ρ' σ' hs d⟩) h);exact⟨_,Tc C hs,f _ _ (Qcr C) d⟩
 |.block id a,ρ,J,K,E,R,Q,hm,f,j,p,h=>by
  refine Ydf (Z1 y ok a hm (Q:=eo.inBlock id Q) f (λi ρ' σ' hs d=>?_) p h);show (if i=id then Q .normal ρ' σ' else Q (.exit i) ρ' σ');by_cases S:i=id
  ·subst S;rw[aE rfl];have hb:AJ i i=true:=EK i;simp only[hb]at d;exact f _ _ hs d
  ·rw[aB S];have hb:AJ i id=false:=by
    grind [fK]
   simp only[hb]at d;exact j _ _ _ hs d
 |.loop lv a,ρ,J,K,E,R,Q,hm,f,j,p,h=>by
  simp only[bL.ok,AA]at hm;have C:=SW hm.1;unfold dn at h;obtain⟨k,d⟩:=ok.loop h;have key:∀(k:Nat) (B:List I) (J:List U) (ρ1:Frame),vS (mh lv B (dt a.kY ρ)) ρ1 ->
    hold (mN A.stop k (λagain B J=>dn A a (mh lv B (dt a.kY ρ)) J (λρ' J=>again (iD ρ' lv) J) E R) B J)->iV P GL n (.loop a.er) ρ1 J Q:=by
   intro k
   induction k with
   |zero=>intro B J ρ1 _ d;exact(ok.stop d).elim
   |succ k ih=>
    intro B J ρ1 hle d;have hz:Yj a.kY ρ (mh lv B (dt a.kY ρ)):=Qcr C;have L:∀ρ',Yj a.kY (mh lv B (dt a.kY ρ)) ρ'->Yj a.kY ρ ρ':=λρ' q=>(hz.trans q).mono (λx z=>by simpa using z);refine XdR hle (Qc0 (Z1 y ok a hm.2 (Q:=eo.andThen (λρ J=>iV P GL n (.loop a.er) ρ J Q) Q) (λρ' σ' hs d=>?_) (λi ρ' σ' hs d=>?_) (λρ' σ' hs d=>?_) d))
    ·exact ih _ _ ρ' (Tc C (L _ hs)) d
    ·exact j i ρ' σ' (L _ hs) d
    ·exact p ρ' σ' (L _ hs) d
  exact key k _ J ρ (Tc C (Yj.refl _ _)) d
theorem Oz(ok:eJ P GL A hold):∀ {rs:List RV} {ρ:Frame} {J:List U} {K:List I->α},hold (zI A rs ρ J K)->∃b,px ρ J rs=some b/\hold (K b)
 |[],_,_,_,h=>⟨[],rfl,h⟩
 |.t n::r,ρ,J,K,h=>by
  obtain⟨b,h1,h2⟩:=Oz ok (rs:=r) h;exact⟨bM ρ n::b,by simp[px,sZ,h1],h2⟩
 |.c s agg n::r,ρ,J,K,h=>by
  unfold zI at h;obtain⟨v,d,h⟩:=ok.opt h;obtain⟨b,h1,h2⟩:=Oz ok (rs:=r) h;have f:sZ ρ J (.c s agg n)=some v:=by
   unfold fz at d;unfold sZ;exact d
  exact⟨v::b,by simp[px,f,h1],h2⟩
theorem Yc4(d:P.follows .mixedOrders=true)(ok:eJ P GL A hold){D:wC}(f:D.body.ok=true){xs:List I}{ret:I->List U->α}(h:hold (xq A D xs J ret)) :
  iV P GL D.n D.body.er (eH xs) J (λe ρ σ'=>(e=.normal\/e=.ret)/\∃v,iI D.gI ρ σ'=some v/\hold (ret v σ')):=by
 refine Z1 d ok D.body f (λρ' σ' _ b=>?_) (λi ρ' σ' _ b=>(ok.stop b).elim) (λρ' σ' _ b=>?_) h
 ·obtain⟨j,h1,h2⟩:=Oz ok b;simp_all [iI]
 ·obtain⟨j,h1,h2⟩:=Oz ok b;simp_all [iI]
end
end
end Go.Ah
end
section
namespace Go.Ah
abbrev gM:=∀ {b:Type},aI b->List I->List U->(I->List U->b)->b
structure my (P:Program) (GL:aw) (f:FuncId) (np:Nat) (g:gM):Prop where
 plain:Qh P f=true
 ex:∃D:wC,D.np=np/\mV P GL f D.fn/\D.body.ok=true/\∀(α:Type) (A:aI α) (xs:List I) (J:List U) (ret:I->List U->α),xs.length=np->g A xs J ret=xq A D xs J ret
def fS:dB->List (Option (List Nat))->bL×List (Option (List Nat))
 |.skip,l=>(.skip,l)
 |.region id ms hd,l=>(.region id ms hd,l)
 |.seq a b,l=>match fS a l with
  |(d,l)=>match fS b l with
   |(i,l)=>(.seq d i,l)
 |.cond c a b,l=>match fS a l.tail with
  |(d,f)=>match fS b f with
   |(i,j)=>match l with
    |some lv::_=>(.join lv (.cond c d i),j)
    |_=>(.cond c d i,j)
 |.block id a,l=>match fS a l.tail with
  |(d,f)=>match l with
   |some lv::_=>(.join lv (.block id d),f)
   |_=>(.block id d,f)
 |.loop a,l=>match fS a l.tail with
  |(d,f)=>match l with
   |some lv::_=>(.loop lv d,f)
   |_=>(.loop [] d,f)
 |.exit id,l=>(.exit id,l)
 |.scope a,l=>match fS a l with
  |(d,l)=>(.scope d,l)
 |.label n,l=>(.label n,l)
 |.ret,l=>(.ret,l)
theorem ZR:∀(m:dB) (l:List (Option (List Nat))),(fS m l).1.er=m
 |.skip,_=>rfl
 |.region ..,_=>rfl
 |.seq a b,l=>by simp only[fS,bL.er,ZR a,ZR b]
 |.cond c a b,l=>by
  simp only[fS];split<;>simp only[bL.er,ZR a,ZR b]
 |.block id a,l=>by
  simp only[fS];split<;>simp only[bL.er,ZR a]
 |.loop a,l=>by
  simp only[fS];split<;>simp only[bL.er,ZR a]
 |.exit _,_=>rfl
 |.scope a,l=>by simp only[fS,bL.er,ZR a]
 |.label _,_=>rfl
 |.ret,_=>rfl
def zr(n:Nat)(hd:List (List Nat)):Nat->List aV->List aV->wF
 |_,[],[]=>[]
 |_,[],o::c=>[(o::c,false)]
 |i,o::r,c=>match fj o.k,o.guard with
  |.call,none=>match zX n hd i&&zX n hd (i+1)with
   |true=>match c with
    |[]=>([o],true)::zr n hd (i+1) r []
    |x::c=>(x::c,false)::([o],true)::zr n hd (i+1) r []
   |false=>zr n hd (i+1) r (c++[o])
  |_,_=>zr n hd (i+1) r (c++[o])
theorem O2(n:Nat)(hd:List (List Nat)):∀(i:Nat) (l c:List aV),YI (zr n hd i l c)=c++l
 |_,[],[]=>rfl
 |_,[],o::c=>by simp[zr,YI]
 |i,o::r,c=>by
  have h1:YI (zr n hd (i+1) r (c++[o]))=c++o::r:=by rw[O2];simp
  unfold zr;split
  ·split
   ·split
    ·simp[YI,O2]
    ·simp[YI,O2]
   ·exact h1
  ·exact h1
def Y3:bL->bL
 |.region id ms (some hd)=>.iG id (zr ms.length hd 0 ms []) hd
 |.seq a b=>.seq (Y3 a) (Y3 b)
 |.cond c a b=>.cond c (Y3 a) (Y3 b)
 |.join lv a=>.join lv (Y3 a)
 |.block id a=>.block id (Y3 a)
 |.loop lv a=>.loop lv (Y3 a)
 |.scope a=>.scope (Y3 a)
 |D=>D
theorem YW:∀D:bL,(Y3 D).er=D.er
 |.region id ms (some hd)=>by simp[Y3,bL.er,O2]
 |.region id ms none=>rfl
 |.iG ..=>rfl
 |.seq a b=>by simp only[Y3,bL.er,YW a,YW b]
 |.cond c a b=>by simp only[Y3,bL.er,YW a,YW b]
 |.join lv a=>by simp only[Y3,bL.er,YW a]
 |.block id a=>by simp only[Y3,bL.er,YW a]
 |.loop lv a=>by simp only[Y3,bL.er,YW a]
 |.scope a=>by simp only[Y3,bL.er,YW a]
 |.skip=>rfl
 |.label _=>rfl
 |.exit _=>rfl
 |.ret=>rfl
def Jl(m:dB)(l:List (Option (List Nat))):bL:=match l with
 |some [k]::r=>match AJ k 999 with
  |true=>Y3 (fS m r).1
  |false=>(fS m l).1
 |_=>(fS m l).1
theorem Yde(m:dB)(l:List (Option (List Nat))):(Jl m l).er=m:=by
 unfold Jl
 grind [YW,ZR]
def eD(P:Program)(GL:aw)(np:Nat)(f:FuncId)(l:List (Option (List Nat))):Option wC:=match Vl P GL np f with
 |some F=>bif (Jl F.body l).ok&&(Qh P f&&AJ F.np np)then some ⟨np,F.n,Jl F.body l,F.gI⟩else none
 |none=>none
theorem QeV{P:Program}{GL:aw}{np:Nat}{f:FuncId}{l:List (Option (List Nat))}{g:gM}{D:wC}(b:eD P GL np f l=some D)(h:∀(d:Type) (A:aI d) (xs:List I) (J:List U) (ret:I->List U->d),xs.length=np->g A xs J ret=xq A D xs J ret):my P GL f np g:=by
 unfold eD at b;split at b
 ·rename_i F i;obtain⟨hb,b⟩:=QB b;simp only[AA]at hb;cases b;have o:=fK hb.2.2;refine⟨hb.2.1,_,rfl,?_,hb.1,h⟩;have j:wC.fn ⟨np,F.n,Jl F.body l,F.gI⟩=F:=by
   cases F<;>simp_all [wC.fn,Yde]
  rw[j];exact Ydl i
 ·cases b
end Go.Ah
end
section
namespace Go.Ah
theorem Qp{J:List U}{b:Nat}{x:U}(h:J[b]?=some x):ai J b=x:=by
 induction J generalizing b with
 |nil=>simp at h
 |cons y J d=>cases b<;>simp_all [ai]
theorem O7{J:List U}{b:Nat}(h:b<J.length):J[b]?=some (ai J b):=by
 simp_all [Qp]
def Br(b:List Nat)(n:Nat):Nat->List U->List U
 |_,[]=>[]
 |i,x::l=>(bif ub i b then x.dE (I.cy (og n))else .dead)::Br b n (i+1) l
def je(b:List Nat)(J:List U):List U:=Br b J.length 0 J
theorem ZbN(b:List Nat)(n:Nat):∀(l:List U) (i j:Nat),(Br b n i l)[j]?=(l[j]?).map λx=>bif ub (i+j) b then x.dE (I.cy (og n))else .dead
 |[],i,j=>by simp[Br]
 |x::l,i,0=>by simp[Br]
 |x::l,i,j+1=>by
  simp only[Br,List.getElem?_cons_succ];rw[ZbN b n l (i+1) j,show i+1+j=i+(j+1) by omega]
theorem PD(b:List Nat)(J:List U)(j:Nat):(je b J)[j]?=(J[j]?).map λx=>bif ub j b then x.dE (I.cy (og J.length))else .dead:=by
 rw[je,ZbN,Al]
theorem YcP(F:Nat->U):∀(keys:List Nat) (h:Hp) (b:Nat),cx h (keys.map λb=>(b,F b)) b=if b∈keys then some (F b)else h b
 |[],h,b=>by simp[cx]
 |x::keys,h,b=>by
  simp only[B7,cx];rw[YcP F keys]
  grind [dQ]
section
variable {P:Program} {GL:aw}
theorem Xa5{f:FuncId}{F:vT}(ok:mV P GL f F){xs Bh:List I}(hn:xs.length=F.np)(J:List U)(N ids:List Nat)(Aq:∀b∈N,b∈ids)(qZ:∀b∈ids,b<J.length){v:I}{k:Nat}{τ τ':List U}
 (AP:gZ (og J.length) xs=Bh)(hτ:je N J=τ)(h:iV P GL F.n F.body (eH Bh) τ (λe ρ s=>(e=.normal\/e=.ret)/\iI F.gI ρ s=some v/\s=τ'))(hk:τ'.length=J.length+k) :
  im P GL f xs (hp J) (v.cy (eY ids J.length k)) ids ((N++ED J.length k).map λb=>(b,(ai τ' b).dE (I.cy (eY ids J.length k)))):=by
 intro w0 L g hq w vs r hx cZ dQ;subst AP;subst hτ
 let dm:CB:=⟨0,0,0,true,0⟩
 let Q:Own:=λb=>if b<J.length then some ((g.c b).getD dm)else none
 let lb:List Nat:=N.filterMap λb=>match g.c b,J[b]? with
  |some z,some x=>bif x.live && !z.cI then some z.aD else none
  |_,_=>none
 have lT:∀b∈ids,∃z,g.c b=some z/\Q b=some z/\hq b=J[b]?:=by
  intro b hb;have A:=qZ b hb;have C:hq b=J[b]?:=cZ b hb;obtain⟨z,vx⟩:=r.jb b J[b] (by rw[C];simp[A]);exact⟨z,vx,by simp only[Q];rw[aE A,vx];rfl,C⟩
 have hlb:∀b∈N,∀z y,g.c b=some z->J[b]?=some y->y.live=true->z.cI=false->z.aD∈lb:=by
  intro b hb z y vx hy A E;simp only[lb,FY];exact⟨b,hb,by rw[vx,hy];simp[A,E]⟩
 have bZ:∀b x,(je N J)[b]?=some x->b<J.length:=by
  intro b x e;rw[PD]at e;cases hs:J[b]? with
  |none=>rw[hs]at e;cases e
  |some y=>exact(eS hs).1
 have uY:∀b x,(je N J)[b]?=some x->x.live=true->b∈N/\∃y,J[b]?=some y/\x=y.dE (I.cy (og J.length)):=by
  intro b x e A;rw[PD]at e;cases hs:J[b]? with
  |none=>rw[hs]at e;cases e
  |some y=>
   rw[hs]at e;simp only[E8,E7]at e;cases hi:ub b N with
   |false=>rw[hi]at e;subst e;cases A
   |true=>rw[hi]at e;exact⟨Jm.1 hi,y,rfl,e.symm⟩
 have vH:∀x u,g.den x u->Den g.M Q (x.cy (og J.length)) u:=by
  intro x u d;refine d.cy (λb B z k1 k2=>?_);unfold og at k1;obtain⟨k0,k1⟩:=QB k1;cases k1;have A:b<J.length:=iq k0;simp only[Q];rw[aE A,k2];rfl
 have r0:bu GL w ⟨lb,g.M⟩ ⟨g.M,Q⟩ (hp (je N J)) w:={
  keeps:=i6.refl _ _,aZ:=r.aZ,src:=λb o e=>.inl e,cr:=r.cr
  dU:=λb e=>by
   have e':(je N J)[b]?=none:=e;rw[PD]at e';show Q b=none;simp only[Q];rw[aB];intro hb;simp[hb]at e'
  jb:=λb aD e=>by
   have:=bZ b aD e;exact⟨_,by show Q b=_;simp only[Q];rw[aE this]⟩
  own:=λb aD z e A ec E=>by
   obtain⟨hb,y,hy,rfl⟩:=uY b aD e A;obtain⟨yZ,D,T,X⟩:=lT b (Aq b hb);have G:Q b=some z:=ec;rw[T]at G;cases G;rw[U.bQ]at A;obtain⟨p1,p2,o,p3,p4⟩:=r.own b y _ (by rw[X];exact hy) A D E;exact⟨p1,.inl (hlb b hb _ y D hy A E),o,p3,p4.dE (p:=λ_=>True) (λx u _ d=>vH x u d) (U.all_true _)⟩
  bd:=λb aD z e A ec E=>by
   obtain⟨hb,y,hy,rfl⟩:=uY b aD e A;obtain⟨yZ,D,T,X⟩:=lT b (Aq b hb);have G:Q b=some z:=ec;rw[T]at G;cases G;rw[U.bQ]at A;have:=r.bd b y _ (by rw[X];exact hy) A D E;subst this;rfl
  inj:=λb B aD blk' z V C K l1 l2 c1 c2 v1 v2 iE=>by
   obtain⟨hb,y,hy,rfl⟩:=uY b aD C l1;obtain⟨S,y',hy',rfl⟩:=uY B blk' K l2;obtain⟨yZ,D,T,X⟩:=lT b (Aq b hb);obtain⟨abq,q1',q2',q3'⟩:=lT B (Aq B S);have wY:Q b=some z:=c1;have Y:Q B=some V:=c2;rw[T]at wY;cases wY;rw[q2']at Y;cases Y;rw[U.bQ]at l1 l2;exact r.inj b B y y' _ _ (by rw[X];exact hy) (by rw[q3'];exact hy') l1 l2 D q1' v1 v2 iE }
 have vJ:eh ⟨g.M,Q⟩ (gZ (og J.length) xs) vs:=by
  refine eh.ma (by rw[YA];exact hx.length) (λi y u C K=>?_);obtain⟨x,D,rfl⟩:=HM C;exact vH x u (hx.get i x u D K)
 obtain⟨fn,c,h1,h2,h3,h4,h5⟩:=ok.ok;have d0:=Z7 vJ (n:=F.n) (by rw[YA,hn];exact ok.np);refine calls_of_wp h1 h2 ?_;rw[h3];refine wp_mono (h c h4 w ⟨lb,g.M⟩ _ _ w r0 d0) (λe a' w' A=>?_);have fin:∀ H ρ σ',(⟨g.M,Q⟩:Gm).Le H->bu GL w ⟨lb,g.M⟩ H (hp σ') w'->dc F.n H ρ a'->(iI F.gI ρ σ'=some v/\σ'=τ')->∃ u,(results fn a'.tmps).run P w'=.ok u w'/\(∃ u',Fm u=.returned u'/\∃ g2,g.Le g2 /\
   bu GL w0 L g2 (cx hq ((N ++ ED J.length k).map λb=>(b,(ai τ' b).dE (I.cy (eY ids J.length k))))) w'/\g2.den (v.cy (eY ids J.length k)) u'):=by
  rintro H ρ σ' hle hr hd ⟨pe,rfl⟩;obtain⟨u,k1,k2⟩:=Ii hr hd h5 pe
  let keys:=N++ED J.length k
  have uW:∀b,b∈keys↔b∈N\/(J.length<=b/\b<J.length+k):=by
   intro b;simp only[keys,Bd,List.mem_range'_1]
  let R:Own:=λb=>if b∈keys then H.c b else g.c b
  have jd:∀b∈keys,b<σ'.length:=by
   intro b hb;rcases (uW b).1 hb with q|q
   ·have:=qZ b (Aq b q);omega
   ·omega
  have WL:∀b z,g.c b=some z->R b=some z:=by
   intro b z e;simp only[R];split
   ·rename_i hb;rcases (uW b).1 hb with q|q
    ·obtain⟨yZ,D,T,X⟩:=lT b (Aq b q);rw[D]at e;cases e;exact hle.c b _ T
    ·have hn:hq b=none:=by
      have:=dQ (b,_) (By.2 ⟨b,hb,rfl⟩);rw[this];simp[hp];omega
     rw[r.dU b hn]at e;cases e
   ·exact e
  have CF:∀x u,H.den x u->Den H.M R (x.cy (eY ids J.length k)) u:=by
   intro x u d;refine d.cy (λb B z C K=>?_);unfold eY at C;obtain⟨e0,C⟩:=QB C;cases C;by_cases hb:b∈keys
   ·simp only[R];rw[aE hb];exact K
   ·simp only[EA,AA]at e0;rcases e0 with q|⟨D,T⟩
    ·obtain⟨yZ,p1,p2,p3⟩:=lT b (Ew.1 q);have:=hle.c b yZ p2;rw[K]at this;cases this;exact WL b _ p1
    ·have:=iq D;have:b<J.length+k:=iq T;exact(hb ((uW b).2 (.inr (by omega)))).elim
  have hF:∀b,cx hq (keys.map λb=>(b,(ai σ' b).dE (I.cy (eY ids J.length k)))) b=if b∈keys then some ((ai σ' b).dE (I.cy (eY ids J.length k)))else hq b:=YcP _ keys hq
  have xR:∀q∈lb,∃b∈N,∃z y,g.c b=some z/\hq b=some y/\y.live=true/\z.cI=false/\q=z.aD:=by
   intro q Sg;simp only[lb,FY]at Sg;obtain⟨b,hb,e⟩:=Sg;obtain⟨yZ,D,_,X⟩:=lT b (Aq b hb);rw[D]at e;cases hs:J[b]? with
   |none=>rw[hs]at e;cases e
   |some y=>
    rw[hs]at e;obtain⟨C,K⟩:=QB e;simp only[AA,B9]at C;cases K;exact⟨b,hb,yZ,y,D,by rw[X];exact hs,C.1,C.2,rfl⟩
  have D7:∀q∈lb,g.M q=none/\(q∈L.l\/w0.heap.size<=q):=by
   intro q Sg;obtain⟨b,hb,z,y,D,T,X,q4,rfl⟩:=xR q Sg;obtain⟨p1,p2,_⟩:=r.own b y z T X D q4;exact⟨p1,p2⟩
  have o_:∀b aD z,b∉keys->hq b=some aD->aD.live=true->g.c b=some z->z.cI=false->z.aD∉lb:=by
   intro b aD z hb e A ec E ct;obtain⟨b2,j7,cb2,y,D,T,X,q4,q5⟩:=xR _ ct;have:=r.inj b b2 aD y z cb2 e T A X ec D E q4 q5;subst this;exact hb ((uW b).2 (.inl j7))
  have ei:=r.keeps.size;have vw:∀b,b∈keys->R b=H.c b:=λb hb=>by simp only[R];rw[aE hb]
  have tQ:∀b,b∉keys->R b=g.c b:=λb hb=>by simp only[R];rw[aB hb]
  have rL:∀ b,b∈keys->hp σ' b=some (ai σ' b):=λb hb=>O7 (jd b hb);refine⟨u,k1,u,rfl,⟨H.M,R⟩,⟨hle.m,λb z e=>WL b z e⟩,?_,CF v u k2⟩;exact {
   keeps:=r.keeps.trans' hr.keeps.os hr.keeps.tape hr.keeps.output hr.keeps.size (λj hj tW=>hr.keeps.block j (by omega) (λct=>by
    rcases (D7 j ct).2 with q|q
    ·exact tW q
    ·omega))
   aZ:=hr.aZ
   src:=λb o e=>by
    rcases hr.src b o e with q|q|q
    ·exact r.src b o q
    ·exact .inr (.inl (by omega))
    ·rcases (D7 b q).2 with q|q
     ·exact .inr (.inr q)
     ·exact .inr (.inl q)
   cr:=λp iu=>(r.cr p iu).mono hle.m (fW.refl _)
   dU:=λb e=>by
    rw[hF]at e;split at e
    ·cases e
    ·rename_i hb;show R b=none;rw[tQ b hb];exact r.dU b e
   jb:=λb aD e=>by
    rw[hF]at e;show ∃z,R b=some z;split at e
    ·rename_i hb;rw[vw b hb];exact hr.jb b _ (rL b hb)
    ·rename_i hb;rw[tQ b hb];exact r.jb b aD e
   own:=λb aD z e A ec E=>by
    rw[hF]at e;have G:R b=some z:=ec;split at e
    ·rename_i hb;cases e;rw[U.bQ]at A;rw[vw b hb]at G;obtain⟨p1,p2,o,p3,p4⟩:=hr.own b _ z (rL b hb) A G E;refine⟨p1,?_,o,p3,p4.dE (p:=λ_=>True) (λx u _ d=>CF x u d) (U.all_true _)⟩;rcases p2 with q|q
     ·exact(D7 _ q).2
     ·exact .inr (by omega)
    ·rename_i hb;rw[tQ b hb]at G;obtain⟨p1,p2,o,p3,p4⟩:=r.own b aD z e A G E;have Ay:=r.dX e A G E;have pU:=o_ b aD z hb e A G E;refine⟨?_,p2,o,by rw[hr.keeps.block _ Ay pU];exact p3,p4.mono hle.m (λb z e=>WL b z e)⟩;show H.M z.aD=none;cases hm:H.M z.aD with
     |none=>rfl
     |some x=>
      rcases hr.src _ _ hm with q|q|q
      ·have q:g.M z.aD=some x:=q;rw[p1]at q;cases q
      ·omega
      ·exact(pU q).elim
   bd:=λb aD z e A ec E=>by
    rw[hF]at e;have G:R b=some z:=ec;split at e
    ·rename_i hb;cases e;rw[U.bQ]at A;rw[vw b hb]at G;rw[hr.bd b _ z (rL b hb) A G E];rfl
    ·rename_i hb;rw[tQ b hb]at G;exact r.bd b aD z e A G E
   inj:=λb B aD blk' z V C K l1 l2 c1 c2 v1 v2 iE=>by
    rw[hF]at C K;have wY:R b=some z:=c1;have Y:R B=some V:=c2;have BZ:∀b B blk' z V,b∈keys->B∉keys->(ai σ' b).live=true->H.c b=some z->z.cI=false->hq B=some blk'->blk'.live=true->g.c B=some V->V.cI=false->z.aD=V.aD->False:=by
     intro b B blk' z V hb S A hc E e' lU we pW he;obtain⟨_,p2,_⟩:=hr.own b _ z (rL b hb) A hc E;have Ay:=r.dX e' lU we pW;have pU:=o_ B blk' V S e' lU we pW;rcases p2 with q|q
     ·rw[he]at q;exact pU q
     ·omega
    split at C
    ·rename_i hb;cases C;rw[U.bQ]at l1;rw[vw b hb]at wY;split at K
     ·rename_i S;cases K;rw[U.bQ]at l2;rw[vw B S]at Y;exact hr.inj b B _ _ z V (rL b hb) (rL B S) l1 l2 wY Y v1 v2 iE
     ·rename_i S;rw[tQ B S]at Y;exact(BZ b B blk' z V hb S l1 wY v1 K l2 Y v2 iE).elim
    ·rename_i hb;rw[tQ b hb]at wY;split at K
     ·rename_i S;cases K;rw[U.bQ]at l2;rw[vw B S]at Y;exact(BZ B b aD V z S hb l2 Y v2 C l1 wY v1 iE.symm).elim
     ·rename_i S;rw[tQ B S]at Y;exact r.inj b B aD blk' z V C K l1 l2 wY Y v1 v2 iE }
 cases e with
 |normal=>obtain⟨H,ρ,J,k1,k2,k3,k4⟩:=A;exact⟨k3.defers,fin H ρ J k1 k2 k3 k4.2⟩
 |ret=>obtain⟨H,ρ,J,k1,k2,k3,k4⟩:=A;exact⟨k3.defers,fin H ρ J k1 k2 k3 k4.2⟩
 |exit id=>obtain⟨H,ρ,J,k1,k2,k3,k4⟩:=A;rcases k4.1 with q|q<;>cases q
 |_=>exact A.elim
end
end Go.Ah
end
section
namespace Go.Ah
def W(P:Program)(GL:aw):aI Prop where
 stop:=False
 call k xs J K:=∃R,ou P GL k xs J R/\∀v σ',R v σ'->K v σ'
 dT k xs J K:=∃v rd up σ',aG P GL k xs (hp J) v rd up/\h_ J up=some σ'/\K v (rd,up.map (·.1)) σ'
 test v a b:=match v with
  |.bool c=>(c=true->a)/\(c=false->b)
  |_=>False
 loop F d J:=∃n,mN False n F d J
theorem zH(P:Program)(GL:aw):eJ P GL (W P GL) (λp=>p) where
 stop:=λh=>h
 call:=λh=>h
 dT:=λh=>h
 test:=λ{v a b} h=>by
  simp only[W]at h
  grind
 loop:=λh=>h
variable{up:List (Nat×U)}
variable{k:MK}
variable{J bs σ':List U}
variable{v y:I}
variable{f:FuncId}
variable{xs ys:List I}
section
variable {P:Program} {GL:aw}
variable{g:gM}
variable{np:Nat}
theorem my.BD(d:P.follows .mixedOrders=true){b:Type}{A:aI b}{hold:b->Prop}(ok:eJ P GL A hold)(hg:my P GL f np g)(hn:xs.length=np){ret:I->List U->b}(h:hold (g A xs J ret)) :
  ∃F,mV P GL f F/\F.np=np/\iV P GL F.n F.body (eH xs) J (λe i σ'=>(e=.normal\/e=.ret)/\∃v,iI F.gI i σ'=some v/\hold (ret v σ')):=by
 obtain⟨D,h1,h2,h3,h4⟩:=hg.ex;rw[h4 b A xs J ret hn]at h;exact⟨D.fn,h2,h1,Yc4 d ok h3 h⟩
theorem Xa(b:P.follows .mixedOrders=true)(hg:my P GL f np g)(hn:xs.length=np)(hv:v.ro=true)(h:g (W P GL) xs [] (λd _=>d=v)):dh P GL f xs v:=by
 obtain⟨F,h1,h2,h3⟩:=hg.BD b (zH P GL) hn h;refine Xa9 h1 (hn.trans h2.symm) hv (h3.mono λe i J k=>?_);simp_all
theorem Qc7(b:P.follows .mixedOrders=true)(hg:my P GL f np g)(hn:xs.length=np)(h:g (W P GL) xs [] (λd J=>d=v/\J=bs)):dH P GL f xs v bs:=by
 obtain⟨F,h1,h2,h3⟩:=hg.BD b (zH P GL) hn h;refine Xa8 h1 (hn.trans h2.symm) (h3.mono λe i J k=>?_)
 grind
def DH(J:List U)(v:I):Option I:=match v with
 |.bw b=>match Qx J 1000 b with
  |some (ys,_)=>some (.bw ys)
  |none=>none
 |v=>match Qx J 1000 [v]with
  |some ([y],_)=>some y
  |_=>none
theorem Qew(hy:DH J v=some y){w0:World}{L:Ln}{g:Gm}{w:World}{M2:Nat->Option Obj}(r:bu GL w0 L g (hp J) w)(qk:wB g (hp J) w M2){u:Value}(hd:g.den v u):Den M2 bE y u:=by
 unfold DH at hy;split at hy
 ·rename_i p;split at hy
  ·rename_i ys rd hb;cases hy;have b:=Q6 _ _ _ _ hb rd (λ_ q=>q);cases hd with
   |bw _ _ us hs hd=>
    have o:=b GL w0 L g (hp J) w M2 r qk (λ_ _=>rfl) us.toList (eh.ma (by simp[hs]) (λi x v d j=>hd i x v d (by simpa using j)));exact .bw _ _ _ (by have:=o.length;simpa using this.symm) (λi x v d j=>o.get i x v d (by simpa using j))
  ·cases hy
 ·split at hy
  ·rename_i s rd hb;cases hy;have b:=Q6 _ _ _ _ hb rd (λ_ q=>q);exact(b GL w0 L g (hp J) w M2 r qk (λ_ _=>rfl) [u] ⟨hd,trivial⟩).1
  ·cases hy
theorem TG(h:dH P GL f xs v bs)(hy:DH bs v=some y):dh P GL f xs y:=by
 intro w M p s x z;refine(h w M p s x z).mono ?_;rintro e i ⟨u,he,j,hle,r,hd⟩
 let M2:Nat->Option Obj:=λb=>if b<w.heap.size then j.M b else i.heap[b]?
 have qk:wB j (hp bs) i M2:=by
  refine⟨λb o e=>?_,λb aD A o B C e3 D F=>?_⟩
  ·show (if b<w.heap.size then j.M b else i.heap[b]?)=some o;split
   ·exact e
   ·exact r.aZ b o e
  ·obtain⟨_,G,_⟩:=r.own b aD A B C e3 D
   grind
 have E:=Qew hy r qk hd;refine⟨u,he,r.keeps,M2,λb o e=>qk.1 b o (hle b o e),λb o e=>?_,λb o e=>?_,E⟩
 ·have d:(if b<w.heap.size then j.M b else i.heap[b]?)=some o:=e;split at d
  ·exact r.aZ b o d
  ·exact d
 ·have d:(if b<w.heap.size then j.M b else i.heap[b]?)=some o:=e;split at d
  ·rcases r.src b o d with q|q|q<;>simp_all
  ·exact .inr (by omega)
theorem Uy(b:P.follows .mixedOrders=true)(hg:my P GL f np g)(hn:xs.length=np)(h:∃v bs,DH bs v=some y/\g (W P GL) xs [] (λd J=>d=v/\J=bs)):dh P GL f xs y:=by
 obtain⟨v,bs,h1,h2⟩:=h;exact TG (Qc7 b hg hn h2) h1
theorem Za9{rd:List Nat}(h:aG P GL k xs (hp J) v rd up)(hu:h_ J up=some σ'):ou P GL k xs J (λd s=>d=v/\s=σ'):=by
 intro o os i j L g w a r p;have:=h o os i j L g (hp J) w a r p (λ_ _=>rfl) (λ_ _=>rfl);rw[Ij _ _ _ hu]at this;generalize (execOp a.eval o).run P w=res at this;cases res with
 |ok x z=>
  cases x with
  |value u=>obtain⟨b,k1,k2,k3⟩:=this;exact⟨b,v,σ',⟨rfl,rfl⟩,k1,k2,k3⟩
  |skip=>obtain⟨b,k1,k2,k3⟩:=this;exact⟨b,σ',⟨k3.symm,rfl⟩,k1,k2⟩
  |enter f args=>
   refine Calls.mono this ?_
   grind
  |_=>exact this.elim
 |_=>exact this.elim
theorem YJ(hc:Xt k xs=some (f,ys))(b:Qh P f=true){rd:List Nat}(h:im P GL f ys (hp J) v rd up):aG P GL k xs (hp J) v rd up:=by
 unfold Xt at hc
 grind [Qec,XdH,Xda]
variable{K:KT}
theorem Y5(hc:Xt k xs=some (f,ys))(b:Qh P f=true){rd:List Nat}(h:im P GL f ys (hp J) v rd up)(hu:h_ J up=some σ')(d:K v σ'):(W P GL).call k xs J K:=
 ⟨_,Za9 (YJ hc b h) hu,by rintro _ _ ⟨rfl,rfl⟩;exact d⟩
theorem JC(hc:Xt k xs=some (f,ys))(b:Qh P f=true){rd:List Nat}(h:im P GL f ys (hp J) v rd up)(hu:h_ J up=some σ'){K:I->List Nat×List Nat->List U->Prop}(d:K v (rd,up.map (·.1)) σ'):(W P GL).dT k xs J K:=
 ⟨v,rd,up,σ',YJ hc b h,hu,d⟩
theorem Xe(b:P.follows .mixedOrders=true)(hc:Xt k xs=some (f,ys))(hg:my P GL f np g)(hn:ys.length=np)(h:g (W P GL) ys J K):(W P GL).call k xs J K:=by
 obtain⟨F,h1,h2,h3⟩:=hg.BD b (zH P GL) hn h;exact⟨K,ZbP hc hg.plain h1 (hn.trans h2.symm) h3,λ_ _ q=>q⟩
theorem Qm(h:dh P GL f ys v)(hc:Xt k xs=some (f,ys))(b:Qh P f=true)(km:fV ys=true)(d:K v J):(W P GL).call k xs J K:=
 Y5 hc b (h.here km (hp J)) (Yd J) d
theorem Yo(h:dh P GL f ys v)(hc:Xt k xs=some (f,ys))(b:Qh P f=true)(km:fV ys=true){K:I->List Nat×List Nat->List U->Prop}(d:K v ([],[]) J):(W P GL).dT k xs J K:=
 JC hc b (h.here km (hp J)) (Yd J) d
theorem ZH{zs:List I}{rd:List Nat}(h:dh P GL f zs v)(hc:Xt k xs=some (f,ys))(b:Qh P f=true)(hb:Qx J 1000 ys=some (zs,rd))(hv:v.flat=true)(d:K v J):(W P GL).call k xs J K:=
 Y5 hc b (h.rz (Q6 _ _ _ _ hb _ (λ_ q=>q)) hv) (Yd J) d
theorem Zh{ι:Type}(o:ι->n_)(b:ι->Nat){F:(n_)->n_}(p:ι){vs:List I}(h0:o p vs J)
 (round:∀i vs J again,o i vs J->(∀j d σ',b j<b i->o j d σ'->again d σ')->F again vs J):(W P GL).loop F vs J:=by
 have key:∀(m:Nat) (i:ι) (vs:List I) (J:List U),b i<m->o i vs J->mN False m F vs J:=by
  intro m
  induction m with
  |zero=>intro i vs J h;omega
  |succ m r=>
   intro i vs J h s;exact round i vs J _ s (λj d σ' x w=>r j d σ' (by omega) w)
 exact⟨_,key (b p+1) p vs J (by omega) h0⟩
end
section
variable {P:Program} {GL:aw}
theorem HR(c:Bool)(a b:Prop):(W P GL).test (.bool c) a b=((c=true->a)/\(c=false->b)):=rfl
end
section
variable {α:Type} (A:aI α)
theorem Ic(v:I)(rd:List Nat)(K:I->α):A.rd (.ok v rd []) K=K v:=rfl
theorem Na(v:I)(K:I->α):A.pu (.ok v [] []) K=K v:=rfl
theorem UL(v:I)(rd:List Nat)(up:List (Nat×U))(J:List U)(K:I->List U->α):A.wr (.ok v rd up) J K=A.opt (h_ J up) (K v):=by
 show (match h_ J up with|some σ'=>K v σ'|none=>A.stop)=_;unfold aI.opt;cases h_ J up<;>rfl
theorem QeQ(v:I)(rd:List Nat)(up:List (Nat×U))(J:List U)(K:I->List Nat×List Nat->List U->α):A.dr (.ok v rd up) J K=A.opt (h_ J up) (K v (rd,up.map (·.1))):=by
 show (match h_ J up with|some σ'=>K v _ σ'|none=>A.stop)=_;unfold aI.opt;cases h_ J up<;>rfl
theorem YcT{β:Type}(v:β)(K:β->α):A.opt (some v) K=K v:=rfl
theorem Zex(k:α):A.gd true k=k:=rfl
end
theorem X7{n:Nat}:∀ {a b:List Nat},Xx n (a++b)=true->Xx n a=true/\Xx n b=true
 |[],_,h=>⟨rfl,h⟩
 |x::a,b,h=>by
  simp only[List.cons_append,Xx,AA]at h;obtain⟨h1,h2⟩:=X7 h.2;exact⟨by simp[Xx,h.1,h1],h2⟩
def N4{d:Type}(stop:d)(v:I)(a b:d):d:=match v with
 |.bool true=>a
 |.bool false=>b
 |_=>stop
abbrev CG:=FuncId->List I->List U->Option (I×List U)
def ZcJ(b:CG)(f:FuncId)(ys:List I)(J:List U):Option (I × List U):=bif Xx J.length (i3 ys)then (match b f (gZ (og J.length) ys) (XO J)with
 | some (v,σ')=>(match Dh J.length σ' with
  |some news=>some (v,news)
  | none=>none)
 | none=>none)else none
def ZeN:U->List Nat
 |.box row=>i3 row
 |.rows _ rs=>rs.flatMap i3
 |_=>[]
def J0(J:List U):Nat->List Nat->List Nat->List Nat
 |0,_,seen=>seen
 |_+1,[],seen=>seen
 |n+1,b::r,seen=>bif ub b seen then J0 J n r seen else J0 J n (ZeN (ai J b)++r) (b::seen)
def J2(i:CG)(f:FuncId)(ys:List I)(J:List U)(ids:List Nat):aL:=bif Xx J.length (i3 ys) && Xx J.length ids then (match i f (gZ (og J.length) ys) (je ids J)with
 |some (v,d)=>bif BY J.length d.length then .ok (v.cy (eY ids J.length (d.length-J.length))) ids ((ids++ED J.length (d.length-J.length)).map λb=>(b,(ai d b).dE (I.cy (eY ids J.length (d.length-J.length)))))else .stop
 | none=>.stop)else .stop
def UH(b:CG)(k:MK)(xs:List I)(J:List U):aL:=match Xt k xs with
 |none=>.stop
 | some (f,ys)=>bif fV ys then (match b f ys []with
   |some (v,bs)=>bif v.ro then .ok v [] []else .ok (v.cy (ZG J.length)) [] (YB J.length (Zx J.length bs))
   | none=>.stop)
  else match ZcJ b f ys J with
  |some (v,news)=>bif v.ro then .ok (v.cy (eY (i3 ys) J.length 0)) (i3 ys) []else .ok (v.cy (eY (i3 ys) J.length news.length)) (i3 ys) (YB J.length (news.map (U.dE (I.cy (eY (i3 ys) J.length news.length)))))
  |none=>match Qx J 1000 ys with
   | some (d,rd)=>(match b f d []with
    |some (v,bs)=>bif v.flat&&v.ro then .ok v rd []else bif v.dF&&zF bs then .ok (v.cy (ZG J.length)) rd (YB J.length (Zx J.length bs))else J2 b f ys J (J0 J 1000 (i3 ys) [])
    | none=>J2 b f ys J (J0 J 1000 (i3 ys) []))
   |none=>J2 b f ys J (J0 J 1000 (i3 ys) [])
def Cl(much:Nat)(b:CG):aI (Option (I×List U)) where
 stop:=none
 call k xs J K:=match Xt k xs with
  |some (f,ys)=>match b f ys J with
   |some (v,σ')=>K v σ'
   |none=>none
  |none=>none
 dT k xs J K:=match UH b k xs J with
  |.ok v rd up=>match h_ J up with
   |some σ'=>K v (rd,up.map (·.1)) σ'
   |none=>none
  |.stop=>none
 test:=N4 none
 loop F d J:=mN none much F d J
variable{G:Nat->Option (Nat×gM)}
section
variable {P:Program} {GL:aw}
def qE(P:Program)(GL:aw)(d:CG):Prop:=∀f xs J v σ',d f xs J=some (v,σ')->Qh P f=true/\(∀k ys,Xt k ys=some (f,xs)->ou P GL k ys J (λb s=>b=v/\s=σ')) /\
 (J=[]->dH P GL f xs v σ'/\(v.ro=true->dh P GL f xs v)) /\
 (fV xs=false->∃F,mV P GL f F/\F.np=xs.length/\iV P GL F.n F.body (eH xs) J (λe i s=>(e=.normal\/e=.ret)/\∃b,iI F.gI i s=some b/\b=v/\s=σ'))
variable{cg:CG}
theorem qE.u7(h:qE P GL cg)(hc:cg f xs []=some (v,bs)):dH P GL f xs v bs:=((h f xs [] v bs hc).2.2.1 rfl).1
theorem qE.CT(h:qE P GL cg)(hc:cg f xs []=some (v,bs))(hv:v.ro=true):dh P GL f xs v:=((h f xs [] v bs hc).2.2.1 rfl).2 hv
theorem Zbm{F:vT}(i:Qh P f=true)(h1:mV P GL f F)(h2:F.np=xs.length)(h3:iV P GL F.n F.body (eH xs) J (λe d s=>(e=.normal\/e=.ret)/\∃b,iI F.gI d s=some b/\b=v/\s=σ')) :
  Qh P f=true/\(∀k ys,Xt k ys=some (f,xs)->ou P GL k ys J (λb s=>b=v/\s=σ'))/\(J=[]->dH P GL f xs v σ'/\(v.ro=true->dh P GL f xs v)) /\
  (fV xs=false->∃F,mV P GL f F/\F.np=xs.length/\iV P GL F.n F.body (eH xs) J (λe d s=>(e=.normal\/e=.ret)/\∃b,iI F.gI d s=some b/\b=v/\s=σ')):=by
 refine⟨i,λk ys j=>ZbP j i h1 h2.symm h3,λhσ=>?_,λ_=>⟨F,h1,h2,h3⟩⟩;subst hσ;refine⟨Xa8 h1 h2.symm (h3.mono λe d s k=>?_),λo=>Xa9 h1 h2.symm o (h3.mono λe d s k=>?_)⟩
 ·obtain⟨k1,b,k2,rfl,rfl⟩:=k;exact⟨k1,k2,rfl⟩
 ·obtain⟨k1,b,k2,rfl,rfl⟩:=k;exact⟨k1,k2⟩
mutual
theorem I.me {n:Nat}:∀ {x:I},Xx n x.ids=true->(x.cy (og n)).ro=true->x.ro=true
 |.ak b j,h,k=>by
  grind [I.ids,Xx,I.cy,og]
 |.ptr b i j,h,k=>by
  grind [I.ids,Xx,I.cy,og]
 |.sl b o l e,h,k=>by
  grind [I.ids,Xx,I.cy,og]
 |.map b,h,k=>by
  grind [I.ids,Xx,I.cy,og]
 |.iter b,h,k=>by
  grind [I.ids,Xx,I.cy,og]
 |.func fn xs ys,h,k=>by
  simp only[I.ids]at h
  obtain⟨a,b⟩:=X7 h
  simp only[I.cy,I.ro,AA]at k ⊢
  exact⟨QZ a k.1,QZ b k.2⟩
 |.iface t v,h,k=>I.me (x:=v) h k
 |.agg cs,h,k=>QZ (xs:=cs) h k
 |.bw cs,h,k=>QZ (xs:=cs) h k
 |.when cs x,h,k=>I.me (x:=x) h k
 |.aP,_,_=>rfl
 |.bool _,_,_=>rfl
 |.int _ _,_,_=>rfl
 |.str _,_,_=>rfl
 |.dq,_,_=>rfl
 |.al _ _,_,_=>rfl
 |.aq,_,_=>rfl
 |.cX,_,_=>rfl
 |.aX _ _ _ _,_,_=>rfl
 |.fI _,_,_=>rfl
 |.cG,_,_=>rfl
 |.bH,_,_=>rfl
 |.dp,_,_=>rfl
theorem QZ {n:Nat}:∀ {xs:List I},Xx n (i3 xs)=true->fV (gZ (og n) xs)=true->fV xs=true
 |[],_,_=>rfl
 |x::xs,h,k=>by
  simp only[i3]at h
  obtain⟨a,b⟩:=X7 h
  simp only[gZ,fV,AA]at k ⊢
  exact⟨I.me a k.1,QZ b k.2⟩
end
theorem XaX{n:Nat}(h:Xx n (i3 xs)=true)(k:fV xs=false):fV (gZ (og n) xs)=false:=by
 grind [QZ]
theorem S7(h:qE P GL cg){ids:List Nat}(hc:Xt k xs=some (f,ys))(b:fV ys=false){rd:List Nat}(e:J2 cg f ys J ids=.ok v rd up):aG P GL k xs (hp J) v rd up:=by
 unfold J2 at e
 replace e:=Xi e
 obtain⟨hb,e⟩:=e;simp only[AA]at hb;split at e
 ·rename_i r w d
  replace e:=Xi e
  obtain⟨hle,e⟩:=e;obtain⟨i,_,_,j⟩:=h f _ _ _ _ d;obtain⟨F,o,f2,f3⟩:=j (XaX hb.1 b);cases e;have p:ys.length=F.np:=by rw[f2,YA]
  have:=iq hle;exact YJ hc i (Xa5 o p J ids ids (λ_ q=>q) (PF hb.2) rfl rfl (f3.mono λe x s k=>by
   grind) (by omega))
 ·cases e
theorem Xdo(h:qE P GL cg){rd:List Nat}(e:UH cg k xs J=.ok v rd up):aG P GL k xs (hp J) v rd up:=by
 unfold UH at e;split at e
 ·cases e
 ·rename_i f ys b;have w:∀(bs:List U) (i:Nat),i<bs.length->hp J (J.length+i)=none:=λbs i _=>by simp[hp]
  replace e:=XR e
  rcases e with ⟨x,e⟩|⟨o,e⟩
  ·split at e
   ·rename_i p bs d
    replace e:=XR e
    rcases e with ⟨j,e⟩|⟨_,e⟩
    ·cases e;exact YJ b (h f ys [] _ _ d).1 ((h.CT d j).here x _)
    ·cases e;exact YJ b (h f ys [] _ _ d).1 ((h.u7 d).here x (w bs))
   ·cases e
  ·split at e
   ·rename_i p news hd;unfold ZcJ at hd;obtain⟨r,hd⟩:=QB hd;split at hd
    ·rename_i N σ' H;split at hd
     ·rename_i abm K;cases hd;obtain⟨z,_,_,L⟩:=h f _ _ _ _ H;obtain⟨F,A,f2,f3⟩:=L (XaX r o);have:=Xba _ _ _ K;subst this;have B:iV P GL F.n F.body (eH (gZ (og J.length) ys)) (XO J) (λe C s=>(e=.normal\/e=.ret)/\iI F.gI C s=some p/\s=XO J++news):=f3.mono λe C s k=>by
       grind
      have D:ys.length=F.np:=by rw[f2,YA]
      replace e:=XR e
      rcases e with ⟨_,e⟩|⟨_,e⟩
      ·cases e;exact YJ b z (YaP A D J (i3 ys) (PF r) (bs:=[]) (.inr rfl) B)
      ·cases e;exact YJ b z (YaP A D J (i3 ys) (PF r) (bs:=news) (.inl rfl) B)
     ·cases hd
    ·cases hd
   split at e
   ·rename_i E Q hb;split at e
    ·rename_i p bs d
     replace e:=XR e
     rcases e with ⟨j,e⟩|⟨_,e⟩
     ·simp only[AA]at j;cases e;exact YJ b (h f E [] _ _ d).1 ((h.CT d j.2).rz (Q6 _ _ _ _ hb _ (λ_ q=>q)) j.1)
     ·replace e:=XR e
      rcases e with ⟨hns,e⟩|⟨_,e⟩
      ·simp only[AA]at hns;cases e;exact YJ b (h f E [] _ _ d).1 ((h.u7 d).rz (Q6 _ _ _ _ hb _ (λ_ q=>q)) hns.1 hns.2 (w bs))
      ·exact S7 h b o e
    ·exact S7 h b o e
   ·exact S7 h b o e
theorem YeL(h:qE P GL cg)(much:Nat)(r:I×List U):eJ P GL (Cl much cg) (λo=>o=some r) where
 stop:=λe=>by cases e
 call:=λ{k xs J K} e=>by
  simp only[Cl]at e;split at e
  ·rename_i f ys i;split at e
   ·rename_i v σ' d;obtain⟨_,h1,_⟩:=h f ys J v σ' d
    grind
   ·cases e
  ·cases e
 dT:=λ{k xs J K} e=>by
  grind [Cl,Xdo]
 test:=λ{v a b} e=>by
  simp only[Cl,N4]at e
  grind
 loop:=λ{F j J} e=>⟨much,e⟩
def xo(much:Nat)(G:Nat->Option (Nat×gM)):Nat->CG
 |0,_,_,_=>none
 |d+1,f,xs,J=>match G f with
  |some (np,g)=>bif AJ xs.length np then g (Cl much (xo much G d)) xs J (λv J=>some (v,J))else none
  |none=>none
theorem Zdj(b:P.follows .mixedOrders=true){much:Nat}(hG:∀f np g,G f=some (np,g)->my P GL f np g):∀d,qE P GL (xo much G d)
 |0=>λf xs J v σ' h=>by cases h
 |d+1=>λf xs J v σ' h=>by
  unfold xo at h;split at h
  ·rename_i np g i;obtain⟨o,h⟩:=QB h;have j:=fK o;obtain⟨F,h1,h2,h3⟩:=(hG f np g i).BD b (YeL (Zdj b hG d) much (v,σ')) j h;refine Zbm (hG f np g i).plain h1 (h2.trans j.symm) (h3.mono λe p s k=>?_);simp_all
  ·cases h
end
theorem PM{P:Program}{GL:aw}(i:P.follows .mixedOrders=true){much:Nat}(hG:∀f np g,G f=some (np,g)->my P GL f np g)(d:Nat)(h:((xo much G d f xs []).bind λp=>DH p.2 p.1)=some y):dh P GL f xs y:=by
 cases b:xo much G d f xs []with
 |none=>rw[b]at h;cases h
 |some p=>
  obtain⟨v,bs⟩:=p;rw[b]at h;exact TG ((Zdj i hG d).u7 b) h
mutual
def V4:I->I->Bool
 |.aP,.aP=>true
 |.bool a,.bool b=>a==b
 |.int k a,.int d b=>j4 k d&&a==b
 |.str a,.str b=>a==b
 |.dq,.dq=>true
 |.aq,.aq=>true
 |.cX,.cX=>true
 |.aX e n s r,.aX i j o p=>(e==i&&n==j)&&(AJ s o&&RN r p)
 |.agg a,.agg b=>IC a b
 |.cG,.cG=>true
 |.bH,.bH=>true
 |.dp,.dp=>true
 |_,_=>false
def IC:List I->List I->Bool
 |[],[]=>true
 |x::xs,y::ys=>V4 x y&&IC xs ys
 |_,_=>false
def RN:List (List I)->List (List I)->Bool
 |[],[]=>true
 |x::xs,y::ys=>IC x y&&RN xs ys
 |_,_=>false
end
mutual
theorem QeU:∀ {x y:I},V4 x y=true->x=y:=by
 intro x y h
 cases x<;>cases y<;>simp only[V4,B8,AA]at h<;>first
  |rfl
  |(rw[eq_of_beq h])
  |(rw[eq_of_beq h.2,zL h.1])
  |(rw[eq_of_beq h.1.1,eq_of_beq h.1.2,fK h.2.1,Qej h.2.2])
  |(rw[PX h])
theorem PX:∀ {x y:List I},IC x y=true->x=y:=by
 intro x y h
 cases x<;>cases y<;>simp only[IC,B8,AA]at h<;>first
  |rfl
  |(rw[QeU h.1,PX h.2])
theorem Qej:∀ {x y:List (List I)},RN x y=true->x=y:=by
 intro x y h
 cases x<;>cases y<;>simp only[RN,B8,AA]at h<;>first
  |rfl
  |(rw[PX h.1,Qej h.2])
end
abbrev oq:=List (FuncId×List I×I)
def Ry(f:FuncId)(xs:List I):oq->Option I
 |[]=>none
 |(g,ys,v)::r=>match AJ f g&&IC xs ys with
  |true=>some v
  |false=>Ry f xs r
def wD(P:Program)(GL:aw):oq->Prop
 |[]=>True
 |(f,xs,v)::r=>((Qh P f=true/\fV xs=true/\v.ro=true)/\dh P GL f xs v)/\wD P GL r
section
variable {P:Program} {GL:aw}
theorem Zcg:∀ {b:oq},wD P GL b->Ry f xs b=some v->Qh P f=true/\fV xs=true/\v.ro=true/\dh P GL f xs v
 |[],_,h=>by cases h
 |(g,ys,u)::r,ok,h=>by
  unfold Ry at h;split at h
  ·rename_i hb;simp only[AA]at hb;have h1:=fK hb.1;have h2:=PX hb.2;subst h1;subst h2;cases h;exact⟨ok.1.1.1,ok.1.1.2.1,ok.1.1.2.2,ok.1.2⟩
  ·exact Zcg ok.2 h
theorem XbE(h:dh P GL f xs v):dH P GL f xs v []:=by
 intro w M j r d s;refine(h w M j r d s).mono ?_;rintro e B ⟨u,he,k,x,hle,z,C,hd⟩;refine⟨u,he,⟨x,bE⟩,hle,?_,hd⟩;exact {
  keeps:=k
  aZ:=z
  src:=λb o e=>by
   simp_all
  cr:=λp A=>(d p A).mono hle (fW.refl _)
  dU:=λ_ _=>rfl
  jb:=λb aD e=>by simp[hp]at e
  own:=λb aD i e=>by simp[hp]at e
  bd:=λb aD i e=>by simp[hp]at e
  inj:=λb D aD blk' i E e=>by simp[hp]at e }
def xn(much:Nat)(G:Nat->Option (Nat×gM))(b:oq):Nat->CG
 |0,_,_,_=>none
 |d+1,f,xs,J=>match Ry f xs b with
  |some v=>some (v,J)
  |none=>match G f with
   |some (np,g)=>bif AJ xs.length np then g (Cl much (xn much G b d)) xs J (λv J=>some (v,J))else none
   |none=>none
theorem Qdi(b:P.follows .mixedOrders=true){much:Nat}(hG:∀f np g,G f=some (np,g)->my P GL f np g){i:oq}(hk:wD P GL i):∀d,qE P GL (xn much G i d)
 |0=>λf xs J v σ' h=>by cases h
 |d+1=>λf xs J v σ' h=>by
  unfold xn at h;split at h
  ·rename_i z r;cases h;obtain⟨h1,h2,h3,h4⟩:=Zcg hk r;refine⟨h1,λk ys w=>Za9 (YJ w h1 (h4.here h2 (hp J))) (Yd J),λhσ=>?_,λj=>by rw[h2]at j;cases j⟩;subst hσ;exact⟨XbE h4,λ_=>h4⟩
  split at h
  ·rename_i np g o;obtain⟨x,h⟩:=QB h;have p:=fK x;obtain⟨F,h1,h2,h3⟩:=(hG f np g o).BD b (YeL (Qdi b hG hk d) much (v,σ')) p h;refine Zbm (hG f np g o).plain h1 (h2.trans p.symm) (h3.mono λe A s k=>?_);simp_all
  ·cases h
theorem QdT(j:P.follows .mixedOrders=true){much:Nat}(hG:∀f np g,G f=some (np,g)->my P GL f np g){b:oq}(hk:wD P GL b)(d:Nat)(h:((xn much G b d f xs []).bind λp=>DH p.2 p.1)=some y):dh P GL f xs y:=by
 cases i:xn much G b d f xs []with
 |none=>rw[i]at h;cases h
 |some p=>
  obtain⟨v,bs⟩:=p;rw[i]at h;exact TG ((Qdi j hG hk d).u7 i) h
end
end Go.Ah
end
section
namespace Go.Ah
@[reducible] def h0(v:List I):I:=tm v
@[reducible] def h1(v:List I):I:=tm (jM v)
@[reducible] def h2(v:List I):I:=tm (jM (jM v))
@[reducible] def h3(v:List I):I:=tm (jM (jM (jM v)))
@[reducible] def h4(v:List I):I:=tm (jM (jM (jM (jM v))))
@[reducible] def h5(v:List I):I:=tm (jM (jM (jM (jM (jM v)))))
@[reducible] def h6(v:List I):I:=tm (jM (jM (jM (jM (jM (jM v))))))
@[reducible] def h7(v:List I):I:=tm (jM (jM (jM (jM (jM (jM (jM v)))))))
@[reducible] def h8(v:List I):I:=h7 (jM v)
@[reducible] def h9(v:List I):I:=h8 (jM v)
@[reducible] def h10(v:List I):I:=h9 (jM v)
@[reducible] def h11(v:List I):I:=h10 (jM v)
@[reducible] def h12(v:List I):I:=h11 (jM v)
def A0:List I:=(Ao 256).map λi=>I.int .u8 (match (BY 9 i&&BY i 13)||AJ i 32 with|true=>1|false=>0)
def aQ:aw:=[(0,A0)]
end Go.Ah
end
section
namespace Go.Ah
section
variable (J:List U)
attribute [simp] HR Ic Na UL QeQ YcT Zex tm jM
@[simp] theorem O0(P:Program)(GL:aw):(W P GL).stop=False:=rfl
@[simp] theorem Ye7{b:Type}(f:(List I->List U->b)->b)(k:List I->List U->b):c8 f k=f k:=rfl
@[simp] theorem RW{d:Type}(A:aI d)(b w:Bool)(r:d)(s:List (Bool×Bool)->d):A.gx (.bool b) w r s=A.test (.bool b) (bif w then r else s [(true,w)]) (bif w then s [(false,w)]else r):=rfl
@[simp] theorem abf{b:Type}(A:aI b)(c:I)(w:Bool)(r:(I->b)->b)(K:I->b):A.gr c w r K=A.gx c w (r K) (λd=>K (uF d)):=rfl
@[simp] theorem abg{b:Type}(A:aI b)(c:I)(w:Bool)(r:(I->List U->b)->b)(J:List U)(K:I->List U->b):A.gw c w r J K=A.gx c w (r K) (λd=>K (uF d) J):=rfl
@[simp] theorem abe{b:Type}(A:aI b)(c:I)(w:Bool)(r:(I->List Nat×List Nat->List U->b)->b)(J:List U)(K:I->List Nat×List Nat->List U->b):A.gl c w r J K=A.gx c w (r K) (λd=>K (uF d) ([],[]) J):=rfl
@[simp] theorem RY{b:Type}(A:aI b)(cs:List (Bool×Bool))(q w:Bool)(r:b)(s:List (Bool×Bool)->b):A.gx (.when cs (.bool q)) w r s=match yP.gh cs with
  |true=>s (cs++[(q,w)])
  |false=>A.stop:=rfl
attribute [simp] yP.gh
@[simp] theorem abr(x:I):mi [x] J=.ok x [] []:=rfl
@[simp] theorem V2(b:Bool)(x y:I):Xk [.bool b,x,y] J=.ok (bif b then x else y) [] []:=by cases b<;>rfl
@[simp] theorem Qe(e n:Bool)(s:Nat)(rows:List (List I)):Yn [.aX e n s rows] J=.ok (.int .i64 rows.length) [] []:=rfl
@[simp] theorem Yeu:Yn [.aq] J=.ok (.int .i64 0) [] []:=rfl
@[simp] theorem Zeu:Yn [.cX] J=.ok (.int .i64 0) [] []:=rfl
@[simp] theorem ZeT(b o n:Nat)(e:Bool):Yn [.sl b o n e] J=.ok (.int .i64 n) [] []:=rfl
@[simp] theorem Ze7(s:List UInt8):ZW [.str s] J=.ok (.int .i64 s.length) [] []:=rfl
@[simp] theorem V0(n:Nat)(x:I):Pv n [x] J=.ok (.int .i64 n) [] []:=rfl
@[simp] theorem QeW(k:IntKind):j4 k k=true:=by cases k<;>rfl
section
variable (ib:Bool) (k:IntKind) (a b:Int)
@[simp] theorem Qi:Qn .add ib [.int k a,.int k b] J=.ok (.int k (k.wrap (a+b))) [] []:=by simp[Qn,nR]
@[simp] theorem Bv:Qn .sub ib [.int k a,.int k b] J=.ok (.int k (k.wrap (a-b))) [] []:=by simp[Qn,nR]
@[simp] theorem Xr:Qn .eql ib [.int k a,.int k b] J=.ok (.bool (decide (a=b))) [] []:=by
 simp[Qn,nR];exact C6.2 (by simp)
@[simp] theorem QM:Qn .neq ib [.int k a,.int k b] J=.ok (.bool (decide (a≠b))) [] []:=by
 simp[Qn,nR];exact C6.2 (by simp)
@[simp] theorem Xy:Qn .lss ib [.int k a,.int k b] J=.ok (.bool (decide (a<b))) [] []:=by simp[Qn,nR]
@[simp] theorem JQ:Qn .leq ib [.int k a,.int k b] J=.ok (.bool (decide (a<=b))) [] []:=by simp[Qn,nR]
@[simp] theorem Y4:Qn .gtr ib [.int k a,.int k b] J=.ok (.bool (decide (b<a))) [] []:=by simp[Qn,nR]
@[simp] theorem pL:Qn .geq ib [.int k a,.int k b] J=.ok (.bool (decide (b<=a))) [] []:=by simp[Qn,nR]
end
@[simp] theorem vn(d:Bool)(a b:List UInt8):Qn .eql d [.str a,.str b] J=.ok (.bool (a==b)) [] []:=rfl
@[simp] theorem V1(d:Bool)(a b:List UInt8):Qn .neq d [.str a,.str b] J=.ok (.bool (!(a==b))) [] []:=rfl
@[simp] theorem VW(a b:Bool):Qn .eql true [.bool a,.bool b] J=.ok (.bool (a==b)) [] []:=rfl
@[simp] theorem XeT(a b:Bool):Qn .neq true [.bool a,.bool b] J=.ok (.bool (!(a==b))) [] []:=rfl
@[simp] theorem abd(b:Bool):qH .not [.bool b] J=.ok (.bool (!b)) [] []:=rfl
@[simp] theorem abc(k:IntKind)(n:Int):qH .neg [.int k n] J=.ok (.int k (k.wrap (0-n))) [] []:=rfl
@[simp] theorem Zej(k b:IntKind)(n:Int):Il k [.int b n] J=.ok (.int k (k.wrap n)) [] []:=rfl
@[simp] theorem YeT(t:TypeId)(x:I):XF t [x] J=.ok (.iface t x) [] []:=rfl
@[simp] theorem Ov(b:Fn)(xs:List I):ZN b 0 xs J=.ok (.func b [] xs) [] []:=by
 simp[ZN,takeN,jc]
@[simp] theorem YU(k d:IntKind)(a b:Int):Jh [.int k a,.int d b] J=.ok (.int k (min a b)) [] []:=by
 simp only[Jh];congr 2;omega
@[simp] theorem vX(k d:IntKind)(a b:Int):H9 [.int k a,.int d b] J=.ok (.int k (max a b)) [] []:=by
 simp only[H9];congr 2;omega
@[simp] theorem RG(b j:Nat):Yi [.ak b j] J=.ok (.ak b j) [] []:=rfl
@[simp] theorem RJ(b i j:Nat):Yi [.ptr b i j] J=.ok (.ptr b i j) [] []:=rfl
@[simp] theorem RL(row:List I)(j:Nat):Yi [.al row j] J=.ok (.al row j) [] []:=rfl
@[simp] theorem RH(f:FuncId)(a b:List I):Yi [.func (.func f) a b] J=.ok (.func (.func f) a b) [] []:=rfl
@[simp] theorem VX(o b j:Nat):Qc o [.ak b j] J=.ok (.ak b (j+o)) [] []:=rfl
@[simp] theorem VY(o b i j:Nat):Qc o [.ptr b i j] J=.ok (.ptr b i (j+o)) [] []:=rfl
@[simp] theorem VZ(o:Nat)(row:List I)(j:Nat):Qc o [.al row j] J=.ok (.al row (j+o)) [] []:=rfl
@[simp] theorem RF(agg:Bool)(o n:Nat)(cs:List I):Oy agg o n [.agg cs] J=(match aO agg o n cs with
   |some v=>.ok v [] []
   | none=>.stop):=rfl
attribute [simp] aO takeN jc nth
@[simp] theorem QeS(i:Nat)(vs:List I):Zk i [.bw vs] J=(match nth vs i with
   |some v=>.ok v [] []
   | none=>.stop):=rfl
@[simp] theorem Xe6(len d b j:Nat)(k:IntKind)(i:Nat):Qo len d [.ak b j,.int k (@MG Int i _)] J=bif C3 i len then .ok (.ak b (j+i*d)) [] []else .stop:=rfl
@[simp] theorem Qe6(len b:Nat)(row:List I)(j:Nat)(k:IntKind)(i:Nat):Qo len b [.al row j,.int k (@MG Int i _)] J=bif C3 i len then .ok (.al row (j+i*b)) [] []else .stop:=rfl
theorem La(e n:Bool)(s:Nat)(rows:List (List I))(k:IntKind)(i:Nat)(row:List I)(h:rows[i]?=some row):Zi s [.aX e n s rows,.int k (i:Int)] J=.ok (.al row 0) [] []:=by
 show (bif AJ s s then (match nth rows i with
   |some row=>aL.ok (.al row 0) [] []
   | none=>.stop)else .stop)=_
 rw[EK,Q4,h];rfl
theorem Zm{b:Type}(f:b->List I)(e n:Bool)(s:Nat)(l:List b)(k:IntKind)(i:Nat)(h:i<l.length):Zi s [.aX e n s (l.map f),.int k (i:Int)] J=.ok (.al (f l[i]) 0) [] []:=
 La J e n s _ k i _ (by simp[h])
theorem Y9(b o len:Nat)(ex:Bool)(s:Nat)(rows:List (List I))(k:IntKind)(i:Nat)(h:i<len)(hb:ai J b=.rows s rows):Zi s [.sl b o len ex,.int k (i:Int)] J=.ok (.ptr b (o+i) 0) [b] []:=by
 show (bif C3 i len then (match ai J b with
   |.rows d _=>bif AJ d s then aL.ok (.ptr b (o+i) 0) [b] []else .stop
   | _=>.stop)else .stop)=_
 rw[show C3 i len=true from AH h,hb];simp
theorem Ydr(s:List UInt8)(k:IntKind)(i:Nat)(h:i<s.length):YR [.str s,.int k (i:Int)] J=.ok (.int .u8 s[i].toNat) [] []:=by
 show (match nth s i with
   |some c=>aL.ok (.int .u8 c.toNat) [] []
   | none=>.stop)=_
 rw[Q4,List.getElem?_eq_getElem h]
@[simp] theorem Us(agg:Bool)(n:Nat)(row:List I)(j:Nat):Xf agg n [.al row j] J=(match aO agg j n row with
   |some v=>.ok v [] []
   | none=>.stop):=rfl
@[simp] theorem XcK(agg:Bool)(n b j:Nat):Xf agg n [.ak b j] J=(match ai J b with
   |.box row=>match aO agg j n row with
    |some v=>.ok v [b] []
    |none=>.stop
   | _=>.stop):=rfl
attribute [simp] ai h_ QF bW cellsOf I.cell
@[simp] theorem Xet(z:List I):Zt z [] J=.ok (.ak J.length 0) [] [(J.length,.box z)]:=rfl
@[simp] theorem abb(x:I):wS [x] J=(match cellsOf x with
   |some cs=>.ok (.ak J.length 0) [] [(J.length,.box cs)]
   | none=>.stop):=rfl
@[simp] theorem Zds(n b j:Nat)(x:I):Xh n [.ak b j,x] J=(match ai J b with
   |.box row=>match cellsOf x with
    | some cs=>bif AJ cs.length n then (match bW j cs row with
     |some row'=>.ok .aP [] [(b,.box row')]
     | none=>.stop)else .stop
    |none=>.stop
   | _=>.stop):=rfl
end
end Go.Ah
end
section
namespace Go.Ah
structure Bp (J σ2:List U) (m:Nat->Option Nat):Prop where
 inj:∀b b' k,m b=some k->m b'=some k->b=b'
 img:∀b k,m b=some k->∃aD,J[b]?=some aD/\σ2[k]?=some (aD.dE (I.cy m))
 qk:∀k,k<σ2.length->∃b,m b=some k
variable{J σ2:List U}
theorem bu.Nf{GL:aw}{w0:World}{L:Ln}{g:Gm}{w:World}{m:Nat->Option Nat}(r:bu GL w0 L g (hp J) w)(ok:Bp J σ2 m) :
  ∃i,(∀x v,g.den x v->Den g.M i (x.cy m) v)/\bu GL w0 L ⟨g.M,i⟩ (hp σ2) w:=by
 classical
 let i:Own:=λk=>if h:∃b,m b=some k then g.c (GK h)else none
 have z:∀b k,m b=some k->i k=g.c b:=by
  intro b k e;have h:∃b,m b=some k:=⟨b,e⟩;show (if h:∃b,m b=some k then g.c (GK h)else none)=_;rw[dif_pos h,ok.inj _ _ _ (ND h) e]
 have G:∀x v,g.den x v->Den g.M i (x.cy m) v:=λx v d=>Den.cy d λb A f j s=>by rw[z b A j];exact s
 have back:∀k aD,hp σ2 k=some aD->∃b blk0,m b=some k/\hp J b=some blk0/\aD=blk0.dE (I.cy m):=by
  intro k aD e;have Q:k<σ2.length:=(eS e).1;obtain⟨b,hb⟩:=ok.qk k Q;obtain⟨blk0,j,s⟩:=ok.img b k hb;refine⟨b,blk0,hb,j,?_⟩;have C:σ2[k]?=some aD:=e;simp_all
 refine⟨i,G,?_⟩;exact {
  keeps:=r.keeps
  aZ:=r.aZ
  src:=r.src
  cr:=r.cr
  dU:=λk e=>by
   show (if h:∃b,m b=some k then g.c (GK h)else none)=none;rw[dif_neg];rintro⟨b,hb⟩;obtain⟨blk0,j,s⟩:=ok.img b k hb;have C:σ2[k]?=none:=e;rw[s]at C;cases C
  jb:=λk aD e=>by
   obtain⟨b,blk0,h1,h2,_⟩:=back k aD e;obtain⟨f,vx⟩:=r.jb b blk0 h2
   grind
  own:=λk aD f e B D E=>by
   obtain⟨b,blk0,h1,h2,rfl⟩:=back k aD e;rw[U.bQ]at B;have F:g.c b=some f:=by rw[<-z b k h1];exact D
   obtain⟨R,S,o,T,V⟩:=r.own b blk0 f h2 B F E;exact⟨R,S,o,T,V.dE (p:=λ_=>True) (λx v _ d=>G x v d) (U.all_true _)⟩
  bd:=λk aD f e B D E=>by
   obtain⟨b,blk0,h1,h2,rfl⟩:=back k aD e;rw[U.bQ]at B;have F:g.c b=some f:=by rw[<-z b k h1];exact D
   have:=r.bd b blk0 f h2 B F E;subst this;rfl
  inj:=λk H x X K cb2 j s N P Y r_ v1 v2 iE=>by
   obtain⟨b,y,h1,h2,rfl⟩:=back k x j;obtain⟨A,y',Cj,Lr,rfl⟩:=back H X s;rw[U.bQ]at N P;have ec1:g.c b=some K:=by rw[<-z b k h1];exact Y
   have IB:g.c A=some cb2:=by rw[<-z A H Cj];exact r_
   have:=r.inj b A y y' K cb2 h2 Lr N P ec1 IB v1 v2 iE;simp_all }
def Tidy(J:List U)(v:I)(σ2:List U)(v2:I):Prop:=
 ∀(b:aw) (d:World) (L:Ln) (g:Gm) (w:World),bu b d L g (hp J) w->∀u,g.den v u->∃f,bu b d L ⟨g.M,f⟩ (hp σ2) w/\Den g.M f v2 u
theorem Tidy.refl(J:List U)(v:I):Tidy J v J v:=λ_ _ _ g _ r _ d=>⟨g.c,r,d⟩
variable{v:I}
theorem Tidy.trans{σ3:List U}{v2 v3:I}(h:Tidy J v σ2 v2)(k:Tidy σ2 v2 σ3 v3):Tidy J v σ3 v3:=by
 intro b f L g w r u d;obtain⟨i,j,o⟩:=h b f L g w r u d;obtain⟨p,s,x⟩:=k b f L ⟨g.M,i⟩ w j u o;exact⟨p,s,x⟩
theorem Tidy.cy{m:Nat->Option Nat}(ok:Bp J σ2 m)(v:I):Tidy J v σ2 (v.cy m):=by
 intro f i L g w r u d;obtain⟨b,h1,h2⟩:=r.Nf ok;exact⟨b,h2,h1 v u d⟩
theorem Tidy.d_{v2:I}(h:∀(M:Nat->Option Obj) (c:Own) (u:Value),Den M c v u->Den M c v2 u):Tidy J v J v2:=λ_ _ _ g _ r u d=>⟨g.c,r,h _ _ _ d⟩
theorem ZeB(J:List U)(b:U):dQ (hp J) J.length b=hp (J++[b]):=by
 funext n
 simp only[dQ,hp]
 grind
theorem Tidy.ghost(sz:Nat)(h:v=.aq\/v=.cX):Tidy J v (J++[.rows sz []]) (.sl J.length 0 0 false):=by
 intro f i L g w r u d;have b:=r.ghost (yT J) sz;rw[ZeB]at b;have hs:∃a,u=.slice a 0 0:=by
  rcases h with rfl|rfl
  ·cases d;exact⟨_,rfl⟩
  ·cases d;exact⟨_,rfl⟩
 obtain⟨a,rfl⟩:=hs;exact⟨_,b,.n9 _ _ _ _ _ (Yy _ _ _) rfl⟩
theorem Tidy.one{b:Nat}{aD:U}(hb:J[b]?=some aD)(m:Nat->Option Nat)(hm:∀n,m n=if n=b then some 0 else none)(v:I):Tidy J v [aD.dE (I.cy m)] (v.cy m):=by
 have key:∀x k,m x=some k->x=b/\k=0:=by
  intro x k e;rw[hm]at e;split at e
  ·cases e;exact⟨by assumption,rfl⟩
  ·cases e
 refine Tidy.cy ⟨λx y k f i=>?_,λx k e=>?_,λk d=>⟨b,?_⟩⟩ v
 ·rw[(key x k f).1,(key y k i).1]
 ·obtain⟨rfl,rfl⟩:=key x k e;exact⟨aD,hb,by simp⟩
 ·simp at d;subst d;rw[hm];simp
section
variable {P:Program} {GL:aw}
variable{bs:List U}
variable{xs:List I}
variable{f:FuncId}
theorem Xb1{F:vT}(ok:mV P GL f F)(hn:xs.length=F.np)
 (h:iV P GL F.n F.body (eH xs) [] (λe o J=>(e=.normal\/e=.ret)/\∃i,iI F.gI o J=some i/\Tidy J i bs v)):dH P GL f xs v bs:=by
 intro w M p s y z;have r0:=bu.start (GL:=GL) w M s y;have A:hp []=po:=by funext b;simp[hp,po]
 rw[<-A]at r0;refine(TI ok hn h w ⟨[],M⟩ ⟨M,bE⟩ w p r0 z).mono ?_;rintro e B ⟨u,he,j,x,σ',C,hle,r,d⟩;obtain⟨D,E,G⟩:=C GL w ⟨[],M⟩ j B r u d;exact⟨u,he,⟨j.M,D⟩,hle.m,E,G⟩
theorem QC(b:P.follows .mixedOrders=true){np:Nat}{g:gM}(hg:my P GL f np g)(hn:xs.length=np)(h:g (W P GL) xs [] (λd J=>Tidy J d bs v)):dH P GL f xs v bs:=by
 obtain⟨F,h1,h2,h3⟩:=hg.BD b (zH P GL) hn h;exact Xb1 h1 (hn.trans h2.symm) h3
theorem JU:∀(bs J:List U),h_ J (YB J.length bs)=some (J++bs)
 |[],J=>by simp[YB,h_]
 |b::bs,J=>by
  have:=JU bs (J++[b]);simp_all [YB]
def zQ(n:Nat):List U->List Nat
 |[]=>[]
 |_::bs=>n::zQ (n+1) bs
theorem SM:∀(bs:List U) (n:Nat),(YB n bs).map (·.1)=zQ n bs
 |[],_=>rfl
 |b::bs,n=>by simp[YB,zQ,SM bs (n+1)]
theorem J9{k:MK}{ys:List I}(h:dH P GL f ys v bs)(hc:Xt k xs=some (f,ys))(b:Qh P f=true)(km:fV ys=true){K:KT}(d:K (v.cy (ZG J.length)) (J++Zx J.length bs)):(W P GL).call k xs J K:=
 Y5 hc b (h.here km (λi _=>by simp[hp])) (JU _ J) d
theorem Qb5{k:MK}{ys:List I}(h:dH P GL f ys v bs)(hc:Xt k xs=some (f,ys))(b:Qh P f=true)(km:fV ys=true){K:I->List Nat×List Nat->List U->Prop}(d:K (v.cy (ZG J.length)) ([],zQ J.length (Zx J.length bs)) (J++Zx J.length bs)):(W P GL).dT k xs J K:=
 JC hc b (h.here km (λi _=>by simp[hp])) (JU _ J) (by rw[SM];exact d)
end
attribute [simp] I.cy gZ ZG Zx U.dE zQ I.ro fV I.flat mF
end Go.Ah
end
section
namespace Go.Ah
theorem Qf(J:List U)(x:U):h_ J [(J.length,x)]=some (J++[x]):=by simp[h_]
variable{J:List U}
variable{b:Nat}
theorem Zw{x:U}(h:ai J b=x)(hx:x≠.dead):J[b]?=some x:=wQ h hx
theorem Xc(J:List U)(x:U):ai (J++[x]) J.length=x:=Qp (by simp)
variable{y:U}
theorem Zb(x:List U)(h:ai J b=y)(hy:y≠.dead:=by simp):ai (J++x) b=y:=by
 have:=Zw h hy
 grind [Qp]
theorem Yb(h:ai J b=y)(hy:y≠.dead:=by simp):b<J.length:=(eS (Zw h hy)).1
theorem Dt{d:Type}{x:d}:∀ {J:List d},b<J.length->QF b x J=some (J.set b x):=by
 intro J h
 induction J generalizing b with
 |nil=>simp at h
 |cons y J f=>cases b<;>simp_all
theorem YK(x y:U)(h:b<J.length):h_ J ([(b,x)]++[(J.length,y)])=some (J.set b x++[y]):=by
 have hb:AJ b J.length=false:=by
  grind [fK]
 simp[h_,hb,Dt h]
theorem Ye(x:U)(h:b<J.length):h_ J [(b,x)]=some (J.set b x):=by
 grind [h_,fK,Dt]
theorem Qa{c:Nat}{x:U}(h:ai J b=y)(hy:y≠.dead)(hc:c≠b):ai (J.set c x) b=y:=by
 simp_all [Zw,Qp]
section
variable {α:Type} (A:aI α)
theorem Rg(n:Nat)(J:List U)(x:I)(z:List I)(cs:List I)(hx:fill z [(0,n)] [x]=some cs)(hc:chunk n 1 cs=some [cs])(K:I->List U->α) :
  A.wr (Yq n 1 z [(0,n)] [x] J) J K=K (.sl J.length 0 1 true) (J++[.rows n [cs]]):=by
 simp_all [Yq]
theorem XG{row:List I}(h:row.all I.cell=true):a_ [row]=true:=by simp[a_,h]
theorem Qdm(row:List I):cut 0 (0+1) [row]=[row]:=rfl
theorem YcG(n by_:Nat)(J:List U)(row:List I)(hr:row.all I.cell=true)(d:194*by_<=2 ^ 48)(K:I->List U->α) :
  A.wr (Yh n by_ [.aq,.sl J.length 0 1 true] (J++[.rows n [row]])) (J++[.rows n [row]]) K=K (.sl (J.length+1) 0 1 false) (J++[.rows n [row]]++[.rows n [row]]):=by
 have h1:Yl n (J++[.rows n [row]]) (.sl J.length 0 1 true)=some ([row],[J.length]):=by
  simp[Yl,Xc,Qdm];rfl
 have e:Yh n by_ [.aq,.sl J.length 0 1 true] (J++[.rows n [row]])=.ok (.sl (J.length+1) 0 1 false) [J.length] [(J.length+1,.rows n [row])]:=by
  show Qz n by_ (J++[.rows n [row]]) [] [] (.sl J.length 0 1 true)=_;simp_all [Qz,XG,AH]
 simp_all
theorem OD(n by_:Nat)(J:List U)(b len:Nat)(ex:Bool)(rs:List (List I))(row:List I)(hb:ai J b=.rows n rs)(hl:rs.length=len)(hr:row.all I.cell=true)(d:(2*(len+1)+192)*by_<=2 ^ 48)(K:I->List U->α) :
  A.wr (Yh n by_ [.sl b 0 len ex,.sl J.length 0 1 true] (J++[.rows n [row]])) (J++[.rows n [row]]) K=K (.sl (J.length+1) 0 (len+1) false) (J.set b .dead++[.rows n [row]]++[.rows n (rs++[row])]):=by
 have i:=Yb hb (by simp);have h1:Yl n (J++[.rows n [row]]) (.sl J.length 0 1 true)=some ([row],[J.length]):=by
  simp[Yl,Xc,Qdm];rfl
 have h2:BY ((2*(len+1)+192)*by_) (2 ^ 48)=true:=AH d;have f:=Zb [.rows n [row]] hb (by simp);have e:Yh n by_ [.sl b 0 len ex,.sl J.length 0 1 true] (J++[.rows n [row]])=.ok (.sl (J.length+1) 0 (len+1) false) [J.length] ([(b,.dead)]++[(J.length+1,.rows n (rs++[row]))]):=by
  have:Yh n by_ [.sl b 0 len ex,.sl J.length 0 1 true] (J++[.rows n [row]])=Qz n by_ (J++[.rows n [row]]) rs [(b,.dead)] (.sl J.length 0 1 true):=by
   simp[Yh,yU,f,hl]
  rw[this];unfold Qz;simp only[h1,XG hr,EJ,h2,Bool.and_self,cond_true,hl,AT]
 grind [UL,YK,AT,EJ,YcT]
end
end Go.Ah
end
section
namespace Go.Ah
variable{v:I}
variable{J:List U}
section
variable {P:Program} {GL:aw}
variable{r:aL}
variable{K:I->Prop}
theorem Z{rd:List Nat}(h:r=.ok v rd [])(b:K v):(W P GL).rd r K:=by rw[h];exact b
theorem Xd(h:r=.ok v [] [])(b:K v):(W P GL).pu r K:=by rw[h];exact b
theorem Qd{σ':List U}{K:KT}{rd:List Nat}{up:List (Nat×U)}(h:r=.ok v rd up)(hu:h_ J up=some σ')(b:K v σ'):(W P GL).wr r J K:=by rw[h,UL,hu];exact b
theorem Ze{σ':List U}{K:I->List Nat×List Nat->List U->Prop}{rd:List Nat}{up:List (Nat×U)}(h:r=.ok v rd up)(hu:h_ J up=some σ')(b:K v (rd,up.map (·.1)) σ'):(W P GL).dr r J K:=by rw[h,QeQ,hu];exact b
variable{a b:Prop}
variable{c w:Bool}
theorem Ya(ht:c=true->a)(hf:c=false->b):(W P GL).test (.bool c) a b:=⟨ht,hf⟩
theorem Xg(h:a):(W P GL).test (.bool true) a b:=⟨λ_=>h,(λe=>by cases e)⟩
theorem Yf(h:b):(W P GL).test (.bool false) a b:=⟨(λe=>by cases e),λ_=>h⟩
theorem Xo{b:Bool}{k:Prop}(h:b=true)(d:k):(W P GL).gd b k:=by rw[h];exact d
theorem Zp{β:Type}{o:Option β}{K:β->Prop}{v:β}(h:o=some v)(d:K v):(W P GL).opt o K:=by rw[h];exact d
theorem Xb{r:(I->Prop)->Prop}(h:r K):(W P GL).gr (.bool w) w r K:=by
 cases w
 ·exact⟨(λe=>by cases e),λ_=>h⟩
 ·exact⟨λ_=>h,(λe=>by cases e)⟩
theorem Xq{r:(KT)->Prop}{K:KT}(h:r K):(W P GL).gw (.bool w) w r J K:=by
 cases w
 ·exact⟨(λe=>by cases e),λ_=>h⟩
 ·exact⟨λ_=>h,(λe=>by cases e)⟩
theorem ZX{r:(I->List Nat×List Nat->List U->Prop)->Prop}{K:I->List Nat×List Nat->List U->Prop}(h:r K):(W P GL).gl (.bool w) w r J K:=by
 cases w
 ·exact⟨(λe=>by cases e),λ_=>h⟩
 ·exact⟨λ_=>h,(λe=>by cases e)⟩
theorem Yc{r:(I->Prop)->Prop}(hc:c = !w)(h:K (uF [(c,w)])):(W P GL).gr (.bool c) w r K:=by
 subst hc;cases w
 ·exact⟨λ_=>h,(λe=>by cases e)⟩
 ·exact⟨(λe=>by cases e),λ_=>h⟩
theorem Xu{r:(KT)->Prop}{K:KT}(hc:c = !w)(h:K (uF [(c,w)]) J):(W P GL).gw (.bool c) w r J K:=by
 subst hc;cases w
 ·exact⟨λ_=>h,(λe=>by cases e)⟩
 ·exact⟨(λe=>by cases e),λ_=>h⟩
theorem HY{r:(I->List Nat×List Nat->List U->Prop)->Prop}{K:I->List Nat×List Nat->List U->Prop}(hc:c = !w)(h:K (uF [(c,w)]) ([],[]) J):(W P GL).gl (.bool c) w r J K:=by
 subst hc;cases w
 ·exact⟨λ_=>h,(λe=>by cases e)⟩
 ·exact⟨(λe=>by cases e),λ_=>h⟩
theorem YG{cs:List (Bool×Bool)}{q:Bool}{r:(I->Prop)->Prop}(hc:yP.gh cs=true)(h:K (uF (cs++[(q,w)]))):(W P GL).gr (.when cs (.bool q)) w r K:=by
 show (match yP.gh cs with
  |true=>K (uF (cs++[(q,w)]))
  | false=>(W P GL).stop)
 rw[hc];exact h
theorem XS{cs:List (Bool×Bool)}{q:Bool}{r:(KT)->Prop}{K:KT}(hc:yP.gh cs=true)(h:K (uF (cs++[(q,w)])) J):(W P GL).gw (.when cs (.bool q)) w r J K:=by
 show (match yP.gh cs with
  |true=>K (uF (cs++[(q,w)])) J
  | false=>(W P GL).stop)
 rw[hc];exact h
theorem ZM(n:Nat){F:(n_)->n_}{vs:List I}(h:mN False n F vs J):(W P GL).loop F vs J:=⟨n,h⟩
theorem Yk{n:Nat}{F:(n_)->n_}{vs:List I}(h:F (mN False n F) vs J):mN False (n+1) F vs J:=h
end
def pos:List Nat->Nat->Option Nat
 |[],_=>none
 |x::l,n=>match AJ x n with
  |true=>some 0
  |false=>match pos l n with
   |some k=>some (k+1)
   |none=>none
theorem PU:∀ {l:List Nat} {n k:Nat},pos l n=some k->l[k]?=some n
 |[],_,_,h=>by cases h
 |x::l,n,k,h=>by
  unfold pos at h;split at h
  ·rename_i hb;cases h;simp[fK hb]
  ·split at h
   ·rename_i d b;cases h;simpa using PU b
   ·cases h
theorem YdD:∀ {l:List Nat} {k:Nat},l.Nodup->(h:k<l.length)->pos l l[k]=some k
 |[],_,_,h=>by simp at h
 |x::l,0,_,_=>by simp[pos]
 |x::l,k+1,d,h=>by
  have b:=List.nodup_cons.1 d;have f:AJ x (l[k]'(by simpa using h))=false:=by
   cases e:AJ x (l[k]'(by simpa using h))with
   |false=>rfl
   |true=>exact(b.1 (by rw[fK e];exact List.getElem_mem _)).elim
  simp only[List.getElem_cons_succ,pos,f,YdD b.2 (by simpa using h)]
def RQ(ids:List Nat)(J:List U):List U:=ids.map λb=>(ai J b).dE (I.cy (pos ids))
theorem Tidy.gc(ids:List Nat)(hn:ids.Nodup)(ct:∀b∈ids,b<J.length){σ2:List U}{v2:I}(h1:RQ ids J=σ2)(h2:v.cy (pos ids)=v2):Tidy J v σ2 v2:=by
 subst h1;subst h2;refine Tidy.cy ⟨λx y k i j=>?_,λx k e=>?_,λk d=>?_⟩ v
 ·have o:=PU i;have f:=PU j;rw[o]at f;exact GC f
 ·have q:=PU e;have p:x∈ids:=Au q;exact⟨_,O7 (ct x p),by simp[RQ,q]⟩
 ·simp only[RQ,Be]at d;exact⟨_,YdD hn d⟩
end Go.Ah
end
section
namespace Go.Ah
section
variable {P:Program} {GL:aw}
variable{K:I->Prop}
variable{q1 q2 q3 q4 q5 q6 q7 q8 q9 p1:List Nat}
variable{J:List U}
variable{r1:aL}
variable{c d:Bool}
theorem Ze1(h1:c=true->r1=.ok (.bool d) q1 [])(b:K (.bool (c&&d))) :
  (W P GL).gr (.bool c) true (λk=>(W P GL).rd r1 k) λt1=>(W P GL).rd (Xk [.bool c,t1,.bool false] J) K:=by
 cases c with
 |true=>exact Xb (Z (h1 rfl) (Z rfl b))
 |false=>exact Yc rfl (Z rfl b)
variable{r2:I->aL}
variable{v1 v2 v3 v4 v5 v6 v7 v8 u0:I}
theorem Tm(h1:c=true->r1=.ok v1 q1 [])(h2:c=true->r2 v1=.ok (.bool d) q2 [])(b:K (.bool (c&&d))) :
  (W P GL).gr (.bool c) true (λk=>(W P GL).rd r1 k) λt1=>(W P GL).gr (.bool c) true (λk=>(W P GL).rd (r2 t1) k) λt2=>(W P GL).rd (Xk [.bool c,t2,.bool false] J) K:=by
 cases c with
 |true=>exact Xb (Z (h1 rfl) (Xb (Z (h2 rfl) (Z rfl b))))
 |false=>exact Yc rfl (Yc rfl (Z rfl b))
variable{r3:I->I->aL}
theorem Yen(h1:c=true->r1=.ok v1 q1 [])(h2:c=true->r2 v1=.ok v2 q2 [])(h3:c=true->r3 v1 v2=.ok (.bool d) q3 [])(b:K (.bool (c&&d))) :
  (W P GL).gr (.bool c) true (λk=>(W P GL).rd r1 k) λt1=>(W P GL).gr (.bool c) true (λk=>(W P GL).rd (r2 t1) k) λf=>(W P GL).gr (.bool c) true (λk=>(W P GL).rd (r3 t1 f) k) λt3=>(W P GL).rd (Xk [.bool c,t3,.bool false] J) K:=by
 cases c with
 |true=>exact Xb (Z (h1 rfl) (Xb (Z (h2 rfl) (Xb (Z (h3 rfl) (Z rfl b))))))
 |false=>exact Yc rfl (Yc rfl (Yc rfl (Z rfl b)))
variable{r6:I->I->I->I->I->aL}
variable{r5:I->I->I->I->aL}
variable{r4:I->I->I->aL}
theorem Xen(h1:c=true->r1=.ok v1 q1 [])(h2:c=true->r2 v1=.ok v2 q2 [])(h3:c=true->r3 v1 v2=.ok v3 q3 [])(h4:c=true->r4 v1 v2 v3=.ok v4 q4 [])(h5:c=true->r5 v1 v2 v3 v4=.ok v5 q5 [])(h6:c=true->r6 v1 v2 v3 v4 v5=.ok (.bool d) q6 [])(i:K (.bool (c&&d))) :
  (W P GL).gr (.bool c) true (λk=>(W P GL).rd r1 k) λt1=>(W P GL).gr (.bool c) true (λk=>(W P GL).rd (r2 t1) k) λb=>(W P GL).gr (.bool c) true (λk=>(W P GL).rd (r3 t1 b) k) λf=>(W P GL).gr (.bool c) true (λk=>(W P GL).rd (r4 t1 b f) k) λj=>(W P GL).gr (.bool c) true (λk=>(W P GL).rd (r5 t1 b f j) k) λo=>(W P GL).gr (.bool c) true (λk=>(W P GL).rd (r6 t1 b f j o) k) λt6=>(W P GL).rd (Xk [.bool c,t6,.bool false] J) K:=by
 cases c with
 |true=>exact Xb (Z (h1 rfl) (Xb (Z (h2 rfl) (Xb (Z (h3 rfl) (Xb (Z (h4 rfl) (Xb (Z (h5 rfl) (Xb (Z (h6 rfl) (Z rfl i))))))))))))
 |false=>exact Yc rfl (Yc rfl (Yc rfl (Yc rfl (Yc rfl (Yc rfl (Z rfl i))))))
theorem X3(h1:c=false->r1=.ok v1 q1 [])(h2:c=false->r2 v1=.ok (.bool d) q2 [])(b:K (.bool (c||d))) :
  (W P GL).gr (.bool c) false (λk=>(W P GL).rd r1 k) λt1=>(W P GL).gr (.bool c) false (λk=>(W P GL).rd (r2 t1) k) λt2=>(W P GL).rd (Xk [.bool c,.bool true,t2] J) K:=by
 cases c with
 |false=>exact Xb (Z (h1 rfl) (Xb (Z (h2 rfl) (Z rfl b))))
 |true=>exact Yc rfl (Yc rfl (Z rfl b))
theorem vl(h1:c=false->r1=.ok v1 q1 [])(h2:c=false->r2 v1=.ok v2 q2 [])(h3:c=false->r3 v1 v2=.ok (.bool d) q3 [])(b:K (.bool (c||d))) :
  (W P GL).gr (.bool c) false (λk=>(W P GL).rd r1 k) λt1=>(W P GL).gr (.bool c) false (λk=>(W P GL).rd (r2 t1) k) λf=>(W P GL).gr (.bool c) false (λk=>(W P GL).rd (r3 t1 f) k) λt3=>(W P GL).rd (Xk [.bool c,.bool true,t3] J) K:=by
 cases c with
 |false=>exact Xb (Z (h1 rfl) (Xb (Z (h2 rfl) (Xb (Z (h3 rfl) (Z rfl b))))))
 |true=>exact Yc rfl (Yc rfl (Yc rfl (Z rfl b)))
theorem Qen(h1:c=false->r1=.ok v1 q1 [])(h2:c=false->r2 v1=.ok v2 q2 [])(h3:c=false->r3 v1 v2=.ok v3 q3 [])(h4:c=false->r4 v1 v2 v3=.ok (.bool d) q4 [])(b:K (.bool (c||d))) :
  (W P GL).gr (.bool c) false (λk=>(W P GL).rd r1 k) λt1=>(W P GL).gr (.bool c) false (λk=>(W P GL).rd (r2 t1) k) λf=>(W P GL).gr (.bool c) false (λk=>(W P GL).rd (r3 t1 f) k) λi=>(W P GL).gr (.bool c) false (λk=>(W P GL).rd (r4 t1 f i) k) λt4=>(W P GL).rd (Xk [.bool c,.bool true,t4] J) K:=by
 cases c with
 |false=>exact Xb (Z (h1 rfl) (Xb (Z (h2 rfl) (Xb (Z (h3 rfl) (Xb (Z (h4 rfl) (Z rfl b))))))))
 |true=>exact Yc rfl (Yc rfl (Yc rfl (Yc rfl (Z rfl b))))
theorem J5(h1:c=false->r1=.ok v1 q1 [])(h2:c=false->r2 v1=.ok v2 q2 [])(h3:c=false->r3 v1 v2=.ok v3 q3 [])(h4:c=false->r4 v1 v2 v3=.ok v4 q4 [])(h5:c=false->r5 v1 v2 v3 v4=.ok (.bool d) q5 [])(f:K (.bool (c||d))) :
  (W P GL).gr (.bool c) false (λk=>(W P GL).rd r1 k) λt1=>(W P GL).gr (.bool c) false (λk=>(W P GL).rd (r2 t1) k) λb=>(W P GL).gr (.bool c) false (λk=>(W P GL).rd (r3 t1 b) k) λi=>(W P GL).gr (.bool c) false (λk=>(W P GL).rd (r4 t1 b i) k) λj=>(W P GL).gr (.bool c) false (λk=>(W P GL).rd (r5 t1 b i j) k) λt5=>(W P GL).rd (Xk [.bool c,.bool true,t5] J) K:=by
 cases c with
 |false=>exact Xb (Z (h1 rfl) (Xb (Z (h2 rfl) (Xb (Z (h3 rfl) (Xb (Z (h4 rfl) (Xb (Z (h5 rfl) (Z rfl f))))))))))
 |true=>exact Yc rfl (Yc rfl (Yc rfl (Yc rfl (Yc rfl (Z rfl f)))))
theorem Ia(h1:c=false->r1=.ok v1 q1 [])(h2:c=false->r2 v1=.ok v2 q2 [])(h3:c=false->r3 v1 v2=.ok v3 q3 [])(h4:c=false->r4 v1 v2 v3=.ok v4 q4 [])(h5:c=false->r5 v1 v2 v3 v4=.ok v5 q5 [])(h6:c=false->r6 v1 v2 v3 v4 v5=.ok (.bool d) q6 [])(i:K (.bool (c||d))) :
  (W P GL).gr (.bool c) false (λk=>(W P GL).rd r1 k) λt1=>(W P GL).gr (.bool c) false (λk=>(W P GL).rd (r2 t1) k) λb=>(W P GL).gr (.bool c) false (λk=>(W P GL).rd (r3 t1 b) k) λf=>(W P GL).gr (.bool c) false (λk=>(W P GL).rd (r4 t1 b f) k) λj=>(W P GL).gr (.bool c) false (λk=>(W P GL).rd (r5 t1 b f j) k) λo=>(W P GL).gr (.bool c) false (λk=>(W P GL).rd (r6 t1 b f j o) k) λt6=>(W P GL).rd (Xk [.bool c,.bool true,t6] J) K:=by
 cases c with
 |false=>exact Xb (Z (h1 rfl) (Xb (Z (h2 rfl) (Xb (Z (h3 rfl) (Xb (Z (h4 rfl) (Xb (Z (h5 rfl) (Xb (Z (h6 rfl) (Z rfl i))))))))))))
 |true=>exact Yc rfl (Yc rfl (Yc rfl (Yc rfl (Yc rfl (Yc rfl (Z rfl i))))))
variable{r7:I->I->I->I->I->I->aL}
theorem HU(h1:c=false->r1=.ok v1 q1 [])(h2:c=false->r2 v1=.ok v2 q2 [])(h3:c=false->r3 v1 v2=.ok v3 q3 [])(h4:c=false->r4 v1 v2 v3=.ok v4 q4 [])(h5:c=false->r5 v1 v2 v3 v4=.ok v5 q5 [])(h6:c=false->r6 v1 v2 v3 v4 v5=.ok v6 q6 [])(h7:c=false->r7 v1 v2 v3 v4 v5 v6=.ok (.bool d) q7 [])(j:K (.bool (c||d))) :
  (W P GL).gr (.bool c) false (λk=>(W P GL).rd r1 k) λt1=>(W P GL).gr (.bool c) false (λk=>(W P GL).rd (r2 t1) k) λb=>(W P GL).gr (.bool c) false (λk=>(W P GL).rd (r3 t1 b) k) λf=>(W P GL).gr (.bool c) false (λk=>(W P GL).rd (r4 t1 b f) k) λi=>(W P GL).gr (.bool c) false (λk=>(W P GL).rd (r5 t1 b f i) k) λo=>(W P GL).gr (.bool c) false (λk=>(W P GL).rd (r6 t1 b f i o) k) λp=>(W P GL).gr (.bool c) false (λk=>(W P GL).rd (r7 t1 b f i o p) k) λt7=>(W P GL).rd (Xk [.bool c,.bool true,t7] J) K:=by
 cases c with
 |false=>exact Xb (Z (h1 rfl) (Xb (Z (h2 rfl) (Xb (Z (h3 rfl) (Xb (Z (h4 rfl) (Xb (Z (h5 rfl) (Xb (Z (h6 rfl) (Xb (Z (h7 rfl) (Z rfl j))))))))))))))
 |true=>exact Yc rfl (Yc rfl (Yc rfl (Yc rfl (Yc rfl (Yc rfl (Yc rfl (Z rfl j)))))))
variable{r8:I->I->I->I->I->I->I->aL}
theorem Ye1(h1:c=false->r1=.ok v1 q1 [])(h2:c=false->r2 v1=.ok v2 q2 [])(h3:c=false->r3 v1 v2=.ok v3 q3 [])(h4:c=false->r4 v1 v2 v3=.ok v4 q4 [])(h5:c=false->r5 v1 v2 v3 v4=.ok v5 q5 [])(h6:c=false->r6 v1 v2 v3 v4 v5=.ok v6 q6 [])(h7:c=false->r7 v1 v2 v3 v4 v5 v6=.ok v7 q7 [])(h8:c=false->r8 v1 v2 v3 v4 v5 v6 v7=.ok (.bool d) q8 [])(o:K (.bool (c||d))) :
  (W P GL).gr (.bool c) false (λk=>(W P GL).rd r1 k) λt1=>(W P GL).gr (.bool c) false (λk=>(W P GL).rd (r2 t1) k) λb=>(W P GL).gr (.bool c) false (λk=>(W P GL).rd (r3 t1 b) k) λf=>(W P GL).gr (.bool c) false (λk=>(W P GL).rd (r4 t1 b f) k) λi=>(W P GL).gr (.bool c) false (λk=>(W P GL).rd (r5 t1 b f i) k) λj=>(W P GL).gr (.bool c) false (λk=>(W P GL).rd (r6 t1 b f i j) k) λp=>(W P GL).gr (.bool c) false (λk=>(W P GL).rd (r7 t1 b f i j p) k) λr=>(W P GL).gr (.bool c) false (λk=>(W P GL).rd (r8 t1 b f i j p r) k) λt8=>(W P GL).rd (Xk [.bool c,.bool true,t8] J) K:=by
 cases c with
 |false=>exact Xb (Z (h1 rfl) (Xb (Z (h2 rfl) (Xb (Z (h3 rfl) (Xb (Z (h4 rfl) (Xb (Z (h5 rfl) (Xb (Z (h6 rfl) (Xb (Z (h7 rfl) (Xb (Z (h8 rfl) (Z rfl o))))))))))))))))
 |true=>exact Yc rfl (Yc rfl (Yc rfl (Yc rfl (Yc rfl (Yc rfl (Yc rfl (Yc rfl (Z rfl o))))))))
variable{r9:I->I->I->I->I->I->I->I->aL}
theorem Xe1(h1:c=false->r1=.ok v1 q1 [])(h2:c=false->r2 v1=.ok v2 q2 [])(h3:c=false->r3 v1 v2=.ok v3 q3 [])(h4:c=false->r4 v1 v2 v3=.ok v4 q4 [])(h5:c=false->r5 v1 v2 v3 v4=.ok v5 q5 [])(h6:c=false->r6 v1 v2 v3 v4 v5=.ok v6 q6 [])(h7:c=false->r7 v1 v2 v3 v4 v5 v6=.ok v7 q7 [])(h8:c=false->r8 v1 v2 v3 v4 v5 v6 v7=.ok v8 q8 [])(h9:c=false->r9 v1 v2 v3 v4 v5 v6 v7 v8=.ok (.bool d) q9 [])(p:K (.bool (c||d))) :
  (W P GL).gr (.bool c) false (λk=>(W P GL).rd r1 k) λt1=>(W P GL).gr (.bool c) false (λk=>(W P GL).rd (r2 t1) k) λb=>(W P GL).gr (.bool c) false (λk=>(W P GL).rd (r3 t1 b) k) λf=>(W P GL).gr (.bool c) false (λk=>(W P GL).rd (r4 t1 b f) k) λi=>(W P GL).gr (.bool c) false (λk=>(W P GL).rd (r5 t1 b f i) k) λj=>(W P GL).gr (.bool c) false (λk=>(W P GL).rd (r6 t1 b f i j) k) λo=>(W P GL).gr (.bool c) false (λk=>(W P GL).rd (r7 t1 b f i j o) k) λr=>(W P GL).gr (.bool c) false (λk=>(W P GL).rd (r8 t1 b f i j o r) k) λs=>(W P GL).gr (.bool c) false (λk=>(W P GL).rd (r9 t1 b f i j o r s) k) λt9=>(W P GL).rd (Xk [.bool c,.bool true,t9] J) K:=by
 cases c with
 |false=>exact Xb (Z (h1 rfl) (Xb (Z (h2 rfl) (Xb (Z (h3 rfl) (Xb (Z (h4 rfl) (Xb (Z (h5 rfl) (Xb (Z (h6 rfl) (Xb (Z (h7 rfl) (Xb (Z (h8 rfl) (Xb (Z (h9 rfl) (Z rfl p))))))))))))))))))
 |true=>exact Yc rfl (Yc rfl (Yc rfl (Yc rfl (Yc rfl (Yc rfl (Yc rfl (Yc rfl (Yc rfl (Z rfl p)))))))))
theorem XeG{r10:I->I->I->I->I->I->I->I->I->aL}{v9:I}{q10:List Nat}(h1:c=false->r1=.ok v1 q1 [])(h2:c=false->r2 v1=.ok v2 q2 [])(h3:c=false->r3 v1 v2=.ok v3 q3 [])(h4:c=false->r4 v1 v2 v3=.ok v4 q4 [])(h5:c=false->r5 v1 v2 v3 v4=.ok v5 q5 [])(h6:c=false->r6 v1 v2 v3 v4 v5=.ok v6 q6 [])(h7:c=false->r7 v1 v2 v3 v4 v5 v6=.ok v7 q7 [])(h8:c=false->r8 v1 v2 v3 v4 v5 v6 v7=.ok v8 q8 [])(h9:c=false->r9 v1 v2 v3 v4 v5 v6 v7 v8=.ok v9 q9 [])(h10:c=false->r10 v1 v2 v3 v4 v5 v6 v7 v8 v9=.ok (.bool d) q10 [])(r:K (.bool (c||d))) :
  (W P GL).gr (.bool c) false (λk=>(W P GL).rd r1 k) λt1=>(W P GL).gr (.bool c) false (λk=>(W P GL).rd (r2 t1) k) λb=>(W P GL).gr (.bool c) false (λk=>(W P GL).rd (r3 t1 b) k) λf=>(W P GL).gr (.bool c) false (λk=>(W P GL).rd (r4 t1 b f) k) λi=>(W P GL).gr (.bool c) false (λk=>(W P GL).rd (r5 t1 b f i) k) λj=>(W P GL).gr (.bool c) false (λk=>(W P GL).rd (r6 t1 b f i j) k) λo=>(W P GL).gr (.bool c) false (λk=>(W P GL).rd (r7 t1 b f i j o) k) λp=>(W P GL).gr (.bool c) false (λk=>(W P GL).rd (r8 t1 b f i j o p) k) λs=>(W P GL).gr (.bool c) false (λk=>(W P GL).rd (r9 t1 b f i j o p s) k) λw=>(W P GL).gr (.bool c) false (λk=>(W P GL).rd (r10 t1 b f i j o p s w) k) λt10=>(W P GL).rd (Xk [.bool c,.bool true,t10] J) K:=by
 cases c with
 |false=>exact Xb (Z (h1 rfl) (Xb (Z (h2 rfl) (Xb (Z (h3 rfl) (Xb (Z (h4 rfl) (Xb (Z (h5 rfl) (Xb (Z (h6 rfl) (Xb (Z (h7 rfl) (Xb (Z (h8 rfl) (Xb (Z (h9 rfl) (Xb (Z (h10 rfl) (Z rfl r))))))))))))))))))))
 |true=>exact Yc rfl (Yc rfl (Yc rfl (Yc rfl (Yc rfl (Yc rfl (Yc rfl (Yc rfl (Yc rfl (Yc rfl (Z rfl r))))))))))
theorem QeG{r10:I->I->I->I->I->I->I->I->I->aL}{r11:I->I->I->I->I->I->I->I->I->I->aL}{v9 v10:I}{q10 q11:List Nat}(h1:c=false->r1=.ok v1 q1 [])(h2:c=false->r2 v1=.ok v2 q2 [])(h3:c=false->r3 v1 v2=.ok v3 q3 [])(h4:c=false->r4 v1 v2 v3=.ok v4 q4 [])(h5:c=false->r5 v1 v2 v3 v4=.ok v5 q5 [])(h6:c=false->r6 v1 v2 v3 v4 v5=.ok v6 q6 [])(h7:c=false->r7 v1 v2 v3 v4 v5 v6=.ok v7 q7 [])(h8:c=false->r8 v1 v2 v3 v4 v5 v6 v7=.ok v8 q8 [])(h9:c=false->r9 v1 v2 v3 v4 v5 v6 v7 v8=.ok v9 q9 [])(h10:c=false->r10 v1 v2 v3 v4 v5 v6 v7 v8 v9=.ok v10 q10 [])(h11:c=false->r11 v1 v2 v3 v4 v5 v6 v7 v8 v9 v10=.ok (.bool d) q11 [])(s:K (.bool (c||d))) :
  (W P GL).gr (.bool c) false (λk=>(W P GL).rd r1 k) λt1=>(W P GL).gr (.bool c) false (λk=>(W P GL).rd (r2 t1) k) λb=>(W P GL).gr (.bool c) false (λk=>(W P GL).rd (r3 t1 b) k) λf=>(W P GL).gr (.bool c) false (λk=>(W P GL).rd (r4 t1 b f) k) λi=>(W P GL).gr (.bool c) false (λk=>(W P GL).rd (r5 t1 b f i) k) λj=>(W P GL).gr (.bool c) false (λk=>(W P GL).rd (r6 t1 b f i j) k) λo=>(W P GL).gr (.bool c) false (λk=>(W P GL).rd (r7 t1 b f i j o) k) λp=>(W P GL).gr (.bool c) false (λk=>(W P GL).rd (r8 t1 b f i j o p) k) λr=>(W P GL).gr (.bool c) false (λk=>(W P GL).rd (r9 t1 b f i j o p r) k) λw=>(W P GL).gr (.bool c) false (λk=>(W P GL).rd (r10 t1 b f i j o p r w) k) λt10=>(W P GL).gr (.bool c) false (λk=>(W P GL).rd (r11 t1 b f i j o p r w t10) k) λt11=>(W P GL).rd (Xk [.bool c,.bool true,t11] J) K:=by
 cases c with
 |false=>exact Xb (Z (h1 rfl) (Xb (Z (h2 rfl) (Xb (Z (h3 rfl) (Xb (Z (h4 rfl) (Xb (Z (h5 rfl) (Xb (Z (h6 rfl) (Xb (Z (h7 rfl) (Xb (Z (h8 rfl) (Xb (Z (h9 rfl) (Xb (Z (h10 rfl) (Xb (Z (h11 rfl) (Z rfl s))))))))))))))))))))))
 |true=>exact Yc rfl (Yc rfl (Yc rfl (Yc rfl (Yc rfl (Yc rfl (Yc rfl (Yc rfl (Yc rfl (Yc rfl (Yc rfl (Z rfl s)))))))))))
variable{cl:I->(KT)->Prop}
variable{s1:I->List U->aL}
theorem ZdL{K:List U->I->Prop}(h1:c=true->r1=.ok v1 q1 [])(hc:c=true->∀k:KT,k u0 J->cl v1 k)(g1:c=true->s1 u0 J=.ok (.bool d) p1 [])(f:K J (.bool (c&&d))) :
  (W P GL).gr (.bool c) true (λk=>(W P GL).rd r1 k) λt1=>(W P GL).gw (.bool c) true (λk=>cl t1 k) J λi b=>(W P GL).gr (.bool c) true (λk=>(W P GL).rd (s1 i b) k) λj=>(W P GL).rd (Xk [.bool c,j,.bool false] b) (K b):=by
 cases c with
 |true=>exact Xb (Z (h1 rfl) (Xq (hc rfl _ (Xb (Z (g1 rfl) (Z rfl f))))))
 |false=>exact Yc rfl (Xu rfl (Yc rfl (Z rfl f)))
theorem U2{K:List U->I->Prop} (h1:c=false->r1=.ok v1 q1 [])(hc:c=false->∀k:KT,k (.bool d) J->cl v1 k)(b:K J (.bool (c||d))) :
  (W P GL).gr (.bool c) false (λk=>(W P GL).rd r1 k) λt1=>(W P GL).gw (.bool c) false (λk=>cl t1 k) J λi f=>(W P GL).rd (Xk [.bool c,.bool true,i] f) (K f):=by
 cases c with
 |false=>exact Xb (Z (h1 rfl) (Xq (hc rfl _ (Z rfl b))))
 |true=>exact Yc rfl (Xu rfl (Z rfl b))
theorem XdM{K:List U->I->Prop}(h1:c=false->r1=.ok v1 q1 [])(hc:c=false->∀k:KT,k u0 J->cl v1 k)(g1:c=false->s1 u0 J=.ok (.bool d) p1 [])(f:K J (.bool (c||d))) :
  (W P GL).gr (.bool c) false (λk=>(W P GL).rd r1 k) λt1=>(W P GL).gw (.bool c) false (λk=>cl t1 k) J λi b=>(W P GL).gr (.bool c) false (λk=>(W P GL).rd (s1 i b) k) λj=>(W P GL).rd (Xk [.bool c,.bool true,j] b) (K b):=by
 cases c with
 |false=>exact Xb (Z (h1 rfl) (Xq (hc rfl _ (Xb (Z (g1 rfl) (Z rfl f))))))
 |true=>exact Yc rfl (Xu rfl (Yc rfl (Z rfl f)))
theorem QdM{K:List U->I->Prop}{cl:I->I->(KT)->Prop}(h1:c=false->r1=.ok v1 q1 [])(h2:c=false->r2 v1=.ok v2 q2 [])(hc:c=false->∀k:KT,k u0 J->cl v1 v2 k)(g1:c=false->s1 u0 J=.ok (.bool d) p1 [])(f:K J (.bool (c||d))) :
  (W P GL).gr (.bool c) false (λk=>(W P GL).rd r1 k) λt1=>(W P GL).gr (.bool c) false (λk=>(W P GL).rd (r2 t1) k) λi=>(W P GL).gw (.bool c) false (λk=>cl t1 i k) J λj b=>(W P GL).gr (.bool c) false (λk=>(W P GL).rd (s1 j b) k) λo=>(W P GL).rd (Xk [.bool c,.bool true,o] b) (K b):=by
 cases c with
 |false=>exact Xb (Z (h1 rfl) (Xb (Z (h2 rfl) (Xq (hc rfl _ (Xb (Z (g1 rfl) (Z rfl f))))))))
 |true=>exact Yc rfl (Yc rfl (Xu rfl (Yc rfl (Z rfl f))))
theorem ZdN{K:List U->I->Prop}{cl:I->I->I->(KT)->Prop} (h1:c=false->r1=.ok v1 q1 [])(h2:c=false->r2 v1=.ok v2 q2 [])(h3:c=false->r3 v1 v2=.ok v3 q3 [])(hc:c=false->∀k:KT,k (.bool d) J->cl v1 v2 v3 k)(b:K J (.bool (c||d))) :
  (W P GL).gr (.bool c) false (λk=>(W P GL).rd r1 k) λt1=>(W P GL).gr (.bool c) false (λk=>(W P GL).rd (r2 t1) k) λf=>(W P GL).gr (.bool c) false (λk=>(W P GL).rd (r3 t1 f) k) λj=>(W P GL).gw (.bool c) false (λk=>cl t1 f j k) J λo i=>(W P GL).rd (Xk [.bool c,.bool true,o] i) (K i):=by
 cases c with
 |false=>exact Xb (Z (h1 rfl) (Xb (Z (h2 rfl) (Xb (Z (h3 rfl) (Xq (hc rfl _ (Z rfl b))))))))
 |true=>exact Yc rfl (Yc rfl (Yc rfl (Xu rfl (Z rfl b))))
theorem Xcp{K:List U->I->Prop}{cl:I->I->I->I->(KT)->Prop}(h1:c=false->r1=.ok v1 q1 [])(h2:c=false->r2 v1=.ok v2 q2 [])(h3:c=false->r3 v1 v2=.ok v3 q3 [])(h4:c=false->r4 v1 v2 v3=.ok v4 q4 [])(hc:c=false->∀k:KT,k u0 J->cl v1 v2 v3 v4 k)(g1:c=false->s1 u0 J=.ok (.bool d) p1 [])(i:K J (.bool (c||d))) :
  (W P GL).gr (.bool c) false (λk=>(W P GL).rd r1 k) λt1=>(W P GL).gr (.bool c) false (λk=>(W P GL).rd (r2 t1) k) λb=>(W P GL).gr (.bool c) false (λk=>(W P GL).rd (r3 t1 b) k) λj=>(W P GL).gr (.bool c) false (λk=>(W P GL).rd (r4 t1 b j) k) λo=>(W P GL).gw (.bool c) false (λk=>cl t1 b j o k) J λp f=>(W P GL).gr (.bool c) false (λk=>(W P GL).rd (s1 p f) k) λr=>(W P GL).rd (Xk [.bool c,.bool true,r] f) (K f):=by
 cases c with
 |false=>exact Xb (Z (h1 rfl) (Xb (Z (h2 rfl) (Xb (Z (h3 rfl) (Xb (Z (h4 rfl) (Xq (hc rfl _ (Xb (Z (g1 rfl) (Z rfl i))))))))))))
 |true=>exact Yc rfl (Yc rfl (Yc rfl (Yc rfl (Xu rfl (Yc rfl (Z rfl i))))))
end
end Go.Ah
end
section
namespace Go.Ah
section
variable {P:Program} {GL:aw}
theorem SN(j:P.follows .mixedOrders=true){k:MK}{xs ys zs:List I}{f:FuncId}(hc:Xt k xs=some (f,ys)){np:Nat}{g:gM}(hg:my P GL f np g)(hn:ys.length=np){J τ τ':List U}(d ids:List Nat){v:I}{m:Nat}(o:∀b∈d,b∈ids)(p:∀b∈ids,b<J.length)
 (i:gZ (og J.length) ys=zs)(hτ:je d J=τ)(h:g (W P GL) zs τ (λr s=>r=v/\s=τ'))(hk:τ'.length=J.length+m)
 {K:I->List Nat×List Nat->List U->Prop}{u:I}{up:List (Nat×U)}{σ':List U}(hv:v.cy (eY ids J.length m)=u)(dQ:((d++ED J.length m).map λb=>(b,(ai τ' b).dE (I.cy (eY ids J.length m))))=up)(hu:h_ J up=some σ')(w:K u (ids,up.map (·.1)) σ'):(W P GL).dT k xs J K:=by
 subst hv;subst dQ;have x:zs.length=np:=by rw[<-i,YA,hn]
 obtain⟨F,h1,h2,h3⟩:=hg.BD j (zH P GL) x h;refine JC hc hg.plain (Xa5 h1 (hn.trans h2.symm) J d ids o p i hτ (h3.mono λe y s q=>?_) hk) hu w
 grind
end
end Go.Ah
end
section
namespace Go.Ah
section
variable {P:Program} {GL:aw}
variable{f:FuncId}
variable{xs ys zs:List I}
theorem Zo(s:P.follows .mixedOrders=true){np:Nat}{g:gM}(hg:my P GL f np g)(hn:xs.length=np){y:I}(h:g (W P GL) xs [] (λz J=>∃rd,aA (hp J) rd z y)):dh P GL f xs y:=by
 obtain⟨F,h1,h2,h3⟩:=hg.BD s (zH P GL) hn h;intro w M A B hg C;have r0:=bu.start (GL:=GL) w M B hg;have D:hp []=po:=by funext b;simp[hp,po]
 rw[<-D]at r0;refine(TI h1 (hn.trans h2.symm) h3 w ⟨[],M⟩ ⟨M,bE⟩ w A r0 C).mono ?_;rintro e i ⟨u,he,j,x,σ',⟨rd,E⟩,hle,r,d⟩
 let M2:Nat->Option Obj:=λb=>if b<w.heap.size then j.M b else i.heap[b]?
 have qk:wB j (hp σ') i M2:=by
  refine⟨λb o e=>?_,λb aD G o H K e3 L Q=>?_⟩
  ·show (if b<w.heap.size then j.M b else i.heap[b]?)=some o;split
   ·exact e
   ·exact r.aZ b o e
  ·obtain⟨_,R,_⟩:=r.own b aD G H K e3 L
   grind
 have N:=E GL w ⟨[],M⟩ j (hp σ') i M2 r qk (λ_ _=>rfl) u d;refine⟨u,he,r.keeps,M2,λb o e=>qk.1 b o (hle.m b o e),λb o e=>?_,λb o e=>?_,N⟩
 ·have p:(if b<w.heap.size then j.M b else i.heap[b]?)=some o:=e;split at p
  ·exact r.aZ b o p
  ·exact p
 ·have p:(if b<w.heap.size then j.M b else i.heap[b]?)=some o:=e;split at p
  ·rcases r.src b o p with q|q|q<;>simp_all
  ·exact .inr (by omega)
theorem aA.bw{h0:Hp}{rd:List Nat}(h1:bA h0 rd xs ys):aA h0 rd (.bw xs) (.bw ys):=by
 intro GL A L g h w B r p s v d;cases d with
 |bw _ _ o hs hd=>
  obtain⟨y,z⟩:=h1.get r p s (vs:=o.toList) (by simp[hs]) (λi x v b j=>hd i x v b (by simpa using j));exact .bw _ _ _ (by simpa[hs]using y.symm) (λi x v b j=>z i x v b (by simpa using j))
theorem aA.d_{h0:Hp}{rd:List Nat}{x y z:I}(h:aA h0 rd x y)(k:∀(M:Nat->Option Obj) (u:Value),Den M bE y u->Den M bE z u):aA h0 rd x z:=
 λGL i L g j w b r o p v d=>k b v (h GL i L g j w b r o p v d)
theorem Den.g_{M:Nat->Option Obj}{c:Own}{e n:Bool}{sz:Nat}{rows:List (List I)}{u:Value}(h:Den M c (.aX e n sz rows) u):Den M c (.aX false false sz rows) u:=by
 cases h with
 |aX _ _ _ _ _ a cap aD off f r s b d i j o p=>exact .aX _ _ _ _ _ a cap aD off f (λh=>by cases h) (λh=>by cases h) b d i j o p
theorem Den.eZ{M:Nat->Option Obj}{c:Own}{u:Value}(sz:Nat)(h:Den M c .aq u):Den M c (.aX false false sz []) u:=by
 cases h with
 |aq=>exact .aX _ _ _ _ [] none 0 0 0 (λ_ _=>undef) (λh=>by cases h) (λh=>by cases h) (λh=>(h rfl).elim) (λ_=>rfl) (by simp) (by simp) (by simp) (by simp)
theorem bA.ro{h0:Hp}{rd:List Nat}:∀ {l:List I},fV l=true->bA h0 rd l l
 |[],_=>bA.nil
 |x::l,h=>by
  simp only[fV,AA]at h;exact bA.cons (aA.ro h.1) (bA.ro h.2)
variable{J:List U}
theorem aA.own{rd:List Nat}{b off len sz:Nat}{ex:Bool}{rs rows:List (List I)}(hb:ai J b=.rows sz rs)(ct:b∈rd)(hle:off+len<=rs.length)(hc:cut off (off+len) rs=rows)(km:∀r∈rs,fV r=true):aA (hp J) rd (.sl b off len ex) (.aX false false sz rows):=by
 refine aA.d_ (y:=.aX ex false sz rows) ?_ (λM u d=>d.g_);have j:hp J b=some (.rows sz rs):=Zw hb (by simp);subst hc;refine aA.sl j ct hle (Jz hle▸by omega) (λi row row' o p=>?_)
 grind [cut,bA.ro]
theorem HO(l:List (List I))(n:Nat)(h:n=l.length):cut 0 (0+n) l=l:=by subst h;simp[cut]
theorem XdU(x:List I)(l:List (List I))(n:Nat)(h:n=l.length):cut 1 (1+n) (x::l)=l:=by subst h;simp[cut,Hv]
variable{v:I}
variable{k:MK}
theorem Yt{rd:List Nat}(h:dh P GL f zs v)(hc:Xt k xs=some (f,ys))(b:Qh P f=true)(hb:bA (hp J) rd ys zs)(hv:v.flat=true){K:KT}(d:K v J):(W P GL).call k xs J K:=
 Y5 hc b (h.rz hb hv) (Yd J) d
theorem Ir{rd:List Nat}(h:dh P GL f zs v)(hc:Xt k xs=some (f,ys))(b:Qh P f=true)(hb:bA (hp J) rd ys zs)(hv:v.flat=true){K:I->List Nat×List Nat->List U->Prop}(d:K v (rd,[]) J):(W P GL).dT k xs J K:=
 JC hc b (h.rz hb hv) (Yd J) d
theorem Qdd{bs:List U}{rd:List Nat}(h:dH P GL f zs v bs)(hc:Xt k xs=some (f,ys))(b:Qh P f=true)(hb:bA (hp J) rd ys zs)(hv:v.dF=true)(d:zF bs=true){K:KT}(j:K (v.cy (ZG J.length)) (J++Zx J.length bs)):(W P GL).call k xs J K:=
 Y5 hc b (h.rz hb hv d (λi _=>by simp[hp])) (JU _ J) j
theorem XcZ{bs:List U}{rd:List Nat}(h:dH P GL f zs v bs)(hc:Xt k xs=some (f,ys))(b:Qh P f=true)(hb:bA (hp J) rd ys zs)(hv:v.dF=true)(d:zF bs=true){K:I->List Nat×List Nat->List U->Prop}(j:K (v.cy (ZG J.length)) (rd,zQ J.length (Zx J.length bs)) (J++Zx J.length bs)):(W P GL).dT k xs J K:=
 JC hc b (h.rz hb hv d (λi _=>by simp[hp])) (JU _ J) (by rw[SM];exact j)
theorem Q5(n by_:Nat){b c len:Nat}{ex:Bool}{rs:List (List I)}{row:List I}(hb:ai J b=.rows n rs)(hc:ai J c=.rows n [row])(hl:rs.length=len)(hr:row.all I.cell=true)(d:(2*(len+1)+192)*by_<=2 ^ 48) :
  Yh n by_ [.sl b 0 len ex,.sl c 0 1 true] J=.ok (.sl J.length 0 (len+1) false) [c] ([(b,.dead)]++[(J.length,.rows n (rs++[row]))]):=by
 simp_all [Yl,cut,Yh,Qz,yU,AH,XG]
end
end Go.Ah
end
