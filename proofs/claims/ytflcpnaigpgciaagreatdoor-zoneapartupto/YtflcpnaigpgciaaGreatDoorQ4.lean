/- Part of the proof that ZoneApart holds of the program for arguments that together hold at most 1048576 values and letters; no other condition. -/
import Derived.Test.YtflcpnaigpgciaaGreatDoorQ3
set_option linter.all false
section
namespace Go.Ah.Tz
open Go.Proofs.Tryz (prog)
set_option maxRecDepth 100000
def tb:GT:=(.node 192 1 g192 (.node 121 1 g121 (.node 72 3 g72 (.node 57 1 g57 (.node 53 0 g53 (.node 22 5 g22 (.node 18 3 g18 (.node 17 0 g17 .leaf .leaf) .leaf) (.node 27 3 g27 .leaf .leaf)) (.node 55 2 g55 (.node 54 3 g54 .leaf .leaf) (.node 56 2 g56 .leaf .leaf))) (.node 65 1 g65 (.node 59 1 g59 (.node 58 2 g58 .leaf .leaf) (.node 64 7 g64 .leaf .leaf)) (.node 67 1 g67 (.node 66 4 g66 .leaf .leaf) (.node 71 2 g71 .leaf .leaf)))) (.node 111 3 g111 (.node 77 2 g77 (.node 75 3 g75 (.node 74 2 g74 (.node 73 2 g73 .leaf .leaf) .leaf) (.node 76 1 g76 .leaf .leaf)) (.node 96 1 g96 (.node 78 1 g78 .leaf .leaf) (.node 110 1 g110 .leaf .leaf))) (.node 115 2 g115 (.node 113 1 g113 (.node 112 1 g112 .leaf .leaf) (.node 114 1 g114 .leaf .leaf)) (.node 119 2 g119 (.node 118 2 g118 .leaf .leaf) (.node 120 2 g120 .leaf .leaf))))) (.node 155 2 g155 (.node 147 1 g147 (.node 143 1 g143 (.node 130 1 g130 (.node 124 1 g124 (.node 122 1 g122 .leaf .leaf) .leaf) (.node 142 1 g142 .leaf .leaf)) (.node 145 2 g145 (.node 144 4 g144 .leaf .leaf) (.node 146 2 g146 .leaf .leaf))) (.node 151 2 g151 (.node 149 1 g149 (.node 148 2 g148 .leaf .leaf) (.node 150 1 g150 .leaf .leaf)) (.node 153 2 g153 (.node 152 2 g152 .leaf .leaf) (.node 154 2 g154 .leaf .leaf)))) (.node 184 1 g184 (.node 180 1 g180 (.node 178 1 g178 (.node 157 3 g157 (.node 156 2 g156 .leaf .leaf) .leaf) (.node 179 1 g179 .leaf .leaf)) (.node 182 1 g182 (.node 181 1 g181 .leaf .leaf) (.node 183 1 g183 .leaf .leaf))) (.node 188 3 g188 (.node 186 2 g186 (.node 185 2 g185 .leaf .leaf) (.node 187 1 g187 .leaf .leaf)) (.node 190 2 g190 (.node 189 2 g189 .leaf .leaf) (.node 191 1 g191 .leaf .leaf)))))) (.node 235 2 g235 (.node 209 1 g209 (.node 201 2 g201 (.node 197 1 g197 (.node 195 2 g195 (.node 194 1 g194 (.node 193 2 g193 .leaf .leaf) .leaf) (.node 196 2 g196 .leaf .leaf)) (.node 199 0 g199 (.node 198 1 g198 .leaf .leaf) (.node 200 1 g200 .leaf .leaf))) (.node 205 1 g205 (.node 203 2 g203 (.node 202 1 g202 .leaf .leaf) (.node 204 3 g204 .leaf .leaf)) (.node 207 1 g207 (.node 206 1 g206 .leaf .leaf) (.node 208 2 g208 .leaf .leaf)))) (.node 225 1 g225 (.node 221 2 g221 (.node 212 1 g212 (.node 211 2 g211 (.node 210 1 g210 .leaf .leaf) .leaf) (.node 213 2 g213 .leaf .leaf)) (.node 223 1 g223 (.node 222 2 g222 .leaf .leaf) (.node 224 2 g224 .leaf .leaf))) (.node 229 0 g229 (.node 227 1 g227 (.node 226 2 g226 .leaf .leaf) (.node 228 3 g228 .leaf .leaf)) (.node 231 1 g231 (.node 230 1 g230 .leaf .leaf) (.node 232 1 g232 .leaf .leaf))))) (.node 252 1 g252 (.node 244 2 g244 (.node 240 3 g240 (.node 238 2 g238 (.node 237 2 g237 (.node 236 2 g236 .leaf .leaf) .leaf) (.node 239 2 g239 .leaf .leaf)) (.node 242 1 g242 (.node 241 1 g241 .leaf .leaf) (.node 243 2 g243 .leaf .leaf))) (.node 248 1 g248 (.node 246 1 g246 (.node 245 2 g245 .leaf .leaf) (.node 247 1 g247 .leaf .leaf)) (.node 250 2 g250 (.node 249 1 g249 .leaf .leaf) (.node 251 1 g251 .leaf .leaf)))) (.node 260 1 g260 (.node 256 1 g256 (.node 254 1 g254 (.node 253 2 g253 .leaf .leaf) (.node 255 2 g255 .leaf .leaf)) (.node 258 0 g258 (.node 257 1 g257 .leaf .leaf) (.node 259 2 g259 .leaf .leaf))) (.node 264 1 g264 (.node 262 1 g262 (.node 261 3 g261 .leaf .leaf) (.node 263 0 g263 .leaf .leaf)) (.node 266 1 g266 (.node 265 1 g265 .leaf .leaf) (.node 269 1 g269 .leaf .leaf)))))))
theorem ZcF:tb.Ok prog GL0:=⟨g192_ok,⟨g121_ok,⟨g72_ok,⟨g57_ok,⟨g53_ok,⟨g22_ok,⟨g18_ok,⟨g17_ok,trivial,trivial⟩,trivial⟩,⟨g27_ok,trivial,trivial⟩⟩,⟨g55_ok,⟨g54_ok,trivial,trivial⟩,⟨g56_ok,trivial,trivial⟩⟩⟩,⟨g65_ok,⟨g59_ok,⟨g58_ok,trivial,trivial⟩,⟨g64_ok,trivial,trivial⟩⟩,⟨g67_ok,⟨g66_ok,trivial,trivial⟩,⟨g71_ok,trivial,trivial⟩⟩⟩⟩,⟨g111_ok,⟨g77_ok,⟨g75_ok,⟨g74_ok,⟨g73_ok,trivial,trivial⟩,trivial⟩,⟨g76_ok,trivial,trivial⟩⟩,⟨g96_ok,⟨g78_ok,trivial,trivial⟩,⟨g110_ok,trivial,trivial⟩⟩⟩,⟨g115_ok,⟨g113_ok,⟨g112_ok,trivial,trivial⟩,⟨g114_ok,trivial,trivial⟩⟩,⟨g119_ok,⟨g118_ok,trivial,trivial⟩,⟨g120_ok,trivial,trivial⟩⟩⟩⟩⟩,⟨g155_ok,⟨g147_ok,⟨g143_ok,⟨g130_ok,⟨g124_ok,⟨g122_ok,trivial,trivial⟩,trivial⟩,⟨g142_ok,trivial,trivial⟩⟩,⟨g145_ok,⟨g144_ok,trivial,trivial⟩,⟨g146_ok,trivial,trivial⟩⟩⟩,⟨g151_ok,⟨g149_ok,⟨g148_ok,trivial,trivial⟩,⟨g150_ok,trivial,trivial⟩⟩,⟨g153_ok,⟨g152_ok,trivial,trivial⟩,⟨g154_ok,trivial,trivial⟩⟩⟩⟩,⟨g184_ok,⟨g180_ok,⟨g178_ok,⟨g157_ok,⟨g156_ok,trivial,trivial⟩,trivial⟩,⟨g179_ok,trivial,trivial⟩⟩,⟨g182_ok,⟨g181_ok,trivial,trivial⟩,⟨g183_ok,trivial,trivial⟩⟩⟩,⟨g188_ok,⟨g186_ok,⟨g185_ok,trivial,trivial⟩,⟨g187_ok,trivial,trivial⟩⟩,⟨g190_ok,⟨g189_ok,trivial,trivial⟩,⟨g191_ok,trivial,trivial⟩⟩⟩⟩⟩⟩,⟨g235_ok,⟨g209_ok,⟨g201_ok,⟨g197_ok,⟨g195_ok,⟨g194_ok,⟨g193_ok,trivial,trivial⟩,trivial⟩,⟨g196_ok,trivial,trivial⟩⟩,⟨g199_ok,⟨g198_ok,trivial,trivial⟩,⟨g200_ok,trivial,trivial⟩⟩⟩,⟨g205_ok,⟨g203_ok,⟨g202_ok,trivial,trivial⟩,⟨g204_ok,trivial,trivial⟩⟩,⟨g207_ok,⟨g206_ok,trivial,trivial⟩,⟨g208_ok,trivial,trivial⟩⟩⟩⟩,⟨g225_ok,⟨g221_ok,⟨g212_ok,⟨g211_ok,⟨g210_ok,trivial,trivial⟩,trivial⟩,⟨g213_ok,trivial,trivial⟩⟩,⟨g223_ok,⟨g222_ok,trivial,trivial⟩,⟨g224_ok,trivial,trivial⟩⟩⟩,⟨g229_ok,⟨g227_ok,⟨g226_ok,trivial,trivial⟩,⟨g228_ok,trivial,trivial⟩⟩,⟨g231_ok,⟨g230_ok,trivial,trivial⟩,⟨g232_ok,trivial,trivial⟩⟩⟩⟩⟩,⟨g252_ok,⟨g244_ok,⟨g240_ok,⟨g238_ok,⟨g237_ok,⟨g236_ok,trivial,trivial⟩,trivial⟩,⟨g239_ok,trivial,trivial⟩⟩,⟨g242_ok,⟨g241_ok,trivial,trivial⟩,⟨g243_ok,trivial,trivial⟩⟩⟩,⟨g248_ok,⟨g246_ok,⟨g245_ok,trivial,trivial⟩,⟨g247_ok,trivial,trivial⟩⟩,⟨g250_ok,⟨g249_ok,trivial,trivial⟩,⟨g251_ok,trivial,trivial⟩⟩⟩⟩,⟨g260_ok,⟨g256_ok,⟨g254_ok,⟨g253_ok,trivial,trivial⟩,⟨g255_ok,trivial,trivial⟩⟩,⟨g258_ok,⟨g257_ok,trivial,trivial⟩,⟨g259_ok,trivial,trivial⟩⟩⟩,⟨g264_ok,⟨g262_ok,⟨g261_ok,trivial,trivial⟩,⟨g263_ok,trivial,trivial⟩⟩,⟨g266_ok,⟨g265_ok,trivial,trivial⟩,⟨g269_ok,trivial,trivial⟩⟩⟩⟩⟩⟩⟩
end Go.Ah.Tz
end
section
namespace Go.Ah.Tz
open Go.Proofs.Tryz (prog)
set_option maxRecDepth 1000000
theorem hPw:prog.follows .mixedOrders=true:=by kernel_rfl
theorem hT:∀ f np g,tb.get f=some (np,g)→GOk prog GL0 f np g:=GT.get_ok ZcF
def bV:AVal:=(.agg [(.rsl false false 12 [[(.str [73,109,112]),(.bool true),(.int .i64 1),(.int .i64 2),(.int .i64 2),(.int .i64 1),(.int .i64 0),(.int .i64 0),.nils,.nils,.nils,(.int .i64 0)],[(.str [66,97,114,100]),(.bool true),(.int .i64 2),(.int .i64 1),(.int .i64 1),(.int .i64 0),(.int .i64 1),(.int .i64 0),.nils,.nils,.nils,(.int .i64 34)]]),.nils])
def sV:AVal:=(.agg [(.int .i64 1),(.int .i64 0),(.int .i8 0),(.bool false),(.int .i8 0),.nils,(.int .i64 9),(.int .i64 20),(.int .i64 0),(.int .i64 0),.nils,.nils,.nils,(.rsl true false 4 [[(.int .i64 1),(.int .i64 0),(.int .i64 0),(.bool false)],[(.int .i64 2),(.int .i64 1),(.int .i64 0),(.bool false)]]),.nils,(.int .i64 20),(.int .i64 0),(.int .i64 0),(.rsl true false 1 [[(.int .i64 1)],[(.int .i64 0)]]),.nils,.nils,.nils,.nils])
def zV:AVal:=.agg [.int .i64 0,.int .i64 0,.int .i8 0,.bool false,.int .i8 0,.nils,.int .i64 0,.int .i64 0,.int .i64 0,.int .i64 0,.nils,.nils,.nils,.nils,.nils,.int .i64 0,.int .i64 0,.int .i64 0,.nils,.nils,.nils,.nils,.nils]
def v54:AVal:=(.tup [(.int .i64 3),(.int .i64 2),(.bool true)])
def v18:AVal:=(.tup [(.agg [(.int .i64 1),(.int .i64 0),(.int .i8 0),(.bool false),(.int .i8 0),.nils,(.int .i64 9),(.int .i64 19),(.int .i64 0),(.int .i64 0),.nils,.nils,.nils,(.rsl false false 4 [[(.int .i64 1),(.int .i64 0),(.int .i64 0),(.bool false)],[(.int .i64 2),(.int .i64 1),(.int .i64 0),(.bool false)]]),.nils,(.int .i64 20),(.int .i64 0),(.int .i64 0),(.rsl false false 1 [[(.int .i64 1)],[(.int .i64 0)]]),.nils,.nils,.nils,.nils]),(.agg [(.int .i8 3),(.int .i64 0),(.int .i64 (-1)),(.int .i64 0),(.int .i64 0),(.int .i64 0),.nils]),(.int .i64 0)])
def v22:AVal:=(.tup [(.agg [(.int .i64 1),(.int .i64 0),(.int .i8 0),(.bool false),(.int .i8 0),.nils,(.int .i64 9),(.int .i64 20),(.int .i64 0),(.int .i64 0),.nils,.nils,.nils,(.rsl false false 4 [[(.int .i64 1),(.int .i64 0),(.int .i64 2),(.bool false)],[(.int .i64 2),(.int .i64 1),(.int .i64 0),(.bool false)]]),.nils,(.int .i64 20),(.int .i64 0),(.int .i64 0),(.rsl false false 1 [[(.int .i64 1)],[(.int .i64 0)]]),.nils,.nils,.nils,.nils]),(.agg [(.int .i8 5),(.int .i64 0),(.int .i64 0),(.int .i64 1),(.int .i64 0),(.int .i64 2),.nils]),(.int .i64 0)])
theorem p53:PCall prog GL0 53 [] (.tup [bV,sV]):=YY hPw hT (much:=1000000000) 60 (by kernel_rfl)
theorem p54:PCall prog GL0 54 [bV,sV,.int .i64 1] v54:=YY hPw hT (much:=1000000000) 60 (by kernel_rfl)
theorem p18:PCall prog GL0 18 [bV,sV,.int .i64 0] v18:=YY hPw hT (much:=1000000000) 60 (by kernel_rfl)
theorem p22:PCall prog GL0 22 [bV,sV,.int .i64 1,.int .i64 0,.int .i64 3] v22:=YY hPw hT (much:=1000000000) 60 (by kernel_rfl)
theorem p55:PCall prog GL0 55 [bV,sV] (.int .i64 0):=YY hPw hT (much:=1000000000) 60 (by kernel_rfl)
theorem p55z:PCall prog GL0 55 [bV,zV] (.int .i64 170):=YY hPw hT (much:=1000000000) 60 (by kernel_rfl)
def kn17:Known:=[(53,[],.tup [bV,sV]),(54,[bV,sV,.int .i64 1],v54),(18,[bV,sV,.int .i64 0],v18),(22,[bV,sV,.int .i64 1,.int .i64 0,.int .i64 3],v22),(55,[bV,sV],.int .i64 0),(55,[bV,zV],.int .i64 170)]
theorem Qcp:KnOk prog GL0 kn17:=⟨⟨⟨g53_ok.plain,rfl,rfl⟩,p53⟩,⟨⟨g54_ok.plain,rfl,rfl⟩,p54⟩,⟨⟨g18_ok.plain,rfl,rfl⟩,p18⟩,⟨⟨g22_ok.plain,rfl,rfl⟩,p22⟩,⟨⟨g55_ok.plain,rfl,rfl⟩,p55⟩,⟨⟨g55_ok.plain,rfl,rfl⟩,p55z⟩,trivial⟩
theorem p17:PCall prog GL0 17 [] (.bool true):=Xb6 hPw hT (much:=1000000000) Qcp 60 (by kernel_rfl)
end Go.Ah.Tz
end
section
namespace Go.Ah.Tz
@[reducible] def iv(n:Int):AVal:=.int .i64 n
@[reducible] def iv8(n:Int):AVal:=.int .i8 n
def cel(n:Int):List AVal:=[iv n]
@[reducible] def rowV(l:List Int):AVal:=.rsl false false 1 (l.map cel)
structure Th where
 id:Int
 card:Int
 harm:Int
 tired:Bool
 deriving DecidableEq,Inhabited
def thC(t:Th):List AVal:=[iv t.id,iv t.card,iv t.harm,.bool t.tired]
@[reducible] def thV(l:List Th):AVal:=.rsl false false 4 (l.map thC)
structure Sd where
 life:Int
 mana:Int
 most:Int
 deck:List Int
 hand:List Int
 grave:List Int
 units:List Th
 told:List Int
 deriving DecidableEq,Inhabited
@[reducible] def sdC(s:Sd):List AVal:=[iv s.life,iv s.mana,iv s.most,rowV s.deck,rowV s.hand,rowV s.grave,thV s.units,rowV s.told]
structure St where
 turn:Int
 mover:Int
 phase:Int
 struck:Bool
 result:Int
 attack:List Int
 next:Int
 s0:Sd
 s1:Sd
 deriving DecidableEq,Inhabited
@[reducible] def stC(s:St):List AVal:=[iv s.turn,iv s.mover,iv8 s.phase,.bool s.struck,iv8 s.result,rowV s.attack,iv s.next,
 iv s.s0.life,iv s.s0.mana,iv s.s0.most,rowV s.s0.deck,rowV s.s0.hand,rowV s.s0.grave,thV s.s0.units,rowV s.s0.told,
 iv s.s1.life,iv s.s1.mana,iv s.s1.most,rowV s.s1.deck,rowV s.s1.hand,rowV s.s1.grave,thV s.s1.units,rowV s.s1.told]
@[reducible] def stV(s:St):AVal:=.agg (stC s)
theorem Zh{n:Nat}(h:(n:Int) < 4611686018427387904):IntKind.i64.wrap ((n:Int) + 1)=((n + 1:Nat):Int):=by
 rw[IntWalk.i64_in _ (by omega)]; simp
theorem Zw{α:Type}(l:List α)(i:Nat)(h:i < l.length):l.take (i + 1)=l.take i ++ [l[i]]:=by
 rw[List.take_succ_eq_append_getElem h]
theorem YC{α β:Type}(f:α→β)(l:List α)(i:Nat)(h:i < l.length):(l.take i).map f ++ [f l[i]]=(l.take (i + 1)).map f:=by
 rw[Zw l i h,List.map_append]; rfl
end Go.Ah.Tz
end
section
namespace Go.Ah.Tz
abbrev Tx:=List UInt8
inductive Nm where
 | mk (op n who:Int) (kids:List Nm)
 deriving Inhabited
inductive Cn where
 | mk (op who:Int) (name:Tx) (nums:List Nm) (kids:List Cn)
 deriving Inhabited
inductive Ef where
 | mk (op who:Int) (n:Nm) (name:Tx) (c:Cn) (thn els:List Ef)
 deriving Inhabited
def Nm.op:Nm→Int | .mk a _ _ _=>a
def Nm.n:Nm→Int | .mk _ a _ _=>a
def Nm.who:Nm→Int | .mk _ _ a _=>a
def Nm.kids:Nm→List Nm | .mk _ _ _ a=>a
def Cn.op:Cn→Int | .mk a _ _ _ _=>a
def Cn.who:Cn→Int | .mk _ a _ _ _=>a
def Cn.name:Cn→Tx | .mk _ _ a _ _=>a
def Cn.nums:Cn→List Nm | .mk _ _ _ a _=>a
def Cn.kids:Cn→List Cn | .mk _ _ _ _ a=>a
def Ef.op:Ef→Int | .mk a _ _ _ _ _ _=>a
def Ef.who:Ef→Int | .mk _ a _ _ _ _ _=>a
def Ef.n:Ef→Nm | .mk _ _ a _ _ _ _=>a
def Ef.name:Ef→Tx | .mk _ _ _ a _ _ _=>a
def Ef.c:Ef→Cn | .mk _ _ _ _ a _ _=>a
def Ef.thn:Ef→List Ef | .mk _ _ _ _ _ a _=>a
def Ef.els:Ef→List Ef | .mk _ _ _ _ _ _ a=>a
mutual
def nmC:Nm→List AVal
 | .mk op n who kids=>[iv8 op,iv n,iv8 who,.rsl false false 4 (nmsC kids)]
def nmsC:List Nm→List (List AVal)
 | []=>[]
 | x :: l=>nmC x :: nmsC l
end
theorem QbO:∀ l,nmsC l=l.map nmC
 | []=>rfl
 | x :: l=>by simp[nmsC,QbO l]
theorem QD(x:Nm):nmC x=[iv8 x.op,iv x.n,iv8 x.who,.rsl false false 4 (x.kids.map nmC)]:=by
 cases x; simp[nmC,QbO,Nm.op,Nm.n,Nm.who,Nm.kids]
mutual
def cnC:Cn→List AVal
 | .mk op who name nums kids=>[iv8 op,iv8 who,.str name,.rsl false false 4 (nums.map nmC),.rsl false false 5 (cnsC kids)]
def cnsC:List Cn→List (List AVal)
 | []=>[]
 | x :: l=>cnC x :: cnsC l
end
theorem YbN:∀ l,cnsC l=l.map cnC
 | []=>rfl
 | x :: l=>by simp[cnsC,YbN l]
theorem QL(x:Cn):cnC x=[iv8 x.op,iv8 x.who,.str x.name,.rsl false false 4 (x.nums.map nmC),.rsl false false 5 (x.kids.map cnC)]:=by
 cases x; simp[cnC,YbN,Cn.op,Cn.who,Cn.name,Cn.nums,Cn.kids]
mutual
def efC:Ef→List AVal
 | .mk op who n name c thn els=>[iv8 op,iv8 who,iv8 n.op,iv n.n,iv8 n.who,.rsl false false 4 (n.kids.map nmC),.str name,iv8 c.op,iv8 c.who,.str c.name,.rsl false false 4 (c.nums.map nmC),.rsl false false 5 (c.kids.map cnC),.rsl false false 14 (efsC thn),.rsl false false 14 (efsC els)]
def efsC:List Ef→List (List AVal)
 | []=>[]
 | x :: l=>efC x :: efsC l
end
theorem XbL:∀ l,efsC l=l.map efC
 | []=>rfl
 | x :: l=>by simp[efsC,XbL l]
theorem XF(x:Ef):efC x=[iv8 x.op,iv8 x.who,iv8 x.n.op,iv x.n.n,iv8 x.n.who,.rsl false false 4 (x.n.kids.map nmC),.str x.name,iv8 x.c.op,iv8 x.c.who,.str x.c.name,.rsl false false 4 (x.c.nums.map nmC),.rsl false false 5 (x.c.kids.map cnC),.rsl false false 14 (x.thn.map efC),.rsl false false 14 (x.els.map efC)]:=by
 cases x; simp[efC,XbL,Ef.op,Ef.who,Ef.n,Ef.name,Ef.c,Ef.thn,Ef.els]
structure Cd where
 name:Tx
 unit:Bool
 cost:Int
 power:Int
 health:Int
 shield:Int
 aurap:Int
 aurah:Int
 played:List Ef
 dead:List Ef
 dawn:List Ef
 pl:Int
 deriving Inhabited
@[reducible] def efV(l:List Ef):AVal:=.rsl false false 14 (l.map efC)
def cdC(c:Cd):List AVal:=[.str c.name,.bool c.unit,iv c.cost,iv c.power,iv c.health,iv c.shield,iv c.aurap,iv c.aurah,efV c.played,efV c.dead,efV c.dawn,iv c.pl]
def txC(t:Tx):List AVal:=[.str t]
@[reducible] def txV(l:List Tx):AVal:=.rsl false false 1 (l.map txC)
structure Fo where
 name:Tx
 least:Int
 most:Int
 copies:Int
 banned:List Tx
 single:List Tx
 pl:Int
 deriving Inhabited
def foC(f:Fo):List AVal:=[.str f.name,iv f.least,iv f.most,iv f.copies,txV f.banned,txV f.single,iv f.pl]
structure Bk where
 cards:List Cd
 formats:List Fo
 deriving Inhabited
@[reducible] def cdV(l:List Cd):AVal:=.rsl false false 12 (l.map cdC)
@[reducible] def foV(l:List Fo):AVal:=.rsl false false 7 (l.map foC)
@[reducible] def bkV(b:Bk):AVal:=.agg [cdV b.cards,foV b.formats]
end Go.Ah.Tz
end
section
namespace Go.Ah.Tz
open Go.Proofs.Tryz (prog)
theorem hP:prog.follows .mixedOrders=true:=by kernel_rfl
theorem c62(a b:List Int)(ha:a.length < 4611686018427387904):PCall prog GL0 62 [rowV a,rowV b] (.bool (decide (a=b))):=by
 refine Zf hP g62_ok rfl rfl ?_
 simp only[g62,Zi,Yas,Xaa,Yao,List.length_map]
 refine⟨fun h=>?_,fun h=>?_⟩
 ·simp at h ⊢; rintro rfl; exact h rfl
 have hl:a.length=b.length:=by simp at h; omega
 refine Xm (ι:=Nat) (fun i vs s=>vs=[iv i]∧i≤a.length∧a.take i=b.take i) (fun i=>a.length - i) 0 ⟨rfl,by omega,by simp⟩ ?_
 rintro i vs s again ⟨rfl,hi,ht⟩ hag
 simp only[Yas,h0,hdV,QG,Yao]
 refine⟨fun h=>?_,fun h=>?_⟩
 ·have h:i < a.length:=by simpa using h
  simp[Qo _ cel _ _ _ a _ i h,Qo _ cel _ _ _ b _ i (by omega),cel,Zh (n:=i) (by omega)]
  refine⟨fun hne e=>?_,fun he=>?_⟩
  ·subst e; exact hne rfl
  ·refine hag (i + 1) _ _ (by omega) ⟨rfl,by omega,?_⟩
   rw[List.take_succ_eq_append_getElem h,List.take_succ_eq_append_getElem (by omega),ht,he]
 ·have h:¬ i < a.length:=by simpa using h
  rw[List.take_of_length_le (by omega),List.take_of_length_le (by omega)] at ht
  simp[ht]
def Grows(n:Nat)(rows:List (List AVal))(k:Nat)(v:AVal)(σ:List ABlk):Prop:=
 (k=0∧v=.nils∧rows=[])∨(0 < k∧∃ b,v=.sl b 0 k false∧hget σ b=.rows n rows∧rows.length=k)
theorem Grows.nil(n:Nat)(σ:List ABlk):Grows n [] 0 .nils σ:=.inl ⟨rfl,rfl,rfl⟩
theorem Grows.app{α:Type}(A:Ans α){hold:α→Prop}{n by_ k:Nat}{rows:List (List AVal)}{v:AVal}{σ:List ABlk}{row:List AVal}(hg:Grows n rows k v σ)(hr:row.all AVal.cell=true)(hroom:(2 * (k + 1) + 192) * by_≤2 ^ 48)(K:AVal→List ABlk→α)
 (hK:∀ v' σ',Grows n (rows ++ [row]) (k + 1) v' σ'→hold (K v' σ')):hold (A.wr (Yk n by_ [v,.sl σ.length 0 1 true] (σ ++ [.rows n [row]])) (σ ++ [.rows n [row]]) K):=by
 rcases hg with ⟨rfl,rfl,rfl⟩ | ⟨hk,b,rfl,hb,hl⟩
 ·rw[ZaT A n by_ σ row hr (by simpa using hroom)]
  exact hK _ _ (.inr ⟨by omega,_,rfl,by have:=Xn (σ ++ [.rows n [row]]) (.rows n [row]); simpa using this,rfl⟩)
 ·rw[YaQ A n by_ σ b k false rows row hb hl hr hroom]
  refine hK _ _ (.inr ⟨by omega,_,rfl,?_,by simp[hl]⟩)
  have:=Xn (σ.set b .dead ++ [.rows n [row]]) (.rows n (rows ++ [row]))
  simpa using this
theorem Q0{α:Type}{f:α→List AVal}{l:List α}{m:Nat→Option Nat}(h:∀ x,(f x).map (AVal.ren m)=f x):(l.map f).map (fun r=>r.map (AVal.ren m))=l.map f:=by
 rw[List.map_map]; apply List.map_congr_left; intro x _; exact h x
theorem Grows.tidy{α:Type}{n k:Nat}{v:AVal}{σ:List ABlk}{f:α→List AVal}{l:List α}(hg:Grows n (l.map f) k v σ)(hk:k=l.length)(hf:∀ (m:Nat→Option Nat) x,(f x).map (AVal.ren m)=f x):Tidy σ v [.rows n (l.map f)] (.sl 0 0 l.length false):=by
 rcases hg with ⟨h1,rfl,h3⟩ | ⟨hpos,b,rfl,hb,hl⟩
 ·have hl:l=[]:=by simpa using h3
  subst hl
  refine(Tidy.ghost n (.inl rfl)).trans ?_
  have:=Tidy.one (σ:=σ ++ [.rows n []]) (b:=σ.length) (blk:=.rows n []) (by simp) (fun x=>if x=σ.length then some 0 else none) (fun _=>rfl) (.sl σ.length 0 0 false)
  simpa using this
 ·subst hk
  have:=Tidy.one (σ:=σ) (b:=b) (QZ hb (by simp)) (fun x=>if x=b then some 0 else none) (fun _=>rfl) (.sl b 0 l.length false)
  simp only[ABlk.mapV,AVal.ren,if_true] at this
  rwa [Q0 (hf _)] at this
theorem XbE(m:Nat→Option Nat)(x:Int):(cel x).map (AVal.ren m)=cel x:=rfl
theorem YbF(m:Nat→Option Nat)(x:Th):(thC x).map (AVal.ren m)=thC x:=rfl
theorem c60(l:List Int)(hl:l.length≤1000000000):NCall prog GL0 60 [rowV l] (.sl 0 0 l.length false) [.rows 1 (l.map cel)]:=by
 refine Qw hP g60_ok rfl ?_
 simp only[g60]
 refine Xm (ι:=Nat) (fun i vs s=>∃ v,vs=[iv i,v]∧i≤l.length∧Grows 1 ((l.take i).map cel) i v s) (fun i=>l.length - i) 0 ⟨_,rfl,by omega,Grows.nil _ _⟩ ?_
 rintro i vs s again ⟨v,rfl,hi,hg⟩ hag
 simp only[Zi,Yas,h0,h1,hdV,tlV,QG,Yao,List.length_map]
 refine⟨fun h=>?_,fun h=>?_⟩
 ·have h:i < l.length:=by simpa using h
  simp only[Qo _ cel _ _ _ l _ i h,Yas,Zau,partA,cel,nth]
  rw[XW _ _ _ _ _ [iv l[i]] rfl rfl]
  refine hg.app _ (hold:=fun p=>p) rfl (by omega) _ (fun v' σ' hg'=>?_)
  simp only[Yn,Yas,Zh (n:=i) (by omega)]
  exact hag (i + 1) _ _ (by omega) ⟨v',rfl,by omega,by rw[← YC _ _ _ h]; exact hg'⟩
 ·have h:¬ i < l.length:=by simpa using h
  have:i=l.length:=by omega
  subst this
  rw[List.take_length] at hg
  exact hg.tidy rfl XbE
end Go.Ah.Tz
end
section
namespace Go.Ah.Tz
open Go.Proofs.Tryz (prog)
theorem c63(a b:List Th)(ha:a.length < 4611686018427387904):PCall prog GL0 63 [thV a,thV b] (.bool (decide (a=b))):=by
 refine Zf hP g63_ok rfl rfl ?_
 simp only[g63,Zi,Yas,Xaa,Yao,List.length_map]
 refine⟨fun h=>?_,fun h=>?_⟩
 ·simp at h ⊢; rintro rfl; exact h rfl
 have hl:a.length=b.length:=by simp at h; omega
 refine Xm (ι:=Nat) (fun i vs s=>vs=[iv i]∧i≤a.length∧a.take i=b.take i) (fun i=>a.length - i) 0 ⟨rfl,by omega,by simp⟩ ?_
 rintro i vs s again ⟨rfl,hi,ht⟩ hag
 simp only[Yas,h0,hdV,QG,Yao]
 refine⟨fun h=>?_,fun h=>?_⟩
 ·have h:i < a.length:=by simpa using h
  have hq:QbJ true [false,false,false,true] [.agg (thC a[i]),.agg (thC b[i])] s=.ok (.bool (!decide (a[i]=b[i]))) [] []:=by
   have:(decide (a[i]=b[i]))=((a[i].id == b[i].id) && ((a[i].card == b[i].card) && ((a[i].harm == b[i].harm) && ((a[i].tired == b[i].tired) && true)))):=by
    rw[Bool.eq_iff_iff]
    cases h1:a[i]; cases h2:b[i]; simp
   simp[QbJ,ZJ,ZaL,thC,this]
  simp only[Qo _ thC _ _ _ a _ i h,Qo _ thC _ _ _ b _ i (by omega),Yas,Zau,partA,show ∀ x,takeN 4 (dropN 0 (thC x))=some (thC x) from fun _=>rfl,hq,Yao,Yn,Zh (n:=i) (by omega)]
  refine⟨fun hne=>?_,fun he=>?_⟩
  ·simp at hne ⊢; intro e; subst e; exact hne rfl
  ·refine hag (i + 1) _ _ (by omega) ⟨rfl,by omega,?_⟩
   rw[List.take_succ_eq_append_getElem h,List.take_succ_eq_append_getElem (by omega),ht,show a[i]=b[i] by simpa using he]
 ·have h:¬ i < a.length:=by simpa using h
  rw[List.take_of_length_le (by omega),List.take_of_length_le (by omega)] at ht
  simp[ht]
theorem c61(l:List Th)(hl:l.length≤1000000000):NCall prog GL0 61 [thV l] (.sl 0 0 l.length false) [.rows 4 (l.map thC)]:=by
 refine Qw hP g61_ok rfl ?_
 simp only[g61]
 refine Xm (ι:=Nat) (fun i vs s=>∃ v,vs=[iv i,v]∧i≤l.length∧Grows 4 ((l.take i).map thC) i v s) (fun i=>l.length - i) 0 ⟨_,rfl,by omega,Grows.nil _ _⟩ ?_
 rintro i vs s again ⟨v,rfl,hi,hg⟩ hag
 simp only[Zi,Yas,h0,h1,hdV,tlV,QG,Yao,List.length_map]
 refine⟨fun h=>?_,fun h=>?_⟩
 ·have h:i < l.length:=by simpa using h
  simp only[Qo _ thC _ _ _ l _ i h,Yas,Zau,partA,show ∀ x,takeN 4 (dropN 0 (thC x))=some (thC x) from fun _=>rfl]
  rw[XW _ _ _ _ _ (thC l[i]) rfl rfl]
  refine hg.app _ (hold:=fun p=>p) rfl (by omega) _ (fun v' σ' hg'=>?_)
  simp only[Yn,Yas,Zh (n:=i) (by omega)]
  exact hag (i + 1) _ _ (by omega) ⟨v',rfl,by omega,by rw[← YC _ _ _ h]; exact hg'⟩
 ·have h:¬ i < l.length:=by simpa using h
  have:i=l.length:=by omega
  subst this
  rw[List.take_length] at hg
  exact hg.tidy rfl YbF
end Go.Ah.Tz
end
section
namespace Go.Ah.Tz
open Go.Proofs.Tryz (prog)
attribute [local irreducible] Ans.rd Ans.pu Ans.wr Ans.dr Ans.gr Ans.gw Ans.gl Ans.gd Ans.opt joinK W
structure SdLe (n:Nat) (s:Sd):Prop where
 deck:s.deck.length≤n
 hand:s.hand.length≤n
 grave:s.grave.length≤n
 units:s.units.length≤n
 told:s.told.length≤n
structure StLe (n:Nat) (s:St):Prop where
 attack:s.attack.length≤n
 s0:SdLe n s.s0
 s1:SdLe n s.s1
theorem Z2{a b:Sd}:a=b↔a.life=b.life∧a.mana=b.mana∧a.most=b.most∧a.deck=b.deck∧a.hand=b.hand∧a.grave=b.grave∧a.told=b.told∧a.units=b.units:=by
 cases a; cases b
 simp only[Sd.mk.injEq]
 constructor
 ·rintro⟨h1,h2,h3,h4,h5,h6,h7,h8⟩; exact⟨h1,h2,h3,h4,h5,h6,h8,h7⟩
 ·rintro⟨h1,h2,h3,h4,h5,h6,h7,h8⟩; exact⟨h1,h2,h3,h4,h5,h6,h8,h7⟩
theorem QM{a b:St}:a=b↔a.turn=b.turn∧a.mover=b.mover∧a.phase=b.phase∧a.struck=b.struck∧a.result=b.result∧a.next=b.next∧a.attack=b.attack∧a.s0=b.s0∧a.s1=b.s1:=by
 cases a; cases b
 simp only[St.mk.injEq]
 constructor
 ·rintro⟨h1,h2,h3,h4,h5,h6,h7,h8,h9⟩; exact⟨h1,h2,h3,h4,h5,h7,h6,h8,h9⟩
 ·rintro⟨h1,h2,h3,h4,h5,h6,h7,h8,h9⟩; exact⟨h1,h2,h3,h4,h5,h7,h6,h8,h9⟩
set_option maxHeartbeats 1000000
set_option maxRecDepth 10000
theorem c20(a b:St)(ha:StLe 1000000000 a):PCall prog GL0 20 [stV a,stV b] (.bool (decide (a=b))):=by
 refine Zf hP g20_ok rfl rfl ?_
 unfold g20
 repeat (first | refine Za rfl ?_ | refine Ye rfl rfl ?_)
 rcases Bool.eq_false_or_eq_true (a.turn != b.turn) with h0 | h0
 ·rw[h0]
  (repeat (first | refine Yb rfl ?_ | refine Yc rfl ?_ | refine Yd rfl ?_ | refine Qd rfl ?_ | refine Za rfl ?_ | refine Ye rfl rfl ?_)); refine Xe ?_; simp at h0; simp[QM,h0]
 rw[h0]
 repeat (first | refine Xa ?_ | refine Zb ?_ | refine Za rfl ?_ | refine Ye rfl rfl ?_)
 rcases Bool.eq_false_or_eq_true (a.mover != b.mover) with h1 | h1
 ·rw[h1]
  (repeat (first | refine Yb rfl ?_ | refine Yc rfl ?_ | refine Yd rfl ?_ | refine Qd rfl ?_ | refine Za rfl ?_ | refine Ye rfl rfl ?_)); refine Xe ?_; simp at h1; simp[QM,h1]
 rw[h1]
 repeat (first | refine Xa ?_ | refine Zb ?_ | refine Za rfl ?_ | refine Ye rfl rfl ?_)
 rcases Bool.eq_false_or_eq_true (a.phase != b.phase) with h2 | h2
 ·rw[h2]
  (repeat (first | refine Yb rfl ?_ | refine Yc rfl ?_ | refine Yd rfl ?_ | refine Qd rfl ?_ | refine Za rfl ?_ | refine Ye rfl rfl ?_)); refine Xe ?_; simp at h2; simp[QM,h2]
 rw[h2]
 repeat (first | refine Xa ?_ | refine Zb ?_ | refine Za rfl ?_ | refine Ye rfl rfl ?_)
 rcases Bool.eq_false_or_eq_true (!(a.struck == b.struck)) with h3 | h3
 ·rw[h3]
  (repeat (first | refine Yb rfl ?_ | refine Yc rfl ?_ | refine Yd rfl ?_ | refine Qd rfl ?_ | refine Za rfl ?_ | refine Ye rfl rfl ?_)); refine Xe ?_; simp at h3; simp[QM,h3]
 rw[h3]
 repeat (first | refine Xa ?_ | refine Zb ?_ | refine Za rfl ?_ | refine Ye rfl rfl ?_)
 rcases Bool.eq_false_or_eq_true (a.result != b.result) with h4 | h4
 ·rw[h4]
  (repeat (first | refine Yb rfl ?_ | refine Yc rfl ?_ | refine Yd rfl ?_ | refine Qd rfl ?_ | refine Za rfl ?_ | refine Ye rfl rfl ?_)); refine Xe ?_; simp at h4; simp[QM,h4]
 rw[h4]
 repeat (first | refine Xa ?_ | refine Zb ?_ | refine Za rfl ?_ | refine Ye rfl rfl ?_)
 rcases Bool.eq_false_or_eq_true (a.next != b.next) with h5 | h5
 ·rw[h5]
  (repeat (first | refine Yb rfl ?_ | refine Yc rfl ?_ | refine Yd rfl ?_ | refine Qd rfl ?_ | refine Za rfl ?_ | refine Ye rfl rfl ?_)); refine Xe ?_; simp at h5; simp[QM,h5]
 rw[h5]
 repeat (first | refine Xa ?_ | refine Zb ?_ | refine Za rfl ?_ | refine Ye rfl rfl ?_)
 refine Zd (c62 _ _ (by have:=ha.attack; omega)) rfl g62_ok.plain rfl ?_
 repeat (first | refine Xa ?_ | refine Za rfl ?_)
 rcases Bool.eq_false_or_eq_true (!decide (a.attack=b.attack)) with h6 | h6
 ·rw[h6]
  refine Xe ?_; simp at h6; simp[QM,h6]
 rw[h6]
 refine Yh ?_
 have w1:IntKind.i64.wrap (0 + 1)=1:=by decide
 have w2:IntKind.i64.wrap (1 + 1)=2:=by decide
 refine QA 3 (Qj ?_)
 refine Za rfl (Xe ?_)
 repeat (first | refine Xa ?_ | refine Zb ?_ | refine Za rfl ?_ | refine Xf rfl ?_ | refine Qh rfl rfl ?_ | refine Ye rfl rfl ?_)
 refine Yy (by kernel_rfl) ?_
 repeat (first | refine Xa ?_ | refine Zb ?_ | refine Za rfl ?_ | refine Xf rfl ?_ | refine Qh rfl rfl ?_ | refine Ye rfl rfl ?_)
 rcases Bool.eq_false_or_eq_true (a.s0.life != b.s0.life) with h7 | h7
 ·rw[h7]
  (repeat (first | refine Yb rfl ?_ | refine Yc rfl ?_ | refine Yd rfl ?_ | refine Qd rfl ?_ | refine Za rfl ?_ | refine Ye rfl rfl ?_)); refine Xe ?_; simp at h7; simp[QM,Z2,h7]
 rw[h7]
 repeat (first | refine Xa ?_ | refine Zb ?_ | refine Za rfl ?_ | refine Xf rfl ?_ | refine Qh rfl rfl ?_ | refine Ye rfl rfl ?_)
 rcases Bool.eq_false_or_eq_true (a.s0.mana != b.s0.mana) with h8 | h8
 ·rw[h8]
  (repeat (first | refine Yb rfl ?_ | refine Yc rfl ?_ | refine Yd rfl ?_ | refine Qd rfl ?_ | refine Za rfl ?_ | refine Ye rfl rfl ?_)); refine Xe ?_; simp at h8; simp[QM,Z2,h8]
 rw[h8]
 repeat (first | refine Xa ?_ | refine Zb ?_ | refine Za rfl ?_ | refine Xf rfl ?_ | refine Qh rfl rfl ?_ | refine Ye rfl rfl ?_)
 rcases Bool.eq_false_or_eq_true (a.s0.most != b.s0.most) with h9 | h9
 ·rw[h9]
  (repeat (first | refine Yb rfl ?_ | refine Yc rfl ?_ | refine Yd rfl ?_ | refine Qd rfl ?_ | refine Za rfl ?_ | refine Ye rfl rfl ?_)); refine Xe ?_; simp at h9; simp[QM,Z2,h9]
 rw[h9]
 repeat (first | refine Xa ?_ | refine Zb ?_ | refine Za rfl ?_ | refine Xf rfl ?_ | refine Qh rfl rfl ?_ | refine Ye rfl rfl ?_)
 refine Zd (c62 _ _ (by have:=ha.s0.deck; omega)) rfl g62_ok.plain rfl ?_
 repeat (first | refine Xa ?_ | refine Zb ?_ | refine Za rfl ?_ | refine Xf rfl ?_ | refine Qh rfl rfl ?_ | refine Ye rfl rfl ?_)
 rcases Bool.eq_false_or_eq_true (!decide (a.s0.deck=b.s0.deck)) with h10 | h10
 ·rw[h10]
  (repeat (first | refine Yb rfl ?_ | refine Yc rfl ?_ | refine Yd rfl ?_ | refine Qd rfl ?_ | refine Za rfl ?_ | refine Ye rfl rfl ?_)); refine Xe ?_; simp at h10; simp[QM,Z2,h10]
 rw[h10]
 repeat (first | refine Xa ?_ | refine Zb ?_ | refine Za rfl ?_ | refine Xf rfl ?_ | refine Qh rfl rfl ?_ | refine Ye rfl rfl ?_)
 refine Zd (c62 _ _ (by have:=ha.s0.hand; omega)) rfl g62_ok.plain rfl ?_
 repeat (first | refine Xa ?_ | refine Zb ?_ | refine Za rfl ?_ | refine Xf rfl ?_ | refine Qh rfl rfl ?_ | refine Ye rfl rfl ?_)
 rcases Bool.eq_false_or_eq_true (!decide (a.s0.hand=b.s0.hand)) with h11 | h11
 ·rw[h11]
  (repeat (first | refine Yb rfl ?_ | refine Yc rfl ?_ | refine Yd rfl ?_ | refine Qd rfl ?_ | refine Za rfl ?_ | refine Ye rfl rfl ?_)); refine Xe ?_; simp at h11; simp[QM,Z2,h11]
 rw[h11]
 repeat (first | refine Xa ?_ | refine Zb ?_ | refine Za rfl ?_ | refine Xf rfl ?_ | refine Qh rfl rfl ?_ | refine Ye rfl rfl ?_)
 refine Zd (c62 _ _ (by have:=ha.s0.grave; omega)) rfl g62_ok.plain rfl ?_
 repeat (first | refine Xa ?_ | refine Zb ?_ | refine Za rfl ?_ | refine Xf rfl ?_ | refine Qh rfl rfl ?_ | refine Ye rfl rfl ?_)
 rcases Bool.eq_false_or_eq_true (!decide (a.s0.grave=b.s0.grave)) with h12 | h12
 ·rw[h12]
  (repeat (first | refine Yb rfl ?_ | refine Yc rfl ?_ | refine Yd rfl ?_ | refine Qd rfl ?_ | refine Za rfl ?_ | refine Ye rfl rfl ?_)); refine Xe ?_; simp at h12; simp[QM,Z2,h12]
 rw[h12]
 repeat (first | refine Xa ?_ | refine Zb ?_ | refine Za rfl ?_ | refine Xf rfl ?_ | refine Qh rfl rfl ?_ | refine Ye rfl rfl ?_)
 refine Zd (c62 _ _ (by have:=ha.s0.told; omega)) rfl g62_ok.plain rfl ?_
 repeat (first | refine Xa ?_ | refine Zb ?_ | refine Za rfl ?_ | refine Xf rfl ?_ | refine Qh rfl rfl ?_ | refine Ye rfl rfl ?_)
 rcases Bool.eq_false_or_eq_true (!decide (a.s0.told=b.s0.told)) with h13 | h13
 ·rw[h13]
  (repeat (first | refine Yb rfl ?_ | refine Yc rfl ?_ | refine Yd rfl ?_ | refine Qd rfl ?_ | refine Za rfl ?_ | refine Ye rfl rfl ?_)); refine Xe ?_; simp at h13; simp[QM,Z2,h13]
 rw[h13]
 repeat (first | refine Xa ?_ | refine Zb ?_ | refine Za rfl ?_ | refine Xf rfl ?_ | refine Qh rfl rfl ?_ | refine Ye rfl rfl ?_)
 refine Zd (c63 _ _ (by have:=ha.s0.units; omega)) rfl g63_ok.plain rfl ?_
 repeat (first | refine Xa ?_ | refine Zb ?_ | refine Za rfl ?_ | refine Xf rfl ?_ | refine Qh rfl rfl ?_ | refine Ye rfl rfl ?_)
 rcases Bool.eq_false_or_eq_true (!decide (a.s0.units=b.s0.units)) with h14 | h14
 ·rw[h14]
  (repeat (first | refine Yb rfl ?_ | refine Yc rfl ?_ | refine Yd rfl ?_ | refine Qd rfl ?_ | refine Za rfl ?_ | refine Ye rfl rfl ?_)); refine Xe ?_; simp at h14; simp[QM,Z2,h14]
 rw[h14]
 repeat (first | refine Xa ?_ | refine Zb ?_ | refine Za rfl ?_ | refine Xf rfl ?_ | refine Qh rfl rfl ?_ | refine Ye rfl rfl ?_)
 refine Yh (Za rfl ?_)
 rw[w1]
 refine Qj ?_
 refine Za rfl (Xe ?_)
 repeat (first | refine Xa ?_ | refine Zb ?_ | refine Za rfl ?_ | refine Xf rfl ?_ | refine Qh rfl rfl ?_ | refine Ye rfl rfl ?_)
 refine Yy (by kernel_rfl) ?_
 repeat (first | refine Xa ?_ | refine Zb ?_ | refine Za rfl ?_ | refine Xf rfl ?_ | refine Qh rfl rfl ?_ | refine Ye rfl rfl ?_)
 rcases Bool.eq_false_or_eq_true (a.s1.life != b.s1.life) with h15 | h15
 ·rw[h15]
  (repeat (first | refine Yb rfl ?_ | refine Yc rfl ?_ | refine Yd rfl ?_ | refine Qd rfl ?_ | refine Za rfl ?_ | refine Ye rfl rfl ?_)); refine Xe ?_; simp at h15; simp[QM,Z2,h15]
 rw[h15]
 repeat (first | refine Xa ?_ | refine Zb ?_ | refine Za rfl ?_ | refine Xf rfl ?_ | refine Qh rfl rfl ?_ | refine Ye rfl rfl ?_)
 rcases Bool.eq_false_or_eq_true (a.s1.mana != b.s1.mana) with h16 | h16
 ·rw[h16]
  (repeat (first | refine Yb rfl ?_ | refine Yc rfl ?_ | refine Yd rfl ?_ | refine Qd rfl ?_ | refine Za rfl ?_ | refine Ye rfl rfl ?_)); refine Xe ?_; simp at h16; simp[QM,Z2,h16]
 rw[h16]
 repeat (first | refine Xa ?_ | refine Zb ?_ | refine Za rfl ?_ | refine Xf rfl ?_ | refine Qh rfl rfl ?_ | refine Ye rfl rfl ?_)
 rcases Bool.eq_false_or_eq_true (a.s1.most != b.s1.most) with h17 | h17
 ·rw[h17]
  (repeat (first | refine Yb rfl ?_ | refine Yc rfl ?_ | refine Yd rfl ?_ | refine Qd rfl ?_ | refine Za rfl ?_ | refine Ye rfl rfl ?_)); refine Xe ?_; simp at h17; simp[QM,Z2,h17]
 rw[h17]
 repeat (first | refine Xa ?_ | refine Zb ?_ | refine Za rfl ?_ | refine Xf rfl ?_ | refine Qh rfl rfl ?_ | refine Ye rfl rfl ?_)
 refine Zd (c62 _ _ (by have:=ha.s1.deck; omega)) rfl g62_ok.plain rfl ?_
 repeat (first | refine Xa ?_ | refine Zb ?_ | refine Za rfl ?_ | refine Xf rfl ?_ | refine Qh rfl rfl ?_ | refine Ye rfl rfl ?_)
 rcases Bool.eq_false_or_eq_true (!decide (a.s1.deck=b.s1.deck)) with h18 | h18
 ·rw[h18]
  (repeat (first | refine Yb rfl ?_ | refine Yc rfl ?_ | refine Yd rfl ?_ | refine Qd rfl ?_ | refine Za rfl ?_ | refine Ye rfl rfl ?_)); refine Xe ?_; simp at h18; simp[QM,Z2,h18]
 rw[h18]
 repeat (first | refine Xa ?_ | refine Zb ?_ | refine Za rfl ?_ | refine Xf rfl ?_ | refine Qh rfl rfl ?_ | refine Ye rfl rfl ?_)
 refine Zd (c62 _ _ (by have:=ha.s1.hand; omega)) rfl g62_ok.plain rfl ?_
 repeat (first | refine Xa ?_ | refine Zb ?_ | refine Za rfl ?_ | refine Xf rfl ?_ | refine Qh rfl rfl ?_ | refine Ye rfl rfl ?_)
 rcases Bool.eq_false_or_eq_true (!decide (a.s1.hand=b.s1.hand)) with h19 | h19
 ·rw[h19]
  (repeat (first | refine Yb rfl ?_ | refine Yc rfl ?_ | refine Yd rfl ?_ | refine Qd rfl ?_ | refine Za rfl ?_ | refine Ye rfl rfl ?_)); refine Xe ?_; simp at h19; simp[QM,Z2,h19]
 rw[h19]
 repeat (first | refine Xa ?_ | refine Zb ?_ | refine Za rfl ?_ | refine Xf rfl ?_ | refine Qh rfl rfl ?_ | refine Ye rfl rfl ?_)
 refine Zd (c62 _ _ (by have:=ha.s1.grave; omega)) rfl g62_ok.plain rfl ?_
 repeat (first | refine Xa ?_ | refine Zb ?_ | refine Za rfl ?_ | refine Xf rfl ?_ | refine Qh rfl rfl ?_ | refine Ye rfl rfl ?_)
 rcases Bool.eq_false_or_eq_true (!decide (a.s1.grave=b.s1.grave)) with h20 | h20
 ·rw[h20]
  (repeat (first | refine Yb rfl ?_ | refine Yc rfl ?_ | refine Yd rfl ?_ | refine Qd rfl ?_ | refine Za rfl ?_ | refine Ye rfl rfl ?_)); refine Xe ?_; simp at h20; simp[QM,Z2,h20]
 rw[h20]
 repeat (first | refine Xa ?_ | refine Zb ?_ | refine Za rfl ?_ | refine Xf rfl ?_ | refine Qh rfl rfl ?_ | refine Ye rfl rfl ?_)
 refine Zd (c62 _ _ (by have:=ha.s1.told; omega)) rfl g62_ok.plain rfl ?_
 repeat (first | refine Xa ?_ | refine Zb ?_ | refine Za rfl ?_ | refine Xf rfl ?_ | refine Qh rfl rfl ?_ | refine Ye rfl rfl ?_)
 rcases Bool.eq_false_or_eq_true (!decide (a.s1.told=b.s1.told)) with h21 | h21
 ·rw[h21]
  (repeat (first | refine Yb rfl ?_ | refine Yc rfl ?_ | refine Yd rfl ?_ | refine Qd rfl ?_ | refine Za rfl ?_ | refine Ye rfl rfl ?_)); refine Xe ?_; simp at h21; simp[QM,Z2,h21]
 rw[h21]
 repeat (first | refine Xa ?_ | refine Zb ?_ | refine Za rfl ?_ | refine Xf rfl ?_ | refine Qh rfl rfl ?_ | refine Ye rfl rfl ?_)
 refine Zd (c63 _ _ (by have:=ha.s1.units; omega)) rfl g63_ok.plain rfl ?_
 repeat (first | refine Xa ?_ | refine Zb ?_ | refine Za rfl ?_ | refine Xf rfl ?_ | refine Qh rfl rfl ?_ | refine Ye rfl rfl ?_)
 rcases Bool.eq_false_or_eq_true (!decide (a.s1.units=b.s1.units)) with h22 | h22
 ·rw[h22]
  (repeat (first | refine Yb rfl ?_ | refine Yc rfl ?_ | refine Yd rfl ?_ | refine Qd rfl ?_ | refine Za rfl ?_ | refine Ye rfl rfl ?_)); refine Xe ?_; simp at h22; simp[QM,Z2,h22]
 rw[h22]
 repeat (first | refine Xa ?_ | refine Zb ?_ | refine Za rfl ?_ | refine Xf rfl ?_ | refine Qh rfl rfl ?_ | refine Ye rfl rfl ?_)
 refine Yh (Za rfl ?_)
 rw[w2]
 refine Qj ?_
 refine Za rfl (Yh ?_)
 simp at h0 h1 h2 h3 h4 h5 h6 h7 h8 h9 h10 h11 h12 h13 h14 h15 h16 h17 h18 h19 h20 h21 h22
 have e:a=b:=QM.2 ⟨h0,h1,h2,h3,h4,h5,h6,Z2.2 ⟨h7,h8,h9,h10,h11,h12,h13,h14⟩,Z2.2 ⟨h15,h16,h17,h18,h19,h20,h21,h22⟩⟩
 simp[e]
end Go.Ah.Tz
end
section
namespace Go.Ah.Tz
open Go.Proofs.Tryz (prog)
theorem Zr(m:Nat→Option Nat)(l:List Int):(ABlk.rows 1 (l.map cel)).mapV (AVal.ren m)=.rows 1 (l.map cel):=by
 simp only[ABlk.mapV,Q0 (XbE m)]
theorem Qak(m:Nat→Option Nat)(l:List Th):(ABlk.rows 4 (l.map thC)).mapV (AVal.ren m)=.rows 4 (l.map thC):=by
 simp only[ABlk.mapV,Q0 (YbF m)]
theorem w60{l:List Int}(hl:l.length≤1000000000){σ:List ABlk}{K:AVal→List ABlk→Prop}(hK:K (.sl σ.length 0 l.length false) (σ ++ [.rows 1 (l.map cel)])):(W prog GL0).call (.call 60) [rowV l] σ K:=by
 refine Yaw (c60 l hl) rfl g60_ok.plain rfl ?_
 simp only[Xu,List.map_cons,List.map_nil,Zr,AVal.ren,Qz,Nat.zero_add]
 exact hK
theorem d60{l:List Int}(hl:l.length≤1000000000){σ:List ABlk}{K:AVal→List Nat × List Nat→List ABlk→Prop}(hK:K (.sl σ.length 0 l.length false) ([],[σ.length]) (σ ++ [.rows 1 (l.map cel)])):(W prog GL0).dcall (.call 60) [rowV l] σ K:=by
 refine Yag (c60 l hl) rfl g60_ok.plain rfl ?_
 simp only[Xu,List.map_cons,List.map_nil,Zr,AVal.ren,Qz,Nat.zero_add,QH]
 exact hK
theorem d61{l:List Th}(hl:l.length≤1000000000){σ:List ABlk}{K:AVal→List Nat × List Nat→List ABlk→Prop}(hK:K (.sl σ.length 0 l.length false) ([],[σ.length]) (σ ++ [.rows 4 (l.map thC)])):(W prog GL0).dcall (.call 61) [thV l] σ K:=by
 refine Yag (c61 l hl) rfl g61_ok.plain rfl ?_
 simp only[Xu,List.map_cons,List.map_nil,Qak,AVal.ren,Qz,Nat.zero_add,QH]
 exact hK
attribute [local irreducible] Ans.rd Ans.pu Ans.wr Ans.dr Ans.gr Ans.gw Ans.gl Ans.gd Ans.opt joinK W
@[reducible] def sdO(s:Sd)(b:Nat):List AVal:=[iv s.life,iv s.mana,iv s.most,.sl b 0 s.deck.length false,.sl (b + 1) 0 s.hand.length false,.sl (b + 2) 0 s.grave.length false,.sl (b + 3) 0 s.units.length false,.sl (b + 4) 0 s.told.length false]
@[reducible] def sdB(s:Sd):List ABlk:=[.rows 1 (s.deck.map cel),.rows 1 (s.hand.map cel),.rows 1 (s.grave.map cel),.rows 4 (s.units.map thC),.rows 1 (s.told.map cel)]
@[reducible] def stO(s:St)(b:Nat):List AVal:=[iv s.turn,iv s.mover,iv8 s.phase,.bool s.struck,iv8 s.result,.sl b 0 s.attack.length false,iv s.next] ++ sdO s.s0 (b + 1) ++ sdO s.s1 (b + 6)
@[reducible] def stB(s:St):List ABlk:=.rows 1 (s.attack.map cel) :: sdB s.s0 ++ sdB s.s1
theorem c19(s:St)(hs:StLe 1000000000 s):NCall prog GL0 19 [stV s] (.agg (stO s 0)) (stB s):=by
 refine Qw hP g19_ok rfl ?_
 unfold g19
 have w1:IntKind.i64.wrap (0 + 1)=1:=by decide
 have w2:IntKind.i64.wrap (1 + 1)=2:=by decide
 repeat (first | refine Za rfl ?_ | refine Ye rfl rfl ?_ | refine Xf rfl ?_ | refine Qh rfl rfl ?_)
 refine w60 hs.attack ?_
 simp only[List.length_cons,List.length_nil,List.nil_append,List.cons_append,Nat.zero_add,Nat.reduceAdd]
 repeat (first | refine Za rfl ?_ | refine Ye rfl rfl ?_ | refine Xf rfl ?_ | refine Qh rfl rfl ?_)
 refine QA 3 (Qj ?_)
 refine Za rfl (Xe ?_)
 repeat (first | refine Za rfl ?_ | refine Ye rfl rfl ?_ | refine Xf rfl ?_ | refine Qh rfl rfl ?_)
 refine d60 hs.s0.deck ?_
 simp only[List.length_cons,List.length_nil,List.nil_append,List.cons_append,Nat.zero_add,Nat.reduceAdd]
 repeat (first | refine Za rfl ?_ | refine Ye rfl rfl ?_ | refine Xf rfl ?_ | refine Qh rfl rfl ?_)
 refine d60 hs.s0.hand ?_
 simp only[List.length_cons,List.length_nil,List.nil_append,List.cons_append,Nat.zero_add,Nat.reduceAdd]
 repeat (first | refine Za rfl ?_ | refine Ye rfl rfl ?_ | refine Xf rfl ?_ | refine Qh rfl rfl ?_)
 refine d60 hs.s0.grave ?_
 simp only[List.length_cons,List.length_nil,List.nil_append,List.cons_append,Nat.zero_add,Nat.reduceAdd]
 repeat (first | refine Za rfl ?_ | refine Ye rfl rfl ?_ | refine Xf rfl ?_ | refine Qh rfl rfl ?_)
 refine d61 hs.s0.units ?_
 simp only[List.length_cons,List.length_nil,List.nil_append,List.cons_append,Nat.zero_add,Nat.reduceAdd]
 repeat (first | refine Za rfl ?_ | refine Ye rfl rfl ?_ | refine Xf rfl ?_ | refine Qh rfl rfl ?_)
 refine d60 hs.s0.told ?_
 simp only[List.length_cons,List.length_nil,List.nil_append,List.cons_append,Nat.zero_add,Nat.reduceAdd]
 repeat (first | refine Za rfl ?_ | refine Ye rfl rfl ?_ | refine Xf rfl ?_ | refine Qh rfl rfl ?_)
 refine Yy (by kernel_rfl) (Za rfl ?_)
 rw[w1]
 refine Qj ?_
 refine Za rfl (Xe ?_)
 repeat (first | refine Za rfl ?_ | refine Ye rfl rfl ?_ | refine Xf rfl ?_ | refine Qh rfl rfl ?_)
 refine d60 hs.s1.deck ?_
 simp only[List.length_cons,List.length_nil,List.nil_append,List.cons_append,Nat.zero_add,Nat.reduceAdd]
 repeat (first | refine Za rfl ?_ | refine Ye rfl rfl ?_ | refine Xf rfl ?_ | refine Qh rfl rfl ?_)
 refine d60 hs.s1.hand ?_
 simp only[List.length_cons,List.length_nil,List.nil_append,List.cons_append,Nat.zero_add,Nat.reduceAdd]
 repeat (first | refine Za rfl ?_ | refine Ye rfl rfl ?_ | refine Xf rfl ?_ | refine Qh rfl rfl ?_)
 refine d60 hs.s1.grave ?_
 simp only[List.length_cons,List.length_nil,List.nil_append,List.cons_append,Nat.zero_add,Nat.reduceAdd]
 repeat (first | refine Za rfl ?_ | refine Ye rfl rfl ?_ | refine Xf rfl ?_ | refine Qh rfl rfl ?_)
 refine d61 hs.s1.units ?_
 simp only[List.length_cons,List.length_nil,List.nil_append,List.cons_append,Nat.zero_add,Nat.reduceAdd]
 repeat (first | refine Za rfl ?_ | refine Ye rfl rfl ?_ | refine Xf rfl ?_ | refine Qh rfl rfl ?_)
 refine d60 hs.s1.told ?_
 simp only[List.length_cons,List.length_nil,List.nil_append,List.cons_append,Nat.zero_add,Nat.reduceAdd]
 repeat (first | refine Za rfl ?_ | refine Ye rfl rfl ?_ | refine Xf rfl ?_ | refine Qh rfl rfl ?_)
 refine Yy (by kernel_rfl) (Za rfl ?_)
 rw[w2]
 refine Qj ?_
 refine Za rfl (Yh ?_)
 repeat (first | refine Za rfl ?_ | refine Ye rfl rfl ?_ | refine Xf rfl ?_ | refine Qh rfl rfl ?_)
 refine Yj rfl ?_
 refine Tidy.gc [3,5,6,7,8,9,11,12,13,14,15] (by decide) (by simp) ?_ rfl
 simp only[gcH,List.map_cons,List.map_nil,hget,Zr,Qak]
end Go.Ah.Tz
end
section
namespace Go.Ah.Tz
open Go.Proofs.Tryz (prog)
attribute [local irreducible] Ans.rd Ans.pu Ans.wr Ans.dr Ans.gr Ans.gw Ans.gl Ans.gd Ans.opt joinK W
def fnd(l:List Th)(id:Int):Option Nat:=l.findIdx? (fun u=>decide (u.id=id))
theorem Ybr{l:List Th}{id:Int}{i:Nat}(h:i < l.length)(h2:l[i].id=id)(hb:∀ j (hj:j < l.length),j < i→l[j].id≠id):fnd l id=some i:=by
 unfold fnd
 rw[List.findIdx?_eq_some_iff_getElem]
 exact⟨h,by simpa using h2,fun j hj=>by simpa using hb j (by omega) hj⟩
theorem Ybl{l:List Th}{id:Int}(hb:∀ j (hj:j < l.length),l[j].id≠id):fnd l id=none:=by
 unfold fnd
 rw[List.findIdx?_eq_none_iff]
 intro x hx
 obtain⟨j,hj,rfl⟩:=List.getElem_of_mem hx
 simpa using hb j hj
def unitR(s:St)(id:Int):Int × Int × Bool:=match fnd s.s0.units id with
 | some k=>(0,k,true)
 | none=>match fnd s.s1.units id with
  | some k=>(1,k,true)
  | none=>(0,0,false)
def unitV(s:St)(id:Int):AVal:=.tup [iv (unitR s id).1,iv (unitR s id).2.1,.bool (unitR s id).2.2]
theorem c23(s:St)(hs:StLe 1000000000 s)(id:Int):PCall prog GL0 23 [stV s,iv id] (unitV s id):=by
 refine Zf hP g23_ok rfl rfl ?_
 unfold g23
 have w1:IntKind.i64.wrap (0 + 1)=1:=by decide
 have w2:IntKind.i64.wrap (1 + 1)=2:=by decide
 have u0:=hs.s0.units
 have u1:=hs.s1.units
 repeat (first | refine Za rfl ?_ | refine Ye rfl rfl ?_)
 refine QA 3 (Qj ?_)
 refine Za rfl (Xe ?_)
 refine Xm (ι:=Nat) (fun i vs σ=>vs=[iv i]∧σ=[.box (stC s)]∧i≤s.s0.units.length∧∀ j (hj:j < s.s0.units.length),j < i→s.s0.units[j].id≠id) (fun i=>s.s0.units.length - i) 0 ⟨rfl,rfl,by omega,fun j _ h=>by omega⟩ ?_
 rintro i vs σ again ⟨rfl,rfl,hi,hb⟩ hag
 repeat (first | refine Za rfl ?_ | refine Ye rfl rfl ?_)
 refine Xc (fun h=>?_) (fun h=>?_)
 ·have h:i < s.s0.units.length:=by simpa using h
  repeat (first | refine Za rfl ?_ | refine Ye rfl rfl ?_)
  refine Za (Qo _ thC _ _ _ _ _ i h) ?_
  repeat (first | refine Za rfl ?_ | refine Ye rfl rfl ?_)
  refine Xc (fun h2=>?_) (fun h2=>?_)
  ·have h2:s.s0.units[i].id=id:=by simpa using h2
   have hf:fnd s.s0.units id=some i:=Ybr h h2 hb
   simp[unitV,unitR,hf]
  ·have h2:s.s0.units[i].id≠id:=by simpa using h2
   refine Za rfl ?_
   rw[Zh (n:=i) (by omega)]
   refine hag (i + 1) _ _ (by omega) ⟨rfl,rfl,by omega,fun j hj hji=>?_⟩
   by_cases e:j=i
   ·subst e; exact h2
   ·exact hb j hj (by omega)
 have h:¬ i < s.s0.units.length:=by simpa using h
 have hn0:fnd s.s0.units id=none:=Ybl (fun j hj=>hb j hj (by omega))
 refine Za rfl ?_
 rw[w1]
 refine Qj ?_
 refine Za rfl (Xe ?_)
 refine Xm (ι:=Nat) (fun i vs σ=>vs=[iv i]∧σ=[.box (stC s)]∧i≤s.s1.units.length∧∀ j (hj:j < s.s1.units.length),j < i→s.s1.units[j].id≠id) (fun i=>s.s1.units.length - i) 0 ⟨rfl,rfl,by omega,fun j _ h=>by omega⟩ ?_
 rintro i vs σ again ⟨rfl,rfl,hi,hb⟩ hag
 repeat (first | refine Za rfl ?_ | refine Ye rfl rfl ?_)
 refine Xc (fun h=>?_) (fun h=>?_)
 ·have h:i < s.s1.units.length:=by simpa using h
  repeat (first | refine Za rfl ?_ | refine Ye rfl rfl ?_)
  refine Za (Qo _ thC _ _ _ _ _ i h) ?_
  repeat (first | refine Za rfl ?_ | refine Ye rfl rfl ?_)
  refine Xc (fun h2=>?_) (fun h2=>?_)
  ·have h2:s.s1.units[i].id=id:=by simpa using h2
   have hf:fnd s.s1.units id=some i:=Ybr h h2 hb
   simp[unitV,unitR,hn0,hf]
  ·have h2:s.s1.units[i].id≠id:=by simpa using h2
   refine Za rfl ?_
   rw[Zh (n:=i) (by omega)]
   refine hag (i + 1) _ _ (by omega) ⟨rfl,rfl,by omega,fun j hj hji=>?_⟩
   by_cases e:j=i
   ·subst e; exact h2
   ·exact hb j hj (by omega)
 have h:¬ i < s.s1.units.length:=by simpa using h
 have hn1:fnd s.s1.units id=none:=Ybl (fun j hj=>hb j hj (by omega))
 refine Za rfl ?_
 rw[w2]
 refine Qj ?_
 refine Za rfl (Yh ?_)
 simp[unitV,unitR,hn0,hn1]
end Go.Ah.Tz
end
section
namespace Go.Ah.Tz
open Go.Proofs.Tryz (prog)
attribute [local irreducible] Ans.rd Ans.pu Ans.wr Ans.dr Ans.gr Ans.gw Ans.gl Ans.gd Ans.opt joinK W
def wIn(n:Int):Bool:=decide (-1000000≤n) && decide (n≤1000000)
theorem c116(n:Int):PCall prog GL0 116 [iv n] (.bool (wIn n)):=by
 refine Zf hP g116_ok rfl rfl ?_
 unfold g116
 refine Za rfl ?_
 rcases Bool.eq_false_or_eq_true (decide (n ≥ -1000000)) with h | h
 ·rw[h]
  repeat (first | refine Za rfl ?_ | refine Ye rfl rfl ?_ | refine Xa ?_ | refine Zb ?_)
  have h':-1000000≤n:=by simpa using h
  simp[wIn,h']
 ·rw[h]
  repeat (first | refine Yb rfl ?_ | refine Yc rfl ?_ | refine Yd rfl ?_ | refine Qd rfl ?_ | refine Za rfl ?_ | refine Ye rfl rfl ?_)
  have h':¬ -1000000≤n:=by simpa using h
  simp[wIn,h']
theorem c57(n:Int):PCall prog GL0 57 [iv n] (.bool (wIn n)):=by
 refine Zf hP g57_ok rfl rfl ?_
 unfold g57
 refine Za rfl ?_
 rcases Bool.eq_false_or_eq_true (decide (n ≥ -1000000)) with h | h
 ·rw[h]
  repeat (first | refine Za rfl ?_ | refine Ye rfl rfl ?_ | refine Xa ?_ | refine Zb ?_)
  have h':-1000000≤n:=by simpa using h
  simp[wIn,h']
 ·rw[h]
  repeat (first | refine Yb rfl ?_ | refine Yc rfl ?_ | refine Yd rfl ?_ | refine Qd rfl ?_ | refine Za rfl ?_ | refine Ye rfl rfl ?_)
  have h':¬ -1000000≤n:=by simpa using h
  simp[wIn,h']
def Qs(n:Nat)(l:List Int)(most:Int):Bool:=decide ((l.length:Int)≤most) && l.all fun c=>decide (0≤c) && decide (c < n)
theorem c117(b:Bk)(l:List Int)(most:Int)(hl:l.length≤1000000000):PCall prog GL0 117 [bkV b,rowV l,iv most] (.bool (Qs b.cards.length l most)):=by
 refine Zf hP g117_ok rfl rfl ?_
 unfold g117
 repeat (first | refine Za rfl ?_ | refine Ye rfl rfl ?_ | refine Xa ?_ | refine Zb ?_)
 refine Xc (fun h=>?_) (fun h=>?_)
 ·have h:most < l.length:=by simpa using h
  have h':¬ (l.length:Int)≤most:=by omega
  simp[Qs,h']
 have hm:(l.length:Int)≤most:=by simpa using h
 refine Xm (ι:=Nat) (fun i vs σ=>vs=[iv i]∧σ=[.box [cdV b.cards,foV b.formats]]∧i≤l.length∧∀ j (hj:j < l.length),j < i→0≤l[j]∧l[j] < b.cards.length) (fun i=>l.length - i) 0 ⟨rfl,rfl,by omega,fun j _ h=>by omega⟩ ?_
 rintro i vs σ again ⟨rfl,rfl,hi,hb⟩ hag
 repeat (first | refine Za rfl ?_ | refine Ye rfl rfl ?_ | refine Xa ?_ | refine Zb ?_)
 refine Xc (fun h=>?_) (fun h=>?_)
 ·have h:i < l.length:=by simpa using h
  refine Za (Qo _ cel _ _ _ l _ i h) ?_
  repeat (first | refine Za rfl ?_ | refine Ye rfl rfl ?_ | refine Xa ?_ | refine Zb ?_)
  have bad:¬ (0≤l[i]∧l[i] < b.cards.length)→AVal.bool false=AVal.bool (Qs b.cards.length l most):=by
   intro hn
   have:Qs b.cards.length l most=false:=by
    simp only[Qs,Bool.and_eq_false_iff]
    right
    rw[List.all_eq_false]
    refine⟨l[i],List.getElem_mem h,?_⟩
    simpa using hn
   rw[this]
  rcases Bool.eq_false_or_eq_true (decide (l[i] < 0)) with h2 | h2
  ·rw[h2]
   repeat (first | refine Yb rfl ?_ | refine Yc rfl ?_ | refine Yd rfl ?_ | refine Qd rfl ?_ | refine Za rfl ?_ | refine Ye rfl rfl ?_)
   refine Xe (bad ?_)
   have:l[i] < 0:=by simpa using h2
   omega
  rw[h2]
  repeat (first | refine Xa ?_ | refine Za rfl ?_)
  refine Za (Qo _ cel _ _ _ l _ i h) ?_
  repeat (first | refine Za rfl ?_ | refine Ye rfl rfl ?_ | refine Xa ?_ | refine Zb ?_)
  have h2:¬ l[i] < 0:=by simpa using h2
  refine Xc (fun h3=>?_) (fun h3=>?_)
  ·refine bad ?_
   have:(b.cards.length:Int)≤l[i]:=by simpa using h3
   omega
  ·have:¬ (b.cards.length:Int)≤l[i]:=by simpa using h3
   refine Za rfl ?_
   rw[Zh (n:=i) (by omega)]
   refine hag (i + 1) _ _ (by omega) ⟨rfl,rfl,by omega,fun j hj hji=>?_⟩
   by_cases e:j=i
   ·subst e; omega
   ·exact hb j hj (by omega)
 ·have h:¬ i < l.length:=by simpa using h
  have:Qs b.cards.length l most=true:=by
   simp only[Qs,Bool.and_eq_true,decide_eq_true_eq,List.all_eq_true]
   refine⟨hm,fun x hx=>?_⟩
   obtain⟨j,hj,rfl⟩:=List.getElem_of_mem hx
   exact hb j hj (by omega)
  rw[this]
end Go.Ah.Tz
end
section
namespace Go.Ah.Tz
open Go.Proofs.Tryz (prog)
theorem ld{σ:List ABlk}{b j n:Nat}{agg:Bool}{row:List AVal}{v:AVal}(hb:hget σ b=.box row)(hv:partA agg j n row=some v):Ze agg n [.bptr b j] σ=.ok v [b] []:=by
 rw[Zcf,hb]; simp only[hv]
theorem stv{σ:List ABlk}{b j n:Nat}{x:AVal}{cs row row':List AVal}(hb:hget σ b=.box row)(hc:cellsOf x=some cs)(hn:Nat.beq cs.length n=true)(hs:splice j cs row=some row'):Zc n [.bptr b j,x] σ=.ok .junk [] [(b,.box row')]:=by
 rw[Yb4,hb]; simp only[hc,hn,cond_true,hs]
theorem ZB{P:Program}{GL:Globs}{σ:List ABlk}{z:List AVal}{n:Nat}{x:AVal}{row row':List AVal}{K:AVal→AVal→List ABlk→Prop}(hc:cellsOf x=some row)(hn:Nat.beq row.length n=true)(hs:splice 0 row z=some row')
 (hK:K (.bptr σ.length 0) .junk (σ ++ [.box row'])):(W P GL).wr (Yf z [] σ) σ (fun t σ'=>(W P GL).wr (Zc n [t,x] σ') σ' (K t)):=by
 refine Ye (Xbc σ z) (XL _ _) ?_
 refine Ye (stv (Xn _ _) hc hn hs) (Yo _ (by simp)) ?_
 have:(σ ++ [ABlk.box z]).set σ.length (.box row')=σ ++ [.box row']:=by
  rw[List.set_append_right _ _ (Nat.le_refl _)]; simp
 rw[this]; exact hK
def BX(σ σ':List ABlk):Prop:=∀ c r,hget σ c=.box r→hget σ' c=.box r
theorem BX.refl(σ:List ABlk):BX σ σ:=fun _ _ h=>h
theorem BX.trans{a b c:List ABlk}(h:BX a b)(k:BX b c):BX a c:=fun x r e=>k x r (h x r e)
theorem BX.app(σ l:List ABlk):BX σ (σ ++ l):=fun _ _ h=>Zl l h (by simp)
theorem Grows.more{n k:Nat}{rows:List (List AVal)}{v:AVal}{σ:List ABlk}(h:Grows n rows k v σ)(l:List ABlk):Grows n rows k v (σ ++ l):=by
 rcases h with h | ⟨h1,b,h2,h3,h4⟩
 ·exact .inl h
 ·exact .inr ⟨h1,b,h2,Zl l h3 (by simp),h4⟩
theorem Grows.len{n k:Nat}{rows:List (List AVal)}{v:AVal}{σ:List ABlk}(h:Grows n rows k v σ)(σ':List ABlk):Qg [v] σ'=.ok (.int .i64 k) [] []:=by
 rcases h with ⟨rfl,rfl,_⟩ | ⟨_,b,rfl,_,_⟩ <;> rfl
theorem Grows.at{n k:Nat}{rows:List (List AVal)}{v:AVal}{σ:List ABlk}(h:Grows n rows k v σ)(q:IntKind)(j:Nat)(hj:j < k) :
  ∃ b,Xd n [v,.int q (j:Int)] σ=.ok (.ptr b j 0) [b] []∧∃ hj:j < rows.length,∀ agg m w,partA agg 0 m rows[j]=some w→Ze agg m [.ptr b j 0] σ=.ok w [b] []:=by
 rcases h with ⟨rfl,rfl,_⟩ | ⟨_,b,rfl,hb,hl⟩
 ·omega
 ·refine⟨b,?_,by omega,fun agg m w hw=>?_⟩
  ·have:=Xa3 σ b 0 k false n rows q j hj hb
   rwa [Nat.zero_add] at this
  ·show (match hget σ b with
   | .rows _ rs=>match nth rs j with
    | some row=>match partA agg 0 m row with
     | some v=>SRes.ok v [b] []
     | none=>.stop
    | none=>.stop
   | _=>.stop)=_
   rw[hb]
   simp only[Z1,List.getElem?_eq_getElem (show j < rows.length by omega),hw]
theorem Grows.app'{α:Type}(A:Ans α){hold:α→Prop}{n by_ k:Nat}{rows:List (List AVal)}{v:AVal}{σ:List ABlk}{row:List AVal}(hg:Grows n rows k v σ)(hr:row.all AVal.cell=true)(hroom:(2 * (k + 1) + 192) * by_≤2 ^ 48)(K:AVal→List ABlk→α)
 (hK:∀ v' σ',BX σ σ'→Grows n (rows ++ [row]) (k + 1) v' σ'→hold (K v' σ')):hold (A.wr (Yk n by_ [v,.sl σ.length 0 1 true] (σ ++ [.rows n [row]])) (σ ++ [.rows n [row]]) K):=by
 rcases hg with ⟨rfl,rfl,rfl⟩ | ⟨hk,b,rfl,hb,hl⟩
 ·rw[ZaT A n by_ σ row hr (by simpa using hroom)]
  exact hK _ _ ((BX.app _ _).trans (BX.app _ _)) (.inr ⟨by omega,_,rfl,by have:=Xn (σ ++ [.rows n [row]]) (.rows n [row]); simpa using this,rfl⟩)
 ·rw[YaQ A n by_ σ b k false rows row hb hl hr hroom]
  refine hK _ _ (BX.trans (fun c r hc=>?_) ((BX.app (σ.set b .dead) _).trans (BX.app _ _))) (.inr ⟨by omega,_,rfl,?_,by simp[hl]⟩)
  ·refine Xh hc (by simp) ?_
   rintro rfl
   rw[hb] at hc; cases hc
  ·have:=Xn (σ.set b .dead ++ [.rows n [row]]) (.rows n (rows ++ [row]))
   simpa using this
theorem Zbw{α:Type}(σ:List ABlk)(f:α→List AVal)(e n:Bool)(s:Nat)(l:List α)(k:IntKind)(c:Int)(h0:0≤c)(h:c.toNat < l.length):Xd s [.rsl e n s (l.map f),.int k c] σ=.ok (.rptr (f l[c.toNat]) 0) [] []:=by
 obtain⟨m,rfl⟩:=Int.eq_ofNat_of_zero_le h0
 exact Qo σ f e n s l k m (by simpa using h)
def Zv(b:Bk)(next:Int)(u:Th):Bool:=decide (0≤u.card) && (decide (u.card < b.cards.length) && (((b.cards[u.card.toNat]?).map Cd.unit).getD false && (decide (0≤u.harm) && (decide (u.harm≤1000000) && (decide (1≤u.id) && decide (u.id < next))))))
def Qr(b:Bk)(next:Int):List Int→List Th→Bool
 | _,[]=>true
 | ids,u :: l=>Zv b next u && (!(ids.contains u.id) && Qr b next (ids ++ [u.id]) l)
def Qm(n:Nat)(x:Sd):Bool:=wIn x.life && (decide (0≤x.mana) && (wIn x.mana && (decide (0≤x.most) && (decide (x.most≤10) && (Qs n x.deck 60 && (Qs n x.hand 10 && (Qs n x.grave 1000000 && (Qs n x.told 1000000 && decide (x.units.length≤7)))))))))
def Xr(b:Bk)(s:St):Bool:=Qm b.cards.length s.s0 && (Qr b s.next [] s.s0.units && (Qm b.cards.length s.s1 && Qr b s.next (s.s0.units.map Th.id) s.s1.units))
end Go.Ah.Tz
end
section
namespace Go.Ah.Tz
open Go.Proofs.Tryz (prog)
attribute [local irreducible] Ans.rd Ans.pu Ans.wr Ans.dr Ans.gr Ans.gw Ans.gl Ans.gd Ans.opt joinK W
set_option maxHeartbeats 2000000
theorem c68(b:Bk)(s:St)(hs:StLe 1000000000 s):PCall prog GL0 68 [bkV b,stV s] (.bool (Xr b s)):=by
 refine Zf hP g68_ok rfl rfl ?_
 unfold g68
 have w1:IntKind.i64.wrap (0 + 1)=1:=by decide
 have w2:IntKind.i64.wrap (1 + 1)=2:=by decide
 repeat (first | refine Za rfl ?_ | refine Ye rfl rfl ?_)
 have hB0:hget ([] ++ [ABlk.box [cdV b.cards,foV b.formats]] ++ [ABlk.box (stC s)]) 0=.box [cdV b.cards,foV b.formats]:=rfl
 have hB1:hget ([] ++ [ABlk.box [cdV b.cards,foV b.formats]] ++ [ABlk.box (stC s)]) 1=.box (stC s):=rfl
 have hg:Grows 1 (([]:List Int).map cel) 0 .nils ([] ++ [ABlk.box [cdV b.cards,foV b.formats]] ++ [ABlk.box (stC s)]):=Grows.nil _ _
 generalize ([] ++ [ABlk.box [cdV b.cards,foV b.formats]] ++ [ABlk.box (stC s)]:List ABlk)=σ at hB0 hB1 hg ⊢
 refine QA 3 (Qj ?_)
 refine Za rfl (Xe ?_)
 refine Za rfl (Za rfl (Za (ld hB1 rfl) ?_))
 refine ZB rfl rfl rfl ?_
 have hB2:hget (σ ++ [.box (sdC s.s0)]) σ.length=.box (sdC s.s0):=Xn _ _
 replace hB0:=Zl [.box (sdC s.s0)] hB0 (by simp)
 replace hB1:=Zl [.box (sdC s.s0)] hB1 (by simp)
 replace hg:=hg.more [.box (sdC s.s0)]
 generalize hN:σ.length=N at hB2 ⊢
 clear hN
 generalize (σ ++ [ABlk.box (sdC s.s0)]:List ABlk)=σ2 at hB0 hB1 hB2 hg ⊢
 have bad:Qm b.cards.length s.s0=false→AVal.bool false=AVal.bool (Xr b s):=by intro h; simp[Xr,h]
 repeat (first | refine Xa ?_ | refine Zb ?_ | refine Za (ld hB2 rfl) ?_ | refine Za rfl ?_)
 refine Zd (c116 _) rfl g116_ok.plain rfl ?_
 refine Za rfl ?_
 rcases Bool.eq_false_or_eq_true (!wIn s.s0.life) with a1 | a1
 ·rw[a1]
  repeat (first | refine Yb rfl ?_ | refine Yc rfl ?_ | refine Yd rfl ?_ | refine Qd rfl ?_ | refine Za rfl ?_)
  refine Xe (bad ?_)
  simp at a1
  simp[Qm,a1]
 rw[a1]
 repeat (first | refine Xa ?_ | refine Zb ?_ | refine Za (ld hB2 rfl) ?_ | refine Za rfl ?_)
 rcases Bool.eq_false_or_eq_true (decide (s.s0.mana < 0)) with a2 | a2
 ·rw[a2]
  repeat (first | refine Yb rfl ?_ | refine Yc rfl ?_ | refine Yd rfl ?_ | refine Qd rfl ?_ | refine Za rfl ?_)
  refine Xe (bad ?_)
  simp at a2
  simp[Qm,show ¬ 0≤s.s0.mana by omega]
 rw[a2]
 repeat (first | refine Xa ?_ | refine Zb ?_ | refine Za (ld hB2 rfl) ?_ | refine Za rfl ?_)
 refine Zd (c116 _) rfl g116_ok.plain rfl ?_
 repeat (first | refine Xa ?_ | refine Zb ?_ | refine Za (ld hB2 rfl) ?_ | refine Za rfl ?_)
 rcases Bool.eq_false_or_eq_true (!wIn s.s0.mana) with a3 | a3
 ·rw[a3]
  repeat (first | refine Yb rfl ?_ | refine Yc rfl ?_ | refine Yd rfl ?_ | refine Qd rfl ?_ | refine Za rfl ?_)
  refine Xe (bad ?_)
  simp at a3
  simp[Qm,a3]
 rw[a3]
 repeat (first | refine Xa ?_ | refine Zb ?_ | refine Za (ld hB2 rfl) ?_ | refine Za rfl ?_)
 rcases Bool.eq_false_or_eq_true (decide (s.s0.most < 0)) with a4 | a4
 ·rw[a4]
  repeat (first | refine Yb rfl ?_ | refine Yc rfl ?_ | refine Yd rfl ?_ | refine Qd rfl ?_ | refine Za rfl ?_)
  refine Xe (bad ?_)
  simp at a4
  simp[Qm,show ¬ 0≤s.s0.most by omega]
 rw[a4]
 repeat (first | refine Xa ?_ | refine Zb ?_ | refine Za (ld hB2 rfl) ?_ | refine Za rfl ?_)
 refine Xc (fun a5=>bad ?_) (fun a5=>?_)
 ·have a5:10 < s.s0.most:=by simpa using a5
  simp[Qm,show ¬ s.s0.most≤10 by omega]
 refine Za (ld hB0 rfl) ?_
 repeat (first | refine Xa ?_ | refine Zb ?_ | refine Za (ld hB2 rfl) ?_ | refine Za rfl ?_)
 refine Zd (c117 _ _ _ hs.s0.deck) rfl g117_ok.plain rfl ?_
 refine Za rfl ?_
 rcases Bool.eq_false_or_eq_true (!Qs b.cards.length s.s0.deck 60) with a6 | a6
 ·rw[a6]
  repeat (first | refine Yb rfl ?_ | refine Yc rfl ?_ | refine Yd rfl ?_ | refine Qd rfl ?_ | refine Za rfl ?_)
  refine Xe (bad ?_)
  simp at a6
  simp[Qm,a6]
 rw[a6]
 repeat (first | refine Xa ?_ | refine Zb ?_ | refine Za (ld hB2 rfl) ?_ | refine Za (ld hB0 rfl) ?_ | refine Za rfl ?_)
 refine Zd (c117 _ _ _ hs.s0.hand) rfl g117_ok.plain rfl ?_
 repeat (first | refine Xa ?_ | refine Zb ?_ | refine Za (ld hB2 rfl) ?_ | refine Za (ld hB0 rfl) ?_ | refine Za rfl ?_)
 rcases Bool.eq_false_or_eq_true (!Qs b.cards.length s.s0.hand 10) with a7 | a7
 ·rw[a7]
  repeat (first | refine Yb rfl ?_ | refine Yc rfl ?_ | refine Yd rfl ?_ | refine Qd rfl ?_ | refine Za rfl ?_)
  refine Xe (bad ?_)
  simp at a7
  simp[Qm,a7]
 rw[a7]
 repeat (first | refine Xa ?_ | refine Zb ?_ | refine Za (ld hB2 rfl) ?_ | refine Za (ld hB0 rfl) ?_ | refine Za rfl ?_)
 refine Zd (c117 _ _ _ hs.s0.grave) rfl g117_ok.plain rfl ?_
 repeat (first | refine Xa ?_ | refine Zb ?_ | refine Za (ld hB2 rfl) ?_ | refine Za (ld hB0 rfl) ?_ | refine Za rfl ?_)
 rcases Bool.eq_false_or_eq_true (!Qs b.cards.length s.s0.grave 1000000) with a8 | a8
 ·rw[a8]
  repeat (first | refine Yb rfl ?_ | refine Yc rfl ?_ | refine Yd rfl ?_ | refine Qd rfl ?_ | refine Za rfl ?_)
  refine Xe (bad ?_)
  simp at a8
  simp[Qm,a8]
 rw[a8]
 repeat (first | refine Xa ?_ | refine Zb ?_ | refine Za (ld hB2 rfl) ?_ | refine Za (ld hB0 rfl) ?_ | refine Za rfl ?_)
 refine Zd (c117 _ _ _ hs.s0.told) rfl g117_ok.plain rfl ?_
 repeat (first | refine Xa ?_ | refine Zb ?_ | refine Za (ld hB2 rfl) ?_ | refine Za (ld hB0 rfl) ?_ | refine Za rfl ?_)
 rcases Bool.eq_false_or_eq_true (!Qs b.cards.length s.s0.told 1000000) with a9 | a9
 ·rw[a9]
  repeat (first | refine Yb rfl ?_ | refine Yc rfl ?_ | refine Yd rfl ?_ | refine Qd rfl ?_ | refine Za rfl ?_)
  refine Xe (bad ?_)
  simp at a9
  simp[Qm,a9]
 rw[a9]
 repeat (first | refine Xa ?_ | refine Zb ?_ | refine Za (ld hB2 rfl) ?_ | refine Za (ld hB0 rfl) ?_ | refine Za rfl ?_)
 refine Xc (fun a10=>bad ?_) (fun a10=>?_)
 ·have a10:7 < s.s0.units.length:=by simp at a10; omega
  simp[Qm,show ¬ s.s0.units.length≤7 by omega]
 have hds0:Qm b.cards.length s.s0=true:=by
  simp at a1 a2 a3 a4 a5 a6 a7 a8 a9 a10
  simp[Qm,a1,a2,a3,a4,a5,a6,a7,a8,a9]; omega
 have a10':s.s0.units.length≤7:=by simp at a10; omega
 clear a1 a2 a3 a4 a5 a6 a7 a8 a9 a10 bad
 have badu:Qr b s.next [] s.s0.units=false→AVal.bool false=AVal.bool (Xr b s):=by intro h; simp[Xr,h]
 refine Xm (ι:=Nat) (fun i vs σ=>∃ v,vs=[iv i,v]∧i≤s.s0.units.length∧Grows 1 (([] ++ (s.s0.units.take i).map Th.id).map cel) (0 + i) v σ∧hget σ 0=.box [cdV b.cards,foV b.formats]∧hget σ 1=.box (stC s)∧hget σ N=.box (sdC s.s0)∧Qr b s.next [] s.s0.units=Qr b s.next ([] ++ (s.s0.units.take i).map Th.id) (s.s0.units.drop i)) (fun i=>s.s0.units.length - i) 0 ⟨_,rfl,by omega,(by simp only[Ah.h1,hdV,tlV,List.take_zero,List.map_nil,List.append_nil,Nat.add_zero]; exact hg),hB0,hB1,hB2,by simp⟩ ?_
 clear hB0 hB1 hB2 hg
 rintro i vs σ3 again ⟨v,rfl,hi,hg,hB0,hB1,hB2,hu⟩ hag
 repeat (first | refine Xa ?_ | refine Zb ?_ | refine Za (ld hB2 rfl) ?_ | refine Za rfl ?_)
 refine Xc (fun h=>?_) (fun h=>?_)
 ·have h:i < s.s0.units.length:=by simpa using h
  have hdr:s.s0.units.drop i=s.s0.units[i] :: s.s0.units.drop (i + 1):=by rw[List.drop_eq_getElem_cons h]
  rw[hdr] at hu
  repeat (first | refine Xa ?_ | refine Zb ?_ | refine Za (ld hB2 rfl) ?_ | refine Za rfl ?_)
  refine Za (Qo _ thC _ _ _ _ _ i h) ?_
  refine Za rfl ?_
  refine ZB rfl rfl rfl ?_
  generalize hU:s.s0.units[i]=u at hu hdr
  have hB3:hget (σ3 ++ [.box (thC u)]) σ3.length=.box (thC u):=Xn _ _
  replace hB0:=Zl [.box (thC u)] hB0 (by simp)
  replace hB1:=Zl [.box (thC u)] hB1 (by simp)
  replace hB2:=Zl [.box (thC u)] hB2 (by simp)
  replace hg:=hg.more [.box (thC u)]
  generalize hN:σ3.length=N3 at hB3 ⊢
  clear hN
  simp only[AVal.cell]
  generalize hσ4:(σ3 ++ [ABlk.box (thC u)]:List ABlk)=σ4 at hB0 hB1 hB2 hB3 hg
  have hσ5:(σ3 ++ [ABlk.box [iv u.id,iv u.card,iv u.harm,.bool u.tired]]:List ABlk)=σ4:=hσ4
  first | rw[hσ5] | rw[hσ4] | skip
  have badq:Zv b s.next u=false→AVal.bool false=AVal.bool (Xr b s):=by intro h; apply badu; rw[hu]; simp[Qr,h]
  repeat (first | refine Xa ?_ | refine Zb ?_ | refine Za (ld hB3 rfl) ?_ | refine Za (ld hB0 rfl) ?_ | refine Za (ld hB1 rfl) ?_ | refine Za rfl ?_)
  rcases Bool.eq_false_or_eq_true (decide (u.card < 0)) with q1 | q1
  ·rw[q1]
   repeat (first | refine Yb rfl ?_ | refine Yc rfl ?_ | refine Yd rfl ?_ | refine Qd rfl ?_ | refine Za rfl ?_)
   refine Xe (badq ?_)
   simp at q1
   simp[Zv,show ¬ 0≤u.card by omega]
  rw[q1]
  repeat (first | refine Xa ?_ | refine Zb ?_ | refine Za (ld hB3 rfl) ?_ | refine Za (ld hB0 rfl) ?_ | refine Za (ld hB1 rfl) ?_ | refine Za rfl ?_)
  rcases Bool.eq_false_or_eq_true (decide (u.card ≥ (b.cards.map cdC).length)) with q2 | q2
  ·rw[q2]
   repeat (first | refine Yb rfl ?_ | refine Yc rfl ?_ | refine Yd rfl ?_ | refine Qd rfl ?_ | refine Za rfl ?_)
   refine Xe (badq ?_)
   simp at q2
   simp[Zv,show ¬ u.card < b.cards.length by omega]
  rw[q2]
  simp at q1 q2
  have hc:u.card.toNat < b.cards.length:=by omega
  have hcu:b.cards[u.card.toNat]?=some b.cards[u.card.toNat]:=by simp[hc]
  repeat (first | refine Xa ?_ | refine Zb ?_ | refine Za (ld hB3 rfl) ?_ | refine Za (ld hB0 rfl) ?_ | refine Za (ld hB1 rfl) ?_ | refine Za rfl ?_)
  refine Za (Zbw _ cdC _ _ _ _ _ _ (by omega) hc) ?_
  repeat (first | refine Xa ?_ | refine Zb ?_ | refine Za (ld hB3 rfl) ?_ | refine Za (ld hB0 rfl) ?_ | refine Za (ld hB1 rfl) ?_ | refine Za rfl ?_)
  rcases Bool.eq_false_or_eq_true (!(b.cards[u.card.toNat]).unit) with q3 | q3
  ·rw[q3]
   repeat (first | refine Yb rfl ?_ | refine Yc rfl ?_ | refine Yd rfl ?_ | refine Qd rfl ?_ | refine Za rfl ?_)
   refine Xe (badq ?_)
   simp at q3
   simp[Zv,hcu,q3]
  rw[q3]
  repeat (first | refine Xa ?_ | refine Zb ?_ | refine Za (ld hB3 rfl) ?_ | refine Za (ld hB0 rfl) ?_ | refine Za (ld hB1 rfl) ?_ | refine Za rfl ?_)
  rcases Bool.eq_false_or_eq_true (decide (u.harm < 0)) with q4 | q4
  ·rw[q4]
   repeat (first | refine Yb rfl ?_ | refine Yc rfl ?_ | refine Yd rfl ?_ | refine Qd rfl ?_ | refine Za rfl ?_)
   refine Xe (badq ?_)
   simp at q4
   simp[Zv,show ¬ 0≤u.harm by omega]
  rw[q4]
  repeat (first | refine Xa ?_ | refine Zb ?_ | refine Za (ld hB3 rfl) ?_ | refine Za (ld hB0 rfl) ?_ | refine Za (ld hB1 rfl) ?_ | refine Za rfl ?_)
  rcases Bool.eq_false_or_eq_true (decide (u.harm > 1000000)) with q5 | q5
  ·rw[q5]
   repeat (first | refine Yb rfl ?_ | refine Yc rfl ?_ | refine Yd rfl ?_ | refine Qd rfl ?_ | refine Za rfl ?_)
   refine Xe (badq ?_)
   simp at q5
   simp[Zv,show ¬ u.harm≤1000000 by omega]
  rw[q5]
  repeat (first | refine Xa ?_ | refine Zb ?_ | refine Za (ld hB3 rfl) ?_ | refine Za (ld hB0 rfl) ?_ | refine Za (ld hB1 rfl) ?_ | refine Za rfl ?_)
  rcases Bool.eq_false_or_eq_true (decide (u.id < 1)) with q6 | q6
  ·rw[q6]
   repeat (first | refine Yb rfl ?_ | refine Yc rfl ?_ | refine Yd rfl ?_ | refine Qd rfl ?_ | refine Za rfl ?_)
   refine Xe (badq ?_)
   simp at q6
   simp[Zv,show ¬ 1≤u.id by omega]
  rw[q6]
  repeat (first | refine Xa ?_ | refine Zb ?_ | refine Za (ld hB3 rfl) ?_ | refine Za (ld hB0 rfl) ?_ | refine Za (ld hB1 rfl) ?_ | refine Za rfl ?_)
  refine Xc (fun q7=>badq ?_) (fun q7=>?_)
  ·have q7:s.next≤u.id:=by simpa using q7
   simp[Zv,show ¬ u.id < s.next by omega]
  have hok:Zv b s.next u=true:=by
   simp at q3 q4 q5 q6 q7
   simp[Zv,hcu,q3]; omega
  rw[Qr,hok,Bool.true_and] at hu
  generalize hids:[] ++ (s.s0.units.take i).map Th.id=ids at hg hu
  have hkl:ids.length=0 + i:=by rw[← hids]; simp[List.length_take,Nat.min_eq_left hi]
  refine Xm (ι:=Nat) (fun j vs σ=>vs=[iv j]∧σ=σ4∧j≤ids.length∧∀ m (hm:m < ids.length),m < j→ids[m]≠u.id) (fun j=>ids.length - j) 0 ⟨rfl,rfl,by omega,fun m _ h=>by omega⟩ ?_
  rintro j vs σ again2 ⟨rfl,rfl,hj,hb2⟩ hag2
  refine Za (hg.len _) (Za rfl ?_)
  refine Xc (fun h2=>?_) (fun h2=>?_)
  ·have h2:j < ids.length:=by rw[hkl]; simp at h2; omega
   obtain⟨bb,e1,hjl,e2⟩:=hg.at .i64 j (by omega)
   refine Za e1 ?_
   refine Za (e2 false 1 (iv ids[j]) (by simp[cel])) ?_
   repeat (first | refine Xa ?_ | refine Zb ?_ | refine Za (ld hB3 rfl) ?_ | refine Za (ld hB0 rfl) ?_ | refine Za (ld hB1 rfl) ?_ | refine Za rfl ?_)
   refine Xc (fun h3=>?_) (fun h3=>?_)
   ·have h3:ids[j]=u.id:=by simpa using h3
    apply badu; rw[hu]
    have:u.id∈ids:=by rw[← h3]; exact List.getElem_mem h2
    simp[this]
   ·have h3:ids[j]≠u.id:=by simpa using h3
    refine Za rfl ?_
    rw[Zh (n:=j) (by omega)]
    refine hag2 (j + 1) _ _ (by omega) ⟨rfl,rfl,by omega,fun m hm hmj=>?_⟩
    by_cases e:m=j
    ·subst e; exact h3
    ·exact hb2 m hm (by omega)
  ·have h2:¬ j < ids.length:=by rw[hkl]; simp at h2; omega
   have hno:ids.contains u.id=false:=by
    rw[List.contains_eq_mem,decide_eq_false_iff_not]
    intro hm
    obtain⟨m,hm,e⟩:=List.getElem_of_mem hm
    exact hb2 m hm (by omega) e
   rw[hno,Bool.not_false,Bool.true_and] at hu
   repeat (first | refine Xa ?_ | refine Zb ?_ | refine Za (ld hB3 rfl) ?_ | refine Za (ld hB0 rfl) ?_ | refine Za (ld hB1 rfl) ?_ | refine Za rfl ?_)
   rw[XW _ _ _ _ _ [iv u.id] rfl rfl]
   refine hg.app' _ (hold:=fun p=>p) rfl (by omega) _ (fun v' σ' hx hg'=>?_)
   refine Za rfl ?_
   rw[Zh (n:=i) (by omega)]
   have hsn:[] ++ (s.s0.units.take (i + 1)).map Th.id=ids ++ [u.id]:=by
    rw[← hids,Zw _ _ h,hU]; simp
   refine hag (i + 1) _ _ (by omega) ⟨v',rfl,by omega,?_,hx _ _ hB0,hx _ _ hB1,hx _ _ hB2,?_⟩
   ·rw[hsn]; simpa[cel,Nat.add_assoc] using hg'
   ·rw[hsn]; exact hu
 have h:i=s.s0.units.length:=by simp at h; omega
 subst h
 rw[List.take_length] at hg hu
 have hus0:Qr b s.next [] s.s0.units=true:=by rw[hu]; simp[Qr]
 clear hag badu hu
 refine Za rfl ?_
 rw[w1]
 refine Qj ?_
 simp only[List.nil_append,Nat.zero_add] at hg
 generalize σ3=σ at hB0 hB1 hg ⊢
 refine Za rfl (Xe ?_)
 refine Za rfl (Za rfl (Za (ld hB1 rfl) ?_))
 refine ZB rfl rfl rfl ?_
 have hB2:hget (σ ++ [.box (sdC s.s1)]) σ.length=.box (sdC s.s1):=Xn _ _
 replace hB0:=Zl [.box (sdC s.s1)] hB0 (by simp)
 replace hB1:=Zl [.box (sdC s.s1)] hB1 (by simp)
 replace hg:=hg.more [.box (sdC s.s1)]
 generalize hN:σ.length=N at hB2 ⊢
 clear hN
 generalize (σ ++ [ABlk.box (sdC s.s1)]:List ABlk)=σ2 at hB0 hB1 hB2 hg ⊢
 have bad:Qm b.cards.length s.s1=false→AVal.bool false=AVal.bool (Xr b s):=by intro h; simp[Xr,h]
 repeat (first | refine Xa ?_ | refine Zb ?_ | refine Za (ld hB2 rfl) ?_ | refine Za rfl ?_)
 refine Zd (c116 _) rfl g116_ok.plain rfl ?_
 refine Za rfl ?_
 rcases Bool.eq_false_or_eq_true (!wIn s.s1.life) with a1 | a1
 ·rw[a1]
  repeat (first | refine Yb rfl ?_ | refine Yc rfl ?_ | refine Yd rfl ?_ | refine Qd rfl ?_ | refine Za rfl ?_)
  refine Xe (bad ?_)
  simp at a1
  simp[Qm,a1]
 rw[a1]
 repeat (first | refine Xa ?_ | refine Zb ?_ | refine Za (ld hB2 rfl) ?_ | refine Za rfl ?_)
 rcases Bool.eq_false_or_eq_true (decide (s.s1.mana < 0)) with a2 | a2
 ·rw[a2]
  repeat (first | refine Yb rfl ?_ | refine Yc rfl ?_ | refine Yd rfl ?_ | refine Qd rfl ?_ | refine Za rfl ?_)
  refine Xe (bad ?_)
  simp at a2
  simp[Qm,show ¬ 0≤s.s1.mana by omega]
 rw[a2]
 repeat (first | refine Xa ?_ | refine Zb ?_ | refine Za (ld hB2 rfl) ?_ | refine Za rfl ?_)
 refine Zd (c116 _) rfl g116_ok.plain rfl ?_
 repeat (first | refine Xa ?_ | refine Zb ?_ | refine Za (ld hB2 rfl) ?_ | refine Za rfl ?_)
 rcases Bool.eq_false_or_eq_true (!wIn s.s1.mana) with a3 | a3
 ·rw[a3]
  repeat (first | refine Yb rfl ?_ | refine Yc rfl ?_ | refine Yd rfl ?_ | refine Qd rfl ?_ | refine Za rfl ?_)
  refine Xe (bad ?_)
  simp at a3
  simp[Qm,a3]
 rw[a3]
 repeat (first | refine Xa ?_ | refine Zb ?_ | refine Za (ld hB2 rfl) ?_ | refine Za rfl ?_)
 rcases Bool.eq_false_or_eq_true (decide (s.s1.most < 0)) with a4 | a4
 ·rw[a4]
  repeat (first | refine Yb rfl ?_ | refine Yc rfl ?_ | refine Yd rfl ?_ | refine Qd rfl ?_ | refine Za rfl ?_)
  refine Xe (bad ?_)
  simp at a4
  simp[Qm,show ¬ 0≤s.s1.most by omega]
 rw[a4]
 repeat (first | refine Xa ?_ | refine Zb ?_ | refine Za (ld hB2 rfl) ?_ | refine Za rfl ?_)
 refine Xc (fun a5=>bad ?_) (fun a5=>?_)
 ·have a5:10 < s.s1.most:=by simpa using a5
  simp[Qm,show ¬ s.s1.most≤10 by omega]
 refine Za (ld hB0 rfl) ?_
 repeat (first | refine Xa ?_ | refine Zb ?_ | refine Za (ld hB2 rfl) ?_ | refine Za rfl ?_)
 refine Zd (c117 _ _ _ hs.s1.deck) rfl g117_ok.plain rfl ?_
 refine Za rfl ?_
 rcases Bool.eq_false_or_eq_true (!Qs b.cards.length s.s1.deck 60) with a6 | a6
 ·rw[a6]
  repeat (first | refine Yb rfl ?_ | refine Yc rfl ?_ | refine Yd rfl ?_ | refine Qd rfl ?_ | refine Za rfl ?_)
  refine Xe (bad ?_)
  simp at a6
  simp[Qm,a6]
 rw[a6]
 repeat (first | refine Xa ?_ | refine Zb ?_ | refine Za (ld hB2 rfl) ?_ | refine Za (ld hB0 rfl) ?_ | refine Za rfl ?_)
 refine Zd (c117 _ _ _ hs.s1.hand) rfl g117_ok.plain rfl ?_
 repeat (first | refine Xa ?_ | refine Zb ?_ | refine Za (ld hB2 rfl) ?_ | refine Za (ld hB0 rfl) ?_ | refine Za rfl ?_)
 rcases Bool.eq_false_or_eq_true (!Qs b.cards.length s.s1.hand 10) with a7 | a7
 ·rw[a7]
  repeat (first | refine Yb rfl ?_ | refine Yc rfl ?_ | refine Yd rfl ?_ | refine Qd rfl ?_ | refine Za rfl ?_)
  refine Xe (bad ?_)
  simp at a7
  simp[Qm,a7]
 rw[a7]
 repeat (first | refine Xa ?_ | refine Zb ?_ | refine Za (ld hB2 rfl) ?_ | refine Za (ld hB0 rfl) ?_ | refine Za rfl ?_)
 refine Zd (c117 _ _ _ hs.s1.grave) rfl g117_ok.plain rfl ?_
 repeat (first | refine Xa ?_ | refine Zb ?_ | refine Za (ld hB2 rfl) ?_ | refine Za (ld hB0 rfl) ?_ | refine Za rfl ?_)
 rcases Bool.eq_false_or_eq_true (!Qs b.cards.length s.s1.grave 1000000) with a8 | a8
 ·rw[a8]
  repeat (first | refine Yb rfl ?_ | refine Yc rfl ?_ | refine Yd rfl ?_ | refine Qd rfl ?_ | refine Za rfl ?_)
  refine Xe (bad ?_)
  simp at a8
  simp[Qm,a8]
 rw[a8]
 repeat (first | refine Xa ?_ | refine Zb ?_ | refine Za (ld hB2 rfl) ?_ | refine Za (ld hB0 rfl) ?_ | refine Za rfl ?_)
 refine Zd (c117 _ _ _ hs.s1.told) rfl g117_ok.plain rfl ?_
 repeat (first | refine Xa ?_ | refine Zb ?_ | refine Za (ld hB2 rfl) ?_ | refine Za (ld hB0 rfl) ?_ | refine Za rfl ?_)
 rcases Bool.eq_false_or_eq_true (!Qs b.cards.length s.s1.told 1000000) with a9 | a9
 ·rw[a9]
  repeat (first | refine Yb rfl ?_ | refine Yc rfl ?_ | refine Yd rfl ?_ | refine Qd rfl ?_ | refine Za rfl ?_)
  refine Xe (bad ?_)
  simp at a9
  simp[Qm,a9]
 rw[a9]
 repeat (first | refine Xa ?_ | refine Zb ?_ | refine Za (ld hB2 rfl) ?_ | refine Za (ld hB0 rfl) ?_ | refine Za rfl ?_)
 refine Xc (fun a10=>bad ?_) (fun a10=>?_)
 ·have a10:7 < s.s1.units.length:=by simp at a10; omega
  simp[Qm,show ¬ s.s1.units.length≤7 by omega]
 have hds1:Qm b.cards.length s.s1=true:=by
  simp at a1 a2 a3 a4 a5 a6 a7 a8 a9 a10
  simp[Qm,a1,a2,a3,a4,a5,a6,a7,a8,a9]; omega
 have a10':s.s1.units.length≤7:=by simp at a10; omega
 clear a1 a2 a3 a4 a5 a6 a7 a8 a9 a10 bad
 have badu:Qr b s.next (s.s0.units.map Th.id) s.s1.units=false→AVal.bool false=AVal.bool (Xr b s):=by intro h; simp[Xr,h]
 refine Xm (ι:=Nat) (fun i vs σ=>∃ v,vs=[iv i,v]∧i≤s.s1.units.length∧Grows 1 (((s.s0.units.map Th.id) ++ (s.s1.units.take i).map Th.id).map cel) (s.s0.units.length + i) v σ∧hget σ 0=.box [cdV b.cards,foV b.formats]∧hget σ 1=.box (stC s)∧hget σ N=.box (sdC s.s1)∧Qr b s.next (s.s0.units.map Th.id) s.s1.units=Qr b s.next ((s.s0.units.map Th.id) ++ (s.s1.units.take i).map Th.id) (s.s1.units.drop i)) (fun i=>s.s1.units.length - i) 0 ⟨_,rfl,by omega,(by simp only[Ah.h1,hdV,tlV,List.take_zero,List.map_nil,List.append_nil,Nat.add_zero]; exact hg),hB0,hB1,hB2,by simp⟩ ?_
 clear hB0 hB1 hB2 hg
 rintro i vs σ3 again ⟨v,rfl,hi,hg,hB0,hB1,hB2,hu⟩ hag
 repeat (first | refine Xa ?_ | refine Zb ?_ | refine Za (ld hB2 rfl) ?_ | refine Za rfl ?_)
 refine Xc (fun h=>?_) (fun h=>?_)
 ·have h:i < s.s1.units.length:=by simpa using h
  have hdr:s.s1.units.drop i=s.s1.units[i] :: s.s1.units.drop (i + 1):=by rw[List.drop_eq_getElem_cons h]
  rw[hdr] at hu
  repeat (first | refine Xa ?_ | refine Zb ?_ | refine Za (ld hB2 rfl) ?_ | refine Za rfl ?_)
  refine Za (Qo _ thC _ _ _ _ _ i h) ?_
  refine Za rfl ?_
  refine ZB rfl rfl rfl ?_
  generalize hU:s.s1.units[i]=u at hu hdr
  have hB3:hget (σ3 ++ [.box (thC u)]) σ3.length=.box (thC u):=Xn _ _
  replace hB0:=Zl [.box (thC u)] hB0 (by simp)
  replace hB1:=Zl [.box (thC u)] hB1 (by simp)
  replace hB2:=Zl [.box (thC u)] hB2 (by simp)
  replace hg:=hg.more [.box (thC u)]
  generalize hN:σ3.length=N3 at hB3 ⊢
  clear hN
  simp only[AVal.cell]
  generalize hσ4:(σ3 ++ [ABlk.box (thC u)]:List ABlk)=σ4 at hB0 hB1 hB2 hB3 hg
  have hσ5:(σ3 ++ [ABlk.box [iv u.id,iv u.card,iv u.harm,.bool u.tired]]:List ABlk)=σ4:=hσ4
  first | rw[hσ5] | rw[hσ4] | skip
  have badq:Zv b s.next u=false→AVal.bool false=AVal.bool (Xr b s):=by intro h; apply badu; rw[hu]; simp[Qr,h]
  repeat (first | refine Xa ?_ | refine Zb ?_ | refine Za (ld hB3 rfl) ?_ | refine Za (ld hB0 rfl) ?_ | refine Za (ld hB1 rfl) ?_ | refine Za rfl ?_)
  rcases Bool.eq_false_or_eq_true (decide (u.card < 0)) with q1 | q1
  ·rw[q1]
   repeat (first | refine Yb rfl ?_ | refine Yc rfl ?_ | refine Yd rfl ?_ | refine Qd rfl ?_ | refine Za rfl ?_)
   refine Xe (badq ?_)
   simp at q1
   simp[Zv,show ¬ 0≤u.card by omega]
  rw[q1]
  repeat (first | refine Xa ?_ | refine Zb ?_ | refine Za (ld hB3 rfl) ?_ | refine Za (ld hB0 rfl) ?_ | refine Za (ld hB1 rfl) ?_ | refine Za rfl ?_)
  rcases Bool.eq_false_or_eq_true (decide (u.card ≥ (b.cards.map cdC).length)) with q2 | q2
  ·rw[q2]
   repeat (first | refine Yb rfl ?_ | refine Yc rfl ?_ | refine Yd rfl ?_ | refine Qd rfl ?_ | refine Za rfl ?_)
   refine Xe (badq ?_)
   simp at q2
   simp[Zv,show ¬ u.card < b.cards.length by omega]
  rw[q2]
  simp at q1 q2
  have hc:u.card.toNat < b.cards.length:=by omega
  have hcu:b.cards[u.card.toNat]?=some b.cards[u.card.toNat]:=by simp[hc]
  repeat (first | refine Xa ?_ | refine Zb ?_ | refine Za (ld hB3 rfl) ?_ | refine Za (ld hB0 rfl) ?_ | refine Za (ld hB1 rfl) ?_ | refine Za rfl ?_)
  refine Za (Zbw _ cdC _ _ _ _ _ _ (by omega) hc) ?_
  repeat (first | refine Xa ?_ | refine Zb ?_ | refine Za (ld hB3 rfl) ?_ | refine Za (ld hB0 rfl) ?_ | refine Za (ld hB1 rfl) ?_ | refine Za rfl ?_)
  rcases Bool.eq_false_or_eq_true (!(b.cards[u.card.toNat]).unit) with q3 | q3
  ·rw[q3]
   repeat (first | refine Yb rfl ?_ | refine Yc rfl ?_ | refine Yd rfl ?_ | refine Qd rfl ?_ | refine Za rfl ?_)
   refine Xe (badq ?_)
   simp at q3
   simp[Zv,hcu,q3]
  rw[q3]
  repeat (first | refine Xa ?_ | refine Zb ?_ | refine Za (ld hB3 rfl) ?_ | refine Za (ld hB0 rfl) ?_ | refine Za (ld hB1 rfl) ?_ | refine Za rfl ?_)
  rcases Bool.eq_false_or_eq_true (decide (u.harm < 0)) with q4 | q4
  ·rw[q4]
   repeat (first | refine Yb rfl ?_ | refine Yc rfl ?_ | refine Yd rfl ?_ | refine Qd rfl ?_ | refine Za rfl ?_)
   refine Xe (badq ?_)
   simp at q4
   simp[Zv,show ¬ 0≤u.harm by omega]
  rw[q4]
  repeat (first | refine Xa ?_ | refine Zb ?_ | refine Za (ld hB3 rfl) ?_ | refine Za (ld hB0 rfl) ?_ | refine Za (ld hB1 rfl) ?_ | refine Za rfl ?_)
  rcases Bool.eq_false_or_eq_true (decide (u.harm > 1000000)) with q5 | q5
  ·rw[q5]
   repeat (first | refine Yb rfl ?_ | refine Yc rfl ?_ | refine Yd rfl ?_ | refine Qd rfl ?_ | refine Za rfl ?_)
   refine Xe (badq ?_)
   simp at q5
   simp[Zv,show ¬ u.harm≤1000000 by omega]
  rw[q5]
  repeat (first | refine Xa ?_ | refine Zb ?_ | refine Za (ld hB3 rfl) ?_ | refine Za (ld hB0 rfl) ?_ | refine Za (ld hB1 rfl) ?_ | refine Za rfl ?_)
  rcases Bool.eq_false_or_eq_true (decide (u.id < 1)) with q6 | q6
  ·rw[q6]
   repeat (first | refine Yb rfl ?_ | refine Yc rfl ?_ | refine Yd rfl ?_ | refine Qd rfl ?_ | refine Za rfl ?_)
   refine Xe (badq ?_)
   simp at q6
   simp[Zv,show ¬ 1≤u.id by omega]
  rw[q6]
  repeat (first | refine Xa ?_ | refine Zb ?_ | refine Za (ld hB3 rfl) ?_ | refine Za (ld hB0 rfl) ?_ | refine Za (ld hB1 rfl) ?_ | refine Za rfl ?_)
  refine Xc (fun q7=>badq ?_) (fun q7=>?_)
  ·have q7:s.next≤u.id:=by simpa using q7
   simp[Zv,show ¬ u.id < s.next by omega]
  have hok:Zv b s.next u=true:=by
   simp at q3 q4 q5 q6 q7
   simp[Zv,hcu,q3]; omega
  rw[Qr,hok,Bool.true_and] at hu
  generalize hids:(s.s0.units.map Th.id) ++ (s.s1.units.take i).map Th.id=ids at hg hu
  have hkl:ids.length=s.s0.units.length + i:=by rw[← hids]; simp[List.length_take,Nat.min_eq_left hi]
  refine Xm (ι:=Nat) (fun j vs σ=>vs=[iv j]∧σ=σ4∧j≤ids.length∧∀ m (hm:m < ids.length),m < j→ids[m]≠u.id) (fun j=>ids.length - j) 0 ⟨rfl,rfl,by omega,fun m _ h=>by omega⟩ ?_
  rintro j vs σ again2 ⟨rfl,rfl,hj,hb2⟩ hag2
  refine Za (hg.len _) (Za rfl ?_)
  refine Xc (fun h2=>?_) (fun h2=>?_)
  ·have h2:j < ids.length:=by rw[hkl]; simp at h2; omega
   obtain⟨bb,e1,hjl,e2⟩:=hg.at .i64 j (by omega)
   refine Za e1 ?_
   refine Za (e2 false 1 (iv ids[j]) (by simp[cel])) ?_
   repeat (first | refine Xa ?_ | refine Zb ?_ | refine Za (ld hB3 rfl) ?_ | refine Za (ld hB0 rfl) ?_ | refine Za (ld hB1 rfl) ?_ | refine Za rfl ?_)
   refine Xc (fun h3=>?_) (fun h3=>?_)
   ·have h3:ids[j]=u.id:=by simpa using h3
    apply badu; rw[hu]
    have:u.id∈ids:=by rw[← h3]; exact List.getElem_mem h2
    simp[this]
   ·have h3:ids[j]≠u.id:=by simpa using h3
    refine Za rfl ?_
    rw[Zh (n:=j) (by omega)]
    refine hag2 (j + 1) _ _ (by omega) ⟨rfl,rfl,by omega,fun m hm hmj=>?_⟩
    by_cases e:m=j
    ·subst e; exact h3
    ·exact hb2 m hm (by omega)
  ·have h2:¬ j < ids.length:=by rw[hkl]; simp at h2; omega
   have hno:ids.contains u.id=false:=by
    rw[List.contains_eq_mem,decide_eq_false_iff_not]
    intro hm
    obtain⟨m,hm,e⟩:=List.getElem_of_mem hm
    exact hb2 m hm (by omega) e
   rw[hno,Bool.not_false,Bool.true_and] at hu
   repeat (first | refine Xa ?_ | refine Zb ?_ | refine Za (ld hB3 rfl) ?_ | refine Za (ld hB0 rfl) ?_ | refine Za (ld hB1 rfl) ?_ | refine Za rfl ?_)
   rw[XW _ _ _ _ _ [iv u.id] rfl rfl]
   refine hg.app' _ (hold:=fun p=>p) rfl (by omega) _ (fun v' σ' hx hg'=>?_)
   refine Za rfl ?_
   rw[Zh (n:=i) (by omega)]
   have hsn:(s.s0.units.map Th.id) ++ (s.s1.units.take (i + 1)).map Th.id=ids ++ [u.id]:=by
    rw[← hids,Zw _ _ h,hU]; simp
   refine hag (i + 1) _ _ (by omega) ⟨v',rfl,by omega,?_,hx _ _ hB0,hx _ _ hB1,hx _ _ hB2,?_⟩
   ·rw[hsn]; simpa[cel,Nat.add_assoc] using hg'
   ·rw[hsn]; exact hu
 have h:i=s.s1.units.length:=by simp at h; omega
 subst h
 rw[List.take_length] at hg hu
 have hus1:Qr b s.next (s.s0.units.map Th.id) s.s1.units=true:=by rw[hu]; simp[Qr]
 clear hag badu hu
 refine Za rfl ?_
 rw[w2]
 refine Qj ?_
 refine Za rfl (Yh ?_)
 simp[Xr,hds0,hds1,hus0,hus1]
end Go.Ah.Tz
end
section
namespace Go.Ah.Tz
open Go.Proofs.Tryz (prog)
def attOk(s:St):List Int→List Int→Bool
 | _,[]=>true
 | prev,a :: l=>((unitR s a).2.2 && decide ((unitR s a).1=s.mover)) && (!(prev.contains a) && attOk s (prev ++ [a]) l)
def mayR(e:Int)(b:Bk)(s:St)(bare:Bool):Bool:=
 decide (e=0) && (decide (1≤s.turn) && (decide (s.turn≤4096) && (decide (0≤s.mover) && (decide (s.mover≤1) && (decide (0≤s.phase) && (decide (s.phase≤2) && (decide (0≤s.result) && (decide (s.result≤3) &&
 (((s.result == 0) == (s.phase != 2)) && (decide (1≤s.next) && (decide (s.next≤1000000) && (Xr b s &&
 (if s.phase≠1 then decide (s.attack.length=0) else !(decide (s.attack.length=0) && !bare) && (s.struck && (decide (s.attack.length≤7) && attOk s [] s.attack)))))))))))))))
attribute [local irreducible] Ans.rd Ans.pu Ans.wr Ans.dr Ans.gr Ans.gw Ans.gl Ans.gd Ans.opt joinK W
set_option maxHeartbeats 2000000
theorem c25(b:Bk)(s:St)(hs:StLe 1000000000 s)(bare:Bool)(e p:Int)(h67:PCall prog GL0 67 [bkV b] (.agg [iv e,iv p])):PCall prog GL0 25 [bkV b,stV s,.bool bare] (.bool (mayR e b s bare)):=by
 refine Zf hP g25_ok rfl rfl ?_
 unfold g25
 repeat (first | refine Za rfl ?_ | refine Ye rfl rfl ?_)
 refine Zd h67 rfl g67_ok.plain rfl ?_
 repeat (first | refine Za rfl ?_ | refine Ye rfl rfl ?_)
 rcases Bool.eq_false_or_eq_true (e != 0) with q1 | q1
 ·rw[q1]
  repeat (first | refine Yb rfl ?_ | refine Yc rfl ?_ | refine Yd rfl ?_ | refine Qd rfl ?_ | refine Za rfl ?_)
  refine Xe ?_
  simp at q1
  simp[mayR,q1]
 rw[q1]
 repeat (first | refine Xa ?_ | refine Zb ?_ | refine Za rfl ?_)
 rcases Bool.eq_false_or_eq_true (decide (s.turn < 1)) with q2 | q2
 ·rw[q2]
  repeat (first | refine Yb rfl ?_ | refine Yc rfl ?_ | refine Yd rfl ?_ | refine Qd rfl ?_ | refine Za rfl ?_)
  refine Xe ?_
  simp at q2
  simp[mayR,show ¬ 1≤s.turn by omega]
 rw[q2]
 repeat (first | refine Xa ?_ | refine Zb ?_ | refine Za rfl ?_)
 rcases Bool.eq_false_or_eq_true (decide (s.turn > 4096)) with q3 | q3
 ·rw[q3]
  repeat (first | refine Yb rfl ?_ | refine Yc rfl ?_ | refine Yd rfl ?_ | refine Qd rfl ?_ | refine Za rfl ?_)
  refine Xe ?_
  simp at q3
  simp[mayR,show ¬ s.turn≤4096 by omega]
 rw[q3]
 repeat (first | refine Xa ?_ | refine Zb ?_ | refine Za rfl ?_)
 rcases Bool.eq_false_or_eq_true (decide (s.mover < 0)) with q4 | q4
 ·rw[q4]
  repeat (first | refine Yb rfl ?_ | refine Yc rfl ?_ | refine Yd rfl ?_ | refine Qd rfl ?_ | refine Za rfl ?_)
  refine Xe ?_
  simp at q4
  simp[mayR,show ¬ 0≤s.mover by omega]
 rw[q4]
 repeat (first | refine Xa ?_ | refine Zb ?_ | refine Za rfl ?_)
 rcases Bool.eq_false_or_eq_true (decide (s.mover > 1)) with q5 | q5
 ·rw[q5]
  repeat (first | refine Yb rfl ?_ | refine Yc rfl ?_ | refine Yd rfl ?_ | refine Qd rfl ?_ | refine Za rfl ?_)
  refine Xe ?_
  simp at q5
  simp[mayR,show ¬ s.mover≤1 by omega]
 rw[q5]
 repeat (first | refine Xa ?_ | refine Zb ?_ | refine Za rfl ?_)
 rcases Bool.eq_false_or_eq_true (decide (s.phase < 0)) with q6 | q6
 ·rw[q6]
  repeat (first | refine Yb rfl ?_ | refine Yc rfl ?_ | refine Yd rfl ?_ | refine Qd rfl ?_ | refine Za rfl ?_)
  refine Xe ?_
  simp at q6
  simp[mayR,show ¬ 0≤s.phase by omega]
 rw[q6]
 repeat (first | refine Xa ?_ | refine Zb ?_ | refine Za rfl ?_)
 rcases Bool.eq_false_or_eq_true (decide (s.phase > 2)) with q7 | q7
 ·rw[q7]
  repeat (first | refine Yb rfl ?_ | refine Yc rfl ?_ | refine Yd rfl ?_ | refine Qd rfl ?_ | refine Za rfl ?_)
  refine Xe ?_
  simp at q7
  simp[mayR,show ¬ s.phase≤2 by omega]
 rw[q7]
 repeat (first | refine Xa ?_ | refine Zb ?_ | refine Za rfl ?_)
 rcases Bool.eq_false_or_eq_true (decide (s.result < 0)) with q8 | q8
 ·rw[q8]
  repeat (first | refine Yb rfl ?_ | refine Yc rfl ?_ | refine Yd rfl ?_ | refine Qd rfl ?_ | refine Za rfl ?_)
  refine Xe ?_
  simp at q8
  simp[mayR,show ¬ 0≤s.result by omega]
 rw[q8]
 repeat (first | refine Xa ?_ | refine Zb ?_ | refine Za rfl ?_)
 refine Xc (fun q9=>?_) (fun q9=>?_)
 ·have q9:3 < s.result:=by simpa using q9
  simp[mayR,show ¬ s.result≤3 by omega]
 repeat (first | refine Xa ?_ | refine Zb ?_ | refine Za rfl ?_)
 rcases Bool.eq_false_or_eq_true (!(s.result == 0) == (s.phase != 2)) with q10 | q10
 ·rw[q10]
  repeat (first | refine Yb rfl ?_ | refine Yc rfl ?_ | refine Yd rfl ?_ | refine Qd rfl ?_ | refine Za rfl ?_)
  refine Xe ?_
  have q10:((s.result == 0) == (s.phase != 2))=false:=(Bool.not_eq_true' _).mp q10
  simp only[mayR,q10]; simp
 rw[q10]
 repeat (first | refine Xa ?_ | refine Zb ?_ | refine Za rfl ?_)
 rcases Bool.eq_false_or_eq_true (decide (s.next < 1)) with q11 | q11
 ·rw[q11]
  repeat (first | refine Yb rfl ?_ | refine Yc rfl ?_ | refine Yd rfl ?_ | refine Qd rfl ?_ | refine Za rfl ?_)
  refine Xe ?_
  simp at q11
  simp[mayR,show ¬ 1≤s.next by omega]
 rw[q11]
 repeat (first | refine Xa ?_ | refine Zb ?_ | refine Za rfl ?_)
 rcases Bool.eq_false_or_eq_true (decide (s.next > 1000000)) with q12 | q12
 ·rw[q12]
  repeat (first | refine Yb rfl ?_ | refine Yc rfl ?_ | refine Yd rfl ?_ | refine Qd rfl ?_ | refine Za rfl ?_)
  refine Xe ?_
  simp at q12
  simp[mayR,show ¬ s.next≤1000000 by omega]
 rw[q12]
 repeat (first | refine Xa ?_ | refine Zb ?_ | refine Za rfl ?_)
 refine Zd (c68 b s hs) rfl g68_ok.plain rfl ?_
 repeat (first | refine Xa ?_ | refine Za rfl ?_)
 refine Xc (fun q13=>?_) (fun q13=>?_)
 ·have q13:Xr b s=false:=by simpa using q13
  simp[mayR,q13]
 have Q1:e=0:=by simpa using q1
 have Q10:((s.result == 0) == (s.phase != 2))=true:=by
  cases hX:((s.result == 0) == (s.phase != 2)) with
  | true=>rfl
  | false=>rw[hX] at q10; cases q10
 have Q13:Xr b s=true:=by simpa using q13
 simp at q2 q3 q4 q5 q6 q7 q8 q9 q11 q12
 have hm:mayR e b s bare=(if s.phase≠1 then decide (s.attack.length=0) else !(decide (s.attack.length=0) && !bare) && (s.struck && (decide (s.attack.length≤7) && attOk s [] s.attack))):=by
  simp only[mayR,Q10,Q13]
  simp[Q1,q2,q3,q4,q5,q6,q7,q8,q9,q11,q12]
 rw[hm]
 clear hm Q1 Q10 Q13 q1 q2 q3 q4 q5 q6 q7 q8 q9 q10 q11 q12 q13
 repeat (first | refine Za rfl ?_)
 refine Xc (fun h=>?_) (fun h=>?_)
 ·have h:s.phase≠1:=by simpa using h
  repeat (first | refine Za rfl ?_)
  rw[if_pos h]
  congr 1
  rw[Bool.eq_iff_iff]
  simp
 have h:s.phase=1:=by simpa using h
 rw[if_neg (by simp[h])]
 repeat (first | refine Za rfl ?_)
 rcases Bool.eq_false_or_eq_true ((((s.attack.map cel).length:Nat):Int) == 0) with h1 | h1
 ·rw[h1]
  have h1:s.attack=[]:=by simpa using h1
  repeat (first | refine Xa ?_ | refine Za rfl ?_)
  cases bare with
  | false=>
   repeat (first | refine Yb rfl ?_ | refine Yd rfl ?_ | refine Za rfl ?_)
   refine Xe ?_
   simp[h1]
  | true=>
   repeat (first | refine Xa ?_ | refine Za rfl ?_)
   rcases Bool.eq_false_or_eq_true (!s.struck) with h2 | h2
   ·rw[h2]
    repeat (first | refine Yb rfl ?_ | refine Yd rfl ?_ | refine Za rfl ?_)
    refine Xe ?_
    have h2:s.struck=false:=by simpa using h2
    simp[h2]
   rw[h2]
   have h2:s.struck=true:=by simpa using h2
   repeat (first | refine Xa ?_ | refine Za rfl ?_)
   rw[h1]
   refine Yh ?_
   refine QA 1 (Qj ?_)
   repeat (first | refine Za (ld (σ:=[] ++ [ABlk.box [cdV b.cards,foV b.formats]] ++ [ABlk.box (stC s)]) (b:=1) rfl rfl) ?_ | refine Za rfl ?_)
   rw[h1]
   refine Yh ?_
   simp[h2,attOk]
 rw[h1]
 have h1:s.attack.length≠0:=by simpa using h1
 repeat (first | refine Yb rfl ?_ | refine Yd rfl ?_ | refine Za rfl ?_)
 repeat (first | refine Xa ?_ | refine Za rfl ?_)
 have h1':(decide (s.attack.length=0) && !bare)=false:=by simp[h1]
 rw[h1',Bool.not_false,Bool.true_and]
 rcases Bool.eq_false_or_eq_true (!s.struck) with h2 | h2
 ·rw[h2]
  repeat (first | refine Yb rfl ?_ | refine Yd rfl ?_ | refine Za rfl ?_)
  refine Xe ?_
  have h2:s.struck=false:=by simpa using h2
  simp[h2]
 rw[h2]
 have h2:s.struck=true:=by simpa using h2
 rw[h2,Bool.true_and]
 repeat (first | refine Xa ?_ | refine Za rfl ?_)
 refine Xc (fun h3=>?_) (fun h3=>?_)
 ·have h3:¬ s.attack.length≤7:=by simp at h3; omega
  simp[h3]
 have h3:s.attack.length≤7:=by simp at h3; omega
 rw[decide_eq_true h3,Bool.true_and]
 have bad:attOk s [] s.attack=false→AVal.bool false=AVal.bool (attOk s [] s.attack):=fun h=>by rw[h]
 generalize hB:([] ++ [ABlk.box [cdV b.cards,foV b.formats]] ++ [ABlk.box (stC s)]:List ABlk)=base
 have hB1:hget base 1=.box (stC s):=by rw[← hB]; rfl
 generalize hN:([] ++ [ABlk.box [cdV b.cards,foV b.formats]]:List ABlk).length=N
 have hN1:N=1:=by rw[← hN]; rfl
 subst hN1
 clear hB hN
 refine Xm (ι:=Nat) (fun i vs σ=>vs=[iv i]∧σ=base∧i≤s.attack.length∧attOk s [] s.attack=attOk s (s.attack.take i) (s.attack.drop i)) (fun i=>s.attack.length - i) 0 ⟨rfl,rfl,by omega,by simp⟩ ?_
 rintro i vs σ again ⟨rfl,rfl,hi,hu⟩ hag
 repeat (first | refine Za (ld hB1 rfl) ?_ | refine Za rfl ?_)
 refine Xc (fun h=>?_) (fun h=>?_)
 ·have h:i < s.attack.length:=by simpa using h
  have hdr:s.attack.drop i=s.attack[i] :: s.attack.drop (i + 1):=by rw[List.drop_eq_getElem_cons h]
  rw[hdr] at hu
  refine Qh (ld hB1 rfl) (Xi _) (Xf rfl (Qh (ld hB1 rfl) (Xi _) (Qh (Qo _ cel _ _ _ _ _ i h) (Xi _) (Qh rfl (Xi _) ?_))))
  refine Qp (c23 s hs s.attack[i]) rfl g23_ok.plain rfl ?_
  refine Xf rfl (Xf rfl (Xf rfl (Yy (by kernel_rfl) ?_)))
  refine Za rfl ?_
  generalize ha:s.attack[i]=a at hu
  rcases Bool.eq_false_or_eq_true (!(unitR s a).2.2) with h4 | h4
  ·rw[h4]
   repeat (first | refine Yb rfl ?_ | refine Yd rfl ?_ | refine Za rfl ?_)
   refine Xe (bad ?_)
   have h4:(unitR s a).2.2=false:=by simpa using h4
   rw[hu]; simp[attOk,h4]
  rw[h4]
  repeat (first | refine Xa ?_ | refine Za (ld hB1 rfl) ?_ | refine Za rfl ?_)
  refine Xc (fun h5=>bad ?_) (fun h5=>?_)
  ·have h5:(unitR s a).1≠s.mover:=by simpa using h5
   rw[hu]; simp[attOk,h5]
  have hone:((unitR s a).2.2 && decide ((unitR s a).1=s.mover))=true:=by
   have h4:(unitR s a).2.2=true:=by simpa using h4
   have h5:(unitR s a).1=s.mover:=by simpa using h5
   simp[h4,h5]
  rw[attOk,hone,Bool.true_and] at hu
  refine Xm (ι:=Nat) (fun j vs σ2=>vs=[iv j]∧σ2=σ∧j≤i∧∀ m (hm:m < s.attack.length),m < j→s.attack[m]≠a) (fun j=>i - j) 0 ⟨rfl,rfl,by omega,fun m _ h=>by omega⟩ ?_
  rintro j vs σ again2 ⟨rfl,rfl,hj,hb2⟩ hag2
  refine Za rfl ?_
  refine Xc (fun h6=>?_) (fun h6=>?_)
  ·have h6:j < i:=by simpa using h6
   repeat (first | refine Za (ld hB1 rfl) ?_ | refine Za (Qo _ cel _ _ _ s.attack _ j (by omega)) ?_ | refine Za (Qo _ cel _ _ _ s.attack _ i h) ?_ | refine Za rfl ?_)
   refine Xc (fun h7=>bad ?_) (fun h7=>?_)
   ·have h7:s.attack[j]=a:=by rw[← ha]; simpa using h7
    have:a∈s.attack.take i:=by
     rw[List.mem_take_iff_getElem]
     exact⟨j,by omega,h7⟩
    rw[hu]; simp[this]
   ·have h7:s.attack[j]≠a:=by rw[← ha]; simpa using h7
    refine Za rfl ?_
    rw[Zh (n:=j) (by omega)]
    refine hag2 (j + 1) _ _ (by omega) ⟨rfl,rfl,by omega,fun m hm hmj=>?_⟩
    by_cases e:m=j
    ·subst e; exact h7
    ·exact hb2 m hm (by omega)
  ·have h6:¬ j < i:=by simpa using h6
   have hno:(s.attack.take i).contains a=false:=by
    rw[List.contains_eq_mem,decide_eq_false_iff_not]
    intro hm
    rw[List.mem_take_iff_getElem] at hm
    obtain⟨m,hm,e⟩:=hm
    exact hb2 m (by omega) (by omega) e
   rw[hno,Bool.not_false,Bool.true_and] at hu
   refine Za rfl ?_
   rw[Zh (n:=i) (by omega)]
   refine hag (i + 1) _ _ (by omega) ⟨rfl,rfl,by omega,?_⟩
   rw[Zw _ _ h,ha]; exact hu
 have h:i=s.attack.length:=by simp at h; omega
 subst h
 rw[hu]; simp[attOk]
theorem c16(b:Bk)(s:St)(hs:StLe 1000000000 s)(e p:Int)(h67:PCall prog GL0 67 [bkV b] (.agg [iv e,iv p])):PCall prog GL0 16 [bkV b,stV s] (iv (bif mayR e b s false then 0 else 170)):=by
 refine Zf hP g16_ok rfl rfl ?_
 unfold g16
 repeat (first | refine Za rfl ?_ | refine Ye rfl rfl ?_)
 refine Zd (c25 b s hs false e p h67) rfl g25_ok.plain rfl ?_
 refine Za rfl ?_
 refine Xc (fun h=>?_) (fun h=>?_)
 ·have h:mayR e b s false=false:=by simpa using h
  simp[h]
 ·have h:mayR e b s false=true:=by simpa using h
  simp[h]
end Go.Ah.Tz
end
section
namespace Go.Ah.Tz
open Go.Proofs.Tryz (prog)
abbrev big:Nat:=1152921504606846975
def i8B(n:Int):Bool:=decide (-128≤n) && decide (n≤127)
def i64B(n:Int):Bool:=decide (-9223372036854775808≤n) && decide (n≤9223372036854775807)
theorem ZcD{n:Int}(h:i8B n=true):-128≤n∧n≤127:=by simpa[i8B] using h
mutual
def nmFit:Nm→Bool
 | .mk op n _ kids=>decide (kids.length≤big) && (ZaD kids && (i8B op && i64B n))
def ZaD:List Nm→Bool
 | []=>true
 | x :: l=>nmFit x && ZaD l
end
theorem Qal:∀ {l:List Nm},ZaD l=true→∀ x∈l,nmFit x=true
 | [],_,_,h=>by simp at h
 | y :: l,h,x,hx=>by
  simp only[ZaD,Bool.and_eq_true] at h
  rcases List.mem_cons.1 hx with rfl | hx
  ·exact h.1
  ·exact Qal h.2 x hx
theorem Z4{x:Nm}(h:nmFit x=true):x.kids.length≤big:=by cases x; simp[nmFit] at h; exact h.1
theorem XV{x k:Nm}(h:nmFit x=true)(hk:k∈x.kids):nmFit k=true:=by cases x; simp[nmFit] at h; exact Qal h.2.1 k hk
theorem Zak{x k:Nm}(hk:k∈x.kids):SizeOf.sizeOf k < SizeOf.sizeOf x:=by
 cases x with
 | mk a b c kids=>
  have:=List.sizeOf_lt_of_mem (show k∈kids from hk)
  simp; omega
mutual
def cnFit:Cn→Bool
 | .mk op _ _ nums kids=>(decide (nums.length≤big) && ZaD nums) && (decide (kids.length≤big) && (YaN kids && i8B op))
def YaN:List Cn→Bool
 | []=>true
 | x :: l=>cnFit x && YaN l
end
theorem ZaJ:∀ {l:List Cn},YaN l=true→∀ x∈l,cnFit x=true
 | [],_,_,h=>by simp at h
 | y :: l,h,x,hx=>by
  simp only[YaN,Bool.and_eq_true] at h
  rcases List.mem_cons.1 hx with rfl | hx
  ·exact h.1
  ·exact ZaJ h.2 x hx
theorem XN{x:Cn}(h:cnFit x=true):x.nums.length≤big:=by cases x; simp[cnFit] at h; exact h.1.1
theorem YN{x:Cn}(h:cnFit x=true):x.kids.length≤big:=by cases x; simp[cnFit] at h; exact h.2.1
theorem QW{x:Cn}{k:Nm}(h:cnFit x=true)(hk:k∈x.nums):nmFit k=true:=by cases x; simp[cnFit] at h; exact Qal h.1.2 k hk
theorem QV{x k:Cn}(h:cnFit x=true)(hk:k∈x.kids):cnFit k=true:=by cases x; simp[cnFit] at h; exact ZaJ h.2.2.1 k hk
theorem Qam{x k:Cn}(hk:k∈x.kids):SizeOf.sizeOf k < SizeOf.sizeOf x:=by
 cases x with
 | mk a b c nums kids=>
  have:=List.sizeOf_lt_of_mem (show k∈kids from hk)
  simp; omega
mutual
def efFit:Ef→Bool
 | .mk op _ n _ c thn els=>nmFit n && (cnFit c && ((decide (thn.length≤big) && Qan thn) && ((decide (els.length≤big) && Qan els) && i8B op)))
def Qan:List Ef→Bool
 | []=>true
 | x :: l=>efFit x && Qan l
end
theorem XaM:∀ {l:List Ef},Qan l=true→∀ x∈l,efFit x=true
 | [],_,_,h=>by simp at h
 | y :: l,h,x,hx=>by
  simp only[Qan,Bool.and_eq_true] at h
  rcases List.mem_cons.1 hx with rfl | hx
  ·exact h.1
  ·exact XaM h.2 x hx
def lsFit(l:List Ef):Bool:=decide (l.length≤big) && Qan l
theorem Q2{x:Ef}(h:efFit x=true):nmFit x.n=true:=by cases x; simp[efFit] at h; exact h.1
theorem ZY{x:Ef}(h:efFit x=true):cnFit x.c=true:=by cases x; simp[efFit] at h; exact h.2.1
theorem YK{x:Ef}(h:efFit x=true):lsFit x.thn=true:=by cases x; simp[efFit] at h; simp[lsFit,Ef.thn,h]
theorem QJ{x:Ef}(h:efFit x=true):lsFit x.els=true:=by cases x; simp[efFit] at h; simp[lsFit,Ef.els,h]
theorem Xcd{x:Ef}(h:efFit x=true):-128≤x.op∧x.op≤127:=by cases x; simp[efFit] at h; exact ZcD h.2.2.2.2
theorem QB{l:List Ef}(h:lsFit l=true):l.length≤big:=by simp[lsFit] at h; exact h.1
theorem XK{l:List Ef}{x:Ef}(h:lsFit l=true)(hx:x∈l):efFit x=true:=by simp[lsFit] at h; exact XaM h.2 x hx
theorem wrapI{n:Int}(h1:-9223372036854775808≤n)(h2:n≤9223372036854775807):IntKind.i64.wrap n=n:=IntWalk.i64_in _ ⟨h1,h2⟩
theorem nmRo(x:Nm):roL [.agg (nmC x)]=true:=by rw[QD]; rfl
theorem nmLd(x:Nm):partA true 0 4 (nmC x)=some (.agg (nmC x)):=by rw[QD]; rfl
theorem cnRo(x:Cn):roL [.agg (cnC x)]=true:=by rw[QL]; rfl
theorem cnLd(x:Cn):partA true 0 5 (cnC x)=some (.agg (cnC x)):=by rw[QL]; rfl
theorem ldr{σ:List ABlk}{j n:Nat}{agg:Bool}{row:List AVal}{v:AVal}(hv:partA agg j n row=some v):Ze agg n [.rptr row j] σ=.ok v [] []:=by
 rw[Zau,hv]
mutual
def nmW:Nm→Int
 | .mk _ _ _ kids=>nmWs 1 kids
def nmWs:Int→List Nm→Int
 | n,[]=>n
 | n,x :: l=>nmWs (min (n + nmW x) 1073741824) l
end
theorem Zcm(x:Nm):nmW x=nmWs 1 x.kids:=by cases x; rfl
theorem Zbh:∀ (l:List Nm) (n:Int),0≤n→n≤1073741824→(∀ x∈l,0≤nmW x)→0≤nmWs n l∧nmWs n l≤1073741824
 | [],n,h1,h2,_=>⟨h1,h2⟩
 | x :: l,n,h1,h2,h3=>by
  have:=h3 x (by simp)
  exact Zbh l _ (by omega) (by omega) (fun y hy=>h3 y (by simp[hy]))
theorem Ycl:∀ (k:Nat) (x:Nm),SizeOf.sizeOf x≤k→0≤nmW x∧nmW x≤1073741824
 | 0,x,h=>by cases x; simp at h
 | k + 1,x,h=>by
  rw[Zcm]
  exact Zbh _ _ (by omega) (by omega) (fun y hy=>(Ycl k y (by have:=Zak hy; omega)).1)
theorem Xa9(x:Nm):0≤nmW x∧nmW x≤1073741824:=Ycl _ x (Nat.le_refl _)
mutual
def cnW:Cn→Int
 | .mk _ _ _ nums kids=>cnWs (nmWs 1 nums) kids
def cnWs:Int→List Cn→Int
 | n,[]=>n
 | n,x :: l=>cnWs (min (n + cnW x) 1073741824) l
end
theorem Ycj(x:Cn):cnW x=cnWs (nmWs 1 x.nums) x.kids:=by cases x; rfl
theorem YbP:∀ (l:List Cn) (n:Int),0≤n→n≤1073741824→(∀ x∈l,0≤cnW x)→0≤cnWs n l∧cnWs n l≤1073741824
 | [],n,h1,h2,_=>⟨h1,h2⟩
 | x :: l,n,h1,h2,h3=>by
  have:=h3 x (by simp)
  exact YbP l _ (by omega) (by omega) (fun y hy=>h3 y (by simp[hy]))
theorem Zcn:∀ (k:Nat) (x:Cn),SizeOf.sizeOf x≤k→0≤cnW x∧cnW x≤1073741824
 | 0,x,h=>by cases x; simp at h
 | k + 1,x,h=>by
  rw[Ycj]
  have h1:=Zbh x.nums 1 (by omega) (by omega) (fun y _=>(Xa9 y).1)
  exact YbP _ _ h1.1 h1.2 (fun y hy=>(Zcn k y (by have:=Qam hy; omega)).1)
theorem ZbT(x:Cn):0≤cnW x∧cnW x≤1073741824:=Zcn _ x (Nat.le_refl _)
def cntOp(op:Int):Bool:=decide (op=0) || (decide (op=1) || (decide (op=2) || (decide (op=3) || decide (op=5))))
def sdOp(w:Int):Bool:=decide (w=0) || decide (w=1)
attribute [local irreducible] Ans.rd Ans.pu Ans.wr Ans.dr Ans.gr Ans.gw Ans.gl Ans.gd Ans.opt joinK W
theorem c76':∀ (k:Nat) (x:Nm),SizeOf.sizeOf x≤k→nmFit x=true→PCall prog GL0 76 [.agg (nmC x)] (iv (nmW x))
 | 0,x,h,_=>by cases x; simp at h
 | k + 1,x,hk,hf=>by
  rw[QD]
  refine Zf hP g76_ok rfl rfl ?_
  unfold g76
  refine Ye rfl rfl ?_
  rw[Zcm]
  have hlen:=Z4 hf
  generalize hB:([] ++ [ABlk.box [iv8 x.op,iv x.n,iv8 x.who,.rsl false false 4 (x.kids.map nmC)]]:List ABlk)=base
  have hB0:hget base 0=.box [iv8 x.op,iv x.n,iv8 x.who,.rsl false false 4 (x.kids.map nmC)]:=by rw[← hB]; rfl
  clear hB
  refine Xm (ι:=Nat) (fun i vs σ=>∃ n,vs=[iv i,iv n]∧σ=base∧i≤x.kids.length∧0≤n∧n≤1073741824∧nmWs 1 x.kids=nmWs n (x.kids.drop i)) (fun i=>x.kids.length - i) 0 ⟨1,rfl,rfl,by omega,by omega,by omega,by simp⟩ ?_
  rintro i vs σ again ⟨n,rfl,rfl,hi,n1,n2,hu⟩ hag
  repeat (first | refine Za (ld hB0 rfl) ?_ | refine Za rfl ?_)
  refine Xc (fun h=>?_) (fun h=>?_)
  ·have h:i < x.kids.length:=by simpa using h
   have hdr:x.kids.drop i=x.kids[i] :: x.kids.drop (i + 1):=by rw[List.drop_eq_getElem_cons h]
   rw[hdr,nmWs] at hu
   have hm:x.kids[i]∈x.kids:=List.getElem_mem h
   refine Za rfl (Za (ld hB0 rfl) (Za (Qo _ nmC _ _ _ x.kids _ i h) (Za (ldr (nmLd _)) ?_)))
   refine Zd (c76' k _ (by have:=Zak hm; omega) (XV hf hm)) rfl g76_ok.plain (nmRo _) ?_
   have:=Xa9 x.kids[i]
   refine Za (Yn ..) (Za (ZW ..) (Za (Yn ..) ?_))
   rw[Zh (n:=i) (by have:big=1152921504606846975:=rfl; omega),wrapI (by omega) (by omega)]
   exact hag (i + 1) _ _ (by omega) ⟨_,rfl,rfl,by omega,by omega,by omega,hu⟩
  ·have h:i=x.kids.length:=by simp at h; omega
   subst h
   rw[List.drop_length] at hu
   rw[hu]; rfl
theorem c76(x:Nm)(hf:nmFit x=true):PCall prog GL0 76 [.agg (nmC x)] (iv (nmW x)):=c76' _ x (Nat.le_refl _) hf
end Go.Ah.Tz
end
section
namespace Go.Ah.Tz
open Go.Proofs.Tryz (prog)
attribute [local irreducible] Ans.rd Ans.pu Ans.wr Ans.dr Ans.gr Ans.gw Ans.gl Ans.gd Ans.opt joinK W
theorem Qac{f:(List AVal→List ABlk→Prop)→Prop}{k:List AVal→List ABlk→Prop}(h:f k):joinK f k:=by unfold joinK; exact h
theorem bigE:big=1152921504606846975:=rfl
theorem efLd(x:Ef):partA true 0 14 (efC x)=some (.agg (efC x)):=by rw[XF]; rfl
theorem efLdN(x:Ef):partA true 2 4 (efC x)=some (.agg (nmC x.n)):=by rw[XF,QD]; rfl
theorem efLdC(x:Ef):partA true 7 5 (efC x)=some (.agg (cnC x.c)):=by rw[XF,QL]; rfl
theorem efLd0(x:Ef):partA false 0 1 (efC x)=some (iv8 x.op):=by rw[XF]; rfl
theorem efLd1(x:Ef):partA false 1 1 (efC x)=some (iv8 x.who):=by rw[XF]; rfl
theorem efLd6(x:Ef):partA false 6 1 (efC x)=some (.str x.name):=by rw[XF]; rfl
theorem Xp(x:Ef):partA false 12 1 (efC x)=some (efV x.thn):=by rw[XF]; rfl
theorem Zq(x:Ef):partA false 13 1 (efC x)=some (efV x.els):=by rw[XF]; rfl
theorem c178':∀ (k:Nat) (x:Cn),SizeOf.sizeOf x≤k→cnFit x=true→PCall prog GL0 178 [.agg (cnC x)] (iv (cnW x))
 | 0,x,h,_=>by cases x; simp at h
 | k + 1,x,hk,hf=>by
  rw[QL]
  refine Zf hP g178_ok rfl rfl ?_
  unfold g178
  refine Ye rfl rfl ?_
  rw[Ycj]
  have hl1:=XN hf
  have hl2:=YN hf
  rw[bigE] at hl1 hl2
  generalize hB:([] ++ [ABlk.box [iv8 x.op,iv8 x.who,.str x.name,.rsl false false 4 (x.nums.map nmC),.rsl false false 5 (x.kids.map cnC)]]:List ABlk)=base
  have hB0:hget base 0=.box [iv8 x.op,iv8 x.who,.str x.name,.rsl false false 4 (x.nums.map nmC),.rsl false false 5 (x.kids.map cnC)]:=by rw[← hB]; rfl
  clear hB
  refine Xm (ι:=Nat) (fun i vs σ=>∃ n,vs=[iv i,iv n]∧σ=base∧i≤x.nums.length∧0≤n∧n≤1073741824∧nmWs 1 x.nums=nmWs n (x.nums.drop i)) (fun i=>x.nums.length - i) 0 ⟨1,rfl,rfl,by omega,by omega,by omega,by simp⟩ ?_
  rintro i vs σ again ⟨n,rfl,rfl,hi,n1,n2,hu⟩ hag
  repeat (first | refine Za (ld hB0 rfl) ?_ | refine Za rfl ?_)
  refine Xc (fun h=>?_) (fun h=>?_)
  ·have h:i < x.nums.length:=by simpa using h
   have hdr:x.nums.drop i=x.nums[i] :: x.nums.drop (i + 1):=by rw[List.drop_eq_getElem_cons h]
   rw[hdr,nmWs] at hu
   have hm:x.nums[i]∈x.nums:=List.getElem_mem h
   refine Za rfl (Za (ld hB0 rfl) (Za (Qo _ nmC _ _ _ x.nums _ i h) (Za (ldr (nmLd _)) ?_)))
   refine Zd (c76 _ (QW hf hm)) rfl g76_ok.plain (nmRo _) ?_
   have:=Xa9 x.nums[i]
   refine Za (Yn ..) (Za (ZW ..) (Za (Yn ..) ?_))
   rw[Zh (n:=i) (by omega),wrapI (by omega) (by omega)]
   exact hag (i + 1) _ _ (by omega) ⟨_,rfl,rfl,by omega,by omega,by omega,hu⟩
  have h:i=x.nums.length:=by simp at h; omega
  subst h
  rw[List.drop_length,nmWs] at hu
  rw[hu]
  clear hag hu hi
  refine Xm (ι:=Nat) (fun i vs s=>∃ m,vs=[iv i,iv m]∧s=σ∧i≤x.kids.length∧0≤m∧m≤1073741824∧cnWs n x.kids=cnWs m (x.kids.drop i)) (fun i=>x.kids.length - i) 0 ⟨n,rfl,rfl,by omega,by omega,by omega,by simp⟩ ?_
  rintro i vs s again ⟨m,rfl,rfl,hi,n1,n2,hu⟩ hag
  repeat (first | refine Za (ld hB0 rfl) ?_ | refine Za rfl ?_)
  refine Xc (fun h=>?_) (fun h=>?_)
  ·have h:i < x.kids.length:=by simpa using h
   have hdr:x.kids.drop i=x.kids[i] :: x.kids.drop (i + 1):=by rw[List.drop_eq_getElem_cons h]
   rw[hdr,cnWs] at hu
   have hm:x.kids[i]∈x.kids:=List.getElem_mem h
   refine Za rfl (Za (ld hB0 rfl) (Za (Qo _ cnC _ _ _ x.kids _ i h) (Za (ldr (cnLd _)) ?_)))
   refine Zd (c178' k _ (by have:=Qam hm; omega) (QV hf hm)) rfl g178_ok.plain (cnRo _) ?_
   have:=ZbT x.kids[i]
   refine Za (Yn ..) (Za (ZW ..) (Za (Yn ..) ?_))
   rw[Zh (n:=i) (by omega),wrapI (by omega) (by omega)]
   exact hag (i + 1) _ _ (by omega) ⟨_,rfl,rfl,by omega,by omega,by omega,hu⟩
  ·have h:i=x.kids.length:=by simp at h; omega
   subst h
   rw[List.drop_length] at hu
   rw[hu]; rfl
theorem c178(x:Cn)(hf:cnFit x=true):PCall prog GL0 178 [.agg (cnC x)] (iv (cnW x)):=c178' _ x (Nat.le_refl _) hf
theorem c121(w:Int):PCall prog GL0 121 [iv8 w] (.bool (sdOp w)):=by
 refine Zf hP g121_ok rfl rfl ?_
 unfold g121
 refine Za rfl ?_
 rcases Bool.eq_false_or_eq_true (w == 0) with h1 | h1
 ·rw[h1]
  repeat (first | refine Yb rfl ?_ | refine Yc rfl ?_ | refine Yd rfl ?_ | refine Qd rfl ?_ | refine Za rfl ?_)
  simp at h1; simp[sdOp,h1]
 rw[h1]
 repeat (first | refine Xa ?_ | refine Zb ?_ | refine Za rfl ?_)
 have h1:w≠0:=by simpa using h1
 exact congrArg AVal.bool (by rw[Bool.eq_iff_iff]; simp[sdOp,h1])
theorem c130(w:Int):PCall prog GL0 130 [iv8 w] (.bool (cntOp w)):=by
 refine Zf hP g130_ok rfl rfl ?_
 unfold g130
 refine Za rfl ?_
 rcases Bool.eq_false_or_eq_true (w == 0) with h0 | h0
 ·rw[h0]
  repeat (first | refine Yb rfl ?_ | refine Yc rfl ?_ | refine Yd rfl ?_ | refine Qd rfl ?_ | refine Za rfl ?_)
  simp at h0; simp[cntOp,h0]
 rw[h0]
 repeat (first | refine Xa ?_ | refine Zb ?_ | refine Za rfl ?_)
 rcases Bool.eq_false_or_eq_true (w == 1) with h1 | h1
 ·rw[h1]
  repeat (first | refine Yb rfl ?_ | refine Yc rfl ?_ | refine Yd rfl ?_ | refine Qd rfl ?_ | refine Za rfl ?_)
  simp at h1; simp[cntOp,h1]
 rw[h1]
 repeat (first | refine Xa ?_ | refine Zb ?_ | refine Za rfl ?_)
 rcases Bool.eq_false_or_eq_true (w == 2) with h2 | h2
 ·rw[h2]
  repeat (first | refine Yb rfl ?_ | refine Yc rfl ?_ | refine Yd rfl ?_ | refine Qd rfl ?_ | refine Za rfl ?_)
  simp at h2; simp[cntOp,h2]
 rw[h2]
 repeat (first | refine Xa ?_ | refine Zb ?_ | refine Za rfl ?_)
 rcases Bool.eq_false_or_eq_true (w == 3) with h3 | h3
 ·rw[h3]
  repeat (first | refine Yb rfl ?_ | refine Yc rfl ?_ | refine Yd rfl ?_ | refine Qd rfl ?_ | refine Za rfl ?_)
  simp at h3; simp[cntOp,h3]
 rw[h3]
 repeat (first | refine Xa ?_ | refine Zb ?_ | refine Za rfl ?_)
 simp at h0 h1 h2 h3
 exact congrArg AVal.bool (by rw[Bool.eq_iff_iff]; simp[cntOp,h0,h1,h2,h3])
mutual
def efsW:Int→List Ef→Int
 | n,[]=>n
 | n,x :: l=>efsW (efW n x) l
def efW:Int→Ef→Int
 | n0,.mk op _ nn _ c thn els=>
  if op=8 then min ((if cntOp op then min (min (n0 + 1) 1073741824 + nmW nn) 1073741824 else min (n0 + 1) 1073741824) + cnW c + efsW 0 thn + efsW 0 els) 1073741824 else (if cntOp op then min (min (n0 + 1) 1073741824 + nmW nn) 1073741824 else min (n0 + 1) 1073741824)
end
theorem QaY(n:Int)(x:Ef):efW n x=if x.op=8 then min ((if cntOp x.op then min (min (n + 1) 1073741824 + nmW x.n) 1073741824 else min (n + 1) 1073741824) + cnW x.c + efsW 0 x.thn + efsW 0 x.els) 1073741824 else (if cntOp x.op then min (min (n + 1) 1073741824 + nmW x.n) 1073741824 else min (n + 1) 1073741824):=by
 cases x; rfl
theorem Yau:∀ (k:Nat) (l:List Ef) (n:Int),SizeOf.sizeOf l≤k→0≤n→n≤1073741824→0≤efsW n l∧efsW n l≤1073741824
 | 0,l,n,h,_,_=>by cases l <;> simp at h
 | k + 1,[],n,_,h1,h2=>⟨h1,h2⟩
 | k + 1,x :: l,n,h,h1,h2=>by
  simp only[List.cons.sizeOf_spec] at h
  have hx:SizeOf.sizeOf x.thn < SizeOf.sizeOf x∧SizeOf.sizeOf x.els < SizeOf.sizeOf x:=by
   cases x; simp[Ef.thn,Ef.els]; omega
  have q1:=Yau k x.thn 0 (by omega) (by omega) (by omega)
  have q2:=Yau k x.els 0 (by omega) (by omega) (by omega)
  have q3:=Xa9 x.n
  have q4:=ZbT x.c
  have q5:0≤efW n x∧efW n x≤1073741824:=by
   rw[QaY]; split <;> split <;> omega
  rw[efsW]
  exact Yau k l _ (by omega) q5.1 q5.2
theorem Qay(l:List Ef):0≤efsW 0 l∧efsW 0 l≤1073741824:=Yau _ l 0 (Nat.le_refl _) (by omega) (by omega)
theorem Yaa(x:Ef):SizeOf.sizeOf x.thn < SizeOf.sizeOf x∧SizeOf.sizeOf x.els < SizeOf.sizeOf x:=by
 cases x; simp[Ef.thn,Ef.els]; omega
theorem c142':∀ (k:Nat) (l:List Ef),SizeOf.sizeOf l≤k→lsFit l=true→PCall prog GL0 142 [efV l] (iv (efsW 0 l))
  | 0,l,h,_=>by cases l <;> simp at h
  | k + 1,l,hk,hf=>by
    refine Zf hP g142_ok rfl rfl ?_
    unfold g142
    have hlen:=QB hf
    rw[bigE] at hlen
    refine Xm (ι:=Nat) (fun i vs σ=>∃ n,vs=[iv i,iv n]∧i≤l.length∧0≤n∧n≤1073741824∧efsW 0 l=efsW n (l.drop i)) (fun i=>l.length - i) 0 ⟨0,rfl,by omega,by omega,by omega,by simp⟩ ?_
    rintro i vs σ again ⟨n,rfl,hi,n1,n2,hu⟩ hag
    refine Za rfl (Za rfl ?_)
    refine Xc (fun h=>?_) (fun h=>?_)
    · have h:i < l.length:=by simpa using h
      have hdr:l.drop i=l[i] :: l.drop (i + 1):=by rw[List.drop_eq_getElem_cons h]
      rw[hdr,efsW] at hu
      have hm:l[i]∈l:=List.getElem_mem h
      have hsz:=List.sizeOf_lt_of_mem hm
      have hfx:=XK hf hm
      have ix:=fun (s:List ABlk)=>Qo s efC false false 14 l .i64 i h
      generalize l[i]=x at hu hsz hfx ix
      refine Qac (Za (Yn ..) (Za (ZW ..) (Za (ix _) (Za rfl (Za (ldr (efLd0 x)) ?_)))))
      refine Zd (c130 _) rfl g130_ok.plain rfl ?_
      have b1:=Xa9 x.n
      have b2:=ZbT x.c
      have b3:=Qay x.thn
      have b4:=Qay x.els
      rw[wrapI (n:=n + 1) (by omega) (by omega)]
      have fin:∀ m:Int,0≤m→m≤1073741824→efW n x=m→again [iv ((i + 1:Nat):Int),iv m] σ:=by
        intro m m1 m2 e
        exact hag (i + 1) _ _ (by omega) ⟨m,rfl,by omega,m1,m2,by rw[hu,e]⟩
      refine Qac ?_
      refine Xc (fun hc=>?_) (fun hc=>?_)
      all_goals
        first
        | (refine Za (ix _) (Za rfl (Za (ldr (efLdN x)) ?_))
           refine Zd (c76 _ (Q2 hfx)) rfl g76_ok.plain (nmRo _) ?_
           refine Za (Yn ..) (Za (ZW ..) ?_)
           rw[wrapI (n:=min (n + 1) 1073741824 + nmW x.n) (by omega) (by omega)])
        | skip
      · have hm2:(if cntOp x.op then min (min (n + 1) 1073741824 + nmW x.n) 1073741824 else min (n + 1) 1073741824)=min (min (n + 1) 1073741824 + nmW x.n) 1073741824:=by rw[if_pos hc]
        obtain⟨m,hm⟩:∃ m,m=min (min (n + 1) 1073741824 + nmW x.n) 1073741824:=⟨_,rfl⟩
        rw[← hm]
        replace hm2:=hm2.trans hm.symm
        have m1:0≤m∧m≤1073741824:=by omega
        refine Za (ix _) (Za rfl (Za (ldr (efLd0 x)) (Za rfl ?_)))
        refine Xc (fun h8=>?_) (fun h8=>?_)
        · have h8:x.op=8:=by simpa using h8
          refine Qh (ix _) (Xi _) (Xf rfl (Qh (ldr (efLdC x)) (Xi _) ?_))
          refine Qp (c178 _ (ZY hfx)) rfl g178_ok.plain (cnRo _) ?_
          refine Xf (Yn ..) (Qh (ix _) (Xi _) (Xf rfl (Qh (ldr (Xp x)) (Xi _) ?_)))
          have hs2:=Yaa x
          refine Qp (c142' k _ (by omega) (YK hfx)) rfl g142_ok.plain rfl ?_
          refine Xf (Yn ..) (Qh (ix _) (Xi _) (Xf rfl (Qh (ldr (Zq x)) (Xi _) ?_)))
          refine Qp (c142' k _ (by omega) (QJ hfx)) rfl g142_ok.plain rfl ?_
          refine Xf (Yn ..) (Xf (ZW ..) (Yy (by kernel_rfl) (Za (Yn ..) ?_)))
          rw[Zh (n:=i) (by omega),wrapI (n:=m + cnW x.c) (by omega) (by omega),wrapI (n:=m + cnW x.c + efsW 0 x.thn) (by omega) (by omega),wrapI (n:=m + cnW x.c + efsW 0 x.thn + efsW 0 x.els) (by omega) (by omega)]
          exact fin _ (by omega) (by omega) (by rw[QaY,if_pos h8,hm2])
        · have h8:x.op≠8:=by simpa using h8
          refine Za (Yn ..) ?_
          rw[Zh (n:=i) (by omega)]
          exact fin _ m1.1 m1.2 (by rw[QaY,if_neg h8,hm2])
      · have hm2:(if cntOp x.op then min (min (n + 1) 1073741824 + nmW x.n) 1073741824 else min (n + 1) 1073741824)=min (n + 1) 1073741824:=by rw[if_neg (by simpa using hc)]
        obtain⟨m,hm⟩:∃ m,m=min (n + 1) 1073741824:=⟨_,rfl⟩
        rw[← hm]
        replace hm2:=hm2.trans hm.symm
        have m1:0≤m∧m≤1073741824:=by omega
        refine Za (ix _) (Za rfl (Za (ldr (efLd0 x)) (Za rfl ?_)))
        refine Xc (fun h8=>?_) (fun h8=>?_)
        · have h8:x.op=8:=by simpa using h8
          refine Qh (ix _) (Xi _) (Xf rfl (Qh (ldr (efLdC x)) (Xi _) ?_))
          refine Qp (c178 _ (ZY hfx)) rfl g178_ok.plain (cnRo _) ?_
          refine Xf (Yn ..) (Qh (ix _) (Xi _) (Xf rfl (Qh (ldr (Xp x)) (Xi _) ?_)))
          have hs2:=Yaa x
          refine Qp (c142' k _ (by omega) (YK hfx)) rfl g142_ok.plain rfl ?_
          refine Xf (Yn ..) (Qh (ix _) (Xi _) (Xf rfl (Qh (ldr (Zq x)) (Xi _) ?_)))
          refine Qp (c142' k _ (by omega) (QJ hfx)) rfl g142_ok.plain rfl ?_
          refine Xf (Yn ..) (Xf (ZW ..) (Yy (by kernel_rfl) (Za (Yn ..) ?_)))
          rw[Zh (n:=i) (by omega),wrapI (n:=m + cnW x.c) (by omega) (by omega),wrapI (n:=m + cnW x.c + efsW 0 x.thn) (by omega) (by omega),wrapI (n:=m + cnW x.c + efsW 0 x.thn + efsW 0 x.els) (by omega) (by omega)]
          exact fin _ (by omega) (by omega) (by rw[QaY,if_pos h8,hm2])
        · have h8:x.op≠8:=by simpa using h8
          refine Za (Yn ..) ?_
          rw[Zh (n:=i) (by omega)]
          exact fin _ m1.1 m1.2 (by rw[QaY,if_neg h8,hm2])
    · have h:i=l.length:=by simp at h; omega
      subst h
      rw[List.drop_length] at hu
      rw[hu]; rfl
theorem c142(l:List Ef)(hf:lsFit l=true):PCall prog GL0 142 [efV l] (iv (efsW 0 l)):=c142' _ l (Nat.le_refl _) hf
end Go.Ah.Tz
end
section
namespace Go.Ah.Tz
open Go.Proofs.Tryz (prog)
def noNum(x:Nm):Bool:=decide (x.op=0) && (decide (x.n=0) && (decide (x.who=0) && decide (x.kids.length=0)))
def noCond(x:Cn):Bool:=decide (x.op=0) && (decide (x.who=0) && (x.name == [] && (decide (x.nums.length=0) && decide (x.kids.length=0))))
def findC:List Cd→Tx→Bool→Bool
 | [],_,_=>false
 | c :: l,t,u=>if c.name == t then c.unit || !u else findC l t u
def chk(cs:List Cd)(t:Bool):List AVal:=[cdV cs,.bool t]
attribute [local irreducible] Ans.rd Ans.pu Ans.wr Ans.dr Ans.gr Ans.gw Ans.gl Ans.gd Ans.opt joinK W
theorem Qi{f:(List AVal→List ABlk→Prop)→Prop}{k:List AVal→List ABlk→Prop}(h:∀ k',k'=k→f k'):joinK f k:=Qac (h k rfl)
theorem c110(c:Cd)(h1:lsFit c.played=true)(h2:lsFit c.dead=true)(h3:lsFit c.dawn=true):PCall prog GL0 110 [.agg (cdC c)] (iv (min (efsW 0 c.played + efsW 0 c.dead + efsW 0 c.dawn) 1073741824)):=by
 refine Zf hP g110_ok rfl rfl ?_
 unfold g110
 refine Ye rfl rfl (Xf rfl (Qh rfl rfl ?_))
 refine Qp (c142 _ h1) rfl g142_ok.plain rfl ?_
 refine Xf rfl (Qh rfl rfl ?_)
 refine Qp (c142 _ h2) rfl g142_ok.plain rfl ?_
 refine Xf (Yn ..) (Xf rfl (Qh rfl rfl ?_))
 refine Qp (c142 _ h3) rfl g142_ok.plain rfl ?_
 refine Xf (Yn ..) (Xf (ZW ..) (Yy (by kernel_rfl) ?_))
 have b1:=Qay c.played
 have b2:=Qay c.dead
 have b3:=Qay c.dawn
 rw[wrapI (n:=efsW 0 c.played + efsW 0 c.dead) (by omega) (by omega),wrapI (by omega) (by omega)]
theorem c225(x:Nm):PCall prog GL0 225 [.agg (nmC x)] (.bool (noNum x)):=by
 rw[QD]
 refine Zf hP g225_ok rfl rfl ?_
 unfold g225
 refine Ye rfl rfl ?_
 refine Za rfl (Za rfl (Za (Zg ..) ?_))
 rcases Bool.eq_false_or_eq_true (decide (x.op=0)) with h1 | h1
 rotate_left
 ·rw[h1]
  repeat (first | refine Yb rfl ?_ | refine Yc rfl ?_ | refine Yd rfl ?_ | refine Qd rfl ?_ | refine Za rfl ?_)
  simp at h1; simp[noNum,h1]
 rw[h1]
 repeat (first | refine Xa ?_ | refine Zb ?_ | refine Za (Zg ..) ?_ | refine Za (Qf ..) ?_ | refine Za rfl ?_)
 rcases Bool.eq_false_or_eq_true (decide (x.n=0)) with h2 | h2
 rotate_left
 ·rw[h2]
  repeat (first | refine Yb rfl ?_ | refine Yc rfl ?_ | refine Yd rfl ?_ | refine Qd rfl ?_ | refine Za rfl ?_)
  simp at h2; simp[noNum,h2]
 rw[h2]
 repeat (first | refine Xa ?_ | refine Zb ?_ | refine Za (Zg ..) ?_ | refine Za (Qf ..) ?_ | refine Za rfl ?_)
 rcases Bool.eq_false_or_eq_true (decide (x.who=0)) with h3 | h3
 rotate_left
 ·rw[h3]
  repeat (first | refine Yb rfl ?_ | refine Yc rfl ?_ | refine Yd rfl ?_ | refine Qd rfl ?_ | refine Za rfl ?_)
  simp at h3; simp[noNum,h3]
 rw[h3]
 repeat (first | refine Xa ?_ | refine Zb ?_ | refine Za (Zg ..) ?_ | refine Za (Qf ..) ?_ | refine Za rfl ?_)
 simp at h1 h2 h3
 simp[noNum,h1,h2,h3]
theorem c227(x:Cn):PCall prog GL0 227 [.agg (cnC x)] (.bool (noCond x)):=by
 rw[QL]
 refine Zf hP g227_ok rfl rfl ?_
 unfold g227
 refine Ye rfl rfl ?_
 refine Za rfl (Za rfl (Za (Zg ..) ?_))
 rcases Bool.eq_false_or_eq_true (decide (x.op=0)) with h1 | h1
 rotate_left
 ·rw[h1]
  repeat (first | refine Yb rfl ?_ | refine Yc rfl ?_ | refine Yd rfl ?_ | refine Qd rfl ?_ | refine Za rfl ?_)
  simp at h1; simp[noCond,h1]
 rw[h1]
 repeat (first | refine Xa ?_ | refine Zb ?_ | refine Za (Zg ..) ?_ | refine Za (Qf ..) ?_ | refine Za rfl ?_)
 rcases Bool.eq_false_or_eq_true (decide (x.who=0)) with h2 | h2
 rotate_left
 ·rw[h2]
  repeat (first | refine Yb rfl ?_ | refine Yc rfl ?_ | refine Yd rfl ?_ | refine Qd rfl ?_ | refine Za rfl ?_)
  simp at h2; simp[noCond,h2]
 rw[h2]
 repeat (first | refine Xa ?_ | refine Zb ?_ | refine Za (Zg ..) ?_ | refine Za (Qf ..) ?_ | refine Za rfl ?_)
 rcases Bool.eq_false_or_eq_true (x.name == []) with h3 | h3
 rotate_left
 ·rw[h3]
  repeat (first | refine Yb rfl ?_ | refine Yc rfl ?_ | refine Yd rfl ?_ | refine Qd rfl ?_ | refine Za rfl ?_)
  simp at h3; simp[noCond,h3]
 rw[h3]
 repeat (first | refine Xa ?_ | refine Zb ?_ | refine Za (Zg ..) ?_ | refine Za (Qf ..) ?_ | refine Za rfl ?_)
 rcases Bool.eq_false_or_eq_true (decide (((x.nums.map nmC).length:Int)=0)) with h4 | h4
 rotate_left
 ·rw[h4]
  repeat (first | refine Yb rfl ?_ | refine Yc rfl ?_ | refine Yd rfl ?_ | refine Qd rfl ?_ | refine Za rfl ?_)
  simp at h4; simp[noCond,h4]
 rw[h4]
 repeat (first | refine Xa ?_ | refine Zb ?_ | refine Za (Zg ..) ?_ | refine Za (Qf ..) ?_ | refine Za rfl ?_)
 simp at h1 h2 h3 h4
 simp[noCond,h1,h2,h3,h4]
theorem c187(n:Int):PCall prog GL0 187 [iv n] (.bool (decide (0≤n) && decide (n≤999))):=by
 refine Zf hP g187_ok rfl rfl ?_
 unfold g187
 refine Za rfl ?_
 rcases Bool.eq_false_or_eq_true (decide (n ≥ 0)) with h | h
 ·rw[h]
  repeat (first | refine Za rfl ?_ | refine Ye rfl rfl ?_ | refine Xa ?_ | refine Zb ?_)
  have h':0≤n:=by simpa using h
  simp[h']
 ·rw[h]
  repeat (first | refine Yb rfl ?_ | refine Yc rfl ?_ | refine Yd rfl ?_ | refine Qd rfl ?_ | refine Za rfl ?_ | refine Ye rfl rfl ?_)
  have h':¬ 0≤n:=by simpa using h
  simp[h']
theorem cdLd0(x:Cd):partA false 0 1 (cdC x)=some (.str x.name):=rfl
theorem cdLd1(x:Cd):partA false 1 1 (cdC x)=some (.bool x.unit):=rfl
theorem c228(cs:List Cd)(hc:cs.length≤big)(t:Bool)(nm:Tx)(u:Bool):PCall prog GL0 228 [.rptr (chk cs t) 0,.str nm,.bool u] (.bool (findC cs nm u)):=by
 refine Zf hP g228_ok rfl rfl ?_
 unfold g228
 rw[bigE] at hc
 refine Xm (ι:=Nat) (fun i vs σ=>vs=[iv i]∧i≤cs.length∧findC cs nm u=findC (cs.drop i) nm u) (fun i=>cs.length - i) 0 ⟨rfl,by omega,by simp⟩ ?_
 rintro i vs σ again ⟨rfl,hi,hu⟩ hag
 repeat (first | refine Za (ldr (row:=chk cs t) rfl) ?_ | refine Za rfl ?_)
 refine Xc (fun h=>?_) (fun h=>?_)
 ·have h:i < cs.length:=by simpa using h
  have hdr:cs.drop i=cs[i] :: cs.drop (i + 1):=by rw[List.drop_eq_getElem_cons h]
  rw[hdr,findC] at hu
  have ix:=fun (s:List ABlk)=>Qo s cdC false false 12 cs .i64 i h
  generalize cs[i]=c at hu ix
  refine Za rfl (Za rfl (Za (ldr (row:=chk cs t) rfl) (Za (ix _) (Za rfl (Za (ldr (cdLd0 c)) (Za (Qf ..) ?_))))))
  refine Xc (fun h=>?_) (fun h=>?_)
  ·rw[if_pos h] at hu
   refine Za rfl (Za rfl (Za (ldr (row:=chk cs t) rfl) (Za (ix _) (Za rfl (Za (ldr (cdLd1 c)) ?_)))))
   rw[hu]
   cases c.unit <;> repeat (first | refine Xa ?_ | refine Yb rfl ?_ | refine Yd rfl ?_ | refine Za rfl ?_)
   ·simp
   ·simp
  ·rw[if_neg (by simpa using h)] at hu
   refine Za (Yn ..) ?_
   rw[Zh (n:=i) (by omega)]
   exact hag (i + 1) _ _ (by omega) ⟨rfl,by omega,hu⟩
 ·have h:i=cs.length:=by simp at h; omega
  subst h
  rw[List.drop_length] at hu
  rw[hu]; rfl
end Go.Ah.Tz
end
section
namespace Go.Ah.Tz
open Go.Proofs.Tryz (prog)
def nmK(op:Int):Nat:=if 8≤op∧op≤12 then 2 else 0
def nmTop(t:Bool)(op n who:Int)(len:Nat):Bool:=
 (decide (0≤op) && (decide (op≤12) && decide (len=nmK op)))
def nmEnd(t:Bool)(op n who:Int):Bool:=
 if op=0 then decide (0≤n) && (decide (n≤999) && decide (who=0)) else decide (n=0) && (if 1≤op∧op≤4 then sdOp who else decide (who=0) && (decide (op≠7) || t))
mutual
def nmOk (t:Bool):Nm→Bool
 | .mk op n who kids=>nmTop t op n who kids.length && (nmsOk t kids && nmEnd t op n who)
def nmsOk (t:Bool):List Nm→Bool
 | []=>true
 | x :: l=>nmOk t x && nmsOk t l
end
theorem Qb5(t:Bool)(x:Nm):nmOk t x=(nmTop t x.op x.n x.who x.kids.length && (nmsOk t x.kids && nmEnd t x.op x.n x.who)):=by cases x; rfl
def cnK3(op:Int):Nat:=if 0≤op∧op≤2 then 2 else 0
def cnK4(op:Int):Nat:=if op=4∨op=5 then 2 else if op=3 then 1 else 0
def cnTop(op:Int)(l3 l4:Nat):Bool:=decide (0≤op) && (decide (op≤6) && (decide (l3=cnK3 op) && decide (l4=cnK4 op)))
def cnEnd(cs:List Cd)(op who:Int)(name:Tx):Bool:=if op=6 then sdOp who && findC cs name false else decide (who=0) && name == []
mutual
def cnOk (cs:List Cd) (t:Bool):Cn→Bool
 | .mk op who name nums kids=>cnTop op nums.length kids.length && (nmsOk t nums && (cnsOk cs t kids && cnEnd cs op who name))
def cnsOk (cs:List Cd) (t:Bool):List Cn→Bool
 | []=>true
 | x :: l=>cnOk cs t x && cnsOk cs t l
end
theorem QbI(cs:List Cd)(t:Bool)(x:Cn):cnOk cs t x=(cnTop x.op x.nums.length x.kids.length && (nmsOk t x.nums && (cnsOk cs t x.kids && cnEnd cs x.op x.who x.name))):=by cases x; rfl
attribute [local irreducible] Ans.rd Ans.pu Ans.wr Ans.dr Ans.gr Ans.gw Ans.gl Ans.gd Ans.opt joinK W
theorem c77'(cs:List Cd)(t:Bool):∀ (k:Nat) (x:Nm),SizeOf.sizeOf x≤k→nmFit x=true→PCall prog GL0 77 [.rptr (chk cs t) 0,.agg (nmC x)] (.bool (nmOk t x))
 | 0,x,h,_=>by cases x; simp at h
 | k + 1,x,hk,hf=>by
  rw[QD]
  refine Zf hP g77_ok rfl rfl ?_
  unfold g77
  refine Ye rfl rfl ?_
  rw[Qb5]
  have hlen:=Z4 hf
  rw[bigE] at hlen
  generalize hB:([] ++ [ABlk.box [iv8 x.op,iv x.n,iv8 x.who,.rsl false false 4 (x.kids.map nmC)]]:List ABlk)=base
  have hB0:hget base 0=.box [iv8 x.op,iv x.n,iv8 x.who,.rsl false false 4 (x.kids.map nmC)]:=by rw[← hB]; rfl
  clear hB
  repeat (first | refine Za (ld hB0 rfl) ?_ | refine Za rfl ?_)
  have pick:∀ K:AVal→Prop,K (.bool (decide (8≤x.op) && decide (x.op≤12))) →
    (W prog GL0).gr (.bool (decide (x.op ≥ 8))) true (fun k=>(W prog GL0).rd (Ya 0 [.bptr 0 0] base) k) fun t11_4=>
    (W prog GL0).gr (.bool (decide (x.op ≥ 8))) true (fun k=>(W prog GL0).rd (Ze false 1 [t11_4] base) k) fun t12_5=>
    (W prog GL0).gr (.bool (decide (x.op ≥ 8))) true (fun k=>(W prog GL0).rd (Qb .leq false [t12_5,(.int .i8 12)] base) k) fun t13_6=>
    (W prog GL0).rd (Qc [.bool (decide (x.op ≥ 8)),t13_6,(.bool false)] base) K:=by
   intro K hK
   rcases Bool.eq_false_or_eq_true (decide (x.op ≥ 8)) with h | h
   rotate_left
   ·rw[h]
    repeat (first | refine Yb rfl ?_ | refine Yc rfl ?_ | refine Yd rfl ?_ | refine Qd rfl ?_ | refine Za rfl ?_)
    have h:¬ 8≤x.op:=by simpa using h
    simpa[h] using hK
   rw[h]
   repeat (first | refine Xa ?_ | refine Zb ?_ | refine Za (ld hB0 rfl) ?_ | refine Za (Zg ..) ?_ | refine Za (Qf ..) ?_ | refine Za rfl ?_)
   have h:8≤x.op:=by simpa using h
   simpa[h] using hK
  refine pick _ ?_
  clear pick
  refine Qi fun kj hkj=>?_
  have kk:kj [iv (nmK x.op)] base:=by
   rw[hkj]; clear hkj kj
   repeat (first | refine Za (ld hB0 rfl) ?_ | refine Za rfl ?_)
   have bad1:¬ (0≤x.op∧x.op≤12∧x.kids.length=nmK x.op)→AVal.bool false=AVal.bool (nmTop t x.op x.n x.who x.kids.length && (nmsOk t x.kids && nmEnd t x.op x.n x.who)):=by
    intro hn
    have:nmTop t x.op x.n x.who x.kids.length=false:=by
     rw[Bool.eq_false_iff]; intro hh; simp[nmTop] at hh; exact hn hh
    rw[this]; rfl
   rcases Bool.eq_false_or_eq_true (decide (x.op < 0)) with h1 | h1
   ·rw[h1]
    repeat (first | refine Yb rfl ?_ | refine Yc rfl ?_ | refine Yd rfl ?_ | refine Qd rfl ?_ | refine Za rfl ?_)
    refine Xe (bad1 ?_)
    simp at h1; omega
   rw[h1]
   repeat (first | refine Xa ?_ | refine Zb ?_ | refine Za (ld hB0 rfl) ?_ | refine Za (Zg ..) ?_ | refine Za (Qf ..) ?_ | refine Za rfl ?_)
   rcases Bool.eq_false_or_eq_true (decide (x.op > 12)) with h2 | h2
   ·rw[h2]
    repeat (first | refine Yb rfl ?_ | refine Yc rfl ?_ | refine Yd rfl ?_ | refine Qd rfl ?_ | refine Za rfl ?_)
    refine Xe (bad1 ?_)
    simp at h2; omega
   rw[h2]
   repeat (first | refine Xa ?_ | refine Zb ?_ | refine Za (ld hB0 rfl) ?_ | refine Za (Zg ..) ?_ | refine Za (Qf ..) ?_ | refine Za rfl ?_)
   refine Xc (fun h3=>bad1 ?_) (fun h3=>?_)
   ·simp at h3; omega
   simp at h1 h2 h3
   have ht:nmTop t x.op x.n x.who x.kids.length=true:=by simp[nmTop]; omega
   rw[ht,Bool.true_and]
   refine Xm (ι:=Nat) (fun i vs σ=>vs=[iv i]∧σ=base∧i≤x.kids.length∧nmsOk t x.kids=nmsOk t (x.kids.drop i)) (fun i=>x.kids.length - i) 0 ⟨rfl,rfl,by omega,by simp⟩ ?_
   rintro i vs σ again ⟨rfl,rfl,hi,hu⟩ hag
   repeat (first | refine Za (ld hB0 rfl) ?_ | refine Za rfl ?_)
   refine Xc (fun h=>?_) (fun h=>?_)
   ·have h:i < x.kids.length:=by simpa using h
    have hdr:x.kids.drop i=x.kids[i] :: x.kids.drop (i + 1):=by rw[List.drop_eq_getElem_cons h]
    rw[hdr,nmsOk] at hu
    have hm:x.kids[i]∈x.kids:=List.getElem_mem h
    refine Za rfl (Za (ld hB0 rfl) (Za (Qo _ nmC _ _ _ x.kids _ i h) (Za (ldr (nmLd _)) ?_)))
    refine Zd (c77' cs t k _ (by have:=Zak hm; omega) (XV hf hm)) rfl g77_ok.plain (by rw[QD]; rfl) ?_
    refine Za rfl ?_
    refine Xc (fun h4=>?_) (fun h4=>?_)
    ·have h4:nmOk t x.kids[i]=false:=by simpa using h4
     rw[hu,h4]; rfl
    ·have h4:nmOk t x.kids[i]=true:=by simpa using h4
     rw[h4,Bool.true_and] at hu
     refine Za (Yn ..) ?_
     rw[Zh (n:=i) (by omega)]
     exact hag (i + 1) _ _ (by omega) ⟨rfl,rfl,by omega,hu⟩
   have h:i=x.kids.length:=by simp at h; omega
   subst h
   rw[List.drop_length,nmsOk] at hu
   rw[hu,Bool.true_and]
   clear hag hu hi bad1 ht
   refine Za rfl (Za (ld hB0 rfl) (Za (Zg ..) ?_))
   refine Xc (fun h5=>?_) (fun h5=>?_)
   ·have h5:x.op=0:=by simpa using h5
    repeat (first | refine Za (ld hB0 rfl) ?_ | refine Za rfl ?_)
    rcases Bool.eq_false_or_eq_true (decide (x.n ≥ 0)) with h6 | h6
    rotate_left
    ·rw[h6]
     repeat (first | refine Yb rfl ?_ | refine Yc rfl ?_ | refine Yd rfl ?_ | refine Qd rfl ?_ | refine Za rfl ?_)
     have h6:¬ 0≤x.n:=by simpa using h6
     simp[nmEnd,h5,h6]
    rw[h6]
    repeat (first | refine Xa ?_ | refine Zb ?_ | refine Za (ld hB0 rfl) ?_ | refine Za (Zg ..) ?_ | refine Za (Qf ..) ?_ | refine Za rfl ?_)
    rcases Bool.eq_false_or_eq_true (decide (x.n≤999)) with h7 | h7
    rotate_left
    ·rw[h7]
     repeat (first | refine Yb rfl ?_ | refine Yc rfl ?_ | refine Yd rfl ?_ | refine Qd rfl ?_ | refine Za rfl ?_)
     have h7:¬ x.n≤999:=by simpa using h7
     simp[nmEnd,h5,h7]
    rw[h7]
    repeat (first | refine Xa ?_ | refine Zb ?_ | refine Za (ld hB0 rfl) ?_ | refine Za (Zg ..) ?_ | refine Za (Qf ..) ?_ | refine Za rfl ?_)
    have h6:0≤x.n:=by simpa using h6
    simp at h7
    simp[nmEnd,h5,h6,h7]
   have h5:x.op≠0:=by simpa using h5
   repeat (first | refine Za (ld hB0 rfl) ?_ | refine Za rfl ?_)
   refine Xc (fun h6=>?_) (fun h6=>?_)
   ·have h6:x.n≠0:=by simpa using h6
    simp[nmEnd,h5,h6]
   have h6:x.n=0:=by simpa using h6
   repeat (first | refine Za (ld hB0 rfl) ?_ | refine Za rfl ?_)
   have op1:1≤x.op:=by omega
   have op1d:decide (x.op ≥ 1)=true:=by simpa using op1
   rw[op1d]
   repeat (first | refine Xa ?_ | refine Zb ?_ | refine Za (ld hB0 rfl) ?_ | refine Za (Zg ..) ?_ | refine Za (Qf ..) ?_ | refine Za rfl ?_)
   refine Xc (fun h7=>?_) (fun h7=>?_)
   ·have h7:x.op≤4:=by simpa using h7
    refine Za rfl (Za (ld hB0 rfl) ?_)
    refine Zd (c121 _) rfl g121_ok.plain rfl ?_
    simp[nmEnd,h5,h6,h7,op1]
   have h7:¬ x.op≤4:=by simpa using h7
   refine Za rfl (Za (ld hB0 rfl) (Za (Zg ..) ?_))
   rcases Bool.eq_false_or_eq_true (decide (x.who=0)) with h8 | h8
   rotate_left
   ·rw[h8]
    repeat (first | refine Yb rfl ?_ | refine Yc rfl ?_ | refine Yd rfl ?_ | refine Qd rfl ?_ | refine Za rfl ?_)
    have h8:¬ x.who=0:=by simpa using h8
    simp[nmEnd,h5,h6,h7,h8]
   rw[h8]
   repeat (first | refine Xa ?_ | refine Zb ?_ | refine Za (ld hB0 rfl) ?_ | refine Za (Zg ..) ?_ | refine Za (Qf ..) ?_ | refine Za rfl ?_)
   have h8:x.who=0:=by simpa using h8
   rcases Bool.eq_false_or_eq_true (x.op != 7) with h9 | h9
   ·rw[h9]
    repeat (first | refine Yb rfl ?_ | refine Yc rfl ?_ | refine Yd rfl ?_ | refine Qd rfl ?_ | refine Za rfl ?_)
    have h9:x.op≠7:=by simpa using h9
    simp[nmEnd,h5,h6,h7,h8,h9]
   rw[h9]
   repeat (first | refine Xa ?_ | refine Za (ldr (row:=chk cs t) rfl) ?_ | refine Za rfl ?_)
   have h9:x.op=7:=by simpa using h9
   simp[nmEnd,h6,h8,h9]
  refine Xc (fun h=>?_) (fun h=>?_)
  ·have e:nmK x.op=2:=by simp at h; simp[nmK,h]
   rw[e] at kk; exact kk
  ·have e:nmK x.op=0:=by simp at h; simp[nmK]; omega
   rw[e] at kk; exact kk
theorem c77(cs:List Cd)(t:Bool)(x:Nm)(hf:nmFit x=true):PCall prog GL0 77 [.rptr (chk cs t) 0,.agg (nmC x)] (.bool (nmOk t x)):=c77' cs t _ x (Nat.le_refl _) hf
end Go.Ah.Tz
end
section
namespace Go.Ah.Tz
open Go.Proofs.Tryz (prog)
attribute [local irreducible] Ans.rd Ans.pu Ans.wr Ans.dr Ans.gr Ans.gw Ans.gl Ans.gd Ans.opt joinK W
theorem cnRo2(cs:List Cd)(t:Bool)(x:Cn):roL [.rptr (chk cs t) 0,.agg (cnC x)]=true:=by rw[QL]; rfl
theorem nmRo2(cs:List Cd)(t:Bool)(x:Nm):roL [.rptr (chk cs t) 0,.agg (nmC x)]=true:=by rw[QD]; rfl
theorem c226'(cs:List Cd)(hcs:cs.length≤big)(t:Bool):∀ (k:Nat) (x:Cn),SizeOf.sizeOf x≤k→cnFit x=true→PCall prog GL0 226 [.rptr (chk cs t) 0,.agg (cnC x)] (.bool (cnOk cs t x))
 | 0,x,h,_=>by cases x; simp at h
 | k + 1,x,hk,hf=>by
  rw[QL]
  refine Zf hP g226_ok rfl rfl ?_
  unfold g226
  refine Ye rfl rfl ?_
  rw[QbI]
  have hl1:=XN hf
  have hl2:=YN hf
  rw[bigE] at hl1 hl2
  generalize hB:([] ++ [ABlk.box [iv8 x.op,iv8 x.who,.str x.name,.rsl false false 4 (x.nums.map nmC),.rsl false false 5 (x.kids.map cnC)]]:List ABlk)=base
  have hB0:hget base 0=.box [iv8 x.op,iv8 x.who,.str x.name,.rsl false false 4 (x.nums.map nmC),.rsl false false 5 (x.kids.map cnC)]:=by rw[← hB]; rfl
  clear hB
  repeat (first | refine Za (ld hB0 rfl) ?_ | refine Za rfl ?_)
  have pick:∀ K:AVal→Prop,K (.bool (decide (0≤x.op) && decide (x.op≤2))) →
    (W prog GL0).gr (.bool (decide (x.op ≥ 0))) true (fun k=>(W prog GL0).rd (Ya 0 [.bptr 0 0] base) k) fun t13_4=>
    (W prog GL0).gr (.bool (decide (x.op ≥ 0))) true (fun k=>(W prog GL0).rd (Ze false 1 [t13_4] base) k) fun t14_5=>
    (W prog GL0).gr (.bool (decide (x.op ≥ 0))) true (fun k=>(W prog GL0).rd (Qb .leq false [t14_5,(.int .i8 2)] base) k) fun t15_6=>
    (W prog GL0).rd (Qc [.bool (decide (x.op ≥ 0)),t15_6,(.bool false)] base) K:=by
   intro K hK
   rcases Bool.eq_false_or_eq_true (decide (x.op ≥ 0)) with h | h
   rotate_left
   ·rw[h]
    repeat (first | refine Yb rfl ?_ | refine Yc rfl ?_ | refine Yd rfl ?_ | refine Qd rfl ?_ | refine Za rfl ?_)
    have h:¬ 0≤x.op:=by simpa using h
    simpa[h] using hK
   rw[h]
   repeat (first | refine Xa ?_ | refine Zb ?_ | refine Za (ld hB0 rfl) ?_ | refine Za (Zg ..) ?_ | refine Za (Qf ..) ?_ | refine Za rfl ?_)
   have h:0≤x.op:=by simpa using h
   simpa[h] using hK
  refine pick _ ?_
  clear pick
  refine Qi fun kj hkj=>?_
  have kk:kj [iv (cnK3 x.op)] base:=by
   rw[hkj]; clear hkj kj
   repeat (first | refine Za (ld hB0 rfl) ?_ | refine Za (Zg ..) ?_ | refine Za (Qf ..) ?_ | refine Za rfl ?_)
   refine Qi fun kj hkj=>?_
   have kk:kj [iv (if x.op=3 then 1 else 0:Nat)] base:=by
    rw[hkj]; clear hkj kj
    repeat (first | refine Za (ld hB0 rfl) ?_ | refine Za (Zg ..) ?_ | refine Za (Qf ..) ?_ | refine Za rfl ?_)
    have pick:∀ K:AVal→Prop,K (.bool (decide (x.op=4∨x.op=5))) →
      (W prog GL0).gr (.bool (decide (x.op=4))) false (fun k=>(W prog GL0).rd (Ya 0 [.bptr 0 0] base) k) fun t24_18=>
      (W prog GL0).gr (.bool (decide (x.op=4))) false (fun k=>(W prog GL0).rd (Ze false 1 [t24_18] base) k) fun t25_19=>
      (W prog GL0).gr (.bool (decide (x.op=4))) false (fun k=>(W prog GL0).rd (Qb .eql false [t25_19,(.int .i8 5)] base) k) fun t26_20=>
      (W prog GL0).rd (Qc [.bool (decide (x.op=4)),(.bool true),t26_20] base) K:=by
     intro K hK
     rcases Bool.eq_false_or_eq_true (decide (x.op=4)) with h | h
     ·rw[h]
      repeat (first | refine Yb rfl ?_ | refine Yc rfl ?_ | refine Yd rfl ?_ | refine Qd rfl ?_ | refine Za rfl ?_)
      have h:x.op=4:=by simpa using h
      simpa[h] using hK
     rw[h]
     repeat (first | refine Xa ?_ | refine Zb ?_ | refine Za (ld hB0 rfl) ?_ | refine Za (Zg ..) ?_ | refine Za (Qf ..) ?_ | refine Za rfl ?_)
     have h:x.op≠4:=by simpa using h
     simpa[h] using hK
    refine pick _ ?_
    clear pick
    refine Qi fun kj hkj=>?_
    have kk:kj [iv (cnK4 x.op)] base:=by
     rw[hkj]; clear hkj kj
     repeat (first | refine Za (ld hB0 rfl) ?_ | refine Za (Zg ..) ?_ | refine Za (Qf ..) ?_ | refine Za rfl ?_)
     have bad1:¬ (0≤x.op∧x.op≤6∧x.nums.length=cnK3 x.op∧x.kids.length=cnK4 x.op)→AVal.bool false=AVal.bool (cnTop x.op x.nums.length x.kids.length && (nmsOk t x.nums && (cnsOk cs t x.kids && cnEnd cs x.op x.who x.name))):=by
      intro hn
      have:cnTop x.op x.nums.length x.kids.length=false:=by
       rw[Bool.eq_false_iff]; intro hh; simp[cnTop] at hh; exact hn hh
      rw[this]; rfl
     rcases Bool.eq_false_or_eq_true (decide (x.op < 0)) with h1 | h1
     ·rw[h1]
      repeat (first | refine Yb rfl ?_ | refine Yc rfl ?_ | refine Yd rfl ?_ | refine Qd rfl ?_ | refine Za rfl ?_)
      refine Xe (bad1 ?_)
      simp at h1; omega
     rw[h1]
     repeat (first | refine Xa ?_ | refine Zb ?_ | refine Za (ld hB0 rfl) ?_ | refine Za (Zg ..) ?_ | refine Za (Qf ..) ?_ | refine Za rfl ?_)
     rcases Bool.eq_false_or_eq_true (decide (x.op > 6)) with h2 | h2
     ·rw[h2]
      repeat (first | refine Yb rfl ?_ | refine Yc rfl ?_ | refine Yd rfl ?_ | refine Qd rfl ?_ | refine Za rfl ?_)
      refine Xe (bad1 ?_)
      simp at h2; omega
     rw[h2]
     repeat (first | refine Xa ?_ | refine Zb ?_ | refine Za (ld hB0 rfl) ?_ | refine Za (Zg ..) ?_ | refine Za (Qf ..) ?_ | refine Za rfl ?_)
     rcases Bool.eq_false_or_eq_true (((x.nums.map nmC).length:Int) != (cnK3 x.op:Int)) with h3 | h3
     ·rw[h3]
      repeat (first | refine Yb rfl ?_ | refine Yc rfl ?_ | refine Yd rfl ?_ | refine Qd rfl ?_ | refine Za rfl ?_)
      refine Xe (bad1 ?_)
      simp at h3; omega
     rw[h3]
     repeat (first | refine Xa ?_ | refine Zb ?_ | refine Za (ld hB0 rfl) ?_ | refine Za (Zg ..) ?_ | refine Za (Qf ..) ?_ | refine Za rfl ?_)
     refine Xc (fun h4=>bad1 ?_) (fun h4=>?_)
     ·simp at h4; omega
     simp at h1 h2 h3 h4
     have ht:cnTop x.op x.nums.length x.kids.length=true:=by simp[cnTop]; omega
     rw[ht,Bool.true_and]
     refine Xm (ι:=Nat) (fun i vs σ=>vs=[iv i]∧σ=base∧i≤x.nums.length∧nmsOk t x.nums=nmsOk t (x.nums.drop i)) (fun i=>x.nums.length - i) 0 ⟨rfl,rfl,by omega,by simp⟩ ?_
     rintro i vs σ again ⟨rfl,rfl,hi,hu⟩ hag
     repeat (first | refine Za (ld hB0 rfl) ?_ | refine Za rfl ?_)
     refine Xc (fun h=>?_) (fun h=>?_)
     ·have h:i < x.nums.length:=by simpa using h
      have hdr:x.nums.drop i=x.nums[i] :: x.nums.drop (i + 1):=by rw[List.drop_eq_getElem_cons h]
      rw[hdr,nmsOk] at hu
      have hm:x.nums[i]∈x.nums:=List.getElem_mem h
      refine Za rfl (Za (ld hB0 rfl) (Za (Qo _ nmC _ _ _ x.nums _ i h) (Za (ldr (nmLd _)) ?_)))
      refine Zd (c77 cs t _ (QW hf hm)) rfl g77_ok.plain (nmRo2 ..) ?_
      refine Za rfl ?_
      refine Xc (fun h4=>?_) (fun h4=>?_)
      ·have h4:nmOk t x.nums[i]=false:=by simpa using h4
       rw[hu,h4]; rfl
      ·have h4:nmOk t x.nums[i]=true:=by simpa using h4
       rw[h4,Bool.true_and] at hu
       refine Za (Yn ..) ?_
       rw[Zh (n:=i) (by omega)]
       exact hag (i + 1) _ _ (by omega) ⟨rfl,rfl,by omega,hu⟩
     have h:i=x.nums.length:=by simp at h; omega
     subst h
     rw[List.drop_length,nmsOk] at hu
     rw[hu,Bool.true_and]
     clear hag hu hi bad1 ht
     refine Xm (ι:=Nat) (fun i vs s=>vs=[iv i]∧s=σ∧i≤x.kids.length∧cnsOk cs t x.kids=cnsOk cs t (x.kids.drop i)) (fun i=>x.kids.length - i) 0 ⟨rfl,rfl,by omega,by simp⟩ ?_
     rintro i vs s again ⟨rfl,rfl,hi,hu⟩ hag
     repeat (first | refine Za (ld hB0 rfl) ?_ | refine Za rfl ?_)
     refine Xc (fun h=>?_) (fun h=>?_)
     ·have h:i < x.kids.length:=by simpa using h
      have hdr:x.kids.drop i=x.kids[i] :: x.kids.drop (i + 1):=by rw[List.drop_eq_getElem_cons h]
      rw[hdr,cnsOk] at hu
      have hm:x.kids[i]∈x.kids:=List.getElem_mem h
      refine Za rfl (Za (ld hB0 rfl) (Za (Qo _ cnC _ _ _ x.kids _ i h) (Za (ldr (cnLd _)) ?_)))
      refine Zd (c226' cs hcs t k _ (by have:=Qam hm; omega) (QV hf hm)) rfl g226_ok.plain (cnRo2 ..) ?_
      refine Za rfl ?_
      refine Xc (fun h4=>?_) (fun h4=>?_)
      ·have h4:cnOk cs t x.kids[i]=false:=by simpa using h4
       rw[hu,h4]; rfl
      ·have h4:cnOk cs t x.kids[i]=true:=by simpa using h4
       rw[h4,Bool.true_and] at hu
       refine Za (Yn ..) ?_
       rw[Zh (n:=i) (by omega)]
       exact hag (i + 1) _ _ (by omega) ⟨rfl,rfl,by omega,hu⟩
     have h:i=x.kids.length:=by simp at h; omega
     subst h
     rw[List.drop_length,cnsOk] at hu
     rw[hu,Bool.true_and]
     clear hag hu hi
     repeat (first | refine Za (ld hB0 rfl) ?_ | refine Za (Zg ..) ?_ | refine Za (Qf ..) ?_ | refine Za rfl ?_)
     refine Xc (fun h5=>?_) (fun h5=>?_)
     ·have h5:x.op=6:=by simpa using h5
      refine Za rfl (Za (ld hB0 rfl) ?_)
      refine Zd (c121 _) rfl g121_ok.plain rfl ?_
      rcases Bool.eq_false_or_eq_true (sdOp x.who) with h6 | h6
      rotate_left
      ·rw[h6]
       repeat (first | refine Yb rfl ?_ | refine Yc rfl ?_ | refine Yd rfl ?_ | refine Qd rfl ?_ | refine Za rfl ?_)
       simp[cnEnd,h5,h6]
      rw[h6]
      repeat (first | refine Xa ?_ | refine Zb ?_ | refine Za (ld hB0 rfl) ?_ | refine Za (Zg ..) ?_ | refine Za (Qf ..) ?_ | refine Za rfl ?_)
      refine Zd (c228 cs hcs t _ _) rfl g228_ok.plain rfl ?_
      repeat (first | refine Xa ?_ | refine Zb ?_ | refine Za (ld hB0 rfl) ?_ | refine Za (Zg ..) ?_ | refine Za (Qf ..) ?_ | refine Za rfl ?_)
      simp[cnEnd,h5,h6]
     have h5:x.op≠6:=by simpa using h5
     repeat (first | refine Za (ld hB0 rfl) ?_ | refine Za (Zg ..) ?_ | refine Za (Qf ..) ?_ | refine Za rfl ?_)
     rcases Bool.eq_false_or_eq_true (decide (x.who=0)) with h6 | h6
     rotate_left
     ·rw[h6]
      repeat (first | refine Yb rfl ?_ | refine Yc rfl ?_ | refine Yd rfl ?_ | refine Qd rfl ?_ | refine Za rfl ?_)
      have h6:x.who≠0:=by simpa using h6
      simp[cnEnd,h5,h6]
     rw[h6]
     repeat (first | refine Xa ?_ | refine Zb ?_ | refine Za (ld hB0 rfl) ?_ | refine Za (Zg ..) ?_ | refine Za (Qf ..) ?_ | refine Za rfl ?_)
     have h6:x.who=0:=by simpa using h6
     simp[cnEnd,h5,h6]
    refine Xc (fun h=>?_) (fun h=>?_)
    ·have e:cnK4 x.op=2:=by simp at h; simp[cnK4]; omega
     rw[e] at kk; exact kk
    ·have e:cnK4 x.op=if x.op=3 then 1 else 0:=by simp at h; simp[cnK4]; omega
     rw[e] at kk; exact kk
   refine Xc (fun h=>?_) (fun h=>?_)
   ·rw[if_pos (by simpa using h)] at kk; exact kk
   ·rw[if_neg (by simpa using h)] at kk; exact kk
  refine Xc (fun h=>?_) (fun h=>?_)
  ·have e:cnK3 x.op=2:=by simp at h; simp[cnK3,h]
   rw[e] at kk; exact kk
  ·have e:cnK3 x.op=0:=by simp at h; simp[cnK3]; omega
   rw[e] at kk; exact kk
theorem c226(cs:List Cd)(hcs:cs.length≤big)(t:Bool)(x:Cn)(hf:cnFit x=true):PCall prog GL0 226 [.rptr (chk cs t) 0,.agg (cnC x)] (.bool (cnOk cs t x)):=c226' cs hcs t _ x (Nat.le_refl _) hf
end Go.Ah.Tz
end
section
namespace Go.Ah.Tz
open Go.Proofs.Tryz (prog)
def efMid(t:Bool)(op who:Int):Bool:=if op=0∨op=1 then sdOp who || (decide (who=2) && t) else decide (who=0)
def efEnd(t:Bool)(op who:Int):Bool:=
 if op=2∨op=4∨op=6 then sdOp who else efMid t op who
mutual
def efOk (cs:List Cd) (t:Bool):Int→Ef→Bool
 | d,.mk op who n name c thn els=>decide (0≤op) && (decide (op≤8) && (if op=8 then
   decide (who=0) && (noNum n && (name == [] && (cnOk cs t c && ((decide (thn.length≤16) && (decide (d + 1≤8) && efsOk cs t (d + 1) thn)) && (decide (els.length≤16) && (decide (d + 1≤8) && efsOk cs t (d + 1) els))))))
  else noCond c && (decide (thn.length=0) && (decide (els.length=0) && ((if cntOp op then nmOk t n else noNum n) && ((if op=7 then findC cs name true else name == []) && efEnd t op who))))))
def efsOk (cs:List Cd) (t:Bool):Int→List Ef→Bool
 | _,[]=>true
 | d,x :: l=>efOk cs t d x && efsOk cs t d l
end
def lstOk(cs:List Cd)(t:Bool)(d:Int)(l:List Ef):Bool:=decide (l.length≤16) && (decide (d≤8) && efsOk cs t d l)
theorem XbF(cs:List Cd)(t:Bool)(d:Int)(x:Ef):efOk cs t d x=(decide (0≤x.op) && (decide (x.op≤8) && (if x.op=8 then
   decide (x.who=0) && (noNum x.n && (x.name == [] && (cnOk cs t x.c && (lstOk cs t (d + 1) x.thn && lstOk cs t (d + 1) x.els))))
  else noCond x.c && (decide (x.thn.length=0) && (decide (x.els.length=0) && ((if cntOp x.op then nmOk t x.n else noNum x.n) && ((if x.op=7 then findC cs x.name true else x.name == []) && efEnd t x.op x.who))))))):=by cases x; rfl
attribute [local irreducible] Ans.rd Ans.pu Ans.wr Ans.dr Ans.gr Ans.gw Ans.gl Ans.gd Ans.opt joinK W
theorem cutF(F:Prop){R G:Prop}(imp:(F→R)→G)(r:F→R):G:=imp r
set_option maxHeartbeats 1000000
theorem c188'(cs:List Cd)(hcs:cs.length≤big)(t:Bool):∀ (k:Nat) (l:List Ef) (d:Int),SizeOf.sizeOf l≤k→lsFit l=true→0≤d→PCall prog GL0 188 [.rptr (chk cs t) 0,efV l,iv d] (.bool (lstOk cs t d l))
 | 0,l,_,h,_,_=>by cases l <;> simp at h
 | k + 1,l,d,hk,hf,hd=>by
  refine Zf hP g188_ok rfl rfl ?_
  unfold g188
  have hlen:=QB hf
  rw[bigE] at hlen
  refine Za rfl (Za rfl ?_)
  rcases Bool.eq_false_or_eq_true (decide (((l.map efC).length:Int) > 16)) with h1 | h1
  ·rw[h1]
   repeat (first | refine Yb rfl ?_ | refine Yc rfl ?_ | refine Yd rfl ?_ | refine Qd rfl ?_ | refine Za rfl ?_)
   refine Xe ?_
   have h1:¬ l.length≤16:=by simp at h1; omega
   simp[lstOk,h1]
  rw[h1]
  repeat (first | refine Xa ?_ | refine Zb ?_ | refine Za rfl ?_)
  refine Xc (fun h2=>?_) (fun h2=>?_)
  ·have h2:¬ d≤8:=by simp at h2; omega
   simp[lstOk,h2]
  have h1:l.length≤16:=by simp at h1; omega
  have h2:d≤8:=by simp at h2; omega
  have hl:lstOk cs t d l=efsOk cs t d l:=by simp[lstOk,h1,h2]
  rw[hl]
  clear hl
  refine Xm (ι:=Nat) (fun i vs σ=>vs=[iv i]∧i≤l.length∧efsOk cs t d l=efsOk cs t d (l.drop i)) (fun i=>l.length - i) 0 ⟨rfl,by omega,by simp⟩ ?_
  rintro i vs σ again ⟨rfl,hi,hu⟩ hag
  refine Za rfl (Za rfl ?_)
  refine Xc (fun h=>?_) (fun h=>?_)
  rotate_left
  ·have h:i=l.length:=by simp at h; omega
   subst h
   rw[List.drop_length,efsOk] at hu
   rw[hu]
  have h:i < l.length:=by simpa using h
  have hdr:l.drop i=l[i] :: l.drop (i + 1):=by rw[List.drop_eq_getElem_cons h]
  rw[hdr,efsOk] at hu
  have hm:l[i]∈l:=List.getElem_mem h
  have hsz:=List.sizeOf_lt_of_mem hm
  have hfx:=XK hf hm
  have ix:=fun (s:List ABlk)=>Qo s efC false false 14 l .i64 i h
  generalize l[i]=x at hu hsz hfx ix
  refine Qi fun kj hkj=>?_
  have kk:efOk cs t d x=true→∀ s,kj [] s:=by
   intro he s
   rw[hkj]
   refine Za (Yn ..) ?_
   rw[Zh (n:=i) (by omega)]
   exact hag (i + 1) _ _ (by omega) ⟨rfl,by omega,by rw[hu,he,Bool.true_and]⟩
  have bad:efOk cs t d x=false→AVal.bool false=AVal.bool (efsOk cs t d l):=by
   intro he; rw[hu,he]; rfl
  clear hkj hag
  refine Za (ix _) (Za (ldr (efLd x)) ?_)
  refine ZB (row:=[iv8 x.op,iv8 x.who,iv8 x.n.op,iv x.n.n,iv8 x.n.who,.rsl false false 4 (x.n.kids.map nmC),.str x.name,iv8 x.c.op,iv8 x.c.who,.str x.c.name,.rsl false false 4 (x.c.nums.map nmC),.rsl false false 5 (x.c.kids.map cnC),.rsl false false 14 (x.thn.map efC),.rsl false false 14 (x.els.map efC)]) (row':=[iv8 x.op,iv8 x.who,iv8 x.n.op,iv x.n.n,iv8 x.n.who,.rsl false false 4 (x.n.kids.map nmC),.str x.name,iv8 x.c.op,iv8 x.c.who,.str x.c.name,.rsl false false 4 (x.c.nums.map nmC),.rsl false false 5 (x.c.kids.map cnC),.rsl false false 14 (x.thn.map efC),.rsl false false 14 (x.els.map efC)]) (by rw[XF]; rfl) rfl rfl ?_
  have hB0:=Xn σ (ABlk.box [iv8 x.op,iv8 x.who,iv8 x.n.op,iv x.n.n,iv8 x.n.who,.rsl false false 4 (x.n.kids.map nmC),.str x.name,iv8 x.c.op,iv8 x.c.who,.str x.c.name,.rsl false false 4 (x.c.nums.map nmC),.rsl false false 5 (x.c.kids.map cnC),.rsl false false 14 (x.thn.map efC),.rsl false false 14 (x.els.map efC)])
  generalize σ ++ [ABlk.box [iv8 x.op,iv8 x.who,iv8 x.n.op,iv x.n.n,iv8 x.n.who,.rsl false false 4 (x.n.kids.map nmC),.str x.name,iv8 x.c.op,iv8 x.c.who,.str x.c.name,.rsl false false 4 (x.c.nums.map nmC),.rsl false false 5 (x.c.kids.map cnC),.rsl false false 14 (x.thn.map efC),.rsl false false 14 (x.els.map efC)]]=base at hB0 ⊢
  generalize σ.length=b at hB0 ⊢
  have hN:Ze true 4 [.bptr b 2] base=.ok (.agg (nmC x.n)) [b] []:=ld hB0 (by rw[QD]; rfl)
  have hC:Ze true 5 [.bptr b 7] base=.ok (.agg (cnC x.c)) [b] []:=ld hB0 (by rw[QL]; rfl)
  rw[XbF] at kk bad
  repeat (first | refine Za hN ?_ | refine Za hC ?_ | refine Za (ld hB0 rfl) ?_ | refine Za (Zg ..) ?_ | refine Za (Qf ..) ?_ | refine Za rfl ?_)
  rcases Bool.eq_false_or_eq_true (decide (x.op < 0)) with a1 | a1
  ·rw[a1]
   repeat (first | refine Yb rfl ?_ | refine Yc rfl ?_ | refine Yd rfl ?_ | refine Qd rfl ?_ | refine Za rfl ?_)
   refine Xe (bad ?_)
   have a1:¬ 0≤x.op:=by simp at a1; omega
   simp[a1]
  rw[a1]
  repeat (first | refine Xa ?_ | refine Zb ?_ | refine Za (ldr (row:=chk cs t) rfl) ?_ | refine Za hN ?_ | refine Za hC ?_ | refine Za (ld hB0 rfl) ?_ | refine Za (Zg ..) ?_ | refine Za (Qf ..) ?_ | refine Za rfl ?_)
  refine Xc (fun a2=>bad ?_) (fun a2=>?_)
  ·have a2:¬ x.op≤8:=by simp at a2; omega
   simp[a2]
  have a1:0≤x.op:=by simpa using a1
  have a2:x.op≤8:=by simpa using a2
  simp only[a1,a2,decide_true,Bool.true_and] at kk bad
  repeat (first | refine Za hN ?_ | refine Za hC ?_ | refine Za (ld hB0 rfl) ?_ | refine Za (Zg ..) ?_ | refine Za (Qf ..) ?_ | refine Za rfl ?_)
  refine Xc (fun a3=>?_) (fun a3=>?_)
  ·have a3:x.op=8:=by simpa using a3
   rw[if_pos a3] at kk bad
   repeat (first | refine Za hN ?_ | refine Za hC ?_ | refine Za (ld hB0 rfl) ?_ | refine Za (Zg ..) ?_ | refine Za (Qf ..) ?_ | refine Za rfl ?_)
   rcases Bool.eq_false_or_eq_true (x.who != 0) with a4 | a4
   ·rw[a4]
    repeat (first | refine Yb rfl ?_ | refine Yc rfl ?_ | refine Yd rfl ?_ | refine Qd rfl ?_ | refine Za rfl ?_)
    refine Xe (bad ?_)
    have a4:x.who≠0:=by simpa using a4
    simp[a4]
   rw[a4]
   repeat (first | refine Xa ?_ | refine Zb ?_ | refine Za (ldr (row:=chk cs t) rfl) ?_ | refine Za hN ?_ | refine Za hC ?_ | refine Za (ld hB0 rfl) ?_ | refine Za (Zg ..) ?_ | refine Za (Qf ..) ?_ | refine Za rfl ?_)
   refine Zd (c225 _) rfl g225_ok.plain (nmRo _) ?_
   repeat (first | refine Xa ?_ | refine Zb ?_ | refine Za (ldr (row:=chk cs t) rfl) ?_ | refine Za hN ?_ | refine Za hC ?_ | refine Za (ld hB0 rfl) ?_ | refine Za (Zg ..) ?_ | refine Za (Qf ..) ?_ | refine Za rfl ?_)
   rcases Bool.eq_false_or_eq_true (!noNum x.n) with a5 | a5
   ·rw[a5]
    repeat (first | refine Yb rfl ?_ | refine Yc rfl ?_ | refine Yd rfl ?_ | refine Qd rfl ?_ | refine Za rfl ?_)
    refine Xe (bad ?_)
    have a5:noNum x.n=false:=by simpa using a5
    simp[a5]
   rw[a5]
   repeat (first | refine Xa ?_ | refine Zb ?_ | refine Za (ldr (row:=chk cs t) rfl) ?_ | refine Za hN ?_ | refine Za hC ?_ | refine Za (ld hB0 rfl) ?_ | refine Za (Zg ..) ?_ | refine Za (Qf ..) ?_ | refine Za rfl ?_)
   rcases Bool.eq_false_or_eq_true (!(x.name == [])) with a6 | a6
   ·rw[a6]
    repeat (first | refine Yb rfl ?_ | refine Yc rfl ?_ | refine Yd rfl ?_ | refine Qd rfl ?_ | refine Za rfl ?_)
    refine Xe (bad ?_)
    have a6:(x.name == [])=false:=by simpa using a6
    rw[a6]; simp
   rw[a6]
   repeat (first | refine Xa ?_ | refine Zb ?_ | refine Za (ldr (row:=chk cs t) rfl) ?_ | refine Za hN ?_ | refine Za hC ?_ | refine Za (ld hB0 rfl) ?_ | refine Za (Zg ..) ?_ | refine Za (Qf ..) ?_ | refine Za rfl ?_)
   refine Zd (c226 cs hcs t _ (ZY hfx)) rfl g226_ok.plain (cnRo2 ..) ?_
   repeat (first | refine Xa ?_ | refine Zb ?_ | refine Za (ldr (row:=chk cs t) rfl) ?_ | refine Za hN ?_ | refine Za hC ?_ | refine Za (ld hB0 rfl) ?_ | refine Za (Zg ..) ?_ | refine Za (Qf ..) ?_ | refine Za rfl ?_)
   rcases Bool.eq_false_or_eq_true (!cnOk cs t x.c) with a7 | a7
   ·rw[a7]
    repeat (first | refine Yb rfl ?_ | refine Yc rfl ?_ | refine Yd rfl ?_ | refine Qd rfl ?_ | refine Za rfl ?_)
    refine Xe (bad ?_)
    have a7:cnOk cs t x.c=false:=by simpa using a7
    simp[a7]
   rw[a7]
   repeat (first | refine Xa ?_ | refine Zb ?_ | refine Za (ldr (row:=chk cs t) rfl) ?_ | refine Za hN ?_ | refine Za hC ?_ | refine Za (ld hB0 rfl) ?_ | refine Za (Zg ..) ?_ | refine Za (Qf ..) ?_ | refine Za rfl ?_)
   have hs2:=Yaa x
   rw[wrapI (n:=d + 1) (by omega) (by omega)]
   refine Zd (c188' cs hcs t k x.thn (d + 1) (by omega) (YK hfx) (by omega)) rfl g188_ok.plain rfl ?_
   repeat (first | refine Xa ?_ | refine Zb ?_ | refine Za (ldr (row:=chk cs t) rfl) ?_ | refine Za hN ?_ | refine Za hC ?_ | refine Za (ld hB0 rfl) ?_ | refine Za (Zg ..) ?_ | refine Za (Qf ..) ?_ | refine Za rfl ?_)
   rcases Bool.eq_false_or_eq_true (!lstOk cs t (d + 1) x.thn) with a8 | a8
   ·rw[a8]
    repeat (first | refine Yb rfl ?_ | refine Yc rfl ?_ | refine Yd rfl ?_ | refine Qd rfl ?_ | refine Za rfl ?_)
    refine Xe (bad ?_)
    have a8:lstOk cs t (d + 1) x.thn=false:=by simpa using a8
    simp[a8]
   rw[a8]
   repeat (first | refine Xa ?_ | refine Zb ?_ | refine Za (ldr (row:=chk cs t) rfl) ?_ | refine Za hN ?_ | refine Za hC ?_ | refine Za (ld hB0 rfl) ?_ | refine Za (Zg ..) ?_ | refine Za (Qf ..) ?_ | refine Za rfl ?_)
   rw[wrapI (n:=d + 1) (by omega) (by omega)]
   refine Zd (c188' cs hcs t k x.els (d + 1) (by omega) (QJ hfx) (by omega)) rfl g188_ok.plain rfl ?_
   repeat (first | refine Xa ?_ | refine Zb ?_ | refine Za (ldr (row:=chk cs t) rfl) ?_ | refine Za hN ?_ | refine Za hC ?_ | refine Za (ld hB0 rfl) ?_ | refine Za (Zg ..) ?_ | refine Za (Qf ..) ?_ | refine Za rfl ?_)
   refine Xc (fun a9=>bad ?_) (fun a9=>kk ?_ _)
   ·have a9:lstOk cs t (d + 1) x.els=false:=by simpa using a9
    simp[a9]
   ·simp at a4 a5 a6 a7 a8 a9
    simp[a4,a5,a6,a7,a8,a9]
  have a3:x.op≠8:=by simpa using a3
  rw[if_neg a3] at kk bad
  repeat (first | refine Za hN ?_ | refine Za hC ?_ | refine Za (ld hB0 rfl) ?_ | refine Za (Zg ..) ?_ | refine Za (Qf ..) ?_ | refine Za rfl ?_)
  refine Zd (c227 _) rfl g227_ok.plain (cnRo _) ?_
  repeat (first | refine Za hN ?_ | refine Za hC ?_ | refine Za (ld hB0 rfl) ?_ | refine Za (Zg ..) ?_ | refine Za (Qf ..) ?_ | refine Za rfl ?_)
  rcases Bool.eq_false_or_eq_true (!noCond x.c) with a4 | a4
  ·rw[a4]
   repeat (first | refine Yb rfl ?_ | refine Yc rfl ?_ | refine Yd rfl ?_ | refine Qd rfl ?_ | refine Za rfl ?_)
   refine Xe (bad ?_)
   have a4:noCond x.c=false:=by simpa using a4
   simp[a4]
  rw[a4]
  repeat (first | refine Xa ?_ | refine Zb ?_ | refine Za (ldr (row:=chk cs t) rfl) ?_ | refine Za hN ?_ | refine Za hC ?_ | refine Za (ld hB0 rfl) ?_ | refine Za (Zg ..) ?_ | refine Za (Qf ..) ?_ | refine Za rfl ?_)
  rcases Bool.eq_false_or_eq_true (decide (((x.thn.map efC).length:Int) > 0)) with a5 | a5
  ·rw[a5]
   repeat (first | refine Yb rfl ?_ | refine Yc rfl ?_ | refine Yd rfl ?_ | refine Qd rfl ?_ | refine Za rfl ?_)
   refine Xe (bad ?_)
   have a5:x.thn.length≠0:=by simp at a5; omega
   simp[a5]
  rw[a5]
  repeat (first | refine Xa ?_ | refine Zb ?_ | refine Za (ldr (row:=chk cs t) rfl) ?_ | refine Za hN ?_ | refine Za hC ?_ | refine Za (ld hB0 rfl) ?_ | refine Za (Zg ..) ?_ | refine Za (Qf ..) ?_ | refine Za rfl ?_)
  refine Xc (fun a6=>bad ?_) (fun a6=>?_)
  ·have a6:x.els.length≠0:=by simp at a6; omega
   simp[a6]
  have a4:noCond x.c=true:=by simpa using a4
  have a5:x.thn.length=0:=by simp at a5; simpa using a5
  have a6:x.els.length=0:=by simp at a6; simpa using a6
  simp only[a4,a5,a6,decide_true,Bool.true_and] at kk bad
  repeat (first | refine Za hN ?_ | refine Za hC ?_ | refine Za (ld hB0 rfl) ?_ | refine Za (Zg ..) ?_ | refine Za (Qf ..) ?_ | refine Za rfl ?_)
  refine Zd (c130 _) rfl g130_ok.plain rfl ?_
  apply cutF ((if cntOp x.op then nmOk t x.n else noNum x.n)=true)
  ·intro hR
   rcases Bool.eq_false_or_eq_true (cntOp x.op) with c1 | c1
   ·rw[c1]
    repeat (first | refine Xa ?_ | refine Zb ?_ | refine Za (ldr (row:=chk cs t) rfl) ?_ | refine Za hN ?_ | refine Za hC ?_ | refine Za (ld hB0 rfl) ?_ | refine Za (Zg ..) ?_ | refine Za (Qf ..) ?_ | refine Za rfl ?_)
    refine Zd (c77 cs t _ (Q2 hfx)) rfl g77_ok.plain (nmRo2 ..) ?_
    repeat (first | refine Xa ?_ | refine Zb ?_ | refine Za (ldr (row:=chk cs t) rfl) ?_ | refine Za hN ?_ | refine Za hC ?_ | refine Za (ld hB0 rfl) ?_ | refine Za (Zg ..) ?_ | refine Za (Qf ..) ?_ | refine Za rfl ?_)
    rcases Bool.eq_false_or_eq_true (!nmOk t x.n) with c2 | c2
    ·rw[c2]
     repeat (first | refine Yb rfl ?_ | refine Yc rfl ?_ | refine Yd rfl ?_ | refine Qd rfl ?_ | refine Za rfl ?_)
     refine Xe (bad ?_)
     have c2:nmOk t x.n=false:=by simpa using c2
     simp[c1,c2]
    rw[c2]
    repeat (first | refine Xa ?_ | refine Zb ?_ | refine Za (ldr (row:=chk cs t) rfl) ?_ | refine Za hN ?_ | refine Za hC ?_ | refine Za (ld hB0 rfl) ?_ | refine Za (Zg ..) ?_ | refine Za (Qf ..) ?_ | refine Za rfl ?_)
    refine Zd (c130 _) rfl g130_ok.plain rfl ?_
    rw[c1]
    repeat (first | refine Xa ?_ | refine Zb ?_ | refine Yb rfl ?_ | refine Yc rfl ?_ | refine Yd rfl ?_ | refine Qd rfl ?_ | refine Za (ldr (row:=chk cs t) rfl) ?_ | refine Za hN ?_ | refine Za hC ?_ | refine Za (ld hB0 rfl) ?_ | refine Za (Zg ..) ?_ | refine Za (Qf ..) ?_ | refine Za rfl ?_)
    refine Yh ?_
    exact hR (by have c2:nmOk t x.n=true:=(by simpa using c2); simp[c1,c2])
   rw[c1]
   repeat (first | refine Xa ?_ | refine Zb ?_ | refine Yb rfl ?_ | refine Yc rfl ?_ | refine Yd rfl ?_ | refine Qd rfl ?_ | refine Za (ldr (row:=chk cs t) rfl) ?_ | refine Za hN ?_ | refine Za hC ?_ | refine Za (ld hB0 rfl) ?_ | refine Za (Zg ..) ?_ | refine Za (Qf ..) ?_ | refine Za rfl ?_)
   refine Zd (c130 _) rfl g130_ok.plain rfl ?_
   rw[c1]
   repeat (first | refine Xa ?_ | refine Zb ?_ | refine Za (ldr (row:=chk cs t) rfl) ?_ | refine Za hN ?_ | refine Za hC ?_ | refine Za (ld hB0 rfl) ?_ | refine Za (Zg ..) ?_ | refine Za (Qf ..) ?_ | refine Za rfl ?_)
   refine Zd (c225 _) rfl g225_ok.plain (nmRo _) ?_
   repeat (first | refine Xa ?_ | refine Zb ?_ | refine Za (ldr (row:=chk cs t) rfl) ?_ | refine Za hN ?_ | refine Za hC ?_ | refine Za (ld hB0 rfl) ?_ | refine Za (Zg ..) ?_ | refine Za (Qf ..) ?_ | refine Za rfl ?_)
   refine Xc (fun c2=>bad ?_) (fun c2=>hR ?_)
   ·have c2:noNum x.n=false:=by simpa using c2
    simp[c1,c2]
   ·have c2:noNum x.n=true:=by simpa using c2
    simp[c1,c2]
  intro b1
  rw[b1,Bool.true_and] at kk bad
  repeat (first | refine Za hN ?_ | refine Za hC ?_ | refine Za (ld hB0 rfl) ?_ | refine Za (Zg ..) ?_ | refine Za (Qf ..) ?_ | refine Za rfl ?_)
  apply cutF ((if x.op=7 then findC cs x.name true else x.name == [])=true)
  ·intro hR
   rcases Bool.eq_false_or_eq_true (decide (x.op=7)) with c1 | c1
   ·rw[c1]
    repeat (first | refine Xa ?_ | refine Zb ?_ | refine Za (ldr (row:=chk cs t) rfl) ?_ | refine Za hN ?_ | refine Za hC ?_ | refine Za (ld hB0 rfl) ?_ | refine Za (Zg ..) ?_ | refine Za (Qf ..) ?_ | refine Za rfl ?_)
    refine Zd (c228 cs hcs t _ _) rfl g228_ok.plain rfl ?_
    repeat (first | refine Xa ?_ | refine Zb ?_ | refine Za (ldr (row:=chk cs t) rfl) ?_ | refine Za hN ?_ | refine Za hC ?_ | refine Za (ld hB0 rfl) ?_ | refine Za (Zg ..) ?_ | refine Za (Qf ..) ?_ | refine Za rfl ?_)
    have c1:x.op=7:=by simpa using c1
    rcases Bool.eq_false_or_eq_true (!findC cs x.name true) with c2 | c2
    ·rw[c2]
     repeat (first | refine Yb rfl ?_ | refine Yc rfl ?_ | refine Yd rfl ?_ | refine Qd rfl ?_ | refine Za rfl ?_)
     refine Xe (bad ?_)
     have c2:findC cs x.name true=false:=by simpa using c2
     simp[c1,c2]
    rw[c2]
    repeat (first | refine Xa ?_ | refine Zb ?_ | refine Za (ldr (row:=chk cs t) rfl) ?_ | refine Za hN ?_ | refine Za hC ?_ | refine Za (ld hB0 rfl) ?_ | refine Za (Zg ..) ?_ | refine Za (Qf ..) ?_ | refine Za rfl ?_)
    have c3:(x.op != 7)=false:=by simpa using c1
    rw[c3]
    repeat (first | refine Xa ?_ | refine Zb ?_ | refine Yb rfl ?_ | refine Yc rfl ?_ | refine Yd rfl ?_ | refine Qd rfl ?_ | refine Za (ldr (row:=chk cs t) rfl) ?_ | refine Za hN ?_ | refine Za hC ?_ | refine Za (ld hB0 rfl) ?_ | refine Za (Zg ..) ?_ | refine Za (Qf ..) ?_ | refine Za rfl ?_)
    refine Yh ?_
    exact hR (by have c2:findC cs x.name true=true:=(by simpa using c2); simp[c1,c2])
   rw[c1]
   repeat (first | refine Xa ?_ | refine Zb ?_ | refine Yb rfl ?_ | refine Yc rfl ?_ | refine Yd rfl ?_ | refine Qd rfl ?_ | refine Za (ldr (row:=chk cs t) rfl) ?_ | refine Za hN ?_ | refine Za hC ?_ | refine Za (ld hB0 rfl) ?_ | refine Za (Zg ..) ?_ | refine Za (Qf ..) ?_ | refine Za rfl ?_)
   have c1:x.op≠7:=by simpa using c1
   have c3:(x.op != 7)=true:=by simpa using c1
   rw[c3]
   repeat (first | refine Xa ?_ | refine Zb ?_ | refine Za (ldr (row:=chk cs t) rfl) ?_ | refine Za hN ?_ | refine Za hC ?_ | refine Za (ld hB0 rfl) ?_ | refine Za (Zg ..) ?_ | refine Za (Qf ..) ?_ | refine Za rfl ?_)
   refine Xc (fun c2=>bad ?_) (fun c2=>hR ?_)
   ·have c2:(x.name == [])=false:=by simpa using c2
    rw[if_neg c1,c2]; rfl
   ·have c2:(x.name == [])=true:=by simpa using c2
    rw[if_neg c1,c2]
  intro b2
  rw[b2,Bool.true_and] at kk bad
  repeat (first | refine Za hN ?_ | refine Za hC ?_ | refine Za (ld hB0 rfl) ?_ | refine Za (Zg ..) ?_ | refine Za (Qf ..) ?_ | refine Za rfl ?_)
  have fin:∀ s,(W prog GL0).rd (Yp .not [.bool (efEnd t x.op x.who)] s) fun t177_151=>(W prog GL0).test t177_151 (AVal.bool false=AVal.bool (efsOk cs t d l)) (kj [] s):=by
   intro s
   refine Za rfl ?_
   refine Xc (fun c=>bad ?_) (fun c=>kk ?_ _)
   ·simpa using c
   ·simpa using c
  rcases Bool.eq_false_or_eq_true (decide (x.op=0)) with e1 | e1
  ·rw[e1]
   repeat (first | refine Xa ?_ | refine Zb ?_ | refine Yb rfl ?_ | refine Yc rfl ?_ | refine Yd rfl ?_ | refine Qd rfl ?_ | refine Za (ldr (row:=chk cs t) rfl) ?_ | refine Za hN ?_ | refine Za hC ?_ | refine Za (ld hB0 rfl) ?_ | refine Za (Zg ..) ?_ | refine Za (Qf ..) ?_ | refine Za rfl ?_)
   have e1:x.op=0:=by simpa using e1
   refine Qi fun k1 hk1=>?_
   have m1:k1 [.bool (efMid t x.op x.who)] base:=by
    rw[hk1]
    repeat (first | refine Za hN ?_ | refine Za hC ?_ | refine Za (ld hB0 rfl) ?_ | refine Za (Zg ..) ?_ | refine Za (Qf ..) ?_ | refine Za rfl ?_)
    rw[show decide (x.op=2)=false by simp[e1]]
    repeat (first | refine Xa ?_ | refine Zb ?_ | refine Za (ldr (row:=chk cs t) rfl) ?_ | refine Za hN ?_ | refine Za hC ?_ | refine Za (ld hB0 rfl) ?_ | refine Za (Zg ..) ?_ | refine Za (Qf ..) ?_ | refine Za rfl ?_)
    rw[show decide (x.op=4)=false by simp[e1]]
    repeat (first | refine Xa ?_ | refine Zb ?_ | refine Za (ldr (row:=chk cs t) rfl) ?_ | refine Za hN ?_ | refine Za hC ?_ | refine Za (ld hB0 rfl) ?_ | refine Za (Zg ..) ?_ | refine Za (Qf ..) ?_ | refine Za rfl ?_)
    rw[show decide (x.op=6)=false by simp[e1]]
    refine Qac (Yh ?_)
    have:=fin base
    rw[show efEnd t x.op x.who=efMid t x.op x.who by simp[efEnd,e1]] at this
    exact this
   clear hk1
   refine Xe ?_
   repeat (first | refine Za hN ?_ | refine Za hC ?_ | refine Za (ld hB0 rfl) ?_ | refine Za (Zg ..) ?_ | refine Za (Qf ..) ?_ | refine Za rfl ?_)
   refine Zd (c121 _) rfl g121_ok.plain rfl ?_
   rw[show efMid t x.op x.who=(sdOp x.who || (decide (x.who=2) && t)) by simp[efMid,e1]] at m1
   rcases Bool.eq_false_or_eq_true (sdOp x.who) with e2 | e2
   ·rw[e2] at m1 ⊢
    repeat (first | refine Xa ?_ | refine Zb ?_ | refine Yb rfl ?_ | refine Yc rfl ?_ | refine Yd rfl ?_ | refine Qd rfl ?_ | refine Za (ldr (row:=chk cs t) rfl) ?_ | refine Za hN ?_ | refine Za hC ?_ | refine Za (ld hB0 rfl) ?_ | refine Za (Zg ..) ?_ | refine Za (Qf ..) ?_ | refine Za rfl ?_)
    exact m1
   rw[e2] at m1 ⊢
   repeat (first | refine Xa ?_ | refine Zb ?_ | refine Za (ldr (row:=chk cs t) rfl) ?_ | refine Za hN ?_ | refine Za hC ?_ | refine Za (ld hB0 rfl) ?_ | refine Za (Zg ..) ?_ | refine Za (Qf ..) ?_ | refine Za rfl ?_)
   rcases Bool.eq_false_or_eq_true (decide (x.who=2)) with e3 | e3
   ·rw[e3] at m1 ⊢
    repeat (first | refine Xa ?_ | refine Zb ?_ | refine Yb rfl ?_ | refine Yc rfl ?_ | refine Yd rfl ?_ | refine Qd rfl ?_ | refine Za (ldr (row:=chk cs t) rfl) ?_ | refine Za hN ?_ | refine Za hC ?_ | refine Za (ld hB0 rfl) ?_ | refine Za (Zg ..) ?_ | refine Za (Qf ..) ?_ | refine Za rfl ?_)
    exact m1
   rw[e3] at m1 ⊢
   repeat (first | refine Xa ?_ | refine Zb ?_ | refine Yb rfl ?_ | refine Yc rfl ?_ | refine Yd rfl ?_ | refine Qd rfl ?_ | refine Za (ldr (row:=chk cs t) rfl) ?_ | refine Za hN ?_ | refine Za hC ?_ | refine Za (ld hB0 rfl) ?_ | refine Za (Zg ..) ?_ | refine Za (Qf ..) ?_ | refine Za rfl ?_)
   exact m1
  rw[e1]
  repeat (first | refine Xa ?_ | refine Zb ?_ | refine Za (ldr (row:=chk cs t) rfl) ?_ | refine Za hN ?_ | refine Za hC ?_ | refine Za (ld hB0 rfl) ?_ | refine Za (Zg ..) ?_ | refine Za (Qf ..) ?_ | refine Za rfl ?_)
  have e1:x.op≠0:=by simpa using e1
  refine Qi fun k1 hk1=>?_
  have m1:k1 [.bool (efMid t x.op x.who)] base:=by
   rw[hk1]
   repeat (first | refine Za hN ?_ | refine Za hC ?_ | refine Za (ld hB0 rfl) ?_ | refine Za (Zg ..) ?_ | refine Za (Qf ..) ?_ | refine Za rfl ?_)
   rcases Bool.eq_false_or_eq_true (decide (x.op=2)) with e3 | e3
   ·rw[e3]
    repeat (first | refine Xa ?_ | refine Zb ?_ | refine Yb rfl ?_ | refine Yc rfl ?_ | refine Yd rfl ?_ | refine Qd rfl ?_ | refine Za (ldr (row:=chk cs t) rfl) ?_ | refine Za hN ?_ | refine Za hC ?_ | refine Za (ld hB0 rfl) ?_ | refine Za (Zg ..) ?_ | refine Za (Qf ..) ?_ | refine Za rfl ?_)
    have e3:x.op=2:=by simpa using e3
    refine Qac (Xe ?_)
    repeat (first | refine Za hN ?_ | refine Za hC ?_ | refine Za (ld hB0 rfl) ?_ | refine Za (Zg ..) ?_ | refine Za (Qf ..) ?_ | refine Za rfl ?_)
    refine Zd (c121 _) rfl g121_ok.plain rfl ?_
    have:=fin base
    rw[show efEnd t x.op x.who=sdOp x.who by simp[efEnd,e3]] at this
    exact this
   rw[e3]
   repeat (first | refine Xa ?_ | refine Zb ?_ | refine Za (ldr (row:=chk cs t) rfl) ?_ | refine Za hN ?_ | refine Za hC ?_ | refine Za (ld hB0 rfl) ?_ | refine Za (Zg ..) ?_ | refine Za (Qf ..) ?_ | refine Za rfl ?_)
   rcases Bool.eq_false_or_eq_true (decide (x.op=4)) with e4 | e4
   ·rw[e4]
    repeat (first | refine Xa ?_ | refine Zb ?_ | refine Yb rfl ?_ | refine Yc rfl ?_ | refine Yd rfl ?_ | refine Qd rfl ?_ | refine Za (ldr (row:=chk cs t) rfl) ?_ | refine Za hN ?_ | refine Za hC ?_ | refine Za (ld hB0 rfl) ?_ | refine Za (Zg ..) ?_ | refine Za (Qf ..) ?_ | refine Za rfl ?_)
    have e4:x.op=4:=by simpa using e4
    refine Qac (Xe ?_)
    repeat (first | refine Za hN ?_ | refine Za hC ?_ | refine Za (ld hB0 rfl) ?_ | refine Za (Zg ..) ?_ | refine Za (Qf ..) ?_ | refine Za rfl ?_)
    refine Zd (c121 _) rfl g121_ok.plain rfl ?_
    have:=fin base
    rw[show efEnd t x.op x.who=sdOp x.who by simp[efEnd,e4]] at this
    exact this
   rw[e4]
   repeat (first | refine Xa ?_ | refine Zb ?_ | refine Za (ldr (row:=chk cs t) rfl) ?_ | refine Za hN ?_ | refine Za hC ?_ | refine Za (ld hB0 rfl) ?_ | refine Za (Zg ..) ?_ | refine Za (Qf ..) ?_ | refine Za rfl ?_)
   refine Qac (Xc (fun e5=>?_) (fun e5=>?_))
   ·have e5:x.op=6:=by simpa using e5
    repeat (first | refine Za hN ?_ | refine Za hC ?_ | refine Za (ld hB0 rfl) ?_ | refine Za (Zg ..) ?_ | refine Za (Qf ..) ?_ | refine Za rfl ?_)
    refine Zd (c121 _) rfl g121_ok.plain rfl ?_
    have:=fin base
    rw[show efEnd t x.op x.who=sdOp x.who by simp[efEnd,e5]] at this
    exact this
   ·simp at e3 e4 e5
    have:=fin base
    rw[show efEnd t x.op x.who=efMid t x.op x.who by simp[efEnd,e3,e4,e5]] at this
    exact this
  clear hk1
  refine Xc (fun e2=>?_) (fun e2=>?_)
  rotate_left
  ·have e2:x.op≠1:=by simpa using e2
   rw[show efMid t x.op x.who=decide (x.who=0) by simp[efMid,e1,e2]] at m1
   exact m1
  have e2:x.op=1:=by simpa using e2
  repeat (first | refine Za hN ?_ | refine Za hC ?_ | refine Za (ld hB0 rfl) ?_ | refine Za (Zg ..) ?_ | refine Za (Qf ..) ?_ | refine Za rfl ?_)
  refine Zd (c121 _) rfl g121_ok.plain rfl ?_
  rw[show efMid t x.op x.who=(sdOp x.who || (decide (x.who=2) && t)) by simp[efMid,e2]] at m1
  rcases Bool.eq_false_or_eq_true (sdOp x.who) with e2 | e2
  ·rw[e2] at m1 ⊢
   repeat (first | refine Xa ?_ | refine Zb ?_ | refine Yb rfl ?_ | refine Yc rfl ?_ | refine Yd rfl ?_ | refine Qd rfl ?_ | refine Za (ldr (row:=chk cs t) rfl) ?_ | refine Za hN ?_ | refine Za hC ?_ | refine Za (ld hB0 rfl) ?_ | refine Za (Zg ..) ?_ | refine Za (Qf ..) ?_ | refine Za rfl ?_)
   exact m1
  rw[e2] at m1 ⊢
  repeat (first | refine Xa ?_ | refine Zb ?_ | refine Za (ldr (row:=chk cs t) rfl) ?_ | refine Za hN ?_ | refine Za hC ?_ | refine Za (ld hB0 rfl) ?_ | refine Za (Zg ..) ?_ | refine Za (Qf ..) ?_ | refine Za rfl ?_)
  rcases Bool.eq_false_or_eq_true (decide (x.who=2)) with e3 | e3
  ·rw[e3] at m1 ⊢
   repeat (first | refine Xa ?_ | refine Zb ?_ | refine Yb rfl ?_ | refine Yc rfl ?_ | refine Yd rfl ?_ | refine Qd rfl ?_ | refine Za (ldr (row:=chk cs t) rfl) ?_ | refine Za hN ?_ | refine Za hC ?_ | refine Za (ld hB0 rfl) ?_ | refine Za (Zg ..) ?_ | refine Za (Qf ..) ?_ | refine Za rfl ?_)
   exact m1
  rw[e3] at m1 ⊢
  repeat (first | refine Xa ?_ | refine Zb ?_ | refine Yb rfl ?_ | refine Yc rfl ?_ | refine Yd rfl ?_ | refine Qd rfl ?_ | refine Za (ldr (row:=chk cs t) rfl) ?_ | refine Za hN ?_ | refine Za hC ?_ | refine Za (ld hB0 rfl) ?_ | refine Za (Zg ..) ?_ | refine Za (Qf ..) ?_ | refine Za rfl ?_)
  exact m1
theorem c188(cs:List Cd)(hcs:cs.length≤big)(t:Bool)(l:List Ef)(d:Int)(hf:lsFit l=true)(hd:0≤d):PCall prog GL0 188 [.rptr (chk cs t) 0,efV l,iv d] (.bool (lstOk cs t d l)):=c188' cs hcs t _ l d (Nat.le_refl _) hf hd
end Go.Ah.Tz
end
section
namespace Go.Ah.Tz
open Go.Proofs.Tryz (prog)
def isLet(x:Int):Bool:=decide ((97≤x∧x≤122)∨(65≤x∧x≤90)∨(192≤x∧x≤591∧x≠215∧x≠247))
def isDig(x:Int):Bool:=decide (48≤x∧x≤57)
def shl6(x:Int):Int:=IntKind.i64.wrap (x * 2 ^ (min 6 IntKind.i64.bits))
def rStep(x:Int)(c:UInt8):Int:=bits .or .i64 (shl6 x) (IntKind.i64.wrap (bits .and .u8 (c.toNat:Int) 63))
def rCont(c:UInt8):Bool:=(bits .and .u8 (c.toNat:Int) 192 != 128)
def rTail(s:Tx)(at_:Nat):Nat→Nat→Int→Option Int
 | 0,_,x=>some x
 | m + 1,i,x=>match s[at_ + i]? with
  | none=>none
  | some c=>if rCont c then none else rTail s at_ m (i + 1) (rStep x c)
def rHead(c:Int):Option (Nat × Int × Int):=
 if 192≤c∧c < 224 then some (2,bits .and .i64 c 31,128) else if 224≤c∧c < 240 then some (3,bits .and .i64 c 15,2048) else if 240≤c∧c < 248 then some (4,bits .and .i64 c 7,65536) else if 128≤c then none else some (1,c,0)
def rEnd(n:Nat)(least:Int):Option Int→Int × Nat
 | none=>(0,0)
 | some y=>if y < least∨1114111 < y∨(55296≤y∧y≤57343) then (0,0) else (y,n)
def runeR(s:Tx)(at_:Nat):Int × Nat:=match s[at_]? with
 | none=>(0,0)
 | some c=>match rHead c.toNat with
  | none=>(0,0)
  | some (n,x,least)=>rEnd n least (rTail s at_ (n - 1) 1 x)
def Xar(s:Tx)(at_ n:Nat):Prop:=(runeR s at_).2=0∨(isLet (runeR s at_).1=false∧(n=0∨(isDig (runeR s at_).1=false∧(runeR s at_).1≠39)))
instance (s:Tx) (at_ n:Nat):Decidable (Xar s at_ n):=inferInstanceAs (Decidable (_∨_))
def nameR(s:Tx)(at_ n:Nat):Nat × Nat:=
 if _h:at_ < s.length then (if hk:Xar s at_ n then (at_,n) else nameR s (at_ + (runeR s at_).2) (n + 1)) else (at_,n)
termination_by s.length - at_
decreasing_by
 have:(runeR s at_).2≠0:=fun e=>hk (Or.inl e)
 omega
def ownIn:List Tx→Tx→Bool
 | [],_=>false
 | k :: l,s=>k == s || ownIn l s
def keysR:List Tx:=[[99,97,114,100],
 [117,110,105,116],
 [99,104,97,114,109],
 [102,111,114,109,97,116],
 [112,108,97,121,101,100],
 [100,101,97,100],
 [100,97,119,110],
 [97,117,114,97],
 [115,104,105,101,108,100],
 [104,97,114,109],
 [109,101,110,100],
 [100,114,97,119],
 [103,97,105,110],
 [100,114,111,112],
 [108,111,111,107],
 [115,104,111,119],
 [115,117,109,109,111,110],
 [105,102],
 [101,108,115,101],
 [109,101],
 [102,111,101],
 [116,97,114,103,101,116],
 [108,105,102,101],
 [104,97,110,100],
 [100,101,99,107],
 [117,110,105,116,115],
 [109,97,110,97],
 [99,111,115,116],
 [116,111,112],
 [112,111,119,101,114],
 [109,105,110],
 [109,97,120],
 [110,111,116],
 [97,110,100],
 [111,114],
 [104,111,108,100,115],
 [108,101,97,115,116],
 [109,111,115,116],
 [99,111,112,105,101,115],
 [98,97,110,110,101,100],
 [115,105,110,103,108,101]]
def nameOk(s:Tx):Bool:=decide (1≤(nameR s 0 0).2) && (decide ((nameR s 0 0).2≤24) && (decide ((nameR s 0 0).1=s.length) && (decide (s.length≤40) && !ownIn keysR s)))
attribute [local irreducible] Ans.rd Ans.pu Ans.wr Ans.dr Ans.gr Ans.gw Ans.gl Ans.gd Ans.opt joinK W
theorem QX{P:Program}{GL:Globs}{c d:Bool}{K:AVal→Prop}{r1:SRes}{f2:AVal→SRes}{σ:List ABlk}{v1:AVal}(h1:r1=.ok v1 [] [])(h2:f2 v1=.ok (.bool d) [] [])(hK:K (.bool (c && d))) :
  (W P GL).gr (.bool c) true (fun k=>(W P GL).rd r1 k) fun t1=>(W P GL).gr (.bool c) true (fun k=>(W P GL).rd (f2 t1) k) fun t2=>(W P GL).rd (Qc [.bool c,t2,.bool false] σ) K:=by
 cases c with
 | true=>exact Xa (Za h1 (Xa (Za h2 (Za rfl hK))))
 | false=>exact Yb rfl (Yb rfl (Za rfl hK))
theorem c198(x:Int):PCall prog GL0 198 [iv x] (.bool (isDig x)):=by
 refine Zf hP g198_ok rfl rfl ?_
 unfold g198
 refine Za rfl ?_
 rcases Bool.eq_false_or_eq_true (decide (x ≥ 48)) with h | h
 rotate_left
 ·rw[h]
  repeat (first | refine Yb rfl ?_ | refine Yc rfl ?_ | refine Yd rfl ?_ | refine Qd rfl ?_ | refine Za rfl ?_)
  have h:¬ 48≤x:=by simpa using h
  simp[isDig,h]
 rw[h]
 repeat (first | refine Xa ?_ | refine Zb ?_ | refine Za rfl ?_)
 have h:48≤x:=by simpa using h
 exact congrArg AVal.bool (by rw[Bool.eq_iff_iff]; simp[isDig,h])
theorem c197(x:Int):PCall prog GL0 197 [iv x] (.bool (isLet x)):=by
 refine Zf hP g197_ok rfl rfl ?_
 unfold g197
 refine Za rfl ?_
 apply cutF (¬ (97≤x∧x≤122))
 ·intro hR
  rcases Bool.eq_false_or_eq_true (decide (x ≥ 97)) with h | h
  ·rw[h]
   repeat (first | refine Xa ?_ | refine Zb ?_ | refine Za rfl ?_)
   have h:97≤x:=by simpa using h
   rcases Bool.eq_false_or_eq_true (decide (x≤122)) with h2 | h2
   ·rw[h2]
    repeat (first | refine Xa ?_ | refine Zb ?_ | refine Yb rfl ?_ | refine Yc rfl ?_ | refine Yd rfl ?_ | refine Qd rfl ?_ | refine Za rfl ?_)
    have h2:x≤122:=by simpa using h2
    simp[isLet,h,h2]
   rw[h2]
   have h2:¬ x≤122:=by simpa using h2
   repeat (first | refine Xa ?_ | refine Zb ?_ | refine Yb rfl ?_ | refine Yc rfl ?_ | refine Yd rfl ?_ | refine Qd rfl ?_ | refine Za rfl ?_)
   exact hR (by omega)
  rw[h]
  have h:¬ 97≤x:=by simpa using h
  repeat (first | refine Xa ?_ | refine Zb ?_ | refine Yb rfl ?_ | refine Yc rfl ?_ | refine Yd rfl ?_ | refine Qd rfl ?_ | refine Za rfl ?_)
  exact hR (by omega)
 intro n1
 apply cutF (¬ (65≤x∧x≤90))
 ·intro hR
  rcases Bool.eq_false_or_eq_true (decide (x ≥ 65)) with h | h
  ·rw[h]
   repeat (first | refine Xa ?_ | refine Zb ?_ | refine Za rfl ?_)
   have h:65≤x:=by simpa using h
   rcases Bool.eq_false_or_eq_true (decide (x≤90)) with h2 | h2
   ·rw[h2]
    repeat (first | refine Xa ?_ | refine Zb ?_ | refine Yb rfl ?_ | refine Yc rfl ?_ | refine Yd rfl ?_ | refine Qd rfl ?_ | refine Za rfl ?_)
    have h2:x≤90:=by simpa using h2
    simp[isLet,h,h2]
   rw[h2]
   have h2:¬ x≤90:=by simpa using h2
   repeat (first | refine Xa ?_ | refine Zb ?_ | refine Yb rfl ?_ | refine Yc rfl ?_ | refine Yd rfl ?_ | refine Qd rfl ?_ | refine Za rfl ?_)
   exact hR (by omega)
  rw[h]
  have h:¬ 65≤x:=by simpa using h
  repeat (first | refine Xa ?_ | refine Zb ?_ | refine Yb rfl ?_ | refine Yc rfl ?_ | refine Yd rfl ?_ | refine Qd rfl ?_ | refine Za rfl ?_)
  exact hR (by omega)
 intro n2
 rcases Bool.eq_false_or_eq_true (decide (x ≥ 192)) with h1 | h1
 rotate_left
 ·rw[h1]
  repeat (first | refine Xa ?_ | refine Zb ?_ | refine Yb rfl ?_ | refine Yc rfl ?_ | refine Yd rfl ?_ | refine Qd rfl ?_ | refine Za rfl ?_)
  exact congrArg AVal.bool (by rw[Bool.eq_iff_iff]; simp at h1; simp[isLet]; omega)
 rw[h1]
 repeat (first | refine Xa ?_ | refine Zb ?_ | refine Za rfl ?_)
 rcases Bool.eq_false_or_eq_true (decide (x≤591)) with h2 | h2
 rotate_left
 ·rw[h2]
  repeat (first | refine Xa ?_ | refine Zb ?_ | refine Yb rfl ?_ | refine Yc rfl ?_ | refine Yd rfl ?_ | refine Qd rfl ?_ | refine Za rfl ?_)
  exact congrArg AVal.bool (by rw[Bool.eq_iff_iff]; simp at h2; simp[isLet]; omega)
 rw[h2]
 repeat (first | refine Xa ?_ | refine Zb ?_ | refine Za rfl ?_)
 rcases Bool.eq_false_or_eq_true (x != 215) with h3 | h3
 rotate_left
 ·rw[h3]
  repeat (first | refine Xa ?_ | refine Zb ?_ | refine Yb rfl ?_ | refine Yc rfl ?_ | refine Yd rfl ?_ | refine Qd rfl ?_ | refine Za rfl ?_)
  exact congrArg AVal.bool (by rw[Bool.eq_iff_iff]; simp at h3; simp[isLet]; omega)
 rw[h3]
 repeat (first | refine Xa ?_ | refine Zb ?_ | refine Za rfl ?_)
 exact congrArg AVal.bool (by rw[Bool.eq_iff_iff]; simp at h1 h2 h3; simp[isLet]; omega)
theorem c196(s:Tx)(hs:s.length≤big)(a:Nat)(ha:a < s.length):PCall prog GL0 196 [.str s,iv a] (.tup [iv (runeR s a).1,iv (runeR s a).2]):=by
 rw[bigE] at hs
 refine Zf hP g196_ok rfl rfl ?_
 unfold g196
 refine Za (XbZ _ s .i64 a ha) (Za (Qci ..) ?_)
 have hc:s[a].toNat < 256:=s[a].toNat_lt
 rw[wrapI (n:=(s[a].toNat:Int)) (by omega) (by omega)]
 have hr:runeR s a=match rHead s[a].toNat with
  | none=>(0,0)
  | some (n,x,least)=>rEnd n least (rTail s a (n - 1) 1 x):=by
  rw[runeR,List.getElem?_eq_getElem ha]
 generalize s[a].toNat=c0 at hr hc ⊢
 obtain⟨c,hcc⟩:∃ c:Int,c=(c0:Int):=⟨_,rfl⟩
 rw[← hcc] at hr ⊢
 have hc2:0≤c∧c < 256:=by omega
 clear hcc hc
 refine Za rfl ?_
 refine QX rfl rfl ?_
 refine Qi fun kj hkj=>?_
 have zero:∀ y:Option Int,y=none→∀ n least,AVal.tup [iv 0,iv 0]=AVal.tup [iv (rEnd n least y).1,iv (rEnd n least y).2]:=by
  rintro _ rfl n least; rfl
 have kk:∀ (n:Nat) (x least:Int),1≤n→n≤4→rHead c=some (n,x,least)→kj [iv n,iv x,iv least] []:=by
  intro n x least n1 n4 hh
  rw[hkj]; clear hkj kj
  rw[hh] at hr
  replace hr:runeR s a=rEnd n least (rTail s a (n - 1) 1 x):=hr
  rw[hr]
  clear hr hh
  refine Xm (ι:=Nat) (fun i vs σ=>∃ y,vs=[iv i,iv y]∧1≤i∧i≤n∧rTail s a (n - 1) 1 x=rTail s a (n - i) i y) (fun i=>n - i) 1 ⟨x,rfl,by omega,by omega,rfl⟩ ?_
  rintro i vs σ again ⟨y,rfl,i1,i2,hu⟩ hag
  refine Za rfl ?_
  refine Xc (fun h=>?_) (fun h=>?_)
  ·have h:i < n:=by simpa using h
   have hadd:∀ σ,Qb .add false [iv a,iv i] σ=.ok (iv ((a + i:Nat):Int)) [] []:=fun σ=>by
    rw[Yn,wrapI (by omega) (by omega)]; rfl
   have hni:n - i=(n - (i + 1)) + 1:=by omega
   rw[hni,rTail] at hu
   refine Za (hadd _) (Za rfl (Za rfl ?_))
   rcases Bool.eq_false_or_eq_true (decide (((a + i:Nat):Int) ≥ (s.length:Int))) with h1 | h1
   ·rw[h1]
    repeat (first | refine Xa ?_ | refine Zb ?_ | refine Yb rfl ?_ | refine Yc rfl ?_ | refine Yd rfl ?_ | refine Qd rfl ?_ | refine Za rfl ?_)
    refine Xe ?_
    have h1:s.length≤a + i:=by simp at h1; omega
    rw[List.getElem?_eq_none h1] at hu
    exact zero _ hu _ _
   rw[h1]
   have h1:a + i < s.length:=by simp at h1; omega
   have hix:∀ σ,Qy [.str s,iv ((a + i:Nat):Int)] σ=.ok (.int .u8 s[a + i].toNat) [] []:=fun σ=>XbZ _ s .i64 (a + i) h1
   rw[List.getElem?_eq_getElem h1] at hu
   generalize s[a + i]=q at hu hix
   repeat (first | refine Xa ?_ | refine Za (hadd _) ?_ | refine Za (hix _) ?_ | refine Za rfl ?_)
   refine Xc (fun h2=>?_) (fun h2=>?_)
   ·have h2:rCont q=true:=h2
    simp only[h2,if_true] at hu
    exact zero _ hu _ _
   ·have h2:rCont q=false:=h2
    simp only[h2,Bool.false_eq_true,if_false] at hu
    refine Za rfl (Za (hadd _) (Za (hix _) (Za rfl (Za (Qci ..) (Za rfl (Za (Yn ..) ?_))))))
    rw[Zh (n:=i) (by omega)]
    exact hag (i + 1) _ _ (by omega) ⟨_,rfl,by omega,by omega,hu⟩
  ·have h:i=n:=by simp at h; omega
   subst h
   rw[Nat.sub_self,rTail] at hu
   rw[hu]
   clear hu hag zero
   refine Za rfl ?_
   have bad:(y < least∨1114111 < y∨(55296≤y∧y≤57343))→AVal.tup [iv 0,iv 0]=AVal.tup [iv (rEnd i least (some y)).1,iv (rEnd i least (some y)).2]:=by
    intro hb; rw[rEnd,if_pos hb]; rfl
   have good:¬ (y < least∨1114111 < y∨(55296≤y∧y≤57343))→AVal.tup [iv y,iv i]=AVal.tup [iv (rEnd i least (some y)).1,iv (rEnd i least (some y)).2]:=by
    intro hb; rw[rEnd,if_neg hb]
   rcases Bool.eq_false_or_eq_true (decide (y < least)) with h1 | h1
   ·rw[h1]
    repeat (first | refine Xa ?_ | refine Zb ?_ | refine Yb rfl ?_ | refine Yc rfl ?_ | refine Yd rfl ?_ | refine Qd rfl ?_ | refine Za rfl ?_)
    exact Xe (bad (by simp at h1; omega))
   rw[h1]
   repeat (first | refine Xa ?_ | refine Zb ?_ | refine Za rfl ?_)
   rcases Bool.eq_false_or_eq_true (decide (y > 1114111)) with h2 | h2
   ·rw[h2]
    repeat (first | refine Xa ?_ | refine Zb ?_ | refine Yb rfl ?_ | refine Yc rfl ?_ | refine Yd rfl ?_ | refine Qd rfl ?_ | refine Za rfl ?_)
    exact Xe (bad (by simp at h2; omega))
   rw[h2]
   repeat (first | refine Xa ?_ | refine Zb ?_ | refine Za rfl ?_)
   rcases Bool.eq_false_or_eq_true (decide (y ≥ 55296)) with h3 | h3
   ·rw[h3]
    repeat (first | refine Xa ?_ | refine Zb ?_ | refine Za rfl ?_)
    refine Xc (fun h4=>bad ?_) (fun h4=>good ?_)
    ·simp at h3 h4; omega
    ·simp at h1 h2 h3 h4; omega
   rw[h3]
   repeat (first | refine Xa ?_ | refine Zb ?_ | refine Yb rfl ?_ | refine Yc rfl ?_ | refine Yd rfl ?_ | refine Qd rfl ?_ | refine Za rfl ?_)
   exact Yh (good (by simp at h1 h2 h3; omega))
 clear hkj
 refine Xc (fun h=>?_) (fun n1=>?_)
 ·have h:192≤c∧c < 224:=by simpa using h
  refine Za rfl (kk 2 _ _ (by omega) (by omega) ?_)
  rw[rHead,if_pos h]
 have n1:¬ (192≤c∧c < 224):=by simp at n1; omega
 refine Za rfl (QX rfl rfl ?_)
 refine Xc (fun h=>?_) (fun n2=>?_)
 ·have h:224≤c∧c < 240:=by simpa using h
  refine Za rfl (kk 3 _ _ (by omega) (by omega) ?_)
  rw[rHead,if_neg n1,if_pos h]
 have n2:¬ (224≤c∧c < 240):=by simp at n2; omega
 refine Za rfl (QX rfl rfl ?_)
 refine Xc (fun h=>?_) (fun n3=>?_)
 ·have h:240≤c∧c < 248:=by simpa using h
  refine Za rfl (kk 4 _ _ (by omega) (by omega) ?_)
  rw[rHead,if_neg n1,if_neg n2,if_pos h]
 have n3:¬ (240≤c∧c < 248):=by simp at n3; omega
 refine Za rfl ?_
 refine Xc (fun h=>?_) (fun h=>?_)
 ·have h:128≤c:=by simpa using h
  have e:rHead c=none:=by rw[rHead,if_neg n1,if_neg n2,if_neg n3,if_pos h]
  rw[hr,e]; rfl
 ·have h:¬ 128≤c:=by simpa using h
  exact kk 1 _ _ (by omega) (by omega) (by rw[rHead,if_neg n1,if_neg n2,if_neg n3,if_neg h])
theorem Yb7{c:Int}{n:Nat}{x least:Int}(h:rHead c=some (n,x,least)):n≤4:=by
 unfold rHead at h
 repeat (split at h; first | (cases h; omega) | skip)
 all_goals first | (cases h; omega) | cases h
theorem Zbp(s:Tx)(a:Nat):(runeR s a).2≤4:=by
 unfold runeR
 split
 ·simp
 ·split
  ·simp
  ·rename_i n x least h
   have:=Yb7 h
   cases rTail s a (n - 1) 1 x with
   | none=>simp[rEnd]
   | some y=>rw[rEnd]; split <;> simp; omega
theorem c193(s:Tx)(hs:s.length≤big)(a0:Nat)(ha0:a0≤s.length):PCall prog GL0 193 [.str s,iv a0] (.tup [iv (nameR s a0 0).1,iv (nameR s a0 0).2]):=by
 have hs2:=hs
 rw[bigE] at hs2
 refine Zf hP g193_ok rfl rfl ?_
 unfold g193
 refine Qi fun k0 hk0=>?_
 have kk:∀ a n:Nat,nameR s a0 0=(a,n)→k0 [iv a,iv n] []:=by
  intro a n e
  rw[hk0,e]; exact rfl
 clear hk0
 refine Xm (ι:=Nat) (fun a vs σ=>∃ n:Nat,vs=[iv a,iv n]∧σ=[]∧n≤a∧a≤s.length + 4∧nameR s a0 0=nameR s a n) (fun a=>s.length + 10 - a) a0 ⟨0,rfl,rfl,by omega,by omega,rfl⟩ ?_
 rintro a vs σ again ⟨n,rfl,rfl,i1,i2,hu⟩ hag
 refine Za rfl (Za rfl ?_)
 refine Xc (fun h=>?_) (fun h=>?_)
 rotate_left
 ·have h:¬ a < s.length:=by simpa using h
  exact kk a n (by rw[hu,nameR,dif_neg h])
 have h:a < s.length:=by simpa using h
 refine Zd (c196 s hs a h) rfl g196_ok.plain rfl ?_
 refine Za rfl (Za rfl ?_)
 have stp:Xar s a n→k0 [iv a,iv n] []:=fun hst=>kk a n (by rw[hu,nameR,dif_pos h,dif_pos hst])
 have cont:¬ Xar s a n→again [iv ((a + (runeR s a).2:Nat):Int),iv ((n + 1:Nat):Int)] []:=by
  intro hst
  have h1:(runeR s a).2≠0:=fun e=>hst (Or.inl e)
  have h4:=Zbp s a
  exact hag _ _ _ (by omega) ⟨n + 1,rfl,rfl,by omega,by omega,by rw[hu,nameR,dif_pos h,dif_neg hst]⟩
 have h4:=Zbp s a
 unfold Xar at stp cont
 clear hag hu kk
 generalize (runeR s a).1=x at stp cont ⊢
 generalize (runeR s a).2=k at stp cont h4 ⊢
 have go:¬ (k=0∨(isLet x=false∧(n=0∨(isDig x=false∧x≠39))))→(W prog GL0).rd (Qb .add false [iv a,iv k] []) fun t41_27=>(W prog GL0).rd (Qb .add false [iv n,(.int .i64 1)] []) fun t43_28=>again [t41_27,t43_28] []:=by
  intro hst
  refine Za (Yn ..) (Za (Yn ..) ?_)
  rw[Zh (n:=n) (by omega),wrapI (n:=(a:Int) + (k:Int)) (by omega) (by omega)]
  exact cont hst
 refine Za rfl ?_
 rcases Bool.eq_false_or_eq_true ((k:Int) == 0) with h1 | h1
 ·rw[h1]
  repeat (first | refine Xa ?_ | refine Zb ?_ | refine Yb rfl ?_ | refine Yc rfl ?_ | refine Yd rfl ?_ | refine Qd rfl ?_ | refine Za rfl ?_)
  exact Xe (stp (Or.inl (by simpa using h1)))
 rw[h1]
 have h1:k≠0:=by simpa using h1
 repeat (first | refine Xa ?_ | refine Zb ?_ | refine Za rfl ?_)
 refine Zd (c197 _) rfl g197_ok.plain rfl ?_
 repeat (first | refine Xa ?_ | refine Zb ?_ | refine Za rfl ?_)
 rcases Bool.eq_false_or_eq_true (!isLet x) with h2 | h2
 rotate_left
 ·rw[h2]
  repeat (first | refine Xa ?_ | refine Zb ?_ | refine Yb rfl ?_ | refine Yc rfl ?_ | refine Yd rfl ?_ | refine Qd rfl ?_ | refine Za rfl ?_)
  exact Yh (go (by have h2:isLet x=true:=(by simpa using h2); simp[h1,h2]))
 rw[h2]
 have h2:isLet x=false:=by simpa using h2
 repeat (first | refine Xa ?_ | refine Zb ?_ | refine Za rfl ?_)
 rcases Bool.eq_false_or_eq_true ((n:Int) == 0) with h3 | h3
 ·rw[h3]
  repeat (first | refine Xa ?_ | refine Zb ?_ | refine Yb rfl ?_ | refine Yc rfl ?_ | refine Yd rfl ?_ | refine Qd rfl ?_ | refine Za rfl ?_)
  exact Xe (stp (Or.inr ⟨h2,Or.inl (by simpa using h3)⟩))
 rw[h3]
 have h3:n≠0:=by simpa using h3
 repeat (first | refine Xa ?_ | refine Zb ?_ | refine Za rfl ?_)
 refine Zd (c198 _) rfl g198_ok.plain rfl ?_
 repeat (first | refine Xa ?_ | refine Zb ?_ | refine Za rfl ?_)
 rcases Bool.eq_false_or_eq_true (!isDig x) with h5 | h5
 rotate_left
 ·rw[h5]
  repeat (first | refine Xa ?_ | refine Zb ?_ | refine Yb rfl ?_ | refine Yc rfl ?_ | refine Yd rfl ?_ | refine Qd rfl ?_ | refine Za rfl ?_)
  exact Yh (go (by have h5:isDig x=true:=(by simpa using h5); simp[h1,h3,h5]))
 rw[h5]
 have h5:isDig x=false:=by simpa using h5
 repeat (first | refine Xa ?_ | refine Zb ?_ | refine Za rfl ?_)
 refine Xc (fun h6=>stp ?_) (fun h6=>go ?_)
 ·exact Or.inr ⟨h2,Or.inr ⟨h5,by simpa using h6⟩⟩
 ·have h6:x=39:=by simpa using h6
  simp[h1,h3,h6]
theorem c229:∃ e n,PCall prog GL0 229 [] (.rsl e n 1 (keysR.map txC)):=by
 have hw:∃ v bs,g229 (W prog GL0) [] [] (fun v' σ=>v'=v∧σ=bs)∧∃ e n,frz bs v=some (.rsl e n 1 (keysR.map txC)):=by
  unfold g229
  apply Exists.intro
  apply Exists.intro
  apply And.intro
  ·refine Ye rfl rfl ?_
   exact⟨rfl,rfl⟩
  ·exact⟨_,_,rfl⟩
 obtain⟨v,bs,h1,e,n,h2⟩:=hw
 exact⟨e,n,Za2 hP g229_ok rfl ⟨v,bs,h2,h1⟩⟩
theorem txLd(x:Tx):partA false 0 1 (txC x)=some (.str x):=rfl
theorem c194(s:Tx):PCall prog GL0 194 [.str s] (.bool (ownIn keysR s)):=by
 refine Zf hP g194_ok rfl rfl ?_
 unfold g194
 obtain⟨e,n,hk⟩:=c229
 refine Zd hk rfl g229_ok.plain rfl ?_
 have hlen:keysR.length=41:=rfl
 generalize keysR=l at hlen ⊢
 refine Xm (ι:=Nat) (fun i vs σ=>vs=[iv i]∧i≤l.length∧ownIn l s=ownIn (l.drop i) s) (fun i=>l.length - i) 0 ⟨rfl,by omega,by simp⟩ ?_
 rintro i vs σ again ⟨rfl,hi,hu⟩ hag
 refine Za rfl (Za rfl ?_)
 refine Xc (fun h=>?_) (fun h=>?_)
 ·have h:i < l.length:=by simpa using h
  have hdr:l.drop i=l[i] :: l.drop (i + 1):=by rw[List.drop_eq_getElem_cons h]
  rw[hdr,ownIn] at hu
  refine Za (Qo _ txC _ _ _ l .i64 i h) (Za (ldr (txLd _)) (Za (Qf ..) ?_))
  refine Xc (fun h=>?_) (fun h=>?_)
  ·rw[hu,h]; rfl
  ·rw[h,Bool.false_or] at hu
   refine Za (Yn ..) ?_
   rw[Zh (n:=i) (by omega)]
   exact hag (i + 1) _ _ (by omega) ⟨rfl,by omega,hu⟩
 ·have h:i=l.length:=by simp at h; omega
  subst h
  rw[List.drop_length] at hu
  rw[hu]; rfl
theorem c147(s:Tx)(hs:s.length≤big):PCall prog GL0 147 [.str s] (.bool (nameOk s)):=by
 refine Zf hP g147_ok rfl rfl ?_
 unfold g147
 have:=c193 s hs 0 (by omega)
 refine Zd this rfl g193_ok.plain rfl ?_
 unfold nameOk
 generalize (nameR s 0 0).1=e
 generalize (nameR s 0 0).2=n
 refine Za rfl (Za rfl (Za rfl ?_))
 rcases Bool.eq_false_or_eq_true (decide ((n:Int) ≥ 1)) with h1 | h1
 rotate_left
 ·rw[h1]
  repeat (first | refine Yb rfl ?_ | refine Yc rfl ?_ | refine Yd rfl ?_ | refine Qd rfl ?_ | refine Za rfl ?_)
  have h1:¬ 1≤n:=by simp at h1; omega
  simp[h1]
 rw[h1]
 repeat (first | refine Xa ?_ | refine Zb ?_ | refine Za rfl ?_)
 rcases Bool.eq_false_or_eq_true (decide ((n:Int)≤24)) with h2 | h2
 rotate_left
 ·rw[h2]
  repeat (first | refine Yb rfl ?_ | refine Yc rfl ?_ | refine Yd rfl ?_ | refine Qd rfl ?_ | refine Za rfl ?_)
  have h2:¬ n≤24:=by simp at h2; omega
  simp[h2]
 rw[h2]
 repeat (first | refine Xa ?_ | refine Zb ?_ | refine Za rfl ?_)
 rcases Bool.eq_false_or_eq_true ((e:Int) == (s.length:Int)) with h3 | h3
 rotate_left
 ·rw[h3]
  repeat (first | refine Yb rfl ?_ | refine Yc rfl ?_ | refine Yd rfl ?_ | refine Qd rfl ?_ | refine Za rfl ?_)
  have h3:¬ e=s.length:=by simp at h3; omega
  simp[h3]
 rw[h3]
 repeat (first | refine Xa ?_ | refine Zb ?_ | refine Za rfl ?_)
 rcases Bool.eq_false_or_eq_true (decide ((s.length:Int)≤40)) with h4 | h4
 rotate_left
 ·rw[h4]
  repeat (first | refine Yb rfl ?_ | refine Yc rfl ?_ | refine Yd rfl ?_ | refine Qd rfl ?_ | refine Za rfl ?_)
  have h4:¬ s.length≤40:=by simp at h4; omega
  simp[h4]
 rw[h4]
 repeat (first | refine Xa ?_ | refine Zb ?_ | refine Za rfl ?_)
 refine Zd (c194 _) rfl g194_ok.plain rfl ?_
 repeat (first | refine Xa ?_ | refine Zb ?_ | refine Za rfl ?_)
 have h1:1≤n:=by simp at h1; omega
 have h2:n≤24:=by simp at h2; omega
 have h3:e=s.length:=by simp at h3; omega
 have h4:s.length≤40:=by simp at h4; omega
 simp[h1,h2,h3,h4]
end Go.Ah.Tz
end
section
namespace Go.Ah.Tz
open Go.Proofs.Tryz (prog)
def in999(n:Int):Bool:=decide (0≤n) && decide (n≤999)
def cdSum(c:Cd):Bool:=if c.unit then decide (1≤c.health) else decide (c.power + c.health + c.shield + c.aurap + c.aurah≤0) && decide (c.dead.length + c.dawn.length=0)
def cdW(c:Cd):Int:=min (efsW 0 c.played + efsW 0 c.dead + efsW 0 c.dawn) 1073741824
def cdOk(cs:List Cd)(c:Cd):Bool:=
 nameOk c.name && (in999 c.cost && (in999 c.power && (in999 c.health && (in999 c.shield && (in999 c.aurap && (in999 c.aurah && (cdSum c && (decide (cdW c≤200) && (lstOk cs true 1 c.played && (lstOk cs false 1 c.dead && lstOk cs false 1 c.dawn))))))))))
def cdFit(c:Cd):Bool:=decide (c.name.length≤big) && (lsFit c.played && (lsFit c.dead && lsFit c.dawn))
def ZM(l:List Cd):Bool:=decide (l.length≤big) && l.all cdFit
def cdsGo(cs:List Cd):List Cd→List Cd→Int × Int
 | _,[]=>(0,0)
 | pre,c :: l=>if pre.any fun d=>d.name == c.name then (101,c.pl) else if cdOk cs c then cdsGo cs (pre ++ [c]) l else (130,c.pl)
def cdsChk(cs:List Cd):Int × Int:=if 240 < cs.length then (3,0) else cdsGo cs [] cs
attribute [local irreducible] Ans.rd Ans.pu Ans.wr Ans.dr Ans.gr Ans.gw Ans.gl Ans.gd Ans.opt joinK W
set_option maxHeartbeats 1000000
theorem c145(cs:List Cd)(hcs:cs.length≤big)(c:Cd)(hf:cdFit c=true):PCall prog GL0 145 [cdV cs,.agg (cdC c)] (.bool (cdOk cs c)):=by
 simp only[cdFit,Bool.and_eq_true,decide_eq_true_eq] at hf
 obtain⟨f0,f1,f2,f3⟩:=hf
 refine Zf hP g145_ok rfl rfl ?_
 unfold g145
 refine Ye rfl rfl ?_
 generalize hB:([] ++ [ABlk.box (cdC c)]:List ABlk)=base
 have hB0:hget base 0=.box (cdC c):=by rw[← hB]; rfl
 refine Za rfl (Za (ld hB0 rfl) ?_)
 refine Zd (c147 _ f0) rfl g147_ok.plain rfl ?_
 refine Za rfl ?_
 rcases Bool.eq_false_or_eq_true (!nameOk c.name) with a0 | a0
 ·rw[a0]
  repeat (first | refine Xa ?_ | refine Zb ?_ | refine Yb rfl ?_ | refine Yc rfl ?_ | refine Yd rfl ?_ | refine Qd rfl ?_ | refine Za (ld hB0 rfl) ?_ | refine Za rfl ?_)
  refine Xe ?_
  have a0:nameOk c.name=false:=by simpa using a0
  simp[cdOk,a0]
 rw[a0]
 repeat (first | refine Xa ?_ | refine Zb ?_ | refine Za (ld hB0 rfl) ?_ | refine Za rfl ?_)
 refine Zd (c187 _) rfl g187_ok.plain rfl ?_
 repeat (first | refine Xa ?_ | refine Zb ?_ | refine Za (ld hB0 rfl) ?_ | refine Za rfl ?_)
 rcases Bool.eq_false_or_eq_true (!(decide (0≤c.cost) && decide (c.cost≤999))) with a1 | a1
 ·rw[a1]
  repeat (first | refine Xa ?_ | refine Zb ?_ | refine Yb rfl ?_ | refine Yc rfl ?_ | refine Yd rfl ?_ | refine Qd rfl ?_ | refine Za (ld hB0 rfl) ?_ | refine Za rfl ?_)
  refine Xe ?_
  have a1:in999 c.cost=false:=by unfold in999; exact(Bool.not_eq_true' _).mp a1
  simp[cdOk,a1]
 rw[a1]
 repeat (first | refine Xa ?_ | refine Zb ?_ | refine Za (ld hB0 rfl) ?_ | refine Za rfl ?_)
 refine Zd (c187 _) rfl g187_ok.plain rfl ?_
 repeat (first | refine Xa ?_ | refine Zb ?_ | refine Za (ld hB0 rfl) ?_ | refine Za rfl ?_)
 rcases Bool.eq_false_or_eq_true (!(decide (0≤c.power) && decide (c.power≤999))) with a2 | a2
 ·rw[a2]
  repeat (first | refine Xa ?_ | refine Zb ?_ | refine Yb rfl ?_ | refine Yc rfl ?_ | refine Yd rfl ?_ | refine Qd rfl ?_ | refine Za (ld hB0 rfl) ?_ | refine Za rfl ?_)
  refine Xe ?_
  have a2:in999 c.power=false:=by unfold in999; exact(Bool.not_eq_true' _).mp a2
  simp[cdOk,a2]
 rw[a2]
 repeat (first | refine Xa ?_ | refine Zb ?_ | refine Za (ld hB0 rfl) ?_ | refine Za rfl ?_)
 refine Zd (c187 _) rfl g187_ok.plain rfl ?_
 repeat (first | refine Xa ?_ | refine Zb ?_ | refine Za (ld hB0 rfl) ?_ | refine Za rfl ?_)
 rcases Bool.eq_false_or_eq_true (!(decide (0≤c.health) && decide (c.health≤999))) with a3 | a3
 ·rw[a3]
  repeat (first | refine Xa ?_ | refine Zb ?_ | refine Yb rfl ?_ | refine Yc rfl ?_ | refine Yd rfl ?_ | refine Qd rfl ?_ | refine Za (ld hB0 rfl) ?_ | refine Za rfl ?_)
  refine Xe ?_
  have a3:in999 c.health=false:=by unfold in999; exact(Bool.not_eq_true' _).mp a3
  simp[cdOk,a3]
 rw[a3]
 repeat (first | refine Xa ?_ | refine Zb ?_ | refine Za (ld hB0 rfl) ?_ | refine Za rfl ?_)
 refine Zd (c187 _) rfl g187_ok.plain rfl ?_
 repeat (first | refine Xa ?_ | refine Zb ?_ | refine Za (ld hB0 rfl) ?_ | refine Za rfl ?_)
 rcases Bool.eq_false_or_eq_true (!(decide (0≤c.shield) && decide (c.shield≤999))) with a4 | a4
 ·rw[a4]
  repeat (first | refine Xa ?_ | refine Zb ?_ | refine Yb rfl ?_ | refine Yc rfl ?_ | refine Yd rfl ?_ | refine Qd rfl ?_ | refine Za (ld hB0 rfl) ?_ | refine Za rfl ?_)
  refine Xe ?_
  have a4:in999 c.shield=false:=by unfold in999; exact(Bool.not_eq_true' _).mp a4
  simp[cdOk,a4]
 rw[a4]
 repeat (first | refine Xa ?_ | refine Zb ?_ | refine Za (ld hB0 rfl) ?_ | refine Za rfl ?_)
 refine Zd (c187 _) rfl g187_ok.plain rfl ?_
 repeat (first | refine Xa ?_ | refine Zb ?_ | refine Za (ld hB0 rfl) ?_ | refine Za rfl ?_)
 rcases Bool.eq_false_or_eq_true (!(decide (0≤c.aurap) && decide (c.aurap≤999))) with a5 | a5
 ·rw[a5]
  repeat (first | refine Xa ?_ | refine Zb ?_ | refine Yb rfl ?_ | refine Yc rfl ?_ | refine Yd rfl ?_ | refine Qd rfl ?_ | refine Za (ld hB0 rfl) ?_ | refine Za rfl ?_)
  refine Xe ?_
  have a5:in999 c.aurap=false:=by unfold in999; exact(Bool.not_eq_true' _).mp a5
  simp[cdOk,a5]
 rw[a5]
 repeat (first | refine Xa ?_ | refine Zb ?_ | refine Za (ld hB0 rfl) ?_ | refine Za rfl ?_)
 refine Zd (c187 _) rfl g187_ok.plain rfl ?_
 repeat (first | refine Xa ?_ | refine Zb ?_ | refine Za (ld hB0 rfl) ?_ | refine Za rfl ?_)
 refine Xc (fun a6=>?_) (fun a6=>?_)
 ·have a6:in999 c.aurah=false:=by unfold in999; exact(Bool.not_eq_true' _).mp a6
  simp[cdOk,a6]
 have a1:in999 c.cost=true:=by simpa[in999] using a1
 have a2:in999 c.power=true:=by simpa[in999] using a2
 have a3:in999 c.health=true:=by simpa[in999] using a3
 have a4:in999 c.shield=true:=by simpa[in999] using a4
 have a5:in999 c.aurap=true:=by simpa[in999] using a5
 have a6:in999 c.aurah=true:=by simpa[in999] using a6
 have a0:nameOk c.name=true:=by simpa using a0
 have b1:=a1; have b2:=a2; have b3:=a3; have b4:=a4; have b5:=a5; have b6:=a6
 simp only[in999,Bool.and_eq_true,decide_eq_true_eq] at b1 b2 b3 b4 b5 b6
 simp only[cdOk,a0,a1,a2,a3,a4,a5,a6,Bool.true_and]
 clear a0 a1 a2 a3 a4 a5 a6
 repeat (first | refine Xa ?_ | refine Zb ?_ | refine Za (ld hB0 rfl) ?_ | refine Za rfl ?_)
 apply cutF (cdSum c=true)
 ·intro hR
  cases hu:c.unit with
  | true=>
   try rw[hu]
   repeat (first | refine Xa ?_ | refine Zb ?_ | refine Za (ld hB0 rfl) ?_ | refine Za rfl ?_)
   rcases Bool.eq_false_or_eq_true (decide (c.health < 1)) with h | h
   ·rw[h]
    repeat (first | refine Xa ?_ | refine Zb ?_ | refine Yb rfl ?_ | refine Yc rfl ?_ | refine Yd rfl ?_ | refine Qd rfl ?_ | refine Za (ld hB0 rfl) ?_ | refine Za rfl ?_)
    refine Xe ?_
    have h:¬ 1≤c.health:=by simp at h; omega
    simp[cdSum,hu,h]
   ·rw[h]
    repeat (first | refine Xa ?_ | refine Zb ?_ | refine Yb rfl ?_ | refine Yc rfl ?_ | refine Yd rfl ?_ | refine Qd rfl ?_ | refine Za (ld hB0 rfl) ?_ | refine Za rfl ?_)
    try rw[hu]
    repeat (first | refine Xa ?_ | refine Zb ?_ | refine Yb rfl ?_ | refine Yc rfl ?_ | refine Yd rfl ?_ | refine Qd rfl ?_ | refine Za (ld hB0 rfl) ?_ | refine Za rfl ?_)
    refine Yh (hR ?_)
    have h:1≤c.health:=by simp at h; omega
    simp[cdSum,hu,h]
  | false=>
   try rw[hu]
   repeat (first | refine Xa ?_ | refine Zb ?_ | refine Yb rfl ?_ | refine Yc rfl ?_ | refine Yd rfl ?_ | refine Qd rfl ?_ | refine Za (ld hB0 rfl) ?_ | refine Za rfl ?_)
   try rw[hu]
   repeat (first | refine Xa ?_ | refine Zb ?_ | refine Yb rfl ?_ | refine Yc rfl ?_ | refine Yd rfl ?_ | refine Qd rfl ?_ | refine Za (ld hB0 rfl) ?_ | refine Za rfl ?_)
   rw[wrapI (n:=c.power + c.health) (by omega) (by omega),wrapI (n:=c.power + c.health + c.shield) (by omega) (by omega),wrapI (n:=c.power + c.health + c.shield + c.aurap) (by omega) (by omega),wrapI (n:=c.power + c.health + c.shield + c.aurap + c.aurah) (by omega) (by omega)]
   rcases Bool.eq_false_or_eq_true (decide (c.power + c.health + c.shield + c.aurap + c.aurah > 0)) with h | h
   ·rw[h]
    repeat (first | refine Xa ?_ | refine Zb ?_ | refine Yb rfl ?_ | refine Yc rfl ?_ | refine Yd rfl ?_ | refine Qd rfl ?_ | refine Za (ld hB0 rfl) ?_ | refine Za rfl ?_)
    refine Xe ?_
    have h:¬ (c.power + c.health + c.shield + c.aurap + c.aurah≤0):=by simp at h; omega
    simp[cdSum,hu,h]
   rw[h]
   repeat (first | refine Xa ?_ | refine Zb ?_ | refine Za (ld hB0 rfl) ?_ | refine Za rfl ?_)
   have h:(c.power + c.health + c.shield + c.aurap + c.aurah≤0):=by simp at h; omega
   have l1:=QB f2
   have l2:=QB f3
   rw[bigE] at l1 l2
   rw[List.length_map,List.length_map,wrapI (n:=(c.dead.length:Int) + (c.dawn.length:Int)) (by omega) (by omega)]
   refine Xc (fun h2=>?_) (fun h2=>hR ?_)
   ·have h2:¬ (c.dead.length + c.dawn.length=0):=by simp at h2; omega
    have:cdSum c=false:=by rw[cdSum,hu,decide_eq_false h2]; simp
    simp[this]
   ·have h2:(c.dead.length + c.dawn.length=0):=by simp at h2; omega
    rw[cdSum,hu,decide_eq_true h2,decide_eq_true h]; rfl
 intro b7
 rw[b7,Bool.true_and]
 refine Za (ld hB0 rfl) ?_
 refine Zd (c110 c f1 f2 f3) rfl g110_ok.plain rfl ?_
 refine Za rfl ?_
 refine Xc (fun h=>?_) (fun h=>?_)
 ·have h:¬ (cdW c≤200):=by simp at h; unfold cdW; omega
  simp[h]
 have h:cdW c≤200:=by simp at h; unfold cdW; omega
 simp only[h,decide_true,Bool.true_and]
 subst hB
 refine Za rfl (Ye rfl rfl (Za rfl (Ye rfl rfl ?_)))
 refine Za rfl (Za rfl ?_)
 refine Yz (c188 cs hcs true c.played 1 f1 (by omega)) rfl g188_ok.plain rfl rfl ?_
 rcases Bool.eq_false_or_eq_true (lstOk cs true 1 c.played) with p1 | p1
 rotate_left
 ·rw[p1]
  repeat (first | refine Xa ?_ | refine Zb ?_ | refine Yb rfl ?_ | refine Yc rfl ?_ | refine Yd rfl ?_ | refine Qd rfl ?_ | refine Za (ld hB0 rfl) ?_ | refine Za rfl ?_)
  simp[p1]
 rw[p1]
 repeat (first | refine Xa ?_ | refine Zb ?_ | refine Za rfl ?_)
 refine Yz (c188 cs hcs false c.dead 1 f2 (by omega)) rfl g188_ok.plain rfl rfl ?_
 repeat (first | refine Xa ?_ | refine Zb ?_ | refine Za rfl ?_)
 rcases Bool.eq_false_or_eq_true (lstOk cs false 1 c.dead) with p2 | p2
 rotate_left
 ·rw[p2]
  repeat (first | refine Xa ?_ | refine Zb ?_ | refine Yb rfl ?_ | refine Yc rfl ?_ | refine Yd rfl ?_ | refine Qd rfl ?_ | refine Za rfl ?_)
  simp[p1,p2]
 rw[p2]
 repeat (first | refine Xa ?_ | refine Zb ?_ | refine Za rfl ?_)
 refine Yz (c188 cs hcs false c.dawn 1 f3 (by omega)) rfl g188_ok.plain rfl rfl ?_
 repeat (first | refine Xa ?_ | refine Zb ?_ | refine Za rfl ?_)
 simp[p1,p2]
theorem cdLd(x:Cd):partA true 0 12 (cdC x)=some (.agg (cdC x)):=rfl
theorem Qbq(x:Cd):partA false 11 1 (cdC x)=some (iv x.pl):=rfl
theorem c113(cs:List Cd)(hf:ZM cs=true):PCall prog GL0 113 [cdV cs] (.agg [iv (cdsChk cs).1,iv (cdsChk cs).2]):=by
 simp only[ZM,Bool.and_eq_true,decide_eq_true_eq] at hf
 obtain⟨f0,f1⟩:=hf
 have f02:=f0
 rw[bigE] at f02
 refine Zf hP g113_ok rfl rfl ?_
 unfold g113
 refine Ye rfl rfl (Za rfl (Za rfl ?_))
 refine Xc (fun h=>?_) (fun h=>?_)
 ·have h:240 < cs.length:=by simp at h; omega
  refine Za rfl (Ye rfl rfl (Yj rfl ?_))
  rw[cdsChk,if_pos h]
 have h:¬ 240 < cs.length:=by simp at h; omega
 rw[cdsChk,if_neg h]
 refine Xm (ι:=Nat) (fun i vs σ=>vs=[iv i]∧σ=[.box [iv 0,iv 0]]∧i≤cs.length∧cdsGo cs [] cs=cdsGo cs (cs.take i) (cs.drop i)) (fun i=>cs.length - i) 0 ⟨rfl,rfl,by omega,by simp⟩ ?_
 rintro i vs σ again ⟨rfl,rfl,hi,hu⟩ hag
 refine Za rfl (Za rfl ?_)
 refine Xc (fun h=>?_) (fun h=>?_)
 rotate_left
 ·have h:i=cs.length:=by simp at h; omega
  subst h
  rw[List.drop_length,cdsGo] at hu
  refine Za rfl (Ye rfl rfl (Yj rfl ?_))
  rw[hu]
 have hi:i < cs.length:=by simpa using h
 have hdr:cs.drop i=cs[i] :: cs.drop (i + 1):=by rw[List.drop_eq_getElem_cons hi]
 have hix:=fun (s:List ABlk)=>Qo s cdC false false 12 cs .i64 i hi
 have hfi:=List.all_eq_true.1 f1 _ (List.getElem_mem hi)
 have htk:cs.take (i + 1)=cs.take i ++ [cs[i]]:=Zw cs i hi
 generalize cs[i]=c at hdr hix hfi htk
 rw[hdr,cdsGo] at hu
 refine Xm (ι:=Nat) (fun j vs σ=>vs=[iv j]∧σ=[.box [iv 0,iv 0]]∧j≤i∧(cs.take i).any (fun d=>d.name == c.name)=((cs.take i).drop j).any (fun d=>d.name == c.name)) (fun j=>i - j) 0 ⟨rfl,rfl,by omega,by simp⟩ ?_
 rintro j vs σ again2 ⟨rfl,rfl,hj,hv⟩ hag2
 refine Za rfl ?_
 refine Xc (fun h=>?_) (fun h=>?_)
 ·have h:j < i:=by simpa using h
  have hjx:j < (cs.take i).length:=by rw[List.length_take]; omega
  have hdr2:(cs.take i).drop j=(cs.take i)[j] :: (cs.take i).drop (j + 1):=by rw[List.drop_eq_getElem_cons hjx]
  rw[List.getElem_take] at hdr2
  rw[hdr2,List.any_cons] at hv
  refine Za (Qo _ cdC false false 12 cs .i64 j (by omega)) (Za rfl (Za (ldr (cdLd0 _)) (Za (hix _) (Za rfl (Za (ldr (cdLd0 _)) (Za (Qf ..) ?_))))))
  refine Xc (fun h=>?_) (fun h=>?_)
  ·rw[h,Bool.true_or] at hv
   rw[hv,if_pos rfl] at hu
   refine Za (hix _) (Za rfl (Za (ldr (Qbq _)) (Za rfl (Ye rfl rfl (Yj rfl ?_)))))
   rw[hu]
  ·rw[h,Bool.false_or] at hv
   refine Za (Yn ..) ?_
   rw[Zh (n:=j) (by omega)]
   exact hag2 (j + 1) _ _ (by omega) ⟨rfl,rfl,by omega,hv⟩
 have h:j=i:=by simp at h; omega
 subst h
 rw[List.drop_eq_nil_of_le (by rw[List.length_take]; omega),List.any_nil] at hv
 rw[hv] at hu
 replace hu:cdsGo cs [] cs=if cdOk cs c then cdsGo cs (cs.take j ++ [c]) (cs.drop (j + 1)) else (130,c.pl):=hu
 rw[← htk] at hu
 refine Za (hix _) (Za (ldr (cdLd _)) ?_)
 refine Zd (c145 cs f0 c hfi) rfl g145_ok.plain rfl ?_
 refine Za rfl ?_
 refine Xc (fun h=>?_) (fun h=>?_)
 ·have h:cdOk cs c=false:=by simpa using h
  rw[h] at hu
  replace hu:cdsGo cs [] cs=(130,c.pl):=hu
  refine Za (hix _) (Za rfl (Za (ldr (Qbq _)) (Za rfl (Ye rfl rfl (Yj rfl ?_)))))
  rw[hu]
 ·have h:cdOk cs c=true:=by simpa using h
  rw[h,if_pos rfl] at hu
  refine Za (Yn ..) ?_
  rw[Zh (n:=j) (by omega)]
  exact hag (j + 1) _ _ (by omega) ⟨rfl,rfl,by omega,hu⟩
end Go.Ah.Tz
end
section
namespace Go.Ah.Tz
open Go.Proofs.Tryz (prog)
def lbN(a:Int):Int:=if a < 0∨3 < a then 3 else a
def joinL(a b:Int):Int:=if lbN a=lbN b∨lbN b=0 then lbN a else if lbN a=0 then lbN b else 3
def QaN(a b:Int):Bool:=decide (joinL a b=joinL b b)
mutual
def nmL:Nm→Int
 | .mk op _ _ kids=>if 8≤op∧op≤12 then nmLs (if op=6 then 3 else 0) kids else if op=6 then 3 else 0
def nmLs:Int→List Nm→Int
 | n,[]=>n
 | n,x :: l=>nmLs (joinL n (nmL x)) l
end
theorem Zcl(x:Nm):nmL x=if 8≤x.op∧x.op≤12 then nmLs (if x.op=6 then 3 else 0) x.kids else if x.op=6 then 3 else 0:=by cases x; rfl
mutual
def cnL:Cn→Int
 | .mk op who _ nums kids=>if op=6 then (if who=0 then 1 else if who=1 then 2 else 3) else cnLs (nmLs 0 nums) kids
def cnLs:Int→List Cn→Int
 | n,[]=>n
 | n,x :: l=>cnLs (joinL n (cnL x)) l
end
theorem Qck(x:Cn):cnL x=if x.op=6 then (if x.who=0 then 1 else if x.who=1 then 2 else 3) else cnLs (nmLs 0 x.nums) x.kids:=by cases x; rfl
mutual
def efL (u:Int):Ef→Bool
 | .mk op _ n _ c thn els=>if op=5 then QaN (joinL u (nmL n)) 1 else if op=8 then efsL (joinL u (cnL c)) thn && efsL (joinL u (cnL c)) els else if op=0∨op=1∨op=2∨op=3 then decide (joinL u (nmL n)=0) else decide (joinL u u=0)
def efsL (u:Int):List Ef→Bool
 | []=>true
 | x :: l=>efL u x && efsL u l
end
theorem Xa2(u:Int)(x:Ef):efL u x=if x.op=5 then QaN (joinL u (nmL x.n)) 1 else if x.op=8 then efsL (joinL u (cnL x.c)) x.thn && efsL (joinL u (cnL x.c)) x.els else if x.op=0∨x.op=1∨x.op=2∨x.op=3 then decide (joinL u (nmL x.n)=0) else decide (joinL u u=0):=by cases x; rfl
attribute [local irreducible] Ans.rd Ans.pu Ans.wr Ans.dr Ans.gr Ans.gw Ans.gl Ans.gd Ans.opt joinK W
set_option maxHeartbeats 1000000
theorem YB{P:Program}{GL:Globs}{c d:Bool}{K:AVal→Prop}{r1:SRes}{f2:AVal→SRes}{σ:List ABlk}{v1:AVal}(h1:r1=.ok v1 [] [])(h2:f2 v1=.ok (.bool d) [] [])(hK:K (.bool (c || d))) :
  (W P GL).gr (.bool c) false (fun k=>(W P GL).rd r1 k) fun t1=>(W P GL).gr (.bool c) false (fun k=>(W P GL).rd (f2 t1) k) fun t2=>(W P GL).rd (Qc [.bool c,.bool true,t2] σ) K:=by
 cases c with
 | false=>exact Xa (Za h1 (Xa (Za h2 (Za rfl hK))))
 | true=>exact Yb rfl (Yb rfl (Za rfl hK))
theorem Y9{P:Program}{GL:Globs}{c d:Bool}{K:AVal→Prop}{r1:SRes}{f2 f3:AVal→SRes}{σ:List ABlk}{v1 v2:AVal}{q1 q2 q3:List Nat}(h1:r1=.ok v1 q1 [])(h2:f2 v1=.ok v2 q2 [])(h3:f3 v2=.ok (.bool d) q3 [])(hK:K (.bool (c && d))) :
  (W P GL).gr (.bool c) true (fun k=>(W P GL).rd r1 k) fun t1=>(W P GL).gr (.bool c) true (fun k=>(W P GL).rd (f2 t1) k) fun t2=>(W P GL).gr (.bool c) true (fun k=>(W P GL).rd (f3 t2) k) fun t3=>(W P GL).rd (Qc [.bool c,t3,.bool false] σ) K:=by
 cases c with
 | true=>exact Xa (Za h1 (Xa (Za h2 (Xa (Za h3 (Za rfl hK))))))
 | false=>exact Yb rfl (Yb rfl (Yb rfl (Za rfl hK)))
theorem c190(a b:Int):PCall prog GL0 190 [iv8 a,iv8 b] (iv8 (joinL a b)):=by
 refine Zf hP g190_ok rfl rfl ?_
 unfold g190
 refine Za rfl (YB rfl rfl ?_)
 refine Qi fun k1 hk1=>?_
 have kk:k1 [iv8 (lbN a)] []:=by
  rw[hk1]; clear hk1 k1
  refine Za rfl (YB rfl rfl ?_)
  refine Qi fun k1 hk1=>?_
  have kk:k1 [iv8 (lbN b)] []:=by
   rw[hk1]; clear hk1 k1
   unfold joinL
   generalize lbN a=a
   generalize lbN b=b
   refine Za (Zg ..) ?_
   have hp:∀ K:AVal→Prop,K (.bool (decide (a=b) || decide (b=0)))→(W prog GL0).gr (.bool (decide (a=b))) false (fun k=>(W prog GL0).rd (Zj [iv8 b] []) k) fun t22=>(W prog GL0).gr (.bool (decide (a=b))) false (fun k=>(W prog GL0).rd (Qb .eql false [t22,(.int .i8 0)] []) k) fun t23=>(W prog GL0).rd (Qc [.bool (decide (a=b)),(.bool true),t23] []) K:=fun K hK=>YB rfl (Zg ..) hK
   refine hp _ ?_
   refine Xc (fun h=>?_) (fun h=>?_)
   ·rw[if_pos (by simpa using h)]; rfl
   have h:¬ (a=b∨b=0):=by simpa using h
   rw[if_neg h]
   refine Za (Zg ..) ?_
   refine Xc (fun h=>?_) (fun h=>?_)
   ·rw[if_pos (by simpa using h)]; rfl
   ·rw[if_neg (by simpa using h)]
  refine Xc (fun h=>?_) (fun h=>?_)
  ·rw[lbN,if_pos (by simpa using h)] at kk; exact kk
  ·rw[lbN,if_neg (by simpa using h)] at kk; exact kk
 refine Xc (fun h=>?_) (fun h=>?_)
 ·rw[lbN,if_pos (by simpa using h)] at kk; exact kk
 ·rw[lbN,if_neg (by simpa using h)] at kk; exact kk
theorem c189(a b:Int):PCall prog GL0 189 [iv8 a,iv8 b] (.bool (QaN a b)):=by
 refine Zf hP g189_ok rfl rfl ?_
 unfold g189
 refine Zd (c190 a b) rfl g190_ok.plain rfl ?_
 refine Zd (c190 b b) rfl g190_ok.plain rfl ?_
 refine Za (Zg ..) ?_
 rfl
theorem c191':∀ (k:Nat) (x:Nm),SizeOf.sizeOf x≤k→nmFit x=true→PCall prog GL0 191 [.agg (nmC x)] (iv8 (nmL x))
 | 0,x,h,_=>by cases x; simp at h
 | k + 1,x,hk,hf=>by
  rw[QD]
  refine Zf hP g191_ok rfl rfl ?_
  unfold g191
  refine Ye rfl rfl ?_
  rw[Zcl]
  have hlen:=Z4 hf
  rw[bigE] at hlen
  generalize hB:([] ++ [ABlk.box [iv8 x.op,iv x.n,iv8 x.who,.rsl false false 4 (x.kids.map nmC)]]:List ABlk)=base
  have hB0:hget base 0=.box [iv8 x.op,iv x.n,iv8 x.who,.rsl false false 4 (x.kids.map nmC)]:=by rw[← hB]; rfl
  clear hB
  refine Za rfl (Za (ld hB0 rfl) (Za (Zg ..) ?_))
  refine Qi fun k1 hk1=>?_
  have kk:k1 [iv8 (if x.op=6 then 3 else 0)] base:=by
   rw[hk1]; clear hk1 k1
   generalize (if x.op=6 then (3:Int) else 0)=n0
   refine Za rfl (Za (ld hB0 rfl) (Za rfl ?_))
   refine Y9 rfl (ld hB0 rfl) rfl ?_
   rw[show (decide (x.op ≥ 8) && decide (x.op≤12))=decide (8≤x.op∧x.op≤12) by simp]
   refine Xc (fun h=>?_) (fun h=>?_)
   rotate_left
   ·rw[if_neg (by simpa using h)]; rfl
   rw[if_pos (by simpa using h)]
   refine Xm (ι:=Nat) (fun i vs σ=>∃ n,vs=[iv i,iv8 n]∧σ=base∧i≤x.kids.length∧nmLs n0 x.kids=nmLs n (x.kids.drop i)) (fun i=>x.kids.length - i) 0 ⟨n0,rfl,rfl,by omega,by simp⟩ ?_
   rintro i vs σ again ⟨n,rfl,rfl,hi,hu⟩ hag
   repeat (first | refine Za (ld hB0 rfl) ?_ | refine Za rfl ?_)
   refine Xc (fun h=>?_) (fun h=>?_)
   ·have h:i < x.kids.length:=by simpa using h
    have hdr:x.kids.drop i=x.kids[i] :: x.kids.drop (i + 1):=by rw[List.drop_eq_getElem_cons h]
    rw[hdr,nmLs] at hu
    have hm:x.kids[i]∈x.kids:=List.getElem_mem h
    refine Za rfl (Za (ld hB0 rfl) (Za (Qo _ nmC _ _ _ x.kids _ i h) (Za (ldr (nmLd _)) ?_)))
    refine Zd (c191' k _ (by have:=Zak hm; omega) (XV hf hm)) rfl g191_ok.plain (nmRo _) ?_
    refine Zd (c190 _ _) rfl g190_ok.plain rfl ?_
    refine Za (Yn ..) ?_
    rw[Zh (n:=i) (by omega)]
    exact hag (i + 1) _ _ (by omega) ⟨_,rfl,rfl,by omega,hu⟩
   ·have h:i=x.kids.length:=by simp at h; omega
    subst h
    rw[List.drop_length,nmLs] at hu
    rw[hu]; rfl
  refine Xc (fun h=>?_) (fun h=>?_)
  ·have e:x.op=6:=by simpa using h
   rw[if_pos e] at kk; exact kk
  ·have e:x.op≠6:=by simpa using h
   rw[if_neg e] at kk; exact kk
theorem c191(x:Nm)(hf:nmFit x=true):PCall prog GL0 191 [.agg (nmC x)] (iv8 (nmL x)):=c191' _ x (Nat.le_refl _) hf
theorem c192':∀ (k:Nat) (x:Cn),SizeOf.sizeOf x≤k→cnFit x=true→PCall prog GL0 192 [.agg (cnC x)] (iv8 (cnL x))
 | 0,x,h,_=>by cases x; simp at h
 | k + 1,x,hk,hf=>by
  rw[QL]
  refine Zf hP g192_ok rfl rfl ?_
  unfold g192
  refine Ye rfl rfl ?_
  rw[Qck]
  have hl1:=XN hf
  have hl2:=YN hf
  rw[bigE] at hl1 hl2
  generalize hB:([] ++ [ABlk.box [iv8 x.op,iv8 x.who,.str x.name,.rsl false false 4 (x.nums.map nmC),.rsl false false 5 (x.kids.map cnC)]]:List ABlk)=base
  have hB0:hget base 0=.box [iv8 x.op,iv8 x.who,.str x.name,.rsl false false 4 (x.nums.map nmC),.rsl false false 5 (x.kids.map cnC)]:=by rw[← hB]; rfl
  clear hB
  refine Za rfl (Za (ld hB0 rfl) (Za (Zg ..) ?_))
  refine Xc (fun h=>?_) (fun h=>?_)
  ·rw[if_pos (by simpa using h)]
   refine Za rfl (Za (ld hB0 rfl) (Za (Zg ..) ?_))
   refine Xc (fun h=>?_) (fun h=>?_)
   ·rw[if_pos (by simpa using h)]
   rw[if_neg (by simpa using h)]
   refine Za (Zg ..) ?_
   refine Xc (fun h=>?_) (fun h=>?_)
   ·rw[if_pos (by simpa using h)]
   ·rw[if_neg (by simpa using h)]
  rw[if_neg (by simpa using h)]
  refine Xm (ι:=Nat) (fun i vs σ=>∃ n,vs=[iv i,iv8 n]∧σ=base∧i≤x.nums.length∧nmLs 0 x.nums=nmLs n (x.nums.drop i)) (fun i=>x.nums.length - i) 0 ⟨0,rfl,rfl,by omega,by simp⟩ ?_
  rintro i vs σ again ⟨n,rfl,rfl,hi,hu⟩ hag
  repeat (first | refine Za (ld hB0 rfl) ?_ | refine Za rfl ?_)
  refine Xc (fun h=>?_) (fun h=>?_)
  ·have h:i < x.nums.length:=by simpa using h
   have hdr:x.nums.drop i=x.nums[i] :: x.nums.drop (i + 1):=by rw[List.drop_eq_getElem_cons h]
   rw[hdr,nmLs] at hu
   have hm:x.nums[i]∈x.nums:=List.getElem_mem h
   refine Za rfl (Za (ld hB0 rfl) (Za (Qo _ nmC _ _ _ x.nums _ i h) (Za (ldr (nmLd _)) ?_)))
   refine Zd (c191 _ (QW hf hm)) rfl g191_ok.plain (nmRo _) ?_
   refine Zd (c190 _ _) rfl g190_ok.plain rfl ?_
   refine Za (Yn ..) ?_
   rw[Zh (n:=i) (by omega)]
   exact hag (i + 1) _ _ (by omega) ⟨_,rfl,rfl,by omega,hu⟩
  have h:i=x.nums.length:=by simp at h; omega
  subst h
  rw[List.drop_length,nmLs] at hu
  rw[hu]
  clear hag hu hi
  refine Xm (ι:=Nat) (fun i vs s=>∃ m,vs=[iv i,iv8 m]∧s=σ∧i≤x.kids.length∧cnLs n x.kids=cnLs m (x.kids.drop i)) (fun i=>x.kids.length - i) 0 ⟨n,rfl,rfl,by omega,by simp⟩ ?_
  rintro i vs s again ⟨m,rfl,rfl,hi,hu⟩ hag
  repeat (first | refine Za (ld hB0 rfl) ?_ | refine Za rfl ?_)
  refine Xc (fun h=>?_) (fun h=>?_)
  ·have h:i < x.kids.length:=by simpa using h
   have hdr:x.kids.drop i=x.kids[i] :: x.kids.drop (i + 1):=by rw[List.drop_eq_getElem_cons h]
   rw[hdr,cnLs] at hu
   have hm:x.kids[i]∈x.kids:=List.getElem_mem h
   refine Za rfl (Za (ld hB0 rfl) (Za (Qo _ cnC _ _ _ x.kids _ i h) (Za (ldr (cnLd _)) ?_)))
   refine Zd (c192' k _ (by have:=Qam hm; omega) (QV hf hm)) rfl g192_ok.plain (cnRo _) ?_
   refine Zd (c190 _ _) rfl g190_ok.plain rfl ?_
   refine Za (Yn ..) ?_
   rw[Zh (n:=i) (by omega)]
   exact hag (i + 1) _ _ (by omega) ⟨_,rfl,rfl,by omega,hu⟩
  ·have h:i=x.kids.length:=by simp at h; omega
   subst h
   rw[List.drop_length,cnLs] at hu
   rw[hu]; rfl
theorem c192(x:Cn)(hf:cnFit x=true):PCall prog GL0 192 [.agg (cnC x)] (iv8 (cnL x)):=c192' _ x (Nat.le_refl _) hf
end Go.Ah.Tz
end
section
namespace Go.Ah.Tz
open Go.Proofs.Tryz (prog)
def cdL(c:Cd):Bool:=efsL 0 c.played && (efsL 0 c.dead && efsL 0 c.dawn)
def cdsL:List Cd→Int × Int
 | []=>(0,0)
 | c :: l=>if cdL c then cdsL l else (140,c.pl)
attribute [local irreducible] Ans.rd Ans.pu Ans.wr Ans.dr Ans.gr Ans.gw Ans.gl Ans.gd Ans.opt joinK W
set_option maxHeartbeats 1000000
theorem ZG{σ:List ABlk}{b j n:Nat}{row:List AVal}{v:AVal}(hb:b < σ.length)(hv:partA true j n row=some v):cellV true n (.bptr b j) (σ.set b (.box row))=some v:=by
 have:hget (σ.set b (.box row)) b=.box row:=YG (by simp[hb])
 simp only[cellV,this,hv]
theorem c146':∀ (k:Nat) (l:List Ef) (u:Int),SizeOf.sizeOf l≤k→lsFit l=true→PCall prog GL0 146 [iv8 u,efV l] (.bool (efsL u l))
 | 0,l,_,h,_=>by cases l <;> simp at h
 | k + 1,l,u,hk,hf=>by
  refine Zf hP g146_ok rfl rfl ?_
  unfold g146
  have hlen:=QB hf
  rw[bigE] at hlen
  refine Xm (ι:=Nat) (fun i vs σ=>vs=[iv i]∧i≤l.length∧efsL u l=efsL u (l.drop i)) (fun i=>l.length - i) 0 ⟨rfl,by omega,by simp⟩ ?_
  rintro i vs σ again ⟨rfl,hi,hu⟩ hag
  refine Za rfl (Za rfl ?_)
  refine Xc (fun h=>?_) (fun h=>?_)
  rotate_left
  ·have h:i=l.length:=by simp at h; omega
   subst h
   rw[List.drop_length,efsL] at hu
   rw[hu]
  have h:i < l.length:=by simpa using h
  have hdr:l.drop i=l[i] :: l.drop (i + 1):=by rw[List.drop_eq_getElem_cons h]
  rw[hdr,efsL] at hu
  have hm:l[i]∈l:=List.getElem_mem h
  have hsz:=List.sizeOf_lt_of_mem hm
  have hfx:=XK hf hm
  have ix:=fun (s:List ABlk)=>Qo s efC false false 14 l .i64 i h
  generalize l[i]=x at hu hsz hfx ix
  refine Qi fun kj hkj=>?_
  have kk:efL u x=true→∀ s,kj [] s:=by
   intro he s
   rw[hkj]
   refine Za (Yn ..) ?_
   rw[Zh (n:=i) (by omega)]
   exact hag (i + 1) _ _ (by omega) ⟨rfl,by omega,by rw[hu,he,Bool.true_and]⟩
  have bad:efL u x=false→AVal.bool false=AVal.bool (efsL u l):=by
   intro he; rw[hu,he]; rfl
  clear hkj hag
  refine Za (ix _) (Za (ldr (efLd x)) ?_)
  refine ZB (row:=[iv8 x.op,iv8 x.who,iv8 x.n.op,iv x.n.n,iv8 x.n.who,.rsl false false 4 (x.n.kids.map nmC),.str x.name,iv8 x.c.op,iv8 x.c.who,.str x.c.name,.rsl false false 4 (x.c.nums.map nmC),.rsl false false 5 (x.c.kids.map cnC),.rsl false false 14 (x.thn.map efC),.rsl false false 14 (x.els.map efC)]) (row':=[iv8 x.op,iv8 x.who,iv8 x.n.op,iv x.n.n,iv8 x.n.who,.rsl false false 4 (x.n.kids.map nmC),.str x.name,iv8 x.c.op,iv8 x.c.who,.str x.c.name,.rsl false false 4 (x.c.nums.map nmC),.rsl false false 5 (x.c.kids.map cnC),.rsl false false 14 (x.thn.map efC),.rsl false false 14 (x.els.map efC)]) (by rw[XF]; rfl) rfl rfl ?_
  have hB0:=Xn σ (ABlk.box [iv8 x.op,iv8 x.who,iv8 x.n.op,iv x.n.n,iv8 x.n.who,.rsl false false 4 (x.n.kids.map nmC),.str x.name,iv8 x.c.op,iv8 x.c.who,.str x.c.name,.rsl false false 4 (x.c.nums.map nmC),.rsl false false 5 (x.c.kids.map cnC),.rsl false false 14 (x.thn.map efC),.rsl false false 14 (x.els.map efC)])
  generalize σ ++ [ABlk.box [iv8 x.op,iv8 x.who,iv8 x.n.op,iv x.n.n,iv8 x.n.who,.rsl false false 4 (x.n.kids.map nmC),.str x.name,iv8 x.c.op,iv8 x.c.who,.str x.c.name,.rsl false false 4 (x.c.nums.map nmC),.rsl false false 5 (x.c.kids.map cnC),.rsl false false 14 (x.thn.map efC),.rsl false false 14 (x.els.map efC)]]=base at hB0 ⊢
  generalize σ.length=b at hB0 ⊢
  have hN:Ze true 4 [.bptr b 2] base=.ok (.agg (nmC x.n)) [b] []:=ld hB0 (by rw[QD]; rfl)
  have hC:Ze true 5 [.bptr b 7] base=.ok (.agg (cnC x.c)) [b] []:=ld hB0 (by rw[QL]; rfl)
  rw[Xa2] at kk bad
  repeat (first | refine Za hN ?_ | refine Za hC ?_ | refine Za (ld hB0 rfl) ?_ | refine Za (Zg ..) ?_ | refine Za rfl ?_)
  refine Xc (fun a1=>?_) (fun a1=>?_)
  ·have a1:x.op=5:=by simpa using a1
   rw[if_pos a1] at kk bad
   repeat (first | refine Za hN ?_ | refine Za hC ?_ | refine Za (ld hB0 rfl) ?_ | refine Za (Zg ..) ?_ | refine Za rfl ?_)
   refine Zd (c191 _ (Q2 hfx)) rfl g191_ok.plain (nmRo _) ?_
   refine Zd (c190 _ _) rfl g190_ok.plain rfl ?_
   refine Zd (c189 _ _) rfl g189_ok.plain rfl ?_
   refine Za rfl ?_
   exact Xc (fun h=>bad (by simpa using h)) (fun h=>kk (by simpa using h) _)
  have a1:x.op≠5:=by simpa using a1
  rw[if_neg a1] at kk bad
  repeat (first | refine Za hN ?_ | refine Za hC ?_ | refine Za (ld hB0 rfl) ?_ | refine Za (Zg ..) ?_ | refine Za rfl ?_)
  refine Xc (fun a2=>?_) (fun a2=>?_)
  ·have a2:x.op=8:=by simpa using a2
   rw[if_pos a2] at kk bad
   have hs2:=Yaa x
   repeat (first | refine Za hN ?_ | refine Za hC ?_ | refine Za (ld hB0 rfl) ?_ | refine Za (Zg ..) ?_ | refine Za rfl ?_)
   refine Zd (c192 _ (ZY hfx)) rfl g192_ok.plain (cnRo _) ?_
   refine Zd (c190 _ _) rfl g190_ok.plain rfl ?_
   repeat (first | refine Za hN ?_ | refine Za hC ?_ | refine Za (ld hB0 rfl) ?_ | refine Za (Zg ..) ?_ | refine Za rfl ?_)
   refine Zd (c146' k x.thn _ (by omega) (YK hfx)) rfl g146_ok.plain rfl ?_
   repeat (first | refine Za hN ?_ | refine Za hC ?_ | refine Za (ld hB0 rfl) ?_ | refine Za (Zg ..) ?_ | refine Za rfl ?_)
   rcases Bool.eq_false_or_eq_true (!efsL (joinL u (cnL x.c)) x.thn) with a3 | a3
   ·rw[a3]
    repeat (first | refine Xa ?_ | refine Zb ?_ | refine Yb rfl ?_ | refine Yc rfl ?_ | refine Yd rfl ?_ | refine Qd rfl ?_ | refine Za (ld hB0 rfl) ?_ | refine Za rfl ?_)
    refine Xe (bad ?_)
    have a3:efsL (joinL u (cnL x.c)) x.thn=false:=by simpa using a3
    simp[a3]
   rw[a3]
   repeat (first | refine Xa ?_ | refine Zb ?_ | refine Za (ld hB0 rfl) ?_ | refine Za rfl ?_)
   have a3:efsL (joinL u (cnL x.c)) x.thn=true:=by simpa using a3
   refine Zd (c146' k x.els _ (by omega) (QJ hfx)) rfl g146_ok.plain rfl ?_
   repeat (first | refine Xa ?_ | refine Zb ?_ | refine Za (ld hB0 rfl) ?_ | refine Za rfl ?_)
   refine Xc (fun h=>bad ?_) (fun h=>kk ?_ _)
   ·have h:efsL (joinL u (cnL x.c)) x.els=false:=by simpa using h
    simp[h]
   ·have h:efsL (joinL u (cnL x.c)) x.els=true:=by simpa using h
    simp[a3,h]
  have a2:x.op≠8:=by simpa using a2
  rw[if_neg a2] at kk bad
  repeat (first | refine Za hN ?_ | refine Za hC ?_ | refine Za (ld hB0 rfl) ?_ | refine Za (Zg ..) ?_ | refine Za rfl ?_)
  refine Qi fun k1 hk1=>?_
  have m1:∀ c:Bool,c=decide (x.op=0∨x.op=1∨x.op=2∨x.op=3)→k1 [.bool c] base:=by
   rintro c hc
   rw[hk1]
   refine Xc (fun h=>?_) (fun h=>?_)
   ·rw[h] at hc
    rw[if_pos (by simpa using hc.symm)] at kk bad
    repeat (first | refine Za hN ?_ | refine Za hC ?_ | refine Za (ld hB0 rfl) ?_ | refine Za (Zg ..) ?_ | refine Za rfl ?_)
    refine Zd (c191 _ (Q2 hfx)) rfl g191_ok.plain (nmRo _) ?_
    refine Zd (c190 _ _) rfl g190_ok.plain rfl ?_
    refine Za rfl ?_
    exact Xc (fun h=>bad (by simpa using h)) (fun h=>kk (by simpa using h) _)
   ·rw[h] at hc
    rw[if_neg (by simpa using hc.symm)] at kk bad
    refine Zd (c190 _ _) rfl g190_ok.plain rfl ?_
    refine Za rfl ?_
    exact Xc (fun h=>bad (by simpa using h)) (fun h=>kk (by simpa using h) _)
  clear hk1
  refine Xc (fun h=>m1 _ ?_) (fun h=>?_)
  ·simp at h; simp[h]
  refine Za (Zg ..) (Xc (fun h2=>m1 _ ?_) (fun h2=>?_))
  ·simp at h2; simp[h2]
  refine Za (Zg ..) (Xc (fun h3=>m1 _ ?_) (fun h3=>?_))
  ·simp at h3; simp[h3]
  refine Za (Zg ..) (m1 _ ?_)
  simp at h h2 h3; simp[h,h2,h3]
theorem c146(l:List Ef)(u:Int)(hf:lsFit l=true):PCall prog GL0 146 [iv8 u,efV l] (.bool (efsL u l)):=c146' _ l u (Nat.le_refl _) hf
theorem c114(cs:List Cd)(hf:ZM cs=true):PCall prog GL0 114 [cdV cs] (.agg [iv (cdsL cs).1,iv (cdsL cs).2]):=by
 simp only[ZM,Bool.and_eq_true,decide_eq_true_eq] at hf
 obtain⟨f0,f1⟩:=hf
 rw[bigE] at f0
 refine Zf hP g114_ok rfl rfl ?_
 unfold g114
 refine Ye rfl rfl ?_
 refine Xm (ι:=Nat) (fun i vs σ=>vs=[iv i]∧hget σ 0=.box [iv 0,iv 0]∧0 < σ.length∧i≤cs.length∧cdsL cs=cdsL (cs.drop i)) (fun i=>cs.length - i) 0 ⟨rfl,rfl,by simp,by omega,by simp⟩ ?_
 rintro i vs σ again ⟨rfl,hz,hz2,hi,hu⟩ hag
 refine Za rfl (Za rfl ?_)
 refine Xc (fun h=>?_) (fun h=>?_)
 rotate_left
 ·have h:i=cs.length:=by simp at h; omega
  subst h
  rw[List.drop_length,cdsL] at hu
  refine Za rfl (Ye (stv hz rfl rfl rfl) (Yo _ hz2) (Yj (ZG hz2 rfl) ?_))
  rw[hu]
 have hi:i < cs.length:=by simpa using h
 have hdr:cs.drop i=cs[i] :: cs.drop (i + 1):=by rw[List.drop_eq_getElem_cons hi]
 have hix:=fun (s:List ABlk)=>Qo s cdC false false 12 cs .i64 i hi
 have hfi:=List.all_eq_true.1 f1 _ (List.getElem_mem hi)
 generalize cs[i]=c at hdr hix hfi
 rw[hdr,cdsL] at hu
 simp only[cdFit,Bool.and_eq_true,decide_eq_true_eq] at hfi
 obtain⟨g0,g1,g2,g3⟩:=hfi
 refine Za (hix _) (Za (ldr (cdLd _)) (ZB (row:=cdC c) (row':=cdC c) rfl rfl rfl ?_))
 have hB0:=Xn σ (ABlk.box (cdC c))
 have hz':hget (σ ++ [ABlk.box (cdC c)]) 0=.box [iv 0,iv 0]:=Zl _ hz (by simp)
 have hz2':0 < (σ ++ [ABlk.box (cdC c)]).length:=by simp
 generalize σ ++ [ABlk.box (cdC c)]=base at hB0 hz' hz2' ⊢
 generalize σ.length=b at hB0 ⊢
 clear hz hz2
 repeat (first | refine Za (ld hB0 rfl) ?_ | refine Za rfl ?_)
 refine Zd (c146 _ 0 g1) rfl g146_ok.plain rfl ?_
 repeat (first | refine Za (ld hB0 rfl) ?_ | refine Za rfl ?_)
 have bad:cdL c=false→(W prog GL0).rd (Ya 11 [.bptr b 0] base) fun t31_22=>True:=fun _=>Za rfl trivial
 clear bad
 apply cutF (cdL c=false)
 ·intro hR
  have good:cdL c=true→(W prog GL0).rd (Qb .add false [iv i,(.int .i64 1)] base) fun t10_26=>again [t10_26] base:=by
   intro hc
   rw[hc,if_pos rfl] at hu
   refine Za (Yn ..) ?_
   rw[Zh (n:=i) (by omega)]
   exact hag (i + 1) _ _ (by omega) ⟨rfl,hz',hz2',by omega,hu⟩
  rcases Bool.eq_false_or_eq_true (!efsL 0 c.played) with a1 | a1
  ·rw[a1]
   repeat (first | refine Xa ?_ | refine Zb ?_ | refine Yb rfl ?_ | refine Yc rfl ?_ | refine Yd rfl ?_ | refine Qd rfl ?_ | refine Za (ld hB0 rfl) ?_ | refine Za rfl ?_)
   refine Xe (hR ?_)
   have a1:efsL 0 c.played=false:=by simpa using a1
   simp[cdL,a1]
  rw[a1]
  repeat (first | refine Xa ?_ | refine Zb ?_ | refine Za (ld hB0 rfl) ?_ | refine Za rfl ?_)
  have a1:efsL 0 c.played=true:=by simpa using a1
  refine Zd (c146 _ 0 g2) rfl g146_ok.plain rfl ?_
  repeat (first | refine Xa ?_ | refine Zb ?_ | refine Za (ld hB0 rfl) ?_ | refine Za rfl ?_)
  rcases Bool.eq_false_or_eq_true (!efsL 0 c.dead) with a2 | a2
  ·rw[a2]
   repeat (first | refine Xa ?_ | refine Zb ?_ | refine Yb rfl ?_ | refine Yc rfl ?_ | refine Yd rfl ?_ | refine Qd rfl ?_ | refine Za (ld hB0 rfl) ?_ | refine Za rfl ?_)
   refine Xe (hR ?_)
   have a2:efsL 0 c.dead=false:=by simpa using a2
   simp[cdL,a2]
  rw[a2]
  repeat (first | refine Xa ?_ | refine Zb ?_ | refine Za (ld hB0 rfl) ?_ | refine Za rfl ?_)
  have a2:efsL 0 c.dead=true:=by simpa using a2
  refine Zd (c146 _ 0 g3) rfl g146_ok.plain rfl ?_
  repeat (first | refine Xa ?_ | refine Zb ?_ | refine Za (ld hB0 rfl) ?_ | refine Za rfl ?_)
  refine Xc (fun a3=>hR ?_) (fun a3=>good ?_)
  ·have a3:efsL 0 c.dawn=false:=by simpa using a3
   simp[cdL,a3]
  ·have a3:efsL 0 c.dawn=true:=by simpa using a3
   simp[cdL,a1,a2,a3]
 intro hc
 rw[hc] at hu
 replace hu:cdsL cs=(140,c.pl):=hu
 refine Za rfl (Za (ld hB0 rfl) (Za rfl (Ye (stv hz' rfl rfl rfl) (Yo _ hz2') (Yj (ZG hz2' rfl) ?_))))
 rw[hu]
end Go.Ah.Tz
end
section
namespace Go.Ah.Tz
open Go.Proofs.Tryz (prog)
def fndI:Nat→List Cd→Tx→Nat × Bool
 | _,[],_=>(0,false)
 | i,c :: l,t=>if c.name == t then (i,true) else fndI (i + 1) l t
def nmsGo(cs:List Cd):List Tx→List Tx→Bool
 | _,[]=>true
 | pre,t :: l=>((fndI 0 cs t).2 && pre.all fun p=>!(p == t)) && nmsGo cs (pre ++ [t]) l
def fmtOk(b:Bk)(pre:List Fo)(f:Fo):Bool:=
 !(pre.any fun g=>g.name == f.name) && (decide (pre.length < 240) && (nameOk f.name && (decide (0≤f.least) && (decide (f.least≤f.most) && (decide (f.most≤60) && (decide (0≤f.copies) && (decide (f.copies≤999) && (nmsGo b.cards [] f.banned && nmsGo b.cards [] f.single))))))))
def fmtGo(b:Bk):List Fo→List Fo→Int × Int
 | _,[]=>(0,0)
 | pre,f :: l=>if fmtOk b pre f then fmtGo b (pre ++ [f]) l else (151,f.pl)
def bkR(b:Bk):Int × Int:=if (cdsChk b.cards).1≠0 then cdsChk b.cards else if (cdsL b.cards).1≠0 then cdsL b.cards else fmtGo b [] b.formats
def foFit(f:Fo):Bool:=decide (f.name.length≤big) && (decide (f.banned.length≤big) && decide (f.single.length≤big))
def bkFit(b:Bk):Bool:=ZM b.cards && (decide (b.formats.length≤big) && b.formats.all foFit)
attribute [local irreducible] Ans.rd Ans.pu Ans.wr Ans.dr Ans.gr Ans.gw Ans.gl Ans.gd Ans.opt joinK W
set_option maxHeartbeats 1000000
theorem c195(b:Bk)(hc:b.cards.length≤big)(t:Tx):PCall prog GL0 195 [bkV b,.str t] (.tup [iv (fndI 0 b.cards t).1,.bool (fndI 0 b.cards t).2]):=by
 rw[bigE] at hc
 refine Zf hP g195_ok rfl rfl ?_
 unfold g195
 refine Ye rfl rfl ?_
 generalize hB:([] ++ [ABlk.box [cdV b.cards,foV b.formats]]:List ABlk)=base
 have hB0:hget base 0=.box [cdV b.cards,foV b.formats]:=by rw[← hB]; rfl
 clear hB
 generalize b.cards=cs at hc hB0 ⊢
 refine Xm (ι:=Nat) (fun i vs σ=>vs=[iv i]∧σ=base∧i≤cs.length∧fndI 0 cs t=fndI i (cs.drop i) t) (fun i=>cs.length - i) 0 ⟨rfl,rfl,by omega,by simp⟩ ?_
 rintro i vs σ again ⟨rfl,rfl,hi,hu⟩ hag
 repeat (first | refine Za (ld hB0 rfl) ?_ | refine Za rfl ?_)
 refine Xc (fun h=>?_) (fun h=>?_)
 ·have h:i < cs.length:=by simpa using h
  have hdr:cs.drop i=cs[i] :: cs.drop (i + 1):=by rw[List.drop_eq_getElem_cons h]
  rw[hdr,fndI] at hu
  refine Za rfl (Za (ld hB0 rfl) (Za (Qo _ cdC false false 12 cs .i64 i h) (Za rfl (Za (ldr (cdLd0 _)) (Za (Qf ..) ?_)))))
  refine Xc (fun h=>?_) (fun h=>?_)
  ·rw[if_pos h] at hu
   rw[hu]; rfl
  ·rw[if_neg (by simpa using h)] at hu
   refine Za (Yn ..) ?_
   rw[Zh (n:=i) (by omega)]
   exact hag (i + 1) _ _ (by omega) ⟨rfl,rfl,by omega,hu⟩
 ·have h:i=cs.length:=by simp at h; omega
  subst h
  rw[List.drop_length,fndI] at hu
  rw[hu]; rfl
theorem c148(b:Bk)(hc:b.cards.length≤big)(l:List Tx)(hl:l.length≤big):PCall prog GL0 148 [bkV b,txV l] (.bool (nmsGo b.cards [] l)):=by
 rw[bigE] at hl
 refine Zf hP g148_ok rfl rfl ?_
 unfold g148
 refine Ye rfl rfl ?_
 refine Xm (ι:=Nat) (fun i vs σ=>vs=[iv i]∧σ=[] ++ [ABlk.box [cdV b.cards,foV b.formats]]∧i≤l.length∧nmsGo b.cards [] l=nmsGo b.cards (l.take i) (l.drop i)) (fun i=>l.length - i) 0 ⟨rfl,rfl,by omega,by simp⟩ ?_
 rintro i vs σ again ⟨rfl,rfl,hi,hu⟩ hag
 refine Za rfl (Za rfl ?_)
 refine Xc (fun h=>?_) (fun h=>?_)
 rotate_left
 ·have h:i=l.length:=by simp at h; omega
  subst h
  rw[List.drop_length,nmsGo] at hu
  rw[hu]
 have h:i < l.length:=by simpa using h
 have hdr:l.drop i=l[i] :: l.drop (i + 1):=by rw[List.drop_eq_getElem_cons h]
 have hix:=fun (s:List ABlk)=>Qo s txC false false 1 l .i64 i h
 have htk:l.take (i + 1)=l.take i ++ [l[i]]:=Zw l i h
 generalize l[i]=t at hdr hix htk
 rw[hdr,nmsGo,← htk] at hu
 refine Qh rfl rfl (Qh (hix _) rfl (Qh (ldr (txLd _)) rfl ?_))
 refine Qp (c195 b hc t) rfl g195_ok.plain rfl ?_
 refine Xf rfl (Xf rfl (Yy (by kernel_rfl) ?_))
 refine Xm (ι:=Nat) (fun k vs σ=>∃ ok,vs=[iv k,.bool ok]∧σ=[] ++ [ABlk.box [cdV b.cards,foV b.formats]]∧k≤i∧((fndI 0 b.cards t).2 && (l.take i).all fun p=>!(p == t))=(ok && ((l.take i).drop k).all fun p=>!(p == t))) (fun k=>i - k) 0 ⟨_,rfl,rfl,by omega,by simp⟩ ?_
 rintro k vs σ again2 ⟨ok,rfl,rfl,hk,hv⟩ hag2
 refine Za rfl ?_
 refine Xc (fun h2=>?_) (fun h2=>?_)
 ·have h2:k < i:=by simpa using h2
  have hkx:k < (l.take i).length:=by rw[List.length_take]; omega
  have hdr2:(l.take i).drop k=(l.take i)[k] :: (l.take i).drop (k + 1):=by rw[List.drop_eq_getElem_cons hkx]
  rw[List.getElem_take] at hdr2
  rw[hdr2,List.all_cons,← Bool.and_assoc] at hv
  cases ok with
  | true=>
   have hixk:=fun (s:List ABlk)=>Qo s txC false false 1 l .i64 k (by omega)
   repeat (first | refine Xa ?_ | refine Za (hixk _) ?_ | refine Za (hix _) ?_ | refine Za (ldr (txLd _)) ?_ | refine Za rfl ?_)
   rw[Zh (n:=k) (by omega)]
   exact hag2 (k + 1) _ _ (by omega) ⟨_,rfl,rfl,by omega,by rw[hv,Bool.true_and]⟩
  | false=>
   repeat (first | refine Yb rfl ?_ | refine Yd rfl ?_)
   refine Za rfl (Za (Yn ..) ?_)
   rw[Zh (n:=k) (by omega)]
   exact hag2 (k + 1) _ _ (by omega) ⟨_,rfl,rfl,by omega,by rw[hv]; simp⟩
 have h2:k=i:=by simp at h2; omega
 subst h2
 rw[List.drop_eq_nil_of_le (by rw[List.length_take]; omega),List.all_nil,Bool.and_true] at hv
 rw[hv] at hu
 refine Za rfl ?_
 refine Xc (fun h3=>?_) (fun h3=>?_)
 ·have h3:ok=false:=by simpa using h3
  subst h3
  rw[hu]; rfl
 ·have h3:ok=true:=by simpa using h3
  subst h3
  rw[Bool.true_and] at hu
  refine Za (Yn ..) ?_
  rw[Zh (n:=k) (by omega)]
  exact hag (k + 1) _ _ (by omega) ⟨rfl,rfl,by omega,hu⟩
theorem foLd(x:Fo):partA true 0 7 (foC x)=some (.agg (foC x)):=rfl
theorem foLd0(x:Fo):partA false 0 1 (foC x)=some (.str x.name):=rfl
theorem foLd6(x:Fo):partA false 6 1 (foC x)=some (iv x.pl):=rfl
theorem c115(b:Bk)(hc:b.cards.length≤big)(hfl:b.formats.length≤big)(k:Nat)(hk:k < b.formats.length)(hf:foFit b.formats[k]=true):PCall prog GL0 115 [bkV b,iv k] (.bool (fmtOk b (b.formats.take k) b.formats[k])):=by
 rw[bigE] at hfl
 refine Zf hP g115_ok rfl rfl ?_
 unfold g115
 refine Ye rfl rfl ?_
 have hix:=fun (s:List ABlk)=>Qo s foC false false 7 b.formats .i64 k hk
 generalize b.formats[k]=f at hf hix ⊢
 simp only[foFit,Bool.and_eq_true,decide_eq_true_eq] at hf
 obtain⟨f0,f1,f2⟩:=hf
 refine Za rfl (Za rfl (Za (hix _) (Za (ldr (foLd f)) (ZB (row:=foC f) (row':=foC f) rfl rfl rfl ?_))))
 generalize hB:([] ++ [ABlk.box [cdV b.cards,foV b.formats]] ++ [ABlk.box (foC f)]:List ABlk)=base
 have hB0:hget base 0=.box [cdV b.cards,foV b.formats]:=by rw[← hB]; rfl
 have hB1:hget base 1=.box (foC f):=by rw[← hB]; rfl
 clear hB
 have htl:(b.formats.take k).length=k:=by rw[List.length_take]; omega
 refine Xm (ι:=Nat) (fun j vs σ=>vs=[iv j]∧σ=base∧j≤k∧((b.formats.take k).any fun g=>g.name == f.name)=(((b.formats.take k).drop j).any fun g=>g.name == f.name)) (fun j=>k - j) 0 ⟨rfl,rfl,by omega,by simp⟩ ?_
 rintro j vs σ again ⟨rfl,rfl,hj,hv⟩ hag
 refine Za rfl ?_
 refine Xc (fun h=>?_) (fun h=>?_)
 ·have h:j < k:=by simpa using h
  have hjx:j < (b.formats.take k).length:=by omega
  have hdr2:(b.formats.take k).drop j=(b.formats.take k)[j] :: (b.formats.take k).drop (j + 1):=by rw[List.drop_eq_getElem_cons hjx]
  rw[List.getElem_take] at hdr2
  rw[hdr2,List.any_cons] at hv
  refine Za rfl (Za (ld hB0 rfl) (Za (Qo _ foC false false 7 b.formats .i64 j (by omega)) (Za rfl (Za (ldr (foLd0 _)) (Za rfl (Za (ld hB1 rfl) (Za (Qf ..) ?_)))))))
  refine Xc (fun h=>?_) (fun h=>?_)
  ·rw[h,Bool.true_or] at hv
   simp[fmtOk,hv]
  ·rw[h,Bool.false_or] at hv
   refine Za (Yn ..) ?_
   rw[Zh (n:=j) (by omega)]
   exact hag (j + 1) _ _ (by omega) ⟨rfl,rfl,by omega,hv⟩
 have h:j=k:=by simp at h; omega
 subst h
 rw[List.drop_eq_nil_of_le (by omega),List.any_nil] at hv
 unfold fmtOk
 rw[hv,htl,Bool.not_false,Bool.true_and]
 clear hv hag hix
 refine Za rfl ?_
 rcases Bool.eq_false_or_eq_true (decide ((j:Int) ≥ 240)) with a1 | a1
 ·rw[a1]
  repeat (first | refine Xa ?_ | refine Zb ?_ | refine Yb rfl ?_ | refine Yc rfl ?_ | refine Yd rfl ?_ | refine Qd rfl ?_ | refine Za (ld hB0 rfl) ?_ | refine Za (ld hB1 rfl) ?_ | refine Za rfl ?_)
  refine Xe ?_
  have a1:¬ j < 240:=by simp at a1; omega
  simp[a1]
 rw[a1]
 repeat (first | refine Xa ?_ | refine Zb ?_ | refine Za (ld hB0 rfl) ?_ | refine Za (ld hB1 rfl) ?_ | refine Za rfl ?_)
 have a1:j < 240:=by simp at a1; omega
 refine Zd (c147 _ f0) rfl g147_ok.plain rfl ?_
 repeat (first | refine Xa ?_ | refine Zb ?_ | refine Za (ld hB0 rfl) ?_ | refine Za (ld hB1 rfl) ?_ | refine Za rfl ?_)
 refine Xc (fun a2=>?_) (fun a2=>?_)
 ·have a2:nameOk f.name=false:=by simpa using a2
  simp[a2]
 have a2:nameOk f.name=true:=by simpa using a2
 rw[decide_eq_true a1,a2,Bool.true_and,Bool.true_and]
 clear a1 a2
 repeat (first | refine Xa ?_ | refine Zb ?_ | refine Za (ld hB0 rfl) ?_ | refine Za (ld hB1 rfl) ?_ | refine Za rfl ?_)
 rcases Bool.eq_false_or_eq_true (decide (f.least ≥ 0)) with b1 | b1
 rotate_left
 ·rw[b1]
  repeat (first | refine Xa ?_ | refine Zb ?_ | refine Yb rfl ?_ | refine Yc rfl ?_ | refine Yd rfl ?_ | refine Qd rfl ?_ | refine Za (ld hB0 rfl) ?_ | refine Za (ld hB1 rfl) ?_ | refine Za rfl ?_)
  have b1:¬ 0≤f.least:=by simpa using b1
  simp[b1]
 rw[b1]
 repeat (first | refine Xa ?_ | refine Zb ?_ | refine Za (ld hB0 rfl) ?_ | refine Za (ld hB1 rfl) ?_ | refine Za rfl ?_)
 have b1:0≤f.least:=by simpa using b1
 rcases Bool.eq_false_or_eq_true (decide (f.least≤f.most)) with b2 | b2
 rotate_left
 ·rw[b2]
  repeat (first | refine Xa ?_ | refine Zb ?_ | refine Yb rfl ?_ | refine Yc rfl ?_ | refine Yd rfl ?_ | refine Qd rfl ?_ | refine Za (ld hB0 rfl) ?_ | refine Za (ld hB1 rfl) ?_ | refine Za rfl ?_)
  have b2:¬ f.least≤f.most:=by simpa using b2
  simp[b2]
 rw[b2]
 repeat (first | refine Xa ?_ | refine Zb ?_ | refine Za (ld hB0 rfl) ?_ | refine Za (ld hB1 rfl) ?_ | refine Za rfl ?_)
 have b2:f.least≤f.most:=by simpa using b2
 rcases Bool.eq_false_or_eq_true (decide (f.most≤60)) with b3 | b3
 rotate_left
 ·rw[b3]
  repeat (first | refine Xa ?_ | refine Zb ?_ | refine Yb rfl ?_ | refine Yc rfl ?_ | refine Yd rfl ?_ | refine Qd rfl ?_ | refine Za (ld hB0 rfl) ?_ | refine Za (ld hB1 rfl) ?_ | refine Za rfl ?_)
  have b3:¬ f.most≤60:=by simpa using b3
  simp[b3]
 rw[b3]
 repeat (first | refine Xa ?_ | refine Zb ?_ | refine Za (ld hB0 rfl) ?_ | refine Za (ld hB1 rfl) ?_ | refine Za rfl ?_)
 have b3:f.most≤60:=by simpa using b3
 rcases Bool.eq_false_or_eq_true (decide (f.copies ≥ 0)) with b4 | b4
 rotate_left
 ·rw[b4]
  repeat (first | refine Xa ?_ | refine Zb ?_ | refine Yb rfl ?_ | refine Yc rfl ?_ | refine Yd rfl ?_ | refine Qd rfl ?_ | refine Za (ld hB0 rfl) ?_ | refine Za (ld hB1 rfl) ?_ | refine Za rfl ?_)
  have b4:¬ 0≤f.copies:=by simpa using b4
  simp[b4]
 rw[b4]
 repeat (first | refine Xa ?_ | refine Zb ?_ | refine Za (ld hB0 rfl) ?_ | refine Za (ld hB1 rfl) ?_ | refine Za rfl ?_)
 have b4:0≤f.copies:=by simpa using b4
 rcases Bool.eq_false_or_eq_true (decide (f.copies≤999)) with b5 | b5
 rotate_left
 ·rw[b5]
  repeat (first | refine Xa ?_ | refine Zb ?_ | refine Yb rfl ?_ | refine Yc rfl ?_ | refine Yd rfl ?_ | refine Qd rfl ?_ | refine Za (ld hB0 rfl) ?_ | refine Za (ld hB1 rfl) ?_ | refine Za rfl ?_)
  have b5:¬ f.copies≤999:=by simpa using b5
  simp[b5]
 rw[b5]
 repeat (first | refine Xa ?_ | refine Zb ?_ | refine Za (ld hB0 rfl) ?_ | refine Za (ld hB1 rfl) ?_ | refine Za rfl ?_)
 have b5:f.copies≤999:=by simpa using b5
 simp only[b1,b2,b3,b4,b5,decide_true,Bool.true_and]
 refine Zd (c148 b hc _ f1) rfl g148_ok.plain rfl ?_
 repeat (first | refine Xa ?_ | refine Zb ?_ | refine Za (ld hB0 rfl) ?_ | refine Za (ld hB1 rfl) ?_ | refine Za rfl ?_)
 rcases Bool.eq_false_or_eq_true (nmsGo b.cards [] f.banned) with c1 | c1
 rotate_left
 ·rw[c1]
  repeat (first | refine Xa ?_ | refine Zb ?_ | refine Yb rfl ?_ | refine Yc rfl ?_ | refine Yd rfl ?_ | refine Qd rfl ?_ | refine Za (ld hB0 rfl) ?_ | refine Za (ld hB1 rfl) ?_ | refine Za rfl ?_)
  simp[c1]
 rw[c1]
 repeat (first | refine Xa ?_ | refine Zb ?_ | refine Za (ld hB0 rfl) ?_ | refine Za (ld hB1 rfl) ?_ | refine Za rfl ?_)
 refine Zd (c148 b hc _ f2) rfl g148_ok.plain rfl ?_
 repeat (first | refine Xa ?_ | refine Zb ?_ | refine Za (ld hB0 rfl) ?_ | refine Za (ld hB1 rfl) ?_ | refine Za rfl ?_)
 simp[c1]
theorem c67(b:Bk)(hf:bkFit b=true):PCall prog GL0 67 [bkV b] (.agg [iv (bkR b).1,iv (bkR b).2]):=by
 simp only[bkFit,Bool.and_eq_true,decide_eq_true_eq] at hf
 obtain⟨f0,f1,f2⟩:=hf
 have f12:=f1
 rw[bigE] at f12
 have fc:b.cards.length≤big:=by simp only[ZM,Bool.and_eq_true,decide_eq_true_eq] at f0; exact f0.1
 refine Zf hP g67_ok rfl rfl ?_
 unfold g67
 refine Ye rfl rfl (Ye rfl rfl (Za rfl (Za rfl ?_)))
 refine Zd (c113 _ f0) rfl g113_ok.plain rfl ?_
 refine ZB rfl rfl rfl (Za rfl (Za rfl (Za rfl ?_)))
 unfold bkR
 refine Xc (fun h=>?_) (fun h=>?_)
 ·rw[if_pos (by simpa using h)]
  refine Za rfl (Ye rfl rfl (Yj rfl rfl))
 rw[if_neg (by simpa using h)]
 refine Za rfl (Za rfl ?_)
 refine Zd (c114 _ f0) rfl g114_ok.plain rfl ?_
 refine ZB rfl rfl rfl (Za rfl (Za rfl (Za rfl ?_)))
 refine Xc (fun h=>?_) (fun h=>?_)
 ·rw[if_pos (by simpa using h)]
  refine Za rfl (Ye rfl rfl (Yj rfl rfl))
 rw[if_neg (by simpa using h)]
 generalize cdsChk b.cards=p1
 generalize cdsL b.cards=p2
 refine Xm (ι:=Nat) (fun i vs σ=>vs=[iv i]∧σ=[] ++ [ABlk.box [cdV b.cards,foV b.formats]] ++ [.box [iv 0,iv 0]] ++ [.box [iv p1.1,iv p1.2]] ++ [.box [iv p2.1,iv p2.2]]∧i≤b.formats.length∧fmtGo b [] b.formats=fmtGo b (b.formats.take i) (b.formats.drop i)) (fun i=>b.formats.length - i) 0 ⟨rfl,rfl,by omega,by simp⟩ ?_
 rintro i vs σ again ⟨rfl,rfl,hi,hu⟩ hag
 refine Za rfl (Za rfl (Za rfl (Za rfl ?_)))
 refine Xc (fun h=>?_) (fun h=>?_)
 rotate_left
 ·have h:i=b.formats.length:=by simp at h; omega
  subst h
  rw[List.drop_length,fmtGo] at hu
  refine Za rfl (Ye rfl rfl (Yj rfl ?_))
  rw[hu]
 have h:i < b.formats.length:=by simpa using h
 have hdr:b.formats.drop i=b.formats[i] :: b.formats.drop (i + 1):=by rw[List.drop_eq_getElem_cons h]
 have hix:=fun (s:List ABlk)=>Qo s foC false false 7 b.formats .i64 i h
 have htk:b.formats.take (i + 1)=b.formats.take i ++ [b.formats[i]]:=Zw b.formats i h
 have hmy:=c115 b fc f1 i h (List.all_eq_true.1 f2 _ (List.getElem_mem h))
 generalize b.formats[i]=f at hdr hix htk hmy
 rw[hdr,fmtGo,← htk] at hu
 refine Za rfl ?_
 refine Zd hmy rfl g115_ok.plain rfl ?_
 refine Za rfl ?_
 refine Xc (fun h3=>?_) (fun h3=>?_)
 ·rw[if_neg (by simpa using h3)] at hu
  refine Za rfl (Za rfl (Za (hix _) (Za rfl (Za (ldr (foLd6 _)) (Za rfl (Ye rfl rfl (Yj rfl ?_)))))))
  rw[hu]
 ·rw[if_pos (by simpa using h3)] at hu
  refine Za (Yn ..) ?_
  rw[Zh (n:=i) (by omega)]
  exact hag (i + 1) _ _ (by omega) ⟨rfl,rfl,by omega,hu⟩
end Go.Ah.Tz
end
section
namespace Go.Ah.Tz
open Go.Proofs.Tryz (prog)
structure NmAt (row:List AVal) (j:Nat) (x:Nm):Prop where
 h0:partA false (j + 0) 1 row=some (iv8 x.op)
 h1:partA false (j + 1) 1 row=some (iv x.n)
 h2:partA false (j + 2) 1 row=some (iv8 x.who)
 h3:partA false (j + 3) 1 row=some (.rsl false false 4 (x.kids.map nmC))
theorem nmAt(x:Nm):NmAt (nmC x) 0 x:=by rw[QD]; exact⟨rfl,rfl,rfl,rfl⟩
theorem nmAt2(x:Ef):NmAt (efC x) 2 x.n:=by rw[XF]; exact⟨rfl,rfl,rfl,rfl⟩
attribute [local irreducible] Ans.rd Ans.pu Ans.wr Ans.dr Ans.gr Ans.gw Ans.gl Ans.gd Ans.opt joinK W
set_option maxHeartbeats 1000000
theorem c210(w:Int):PCall prog GL0 210 [iv8 w] (.bool (cntOp w)):=by
 refine Zf hP g210_ok rfl rfl ?_
 unfold g210
 refine Za (Zg ..) ?_
 refine Qi fun k1 hk1=>?_
 have kk:∀ c,c=cntOp w→k1 [.bool c] []:=by
  rintro c hc
  rw[hk1]
  refine Xc (fun h=>?_) (fun h=>?_)
  ·rw[← hc,h]
  ·rw[← hc,h]
 clear hk1
 refine Xc (fun a0=>kk _ ?_) (fun a0=>?_)
 ·simp at a0; simp[cntOp,a0]
 refine Za (Zg ..) (Xc (fun a1=>kk _ ?_) (fun a1=>?_))
 ·simp at a1; simp[cntOp,a1]
 refine Za (Zg ..) (Xc (fun a2=>kk _ ?_) (fun a2=>?_))
 ·simp at a2; simp[cntOp,a2]
 refine Za (Zg ..) (Xc (fun a3=>kk _ ?_) (fun a3=>?_))
 ·simp at a3; simp[cntOp,a3]
 refine Za (Zg ..) (kk _ ?_)
 simp at a0 a1 a2 a3
 simp[cntOp,a0,a1,a2,a3]
theorem c212(w:Int):PCall prog GL0 212 [iv8 w] (.bool (sdOp w)):=by
 refine Zf hP g212_ok rfl rfl ?_
 unfold g212
 refine Za (Zg ..) ?_
 rcases Bool.eq_false_or_eq_true (decide (w=0)) with h1 | h1
 ·rw[h1]
  repeat (first | refine Xa ?_ | refine Zb ?_ | refine Yb rfl ?_ | refine Yc rfl ?_ | refine Yd rfl ?_ | refine Qd rfl ?_ | refine Za rfl ?_)
  simp at h1; simp[sdOp,h1]
 rw[h1]
 repeat (first | refine Xa ?_ | refine Zb ?_ | refine Za rfl ?_)
 have h1:w≠0:=by simpa using h1
 exact congrArg AVal.bool (by rw[Bool.eq_iff_iff]; simp[sdOp,h1])
theorem c211'(u:AVal)(t:Bool):∀ (k:Nat) (x:Nm) (row:List AVal) (j:Nat),NmAt row j x→SizeOf.sizeOf x≤k→nmFit x=true→PCall prog GL0 211 [.rptr [u,.bool t] 0,.rptr row j] (.bool (nmOk t x))
 | 0,x,_,_,_,h,_=>by cases x; simp at h
 | k + 1,x,row,j,hx,hk,hf=>by
  refine Zf hP g211_ok rfl rfl ?_
  unfold g211
  rw[Qb5]
  have hlen:=Z4 hf
  rw[bigE] at hlen
  repeat (first | refine Za (ldr hx.h0) ?_ | refine Za (ldr hx.h1) ?_ | refine Za (ldr hx.h2) ?_ | refine Za (ldr hx.h3) ?_ | refine Za (Zg ..) ?_ | refine Za (ldr (row:=[u,.bool t]) rfl) ?_ | refine Za rfl ?_)
  refine Qi fun k11 hk11=>?_
  have bad:∀ b1 b2 b3:Bool,(b1 && (b2 && b3))=false→AVal.bool false=AVal.bool (b1 && (b2 && b3)):=by
   intro b1 b2 b3 h; rw[h]
  have kk:∀ (p o:Bool) (kd:Nat),kd=nmK x.op→(0≤x.op∧x.op≤12)→(p && o)=nmEnd t x.op x.n x.who→k11 [.bool p,.bool o,iv kd] []:=by
   rintro p o kd rfl hop hpo
   rw[hk11]; clear hk11 k11
   repeat (first | refine Za (ldr hx.h0) ?_ | refine Za (ldr hx.h1) ?_ | refine Za (ldr hx.h2) ?_ | refine Za (ldr hx.h3) ?_ | refine Za (Zg ..) ?_ | refine Za (ldr (row:=[u,.bool t]) rfl) ?_ | refine Za rfl ?_)
   cases p with
   | false=>
    repeat (first | refine Xa ?_ | refine Zb ?_ | refine Yb rfl ?_ | refine Yc rfl ?_ | refine Yd rfl ?_ | refine Qd rfl ?_ | refine Za (ldr hx.h0) ?_ | refine Za (ldr hx.h1) ?_ | refine Za (ldr hx.h2) ?_ | refine Za (ldr hx.h3) ?_ | refine Za (Zg ..) ?_ | refine Za (ldr (row:=[u,.bool t]) rfl) ?_ | refine Za rfl ?_)
    refine Xe (bad _ _ _ ?_)
    rw[← hpo]; simp
   | true=>
    repeat (first | refine Xa ?_ | refine Zb ?_ | refine Za (ldr hx.h0) ?_ | refine Za (ldr hx.h1) ?_ | refine Za (ldr hx.h2) ?_ | refine Za (ldr hx.h3) ?_ | refine Za (Zg ..) ?_ | refine Za (ldr (row:=[u,.bool t]) rfl) ?_ | refine Za rfl ?_)
    cases o with
    | false=>
     repeat (first | refine Xa ?_ | refine Zb ?_ | refine Yb rfl ?_ | refine Yc rfl ?_ | refine Yd rfl ?_ | refine Qd rfl ?_ | refine Za (ldr hx.h0) ?_ | refine Za (ldr hx.h1) ?_ | refine Za (ldr hx.h2) ?_ | refine Za (ldr hx.h3) ?_ | refine Za (Zg ..) ?_ | refine Za (ldr (row:=[u,.bool t]) rfl) ?_ | refine Za rfl ?_)
     refine Xe (bad _ _ _ ?_)
     rw[← hpo]; simp
    | true=>
     repeat (first | refine Xa ?_ | refine Zb ?_ | refine Za (ldr hx.h0) ?_ | refine Za (ldr hx.h1) ?_ | refine Za (ldr hx.h2) ?_ | refine Za (ldr hx.h3) ?_ | refine Za (Zg ..) ?_ | refine Za (ldr (row:=[u,.bool t]) rfl) ?_ | refine Za rfl ?_)
     refine Xc (fun h=>bad _ _ _ ?_) (fun h=>?_)
     ·have:nmTop t x.op x.n x.who x.kids.length=false:=by
       rw[Bool.eq_false_iff]; intro hh; simp[nmTop] at hh; simp at h; omega
      rw[this]; rfl
     have ht:nmTop t x.op x.n x.who x.kids.length=true:=by simp at h; simp[nmTop]; omega
     rw[ht,← hpo,Bool.true_and,Bool.and_self,Bool.and_true]
     repeat (first | refine Za (ldr hx.h0) ?_ | refine Za (ldr hx.h1) ?_ | refine Za (ldr hx.h2) ?_ | refine Za (ldr hx.h3) ?_ | refine Za (Zg ..) ?_ | refine Za (ldr (row:=[u,.bool t]) rfl) ?_ | refine Za rfl ?_)
     refine Xm (ι:=Nat) (fun i vs σ=>vs=[iv i]∧σ=[]∧i≤x.kids.length∧nmsOk t x.kids=nmsOk t (x.kids.drop i)) (fun i=>x.kids.length - i) 0 ⟨rfl,rfl,by omega,by simp⟩ ?_
     rintro i vs σ again ⟨rfl,rfl,hi,hu⟩ hag
     refine Za rfl ?_
     refine Xc (fun h=>?_) (fun h=>?_)
     ·have h:i < x.kids.length:=by simpa using h
      have hdr:x.kids.drop i=x.kids[i] :: x.kids.drop (i + 1):=by rw[List.drop_eq_getElem_cons h]
      rw[hdr,nmsOk] at hu
      have hm:x.kids[i]∈x.kids:=List.getElem_mem h
      refine Za rfl (Za rfl (Za (ldr hx.h3) (Za (Qo _ nmC _ _ _ x.kids _ i h) ?_)))
      refine Zd (c211' u t k _ _ 0 (nmAt _) (by have:=Zak hm; omega) (XV hf hm)) rfl g211_ok.plain rfl ?_
      refine Za rfl ?_
      refine Xc (fun h4=>?_) (fun h4=>?_)
      ·have h4:nmOk t x.kids[i]=false:=by simpa using h4
       rw[hu,h4]; rfl
      ·have h4:nmOk t x.kids[i]=true:=by simpa using h4
       rw[h4,Bool.true_and] at hu
       refine Za (Yn ..) ?_
       rw[Zh (n:=i) (by omega)]
       exact hag (i + 1) _ _ (by omega) ⟨rfl,rfl,by omega,hu⟩
     have h:i=x.kids.length:=by simp at h; omega
     subst h
     rw[List.drop_length,nmsOk] at hu
     rw[hu]
  clear hk11
  repeat (first | refine Za (ldr hx.h0) ?_ | refine Za (ldr hx.h1) ?_ | refine Za (ldr hx.h2) ?_ | refine Za (ldr hx.h3) ?_ | refine Za (Zg ..) ?_ | refine Za (ldr (row:=[u,.bool t]) rfl) ?_ | refine Za rfl ?_)
  refine Xc (fun a0=>?_) (fun a0=>?_)
  ·have a0:x.op=0:=by simpa using a0
   repeat (first | refine Za (ldr hx.h0) ?_ | refine Za (ldr hx.h1) ?_ | refine Za (ldr hx.h2) ?_ | refine Za (ldr hx.h3) ?_ | refine Za (Zg ..) ?_ | refine Za (ldr (row:=[u,.bool t]) rfl) ?_ | refine Za rfl ?_)
   have e:nmEnd t x.op x.n x.who=((decide (0≤x.n) && decide (x.n≤999)) && decide (x.who=0)):=by simp[nmEnd,a0,Bool.and_assoc]
   rcases Bool.eq_false_or_eq_true (decide (x.n ≥ 0)) with h | h
   ·rw[h]
    repeat (first | refine Xa ?_ | refine Zb ?_ | refine Za (ldr hx.h0) ?_ | refine Za (ldr hx.h1) ?_ | refine Za (ldr hx.h2) ?_ | refine Za (ldr hx.h3) ?_ | refine Za (Zg ..) ?_ | refine Za (ldr (row:=[u,.bool t]) rfl) ?_ | refine Za rfl ?_)
    refine kk _ _ 0 (by simp[nmK,a0]) (by omega) ?_
    simp at h; rw[e]; simp[h]
   ·rw[h]
    repeat (first | refine Xa ?_ | refine Zb ?_ | refine Yb rfl ?_ | refine Yc rfl ?_ | refine Yd rfl ?_ | refine Qd rfl ?_ | refine Za (ldr hx.h0) ?_ | refine Za (ldr hx.h1) ?_ | refine Za (ldr hx.h2) ?_ | refine Za (ldr hx.h3) ?_ | refine Za (Zg ..) ?_ | refine Za (ldr (row:=[u,.bool t]) rfl) ?_ | refine Za rfl ?_)
    refine kk _ _ 0 (by simp[nmK,a0]) (by omega) ?_
    simp at h; rw[e]; simp; intro h1; omega
  have a0:x.op≠0:=by simpa using a0
  repeat (first | refine Za (ldr hx.h0) ?_ | refine Za (ldr hx.h1) ?_ | refine Za (ldr hx.h2) ?_ | refine Za (ldr hx.h3) ?_ | refine Za (Zg ..) ?_ | refine Za (ldr (row:=[u,.bool t]) rfl) ?_ | refine Za rfl ?_)
  refine Qi fun k25 hk25=>?_
  have m1:∀ c,c=decide (x.op=1∨x.op=2∨x.op=3∨x.op=4)→k25 [.bool c] []:=by
   rintro c hc
   rw[hk25]; clear hk25 k25
   refine Xc (fun h=>?_) (fun h=>?_)
   ·rw[h] at hc
    have a1:x.op=1∨x.op=2∨x.op=3∨x.op=4:=by simpa using hc.symm
    repeat (first | refine Za (ldr hx.h0) ?_ | refine Za (ldr hx.h1) ?_ | refine Za (ldr hx.h2) ?_ | refine Za (ldr hx.h3) ?_ | refine Za (Zg ..) ?_ | refine Za (ldr (row:=[u,.bool t]) rfl) ?_ | refine Za rfl ?_)
    refine Zd (c212 _) rfl g212_ok.plain rfl ?_
    refine kk _ _ 0 (by simp[nmK]; omega) (by omega) ?_
    rw[nmEnd,if_neg a0,if_pos (by omega)]
   rw[h] at hc
   have a1:¬ (x.op=1∨x.op=2∨x.op=3∨x.op=4):=by simpa using hc.symm
   have e:nmEnd t x.op x.n x.who=(decide (x.n=0) && (decide (x.who=0) && (decide (x.op≠7) || t)))∨¬ (0≤x.op∧x.op≤12):=by
    by_cases hr:0≤x.op∧x.op≤12
    ·left; rw[nmEnd,if_neg a0,if_neg (by omega)]
    ·right; exact hr
   repeat (first | refine Za (ldr hx.h0) ?_ | refine Za (ldr hx.h1) ?_ | refine Za (ldr hx.h2) ?_ | refine Za (ldr hx.h3) ?_ | refine Za (Zg ..) ?_ | refine Za (ldr (row:=[u,.bool t]) rfl) ?_ | refine Za rfl ?_)
   refine Qi fun k35 hk35=>?_
   have m2:∀ c,c=decide (x.op=5∨x.op=6)→k35 [.bool c] []:=by
    rintro c hc
    rw[hk35]; clear hk35 k35
    refine Xc (fun h=>?_) (fun h=>?_)
    ·rw[h] at hc
     have a2:x.op=5∨x.op=6:=by simpa using hc.symm
     refine kk _ _ 0 (by simp[nmK]; omega) (by omega) ?_
     rcases e with e | e
     ·rw[e]; simp[show x.op≠7 by omega]
     ·omega
    rw[h] at hc
    have a2:¬ (x.op=5∨x.op=6):=by simpa using hc.symm
    repeat (first | refine Za (ldr hx.h0) ?_ | refine Za (ldr hx.h1) ?_ | refine Za (ldr hx.h2) ?_ | refine Za (ldr hx.h3) ?_ | refine Za (Zg ..) ?_ | refine Za (ldr (row:=[u,.bool t]) rfl) ?_ | refine Za rfl ?_)
    refine Xc (fun a3=>?_) (fun a3=>?_)
    ·have a3:x.op=7:=by simpa using a3
     rcases e with e | e
     ·rcases Bool.eq_false_or_eq_true (decide (x.who=0)) with h | h
      ·rw[h]
       repeat (first | refine Xa ?_ | refine Zb ?_ | refine Za (ldr hx.h0) ?_ | refine Za (ldr hx.h1) ?_ | refine Za (ldr hx.h2) ?_ | refine Za (ldr hx.h3) ?_ | refine Za (Zg ..) ?_ | refine Za (ldr (row:=[u,.bool t]) rfl) ?_ | refine Za rfl ?_)
       refine kk _ _ 0 (by simp[nmK,a3]) (by omega) ?_
       rw[e,h]; simp[a3]
      ·rw[h]
       repeat (first | refine Xa ?_ | refine Zb ?_ | refine Yb rfl ?_ | refine Yc rfl ?_ | refine Yd rfl ?_ | refine Qd rfl ?_ | refine Za (ldr hx.h0) ?_ | refine Za (ldr hx.h1) ?_ | refine Za (ldr hx.h2) ?_ | refine Za (ldr hx.h3) ?_ | refine Za (Zg ..) ?_ | refine Za (ldr (row:=[u,.bool t]) rfl) ?_ | refine Za rfl ?_)
       refine kk _ _ 0 (by simp[nmK,a3]) (by omega) ?_
       rw[e,h]; simp
     ·omega
    have a3:x.op≠7:=by simpa using a3
    repeat (first | refine Za (ldr hx.h0) ?_ | refine Za (ldr hx.h1) ?_ | refine Za (ldr hx.h2) ?_ | refine Za (ldr hx.h3) ?_ | refine Za (Zg ..) ?_ | refine Za (ldr (row:=[u,.bool t]) rfl) ?_ | refine Za rfl ?_)
    refine Qi fun k45 hk45=>?_
    have m3:∀ c,c=decide (x.op=8∨x.op=9∨x.op=10∨x.op=11∨x.op=12)→k45 [.bool c] []:=by
     rintro c hc
     rw[hk45]; clear hk45 k45
     refine Xc (fun h=>?_) (fun h=>?_)
     ·rw[h] at hc
      have a4:x.op=8∨x.op=9∨x.op=10∨x.op=11∨x.op=12:=by simpa using hc.symm
      refine kk _ _ 2 (by simp[nmK]; omega) (by omega) ?_
      rcases e with e | e
      ·rw[e]; simp[a3]
      ·omega
     ·rw[h] at hc
      have a4:¬ (x.op=8∨x.op=9∨x.op=10∨x.op=11∨x.op=12):=by simpa using hc.symm
      refine bad _ _ _ ?_
      have:nmTop t x.op x.n x.who x.kids.length=false:=by
       rw[Bool.eq_false_iff]; intro hh; simp[nmTop] at hh; omega
      rw[this]; rfl
    clear hk45
    refine Xc (fun c1=>m3 _ ?_) (fun c1=>?_)
    ·simp at c1; simp[c1]
    refine Za (Zg ..) (Xc (fun c2=>m3 _ ?_) (fun c2=>?_))
    ·simp at c2; simp[c2]
    refine Za (Zg ..) (Xc (fun c3=>m3 _ ?_) (fun c3=>?_))
    ·simp at c3; simp[c3]
    refine Za (Zg ..) (Xc (fun c4=>m3 _ ?_) (fun c4=>?_))
    ·simp at c4; simp[c4]
    refine Za (Zg ..) (m3 _ ?_)
    simp at c1 c2 c3 c4; simp[c1,c2,c3,c4]
   clear hk35
   refine Xc (fun c1=>m2 _ ?_) (fun c1=>?_)
   ·simp at c1; simp[c1]
   refine Za (Zg ..) (m2 _ ?_)
   simp at c1; simp[c1]
  clear hk25
  refine Xc (fun c1=>m1 _ ?_) (fun c1=>?_)
  ·simp at c1; simp[c1]
  refine Za (Zg ..) (Xc (fun c2=>m1 _ ?_) (fun c2=>?_))
  ·simp at c2; simp[c2]
  refine Za (Zg ..) (Xc (fun c3=>m1 _ ?_) (fun c3=>?_))
  ·simp at c3; simp[c3]
  refine Za (Zg ..) (m1 _ ?_)
  simp at c1 c2 c3; simp[c1,c2,c3]
theorem c211(u:AVal)(t:Bool)(x:Nm)(row:List AVal)(j:Nat)(hx:NmAt row j x)(hf:nmFit x=true):PCall prog GL0 211 [.rptr [u,.bool t] 0,.rptr row j] (.bool (nmOk t x)):=c211' u t _ x row j hx (Nat.le_refl _) hf
end Go.Ah.Tz
end
section
namespace Go.Ah.Tz
open Go.Proofs.Tryz (prog)
def tlook(t:Tx):List (Tx × Bool)→Option Bool
 | []=>none
 | p :: l=>if t == p.1 then some p.2 else tlook t l
def mpE(l:List (Tx × Bool)):List (AVal × AVal):=l.map fun p=>(AVal.str p.1,AVal.bool p.2)
theorem Z5(t:Tx):∀ l,alook (.str t) (mpE l)=some ((tlook t l).map AVal.bool)
 | []=>rfl
 | p :: l=>by
  simp only[mpE,List.map_cons,alook,keyEq,tlook]
  cases h:t == p.1 with
  | true=>rfl
  | false=>exact Z5 t l
def chkM(l:List (Tx × Bool))(t:Bool):List AVal:=[.rmap (mpE l),.bool t]
theorem ZQ(l:List (Tx × Bool))(t:Tx)(σ:List ABlk):Xt true true (.bool false) [.rmap (mpE l),.str t] σ=.ok (.tup [.bool ((tlook t l).getD false),.bool (tlook t l).isSome]) [] []:=by
 show (match alook (.str t) (mpE l) with
  | some r=>SRes.ok (lookV true (.bool false) r) [] []
  | none=>.stop)=_
 rw[Z5]
 cases tlook t l <;> rfl
theorem Zm(l:List (Tx × Bool))(t:Tx)(σ:List ABlk):Xt true false (.bool false) [.rmap (mpE l),.str t] σ=.ok (.bool ((tlook t l).getD false)) [] []:=by
 show (match alook (.str t) (mpE l) with
  | some r=>SRes.ok (lookV false (.bool false) r) [] []
  | none=>.stop)=_
 rw[Z5]
 cases tlook t l <;> rfl
def Units(l:List (Tx × Bool))(cs:List Cd):Prop:=∀ t u,findC cs t u=match tlook t l with
 | none=>false
 | some b=>b || !u
structure CnAt (row:List AVal) (j:Nat) (x:Cn):Prop where
 h0:partA false (j + 0) 1 row=some (iv8 x.op)
 h1:partA false (j + 1) 1 row=some (iv8 x.who)
 h2:partA false (j + 2) 1 row=some (.str x.name)
 h3:partA false (j + 3) 1 row=some (.rsl false false 4 (x.nums.map nmC))
 h4:partA false (j + 4) 1 row=some (.rsl false false 5 (x.kids.map cnC))
theorem cnAt(x:Cn):CnAt (cnC x) 0 x:=by rw[QL]; exact⟨rfl,rfl,rfl,rfl,rfl⟩
theorem cnAt7(x:Ef):CnAt (efC x) 7 x.c:=by rw[XF]; exact⟨rfl,rfl,rfl,rfl,rfl⟩
attribute [local irreducible] Ans.rd Ans.pu Ans.wr Ans.dr Ans.gr Ans.gw Ans.gl Ans.gd Ans.opt joinK W
set_option maxHeartbeats 1000000
theorem Qcd{P:Program}{GL:Globs}{c d:Bool}{K:AVal→Prop}{r1:SRes}{f2 f3 f4 f5:AVal→SRes}{σ:List ABlk}{v1 v2 v3 v4:AVal}{q1 q2 q3 q4 q5:List Nat}(h1:r1=.ok v1 q1 [])(h2:f2 v1=.ok v2 q2 [])(h3:f3 v2=.ok v3 q3 [])(h4:f4 v3=.ok v4 q4 [])(h5:f5 v4=.ok (.bool d) q5 [])(hK:K (.bool (c && d))) :
  (W P GL).gr (.bool c) true (fun k=>(W P GL).rd r1 k) fun t1=>(W P GL).gr (.bool c) true (fun k=>(W P GL).rd (f2 t1) k) fun t2=>(W P GL).gr (.bool c) true (fun k=>(W P GL).rd (f3 t2) k) fun t3=>(W P GL).gr (.bool c) true (fun k=>(W P GL).rd (f4 t3) k) fun t4=>(W P GL).gr (.bool c) true (fun k=>(W P GL).rd (f5 t4) k) fun t5=>(W P GL).rd (Qc [.bool c,t5,.bool false] σ) K:=by
 cases c with
 | true=>exact Xa (Za h1 (Xa (Za h2 (Xa (Za h3 (Xa (Za h4 (Xa (Za h5 (Za rfl hK))))))))))
 | false=>exact Yb rfl (Yb rfl (Yb rfl (Yb rfl (Yb rfl (Za rfl hK)))))
theorem c213'(l:List (Tx × Bool))(cs:List Cd)(hU:Units l cs)(t:Bool):∀ (k:Nat) (x:Cn) (row:List AVal) (j:Nat),CnAt row j x→SizeOf.sizeOf x≤k→cnFit x=true→PCall prog GL0 213 [.rptr (chkM l t) 0,.rptr row j] (.bool (cnOk cs t x))
 | 0,x,_,_,_,h,_=>by cases x; simp at h
 | k + 1,x,row,j,hx,hk,hf=>by
  refine Zf hP g213_ok rfl rfl ?_
  unfold g213
  rw[QbI]
  have hl1:=XN hf
  have hl2:=YN hf
  rw[bigE] at hl1 hl2
  refine Za rfl (Za rfl (Za (ldr hx.h1) (Za (Zg ..) ?_)))
  refine Qcd rfl rfl rfl (ldr hx.h2) (Qf ..) ?_
  refine Za rfl (Za rfl (Za (ldr hx.h0) ?_))
  have bad:∀ b1 b2 b3 b4:Bool,(b1 && (b2 && (b3 && b4)))=false→AVal.bool false=AVal.bool (b1 && (b2 && (b3 && b4))):=by
   intro b1 b2 b3 b4 h; rw[h]
  have badT:¬ (0≤x.op∧x.op≤6∧x.nums.length=cnK3 x.op∧x.kids.length=cnK4 x.op)→AVal.bool false=AVal.bool (cnTop x.op x.nums.length x.kids.length && (nmsOk t x.nums && (cnsOk cs t x.kids && cnEnd cs x.op x.who x.name))):=by
   intro hn
   have:cnTop x.op x.nums.length x.kids.length=false:=by
    rw[Bool.eq_false_iff]; intro hh; simp[cnTop] at hh; exact hn hh
   rw[this]; rfl
  refine Qi fun k13 hk13=>?_
  have kk:∀ (ok:Bool) (k3 k4:Nat),k3=cnK3 x.op→k4=cnK4 x.op→(0≤x.op∧x.op≤6)→ok=cnEnd cs x.op x.who x.name→k13 [.bool ok,iv k3,iv k4] []:=by
   rintro ok k3 k4 rfl rfl hop hok
   rw[hk13]; clear hk13 k13
   repeat (first | refine Za (ldr hx.h0) ?_ | refine Za (ldr hx.h1) ?_ | refine Za (ldr hx.h2) ?_ | refine Za (ldr hx.h3) ?_ | refine Za (ldr hx.h4) ?_ | refine Za (Zg ..) ?_ | refine Za (Qf ..) ?_ | refine Za (ldr (row:=chkM l t) rfl) ?_ | refine Za (ZQ ..) ?_ | refine Za rfl ?_)
   cases ok with
   | false=>
    repeat (first | refine Xa ?_ | refine Zb ?_ | refine Yb rfl ?_ | refine Yc rfl ?_ | refine Yd rfl ?_ | refine Qd rfl ?_ | refine Za (ldr hx.h0) ?_ | refine Za (ldr hx.h1) ?_ | refine Za (ldr hx.h2) ?_ | refine Za (ldr hx.h3) ?_ | refine Za (ldr hx.h4) ?_ | refine Za (Zg ..) ?_ | refine Za (Qf ..) ?_ | refine Za (ldr (row:=chkM l t) rfl) ?_ | refine Za (ZQ ..) ?_ | refine Za rfl ?_)
    refine Xe (bad _ _ _ _ ?_)
    rw[← hok]; simp
   | true=>
    repeat (first | refine Xa ?_ | refine Zb ?_ | refine Za (ldr hx.h0) ?_ | refine Za (ldr hx.h1) ?_ | refine Za (ldr hx.h2) ?_ | refine Za (ldr hx.h3) ?_ | refine Za (ldr hx.h4) ?_ | refine Za (Zg ..) ?_ | refine Za (Qf ..) ?_ | refine Za (ldr (row:=chkM l t) rfl) ?_ | refine Za (ZQ ..) ?_ | refine Za rfl ?_)
    rcases Bool.eq_false_or_eq_true (((x.nums.map nmC).length:Int) != (cnK3 x.op:Int)) with h3 | h3
    ·rw[h3]
     repeat (first | refine Xa ?_ | refine Zb ?_ | refine Yb rfl ?_ | refine Yc rfl ?_ | refine Yd rfl ?_ | refine Qd rfl ?_ | refine Za (ldr hx.h0) ?_ | refine Za (ldr hx.h1) ?_ | refine Za (ldr hx.h2) ?_ | refine Za (ldr hx.h3) ?_ | refine Za (ldr hx.h4) ?_ | refine Za (Zg ..) ?_ | refine Za (Qf ..) ?_ | refine Za (ldr (row:=chkM l t) rfl) ?_ | refine Za (ZQ ..) ?_ | refine Za rfl ?_)
     refine Xe (badT ?_)
     simp at h3; omega
    rw[h3]
    repeat (first | refine Xa ?_ | refine Zb ?_ | refine Za (ldr hx.h0) ?_ | refine Za (ldr hx.h1) ?_ | refine Za (ldr hx.h2) ?_ | refine Za (ldr hx.h3) ?_ | refine Za (ldr hx.h4) ?_ | refine Za (Zg ..) ?_ | refine Za (Qf ..) ?_ | refine Za (ldr (row:=chkM l t) rfl) ?_ | refine Za (ZQ ..) ?_ | refine Za rfl ?_)
    refine Xc (fun h4=>badT ?_) (fun h4=>?_)
    ·simp at h4; omega
    simp at h3 h4
    have ht:cnTop x.op x.nums.length x.kids.length=true:=by simp[cnTop]; omega
    rw[ht,← hok,Bool.true_and,Bool.and_true]
    repeat (first | refine Za (ldr hx.h0) ?_ | refine Za (ldr hx.h1) ?_ | refine Za (ldr hx.h2) ?_ | refine Za (ldr hx.h3) ?_ | refine Za (ldr hx.h4) ?_ | refine Za (Zg ..) ?_ | refine Za (Qf ..) ?_ | refine Za (ldr (row:=chkM l t) rfl) ?_ | refine Za (ZQ ..) ?_ | refine Za rfl ?_)
    refine Xm (ι:=Nat) (fun i vs σ=>vs=[iv i]∧σ=[]∧i≤x.nums.length∧nmsOk t x.nums=nmsOk t (x.nums.drop i)) (fun i=>x.nums.length - i) 0 ⟨rfl,rfl,by omega,by simp⟩ ?_
    rintro i vs σ again ⟨rfl,rfl,hi,hu⟩ hag
    refine Za rfl ?_
    refine Xc (fun h=>?_) (fun h=>?_)
    ·have h:i < x.nums.length:=by simpa using h
     have hdr:x.nums.drop i=x.nums[i] :: x.nums.drop (i + 1):=by rw[List.drop_eq_getElem_cons h]
     rw[hdr,nmsOk] at hu
     have hm:x.nums[i]∈x.nums:=List.getElem_mem h
     refine Za rfl (Za rfl (Za (ldr hx.h3) (Za (Qo _ nmC _ _ _ x.nums _ i h) ?_)))
     refine Zd (c211 _ t _ _ 0 (nmAt _) (QW hf hm)) rfl g211_ok.plain rfl ?_
     refine Za rfl ?_
     refine Xc (fun h4=>?_) (fun h4=>?_)
     ·have h4:nmOk t x.nums[i]=false:=by simpa using h4
      rw[hu,h4]; rfl
     ·have h4:nmOk t x.nums[i]=true:=by simpa using h4
      rw[h4,Bool.true_and] at hu
      refine Za (Yn ..) ?_
      rw[Zh (n:=i) (by omega)]
      exact hag (i + 1) _ _ (by omega) ⟨rfl,rfl,by omega,hu⟩
    have h:i=x.nums.length:=by simp at h; omega
    subst h
    rw[List.drop_length,nmsOk] at hu
    rw[hu,Bool.true_and]
    clear hag hu hi
    repeat (first | refine Za (ldr hx.h0) ?_ | refine Za (ldr hx.h1) ?_ | refine Za (ldr hx.h2) ?_ | refine Za (ldr hx.h3) ?_ | refine Za (ldr hx.h4) ?_ | refine Za (Zg ..) ?_ | refine Za (Qf ..) ?_ | refine Za (ldr (row:=chkM l t) rfl) ?_ | refine Za (ZQ ..) ?_ | refine Za rfl ?_)
    refine Xm (ι:=Nat) (fun i vs s=>vs=[iv i]∧s=[]∧i≤x.kids.length∧cnsOk cs t x.kids=cnsOk cs t (x.kids.drop i)) (fun i=>x.kids.length - i) 0 ⟨rfl,rfl,by omega,by simp⟩ ?_
    rintro i vs s again ⟨rfl,rfl,hi,hu⟩ hag
    refine Za rfl ?_
    refine Xc (fun h=>?_) (fun h=>?_)
    ·have h:i < x.kids.length:=by simpa using h
     have hdr:x.kids.drop i=x.kids[i] :: x.kids.drop (i + 1):=by rw[List.drop_eq_getElem_cons h]
     rw[hdr,cnsOk] at hu
     have hm:x.kids[i]∈x.kids:=List.getElem_mem h
     refine Za rfl (Za rfl (Za (ldr hx.h4) (Za (Qo _ cnC _ _ _ x.kids _ i h) ?_)))
     refine Zd (c213' l cs hU t k _ _ 0 (cnAt _) (by have:=Qam hm; omega) (QV hf hm)) rfl g213_ok.plain rfl ?_
     refine Za rfl ?_
     refine Xc (fun h4=>?_) (fun h4=>?_)
     ·have h4:cnOk cs t x.kids[i]=false:=by simpa using h4
      rw[hu,h4]; rfl
     ·have h4:cnOk cs t x.kids[i]=true:=by simpa using h4
      rw[h4,Bool.true_and] at hu
      refine Za (Yn ..) ?_
      rw[Zh (n:=i) (by omega)]
      exact hag (i + 1) _ _ (by omega) ⟨rfl,rfl,by omega,hu⟩
    have h:i=x.kids.length:=by simp at h; omega
    subst h
    rw[List.drop_length,cnsOk] at hu
    rw[hu]
  clear hk13
  have e6:x.op≠6→(decide (x.who=0) && (x.name == []))=cnEnd cs x.op x.who x.name:=by
   intro h; rw[cnEnd,if_neg h]
  refine Za (Zg ..) ?_
  refine Qi fun k1 hk1=>?_
  have m1:∀ c,c=decide (x.op=0∨x.op=1∨x.op=2)→k1 [.bool c] []:=by
   rintro c hc
   rw[hk1]; clear hk1 k1
   refine Xc (fun h=>?_) (fun h=>?_)
   ·rw[h] at hc
    have a1:x.op=0∨x.op=1∨x.op=2:=by simpa using hc.symm
    exact kk _ 2 0 (by simp[cnK3]; omega) (by unfold cnK4; split <;> (try split) <;> omega) (by omega) (e6 (by omega))
   rw[h] at hc
   have a1:¬ (x.op=0∨x.op=1∨x.op=2):=by simpa using hc.symm
   refine Za (Zg ..) (Xc (fun a3=>?_) (fun a3=>?_))
   ·have a3:x.op=3:=by simpa using a3
    exact kk _ 0 1 (by simp[cnK3]; omega) (by unfold cnK4; split <;> (try split) <;> omega) (by omega) (e6 (by omega))
   have a3:x.op≠3:=by simpa using a3
   refine Za (Zg ..) ?_
   refine Qi fun k1 hk1=>?_
   have m2:∀ c,c=decide (x.op=4∨x.op=5)→k1 [.bool c] []:=by
    rintro c hc
    rw[hk1]; clear hk1 k1
    refine Xc (fun h=>?_) (fun h=>?_)
    ·rw[h] at hc
     have a1:x.op=4∨x.op=5:=by simpa using hc.symm
     exact kk _ 0 2 (by simp[cnK3]; omega) (by unfold cnK4; split <;> (try split) <;> omega) (by omega) (e6 (by omega))
    rw[h] at hc
    have a4:¬ (x.op=4∨x.op=5):=by simpa using hc.symm
    refine Za (Zg ..) (Xc (fun a6=>?_) (fun a6=>?_))
    ·have a6:x.op=6:=by simpa using a6
     repeat (first | refine Za (ldr hx.h0) ?_ | refine Za (ldr hx.h1) ?_ | refine Za (ldr hx.h2) ?_ | refine Za (ldr hx.h3) ?_ | refine Za (ldr hx.h4) ?_ | refine Za (Zg ..) ?_ | refine Za (Qf ..) ?_ | refine Za (ldr (row:=chkM l t) rfl) ?_ | refine Za (ZQ ..) ?_ | refine Za rfl ?_)
     have hfind:=hU x.name false
     have e:cnEnd cs x.op x.who x.name=((tlook x.name l).isSome && sdOp x.who):=by
      rw[cnEnd,if_pos a6,hfind]
      cases tlook x.name l <;> simp
     rcases Bool.eq_false_or_eq_true (tlook x.name l).isSome with h | h
     ·rw[h]
      repeat (first | refine Xa ?_ | refine Zb ?_ | refine Za (ldr hx.h0) ?_ | refine Za (ldr hx.h1) ?_ | refine Za (ldr hx.h2) ?_ | refine Za (ldr hx.h3) ?_ | refine Za (ldr hx.h4) ?_ | refine Za (Zg ..) ?_ | refine Za (Qf ..) ?_ | refine Za (ldr (row:=chkM l t) rfl) ?_ | refine Za (ZQ ..) ?_ | refine Za rfl ?_)
      refine Zd (c212 _) rfl g212_ok.plain rfl ?_
      repeat (first | refine Xa ?_ | refine Zb ?_ | refine Za (ldr hx.h0) ?_ | refine Za (ldr hx.h1) ?_ | refine Za (ldr hx.h2) ?_ | refine Za (ldr hx.h3) ?_ | refine Za (ldr hx.h4) ?_ | refine Za (Zg ..) ?_ | refine Za (Qf ..) ?_ | refine Za (ldr (row:=chkM l t) rfl) ?_ | refine Za (ZQ ..) ?_ | refine Za rfl ?_)
      exact kk _ 0 0 (by simp[cnK3]; omega) (by unfold cnK4; split <;> (try split) <;> omega) (by omega) (by rw[e,h,Bool.true_and])
     ·rw[h]
      repeat (first | refine Xa ?_ | refine Zb ?_ | refine Yb rfl ?_ | refine Yc rfl ?_ | refine Yd rfl ?_ | refine Qd rfl ?_ | refine Za (ldr hx.h0) ?_ | refine Za (ldr hx.h1) ?_ | refine Za (ldr hx.h2) ?_ | refine Za (ldr hx.h3) ?_ | refine Za (ldr hx.h4) ?_ | refine Za (Zg ..) ?_ | refine Za (Qf ..) ?_ | refine Za (ldr (row:=chkM l t) rfl) ?_ | refine Za (ZQ ..) ?_ | refine Za rfl ?_)
      exact kk _ 0 0 (by simp[cnK3]; omega) (by unfold cnK4; split <;> (try split) <;> omega) (by omega) (by rw[e,h,Bool.false_and])
    ·have a6:x.op≠6:=by simpa using a6
     exact badT (by omega)
   clear hk1
   refine Xc (fun c1=>m2 _ ?_) (fun c1=>?_)
   ·simp at c1; simp[c1]
   refine Za (Zg ..) (m2 _ ?_)
   simp at c1; simp[c1]
  clear hk1
  refine Xc (fun c1=>m1 _ ?_) (fun c1=>?_)
  ·simp at c1; simp[c1]
  refine Za (Zg ..) (Xc (fun c2=>m1 _ ?_) (fun c2=>?_))
  ·simp at c2; simp[c2]
  refine Za (Zg ..) (m1 _ ?_)
  simp at c1 c2; simp[c1,c2]
theorem c213(l:List (Tx × Bool))(cs:List Cd)(hU:Units l cs)(t:Bool)(x:Cn)(row:List AVal)(j:Nat)(hx:CnAt row j x)(hf:cnFit x=true):PCall prog GL0 213 [.rptr (chkM l t) 0,.rptr row j] (.bool (cnOk cs t x)):=c213' l cs hU t _ x row j hx (Nat.le_refl _) hf
end Go.Ah.Tz
end
