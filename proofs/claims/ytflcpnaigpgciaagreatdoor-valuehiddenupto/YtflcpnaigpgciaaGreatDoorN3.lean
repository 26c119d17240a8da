/- Part of the proof that ValueHidden holds of the program for arguments that together hold at most 1048576 values and letters; no other condition. -/
import Derived.Test.YtflcpnaigpgciaaGreatDoorN2
set_option linter.all false
section
namespace Go.Ah.Tz
open Go.Proofs.Tryz (prog)
set_option maxRecDepth 100000
def g111:GFun:=λA xs d h=>match xs with
 |[x0,x1,x2]=>
 A.r Qa x1 d λt0=>A.r (Ya 0) t0 d λt1=>A.a t1 d λt2=>A.b .lss t2 (jv 1) d λo=>joinK (λe=>A.test o (e [o] d) (A.r Qa x1 d λt6=>
 A.r (Ya 0) t6 d λt7=>A.a t7 d λt8=>A.b .gtr t8 (jv 4096) d λp=>A.test p (e [p] d) (A.r Qa x1 d λa7=>A.r (Ya 1) a7 d λa8=>
 A.a a8 d λa9=>A.b .lss a9 (jv 0) d λq=>A.test q (e [q] d) (A.r Qa x1 d λb0=>A.r (Ya 1) b0 d λb1=>A.a b1 d λb2=>A.b .gtr b2 (jv 1) d λt=>
 A.test t (e [t] d) (A.r Qa x1 d λb3=>A.r (Ya 2) b3 d λb4=>A.a b4 d λb5=>A.b .lss b5 (.int .i8 0) d λu=>A.test u (e [u] d) (A.r Qa x1 d λb6=>
 A.r (Ya 2) b6 d λb7=>A.a b7 d λb8=>A.b .gtr b8 (.int .i8 2) d λv=>A.test v (e [v] d) (A.r Qa x1 d λb9=>A.r (Ya 4) b9 d λc0=>
 A.a c0 d λc1=>A.b .lss c1 (.int .i8 0) d λw=>A.test w (e [w] d) (A.r Qa x1 d λc2=>A.r (Ya 4) c2 d λc3=>A.a c3 d λc4=>A.b .gtr c4 (.int .i8 3) d λy=>
 A.test y (e [y] d) (A.r Qa x1 d λc5=>A.r (Ya 4) c5 d λc6=>A.a c6 d λc7=>A.b .eql c7 (.int .i8 0) d λc8=>A.r Qa x1 d λc9=>
 A.r (Ya 2) c9 d λd0=>A.a d0 d λd1=>A.b .neq d1 (.int .i8 2) d λd2=>A.s (Yi .neq true) c8 d2 d λz=>A.test z (e [z] d) (A.r Qa x1 d λd3=>
 A.r (Ya 6) d3 d λd4=>A.a d4 d λd5=>A.b .lss d5 (jv 1) d λa0=>A.test a0 (e [a0] d) (A.r Qa x1 d λd6=>A.r (Ya 6) d6 d λd7=>
 A.a d7 d λd8=>A.b .gtr d8 (jv 1000000) d λa1=>A.test a1 (e [a1] d) (A.r Qa x1 d λd9=>A.r (Ya 5) d9 d λe0=>A.a e0 d λe1=>A.r Qe e1 d λe2=>
 A.b .gtr e2 (jv 7) d λa2=>A.test a2 (e [a2] d) (A.r Qa x0 d λe3=>A.r (Xc true 2) e3 d λe4=>A.k 143 [e4] d λe5 d=>A.r (XaD false 0 1) e5 d λe6=>
 A.b .neq e6 (jv 0) d λe7=>e [e7] d))))))))))))) (λv5 d=>A.test (h0 v5) (h (.bool false) d) (A.wr (QD [] d) d λa3 d=>A.loop (λe8 l d=>A.b .lss (h0 l) (jv 2) d λe9=>
 A.test e9 (A.k 144 [x0,x1,(h0 l),a3] d λf0 d=>A.r (Qo .not) f0 d λf1=>A.test f1 (h (.bool false) d) (A.b .add (h0 l) (jv 1) d λf2=>e8 [f2] d)) (
 A.r Qa x1 d λf3=>A.r (Ya 2) f3 d λf4=>A.a f4 d λf5=>A.b .neq f5 (.int .i8 1) d λf6=>A.test f6 (A.r Qa x1 d λf7=>A.r (Ya 5) f7 d λf8=>
 A.a f8 d λf9=>A.r Qe f9 d λg0=>A.b .eql g0 (jv 0) d λg1=>h g1 d) (A.wr (QD [] d) d λa4 d=>A.r Qa x1 d λg2=>A.r (Ya 5) g2 d λg3=>
 A.a g3 d λa5=>A.r Qe a5 d λg4=>A.loop (λg5 m d=>A.b .lss (h0 m) g4 d λg6=>A.test g6 (A.s (Yc 1) a5 (h0 m) d λg7=>A.a g7 d λn=>
 A.s (Qq false true (jv 0)) a3 n d λa6=>A.r (Qd 0) a6 d λg8=>A.r (Qd 1) a6 d λg9=>A.r (Qo .not) g9 d λf=>A.fr f Qh g8 d λi0=>
 A.fr f Qh x1 d λi1=>A.fr f Qa i1 d λi2=>A.fr f (Ya 1) i2 d λi3=>A.fa f i3 d λi4=>A.fb f .neq i0 i4 d λi5=>A.c f (.bool true) i5 d λi=>
 A.fr i Qh a4 d λi6=>A.fr i Qh n d λi7=>A.fs i (Qq false false (.bool false)) i6 i7 d λi9=>A.c i (.bool true) i9 d λj0=>A.test j0 (h (.bool false) d) (
 A.wr (Yy false [a4,n,.bool true] d) d λ_ d=>A.b .add (h0 m) (jv 1) d λj1=>g5 [j1] d)) (A.r Qa x1 d λj2=>A.r (Ya 3) j2 d λj3=>
 A.a j3 d λj=>A.tr j Qh x2 d λj4=>A.tr j Qh j4 d λg=>A.fr g Qh x1 d λj5=>A.fr g Qa j5 d λj6=>A.fr g (Ya 5) j6 d λj7=>
 A.fa g j7 d λj8=>A.fr g Qe j8 d λj9=>A.fb g .gtr j9 (jv 0) d λl0=>A.tc j g (.bool true) l0 d λl1=>A.c j l1 (.bool false) d λl2=>h l2 d)) [jv 0] d))) [jv 0] d))
 |_=>A.stop
theorem g111_ok:GQ 111 3 g111:=gq3 [none,some [14],none,none,none,none,none,none,none,none,none,none,none,none,none,some [89],none,none,none,none,none,some [116],none,none,none] λ_ _ _ _ _ _ _=>by kernel_rfl
def g112:GFun:=λA xs a b=>match xs with
 |[x0]=>
 A.s (XL .slice false false) x0 .nils a λc=>A.test c (b .nils a) (A.rd (Xai 4 [] a) λd=>A.wr (Qi 4 32 [d,x0] a) a λe a=>b e a)
 |_=>A.stop
theorem g112_ok:GQ 112 1 g112:=gq1 [none] λ_ _ _ _ _=>by kernel_rfl
def g113:GFun:=λA xs c f=>match xs with
 |[x0]=>
 A.wr (Xe [jv 0,jv 0] [] c) c λd c=>A.r Qe x0 c λh=>A.b .gtr h (jv 240) c λi=>A.test i (A.rd (Ye [jv 0,jv 0] [(0,1)] [jv 3] c) λj=>
 A.ws (Xb 2) d j c λ_ c=>A.opt (cellV true 2 d c) λr4=>f r4 c) (A.loop (λl e c=>A.r Qe x0 c λm=>A.b .lss (h0 e) m c λn=>A.test n (A.loop (λo g c=>
 A.b .lss (h0 g) (h0 e) c λp=>A.test p (A.s (Yc 12) x0 (h0 g) c λq=>A.r (Ya 0) q c λt=>A.a t c λu=>A.s (Yc 12) x0 (h0 e) c λv=>
 A.r (Ya 0) v c λw=>A.a w c λy=>A.b .eql u y c λz=>A.test z (A.s (Yc 12) x0 (h0 e) c λa0=>A.r (Ya 11) a0 c λa1=>A.a a1 c λa2=>
 A.rd (Ye [jv 0,jv 0] [(0,1),(1,1)] [jv 101,a2] c) λa3=>A.ws (Xb 2) d a3 c λ_ c=>A.opt (cellV true 2 d c) λr23=>f r23 c) (A.b .add (h0 g) (jv 1) c λa4=>
 o [a4] c)) (A.s (Yc 12) x0 (h0 e) c λa5=>A.r (Xc true 12) a5 c λa6=>A.k 145 [x0,a6] c λa7 c=>A.r (Qo .not) a7 c λa8=>A.test a8 (A.s (Yc 12) x0 (h0 e) c λa9=>
 A.r (Ya 11) a9 c λb0=>A.a b0 c λb1=>A.rd (Ye [jv 0,jv 0] [(0,1),(1,1)] [jv 130,b1] c) λb2=>A.ws (Xb 2) d b2 c λ_ c=>
 A.opt (cellV true 2 d c) λr33=>f r33 c) (A.b .add (h0 e) (jv 1) c λb3=>l [b3] c))) [jv 0] c) (A.rd (Ye [jv 0,jv 0] [] [] c) λb4=>A.ws (Xb 2) d b4 c λ_ c=>
 A.opt (cellV true 2 d c) λr36=>f r36 c)) [jv 0] c)
 |_=>A.stop
theorem g113_ok:GQ 113 1 g113:=gq1 [none,none,some [3],none,none,none,some [4],none,none,none,none] λ_ _ _ _ _=>by kernel_rfl
def g114:GFun:=λA xs d j=>match xs with
 |[x0]=>
 A.wr (Xe [jv 0,jv 0] [] d) d λh d=>A.loop (λl i d=>A.r Qe x0 d λm=>A.b .lss (h0 i) m d λn=>A.test n (A.s (Yc 12) x0 (h0 i) d λo=>
 A.r (Xc true 12) o d λp=>A.wr (Xe [.str [],.bool false,jv 0,jv 0,jv 0,jv 0,jv 0,jv 0,.nils,.nils,.nils,jv 0] [] d) d λe d=>
 A.ws (Xb 12) e p d λ_ d=>A.r (Ya 8) e d λq=>A.a q d λt=>A.k 146 [.int .i8 0,t] d λu d=>A.r (Qo .not) u d λf=>A.fr f (Ya 9) e d λv=>
 A.fa f v d λw=>A.gw f false (λk=>A.k 146 [.int .i8 0,w] d k) d λy d=>A.fr f (Qo .not) y d λz=>A.c f (.bool true) z d λg=>A.fr g (Ya 10) e d λa0=>
 A.fa g a0 d λa1=>A.gw g false (λk=>A.k 146 [.int .i8 0,a1] d k) d λa2 d=>A.fr g (Qo .not) a2 d λa3=>A.c g (.bool true) a3 d λa4=>A.test a4 (
 A.r (Ya 11) e d λa5=>A.a a5 d λa6=>A.rd (Ye [jv 0,jv 0] [(0,1),(1,1)] [jv 140,a6] d) λa7=>A.ws (Xb 2) h a7 d λ_ d=>
 A.opt (cellV true 2 h d) λr25=>j r25 d) (A.b .add (h0 i) (jv 1) d λa8=>l [a8] d)) (A.rd (Ye [jv 0,jv 0] [] [] d) λa9=>A.ws (Xb 2) h a9 d λ_ d=>
 A.opt (cellV true 2 h d) λr28=>j r28 d)) [jv 0] d
 |_=>A.stop
theorem g114_ok:GQ 114 1 g114:=gq1 [none,some [3],none,none,none] λ_ _ _ _ _=>by kernel_rfl
def g115:GFun:=λA xs d o=>match xs with
 |[x0,x1]=>
 A.w1 Xk x0 d λj d=>A.r (Ya 1) j d λq=>A.a q d λt=>A.s (Yc 7) t x1 d λu=>A.r (Xc true 7) u d λv=>A.wr (Xe [.str [],jv 0,jv 0,jv 0,.nils,.nils,jv 0] [] d) d λe d=>
 A.ws (Xb 7) e v d λ_ d=>A.loop (λw p d=>A.b .lss (h0 p) x1 d λy=>A.test y (A.r (Ya 1) j d λz=>A.a z d λa0=>A.s (Yc 7) a0 (h0 p) d λa1=>
 A.r (Ya 0) a1 d λa2=>A.a a2 d λa3=>A.r (Ya 0) e d λa4=>A.a a4 d λa5=>A.b .eql a3 a5 d λa6=>A.test a6 (o (.bool false) d) (
 A.b .add (h0 p) (jv 1) d λa7=>w [a7] d)) (A.b .geq x1 (jv 240) d λg=>A.fr g (Ya 0) e d λa8=>A.fa g a8 d λa9=>A.gw g false (λk=>A.k 147 [a9] d k) d λb0 d=>
 A.fr g (Qo .not) b0 d λb1=>A.c g (.bool true) b1 d λb2=>A.test b2 (o (.bool false) d) (A.r (Ya 1) e d λb3=>A.a b3 d λb4=>A.b .geq b4 (jv 0) d λf=>
 A.tr f (Ya 1) e d λb5=>A.ta f b5 d λb6=>A.tr f (Ya 2) e d λb7=>A.ta f b7 d λb8=>A.tb f .leq b6 b8 d λb9=>A.c f b9 (.bool false) d λl=>
 A.tr l (Ya 2) e d λc0=>A.ta l c0 d λc1=>A.tb l .leq c1 (jv 60) d λc2=>A.c l c2 (.bool false) d λm=>A.tr m (Ya 3) e d λc3=>
 A.ta m c3 d λc4=>A.tb m .geq c4 (jv 0) d λc5=>A.c m c5 (.bool false) d λn=>A.tr n (Ya 3) e d λc6=>A.ta n c6 d λc7=>A.tb n .leq c7 (jv 999) d λc8=>
 A.c n c8 (.bool false) d λh=>A.tr h (Xc true 2) j d λc9=>A.tr h (Ya 4) e d λd0=>A.ta h d0 d λd1=>A.gw h true (λk=>A.k 148 [c9,d1] d k) d λd2 d=>
 A.c h d2 (.bool false) d λi=>A.tr i (Xc true 2) j d λd3=>A.tr i (Ya 5) e d λd4=>A.ta i d4 d λd5=>A.gw i true (λk=>A.k 148 [d3,d5] d k) d λd6 d=>
 A.c i d6 (.bool false) d λd7=>o d7 d))) [jv 0] d
 |_=>A.stop
theorem g115_ok:GQ 115 2 g115:=gq2 [none,some [6],none,none,none,none] λ_ _ _ _ _ _=>by kernel_rfl
def g116:GFun:=λA xs a e=>match xs with
 |[x0]=>
 A.b .geq x0 (jv (-1000000)) a λd=>A.tr d Qh x0 a λf=>A.tb d .leq f (jv 1000000) a λg=>A.c d g (.bool false) a λh=>e h a
 |_=>A.stop
theorem g116_ok:GQ 116 1 g116:=gq1 [] λ_ _ _ _ _=>by kernel_rfl
def g117:GFun:=λA xs d g=>match xs with
 |[x0,x1,x2]=>
 A.w1 Xk x0 d λh d=>A.r Qe x1 d λi=>A.b .gtr i x2 d λj=>A.test j (g (.bool false) d) (A.loop (λl f d=>A.r Qe x1 d λm=>A.b .lss (h0 f) m d λn=>
 A.test n (A.s (Yc 1) x1 (h0 f) d λo=>A.a o d λp=>A.b .lss p (jv 0) d λe=>A.fr e Qh x1 d λq=>A.fr e Qh (h0 f) d λt=>A.fs e (Yc 1) q t d λu=>
 A.fa e u d λv=>A.fr e (Ya 0) h d λw=>A.fa e w d λy=>A.fr e Qe y d λz=>A.fb e .geq v z d λa0=>A.c e (.bool true) a0 d λa1=>A.test a1 (
 g (.bool false) d) (A.b .add (h0 f) (jv 1) d λa2=>l [a2] d)) (g (.bool true) d)) [jv 0] d)
 |_=>A.stop
theorem g117_ok:GQ 117 3 g117:=gq3 [none,none,some [7],none,none,none] λ_ _ _ _ _ _ _=>by kernel_rfl
def g118:GFun:=λA xs a d=>match xs with
 |[x0,x1]=>
 A.r Qe x0 a λe=>A.loop (λf c a=>A.b .lss (h0 c) e a λg=>A.test g (A.s (Yc 4) x0 (h0 c) a λh=>A.r (Xc true 4) h a λi=>A.call .callv [x1,i] a λj a=>
 A.test j (d (h0 c) a) (A.b .add (h0 c) (jv 1) a λl=>f [l] a)) (d (jv (-1)) a)) [jv 0] a
 |_=>A.stop
theorem g118_ok:GQ 118 2 g118:=gq2 [none,some [8],none,none,none] λ_ _ _ _ _ _=>by kernel_rfl
def g119:GFun:=λA xs c d=>match xs with
 |[x0,x1]=>
 A.w1 Xk x0 c λe c=>A.r (Ya 0) e c λf=>A.a f c λg=>A.a x1 c λh=>A.b .eql g h c λi=>d i c
 |_=>A.stop
theorem g119_ok:GQ 119 2 g119:=gq2 [] λ_ _ _ _ _ _=>by kernel_rfl
def g120:GFun:=λA xs c e=>match xs with
 |[x0,x1]=>
 A.r Qe x0 c λf=>A.loop (λg d c=>A.b .lss (h0 d) f c λh=>A.test h (A.s (Yc 1) x0 (h0 d) c λi=>A.a i c λj=>A.call .callv [x1,j] c λl c=>
 A.test l (e (h0 d) c) (A.b .add (h0 d) (jv 1) c λm=>g [m] c)) (e (jv (-1)) c)) [jv 0] c
 |_=>A.stop
theorem g120_ok:GQ 120 2 g120:=gq2 [none,some [8],none,none,none] λ_ _ _ _ _ _=>by kernel_rfl
def g121:GFun:=λA xs a e=>match xs with
 |[x0]=>
 A.b .eql x0 (.int .i8 0) a λd=>A.fr d Qh x0 a λf=>A.fb d .eql f (.int .i8 1) a λg=>A.c d (.bool true) g a λh=>e h a
 |_=>A.stop
theorem g121_ok:GQ 121 1 g121:=gq1 [] λ_ _ _ _ _=>by kernel_rfl
def g122:GFun:=λA xs d p=>match xs with
 |[x0]=>
 A.wr (Xe [.nils,.nils] [] d) d λi d=>A.wr (Xe [jv 0,jv 0] [] d) d λj d=>A.k 149 [x0] d λu d=>A.r (Qd 0) u d λt3=>A.r (Qd 1) u d λt4=>
 A.wr (Xe [jv 0,jv 0] [] d) d λq d=>A.ws (Xb 2) q t4 d λ_ d=>A.r (Ya 0) q d λt6=>A.a t6 d λt7=>A.b .neq t7 (jv 0) d λt8=>
 A.test t8 (A.pu (Ye [.nils,.nils] [] [] d) λt9=>A.dr (Xc true 2 [q] d) d λa0 a1 d=>A.dr (Xb 2 [i,t9] d) d λ_ a2 d=>A.dr (Xb 2 [j,a0] d) d λ_ a3 d=>
 A.gd (Zi [[],[],[0],[0,1,2]] [([],[]),a1,a2,a3]) <| A.opt (cellV true 2 i d) λr14=>A.opt (cellV true 2 j d) λr15=>p (.tup [r14,r15]) d) (
 A.rd (Ye [.nils,jv 0,jv 0,jv 0,jv 0] [(0,1)] [t3] d) λa4=>A.w1 Xk a4 d λe d=>A.wr (Xe [.nils,.nils] [] d) d λh d=>joinK (λt=>
 A.loop (λv j6 d=>A.dcall (.call 150) [e] d λf a5 d=>A.gr f true (λk=>A.pu (Qh [e] d) k) λa6=>A.gr f true (λk=>A.pu (Qa [a6] d) k) λa7=>
 A.gr f true (λk=>A.pu (Ya 0 [a7] d) k) λa8=>A.gl f true (λk=>A.dr (Qg [a8] d) d k) d λa9 b0 d=>A.gr f true (λk=>A.pu (Qh [e] d) k) λb1=>
 A.gr f true (λk=>A.pu (Qa [b1] d) k) λb2=>A.gr f true (λk=>A.pu (Ya 1 [b2] d) k) λb3=>A.gl f true (λk=>A.dr (Qg [b3] d) d k) d λb4 b5 d=>
 A.gl f true (λk=>A.dr (Yc 4 [a9,b4] d) d k) d λb6 b7 d=>A.gr f true (λk=>A.pu (Ya 0 [b6] d) k) λb8=>A.gl f true (λk=>A.dr (Qg [b8] d) d k) d λb9 c0 d=>
 A.gr f true (λk=>A.pu (Yi .neq false [b9,.int .i8 0] d) k) λc1=>A.pu (Zn [f,c1,.bool false] d) λc2=>A.gd (Zi [[],[0],[0,1],[0,1,2],[0,1,2,3],[0,1,2,3,4],[0,1,2,3,4,5],[0,1,2],[0,1,2,7],[0,1,2,7,8],[0,1,2,7,8,9],[0,1,2,3,4,5,6,7,8,9,10],[0,1,2,3,4,5,6,7,8,9,10,11],[0,1,2,3,4,5,6,7,8,9,10,11,12],[0,1,2,3,4,5,6,7,8,9,10,11,12,13],[0,1,2,3,4,5,6,7,8,9,10,11,12,13,14]] [([],[]),a5,([],[]),([],[]),([],[]),([],[]),b0,([],[]),([],[]),([],[]),b5,b7,([],[]),c0,([],[]),([],[])]) <|
 A.test c2 (A.r Qa e d λc3=>A.r (Ya 0) c3 d λc4=>A.a c4 d λc5=>A.r Qa e d λc6=>A.r (Ya 1) c6 d λc7=>A.a c7 d λc8=>
 A.s (Yc 4) c5 c8 d λc9=>A.r (Ya 3) c9 d λd0=>A.a d0 d λw=>A.k 151 [e,(.str [99,97,114,100])] d λg d=>A.tr g (Ya 1) h d λd1=>
 A.ta g d1 d λd2=>A.tr g Qe d2 d λd3=>A.tb g .gtr d3 (jv 0) d λd4=>A.c g d4 (.bool false) d λl=>A.fr l Qh g d λd5=>A.fr l (Qo .not) d5 d λd6=>
 A.fr l Qh d6 d λo=>A.tr o Qh e d λd7=>A.gw o true (λk=>A.k 151 [d7,(.str [102,111,114,109,97,116])] d k) d λd8 d=>A.tr o (Qo .not) d8 d λd9=>
 A.fc l o d9 (.bool false) d λe0=>A.c l (.bool true) e0 d λe1=>A.test e1 (A.k 152 [e,jv 120] d λj7 d=>t [] d) (A.tr g (Ya 0) h d λe2=>
 A.ta g e2 d λe3=>A.tr g Qe e3 d λe4=>A.tb g .geq e4 (jv 240) d λe5=>A.c g e5 (.bool false) d λm=>A.fr m Qh g d λe6=>A.fr m (Qo .not) e6 d λe7=>
 A.fr m Qh e7 d λn=>A.tr n (Ya 1) h d λe8=>A.ta n e8 d λe9=>A.tr n Qe e9 d λf0=>A.tb n .geq f0 (jv 240) d λf1=>A.fc m n f1 (.bool false) d λf2=>
 A.c m (.bool true) f2 d λf3=>A.test f3 (A.k 152 [e,jv 3] d λj8 d=>t [] d) (A.r Qa e d λf4=>A.r (Ya 1) f4 d λf5=>A.a f5 d λf6=>
 A.b .add f6 (jv 1) d λf7=>A.r Qa e d λf8=>A.r (Ya 1) f8 d λf9=>A.ws (Xb 1) f9 f7 d λ_ d=>A.test g (A.k 153 [e,w] d λg0 d=>
 A.wr (Xe [.str [],.bool false,jv 0,jv 0,jv 0,jv 0,jv 0,jv 0,.nils,.nils,.nils,jv 0] [] d) d λy d=>A.ws (Xb 12) y g0 d λ_ d=>
 A.r (Ya 0) h d λg1=>A.a g1 d λg2=>A.r (Xc true 12) y d λg3=>A.wr (Xi 12 1 [.str [],.bool false,jv 0,jv 0,jv 0,jv 0,jv 0,jv 0,.nils,.nils,.nils,jv 0] [(0,12)] [g3] d) d λg4 d=>
 A.wr (Qi 12 152 [g2,g4] d) d λg5 d=>A.r (Ya 0) h d λg6=>A.ws (Xb 1) g6 g5 d λ_ d=>v [] d) (A.k 154 [e,w] d λg7 d=>A.wr (Xe [.str [],jv 0,jv 0,jv 0,.nils,.nils,jv 0] [] d) d λz d=>
 A.ws (Xb 7) z g7 d λ_ d=>A.r (Ya 1) h d λg8=>A.a g8 d λg9=>A.r (Xc true 7) z d λi0=>A.wr (Xi 7 1 [.str [],jv 0,jv 0,jv 0,.nils,.nils,jv 0] [(0,7)] [i0] d) d λi1 d=>
 A.wr (Qi 7 96 [g9,i1] d) d λi2 d=>A.r (Ya 1) h d λi3=>A.ws (Xb 1) i3 i2 d λ_ d=>v [] d)))) (t [] d)) [] d) (λj9 d=>A.k 150 [e] d λi4 d=>
 A.r (Qo .not) i4 d λi5=>A.test i5 (A.pu (Ye [.nils,.nils] [] [] d) λi6=>A.pu (Qa [e] d) λi7=>A.pu (Ya 3 [i7] d) λi9=>A.dr (Xc true 2 [i9] d) d λj0 j1 d=>
 A.dr (Xb 2 [i,i6] d) d λ_ j2 d=>A.dr (Xb 2 [j,j0] d) d λ_ j3 d=>A.gd (Zi [[],[],[1],[1,2],[1,2,3],[0],[0,1,2,3,4,5]] [([],[]),([],[]),([],[]),([],[]),j1,j2,j3]) <|
 A.opt (cellV true 2 i d) λr112=>A.opt (cellV true 2 j d) λr113=>p (.tup [r112,r113]) d) (A.r (Xc true 2) h d λj4=>A.rd (Ye [jv 0,jv 0] [] [] d) λj5=>
 A.ws (Xb 2) i j4 d λ_ d=>A.ws (Xb 2) j j5 d λ_ d=>A.opt (cellV true 2 i d) λr116=>A.opt (cellV true 2 j d) λr117=>p (.tup [r116,r117]) d)))
 |_=>A.stop
theorem g122_ok:GQ 122 1 g122:=gq1 [none,some [],some [],none,none,none,none,none,none] λ_ _ _ _ _=>by kernel_rfl
def g124:GFun:=λA xs b d=>match xs with
 |[x0]=>
 A.w1 Xk x0 b λe b=>A.wr (Xe [jv 0] [] b) b λc b=>A.ws (Xb 1) c (jv 0) b λ_ b=>A.r (Qn (.func 156) 0) c b λf=>A.k 155 [e,f] b λh b=>
 A.a c b λg=>d g b
 |_=>A.stop
theorem g124_ok:GQ 124 1 g124:=gq1 [] λ_ _ _ _ _=>by kernel_rfl
def g125:GFun:=λA xs c i=>match xs with
 |[x0,x1]=>
 A.wr (QD [] c) c λe c=>A.r Qe x0 c λj=>A.loop (λl f c=>A.b .lss (h0 f) j c λm=>A.test m (joinK (λg=>A.s (Yc 12) x0 (h0 f) c λn=>
 A.r (Xc true 12) n c λo=>A.wr (Xe [.str [],.bool false,jv 0,jv 0,jv 0,jv 0,jv 0,jv 0,.nils,.nils,.nils,jv 0] [] c) c λd c=>
 A.ws (Xb 12) d o c λ_ c=>A.r (Ya 0) d c λp=>A.a p c λq=>A.s (Qq true true (.bool false)) e q c λh=>A.r (Qd 0) h c λa4=>
 A.r (Qd 1) h c λt=>A.r (Qo .not) t c λu=>A.test u (A.r (Ya 0) d c λv=>A.a v c λw=>A.r (Ya 1) d c λy=>A.a y c λz=>
 A.wr (Yy true [e,w,z] c) c λ_ c=>g [] c) (g [] c)) (λv6 c=>A.b .add (h0 f) (jv 1) c λa0=>l [a0] c)) (A.rd (Ye [.nilmap,.bool false] [(0,1),(1,1)] [e,.bool true] c) λa1=>
 A.w1 Xk a1 c λa2 c=>A.k 157 [a2,x1,jv 1] c λa3 c=>i a3 c)) [jv 0] c
 |_=>A.stop
theorem g125_ok:GQ 125 2 g125:=gq2 [none,some [13],none,some [],none] λ_ _ _ _ _ _=>by kernel_rfl
def g130:GFun:=λA xs a h=>match xs with
 |[x0]=>
 A.b .eql x0 (.int .i8 0) a λd=>A.fr d Qh x0 a λi=>A.fb d .eql i (.int .i8 1) a λj=>A.c d (.bool true) j a λe=>A.fr e Qh x0 a λl=>A.fb e .eql l (.int .i8 2) a λm=>
 A.c e (.bool true) m a λf=>A.fr f Qh x0 a λn=>A.fb f .eql n (.int .i8 3) a λo=>A.c f (.bool true) o a λg=>A.fr g Qh x0 a λp=>A.fb g .eql p (.int .i8 5) a λq=>
 A.c g (.bool true) q a λr=>h r a
 |_=>A.stop
theorem g130_ok:GQ 130 1 g130:=gq1 [] λ_ _ _ _ _=>by kernel_rfl
def g142:GFun:=λA xs c i=>match xs with
 |[x0]=>
 A.loop (λj d c=>A.r Qe x0 c λl=>A.b .lss (h0 d) l c λm=>A.test m (joinK (λe=>A.b .add (h1 d) (jv 1) c λn=>A.s XR n (jv 1073741824) c λf=>
 A.s (Yc 14) x0 (h0 d) c λo=>A.r (Ya 0) o c λp=>A.a p c λq=>A.k 130 [q] c λt c=>joinK (λg=>A.test t (A.s (Yc 14) x0 (h0 d) c λu=>
 A.r (Ya 2) u c λv=>A.r (Xc true 4) v c λw=>A.k 76 [w] c λy c=>A.b .add f y c λz=>A.s XR z (jv 1073741824) c λa0=>g [a0] c) (
 g [f] c)) (λh c=>A.s (Yc 14) x0 (h0 d) c λa1=>A.r (Ya 0) a1 c λa2=>A.a a2 c λa3=>A.b .eql a3 (.int .i8 8) c λa4=>A.test a4 (
 A.dr (Yc 14 [x0,(h0 d)] c) c λa5 a6 c=>A.pu (Ya 7 [a5] c) λa7=>A.dr (Xc true 5 [a7] c) c λa8 a9 c=>A.dcall (.call 178) [a8] c λb0 b1 c=>
 A.pu (Yi .add false [(h0 h),b0] c) λb2=>A.dr (Yc 14 [x0,(h0 d)] c) c λb3 b4 c=>A.pu (Ya 12 [b3] c) λb5=>A.dr (Qg [b5] c) c λb6 b7 c=>
 A.dcall (.call 142) [b6] c λb8 b9 c=>A.pu (Yi .add false [b2,b8] c) λc0=>A.dr (Yc 14 [x0,(h0 d)] c) c λc1 c2 c=>A.pu (Ya 13 [c1] c) λc3=>
 A.dr (Qg [c3] c) c λc4 c5 c=>A.dcall (.call 142) [c4] c λc6 c7 c=>A.pu (Yi .add false [c0,c6] c) λc8=>A.pu (XR [c8,jv 1073741824] c) λc9=>
 A.gd (Zi [[],[],[],[1,2],[1,2,3],[1,2,3,4],[1,2,3,4,5],[0,1,2,3,4,5,6],[],[],[8,9],[8,9,10],[8,9,10,11],[1,2,3,4,5,6,8,9,10,11,12],[0,1,2,3,4,5,6,7,8,9,10,11,12,13],[],[],[15,16],[15,16,17],[15,16,17,18],[1,2,3,4,5,6,8,9,10,11,12,13,15,16,17,18,19],[0,1,2,3,4,5,6,7,8,9,10,11,12,13,14,15,16,17,18,19,20],[0,1,2,3,4,5,6,7,8,9,10,11,12,13,14,15,16,17,18,19,20,21],[0,1,2,3,4,5,6,7,8,9,10,11,12,13,14,15,16,17,18,19,20,21,22]] [([],[]),([],[]),([],[]),a6,([],[]),a9,b1,([],[]),([],[]),([],[]),b4,([],[]),b7,b9,([],[]),([],[]),([],[]),c2,([],[]),c5,c7,([],[]),([],[]),([],[])]) <|
 e [c9] c) (e [(h0 h)] c))) (λv5 c=>A.b .add (h0 d) (jv 1) c λd0=>j [d0,(h0 v5)] c)) (i (h1 d) c)) [jv 0,jv 0] c
 |_=>A.stop
theorem g142_ok:GQ 142 1 g142:=gq1 [none,some [4,3],none,some [3],some [3],none] λ_ _ _ _ _=>by kernel_rfl
def g143:GFun:=λA xs c h=>match xs with
 |[x0]=>
 A.w1 Xk x0 c λe c=>A.wr (Xe [jv 0,jv 0] [] c) c λd c=>A.r (Qn (.func 179) 0) e c λi=>A.r (Qn (.func 181) 0) e c λj=>A.r (Qn (.func 183) 0) e c λl=>
 A.rd (Ye [.nilf,.nilf,.nilf] [(0,1),(1,1),(2,1)] [i,j,l] c) λm=>A.loop (λn f c=>A.b .lss (h0 f) (jv 3) c λo=>A.test o (A.s (YX false 3 1) m (h0 f) c λp=>
 A.call .callv [p] c λq c=>A.wr (Xe [jv 0,jv 0] [] c) c λg c=>A.ws (Xb 2) g q c λ_ c=>A.r (Ya 0) g c λt=>A.a t c λu=>
 A.b .neq u (jv 0) c λv=>A.test v (A.r (Xc true 2) g c λw=>A.ws (Xb 2) d w c λ_ c=>A.opt (cellV true 2 d c) λr16=>h r16 c) (A.b .add (h0 f) (jv 1) c λy=>
 n [y] c)) (A.rd (Ye [jv 0,jv 0] [] [] c) λz=>A.ws (Xb 2) d z c λ_ c=>A.opt (cellV true 2 d c) λr19=>h r19 c)) [jv 0] c
 |_=>A.stop
theorem g143_ok:GQ 143 1 g143:=gq1 [none,some [10],none,none,none] λ_ _ _ _ _=>by kernel_rfl
def g144:GFun:=λA xs d q=>match xs with
 |[x0,x1,x2,x3]=>
 A.w1 Xk x0 d λz d=>A.r Qa x1 d λt1=>A.r (Ya 7) t1 d λt2=>A.s (Zg 2 8) t2 x2 d λe=>A.r Qa e d λt4=>A.r (Ya 0) t4 d λt5=>
 A.a t5 d λt6=>A.k 57 [t6] d λt7 d=>A.r (Qo .not) t7 d λm=>A.fr m Qh e d λt9=>A.fr m Qa t9 d λa4=>A.fr m (Ya 1) a4 d λa5=>
 A.fa m a5 d λa6=>A.fb m .lss a6 (jv 0) d λa7=>A.c m (.bool true) a7 d λj=>A.fr j Qh e d λa8=>A.fr j Qa a8 d λa9=>A.fr j (Ya 1) a9 d λb0=>
 A.fa j b0 d λb1=>A.gw j false (λk=>A.k 57 [b1] d k) d λb2 d=>A.fr j (Qo .not) b2 d λb3=>A.c j (.bool true) b3 d λn=>A.fr n Qh e d λb4=>
 A.fr n Qa b4 d λb5=>A.fr n (Ya 2) b5 d λb6=>A.fa n b6 d λb7=>A.fb n .lss b7 (jv 0) d λb8=>A.c n (.bool true) b8 d λo=>A.fr o Qh e d λb9=>
 A.fr o Qa b9 d λc0=>A.fr o (Ya 2) c0 d λc1=>A.fa o c1 d λc2=>A.fb o .gtr c2 (jv 10) d λc3=>A.c o (.bool true) c3 d λl=>A.fr l Qh e d λc4=>
 A.fr l Qa c4 d λc5=>A.fr l (Ya 6) c5 d λc6=>A.fa l c6 d λc7=>A.fr l Qe c7 d λc8=>A.fb l .gtr c8 (jv 7) d λc9=>A.c l (.bool true) c9 d λd0=>
 A.test d0 (q (.bool false) d) (A.r Qa e d λd1=>A.r (Ya 3) d1 d λd2=>A.a d2 d λd3=>A.rd (Ye [.nils,jv 0] [(0,1),(1,1)] [d3,jv 60] d) λd4=>
 A.r Qa e d λd5=>A.r (Ya 4) d5 d λd6=>A.a d6 d λd7=>A.rd (Ye [.nils,jv 0] [(0,1),(1,1)] [d7,jv 10] d) λd8=>A.r Qa e d λd9=>
 A.r (Ya 5) d9 d λe0=>A.a e0 d λe1=>A.rd (Ye [.nils,jv 0] [(0,1),(1,1)] [e1,jv 1000000] d) λe2=>A.r Qa e d λe3=>A.r (Ya 7) e3 d λe4=>
 A.a e4 d λe5=>A.rd (Ye [.nils,jv 0] [(0,1),(1,1)] [e5,jv 1000000] d) λe6=>A.rd (Ye [.nils,jv 0,.nils,jv 0,.nils,jv 0,.nils,jv 0] [(0,2),(2,2),(4,2),(6,2)] [d4,d8,e2,e6] d) λe7=>
 A.loop (λe8 a0 d=>A.b .lss (h0 a0) (jv 4) d λe9=>A.test e9 (A.s (YX true 4 2) e7 (h0 a0) d λf0=>A.wr (Xe [.nils,jv 0] [] d) d λt d=>
 A.ws (Xb 2) t f0 d λ_ d=>A.r (Ya 0) t d λf1=>A.a f1 d λf2=>A.r Qe f2 d λf3=>A.r (Ya 1) t d λf4=>A.a f4 d λf5=>
 A.b .gtr f3 f5 d λp=>A.fr p (Ya 0) t d λf6=>A.fa p f6 d λf7=>A.fr p (Qn (.func 186) 0) z d λf8=>A.gw p false (λk=>A.k 185 [f7,f8] d k) d λf9 d=>
 A.c p (.bool true) f9 d λg0=>A.test g0 (q (.bool false) d) (A.b .add (h0 a0) (jv 1) d λg1=>e8 [g1] d)) (A.r Qa e d λg2=>A.r (Ya 6) g2 d λg3=>
 A.a g3 d λa2=>A.r Qe a2 d λg4=>A.loop (λg5 a1 d=>A.b .lss (h0 a1) g4 d λg6=>A.test g6 (A.s (Yc 4) a2 (h0 a1) d λg7=>A.r (Xc true 4) g7 d λg8=>
 A.wr (Xe zq3 [] d) d λg d=>A.ws (Xb 4) g g8 d λ_ d=>A.r (Ya 0) g d λg9=>A.a g9 d λi0=>A.s (Qq false true (jv 0)) x3 i0 d λa3=>
 A.r (Qd 0) a3 d λn2=>A.r (Qd 1) a3 d λu=>A.fr u (Ya 1) g d λi1=>A.fa u i1 d λi2=>A.fb u .lss i2 (jv 0) d λi3=>A.c u (.bool true) i3 d λh=>
 A.fr h (Ya 1) g d λi4=>A.fa h i4 d λi5=>A.fa h z d λi6=>A.fr h Qa i6 d λi7=>A.fr h (Ya 0) i7 d λi8=>A.fa h i8 d λi9=>
 A.fr h Qe i9 d λj0=>A.fb h .geq i5 j0 d λj1=>A.c h (.bool true) j1 d λf=>A.fa f z d λj2=>A.fr f Qa j2 d λj3=>A.fr f (Ya 0) j3 d λj4=>
 A.fa f j4 d λj5=>A.fr f (Ya 1) g d λj6=>A.fa f j6 d λj7=>A.fs f (Yc 12) j5 j7 d λj8=>A.fr f (Ya 1) j8 d λj9=>A.fa f j9 d λl0=>
 A.fr f (Qo .not) l0 d λl1=>A.c f (.bool true) l1 d λv=>A.fr v (Ya 2) g d λl2=>A.fa v l2 d λl3=>A.fb v .lss l3 (jv 0) d λl4=>A.c v (.bool true) l4 d λw=>
 A.fr w (Ya 2) g d λl5=>A.fa w l5 d λl6=>A.fb w .gtr l6 (jv 1000000) d λl7=>A.c w (.bool true) l7 d λy=>A.fr y (Ya 0) g d λl8=>
 A.fa y l8 d λl9=>A.fb y .lss l9 (jv 1) d λm0=>A.c y (.bool true) m0 d λi=>A.fr i (Ya 0) g d λm1=>A.fa i m1 d λm2=>A.fr i Qh x1 d λm3=>
 A.fr i Qa m3 d λm4=>A.fr i (Ya 6) m4 d λm5=>A.fa i m5 d λm6=>A.fb i .geq m2 m6 d λm7=>A.c i (.bool true) m7 d λm8=>A.test m8 (
 q (.bool false) d) (A.r (Ya 0) g d λm9=>A.a m9 d λn0=>A.wr (Yy false [x3,n0,x2] d) d λ_ d=>A.b .add (h0 a1) (jv 1) d λn1=>g5 [n1] d)) (
 q (.bool true) d)) [jv 0] d)) [jv 0] d)
 |_=>A.stop
theorem g144_ok:GQ 144 4 g144:=gq4 [none,none,some [85],none,none,none,none,some [106],none,none,none] λ_ _ _ _ _ _ _ _=>by kernel_rfl
def g145:GFun:=λA xs d s=>match xs with
 |[x0,x1]=>
 A.w1 Xk x1 d λe d=>A.r (Ya 0) e d λv=>A.a v d λw=>A.k 147 [w] d λy d=>A.r (Qo .not) y d λi=>A.fr i (Ya 2) e d λz=>
 A.fa i z d λt6=>A.gw i false (λk=>A.k 187 [t6] d k) d λt7 d=>A.fr i (Qo .not) t7 d λt8=>A.c i (.bool true) t8 d λj=>A.fr j (Ya 3) e d λa0=>
 A.fa j a0 d λa1=>A.gw j false (λk=>A.k 187 [a1] d k) d λa2 d=>A.fr j (Qo .not) a2 d λa3=>A.c j (.bool true) a3 d λl=>A.fr l (Ya 4) e d λa4=>
 A.fa l a4 d λa5=>A.gw l false (λk=>A.k 187 [a5] d k) d λa6 d=>A.fr l (Qo .not) a6 d λa7=>A.c l (.bool true) a7 d λm=>A.fr m (Ya 5) e d λa8=>
 A.fa m a8 d λa9=>A.gw m false (λk=>A.k 187 [a9] d k) d λb0 d=>A.fr m (Qo .not) b0 d λb1=>A.c m (.bool true) b1 d λn=>A.fr n (Ya 6) e d λb2=>
 A.fa n b2 d λb3=>A.gw n false (λk=>A.k 187 [b3] d k) d λb4 d=>A.fr n (Qo .not) b4 d λb5=>A.c n (.bool true) b5 d λo=>A.fr o (Ya 7) e d λb6=>
 A.fa o b6 d λb7=>A.gw o false (λk=>A.k 187 [b7] d k) d λb8 d=>A.fr o (Qo .not) b8 d λb9=>A.c o (.bool true) b9 d λc0=>A.test c0 (s (.bool false) d) (
 A.r (Ya 1) e d λc1=>A.a c1 d λt=>A.tr t (Ya 4) e d λc2=>A.ta t c2 d λc3=>A.tb t .lss c3 (jv 1) d λc4=>A.c t c4 (.bool false) d λh=>
 A.fr h (Ya 1) e d λc5=>A.fa h c5 d λc6=>A.fr h (Qo .not) c6 d λc7=>A.fr h Qh c7 d λf=>A.tr f (Ya 3) e d λc8=>A.ta f c8 d λc9=>
 A.tr f (Ya 4) e d λd0=>A.ta f d0 d λd1=>A.tb f .add c9 d1 d λd2=>A.tr f (Ya 5) e d λd3=>A.ta f d3 d λd4=>A.tb f .add d2 d4 d λd5=>
 A.tr f (Ya 6) e d λd6=>A.ta f d6 d λd7=>A.tb f .add d5 d7 d λd8=>A.tr f (Ya 7) e d λd9=>A.ta f d9 d λe0=>A.tb f .add d8 e0 d λe1=>
 A.tb f .gtr e1 (jv 0) d λe2=>A.tr f Qh e2 d λg=>A.fr g (Ya 9) e d λe3=>A.fa g e3 d λe4=>A.fr g Qe e4 d λe5=>A.fr g (Ya 10) e d λe6=>
 A.fa g e6 d λe7=>A.fr g Qe e7 d λe8=>A.fb g .add e5 e8 d λe9=>A.fb g .gtr e9 (jv 0) d λf0=>A.tc f g (.bool true) f0 d λf1=>A.fc h f f1 (.bool false) d λf2=>
 A.c h (.bool true) f2 d λf3=>A.test f3 (s (.bool false) d) (A.r (Xc true 12) e d λf4=>A.k 110 [f4] d λf5 d=>A.b .gtr f5 (jv 200) d λf6=>A.test f6 (
 s (.bool false) d) (A.rd (Ye [.nils,.bool false] [(0,1),(1,1)] [x0,.bool true] d) λf7=>A.w1 Xk f7 d λf8 d=>A.rd (Ye [.nils,.bool false] [(0,1)] [x0] d) λf9=>
 A.w1 Xk f9 d λu d=>A.r (Ya 8) e d λg0=>A.a g0 d λg1=>A.k 188 [f8,g1,jv 1] d λp d=>A.tr p Qh u d λg2=>A.tr p (Ya 9) e d λg3=>
 A.ta p g3 d λg4=>A.gw p true (λk=>A.k 188 [g2,g4,jv 1] d k) d λg5 d=>A.c p g5 (.bool false) d λq=>A.tr q Qh u d λg6=>A.tr q (Ya 10) e d λg7=>
 A.ta q g7 d λg8=>A.gw q true (λk=>A.k 188 [g6,g8,jv 1] d k) d λg9 d=>A.c q g9 (.bool false) d λi0=>s i0 d)))
 |_=>A.stop
theorem g145_ok:GQ 145 2 g145:=gq2 [none,none,none] λ_ _ _ _ _ _=>by kernel_rfl
def g146:GFun:=λA xs d h=>match xs with
 |[x0,x1]=>
 A.loop (λq l d=>A.r Qe x1 d λt=>A.b .lss (h0 l) t d λu=>A.test u (joinK (λi=>A.s (Yc 14) x1 (h0 l) d λv=>A.r (Xc true 14) v d λw=>
 A.wr (Xe [.int .i8 0,.int .i8 0,.int .i8 0,jv 0,.int .i8 0,.nils,.str [],.int .i8 0,.int .i8 0,.str [],.nils,.nils,.nils,.nils] [] d) d λe d=>
 A.ws (Xb 14) e w d λ_ d=>A.r (Ya 0) e d λy=>A.a y d λf=>A.b .eql f (.int .i8 5) d λz=>A.test z (A.r (Ya 2) e d λa0=>A.r (Xc true 4) a0 d λa1=>
 A.k 191 [a1] d λa2 d=>A.k 190 [x0,a2] d λa3 d=>A.k 189 [a3,.int .i8 1] d λa4 d=>A.r (Qo .not) a4 d λa5=>A.test a5 (h (.bool false) d) (i [] d)) (
 A.b .eql f (.int .i8 8) d λa6=>A.test a6 (A.r (Ya 7) e d λa7=>A.r (Xc true 5) a7 d λa8=>A.k 192 [a8] d λa9 d=>A.k 190 [x0,a9] d λm d=>
 A.r (Ya 12) e d λb0=>A.a b0 d λb1=>A.k 146 [m,b1] d λb2 d=>A.r (Qo .not) b2 d λg=>A.fr g Qh m d λb3=>A.fr g (Ya 13) e d λb4=>
 A.fa g b4 d λb5=>A.gw g false (λk=>A.k 146 [b3,b5] d k) d λb6 d=>A.fr g (Qo .not) b6 d λb7=>A.c g (.bool true) b7 d λb8=>A.test b8 (h (.bool false) d) (
 i [] d)) (A.b .eql f (.int .i8 0) d λn=>joinK (λj=>A.test n (j [n] d) (A.b .eql f (.int .i8 1) d λo=>A.test o (j [o] d) (A.b .eql f (.int .i8 2) d λp=>
 A.test p (j [p] d) (A.b .eql f (.int .i8 3) d λb9=>j [b9] d)))) (λc0 d=>A.test (h0 c0) (A.r (Ya 2) e d λc1=>A.r (Xc true 4) c1 d λc2=>
 A.k 191 [c2] d λc3 d=>A.k 190 [x0,c3] d λc4 d=>A.b .neq c4 (.int .i8 0) d λc5=>A.test c5 (h (.bool false) d) (i [] d)) (A.k 190 [x0,x0] d λc6 d=>
 A.b .neq c6 (.int .i8 0) d λc7=>A.test c7 (h (.bool false) d) (i [] d)))))) (λv5 d=>A.b .add (h0 l) (jv 1) d λc8=>q [c8] d)) (h (.bool true) d)) [jv 0] d
 |_=>A.stop
theorem g146_ok:GQ 146 2 g146:=gq2 [none,some [5],none,some [],none,none,none,none,none,some [52],none,none,none,none,none] λ_ _ _ _ _ _=>by kernel_rfl
def g147:GFun:=λA xs a j=>match xs with
 |[x0]=>
 A.k 193 [x0,jv 0] a λh a=>A.r (Qd 0) h a λl=>A.r (Qd 1) h a λi=>A.b .geq i (jv 1) a λg=>A.tr g Qh i a λm=>A.tb g .leq m (jv 24) a λn=>
 A.c g n (.bool false) a λd=>A.tr d Qh l a λo=>A.tr d Qh x0 a λp=>A.tr d Zq p a λq=>A.tb d .eql o q a λs=>A.c d s (.bool false) a λe=>
 A.tr e Qh x0 a λt=>A.tr e Zq t a λu=>A.tb e .leq u (jv 40) a λv=>A.c e v (.bool false) a λf=>A.tr f Qh x0 a λw=>A.gw f true (λk=>A.k 194 [w] a k) a λy a=>
 A.tr f (Qo .not) y a λz=>A.c f z (.bool false) a λa0=>j a0 a
 |_=>A.stop
theorem g147_ok:GQ 147 1 g147:=gq1 [] λ_ _ _ _ _=>by kernel_rfl
def g148:GFun:=λA xs a f=>match xs with
 |[x0,x1]=>
 A.w1 Xk x0 a λh a=>A.loop (λi e a=>A.r Qe x1 a λj=>A.b .lss (h0 e) j a λl=>A.test l (A.dr (Xc true 2 [h] a) a λm n a=>A.dr (Yc 1 [x1,(h0 e)] a) a λo p a=>
 A.dr (Qg [o] a) a λq s a=>A.dcall (.call 195) [m,q] a λg t a=>A.pu (Qd 0 [g] a) λb1=>A.pu (Qd 1 [g] a) λu=>A.gd (Zi [[],[],[],[1,2],[1,2,3],[0,1,2,3,4],[0,1,2,3,4,5],[0,1,2,3,4,5,6],[0,1,2,3,4,5,6],[0,1,2,3,4,5,6,7],[0,1,2,3,4,5,6,7,8,9]] [n,([],[]),([],[]),p,s,t,([],[]),([],[]),([],[]),([],[]),([],[])]) <|
 A.loop (λv d a=>A.b .lss (h0 d) (h0 e) a λw=>A.test w (A.gr (h1 d) true (λk=>A.rd (Qh [x1] a) k) λy=>A.gr (h1 d) true (λk=>A.rd (Qh [(h0 d)] a) k) λz=>
 A.gr (h1 d) true (λk=>A.rd (Yc 1 [y,z] a) k) λa0=>A.gr (h1 d) true (λk=>A.rd (Qg [a0] a) k) λa1=>A.gr (h1 d) true (λk=>A.rd (Qh [x1] a) k) λa2=>
 A.gr (h1 d) true (λk=>A.rd (Qh [(h0 e)] a) k) λa3=>A.gr (h1 d) true (λk=>A.rd (Yc 1 [a2,a3] a) k) λa4=>A.gr (h1 d) true (λk=>A.rd (Qg [a4] a) k) λa5=>
 A.gr (h1 d) true (λk=>A.rd (Yi .neq false [a1,a5] a) k) λa6=>A.c (h1 d) a6 (.bool false) a λa7=>A.b .add (h0 d) (jv 1) a λa8=>v [a8,a7] a) (
 A.r (Qo .not) (h1 d) a λa9=>A.test a9 (f (.bool false) a) (A.b .add (h0 e) (jv 1) a λb0=>i [b0] a))) [jv 0,u] a) (f (.bool true) a)) [jv 0] a
 |_=>A.stop
theorem g148_ok:GQ 148 2 g148:=gq2 [none,some [5],none,none,none,some [8,7],none,none,none] λ_ _ _ _ _ _=>by kernel_rfl
def g149:GFun:=λA xs d j=>match xs with
 |[x0]=>
 A.wr (Xe [jv 0,jv 0] [] d) d λg d=>A.r Zq x0 d λt1=>A.b .gtr t1 (jv 65536) d λt2=>A.test t2 (A.rd (Ye [jv 0,jv 0] [(0,1)] [jv 3] d) λt3=>
 A.ws (Xb 2) g t3 d λ_ d=>A.opt (cellV true 2 g d) λr4=>j (.tup [.nils,r4]) d) (A.loop (λo e d=>A.r Zq x0 d λt7=>A.b .lss (h0 e) t7 d λt8=>
 A.test t8 (A.k 196 [x0,(h0 e)] d λt9 d=>A.r (Qd 0) t9 d λl=>A.r (Qd 1) t9 d λa7=>A.b .eql a7 (jv 0) d λa8=>A.test a8 (A.rd (Ye [jv 0,jv 0] [(0,1),(1,1)] [jv 110,(h0 e)] d) λa9=>
 A.ws (Xb 2) g a9 d λ_ d=>A.opt (cellV true 2 g d) λr14=>j (.tup [.nils,r14]) d) (A.b .eql l (jv 32) d λv=>A.fr v Qh l d λb0=>A.fb v .eql b0 (jv 10) d λb1=>
 A.c v (.bool true) b1 d λw=>A.fr w Qh l d λb2=>A.fb w .eql b2 (jv 13) d λb3=>A.c w (.bool true) b3 d λy=>A.fr y Qh l d λb4=>A.fb y .eql b4 (jv 9) d λb5=>
 A.c y (.bool true) b5 d λb6=>A.test b6 (A.b .add (h0 e) (jv 1) d λb7=>o [b7,(h1 e)] d) (A.b .eql l (jv 35) d λb8=>A.test b8 (A.loop (λb9 m d=>A.r Zq x0 d λc0=>
 A.b .lss (h0 m) c0 d λp=>A.tr p Qh x0 d λc1=>A.tr p Qh (h0 m) d λc2=>A.ts p Zy c1 c2 d λc3=>A.tb p .neq c3 (.int .u8 10) d λc4=>A.c p c4 (.bool false) d λc5=>
 A.test c5 (A.k 196 [x0,(h0 m)] d λa2 d=>A.r (Qd 0) a2 d λm2=>A.r (Qd 1) a2 d λa3=>A.b .eql a3 (jv 0) d λc6=>A.test c6 (A.rd (Ye [jv 0,jv 0] [(0,1),(1,1)] [jv 110,(h0 m)] d) λc7=>
 A.ws (Xb 2) g c7 d λ_ d=>A.opt (cellV true 2 g d) λr41=>j (.tup [.nils,r41]) d) (A.b .add (h0 m) a3 d λc8=>b9 [c8] d)) (o [(h0 m),(h1 e)] d)) [(h0 e)] d) (
 A.k 197 [l] d λc9 d=>A.test c9 (A.k 193 [x0,(h0 e)] d λa4 d=>A.r (Qd 0) a4 d λz=>A.r (Qd 1) a4 d λd0=>A.b .gtr d0 (jv 24) d λq=>
 A.fr q Qh z d λd1=>A.fr q Qh (h0 e) d λd2=>A.fb q .sub d1 d2 d λd3=>A.fb q .gtr d3 (jv 40) d λd4=>A.c q (.bool true) d4 d λd5=>A.test d5 (
 A.rd (Ye [jv 0,jv 0] [(0,1),(1,1)] [jv 3,(h0 e)] d) λd6=>A.ws (Xb 2) g d6 d λ_ d=>A.opt (cellV true 2 g d) λr54=>j (.tup [.nils,r54]) d) (
 A.rd (QV [x0,(h0 e),z] d) λd7=>A.rd (Ye [.int .i8 0,.str [],jv 0,jv 0] [(0,1),(1,1),(3,1)] [.int .i8 1,d7,(h0 e)] d) λd8=>
 A.wr (Xi 4 1 [.int .i8 0,.str [],jv 0,jv 0] [(0,4)] [d8] d) d λd9 d=>A.wr (Qi 4 40 [(h1 e),d9] d) d λe0 d=>o [z,e0] d)) (A.k 198 [l] d λe1 d=>
 A.test e1 (A.loop (λe2 i d=>A.r Zq x0 d λe3=>A.b .lss (h0 i) e3 d λn=>A.tr n Qh x0 d λe4=>A.tr n Qh (h0 i) d λe5=>A.ts n Zy e4 e5 d λe6=>
 A.tr n (Qaa .i64) e6 d λe7=>A.gw n true (λk=>A.k 198 [e7] d k) d λe8 d=>A.c n e8 (.bool false) d λe9=>A.test e9 (A.b .mul (h1 i) (jv 10) d λf0=>
 A.s Zy x0 (h0 i) d λf1=>A.b .sub f1 (.int .u8 48) d λf2=>A.r (Qaa .i64) f2 d λf3=>A.b .add f0 f3 d λf4=>A.s XR f4 (jv 1000) d λf5=>
 A.b .add (h0 i) (jv 1) d λf6=>e2 [f6,f5] d) (A.s Zy x0 (h0 e) d λf7=>A.b .eql f7 (.int .u8 48) d λt=>A.tr t Qh (h0 i) d λf8=>A.tr t Qh (h0 e) d λf9=>
 A.tb t .add f9 (jv 1) d λg0=>A.tb t .gtr f8 g0 d λg1=>A.c t g1 (.bool false) d λg2=>A.test g2 (A.rd (Ye [jv 0,jv 0] [(0,1),(1,1)] [jv 110,(h0 e)] d) λg3=>
 A.ws (Xb 2) g g3 d λ_ d=>A.opt (cellV true 2 g d) λr85=>j (.tup [.nils,r85]) d) (A.b .gtr (h1 i) (jv 999) d λg4=>A.test g4 (A.rd (Ye [jv 0,jv 0] [(0,1),(1,1)] [jv 3,(h0 e)] d) λg5=>
 A.ws (Xb 2) g g5 d λ_ d=>A.opt (cellV true 2 g d) λr88=>j (.tup [.nils,r88]) d) (A.rd (Ye [.int .i8 0,.str [],jv 0,jv 0] [(0,1),(2,1),(3,1)] [.int .i8 2,(h1 i),(h0 e)] d) λg6=>
 A.wr (Xi 4 1 [.int .i8 0,.str [],jv 0,jv 0] [(0,4)] [g6] d) d λg7 d=>A.wr (Qi 4 40 [(h1 e),g7] d) d λg8 d=>o [(h0 i),g8] d)))) [(h0 e),jv 0] d) (
 A.k 199 [] d λa5 d=>A.loop (λg9 f d=>A.r Qe a5 d λi0=>A.b .lss (h0 f) i0 d λa0=>A.tr a0 Qh (h1 f) d λi1=>A.tr a0 (Qo .not) i1 d λi2=>
 A.c a0 i2 (.bool false) d λi3=>A.test i3 (joinK (λa6=>A.s (Yc 1) a5 (h0 f) d λi4=>A.a i4 d λu=>A.r Zq u d λi5=>A.b .add (h2 f) i5 d λi6=>
 A.r Zq x0 d λi7=>A.b .leq i6 i7 d λh=>A.tr h Qh x0 d λi9=>A.tr h Qh (h2 f) d λj0=>A.tr h Qh (h2 f) d λj1=>A.tr h Qh u d λj2=>
 A.tr h Zq j2 d λj3=>A.tb h .add j1 j3 d λj4=>A.got h (QV [i9,j0,j4] d) λj5=>A.tr h Qh u d λj6=>A.tb h .eql j5 j6 d λj7=>A.c h j7 (.bool false) d λj8=>
 A.test j8 (A.rd (Ye [.int .i8 0,.str [],jv 0,jv 0] [(0,1),(1,1),(3,1)] [.int .i8 3,u,(h2 f)] d) λj9=>A.wr (Xi 4 1 [.int .i8 0,.str [],jv 0,jv 0] [(0,4)] [j9] d) d λl0 d=>
 A.wr (Qi 4 40 [(h3 f),l0] d) d λl1 d=>A.r Zq u d λl2=>A.b .add (h2 f) l2 d λl3=>a6 [.bool true,l3,l1] d) (a6 [(h1 f),(h2 f),(h3 f)] d)) (λa1 d=>
 A.b .add (h0 f) (jv 1) d λl4=>g9 [l4,(h0 a1),(h1 a1),(h2 a1)] d)) (A.r (Qo .not) (h1 f) d λl5=>A.test l5 (A.rd (Ye [jv 0,jv 0] [(0,1),(1,1)] [jv 110,(h2 f)] d) λl6=>
 A.ws (Xb 2) g l6 d λ_ d=>A.opt (cellV true 2 g d) λr126=>j (.tup [.nils,r126]) d) (o [(h2 f),(h3 f)] d))) [jv 0,.bool false,(h0 e),(h1 e)] d)))))) (
 A.r Zq x0 d λl7=>A.rd (Ye [.int .i8 0,.str [],jv 0,jv 0] [(0,1),(3,1)] [.int .i8 0,l7] d) λl8=>A.wr (Xi 4 1 [.int .i8 0,.str [],jv 0,jv 0] [(0,4)] [l8] d) d λl9 d=>
 A.wr (Qi 4 40 [(h1 e),l9] d) d λm0 d=>A.rd (Ye [jv 0,jv 0] [] [] d) λm1=>A.ws (Xb 2) g m1 d λ_ d=>A.opt (cellV true 2 g d) λr132=>
 j (.tup [m0,r132]) d)) [jv 0,.nils] d)
 |_=>A.stop
theorem g149_ok:GQ 149 1 g149:=gq1 [none,none,some [5,4],none,none,none,none,none,none,some [5],none,none,none,none,none,none,none,some [12,13],none,none,none,none,none,some [16,15,5,4],none,some [15,5,4],none,none] λ_ _ _ _ _=>by kernel_rfl
def g150:GFun:=λA xs c d=>match xs with
 |[x0]=>
 A.r Qa x0 c λe=>A.r (Ya 3) e c λf=>A.r (Ya 0) f c λg=>A.a g c λh=>A.b .eql h (jv 0) c λi=>d i c
 |_=>A.stop
theorem g150_ok:GQ 150 1 g150:=gq1 [] λ_ _ _ _ _=>by kernel_rfl
end Go.Ah.Tz
end
section
namespace Go.Ah.Tz
open Go.Proofs.Tryz (prog)
attribute [local irreducible] Ans.rd Ans.pu Ans.wr Ans.dr Ans.gr Ans.gw Ans.gl Ans.gd Ans.opt joinK W
def wIn(n:Int):Bool:=decide (-1000000≤n)&&decide (n≤1000000)
theorem c116(n:Int):PC 116 [iv n] (.bool (wIn n)):=by
 refine Qc hP g116_ok rfl rfl ?_;unfold g116;refine Za rfl ?_;rcases YBE (decide (n ≥ -1000000)) with h|h
 ·rw[h];repeat first|refine Za rfl ?_|refine Xf rfl rfl ?_|refine Xa ?_|refine Zb ?_
  have h':-1000000≤n:=by simpa using h
  simp[wIn,h']
 ·rw[h];repeat first|refine Yb rfl ?_|refine Zc rfl ?_|refine Zd rfl ?_|refine Xd rfl ?_|refine Za rfl ?_|refine Xf rfl rfl ?_
  have h':¬ -1000000≤n:=by simpa using h
  simp[wIn,h']
theorem c57(n:Int):PC 57 [iv n] (.bool (wIn n)):=by
 refine Qc hP g57_ok rfl rfl ?_;unfold g57;refine Za rfl ?_;rcases YBE (decide (n ≥ -1000000)) with h|h
 ·rw[h];repeat first|refine Za rfl ?_|refine Xf rfl rfl ?_|refine Xa ?_|refine Zb ?_
  have h':-1000000≤n:=by simpa using h
  simp[wIn,h']
 ·rw[h];repeat first|refine Yb rfl ?_|refine Zc rfl ?_|refine Zd rfl ?_|refine Xd rfl ?_|refine Za rfl ?_|refine Xf rfl rfl ?_
  have h':¬ -1000000≤n:=by simpa using h
  simp[wIn,h']
def Xn(n:Nat)(l:List Int)(most:Int):Bool:=decide ((l.length:Int)≤most)&&l.all λc=>decide (0≤c)&&decide (c<n)
theorem c117(b:Bk)(l:List Int)(most:Int)(hl:l.length≤1000000000):PC 117 [bkV b,rowV l,iv most] (.bool (Xn b.cards.length l most)):=by
 refine Qc hP g117_ok rfl rfl ?_;unfold g117;repeat first|refine Za rfl ?_|refine Xf rfl rfl ?_|refine Xa ?_|refine Zb ?_
 refine Qb (λh=>?_) (λh=>?_)
 ·have h:most<l.length:=by simpa using h
  have h':¬(l.length:Int)≤most:=by omega
  simp[Xn,h']
 have hm:(l.length:Int)≤most:=by simpa using h
 refine Qk (ι:=Nat) (λi vs σ=>vs=[iv i]∧σ=[.box [cdV b.cards,foV b.formats]]∧i≤l.length∧∀j (hj:j<l.length),j<i→0≤l[j]∧l[j]<b.cards.length) (λi=>l.length-i) 0 ⟨rfl,rfl,by omega,λj _ h=>by omega⟩ ?_;rintro i vs σ again ⟨rfl,rfl,hi,hb⟩ hag;repeat first|refine Za rfl ?_|refine Xf rfl rfl ?_|refine Xa ?_|refine Zb ?_
 refine Qb (λh=>?_) (λh=>?_)
 ·have h:i<l.length:=by simpa using h
  refine Za (Yo _ cel _ _ _ l _ i h) ?_;repeat first|refine Za rfl ?_|refine Xf rfl rfl ?_|refine Xa ?_|refine Zb ?_
  have bad:¬(0≤l[i]∧l[i]<b.cards.length)→AVal.bool false=AVal.bool (Xn b.cards.length l most):=by
   intro hn;have:Xn b.cards.length l most=false:=by
    simp only[Xn,Bool.and_eq_false_iff];right;rw[List.all_eq_false];refine⟨l[i],List.getElem_mem h,?_⟩;simpa using hn
   rw[this]
  rcases YBE (decide (l[i]<0)) with h2|h2
  ·rw[h2];repeat first|refine Yb rfl ?_|refine Zc rfl ?_|refine Zd rfl ?_|refine Xd rfl ?_|refine Za rfl ?_|refine Xf rfl rfl ?_
   refine Ze (bad ?_);have:l[i]<0:=by simpa using h2
   omega
  rw[h2];repeat first|refine Xa ?_|refine Za rfl ?_
  refine Za (Yo _ cel _ _ _ l _ i h) ?_;repeat first|refine Za rfl ?_|refine Xf rfl rfl ?_|refine Xa ?_|refine Zb ?_
  have h2:¬l[i]<0:=by simpa using h2
  refine Qb (λh3=>?_) (λh3=>?_)
  ·refine bad ?_;have:(b.cards.length:Int)≤l[i]:=by simpa using h3
   omega
  ·have:¬(b.cards.length:Int)≤l[i]:=by simpa using h3
   refine Za rfl ?_;rw[Yg (n:=i) (by omega)];refine hag (i+1) _ _ (by omega) ⟨rfl,rfl,by omega,λj hj hji=>?_⟩;by_cases e:j=i
   ·subst e; omega
   ·exact hb j hj (by omega)
 ·have h:¬i<l.length:=by simpa using h
  have:Xn b.cards.length l most=true:=by
   simp only[Xn,Bool.and_eq_true,decide_eq_true_eq,List.all_eq_true];refine⟨hm,λx hx=>?_⟩;obtain⟨j,hj,rfl⟩:=List.getElem_of_mem hx;exact hb j hj (by omega)
  rw[this]
end Go.Ah.Tz
end
section
namespace Go.Ah.Tz
open Go.Proofs.Tryz (prog)
theorem ld{σ:List ABlk}{b j n:Nat}{agg:Bool}{row:List AVal}{v:AVal}(hb:hget σ b=.box row)(hv:partA agg j n row=some v):Xc agg n [.bptr b j] σ=.ok v [b] []:=by
 rw[Yb6,hb]; simp only[hv]
theorem stv{σ:List ABlk}{b j n:Nat}{x:AVal}{cs row row':List AVal}(hb:hget σ b=.box row)(hc:cellsOf x=some cs)(hn:Nat.beq cs.length n=true)(hs:splice j cs row=some row'):Xb n [.bptr b j,x] σ=.ok .junk [] [(b,.box row')]:=by
 rw[YbO,hb]; simp only[hc,hn,cond_true,hs]
theorem Xz{P:Program}{GL:Globs}{σ:List ABlk}{z:List AVal}{n:Nat}{x:AVal}{row row':List AVal}{K:AVal→AVal→List ABlk→Prop}(hc:cellsOf x=some row)(hn:Nat.beq row.length n=true)(hs:splice 0 row z=some row')
 (hK:K (.bptr σ.length 0) .junk (σ++[.box row'])):(W P GL).wr (Xe z [] σ) σ (λt σ'=>(W P GL).wr (Xb n [t,x] σ') σ' (K t)):=by
 refine Xf (Xcq σ z) (QL _ _) ?_;refine Xf (stv (Yl _ _) hc hn hs) (Yz _ (by simp)) ?_;have:(σ++[ABlk.box z]).set σ.length (.box row')=σ++[.box row']:=by
  rw[List.set_append_right _ _ (Nat.le_refl _)]; simp
 rw[this]; exact hK
def BX(σ σ':List ABlk):Prop:=∀c r,hget σ c=.box r→hget σ' c=.box r
theorem BX.trans{a b c:List ABlk}(h:BX a b)(k:BX b c):BX a c:=λx r e=>k x r (h x r e)
theorem BX.app(σ l:List ABlk):BX σ (σ++l):=λ_ _ h=>Qm l h (by simp)
theorem Grows.more{n k:Nat}{rows:List (List AVal)}{v:AVal}{σ:List ABlk}(h:Grows n rows k v σ)(l:List ABlk):Grows n rows k v (σ++l):=by
 rcases h with h|⟨h1,b,h2,h3,h4⟩
 ·exact .inl h
 ·exact .inr ⟨h1,b,h2,Qm l h3 (by simp),h4⟩
theorem Grows.len{n k:Nat}{rows:List (List AVal)}{v:AVal}{σ:List ABlk}(h:Grows n rows k v σ)(σ':List ABlk):Qe [v] σ'=.ok (.int .i64 k) [] []:=by
 rcases h with ⟨rfl,rfl,_⟩|⟨_,b,rfl,_,_⟩<;>rfl
theorem Grows.at{n k:Nat}{rows:List (List AVal)}{v:AVal}{σ:List ABlk}(h:Grows n rows k v σ)(q:IntKind)(j:Nat)(hj:j<k) :
  ∃b,Yc n [v,.int q (j:Int)] σ=.ok (.ptr b j 0) [b] []∧∃hj:j<rows.length,∀agg m w,partA agg 0 m rows[j]=some w→Xc agg m [.ptr b j 0] σ=.ok w [b] []:=by
 rcases h with ⟨rfl,rfl,_⟩|⟨_,b,rfl,hb,hl⟩
 ·omega
 ·refine⟨b,?_,by omega,λagg m w hw=>?_⟩
  ·have:=ZcE σ b 0 k false n rows q j hj hb
   rwa [Nat.zero_add] at this
  ·show (match hget σ b with
   |.rows _ rs=>match nth rs j with
    |some row=>match partA agg 0 m row with
     |some v=>SRes.ok v [b] []
     |none=>.stop
    |none=>.stop
   | _=>.stop)=_
   rw[hb];simp only[Y1,List.getElem?_eq_getElem (show j<rows.length by omega),hw]
theorem Grows.app'{α:Type}(A:Ans α){hold:α→Prop}{n by_ k:Nat}{rows:List (List AVal)}{v:AVal}{σ:List ABlk}{row:List AVal}(hg:Grows n rows k v σ)(hr:row.all AVal.cell=true)(hroom:(2*(k+1)+192)*by_≤2 ^ 48)(K:AVal→List ABlk→α)
 (hK:∀v' σ',BX σ σ'→Grows n (rows++[row]) (k+1) v' σ'→hold (K v' σ')):hold (A.wr (Qi n by_ [v,.sl σ.length 0 1 true] (σ++[.rows n [row]])) (σ++[.rows n [row]]) K):=by
 rcases hg with ⟨rfl,rfl,rfl⟩|⟨hk,b,rfl,hb,hl⟩
 ·rw[QaP A n by_ σ row hr (by simpa using hroom)];exact hK _ _ ((BX.app _ _).trans (BX.app _ _)) (.inr ⟨by omega,_,rfl,by have:=Yl (σ++[.rows n [row]]) (.rows n [row]); simpa using this,rfl⟩)
 ·rw[Qba A n by_ σ b k false rows row hb hl hr hroom];refine hK _ _ (BX.trans (λc r hc=>?_) ((BX.app (σ.set b .dead) _).trans (BX.app _ _))) (.inr ⟨by omega,_,rfl,?_,by simp[hl]⟩)
  ·refine Xv hc (by simp) ?_;rintro rfl;rw[hb] at hc; cases hc
  ·have:=Yl (σ.set b .dead++[.rows n [row]]) (.rows n (rows++[row]));simpa using this
theorem Zbz{α:Type}(σ:List ABlk)(f:α→List AVal)(e n:Bool)(s:Nat)(l:List α)(k:IntKind)(c:Int)(h0:0≤c)(h:c.toNat<l.length):Yc s [.rsl e n s (l.map f),.int k c] σ=.ok (.rptr (f l[c.toNat]) 0) [] []:=by
 obtain⟨m,rfl⟩:=Int.eq_ofNat_of_zero_le h0;exact Yo σ f e n s l k m (by simpa using h)
def Xu(b:Bk)(next:Int)(u:Th):Bool:=decide (0≤u.card)&&(decide (u.card<b.cards.length)&&(((b.cards[u.card.toNat]?).map Cd.unit).getD false&&(decide (0≤u.harm)&&(decide (u.harm≤1000000)&&(decide (1≤u.id)&&decide (u.id<next))))))
def Qr(b:Bk)(next:Int):List Int→List Th→Bool
 |_,[]=>true
 |ids,u::l=>Xu b next u&&(!(ids.contains u.id)&&Qr b next (ids++[u.id]) l)
def Xl(n:Nat)(x:Sd):Bool:=wIn x.life&&(decide (0≤x.mana)&&(wIn x.mana&&(decide (0≤x.most)&&(decide (x.most≤10)&&(Xn n x.deck 60&&(Xn n x.hand 10&&(Xn n x.grave 1000000&&(Xn n x.told 1000000&&decide (x.units.length≤7)))))))))
def Xr(b:Bk)(s:St):Bool:=Xl b.cards.length s.s0&&(Qr b s.next [] s.s0.units&&(Xl b.cards.length s.s1&&Qr b s.next (s.s0.units.map Th.id) s.s1.units))
end Go.Ah.Tz
end
section
namespace Go.Ah.Tz
open Go.Proofs.Tryz (prog)
attribute [local irreducible] Ans.rd Ans.pu Ans.wr Ans.dr Ans.gr Ans.gw Ans.gl Ans.gd Ans.opt joinK W
set_option maxHeartbeats 2000000
theorem c68(b:Bk)(s:St)(hs:StLe 1000000000 s):PC 68 [bkV b,stV s] (.bool (Xr b s)):=by
 refine Qc hP g68_ok rfl rfl ?_;unfold g68;have w1:IntKind.i64.wrap (0+1)=1:=by decide
 have w2:IntKind.i64.wrap (1+1)=2:=by decide
 repeat first|refine Za rfl ?_|refine Xf rfl rfl ?_
 have hB0:hget ([]++[ABlk.box [cdV b.cards,foV b.formats]]++[ABlk.box (stC s)]) 0=.box [cdV b.cards,foV b.formats]:=rfl;have hB1:hget ([]++[ABlk.box [cdV b.cards,foV b.formats]]++[ABlk.box (stC s)]) 1=.box (stC s):=rfl;have hg:Grows 1 (([]:List Int).map cel) 0 .nils ([]++[ABlk.box [cdV b.cards,foV b.formats]]++[ABlk.box (stC s)]):=Grows.nil _ _;generalize ([]++[ABlk.box [cdV b.cards,foV b.formats]]++[ABlk.box (stC s)]:List ABlk)=σ at hB0 hB1 hg ⊢;refine YB 3 (Yj ?_);refine Za rfl (Ze ?_);refine Za rfl (Za rfl (Za (ld hB1 rfl) ?_));refine Xz rfl rfl rfl ?_;have hB2:hget (σ++[.box (sdC s.s0)]) σ.length=.box (sdC s.s0):=Yl _ _
 replace hB0:=Qm [.box (sdC s.s0)] hB0 (by simp)
 replace hB1:=Qm [.box (sdC s.s0)] hB1 (by simp)
 replace hg:=hg.more [.box (sdC s.s0)]
 generalize hN:σ.length=N at hB2 ⊢;clear hN;generalize (σ++[ABlk.box (sdC s.s0)]:List ABlk)=σ2 at hB0 hB1 hB2 hg ⊢;have bad:Xl b.cards.length s.s0=false→AVal.bool false=AVal.bool (Xr b s):=by intro h; simp[Xr,h]
 repeat first|refine Xa ?_|refine Zb ?_|refine Za (ld hB2 rfl) ?_|refine Za rfl ?_
 refine Yd (c116 _) rfl g116_ok.plain rfl ?_;refine Za rfl ?_;rcases YBE (!wIn s.s0.life) with a1|a1
 ·rw[a1];repeat first|refine Yb rfl ?_|refine Zc rfl ?_|refine Zd rfl ?_|refine Xd rfl ?_|refine Za rfl ?_
  refine Ze (bad ?_);simp at a1;simp[Xl,a1]
 rw[a1];repeat first|refine Xa ?_|refine Zb ?_|refine Za (ld hB2 rfl) ?_|refine Za rfl ?_
 rcases YBE (decide (s.s0.mana<0)) with a2|a2
 ·rw[a2];repeat first|refine Yb rfl ?_|refine Zc rfl ?_|refine Zd rfl ?_|refine Xd rfl ?_|refine Za rfl ?_
  refine Ze (bad ?_);simp at a2;simp[Xl,show ¬0≤s.s0.mana by omega]
 rw[a2];repeat first|refine Xa ?_|refine Zb ?_|refine Za (ld hB2 rfl) ?_|refine Za rfl ?_
 refine Yd (c116 _) rfl g116_ok.plain rfl ?_;repeat first|refine Xa ?_|refine Zb ?_|refine Za (ld hB2 rfl) ?_|refine Za rfl ?_
 rcases YBE (!wIn s.s0.mana) with a3|a3
 ·rw[a3];repeat first|refine Yb rfl ?_|refine Zc rfl ?_|refine Zd rfl ?_|refine Xd rfl ?_|refine Za rfl ?_
  refine Ze (bad ?_);simp at a3;simp[Xl,a3]
 rw[a3];repeat first|refine Xa ?_|refine Zb ?_|refine Za (ld hB2 rfl) ?_|refine Za rfl ?_
 rcases YBE (decide (s.s0.most<0)) with a4|a4
 ·rw[a4];repeat first|refine Yb rfl ?_|refine Zc rfl ?_|refine Zd rfl ?_|refine Xd rfl ?_|refine Za rfl ?_
  refine Ze (bad ?_);simp at a4;simp[Xl,show ¬0≤s.s0.most by omega]
 rw[a4];repeat first|refine Xa ?_|refine Zb ?_|refine Za (ld hB2 rfl) ?_|refine Za rfl ?_
 refine Qb (λa5=>bad ?_) (λa5=>?_)
 ·have a5:10<s.s0.most:=by simpa using a5
  simp[Xl,show ¬s.s0.most≤10 by omega]
 refine Za (ld hB0 rfl) ?_;repeat first|refine Xa ?_|refine Zb ?_|refine Za (ld hB2 rfl) ?_|refine Za rfl ?_
 refine Yd (c117 _ _ _ hs.s0.deck) rfl g117_ok.plain rfl ?_;refine Za rfl ?_;rcases YBE (!Xn b.cards.length s.s0.deck 60) with a6|a6
 ·rw[a6];repeat first|refine Yb rfl ?_|refine Zc rfl ?_|refine Zd rfl ?_|refine Xd rfl ?_|refine Za rfl ?_
  refine Ze (bad ?_);simp at a6;simp[Xl,a6]
 rw[a6];repeat first|refine Xa ?_|refine Zb ?_|refine Za (ld hB2 rfl) ?_|refine Za (ld hB0 rfl) ?_|refine Za rfl ?_
 refine Yd (c117 _ _ _ hs.s0.hand) rfl g117_ok.plain rfl ?_;repeat first|refine Xa ?_|refine Zb ?_|refine Za (ld hB2 rfl) ?_|refine Za (ld hB0 rfl) ?_|refine Za rfl ?_
 rcases YBE (!Xn b.cards.length s.s0.hand 10) with a7|a7
 ·rw[a7];repeat first|refine Yb rfl ?_|refine Zc rfl ?_|refine Zd rfl ?_|refine Xd rfl ?_|refine Za rfl ?_
  refine Ze (bad ?_);simp at a7;simp[Xl,a7]
 rw[a7];repeat first|refine Xa ?_|refine Zb ?_|refine Za (ld hB2 rfl) ?_|refine Za (ld hB0 rfl) ?_|refine Za rfl ?_
 refine Yd (c117 _ _ _ hs.s0.grave) rfl g117_ok.plain rfl ?_;repeat first|refine Xa ?_|refine Zb ?_|refine Za (ld hB2 rfl) ?_|refine Za (ld hB0 rfl) ?_|refine Za rfl ?_
 rcases YBE (!Xn b.cards.length s.s0.grave 1000000) with a8|a8
 ·rw[a8];repeat first|refine Yb rfl ?_|refine Zc rfl ?_|refine Zd rfl ?_|refine Xd rfl ?_|refine Za rfl ?_
  refine Ze (bad ?_);simp at a8;simp[Xl,a8]
 rw[a8];repeat first|refine Xa ?_|refine Zb ?_|refine Za (ld hB2 rfl) ?_|refine Za (ld hB0 rfl) ?_|refine Za rfl ?_
 refine Yd (c117 _ _ _ hs.s0.told) rfl g117_ok.plain rfl ?_;repeat first|refine Xa ?_|refine Zb ?_|refine Za (ld hB2 rfl) ?_|refine Za (ld hB0 rfl) ?_|refine Za rfl ?_
 rcases YBE (!Xn b.cards.length s.s0.told 1000000) with a9|a9
 ·rw[a9];repeat first|refine Yb rfl ?_|refine Zc rfl ?_|refine Zd rfl ?_|refine Xd rfl ?_|refine Za rfl ?_
  refine Ze (bad ?_);simp at a9;simp[Xl,a9]
 rw[a9];repeat first|refine Xa ?_|refine Zb ?_|refine Za (ld hB2 rfl) ?_|refine Za (ld hB0 rfl) ?_|refine Za rfl ?_
 refine Qb (λa10=>bad ?_) (λa10=>?_)
 ·have a10:7<s.s0.units.length:=by simp at a10; omega
  simp[Xl,show ¬s.s0.units.length≤7 by omega]
 have hds0:Xl b.cards.length s.s0=true:=by
  simp at a1 a2 a3 a4 a5 a6 a7 a8 a9 a10;simp[Xl,a1,a2,a3,a4,a5,a6,a7,a8,a9]; omega
 have a10':s.s0.units.length≤7:=by simp at a10; omega
 clear a1 a2 a3 a4 a5 a6 a7 a8 a9 a10 bad;have badu:Qr b s.next [] s.s0.units=false→AVal.bool false=AVal.bool (Xr b s):=by intro h; simp[Xr,h]
 refine Qk (ι:=Nat) (λi vs σ=>∃v,vs=[iv i,v]∧i≤s.s0.units.length∧Grows 1 (([]++(s.s0.units.take i).map Th.id).map cel) (0+i) v σ∧hget σ 0=.box [cdV b.cards,foV b.formats]∧hget σ 1=.box (stC s)∧hget σ N=.box (sdC s.s0)∧Qr b s.next [] s.s0.units=Qr b s.next ([]++(s.s0.units.take i).map Th.id) (s.s0.units.drop i)) (λi=>s.s0.units.length-i) 0 ⟨_,rfl,by omega,(by simp only[Ah.h1,hdV,tlV,List.take_zero,List.map_nil,List.append_nil,Nat.add_zero]; exact hg),hB0,hB1,hB2,by simp⟩ ?_;clear hB0 hB1 hB2 hg;rintro i vs σ3 again ⟨v,rfl,hi,hg,hB0,hB1,hB2,hu⟩ hag;repeat first|refine Xa ?_|refine Zb ?_|refine Za (ld hB2 rfl) ?_|refine Za rfl ?_
 refine Qb (λh=>?_) (λh=>?_)
 ·have h:i<s.s0.units.length:=by simpa using h
  have hdr:s.s0.units.drop i=s.s0.units[i]::s.s0.units.drop (i+1):=by rw[YLD h]
  rw[hdr] at hu;repeat first|refine Xa ?_|refine Zb ?_|refine Za (ld hB2 rfl) ?_|refine Za rfl ?_
  refine Za (Yo _ thC _ _ _ _ _ i h) ?_;refine Za rfl ?_;refine Xz rfl rfl rfl ?_;generalize hU:s.s0.units[i]=u at hu hdr;have hB3:hget (σ3++[.box (thC u)]) σ3.length=.box (thC u):=Yl _ _
  replace hB0:=Qm [.box (thC u)] hB0 (by simp)
  replace hB1:=Qm [.box (thC u)] hB1 (by simp)
  replace hB2:=Qm [.box (thC u)] hB2 (by simp)
  replace hg:=hg.more [.box (thC u)]
  generalize hN:σ3.length=N3 at hB3 ⊢;clear hN;simp only[AVal.cell];generalize hσ4:(σ3++[ABlk.box (thC u)]:List ABlk)=σ4 at hB0 hB1 hB2 hB3 hg;have hσ5:(σ3++[ABlk.box [iv u.id,iv u.card,iv u.harm,.bool u.tired]]:List ABlk)=σ4:=hσ4
  first|rw[hσ5]|rw[hσ4]|skip
  have badq:Xu b s.next u=false→AVal.bool false=AVal.bool (Xr b s):=by intro h; apply badu; rw[hu]; simp[Qr,h]
  repeat first|refine Xa ?_|refine Zb ?_|refine Za (ld hB3 rfl) ?_|refine Za (ld hB0 rfl) ?_|refine Za (ld hB1 rfl) ?_|refine Za rfl ?_
  rcases YBE (decide (u.card<0)) with q1|q1
  ·rw[q1];repeat first|refine Yb rfl ?_|refine Zc rfl ?_|refine Zd rfl ?_|refine Xd rfl ?_|refine Za rfl ?_
   refine Ze (badq ?_);simp at q1;simp[Xu,show ¬0≤u.card by omega]
  rw[q1];repeat first|refine Xa ?_|refine Zb ?_|refine Za (ld hB3 rfl) ?_|refine Za (ld hB0 rfl) ?_|refine Za (ld hB1 rfl) ?_|refine Za rfl ?_
  rcases YBE (decide (u.card ≥ (b.cards.map cdC).length)) with q2|q2
  ·rw[q2];repeat first|refine Yb rfl ?_|refine Zc rfl ?_|refine Zd rfl ?_|refine Xd rfl ?_|refine Za rfl ?_
   refine Ze (badq ?_);simp at q2;simp[Xu,show ¬u.card<b.cards.length by omega]
  rw[q2];simp at q1 q2;have hc:u.card.toNat<b.cards.length:=by omega
  have hcu:b.cards[u.card.toNat]?=some b.cards[u.card.toNat]:=by simp[hc]
  repeat first|refine Xa ?_|refine Zb ?_|refine Za (ld hB3 rfl) ?_|refine Za (ld hB0 rfl) ?_|refine Za (ld hB1 rfl) ?_|refine Za rfl ?_
  refine Za (Zbz _ cdC _ _ _ _ _ _ (by omega) hc) ?_;repeat first|refine Xa ?_|refine Zb ?_|refine Za (ld hB3 rfl) ?_|refine Za (ld hB0 rfl) ?_|refine Za (ld hB1 rfl) ?_|refine Za rfl ?_
  rcases YBE (!(b.cards[u.card.toNat]).unit) with q3|q3
  ·rw[q3];repeat first|refine Yb rfl ?_|refine Zc rfl ?_|refine Zd rfl ?_|refine Xd rfl ?_|refine Za rfl ?_
   refine Ze (badq ?_);simp at q3;simp[Xu,hcu,q3]
  rw[q3];repeat first|refine Xa ?_|refine Zb ?_|refine Za (ld hB3 rfl) ?_|refine Za (ld hB0 rfl) ?_|refine Za (ld hB1 rfl) ?_|refine Za rfl ?_
  rcases YBE (decide (u.harm<0)) with q4|q4
  ·rw[q4];repeat first|refine Yb rfl ?_|refine Zc rfl ?_|refine Zd rfl ?_|refine Xd rfl ?_|refine Za rfl ?_
   refine Ze (badq ?_);simp at q4;simp[Xu,show ¬0≤u.harm by omega]
  rw[q4];repeat first|refine Xa ?_|refine Zb ?_|refine Za (ld hB3 rfl) ?_|refine Za (ld hB0 rfl) ?_|refine Za (ld hB1 rfl) ?_|refine Za rfl ?_
  rcases YBE (decide (u.harm>1000000)) with q5|q5
  ·rw[q5];repeat first|refine Yb rfl ?_|refine Zc rfl ?_|refine Zd rfl ?_|refine Xd rfl ?_|refine Za rfl ?_
   refine Ze (badq ?_);simp at q5;simp[Xu,show ¬u.harm≤1000000 by omega]
  rw[q5];repeat first|refine Xa ?_|refine Zb ?_|refine Za (ld hB3 rfl) ?_|refine Za (ld hB0 rfl) ?_|refine Za (ld hB1 rfl) ?_|refine Za rfl ?_
  rcases YBE (decide (u.id<1)) with q6|q6
  ·rw[q6];repeat first|refine Yb rfl ?_|refine Zc rfl ?_|refine Zd rfl ?_|refine Xd rfl ?_|refine Za rfl ?_
   refine Ze (badq ?_);simp at q6;simp[Xu,show ¬1≤u.id by omega]
  rw[q6];repeat first|refine Xa ?_|refine Zb ?_|refine Za (ld hB3 rfl) ?_|refine Za (ld hB0 rfl) ?_|refine Za (ld hB1 rfl) ?_|refine Za rfl ?_
  refine Qb (λq7=>badq ?_) (λq7=>?_)
  ·have q7:s.next≤u.id:=by simpa using q7
   simp[Xu,show ¬u.id<s.next by omega]
  have hok:Xu b s.next u=true:=by
   simp at q3 q4 q5 q6 q7;simp[Xu,hcu,q3]; omega
  rw[Qr,hok,Bool.true_and] at hu;generalize hids:[]++(s.s0.units.take i).map Th.id=ids at hg hu;have hkl:ids.length=0+i:=by rw[←hids]; simp[List.length_take,Nat.min_eq_left hi]
  refine Qk (ι:=Nat) (λj vs σ=>vs=[iv j]∧σ=σ4∧j≤ids.length∧∀m (hm:m<ids.length),m<j→ids[m]≠u.id) (λj=>ids.length-j) 0 ⟨rfl,rfl,by omega,λm _ h=>by omega⟩ ?_;rintro j vs σ again2 ⟨rfl,rfl,hj,hb2⟩ hag2;refine Za (hg.len _) (Za rfl ?_);refine Qb (λh2=>?_) (λh2=>?_)
  ·have h2:j<ids.length:=by rw[hkl]; simp at h2; omega
   obtain⟨bb,e1,hjl,e2⟩:=hg.at .i64 j (by omega);refine Za e1 ?_;refine Za (e2 false 1 (iv ids[j]) (by simp[cel])) ?_;repeat first|refine Xa ?_|refine Zb ?_|refine Za (ld hB3 rfl) ?_|refine Za (ld hB0 rfl) ?_|refine Za (ld hB1 rfl) ?_|refine Za rfl ?_
   refine Qb (λh3=>?_) (λh3=>?_)
   ·have h3:ids[j]=u.id:=by simpa using h3
    apply badu; rw[hu];have:u.id∈ids:=by rw[←h3]; exact List.getElem_mem h2
    simp[this]
   ·have h3:ids[j]≠u.id:=by simpa using h3
    refine Za rfl ?_;rw[Yg (n:=j) (by omega)];refine hag2 (j+1) _ _ (by omega) ⟨rfl,rfl,by omega,λm hm hmj=>?_⟩;by_cases e:m=j
    ·subst e; exact h3
    ·exact hb2 m hm (by omega)
  ·have h2:¬j<ids.length:=by rw[hkl]; simp at h2; omega
   have hno:ids.contains u.id=false:=by
    rw[List.contains_eq_mem,decide_eq_false_iff_not];intro hm;obtain⟨m,hm,e⟩:=List.getElem_of_mem hm;exact hb2 m hm (by omega) e
   rw[hno,Bool.not_false,Bool.true_and] at hu;repeat first|refine Xa ?_|refine Zb ?_|refine Za (ld hB3 rfl) ?_|refine Za (ld hB0 rfl) ?_|refine Za (ld hB1 rfl) ?_|refine Za rfl ?_
   rw[Z2 _ _ _ _ _ [iv u.id] rfl rfl];refine hg.app' _ (hold:=λp=>p) rfl (by omega) _ (λv' σ' hx hg'=>?_);refine Za rfl ?_;rw[Yg (n:=i) (by omega)];have hsn:[]++(s.s0.units.take (i+1)).map Th.id=ids++[u.id]:=by
    rw[←hids,Zu _ _ h,hU]; simp
   refine hag (i+1) _ _ (by omega) ⟨v',rfl,by omega,?_,hx _ _ hB0,hx _ _ hB1,hx _ _ hB2,?_⟩
   ·rw[hsn]; simpa[cel,Nat.add_assoc] using hg'
   ·rw[hsn]; exact hu
 have h:i=s.s0.units.length:=by simp at h; omega
 subst h;rw[List.take_length] at hg hu;have hus0:Qr b s.next [] s.s0.units=true:=by rw[hu]; simp[Qr]
 clear hag badu hu;refine Za rfl ?_;rw[w1];refine Yj ?_;simp only[List.nil_append,Nat.zero_add] at hg;generalize σ3=σ at hB0 hB1 hg ⊢;refine Za rfl (Ze ?_);refine Za rfl (Za rfl (Za (ld hB1 rfl) ?_));refine Xz rfl rfl rfl ?_;have hB2:hget (σ++[.box (sdC s.s1)]) σ.length=.box (sdC s.s1):=Yl _ _
 replace hB0:=Qm [.box (sdC s.s1)] hB0 (by simp)
 replace hB1:=Qm [.box (sdC s.s1)] hB1 (by simp)
 replace hg:=hg.more [.box (sdC s.s1)]
 generalize hN:σ.length=N at hB2 ⊢;clear hN;generalize (σ++[ABlk.box (sdC s.s1)]:List ABlk)=σ2 at hB0 hB1 hB2 hg ⊢;have bad:Xl b.cards.length s.s1=false→AVal.bool false=AVal.bool (Xr b s):=by intro h; simp[Xr,h]
 repeat first|refine Xa ?_|refine Zb ?_|refine Za (ld hB2 rfl) ?_|refine Za rfl ?_
 refine Yd (c116 _) rfl g116_ok.plain rfl ?_;refine Za rfl ?_;rcases YBE (!wIn s.s1.life) with a1|a1
 ·rw[a1];repeat first|refine Yb rfl ?_|refine Zc rfl ?_|refine Zd rfl ?_|refine Xd rfl ?_|refine Za rfl ?_
  refine Ze (bad ?_);simp at a1;simp[Xl,a1]
 rw[a1];repeat first|refine Xa ?_|refine Zb ?_|refine Za (ld hB2 rfl) ?_|refine Za rfl ?_
 rcases YBE (decide (s.s1.mana<0)) with a2|a2
 ·rw[a2];repeat first|refine Yb rfl ?_|refine Zc rfl ?_|refine Zd rfl ?_|refine Xd rfl ?_|refine Za rfl ?_
  refine Ze (bad ?_);simp at a2;simp[Xl,show ¬0≤s.s1.mana by omega]
 rw[a2];repeat first|refine Xa ?_|refine Zb ?_|refine Za (ld hB2 rfl) ?_|refine Za rfl ?_
 refine Yd (c116 _) rfl g116_ok.plain rfl ?_;repeat first|refine Xa ?_|refine Zb ?_|refine Za (ld hB2 rfl) ?_|refine Za rfl ?_
 rcases YBE (!wIn s.s1.mana) with a3|a3
 ·rw[a3];repeat first|refine Yb rfl ?_|refine Zc rfl ?_|refine Zd rfl ?_|refine Xd rfl ?_|refine Za rfl ?_
  refine Ze (bad ?_);simp at a3;simp[Xl,a3]
 rw[a3];repeat first|refine Xa ?_|refine Zb ?_|refine Za (ld hB2 rfl) ?_|refine Za rfl ?_
 rcases YBE (decide (s.s1.most<0)) with a4|a4
 ·rw[a4];repeat first|refine Yb rfl ?_|refine Zc rfl ?_|refine Zd rfl ?_|refine Xd rfl ?_|refine Za rfl ?_
  refine Ze (bad ?_);simp at a4;simp[Xl,show ¬0≤s.s1.most by omega]
 rw[a4];repeat first|refine Xa ?_|refine Zb ?_|refine Za (ld hB2 rfl) ?_|refine Za rfl ?_
 refine Qb (λa5=>bad ?_) (λa5=>?_)
 ·have a5:10<s.s1.most:=by simpa using a5
  simp[Xl,show ¬s.s1.most≤10 by omega]
 refine Za (ld hB0 rfl) ?_;repeat first|refine Xa ?_|refine Zb ?_|refine Za (ld hB2 rfl) ?_|refine Za rfl ?_
 refine Yd (c117 _ _ _ hs.s1.deck) rfl g117_ok.plain rfl ?_;refine Za rfl ?_;rcases YBE (!Xn b.cards.length s.s1.deck 60) with a6|a6
 ·rw[a6];repeat first|refine Yb rfl ?_|refine Zc rfl ?_|refine Zd rfl ?_|refine Xd rfl ?_|refine Za rfl ?_
  refine Ze (bad ?_);simp at a6;simp[Xl,a6]
 rw[a6];repeat first|refine Xa ?_|refine Zb ?_|refine Za (ld hB2 rfl) ?_|refine Za (ld hB0 rfl) ?_|refine Za rfl ?_
 refine Yd (c117 _ _ _ hs.s1.hand) rfl g117_ok.plain rfl ?_;repeat first|refine Xa ?_|refine Zb ?_|refine Za (ld hB2 rfl) ?_|refine Za (ld hB0 rfl) ?_|refine Za rfl ?_
 rcases YBE (!Xn b.cards.length s.s1.hand 10) with a7|a7
 ·rw[a7];repeat first|refine Yb rfl ?_|refine Zc rfl ?_|refine Zd rfl ?_|refine Xd rfl ?_|refine Za rfl ?_
  refine Ze (bad ?_);simp at a7;simp[Xl,a7]
 rw[a7];repeat first|refine Xa ?_|refine Zb ?_|refine Za (ld hB2 rfl) ?_|refine Za (ld hB0 rfl) ?_|refine Za rfl ?_
 refine Yd (c117 _ _ _ hs.s1.grave) rfl g117_ok.plain rfl ?_;repeat first|refine Xa ?_|refine Zb ?_|refine Za (ld hB2 rfl) ?_|refine Za (ld hB0 rfl) ?_|refine Za rfl ?_
 rcases YBE (!Xn b.cards.length s.s1.grave 1000000) with a8|a8
 ·rw[a8];repeat first|refine Yb rfl ?_|refine Zc rfl ?_|refine Zd rfl ?_|refine Xd rfl ?_|refine Za rfl ?_
  refine Ze (bad ?_);simp at a8;simp[Xl,a8]
 rw[a8];repeat first|refine Xa ?_|refine Zb ?_|refine Za (ld hB2 rfl) ?_|refine Za (ld hB0 rfl) ?_|refine Za rfl ?_
 refine Yd (c117 _ _ _ hs.s1.told) rfl g117_ok.plain rfl ?_;repeat first|refine Xa ?_|refine Zb ?_|refine Za (ld hB2 rfl) ?_|refine Za (ld hB0 rfl) ?_|refine Za rfl ?_
 rcases YBE (!Xn b.cards.length s.s1.told 1000000) with a9|a9
 ·rw[a9];repeat first|refine Yb rfl ?_|refine Zc rfl ?_|refine Zd rfl ?_|refine Xd rfl ?_|refine Za rfl ?_
  refine Ze (bad ?_);simp at a9;simp[Xl,a9]
 rw[a9];repeat first|refine Xa ?_|refine Zb ?_|refine Za (ld hB2 rfl) ?_|refine Za (ld hB0 rfl) ?_|refine Za rfl ?_
 refine Qb (λa10=>bad ?_) (λa10=>?_)
 ·have a10:7<s.s1.units.length:=by simp at a10; omega
  simp[Xl,show ¬s.s1.units.length≤7 by omega]
 have hds1:Xl b.cards.length s.s1=true:=by
  simp at a1 a2 a3 a4 a5 a6 a7 a8 a9 a10;simp[Xl,a1,a2,a3,a4,a5,a6,a7,a8,a9]; omega
 have a10':s.s1.units.length≤7:=by simp at a10; omega
 clear a1 a2 a3 a4 a5 a6 a7 a8 a9 a10 bad;have badu:Qr b s.next (s.s0.units.map Th.id) s.s1.units=false→AVal.bool false=AVal.bool (Xr b s):=by intro h; simp[Xr,h]
 refine Qk (ι:=Nat) (λi vs σ=>∃v,vs=[iv i,v]∧i≤s.s1.units.length∧Grows 1 (((s.s0.units.map Th.id)++(s.s1.units.take i).map Th.id).map cel) (s.s0.units.length+i) v σ∧hget σ 0=.box [cdV b.cards,foV b.formats]∧hget σ 1=.box (stC s)∧hget σ N=.box (sdC s.s1)∧Qr b s.next (s.s0.units.map Th.id) s.s1.units=Qr b s.next ((s.s0.units.map Th.id)++(s.s1.units.take i).map Th.id) (s.s1.units.drop i)) (λi=>s.s1.units.length-i) 0 ⟨_,rfl,by omega,(by simp only[Ah.h1,hdV,tlV,List.take_zero,List.map_nil,List.append_nil,Nat.add_zero]; exact hg),hB0,hB1,hB2,by simp⟩ ?_;clear hB0 hB1 hB2 hg;rintro i vs σ3 again ⟨v,rfl,hi,hg,hB0,hB1,hB2,hu⟩ hag;repeat first|refine Xa ?_|refine Zb ?_|refine Za (ld hB2 rfl) ?_|refine Za rfl ?_
 refine Qb (λh=>?_) (λh=>?_)
 ·have h:i<s.s1.units.length:=by simpa using h
  have hdr:s.s1.units.drop i=s.s1.units[i]::s.s1.units.drop (i+1):=by rw[YLD h]
  rw[hdr] at hu;repeat first|refine Xa ?_|refine Zb ?_|refine Za (ld hB2 rfl) ?_|refine Za rfl ?_
  refine Za (Yo _ thC _ _ _ _ _ i h) ?_;refine Za rfl ?_;refine Xz rfl rfl rfl ?_;generalize hU:s.s1.units[i]=u at hu hdr;have hB3:hget (σ3++[.box (thC u)]) σ3.length=.box (thC u):=Yl _ _
  replace hB0:=Qm [.box (thC u)] hB0 (by simp)
  replace hB1:=Qm [.box (thC u)] hB1 (by simp)
  replace hB2:=Qm [.box (thC u)] hB2 (by simp)
  replace hg:=hg.more [.box (thC u)]
  generalize hN:σ3.length=N3 at hB3 ⊢;clear hN;simp only[AVal.cell];generalize hσ4:(σ3++[ABlk.box (thC u)]:List ABlk)=σ4 at hB0 hB1 hB2 hB3 hg;have hσ5:(σ3++[ABlk.box [iv u.id,iv u.card,iv u.harm,.bool u.tired]]:List ABlk)=σ4:=hσ4
  first|rw[hσ5]|rw[hσ4]|skip
  have badq:Xu b s.next u=false→AVal.bool false=AVal.bool (Xr b s):=by intro h; apply badu; rw[hu]; simp[Qr,h]
  repeat first|refine Xa ?_|refine Zb ?_|refine Za (ld hB3 rfl) ?_|refine Za (ld hB0 rfl) ?_|refine Za (ld hB1 rfl) ?_|refine Za rfl ?_
  rcases YBE (decide (u.card<0)) with q1|q1
  ·rw[q1];repeat first|refine Yb rfl ?_|refine Zc rfl ?_|refine Zd rfl ?_|refine Xd rfl ?_|refine Za rfl ?_
   refine Ze (badq ?_);simp at q1;simp[Xu,show ¬0≤u.card by omega]
  rw[q1];repeat first|refine Xa ?_|refine Zb ?_|refine Za (ld hB3 rfl) ?_|refine Za (ld hB0 rfl) ?_|refine Za (ld hB1 rfl) ?_|refine Za rfl ?_
  rcases YBE (decide (u.card ≥ (b.cards.map cdC).length)) with q2|q2
  ·rw[q2];repeat first|refine Yb rfl ?_|refine Zc rfl ?_|refine Zd rfl ?_|refine Xd rfl ?_|refine Za rfl ?_
   refine Ze (badq ?_);simp at q2;simp[Xu,show ¬u.card<b.cards.length by omega]
  rw[q2];simp at q1 q2;have hc:u.card.toNat<b.cards.length:=by omega
  have hcu:b.cards[u.card.toNat]?=some b.cards[u.card.toNat]:=by simp[hc]
  repeat first|refine Xa ?_|refine Zb ?_|refine Za (ld hB3 rfl) ?_|refine Za (ld hB0 rfl) ?_|refine Za (ld hB1 rfl) ?_|refine Za rfl ?_
  refine Za (Zbz _ cdC _ _ _ _ _ _ (by omega) hc) ?_;repeat first|refine Xa ?_|refine Zb ?_|refine Za (ld hB3 rfl) ?_|refine Za (ld hB0 rfl) ?_|refine Za (ld hB1 rfl) ?_|refine Za rfl ?_
  rcases YBE (!(b.cards[u.card.toNat]).unit) with q3|q3
  ·rw[q3];repeat first|refine Yb rfl ?_|refine Zc rfl ?_|refine Zd rfl ?_|refine Xd rfl ?_|refine Za rfl ?_
   refine Ze (badq ?_);simp at q3;simp[Xu,hcu,q3]
  rw[q3];repeat first|refine Xa ?_|refine Zb ?_|refine Za (ld hB3 rfl) ?_|refine Za (ld hB0 rfl) ?_|refine Za (ld hB1 rfl) ?_|refine Za rfl ?_
  rcases YBE (decide (u.harm<0)) with q4|q4
  ·rw[q4];repeat first|refine Yb rfl ?_|refine Zc rfl ?_|refine Zd rfl ?_|refine Xd rfl ?_|refine Za rfl ?_
   refine Ze (badq ?_);simp at q4;simp[Xu,show ¬0≤u.harm by omega]
  rw[q4];repeat first|refine Xa ?_|refine Zb ?_|refine Za (ld hB3 rfl) ?_|refine Za (ld hB0 rfl) ?_|refine Za (ld hB1 rfl) ?_|refine Za rfl ?_
  rcases YBE (decide (u.harm>1000000)) with q5|q5
  ·rw[q5];repeat first|refine Yb rfl ?_|refine Zc rfl ?_|refine Zd rfl ?_|refine Xd rfl ?_|refine Za rfl ?_
   refine Ze (badq ?_);simp at q5;simp[Xu,show ¬u.harm≤1000000 by omega]
  rw[q5];repeat first|refine Xa ?_|refine Zb ?_|refine Za (ld hB3 rfl) ?_|refine Za (ld hB0 rfl) ?_|refine Za (ld hB1 rfl) ?_|refine Za rfl ?_
  rcases YBE (decide (u.id<1)) with q6|q6
  ·rw[q6];repeat first|refine Yb rfl ?_|refine Zc rfl ?_|refine Zd rfl ?_|refine Xd rfl ?_|refine Za rfl ?_
   refine Ze (badq ?_);simp at q6;simp[Xu,show ¬1≤u.id by omega]
  rw[q6];repeat first|refine Xa ?_|refine Zb ?_|refine Za (ld hB3 rfl) ?_|refine Za (ld hB0 rfl) ?_|refine Za (ld hB1 rfl) ?_|refine Za rfl ?_
  refine Qb (λq7=>badq ?_) (λq7=>?_)
  ·have q7:s.next≤u.id:=by simpa using q7
   simp[Xu,show ¬u.id<s.next by omega]
  have hok:Xu b s.next u=true:=by
   simp at q3 q4 q5 q6 q7;simp[Xu,hcu,q3]; omega
  rw[Qr,hok,Bool.true_and] at hu;generalize hids:(s.s0.units.map Th.id)++(s.s1.units.take i).map Th.id=ids at hg hu;have hkl:ids.length=s.s0.units.length+i:=by rw[←hids]; simp[List.length_take,Nat.min_eq_left hi]
  refine Qk (ι:=Nat) (λj vs σ=>vs=[iv j]∧σ=σ4∧j≤ids.length∧∀m (hm:m<ids.length),m<j→ids[m]≠u.id) (λj=>ids.length-j) 0 ⟨rfl,rfl,by omega,λm _ h=>by omega⟩ ?_;rintro j vs σ again2 ⟨rfl,rfl,hj,hb2⟩ hag2;refine Za (hg.len _) (Za rfl ?_);refine Qb (λh2=>?_) (λh2=>?_)
  ·have h2:j<ids.length:=by rw[hkl]; simp at h2; omega
   obtain⟨bb,e1,hjl,e2⟩:=hg.at .i64 j (by omega);refine Za e1 ?_;refine Za (e2 false 1 (iv ids[j]) (by simp[cel])) ?_;repeat first|refine Xa ?_|refine Zb ?_|refine Za (ld hB3 rfl) ?_|refine Za (ld hB0 rfl) ?_|refine Za (ld hB1 rfl) ?_|refine Za rfl ?_
   refine Qb (λh3=>?_) (λh3=>?_)
   ·have h3:ids[j]=u.id:=by simpa using h3
    apply badu; rw[hu];have:u.id∈ids:=by rw[←h3]; exact List.getElem_mem h2
    simp[this]
   ·have h3:ids[j]≠u.id:=by simpa using h3
    refine Za rfl ?_;rw[Yg (n:=j) (by omega)];refine hag2 (j+1) _ _ (by omega) ⟨rfl,rfl,by omega,λm hm hmj=>?_⟩;by_cases e:m=j
    ·subst e; exact h3
    ·exact hb2 m hm (by omega)
  ·have h2:¬j<ids.length:=by rw[hkl]; simp at h2; omega
   have hno:ids.contains u.id=false:=by
    rw[List.contains_eq_mem,decide_eq_false_iff_not];intro hm;obtain⟨m,hm,e⟩:=List.getElem_of_mem hm;exact hb2 m hm (by omega) e
   rw[hno,Bool.not_false,Bool.true_and] at hu;repeat first|refine Xa ?_|refine Zb ?_|refine Za (ld hB3 rfl) ?_|refine Za (ld hB0 rfl) ?_|refine Za (ld hB1 rfl) ?_|refine Za rfl ?_
   rw[Z2 _ _ _ _ _ [iv u.id] rfl rfl];refine hg.app' _ (hold:=λp=>p) rfl (by omega) _ (λv' σ' hx hg'=>?_);refine Za rfl ?_;rw[Yg (n:=i) (by omega)];have hsn:(s.s0.units.map Th.id)++(s.s1.units.take (i+1)).map Th.id=ids++[u.id]:=by
    rw[←hids,Zu _ _ h,hU]; simp
   refine hag (i+1) _ _ (by omega) ⟨v',rfl,by omega,?_,hx _ _ hB0,hx _ _ hB1,hx _ _ hB2,?_⟩
   ·rw[hsn]; simpa[cel,Nat.add_assoc] using hg'
   ·rw[hsn]; exact hu
 have h:i=s.s1.units.length:=by simp at h; omega
 subst h;rw[List.take_length] at hg hu;have hus1:Qr b s.next (s.s0.units.map Th.id) s.s1.units=true:=by rw[hu]; simp[Qr]
 clear hag badu hu;refine Za rfl ?_;rw[w2];refine Yj ?_;refine Za rfl (Yh ?_);simp[Xr,hds0,hds1,hus0,hus1]
end Go.Ah.Tz
end
section
namespace Go.Ah.Tz
open Go.Proofs.Tryz (prog)
def attOk(s:St):List Int→List Int→Bool
 |_,[]=>true
 |prev,a::l=>((unitR s a).2.2&&decide ((unitR s a).1=s.mover))&&(!(prev.contains a)&&attOk s (prev++[a]) l)
def mayR(e:Int)(b:Bk)(s:St)(bare:Bool):Bool:=
 decide (e=0) && (decide (1≤s.turn) && (decide (s.turn≤4096) && (decide (0≤s.mover) && (decide (s.mover≤1) && (decide (0≤s.phase) && (decide (s.phase≤2) && (decide (0≤s.result) && (decide (s.result≤3) &&
 (((s.result == 0) == (s.phase != 2)) && (decide (1≤s.next) && (decide (s.next≤1000000) && (Xr b s &&
 (if s.phase≠1 then decide (s.attack.length=0) else !(decide (s.attack.length=0) && !bare) && (s.struck && (decide (s.attack.length≤7) && attOk s [] s.attack)))))))))))))))
attribute [local irreducible] Ans.rd Ans.pu Ans.wr Ans.dr Ans.gr Ans.gw Ans.gl Ans.gd Ans.opt joinK W
set_option maxHeartbeats 2000000
theorem c25(b:Bk)(s:St)(hs:StLe 1000000000 s)(bare:Bool)(e p:Int)(h67:PC 67 [bkV b] (.agg [iv e,iv p])):PC 25 [bkV b,stV s,.bool bare] (.bool (mayR e b s bare)):=by
 refine Qc hP g25_ok rfl rfl ?_;unfold g25;repeat first|refine Za rfl ?_|refine Xf rfl rfl ?_
 refine Yd h67 rfl g67_ok.plain rfl ?_;repeat first|refine Za rfl ?_|refine Xf rfl rfl ?_
 rcases YBE (e != 0) with q1|q1
 ·rw[q1];repeat first|refine Yb rfl ?_|refine Zc rfl ?_|refine Zd rfl ?_|refine Xd rfl ?_|refine Za rfl ?_
  refine Ze ?_;simp at q1;simp[mayR,q1]
 rw[q1];repeat first|refine Xa ?_|refine Zb ?_|refine Za rfl ?_
 rcases YBE (decide (s.turn<1)) with q2|q2
 ·rw[q2];repeat first|refine Yb rfl ?_|refine Zc rfl ?_|refine Zd rfl ?_|refine Xd rfl ?_|refine Za rfl ?_
  refine Ze ?_;simp at q2;simp[mayR,show ¬1≤s.turn by omega]
 rw[q2];repeat first|refine Xa ?_|refine Zb ?_|refine Za rfl ?_
 rcases YBE (decide (s.turn>4096)) with q3|q3
 ·rw[q3];repeat first|refine Yb rfl ?_|refine Zc rfl ?_|refine Zd rfl ?_|refine Xd rfl ?_|refine Za rfl ?_
  refine Ze ?_;simp at q3;simp[mayR,show ¬s.turn≤4096 by omega]
 rw[q3];repeat first|refine Xa ?_|refine Zb ?_|refine Za rfl ?_
 rcases YBE (decide (s.mover<0)) with q4|q4
 ·rw[q4];repeat first|refine Yb rfl ?_|refine Zc rfl ?_|refine Zd rfl ?_|refine Xd rfl ?_|refine Za rfl ?_
  refine Ze ?_;simp at q4;simp[mayR,show ¬0≤s.mover by omega]
 rw[q4];repeat first|refine Xa ?_|refine Zb ?_|refine Za rfl ?_
 rcases YBE (decide (s.mover>1)) with q5|q5
 ·rw[q5];repeat first|refine Yb rfl ?_|refine Zc rfl ?_|refine Zd rfl ?_|refine Xd rfl ?_|refine Za rfl ?_
  refine Ze ?_;simp at q5;simp[mayR,show ¬s.mover≤1 by omega]
 rw[q5];repeat first|refine Xa ?_|refine Zb ?_|refine Za rfl ?_
 rcases YBE (decide (s.phase<0)) with q6|q6
 ·rw[q6];repeat first|refine Yb rfl ?_|refine Zc rfl ?_|refine Zd rfl ?_|refine Xd rfl ?_|refine Za rfl ?_
  refine Ze ?_;simp at q6;simp[mayR,show ¬0≤s.phase by omega]
 rw[q6];repeat first|refine Xa ?_|refine Zb ?_|refine Za rfl ?_
 rcases YBE (decide (s.phase>2)) with q7|q7
 ·rw[q7];repeat first|refine Yb rfl ?_|refine Zc rfl ?_|refine Zd rfl ?_|refine Xd rfl ?_|refine Za rfl ?_
  refine Ze ?_;simp at q7;simp[mayR,show ¬s.phase≤2 by omega]
 rw[q7];repeat first|refine Xa ?_|refine Zb ?_|refine Za rfl ?_
 rcases YBE (decide (s.result<0)) with q8|q8
 ·rw[q8];repeat first|refine Yb rfl ?_|refine Zc rfl ?_|refine Zd rfl ?_|refine Xd rfl ?_|refine Za rfl ?_
  refine Ze ?_;simp at q8;simp[mayR,show ¬0≤s.result by omega]
 rw[q8];repeat first|refine Xa ?_|refine Zb ?_|refine Za rfl ?_
 refine Qb (λq9=>?_) (λq9=>?_)
 ·have q9:3<s.result:=by simpa using q9
  simp[mayR,show ¬s.result≤3 by omega]
 repeat first|refine Xa ?_|refine Zb ?_|refine Za rfl ?_
 rcases YBE (!(s.result==0)==(s.phase != 2)) with q10|q10
 ·rw[q10];repeat first|refine Yb rfl ?_|refine Zc rfl ?_|refine Zd rfl ?_|refine Xd rfl ?_|refine Za rfl ?_
  refine Ze ?_;have q10:((s.result==0)==(s.phase != 2))=false:=(Bool.not_eq_true' _).mp q10;simp only[mayR,q10]; simp
 rw[q10];repeat first|refine Xa ?_|refine Zb ?_|refine Za rfl ?_
 rcases YBE (decide (s.next<1)) with q11|q11
 ·rw[q11];repeat first|refine Yb rfl ?_|refine Zc rfl ?_|refine Zd rfl ?_|refine Xd rfl ?_|refine Za rfl ?_
  refine Ze ?_;simp at q11;simp[mayR,show ¬1≤s.next by omega]
 rw[q11];repeat first|refine Xa ?_|refine Zb ?_|refine Za rfl ?_
 rcases YBE (decide (s.next>1000000)) with q12|q12
 ·rw[q12];repeat first|refine Yb rfl ?_|refine Zc rfl ?_|refine Zd rfl ?_|refine Xd rfl ?_|refine Za rfl ?_
  refine Ze ?_;simp at q12;simp[mayR,show ¬s.next≤1000000 by omega]
 rw[q12];repeat first|refine Xa ?_|refine Zb ?_|refine Za rfl ?_
 refine Yd (c68 b s hs) rfl g68_ok.plain rfl ?_;repeat first|refine Xa ?_|refine Za rfl ?_
 refine Qb (λq13=>?_) (λq13=>?_)
 ·have q13:Xr b s=false:=by simpa using q13
  simp[mayR,q13]
 have Q1:e=0:=by simpa using q1
 have Q10:((s.result==0)==(s.phase != 2))=true:=by
  cases hX:((s.result==0)==(s.phase != 2)) with
  |true=>rfl
  |false=>rw[hX] at q10; cases q10
 have Q13:Xr b s=true:=by simpa using q13
 simp at q2 q3 q4 q5 q6 q7 q8 q9 q11 q12;have hm:mayR e b s bare=(if s.phase≠1 then decide (s.attack.length=0) else !(decide (s.attack.length=0) && !bare)&&(s.struck&&(decide (s.attack.length≤7)&&attOk s [] s.attack))):=by
  simp only[mayR,Q10,Q13];simp[Q1,q2,q3,q4,q5,q6,q7,q8,q9,q11,q12]
 rw[hm];clear hm Q1 Q10 Q13 q1 q2 q3 q4 q5 q6 q7 q8 q9 q10 q11 q12 q13;repeat first|refine Za rfl ?_
 refine Qb (λh=>?_) (λh=>?_)
 ·have h:s.phase≠1:=by simpa using h
  repeat first|refine Za rfl ?_
  rw[if_pos h]
  congr 1
  rw[Bool.eq_iff_iff];simp
 have h:s.phase=1:=by simpa using h
 rw[if_neg (by simp[h])];repeat first|refine Za rfl ?_
 rcases YBE ((((s.attack.map cel).length:Nat):Int)==0) with h1|h1
 ·rw[h1];have h1:s.attack=[]:=by simpa using h1
  repeat first|refine Xa ?_|refine Za rfl ?_
  cases bare with
  |false=>
   repeat first|refine Yb rfl ?_|refine Zd rfl ?_|refine Za rfl ?_
   refine Ze ?_;simp[h1]
  |true=>
   repeat first|refine Xa ?_|refine Za rfl ?_
   rcases YBE (!s.struck) with h2|h2
   ·rw[h2];repeat first|refine Yb rfl ?_|refine Zd rfl ?_|refine Za rfl ?_
    refine Ze ?_;have h2:s.struck=false:=by simpa using h2
    simp[h2]
   rw[h2];have h2:s.struck=true:=by simpa using h2
   repeat first|refine Xa ?_|refine Za rfl ?_
   rw[h1];refine Yh ?_;refine YB 1 (Yj ?_);repeat first|refine Za (ld (σ:=[]++[ABlk.box [cdV b.cards,foV b.formats]]++[ABlk.box (stC s)]) (b:=1) rfl rfl) ?_|refine Za rfl ?_
   rw[h1];refine Yh ?_;simp[h2,attOk]
 rw[h1];have h1:s.attack.length≠0:=by simpa using h1
 repeat first|refine Yb rfl ?_|refine Zd rfl ?_|refine Za rfl ?_
 repeat first|refine Xa ?_|refine Za rfl ?_
 have h1':(decide (s.attack.length=0) && !bare)=false:=by simp[h1]
 rw[h1',Bool.not_false,Bool.true_and];rcases YBE (!s.struck) with h2|h2
 ·rw[h2];repeat first|refine Yb rfl ?_|refine Zd rfl ?_|refine Za rfl ?_
  refine Ze ?_;have h2:s.struck=false:=by simpa using h2
  simp[h2]
 rw[h2];have h2:s.struck=true:=by simpa using h2
 rw[h2,Bool.true_and];repeat first|refine Xa ?_|refine Za rfl ?_
 refine Qb (λh3=>?_) (λh3=>?_)
 ·have h3:¬s.attack.length≤7:=by simp at h3; omega
  simp[h3]
 have h3:s.attack.length≤7:=by simp at h3; omega
 rw[decide_eq_true h3,Bool.true_and];have bad:attOk s [] s.attack=false→AVal.bool false=AVal.bool (attOk s [] s.attack):=λh=>by rw[h]
 generalize hB:([]++[ABlk.box [cdV b.cards,foV b.formats]]++[ABlk.box (stC s)]:List ABlk)=base;have hB1:hget base 1=.box (stC s):=by rw[←hB]; rfl
 generalize hN:([]++[ABlk.box [cdV b.cards,foV b.formats]]:List ABlk).length=N;have hN1:N=1:=by rw[←hN]; rfl
 subst hN1;clear hB hN;refine Qk (ι:=Nat) (λi vs σ=>vs=[iv i]∧σ=base∧i≤s.attack.length∧attOk s [] s.attack=attOk s (s.attack.take i) (s.attack.drop i)) (λi=>s.attack.length-i) 0 ⟨rfl,rfl,by omega,by simp⟩ ?_;rintro i vs σ again ⟨rfl,rfl,hi,hu⟩ hag;repeat first|refine Za (ld hB1 rfl) ?_|refine Za rfl ?_
 refine Qb (λh=>?_) (λh=>?_)
 ·have h:i<s.attack.length:=by simpa using h
  have hdr:s.attack.drop i=s.attack[i]::s.attack.drop (i+1):=by rw[YLD h]
  rw[hdr] at hu;refine Xj (ld hB1 rfl) (Zs _) (Xg rfl (Xj (ld hB1 rfl) (Zs _) (Xj (Yo _ cel _ _ _ _ _ i h) (Zs _) (Xj rfl (Zs _) ?_))));refine Zh (c23 s hs s.attack[i]) rfl g23_ok.plain rfl ?_;refine Xg rfl (Xg rfl (Xg rfl (Xx (by kernel_rfl) ?_)));refine Za rfl ?_;generalize ha:s.attack[i]=a at hu;rcases YBE (!(unitR s a).2.2) with h4|h4
  ·rw[h4];repeat first|refine Yb rfl ?_|refine Zd rfl ?_|refine Za rfl ?_
   refine Ze (bad ?_);have h4:(unitR s a).2.2=false:=by simpa using h4
   rw[hu]; simp[attOk,h4]
  rw[h4];repeat first|refine Xa ?_|refine Za (ld hB1 rfl) ?_|refine Za rfl ?_
  refine Qb (λh5=>bad ?_) (λh5=>?_)
  ·have h5:(unitR s a).1≠s.mover:=by simpa using h5
   rw[hu]; simp[attOk,h5]
  have hone:((unitR s a).2.2&&decide ((unitR s a).1=s.mover))=true:=by
   have h4:(unitR s a).2.2=true:=by simpa using h4
   have h5:(unitR s a).1=s.mover:=by simpa using h5
   simp[h4,h5]
  rw[attOk,hone,Bool.true_and] at hu;refine Qk (ι:=Nat) (λj vs σ2=>vs=[iv j]∧σ2=σ∧j≤i∧∀m (hm:m<s.attack.length),m<j→s.attack[m]≠a) (λj=>i-j) 0 ⟨rfl,rfl,by omega,λm _ h=>by omega⟩ ?_;rintro j vs σ again2 ⟨rfl,rfl,hj,hb2⟩ hag2;refine Za rfl ?_;refine Qb (λh6=>?_) (λh6=>?_)
  ·have h6:j<i:=by simpa using h6
   repeat first|refine Za (ld hB1 rfl) ?_|refine Za (Yo _ cel _ _ _ s.attack _ j (by omega)) ?_|refine Za (Yo _ cel _ _ _ s.attack _ i h) ?_|refine Za rfl ?_
   refine Qb (λh7=>bad ?_) (λh7=>?_)
   ·have h7:s.attack[j]=a:=by rw[←ha]; simpa using h7
    have:a∈s.attack.take i:=by
     rw[List.mem_take_iff_getElem];exact⟨j,by omega,h7⟩
    rw[hu]; simp[this]
   ·have h7:s.attack[j]≠a:=by rw[←ha]; simpa using h7
    refine Za rfl ?_;rw[Yg (n:=j) (by omega)];refine hag2 (j+1) _ _ (by omega) ⟨rfl,rfl,by omega,λm hm hmj=>?_⟩;by_cases e:m=j
    ·subst e; exact h7
    ·exact hb2 m hm (by omega)
  ·have h6:¬j<i:=by simpa using h6
   have hno:(s.attack.take i).contains a=false:=by
    rw[List.contains_eq_mem,decide_eq_false_iff_not];intro hm;rw[List.mem_take_iff_getElem] at hm;obtain⟨m,hm,e⟩:=hm;exact hb2 m (by omega) (by omega) e
   rw[hno,Bool.not_false,Bool.true_and] at hu;refine Za rfl ?_;rw[Yg (n:=i) (by omega)];refine hag (i+1) _ _ (by omega) ⟨rfl,rfl,by omega,?_⟩;rw[Zu _ _ h,ha]; exact hu
 have h:i=s.attack.length:=by simp at h; omega
 subst h;rw[hu]; simp[attOk]
theorem c16(b:Bk)(s:St)(hs:StLe 1000000000 s)(e p:Int)(h67:PC 67 [bkV b] (.agg [iv e,iv p])):PC 16 [bkV b,stV s] (iv (bif mayR e b s false then 0 else 170)):=by
 refine Qc hP g16_ok rfl rfl ?_;unfold g16;repeat first|refine Za rfl ?_|refine Xf rfl rfl ?_
 refine Yd (c25 b s hs false e p h67) rfl g25_ok.plain rfl ?_;refine Za rfl ?_;refine Qb (λh=>?_) (λh=>?_)
 ·have h:mayR e b s false=false:=by simpa using h
  simp[h]
 ·have h:mayR e b s false=true:=by simpa using h
  simp[h]
end Go.Ah.Tz
end
section
namespace Go.Ah.Tz
open Go.Proofs.Tryz (prog)
set_option maxRecDepth 100000
def g73:GFun:=λA xs c f=>match xs with
 |[x0,x1]=>
 A.k 120 [x0,x1] c λe c=>A.b .eql e (jv (-1)) c λi=>A.test i (f x0 c) (A.b .add e (jv 1) c λj=>A.loop (λl d c=>A.r Qe x0 c λm=>A.b .lss (h0 d) m c λn=>
 A.test n (joinK (λg=>A.s (Yc 1) x0 (h0 d) c λo=>A.a o c λh=>A.call .callv [x1,h] c λp c=>A.r (Qo .not) p c λq=>A.test q (A.s (Yc 1) x0 (h1 d) c λt=>
 A.ws (Xb 1) t h c λ_ c=>A.b .add (h1 d) (jv 1) c λu=>g [u] c) (g [(h1 d)] c)) (λv c=>A.b .add (h0 d) (jv 1) c λw=>l [w,(h0 v)] c)) (A.s (Yaf 1) x0 (h1 d) c λy=>
 A.wr (Zax 1 [jv 0] [y] c) c λ_ c=>A.s (Xaf 1) x0 (h1 d) c λz=>f z c)) [j,e] c)
 |_=>A.stop
theorem g73_ok:GQ 73 2 g73:=gq2 [none,none,some [6,5],none,some [5],none] λ_ _ _ _ _ _=>by kernel_rfl
def g74:GFun:=λA xs c d=>match xs with
 |[x0,x1]=>
 A.a x1 c λe=>A.b .eql x0 e c λf=>d f c
 |_=>A.stop
theorem g74_ok:GQ 74 2 g74:=gq2 [] λ_ _ _ _ _ _=>by kernel_rfl
def g75:GFun:=λA xs c j=>match xs with
 |[x0,x1,x2]=>
 A.r Qa x0 c λl=>A.r (Ya 1) l c λm=>A.r (Ya 7) m c λn=>A.s (Zg 2 8) n x1 c λo=>A.r (Ya 6) o c λp=>
 A.a p c λf=>A.r Qe f c λq=>A.loop (λt d c=>A.b .lss (h0 d) q c λu=>A.test u (joinK (λg=>A.s (Yc 4) f (h0 d) c λv=>A.r (Xc true 4) v c λw=>
 A.wr (Xe zq3 [] c) c λh c=>A.ws (Xb 4) h w c λ_ c=>A.r Qa x0 c λy=>A.r (Ya 0) y c λz=>A.a z c λa0=>A.r Qa a0 c λa1=>
 A.r (Ya 0) a1 c λa2=>A.a a2 c λa3=>A.r (Ya 1) h c λa4=>A.a a4 c λa5=>A.s (Yc 12) a3 a5 c λe=>A.b .eql (h0 d) x2 c λa6=>
 A.test a6 (A.r Qa e c λa7=>A.r (Ya 3) a7 c λa8=>A.a a8 c λa9=>A.b .add (h1 d) a9 c λb0=>A.r Qa e c λb1=>A.r (Ya 4) b1 c λb2=>
 A.a b2 c λb3=>A.b .add (h2 d) b3 c λb4=>g [b0,b4] c) (A.r Qa e c λb5=>A.r (Ya 6) b5 c λb6=>A.a b6 c λb7=>A.b .add (h1 d) b7 c λb8=>
 A.r Qa e c λb9=>A.r (Ya 7) b9 c λc0=>A.a c0 c λc1=>A.b .add (h2 d) c1 c λc2=>g [b8,c2] c)) (λi c=>A.b .add (h0 d) (jv 1) c λc3=>
 t [c3,(h0 i),(h1 i)] c)) (j (.tup [(h1 d),(h2 d)]) c)) [jv 0,jv 0,jv 0] c
 |_=>A.stop
theorem g75_ok:GQ 75 3 g75:=gq3 [none,some [20,6,7],none,some [6,7],none] λ_ _ _ _ _ _ _=>by kernel_rfl
def g76:GFun:=λA xs c f=>match xs with
 |[x0]=>
 A.w1 Xk x0 c λe c=>A.loop (λg d c=>A.r (Ya 3) e c λh=>A.a h c λi=>A.r Qe i c λj=>A.b .lss (h0 d) j c λl=>A.test l (A.r (Ya 3) e c λm=>
 A.a m c λn=>A.s (Yc 4) n (h0 d) c λo=>A.r (Xc true 4) o c λp=>A.k 76 [p] c λq c=>A.b .add (h1 d) q c λt=>A.s XR t (jv 1073741824) c λu=>
 A.b .add (h0 d) (jv 1) c λv=>g [v,u] c) (f (h1 d) c)) [jv 0,jv 1] c
 |_=>A.stop
theorem g76_ok:GQ 76 1 g76:=gq1 [none,some [4,3],none,none] λ_ _ _ _ _=>by kernel_rfl
def g77:GFun:=λA xs d f=>match xs with
 |[x0,x1]=>
 A.w1 Xk x1 d λe d=>A.r (Ya 0) e d λt=>A.a t d λu=>A.b .geq u (.int .i8 8) d λj=>A.tr j (Ya 0) e d λv=>A.ta j v d λw=>
 A.tb j .leq w (.int .i8 12) d λy=>A.c j y (.bool false) d λz=>joinK (λq=>A.test z (q [jv 2] d) (q [jv 0] d)) (λv9 d=>A.r (Ya 0) e d λa0=>
 A.a a0 d λa1=>A.b .lss a1 (.int .i8 0) d λl=>A.fr l (Ya 0) e d λa2=>A.fa l a2 d λa3=>A.fb l .gtr a3 (.int .i8 12) d λa4=>A.c l (.bool true) a4 d λg=>
 A.fr g (Ya 3) e d λa5=>A.fa g a5 d λa6=>A.fr g Qe a6 d λa7=>A.fr g Qh (h0 v9) d λa8=>A.fb g .neq a7 a8 d λa9=>A.c g (.bool true) a9 d λb0=>
 A.test b0 (f (.bool false) d) (A.loop (λb1 p d=>A.r (Ya 3) e d λb2=>A.a b2 d λb3=>A.r Qe b3 d λb4=>A.b .lss (h0 p) b4 d λb5=>A.test b5 (
 A.r (Ya 3) e d λb6=>A.a b6 d λb7=>A.s (Yc 4) b7 (h0 p) d λb8=>A.r (Xc true 4) b8 d λb9=>A.k 77 [x0,b9] d λc0 d=>A.r (Qo .not) c0 d λc1=>
 A.test c1 (f (.bool false) d) (A.b .add (h0 p) (jv 1) d λc2=>b1 [c2] d)) (A.r (Ya 0) e d λc3=>A.a c3 d λc4=>A.b .eql c4 (.int .i8 0) d λc5=>
 A.test c5 (A.r (Ya 1) e d λc6=>A.a c6 d λc7=>A.b .geq c7 (jv 0) d λm=>A.tr m (Ya 1) e d λc8=>A.ta m c8 d λc9=>A.tb m .leq c9 (jv 999) d λd0=>
 A.c m d0 (.bool false) d λn=>A.tr n (Ya 2) e d λd1=>A.ta n d1 d λd2=>A.tb n .eql d2 (.int .i8 0) d λd3=>A.c n d3 (.bool false) d λd4=>
 f d4 d) (A.r (Ya 1) e d λd5=>A.a d5 d λd6=>A.b .neq d6 (jv 0) d λd7=>A.test d7 (f (.bool false) d) (A.r (Ya 0) e d λd8=>A.a d8 d λd9=>
 A.b .geq d9 (.int .i8 1) d λo=>A.tr o (Ya 0) e d λe0=>A.ta o e0 d λe1=>A.tb o .leq e1 (.int .i8 4) d λe2=>A.c o e2 (.bool false) d λe3=>
 A.test e3 (A.r (Ya 2) e d λe4=>A.a e4 d λe5=>A.k 121 [e5] d λe6 d=>f e6 d) (A.r (Ya 2) e d λe7=>A.a e7 d λe8=>A.b .eql e8 (.int .i8 0) d λh=>
 A.tr h (Ya 0) e d λe9=>A.ta h e9 d λf0=>A.tb h .neq f0 (.int .i8 7) d λf1=>A.tr h Qh f1 d λi=>A.fr i Qh x0 d λf2=>A.fr i Qa f2 d λf3=>
 A.fr i (Ya 1) f3 d λf4=>A.fa i f4 d λf5=>A.tc h i (.bool true) f5 d λf6=>A.c h f6 (.bool false) d λf7=>f f7 d))))) [jv 0] d))
 |_=>A.stop
theorem g77_ok:GQ 77 2 g77:=gq2 [some [5],none,none,some [6],none,none,none,none,none,none] λ_ _ _ _ _ _=>by kernel_rfl
def g78:GFun:=λA xs c h=>match xs with
 |[x0]=>
 A.wr (Xe [.nils,.nils] [] c) c λe c=>A.wr (Xe [jv 0,jv 0] [] c) c λf c=>A.k 122 [x0] c λi c=>A.r (Qd 0) i c λl=>A.r (Qd 1) i c λm=>
 A.wr (Xe [.nils,.nils] [] c) c λg c=>A.wr (Xe [jv 0,jv 0] [] c) c λd c=>A.ws (Xb 2) g l c λ_ c=>A.ws (Xb 2) d m c λ_ c=>
 A.r (Ya 0) d c λn=>A.a n c λo=>A.b .eql o (jv 0) c λp=>joinK (λj=>A.test p (A.r (Xc true 2) g c λq=>A.k 67 [q] c λs c=>A.ws (Xb 2) d s c λ_ c=>
 j [] c) (j [] c)) (λa4 c=>A.r (Ya 0) d c λt=>A.a t c λu=>A.b .neq u (jv 0) c λv=>A.test v (A.pu (Ye [.nils,.nils] [] [] c) λw=>
 A.dr (Xc true 2 [d] c) c λy z c=>A.dr (Xb 2 [e,w] c) c λ_ a0 c=>A.dr (Xb 2 [f,y] c) c λ_ a1 c=>A.gd (Zi [[],[],[0],[0,1,2]] [([],[]),z,a0,a1]) <|
 A.opt (cellV true 2 e c) λr22=>A.opt (cellV true 2 f c) λr23=>h (.tup [r22,r23]) c) (A.r (Xc true 2) g c λa2=>A.rd (Ye [jv 0,jv 0] [] [] c) λa3=>
 A.ws (Xb 2) e a2 c λ_ c=>A.ws (Xb 2) f a3 c λ_ c=>A.opt (cellV true 2 e c) λr26=>A.opt (cellV true 2 f c) λr27=>h (.tup [r26,r27]) c))
 |_=>A.stop
theorem g78_ok:GQ 78 1 g78:=gq1 [some [],none] λ_ _ _ _ _=>by kernel_rfl
def g79:GFun:=λA xs a d=>match xs with
 |[x0,x1,x2,x3]=>
 A.w1 Xk x0 a λe a=>A.w1 Xk x1 a λi a=>A.w1 Xk x2 a λj a=>A.w1 Xk x3 a λl a=>A.r (Xc true 2) j a λp=>A.rd (Ye zq2 [] [] a) λq=>
 A.w1 Xk q a λs a=>A.rd (Ye [.nilp] [(0,1)] [s] a) λt=>A.r (Yn 143) t a λu=>A.k 81 [e,i,p,u] a λm a=>A.r (Qd 0) m a λv=>
 A.r (Qd 1) m a λf=>A.b .eql f (jv 0) a λg=>A.gw g true (λk=>A.k 82 [.nilp,l,e] a k) a λw a=>A.tr g (Qo .not) w a λy=>A.c g y (.bool false) a λz=>
 A.test z (d (.tup [.bool false,jv 2]) a) (A.b .eql f (jv 0) a λa0=>joinK (λn=>A.test a0 (A.r (Xc true 2) j a λa1=>A.rd (Ye [.nilp] [(0,1)] [l] a) λa2=>
 A.r (Yn 184) a2 a λa3=>A.k 81 [e,i,a1,a3] a λo a=>A.r (Qd 0) o a λa4=>A.r (Qd 1) o a λa5=>n [a5,a4] a) (n [f,v] a)) (λh a=>
 A.b .neq (h0 h) (jv 0) a λa6=>A.test a6 (d (.tup [.bool false,(h0 h)]) a) (A.r (ZB 4 false (.bool false)) (h1 h) a λa7=>d (.tup [a7,jv 0]) a)))
 |_=>A.stop
theorem g79_ok:GQ 79 4 g79:=gq4 [none,some [11,10],none] λ_ _ _ _ _ _ _ _=>by kernel_rfl
def g80:GFun:=λA xs d f=>match xs with
 |[x0,x1,x2]=>
 A.w1 Xk x0 d λl d=>A.w1 Xk x1 d λe d=>A.r (Ya 0) e d λm=>A.a m d λn=>A.b .lss n (jv 0) d λg=>A.fr g (Ya 0) e d λo=>
 A.fa g o d λp=>A.fb g .gtr p (jv 1) d λq=>A.c g (.bool true) q d λs=>A.test s (f (.tup zq6) d) (joinK (λj=>A.b .eql x2 (.int .i8 0) d λt=>A.test t (
 A.r (Ya 0) e d λu=>A.a u d λv=>f (.tup [jv 0,v,.bool true]) d) (A.b .eql x2 (.int .i8 1) d λw=>A.test w (A.r (Ya 0) e d λy=>
 A.a y d λz=>A.b .sub (jv 1) z d λa0=>f (.tup [jv 0,a0,.bool true]) d) (A.b .neq x2 (.int .i8 2) d λa1=>A.test a1 (f (.tup zq6) d) (A.r (Ya 1) e d λa2=>
 A.a a2 d λa3=>A.b .eql a3 (jv (-2)) d λh=>A.fr h (Ya 1) e d λa4=>A.fa h a4 d λa5=>A.fb h .eql a5 (jv (-3)) d λa6=>A.c h (.bool true) a6 d λa7=>
 A.test a7 (A.r (Ya 1) e d λa8=>A.a a8 d λa9=>A.b .sub (jv (-2)) a9 d λb0=>f (.tup [jv 0,b0,.bool true]) d) (A.r (Ya 1) e d λb1=>
 A.a b1 d λb2=>A.b .gtr b2 (jv 0) d λb3=>A.test b3 (A.r (Xc true 23) l d λb4=>A.r (Ya 1) e d λb5=>A.a b5 d λb6=>A.k 71 [b4,b6] d λi d=>
 A.r (Qd 0) i d λb7=>A.r (Qd 1) i d λc1=>A.r (Qd 2) i d λb8=>A.test b8 (A.r (Ya 1) e d λb9=>A.a b9 d λc0=>f (.tup [c0,b7,.bool true]) d) (
 j [] d)) (j [] d)))))) (λc2 d=>f (.tup zq6) d))
 |_=>A.stop
theorem g80_ok:GQ 80 3 g80:=gq3 [none,some [],none,none,none,none,none,none] λ_ _ _ _ _ _ _=>by kernel_rfl
def g82:GFun:=λA xs a e=>match xs with
 |[x0,x1,x2]=>
 A.rd (Ye [.int .i8 0,.int .i8 0,.int .i8 0,jv 0,.int .i8 0,.nils,.str [],.int .i8 0,.int .i8 0,.str [],.nils,.nils,.nils,.nils] [(0,1)] [.int .i8 3] a) λg=>
 A.wr (Xe [.int .i8 0,.int .i8 0,.int .i8 0,jv 0,.int .i8 0,.nils,.str [],.int .i8 0,.int .i8 0,.str [],.nils,.nils,.nils,.nils] [] a) a λc a=>
 A.ws (Xb 14) c g a λ_ a=>A.s (XL .ptr true false) x0 .nilp a λh=>joinK (λf=>A.test h (A.r Qa x0 a λi=>A.r (Xc true 4) i a λj=>
 A.r (Ya 2) c a λl=>A.ws (Xb 4) l j a λ_ a=>f [] a) (A.pu (Qa [x1] a) λm=>A.dr (Xc true 5 [m] a) a λn o a=>A.pu (Ya 0 [c] a) λp=>
 A.dr (Xb 1 [p,.int .i8 8] a) a λ_ q a=>A.pu (Ya 7 [c] a) λt=>A.dr (Xb 5 [t,n] a) a λ_ u a=>A.gd (Zi [[],[0],[0,1],[],[3],[0,1,2,3,4],[0,1,2,3,4,5]] [([],[]),([],[]),o,([],[]),q,([],[]),u]) <|
 f [] a)) (λv4 a=>A.r (Xc true 14) c a λv=>A.wr (Xi 14 1 [.int .i8 0,.int .i8 0,.int .i8 0,jv 0,.int .i8 0,.nils,.str [],.int .i8 0,.int .i8 0,.str [],.nils,.nils,.nils,.nils] [(0,14)] [v] a) a λw a=>
 A.rd (Ye [.str [],.bool false,jv 0,jv 0,jv 0,jv 0,jv 0,jv 0,.nils,.nils,.nils,jv 0] [(0,1),(8,1)] [(.str [80,114,111,98,101]),w] a) λy=>
 A.wr (Xe [.str [],.bool false,jv 0,jv 0,jv 0,jv 0,jv 0,jv 0,.nils,.nils,.nils,jv 0] [] a) a λd a=>A.ws (Xb 12) d y a λ_ a=>
 A.r (Xc true 12) d a λz=>A.k 124 [z] a λa0 a=>A.b .sub a0 (jv 1) a λa1=>A.b .gtr a1 (jv 200) a λa2=>A.test a2 (e (.bool false) a) (A.pu (Qa [x2] a) λa3=>
 A.pu (Ya 0 [a3] a) λa4=>A.dr (Qg [a4] a) a λa5 a6 a=>A.pu (Ya 8 [d] a) λa7=>A.dr (Qg [a7] a) a λa8 a9 a=>A.dcall (.call 125) [a5,a8] a λb0 b1 a=>
 A.gd (Zi [[],[0],[0,1],[0,1,2],[],[4],[0,1,2,3,4,5],[0,1,2,3,4,5,6]] [([],[]),([],[]),([],[]),a6,([],[]),a9,b1,([],[])]) <|
 e b0 a))
 |_=>A.stop
theorem g82_ok:GQ 82 3 g82:=gq3 [some [],none] λ_ _ _ _ _ _ _=>by kernel_rfl
def g96:GFun:=λA xs a b=>match xs with
 |[x0]=>
 A.s (XL .slice false false) x0 .nils a λc=>A.test c (b .nils a) (A.rd (Xai 1 [] a) λd=>A.wr (Qi 1 8 [d,x0] a) a λe a=>b e a)
 |_=>A.stop
theorem g96_ok:GQ 96 1 g96:=gq1 [none] λ_ _ _ _ _=>by kernel_rfl
def g110:GFun:=λA xs a c=>match xs with
 |[x0]=>
 A.w1 Xk x0 a λb a=>A.pu (Ya 8 [b] a) λd=>A.dr (Qg [d] a) a λe f a=>A.dcall (.call 142) [e] a λg h a=>A.pu (Ya 9 [b] a) λi=>
 A.dr (Qg [i] a) a λj l a=>A.dcall (.call 142) [j] a λm n a=>A.pu (Yi .add false [g,m] a) λo=>A.pu (Ya 10 [b] a) λp=>A.dr (Qg [p] a) a λq r a=>
 A.dcall (.call 142) [q] a λs t a=>A.pu (Yi .add false [o,s] a) λu=>A.pu (XR [u,jv 1073741824] a) λv=>A.gd (Zi [[],[0],[0,1],[],[3],[0,1,2,3,4],[0,1,2,3,4,5],[],[7],[0,1,2,3,4,5,7,8],[0,1,2,3,4,5,6,7,8,9],[0,1,2,3,4,5,6,7,8,9,10],[0,1,2,3,4,5,6,7,8,9,10,11]] [([],[]),f,h,([],[]),l,n,([],[]),([],[]),r,t,([],[]),([],[]),([],[])]) <|
 c v a
 |_=>A.stop
theorem g110_ok:GQ 110 1 g110:=gq1 [] λ_ _ _ _ _=>by kernel_rfl
def g151:GFun:=λA xs a g=>match xs with
 |[x0,x1]=>
 A.pu (Qa [x0] a) λh=>A.pu (Ya 0 [h] a) λi=>A.dr (Qg [i] a) a λj l a=>A.pu (Qa [x0] a) λm=>A.pu (Ya 1 [m] a) λn=>
 A.dr (Qg [n] a) a λo p a=>A.dr (Yc 4 [j,o] a) a λq r a=>A.dr (Xc true 4 [q] a) a λs t a=>A.dr (Xe [.int .i8 0,.str [],jv 0,jv 0] [] a) a λe u a=>
 A.dr (Xb 4 [e,s] a) a λ_ v a=>A.gd (Zi [[],[0],[0,1],[0,1,2],[],[4],[4,5],[4,5,6],[0,1,2,3,4,5,6,7],[0,1,2,3,4,5,6,7,8],[],[0,1,2,3,4,5,6,7,8,9,10]] [([],[]),([],[]),([],[]),l,([],[]),([],[]),([],[]),p,r,t,u,v]) <|
 A.k 150 [x0] a λb a=>A.tr b (Ya 0) e a λw=>A.ta b w a λy=>A.tb b .eql y (.int .i8 1) a λz=>A.tr b Qh z a λf=>A.fr f (Ya 0) e a λa0=>
 A.fa f a0 a λa1=>A.fb f .eql a1 (.int .i8 3) a λa2=>A.tc b f (.bool true) a2 a λa3=>A.c b a3 (.bool false) a λd=>A.tr d (Ya 1) e a λa4=>
 A.ta d a4 a λa5=>A.tr d Qh x1 a λa6=>A.tb d .eql a5 a6 a λa7=>A.c d a7 (.bool false) a λa8=>g a8 a
 |_=>A.stop
theorem g151_ok:GQ 151 2 g151:=gq2 [] λ_ _ _ _ _ _=>by kernel_rfl
def g152:GFun:=λA xs a b=>match xs with
 |[x0,x1]=>
 A.k 150 [x0] a λc a=>A.test c (A.pu (Qa [x0] a) λd=>A.pu (Ya 0 [d] a) λe=>A.dr (Qg [e] a) a λf g a=>A.pu (Qa [x0] a) λh=>
 A.pu (Ya 1 [h] a) λi=>A.dr (Qg [i] a) a λj l a=>A.dr (Yc 4 [f,j] a) a λm n a=>A.pu (Ya 3 [m] a) λo=>A.dr (Qg [o] a) a λp q a=>
 A.pu (Ye [jv 0,jv 0] [(0,1),(1,1)] [x1,p] a) λr=>A.pu (Qa [x0] a) λs=>A.pu (Ya 3 [s] a) λt=>A.dr (Xb 2 [t,r] a) a λ_ u a=>
 A.gd (Zi [[],[],[],[2],[2,3],[2,3,4],[],[6],[6,7],[6,7,8],[2,3,4,5,6,7,8,9],[2,3,4,5,6,7,8,9,10],[2,3,4,5,6,7,8,9,10,11],[1,2,3,4,5,6,7,8,9,10,11,12],[0,1,2,3,4,5,6,7,8,9,10,11,12,13],[0,1,2,3,4,5,6,7,8,9,10,11,12,13,14],[0,1,2,3,4,5,6,7,8,9,10,11,12,13,14,15]] [([],[]),([],[]),([],[]),([],[]),([],[]),g,([],[]),([],[]),([],[]),l,n,([],[]),q,([],[]),([],[]),([],[]),u]) <|
 b (.tup []) a) (b (.tup []) a)
 |_=>A.stop
theorem g152_ok:GQ 152 2 g152:=gq2 [none] λ_ _ _ _ _ _=>by kernel_rfl
def g153:GFun:=λA xs d v=>match xs with
 |[x0,x1]=>
 A.wr (Xe [.str [],.bool false,jv 0,jv 0,jv 0,jv 0,jv 0,jv 0,.nils,.nils,.nils,jv 0] [] d) d λp d=>A.k 200 [x0] d λw d=>
 A.rd (Ye [.str [],.bool false,jv 0,jv 0,jv 0,jv 0,jv 0,jv 0,.nils,.nils,.nils,jv 0] [(11,1),(0,1)] [x1,w] d) λy=>A.wr (Xe [.str [],.bool false,jv 0,jv 0,jv 0,jv 0,jv 0,jv 0,.nils,.nils,.nils,jv 0] [] d) d λe d=>
 A.ws (Xb 12) e y d λ_ d=>A.k 201 [x0,(.str [117,110,105,116])] d λz d=>joinK (λq=>A.test z (A.r (Ya 1) e d λt7=>A.ws (Xb 1) t7 (.bool true) d λ_ d=>
 A.k 202 [x0] d λt8 d=>A.r (Ya 2) e d λt9=>A.ws (Xb 1) t9 t8 d λ_ d=>A.k 202 [x0] d λa0 d=>A.r (Ya 3) e d λa1=>A.ws (Xb 1) a1 a0 d λ_ d=>
 A.k 203 [x0,(.str [47])] d λi7 d=>A.k 202 [x0] d λa2 d=>A.r (Ya 4) e d λa3=>A.ws (Xb 1) a3 a2 d λ_ d=>q [] d) (A.k 203 [x0,(.str [99,104,97,114,109])] d λi8 d=>
 A.k 202 [x0] d λa4 d=>A.r (Ya 2) e d λa5=>A.ws (Xb 1) a5 a4 d λ_ d=>q [] d)) (λv6 d=>A.k 203 [x0,(.str [123])] d λi9 d=>joinK (λt=>
 A.loop (λg a6 d=>A.k 150 [x0] d λj d=>A.tr j Qh x0 d λa7=>A.gw j true (λk=>A.k 151 [a7,(.str [125])] d k) d λa8 d=>A.tr j (Qo .not) a8 d λa9=>
 A.c j a9 (.bool false) d λb0=>A.test b0 (A.r Qa x0 d λb1=>A.r (Ya 0) b1 d λb2=>A.a b2 d λb3=>A.r Qa x0 d λb4=>A.r (Ya 1) b4 d λb5=>
 A.a b5 d λb6=>A.s (Yc 4) b3 b6 d λb7=>A.r (Ya 1) b7 d λb8=>A.a b8 d λh=>A.k 151 [x0,(.str [112,108,97,121,101,100])] d λb9 d=>
 A.r (Qo .not) b9 d λl=>A.tr l Qh x0 d λc0=>A.gw l true (λk=>A.k 151 [c0,(.str [100,101,97,100])] d k) d λc1 d=>A.tr l (Qo .not) c1 d λc2=>
 A.c l c2 (.bool false) d λm=>A.tr m Qh x0 d λc3=>A.gw m true (λk=>A.k 151 [c3,(.str [100,97,119,110])] d k) d λc4 d=>A.tr m (Qo .not) c4 d λc5=>
 A.c m c5 (.bool false) d λn=>A.tr n Qh x0 d λc6=>A.gw n true (λk=>A.k 151 [c6,(.str [97,117,114,97])] d k) d λc7 d=>A.tr n (Qo .not) c7 d λc8=>
 A.c n c8 (.bool false) d λo=>A.tr o Qh x0 d λc9=>A.gw o true (λk=>A.k 151 [c9,(.str [115,104,105,101,108,100])] d k) d λd0 d=>A.tr o (Qo .not) d0 d λd1=>
 A.c o d1 (.bool false) d λd2=>A.test d2 (A.k 152 [x0,jv 120] d λj0 d=>t [] d) (A.k 204 [x0,(h0 a6),h] d λi d=>A.r Qa x0 d λd3=>A.r (Ya 1) d3 d λd4=>
 A.a d4 d λd5=>A.b .add d5 (jv 1) d λd6=>A.r Qa x0 d λd7=>A.r (Ya 1) d7 d λd8=>A.ws (Xb 1) d8 d6 d λ_ d=>A.rd (Yi .eql false [h,(.str [112,108,97,121,101,100])] d) λd9=>
 A.test d9 (A.k 205 [x0] d λe0 d=>A.r (Ya 8) e d λe1=>A.ws (Xb 1) e1 e0 d λ_ d=>g [i] d) (A.rd (Yi .eql false [h,(.str [100,101,97,100])] d) λe2=>
 A.test e2 (A.k 205 [x0] d λe3 d=>A.r (Ya 9) e d λe4=>A.ws (Xb 1) e4 e3 d λ_ d=>g [i] d) (A.rd (Yi .eql false [h,(.str [100,97,119,110])] d) λe5=>
 A.test e5 (A.k 205 [x0] d λe6 d=>A.r (Ya 10) e d λe7=>A.ws (Xb 1) e7 e6 d λ_ d=>g [i] d) (A.rd (Yi .eql false [h,(.str [97,117,114,97])] d) λe8=>
 A.test e8 (A.k 202 [x0] d λe9 d=>A.r (Ya 6) e d λf0=>A.ws (Xb 1) f0 e9 d λ_ d=>A.k 203 [x0,(.str [47])] d λj1 d=>A.k 202 [x0] d λf1 d=>
 A.r (Ya 7) e d λf2=>A.ws (Xb 1) f2 f1 d λ_ d=>A.k 203 [x0,(.str [59])] d λj2 d=>g [i] d) (A.rd (Yi .eql false [h,(.str [115,104,105,101,108,100])] d) λf3=>
 A.test f3 (A.k 202 [x0] d λf4 d=>A.r (Ya 5) e d λf5=>A.ws (Xb 1) f5 f4 d λ_ d=>A.k 203 [x0,(.str [59])] d λj3 d=>g [i] d) (g [i] d))))))) (
 t [] d)) [.nils] d) (λj4 d=>A.dcall (.call 150) [x0] d λf f6 d=>A.gr f true (λk=>A.pu (Ya 8 [e] d) k) λf7=>A.gl f true (λk=>A.dr (Qg [f7] d) d k) d λf8 f9 d=>
 A.gl f true (λk=>A.dcall (.call 206) [f8] d k) d λg0 g1 d=>A.gr f true (λk=>A.pu (Ya 9 [e] d) k) λg2=>A.gl f true (λk=>A.dr (Qg [g2] d) d k) d λg3 g4 d=>
 A.gl f true (λk=>A.dcall (.call 206) [g3] d k) d λg5 g6 d=>A.gr f true (λk=>A.pu (Yi .add false [g0,g5] d) k) λg7=>A.gr f true (λk=>A.pu (Ya 10 [e] d) k) λg8=>
 A.gl f true (λk=>A.dr (Qg [g8] d) d k) d λg9 i0 d=>A.gl f true (λk=>A.dcall (.call 206) [g9] d k) d λi1 i2 d=>A.gr f true (λk=>A.pu (Yi .add false [g7,i1] d) k) λi3=>
 A.gr f true (λk=>A.pu (Yi .gtr false [i3,jv 200] d) k) λi4=>A.pu (Zn [f,i4,.bool false] d) λi5=>A.gd (Zi [[],[0],[0,1],[0,1,2],[0,1,2,3],[0,1,2,3,4],[0,1,2],[0,1,2,6],[0,1,2,3,4,5,6,7],[0,1,2,3,4,5,6,7,8],[0,1,2],[0,1,2,10],[0,1,2,3,4,5,6,7,8,10,11],[0,1,2,3,4,5,6,7,8,9,10,11,12],[0,1,2,3,4,5,6,7,8,9,10,11,12,13],[0,1,2,3,4,5,6,7,8,9,10,11,12,13,14]] [([],[]),f6,([],[]),([],[]),f9,g1,([],[]),g4,g6,([],[]),([],[]),i0,i2,([],[]),([],[]),([],[])]) <|
 joinK (λu=>A.test i5 (A.k 152 [x0,jv 3] d λj5 d=>u [] d) (u [] d)) (λj6 d=>A.k 203 [x0,(.str [125])] d λj7 d=>A.r (Xc true 12) e d λi6=>
 A.ws (Xb 12) p i6 d λ_ d=>A.opt (cellV true 12 p d) λr109=>v r109 d)))
 |_=>A.stop
theorem g153_ok:GQ 153 2 g153:=gq2 [some [],some [],some [6],none,none,none,none,none,none,none,none,none,some []] λ_ _ _ _ _ _=>by kernel_rfl
def g154:GFun:=λA xs d p=>match xs with
 |[x0,x1]=>
 A.wr (Xe [.str [],jv 0,jv 0,jv 0,.nils,.nils,jv 0] [] d) d λn d=>A.k 200 [x0] d λq d=>A.rd (Ye [.str [],jv 0,jv 0,jv 0,.nils,.nils,jv 0] [(6,1),(0,1)] [x1,q] d) λt=>
 A.wr (Xe [.str [],jv 0,jv 0,jv 0,.nils,.nils,jv 0] [] d) d λe d=>A.ws (Xb 7) e t d λ_ d=>A.k 203 [x0,(.str [123])] d λt4 d=>
 joinK (λo=>A.loop (λu v d=>A.k 150 [x0] d λh d=>A.tr h Qh x0 d λw=>A.gw h true (λk=>A.k 151 [w,(.str [125])] d k) d λy d=>A.tr h (Qo .not) y d λz=>
 A.c h z (.bool false) d λa0=>A.test a0 (A.r Qa x0 d λa1=>A.r (Ya 0) a1 d λa2=>A.a a2 d λa3=>A.r Qa x0 d λa4=>A.r (Ya 1) a4 d λa5=>
 A.a a5 d λa6=>A.s (Yc 4) a3 a6 d λa7=>A.r (Ya 1) a7 d λa8=>A.a a8 d λf=>A.k 151 [x0,(.str [108,101,97,115,116])] d λa9 d=>
 A.r (Qo .not) a9 d λi=>A.tr i Qh x0 d λb0=>A.gw i true (λk=>A.k 151 [b0,(.str [109,111,115,116])] d k) d λb1 d=>A.tr i (Qo .not) b1 d λb2=>
 A.c i b2 (.bool false) d λj=>A.tr j Qh x0 d λb3=>A.gw j true (λk=>A.k 151 [b3,(.str [99,111,112,105,101,115])] d k) d λb4 d=>A.tr j (Qo .not) b4 d λb5=>
 A.c j b5 (.bool false) d λl=>A.tr l Qh x0 d λb6=>A.gw l true (λk=>A.k 151 [b6,(.str [98,97,110,110,101,100])] d k) d λb7 d=>A.tr l (Qo .not) b7 d λb8=>
 A.c l b8 (.bool false) d λm=>A.tr m Qh x0 d λb9=>A.gw m true (λk=>A.k 151 [b9,(.str [115,105,110,103,108,101])] d k) d λc0 d=>A.tr m (Qo .not) c0 d λc1=>
 A.c m c1 (.bool false) d λc2=>A.test c2 (A.k 152 [x0,jv 120] d λe6 d=>o [] d) (A.k 204 [x0,(h0 v),f] d λc3 d=>A.r Qa x0 d λc4=>A.r (Ya 1) c4 d λc5=>
 A.a c5 d λc6=>A.b .add c6 (jv 1) d λc7=>A.r Qa x0 d λc8=>A.r (Ya 1) c8 d λc9=>A.ws (Xb 1) c9 c7 d λ_ d=>joinK (λg=>
 A.rd (Yi .eql false [f,(.str [108,101,97,115,116])] d) λd0=>A.test d0 (A.k 202 [x0] d λd1 d=>A.r (Ya 1) e d λd2=>A.ws (Xb 1) d2 d1 d λ_ d=>
 g [] d) (A.rd (Yi .eql false [f,(.str [109,111,115,116])] d) λd3=>A.test d3 (A.k 202 [x0] d λd4 d=>A.r (Ya 2) e d λd5=>A.ws (Xb 1) d5 d4 d λ_ d=>
 g [] d) (A.rd (Yi .eql false [f,(.str [99,111,112,105,101,115])] d) λd6=>A.test d6 (A.k 202 [x0] d λd7 d=>A.r (Ya 3) e d λd8=>A.ws (Xb 1) d8 d7 d λ_ d=>
 g [] d) (A.rd (Yi .eql false [f,(.str [98,97,110,110,101,100])] d) λd9=>A.test d9 (A.k 207 [x0] d λe0 d=>A.r (Ya 4) e d λe1=>A.ws (Xb 1) e1 e0 d λ_ d=>
 g [] d) (A.rd (Yi .eql false [f,(.str [115,105,110,103,108,101])] d) λe2=>A.test e2 (A.k 207 [x0] d λe3 d=>A.r (Ya 5) e d λe4=>A.ws (Xb 1) e4 e3 d λ_ d=>
 g [] d) (g [] d)))))) (λe7 d=>A.k 203 [x0,(.str [59])] d λe8 d=>u [c3] d))) (o [] d)) [.nils] d) (λv6 d=>A.k 203 [x0,(.str [125])] d λe9 d=>A.r (Xc true 7) e d λe5=>
 A.ws (Xb 7) n e5 d λ_ d=>A.opt (cellV true 7 n d) λr69=>p r69 d)
 |_=>A.stop
theorem g154_ok:GQ 154 2 g154:=gq2 [some [],some [6],none,none,none,some [],none,none,none,none,none] λ_ _ _ _ _ _=>by kernel_rfl
def g155:GFun:=λA xs c f=>match xs with
 |[x0,x1]=>
 A.r Qa x0 c λh=>A.r (Ya 8) h c λi=>A.a i c λj=>A.r Qa x0 c λl=>A.r (Ya 9) l c λm=>A.a m c λn=>A.r Qa x0 c λo=>
 A.r (Ya 10) o c λp=>A.a p c λq=>A.rd (Ye [.nils,.nils,.nils] [(0,1),(1,1),(2,1)] [j,n,q] c) λt=>A.loop (λu d c=>A.b .lss (h0 d) (jv 3) c λv=>
 A.test v (A.s (YX false 3 1) t (h0 d) c λg=>A.r Qe g c λw=>A.loop (λy e c=>A.b .lss (h0 e) w c λz=>A.test z (A.s (Yc 14) g (h0 e) c λa0=>
 A.rd (Ye [.nilp] [(0,1)] [a0] c) λa1=>A.r (Yn 272) a1 c λa2=>A.k 208 [a2,x1] c λa3 c=>A.r (Qo .not) a3 c λa4=>A.test a4 (f (.tup []) c) (
 A.b .add (h0 e) (jv 1) c λa5=>y [a5] c)) (A.b .add (h0 d) (jv 1) c λa6=>u [a6] c)) [jv 0] c) (f (.tup []) c)) [jv 0] c
 |_=>A.stop
theorem g155_ok:GQ 155 2 g155:=gq2 [none,some [20],none,none,none,some [25],none,none,none] λ_ _ _ _ _ _=>by kernel_rfl
def g156:GFun:=λA xs c d=>match xs with
 |[x0,x1]=>
 A.a x1 c λe=>A.b .add e (jv 1) c λf=>A.ws (Xb 1) x1 f c λ_ c=>A.a x1 c λg=>A.b .lss g (jv 1073741824) c λh=>d h c
 |_=>A.stop
theorem g156_ok:GQ 156 2 g156:=gq2 [] λ_ _ _ _ _ _=>by kernel_rfl
def g157:GFun:=λA xs d t=>match xs with
 |[x0,x1,x2]=>
 A.r Qe x1 d λt0=>A.b .gtr t0 (jv 16) d λu=>A.fr u Qh x2 d λt2=>A.fb u .gtr t2 (jv 8) d λt3=>A.c u (.bool true) t3 d λt4=>A.test t4 (t (.bool false) d) (
 A.r Qe x1 d λt5=>A.loop (λa4 v d=>A.b .lss (h0 v) t5 d λt8=>A.test t8 (A.s (Yc 14) x1 (h0 v) d λf=>A.k 209 [f] d λh d=>A.tr h Qh f d λa5=>
 A.tr h Qa a5 d λa6=>A.tr h (Ya 0) a6 d λa7=>A.ta h a7 d λa8=>A.gw h true (λk=>A.k 210 [a8] d k) d λa9 d=>A.tr h (Qo .not) a9 d λb0=>
 A.tr h Qh b0 d λn=>A.fr n Qh x0 d λb1=>A.fr n Qh f d λb2=>A.fr n Qa b2 d λb3=>A.fr n (Ya 2) b3 d λb4=>A.gw n false (λk=>A.k 211 [b1,b4] d k) d λb5 d=>
 A.tc h n (.bool true) b5 d λb6=>A.c h b6 (.bool false) d λe=>A.r Qa f d λb7=>A.r (Ya 0) b7 d λb8=>A.a b8 d λi=>joinK (λp=>
 A.b .eql i (.int .i8 0) d λy=>joinK (λz=>A.test y (z [y] d) (A.b .eql i (.int .i8 1) d λb9=>z [b9] d)) (λc0 d=>A.test (h0 c0) (A.tr e Qh f d λc1=>
 A.tr e Qa c1 d λc2=>A.tr e (Ya 1) c2 d λc3=>A.ta e c3 d λc4=>A.gw e true (λk=>A.k 212 [c4] d k) d λc5 d=>A.tr e Qh c5 d λm=>
 A.fr m Qh f d λc6=>A.fr m Qa c6 d λc7=>A.fr m (Ya 1) c7 d λc8=>A.fa m c8 d λc9=>A.fb m .eql c9 (.int .i8 2) d λd0=>A.fr m Qh d0 d λq=>
 A.tr q Qh x0 d λd1=>A.tr q Qa d1 d λd2=>A.tr q (Ya 1) d2 d λd3=>A.ta q d3 d λd4=>A.fc m q d4 (.bool false) d λd5=>A.tc e m (.bool true) d5 d λd6=>
 A.c e d6 (.bool false) d λd7=>p [d7] d) (A.b .eql i (.int .i8 2) d λa0=>joinK (λw=>A.test a0 (w [a0] d) (A.b .eql i (.int .i8 4) d λa1=>A.test a1 (
 w [a1] d) (A.b .eql i (.int .i8 6) d λd8=>w [d8] d))) (λd9 d=>A.test (h0 d9) (A.tr e Qh f d λe0=>A.tr e Qa e0 d λe1=>A.tr e (Ya 1) e1 d λe2=>
 A.ta e e2 d λe3=>A.gw e true (λk=>A.k 212 [e3] d k) d λe4 d=>A.c e e4 (.bool false) d λe5=>p [e5] d) (A.b .eql i (.int .i8 3) d λa2=>joinK (λa3=>
 A.test a2 (a3 [a2] d) (A.b .eql i (.int .i8 5) d λe6=>a3 [e6] d)) (λe7 d=>A.test (h0 e7) (A.tr e Qh f d λe8=>A.tr e Qa e8 d λe9=>A.tr e (Ya 1) e9 d λf0=>
 A.ta e f0 d λf1=>A.tb e .eql f1 (.int .i8 0) d λf2=>A.c e f2 (.bool false) d λf3=>p [f3] d) (A.b .eql i (.int .i8 7) d λf4=>A.test f4 (A.tr e Qh f d λf5=>
 A.tr e Qa f5 d λf6=>A.tr e (Ya 1) f6 d λf7=>A.ta e f7 d λf8=>A.tb e .eql f8 (.int .i8 0) d λf9=>A.c e f9 (.bool false) d λg=>
 A.tr g Qh x0 d λg0=>A.tr g Qa g0 d λg1=>A.tr g (Ya 0) g1 d λg2=>A.ta g g2 d λg3=>A.tr g Qh f d λg4=>A.tr g Qa g4 d λg5=>
 A.tr g (Ya 6) g5 d λg6=>A.ta g g6 d λg7=>A.ts g (Qq true false (.bool false)) g3 g7 d λg8=>A.c g g8 (.bool false) d λg9=>p [g9] d) (
 A.b .eql i (.int .i8 8) d λi0=>A.test i0 (A.tr e Qh f d λi1=>A.tr e Qa i1 d λi2=>A.tr e (Ya 1) i2 d λi3=>A.ta e i3 d λi4=>
 A.tb e .eql i4 (.int .i8 0) d λi5=>A.c e i5 (.bool false) d λo=>A.tr o Qh x0 d λi6=>A.tr o Qh f d λi7=>A.tr o Qa i7 d λi9=>A.tr o (Ya 7) i9 d λj0=>
 A.gw o true (λk=>A.k 213 [i6,j0] d k) d λj1 d=>A.c o j1 (.bool false) d λj=>A.tr j Qh x0 d λj2=>A.tr j Qh f d λj3=>A.tr j Qa j3 d λj4=>
 A.tr j (Ya 12) j4 d λj5=>A.ta j j5 d λj6=>A.tr j Qh x2 d λj7=>A.tb j .add j7 (jv 1) d λj8=>A.gw j true (λk=>A.k 157 [j2,j6,j8] d k) d λj9 d=>
 A.c j j9 (.bool false) d λl=>A.tr l Qh x0 d λl0=>A.tr l Qh f d λl1=>A.tr l Qa l1 d λl2=>A.tr l (Ya 13) l2 d λl3=>A.ta l l3 d λl4=>
 A.tr l Qh x2 d λl5=>A.tb l .add l5 (jv 1) d λl6=>A.gw l true (λk=>A.k 157 [l0,l4,l6] d k) d λl7 d=>A.c l l7 (.bool false) d λl8=>p [l8] d) (
 t (.bool false) d))))))))) (λl9 d=>A.r (Qo .not) (h0 l9) d λm0=>A.test m0 (t (.bool false) d) (A.b .add (h0 v) (jv 1) d λm1=>a4 [m1] d))) (t (.bool true) d)) [jv 0] d)
 |_=>A.stop
theorem g157_ok:GQ 157 3 g157:=gq3 [none,none,some [19],none,none,some [9],some [46],none,some [70],none,none,some [82],none,none,none,none] λ_ _ _ _ _ _ _=>by kernel_rfl
def g178:GFun:=λA xs c g=>match xs with
 |[x0]=>
 A.w1 Xk x0 c λf c=>A.loop (λh d c=>A.r (Ya 3) f c λi=>A.a i c λj=>A.r Qe j c λl=>A.b .lss (h0 d) l c λm=>A.test m (A.r (Ya 3) f c λn=>
 A.a n c λo=>A.s (Yc 4) o (h0 d) c λp=>A.r (Xc true 4) p c λq=>A.k 76 [q] c λt c=>A.b .add (h1 d) t c λu=>A.s XR u (jv 1073741824) c λv=>
 A.b .add (h0 d) (jv 1) c λw=>h [w,v] c) (A.loop (λy e c=>A.r (Ya 4) f c λz=>A.a z c λa0=>A.r Qe a0 c λa1=>A.b .lss (h0 e) a1 c λa2=>
 A.test a2 (A.r (Ya 4) f c λa3=>A.a a3 c λa4=>A.s (Yc 5) a4 (h0 e) c λa5=>A.r (Xc true 5) a5 c λa6=>A.k 178 [a6] c λa7 c=>
 A.b .add (h1 e) a7 c λa8=>A.s XR a8 (jv 1073741824) c λa9=>A.b .add (h0 e) (jv 1) c λb0=>y [b0,a9] c) (g (h1 e) c)) [jv 0,(h1 d)] c)) [jv 0,jv 1] c
 |_=>A.stop
theorem g178_ok:GQ 178 1 g178:=gq1 [none,some [4,3],none,none,none,some [5,3],none,none] λ_ _ _ _ _=>by kernel_rfl
def g179:GFun:=λA xs b d=>match xs with
 |[x0]=>
 A.wr (Xe [jv 0,jv 0] [] b) b λc b=>A.r (Ya 0) x0 b λe=>A.a e b λf=>A.k 180 [f] b λg b=>A.ws (Xb 2) c g b λ_ b=>A.opt (cellV true 2 c b) λr4=>
 d r4 b
 |_=>A.stop
theorem g179_ok:GQ 179 1 g179:=gq1 [] λ_ _ _ _ _=>by kernel_rfl
def g180:GFun:=λA xs c f=>match xs with
 |[x0]=>
 A.wr (Xe [jv 0,jv 0] [] c) c λd c=>A.r Qe x0 c λo=>A.b .gtr o (jv 240) c λp=>A.test p (A.rd (Ye [jv 0,jv 0] [(0,1)] [jv 3] c) λq=>
 A.ws (Xb 2) d q c λ_ c=>A.opt (cellV true 2 d c) λr4=>f r4 c) (A.wr (QD [] c) c λh c=>A.r Qe x0 c λt=>A.loop (λu i c=>A.b .lss (h0 i) t c λv=>
 A.test v (joinK (λl=>A.s (Yc 12) x0 (h0 i) c λw=>A.r (Xc true 12) w c λy=>A.wr (Xe [.str [],.bool false,jv 0,jv 0,jv 0,jv 0,jv 0,jv 0,.nils,.nils,.nils,jv 0] [] c) c λg c=>
 A.ws (Xb 12) g y c λ_ c=>A.r (Ya 0) g c λz=>A.a z c λa0=>A.s (Qq true true (.bool false)) h a0 c λm=>A.r (Qd 0) m c λd0=>
 A.r (Qd 1) m c λa1=>A.r (Qo .not) a1 c λa2=>A.test a2 (A.r (Ya 0) g c λa3=>A.a a3 c λa4=>A.r (Ya 1) g c λa5=>A.a a5 c λa6=>
 A.wr (Yy true [h,a4,a6] c) c λ_ c=>l [] c) (l [] c)) (λd1 c=>A.b .add (h0 i) (jv 1) c λa7=>u [a7] c)) (A.wr (QD [] c) c λn c=>A.r Qe x0 c λa8=>
 A.loop (λa9 j c=>A.b .lss (h0 j) a8 c λb0=>A.test b0 (A.s (Yc 12) x0 (h0 j) c λe=>A.r Qa e c λb1=>A.r (Ya 0) b1 c λb2=>
 A.a b2 c λb3=>A.s (Qq true false (.bool false)) n b3 c λb4=>A.test b4 (A.r Qa e c λb5=>A.r (Ya 11) b5 c λb6=>A.a b6 c λb7=>
 A.rd (Ye [jv 0,jv 0] [(0,1),(1,1)] [jv 101,b7] c) λb8=>A.ws (Xb 2) d b8 c λ_ c=>A.opt (cellV true 2 d c) λr40=>f r40 c) (A.k 221 [e,h] c λb9 c=>
 A.r (Qo .not) b9 c λc0=>A.test c0 (A.r Qa e c λc1=>A.r (Ya 11) c1 c λc2=>A.a c2 c λc3=>A.rd (Ye [jv 0,jv 0] [(0,1),(1,1)] [jv 130,c3] c) λc4=>
 A.ws (Xb 2) d c4 c λ_ c=>A.opt (cellV true 2 d c) λr47=>f r47 c) (A.r Qa e c λc5=>A.r (Ya 0) c5 c λc6=>A.a c6 c λc7=>A.wr (Yy true [n,c7,.bool true] c) c λ_ c=>
 A.b .add (h0 j) (jv 1) c λc8=>a9 [c8] c))) (A.rd (Ye [jv 0,jv 0] [] [] c) λc9=>A.ws (Xb 2) d c9 c λ_ c=>A.opt (cellV true 2 d c) λr53=>
 f r53 c)) [jv 0] c)) [jv 0] c)
 |_=>A.stop
theorem g180_ok:GQ 180 1 g180:=gq1 [none,none,some [18],none,some [],none,none,some [40],none,none,none,none,none] λ_ _ _ _ _=>by kernel_rfl
def g181:GFun:=λA xs b d=>match xs with
 |[x0]=>
 A.wr (Xe [jv 0,jv 0] [] b) b λc b=>A.r (Ya 0) x0 b λe=>A.a e b λf=>A.k 182 [f] b λg b=>A.ws (Xb 2) c g b λ_ b=>A.opt (cellV true 2 c b) λr4=>
 d r4 b
 |_=>A.stop
theorem g181_ok:GQ 181 1 g181:=gq1 [] λ_ _ _ _ _=>by kernel_rfl
def g182:GFun:=λA xs d l=>match xs with
 |[x0]=>
 A.wr (Xe [jv 0,jv 0] [] d) d λh d=>A.rd (Ye [.int .i8 0] [(0,1)] [.int .i8 0] d) λm=>A.wr (Xe [.int .i8 0] [] d) d λi d=>
 A.ws (Xb 1) i m d λ_ d=>A.r Qe x0 d λn=>A.loop (λo j d=>A.b .lss (h0 j) n d λp=>A.test p (A.s (Yc 12) x0 (h0 j) d λq=>A.r (Xc true 12) q d λt=>
 A.wr (Xe [.str [],.bool false,jv 0,jv 0,jv 0,jv 0,jv 0,jv 0,.nils,.nils,.nils,jv 0] [] d) d λg d=>A.ws (Xb 12) g t d λ_ d=>
 A.r (Xc true 1) i d λu=>A.r (Ya 8) g d λv=>A.a v d λw=>A.k 222 [u,w] d λy d=>A.r (Qo .not) y d λe=>A.fr e (Xc true 1) i d λz=>
 A.fr e (Ya 9) g d λa0=>A.fa e a0 d λa1=>A.gw e false (λk=>A.k 222 [z,a1] d k) d λa2 d=>A.fr e (Qo .not) a2 d λa3=>A.c e (.bool true) a3 d λf=>
 A.fr f (Xc true 1) i d λa4=>A.fr f (Ya 10) g d λa5=>A.fa f a5 d λa6=>A.gw f false (λk=>A.k 222 [a4,a6] d k) d λa7 d=>A.fr f (Qo .not) a7 d λa8=>
 A.c f (.bool true) a8 d λa9=>A.test a9 (A.r (Ya 11) g d λb0=>A.a b0 d λb1=>A.rd (Ye [jv 0,jv 0] [(0,1),(1,1)] [jv 140,b1] d) λb2=>
 A.ws (Xb 2) h b2 d λ_ d=>A.opt (cellV true 2 h d) λr30=>l r30 d) (A.b .add (h0 j) (jv 1) d λb3=>o [b3] d)) (A.rd (Ye [jv 0,jv 0] [] [] d) λb4=>
 A.ws (Xb 2) h b4 d λ_ d=>A.opt (cellV true 2 h d) λr33=>l r33 d)) [jv 0] d
 |_=>A.stop
theorem g182_ok:GQ 182 1 g182:=gq1 [none,some [9],none,none,none] λ_ _ _ _ _=>by kernel_rfl
def g183:GFun:=λA xs a c=>match xs with
 |[x0]=>
 A.wr (Xe [jv 0,jv 0] [] a) a λb a=>A.r (Xc true 2) x0 a λd=>A.k 184 [d] a λe a=>A.ws (Xb 2) b e a λ_ a=>A.opt (cellV true 2 b a) λr3=>
 c r3 a
 |_=>A.stop
theorem g183_ok:GQ 183 1 g183:=gq1 [] λ_ _ _ _ _=>by kernel_rfl
def g184:GFun:=λA xs d v=>match xs with
 |[x0]=>
 A.w1 Xk x0 d λw d=>A.wr (Xe [jv 0,jv 0] [] d) d λl d=>A.wr (QD [] d) d λy d=>A.r (Ya 1) w d λt3=>A.a t3 d λz=>A.r Qe z d λt5=>
 A.loop (λa3 m d=>A.b .lss (h0 m) t5 d λt8=>A.test t8 (A.s (Yc 7) z (h0 m) d λt9=>A.r (Xc true 7) t9 d λa4=>A.wr (Xe [.str [],jv 0,jv 0,jv 0,.nils,.nils,jv 0] [] d) d λe d=>
 A.ws (Xb 7) e a4 d λ_ d=>A.b .lss (h0 m) (jv 240) d λn=>A.tr n (Ya 0) e d λa5=>A.ta n a5 d λa6=>A.gw n true (λk=>A.k 223 [a6] d k) d λa7 d=>
 A.c n a7 (.bool false) d λf=>A.tr f Qh y d λa8=>A.tr f (Ya 0) e d λa9=>A.ta f a9 d λb0=>A.ts f (Qq true false (.bool false)) a8 b0 d λb1=>
 A.tr f (Qo .not) b1 d λb2=>A.c f b2 (.bool false) d λo=>A.tr o (Ya 1) e d λb3=>A.ta o b3 d λb4=>A.tb o .geq b4 (jv 0) d λb5=>A.c o b5 (.bool false) d λg=>
 A.tr g (Ya 1) e d λb6=>A.ta g b6 d λb7=>A.tr g (Ya 2) e d λb8=>A.ta g b8 d λb9=>A.tb g .leq b7 b9 d λc0=>A.c g c0 (.bool false) d λp=>
 A.tr p (Ya 2) e d λc1=>A.ta p c1 d λc2=>A.tb p .leq c2 (jv 60) d λc3=>A.c p c3 (.bool false) d λq=>A.tr q (Ya 3) e d λc4=>
 A.ta q c4 d λc5=>A.tb q .geq c5 (jv 0) d λc6=>A.c q c6 (.bool false) d λt=>A.tr t (Ya 3) e d λc7=>A.ta t c7 d λc8=>A.tb t .leq c8 (jv 999) d λc9=>
 A.c t c9 (.bool false) d λd0=>A.r (Ya 4) e d λd1=>A.a d1 d λd2=>A.r (Ya 5) e d λd3=>A.a d3 d λd4=>A.rd (Ye [.nils,.nils] [(0,1),(1,1)] [d2,d4] d) λd5=>
 A.loop (λd6 i d=>A.b .lss (h0 i) (jv 2) d λd7=>A.test d7 (A.s (YX false 2 1) d5 (h0 i) d λa0=>A.wr (QD [] d) d λa1 d=>A.r Qe a0 d λd8=>
 A.loop (λd9 h d=>A.b .lss (h0 h) d8 d λe0=>A.test e0 (A.s (Yc 1) a0 (h0 h) d λe1=>A.a e1 d λu=>A.r (Xc true 2) w d λe2=>A.k 224 [e2,u] d λa2 d=>
 A.r (Qd 0) a2 d λg0=>A.r (Qd 1) a2 d λe3=>A.gr (h1 h) true (λk=>A.rd (Qh [e3] d) k) λe4=>A.c (h1 h) e4 (.bool false) d λj=>
 A.tr j Qh a1 d λe5=>A.tr j Qh u d λe6=>A.ts j (Qq true false (.bool false)) e5 e6 d λe7=>A.tr j (Qo .not) e7 d λe8=>A.c j e8 (.bool false) d λe9=>
 A.wr (Yy true [a1,u,.bool true] d) d λ_ d=>A.b .add (h0 h) (jv 1) d λf0=>d9 [f0,e9] d) (A.b .add (h0 i) (jv 1) d λf1=>d6 [f1,(h1 h)] d)) [jv 0,(h1 i)] d) (
 A.r (Qo .not) (h1 i) d λf2=>A.test f2 (A.r (Ya 6) e d λf3=>A.a f3 d λf4=>A.rd (Ye [jv 0,jv 0] [(0,1),(1,1)] [jv 151,f4] d) λf5=>
 A.ws (Xb 2) l f5 d λ_ d=>A.opt (cellV true 2 l d) λr78=>v r78 d) (A.r (Ya 0) e d λf6=>A.a f6 d λf7=>A.wr (Yy true [y,f7,.bool true] d) d λ_ d=>
 A.b .add (h0 m) (jv 1) d λf8=>a3 [f8] d))) [jv 0,d0] d) (A.rd (Ye [jv 0,jv 0] [] [] d) λf9=>A.ws (Xb 2) l f9 d λ_ d=>A.opt (cellV true 2 l d) λr83=>
 v r83 d)) [jv 0] d
 |_=>A.stop
theorem g184_ok:GQ 184 1 g184:=gq1 [none,some [18],none,none,none,some [69,6],none,none,none,some [75,6],none,none,none] λ_ _ _ _ _=>by kernel_rfl
def g185:GFun:=λA xs a c=>match xs with
 |[x0,x1]=>
 A.k 120 [x0,x1] a λd a=>A.b .geq d (jv 0) a λe=>c e a
 |_=>A.stop
theorem g185_ok:GQ 185 2 g185:=gq2 [] λ_ _ _ _ _ _=>by kernel_rfl
def g186:GFun:=λA xs a e=>match xs with
 |[x0,x1]=>
 A.b .lss x0 (jv 0) a λd=>A.fr d Qh x0 a λf=>A.fa d x1 a λg=>A.fr d Qa g a λh=>A.fr d (Ya 0) h a λi=>A.fa d i a λj=>A.fr d Qe j a λl=>
 A.fb d .geq f l a λm=>A.c d (.bool true) m a λn=>e n a
 |_=>A.stop
theorem g186_ok:GQ 186 2 g186:=gq2 [] λ_ _ _ _ _ _=>by kernel_rfl
def g187:GFun:=λA xs a e=>match xs with
 |[x0]=>
 A.b .geq x0 (jv 0) a λd=>A.tr d Qh x0 a λf=>A.tb d .leq f (jv 999) a λg=>A.c d g (.bool false) a λh=>e h a
 |_=>A.stop
theorem g187_ok:GQ 187 1 g187:=gq1 [] λ_ _ _ _ _=>by kernel_rfl
def g188:GFun:=λA xs d f=>match xs with
 |[x0,x1,x2]=>
 A.r Qe x1 d λt0=>A.b .gtr t0 (jv 16) d λt1=>A.fr t1 Qh x2 d λt2=>A.fb t1 .gtr t2 (jv 8) d λt3=>A.c t1 (.bool true) t3 d λt4=>A.test t4 (
 f (.bool false) d) (A.loop (λa5 v6 d=>A.r Qe x1 d λt7=>A.b .lss (h0 v6) t7 d λt8=>A.test t8 (joinK (λk9=>A.s (Yc 14) x1 (h0 v6) d λa6=>
 A.r (Xc true 14) a6 d λa7=>A.wr (Xe [.int .i8 0,.int .i8 0,.int .i8 0,jv 0,.int .i8 0,.nils,.str [],.int .i8 0,.int .i8 0,.str [],.nils,.nils,.nils,.nils] [] d) d λe d=>
 A.ws (Xb 14) e a7 d λ_ d=>A.r (Ya 0) e d λa8=>A.a a8 d λa9=>A.b .lss a9 (.int .i8 0) d λw=>A.fr w (Ya 0) e d λb0=>A.fa w b0 d λb1=>
 A.fb w .gtr b1 (.int .i8 8) d λb2=>A.c w (.bool true) b2 d λb3=>A.test b3 (f (.bool false) d) (A.r (Ya 0) e d λb4=>A.a b4 d λb5=>A.b .eql b5 (.int .i8 8) d λb6=>
 A.test b6 (A.r (Ya 1) e d λb7=>A.a b7 d λb8=>A.b .neq b8 (.int .i8 0) d λp=>A.fr p (Ya 2) e d λb9=>A.fr p (Xc true 4) b9 d λc0=>
 A.gw p false (λk=>A.k 225 [c0] d k) d λc1 d=>A.fr p (Qo .not) c1 d λc2=>A.c p (.bool true) c2 d λy=>A.fr y (Ya 6) e d λc3=>A.fa y c3 d λc4=>
 A.gof y (Yi .neq false [c4,.str []] d) λc5=>A.c y (.bool true) c5 d λj=>A.fr j Qh x0 d λc6=>A.fr j (Ya 7) e d λc7=>A.fr j (Xc true 5) c7 d λc8=>
 A.gw j false (λk=>A.k 226 [c6,c8] d k) d λc9 d=>A.fr j (Qo .not) c9 d λd0=>A.c j (.bool true) d0 d λg=>A.fr g Qh x0 d λd1=>A.fr g (Ya 12) e d λd2=>
 A.fa g d2 d λd3=>A.fr g Qh x2 d λd4=>A.fb g .add d4 (jv 1) d λd5=>A.gw g false (λk=>A.k 188 [d1,d3,d5] d k) d λd6 d=>A.fr g (Qo .not) d6 d λd7=>
 A.c g (.bool true) d7 d λh=>A.fr h Qh x0 d λd8=>A.fr h (Ya 13) e d λd9=>A.fa h d9 d λe0=>A.fr h Qh x2 d λe1=>A.fb h .add e1 (jv 1) d λe2=>
 A.gw h false (λk=>A.k 188 [d8,e0,e2] d k) d λe3 d=>A.fr h (Qo .not) e3 d λe4=>A.c h (.bool true) e4 d λe5=>A.test e5 (f (.bool false) d) (k9 [] d)) (
 A.r (Ya 7) e d λe6=>A.r (Xc true 5) e6 d λe7=>A.k 227 [e7] d λe8 d=>A.r (Qo .not) e8 d λq=>A.fr q (Ya 12) e d λe9=>A.fa q e9 d λf0=>
 A.fr q Qe f0 d λf1=>A.fb q .gtr f1 (jv 0) d λf2=>A.c q (.bool true) f2 d λt=>A.fr t (Ya 13) e d λf3=>A.fa t f3 d λf4=>A.fr t Qe f4 d λf5=>
 A.fb t .gtr f5 (jv 0) d λf6=>A.c t (.bool true) f6 d λf7=>A.test f7 (f (.bool false) d) (A.r (Ya 0) e d λf8=>A.a f8 d λf9=>A.k 130 [f9] d λl d=>
 A.tr l Qh x0 d λg0=>A.tr l (Ya 2) e d λg1=>A.tr l (Xc true 4) g1 d λg2=>A.gw l true (λk=>A.k 77 [g0,g2] d k) d λg3 d=>A.tr l (Qo .not) g3 d λg4=>
 A.c l g4 (.bool false) d λi=>A.fr i (Ya 0) e d λg5=>A.fa i g5 d λg6=>A.gw i false (λk=>A.k 130 [g6] d k) d λg7 d=>A.fr i (Qo .not) g7 d λg8=>
 A.fr i Qh g8 d λu=>A.tr u (Ya 2) e d λg9=>A.tr u (Xc true 4) g9 d λi0=>A.gw u true (λk=>A.k 225 [i0] d k) d λi1 d=>A.tr u (Qo .not) i1 d λi2=>
 A.fc i u i2 (.bool false) d λi3=>A.c i (.bool true) i3 d λi4=>A.test i4 (f (.bool false) d) (A.r (Ya 0) e d λi5=>A.a i5 d λi6=>A.b .eql i6 (.int .i8 7) d λm=>
 A.tr m Qh x0 d λi7=>A.tr m (Ya 6) e d λi9=>A.ta m i9 d λj0=>A.gw m true (λk=>A.k 228 [i7,j0,.bool true] d k) d λj1 d=>A.tr m (Qo .not) j1 d λj2=>
 A.c m j2 (.bool false) d λn=>A.fr n (Ya 0) e d λj3=>A.fa n j3 d λj4=>A.fb n .neq j4 (.int .i8 7) d λj5=>A.fr n Qh j5 d λz=>A.tr z (Ya 6) e d λj6=>
 A.ta z j6 d λj7=>A.got z (Yi .neq false [j7,.str []] d) λj8=>A.fc n z j8 (.bool false) d λj9=>A.c n (.bool true) j9 d λl0=>A.test l0 (f (.bool false) d) (
 A.r (Ya 1) e d λl1=>A.a l1 d λl2=>A.b .eql l2 (.int .i8 0) d λl3=>A.r (Ya 0) e d λl4=>A.a l4 d λl5=>A.b .eql l5 (.int .i8 0) d λa0=>
 A.fr a0 (Ya 0) e d λl6=>A.fa a0 l6 d λl7=>A.fb a0 .eql l7 (.int .i8 1) d λl8=>A.c a0 (.bool true) l8 d λl9=>joinK (λa3=>A.test l9 (
 A.r (Ya 1) e d λm0=>A.a m0 d λm1=>A.k 121 [m1] d λo d=>A.fr o (Ya 1) e d λm2=>A.fa o m2 d λm3=>A.fb o .eql m3 (.int .i8 2) d λm4=>
 A.fr o Qh m4 d λv=>A.tr v Qh x0 d λm5=>A.tr v Qa m5 d λm6=>A.tr v (Ya 1) m6 d λm7=>A.ta v m7 d λm8=>A.fc o v m8 (.bool false) d λm9=>
 A.c o (.bool true) m9 d λn0=>a3 [n0] d) (a3 [l3] d)) (λn1 d=>A.r (Ya 0) e d λn2=>A.a n2 d λn3=>A.b .eql n3 (.int .i8 2) d λa1=>A.fr a1 (Ya 0) e d λn4=>
 A.fa a1 n4 d λn5=>A.fb a1 .eql n5 (.int .i8 4) d λn6=>A.c a1 (.bool true) n6 d λa2=>A.fr a2 (Ya 0) e d λn7=>A.fa a2 n7 d λn8=>A.fb a2 .eql n8 (.int .i8 6) d λn9=>
 A.c a2 (.bool true) n9 d λo0=>joinK (λa4=>A.test o0 (A.r (Ya 1) e d λo1=>A.a o1 d λo2=>A.k 121 [o2] d λo3 d=>a4 [o3] d) (a4 [(h0 n1)] d)) (λo4 d=>
 A.r (Qo .not) (h0 o4) d λo5=>A.test o5 (f (.bool false) d) (k9 [] d))))))))) (λo7 d=>A.b .add (h0 v6) (jv 1) d λo6=>a5 [o6] d)) (f (.bool true) d)) [jv 0] d)
 |_=>A.stop
theorem g188_ok:GQ 188 3 g188:=gq3 [none,none,some [7],none,some [],none,none,none,none,none,none,some [9],some [9],none] λ_ _ _ _ _ _ _=>by kernel_rfl
def g189:GFun:=λA xs a c=>match xs with
 |[x0,x1]=>
 A.k 190 [x0,x1] a λd a=>A.k 190 [x1,x1] a λe a=>A.b .eql d e a λf=>c f a
 |_=>A.stop
theorem g189_ok:GQ 189 2 g189:=gq2 [] λ_ _ _ _ _ _=>by kernel_rfl
def g190:GFun:=λA xs a d=>match xs with
 |[x0,x1]=>
 A.b .lss x0 (.int .i8 0) a λe=>A.fr e Qh x0 a λm=>A.fb e .gtr m (.int .i8 3) a λn=>A.c e (.bool true) n a λo=>joinK (λj=>A.test o (j [.int .i8 3] a) (
 j [x0] a)) (λf a=>A.b .lss x1 (.int .i8 0) a λg=>A.fr g Qh x1 a λp=>A.fb g .gtr p (.int .i8 3) a λq=>A.c g (.bool true) q a λr=>joinK (λl=>
 A.test r (l [.int .i8 3] a) (l [x1] a)) (λh a=>A.b .eql (h0 f) (h0 h) a λi=>A.fr i Qh (h0 h) a λs=>A.fb i .eql s (.int .i8 0) a λt=>A.c i (.bool true) t a λu=>
 A.test u (d (h0 f) a) (A.b .eql (h0 f) (.int .i8 0) a λv=>A.test v (d (h0 h) a) (d (.int .i8 3) a))))
 |_=>A.stop
theorem g190_ok:GQ 190 2 g190:=gq2 [some [0],some [1],none,none,none] λ_ _ _ _ _ _=>by kernel_rfl
def g191:GFun:=λA xs d h=>match xs with
 |[x0]=>
 A.w1 Xk x0 d λe d=>A.r (Ya 0) e d λl=>A.a l d λm=>A.b .eql m (.int .i8 6) d λn=>joinK (λi=>A.test n (i [.int .i8 3] d) (i [.int .i8 0] d)) (λj d=>
 A.r (Ya 0) e d λo=>A.a o d λp=>A.b .geq p (.int .i8 8) d λg=>A.tr g (Ya 0) e d λq=>A.ta g q d λt=>A.tb g .leq t (.int .i8 12) d λu=>
 A.c g u (.bool false) d λv=>A.test v (A.loop (λw f d=>A.r (Ya 3) e d λy=>A.a y d λz=>A.r Qe z d λa0=>A.b .lss (h0 f) a0 d λa1=>
 A.test a1 (A.r (Ya 3) e d λa2=>A.a a2 d λa3=>A.s (Yc 4) a3 (h0 f) d λa4=>A.r (Xc true 4) a4 d λa5=>A.k 191 [a5] d λa6 d=>
 A.k 190 [(h1 f),a6] d λa7 d=>A.b .add (h0 f) (jv 1) d λa8=>w [a8,a7] d) (h (h1 f) d)) [jv 0,(h0 j)] d) (h (h0 j) d))
 |_=>A.stop
theorem g191_ok:GQ 191 1 g191:=gq1 [some [3],none,none,some [4,3],none,none] λ_ _ _ _ _=>by kernel_rfl
def g192:GFun:=λA xs c g=>match xs with
 |[x0]=>
 A.w1 Xk x0 c λd c=>A.r (Ya 0) d c λi=>A.a i c λj=>A.b .eql j (.int .i8 6) c λl=>A.test l (A.r (Ya 1) d c λm=>A.a m c λh=>
 A.b .eql h (.int .i8 0) c λn=>A.test n (g (.int .i8 1) c) (A.b .eql h (.int .i8 1) c λo=>A.test o (g (.int .i8 2) c) (g (.int .i8 3) c))) (A.loop (λp e c=>
 A.r (Ya 3) d c λq=>A.a q c λt=>A.r Qe t c λu=>A.b .lss (h0 e) u c λv=>A.test v (A.r (Ya 3) d c λw=>A.a w c λy=>A.s (Yc 4) y (h0 e) c λz=>
 A.r (Xc true 4) z c λa0=>A.k 191 [a0] c λa1 c=>A.k 190 [(h1 e),a1] c λa2 c=>A.b .add (h0 e) (jv 1) c λa3=>p [a3,a2] c) (A.loop (λa4 f c=>
 A.r (Ya 4) d c λa5=>A.a a5 c λa6=>A.r Qe a6 c λa7=>A.b .lss (h0 f) a7 c λa8=>A.test a8 (A.r (Ya 4) d c λa9=>A.a a9 c λb0=>
 A.s (Yc 5) b0 (h0 f) c λb1=>A.r (Xc true 5) b1 c λb2=>A.k 192 [b2] c λb3 c=>A.k 190 [(h1 f),b3] c λb4 c=>A.b .add (h0 f) (jv 1) c λb5=>
 a4 [b5,b4] c) (g (h1 f) c)) [jv 0,(h1 e)] c)) [jv 0,.int .i8 0] c)
 |_=>A.stop
theorem g192_ok:GQ 192 1 g192:=gq1 [none,none,none,none,none,some [4,3],none,none,none,some [5,3],none,none] λ_ _ _ _ _=>by kernel_rfl
def g193:GFun:=λA xs a o=>match xs with
 |[x0,x1]=>
 joinK (λj=>A.loop (λp d a=>A.r Zq x0 a λq=>A.b .lss (h0 d) q a λs=>A.test s (A.k 196 [x0,(h0 d)] a λl a=>A.r (Qd 0) l a λh=>
 A.r (Qd 1) l a λm=>A.b .eql m (jv 0) a λe=>A.fr e Qh h a λt=>A.gw e false (λk=>A.k 197 [t] a k) a λu a=>A.fr e (Qo .not) u a λv=>
 A.fr e Qh v a λg=>A.tr g Qh (h1 d) a λw=>A.tb g .eql w (jv 0) a λy=>A.tr g Qh y a λf=>A.fr f Qh h a λz=>A.gw f false (λk=>A.k 198 [z] a k) a λa0 a=>
 A.fr f (Qo .not) a0 a λa1=>A.fr f Qh a1 a λi=>A.tr i Qh h a λa2=>A.tb i .neq a2 (jv 39) a λa3=>A.fc f i a3 (.bool false) a λa4=>A.tc g f (.bool true) a4 a λa5=>
 A.fc e g a5 (.bool false) a λa6=>A.c e (.bool true) a6 a λa7=>A.test a7 (j [(h0 d),(h1 d)] a) (A.b .add (h0 d) m a λa8=>A.b .add (h1 d) (jv 1) a λa9=>
 p [a8,a9] a)) (j [(h0 d),(h1 d)] a)) [x1,jv 0] a) (λn a=>o (.tup [(h0 n),(h1 n)]) a)
 |_=>A.stop
theorem g193_ok:GQ 193 2 g193:=gq2 [some [1,6],some [1,6],none,none,none] λ_ _ _ _ _ _=>by kernel_rfl
def g194:GFun:=λA xs c e=>match xs with
 |[x0]=>
 A.k 229 [] c λf c=>A.loop (λg d c=>A.r Qe f c λh=>A.b .lss (h0 d) h c λi=>A.test i (A.s (Yc 1) f (h0 d) c λj=>A.a j c λl=>A.b .eql l x0 c λm=>
 A.test m (e (.bool true) c) (A.b .add (h0 d) (jv 1) c λn=>g [n] c)) (e (.bool false) c)) [jv 0] c
 |_=>A.stop
theorem g194_ok:GQ 194 1 g194:=gq1 [none,some [4],none,none,none] λ_ _ _ _ _=>by kernel_rfl
def g195:GFun:=λA xs c e=>match xs with
 |[x0,x1]=>
 A.w1 Xk x0 c λf c=>A.loop (λg d c=>A.r (Ya 0) f c λh=>A.a h c λi=>A.r Qe i c λj=>A.b .lss (h0 d) j c λl=>A.test l (A.r (Ya 0) f c λm=>
 A.a m c λn=>A.s (Yc 12) n (h0 d) c λo=>A.r (Ya 0) o c λp=>A.a p c λq=>A.b .eql q x1 c λt=>A.test t (e (.tup [(h0 d),.bool true]) c) (
 A.b .add (h0 d) (jv 1) c λu=>g [u] c)) (e (.tup [jv 0,.bool false]) c)) [jv 0] c
 |_=>A.stop
theorem g195_ok:GQ 195 2 g195:=gq2 [none,some [6],none,none,none] λ_ _ _ _ _ _=>by kernel_rfl
def g196:GFun:=λA xs a h=>match xs with
 |[x0,x1]=>
 A.s Zy x0 x1 a λq=>A.r (Qaa .i64) q a λd=>A.b .geq d (jv 192) a λl=>A.tr l Qh d a λt=>A.tb l .lss t (jv 224) a λu=>A.c l u (.bool false) a λv=>
 joinK (λi=>A.test v (A.b .and d (jv 31) a λw=>i [jv 2,w,jv 128] a) (A.b .geq d (jv 224) a λm=>A.tr m Qh d a λy=>A.tb m .lss y (jv 240) a λz=>
 A.c m z (.bool false) a λa0=>A.test a0 (A.b .and d (jv 15) a λa1=>i [jv 3,a1,jv 2048] a) (A.b .geq d (jv 240) a λn=>A.tr n Qh d a λa2=>A.tb n .lss a2 (jv 248) a λa3=>
 A.c n a3 (.bool false) a λa4=>A.test a4 (A.b .and d (jv 7) a λa5=>i [jv 4,a5,jv 65536] a) (A.b .geq d (jv 128) a λa6=>A.test a6 (h (.tup [jv 0,jv 0]) a) (
 i [jv 1,d,jv 0] a))))) (λj a=>A.loop (λa7 e a=>A.b .lss (h0 e) (h0 j) a λa8=>A.test a8 (A.b .add x1 (h0 e) a λa9=>A.r Zq x0 a λb0=>
 A.b .geq a9 b0 a λf=>A.fr f Qh x0 a λb1=>A.fr f Qh x1 a λb2=>A.fr f Qh (h0 e) a λb3=>A.fb f .add b2 b3 a λb4=>A.fs f Zy b1 b4 a λb5=>
 A.fb f .and b5 (.int .u8 192) a λb6=>A.fb f .neq b6 (.int .u8 128) a λb7=>A.c f (.bool true) b7 a λb8=>A.test b8 (h (.tup [jv 0,jv 0]) a) (A.b .shl (h1 e) (.int .u64 6) a λb9=>
 A.b .add x1 (h0 e) a λc0=>A.s Zy x0 c0 a λc1=>A.b .and c1 (.int .u8 63) a λc2=>A.r (Qaa .i64) c2 a λc3=>A.b .or b9 c3 a λc4=>A.b .add (h0 e) (jv 1) a λc5=>
 a7 [c5,c4] a)) (A.b .lss (h1 e) (h2 j) a λo=>A.fr o Qh (h1 e) a λc6=>A.fb o .gtr c6 (jv 1114111) a λc7=>A.c o (.bool true) c7 a λg=>A.fr g Qh (h1 e) a λc8=>
 A.fb g .geq c8 (jv 55296) a λc9=>A.fr g Qh c9 a λp=>A.tr p Qh (h1 e) a λd0=>A.tb p .leq d0 (jv 57343) a λd1=>A.fc g p d1 (.bool false) a λd2=>
 A.c g (.bool true) d2 a λd3=>A.test d3 (h (.tup [jv 0,jv 0]) a) (h (.tup [(h1 e),(h0 j)]) a))) [jv 1,(h1 j)] a)
 |_=>A.stop
theorem g196_ok:GQ 196 2 g196:=gq2 [some [7,8,9],none,none,none,none,some [10,8],none,none,none,none] λ_ _ _ _ _ _=>by kernel_rfl
def g197:GFun:=λA xs a l=>match xs with
 |[x0]=>
 A.b .geq x0 (jv 97) a λf=>A.tr f Qh x0 a λm=>A.tb f .leq m (jv 122) a λn=>A.c f n (.bool false) a λe=>A.fr e Qh x0 a λo=>A.fb e .geq o (jv 65) a λp=>
 A.fr e Qh p a λg=>A.tr g Qh x0 a λq=>A.tb g .leq q (jv 90) a λr=>A.fc e g r (.bool false) a λs=>A.c e (.bool true) s a λd=>A.fr d Qh x0 a λt=>
 A.fb d .geq t (jv 192) a λu=>A.fr d Qh u a λh=>A.tr h Qh x0 a λv=>A.tb h .leq v (jv 591) a λw=>A.fc d h w (.bool false) a λy=>A.fr d Qh y a λi=>
 A.tr i Qh x0 a λz=>A.tb i .neq z (jv 215) a λa0=>A.fc d i a0 (.bool false) a λa1=>A.fr d Qh a1 a λj=>A.tr j Qh x0 a λa2=>A.tb j .neq a2 (jv 247) a λa3=>
 A.fc d j a3 (.bool false) a λa4=>A.c d (.bool true) a4 a λa5=>l a5 a
 |_=>A.stop
theorem g197_ok:GQ 197 1 g197:=gq1 [] λ_ _ _ _ _=>by kernel_rfl
def g198:GFun:=λA xs a e=>match xs with
 |[x0]=>
 A.b .geq x0 (jv 48) a λd=>A.tr d Qh x0 a λf=>A.tb d .leq f (jv 57) a λg=>A.c d g (.bool false) a λh=>e h a
 |_=>A.stop
theorem g198_ok:GQ 198 1 g198:=gq1 [] λ_ _ _ _ _=>by kernel_rfl
def g199:GFun:=λA xs a b=>match xs with
 |[]=>
 A.wr (Xi 1 13 [.str [],.str [],.str [],.str [],.str [],.str [],.str [],.str [],.str [],.str [],.str [],.str [],.str []] [(0,1),(1,1),(2,1),(3,1),(4,1),(5,1),(6,1),(7,1),(8,1),(9,1),(10,1),(11,1),(12,1)] [(.str [60,61]),(.str [61,61]),(.str [123]),(.str [125]),(.str [40]),(.str [41]),(.str [47]),(.str [44]),(.str [59]),(.str [43]),(.str [45]),(.str [42]),(.str [60])] a) a λc a=>
 b c a
 |_=>A.stop
theorem g199_ok:GQ 199 0 g199:=gq0 [] λ_ _ _ _=>by kernel_rfl
def g200:GFun:=λA xs d h=>match xs with
 |[x0]=>
 A.pu (Qa [x0] d) λi=>A.pu (Ya 0 [i] d) λj=>A.dr (Qg [j] d) d λl m d=>A.pu (Qa [x0] d) λn=>A.pu (Ya 1 [n] d) λo=>
 A.dr (Qg [o] d) d λp q d=>A.dr (Yc 4 [l,p] d) d λs t d=>A.dr (Xc true 4 [s] d) d λu v d=>A.dr (Xe [.int .i8 0,.str [],jv 0,jv 0] [] d) d λe w d=>
 A.dr (Xb 4 [e,u] d) d λ_ y d=>A.gd (Zi [[],[0],[0,1],[0,1,2],[],[4],[4,5],[4,5,6],[0,1,2,3,4,5,6,7],[0,1,2,3,4,5,6,7,8],[],[0,1,2,3,4,5,6,7,8,9,10]] [([],[]),([],[]),([],[]),m,([],[]),([],[]),([],[]),q,t,v,w,y]) <|
 A.k 150 [x0] d λz d=>A.r (Qo .not) z d λf=>A.fr f (Ya 0) e d λa0=>A.fa f a0 d λa1=>A.fb f .neq a1 (.int .i8 1) d λa2=>A.c f (.bool true) a2 d λg=>
 A.fr g (Ya 1) e d λa3=>A.fa g a3 d λa4=>A.gw g false (λk=>A.k 194 [a4] d k) d λa5 d=>A.c g (.bool true) a5 d λa6=>A.test a6 (A.k 152 [x0,jv 120] d λb5 d=>
 h (.str []) d) (A.r Qa x0 d λa7=>A.r (Ya 1) a7 d λa8=>A.a a8 d λa9=>A.b .add a9 (jv 1) d λb0=>A.r Qa x0 d λb1=>A.r (Ya 1) b1 d λb2=>
 A.ws (Xb 1) b2 b0 d λ_ d=>A.r (Ya 1) e d λb3=>A.a b3 d λb4=>h b4 d)
 |_=>A.stop
theorem g200_ok:GQ 200 1 g200:=gq1 [none] λ_ _ _ _ _=>by kernel_rfl
def g201:GFun:=λA xs c d=>match xs with
 |[x0,x1]=>
 A.k 151 [x0,x1] c λe c=>A.r (Qo .not) e c λf=>A.test f (d (.bool false) c) (A.r Qa x0 c λg=>A.r (Ya 1) g c λh=>A.a h c λi=>
 A.b .add i (jv 1) c λj=>A.r Qa x0 c λl=>A.r (Ya 1) l c λm=>A.ws (Xb 1) m j c λ_ c=>d (.bool true) c)
 |_=>A.stop
theorem g201_ok:GQ 201 2 g201:=gq2 [none] λ_ _ _ _ _ _=>by kernel_rfl
def g202:GFun:=λA xs d g=>match xs with
 |[x0]=>
 A.pu (Qa [x0] d) λh=>A.pu (Ya 0 [h] d) λi=>A.dr (Qg [i] d) d λj l d=>A.pu (Qa [x0] d) λm=>A.pu (Ya 1 [m] d) λn=>
 A.dr (Qg [n] d) d λo p d=>A.dr (Yc 4 [j,o] d) d λq s d=>A.dr (Xc true 4 [q] d) d λt u d=>A.dr (Xe [.int .i8 0,.str [],jv 0,jv 0] [] d) d λf v d=>
 A.dr (Xb 4 [f,t] d) d λ_ w d=>A.gd (Zi [[],[0],[0,1],[0,1,2],[],[4],[4,5],[4,5,6],[0,1,2,3,4,5,6,7],[0,1,2,3,4,5,6,7,8],[],[0,1,2,3,4,5,6,7,8,9,10]] [([],[]),([],[]),([],[]),l,([],[]),([],[]),([],[]),p,s,u,v,w]) <|
 A.k 150 [x0] d λy d=>A.r (Qo .not) y d λe=>A.fr e (Ya 0) f d λz=>A.fa e z d λa0=>A.fb e .neq a0 (.int .i8 2) d λa1=>A.c e (.bool true) a1 d λa2=>
 A.test a2 (A.k 152 [x0,jv 120] d λb1 d=>g (jv 0) d) (A.r Qa x0 d λa3=>A.r (Ya 1) a3 d λa4=>A.a a4 d λa5=>A.b .add a5 (jv 1) d λa6=>
 A.r Qa x0 d λa7=>A.r (Ya 1) a7 d λa8=>A.ws (Xb 1) a8 a6 d λ_ d=>A.r (Ya 2) f d λa9=>A.a a9 d λb0=>g b0 d)
 |_=>A.stop
theorem g202_ok:GQ 202 1 g202:=gq1 [none] λ_ _ _ _ _=>by kernel_rfl
def g203:GFun:=λA xs a b=>match xs with
 |[x0,x1]=>
 A.k 201 [x0,x1] a λc a=>A.r (Qo .not) c a λd=>A.test d (A.k 152 [x0,jv 120] a λe a=>b (.tup []) a) (b (.tup []) a)
 |_=>A.stop
theorem g203_ok:GQ 203 2 g203:=gq2 [none] λ_ _ _ _ _ _=>by kernel_rfl
def g204:GFun:=λA xs c f=>match xs with
 |[x0,x1,x2]=>
 A.loop (λg d c=>A.r Qe x1 c λh=>A.b .lss (h0 d) h c λi=>A.test i (joinK (λe=>A.s (Yc 1) x1 (h0 d) c λj=>A.a j c λl=>A.b .eql l x2 c λm=>
 A.test m (A.k 152 [x0,jv 101] c λq c=>e [] c) (e [] c)) (λt c=>A.b .add (h0 d) (jv 1) c λn=>g [n] c)) (A.wr (Xi 1 1 [.str []] [(0,1)] [x2] c) c λo c=>
 A.wr (Qi 1 16 [x1,o] c) c λp c=>f p c)) [jv 0] c
 |_=>A.stop
theorem g204_ok:GQ 204 3 g204:=gq3 [none,some [7],none,some [],none] λ_ _ _ _ _ _ _=>by kernel_rfl
def g205:GFun:=λA xs a f=>match xs with
 |[x0]=>
 A.k 203 [x0,(.str [123])] a λq a=>A.loop (λg d a=>A.k 150 [x0] a λb a=>A.tr b Qh x0 a λh=>A.gw b true (λk=>A.k 151 [h,(.str [125])] a k) a λi a=>
 A.tr b (Qo .not) i a λj=>A.c b j (.bool false) a λl=>A.test l (A.k 230 [x0] a λm a=>A.wr (Xe [.int .i8 0,.int .i8 0,.int .i8 0,jv 0,.int .i8 0,.nils,.str [],.int .i8 0,.int .i8 0,.str [],.nils,.nils,.nils,.nils] [] a) a λe a=>
 A.ws (Xb 14) e m a λ_ a=>A.r (Xc true 14) e a λn=>A.wr (Xi 14 1 [.int .i8 0,.int .i8 0,.int .i8 0,jv 0,.int .i8 0,.nils,.str [],.int .i8 0,.int .i8 0,.str [],.nils,.nils,.nils,.nils] [(0,14)] [n] a) a λo a=>
 A.wr (Qi 14 192 [(h0 d),o] a) a λp a=>g [p] a) (A.k 203 [x0,(.str [125])] a λs a=>f (h0 d) a)) [.nils] a
 |_=>A.stop
theorem g205_ok:GQ 205 1 g205:=gq1 [none,some [3],none,none] λ_ _ _ _ _=>by kernel_rfl
def g206:GFun:=λA xs c o=>match xs with
 |[x0]=>
 A.loop (λp f c=>A.r Qe x0 c λq=>A.b .lss (h0 f) q c λt=>A.test t (joinK (λh=>A.s (Yc 14) x0 (h0 f) c λu=>A.r (Xc true 14) u c λv=>
 A.wr (Xe [.int .i8 0,.int .i8 0,.int .i8 0,jv 0,.int .i8 0,.nils,.str [],.int .i8 0,.int .i8 0,.str [],.nils,.nils,.nils,.nils] [] c) c λd c=>
 A.ws (Xb 14) d v c λ_ c=>A.b .add (h1 f) (jv 1) c λi=>A.r (Ya 0) d c λw=>A.a w c λe=>A.b .eql e (.int .i8 0) c λj=>joinK (λg=>
 A.test j (g [j] c) (A.b .eql e (.int .i8 1) c λl=>A.test l (g [l] c) (A.b .eql e (.int .i8 2) c λm=>A.test m (g [m] c) (A.b .eql e (.int .i8 3) c λn=>
 A.test n (g [n] c) (A.b .eql e (.int .i8 5) c λy=>g [y] c))))) (λz c=>A.test (h0 z) (A.r (Ya 2) d c λa0=>A.r (Xc true 4) a0 c λa1=>
 A.k 231 [a1] c λa2 c=>A.b .add i a2 c λa3=>h [a3] c) (A.b .eql e (.int .i8 8) c λa4=>A.test a4 (A.pu (Ya 7 [d] c) λa5=>A.dr (Xc true 5 [a5] c) c λa6 a7 c=>
 A.dcall (.call 232) [a6] c λa8 a9 c=>A.pu (Yi .add false [i,a8] c) λb0=>A.pu (Ya 12 [d] c) λb1=>A.dr (Qg [b1] c) c λb2 b3 c=>A.dcall (.call 206) [b2] c λb4 b5 c=>
 A.pu (Yi .add false [b0,b4] c) λb6=>A.pu (Ya 13 [d] c) λb7=>A.dr (Qg [b7] c) c λb8 b9 c=>A.dcall (.call 206) [b8] c λc0 c1 c=>
 A.pu (Yi .add false [b6,c0] c) λc2=>A.gd (Zi [[],[],[1],[1,2],[0,1,2,3],[],[5],[1,2,3,5,6],[0,1,2,3,4,5,6,7],[],[9],[1,2,3,5,6,7,9,10],[0,1,2,3,4,5,6,7,8,9,10,11],[0,1,2,3,4,5,6,7,8,9,10,11,12]] [([],[]),([],[]),a7,a9,([],[]),([],[]),b3,b5,([],[]),([],[]),b9,c1,([],[]),([],[])]) <|
 h [c2] c) (h [i] c)))) (λv5 c=>A.b .add (h0 f) (jv 1) c λc3=>p [c3,(h0 v5)] c)) (o (h1 f) c)) [jv 0,jv 0] c
 |_=>A.stop
theorem g206_ok:GQ 206 1 g206:=gq1 [none,some [4,3],none,some [3],none,some [20],none,none,none,none,none] λ_ _ _ _ _=>by kernel_rfl
def g207:GFun:=λA xs a c=>match xs with
 |[x0]=>
 A.k 200 [x0] a λd a=>A.wr (Xi 1 1 [.str []] [(0,1)] [d] a) a λe a=>A.loop (λf b a=>A.k 201 [x0,(.str [44])] a λg a=>A.test g (A.k 200 [x0] a λh a=>
 A.wr (Xi 1 1 [.str []] [(0,1)] [h] a) a λi a=>A.wr (Qi 1 16 [(h0 b),i] a) a λj a=>f [j] a) (c (h0 b) a)) [e] a
 |_=>A.stop
theorem g207_ok:GQ 207 1 g207:=gq1 [none,some [4],none,none] λ_ _ _ _ _=>by kernel_rfl
def g208:GFun:=λA xs c m=>match xs with
 |[x0,x1]=>
 A.call .callv [x1,x0] c λz c=>A.r (Qo .not) z c λt1=>A.test t1 (m (.bool false) c) (joinK (λe=>A.r (ZB 272 true (.agg [.nilp])) x0 c λp=>
 A.r (Qd 1) p c λt5=>A.r (Qd 0) p c λt6=>A.test t5 (A.wr (Xe [.nilp] [] c) c λd c=>A.ws (Xb 1) d t6 c λ_ c=>A.r (Ya 0) d c λt8=>
 A.a t8 c λt9=>A.r Qa t9 c λa0=>A.r (Ya 0) a0 c λa1=>A.a a1 c λa2=>A.k 210 [a2] c λa3 c=>joinK (λq=>A.test a3 (A.r (Ya 0) d c λa4=>
 A.a a4 c λa5=>A.r Qa a5 c λa6=>A.r (Ya 2) a6 c λa7=>A.rd (Ye [.nilp] [(0,1)] [a7] c) λa8=>A.r (Yn 290) a8 c λa9=>
 A.wr (Xi 1 1 [.nili] [(0,1)] [a9] c) c λb0 c=>A.wr (Qi 1 16 [.nils,b0] c) c λb1 c=>q [b1] c) (q [.nils] c)) (λt c=>A.r (Ya 0) d c λb2=>
 A.a b2 c λb3=>A.r Qa b3 c λb4=>A.r (Ya 0) b4 c λb5=>A.a b5 c λb6=>A.b .eql b6 (.int .i8 8) c λb7=>A.test b7 (A.r (Ya 0) d c λb8=>
 A.a b8 c λb9=>A.r Qa b9 c λc0=>A.r (Ya 7) c0 c λc1=>A.rd (Ye [.nilp] [(0,1)] [c1] c) λc2=>A.r (Yn 292) c2 c λc3=>
 A.wr (Xi 1 1 [.nili] [(0,1)] [c3] c) c λc4 c=>A.wr (Qi 1 16 [(h0 t),c4] c) c λc5 c=>A.r (Ya 0) d c λc6=>A.a c6 c λc7=>A.r Qa c7 c λc8=>
 A.r (Ya 12) c8 c λc9=>A.a c9 c λd0=>A.r (Ya 0) d c λd1=>A.a d1 c λd2=>A.r Qa d2 c λd3=>A.r (Ya 13) d3 c λd4=>
 A.a d4 c λd5=>A.rd (Ye [.nils,.nils] [(0,1),(1,1)] [d0,d5] c) λd6=>A.loop (λd7 f c=>A.b .lss (h0 f) (jv 2) c λd8=>A.test d8 (A.s (YX false 2 1) d6 (h0 f) c λu=>
 A.r Qe u c λd9=>A.loop (λe0 g c=>A.b .lss (h0 g) d9 c λe1=>A.test e1 (A.s (Yc 14) u (h0 g) c λe2=>A.rd (Ye [.nilp] [(0,1)] [e2] c) λe3=>
 A.r (Yn 272) e3 c λe4=>A.wr (Xi 1 1 [.nili] [(0,1)] [e4] c) c λe5 c=>A.wr (Qi 1 16 [(h1 g),e5] c) c λe6 c=>A.b .add (h0 g) (jv 1) c λe7=>
 e0 [e7,e6] c) (A.b .add (h0 f) (jv 1) c λe8=>d7 [e8,(h1 g)] c)) [jv 0,(h1 f)] c) (e [(h1 f)] c)) [jv 0,c5] c) (e [(h0 t)] c))) (A.r (ZB 290 true (.agg [.nilp])) x0 c λv=>
 A.r (Qd 1) v c λe9=>A.r (Qd 0) v c λf0=>A.test e9 (A.wr (Xe [.nilp] [] c) c λn c=>A.ws (Xb 1) n f0 c λ_ c=>A.r (Ya 0) n c λf1=>
 A.a f1 c λf2=>A.r Qa f2 c λf3=>A.r (Ya 3) f3 c λf4=>A.a f4 c λf5=>A.r Qe f5 c λf6=>A.loop (λf7 h c=>A.b .lss (h0 h) f6 c λf8=>
 A.test f8 (A.r (Ya 0) n c λf9=>A.a f9 c λg0=>A.r Qa g0 c λg1=>A.r (Ya 3) g1 c λg2=>A.a g2 c λg3=>A.s (Yc 4) g3 (h0 h) c λg4=>
 A.rd (Ye [.nilp] [(0,1)] [g4] c) λg5=>A.r (Yn 290) g5 c λg6=>A.wr (Xi 1 1 [.nili] [(0,1)] [g6] c) c λg7 c=>A.wr (Qi 1 16 [(h1 h),g7] c) c λg8 c=>
 A.b .add (h0 h) (jv 1) c λg9=>f7 [g9,g8] c) (e [(h1 h)] c)) [jv 0,.nils] c) (A.r (ZB 292 true (.agg [.nilp])) x0 c λw=>A.r (Qd 1) w c λi0=>
 A.r (Qd 0) w c λi1=>A.test i0 (A.wr (Xe [.nilp] [] c) c λi c=>A.ws (Xb 1) i i1 c λ_ c=>A.r (Ya 0) i c λi2=>A.a i2 c λi3=>
 A.r Qa i3 c λi4=>A.r (Ya 3) i4 c λi5=>A.a i5 c λi6=>A.r Qe i6 c λi7=>A.loop (λi9 j c=>A.b .lss (h0 j) i7 c λj0=>A.test j0 (
 A.r (Ya 0) i c λj1=>A.a j1 c λj2=>A.r Qa j2 c λj3=>A.r (Ya 3) j3 c λj4=>A.a j4 c λj5=>A.s (Yc 4) j5 (h0 j) c λj6=>
 A.rd (Ye [.nilp] [(0,1)] [j6] c) λj7=>A.r (Yn 290) j7 c λj8=>A.wr (Xi 1 1 [.nili] [(0,1)] [j8] c) c λj9 c=>A.wr (Qi 1 16 [(h1 j),j9] c) c λl0 c=>
 A.b .add (h0 j) (jv 1) c λl1=>i9 [l1,l0] c) (A.r (Ya 0) i c λl2=>A.a l2 c λl3=>A.r Qa l3 c λl4=>A.r (Ya 4) l4 c λl5=>
 A.a l5 c λl6=>A.r Qe l6 c λl7=>A.loop (λl8 l c=>A.b .lss (h0 l) l7 c λl9=>A.test l9 (A.r (Ya 0) i c λm0=>A.a m0 c λm1=>A.r Qa m1 c λm2=>
 A.r (Ya 4) m2 c λm3=>A.a m3 c λm4=>A.s (Yc 5) m4 (h0 l) c λm5=>A.rd (Ye [.nilp] [(0,1)] [m5] c) λm6=>A.r (Yn 292) m6 c λm7=>
 A.wr (Xi 1 1 [.nili] [(0,1)] [m7] c) c λm8 c=>A.wr (Qi 1 16 [(h1 l),m8] c) c λm9 c=>A.b .add (h0 l) (jv 1) c λn0=>l8 [n0,m9] c) (e [(h1 l)] c)) [jv 0,(h1 j)] c)) [jv 0,.nils] c) (
 e [.nils] c)))) (λy c=>A.r Qe (h0 y) c λn1=>A.loop (λn2 o c=>A.b .lss (h0 o) n1 c λn3=>A.test n3 (A.s (Yc 1) (h0 y) (h0 o) c λn4=>
 A.a n4 c λn5=>A.k 208 [n5,x1] c λn6 c=>A.r (Qo .not) n6 c λn7=>A.test n7 (m (.bool false) c) (A.b .add (h0 o) (jv 1) c λn8=>n2 [n8] c)) (m (.bool true) c)) [jv 0] c))
 |_=>A.stop
theorem g208_ok:GQ 208 2 g208:=gq2 [none,some [5],none,some [5],none,none,some [66,5],none,none,none,some [71,5],none,none,none,none,some [93,5],none,none,none,none,some [118,5],none,none,none,some [140,5],none,none,none,some [158],none,none,none] λ_ _ _ _ _ _=>by kernel_rfl
def g209:GFun:=λA xs d s=>match xs with
 |[x0]=>
 A.r Qa x0 d λt=>A.r (Ya 0) t d λu=>A.a u d λv=>A.k 210 [v] d λf d=>A.fr f Qh x0 d λw=>A.fr f Qa w d λy=>A.fr f (Ya 2) y d λz=>
 A.fr f (Ya 0) z d λt7=>A.fa f t7 d λt8=>A.fb f .eql t8 (.int .i8 0) d λt9=>A.fr f Qh t9 d λi=>A.tr i Qh x0 d λa0=>A.tr i Qa a0 d λa1=>
 A.tr i (Ya 2) a1 d λa2=>A.tr i (Ya 1) a2 d λa3=>A.ta i a3 d λa4=>A.tb i .eql a4 (jv 0) d λa5=>A.fc f i a5 (.bool false) d λa6=>
 A.fr f Qh a6 d λj=>A.tr j Qh x0 d λa7=>A.tr j Qa a7 d λa8=>A.tr j (Ya 2) a8 d λa9=>A.tr j (Ya 2) a9 d λb0=>A.ta j b0 d λb1=>
 A.tb j .eql b1 (.int .i8 0) d λb2=>A.fc f j b2 (.bool false) d λb3=>A.fr f Qh b3 d λh=>A.tr h Qh x0 d λb4=>A.tr h Qa b4 d λb5=>A.tr h (Ya 2) b5 d λb6=>
 A.tr h (Ya 3) b6 d λb7=>A.ta h b7 d λb8=>A.tr h Qe b8 d λb9=>A.tb h .eql b9 (jv 0) d λc0=>A.fc f h c0 (.bool false) d λc1=>A.c f (.bool true) c1 d λp=>
 A.r Qa x0 d λc2=>A.r (Ya 0) c2 d λc3=>A.a c3 d λc4=>A.b .eql c4 (.int .i8 7) d λl=>A.fr l Qh x0 d λc5=>A.fr l Qa c5 d λc6=>
 A.fr l (Ya 6) c6 d λc7=>A.fa l c7 d λc8=>A.gof l (Yi .eql false [c8,.str []] d) λc9=>A.c l (.bool true) c9 d λd0=>A.r Qa x0 d λd1=>
 A.r (Ya 7) d1 d λo=>A.r Qa x0 d λd2=>A.r (Ya 0) d2 d λd3=>A.a d3 d λd4=>A.b .eql d4 (.int .i8 8) d λg=>A.fr g Qh o d λd5=>
 A.fr g Qa d5 d λd6=>A.fr g (Ya 0) d6 d λd7=>A.fa g d7 d λd8=>A.fb g .eql d8 (.int .i8 0) d λd9=>A.fr g Qh d9 d λm=>A.tr m Qh o d λe0=>
 A.tr m Qa e0 d λe1=>A.tr m (Ya 1) e1 d λe2=>A.ta m e2 d λe3=>A.tb m .eql e3 (.int .i8 0) d λe4=>A.fc g m e4 (.bool false) d λe5=>
 A.fr g Qh e5 d λn=>A.tr n Qh o d λe6=>A.tr n Qa e6 d λe7=>A.tr n (Ya 2) e7 d λe8=>A.ta n e8 d λe9=>A.got n (Yi .eql false [e9,.str []] d) λf0=>
 A.fc g n f0 (.bool false) d λf1=>A.fr g Qh f1 d λe=>A.tr e Qh o d λf2=>A.tr e Qa f2 d λf3=>A.tr e (Ya 3) f3 d λf4=>A.ta e f4 d λf5=>
 A.tr e Qe f5 d λf6=>A.tr e Qh o d λf7=>A.tr e Qa f7 d λf8=>A.tr e (Ya 4) f8 d λf9=>A.ta e f9 d λg0=>A.tr e Qe g0 d λg1=>
 A.tb e .add f6 g1 d λg2=>A.tr e Qh x0 d λg3=>A.tr e Qa g3 d λg4=>A.tr e (Ya 12) g4 d λg5=>A.ta e g5 d λg6=>A.tr e Qe g6 d λg7=>
 A.tb e .add g2 g7 d λg8=>A.tr e Qh x0 d λg9=>A.tr e Qa g9 d λi0=>A.tr e (Ya 13) i0 d λi1=>A.ta e i1 d λi2=>A.tr e Qe i2 d λi3=>
 A.tb e .add g8 i3 d λi4=>A.tb e .eql i4 (jv 0) d λi5=>A.fc g e i5 (.bool false) d λi6=>A.c g (.bool true) i6 d λi7=>A.tr p Qh d0 d λi9=>A.c p i9 (.bool false) d λq=>
 A.tr q Qh i7 d λj0=>A.c q j0 (.bool false) d λj1=>s j1 d
 |_=>A.stop
theorem g209_ok:GQ 209 1 g209:=gq1 [] λ_ _ _ _ _=>by kernel_rfl
def g210:GFun:=λA xs a d=>match xs with
 |[x0]=>
 A.b .eql x0 (.int .i8 0) a λe=>joinK (λc=>A.test e (c [e] a) (A.b .eql x0 (.int .i8 1) a λf=>A.test f (c [f] a) (A.b .eql x0 (.int .i8 2) a λg=>
 A.test g (c [g] a) (A.b .eql x0 (.int .i8 3) a λh=>A.test h (c [h] a) (A.b .eql x0 (.int .i8 5) a λi=>c [i] a))))) (λj a=>A.test (h0 j) (d (.bool true) a) (
 d (.bool false) a))
 |_=>A.stop
theorem g210_ok:GQ 210 1 g210:=gq1 [none,some [4],none,none,none,none] λ_ _ _ _ _=>by kernel_rfl
def g211:GFun:=λA xs d l=>match xs with
 |[x0,x1]=>
 A.r Qa x1 d λt0=>A.r (Ya 1) t0 d λt1=>A.a t1 d λt2=>A.b .eql t2 (jv 0) d λm=>A.r Qa x1 d λt4=>A.r (Ya 2) t4 d λt5=>
 A.a t5 d λt6=>A.b .eql t6 (.int .i8 0) d λf=>A.r Qa x1 d λt8=>A.r (Ya 0) t8 d λt9=>A.a t9 d λe=>joinK (λi=>A.b .eql e (.int .i8 0) d λa3=>
 A.test a3 (A.r Qa x1 d λa4=>A.r (Ya 1) a4 d λa5=>A.a a5 d λa6=>A.b .geq a6 (jv 0) d λh=>A.tr h Qh x1 d λa7=>A.tr h Qa a7 d λa8=>
 A.tr h (Ya 1) a8 d λa9=>A.ta h a9 d λb0=>A.tb h .leq b0 (jv 999) d λb1=>A.c h b1 (.bool false) d λb2=>i [b2,f,jv 0] d) (A.b .eql e (.int .i8 1) d λt=>
 joinK (λn=>A.test t (n [t] d) (A.b .eql e (.int .i8 2) d λu=>A.test u (n [u] d) (A.b .eql e (.int .i8 3) d λv=>A.test v (n [v] d) (A.b .eql e (.int .i8 4) d λb3=>
 n [b3] d)))) (λb4 d=>A.test (h0 b4) (A.r Qa x1 d λb5=>A.r (Ya 2) b5 d λb6=>A.a b6 d λb7=>A.k 212 [b7] d λb8 d=>i [m,b8,jv 0] d) (
 A.b .eql e (.int .i8 5) d λw=>joinK (λy=>A.test w (y [w] d) (A.b .eql e (.int .i8 6) d λb9=>y [b9] d)) (λc0 d=>A.test (h0 c0) (i [m,f,jv 0] d) (
 A.b .eql e (.int .i8 7) d λc1=>A.test c1 (A.tr f Qh x0 d λc2=>A.tr f Qa c2 d λc3=>A.tr f (Ya 1) c3 d λc4=>A.ta f c4 d λc5=>
 A.c f c5 (.bool false) d λc6=>i [m,c6,jv 0] d) (A.b .eql e (.int .i8 8) d λz=>joinK (λj=>A.test z (j [z] d) (A.b .eql e (.int .i8 9) d λa0=>
 A.test a0 (j [a0] d) (A.b .eql e (.int .i8 10) d λa1=>A.test a1 (j [a1] d) (A.b .eql e (.int .i8 11) d λa2=>A.test a2 (j [a2] d) (A.b .eql e (.int .i8 12) d λc7=>
 j [c7] d))))) (λc8 d=>A.test (h0 c8) (i [m,f,jv 2] d) (l (.bool false) d))))))))) (λo d=>A.r (Qo .not) (h0 o) d λp=>A.fr p Qh (h1 o) d λc9=>
 A.fr p (Qo .not) c9 d λd0=>A.c p (.bool true) d0 d λg=>A.fr g Qh x1 d λd1=>A.fr g Qa d1 d λd2=>A.fr g (Ya 3) d2 d λd3=>
 A.fa g d3 d λd4=>A.fr g Qe d4 d λd5=>A.fr g Qh (h2 o) d λd6=>A.fb g .neq d5 d6 d λd7=>A.c g (.bool true) d7 d λd8=>A.test d8 (l (.bool false) d) (
 A.r Qa x1 d λd9=>A.r (Ya 3) d9 d λe0=>A.a e0 d λe1=>A.r Qe e1 d λe2=>A.loop (λe3 q d=>A.b .lss (h0 q) e2 d λe4=>A.test e4 (
 A.r Qa x1 d λe5=>A.r (Ya 3) e5 d λe6=>A.a e6 d λe7=>A.s (Yc 4) e7 (h0 q) d λe8=>A.k 211 [x0,e8] d λe9 d=>A.r (Qo .not) e9 d λf0=>
 A.test f0 (l (.bool false) d) (A.b .add (h0 q) (jv 1) d λf1=>e3 [f1] d)) (l (.bool true) d)) [jv 0] d))
 |_=>A.stop
theorem g211_ok:GQ 211 2 g211:=gq2 [some [6,7,5],none,some [37],none,none,none,some [47],none,none,some [59],none,none,none,none,none,none,some [85],none,none,none] λ_ _ _ _ _ _=>by kernel_rfl
def g212:GFun:=λA xs a e=>match xs with
 |[x0]=>
 A.b .eql x0 (.int .i8 0) a λd=>A.fr d Qh x0 a λf=>A.fb d .eql f (.int .i8 1) a λg=>A.c d (.bool true) g a λh=>e h a
 |_=>A.stop
theorem g212_ok:GQ 212 1 g212:=gq1 [] λ_ _ _ _ _=>by kernel_rfl
def g213:GFun:=λA xs d j=>match xs with
 |[x0,x1]=>
 A.r Qa x1 d λz=>A.r (Ya 1) z d λt1=>A.a t1 d λt2=>A.b .eql t2 (.int .i8 0) d λh=>A.tr h Qh x1 d λt4=>A.tr h Qa t4 d λt5=>
 A.tr h (Ya 2) t5 d λt6=>A.ta h t6 d λt7=>A.got h (Yi .eql false [t7,.str []] d) λt8=>A.c h t8 (.bool false) d λm=>A.r Qa x1 d λa0=>
 A.r (Ya 0) a0 d λa1=>A.a a1 d λg=>joinK (λl=>A.b .eql g (.int .i8 0) d λt=>joinK (λn=>A.test t (n [t] d) (A.b .eql g (.int .i8 1) d λu=>
 A.test u (n [u] d) (A.b .eql g (.int .i8 2) d λa2=>n [a2] d))) (λa3 d=>A.test (h0 a3) (l [m,jv 2,jv 0] d) (A.b .eql g (.int .i8 3) d λa4=>A.test a4 (
 l [m,jv 0,jv 1] d) (A.b .eql g (.int .i8 4) d λv=>joinK (λw=>A.test v (w [v] d) (A.b .eql g (.int .i8 5) d λa5=>w [a5] d)) (λa6 d=>A.test (h0 a6) (
 l [m,jv 0,jv 2] d) (A.b .eql g (.int .i8 6) d λa7=>A.test a7 (A.r Qa x0 d λa8=>A.r (Ya 0) a8 d λa9=>A.a a9 d λb0=>A.r Qa x1 d λb1=>
 A.r (Ya 2) b1 d λb2=>A.a b2 d λb3=>A.s (Qq true true (.bool false)) b0 b3 d λy=>A.r (Qd 0) y d λg1=>A.r (Qd 1) y d λi=>
 A.tr i Qh x1 d λb4=>A.tr i Qa b4 d λb5=>A.tr i (Ya 1) b5 d λb6=>A.ta i b6 d λb7=>A.gw i true (λk=>A.k 212 [b7] d k) d λb8 d=>
 A.c i b8 (.bool false) d λb9=>l [b9,jv 0,jv 0] d) (j (.bool false) d))))))) (λo d=>A.r (Qo .not) (h0 o) d λe=>A.fr e Qh x1 d λc0=>A.fr e Qa c0 d λc1=>
 A.fr e (Ya 3) c1 d λc2=>A.fa e c2 d λc3=>A.fr e Qe c3 d λc4=>A.fr e Qh (h1 o) d λc5=>A.fb e .neq c4 c5 d λc6=>A.c e (.bool true) c6 d λf=>
 A.fr f Qh x1 d λc7=>A.fr f Qa c7 d λc8=>A.fr f (Ya 4) c8 d λc9=>A.fa f c9 d λd0=>A.fr f Qe d0 d λd1=>A.fr f Qh (h2 o) d λd2=>
 A.fb f .neq d1 d2 d λd3=>A.c f (.bool true) d3 d λd4=>A.test d4 (j (.bool false) d) (A.r Qa x1 d λd5=>A.r (Ya 3) d5 d λd6=>A.a d6 d λd7=>
 A.r Qe d7 d λd8=>A.loop (λd9 p d=>A.b .lss (h0 p) d8 d λe0=>A.test e0 (A.r Qa x1 d λe1=>A.r (Ya 3) e1 d λe2=>A.a e2 d λe3=>
 A.s (Yc 4) e3 (h0 p) d λe4=>A.k 211 [x0,e4] d λe5 d=>A.r (Qo .not) e5 d λe6=>A.test e6 (j (.bool false) d) (A.b .add (h0 p) (jv 1) d λe7=>
 d9 [e7] d)) (A.r Qa x1 d λe8=>A.r (Ya 4) e8 d λe9=>A.a e9 d λf0=>A.r Qe f0 d λf1=>A.loop (λf2 q d=>A.b .lss (h0 q) f1 d λf3=>
 A.test f3 (A.r Qa x1 d λf4=>A.r (Ya 4) f4 d λf5=>A.a f5 d λf6=>A.s (Yc 5) f6 (h0 q) d λf7=>A.k 213 [x0,f7] d λf8 d=>
 A.r (Qo .not) f8 d λf9=>A.test f9 (j (.bool false) d) (A.b .add (h0 q) (jv 1) d λg0=>f2 [g0] d)) (j (.bool true) d)) [jv 0] d)) [jv 0] d))
 |_=>A.stop
theorem g213_ok:GQ 213 2 g213:=gq2 [some [7,5,6],some [26],none,none,none,some [32],none,none,none,none,some [82],none,none,none,none,some [100],none,none,none] λ_ _ _ _ _ _=>by kernel_rfl
def g221:GFun:=λA xs d i=>match xs with
 |[x0,x1]=>
 A.r Qa x0 d λt=>A.r (Ya 2) t d λu=>A.a u d λv=>A.r Qa x0 d λw=>A.r (Ya 3) w d λy=>A.a y d λz=>A.r Qa x0 d λt6=>
 A.r (Ya 4) t6 d λt7=>A.a t7 d λt8=>A.r Qa x0 d λt9=>A.r (Ya 5) t9 d λa0=>A.a a0 d λa1=>A.r Qa x0 d λa2=>
 A.r (Ya 6) a2 d λa3=>A.a a3 d λa4=>A.r Qa x0 d λa5=>A.r (Ya 7) a5 d λa6=>A.a a6 d λa7=>A.rd (Ye [jv 0,jv 0,jv 0,jv 0,jv 0,jv 0] [(0,1),(1,1),(2,1),(3,1),(4,1),(5,1)] [v,z,t8,a1,a4,a7] d) λa8=>
 A.loop (λa9 l d=>A.b .lss (h0 l) (jv 6) d λb0=>A.test b0 (A.s (YX false 6 1) a8 (h0 l) d λo=>A.b .lss o (jv 0) d λm=>A.fr m Qh o d λb1=>
 A.fb m .gtr b1 (jv 999) d λb2=>A.c m (.bool true) b2 d λb3=>A.test b3 (i (.bool false) d) (A.b .add (h0 l) (jv 1) d λb4=>a9 [b4] d)) (A.r Qa x0 d λb5=>
 A.r (Ya 0) b5 d λb6=>A.a b6 d λb7=>A.k 223 [b7] d λb8 d=>A.r (Qo .not) b8 d λp=>joinK (λn=>A.test p (n [p] d) (A.r Qa x0 d λb9=>
 A.r (Xc true 12) b9 d λc0=>A.k 124 [c0] d λc1 d=>A.b .gtr c1 (jv 200) d λq=>A.test q (n [q] d) (A.r Qa x0 d λc2=>A.r (Ya 1) c2 d λc3=>
 A.a c3 d λh=>A.tr h Qh x0 d λc4=>A.tr h Qa c4 d λc5=>A.tr h (Ya 4) c5 d λc6=>A.ta h c6 d λc7=>A.tb h .lss c7 (jv 1) d λc8=>
 A.c h c8 (.bool false) d λc9=>n [c9] d))) (λd0 d=>A.test (h0 d0) (i (.bool false) d) (A.r Qa x0 d λd1=>A.r (Ya 1) d1 d λd2=>A.a d2 d λd3=>
 A.r (Qo .not) d3 d λe=>A.tr e Qh x0 d λd4=>A.tr e Qa d4 d λd5=>A.tr e (Ya 3) d5 d λd6=>A.ta e d6 d λd7=>A.tr e Qh x0 d λd8=>
 A.tr e Qa d8 d λd9=>A.tr e (Ya 4) d9 d λe0=>A.ta e e0 d λe1=>A.tb e .add d7 e1 d λe2=>A.tr e Qh x0 d λe3=>A.tr e Qa e3 d λe4=>
 A.tr e (Ya 5) e4 d λe5=>A.ta e e5 d λe6=>A.tb e .add e2 e6 d λe7=>A.tr e Qh x0 d λe8=>A.tr e Qa e8 d λe9=>A.tr e (Ya 6) e9 d λf0=>
 A.ta e f0 d λf1=>A.tb e .add e7 f1 d λf2=>A.tr e Qh x0 d λf3=>A.tr e Qa f3 d λf4=>A.tr e (Ya 7) f4 d λf5=>A.ta e f5 d λf6=>
 A.tb e .add f2 f6 d λf7=>A.tb e .gtr f7 (jv 0) d λf8=>A.tr e Qh f8 d λf=>A.fr f Qh x0 d λf9=>A.fr f Qa f9 d λg0=>A.fr f (Ya 9) g0 d λg1=>
 A.fa f g1 d λg2=>A.fr f Qe g2 d λg3=>A.fr f Qh x0 d λg4=>A.fr f Qa g4 d λg5=>A.fr f (Ya 10) g5 d λg6=>A.fa f g6 d λg7=>
 A.fr f Qe g7 d λg8=>A.fb f .add g3 g8 d λg9=>A.fb f .gtr g9 (jv 0) d λi0=>A.tc e f (.bool true) i0 d λi1=>A.c e i1 (.bool false) d λi2=>
 A.test i2 (i (.bool false) d) (A.rd (Ye [.nilmap,.bool false] [(0,1),(1,1)] [x1,.bool true] d) λi3=>A.w1 Xk i3 d λj d=>A.r Qa x0 d λi4=>
 A.r (Ya 8) i4 d λi5=>A.a i5 d λi6=>A.k 157 [j,i6,jv 1] d λi7 d=>A.r (Qo .not) i7 d λi8=>A.test i8 (i (.bool false) d) (A.r Qa j d λi9=>
 A.r (Ya 1) i9 d λj0=>A.ws (Xb 1) j0 (.bool false) d λ_ d=>A.r Qa x0 d λj1=>A.r (Ya 9) j1 d λj2=>A.a j2 d λj3=>
 A.k 157 [j,j3,jv 1] d λg d=>A.tr g Qh j d λj4=>A.tr g Qh x0 d λj5=>A.tr g Qa j5 d λj6=>A.tr g (Ya 10) j6 d λj7=>A.ta g j7 d λj8=>
 A.gw g true (λk=>A.k 157 [j4,j8,jv 1] d k) d λj9 d=>A.c g j9 (.bool false) d λl0=>i l0 d)))))) [jv 0] d
 |_=>A.stop
theorem g221_ok:GQ 221 2 g221:=gq2 [none,some [33],none,none,none,none,some [43],none,none,none,none] λ_ _ _ _ _ _=>by kernel_rfl
def g222:GFun:=λA xs a d=>match xs with
 |[x0,x1]=>
 A.w1 Xk x0 a λb a=>A.r (Xc true 1) b a λe=>A.r (Qn (.func 235) 1) e a λf=>A.r (Xc true 1) b a λg=>A.r (Qn (.func 235) 1) g a λh=>
 A.r (Xc true 1) b a λi=>A.r (Qn (.func 235) 1) i a λj=>A.r (Xc true 1) b a λl=>A.r (Qn (.func 235) 1) l a λm=>A.r (Xc true 1) b a λn=>
 A.r (Qn (.func 236) 1) n a λo=>A.r (Xc true 1) b a λp=>A.r (Qn (.func 237) 1) p a λq=>A.r (Xc true 1) b a λt=>A.r (Qn (.func 236) 1) t a λu=>
 A.r (Xc true 1) b a λv=>A.r (Qn (.func 236) 1) v a λw=>A.r (Xc true 1) b a λy=>A.r (Qn (.func 238) 1) y a λz=>A.rd (Ye [.nilf,.nilf,.nilf,.nilf,.nilf,.nilf,.nilf,.nilf,.nilf] [(0,1),(1,1),(2,1),(3,1),(4,1),(5,1),(6,1),(7,1),(8,1)] [f,h,j,m,o,q,u,w,z] a) λa0=>
 A.wr (Xe [.nilf,.nilf,.nilf,.nilf,.nilf,.nilf,.nilf,.nilf,.nilf] [] a) a λc a=>A.ws (Xb 9) c a0 a λ_ a=>A.s (Qn (.func 240) 0) b c a λa1=>
 A.k 239 [x1,a1] a λa2 a=>A.r (Qo .not) a2 a λa3=>d a3 a
 |_=>A.stop
theorem g222_ok:GQ 222 2 g222:=gq2 [] λ_ _ _ _ _ _=>by kernel_rfl
def g223:GFun:=λA xs a l=>match xs with
 |[x0]=>
 A.k 241 [x0] a λh a=>A.r (Qd 0) h a λi=>A.r (Qd 1) h a λj=>A.b .gtr j (jv 0) a λf=>A.tr f Qh j a λm=>A.tb f .leq m (jv 24) a λn=>
 A.c f n (.bool false) a λd=>A.tr d Qh i a λo=>A.tr d Qh x0 a λp=>A.tr d Zq p a λq=>A.tb d .eql o q a λs=>A.c d s (.bool false) a λg=>
 A.tr g Qh i a λt=>A.tb g .leq t (jv 40) a λu=>A.c g u (.bool false) a λe=>A.tr e Qh x0 a λv=>A.gw e true (λk=>A.k 242 [v] a k) a λw a=>
 A.tr e (Qo .not) w a λy=>A.c e y (.bool false) a λz=>l z a
 |_=>A.stop
theorem g223_ok:GQ 223 1 g223:=gq1 [] λ_ _ _ _ _=>by kernel_rfl
def g224:GFun:=λA xs b d=>match xs with
 |[x0,x1]=>
 A.w1 Xk x0 b λe b=>A.w1 Xk x1 b λf b=>A.r (Ya 0) e b λg=>A.a g b λh=>A.r (Qn (.func 244) 0) f b λi=>A.k 243 [h,i] b λc b=>
 A.r (Qd 0) c b λj=>A.r (Qd 1) c b λl=>A.r (Qd 2) c b λm=>A.wr (Xe [.str [],.bool false,jv 0,jv 0,jv 0,jv 0,jv 0,jv 0,.nils,.nils,.nils,jv 0] [] b) b λn b=>
 A.ws (Xb 12) n j b λ_ b=>d (.tup [l,m]) b
 |_=>A.stop
theorem g224_ok:GQ 224 2 g224:=gq2 [] λ_ _ _ _ _ _=>by kernel_rfl
def g225:GFun:=λA xs d i=>match xs with
 |[x0]=>
 A.w1 Xk x0 d λf d=>A.r (Ya 0) f d λj=>A.a j d λl=>A.b .eql l (.int .i8 0) d λg=>A.tr g (Ya 1) f d λm=>A.ta g m d λn=>
 A.tb g .eql n (jv 0) d λo=>A.c g o (.bool false) d λh=>A.tr h (Ya 2) f d λp=>A.ta h p d λq=>A.tb h .eql q (.int .i8 0) d λs=>A.c h s (.bool false) d λe=>
 A.tr e (Ya 3) f d λt=>A.ta e t d λu=>A.tr e Qe u d λv=>A.tb e .eql v (jv 0) d λw=>A.c e w (.bool false) d λy=>i y d
 |_=>A.stop
theorem g225_ok:GQ 225 1 g225:=gq1 [] λ_ _ _ _ _=>by kernel_rfl
def g226:GFun:=λA xs d h=>match xs with
 |[x0,x1]=>
 A.w1 Xk x1 d λe d=>A.r (Ya 0) e d λv=>A.a v d λw=>A.b .geq w (.int .i8 0) d λj=>A.tr j (Ya 0) e d λy=>A.ta j y d λz=>
 A.tb j .leq z (.int .i8 2) d λt6=>A.c j t6 (.bool false) d λt7=>joinK (λq=>A.test t7 (q [jv 2] d) (q [jv 0] d)) (λv9 d=>A.r (Ya 0) e d λa0=>
 A.a a0 d λa1=>A.b .eql a1 (.int .i8 3) d λa2=>joinK (λt=>A.test a2 (t [jv 1] d) (t [jv 0] d)) (λa3 d=>A.r (Ya 0) e d λa4=>A.a a4 d λa5=>
 A.b .eql a5 (.int .i8 4) d λl=>A.fr l (Ya 0) e d λa6=>A.fa l a6 d λa7=>A.fb l .eql a7 (.int .i8 5) d λa8=>A.c l (.bool true) a8 d λa9=>
 joinK (λu=>A.test a9 (u [jv 2] d) (u [(h0 a3)] d)) (λb0 d=>A.r (Ya 0) e d λb1=>A.a b1 d λb2=>A.b .lss b2 (.int .i8 0) d λm=>A.fr m (Ya 0) e d λb3=>
 A.fa m b3 d λb4=>A.fb m .gtr b4 (.int .i8 6) d λb5=>A.c m (.bool true) b5 d λf=>A.fr f (Ya 3) e d λb6=>A.fa f b6 d λb7=>A.fr f Qe b7 d λb8=>
 A.fr f Qh (h0 v9) d λb9=>A.fb f .neq b8 b9 d λc0=>A.c f (.bool true) c0 d λg=>A.fr g (Ya 4) e d λc1=>A.fa g c1 d λc2=>A.fr g Qe c2 d λc3=>
 A.fr g Qh (h0 b0) d λc4=>A.fb g .neq c3 c4 d λc5=>A.c g (.bool true) c5 d λc6=>A.test c6 (h (.bool false) d) (A.loop (λc7 o d=>A.r (Ya 3) e d λc8=>
 A.a c8 d λc9=>A.r Qe c9 d λd0=>A.b .lss (h0 o) d0 d λd1=>A.test d1 (A.r (Ya 3) e d λd2=>A.a d2 d λd3=>A.s (Yc 4) d3 (h0 o) d λd4=>
 A.r (Xc true 4) d4 d λd5=>A.k 77 [x0,d5] d λd6 d=>A.r (Qo .not) d6 d λd7=>A.test d7 (h (.bool false) d) (A.b .add (h0 o) (jv 1) d λd8=>c7 [d8] d)) (
 A.loop (λd9 p d=>A.r (Ya 4) e d λe0=>A.a e0 d λe1=>A.r Qe e1 d λe2=>A.b .lss (h0 p) e2 d λe3=>A.test e3 (A.r (Ya 4) e d λe4=>
 A.a e4 d λe5=>A.s (Yc 5) e5 (h0 p) d λe6=>A.r (Xc true 5) e6 d λe7=>A.k 226 [x0,e7] d λe8 d=>A.r (Qo .not) e8 d λe9=>A.test e9 (
 h (.bool false) d) (A.b .add (h0 p) (jv 1) d λf0=>d9 [f0] d)) (A.r (Ya 0) e d λf1=>A.a f1 d λf2=>A.b .eql f2 (.int .i8 6) d λf3=>A.test f3 (
 A.r (Ya 1) e d λf4=>A.a f4 d λf5=>A.k 121 [f5] d λi d=>A.tr i Qh x0 d λf6=>A.tr i (Ya 2) e d λf7=>A.ta i f7 d λf8=>A.gw i true (λk=>A.k 228 [f6,f8,.bool false] d k) d λf9 d=>
 A.c i f9 (.bool false) d λg0=>h g0 d) (A.r (Ya 1) e d λg1=>A.a g1 d λg2=>A.b .eql g2 (.int .i8 0) d λn=>A.tr n (Ya 2) e d λg3=>
 A.ta n g3 d λg4=>A.got n (Yi .eql false [g4,.str []] d) λg5=>A.c n g5 (.bool false) d λg6=>h g6 d))) [jv 0] d)) [jv 0] d))))
 |_=>A.stop
theorem g226_ok:GQ 226 2 g226:=gq2 [some [5],some [6],some [6],none,none,some [7],none,none,none,none,some [8],none,none,none,none] λ_ _ _ _ _ _=>by kernel_rfl
def g227:GFun:=λA xs d j=>match xs with
 |[x0]=>
 A.w1 Xk x0 d λe d=>A.r (Ya 0) e d λl=>A.a l d λm=>A.b .eql m (.int .i8 0) d λh=>A.tr h (Ya 1) e d λn=>A.ta h n d λo=>
 A.tb h .eql o (.int .i8 0) d λp=>A.c h p (.bool false) d λi=>A.tr i (Ya 2) e d λq=>A.ta i q d λs=>A.got i (Yi .eql false [s,.str []] d) λt=>
 A.c i t (.bool false) d λf=>A.tr f (Ya 3) e d λu=>A.ta f u d λv=>A.tr f Qe v d λw=>A.tb f .eql w (jv 0) d λy=>A.c f y (.bool false) d λg=>
 A.tr g (Ya 4) e d λz=>A.ta g z d λa0=>A.tr g Qe a0 d λa1=>A.tb g .eql a1 (jv 0) d λa2=>A.c g a2 (.bool false) d λa3=>j a3 d
 |_=>A.stop
theorem g227_ok:GQ 227 1 g227:=gq1 [] λ_ _ _ _ _=>by kernel_rfl
def g228:GFun:=λA xs d g=>match xs with
 |[x0,x1,x2]=>
 A.loop (λh e d=>A.r Qa x0 d λi=>A.r (Ya 0) i d λj=>A.a j d λl=>A.r Qe l d λm=>A.b .lss (h0 e) m d λn=>A.test n (A.r Qa x0 d λo=>
 A.r (Ya 0) o d λp=>A.a p d λq=>A.s (Yc 12) q (h0 e) d λt=>A.r (Ya 0) t d λu=>A.a u d λv=>A.b .eql v x1 d λw=>A.test w (
 A.r Qa x0 d λy=>A.r (Ya 0) y d λz=>A.a z d λa0=>A.s (Yc 12) a0 (h0 e) d λa1=>A.r (Ya 1) a1 d λa2=>A.a a2 d λf=>
 A.fr f Qh x2 d λa3=>A.fr f (Qo .not) a3 d λa4=>A.c f (.bool true) a4 d λa5=>g a5 d) (A.b .add (h0 e) (jv 1) d λa6=>h [a6] d)) (g (.bool false) d)) [jv 0] d
 |_=>A.stop
theorem g228_ok:GQ 228 3 g228:=gq3 [none,some [7],none,none,none] λ_ _ _ _ _ _ _=>by kernel_rfl
def g229:GFun:=λA xs a b=>match xs with
 |[]=>
 A.wr (Xi 1 41 [.str [],.str [],.str [],.str [],.str [],.str [],.str [],.str [],.str [],.str [],.str [],.str [],.str [],.str [],.str [],.str [],.str [],.str [],.str [],.str [],.str [],.str [],.str [],.str [],.str [],.str [],.str [],.str [],.str [],.str [],.str [],.str [],.str [],.str [],.str [],.str [],.str [],.str [],.str [],.str [],.str []] [(0,1),(1,1),(2,1),(3,1),(4,1),(5,1),(6,1),(7,1),(8,1),(9,1),(10,1),(11,1),(12,1),(13,1),(14,1),(15,1),(16,1),(17,1),(18,1),(19,1),(20,1),(21,1),(22,1),(23,1),(24,1),(25,1),(26,1),(27,1),(28,1),(29,1),(30,1),(31,1),(32,1),(33,1),(34,1),(35,1),(36,1),(37,1),(38,1),(39,1),(40,1)] [(.str [99,97,114,100]),(.str [117,110,105,116]),(.str [99,104,97,114,109]),(.str [102,111,114,109,97,116]),(.str [112,108,97,121,101,100]),(.str [100,101,97,100]),(.str [100,97,119,110]),(.str [97,117,114,97]),(.str [115,104,105,101,108,100]),(.str [104,97,114,109]),(.str [109,101,110,100]),(.str [100,114,97,119]),(.str [103,97,105,110]),(.str [100,114,111,112]),(.str [108,111,111,107]),(.str [115,104,111,119]),(.str [115,117,109,109,111,110]),(.str [105,102]),(.str [101,108,115,101]),(.str [109,101]),(.str [102,111,101]),(.str [116,97,114,103,101,116]),(.str [108,105,102,101]),(.str [104,97,110,100]),(.str [100,101,99,107]),(.str [117,110,105,116,115]),(.str [109,97,110,97]),(.str [99,111,115,116]),(.str [116,111,112]),(.str [112,111,119,101,114]),(.str [109,105,110]),(.str [109,97,120]),(.str [110,111,116]),(.str [97,110,100]),(.str [111,114]),(.str [104,111,108,100,115]),(.str [108,101,97,115,116]),(.str [109,111,115,116]),(.str [99,111,112,105,101,115]),(.str [98,97,110,110,101,100]),(.str [115,105,110,103,108,101])] a) a λc a=>
 b c a
 |_=>A.stop
theorem g229_ok:GQ 229 0 g229:=gq0 [] λ_ _ _ _=>by kernel_rfl
def g230:GFun:=λA xs a e=>match xs with
 |[x0]=>
 A.wr (Xe [.int .i8 0,.int .i8 0,.int .i8 0,jv 0,.int .i8 0,.nils,.str [],.int .i8 0,.int .i8 0,.str [],.nils,.nils,.nils,.nils] [] a) a λd a=>
 A.rd (Ye [.int .i8 0,.int .i8 0,.int .i8 0,jv 0,.int .i8 0,.nils,.str [],.int .i8 0,.int .i8 0,.str [],.nils,.nils,.nils,.nils] [] [] a) λf=>
 A.wr (Xe [.int .i8 0,.int .i8 0,.int .i8 0,jv 0,.int .i8 0,.nils,.str [],.int .i8 0,.int .i8 0,.str [],.nils,.nils,.nils,.nils] [] a) a λb a=>
 A.ws (Xb 14) b f a λ_ a=>joinK (λc=>A.k 201 [x0,(.str [104,97,114,109])] a λg a=>A.test g (A.r (Ya 0) b a λh=>A.ws (Xb 1) h (.int .i8 0) a λ_ a=>
 A.k 245 [x0,.bool true] a λi a=>A.r (Ya 1) b a λj=>A.ws (Xb 1) j i a λ_ a=>A.k 246 [x0] a λl a=>A.r (Ya 2) b a λm=>
 A.ws (Xb 4) m l a λ_ a=>c [] a) (A.k 201 [x0,(.str [109,101,110,100])] a λn a=>A.test n (A.r (Ya 0) b a λo=>A.ws (Xb 1) o (.int .i8 1) a λ_ a=>
 A.k 245 [x0,.bool true] a λp a=>A.r (Ya 1) b a λq=>A.ws (Xb 1) q p a λ_ a=>A.k 246 [x0] a λs a=>A.r (Ya 2) b a λt=>
 A.ws (Xb 4) t s a λ_ a=>c [] a) (A.k 201 [x0,(.str [100,114,97,119])] a λu a=>A.test u (A.r (Ya 0) b a λv=>A.ws (Xb 1) v (.int .i8 2) a λ_ a=>
 A.k 245 [x0,.bool false] a λw a=>A.r (Ya 1) b a λy=>A.ws (Xb 1) y w a λ_ a=>A.k 246 [x0] a λz a=>A.r (Ya 2) b a λa0=>
 A.ws (Xb 4) a0 z a λ_ a=>c [] a) (A.k 201 [x0,(.str [103,97,105,110])] a λa1 a=>A.test a1 (A.r (Ya 0) b a λa2=>A.ws (Xb 1) a2 (.int .i8 3) a λ_ a=>
 A.k 246 [x0] a λa3 a=>A.r (Ya 2) b a λa4=>A.ws (Xb 4) a4 a3 a λ_ a=>c [] a) (A.k 201 [x0,(.str [100,114,111,112])] a λa5 a=>A.test a5 (
 A.r (Ya 0) b a λa6=>A.ws (Xb 1) a6 (.int .i8 4) a λ_ a=>A.k 245 [x0,.bool false] a λa7 a=>A.r (Ya 1) b a λa8=>A.ws (Xb 1) a8 a7 a λ_ a=>
 c [] a) (A.k 201 [x0,(.str [115,104,111,119])] a λa9 a=>A.test a9 (A.r (Ya 0) b a λb0=>A.ws (Xb 1) b0 (.int .i8 6) a λ_ a=>A.k 245 [x0,.bool false] a λb1 a=>
 A.r (Ya 1) b a λb2=>A.ws (Xb 1) b2 b1 a λ_ a=>c [] a) (A.k 201 [x0,(.str [108,111,111,107])] a λb3 a=>A.test b3 (A.r (Ya 0) b a λb4=>
 A.ws (Xb 1) b4 (.int .i8 5) a λ_ a=>A.k 246 [x0] a λb5 a=>A.r (Ya 2) b a λb6=>A.ws (Xb 4) b6 b5 a λ_ a=>c [] a) (A.k 201 [x0,(.str [115,117,109,109,111,110])] a λb7 a=>
 A.test b7 (A.r (Ya 0) b a λb8=>A.ws (Xb 1) b8 (.int .i8 7) a λ_ a=>A.k 200 [x0] a λb9 a=>A.r (Ya 6) b a λc0=>A.ws (Xb 1) c0 b9 a λ_ a=>
 c [] a) (A.k 151 [x0,(.str [105,102])] a λc1 a=>A.test c1 (A.k 247 [x0] a λd1 a=>A.k 203 [x0,(.str [105,102])] a λd2 a=>A.r (Ya 0) b a λc2=>
 A.ws (Xb 1) c2 (.int .i8 8) a λ_ a=>A.k 248 [x0] a λc3 a=>A.r (Ya 7) b a λc4=>A.ws (Xb 5) c4 c3 a λ_ a=>A.k 205 [x0] a λc5 a=>
 A.r (Ya 12) b a λc6=>A.ws (Xb 1) c6 c5 a λ_ a=>A.k 203 [x0,(.str [101,108,115,101])] a λd3 a=>A.k 205 [x0] a λc7 a=>A.r (Ya 13) b a λc8=>
 A.ws (Xb 1) c8 c7 a λ_ a=>A.k 249 [x0] a λd4 a=>A.r (Xc true 14) b a λc9=>A.ws (Xb 14) d c9 a λ_ a=>A.opt (cellV true 14 d a) λr56=>
 e r56 a) (A.k 152 [x0,jv 120] a λd5 a=>c [] a)))))))))) (λv4 a=>A.k 203 [x0,(.str [59])] a λd6 a=>A.r (Xc true 14) b a λd0=>A.ws (Xb 14) d d0 a λ_ a=>
 A.opt (cellV true 14 d a) λr60=>e r60 a)
 |_=>A.stop
theorem g230_ok:GQ 230 1 g230:=gq1 [some [],none,none,none,none,none,none,none,none,none] λ_ _ _ _ _=>by kernel_rfl
def g231:GFun:=λA xs c f=>match xs with
 |[x0]=>
 A.w1 Xk x0 c λe c=>A.loop (λg d c=>A.r (Ya 3) e c λh=>A.a h c λi=>A.r Qe i c λj=>A.b .lss (h0 d) j c λl=>A.test l (A.r (Ya 3) e c λm=>
 A.a m c λn=>A.s (Yc 4) n (h0 d) c λo=>A.r (Xc true 4) o c λp=>A.k 231 [p] c λq c=>A.b .add (h1 d) q c λt=>A.b .add (h0 d) (jv 1) c λu=>
 g [u,t] c) (f (h1 d) c)) [jv 0,jv 1] c
 |_=>A.stop
theorem g231_ok:GQ 231 1 g231:=gq1 [none,some [4,3],none,none] λ_ _ _ _ _=>by kernel_rfl
def g232:GFun:=λA xs c g=>match xs with
 |[x0]=>
 A.w1 Xk x0 c λf c=>A.loop (λh d c=>A.r (Ya 3) f c λi=>A.a i c λj=>A.r Qe j c λl=>A.b .lss (h0 d) l c λm=>A.test m (A.r (Ya 3) f c λn=>
 A.a n c λo=>A.s (Yc 4) o (h0 d) c λp=>A.r (Xc true 4) p c λq=>A.k 231 [q] c λt c=>A.b .add (h1 d) t c λu=>A.b .add (h0 d) (jv 1) c λv=>
 h [v,u] c) (A.loop (λw e c=>A.r (Ya 4) f c λy=>A.a y c λz=>A.r Qe z c λa0=>A.b .lss (h0 e) a0 c λa1=>A.test a1 (A.r (Ya 4) f c λa2=>
 A.a a2 c λa3=>A.s (Yc 5) a3 (h0 e) c λa4=>A.r (Xc true 5) a4 c λa5=>A.k 232 [a5] c λa6 c=>A.b .add (h1 e) a6 c λa7=>A.b .add (h0 e) (jv 1) c λa8=>
 w [a8,a7] c) (g (h1 e) c)) [jv 0,(h1 d)] c)) [jv 0,jv 1] c
 |_=>A.stop
theorem g232_ok:GQ 232 1 g232:=gq1 [none,some [4,3],none,none,none,some [5,3],none,none] λ_ _ _ _ _=>by kernel_rfl
def g235:GFun:=λA xs a b=>match xs with
 |[x0,x1]=>
 A.w1 Xk x0 a λc a=>A.w1 Xk x1 a λd a=>A.pu (Ya 0 [c] a) λe=>A.dr (Qg [e] a) a λf g a=>A.pu (Ya 2 [d] a) λh=>A.dr (Xc true 4 [h] a) a λi j a=>
 A.dcall (.call 251) [i] a λl m a=>A.dcall (.call 250) [f,l] a λn o a=>A.pu (Yi .eql false [n,.int .i8 0] a) λp=>A.gd (Zi [[],[0],[],[2],[2,3],[0,1,2,3,4],[0,1,2,3,4,5],[0,1,2,3,4,5,6]] [([],[]),g,([],[]),j,m,o,([],[]),([],[])]) <|
 b p a
 |_=>A.stop
theorem g235_ok:GQ 235 2 g235:=gq2 [] λ_ _ _ _ _ _=>by kernel_rfl
def g236:GFun:=λA xs c d=>match xs with
 |[x0,x1]=>
 A.w1 Xk x0 c λe c=>A.w1 Xk x1 c λj c=>A.r (Ya 0) e c λf=>A.a f c λg=>A.k 252 [g] c λh c=>A.b .eql h (.int .i8 0) c λi=>d i c
 |_=>A.stop
theorem g236_ok:GQ 236 2 g236:=gq2 [] λ_ _ _ _ _ _=>by kernel_rfl
def g237:GFun:=λA xs a b=>match xs with
 |[x0,x1]=>
 A.w1 Xk x0 a λc a=>A.w1 Xk x1 a λd a=>A.pu (Ya 0 [c] a) λe=>A.dr (Qg [e] a) a λf g a=>A.pu (Ya 2 [d] a) λh=>A.dr (Xc true 4 [h] a) a λi j a=>
 A.dcall (.call 251) [i] a λl m a=>A.dcall (.call 250) [f,l] a λn o a=>A.dcall (.call 253) [n,.int .i8 1] a λp q a=>A.gd (Zi [[],[0],[],[2],[2,3],[0,1,2,3,4],[0,1,2,3,4,5],[0,1,2,3,4,5,6]] [([],[]),g,([],[]),j,m,o,q,([],[])]) <|
 b p a
 |_=>A.stop
theorem g237_ok:GQ 237 2 g237:=gq2 [] λ_ _ _ _ _ _=>by kernel_rfl
def g238:GFun:=λA xs b g=>match xs with
 |[x0,x1]=>
 A.w1 Xk x0 b λh b=>A.w1 Xk x1 b λe b=>A.pu (Ya 0 [h] b) λi=>A.dr (Qg [i] b) b λj l b=>A.pu (Ya 7 [e] b) λm=>A.dr (Xc true 5 [m] b) b λn o b=>
 A.dcall (.call 254) [n] b λp q b=>A.dcall (.call 250) [j,p] b λs t b=>A.pu (Ye [.int .i8 0] [(0,1)] [s] b) λu=>A.dr (Xe [.int .i8 0] [] b) b λf v b=>
 A.dr (Xb 1 [f,u] b) b λ_ w b=>A.gd (Zi [[],[0],[],[2],[2,3],[0,1,2,3,4],[0,1,2,3,4,5],[],[0,1,2,3,4,5,6,7]] [([],[]),l,([],[]),o,q,t,([],[]),v,w]) <|
 A.r (Xc true 1) f b λy=>A.r (Ya 12) e b λz=>A.a z b λa0=>A.k 222 [y,a0] b λd b=>A.tr d (Xc true 1) f b λa1=>A.tr d (Ya 13) e b λa2=>
 A.ta d a2 b λa3=>A.gw d true (λk=>A.k 222 [a1,a3] b k) b λa4 b=>A.c d a4 (.bool false) b λa5=>g a5 b
 |_=>A.stop
theorem g238_ok:GQ 238 2 g238:=gq2 [] λ_ _ _ _ _ _=>by kernel_rfl
def g239:GFun:=λA xs a c=>match xs with
 |[x0,x1]=>
 A.k 255 [x0,x1] a λd a=>A.b .geq d (jv 0) a λe=>c e a
 |_=>A.stop
theorem g239_ok:GQ 239 2 g239:=gq2 [] λ_ _ _ _ _ _=>by kernel_rfl
def g240:GFun:=λA xs d h=>match xs with
 |[x0,x1,x2]=>
 A.w1 Xk x0 d λf d=>A.r (Xc true 1) x1 d λi=>A.r (Qn (.func 236) 1) i d λj=>A.r (Ya 0) f d λl=>A.a l d λm=>A.b .geq m (.int .i8 0) d λe=>
 A.tr e (Ya 0) f d λn=>A.ta e n d λo=>A.tr e (Qaa .i64) o d λp=>A.tb e .lss p (jv 9) d λq=>A.c e q (.bool false) d λt=>joinK (λg=>
 A.test t (A.r (Ya 0) f d λu=>A.a u d λv=>A.s (Zg 9 1) x2 v d λw=>A.a w d λy=>g [y] d) (g [j] d)) (λz d=>A.r (Xc true 14) f d λa0=>
 A.call .callv [(h0 z),a0] d λa1 d=>A.r (Qo .not) a1 d λa2=>h a2 d)
 |_=>A.stop
theorem g240_ok:GQ 240 3 g240:=gq3 [some [5]] λ_ _ _ _ _ _ _=>by kernel_rfl
end Go.Ah.Tz
end
section
namespace Go.Ah.Tz
open Go.Proofs.Tryz (prog)
abbrev big:Nat:=1152921504606846975
def i8B(n:Int):Bool:=decide (-128≤n)&&decide (n≤127)
def i64B(n:Int):Bool:=decide (-9223372036854775808≤n)&&decide (n≤9223372036854775807)
theorem XcG{n:Int}(h:i8B n=true):-128≤n∧n≤127:=by simpa[i8B] using h
mutual
def nmFit:Nm→Bool
 |.mk op n _ kids=>decide (kids.length≤big)&&(Qao kids&&(i8B op&&i64B n))
def Qao:List Nm→Bool
 |[]=>true
 |x::l=>nmFit x&&Qao l
end
theorem Xal:∀ {l:List Nm},Qao l=true→∀x∈l,nmFit x=true
 |[],_,_,h=>by simp at h
 |y::l,h,x,hx=>by
  simp only[Qao,Bool.and_eq_true] at h;rcases List.mem_cons.1 hx with rfl|hx
  ·exact h.1
  ·exact Xal h.2 x hx
theorem ZX{x:Nm}(h:nmFit x=true):x.kids.length≤big:=by cases x; simp[nmFit] at h; exact h.1
theorem YH{x k:Nm}(h:nmFit x=true)(hk:k∈x.kids):nmFit k=true:=by cases x; simp[nmFit] at h; exact Xal h.2.1 k hk
theorem ZV{x k:Nm}(hk:k∈x.kids):SizeOf.sizeOf k<SizeOf.sizeOf x:=by
 cases x with
 |mk a b c kids=>
  have:=List.sizeOf_lt_of_mem (show k∈kids from hk);simp; omega
mutual
def cnFit:Cn→Bool
 |.mk op _ _ nums kids=>(decide (nums.length≤big)&&Qao nums)&&(decide (kids.length≤big)&&(Zay kids&&i8B op))
def Zay:List Cn→Bool
 |[]=>true
 |x::l=>cnFit x&&Zay l
end
theorem XaI:∀ {l:List Cn},Zay l=true→∀x∈l,cnFit x=true
 |[],_,_,h=>by simp at h
 |y::l,h,x,hx=>by
  simp only[Zay,Bool.and_eq_true] at h;rcases List.mem_cons.1 hx with rfl|hx
  ·exact h.1
  ·exact XaI h.2 x hx
theorem QN{x:Cn}(h:cnFit x=true):x.nums.length≤big:=by cases x; simp[cnFit] at h; exact h.1.1
theorem XN{x:Cn}(h:cnFit x=true):x.kids.length≤big:=by cases x; simp[cnFit] at h; exact h.2.1
theorem YW{x:Cn}{k:Nm}(h:cnFit x=true)(hk:k∈x.nums):nmFit k=true:=by cases x; simp[cnFit] at h; exact Xal h.1.2 k hk
theorem ZW{x k:Cn}(h:cnFit x=true)(hk:k∈x.kids):cnFit k=true:=by cases x; simp[cnFit] at h; exact XaI h.2.2.1 k hk
theorem Zak{x k:Cn}(hk:k∈x.kids):SizeOf.sizeOf k<SizeOf.sizeOf x:=by
 cases x with
 |mk a b c nums kids=>
  have:=List.sizeOf_lt_of_mem (show k∈kids from hk);simp; omega
mutual
def efFit:Ef→Bool
 |.mk op _ n _ c thn els=>nmFit n&&(cnFit c&&((decide (thn.length≤big)&&Xag thn)&&((decide (els.length≤big)&&Xag els)&&i8B op)))
def Xag:List Ef→Bool
 |[]=>true
 |x::l=>efFit x&&Xag l
end
theorem ZaK:∀ {l:List Ef},Xag l=true→∀x∈l,efFit x=true
 |[],_,_,h=>by simp at h
 |y::l,h,x,hx=>by
  simp only[Xag,Bool.and_eq_true] at h;rcases List.mem_cons.1 hx with rfl|hx
  ·exact h.1
  ·exact ZaK h.2 x hx
def lsFit(l:List Ef):Bool:=decide (l.length≤big)&&Xag l
theorem Z3{x:Ef}(h:efFit x=true):nmFit x.n=true:=by cases x; simp[efFit] at h; exact h.1
theorem YY{x:Ef}(h:efFit x=true):cnFit x.c=true:=by cases x; simp[efFit] at h; exact h.2.1
theorem ZK{x:Ef}(h:efFit x=true):lsFit x.thn=true:=by cases x; simp[efFit] at h; simp[lsFit,Ef.thn,h]
theorem QJ{x:Ef}(h:efFit x=true):lsFit x.els=true:=by cases x; simp[efFit] at h; simp[lsFit,Ef.els,h]
theorem Qb6{x:Ef}(h:efFit x=true):-128≤x.op∧x.op≤127:=by cases x; simp[efFit] at h; exact XcG h.2.2.2.2
theorem QA{l:List Ef}(h:lsFit l=true):l.length≤big:=by simp[lsFit] at h; exact h.1
theorem YK{l:List Ef}{x:Ef}(h:lsFit l=true)(hx:x∈l):efFit x=true:=by simp[lsFit] at h; exact ZaK h.2 x hx
theorem wrapI{n:Int}(h1:-9223372036854775808≤n)(h2:n≤9223372036854775807):IntKind.i64.wrap n=n:=IntWalk.i64_in _ ⟨h1,h2⟩
theorem nmRo(x:Nm):roL [.agg (nmC x)]=true:=by rw[Qx]; rfl
theorem nmLd(x:Nm):partA true 0 4 (nmC x)=some (.agg (nmC x)):=by rw[Qx]; rfl
theorem cnRo(x:Cn):roL [.agg (cnC x)]=true:=by rw[ZM]; rfl
theorem cnLd(x:Cn):partA true 0 5 (cnC x)=some (.agg (cnC x)):=by rw[ZM]; rfl
theorem ldr{σ:List ABlk}{j n:Nat}{agg:Bool}{row:List AVal}{v:AVal}(hv:partA agg j n row=some v):Xc agg n [.rptr row j] σ=.ok v [] []:=by
 rw[YaR,hv]
mutual
def nmW:Nm→Int
 |.mk _ _ _ kids=>nmWs 1 kids
def nmWs:Int→List Nm→Int
 |n,[]=>n
 |n,x::l=>nmWs (min (n+nmW x) 1073741824) l
end
theorem Qcm(x:Nm):nmW x=nmWs 1 x.kids:=by cases x; rfl
theorem Xbf:∀(l:List Nm) (n:Int),0≤n→n≤1073741824→(∀x∈l,0≤nmW x)→0≤nmWs n l∧nmWs n l≤1073741824
 |[],n,h1,h2,_=>⟨h1,h2⟩
 |x::l,n,h1,h2,h3=>by
  have:=h3 x (by simp);exact Xbf l _ (by omega) (by omega) (λy hy=>h3 y (by simp[hy]))
theorem Zcn:∀(k:Nat) (x:Nm),SizeOf.sizeOf x≤k→0≤nmW x∧nmW x≤1073741824
 |0,x,h=>by cases x; simp at h
 |k+1,x,h=>by
  rw[Qcm];exact Xbf _ _ (by omega) (by omega) (λy hy=>(Zcn k y (by have:=ZV hy; omega)).1)
theorem Ya4(x:Nm):0≤nmW x∧nmW x≤1073741824:=Zcn _ x (Nat.le_refl _)
mutual
def cnW:Cn→Int
 |.mk _ _ _ nums kids=>cnWs (nmWs 1 nums) kids
def cnWs:Int→List Cn→Int
 |n,[]=>n
 |n,x::l=>cnWs (min (n+cnW x) 1073741824) l
end
theorem Ycj(x:Cn):cnW x=cnWs (nmWs 1 x.nums) x.kids:=by cases x; rfl
theorem YbJ:∀(l:List Cn) (n:Int),0≤n→n≤1073741824→(∀x∈l,0≤cnW x)→0≤cnWs n l∧cnWs n l≤1073741824
 |[],n,h1,h2,_=>⟨h1,h2⟩
 |x::l,n,h1,h2,h3=>by
  have:=h3 x (by simp);exact YbJ l _ (by omega) (by omega) (λy hy=>h3 y (by simp[hy]))
theorem Xcj:∀(k:Nat) (x:Cn),SizeOf.sizeOf x≤k→0≤cnW x∧cnW x≤1073741824
 |0,x,h=>by cases x; simp at h
 |k+1,x,h=>by
  rw[Ycj];have h1:=Xbf x.nums 1 (by omega) (by omega) (λy _=>(Ya4 y).1);exact YbJ _ _ h1.1 h1.2 (λy hy=>(Xcj k y (by have:=Zak hy; omega)).1)
theorem ZbJ(x:Cn):0≤cnW x∧cnW x≤1073741824:=Xcj _ x (Nat.le_refl _)
def cntOp(op:Int):Bool:=decide (op=0)||(decide (op=1)||(decide (op=2)||(decide (op=3)||decide (op=5))))
def sdOp(w:Int):Bool:=decide (w=0)||decide (w=1)
attribute [local irreducible] Ans.rd Ans.pu Ans.wr Ans.dr Ans.gr Ans.gw Ans.gl Ans.gd Ans.opt joinK W
theorem c76':∀(k:Nat) (x:Nm),SizeOf.sizeOf x≤k→nmFit x=true→PC 76 [.agg (nmC x)] (iv (nmW x))
 |0,x,h,_=>by cases x; simp at h
 |k+1,x,hk,hf=>by
  rw[Qx];refine Qc hP g76_ok rfl rfl ?_;unfold g76;refine Xf rfl rfl ?_;rw[Qcm];have hlen:=ZX hf;generalize hB:([]++[ABlk.box [iv8 x.op,iv x.n,iv8 x.who,.rsl false false 4 (x.kids.map nmC)]]:List ABlk)=base;have hB0:hget base 0=.box [iv8 x.op,iv x.n,iv8 x.who,.rsl false false 4 (x.kids.map nmC)]:=by rw[←hB]; rfl
  clear hB;refine Qk (ι:=Nat) (λi vs σ=>∃n,vs=[iv i,iv n]∧σ=base∧i≤x.kids.length∧0≤n∧n≤1073741824∧nmWs 1 x.kids=nmWs n (x.kids.drop i)) (λi=>x.kids.length-i) 0 ⟨1,rfl,rfl,by omega,by omega,by omega,by simp⟩ ?_;rintro i vs σ again ⟨n,rfl,rfl,hi,n1,n2,hu⟩ hag;repeat first|refine Za (ld hB0 rfl) ?_|refine Za rfl ?_
  refine Qb (λh=>?_) (λh=>?_)
  ·have h:i<x.kids.length:=by simpa using h
   have hdr:x.kids.drop i=x.kids[i]::x.kids.drop (i+1):=by rw[YLD h]
   rw[hdr,nmWs] at hu;have hm:x.kids[i]∈x.kids:=List.getElem_mem h;refine Za rfl (Za (ld hB0 rfl) (Za (Yo _ nmC _ _ _ x.kids _ i h) (Za (ldr (nmLd _)) ?_)));refine Yd (c76' k _ (by have:=ZV hm; omega) (YH hf hm)) rfl g76_ok.plain (nmRo _) ?_;have:=Ya4 x.kids[i];refine Za (Zk ..) (Za (Zaa ..) (Za (Zk ..) ?_));rw[Yg (n:=i) (by have:big=1152921504606846975:=rfl; omega),wrapI (by omega) (by omega)];exact hag (i+1) _ _ (by omega) ⟨_,rfl,rfl,by omega,by omega,by omega,hu⟩
  ·have h:i=x.kids.length:=by simp at h; omega
   subst h;rw[List.drop_length] at hu;rw[hu]; rfl
theorem c76(x:Nm)(hf:nmFit x=true):PC 76 [.agg (nmC x)] (iv (nmW x)):=c76' _ x (Nat.le_refl _) hf
end Go.Ah.Tz
end
section
namespace Go.Ah.Tz
open Go.Proofs.Tryz (prog)
attribute [local irreducible] Ans.rd Ans.pu Ans.wr Ans.dr Ans.gr Ans.gw Ans.gl Ans.gd Ans.opt joinK W
theorem XH{f:(List AVal→List ABlk→Prop)→Prop}{k:List AVal→List ABlk→Prop}(h:f k):joinK f k:=by unfold joinK; exact h
theorem bigE:big=1152921504606846975:=rfl
theorem efLd(x:Ef):partA true 0 14 (efC x)=some (.agg (efC x)):=by rw[YD]; rfl
theorem efLdN(x:Ef):partA true 2 4 (efC x)=some (.agg (nmC x.n)):=by rw[YD,Qx]; rfl
theorem efLdC(x:Ef):partA true 7 5 (efC x)=some (.agg (cnC x.c)):=by rw[YD,ZM]; rfl
theorem efLd0(x:Ef):partA false 0 1 (efC x)=some (iv8 x.op):=by rw[YD]; rfl
theorem efLd1(x:Ef):partA false 1 1 (efC x)=some (iv8 x.who):=by rw[YD]; rfl
theorem efLd6(x:Ef):partA false 6 1 (efC x)=some (.str x.name):=by rw[YD]; rfl
theorem Zp(x:Ef):partA false 12 1 (efC x)=some (efV x.thn):=by rw[YD]; rfl
theorem Yp(x:Ef):partA false 13 1 (efC x)=some (efV x.els):=by rw[YD]; rfl
theorem c178':∀(k:Nat) (x:Cn),SizeOf.sizeOf x≤k→cnFit x=true→PC 178 [.agg (cnC x)] (iv (cnW x))
 |0,x,h,_=>by cases x; simp at h
 |k+1,x,hk,hf=>by
  rw[ZM];refine Qc hP g178_ok rfl rfl ?_;unfold g178;refine Xf rfl rfl ?_;rw[Ycj];have hl1:=QN hf;have hl2:=XN hf;rw[bigE] at hl1 hl2;generalize hB:([]++[ABlk.box [iv8 x.op,iv8 x.who,.str x.name,.rsl false false 4 (x.nums.map nmC),.rsl false false 5 (x.kids.map cnC)]]:List ABlk)=base;have hB0:hget base 0=.box [iv8 x.op,iv8 x.who,.str x.name,.rsl false false 4 (x.nums.map nmC),.rsl false false 5 (x.kids.map cnC)]:=by rw[←hB]; rfl
  clear hB;refine Qk (ι:=Nat) (λi vs σ=>∃n,vs=[iv i,iv n]∧σ=base∧i≤x.nums.length∧0≤n∧n≤1073741824∧nmWs 1 x.nums=nmWs n (x.nums.drop i)) (λi=>x.nums.length-i) 0 ⟨1,rfl,rfl,by omega,by omega,by omega,by simp⟩ ?_;rintro i vs σ again ⟨n,rfl,rfl,hi,n1,n2,hu⟩ hag;repeat first|refine Za (ld hB0 rfl) ?_|refine Za rfl ?_
  refine Qb (λh=>?_) (λh=>?_)
  ·have h:i<x.nums.length:=by simpa using h
   have hdr:x.nums.drop i=x.nums[i]::x.nums.drop (i+1):=by rw[YLD h]
   rw[hdr,nmWs] at hu;have hm:x.nums[i]∈x.nums:=List.getElem_mem h;refine Za rfl (Za (ld hB0 rfl) (Za (Yo _ nmC _ _ _ x.nums _ i h) (Za (ldr (nmLd _)) ?_)));refine Yd (c76 _ (YW hf hm)) rfl g76_ok.plain (nmRo _) ?_;have:=Ya4 x.nums[i];refine Za (Zk ..) (Za (Zaa ..) (Za (Zk ..) ?_));rw[Yg (n:=i) (by omega),wrapI (by omega) (by omega)];exact hag (i+1) _ _ (by omega) ⟨_,rfl,rfl,by omega,by omega,by omega,hu⟩
  have h:i=x.nums.length:=by simp at h; omega
  subst h;rw[List.drop_length,nmWs] at hu;rw[hu];clear hag hu hi;refine Qk (ι:=Nat) (λi vs s=>∃m,vs=[iv i,iv m]∧s=σ∧i≤x.kids.length∧0≤m∧m≤1073741824∧cnWs n x.kids=cnWs m (x.kids.drop i)) (λi=>x.kids.length-i) 0 ⟨n,rfl,rfl,by omega,by omega,by omega,by simp⟩ ?_;rintro i vs s again ⟨m,rfl,rfl,hi,n1,n2,hu⟩ hag;repeat first|refine Za (ld hB0 rfl) ?_|refine Za rfl ?_
  refine Qb (λh=>?_) (λh=>?_)
  ·have h:i<x.kids.length:=by simpa using h
   have hdr:x.kids.drop i=x.kids[i]::x.kids.drop (i+1):=by rw[YLD h]
   rw[hdr,cnWs] at hu;have hm:x.kids[i]∈x.kids:=List.getElem_mem h;refine Za rfl (Za (ld hB0 rfl) (Za (Yo _ cnC _ _ _ x.kids _ i h) (Za (ldr (cnLd _)) ?_)));refine Yd (c178' k _ (by have:=Zak hm; omega) (ZW hf hm)) rfl g178_ok.plain (cnRo _) ?_;have:=ZbJ x.kids[i];refine Za (Zk ..) (Za (Zaa ..) (Za (Zk ..) ?_));rw[Yg (n:=i) (by omega),wrapI (by omega) (by omega)];exact hag (i+1) _ _ (by omega) ⟨_,rfl,rfl,by omega,by omega,by omega,hu⟩
  ·have h:i=x.kids.length:=by simp at h; omega
   subst h;rw[List.drop_length] at hu;rw[hu]; rfl
theorem c178(x:Cn)(hf:cnFit x=true):PC 178 [.agg (cnC x)] (iv (cnW x)):=c178' _ x (Nat.le_refl _) hf
theorem c121(w:Int):PC 121 [iv8 w] (.bool (sdOp w)):=by
 refine Qc hP g121_ok rfl rfl ?_;unfold g121;refine Za rfl ?_;rcases YBE (w==0) with h1|h1
 ·rw[h1];repeat first|refine Yb rfl ?_|refine Zc rfl ?_|refine Zd rfl ?_|refine Xd rfl ?_|refine Za rfl ?_
  simp at h1; simp[sdOp,h1]
 rw[h1];repeat first|refine Xa ?_|refine Zb ?_|refine Za rfl ?_
 have h1:w≠0:=by simpa using h1
 exact congrArg AVal.bool (by rw[Bool.eq_iff_iff]; simp[sdOp,h1])
theorem c130(w:Int):PC 130 [iv8 w] (.bool (cntOp w)):=by
 refine Qc hP g130_ok rfl rfl ?_;unfold g130;refine Za rfl ?_;rcases YBE (w==0) with h0|h0
 ·rw[h0];repeat first|refine Yb rfl ?_|refine Zc rfl ?_|refine Zd rfl ?_|refine Xd rfl ?_|refine Za rfl ?_
  simp at h0; simp[cntOp,h0]
 rw[h0];repeat first|refine Xa ?_|refine Zb ?_|refine Za rfl ?_
 rcases YBE (w==1) with h1|h1
 ·rw[h1];repeat first|refine Yb rfl ?_|refine Zc rfl ?_|refine Zd rfl ?_|refine Xd rfl ?_|refine Za rfl ?_
  simp at h1; simp[cntOp,h1]
 rw[h1];repeat first|refine Xa ?_|refine Zb ?_|refine Za rfl ?_
 rcases YBE (w==2) with h2|h2
 ·rw[h2];repeat first|refine Yb rfl ?_|refine Zc rfl ?_|refine Zd rfl ?_|refine Xd rfl ?_|refine Za rfl ?_
  simp at h2; simp[cntOp,h2]
 rw[h2];repeat first|refine Xa ?_|refine Zb ?_|refine Za rfl ?_
 rcases YBE (w==3) with h3|h3
 ·rw[h3];repeat first|refine Yb rfl ?_|refine Zc rfl ?_|refine Zd rfl ?_|refine Xd rfl ?_|refine Za rfl ?_
  simp at h3; simp[cntOp,h3]
 rw[h3];repeat first|refine Xa ?_|refine Zb ?_|refine Za rfl ?_
 simp at h0 h1 h2 h3;exact congrArg AVal.bool (by rw[Bool.eq_iff_iff]; simp[cntOp,h0,h1,h2,h3])
mutual
def efsW:Int→List Ef→Int
 |n,[]=>n
 |n,x::l=>efsW (efW n x) l
def efW:Int→Ef→Int
 |n0,.mk op _ nn _ c thn els=>
  if op=8 then min ((if cntOp op then min (min (n0+1) 1073741824+nmW nn) 1073741824 else min (n0+1) 1073741824)+cnW c+efsW 0 thn+efsW 0 els) 1073741824 else (if cntOp op then min (min (n0+1) 1073741824+nmW nn) 1073741824 else min (n0+1) 1073741824)
end
theorem Xa0(n:Int)(x:Ef):efW n x=if x.op=8 then min ((if cntOp x.op then min (min (n+1) 1073741824+nmW x.n) 1073741824 else min (n+1) 1073741824)+cnW x.c+efsW 0 x.thn+efsW 0 x.els) 1073741824 else (if cntOp x.op then min (min (n+1) 1073741824+nmW x.n) 1073741824 else min (n+1) 1073741824):=by
 cases x; rfl
theorem Zau:∀(k:Nat) (l:List Ef) (n:Int),SizeOf.sizeOf l≤k→0≤n→n≤1073741824→0≤efsW n l∧efsW n l≤1073741824
 |0,l,n,h,_,_=>by cases l<;>simp at h
 |k+1,[],n,_,h1,h2=>⟨h1,h2⟩
 |k+1,x::l,n,h,h1,h2=>by
  simp only[List.cons.sizeOf_spec] at h;have hx:SizeOf.sizeOf x.thn<SizeOf.sizeOf x∧SizeOf.sizeOf x.els<SizeOf.sizeOf x:=by
   cases x; simp[Ef.thn,Ef.els]; omega
  have q1:=Zau k x.thn 0 (by omega) (by omega) (by omega);have q2:=Zau k x.els 0 (by omega) (by omega) (by omega);have q3:=Ya4 x.n;have q4:=ZbJ x.c;have q5:0≤efW n x∧efW n x≤1073741824:=by
   rw[Xa0]; split<;>split<;>omega
  rw[efsW];exact Zau k l _ (by omega) q5.1 q5.2
theorem Zaz(l:List Ef):0≤efsW 0 l∧efsW 0 l≤1073741824:=Zau _ l 0 (Nat.le_refl _) (by omega) (by omega)
theorem Z6(x:Ef):SizeOf.sizeOf x.thn<SizeOf.sizeOf x∧SizeOf.sizeOf x.els<SizeOf.sizeOf x:=by
 cases x; simp[Ef.thn,Ef.els]; omega
theorem c142':∀(k:Nat) (l:List Ef),SizeOf.sizeOf l≤k→lsFit l=true→PC 142 [efV l] (iv (efsW 0 l))
  |0,l,h,_=>by cases l<;>simp at h
  |k+1,l,hk,hf=>by
    refine Qc hP g142_ok rfl rfl ?_;unfold g142;have hlen:=QA hf;rw[bigE] at hlen;refine Qk (ι:=Nat) (λi vs σ=>∃n,vs=[iv i,iv n]∧i≤l.length∧0≤n∧n≤1073741824∧efsW 0 l=efsW n (l.drop i)) (λi=>l.length-i) 0 ⟨0,rfl,by omega,by omega,by omega,by simp⟩ ?_;rintro i vs σ again ⟨n,rfl,hi,n1,n2,hu⟩ hag;refine Za rfl (Za rfl ?_);refine Qb (λh=>?_) (λh=>?_)
    · have h:i<l.length:=by simpa using h
      have hdr:l.drop i=l[i]::l.drop (i+1):=by rw[YLD h]
      rw[hdr,efsW] at hu;have hm:l[i]∈l:=List.getElem_mem h;have hsz:=List.sizeOf_lt_of_mem hm;have hfx:=YK hf hm;have ix:=λ(s:List ABlk)=>Yo s efC false false 14 l .i64 i h;generalize l[i]=x at hu hsz hfx ix;refine XH (Za (Zk ..) (Za (Zaa ..) (Za (ix _) (Za rfl (Za (ldr (efLd0 x)) ?_)))));refine Yd (c130 _) rfl g130_ok.plain rfl ?_;have b1:=Ya4 x.n;have b2:=ZbJ x.c;have b3:=Zaz x.thn;have b4:=Zaz x.els;rw[wrapI (n:=n+1) (by omega) (by omega)];have fin:∀m:Int,0≤m→m≤1073741824→efW n x=m→again [iv ((i+1:Nat):Int),iv m] σ:=by
        intro m m1 m2 e;exact hag (i+1) _ _ (by omega) ⟨m,rfl,by omega,m1,m2,by rw[hu,e]⟩
      refine XH ?_;refine Qb (λhc=>?_) (λhc=>?_)
      all_goals
        first
        | (refine Za (ix _) (Za rfl (Za (ldr (efLdN x)) ?_))
           refine Yd (c76 _ (Z3 hfx)) rfl g76_ok.plain (nmRo _) ?_;refine Za (Zk ..) (Za (Zaa ..) ?_);rw[wrapI (n:=min (n + 1) 1073741824 + nmW x.n) (by omega) (by omega)])
        |skip
      · have hm2:(if cntOp x.op then min (min (n+1) 1073741824+nmW x.n) 1073741824 else min (n+1) 1073741824)=min (min (n+1) 1073741824+nmW x.n) 1073741824:=by rw[if_pos hc]
        obtain⟨m,hm⟩:∃m,m=min (min (n+1) 1073741824+nmW x.n) 1073741824:=⟨_,rfl⟩;rw[←hm]
        replace hm2:=hm2.trans hm.symm
        have m1:0≤m∧m≤1073741824:=by omega
        refine Za (ix _) (Za rfl (Za (ldr (efLd0 x)) (Za rfl ?_)));refine Qb (λh8=>?_) (λh8=>?_)
        · have h8:x.op=8:=by simpa using h8
          refine Xj (ix _) (Zs _) (Xg rfl (Xj (ldr (efLdC x)) (Zs _) ?_));refine Zh (c178 _ (YY hfx)) rfl g178_ok.plain (cnRo _) ?_;refine Xg (Zk ..) (Xj (ix _) (Zs _) (Xg rfl (Xj (ldr (Zp x)) (Zs _) ?_)));have hs2:=Z6 x;refine Zh (c142' k _ (by omega) (ZK hfx)) rfl g142_ok.plain rfl ?_;refine Xg (Zk ..) (Xj (ix _) (Zs _) (Xg rfl (Xj (ldr (Yp x)) (Zs _) ?_)));refine Zh (c142' k _ (by omega) (QJ hfx)) rfl g142_ok.plain rfl ?_;refine Xg (Zk ..) (Xg (Zaa ..) (Xx (by kernel_rfl) (Za (Zk ..) ?_)));rw[Yg (n:=i) (by omega),wrapI (n:=m+cnW x.c) (by omega) (by omega),wrapI (n:=m+cnW x.c+efsW 0 x.thn) (by omega) (by omega),wrapI (n:=m+cnW x.c+efsW 0 x.thn+efsW 0 x.els) (by omega) (by omega)];exact fin _ (by omega) (by omega) (by rw[Xa0,if_pos h8,hm2])
        · have h8:x.op≠8:=by simpa using h8
          refine Za (Zk ..) ?_;rw[Yg (n:=i) (by omega)];exact fin _ m1.1 m1.2 (by rw[Xa0,if_neg h8,hm2])
      · have hm2:(if cntOp x.op then min (min (n+1) 1073741824+nmW x.n) 1073741824 else min (n+1) 1073741824)=min (n+1) 1073741824:=by rw[if_neg (by simpa using hc)]
        obtain⟨m,hm⟩:∃m,m=min (n+1) 1073741824:=⟨_,rfl⟩;rw[←hm]
        replace hm2:=hm2.trans hm.symm
        have m1:0≤m∧m≤1073741824:=by omega
        refine Za (ix _) (Za rfl (Za (ldr (efLd0 x)) (Za rfl ?_)));refine Qb (λh8=>?_) (λh8=>?_)
        · have h8:x.op=8:=by simpa using h8
          refine Xj (ix _) (Zs _) (Xg rfl (Xj (ldr (efLdC x)) (Zs _) ?_));refine Zh (c178 _ (YY hfx)) rfl g178_ok.plain (cnRo _) ?_;refine Xg (Zk ..) (Xj (ix _) (Zs _) (Xg rfl (Xj (ldr (Zp x)) (Zs _) ?_)));have hs2:=Z6 x;refine Zh (c142' k _ (by omega) (ZK hfx)) rfl g142_ok.plain rfl ?_;refine Xg (Zk ..) (Xj (ix _) (Zs _) (Xg rfl (Xj (ldr (Yp x)) (Zs _) ?_)));refine Zh (c142' k _ (by omega) (QJ hfx)) rfl g142_ok.plain rfl ?_;refine Xg (Zk ..) (Xg (Zaa ..) (Xx (by kernel_rfl) (Za (Zk ..) ?_)));rw[Yg (n:=i) (by omega),wrapI (n:=m+cnW x.c) (by omega) (by omega),wrapI (n:=m+cnW x.c+efsW 0 x.thn) (by omega) (by omega),wrapI (n:=m+cnW x.c+efsW 0 x.thn+efsW 0 x.els) (by omega) (by omega)];exact fin _ (by omega) (by omega) (by rw[Xa0,if_pos h8,hm2])
        · have h8:x.op≠8:=by simpa using h8
          refine Za (Zk ..) ?_;rw[Yg (n:=i) (by omega)];exact fin _ m1.1 m1.2 (by rw[Xa0,if_neg h8,hm2])
    · have h:i=l.length:=by simp at h; omega
      subst h;rw[List.drop_length] at hu;rw[hu]; rfl
theorem c142(l:List Ef)(hf:lsFit l=true):PC 142 [efV l] (iv (efsW 0 l)):=c142' _ l (Nat.le_refl _) hf
end Go.Ah.Tz
end
section
namespace Go.Ah.Tz
open Go.Proofs.Tryz (prog)
def noNum(x:Nm):Bool:=decide (x.op=0)&&(decide (x.n=0)&&(decide (x.who=0)&&decide (x.kids.length=0)))
def noCond(x:Cn):Bool:=decide (x.op=0)&&(decide (x.who=0)&&(x.name==[]&&(decide (x.nums.length=0)&&decide (x.kids.length=0))))
def findC:List Cd→Tx→Bool→Bool
 |[],_,_=>false
 |c::l,t,u=>if c.name==t then c.unit || !u else findC l t u
def chk(cs:List Cd)(t:Bool):List AVal:=[cdV cs,.bool t]
attribute [local irreducible] Ans.rd Ans.pu Ans.wr Ans.dr Ans.gr Ans.gw Ans.gl Ans.gd Ans.opt joinK W
theorem Ql{f:(List AVal→List ABlk→Prop)→Prop}{k:List AVal→List ABlk→Prop}(h:∀k',k'=k→f k'):joinK f k:=XH (h k rfl)
theorem c110(c:Cd)(h1:lsFit c.played=true)(h2:lsFit c.dead=true)(h3:lsFit c.dawn=true):PC 110 [.agg (cdC c)] (iv (min (efsW 0 c.played+efsW 0 c.dead+efsW 0 c.dawn) 1073741824)):=by
 refine Qc hP g110_ok rfl rfl ?_;unfold g110;refine Xf rfl rfl (Xg rfl (Xj rfl rfl ?_));refine Zh (c142 _ h1) rfl g142_ok.plain rfl ?_;refine Xg rfl (Xj rfl rfl ?_);refine Zh (c142 _ h2) rfl g142_ok.plain rfl ?_;refine Xg (Zk ..) (Xg rfl (Xj rfl rfl ?_));refine Zh (c142 _ h3) rfl g142_ok.plain rfl ?_;refine Xg (Zk ..) (Xg (Zaa ..) (Xx (by kernel_rfl) ?_));have b1:=Zaz c.played;have b2:=Zaz c.dead;have b3:=Zaz c.dawn;rw[wrapI (n:=efsW 0 c.played+efsW 0 c.dead) (by omega) (by omega),wrapI (by omega) (by omega)]
theorem c225(x:Nm):PC 225 [.agg (nmC x)] (.bool (noNum x)):=by
 rw[Qx];refine Qc hP g225_ok rfl rfl ?_;unfold g225;refine Xf rfl rfl ?_;refine Za rfl (Za rfl (Za (Yf ..) ?_));rcases YBE (decide (x.op=0)) with h1|h1
 rotate_left
 ·rw[h1];repeat first|refine Yb rfl ?_|refine Zc rfl ?_|refine Zd rfl ?_|refine Xd rfl ?_|refine Za rfl ?_
  simp at h1; simp[noNum,h1]
 rw[h1];repeat first|refine Xa ?_|refine Zb ?_|refine Za (Yf ..) ?_|refine Za (Zf ..) ?_|refine Za rfl ?_
 rcases YBE (decide (x.n=0)) with h2|h2
 rotate_left
 ·rw[h2];repeat first|refine Yb rfl ?_|refine Zc rfl ?_|refine Zd rfl ?_|refine Xd rfl ?_|refine Za rfl ?_
  simp at h2; simp[noNum,h2]
 rw[h2];repeat first|refine Xa ?_|refine Zb ?_|refine Za (Yf ..) ?_|refine Za (Zf ..) ?_|refine Za rfl ?_
 rcases YBE (decide (x.who=0)) with h3|h3
 rotate_left
 ·rw[h3];repeat first|refine Yb rfl ?_|refine Zc rfl ?_|refine Zd rfl ?_|refine Xd rfl ?_|refine Za rfl ?_
  simp at h3; simp[noNum,h3]
 rw[h3];repeat first|refine Xa ?_|refine Zb ?_|refine Za (Yf ..) ?_|refine Za (Zf ..) ?_|refine Za rfl ?_
 simp at h1 h2 h3;simp[noNum,h1,h2,h3]
theorem c227(x:Cn):PC 227 [.agg (cnC x)] (.bool (noCond x)):=by
 rw[ZM];refine Qc hP g227_ok rfl rfl ?_;unfold g227;refine Xf rfl rfl ?_;refine Za rfl (Za rfl (Za (Yf ..) ?_));rcases YBE (decide (x.op=0)) with h1|h1
 rotate_left
 ·rw[h1];repeat first|refine Yb rfl ?_|refine Zc rfl ?_|refine Zd rfl ?_|refine Xd rfl ?_|refine Za rfl ?_
  simp at h1; simp[noCond,h1]
 rw[h1];repeat first|refine Xa ?_|refine Zb ?_|refine Za (Yf ..) ?_|refine Za (Zf ..) ?_|refine Za rfl ?_
 rcases YBE (decide (x.who=0)) with h2|h2
 rotate_left
 ·rw[h2];repeat first|refine Yb rfl ?_|refine Zc rfl ?_|refine Zd rfl ?_|refine Xd rfl ?_|refine Za rfl ?_
  simp at h2; simp[noCond,h2]
 rw[h2];repeat first|refine Xa ?_|refine Zb ?_|refine Za (Yf ..) ?_|refine Za (Zf ..) ?_|refine Za rfl ?_
 rcases YBE (x.name==[]) with h3|h3
 rotate_left
 ·rw[h3];repeat first|refine Yb rfl ?_|refine Zc rfl ?_|refine Zd rfl ?_|refine Xd rfl ?_|refine Za rfl ?_
  simp at h3; simp[noCond,h3]
 rw[h3];repeat first|refine Xa ?_|refine Zb ?_|refine Za (Yf ..) ?_|refine Za (Zf ..) ?_|refine Za rfl ?_
 rcases YBE (decide (((x.nums.map nmC).length:Int)=0)) with h4|h4
 rotate_left
 ·rw[h4];repeat first|refine Yb rfl ?_|refine Zc rfl ?_|refine Zd rfl ?_|refine Xd rfl ?_|refine Za rfl ?_
  simp at h4; simp[noCond,h4]
 rw[h4];repeat first|refine Xa ?_|refine Zb ?_|refine Za (Yf ..) ?_|refine Za (Zf ..) ?_|refine Za rfl ?_
 simp at h1 h2 h3 h4;simp[noCond,h1,h2,h3,h4]
theorem c187(n:Int):PC 187 [iv n] (.bool (decide (0≤n)&&decide (n≤999))):=by
 refine Qc hP g187_ok rfl rfl ?_;unfold g187;refine Za rfl ?_;rcases YBE (decide (n ≥ 0)) with h|h
 ·rw[h];repeat first|refine Za rfl ?_|refine Xf rfl rfl ?_|refine Xa ?_|refine Zb ?_
  have h':0≤n:=by simpa using h
  simp[h']
 ·rw[h];repeat first|refine Yb rfl ?_|refine Zc rfl ?_|refine Zd rfl ?_|refine Xd rfl ?_|refine Za rfl ?_|refine Xf rfl rfl ?_
  have h':¬0≤n:=by simpa using h
  simp[h']
theorem cdLd0(x:Cd):partA false 0 1 (cdC x)=some (.str x.name):=rfl
theorem cdLd1(x:Cd):partA false 1 1 (cdC x)=some (.bool x.unit):=rfl
theorem c228(cs:List Cd)(hc:cs.length≤big)(t:Bool)(nm:Tx)(u:Bool):PC 228 [.rptr (chk cs t) 0,.str nm,.bool u] (.bool (findC cs nm u)):=by
 refine Qc hP g228_ok rfl rfl ?_;unfold g228;rw[bigE] at hc;refine Qk (ι:=Nat) (λi vs σ=>vs=[iv i]∧i≤cs.length∧findC cs nm u=findC (cs.drop i) nm u) (λi=>cs.length-i) 0 ⟨rfl,by omega,by simp⟩ ?_;rintro i vs σ again ⟨rfl,hi,hu⟩ hag;repeat first|refine Za (ldr (row:=chk cs t) rfl) ?_|refine Za rfl ?_
 refine Qb (λh=>?_) (λh=>?_)
 ·have h:i<cs.length:=by simpa using h
  have hdr:cs.drop i=cs[i]::cs.drop (i+1):=by rw[YLD h]
  rw[hdr,findC] at hu;have ix:=λ(s:List ABlk)=>Yo s cdC false false 12 cs .i64 i h;generalize cs[i]=c at hu ix;refine Za rfl (Za rfl (Za (ldr (row:=chk cs t) rfl) (Za (ix _) (Za rfl (Za (ldr (cdLd0 c)) (Za (Zf ..) ?_))))));refine Qb (λh=>?_) (λh=>?_)
  ·rw[if_pos h] at hu;refine Za rfl (Za rfl (Za (ldr (row:=chk cs t) rfl) (Za (ix _) (Za rfl (Za (ldr (cdLd1 c)) ?_)))));rw[hu];cases c.unit<;>repeat (first|refine Xa ?_|refine Yb rfl ?_|refine Zd rfl ?_|refine Za rfl ?_)
   ·simp
   ·simp
  ·rw[if_neg (by simpa using h)] at hu;refine Za (Zk ..) ?_;rw[Yg (n:=i) (by omega)];exact hag (i+1) _ _ (by omega) ⟨rfl,by omega,hu⟩
 ·have h:i=cs.length:=by simp at h; omega
  subst h;rw[List.drop_length] at hu;rw[hu]; rfl
end Go.Ah.Tz
end
section
namespace Go.Ah.Tz
open Go.Proofs.Tryz (prog)
def nmK(op:Int):Nat:=if 8≤op∧op≤12 then 2 else 0
def nmTop(t:Bool)(op n who:Int)(len:Nat):Bool:=
 (decide (0≤op)&&(decide (op≤12)&&decide (len=nmK op)))
def nmEnd(t:Bool)(op n who:Int):Bool:=
 if op=0 then decide (0≤n)&&(decide (n≤999)&&decide (who=0)) else decide (n=0)&&(if 1≤op∧op≤4 then sdOp who else decide (who=0)&&(decide (op≠7)||t))
mutual
def nmOk (t:Bool):Nm→Bool
 |.mk op n who kids=>nmTop t op n who kids.length&&(nmsOk t kids&&nmEnd t op n who)
def nmsOk (t:Bool):List Nm→Bool
 |[]=>true
 |x::l=>nmOk t x&&nmsOk t l
end
theorem Ybf(t:Bool)(x:Nm):nmOk t x=(nmTop t x.op x.n x.who x.kids.length&&(nmsOk t x.kids&&nmEnd t x.op x.n x.who)):=by cases x; rfl
def cnK3(op:Int):Nat:=if 0≤op∧op≤2 then 2 else 0
def cnK4(op:Int):Nat:=if op=4∨op=5 then 2 else if op=3 then 1 else 0
def cnTop(op:Int)(l3 l4:Nat):Bool:=decide (0≤op)&&(decide (op≤6)&&(decide (l3=cnK3 op)&&decide (l4=cnK4 op)))
def cnEnd(cs:List Cd)(op who:Int)(name:Tx):Bool:=if op=6 then sdOp who&&findC cs name false else decide (who=0)&&name==[]
mutual
def cnOk (cs:List Cd) (t:Bool):Cn→Bool
 |.mk op who name nums kids=>cnTop op nums.length kids.length&&(nmsOk t nums&&(cnsOk cs t kids&&cnEnd cs op who name))
def cnsOk (cs:List Cd) (t:Bool):List Cn→Bool
 |[]=>true
 |x::l=>cnOk cs t x&&cnsOk cs t l
end
theorem QbI(cs:List Cd)(t:Bool)(x:Cn):cnOk cs t x=(cnTop x.op x.nums.length x.kids.length&&(nmsOk t x.nums&&(cnsOk cs t x.kids&&cnEnd cs x.op x.who x.name))):=by cases x; rfl
attribute [local irreducible] Ans.rd Ans.pu Ans.wr Ans.dr Ans.gr Ans.gw Ans.gl Ans.gd Ans.opt joinK W
theorem c77u(u:AVal)(t:Bool):∀(k:Nat) (x:Nm),SizeOf.sizeOf x≤k→nmFit x=true→PC 77 [.rptr ([u,.bool t]) 0,.agg (nmC x)] (.bool (nmOk t x))
 |0,x,h,_=>by cases x; simp at h
 |k+1,x,hk,hf=>by
  rw[Qx];refine Qc hP g77_ok rfl rfl ?_;unfold g77;refine Xf rfl rfl ?_;rw[Ybf];have hlen:=ZX hf;rw[bigE] at hlen;generalize hB:([]++[ABlk.box [iv8 x.op,iv x.n,iv8 x.who,.rsl false false 4 (x.kids.map nmC)]]:List ABlk)=base;have hB0:hget base 0=.box [iv8 x.op,iv x.n,iv8 x.who,.rsl false false 4 (x.kids.map nmC)]:=by rw[←hB]; rfl
  clear hB;repeat first|refine Za (ld hB0 rfl) ?_|refine Za rfl ?_
  have pick:∀K:AVal→Prop,K (.bool (decide (8≤x.op)&&decide (x.op≤12))) →
    VV.gr (.bool (decide (x.op ≥ 8))) true (λk=>VV.rd (Ya 0 [.bptr 0 0] base) k) λt11_4=>
    VV.gr (.bool (decide (x.op ≥ 8))) true (λk=>VV.rd (Xc false 1 [t11_4] base) k) λt12_5=>
    VV.gr (.bool (decide (x.op ≥ 8))) true (λk=>VV.rd (Yi .leq false [t12_5,(.int .i8 12)] base) k) λt13_6=>
    VV.rd (Zn [.bool (decide (x.op ≥ 8)),t13_6,(.bool false)] base) K:=by
   intro K hK;rcases YBE (decide (x.op ≥ 8)) with h|h
   rotate_left
   ·rw[h];repeat first|refine Yb rfl ?_|refine Zc rfl ?_|refine Zd rfl ?_|refine Xd rfl ?_|refine Za rfl ?_
    have h:¬8≤x.op:=by simpa using h
    simpa[h] using hK
   rw[h];repeat first|refine Xa ?_|refine Zb ?_|refine Za (ld hB0 rfl) ?_|refine Za (Yf ..) ?_|refine Za (Zf ..) ?_|refine Za rfl ?_
   have h:8≤x.op:=by simpa using h
   simpa[h] using hK
  refine pick _ ?_;clear pick;refine Ql λkj hkj=>?_;have kk:kj [iv (nmK x.op)] base:=by
   rw[hkj]; clear hkj kj;repeat first|refine Za (ld hB0 rfl) ?_|refine Za rfl ?_
   have bad1:¬(0≤x.op∧x.op≤12∧x.kids.length=nmK x.op)→AVal.bool false=AVal.bool (nmTop t x.op x.n x.who x.kids.length&&(nmsOk t x.kids&&nmEnd t x.op x.n x.who)):=by
    intro hn;have:nmTop t x.op x.n x.who x.kids.length=false:=by
     rw[Bool.eq_false_iff]; intro hh; simp[nmTop] at hh; exact hn hh
    rw[this]; rfl
   rcases YBE (decide (x.op<0)) with h1|h1
   ·rw[h1];repeat first|refine Yb rfl ?_|refine Zc rfl ?_|refine Zd rfl ?_|refine Xd rfl ?_|refine Za rfl ?_
    refine Ze (bad1 ?_);simp at h1; omega
   rw[h1];repeat first|refine Xa ?_|refine Zb ?_|refine Za (ld hB0 rfl) ?_|refine Za (Yf ..) ?_|refine Za (Zf ..) ?_|refine Za rfl ?_
   rcases YBE (decide (x.op>12)) with h2|h2
   ·rw[h2];repeat first|refine Yb rfl ?_|refine Zc rfl ?_|refine Zd rfl ?_|refine Xd rfl ?_|refine Za rfl ?_
    refine Ze (bad1 ?_);simp at h2; omega
   rw[h2];repeat first|refine Xa ?_|refine Zb ?_|refine Za (ld hB0 rfl) ?_|refine Za (Yf ..) ?_|refine Za (Zf ..) ?_|refine Za rfl ?_
   refine Qb (λh3=>bad1 ?_) (λh3=>?_)
   ·simp at h3; omega
   simp at h1 h2 h3;have ht:nmTop t x.op x.n x.who x.kids.length=true:=by simp[nmTop]; omega
   rw[ht,Bool.true_and];refine Qk (ι:=Nat) (λi vs σ=>vs=[iv i]∧σ=base∧i≤x.kids.length∧nmsOk t x.kids=nmsOk t (x.kids.drop i)) (λi=>x.kids.length-i) 0 ⟨rfl,rfl,by omega,by simp⟩ ?_;rintro i vs σ again ⟨rfl,rfl,hi,hu⟩ hag;repeat first|refine Za (ld hB0 rfl) ?_|refine Za rfl ?_
   refine Qb (λh=>?_) (λh=>?_)
   ·have h:i<x.kids.length:=by simpa using h
    have hdr:x.kids.drop i=x.kids[i]::x.kids.drop (i+1):=by rw[YLD h]
    rw[hdr,nmsOk] at hu;have hm:x.kids[i]∈x.kids:=List.getElem_mem h;refine Za rfl (Za (ld hB0 rfl) (Za (Yo _ nmC _ _ _ x.kids _ i h) (Za (ldr (nmLd _)) ?_)));refine Yd (c77u u t k _ (by have:=ZV hm; omega) (YH hf hm)) rfl g77_ok.plain (by rw[Qx]; rfl) ?_;refine Za rfl ?_;refine Qb (λh4=>?_) (λh4=>?_)
    ·have h4:nmOk t x.kids[i]=false:=by simpa using h4
     rw[hu,h4]; rfl
    ·have h4:nmOk t x.kids[i]=true:=by simpa using h4
     rw[h4,Bool.true_and] at hu;refine Za (Zk ..) ?_;rw[Yg (n:=i) (by omega)];exact hag (i+1) _ _ (by omega) ⟨rfl,rfl,by omega,hu⟩
   have h:i=x.kids.length:=by simp at h; omega
   subst h;rw[List.drop_length,nmsOk] at hu;rw[hu,Bool.true_and];clear hag hu hi bad1 ht;refine Za rfl (Za (ld hB0 rfl) (Za (Yf ..) ?_));refine Qb (λh5=>?_) (λh5=>?_)
   ·have h5:x.op=0:=by simpa using h5
    repeat first|refine Za (ld hB0 rfl) ?_|refine Za rfl ?_
    rcases YBE (decide (x.n ≥ 0)) with h6|h6
    rotate_left
    ·rw[h6];repeat first|refine Yb rfl ?_|refine Zc rfl ?_|refine Zd rfl ?_|refine Xd rfl ?_|refine Za rfl ?_
     have h6:¬0≤x.n:=by simpa using h6
     simp[nmEnd,h5,h6]
    rw[h6];repeat first|refine Xa ?_|refine Zb ?_|refine Za (ld hB0 rfl) ?_|refine Za (Yf ..) ?_|refine Za (Zf ..) ?_|refine Za rfl ?_
    rcases YBE (decide (x.n≤999)) with h7|h7
    rotate_left
    ·rw[h7];repeat first|refine Yb rfl ?_|refine Zc rfl ?_|refine Zd rfl ?_|refine Xd rfl ?_|refine Za rfl ?_
     have h7:¬x.n≤999:=by simpa using h7
     simp[nmEnd,h5,h7]
    rw[h7];repeat first|refine Xa ?_|refine Zb ?_|refine Za (ld hB0 rfl) ?_|refine Za (Yf ..) ?_|refine Za (Zf ..) ?_|refine Za rfl ?_
    have h6:0≤x.n:=by simpa using h6
    simp at h7;simp[nmEnd,h5,h6,h7]
   have h5:x.op≠0:=by simpa using h5
   repeat first|refine Za (ld hB0 rfl) ?_|refine Za rfl ?_
   refine Qb (λh6=>?_) (λh6=>?_)
   ·have h6:x.n≠0:=by simpa using h6
    simp[nmEnd,h5,h6]
   have h6:x.n=0:=by simpa using h6
   repeat first|refine Za (ld hB0 rfl) ?_|refine Za rfl ?_
   have op1:1≤x.op:=by omega
   have op1d:decide (x.op ≥ 1)=true:=by simpa using op1
   rw[op1d];repeat first|refine Xa ?_|refine Zb ?_|refine Za (ld hB0 rfl) ?_|refine Za (Yf ..) ?_|refine Za (Zf ..) ?_|refine Za rfl ?_
   refine Qb (λh7=>?_) (λh7=>?_)
   ·have h7:x.op≤4:=by simpa using h7
    refine Za rfl (Za (ld hB0 rfl) ?_);refine Yd (c121 _) rfl g121_ok.plain rfl ?_;simp[nmEnd,h5,h6,h7,op1]
   have h7:¬x.op≤4:=by simpa using h7
   refine Za rfl (Za (ld hB0 rfl) (Za (Yf ..) ?_));rcases YBE (decide (x.who=0)) with h8|h8
   rotate_left
   ·rw[h8];repeat first|refine Yb rfl ?_|refine Zc rfl ?_|refine Zd rfl ?_|refine Xd rfl ?_|refine Za rfl ?_
    have h8:¬x.who=0:=by simpa using h8
    simp[nmEnd,h5,h6,h7,h8]
   rw[h8];repeat first|refine Xa ?_|refine Zb ?_|refine Za (ld hB0 rfl) ?_|refine Za (Yf ..) ?_|refine Za (Zf ..) ?_|refine Za rfl ?_
   have h8:x.who=0:=by simpa using h8
   rcases YBE (x.op != 7) with h9|h9
   ·rw[h9];repeat first|refine Yb rfl ?_|refine Zc rfl ?_|refine Zd rfl ?_|refine Xd rfl ?_|refine Za rfl ?_
    have h9:x.op≠7:=by simpa using h9
    simp[nmEnd,h5,h6,h7,h8,h9]
   rw[h9];repeat first|refine Xa ?_|refine Za (ldr (row:=[u,.bool t]) rfl) ?_|refine Za rfl ?_
   have h9:x.op=7:=by simpa using h9
   simp[nmEnd,h6,h8,h9]
  refine Qb (λh=>?_) (λh=>?_)
  ·have e:nmK x.op=2:=by simp at h; simp[nmK,h]
   rw[e] at kk; exact kk
  ·have e:nmK x.op=0:=by simp at h; simp[nmK]; omega
   rw[e] at kk; exact kk
theorem c77(cs:List Cd)(t:Bool)(x:Nm)(hf:nmFit x=true):PC 77 [.rptr (chk cs t) 0,.agg (nmC x)] (.bool (nmOk t x)):=c77u (cdV cs) t _ x (Nat.le_refl _) hf
end Go.Ah.Tz
end
section
namespace Go.Ah.Tz
open Go.Proofs.Tryz (prog)
attribute [local irreducible] Ans.rd Ans.pu Ans.wr Ans.dr Ans.gr Ans.gw Ans.gl Ans.gd Ans.opt joinK W
theorem cnRo2(cs:List Cd)(t:Bool)(x:Cn):roL [.rptr (chk cs t) 0,.agg (cnC x)]=true:=by rw[ZM]; rfl
theorem nmRo2(cs:List Cd)(t:Bool)(x:Nm):roL [.rptr (chk cs t) 0,.agg (nmC x)]=true:=by rw[Qx]; rfl
theorem c226'(cs:List Cd)(hcs:cs.length≤big)(t:Bool):∀(k:Nat) (x:Cn),SizeOf.sizeOf x≤k→cnFit x=true→PC 226 [.rptr (chk cs t) 0,.agg (cnC x)] (.bool (cnOk cs t x))
 |0,x,h,_=>by cases x; simp at h
 |k+1,x,hk,hf=>by
  rw[ZM];refine Qc hP g226_ok rfl rfl ?_;unfold g226;refine Xf rfl rfl ?_;rw[QbI];have hl1:=QN hf;have hl2:=XN hf;rw[bigE] at hl1 hl2;generalize hB:([]++[ABlk.box [iv8 x.op,iv8 x.who,.str x.name,.rsl false false 4 (x.nums.map nmC),.rsl false false 5 (x.kids.map cnC)]]:List ABlk)=base;have hB0:hget base 0=.box [iv8 x.op,iv8 x.who,.str x.name,.rsl false false 4 (x.nums.map nmC),.rsl false false 5 (x.kids.map cnC)]:=by rw[←hB]; rfl
  clear hB;repeat first|refine Za (ld hB0 rfl) ?_|refine Za rfl ?_
  have pick:∀K:AVal→Prop,K (.bool (decide (0≤x.op)&&decide (x.op≤2))) →
    VV.gr (.bool (decide (x.op ≥ 0))) true (λk=>VV.rd (Ya 0 [.bptr 0 0] base) k) λt13_4=>
    VV.gr (.bool (decide (x.op ≥ 0))) true (λk=>VV.rd (Xc false 1 [t13_4] base) k) λt14_5=>
    VV.gr (.bool (decide (x.op ≥ 0))) true (λk=>VV.rd (Yi .leq false [t14_5,(.int .i8 2)] base) k) λt15_6=>
    VV.rd (Zn [.bool (decide (x.op ≥ 0)),t15_6,(.bool false)] base) K:=by
   intro K hK;rcases YBE (decide (x.op ≥ 0)) with h|h
   rotate_left
   ·rw[h];repeat first|refine Yb rfl ?_|refine Zc rfl ?_|refine Zd rfl ?_|refine Xd rfl ?_|refine Za rfl ?_
    have h:¬0≤x.op:=by simpa using h
    simpa[h] using hK
   rw[h];repeat first|refine Xa ?_|refine Zb ?_|refine Za (ld hB0 rfl) ?_|refine Za (Yf ..) ?_|refine Za (Zf ..) ?_|refine Za rfl ?_
   have h:0≤x.op:=by simpa using h
   simpa[h] using hK
  refine pick _ ?_;clear pick;refine Ql λkj hkj=>?_;have kk:kj [iv (cnK3 x.op)] base:=by
   rw[hkj]; clear hkj kj;repeat first|refine Za (ld hB0 rfl) ?_|refine Za (Yf ..) ?_|refine Za (Zf ..) ?_|refine Za rfl ?_
   refine Ql λkj hkj=>?_;have kk:kj [iv (if x.op=3 then 1 else 0:Nat)] base:=by
    rw[hkj]; clear hkj kj;repeat first|refine Za (ld hB0 rfl) ?_|refine Za (Yf ..) ?_|refine Za (Zf ..) ?_|refine Za rfl ?_
    have pick:∀K:AVal→Prop,K (.bool (decide (x.op=4∨x.op=5))) →
      VV.gr (.bool (decide (x.op=4))) false (λk=>VV.rd (Ya 0 [.bptr 0 0] base) k) λt24_18=>
      VV.gr (.bool (decide (x.op=4))) false (λk=>VV.rd (Xc false 1 [t24_18] base) k) λt25_19=>
      VV.gr (.bool (decide (x.op=4))) false (λk=>VV.rd (Yi .eql false [t25_19,(.int .i8 5)] base) k) λt26_20=>
      VV.rd (Zn [.bool (decide (x.op=4)),(.bool true),t26_20] base) K:=by
     intro K hK;rcases YBE (decide (x.op=4)) with h|h
     ·rw[h];repeat first|refine Yb rfl ?_|refine Zc rfl ?_|refine Zd rfl ?_|refine Xd rfl ?_|refine Za rfl ?_
      have h:x.op=4:=by simpa using h
      simpa[h] using hK
     rw[h];repeat first|refine Xa ?_|refine Zb ?_|refine Za (ld hB0 rfl) ?_|refine Za (Yf ..) ?_|refine Za (Zf ..) ?_|refine Za rfl ?_
     have h:x.op≠4:=by simpa using h
     simpa[h] using hK
    refine pick _ ?_;clear pick;refine Ql λkj hkj=>?_;have kk:kj [iv (cnK4 x.op)] base:=by
     rw[hkj]; clear hkj kj;repeat first|refine Za (ld hB0 rfl) ?_|refine Za (Yf ..) ?_|refine Za (Zf ..) ?_|refine Za rfl ?_
     have bad1:¬(0≤x.op∧x.op≤6∧x.nums.length=cnK3 x.op∧x.kids.length=cnK4 x.op)→AVal.bool false=AVal.bool (cnTop x.op x.nums.length x.kids.length&&(nmsOk t x.nums&&(cnsOk cs t x.kids&&cnEnd cs x.op x.who x.name))):=by
      intro hn;have:cnTop x.op x.nums.length x.kids.length=false:=by
       rw[Bool.eq_false_iff]; intro hh; simp[cnTop] at hh; exact hn hh
      rw[this]; rfl
     rcases YBE (decide (x.op<0)) with h1|h1
     ·rw[h1];repeat first|refine Yb rfl ?_|refine Zc rfl ?_|refine Zd rfl ?_|refine Xd rfl ?_|refine Za rfl ?_
      refine Ze (bad1 ?_);simp at h1; omega
     rw[h1];repeat first|refine Xa ?_|refine Zb ?_|refine Za (ld hB0 rfl) ?_|refine Za (Yf ..) ?_|refine Za (Zf ..) ?_|refine Za rfl ?_
     rcases YBE (decide (x.op>6)) with h2|h2
     ·rw[h2];repeat first|refine Yb rfl ?_|refine Zc rfl ?_|refine Zd rfl ?_|refine Xd rfl ?_|refine Za rfl ?_
      refine Ze (bad1 ?_);simp at h2; omega
     rw[h2];repeat first|refine Xa ?_|refine Zb ?_|refine Za (ld hB0 rfl) ?_|refine Za (Yf ..) ?_|refine Za (Zf ..) ?_|refine Za rfl ?_
     rcases YBE (((x.nums.map nmC).length:Int) != (cnK3 x.op:Int)) with h3|h3
     ·rw[h3];repeat first|refine Yb rfl ?_|refine Zc rfl ?_|refine Zd rfl ?_|refine Xd rfl ?_|refine Za rfl ?_
      refine Ze (bad1 ?_);simp at h3; omega
     rw[h3];repeat first|refine Xa ?_|refine Zb ?_|refine Za (ld hB0 rfl) ?_|refine Za (Yf ..) ?_|refine Za (Zf ..) ?_|refine Za rfl ?_
     refine Qb (λh4=>bad1 ?_) (λh4=>?_)
     ·simp at h4; omega
     simp at h1 h2 h3 h4;have ht:cnTop x.op x.nums.length x.kids.length=true:=by simp[cnTop]; omega
     rw[ht,Bool.true_and];refine Qk (ι:=Nat) (λi vs σ=>vs=[iv i]∧σ=base∧i≤x.nums.length∧nmsOk t x.nums=nmsOk t (x.nums.drop i)) (λi=>x.nums.length-i) 0 ⟨rfl,rfl,by omega,by simp⟩ ?_;rintro i vs σ again ⟨rfl,rfl,hi,hu⟩ hag;repeat first|refine Za (ld hB0 rfl) ?_|refine Za rfl ?_
     refine Qb (λh=>?_) (λh=>?_)
     ·have h:i<x.nums.length:=by simpa using h
      have hdr:x.nums.drop i=x.nums[i]::x.nums.drop (i+1):=by rw[YLD h]
      rw[hdr,nmsOk] at hu;have hm:x.nums[i]∈x.nums:=List.getElem_mem h;refine Za rfl (Za (ld hB0 rfl) (Za (Yo _ nmC _ _ _ x.nums _ i h) (Za (ldr (nmLd _)) ?_)));refine Yd (c77 cs t _ (YW hf hm)) rfl g77_ok.plain (nmRo2 ..) ?_;refine Za rfl ?_;refine Qb (λh4=>?_) (λh4=>?_)
      ·have h4:nmOk t x.nums[i]=false:=by simpa using h4
       rw[hu,h4]; rfl
      ·have h4:nmOk t x.nums[i]=true:=by simpa using h4
       rw[h4,Bool.true_and] at hu;refine Za (Zk ..) ?_;rw[Yg (n:=i) (by omega)];exact hag (i+1) _ _ (by omega) ⟨rfl,rfl,by omega,hu⟩
     have h:i=x.nums.length:=by simp at h; omega
     subst h;rw[List.drop_length,nmsOk] at hu;rw[hu,Bool.true_and];clear hag hu hi bad1 ht;refine Qk (ι:=Nat) (λi vs s=>vs=[iv i]∧s=σ∧i≤x.kids.length∧cnsOk cs t x.kids=cnsOk cs t (x.kids.drop i)) (λi=>x.kids.length-i) 0 ⟨rfl,rfl,by omega,by simp⟩ ?_;rintro i vs s again ⟨rfl,rfl,hi,hu⟩ hag;repeat first|refine Za (ld hB0 rfl) ?_|refine Za rfl ?_
     refine Qb (λh=>?_) (λh=>?_)
     ·have h:i<x.kids.length:=by simpa using h
      have hdr:x.kids.drop i=x.kids[i]::x.kids.drop (i+1):=by rw[YLD h]
      rw[hdr,cnsOk] at hu;have hm:x.kids[i]∈x.kids:=List.getElem_mem h;refine Za rfl (Za (ld hB0 rfl) (Za (Yo _ cnC _ _ _ x.kids _ i h) (Za (ldr (cnLd _)) ?_)));refine Yd (c226' cs hcs t k _ (by have:=Zak hm; omega) (ZW hf hm)) rfl g226_ok.plain (cnRo2 ..) ?_;refine Za rfl ?_;refine Qb (λh4=>?_) (λh4=>?_)
      ·have h4:cnOk cs t x.kids[i]=false:=by simpa using h4
       rw[hu,h4]; rfl
      ·have h4:cnOk cs t x.kids[i]=true:=by simpa using h4
       rw[h4,Bool.true_and] at hu;refine Za (Zk ..) ?_;rw[Yg (n:=i) (by omega)];exact hag (i+1) _ _ (by omega) ⟨rfl,rfl,by omega,hu⟩
     have h:i=x.kids.length:=by simp at h; omega
     subst h;rw[List.drop_length,cnsOk] at hu;rw[hu,Bool.true_and];clear hag hu hi;repeat first|refine Za (ld hB0 rfl) ?_|refine Za (Yf ..) ?_|refine Za (Zf ..) ?_|refine Za rfl ?_
     refine Qb (λh5=>?_) (λh5=>?_)
     ·have h5:x.op=6:=by simpa using h5
      refine Za rfl (Za (ld hB0 rfl) ?_);refine Yd (c121 _) rfl g121_ok.plain rfl ?_;rcases YBE (sdOp x.who) with h6|h6
      rotate_left
      ·rw[h6];repeat first|refine Yb rfl ?_|refine Zc rfl ?_|refine Zd rfl ?_|refine Xd rfl ?_|refine Za rfl ?_
       simp[cnEnd,h5,h6]
      rw[h6];repeat first|refine Xa ?_|refine Zb ?_|refine Za (ld hB0 rfl) ?_|refine Za (Yf ..) ?_|refine Za (Zf ..) ?_|refine Za rfl ?_
      refine Yd (c228 cs hcs t _ _) rfl g228_ok.plain rfl ?_;repeat first|refine Xa ?_|refine Zb ?_|refine Za (ld hB0 rfl) ?_|refine Za (Yf ..) ?_|refine Za (Zf ..) ?_|refine Za rfl ?_
      simp[cnEnd,h5,h6]
     have h5:x.op≠6:=by simpa using h5
     repeat first|refine Za (ld hB0 rfl) ?_|refine Za (Yf ..) ?_|refine Za (Zf ..) ?_|refine Za rfl ?_
     rcases YBE (decide (x.who=0)) with h6|h6
     rotate_left
     ·rw[h6];repeat first|refine Yb rfl ?_|refine Zc rfl ?_|refine Zd rfl ?_|refine Xd rfl ?_|refine Za rfl ?_
      have h6:x.who≠0:=by simpa using h6
      simp[cnEnd,h5,h6]
     rw[h6];repeat first|refine Xa ?_|refine Zb ?_|refine Za (ld hB0 rfl) ?_|refine Za (Yf ..) ?_|refine Za (Zf ..) ?_|refine Za rfl ?_
     have h6:x.who=0:=by simpa using h6
     simp[cnEnd,h5,h6]
    refine Qb (λh=>?_) (λh=>?_)
    ·have e:cnK4 x.op=2:=by simp at h; simp[cnK4]; omega
     rw[e] at kk; exact kk
    ·have e:cnK4 x.op=if x.op=3 then 1 else 0:=by simp at h; simp[cnK4]; omega
     rw[e] at kk; exact kk
   refine Qb (λh=>?_) (λh=>?_)
   ·rw[if_pos (by simpa using h)] at kk; exact kk
   ·rw[if_neg (by simpa using h)] at kk; exact kk
  refine Qb (λh=>?_) (λh=>?_)
  ·have e:cnK3 x.op=2:=by simp at h; simp[cnK3,h]
   rw[e] at kk; exact kk
  ·have e:cnK3 x.op=0:=by simp at h; simp[cnK3]; omega
   rw[e] at kk; exact kk
theorem c226(cs:List Cd)(hcs:cs.length≤big)(t:Bool)(x:Cn)(hf:cnFit x=true):PC 226 [.rptr (chk cs t) 0,.agg (cnC x)] (.bool (cnOk cs t x)):=c226' cs hcs t _ x (Nat.le_refl _) hf
end Go.Ah.Tz
end
section
namespace Go.Ah.Tz
open Go.Proofs.Tryz (prog)
def efMid(t:Bool)(op who:Int):Bool:=if op=0∨op=1 then sdOp who||(decide (who=2)&&t) else decide (who=0)
def efEnd(t:Bool)(op who:Int):Bool:=
 if op=2∨op=4∨op=6 then sdOp who else efMid t op who
mutual
def efOk (cs:List Cd) (t:Bool):Int→Ef→Bool
 | d,.mk op who n name c thn els=>decide (0≤op) && (decide (op≤8) && (if op=8 then
   decide (who=0)&&(noNum n&&(name==[]&&(cnOk cs t c&&((decide (thn.length≤16)&&(decide (d+1≤8)&&efsOk cs t (d+1) thn))&&(decide (els.length≤16)&&(decide (d+1≤8)&&efsOk cs t (d+1) els))))))
  else noCond c && (decide (thn.length=0) && (decide (els.length=0) && ((if cntOp op then nmOk t n else noNum n) && ((if op=7 then findC cs name true else name == []) && efEnd t op who))))))
def efsOk (cs:List Cd) (t:Bool):Int→List Ef→Bool
 |_,[]=>true
 |d,x::l=>efOk cs t d x&&efsOk cs t d l
end
def lstOk(cs:List Cd)(t:Bool)(d:Int)(l:List Ef):Bool:=decide (l.length≤16)&&(decide (d≤8)&&efsOk cs t d l)
theorem Zbe(cs:List Cd)(t:Bool)(d:Int)(x:Ef):efOk cs t d x=(decide (0≤x.op) && (decide (x.op≤8) && (if x.op=8 then
   decide (x.who=0)&&(noNum x.n&&(x.name==[]&&(cnOk cs t x.c&&(lstOk cs t (d+1) x.thn&&lstOk cs t (d+1) x.els))))
  else noCond x.c && (decide (x.thn.length=0) && (decide (x.els.length=0) && ((if cntOp x.op then nmOk t x.n else noNum x.n) && ((if x.op=7 then findC cs x.name true else x.name == []) && efEnd t x.op x.who))))))):=by cases x; rfl
attribute [local irreducible] Ans.rd Ans.pu Ans.wr Ans.dr Ans.gr Ans.gw Ans.gl Ans.gd Ans.opt joinK W
theorem cutF(F:Prop){R G:Prop}(imp:(F→R)→G)(r:F→R):G:=imp r
set_option maxHeartbeats 1000000
theorem c188'(cs:List Cd)(hcs:cs.length≤big)(t:Bool):∀(k:Nat) (l:List Ef) (d:Int),SizeOf.sizeOf l≤k→lsFit l=true→0≤d→PC 188 [.rptr (chk cs t) 0,efV l,iv d] (.bool (lstOk cs t d l))
 |0,l,_,h,_,_=>by cases l<;>simp at h
 |k+1,l,d,hk,hf,hd=>by
  refine Qc hP g188_ok rfl rfl ?_;unfold g188;have hlen:=QA hf;rw[bigE] at hlen;refine Za rfl (Za rfl ?_);rcases YBE (decide (((l.map efC).length:Int)>16)) with h1|h1
  ·rw[h1];repeat first|refine Yb rfl ?_|refine Zc rfl ?_|refine Zd rfl ?_|refine Xd rfl ?_|refine Za rfl ?_
   refine Ze ?_;have h1:¬l.length≤16:=by simp at h1; omega
   simp[lstOk,h1]
  rw[h1];repeat first|refine Xa ?_|refine Zb ?_|refine Za rfl ?_
  refine Qb (λh2=>?_) (λh2=>?_)
  ·have h2:¬d≤8:=by simp at h2; omega
   simp[lstOk,h2]
  have h1:l.length≤16:=by simp at h1; omega
  have h2:d≤8:=by simp at h2; omega
  have hl:lstOk cs t d l=efsOk cs t d l:=by simp[lstOk,h1,h2]
  rw[hl];clear hl;refine Qk (ι:=Nat) (λi vs σ=>vs=[iv i]∧i≤l.length∧efsOk cs t d l=efsOk cs t d (l.drop i)) (λi=>l.length-i) 0 ⟨rfl,by omega,by simp⟩ ?_;rintro i vs σ again ⟨rfl,hi,hu⟩ hag;refine Za rfl (Za rfl ?_);refine Qb (λh=>?_) (λh=>?_);rotate_left
  ·have h:i=l.length:=by simp at h; omega
   subst h;rw[List.drop_length,efsOk] at hu;rw[hu]
  have h:i<l.length:=by simpa using h
  have hdr:l.drop i=l[i]::l.drop (i+1):=by rw[YLD h]
  rw[hdr,efsOk] at hu;have hm:l[i]∈l:=List.getElem_mem h;have hsz:=List.sizeOf_lt_of_mem hm;have hfx:=YK hf hm;have ix:=λ(s:List ABlk)=>Yo s efC false false 14 l .i64 i h;generalize l[i]=x at hu hsz hfx ix;refine Ql λkj hkj=>?_;have kk:efOk cs t d x=true→∀s,kj [] s:=by
   intro he s;rw[hkj];refine Za (Zk ..) ?_;rw[Yg (n:=i) (by omega)];exact hag (i+1) _ _ (by omega) ⟨rfl,by omega,by rw[hu,he,Bool.true_and]⟩
  have bad:efOk cs t d x=false→AVal.bool false=AVal.bool (efsOk cs t d l):=by
   intro he; rw[hu,he]; rfl
  clear hkj hag;refine Za (ix _) (Za (ldr (efLd x)) ?_);refine Xz (row:=[iv8 x.op,iv8 x.who,iv8 x.n.op,iv x.n.n,iv8 x.n.who,.rsl false false 4 (x.n.kids.map nmC),.str x.name,iv8 x.c.op,iv8 x.c.who,.str x.c.name,.rsl false false 4 (x.c.nums.map nmC),.rsl false false 5 (x.c.kids.map cnC),.rsl false false 14 (x.thn.map efC),.rsl false false 14 (x.els.map efC)]) (row':=[iv8 x.op,iv8 x.who,iv8 x.n.op,iv x.n.n,iv8 x.n.who,.rsl false false 4 (x.n.kids.map nmC),.str x.name,iv8 x.c.op,iv8 x.c.who,.str x.c.name,.rsl false false 4 (x.c.nums.map nmC),.rsl false false 5 (x.c.kids.map cnC),.rsl false false 14 (x.thn.map efC),.rsl false false 14 (x.els.map efC)]) (by rw[YD]; rfl) rfl rfl ?_;have hB0:=Yl σ (ABlk.box [iv8 x.op,iv8 x.who,iv8 x.n.op,iv x.n.n,iv8 x.n.who,.rsl false false 4 (x.n.kids.map nmC),.str x.name,iv8 x.c.op,iv8 x.c.who,.str x.c.name,.rsl false false 4 (x.c.nums.map nmC),.rsl false false 5 (x.c.kids.map cnC),.rsl false false 14 (x.thn.map efC),.rsl false false 14 (x.els.map efC)]);generalize σ++[ABlk.box [iv8 x.op,iv8 x.who,iv8 x.n.op,iv x.n.n,iv8 x.n.who,.rsl false false 4 (x.n.kids.map nmC),.str x.name,iv8 x.c.op,iv8 x.c.who,.str x.c.name,.rsl false false 4 (x.c.nums.map nmC),.rsl false false 5 (x.c.kids.map cnC),.rsl false false 14 (x.thn.map efC),.rsl false false 14 (x.els.map efC)]]=base at hB0 ⊢;generalize σ.length=b at hB0 ⊢;have hN:Xc true 4 [.bptr b 2] base=.ok (.agg (nmC x.n)) [b] []:=ld hB0 (by rw[Qx]; rfl);have hC:Xc true 5 [.bptr b 7] base=.ok (.agg (cnC x.c)) [b] []:=ld hB0 (by rw[ZM]; rfl);rw[Zbe] at kk bad;repeat first|refine Za hN ?_|refine Za hC ?_|refine Za (ld hB0 rfl) ?_|refine Za (Yf ..) ?_|refine Za (Zf ..) ?_|refine Za rfl ?_
  rcases YBE (decide (x.op<0)) with a1|a1
  ·rw[a1];repeat first|refine Yb rfl ?_|refine Zc rfl ?_|refine Zd rfl ?_|refine Xd rfl ?_|refine Za rfl ?_
   refine Ze (bad ?_);have a1:¬0≤x.op:=by simp at a1; omega
   simp[a1]
  rw[a1];repeat first|refine Xa ?_|refine Zb ?_|refine Za (ldr (row:=chk cs t) rfl) ?_|refine Za hN ?_|refine Za hC ?_|refine Za (ld hB0 rfl) ?_|refine Za (Yf ..) ?_|refine Za (Zf ..) ?_|refine Za rfl ?_
  refine Qb (λa2=>bad ?_) (λa2=>?_)
  ·have a2:¬x.op≤8:=by simp at a2; omega
   simp[a2]
  have a1:0≤x.op:=by simpa using a1
  have a2:x.op≤8:=by simpa using a2
  simp only[a1,a2,decide_true,Bool.true_and] at kk bad;repeat first|refine Za hN ?_|refine Za hC ?_|refine Za (ld hB0 rfl) ?_|refine Za (Yf ..) ?_|refine Za (Zf ..) ?_|refine Za rfl ?_
  refine Qb (λa3=>?_) (λa3=>?_)
  ·have a3:x.op=8:=by simpa using a3
   rw[if_pos a3] at kk bad;repeat first|refine Za hN ?_|refine Za hC ?_|refine Za (ld hB0 rfl) ?_|refine Za (Yf ..) ?_|refine Za (Zf ..) ?_|refine Za rfl ?_
   rcases YBE (x.who != 0) with a4|a4
   ·rw[a4];repeat first|refine Yb rfl ?_|refine Zc rfl ?_|refine Zd rfl ?_|refine Xd rfl ?_|refine Za rfl ?_
    refine Ze (bad ?_);have a4:x.who≠0:=by simpa using a4
    simp[a4]
   rw[a4];repeat first|refine Xa ?_|refine Zb ?_|refine Za (ldr (row:=chk cs t) rfl) ?_|refine Za hN ?_|refine Za hC ?_|refine Za (ld hB0 rfl) ?_|refine Za (Yf ..) ?_|refine Za (Zf ..) ?_|refine Za rfl ?_
   refine Yd (c225 _) rfl g225_ok.plain (nmRo _) ?_;repeat first|refine Xa ?_|refine Zb ?_|refine Za (ldr (row:=chk cs t) rfl) ?_|refine Za hN ?_|refine Za hC ?_|refine Za (ld hB0 rfl) ?_|refine Za (Yf ..) ?_|refine Za (Zf ..) ?_|refine Za rfl ?_
   rcases YBE (!noNum x.n) with a5|a5
   ·rw[a5];repeat first|refine Yb rfl ?_|refine Zc rfl ?_|refine Zd rfl ?_|refine Xd rfl ?_|refine Za rfl ?_
    refine Ze (bad ?_);have a5:noNum x.n=false:=by simpa using a5
    simp[a5]
   rw[a5];repeat first|refine Xa ?_|refine Zb ?_|refine Za (ldr (row:=chk cs t) rfl) ?_|refine Za hN ?_|refine Za hC ?_|refine Za (ld hB0 rfl) ?_|refine Za (Yf ..) ?_|refine Za (Zf ..) ?_|refine Za rfl ?_
   rcases YBE (!(x.name==[])) with a6|a6
   ·rw[a6];repeat first|refine Yb rfl ?_|refine Zc rfl ?_|refine Zd rfl ?_|refine Xd rfl ?_|refine Za rfl ?_
    refine Ze (bad ?_);have a6:(x.name==[])=false:=by simpa using a6
    rw[a6]; simp
   rw[a6];repeat first|refine Xa ?_|refine Zb ?_|refine Za (ldr (row:=chk cs t) rfl) ?_|refine Za hN ?_|refine Za hC ?_|refine Za (ld hB0 rfl) ?_|refine Za (Yf ..) ?_|refine Za (Zf ..) ?_|refine Za rfl ?_
   refine Yd (c226 cs hcs t _ (YY hfx)) rfl g226_ok.plain (cnRo2 ..) ?_;repeat first|refine Xa ?_|refine Zb ?_|refine Za (ldr (row:=chk cs t) rfl) ?_|refine Za hN ?_|refine Za hC ?_|refine Za (ld hB0 rfl) ?_|refine Za (Yf ..) ?_|refine Za (Zf ..) ?_|refine Za rfl ?_
   rcases YBE (!cnOk cs t x.c) with a7|a7
   ·rw[a7];repeat first|refine Yb rfl ?_|refine Zc rfl ?_|refine Zd rfl ?_|refine Xd rfl ?_|refine Za rfl ?_
    refine Ze (bad ?_);have a7:cnOk cs t x.c=false:=by simpa using a7
    simp[a7]
   rw[a7];repeat first|refine Xa ?_|refine Zb ?_|refine Za (ldr (row:=chk cs t) rfl) ?_|refine Za hN ?_|refine Za hC ?_|refine Za (ld hB0 rfl) ?_|refine Za (Yf ..) ?_|refine Za (Zf ..) ?_|refine Za rfl ?_
   have hs2:=Z6 x;rw[wrapI (n:=d+1) (by omega) (by omega)];refine Yd (c188' cs hcs t k x.thn (d+1) (by omega) (ZK hfx) (by omega)) rfl g188_ok.plain rfl ?_;repeat first|refine Xa ?_|refine Zb ?_|refine Za (ldr (row:=chk cs t) rfl) ?_|refine Za hN ?_|refine Za hC ?_|refine Za (ld hB0 rfl) ?_|refine Za (Yf ..) ?_|refine Za (Zf ..) ?_|refine Za rfl ?_
   rcases YBE (!lstOk cs t (d+1) x.thn) with a8|a8
   ·rw[a8];repeat first|refine Yb rfl ?_|refine Zc rfl ?_|refine Zd rfl ?_|refine Xd rfl ?_|refine Za rfl ?_
    refine Ze (bad ?_);have a8:lstOk cs t (d+1) x.thn=false:=by simpa using a8
    simp[a8]
   rw[a8];repeat first|refine Xa ?_|refine Zb ?_|refine Za (ldr (row:=chk cs t) rfl) ?_|refine Za hN ?_|refine Za hC ?_|refine Za (ld hB0 rfl) ?_|refine Za (Yf ..) ?_|refine Za (Zf ..) ?_|refine Za rfl ?_
   rw[wrapI (n:=d+1) (by omega) (by omega)];refine Yd (c188' cs hcs t k x.els (d+1) (by omega) (QJ hfx) (by omega)) rfl g188_ok.plain rfl ?_;repeat first|refine Xa ?_|refine Zb ?_|refine Za (ldr (row:=chk cs t) rfl) ?_|refine Za hN ?_|refine Za hC ?_|refine Za (ld hB0 rfl) ?_|refine Za (Yf ..) ?_|refine Za (Zf ..) ?_|refine Za rfl ?_
   refine Qb (λa9=>bad ?_) (λa9=>kk ?_ _)
   ·have a9:lstOk cs t (d+1) x.els=false:=by simpa using a9
    simp[a9]
   ·simp at a4 a5 a6 a7 a8 a9;simp[a4,a5,a6,a7,a8,a9]
  have a3:x.op≠8:=by simpa using a3
  rw[if_neg a3] at kk bad;repeat first|refine Za hN ?_|refine Za hC ?_|refine Za (ld hB0 rfl) ?_|refine Za (Yf ..) ?_|refine Za (Zf ..) ?_|refine Za rfl ?_
  refine Yd (c227 _) rfl g227_ok.plain (cnRo _) ?_;repeat first|refine Za hN ?_|refine Za hC ?_|refine Za (ld hB0 rfl) ?_|refine Za (Yf ..) ?_|refine Za (Zf ..) ?_|refine Za rfl ?_
  rcases YBE (!noCond x.c) with a4|a4
  ·rw[a4];repeat first|refine Yb rfl ?_|refine Zc rfl ?_|refine Zd rfl ?_|refine Xd rfl ?_|refine Za rfl ?_
   refine Ze (bad ?_);have a4:noCond x.c=false:=by simpa using a4
   simp[a4]
  rw[a4];repeat first|refine Xa ?_|refine Zb ?_|refine Za (ldr (row:=chk cs t) rfl) ?_|refine Za hN ?_|refine Za hC ?_|refine Za (ld hB0 rfl) ?_|refine Za (Yf ..) ?_|refine Za (Zf ..) ?_|refine Za rfl ?_
  rcases YBE (decide (((x.thn.map efC).length:Int)>0)) with a5|a5
  ·rw[a5];repeat first|refine Yb rfl ?_|refine Zc rfl ?_|refine Zd rfl ?_|refine Xd rfl ?_|refine Za rfl ?_
   refine Ze (bad ?_);have a5:x.thn.length≠0:=by simp at a5; omega
   simp[a5]
  rw[a5];repeat first|refine Xa ?_|refine Zb ?_|refine Za (ldr (row:=chk cs t) rfl) ?_|refine Za hN ?_|refine Za hC ?_|refine Za (ld hB0 rfl) ?_|refine Za (Yf ..) ?_|refine Za (Zf ..) ?_|refine Za rfl ?_
  refine Qb (λa6=>bad ?_) (λa6=>?_)
  ·have a6:x.els.length≠0:=by simp at a6; omega
   simp[a6]
  have a4:noCond x.c=true:=by simpa using a4
  have a5:x.thn.length=0:=by simp at a5; simpa using a5
  have a6:x.els.length=0:=by simp at a6; simpa using a6
  simp only[a4,a5,a6,decide_true,Bool.true_and] at kk bad;repeat first|refine Za hN ?_|refine Za hC ?_|refine Za (ld hB0 rfl) ?_|refine Za (Yf ..) ?_|refine Za (Zf ..) ?_|refine Za rfl ?_
  refine Yd (c130 _) rfl g130_ok.plain rfl ?_;apply cutF ((if cntOp x.op then nmOk t x.n else noNum x.n)=true)
  ·intro hR;rcases YBE (cntOp x.op) with c1|c1
   ·rw[c1];repeat first|refine Xa ?_|refine Zb ?_|refine Za (ldr (row:=chk cs t) rfl) ?_|refine Za hN ?_|refine Za hC ?_|refine Za (ld hB0 rfl) ?_|refine Za (Yf ..) ?_|refine Za (Zf ..) ?_|refine Za rfl ?_
    refine Yd (c77 cs t _ (Z3 hfx)) rfl g77_ok.plain (nmRo2 ..) ?_;repeat first|refine Xa ?_|refine Zb ?_|refine Za (ldr (row:=chk cs t) rfl) ?_|refine Za hN ?_|refine Za hC ?_|refine Za (ld hB0 rfl) ?_|refine Za (Yf ..) ?_|refine Za (Zf ..) ?_|refine Za rfl ?_
    rcases YBE (!nmOk t x.n) with c2|c2
    ·rw[c2];repeat first|refine Yb rfl ?_|refine Zc rfl ?_|refine Zd rfl ?_|refine Xd rfl ?_|refine Za rfl ?_
     refine Ze (bad ?_);have c2:nmOk t x.n=false:=by simpa using c2
     simp[c1,c2]
    rw[c2];repeat first|refine Xa ?_|refine Zb ?_|refine Za (ldr (row:=chk cs t) rfl) ?_|refine Za hN ?_|refine Za hC ?_|refine Za (ld hB0 rfl) ?_|refine Za (Yf ..) ?_|refine Za (Zf ..) ?_|refine Za rfl ?_
    refine Yd (c130 _) rfl g130_ok.plain rfl ?_;rw[c1];repeat first|refine Xa ?_|refine Zb ?_|refine Yb rfl ?_|refine Zc rfl ?_|refine Zd rfl ?_|refine Xd rfl ?_|refine Za (ldr (row:=chk cs t) rfl) ?_|refine Za hN ?_|refine Za hC ?_|refine Za (ld hB0 rfl) ?_|refine Za (Yf ..) ?_|refine Za (Zf ..) ?_|refine Za rfl ?_
    refine Yh ?_;exact hR (by have c2:nmOk t x.n=true:=(by simpa using c2); simp[c1,c2])
   rw[c1];repeat first|refine Xa ?_|refine Zb ?_|refine Yb rfl ?_|refine Zc rfl ?_|refine Zd rfl ?_|refine Xd rfl ?_|refine Za (ldr (row:=chk cs t) rfl) ?_|refine Za hN ?_|refine Za hC ?_|refine Za (ld hB0 rfl) ?_|refine Za (Yf ..) ?_|refine Za (Zf ..) ?_|refine Za rfl ?_
   refine Yd (c130 _) rfl g130_ok.plain rfl ?_;rw[c1];repeat first|refine Xa ?_|refine Zb ?_|refine Za (ldr (row:=chk cs t) rfl) ?_|refine Za hN ?_|refine Za hC ?_|refine Za (ld hB0 rfl) ?_|refine Za (Yf ..) ?_|refine Za (Zf ..) ?_|refine Za rfl ?_
   refine Yd (c225 _) rfl g225_ok.plain (nmRo _) ?_;repeat first|refine Xa ?_|refine Zb ?_|refine Za (ldr (row:=chk cs t) rfl) ?_|refine Za hN ?_|refine Za hC ?_|refine Za (ld hB0 rfl) ?_|refine Za (Yf ..) ?_|refine Za (Zf ..) ?_|refine Za rfl ?_
   refine Qb (λc2=>bad ?_) (λc2=>hR ?_)
   ·have c2:noNum x.n=false:=by simpa using c2
    simp[c1,c2]
   ·have c2:noNum x.n=true:=by simpa using c2
    simp[c1,c2]
  intro b1;rw[b1,Bool.true_and] at kk bad;repeat first|refine Za hN ?_|refine Za hC ?_|refine Za (ld hB0 rfl) ?_|refine Za (Yf ..) ?_|refine Za (Zf ..) ?_|refine Za rfl ?_
  apply cutF ((if x.op=7 then findC cs x.name true else x.name==[])=true)
  ·intro hR;rcases YBE (decide (x.op=7)) with c1|c1
   ·rw[c1];repeat first|refine Xa ?_|refine Zb ?_|refine Za (ldr (row:=chk cs t) rfl) ?_|refine Za hN ?_|refine Za hC ?_|refine Za (ld hB0 rfl) ?_|refine Za (Yf ..) ?_|refine Za (Zf ..) ?_|refine Za rfl ?_
    refine Yd (c228 cs hcs t _ _) rfl g228_ok.plain rfl ?_;repeat first|refine Xa ?_|refine Zb ?_|refine Za (ldr (row:=chk cs t) rfl) ?_|refine Za hN ?_|refine Za hC ?_|refine Za (ld hB0 rfl) ?_|refine Za (Yf ..) ?_|refine Za (Zf ..) ?_|refine Za rfl ?_
    have c1:x.op=7:=by simpa using c1
    rcases YBE (!findC cs x.name true) with c2|c2
    ·rw[c2];repeat first|refine Yb rfl ?_|refine Zc rfl ?_|refine Zd rfl ?_|refine Xd rfl ?_|refine Za rfl ?_
     refine Ze (bad ?_);have c2:findC cs x.name true=false:=by simpa using c2
     simp[c1,c2]
    rw[c2];repeat first|refine Xa ?_|refine Zb ?_|refine Za (ldr (row:=chk cs t) rfl) ?_|refine Za hN ?_|refine Za hC ?_|refine Za (ld hB0 rfl) ?_|refine Za (Yf ..) ?_|refine Za (Zf ..) ?_|refine Za rfl ?_
    have c3:(x.op != 7)=false:=by simpa using c1
    rw[c3];repeat first|refine Xa ?_|refine Zb ?_|refine Yb rfl ?_|refine Zc rfl ?_|refine Zd rfl ?_|refine Xd rfl ?_|refine Za (ldr (row:=chk cs t) rfl) ?_|refine Za hN ?_|refine Za hC ?_|refine Za (ld hB0 rfl) ?_|refine Za (Yf ..) ?_|refine Za (Zf ..) ?_|refine Za rfl ?_
    refine Yh ?_;exact hR (by have c2:findC cs x.name true=true:=(by simpa using c2); simp[c1,c2])
   rw[c1];repeat first|refine Xa ?_|refine Zb ?_|refine Yb rfl ?_|refine Zc rfl ?_|refine Zd rfl ?_|refine Xd rfl ?_|refine Za (ldr (row:=chk cs t) rfl) ?_|refine Za hN ?_|refine Za hC ?_|refine Za (ld hB0 rfl) ?_|refine Za (Yf ..) ?_|refine Za (Zf ..) ?_|refine Za rfl ?_
   have c1:x.op≠7:=by simpa using c1
   have c3:(x.op != 7)=true:=by simpa using c1
   rw[c3];repeat first|refine Xa ?_|refine Zb ?_|refine Za (ldr (row:=chk cs t) rfl) ?_|refine Za hN ?_|refine Za hC ?_|refine Za (ld hB0 rfl) ?_|refine Za (Yf ..) ?_|refine Za (Zf ..) ?_|refine Za rfl ?_
   refine Qb (λc2=>bad ?_) (λc2=>hR ?_)
   ·have c2:(x.name==[])=false:=by simpa using c2
    rw[if_neg c1,c2]; rfl
   ·have c2:(x.name==[])=true:=by simpa using c2
    rw[if_neg c1,c2]
  intro b2;rw[b2,Bool.true_and] at kk bad;repeat first|refine Za hN ?_|refine Za hC ?_|refine Za (ld hB0 rfl) ?_|refine Za (Yf ..) ?_|refine Za (Zf ..) ?_|refine Za rfl ?_
  have fin:∀s,VV.rd (Qo .not [.bool (efEnd t x.op x.who)] s) λt177_151=>VV.test t177_151 (AVal.bool false=AVal.bool (efsOk cs t d l)) (kj [] s):=by
   intro s;refine Za rfl ?_;refine Qb (λc=>bad ?_) (λc=>kk ?_ _)
   ·simpa using c
   ·simpa using c
  rcases YBE (decide (x.op=0)) with e1|e1
  ·rw[e1];repeat first|refine Xa ?_|refine Zb ?_|refine Yb rfl ?_|refine Zc rfl ?_|refine Zd rfl ?_|refine Xd rfl ?_|refine Za (ldr (row:=chk cs t) rfl) ?_|refine Za hN ?_|refine Za hC ?_|refine Za (ld hB0 rfl) ?_|refine Za (Yf ..) ?_|refine Za (Zf ..) ?_|refine Za rfl ?_
   have e1:x.op=0:=by simpa using e1
   refine Ql λk1 hk1=>?_;have m1:k1 [.bool (efMid t x.op x.who)] base:=by
    rw[hk1];repeat first|refine Za hN ?_|refine Za hC ?_|refine Za (ld hB0 rfl) ?_|refine Za (Yf ..) ?_|refine Za (Zf ..) ?_|refine Za rfl ?_
    rw[show decide (x.op=2)=false by simp[e1]];repeat first|refine Xa ?_|refine Zb ?_|refine Za (ldr (row:=chk cs t) rfl) ?_|refine Za hN ?_|refine Za hC ?_|refine Za (ld hB0 rfl) ?_|refine Za (Yf ..) ?_|refine Za (Zf ..) ?_|refine Za rfl ?_
    rw[show decide (x.op=4)=false by simp[e1]];repeat first|refine Xa ?_|refine Zb ?_|refine Za (ldr (row:=chk cs t) rfl) ?_|refine Za hN ?_|refine Za hC ?_|refine Za (ld hB0 rfl) ?_|refine Za (Yf ..) ?_|refine Za (Zf ..) ?_|refine Za rfl ?_
    rw[show decide (x.op=6)=false by simp[e1]];refine XH (Yh ?_);have:=fin base;rw[show efEnd t x.op x.who=efMid t x.op x.who by simp[efEnd,e1]] at this;exact this
   clear hk1;refine Ze ?_;repeat first|refine Za hN ?_|refine Za hC ?_|refine Za (ld hB0 rfl) ?_|refine Za (Yf ..) ?_|refine Za (Zf ..) ?_|refine Za rfl ?_
   refine Yd (c121 _) rfl g121_ok.plain rfl ?_;rw[show efMid t x.op x.who=(sdOp x.who||(decide (x.who=2)&&t)) by simp[efMid,e1]] at m1;rcases YBE (sdOp x.who) with e2|e2
   ·rw[e2] at m1 ⊢;repeat first|refine Xa ?_|refine Zb ?_|refine Yb rfl ?_|refine Zc rfl ?_|refine Zd rfl ?_|refine Xd rfl ?_|refine Za (ldr (row:=chk cs t) rfl) ?_|refine Za hN ?_|refine Za hC ?_|refine Za (ld hB0 rfl) ?_|refine Za (Yf ..) ?_|refine Za (Zf ..) ?_|refine Za rfl ?_
    exact m1
   rw[e2] at m1 ⊢;repeat first|refine Xa ?_|refine Zb ?_|refine Za (ldr (row:=chk cs t) rfl) ?_|refine Za hN ?_|refine Za hC ?_|refine Za (ld hB0 rfl) ?_|refine Za (Yf ..) ?_|refine Za (Zf ..) ?_|refine Za rfl ?_
   rcases YBE (decide (x.who=2)) with e3|e3
   ·rw[e3] at m1 ⊢;repeat first|refine Xa ?_|refine Zb ?_|refine Yb rfl ?_|refine Zc rfl ?_|refine Zd rfl ?_|refine Xd rfl ?_|refine Za (ldr (row:=chk cs t) rfl) ?_|refine Za hN ?_|refine Za hC ?_|refine Za (ld hB0 rfl) ?_|refine Za (Yf ..) ?_|refine Za (Zf ..) ?_|refine Za rfl ?_
    exact m1
   rw[e3] at m1 ⊢;repeat first|refine Xa ?_|refine Zb ?_|refine Yb rfl ?_|refine Zc rfl ?_|refine Zd rfl ?_|refine Xd rfl ?_|refine Za (ldr (row:=chk cs t) rfl) ?_|refine Za hN ?_|refine Za hC ?_|refine Za (ld hB0 rfl) ?_|refine Za (Yf ..) ?_|refine Za (Zf ..) ?_|refine Za rfl ?_
   exact m1
  rw[e1];repeat first|refine Xa ?_|refine Zb ?_|refine Za (ldr (row:=chk cs t) rfl) ?_|refine Za hN ?_|refine Za hC ?_|refine Za (ld hB0 rfl) ?_|refine Za (Yf ..) ?_|refine Za (Zf ..) ?_|refine Za rfl ?_
  have e1:x.op≠0:=by simpa using e1
  refine Ql λk1 hk1=>?_;have m1:k1 [.bool (efMid t x.op x.who)] base:=by
   rw[hk1];repeat first|refine Za hN ?_|refine Za hC ?_|refine Za (ld hB0 rfl) ?_|refine Za (Yf ..) ?_|refine Za (Zf ..) ?_|refine Za rfl ?_
   rcases YBE (decide (x.op=2)) with e3|e3
   ·rw[e3];repeat first|refine Xa ?_|refine Zb ?_|refine Yb rfl ?_|refine Zc rfl ?_|refine Zd rfl ?_|refine Xd rfl ?_|refine Za (ldr (row:=chk cs t) rfl) ?_|refine Za hN ?_|refine Za hC ?_|refine Za (ld hB0 rfl) ?_|refine Za (Yf ..) ?_|refine Za (Zf ..) ?_|refine Za rfl ?_
    have e3:x.op=2:=by simpa using e3
    refine XH (Ze ?_);repeat first|refine Za hN ?_|refine Za hC ?_|refine Za (ld hB0 rfl) ?_|refine Za (Yf ..) ?_|refine Za (Zf ..) ?_|refine Za rfl ?_
    refine Yd (c121 _) rfl g121_ok.plain rfl ?_;have:=fin base;rw[show efEnd t x.op x.who=sdOp x.who by simp[efEnd,e3]] at this;exact this
   rw[e3];repeat first|refine Xa ?_|refine Zb ?_|refine Za (ldr (row:=chk cs t) rfl) ?_|refine Za hN ?_|refine Za hC ?_|refine Za (ld hB0 rfl) ?_|refine Za (Yf ..) ?_|refine Za (Zf ..) ?_|refine Za rfl ?_
   rcases YBE (decide (x.op=4)) with e4|e4
   ·rw[e4];repeat first|refine Xa ?_|refine Zb ?_|refine Yb rfl ?_|refine Zc rfl ?_|refine Zd rfl ?_|refine Xd rfl ?_|refine Za (ldr (row:=chk cs t) rfl) ?_|refine Za hN ?_|refine Za hC ?_|refine Za (ld hB0 rfl) ?_|refine Za (Yf ..) ?_|refine Za (Zf ..) ?_|refine Za rfl ?_
    have e4:x.op=4:=by simpa using e4
    refine XH (Ze ?_);repeat first|refine Za hN ?_|refine Za hC ?_|refine Za (ld hB0 rfl) ?_|refine Za (Yf ..) ?_|refine Za (Zf ..) ?_|refine Za rfl ?_
    refine Yd (c121 _) rfl g121_ok.plain rfl ?_;have:=fin base;rw[show efEnd t x.op x.who=sdOp x.who by simp[efEnd,e4]] at this;exact this
   rw[e4];repeat first|refine Xa ?_|refine Zb ?_|refine Za (ldr (row:=chk cs t) rfl) ?_|refine Za hN ?_|refine Za hC ?_|refine Za (ld hB0 rfl) ?_|refine Za (Yf ..) ?_|refine Za (Zf ..) ?_|refine Za rfl ?_
   refine XH (Qb (λe5=>?_) (λe5=>?_))
   ·have e5:x.op=6:=by simpa using e5
    repeat first|refine Za hN ?_|refine Za hC ?_|refine Za (ld hB0 rfl) ?_|refine Za (Yf ..) ?_|refine Za (Zf ..) ?_|refine Za rfl ?_
    refine Yd (c121 _) rfl g121_ok.plain rfl ?_;have:=fin base;rw[show efEnd t x.op x.who=sdOp x.who by simp[efEnd,e5]] at this;exact this
   ·simp at e3 e4 e5;have:=fin base;rw[show efEnd t x.op x.who=efMid t x.op x.who by simp[efEnd,e3,e4,e5]] at this;exact this
  clear hk1;refine Qb (λe2=>?_) (λe2=>?_);rotate_left
  ·have e2:x.op≠1:=by simpa using e2
   rw[show efMid t x.op x.who=decide (x.who=0) by simp[efMid,e1,e2]] at m1;exact m1
  have e2:x.op=1:=by simpa using e2
  repeat first|refine Za hN ?_|refine Za hC ?_|refine Za (ld hB0 rfl) ?_|refine Za (Yf ..) ?_|refine Za (Zf ..) ?_|refine Za rfl ?_
  refine Yd (c121 _) rfl g121_ok.plain rfl ?_;rw[show efMid t x.op x.who=(sdOp x.who||(decide (x.who=2)&&t)) by simp[efMid,e2]] at m1;rcases YBE (sdOp x.who) with e2|e2
  ·rw[e2] at m1 ⊢;repeat first|refine Xa ?_|refine Zb ?_|refine Yb rfl ?_|refine Zc rfl ?_|refine Zd rfl ?_|refine Xd rfl ?_|refine Za (ldr (row:=chk cs t) rfl) ?_|refine Za hN ?_|refine Za hC ?_|refine Za (ld hB0 rfl) ?_|refine Za (Yf ..) ?_|refine Za (Zf ..) ?_|refine Za rfl ?_
   exact m1
  rw[e2] at m1 ⊢;repeat first|refine Xa ?_|refine Zb ?_|refine Za (ldr (row:=chk cs t) rfl) ?_|refine Za hN ?_|refine Za hC ?_|refine Za (ld hB0 rfl) ?_|refine Za (Yf ..) ?_|refine Za (Zf ..) ?_|refine Za rfl ?_
  rcases YBE (decide (x.who=2)) with e3|e3
  ·rw[e3] at m1 ⊢;repeat first|refine Xa ?_|refine Zb ?_|refine Yb rfl ?_|refine Zc rfl ?_|refine Zd rfl ?_|refine Xd rfl ?_|refine Za (ldr (row:=chk cs t) rfl) ?_|refine Za hN ?_|refine Za hC ?_|refine Za (ld hB0 rfl) ?_|refine Za (Yf ..) ?_|refine Za (Zf ..) ?_|refine Za rfl ?_
   exact m1
  rw[e3] at m1 ⊢;repeat first|refine Xa ?_|refine Zb ?_|refine Yb rfl ?_|refine Zc rfl ?_|refine Zd rfl ?_|refine Xd rfl ?_|refine Za (ldr (row:=chk cs t) rfl) ?_|refine Za hN ?_|refine Za hC ?_|refine Za (ld hB0 rfl) ?_|refine Za (Yf ..) ?_|refine Za (Zf ..) ?_|refine Za rfl ?_
  exact m1
theorem c188(cs:List Cd)(hcs:cs.length≤big)(t:Bool)(l:List Ef)(d:Int)(hf:lsFit l=true)(hd:0≤d):PC 188 [.rptr (chk cs t) 0,efV l,iv d] (.bool (lstOk cs t d l)):=c188' cs hcs t _ l d (Nat.le_refl _) hf hd
end Go.Ah.Tz
end
section
namespace Go.Ah.Tz
open Go.Proofs.Tryz (prog)
def isLet(x:Int):Bool:=decide ((97≤x∧x≤122)∨(65≤x∧x≤90)∨(192≤x∧x≤591∧x≠215∧x≠247))
def isDig(x:Int):Bool:=decide (48≤x∧x≤57)
def shl6(x:Int):Int:=IntKind.i64.wrap (x*2 ^ (min 6 IntKind.i64.bits))
def rStep(x:Int)(c:UInt8):Int:=bits .or .i64 (shl6 x) (IntKind.i64.wrap (bits .and .u8 (c.toNat:Int) 63))
def rCont(c:UInt8):Bool:=(bits .and .u8 (c.toNat:Int) 192 != 128)
def rTail(s:Tx)(at_:Nat):Nat→Nat→Int→Option Int
 |0,_,x=>some x
 |m+1,i,x=>match s[at_+i]? with
  |none=>none
  |some c=>if rCont c then none else rTail s at_ m (i+1) (rStep x c)
def rHead(c:Int):Option (Nat×Int×Int):=
 if 192≤c∧c<224 then some (2,bits .and .i64 c 31,128) else if 224≤c∧c<240 then some (3,bits .and .i64 c 15,2048) else if 240≤c∧c<248 then some (4,bits .and .i64 c 7,65536) else if 128≤c then none else some (1,c,0)
def rEnd(n:Nat)(least:Int):Option Int→Int×Nat
 |none=>(0,0)
 |some y=>if y<least∨1114111<y∨(55296≤y∧y≤57343) then (0,0) else (y,n)
def runeR(s:Tx)(at_:Nat):Int×Nat:=match s[at_]? with
 |none=>(0,0)
 |some c=>match rHead c.toNat with
  |none=>(0,0)
  |some (n,x,least)=>rEnd n least (rTail s at_ (n-1) 1 x)
def Xao(s:Tx)(at_ n:Nat):Prop:=(runeR s at_).2=0∨(isLet (runeR s at_).1=false∧(n=0∨(isDig (runeR s at_).1=false∧(runeR s at_).1≠39)))
instance (s:Tx) (at_ n:Nat):Decidable (Xao s at_ n):=inferInstanceAs (Decidable (_∨_))
def nameR(s:Tx)(at_ n:Nat):Nat×Nat:=
 if _h:at_<s.length then (if hk:Xao s at_ n then (at_,n) else nameR s (at_+(runeR s at_).2) (n+1)) else (at_,n)
termination_by s.length-at_
decreasing_by
 have:(runeR s at_).2≠0:=λe=>hk (Or.inl e);omega
def ownIn:List Tx→Tx→Bool
 |[],_=>false
 |k::l,s=>k==s||ownIn l s
def keysR:List Tx:=[[99,97,114,100],
 [117,110,105,116],
 [99,104,97,114,109],
 [102,111,114,109,97,116],
 [112,108,97,121,101,100],
 [100,101,97,100],
 [100,97,119,110],
 [97,117,114,97],
 [115,104,105,101,108,100],
 [104,97,114,109],
 [109,101,110,100],
 [100,114,97,119],
 [103,97,105,110],
 [100,114,111,112],
 [108,111,111,107],
 [115,104,111,119],
 [115,117,109,109,111,110],
 [105,102],
 [101,108,115,101],
 [109,101],
 [102,111,101],
 [116,97,114,103,101,116],
 [108,105,102,101],
 [104,97,110,100],
 [100,101,99,107],
 [117,110,105,116,115],
 [109,97,110,97],
 [99,111,115,116],
 [116,111,112],
 [112,111,119,101,114],
 [109,105,110],
 [109,97,120],
 [110,111,116],
 [97,110,100],
 [111,114],
 [104,111,108,100,115],
 [108,101,97,115,116],
 [109,111,115,116],
 [99,111,112,105,101,115],
 [98,97,110,110,101,100],
 [115,105,110,103,108,101]]
def nameOk(s:Tx):Bool:=decide (1≤(nameR s 0 0).2)&&(decide ((nameR s 0 0).2≤24)&&(decide ((nameR s 0 0).1=s.length)&&(decide (s.length≤40) && !ownIn keysR s)))
attribute [local irreducible] Ans.rd Ans.pu Ans.wr Ans.dr Ans.gr Ans.gw Ans.gl Ans.gd Ans.opt joinK W
theorem Z1{P:Program}{GL:Globs}{c d:Bool}{K:AVal→Prop}{r1:SRes}{f2:AVal→SRes}{σ:List ABlk}{v1:AVal}(h1:r1=.ok v1 [] [])(h2:f2 v1=.ok (.bool d) [] [])(hK:K (.bool (c&&d))) :
  (W P GL).gr (.bool c) true (λk=>(W P GL).rd r1 k) λt1=>(W P GL).gr (.bool c) true (λk=>(W P GL).rd (f2 t1) k) λt2=>(W P GL).rd (Zn [.bool c,t2,.bool false] σ) K:=by
 cases c with
 |true=>exact Xa (Za h1 (Xa (Za h2 (Za rfl hK))))
 |false=>exact Yb rfl (Yb rfl (Za rfl hK))
theorem c198(x:Int):PC 198 [iv x] (.bool (isDig x)):=by
 refine Qc hP g198_ok rfl rfl ?_;unfold g198;refine Za rfl ?_;rcases YBE (decide (x ≥ 48)) with h|h
 rotate_left
 ·rw[h];repeat first|refine Yb rfl ?_|refine Zc rfl ?_|refine Zd rfl ?_|refine Xd rfl ?_|refine Za rfl ?_
  have h:¬48≤x:=by simpa using h
  simp[isDig,h]
 rw[h];repeat first|refine Xa ?_|refine Zb ?_|refine Za rfl ?_
 have h:48≤x:=by simpa using h
 exact congrArg AVal.bool (by rw[Bool.eq_iff_iff]; simp[isDig,h])
theorem c197(x:Int):PC 197 [iv x] (.bool (isLet x)):=by
 refine Qc hP g197_ok rfl rfl ?_;unfold g197;refine Za rfl ?_;apply cutF (¬(97≤x∧x≤122))
 ·intro hR;rcases YBE (decide (x ≥ 97)) with h|h
  ·rw[h];repeat first|refine Xa ?_|refine Zb ?_|refine Za rfl ?_
   have h:97≤x:=by simpa using h
   rcases YBE (decide (x≤122)) with h2|h2
   ·rw[h2];repeat first|refine Xa ?_|refine Zb ?_|refine Yb rfl ?_|refine Zc rfl ?_|refine Zd rfl ?_|refine Xd rfl ?_|refine Za rfl ?_
    have h2:x≤122:=by simpa using h2
    simp[isLet,h,h2]
   rw[h2];have h2:¬x≤122:=by simpa using h2
   repeat first|refine Xa ?_|refine Zb ?_|refine Yb rfl ?_|refine Zc rfl ?_|refine Zd rfl ?_|refine Xd rfl ?_|refine Za rfl ?_
   exact hR (by omega)
  rw[h];have h:¬97≤x:=by simpa using h
  repeat first|refine Xa ?_|refine Zb ?_|refine Yb rfl ?_|refine Zc rfl ?_|refine Zd rfl ?_|refine Xd rfl ?_|refine Za rfl ?_
  exact hR (by omega)
 intro n1;apply cutF (¬(65≤x∧x≤90))
 ·intro hR;rcases YBE (decide (x ≥ 65)) with h|h
  ·rw[h];repeat first|refine Xa ?_|refine Zb ?_|refine Za rfl ?_
   have h:65≤x:=by simpa using h
   rcases YBE (decide (x≤90)) with h2|h2
   ·rw[h2];repeat first|refine Xa ?_|refine Zb ?_|refine Yb rfl ?_|refine Zc rfl ?_|refine Zd rfl ?_|refine Xd rfl ?_|refine Za rfl ?_
    have h2:x≤90:=by simpa using h2
    simp[isLet,h,h2]
   rw[h2];have h2:¬x≤90:=by simpa using h2
   repeat first|refine Xa ?_|refine Zb ?_|refine Yb rfl ?_|refine Zc rfl ?_|refine Zd rfl ?_|refine Xd rfl ?_|refine Za rfl ?_
   exact hR (by omega)
  rw[h];have h:¬65≤x:=by simpa using h
  repeat first|refine Xa ?_|refine Zb ?_|refine Yb rfl ?_|refine Zc rfl ?_|refine Zd rfl ?_|refine Xd rfl ?_|refine Za rfl ?_
  exact hR (by omega)
 intro n2;rcases YBE (decide (x ≥ 192)) with h1|h1
 rotate_left
 ·rw[h1];repeat first|refine Xa ?_|refine Zb ?_|refine Yb rfl ?_|refine Zc rfl ?_|refine Zd rfl ?_|refine Xd rfl ?_|refine Za rfl ?_
  exact congrArg AVal.bool (by rw[Bool.eq_iff_iff]; simp at h1; simp[isLet]; omega)
 rw[h1];repeat first|refine Xa ?_|refine Zb ?_|refine Za rfl ?_
 rcases YBE (decide (x≤591)) with h2|h2
 rotate_left
 ·rw[h2];repeat first|refine Xa ?_|refine Zb ?_|refine Yb rfl ?_|refine Zc rfl ?_|refine Zd rfl ?_|refine Xd rfl ?_|refine Za rfl ?_
  exact congrArg AVal.bool (by rw[Bool.eq_iff_iff]; simp at h2; simp[isLet]; omega)
 rw[h2];repeat first|refine Xa ?_|refine Zb ?_|refine Za rfl ?_
 rcases YBE (x != 215) with h3|h3
 rotate_left
 ·rw[h3];repeat first|refine Xa ?_|refine Zb ?_|refine Yb rfl ?_|refine Zc rfl ?_|refine Zd rfl ?_|refine Xd rfl ?_|refine Za rfl ?_
  exact congrArg AVal.bool (by rw[Bool.eq_iff_iff]; simp at h3; simp[isLet]; omega)
 rw[h3];repeat first|refine Xa ?_|refine Zb ?_|refine Za rfl ?_
 exact congrArg AVal.bool (by rw[Bool.eq_iff_iff]; simp at h1 h2 h3; simp[isLet]; omega)
theorem c196(s:Tx)(hs:s.length≤big)(a:Nat)(ha:a<s.length):PC 196 [.str s,iv a] (.tup [iv (runeR s a).1,iv (runeR s a).2]):=by
 rw[bigE] at hs;refine Qc hP g196_ok rfl rfl ?_;unfold g196;refine Za (QbN _ s .i64 a ha) (Za (Zcl ..) ?_);have hc:s[a].toNat<256:=s[a].toNat_lt;rw[wrapI (n:=(s[a].toNat:Int)) (by omega) (by omega)];have hr:runeR s a=match rHead s[a].toNat with
  |none=>(0,0)
  |some (n,x,least)=>rEnd n least (rTail s a (n-1) 1 x):=by
  rw[runeR,List.getElem?_eq_getElem ha]
 generalize s[a].toNat=c0 at hr hc ⊢;obtain⟨c,hcc⟩:∃c:Int,c=(c0:Int):=⟨_,rfl⟩;rw[←hcc] at hr ⊢;have hc2:0≤c∧c<256:=by omega
 clear hcc hc;refine Za rfl ?_;refine Z1 rfl rfl ?_;refine Ql λkj hkj=>?_;have zero:∀y:Option Int,y=none→∀n least,AVal.tup [iv 0,iv 0]=AVal.tup [iv (rEnd n least y).1,iv (rEnd n least y).2]:=by
  rintro _ rfl n least; rfl
 have kk:∀(n:Nat) (x least:Int),1≤n→n≤4→rHead c=some (n,x,least)→kj [iv n,iv x,iv least] []:=by
  intro n x least n1 n4 hh;rw[hkj]; clear hkj kj;rw[hh] at hr
  replace hr:runeR s a=rEnd n least (rTail s a (n-1) 1 x):=hr
  rw[hr];clear hr hh;refine Qk (ι:=Nat) (λi vs σ=>∃y,vs=[iv i,iv y]∧1≤i∧i≤n∧rTail s a (n-1) 1 x=rTail s a (n-i) i y) (λi=>n-i) 1 ⟨x,rfl,by omega,by omega,rfl⟩ ?_;rintro i vs σ again ⟨y,rfl,i1,i2,hu⟩ hag;refine Za rfl ?_;refine Qb (λh=>?_) (λh=>?_)
  ·have h:i<n:=by simpa using h
   have hadd:∀σ,Yi .add false [iv a,iv i] σ=.ok (iv ((a+i:Nat):Int)) [] []:=λσ=>by
    rw[Zk,wrapI (by omega) (by omega)]; rfl
   have hni:n-i=(n-(i+1))+1:=by omega
   rw[hni,rTail] at hu;refine Za (hadd _) (Za rfl (Za rfl ?_));rcases YBE (decide (((a+i:Nat):Int) ≥ (s.length:Int))) with h1|h1
   ·rw[h1];repeat first|refine Xa ?_|refine Zb ?_|refine Yb rfl ?_|refine Zc rfl ?_|refine Zd rfl ?_|refine Xd rfl ?_|refine Za rfl ?_
    refine Ze ?_;have h1:s.length≤a+i:=by simp at h1; omega
    rw[List.getElem?_eq_none h1] at hu;exact zero _ hu _ _
   rw[h1];have h1:a+i<s.length:=by simp at h1; omega
   have hix:∀σ,Zy [.str s,iv ((a+i:Nat):Int)] σ=.ok (.int .u8 s[a+i].toNat) [] []:=λσ=>QbN _ s .i64 (a+i) h1;rw[List.getElem?_eq_getElem h1] at hu;generalize s[a+i]=q at hu hix;repeat first|refine Xa ?_|refine Za (hadd _) ?_|refine Za (hix _) ?_|refine Za rfl ?_
   refine Qb (λh2=>?_) (λh2=>?_)
   ·have h2:rCont q=true:=h2;simp only[h2,if_true] at hu;exact zero _ hu _ _
   ·have h2:rCont q=false:=h2;simp only[h2,Bool.false_eq_true,if_false] at hu;refine Za rfl (Za (hadd _) (Za (hix _) (Za rfl (Za (Zcl ..) (Za rfl (Za (Zk ..) ?_))))));rw[Yg (n:=i) (by omega)];exact hag (i+1) _ _ (by omega) ⟨_,rfl,by omega,by omega,hu⟩
  ·have h:i=n:=by simp at h; omega
   subst h;rw[Nat.sub_self,rTail] at hu;rw[hu];clear hu hag zero;refine Za rfl ?_;have bad:(y<least∨1114111<y∨(55296≤y∧y≤57343))→AVal.tup [iv 0,iv 0]=AVal.tup [iv (rEnd i least (some y)).1,iv (rEnd i least (some y)).2]:=by
    intro hb; rw[rEnd,if_pos hb]; rfl
   have good:¬(y<least∨1114111<y∨(55296≤y∧y≤57343))→AVal.tup [iv y,iv i]=AVal.tup [iv (rEnd i least (some y)).1,iv (rEnd i least (some y)).2]:=by
    intro hb; rw[rEnd,if_neg hb]
   rcases YBE (decide (y<least)) with h1|h1
   ·rw[h1];repeat first|refine Xa ?_|refine Zb ?_|refine Yb rfl ?_|refine Zc rfl ?_|refine Zd rfl ?_|refine Xd rfl ?_|refine Za rfl ?_
    exact Ze (bad (by simp at h1; omega))
   rw[h1];repeat first|refine Xa ?_|refine Zb ?_|refine Za rfl ?_
   rcases YBE (decide (y>1114111)) with h2|h2
   ·rw[h2];repeat first|refine Xa ?_|refine Zb ?_|refine Yb rfl ?_|refine Zc rfl ?_|refine Zd rfl ?_|refine Xd rfl ?_|refine Za rfl ?_
    exact Ze (bad (by simp at h2; omega))
   rw[h2];repeat first|refine Xa ?_|refine Zb ?_|refine Za rfl ?_
   rcases YBE (decide (y ≥ 55296)) with h3|h3
   ·rw[h3];repeat first|refine Xa ?_|refine Zb ?_|refine Za rfl ?_
    refine Qb (λh4=>bad ?_) (λh4=>good ?_)
    ·simp at h3 h4; omega
    ·simp at h1 h2 h3 h4; omega
   rw[h3];repeat first|refine Xa ?_|refine Zb ?_|refine Yb rfl ?_|refine Zc rfl ?_|refine Zd rfl ?_|refine Xd rfl ?_|refine Za rfl ?_
   exact Yh (good (by simp at h1 h2 h3; omega))
 clear hkj;refine Qb (λh=>?_) (λn1=>?_)
 ·have h:192≤c∧c<224:=by simpa using h
  refine Za rfl (kk 2 _ _ (by omega) (by omega) ?_);rw[rHead,if_pos h]
 have n1:¬(192≤c∧c<224):=by simp at n1; omega
 refine Za rfl (Z1 rfl rfl ?_);refine Qb (λh=>?_) (λn2=>?_)
 ·have h:224≤c∧c<240:=by simpa using h
  refine Za rfl (kk 3 _ _ (by omega) (by omega) ?_);rw[rHead,if_neg n1,if_pos h]
 have n2:¬(224≤c∧c<240):=by simp at n2; omega
 refine Za rfl (Z1 rfl rfl ?_);refine Qb (λh=>?_) (λn3=>?_)
 ·have h:240≤c∧c<248:=by simpa using h
  refine Za rfl (kk 4 _ _ (by omega) (by omega) ?_);rw[rHead,if_neg n1,if_neg n2,if_pos h]
 have n3:¬(240≤c∧c<248):=by simp at n3; omega
 refine Za rfl ?_;refine Qb (λh=>?_) (λh=>?_)
 ·have h:128≤c:=by simpa using h
  have e:rHead c=none:=by rw[rHead,if_neg n1,if_neg n2,if_neg n3,if_pos h]
  rw[hr,e]; rfl
 ·have h:¬128≤c:=by simpa using h
  exact kk 1 _ _ (by omega) (by omega) (by rw[rHead,if_neg n1,if_neg n2,if_neg n3,if_neg h])
theorem Qb8{c:Int}{n:Nat}{x least:Int}(h:rHead c=some (n,x,least)):n≤4:=by
 unfold rHead at h;repeat (split at h; first|(cases h; omega)|skip)
 all_goals first|(cases h; omega)|cases h
theorem Qbs(s:Tx)(a:Nat):(runeR s a).2≤4:=by
 unfold runeR;split
 ·simp
 ·split
  ·simp
  ·rename_i n x least h;have:=Qb8 h;cases rTail s a (n-1) 1 x with
   |none=>simp[rEnd]
   |some y=>rw[rEnd]; split<;>simp; omega
theorem c193(s:Tx)(hs:s.length≤big)(a0:Nat)(ha0:a0≤s.length):PC 193 [.str s,iv a0] (.tup [iv (nameR s a0 0).1,iv (nameR s a0 0).2]):=by
 have hs2:=hs;rw[bigE] at hs2;refine Qc hP g193_ok rfl rfl ?_;unfold g193;refine Ql λk0 hk0=>?_;have kk:∀a n:Nat,nameR s a0 0=(a,n)→k0 [iv a,iv n] []:=by
  intro a n e;rw[hk0,e]; exact rfl
 clear hk0;refine Qk (ι:=Nat) (λa vs σ=>∃n:Nat,vs=[iv a,iv n]∧σ=[]∧n≤a∧a≤s.length+4∧nameR s a0 0=nameR s a n) (λa=>s.length+10-a) a0 ⟨0,rfl,rfl,by omega,by omega,rfl⟩ ?_;rintro a vs σ again ⟨n,rfl,rfl,i1,i2,hu⟩ hag;refine Za rfl (Za rfl ?_);refine Qb (λh=>?_) (λh=>?_);rotate_left
 ·have h:¬a<s.length:=by simpa using h
  exact kk a n (by rw[hu,nameR,dif_neg h])
 have h:a<s.length:=by simpa using h
 refine Yd (c196 s hs a h) rfl g196_ok.plain rfl ?_;refine Za rfl (Za rfl ?_);have stp:Xao s a n→k0 [iv a,iv n] []:=λhst=>kk a n (by rw[hu,nameR,dif_pos h,dif_pos hst]);have cont:¬Xao s a n→again [iv ((a+(runeR s a).2:Nat):Int),iv ((n+1:Nat):Int)] []:=by
  intro hst;have h1:(runeR s a).2≠0:=λe=>hst (Or.inl e);have h4:=Qbs s a;exact hag _ _ _ (by omega) ⟨n+1,rfl,rfl,by omega,by omega,by rw[hu,nameR,dif_pos h,dif_neg hst]⟩
 have h4:=Qbs s a;unfold Xao at stp cont;clear hag hu kk;generalize (runeR s a).1=x at stp cont ⊢;generalize (runeR s a).2=k at stp cont h4 ⊢;have go:¬(k=0∨(isLet x=false∧(n=0∨(isDig x=false∧x≠39))))→VV.rd (Yi .add false [iv a,iv k] []) λt41_27=>VV.rd (Yi .add false [iv n,(.int .i64 1)] []) λt43_28=>again [t41_27,t43_28] []:=by
  intro hst;refine Za (Zk ..) (Za (Zk ..) ?_);rw[Yg (n:=n) (by omega),wrapI (n:=(a:Int)+(k:Int)) (by omega) (by omega)];exact cont hst
 refine Za rfl ?_;rcases YBE ((k:Int)==0) with h1|h1
 ·rw[h1];repeat first|refine Xa ?_|refine Zb ?_|refine Yb rfl ?_|refine Zc rfl ?_|refine Zd rfl ?_|refine Xd rfl ?_|refine Za rfl ?_
  exact Ze (stp (Or.inl (by simpa using h1)))
 rw[h1];have h1:k≠0:=by simpa using h1
 repeat first|refine Xa ?_|refine Zb ?_|refine Za rfl ?_
 refine Yd (c197 _) rfl g197_ok.plain rfl ?_;repeat first|refine Xa ?_|refine Zb ?_|refine Za rfl ?_
 rcases YBE (!isLet x) with h2|h2
 rotate_left
 ·rw[h2];repeat first|refine Xa ?_|refine Zb ?_|refine Yb rfl ?_|refine Zc rfl ?_|refine Zd rfl ?_|refine Xd rfl ?_|refine Za rfl ?_
  exact Yh (go (by have h2:isLet x=true:=(by simpa using h2); simp[h1,h2]))
 rw[h2];have h2:isLet x=false:=by simpa using h2
 repeat first|refine Xa ?_|refine Zb ?_|refine Za rfl ?_
 rcases YBE ((n:Int)==0) with h3|h3
 ·rw[h3];repeat first|refine Xa ?_|refine Zb ?_|refine Yb rfl ?_|refine Zc rfl ?_|refine Zd rfl ?_|refine Xd rfl ?_|refine Za rfl ?_
  exact Ze (stp (Or.inr ⟨h2,Or.inl (by simpa using h3)⟩))
 rw[h3];have h3:n≠0:=by simpa using h3
 repeat first|refine Xa ?_|refine Zb ?_|refine Za rfl ?_
 refine Yd (c198 _) rfl g198_ok.plain rfl ?_;repeat first|refine Xa ?_|refine Zb ?_|refine Za rfl ?_
 rcases YBE (!isDig x) with h5|h5
 rotate_left
 ·rw[h5];repeat first|refine Xa ?_|refine Zb ?_|refine Yb rfl ?_|refine Zc rfl ?_|refine Zd rfl ?_|refine Xd rfl ?_|refine Za rfl ?_
  exact Yh (go (by have h5:isDig x=true:=(by simpa using h5); simp[h1,h3,h5]))
 rw[h5];have h5:isDig x=false:=by simpa using h5
 repeat first|refine Xa ?_|refine Zb ?_|refine Za rfl ?_
 refine Qb (λh6=>stp ?_) (λh6=>go ?_)
 ·exact Or.inr ⟨h2,Or.inr ⟨h5,by simpa using h6⟩⟩
 ·have h6:x=39:=by simpa using h6
  simp[h1,h3,h6]
theorem c229:∃e n,PC 229 [] (.rsl e n 1 (keysR.map txC)):=by
 have hw:∃v bs,g229 VV [] [] (λv' σ=>v'=v∧σ=bs)∧∃e n,frz bs v=some (.rsl e n 1 (keysR.map txC)):=by
  unfold g229;apply Exists.intro;apply Exists.intro;apply And.intro
  ·refine Xf rfl rfl ?_;exact⟨rfl,rfl⟩
  ·exact⟨_,_,rfl⟩
 obtain⟨v,bs,h1,e,n,h2⟩:=hw;exact⟨e,n,XaC hP g229_ok rfl ⟨v,bs,h2,h1⟩⟩
theorem txLd(x:Tx):partA false 0 1 (txC x)=some (.str x):=rfl
theorem c194(s:Tx):PC 194 [.str s] (.bool (ownIn keysR s)):=by
 refine Qc hP g194_ok rfl rfl ?_;unfold g194;obtain⟨e,n,hk⟩:=c229;refine Yd hk rfl g229_ok.plain rfl ?_;have hlen:keysR.length=41:=rfl;generalize keysR=l at hlen ⊢;refine Qk (ι:=Nat) (λi vs σ=>vs=[iv i]∧i≤l.length∧ownIn l s=ownIn (l.drop i) s) (λi=>l.length-i) 0 ⟨rfl,by omega,by simp⟩ ?_;rintro i vs σ again ⟨rfl,hi,hu⟩ hag;refine Za rfl (Za rfl ?_);refine Qb (λh=>?_) (λh=>?_)
 ·have h:i<l.length:=by simpa using h
  have hdr:l.drop i=l[i]::l.drop (i+1):=by rw[YLD h]
  rw[hdr,ownIn] at hu;refine Za (Yo _ txC _ _ _ l .i64 i h) (Za (ldr (txLd _)) (Za (Zf ..) ?_));refine Qb (λh=>?_) (λh=>?_)
  ·rw[hu,h]; rfl
  ·rw[h,Bool.false_or] at hu;refine Za (Zk ..) ?_;rw[Yg (n:=i) (by omega)];exact hag (i+1) _ _ (by omega) ⟨rfl,by omega,hu⟩
 ·have h:i=l.length:=by simp at h; omega
  subst h;rw[List.drop_length] at hu;rw[hu]; rfl
theorem c147(s:Tx)(hs:s.length≤big):PC 147 [.str s] (.bool (nameOk s)):=by
 refine Qc hP g147_ok rfl rfl ?_;unfold g147;have:=c193 s hs 0 (by omega);refine Yd this rfl g193_ok.plain rfl ?_;unfold nameOk;generalize (nameR s 0 0).1=e;generalize (nameR s 0 0).2=n;refine Za rfl (Za rfl (Za rfl ?_));rcases YBE (decide ((n:Int) ≥ 1)) with h1|h1
 rotate_left
 ·rw[h1];repeat first|refine Yb rfl ?_|refine Zc rfl ?_|refine Zd rfl ?_|refine Xd rfl ?_|refine Za rfl ?_
  have h1:¬1≤n:=by simp at h1; omega
  simp[h1]
 rw[h1];repeat first|refine Xa ?_|refine Zb ?_|refine Za rfl ?_
 rcases YBE (decide ((n:Int)≤24)) with h2|h2
 rotate_left
 ·rw[h2];repeat first|refine Yb rfl ?_|refine Zc rfl ?_|refine Zd rfl ?_|refine Xd rfl ?_|refine Za rfl ?_
  have h2:¬n≤24:=by simp at h2; omega
  simp[h2]
 rw[h2];repeat first|refine Xa ?_|refine Zb ?_|refine Za rfl ?_
 rcases YBE ((e:Int)==(s.length:Int)) with h3|h3
 rotate_left
 ·rw[h3];repeat first|refine Yb rfl ?_|refine Zc rfl ?_|refine Zd rfl ?_|refine Xd rfl ?_|refine Za rfl ?_
  have h3:¬e=s.length:=by simp at h3; omega
  simp[h3]
 rw[h3];repeat first|refine Xa ?_|refine Zb ?_|refine Za rfl ?_
 rcases YBE (decide ((s.length:Int)≤40)) with h4|h4
 rotate_left
 ·rw[h4];repeat first|refine Yb rfl ?_|refine Zc rfl ?_|refine Zd rfl ?_|refine Xd rfl ?_|refine Za rfl ?_
  have h4:¬s.length≤40:=by simp at h4; omega
  simp[h4]
 rw[h4];repeat first|refine Xa ?_|refine Zb ?_|refine Za rfl ?_
 refine Yd (c194 _) rfl g194_ok.plain rfl ?_;repeat first|refine Xa ?_|refine Zb ?_|refine Za rfl ?_
 have h1:1≤n:=by simp at h1; omega
 have h2:n≤24:=by simp at h2; omega
 have h3:e=s.length:=by simp at h3; omega
 have h4:s.length≤40:=by simp at h4; omega
 simp[h1,h2,h3,h4]
end Go.Ah.Tz
end
section
namespace Go.Ah.Tz
open Go.Proofs.Tryz (prog)
def in999(n:Int):Bool:=decide (0≤n)&&decide (n≤999)
def cdSum(c:Cd):Bool:=if c.unit then decide (1≤c.health) else decide (c.power+c.health+c.shield+c.aurap+c.aurah≤0)&&decide (c.dead.length+c.dawn.length=0)
def cdW(c:Cd):Int:=min (efsW 0 c.played+efsW 0 c.dead+efsW 0 c.dawn) 1073741824
def cdOk(cs:List Cd)(c:Cd):Bool:=
 nameOk c.name&&(in999 c.cost&&(in999 c.power&&(in999 c.health&&(in999 c.shield&&(in999 c.aurap&&(in999 c.aurah&&(cdSum c&&(decide (cdW c≤200)&&(lstOk cs true 1 c.played&&(lstOk cs false 1 c.dead&&lstOk cs false 1 c.dawn))))))))))
def cdFit(c:Cd):Bool:=decide (c.name.length≤big)&&(lsFit c.played&&(lsFit c.dead&&lsFit c.dawn))
def QF(l:List Cd):Bool:=decide (l.length≤big)&&l.all cdFit
def cdsGo(cs:List Cd):List Cd→List Cd→Int×Int
 |_,[]=>(0,0)
 |pre,c::l=>if pre.any λd=>d.name==c.name then (101,c.pl) else if cdOk cs c then cdsGo cs (pre++[c]) l else (130,c.pl)
def cdsChk(cs:List Cd):Int×Int:=if 240<cs.length then (3,0) else cdsGo cs [] cs
attribute [local irreducible] Ans.rd Ans.pu Ans.wr Ans.dr Ans.gr Ans.gw Ans.gl Ans.gd Ans.opt joinK W
set_option maxHeartbeats 1000000
theorem c145(cs:List Cd)(hcs:cs.length≤big)(c:Cd)(hf:cdFit c=true):PC 145 [cdV cs,.agg (cdC c)] (.bool (cdOk cs c)):=by
 simp only[cdFit,Bool.and_eq_true,decide_eq_true_eq] at hf;obtain⟨f0,f1,f2,f3⟩:=hf;refine Qc hP g145_ok rfl rfl ?_;unfold g145;refine Xf rfl rfl ?_;generalize hB:([]++[ABlk.box (cdC c)]:List ABlk)=base;have hB0:hget base 0=.box (cdC c):=by rw[←hB]; rfl
 refine Za rfl (Za (ld hB0 rfl) ?_);refine Yd (c147 _ f0) rfl g147_ok.plain rfl ?_;refine Za rfl ?_;rcases YBE (!nameOk c.name) with a0|a0
 ·rw[a0];repeat first|refine Xa ?_|refine Zb ?_|refine Yb rfl ?_|refine Zc rfl ?_|refine Zd rfl ?_|refine Xd rfl ?_|refine Za (ld hB0 rfl) ?_|refine Za rfl ?_
  refine Ze ?_;have a0:nameOk c.name=false:=by simpa using a0
  simp[cdOk,a0]
 rw[a0];repeat first|refine Xa ?_|refine Zb ?_|refine Za (ld hB0 rfl) ?_|refine Za rfl ?_
 refine Yd (c187 _) rfl g187_ok.plain rfl ?_;repeat first|refine Xa ?_|refine Zb ?_|refine Za (ld hB0 rfl) ?_|refine Za rfl ?_
 rcases YBE (!(decide (0≤c.cost)&&decide (c.cost≤999))) with a1|a1
 ·rw[a1];repeat first|refine Xa ?_|refine Zb ?_|refine Yb rfl ?_|refine Zc rfl ?_|refine Zd rfl ?_|refine Xd rfl ?_|refine Za (ld hB0 rfl) ?_|refine Za rfl ?_
  refine Ze ?_;have a1:in999 c.cost=false:=by unfold in999; exact(Bool.not_eq_true' _).mp a1
  simp[cdOk,a1]
 rw[a1];repeat first|refine Xa ?_|refine Zb ?_|refine Za (ld hB0 rfl) ?_|refine Za rfl ?_
 refine Yd (c187 _) rfl g187_ok.plain rfl ?_;repeat first|refine Xa ?_|refine Zb ?_|refine Za (ld hB0 rfl) ?_|refine Za rfl ?_
 rcases YBE (!(decide (0≤c.power)&&decide (c.power≤999))) with a2|a2
 ·rw[a2];repeat first|refine Xa ?_|refine Zb ?_|refine Yb rfl ?_|refine Zc rfl ?_|refine Zd rfl ?_|refine Xd rfl ?_|refine Za (ld hB0 rfl) ?_|refine Za rfl ?_
  refine Ze ?_;have a2:in999 c.power=false:=by unfold in999; exact(Bool.not_eq_true' _).mp a2
  simp[cdOk,a2]
 rw[a2];repeat first|refine Xa ?_|refine Zb ?_|refine Za (ld hB0 rfl) ?_|refine Za rfl ?_
 refine Yd (c187 _) rfl g187_ok.plain rfl ?_;repeat first|refine Xa ?_|refine Zb ?_|refine Za (ld hB0 rfl) ?_|refine Za rfl ?_
 rcases YBE (!(decide (0≤c.health)&&decide (c.health≤999))) with a3|a3
 ·rw[a3];repeat first|refine Xa ?_|refine Zb ?_|refine Yb rfl ?_|refine Zc rfl ?_|refine Zd rfl ?_|refine Xd rfl ?_|refine Za (ld hB0 rfl) ?_|refine Za rfl ?_
  refine Ze ?_;have a3:in999 c.health=false:=by unfold in999; exact(Bool.not_eq_true' _).mp a3
  simp[cdOk,a3]
 rw[a3];repeat first|refine Xa ?_|refine Zb ?_|refine Za (ld hB0 rfl) ?_|refine Za rfl ?_
 refine Yd (c187 _) rfl g187_ok.plain rfl ?_;repeat first|refine Xa ?_|refine Zb ?_|refine Za (ld hB0 rfl) ?_|refine Za rfl ?_
 rcases YBE (!(decide (0≤c.shield)&&decide (c.shield≤999))) with a4|a4
 ·rw[a4];repeat first|refine Xa ?_|refine Zb ?_|refine Yb rfl ?_|refine Zc rfl ?_|refine Zd rfl ?_|refine Xd rfl ?_|refine Za (ld hB0 rfl) ?_|refine Za rfl ?_
  refine Ze ?_;have a4:in999 c.shield=false:=by unfold in999; exact(Bool.not_eq_true' _).mp a4
  simp[cdOk,a4]
 rw[a4];repeat first|refine Xa ?_|refine Zb ?_|refine Za (ld hB0 rfl) ?_|refine Za rfl ?_
 refine Yd (c187 _) rfl g187_ok.plain rfl ?_;repeat first|refine Xa ?_|refine Zb ?_|refine Za (ld hB0 rfl) ?_|refine Za rfl ?_
 rcases YBE (!(decide (0≤c.aurap)&&decide (c.aurap≤999))) with a5|a5
 ·rw[a5];repeat first|refine Xa ?_|refine Zb ?_|refine Yb rfl ?_|refine Zc rfl ?_|refine Zd rfl ?_|refine Xd rfl ?_|refine Za (ld hB0 rfl) ?_|refine Za rfl ?_
  refine Ze ?_;have a5:in999 c.aurap=false:=by unfold in999; exact(Bool.not_eq_true' _).mp a5
  simp[cdOk,a5]
 rw[a5];repeat first|refine Xa ?_|refine Zb ?_|refine Za (ld hB0 rfl) ?_|refine Za rfl ?_
 refine Yd (c187 _) rfl g187_ok.plain rfl ?_;repeat first|refine Xa ?_|refine Zb ?_|refine Za (ld hB0 rfl) ?_|refine Za rfl ?_
 refine Qb (λa6=>?_) (λa6=>?_)
 ·have a6:in999 c.aurah=false:=by unfold in999; exact(Bool.not_eq_true' _).mp a6
  simp[cdOk,a6]
 have a1:in999 c.cost=true:=by simpa[in999] using a1
 have a2:in999 c.power=true:=by simpa[in999] using a2
 have a3:in999 c.health=true:=by simpa[in999] using a3
 have a4:in999 c.shield=true:=by simpa[in999] using a4
 have a5:in999 c.aurap=true:=by simpa[in999] using a5
 have a6:in999 c.aurah=true:=by simpa[in999] using a6
 have a0:nameOk c.name=true:=by simpa using a0
 have b1:=a1; have b2:=a2; have b3:=a3; have b4:=a4; have b5:=a5; have b6:=a6;simp only[in999,Bool.and_eq_true,decide_eq_true_eq] at b1 b2 b3 b4 b5 b6;simp only[cdOk,a0,a1,a2,a3,a4,a5,a6,Bool.true_and];clear a0 a1 a2 a3 a4 a5 a6;repeat first|refine Xa ?_|refine Zb ?_|refine Za (ld hB0 rfl) ?_|refine Za rfl ?_
 apply cutF (cdSum c=true)
 ·intro hR;cases hu:c.unit with
  |true=>
   try rw[hu]
   repeat first|refine Xa ?_|refine Zb ?_|refine Za (ld hB0 rfl) ?_|refine Za rfl ?_
   rcases YBE (decide (c.health<1)) with h|h
   ·rw[h];repeat first|refine Xa ?_|refine Zb ?_|refine Yb rfl ?_|refine Zc rfl ?_|refine Zd rfl ?_|refine Xd rfl ?_|refine Za (ld hB0 rfl) ?_|refine Za rfl ?_
    refine Ze ?_;have h:¬1≤c.health:=by simp at h; omega
    simp[cdSum,hu,h]
   ·rw[h];repeat first|refine Xa ?_|refine Zb ?_|refine Yb rfl ?_|refine Zc rfl ?_|refine Zd rfl ?_|refine Xd rfl ?_|refine Za (ld hB0 rfl) ?_|refine Za rfl ?_
    try rw[hu]
    repeat first|refine Xa ?_|refine Zb ?_|refine Yb rfl ?_|refine Zc rfl ?_|refine Zd rfl ?_|refine Xd rfl ?_|refine Za (ld hB0 rfl) ?_|refine Za rfl ?_
    refine Yh (hR ?_);have h:1≤c.health:=by simp at h; omega
    simp[cdSum,hu,h]
  |false=>
   try rw[hu]
   repeat first|refine Xa ?_|refine Zb ?_|refine Yb rfl ?_|refine Zc rfl ?_|refine Zd rfl ?_|refine Xd rfl ?_|refine Za (ld hB0 rfl) ?_|refine Za rfl ?_
   try rw[hu]
   repeat first|refine Xa ?_|refine Zb ?_|refine Yb rfl ?_|refine Zc rfl ?_|refine Zd rfl ?_|refine Xd rfl ?_|refine Za (ld hB0 rfl) ?_|refine Za rfl ?_
   rw[wrapI (n:=c.power+c.health) (by omega) (by omega),wrapI (n:=c.power+c.health+c.shield) (by omega) (by omega),wrapI (n:=c.power+c.health+c.shield+c.aurap) (by omega) (by omega),wrapI (n:=c.power+c.health+c.shield+c.aurap+c.aurah) (by omega) (by omega)];rcases YBE (decide (c.power+c.health+c.shield+c.aurap+c.aurah>0)) with h|h
   ·rw[h];repeat first|refine Xa ?_|refine Zb ?_|refine Yb rfl ?_|refine Zc rfl ?_|refine Zd rfl ?_|refine Xd rfl ?_|refine Za (ld hB0 rfl) ?_|refine Za rfl ?_
    refine Ze ?_;have h:¬(c.power+c.health+c.shield+c.aurap+c.aurah≤0):=by simp at h; omega
    simp[cdSum,hu,h]
   rw[h];repeat first|refine Xa ?_|refine Zb ?_|refine Za (ld hB0 rfl) ?_|refine Za rfl ?_
   have h:(c.power+c.health+c.shield+c.aurap+c.aurah≤0):=by simp at h; omega
   have l1:=QA f2;have l2:=QA f3;rw[bigE] at l1 l2;rw[List.length_map,List.length_map,wrapI (n:=(c.dead.length:Int)+(c.dawn.length:Int)) (by omega) (by omega)];refine Qb (λh2=>?_) (λh2=>hR ?_)
   ·have h2:¬(c.dead.length+c.dawn.length=0):=by simp at h2; omega
    have:cdSum c=false:=by rw[cdSum,hu,decide_eq_false h2]; simp
    simp[this]
   ·have h2:(c.dead.length+c.dawn.length=0):=by simp at h2; omega
    rw[cdSum,hu,decide_eq_true h2,decide_eq_true h]; rfl
 intro b7;rw[b7,Bool.true_and];refine Za (ld hB0 rfl) ?_;refine Yd (c110 c f1 f2 f3) rfl g110_ok.plain rfl ?_;refine Za rfl ?_;refine Qb (λh=>?_) (λh=>?_)
 ·have h:¬(cdW c≤200):=by simp at h; unfold cdW; omega
  simp[h]
 have h:cdW c≤200:=by simp at h; unfold cdW; omega
 simp only[h,decide_true,Bool.true_and];subst hB;refine Za rfl (Xf rfl rfl (Za rfl (Xf rfl rfl ?_)));refine Za rfl (Za rfl ?_);refine Xo (c188 cs hcs true c.played 1 f1 (by omega)) rfl g188_ok.plain rfl rfl ?_;rcases YBE (lstOk cs true 1 c.played) with p1|p1
 rotate_left
 ·rw[p1];repeat first|refine Xa ?_|refine Zb ?_|refine Yb rfl ?_|refine Zc rfl ?_|refine Zd rfl ?_|refine Xd rfl ?_|refine Za (ld hB0 rfl) ?_|refine Za rfl ?_
  simp[p1]
 rw[p1];repeat first|refine Xa ?_|refine Zb ?_|refine Za rfl ?_
 refine Xo (c188 cs hcs false c.dead 1 f2 (by omega)) rfl g188_ok.plain rfl rfl ?_;repeat first|refine Xa ?_|refine Zb ?_|refine Za rfl ?_
 rcases YBE (lstOk cs false 1 c.dead) with p2|p2
 rotate_left
 ·rw[p2];repeat first|refine Xa ?_|refine Zb ?_|refine Yb rfl ?_|refine Zc rfl ?_|refine Zd rfl ?_|refine Xd rfl ?_|refine Za rfl ?_
  simp[p1,p2]
 rw[p2];repeat first|refine Xa ?_|refine Zb ?_|refine Za rfl ?_
 refine Xo (c188 cs hcs false c.dawn 1 f3 (by omega)) rfl g188_ok.plain rfl rfl ?_;repeat first|refine Xa ?_|refine Zb ?_|refine Za rfl ?_
 simp[p1,p2]
theorem cdLd(x:Cd):partA true 0 12 (cdC x)=some (.agg (cdC x)):=rfl
theorem Zbl(x:Cd):partA false 11 1 (cdC x)=some (iv x.pl):=rfl
theorem c113(cs:List Cd)(hf:QF cs=true):PC 113 [cdV cs] (.agg [iv (cdsChk cs).1,iv (cdsChk cs).2]):=by
 simp only[QF,Bool.and_eq_true,decide_eq_true_eq] at hf;obtain⟨f0,f1⟩:=hf;have f02:=f0;rw[bigE] at f02;refine Qc hP g113_ok rfl rfl ?_;unfold g113;refine Xf rfl rfl (Za rfl (Za rfl ?_));refine Qb (λh=>?_) (λh=>?_)
 ·have h:240<cs.length:=by simp at h; omega
  refine Za rfl (Xf rfl rfl (Zt rfl ?_));rw[cdsChk,if_pos h]
 have h:¬240<cs.length:=by simp at h; omega
 rw[cdsChk,if_neg h];refine Qk (ι:=Nat) (λi vs σ=>vs=[iv i]∧σ=[.box [iv 0,iv 0]]∧i≤cs.length∧cdsGo cs [] cs=cdsGo cs (cs.take i) (cs.drop i)) (λi=>cs.length-i) 0 ⟨rfl,rfl,by omega,by simp⟩ ?_;rintro i vs σ again ⟨rfl,rfl,hi,hu⟩ hag;refine Za rfl (Za rfl ?_);refine Qb (λh=>?_) (λh=>?_);rotate_left
 ·have h:i=cs.length:=by simp at h; omega
  subst h;rw[List.drop_length,cdsGo] at hu;refine Za rfl (Xf rfl rfl (Zt rfl ?_));rw[hu]
 have hi:i<cs.length:=by simpa using h
 have hdr:cs.drop i=cs[i]::cs.drop (i+1):=by rw[YLD hi]
 have hix:=λ(s:List ABlk)=>Yo s cdC false false 12 cs .i64 i hi;have hfi:=List.all_eq_true.1 f1 _ (List.getElem_mem hi);have htk:cs.take (i+1)=cs.take i++[cs[i]]:=Zu cs i hi;generalize cs[i]=c at hdr hix hfi htk;rw[hdr,cdsGo] at hu;refine Qk (ι:=Nat) (λj vs σ=>vs=[iv j]∧σ=[.box [iv 0,iv 0]]∧j≤i∧(cs.take i).any (λd=>d.name==c.name)=((cs.take i).drop j).any (λd=>d.name==c.name)) (λj=>i-j) 0 ⟨rfl,rfl,by omega,by simp⟩ ?_;rintro j vs σ again2 ⟨rfl,rfl,hj,hv⟩ hag2;refine Za rfl ?_;refine Qb (λh=>?_) (λh=>?_)
 ·have h:j<i:=by simpa using h
  have hjx:j<(cs.take i).length:=by rw[List.length_take]; omega
  have hdr2:(cs.take i).drop j=(cs.take i)[j]::(cs.take i).drop (j+1):=by rw[YLD hjx]
  rw[List.getElem_take] at hdr2;rw[hdr2,List.any_cons] at hv;refine Za (Yo _ cdC false false 12 cs .i64 j (by omega)) (Za rfl (Za (ldr (cdLd0 _)) (Za (hix _) (Za rfl (Za (ldr (cdLd0 _)) (Za (Zf ..) ?_))))));refine Qb (λh=>?_) (λh=>?_)
  ·rw[h,Bool.true_or] at hv;rw[hv,if_pos rfl] at hu;refine Za (hix _) (Za rfl (Za (ldr (Zbl _)) (Za rfl (Xf rfl rfl (Zt rfl ?_)))));rw[hu]
  ·rw[h,Bool.false_or] at hv;refine Za (Zk ..) ?_;rw[Yg (n:=j) (by omega)];exact hag2 (j+1) _ _ (by omega) ⟨rfl,rfl,by omega,hv⟩
 have h:j=i:=by simp at h; omega
 subst h;rw[List.drop_eq_nil_of_le (by rw[List.length_take]; omega),List.any_nil] at hv;rw[hv] at hu
 replace hu:cdsGo cs [] cs=if cdOk cs c then cdsGo cs (cs.take j++[c]) (cs.drop (j+1)) else (130,c.pl):=hu
 rw[←htk] at hu;refine Za (hix _) (Za (ldr (cdLd _)) ?_);refine Yd (c145 cs f0 c hfi) rfl g145_ok.plain rfl ?_;refine Za rfl ?_;refine Qb (λh=>?_) (λh=>?_)
 ·have h:cdOk cs c=false:=by simpa using h
  rw[h] at hu
  replace hu:cdsGo cs [] cs=(130,c.pl):=hu
  refine Za (hix _) (Za rfl (Za (ldr (Zbl _)) (Za rfl (Xf rfl rfl (Zt rfl ?_)))));rw[hu]
 ·have h:cdOk cs c=true:=by simpa using h
  rw[h,if_pos rfl] at hu;refine Za (Zk ..) ?_;rw[Yg (n:=j) (by omega)];exact hag (j+1) _ _ (by omega) ⟨rfl,rfl,by omega,hu⟩
end Go.Ah.Tz
end
section
namespace Go.Ah.Tz
open Go.Proofs.Tryz (prog)
def lbN(a:Int):Int:=if a<0∨3<a then 3 else a
def joinL(a b:Int):Int:=if lbN a=lbN b∨lbN b=0 then lbN a else if lbN a=0 then lbN b else 3
def QaK(a b:Int):Bool:=decide (joinL a b=joinL b b)
mutual
def nmL:Nm→Int
 |.mk op _ _ kids=>if 8≤op∧op≤12 then nmLs (if op=6 then 3 else 0) kids else if op=6 then 3 else 0
def nmLs:Int→List Nm→Int
 |n,[]=>n
 |n,x::l=>nmLs (joinL n (nmL x)) l
end
theorem Xcm(x:Nm):nmL x=if 8≤x.op∧x.op≤12 then nmLs (if x.op=6 then 3 else 0) x.kids else if x.op=6 then 3 else 0:=by cases x; rfl
mutual
def cnL:Cn→Int
 |.mk op who _ nums kids=>if op=6 then (if who=0 then 1 else if who=1 then 2 else 3) else cnLs (nmLs 0 nums) kids
def cnLs:Int→List Cn→Int
 |n,[]=>n
 |n,x::l=>cnLs (joinL n (cnL x)) l
end
theorem Zcj(x:Cn):cnL x=if x.op=6 then (if x.who=0 then 1 else if x.who=1 then 2 else 3) else cnLs (nmLs 0 x.nums) x.kids:=by cases x; rfl
mutual
def efL (u:Int):Ef→Bool
 |.mk op _ n _ c thn els=>if op=5 then QaK (joinL u (nmL n)) 1 else if op=8 then efsL (joinL u (cnL c)) thn&&efsL (joinL u (cnL c)) els else if op=0∨op=1∨op=2∨op=3 then decide (joinL u (nmL n)=0) else decide (joinL u u=0)
def efsL (u:Int):List Ef→Bool
 |[]=>true
 |x::l=>efL u x&&efsL u l
end
theorem Ya0(u:Int)(x:Ef):efL u x=if x.op=5 then QaK (joinL u (nmL x.n)) 1 else if x.op=8 then efsL (joinL u (cnL x.c)) x.thn&&efsL (joinL u (cnL x.c)) x.els else if x.op=0∨x.op=1∨x.op=2∨x.op=3 then decide (joinL u (nmL x.n)=0) else decide (joinL u u=0):=by cases x; rfl
attribute [local irreducible] Ans.rd Ans.pu Ans.wr Ans.dr Ans.gr Ans.gw Ans.gl Ans.gd Ans.opt joinK W
set_option maxHeartbeats 1000000
theorem XB{P:Program}{GL:Globs}{c d:Bool}{K:AVal→Prop}{r1:SRes}{f2:AVal→SRes}{σ:List ABlk}{v1:AVal}(h1:r1=.ok v1 [] [])(h2:f2 v1=.ok (.bool d) [] [])(hK:K (.bool (c||d))) :
  (W P GL).gr (.bool c) false (λk=>(W P GL).rd r1 k) λt1=>(W P GL).gr (.bool c) false (λk=>(W P GL).rd (f2 t1) k) λt2=>(W P GL).rd (Zn [.bool c,.bool true,t2] σ) K:=by
 cases c with
 |false=>exact Xa (Za h1 (Xa (Za h2 (Za rfl hK))))
 |true=>exact Yb rfl (Yb rfl (Za rfl hK))
theorem X8{P:Program}{GL:Globs}{c d:Bool}{K:AVal→Prop}{r1:SRes}{f2 f3:AVal→SRes}{σ:List ABlk}{v1 v2:AVal}{q1 q2 q3:List Nat}(h1:r1=.ok v1 q1 [])(h2:f2 v1=.ok v2 q2 [])(h3:f3 v2=.ok (.bool d) q3 [])(hK:K (.bool (c&&d))) :
  (W P GL).gr (.bool c) true (λk=>(W P GL).rd r1 k) λt1=>(W P GL).gr (.bool c) true (λk=>(W P GL).rd (f2 t1) k) λt2=>(W P GL).gr (.bool c) true (λk=>(W P GL).rd (f3 t2) k) λt3=>(W P GL).rd (Zn [.bool c,t3,.bool false] σ) K:=by
 cases c with
 |true=>exact Xa (Za h1 (Xa (Za h2 (Xa (Za h3 (Za rfl hK))))))
 |false=>exact Yb rfl (Yb rfl (Yb rfl (Za rfl hK)))
theorem c190(a b:Int):PC 190 [iv8 a,iv8 b] (iv8 (joinL a b)):=by
 refine Qc hP g190_ok rfl rfl ?_;unfold g190;refine Za rfl (XB rfl rfl ?_);refine Ql λk1 hk1=>?_;have kk:k1 [iv8 (lbN a)] []:=by
  rw[hk1]; clear hk1 k1;refine Za rfl (XB rfl rfl ?_);refine Ql λk1 hk1=>?_;have kk:k1 [iv8 (lbN b)] []:=by
   rw[hk1]; clear hk1 k1;unfold joinL;generalize lbN a=a;generalize lbN b=b;refine Za (Yf ..) ?_;have hp:∀K:AVal→Prop,K (.bool (decide (a=b)||decide (b=0)))→VV.gr (.bool (decide (a=b))) false (λk=>VV.rd (Qh [iv8 b] []) k) λt22=>VV.gr (.bool (decide (a=b))) false (λk=>VV.rd (Yi .eql false [t22,(.int .i8 0)] []) k) λt23=>VV.rd (Zn [.bool (decide (a=b)),(.bool true),t23] []) K:=λK hK=>XB rfl (Yf ..) hK;refine hp _ ?_;refine Qb (λh=>?_) (λh=>?_)
   ·rw[if_pos (by simpa using h)]; rfl
   have h:¬(a=b∨b=0):=by simpa using h
   rw[if_neg h];refine Za (Yf ..) ?_;refine Qb (λh=>?_) (λh=>?_)
   ·rw[if_pos (by simpa using h)]; rfl
   ·rw[if_neg (by simpa using h)]
  refine Qb (λh=>?_) (λh=>?_)
  ·rw[lbN,if_pos (by simpa using h)] at kk; exact kk
  ·rw[lbN,if_neg (by simpa using h)] at kk; exact kk
 refine Qb (λh=>?_) (λh=>?_)
 ·rw[lbN,if_pos (by simpa using h)] at kk; exact kk
 ·rw[lbN,if_neg (by simpa using h)] at kk; exact kk
theorem c189(a b:Int):PC 189 [iv8 a,iv8 b] (.bool (QaK a b)):=by
 refine Qc hP g189_ok rfl rfl ?_;unfold g189;refine Yd (c190 a b) rfl g190_ok.plain rfl ?_;refine Yd (c190 b b) rfl g190_ok.plain rfl ?_;refine Za (Yf ..) ?_;rfl
theorem c191':∀(k:Nat) (x:Nm),SizeOf.sizeOf x≤k→nmFit x=true→PC 191 [.agg (nmC x)] (iv8 (nmL x))
 |0,x,h,_=>by cases x; simp at h
 |k+1,x,hk,hf=>by
  rw[Qx];refine Qc hP g191_ok rfl rfl ?_;unfold g191;refine Xf rfl rfl ?_;rw[Xcm];have hlen:=ZX hf;rw[bigE] at hlen;generalize hB:([]++[ABlk.box [iv8 x.op,iv x.n,iv8 x.who,.rsl false false 4 (x.kids.map nmC)]]:List ABlk)=base;have hB0:hget base 0=.box [iv8 x.op,iv x.n,iv8 x.who,.rsl false false 4 (x.kids.map nmC)]:=by rw[←hB]; rfl
  clear hB;refine Za rfl (Za (ld hB0 rfl) (Za (Yf ..) ?_));refine Ql λk1 hk1=>?_;have kk:k1 [iv8 (if x.op=6 then 3 else 0)] base:=by
   rw[hk1]; clear hk1 k1;generalize (if x.op=6 then (3:Int) else 0)=n0;refine Za rfl (Za (ld hB0 rfl) (Za rfl ?_));refine X8 rfl (ld hB0 rfl) rfl ?_;rw[show (decide (x.op ≥ 8)&&decide (x.op≤12))=decide (8≤x.op∧x.op≤12) by simp];refine Qb (λh=>?_) (λh=>?_);rotate_left
   ·rw[if_neg (by simpa using h)]; rfl
   rw[if_pos (by simpa using h)];refine Qk (ι:=Nat) (λi vs σ=>∃n,vs=[iv i,iv8 n]∧σ=base∧i≤x.kids.length∧nmLs n0 x.kids=nmLs n (x.kids.drop i)) (λi=>x.kids.length-i) 0 ⟨n0,rfl,rfl,by omega,by simp⟩ ?_;rintro i vs σ again ⟨n,rfl,rfl,hi,hu⟩ hag;repeat first|refine Za (ld hB0 rfl) ?_|refine Za rfl ?_
   refine Qb (λh=>?_) (λh=>?_)
   ·have h:i<x.kids.length:=by simpa using h
    have hdr:x.kids.drop i=x.kids[i]::x.kids.drop (i+1):=by rw[YLD h]
    rw[hdr,nmLs] at hu;have hm:x.kids[i]∈x.kids:=List.getElem_mem h;refine Za rfl (Za (ld hB0 rfl) (Za (Yo _ nmC _ _ _ x.kids _ i h) (Za (ldr (nmLd _)) ?_)));refine Yd (c191' k _ (by have:=ZV hm; omega) (YH hf hm)) rfl g191_ok.plain (nmRo _) ?_;refine Yd (c190 _ _) rfl g190_ok.plain rfl ?_;refine Za (Zk ..) ?_;rw[Yg (n:=i) (by omega)];exact hag (i+1) _ _ (by omega) ⟨_,rfl,rfl,by omega,hu⟩
   ·have h:i=x.kids.length:=by simp at h; omega
    subst h;rw[List.drop_length,nmLs] at hu;rw[hu]; rfl
  refine Qb (λh=>?_) (λh=>?_)
  ·have e:x.op=6:=by simpa using h
   rw[if_pos e] at kk; exact kk
  ·have e:x.op≠6:=by simpa using h
   rw[if_neg e] at kk; exact kk
theorem c191(x:Nm)(hf:nmFit x=true):PC 191 [.agg (nmC x)] (iv8 (nmL x)):=c191' _ x (Nat.le_refl _) hf
theorem c192':∀(k:Nat) (x:Cn),SizeOf.sizeOf x≤k→cnFit x=true→PC 192 [.agg (cnC x)] (iv8 (cnL x))
 |0,x,h,_=>by cases x; simp at h
 |k+1,x,hk,hf=>by
  rw[ZM];refine Qc hP g192_ok rfl rfl ?_;unfold g192;refine Xf rfl rfl ?_;rw[Zcj];have hl1:=QN hf;have hl2:=XN hf;rw[bigE] at hl1 hl2;generalize hB:([]++[ABlk.box [iv8 x.op,iv8 x.who,.str x.name,.rsl false false 4 (x.nums.map nmC),.rsl false false 5 (x.kids.map cnC)]]:List ABlk)=base;have hB0:hget base 0=.box [iv8 x.op,iv8 x.who,.str x.name,.rsl false false 4 (x.nums.map nmC),.rsl false false 5 (x.kids.map cnC)]:=by rw[←hB]; rfl
  clear hB;refine Za rfl (Za (ld hB0 rfl) (Za (Yf ..) ?_));refine Qb (λh=>?_) (λh=>?_)
  ·rw[if_pos (by simpa using h)];refine Za rfl (Za (ld hB0 rfl) (Za (Yf ..) ?_));refine Qb (λh=>?_) (λh=>?_)
   ·rw[if_pos (by simpa using h)]
   rw[if_neg (by simpa using h)];refine Za (Yf ..) ?_;refine Qb (λh=>?_) (λh=>?_)
   ·rw[if_pos (by simpa using h)]
   ·rw[if_neg (by simpa using h)]
  rw[if_neg (by simpa using h)];refine Qk (ι:=Nat) (λi vs σ=>∃n,vs=[iv i,iv8 n]∧σ=base∧i≤x.nums.length∧nmLs 0 x.nums=nmLs n (x.nums.drop i)) (λi=>x.nums.length-i) 0 ⟨0,rfl,rfl,by omega,by simp⟩ ?_;rintro i vs σ again ⟨n,rfl,rfl,hi,hu⟩ hag;repeat first|refine Za (ld hB0 rfl) ?_|refine Za rfl ?_
  refine Qb (λh=>?_) (λh=>?_)
  ·have h:i<x.nums.length:=by simpa using h
   have hdr:x.nums.drop i=x.nums[i]::x.nums.drop (i+1):=by rw[YLD h]
   rw[hdr,nmLs] at hu;have hm:x.nums[i]∈x.nums:=List.getElem_mem h;refine Za rfl (Za (ld hB0 rfl) (Za (Yo _ nmC _ _ _ x.nums _ i h) (Za (ldr (nmLd _)) ?_)));refine Yd (c191 _ (YW hf hm)) rfl g191_ok.plain (nmRo _) ?_;refine Yd (c190 _ _) rfl g190_ok.plain rfl ?_;refine Za (Zk ..) ?_;rw[Yg (n:=i) (by omega)];exact hag (i+1) _ _ (by omega) ⟨_,rfl,rfl,by omega,hu⟩
  have h:i=x.nums.length:=by simp at h; omega
  subst h;rw[List.drop_length,nmLs] at hu;rw[hu];clear hag hu hi;refine Qk (ι:=Nat) (λi vs s=>∃m,vs=[iv i,iv8 m]∧s=σ∧i≤x.kids.length∧cnLs n x.kids=cnLs m (x.kids.drop i)) (λi=>x.kids.length-i) 0 ⟨n,rfl,rfl,by omega,by simp⟩ ?_;rintro i vs s again ⟨m,rfl,rfl,hi,hu⟩ hag;repeat first|refine Za (ld hB0 rfl) ?_|refine Za rfl ?_
  refine Qb (λh=>?_) (λh=>?_)
  ·have h:i<x.kids.length:=by simpa using h
   have hdr:x.kids.drop i=x.kids[i]::x.kids.drop (i+1):=by rw[YLD h]
   rw[hdr,cnLs] at hu;have hm:x.kids[i]∈x.kids:=List.getElem_mem h;refine Za rfl (Za (ld hB0 rfl) (Za (Yo _ cnC _ _ _ x.kids _ i h) (Za (ldr (cnLd _)) ?_)));refine Yd (c192' k _ (by have:=Zak hm; omega) (ZW hf hm)) rfl g192_ok.plain (cnRo _) ?_;refine Yd (c190 _ _) rfl g190_ok.plain rfl ?_;refine Za (Zk ..) ?_;rw[Yg (n:=i) (by omega)];exact hag (i+1) _ _ (by omega) ⟨_,rfl,rfl,by omega,hu⟩
  ·have h:i=x.kids.length:=by simp at h; omega
   subst h;rw[List.drop_length,cnLs] at hu;rw[hu]; rfl
theorem c192(x:Cn)(hf:cnFit x=true):PC 192 [.agg (cnC x)] (iv8 (cnL x)):=c192' _ x (Nat.le_refl _) hf
end Go.Ah.Tz
end
