/- Part of the proof that TurnAll holds of the program for arguments that together hold at most 1048576 values and letters; no other condition. -/
import Derived.Test.YtflcpnaigpgciaaGreatDoorU2
set_option linter.all false
section
namespace Go.Ah.Tz
open Go.Proofs.Tryz (prog)
set_option maxRecDepth 100000
def g73:GFun:=λA xs c f=>match xs with
 |[x0,x1]=>
 A.k 120 [x0,x1] c λe c=>A.b .eql e (jv (-1)) c λi=>A.test i (f x0 c) (A.b .add e (jv 1) c λj=>A.loop (λl d c=>A.r Xe x0 c λm=>A.b .lss (h0 d) m c λn=>
 A.test n (joinK (λg=>A.s (Yb 1) x0 (h0 d) c λo=>A.a o c λh=>A.call .callv [x1,h] c λp c=>A.r (Qn .not) p c λq=>A.test q (A.s (Yb 1) x0 (h1 d) c λt=>
 A.ws (Qb 1) t h c λ_ c=>A.b .add (h1 d) (jv 1) c λu=>g [u] c) (g [(h1 d)] c)) (λv c=>A.b .add (h0 d) (jv 1) c λw=>l [w,(h0 v)] c)) (A.s (Xad 1) x0 (h1 d) c λy=>
 A.wr (Zav 1 [jv 0] [y] c) c λ_ c=>A.s (Qad 1) x0 (h1 d) c λz=>f z c)) [j,e] c)
 |_=>A.stop
theorem g73_ok:GQ 73 2 g73:=gq2 [none,none,some [6,5],none,some [5],none] λ_ _ _ _ _ _=>by kernel_rfl
def g74:GFun:=λA xs c d=>match xs with
 |[x0,x1]=>
 A.a x1 c λe=>A.b .eql x0 e c λf=>d f c
 |_=>A.stop
theorem g74_ok:GQ 74 2 g74:=gq2 [] λ_ _ _ _ _ _=>by kernel_rfl
def g75:GFun:=λA xs c j=>match xs with
 |[x0,x1,x2]=>
 A.r Qa x0 c λl=>A.r (Ya 1) l c λm=>A.r (Ya 7) m c λn=>A.s (Qg 2 8) n x1 c λo=>A.r (Ya 6) o c λp=>
 A.a p c λf=>A.r Xe f c λq=>A.loop (λt d c=>A.b .lss (h0 d) q c λu=>A.test u (joinK (λg=>A.s (Yb 4) f (h0 d) c λv=>A.r (Xc true 4) v c λw=>
 A.wr (Yf zq4 [] c) c λh c=>A.ws (Qb 4) h w c λ_ c=>A.r Qa x0 c λy=>A.r (Ya 0) y c λz=>A.a z c λa0=>A.r Qa a0 c λa1=>
 A.r (Ya 0) a1 c λa2=>A.a a2 c λa3=>A.r (Ya 1) h c λa4=>A.a a4 c λa5=>A.s (Yb 12) a3 a5 c λe=>A.b .eql (h0 d) x2 c λa6=>
 A.test a6 (A.r Qa e c λa7=>A.r (Ya 3) a7 c λa8=>A.a a8 c λa9=>A.b .add (h1 d) a9 c λb0=>A.r Qa e c λb1=>A.r (Ya 4) b1 c λb2=>
 A.a b2 c λb3=>A.b .add (h2 d) b3 c λb4=>g [b0,b4] c) (A.r Qa e c λb5=>A.r (Ya 6) b5 c λb6=>A.a b6 c λb7=>A.b .add (h1 d) b7 c λb8=>
 A.r Qa e c λb9=>A.r (Ya 7) b9 c λc0=>A.a c0 c λc1=>A.b .add (h2 d) c1 c λc2=>g [b8,c2] c)) (λi c=>A.b .add (h0 d) (jv 1) c λc3=>
 t [c3,(h0 i),(h1 i)] c)) (j (.tup [(h1 d),(h2 d)]) c)) zq8 c
 |_=>A.stop
theorem g75_ok:GQ 75 3 g75:=gq3 [none,some [20,6,7],none,some [6,7],none] λ_ _ _ _ _ _ _=>by kernel_rfl
def g76:GFun:=λA xs c f=>match xs with
 |[x0]=>
 A.w1 Qk x0 c λe c=>A.loop (λg d c=>A.r (Ya 3) e c λh=>A.a h c λi=>A.r Xe i c λj=>A.b .lss (h0 d) j c λl=>A.test l (A.r (Ya 3) e c λm=>
 A.a m c λn=>A.s (Yb 4) n (h0 d) c λo=>A.r (Xc true 4) o c λp=>A.k 76 [p] c λq c=>A.b .add (h1 d) q c λt=>A.s QW t (jv 1073741824) c λu=>
 A.b .add (h0 d) (jv 1) c λv=>g [v,u] c) (f (h1 d) c)) [jv 0,jv 1] c
 |_=>A.stop
theorem g76_ok:GQ 76 1 g76:=gq1 [none,some [4,3],none,none] λ_ _ _ _ _=>by kernel_rfl
def g77:GFun:=λA xs d f=>match xs with
 |[x0,x1]=>
 A.w1 Qk x1 d λe d=>A.r (Ya 0) e d λt=>A.a t d λu=>A.b .geq u (.int .i8 8) d λj=>A.tr j (Ya 0) e d λv=>A.ta j v d λw=>
 A.tb j .leq w (.int .i8 12) d λy=>A.c j y (.bool false) d λz=>joinK (λq=>A.test z (q [jv 2] d) (q [jv 0] d)) (λv9 d=>A.r (Ya 0) e d λa0=>
 A.a a0 d λa1=>A.b .lss a1 (.int .i8 0) d λl=>A.fr l (Ya 0) e d λa2=>A.fa l a2 d λa3=>A.fb l .gtr a3 (.int .i8 12) d λa4=>A.c l (.bool true) a4 d λg=>
 A.fr g (Ya 3) e d λa5=>A.fa g a5 d λa6=>A.fr g Xe a6 d λa7=>A.fr g Xh (h0 v9) d λa8=>A.fb g .neq a7 a8 d λa9=>A.c g (.bool true) a9 d λb0=>
 A.test b0 (f (.bool false) d) (A.loop (λb1 p d=>A.r (Ya 3) e d λb2=>A.a b2 d λb3=>A.r Xe b3 d λb4=>A.b .lss (h0 p) b4 d λb5=>A.test b5 (
 A.r (Ya 3) e d λb6=>A.a b6 d λb7=>A.s (Yb 4) b7 (h0 p) d λb8=>A.r (Xc true 4) b8 d λb9=>A.k 77 [x0,b9] d λc0 d=>A.r (Qn .not) c0 d λc1=>
 A.test c1 (f (.bool false) d) (A.b .add (h0 p) (jv 1) d λc2=>b1 [c2] d)) (A.r (Ya 0) e d λc3=>A.a c3 d λc4=>A.b .eql c4 (.int .i8 0) d λc5=>
 A.test c5 (A.r (Ya 1) e d λc6=>A.a c6 d λc7=>A.b .geq c7 (jv 0) d λm=>A.tr m (Ya 1) e d λc8=>A.ta m c8 d λc9=>A.tb m .leq c9 (jv 999) d λd0=>
 A.c m d0 (.bool false) d λn=>A.tr n (Ya 2) e d λd1=>A.ta n d1 d λd2=>A.tb n .eql d2 (.int .i8 0) d λd3=>A.c n d3 (.bool false) d λd4=>
 f d4 d) (A.r (Ya 1) e d λd5=>A.a d5 d λd6=>A.b .neq d6 (jv 0) d λd7=>A.test d7 (f (.bool false) d) (A.r (Ya 0) e d λd8=>A.a d8 d λd9=>
 A.b .geq d9 (.int .i8 1) d λo=>A.tr o (Ya 0) e d λe0=>A.ta o e0 d λe1=>A.tb o .leq e1 (.int .i8 4) d λe2=>A.c o e2 (.bool false) d λe3=>
 A.test e3 (A.r (Ya 2) e d λe4=>A.a e4 d λe5=>A.k 121 [e5] d λe6 d=>f e6 d) (A.r (Ya 2) e d λe7=>A.a e7 d λe8=>A.b .eql e8 (.int .i8 0) d λh=>
 A.tr h (Ya 0) e d λe9=>A.ta h e9 d λf0=>A.tb h .neq f0 (.int .i8 7) d λf1=>A.tr h Xh f1 d λi=>A.fr i Xh x0 d λf2=>A.fr i Qa f2 d λf3=>
 A.fr i (Ya 1) f3 d λf4=>A.fa i f4 d λf5=>A.tc h i (.bool true) f5 d λf6=>A.c h f6 (.bool false) d λf7=>f f7 d))))) [jv 0] d))
 |_=>A.stop
theorem g77_ok:GQ 77 2 g77:=gq2 [some [5],none,none,some [6],none,none,none,none,none,none] λ_ _ _ _ _ _=>by kernel_rfl
def g78:GFun:=λA xs c h=>match xs with
 |[x0]=>
 A.wr (Yf [.nils,.nils] [] c) c λe c=>A.wr (Yf [jv 0,jv 0] [] c) c λf c=>A.k 122 [x0] c λi c=>A.r (Qd 0) i c λl=>A.r (Qd 1) i c λm=>
 A.wr (Yf [.nils,.nils] [] c) c λg c=>A.wr (Yf [jv 0,jv 0] [] c) c λd c=>A.ws (Qb 2) g l c λ_ c=>A.ws (Qb 2) d m c λ_ c=>
 A.r (Ya 0) d c λn=>A.a n c λo=>A.b .eql o (jv 0) c λp=>joinK (λj=>A.test p (A.r (Xc true 2) g c λq=>A.k 67 [q] c λs c=>A.ws (Qb 2) d s c λ_ c=>
 j [] c) (j [] c)) (λa4 c=>A.r (Ya 0) d c λt=>A.a t c λu=>A.b .neq u (jv 0) c λv=>A.test v (A.pu (Xf [.nils,.nils] [] [] c) λw=>
 A.dr (Xc true 2 [d] c) c λy z c=>A.dr (Qb 2 [e,w] c) c λ_ a0 c=>A.dr (Qb 2 [f,y] c) c λ_ a1 c=>A.gd (Xg [[],[],[0],[0,1,2]] [([],[]),z,a0,a1]) <|
 A.opt (cellV true 2 e c) λr22=>A.opt (cellV true 2 f c) λr23=>h (.tup [r22,r23]) c) (A.r (Xc true 2) g c λa2=>A.rd (Xf [jv 0,jv 0] [] [] c) λa3=>
 A.ws (Qb 2) e a2 c λ_ c=>A.ws (Qb 2) f a3 c λ_ c=>A.opt (cellV true 2 e c) λr26=>A.opt (cellV true 2 f c) λr27=>h (.tup [r26,r27]) c))
 |_=>A.stop
theorem g78_ok:GQ 78 1 g78:=gq1 [some [],none] λ_ _ _ _ _=>by kernel_rfl
def g83:GFun:=λA xs c f=>match xs with
 |[x0,x1,x2]=>
 A.r Qa x2 c λn=>A.r (Ya 1) n c λo=>A.a o c λp=>A.b .lss p (jv 0) c λg=>joinK (λe=>A.test g (e [g] c) (A.r Qa x2 c λq=>
 A.r (Ya 1) q c λs=>A.a s c λt=>A.b .gtr t (jv 1) c λh=>A.test h (e [h] c) (A.r Qa x2 c λu=>A.r (Ya 0) u c λv=>A.a v c λw=>
 A.b .lss w (.int .i8 0) c λi=>A.test i (e [i] c) (A.r Qa x2 c λy=>A.r (Ya 0) y c λz=>A.a z c λa0=>A.b .gtr a0 (.int .i8 4) c λj=>
 A.test j (e [j] c) (A.k 126 [x2] c λa1 c=>A.r (Qn .not) a1 c λa2=>e [a2] c))))) (λv5 c=>A.test (h0 v5) (f (jv 2) c) (A.pu (Qa [x2] c) λa3=>
 A.pu (Ya 0 [a3] c) λa4=>A.dr (Ye [a4] c) c λa5 a6 c=>A.pu (Yh .neq false [a5,.int .i8 4] c) λd=>A.gr d true (λk=>A.pu (Xh [x2] c) k) λa7=>
 A.gr d true (λk=>A.pu (Qa [a7] c) k) λa8=>A.gr d true (λk=>A.pu (Ya 1 [a8] c) k) λa9=>A.gl d true (λk=>A.dr (Ye [a9] c) c k) c λb0 b1 c=>
 A.gr d true (λk=>A.pu (Xh [x1] c) k) λb2=>A.gr d true (λk=>A.pu (Qa [b2] c) k) λb3=>A.gl d true (λk=>A.dr (Xc true 23 [b3] c) c k) c λb4 b5 c=>
 A.gl d true (λk=>A.dcall (.call 37) [b4] c k) c λb6 b7 c=>A.gr d true (λk=>A.pu (Yh .neq false [b0,b6] c) k) λb8=>A.pu (Yi [d,b8,.bool false] c) λl=>
 A.gd (Xg [[],[0],[0,1],[0,1,2],[0,1,2,3],[0,1,2,3,4],[0,1,2,3,4,5],[0,1,2,3,4,5,6],[0,1,2,3,4,5,6,7],[0,1,2,3,4,5,6,7,8],[0,1,2,3,4,5],[0,1,2,3,4,5,10],[0,1,2,3,4,5,10,11],[0,1,2,3,4,5,10,11,12],[0,1,2,3,4,5,6,7,8,9,10,11,12,13],[0,1,2,3,4,5,6,7,8,9,10,11,12,13,14],[0,1,2,3,4,5,6,7,8,9,10,11,12,13,14,15]] [([],[]),([],[]),([],[]),a6,([],[]),([],[]),([],[]),([],[]),([],[]),b1,([],[]),([],[]),b5,b7,([],[]),([],[]),([],[])]) <|
 joinK (λm=>A.test l (m [l] c) (A.dcall (.call 127) [] c λb9 c0 c=>A.pu (Qa [x2] c) λc1=>A.pu (Ya 0 [c1] c) λc2=>A.dr (Ye [c2] c) c λc3 c4 c=>
 A.pu (Q0 false 5 1 [b9,c3] c) λc5=>A.pu (Xf [.nilp,.nilp,.nilp] [(0,1),(1,1),(2,1)] [x0,x1,x2] c) λc6=>A.dcall .callv [c5,c6] c λc7 c8 c=>
 A.pu (Qn .not [c7] c) λc9=>A.gd (Xg [[],[],[1],[1,2],[1,2,3],[0,1,2,3,4],[],[],[],[6,7,8],[0,1,2,3,4,5,6,7,8,9],[0,1,2,3,4,5,6,7,8,9,10],[0,1,2,3,4,5,6,7,8,9,10,11]] [c0,([],[]),([],[]),([],[]),c4,([],[]),([],[]),([],[]),([],[]),([],[]),c8,([],[]),([],[])]) <|
 m [c9] c)) (λd0 c=>A.test (h0 d0) (f (jv 210) c) (f (jv 0) c))))
 |_=>A.stop
theorem g83_ok:GQ 83 3 g83:=gq3 [none,some [7],none,none,none,none,some [31],none] λ_ _ _ _ _ _ _=>by kernel_rfl
def g84:GFun:=λA xs d l=>match xs with
 |[x0]=>
 A.w1 Qk x0 d λe d=>A.r (Ya 0) e d λm=>A.a m d λn=>A.b .neq n (.int .i8 0) d λf=>A.tr f (Ya 2) e d λo=>A.ta f o d λp=>
 A.tb f .neq p (jv 0) d λq=>A.tr f Xh q d λj=>A.fr j (Ya 3) e d λs=>A.fa j s d λt=>A.fb j .neq t (jv (-1)) d λu=>A.tc f j (.bool true) u d λv=>
 A.c f v (.bool false) d λw=>A.test w (l (.bool false) d) (A.r (Ya 0) e d λy=>A.a y d λz=>A.b .eql z (.int .i8 1) d λh=>A.fr h (Ya 4) e d λa0=>
 A.fa h a0 d λa1=>A.fr h Xe a1 d λa2=>A.fb h .eql a2 (jv 0) d λa3=>A.c h (.bool true) a3 d λg=>A.tr g (Ya 0) e d λa4=>A.ta g a4 d λa5=>
 A.tb g .eql a5 (.int .i8 2) d λa6=>A.tr g Xh a6 d λi=>A.fr i (Ya 5) e d λa7=>A.fa i a7 d λa8=>A.fr i Xe a8 d λa9=>A.fb i .eql a9 (jv 0) d λb0=>
 A.tc g i (.bool true) b0 d λb1=>A.c g b1 (.bool false) d λb2=>l b2 d)
 |_=>A.stop
theorem g84_ok:GQ 84 1 g84:=gq1 [none] λ_ _ _ _ _=>by kernel_rfl
def g85:GFun:=λA xs d l=>match xs with
 |[x0,x1]=>
 A.w1 Qk x0 d λo d=>A.w1 Qk x1 d λg d=>A.r (Ya 5) g d λt=>A.a t d λu=>A.r Xe u d λv=>A.b .eql v (jv 0) d λh=>A.fr h (Ya 5) g d λw=>
 A.fa h w d λy=>A.fr h Xe y d λz=>A.fb h .gtr z (jv 7) d λt9=>A.c h (.bool true) t9 d λa0=>A.test a0 (l (.bool false) d) (A.loop (λa1 m d=>
 A.r (Ya 5) g d λa2=>A.a a2 d λa3=>A.r Xe a3 d λa4=>A.b .lss (h0 m) a4 d λa5=>A.test a5 (A.r (Ya 5) g d λa6=>A.a a6 d λa7=>
 A.s (Yb 2) a7 (h0 m) d λa8=>A.r (Xc true 2) a8 d λa9=>A.wr (Yf [jv 0,jv 0] [] d) d λi d=>A.ws (Qb 2) i a9 d λ_ d=>A.loop (λb0 e d=>
 A.r (Ya 5) o d λb1=>A.a b1 d λb2=>A.r Xe b2 d λb3=>A.b .lss (h0 e) b3 d λb4=>A.test b4 (A.gr (h1 e) false (λk=>A.rd (Ya 5 [o] d) k) λb5=>
 A.gr (h1 e) false (λk=>A.rd (Ye [b5] d) k) λb6=>A.gr (h1 e) false (λk=>A.rd (Xh [(h0 e)] d) k) λb7=>A.gr (h1 e) false (λk=>A.rd (Yb 1 [b6,b7] d) k) λb8=>
 A.gr (h1 e) false (λk=>A.rd (Ye [b8] d) k) λb9=>A.gr (h1 e) false (λk=>A.rd (Ya 0 [i] d) k) λc0=>A.gr (h1 e) false (λk=>A.rd (Ye [c0] d) k) λc1=>
 A.gr (h1 e) false (λk=>A.rd (Yh .eql false [b9,c1] d) k) λc2=>A.c (h1 e) (.bool true) c2 d λc3=>A.b .add (h0 e) (jv 1) d λc4=>b0 [c4,c3] d) (
 A.r (Xc true 23) o d λc5=>A.r (Ya 1) i d λc6=>A.a c6 d λc7=>A.k 23 [c5,c7] d λp d=>A.r (Qd 0) p d λc8=>A.r (Qd 1) p d λf8=>
 A.r (Qd 2) p d λc9=>A.r (Qn .not) (h1 e) d λq=>A.fr q Xh c9 d λd0=>A.fr q (Qn .not) d0 d λd1=>A.c q (.bool true) d1 d λj=>A.fr j Xh c8 d λd2=>
 A.fr j (Ya 1) g d λd3=>A.fa j d3 d λd4=>A.fb j .neq d2 d4 d λd5=>A.c j (.bool true) d5 d λd6=>A.test d6 (l (.bool false) d) (A.loop (λd7 n d=>
 A.b .lss (h0 n) (h0 m) d λd8=>A.test d8 (A.r (Ya 5) g d λd9=>A.a d9 d λe0=>A.s (Yb 2) e0 (h0 n) d λe1=>A.r (Ya 0) e1 d λe2=>
 A.a e2 d λe3=>A.r (Ya 0) i d λe4=>A.a e4 d λe5=>A.b .eql e3 e5 d λf=>A.fr f (Ya 5) g d λe6=>A.fa f e6 d λe7=>A.fr f Xh (h0 n) d λe8=>
 A.fs f (Yb 2) e7 e8 d λe9=>A.fr f (Ya 1) e9 d λf0=>A.fa f f0 d λf1=>A.fr f (Ya 1) i d λf2=>A.fa f f2 d λf3=>A.fb f .eql f1 f3 d λf4=>
 A.c f (.bool true) f4 d λf5=>A.test f5 (l (.bool false) d) (A.b .add (h0 n) (jv 1) d λf6=>d7 [f6] d)) (A.b .add (h0 m) (jv 1) d λf7=>a1 [f7] d)) [jv 0] d))) [jv 0,.bool false] d) (
 l (.bool true) d)) [jv 0] d)
 |_=>A.stop
theorem g85_ok:GQ 85 2 g85:=gq2 [none,none,some [5],none,none,none,some [8,7],none,none,none,none,some [12],none,none,none] λ_ _ _ _ _ _=>by kernel_rfl
def g86:GFun:=λA xs d j=>match xs with
 |[x0,x1,x2]=>
 A.w1 Qk x0 d λt d=>A.w1 Qk x1 d λp d=>A.w1 Qk x2 d λe d=>A.r (Ya 1) e d λu=>A.a u d λv=>A.r (Ya 7) p d λw=>A.s (Qg 2 8) w v d λy=>
 A.r (Xc true 8) y d λz=>A.wr (Yf zq5 [] d) d λg d=>A.ws (Qb 8) g z d λ_ d=>A.r (Ya 2) e d λt9=>A.a t9 d λa0=>A.b .lss a0 (jv 0) d λf=>
 A.fr f (Ya 2) e d λa1=>A.fa f a1 d λa2=>A.fr f (Ya 4) g d λa3=>A.fa f a3 d λa4=>A.fr f Xe a4 d λa5=>A.fb f .geq a2 a5 d λa6=>
 A.c f (.bool true) a6 d λa7=>A.test a7 (j (.bool false) d) (A.pu (Ya 0 [t] d) λa8=>A.dr (Ye [a8] d) d λa9 b0 d=>A.pu (Ya 4 [g] d) λb1=>
 A.dr (Ye [b1] d) d λb2 b3 d=>A.pu (Ya 2 [e] d) λb4=>A.dr (Ye [b4] d) d λb5 b6 d=>A.dr (Yb 1 [b2,b5] d) d λb7 b8 d=>A.dr (Ye [b7] d) d λb9 c0 d=>
 A.dr (Yb 12 [a9,b9] d) d λc1 c2 d=>A.dr (Xc true 12 [c1] d) d λc3 c4 d=>A.dr (Yf [.str [],.bool false,jv 0,jv 0,jv 0,jv 0,jv 0,jv 0,.nils,.nils,.nils,jv 0] [] d) d λl c5 d=>
 A.dr (Qb 12 [l,c3] d) d λ_ c6 d=>A.gd (Xg [[],[0],[],[2],[],[4],[2,3,4,5],[2,3,4,5,6],[0,1,2,3,4,5,6,7],[0,1,2,3,4,5,6,7,8],[],[0,1,2,3,4,5,6,7,8,9,10]] [([],[]),b0,([],[]),b3,([],[]),b6,b8,c0,c2,c4,c5,c6]) <|
 A.r (Ya 2) l d λc7=>A.a c7 d λc8=>A.r (Ya 1) g d λc9=>A.a c9 d λd0=>A.b .gtr c8 d0 d λh=>A.fr h (Ya 1) l d λd1=>
 A.fa h d1 d λd2=>A.fr h Xh d2 d λi=>A.tr i (Ya 6) g d λd3=>A.ta i d3 d λd4=>A.tr i Xe d4 d λd5=>A.tb i .geq d5 (jv 7) d λd6=>
 A.fc h i d6 (.bool false) d λd7=>A.c h (.bool true) d7 d λd8=>A.test d8 (j (.bool false) d) (A.r (Xc true 12) l d λd9=>A.k 42 [d9] d λe0 d=>
 A.r (Qn .not) e0 d λe1=>A.test e1 (A.r (Ya 3) e d λe2=>A.a e2 d λe3=>A.b .eql e3 (jv (-1)) d λe4=>j e4 d) (A.r (Xc true 23) p d λe5=>
 A.r (Ya 3) e d λe6=>A.a e6 d λe7=>A.k 23 [e5,e7] d λo d=>A.r (Qd 0) o d λf9=>A.r (Qd 1) o d λg0=>A.r (Qd 2) o d λe8=>
 A.r (Ya 3) e d λe9=>A.a e9 d λf0=>A.b .gtr f0 (jv 0) d λq=>A.tr q Xh e8 d λf1=>A.c q f1 (.bool false) d λm=>A.fr m (Ya 3) e d λf2=>
 A.fa m f2 d λf3=>A.fb m .eql f3 (jv (-2)) d λf4=>A.c m (.bool true) f4 d λn=>A.fr n (Ya 3) e d λf5=>A.fa n f5 d λf6=>A.fb n .eql f6 (jv (-3)) d λf7=>
 A.c n (.bool true) f7 d λf8=>j f8 d)))
 |_=>A.stop
theorem g86_ok:GQ 86 3 g86:=gq3 [none,none,none] λ_ _ _ _ _ _ _=>by kernel_rfl
def g87:GFun:=λA xs d l=>match xs with
 |[x0,x1]=>
 A.w1 Qk x0 d λm d=>A.w1 Qk x1 d λf d=>A.r (Ya 3) m d λq=>A.a q d λg=>A.fr g (Ya 4) f d λt=>A.fa g t d λu=>A.fr g Xe u d λv=>
 A.fb g .eql v (jv 0) d λw=>A.c g (.bool true) w d λh=>A.fr h (Ya 4) f d λy=>A.fa h y d λz=>A.fr h Xe z d λa0=>A.fb h .gtr a0 (jv 7) d λa1=>
 A.c h (.bool true) a1 d λa2=>A.test a2 (l (.bool false) d) (A.loop (λa3 i d=>A.r (Ya 4) f d λa4=>A.a a4 d λa5=>A.r Xe a5 d λa6=>
 A.b .lss (h0 i) a6 d λa7=>A.test a7 (A.dr (Xc true 23 [m] d) d λa8 a9 d=>A.pu (Ya 4 [f] d) λb0=>A.dr (Ye [b0] d) d λb1 b2 d=>A.dr (Yb 1 [b1,(h0 i)] d) d λb3 b4 d=>
 A.dr (Ye [b3] d) d λb5 b6 d=>A.dcall (.call 23) [a8,b5] d λn b7 d=>A.pu (Qd 0 [n] d) λp=>A.pu (Qd 1 [n] d) λb8=>A.pu (Qd 2 [n] d) λb9=>
 A.gd (Xg [[],[],[1],[],[1,2,3],[1,2,3,4],[0,1,2,3,4,5],[0,1,2,3,4,5,6],[0,1,2,3,4,5,6,7],[0,1,2,3,4,5,6,7],[0,1,2,3,4,5,6,7],[0,1,2,3,4,5,6,7,8],[0,1,2,3,4,5,6,7,8,9,11],[0,1,2,3,4,5,6,7,8,9,10,11,12]] [a9,([],[]),b2,([],[]),b4,b6,b7,([],[]),([],[]),([],[]),([],[]),([],[]),([],[]),([],[])]) <|
 A.r (Qn .not) b9 d λj=>A.fr j Xh p d λc0=>A.fr j (Ya 1) f d λc1=>A.fa j c1 d λc2=>A.fb j .neq c0 c2 d λc3=>A.c j (.bool true) c3 d λe=>
 A.fr e Xh p d λc4=>A.fr e (Ya 7) m d λc5=>A.fs e (Qg 2 8) c5 c4 d λc6=>A.fr e (Ya 6) c6 d λc7=>A.fa e c7 d λc8=>
 A.fr e Xh b8 d λc9=>A.fs e (Yb 4) c8 c9 d λd0=>A.fr e (Ya 3) d0 d λd1=>A.fa e d1 d λd2=>A.c e (.bool true) d2 d λd3=>A.test d3 (
 l (.bool false) d) (A.loop (λd4 o d=>A.b .lss (h0 o) (h0 i) d λd5=>A.test d5 (A.r (Ya 4) f d λd6=>A.a d6 d λd7=>A.s (Yb 1) d7 (h0 o) d λd8=>
 A.a d8 d λd9=>A.r (Ya 4) f d λe0=>A.a e0 d λe1=>A.s (Yb 1) e1 (h0 i) d λe2=>A.a e2 d λe3=>A.b .eql d9 e3 d λe4=>A.test e4 (
 l (.bool false) d) (A.b .add (h0 o) (jv 1) d λe5=>d4 [e5] d)) (A.b .add (h0 i) (jv 1) d λe6=>a3 [e6] d)) [jv 0] d)) (l (.bool true) d)) [jv 0] d)
 |_=>A.stop
theorem g87_ok:GQ 87 2 g87:=gq2 [none,none,some [5],none,none,none,none,some [9],none,none,none] λ_ _ _ _ _ _=>by kernel_rfl
def g88:GFun:=λA xs c e=>match xs with
 |[x0,x1,x2,x3,x4]=>
 A.w1 Qk x0 c λd c=>A.a x1 c λf=>A.r (Ya 1) d c λg=>A.ws (Qb 1) g f c λ_ c=>A.k 83 [x2,x3,d] c λh c=>A.b .eql h (jv 0) c λi=>
 A.test i (A.a x4 c λj=>A.r (Xc true 6) d c λl=>A.wr (Qh 6 1 zq2 [(0,6)] [l] c) c λm c=>A.wr (Zi 6 80 [j,m] c) c λn c=>A.ws (Qb 1) x4 n c λ_ c=>
 e (.tup []) c) (e (.tup []) c)
 |_=>A.stop
theorem g88_ok:GQ 88 5 g88:=gq5 [none] λ_ _ _ _ _ _ _ _ _=>by kernel_rfl
def g89:GFun:=λA xs a c=>match xs with
 |[x0]=>
 A.r Xe x0 a λb=>A.r (XH .u64) b a λd=>A.k 129 [d] a λe a=>A.k 128 [x0,jv 0,b,e] a λf a=>c (.tup []) a
 |_=>A.stop
theorem g89_ok:GQ 89 1 g89:=gq1 [] λ_ _ _ _ _=>by kernel_rfl
def g90:GFun:=λA xs d l=>match xs with
 |[x0]=>
 A.w1 Qk x0 d λj d=>A.loop (λm h d=>A.b .lss (h0 h) (jv 2) d λn=>A.test n (A.loop (λo i d=>A.r (Ya 7) j d λp=>A.s (Qg 2 8) p (h0 h) d λq=>
 A.r (Ya 6) q d λt=>A.a t d λu=>A.r Xe u d λv=>A.b .lss (h0 i) v d λw=>A.test w (A.r (Ya 7) j d λy=>A.s (Qg 2 8) y (h0 h) d λz=>
 A.r (Ya 6) z d λa0=>A.a a0 d λa1=>A.s (Yb 4) a1 (h0 i) d λa2=>A.r (Ya 0) a2 d λa3=>A.a a3 d λa4=>A.wr (Qh 1 1 [jv 0] [(0,1)] [a4] d) d λa5 d=>
 A.wr (Zi 1 8 [(h1 i),a5] d) d λf d=>A.r Xe f d λa6=>A.b .sub a6 (jv 1) d λa7=>A.loop (λa8 g d=>A.b .gtr (h0 g) (jv 0) d λe=>A.tr e Xh f d λa9=>
 A.tr e Xh (h0 g) d λb0=>A.ts e (Yb 1) a9 b0 d λb1=>A.ta e b1 d λb2=>A.tr e Xh f d λb3=>A.tr e Xh (h0 g) d λb4=>A.tb e .sub b4 (jv 1) d λb5=>
 A.ts e (Yb 1) b3 b5 d λb6=>A.ta e b6 d λb7=>A.tb e .lss b2 b7 d λb8=>A.c e b8 (.bool false) d λb9=>A.test b9 (A.s (Yb 1) f (h0 g) d λc0=>
 A.a c0 d λc1=>A.b .sub (h0 g) (jv 1) d λc2=>A.s (Yb 1) f c2 d λc3=>A.a c3 d λc4=>A.s (Yb 1) f (h0 g) d λc5=>A.ws (Qb 1) c5 c4 d λ_ d=>
 A.b .sub (h0 g) (jv 1) d λc6=>A.s (Yb 1) f c6 d λc7=>A.ws (Qb 1) c7 c1 d λ_ d=>A.b .sub (h0 g) (jv 1) d λc8=>a8 [c8] d) (A.b .add (h0 i) (jv 1) d λc9=>
 o [c9,f] d)) [a7] d) (A.b .add (h0 h) (jv 1) d λd0=>m [d0,(h1 i)] d)) [jv 0,(h1 h)] d) (l (h1 h) d)) [jv 0,.nils] d
 |_=>A.stop
theorem g90_ok:GQ 90 1 g90:=gq1 [none,some [4,3],none,none,none,some [5,3],none,none,none,some [6],none,none] λ_ _ _ _ _=>by kernel_rfl
def g91:GFun:=λA xs d n=>match xs with
 |[x0]=>
 A.loop (λp o d=>A.r Xe x0 d λq=>A.b .lss (h0 o) q d λt=>A.test t (A.s (Yb 14) x0 (h0 o) d λu=>A.r (Xc true 14) u d λv=>A.wr (Yf [.int .i8 0,.int .i8 0,.int .i8 0,jv 0,.int .i8 0,.nils,.str [],.int .i8 0,.int .i8 0,.str [],.nils,.nils,.nils,.nils] [] d) d λe d=>
 A.ws (Qb 14) e v d λ_ d=>A.r (Ya 1) e d λw=>A.a w d λy=>A.b .eql y (.int .i8 2) d λg=>A.tr g (Ya 0) e d λz=>A.ta g z d λa0=>
 A.tb g .eql a0 (.int .i8 0) d λa1=>A.tr g Xh a1 d λi=>A.fr i (Ya 0) e d λa2=>A.fa i a2 d λa3=>A.fb i .eql a3 (.int .i8 1) d λa4=>
 A.tc g i (.bool true) a4 d λa5=>A.c g a5 (.bool false) d λh=>A.fr h (Ya 0) e d λa6=>A.fa h a6 d λa7=>A.gw h false (λk=>A.k 130 [a7] d k) d λa8 d=>
 A.fr h Xh a8 d λj=>A.tr j (Ya 2) e d λa9=>A.tr j (Xc true 4) a9 d λb0=>A.gw j true (λk=>A.k 131 [b0] d k) d λb1 d=>A.fc h j b1 (.bool false) d λb2=>
 A.c h (.bool true) b2 d λb3=>A.test b3 (n (.bool true) d) (A.r (Ya 0) e d λb4=>A.a b4 d λb5=>A.b .eql b5 (.int .i8 8) d λf=>A.tr f (Ya 7) e d λb6=>
 A.tr f (Xc true 5) b6 d λb7=>A.gw f true (λk=>A.k 132 [b7] d k) d λb8 d=>A.tr f Xh b8 d λl=>A.fr l (Ya 12) e d λb9=>A.fa l b9 d λc0=>
 A.gw l false (λk=>A.k 91 [c0] d k) d λc1 d=>A.tc f l (.bool true) c1 d λc2=>A.tr f Xh c2 d λm=>A.fr m (Ya 13) e d λc3=>A.fa m c3 d λc4=>
 A.gw m false (λk=>A.k 91 [c4] d k) d λc5 d=>A.tc f m (.bool true) c5 d λc6=>A.c f c6 (.bool false) d λc7=>A.test c7 (n (.bool true) d) (A.b .add (h0 o) (jv 1) d λc8=>
 p [c8] d))) (n (.bool false) d)) [jv 0] d
 |_=>A.stop
theorem g91_ok:GQ 91 1 g91:=gq1 [none,some [3],none,none,none,none] λ_ _ _ _ _=>by kernel_rfl
def g96:GFun:=λA xs a b=>match xs with
 |[x0]=>
 A.s (XU .slice false false) x0 .nils a λc=>A.test c (b .nils a) (A.rd (Yaf 1 [] a) λd=>A.wr (Zi 1 8 [d,x0] a) a λe a=>b e a)
 |_=>A.stop
theorem g96_ok:GQ 96 1 g96:=gq1 [none] λ_ _ _ _ _=>by kernel_rfl
def g110:GFun:=λA xs a c=>match xs with
 |[x0]=>
 A.w1 Qk x0 a λb a=>A.pu (Ya 8 [b] a) λd=>A.dr (Ye [d] a) a λe f a=>A.dcall (.call 142) [e] a λg h a=>A.pu (Ya 9 [b] a) λi=>
 A.dr (Ye [i] a) a λj l a=>A.dcall (.call 142) [j] a λm n a=>A.pu (Yh .add false [g,m] a) λo=>A.pu (Ya 10 [b] a) λp=>A.dr (Ye [p] a) a λq r a=>
 A.dcall (.call 142) [q] a λs t a=>A.pu (Yh .add false [o,s] a) λu=>A.pu (QW [u,jv 1073741824] a) λv=>A.gd (Xg [[],[0],[0,1],[],[3],[0,1,2,3,4],[0,1,2,3,4,5],[],[7],[0,1,2,3,4,5,7,8],[0,1,2,3,4,5,6,7,8,9],[0,1,2,3,4,5,6,7,8,9,10],[0,1,2,3,4,5,6,7,8,9,10,11]] [([],[]),f,h,([],[]),l,n,([],[]),([],[]),r,t,([],[]),([],[]),([],[])]) <|
 c v a
 |_=>A.stop
theorem g110_ok:GQ 110 1 g110:=gq1 [] λ_ _ _ _ _=>by kernel_rfl
def g111:GFun:=λA xs d h=>match xs with
 |[x0,x1,x2]=>
 A.r Qa x1 d λt0=>A.r (Ya 0) t0 d λt1=>A.a t1 d λt2=>A.b .lss t2 (jv 1) d λo=>joinK (λe=>A.test o (e [o] d) (A.r Qa x1 d λt6=>
 A.r (Ya 0) t6 d λt7=>A.a t7 d λt8=>A.b .gtr t8 (jv 4096) d λp=>A.test p (e [p] d) (A.r Qa x1 d λa7=>A.r (Ya 1) a7 d λa8=>
 A.a a8 d λa9=>A.b .lss a9 (jv 0) d λq=>A.test q (e [q] d) (A.r Qa x1 d λb0=>A.r (Ya 1) b0 d λb1=>A.a b1 d λb2=>A.b .gtr b2 (jv 1) d λt=>
 A.test t (e [t] d) (A.r Qa x1 d λb3=>A.r (Ya 2) b3 d λb4=>A.a b4 d λb5=>A.b .lss b5 (.int .i8 0) d λu=>A.test u (e [u] d) (A.r Qa x1 d λb6=>
 A.r (Ya 2) b6 d λb7=>A.a b7 d λb8=>A.b .gtr b8 (.int .i8 2) d λv=>A.test v (e [v] d) (A.r Qa x1 d λb9=>A.r (Ya 4) b9 d λc0=>
 A.a c0 d λc1=>A.b .lss c1 (.int .i8 0) d λw=>A.test w (e [w] d) (A.r Qa x1 d λc2=>A.r (Ya 4) c2 d λc3=>A.a c3 d λc4=>A.b .gtr c4 (.int .i8 3) d λy=>
 A.test y (e [y] d) (A.r Qa x1 d λc5=>A.r (Ya 4) c5 d λc6=>A.a c6 d λc7=>A.b .eql c7 (.int .i8 0) d λc8=>A.r Qa x1 d λc9=>
 A.r (Ya 2) c9 d λd0=>A.a d0 d λd1=>A.b .neq d1 (.int .i8 2) d λd2=>A.s (Yh .neq true) c8 d2 d λz=>A.test z (e [z] d) (A.r Qa x1 d λd3=>
 A.r (Ya 6) d3 d λd4=>A.a d4 d λd5=>A.b .lss d5 (jv 1) d λa0=>A.test a0 (e [a0] d) (A.r Qa x1 d λd6=>A.r (Ya 6) d6 d λd7=>
 A.a d7 d λd8=>A.b .gtr d8 (jv 1000000) d λa1=>A.test a1 (e [a1] d) (A.r Qa x1 d λd9=>A.r (Ya 5) d9 d λe0=>A.a e0 d λe1=>A.r Xe e1 d λe2=>
 A.b .gtr e2 (jv 7) d λa2=>A.test a2 (e [a2] d) (A.r Qa x0 d λe3=>A.r (Xc true 2) e3 d λe4=>A.k 143 [e4] d λe5 d=>A.r (YaA false 0 1) e5 d λe6=>
 A.b .neq e6 (jv 0) d λe7=>e [e7] d))))))))))))) (λv5 d=>A.test (h0 v5) (h (.bool false) d) (A.wr (Yz [] d) d λa3 d=>A.loop (λe8 l d=>A.b .lss (h0 l) (jv 2) d λe9=>
 A.test e9 (A.k 144 [x0,x1,(h0 l),a3] d λf0 d=>A.r (Qn .not) f0 d λf1=>A.test f1 (h (.bool false) d) (A.b .add (h0 l) (jv 1) d λf2=>e8 [f2] d)) (
 A.r Qa x1 d λf3=>A.r (Ya 2) f3 d λf4=>A.a f4 d λf5=>A.b .neq f5 (.int .i8 1) d λf6=>A.test f6 (A.r Qa x1 d λf7=>A.r (Ya 5) f7 d λf8=>
 A.a f8 d λf9=>A.r Xe f9 d λg0=>A.b .eql g0 (jv 0) d λg1=>h g1 d) (A.wr (Yz [] d) d λa4 d=>A.r Qa x1 d λg2=>A.r (Ya 5) g2 d λg3=>
 A.a g3 d λa5=>A.r Xe a5 d λg4=>A.loop (λg5 m d=>A.b .lss (h0 m) g4 d λg6=>A.test g6 (A.s (Yb 1) a5 (h0 m) d λg7=>A.a g7 d λn=>
 A.s (Yo false true (jv 0)) a3 n d λa6=>A.r (Qd 0) a6 d λg8=>A.r (Qd 1) a6 d λg9=>A.r (Qn .not) g9 d λf=>A.fr f Xh g8 d λi0=>
 A.fr f Xh x1 d λi1=>A.fr f Qa i1 d λi2=>A.fr f (Ya 1) i2 d λi3=>A.fa f i3 d λi4=>A.fb f .neq i0 i4 d λi5=>A.c f (.bool true) i5 d λi=>
 A.fr i Xh a4 d λi6=>A.fr i Xh n d λi7=>A.fs i (Yo false false (.bool false)) i6 i7 d λi9=>A.c i (.bool true) i9 d λj0=>A.test j0 (h (.bool false) d) (
 A.wr (Xv false [a4,n,.bool true] d) d λ_ d=>A.b .add (h0 m) (jv 1) d λj1=>g5 [j1] d)) (A.r Qa x1 d λj2=>A.r (Ya 3) j2 d λj3=>
 A.a j3 d λj=>A.tr j Xh x2 d λj4=>A.tr j Xh j4 d λg=>A.fr g Xh x1 d λj5=>A.fr g Qa j5 d λj6=>A.fr g (Ya 5) j6 d λj7=>
 A.fa g j7 d λj8=>A.fr g Xe j8 d λj9=>A.fb g .gtr j9 (jv 0) d λl0=>A.tc j g (.bool true) l0 d λl1=>A.c j l1 (.bool false) d λl2=>h l2 d)) [jv 0] d))) [jv 0] d))
 |_=>A.stop
theorem g111_ok:GQ 111 3 g111:=gq3 [none,some [14],none,none,none,none,none,none,none,none,none,none,none,none,none,some [89],none,none,none,none,none,some [116],none,none,none] λ_ _ _ _ _ _ _=>by kernel_rfl
def g112:GFun:=λA xs a b=>match xs with
 |[x0]=>
 A.s (XU .slice false false) x0 .nils a λc=>A.test c (b .nils a) (A.rd (Yaf 4 [] a) λd=>A.wr (Zi 4 32 [d,x0] a) a λe a=>b e a)
 |_=>A.stop
theorem g112_ok:GQ 112 1 g112:=gq1 [none] λ_ _ _ _ _=>by kernel_rfl
def g113:GFun:=λA xs c f=>match xs with
 |[x0]=>
 A.wr (Yf [jv 0,jv 0] [] c) c λd c=>A.r Xe x0 c λh=>A.b .gtr h (jv 240) c λi=>A.test i (A.rd (Xf [jv 0,jv 0] [(0,1)] [jv 3] c) λj=>
 A.ws (Qb 2) d j c λ_ c=>A.opt (cellV true 2 d c) λr4=>f r4 c) (A.loop (λl e c=>A.r Xe x0 c λm=>A.b .lss (h0 e) m c λn=>A.test n (A.loop (λo g c=>
 A.b .lss (h0 g) (h0 e) c λp=>A.test p (A.s (Yb 12) x0 (h0 g) c λq=>A.r (Ya 0) q c λt=>A.a t c λu=>A.s (Yb 12) x0 (h0 e) c λv=>
 A.r (Ya 0) v c λw=>A.a w c λy=>A.b .eql u y c λz=>A.test z (A.s (Yb 12) x0 (h0 e) c λa0=>A.r (Ya 11) a0 c λa1=>A.a a1 c λa2=>
 A.rd (Xf [jv 0,jv 0] [(0,1),(1,1)] [jv 101,a2] c) λa3=>A.ws (Qb 2) d a3 c λ_ c=>A.opt (cellV true 2 d c) λr23=>f r23 c) (A.b .add (h0 g) (jv 1) c λa4=>
 o [a4] c)) (A.s (Yb 12) x0 (h0 e) c λa5=>A.r (Xc true 12) a5 c λa6=>A.k 145 [x0,a6] c λa7 c=>A.r (Qn .not) a7 c λa8=>A.test a8 (A.s (Yb 12) x0 (h0 e) c λa9=>
 A.r (Ya 11) a9 c λb0=>A.a b0 c λb1=>A.rd (Xf [jv 0,jv 0] [(0,1),(1,1)] [jv 130,b1] c) λb2=>A.ws (Qb 2) d b2 c λ_ c=>
 A.opt (cellV true 2 d c) λr33=>f r33 c) (A.b .add (h0 e) (jv 1) c λb3=>l [b3] c))) [jv 0] c) (A.rd (Xf [jv 0,jv 0] [] [] c) λb4=>A.ws (Qb 2) d b4 c λ_ c=>
 A.opt (cellV true 2 d c) λr36=>f r36 c)) [jv 0] c)
 |_=>A.stop
theorem g113_ok:GQ 113 1 g113:=gq1 [none,none,some [3],none,none,none,some [4],none,none,none,none] λ_ _ _ _ _=>by kernel_rfl
def g114:GFun:=λA xs d j=>match xs with
 |[x0]=>
 A.wr (Yf [jv 0,jv 0] [] d) d λh d=>A.loop (λl i d=>A.r Xe x0 d λm=>A.b .lss (h0 i) m d λn=>A.test n (A.s (Yb 12) x0 (h0 i) d λo=>
 A.r (Xc true 12) o d λp=>A.wr (Yf [.str [],.bool false,jv 0,jv 0,jv 0,jv 0,jv 0,jv 0,.nils,.nils,.nils,jv 0] [] d) d λe d=>
 A.ws (Qb 12) e p d λ_ d=>A.r (Ya 8) e d λq=>A.a q d λt=>A.k 146 [.int .i8 0,t] d λu d=>A.r (Qn .not) u d λf=>A.fr f (Ya 9) e d λv=>
 A.fa f v d λw=>A.gw f false (λk=>A.k 146 [.int .i8 0,w] d k) d λy d=>A.fr f (Qn .not) y d λz=>A.c f (.bool true) z d λg=>A.fr g (Ya 10) e d λa0=>
 A.fa g a0 d λa1=>A.gw g false (λk=>A.k 146 [.int .i8 0,a1] d k) d λa2 d=>A.fr g (Qn .not) a2 d λa3=>A.c g (.bool true) a3 d λa4=>A.test a4 (
 A.r (Ya 11) e d λa5=>A.a a5 d λa6=>A.rd (Xf [jv 0,jv 0] [(0,1),(1,1)] [jv 140,a6] d) λa7=>A.ws (Qb 2) h a7 d λ_ d=>
 A.opt (cellV true 2 h d) λr25=>j r25 d) (A.b .add (h0 i) (jv 1) d λa8=>l [a8] d)) (A.rd (Xf [jv 0,jv 0] [] [] d) λa9=>A.ws (Qb 2) h a9 d λ_ d=>
 A.opt (cellV true 2 h d) λr28=>j r28 d)) [jv 0] d
 |_=>A.stop
theorem g114_ok:GQ 114 1 g114:=gq1 [none,some [3],none,none,none] λ_ _ _ _ _=>by kernel_rfl
def g115:GFun:=λA xs d o=>match xs with
 |[x0,x1]=>
 A.w1 Qk x0 d λj d=>A.r (Ya 1) j d λq=>A.a q d λt=>A.s (Yb 7) t x1 d λu=>A.r (Xc true 7) u d λv=>A.wr (Yf [.str [],jv 0,jv 0,jv 0,.nils,.nils,jv 0] [] d) d λe d=>
 A.ws (Qb 7) e v d λ_ d=>A.loop (λw p d=>A.b .lss (h0 p) x1 d λy=>A.test y (A.r (Ya 1) j d λz=>A.a z d λa0=>A.s (Yb 7) a0 (h0 p) d λa1=>
 A.r (Ya 0) a1 d λa2=>A.a a2 d λa3=>A.r (Ya 0) e d λa4=>A.a a4 d λa5=>A.b .eql a3 a5 d λa6=>A.test a6 (o (.bool false) d) (
 A.b .add (h0 p) (jv 1) d λa7=>w [a7] d)) (A.b .geq x1 (jv 240) d λg=>A.fr g (Ya 0) e d λa8=>A.fa g a8 d λa9=>A.gw g false (λk=>A.k 147 [a9] d k) d λb0 d=>
 A.fr g (Qn .not) b0 d λb1=>A.c g (.bool true) b1 d λb2=>A.test b2 (o (.bool false) d) (A.r (Ya 1) e d λb3=>A.a b3 d λb4=>A.b .geq b4 (jv 0) d λf=>
 A.tr f (Ya 1) e d λb5=>A.ta f b5 d λb6=>A.tr f (Ya 2) e d λb7=>A.ta f b7 d λb8=>A.tb f .leq b6 b8 d λb9=>A.c f b9 (.bool false) d λl=>
 A.tr l (Ya 2) e d λc0=>A.ta l c0 d λc1=>A.tb l .leq c1 (jv 60) d λc2=>A.c l c2 (.bool false) d λm=>A.tr m (Ya 3) e d λc3=>
 A.ta m c3 d λc4=>A.tb m .geq c4 (jv 0) d λc5=>A.c m c5 (.bool false) d λn=>A.tr n (Ya 3) e d λc6=>A.ta n c6 d λc7=>A.tb n .leq c7 (jv 999) d λc8=>
 A.c n c8 (.bool false) d λh=>A.tr h (Xc true 2) j d λc9=>A.tr h (Ya 4) e d λd0=>A.ta h d0 d λd1=>A.gw h true (λk=>A.k 148 [c9,d1] d k) d λd2 d=>
 A.c h d2 (.bool false) d λi=>A.tr i (Xc true 2) j d λd3=>A.tr i (Ya 5) e d λd4=>A.ta i d4 d λd5=>A.gw i true (λk=>A.k 148 [d3,d5] d k) d λd6 d=>
 A.c i d6 (.bool false) d λd7=>o d7 d))) [jv 0] d
 |_=>A.stop
theorem g115_ok:GQ 115 2 g115:=gq2 [none,some [6],none,none,none,none] λ_ _ _ _ _ _=>by kernel_rfl
def g116:GFun:=λA xs a e=>match xs with
 |[x0]=>
 A.b .geq x0 (jv (-1000000)) a λd=>A.tr d Xh x0 a λf=>A.tb d .leq f (jv 1000000) a λg=>A.c d g (.bool false) a λh=>e h a
 |_=>A.stop
theorem g116_ok:GQ 116 1 g116:=gq1 [] λ_ _ _ _ _=>by kernel_rfl
def g117:GFun:=λA xs d g=>match xs with
 |[x0,x1,x2]=>
 A.w1 Qk x0 d λh d=>A.r Xe x1 d λi=>A.b .gtr i x2 d λj=>A.test j (g (.bool false) d) (A.loop (λl f d=>A.r Xe x1 d λm=>A.b .lss (h0 f) m d λn=>
 A.test n (A.s (Yb 1) x1 (h0 f) d λo=>A.a o d λp=>A.b .lss p (jv 0) d λe=>A.fr e Xh x1 d λq=>A.fr e Xh (h0 f) d λt=>A.fs e (Yb 1) q t d λu=>
 A.fa e u d λv=>A.fr e (Ya 0) h d λw=>A.fa e w d λy=>A.fr e Xe y d λz=>A.fb e .geq v z d λa0=>A.c e (.bool true) a0 d λa1=>A.test a1 (
 g (.bool false) d) (A.b .add (h0 f) (jv 1) d λa2=>l [a2] d)) (g (.bool true) d)) [jv 0] d)
 |_=>A.stop
theorem g117_ok:GQ 117 3 g117:=gq3 [none,none,some [7],none,none,none] λ_ _ _ _ _ _ _=>by kernel_rfl
def g118:GFun:=λA xs a d=>match xs with
 |[x0,x1]=>
 A.r Xe x0 a λe=>A.loop (λf c a=>A.b .lss (h0 c) e a λg=>A.test g (A.s (Yb 4) x0 (h0 c) a λh=>A.r (Xc true 4) h a λi=>A.call .callv [x1,i] a λj a=>
 A.test j (d (h0 c) a) (A.b .add (h0 c) (jv 1) a λl=>f [l] a)) (d (jv (-1)) a)) [jv 0] a
 |_=>A.stop
theorem g118_ok:GQ 118 2 g118:=gq2 [none,some [8],none,none,none] λ_ _ _ _ _ _=>by kernel_rfl
def g119:GFun:=λA xs c d=>match xs with
 |[x0,x1]=>
 A.w1 Qk x0 c λe c=>A.r (Ya 0) e c λf=>A.a f c λg=>A.a x1 c λh=>A.b .eql g h c λi=>d i c
 |_=>A.stop
theorem g119_ok:GQ 119 2 g119:=gq2 [] λ_ _ _ _ _ _=>by kernel_rfl
def g120:GFun:=λA xs c e=>match xs with
 |[x0,x1]=>
 A.r Xe x0 c λf=>A.loop (λg d c=>A.b .lss (h0 d) f c λh=>A.test h (A.s (Yb 1) x0 (h0 d) c λi=>A.a i c λj=>A.call .callv [x1,j] c λl c=>
 A.test l (e (h0 d) c) (A.b .add (h0 d) (jv 1) c λm=>g [m] c)) (e (jv (-1)) c)) [jv 0] c
 |_=>A.stop
theorem g120_ok:GQ 120 2 g120:=gq2 [none,some [8],none,none,none] λ_ _ _ _ _ _=>by kernel_rfl
def g121:GFun:=λA xs a e=>match xs with
 |[x0]=>
 A.b .eql x0 (.int .i8 0) a λd=>A.fr d Xh x0 a λf=>A.fb d .eql f (.int .i8 1) a λg=>A.c d (.bool true) g a λh=>e h a
 |_=>A.stop
theorem g121_ok:GQ 121 1 g121:=gq1 [] λ_ _ _ _ _=>by kernel_rfl
def g122:GFun:=λA xs d p=>match xs with
 |[x0]=>
 A.wr (Yf [.nils,.nils] [] d) d λi d=>A.wr (Yf [jv 0,jv 0] [] d) d λj d=>A.k 149 [x0] d λu d=>A.r (Qd 0) u d λt3=>A.r (Qd 1) u d λt4=>
 A.wr (Yf [jv 0,jv 0] [] d) d λq d=>A.ws (Qb 2) q t4 d λ_ d=>A.r (Ya 0) q d λt6=>A.a t6 d λt7=>A.b .neq t7 (jv 0) d λt8=>
 A.test t8 (A.pu (Xf [.nils,.nils] [] [] d) λt9=>A.dr (Xc true 2 [q] d) d λa0 a1 d=>A.dr (Qb 2 [i,t9] d) d λ_ a2 d=>A.dr (Qb 2 [j,a0] d) d λ_ a3 d=>
 A.gd (Xg [[],[],[0],[0,1,2]] [([],[]),a1,a2,a3]) <| A.opt (cellV true 2 i d) λr14=>A.opt (cellV true 2 j d) λr15=>p (.tup [r14,r15]) d) (
 A.rd (Xf [.nils,jv 0,jv 0,jv 0,jv 0] [(0,1)] [t3] d) λa4=>A.w1 Qk a4 d λe d=>A.wr (Yf [.nils,.nils] [] d) d λh d=>joinK (λt=>
 A.loop (λv j6 d=>A.dcall (.call 150) [e] d λf a5 d=>A.gr f true (λk=>A.pu (Xh [e] d) k) λa6=>A.gr f true (λk=>A.pu (Qa [a6] d) k) λa7=>
 A.gr f true (λk=>A.pu (Ya 0 [a7] d) k) λa8=>A.gl f true (λk=>A.dr (Ye [a8] d) d k) d λa9 b0 d=>A.gr f true (λk=>A.pu (Xh [e] d) k) λb1=>
 A.gr f true (λk=>A.pu (Qa [b1] d) k) λb2=>A.gr f true (λk=>A.pu (Ya 1 [b2] d) k) λb3=>A.gl f true (λk=>A.dr (Ye [b3] d) d k) d λb4 b5 d=>
 A.gl f true (λk=>A.dr (Yb 4 [a9,b4] d) d k) d λb6 b7 d=>A.gr f true (λk=>A.pu (Ya 0 [b6] d) k) λb8=>A.gl f true (λk=>A.dr (Ye [b8] d) d k) d λb9 c0 d=>
 A.gr f true (λk=>A.pu (Yh .neq false [b9,.int .i8 0] d) k) λc1=>A.pu (Yi [f,c1,.bool false] d) λc2=>A.gd (Xg [[],[0],[0,1],[0,1,2],[0,1,2,3],[0,1,2,3,4],[0,1,2,3,4,5],[0,1,2],[0,1,2,7],[0,1,2,7,8],[0,1,2,7,8,9],[0,1,2,3,4,5,6,7,8,9,10],[0,1,2,3,4,5,6,7,8,9,10,11],[0,1,2,3,4,5,6,7,8,9,10,11,12],[0,1,2,3,4,5,6,7,8,9,10,11,12,13],[0,1,2,3,4,5,6,7,8,9,10,11,12,13,14]] [([],[]),a5,([],[]),([],[]),([],[]),([],[]),b0,([],[]),([],[]),([],[]),b5,b7,([],[]),c0,([],[]),([],[])]) <|
 A.test c2 (A.r Qa e d λc3=>A.r (Ya 0) c3 d λc4=>A.a c4 d λc5=>A.r Qa e d λc6=>A.r (Ya 1) c6 d λc7=>A.a c7 d λc8=>
 A.s (Yb 4) c5 c8 d λc9=>A.r (Ya 3) c9 d λd0=>A.a d0 d λw=>A.k 151 [e,(.str [99,97,114,100])] d λg d=>A.tr g (Ya 1) h d λd1=>
 A.ta g d1 d λd2=>A.tr g Xe d2 d λd3=>A.tb g .gtr d3 (jv 0) d λd4=>A.c g d4 (.bool false) d λl=>A.fr l Xh g d λd5=>A.fr l (Qn .not) d5 d λd6=>
 A.fr l Xh d6 d λo=>A.tr o Xh e d λd7=>A.gw o true (λk=>A.k 151 [d7,(.str [102,111,114,109,97,116])] d k) d λd8 d=>A.tr o (Qn .not) d8 d λd9=>
 A.fc l o d9 (.bool false) d λe0=>A.c l (.bool true) e0 d λe1=>A.test e1 (A.k 152 [e,jv 120] d λj7 d=>t [] d) (A.tr g (Ya 0) h d λe2=>
 A.ta g e2 d λe3=>A.tr g Xe e3 d λe4=>A.tb g .geq e4 (jv 240) d λe5=>A.c g e5 (.bool false) d λm=>A.fr m Xh g d λe6=>A.fr m (Qn .not) e6 d λe7=>
 A.fr m Xh e7 d λn=>A.tr n (Ya 1) h d λe8=>A.ta n e8 d λe9=>A.tr n Xe e9 d λf0=>A.tb n .geq f0 (jv 240) d λf1=>A.fc m n f1 (.bool false) d λf2=>
 A.c m (.bool true) f2 d λf3=>A.test f3 (A.k 152 [e,jv 3] d λj8 d=>t [] d) (A.r Qa e d λf4=>A.r (Ya 1) f4 d λf5=>A.a f5 d λf6=>
 A.b .add f6 (jv 1) d λf7=>A.r Qa e d λf8=>A.r (Ya 1) f8 d λf9=>A.ws (Qb 1) f9 f7 d λ_ d=>A.test g (A.k 153 [e,w] d λg0 d=>
 A.wr (Yf [.str [],.bool false,jv 0,jv 0,jv 0,jv 0,jv 0,jv 0,.nils,.nils,.nils,jv 0] [] d) d λy d=>A.ws (Qb 12) y g0 d λ_ d=>
 A.r (Ya 0) h d λg1=>A.a g1 d λg2=>A.r (Xc true 12) y d λg3=>A.wr (Qh 12 1 [.str [],.bool false,jv 0,jv 0,jv 0,jv 0,jv 0,jv 0,.nils,.nils,.nils,jv 0] [(0,12)] [g3] d) d λg4 d=>
 A.wr (Zi 12 152 [g2,g4] d) d λg5 d=>A.r (Ya 0) h d λg6=>A.ws (Qb 1) g6 g5 d λ_ d=>v [] d) (A.k 154 [e,w] d λg7 d=>A.wr (Yf [.str [],jv 0,jv 0,jv 0,.nils,.nils,jv 0] [] d) d λz d=>
 A.ws (Qb 7) z g7 d λ_ d=>A.r (Ya 1) h d λg8=>A.a g8 d λg9=>A.r (Xc true 7) z d λi0=>A.wr (Qh 7 1 [.str [],jv 0,jv 0,jv 0,.nils,.nils,jv 0] [(0,7)] [i0] d) d λi1 d=>
 A.wr (Zi 7 96 [g9,i1] d) d λi2 d=>A.r (Ya 1) h d λi3=>A.ws (Qb 1) i3 i2 d λ_ d=>v [] d)))) (t [] d)) [] d) (λj9 d=>A.k 150 [e] d λi4 d=>
 A.r (Qn .not) i4 d λi5=>A.test i5 (A.pu (Xf [.nils,.nils] [] [] d) λi6=>A.pu (Qa [e] d) λi7=>A.pu (Ya 3 [i7] d) λi9=>A.dr (Xc true 2 [i9] d) d λj0 j1 d=>
 A.dr (Qb 2 [i,i6] d) d λ_ j2 d=>A.dr (Qb 2 [j,j0] d) d λ_ j3 d=>A.gd (Xg [[],[],[1],[1,2],[1,2,3],[0],[0,1,2,3,4,5]] [([],[]),([],[]),([],[]),([],[]),j1,j2,j3]) <|
 A.opt (cellV true 2 i d) λr112=>A.opt (cellV true 2 j d) λr113=>p (.tup [r112,r113]) d) (A.r (Xc true 2) h d λj4=>A.rd (Xf [jv 0,jv 0] [] [] d) λj5=>
 A.ws (Qb 2) i j4 d λ_ d=>A.ws (Qb 2) j j5 d λ_ d=>A.opt (cellV true 2 i d) λr116=>A.opt (cellV true 2 j d) λr117=>p (.tup [r116,r117]) d)))
 |_=>A.stop
theorem g122_ok:GQ 122 1 g122:=gq1 [none,some [],some [],none,none,none,none,none,none] λ_ _ _ _ _=>by kernel_rfl
def g124:GFun:=λA xs b d=>match xs with
 |[x0]=>
 A.w1 Qk x0 b λe b=>A.wr (Yf [jv 0] [] b) b λc b=>A.ws (Qb 1) c (jv 0) b λ_ b=>A.r (Yp (.func 156) 0) c b λf=>A.k 155 [e,f] b λh b=>
 A.a c b λg=>d g b
 |_=>A.stop
theorem g124_ok:GQ 124 1 g124:=gq1 [] λ_ _ _ _ _=>by kernel_rfl
def g126:GFun:=λA xs d j=>match xs with
 |[x0]=>
 A.r Qa x0 d λl=>A.r (Ya 0) l d λm=>A.a m d λn=>A.b .neq n (.int .i8 0) d λe=>A.tr e Xh x0 d λo=>A.tr e Qa o d λp=>
 A.tr e (Ya 2) p d λq=>A.ta e q d λs=>A.tb e .neq s (jv 0) d λt=>A.tr e Xh t d λi=>A.fr i Xh x0 d λu=>A.fr i Qa u d λv=>
 A.fr i (Ya 3) v d λw=>A.fa i w d λy=>A.fb i .neq y (jv (-1)) d λz=>A.tc e i (.bool true) z d λa0=>A.c e a0 (.bool false) d λa1=>A.test a1 (
 j (.bool false) d) (A.r Qa x0 d λa2=>A.r (Ya 0) a2 d λa3=>A.a a3 d λa4=>A.b .eql a4 (.int .i8 1) d λg=>A.fr g Xh x0 d λa5=>
 A.fr g Qa a5 d λa6=>A.fr g (Ya 4) a6 d λa7=>A.fa g a7 d λa8=>A.fr g Xe a8 d λa9=>A.fb g .eql a9 (jv 0) d λb0=>A.c g (.bool true) b0 d λf=>
 A.tr f Xh x0 d λb1=>A.tr f Qa b1 d λb2=>A.tr f (Ya 0) b2 d λb3=>A.ta f b3 d λb4=>A.tb f .eql b4 (.int .i8 2) d λb5=>A.tr f Xh b5 d λh=>
 A.fr h Xh x0 d λb6=>A.fr h Qa b6 d λb7=>A.fr h (Ya 5) b7 d λb8=>A.fa h b8 d λb9=>A.fr h Xe b9 d λc0=>A.fb h .eql c0 (jv 0) d λc1=>
 A.tc f h (.bool true) c1 d λc2=>A.c f c2 (.bool false) d λc3=>j c3 d)
 |_=>A.stop
theorem g126_ok:GQ 126 1 g126:=gq1 [none] λ_ _ _ _ _=>by kernel_rfl
def g127:GFun:=λA xs a c=>match xs with
 |[]=>
 A.wr (Yf [.nilf,.nilf,.nilf,.nilf,.nilf] [] a) a λb a=>A.rd (Xf [.nilf,.nilf,.nilf,.nilf,.nilf] [(0,1),(1,1),(2,1),(3,1),(4,1)] [(.func (.func 158) [] []),(.func (.func 159) [] []),(.func (.func 160) [] []),(.func (.func 161) [] []),(.func (.func 162) [] [])] a) λd=>
 A.ws (Qb 5) b d a λ_ a=>A.opt (cellV true 5 b a) λr2=>c r2 a
 |_=>A.stop
theorem g127_ok:GQ 127 0 g127:=gq0 [] λ_ _ _ _=>by kernel_rfl
def g128:GFun:=λA xs a i=>match xs with
 |[x0,x1,x2,x3]=>
 A.loop (λj d a=>A.b .sub (h0 d) (h1 d) a λm=>A.b .leq m (jv 12) a λt3=>A.test t3 (A.k 163 [x0,(h1 d),(h0 d)] a λt4 a=>i (.tup []) a) (A.b .eql (h2 d) (jv 0) a λt5=>
 A.test t5 (A.k 164 [x0,(h1 d),(h0 d)] a λt6 a=>i (.tup []) a) (A.r (Qn .not) (h3 d) a λt7=>joinK (λn=>A.test t7 (A.k 165 [x0,(h1 d),(h0 d)] a λd3 a=>
 A.b .sub (h2 d) (jv 1) a λa0=>n [a0] a) (n [(h2 d)] a)) (λg a=>A.k 166 [x0,(h1 d),(h0 d)] a λo a=>A.r (Qd 0) o a λp=>A.r (Qd 1) o a λq=>
 A.b .eql q (jv 2) a λa1=>joinK (λs=>A.test a1 (A.k 167 [x0,(h1 d),(h0 d)] a λd4 a=>A.b .sub (h0 d) (jv 1) a λa2=>A.b .sub p (h1 d) a λa3=>
 A.b .sub a2 a3 a λa4=>s [jv 1,a4] a) (s [q,p] a)) (λh a=>A.gr (h3 d) true (λk=>A.rd (Xh [(h4 d)] a) k) λa5=>A.c (h3 d) a5 (.bool false) a λl=>
 A.tr l Xh (h0 h) a λa6=>A.tb l .eql a6 (jv 1) a λa7=>A.c l a7 (.bool false) a λa8=>joinK (λt=>A.test a8 (A.k 168 [x0,(h1 d),(h0 d)] a λa9 a=>
 A.test a9 (i (.tup []) a) (t [] a)) (t [] a)) (λd5 a=>A.pu (Yh .gtr false [(h1 d),jv 0] a) λe=>A.gr e true (λk=>A.pu (Xh [x0] a) k) λb0=>
 A.gr e true (λk=>A.pu (Xh [(h1 d)] a) k) λb1=>A.gr e true (λk=>A.pu (Yh .sub false [b1,jv 1] a) k) λb2=>A.gl e true (λk=>A.dr (Yb 1 [b0,b2] a) a k) a λb3 b4 a=>
 A.gl e true (λk=>A.dr (Ye [b3] a) a k) a λb5 b6 a=>A.gr e true (λk=>A.pu (Xh [x0] a) k) λb7=>A.gr e true (λk=>A.pu (Xh [(h1 h)] a) k) λb8=>
 A.gl e true (λk=>A.dr (Yb 1 [b7,b8] a) a k) a λb9 c0 a=>A.gl e true (λk=>A.dr (Ye [b9] a) a k) a λc1 c2 a=>A.gl e true (λk=>A.dcall (.call 169) [b5,c1] a k) a λc3 c4 a=>
 A.gr e true (λk=>A.pu (Qn .not [c3] a) k) λc5=>A.pu (Yi [e,c5,.bool false] a) λc6=>A.gd (Xg [[],[0],[0,1],[0,1,2],[0,1,2],[0,1,2,4],[0,1,2,3,4,5],[0,1,2,3,4,5,6],[0,1,2],[0,1,2],[0,1,2,8,9],[0,1,2,8,9,10],[0,1,2,3,4,5,6,7,8,9,10,11],[0,1,2,3,4,5,6,7,8,9,10,11,12],[0,1,2,3,4,5,6,7,8,9,10,11,12,13]] [([],[]),([],[]),([],[]),([],[]),([],[]),([],[]),b4,b6,([],[]),([],[]),c0,c2,c4,([],[]),([],[])]) <|
 A.test c6 (A.k 170 [x0,(h1 d),(h0 d),(h1 h)] a λc7 a=>j [(h0 d),c7,(h0 g),(h3 d),(h4 d)] a) (A.k 171 [x0,(h1 d),(h0 d),(h1 h)] a λu a=>A.r (Qd 0) u a λf=>
 A.r (Qd 1) u a λv=>A.b .sub f (h1 d) a λw=>A.b .sub (h0 d) f a λy=>A.b .quo m (jv 8) a λz=>A.b .lss w y a λc8=>A.test c8 (A.b .geq w z a λc9=>
 A.k 128 [x0,(h1 d),f,(h0 g)] a λd6 a=>A.b .add f (jv 1) a λd0=>j [(h0 d),d0,(h0 g),c9,v] a) (A.b .geq y z a λd1=>A.b .add f (jv 1) a λd2=>
 A.k 128 [x0,d2,(h0 d),(h0 g)] a λd7 a=>j [f,(h1 d),(h0 g),d1,v] a)))))))) [x2,x1,x3,.bool true,.bool true] a
 |_=>A.stop
theorem g128_ok:GQ 128 4 g128:=gq4 [none,some [2,1,3,8,9],none,none,none,some [3],some [12,11],some [],none,none,none] λ_ _ _ _ _ _ _ _=>by kernel_rfl
def g129:GFun:=λA xs a b=>match xs with
 |[x0]=>
 A.test (.bool false) (A.r (XH .u32) x0 a λc=>A.k 172 [c] a λd a=>b d a) (A.k 173 [x0] a λe a=>b e a)
 |_=>A.stop
theorem g129_ok:GQ 129 1 g129:=gq1 [none] λ_ _ _ _ _=>by kernel_rfl
def g130:GFun:=λA xs a h=>match xs with
 |[x0]=>
 A.b .eql x0 (.int .i8 0) a λd=>A.fr d Xh x0 a λi=>A.fb d .eql i (.int .i8 1) a λj=>A.c d (.bool true) j a λe=>A.fr e Xh x0 a λl=>A.fb e .eql l (.int .i8 2) a λm=>
 A.c e (.bool true) m a λf=>A.fr f Xh x0 a λn=>A.fb f .eql n (.int .i8 3) a λo=>A.c f (.bool true) o a λg=>A.fr g Xh x0 a λp=>A.fb g .eql p (.int .i8 5) a λq=>
 A.c g (.bool true) q a λr=>h r a
 |_=>A.stop
theorem g130_ok:GQ 130 1 g130:=gq1 [] λ_ _ _ _ _=>by kernel_rfl
def g131:GFun:=λA xs c f=>match xs with
 |[x0]=>
 A.w1 Qk x0 c λd c=>A.loop (λg e c=>A.r (Ya 3) d c λh=>A.a h c λi=>A.r Xe i c λj=>A.b .lss (h0 e) j c λl=>A.test l (A.r (Ya 3) d c λm=>
 A.a m c λn=>A.s (Yb 4) n (h0 e) c λo=>A.r (Xc true 4) o c λp=>A.k 131 [p] c λq c=>A.test q (f (.bool true) c) (A.b .add (h0 e) (jv 1) c λt=>
 g [t] c)) (A.r (Ya 0) d c λu=>A.a u c λv=>A.b .eql v (.int .i8 7) c λw=>f w c)) [jv 0] c
 |_=>A.stop
theorem g131_ok:GQ 131 1 g131:=gq1 [none,some [3],none,none,none] λ_ _ _ _ _=>by kernel_rfl
def g132:GFun:=λA xs c e=>match xs with
 |[x0]=>
 A.w1 Qk x0 c λd c=>A.loop (λh f c=>A.r (Ya 3) d c λi=>A.a i c λj=>A.r Xe j c λl=>A.b .lss (h0 f) l c λm=>A.test m (A.r (Ya 3) d c λn=>
 A.a n c λo=>A.s (Yb 4) o (h0 f) c λp=>A.r (Xc true 4) p c λq=>A.k 131 [q] c λt c=>A.test t (e (.bool true) c) (A.b .add (h0 f) (jv 1) c λu=>
 h [u] c)) (A.loop (λv g c=>A.r (Ya 4) d c λw=>A.a w c λy=>A.r Xe y c λz=>A.b .lss (h0 g) z c λa0=>A.test a0 (A.r (Ya 4) d c λa1=>
 A.a a1 c λa2=>A.s (Yb 5) a2 (h0 g) c λa3=>A.r (Xc true 5) a3 c λa4=>A.k 132 [a4] c λa5 c=>A.test a5 (e (.bool true) c) (A.b .add (h0 g) (jv 1) c λa6=>
 v [a6] c)) (e (.bool false) c)) [jv 0] c)) [jv 0] c
 |_=>A.stop
theorem g132_ok:GQ 132 1 g132:=gq1 [none,some [3],none,none,none,none,some [4],none,none,none] λ_ _ _ _ _=>by kernel_rfl
def g138:GFun:=λA xs a c=>match xs with
 |[x0,x1]=>
 A.k 176 [x0,x1] a λd a=>A.b .geq d (jv 0) a λe=>c e a
 |_=>A.stop
theorem g138_ok:GQ 138 2 g138:=gq2 [] λ_ _ _ _ _ _=>by kernel_rfl
def g142:GFun:=λA xs c i=>match xs with
 |[x0]=>
 A.loop (λj d c=>A.r Xe x0 c λl=>A.b .lss (h0 d) l c λm=>A.test m (joinK (λe=>A.b .add (h1 d) (jv 1) c λn=>A.s QW n (jv 1073741824) c λf=>
 A.s (Yb 14) x0 (h0 d) c λo=>A.r (Ya 0) o c λp=>A.a p c λq=>A.k 130 [q] c λt c=>joinK (λg=>A.test t (A.s (Yb 14) x0 (h0 d) c λu=>
 A.r (Ya 2) u c λv=>A.r (Xc true 4) v c λw=>A.k 76 [w] c λy c=>A.b .add f y c λz=>A.s QW z (jv 1073741824) c λa0=>g [a0] c) (
 g [f] c)) (λh c=>A.s (Yb 14) x0 (h0 d) c λa1=>A.r (Ya 0) a1 c λa2=>A.a a2 c λa3=>A.b .eql a3 (.int .i8 8) c λa4=>A.test a4 (
 A.dr (Yb 14 [x0,(h0 d)] c) c λa5 a6 c=>A.pu (Ya 7 [a5] c) λa7=>A.dr (Xc true 5 [a7] c) c λa8 a9 c=>A.dcall (.call 178) [a8] c λb0 b1 c=>
 A.pu (Yh .add false [(h0 h),b0] c) λb2=>A.dr (Yb 14 [x0,(h0 d)] c) c λb3 b4 c=>A.pu (Ya 12 [b3] c) λb5=>A.dr (Ye [b5] c) c λb6 b7 c=>
 A.dcall (.call 142) [b6] c λb8 b9 c=>A.pu (Yh .add false [b2,b8] c) λc0=>A.dr (Yb 14 [x0,(h0 d)] c) c λc1 c2 c=>A.pu (Ya 13 [c1] c) λc3=>
 A.dr (Ye [c3] c) c λc4 c5 c=>A.dcall (.call 142) [c4] c λc6 c7 c=>A.pu (Yh .add false [c0,c6] c) λc8=>A.pu (QW [c8,jv 1073741824] c) λc9=>
 A.gd (Xg [[],[],[],[1,2],[1,2,3],[1,2,3,4],[1,2,3,4,5],[0,1,2,3,4,5,6],[],[],[8,9],[8,9,10],[8,9,10,11],[1,2,3,4,5,6,8,9,10,11,12],[0,1,2,3,4,5,6,7,8,9,10,11,12,13],[],[],[15,16],[15,16,17],[15,16,17,18],[1,2,3,4,5,6,8,9,10,11,12,13,15,16,17,18,19],[0,1,2,3,4,5,6,7,8,9,10,11,12,13,14,15,16,17,18,19,20],[0,1,2,3,4,5,6,7,8,9,10,11,12,13,14,15,16,17,18,19,20,21],[0,1,2,3,4,5,6,7,8,9,10,11,12,13,14,15,16,17,18,19,20,21,22]] [([],[]),([],[]),([],[]),a6,([],[]),a9,b1,([],[]),([],[]),([],[]),b4,([],[]),b7,b9,([],[]),([],[]),([],[]),c2,([],[]),c5,c7,([],[]),([],[]),([],[])]) <|
 e [c9] c) (e [(h0 h)] c))) (λv5 c=>A.b .add (h0 d) (jv 1) c λd0=>j [d0,(h0 v5)] c)) (i (h1 d) c)) [jv 0,jv 0] c
 |_=>A.stop
theorem g142_ok:GQ 142 1 g142:=gq1 [none,some [4,3],none,some [3],some [3],none] λ_ _ _ _ _=>by kernel_rfl
def g143:GFun:=λA xs c h=>match xs with
 |[x0]=>
 A.w1 Qk x0 c λe c=>A.wr (Yf [jv 0,jv 0] [] c) c λd c=>A.r (Yp (.func 179) 0) e c λi=>A.r (Yp (.func 181) 0) e c λj=>A.r (Yp (.func 183) 0) e c λl=>
 A.rd (Xf [.nilf,.nilf,.nilf] [(0,1),(1,1),(2,1)] [i,j,l] c) λm=>A.loop (λn f c=>A.b .lss (h0 f) (jv 3) c λo=>A.test o (A.s (Q0 false 3 1) m (h0 f) c λp=>
 A.call .callv [p] c λq c=>A.wr (Yf [jv 0,jv 0] [] c) c λg c=>A.ws (Qb 2) g q c λ_ c=>A.r (Ya 0) g c λt=>A.a t c λu=>
 A.b .neq u (jv 0) c λv=>A.test v (A.r (Xc true 2) g c λw=>A.ws (Qb 2) d w c λ_ c=>A.opt (cellV true 2 d c) λr16=>h r16 c) (A.b .add (h0 f) (jv 1) c λy=>
 n [y] c)) (A.rd (Xf [jv 0,jv 0] [] [] c) λz=>A.ws (Qb 2) d z c λ_ c=>A.opt (cellV true 2 d c) λr19=>h r19 c)) [jv 0] c
 |_=>A.stop
theorem g143_ok:GQ 143 1 g143:=gq1 [none,some [10],none,none,none] λ_ _ _ _ _=>by kernel_rfl
def g144:GFun:=λA xs d q=>match xs with
 |[x0,x1,x2,x3]=>
 A.w1 Qk x0 d λz d=>A.r Qa x1 d λt1=>A.r (Ya 7) t1 d λt2=>A.s (Qg 2 8) t2 x2 d λe=>A.r Qa e d λt4=>A.r (Ya 0) t4 d λt5=>
 A.a t5 d λt6=>A.k 57 [t6] d λt7 d=>A.r (Qn .not) t7 d λm=>A.fr m Xh e d λt9=>A.fr m Qa t9 d λa4=>A.fr m (Ya 1) a4 d λa5=>
 A.fa m a5 d λa6=>A.fb m .lss a6 (jv 0) d λa7=>A.c m (.bool true) a7 d λj=>A.fr j Xh e d λa8=>A.fr j Qa a8 d λa9=>A.fr j (Ya 1) a9 d λb0=>
 A.fa j b0 d λb1=>A.gw j false (λk=>A.k 57 [b1] d k) d λb2 d=>A.fr j (Qn .not) b2 d λb3=>A.c j (.bool true) b3 d λn=>A.fr n Xh e d λb4=>
 A.fr n Qa b4 d λb5=>A.fr n (Ya 2) b5 d λb6=>A.fa n b6 d λb7=>A.fb n .lss b7 (jv 0) d λb8=>A.c n (.bool true) b8 d λo=>A.fr o Xh e d λb9=>
 A.fr o Qa b9 d λc0=>A.fr o (Ya 2) c0 d λc1=>A.fa o c1 d λc2=>A.fb o .gtr c2 (jv 10) d λc3=>A.c o (.bool true) c3 d λl=>A.fr l Xh e d λc4=>
 A.fr l Qa c4 d λc5=>A.fr l (Ya 6) c5 d λc6=>A.fa l c6 d λc7=>A.fr l Xe c7 d λc8=>A.fb l .gtr c8 (jv 7) d λc9=>A.c l (.bool true) c9 d λd0=>
 A.test d0 (q (.bool false) d) (A.r Qa e d λd1=>A.r (Ya 3) d1 d λd2=>A.a d2 d λd3=>A.rd (Xf [.nils,jv 0] [(0,1),(1,1)] [d3,jv 60] d) λd4=>
 A.r Qa e d λd5=>A.r (Ya 4) d5 d λd6=>A.a d6 d λd7=>A.rd (Xf [.nils,jv 0] [(0,1),(1,1)] [d7,jv 10] d) λd8=>A.r Qa e d λd9=>
 A.r (Ya 5) d9 d λe0=>A.a e0 d λe1=>A.rd (Xf [.nils,jv 0] [(0,1),(1,1)] [e1,jv 1000000] d) λe2=>A.r Qa e d λe3=>A.r (Ya 7) e3 d λe4=>
 A.a e4 d λe5=>A.rd (Xf [.nils,jv 0] [(0,1),(1,1)] [e5,jv 1000000] d) λe6=>A.rd (Xf [.nils,jv 0,.nils,jv 0,.nils,jv 0,.nils,jv 0] [(0,2),(2,2),(4,2),(6,2)] [d4,d8,e2,e6] d) λe7=>
 A.loop (λe8 a0 d=>A.b .lss (h0 a0) (jv 4) d λe9=>A.test e9 (A.s (Q0 true 4 2) e7 (h0 a0) d λf0=>A.wr (Yf [.nils,jv 0] [] d) d λt d=>
 A.ws (Qb 2) t f0 d λ_ d=>A.r (Ya 0) t d λf1=>A.a f1 d λf2=>A.r Xe f2 d λf3=>A.r (Ya 1) t d λf4=>A.a f4 d λf5=>
 A.b .gtr f3 f5 d λp=>A.fr p (Ya 0) t d λf6=>A.fa p f6 d λf7=>A.fr p (Yp (.func 186) 0) z d λf8=>A.gw p false (λk=>A.k 185 [f7,f8] d k) d λf9 d=>
 A.c p (.bool true) f9 d λg0=>A.test g0 (q (.bool false) d) (A.b .add (h0 a0) (jv 1) d λg1=>e8 [g1] d)) (A.r Qa e d λg2=>A.r (Ya 6) g2 d λg3=>
 A.a g3 d λa2=>A.r Xe a2 d λg4=>A.loop (λg5 a1 d=>A.b .lss (h0 a1) g4 d λg6=>A.test g6 (A.s (Yb 4) a2 (h0 a1) d λg7=>A.r (Xc true 4) g7 d λg8=>
 A.wr (Yf zq4 [] d) d λg d=>A.ws (Qb 4) g g8 d λ_ d=>A.r (Ya 0) g d λg9=>A.a g9 d λi0=>A.s (Yo false true (jv 0)) x3 i0 d λa3=>
 A.r (Qd 0) a3 d λn2=>A.r (Qd 1) a3 d λu=>A.fr u (Ya 1) g d λi1=>A.fa u i1 d λi2=>A.fb u .lss i2 (jv 0) d λi3=>A.c u (.bool true) i3 d λh=>
 A.fr h (Ya 1) g d λi4=>A.fa h i4 d λi5=>A.fa h z d λi6=>A.fr h Qa i6 d λi7=>A.fr h (Ya 0) i7 d λi8=>A.fa h i8 d λi9=>
 A.fr h Xe i9 d λj0=>A.fb h .geq i5 j0 d λj1=>A.c h (.bool true) j1 d λf=>A.fa f z d λj2=>A.fr f Qa j2 d λj3=>A.fr f (Ya 0) j3 d λj4=>
 A.fa f j4 d λj5=>A.fr f (Ya 1) g d λj6=>A.fa f j6 d λj7=>A.fs f (Yb 12) j5 j7 d λj8=>A.fr f (Ya 1) j8 d λj9=>A.fa f j9 d λl0=>
 A.fr f (Qn .not) l0 d λl1=>A.c f (.bool true) l1 d λv=>A.fr v (Ya 2) g d λl2=>A.fa v l2 d λl3=>A.fb v .lss l3 (jv 0) d λl4=>A.c v (.bool true) l4 d λw=>
 A.fr w (Ya 2) g d λl5=>A.fa w l5 d λl6=>A.fb w .gtr l6 (jv 1000000) d λl7=>A.c w (.bool true) l7 d λy=>A.fr y (Ya 0) g d λl8=>
 A.fa y l8 d λl9=>A.fb y .lss l9 (jv 1) d λm0=>A.c y (.bool true) m0 d λi=>A.fr i (Ya 0) g d λm1=>A.fa i m1 d λm2=>A.fr i Xh x1 d λm3=>
 A.fr i Qa m3 d λm4=>A.fr i (Ya 6) m4 d λm5=>A.fa i m5 d λm6=>A.fb i .geq m2 m6 d λm7=>A.c i (.bool true) m7 d λm8=>A.test m8 (
 q (.bool false) d) (A.r (Ya 0) g d λm9=>A.a m9 d λn0=>A.wr (Xv false [x3,n0,x2] d) d λ_ d=>A.b .add (h0 a1) (jv 1) d λn1=>g5 [n1] d)) (
 q (.bool true) d)) [jv 0] d)) [jv 0] d)
 |_=>A.stop
theorem g144_ok:GQ 144 4 g144:=gq4 [none,none,some [85],none,none,none,none,some [106],none,none,none] λ_ _ _ _ _ _ _ _=>by kernel_rfl
def g145:GFun:=λA xs d s=>match xs with
 |[x0,x1]=>
 A.w1 Qk x1 d λe d=>A.r (Ya 0) e d λv=>A.a v d λw=>A.k 147 [w] d λy d=>A.r (Qn .not) y d λi=>A.fr i (Ya 2) e d λz=>
 A.fa i z d λt6=>A.gw i false (λk=>A.k 187 [t6] d k) d λt7 d=>A.fr i (Qn .not) t7 d λt8=>A.c i (.bool true) t8 d λj=>A.fr j (Ya 3) e d λa0=>
 A.fa j a0 d λa1=>A.gw j false (λk=>A.k 187 [a1] d k) d λa2 d=>A.fr j (Qn .not) a2 d λa3=>A.c j (.bool true) a3 d λl=>A.fr l (Ya 4) e d λa4=>
 A.fa l a4 d λa5=>A.gw l false (λk=>A.k 187 [a5] d k) d λa6 d=>A.fr l (Qn .not) a6 d λa7=>A.c l (.bool true) a7 d λm=>A.fr m (Ya 5) e d λa8=>
 A.fa m a8 d λa9=>A.gw m false (λk=>A.k 187 [a9] d k) d λb0 d=>A.fr m (Qn .not) b0 d λb1=>A.c m (.bool true) b1 d λn=>A.fr n (Ya 6) e d λb2=>
 A.fa n b2 d λb3=>A.gw n false (λk=>A.k 187 [b3] d k) d λb4 d=>A.fr n (Qn .not) b4 d λb5=>A.c n (.bool true) b5 d λo=>A.fr o (Ya 7) e d λb6=>
 A.fa o b6 d λb7=>A.gw o false (λk=>A.k 187 [b7] d k) d λb8 d=>A.fr o (Qn .not) b8 d λb9=>A.c o (.bool true) b9 d λc0=>A.test c0 (s (.bool false) d) (
 A.r (Ya 1) e d λc1=>A.a c1 d λt=>A.tr t (Ya 4) e d λc2=>A.ta t c2 d λc3=>A.tb t .lss c3 (jv 1) d λc4=>A.c t c4 (.bool false) d λh=>
 A.fr h (Ya 1) e d λc5=>A.fa h c5 d λc6=>A.fr h (Qn .not) c6 d λc7=>A.fr h Xh c7 d λf=>A.tr f (Ya 3) e d λc8=>A.ta f c8 d λc9=>
 A.tr f (Ya 4) e d λd0=>A.ta f d0 d λd1=>A.tb f .add c9 d1 d λd2=>A.tr f (Ya 5) e d λd3=>A.ta f d3 d λd4=>A.tb f .add d2 d4 d λd5=>
 A.tr f (Ya 6) e d λd6=>A.ta f d6 d λd7=>A.tb f .add d5 d7 d λd8=>A.tr f (Ya 7) e d λd9=>A.ta f d9 d λe0=>A.tb f .add d8 e0 d λe1=>
 A.tb f .gtr e1 (jv 0) d λe2=>A.tr f Xh e2 d λg=>A.fr g (Ya 9) e d λe3=>A.fa g e3 d λe4=>A.fr g Xe e4 d λe5=>A.fr g (Ya 10) e d λe6=>
 A.fa g e6 d λe7=>A.fr g Xe e7 d λe8=>A.fb g .add e5 e8 d λe9=>A.fb g .gtr e9 (jv 0) d λf0=>A.tc f g (.bool true) f0 d λf1=>A.fc h f f1 (.bool false) d λf2=>
 A.c h (.bool true) f2 d λf3=>A.test f3 (s (.bool false) d) (A.r (Xc true 12) e d λf4=>A.k 110 [f4] d λf5 d=>A.b .gtr f5 (jv 200) d λf6=>A.test f6 (
 s (.bool false) d) (A.rd (Xf [.nils,.bool false] [(0,1),(1,1)] [x0,.bool true] d) λf7=>A.w1 Qk f7 d λf8 d=>A.rd (Xf [.nils,.bool false] [(0,1)] [x0] d) λf9=>
 A.w1 Qk f9 d λu d=>A.r (Ya 8) e d λg0=>A.a g0 d λg1=>A.k 188 [f8,g1,jv 1] d λp d=>A.tr p Xh u d λg2=>A.tr p (Ya 9) e d λg3=>
 A.ta p g3 d λg4=>A.gw p true (λk=>A.k 188 [g2,g4,jv 1] d k) d λg5 d=>A.c p g5 (.bool false) d λq=>A.tr q Xh u d λg6=>A.tr q (Ya 10) e d λg7=>
 A.ta q g7 d λg8=>A.gw q true (λk=>A.k 188 [g6,g8,jv 1] d k) d λg9 d=>A.c q g9 (.bool false) d λi0=>s i0 d)))
 |_=>A.stop
theorem g145_ok:GQ 145 2 g145:=gq2 [none,none,none] λ_ _ _ _ _ _=>by kernel_rfl
def g146:GFun:=λA xs d h=>match xs with
 |[x0,x1]=>
 A.loop (λq l d=>A.r Xe x1 d λt=>A.b .lss (h0 l) t d λu=>A.test u (joinK (λi=>A.s (Yb 14) x1 (h0 l) d λv=>A.r (Xc true 14) v d λw=>
 A.wr (Yf [.int .i8 0,.int .i8 0,.int .i8 0,jv 0,.int .i8 0,.nils,.str [],.int .i8 0,.int .i8 0,.str [],.nils,.nils,.nils,.nils] [] d) d λe d=>
 A.ws (Qb 14) e w d λ_ d=>A.r (Ya 0) e d λy=>A.a y d λf=>A.b .eql f (.int .i8 5) d λz=>A.test z (A.r (Ya 2) e d λa0=>A.r (Xc true 4) a0 d λa1=>
 A.k 191 [a1] d λa2 d=>A.k 190 [x0,a2] d λa3 d=>A.k 189 [a3,.int .i8 1] d λa4 d=>A.r (Qn .not) a4 d λa5=>A.test a5 (h (.bool false) d) (i [] d)) (
 A.b .eql f (.int .i8 8) d λa6=>A.test a6 (A.r (Ya 7) e d λa7=>A.r (Xc true 5) a7 d λa8=>A.k 192 [a8] d λa9 d=>A.k 190 [x0,a9] d λm d=>
 A.r (Ya 12) e d λb0=>A.a b0 d λb1=>A.k 146 [m,b1] d λb2 d=>A.r (Qn .not) b2 d λg=>A.fr g Xh m d λb3=>A.fr g (Ya 13) e d λb4=>
 A.fa g b4 d λb5=>A.gw g false (λk=>A.k 146 [b3,b5] d k) d λb6 d=>A.fr g (Qn .not) b6 d λb7=>A.c g (.bool true) b7 d λb8=>A.test b8 (h (.bool false) d) (
 i [] d)) (A.b .eql f (.int .i8 0) d λn=>joinK (λj=>A.test n (j [n] d) (A.b .eql f (.int .i8 1) d λo=>A.test o (j [o] d) (A.b .eql f (.int .i8 2) d λp=>
 A.test p (j [p] d) (A.b .eql f (.int .i8 3) d λb9=>j [b9] d)))) (λc0 d=>A.test (h0 c0) (A.r (Ya 2) e d λc1=>A.r (Xc true 4) c1 d λc2=>
 A.k 191 [c2] d λc3 d=>A.k 190 [x0,c3] d λc4 d=>A.b .neq c4 (.int .i8 0) d λc5=>A.test c5 (h (.bool false) d) (i [] d)) (A.k 190 [x0,x0] d λc6 d=>
 A.b .neq c6 (.int .i8 0) d λc7=>A.test c7 (h (.bool false) d) (i [] d)))))) (λv5 d=>A.b .add (h0 l) (jv 1) d λc8=>q [c8] d)) (h (.bool true) d)) [jv 0] d
 |_=>A.stop
theorem g146_ok:GQ 146 2 g146:=gq2 [none,some [5],none,some [],none,none,none,none,none,some [52],none,none,none,none,none] λ_ _ _ _ _ _=>by kernel_rfl
def g147:GFun:=λA xs a j=>match xs with
 |[x0]=>
 A.k 193 [x0,jv 0] a λh a=>A.r (Qd 0) h a λl=>A.r (Qd 1) h a λi=>A.b .geq i (jv 1) a λg=>A.tr g Xh i a λm=>A.tb g .leq m (jv 24) a λn=>
 A.c g n (.bool false) a λd=>A.tr d Xh l a λo=>A.tr d Xh x0 a λp=>A.tr d Zr p a λq=>A.tb d .eql o q a λs=>A.c d s (.bool false) a λe=>
 A.tr e Xh x0 a λt=>A.tr e Zr t a λu=>A.tb e .leq u (jv 40) a λv=>A.c e v (.bool false) a λf=>A.tr f Xh x0 a λw=>A.gw f true (λk=>A.k 194 [w] a k) a λy a=>
 A.tr f (Qn .not) y a λz=>A.c f z (.bool false) a λa0=>j a0 a
 |_=>A.stop
theorem g147_ok:GQ 147 1 g147:=gq1 [] λ_ _ _ _ _=>by kernel_rfl
def g148:GFun:=λA xs a f=>match xs with
 |[x0,x1]=>
 A.w1 Qk x0 a λh a=>A.loop (λi e a=>A.r Xe x1 a λj=>A.b .lss (h0 e) j a λl=>A.test l (A.dr (Xc true 2 [h] a) a λm n a=>A.dr (Yb 1 [x1,(h0 e)] a) a λo p a=>
 A.dr (Ye [o] a) a λq s a=>A.dcall (.call 195) [m,q] a λg t a=>A.pu (Qd 0 [g] a) λb1=>A.pu (Qd 1 [g] a) λu=>A.gd (Xg [[],[],[],[1,2],[1,2,3],[0,1,2,3,4],[0,1,2,3,4,5],[0,1,2,3,4,5,6],[0,1,2,3,4,5,6],[0,1,2,3,4,5,6,7],[0,1,2,3,4,5,6,7,8,9]] [n,([],[]),([],[]),p,s,t,([],[]),([],[]),([],[]),([],[]),([],[])]) <|
 A.loop (λv d a=>A.b .lss (h0 d) (h0 e) a λw=>A.test w (A.gr (h1 d) true (λk=>A.rd (Xh [x1] a) k) λy=>A.gr (h1 d) true (λk=>A.rd (Xh [(h0 d)] a) k) λz=>
 A.gr (h1 d) true (λk=>A.rd (Yb 1 [y,z] a) k) λa0=>A.gr (h1 d) true (λk=>A.rd (Ye [a0] a) k) λa1=>A.gr (h1 d) true (λk=>A.rd (Xh [x1] a) k) λa2=>
 A.gr (h1 d) true (λk=>A.rd (Xh [(h0 e)] a) k) λa3=>A.gr (h1 d) true (λk=>A.rd (Yb 1 [a2,a3] a) k) λa4=>A.gr (h1 d) true (λk=>A.rd (Ye [a4] a) k) λa5=>
 A.gr (h1 d) true (λk=>A.rd (Yh .neq false [a1,a5] a) k) λa6=>A.c (h1 d) a6 (.bool false) a λa7=>A.b .add (h0 d) (jv 1) a λa8=>v [a8,a7] a) (
 A.r (Qn .not) (h1 d) a λa9=>A.test a9 (f (.bool false) a) (A.b .add (h0 e) (jv 1) a λb0=>i [b0] a))) [jv 0,u] a) (f (.bool true) a)) [jv 0] a
 |_=>A.stop
theorem g148_ok:GQ 148 2 g148:=gq2 [none,some [5],none,none,none,some [8,7],none,none,none] λ_ _ _ _ _ _=>by kernel_rfl
def g149:GFun:=λA xs d j=>match xs with
 |[x0]=>
 A.wr (Yf [jv 0,jv 0] [] d) d λg d=>A.r Zr x0 d λt1=>A.b .gtr t1 (jv 65536) d λt2=>A.test t2 (A.rd (Xf [jv 0,jv 0] [(0,1)] [jv 3] d) λt3=>
 A.ws (Qb 2) g t3 d λ_ d=>A.opt (cellV true 2 g d) λr4=>j (.tup [.nils,r4]) d) (A.loop (λo e d=>A.r Zr x0 d λt7=>A.b .lss (h0 e) t7 d λt8=>
 A.test t8 (A.k 196 [x0,(h0 e)] d λt9 d=>A.r (Qd 0) t9 d λl=>A.r (Qd 1) t9 d λa7=>A.b .eql a7 (jv 0) d λa8=>A.test a8 (A.rd (Xf [jv 0,jv 0] [(0,1),(1,1)] [jv 110,(h0 e)] d) λa9=>
 A.ws (Qb 2) g a9 d λ_ d=>A.opt (cellV true 2 g d) λr14=>j (.tup [.nils,r14]) d) (A.b .eql l (jv 32) d λv=>A.fr v Xh l d λb0=>A.fb v .eql b0 (jv 10) d λb1=>
 A.c v (.bool true) b1 d λw=>A.fr w Xh l d λb2=>A.fb w .eql b2 (jv 13) d λb3=>A.c w (.bool true) b3 d λy=>A.fr y Xh l d λb4=>A.fb y .eql b4 (jv 9) d λb5=>
 A.c y (.bool true) b5 d λb6=>A.test b6 (A.b .add (h0 e) (jv 1) d λb7=>o [b7,(h1 e)] d) (A.b .eql l (jv 35) d λb8=>A.test b8 (A.loop (λb9 m d=>A.r Zr x0 d λc0=>
 A.b .lss (h0 m) c0 d λp=>A.tr p Xh x0 d λc1=>A.tr p Xh (h0 m) d λc2=>A.ts p Yv c1 c2 d λc3=>A.tb p .neq c3 (.int .u8 10) d λc4=>A.c p c4 (.bool false) d λc5=>
 A.test c5 (A.k 196 [x0,(h0 m)] d λa2 d=>A.r (Qd 0) a2 d λm2=>A.r (Qd 1) a2 d λa3=>A.b .eql a3 (jv 0) d λc6=>A.test c6 (A.rd (Xf [jv 0,jv 0] [(0,1),(1,1)] [jv 110,(h0 m)] d) λc7=>
 A.ws (Qb 2) g c7 d λ_ d=>A.opt (cellV true 2 g d) λr41=>j (.tup [.nils,r41]) d) (A.b .add (h0 m) a3 d λc8=>b9 [c8] d)) (o [(h0 m),(h1 e)] d)) [(h0 e)] d) (
 A.k 197 [l] d λc9 d=>A.test c9 (A.k 193 [x0,(h0 e)] d λa4 d=>A.r (Qd 0) a4 d λz=>A.r (Qd 1) a4 d λd0=>A.b .gtr d0 (jv 24) d λq=>
 A.fr q Xh z d λd1=>A.fr q Xh (h0 e) d λd2=>A.fb q .sub d1 d2 d λd3=>A.fb q .gtr d3 (jv 40) d λd4=>A.c q (.bool true) d4 d λd5=>A.test d5 (
 A.rd (Xf [jv 0,jv 0] [(0,1),(1,1)] [jv 3,(h0 e)] d) λd6=>A.ws (Qb 2) g d6 d λ_ d=>A.opt (cellV true 2 g d) λr54=>j (.tup [.nils,r54]) d) (
 A.rd (XV [x0,(h0 e),z] d) λd7=>A.rd (Xf [.int .i8 0,.str [],jv 0,jv 0] [(0,1),(1,1),(3,1)] [.int .i8 1,d7,(h0 e)] d) λd8=>
 A.wr (Qh 4 1 [.int .i8 0,.str [],jv 0,jv 0] [(0,4)] [d8] d) d λd9 d=>A.wr (Zi 4 40 [(h1 e),d9] d) d λe0 d=>o [z,e0] d)) (A.k 198 [l] d λe1 d=>
 A.test e1 (A.loop (λe2 i d=>A.r Zr x0 d λe3=>A.b .lss (h0 i) e3 d λn=>A.tr n Xh x0 d λe4=>A.tr n Xh (h0 i) d λe5=>A.ts n Yv e4 e5 d λe6=>
 A.tr n (XH .i64) e6 d λe7=>A.gw n true (λk=>A.k 198 [e7] d k) d λe8 d=>A.c n e8 (.bool false) d λe9=>A.test e9 (A.b .mul (h1 i) (jv 10) d λf0=>
 A.s Yv x0 (h0 i) d λf1=>A.b .sub f1 (.int .u8 48) d λf2=>A.r (XH .i64) f2 d λf3=>A.b .add f0 f3 d λf4=>A.s QW f4 (jv 1000) d λf5=>
 A.b .add (h0 i) (jv 1) d λf6=>e2 [f6,f5] d) (A.s Yv x0 (h0 e) d λf7=>A.b .eql f7 (.int .u8 48) d λt=>A.tr t Xh (h0 i) d λf8=>A.tr t Xh (h0 e) d λf9=>
 A.tb t .add f9 (jv 1) d λg0=>A.tb t .gtr f8 g0 d λg1=>A.c t g1 (.bool false) d λg2=>A.test g2 (A.rd (Xf [jv 0,jv 0] [(0,1),(1,1)] [jv 110,(h0 e)] d) λg3=>
 A.ws (Qb 2) g g3 d λ_ d=>A.opt (cellV true 2 g d) λr85=>j (.tup [.nils,r85]) d) (A.b .gtr (h1 i) (jv 999) d λg4=>A.test g4 (A.rd (Xf [jv 0,jv 0] [(0,1),(1,1)] [jv 3,(h0 e)] d) λg5=>
 A.ws (Qb 2) g g5 d λ_ d=>A.opt (cellV true 2 g d) λr88=>j (.tup [.nils,r88]) d) (A.rd (Xf [.int .i8 0,.str [],jv 0,jv 0] [(0,1),(2,1),(3,1)] [.int .i8 2,(h1 i),(h0 e)] d) λg6=>
 A.wr (Qh 4 1 [.int .i8 0,.str [],jv 0,jv 0] [(0,4)] [g6] d) d λg7 d=>A.wr (Zi 4 40 [(h1 e),g7] d) d λg8 d=>o [(h0 i),g8] d)))) [(h0 e),jv 0] d) (
 A.k 199 [] d λa5 d=>A.loop (λg9 f d=>A.r Xe a5 d λi0=>A.b .lss (h0 f) i0 d λa0=>A.tr a0 Xh (h1 f) d λi1=>A.tr a0 (Qn .not) i1 d λi2=>
 A.c a0 i2 (.bool false) d λi3=>A.test i3 (joinK (λa6=>A.s (Yb 1) a5 (h0 f) d λi4=>A.a i4 d λu=>A.r Zr u d λi5=>A.b .add (h2 f) i5 d λi6=>
 A.r Zr x0 d λi7=>A.b .leq i6 i7 d λh=>A.tr h Xh x0 d λi9=>A.tr h Xh (h2 f) d λj0=>A.tr h Xh (h2 f) d λj1=>A.tr h Xh u d λj2=>
 A.tr h Zr j2 d λj3=>A.tb h .add j1 j3 d λj4=>A.got h (XV [i9,j0,j4] d) λj5=>A.tr h Xh u d λj6=>A.tb h .eql j5 j6 d λj7=>A.c h j7 (.bool false) d λj8=>
 A.test j8 (A.rd (Xf [.int .i8 0,.str [],jv 0,jv 0] [(0,1),(1,1),(3,1)] [.int .i8 3,u,(h2 f)] d) λj9=>A.wr (Qh 4 1 [.int .i8 0,.str [],jv 0,jv 0] [(0,4)] [j9] d) d λl0 d=>
 A.wr (Zi 4 40 [(h3 f),l0] d) d λl1 d=>A.r Zr u d λl2=>A.b .add (h2 f) l2 d λl3=>a6 [.bool true,l3,l1] d) (a6 [(h1 f),(h2 f),(h3 f)] d)) (λa1 d=>
 A.b .add (h0 f) (jv 1) d λl4=>g9 [l4,(h0 a1),(h1 a1),(h2 a1)] d)) (A.r (Qn .not) (h1 f) d λl5=>A.test l5 (A.rd (Xf [jv 0,jv 0] [(0,1),(1,1)] [jv 110,(h2 f)] d) λl6=>
 A.ws (Qb 2) g l6 d λ_ d=>A.opt (cellV true 2 g d) λr126=>j (.tup [.nils,r126]) d) (o [(h2 f),(h3 f)] d))) [jv 0,.bool false,(h0 e),(h1 e)] d)))))) (
 A.r Zr x0 d λl7=>A.rd (Xf [.int .i8 0,.str [],jv 0,jv 0] [(0,1),(3,1)] [.int .i8 0,l7] d) λl8=>A.wr (Qh 4 1 [.int .i8 0,.str [],jv 0,jv 0] [(0,4)] [l8] d) d λl9 d=>
 A.wr (Zi 4 40 [(h1 e),l9] d) d λm0 d=>A.rd (Xf [jv 0,jv 0] [] [] d) λm1=>A.ws (Qb 2) g m1 d λ_ d=>A.opt (cellV true 2 g d) λr132=>
 j (.tup [m0,r132]) d)) [jv 0,.nils] d)
 |_=>A.stop
theorem g149_ok:GQ 149 1 g149:=gq1 [none,none,some [5,4],none,none,none,none,none,none,some [5],none,none,none,none,none,none,none,some [12,13],none,none,none,none,none,some [16,15,5,4],none,some [15,5,4],none,none] λ_ _ _ _ _=>by kernel_rfl
def g150:GFun:=λA xs c d=>match xs with
 |[x0]=>
 A.r Qa x0 c λe=>A.r (Ya 3) e c λf=>A.r (Ya 0) f c λg=>A.a g c λh=>A.b .eql h (jv 0) c λi=>d i c
 |_=>A.stop
theorem g150_ok:GQ 150 1 g150:=gq1 [] λ_ _ _ _ _=>by kernel_rfl
def g151:GFun:=λA xs a g=>match xs with
 |[x0,x1]=>
 A.pu (Qa [x0] a) λh=>A.pu (Ya 0 [h] a) λi=>A.dr (Ye [i] a) a λj l a=>A.pu (Qa [x0] a) λm=>A.pu (Ya 1 [m] a) λn=>
 A.dr (Ye [n] a) a λo p a=>A.dr (Yb 4 [j,o] a) a λq r a=>A.dr (Xc true 4 [q] a) a λs t a=>A.dr (Yf [.int .i8 0,.str [],jv 0,jv 0] [] a) a λe u a=>
 A.dr (Qb 4 [e,s] a) a λ_ v a=>A.gd (Xg [[],[0],[0,1],[0,1,2],[],[4],[4,5],[4,5,6],[0,1,2,3,4,5,6,7],[0,1,2,3,4,5,6,7,8],[],[0,1,2,3,4,5,6,7,8,9,10]] [([],[]),([],[]),([],[]),l,([],[]),([],[]),([],[]),p,r,t,u,v]) <|
 A.k 150 [x0] a λb a=>A.tr b (Ya 0) e a λw=>A.ta b w a λy=>A.tb b .eql y (.int .i8 1) a λz=>A.tr b Xh z a λf=>A.fr f (Ya 0) e a λa0=>
 A.fa f a0 a λa1=>A.fb f .eql a1 (.int .i8 3) a λa2=>A.tc b f (.bool true) a2 a λa3=>A.c b a3 (.bool false) a λd=>A.tr d (Ya 1) e a λa4=>
 A.ta d a4 a λa5=>A.tr d Xh x1 a λa6=>A.tb d .eql a5 a6 a λa7=>A.c d a7 (.bool false) a λa8=>g a8 a
 |_=>A.stop
theorem g151_ok:GQ 151 2 g151:=gq2 [] λ_ _ _ _ _ _=>by kernel_rfl
def g152:GFun:=λA xs a b=>match xs with
 |[x0,x1]=>
 A.k 150 [x0] a λc a=>A.test c (A.pu (Qa [x0] a) λd=>A.pu (Ya 0 [d] a) λe=>A.dr (Ye [e] a) a λf g a=>A.pu (Qa [x0] a) λh=>
 A.pu (Ya 1 [h] a) λi=>A.dr (Ye [i] a) a λj l a=>A.dr (Yb 4 [f,j] a) a λm n a=>A.pu (Ya 3 [m] a) λo=>A.dr (Ye [o] a) a λp q a=>
 A.pu (Xf [jv 0,jv 0] [(0,1),(1,1)] [x1,p] a) λr=>A.pu (Qa [x0] a) λs=>A.pu (Ya 3 [s] a) λt=>A.dr (Qb 2 [t,r] a) a λ_ u a=>
 A.gd (Xg [[],[],[],[2],[2,3],[2,3,4],[],[6],[6,7],[6,7,8],[2,3,4,5,6,7,8,9],[2,3,4,5,6,7,8,9,10],[2,3,4,5,6,7,8,9,10,11],[1,2,3,4,5,6,7,8,9,10,11,12],[0,1,2,3,4,5,6,7,8,9,10,11,12,13],[0,1,2,3,4,5,6,7,8,9,10,11,12,13,14],[0,1,2,3,4,5,6,7,8,9,10,11,12,13,14,15]] [([],[]),([],[]),([],[]),([],[]),([],[]),g,([],[]),([],[]),([],[]),l,n,([],[]),q,([],[]),([],[]),([],[]),u]) <|
 b (.tup []) a) (b (.tup []) a)
 |_=>A.stop
theorem g152_ok:GQ 152 2 g152:=gq2 [none] λ_ _ _ _ _ _=>by kernel_rfl
def g153:GFun:=λA xs d v=>match xs with
 |[x0,x1]=>
 A.wr (Yf [.str [],.bool false,jv 0,jv 0,jv 0,jv 0,jv 0,jv 0,.nils,.nils,.nils,jv 0] [] d) d λp d=>A.k 200 [x0] d λw d=>
 A.rd (Xf [.str [],.bool false,jv 0,jv 0,jv 0,jv 0,jv 0,jv 0,.nils,.nils,.nils,jv 0] [(11,1),(0,1)] [x1,w] d) λy=>A.wr (Yf [.str [],.bool false,jv 0,jv 0,jv 0,jv 0,jv 0,jv 0,.nils,.nils,.nils,jv 0] [] d) d λe d=>
 A.ws (Qb 12) e y d λ_ d=>A.k 201 [x0,(.str [117,110,105,116])] d λz d=>joinK (λq=>A.test z (A.r (Ya 1) e d λt7=>A.ws (Qb 1) t7 (.bool true) d λ_ d=>
 A.k 202 [x0] d λt8 d=>A.r (Ya 2) e d λt9=>A.ws (Qb 1) t9 t8 d λ_ d=>A.k 202 [x0] d λa0 d=>A.r (Ya 3) e d λa1=>A.ws (Qb 1) a1 a0 d λ_ d=>
 A.k 203 [x0,(.str [47])] d λi7 d=>A.k 202 [x0] d λa2 d=>A.r (Ya 4) e d λa3=>A.ws (Qb 1) a3 a2 d λ_ d=>q [] d) (A.k 203 [x0,(.str [99,104,97,114,109])] d λi8 d=>
 A.k 202 [x0] d λa4 d=>A.r (Ya 2) e d λa5=>A.ws (Qb 1) a5 a4 d λ_ d=>q [] d)) (λv6 d=>A.k 203 [x0,(.str [123])] d λi9 d=>joinK (λt=>
 A.loop (λg a6 d=>A.k 150 [x0] d λj d=>A.tr j Xh x0 d λa7=>A.gw j true (λk=>A.k 151 [a7,(.str [125])] d k) d λa8 d=>A.tr j (Qn .not) a8 d λa9=>
 A.c j a9 (.bool false) d λb0=>A.test b0 (A.r Qa x0 d λb1=>A.r (Ya 0) b1 d λb2=>A.a b2 d λb3=>A.r Qa x0 d λb4=>A.r (Ya 1) b4 d λb5=>
 A.a b5 d λb6=>A.s (Yb 4) b3 b6 d λb7=>A.r (Ya 1) b7 d λb8=>A.a b8 d λh=>A.k 151 [x0,(.str [112,108,97,121,101,100])] d λb9 d=>
 A.r (Qn .not) b9 d λl=>A.tr l Xh x0 d λc0=>A.gw l true (λk=>A.k 151 [c0,(.str [100,101,97,100])] d k) d λc1 d=>A.tr l (Qn .not) c1 d λc2=>
 A.c l c2 (.bool false) d λm=>A.tr m Xh x0 d λc3=>A.gw m true (λk=>A.k 151 [c3,(.str [100,97,119,110])] d k) d λc4 d=>A.tr m (Qn .not) c4 d λc5=>
 A.c m c5 (.bool false) d λn=>A.tr n Xh x0 d λc6=>A.gw n true (λk=>A.k 151 [c6,(.str [97,117,114,97])] d k) d λc7 d=>A.tr n (Qn .not) c7 d λc8=>
 A.c n c8 (.bool false) d λo=>A.tr o Xh x0 d λc9=>A.gw o true (λk=>A.k 151 [c9,(.str [115,104,105,101,108,100])] d k) d λd0 d=>A.tr o (Qn .not) d0 d λd1=>
 A.c o d1 (.bool false) d λd2=>A.test d2 (A.k 152 [x0,jv 120] d λj0 d=>t [] d) (A.k 204 [x0,(h0 a6),h] d λi d=>A.r Qa x0 d λd3=>A.r (Ya 1) d3 d λd4=>
 A.a d4 d λd5=>A.b .add d5 (jv 1) d λd6=>A.r Qa x0 d λd7=>A.r (Ya 1) d7 d λd8=>A.ws (Qb 1) d8 d6 d λ_ d=>A.rd (Yh .eql false [h,(.str [112,108,97,121,101,100])] d) λd9=>
 A.test d9 (A.k 205 [x0] d λe0 d=>A.r (Ya 8) e d λe1=>A.ws (Qb 1) e1 e0 d λ_ d=>g [i] d) (A.rd (Yh .eql false [h,(.str [100,101,97,100])] d) λe2=>
 A.test e2 (A.k 205 [x0] d λe3 d=>A.r (Ya 9) e d λe4=>A.ws (Qb 1) e4 e3 d λ_ d=>g [i] d) (A.rd (Yh .eql false [h,(.str [100,97,119,110])] d) λe5=>
 A.test e5 (A.k 205 [x0] d λe6 d=>A.r (Ya 10) e d λe7=>A.ws (Qb 1) e7 e6 d λ_ d=>g [i] d) (A.rd (Yh .eql false [h,(.str [97,117,114,97])] d) λe8=>
 A.test e8 (A.k 202 [x0] d λe9 d=>A.r (Ya 6) e d λf0=>A.ws (Qb 1) f0 e9 d λ_ d=>A.k 203 [x0,(.str [47])] d λj1 d=>A.k 202 [x0] d λf1 d=>
 A.r (Ya 7) e d λf2=>A.ws (Qb 1) f2 f1 d λ_ d=>A.k 203 [x0,(.str [59])] d λj2 d=>g [i] d) (A.rd (Yh .eql false [h,(.str [115,104,105,101,108,100])] d) λf3=>
 A.test f3 (A.k 202 [x0] d λf4 d=>A.r (Ya 5) e d λf5=>A.ws (Qb 1) f5 f4 d λ_ d=>A.k 203 [x0,(.str [59])] d λj3 d=>g [i] d) (g [i] d))))))) (
 t [] d)) [.nils] d) (λj4 d=>A.dcall (.call 150) [x0] d λf f6 d=>A.gr f true (λk=>A.pu (Ya 8 [e] d) k) λf7=>A.gl f true (λk=>A.dr (Ye [f7] d) d k) d λf8 f9 d=>
 A.gl f true (λk=>A.dcall (.call 206) [f8] d k) d λg0 g1 d=>A.gr f true (λk=>A.pu (Ya 9 [e] d) k) λg2=>A.gl f true (λk=>A.dr (Ye [g2] d) d k) d λg3 g4 d=>
 A.gl f true (λk=>A.dcall (.call 206) [g3] d k) d λg5 g6 d=>A.gr f true (λk=>A.pu (Yh .add false [g0,g5] d) k) λg7=>A.gr f true (λk=>A.pu (Ya 10 [e] d) k) λg8=>
 A.gl f true (λk=>A.dr (Ye [g8] d) d k) d λg9 i0 d=>A.gl f true (λk=>A.dcall (.call 206) [g9] d k) d λi1 i2 d=>A.gr f true (λk=>A.pu (Yh .add false [g7,i1] d) k) λi3=>
 A.gr f true (λk=>A.pu (Yh .gtr false [i3,jv 200] d) k) λi4=>A.pu (Yi [f,i4,.bool false] d) λi5=>A.gd (Xg [[],[0],[0,1],[0,1,2],[0,1,2,3],[0,1,2,3,4],[0,1,2],[0,1,2,6],[0,1,2,3,4,5,6,7],[0,1,2,3,4,5,6,7,8],[0,1,2],[0,1,2,10],[0,1,2,3,4,5,6,7,8,10,11],[0,1,2,3,4,5,6,7,8,9,10,11,12],[0,1,2,3,4,5,6,7,8,9,10,11,12,13],[0,1,2,3,4,5,6,7,8,9,10,11,12,13,14]] [([],[]),f6,([],[]),([],[]),f9,g1,([],[]),g4,g6,([],[]),([],[]),i0,i2,([],[]),([],[]),([],[])]) <|
 joinK (λu=>A.test i5 (A.k 152 [x0,jv 3] d λj5 d=>u [] d) (u [] d)) (λj6 d=>A.k 203 [x0,(.str [125])] d λj7 d=>A.r (Xc true 12) e d λi6=>
 A.ws (Qb 12) p i6 d λ_ d=>A.opt (cellV true 12 p d) λr109=>v r109 d)))
 |_=>A.stop
theorem g153_ok:GQ 153 2 g153:=gq2 [some [],some [],some [6],none,none,none,none,none,none,none,none,none,some []] λ_ _ _ _ _ _=>by kernel_rfl
def g154:GFun:=λA xs d p=>match xs with
 |[x0,x1]=>
 A.wr (Yf [.str [],jv 0,jv 0,jv 0,.nils,.nils,jv 0] [] d) d λn d=>A.k 200 [x0] d λq d=>A.rd (Xf [.str [],jv 0,jv 0,jv 0,.nils,.nils,jv 0] [(6,1),(0,1)] [x1,q] d) λt=>
 A.wr (Yf [.str [],jv 0,jv 0,jv 0,.nils,.nils,jv 0] [] d) d λe d=>A.ws (Qb 7) e t d λ_ d=>A.k 203 [x0,(.str [123])] d λt4 d=>
 joinK (λo=>A.loop (λu v d=>A.k 150 [x0] d λh d=>A.tr h Xh x0 d λw=>A.gw h true (λk=>A.k 151 [w,(.str [125])] d k) d λy d=>A.tr h (Qn .not) y d λz=>
 A.c h z (.bool false) d λa0=>A.test a0 (A.r Qa x0 d λa1=>A.r (Ya 0) a1 d λa2=>A.a a2 d λa3=>A.r Qa x0 d λa4=>A.r (Ya 1) a4 d λa5=>
 A.a a5 d λa6=>A.s (Yb 4) a3 a6 d λa7=>A.r (Ya 1) a7 d λa8=>A.a a8 d λf=>A.k 151 [x0,(.str [108,101,97,115,116])] d λa9 d=>
 A.r (Qn .not) a9 d λi=>A.tr i Xh x0 d λb0=>A.gw i true (λk=>A.k 151 [b0,(.str [109,111,115,116])] d k) d λb1 d=>A.tr i (Qn .not) b1 d λb2=>
 A.c i b2 (.bool false) d λj=>A.tr j Xh x0 d λb3=>A.gw j true (λk=>A.k 151 [b3,(.str [99,111,112,105,101,115])] d k) d λb4 d=>A.tr j (Qn .not) b4 d λb5=>
 A.c j b5 (.bool false) d λl=>A.tr l Xh x0 d λb6=>A.gw l true (λk=>A.k 151 [b6,(.str [98,97,110,110,101,100])] d k) d λb7 d=>A.tr l (Qn .not) b7 d λb8=>
 A.c l b8 (.bool false) d λm=>A.tr m Xh x0 d λb9=>A.gw m true (λk=>A.k 151 [b9,(.str [115,105,110,103,108,101])] d k) d λc0 d=>A.tr m (Qn .not) c0 d λc1=>
 A.c m c1 (.bool false) d λc2=>A.test c2 (A.k 152 [x0,jv 120] d λe6 d=>o [] d) (A.k 204 [x0,(h0 v),f] d λc3 d=>A.r Qa x0 d λc4=>A.r (Ya 1) c4 d λc5=>
 A.a c5 d λc6=>A.b .add c6 (jv 1) d λc7=>A.r Qa x0 d λc8=>A.r (Ya 1) c8 d λc9=>A.ws (Qb 1) c9 c7 d λ_ d=>joinK (λg=>
 A.rd (Yh .eql false [f,(.str [108,101,97,115,116])] d) λd0=>A.test d0 (A.k 202 [x0] d λd1 d=>A.r (Ya 1) e d λd2=>A.ws (Qb 1) d2 d1 d λ_ d=>
 g [] d) (A.rd (Yh .eql false [f,(.str [109,111,115,116])] d) λd3=>A.test d3 (A.k 202 [x0] d λd4 d=>A.r (Ya 2) e d λd5=>A.ws (Qb 1) d5 d4 d λ_ d=>
 g [] d) (A.rd (Yh .eql false [f,(.str [99,111,112,105,101,115])] d) λd6=>A.test d6 (A.k 202 [x0] d λd7 d=>A.r (Ya 3) e d λd8=>A.ws (Qb 1) d8 d7 d λ_ d=>
 g [] d) (A.rd (Yh .eql false [f,(.str [98,97,110,110,101,100])] d) λd9=>A.test d9 (A.k 207 [x0] d λe0 d=>A.r (Ya 4) e d λe1=>A.ws (Qb 1) e1 e0 d λ_ d=>
 g [] d) (A.rd (Yh .eql false [f,(.str [115,105,110,103,108,101])] d) λe2=>A.test e2 (A.k 207 [x0] d λe3 d=>A.r (Ya 5) e d λe4=>A.ws (Qb 1) e4 e3 d λ_ d=>
 g [] d) (g [] d)))))) (λe7 d=>A.k 203 [x0,(.str [59])] d λe8 d=>u [c3] d))) (o [] d)) [.nils] d) (λv6 d=>A.k 203 [x0,(.str [125])] d λe9 d=>A.r (Xc true 7) e d λe5=>
 A.ws (Qb 7) n e5 d λ_ d=>A.opt (cellV true 7 n d) λr69=>p r69 d)
 |_=>A.stop
theorem g154_ok:GQ 154 2 g154:=gq2 [some [],some [6],none,none,none,some [],none,none,none,none,none] λ_ _ _ _ _ _=>by kernel_rfl
def g155:GFun:=λA xs c f=>match xs with
 |[x0,x1]=>
 A.r Qa x0 c λh=>A.r (Ya 8) h c λi=>A.a i c λj=>A.r Qa x0 c λl=>A.r (Ya 9) l c λm=>A.a m c λn=>A.r Qa x0 c λo=>
 A.r (Ya 10) o c λp=>A.a p c λq=>A.rd (Xf [.nils,.nils,.nils] [(0,1),(1,1),(2,1)] [j,n,q] c) λt=>A.loop (λu d c=>A.b .lss (h0 d) (jv 3) c λv=>
 A.test v (A.s (Q0 false 3 1) t (h0 d) c λg=>A.r Xe g c λw=>A.loop (λy e c=>A.b .lss (h0 e) w c λz=>A.test z (A.s (Yb 14) g (h0 e) c λa0=>
 A.rd (Xf [.nilp] [(0,1)] [a0] c) λa1=>A.r (Xz 272) a1 c λa2=>A.k 208 [a2,x1] c λa3 c=>A.r (Qn .not) a3 c λa4=>A.test a4 (f (.tup []) c) (
 A.b .add (h0 e) (jv 1) c λa5=>y [a5] c)) (A.b .add (h0 d) (jv 1) c λa6=>u [a6] c)) [jv 0] c) (f (.tup []) c)) [jv 0] c
 |_=>A.stop
theorem g155_ok:GQ 155 2 g155:=gq2 [none,some [20],none,none,none,some [25],none,none,none] λ_ _ _ _ _ _=>by kernel_rfl
def g156:GFun:=λA xs c d=>match xs with
 |[x0,x1]=>
 A.a x1 c λe=>A.b .add e (jv 1) c λf=>A.ws (Qb 1) x1 f c λ_ c=>A.a x1 c λg=>A.b .lss g (jv 1073741824) c λh=>d h c
 |_=>A.stop
theorem g156_ok:GQ 156 2 g156:=gq2 [] λ_ _ _ _ _ _=>by kernel_rfl
def g157:GFun:=λA xs d t=>match xs with
 |[x0,x1,x2]=>
 A.r Xe x1 d λt0=>A.b .gtr t0 (jv 16) d λu=>A.fr u Xh x2 d λt2=>A.fb u .gtr t2 (jv 8) d λt3=>A.c u (.bool true) t3 d λt4=>A.test t4 (t (.bool false) d) (
 A.r Xe x1 d λt5=>A.loop (λa4 v d=>A.b .lss (h0 v) t5 d λt8=>A.test t8 (A.s (Yb 14) x1 (h0 v) d λf=>A.k 209 [f] d λh d=>A.tr h Xh f d λa5=>
 A.tr h Qa a5 d λa6=>A.tr h (Ya 0) a6 d λa7=>A.ta h a7 d λa8=>A.gw h true (λk=>A.k 210 [a8] d k) d λa9 d=>A.tr h (Qn .not) a9 d λb0=>
 A.tr h Xh b0 d λn=>A.fr n Xh x0 d λb1=>A.fr n Xh f d λb2=>A.fr n Qa b2 d λb3=>A.fr n (Ya 2) b3 d λb4=>A.gw n false (λk=>A.k 211 [b1,b4] d k) d λb5 d=>
 A.tc h n (.bool true) b5 d λb6=>A.c h b6 (.bool false) d λe=>A.r Qa f d λb7=>A.r (Ya 0) b7 d λb8=>A.a b8 d λi=>joinK (λp=>
 A.b .eql i (.int .i8 0) d λy=>joinK (λz=>A.test y (z [y] d) (A.b .eql i (.int .i8 1) d λb9=>z [b9] d)) (λc0 d=>A.test (h0 c0) (A.tr e Xh f d λc1=>
 A.tr e Qa c1 d λc2=>A.tr e (Ya 1) c2 d λc3=>A.ta e c3 d λc4=>A.gw e true (λk=>A.k 212 [c4] d k) d λc5 d=>A.tr e Xh c5 d λm=>
 A.fr m Xh f d λc6=>A.fr m Qa c6 d λc7=>A.fr m (Ya 1) c7 d λc8=>A.fa m c8 d λc9=>A.fb m .eql c9 (.int .i8 2) d λd0=>A.fr m Xh d0 d λq=>
 A.tr q Xh x0 d λd1=>A.tr q Qa d1 d λd2=>A.tr q (Ya 1) d2 d λd3=>A.ta q d3 d λd4=>A.fc m q d4 (.bool false) d λd5=>A.tc e m (.bool true) d5 d λd6=>
 A.c e d6 (.bool false) d λd7=>p [d7] d) (A.b .eql i (.int .i8 2) d λa0=>joinK (λw=>A.test a0 (w [a0] d) (A.b .eql i (.int .i8 4) d λa1=>A.test a1 (
 w [a1] d) (A.b .eql i (.int .i8 6) d λd8=>w [d8] d))) (λd9 d=>A.test (h0 d9) (A.tr e Xh f d λe0=>A.tr e Qa e0 d λe1=>A.tr e (Ya 1) e1 d λe2=>
 A.ta e e2 d λe3=>A.gw e true (λk=>A.k 212 [e3] d k) d λe4 d=>A.c e e4 (.bool false) d λe5=>p [e5] d) (A.b .eql i (.int .i8 3) d λa2=>joinK (λa3=>
 A.test a2 (a3 [a2] d) (A.b .eql i (.int .i8 5) d λe6=>a3 [e6] d)) (λe7 d=>A.test (h0 e7) (A.tr e Xh f d λe8=>A.tr e Qa e8 d λe9=>A.tr e (Ya 1) e9 d λf0=>
 A.ta e f0 d λf1=>A.tb e .eql f1 (.int .i8 0) d λf2=>A.c e f2 (.bool false) d λf3=>p [f3] d) (A.b .eql i (.int .i8 7) d λf4=>A.test f4 (A.tr e Xh f d λf5=>
 A.tr e Qa f5 d λf6=>A.tr e (Ya 1) f6 d λf7=>A.ta e f7 d λf8=>A.tb e .eql f8 (.int .i8 0) d λf9=>A.c e f9 (.bool false) d λg=>
 A.tr g Xh x0 d λg0=>A.tr g Qa g0 d λg1=>A.tr g (Ya 0) g1 d λg2=>A.ta g g2 d λg3=>A.tr g Xh f d λg4=>A.tr g Qa g4 d λg5=>
 A.tr g (Ya 6) g5 d λg6=>A.ta g g6 d λg7=>A.ts g (Yo true false (.bool false)) g3 g7 d λg8=>A.c g g8 (.bool false) d λg9=>p [g9] d) (
 A.b .eql i (.int .i8 8) d λi0=>A.test i0 (A.tr e Xh f d λi1=>A.tr e Qa i1 d λi2=>A.tr e (Ya 1) i2 d λi3=>A.ta e i3 d λi4=>
 A.tb e .eql i4 (.int .i8 0) d λi5=>A.c e i5 (.bool false) d λo=>A.tr o Xh x0 d λi6=>A.tr o Xh f d λi7=>A.tr o Qa i7 d λi9=>A.tr o (Ya 7) i9 d λj0=>
 A.gw o true (λk=>A.k 213 [i6,j0] d k) d λj1 d=>A.c o j1 (.bool false) d λj=>A.tr j Xh x0 d λj2=>A.tr j Xh f d λj3=>A.tr j Qa j3 d λj4=>
 A.tr j (Ya 12) j4 d λj5=>A.ta j j5 d λj6=>A.tr j Xh x2 d λj7=>A.tb j .add j7 (jv 1) d λj8=>A.gw j true (λk=>A.k 157 [j2,j6,j8] d k) d λj9 d=>
 A.c j j9 (.bool false) d λl=>A.tr l Xh x0 d λl0=>A.tr l Xh f d λl1=>A.tr l Qa l1 d λl2=>A.tr l (Ya 13) l2 d λl3=>A.ta l l3 d λl4=>
 A.tr l Xh x2 d λl5=>A.tb l .add l5 (jv 1) d λl6=>A.gw l true (λk=>A.k 157 [l0,l4,l6] d k) d λl7 d=>A.c l l7 (.bool false) d λl8=>p [l8] d) (
 t (.bool false) d))))))))) (λl9 d=>A.r (Qn .not) (h0 l9) d λm0=>A.test m0 (t (.bool false) d) (A.b .add (h0 v) (jv 1) d λm1=>a4 [m1] d))) (t (.bool true) d)) [jv 0] d)
 |_=>A.stop
theorem g157_ok:GQ 157 3 g157:=gq3 [none,none,some [19],none,none,some [9],some [46],none,some [70],none,none,some [82],none,none,none,none] λ_ _ _ _ _ _ _=>by kernel_rfl
def g158:GFun:=λA xs d m=>match xs with
 |[x0]=>
 A.w1 Qk x0 d λe d=>A.r (Ya 1) e d λt=>A.a t d λu=>A.r (Ya 2) e d λv=>A.a v d λw=>A.r Qa w d λy=>A.r (Ya 1) y d λz=>
 A.a z d λt7=>A.r Qa u d λt8=>A.r (Ya 7) t8 d λt9=>A.s (Qg 2 8) t9 t7 d λn=>A.r (Ya 1) e d λa0=>A.a a0 d λa1=>
 A.r Qa a1 d λa2=>A.r (Ya 2) a2 d λa3=>A.a a3 d λa4=>A.b .neq a4 (.int .i8 0) d λh=>A.fr h (Ya 2) e d λa5=>A.fa h a5 d λa6=>
 A.fr h Qa a6 d λa7=>A.fr h (Ya 2) a7 d λa8=>A.fa h a8 d λa9=>A.fb h .lss a9 (jv 0) d λb0=>A.c h (.bool true) b0 d λf=>A.fr f (Ya 2) e d λb1=>
 A.fa f b1 d λb2=>A.fr f Qa b2 d λb3=>A.fr f (Ya 2) b3 d λb4=>A.fa f b4 d λb5=>A.fr f Xh n d λb6=>A.fr f Qa b6 d λb7=>
 A.fr f (Ya 4) b7 d λb8=>A.fa f b8 d λb9=>A.fr f Xe b9 d λc0=>A.fb f .geq b5 c0 d λc1=>A.c f (.bool true) c1 d λc2=>A.test c2 (m (.bool false) d) (
 A.pu (Ya 0 [e] d) λc3=>A.dr (Ye [c3] d) d λc4 c5 d=>A.pu (Qa [c4] d) λc6=>A.pu (Ya 0 [c6] d) λc7=>A.dr (Ye [c7] d) d λc8 c9 d=>
 A.pu (Qa [n] d) λd0=>A.pu (Ya 4 [d0] d) λd1=>A.dr (Ye [d1] d) d λd2 d3 d=>A.pu (Ya 2 [e] d) λd4=>A.dr (Ye [d4] d) d λd5 d6 d=>
 A.pu (Qa [d5] d) λd7=>A.pu (Ya 2 [d7] d) λd8=>A.dr (Ye [d8] d) d λd9 e0 d=>A.dr (Yb 1 [d2,d9] d) d λe1 e2 d=>A.dr (Ye [e1] d) d λe3 e4 d=>
 A.dr (Yb 12 [c8,e3] d) d λe5 e6 d=>A.dr (Xc true 12 [e5] d) d λe7 e8 d=>A.dr (Yf [.str [],.bool false,jv 0,jv 0,jv 0,jv 0,jv 0,jv 0,.nils,.nils,.nils,jv 0] [] d) d λo e9 d=>
 A.dr (Qb 12 [o,e7] d) d λ_ f0 d=>A.gd (Xg [[],[0],[0,1],[0,1,2],[0,1,2,3],[],[5],[5,6],[5,6,7],[],[9],[9,10],[9,10,11],[9,10,11,12],[5,6,7,8,9,10,11,12,13],[5,6,7,8,9,10,11,12,13,14],[0,1,2,3,4,5,6,7,8,9,10,11,12,13,14,15],[0,1,2,3,4,5,6,7,8,9,10,11,12,13,14,15,16],[],[0,1,2,3,4,5,6,7,8,9,10,11,12,13,14,15,16,17,18]] [([],[]),c5,([],[]),([],[]),c9,([],[]),([],[]),([],[]),d3,([],[]),d6,([],[]),([],[]),e0,e2,e4,e6,e8,e9,f0]) <|
 A.r (Ya 2) o d λf1=>A.a f1 d λf2=>A.r Qa n d λf3=>A.r (Ya 1) f3 d λf4=>A.a f4 d λf5=>A.b .gtr f2 f5 d λl=>A.fr l (Ya 1) o d λf6=>
 A.fa l f6 d λf7=>A.fr l Xh f7 d λi=>A.tr i Xh n d λf8=>A.tr i Qa f8 d λf9=>A.tr i (Ya 6) f9 d λg0=>A.ta i g0 d λg1=>
 A.tr i Xe g1 d λg2=>A.tb i .geq g2 (jv 7) d λg3=>A.fc l i g3 (.bool false) d λg4=>A.c l (.bool true) g4 d λg5=>A.test g5 (m (.bool false) d) (
 A.r (Xc true 12) o d λg6=>A.k 214 [g6] d λg7 d=>A.r (Qn .not) g7 d λg8=>A.test g8 (A.r (Ya 2) e d λg9=>A.a g9 d λi0=>A.r Qa i0 d λi1=>
 A.r (Ya 3) i1 d λi2=>A.a i2 d λi3=>A.b .eql i3 (jv (-1)) d λi4=>m i4 d) (A.pu (Ya 1 [e] d) λi5=>A.dr (Ye [i5] d) d λi6 i7 d=>
 A.pu (Qa [i6] d) λi9=>A.dr (Xc true 23 [i9] d) d λj0 j1 d=>A.pu (Ya 2 [e] d) λj2=>A.dr (Ye [j2] d) d λj3 j4 d=>A.pu (Qa [j3] d) λj5=>
 A.pu (Ya 3 [j5] d) λj6=>A.dr (Ye [j6] d) d λj7 j8 d=>A.dcall (.call 71) [j0,j7] d λp j9 d=>A.pu (Qd 0 [p] d) λn1=>A.pu (Qd 1 [p] d) λn2=>
 A.pu (Qd 2 [p] d) λl0=>A.gd (Xg [[],[0],[0,1],[0,1,2],[],[4],[4,5],[4,5,6],[4,5,6,7],[0,1,2,3,4,5,6,7,8],[0,1,2,3,4,5,6,7,8,9],[0,1,2,3,4,5,6,7,8,9,10],[0,1,2,3,4,5,6,7,8,9,10],[0,1,2,3,4,5,6,7,8,9,10],[0,1,2,3,4,5,6,7,8,9,10,11],[0,1,2,3,4,5,6,7,8,9,10,11,12,14],[0,1,2,3,4,5,6,7,8,9,10,11,12,13,14,15]] [([],[]),i7,([],[]),j1,([],[]),j4,([],[]),([],[]),j8,j9,([],[]),([],[]),([],[]),([],[]),([],[]),([],[]),([],[])]) <|
 A.r (Ya 2) e d λl1=>A.a l1 d λl2=>A.r Qa l2 d λl3=>A.r (Ya 3) l3 d λl4=>A.a l4 d λl5=>A.b .eql l5 (jv (-2)) d λj=>
 A.fr j (Ya 2) e d λl6=>A.fa j l6 d λl7=>A.fr j Qa l7 d λl8=>A.fr j (Ya 3) l8 d λl9=>A.fa j l9 d λm0=>A.fb j .eql m0 (jv (-3)) d λm1=>
 A.c j (.bool true) m1 d λg=>A.fr g (Ya 2) e d λm2=>A.fa g m2 d λm3=>A.fr g Qa m3 d λm4=>A.fr g (Ya 3) m4 d λm5=>A.fa g m5 d λm6=>
 A.fb g .gtr m6 (jv 0) d λm7=>A.fr g Xh m7 d λq=>A.tr q Xh l0 d λm8=>A.fc g q m8 (.bool false) d λm9=>A.c g (.bool true) m9 d λn0=>m n0 d)))
 |_=>A.stop
theorem g158_ok:GQ 158 1 g158:=gq1 [none,none,none] λ_ _ _ _ _=>by kernel_rfl
def g159:GFun:=λA xs d p=>match xs with
 |[x0]=>
 A.w1 Qk x0 d λh d=>A.wr (Yz [] d) d λl d=>A.r (Ya 2) h d λu=>A.a u d λv=>A.r Qa v d λw=>A.r (Ya 4) w d λy=>
 A.a y d λq=>A.r Xe q d λz=>A.loop (λa0 m d=>A.b .lss (h0 m) z d λa1=>A.test a1 (A.s (Yb 1) q (h0 m) d λa2=>A.a a2 d λn=>A.r (Ya 1) h d λa3=>
 A.a a3 d λa4=>A.r Qa a4 d λa5=>A.r (Xc true 23) a5 d λa6=>A.k 71 [a6,n] d λo d=>A.r (Qd 0) o d λt=>A.r (Qd 1) o d λa7=>
 A.r (Qd 2) o d λa8=>A.r (Qn .not) a8 d λf=>A.fr f Xh t d λa9=>A.fr f (Ya 2) h d λb0=>A.fa f b0 d λb1=>A.fr f Qa b1 d λb2=>
 A.fr f (Ya 1) b2 d λb3=>A.fa f b3 d λb4=>A.fb f .neq a9 b4 d λb5=>A.c f (.bool true) b5 d λe=>A.fr e (Ya 1) h d λb6=>A.fa e b6 d λb7=>
 A.fr e Xh t d λb8=>A.fr e Qa b7 d λb9=>A.fr e (Ya 7) b9 d λc0=>A.fs e (Qg 2 8) c0 b8 d λc1=>A.fr e (Ya 6) c1 d λc2=>
 A.fa e c2 d λc3=>A.fr e Xh a7 d λc4=>A.fs e (Yb 4) c3 c4 d λc5=>A.fr e (Ya 3) c5 d λc6=>A.fa e c6 d λc7=>A.c e (.bool true) c7 d λi=>
 A.fr i Xh l d λc8=>A.fr i Xh n d λc9=>A.fs i (Yo false false (.bool false)) c8 c9 d λd0=>A.c i (.bool true) d0 d λd1=>A.test d1 (p (.bool false) d) (
 A.wr (Xv false [l,n,.bool true] d) d λ_ d=>A.b .add (h0 m) (jv 1) d λd2=>a0 [d2] d)) (A.r (Ya 1) h d λd3=>A.a d3 d λd4=>A.r Qa d4 d λd5=>
 A.r (Ya 2) d5 d λd6=>A.a d6 d λd7=>A.b .eql d7 (.int .i8 0) d λg=>A.tr g (Ya 1) h d λd8=>A.ta g d8 d λd9=>A.tr g Qa d9 d λe0=>
 A.tr g (Ya 3) e0 d λe1=>A.ta g e1 d λe2=>A.tr g (Qn .not) e2 d λe3=>A.c g e3 (.bool false) d λj=>A.tr j Xh l d λe4=>A.tr j ZaJ e4 d λe5=>
 A.tb j .gtr e5 (jv 0) d λe6=>A.c j e6 (.bool false) d λe7=>p e7 d)) [jv 0] d
 |_=>A.stop
theorem g159_ok:GQ 159 1 g159:=gq1 [none,some [16],none,none,none] λ_ _ _ _ _=>by kernel_rfl
def g160:GFun:=λA xs d p=>match xs with
 |[x0]=>
 A.w1 Qk x0 d λg d=>A.wr (Yz [] d) d λl d=>A.wr (Yz [] d) d λq d=>A.r (Ya 2) g d λu=>A.a u d λv=>A.r Qa v d λw=>
 A.r (Ya 5) w d λy=>A.a y d λt=>A.r Xe t d λz=>A.loop (λa0 m d=>A.b .lss (h0 m) z d λa1=>A.test a1 (A.s (Yb 2) t (h0 m) d λa2=>
 A.r (Xc true 2) a2 d λa3=>A.wr (Yf [jv 0,jv 0] [] d) d λf d=>A.ws (Qb 2) f a3 d λ_ d=>A.pu (Ya 1 [g] d) λa4=>A.dr (Ye [a4] d) d λa5 a6 d=>
 A.pu (Qa [a5] d) λa7=>A.dr (Xc true 23 [a7] d) d λa8 a9 d=>A.pu (Ya 1 [f] d) λb0=>A.dr (Ye [b0] d) d λb1 b2 d=>A.dcall (.call 71) [a8,b1] d λn b3 d=>
 A.pu (Qd 0 [n] d) λb4=>A.pu (Qd 1 [n] d) λi0=>A.pu (Qd 2 [n] d) λb5=>A.gd (Xg [[],[0],[0,1],[0,1,2],[],[4],[0,1,2,3,4,5],[0,1,2,3,4,5,6],[0,1,2,3,4,5,6,7],[0,1,2,3,4,5,6,7],[0,1,2,3,4,5,6,7],[0,1,2,3,4,5,6,7,8],[0,1,2,3,4,5,6,7,8,9,11],[0,1,2,3,4,5,6,7,8,9,10,11,12]] [([],[]),a6,([],[]),a9,([],[]),b2,b3,([],[]),([],[]),([],[]),([],[]),([],[]),([],[]),([],[])]) <|
 A.pu (Ya 1 [g] d) λb6=>A.dr (Ye [b6] d) d λb7 b8 d=>A.pu (Qa [b7] d) λb9=>A.pu (Ya 5 [b9] d) λc0=>A.dr (Ye [c0] d) d λc1 c2 d=>
 A.pu (Ya 0 [f] d) λc3=>A.dr (Ye [c3] d) d λc4 c5 d=>A.dcall (.call 138) [c1,c4] d λc6 c7 d=>A.pu (Qn .not [c6] d) λo=>A.gr o false (λk=>A.pu (Xh [b5] d) k) λc8=>
 A.gr o false (λk=>A.pu (Qn .not [c8] d) k) λc9=>A.pu (Yi [o,.bool true,c9] d) λe=>A.gr e false (λk=>A.pu (Xh [b4] d) k) λd0=>A.gr e false (λk=>A.pu (Ya 2 [g] d) k) λd1=>
 A.gl e false (λk=>A.dr (Ye [d1] d) d k) d λd2 d3 d=>A.gr e false (λk=>A.pu (Qa [d2] d) k) λd4=>A.gr e false (λk=>A.pu (Ya 1 [d4] d) k) λd5=>
 A.gl e false (λk=>A.dr (Ye [d5] d) d k) d λd6 d7 d=>A.gr e false (λk=>A.pu (Yh .neq false [d0,d6] d) k) λd8=>A.pu (Yi [e,.bool true,d8] d) λh=>
 A.gr h false (λk=>A.pu (Xh [l] d) k) λd9=>A.gr h false (λk=>A.pu (Ya 0 [f] d) k) λe0=>A.gl h false (λk=>A.dr (Ye [e0] d) d k) d λe1 e2 d=>
 A.gl h false (λk=>A.dr (Yo false false (.bool false) [d9,e1] d) d k) d λe3 e4 d=>A.pu (Yi [h,.bool true,e3] d) λi=>A.gr i false (λk=>A.pu (Xh [q] d) k) λe5=>
 A.gr i false (λk=>A.pu (Ya 1 [f] d) k) λe6=>A.gl i false (λk=>A.dr (Ye [e6] d) d k) d λe7 e8 d=>A.gl i false (λk=>A.dr (Yo false false (.bool false) [e5,e7] d) d k) d λe9 f0 d=>
 A.pu (Yi [i,.bool true,e9] d) λf1=>A.gd (Xg [[],[0],[0,1],[0,1,2],[0,1,2,3],[],[5],[0,1,2,3,4,5,6],[0,1,2,3,4,5,6,7],[0,1,2,3,4,5,6,7,8],[0,1,2,3,4,5,6,7,8,9],[0,1,2,3,4,5,6,7,8,9,10],[0,1,2,3,4,5,6,7,8,9,10,11],[0,1,2,3,4,5,6,7,8,9,10,11,12],[0,1,2,3,4,5,6,7,8,9,10,11,12,13],[0,1,2,3,4,5,6,7,8,9,10,11,12,13],[0,1,2,3,4,5,6,7,8,9,10,11,12,13,15],[0,1,2,3,4,5,6,7,8,9,10,11,12,13,15,16],[0,1,2,3,4,5,6,7,8,9,10,11,12,13,15,16,17],[0,1,2,3,4,5,6,7,8,9,10,11,12,13,15,16,17,18],[0,1,2,3,4,5,6,7,8,9,10,11,12,13,14,15,16,17,18,19],[0,1,2,3,4,5,6,7,8,9,10,11,12,13,14,15,16,17,18,19,20],[0,1,2,3,4,5,6,7,8,9,10,11,12,13,14,15,16,17,18,19,20,21],[0,1,2,3,4,5,6,7,8,9,10,11,12,13,14,15,16,17,18,19,20,21,22],[0,1,2,3,4,5,6,7,8,9,10,11,12,13,14,15,16,17,18,19,20,21,22],[0,1,2,3,4,5,6,7,8,9,10,11,12,13,14,15,16,17,18,19,20,21,22,24],[0,1,2,3,4,5,6,7,8,9,10,11,12,13,14,15,16,17,18,19,20,21,22,23,24,25],[0,1,2,3,4,5,6,7,8,9,10,11,12,13,14,15,16,17,18,19,20,21,22,23,24,25,26],[0,1,2,3,4,5,6,7,8,9,10,11,12,13,14,15,16,17,18,19,20,21,22,23,24,25,26,27],[0,1,2,3,4,5,6,7,8,9,10,11,12,13,14,15,16,17,18,19,20,21,22,23,24,25,26,27,28],[0,1,2,3,4,5,6,7,8,9,10,11,12,13,14,15,16,17,18,19,20,21,22,23,24,25,26,27,28],[0,1,2,3,4,5,6,7,8,9,10,11,12,13,14,15,16,17,18,19,20,21,22,23,24,25,26,27,28,30],[0,1,2,3,4,5,6,7,8,9,10,11,12,13,14,15,16,17,18,19,20,21,22,23,24,25,26,27,28,29,30,31],[0,1,2,3,4,5,6,7,8,9,10,11,12,13,14,15,16,17,18,19,20,21,22,23,24,25,26,27,28,29,30,31,32]] [([],[]),b8,([],[]),([],[]),c2,([],[]),c5,c7,([],[]),([],[]),([],[]),([],[]),([],[]),([],[]),([],[]),([],[]),d3,([],[]),([],[]),d7,([],[]),([],[]),([],[]),([],[]),([],[]),e2,e4,([],[]),([],[]),([],[]),([],[]),e8,f0,([],[])]) <|
 A.test f1 (p (.bool false) d) (A.pu (Ya 0 [f] d) λf2=>A.dr (Ye [f2] d) d λf3 f4 d=>A.pu (Ya 1 [f] d) λf5=>A.dr (Ye [f5] d) d λf6 f7 d=>
 A.dr (Xv false [l,f3,.bool true] d) d λ_ f8 d=>A.dr (Xv false [q,f6,.bool true] d) d λ_ f9 d=>A.gd (Xg [[],[],[1],[],[],[4],[0,1,2],[0,1,2,3,4,5,6]] [([],[]),([],[]),f4,([],[]),([],[]),f7,f8,f9]) <|
 A.b .add (h0 m) (jv 1) d λg0=>a0 [g0] d)) (A.r (Ya 1) g d λg1=>A.a g1 d λg2=>A.r Qa g2 d λg3=>A.r (Ya 2) g3 d λg4=>
 A.a g4 d λg5=>A.b .eql g5 (.int .i8 1) d λj=>A.tr j Xh l d λg6=>A.tr j ZaJ g6 d λg7=>A.tb j .gtr g7 (jv 0) d λg8=>A.c j g8 (.bool false) d λg9=>
 p g9 d)) [jv 0] d
 |_=>A.stop
theorem g160_ok:GQ 160 1 g160:=gq1 [none,some [18],none,none,none] λ_ _ _ _ _=>by kernel_rfl
def g161:GFun:=λA xs a b=>match xs with
 |[x0]=>
 A.w1 Qk x0 a λc a=>b (.bool true) a
 |_=>A.stop
theorem g161_ok:GQ 161 1 g161:=gq1 [] λ_ _ _ _ _=>by kernel_rfl
def g162:GFun:=λA xs a b=>match xs with
 |[x0]=>
 A.w1 Qk x0 a λc a=>b (.bool true) a
 |_=>A.stop
theorem g162_ok:GQ 162 1 g162:=gq1 [] λ_ _ _ _ _=>by kernel_rfl
def g163:GFun:=λA xs a f=>match xs with
 |[x0,x1,x2]=>
 A.b .add x1 (jv 1) a λg=>A.loop (λh e a=>A.b .lss (h0 e) x2 a λi=>A.test i (A.loop (λj d a=>A.pu (Yh .gtr false [(h0 d),x1] a) λc=>A.gr c true (λk=>A.pu (Xh [x0] a) k) λl=>
 A.gr c true (λk=>A.pu (Xh [(h0 d)] a) k) λm=>A.gl c true (λk=>A.dr (Yb 1 [l,m] a) a k) a λn o a=>A.gl c true (λk=>A.dr (Ye [n] a) a k) a λp q a=>
 A.gr c true (λk=>A.pu (Xh [x0] a) k) λr=>A.gr c true (λk=>A.pu (Xh [(h0 d)] a) k) λs=>A.gr c true (λk=>A.pu (Yh .sub false [s,jv 1] a) k) λt=>
 A.gl c true (λk=>A.dr (Yb 1 [r,t] a) a k) a λu v a=>A.gl c true (λk=>A.dr (Ye [u] a) a k) a λw y a=>A.gl c true (λk=>A.dcall (.call 169) [p,w] a k) a λz a0 a=>
 A.pu (Yi [c,z,.bool false] a) λa1=>A.gd (Xg [[],[],[0,1],[0,1,2],[0,1,2,3],[0,1,2,3],[0,1,2,3,4,5],[0,1,2,3,4,5,6],[0,1,2,3],[0,1,2,3],[0,1,2,3,9],[0,1,2,3,8,9,10],[0,1,2,3,8,9,10,11],[0,1,2,3,4,5,6,7,8,9,10,11,12],[0,1,2,3,4,5,6,7,8,9,10,11,12,13]] [([],[]),([],[]),([],[]),([],[]),([],[]),([],[]),o,q,([],[]),([],[]),([],[]),v,y,a0,([],[])]) <|
 A.test a1 (A.pu (Yh .sub false [(h0 d),jv 1] a) λa2=>A.pu (Yh .sub false [(h0 d),jv 1] a) λa3=>A.dr (Yb 1 [x0,a3] a) a λa4 a5 a=>
 A.dr (Ye [a4] a) a λa6 a7 a=>A.dr (Yb 1 [x0,(h0 d)] a) a λa8 a9 a=>A.dr (Ye [a8] a) a λb0 b1 a=>A.dr (Yb 1 [x0,(h0 d)] a) a λb2 b3 a=>
 A.dr (Qb 1 [b2,a6] a) a λ_ b4 a=>A.dr (Yb 1 [x0,a2] a) a λb5 b6 a=>A.dr (Qb 1 [b5,b0] a) a λ_ b7 a=>A.gd (Xg [[],[],[],[],[3],[],[],[6],[5,6,7],[5,6,7,8],[],[],[10,11],[10,11,12],[0,1,5,6,7,8,9,10,11,12,13],[0,1,5,6,7,8,9,10,11,12,13,14],[0,1,2,3,4,5,6,7,8,9,10,11,12,13,14,15],[0,1,2,3,4,5,6,7,8,9,10,11,12,13,14,15,16]] [([],[]),([],[]),([],[]),([],[]),([],[]),([],[]),([],[]),([],[]),a5,a7,([],[]),([],[]),a9,b1,b3,b4,b6,b7]) <|
 A.b .sub (h0 d) (jv 1) a λb8=>j [b8] a) (A.b .add (h0 e) (jv 1) a λb9=>h [b9] a)) [(h0 e)] a) (f (.tup []) a)) [g] a
 |_=>A.stop
theorem g163_ok:GQ 163 3 g163:=gq3 [none,some [6],none,none,none,some [7],none,none] λ_ _ _ _ _ _ _=>by kernel_rfl
def g164:GFun:=λA xs a f=>match xs with
 |[x0,x1,x2]=>
 A.b .sub x2 x1 a λd=>A.b .sub d (jv 1) a λg=>A.b .quo g (jv 2) a λh=>A.loop (λi e a=>A.b .geq (h0 e) (jv 0) a λj=>A.test j (A.k 215 [x0,(h0 e),d,x1] a λt6 a=>
 A.b .sub (h0 e) (jv 1) a λl=>i [l] a) (A.b .sub d (jv 1) a λm=>A.loop (λn c a=>A.b .geq (h0 c) (jv 0) a λo=>A.test o (A.pu (Yh .add false [x1,(h0 c)] a) λp=>
 A.pu (Yh .add false [x1,(h0 c)] a) λq=>A.dr (Yb 1 [x0,q] a) a λr s a=>A.dr (Ye [r] a) a λt u a=>A.dr (Yb 1 [x0,x1] a) a λv w a=>
 A.dr (Ye [v] a) a λy z a=>A.dr (Yb 1 [x0,x1] a) a λa0 a1 a=>A.dr (Qb 1 [a0,t] a) a λ_ a2 a=>A.dr (Yb 1 [x0,p] a) a λa3 a4 a=>
 A.dr (Qb 1 [a3,y] a) a λ_ a5 a=>A.gd (Xg [[],[],[],[],[],[3,4],[],[],[],[7,8],[6,7,8,9],[6,7,8,9,10],[],[],[12,13],[12,13,14],[0,1,6,7,8,9,10,11,12,13,14,15],[0,1,6,7,8,9,10,11,12,13,14,15,16],[0,1,2,3,4,5,6,7,8,9,10,11,12,13,14,15,16,17],[0,1,2,3,4,5,6,7,8,9,10,11,12,13,14,15,16,17,18]] [([],[]),([],[]),([],[]),([],[]),([],[]),([],[]),([],[]),([],[]),([],[]),([],[]),s,u,([],[]),([],[]),w,z,a1,a2,a4,a5]) <|
 A.k 215 [x0,jv 0,(h0 c),x1] a λa7 a=>A.b .sub (h0 c) (jv 1) a λa6=>n [a6] a) (f (.tup []) a)) [m] a)) [h] a
 |_=>A.stop
theorem g164_ok:GQ 164 3 g164:=gq3 [none,some [9],none,none,none,some [10],none,none] λ_ _ _ _ _ _ _=>by kernel_rfl
def g165:GFun:=λA xs a f=>match xs with
 |[x0,x1,x2]=>
 A.b .sub x2 x1 a λc=>A.b .geq c (jv 8) a λj=>A.test j (A.r (XH .u64) c a λl=>A.wr (Yf [.int .u64 0] [] a) a λg a=>A.ws (Qb 1) g l a λ_ a=>
 A.k 216 [c] a λm a=>A.b .quo c (jv 4) a λn=>A.b .mul n (jv 2) a λo=>A.b .add x1 o a λp=>A.b .sub p (jv 1) a λq=>A.loop (λs d a=>A.b .quo c (jv 4) a λt=>
 A.b .mul t (jv 2) a λu=>A.b .add x1 u a λv=>A.b .add v (jv 1) a λw=>A.b .leq (h0 d) w a λy=>A.test y (A.k 217 [g] a λz a=>A.b .sub m (.int .u64 1) a λa0=>
 A.b .and z a0 a λa1=>A.r (XH .i64) a1 a λe=>A.b .geq e c a λa2=>joinK (λh=>A.test a2 (A.b .sub e c a λa3=>h [a3] a) (h [e] a)) (λi a=>
 A.pu (Yh .add false [x1,(h0 i)] a) λa4=>A.pu (Yh .add false [x1,(h0 i)] a) λa5=>A.dr (Yb 1 [x0,a5] a) a λa6 a7 a=>A.dr (Ye [a6] a) a λa8 a9 a=>
 A.dr (Yb 1 [x0,(h0 d)] a) a λb0 b1 a=>A.dr (Ye [b0] a) a λb2 b3 a=>A.dr (Yb 1 [x0,(h0 d)] a) a λb4 b5 a=>A.dr (Qb 1 [b4,a8] a) a λ_ b6 a=>
 A.dr (Yb 1 [x0,a4] a) a λb7 b8 a=>A.dr (Qb 1 [b7,b2] a) a λ_ b9 a=>A.gd (Xg [[],[],[],[],[],[3,4],[],[],[],[7,8],[6,7,8,9],[6,7,8,9,10],[],[],[12,13],[12,13,14],[0,1,6,7,8,9,10,11,12,13,14,15],[0,1,6,7,8,9,10,11,12,13,14,15,16],[0,1,2,3,4,5,6,7,8,9,10,11,12,13,14,15,16,17],[0,1,2,3,4,5,6,7,8,9,10,11,12,13,14,15,16,17,18]] [([],[]),([],[]),([],[]),([],[]),([],[]),([],[]),([],[]),([],[]),([],[]),([],[]),a7,a9,([],[]),([],[]),b1,b3,b5,b6,b8,b9]) <|
 A.b .add (h0 d) (jv 1) a λc0=>s [c0] a)) (f (.tup []) a)) [q] a) (f (.tup []) a)
 |_=>A.stop
theorem g165_ok:GQ 165 3 g165:=gq3 [none,none,some [9],none,none,some [10]] λ_ _ _ _ _ _ _=>by kernel_rfl
def g166:GFun:=λA xs c f=>match xs with
 |[x0,x1,x2]=>
 A.b .sub x2 x1 c λd=>A.wr (Yf [jv 0] [] c) c λe c=>A.b .quo d (jv 4) c λp=>A.b .mul p (jv 1) c λq=>A.b .add x1 q c λj=>A.b .quo d (jv 4) c λr=>
 A.b .mul r (jv 2) c λs=>A.b .add x1 s c λg=>A.b .quo d (jv 4) c λt=>A.b .mul t (jv 3) c λu=>A.b .add x1 u c λl=>A.b .geq d (jv 8) c λv=>
 joinK (λm=>A.test v (A.b .geq d (jv 50) c λw=>joinK (λn=>A.test w (A.k 218 [x0,j,e] c λy c=>A.k 218 [x0,g,e] c λz c=>A.k 218 [x0,l,e] c λa0 c=>
 n [y,z,a0] c) (n [j,g,l] c)) (λh c=>A.k 219 [x0,(h0 h),(h1 h),(h2 h),e] c λa1 c=>m [a1] c)) (m [g] c)) (λi c=>A.a e c λo=>A.b .eql o (jv 0) c λa2=>
 A.test a2 (f (.tup [(h0 i),jv 1]) c) (A.b .eql o (jv 12) c λa3=>A.test a3 (f (.tup [(h0 i),jv 2]) c) (f (.tup [(h0 i),jv 0]) c)))
 |_=>A.stop
theorem g166_ok:GQ 166 3 g166:=gq3 [some [11],some [10,11,12],none,none,none] λ_ _ _ _ _ _ _=>by kernel_rfl
def g167:GFun:=λA xs a d=>match xs with
 |[x0,x1,x2]=>
 A.b .sub x2 (jv 1) a λe=>A.loop (λf c a=>A.b .lss (h0 c) (h1 c) a λg=>A.test g (A.dr (Yb 1 [x0,(h1 c)] a) a λh i a=>A.dr (Ye [h] a) a λj l a=>
 A.dr (Yb 1 [x0,(h0 c)] a) a λm n a=>A.dr (Ye [m] a) a λo p a=>A.dr (Yb 1 [x0,(h0 c)] a) a λq r a=>A.dr (Qb 1 [q,j] a) a λ_ s a=>
 A.dr (Yb 1 [x0,(h1 c)] a) a λt u a=>A.dr (Qb 1 [t,o] a) a λ_ v a=>A.gd (Xg [[],[],[],[],[],[],[4,5],[4,5,6],[],[],[8,9],[8,9,10],[0,1,4,5,6,7,8,9,10,11],[0,1,4,5,6,7,8,9,10,11,12],[0,1,2,3,4,5,6,7,8,9,10,11,12,13],[0,1,2,3,4,5,6,7,8,9,10,11,12,13,14]] [([],[]),([],[]),([],[]),([],[]),([],[]),([],[]),i,l,([],[]),([],[]),n,p,r,s,u,v]) <|
 A.b .add (h0 c) (jv 1) a λw=>A.b .sub (h1 c) (jv 1) a λy=>f [w,y] a) (d (.tup []) a)) [x1,e] a
 |_=>A.stop
theorem g167_ok:GQ 167 3 g167:=gq3 [none,some [6,7],none,none] λ_ _ _ _ _ _ _=>by kernel_rfl
def g168:GFun:=λA xs a g=>match xs with
 |[x0,x1,x2]=>
 A.b .add x1 (jv 1) a λl=>A.loop (λm h a=>A.b .lss (h0 h) (jv 5) a λn=>A.test n (joinK (λi=>A.loop (λo c a=>A.pu (Yh .lss false [(h0 c),x2] a) λd=>
 A.gr d true (λk=>A.pu (Xh [x0] a) k) λp=>A.gr d true (λk=>A.pu (Xh [(h0 c)] a) k) λq=>A.gl d true (λk=>A.dr (Yb 1 [p,q] a) a k) a λr s a=>
 A.gl d true (λk=>A.dr (Ye [r] a) a k) a λt u a=>A.gr d true (λk=>A.pu (Xh [x0] a) k) λv=>A.gr d true (λk=>A.pu (Xh [(h0 c)] a) k) λw=>
 A.gr d true (λk=>A.pu (Yh .sub false [w,jv 1] a) k) λy=>A.gl d true (λk=>A.dr (Yb 1 [v,y] a) a k) a λz a0 a=>A.gl d true (λk=>A.dr (Ye [z] a) a k) a λa1 a2 a=>
 A.gl d true (λk=>A.dcall (.call 169) [t,a1] a k) a λa3 a4 a=>A.gr d true (λk=>A.pu (Qn .not [a3] a) k) λa5=>A.pu (Yi [d,a5,.bool false] a) λa6=>
 A.gd (Xg [[],[],[0,1],[0,1,2],[0,1,2,3],[0,1,2,3],[0,1,2,3,4,5],[0,1,2,3,4,5,6],[0,1,2,3],[0,1,2,3],[0,1,2,3,9],[0,1,2,3,8,9,10],[0,1,2,3,8,9,10,11],[0,1,2,3,4,5,6,7,8,9,10,11,12],[0,1,2,3,4,5,6,7,8,9,10,11,12,13],[0,1,2,3,4,5,6,7,8,9,10,11,12,13,14]] [([],[]),([],[]),([],[]),([],[]),([],[]),([],[]),s,u,([],[]),([],[]),([],[]),a0,a2,a4,([],[]),([],[])]) <|
 A.test a6 (A.b .add (h0 c) (jv 1) a λa7=>o [a7] a) (A.b .eql (h0 c) x2 a λa8=>A.test a8 (g (.bool true) a) (A.b .sub x2 x1 a λa9=>A.b .lss a9 (jv 50) a λb0=>
 A.test b0 (g (.bool false) a) (A.pu (Yh .sub false [(h0 c),jv 1] a) λb1=>A.pu (Yh .sub false [(h0 c),jv 1] a) λb2=>A.dr (Yb 1 [x0,b2] a) a λb3 b4 a=>
 A.dr (Ye [b3] a) a λb5 b6 a=>A.dr (Yb 1 [x0,(h0 c)] a) a λb7 b8 a=>A.dr (Ye [b7] a) a λb9 c0 a=>A.dr (Yb 1 [x0,(h0 c)] a) a λc1 c2 a=>
 A.dr (Qb 1 [c1,b5] a) a λ_ c3 a=>A.dr (Yb 1 [x0,b1] a) a λc4 c5 a=>A.dr (Qb 1 [c4,b9] a) a λ_ c6 a=>A.gd (Xg [[],[],[],[],[3],[],[],[6],[5,6,7],[5,6,7,8],[],[],[10,11],[10,11,12],[0,1,5,6,7,8,9,10,11,12,13],[0,1,5,6,7,8,9,10,11,12,13,14],[0,1,2,3,4,5,6,7,8,9,10,11,12,13,14,15],[0,1,2,3,4,5,6,7,8,9,10,11,12,13,14,15,16]] [([],[]),([],[]),([],[]),([],[]),([],[]),([],[]),([],[]),([],[]),b4,b6,([],[]),([],[]),b8,c0,c2,c3,c5,c6]) <|
 A.b .sub (h0 c) x1 a λc7=>A.b .geq c7 (jv 2) a λc8=>joinK (λj=>A.test c8 (A.b .sub (h0 c) (jv 1) a λc9=>A.loop (λd0 e a=>A.b .geq (h0 e) (jv 1) a λd1=>
 A.test d1 (A.dr (Yb 1 [x0,(h0 e)] a) a λd2 d3 a=>A.dr (Ye [d2] a) a λd4 d5 a=>A.pu (Yh .sub false [(h0 e),jv 1] a) λd6=>A.dr (Yb 1 [x0,d6] a) a λd7 d8 a=>
 A.dr (Ye [d7] a) a λd9 e0 a=>A.dcall (.call 169) [d4,d9] a λe1 e2 a=>A.pu (Qn .not [e1] a) λe3=>A.gd (Xg [[],[],[0,1],[0,1,2],[],[],[5],[4,5,6],[4,5,6,7],[0,1,2,3,4,5,6,7,8],[0,1,2,3,4,5,6,7,8,9]] [([],[]),([],[]),d3,d5,([],[]),([],[]),([],[]),d8,e0,e2,([],[])]) <|
 A.test e3 (j [] a) (A.pu (Yh .sub false [(h0 e),jv 1] a) λe4=>A.pu (Yh .sub false [(h0 e),jv 1] a) λe5=>A.dr (Yb 1 [x0,e5] a) a λe6 e7 a=>
 A.dr (Ye [e6] a) a λe8 e9 a=>A.dr (Yb 1 [x0,(h0 e)] a) a λf0 f1 a=>A.dr (Ye [f0] a) a λf2 f3 a=>A.dr (Yb 1 [x0,(h0 e)] a) a λf4 f5 a=>
 A.dr (Qb 1 [f4,e8] a) a λ_ f6 a=>A.dr (Yb 1 [x0,e4] a) a λf7 f8 a=>A.dr (Qb 1 [f7,f2] a) a λ_ f9 a=>A.gd (Xg [[],[],[],[],[3],[],[],[6],[5,6,7],[5,6,7,8],[],[],[10,11],[10,11,12],[0,1,5,6,7,8,9,10,11,12,13],[0,1,5,6,7,8,9,10,11,12,13,14],[0,1,2,3,4,5,6,7,8,9,10,11,12,13,14,15],[0,1,2,3,4,5,6,7,8,9,10,11,12,13,14,15,16]] [([],[]),([],[]),([],[]),([],[]),([],[]),([],[]),([],[]),([],[]),e7,e9,([],[]),([],[]),f1,f3,f5,f6,f8,f9]) <|
 A.b .sub (h0 e) (jv 1) a λg0=>d0 [g0] a)) (j [] a)) [c9] a) (j [] a)) (λl6 a=>A.b .sub x2 (h0 c) a λg1=>A.b .geq g1 (jv 2) a λg2=>A.test g2 (A.b .add (h0 c) (jv 1) a λg3=>
 A.loop (λg4 f a=>A.b .lss (h0 f) x2 a λg5=>A.test g5 (A.dr (Yb 1 [x0,(h0 f)] a) a λg6 g7 a=>A.dr (Ye [g6] a) a λg8 g9 a=>A.pu (Yh .sub false [(h0 f),jv 1] a) λi0=>
 A.dr (Yb 1 [x0,i0] a) a λi1 i2 a=>A.dr (Ye [i1] a) a λi3 i4 a=>A.dcall (.call 169) [g8,i3] a λi5 i6 a=>A.pu (Qn .not [i5] a) λi7=>
 A.gd (Xg [[],[],[0,1],[0,1,2],[],[],[5],[4,5,6],[4,5,6,7],[0,1,2,3,4,5,6,7,8],[0,1,2,3,4,5,6,7,8,9]] [([],[]),([],[]),g7,g9,([],[]),([],[]),([],[]),i2,i4,i6,([],[])]) <|
 A.test i7 (i [(h0 c)] a) (A.pu (Yh .sub false [(h0 f),jv 1] a) λi8=>A.pu (Yh .sub false [(h0 f),jv 1] a) λi9=>A.dr (Yb 1 [x0,i9] a) a λj0 j1 a=>
 A.dr (Ye [j0] a) a λj2 j3 a=>A.dr (Yb 1 [x0,(h0 f)] a) a λj4 j5 a=>A.dr (Ye [j4] a) a λj6 j7 a=>A.dr (Yb 1 [x0,(h0 f)] a) a λj8 j9 a=>
 A.dr (Qb 1 [j8,j2] a) a λ_ l0 a=>A.dr (Yb 1 [x0,i8] a) a λl1 l2 a=>A.dr (Qb 1 [l1,j6] a) a λ_ l3 a=>A.gd (Xg [[],[],[],[],[3],[],[],[6],[5,6,7],[5,6,7,8],[],[],[10,11],[10,11,12],[0,1,5,6,7,8,9,10,11,12,13],[0,1,5,6,7,8,9,10,11,12,13,14],[0,1,2,3,4,5,6,7,8,9,10,11,12,13,14,15],[0,1,2,3,4,5,6,7,8,9,10,11,12,13,14,15,16]] [([],[]),([],[]),([],[]),([],[]),([],[]),([],[]),([],[]),([],[]),j1,j3,([],[]),([],[]),j5,j7,j9,l0,l2,l3]) <|
 A.b .add (h0 f) (jv 1) a λl4=>g4 [l4] a)) (i [(h0 c)] a)) [g3] a) (i [(h0 c)] a)))))) [(h1 h)] a) (λv5 a=>A.b .add (h0 h) (jv 1) a λl5=>m [l5,(h0 v5)] a)) (
 g (.bool false) a)) [jv 0,l] a
 |_=>A.stop
theorem g168_ok:GQ 168 3 g168:=gq3 [none,some [8,7],none,some [7],none,some [7],none,none,none,none,some [],none,some [9],none,none,none,none,none,some [10],none,none,none] λ_ _ _ _ _ _ _=>by kernel_rfl
def g169:GFun:=λA xs a e=>match xs with
 |[x0,x1]=>
 A.k 220 [x0] a λb a=>A.tr b Xh x1 a λf=>A.gw b true (λk=>A.k 220 [f] a k) a λg a=>A.tr b (Qn .not) g a λh=>A.c b h (.bool false) a λd=>
 A.fr d Xh x0 a λi=>A.fr d Xh x1 a λj=>A.fb d .lss i j a λl=>A.c d (.bool true) l a λm=>e m a
 |_=>A.stop
theorem g169_ok:GQ 169 2 g169:=gq2 [] λ_ _ _ _ _ _=>by kernel_rfl
def g170:GFun:=λA xs a h=>match xs with
 |[x0,x1,x2,x3]=>
 A.dr (Yb 1 [x0,x3] a) a λi j a=>A.dr (Ye [i] a) a λl m a=>A.dr (Yb 1 [x0,x1] a) a λn o a=>A.dr (Ye [n] a) a λp q a=>
 A.dr (Yb 1 [x0,x1] a) a λr s a=>A.dr (Qb 1 [r,l] a) a λ_ t a=>A.dr (Yb 1 [x0,x3] a) a λu v a=>A.dr (Qb 1 [u,p] a) a λ_ w a=>
 A.gd (Xg [[],[],[],[],[],[],[4,5],[4,5,6],[],[],[8,9],[8,9,10],[0,1,4,5,6,7,8,9,10,11],[0,1,4,5,6,7,8,9,10,11,12],[0,1,2,3,4,5,6,7,8,9,10,11,12,13],[0,1,2,3,4,5,6,7,8,9,10,11,12,13,14]] [([],[]),([],[]),([],[]),([],[]),([],[]),([],[]),j,m,([],[]),([],[]),o,q,s,t,v,w]) <|
 A.b .add x1 (jv 1) a λy=>A.b .sub x2 (jv 1) a λz=>A.loop (λa0 g a=>A.loop (λa1 e a=>A.pu (Yh .leq false [(h0 e),(h1 g)] a) λc=>A.gr c true (λk=>A.pu (Xh [x0] a) k) λa2=>
 A.gr c true (λk=>A.pu (Xh [x1] a) k) λa3=>A.gl c true (λk=>A.dr (Yb 1 [a2,a3] a) a k) a λa4 a5 a=>A.gl c true (λk=>A.dr (Ye [a4] a) a k) a λa6 a7 a=>
 A.gr c true (λk=>A.pu (Xh [x0] a) k) λa8=>A.gr c true (λk=>A.pu (Xh [(h0 e)] a) k) λa9=>A.gl c true (λk=>A.dr (Yb 1 [a8,a9] a) a k) a λb0 b1 a=>
 A.gl c true (λk=>A.dr (Ye [b0] a) a k) a λb2 b3 a=>A.gl c true (λk=>A.dcall (.call 169) [a6,b2] a k) a λb4 b5 a=>A.gr c true (λk=>A.pu (Qn .not [b4] a) k) λb6=>
 A.pu (Yi [c,b6,.bool false] a) λb7=>A.gd (Xg [[],[],[0,1],[0,1,2],[0,1,2,3],[0,1,2,3],[0,1,2,3,4,5],[0,1,2,3,4,5,6],[0,1,2,3],[0,1,2,3],[0,1,2,3,8,9],[0,1,2,3,8,9,10],[0,1,2,3,4,5,6,7,8,9,10,11],[0,1,2,3,4,5,6,7,8,9,10,11,12],[0,1,2,3,4,5,6,7,8,9,10,11,12,13]] [([],[]),([],[]),([],[]),([],[]),([],[]),([],[]),a5,a7,([],[]),([],[]),b1,b3,b5,([],[]),([],[])]) <|
 A.test b7 (A.b .add (h0 e) (jv 1) a λb8=>a1 [b8] a) (A.loop (λb9 f a=>A.pu (Yh .leq false [(h0 e),(h0 f)] a) λd=>A.gr d true (λk=>A.pu (Xh [x0] a) k) λc0=>
 A.gr d true (λk=>A.pu (Xh [x1] a) k) λc1=>A.gl d true (λk=>A.dr (Yb 1 [c0,c1] a) a k) a λc2 c3 a=>A.gl d true (λk=>A.dr (Ye [c2] a) a k) a λc4 c5 a=>
 A.gr d true (λk=>A.pu (Xh [x0] a) k) λc6=>A.gr d true (λk=>A.pu (Xh [(h0 f)] a) k) λc7=>A.gl d true (λk=>A.dr (Yb 1 [c6,c7] a) a k) a λc8 c9 a=>
 A.gl d true (λk=>A.dr (Ye [c8] a) a k) a λd0 d1 a=>A.gl d true (λk=>A.dcall (.call 169) [c4,d0] a k) a λd2 d3 a=>A.pu (Yi [d,d2,.bool false] a) λd4=>
 A.gd (Xg [[],[],[0,1],[0,1,2],[0,1,2,3],[0,1,2,3],[0,1,2,3,4,5],[0,1,2,3,4,5,6],[0,1,2,3],[0,1,2,3],[0,1,2,3,8,9],[0,1,2,3,8,9,10],[0,1,2,3,4,5,6,7,8,9,10,11],[0,1,2,3,4,5,6,7,8,9,10,11,12]] [([],[]),([],[]),([],[]),([],[]),([],[]),([],[]),c3,c5,([],[]),([],[]),c9,d1,d3,([],[])]) <|
 A.test d4 (A.b .sub (h0 f) (jv 1) a λd5=>b9 [d5] a) (A.b .gtr (h0 e) (h0 f) a λd6=>A.test d6 (h (h0 e) a) (A.dr (Yb 1 [x0,(h0 f)] a) a λd7 d8 a=>
 A.dr (Ye [d7] a) a λd9 e0 a=>A.dr (Yb 1 [x0,(h0 e)] a) a λe1 e2 a=>A.dr (Ye [e1] a) a λe3 e4 a=>A.dr (Yb 1 [x0,(h0 e)] a) a λe5 e6 a=>
 A.dr (Qb 1 [e5,d9] a) a λ_ e7 a=>A.dr (Yb 1 [x0,(h0 f)] a) a λe8 e9 a=>A.dr (Qb 1 [e8,e3] a) a λ_ f0 a=>A.gd (Xg [[],[],[],[],[],[],[4,5],[4,5,6],[],[],[8,9],[8,9,10],[0,1,4,5,6,7,8,9,10,11],[0,1,4,5,6,7,8,9,10,11,12],[0,1,2,3,4,5,6,7,8,9,10,11,12,13],[0,1,2,3,4,5,6,7,8,9,10,11,12,13,14]] [([],[]),([],[]),([],[]),([],[]),([],[]),([],[]),d8,e0,([],[]),([],[]),e2,e4,e6,e7,e9,f0]) <|
 A.b .add (h0 e) (jv 1) a λf1=>A.b .sub (h0 f) (jv 1) a λf2=>a0 [f1,f2] a))) [(h1 g)] a)) [(h0 g)] a) [y,z] a
 |_=>A.stop
theorem g170_ok:GQ 170 4 g170:=gq4 [none,some [9,10],none,none,some [9],none,none,none,some [10],none,none,none] λ_ _ _ _ _ _ _ _=>by kernel_rfl
def g171:GFun:=λA xs a m=>match xs with
 |[x0,x1,x2,x3]=>
 A.dr (Yb 1 [x0,x3] a) a λo p a=>A.dr (Ye [o] a) a λq r a=>A.dr (Yb 1 [x0,x1] a) a λs t a=>A.dr (Ye [s] a) a λu v a=>
 A.dr (Yb 1 [x0,x1] a) a λw y a=>A.dr (Qb 1 [w,q] a) a λ_ z a=>A.dr (Yb 1 [x0,x3] a) a λa0 a1 a=>A.dr (Qb 1 [a0,u] a) a λ_ a2 a=>
 A.gd (Xg [[],[],[],[],[],[],[4,5],[4,5,6],[],[],[8,9],[8,9,10],[0,1,4,5,6,7,8,9,10,11],[0,1,4,5,6,7,8,9,10,11,12],[0,1,2,3,4,5,6,7,8,9,10,11,12,13],[0,1,2,3,4,5,6,7,8,9,10,11,12,13,14]] [([],[]),([],[]),([],[]),([],[]),([],[]),([],[]),p,r,([],[]),([],[]),t,v,y,z,a1,a2]) <|
 A.b .add x1 (jv 1) a λa3=>A.b .sub x2 (jv 1) a λn=>A.loop (λa4 i a=>A.pu (Yh .leq false [(h0 i),n] a) λe=>A.gr e true (λk=>A.pu (Xh [x0] a) k) λa5=>
 A.gr e true (λk=>A.pu (Xh [(h0 i)] a) k) λa6=>A.gl e true (λk=>A.dr (Yb 1 [a5,a6] a) a k) a λa7 a8 a=>A.gl e true (λk=>A.dr (Ye [a7] a) a k) a λa9 b0 a=>
 A.gr e true (λk=>A.pu (Xh [x0] a) k) λb1=>A.gr e true (λk=>A.pu (Xh [x1] a) k) λb2=>A.gl e true (λk=>A.dr (Yb 1 [b1,b2] a) a k) a λb3 b4 a=>
 A.gl e true (λk=>A.dr (Ye [b3] a) a k) a λb5 b6 a=>A.gl e true (λk=>A.dcall (.call 169) [a9,b5] a k) a λb7 b8 a=>A.pu (Yi [e,b7,.bool false] a) λb9=>
 A.gd (Xg [[],[],[0,1],[0,1,2],[0,1,2,3],[0,1,2,3],[0,1,2,3,4,5],[0,1,2,3,4,5,6],[0,1,2,3],[0,1,2,3],[0,1,2,3,8,9],[0,1,2,3,8,9,10],[0,1,2,3,4,5,6,7,8,9,10,11],[0,1,2,3,4,5,6,7,8,9,10,11,12]] [([],[]),([],[]),([],[]),([],[]),([],[]),([],[]),a8,b0,([],[]),([],[]),b4,b6,b8,([],[])]) <|
 A.test b9 (A.b .add (h0 i) (jv 1) a λc0=>a4 [c0] a) (A.loop (λc1 f a=>A.pu (Yh .leq false [(h0 i),(h0 f)] a) λc=>A.gr c true (λk=>A.pu (Xh [x0] a) k) λc2=>
 A.gr c true (λk=>A.pu (Xh [(h0 f)] a) k) λc3=>A.gl c true (λk=>A.dr (Yb 1 [c2,c3] a) a k) a λc4 c5 a=>A.gl c true (λk=>A.dr (Ye [c4] a) a k) a λc6 c7 a=>
 A.gr c true (λk=>A.pu (Xh [x0] a) k) λc8=>A.gr c true (λk=>A.pu (Xh [x1] a) k) λc9=>A.gl c true (λk=>A.dr (Yb 1 [c8,c9] a) a k) a λd0 d1 a=>
 A.gl c true (λk=>A.dr (Ye [d0] a) a k) a λd2 d3 a=>A.gl c true (λk=>A.dcall (.call 169) [c6,d2] a k) a λd4 d5 a=>A.gr c true (λk=>A.pu (Qn .not [d4] a) k) λd6=>
 A.pu (Yi [c,d6,.bool false] a) λd7=>A.gd (Xg [[],[],[0,1],[0,1,2],[0,1,2,3],[0,1,2,3],[0,1,2,3,4,5],[0,1,2,3,4,5,6],[0,1,2,3],[0,1,2,3],[0,1,2,3,8,9],[0,1,2,3,8,9,10],[0,1,2,3,4,5,6,7,8,9,10,11],[0,1,2,3,4,5,6,7,8,9,10,11,12],[0,1,2,3,4,5,6,7,8,9,10,11,12,13]] [([],[]),([],[]),([],[]),([],[]),([],[]),([],[]),c5,c7,([],[]),([],[]),d1,d3,d5,([],[]),([],[])]) <|
 A.test d7 (A.b .sub (h0 f) (jv 1) a λd8=>c1 [d8] a) (A.b .gtr (h0 i) (h0 f) a λd9=>A.test d9 (A.dr (Yb 1 [x0,x1] a) a λe0 e1 a=>A.dr (Ye [e0] a) a λe2 e3 a=>
 A.dr (Yb 1 [x0,(h0 f)] a) a λe4 e5 a=>A.dr (Ye [e4] a) a λe6 e7 a=>A.dr (Yb 1 [x0,(h0 f)] a) a λe8 e9 a=>A.dr (Qb 1 [e8,e2] a) a λ_ f0 a=>
 A.dr (Yb 1 [x0,x1] a) a λf1 f2 a=>A.dr (Qb 1 [f1,e6] a) a λ_ f3 a=>A.gd (Xg [[],[],[],[],[],[],[4,5],[4,5,6],[],[],[8,9],[8,9,10],[0,1,4,5,6,7,8,9,10,11],[0,1,4,5,6,7,8,9,10,11,12],[0,1,2,3,4,5,6,7,8,9,10,11,12,13],[0,1,2,3,4,5,6,7,8,9,10,11,12,13,14]] [([],[]),([],[]),([],[]),([],[]),([],[]),([],[]),e1,e3,([],[]),([],[]),e5,e7,e9,f0,f2,f3]) <|
 m (.tup [(h0 f),.bool true]) a) (A.dr (Yb 1 [x0,(h0 f)] a) a λf4 f5 a=>A.dr (Ye [f4] a) a λf6 f7 a=>A.dr (Yb 1 [x0,(h0 i)] a) a λf8 f9 a=>
 A.dr (Ye [f8] a) a λg0 g1 a=>A.dr (Yb 1 [x0,(h0 i)] a) a λg2 g3 a=>A.dr (Qb 1 [g2,f6] a) a λ_ g4 a=>A.dr (Yb 1 [x0,(h0 f)] a) a λg5 g6 a=>
 A.dr (Qb 1 [g5,g0] a) a λ_ g7 a=>A.gd (Xg [[],[],[],[],[],[],[4,5],[4,5,6],[],[],[8,9],[8,9,10],[0,1,4,5,6,7,8,9,10,11],[0,1,4,5,6,7,8,9,10,11,12],[0,1,2,3,4,5,6,7,8,9,10,11,12,13],[0,1,2,3,4,5,6,7,8,9,10,11,12,13,14]] [([],[]),([],[]),([],[]),([],[]),([],[]),([],[]),f5,f7,([],[]),([],[]),f9,g1,g3,g4,g6,g7]) <|
 A.b .add (h0 i) (jv 1) a λg8=>A.b .sub (h0 f) (jv 1) a λg9=>A.loop (λi0 l a=>A.loop (λi1 j a=>A.pu (Yh .leq false [(h0 j),(h1 l)] a) λg=>
 A.gr g true (λk=>A.pu (Xh [x0] a) k) λi2=>A.gr g true (λk=>A.pu (Xh [(h0 j)] a) k) λi3=>A.gl g true (λk=>A.dr (Yb 1 [i2,i3] a) a k) a λi4 i5 a=>
 A.gl g true (λk=>A.dr (Ye [i4] a) a k) a λi6 i7 a=>A.gr g true (λk=>A.pu (Xh [x0] a) k) λi8=>A.gr g true (λk=>A.pu (Xh [x1] a) k) λi9=>
 A.gl g true (λk=>A.dr (Yb 1 [i8,i9] a) a k) a λj0 j1 a=>A.gl g true (λk=>A.dr (Ye [j0] a) a k) a λj2 j3 a=>A.gl g true (λk=>A.dcall (.call 169) [i6,j2] a k) a λj4 j5 a=>
 A.pu (Yi [g,j4,.bool false] a) λj6=>A.gd (Xg [[],[],[0,1],[0,1,2],[0,1,2,3],[0,1,2,3],[0,1,2,3,4,5],[0,1,2,3,4,5,6],[0,1,2,3],[0,1,2,3],[0,1,2,3,8,9],[0,1,2,3,8,9,10],[0,1,2,3,4,5,6,7,8,9,10,11],[0,1,2,3,4,5,6,7,8,9,10,11,12]] [([],[]),([],[]),([],[]),([],[]),([],[]),([],[]),i5,i7,([],[]),([],[]),j1,j3,j5,([],[])]) <|
 A.test j6 (A.b .add (h0 j) (jv 1) a λj7=>i1 [j7] a) (A.loop (λj8 h a=>A.pu (Yh .leq false [(h0 j),(h0 h)] a) λd=>A.gr d true (λk=>A.pu (Xh [x0] a) k) λj9=>
 A.gr d true (λk=>A.pu (Xh [(h0 h)] a) k) λl0=>A.gl d true (λk=>A.dr (Yb 1 [j9,l0] a) a k) a λl2 l4 a=>A.gl d true (λk=>A.dr (Ye [l2] a) a k) a λl6 l8 a=>
 A.gr d true (λk=>A.pu (Xh [x0] a) k) λm0=>A.gr d true (λk=>A.pu (Xh [x1] a) k) λm1=>A.gl d true (λk=>A.dr (Yb 1 [m0,m1] a) a k) a λm2 m3 a=>
 A.gl d true (λk=>A.dr (Ye [m2] a) a k) a λm4 m5 a=>A.gl d true (λk=>A.dcall (.call 169) [l6,m4] a k) a λm6 m7 a=>A.gr d true (λk=>A.pu (Qn .not [m6] a) k) λm8=>
 A.pu (Yi [d,m8,.bool false] a) λm9=>A.gd (Xg [[],[],[0,1],[0,1,2],[0,1,2,3],[0,1,2,3],[0,1,2,3,4,5],[0,1,2,3,4,5,6],[0,1,2,3],[0,1,2,3],[0,1,2,3,8,9],[0,1,2,3,8,9,10],[0,1,2,3,4,5,6,7,8,9,10,11],[0,1,2,3,4,5,6,7,8,9,10,11,12],[0,1,2,3,4,5,6,7,8,9,10,11,12,13]] [([],[]),([],[]),([],[]),([],[]),([],[]),([],[]),l4,l8,([],[]),([],[]),m3,m5,m7,([],[]),([],[])]) <|
 A.test m9 (A.b .sub (h0 h) (jv 1) a λn0=>j8 [n0] a) (A.b .gtr (h0 j) (h0 h) a λn1=>A.test n1 (A.dr (Yb 1 [x0,x1] a) a λn2 n3 a=>A.dr (Ye [n2] a) a λn4 n5 a=>
 A.dr (Yb 1 [x0,(h0 h)] a) a λn6 n7 a=>A.dr (Ye [n6] a) a λn8 n9 a=>A.dr (Yb 1 [x0,(h0 h)] a) a λo0 o1 a=>A.dr (Qb 1 [o0,n4] a) a λ_ o2 a=>
 A.dr (Yb 1 [x0,x1] a) a λo3 o4 a=>A.dr (Qb 1 [o3,n8] a) a λ_ o5 a=>A.gd (Xg [[],[],[],[],[],[],[4,5],[4,5,6],[],[],[8,9],[8,9,10],[0,1,4,5,6,7,8,9,10,11],[0,1,4,5,6,7,8,9,10,11,12],[0,1,2,3,4,5,6,7,8,9,10,11,12,13],[0,1,2,3,4,5,6,7,8,9,10,11,12,13,14]] [([],[]),([],[]),([],[]),([],[]),([],[]),([],[]),n3,n5,([],[]),([],[]),n7,n9,o1,o2,o4,o5]) <|
 m (.tup [(h0 h),.bool false]) a) (A.dr (Yb 1 [x0,(h0 h)] a) a λo6 o7 a=>A.dr (Ye [o6] a) a λo8 o9 a=>A.dr (Yb 1 [x0,(h0 j)] a) a λp0 p1 a=>
 A.dr (Ye [p0] a) a λp2 p3 a=>A.dr (Yb 1 [x0,(h0 j)] a) a λp4 p5 a=>A.dr (Qb 1 [p4,o8] a) a λ_ p6 a=>A.dr (Yb 1 [x0,(h0 h)] a) a λp7 p8 a=>
 A.dr (Qb 1 [p7,p2] a) a λ_ p9 a=>A.gd (Xg [[],[],[],[],[],[],[4,5],[4,5,6],[],[],[8,9],[8,9,10],[0,1,4,5,6,7,8,9,10,11],[0,1,4,5,6,7,8,9,10,11,12],[0,1,2,3,4,5,6,7,8,9,10,11,12,13],[0,1,2,3,4,5,6,7,8,9,10,11,12,13,14]] [([],[]),([],[]),([],[]),([],[]),([],[]),([],[]),o7,o9,([],[]),([],[]),p1,p3,p5,p6,p8,p9]) <|
 A.b .add (h0 j) (jv 1) a λq0=>A.b .sub (h0 h) (jv 1) a λq1=>i0 [q0,q1] a))) [(h1 l)] a)) [(h0 l)] a) [g8,g9] a))) [n] a)) [a3] a
 |_=>A.stop
theorem g171_ok:GQ 171 4 g171:=gq4 [none,some [10],none,none,none,some [11],none,none,none,none,some [10,11],none,none,some [10],none,none,none,some [11],none,none,none] λ_ _ _ _ _ _ _ _=>by kernel_rfl
def g172:GFun:=λA xs a g=>match xs with
 |[x0]=>
 A.b .geq x0 (.int .u32 65536) a λh=>joinK (λd=>A.test h (A.b .shr x0 (.int .u64 16) a λi=>d [i,jv 16] a) (d [x0,jv 0] a)) (λc a=>A.b .geq (h0 c) (.int .u32 256) a λj=>
 joinK (λe=>A.test j (A.b .shr (h0 c) (.int .u64 8) a λl=>A.b .add (h1 c) (jv 8) a λm=>e [m,l] a) (e [(h1 c),(h0 c)] a)) (λf a=>A.r (XH .u8) (h1 f) a λn=>
 A.rd (Yv [(.str [0,1,2,2,3,3,3,3,4,4,4,4,4,4,4,4,5,5,5,5,5,5,5,5,5,5,5,5,5,5,5,5,6,6,6,6,6,6,6,6,6,6,6,6,6,6,6,6,6,6,6,6,6,6,6,6,6,6,6,6,6,6,6,6,7,7,7,7,7,7,7,7,7,7,7,7,7,7,7,7,7,7,7,7,7,7,7,7,7,7,7,7,7,7,7,7,7,7,7,7,7,7,7,7,7,7,7,7,7,7,7,7,7,7,7,7,7,7,7,7,7,7,7,7,7,7,7,7,8,8,8,8,8,8,8,8,8,8,8,8,8,8,8,8,8,8,8,8,8,8,8,8,8,8,8,8,8,8,8,8,8,8,8,8,8,8,8,8,8,8,8,8,8,8,8,8,8,8,8,8,8,8,8,8,8,8,8,8,8,8,8,8,8,8,8,8,8,8,8,8,8,8,8,8,8,8,8,8,8,8,8,8,8,8,8,8,8,8,8,8,8,8,8,8,8,8,8,8,8,8,8,8,8,8,8,8,8,8,8,8,8,8,8,8,8,8,8,8,8,8,8,8,8,8,8,8]),n] a) λo=>
 A.r (XH .i64) o a λp=>A.b .add (h0 f) p a λq=>g q a))
 |_=>A.stop
theorem g172_ok:GQ 172 1 g172:=gq1 [some [0,2],some [2,0]] λ_ _ _ _ _=>by kernel_rfl
def g173:GFun:=λA xs a i=>match xs with
 |[x0]=>
 A.b .geq x0 (.int .u64 4294967296) a λj=>joinK (λe=>A.test j (A.b .shr x0 (.int .u64 32) a λl=>e [l,jv 32] a) (e [x0,jv 0] a)) (λc a=>A.b .geq (h0 c) (.int .u64 65536) a λm=>
 joinK (λf=>A.test m (A.b .shr (h0 c) (.int .u64 16) a λn=>A.b .add (h1 c) (jv 16) a λo=>f [n,o] a) (f [(h0 c),(h1 c)] a)) (λd a=>A.b .geq (h0 d) (.int .u64 256) a λp=>
 joinK (λg=>A.test p (A.b .shr (h0 d) (.int .u64 8) a λq=>A.b .add (h1 d) (jv 8) a λs=>g [s,q] a) (g [(h1 d),(h0 d)] a)) (λh a=>A.r (XH .u8) (h1 h) a λt=>
 A.rd (Yv [(.str [0,1,2,2,3,3,3,3,4,4,4,4,4,4,4,4,5,5,5,5,5,5,5,5,5,5,5,5,5,5,5,5,6,6,6,6,6,6,6,6,6,6,6,6,6,6,6,6,6,6,6,6,6,6,6,6,6,6,6,6,6,6,6,6,7,7,7,7,7,7,7,7,7,7,7,7,7,7,7,7,7,7,7,7,7,7,7,7,7,7,7,7,7,7,7,7,7,7,7,7,7,7,7,7,7,7,7,7,7,7,7,7,7,7,7,7,7,7,7,7,7,7,7,7,7,7,7,7,8,8,8,8,8,8,8,8,8,8,8,8,8,8,8,8,8,8,8,8,8,8,8,8,8,8,8,8,8,8,8,8,8,8,8,8,8,8,8,8,8,8,8,8,8,8,8,8,8,8,8,8,8,8,8,8,8,8,8,8,8,8,8,8,8,8,8,8,8,8,8,8,8,8,8,8,8,8,8,8,8,8,8,8,8,8,8,8,8,8,8,8,8,8,8,8,8,8,8,8,8,8,8,8,8,8,8,8,8,8,8,8,8,8,8,8,8,8,8,8,8,8,8,8,8,8,8,8]),t] a) λu=>
 A.r (XH .i64) u a λv=>A.b .add (h0 h) v a λw=>i w a)))
 |_=>A.stop
theorem g173_ok:GQ 173 1 g173:=gq1 [some [0,2],some [0,2],some [2,0]] λ_ _ _ _ _=>by kernel_rfl
def g176:GFun:=λA xs c e=>match xs with
 |[x0,x1]=>
 A.r Xe x0 c λf=>A.loop (λg d c=>A.b .lss (h0 d) f c λh=>A.test h (A.s (Yb 1) x0 (h0 d) c λi=>A.a i c λj=>A.b .eql x1 j c λl=>
 A.test l (e (h0 d) c) (A.b .add (h0 d) (jv 1) c λm=>g [m] c)) (e (jv (-1)) c)) [jv 0] c
 |_=>A.stop
theorem g176_ok:GQ 176 2 g176:=gq2 [none,some [8],none,none,none] λ_ _ _ _ _ _=>by kernel_rfl
def g178:GFun:=λA xs c g=>match xs with
 |[x0]=>
 A.w1 Qk x0 c λf c=>A.loop (λh d c=>A.r (Ya 3) f c λi=>A.a i c λj=>A.r Xe j c λl=>A.b .lss (h0 d) l c λm=>A.test m (A.r (Ya 3) f c λn=>
 A.a n c λo=>A.s (Yb 4) o (h0 d) c λp=>A.r (Xc true 4) p c λq=>A.k 76 [q] c λt c=>A.b .add (h1 d) t c λu=>A.s QW u (jv 1073741824) c λv=>
 A.b .add (h0 d) (jv 1) c λw=>h [w,v] c) (A.loop (λy e c=>A.r (Ya 4) f c λz=>A.a z c λa0=>A.r Xe a0 c λa1=>A.b .lss (h0 e) a1 c λa2=>
 A.test a2 (A.r (Ya 4) f c λa3=>A.a a3 c λa4=>A.s (Yb 5) a4 (h0 e) c λa5=>A.r (Xc true 5) a5 c λa6=>A.k 178 [a6] c λa7 c=>
 A.b .add (h1 e) a7 c λa8=>A.s QW a8 (jv 1073741824) c λa9=>A.b .add (h0 e) (jv 1) c λb0=>y [b0,a9] c) (g (h1 e) c)) [jv 0,(h1 d)] c)) [jv 0,jv 1] c
 |_=>A.stop
theorem g178_ok:GQ 178 1 g178:=gq1 [none,some [4,3],none,none,none,some [5,3],none,none] λ_ _ _ _ _=>by kernel_rfl
def g179:GFun:=λA xs b d=>match xs with
 |[x0]=>
 A.wr (Yf [jv 0,jv 0] [] b) b λc b=>A.r (Ya 0) x0 b λe=>A.a e b λf=>A.k 180 [f] b λg b=>A.ws (Qb 2) c g b λ_ b=>A.opt (cellV true 2 c b) λr4=>
 d r4 b
 |_=>A.stop
theorem g179_ok:GQ 179 1 g179:=gq1 [] λ_ _ _ _ _=>by kernel_rfl
def g180:GFun:=λA xs c f=>match xs with
 |[x0]=>
 A.wr (Yf [jv 0,jv 0] [] c) c λd c=>A.r Xe x0 c λo=>A.b .gtr o (jv 240) c λp=>A.test p (A.rd (Xf [jv 0,jv 0] [(0,1)] [jv 3] c) λq=>
 A.ws (Qb 2) d q c λ_ c=>A.opt (cellV true 2 d c) λr4=>f r4 c) (A.wr (Yz [] c) c λh c=>A.r Xe x0 c λt=>A.loop (λu i c=>A.b .lss (h0 i) t c λv=>
 A.test v (joinK (λl=>A.s (Yb 12) x0 (h0 i) c λw=>A.r (Xc true 12) w c λy=>A.wr (Yf [.str [],.bool false,jv 0,jv 0,jv 0,jv 0,jv 0,jv 0,.nils,.nils,.nils,jv 0] [] c) c λg c=>
 A.ws (Qb 12) g y c λ_ c=>A.r (Ya 0) g c λz=>A.a z c λa0=>A.s (Yo true true (.bool false)) h a0 c λm=>A.r (Qd 0) m c λd0=>
 A.r (Qd 1) m c λa1=>A.r (Qn .not) a1 c λa2=>A.test a2 (A.r (Ya 0) g c λa3=>A.a a3 c λa4=>A.r (Ya 1) g c λa5=>A.a a5 c λa6=>
 A.wr (Xv true [h,a4,a6] c) c λ_ c=>l [] c) (l [] c)) (λd1 c=>A.b .add (h0 i) (jv 1) c λa7=>u [a7] c)) (A.wr (Yz [] c) c λn c=>A.r Xe x0 c λa8=>
 A.loop (λa9 j c=>A.b .lss (h0 j) a8 c λb0=>A.test b0 (A.s (Yb 12) x0 (h0 j) c λe=>A.r Qa e c λb1=>A.r (Ya 0) b1 c λb2=>
 A.a b2 c λb3=>A.s (Yo true false (.bool false)) n b3 c λb4=>A.test b4 (A.r Qa e c λb5=>A.r (Ya 11) b5 c λb6=>A.a b6 c λb7=>
 A.rd (Xf [jv 0,jv 0] [(0,1),(1,1)] [jv 101,b7] c) λb8=>A.ws (Qb 2) d b8 c λ_ c=>A.opt (cellV true 2 d c) λr40=>f r40 c) (A.k 221 [e,h] c λb9 c=>
 A.r (Qn .not) b9 c λc0=>A.test c0 (A.r Qa e c λc1=>A.r (Ya 11) c1 c λc2=>A.a c2 c λc3=>A.rd (Xf [jv 0,jv 0] [(0,1),(1,1)] [jv 130,c3] c) λc4=>
 A.ws (Qb 2) d c4 c λ_ c=>A.opt (cellV true 2 d c) λr47=>f r47 c) (A.r Qa e c λc5=>A.r (Ya 0) c5 c λc6=>A.a c6 c λc7=>A.wr (Xv true [n,c7,.bool true] c) c λ_ c=>
 A.b .add (h0 j) (jv 1) c λc8=>a9 [c8] c))) (A.rd (Xf [jv 0,jv 0] [] [] c) λc9=>A.ws (Qb 2) d c9 c λ_ c=>A.opt (cellV true 2 d c) λr53=>
 f r53 c)) [jv 0] c)) [jv 0] c)
 |_=>A.stop
theorem g180_ok:GQ 180 1 g180:=gq1 [none,none,some [18],none,some [],none,none,some [40],none,none,none,none,none] λ_ _ _ _ _=>by kernel_rfl
def g181:GFun:=λA xs b d=>match xs with
 |[x0]=>
 A.wr (Yf [jv 0,jv 0] [] b) b λc b=>A.r (Ya 0) x0 b λe=>A.a e b λf=>A.k 182 [f] b λg b=>A.ws (Qb 2) c g b λ_ b=>A.opt (cellV true 2 c b) λr4=>
 d r4 b
 |_=>A.stop
theorem g181_ok:GQ 181 1 g181:=gq1 [] λ_ _ _ _ _=>by kernel_rfl
def g182:GFun:=λA xs d l=>match xs with
 |[x0]=>
 A.wr (Yf [jv 0,jv 0] [] d) d λh d=>A.rd (Xf [.int .i8 0] [(0,1)] [.int .i8 0] d) λm=>A.wr (Yf [.int .i8 0] [] d) d λi d=>
 A.ws (Qb 1) i m d λ_ d=>A.r Xe x0 d λn=>A.loop (λo j d=>A.b .lss (h0 j) n d λp=>A.test p (A.s (Yb 12) x0 (h0 j) d λq=>A.r (Xc true 12) q d λt=>
 A.wr (Yf [.str [],.bool false,jv 0,jv 0,jv 0,jv 0,jv 0,jv 0,.nils,.nils,.nils,jv 0] [] d) d λg d=>A.ws (Qb 12) g t d λ_ d=>
 A.r (Xc true 1) i d λu=>A.r (Ya 8) g d λv=>A.a v d λw=>A.k 222 [u,w] d λy d=>A.r (Qn .not) y d λe=>A.fr e (Xc true 1) i d λz=>
 A.fr e (Ya 9) g d λa0=>A.fa e a0 d λa1=>A.gw e false (λk=>A.k 222 [z,a1] d k) d λa2 d=>A.fr e (Qn .not) a2 d λa3=>A.c e (.bool true) a3 d λf=>
 A.fr f (Xc true 1) i d λa4=>A.fr f (Ya 10) g d λa5=>A.fa f a5 d λa6=>A.gw f false (λk=>A.k 222 [a4,a6] d k) d λa7 d=>A.fr f (Qn .not) a7 d λa8=>
 A.c f (.bool true) a8 d λa9=>A.test a9 (A.r (Ya 11) g d λb0=>A.a b0 d λb1=>A.rd (Xf [jv 0,jv 0] [(0,1),(1,1)] [jv 140,b1] d) λb2=>
 A.ws (Qb 2) h b2 d λ_ d=>A.opt (cellV true 2 h d) λr30=>l r30 d) (A.b .add (h0 j) (jv 1) d λb3=>o [b3] d)) (A.rd (Xf [jv 0,jv 0] [] [] d) λb4=>
 A.ws (Qb 2) h b4 d λ_ d=>A.opt (cellV true 2 h d) λr33=>l r33 d)) [jv 0] d
 |_=>A.stop
theorem g182_ok:GQ 182 1 g182:=gq1 [none,some [9],none,none,none] λ_ _ _ _ _=>by kernel_rfl
def g183:GFun:=λA xs a c=>match xs with
 |[x0]=>
 A.wr (Yf [jv 0,jv 0] [] a) a λb a=>A.r (Xc true 2) x0 a λd=>A.k 184 [d] a λe a=>A.ws (Qb 2) b e a λ_ a=>A.opt (cellV true 2 b a) λr3=>
 c r3 a
 |_=>A.stop
theorem g183_ok:GQ 183 1 g183:=gq1 [] λ_ _ _ _ _=>by kernel_rfl
def g184:GFun:=λA xs d v=>match xs with
 |[x0]=>
 A.w1 Qk x0 d λw d=>A.wr (Yf [jv 0,jv 0] [] d) d λl d=>A.wr (Yz [] d) d λy d=>A.r (Ya 1) w d λt3=>A.a t3 d λz=>A.r Xe z d λt5=>
 A.loop (λa3 m d=>A.b .lss (h0 m) t5 d λt8=>A.test t8 (A.s (Yb 7) z (h0 m) d λt9=>A.r (Xc true 7) t9 d λa4=>A.wr (Yf [.str [],jv 0,jv 0,jv 0,.nils,.nils,jv 0] [] d) d λe d=>
 A.ws (Qb 7) e a4 d λ_ d=>A.b .lss (h0 m) (jv 240) d λn=>A.tr n (Ya 0) e d λa5=>A.ta n a5 d λa6=>A.gw n true (λk=>A.k 223 [a6] d k) d λa7 d=>
 A.c n a7 (.bool false) d λf=>A.tr f Xh y d λa8=>A.tr f (Ya 0) e d λa9=>A.ta f a9 d λb0=>A.ts f (Yo true false (.bool false)) a8 b0 d λb1=>
 A.tr f (Qn .not) b1 d λb2=>A.c f b2 (.bool false) d λo=>A.tr o (Ya 1) e d λb3=>A.ta o b3 d λb4=>A.tb o .geq b4 (jv 0) d λb5=>A.c o b5 (.bool false) d λg=>
 A.tr g (Ya 1) e d λb6=>A.ta g b6 d λb7=>A.tr g (Ya 2) e d λb8=>A.ta g b8 d λb9=>A.tb g .leq b7 b9 d λc0=>A.c g c0 (.bool false) d λp=>
 A.tr p (Ya 2) e d λc1=>A.ta p c1 d λc2=>A.tb p .leq c2 (jv 60) d λc3=>A.c p c3 (.bool false) d λq=>A.tr q (Ya 3) e d λc4=>
 A.ta q c4 d λc5=>A.tb q .geq c5 (jv 0) d λc6=>A.c q c6 (.bool false) d λt=>A.tr t (Ya 3) e d λc7=>A.ta t c7 d λc8=>A.tb t .leq c8 (jv 999) d λc9=>
 A.c t c9 (.bool false) d λd0=>A.r (Ya 4) e d λd1=>A.a d1 d λd2=>A.r (Ya 5) e d λd3=>A.a d3 d λd4=>A.rd (Xf [.nils,.nils] [(0,1),(1,1)] [d2,d4] d) λd5=>
 A.loop (λd6 i d=>A.b .lss (h0 i) (jv 2) d λd7=>A.test d7 (A.s (Q0 false 2 1) d5 (h0 i) d λa0=>A.wr (Yz [] d) d λa1 d=>A.r Xe a0 d λd8=>
 A.loop (λd9 h d=>A.b .lss (h0 h) d8 d λe0=>A.test e0 (A.s (Yb 1) a0 (h0 h) d λe1=>A.a e1 d λu=>A.r (Xc true 2) w d λe2=>A.k 224 [e2,u] d λa2 d=>
 A.r (Qd 0) a2 d λg0=>A.r (Qd 1) a2 d λe3=>A.gr (h1 h) true (λk=>A.rd (Xh [e3] d) k) λe4=>A.c (h1 h) e4 (.bool false) d λj=>
 A.tr j Xh a1 d λe5=>A.tr j Xh u d λe6=>A.ts j (Yo true false (.bool false)) e5 e6 d λe7=>A.tr j (Qn .not) e7 d λe8=>A.c j e8 (.bool false) d λe9=>
 A.wr (Xv true [a1,u,.bool true] d) d λ_ d=>A.b .add (h0 h) (jv 1) d λf0=>d9 [f0,e9] d) (A.b .add (h0 i) (jv 1) d λf1=>d6 [f1,(h1 h)] d)) [jv 0,(h1 i)] d) (
 A.r (Qn .not) (h1 i) d λf2=>A.test f2 (A.r (Ya 6) e d λf3=>A.a f3 d λf4=>A.rd (Xf [jv 0,jv 0] [(0,1),(1,1)] [jv 151,f4] d) λf5=>
 A.ws (Qb 2) l f5 d λ_ d=>A.opt (cellV true 2 l d) λr78=>v r78 d) (A.r (Ya 0) e d λf6=>A.a f6 d λf7=>A.wr (Xv true [y,f7,.bool true] d) d λ_ d=>
 A.b .add (h0 m) (jv 1) d λf8=>a3 [f8] d))) [jv 0,d0] d) (A.rd (Xf [jv 0,jv 0] [] [] d) λf9=>A.ws (Qb 2) l f9 d λ_ d=>A.opt (cellV true 2 l d) λr83=>
 v r83 d)) [jv 0] d
 |_=>A.stop
theorem g184_ok:GQ 184 1 g184:=gq1 [none,some [18],none,none,none,some [69,6],none,none,none,some [75,6],none,none,none] λ_ _ _ _ _=>by kernel_rfl
def g185:GFun:=λA xs a c=>match xs with
 |[x0,x1]=>
 A.k 120 [x0,x1] a λd a=>A.b .geq d (jv 0) a λe=>c e a
 |_=>A.stop
theorem g185_ok:GQ 185 2 g185:=gq2 [] λ_ _ _ _ _ _=>by kernel_rfl
def g186:GFun:=λA xs a e=>match xs with
 |[x0,x1]=>
 A.b .lss x0 (jv 0) a λd=>A.fr d Xh x0 a λf=>A.fa d x1 a λg=>A.fr d Qa g a λh=>A.fr d (Ya 0) h a λi=>A.fa d i a λj=>A.fr d Xe j a λl=>
 A.fb d .geq f l a λm=>A.c d (.bool true) m a λn=>e n a
 |_=>A.stop
theorem g186_ok:GQ 186 2 g186:=gq2 [] λ_ _ _ _ _ _=>by kernel_rfl
def g187:GFun:=λA xs a e=>match xs with
 |[x0]=>
 A.b .geq x0 (jv 0) a λd=>A.tr d Xh x0 a λf=>A.tb d .leq f (jv 999) a λg=>A.c d g (.bool false) a λh=>e h a
 |_=>A.stop
theorem g187_ok:GQ 187 1 g187:=gq1 [] λ_ _ _ _ _=>by kernel_rfl
def g188:GFun:=λA xs d f=>match xs with
 |[x0,x1,x2]=>
 A.r Xe x1 d λt0=>A.b .gtr t0 (jv 16) d λt1=>A.fr t1 Xh x2 d λt2=>A.fb t1 .gtr t2 (jv 8) d λt3=>A.c t1 (.bool true) t3 d λt4=>A.test t4 (
 f (.bool false) d) (A.loop (λa5 v6 d=>A.r Xe x1 d λt7=>A.b .lss (h0 v6) t7 d λt8=>A.test t8 (joinK (λk9=>A.s (Yb 14) x1 (h0 v6) d λa6=>
 A.r (Xc true 14) a6 d λa7=>A.wr (Yf [.int .i8 0,.int .i8 0,.int .i8 0,jv 0,.int .i8 0,.nils,.str [],.int .i8 0,.int .i8 0,.str [],.nils,.nils,.nils,.nils] [] d) d λe d=>
 A.ws (Qb 14) e a7 d λ_ d=>A.r (Ya 0) e d λa8=>A.a a8 d λa9=>A.b .lss a9 (.int .i8 0) d λw=>A.fr w (Ya 0) e d λb0=>A.fa w b0 d λb1=>
 A.fb w .gtr b1 (.int .i8 8) d λb2=>A.c w (.bool true) b2 d λb3=>A.test b3 (f (.bool false) d) (A.r (Ya 0) e d λb4=>A.a b4 d λb5=>A.b .eql b5 (.int .i8 8) d λb6=>
 A.test b6 (A.r (Ya 1) e d λb7=>A.a b7 d λb8=>A.b .neq b8 (.int .i8 0) d λp=>A.fr p (Ya 2) e d λb9=>A.fr p (Xc true 4) b9 d λc0=>
 A.gw p false (λk=>A.k 225 [c0] d k) d λc1 d=>A.fr p (Qn .not) c1 d λc2=>A.c p (.bool true) c2 d λy=>A.fr y (Ya 6) e d λc3=>A.fa y c3 d λc4=>
 A.gof y (Yh .neq false [c4,.str []] d) λc5=>A.c y (.bool true) c5 d λj=>A.fr j Xh x0 d λc6=>A.fr j (Ya 7) e d λc7=>A.fr j (Xc true 5) c7 d λc8=>
 A.gw j false (λk=>A.k 226 [c6,c8] d k) d λc9 d=>A.fr j (Qn .not) c9 d λd0=>A.c j (.bool true) d0 d λg=>A.fr g Xh x0 d λd1=>A.fr g (Ya 12) e d λd2=>
 A.fa g d2 d λd3=>A.fr g Xh x2 d λd4=>A.fb g .add d4 (jv 1) d λd5=>A.gw g false (λk=>A.k 188 [d1,d3,d5] d k) d λd6 d=>A.fr g (Qn .not) d6 d λd7=>
 A.c g (.bool true) d7 d λh=>A.fr h Xh x0 d λd8=>A.fr h (Ya 13) e d λd9=>A.fa h d9 d λe0=>A.fr h Xh x2 d λe1=>A.fb h .add e1 (jv 1) d λe2=>
 A.gw h false (λk=>A.k 188 [d8,e0,e2] d k) d λe3 d=>A.fr h (Qn .not) e3 d λe4=>A.c h (.bool true) e4 d λe5=>A.test e5 (f (.bool false) d) (k9 [] d)) (
 A.r (Ya 7) e d λe6=>A.r (Xc true 5) e6 d λe7=>A.k 227 [e7] d λe8 d=>A.r (Qn .not) e8 d λq=>A.fr q (Ya 12) e d λe9=>A.fa q e9 d λf0=>
 A.fr q Xe f0 d λf1=>A.fb q .gtr f1 (jv 0) d λf2=>A.c q (.bool true) f2 d λt=>A.fr t (Ya 13) e d λf3=>A.fa t f3 d λf4=>A.fr t Xe f4 d λf5=>
 A.fb t .gtr f5 (jv 0) d λf6=>A.c t (.bool true) f6 d λf7=>A.test f7 (f (.bool false) d) (A.r (Ya 0) e d λf8=>A.a f8 d λf9=>A.k 130 [f9] d λl d=>
 A.tr l Xh x0 d λg0=>A.tr l (Ya 2) e d λg1=>A.tr l (Xc true 4) g1 d λg2=>A.gw l true (λk=>A.k 77 [g0,g2] d k) d λg3 d=>A.tr l (Qn .not) g3 d λg4=>
 A.c l g4 (.bool false) d λi=>A.fr i (Ya 0) e d λg5=>A.fa i g5 d λg6=>A.gw i false (λk=>A.k 130 [g6] d k) d λg7 d=>A.fr i (Qn .not) g7 d λg8=>
 A.fr i Xh g8 d λu=>A.tr u (Ya 2) e d λg9=>A.tr u (Xc true 4) g9 d λi0=>A.gw u true (λk=>A.k 225 [i0] d k) d λi1 d=>A.tr u (Qn .not) i1 d λi2=>
 A.fc i u i2 (.bool false) d λi3=>A.c i (.bool true) i3 d λi4=>A.test i4 (f (.bool false) d) (A.r (Ya 0) e d λi5=>A.a i5 d λi6=>A.b .eql i6 (.int .i8 7) d λm=>
 A.tr m Xh x0 d λi7=>A.tr m (Ya 6) e d λi9=>A.ta m i9 d λj0=>A.gw m true (λk=>A.k 228 [i7,j0,.bool true] d k) d λj1 d=>A.tr m (Qn .not) j1 d λj2=>
 A.c m j2 (.bool false) d λn=>A.fr n (Ya 0) e d λj3=>A.fa n j3 d λj4=>A.fb n .neq j4 (.int .i8 7) d λj5=>A.fr n Xh j5 d λz=>A.tr z (Ya 6) e d λj6=>
 A.ta z j6 d λj7=>A.got z (Yh .neq false [j7,.str []] d) λj8=>A.fc n z j8 (.bool false) d λj9=>A.c n (.bool true) j9 d λl0=>A.test l0 (f (.bool false) d) (
 A.r (Ya 1) e d λl1=>A.a l1 d λl2=>A.b .eql l2 (.int .i8 0) d λl3=>A.r (Ya 0) e d λl4=>A.a l4 d λl5=>A.b .eql l5 (.int .i8 0) d λa0=>
 A.fr a0 (Ya 0) e d λl6=>A.fa a0 l6 d λl7=>A.fb a0 .eql l7 (.int .i8 1) d λl8=>A.c a0 (.bool true) l8 d λl9=>joinK (λa3=>A.test l9 (
 A.r (Ya 1) e d λm0=>A.a m0 d λm1=>A.k 121 [m1] d λo d=>A.fr o (Ya 1) e d λm2=>A.fa o m2 d λm3=>A.fb o .eql m3 (.int .i8 2) d λm4=>
 A.fr o Xh m4 d λv=>A.tr v Xh x0 d λm5=>A.tr v Qa m5 d λm6=>A.tr v (Ya 1) m6 d λm7=>A.ta v m7 d λm8=>A.fc o v m8 (.bool false) d λm9=>
 A.c o (.bool true) m9 d λn0=>a3 [n0] d) (a3 [l3] d)) (λn1 d=>A.r (Ya 0) e d λn2=>A.a n2 d λn3=>A.b .eql n3 (.int .i8 2) d λa1=>A.fr a1 (Ya 0) e d λn4=>
 A.fa a1 n4 d λn5=>A.fb a1 .eql n5 (.int .i8 4) d λn6=>A.c a1 (.bool true) n6 d λa2=>A.fr a2 (Ya 0) e d λn7=>A.fa a2 n7 d λn8=>A.fb a2 .eql n8 (.int .i8 6) d λn9=>
 A.c a2 (.bool true) n9 d λo0=>joinK (λa4=>A.test o0 (A.r (Ya 1) e d λo1=>A.a o1 d λo2=>A.k 121 [o2] d λo3 d=>a4 [o3] d) (a4 [(h0 n1)] d)) (λo4 d=>
 A.r (Qn .not) (h0 o4) d λo5=>A.test o5 (f (.bool false) d) (k9 [] d))))))))) (λo7 d=>A.b .add (h0 v6) (jv 1) d λo6=>a5 [o6] d)) (f (.bool true) d)) [jv 0] d)
 |_=>A.stop
theorem g188_ok:GQ 188 3 g188:=gq3 [none,none,some [7],none,some [],none,none,none,none,none,none,some [9],some [9],none] λ_ _ _ _ _ _ _=>by kernel_rfl
def g189:GFun:=λA xs a c=>match xs with
 |[x0,x1]=>
 A.k 190 [x0,x1] a λd a=>A.k 190 [x1,x1] a λe a=>A.b .eql d e a λf=>c f a
 |_=>A.stop
theorem g189_ok:GQ 189 2 g189:=gq2 [] λ_ _ _ _ _ _=>by kernel_rfl
def g190:GFun:=λA xs a d=>match xs with
 |[x0,x1]=>
 A.b .lss x0 (.int .i8 0) a λe=>A.fr e Xh x0 a λm=>A.fb e .gtr m (.int .i8 3) a λn=>A.c e (.bool true) n a λo=>joinK (λj=>A.test o (j [.int .i8 3] a) (
 j [x0] a)) (λf a=>A.b .lss x1 (.int .i8 0) a λg=>A.fr g Xh x1 a λp=>A.fb g .gtr p (.int .i8 3) a λq=>A.c g (.bool true) q a λr=>joinK (λl=>
 A.test r (l [.int .i8 3] a) (l [x1] a)) (λh a=>A.b .eql (h0 f) (h0 h) a λi=>A.fr i Xh (h0 h) a λs=>A.fb i .eql s (.int .i8 0) a λt=>A.c i (.bool true) t a λu=>
 A.test u (d (h0 f) a) (A.b .eql (h0 f) (.int .i8 0) a λv=>A.test v (d (h0 h) a) (d (.int .i8 3) a))))
 |_=>A.stop
theorem g190_ok:GQ 190 2 g190:=gq2 [some [0],some [1],none,none,none] λ_ _ _ _ _ _=>by kernel_rfl
def g191:GFun:=λA xs d h=>match xs with
 |[x0]=>
 A.w1 Qk x0 d λe d=>A.r (Ya 0) e d λl=>A.a l d λm=>A.b .eql m (.int .i8 6) d λn=>joinK (λi=>A.test n (i [.int .i8 3] d) (i [.int .i8 0] d)) (λj d=>
 A.r (Ya 0) e d λo=>A.a o d λp=>A.b .geq p (.int .i8 8) d λg=>A.tr g (Ya 0) e d λq=>A.ta g q d λt=>A.tb g .leq t (.int .i8 12) d λu=>
 A.c g u (.bool false) d λv=>A.test v (A.loop (λw f d=>A.r (Ya 3) e d λy=>A.a y d λz=>A.r Xe z d λa0=>A.b .lss (h0 f) a0 d λa1=>
 A.test a1 (A.r (Ya 3) e d λa2=>A.a a2 d λa3=>A.s (Yb 4) a3 (h0 f) d λa4=>A.r (Xc true 4) a4 d λa5=>A.k 191 [a5] d λa6 d=>
 A.k 190 [(h1 f),a6] d λa7 d=>A.b .add (h0 f) (jv 1) d λa8=>w [a8,a7] d) (h (h1 f) d)) [jv 0,(h0 j)] d) (h (h0 j) d))
 |_=>A.stop
theorem g191_ok:GQ 191 1 g191:=gq1 [some [3],none,none,some [4,3],none,none] λ_ _ _ _ _=>by kernel_rfl
def g192:GFun:=λA xs c g=>match xs with
 |[x0]=>
 A.w1 Qk x0 c λd c=>A.r (Ya 0) d c λi=>A.a i c λj=>A.b .eql j (.int .i8 6) c λl=>A.test l (A.r (Ya 1) d c λm=>A.a m c λh=>
 A.b .eql h (.int .i8 0) c λn=>A.test n (g (.int .i8 1) c) (A.b .eql h (.int .i8 1) c λo=>A.test o (g (.int .i8 2) c) (g (.int .i8 3) c))) (A.loop (λp e c=>
 A.r (Ya 3) d c λq=>A.a q c λt=>A.r Xe t c λu=>A.b .lss (h0 e) u c λv=>A.test v (A.r (Ya 3) d c λw=>A.a w c λy=>A.s (Yb 4) y (h0 e) c λz=>
 A.r (Xc true 4) z c λa0=>A.k 191 [a0] c λa1 c=>A.k 190 [(h1 e),a1] c λa2 c=>A.b .add (h0 e) (jv 1) c λa3=>p [a3,a2] c) (A.loop (λa4 f c=>
 A.r (Ya 4) d c λa5=>A.a a5 c λa6=>A.r Xe a6 c λa7=>A.b .lss (h0 f) a7 c λa8=>A.test a8 (A.r (Ya 4) d c λa9=>A.a a9 c λb0=>
 A.s (Yb 5) b0 (h0 f) c λb1=>A.r (Xc true 5) b1 c λb2=>A.k 192 [b2] c λb3 c=>A.k 190 [(h1 f),b3] c λb4 c=>A.b .add (h0 f) (jv 1) c λb5=>
 a4 [b5,b4] c) (g (h1 f) c)) [jv 0,(h1 e)] c)) [jv 0,.int .i8 0] c)
 |_=>A.stop
theorem g192_ok:GQ 192 1 g192:=gq1 [none,none,none,none,none,some [4,3],none,none,none,some [5,3],none,none] λ_ _ _ _ _=>by kernel_rfl
def g193:GFun:=λA xs a o=>match xs with
 |[x0,x1]=>
 joinK (λj=>A.loop (λp d a=>A.r Zr x0 a λq=>A.b .lss (h0 d) q a λs=>A.test s (A.k 196 [x0,(h0 d)] a λl a=>A.r (Qd 0) l a λh=>
 A.r (Qd 1) l a λm=>A.b .eql m (jv 0) a λe=>A.fr e Xh h a λt=>A.gw e false (λk=>A.k 197 [t] a k) a λu a=>A.fr e (Qn .not) u a λv=>
 A.fr e Xh v a λg=>A.tr g Xh (h1 d) a λw=>A.tb g .eql w (jv 0) a λy=>A.tr g Xh y a λf=>A.fr f Xh h a λz=>A.gw f false (λk=>A.k 198 [z] a k) a λa0 a=>
 A.fr f (Qn .not) a0 a λa1=>A.fr f Xh a1 a λi=>A.tr i Xh h a λa2=>A.tb i .neq a2 (jv 39) a λa3=>A.fc f i a3 (.bool false) a λa4=>A.tc g f (.bool true) a4 a λa5=>
 A.fc e g a5 (.bool false) a λa6=>A.c e (.bool true) a6 a λa7=>A.test a7 (j [(h0 d),(h1 d)] a) (A.b .add (h0 d) m a λa8=>A.b .add (h1 d) (jv 1) a λa9=>
 p [a8,a9] a)) (j [(h0 d),(h1 d)] a)) [x1,jv 0] a) (λn a=>o (.tup [(h0 n),(h1 n)]) a)
 |_=>A.stop
theorem g193_ok:GQ 193 2 g193:=gq2 [some [1,6],some [1,6],none,none,none] λ_ _ _ _ _ _=>by kernel_rfl
def g194:GFun:=λA xs c e=>match xs with
 |[x0]=>
 A.k 229 [] c λf c=>A.loop (λg d c=>A.r Xe f c λh=>A.b .lss (h0 d) h c λi=>A.test i (A.s (Yb 1) f (h0 d) c λj=>A.a j c λl=>A.b .eql l x0 c λm=>
 A.test m (e (.bool true) c) (A.b .add (h0 d) (jv 1) c λn=>g [n] c)) (e (.bool false) c)) [jv 0] c
 |_=>A.stop
theorem g194_ok:GQ 194 1 g194:=gq1 [none,some [4],none,none,none] λ_ _ _ _ _=>by kernel_rfl
def g195:GFun:=λA xs c e=>match xs with
 |[x0,x1]=>
 A.w1 Qk x0 c λf c=>A.loop (λg d c=>A.r (Ya 0) f c λh=>A.a h c λi=>A.r Xe i c λj=>A.b .lss (h0 d) j c λl=>A.test l (A.r (Ya 0) f c λm=>
 A.a m c λn=>A.s (Yb 12) n (h0 d) c λo=>A.r (Ya 0) o c λp=>A.a p c λq=>A.b .eql q x1 c λt=>A.test t (e (.tup [(h0 d),.bool true]) c) (
 A.b .add (h0 d) (jv 1) c λu=>g [u] c)) (e (.tup [jv 0,.bool false]) c)) [jv 0] c
 |_=>A.stop
theorem g195_ok:GQ 195 2 g195:=gq2 [none,some [6],none,none,none] λ_ _ _ _ _ _=>by kernel_rfl
def g196:GFun:=λA xs a h=>match xs with
 |[x0,x1]=>
 A.s Yv x0 x1 a λq=>A.r (XH .i64) q a λd=>A.b .geq d (jv 192) a λl=>A.tr l Xh d a λt=>A.tb l .lss t (jv 224) a λu=>A.c l u (.bool false) a λv=>
 joinK (λi=>A.test v (A.b .and d (jv 31) a λw=>i [jv 2,w,jv 128] a) (A.b .geq d (jv 224) a λm=>A.tr m Xh d a λy=>A.tb m .lss y (jv 240) a λz=>
 A.c m z (.bool false) a λa0=>A.test a0 (A.b .and d (jv 15) a λa1=>i [jv 3,a1,jv 2048] a) (A.b .geq d (jv 240) a λn=>A.tr n Xh d a λa2=>A.tb n .lss a2 (jv 248) a λa3=>
 A.c n a3 (.bool false) a λa4=>A.test a4 (A.b .and d (jv 7) a λa5=>i [jv 4,a5,jv 65536] a) (A.b .geq d (jv 128) a λa6=>A.test a6 (h (.tup [jv 0,jv 0]) a) (
 i [jv 1,d,jv 0] a))))) (λj a=>A.loop (λa7 e a=>A.b .lss (h0 e) (h0 j) a λa8=>A.test a8 (A.b .add x1 (h0 e) a λa9=>A.r Zr x0 a λb0=>
 A.b .geq a9 b0 a λf=>A.fr f Xh x0 a λb1=>A.fr f Xh x1 a λb2=>A.fr f Xh (h0 e) a λb3=>A.fb f .add b2 b3 a λb4=>A.fs f Yv b1 b4 a λb5=>
 A.fb f .and b5 (.int .u8 192) a λb6=>A.fb f .neq b6 (.int .u8 128) a λb7=>A.c f (.bool true) b7 a λb8=>A.test b8 (h (.tup [jv 0,jv 0]) a) (A.b .shl (h1 e) (.int .u64 6) a λb9=>
 A.b .add x1 (h0 e) a λc0=>A.s Yv x0 c0 a λc1=>A.b .and c1 (.int .u8 63) a λc2=>A.r (XH .i64) c2 a λc3=>A.b .or b9 c3 a λc4=>A.b .add (h0 e) (jv 1) a λc5=>
 a7 [c5,c4] a)) (A.b .lss (h1 e) (h2 j) a λo=>A.fr o Xh (h1 e) a λc6=>A.fb o .gtr c6 (jv 1114111) a λc7=>A.c o (.bool true) c7 a λg=>A.fr g Xh (h1 e) a λc8=>
 A.fb g .geq c8 (jv 55296) a λc9=>A.fr g Xh c9 a λp=>A.tr p Xh (h1 e) a λd0=>A.tb p .leq d0 (jv 57343) a λd1=>A.fc g p d1 (.bool false) a λd2=>
 A.c g (.bool true) d2 a λd3=>A.test d3 (h (.tup [jv 0,jv 0]) a) (h (.tup [(h1 e),(h0 j)]) a))) [jv 1,(h1 j)] a)
 |_=>A.stop
theorem g196_ok:GQ 196 2 g196:=gq2 [some [7,8,9],none,none,none,none,some [10,8],none,none,none,none] λ_ _ _ _ _ _=>by kernel_rfl
def g197:GFun:=λA xs a l=>match xs with
 |[x0]=>
 A.b .geq x0 (jv 97) a λf=>A.tr f Xh x0 a λm=>A.tb f .leq m (jv 122) a λn=>A.c f n (.bool false) a λe=>A.fr e Xh x0 a λo=>A.fb e .geq o (jv 65) a λp=>
 A.fr e Xh p a λg=>A.tr g Xh x0 a λq=>A.tb g .leq q (jv 90) a λr=>A.fc e g r (.bool false) a λs=>A.c e (.bool true) s a λd=>A.fr d Xh x0 a λt=>
 A.fb d .geq t (jv 192) a λu=>A.fr d Xh u a λh=>A.tr h Xh x0 a λv=>A.tb h .leq v (jv 591) a λw=>A.fc d h w (.bool false) a λy=>A.fr d Xh y a λi=>
 A.tr i Xh x0 a λz=>A.tb i .neq z (jv 215) a λa0=>A.fc d i a0 (.bool false) a λa1=>A.fr d Xh a1 a λj=>A.tr j Xh x0 a λa2=>A.tb j .neq a2 (jv 247) a λa3=>
 A.fc d j a3 (.bool false) a λa4=>A.c d (.bool true) a4 a λa5=>l a5 a
 |_=>A.stop
theorem g197_ok:GQ 197 1 g197:=gq1 [] λ_ _ _ _ _=>by kernel_rfl
def g198:GFun:=λA xs a e=>match xs with
 |[x0]=>
 A.b .geq x0 (jv 48) a λd=>A.tr d Xh x0 a λf=>A.tb d .leq f (jv 57) a λg=>A.c d g (.bool false) a λh=>e h a
 |_=>A.stop
theorem g198_ok:GQ 198 1 g198:=gq1 [] λ_ _ _ _ _=>by kernel_rfl
def g199:GFun:=λA xs a b=>match xs with
 |[]=>
 A.wr (Qh 1 13 [.str [],.str [],.str [],.str [],.str [],.str [],.str [],.str [],.str [],.str [],.str [],.str [],.str []] [(0,1),(1,1),(2,1),(3,1),(4,1),(5,1),(6,1),(7,1),(8,1),(9,1),(10,1),(11,1),(12,1)] [(.str [60,61]),(.str [61,61]),(.str [123]),(.str [125]),(.str [40]),(.str [41]),(.str [47]),(.str [44]),(.str [59]),(.str [43]),(.str [45]),(.str [42]),(.str [60])] a) a λc a=>
 b c a
 |_=>A.stop
theorem g199_ok:GQ 199 0 g199:=gq0 [] λ_ _ _ _=>by kernel_rfl
def g200:GFun:=λA xs d h=>match xs with
 |[x0]=>
 A.pu (Qa [x0] d) λi=>A.pu (Ya 0 [i] d) λj=>A.dr (Ye [j] d) d λl m d=>A.pu (Qa [x0] d) λn=>A.pu (Ya 1 [n] d) λo=>
 A.dr (Ye [o] d) d λp q d=>A.dr (Yb 4 [l,p] d) d λs t d=>A.dr (Xc true 4 [s] d) d λu v d=>A.dr (Yf [.int .i8 0,.str [],jv 0,jv 0] [] d) d λe w d=>
 A.dr (Qb 4 [e,u] d) d λ_ y d=>A.gd (Xg [[],[0],[0,1],[0,1,2],[],[4],[4,5],[4,5,6],[0,1,2,3,4,5,6,7],[0,1,2,3,4,5,6,7,8],[],[0,1,2,3,4,5,6,7,8,9,10]] [([],[]),([],[]),([],[]),m,([],[]),([],[]),([],[]),q,t,v,w,y]) <|
 A.k 150 [x0] d λz d=>A.r (Qn .not) z d λf=>A.fr f (Ya 0) e d λa0=>A.fa f a0 d λa1=>A.fb f .neq a1 (.int .i8 1) d λa2=>A.c f (.bool true) a2 d λg=>
 A.fr g (Ya 1) e d λa3=>A.fa g a3 d λa4=>A.gw g false (λk=>A.k 194 [a4] d k) d λa5 d=>A.c g (.bool true) a5 d λa6=>A.test a6 (A.k 152 [x0,jv 120] d λb5 d=>
 h (.str []) d) (A.r Qa x0 d λa7=>A.r (Ya 1) a7 d λa8=>A.a a8 d λa9=>A.b .add a9 (jv 1) d λb0=>A.r Qa x0 d λb1=>A.r (Ya 1) b1 d λb2=>
 A.ws (Qb 1) b2 b0 d λ_ d=>A.r (Ya 1) e d λb3=>A.a b3 d λb4=>h b4 d)
 |_=>A.stop
theorem g200_ok:GQ 200 1 g200:=gq1 [none] λ_ _ _ _ _=>by kernel_rfl
def g201:GFun:=λA xs c d=>match xs with
 |[x0,x1]=>
 A.k 151 [x0,x1] c λe c=>A.r (Qn .not) e c λf=>A.test f (d (.bool false) c) (A.r Qa x0 c λg=>A.r (Ya 1) g c λh=>A.a h c λi=>
 A.b .add i (jv 1) c λj=>A.r Qa x0 c λl=>A.r (Ya 1) l c λm=>A.ws (Qb 1) m j c λ_ c=>d (.bool true) c)
 |_=>A.stop
theorem g201_ok:GQ 201 2 g201:=gq2 [none] λ_ _ _ _ _ _=>by kernel_rfl
def g202:GFun:=λA xs d g=>match xs with
 |[x0]=>
 A.pu (Qa [x0] d) λh=>A.pu (Ya 0 [h] d) λi=>A.dr (Ye [i] d) d λj l d=>A.pu (Qa [x0] d) λm=>A.pu (Ya 1 [m] d) λn=>
 A.dr (Ye [n] d) d λo p d=>A.dr (Yb 4 [j,o] d) d λq s d=>A.dr (Xc true 4 [q] d) d λt u d=>A.dr (Yf [.int .i8 0,.str [],jv 0,jv 0] [] d) d λf v d=>
 A.dr (Qb 4 [f,t] d) d λ_ w d=>A.gd (Xg [[],[0],[0,1],[0,1,2],[],[4],[4,5],[4,5,6],[0,1,2,3,4,5,6,7],[0,1,2,3,4,5,6,7,8],[],[0,1,2,3,4,5,6,7,8,9,10]] [([],[]),([],[]),([],[]),l,([],[]),([],[]),([],[]),p,s,u,v,w]) <|
 A.k 150 [x0] d λy d=>A.r (Qn .not) y d λe=>A.fr e (Ya 0) f d λz=>A.fa e z d λa0=>A.fb e .neq a0 (.int .i8 2) d λa1=>A.c e (.bool true) a1 d λa2=>
 A.test a2 (A.k 152 [x0,jv 120] d λb1 d=>g (jv 0) d) (A.r Qa x0 d λa3=>A.r (Ya 1) a3 d λa4=>A.a a4 d λa5=>A.b .add a5 (jv 1) d λa6=>
 A.r Qa x0 d λa7=>A.r (Ya 1) a7 d λa8=>A.ws (Qb 1) a8 a6 d λ_ d=>A.r (Ya 2) f d λa9=>A.a a9 d λb0=>g b0 d)
 |_=>A.stop
theorem g202_ok:GQ 202 1 g202:=gq1 [none] λ_ _ _ _ _=>by kernel_rfl
def g203:GFun:=λA xs a b=>match xs with
 |[x0,x1]=>
 A.k 201 [x0,x1] a λc a=>A.r (Qn .not) c a λd=>A.test d (A.k 152 [x0,jv 120] a λe a=>b (.tup []) a) (b (.tup []) a)
 |_=>A.stop
theorem g203_ok:GQ 203 2 g203:=gq2 [none] λ_ _ _ _ _ _=>by kernel_rfl
def g204:GFun:=λA xs c f=>match xs with
 |[x0,x1,x2]=>
 A.loop (λg d c=>A.r Xe x1 c λh=>A.b .lss (h0 d) h c λi=>A.test i (joinK (λe=>A.s (Yb 1) x1 (h0 d) c λj=>A.a j c λl=>A.b .eql l x2 c λm=>
 A.test m (A.k 152 [x0,jv 101] c λq c=>e [] c) (e [] c)) (λt c=>A.b .add (h0 d) (jv 1) c λn=>g [n] c)) (A.wr (Qh 1 1 [.str []] [(0,1)] [x2] c) c λo c=>
 A.wr (Zi 1 16 [x1,o] c) c λp c=>f p c)) [jv 0] c
 |_=>A.stop
theorem g204_ok:GQ 204 3 g204:=gq3 [none,some [7],none,some [],none] λ_ _ _ _ _ _ _=>by kernel_rfl
def g205:GFun:=λA xs a f=>match xs with
 |[x0]=>
 A.k 203 [x0,(.str [123])] a λq a=>A.loop (λg d a=>A.k 150 [x0] a λb a=>A.tr b Xh x0 a λh=>A.gw b true (λk=>A.k 151 [h,(.str [125])] a k) a λi a=>
 A.tr b (Qn .not) i a λj=>A.c b j (.bool false) a λl=>A.test l (A.k 230 [x0] a λm a=>A.wr (Yf [.int .i8 0,.int .i8 0,.int .i8 0,jv 0,.int .i8 0,.nils,.str [],.int .i8 0,.int .i8 0,.str [],.nils,.nils,.nils,.nils] [] a) a λe a=>
 A.ws (Qb 14) e m a λ_ a=>A.r (Xc true 14) e a λn=>A.wr (Qh 14 1 [.int .i8 0,.int .i8 0,.int .i8 0,jv 0,.int .i8 0,.nils,.str [],.int .i8 0,.int .i8 0,.str [],.nils,.nils,.nils,.nils] [(0,14)] [n] a) a λo a=>
 A.wr (Zi 14 192 [(h0 d),o] a) a λp a=>g [p] a) (A.k 203 [x0,(.str [125])] a λs a=>f (h0 d) a)) [.nils] a
 |_=>A.stop
theorem g205_ok:GQ 205 1 g205:=gq1 [none,some [3],none,none] λ_ _ _ _ _=>by kernel_rfl
def g206:GFun:=λA xs c o=>match xs with
 |[x0]=>
 A.loop (λp f c=>A.r Xe x0 c λq=>A.b .lss (h0 f) q c λt=>A.test t (joinK (λh=>A.s (Yb 14) x0 (h0 f) c λu=>A.r (Xc true 14) u c λv=>
 A.wr (Yf [.int .i8 0,.int .i8 0,.int .i8 0,jv 0,.int .i8 0,.nils,.str [],.int .i8 0,.int .i8 0,.str [],.nils,.nils,.nils,.nils] [] c) c λd c=>
 A.ws (Qb 14) d v c λ_ c=>A.b .add (h1 f) (jv 1) c λi=>A.r (Ya 0) d c λw=>A.a w c λe=>A.b .eql e (.int .i8 0) c λj=>joinK (λg=>
 A.test j (g [j] c) (A.b .eql e (.int .i8 1) c λl=>A.test l (g [l] c) (A.b .eql e (.int .i8 2) c λm=>A.test m (g [m] c) (A.b .eql e (.int .i8 3) c λn=>
 A.test n (g [n] c) (A.b .eql e (.int .i8 5) c λy=>g [y] c))))) (λz c=>A.test (h0 z) (A.r (Ya 2) d c λa0=>A.r (Xc true 4) a0 c λa1=>
 A.k 231 [a1] c λa2 c=>A.b .add i a2 c λa3=>h [a3] c) (A.b .eql e (.int .i8 8) c λa4=>A.test a4 (A.pu (Ya 7 [d] c) λa5=>A.dr (Xc true 5 [a5] c) c λa6 a7 c=>
 A.dcall (.call 232) [a6] c λa8 a9 c=>A.pu (Yh .add false [i,a8] c) λb0=>A.pu (Ya 12 [d] c) λb1=>A.dr (Ye [b1] c) c λb2 b3 c=>A.dcall (.call 206) [b2] c λb4 b5 c=>
 A.pu (Yh .add false [b0,b4] c) λb6=>A.pu (Ya 13 [d] c) λb7=>A.dr (Ye [b7] c) c λb8 b9 c=>A.dcall (.call 206) [b8] c λc0 c1 c=>
 A.pu (Yh .add false [b6,c0] c) λc2=>A.gd (Xg [[],[],[1],[1,2],[0,1,2,3],[],[5],[1,2,3,5,6],[0,1,2,3,4,5,6,7],[],[9],[1,2,3,5,6,7,9,10],[0,1,2,3,4,5,6,7,8,9,10,11],[0,1,2,3,4,5,6,7,8,9,10,11,12]] [([],[]),([],[]),a7,a9,([],[]),([],[]),b3,b5,([],[]),([],[]),b9,c1,([],[]),([],[])]) <|
 h [c2] c) (h [i] c)))) (λv5 c=>A.b .add (h0 f) (jv 1) c λc3=>p [c3,(h0 v5)] c)) (o (h1 f) c)) [jv 0,jv 0] c
 |_=>A.stop
theorem g206_ok:GQ 206 1 g206:=gq1 [none,some [4,3],none,some [3],none,some [20],none,none,none,none,none] λ_ _ _ _ _=>by kernel_rfl
def g207:GFun:=λA xs a c=>match xs with
 |[x0]=>
 A.k 200 [x0] a λd a=>A.wr (Qh 1 1 [.str []] [(0,1)] [d] a) a λe a=>A.loop (λf b a=>A.k 201 [x0,(.str [44])] a λg a=>A.test g (A.k 200 [x0] a λh a=>
 A.wr (Qh 1 1 [.str []] [(0,1)] [h] a) a λi a=>A.wr (Zi 1 16 [(h0 b),i] a) a λj a=>f [j] a) (c (h0 b) a)) [e] a
 |_=>A.stop
theorem g207_ok:GQ 207 1 g207:=gq1 [none,some [4],none,none] λ_ _ _ _ _=>by kernel_rfl
def g208:GFun:=λA xs c m=>match xs with
 |[x0,x1]=>
 A.call .callv [x1,x0] c λz c=>A.r (Qn .not) z c λt1=>A.test t1 (m (.bool false) c) (joinK (λe=>A.r (XR 272 true (.agg [.nilp])) x0 c λp=>
 A.r (Qd 1) p c λt5=>A.r (Qd 0) p c λt6=>A.test t5 (A.wr (Yf [.nilp] [] c) c λd c=>A.ws (Qb 1) d t6 c λ_ c=>A.r (Ya 0) d c λt8=>
 A.a t8 c λt9=>A.r Qa t9 c λa0=>A.r (Ya 0) a0 c λa1=>A.a a1 c λa2=>A.k 210 [a2] c λa3 c=>joinK (λq=>A.test a3 (A.r (Ya 0) d c λa4=>
 A.a a4 c λa5=>A.r Qa a5 c λa6=>A.r (Ya 2) a6 c λa7=>A.rd (Xf [.nilp] [(0,1)] [a7] c) λa8=>A.r (Xz 290) a8 c λa9=>
 A.wr (Qh 1 1 [.nili] [(0,1)] [a9] c) c λb0 c=>A.wr (Zi 1 16 [.nils,b0] c) c λb1 c=>q [b1] c) (q [.nils] c)) (λt c=>A.r (Ya 0) d c λb2=>
 A.a b2 c λb3=>A.r Qa b3 c λb4=>A.r (Ya 0) b4 c λb5=>A.a b5 c λb6=>A.b .eql b6 (.int .i8 8) c λb7=>A.test b7 (A.r (Ya 0) d c λb8=>
 A.a b8 c λb9=>A.r Qa b9 c λc0=>A.r (Ya 7) c0 c λc1=>A.rd (Xf [.nilp] [(0,1)] [c1] c) λc2=>A.r (Xz 292) c2 c λc3=>
 A.wr (Qh 1 1 [.nili] [(0,1)] [c3] c) c λc4 c=>A.wr (Zi 1 16 [(h0 t),c4] c) c λc5 c=>A.r (Ya 0) d c λc6=>A.a c6 c λc7=>A.r Qa c7 c λc8=>
 A.r (Ya 12) c8 c λc9=>A.a c9 c λd0=>A.r (Ya 0) d c λd1=>A.a d1 c λd2=>A.r Qa d2 c λd3=>A.r (Ya 13) d3 c λd4=>
 A.a d4 c λd5=>A.rd (Xf [.nils,.nils] [(0,1),(1,1)] [d0,d5] c) λd6=>A.loop (λd7 f c=>A.b .lss (h0 f) (jv 2) c λd8=>A.test d8 (A.s (Q0 false 2 1) d6 (h0 f) c λu=>
 A.r Xe u c λd9=>A.loop (λe0 g c=>A.b .lss (h0 g) d9 c λe1=>A.test e1 (A.s (Yb 14) u (h0 g) c λe2=>A.rd (Xf [.nilp] [(0,1)] [e2] c) λe3=>
 A.r (Xz 272) e3 c λe4=>A.wr (Qh 1 1 [.nili] [(0,1)] [e4] c) c λe5 c=>A.wr (Zi 1 16 [(h1 g),e5] c) c λe6 c=>A.b .add (h0 g) (jv 1) c λe7=>
 e0 [e7,e6] c) (A.b .add (h0 f) (jv 1) c λe8=>d7 [e8,(h1 g)] c)) [jv 0,(h1 f)] c) (e [(h1 f)] c)) [jv 0,c5] c) (e [(h0 t)] c))) (A.r (XR 290 true (.agg [.nilp])) x0 c λv=>
 A.r (Qd 1) v c λe9=>A.r (Qd 0) v c λf0=>A.test e9 (A.wr (Yf [.nilp] [] c) c λn c=>A.ws (Qb 1) n f0 c λ_ c=>A.r (Ya 0) n c λf1=>
 A.a f1 c λf2=>A.r Qa f2 c λf3=>A.r (Ya 3) f3 c λf4=>A.a f4 c λf5=>A.r Xe f5 c λf6=>A.loop (λf7 h c=>A.b .lss (h0 h) f6 c λf8=>
 A.test f8 (A.r (Ya 0) n c λf9=>A.a f9 c λg0=>A.r Qa g0 c λg1=>A.r (Ya 3) g1 c λg2=>A.a g2 c λg3=>A.s (Yb 4) g3 (h0 h) c λg4=>
 A.rd (Xf [.nilp] [(0,1)] [g4] c) λg5=>A.r (Xz 290) g5 c λg6=>A.wr (Qh 1 1 [.nili] [(0,1)] [g6] c) c λg7 c=>A.wr (Zi 1 16 [(h1 h),g7] c) c λg8 c=>
 A.b .add (h0 h) (jv 1) c λg9=>f7 [g9,g8] c) (e [(h1 h)] c)) [jv 0,.nils] c) (A.r (XR 292 true (.agg [.nilp])) x0 c λw=>A.r (Qd 1) w c λi0=>
 A.r (Qd 0) w c λi1=>A.test i0 (A.wr (Yf [.nilp] [] c) c λi c=>A.ws (Qb 1) i i1 c λ_ c=>A.r (Ya 0) i c λi2=>A.a i2 c λi3=>
 A.r Qa i3 c λi4=>A.r (Ya 3) i4 c λi5=>A.a i5 c λi6=>A.r Xe i6 c λi7=>A.loop (λi9 j c=>A.b .lss (h0 j) i7 c λj0=>A.test j0 (
 A.r (Ya 0) i c λj1=>A.a j1 c λj2=>A.r Qa j2 c λj3=>A.r (Ya 3) j3 c λj4=>A.a j4 c λj5=>A.s (Yb 4) j5 (h0 j) c λj6=>
 A.rd (Xf [.nilp] [(0,1)] [j6] c) λj7=>A.r (Xz 290) j7 c λj8=>A.wr (Qh 1 1 [.nili] [(0,1)] [j8] c) c λj9 c=>A.wr (Zi 1 16 [(h1 j),j9] c) c λl0 c=>
 A.b .add (h0 j) (jv 1) c λl1=>i9 [l1,l0] c) (A.r (Ya 0) i c λl2=>A.a l2 c λl3=>A.r Qa l3 c λl4=>A.r (Ya 4) l4 c λl5=>
 A.a l5 c λl6=>A.r Xe l6 c λl7=>A.loop (λl8 l c=>A.b .lss (h0 l) l7 c λl9=>A.test l9 (A.r (Ya 0) i c λm0=>A.a m0 c λm1=>A.r Qa m1 c λm2=>
 A.r (Ya 4) m2 c λm3=>A.a m3 c λm4=>A.s (Yb 5) m4 (h0 l) c λm5=>A.rd (Xf [.nilp] [(0,1)] [m5] c) λm6=>A.r (Xz 292) m6 c λm7=>
 A.wr (Qh 1 1 [.nili] [(0,1)] [m7] c) c λm8 c=>A.wr (Zi 1 16 [(h1 l),m8] c) c λm9 c=>A.b .add (h0 l) (jv 1) c λn0=>l8 [n0,m9] c) (e [(h1 l)] c)) [jv 0,(h1 j)] c)) [jv 0,.nils] c) (
 e [.nils] c)))) (λy c=>A.r Xe (h0 y) c λn1=>A.loop (λn2 o c=>A.b .lss (h0 o) n1 c λn3=>A.test n3 (A.s (Yb 1) (h0 y) (h0 o) c λn4=>
 A.a n4 c λn5=>A.k 208 [n5,x1] c λn6 c=>A.r (Qn .not) n6 c λn7=>A.test n7 (m (.bool false) c) (A.b .add (h0 o) (jv 1) c λn8=>n2 [n8] c)) (m (.bool true) c)) [jv 0] c))
 |_=>A.stop
theorem g208_ok:GQ 208 2 g208:=gq2 [none,some [5],none,some [5],none,none,some [66,5],none,none,none,some [71,5],none,none,none,none,some [93,5],none,none,none,none,some [118,5],none,none,none,some [140,5],none,none,none,some [158],none,none,none] λ_ _ _ _ _ _=>by kernel_rfl
def g209:GFun:=λA xs d s=>match xs with
 |[x0]=>
 A.r Qa x0 d λt=>A.r (Ya 0) t d λu=>A.a u d λv=>A.k 210 [v] d λf d=>A.fr f Xh x0 d λw=>A.fr f Qa w d λy=>A.fr f (Ya 2) y d λz=>
 A.fr f (Ya 0) z d λt7=>A.fa f t7 d λt8=>A.fb f .eql t8 (.int .i8 0) d λt9=>A.fr f Xh t9 d λi=>A.tr i Xh x0 d λa0=>A.tr i Qa a0 d λa1=>
 A.tr i (Ya 2) a1 d λa2=>A.tr i (Ya 1) a2 d λa3=>A.ta i a3 d λa4=>A.tb i .eql a4 (jv 0) d λa5=>A.fc f i a5 (.bool false) d λa6=>
 A.fr f Xh a6 d λj=>A.tr j Xh x0 d λa7=>A.tr j Qa a7 d λa8=>A.tr j (Ya 2) a8 d λa9=>A.tr j (Ya 2) a9 d λb0=>A.ta j b0 d λb1=>
 A.tb j .eql b1 (.int .i8 0) d λb2=>A.fc f j b2 (.bool false) d λb3=>A.fr f Xh b3 d λh=>A.tr h Xh x0 d λb4=>A.tr h Qa b4 d λb5=>A.tr h (Ya 2) b5 d λb6=>
 A.tr h (Ya 3) b6 d λb7=>A.ta h b7 d λb8=>A.tr h Xe b8 d λb9=>A.tb h .eql b9 (jv 0) d λc0=>A.fc f h c0 (.bool false) d λc1=>A.c f (.bool true) c1 d λp=>
 A.r Qa x0 d λc2=>A.r (Ya 0) c2 d λc3=>A.a c3 d λc4=>A.b .eql c4 (.int .i8 7) d λl=>A.fr l Xh x0 d λc5=>A.fr l Qa c5 d λc6=>
 A.fr l (Ya 6) c6 d λc7=>A.fa l c7 d λc8=>A.gof l (Yh .eql false [c8,.str []] d) λc9=>A.c l (.bool true) c9 d λd0=>A.r Qa x0 d λd1=>
 A.r (Ya 7) d1 d λo=>A.r Qa x0 d λd2=>A.r (Ya 0) d2 d λd3=>A.a d3 d λd4=>A.b .eql d4 (.int .i8 8) d λg=>A.fr g Xh o d λd5=>
 A.fr g Qa d5 d λd6=>A.fr g (Ya 0) d6 d λd7=>A.fa g d7 d λd8=>A.fb g .eql d8 (.int .i8 0) d λd9=>A.fr g Xh d9 d λm=>A.tr m Xh o d λe0=>
 A.tr m Qa e0 d λe1=>A.tr m (Ya 1) e1 d λe2=>A.ta m e2 d λe3=>A.tb m .eql e3 (.int .i8 0) d λe4=>A.fc g m e4 (.bool false) d λe5=>
 A.fr g Xh e5 d λn=>A.tr n Xh o d λe6=>A.tr n Qa e6 d λe7=>A.tr n (Ya 2) e7 d λe8=>A.ta n e8 d λe9=>A.got n (Yh .eql false [e9,.str []] d) λf0=>
 A.fc g n f0 (.bool false) d λf1=>A.fr g Xh f1 d λe=>A.tr e Xh o d λf2=>A.tr e Qa f2 d λf3=>A.tr e (Ya 3) f3 d λf4=>A.ta e f4 d λf5=>
 A.tr e Xe f5 d λf6=>A.tr e Xh o d λf7=>A.tr e Qa f7 d λf8=>A.tr e (Ya 4) f8 d λf9=>A.ta e f9 d λg0=>A.tr e Xe g0 d λg1=>
 A.tb e .add f6 g1 d λg2=>A.tr e Xh x0 d λg3=>A.tr e Qa g3 d λg4=>A.tr e (Ya 12) g4 d λg5=>A.ta e g5 d λg6=>A.tr e Xe g6 d λg7=>
 A.tb e .add g2 g7 d λg8=>A.tr e Xh x0 d λg9=>A.tr e Qa g9 d λi0=>A.tr e (Ya 13) i0 d λi1=>A.ta e i1 d λi2=>A.tr e Xe i2 d λi3=>
 A.tb e .add g8 i3 d λi4=>A.tb e .eql i4 (jv 0) d λi5=>A.fc g e i5 (.bool false) d λi6=>A.c g (.bool true) i6 d λi7=>A.tr p Xh d0 d λi9=>A.c p i9 (.bool false) d λq=>
 A.tr q Xh i7 d λj0=>A.c q j0 (.bool false) d λj1=>s j1 d
 |_=>A.stop
theorem g209_ok:GQ 209 1 g209:=gq1 [] λ_ _ _ _ _=>by kernel_rfl
def g210:GFun:=λA xs a d=>match xs with
 |[x0]=>
 A.b .eql x0 (.int .i8 0) a λe=>joinK (λc=>A.test e (c [e] a) (A.b .eql x0 (.int .i8 1) a λf=>A.test f (c [f] a) (A.b .eql x0 (.int .i8 2) a λg=>
 A.test g (c [g] a) (A.b .eql x0 (.int .i8 3) a λh=>A.test h (c [h] a) (A.b .eql x0 (.int .i8 5) a λi=>c [i] a))))) (λj a=>A.test (h0 j) (d (.bool true) a) (
 d (.bool false) a))
 |_=>A.stop
theorem g210_ok:GQ 210 1 g210:=gq1 [none,some [4],none,none,none,none] λ_ _ _ _ _=>by kernel_rfl
def g211:GFun:=λA xs d l=>match xs with
 |[x0,x1]=>
 A.r Qa x1 d λt0=>A.r (Ya 1) t0 d λt1=>A.a t1 d λt2=>A.b .eql t2 (jv 0) d λm=>A.r Qa x1 d λt4=>A.r (Ya 2) t4 d λt5=>
 A.a t5 d λt6=>A.b .eql t6 (.int .i8 0) d λf=>A.r Qa x1 d λt8=>A.r (Ya 0) t8 d λt9=>A.a t9 d λe=>joinK (λi=>A.b .eql e (.int .i8 0) d λa3=>
 A.test a3 (A.r Qa x1 d λa4=>A.r (Ya 1) a4 d λa5=>A.a a5 d λa6=>A.b .geq a6 (jv 0) d λh=>A.tr h Xh x1 d λa7=>A.tr h Qa a7 d λa8=>
 A.tr h (Ya 1) a8 d λa9=>A.ta h a9 d λb0=>A.tb h .leq b0 (jv 999) d λb1=>A.c h b1 (.bool false) d λb2=>i [b2,f,jv 0] d) (A.b .eql e (.int .i8 1) d λt=>
 joinK (λn=>A.test t (n [t] d) (A.b .eql e (.int .i8 2) d λu=>A.test u (n [u] d) (A.b .eql e (.int .i8 3) d λv=>A.test v (n [v] d) (A.b .eql e (.int .i8 4) d λb3=>
 n [b3] d)))) (λb4 d=>A.test (h0 b4) (A.r Qa x1 d λb5=>A.r (Ya 2) b5 d λb6=>A.a b6 d λb7=>A.k 212 [b7] d λb8 d=>i [m,b8,jv 0] d) (
 A.b .eql e (.int .i8 5) d λw=>joinK (λy=>A.test w (y [w] d) (A.b .eql e (.int .i8 6) d λb9=>y [b9] d)) (λc0 d=>A.test (h0 c0) (i [m,f,jv 0] d) (
 A.b .eql e (.int .i8 7) d λc1=>A.test c1 (A.tr f Xh x0 d λc2=>A.tr f Qa c2 d λc3=>A.tr f (Ya 1) c3 d λc4=>A.ta f c4 d λc5=>
 A.c f c5 (.bool false) d λc6=>i [m,c6,jv 0] d) (A.b .eql e (.int .i8 8) d λz=>joinK (λj=>A.test z (j [z] d) (A.b .eql e (.int .i8 9) d λa0=>
 A.test a0 (j [a0] d) (A.b .eql e (.int .i8 10) d λa1=>A.test a1 (j [a1] d) (A.b .eql e (.int .i8 11) d λa2=>A.test a2 (j [a2] d) (A.b .eql e (.int .i8 12) d λc7=>
 j [c7] d))))) (λc8 d=>A.test (h0 c8) (i [m,f,jv 2] d) (l (.bool false) d))))))))) (λo d=>A.r (Qn .not) (h0 o) d λp=>A.fr p Xh (h1 o) d λc9=>
 A.fr p (Qn .not) c9 d λd0=>A.c p (.bool true) d0 d λg=>A.fr g Xh x1 d λd1=>A.fr g Qa d1 d λd2=>A.fr g (Ya 3) d2 d λd3=>
 A.fa g d3 d λd4=>A.fr g Xe d4 d λd5=>A.fr g Xh (h2 o) d λd6=>A.fb g .neq d5 d6 d λd7=>A.c g (.bool true) d7 d λd8=>A.test d8 (l (.bool false) d) (
 A.r Qa x1 d λd9=>A.r (Ya 3) d9 d λe0=>A.a e0 d λe1=>A.r Xe e1 d λe2=>A.loop (λe3 q d=>A.b .lss (h0 q) e2 d λe4=>A.test e4 (
 A.r Qa x1 d λe5=>A.r (Ya 3) e5 d λe6=>A.a e6 d λe7=>A.s (Yb 4) e7 (h0 q) d λe8=>A.k 211 [x0,e8] d λe9 d=>A.r (Qn .not) e9 d λf0=>
 A.test f0 (l (.bool false) d) (A.b .add (h0 q) (jv 1) d λf1=>e3 [f1] d)) (l (.bool true) d)) [jv 0] d))
 |_=>A.stop
theorem g211_ok:GQ 211 2 g211:=gq2 [some [6,7,5],none,some [37],none,none,none,some [47],none,none,some [59],none,none,none,none,none,none,some [85],none,none,none] λ_ _ _ _ _ _=>by kernel_rfl
def g212:GFun:=λA xs a e=>match xs with
 |[x0]=>
 A.b .eql x0 (.int .i8 0) a λd=>A.fr d Xh x0 a λf=>A.fb d .eql f (.int .i8 1) a λg=>A.c d (.bool true) g a λh=>e h a
 |_=>A.stop
theorem g212_ok:GQ 212 1 g212:=gq1 [] λ_ _ _ _ _=>by kernel_rfl
def g213:GFun:=λA xs d j=>match xs with
 |[x0,x1]=>
 A.r Qa x1 d λz=>A.r (Ya 1) z d λt1=>A.a t1 d λt2=>A.b .eql t2 (.int .i8 0) d λh=>A.tr h Xh x1 d λt4=>A.tr h Qa t4 d λt5=>
 A.tr h (Ya 2) t5 d λt6=>A.ta h t6 d λt7=>A.got h (Yh .eql false [t7,.str []] d) λt8=>A.c h t8 (.bool false) d λm=>A.r Qa x1 d λa0=>
 A.r (Ya 0) a0 d λa1=>A.a a1 d λg=>joinK (λl=>A.b .eql g (.int .i8 0) d λt=>joinK (λn=>A.test t (n [t] d) (A.b .eql g (.int .i8 1) d λu=>
 A.test u (n [u] d) (A.b .eql g (.int .i8 2) d λa2=>n [a2] d))) (λa3 d=>A.test (h0 a3) (l [m,jv 2,jv 0] d) (A.b .eql g (.int .i8 3) d λa4=>A.test a4 (
 l [m,jv 0,jv 1] d) (A.b .eql g (.int .i8 4) d λv=>joinK (λw=>A.test v (w [v] d) (A.b .eql g (.int .i8 5) d λa5=>w [a5] d)) (λa6 d=>A.test (h0 a6) (
 l [m,jv 0,jv 2] d) (A.b .eql g (.int .i8 6) d λa7=>A.test a7 (A.r Qa x0 d λa8=>A.r (Ya 0) a8 d λa9=>A.a a9 d λb0=>A.r Qa x1 d λb1=>
 A.r (Ya 2) b1 d λb2=>A.a b2 d λb3=>A.s (Yo true true (.bool false)) b0 b3 d λy=>A.r (Qd 0) y d λg1=>A.r (Qd 1) y d λi=>
 A.tr i Xh x1 d λb4=>A.tr i Qa b4 d λb5=>A.tr i (Ya 1) b5 d λb6=>A.ta i b6 d λb7=>A.gw i true (λk=>A.k 212 [b7] d k) d λb8 d=>
 A.c i b8 (.bool false) d λb9=>l [b9,jv 0,jv 0] d) (j (.bool false) d))))))) (λo d=>A.r (Qn .not) (h0 o) d λe=>A.fr e Xh x1 d λc0=>A.fr e Qa c0 d λc1=>
 A.fr e (Ya 3) c1 d λc2=>A.fa e c2 d λc3=>A.fr e Xe c3 d λc4=>A.fr e Xh (h1 o) d λc5=>A.fb e .neq c4 c5 d λc6=>A.c e (.bool true) c6 d λf=>
 A.fr f Xh x1 d λc7=>A.fr f Qa c7 d λc8=>A.fr f (Ya 4) c8 d λc9=>A.fa f c9 d λd0=>A.fr f Xe d0 d λd1=>A.fr f Xh (h2 o) d λd2=>
 A.fb f .neq d1 d2 d λd3=>A.c f (.bool true) d3 d λd4=>A.test d4 (j (.bool false) d) (A.r Qa x1 d λd5=>A.r (Ya 3) d5 d λd6=>A.a d6 d λd7=>
 A.r Xe d7 d λd8=>A.loop (λd9 p d=>A.b .lss (h0 p) d8 d λe0=>A.test e0 (A.r Qa x1 d λe1=>A.r (Ya 3) e1 d λe2=>A.a e2 d λe3=>
 A.s (Yb 4) e3 (h0 p) d λe4=>A.k 211 [x0,e4] d λe5 d=>A.r (Qn .not) e5 d λe6=>A.test e6 (j (.bool false) d) (A.b .add (h0 p) (jv 1) d λe7=>
 d9 [e7] d)) (A.r Qa x1 d λe8=>A.r (Ya 4) e8 d λe9=>A.a e9 d λf0=>A.r Xe f0 d λf1=>A.loop (λf2 q d=>A.b .lss (h0 q) f1 d λf3=>
 A.test f3 (A.r Qa x1 d λf4=>A.r (Ya 4) f4 d λf5=>A.a f5 d λf6=>A.s (Yb 5) f6 (h0 q) d λf7=>A.k 213 [x0,f7] d λf8 d=>
 A.r (Qn .not) f8 d λf9=>A.test f9 (j (.bool false) d) (A.b .add (h0 q) (jv 1) d λg0=>f2 [g0] d)) (j (.bool true) d)) [jv 0] d)) [jv 0] d))
 |_=>A.stop
theorem g213_ok:GQ 213 2 g213:=gq2 [some [7,5,6],some [26],none,none,none,some [32],none,none,none,none,some [82],none,none,none,none,some [100],none,none,none] λ_ _ _ _ _ _=>by kernel_rfl
def g214:GFun:=λA xs b d=>match xs with
 |[x0]=>
 A.w1 Qk x0 b λe b=>A.wr (Yf [.bool false] [] b) b λc b=>A.ws (Qb 1) c (.bool false) b λ_ b=>A.r (Yp (.func 233) 0) c b λf=>
 A.k 155 [e,f] b λh b=>A.a c b λg=>d g b
 |_=>A.stop
theorem g214_ok:GQ 214 1 g214:=gq1 [] λ_ _ _ _ _=>by kernel_rfl
def g215:GFun:=λA xs a g=>match xs with
 |[x0,x1,x2,x3]=>
 A.loop (λi e a=>A.b .mul (jv 2) (h0 e) a λj=>A.b .add j (jv 1) a λd=>A.b .geq d x2 a λl=>A.test l (g (.tup []) a) (A.pu (Yh .add false [d,jv 1] a) λm=>
 A.pu (Yh .lss false [m,x2] a) λc=>A.gr c true (λk=>A.pu (Xh [x0] a) k) λn=>A.gr c true (λk=>A.pu (Xh [x3] a) k) λo=>A.gr c true (λk=>A.pu (Xh [d] a) k) λp=>
 A.gr c true (λk=>A.pu (Yh .add false [o,p] a) k) λq=>A.gl c true (λk=>A.dr (Yb 1 [n,q] a) a k) a λr s a=>A.gl c true (λk=>A.dr (Ye [r] a) a k) a λt u a=>
 A.gr c true (λk=>A.pu (Xh [x0] a) k) λv=>A.gr c true (λk=>A.pu (Xh [x3] a) k) λw=>A.gr c true (λk=>A.pu (Xh [d] a) k) λy=>A.gr c true (λk=>A.pu (Yh .add false [w,y] a) k) λz=>
 A.gr c true (λk=>A.pu (Yh .add false [z,jv 1] a) k) λa0=>A.gl c true (λk=>A.dr (Yb 1 [v,a0] a) a k) a λa1 a2 a=>A.gl c true (λk=>A.dr (Ye [a1] a) a k) a λa3 a4 a=>
 A.gl c true (λk=>A.dcall (.call 169) [t,a3] a k) a λa5 a6 a=>A.pu (Yi [c,a5,.bool false] a) λa7=>A.gd (Xg [[],[0],[],[0,1,2],[0,1,2,3],[0,1,2,3,4],[0,1,2,3,4],[0,1,2,3,4],[0,1,2,3,4,6,7],[0,1,2,3,4,5,6,7,8],[0,1,2,3,4,5,6,7,8,9],[0,1,2,3,4],[0,1,2,3,4],[0,1,2,3,4],[0,1,2,3,4,12,13],[0,1,2,3,4,12,13,14],[0,1,2,3,4,11,12,13,14,15],[0,1,2,3,4,11,12,13,14,15,16],[0,1,2,3,4,5,6,7,8,9,10,11,12,13,14,15,16,17],[0,1,2,3,4,5,6,7,8,9,10,11,12,13,14,15,16,17,18]] [([],[]),([],[]),([],[]),([],[]),([],[]),([],[]),([],[]),([],[]),([],[]),s,u,([],[]),([],[]),([],[]),([],[]),([],[]),a2,a4,a6,([],[])]) <|
 joinK (λh=>A.test a7 (A.b .add d (jv 1) a λa8=>h [a8] a) (h [d] a)) (λf a=>A.pu (Yh .add false [x3,(h0 e)] a) λa9=>A.dr (Yb 1 [x0,a9] a) a λb0 b1 a=>
 A.dr (Ye [b0] a) a λb2 b3 a=>A.pu (Yh .add false [x3,(h0 f)] a) λb4=>A.dr (Yb 1 [x0,b4] a) a λb5 b6 a=>A.dr (Ye [b5] a) a λb7 b8 a=>
 A.dcall (.call 169) [b2,b7] a λb9 c0 a=>A.pu (Qn .not [b9] a) λc1=>A.gd (Xg [[],[],[],[1,2],[0,1,2,3],[0,1,2,3,4],[],[],[],[7,8],[6,7,8,9],[6,7,8,9,10],[0,1,2,3,4,5,6,7,8,9,10,11],[0,1,2,3,4,5,6,7,8,9,10,11,12]] [([],[]),([],[]),([],[]),([],[]),b1,b3,([],[]),([],[]),([],[]),([],[]),b6,b8,c0,([],[])]) <|
 A.test c1 (g (.tup []) a) (A.pu (Yh .add false [x3,(h0 e)] a) λc2=>A.pu (Yh .add false [x3,(h0 f)] a) λc3=>A.pu (Yh .add false [x3,(h0 f)] a) λc4=>
 A.dr (Yb 1 [x0,c4] a) a λc5 c6 a=>A.dr (Ye [c5] a) a λc7 c8 a=>A.pu (Yh .add false [x3,(h0 e)] a) λc9=>A.dr (Yb 1 [x0,c9] a) a λd0 d1 a=>
 A.dr (Ye [d0] a) a λd2 d3 a=>A.dr (Yb 1 [x0,c2] a) a λd4 d5 a=>A.dr (Qb 1 [d4,c7] a) a λ_ d6 a=>A.dr (Yb 1 [x0,c3] a) a λd7 d8 a=>
 A.dr (Qb 1 [d7,d2] a) a λ_ d9 a=>A.gd (Xg [[],[],[],[1,2],[],[],[],[5,6],[],[],[],[9,10],[8,9,10,11],[8,9,10,11,12],[],[],[],[15,16],[14,15,16,17],[14,15,16,17,18],[0,1,2,3,8,9,10,11,12,13,14,15,16,17,18,19],[0,1,2,3,8,9,10,11,12,13,14,15,16,17,18,19,20],[0,1,2,3,4,5,6,7,8,9,10,11,12,13,14,15,16,17,18,19,20,21],[0,1,2,3,4,5,6,7,8,9,10,11,12,13,14,15,16,17,18,19,20,21,22]] [([],[]),([],[]),([],[]),([],[]),([],[]),([],[]),([],[]),([],[]),([],[]),([],[]),([],[]),([],[]),c6,c8,([],[]),([],[]),([],[]),([],[]),d1,d3,d5,d6,d8,d9]) <|
 i [(h0 f)] a)))) [x1] a
 |_=>A.stop
theorem g215_ok:GQ 215 4 g215:=gq4 [none,some [8],none,none,some [9],none] λ_ _ _ _ _ _ _ _=>by kernel_rfl
def g216:GFun:=λA xs a c=>match xs with
 |[x0]=>
 A.r (XH .u64) x0 a λd=>A.k 129 [d] a λe a=>A.b .shl (.int .u64 1) e a λf=>c f a
 |_=>A.stop
theorem g216_ok:GQ 216 1 g216:=gq1 [] λ_ _ _ _ _=>by kernel_rfl
def g217:GFun:=λA xs b c=>match xs with
 |[x0]=>
 A.pu (Qa [x0] b) λd=>A.dr (Ye [d] b) b λe f b=>A.pu (Qa [x0] b) λg=>A.dr (Ye [g] b) b λh i b=>A.pu (Yh .shl false [h,.int .u64 13] b) λj=>
 A.pu (Yh .xor false [e,j] b) λl=>A.pu (Qa [x0] b) λm=>A.dr (Qb 1 [m,l] b) b λ_ n b=>A.gd (Xg [[],[0],[0,1],[],[3],[3,4],[3,4,5],[0,1,2,3,4,5,6],[0,1,2,3,4,5,6,7],[0,1,2,3,4,5,6,7,8]] [([],[]),([],[]),f,([],[]),([],[]),i,([],[]),([],[]),([],[]),n]) <|
 A.pu (Qa [x0] b) λo=>A.dr (Ye [o] b) b λp q b=>A.pu (Qa [x0] b) λs=>A.dr (Ye [s] b) b λt u b=>A.pu (Yh .shr false [t,.int .u64 7] b) λv=>
 A.pu (Yh .xor false [p,v] b) λw=>A.pu (Qa [x0] b) λy=>A.dr (Qb 1 [y,w] b) b λ_ z b=>A.gd (Xg [[],[0],[0,1],[],[3],[3,4],[3,4,5],[0,1,2,3,4,5,6],[0,1,2,3,4,5,6,7],[0,1,2,3,4,5,6,7,8]] [([],[]),([],[]),q,([],[]),([],[]),u,([],[]),([],[]),([],[]),z]) <|
 A.pu (Qa [x0] b) λa0=>A.dr (Ye [a0] b) b λa1 a2 b=>A.pu (Qa [x0] b) λa3=>A.dr (Ye [a3] b) b λa4 a5 b=>A.pu (Yh .shl false [a4,.int .u64 17] b) λa6=>
 A.pu (Yh .xor false [a1,a6] b) λa7=>A.pu (Qa [x0] b) λa8=>A.dr (Qb 1 [a8,a7] b) b λ_ a9 b=>A.gd (Xg [[],[0],[0,1],[],[3],[3,4],[3,4,5],[0,1,2,3,4,5,6],[0,1,2,3,4,5,6,7],[0,1,2,3,4,5,6,7,8]] [([],[]),([],[]),a2,([],[]),([],[]),a5,([],[]),([],[]),([],[]),a9]) <|
 A.r Qa x0 b λb0=>A.a b0 b λb1=>c b1 b
 |_=>A.stop
theorem g217_ok:GQ 217 1 g217:=gq1 [] λ_ _ _ _ _=>by kernel_rfl
def g218:GFun:=λA xs a c=>match xs with
 |[x0,x1,x2]=>
 A.b .sub x1 (jv 1) a λd=>A.b .add x1 (jv 1) a λe=>A.k 219 [x0,d,x1,e,x2] a λf a=>c f a
 |_=>A.stop
theorem g218_ok:GQ 218 3 g218:=gq3 [] λ_ _ _ _ _ _ _=>by kernel_rfl
def g219:GFun:=λA xs a e=>match xs with
 |[x0,x1,x2,x3,x4]=>
 A.k 234 [x0,x1,x2,x4] a λb a=>A.r (Qd 0) b a λf=>A.r (Qd 1) b a λg=>A.k 234 [x0,g,x3,x4] a λc a=>A.r (Qd 0) c a λh=>
 A.r (Qd 1) c a λj=>A.k 234 [x0,f,h,x4] a λd a=>A.r (Qd 0) d a λl=>A.r (Qd 1) d a λi=>e i a
 |_=>A.stop
theorem g219_ok:GQ 219 5 g219:=gq5 [] λ_ _ _ _ _ _ _ _ _=>by kernel_rfl
def g220:GFun:=λA xs a c=>match xs with
 |[x0]=>
 A.b .neq x0 x0 a λd=>c d a
 |_=>A.stop
theorem g220_ok:GQ 220 1 g220:=gq1 [] λ_ _ _ _ _=>by kernel_rfl
def g221:GFun:=λA xs d i=>match xs with
 |[x0,x1]=>
 A.r Qa x0 d λt=>A.r (Ya 2) t d λu=>A.a u d λv=>A.r Qa x0 d λw=>A.r (Ya 3) w d λy=>A.a y d λz=>A.r Qa x0 d λt6=>
 A.r (Ya 4) t6 d λt7=>A.a t7 d λt8=>A.r Qa x0 d λt9=>A.r (Ya 5) t9 d λa0=>A.a a0 d λa1=>A.r Qa x0 d λa2=>
 A.r (Ya 6) a2 d λa3=>A.a a3 d λa4=>A.r Qa x0 d λa5=>A.r (Ya 7) a5 d λa6=>A.a a6 d λa7=>A.rd (Xf [jv 0,jv 0,jv 0,jv 0,jv 0,jv 0] [(0,1),(1,1),(2,1),(3,1),(4,1),(5,1)] [v,z,t8,a1,a4,a7] d) λa8=>
 A.loop (λa9 l d=>A.b .lss (h0 l) (jv 6) d λb0=>A.test b0 (A.s (Q0 false 6 1) a8 (h0 l) d λo=>A.b .lss o (jv 0) d λm=>A.fr m Xh o d λb1=>
 A.fb m .gtr b1 (jv 999) d λb2=>A.c m (.bool true) b2 d λb3=>A.test b3 (i (.bool false) d) (A.b .add (h0 l) (jv 1) d λb4=>a9 [b4] d)) (A.r Qa x0 d λb5=>
 A.r (Ya 0) b5 d λb6=>A.a b6 d λb7=>A.k 223 [b7] d λb8 d=>A.r (Qn .not) b8 d λp=>joinK (λn=>A.test p (n [p] d) (A.r Qa x0 d λb9=>
 A.r (Xc true 12) b9 d λc0=>A.k 124 [c0] d λc1 d=>A.b .gtr c1 (jv 200) d λq=>A.test q (n [q] d) (A.r Qa x0 d λc2=>A.r (Ya 1) c2 d λc3=>
 A.a c3 d λh=>A.tr h Xh x0 d λc4=>A.tr h Qa c4 d λc5=>A.tr h (Ya 4) c5 d λc6=>A.ta h c6 d λc7=>A.tb h .lss c7 (jv 1) d λc8=>
 A.c h c8 (.bool false) d λc9=>n [c9] d))) (λd0 d=>A.test (h0 d0) (i (.bool false) d) (A.r Qa x0 d λd1=>A.r (Ya 1) d1 d λd2=>A.a d2 d λd3=>
 A.r (Qn .not) d3 d λe=>A.tr e Xh x0 d λd4=>A.tr e Qa d4 d λd5=>A.tr e (Ya 3) d5 d λd6=>A.ta e d6 d λd7=>A.tr e Xh x0 d λd8=>
 A.tr e Qa d8 d λd9=>A.tr e (Ya 4) d9 d λe0=>A.ta e e0 d λe1=>A.tb e .add d7 e1 d λe2=>A.tr e Xh x0 d λe3=>A.tr e Qa e3 d λe4=>
 A.tr e (Ya 5) e4 d λe5=>A.ta e e5 d λe6=>A.tb e .add e2 e6 d λe7=>A.tr e Xh x0 d λe8=>A.tr e Qa e8 d λe9=>A.tr e (Ya 6) e9 d λf0=>
 A.ta e f0 d λf1=>A.tb e .add e7 f1 d λf2=>A.tr e Xh x0 d λf3=>A.tr e Qa f3 d λf4=>A.tr e (Ya 7) f4 d λf5=>A.ta e f5 d λf6=>
 A.tb e .add f2 f6 d λf7=>A.tb e .gtr f7 (jv 0) d λf8=>A.tr e Xh f8 d λf=>A.fr f Xh x0 d λf9=>A.fr f Qa f9 d λg0=>A.fr f (Ya 9) g0 d λg1=>
 A.fa f g1 d λg2=>A.fr f Xe g2 d λg3=>A.fr f Xh x0 d λg4=>A.fr f Qa g4 d λg5=>A.fr f (Ya 10) g5 d λg6=>A.fa f g6 d λg7=>
 A.fr f Xe g7 d λg8=>A.fb f .add g3 g8 d λg9=>A.fb f .gtr g9 (jv 0) d λi0=>A.tc e f (.bool true) i0 d λi1=>A.c e i1 (.bool false) d λi2=>
 A.test i2 (i (.bool false) d) (A.rd (Xf [.nilmap,.bool false] [(0,1),(1,1)] [x1,.bool true] d) λi3=>A.w1 Qk i3 d λj d=>A.r Qa x0 d λi4=>
 A.r (Ya 8) i4 d λi5=>A.a i5 d λi6=>A.k 157 [j,i6,jv 1] d λi7 d=>A.r (Qn .not) i7 d λi8=>A.test i8 (i (.bool false) d) (A.r Qa j d λi9=>
 A.r (Ya 1) i9 d λj0=>A.ws (Qb 1) j0 (.bool false) d λ_ d=>A.r Qa x0 d λj1=>A.r (Ya 9) j1 d λj2=>A.a j2 d λj3=>
 A.k 157 [j,j3,jv 1] d λg d=>A.tr g Xh j d λj4=>A.tr g Xh x0 d λj5=>A.tr g Qa j5 d λj6=>A.tr g (Ya 10) j6 d λj7=>A.ta g j7 d λj8=>
 A.gw g true (λk=>A.k 157 [j4,j8,jv 1] d k) d λj9 d=>A.c g j9 (.bool false) d λl0=>i l0 d)))))) [jv 0] d
 |_=>A.stop
theorem g221_ok:GQ 221 2 g221:=gq2 [none,some [33],none,none,none,none,some [43],none,none,none,none] λ_ _ _ _ _ _=>by kernel_rfl
def g222:GFun:=λA xs a d=>match xs with
 |[x0,x1]=>
 A.w1 Qk x0 a λb a=>A.r (Xc true 1) b a λe=>A.r (Yp (.func 235) 1) e a λf=>A.r (Xc true 1) b a λg=>A.r (Yp (.func 235) 1) g a λh=>
 A.r (Xc true 1) b a λi=>A.r (Yp (.func 235) 1) i a λj=>A.r (Xc true 1) b a λl=>A.r (Yp (.func 235) 1) l a λm=>A.r (Xc true 1) b a λn=>
 A.r (Yp (.func 236) 1) n a λo=>A.r (Xc true 1) b a λp=>A.r (Yp (.func 237) 1) p a λq=>A.r (Xc true 1) b a λt=>A.r (Yp (.func 236) 1) t a λu=>
 A.r (Xc true 1) b a λv=>A.r (Yp (.func 236) 1) v a λw=>A.r (Xc true 1) b a λy=>A.r (Yp (.func 238) 1) y a λz=>A.rd (Xf [.nilf,.nilf,.nilf,.nilf,.nilf,.nilf,.nilf,.nilf,.nilf] [(0,1),(1,1),(2,1),(3,1),(4,1),(5,1),(6,1),(7,1),(8,1)] [f,h,j,m,o,q,u,w,z] a) λa0=>
 A.wr (Yf [.nilf,.nilf,.nilf,.nilf,.nilf,.nilf,.nilf,.nilf,.nilf] [] a) a λc a=>A.ws (Qb 9) c a0 a λ_ a=>A.s (Yp (.func 240) 0) b c a λa1=>
 A.k 239 [x1,a1] a λa2 a=>A.r (Qn .not) a2 a λa3=>d a3 a
 |_=>A.stop
theorem g222_ok:GQ 222 2 g222:=gq2 [] λ_ _ _ _ _ _=>by kernel_rfl
def g223:GFun:=λA xs a l=>match xs with
 |[x0]=>
 A.k 241 [x0] a λh a=>A.r (Qd 0) h a λi=>A.r (Qd 1) h a λj=>A.b .gtr j (jv 0) a λf=>A.tr f Xh j a λm=>A.tb f .leq m (jv 24) a λn=>
 A.c f n (.bool false) a λd=>A.tr d Xh i a λo=>A.tr d Xh x0 a λp=>A.tr d Zr p a λq=>A.tb d .eql o q a λs=>A.c d s (.bool false) a λg=>
 A.tr g Xh i a λt=>A.tb g .leq t (jv 40) a λu=>A.c g u (.bool false) a λe=>A.tr e Xh x0 a λv=>A.gw e true (λk=>A.k 242 [v] a k) a λw a=>
 A.tr e (Qn .not) w a λy=>A.c e y (.bool false) a λz=>l z a
 |_=>A.stop
theorem g223_ok:GQ 223 1 g223:=gq1 [] λ_ _ _ _ _=>by kernel_rfl
def g224:GFun:=λA xs b d=>match xs with
 |[x0,x1]=>
 A.w1 Qk x0 b λe b=>A.w1 Qk x1 b λf b=>A.r (Ya 0) e b λg=>A.a g b λh=>A.r (Yp (.func 244) 0) f b λi=>A.k 243 [h,i] b λc b=>
 A.r (Qd 0) c b λj=>A.r (Qd 1) c b λl=>A.r (Qd 2) c b λm=>A.wr (Yf [.str [],.bool false,jv 0,jv 0,jv 0,jv 0,jv 0,jv 0,.nils,.nils,.nils,jv 0] [] b) b λn b=>
 A.ws (Qb 12) n j b λ_ b=>d (.tup [l,m]) b
 |_=>A.stop
theorem g224_ok:GQ 224 2 g224:=gq2 [] λ_ _ _ _ _ _=>by kernel_rfl
def g225:GFun:=λA xs d i=>match xs with
 |[x0]=>
 A.w1 Qk x0 d λf d=>A.r (Ya 0) f d λj=>A.a j d λl=>A.b .eql l (.int .i8 0) d λg=>A.tr g (Ya 1) f d λm=>A.ta g m d λn=>
 A.tb g .eql n (jv 0) d λo=>A.c g o (.bool false) d λh=>A.tr h (Ya 2) f d λp=>A.ta h p d λq=>A.tb h .eql q (.int .i8 0) d λs=>A.c h s (.bool false) d λe=>
 A.tr e (Ya 3) f d λt=>A.ta e t d λu=>A.tr e Xe u d λv=>A.tb e .eql v (jv 0) d λw=>A.c e w (.bool false) d λy=>i y d
 |_=>A.stop
theorem g225_ok:GQ 225 1 g225:=gq1 [] λ_ _ _ _ _=>by kernel_rfl
def g226:GFun:=λA xs d h=>match xs with
 |[x0,x1]=>
 A.w1 Qk x1 d λe d=>A.r (Ya 0) e d λv=>A.a v d λw=>A.b .geq w (.int .i8 0) d λj=>A.tr j (Ya 0) e d λy=>A.ta j y d λz=>
 A.tb j .leq z (.int .i8 2) d λt6=>A.c j t6 (.bool false) d λt7=>joinK (λq=>A.test t7 (q [jv 2] d) (q [jv 0] d)) (λv9 d=>A.r (Ya 0) e d λa0=>
 A.a a0 d λa1=>A.b .eql a1 (.int .i8 3) d λa2=>joinK (λt=>A.test a2 (t [jv 1] d) (t [jv 0] d)) (λa3 d=>A.r (Ya 0) e d λa4=>A.a a4 d λa5=>
 A.b .eql a5 (.int .i8 4) d λl=>A.fr l (Ya 0) e d λa6=>A.fa l a6 d λa7=>A.fb l .eql a7 (.int .i8 5) d λa8=>A.c l (.bool true) a8 d λa9=>
 joinK (λu=>A.test a9 (u [jv 2] d) (u [(h0 a3)] d)) (λb0 d=>A.r (Ya 0) e d λb1=>A.a b1 d λb2=>A.b .lss b2 (.int .i8 0) d λm=>A.fr m (Ya 0) e d λb3=>
 A.fa m b3 d λb4=>A.fb m .gtr b4 (.int .i8 6) d λb5=>A.c m (.bool true) b5 d λf=>A.fr f (Ya 3) e d λb6=>A.fa f b6 d λb7=>A.fr f Xe b7 d λb8=>
 A.fr f Xh (h0 v9) d λb9=>A.fb f .neq b8 b9 d λc0=>A.c f (.bool true) c0 d λg=>A.fr g (Ya 4) e d λc1=>A.fa g c1 d λc2=>A.fr g Xe c2 d λc3=>
 A.fr g Xh (h0 b0) d λc4=>A.fb g .neq c3 c4 d λc5=>A.c g (.bool true) c5 d λc6=>A.test c6 (h (.bool false) d) (A.loop (λc7 o d=>A.r (Ya 3) e d λc8=>
 A.a c8 d λc9=>A.r Xe c9 d λd0=>A.b .lss (h0 o) d0 d λd1=>A.test d1 (A.r (Ya 3) e d λd2=>A.a d2 d λd3=>A.s (Yb 4) d3 (h0 o) d λd4=>
 A.r (Xc true 4) d4 d λd5=>A.k 77 [x0,d5] d λd6 d=>A.r (Qn .not) d6 d λd7=>A.test d7 (h (.bool false) d) (A.b .add (h0 o) (jv 1) d λd8=>c7 [d8] d)) (
 A.loop (λd9 p d=>A.r (Ya 4) e d λe0=>A.a e0 d λe1=>A.r Xe e1 d λe2=>A.b .lss (h0 p) e2 d λe3=>A.test e3 (A.r (Ya 4) e d λe4=>
 A.a e4 d λe5=>A.s (Yb 5) e5 (h0 p) d λe6=>A.r (Xc true 5) e6 d λe7=>A.k 226 [x0,e7] d λe8 d=>A.r (Qn .not) e8 d λe9=>A.test e9 (
 h (.bool false) d) (A.b .add (h0 p) (jv 1) d λf0=>d9 [f0] d)) (A.r (Ya 0) e d λf1=>A.a f1 d λf2=>A.b .eql f2 (.int .i8 6) d λf3=>A.test f3 (
 A.r (Ya 1) e d λf4=>A.a f4 d λf5=>A.k 121 [f5] d λi d=>A.tr i Xh x0 d λf6=>A.tr i (Ya 2) e d λf7=>A.ta i f7 d λf8=>A.gw i true (λk=>A.k 228 [f6,f8,.bool false] d k) d λf9 d=>
 A.c i f9 (.bool false) d λg0=>h g0 d) (A.r (Ya 1) e d λg1=>A.a g1 d λg2=>A.b .eql g2 (.int .i8 0) d λn=>A.tr n (Ya 2) e d λg3=>
 A.ta n g3 d λg4=>A.got n (Yh .eql false [g4,.str []] d) λg5=>A.c n g5 (.bool false) d λg6=>h g6 d))) [jv 0] d)) [jv 0] d))))
 |_=>A.stop
theorem g226_ok:GQ 226 2 g226:=gq2 [some [5],some [6],some [6],none,none,some [7],none,none,none,none,some [8],none,none,none,none] λ_ _ _ _ _ _=>by kernel_rfl
def g227:GFun:=λA xs d j=>match xs with
 |[x0]=>
 A.w1 Qk x0 d λe d=>A.r (Ya 0) e d λl=>A.a l d λm=>A.b .eql m (.int .i8 0) d λh=>A.tr h (Ya 1) e d λn=>A.ta h n d λo=>
 A.tb h .eql o (.int .i8 0) d λp=>A.c h p (.bool false) d λi=>A.tr i (Ya 2) e d λq=>A.ta i q d λs=>A.got i (Yh .eql false [s,.str []] d) λt=>
 A.c i t (.bool false) d λf=>A.tr f (Ya 3) e d λu=>A.ta f u d λv=>A.tr f Xe v d λw=>A.tb f .eql w (jv 0) d λy=>A.c f y (.bool false) d λg=>
 A.tr g (Ya 4) e d λz=>A.ta g z d λa0=>A.tr g Xe a0 d λa1=>A.tb g .eql a1 (jv 0) d λa2=>A.c g a2 (.bool false) d λa3=>j a3 d
 |_=>A.stop
theorem g227_ok:GQ 227 1 g227:=gq1 [] λ_ _ _ _ _=>by kernel_rfl
def g228:GFun:=λA xs d g=>match xs with
 |[x0,x1,x2]=>
 A.loop (λh e d=>A.r Qa x0 d λi=>A.r (Ya 0) i d λj=>A.a j d λl=>A.r Xe l d λm=>A.b .lss (h0 e) m d λn=>A.test n (A.r Qa x0 d λo=>
 A.r (Ya 0) o d λp=>A.a p d λq=>A.s (Yb 12) q (h0 e) d λt=>A.r (Ya 0) t d λu=>A.a u d λv=>A.b .eql v x1 d λw=>A.test w (
 A.r Qa x0 d λy=>A.r (Ya 0) y d λz=>A.a z d λa0=>A.s (Yb 12) a0 (h0 e) d λa1=>A.r (Ya 1) a1 d λa2=>A.a a2 d λf=>
 A.fr f Xh x2 d λa3=>A.fr f (Qn .not) a3 d λa4=>A.c f (.bool true) a4 d λa5=>g a5 d) (A.b .add (h0 e) (jv 1) d λa6=>h [a6] d)) (g (.bool false) d)) [jv 0] d
 |_=>A.stop
theorem g228_ok:GQ 228 3 g228:=gq3 [none,some [7],none,none,none] λ_ _ _ _ _ _ _=>by kernel_rfl
def g229:GFun:=λA xs a b=>match xs with
 |[]=>
 A.wr (Qh 1 41 [.str [],.str [],.str [],.str [],.str [],.str [],.str [],.str [],.str [],.str [],.str [],.str [],.str [],.str [],.str [],.str [],.str [],.str [],.str [],.str [],.str [],.str [],.str [],.str [],.str [],.str [],.str [],.str [],.str [],.str [],.str [],.str [],.str [],.str [],.str [],.str [],.str [],.str [],.str [],.str [],.str []] [(0,1),(1,1),(2,1),(3,1),(4,1),(5,1),(6,1),(7,1),(8,1),(9,1),(10,1),(11,1),(12,1),(13,1),(14,1),(15,1),(16,1),(17,1),(18,1),(19,1),(20,1),(21,1),(22,1),(23,1),(24,1),(25,1),(26,1),(27,1),(28,1),(29,1),(30,1),(31,1),(32,1),(33,1),(34,1),(35,1),(36,1),(37,1),(38,1),(39,1),(40,1)] [(.str [99,97,114,100]),(.str [117,110,105,116]),(.str [99,104,97,114,109]),(.str [102,111,114,109,97,116]),(.str [112,108,97,121,101,100]),(.str [100,101,97,100]),(.str [100,97,119,110]),(.str [97,117,114,97]),(.str [115,104,105,101,108,100]),(.str [104,97,114,109]),(.str [109,101,110,100]),(.str [100,114,97,119]),(.str [103,97,105,110]),(.str [100,114,111,112]),(.str [108,111,111,107]),(.str [115,104,111,119]),(.str [115,117,109,109,111,110]),(.str [105,102]),(.str [101,108,115,101]),(.str [109,101]),(.str [102,111,101]),(.str [116,97,114,103,101,116]),(.str [108,105,102,101]),(.str [104,97,110,100]),(.str [100,101,99,107]),(.str [117,110,105,116,115]),(.str [109,97,110,97]),(.str [99,111,115,116]),(.str [116,111,112]),(.str [112,111,119,101,114]),(.str [109,105,110]),(.str [109,97,120]),(.str [110,111,116]),(.str [97,110,100]),(.str [111,114]),(.str [104,111,108,100,115]),(.str [108,101,97,115,116]),(.str [109,111,115,116]),(.str [99,111,112,105,101,115]),(.str [98,97,110,110,101,100]),(.str [115,105,110,103,108,101])] a) a λc a=>
 b c a
 |_=>A.stop
theorem g229_ok:GQ 229 0 g229:=gq0 [] λ_ _ _ _=>by kernel_rfl
def g230:GFun:=λA xs a e=>match xs with
 |[x0]=>
 A.wr (Yf [.int .i8 0,.int .i8 0,.int .i8 0,jv 0,.int .i8 0,.nils,.str [],.int .i8 0,.int .i8 0,.str [],.nils,.nils,.nils,.nils] [] a) a λd a=>
 A.rd (Xf [.int .i8 0,.int .i8 0,.int .i8 0,jv 0,.int .i8 0,.nils,.str [],.int .i8 0,.int .i8 0,.str [],.nils,.nils,.nils,.nils] [] [] a) λf=>
 A.wr (Yf [.int .i8 0,.int .i8 0,.int .i8 0,jv 0,.int .i8 0,.nils,.str [],.int .i8 0,.int .i8 0,.str [],.nils,.nils,.nils,.nils] [] a) a λb a=>
 A.ws (Qb 14) b f a λ_ a=>joinK (λc=>A.k 201 [x0,(.str [104,97,114,109])] a λg a=>A.test g (A.r (Ya 0) b a λh=>A.ws (Qb 1) h (.int .i8 0) a λ_ a=>
 A.k 245 [x0,.bool true] a λi a=>A.r (Ya 1) b a λj=>A.ws (Qb 1) j i a λ_ a=>A.k 246 [x0] a λl a=>A.r (Ya 2) b a λm=>
 A.ws (Qb 4) m l a λ_ a=>c [] a) (A.k 201 [x0,(.str [109,101,110,100])] a λn a=>A.test n (A.r (Ya 0) b a λo=>A.ws (Qb 1) o (.int .i8 1) a λ_ a=>
 A.k 245 [x0,.bool true] a λp a=>A.r (Ya 1) b a λq=>A.ws (Qb 1) q p a λ_ a=>A.k 246 [x0] a λs a=>A.r (Ya 2) b a λt=>
 A.ws (Qb 4) t s a λ_ a=>c [] a) (A.k 201 [x0,(.str [100,114,97,119])] a λu a=>A.test u (A.r (Ya 0) b a λv=>A.ws (Qb 1) v (.int .i8 2) a λ_ a=>
 A.k 245 [x0,.bool false] a λw a=>A.r (Ya 1) b a λy=>A.ws (Qb 1) y w a λ_ a=>A.k 246 [x0] a λz a=>A.r (Ya 2) b a λa0=>
 A.ws (Qb 4) a0 z a λ_ a=>c [] a) (A.k 201 [x0,(.str [103,97,105,110])] a λa1 a=>A.test a1 (A.r (Ya 0) b a λa2=>A.ws (Qb 1) a2 (.int .i8 3) a λ_ a=>
 A.k 246 [x0] a λa3 a=>A.r (Ya 2) b a λa4=>A.ws (Qb 4) a4 a3 a λ_ a=>c [] a) (A.k 201 [x0,(.str [100,114,111,112])] a λa5 a=>A.test a5 (
 A.r (Ya 0) b a λa6=>A.ws (Qb 1) a6 (.int .i8 4) a λ_ a=>A.k 245 [x0,.bool false] a λa7 a=>A.r (Ya 1) b a λa8=>A.ws (Qb 1) a8 a7 a λ_ a=>
 c [] a) (A.k 201 [x0,(.str [115,104,111,119])] a λa9 a=>A.test a9 (A.r (Ya 0) b a λb0=>A.ws (Qb 1) b0 (.int .i8 6) a λ_ a=>A.k 245 [x0,.bool false] a λb1 a=>
 A.r (Ya 1) b a λb2=>A.ws (Qb 1) b2 b1 a λ_ a=>c [] a) (A.k 201 [x0,(.str [108,111,111,107])] a λb3 a=>A.test b3 (A.r (Ya 0) b a λb4=>
 A.ws (Qb 1) b4 (.int .i8 5) a λ_ a=>A.k 246 [x0] a λb5 a=>A.r (Ya 2) b a λb6=>A.ws (Qb 4) b6 b5 a λ_ a=>c [] a) (A.k 201 [x0,(.str [115,117,109,109,111,110])] a λb7 a=>
 A.test b7 (A.r (Ya 0) b a λb8=>A.ws (Qb 1) b8 (.int .i8 7) a λ_ a=>A.k 200 [x0] a λb9 a=>A.r (Ya 6) b a λc0=>A.ws (Qb 1) c0 b9 a λ_ a=>
 c [] a) (A.k 151 [x0,(.str [105,102])] a λc1 a=>A.test c1 (A.k 247 [x0] a λd1 a=>A.k 203 [x0,(.str [105,102])] a λd2 a=>A.r (Ya 0) b a λc2=>
 A.ws (Qb 1) c2 (.int .i8 8) a λ_ a=>A.k 248 [x0] a λc3 a=>A.r (Ya 7) b a λc4=>A.ws (Qb 5) c4 c3 a λ_ a=>A.k 205 [x0] a λc5 a=>
 A.r (Ya 12) b a λc6=>A.ws (Qb 1) c6 c5 a λ_ a=>A.k 203 [x0,(.str [101,108,115,101])] a λd3 a=>A.k 205 [x0] a λc7 a=>A.r (Ya 13) b a λc8=>
 A.ws (Qb 1) c8 c7 a λ_ a=>A.k 249 [x0] a λd4 a=>A.r (Xc true 14) b a λc9=>A.ws (Qb 14) d c9 a λ_ a=>A.opt (cellV true 14 d a) λr56=>
 e r56 a) (A.k 152 [x0,jv 120] a λd5 a=>c [] a)))))))))) (λv4 a=>A.k 203 [x0,(.str [59])] a λd6 a=>A.r (Xc true 14) b a λd0=>A.ws (Qb 14) d d0 a λ_ a=>
 A.opt (cellV true 14 d a) λr60=>e r60 a)
 |_=>A.stop
theorem g230_ok:GQ 230 1 g230:=gq1 [some [],none,none,none,none,none,none,none,none,none] λ_ _ _ _ _=>by kernel_rfl
def g231:GFun:=λA xs c f=>match xs with
 |[x0]=>
 A.w1 Qk x0 c λe c=>A.loop (λg d c=>A.r (Ya 3) e c λh=>A.a h c λi=>A.r Xe i c λj=>A.b .lss (h0 d) j c λl=>A.test l (A.r (Ya 3) e c λm=>
 A.a m c λn=>A.s (Yb 4) n (h0 d) c λo=>A.r (Xc true 4) o c λp=>A.k 231 [p] c λq c=>A.b .add (h1 d) q c λt=>A.b .add (h0 d) (jv 1) c λu=>
 g [u,t] c) (f (h1 d) c)) [jv 0,jv 1] c
 |_=>A.stop
theorem g231_ok:GQ 231 1 g231:=gq1 [none,some [4,3],none,none] λ_ _ _ _ _=>by kernel_rfl
def g232:GFun:=λA xs c g=>match xs with
 |[x0]=>
 A.w1 Qk x0 c λf c=>A.loop (λh d c=>A.r (Ya 3) f c λi=>A.a i c λj=>A.r Xe j c λl=>A.b .lss (h0 d) l c λm=>A.test m (A.r (Ya 3) f c λn=>
 A.a n c λo=>A.s (Yb 4) o (h0 d) c λp=>A.r (Xc true 4) p c λq=>A.k 231 [q] c λt c=>A.b .add (h1 d) t c λu=>A.b .add (h0 d) (jv 1) c λv=>
 h [v,u] c) (A.loop (λw e c=>A.r (Ya 4) f c λy=>A.a y c λz=>A.r Xe z c λa0=>A.b .lss (h0 e) a0 c λa1=>A.test a1 (A.r (Ya 4) f c λa2=>
 A.a a2 c λa3=>A.s (Yb 5) a3 (h0 e) c λa4=>A.r (Xc true 5) a4 c λa5=>A.k 232 [a5] c λa6 c=>A.b .add (h1 e) a6 c λa7=>A.b .add (h0 e) (jv 1) c λa8=>
 w [a8,a7] c) (g (h1 e) c)) [jv 0,(h1 d)] c)) [jv 0,jv 1] c
 |_=>A.stop
theorem g232_ok:GQ 232 1 g232:=gq1 [none,some [4,3],none,none,none,some [5,3],none,none] λ_ _ _ _ _=>by kernel_rfl
def g233:GFun:=λA xs b o=>match xs with
 |[x0,x1]=>
 A.r (XR 272 true (.agg [.nilp])) x0 b λi=>A.r (Qd 0) i b λp=>A.r (Qd 1) i b λq=>A.wr (Yf [.nilp] [] b) b λh b=>A.ws (Qb 1) h p b λ_ b=>
 joinK (λj=>A.test q (A.a x1 b λd=>A.fr d (Ya 0) h b λs=>A.fa d s b λt=>A.fr d Qa t b λu=>A.fr d (Ya 1) u b λv=>
 A.fa d v b λw=>A.fb d .eql w (.int .i8 2) b λy=>A.fr d Xh y b λe=>A.tr e (Ya 0) h b λz=>A.ta e z b λa0=>A.tr e Qa a0 b λa1=>
 A.tr e (Ya 0) a1 b λa2=>A.ta e a2 b λa3=>A.tb e .eql a3 (.int .i8 0) b λa4=>A.tr e Xh a4 b λf=>A.fr f (Ya 0) h b λa5=>A.fa f a5 b λa6=>
 A.fr f Qa a6 b λa7=>A.fr f (Ya 0) a7 b λa8=>A.fa f a8 b λa9=>A.fb f .eql a9 (.int .i8 1) b λb0=>A.tc e f (.bool true) b0 b λb1=>
 A.fc d e b1 (.bool false) b λb2=>A.c d (.bool true) b2 b λb3=>A.ws (Qb 1) x1 b3 b λ_ b=>j [] b) (j [] b)) (λv5 b=>A.r (XR 290 true (.agg [.nilp])) x0 b λl=>
 A.r (Qd 0) l b λb4=>A.r (Qd 1) l b λb5=>A.wr (Yf [.nilp] [] b) b λm b=>A.ws (Qb 1) m b4 b λ_ b=>joinK (λn=>A.test b5 (
 A.a x1 b λg=>A.fr g (Ya 0) m b λb6=>A.fa g b6 b λb7=>A.fr g Qa b7 b λb8=>A.fr g (Ya 0) b8 b λb9=>A.fa g b9 b λc0=>
 A.fb g .eql c0 (.int .i8 7) b λc1=>A.c g (.bool true) c1 b λc2=>A.ws (Qb 1) x1 c2 b λ_ b=>n [] b) (n [] b)) (λc5 b=>A.a x1 b λc3=>A.r (Qn .not) c3 b λc4=>
 o c4 b))
 |_=>A.stop
theorem g233_ok:GQ 233 2 g233:=gq2 [some [],some []] λ_ _ _ _ _ _=>by kernel_rfl
def g234:GFun:=λA xs c d=>match xs with
 |[x0,x1,x2,x3]=>
 A.dr (Yb 1 [x0,x2] c) c λe f c=>A.dr (Ye [e] c) c λg h c=>A.dr (Yb 1 [x0,x1] c) c λi j c=>A.dr (Ye [i] c) c λl m c=>
 A.dcall (.call 169) [g,l] c λn o c=>A.gd (Xg [[],[],[0,1],[0,1,2],[],[],[4,5],[4,5,6],[0,1,2,3,4,5,6,7]] [([],[]),([],[]),f,h,([],[]),([],[]),j,m,o]) <|
 A.test n (A.r Qa x3 c λp=>A.a p c λq=>A.b .add q (jv 1) c λs=>A.r Qa x3 c λt=>A.ws (Qb 1) t s c λ_ c=>d (.tup [x2,x1]) c) (
 d (.tup [x1,x2]) c)
 |_=>A.stop
theorem g234_ok:GQ 234 4 g234:=gq4 [none] λ_ _ _ _ _ _ _ _=>by kernel_rfl
def g235:GFun:=λA xs a b=>match xs with
 |[x0,x1]=>
 A.w1 Qk x0 a λc a=>A.w1 Qk x1 a λd a=>A.pu (Ya 0 [c] a) λe=>A.dr (Ye [e] a) a λf g a=>A.pu (Ya 2 [d] a) λh=>A.dr (Xc true 4 [h] a) a λi j a=>
 A.dcall (.call 251) [i] a λl m a=>A.dcall (.call 250) [f,l] a λn o a=>A.pu (Yh .eql false [n,.int .i8 0] a) λp=>A.gd (Xg [[],[0],[],[2],[2,3],[0,1,2,3,4],[0,1,2,3,4,5],[0,1,2,3,4,5,6]] [([],[]),g,([],[]),j,m,o,([],[]),([],[])]) <|
 b p a
 |_=>A.stop
theorem g235_ok:GQ 235 2 g235:=gq2 [] λ_ _ _ _ _ _=>by kernel_rfl
def g236:GFun:=λA xs c d=>match xs with
 |[x0,x1]=>
 A.w1 Qk x0 c λe c=>A.w1 Qk x1 c λj c=>A.r (Ya 0) e c λf=>A.a f c λg=>A.k 252 [g] c λh c=>A.b .eql h (.int .i8 0) c λi=>d i c
 |_=>A.stop
theorem g236_ok:GQ 236 2 g236:=gq2 [] λ_ _ _ _ _ _=>by kernel_rfl
def g237:GFun:=λA xs a b=>match xs with
 |[x0,x1]=>
 A.w1 Qk x0 a λc a=>A.w1 Qk x1 a λd a=>A.pu (Ya 0 [c] a) λe=>A.dr (Ye [e] a) a λf g a=>A.pu (Ya 2 [d] a) λh=>A.dr (Xc true 4 [h] a) a λi j a=>
 A.dcall (.call 251) [i] a λl m a=>A.dcall (.call 250) [f,l] a λn o a=>A.dcall (.call 253) [n,.int .i8 1] a λp q a=>A.gd (Xg [[],[0],[],[2],[2,3],[0,1,2,3,4],[0,1,2,3,4,5],[0,1,2,3,4,5,6]] [([],[]),g,([],[]),j,m,o,q,([],[])]) <|
 b p a
 |_=>A.stop
theorem g237_ok:GQ 237 2 g237:=gq2 [] λ_ _ _ _ _ _=>by kernel_rfl
def g238:GFun:=λA xs b g=>match xs with
 |[x0,x1]=>
 A.w1 Qk x0 b λh b=>A.w1 Qk x1 b λe b=>A.pu (Ya 0 [h] b) λi=>A.dr (Ye [i] b) b λj l b=>A.pu (Ya 7 [e] b) λm=>A.dr (Xc true 5 [m] b) b λn o b=>
 A.dcall (.call 254) [n] b λp q b=>A.dcall (.call 250) [j,p] b λs t b=>A.pu (Xf [.int .i8 0] [(0,1)] [s] b) λu=>A.dr (Yf [.int .i8 0] [] b) b λf v b=>
 A.dr (Qb 1 [f,u] b) b λ_ w b=>A.gd (Xg [[],[0],[],[2],[2,3],[0,1,2,3,4],[0,1,2,3,4,5],[],[0,1,2,3,4,5,6,7]] [([],[]),l,([],[]),o,q,t,([],[]),v,w]) <|
 A.r (Xc true 1) f b λy=>A.r (Ya 12) e b λz=>A.a z b λa0=>A.k 222 [y,a0] b λd b=>A.tr d (Xc true 1) f b λa1=>A.tr d (Ya 13) e b λa2=>
 A.ta d a2 b λa3=>A.gw d true (λk=>A.k 222 [a1,a3] b k) b λa4 b=>A.c d a4 (.bool false) b λa5=>g a5 b
 |_=>A.stop
theorem g238_ok:GQ 238 2 g238:=gq2 [] λ_ _ _ _ _ _=>by kernel_rfl
def g239:GFun:=λA xs a c=>match xs with
 |[x0,x1]=>
 A.k 255 [x0,x1] a λd a=>A.b .geq d (jv 0) a λe=>c e a
 |_=>A.stop
theorem g239_ok:GQ 239 2 g239:=gq2 [] λ_ _ _ _ _ _=>by kernel_rfl
def g240:GFun:=λA xs d h=>match xs with
 |[x0,x1,x2]=>
 A.w1 Qk x0 d λf d=>A.r (Xc true 1) x1 d λi=>A.r (Yp (.func 236) 1) i d λj=>A.r (Ya 0) f d λl=>A.a l d λm=>A.b .geq m (.int .i8 0) d λe=>
 A.tr e (Ya 0) f d λn=>A.ta e n d λo=>A.tr e (XH .i64) o d λp=>A.tb e .lss p (jv 9) d λq=>A.c e q (.bool false) d λt=>joinK (λg=>
 A.test t (A.r (Ya 0) f d λu=>A.a u d λv=>A.s (Qg 9 1) x2 v d λw=>A.a w d λy=>g [y] d) (g [j] d)) (λz d=>A.r (Xc true 14) f d λa0=>
 A.call .callv [(h0 z),a0] d λa1 d=>A.r (Qn .not) a1 d λa2=>h a2 d)
 |_=>A.stop
theorem g240_ok:GQ 240 3 g240:=gq3 [some [5]] λ_ _ _ _ _ _ _=>by kernel_rfl
def g241:GFun:=λA xs a j=>match xs with
 |[x0]=>
 A.w1 Ybe x0 a λm a=>A.loop (λn f a=>A.w1 QaU m a λg a=>A.r (Qd 0) g a λo=>A.test o (A.r (Qd 1) g a λl=>A.r (Qd 2) g a λh=>
 A.k 256 [h] a λp a=>A.r (Qn .not) p a λe=>A.tr e Xh l a λq=>A.tb e .eql q (jv 0) a λs=>A.tr e Xh s a λd=>A.fr d Xh h a λt=>A.gw d false (λk=>A.k 257 [t] a k) a λu a=>
 A.fr d (Qn .not) u a λv=>A.fr d Xh v a λi=>A.tr i Xh h a λw=>A.tb i .neq w (.int .i32 39) a λy=>A.fc d i y (.bool false) a λz=>A.tc e d (.bool true) z a λa0=>
 A.c e a0 (.bool false) a λa1=>A.test a1 (j (.tup [l,(h0 f)]) a) (A.b .add (h0 f) (jv 1) a λa2=>n [a2] a)) (A.r Zr x0 a λa3=>j (.tup [a3,(h0 f)]) a)) [jv 0] a
 |_=>A.stop
theorem g241_ok:GQ 241 1 g241:=gq1 [none,some [3],none,none,none] λ_ _ _ _ _=>by kernel_rfl
def g242:GFun:=λA xs a b=>match xs with
 |[x0]=>
 A.k 258 [] a λc a=>A.s (Yo true false (.bool false)) c x0 a λd=>b d a
 |_=>A.stop
theorem g242_ok:GQ 242 1 g242:=gq1 [] λ_ _ _ _ _=>by kernel_rfl
def g243:GFun:=λA xs a e=>match xs with
 |[x0,x1]=>
 A.wr (Yf [.str [],.bool false,jv 0,jv 0,jv 0,jv 0,jv 0,jv 0,.nils,.nils,.nils,jv 0] [] a) a λc a=>A.k 259 [x0,x1] a λd a=>
 A.b .lss d (jv 0) a λf=>A.test f (A.r (Xc true 12) c a λg=>A.ws (Qb 12) c g a λ_ a=>A.opt (cellV true 12 c a) λr4=>e (.tup [r4,jv 0,.bool false]) a) (
 A.s (Yb 12) x0 d a λh=>A.r (Xc true 12) h a λi=>A.ws (Qb 12) c i a λ_ a=>A.opt (cellV true 12 c a) λr7=>e (.tup [r7,d,.bool true]) a)
 |_=>A.stop
theorem g243_ok:GQ 243 2 g243:=gq2 [none] λ_ _ _ _ _ _=>by kernel_rfl
def g244:GFun:=λA xs c d=>match xs with
 |[x0,x1]=>
 A.w1 Qk x0 c λe c=>A.r (Ya 0) e c λf=>A.a f c λg=>A.a x1 c λh=>A.b .eql g h c λi=>d i c
 |_=>A.stop
theorem g244_ok:GQ 244 2 g244:=gq2 [] λ_ _ _ _ _ _=>by kernel_rfl
def g245:GFun:=λA xs a b=>match xs with
 |[x0,x1]=>
 A.k 201 [x0,(.str [109,101])] a λd a=>A.test d (b (.int .i8 0) a) (A.k 201 [x0,(.str [102,111,101])] a λe a=>A.test e (b (.int .i8 1) a) (A.tr x1 Xh x0 a λf=>
 A.gw x1 true (λk=>A.k 201 [f,(.str [116,97,114,103,101,116])] a k) a λg a=>A.c x1 g (.bool false) a λh=>A.test h (b (.int .i8 2) a) (A.k 152 [x0,jv 120] a λi a=>
 b (.int .i8 0) a)))
 |_=>A.stop
theorem g245_ok:GQ 245 2 g245:=gq2 [none,none,none,none] λ_ _ _ _ _ _=>by kernel_rfl
def g246:GFun:=λA xs a i=>match xs with
 |[x0]=>
 A.wr (Yf zq3 [] a) a λe a=>A.k 260 [x0] a λj a=>A.wr (Yf zq3 [] a) a λb a=>A.ws (Qb 4) b j a λ_ a=>joinK (λf=>A.loop (λl v6 a=>
 A.k 150 [x0] a λm a=>A.test m (A.k 151 [x0,(.str [45])] a λn a=>joinK (λg=>A.test n (g [.int .i8 9] a) (g [.int .i8 8] a)) (λo a=>A.k 201 [x0,(.str [43])] a λp a=>
 A.r (Qn .not) p a λd=>A.tr d Xh x0 a λq=>A.gw d true (λk=>A.k 201 [q,(.str [45])] a k) a λs a=>A.tr d (Qn .not) s a λt=>A.c d t (.bool false) a λu=>
 A.test u (f [] a) (A.k 260 [x0] a λv a=>A.wr (Yf zq3 [] a) a λh a=>A.ws (Qb 4) h v a λ_ a=>A.r (Xc true 4) b a λw=>A.r (Xc true 4) h a λy=>
 A.k 261 [(h0 o),w,y] a λz a=>A.ws (Qb 4) b z a λ_ a=>l [] a))) (f [] a)) [] a) (λv4 a=>A.r (Xc true 4) b a λa0=>A.ws (Qb 4) e a0 a λ_ a=>
 A.opt (cellV true 4 e a) λr23=>i r23 a)
 |_=>A.stop
theorem g246_ok:GQ 246 1 g246:=gq1 [some [],some [],none,none,some [4],none] λ_ _ _ _ _=>by kernel_rfl
def g247:GFun:=λA xs c d=>match xs with
 |[x0]=>
 A.r Qa x0 c λe=>A.r (Ya 2) e c λf=>A.a f c λg=>A.b .add g (jv 1) c λh=>A.r Qa x0 c λi=>A.r (Ya 2) i c λj=>
 A.ws (Qb 1) j h c λ_ c=>A.r Qa x0 c λl=>A.r (Ya 2) l c λm=>A.a m c λn=>A.b .gtr n (jv 8) c λo=>A.test o (A.k 152 [x0,jv 121] c λp c=>
 d (.tup []) c) (d (.tup []) c)
 |_=>A.stop
theorem g247_ok:GQ 247 1 g247:=gq1 [none] λ_ _ _ _ _=>by kernel_rfl
def g248:GFun:=λA xs a e=>match xs with
 |[x0]=>
 A.wr (Yf [.int .i8 0,.int .i8 0,.str [],.nils,.nils] [] a) a λc a=>A.k 262 [x0] a λf a=>A.wr (Yf [.int .i8 0,.int .i8 0,.str [],.nils,.nils] [] a) a λb a=>
 A.ws (Qb 5) b f a λ_ a=>A.loop (λg p a=>A.k 201 [x0,(.str [111,114])] a λh a=>A.test h (A.k 262 [x0] a λi a=>A.wr (Yf [.int .i8 0,.int .i8 0,.str [],.nils,.nils] [] a) a λd a=>
 A.ws (Qb 5) d i a λ_ a=>A.r (Xc true 5) b a λj=>A.r (Xc true 5) d a λl=>A.wr (Qh 5 2 [.int .i8 0,.int .i8 0,.str [],.nils,.nils,.int .i8 0,.int .i8 0,.str [],.nils,.nils] [(0,5),(5,5)] [j,l] a) a λm a=>
 A.rd (Xf [.int .i8 0,.int .i8 0,.str [],.nils,.nils] [(0,1),(4,1)] [.int .i8 5,m] a) λn=>A.ws (Qb 5) b n a λ_ a=>g [] a) (A.r (Xc true 5) b a λo=>
 A.ws (Qb 5) c o a λ_ a=>A.opt (cellV true 5 c a) λr13=>e r13 a)) [] a
 |_=>A.stop
theorem g248_ok:GQ 248 1 g248:=gq1 [none,some [],none,none] λ_ _ _ _ _=>by kernel_rfl
def g249:GFun:=λA xs c d=>match xs with
 |[x0]=>
 A.r Qa x0 c λe=>A.r (Ya 2) e c λf=>A.a f c λg=>A.b .sub g (jv 1) c λh=>A.r Qa x0 c λi=>A.r (Ya 2) i c λj=>
 A.ws (Qb 1) j h c λ_ c=>d (.tup []) c
 |_=>A.stop
theorem g249_ok:GQ 249 1 g249:=gq1 [] λ_ _ _ _ _=>by kernel_rfl
def g250:GFun:=λA xs a b=>match xs with
 |[x0,x1]=>
 A.dcall (.call 263) [] a λc d a=>A.dcall (.call 252) [x0] a λe f a=>A.pu (Q0 true 4 4 [c,e] a) λg=>A.dcall (.call 252) [x1] a λh i a=>A.pu (Q0 false 4 1 [g,h] a) λj=>
 A.gd (Xg [[],[],[0,1],[0,1,2],[],[0,1,2,4],[0,1,2,3,4,5],[0,1,2,3,4,5,6]] [d,([],[]),f,([],[]),([],[]),i,([],[]),([],[])]) <|
 b j a
 |_=>A.stop
theorem g250_ok:GQ 250 2 g250:=gq2 [] λ_ _ _ _ _ _=>by kernel_rfl
def g251:GFun:=λA xs d h=>match xs with
 |[x0]=>
 A.w1 Qk x0 d λf d=>A.r (Ya 0) f d λl=>A.a l d λm=>A.b .eql m (.int .i8 6) d λn=>A.test n (h (.int .i8 3) d) (A.r (Ya 0) f d λo=>
 A.a o d λp=>A.b .geq p (.int .i8 8) d λg=>A.tr g (Ya 0) f d λq=>A.ta g q d λt=>A.tb g .leq t (.int .i8 12) d λu=>A.c g u (.bool false) d λv=>
 A.test v (A.r (Ya 3) f d λw=>A.a w d λi=>A.r Xe i d λy=>A.loop (λz e d=>A.b .lss (h0 e) y d λa0=>A.test a0 (A.s (Yb 4) i (h0 e) d λa1=>
 A.r (Xc true 4) a1 d λa2=>A.wr (Yf zq3 [] d) d λj d=>A.ws (Qb 4) j a2 d λ_ d=>A.r (Xc true 4) j d λa3=>A.k 251 [a3] d λa4 d=>
 A.k 250 [(h1 e),a4] d λa5 d=>A.b .add (h0 e) (jv 1) d λa6=>z [a6,a5] d) (h (h1 e) d)) [jv 0,.int .i8 0] d) (h (.int .i8 0) d))
 |_=>A.stop
theorem g251_ok:GQ 251 1 g251:=gq1 [none,none,none,none,some [22,3],none,none] λ_ _ _ _ _=>by kernel_rfl
def g252:GFun:=λA xs a e=>match xs with
 |[x0]=>
 A.b .lss x0 (.int .i8 0) a λd=>A.fr d Xh x0 a λf=>A.fb d .gtr f (.int .i8 3) a λg=>A.c d (.bool true) g a λh=>A.test h (e (.int .i8 3) a) (e x0 a)
 |_=>A.stop
theorem g252_ok:GQ 252 1 g252:=gq1 [none] λ_ _ _ _ _=>by kernel_rfl
def g253:GFun:=λA xs a c=>match xs with
 |[x0,x1]=>
 A.k 250 [x0,x1] a λd a=>A.k 252 [x1] a λe a=>A.b .eql d e a λf=>c f a
 |_=>A.stop
theorem g253_ok:GQ 253 2 g253:=gq2 [] λ_ _ _ _ _ _=>by kernel_rfl
def g254:GFun:=λA xs c f=>match xs with
 |[x0]=>
 A.w1 Qk x0 c λg c=>A.r (Ya 0) g c λn=>A.a n c λo=>A.b .eql o (.int .i8 6) c λp=>A.test p (A.r (Ya 1) g c λq=>A.a q c λh=>
 A.b .eql h (.int .i8 0) c λt=>A.test t (f (.int .i8 1) c) (A.b .eql h (.int .i8 1) c λu=>A.test u (f (.int .i8 2) c) (f (.int .i8 3) c))) (A.r (Ya 3) g c λv=>
 A.a v c λi=>A.r Xe i c λw=>A.loop (λy d c=>A.b .lss (h0 d) w c λz=>A.test z (A.s (Yb 4) i (h0 d) c λa0=>A.r (Xc true 4) a0 c λa1=>
 A.wr (Yf zq3 [] c) c λj c=>A.ws (Qb 4) j a1 c λ_ c=>A.r (Xc true 4) j c λa2=>A.k 251 [a2] c λa3 c=>A.k 250 [(h1 d),a3] c λa4 c=>
 A.b .add (h0 d) (jv 1) c λa5=>y [a5,a4] c) (A.r (Ya 4) g c λa6=>A.a a6 c λl=>A.r Xe l c λa7=>A.loop (λa8 e c=>A.b .lss (h0 e) a7 c λa9=>
 A.test a9 (A.s (Yb 5) l (h0 e) c λb0=>A.r (Xc true 5) b0 c λb1=>A.wr (Yf [.int .i8 0,.int .i8 0,.str [],.nils,.nils] [] c) c λm c=>
 A.ws (Qb 5) m b1 c λ_ c=>A.r (Xc true 5) m c λb2=>A.k 254 [b2] c λb3 c=>A.k 250 [(h1 e),b3] c λb4 c=>A.b .add (h0 e) (jv 1) c λb5=>
 a8 [b5,b4] c) (f (h1 e) c)) [jv 0,(h1 d)] c)) [jv 0,.int .i8 0] c)
 |_=>A.stop
theorem g254_ok:GQ 254 1 g254:=gq1 [none,none,none,none,none,some [20,3],none,none,none,some [32,3],none,none] λ_ _ _ _ _=>by kernel_rfl
def g255:GFun:=λA xs a d=>match xs with
 |[x0,x1]=>
 A.r Xe x0 a λe=>A.loop (λf c a=>A.b .lss (h0 c) e a λg=>A.test g (A.s (Yb 14) x0 (h0 c) a λh=>A.r (Xc true 14) h a λi=>A.call .callv [x1,i] a λj a=>
 A.test j (d (h0 c) a) (A.b .add (h0 c) (jv 1) a λl=>f [l] a)) (d (jv (-1)) a)) [jv 0] a
 |_=>A.stop
theorem g255_ok:GQ 255 2 g255:=gq2 [none,some [8],none,none,none] λ_ _ _ _ _ _=>by kernel_rfl
def g256:GFun:=λA xs a d=>match xs with
 |[x0]=>
 A.b .geq x0 (.int .i32 97) a λe=>A.tr e Xh x0 a λm=>A.tb e .leq m (.int .i32 122) a λn=>A.c e n (.bool false) a λh=>joinK (λi=>A.test h (i [h] a) (
 A.b .geq x0 (.int .i32 65) a λf=>A.tr f Xh x0 a λo=>A.tb f .leq o (.int .i32 90) a λp=>A.c f p (.bool false) a λq=>i [q] a)) (λr a=>A.test (h0 r) (
 d (.bool true) a) (A.b .eql x0 (.int .i32 215) a λj=>joinK (λl=>A.test j (l [j] a) (A.b .eql x0 (.int .i32 247) a λs=>l [s] a)) (λt a=>A.test (h0 t) (
 d (.bool false) a) (A.b .geq x0 (.int .i32 192) a λg=>A.tr g Xh x0 a λu=>A.tb g .leq u (.int .i32 591) a λv=>A.c g v (.bool false) a λw=>d w a))))
 |_=>A.stop
theorem g256_ok:GQ 256 1 g256:=gq1 [none,some [3],none,some [16],none] λ_ _ _ _ _=>by kernel_rfl
def g257:GFun:=λA xs a e=>match xs with
 |[x0]=>
 A.b .geq x0 (.int .i32 48) a λd=>A.tr d Xh x0 a λf=>A.tb d .leq f (.int .i32 57) a λg=>A.c d g (.bool false) a λh=>e h a
 |_=>A.stop
theorem g257_ok:GQ 257 1 g257:=gq1 [] λ_ _ _ _ _=>by kernel_rfl
def g258:GFun:=λA xs c g=>match xs with
 |[]=>
 A.wr (Yz [] c) c λe c=>A.k 264 [(.str [99,97,114,100,32,117,110,105,116,32,99,104,97,114,109,32,102,111,114,109,97,116,32,112,108,97,121,101,100,32,100,101,97,100,32,100,97,119,110,32,97,117,114,97,32,115,104,105,101,108,100,32,104,97,114,109,32,109,101,110,100,32,100,114,97,119,32,103,97,105,110,32,100,114,111,112,32,108,111,111,107,32,115,104,111,119,32,115,117,109,109,111,110,32,105,102,32,101,108,115,101,32,109,101,32,102,111,101,32,116,97,114,103,101,116,32,108,105,102,101,32,104,97,110,100,32,100,101,99,107,32,117,110,105,116,115,32,109,97,110,97,32,99,111,115,116,32,116,111,112,32,112,111,119,101,114,32,109,105,110,32,109,97,120,32,110,111,116,32,97,110,100,32,111,114,32,104,111,108,100,115,32,108,101,97,115,116,32,109,111,115,116,32,99,111,112,105,101,115,32,98,97,110,110,101,100,32,115,105,110,103,108,101])] c λf c=>
 A.r Xe f c λh=>A.loop (λi d c=>A.b .lss (h0 d) h c λj=>A.test j (A.s (Yb 1) f (h0 d) c λl=>A.a l c λm=>A.wr (Xv true [e,m,.bool true] c) c λ_ c=>
 A.b .add (h0 d) (jv 1) c λn=>i [n] c) (g e c)) [jv 0] c
 |_=>A.stop
theorem g258_ok:GQ 258 0 g258:=gq0 [none,some [7],none,none] λ_ _ _ _=>by kernel_rfl
def g259:GFun:=λA xs a d=>match xs with
 |[x0,x1]=>
 A.r Xe x0 a λe=>A.loop (λf c a=>A.b .lss (h0 c) e a λg=>A.test g (A.s (Yb 12) x0 (h0 c) a λh=>A.r (Xc true 12) h a λi=>A.call .callv [x1,i] a λj a=>
 A.test j (d (h0 c) a) (A.b .add (h0 c) (jv 1) a λl=>f [l] a)) (d (jv (-1)) a)) [jv 0] a
 |_=>A.stop
theorem g259_ok:GQ 259 2 g259:=gq2 [none,some [8],none,none,none] λ_ _ _ _ _ _=>by kernel_rfl
def g260:GFun:=λA xs a e=>match xs with
 |[x0]=>
 A.wr (Yf zq3 [] a) a λc a=>A.k 265 [x0] a λf a=>A.wr (Yf zq3 [] a) a λb a=>A.ws (Qb 4) b f a λ_ a=>A.loop (λg o a=>A.k 201 [x0,(.str [42])] a λh a=>
 A.test h (A.k 265 [x0] a λi a=>A.wr (Yf zq3 [] a) a λd a=>A.ws (Qb 4) d i a λ_ a=>A.r (Xc true 4) b a λj=>A.r (Xc true 4) d a λl=>
 A.k 261 [.int .i8 10,j,l] a λm a=>A.ws (Qb 4) b m a λ_ a=>g [] a) (A.r (Xc true 4) b a λn=>A.ws (Qb 4) c n a λ_ a=>A.opt (cellV true 4 c a) λr12=>
 e r12 a)) [] a
 |_=>A.stop
theorem g260_ok:GQ 260 1 g260:=gq1 [none,some [],none,none] λ_ _ _ _ _=>by kernel_rfl
def g261:GFun:=λA xs a c=>match xs with
 |[x0,x1,x2]=>
 A.w1 Qk x1 a λd a=>A.w1 Qk x2 a λe a=>A.wr (Yf zq3 [] a) a λb a=>A.r (Xc true 4) d a λf=>A.r (Xc true 4) e a λg=>A.wr (Qh 4 2 [.int .i8 0,jv 0,.int .i8 0,.nils,.int .i8 0,jv 0,.int .i8 0,.nils] [(0,4),(4,4)] [f,g] a) a λh a=>
 A.rd (Xf zq3 [(0,1),(3,1)] [x0,h] a) λi=>A.ws (Qb 4) b i a λ_ a=>A.opt (cellV true 4 b a) λr7=>c r7 a
 |_=>A.stop
theorem g261_ok:GQ 261 3 g261:=gq3 [] λ_ _ _ _ _ _ _=>by kernel_rfl
def g262:GFun:=λA xs a e=>match xs with
 |[x0]=>
 A.wr (Yf [.int .i8 0,.int .i8 0,.str [],.nils,.nils] [] a) a λc a=>A.k 266 [x0] a λf a=>A.wr (Yf [.int .i8 0,.int .i8 0,.str [],.nils,.nils] [] a) a λb a=>
 A.ws (Qb 5) b f a λ_ a=>A.loop (λg p a=>A.k 201 [x0,(.str [97,110,100])] a λh a=>A.test h (A.k 266 [x0] a λi a=>A.wr (Yf [.int .i8 0,.int .i8 0,.str [],.nils,.nils] [] a) a λd a=>
 A.ws (Qb 5) d i a λ_ a=>A.r (Xc true 5) b a λj=>A.r (Xc true 5) d a λl=>A.wr (Qh 5 2 [.int .i8 0,.int .i8 0,.str [],.nils,.nils,.int .i8 0,.int .i8 0,.str [],.nils,.nils] [(0,5),(5,5)] [j,l] a) a λm a=>
 A.rd (Xf [.int .i8 0,.int .i8 0,.str [],.nils,.nils] [(0,1),(4,1)] [.int .i8 4,m] a) λn=>A.ws (Qb 5) b n a λ_ a=>g [] a) (A.r (Xc true 5) b a λo=>
 A.ws (Qb 5) c o a λ_ a=>A.opt (cellV true 5 c a) λr13=>e r13 a)) [] a
 |_=>A.stop
theorem g262_ok:GQ 262 1 g262:=gq1 [none,some [],none,none] λ_ _ _ _ _=>by kernel_rfl
def g263:GFun:=λA xs a c=>match xs with
 |[]=>
 A.wr (Yf [.int .i8 0,.int .i8 0,.int .i8 0,.int .i8 0,.int .i8 0,.int .i8 0,.int .i8 0,.int .i8 0,.int .i8 0,.int .i8 0,.int .i8 0,.int .i8 0,.int .i8 0,.int .i8 0,.int .i8 0,.int .i8 0] [] a) a λb a=>
 A.rd (Xf zq6 [(0,1),(1,1),(2,1),(3,1)] [.int .i8 0,.int .i8 1,.int .i8 2,.int .i8 3] a) λd=>A.rd (Xf zq6 [(0,1),(1,1),(2,1),(3,1)] [.int .i8 1,.int .i8 1,.int .i8 3,.int .i8 3] a) λe=>
 A.rd (Xf zq6 [(0,1),(1,1),(2,1),(3,1)] [.int .i8 2,.int .i8 3,.int .i8 2,.int .i8 3] a) λf=>A.rd (Xf zq6 [(0,1),(1,1),(2,1),(3,1)] [.int .i8 3,.int .i8 3,.int .i8 3,.int .i8 3] a) λg=>
 A.rd (Xf [.int .i8 0,.int .i8 0,.int .i8 0,.int .i8 0,.int .i8 0,.int .i8 0,.int .i8 0,.int .i8 0,.int .i8 0,.int .i8 0,.int .i8 0,.int .i8 0,.int .i8 0,.int .i8 0,.int .i8 0,.int .i8 0] [(0,4),(4,4),(8,4),(12,4)] [d,e,f,g] a) λh=>
 A.ws (Qb 16) b h a λ_ a=>A.opt (cellV true 16 b a) λr6=>c r6 a
 |_=>A.stop
theorem g263_ok:GQ 263 0 g263:=gq0 [] λ_ _ _ _=>by kernel_rfl
def g264:GFun:=λA xs d m=>match xs with
 |[x0]=>
 A.loop (λq f d=>A.r Zr x0 d λt=>A.b .lss (h0 f) t d λu=>A.test u (A.s Yv x0 (h0 f) d λn=>A.b .or (h1 f) n d λv=>A.s (Qg 256 1) (.rptr row0 0) n d λw=>
 A.a w d λy=>A.r (XH .i64) y d λo=>A.r (Qn .xor) o d λz=>A.b .and (h3 f) z d λa0=>A.b .add (h2 f) a0 d λa1=>A.b .add (h0 f) (jv 1) d λa2=>
 q [a2,v,a1,o] d) (A.b .geq (h1 f) (.int .u8 128) d λa3=>A.test a3 (A.k 267 [x0,(.func (.func 268) [] [])] d λa4 d=>m a4 d) (A.wr (Ya9 1 16 [.str []] [(h2 f)] d) d λl d=>
 A.loop (λa5 i d=>A.r Zr x0 d λa6=>A.b .lss (h0 i) a6 d λg=>A.tr g Xh x0 d λa7=>A.tr g Xh (h0 i) d λa8=>A.ts g Yv a7 a8 d λa9=>
 A.ts g (Qg 256 1) (.rptr row0 0) a9 d λb0=>A.ta g b0 d λb1=>A.tb g .neq b1 (.int .u8 0) d λb2=>A.c g b2 (.bool false) d λb3=>A.test b3 (
 A.b .add (h0 i) (jv 1) d λb4=>a5 [b4] d) (A.loop (λp e d=>A.r Zr x0 d λb5=>A.b .lss (h0 e) b5 d λb6=>A.test b6 (A.s Yv x0 (h0 e) d λb7=>
 A.s (Qg 256 1) (.rptr row0 0) b7 d λb8=>A.a b8 d λb9=>A.b .eql b9 (.int .u8 0) d λc0=>A.test c0 (A.b .add (h0 e) (jv 1) d λc1=>p [c1,(h1 e),(h2 e)] d) (
 A.rd (XV [x0,(h2 e),(h0 e)] d) λc2=>A.s (Yb 1) l (h1 e) d λc3=>A.ws (Qb 1) c3 c2 d λ_ d=>A.b .add (h1 e) (jv 1) d λc4=>A.b .add (h0 e) (jv 1) d λc5=>
 A.loop (λc6 j d=>A.r Zr x0 d λc7=>A.b .lss (h0 j) c7 d λh=>A.tr h Xh x0 d λc8=>A.tr h Xh (h0 j) d λc9=>A.ts h Yv c8 c9 d λd0=>
 A.ts h (Qg 256 1) (.rptr row0 0) d0 d λd1=>A.ta h d1 d λd2=>A.tb h .neq d2 (.int .u8 0) d λd3=>A.c h d3 (.bool false) d λd4=>A.test d4 (
 A.b .add (h0 j) (jv 1) d λd5=>c6 [d5] d) (p [(h0 j),c4,(h0 j)] d)) [c5] d)) (A.r Zr x0 d λd6=>A.b .lss (h2 e) d6 d λd7=>A.test d7 (A.s Y9 x0 (h2 e) d λd8=>
 A.s (Yb 1) l (h1 e) d λd9=>A.ws (Qb 1) d9 d8 d λ_ d=>m l d) (m l d))) [(h0 i),jv 0,(h0 i)] d)) [jv 0] d))) [jv 0,.int .u8 0,jv 0,jv 1] d
 |_=>A.stop
theorem g264_ok:GQ 264 1 g264:=gq1 [none,some [6,5,3,4],none,none,none,none,some [12],none,none,none,some [12,10,11],none,none,none,none,some [12],none,none,none] λ_ _ _ _ _=>by kernel_rfl
def g265:GFun:=λA xs d f=>match xs with
 |[x0]=>
 A.wr (Yf zq3 [] d) d λe d=>A.pu (Qa [x0] d) λu=>A.pu (Ya 0 [u] d) λv=>A.dr (Ye [v] d) d λw y d=>A.pu (Qa [x0] d) λz=>
 A.pu (Ya 1 [z] d) λt6=>A.dr (Ye [t6] d) d λt7 l8 d=>A.dr (Yb 4 [w,t7] d) d λt9 a0 d=>A.dr (Xc true 4 [t9] d) d λa1 a2 d=>
 A.dr (Yf [.int .i8 0,.str [],jv 0,jv 0] [] d) d λi a3 d=>A.dr (Qb 4 [i,a1] d) d λ_ a4 d=>A.gd (Xg [[],[0],[0,1],[0,1,2],[],[4],[4,5],[4,5,6],[0,1,2,3,4,5,6,7],[0,1,2,3,4,5,6,7,8],[],[0,1,2,3,4,5,6,7,8,9,10]] [([],[]),([],[]),([],[]),y,([],[]),([],[]),([],[]),l8,a0,a2,a3,a4]) <|
 A.k 150 [x0] d λg d=>A.tr g (Ya 0) i d λa5=>A.ta g a5 d λa6=>A.tb g .eql a6 (.int .i8 2) d λa7=>A.c g a7 (.bool false) d λa8=>A.test a8 (
 A.r Qa x0 d λa9=>A.r (Ya 1) a9 d λb0=>A.a b0 d λb1=>A.b .add b1 (jv 1) d λb2=>A.r Qa x0 d λb3=>A.r (Ya 1) b3 d λb4=>
 A.ws (Qb 1) b4 b2 d λ_ d=>A.r (Ya 2) i d λb5=>A.a b5 d λb6=>A.rd (Xf zq3 [(1,1)] [b6] d) λb7=>A.ws (Qb 4) e b7 d λ_ d=>
 A.opt (cellV true 4 e d) λr30=>f r30 d) (A.wr (Qh 1 5 [.str [],.str [],.str [],.str [],.str []] [(0,1),(1,1),(2,1),(3,1),(4,1)] [.str [],(.str [108,105,102,101]),(.str [104,97,110,100]),(.str [100,101,99,107]),(.str [117,110,105,116,115])] d) d λl d=>
 A.loop (λb8 h d=>A.r Xe l d λb9=>A.b .lss (h0 h) b9 d λc0=>A.test c0 (A.s (Yb 1) l (h0 h) d λc1=>A.a c1 d λc2=>A.k 201 [x0,c2] d λc3 d=>
 A.test c3 (A.k 203 [x0,(.str [40])] d λf7 d=>A.r (XH .i8) (h0 h) d λc4=>A.k 245 [x0,.bool false] d λc5 d=>A.rd (Xf zq3 [(0,1),(2,1)] [c4,c5] d) λc6=>
 A.wr (Yf zq3 [] d) d λm d=>A.ws (Qb 4) m c6 d λ_ d=>A.k 203 [x0,(.str [41])] d λf8 d=>A.r (Xc true 4) m d λc7=>A.ws (Qb 4) e c7 d λ_ d=>
 A.opt (cellV true 4 e d) λr46=>f r46 d) (A.b .add (h0 h) (jv 1) d λc8=>b8 [c8] d)) (A.k 201 [x0,(.str [109,97,110,97])] d λc9 d=>A.test c9 (A.k 203 [x0,(.str [40])] d λf9 d=>
 A.k 203 [x0,(.str [109,101])] d λg0 d=>A.k 203 [x0,(.str [41])] d λg1 d=>A.rd (Xf zq3 [(0,1)] [.int .i8 5] d) λd0=>A.ws (Qb 4) e d0 d λ_ d=>
 A.opt (cellV true 4 e d) λr53=>f r53 d) (A.k 201 [x0,(.str [99,111,115,116])] d λd1 d=>A.test d1 (A.k 203 [x0,(.str [40])] d λg2 d=>A.k 203 [x0,(.str [116,111,112])] d λg3 d=>
 A.k 203 [x0,(.str [40])] d λg4 d=>A.k 203 [x0,(.str [109,101])] d λg5 d=>A.k 203 [x0,(.str [41])] d λg6 d=>A.k 203 [x0,(.str [41])] d λg7 d=>
 A.rd (Xf zq3 [(0,1)] [.int .i8 6] d) λd2=>A.ws (Qb 4) e d2 d λ_ d=>A.opt (cellV true 4 e d) λr62=>f r62 d) (A.k 201 [x0,(.str [112,111,119,101,114])] d λd3 d=>
 A.test d3 (A.k 203 [x0,(.str [40])] d λg8 d=>A.k 203 [x0,(.str [116,97,114,103,101,116])] d λg9 d=>A.k 203 [x0,(.str [41])] d λi0 d=>A.rd (Xf zq3 [(0,1)] [.int .i8 7] d) λd4=>
 A.ws (Qb 4) e d4 d λ_ d=>A.opt (cellV true 4 e d) λr68=>f r68 d) (A.k 151 [x0,(.str [109,105,110])] d λj d=>A.fr j Xh x0 d λd5=>A.gw j false (λk=>A.k 151 [d5,(.str [109,97,120])] d k) d λd6 d=>
 A.c j (.bool true) d6 d λd7=>A.test d7 (A.k 151 [x0,(.str [109,97,120])] d λd8 d=>joinK (λn=>A.test d8 (n [.int .i8 12] d) (n [.int .i8 11] d)) (λd9 d=>
 A.r Qa x0 d λe0=>A.r (Ya 1) e0 d λe1=>A.a e1 d λe2=>A.b .add e2 (jv 1) d λe3=>A.r Qa x0 d λe4=>A.r (Ya 1) e4 d λe5=>
 A.ws (Qb 1) e5 e3 d λ_ d=>A.k 151 [x0,(.str [40])] d λe6 d=>A.r (Qn .not) e6 d λe7=>joinK (λo=>A.test e7 (A.k 152 [x0,jv 120] d λi1 d=>
 o [] d) (o [] d)) (λi2 d=>A.k 247 [x0] d λi3 d=>A.k 203 [x0,(.str [40])] d λi4 d=>A.k 246 [x0] d λe8 d=>A.wr (Yf zq3 [] d) d λp d=>A.ws (Qb 4) p e8 d λ_ d=>
 A.k 203 [x0,(.str [44])] d λi5 d=>A.k 246 [x0] d λe9 d=>A.wr (Yf zq3 [] d) d λq d=>A.ws (Qb 4) q e9 d λ_ d=>A.k 203 [x0,(.str [41])] d λi6 d=>
 A.k 249 [x0] d λi7 d=>A.r (Xc true 4) p d λf0=>A.r (Xc true 4) q d λf1=>A.k 261 [(h0 d9),f0,f1] d λf2 d=>A.ws (Qb 4) e f2 d λ_ d=>
 A.opt (cellV true 4 e d) λr99=>f r99 d))) (A.k 151 [x0,(.str [40])] d λf3 d=>A.test f3 (A.k 247 [x0] d λi9 d=>A.k 203 [x0,(.str [40])] d λj0 d=>
 A.k 246 [x0] d λf4 d=>A.wr (Yf zq3 [] d) d λt d=>A.ws (Qb 4) t f4 d λ_ d=>A.k 203 [x0,(.str [41])] d λj1 d=>A.k 249 [x0] d λj2 d=>
 A.r (Xc true 4) t d λf5=>A.ws (Qb 4) e f5 d λ_ d=>A.opt (cellV true 4 e d) λr108=>f r108 d) (A.k 152 [x0,jv 120] d λj3 d=>A.rd (Xf zq3 [] [] d) λf6=>
 A.ws (Qb 4) e f6 d λ_ d=>A.opt (cellV true 4 e d) λr111=>f r111 d))))))) [jv 1] d)
 |_=>A.stop
theorem g265_ok:GQ 265 1 g265:=gq1 [none,none,some [5],none,none,none,none,none,none,none,none,some [7],some [],none] λ_ _ _ _ _=>by kernel_rfl
def g266:GFun:=λA xs a d=>match xs with
 |[x0]=>
 A.wr (Yf [.int .i8 0,.int .i8 0,.str [],.nils,.nils] [] a) a λb a=>A.k 151 [x0,(.str [110,111,116])] a λm a=>A.test m (A.k 247 [x0] a λt2 a=>
 A.k 203 [x0,(.str [110,111,116])] a λt3 a=>A.k 266 [x0] a λn a=>A.wr (Yf [.int .i8 0,.int .i8 0,.str [],.nils,.nils] [] a) a λh a=>
 A.ws (Qb 5) h n a λ_ a=>A.k 249 [x0] a λt6 a=>A.r (Xc true 5) h a λo=>A.wr (Qh 5 1 [.int .i8 0,.int .i8 0,.str [],.nils,.nils] [(0,5)] [o] a) a λp a=>
 A.rd (Xf [.int .i8 0,.int .i8 0,.str [],.nils,.nils] [(0,1),(4,1)] [.int .i8 3,p] a) λq=>A.ws (Qb 5) b q a λ_ a=>A.opt (cellV true 5 b a) λr10=>
 d r10 a) (A.k 151 [x0,(.str [40])] a λf a=>A.tr f Xh x0 a λs=>A.gw f true (λk=>A.k 269 [s] a k) a λt a=>A.c f t (.bool false) a λu=>A.test u (
 A.k 247 [x0] a λb4 a=>A.k 203 [x0,(.str [40])] a λb5 a=>A.k 248 [x0] a λv a=>A.wr (Yf [.int .i8 0,.int .i8 0,.str [],.nils,.nils] [] a) a λi a=>
 A.ws (Qb 5) i v a λ_ a=>A.k 203 [x0,(.str [41])] a λb6 a=>A.k 249 [x0] a λb7 a=>A.r (Xc true 5) i a λw=>A.ws (Qb 5) b w a λ_ a=>
 A.opt (cellV true 5 b a) λr22=>d r22 a) (A.k 201 [x0,(.str [104,111,108,100,115])] a λy a=>A.test y (A.k 203 [x0,(.str [40])] a λb8 a=>A.k 245 [x0,.bool false] a λz a=>
 A.rd (Xf [.int .i8 0,.int .i8 0,.str [],.nils,.nils] [(0,1),(1,1)] [.int .i8 6,z] a) λa0=>A.wr (Yf [.int .i8 0,.int .i8 0,.str [],.nils,.nils] [] a) a λg a=>
 A.ws (Qb 5) g a0 a λ_ a=>A.k 203 [x0,(.str [44])] a λb9 a=>A.k 200 [x0] a λa1 a=>A.r (Ya 2) g a λa2=>A.ws (Qb 1) a2 a1 a λ_ a=>
 A.k 203 [x0,(.str [41])] a λc0 a=>A.r (Xc true 5) g a λa3=>A.ws (Qb 5) b a3 a λ_ a=>A.opt (cellV true 5 b a) λr33=>d r33 a) (A.k 246 [x0] a λa4 a=>
 A.wr (Yf zq3 [] a) a λj a=>A.ws (Qb 4) j a4 a λ_ a=>joinK (λe=>A.k 201 [x0,(.str [60])] a λa5 a=>A.test a5 (e [.int .i8 0] a) (A.k 201 [x0,(.str [60,61])] a λa6 a=>
 A.test a6 (e [.int .i8 1] a) (A.k 201 [x0,(.str [61,61])] a λa7 a=>A.test a7 (e [.int .i8 2] a) (A.k 152 [x0,jv 120] a λc1 a=>e [.int .i8 0] a)))) (λa8 a=>
 A.k 246 [x0] a λa9 a=>A.wr (Yf zq3 [] a) a λl a=>A.ws (Qb 4) l a9 a λ_ a=>A.r (Xc true 4) j a λb0=>A.r (Xc true 4) l a λb1=>
 A.wr (Qh 4 2 [.int .i8 0,jv 0,.int .i8 0,.nils,.int .i8 0,jv 0,.int .i8 0,.nils] [(0,4),(4,4)] [b0,b1] a) a λb2 a=>A.rd (Xf [.int .i8 0,.int .i8 0,.str [],.nils,.nils] [(0,1),(3,1)] [(h0 a8),b2] a) λb3=>
 A.ws (Qb 5) b b3 a λ_ a=>A.opt (cellV true 5 b a) λr48=>d r48 a))))
 |_=>A.stop
theorem g266_ok:GQ 266 1 g266:=gq1 [none,none,none,none,some [7],none,none,none] λ_ _ _ _ _=>by kernel_rfl
def g269:GFun:=λA xs c g=>match xs with
 |[x0]=>
 A.r Qa x0 c λw=>A.r (Ya 1) w c λy=>A.a y c λz=>A.loop (λa0 d c=>A.r Qa x0 c λt5=>A.r (Ya 0) t5 c λt6=>
 A.a t6 c λt7=>A.r Xe t7 c λt8=>A.b .lss (h0 d) t8 c λt9=>A.test t9 (joinK (λj=>A.r Qa x0 c λa1=>A.r (Ya 0) a1 c λa2=>
 A.a a2 c λa3=>A.s (Yb 4) a3 (h0 d) c λa4=>A.r (Xc true 4) a4 c λa5=>A.wr (Yf [.int .i8 0,.str [],jv 0,jv 0] [] c) c λh c=>
 A.ws (Qb 4) h a5 c λ_ c=>A.r (Ya 0) h c λa6=>A.a a6 c λa7=>A.b .neq a7 (.int .i8 3) c λa8=>A.test a8 (j [(h1 d)] c) (A.r (Ya 1) h c λa9=>
 A.a a9 c λb0=>A.rd (Yh .eql false [b0,(.str [40])] c) λb1=>joinK (λl=>A.test b1 (A.b .add (h1 d) (jv 1) c λb2=>l [b2] c) (l [(h1 d)] c)) (λm c=>
 A.r (Ya 1) h c λb3=>A.a b3 c λb4=>A.rd (Yh .eql false [b4,(.str [41])] c) λb5=>joinK (λn=>A.test b5 (A.b .sub (h0 m) (jv 1) c λb6=>
 n [b6] c) (n [(h0 m)] c)) (λo c=>A.b .eql (h0 o) (jv 0) c λb7=>A.test b7 (A.r Qa x0 c λb8=>A.r (Ya 0) b8 c λb9=>A.a b9 c λc0=>
 A.b .add (h0 d) (jv 1) c λc1=>A.s (Yb 4) c0 c1 c λc2=>A.r (Xc true 4) c2 c λc3=>A.wr (Yf [.int .i8 0,.str [],jv 0,jv 0] [] c) c λi c=>
 A.ws (Qb 4) i c3 c λ_ c=>A.r (Ya 0) i c λc4=>A.a c4 c λc5=>A.b .neq c5 (.int .i8 3) c λc6=>A.test c6 (g (.bool true) c) (A.r (Ya 1) i c λc7=>
 A.a c7 c λe=>A.rd (Yh .eql false [e,(.str [60])] c) λp=>joinK (λf=>A.test p (f [p] c) (A.rd (Yh .eql false [e,(.str [60,61])] c) λq=>A.test q (
 f [q] c) (A.rd (Yh .eql false [e,(.str [61,61])] c) λt=>A.test t (f [t] c) (A.rd (Yh .eql false [e,(.str [43])] c) λu=>A.test u (f [u] c) (A.rd (Yh .eql false [e,(.str [45])] c) λv=>
 A.test v (f [v] c) (A.rd (Yh .eql false [e,(.str [42])] c) λc8=>f [c8] c)))))) (λc9 c=>A.test (h0 c9) (g (.bool false) c) (g (.bool true) c)))) (j [(h0 o)] c))))) (λd0 c=>
 A.b .add (h0 d) (jv 1) c λd1=>a0 [d1,(h0 d0)] c)) (g (.bool true) c)) [z,jv 0] c
 |_=>A.stop
theorem g269_ok:GQ 269 1 g269:=gq1 [none,some [4,3],none,some [3],none,some [3],some [3],none,none,none,some [55],none,none,none,none,none] λ_ _ _ _ _=>by kernel_rfl
def tb:GT:=(.node 192 1 g192 (.node 121 1 g121 (.node 72 3 g72 (.node 57 1 g57 (.node 53 0 g53 (.node 22 5 g22 (.node 18 3 g18 (.node 17 0 g17 .leaf .leaf) .leaf) (.node 27 3 g27 .leaf .leaf)) (.node 55 2 g55 (.node 54 3 g54 .leaf .leaf) (.node 56 2 g56 .leaf .leaf))) (.node 65 1 g65 (.node 59 1 g59 (.node 58 2 g58 .leaf .leaf) (.node 64 7 g64 .leaf .leaf)) (.node 67 1 g67 (.node 66 4 g66 .leaf .leaf) (.node 71 2 g71 .leaf .leaf)))) (.node 111 3 g111 (.node 77 2 g77 (.node 75 3 g75 (.node 74 2 g74 (.node 73 2 g73 .leaf .leaf) .leaf) (.node 76 1 g76 .leaf .leaf)) (.node 96 1 g96 (.node 78 1 g78 .leaf .leaf) (.node 110 1 g110 .leaf .leaf))) (.node 115 2 g115 (.node 113 1 g113 (.node 112 1 g112 .leaf .leaf) (.node 114 1 g114 .leaf .leaf)) (.node 119 2 g119 (.node 118 2 g118 .leaf .leaf) (.node 120 2 g120 .leaf .leaf))))) (.node 155 2 g155 (.node 147 1 g147 (.node 143 1 g143 (.node 130 1 g130 (.node 124 1 g124 (.node 122 1 g122 .leaf .leaf) .leaf) (.node 142 1 g142 .leaf .leaf)) (.node 145 2 g145 (.node 144 4 g144 .leaf .leaf) (.node 146 2 g146 .leaf .leaf))) (.node 151 2 g151 (.node 149 1 g149 (.node 148 2 g148 .leaf .leaf) (.node 150 1 g150 .leaf .leaf)) (.node 153 2 g153 (.node 152 2 g152 .leaf .leaf) (.node 154 2 g154 .leaf .leaf)))) (.node 184 1 g184 (.node 180 1 g180 (.node 178 1 g178 (.node 157 3 g157 (.node 156 2 g156 .leaf .leaf) .leaf) (.node 179 1 g179 .leaf .leaf)) (.node 182 1 g182 (.node 181 1 g181 .leaf .leaf) (.node 183 1 g183 .leaf .leaf))) (.node 188 3 g188 (.node 186 2 g186 (.node 185 2 g185 .leaf .leaf) (.node 187 1 g187 .leaf .leaf)) (.node 190 2 g190 (.node 189 2 g189 .leaf .leaf) (.node 191 1 g191 .leaf .leaf)))))) (.node 235 2 g235 (.node 209 1 g209 (.node 201 2 g201 (.node 197 1 g197 (.node 195 2 g195 (.node 194 1 g194 (.node 193 2 g193 .leaf .leaf) .leaf) (.node 196 2 g196 .leaf .leaf)) (.node 199 0 g199 (.node 198 1 g198 .leaf .leaf) (.node 200 1 g200 .leaf .leaf))) (.node 205 1 g205 (.node 203 2 g203 (.node 202 1 g202 .leaf .leaf) (.node 204 3 g204 .leaf .leaf)) (.node 207 1 g207 (.node 206 1 g206 .leaf .leaf) (.node 208 2 g208 .leaf .leaf)))) (.node 225 1 g225 (.node 221 2 g221 (.node 212 1 g212 (.node 211 2 g211 (.node 210 1 g210 .leaf .leaf) .leaf) (.node 213 2 g213 .leaf .leaf)) (.node 223 1 g223 (.node 222 2 g222 .leaf .leaf) (.node 224 2 g224 .leaf .leaf))) (.node 229 0 g229 (.node 227 1 g227 (.node 226 2 g226 .leaf .leaf) (.node 228 3 g228 .leaf .leaf)) (.node 231 1 g231 (.node 230 1 g230 .leaf .leaf) (.node 232 1 g232 .leaf .leaf))))) (.node 252 1 g252 (.node 244 2 g244 (.node 240 3 g240 (.node 238 2 g238 (.node 237 2 g237 (.node 236 2 g236 .leaf .leaf) .leaf) (.node 239 2 g239 .leaf .leaf)) (.node 242 1 g242 (.node 241 1 g241 .leaf .leaf) (.node 243 2 g243 .leaf .leaf))) (.node 248 1 g248 (.node 246 1 g246 (.node 245 2 g245 .leaf .leaf) (.node 247 1 g247 .leaf .leaf)) (.node 250 2 g250 (.node 249 1 g249 .leaf .leaf) (.node 251 1 g251 .leaf .leaf)))) (.node 260 1 g260 (.node 256 1 g256 (.node 254 1 g254 (.node 253 2 g253 .leaf .leaf) (.node 255 2 g255 .leaf .leaf)) (.node 258 0 g258 (.node 257 1 g257 .leaf .leaf) (.node 259 2 g259 .leaf .leaf))) (.node 264 1 g264 (.node 262 1 g262 (.node 261 3 g261 .leaf .leaf) (.node 263 0 g263 .leaf .leaf)) (.node 266 1 g266 (.node 265 1 g265 .leaf .leaf) (.node 269 1 g269 .leaf .leaf)))))))
theorem YcK:tb.Ok prog GL0:=⟨g192_ok,⟨g121_ok,⟨g72_ok,⟨g57_ok,⟨g53_ok,⟨g22_ok,⟨g18_ok,⟨g17_ok,trivial,trivial⟩,trivial⟩,⟨g27_ok,trivial,trivial⟩⟩,⟨g55_ok,⟨g54_ok,trivial,trivial⟩,⟨g56_ok,trivial,trivial⟩⟩⟩,⟨g65_ok,⟨g59_ok,⟨g58_ok,trivial,trivial⟩,⟨g64_ok,trivial,trivial⟩⟩,⟨g67_ok,⟨g66_ok,trivial,trivial⟩,⟨g71_ok,trivial,trivial⟩⟩⟩⟩,⟨g111_ok,⟨g77_ok,⟨g75_ok,⟨g74_ok,⟨g73_ok,trivial,trivial⟩,trivial⟩,⟨g76_ok,trivial,trivial⟩⟩,⟨g96_ok,⟨g78_ok,trivial,trivial⟩,⟨g110_ok,trivial,trivial⟩⟩⟩,⟨g115_ok,⟨g113_ok,⟨g112_ok,trivial,trivial⟩,⟨g114_ok,trivial,trivial⟩⟩,⟨g119_ok,⟨g118_ok,trivial,trivial⟩,⟨g120_ok,trivial,trivial⟩⟩⟩⟩⟩,⟨g155_ok,⟨g147_ok,⟨g143_ok,⟨g130_ok,⟨g124_ok,⟨g122_ok,trivial,trivial⟩,trivial⟩,⟨g142_ok,trivial,trivial⟩⟩,⟨g145_ok,⟨g144_ok,trivial,trivial⟩,⟨g146_ok,trivial,trivial⟩⟩⟩,⟨g151_ok,⟨g149_ok,⟨g148_ok,trivial,trivial⟩,⟨g150_ok,trivial,trivial⟩⟩,⟨g153_ok,⟨g152_ok,trivial,trivial⟩,⟨g154_ok,trivial,trivial⟩⟩⟩⟩,⟨g184_ok,⟨g180_ok,⟨g178_ok,⟨g157_ok,⟨g156_ok,trivial,trivial⟩,trivial⟩,⟨g179_ok,trivial,trivial⟩⟩,⟨g182_ok,⟨g181_ok,trivial,trivial⟩,⟨g183_ok,trivial,trivial⟩⟩⟩,⟨g188_ok,⟨g186_ok,⟨g185_ok,trivial,trivial⟩,⟨g187_ok,trivial,trivial⟩⟩,⟨g190_ok,⟨g189_ok,trivial,trivial⟩,⟨g191_ok,trivial,trivial⟩⟩⟩⟩⟩⟩,⟨g235_ok,⟨g209_ok,⟨g201_ok,⟨g197_ok,⟨g195_ok,⟨g194_ok,⟨g193_ok,trivial,trivial⟩,trivial⟩,⟨g196_ok,trivial,trivial⟩⟩,⟨g199_ok,⟨g198_ok,trivial,trivial⟩,⟨g200_ok,trivial,trivial⟩⟩⟩,⟨g205_ok,⟨g203_ok,⟨g202_ok,trivial,trivial⟩,⟨g204_ok,trivial,trivial⟩⟩,⟨g207_ok,⟨g206_ok,trivial,trivial⟩,⟨g208_ok,trivial,trivial⟩⟩⟩⟩,⟨g225_ok,⟨g221_ok,⟨g212_ok,⟨g211_ok,⟨g210_ok,trivial,trivial⟩,trivial⟩,⟨g213_ok,trivial,trivial⟩⟩,⟨g223_ok,⟨g222_ok,trivial,trivial⟩,⟨g224_ok,trivial,trivial⟩⟩⟩,⟨g229_ok,⟨g227_ok,⟨g226_ok,trivial,trivial⟩,⟨g228_ok,trivial,trivial⟩⟩,⟨g231_ok,⟨g230_ok,trivial,trivial⟩,⟨g232_ok,trivial,trivial⟩⟩⟩⟩⟩,⟨g252_ok,⟨g244_ok,⟨g240_ok,⟨g238_ok,⟨g237_ok,⟨g236_ok,trivial,trivial⟩,trivial⟩,⟨g239_ok,trivial,trivial⟩⟩,⟨g242_ok,⟨g241_ok,trivial,trivial⟩,⟨g243_ok,trivial,trivial⟩⟩⟩,⟨g248_ok,⟨g246_ok,⟨g245_ok,trivial,trivial⟩,⟨g247_ok,trivial,trivial⟩⟩,⟨g250_ok,⟨g249_ok,trivial,trivial⟩,⟨g251_ok,trivial,trivial⟩⟩⟩⟩,⟨g260_ok,⟨g256_ok,⟨g254_ok,⟨g253_ok,trivial,trivial⟩,⟨g255_ok,trivial,trivial⟩⟩,⟨g258_ok,⟨g257_ok,trivial,trivial⟩,⟨g259_ok,trivial,trivial⟩⟩⟩,⟨g264_ok,⟨g262_ok,⟨g261_ok,trivial,trivial⟩,⟨g263_ok,trivial,trivial⟩⟩,⟨g266_ok,⟨g265_ok,trivial,trivial⟩,⟨g269_ok,trivial,trivial⟩⟩⟩⟩⟩⟩⟩
end Go.Ah.Tz
end
section
namespace Go.Ah.Tz
open Go.Proofs.Tryz (prog)
set_option maxRecDepth 1000000
theorem hT:∀f np g,tb.get f=some (np,g)→GQ f np g:=GT.get_ok YcK
def v22:AVal:=(.tup [(.agg [(.int .i64 1),(.int .i64 0),(.int .i8 0),(.bool false),(.int .i8 0),.nils,(.int .i64 9),(.int .i64 20),(.int .i64 0),(.int .i64 0),.nils,.nils,.nils,(.rsl false false 4 [[(.int .i64 1),(.int .i64 0),(.int .i64 2),(.bool false)],[(.int .i64 2),(.int .i64 1),(.int .i64 0),(.bool false)]]),.nils,(.int .i64 20),(.int .i64 0),(.int .i64 0),(.rsl false false 1 [[(.int .i64 1)],[(.int .i64 0)]]),.nils,.nils,.nils,.nils]),(.agg [(.int .i8 5),(.int .i64 0),(.int .i64 0),(.int .i64 1),(.int .i64 0),(.int .i64 2),.nils]),(.int .i64 0)])
end Go.Ah.Tz
end
section
namespace Go.Ah.Tz
@[reducible] def iv(n:Int):AVal:=.int .i64 n
@[reducible] def iv8(n:Int):AVal:=.int .i8 n
def cel(n:Int):List AVal:=[iv n]
@[reducible] def rowV(l:List Int):AVal:=.rsl false false 1 (l.map cel)
structure Th where
 id:Int
 card:Int
 harm:Int
 tired:Bool
 deriving DecidableEq,Inhabited
def thC(t:Th):List AVal:=[iv t.id,iv t.card,iv t.harm,.bool t.tired]
@[reducible] def thV(l:List Th):AVal:=.rsl false false 4 (l.map thC)
structure Sd where
 life:Int
 mana:Int
 most:Int
 deck:List Int
 hand:List Int
 grave:List Int
 units:List Th
 told:List Int
 deriving DecidableEq,Inhabited
@[reducible] def sdC(s:Sd):List AVal:=[iv s.life,iv s.mana,iv s.most,rowV s.deck,rowV s.hand,rowV s.grave,thV s.units,rowV s.told]
structure St where
 turn:Int
 mover:Int
 phase:Int
 struck:Bool
 result:Int
 attack:List Int
 next:Int
 s0:Sd
 s1:Sd
 deriving DecidableEq,Inhabited
@[reducible] def stC(s:St):List AVal:=[iv s.turn,iv s.mover,iv8 s.phase,.bool s.struck,iv8 s.result,rowV s.attack,iv s.next,
 iv s.s0.life,iv s.s0.mana,iv s.s0.most,rowV s.s0.deck,rowV s.s0.hand,rowV s.s0.grave,thV s.s0.units,rowV s.s0.told,
 iv s.s1.life,iv s.s1.mana,iv s.s1.most,rowV s.s1.deck,rowV s.s1.hand,rowV s.s1.grave,thV s.s1.units,rowV s.s1.told]
@[reducible] def stV(s:St):AVal:=.agg (stC s)
theorem Qe{n:Nat}(h:(n:Int)<4611686018427387904):IntKind.i64.wrap ((n:Int)+1)=((n+1:Nat):Int):=by
 rw[IntWalk.i64_in _ (by omega)]; simp
theorem Yw{α:Type}(l:List α)(i:Nat)(h:i<l.length):l.take (i+1)=l.take i++[l[i]]:=by
 rw[List.take_succ_eq_append_getElem h]
theorem Qv{α β:Type}(f:α→β)(l:List α)(i:Nat)(h:i<l.length):(l.take i).map f++[f l[i]]=(l.take (i+1)).map f:=by
 rw[Yw l i h,List.map_append]; rfl
abbrev Tx:=List UInt8
inductive Nm where
 |mk (op n who:Int) (kids:List Nm)
 deriving Inhabited
inductive Cn where
 |mk (op who:Int) (name:Tx) (nums:List Nm) (kids:List Cn)
 deriving Inhabited
inductive Ef where
 |mk (op who:Int) (n:Nm) (name:Tx) (c:Cn) (thn els:List Ef)
 deriving Inhabited
def Nm.op:Nm→Int | .mk a _ _ _=>a
def Nm.n:Nm→Int | .mk _ a _ _=>a
def Nm.who:Nm→Int | .mk _ _ a _=>a
def Nm.kids:Nm→List Nm | .mk _ _ _ a=>a
def Cn.op:Cn→Int | .mk a _ _ _ _=>a
def Cn.who:Cn→Int | .mk _ a _ _ _=>a
def Cn.name:Cn→Tx | .mk _ _ a _ _=>a
def Cn.nums:Cn→List Nm | .mk _ _ _ a _=>a
def Cn.kids:Cn→List Cn | .mk _ _ _ _ a=>a
def Ef.op:Ef→Int | .mk a _ _ _ _ _ _=>a
def Ef.who:Ef→Int | .mk _ a _ _ _ _ _=>a
def Ef.n:Ef→Nm | .mk _ _ a _ _ _ _=>a
def Ef.name:Ef→Tx | .mk _ _ _ a _ _ _=>a
def Ef.c:Ef→Cn | .mk _ _ _ _ a _ _=>a
def Ef.thn:Ef→List Ef | .mk _ _ _ _ _ a _=>a
def Ef.els:Ef→List Ef | .mk _ _ _ _ _ _ a=>a
mutual
def nmC:Nm→List AVal
 |.mk op n who kids=>[iv8 op,iv n,iv8 who,.rsl false false 4 (nmsC kids)]
def nmsC:List Nm→List (List AVal)
 |[]=>[]
 |x::l=>nmC x::nmsC l
end
theorem YbQ:∀l,nmsC l=l.map nmC
 |[]=>rfl
 |x::l=>by simp[nmsC,YbQ l]
theorem ZC(x:Nm):nmC x=[iv8 x.op,iv x.n,iv8 x.who,.rsl false false 4 (x.kids.map nmC)]:=by
 cases x; simp[nmC,YbQ,Nm.op,Nm.n,Nm.who,Nm.kids]
mutual
def cnC:Cn→List AVal
 |.mk op who name nums kids=>[iv8 op,iv8 who,.str name,.rsl false false 4 (nums.map nmC),.rsl false false 5 (cnsC kids)]
def cnsC:List Cn→List (List AVal)
 |[]=>[]
 |x::l=>cnC x::cnsC l
end
theorem QbG:∀l,cnsC l=l.map cnC
 |[]=>rfl
 |x::l=>by simp[cnsC,QbG l]
theorem YL(x:Cn):cnC x=[iv8 x.op,iv8 x.who,.str x.name,.rsl false false 4 (x.nums.map nmC),.rsl false false 5 (x.kids.map cnC)]:=by
 cases x; simp[cnC,QbG,Cn.op,Cn.who,Cn.name,Cn.nums,Cn.kids]
mutual
def efC:Ef→List AVal
 |.mk op who n name c thn els=>[iv8 op,iv8 who,iv8 n.op,iv n.n,iv8 n.who,.rsl false false 4 (n.kids.map nmC),.str name,iv8 c.op,iv8 c.who,.str c.name,.rsl false false 4 (c.nums.map nmC),.rsl false false 5 (c.kids.map cnC),.rsl false false 14 (efsC thn),.rsl false false 14 (efsC els)]
def efsC:List Ef→List (List AVal)
 |[]=>[]
 |x::l=>efC x::efsC l
end
theorem YbM:∀l,efsC l=l.map efC
 |[]=>rfl
 |x::l=>by simp[efsC,YbM l]
theorem XA(x:Ef):efC x=[iv8 x.op,iv8 x.who,iv8 x.n.op,iv x.n.n,iv8 x.n.who,.rsl false false 4 (x.n.kids.map nmC),.str x.name,iv8 x.c.op,iv8 x.c.who,.str x.c.name,.rsl false false 4 (x.c.nums.map nmC),.rsl false false 5 (x.c.kids.map cnC),.rsl false false 14 (x.thn.map efC),.rsl false false 14 (x.els.map efC)]:=by
 cases x; simp[efC,YbM,Ef.op,Ef.who,Ef.n,Ef.name,Ef.c,Ef.thn,Ef.els]
structure Cd where
 name:Tx
 unit:Bool
 cost:Int
 power:Int
 health:Int
 shield:Int
 aurap:Int
 aurah:Int
 played:List Ef
 dead:List Ef
 dawn:List Ef
 pl:Int
 deriving Inhabited
@[reducible] def efV(l:List Ef):AVal:=.rsl false false 14 (l.map efC)
def cdC(c:Cd):List AVal:=[.str c.name,.bool c.unit,iv c.cost,iv c.power,iv c.health,iv c.shield,iv c.aurap,iv c.aurah,efV c.played,efV c.dead,efV c.dawn,iv c.pl]
def txC(t:Tx):List AVal:=[.str t]
@[reducible] def txV(l:List Tx):AVal:=.rsl false false 1 (l.map txC)
structure Fo where
 name:Tx
 least:Int
 most:Int
 copies:Int
 banned:List Tx
 single:List Tx
 pl:Int
 deriving Inhabited
def foC(f:Fo):List AVal:=[.str f.name,iv f.least,iv f.most,iv f.copies,txV f.banned,txV f.single,iv f.pl]
structure Bk where
 cards:List Cd
 formats:List Fo
 deriving Inhabited
@[reducible] def cdV(l:List Cd):AVal:=.rsl false false 12 (l.map cdC)
@[reducible] def foV(l:List Fo):AVal:=.rsl false false 7 (l.map foC)
@[reducible] def bkV(b:Bk):AVal:=.agg [cdV b.cards,foV b.formats]
end Go.Ah.Tz
end
section
namespace Go.Ah.Tz
open Go.Proofs.Tryz (prog)
theorem hP:prog.follows .mixedOrders=true:=by kernel_rfl
theorem c62(a b:List Int)(ha:a.length<4611686018427387904):PC 62 [rowV a,rowV b] (.bool (decide (a=b))):=by
 refine Xd hP g62_ok rfl rfl ?_;simp only[g62,Qf,Zcs,YF,QbB,List.length_map];refine⟨λh=>?_,λh=>?_⟩
 ·simp at h ⊢; rintro rfl; exact h rfl
 have hl:a.length=b.length:=by simp at h; omega
 refine Qi (ι:=Nat) (λi vs s=>vs=[iv i]∧i≤a.length∧a.take i=b.take i) (λi=>a.length-i) 0 ⟨rfl,by omega,by simp⟩ ?_;rintro i vs s again ⟨rfl,hi,ht⟩ hag;simp only[Zcs,h0,hdV,Xt,QbB];refine⟨λh=>?_,λh=>?_⟩
 ·have h:i<a.length:=by simpa using h
  simp[Zn _ cel _ _ _ a _ i h,Zn _ cel _ _ _ b _ i (by omega),cel,Qe (n:=i) (by omega)];refine⟨λhne e=>?_,λhe=>?_⟩
  ·subst e; exact hne rfl
  ·refine hag (i+1) _ _ (by omega) ⟨rfl,by omega,?_⟩;rw[List.take_succ_eq_append_getElem h,List.take_succ_eq_append_getElem (by omega),ht,he]
 ·have h:¬i<a.length:=by simpa using h
  rw[List.take_of_length_le (by omega),List.take_of_length_le (by omega)] at ht;simp[ht]
def Grows(n:Nat)(rows:List (List AVal))(k:Nat)(v:AVal)(σ:List ABlk):Prop:=
 (k=0∧v=.nils∧rows=[])∨(0<k∧∃b,v=.sl b 0 k false∧hget σ b=.rows n rows∧rows.length=k)
theorem Grows.nil(n:Nat)(σ:List ABlk):Grows n [] 0 .nils σ:=.inl ⟨rfl,rfl,rfl⟩
end Go.Ah.Tz
end
section
namespace Go.Ah.Tz
open Go.Proofs.Tryz (prog)
attribute [local irreducible] Ans.rd Ans.pu Ans.wr Ans.dr Ans.gr Ans.gw Ans.gl Ans.gd Ans.opt joinK W
structure SdLe (n:Nat) (s:Sd):Prop where
 deck:s.deck.length≤n
 hand:s.hand.length≤n
 grave:s.grave.length≤n
 units:s.units.length≤n
 told:s.told.length≤n
structure StLe (n:Nat) (s:St):Prop where
 attack:s.attack.length≤n
 s0:SdLe n s.s0
 s1:SdLe n s.s1
@[reducible] def sdO(s:Sd)(b:Nat):List AVal:=[iv s.life,iv s.mana,iv s.most,.sl b 0 s.deck.length false,.sl (b+1) 0 s.hand.length false,.sl (b+2) 0 s.grave.length false,.sl (b+3) 0 s.units.length false,.sl (b+4) 0 s.told.length false]
@[reducible] def sdB(s:Sd):List ABlk:=[.rows 1 (s.deck.map cel),.rows 1 (s.hand.map cel),.rows 1 (s.grave.map cel),.rows 4 (s.units.map thC),.rows 1 (s.told.map cel)]
@[reducible] def stO(s:St)(b:Nat):List AVal:=[iv s.turn,iv s.mover,iv8 s.phase,.bool s.struck,iv8 s.result,.sl b 0 s.attack.length false,iv s.next]++sdO s.s0 (b+1)++sdO s.s1 (b+6)
@[reducible] def stB(s:St):List ABlk:=.rows 1 (s.attack.map cel)::sdB s.s0++sdB s.s1
def fnd(l:List Th)(id:Int):Option Nat:=l.findIdx? (λu=>decide (u.id=id))
theorem Zbn{l:List Th}{id:Int}{i:Nat}(h:i<l.length)(h2:l[i].id=id)(hb:∀j (hj:j<l.length),j<i→l[j].id≠id):fnd l id=some i:=by
 unfold fnd;rw[List.findIdx?_eq_some_iff_getElem];exact⟨h,by simpa using h2,λj hj=>by simpa using hb j (by omega) hj⟩
theorem Qbm{l:List Th}{id:Int}(hb:∀j (hj:j<l.length),l[j].id≠id):fnd l id=none:=by
 unfold fnd;rw[List.findIdx?_eq_none_iff];intro x hx;obtain⟨j,hj,rfl⟩:=List.getElem_of_mem hx;simpa using hb j hj
def unitR(s:St)(id:Int):Int×Int×Bool:=match fnd s.s0.units id with
 |some k=>(0,k,true)
 |none=>match fnd s.s1.units id with
  |some k=>(1,k,true)
  |none=>(0,0,false)
def unitV(s:St)(id:Int):AVal:=.tup [iv (unitR s id).1,iv (unitR s id).2.1,.bool (unitR s id).2.2]
theorem c23(s:St)(hs:StLe 1000000000 s)(id:Int):PC 23 [stV s,iv id] (unitV s id):=by
 refine Xd hP g23_ok rfl rfl ?_;unfold g23;have w1:IntKind.i64.wrap (0+1)=1:=by decide
 have w2:IntKind.i64.wrap (1+1)=2:=by decide
 have u0:=hs.s0.units;have u1:=hs.s1.units;repeat first|refine Za rfl ?_|refine Zh rfl rfl ?_
 refine QH 3 (Ym ?_);refine Za rfl (Ze ?_);refine Qi (ι:=Nat) (λi vs σ=>vs=[iv i]∧σ=[.box (stC s)]∧i≤s.s0.units.length∧∀j (hj:j<s.s0.units.length),j<i→s.s0.units[j].id≠id) (λi=>s.s0.units.length-i) 0 ⟨rfl,rfl,by omega,λj _ h=>by omega⟩ ?_;rintro i vs σ again ⟨rfl,rfl,hi,hb⟩ hag;repeat first|refine Za rfl ?_|refine Zh rfl rfl ?_
 refine Zc (λh=>?_) (λh=>?_)
 ·have h:i<s.s0.units.length:=by simpa using h
  repeat first|refine Za rfl ?_|refine Zh rfl rfl ?_
  refine Za (Zn _ thC _ _ _ _ _ i h) ?_;repeat first|refine Za rfl ?_|refine Zh rfl rfl ?_
  refine Zc (λh2=>?_) (λh2=>?_)
  ·have h2:s.s0.units[i].id=id:=by simpa using h2
   have hf:fnd s.s0.units id=some i:=Zbn h h2 hb;simp[unitV,unitR,hf]
  ·have h2:s.s0.units[i].id≠id:=by simpa using h2
   refine Za rfl ?_;rw[Qe (n:=i) (by omega)];refine hag (i+1) _ _ (by omega) ⟨rfl,rfl,by omega,λj hj hji=>?_⟩;by_cases e:j=i
   ·subst e; exact h2
   ·exact hb j hj (by omega)
 have h:¬i<s.s0.units.length:=by simpa using h
 have hn0:fnd s.s0.units id=none:=Qbm (λj hj=>hb j hj (by omega));refine Za rfl ?_;rw[w1];refine Ym ?_;refine Za rfl (Ze ?_);refine Qi (ι:=Nat) (λi vs σ=>vs=[iv i]∧σ=[.box (stC s)]∧i≤s.s1.units.length∧∀j (hj:j<s.s1.units.length),j<i→s.s1.units[j].id≠id) (λi=>s.s1.units.length-i) 0 ⟨rfl,rfl,by omega,λj _ h=>by omega⟩ ?_;rintro i vs σ again ⟨rfl,rfl,hi,hb⟩ hag;repeat first|refine Za rfl ?_|refine Zh rfl rfl ?_
 refine Zc (λh=>?_) (λh=>?_)
 ·have h:i<s.s1.units.length:=by simpa using h
  repeat first|refine Za rfl ?_|refine Zh rfl rfl ?_
  refine Za (Zn _ thC _ _ _ _ _ i h) ?_;repeat first|refine Za rfl ?_|refine Zh rfl rfl ?_
  refine Zc (λh2=>?_) (λh2=>?_)
  ·have h2:s.s1.units[i].id=id:=by simpa using h2
   have hf:fnd s.s1.units id=some i:=Zbn h h2 hb;simp[unitV,unitR,hn0,hf]
  ·have h2:s.s1.units[i].id≠id:=by simpa using h2
   refine Za rfl ?_;rw[Qe (n:=i) (by omega)];refine hag (i+1) _ _ (by omega) ⟨rfl,rfl,by omega,λj hj hji=>?_⟩;by_cases e:j=i
   ·subst e; exact h2
   ·exact hb j hj (by omega)
 have h:¬i<s.s1.units.length:=by simpa using h
 have hn1:fnd s.s1.units id=none:=Qbm (λj hj=>hb j hj (by omega));refine Za rfl ?_;rw[w2];refine Ym ?_;refine Za rfl (Xi ?_);simp[unitV,unitR,hn0,hn1]
def wIn(n:Int):Bool:=decide (-1000000≤n)&&decide (n≤1000000)
theorem c116(n:Int):PC 116 [iv n] (.bool (wIn n)):=by
 refine Xd hP g116_ok rfl rfl ?_;unfold g116;refine Za rfl ?_;rcases YBE (decide (n ≥ -1000000)) with h|h
 ·rw[h];repeat first|refine Za rfl ?_|refine Zh rfl rfl ?_|refine Xa ?_|refine Xb ?_
  have h':-1000000≤n:=by simpa using h
  simp[wIn,h']
 ·rw[h];repeat first|refine Zb rfl ?_|refine Yc rfl ?_|refine Qc rfl ?_|refine Zd rfl ?_|refine Za rfl ?_|refine Zh rfl rfl ?_
  have h':¬ -1000000≤n:=by simpa using h
  simp[wIn,h']
theorem c57(n:Int):PC 57 [iv n] (.bool (wIn n)):=by
 refine Xd hP g57_ok rfl rfl ?_;unfold g57;refine Za rfl ?_;rcases YBE (decide (n ≥ -1000000)) with h|h
 ·rw[h];repeat first|refine Za rfl ?_|refine Zh rfl rfl ?_|refine Xa ?_|refine Xb ?_
  have h':-1000000≤n:=by simpa using h
  simp[wIn,h']
 ·rw[h];repeat first|refine Zb rfl ?_|refine Yc rfl ?_|refine Qc rfl ?_|refine Zd rfl ?_|refine Za rfl ?_|refine Zh rfl rfl ?_
  have h':¬ -1000000≤n:=by simpa using h
  simp[wIn,h']
def Xo(n:Nat)(l:List Int)(most:Int):Bool:=decide ((l.length:Int)≤most)&&l.all λc=>decide (0≤c)&&decide (c<n)
theorem c117(b:Bk)(l:List Int)(most:Int)(hl:l.length≤1000000000):PC 117 [bkV b,rowV l,iv most] (.bool (Xo b.cards.length l most)):=by
 refine Xd hP g117_ok rfl rfl ?_;unfold g117;repeat first|refine Za rfl ?_|refine Zh rfl rfl ?_|refine Xa ?_|refine Xb ?_
 refine Zc (λh=>?_) (λh=>?_)
 ·have h:most<l.length:=by simpa using h
  have h':¬(l.length:Int)≤most:=by omega
  simp[Xo,h']
 have hm:(l.length:Int)≤most:=by simpa using h
 refine Qi (ι:=Nat) (λi vs σ=>vs=[iv i]∧σ=[.box [cdV b.cards,foV b.formats]]∧i≤l.length∧∀j (hj:j<l.length),j<i→0≤l[j]∧l[j]<b.cards.length) (λi=>l.length-i) 0 ⟨rfl,rfl,by omega,λj _ h=>by omega⟩ ?_;rintro i vs σ again ⟨rfl,rfl,hi,hb⟩ hag;repeat first|refine Za rfl ?_|refine Zh rfl rfl ?_|refine Xa ?_|refine Xb ?_
 refine Zc (λh=>?_) (λh=>?_)
 ·have h:i<l.length:=by simpa using h
  refine Za (Zn _ cel _ _ _ l _ i h) ?_;repeat first|refine Za rfl ?_|refine Zh rfl rfl ?_|refine Xa ?_|refine Xb ?_
  have bad:¬(0≤l[i]∧l[i]<b.cards.length)→AVal.bool false=AVal.bool (Xo b.cards.length l most):=by
   intro hn;have:Xo b.cards.length l most=false:=by
    simp only[Xo,Bool.and_eq_false_iff];right;rw[List.all_eq_false];refine⟨l[i],List.getElem_mem h,?_⟩;simpa using hn
   rw[this]
  rcases YBE (decide (l[i]<0)) with h2|h2
  ·rw[h2];repeat first|refine Zb rfl ?_|refine Yc rfl ?_|refine Qc rfl ?_|refine Zd rfl ?_|refine Za rfl ?_|refine Zh rfl rfl ?_
   refine Ze (bad ?_);have:l[i]<0:=by simpa using h2
   omega
  rw[h2];repeat first|refine Xa ?_|refine Za rfl ?_
  refine Za (Zn _ cel _ _ _ l _ i h) ?_;repeat first|refine Za rfl ?_|refine Zh rfl rfl ?_|refine Xa ?_|refine Xb ?_
  have h2:¬l[i]<0:=by simpa using h2
  refine Zc (λh3=>?_) (λh3=>?_)
  ·refine bad ?_;have:(b.cards.length:Int)≤l[i]:=by simpa using h3
   omega
  ·have:¬(b.cards.length:Int)≤l[i]:=by simpa using h3
   refine Za rfl ?_;rw[Qe (n:=i) (by omega)];refine hag (i+1) _ _ (by omega) ⟨rfl,rfl,by omega,λj hj hji=>?_⟩;by_cases e:j=i
   ·subst e; omega
   ·exact hb j hj (by omega)
 ·have h:¬i<l.length:=by simpa using h
  have:Xo b.cards.length l most=true:=by
   simp only[Xo,Bool.and_eq_true,decide_eq_true_eq,List.all_eq_true];refine⟨hm,λx hx=>?_⟩;obtain⟨j,hj,rfl⟩:=List.getElem_of_mem hx;exact hb j hj (by omega)
  rw[this]
end Go.Ah.Tz
end
section
namespace Go.Ah.Tz
open Go.Proofs.Tryz (prog)
theorem ld{σ:List ABlk}{b j n:Nat}{agg:Bool}{row:List AVal}{v:AVal}(hb:hget σ b=.box row)(hv:partA agg j n row=some v):Xc agg n [.bptr b j] σ=.ok v [b] []:=by
 rw[Qb3,hb]; simp only[hv]
theorem stv{σ:List ABlk}{b j n:Nat}{x:AVal}{cs row row':List AVal}(hb:hget σ b=.box row)(hc:cellsOf x=some cs)(hn:Nat.beq cs.length n=true)(hs:splice j cs row=some row'):Qb n [.bptr b j,x] σ=.ok .junk [] [(b,.box row')]:=by
 rw[QbL,hb]; simp only[hc,hn,cond_true,hs]
theorem Qs{P:Program}{GL:Globs}{σ:List ABlk}{z:List AVal}{n:Nat}{x:AVal}{row row':List AVal}{K:AVal→AVal→List ABlk→Prop}(hc:cellsOf x=some row)(hn:Nat.beq row.length n=true)(hs:splice 0 row z=some row')
 (hK:K (.bptr σ.length 0) .junk (σ++[.box row'])):(W P GL).wr (Yf z [] σ) σ (λt σ'=>(W P GL).wr (Qb n [t,x] σ') σ' (K t)):=by
 refine Zh (QbK σ z) (Zy _ _) ?_;refine Zh (stv (Yj _ _) hc hn hs) (Ys _ (by simp)) ?_;have:(σ++[ABlk.box z]).set σ.length (.box row')=σ++[.box row']:=by
  rw[List.set_append_right _ _ (Nat.le_refl _)]; simp
 rw[this]; exact hK
def BX(σ σ':List ABlk):Prop:=∀c r,hget σ c=.box r→hget σ' c=.box r
theorem BX.trans{a b c:List ABlk}(h:BX a b)(k:BX b c):BX a c:=λx r e=>k x r (h x r e)
theorem BX.app(σ l:List ABlk):BX σ (σ++l):=λ_ _ h=>Xj l h (by simp)
theorem Grows.more{n k:Nat}{rows:List (List AVal)}{v:AVal}{σ:List ABlk}(h:Grows n rows k v σ)(l:List ABlk):Grows n rows k v (σ++l):=by
 rcases h with h|⟨h1,b,h2,h3,h4⟩
 ·exact .inl h
 ·exact .inr ⟨h1,b,h2,Xj l h3 (by simp),h4⟩
theorem Grows.len{n k:Nat}{rows:List (List AVal)}{v:AVal}{σ:List ABlk}(h:Grows n rows k v σ)(σ':List ABlk):Xe [v] σ'=.ok (.int .i64 k) [] []:=by
 rcases h with ⟨rfl,rfl,_⟩|⟨_,b,rfl,_,_⟩<;>rfl
theorem Grows.at{n k:Nat}{rows:List (List AVal)}{v:AVal}{σ:List ABlk}(h:Grows n rows k v σ)(q:IntKind)(j:Nat)(hj:j<k) :
  ∃b,Yb n [v,.int q (j:Int)] σ=.ok (.ptr b j 0) [b] []∧∃hj:j<rows.length,∀agg m w,partA agg 0 m rows[j]=some w→Xc agg m [.ptr b j 0] σ=.ok w [b] []:=by
 rcases h with ⟨rfl,rfl,_⟩|⟨_,b,rfl,hb,hl⟩
 ·omega
 ·refine⟨b,?_,by omega,λagg m w hw=>?_⟩
  ·have:=Zbc σ b 0 k false n rows q j hj hb
   rwa [Nat.zero_add] at this
  ·show (match hget σ b with
   |.rows _ rs=>match nth rs j with
    |some row=>match partA agg 0 m row with
     |some v=>SRes.ok v [b] []
     |none=>.stop
    |none=>.stop
   | _=>.stop)=_
   rw[hb];simp only[XW,List.getElem?_eq_getElem (show j<rows.length by omega),hw]
theorem Grows.app'{α:Type}(A:Ans α){hold:α→Prop}{n by_ k:Nat}{rows:List (List AVal)}{v:AVal}{σ:List ABlk}{row:List AVal}(hg:Grows n rows k v σ)(hr:row.all AVal.cell=true)(hroom:(2*(k+1)+192)*by_≤2 ^ 48)(K:AVal→List ABlk→α)
 (hK:∀v' σ',BX σ σ'→Grows n (rows++[row]) (k+1) v' σ'→hold (K v' σ')):hold (A.wr (Zi n by_ [v,.sl σ.length 0 1 true] (σ++[.rows n [row]])) (σ++[.rows n [row]]) K):=by
 rcases hg with ⟨rfl,rfl,rfl⟩|⟨hk,b,rfl,hb,hl⟩
 ·rw[Xbh A n by_ σ row hr (by simpa using hroom)];exact hK _ _ ((BX.app _ _).trans (BX.app _ _)) (.inr ⟨by omega,_,rfl,by have:=Yj (σ++[.rows n [row]]) (.rows n [row]); simpa using this,rfl⟩)
 ·rw[Qa8 A n by_ σ b k false rows row hb hl hr hroom];refine hK _ _ (BX.trans (λc r hc=>?_) ((BX.app (σ.set b .dead) _).trans (BX.app _ _))) (.inr ⟨by omega,_,rfl,?_,by simp[hl]⟩)
  ·refine Zp hc (by simp) ?_;rintro rfl;rw[hb] at hc; cases hc
  ·have:=Yj (σ.set b .dead++[.rows n [row]]) (.rows n (rows++[row]));simpa using this
theorem Ybc{α:Type}(σ:List ABlk)(f:α→List AVal)(e n:Bool)(s:Nat)(l:List α)(k:IntKind)(c:Int)(h0:0≤c)(h:c.toNat<l.length):Yb s [.rsl e n s (l.map f),.int k c] σ=.ok (.rptr (f l[c.toNat]) 0) [] []:=by
 obtain⟨m,rfl⟩:=Int.eq_ofNat_of_zero_le h0;exact Zn σ f e n s l k m (by simpa using h)
def Xw(b:Bk)(next:Int)(u:Th):Bool:=decide (0≤u.card)&&(decide (u.card<b.cards.length)&&(((b.cards[u.card.toNat]?).map Cd.unit).getD false&&(decide (0≤u.harm)&&(decide (u.harm≤1000000)&&(decide (1≤u.id)&&decide (u.id<next))))))
def Yr(b:Bk)(next:Int):List Int→List Th→Bool
 |_,[]=>true
 |ids,u::l=>Xw b next u&&(!(ids.contains u.id)&&Yr b next (ids++[u.id]) l)
def Xm(n:Nat)(x:Sd):Bool:=wIn x.life&&(decide (0≤x.mana)&&(wIn x.mana&&(decide (0≤x.most)&&(decide (x.most≤10)&&(Xo n x.deck 60&&(Xo n x.hand 10&&(Xo n x.grave 1000000&&(Xo n x.told 1000000&&decide (x.units.length≤7)))))))))
def Yu(b:Bk)(s:St):Bool:=Xm b.cards.length s.s0&&(Yr b s.next [] s.s0.units&&(Xm b.cards.length s.s1&&Yr b s.next (s.s0.units.map Th.id) s.s1.units))
end Go.Ah.Tz
end
section
namespace Go.Ah.Tz
open Go.Proofs.Tryz (prog)
attribute [local irreducible] Ans.rd Ans.pu Ans.wr Ans.dr Ans.gr Ans.gw Ans.gl Ans.gd Ans.opt joinK W
set_option maxHeartbeats 2000000
theorem c68(b:Bk)(s:St)(hs:StLe 1000000000 s):PC 68 [bkV b,stV s] (.bool (Yu b s)):=by
 refine Xd hP g68_ok rfl rfl ?_;unfold g68;have w1:IntKind.i64.wrap (0+1)=1:=by decide
 have w2:IntKind.i64.wrap (1+1)=2:=by decide
 repeat first|refine Za rfl ?_|refine Zh rfl rfl ?_
 have hB0:hget ([]++[ABlk.box [cdV b.cards,foV b.formats]]++[ABlk.box (stC s)]) 0=.box [cdV b.cards,foV b.formats]:=rfl;have hB1:hget ([]++[ABlk.box [cdV b.cards,foV b.formats]]++[ABlk.box (stC s)]) 1=.box (stC s):=rfl;have hg:Grows 1 (([]:List Int).map cel) 0 .nils ([]++[ABlk.box [cdV b.cards,foV b.formats]]++[ABlk.box (stC s)]):=Grows.nil _ _;generalize ([]++[ABlk.box [cdV b.cards,foV b.formats]]++[ABlk.box (stC s)]:List ABlk)=σ at hB0 hB1 hg ⊢;refine QH 3 (Ym ?_);refine Za rfl (Ze ?_);refine Za rfl (Za rfl (Za (ld hB1 rfl) ?_));refine Qs rfl rfl rfl ?_;have hB2:hget (σ++[.box (sdC s.s0)]) σ.length=.box (sdC s.s0):=Yj _ _
 replace hB0:=Xj [.box (sdC s.s0)] hB0 (by simp)
 replace hB1:=Xj [.box (sdC s.s0)] hB1 (by simp)
 replace hg:=hg.more [.box (sdC s.s0)]
 generalize hN:σ.length=N at hB2 ⊢;clear hN;generalize (σ++[ABlk.box (sdC s.s0)]:List ABlk)=σ2 at hB0 hB1 hB2 hg ⊢;have bad:Xm b.cards.length s.s0=false→AVal.bool false=AVal.bool (Yu b s):=by intro h; simp[Yu,h]
 repeat first|refine Xa ?_|refine Xb ?_|refine Za (ld hB2 rfl) ?_|refine Za rfl ?_
 refine Yd (c116 _) rfl g116_ok.plain rfl ?_;refine Za rfl ?_;rcases YBE (!wIn s.s0.life) with a1|a1
 ·rw[a1];repeat first|refine Zb rfl ?_|refine Yc rfl ?_|refine Qc rfl ?_|refine Zd rfl ?_|refine Za rfl ?_
  refine Ze (bad ?_);simp at a1;simp[Xm,a1]
 rw[a1];repeat first|refine Xa ?_|refine Xb ?_|refine Za (ld hB2 rfl) ?_|refine Za rfl ?_
 rcases YBE (decide (s.s0.mana<0)) with a2|a2
 ·rw[a2];repeat first|refine Zb rfl ?_|refine Yc rfl ?_|refine Qc rfl ?_|refine Zd rfl ?_|refine Za rfl ?_
  refine Ze (bad ?_);simp at a2;simp[Xm,show ¬0≤s.s0.mana by omega]
 rw[a2];repeat first|refine Xa ?_|refine Xb ?_|refine Za (ld hB2 rfl) ?_|refine Za rfl ?_
 refine Yd (c116 _) rfl g116_ok.plain rfl ?_;repeat first|refine Xa ?_|refine Xb ?_|refine Za (ld hB2 rfl) ?_|refine Za rfl ?_
 rcases YBE (!wIn s.s0.mana) with a3|a3
 ·rw[a3];repeat first|refine Zb rfl ?_|refine Yc rfl ?_|refine Qc rfl ?_|refine Zd rfl ?_|refine Za rfl ?_
  refine Ze (bad ?_);simp at a3;simp[Xm,a3]
 rw[a3];repeat first|refine Xa ?_|refine Xb ?_|refine Za (ld hB2 rfl) ?_|refine Za rfl ?_
 rcases YBE (decide (s.s0.most<0)) with a4|a4
 ·rw[a4];repeat first|refine Zb rfl ?_|refine Yc rfl ?_|refine Qc rfl ?_|refine Zd rfl ?_|refine Za rfl ?_
  refine Ze (bad ?_);simp at a4;simp[Xm,show ¬0≤s.s0.most by omega]
 rw[a4];repeat first|refine Xa ?_|refine Xb ?_|refine Za (ld hB2 rfl) ?_|refine Za rfl ?_
 refine Zc (λa5=>bad ?_) (λa5=>?_)
 ·have a5:10<s.s0.most:=by simpa using a5
  simp[Xm,show ¬s.s0.most≤10 by omega]
 refine Za (ld hB0 rfl) ?_;repeat first|refine Xa ?_|refine Xb ?_|refine Za (ld hB2 rfl) ?_|refine Za rfl ?_
 refine Yd (c117 _ _ _ hs.s0.deck) rfl g117_ok.plain rfl ?_;refine Za rfl ?_;rcases YBE (!Xo b.cards.length s.s0.deck 60) with a6|a6
 ·rw[a6];repeat first|refine Zb rfl ?_|refine Yc rfl ?_|refine Qc rfl ?_|refine Zd rfl ?_|refine Za rfl ?_
  refine Ze (bad ?_);simp at a6;simp[Xm,a6]
 rw[a6];repeat first|refine Xa ?_|refine Xb ?_|refine Za (ld hB2 rfl) ?_|refine Za (ld hB0 rfl) ?_|refine Za rfl ?_
 refine Yd (c117 _ _ _ hs.s0.hand) rfl g117_ok.plain rfl ?_;repeat first|refine Xa ?_|refine Xb ?_|refine Za (ld hB2 rfl) ?_|refine Za (ld hB0 rfl) ?_|refine Za rfl ?_
 rcases YBE (!Xo b.cards.length s.s0.hand 10) with a7|a7
 ·rw[a7];repeat first|refine Zb rfl ?_|refine Yc rfl ?_|refine Qc rfl ?_|refine Zd rfl ?_|refine Za rfl ?_
  refine Ze (bad ?_);simp at a7;simp[Xm,a7]
 rw[a7];repeat first|refine Xa ?_|refine Xb ?_|refine Za (ld hB2 rfl) ?_|refine Za (ld hB0 rfl) ?_|refine Za rfl ?_
 refine Yd (c117 _ _ _ hs.s0.grave) rfl g117_ok.plain rfl ?_;repeat first|refine Xa ?_|refine Xb ?_|refine Za (ld hB2 rfl) ?_|refine Za (ld hB0 rfl) ?_|refine Za rfl ?_
 rcases YBE (!Xo b.cards.length s.s0.grave 1000000) with a8|a8
 ·rw[a8];repeat first|refine Zb rfl ?_|refine Yc rfl ?_|refine Qc rfl ?_|refine Zd rfl ?_|refine Za rfl ?_
  refine Ze (bad ?_);simp at a8;simp[Xm,a8]
 rw[a8];repeat first|refine Xa ?_|refine Xb ?_|refine Za (ld hB2 rfl) ?_|refine Za (ld hB0 rfl) ?_|refine Za rfl ?_
 refine Yd (c117 _ _ _ hs.s0.told) rfl g117_ok.plain rfl ?_;repeat first|refine Xa ?_|refine Xb ?_|refine Za (ld hB2 rfl) ?_|refine Za (ld hB0 rfl) ?_|refine Za rfl ?_
 rcases YBE (!Xo b.cards.length s.s0.told 1000000) with a9|a9
 ·rw[a9];repeat first|refine Zb rfl ?_|refine Yc rfl ?_|refine Qc rfl ?_|refine Zd rfl ?_|refine Za rfl ?_
  refine Ze (bad ?_);simp at a9;simp[Xm,a9]
 rw[a9];repeat first|refine Xa ?_|refine Xb ?_|refine Za (ld hB2 rfl) ?_|refine Za (ld hB0 rfl) ?_|refine Za rfl ?_
 refine Zc (λa10=>bad ?_) (λa10=>?_)
 ·have a10:7<s.s0.units.length:=by simp at a10; omega
  simp[Xm,show ¬s.s0.units.length≤7 by omega]
 have hds0:Xm b.cards.length s.s0=true:=by
  simp at a1 a2 a3 a4 a5 a6 a7 a8 a9 a10;simp[Xm,a1,a2,a3,a4,a5,a6,a7,a8,a9]; omega
 have a10':s.s0.units.length≤7:=by simp at a10; omega
 clear a1 a2 a3 a4 a5 a6 a7 a8 a9 a10 bad;have badu:Yr b s.next [] s.s0.units=false→AVal.bool false=AVal.bool (Yu b s):=by intro h; simp[Yu,h]
 refine Qi (ι:=Nat) (λi vs σ=>∃v,vs=[iv i,v]∧i≤s.s0.units.length∧Grows 1 (([]++(s.s0.units.take i).map Th.id).map cel) (0+i) v σ∧hget σ 0=.box [cdV b.cards,foV b.formats]∧hget σ 1=.box (stC s)∧hget σ N=.box (sdC s.s0)∧Yr b s.next [] s.s0.units=Yr b s.next ([]++(s.s0.units.take i).map Th.id) (s.s0.units.drop i)) (λi=>s.s0.units.length-i) 0 ⟨_,rfl,by omega,(by simp only[Ah.h1,hdV,tlV,List.take_zero,List.map_nil,List.append_nil,Nat.add_zero]; exact hg),hB0,hB1,hB2,by simp⟩ ?_;clear hB0 hB1 hB2 hg;rintro i vs σ3 again ⟨v,rfl,hi,hg,hB0,hB1,hB2,hu⟩ hag;repeat first|refine Xa ?_|refine Xb ?_|refine Za (ld hB2 rfl) ?_|refine Za rfl ?_
 refine Zc (λh=>?_) (λh=>?_)
 ·have h:i<s.s0.units.length:=by simpa using h
  have hdr:s.s0.units.drop i=s.s0.units[i]::s.s0.units.drop (i+1):=by rw[YLD h]
  rw[hdr] at hu;repeat first|refine Xa ?_|refine Xb ?_|refine Za (ld hB2 rfl) ?_|refine Za rfl ?_
  refine Za (Zn _ thC _ _ _ _ _ i h) ?_;refine Za rfl ?_;refine Qs rfl rfl rfl ?_;generalize hU:s.s0.units[i]=u at hu hdr;have hB3:hget (σ3++[.box (thC u)]) σ3.length=.box (thC u):=Yj _ _
  replace hB0:=Xj [.box (thC u)] hB0 (by simp)
  replace hB1:=Xj [.box (thC u)] hB1 (by simp)
  replace hB2:=Xj [.box (thC u)] hB2 (by simp)
  replace hg:=hg.more [.box (thC u)]
  generalize hN:σ3.length=N3 at hB3 ⊢;clear hN;simp only[AVal.cell];generalize hσ4:(σ3++[ABlk.box (thC u)]:List ABlk)=σ4 at hB0 hB1 hB2 hB3 hg;have hσ5:(σ3++[ABlk.box [iv u.id,iv u.card,iv u.harm,.bool u.tired]]:List ABlk)=σ4:=hσ4
  first|rw[hσ5]|rw[hσ4]|skip
  have badq:Xw b s.next u=false→AVal.bool false=AVal.bool (Yu b s):=by intro h; apply badu; rw[hu]; simp[Yr,h]
  repeat first|refine Xa ?_|refine Xb ?_|refine Za (ld hB3 rfl) ?_|refine Za (ld hB0 rfl) ?_|refine Za (ld hB1 rfl) ?_|refine Za rfl ?_
  rcases YBE (decide (u.card<0)) with q1|q1
  ·rw[q1];repeat first|refine Zb rfl ?_|refine Yc rfl ?_|refine Qc rfl ?_|refine Zd rfl ?_|refine Za rfl ?_
   refine Ze (badq ?_);simp at q1;simp[Xw,show ¬0≤u.card by omega]
  rw[q1];repeat first|refine Xa ?_|refine Xb ?_|refine Za (ld hB3 rfl) ?_|refine Za (ld hB0 rfl) ?_|refine Za (ld hB1 rfl) ?_|refine Za rfl ?_
  rcases YBE (decide (u.card ≥ (b.cards.map cdC).length)) with q2|q2
  ·rw[q2];repeat first|refine Zb rfl ?_|refine Yc rfl ?_|refine Qc rfl ?_|refine Zd rfl ?_|refine Za rfl ?_
   refine Ze (badq ?_);simp at q2;simp[Xw,show ¬u.card<b.cards.length by omega]
  rw[q2];simp at q1 q2;have hc:u.card.toNat<b.cards.length:=by omega
  have hcu:b.cards[u.card.toNat]?=some b.cards[u.card.toNat]:=by simp[hc]
  repeat first|refine Xa ?_|refine Xb ?_|refine Za (ld hB3 rfl) ?_|refine Za (ld hB0 rfl) ?_|refine Za (ld hB1 rfl) ?_|refine Za rfl ?_
  refine Za (Ybc _ cdC _ _ _ _ _ _ (by omega) hc) ?_;repeat first|refine Xa ?_|refine Xb ?_|refine Za (ld hB3 rfl) ?_|refine Za (ld hB0 rfl) ?_|refine Za (ld hB1 rfl) ?_|refine Za rfl ?_
  rcases YBE (!(b.cards[u.card.toNat]).unit) with q3|q3
  ·rw[q3];repeat first|refine Zb rfl ?_|refine Yc rfl ?_|refine Qc rfl ?_|refine Zd rfl ?_|refine Za rfl ?_
   refine Ze (badq ?_);simp at q3;simp[Xw,hcu,q3]
  rw[q3];repeat first|refine Xa ?_|refine Xb ?_|refine Za (ld hB3 rfl) ?_|refine Za (ld hB0 rfl) ?_|refine Za (ld hB1 rfl) ?_|refine Za rfl ?_
  rcases YBE (decide (u.harm<0)) with q4|q4
  ·rw[q4];repeat first|refine Zb rfl ?_|refine Yc rfl ?_|refine Qc rfl ?_|refine Zd rfl ?_|refine Za rfl ?_
   refine Ze (badq ?_);simp at q4;simp[Xw,show ¬0≤u.harm by omega]
  rw[q4];repeat first|refine Xa ?_|refine Xb ?_|refine Za (ld hB3 rfl) ?_|refine Za (ld hB0 rfl) ?_|refine Za (ld hB1 rfl) ?_|refine Za rfl ?_
  rcases YBE (decide (u.harm>1000000)) with q5|q5
  ·rw[q5];repeat first|refine Zb rfl ?_|refine Yc rfl ?_|refine Qc rfl ?_|refine Zd rfl ?_|refine Za rfl ?_
   refine Ze (badq ?_);simp at q5;simp[Xw,show ¬u.harm≤1000000 by omega]
  rw[q5];repeat first|refine Xa ?_|refine Xb ?_|refine Za (ld hB3 rfl) ?_|refine Za (ld hB0 rfl) ?_|refine Za (ld hB1 rfl) ?_|refine Za rfl ?_
  rcases YBE (decide (u.id<1)) with q6|q6
  ·rw[q6];repeat first|refine Zb rfl ?_|refine Yc rfl ?_|refine Qc rfl ?_|refine Zd rfl ?_|refine Za rfl ?_
   refine Ze (badq ?_);simp at q6;simp[Xw,show ¬1≤u.id by omega]
  rw[q6];repeat first|refine Xa ?_|refine Xb ?_|refine Za (ld hB3 rfl) ?_|refine Za (ld hB0 rfl) ?_|refine Za (ld hB1 rfl) ?_|refine Za rfl ?_
  refine Zc (λq7=>badq ?_) (λq7=>?_)
  ·have q7:s.next≤u.id:=by simpa using q7
   simp[Xw,show ¬u.id<s.next by omega]
  have hok:Xw b s.next u=true:=by
   simp at q3 q4 q5 q6 q7;simp[Xw,hcu,q3]; omega
  rw[Yr,hok,Bool.true_and] at hu;generalize hids:[]++(s.s0.units.take i).map Th.id=ids at hg hu;have hkl:ids.length=0+i:=by rw[←hids]; simp[List.length_take,Nat.min_eq_left hi]
  refine Qi (ι:=Nat) (λj vs σ=>vs=[iv j]∧σ=σ4∧j≤ids.length∧∀m (hm:m<ids.length),m<j→ids[m]≠u.id) (λj=>ids.length-j) 0 ⟨rfl,rfl,by omega,λm _ h=>by omega⟩ ?_;rintro j vs σ again2 ⟨rfl,rfl,hj,hb2⟩ hag2;refine Za (hg.len _) (Za rfl ?_);refine Zc (λh2=>?_) (λh2=>?_)
  ·have h2:j<ids.length:=by rw[hkl]; simp at h2; omega
   obtain⟨bb,e1,hjl,e2⟩:=hg.at .i64 j (by omega);refine Za e1 ?_;refine Za (e2 false 1 (iv ids[j]) (by simp[cel])) ?_;repeat first|refine Xa ?_|refine Xb ?_|refine Za (ld hB3 rfl) ?_|refine Za (ld hB0 rfl) ?_|refine Za (ld hB1 rfl) ?_|refine Za rfl ?_
   refine Zc (λh3=>?_) (λh3=>?_)
   ·have h3:ids[j]=u.id:=by simpa using h3
    apply badu; rw[hu];have:u.id∈ids:=by rw[←h3]; exact List.getElem_mem h2
    simp[this]
   ·have h3:ids[j]≠u.id:=by simpa using h3
    refine Za rfl ?_;rw[Qe (n:=j) (by omega)];refine hag2 (j+1) _ _ (by omega) ⟨rfl,rfl,by omega,λm hm hmj=>?_⟩;by_cases e:m=j
    ·subst e; exact h3
    ·exact hb2 m hm (by omega)
  ·have h2:¬j<ids.length:=by rw[hkl]; simp at h2; omega
   have hno:ids.contains u.id=false:=by
    rw[List.contains_eq_mem,decide_eq_false_iff_not];intro hm;obtain⟨m,hm,e⟩:=List.getElem_of_mem hm;exact hb2 m hm (by omega) e
   rw[hno,Bool.not_false,Bool.true_and] at hu;repeat first|refine Xa ?_|refine Xb ?_|refine Za (ld hB3 rfl) ?_|refine Za (ld hB0 rfl) ?_|refine Za (ld hB1 rfl) ?_|refine Za rfl ?_
   rw[Yad _ _ _ _ _ [iv u.id] rfl rfl];refine hg.app' _ (hold:=λp=>p) rfl (by omega) _ (λv' σ' hx hg'=>?_);refine Za rfl ?_;rw[Qe (n:=i) (by omega)];have hsn:[]++(s.s0.units.take (i+1)).map Th.id=ids++[u.id]:=by
    rw[←hids,Yw _ _ h,hU]; simp
   refine hag (i+1) _ _ (by omega) ⟨v',rfl,by omega,?_,hx _ _ hB0,hx _ _ hB1,hx _ _ hB2,?_⟩
   ·rw[hsn]; simpa[cel,Nat.add_assoc] using hg'
   ·rw[hsn]; exact hu
 have h:i=s.s0.units.length:=by simp at h; omega
 subst h;rw[List.take_length] at hg hu;have hus0:Yr b s.next [] s.s0.units=true:=by rw[hu]; simp[Yr]
 clear hag badu hu;refine Za rfl ?_;rw[w1];refine Ym ?_;simp only[List.nil_append,Nat.zero_add] at hg;generalize σ3=σ at hB0 hB1 hg ⊢;refine Za rfl (Ze ?_);refine Za rfl (Za rfl (Za (ld hB1 rfl) ?_));refine Qs rfl rfl rfl ?_;have hB2:hget (σ++[.box (sdC s.s1)]) σ.length=.box (sdC s.s1):=Yj _ _
 replace hB0:=Xj [.box (sdC s.s1)] hB0 (by simp)
 replace hB1:=Xj [.box (sdC s.s1)] hB1 (by simp)
 replace hg:=hg.more [.box (sdC s.s1)]
 generalize hN:σ.length=N at hB2 ⊢;clear hN;generalize (σ++[ABlk.box (sdC s.s1)]:List ABlk)=σ2 at hB0 hB1 hB2 hg ⊢;have bad:Xm b.cards.length s.s1=false→AVal.bool false=AVal.bool (Yu b s):=by intro h; simp[Yu,h]
 repeat first|refine Xa ?_|refine Xb ?_|refine Za (ld hB2 rfl) ?_|refine Za rfl ?_
 refine Yd (c116 _) rfl g116_ok.plain rfl ?_;refine Za rfl ?_;rcases YBE (!wIn s.s1.life) with a1|a1
 ·rw[a1];repeat first|refine Zb rfl ?_|refine Yc rfl ?_|refine Qc rfl ?_|refine Zd rfl ?_|refine Za rfl ?_
  refine Ze (bad ?_);simp at a1;simp[Xm,a1]
 rw[a1];repeat first|refine Xa ?_|refine Xb ?_|refine Za (ld hB2 rfl) ?_|refine Za rfl ?_
 rcases YBE (decide (s.s1.mana<0)) with a2|a2
 ·rw[a2];repeat first|refine Zb rfl ?_|refine Yc rfl ?_|refine Qc rfl ?_|refine Zd rfl ?_|refine Za rfl ?_
  refine Ze (bad ?_);simp at a2;simp[Xm,show ¬0≤s.s1.mana by omega]
 rw[a2];repeat first|refine Xa ?_|refine Xb ?_|refine Za (ld hB2 rfl) ?_|refine Za rfl ?_
 refine Yd (c116 _) rfl g116_ok.plain rfl ?_;repeat first|refine Xa ?_|refine Xb ?_|refine Za (ld hB2 rfl) ?_|refine Za rfl ?_
 rcases YBE (!wIn s.s1.mana) with a3|a3
 ·rw[a3];repeat first|refine Zb rfl ?_|refine Yc rfl ?_|refine Qc rfl ?_|refine Zd rfl ?_|refine Za rfl ?_
  refine Ze (bad ?_);simp at a3;simp[Xm,a3]
 rw[a3];repeat first|refine Xa ?_|refine Xb ?_|refine Za (ld hB2 rfl) ?_|refine Za rfl ?_
 rcases YBE (decide (s.s1.most<0)) with a4|a4
 ·rw[a4];repeat first|refine Zb rfl ?_|refine Yc rfl ?_|refine Qc rfl ?_|refine Zd rfl ?_|refine Za rfl ?_
  refine Ze (bad ?_);simp at a4;simp[Xm,show ¬0≤s.s1.most by omega]
 rw[a4];repeat first|refine Xa ?_|refine Xb ?_|refine Za (ld hB2 rfl) ?_|refine Za rfl ?_
 refine Zc (λa5=>bad ?_) (λa5=>?_)
 ·have a5:10<s.s1.most:=by simpa using a5
  simp[Xm,show ¬s.s1.most≤10 by omega]
 refine Za (ld hB0 rfl) ?_;repeat first|refine Xa ?_|refine Xb ?_|refine Za (ld hB2 rfl) ?_|refine Za rfl ?_
 refine Yd (c117 _ _ _ hs.s1.deck) rfl g117_ok.plain rfl ?_;refine Za rfl ?_;rcases YBE (!Xo b.cards.length s.s1.deck 60) with a6|a6
 ·rw[a6];repeat first|refine Zb rfl ?_|refine Yc rfl ?_|refine Qc rfl ?_|refine Zd rfl ?_|refine Za rfl ?_
  refine Ze (bad ?_);simp at a6;simp[Xm,a6]
 rw[a6];repeat first|refine Xa ?_|refine Xb ?_|refine Za (ld hB2 rfl) ?_|refine Za (ld hB0 rfl) ?_|refine Za rfl ?_
 refine Yd (c117 _ _ _ hs.s1.hand) rfl g117_ok.plain rfl ?_;repeat first|refine Xa ?_|refine Xb ?_|refine Za (ld hB2 rfl) ?_|refine Za (ld hB0 rfl) ?_|refine Za rfl ?_
 rcases YBE (!Xo b.cards.length s.s1.hand 10) with a7|a7
 ·rw[a7];repeat first|refine Zb rfl ?_|refine Yc rfl ?_|refine Qc rfl ?_|refine Zd rfl ?_|refine Za rfl ?_
  refine Ze (bad ?_);simp at a7;simp[Xm,a7]
 rw[a7];repeat first|refine Xa ?_|refine Xb ?_|refine Za (ld hB2 rfl) ?_|refine Za (ld hB0 rfl) ?_|refine Za rfl ?_
 refine Yd (c117 _ _ _ hs.s1.grave) rfl g117_ok.plain rfl ?_;repeat first|refine Xa ?_|refine Xb ?_|refine Za (ld hB2 rfl) ?_|refine Za (ld hB0 rfl) ?_|refine Za rfl ?_
 rcases YBE (!Xo b.cards.length s.s1.grave 1000000) with a8|a8
 ·rw[a8];repeat first|refine Zb rfl ?_|refine Yc rfl ?_|refine Qc rfl ?_|refine Zd rfl ?_|refine Za rfl ?_
  refine Ze (bad ?_);simp at a8;simp[Xm,a8]
 rw[a8];repeat first|refine Xa ?_|refine Xb ?_|refine Za (ld hB2 rfl) ?_|refine Za (ld hB0 rfl) ?_|refine Za rfl ?_
 refine Yd (c117 _ _ _ hs.s1.told) rfl g117_ok.plain rfl ?_;repeat first|refine Xa ?_|refine Xb ?_|refine Za (ld hB2 rfl) ?_|refine Za (ld hB0 rfl) ?_|refine Za rfl ?_
 rcases YBE (!Xo b.cards.length s.s1.told 1000000) with a9|a9
 ·rw[a9];repeat first|refine Zb rfl ?_|refine Yc rfl ?_|refine Qc rfl ?_|refine Zd rfl ?_|refine Za rfl ?_
  refine Ze (bad ?_);simp at a9;simp[Xm,a9]
 rw[a9];repeat first|refine Xa ?_|refine Xb ?_|refine Za (ld hB2 rfl) ?_|refine Za (ld hB0 rfl) ?_|refine Za rfl ?_
 refine Zc (λa10=>bad ?_) (λa10=>?_)
 ·have a10:7<s.s1.units.length:=by simp at a10; omega
  simp[Xm,show ¬s.s1.units.length≤7 by omega]
 have hds1:Xm b.cards.length s.s1=true:=by
  simp at a1 a2 a3 a4 a5 a6 a7 a8 a9 a10;simp[Xm,a1,a2,a3,a4,a5,a6,a7,a8,a9]; omega
 have a10':s.s1.units.length≤7:=by simp at a10; omega
 clear a1 a2 a3 a4 a5 a6 a7 a8 a9 a10 bad;have badu:Yr b s.next (s.s0.units.map Th.id) s.s1.units=false→AVal.bool false=AVal.bool (Yu b s):=by intro h; simp[Yu,h]
 refine Qi (ι:=Nat) (λi vs σ=>∃v,vs=[iv i,v]∧i≤s.s1.units.length∧Grows 1 (((s.s0.units.map Th.id)++(s.s1.units.take i).map Th.id).map cel) (s.s0.units.length+i) v σ∧hget σ 0=.box [cdV b.cards,foV b.formats]∧hget σ 1=.box (stC s)∧hget σ N=.box (sdC s.s1)∧Yr b s.next (s.s0.units.map Th.id) s.s1.units=Yr b s.next ((s.s0.units.map Th.id)++(s.s1.units.take i).map Th.id) (s.s1.units.drop i)) (λi=>s.s1.units.length-i) 0 ⟨_,rfl,by omega,(by simp only[Ah.h1,hdV,tlV,List.take_zero,List.map_nil,List.append_nil,Nat.add_zero]; exact hg),hB0,hB1,hB2,by simp⟩ ?_;clear hB0 hB1 hB2 hg;rintro i vs σ3 again ⟨v,rfl,hi,hg,hB0,hB1,hB2,hu⟩ hag;repeat first|refine Xa ?_|refine Xb ?_|refine Za (ld hB2 rfl) ?_|refine Za rfl ?_
 refine Zc (λh=>?_) (λh=>?_)
 ·have h:i<s.s1.units.length:=by simpa using h
  have hdr:s.s1.units.drop i=s.s1.units[i]::s.s1.units.drop (i+1):=by rw[YLD h]
  rw[hdr] at hu;repeat first|refine Xa ?_|refine Xb ?_|refine Za (ld hB2 rfl) ?_|refine Za rfl ?_
  refine Za (Zn _ thC _ _ _ _ _ i h) ?_;refine Za rfl ?_;refine Qs rfl rfl rfl ?_;generalize hU:s.s1.units[i]=u at hu hdr;have hB3:hget (σ3++[.box (thC u)]) σ3.length=.box (thC u):=Yj _ _
  replace hB0:=Xj [.box (thC u)] hB0 (by simp)
  replace hB1:=Xj [.box (thC u)] hB1 (by simp)
  replace hB2:=Xj [.box (thC u)] hB2 (by simp)
  replace hg:=hg.more [.box (thC u)]
  generalize hN:σ3.length=N3 at hB3 ⊢;clear hN;simp only[AVal.cell];generalize hσ4:(σ3++[ABlk.box (thC u)]:List ABlk)=σ4 at hB0 hB1 hB2 hB3 hg;have hσ5:(σ3++[ABlk.box [iv u.id,iv u.card,iv u.harm,.bool u.tired]]:List ABlk)=σ4:=hσ4
  first|rw[hσ5]|rw[hσ4]|skip
  have badq:Xw b s.next u=false→AVal.bool false=AVal.bool (Yu b s):=by intro h; apply badu; rw[hu]; simp[Yr,h]
  repeat first|refine Xa ?_|refine Xb ?_|refine Za (ld hB3 rfl) ?_|refine Za (ld hB0 rfl) ?_|refine Za (ld hB1 rfl) ?_|refine Za rfl ?_
  rcases YBE (decide (u.card<0)) with q1|q1
  ·rw[q1];repeat first|refine Zb rfl ?_|refine Yc rfl ?_|refine Qc rfl ?_|refine Zd rfl ?_|refine Za rfl ?_
   refine Ze (badq ?_);simp at q1;simp[Xw,show ¬0≤u.card by omega]
  rw[q1];repeat first|refine Xa ?_|refine Xb ?_|refine Za (ld hB3 rfl) ?_|refine Za (ld hB0 rfl) ?_|refine Za (ld hB1 rfl) ?_|refine Za rfl ?_
  rcases YBE (decide (u.card ≥ (b.cards.map cdC).length)) with q2|q2
  ·rw[q2];repeat first|refine Zb rfl ?_|refine Yc rfl ?_|refine Qc rfl ?_|refine Zd rfl ?_|refine Za rfl ?_
   refine Ze (badq ?_);simp at q2;simp[Xw,show ¬u.card<b.cards.length by omega]
  rw[q2];simp at q1 q2;have hc:u.card.toNat<b.cards.length:=by omega
  have hcu:b.cards[u.card.toNat]?=some b.cards[u.card.toNat]:=by simp[hc]
  repeat first|refine Xa ?_|refine Xb ?_|refine Za (ld hB3 rfl) ?_|refine Za (ld hB0 rfl) ?_|refine Za (ld hB1 rfl) ?_|refine Za rfl ?_
  refine Za (Ybc _ cdC _ _ _ _ _ _ (by omega) hc) ?_;repeat first|refine Xa ?_|refine Xb ?_|refine Za (ld hB3 rfl) ?_|refine Za (ld hB0 rfl) ?_|refine Za (ld hB1 rfl) ?_|refine Za rfl ?_
  rcases YBE (!(b.cards[u.card.toNat]).unit) with q3|q3
  ·rw[q3];repeat first|refine Zb rfl ?_|refine Yc rfl ?_|refine Qc rfl ?_|refine Zd rfl ?_|refine Za rfl ?_
   refine Ze (badq ?_);simp at q3;simp[Xw,hcu,q3]
  rw[q3];repeat first|refine Xa ?_|refine Xb ?_|refine Za (ld hB3 rfl) ?_|refine Za (ld hB0 rfl) ?_|refine Za (ld hB1 rfl) ?_|refine Za rfl ?_
  rcases YBE (decide (u.harm<0)) with q4|q4
  ·rw[q4];repeat first|refine Zb rfl ?_|refine Yc rfl ?_|refine Qc rfl ?_|refine Zd rfl ?_|refine Za rfl ?_
   refine Ze (badq ?_);simp at q4;simp[Xw,show ¬0≤u.harm by omega]
  rw[q4];repeat first|refine Xa ?_|refine Xb ?_|refine Za (ld hB3 rfl) ?_|refine Za (ld hB0 rfl) ?_|refine Za (ld hB1 rfl) ?_|refine Za rfl ?_
  rcases YBE (decide (u.harm>1000000)) with q5|q5
  ·rw[q5];repeat first|refine Zb rfl ?_|refine Yc rfl ?_|refine Qc rfl ?_|refine Zd rfl ?_|refine Za rfl ?_
   refine Ze (badq ?_);simp at q5;simp[Xw,show ¬u.harm≤1000000 by omega]
  rw[q5];repeat first|refine Xa ?_|refine Xb ?_|refine Za (ld hB3 rfl) ?_|refine Za (ld hB0 rfl) ?_|refine Za (ld hB1 rfl) ?_|refine Za rfl ?_
  rcases YBE (decide (u.id<1)) with q6|q6
  ·rw[q6];repeat first|refine Zb rfl ?_|refine Yc rfl ?_|refine Qc rfl ?_|refine Zd rfl ?_|refine Za rfl ?_
   refine Ze (badq ?_);simp at q6;simp[Xw,show ¬1≤u.id by omega]
  rw[q6];repeat first|refine Xa ?_|refine Xb ?_|refine Za (ld hB3 rfl) ?_|refine Za (ld hB0 rfl) ?_|refine Za (ld hB1 rfl) ?_|refine Za rfl ?_
  refine Zc (λq7=>badq ?_) (λq7=>?_)
  ·have q7:s.next≤u.id:=by simpa using q7
   simp[Xw,show ¬u.id<s.next by omega]
  have hok:Xw b s.next u=true:=by
   simp at q3 q4 q5 q6 q7;simp[Xw,hcu,q3]; omega
  rw[Yr,hok,Bool.true_and] at hu;generalize hids:(s.s0.units.map Th.id)++(s.s1.units.take i).map Th.id=ids at hg hu;have hkl:ids.length=s.s0.units.length+i:=by rw[←hids]; simp[List.length_take,Nat.min_eq_left hi]
  refine Qi (ι:=Nat) (λj vs σ=>vs=[iv j]∧σ=σ4∧j≤ids.length∧∀m (hm:m<ids.length),m<j→ids[m]≠u.id) (λj=>ids.length-j) 0 ⟨rfl,rfl,by omega,λm _ h=>by omega⟩ ?_;rintro j vs σ again2 ⟨rfl,rfl,hj,hb2⟩ hag2;refine Za (hg.len _) (Za rfl ?_);refine Zc (λh2=>?_) (λh2=>?_)
  ·have h2:j<ids.length:=by rw[hkl]; simp at h2; omega
   obtain⟨bb,e1,hjl,e2⟩:=hg.at .i64 j (by omega);refine Za e1 ?_;refine Za (e2 false 1 (iv ids[j]) (by simp[cel])) ?_;repeat first|refine Xa ?_|refine Xb ?_|refine Za (ld hB3 rfl) ?_|refine Za (ld hB0 rfl) ?_|refine Za (ld hB1 rfl) ?_|refine Za rfl ?_
   refine Zc (λh3=>?_) (λh3=>?_)
   ·have h3:ids[j]=u.id:=by simpa using h3
    apply badu; rw[hu];have:u.id∈ids:=by rw[←h3]; exact List.getElem_mem h2
    simp[this]
   ·have h3:ids[j]≠u.id:=by simpa using h3
    refine Za rfl ?_;rw[Qe (n:=j) (by omega)];refine hag2 (j+1) _ _ (by omega) ⟨rfl,rfl,by omega,λm hm hmj=>?_⟩;by_cases e:m=j
    ·subst e; exact h3
    ·exact hb2 m hm (by omega)
  ·have h2:¬j<ids.length:=by rw[hkl]; simp at h2; omega
   have hno:ids.contains u.id=false:=by
    rw[List.contains_eq_mem,decide_eq_false_iff_not];intro hm;obtain⟨m,hm,e⟩:=List.getElem_of_mem hm;exact hb2 m hm (by omega) e
   rw[hno,Bool.not_false,Bool.true_and] at hu;repeat first|refine Xa ?_|refine Xb ?_|refine Za (ld hB3 rfl) ?_|refine Za (ld hB0 rfl) ?_|refine Za (ld hB1 rfl) ?_|refine Za rfl ?_
   rw[Yad _ _ _ _ _ [iv u.id] rfl rfl];refine hg.app' _ (hold:=λp=>p) rfl (by omega) _ (λv' σ' hx hg'=>?_);refine Za rfl ?_;rw[Qe (n:=i) (by omega)];have hsn:(s.s0.units.map Th.id)++(s.s1.units.take (i+1)).map Th.id=ids++[u.id]:=by
    rw[←hids,Yw _ _ h,hU]; simp
   refine hag (i+1) _ _ (by omega) ⟨v',rfl,by omega,?_,hx _ _ hB0,hx _ _ hB1,hx _ _ hB2,?_⟩
   ·rw[hsn]; simpa[cel,Nat.add_assoc] using hg'
   ·rw[hsn]; exact hu
 have h:i=s.s1.units.length:=by simp at h; omega
 subst h;rw[List.take_length] at hg hu;have hus1:Yr b s.next (s.s0.units.map Th.id) s.s1.units=true:=by rw[hu]; simp[Yr]
 clear hag badu hu;refine Za rfl ?_;rw[w2];refine Ym ?_;refine Za rfl (Xi ?_);simp[Yu,hds0,hds1,hus0,hus1]
end Go.Ah.Tz
end
section
namespace Go.Ah.Tz
open Go.Proofs.Tryz (prog)
def attOk(s:St):List Int→List Int→Bool
 |_,[]=>true
 |prev,a::l=>((unitR s a).2.2&&decide ((unitR s a).1=s.mover))&&(!(prev.contains a)&&attOk s (prev++[a]) l)
def mayR(e:Int)(b:Bk)(s:St)(bare:Bool):Bool:=
 decide (e=0) && (decide (1≤s.turn) && (decide (s.turn≤4096) && (decide (0≤s.mover) && (decide (s.mover≤1) && (decide (0≤s.phase) && (decide (s.phase≤2) && (decide (0≤s.result) && (decide (s.result≤3) &&
 (((s.result == 0) == (s.phase != 2)) && (decide (1≤s.next) && (decide (s.next≤1000000) && (Yu b s &&
 (if s.phase≠1 then decide (s.attack.length=0) else !(decide (s.attack.length=0) && !bare) && (s.struck && (decide (s.attack.length≤7) && attOk s [] s.attack)))))))))))))))
attribute [local irreducible] Ans.rd Ans.pu Ans.wr Ans.dr Ans.gr Ans.gw Ans.gl Ans.gd Ans.opt joinK W
set_option maxHeartbeats 2000000
theorem c25(b:Bk)(s:St)(hs:StLe 1000000000 s)(bare:Bool)(e p:Int)(h67:PC 67 [bkV b] (.agg [iv e,iv p])):PC 25 [bkV b,stV s,.bool bare] (.bool (mayR e b s bare)):=by
 refine Xd hP g25_ok rfl rfl ?_;unfold g25;repeat first|refine Za rfl ?_|refine Zh rfl rfl ?_
 refine Yd h67 rfl g67_ok.plain rfl ?_;repeat first|refine Za rfl ?_|refine Zh rfl rfl ?_
 rcases YBE (e != 0) with q1|q1
 ·rw[q1];repeat first|refine Zb rfl ?_|refine Yc rfl ?_|refine Qc rfl ?_|refine Zd rfl ?_|refine Za rfl ?_
  refine Ze ?_;simp at q1;simp[mayR,q1]
 rw[q1];repeat first|refine Xa ?_|refine Xb ?_|refine Za rfl ?_
 rcases YBE (decide (s.turn<1)) with q2|q2
 ·rw[q2];repeat first|refine Zb rfl ?_|refine Yc rfl ?_|refine Qc rfl ?_|refine Zd rfl ?_|refine Za rfl ?_
  refine Ze ?_;simp at q2;simp[mayR,show ¬1≤s.turn by omega]
 rw[q2];repeat first|refine Xa ?_|refine Xb ?_|refine Za rfl ?_
 rcases YBE (decide (s.turn>4096)) with q3|q3
 ·rw[q3];repeat first|refine Zb rfl ?_|refine Yc rfl ?_|refine Qc rfl ?_|refine Zd rfl ?_|refine Za rfl ?_
  refine Ze ?_;simp at q3;simp[mayR,show ¬s.turn≤4096 by omega]
 rw[q3];repeat first|refine Xa ?_|refine Xb ?_|refine Za rfl ?_
 rcases YBE (decide (s.mover<0)) with q4|q4
 ·rw[q4];repeat first|refine Zb rfl ?_|refine Yc rfl ?_|refine Qc rfl ?_|refine Zd rfl ?_|refine Za rfl ?_
  refine Ze ?_;simp at q4;simp[mayR,show ¬0≤s.mover by omega]
 rw[q4];repeat first|refine Xa ?_|refine Xb ?_|refine Za rfl ?_
 rcases YBE (decide (s.mover>1)) with q5|q5
 ·rw[q5];repeat first|refine Zb rfl ?_|refine Yc rfl ?_|refine Qc rfl ?_|refine Zd rfl ?_|refine Za rfl ?_
  refine Ze ?_;simp at q5;simp[mayR,show ¬s.mover≤1 by omega]
 rw[q5];repeat first|refine Xa ?_|refine Xb ?_|refine Za rfl ?_
 rcases YBE (decide (s.phase<0)) with q6|q6
 ·rw[q6];repeat first|refine Zb rfl ?_|refine Yc rfl ?_|refine Qc rfl ?_|refine Zd rfl ?_|refine Za rfl ?_
  refine Ze ?_;simp at q6;simp[mayR,show ¬0≤s.phase by omega]
 rw[q6];repeat first|refine Xa ?_|refine Xb ?_|refine Za rfl ?_
 rcases YBE (decide (s.phase>2)) with q7|q7
 ·rw[q7];repeat first|refine Zb rfl ?_|refine Yc rfl ?_|refine Qc rfl ?_|refine Zd rfl ?_|refine Za rfl ?_
  refine Ze ?_;simp at q7;simp[mayR,show ¬s.phase≤2 by omega]
 rw[q7];repeat first|refine Xa ?_|refine Xb ?_|refine Za rfl ?_
 rcases YBE (decide (s.result<0)) with q8|q8
 ·rw[q8];repeat first|refine Zb rfl ?_|refine Yc rfl ?_|refine Qc rfl ?_|refine Zd rfl ?_|refine Za rfl ?_
  refine Ze ?_;simp at q8;simp[mayR,show ¬0≤s.result by omega]
 rw[q8];repeat first|refine Xa ?_|refine Xb ?_|refine Za rfl ?_
 refine Zc (λq9=>?_) (λq9=>?_)
 ·have q9:3<s.result:=by simpa using q9
  simp[mayR,show ¬s.result≤3 by omega]
 repeat first|refine Xa ?_|refine Xb ?_|refine Za rfl ?_
 rcases YBE (!(s.result==0)==(s.phase != 2)) with q10|q10
 ·rw[q10];repeat first|refine Zb rfl ?_|refine Yc rfl ?_|refine Qc rfl ?_|refine Zd rfl ?_|refine Za rfl ?_
  refine Ze ?_;have q10:((s.result==0)==(s.phase != 2))=false:=(Bool.not_eq_true' _).mp q10;simp only[mayR,q10]; simp
 rw[q10];repeat first|refine Xa ?_|refine Xb ?_|refine Za rfl ?_
 rcases YBE (decide (s.next<1)) with q11|q11
 ·rw[q11];repeat first|refine Zb rfl ?_|refine Yc rfl ?_|refine Qc rfl ?_|refine Zd rfl ?_|refine Za rfl ?_
  refine Ze ?_;simp at q11;simp[mayR,show ¬1≤s.next by omega]
 rw[q11];repeat first|refine Xa ?_|refine Xb ?_|refine Za rfl ?_
 rcases YBE (decide (s.next>1000000)) with q12|q12
 ·rw[q12];repeat first|refine Zb rfl ?_|refine Yc rfl ?_|refine Qc rfl ?_|refine Zd rfl ?_|refine Za rfl ?_
  refine Ze ?_;simp at q12;simp[mayR,show ¬s.next≤1000000 by omega]
 rw[q12];repeat first|refine Xa ?_|refine Xb ?_|refine Za rfl ?_
 refine Yd (c68 b s hs) rfl g68_ok.plain rfl ?_;repeat first|refine Xa ?_|refine Za rfl ?_
 refine Zc (λq13=>?_) (λq13=>?_)
 ·have q13:Yu b s=false:=by simpa using q13
  simp[mayR,q13]
 have Q1:e=0:=by simpa using q1
 have Q10:((s.result==0)==(s.phase != 2))=true:=by
  cases hX:((s.result==0)==(s.phase != 2)) with
  |true=>rfl
  |false=>rw[hX] at q10; cases q10
 have Q13:Yu b s=true:=by simpa using q13
 simp at q2 q3 q4 q5 q6 q7 q8 q9 q11 q12;have hm:mayR e b s bare=(if s.phase≠1 then decide (s.attack.length=0) else !(decide (s.attack.length=0) && !bare)&&(s.struck&&(decide (s.attack.length≤7)&&attOk s [] s.attack))):=by
  simp only[mayR,Q10,Q13];simp[Q1,q2,q3,q4,q5,q6,q7,q8,q9,q11,q12]
 rw[hm];clear hm Q1 Q10 Q13 q1 q2 q3 q4 q5 q6 q7 q8 q9 q10 q11 q12 q13;repeat first|refine Za rfl ?_
 refine Zc (λh=>?_) (λh=>?_)
 ·have h:s.phase≠1:=by simpa using h
  repeat first|refine Za rfl ?_
  rw[if_pos h]
  congr 1
  rw[Bool.eq_iff_iff];simp
 have h:s.phase=1:=by simpa using h
 rw[if_neg (by simp[h])];repeat first|refine Za rfl ?_
 rcases YBE ((((s.attack.map cel).length:Nat):Int)==0) with h1|h1
 ·rw[h1];have h1:s.attack=[]:=by simpa using h1
  repeat first|refine Xa ?_|refine Za rfl ?_
  cases bare with
  |false=>
   repeat first|refine Zb rfl ?_|refine Qc rfl ?_|refine Za rfl ?_
   refine Ze ?_;simp[h1]
  |true=>
   repeat first|refine Xa ?_|refine Za rfl ?_
   rcases YBE (!s.struck) with h2|h2
   ·rw[h2];repeat first|refine Zb rfl ?_|refine Qc rfl ?_|refine Za rfl ?_
    refine Ze ?_;have h2:s.struck=false:=by simpa using h2
    simp[h2]
   rw[h2];have h2:s.struck=true:=by simpa using h2
   repeat first|refine Xa ?_|refine Za rfl ?_
   rw[h1];refine Xi ?_;refine QH 1 (Ym ?_);repeat first|refine Za (ld (σ:=[]++[ABlk.box [cdV b.cards,foV b.formats]]++[ABlk.box (stC s)]) (b:=1) rfl rfl) ?_|refine Za rfl ?_
   rw[h1];refine Xi ?_;simp[h2,attOk]
 rw[h1];have h1:s.attack.length≠0:=by simpa using h1
 repeat first|refine Zb rfl ?_|refine Qc rfl ?_|refine Za rfl ?_
 repeat first|refine Xa ?_|refine Za rfl ?_
 have h1':(decide (s.attack.length=0) && !bare)=false:=by simp[h1]
 rw[h1',Bool.not_false,Bool.true_and];rcases YBE (!s.struck) with h2|h2
 ·rw[h2];repeat first|refine Zb rfl ?_|refine Qc rfl ?_|refine Za rfl ?_
  refine Ze ?_;have h2:s.struck=false:=by simpa using h2
  simp[h2]
 rw[h2];have h2:s.struck=true:=by simpa using h2
 rw[h2,Bool.true_and];repeat first|refine Xa ?_|refine Za rfl ?_
 refine Zc (λh3=>?_) (λh3=>?_)
 ·have h3:¬s.attack.length≤7:=by simp at h3; omega
  simp[h3]
 have h3:s.attack.length≤7:=by simp at h3; omega
 rw[decide_eq_true h3,Bool.true_and];have bad:attOk s [] s.attack=false→AVal.bool false=AVal.bool (attOk s [] s.attack):=λh=>by rw[h]
 generalize hB:([]++[ABlk.box [cdV b.cards,foV b.formats]]++[ABlk.box (stC s)]:List ABlk)=base;have hB1:hget base 1=.box (stC s):=by rw[←hB]; rfl
 generalize hN:([]++[ABlk.box [cdV b.cards,foV b.formats]]:List ABlk).length=N;have hN1:N=1:=by rw[←hN]; rfl
 subst hN1;clear hB hN;refine Qi (ι:=Nat) (λi vs σ=>vs=[iv i]∧σ=base∧i≤s.attack.length∧attOk s [] s.attack=attOk s (s.attack.take i) (s.attack.drop i)) (λi=>s.attack.length-i) 0 ⟨rfl,rfl,by omega,by simp⟩ ?_;rintro i vs σ again ⟨rfl,rfl,hi,hu⟩ hag;repeat first|refine Za (ld hB1 rfl) ?_|refine Za rfl ?_
 refine Zc (λh=>?_) (λh=>?_)
 ·have h:i<s.attack.length:=by simpa using h
  have hdr:s.attack.drop i=s.attack[i]::s.attack.drop (i+1):=by rw[YLD h]
  rw[hdr] at hu;refine Xl (ld hB1 rfl) (Zl _) (Zj rfl (Xl (ld hB1 rfl) (Zl _) (Xl (Zn _ cel _ _ _ _ _ i h) (Zl _) (Xl rfl (Zl _) ?_))));refine Xk (c23 s hs s.attack[i]) rfl g23_ok.plain rfl ?_;refine Zj rfl (Zj rfl (Zj rfl (QC (by kernel_rfl) ?_)));refine Za rfl ?_;generalize ha:s.attack[i]=a at hu;rcases YBE (!(unitR s a).2.2) with h4|h4
  ·rw[h4];repeat first|refine Zb rfl ?_|refine Qc rfl ?_|refine Za rfl ?_
   refine Ze (bad ?_);have h4:(unitR s a).2.2=false:=by simpa using h4
   rw[hu]; simp[attOk,h4]
  rw[h4];repeat first|refine Xa ?_|refine Za (ld hB1 rfl) ?_|refine Za rfl ?_
  refine Zc (λh5=>bad ?_) (λh5=>?_)
  ·have h5:(unitR s a).1≠s.mover:=by simpa using h5
   rw[hu]; simp[attOk,h5]
  have hone:((unitR s a).2.2&&decide ((unitR s a).1=s.mover))=true:=by
   have h4:(unitR s a).2.2=true:=by simpa using h4
   have h5:(unitR s a).1=s.mover:=by simpa using h5
   simp[h4,h5]
  rw[attOk,hone,Bool.true_and] at hu;refine Qi (ι:=Nat) (λj vs σ2=>vs=[iv j]∧σ2=σ∧j≤i∧∀m (hm:m<s.attack.length),m<j→s.attack[m]≠a) (λj=>i-j) 0 ⟨rfl,rfl,by omega,λm _ h=>by omega⟩ ?_;rintro j vs σ again2 ⟨rfl,rfl,hj,hb2⟩ hag2;refine Za rfl ?_;refine Zc (λh6=>?_) (λh6=>?_)
  ·have h6:j<i:=by simpa using h6
   repeat first|refine Za (ld hB1 rfl) ?_|refine Za (Zn _ cel _ _ _ s.attack _ j (by omega)) ?_|refine Za (Zn _ cel _ _ _ s.attack _ i h) ?_|refine Za rfl ?_
   refine Zc (λh7=>bad ?_) (λh7=>?_)
   ·have h7:s.attack[j]=a:=by rw[←ha]; simpa using h7
    have:a∈s.attack.take i:=by
     rw[List.mem_take_iff_getElem];exact⟨j,by omega,h7⟩
    rw[hu]; simp[this]
   ·have h7:s.attack[j]≠a:=by rw[←ha]; simpa using h7
    refine Za rfl ?_;rw[Qe (n:=j) (by omega)];refine hag2 (j+1) _ _ (by omega) ⟨rfl,rfl,by omega,λm hm hmj=>?_⟩;by_cases e:m=j
    ·subst e; exact h7
    ·exact hb2 m hm (by omega)
  ·have h6:¬j<i:=by simpa using h6
   have hno:(s.attack.take i).contains a=false:=by
    rw[List.contains_eq_mem,decide_eq_false_iff_not];intro hm;rw[List.mem_take_iff_getElem] at hm;obtain⟨m,hm,e⟩:=hm;exact hb2 m (by omega) (by omega) e
   rw[hno,Bool.not_false,Bool.true_and] at hu;refine Za rfl ?_;rw[Qe (n:=i) (by omega)];refine hag (i+1) _ _ (by omega) ⟨rfl,rfl,by omega,?_⟩;rw[Yw _ _ h,ha]; exact hu
 have h:i=s.attack.length:=by simp at h; omega
 subst h;rw[hu]; simp[attOk]
theorem c16(b:Bk)(s:St)(hs:StLe 1000000000 s)(e p:Int)(h67:PC 67 [bkV b] (.agg [iv e,iv p])):PC 16 [bkV b,stV s] (iv (bif mayR e b s false then 0 else 170)):=by
 refine Xd hP g16_ok rfl rfl ?_;unfold g16;repeat first|refine Za rfl ?_|refine Zh rfl rfl ?_
 refine Yd (c25 b s hs false e p h67) rfl g25_ok.plain rfl ?_;refine Za rfl ?_;refine Zc (λh=>?_) (λh=>?_)
 ·have h:mayR e b s false=false:=by simpa using h
  simp[h]
 ·have h:mayR e b s false=true:=by simpa using h
  simp[h]
end Go.Ah.Tz
end
section
namespace Go.Ah.Tz
open Go.Proofs.Tryz (prog)
abbrev big:Nat:=1152921504606846975
def i8B(n:Int):Bool:=decide (-128≤n)&&decide (n≤127)
def i64B(n:Int):Bool:=decide (-9223372036854775808≤n)&&decide (n≤9223372036854775807)
theorem XcG{n:Int}(h:i8B n=true):-128≤n∧n≤127:=by simpa[i8B] using h
mutual
def nmFit:Nm→Bool
 |.mk op n _ kids=>decide (kids.length≤big)&&(Qay kids&&(i8B op&&i64B n))
def Qay:List Nm→Bool
 |[]=>true
 |x::l=>nmFit x&&Qay l
end
theorem Yai:∀ {l:List Nm},Qay l=true→∀x∈l,nmFit x=true
 |[],_,_,h=>by simp at h
 |y::l,h,x,hx=>by
  simp only[Qay,Bool.and_eq_true] at h;rcases List.mem_cons.1 hx with rfl|hx
  ·exact h.1
  ·exact Yai h.2 x hx
theorem YW{x:Nm}(h:nmFit x=true):x.kids.length≤big:=by cases x; simp[nmFit] at h; exact h.1
theorem ZR{x k:Nm}(h:nmFit x=true)(hk:k∈x.kids):nmFit k=true:=by cases x; simp[nmFit] at h; exact Yai h.2.1 k hk
theorem Qaa{x k:Nm}(hk:k∈x.kids):SizeOf.sizeOf k<SizeOf.sizeOf x:=by
 cases x with
 |mk a b c kids=>
  have:=List.sizeOf_lt_of_mem (show k∈kids from hk);simp; omega
mutual
def cnFit:Cn→Bool
 |.mk op _ _ nums kids=>(decide (nums.length≤big)&&Qay nums)&&(decide (kids.length≤big)&&(QaD kids&&i8B op))
def QaD:List Cn→Bool
 |[]=>true
 |x::l=>cnFit x&&QaD l
end
theorem ZaE:∀ {l:List Cn},QaD l=true→∀x∈l,cnFit x=true
 |[],_,_,h=>by simp at h
 |y::l,h,x,hx=>by
  simp only[QaD,Bool.and_eq_true] at h;rcases List.mem_cons.1 hx with rfl|hx
  ·exact h.1
  ·exact ZaE h.2 x hx
theorem XJ{x:Cn}(h:cnFit x=true):x.nums.length≤big:=by cases x; simp[cnFit] at h; exact h.1.1
theorem YJ{x:Cn}(h:cnFit x=true):x.kids.length≤big:=by cases x; simp[cnFit] at h; exact h.2.1
theorem QP{x:Cn}{k:Nm}(h:cnFit x=true)(hk:k∈x.nums):nmFit k=true:=by cases x; simp[cnFit] at h; exact Yai h.1.2 k hk
theorem XP{x k:Cn}(h:cnFit x=true)(hk:k∈x.kids):cnFit k=true:=by cases x; simp[cnFit] at h; exact ZaE h.2.2.1 k hk
theorem X9{x k:Cn}(hk:k∈x.kids):SizeOf.sizeOf k<SizeOf.sizeOf x:=by
 cases x with
 |mk a b c nums kids=>
  have:=List.sizeOf_lt_of_mem (show k∈kids from hk);simp; omega
mutual
def efFit:Ef→Bool
 |.mk op _ n _ c thn els=>nmFit n&&(cnFit c&&((decide (thn.length≤big)&&Yak thn)&&((decide (els.length≤big)&&Yak els)&&i8B op)))
def Yak:List Ef→Bool
 |[]=>true
 |x::l=>efFit x&&Yak l
end
theorem QaE:∀ {l:List Ef},Yak l=true→∀x∈l,efFit x=true
 |[],_,_,h=>by simp at h
 |y::l,h,x,hx=>by
  simp only[Yak,Bool.and_eq_true] at h;rcases List.mem_cons.1 hx with rfl|hx
  ·exact h.1
  ·exact QaE h.2 x hx
def lsFit(l:List Ef):Bool:=decide (l.length≤big)&&Yak l
theorem QX{x:Ef}(h:efFit x=true):nmFit x.n=true:=by cases x; simp[efFit] at h; exact h.1
theorem ZU{x:Ef}(h:efFit x=true):cnFit x.c=true:=by cases x; simp[efFit] at h; exact h.2.1
theorem ZH{x:Ef}(h:efFit x=true):lsFit x.thn=true:=by cases x; simp[efFit] at h; simp[lsFit,Ef.thn,h]
theorem QG{x:Ef}(h:efFit x=true):lsFit x.els=true:=by cases x; simp[efFit] at h; simp[lsFit,Ef.els,h]
theorem Yb4{x:Ef}(h:efFit x=true):-128≤x.op∧x.op≤127:=by cases x; simp[efFit] at h; exact XcG h.2.2.2.2
theorem Zz{l:List Ef}(h:lsFit l=true):l.length≤big:=by simp[lsFit] at h; exact h.1
theorem YH{l:List Ef}{x:Ef}(h:lsFit l=true)(hx:x∈l):efFit x=true:=by simp[lsFit] at h; exact QaE h.2 x hx
theorem wrapI{n:Int}(h1:-9223372036854775808≤n)(h2:n≤9223372036854775807):IntKind.i64.wrap n=n:=IntWalk.i64_in _ ⟨h1,h2⟩
theorem nmRo(x:Nm):roL [.agg (nmC x)]=true:=by rw[ZC]; rfl
theorem nmLd(x:Nm):partA true 0 4 (nmC x)=some (.agg (nmC x)):=by rw[ZC]; rfl
theorem cnRo(x:Cn):roL [.agg (cnC x)]=true:=by rw[YL]; rfl
theorem cnLd(x:Cn):partA true 0 5 (cnC x)=some (.agg (cnC x)):=by rw[YL]; rfl
theorem ldr{σ:List ABlk}{j n:Nat}{agg:Bool}{row:List AVal}{v:AVal}(hv:partA agg j n row=some v):Xc agg n [.rptr row j] σ=.ok v [] []:=by
 rw[Zb4,hv]
mutual
def nmW:Nm→Int
 |.mk _ _ _ kids=>nmWs 1 kids
def nmWs:Int→List Nm→Int
 |n,[]=>n
 |n,x::l=>nmWs (min (n+nmW x) 1073741824) l
end
theorem Ycc(x:Nm):nmW x=nmWs 1 x.kids:=by cases x; rfl
theorem Qbd:∀(l:List Nm) (n:Int),0≤n→n≤1073741824→(∀x∈l,0≤nmW x)→0≤nmWs n l∧nmWs n l≤1073741824
 |[],n,h1,h2,_=>⟨h1,h2⟩
 |x::l,n,h1,h2,h3=>by
  have:=h3 x (by simp);exact Qbd l _ (by omega) (by omega) (λy hy=>h3 y (by simp[hy]))
theorem Xcc:∀(k:Nat) (x:Nm),SizeOf.sizeOf x≤k→0≤nmW x∧nmW x≤1073741824
 |0,x,h=>by cases x; simp at h
 |k+1,x,h=>by
  rw[Ycc];exact Qbd _ _ (by omega) (by omega) (λy hy=>(Xcc k y (by have:=Qaa hy; omega)).1)
theorem Za1(x:Nm):0≤nmW x∧nmW x≤1073741824:=Xcc _ x (Nat.le_refl _)
mutual
def cnW:Cn→Int
 |.mk _ _ _ nums kids=>cnWs (nmWs 1 nums) kids
def cnWs:Int→List Cn→Int
 |n,[]=>n
 |n,x::l=>cnWs (min (n+cnW x) 1073741824) l
end
theorem Xca(x:Cn):cnW x=cnWs (nmWs 1 x.nums) x.kids:=by cases x; rfl
theorem XbG:∀(l:List Cn) (n:Int),0≤n→n≤1073741824→(∀x∈l,0≤cnW x)→0≤cnWs n l∧cnWs n l≤1073741824
 |[],n,h1,h2,_=>⟨h1,h2⟩
 |x::l,n,h1,h2,h3=>by
  have:=h3 x (by simp);exact XbG l _ (by omega) (by omega) (λy hy=>h3 y (by simp[hy]))
theorem Qca:∀(k:Nat) (x:Cn),SizeOf.sizeOf x≤k→0≤cnW x∧cnW x≤1073741824
 |0,x,h=>by cases x; simp at h
 |k+1,x,h=>by
  rw[Xca];have h1:=Qbd x.nums 1 (by omega) (by omega) (λy _=>(Za1 y).1);exact XbG _ _ h1.1 h1.2 (λy hy=>(Qca k y (by have:=X9 hy; omega)).1)
theorem YbG(x:Cn):0≤cnW x∧cnW x≤1073741824:=Qca _ x (Nat.le_refl _)
def cntOp(op:Int):Bool:=decide (op=0)||(decide (op=1)||(decide (op=2)||(decide (op=3)||decide (op=5))))
def sdOp(w:Int):Bool:=decide (w=0)||decide (w=1)
attribute [local irreducible] Ans.rd Ans.pu Ans.wr Ans.dr Ans.gr Ans.gw Ans.gl Ans.gd Ans.opt joinK W
theorem c76':∀(k:Nat) (x:Nm),SizeOf.sizeOf x≤k→nmFit x=true→PC 76 [.agg (nmC x)] (iv (nmW x))
 |0,x,h,_=>by cases x; simp at h
 |k+1,x,hk,hf=>by
  rw[ZC];refine Xd hP g76_ok rfl rfl ?_;unfold g76;refine Zh rfl rfl ?_;rw[Ycc];have hlen:=YW hf;generalize hB:([]++[ABlk.box [iv8 x.op,iv x.n,iv8 x.who,.rsl false false 4 (x.kids.map nmC)]]:List ABlk)=base;have hB0:hget base 0=.box [iv8 x.op,iv x.n,iv8 x.who,.rsl false false 4 (x.kids.map nmC)]:=by rw[←hB]; rfl
  clear hB;refine Qi (ι:=Nat) (λi vs σ=>∃n,vs=[iv i,iv n]∧σ=base∧i≤x.kids.length∧0≤n∧n≤1073741824∧nmWs 1 x.kids=nmWs n (x.kids.drop i)) (λi=>x.kids.length-i) 0 ⟨1,rfl,rfl,by omega,by omega,by omega,by simp⟩ ?_;rintro i vs σ again ⟨n,rfl,rfl,hi,n1,n2,hu⟩ hag;repeat first|refine Za (ld hB0 rfl) ?_|refine Za rfl ?_
  refine Zc (λh=>?_) (λh=>?_)
  ·have h:i<x.kids.length:=by simpa using h
   have hdr:x.kids.drop i=x.kids[i]::x.kids.drop (i+1):=by rw[YLD h]
   rw[hdr,nmWs] at hu;have hm:x.kids[i]∈x.kids:=List.getElem_mem h;refine Za rfl (Za (ld hB0 rfl) (Za (Zn _ nmC _ _ _ x.kids _ i h) (Za (ldr (nmLd _)) ?_)));refine Yd (c76' k _ (by have:=Qaa hm; omega) (ZR hf hm)) rfl g76_ok.plain (nmRo _) ?_;have:=Za1 x.kids[i];refine Za (Qj ..) (Za (Zak ..) (Za (Qj ..) ?_));rw[Qe (n:=i) (by have:big=1152921504606846975:=rfl; omega),wrapI (by omega) (by omega)];exact hag (i+1) _ _ (by omega) ⟨_,rfl,rfl,by omega,by omega,by omega,hu⟩
  ·have h:i=x.kids.length:=by simp at h; omega
   subst h;rw[List.drop_length] at hu;rw[hu]; rfl
theorem c76(x:Nm)(hf:nmFit x=true):PC 76 [.agg (nmC x)] (iv (nmW x)):=c76' _ x (Nat.le_refl _) hf
end Go.Ah.Tz
end
