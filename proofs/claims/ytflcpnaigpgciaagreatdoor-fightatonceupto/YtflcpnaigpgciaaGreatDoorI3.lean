/- Part of the proof that FightAtOnce holds of the program for arguments that together hold at most 1048576 values and letters; no other condition. -/
import Derived.Test.YtflcpnaigpgciaaGreatDoorI2
set_option linter.all false
section
namespace Go.Ah.Tz
open Go.Proofs.Tryz (prog)
set_option maxRecDepth 100000
def g47:GFun:=λA xs a d=>match xs with
 |[x0,x1]=>
 A.r Qd x0 a λe=>A.r Qd x1 a λf=>A.b .neq e f a λg=>A.test g (d (.bool false) a) (A.loop (λh c a=>A.r Qd x0 a λi=>A.b .lss (h0 c) i a λj=>
 A.test j (A.dr (Qa 7 [x0,(h0 c)] a) a λl m a=>A.dr (Zc true 7 [l] a) a λn o a=>A.dr (Qa 7 [x1,(h0 c)] a) a λp q a=>A.dr (Zc true 7 [p] a) a λs t a=>
 A.dcall (.call 99) [n,s] a λu v a=>A.pu (Zp .not [u] a) λw=>A.gd (Qe [[],[],[0,1],[0,1,2],[],[],[4,5],[4,5,6],[0,1,2,3,4,5,6,7],[0,1,2,3,4,5,6,7,8]] [([],[]),([],[]),m,o,([],[]),([],[]),q,t,v,([],[])]) <|
 A.test w (d (.bool false) a) (A.b .add (h0 c) (jv 1) a λy=>h [y] a)) (d (.bool true) a)) [jv 0] a)
 |_=>A.stop
theorem g47_ok:GQ 47 2 g47:=gq2 [none,none,some [5],none,none,none] λ_ _ _ _ _ _=>by kernel_rfl
def g48:GFun:=λA xs d j=>match xs with
 |[x0,x1,x2]=>
 A.w1 Zm x0 d λo d=>A.w1 Zm x1 d λe d=>A.wr (Xc zq0 [] d) d λf d=>A.r (Zc true 2) o d λt3=>A.r (Zc true 23) e d λt4=>A.k 55 [t3,t4] d λt5 d=>
 A.b .neq t5 (jv 0) d λt6=>A.test t6 (A.rd (Xd zq0 [] [] d) λt7=>A.ws (Zb 23) f t7 d λ_ d=>A.opt (cellV true 23 f d) λr8=>j (.tup [r8,.nils,jv 170]) d) (
 A.r (Za 2) e d λt9=>A.a t9 d λa7=>A.b .neq a7 (.int .i8 1) d λh=>A.fr h (Zc true 23) e d λa8=>A.fr h Yg x2 d λa9=>A.gw h false (λk=>A.k 100 [a8,a9] d k) d λb0 d=>
 A.fr h (Zp .not) b0 d λb1=>A.c h (.bool true) b1 d λb2=>A.test b2 (A.rd (Xd zq0 [] [] d) λb3=>A.ws (Zb 23) f b3 d λ_ d=>A.opt (cellV true 23 f d) λr18=>
 j (.tup [r18,.nils,jv 2]) d) (A.wr (ZE [] d) d λl d=>A.r (Za 7) e d λb4=>A.r (Zc true 16) b4 d λb5=>A.loop (λb6 p d=>A.b .lss (h0 p) (jv 2) d λb7=>
 A.test b7 (A.s (Y8 true 2 8) b5 (h0 p) d λb8=>A.wr (Xc zq4 [] d) d λa0 d=>A.ws (Zb 8) a0 b8 d λ_ d=>A.r (Za 6) a0 d λb9=>
 A.a b9 d λa1=>A.r Qd a1 d λc0=>A.loop (λc1 q d=>A.b .lss (h0 q) c0 d λc2=>A.test c2 (A.s (Qa 4) a1 (h0 q) d λc3=>A.r (Zc true 4) c3 d λc4=>
 A.wr (Xc zq3 [] d) d λt d=>A.ws (Zb 4) t c4 d λ_ d=>A.r (Zc true 2) o d λc5=>A.r (Zc true 23) e d λc6=>A.r (Za 0) t d λc7=>
 A.a c7 d λc8=>A.k 54 [c5,c6,c8] d λu d=>A.r (Qb 0) u d λc9=>A.r (Qb 1) u d λi7=>A.r (Qb 2) u d λi9=>A.r (Za 0) t d λd0=>
 A.a d0 d λd1=>A.s ZaA c9 (jv 0) d λd2=>A.wr (Xw false [l,d1,d2] d) d λ_ d=>A.b .add (h0 q) (jv 1) d λd3=>c1 [d3] d) (A.b .add (h0 p) (jv 1) d λd4=>
 b6 [d4] d)) [jv 0] d) (A.r (Zc true 23) e d λd5=>A.k 59 [d5] d λd6 d=>A.wr (Xc zq0 [] d) d λi d=>A.ws (Zb 23) i d6 d λ_ d=>A.wr (Xc [.nils] [] d) d λv d=>
 A.wr (Xc [.nils] [] d) d λm d=>A.rd (Zo (.func 101) 0 [m,o,i,e,v] d) λw=>A.r (Za 5) e d λd7=>A.a d7 d λa2=>A.r Qd a2 d λd8=>
 A.loop (λd9 y d=>A.b .lss (h0 y) d8 d λe0=>A.test e0 (joinK (λa3=>A.s (Qa 1) a2 (h0 y) d λe1=>A.a e1 d λe2=>A.wr (Xc [jv 0] [] d) d λg d=>
 A.ws (Zb 1) g e2 d λ_ d=>A.r (Zo (.func 104) 0) g d λe3=>A.k 103 [x2,e3] d λa4 d=>A.r (Qb 0) a4 d λe4=>A.r (Qb 1) a4 d λe5=>
 A.wr (Xc [jv 0,jv 0] [] d) d λn d=>A.ws (Zb 2) n e4 d λ_ d=>A.r (Zp .not) e5 d λe6=>A.test e6 (A.a g d λe7=>A.s (Zq false false (jv 0)) l e7 d λe8=>
 A.call .callv [w,jv 0,e8] d λj0 d=>a3 [] d) (A.a m d λe9=>A.rd (Zo (.func 105) 0 [v,e,g,n] d) λf0=>A.wr (Zh 1 1 [.nilf] [(0,1)] [f0] d) d λf1 d=>
 A.wr (Qg 1 8 [e9,f1] d) d λf2 d=>A.ws (Zb 1) m f2 d λ_ d=>A.r (Za 1) n d λf3=>A.a f3 d λf4=>A.a g d λf5=>A.s (Zq false false (jv 0)) l f5 d λf6=>
 A.call .callv [w,f4,f6] d λj1 d=>A.a g d λf7=>A.r (Za 1) n d λf8=>A.a f8 d λf9=>A.s (Zq false false (jv 0)) l f9 d λg0=>A.call .callv [w,f7,g0] d λj2 d=>
 a3 [] d)) (λj3 d=>A.b .add (h0 y) (jv 1) d λg1=>d9 [g1] d)) (A.a m d λa5=>A.r Qd a5 d λg2=>A.loop (λg3 z d=>A.b .lss (h0 z) g2 d λg4=>
 A.test g4 (A.s (Qa 1) a5 (h0 z) d λg5=>A.a g5 d λg6=>A.call .callv [g6] d λa6 d=>A.b .neq a6 (jv 0) d λg7=>A.test g7 (A.rd (Xd zq0 [] [] d) λg8=>
 A.ws (Zb 23) f g8 d λ_ d=>A.opt (cellV true 23 f d) λr100=>j (.tup [r100,.nils,a6]) d) (A.b .add (h0 z) (jv 1) d λg9=>g3 [g9] d)) (A.r (Za 5) i d λi0=>
 A.ws (Zb 1) i0 .nils d λ_ d=>A.r (Za 2) i d λi1=>A.ws (Zb 1) i1 (.int .i8 0) d λ_ d=>A.dr (Zc true 23 [i] d) d λi2 i3 d=>
 A.dr (Yd [v] d) d λi4 i5 d=>A.dr (Zb 23 [f,i2] d) d λ_ i6 d=>A.gd (Qe [[],[],[0],[0,1,2],[0,1,2,3]] [i3,i5,i6,([],[]),([],[])]) <|
 A.opt (cellV true 23 f d) λr109=>j (.tup [r109,i4,jv 0]) d)) [jv 0] d)) [jv 0] d)) [jv 0] d))
 |_=>A.stop
theorem g48_ok:GQ 48 3 g48:=gq3 [none,none,none,some [46],none,none,none,some [52],none,none,none,some [78],none,some [],none,none,some [116],none,none,none] λ_ _ _ _ _ _ _=>by kernel_rfl
def g50:GFun:=λA xs c f=>match xs with
 |[x0,x1,x2]=>
 A.w1 Zm x0 c λj c=>A.w1 Zm x1 c λd c=>A.r (Zc true 2) j c λl=>A.r (Zc true 23) d c λm=>A.k 48 [l,m,x2] c λe c=>A.r (Qb 0) e c λn=>
 A.r (Qb 1) e c λt6=>A.r (Qb 2) e c λg=>A.wr (Xc zq0 [] c) c λh c=>A.ws (Zb 23) h n c λ_ c=>A.b .neq g (jv 0) c λo=>A.test o (
 f (.tup [jv 0,g]) c) (A.r (Za 1) d c λp=>A.a p c λq=>A.b .sub (jv 1) q c λi=>A.r (Za 7) d c λt=>A.s (Yf 2 8) t i c λu=>
 A.r (Za 0) u c λv=>A.a v c λw=>A.r (Za 7) h c λy=>A.s (Yf 2 8) y i c λz=>A.r (Za 0) z c λa0=>A.a a0 c λa1=>
 A.b .sub w a1 c λa2=>f (.tup [a2,jv 0]) c)
 |_=>A.stop
theorem g50_ok:GQ 50 3 g50:=gq3 [none] λ_ _ _ _ _ _ _=>by kernel_rfl
def g52:GFun:=λA xs a h=>match xs with
 |[x0]=>
 A.r Qd x0 a λj=>A.loop (λl e a=>A.b .lss (h0 e) j a λm=>A.test m (A.s (Qa 12) x0 (h0 e) a λn=>A.r (Zc true 12) n a λo=>A.k 110 [o] a λp a=>
 A.b .add (h1 e) p a λi=>A.b .gtr i (jv 3000) a λd=>A.fr d Yg x0 a λq=>A.fr d Yg (h0 e) a λt=>A.fs d (Qa 12) q t a λu=>A.fr d (Za 0) u a λv=>
 A.fa d v a λw=>A.fr d Xr w a λy=>A.fb d .gtr y (jv 2000) a λz=>A.c d (.bool true) z a λf=>A.fr f Yg (h0 e) a λa0=>A.fb f .gtr a0 (jv 60) a λa1=>
 A.fr f Yg a1 a λg=>A.tr g Yg x0 a λa2=>A.tr g Qd a2 a λa3=>A.tb g .leq a3 (jv 240) a λa4=>A.fc f g a4 (.bool false) a λa5=>A.c f (.bool true) a5 a λa6=>
 A.test a6 (h (.bool true) a) (A.b .add (h0 e) (jv 1) a λa7=>l [a7,i] a)) (A.r Qd x0 a λa8=>A.b .gtr a8 (jv 250) a λa9=>h a9 a)) [jv 0,jv 0] a
 |_=>A.stop
def g53:GFun:=λA xs a g=>match xs with
 |[]=>
 A.wr (Xc [.nils,.nils] [] a) a λc a=>A.wr (Xc zq0 [] a) a λd a=>A.k 78 [(.str [99,97,114,100,32,73,109,112,32,117,110,105,116,32,49,32,50,47,50,32,123,32,115,104,105,101,108,100,32,49,59,32,125,32,99,97,114,100,32,66,97,114,100,32,117,110,105,116,32,50,32,49,47,49,32,123,32,97,117,114,97,32,49,47,48,59,32,125])] a λe a=>
 A.r (Qb 0) e a λh=>A.r (Qb 1) e a λi=>A.wr (Xc [.nils,.nils] [] a) a λf a=>A.wr (Xc [jv 0,jv 0] [] a) a λj a=>A.ws (Zb 2) f h a λ_ a=>
 A.ws (Zb 2) j i a λ_ a=>A.rd (Xd zq0 [(0,1),(6,1)] [jv 1,jv 9] a) λl=>A.wr (Xc zq0 [] a) a λb a=>A.ws (Zb 23) b l a λ_ a=>
 A.rd (Xd zq3 [(0,1)] [jv 1] a) λm=>A.rd (Xd zq3 [(0,1),(1,1)] [jv 2,jv 1] a) λn=>A.wr (Zh 4 2 [jv 0,jv 0,jv 0,.bool false,jv 0,jv 0,jv 0,.bool false] [(0,4),(4,4)] [m,n] a) a λo a=>
 A.rd (Xd zq4 [(0,1),(6,1)] [jv 20,o] a) λp=>A.r (Za 7) b a λq=>A.s (Yf 2 8) q (jv 0) a λt=>A.ws (Zb 8) t p a λ_ a=>
 A.wr (Zh 1 2 [jv 0,jv 0] [(0,1),(1,1)] [jv 1,jv 0] a) a λu a=>A.rd (Xd zq4 [(0,1),(3,1)] [jv 20,u] a) λv=>A.r (Za 7) b a λw=>
 A.s (Yf 2 8) w (jv 1) a λy=>A.ws (Zb 8) y v a λ_ a=>A.dr (Zc true 2 [f] a) a λz a0 a=>A.dr (Zc true 23 [b] a) a λa1 a2 a=>A.dr (Zb 2 [c,z] a) a λ_ a3 a=>
 A.dr (Zb 23 [d,a1] a) a λ_ a4 a=>A.gd (Qe [[],[],[0],[0,1,2]] [a0,a2,a3,a4]) <| A.opt (cellV true 2 c a) λr25=>A.opt (cellV true 23 d a) λr26=>
 g (.tup [r25,r26]) a
 |_=>A.stop
theorem g53_ok:GQ 53 0 g53:=gq0 [] λ_ _ _ _=>by kernel_rfl
def g54:GFun:=λA xs a b=>match xs with
 |[x0,x1,x2]=>
 A.w1 Zm x0 a λg a=>A.w1 Zm x1 a λd a=>A.k 56 [g,d] a λe a=>A.s (QS .ptr false false) e .nilp a λh=>A.test h (b (.tup zq6) a) (A.r (Zc true 23) d a λi=>
 A.k 71 [i,x2] a λc a=>A.r (Qb 0) c a λj=>A.r (Qb 1) c a λl=>A.r (Qb 2) c a λm=>A.r (Zp .not) m a λn=>A.test n (b (.tup zq6) a) (
 A.k 75 [e,j,l] a λf a=>A.r (Qb 0) f a λo=>A.r (Qb 1) f a λp=>b (.tup [o,p,.bool true]) a))
 |_=>A.stop
theorem g54_ok:GQ 54 3 g54:=gq3 [none,none] λ_ _ _ _ _ _ _=>by kernel_rfl
def g55:GFun:=λA xs a b=>match xs with
 |[x0,x1]=>
 A.w1 Zm x0 a λc a=>A.w1 Zm x1 a λd a=>A.k 111 [c,d,.bool false] a λe a=>A.r (Zp .not) e a λf=>A.test f (b (jv 170) a) (b (jv 0) a)
 |_=>A.stop
theorem g55_ok:GQ 55 2 g55:=gq2 [none] λ_ _ _ _ _ _=>by kernel_rfl
def g56:GFun:=λA xs a b=>match xs with
 |[x0,x1]=>
 A.k 111 [x0,x1,.bool true] a λc a=>A.r (Zp .not) c a λd=>A.test d (b .nilp a) (A.r Xa x1 a λe=>A.r (Zc true 23) e a λf=>A.k 59 [f] a λg a=>
 A.rd (Xd [.nilp,jv 0,jv 0,.int .i8 0,.bool false,.int .i8 0,.nils,jv 0,jv 0,jv 0,jv 0,.nils,.nils,.nils,.nils,.nils,jv 0,jv 0,jv 0,.nils,.nils,.nils,.nils,.nils] [(0,1),(1,23)] [x0,g] a) λh=>
 A.w1 Zm h a λi a=>b i a)
 |_=>A.stop
theorem g56_ok:GQ 56 2 g56:=gq2 [none] λ_ _ _ _ _ _=>by kernel_rfl
def g57:GFun:=λA xs a e=>match xs with
 |[x0]=>
 A.b .geq x0 (jv (-1000000)) a λd=>A.tr d Yg x0 a λf=>A.tb d .leq f (jv 1000000) a λg=>A.c d g (.bool false) a λh=>e h a
 |_=>A.stop
theorem g57_ok:GQ 57 1 g57:=gq1 [] λ_ _ _ _ _=>by kernel_rfl
def g58:GFun:=λA xs b d=>match xs with
 |[x0,x1]=>
 A.r Xa x0 b λe=>A.a e b λf=>A.s (Qa 1) f (jv 0) b λg=>A.a g b λc=>A.r Xa x0 b λh=>A.a h b λi=>A.s (XG 1) i (jv 1) b λj=>
 A.r Xa x0 b λl=>A.ws (Zb 1) l j b λ_ b=>A.r Xa x1 b λm=>A.a m b λn=>A.wr (Zh 1 1 [jv 0] [(0,1)] [c] b) b λo b=>
 A.wr (Qg 1 8 [n,o] b) b λp b=>A.r Xa x1 b λq=>A.ws (Zb 1) q p b λ_ b=>d c b
 |_=>A.stop
theorem g58_ok:GQ 58 2 g58:=gq2 [] λ_ _ _ _ _ _=>by kernel_rfl
def g59:GFun:=λA xs c h=>match xs with
 |[x0]=>
 A.w1 Zm x0 c λe c=>A.wr (Xc zq0 [] c) c λg c=>A.r (Za 5) e c λi=>A.a i c λj=>A.k 96 [j] c λl c=>A.r (Za 5) e c λm=>
 A.ws (Zb 1) m l c λ_ c=>A.loop (λn f c=>A.b .lss (h0 f) (jv 2) c λo=>A.test o (A.r (Za 7) e c λp=>A.s (Yf 2 8) p (h0 f) c λd=>
 A.pu (Xa [d] c) λq=>A.pu (Za 3 [q] c) λt=>A.dr (Yd [t] c) c λu v c=>A.dcall (.call 96) [u] c λw y c=>A.pu (Xa [d] c) λz=>
 A.pu (Za 4 [z] c) λa0=>A.dr (Yd [a0] c) c λa1 a2 c=>A.dcall (.call 96) [a1] c λa3 a4 c=>A.pu (Xa [d] c) λa5=>A.pu (Za 5 [a5] c) λa6=>
 A.dr (Yd [a6] c) c λa7 a8 c=>A.dcall (.call 96) [a7] c λa9 b0 c=>A.pu (Xa [d] c) λb1=>A.pu (Za 7 [b1] c) λb2=>A.dr (Yd [b2] c) c λb3 b4 c=>
 A.dcall (.call 96) [b3] c λb5 b6 c=>A.pu (Xa [d] c) λb7=>A.pu (Za 6 [b7] c) λb8=>A.dr (Yd [b8] c) c λb9 c0 c=>A.dcall (.call 112) [b9] c λc1 c2 c=>
 A.pu (Xa [d] c) λc3=>A.pu (Za 3 [c3] c) λc4=>A.dr (Zb 1 [c4,w] c) c λ_ c5 c=>A.pu (Xa [d] c) λc6=>A.pu (Za 4 [c6] c) λc7=>
 A.dr (Zb 1 [c7,a3] c) c λ_ c8 c=>A.pu (Xa [d] c) λc9=>A.pu (Za 5 [c9] c) λd0=>A.dr (Zb 1 [d0,a9] c) c λ_ d1 c=>A.pu (Xa [d] c) λd2=>
 A.pu (Za 7 [d2] c) λd3=>A.dr (Zb 1 [d3,b5] c) c λ_ d4 c=>A.pu (Xa [d] c) λd5=>A.pu (Za 6 [d5] c) λd6=>A.dr (Zb 1 [d6,c1] c) c λ_ d7 c=>
 A.gd (Qe [[],[],[],[],[],[],[5],[5,6],[5,6,7],[5,6,7,8],[],[10],[10,11],[10,11,12],[5,6,7,8,9,10,11,12,13],[],[15],[15,16],[15,16,17],[5,6,7,8,9,10,11,12,13,14,15,16,17,18],[],[20],[20,21],[20,21,22],[5,6,7,8,9,10,11,12,13,14,15,16,17,18,19,20,21,22,23],[],[25],[25,26],[25,26,27],[5,6,7,8,9,10,11,12,13,14,15,16,17,18,19,20,21,22,23,24,25,26,27,28],[0,5,6,7,8,9,10,11,12,13,14,15,16,17,18,19,20,21,22,23,24,25,26,27,28,29],[0,5,6,7,8,9,10,11,12,13,14,15,16,17,18,19,20,21,22,23,24,25,26,27,28,29,30],[0,5,6,7,8,9,10,11,12,13,14,15,16,17,18,19,20,21,22,23,24,25,26,27,28,29,30,31],[0,1,5,6,7,8,9,10,11,12,13,14,15,16,17,18,19,20,21,22,23,24,25,26,27,28,29,30,31,32],[0,1,5,6,7,8,9,10,11,12,13,14,15,16,17,18,19,20,21,22,23,24,25,26,27,28,29,30,31,32,33],[0,1,5,6,7,8,9,10,11,12,13,14,15,16,17,18,19,20,21,22,23,24,25,26,27,28,29,30,31,32,33,34],[0,1,2,5,6,7,8,9,10,11,12,13,14,15,16,17,18,19,20,21,22,23,24,25,26,27,28,29,30,31,32,33,34,35],[0,1,2,5,6,7,8,9,10,11,12,13,14,15,16,17,18,19,20,21,22,23,24,25,26,27,28,29,30,31,32,33,34,35,36],[0,1,2,5,6,7,8,9,10,11,12,13,14,15,16,17,18,19,20,21,22,23,24,25,26,27,28,29,30,31,32,33,34,35,36,37],[0,1,2,3,5,6,7,8,9,10,11,12,13,14,15,16,17,18,19,20,21,22,23,24,25,26,27,28,29,30,31,32,33,34,35,36,37,38],[0,1,2,3,5,6,7,8,9,10,11,12,13,14,15,16,17,18,19,20,21,22,23,24,25,26,27,28,29,30,31,32,33,34,35,36,37,38,39],[0,1,2,3,5,6,7,8,9,10,11,12,13,14,15,16,17,18,19,20,21,22,23,24,25,26,27,28,29,30,31,32,33,34,35,36,37,38,39,40],[0,1,2,3,4,5,6,7,8,9,10,11,12,13,14,15,16,17,18,19,20,21,22,23,24,25,26,27,28,29,30,31,32,33,34,35,36,37,38,39,40,41],[0,1,2,3,4,5,6,7,8,9,10,11,12,13,14,15,16,17,18,19,20,21,22,23,24,25,26,27,28,29,30,31,32,33,34,35,36,37,38,39,40,41,42],[0,1,2,3,4,5,6,7,8,9,10,11,12,13,14,15,16,17,18,19,20,21,22,23,24,25,26,27,28,29,30,31,32,33,34,35,36,37,38,39,40,41,42,43]] [([],[]),([],[]),([],[]),([],[]),([],[]),([],[]),([],[]),([],[]),v,y,([],[]),([],[]),([],[]),a2,a4,([],[]),([],[]),([],[]),a8,b0,([],[]),([],[]),([],[]),b4,b6,([],[]),([],[]),([],[]),c0,c2,([],[]),([],[]),c5,([],[]),([],[]),c8,([],[]),([],[]),d1,([],[]),([],[]),d4,([],[]),([],[]),d7]) <|
 A.b .add (h0 f) (jv 1) c λd8=>n [d8] c) (A.r (Zc true 23) e c λd9=>A.ws (Zb 23) g d9 c λ_ c=>A.opt (cellV true 23 g c) λr58=>h r58 c)) [jv 0] c
 |_=>A.stop
theorem g59_ok:GQ 59 1 g59:=gq1 [none,some [9],none,none] λ_ _ _ _ _=>by kernel_rfl
def g60:GFun:=λA xs a c=>match xs with
 |[x0]=>
 A.loop (λd b a=>A.rd (Qd [x0] a) λe=>A.rd (Yh .lss false [(h0 b),e] a) λf=>A.test f (A.rd (Qa 1 [x0,(h0 b)] a) λg=>A.rd (Yd [g] a) λh=>
 A.wr (Zh 1 1 [jv 0] [(0,1)] [h] a) a λi a=>A.wr (Qg 1 8 [(h1 b),i] a) a λj a=>A.rd (Yh .add false [(h0 b),jv 1] a) λl=>d [l,j] a) (
 c (h1 b) a)) [jv 0,.nils] a
 |_=>A.stop
theorem g60_ok:GQ 60 1 g60:=gq1 [none,some [4,3],none,none] λ_ _ _ _ _=>by kernel_rfl
def g61:GFun:=λA xs a c=>match xs with
 |[x0]=>
 A.loop (λd b a=>A.rd (Qd [x0] a) λe=>A.rd (Yh .lss false [(h0 b),e] a) λf=>A.test f (A.rd (Qa 4 [x0,(h0 b)] a) λg=>A.rd (Zc true 4 [g] a) λh=>
 A.wr (Zh 4 1 zq3 [(0,4)] [h] a) a λi a=>A.wr (Qg 4 32 [(h1 b),i] a) a λj a=>A.rd (Yh .add false [(h0 b),jv 1] a) λl=>d [l,j] a) (
 c (h1 b) a)) [jv 0,.nils] a
 |_=>A.stop
theorem g61_ok:GQ 61 1 g61:=gq1 [none,some [4,3],none,none] λ_ _ _ _ _=>by kernel_rfl
def g62:GFun:=λA xs a c=>match xs with
 |[x0,x1]=>
 A.rd (Qd [x0] a) λd=>A.rd (Qd [x1] a) λe=>A.rd (Yh .neq false [d,e] a) λf=>A.test f (c (.bool false) a) (A.loop (λg b a=>A.rd (Qd [x0] a) λh=>
 A.rd (Yh .lss false [(h0 b),h] a) λi=>A.test i (A.rd (Qa 1 [x0,(h0 b)] a) λj=>A.rd (Yd [j] a) λl=>A.rd (Qa 1 [x1,(h0 b)] a) λm=>
 A.rd (Yd [m] a) λn=>A.rd (Yh .neq false [l,n] a) λo=>A.test o (c (.bool false) a) (A.rd (Yh .add false [(h0 b),jv 1] a) λp=>g [p] a)) (
 c (.bool true) a)) [jv 0] a)
 |_=>A.stop
theorem g62_ok:GQ 62 2 g62:=gq2 [none,none,some [5],none,none,none] λ_ _ _ _ _ _=>by kernel_rfl
def g63:GFun:=λA xs a c=>match xs with
 |[x0,x1]=>
 A.rd (Qd [x0] a) λd=>A.rd (Qd [x1] a) λe=>A.rd (Yh .neq false [d,e] a) λf=>A.test f (c (.bool false) a) (A.loop (λg b a=>A.rd (Qd [x0] a) λh=>
 A.rd (Yh .lss false [(h0 b),h] a) λi=>A.test i (A.rd (Qa 4 [x0,(h0 b)] a) λj=>A.rd (Zc true 4 [j] a) λl=>A.rd (Qa 4 [x1,(h0 b)] a) λm=>
 A.rd (Zc true 4 [m] a) λn=>A.rd (Ycj true [false,false,false,true] [l,n] a) λo=>A.test o (c (.bool false) a) (A.rd (Yh .add false [(h0 b),jv 1] a) λp=>
 g [p] a)) (c (.bool true) a)) [jv 0] a)
 |_=>A.stop
theorem g63_ok:GQ 63 2 g63:=gq2 [none,none,some [5],none,none,none] λ_ _ _ _ _ _=>by kernel_rfl
def g64:GFun:=λA xs d h=>match xs with
 |[x0,x1,x2,x3,x4,x5,x6]=>
 A.wr (Xc zq0 [] d) d λe d=>A.wr (Xc zq1 [] d) d λf d=>A.k 56 [x0,x1] d λi d=>A.s (QS .ptr false false) i .nilp d λv=>A.test v (A.rd (Xd zq0 [] [] d) λw=>
 A.rd (Xd zq1 [] [] d) λy=>A.ws (Zb 23) e w d λ_ d=>A.ws (Zb 7) f y d λ_ d=>A.opt (cellV true 23 e d) λr6=>A.opt (cellV true 7 f d) λr7=>
 h (.tup [r6,r7,jv 170]) d) (A.s ZaA x5 (jv 0) d λz=>A.s ZL z (jv 4000000) d λt9=>A.b .neq x3 (jv 0) d λa0=>joinK (λo=>A.test a0 (A.r Xa x1 d λa1=>
 A.r (Zc true 23) a1 d λa2=>A.k 71 [a2,x3] d λj d=>A.r (Qb 0) j d λp=>A.r (Qb 1) j d λa3=>A.r (Qb 2) j d λa4=>A.r (Zp .not) a4 d λl=>
 A.fr l Yg x3 d λa5=>A.fb l .lss a5 (jv 0) d λa6=>A.c l (.bool true) a6 d λa7=>A.test a7 (A.rd (Xd zq0 [] [] d) λa8=>A.rd (Xd zq1 [] [] d) λa9=>
 A.ws (Zb 23) e a8 d λ_ d=>A.ws (Zb 7) f a9 d λ_ d=>A.opt (cellV true 23 e d) λr25=>A.opt (cellV true 7 f d) λr26=>h (.tup [r25,r26,jv 4]) d) (
 A.r Xa i d λb0=>A.r (Za 1) b0 d λb1=>A.r (Za 7) b1 d λb2=>A.s (Yf 2 8) b2 p d λb3=>A.r (Za 6) b3 d λb4=>
 A.a b4 d λb5=>A.s (Qa 4) b5 a3 d λb6=>o [p,b6] d)) (o [x4,.nilp] d)) (λg d=>A.b .lss (h0 g) (jv 0) d λm=>A.fr m Yg (h0 g) d λb7=>
 A.fb m .gtr b7 (jv 1) d λb8=>A.c m (.bool true) b8 d λb9=>A.test b9 (A.rd (Xd zq0 [] [] d) λc0=>A.rd (Xd zq1 [] [] d) λc1=>A.ws (Zb 23) e c0 d λ_ d=>
 A.ws (Zb 7) f c1 d λ_ d=>A.opt (cellV true 23 e d) λr40=>A.opt (cellV true 7 f d) λr41=>h (.tup [r40,r41,jv 2]) d) (A.r Xa i d λc2=>
 A.r (Za 1) c2 d λc3=>A.r (Za 7) c3 d λc4=>A.s (Yf 2 8) c4 (h0 g) d λq=>A.dcall .callv [x6,i] d λc5 c6 d=>A.pu (Xa [q] d) λc7=>
 A.pu (Za 0 [c7] d) λc8=>A.dr (Yd [c8] d) d λc9 d0 d=>A.dcall .callv [c5,(h1 g),c9,t9] d λt d1 d=>A.pu (Qb 0 [t] d) λn=>A.pu (Qb 1 [t] d) λd2=>
 A.gd (Qe [[],[],[0,1],[],[],[4],[4,5],[4,5,6],[],[0,1,2,3,4,5,6,7,8],[0,1,2,3,4,5,6,7,8,9],[0,1,2,3,4,5,6,7,8,9,10],[0,1,2,3,4,5,6,7,8,9,10],[0,1,2,3,4,5,6,7,8,9,10,11],[0,1,2,3,4,5,6,7,8,9,10,11,12,13]] [([],[]),([],[]),c6,([],[]),([],[]),([],[]),([],[]),d0,([],[]),d1,([],[]),([],[]),([],[]),([],[]),([],[])]) <|
 A.k 57 [n] d λd3 d=>A.r (Zp .not) d3 d λd4=>A.test d4 (A.rd (Xd zq0 [] [] d) λd5=>A.rd (Xd zq1 [] [] d) λd6=>A.ws (Zb 23) e d5 d λ_ d=>
 A.ws (Zb 7) f d6 d λ_ d=>A.opt (cellV true 23 e d) λr60=>A.opt (cellV true 7 f d) λr61=>h (.tup [r60,r61,jv 171]) d) (A.s (QS .ptr true false) (h1 g) .nilp d λd7=>
 joinK (λu=>A.test d7 (A.r Xa (h1 g) d λd8=>A.r (Za 2) d8 d λd9=>A.ws (Zb 1) d9 n d λ_ d=>u [] d) (A.r Xa q d λe0=>
 A.r (Za 0) e0 d λe1=>A.ws (Zb 1) e1 n d λ_ d=>u [] d)) (λe6 d=>A.r Xa i d λe2=>A.r (Za 1) e2 d λe3=>A.r (Zc true 23) e3 d λe4=>
 A.rd (Xd zq1 [(0,1),(1,1),(3,1),(5,1)] [x2,(h0 g),x3,d2] d) λe5=>A.ws (Zb 23) e e4 d λ_ d=>A.ws (Zb 7) f e5 d λ_ d=>A.opt (cellV true 23 e d) λr73=>
 A.opt (cellV true 7 f d) λr74=>h (.tup [r73,r74,jv 0]) d)))))
 |_=>A.stop
theorem g64_ok:GQ 64 7 g64:=gq7 [none,some [4,18],none,none,none,some []] λ_ _ _ _ _ _ _ _ _ _ _=>by kernel_rfl
def g65:GFun:=λA xs a b=>match xs with
 |[x0]=>
 A.r (Zo (.func 66) 1) x0 a λc=>b c a
 |_=>A.stop
theorem g65_ok:GQ 65 1 g65:=gq1 [] λ_ _ _ _ _=>by kernel_rfl
def g66:GFun:=λA xs c d=>match xs with
 |[x0,x1,x2,x3]=>
 A.s (QS .ptr true false) x1 .nilp c λf=>A.test f (A.r Xa x0 c λg=>A.r (Za 0) g c λh=>A.a h c λi=>A.r Xa i c λj=>
 A.r (Za 0) j c λl=>A.a l c λm=>A.r Xa x1 c λn=>A.r (Za 1) n c λo=>A.a o c λp=>A.s (Qa 12) m p c λq=>A.r (Za 5) q c λt=>
 A.a t c λu=>A.b .sub x3 u c λv=>A.s ZaA v (jv 0) c λe=>A.r Xa x1 c λw=>A.r (Za 2) w c λy=>A.a y c λz=>A.b .add z e c λa0=>
 d (.tup [a0,e]) c) (A.b .sub x2 x3 c λa1=>d (.tup [a1,x3]) c)
 |_=>A.stop
theorem g66_ok:GQ 66 4 g66:=gq4 [none] λ_ _ _ _ _ _ _ _=>by kernel_rfl
def g67:GFun:=λA xs c f=>match xs with
 |[x0]=>
 A.w1 Zm x0 c λe c=>A.wr (Xc [jv 0,jv 0] [] c) c λd c=>A.r (Za 0) e c λj=>A.a j c λl=>A.k 113 [l] c λm c=>A.wr (Xc [jv 0,jv 0] [] c) c λh c=>
 A.ws (Zb 2) h m c λ_ c=>A.r (Za 0) h c λn=>A.a n c λo=>A.b .neq o (jv 0) c λp=>A.test p (A.r (Zc true 2) h c λq=>A.ws (Zb 2) d q c λ_ c=>
 A.opt (cellV true 2 d c) λr10=>f r10 c) (A.r (Za 0) e c λt=>A.a t c λu=>A.k 114 [u] c λv c=>A.wr (Xc [jv 0,jv 0] [] c) c λi c=>
 A.ws (Zb 2) i v c λ_ c=>A.r (Za 0) i c λw=>A.a w c λy=>A.b .neq y (jv 0) c λz=>A.test z (A.r (Zc true 2) i c λa0=>A.ws (Zb 2) d a0 c λ_ c=>
 A.opt (cellV true 2 d c) λr19=>f r19 c) (A.loop (λa1 g c=>A.r (Za 1) e c λa2=>A.a a2 c λa3=>A.r Qd a3 c λa4=>A.b .lss (h0 g) a4 c λa5=>
 A.test a5 (A.r (Zc true 2) e c λa6=>A.k 115 [a6,(h0 g)] c λa7 c=>A.r (Zp .not) a7 c λa8=>A.test a8 (A.r (Za 1) e c λa9=>A.a a9 c λb0=>
 A.s (Qa 7) b0 (h0 g) c λb1=>A.r (Za 6) b1 c λb2=>A.a b2 c λb3=>A.rd (Xd [jv 0,jv 0] [(0,1),(1,1)] [jv 151,b3] c) λb4=>
 A.ws (Zb 2) d b4 c λ_ c=>A.opt (cellV true 2 d c) λr35=>f r35 c) (A.b .add (h0 g) (jv 1) c λb5=>a1 [b5] c)) (A.rd (Xd [jv 0,jv 0] [] [] c) λb6=>
 A.ws (Zb 2) d b6 c λ_ c=>A.opt (cellV true 2 d c) λr38=>f r38 c)) [jv 0] c))
 |_=>A.stop
theorem g67_ok:GQ 67 1 g67:=gq1 [none,none,none,some [5],none,none,none] λ_ _ _ _ _=>by kernel_rfl
def g71:GFun:=λA xs c e=>match xs with
 |[x0,x1]=>
 A.w1 Zm x0 c λg c=>A.w1 Zm x1 c λh c=>A.loop (λi d c=>A.b .lss (h0 d) (jv 2) c λj=>A.test j (A.r (Za 7) g c λl=>A.s (Yf 2 8) l (h0 d) c λm=>
 A.r (Za 6) m c λn=>A.a n c λo=>A.r (Zo (.func 119) 0) h c λp=>A.k 118 [o,p] c λf c=>A.b .geq f (jv 0) c λq=>A.test q (e (.tup [(h0 d),f,.bool true]) c) (
 A.b .add (h0 d) (jv 1) c λt=>i [t] c)) (e (.tup zq6) c)) [jv 0] c
 |_=>A.stop
theorem g71_ok:GQ 71 2 g71:=gq2 [none,some [9],none,none,none] λ_ _ _ _ _ _=>by kernel_rfl
def g72:GFun:=λA xs a d=>match xs with
 |[x0,x1,x2]=>
 A.r Qd x0 a λe=>A.rd (Xal [x0,x1,x2,e] a) λp=>A.b .eql x1 x2 a λf=>A.test f (d x0 a) (A.r Qd x0 a λg=>A.dr (YK 4 [x0,x1] a) a λh i a=>
 A.dr (XG 4 [x0,x2] a) a λj l a=>A.dr (Qg 4 32 [h,j] a) a λc m a=>A.gd (Qe [[],[],[0,1],[],[],[3,4],[0,1,2,3,4,5],[0,1,2,3,4,5,6]] [([],[]),([],[]),i,([],[]),([],[]),l,m,([],[])]) <|
 A.r Qd c a λn=>A.rd (ZaI 4 [c,n,g] a) λo=>A.w1 (Qag 4 zq3) o a λ_ a=>d c a)
 |_=>A.stop
theorem g72_ok:GQ 72 3 g72:=gq3 [none] λ_ _ _ _ _ _ _=>by kernel_rfl
def g73:GFun:=λA xs c f=>match xs with
 |[x0,x1]=>
 A.k 120 [x0,x1] c λe c=>A.b .eql e (jv (-1)) c λi=>A.test i (f x0 c) (A.b .add e (jv 1) c λj=>A.loop (λl d c=>A.r Qd x0 c λm=>A.b .lss (h0 d) m c λn=>
 A.test n (joinK (λg=>A.s (Qa 1) x0 (h0 d) c λo=>A.a o c λh=>A.call .callv [x1,h] c λp c=>A.r (Zp .not) p c λq=>A.test q (A.s (Qa 1) x0 (h1 d) c λt=>
 A.ws (Zb 1) t h c λ_ c=>A.b .add (h1 d) (jv 1) c λu=>g [u] c) (g [(h1 d)] c)) (λv c=>A.b .add (h0 d) (jv 1) c λw=>l [w,(h0 v)] c)) (A.s (XG 1) x0 (h1 d) c λy=>
 A.wr (Qag 1 [jv 0] [y] c) c λ_ c=>A.s (YK 1) x0 (h1 d) c λz=>f z c)) [j,e] c)
 |_=>A.stop
theorem g73_ok:GQ 73 2 g73:=gq2 [none,none,some [6,5],none,some [5],none] λ_ _ _ _ _ _=>by kernel_rfl
def g74:GFun:=λA xs c d=>match xs with
 |[x0,x1]=>
 A.a x1 c λe=>A.b .eql x0 e c λf=>d f c
 |_=>A.stop
theorem g74_ok:GQ 74 2 g74:=gq2 [] λ_ _ _ _ _ _=>by kernel_rfl
def g75:GFun:=λA xs c j=>match xs with
 |[x0,x1,x2]=>
 A.r Xa x0 c λl=>A.r (Za 1) l c λm=>A.r (Za 7) m c λn=>A.s (Yf 2 8) n x1 c λo=>A.r (Za 6) o c λp=>
 A.a p c λf=>A.r Qd f c λq=>A.loop (λt d c=>A.b .lss (h0 d) q c λu=>A.test u (joinK (λg=>A.s (Qa 4) f (h0 d) c λv=>A.r (Zc true 4) v c λw=>
 A.wr (Xc zq3 [] c) c λh c=>A.ws (Zb 4) h w c λ_ c=>A.r Xa x0 c λy=>A.r (Za 0) y c λz=>A.a z c λa0=>A.r Xa a0 c λa1=>
 A.r (Za 0) a1 c λa2=>A.a a2 c λa3=>A.r (Za 1) h c λa4=>A.a a4 c λa5=>A.s (Qa 12) a3 a5 c λe=>A.b .eql (h0 d) x2 c λa6=>
 A.test a6 (A.r Xa e c λa7=>A.r (Za 3) a7 c λa8=>A.a a8 c λa9=>A.b .add (h1 d) a9 c λb0=>A.r Xa e c λb1=>A.r (Za 4) b1 c λb2=>
 A.a b2 c λb3=>A.b .add (h2 d) b3 c λb4=>g [b0,b4] c) (A.r Xa e c λb5=>A.r (Za 6) b5 c λb6=>A.a b6 c λb7=>A.b .add (h1 d) b7 c λb8=>
 A.r Xa e c λb9=>A.r (Za 7) b9 c λc0=>A.a c0 c λc1=>A.b .add (h2 d) c1 c λc2=>g [b8,c2] c)) (λi c=>A.b .add (h0 d) (jv 1) c λc3=>
 t [c3,(h0 i),(h1 i)] c)) (j (.tup [(h1 d),(h2 d)]) c)) [jv 0,jv 0,jv 0] c
 |_=>A.stop
theorem g75_ok:GQ 75 3 g75:=gq3 [none,some [20,6,7],none,some [6,7],none] λ_ _ _ _ _ _ _=>by kernel_rfl
def g76:GFun:=λA xs c f=>match xs with
 |[x0]=>
 A.w1 Zm x0 c λe c=>A.loop (λg d c=>A.r (Za 3) e c λh=>A.a h c λi=>A.r Qd i c λj=>A.b .lss (h0 d) j c λl=>A.test l (A.r (Za 3) e c λm=>
 A.a m c λn=>A.s (Qa 4) n (h0 d) c λo=>A.r (Zc true 4) o c λp=>A.k 76 [p] c λq c=>A.b .add (h1 d) q c λt=>A.s ZL t (jv 1073741824) c λu=>
 A.b .add (h0 d) (jv 1) c λv=>g [v,u] c) (f (h1 d) c)) [jv 0,jv 1] c
 |_=>A.stop
theorem g76_ok:GQ 76 1 g76:=gq1 [none,some [4,3],none,none] λ_ _ _ _ _=>by kernel_rfl
def g77:GFun:=λA xs d f=>match xs with
 |[x0,x1]=>
 A.w1 Zm x1 d λe d=>A.r (Za 0) e d λt=>A.a t d λu=>A.b .geq u (.int .i8 8) d λj=>A.tr j (Za 0) e d λv=>A.ta j v d λw=>
 A.tb j .leq w (.int .i8 12) d λy=>A.c j y (.bool false) d λz=>joinK (λq=>A.test z (q [jv 2] d) (q [jv 0] d)) (λv9 d=>A.r (Za 0) e d λa0=>
 A.a a0 d λa1=>A.b .lss a1 (.int .i8 0) d λl=>A.fr l (Za 0) e d λa2=>A.fa l a2 d λa3=>A.fb l .gtr a3 (.int .i8 12) d λa4=>A.c l (.bool true) a4 d λg=>
 A.fr g (Za 3) e d λa5=>A.fa g a5 d λa6=>A.fr g Qd a6 d λa7=>A.fr g Yg (h0 v9) d λa8=>A.fb g .neq a7 a8 d λa9=>A.c g (.bool true) a9 d λb0=>
 A.test b0 (f (.bool false) d) (A.loop (λb1 p d=>A.r (Za 3) e d λb2=>A.a b2 d λb3=>A.r Qd b3 d λb4=>A.b .lss (h0 p) b4 d λb5=>A.test b5 (
 A.r (Za 3) e d λb6=>A.a b6 d λb7=>A.s (Qa 4) b7 (h0 p) d λb8=>A.r (Zc true 4) b8 d λb9=>A.k 77 [x0,b9] d λc0 d=>A.r (Zp .not) c0 d λc1=>
 A.test c1 (f (.bool false) d) (A.b .add (h0 p) (jv 1) d λc2=>b1 [c2] d)) (A.r (Za 0) e d λc3=>A.a c3 d λc4=>A.b .eql c4 (.int .i8 0) d λc5=>
 A.test c5 (A.r (Za 1) e d λc6=>A.a c6 d λc7=>A.b .geq c7 (jv 0) d λm=>A.tr m (Za 1) e d λc8=>A.ta m c8 d λc9=>A.tb m .leq c9 (jv 999) d λd0=>
 A.c m d0 (.bool false) d λn=>A.tr n (Za 2) e d λd1=>A.ta n d1 d λd2=>A.tb n .eql d2 (.int .i8 0) d λd3=>A.c n d3 (.bool false) d λd4=>
 f d4 d) (A.r (Za 1) e d λd5=>A.a d5 d λd6=>A.b .neq d6 (jv 0) d λd7=>A.test d7 (f (.bool false) d) (A.r (Za 0) e d λd8=>A.a d8 d λd9=>
 A.b .geq d9 (.int .i8 1) d λo=>A.tr o (Za 0) e d λe0=>A.ta o e0 d λe1=>A.tb o .leq e1 (.int .i8 4) d λe2=>A.c o e2 (.bool false) d λe3=>
 A.test e3 (A.r (Za 2) e d λe4=>A.a e4 d λe5=>A.k 121 [e5] d λe6 d=>f e6 d) (A.r (Za 2) e d λe7=>A.a e7 d λe8=>A.b .eql e8 (.int .i8 0) d λh=>
 A.tr h (Za 0) e d λe9=>A.ta h e9 d λf0=>A.tb h .neq f0 (.int .i8 7) d λf1=>A.tr h Yg f1 d λi=>A.fr i Yg x0 d λf2=>A.fr i Xa f2 d λf3=>
 A.fr i (Za 1) f3 d λf4=>A.fa i f4 d λf5=>A.tc h i (.bool true) f5 d λf6=>A.c h f6 (.bool false) d λf7=>f f7 d))))) [jv 0] d))
 |_=>A.stop
theorem g77_ok:GQ 77 2 g77:=gq2 [some [5],none,none,some [6],none,none,none,none,none,none] λ_ _ _ _ _ _=>by kernel_rfl
def g78:GFun:=λA xs c h=>match xs with
 |[x0]=>
 A.wr (Xc [.nils,.nils] [] c) c λe c=>A.wr (Xc [jv 0,jv 0] [] c) c λf c=>A.k 122 [x0] c λi c=>A.r (Qb 0) i c λl=>A.r (Qb 1) i c λm=>
 A.wr (Xc [.nils,.nils] [] c) c λg c=>A.wr (Xc [jv 0,jv 0] [] c) c λd c=>A.ws (Zb 2) g l c λ_ c=>A.ws (Zb 2) d m c λ_ c=>
 A.r (Za 0) d c λn=>A.a n c λo=>A.b .eql o (jv 0) c λp=>joinK (λj=>A.test p (A.r (Zc true 2) g c λq=>A.k 67 [q] c λs c=>A.ws (Zb 2) d s c λ_ c=>
 j [] c) (j [] c)) (λa4 c=>A.r (Za 0) d c λt=>A.a t c λu=>A.b .neq u (jv 0) c λv=>A.test v (A.pu (Xd [.nils,.nils] [] [] c) λw=>
 A.dr (Zc true 2 [d] c) c λy z c=>A.dr (Zb 2 [e,w] c) c λ_ a0 c=>A.dr (Zb 2 [f,y] c) c λ_ a1 c=>A.gd (Qe [[],[],[0],[0,1,2]] [([],[]),z,a0,a1]) <|
 A.opt (cellV true 2 e c) λr22=>A.opt (cellV true 2 f c) λr23=>h (.tup [r22,r23]) c) (A.r (Zc true 2) g c λa2=>A.rd (Xd [jv 0,jv 0] [] [] c) λa3=>
 A.ws (Zb 2) e a2 c λ_ c=>A.ws (Zb 2) f a3 c λ_ c=>A.opt (cellV true 2 e c) λr26=>A.opt (cellV true 2 f c) λr27=>h (.tup [r26,r27]) c))
 |_=>A.stop
theorem g78_ok:GQ 78 1 g78:=gq1 [some [],none] λ_ _ _ _ _=>by kernel_rfl
def g89:GFun:=λA xs a c=>match xs with
 |[x0]=>
 A.r Qd x0 a λb=>A.r (ZH .u64) b a λd=>A.k 129 [d] a λe a=>A.k 128 [x0,jv 0,b,e] a λf a=>c (.tup []) a
 |_=>A.stop
theorem g89_ok:GQ 89 1 g89:=gq1 [] λ_ _ _ _ _=>by kernel_rfl
def g92:GFun:=λA xs d i=>match xs with
 |[x0,x1,x2]=>
 A.w1 Zm x0 d λh d=>A.w1 Zm x1 d λj d=>A.r (Za 0) h d λl=>A.a l d λm=>A.r Qd m d λn=>A.b .gtr n (jv 60) d λf=>A.fr f (Zc true 2) h d λo=>
 A.gw f false (λk=>A.k 133 [o] d k) d λp d=>A.c f (.bool true) p d λg=>A.fr g (Zc true 23) j d λq=>A.gw g false (λk=>A.k 134 [q] d k) d λs d=>
 A.c g (.bool true) s d λe=>A.fr e Yg x2 d λt=>A.gw e false (λk=>A.k 135 [t] d k) d λu d=>A.fb e .gtr u (jv 1000) d λv=>A.c e (.bool true) v d λw=>
 i w d
 |_=>A.stop
theorem g92_ok:GQ 92 3 g92:=gq3 [] λ_ _ _ _ _ _ _=>by kernel_rfl
def g93:GFun:=λA xs a c=>match xs with
 |[]=>
 A.wr (Xc [.nils,.nils] [] a) a λb a=>A.rd (Xd [.str [],.bool false,jv 0,jv 0,jv 0,jv 0,jv 0,jv 0,.nils,.nils,.nils,jv 0] [(0,1),(1,1),(2,1),(3,1),(4,1),(5,1)] [(.str [73,109,112]),.bool true,jv 1,jv 2,jv 3,jv 1] a) λd=>
 A.rd (Xd [.str [],.bool false,jv 0,jv 0,jv 0,jv 0,jv 0,jv 0,.nils,.nils,.nils,jv 0] [(0,1),(1,1),(2,1),(3,1),(4,1),(6,1)] [(.str [69,108,102]),.bool true,jv 2,jv 1,jv 1,jv 1] a) λe=>
 A.rd (Xd zq2 [(1,1)] [jv 3] a) λf=>A.rd (Xd [.int .i8 0,.int .i8 0,.int .i8 0,jv 0,.int .i8 0,.nils,.str [],.int .i8 0,.int .i8 0,.str [],.nils,.nils,.nils,.nils] [(0,1),(1,1),(2,4)] [.int .i8 0,.int .i8 2,f] a) λg=>
 A.wr (Zh 14 1 [.int .i8 0,.int .i8 0,.int .i8 0,jv 0,.int .i8 0,.nils,.str [],.int .i8 0,.int .i8 0,.str [],.nils,.nils,.nils,.nils] [(0,14)] [g] a) a λh a=>
 A.rd (Xd [.str [],.bool false,jv 0,jv 0,jv 0,jv 0,jv 0,jv 0,.nils,.nils,.nils,jv 0] [(0,1),(2,1),(8,1)] [(.str [66,111,108,116]),jv 1,h] a) λi=>
 A.wr (Zh 12 3 [.str [],.bool false,jv 0,jv 0,jv 0,jv 0,jv 0,jv 0,.nils,.nils,.nils,jv 0,.str [],.bool false,jv 0,jv 0,jv 0,jv 0,jv 0,jv 0,.nils,.nils,.nils,jv 0,.str [],.bool false,jv 0,jv 0,jv 0,jv 0,jv 0,jv 0,.nils,.nils,.nils,jv 0] [(0,12),(12,12),(24,12)] [d,e,i] a) a λj a=>
 A.rd (Xd [.str [],jv 0,jv 0,jv 0,.nils,.nils,jv 0] [(0,1),(2,1),(3,1)] [(.str [115,116,100]),jv 60,jv 60] a) λl=>A.wr (Zh 7 1 [.str [],jv 0,jv 0,jv 0,.nils,.nils,jv 0] [(0,7)] [l] a) a λm a=>
 A.rd (Xd [.nils,.nils] [(0,1),(1,1)] [j,m] a) λn=>A.ws (Zb 2) b n a λ_ a=>A.opt (cellV true 2 b a) λr11=>c r11 a
 |_=>A.stop
theorem g93_ok:GQ 93 0 g93:=gq0 [] λ_ _ _ _=>by kernel_rfl
def g94:GFun:=λA xs b e=>match xs with
 |[]=>
 A.wr (Xc zq0 [] b) b λd b=>A.k 136 [] b λf b=>A.wr (Xc zq0 [] b) b λc b=>A.ws (Zb 23) c f b λ_ b=>A.r (Za 7) c b λg=>
 A.s (Yf 2 8) g (jv 0) b λh=>A.r (Za 6) h b λi=>A.a i b λj=>A.rd (Xd zq3 [(0,1),(1,1)] [jv 3,jv 1] b) λl=>A.wr (Zh 4 1 zq3 [(0,4)] [l] b) b λm b=>
 A.wr (Qg 4 32 [j,m] b) b λn b=>A.r (Za 7) c b λo=>A.s (Yf 2 8) o (jv 0) b λp=>A.r (Za 6) p b λq=>A.ws (Zb 1) q n b λ_ b=>
 A.r (Za 6) c b λt=>A.ws (Zb 1) t (jv 4) b λ_ b=>A.r (Zc true 23) c b λu=>A.ws (Zb 23) d u b λ_ b=>A.opt (cellV true 23 d b) λr15=>
 e r15 b
 |_=>A.stop
theorem g94_ok:GQ 94 0 g94:=gq0 [] λ_ _ _ _=>by kernel_rfl
def g95:GFun:=λA xs a d=>match xs with
 |[x0]=>
 A.k 96 [x0] a λc a=>A.k 89 [c] a λi a=>A.k 137 [c] a λe a=>A.r Qd e a λf=>A.r Qd x0 a λg=>A.b .lss f g a λh=>d h a
 |_=>A.stop
theorem g95_ok:GQ 95 1 g95:=gq1 [] λ_ _ _ _ _=>by kernel_rfl
def g96:GFun:=λA xs a b=>match xs with
 |[x0]=>
 A.s (QS .slice false false) x0 .nils a λc=>A.test c (b .nils a) (A.rd (Z8 1 [] a) λd=>A.wr (Qg 1 8 [d,x0] a) a λe a=>b e a)
 |_=>A.stop
theorem g96_ok:GQ 96 1 g96:=gq1 [none] λ_ _ _ _ _=>by kernel_rfl
def g99:GFun:=λA xs d n=>match xs with
 |[x0,x1]=>
 A.w1 Zm x0 d λe d=>A.w1 Zm x1 d λf d=>A.r (Za 0) e d λo=>A.a o d λp=>A.r (Za 0) f d λq=>A.a q d λs=>A.b .eql p s d λg=>
 A.tr g (Za 1) e d λt=>A.ta g t d λu=>A.tr g (Za 1) f d λv=>A.ta g v d λw=>A.tb g .eql u w d λy=>A.c g y (.bool false) d λh=>
 A.tr h (Za 2) e d λz=>A.ta h z d λa0=>A.tr h (Za 2) f d λa1=>A.ta h a1 d λa2=>A.tb h .eql a0 a2 d λa3=>A.c h a3 (.bool false) d λi=>
 A.tr i (Za 3) e d λa4=>A.ta i a4 d λa5=>A.tr i (Za 3) f d λa6=>A.ta i a6 d λa7=>A.tb i .eql a5 a7 d λa8=>A.c i a8 (.bool false) d λj=>
 A.tr j (Za 4) e d λa9=>A.ta j a9 d λb0=>A.tr j (Za 4) f d λb1=>A.ta j b1 d λb2=>A.tb j .eql b0 b2 d λb3=>A.c j b3 (.bool false) d λl=>
 A.tr l (Za 5) e d λb4=>A.ta l b4 d λb5=>A.tr l (Za 5) f d λb6=>A.ta l b6 d λb7=>A.tb l .eql b5 b7 d λb8=>A.c l b8 (.bool false) d λm=>
 A.tr m (Za 6) e d λb9=>A.ta m b9 d λc0=>A.tr m (Za 6) f d λc1=>A.ta m c1 d λc2=>A.gw m true (λk=>A.k 62 [c0,c2] d k) d λc3 d=>
 A.c m c3 (.bool false) d λc4=>n c4 d
 |_=>A.stop
theorem g99_ok:GQ 99 2 g99:=gq2 [] λ_ _ _ _ _ _=>by kernel_rfl
def g100:GFun:=λA xs d m=>match xs with
 |[x0,x1]=>
 A.w1 Zm x0 d λj d=>A.r Qd x1 d λn=>A.loop (λo e d=>A.b .lss (h0 e) n d λp=>A.test p (A.s (Qa 2) x1 (h0 e) d λq=>A.r (Zc true 2) q d λt=>
 A.wr (Xc [jv 0,jv 0] [] d) d λg d=>A.ws (Zb 2) g t d λ_ d=>A.r (Zc true 23) j d λu=>A.r (Za 1) g d λv=>A.a v d λw=>
 A.k 71 [u,w] d λl d=>A.r (Qb 0) l d λy=>A.r (Qb 1) l d λd1=>A.r (Qb 2) l d λz=>A.r (Zp .not) z d λh=>A.fr h Yg y d λa0=>
 A.fr h (Za 1) j d λa1=>A.fa h a1 d λa2=>A.fb h .eql a0 a2 d λa3=>A.c h (.bool true) a3 d λf=>A.fr f (Za 5) j d λa4=>A.fa f a4 d λa5=>
 A.fr f (Za 0) g d λa6=>A.fa f a6 d λa7=>A.gw f false (λk=>A.k 138 [a5,a7] d k) d λa8 d=>A.fr f (Zp .not) a8 d λa9=>A.c f (.bool true) a9 d λb0=>
 A.test b0 (m (.bool false) d) (A.pu (Za 0 [g] d) λb1=>A.dr (Yd [b1] d) d λb2 b3 d=>A.dr (Zh 1 1 [jv 0] [(0,1)] [b2] d) d λb4 b5 d=>
 A.dr (Qg 1 8 [(h1 e),b4] d) d λb6 b7 d=>A.pu (Za 1 [g] d) λb8=>A.dr (Yd [b8] d) d λb9 c0 d=>A.dr (Zh 1 1 [jv 0] [(0,1)] [b9] d) d λc1 c2 d=>
 A.dr (Qg 1 8 [(h2 e),c1] d) d λc3 c4 d=>A.gd (Qe [[],[],[1],[1,2],[0,1,2,3],[],[],[6],[6,7],[0,1,2,3,4,5,6,7,8],[0,1,2,3,4,5,6,7,8,9],[0,1,2,3,4,5,6,7,8,9,10]] [([],[]),([],[]),b3,b5,b7,([],[]),([],[]),c0,c2,c4,([],[]),([],[])]) <|
 A.b .add (h0 e) (jv 1) d λc5=>o [c5,b6,c3] d)) (A.k 95 [(h1 e)] d λc6 d=>A.r (Zp .not) c6 d λi=>A.tr i Yg (h2 e) d λc7=>A.gw i true (λk=>A.k 95 [c7] d k) d λc8 d=>
 A.tr i (Zp .not) c8 d λc9=>A.c i c9 (.bool false) d λd0=>m d0 d)) [jv 0,.nils,.nils] d
 |_=>A.stop
theorem g100_ok:GQ 100 2 g100:=gq2 [none,some [14,5,6],none,none,none] λ_ _ _ _ _ _=>by kernel_rfl
def g101:GFun:=λA xs b c=>match xs with
 |[x0,x1,x2,x3,x4,x5,x6]=>
 A.w1 Zm x0 b λd b=>A.w1 Zm x1 b λe b=>A.a x2 b λf=>A.rd (Zo (.func 102) 0 [x3,x4,d,x5,e,x6] b) λg=>A.wr (Zh 1 1 [.nilf] [(0,1)] [g] b) b λh b=>
 A.wr (Qg 1 8 [f,h] b) b λi b=>A.ws (Zb 1) x2 i b λ_ b=>c (.tup []) b
 |_=>A.stop
theorem g101_ok:GQ 101 7 g101:=gq7 [] λ_ _ _ _ _ _ _ _ _ _ _=>by kernel_rfl
def g102:GFun:=λA xs c f=>match xs with
 |[x0,x1,x2,x3,x4,x5]=>
 A.r (Zc true 2) x0 c λi=>A.r (Zc true 23) x1 c λj=>A.a x2 c λl=>A.r (Za 1) x3 c λm=>A.a m c λn=>A.b .sub (jv 1) n c λo=>
 A.a x4 c λp=>A.k 22 [i,j,l,o,p] c λd c=>A.r (Qb 0) d c λq=>A.r (Qb 1) d c λs=>A.r (Qb 2) d c λe=>A.wr (Xc zq0 [] c) c λg c=>
 A.wr (Xc zq1 [] c) c λh c=>A.ws (Zb 23) g q c λ_ c=>A.ws (Zb 7) h s c λ_ c=>A.b .eql e (jv 0) c λt=>A.test t (A.r (Zc true 23) g c λu=>
 A.ws (Zb 23) x1 u c λ_ c=>A.a x5 c λv=>A.r (Zc true 7) h c λw=>A.wr (Zh 7 1 zq1 [(0,7)] [w] c) c λy c=>A.wr (Qg 7 72 [v,y] c) c λz c=>
 A.ws (Zb 1) x5 z c λ_ c=>f e c) (f e c)
 |_=>A.stop
theorem g102_ok:GQ 102 6 g102:=gq6 [none] λ_ _ _ _ _ _ _ _ _ _=>by kernel_rfl
def g103:GFun:=λA xs a d=>match xs with
 |[x0,x1]=>
 A.wr (Xc [jv 0,jv 0] [] a) a λc a=>A.k 139 [x0,x1] a λe a=>A.b .geq e (jv 0) a λf=>A.test f (A.s (Qa 2) x0 e a λg=>A.r (Zc true 2) g a λh=>
 A.ws (Zb 2) c h a λ_ a=>A.opt (cellV true 2 c a) λr5=>d (.tup [r5,.bool true]) a) (A.r (Zc true 2) c a λi=>A.ws (Zb 2) c i a λ_ a=>
 A.opt (cellV true 2 c a) λr7=>d (.tup [r7,.bool false]) a)
 |_=>A.stop
theorem g103_ok:GQ 103 2 g103:=gq2 [none] λ_ _ _ _ _ _=>by kernel_rfl
def g104:GFun:=λA xs c d=>match xs with
 |[x0,x1]=>
 A.w1 Zm x0 c λe c=>A.r (Za 0) e c λf=>A.a f c λg=>A.a x1 c λh=>A.b .eql g h c λi=>d i c
 |_=>A.stop
theorem g104_ok:GQ 104 2 g104:=gq2 [] λ_ _ _ _ _ _=>by kernel_rfl
def g105:GFun:=λA xs b c=>match xs with
 |[x0,x1,x2,x3]=>
 A.a x0 b λd=>A.r (Za 1) x1 b λe=>A.a e b λf=>A.a x2 b λg=>A.r (Za 1) x3 b λh=>A.a h b λi=>A.rd (Xd zq1 [(0,1),(1,1),(3,1),(4,1)] [.int .i8 12,f,g,i] b) λj=>
 A.wr (Zh 7 1 zq1 [(0,7)] [j] b) b λl b=>A.wr (Qg 7 72 [d,l] b) b λm b=>A.ws (Zb 1) x0 m b λ_ b=>c (jv 0) b
 |_=>A.stop
theorem g105_ok:GQ 105 4 g105:=gq4 [] λ_ _ _ _ _ _ _ _=>by kernel_rfl
def g110:GFun:=λA xs a c=>match xs with
 |[x0]=>
 A.w1 Zm x0 a λb a=>A.pu (Za 8 [b] a) λd=>A.dr (Yd [d] a) a λe f a=>A.dcall (.call 142) [e] a λg h a=>A.pu (Za 9 [b] a) λi=>
 A.dr (Yd [i] a) a λj l a=>A.dcall (.call 142) [j] a λm n a=>A.pu (Yh .add false [g,m] a) λo=>A.pu (Za 10 [b] a) λp=>A.dr (Yd [p] a) a λq r a=>
 A.dcall (.call 142) [q] a λs t a=>A.pu (Yh .add false [o,s] a) λu=>A.pu (ZL [u,jv 1073741824] a) λv=>A.gd (Qe [[],[0],[0,1],[],[3],[0,1,2,3,4],[0,1,2,3,4,5],[],[7],[0,1,2,3,4,5,7,8],[0,1,2,3,4,5,6,7,8,9],[0,1,2,3,4,5,6,7,8,9,10],[0,1,2,3,4,5,6,7,8,9,10,11]] [([],[]),f,h,([],[]),l,n,([],[]),([],[]),r,t,([],[]),([],[]),([],[])]) <|
 c v a
 |_=>A.stop
theorem g110_ok:GQ 110 1 g110:=gq1 [] λ_ _ _ _ _=>by kernel_rfl
def g111:GFun:=λA xs d h=>match xs with
 |[x0,x1,x2]=>
 A.r Xa x1 d λt0=>A.r (Za 0) t0 d λt1=>A.a t1 d λt2=>A.b .lss t2 (jv 1) d λo=>joinK (λe=>A.test o (e [o] d) (A.r Xa x1 d λt6=>
 A.r (Za 0) t6 d λt7=>A.a t7 d λt8=>A.b .gtr t8 (jv 4096) d λp=>A.test p (e [p] d) (A.r Xa x1 d λa7=>A.r (Za 1) a7 d λa8=>
 A.a a8 d λa9=>A.b .lss a9 (jv 0) d λq=>A.test q (e [q] d) (A.r Xa x1 d λb0=>A.r (Za 1) b0 d λb1=>A.a b1 d λb2=>A.b .gtr b2 (jv 1) d λt=>
 A.test t (e [t] d) (A.r Xa x1 d λb3=>A.r (Za 2) b3 d λb4=>A.a b4 d λb5=>A.b .lss b5 (.int .i8 0) d λu=>A.test u (e [u] d) (A.r Xa x1 d λb6=>
 A.r (Za 2) b6 d λb7=>A.a b7 d λb8=>A.b .gtr b8 (.int .i8 2) d λv=>A.test v (e [v] d) (A.r Xa x1 d λb9=>A.r (Za 4) b9 d λc0=>
 A.a c0 d λc1=>A.b .lss c1 (.int .i8 0) d λw=>A.test w (e [w] d) (A.r Xa x1 d λc2=>A.r (Za 4) c2 d λc3=>A.a c3 d λc4=>A.b .gtr c4 (.int .i8 3) d λy=>
 A.test y (e [y] d) (A.r Xa x1 d λc5=>A.r (Za 4) c5 d λc6=>A.a c6 d λc7=>A.b .eql c7 (.int .i8 0) d λc8=>A.r Xa x1 d λc9=>
 A.r (Za 2) c9 d λd0=>A.a d0 d λd1=>A.b .neq d1 (.int .i8 2) d λd2=>A.s (Yh .neq true) c8 d2 d λz=>A.test z (e [z] d) (A.r Xa x1 d λd3=>
 A.r (Za 6) d3 d λd4=>A.a d4 d λd5=>A.b .lss d5 (jv 1) d λa0=>A.test a0 (e [a0] d) (A.r Xa x1 d λd6=>A.r (Za 6) d6 d λd7=>
 A.a d7 d λd8=>A.b .gtr d8 (jv 1000000) d λa1=>A.test a1 (e [a1] d) (A.r Xa x1 d λd9=>A.r (Za 5) d9 d λe0=>A.a e0 d λe1=>A.r Qd e1 d λe2=>
 A.b .gtr e2 (jv 7) d λa2=>A.test a2 (e [a2] d) (A.r Xa x0 d λe3=>A.r (Zc true 2) e3 d λe4=>A.k 143 [e4] d λe5 d=>A.r (Za7 false 0 1) e5 d λe6=>
 A.b .neq e6 (jv 0) d λe7=>e [e7] d))))))))))))) (λv5 d=>A.test (h0 v5) (h (.bool false) d) (A.wr (ZE [] d) d λa3 d=>A.loop (λe8 l d=>A.b .lss (h0 l) (jv 2) d λe9=>
 A.test e9 (A.k 144 [x0,x1,(h0 l),a3] d λf0 d=>A.r (Zp .not) f0 d λf1=>A.test f1 (h (.bool false) d) (A.b .add (h0 l) (jv 1) d λf2=>e8 [f2] d)) (
 A.r Xa x1 d λf3=>A.r (Za 2) f3 d λf4=>A.a f4 d λf5=>A.b .neq f5 (.int .i8 1) d λf6=>A.test f6 (A.r Xa x1 d λf7=>A.r (Za 5) f7 d λf8=>
 A.a f8 d λf9=>A.r Qd f9 d λg0=>A.b .eql g0 (jv 0) d λg1=>h g1 d) (A.wr (ZE [] d) d λa4 d=>A.r Xa x1 d λg2=>A.r (Za 5) g2 d λg3=>
 A.a g3 d λa5=>A.r Qd a5 d λg4=>A.loop (λg5 m d=>A.b .lss (h0 m) g4 d λg6=>A.test g6 (A.s (Qa 1) a5 (h0 m) d λg7=>A.a g7 d λn=>
 A.s (Zq false true (jv 0)) a3 n d λa6=>A.r (Qb 0) a6 d λg8=>A.r (Qb 1) a6 d λg9=>A.r (Zp .not) g9 d λf=>A.fr f Yg g8 d λi0=>
 A.fr f Yg x1 d λi1=>A.fr f Xa i1 d λi2=>A.fr f (Za 1) i2 d λi3=>A.fa f i3 d λi4=>A.fb f .neq i0 i4 d λi5=>A.c f (.bool true) i5 d λi=>
 A.fr i Yg a4 d λi6=>A.fr i Yg n d λi7=>A.fs i (Zq false false (.bool false)) i6 i7 d λi9=>A.c i (.bool true) i9 d λj0=>A.test j0 (h (.bool false) d) (
 A.wr (Xw false [a4,n,.bool true] d) d λ_ d=>A.b .add (h0 m) (jv 1) d λj1=>g5 [j1] d)) (A.r Xa x1 d λj2=>A.r (Za 3) j2 d λj3=>
 A.a j3 d λj=>A.tr j Yg x2 d λj4=>A.tr j Yg j4 d λg=>A.fr g Yg x1 d λj5=>A.fr g Xa j5 d λj6=>A.fr g (Za 5) j6 d λj7=>
 A.fa g j7 d λj8=>A.fr g Qd j8 d λj9=>A.fb g .gtr j9 (jv 0) d λl0=>A.tc j g (.bool true) l0 d λl1=>A.c j l1 (.bool false) d λl2=>h l2 d)) [jv 0] d))) [jv 0] d))
 |_=>A.stop
theorem g111_ok:GQ 111 3 g111:=gq3 [none,some [14],none,none,none,none,none,none,none,none,none,none,none,none,none,some [89],none,none,none,none,none,some [116],none,none,none] λ_ _ _ _ _ _ _=>by kernel_rfl
def g112:GFun:=λA xs a b=>match xs with
 |[x0]=>
 A.s (QS .slice false false) x0 .nils a λc=>A.test c (b .nils a) (A.rd (Z8 4 [] a) λd=>A.wr (Qg 4 32 [d,x0] a) a λe a=>b e a)
 |_=>A.stop
theorem g112_ok:GQ 112 1 g112:=gq1 [none] λ_ _ _ _ _=>by kernel_rfl
def g113:GFun:=λA xs c f=>match xs with
 |[x0]=>
 A.wr (Xc [jv 0,jv 0] [] c) c λd c=>A.r Qd x0 c λh=>A.b .gtr h (jv 240) c λi=>A.test i (A.rd (Xd [jv 0,jv 0] [(0,1)] [jv 3] c) λj=>
 A.ws (Zb 2) d j c λ_ c=>A.opt (cellV true 2 d c) λr4=>f r4 c) (A.loop (λl e c=>A.r Qd x0 c λm=>A.b .lss (h0 e) m c λn=>A.test n (A.loop (λo g c=>
 A.b .lss (h0 g) (h0 e) c λp=>A.test p (A.s (Qa 12) x0 (h0 g) c λq=>A.r (Za 0) q c λt=>A.a t c λu=>A.s (Qa 12) x0 (h0 e) c λv=>
 A.r (Za 0) v c λw=>A.a w c λy=>A.b .eql u y c λz=>A.test z (A.s (Qa 12) x0 (h0 e) c λa0=>A.r (Za 11) a0 c λa1=>A.a a1 c λa2=>
 A.rd (Xd [jv 0,jv 0] [(0,1),(1,1)] [jv 101,a2] c) λa3=>A.ws (Zb 2) d a3 c λ_ c=>A.opt (cellV true 2 d c) λr23=>f r23 c) (A.b .add (h0 g) (jv 1) c λa4=>
 o [a4] c)) (A.s (Qa 12) x0 (h0 e) c λa5=>A.r (Zc true 12) a5 c λa6=>A.k 145 [x0,a6] c λa7 c=>A.r (Zp .not) a7 c λa8=>A.test a8 (A.s (Qa 12) x0 (h0 e) c λa9=>
 A.r (Za 11) a9 c λb0=>A.a b0 c λb1=>A.rd (Xd [jv 0,jv 0] [(0,1),(1,1)] [jv 130,b1] c) λb2=>A.ws (Zb 2) d b2 c λ_ c=>
 A.opt (cellV true 2 d c) λr33=>f r33 c) (A.b .add (h0 e) (jv 1) c λb3=>l [b3] c))) [jv 0] c) (A.rd (Xd [jv 0,jv 0] [] [] c) λb4=>A.ws (Zb 2) d b4 c λ_ c=>
 A.opt (cellV true 2 d c) λr36=>f r36 c)) [jv 0] c)
 |_=>A.stop
theorem g113_ok:GQ 113 1 g113:=gq1 [none,none,some [3],none,none,none,some [4],none,none,none,none] λ_ _ _ _ _=>by kernel_rfl
def g114:GFun:=λA xs d j=>match xs with
 |[x0]=>
 A.wr (Xc [jv 0,jv 0] [] d) d λh d=>A.loop (λl i d=>A.r Qd x0 d λm=>A.b .lss (h0 i) m d λn=>A.test n (A.s (Qa 12) x0 (h0 i) d λo=>
 A.r (Zc true 12) o d λp=>A.wr (Xc [.str [],.bool false,jv 0,jv 0,jv 0,jv 0,jv 0,jv 0,.nils,.nils,.nils,jv 0] [] d) d λe d=>
 A.ws (Zb 12) e p d λ_ d=>A.r (Za 8) e d λq=>A.a q d λt=>A.k 146 [.int .i8 0,t] d λu d=>A.r (Zp .not) u d λf=>A.fr f (Za 9) e d λv=>
 A.fa f v d λw=>A.gw f false (λk=>A.k 146 [.int .i8 0,w] d k) d λy d=>A.fr f (Zp .not) y d λz=>A.c f (.bool true) z d λg=>A.fr g (Za 10) e d λa0=>
 A.fa g a0 d λa1=>A.gw g false (λk=>A.k 146 [.int .i8 0,a1] d k) d λa2 d=>A.fr g (Zp .not) a2 d λa3=>A.c g (.bool true) a3 d λa4=>A.test a4 (
 A.r (Za 11) e d λa5=>A.a a5 d λa6=>A.rd (Xd [jv 0,jv 0] [(0,1),(1,1)] [jv 140,a6] d) λa7=>A.ws (Zb 2) h a7 d λ_ d=>
 A.opt (cellV true 2 h d) λr25=>j r25 d) (A.b .add (h0 i) (jv 1) d λa8=>l [a8] d)) (A.rd (Xd [jv 0,jv 0] [] [] d) λa9=>A.ws (Zb 2) h a9 d λ_ d=>
 A.opt (cellV true 2 h d) λr28=>j r28 d)) [jv 0] d
 |_=>A.stop
theorem g114_ok:GQ 114 1 g114:=gq1 [none,some [3],none,none,none] λ_ _ _ _ _=>by kernel_rfl
def g115:GFun:=λA xs d o=>match xs with
 |[x0,x1]=>
 A.w1 Zm x0 d λj d=>A.r (Za 1) j d λq=>A.a q d λt=>A.s (Qa 7) t x1 d λu=>A.r (Zc true 7) u d λv=>A.wr (Xc [.str [],jv 0,jv 0,jv 0,.nils,.nils,jv 0] [] d) d λe d=>
 A.ws (Zb 7) e v d λ_ d=>A.loop (λw p d=>A.b .lss (h0 p) x1 d λy=>A.test y (A.r (Za 1) j d λz=>A.a z d λa0=>A.s (Qa 7) a0 (h0 p) d λa1=>
 A.r (Za 0) a1 d λa2=>A.a a2 d λa3=>A.r (Za 0) e d λa4=>A.a a4 d λa5=>A.b .eql a3 a5 d λa6=>A.test a6 (o (.bool false) d) (
 A.b .add (h0 p) (jv 1) d λa7=>w [a7] d)) (A.b .geq x1 (jv 240) d λg=>A.fr g (Za 0) e d λa8=>A.fa g a8 d λa9=>A.gw g false (λk=>A.k 147 [a9] d k) d λb0 d=>
 A.fr g (Zp .not) b0 d λb1=>A.c g (.bool true) b1 d λb2=>A.test b2 (o (.bool false) d) (A.r (Za 1) e d λb3=>A.a b3 d λb4=>A.b .geq b4 (jv 0) d λf=>
 A.tr f (Za 1) e d λb5=>A.ta f b5 d λb6=>A.tr f (Za 2) e d λb7=>A.ta f b7 d λb8=>A.tb f .leq b6 b8 d λb9=>A.c f b9 (.bool false) d λl=>
 A.tr l (Za 2) e d λc0=>A.ta l c0 d λc1=>A.tb l .leq c1 (jv 60) d λc2=>A.c l c2 (.bool false) d λm=>A.tr m (Za 3) e d λc3=>
 A.ta m c3 d λc4=>A.tb m .geq c4 (jv 0) d λc5=>A.c m c5 (.bool false) d λn=>A.tr n (Za 3) e d λc6=>A.ta n c6 d λc7=>A.tb n .leq c7 (jv 999) d λc8=>
 A.c n c8 (.bool false) d λh=>A.tr h (Zc true 2) j d λc9=>A.tr h (Za 4) e d λd0=>A.ta h d0 d λd1=>A.gw h true (λk=>A.k 148 [c9,d1] d k) d λd2 d=>
 A.c h d2 (.bool false) d λi=>A.tr i (Zc true 2) j d λd3=>A.tr i (Za 5) e d λd4=>A.ta i d4 d λd5=>A.gw i true (λk=>A.k 148 [d3,d5] d k) d λd6 d=>
 A.c i d6 (.bool false) d λd7=>o d7 d))) [jv 0] d
 |_=>A.stop
theorem g115_ok:GQ 115 2 g115:=gq2 [none,some [6],none,none,none,none] λ_ _ _ _ _ _=>by kernel_rfl
def g118:GFun:=λA xs a d=>match xs with
 |[x0,x1]=>
 A.r Qd x0 a λe=>A.loop (λf c a=>A.b .lss (h0 c) e a λg=>A.test g (A.s (Qa 4) x0 (h0 c) a λh=>A.r (Zc true 4) h a λi=>A.call .callv [x1,i] a λj a=>
 A.test j (d (h0 c) a) (A.b .add (h0 c) (jv 1) a λl=>f [l] a)) (d (jv (-1)) a)) [jv 0] a
 |_=>A.stop
theorem g118_ok:GQ 118 2 g118:=gq2 [none,some [8],none,none,none] λ_ _ _ _ _ _=>by kernel_rfl
def g119:GFun:=λA xs c d=>match xs with
 |[x0,x1]=>
 A.w1 Zm x0 c λe c=>A.r (Za 0) e c λf=>A.a f c λg=>A.a x1 c λh=>A.b .eql g h c λi=>d i c
 |_=>A.stop
theorem g119_ok:GQ 119 2 g119:=gq2 [] λ_ _ _ _ _ _=>by kernel_rfl
def g120:GFun:=λA xs c e=>match xs with
 |[x0,x1]=>
 A.r Qd x0 c λf=>A.loop (λg d c=>A.b .lss (h0 d) f c λh=>A.test h (A.s (Qa 1) x0 (h0 d) c λi=>A.a i c λj=>A.call .callv [x1,j] c λl c=>
 A.test l (e (h0 d) c) (A.b .add (h0 d) (jv 1) c λm=>g [m] c)) (e (jv (-1)) c)) [jv 0] c
 |_=>A.stop
theorem g120_ok:GQ 120 2 g120:=gq2 [none,some [8],none,none,none] λ_ _ _ _ _ _=>by kernel_rfl
def g121:GFun:=λA xs a e=>match xs with
 |[x0]=>
 A.b .eql x0 (.int .i8 0) a λd=>A.fr d Yg x0 a λf=>A.fb d .eql f (.int .i8 1) a λg=>A.c d (.bool true) g a λh=>e h a
 |_=>A.stop
theorem g121_ok:GQ 121 1 g121:=gq1 [] λ_ _ _ _ _=>by kernel_rfl
def g122:GFun:=λA xs d p=>match xs with
 |[x0]=>
 A.wr (Xc [.nils,.nils] [] d) d λi d=>A.wr (Xc [jv 0,jv 0] [] d) d λj d=>A.k 149 [x0] d λu d=>A.r (Qb 0) u d λt3=>A.r (Qb 1) u d λt4=>
 A.wr (Xc [jv 0,jv 0] [] d) d λq d=>A.ws (Zb 2) q t4 d λ_ d=>A.r (Za 0) q d λt6=>A.a t6 d λt7=>A.b .neq t7 (jv 0) d λt8=>
 A.test t8 (A.pu (Xd [.nils,.nils] [] [] d) λt9=>A.dr (Zc true 2 [q] d) d λa0 a1 d=>A.dr (Zb 2 [i,t9] d) d λ_ a2 d=>A.dr (Zb 2 [j,a0] d) d λ_ a3 d=>
 A.gd (Qe [[],[],[0],[0,1,2]] [([],[]),a1,a2,a3]) <| A.opt (cellV true 2 i d) λr14=>A.opt (cellV true 2 j d) λr15=>p (.tup [r14,r15]) d) (
 A.rd (Xd [.nils,jv 0,jv 0,jv 0,jv 0] [(0,1)] [t3] d) λa4=>A.w1 Zm a4 d λe d=>A.wr (Xc [.nils,.nils] [] d) d λh d=>joinK (λt=>
 A.loop (λv j6 d=>A.dcall (.call 150) [e] d λf a5 d=>A.gr f true (λk=>A.pu (Yg [e] d) k) λa6=>A.gr f true (λk=>A.pu (Xa [a6] d) k) λa7=>
 A.gr f true (λk=>A.pu (Za 0 [a7] d) k) λa8=>A.gl f true (λk=>A.dr (Yd [a8] d) d k) d λa9 b0 d=>A.gr f true (λk=>A.pu (Yg [e] d) k) λb1=>
 A.gr f true (λk=>A.pu (Xa [b1] d) k) λb2=>A.gr f true (λk=>A.pu (Za 1 [b2] d) k) λb3=>A.gl f true (λk=>A.dr (Yd [b3] d) d k) d λb4 b5 d=>
 A.gl f true (λk=>A.dr (Qa 4 [a9,b4] d) d k) d λb6 b7 d=>A.gr f true (λk=>A.pu (Za 0 [b6] d) k) λb8=>A.gl f true (λk=>A.dr (Yd [b8] d) d k) d λb9 c0 d=>
 A.gr f true (λk=>A.pu (Yh .neq false [b9,.int .i8 0] d) k) λc1=>A.pu (Zn [f,c1,.bool false] d) λc2=>A.gd (Qe [[],[0],[0,1],[0,1,2],[0,1,2,3],[0,1,2,3,4],[0,1,2,3,4,5],[0,1,2],[0,1,2,7],[0,1,2,7,8],[0,1,2,7,8,9],[0,1,2,3,4,5,6,7,8,9,10],[0,1,2,3,4,5,6,7,8,9,10,11],[0,1,2,3,4,5,6,7,8,9,10,11,12],[0,1,2,3,4,5,6,7,8,9,10,11,12,13],[0,1,2,3,4,5,6,7,8,9,10,11,12,13,14]] [([],[]),a5,([],[]),([],[]),([],[]),([],[]),b0,([],[]),([],[]),([],[]),b5,b7,([],[]),c0,([],[]),([],[])]) <|
 A.test c2 (A.r Xa e d λc3=>A.r (Za 0) c3 d λc4=>A.a c4 d λc5=>A.r Xa e d λc6=>A.r (Za 1) c6 d λc7=>A.a c7 d λc8=>
 A.s (Qa 4) c5 c8 d λc9=>A.r (Za 3) c9 d λd0=>A.a d0 d λw=>A.k 151 [e,(.str [99,97,114,100])] d λg d=>A.tr g (Za 1) h d λd1=>
 A.ta g d1 d λd2=>A.tr g Qd d2 d λd3=>A.tb g .gtr d3 (jv 0) d λd4=>A.c g d4 (.bool false) d λl=>A.fr l Yg g d λd5=>A.fr l (Zp .not) d5 d λd6=>
 A.fr l Yg d6 d λo=>A.tr o Yg e d λd7=>A.gw o true (λk=>A.k 151 [d7,(.str [102,111,114,109,97,116])] d k) d λd8 d=>A.tr o (Zp .not) d8 d λd9=>
 A.fc l o d9 (.bool false) d λe0=>A.c l (.bool true) e0 d λe1=>A.test e1 (A.k 152 [e,jv 120] d λj7 d=>t [] d) (A.tr g (Za 0) h d λe2=>
 A.ta g e2 d λe3=>A.tr g Qd e3 d λe4=>A.tb g .geq e4 (jv 240) d λe5=>A.c g e5 (.bool false) d λm=>A.fr m Yg g d λe6=>A.fr m (Zp .not) e6 d λe7=>
 A.fr m Yg e7 d λn=>A.tr n (Za 1) h d λe8=>A.ta n e8 d λe9=>A.tr n Qd e9 d λf0=>A.tb n .geq f0 (jv 240) d λf1=>A.fc m n f1 (.bool false) d λf2=>
 A.c m (.bool true) f2 d λf3=>A.test f3 (A.k 152 [e,jv 3] d λj8 d=>t [] d) (A.r Xa e d λf4=>A.r (Za 1) f4 d λf5=>A.a f5 d λf6=>
 A.b .add f6 (jv 1) d λf7=>A.r Xa e d λf8=>A.r (Za 1) f8 d λf9=>A.ws (Zb 1) f9 f7 d λ_ d=>A.test g (A.k 153 [e,w] d λg0 d=>
 A.wr (Xc [.str [],.bool false,jv 0,jv 0,jv 0,jv 0,jv 0,jv 0,.nils,.nils,.nils,jv 0] [] d) d λy d=>A.ws (Zb 12) y g0 d λ_ d=>
 A.r (Za 0) h d λg1=>A.a g1 d λg2=>A.r (Zc true 12) y d λg3=>A.wr (Zh 12 1 [.str [],.bool false,jv 0,jv 0,jv 0,jv 0,jv 0,jv 0,.nils,.nils,.nils,jv 0] [(0,12)] [g3] d) d λg4 d=>
 A.wr (Qg 12 152 [g2,g4] d) d λg5 d=>A.r (Za 0) h d λg6=>A.ws (Zb 1) g6 g5 d λ_ d=>v [] d) (A.k 154 [e,w] d λg7 d=>A.wr (Xc [.str [],jv 0,jv 0,jv 0,.nils,.nils,jv 0] [] d) d λz d=>
 A.ws (Zb 7) z g7 d λ_ d=>A.r (Za 1) h d λg8=>A.a g8 d λg9=>A.r (Zc true 7) z d λi0=>A.wr (Zh 7 1 [.str [],jv 0,jv 0,jv 0,.nils,.nils,jv 0] [(0,7)] [i0] d) d λi1 d=>
 A.wr (Qg 7 96 [g9,i1] d) d λi2 d=>A.r (Za 1) h d λi3=>A.ws (Zb 1) i3 i2 d λ_ d=>v [] d)))) (t [] d)) [] d) (λj9 d=>A.k 150 [e] d λi4 d=>
 A.r (Zp .not) i4 d λi5=>A.test i5 (A.pu (Xd [.nils,.nils] [] [] d) λi6=>A.pu (Xa [e] d) λi7=>A.pu (Za 3 [i7] d) λi9=>A.dr (Zc true 2 [i9] d) d λj0 j1 d=>
 A.dr (Zb 2 [i,i6] d) d λ_ j2 d=>A.dr (Zb 2 [j,j0] d) d λ_ j3 d=>A.gd (Qe [[],[],[1],[1,2],[1,2,3],[0],[0,1,2,3,4,5]] [([],[]),([],[]),([],[]),([],[]),j1,j2,j3]) <|
 A.opt (cellV true 2 i d) λr112=>A.opt (cellV true 2 j d) λr113=>p (.tup [r112,r113]) d) (A.r (Zc true 2) h d λj4=>A.rd (Xd [jv 0,jv 0] [] [] d) λj5=>
 A.ws (Zb 2) i j4 d λ_ d=>A.ws (Zb 2) j j5 d λ_ d=>A.opt (cellV true 2 i d) λr116=>A.opt (cellV true 2 j d) λr117=>p (.tup [r116,r117]) d)))
 |_=>A.stop
theorem g122_ok:GQ 122 1 g122:=gq1 [none,some [],some [],none,none,none,none,none,none] λ_ _ _ _ _=>by kernel_rfl
def g124:GFun:=λA xs b d=>match xs with
 |[x0]=>
 A.w1 Zm x0 b λe b=>A.wr (Xc [jv 0] [] b) b λc b=>A.ws (Zb 1) c (jv 0) b λ_ b=>A.r (Zo (.func 156) 0) c b λf=>A.k 155 [e,f] b λh b=>
 A.a c b λg=>d g b
 |_=>A.stop
theorem g124_ok:GQ 124 1 g124:=gq1 [] λ_ _ _ _ _=>by kernel_rfl
def g128:GFun:=λA xs a i=>match xs with
 |[x0,x1,x2,x3]=>
 A.loop (λj d a=>A.b .sub (h0 d) (h1 d) a λm=>A.b .leq m (jv 12) a λt3=>A.test t3 (A.k 163 [x0,(h1 d),(h0 d)] a λt4 a=>i (.tup []) a) (A.b .eql (h2 d) (jv 0) a λt5=>
 A.test t5 (A.k 164 [x0,(h1 d),(h0 d)] a λt6 a=>i (.tup []) a) (A.r (Zp .not) (h3 d) a λt7=>joinK (λn=>A.test t7 (A.k 165 [x0,(h1 d),(h0 d)] a λd3 a=>
 A.b .sub (h2 d) (jv 1) a λa0=>n [a0] a) (n [(h2 d)] a)) (λg a=>A.k 166 [x0,(h1 d),(h0 d)] a λo a=>A.r (Qb 0) o a λp=>A.r (Qb 1) o a λq=>
 A.b .eql q (jv 2) a λa1=>joinK (λs=>A.test a1 (A.k 167 [x0,(h1 d),(h0 d)] a λd4 a=>A.b .sub (h0 d) (jv 1) a λa2=>A.b .sub p (h1 d) a λa3=>
 A.b .sub a2 a3 a λa4=>s [jv 1,a4] a) (s [q,p] a)) (λh a=>A.gr (h3 d) true (λk=>A.rd (Yg [(h4 d)] a) k) λa5=>A.c (h3 d) a5 (.bool false) a λl=>
 A.tr l Yg (h0 h) a λa6=>A.tb l .eql a6 (jv 1) a λa7=>A.c l a7 (.bool false) a λa8=>joinK (λt=>A.test a8 (A.k 168 [x0,(h1 d),(h0 d)] a λa9 a=>
 A.test a9 (i (.tup []) a) (t [] a)) (t [] a)) (λd5 a=>A.pu (Yh .gtr false [(h1 d),jv 0] a) λe=>A.gr e true (λk=>A.pu (Yg [x0] a) k) λb0=>
 A.gr e true (λk=>A.pu (Yg [(h1 d)] a) k) λb1=>A.gr e true (λk=>A.pu (Yh .sub false [b1,jv 1] a) k) λb2=>A.gl e true (λk=>A.dr (Qa 1 [b0,b2] a) a k) a λb3 b4 a=>
 A.gl e true (λk=>A.dr (Yd [b3] a) a k) a λb5 b6 a=>A.gr e true (λk=>A.pu (Yg [x0] a) k) λb7=>A.gr e true (λk=>A.pu (Yg [(h1 h)] a) k) λb8=>
 A.gl e true (λk=>A.dr (Qa 1 [b7,b8] a) a k) a λb9 c0 a=>A.gl e true (λk=>A.dr (Yd [b9] a) a k) a λc1 c2 a=>A.gl e true (λk=>A.dcall (.call 169) [b5,c1] a k) a λc3 c4 a=>
 A.gr e true (λk=>A.pu (Zp .not [c3] a) k) λc5=>A.pu (Zn [e,c5,.bool false] a) λc6=>A.gd (Qe [[],[0],[0,1],[0,1,2],[0,1,2],[0,1,2,4],[0,1,2,3,4,5],[0,1,2,3,4,5,6],[0,1,2],[0,1,2],[0,1,2,8,9],[0,1,2,8,9,10],[0,1,2,3,4,5,6,7,8,9,10,11],[0,1,2,3,4,5,6,7,8,9,10,11,12],[0,1,2,3,4,5,6,7,8,9,10,11,12,13]] [([],[]),([],[]),([],[]),([],[]),([],[]),([],[]),b4,b6,([],[]),([],[]),c0,c2,c4,([],[]),([],[])]) <|
 A.test c6 (A.k 170 [x0,(h1 d),(h0 d),(h1 h)] a λc7 a=>j [(h0 d),c7,(h0 g),(h3 d),(h4 d)] a) (A.k 171 [x0,(h1 d),(h0 d),(h1 h)] a λu a=>A.r (Qb 0) u a λf=>
 A.r (Qb 1) u a λv=>A.b .sub f (h1 d) a λw=>A.b .sub (h0 d) f a λy=>A.b .quo m (jv 8) a λz=>A.b .lss w y a λc8=>A.test c8 (A.b .geq w z a λc9=>
 A.k 128 [x0,(h1 d),f,(h0 g)] a λd6 a=>A.b .add f (jv 1) a λd0=>j [(h0 d),d0,(h0 g),c9,v] a) (A.b .geq y z a λd1=>A.b .add f (jv 1) a λd2=>
 A.k 128 [x0,d2,(h0 d),(h0 g)] a λd7 a=>j [f,(h1 d),(h0 g),d1,v] a)))))))) [x2,x1,x3,.bool true,.bool true] a
 |_=>A.stop
theorem g128_ok:GQ 128 4 g128:=gq4 [none,some [2,1,3,8,9],none,none,none,some [3],some [12,11],some [],none,none,none] λ_ _ _ _ _ _ _ _=>by kernel_rfl
def g129:GFun:=λA xs a b=>match xs with
 |[x0]=>
 A.test (.bool false) (A.r (ZH .u32) x0 a λc=>A.k 172 [c] a λd a=>b d a) (A.k 173 [x0] a λe a=>b e a)
 |_=>A.stop
theorem g129_ok:GQ 129 1 g129:=gq1 [none] λ_ _ _ _ _=>by kernel_rfl
def g130:GFun:=λA xs a h=>match xs with
 |[x0]=>
 A.b .eql x0 (.int .i8 0) a λd=>A.fr d Yg x0 a λi=>A.fb d .eql i (.int .i8 1) a λj=>A.c d (.bool true) j a λe=>A.fr e Yg x0 a λl=>A.fb e .eql l (.int .i8 2) a λm=>
 A.c e (.bool true) m a λf=>A.fr f Yg x0 a λn=>A.fb f .eql n (.int .i8 3) a λo=>A.c f (.bool true) o a λg=>A.fr g Yg x0 a λp=>A.fb g .eql p (.int .i8 5) a λq=>
 A.c g (.bool true) q a λr=>h r a
 |_=>A.stop
theorem g130_ok:GQ 130 1 g130:=gq1 [] λ_ _ _ _ _=>by kernel_rfl
def g133:GFun:=λA xs d l=>match xs with
 |[x0]=>
 A.w1 Zm x0 d λe d=>A.r (Za 0) e d λm=>A.a m d λn=>A.r Qd n d λo=>A.r (Za 1) e d λp=>A.a p d λq=>A.r Qd q d λt=>
 A.b .add o t d λu=>A.loop (λv g d=>A.r (Za 0) e d λw=>A.a w d λy=>A.r Qd y d λz=>A.b .lss (h0 g) z d λi=>A.tr i Yg (h1 g) d λa0=>
 A.tb i .leq a0 (jv 6000) d λa1=>A.c i a1 (.bool false) d λa2=>A.test a2 (A.r (Za 0) e d λa3=>A.a a3 d λa4=>A.s (Qa 12) a4 (h0 g) d λa5=>
 A.r (Zc true 12) a5 d λa6=>A.wr (Xc [.str [],.bool false,jv 0,jv 0,jv 0,jv 0,jv 0,jv 0,.nils,.nils,.nils,jv 0] [] d) d λh d=>
 A.ws (Zb 12) h a6 d λ_ d=>A.pu (Za 8 [h] d) λa7=>A.dr (Yd [a7] d) d λa8 a9 d=>A.dcall (.call 135) [a8] d λb0 b1 d=>A.pu (Yh .add false [(h1 g),b0] d) λb2=>
 A.pu (Za 9 [h] d) λb3=>A.dr (Yd [b3] d) d λb4 b5 d=>A.dcall (.call 135) [b4] d λb6 b7 d=>A.pu (Yh .add false [b2,b6] d) λb8=>A.pu (Za 10 [h] d) λb9=>
 A.dr (Yd [b9] d) d λc0 c1 d=>A.dcall (.call 135) [c0] d λc2 c3 d=>A.pu (Yh .add false [b8,c2] d) λc4=>A.gd (Qe [[],[],[1],[1,2],[0,1,2,3],[],[5],[1,2,3,5,6],[0,1,2,3,4,5,6,7],[],[9],[1,2,3,5,6,7,9,10],[0,1,2,3,4,5,6,7,8,9,10,11],[0,1,2,3,4,5,6,7,8,9,10,11,12]] [([],[]),([],[]),a9,b1,([],[]),([],[]),b5,b7,([],[]),([],[]),c1,c3,([],[]),([],[])]) <|
 A.b .add (h0 g) (jv 1) d λc5=>v [c5,c4] d) (A.loop (λc6 f d=>A.r (Za 1) e d λc7=>A.a c7 d λc8=>A.r Qd c8 d λc9=>A.b .lss (h0 f) c9 d λj=>
 A.tr j Yg (h1 f) d λd0=>A.tb j .leq d0 (jv 6000) d λd1=>A.c j d1 (.bool false) d λd2=>A.test d2 (A.r (Za 1) e d λd3=>A.a d3 d λd4=>
 A.s (Qa 7) d4 (h0 f) d λd5=>A.r (Za 4) d5 d λd6=>A.a d6 d λd7=>A.r Qd d7 d λd8=>A.b .add (h1 f) d8 d λd9=>A.r (Za 1) e d λe0=>
 A.a e0 d λe1=>A.s (Qa 7) e1 (h0 f) d λe2=>A.r (Za 5) e2 d λe3=>A.a e3 d λe4=>A.r Qd e4 d λe5=>A.b .add d9 e5 d λe6=>
 A.b .add (h0 f) (jv 1) d λe7=>c6 [e7,e6] d) (A.b .gtr (h1 f) (jv 6000) d λe8=>l e8 d)) [jv 0,(h1 g)] d)) [jv 0,u] d
 |_=>A.stop
theorem g133_ok:GQ 133 1 g133:=gq1 [none,some [4,3],none,none,none,some [6,3],none,none] λ_ _ _ _ _=>by kernel_rfl
def g134:GFun:=λA xs c g=>match xs with
 |[x0]=>
 A.w1 Zm x0 c λf c=>A.r (Za 5) f c λh=>A.a h c λi=>A.r Qd i c λj=>A.loop (λl e c=>A.b .lss (h0 e) (jv 2) c λm=>A.test m (
 A.r (Za 7) f c λn=>A.s (Yf 2 8) n (h0 e) c λo=>A.r (Zc true 8) o c λp=>A.wr (Xc zq4 [] c) c λd c=>A.ws (Zb 8) d p c λ_ c=>
 A.r (Za 3) d c λq=>A.a q c λt=>A.r Qd t c λu=>A.b .add (h1 e) u c λv=>A.r (Za 4) d c λw=>A.a w c λy=>A.r Qd y c λz=>
 A.b .add v z c λa0=>A.r (Za 5) d c λa1=>A.a a1 c λa2=>A.r Qd a2 c λa3=>A.b .add a0 a3 c λa4=>A.r (Za 6) d c λa5=>A.a a5 c λa6=>
 A.r Qd a6 c λa7=>A.b .add a4 a7 c λa8=>A.r (Za 7) d c λa9=>A.a a9 c λb0=>A.r Qd b0 c λb1=>A.b .add a8 b1 c λb2=>A.b .add (h0 e) (jv 1) c λb3=>
 l [b3,b2] c) (A.b .gtr (h1 e) (jv 1000) c λb4=>g b4 c)) [jv 0,j] c
 |_=>A.stop
theorem g134_ok:GQ 134 1 g134:=gq1 [none,some [4,3],none,none] λ_ _ _ _ _=>by kernel_rfl
def g135:GFun:=λA xs a f=>match xs with
 |[x0]=>
 A.r Qd x0 a λg=>A.loop (λh d a=>A.r Qd x0 a λi=>A.b .lss (h0 d) i a λe=>A.tr e Yg (h1 d) a λj=>A.tb e .lss j (jv 100000) a λl=>
 A.c e l (.bool false) a λm=>A.test m (A.dr (Qa 14 [x0,(h0 d)] a) a λn o a=>A.pu (Za 2 [n] a) λp=>A.dr (Zc true 4 [p] a) a λq t a=>
 A.dcall (.call 174) [q] a λu v a=>A.pu (Yh .add false [(h1 d),u] a) λw=>A.dr (Qa 14 [x0,(h0 d)] a) a λy z a=>A.pu (Za 7 [y] a) λa0=>
 A.dr (Zc true 5 [a0] a) a λa1 a2 a=>A.dcall (.call 175) [a1] a λa3 a4 a=>A.pu (Yh .add false [w,a3] a) λa5=>A.dr (Qa 14 [x0,(h0 d)] a) a λa6 a7 a=>
 A.pu (Za 12 [a6] a) λa8=>A.dr (Yd [a8] a) a λa9 b0 a=>A.dcall (.call 135) [a9] a λb1 b2 a=>A.pu (Yh .add false [a5,b1] a) λb3=>
 A.dr (Qa 14 [x0,(h0 d)] a) a λb4 b5 a=>A.pu (Za 13 [b4] a) λb6=>A.dr (Yd [b6] a) a λb7 b8 a=>A.dcall (.call 135) [b7] a λb9 c0 a=>
 A.pu (Yh .add false [b3,b9] a) λc1=>A.gd (Qe [[],[],[],[1,2],[1,2,3],[1,2,3,4],[1,2,3,4,5],[0,1,2,3,4,5,6],[],[],[8,9],[8,9,10],[8,9,10,11],[1,2,3,4,5,6,8,9,10,11,12],[0,1,2,3,4,5,6,7,8,9,10,11,12,13],[],[],[15,16],[15,16,17],[15,16,17,18],[1,2,3,4,5,6,8,9,10,11,12,13,15,16,17,18,19],[0,1,2,3,4,5,6,7,8,9,10,11,12,13,14,15,16,17,18,19,20],[],[],[22,23],[22,23,24],[22,23,24,25],[1,2,3,4,5,6,8,9,10,11,12,13,15,16,17,18,19,20,22,23,24,25,26],[0,1,2,3,4,5,6,7,8,9,10,11,12,13,14,15,16,17,18,19,20,21,22,23,24,25,26,27],[0,1,2,3,4,5,6,7,8,9,10,11,12,13,14,15,16,17,18,19,20,21,22,23,24,25,26,27,28]] [([],[]),([],[]),([],[]),o,([],[]),t,v,([],[]),([],[]),([],[]),z,([],[]),a2,a4,([],[]),([],[]),([],[]),a7,([],[]),b0,b2,([],[]),([],[]),([],[]),b5,([],[]),b8,c0,([],[]),([],[])]) <|
 A.b .add (h0 d) (jv 1) a λc2=>h [c2,c1] a) (A.s ZL (h1 d) (jv 100000) a λc3=>f c3 a)) [jv 0,g] a
 |_=>A.stop
theorem g135_ok:GQ 135 1 g135:=gq1 [none,some [4,3],none,none] λ_ _ _ _ _=>by kernel_rfl
def g136:GFun:=λA xs a f=>match xs with
 |[]=>
 A.wr (Xc zq0 [] a) a λe a=>A.rd (Xd zq0 [(0,1),(6,1)] [jv 1,jv 3] a) λg=>A.wr (Xc zq0 [] a) a λd a=>A.ws (Zb 23) d g a λ_ a=>
 A.loop (λh c a=>A.b .lss (h0 c) (jv 2) a λi=>A.test i (A.wr (Zh 1 3 [jv 0,jv 0,jv 0] [(0,1),(1,1),(2,1)] [jv 0,jv 1,jv 2] a) a λj a=>
 A.wr (Zh 1 2 [jv 0,jv 0] [(0,1),(1,1)] [jv 2,jv 0] a) a λl a=>A.b .add (jv 1) (h0 c) a λm=>A.rd (Xd zq3 [(0,1),(1,1)] [m,(h0 c)] a) λn=>
 A.wr (Zh 4 1 zq3 [(0,4)] [n] a) a λo a=>A.rd (Xd zq4 [(0,1),(1,1),(2,1),(3,1),(4,1),(6,1)] [jv 20,jv 3,jv 3,j,l,o] a) λp=>
 A.r (Za 7) d a λq=>A.s (Yf 2 8) q (h0 c) a λt=>A.ws (Zb 8) t p a λ_ a=>A.b .add (h0 c) (jv 1) a λu=>h [u] a) (A.r (Zc true 23) d a λv=>
 A.ws (Zb 23) e v a λ_ a=>A.opt (cellV true 23 e a) λr16=>f r16 a)) [jv 0] a
 |_=>A.stop
theorem g136_ok:GQ 136 0 g136:=gq0 [none,some [2],none,none] λ_ _ _ _=>by kernel_rfl
def g137:GFun:=λA xs c g=>match xs with
 |[x0]=>
 A.r Qd x0 c λi=>A.b .lss i (jv 2) c λj=>A.test j (g x0 c) (A.loop (λl e c=>A.r Qd x0 c λm=>A.b .lss (h0 e) m c λn=>A.test n (A.s (Qa 1) x0 (h0 e) c λo=>
 A.a o c λp=>A.b .sub (h0 e) (jv 1) c λq=>A.s (Qa 1) x0 q c λt=>A.a t c λu=>A.b .eql p u c λv=>A.test v (A.s (XG 1) x0 (h0 e) c λf=>
 A.loop (λw d c=>A.r Qd f c λy=>A.b .lss (h0 d) y c λz=>A.test z (joinK (λh=>A.s (Qa 1) f (h0 d) c λa0=>A.a a0 c λa1=>A.b .sub (h0 d) (jv 1) c λa2=>
 A.s (Qa 1) f a2 c λa3=>A.a a3 c λa4=>A.b .neq a1 a4 c λa5=>A.test a5 (A.s (Qa 1) f (h0 d) c λa6=>A.a a6 c λa7=>A.s (Qa 1) x0 (h1 d) c λa8=>
 A.ws (Zb 1) a8 a7 c λ_ c=>A.b .add (h1 d) (jv 1) c λa9=>h [a9] c) (h [(h1 d)] c)) (λb0 c=>A.b .add (h0 d) (jv 1) c λb1=>w [b1,(h0 b0)] c)) (
 A.s (XG 1) x0 (h1 d) c λb2=>A.wr (Qag 1 [jv 0] [b2] c) c λ_ c=>A.s (YK 1) x0 (h1 d) c λb3=>g b3 c)) [jv 1,(h0 e)] c) (A.b .add (h0 e) (jv 1) c λb4=>
 l [b4] c)) (g x0 c)) [jv 1] c)
 |_=>A.stop
theorem g137_ok:GQ 137 1 g137:=gq1 [none,none,some [3],none,none,none,none,some [5,3],none,some [3],none] λ_ _ _ _ _=>by kernel_rfl
def g138:GFun:=λA xs a c=>match xs with
 |[x0,x1]=>
 A.k 176 [x0,x1] a λd a=>A.b .geq d (jv 0) a λe=>c e a
 |_=>A.stop
theorem g138_ok:GQ 138 2 g138:=gq2 [] λ_ _ _ _ _ _=>by kernel_rfl
def g139:GFun:=λA xs a d=>match xs with
 |[x0,x1]=>
 A.r Qd x0 a λe=>A.loop (λf c a=>A.b .lss (h0 c) e a λg=>A.test g (A.s (Qa 2) x0 (h0 c) a λh=>A.r (Zc true 2) h a λi=>A.call .callv [x1,i] a λj a=>
 A.test j (d (h0 c) a) (A.b .add (h0 c) (jv 1) a λl=>f [l] a)) (d (jv (-1)) a)) [jv 0] a
 |_=>A.stop
theorem g139_ok:GQ 139 2 g139:=gq2 [none,some [8],none,none,none] λ_ _ _ _ _ _=>by kernel_rfl
def g142:GFun:=λA xs c i=>match xs with
 |[x0]=>
 A.loop (λj d c=>A.r Qd x0 c λl=>A.b .lss (h0 d) l c λm=>A.test m (joinK (λe=>A.b .add (h1 d) (jv 1) c λn=>A.s ZL n (jv 1073741824) c λf=>
 A.s (Qa 14) x0 (h0 d) c λo=>A.r (Za 0) o c λp=>A.a p c λq=>A.k 130 [q] c λt c=>joinK (λg=>A.test t (A.s (Qa 14) x0 (h0 d) c λu=>
 A.r (Za 2) u c λv=>A.r (Zc true 4) v c λw=>A.k 76 [w] c λy c=>A.b .add f y c λz=>A.s ZL z (jv 1073741824) c λa0=>g [a0] c) (
 g [f] c)) (λh c=>A.s (Qa 14) x0 (h0 d) c λa1=>A.r (Za 0) a1 c λa2=>A.a a2 c λa3=>A.b .eql a3 (.int .i8 8) c λa4=>A.test a4 (
 A.dr (Qa 14 [x0,(h0 d)] c) c λa5 a6 c=>A.pu (Za 7 [a5] c) λa7=>A.dr (Zc true 5 [a7] c) c λa8 a9 c=>A.dcall (.call 178) [a8] c λb0 b1 c=>
 A.pu (Yh .add false [(h0 h),b0] c) λb2=>A.dr (Qa 14 [x0,(h0 d)] c) c λb3 b4 c=>A.pu (Za 12 [b3] c) λb5=>A.dr (Yd [b5] c) c λb6 b7 c=>
 A.dcall (.call 142) [b6] c λb8 b9 c=>A.pu (Yh .add false [b2,b8] c) λc0=>A.dr (Qa 14 [x0,(h0 d)] c) c λc1 c2 c=>A.pu (Za 13 [c1] c) λc3=>
 A.dr (Yd [c3] c) c λc4 c5 c=>A.dcall (.call 142) [c4] c λc6 c7 c=>A.pu (Yh .add false [c0,c6] c) λc8=>A.pu (ZL [c8,jv 1073741824] c) λc9=>
 A.gd (Qe [[],[],[],[1,2],[1,2,3],[1,2,3,4],[1,2,3,4,5],[0,1,2,3,4,5,6],[],[],[8,9],[8,9,10],[8,9,10,11],[1,2,3,4,5,6,8,9,10,11,12],[0,1,2,3,4,5,6,7,8,9,10,11,12,13],[],[],[15,16],[15,16,17],[15,16,17,18],[1,2,3,4,5,6,8,9,10,11,12,13,15,16,17,18,19],[0,1,2,3,4,5,6,7,8,9,10,11,12,13,14,15,16,17,18,19,20],[0,1,2,3,4,5,6,7,8,9,10,11,12,13,14,15,16,17,18,19,20,21],[0,1,2,3,4,5,6,7,8,9,10,11,12,13,14,15,16,17,18,19,20,21,22]] [([],[]),([],[]),([],[]),a6,([],[]),a9,b1,([],[]),([],[]),([],[]),b4,([],[]),b7,b9,([],[]),([],[]),([],[]),c2,([],[]),c5,c7,([],[]),([],[]),([],[])]) <|
 e [c9] c) (e [(h0 h)] c))) (λv5 c=>A.b .add (h0 d) (jv 1) c λd0=>j [d0,(h0 v5)] c)) (i (h1 d) c)) [jv 0,jv 0] c
 |_=>A.stop
theorem g142_ok:GQ 142 1 g142:=gq1 [none,some [4,3],none,some [3],some [3],none] λ_ _ _ _ _=>by kernel_rfl
def g143:GFun:=λA xs c h=>match xs with
 |[x0]=>
 A.w1 Zm x0 c λe c=>A.wr (Xc [jv 0,jv 0] [] c) c λd c=>A.r (Zo (.func 179) 0) e c λi=>A.r (Zo (.func 181) 0) e c λj=>A.r (Zo (.func 183) 0) e c λl=>
 A.rd (Xd [.nilf,.nilf,.nilf] [(0,1),(1,1),(2,1)] [i,j,l] c) λm=>A.loop (λn f c=>A.b .lss (h0 f) (jv 3) c λo=>A.test o (A.s (Y8 false 3 1) m (h0 f) c λp=>
 A.call .callv [p] c λq c=>A.wr (Xc [jv 0,jv 0] [] c) c λg c=>A.ws (Zb 2) g q c λ_ c=>A.r (Za 0) g c λt=>A.a t c λu=>
 A.b .neq u (jv 0) c λv=>A.test v (A.r (Zc true 2) g c λw=>A.ws (Zb 2) d w c λ_ c=>A.opt (cellV true 2 d c) λr16=>h r16 c) (A.b .add (h0 f) (jv 1) c λy=>
 n [y] c)) (A.rd (Xd [jv 0,jv 0] [] [] c) λz=>A.ws (Zb 2) d z c λ_ c=>A.opt (cellV true 2 d c) λr19=>h r19 c)) [jv 0] c
 |_=>A.stop
theorem g143_ok:GQ 143 1 g143:=gq1 [none,some [10],none,none,none] λ_ _ _ _ _=>by kernel_rfl
def g144:GFun:=λA xs d q=>match xs with
 |[x0,x1,x2,x3]=>
 A.w1 Zm x0 d λz d=>A.r Xa x1 d λt1=>A.r (Za 7) t1 d λt2=>A.s (Yf 2 8) t2 x2 d λe=>A.r Xa e d λt4=>A.r (Za 0) t4 d λt5=>
 A.a t5 d λt6=>A.k 57 [t6] d λt7 d=>A.r (Zp .not) t7 d λm=>A.fr m Yg e d λt9=>A.fr m Xa t9 d λa4=>A.fr m (Za 1) a4 d λa5=>
 A.fa m a5 d λa6=>A.fb m .lss a6 (jv 0) d λa7=>A.c m (.bool true) a7 d λj=>A.fr j Yg e d λa8=>A.fr j Xa a8 d λa9=>A.fr j (Za 1) a9 d λb0=>
 A.fa j b0 d λb1=>A.gw j false (λk=>A.k 57 [b1] d k) d λb2 d=>A.fr j (Zp .not) b2 d λb3=>A.c j (.bool true) b3 d λn=>A.fr n Yg e d λb4=>
 A.fr n Xa b4 d λb5=>A.fr n (Za 2) b5 d λb6=>A.fa n b6 d λb7=>A.fb n .lss b7 (jv 0) d λb8=>A.c n (.bool true) b8 d λo=>A.fr o Yg e d λb9=>
 A.fr o Xa b9 d λc0=>A.fr o (Za 2) c0 d λc1=>A.fa o c1 d λc2=>A.fb o .gtr c2 (jv 10) d λc3=>A.c o (.bool true) c3 d λl=>A.fr l Yg e d λc4=>
 A.fr l Xa c4 d λc5=>A.fr l (Za 6) c5 d λc6=>A.fa l c6 d λc7=>A.fr l Qd c7 d λc8=>A.fb l .gtr c8 (jv 7) d λc9=>A.c l (.bool true) c9 d λd0=>
 A.test d0 (q (.bool false) d) (A.r Xa e d λd1=>A.r (Za 3) d1 d λd2=>A.a d2 d λd3=>A.rd (Xd [.nils,jv 0] [(0,1),(1,1)] [d3,jv 60] d) λd4=>
 A.r Xa e d λd5=>A.r (Za 4) d5 d λd6=>A.a d6 d λd7=>A.rd (Xd [.nils,jv 0] [(0,1),(1,1)] [d7,jv 10] d) λd8=>A.r Xa e d λd9=>
 A.r (Za 5) d9 d λe0=>A.a e0 d λe1=>A.rd (Xd [.nils,jv 0] [(0,1),(1,1)] [e1,jv 1000000] d) λe2=>A.r Xa e d λe3=>A.r (Za 7) e3 d λe4=>
 A.a e4 d λe5=>A.rd (Xd [.nils,jv 0] [(0,1),(1,1)] [e5,jv 1000000] d) λe6=>A.rd (Xd [.nils,jv 0,.nils,jv 0,.nils,jv 0,.nils,jv 0] [(0,2),(2,2),(4,2),(6,2)] [d4,d8,e2,e6] d) λe7=>
 A.loop (λe8 a0 d=>A.b .lss (h0 a0) (jv 4) d λe9=>A.test e9 (A.s (Y8 true 4 2) e7 (h0 a0) d λf0=>A.wr (Xc [.nils,jv 0] [] d) d λt d=>
 A.ws (Zb 2) t f0 d λ_ d=>A.r (Za 0) t d λf1=>A.a f1 d λf2=>A.r Qd f2 d λf3=>A.r (Za 1) t d λf4=>A.a f4 d λf5=>
 A.b .gtr f3 f5 d λp=>A.fr p (Za 0) t d λf6=>A.fa p f6 d λf7=>A.fr p (Zo (.func 186) 0) z d λf8=>A.gw p false (λk=>A.k 185 [f7,f8] d k) d λf9 d=>
 A.c p (.bool true) f9 d λg0=>A.test g0 (q (.bool false) d) (A.b .add (h0 a0) (jv 1) d λg1=>e8 [g1] d)) (A.r Xa e d λg2=>A.r (Za 6) g2 d λg3=>
 A.a g3 d λa2=>A.r Qd a2 d λg4=>A.loop (λg5 a1 d=>A.b .lss (h0 a1) g4 d λg6=>A.test g6 (A.s (Qa 4) a2 (h0 a1) d λg7=>A.r (Zc true 4) g7 d λg8=>
 A.wr (Xc zq3 [] d) d λg d=>A.ws (Zb 4) g g8 d λ_ d=>A.r (Za 0) g d λg9=>A.a g9 d λi0=>A.s (Zq false true (jv 0)) x3 i0 d λa3=>
 A.r (Qb 0) a3 d λn2=>A.r (Qb 1) a3 d λu=>A.fr u (Za 1) g d λi1=>A.fa u i1 d λi2=>A.fb u .lss i2 (jv 0) d λi3=>A.c u (.bool true) i3 d λh=>
 A.fr h (Za 1) g d λi4=>A.fa h i4 d λi5=>A.fa h z d λi6=>A.fr h Xa i6 d λi7=>A.fr h (Za 0) i7 d λi8=>A.fa h i8 d λi9=>
 A.fr h Qd i9 d λj0=>A.fb h .geq i5 j0 d λj1=>A.c h (.bool true) j1 d λf=>A.fa f z d λj2=>A.fr f Xa j2 d λj3=>A.fr f (Za 0) j3 d λj4=>
 A.fa f j4 d λj5=>A.fr f (Za 1) g d λj6=>A.fa f j6 d λj7=>A.fs f (Qa 12) j5 j7 d λj8=>A.fr f (Za 1) j8 d λj9=>A.fa f j9 d λl0=>
 A.fr f (Zp .not) l0 d λl1=>A.c f (.bool true) l1 d λv=>A.fr v (Za 2) g d λl2=>A.fa v l2 d λl3=>A.fb v .lss l3 (jv 0) d λl4=>A.c v (.bool true) l4 d λw=>
 A.fr w (Za 2) g d λl5=>A.fa w l5 d λl6=>A.fb w .gtr l6 (jv 1000000) d λl7=>A.c w (.bool true) l7 d λy=>A.fr y (Za 0) g d λl8=>
 A.fa y l8 d λl9=>A.fb y .lss l9 (jv 1) d λm0=>A.c y (.bool true) m0 d λi=>A.fr i (Za 0) g d λm1=>A.fa i m1 d λm2=>A.fr i Yg x1 d λm3=>
 A.fr i Xa m3 d λm4=>A.fr i (Za 6) m4 d λm5=>A.fa i m5 d λm6=>A.fb i .geq m2 m6 d λm7=>A.c i (.bool true) m7 d λm8=>A.test m8 (
 q (.bool false) d) (A.r (Za 0) g d λm9=>A.a m9 d λn0=>A.wr (Xw false [x3,n0,x2] d) d λ_ d=>A.b .add (h0 a1) (jv 1) d λn1=>g5 [n1] d)) (
 q (.bool true) d)) [jv 0] d)) [jv 0] d)
 |_=>A.stop
theorem g144_ok:GQ 144 4 g144:=gq4 [none,none,some [85],none,none,none,none,some [106],none,none,none] λ_ _ _ _ _ _ _ _=>by kernel_rfl
def g145:GFun:=λA xs d s=>match xs with
 |[x0,x1]=>
 A.w1 Zm x1 d λe d=>A.r (Za 0) e d λv=>A.a v d λw=>A.k 147 [w] d λy d=>A.r (Zp .not) y d λi=>A.fr i (Za 2) e d λz=>
 A.fa i z d λt6=>A.gw i false (λk=>A.k 187 [t6] d k) d λt7 d=>A.fr i (Zp .not) t7 d λt8=>A.c i (.bool true) t8 d λj=>A.fr j (Za 3) e d λa0=>
 A.fa j a0 d λa1=>A.gw j false (λk=>A.k 187 [a1] d k) d λa2 d=>A.fr j (Zp .not) a2 d λa3=>A.c j (.bool true) a3 d λl=>A.fr l (Za 4) e d λa4=>
 A.fa l a4 d λa5=>A.gw l false (λk=>A.k 187 [a5] d k) d λa6 d=>A.fr l (Zp .not) a6 d λa7=>A.c l (.bool true) a7 d λm=>A.fr m (Za 5) e d λa8=>
 A.fa m a8 d λa9=>A.gw m false (λk=>A.k 187 [a9] d k) d λb0 d=>A.fr m (Zp .not) b0 d λb1=>A.c m (.bool true) b1 d λn=>A.fr n (Za 6) e d λb2=>
 A.fa n b2 d λb3=>A.gw n false (λk=>A.k 187 [b3] d k) d λb4 d=>A.fr n (Zp .not) b4 d λb5=>A.c n (.bool true) b5 d λo=>A.fr o (Za 7) e d λb6=>
 A.fa o b6 d λb7=>A.gw o false (λk=>A.k 187 [b7] d k) d λb8 d=>A.fr o (Zp .not) b8 d λb9=>A.c o (.bool true) b9 d λc0=>A.test c0 (s (.bool false) d) (
 A.r (Za 1) e d λc1=>A.a c1 d λt=>A.tr t (Za 4) e d λc2=>A.ta t c2 d λc3=>A.tb t .lss c3 (jv 1) d λc4=>A.c t c4 (.bool false) d λh=>
 A.fr h (Za 1) e d λc5=>A.fa h c5 d λc6=>A.fr h (Zp .not) c6 d λc7=>A.fr h Yg c7 d λf=>A.tr f (Za 3) e d λc8=>A.ta f c8 d λc9=>
 A.tr f (Za 4) e d λd0=>A.ta f d0 d λd1=>A.tb f .add c9 d1 d λd2=>A.tr f (Za 5) e d λd3=>A.ta f d3 d λd4=>A.tb f .add d2 d4 d λd5=>
 A.tr f (Za 6) e d λd6=>A.ta f d6 d λd7=>A.tb f .add d5 d7 d λd8=>A.tr f (Za 7) e d λd9=>A.ta f d9 d λe0=>A.tb f .add d8 e0 d λe1=>
 A.tb f .gtr e1 (jv 0) d λe2=>A.tr f Yg e2 d λg=>A.fr g (Za 9) e d λe3=>A.fa g e3 d λe4=>A.fr g Qd e4 d λe5=>A.fr g (Za 10) e d λe6=>
 A.fa g e6 d λe7=>A.fr g Qd e7 d λe8=>A.fb g .add e5 e8 d λe9=>A.fb g .gtr e9 (jv 0) d λf0=>A.tc f g (.bool true) f0 d λf1=>A.fc h f f1 (.bool false) d λf2=>
 A.c h (.bool true) f2 d λf3=>A.test f3 (s (.bool false) d) (A.r (Zc true 12) e d λf4=>A.k 110 [f4] d λf5 d=>A.b .gtr f5 (jv 200) d λf6=>A.test f6 (
 s (.bool false) d) (A.rd (Xd [.nils,.bool false] [(0,1),(1,1)] [x0,.bool true] d) λf7=>A.w1 Zm f7 d λf8 d=>A.rd (Xd [.nils,.bool false] [(0,1)] [x0] d) λf9=>
 A.w1 Zm f9 d λu d=>A.r (Za 8) e d λg0=>A.a g0 d λg1=>A.k 188 [f8,g1,jv 1] d λp d=>A.tr p Yg u d λg2=>A.tr p (Za 9) e d λg3=>
 A.ta p g3 d λg4=>A.gw p true (λk=>A.k 188 [g2,g4,jv 1] d k) d λg5 d=>A.c p g5 (.bool false) d λq=>A.tr q Yg u d λg6=>A.tr q (Za 10) e d λg7=>
 A.ta q g7 d λg8=>A.gw q true (λk=>A.k 188 [g6,g8,jv 1] d k) d λg9 d=>A.c q g9 (.bool false) d λi0=>s i0 d)))
 |_=>A.stop
theorem g145_ok:GQ 145 2 g145:=gq2 [none,none,none] λ_ _ _ _ _ _=>by kernel_rfl
def g146:GFun:=λA xs d h=>match xs with
 |[x0,x1]=>
 A.loop (λq l d=>A.r Qd x1 d λt=>A.b .lss (h0 l) t d λu=>A.test u (joinK (λi=>A.s (Qa 14) x1 (h0 l) d λv=>A.r (Zc true 14) v d λw=>
 A.wr (Xc [.int .i8 0,.int .i8 0,.int .i8 0,jv 0,.int .i8 0,.nils,.str [],.int .i8 0,.int .i8 0,.str [],.nils,.nils,.nils,.nils] [] d) d λe d=>
 A.ws (Zb 14) e w d λ_ d=>A.r (Za 0) e d λy=>A.a y d λf=>A.b .eql f (.int .i8 5) d λz=>A.test z (A.r (Za 2) e d λa0=>A.r (Zc true 4) a0 d λa1=>
 A.k 191 [a1] d λa2 d=>A.k 190 [x0,a2] d λa3 d=>A.k 189 [a3,.int .i8 1] d λa4 d=>A.r (Zp .not) a4 d λa5=>A.test a5 (h (.bool false) d) (i [] d)) (
 A.b .eql f (.int .i8 8) d λa6=>A.test a6 (A.r (Za 7) e d λa7=>A.r (Zc true 5) a7 d λa8=>A.k 192 [a8] d λa9 d=>A.k 190 [x0,a9] d λm d=>
 A.r (Za 12) e d λb0=>A.a b0 d λb1=>A.k 146 [m,b1] d λb2 d=>A.r (Zp .not) b2 d λg=>A.fr g Yg m d λb3=>A.fr g (Za 13) e d λb4=>
 A.fa g b4 d λb5=>A.gw g false (λk=>A.k 146 [b3,b5] d k) d λb6 d=>A.fr g (Zp .not) b6 d λb7=>A.c g (.bool true) b7 d λb8=>A.test b8 (h (.bool false) d) (
 i [] d)) (A.b .eql f (.int .i8 0) d λn=>joinK (λj=>A.test n (j [n] d) (A.b .eql f (.int .i8 1) d λo=>A.test o (j [o] d) (A.b .eql f (.int .i8 2) d λp=>
 A.test p (j [p] d) (A.b .eql f (.int .i8 3) d λb9=>j [b9] d)))) (λc0 d=>A.test (h0 c0) (A.r (Za 2) e d λc1=>A.r (Zc true 4) c1 d λc2=>
 A.k 191 [c2] d λc3 d=>A.k 190 [x0,c3] d λc4 d=>A.b .neq c4 (.int .i8 0) d λc5=>A.test c5 (h (.bool false) d) (i [] d)) (A.k 190 [x0,x0] d λc6 d=>
 A.b .neq c6 (.int .i8 0) d λc7=>A.test c7 (h (.bool false) d) (i [] d)))))) (λv5 d=>A.b .add (h0 l) (jv 1) d λc8=>q [c8] d)) (h (.bool true) d)) [jv 0] d
 |_=>A.stop
theorem g146_ok:GQ 146 2 g146:=gq2 [none,some [5],none,some [],none,none,none,none,none,some [52],none,none,none,none,none] λ_ _ _ _ _ _=>by kernel_rfl
def g147:GFun:=λA xs a j=>match xs with
 |[x0]=>
 A.k 193 [x0,jv 0] a λh a=>A.r (Qb 0) h a λl=>A.r (Qb 1) h a λi=>A.b .geq i (jv 1) a λg=>A.tr g Yg i a λm=>A.tb g .leq m (jv 24) a λn=>
 A.c g n (.bool false) a λd=>A.tr d Yg l a λo=>A.tr d Yg x0 a λp=>A.tr d Xr p a λq=>A.tb d .eql o q a λs=>A.c d s (.bool false) a λe=>
 A.tr e Yg x0 a λt=>A.tr e Xr t a λu=>A.tb e .leq u (jv 40) a λv=>A.c e v (.bool false) a λf=>A.tr f Yg x0 a λw=>A.gw f true (λk=>A.k 194 [w] a k) a λy a=>
 A.tr f (Zp .not) y a λz=>A.c f z (.bool false) a λa0=>j a0 a
 |_=>A.stop
theorem g147_ok:GQ 147 1 g147:=gq1 [] λ_ _ _ _ _=>by kernel_rfl
def g148:GFun:=λA xs a f=>match xs with
 |[x0,x1]=>
 A.w1 Zm x0 a λh a=>A.loop (λi e a=>A.r Qd x1 a λj=>A.b .lss (h0 e) j a λl=>A.test l (A.dr (Zc true 2 [h] a) a λm n a=>A.dr (Qa 1 [x1,(h0 e)] a) a λo p a=>
 A.dr (Yd [o] a) a λq s a=>A.dcall (.call 195) [m,q] a λg t a=>A.pu (Qb 0 [g] a) λb1=>A.pu (Qb 1 [g] a) λu=>A.gd (Qe [[],[],[],[1,2],[1,2,3],[0,1,2,3,4],[0,1,2,3,4,5],[0,1,2,3,4,5,6],[0,1,2,3,4,5,6],[0,1,2,3,4,5,6,7],[0,1,2,3,4,5,6,7,8,9]] [n,([],[]),([],[]),p,s,t,([],[]),([],[]),([],[]),([],[]),([],[])]) <|
 A.loop (λv d a=>A.b .lss (h0 d) (h0 e) a λw=>A.test w (A.gr (h1 d) true (λk=>A.rd (Yg [x1] a) k) λy=>A.gr (h1 d) true (λk=>A.rd (Yg [(h0 d)] a) k) λz=>
 A.gr (h1 d) true (λk=>A.rd (Qa 1 [y,z] a) k) λa0=>A.gr (h1 d) true (λk=>A.rd (Yd [a0] a) k) λa1=>A.gr (h1 d) true (λk=>A.rd (Yg [x1] a) k) λa2=>
 A.gr (h1 d) true (λk=>A.rd (Yg [(h0 e)] a) k) λa3=>A.gr (h1 d) true (λk=>A.rd (Qa 1 [a2,a3] a) k) λa4=>A.gr (h1 d) true (λk=>A.rd (Yd [a4] a) k) λa5=>
 A.gr (h1 d) true (λk=>A.rd (Yh .neq false [a1,a5] a) k) λa6=>A.c (h1 d) a6 (.bool false) a λa7=>A.b .add (h0 d) (jv 1) a λa8=>v [a8,a7] a) (
 A.r (Zp .not) (h1 d) a λa9=>A.test a9 (f (.bool false) a) (A.b .add (h0 e) (jv 1) a λb0=>i [b0] a))) [jv 0,u] a) (f (.bool true) a)) [jv 0] a
 |_=>A.stop
theorem g148_ok:GQ 148 2 g148:=gq2 [none,some [5],none,none,none,some [8,7],none,none,none] λ_ _ _ _ _ _=>by kernel_rfl
def g149:GFun:=λA xs d j=>match xs with
 |[x0]=>
 A.wr (Xc [jv 0,jv 0] [] d) d λg d=>A.r Xr x0 d λt1=>A.b .gtr t1 (jv 65536) d λt2=>A.test t2 (A.rd (Xd [jv 0,jv 0] [(0,1)] [jv 3] d) λt3=>
 A.ws (Zb 2) g t3 d λ_ d=>A.opt (cellV true 2 g d) λr4=>j (.tup [.nils,r4]) d) (A.loop (λo e d=>A.r Xr x0 d λt7=>A.b .lss (h0 e) t7 d λt8=>
 A.test t8 (A.k 196 [x0,(h0 e)] d λt9 d=>A.r (Qb 0) t9 d λl=>A.r (Qb 1) t9 d λa7=>A.b .eql a7 (jv 0) d λa8=>A.test a8 (A.rd (Xd [jv 0,jv 0] [(0,1),(1,1)] [jv 110,(h0 e)] d) λa9=>
 A.ws (Zb 2) g a9 d λ_ d=>A.opt (cellV true 2 g d) λr14=>j (.tup [.nils,r14]) d) (A.b .eql l (jv 32) d λv=>A.fr v Yg l d λb0=>A.fb v .eql b0 (jv 10) d λb1=>
 A.c v (.bool true) b1 d λw=>A.fr w Yg l d λb2=>A.fb w .eql b2 (jv 13) d λb3=>A.c w (.bool true) b3 d λy=>A.fr y Yg l d λb4=>A.fb y .eql b4 (jv 9) d λb5=>
 A.c y (.bool true) b5 d λb6=>A.test b6 (A.b .add (h0 e) (jv 1) d λb7=>o [b7,(h1 e)] d) (A.b .eql l (jv 35) d λb8=>A.test b8 (A.loop (λb9 m d=>A.r Xr x0 d λc0=>
 A.b .lss (h0 m) c0 d λp=>A.tr p Yg x0 d λc1=>A.tr p Yg (h0 m) d λc2=>A.ts p Yy c1 c2 d λc3=>A.tb p .neq c3 (.int .u8 10) d λc4=>A.c p c4 (.bool false) d λc5=>
 A.test c5 (A.k 196 [x0,(h0 m)] d λa2 d=>A.r (Qb 0) a2 d λm2=>A.r (Qb 1) a2 d λa3=>A.b .eql a3 (jv 0) d λc6=>A.test c6 (A.rd (Xd [jv 0,jv 0] [(0,1),(1,1)] [jv 110,(h0 m)] d) λc7=>
 A.ws (Zb 2) g c7 d λ_ d=>A.opt (cellV true 2 g d) λr41=>j (.tup [.nils,r41]) d) (A.b .add (h0 m) a3 d λc8=>b9 [c8] d)) (o [(h0 m),(h1 e)] d)) [(h0 e)] d) (
 A.k 197 [l] d λc9 d=>A.test c9 (A.k 193 [x0,(h0 e)] d λa4 d=>A.r (Qb 0) a4 d λz=>A.r (Qb 1) a4 d λd0=>A.b .gtr d0 (jv 24) d λq=>
 A.fr q Yg z d λd1=>A.fr q Yg (h0 e) d λd2=>A.fb q .sub d1 d2 d λd3=>A.fb q .gtr d3 (jv 40) d λd4=>A.c q (.bool true) d4 d λd5=>A.test d5 (
 A.rd (Xd [jv 0,jv 0] [(0,1),(1,1)] [jv 3,(h0 e)] d) λd6=>A.ws (Zb 2) g d6 d λ_ d=>A.opt (cellV true 2 g d) λr54=>j (.tup [.nils,r54]) d) (
 A.rd (XX [x0,(h0 e),z] d) λd7=>A.rd (Xd [.int .i8 0,.str [],jv 0,jv 0] [(0,1),(1,1),(3,1)] [.int .i8 1,d7,(h0 e)] d) λd8=>
 A.wr (Zh 4 1 [.int .i8 0,.str [],jv 0,jv 0] [(0,4)] [d8] d) d λd9 d=>A.wr (Qg 4 40 [(h1 e),d9] d) d λe0 d=>o [z,e0] d)) (A.k 198 [l] d λe1 d=>
 A.test e1 (A.loop (λe2 i d=>A.r Xr x0 d λe3=>A.b .lss (h0 i) e3 d λn=>A.tr n Yg x0 d λe4=>A.tr n Yg (h0 i) d λe5=>A.ts n Yy e4 e5 d λe6=>
 A.tr n (ZH .i64) e6 d λe7=>A.gw n true (λk=>A.k 198 [e7] d k) d λe8 d=>A.c n e8 (.bool false) d λe9=>A.test e9 (A.b .mul (h1 i) (jv 10) d λf0=>
 A.s Yy x0 (h0 i) d λf1=>A.b .sub f1 (.int .u8 48) d λf2=>A.r (ZH .i64) f2 d λf3=>A.b .add f0 f3 d λf4=>A.s ZL f4 (jv 1000) d λf5=>
 A.b .add (h0 i) (jv 1) d λf6=>e2 [f6,f5] d) (A.s Yy x0 (h0 e) d λf7=>A.b .eql f7 (.int .u8 48) d λt=>A.tr t Yg (h0 i) d λf8=>A.tr t Yg (h0 e) d λf9=>
 A.tb t .add f9 (jv 1) d λg0=>A.tb t .gtr f8 g0 d λg1=>A.c t g1 (.bool false) d λg2=>A.test g2 (A.rd (Xd [jv 0,jv 0] [(0,1),(1,1)] [jv 110,(h0 e)] d) λg3=>
 A.ws (Zb 2) g g3 d λ_ d=>A.opt (cellV true 2 g d) λr85=>j (.tup [.nils,r85]) d) (A.b .gtr (h1 i) (jv 999) d λg4=>A.test g4 (A.rd (Xd [jv 0,jv 0] [(0,1),(1,1)] [jv 3,(h0 e)] d) λg5=>
 A.ws (Zb 2) g g5 d λ_ d=>A.opt (cellV true 2 g d) λr88=>j (.tup [.nils,r88]) d) (A.rd (Xd [.int .i8 0,.str [],jv 0,jv 0] [(0,1),(2,1),(3,1)] [.int .i8 2,(h1 i),(h0 e)] d) λg6=>
 A.wr (Zh 4 1 [.int .i8 0,.str [],jv 0,jv 0] [(0,4)] [g6] d) d λg7 d=>A.wr (Qg 4 40 [(h1 e),g7] d) d λg8 d=>o [(h0 i),g8] d)))) [(h0 e),jv 0] d) (
 A.k 199 [] d λa5 d=>A.loop (λg9 f d=>A.r Qd a5 d λi0=>A.b .lss (h0 f) i0 d λa0=>A.tr a0 Yg (h1 f) d λi1=>A.tr a0 (Zp .not) i1 d λi2=>
 A.c a0 i2 (.bool false) d λi3=>A.test i3 (joinK (λa6=>A.s (Qa 1) a5 (h0 f) d λi4=>A.a i4 d λu=>A.r Xr u d λi5=>A.b .add (h2 f) i5 d λi6=>
 A.r Xr x0 d λi7=>A.b .leq i6 i7 d λh=>A.tr h Yg x0 d λi9=>A.tr h Yg (h2 f) d λj0=>A.tr h Yg (h2 f) d λj1=>A.tr h Yg u d λj2=>
 A.tr h Xr j2 d λj3=>A.tb h .add j1 j3 d λj4=>A.got h (XX [i9,j0,j4] d) λj5=>A.tr h Yg u d λj6=>A.tb h .eql j5 j6 d λj7=>A.c h j7 (.bool false) d λj8=>
 A.test j8 (A.rd (Xd [.int .i8 0,.str [],jv 0,jv 0] [(0,1),(1,1),(3,1)] [.int .i8 3,u,(h2 f)] d) λj9=>A.wr (Zh 4 1 [.int .i8 0,.str [],jv 0,jv 0] [(0,4)] [j9] d) d λl0 d=>
 A.wr (Qg 4 40 [(h3 f),l0] d) d λl1 d=>A.r Xr u d λl2=>A.b .add (h2 f) l2 d λl3=>a6 [.bool true,l3,l1] d) (a6 [(h1 f),(h2 f),(h3 f)] d)) (λa1 d=>
 A.b .add (h0 f) (jv 1) d λl4=>g9 [l4,(h0 a1),(h1 a1),(h2 a1)] d)) (A.r (Zp .not) (h1 f) d λl5=>A.test l5 (A.rd (Xd [jv 0,jv 0] [(0,1),(1,1)] [jv 110,(h2 f)] d) λl6=>
 A.ws (Zb 2) g l6 d λ_ d=>A.opt (cellV true 2 g d) λr126=>j (.tup [.nils,r126]) d) (o [(h2 f),(h3 f)] d))) [jv 0,.bool false,(h0 e),(h1 e)] d)))))) (
 A.r Xr x0 d λl7=>A.rd (Xd [.int .i8 0,.str [],jv 0,jv 0] [(0,1),(3,1)] [.int .i8 0,l7] d) λl8=>A.wr (Zh 4 1 [.int .i8 0,.str [],jv 0,jv 0] [(0,4)] [l8] d) d λl9 d=>
 A.wr (Qg 4 40 [(h1 e),l9] d) d λm0 d=>A.rd (Xd [jv 0,jv 0] [] [] d) λm1=>A.ws (Zb 2) g m1 d λ_ d=>A.opt (cellV true 2 g d) λr132=>
 j (.tup [m0,r132]) d)) [jv 0,.nils] d)
 |_=>A.stop
theorem g149_ok:GQ 149 1 g149:=gq1 [none,none,some [5,4],none,none,none,none,none,none,some [5],none,none,none,none,none,none,none,some [12,13],none,none,none,none,none,some [16,15,5,4],none,some [15,5,4],none,none] λ_ _ _ _ _=>by kernel_rfl
def g150:GFun:=λA xs c d=>match xs with
 |[x0]=>
 A.r Xa x0 c λe=>A.r (Za 3) e c λf=>A.r (Za 0) f c λg=>A.a g c λh=>A.b .eql h (jv 0) c λi=>d i c
 |_=>A.stop
theorem g150_ok:GQ 150 1 g150:=gq1 [] λ_ _ _ _ _=>by kernel_rfl
def g151:GFun:=λA xs a g=>match xs with
 |[x0,x1]=>
 A.pu (Xa [x0] a) λh=>A.pu (Za 0 [h] a) λi=>A.dr (Yd [i] a) a λj l a=>A.pu (Xa [x0] a) λm=>A.pu (Za 1 [m] a) λn=>
 A.dr (Yd [n] a) a λo p a=>A.dr (Qa 4 [j,o] a) a λq r a=>A.dr (Zc true 4 [q] a) a λs t a=>A.dr (Xc [.int .i8 0,.str [],jv 0,jv 0] [] a) a λe u a=>
 A.dr (Zb 4 [e,s] a) a λ_ v a=>A.gd (Qe [[],[0],[0,1],[0,1,2],[],[4],[4,5],[4,5,6],[0,1,2,3,4,5,6,7],[0,1,2,3,4,5,6,7,8],[],[0,1,2,3,4,5,6,7,8,9,10]] [([],[]),([],[]),([],[]),l,([],[]),([],[]),([],[]),p,r,t,u,v]) <|
 A.k 150 [x0] a λb a=>A.tr b (Za 0) e a λw=>A.ta b w a λy=>A.tb b .eql y (.int .i8 1) a λz=>A.tr b Yg z a λf=>A.fr f (Za 0) e a λa0=>
 A.fa f a0 a λa1=>A.fb f .eql a1 (.int .i8 3) a λa2=>A.tc b f (.bool true) a2 a λa3=>A.c b a3 (.bool false) a λd=>A.tr d (Za 1) e a λa4=>
 A.ta d a4 a λa5=>A.tr d Yg x1 a λa6=>A.tb d .eql a5 a6 a λa7=>A.c d a7 (.bool false) a λa8=>g a8 a
 |_=>A.stop
theorem g151_ok:GQ 151 2 g151:=gq2 [] λ_ _ _ _ _ _=>by kernel_rfl
def g152:GFun:=λA xs a b=>match xs with
 |[x0,x1]=>
 A.k 150 [x0] a λc a=>A.test c (A.pu (Xa [x0] a) λd=>A.pu (Za 0 [d] a) λe=>A.dr (Yd [e] a) a λf g a=>A.pu (Xa [x0] a) λh=>
 A.pu (Za 1 [h] a) λi=>A.dr (Yd [i] a) a λj l a=>A.dr (Qa 4 [f,j] a) a λm n a=>A.pu (Za 3 [m] a) λo=>A.dr (Yd [o] a) a λp q a=>
 A.pu (Xd [jv 0,jv 0] [(0,1),(1,1)] [x1,p] a) λr=>A.pu (Xa [x0] a) λs=>A.pu (Za 3 [s] a) λt=>A.dr (Zb 2 [t,r] a) a λ_ u a=>
 A.gd (Qe [[],[],[],[2],[2,3],[2,3,4],[],[6],[6,7],[6,7,8],[2,3,4,5,6,7,8,9],[2,3,4,5,6,7,8,9,10],[2,3,4,5,6,7,8,9,10,11],[1,2,3,4,5,6,7,8,9,10,11,12],[0,1,2,3,4,5,6,7,8,9,10,11,12,13],[0,1,2,3,4,5,6,7,8,9,10,11,12,13,14],[0,1,2,3,4,5,6,7,8,9,10,11,12,13,14,15]] [([],[]),([],[]),([],[]),([],[]),([],[]),g,([],[]),([],[]),([],[]),l,n,([],[]),q,([],[]),([],[]),([],[]),u]) <|
 b (.tup []) a) (b (.tup []) a)
 |_=>A.stop
theorem g152_ok:GQ 152 2 g152:=gq2 [none] λ_ _ _ _ _ _=>by kernel_rfl
def g153:GFun:=λA xs d v=>match xs with
 |[x0,x1]=>
 A.wr (Xc [.str [],.bool false,jv 0,jv 0,jv 0,jv 0,jv 0,jv 0,.nils,.nils,.nils,jv 0] [] d) d λp d=>A.k 200 [x0] d λw d=>
 A.rd (Xd [.str [],.bool false,jv 0,jv 0,jv 0,jv 0,jv 0,jv 0,.nils,.nils,.nils,jv 0] [(11,1),(0,1)] [x1,w] d) λy=>A.wr (Xc [.str [],.bool false,jv 0,jv 0,jv 0,jv 0,jv 0,jv 0,.nils,.nils,.nils,jv 0] [] d) d λe d=>
 A.ws (Zb 12) e y d λ_ d=>A.k 201 [x0,(.str [117,110,105,116])] d λz d=>joinK (λq=>A.test z (A.r (Za 1) e d λt7=>A.ws (Zb 1) t7 (.bool true) d λ_ d=>
 A.k 202 [x0] d λt8 d=>A.r (Za 2) e d λt9=>A.ws (Zb 1) t9 t8 d λ_ d=>A.k 202 [x0] d λa0 d=>A.r (Za 3) e d λa1=>A.ws (Zb 1) a1 a0 d λ_ d=>
 A.k 203 [x0,(.str [47])] d λi7 d=>A.k 202 [x0] d λa2 d=>A.r (Za 4) e d λa3=>A.ws (Zb 1) a3 a2 d λ_ d=>q [] d) (A.k 203 [x0,(.str [99,104,97,114,109])] d λi8 d=>
 A.k 202 [x0] d λa4 d=>A.r (Za 2) e d λa5=>A.ws (Zb 1) a5 a4 d λ_ d=>q [] d)) (λv6 d=>A.k 203 [x0,(.str [123])] d λi9 d=>joinK (λt=>
 A.loop (λg a6 d=>A.k 150 [x0] d λj d=>A.tr j Yg x0 d λa7=>A.gw j true (λk=>A.k 151 [a7,(.str [125])] d k) d λa8 d=>A.tr j (Zp .not) a8 d λa9=>
 A.c j a9 (.bool false) d λb0=>A.test b0 (A.r Xa x0 d λb1=>A.r (Za 0) b1 d λb2=>A.a b2 d λb3=>A.r Xa x0 d λb4=>A.r (Za 1) b4 d λb5=>
 A.a b5 d λb6=>A.s (Qa 4) b3 b6 d λb7=>A.r (Za 1) b7 d λb8=>A.a b8 d λh=>A.k 151 [x0,(.str [112,108,97,121,101,100])] d λb9 d=>
 A.r (Zp .not) b9 d λl=>A.tr l Yg x0 d λc0=>A.gw l true (λk=>A.k 151 [c0,(.str [100,101,97,100])] d k) d λc1 d=>A.tr l (Zp .not) c1 d λc2=>
 A.c l c2 (.bool false) d λm=>A.tr m Yg x0 d λc3=>A.gw m true (λk=>A.k 151 [c3,(.str [100,97,119,110])] d k) d λc4 d=>A.tr m (Zp .not) c4 d λc5=>
 A.c m c5 (.bool false) d λn=>A.tr n Yg x0 d λc6=>A.gw n true (λk=>A.k 151 [c6,(.str [97,117,114,97])] d k) d λc7 d=>A.tr n (Zp .not) c7 d λc8=>
 A.c n c8 (.bool false) d λo=>A.tr o Yg x0 d λc9=>A.gw o true (λk=>A.k 151 [c9,(.str [115,104,105,101,108,100])] d k) d λd0 d=>A.tr o (Zp .not) d0 d λd1=>
 A.c o d1 (.bool false) d λd2=>A.test d2 (A.k 152 [x0,jv 120] d λj0 d=>t [] d) (A.k 204 [x0,(h0 a6),h] d λi d=>A.r Xa x0 d λd3=>A.r (Za 1) d3 d λd4=>
 A.a d4 d λd5=>A.b .add d5 (jv 1) d λd6=>A.r Xa x0 d λd7=>A.r (Za 1) d7 d λd8=>A.ws (Zb 1) d8 d6 d λ_ d=>A.rd (Yh .eql false [h,(.str [112,108,97,121,101,100])] d) λd9=>
 A.test d9 (A.k 205 [x0] d λe0 d=>A.r (Za 8) e d λe1=>A.ws (Zb 1) e1 e0 d λ_ d=>g [i] d) (A.rd (Yh .eql false [h,(.str [100,101,97,100])] d) λe2=>
 A.test e2 (A.k 205 [x0] d λe3 d=>A.r (Za 9) e d λe4=>A.ws (Zb 1) e4 e3 d λ_ d=>g [i] d) (A.rd (Yh .eql false [h,(.str [100,97,119,110])] d) λe5=>
 A.test e5 (A.k 205 [x0] d λe6 d=>A.r (Za 10) e d λe7=>A.ws (Zb 1) e7 e6 d λ_ d=>g [i] d) (A.rd (Yh .eql false [h,(.str [97,117,114,97])] d) λe8=>
 A.test e8 (A.k 202 [x0] d λe9 d=>A.r (Za 6) e d λf0=>A.ws (Zb 1) f0 e9 d λ_ d=>A.k 203 [x0,(.str [47])] d λj1 d=>A.k 202 [x0] d λf1 d=>
 A.r (Za 7) e d λf2=>A.ws (Zb 1) f2 f1 d λ_ d=>A.k 203 [x0,(.str [59])] d λj2 d=>g [i] d) (A.rd (Yh .eql false [h,(.str [115,104,105,101,108,100])] d) λf3=>
 A.test f3 (A.k 202 [x0] d λf4 d=>A.r (Za 5) e d λf5=>A.ws (Zb 1) f5 f4 d λ_ d=>A.k 203 [x0,(.str [59])] d λj3 d=>g [i] d) (g [i] d))))))) (
 t [] d)) [.nils] d) (λj4 d=>A.dcall (.call 150) [x0] d λf f6 d=>A.gr f true (λk=>A.pu (Za 8 [e] d) k) λf7=>A.gl f true (λk=>A.dr (Yd [f7] d) d k) d λf8 f9 d=>
 A.gl f true (λk=>A.dcall (.call 206) [f8] d k) d λg0 g1 d=>A.gr f true (λk=>A.pu (Za 9 [e] d) k) λg2=>A.gl f true (λk=>A.dr (Yd [g2] d) d k) d λg3 g4 d=>
 A.gl f true (λk=>A.dcall (.call 206) [g3] d k) d λg5 g6 d=>A.gr f true (λk=>A.pu (Yh .add false [g0,g5] d) k) λg7=>A.gr f true (λk=>A.pu (Za 10 [e] d) k) λg8=>
 A.gl f true (λk=>A.dr (Yd [g8] d) d k) d λg9 i0 d=>A.gl f true (λk=>A.dcall (.call 206) [g9] d k) d λi1 i2 d=>A.gr f true (λk=>A.pu (Yh .add false [g7,i1] d) k) λi3=>
 A.gr f true (λk=>A.pu (Yh .gtr false [i3,jv 200] d) k) λi4=>A.pu (Zn [f,i4,.bool false] d) λi5=>A.gd (Qe [[],[0],[0,1],[0,1,2],[0,1,2,3],[0,1,2,3,4],[0,1,2],[0,1,2,6],[0,1,2,3,4,5,6,7],[0,1,2,3,4,5,6,7,8],[0,1,2],[0,1,2,10],[0,1,2,3,4,5,6,7,8,10,11],[0,1,2,3,4,5,6,7,8,9,10,11,12],[0,1,2,3,4,5,6,7,8,9,10,11,12,13],[0,1,2,3,4,5,6,7,8,9,10,11,12,13,14]] [([],[]),f6,([],[]),([],[]),f9,g1,([],[]),g4,g6,([],[]),([],[]),i0,i2,([],[]),([],[]),([],[])]) <|
 joinK (λu=>A.test i5 (A.k 152 [x0,jv 3] d λj5 d=>u [] d) (u [] d)) (λj6 d=>A.k 203 [x0,(.str [125])] d λj7 d=>A.r (Zc true 12) e d λi6=>
 A.ws (Zb 12) p i6 d λ_ d=>A.opt (cellV true 12 p d) λr109=>v r109 d)))
 |_=>A.stop
theorem g153_ok:GQ 153 2 g153:=gq2 [some [],some [],some [6],none,none,none,none,none,none,none,none,none,some []] λ_ _ _ _ _ _=>by kernel_rfl
def g154:GFun:=λA xs d p=>match xs with
 |[x0,x1]=>
 A.wr (Xc [.str [],jv 0,jv 0,jv 0,.nils,.nils,jv 0] [] d) d λn d=>A.k 200 [x0] d λq d=>A.rd (Xd [.str [],jv 0,jv 0,jv 0,.nils,.nils,jv 0] [(6,1),(0,1)] [x1,q] d) λt=>
 A.wr (Xc [.str [],jv 0,jv 0,jv 0,.nils,.nils,jv 0] [] d) d λe d=>A.ws (Zb 7) e t d λ_ d=>A.k 203 [x0,(.str [123])] d λt4 d=>
 joinK (λo=>A.loop (λu v d=>A.k 150 [x0] d λh d=>A.tr h Yg x0 d λw=>A.gw h true (λk=>A.k 151 [w,(.str [125])] d k) d λy d=>A.tr h (Zp .not) y d λz=>
 A.c h z (.bool false) d λa0=>A.test a0 (A.r Xa x0 d λa1=>A.r (Za 0) a1 d λa2=>A.a a2 d λa3=>A.r Xa x0 d λa4=>A.r (Za 1) a4 d λa5=>
 A.a a5 d λa6=>A.s (Qa 4) a3 a6 d λa7=>A.r (Za 1) a7 d λa8=>A.a a8 d λf=>A.k 151 [x0,(.str [108,101,97,115,116])] d λa9 d=>
 A.r (Zp .not) a9 d λi=>A.tr i Yg x0 d λb0=>A.gw i true (λk=>A.k 151 [b0,(.str [109,111,115,116])] d k) d λb1 d=>A.tr i (Zp .not) b1 d λb2=>
 A.c i b2 (.bool false) d λj=>A.tr j Yg x0 d λb3=>A.gw j true (λk=>A.k 151 [b3,(.str [99,111,112,105,101,115])] d k) d λb4 d=>A.tr j (Zp .not) b4 d λb5=>
 A.c j b5 (.bool false) d λl=>A.tr l Yg x0 d λb6=>A.gw l true (λk=>A.k 151 [b6,(.str [98,97,110,110,101,100])] d k) d λb7 d=>A.tr l (Zp .not) b7 d λb8=>
 A.c l b8 (.bool false) d λm=>A.tr m Yg x0 d λb9=>A.gw m true (λk=>A.k 151 [b9,(.str [115,105,110,103,108,101])] d k) d λc0 d=>A.tr m (Zp .not) c0 d λc1=>
 A.c m c1 (.bool false) d λc2=>A.test c2 (A.k 152 [x0,jv 120] d λe6 d=>o [] d) (A.k 204 [x0,(h0 v),f] d λc3 d=>A.r Xa x0 d λc4=>A.r (Za 1) c4 d λc5=>
 A.a c5 d λc6=>A.b .add c6 (jv 1) d λc7=>A.r Xa x0 d λc8=>A.r (Za 1) c8 d λc9=>A.ws (Zb 1) c9 c7 d λ_ d=>joinK (λg=>
 A.rd (Yh .eql false [f,(.str [108,101,97,115,116])] d) λd0=>A.test d0 (A.k 202 [x0] d λd1 d=>A.r (Za 1) e d λd2=>A.ws (Zb 1) d2 d1 d λ_ d=>
 g [] d) (A.rd (Yh .eql false [f,(.str [109,111,115,116])] d) λd3=>A.test d3 (A.k 202 [x0] d λd4 d=>A.r (Za 2) e d λd5=>A.ws (Zb 1) d5 d4 d λ_ d=>
 g [] d) (A.rd (Yh .eql false [f,(.str [99,111,112,105,101,115])] d) λd6=>A.test d6 (A.k 202 [x0] d λd7 d=>A.r (Za 3) e d λd8=>A.ws (Zb 1) d8 d7 d λ_ d=>
 g [] d) (A.rd (Yh .eql false [f,(.str [98,97,110,110,101,100])] d) λd9=>A.test d9 (A.k 207 [x0] d λe0 d=>A.r (Za 4) e d λe1=>A.ws (Zb 1) e1 e0 d λ_ d=>
 g [] d) (A.rd (Yh .eql false [f,(.str [115,105,110,103,108,101])] d) λe2=>A.test e2 (A.k 207 [x0] d λe3 d=>A.r (Za 5) e d λe4=>A.ws (Zb 1) e4 e3 d λ_ d=>
 g [] d) (g [] d)))))) (λe7 d=>A.k 203 [x0,(.str [59])] d λe8 d=>u [c3] d))) (o [] d)) [.nils] d) (λv6 d=>A.k 203 [x0,(.str [125])] d λe9 d=>A.r (Zc true 7) e d λe5=>
 A.ws (Zb 7) n e5 d λ_ d=>A.opt (cellV true 7 n d) λr69=>p r69 d)
 |_=>A.stop
theorem g154_ok:GQ 154 2 g154:=gq2 [some [],some [6],none,none,none,some [],none,none,none,none,none] λ_ _ _ _ _ _=>by kernel_rfl
def g155:GFun:=λA xs c f=>match xs with
 |[x0,x1]=>
 A.r Xa x0 c λh=>A.r (Za 8) h c λi=>A.a i c λj=>A.r Xa x0 c λl=>A.r (Za 9) l c λm=>A.a m c λn=>A.r Xa x0 c λo=>
 A.r (Za 10) o c λp=>A.a p c λq=>A.rd (Xd [.nils,.nils,.nils] [(0,1),(1,1),(2,1)] [j,n,q] c) λt=>A.loop (λu d c=>A.b .lss (h0 d) (jv 3) c λv=>
 A.test v (A.s (Y8 false 3 1) t (h0 d) c λg=>A.r Qd g c λw=>A.loop (λy e c=>A.b .lss (h0 e) w c λz=>A.test z (A.s (Qa 14) g (h0 e) c λa0=>
 A.rd (Xd [.nilp] [(0,1)] [a0] c) λa1=>A.r (Zz 272) a1 c λa2=>A.k 208 [a2,x1] c λa3 c=>A.r (Zp .not) a3 c λa4=>A.test a4 (f (.tup []) c) (
 A.b .add (h0 e) (jv 1) c λa5=>y [a5] c)) (A.b .add (h0 d) (jv 1) c λa6=>u [a6] c)) [jv 0] c) (f (.tup []) c)) [jv 0] c
 |_=>A.stop
theorem g155_ok:GQ 155 2 g155:=gq2 [none,some [20],none,none,none,some [25],none,none,none] λ_ _ _ _ _ _=>by kernel_rfl
def g156:GFun:=λA xs c d=>match xs with
 |[x0,x1]=>
 A.a x1 c λe=>A.b .add e (jv 1) c λf=>A.ws (Zb 1) x1 f c λ_ c=>A.a x1 c λg=>A.b .lss g (jv 1073741824) c λh=>d h c
 |_=>A.stop
theorem g156_ok:GQ 156 2 g156:=gq2 [] λ_ _ _ _ _ _=>by kernel_rfl
def g157:GFun:=λA xs d t=>match xs with
 |[x0,x1,x2]=>
 A.r Qd x1 d λt0=>A.b .gtr t0 (jv 16) d λu=>A.fr u Yg x2 d λt2=>A.fb u .gtr t2 (jv 8) d λt3=>A.c u (.bool true) t3 d λt4=>A.test t4 (t (.bool false) d) (
 A.r Qd x1 d λt5=>A.loop (λa4 v d=>A.b .lss (h0 v) t5 d λt8=>A.test t8 (A.s (Qa 14) x1 (h0 v) d λf=>A.k 209 [f] d λh d=>A.tr h Yg f d λa5=>
 A.tr h Xa a5 d λa6=>A.tr h (Za 0) a6 d λa7=>A.ta h a7 d λa8=>A.gw h true (λk=>A.k 210 [a8] d k) d λa9 d=>A.tr h (Zp .not) a9 d λb0=>
 A.tr h Yg b0 d λn=>A.fr n Yg x0 d λb1=>A.fr n Yg f d λb2=>A.fr n Xa b2 d λb3=>A.fr n (Za 2) b3 d λb4=>A.gw n false (λk=>A.k 211 [b1,b4] d k) d λb5 d=>
 A.tc h n (.bool true) b5 d λb6=>A.c h b6 (.bool false) d λe=>A.r Xa f d λb7=>A.r (Za 0) b7 d λb8=>A.a b8 d λi=>joinK (λp=>
 A.b .eql i (.int .i8 0) d λy=>joinK (λz=>A.test y (z [y] d) (A.b .eql i (.int .i8 1) d λb9=>z [b9] d)) (λc0 d=>A.test (h0 c0) (A.tr e Yg f d λc1=>
 A.tr e Xa c1 d λc2=>A.tr e (Za 1) c2 d λc3=>A.ta e c3 d λc4=>A.gw e true (λk=>A.k 212 [c4] d k) d λc5 d=>A.tr e Yg c5 d λm=>
 A.fr m Yg f d λc6=>A.fr m Xa c6 d λc7=>A.fr m (Za 1) c7 d λc8=>A.fa m c8 d λc9=>A.fb m .eql c9 (.int .i8 2) d λd0=>A.fr m Yg d0 d λq=>
 A.tr q Yg x0 d λd1=>A.tr q Xa d1 d λd2=>A.tr q (Za 1) d2 d λd3=>A.ta q d3 d λd4=>A.fc m q d4 (.bool false) d λd5=>A.tc e m (.bool true) d5 d λd6=>
 A.c e d6 (.bool false) d λd7=>p [d7] d) (A.b .eql i (.int .i8 2) d λa0=>joinK (λw=>A.test a0 (w [a0] d) (A.b .eql i (.int .i8 4) d λa1=>A.test a1 (
 w [a1] d) (A.b .eql i (.int .i8 6) d λd8=>w [d8] d))) (λd9 d=>A.test (h0 d9) (A.tr e Yg f d λe0=>A.tr e Xa e0 d λe1=>A.tr e (Za 1) e1 d λe2=>
 A.ta e e2 d λe3=>A.gw e true (λk=>A.k 212 [e3] d k) d λe4 d=>A.c e e4 (.bool false) d λe5=>p [e5] d) (A.b .eql i (.int .i8 3) d λa2=>joinK (λa3=>
 A.test a2 (a3 [a2] d) (A.b .eql i (.int .i8 5) d λe6=>a3 [e6] d)) (λe7 d=>A.test (h0 e7) (A.tr e Yg f d λe8=>A.tr e Xa e8 d λe9=>A.tr e (Za 1) e9 d λf0=>
 A.ta e f0 d λf1=>A.tb e .eql f1 (.int .i8 0) d λf2=>A.c e f2 (.bool false) d λf3=>p [f3] d) (A.b .eql i (.int .i8 7) d λf4=>A.test f4 (A.tr e Yg f d λf5=>
 A.tr e Xa f5 d λf6=>A.tr e (Za 1) f6 d λf7=>A.ta e f7 d λf8=>A.tb e .eql f8 (.int .i8 0) d λf9=>A.c e f9 (.bool false) d λg=>
 A.tr g Yg x0 d λg0=>A.tr g Xa g0 d λg1=>A.tr g (Za 0) g1 d λg2=>A.ta g g2 d λg3=>A.tr g Yg f d λg4=>A.tr g Xa g4 d λg5=>
 A.tr g (Za 6) g5 d λg6=>A.ta g g6 d λg7=>A.ts g (Zq true false (.bool false)) g3 g7 d λg8=>A.c g g8 (.bool false) d λg9=>p [g9] d) (
 A.b .eql i (.int .i8 8) d λi0=>A.test i0 (A.tr e Yg f d λi1=>A.tr e Xa i1 d λi2=>A.tr e (Za 1) i2 d λi3=>A.ta e i3 d λi4=>
 A.tb e .eql i4 (.int .i8 0) d λi5=>A.c e i5 (.bool false) d λo=>A.tr o Yg x0 d λi6=>A.tr o Yg f d λi7=>A.tr o Xa i7 d λi9=>A.tr o (Za 7) i9 d λj0=>
 A.gw o true (λk=>A.k 213 [i6,j0] d k) d λj1 d=>A.c o j1 (.bool false) d λj=>A.tr j Yg x0 d λj2=>A.tr j Yg f d λj3=>A.tr j Xa j3 d λj4=>
 A.tr j (Za 12) j4 d λj5=>A.ta j j5 d λj6=>A.tr j Yg x2 d λj7=>A.tb j .add j7 (jv 1) d λj8=>A.gw j true (λk=>A.k 157 [j2,j6,j8] d k) d λj9 d=>
 A.c j j9 (.bool false) d λl=>A.tr l Yg x0 d λl0=>A.tr l Yg f d λl1=>A.tr l Xa l1 d λl2=>A.tr l (Za 13) l2 d λl3=>A.ta l l3 d λl4=>
 A.tr l Yg x2 d λl5=>A.tb l .add l5 (jv 1) d λl6=>A.gw l true (λk=>A.k 157 [l0,l4,l6] d k) d λl7 d=>A.c l l7 (.bool false) d λl8=>p [l8] d) (
 t (.bool false) d))))))))) (λl9 d=>A.r (Zp .not) (h0 l9) d λm0=>A.test m0 (t (.bool false) d) (A.b .add (h0 v) (jv 1) d λm1=>a4 [m1] d))) (t (.bool true) d)) [jv 0] d)
 |_=>A.stop
theorem g157_ok:GQ 157 3 g157:=gq3 [none,none,some [19],none,none,some [9],some [46],none,some [70],none,none,some [82],none,none,none,none] λ_ _ _ _ _ _ _=>by kernel_rfl
def g163:GFun:=λA xs a f=>match xs with
 |[x0,x1,x2]=>
 A.b .add x1 (jv 1) a λg=>A.loop (λh e a=>A.b .lss (h0 e) x2 a λi=>A.test i (A.loop (λj d a=>A.pu (Yh .gtr false [(h0 d),x1] a) λc=>A.gr c true (λk=>A.pu (Yg [x0] a) k) λl=>
 A.gr c true (λk=>A.pu (Yg [(h0 d)] a) k) λm=>A.gl c true (λk=>A.dr (Qa 1 [l,m] a) a k) a λn o a=>A.gl c true (λk=>A.dr (Yd [n] a) a k) a λp q a=>
 A.gr c true (λk=>A.pu (Yg [x0] a) k) λr=>A.gr c true (λk=>A.pu (Yg [(h0 d)] a) k) λs=>A.gr c true (λk=>A.pu (Yh .sub false [s,jv 1] a) k) λt=>
 A.gl c true (λk=>A.dr (Qa 1 [r,t] a) a k) a λu v a=>A.gl c true (λk=>A.dr (Yd [u] a) a k) a λw y a=>A.gl c true (λk=>A.dcall (.call 169) [p,w] a k) a λz a0 a=>
 A.pu (Zn [c,z,.bool false] a) λa1=>A.gd (Qe [[],[],[0,1],[0,1,2],[0,1,2,3],[0,1,2,3],[0,1,2,3,4,5],[0,1,2,3,4,5,6],[0,1,2,3],[0,1,2,3],[0,1,2,3,9],[0,1,2,3,8,9,10],[0,1,2,3,8,9,10,11],[0,1,2,3,4,5,6,7,8,9,10,11,12],[0,1,2,3,4,5,6,7,8,9,10,11,12,13]] [([],[]),([],[]),([],[]),([],[]),([],[]),([],[]),o,q,([],[]),([],[]),([],[]),v,y,a0,([],[])]) <|
 A.test a1 (A.pu (Yh .sub false [(h0 d),jv 1] a) λa2=>A.pu (Yh .sub false [(h0 d),jv 1] a) λa3=>A.dr (Qa 1 [x0,a3] a) a λa4 a5 a=>
 A.dr (Yd [a4] a) a λa6 a7 a=>A.dr (Qa 1 [x0,(h0 d)] a) a λa8 a9 a=>A.dr (Yd [a8] a) a λb0 b1 a=>A.dr (Qa 1 [x0,(h0 d)] a) a λb2 b3 a=>
 A.dr (Zb 1 [b2,a6] a) a λ_ b4 a=>A.dr (Qa 1 [x0,a2] a) a λb5 b6 a=>A.dr (Zb 1 [b5,b0] a) a λ_ b7 a=>A.gd (Qe [[],[],[],[],[3],[],[],[6],[5,6,7],[5,6,7,8],[],[],[10,11],[10,11,12],[0,1,5,6,7,8,9,10,11,12,13],[0,1,5,6,7,8,9,10,11,12,13,14],[0,1,2,3,4,5,6,7,8,9,10,11,12,13,14,15],[0,1,2,3,4,5,6,7,8,9,10,11,12,13,14,15,16]] [([],[]),([],[]),([],[]),([],[]),([],[]),([],[]),([],[]),([],[]),a5,a7,([],[]),([],[]),a9,b1,b3,b4,b6,b7]) <|
 A.b .sub (h0 d) (jv 1) a λb8=>j [b8] a) (A.b .add (h0 e) (jv 1) a λb9=>h [b9] a)) [(h0 e)] a) (f (.tup []) a)) [g] a
 |_=>A.stop
theorem g163_ok:GQ 163 3 g163:=gq3 [none,some [6],none,none,none,some [7],none,none] λ_ _ _ _ _ _ _=>by kernel_rfl
def g164:GFun:=λA xs a f=>match xs with
 |[x0,x1,x2]=>
 A.b .sub x2 x1 a λd=>A.b .sub d (jv 1) a λg=>A.b .quo g (jv 2) a λh=>A.loop (λi e a=>A.b .geq (h0 e) (jv 0) a λj=>A.test j (A.k 215 [x0,(h0 e),d,x1] a λt6 a=>
 A.b .sub (h0 e) (jv 1) a λl=>i [l] a) (A.b .sub d (jv 1) a λm=>A.loop (λn c a=>A.b .geq (h0 c) (jv 0) a λo=>A.test o (A.pu (Yh .add false [x1,(h0 c)] a) λp=>
 A.pu (Yh .add false [x1,(h0 c)] a) λq=>A.dr (Qa 1 [x0,q] a) a λr s a=>A.dr (Yd [r] a) a λt u a=>A.dr (Qa 1 [x0,x1] a) a λv w a=>
 A.dr (Yd [v] a) a λy z a=>A.dr (Qa 1 [x0,x1] a) a λa0 a1 a=>A.dr (Zb 1 [a0,t] a) a λ_ a2 a=>A.dr (Qa 1 [x0,p] a) a λa3 a4 a=>
 A.dr (Zb 1 [a3,y] a) a λ_ a5 a=>A.gd (Qe [[],[],[],[],[],[3,4],[],[],[],[7,8],[6,7,8,9],[6,7,8,9,10],[],[],[12,13],[12,13,14],[0,1,6,7,8,9,10,11,12,13,14,15],[0,1,6,7,8,9,10,11,12,13,14,15,16],[0,1,2,3,4,5,6,7,8,9,10,11,12,13,14,15,16,17],[0,1,2,3,4,5,6,7,8,9,10,11,12,13,14,15,16,17,18]] [([],[]),([],[]),([],[]),([],[]),([],[]),([],[]),([],[]),([],[]),([],[]),([],[]),s,u,([],[]),([],[]),w,z,a1,a2,a4,a5]) <|
 A.k 215 [x0,jv 0,(h0 c),x1] a λa7 a=>A.b .sub (h0 c) (jv 1) a λa6=>n [a6] a) (f (.tup []) a)) [m] a)) [h] a
 |_=>A.stop
theorem g164_ok:GQ 164 3 g164:=gq3 [none,some [9],none,none,none,some [10],none,none] λ_ _ _ _ _ _ _=>by kernel_rfl
def g165:GFun:=λA xs a f=>match xs with
 |[x0,x1,x2]=>
 A.b .sub x2 x1 a λc=>A.b .geq c (jv 8) a λj=>A.test j (A.r (ZH .u64) c a λl=>A.wr (Xc [.int .u64 0] [] a) a λg a=>A.ws (Zb 1) g l a λ_ a=>
 A.k 216 [c] a λm a=>A.b .quo c (jv 4) a λn=>A.b .mul n (jv 2) a λo=>A.b .add x1 o a λp=>A.b .sub p (jv 1) a λq=>A.loop (λs d a=>A.b .quo c (jv 4) a λt=>
 A.b .mul t (jv 2) a λu=>A.b .add x1 u a λv=>A.b .add v (jv 1) a λw=>A.b .leq (h0 d) w a λy=>A.test y (A.k 217 [g] a λz a=>A.b .sub m (.int .u64 1) a λa0=>
 A.b .and z a0 a λa1=>A.r (ZH .i64) a1 a λe=>A.b .geq e c a λa2=>joinK (λh=>A.test a2 (A.b .sub e c a λa3=>h [a3] a) (h [e] a)) (λi a=>
 A.pu (Yh .add false [x1,(h0 i)] a) λa4=>A.pu (Yh .add false [x1,(h0 i)] a) λa5=>A.dr (Qa 1 [x0,a5] a) a λa6 a7 a=>A.dr (Yd [a6] a) a λa8 a9 a=>
 A.dr (Qa 1 [x0,(h0 d)] a) a λb0 b1 a=>A.dr (Yd [b0] a) a λb2 b3 a=>A.dr (Qa 1 [x0,(h0 d)] a) a λb4 b5 a=>A.dr (Zb 1 [b4,a8] a) a λ_ b6 a=>
 A.dr (Qa 1 [x0,a4] a) a λb7 b8 a=>A.dr (Zb 1 [b7,b2] a) a λ_ b9 a=>A.gd (Qe [[],[],[],[],[],[3,4],[],[],[],[7,8],[6,7,8,9],[6,7,8,9,10],[],[],[12,13],[12,13,14],[0,1,6,7,8,9,10,11,12,13,14,15],[0,1,6,7,8,9,10,11,12,13,14,15,16],[0,1,2,3,4,5,6,7,8,9,10,11,12,13,14,15,16,17],[0,1,2,3,4,5,6,7,8,9,10,11,12,13,14,15,16,17,18]] [([],[]),([],[]),([],[]),([],[]),([],[]),([],[]),([],[]),([],[]),([],[]),([],[]),a7,a9,([],[]),([],[]),b1,b3,b5,b6,b8,b9]) <|
 A.b .add (h0 d) (jv 1) a λc0=>s [c0] a)) (f (.tup []) a)) [q] a) (f (.tup []) a)
 |_=>A.stop
theorem g165_ok:GQ 165 3 g165:=gq3 [none,none,some [9],none,none,some [10]] λ_ _ _ _ _ _ _=>by kernel_rfl
def g166:GFun:=λA xs c f=>match xs with
 |[x0,x1,x2]=>
 A.b .sub x2 x1 c λd=>A.wr (Xc [jv 0] [] c) c λe c=>A.b .quo d (jv 4) c λp=>A.b .mul p (jv 1) c λq=>A.b .add x1 q c λj=>A.b .quo d (jv 4) c λr=>
 A.b .mul r (jv 2) c λs=>A.b .add x1 s c λg=>A.b .quo d (jv 4) c λt=>A.b .mul t (jv 3) c λu=>A.b .add x1 u c λl=>A.b .geq d (jv 8) c λv=>
 joinK (λm=>A.test v (A.b .geq d (jv 50) c λw=>joinK (λn=>A.test w (A.k 218 [x0,j,e] c λy c=>A.k 218 [x0,g,e] c λz c=>A.k 218 [x0,l,e] c λa0 c=>
 n [y,z,a0] c) (n [j,g,l] c)) (λh c=>A.k 219 [x0,(h0 h),(h1 h),(h2 h),e] c λa1 c=>m [a1] c)) (m [g] c)) (λi c=>A.a e c λo=>A.b .eql o (jv 0) c λa2=>
 A.test a2 (f (.tup [(h0 i),jv 1]) c) (A.b .eql o (jv 12) c λa3=>A.test a3 (f (.tup [(h0 i),jv 2]) c) (f (.tup [(h0 i),jv 0]) c)))
 |_=>A.stop
theorem g166_ok:GQ 166 3 g166:=gq3 [some [11],some [10,11,12],none,none,none] λ_ _ _ _ _ _ _=>by kernel_rfl
def g167:GFun:=λA xs a d=>match xs with
 |[x0,x1,x2]=>
 A.b .sub x2 (jv 1) a λe=>A.loop (λf c a=>A.b .lss (h0 c) (h1 c) a λg=>A.test g (A.dr (Qa 1 [x0,(h1 c)] a) a λh i a=>A.dr (Yd [h] a) a λj l a=>
 A.dr (Qa 1 [x0,(h0 c)] a) a λm n a=>A.dr (Yd [m] a) a λo p a=>A.dr (Qa 1 [x0,(h0 c)] a) a λq r a=>A.dr (Zb 1 [q,j] a) a λ_ s a=>
 A.dr (Qa 1 [x0,(h1 c)] a) a λt u a=>A.dr (Zb 1 [t,o] a) a λ_ v a=>A.gd (Qe [[],[],[],[],[],[],[4,5],[4,5,6],[],[],[8,9],[8,9,10],[0,1,4,5,6,7,8,9,10,11],[0,1,4,5,6,7,8,9,10,11,12],[0,1,2,3,4,5,6,7,8,9,10,11,12,13],[0,1,2,3,4,5,6,7,8,9,10,11,12,13,14]] [([],[]),([],[]),([],[]),([],[]),([],[]),([],[]),i,l,([],[]),([],[]),n,p,r,s,u,v]) <|
 A.b .add (h0 c) (jv 1) a λw=>A.b .sub (h1 c) (jv 1) a λy=>f [w,y] a) (d (.tup []) a)) [x1,e] a
 |_=>A.stop
theorem g167_ok:GQ 167 3 g167:=gq3 [none,some [6,7],none,none] λ_ _ _ _ _ _ _=>by kernel_rfl
def g168:GFun:=λA xs a g=>match xs with
 |[x0,x1,x2]=>
 A.b .add x1 (jv 1) a λl=>A.loop (λm h a=>A.b .lss (h0 h) (jv 5) a λn=>A.test n (joinK (λi=>A.loop (λo c a=>A.pu (Yh .lss false [(h0 c),x2] a) λd=>
 A.gr d true (λk=>A.pu (Yg [x0] a) k) λp=>A.gr d true (λk=>A.pu (Yg [(h0 c)] a) k) λq=>A.gl d true (λk=>A.dr (Qa 1 [p,q] a) a k) a λr s a=>
 A.gl d true (λk=>A.dr (Yd [r] a) a k) a λt u a=>A.gr d true (λk=>A.pu (Yg [x0] a) k) λv=>A.gr d true (λk=>A.pu (Yg [(h0 c)] a) k) λw=>
 A.gr d true (λk=>A.pu (Yh .sub false [w,jv 1] a) k) λy=>A.gl d true (λk=>A.dr (Qa 1 [v,y] a) a k) a λz a0 a=>A.gl d true (λk=>A.dr (Yd [z] a) a k) a λa1 a2 a=>
 A.gl d true (λk=>A.dcall (.call 169) [t,a1] a k) a λa3 a4 a=>A.gr d true (λk=>A.pu (Zp .not [a3] a) k) λa5=>A.pu (Zn [d,a5,.bool false] a) λa6=>
 A.gd (Qe [[],[],[0,1],[0,1,2],[0,1,2,3],[0,1,2,3],[0,1,2,3,4,5],[0,1,2,3,4,5,6],[0,1,2,3],[0,1,2,3],[0,1,2,3,9],[0,1,2,3,8,9,10],[0,1,2,3,8,9,10,11],[0,1,2,3,4,5,6,7,8,9,10,11,12],[0,1,2,3,4,5,6,7,8,9,10,11,12,13],[0,1,2,3,4,5,6,7,8,9,10,11,12,13,14]] [([],[]),([],[]),([],[]),([],[]),([],[]),([],[]),s,u,([],[]),([],[]),([],[]),a0,a2,a4,([],[]),([],[])]) <|
 A.test a6 (A.b .add (h0 c) (jv 1) a λa7=>o [a7] a) (A.b .eql (h0 c) x2 a λa8=>A.test a8 (g (.bool true) a) (A.b .sub x2 x1 a λa9=>A.b .lss a9 (jv 50) a λb0=>
 A.test b0 (g (.bool false) a) (A.pu (Yh .sub false [(h0 c),jv 1] a) λb1=>A.pu (Yh .sub false [(h0 c),jv 1] a) λb2=>A.dr (Qa 1 [x0,b2] a) a λb3 b4 a=>
 A.dr (Yd [b3] a) a λb5 b6 a=>A.dr (Qa 1 [x0,(h0 c)] a) a λb7 b8 a=>A.dr (Yd [b7] a) a λb9 c0 a=>A.dr (Qa 1 [x0,(h0 c)] a) a λc1 c2 a=>
 A.dr (Zb 1 [c1,b5] a) a λ_ c3 a=>A.dr (Qa 1 [x0,b1] a) a λc4 c5 a=>A.dr (Zb 1 [c4,b9] a) a λ_ c6 a=>A.gd (Qe [[],[],[],[],[3],[],[],[6],[5,6,7],[5,6,7,8],[],[],[10,11],[10,11,12],[0,1,5,6,7,8,9,10,11,12,13],[0,1,5,6,7,8,9,10,11,12,13,14],[0,1,2,3,4,5,6,7,8,9,10,11,12,13,14,15],[0,1,2,3,4,5,6,7,8,9,10,11,12,13,14,15,16]] [([],[]),([],[]),([],[]),([],[]),([],[]),([],[]),([],[]),([],[]),b4,b6,([],[]),([],[]),b8,c0,c2,c3,c5,c6]) <|
 A.b .sub (h0 c) x1 a λc7=>A.b .geq c7 (jv 2) a λc8=>joinK (λj=>A.test c8 (A.b .sub (h0 c) (jv 1) a λc9=>A.loop (λd0 e a=>A.b .geq (h0 e) (jv 1) a λd1=>
 A.test d1 (A.dr (Qa 1 [x0,(h0 e)] a) a λd2 d3 a=>A.dr (Yd [d2] a) a λd4 d5 a=>A.pu (Yh .sub false [(h0 e),jv 1] a) λd6=>A.dr (Qa 1 [x0,d6] a) a λd7 d8 a=>
 A.dr (Yd [d7] a) a λd9 e0 a=>A.dcall (.call 169) [d4,d9] a λe1 e2 a=>A.pu (Zp .not [e1] a) λe3=>A.gd (Qe [[],[],[0,1],[0,1,2],[],[],[5],[4,5,6],[4,5,6,7],[0,1,2,3,4,5,6,7,8],[0,1,2,3,4,5,6,7,8,9]] [([],[]),([],[]),d3,d5,([],[]),([],[]),([],[]),d8,e0,e2,([],[])]) <|
 A.test e3 (j [] a) (A.pu (Yh .sub false [(h0 e),jv 1] a) λe4=>A.pu (Yh .sub false [(h0 e),jv 1] a) λe5=>A.dr (Qa 1 [x0,e5] a) a λe6 e7 a=>
 A.dr (Yd [e6] a) a λe8 e9 a=>A.dr (Qa 1 [x0,(h0 e)] a) a λf0 f1 a=>A.dr (Yd [f0] a) a λf2 f3 a=>A.dr (Qa 1 [x0,(h0 e)] a) a λf4 f5 a=>
 A.dr (Zb 1 [f4,e8] a) a λ_ f6 a=>A.dr (Qa 1 [x0,e4] a) a λf7 f8 a=>A.dr (Zb 1 [f7,f2] a) a λ_ f9 a=>A.gd (Qe [[],[],[],[],[3],[],[],[6],[5,6,7],[5,6,7,8],[],[],[10,11],[10,11,12],[0,1,5,6,7,8,9,10,11,12,13],[0,1,5,6,7,8,9,10,11,12,13,14],[0,1,2,3,4,5,6,7,8,9,10,11,12,13,14,15],[0,1,2,3,4,5,6,7,8,9,10,11,12,13,14,15,16]] [([],[]),([],[]),([],[]),([],[]),([],[]),([],[]),([],[]),([],[]),e7,e9,([],[]),([],[]),f1,f3,f5,f6,f8,f9]) <|
 A.b .sub (h0 e) (jv 1) a λg0=>d0 [g0] a)) (j [] a)) [c9] a) (j [] a)) (λl6 a=>A.b .sub x2 (h0 c) a λg1=>A.b .geq g1 (jv 2) a λg2=>A.test g2 (A.b .add (h0 c) (jv 1) a λg3=>
 A.loop (λg4 f a=>A.b .lss (h0 f) x2 a λg5=>A.test g5 (A.dr (Qa 1 [x0,(h0 f)] a) a λg6 g7 a=>A.dr (Yd [g6] a) a λg8 g9 a=>A.pu (Yh .sub false [(h0 f),jv 1] a) λi0=>
 A.dr (Qa 1 [x0,i0] a) a λi1 i2 a=>A.dr (Yd [i1] a) a λi3 i4 a=>A.dcall (.call 169) [g8,i3] a λi5 i6 a=>A.pu (Zp .not [i5] a) λi7=>
 A.gd (Qe [[],[],[0,1],[0,1,2],[],[],[5],[4,5,6],[4,5,6,7],[0,1,2,3,4,5,6,7,8],[0,1,2,3,4,5,6,7,8,9]] [([],[]),([],[]),g7,g9,([],[]),([],[]),([],[]),i2,i4,i6,([],[])]) <|
 A.test i7 (i [(h0 c)] a) (A.pu (Yh .sub false [(h0 f),jv 1] a) λi8=>A.pu (Yh .sub false [(h0 f),jv 1] a) λi9=>A.dr (Qa 1 [x0,i9] a) a λj0 j1 a=>
 A.dr (Yd [j0] a) a λj2 j3 a=>A.dr (Qa 1 [x0,(h0 f)] a) a λj4 j5 a=>A.dr (Yd [j4] a) a λj6 j7 a=>A.dr (Qa 1 [x0,(h0 f)] a) a λj8 j9 a=>
 A.dr (Zb 1 [j8,j2] a) a λ_ l0 a=>A.dr (Qa 1 [x0,i8] a) a λl1 l2 a=>A.dr (Zb 1 [l1,j6] a) a λ_ l3 a=>A.gd (Qe [[],[],[],[],[3],[],[],[6],[5,6,7],[5,6,7,8],[],[],[10,11],[10,11,12],[0,1,5,6,7,8,9,10,11,12,13],[0,1,5,6,7,8,9,10,11,12,13,14],[0,1,2,3,4,5,6,7,8,9,10,11,12,13,14,15],[0,1,2,3,4,5,6,7,8,9,10,11,12,13,14,15,16]] [([],[]),([],[]),([],[]),([],[]),([],[]),([],[]),([],[]),([],[]),j1,j3,([],[]),([],[]),j5,j7,j9,l0,l2,l3]) <|
 A.b .add (h0 f) (jv 1) a λl4=>g4 [l4] a)) (i [(h0 c)] a)) [g3] a) (i [(h0 c)] a)))))) [(h1 h)] a) (λv5 a=>A.b .add (h0 h) (jv 1) a λl5=>m [l5,(h0 v5)] a)) (
 g (.bool false) a)) [jv 0,l] a
 |_=>A.stop
theorem g168_ok:GQ 168 3 g168:=gq3 [none,some [8,7],none,some [7],none,some [7],none,none,none,none,some [],none,some [9],none,none,none,none,none,some [10],none,none,none] λ_ _ _ _ _ _ _=>by kernel_rfl
def g169:GFun:=λA xs a e=>match xs with
 |[x0,x1]=>
 A.k 220 [x0] a λb a=>A.tr b Yg x1 a λf=>A.gw b true (λk=>A.k 220 [f] a k) a λg a=>A.tr b (Zp .not) g a λh=>A.c b h (.bool false) a λd=>
 A.fr d Yg x0 a λi=>A.fr d Yg x1 a λj=>A.fb d .lss i j a λl=>A.c d (.bool true) l a λm=>e m a
 |_=>A.stop
theorem g169_ok:GQ 169 2 g169:=gq2 [] λ_ _ _ _ _ _=>by kernel_rfl
def g170:GFun:=λA xs a h=>match xs with
 |[x0,x1,x2,x3]=>
 A.dr (Qa 1 [x0,x3] a) a λi j a=>A.dr (Yd [i] a) a λl m a=>A.dr (Qa 1 [x0,x1] a) a λn o a=>A.dr (Yd [n] a) a λp q a=>
 A.dr (Qa 1 [x0,x1] a) a λr s a=>A.dr (Zb 1 [r,l] a) a λ_ t a=>A.dr (Qa 1 [x0,x3] a) a λu v a=>A.dr (Zb 1 [u,p] a) a λ_ w a=>
 A.gd (Qe [[],[],[],[],[],[],[4,5],[4,5,6],[],[],[8,9],[8,9,10],[0,1,4,5,6,7,8,9,10,11],[0,1,4,5,6,7,8,9,10,11,12],[0,1,2,3,4,5,6,7,8,9,10,11,12,13],[0,1,2,3,4,5,6,7,8,9,10,11,12,13,14]] [([],[]),([],[]),([],[]),([],[]),([],[]),([],[]),j,m,([],[]),([],[]),o,q,s,t,v,w]) <|
 A.b .add x1 (jv 1) a λy=>A.b .sub x2 (jv 1) a λz=>A.loop (λa0 g a=>A.loop (λa1 e a=>A.pu (Yh .leq false [(h0 e),(h1 g)] a) λc=>A.gr c true (λk=>A.pu (Yg [x0] a) k) λa2=>
 A.gr c true (λk=>A.pu (Yg [x1] a) k) λa3=>A.gl c true (λk=>A.dr (Qa 1 [a2,a3] a) a k) a λa4 a5 a=>A.gl c true (λk=>A.dr (Yd [a4] a) a k) a λa6 a7 a=>
 A.gr c true (λk=>A.pu (Yg [x0] a) k) λa8=>A.gr c true (λk=>A.pu (Yg [(h0 e)] a) k) λa9=>A.gl c true (λk=>A.dr (Qa 1 [a8,a9] a) a k) a λb0 b1 a=>
 A.gl c true (λk=>A.dr (Yd [b0] a) a k) a λb2 b3 a=>A.gl c true (λk=>A.dcall (.call 169) [a6,b2] a k) a λb4 b5 a=>A.gr c true (λk=>A.pu (Zp .not [b4] a) k) λb6=>
 A.pu (Zn [c,b6,.bool false] a) λb7=>A.gd (Qe [[],[],[0,1],[0,1,2],[0,1,2,3],[0,1,2,3],[0,1,2,3,4,5],[0,1,2,3,4,5,6],[0,1,2,3],[0,1,2,3],[0,1,2,3,8,9],[0,1,2,3,8,9,10],[0,1,2,3,4,5,6,7,8,9,10,11],[0,1,2,3,4,5,6,7,8,9,10,11,12],[0,1,2,3,4,5,6,7,8,9,10,11,12,13]] [([],[]),([],[]),([],[]),([],[]),([],[]),([],[]),a5,a7,([],[]),([],[]),b1,b3,b5,([],[]),([],[])]) <|
 A.test b7 (A.b .add (h0 e) (jv 1) a λb8=>a1 [b8] a) (A.loop (λb9 f a=>A.pu (Yh .leq false [(h0 e),(h0 f)] a) λd=>A.gr d true (λk=>A.pu (Yg [x0] a) k) λc0=>
 A.gr d true (λk=>A.pu (Yg [x1] a) k) λc1=>A.gl d true (λk=>A.dr (Qa 1 [c0,c1] a) a k) a λc2 c3 a=>A.gl d true (λk=>A.dr (Yd [c2] a) a k) a λc4 c5 a=>
 A.gr d true (λk=>A.pu (Yg [x0] a) k) λc6=>A.gr d true (λk=>A.pu (Yg [(h0 f)] a) k) λc7=>A.gl d true (λk=>A.dr (Qa 1 [c6,c7] a) a k) a λc8 c9 a=>
 A.gl d true (λk=>A.dr (Yd [c8] a) a k) a λd0 d1 a=>A.gl d true (λk=>A.dcall (.call 169) [c4,d0] a k) a λd2 d3 a=>A.pu (Zn [d,d2,.bool false] a) λd4=>
 A.gd (Qe [[],[],[0,1],[0,1,2],[0,1,2,3],[0,1,2,3],[0,1,2,3,4,5],[0,1,2,3,4,5,6],[0,1,2,3],[0,1,2,3],[0,1,2,3,8,9],[0,1,2,3,8,9,10],[0,1,2,3,4,5,6,7,8,9,10,11],[0,1,2,3,4,5,6,7,8,9,10,11,12]] [([],[]),([],[]),([],[]),([],[]),([],[]),([],[]),c3,c5,([],[]),([],[]),c9,d1,d3,([],[])]) <|
 A.test d4 (A.b .sub (h0 f) (jv 1) a λd5=>b9 [d5] a) (A.b .gtr (h0 e) (h0 f) a λd6=>A.test d6 (h (h0 e) a) (A.dr (Qa 1 [x0,(h0 f)] a) a λd7 d8 a=>
 A.dr (Yd [d7] a) a λd9 e0 a=>A.dr (Qa 1 [x0,(h0 e)] a) a λe1 e2 a=>A.dr (Yd [e1] a) a λe3 e4 a=>A.dr (Qa 1 [x0,(h0 e)] a) a λe5 e6 a=>
 A.dr (Zb 1 [e5,d9] a) a λ_ e7 a=>A.dr (Qa 1 [x0,(h0 f)] a) a λe8 e9 a=>A.dr (Zb 1 [e8,e3] a) a λ_ f0 a=>A.gd (Qe [[],[],[],[],[],[],[4,5],[4,5,6],[],[],[8,9],[8,9,10],[0,1,4,5,6,7,8,9,10,11],[0,1,4,5,6,7,8,9,10,11,12],[0,1,2,3,4,5,6,7,8,9,10,11,12,13],[0,1,2,3,4,5,6,7,8,9,10,11,12,13,14]] [([],[]),([],[]),([],[]),([],[]),([],[]),([],[]),d8,e0,([],[]),([],[]),e2,e4,e6,e7,e9,f0]) <|
 A.b .add (h0 e) (jv 1) a λf1=>A.b .sub (h0 f) (jv 1) a λf2=>a0 [f1,f2] a))) [(h1 g)] a)) [(h0 g)] a) [y,z] a
 |_=>A.stop
theorem g170_ok:GQ 170 4 g170:=gq4 [none,some [9,10],none,none,some [9],none,none,none,some [10],none,none,none] λ_ _ _ _ _ _ _ _=>by kernel_rfl
def g171:GFun:=λA xs a m=>match xs with
 |[x0,x1,x2,x3]=>
 A.dr (Qa 1 [x0,x3] a) a λo p a=>A.dr (Yd [o] a) a λq r a=>A.dr (Qa 1 [x0,x1] a) a λs t a=>A.dr (Yd [s] a) a λu v a=>
 A.dr (Qa 1 [x0,x1] a) a λw y a=>A.dr (Zb 1 [w,q] a) a λ_ z a=>A.dr (Qa 1 [x0,x3] a) a λa0 a1 a=>A.dr (Zb 1 [a0,u] a) a λ_ a2 a=>
 A.gd (Qe [[],[],[],[],[],[],[4,5],[4,5,6],[],[],[8,9],[8,9,10],[0,1,4,5,6,7,8,9,10,11],[0,1,4,5,6,7,8,9,10,11,12],[0,1,2,3,4,5,6,7,8,9,10,11,12,13],[0,1,2,3,4,5,6,7,8,9,10,11,12,13,14]] [([],[]),([],[]),([],[]),([],[]),([],[]),([],[]),p,r,([],[]),([],[]),t,v,y,z,a1,a2]) <|
 A.b .add x1 (jv 1) a λa3=>A.b .sub x2 (jv 1) a λn=>A.loop (λa4 i a=>A.pu (Yh .leq false [(h0 i),n] a) λe=>A.gr e true (λk=>A.pu (Yg [x0] a) k) λa5=>
 A.gr e true (λk=>A.pu (Yg [(h0 i)] a) k) λa6=>A.gl e true (λk=>A.dr (Qa 1 [a5,a6] a) a k) a λa7 a8 a=>A.gl e true (λk=>A.dr (Yd [a7] a) a k) a λa9 b0 a=>
 A.gr e true (λk=>A.pu (Yg [x0] a) k) λb1=>A.gr e true (λk=>A.pu (Yg [x1] a) k) λb2=>A.gl e true (λk=>A.dr (Qa 1 [b1,b2] a) a k) a λb3 b4 a=>
 A.gl e true (λk=>A.dr (Yd [b3] a) a k) a λb5 b6 a=>A.gl e true (λk=>A.dcall (.call 169) [a9,b5] a k) a λb7 b8 a=>A.pu (Zn [e,b7,.bool false] a) λb9=>
 A.gd (Qe [[],[],[0,1],[0,1,2],[0,1,2,3],[0,1,2,3],[0,1,2,3,4,5],[0,1,2,3,4,5,6],[0,1,2,3],[0,1,2,3],[0,1,2,3,8,9],[0,1,2,3,8,9,10],[0,1,2,3,4,5,6,7,8,9,10,11],[0,1,2,3,4,5,6,7,8,9,10,11,12]] [([],[]),([],[]),([],[]),([],[]),([],[]),([],[]),a8,b0,([],[]),([],[]),b4,b6,b8,([],[])]) <|
 A.test b9 (A.b .add (h0 i) (jv 1) a λc0=>a4 [c0] a) (A.loop (λc1 f a=>A.pu (Yh .leq false [(h0 i),(h0 f)] a) λc=>A.gr c true (λk=>A.pu (Yg [x0] a) k) λc2=>
 A.gr c true (λk=>A.pu (Yg [(h0 f)] a) k) λc3=>A.gl c true (λk=>A.dr (Qa 1 [c2,c3] a) a k) a λc4 c5 a=>A.gl c true (λk=>A.dr (Yd [c4] a) a k) a λc6 c7 a=>
 A.gr c true (λk=>A.pu (Yg [x0] a) k) λc8=>A.gr c true (λk=>A.pu (Yg [x1] a) k) λc9=>A.gl c true (λk=>A.dr (Qa 1 [c8,c9] a) a k) a λd0 d1 a=>
 A.gl c true (λk=>A.dr (Yd [d0] a) a k) a λd2 d3 a=>A.gl c true (λk=>A.dcall (.call 169) [c6,d2] a k) a λd4 d5 a=>A.gr c true (λk=>A.pu (Zp .not [d4] a) k) λd6=>
 A.pu (Zn [c,d6,.bool false] a) λd7=>A.gd (Qe [[],[],[0,1],[0,1,2],[0,1,2,3],[0,1,2,3],[0,1,2,3,4,5],[0,1,2,3,4,5,6],[0,1,2,3],[0,1,2,3],[0,1,2,3,8,9],[0,1,2,3,8,9,10],[0,1,2,3,4,5,6,7,8,9,10,11],[0,1,2,3,4,5,6,7,8,9,10,11,12],[0,1,2,3,4,5,6,7,8,9,10,11,12,13]] [([],[]),([],[]),([],[]),([],[]),([],[]),([],[]),c5,c7,([],[]),([],[]),d1,d3,d5,([],[]),([],[])]) <|
 A.test d7 (A.b .sub (h0 f) (jv 1) a λd8=>c1 [d8] a) (A.b .gtr (h0 i) (h0 f) a λd9=>A.test d9 (A.dr (Qa 1 [x0,x1] a) a λe0 e1 a=>A.dr (Yd [e0] a) a λe2 e3 a=>
 A.dr (Qa 1 [x0,(h0 f)] a) a λe4 e5 a=>A.dr (Yd [e4] a) a λe6 e7 a=>A.dr (Qa 1 [x0,(h0 f)] a) a λe8 e9 a=>A.dr (Zb 1 [e8,e2] a) a λ_ f0 a=>
 A.dr (Qa 1 [x0,x1] a) a λf1 f2 a=>A.dr (Zb 1 [f1,e6] a) a λ_ f3 a=>A.gd (Qe [[],[],[],[],[],[],[4,5],[4,5,6],[],[],[8,9],[8,9,10],[0,1,4,5,6,7,8,9,10,11],[0,1,4,5,6,7,8,9,10,11,12],[0,1,2,3,4,5,6,7,8,9,10,11,12,13],[0,1,2,3,4,5,6,7,8,9,10,11,12,13,14]] [([],[]),([],[]),([],[]),([],[]),([],[]),([],[]),e1,e3,([],[]),([],[]),e5,e7,e9,f0,f2,f3]) <|
 m (.tup [(h0 f),.bool true]) a) (A.dr (Qa 1 [x0,(h0 f)] a) a λf4 f5 a=>A.dr (Yd [f4] a) a λf6 f7 a=>A.dr (Qa 1 [x0,(h0 i)] a) a λf8 f9 a=>
 A.dr (Yd [f8] a) a λg0 g1 a=>A.dr (Qa 1 [x0,(h0 i)] a) a λg2 g3 a=>A.dr (Zb 1 [g2,f6] a) a λ_ g4 a=>A.dr (Qa 1 [x0,(h0 f)] a) a λg5 g6 a=>
 A.dr (Zb 1 [g5,g0] a) a λ_ g7 a=>A.gd (Qe [[],[],[],[],[],[],[4,5],[4,5,6],[],[],[8,9],[8,9,10],[0,1,4,5,6,7,8,9,10,11],[0,1,4,5,6,7,8,9,10,11,12],[0,1,2,3,4,5,6,7,8,9,10,11,12,13],[0,1,2,3,4,5,6,7,8,9,10,11,12,13,14]] [([],[]),([],[]),([],[]),([],[]),([],[]),([],[]),f5,f7,([],[]),([],[]),f9,g1,g3,g4,g6,g7]) <|
 A.b .add (h0 i) (jv 1) a λg8=>A.b .sub (h0 f) (jv 1) a λg9=>A.loop (λi0 l a=>A.loop (λi1 j a=>A.pu (Yh .leq false [(h0 j),(h1 l)] a) λg=>
 A.gr g true (λk=>A.pu (Yg [x0] a) k) λi2=>A.gr g true (λk=>A.pu (Yg [(h0 j)] a) k) λi3=>A.gl g true (λk=>A.dr (Qa 1 [i2,i3] a) a k) a λi4 i5 a=>
 A.gl g true (λk=>A.dr (Yd [i4] a) a k) a λi6 i7 a=>A.gr g true (λk=>A.pu (Yg [x0] a) k) λi8=>A.gr g true (λk=>A.pu (Yg [x1] a) k) λi9=>
 A.gl g true (λk=>A.dr (Qa 1 [i8,i9] a) a k) a λj0 j1 a=>A.gl g true (λk=>A.dr (Yd [j0] a) a k) a λj2 j3 a=>A.gl g true (λk=>A.dcall (.call 169) [i6,j2] a k) a λj4 j5 a=>
 A.pu (Zn [g,j4,.bool false] a) λj6=>A.gd (Qe [[],[],[0,1],[0,1,2],[0,1,2,3],[0,1,2,3],[0,1,2,3,4,5],[0,1,2,3,4,5,6],[0,1,2,3],[0,1,2,3],[0,1,2,3,8,9],[0,1,2,3,8,9,10],[0,1,2,3,4,5,6,7,8,9,10,11],[0,1,2,3,4,5,6,7,8,9,10,11,12]] [([],[]),([],[]),([],[]),([],[]),([],[]),([],[]),i5,i7,([],[]),([],[]),j1,j3,j5,([],[])]) <|
 A.test j6 (A.b .add (h0 j) (jv 1) a λj7=>i1 [j7] a) (A.loop (λj8 h a=>A.pu (Yh .leq false [(h0 j),(h0 h)] a) λd=>A.gr d true (λk=>A.pu (Yg [x0] a) k) λj9=>
 A.gr d true (λk=>A.pu (Yg [(h0 h)] a) k) λl0=>A.gl d true (λk=>A.dr (Qa 1 [j9,l0] a) a k) a λl2 l4 a=>A.gl d true (λk=>A.dr (Yd [l2] a) a k) a λl6 l8 a=>
 A.gr d true (λk=>A.pu (Yg [x0] a) k) λm0=>A.gr d true (λk=>A.pu (Yg [x1] a) k) λm1=>A.gl d true (λk=>A.dr (Qa 1 [m0,m1] a) a k) a λm2 m3 a=>
 A.gl d true (λk=>A.dr (Yd [m2] a) a k) a λm4 m5 a=>A.gl d true (λk=>A.dcall (.call 169) [l6,m4] a k) a λm6 m7 a=>A.gr d true (λk=>A.pu (Zp .not [m6] a) k) λm8=>
 A.pu (Zn [d,m8,.bool false] a) λm9=>A.gd (Qe [[],[],[0,1],[0,1,2],[0,1,2,3],[0,1,2,3],[0,1,2,3,4,5],[0,1,2,3,4,5,6],[0,1,2,3],[0,1,2,3],[0,1,2,3,8,9],[0,1,2,3,8,9,10],[0,1,2,3,4,5,6,7,8,9,10,11],[0,1,2,3,4,5,6,7,8,9,10,11,12],[0,1,2,3,4,5,6,7,8,9,10,11,12,13]] [([],[]),([],[]),([],[]),([],[]),([],[]),([],[]),l4,l8,([],[]),([],[]),m3,m5,m7,([],[]),([],[])]) <|
 A.test m9 (A.b .sub (h0 h) (jv 1) a λn0=>j8 [n0] a) (A.b .gtr (h0 j) (h0 h) a λn1=>A.test n1 (A.dr (Qa 1 [x0,x1] a) a λn2 n3 a=>A.dr (Yd [n2] a) a λn4 n5 a=>
 A.dr (Qa 1 [x0,(h0 h)] a) a λn6 n7 a=>A.dr (Yd [n6] a) a λn8 n9 a=>A.dr (Qa 1 [x0,(h0 h)] a) a λo0 o1 a=>A.dr (Zb 1 [o0,n4] a) a λ_ o2 a=>
 A.dr (Qa 1 [x0,x1] a) a λo3 o4 a=>A.dr (Zb 1 [o3,n8] a) a λ_ o5 a=>A.gd (Qe [[],[],[],[],[],[],[4,5],[4,5,6],[],[],[8,9],[8,9,10],[0,1,4,5,6,7,8,9,10,11],[0,1,4,5,6,7,8,9,10,11,12],[0,1,2,3,4,5,6,7,8,9,10,11,12,13],[0,1,2,3,4,5,6,7,8,9,10,11,12,13,14]] [([],[]),([],[]),([],[]),([],[]),([],[]),([],[]),n3,n5,([],[]),([],[]),n7,n9,o1,o2,o4,o5]) <|
 m (.tup [(h0 h),.bool false]) a) (A.dr (Qa 1 [x0,(h0 h)] a) a λo6 o7 a=>A.dr (Yd [o6] a) a λo8 o9 a=>A.dr (Qa 1 [x0,(h0 j)] a) a λp0 p1 a=>
 A.dr (Yd [p0] a) a λp2 p3 a=>A.dr (Qa 1 [x0,(h0 j)] a) a λp4 p5 a=>A.dr (Zb 1 [p4,o8] a) a λ_ p6 a=>A.dr (Qa 1 [x0,(h0 h)] a) a λp7 p8 a=>
 A.dr (Zb 1 [p7,p2] a) a λ_ p9 a=>A.gd (Qe [[],[],[],[],[],[],[4,5],[4,5,6],[],[],[8,9],[8,9,10],[0,1,4,5,6,7,8,9,10,11],[0,1,4,5,6,7,8,9,10,11,12],[0,1,2,3,4,5,6,7,8,9,10,11,12,13],[0,1,2,3,4,5,6,7,8,9,10,11,12,13,14]] [([],[]),([],[]),([],[]),([],[]),([],[]),([],[]),o7,o9,([],[]),([],[]),p1,p3,p5,p6,p8,p9]) <|
 A.b .add (h0 j) (jv 1) a λq0=>A.b .sub (h0 h) (jv 1) a λq1=>i0 [q0,q1] a))) [(h1 l)] a)) [(h0 l)] a) [g8,g9] a))) [n] a)) [a3] a
 |_=>A.stop
theorem g171_ok:GQ 171 4 g171:=gq4 [none,some [10],none,none,none,some [11],none,none,none,none,some [10,11],none,none,some [10],none,none,none,some [11],none,none,none] λ_ _ _ _ _ _ _ _=>by kernel_rfl
def g172:GFun:=λA xs a g=>match xs with
 |[x0]=>
 A.b .geq x0 (.int .u32 65536) a λh=>joinK (λd=>A.test h (A.b .shr x0 (.int .u64 16) a λi=>d [i,jv 16] a) (d [x0,jv 0] a)) (λc a=>A.b .geq (h0 c) (.int .u32 256) a λj=>
 joinK (λe=>A.test j (A.b .shr (h0 c) (.int .u64 8) a λl=>A.b .add (h1 c) (jv 8) a λm=>e [m,l] a) (e [(h1 c),(h0 c)] a)) (λf a=>A.r (ZH .u8) (h1 f) a λn=>
 A.rd (Yy [(.str [0,1,2,2,3,3,3,3,4,4,4,4,4,4,4,4,5,5,5,5,5,5,5,5,5,5,5,5,5,5,5,5,6,6,6,6,6,6,6,6,6,6,6,6,6,6,6,6,6,6,6,6,6,6,6,6,6,6,6,6,6,6,6,6,7,7,7,7,7,7,7,7,7,7,7,7,7,7,7,7,7,7,7,7,7,7,7,7,7,7,7,7,7,7,7,7,7,7,7,7,7,7,7,7,7,7,7,7,7,7,7,7,7,7,7,7,7,7,7,7,7,7,7,7,7,7,7,7,8,8,8,8,8,8,8,8,8,8,8,8,8,8,8,8,8,8,8,8,8,8,8,8,8,8,8,8,8,8,8,8,8,8,8,8,8,8,8,8,8,8,8,8,8,8,8,8,8,8,8,8,8,8,8,8,8,8,8,8,8,8,8,8,8,8,8,8,8,8,8,8,8,8,8,8,8,8,8,8,8,8,8,8,8,8,8,8,8,8,8,8,8,8,8,8,8,8,8,8,8,8,8,8,8,8,8,8,8,8,8,8,8,8,8,8,8,8,8,8,8,8,8,8,8,8,8,8]),n] a) λo=>
 A.r (ZH .i64) o a λp=>A.b .add (h0 f) p a λq=>g q a))
 |_=>A.stop
theorem g172_ok:GQ 172 1 g172:=gq1 [some [0,2],some [2,0]] λ_ _ _ _ _=>by kernel_rfl
def g173:GFun:=λA xs a i=>match xs with
 |[x0]=>
 A.b .geq x0 (.int .u64 4294967296) a λj=>joinK (λe=>A.test j (A.b .shr x0 (.int .u64 32) a λl=>e [l,jv 32] a) (e [x0,jv 0] a)) (λc a=>A.b .geq (h0 c) (.int .u64 65536) a λm=>
 joinK (λf=>A.test m (A.b .shr (h0 c) (.int .u64 16) a λn=>A.b .add (h1 c) (jv 16) a λo=>f [n,o] a) (f [(h0 c),(h1 c)] a)) (λd a=>A.b .geq (h0 d) (.int .u64 256) a λp=>
 joinK (λg=>A.test p (A.b .shr (h0 d) (.int .u64 8) a λq=>A.b .add (h1 d) (jv 8) a λs=>g [s,q] a) (g [(h1 d),(h0 d)] a)) (λh a=>A.r (ZH .u8) (h1 h) a λt=>
 A.rd (Yy [(.str [0,1,2,2,3,3,3,3,4,4,4,4,4,4,4,4,5,5,5,5,5,5,5,5,5,5,5,5,5,5,5,5,6,6,6,6,6,6,6,6,6,6,6,6,6,6,6,6,6,6,6,6,6,6,6,6,6,6,6,6,6,6,6,6,7,7,7,7,7,7,7,7,7,7,7,7,7,7,7,7,7,7,7,7,7,7,7,7,7,7,7,7,7,7,7,7,7,7,7,7,7,7,7,7,7,7,7,7,7,7,7,7,7,7,7,7,7,7,7,7,7,7,7,7,7,7,7,7,8,8,8,8,8,8,8,8,8,8,8,8,8,8,8,8,8,8,8,8,8,8,8,8,8,8,8,8,8,8,8,8,8,8,8,8,8,8,8,8,8,8,8,8,8,8,8,8,8,8,8,8,8,8,8,8,8,8,8,8,8,8,8,8,8,8,8,8,8,8,8,8,8,8,8,8,8,8,8,8,8,8,8,8,8,8,8,8,8,8,8,8,8,8,8,8,8,8,8,8,8,8,8,8,8,8,8,8,8,8,8,8,8,8,8,8,8,8,8,8,8,8,8,8,8,8,8,8]),t] a) λu=>
 A.r (ZH .i64) u a λv=>A.b .add (h0 h) v a λw=>i w a)))
 |_=>A.stop
theorem g173_ok:GQ 173 1 g173:=gq1 [some [0,2],some [0,2],some [2,0]] λ_ _ _ _ _=>by kernel_rfl
def g174:GFun:=λA xs c f=>match xs with
 |[x0]=>
 A.w1 Zm x0 c λe c=>A.loop (λg d c=>A.r (Za 3) e c λh=>A.a h c λi=>A.r Qd i c λj=>A.b .lss (h0 d) j c λl=>A.test l (A.r (Za 3) e c λm=>
 A.a m c λn=>A.s (Qa 4) n (h0 d) c λo=>A.r (Zc true 4) o c λp=>A.k 174 [p] c λq c=>A.b .add (h1 d) q c λt=>A.s ZL t (jv 100000) c λu=>
 A.b .add (h0 d) (jv 1) c λv=>g [v,u] c) (f (h1 d) c)) [jv 0,jv 1] c
 |_=>A.stop
theorem g174_ok:GQ 174 1 g174:=gq1 [none,some [4,3],none,none] λ_ _ _ _ _=>by kernel_rfl
def g175:GFun:=λA xs c g=>match xs with
 |[x0]=>
 A.w1 Zm x0 c λf c=>A.loop (λh d c=>A.r (Za 3) f c λi=>A.a i c λj=>A.r Qd j c λl=>A.b .lss (h0 d) l c λm=>A.test m (A.r (Za 3) f c λn=>
 A.a n c λo=>A.s (Qa 4) o (h0 d) c λp=>A.r (Zc true 4) p c λq=>A.k 174 [q] c λt c=>A.b .add (h1 d) t c λu=>A.s ZL u (jv 100000) c λv=>
 A.b .add (h0 d) (jv 1) c λw=>h [w,v] c) (A.loop (λy e c=>A.r (Za 4) f c λz=>A.a z c λa0=>A.r Qd a0 c λa1=>A.b .lss (h0 e) a1 c λa2=>
 A.test a2 (A.r (Za 4) f c λa3=>A.a a3 c λa4=>A.s (Qa 5) a4 (h0 e) c λa5=>A.r (Zc true 5) a5 c λa6=>A.k 175 [a6] c λa7 c=>
 A.b .add (h1 e) a7 c λa8=>A.s ZL a8 (jv 100000) c λa9=>A.b .add (h0 e) (jv 1) c λb0=>y [b0,a9] c) (g (h1 e) c)) [jv 0,(h1 d)] c)) [jv 0,jv 1] c
 |_=>A.stop
theorem g175_ok:GQ 175 1 g175:=gq1 [none,some [4,3],none,none,none,some [5,3],none,none] λ_ _ _ _ _=>by kernel_rfl
def g176:GFun:=λA xs c e=>match xs with
 |[x0,x1]=>
 A.r Qd x0 c λf=>A.loop (λg d c=>A.b .lss (h0 d) f c λh=>A.test h (A.s (Qa 1) x0 (h0 d) c λi=>A.a i c λj=>A.b .eql x1 j c λl=>
 A.test l (e (h0 d) c) (A.b .add (h0 d) (jv 1) c λm=>g [m] c)) (e (jv (-1)) c)) [jv 0] c
 |_=>A.stop
theorem g176_ok:GQ 176 2 g176:=gq2 [none,some [8],none,none,none] λ_ _ _ _ _ _=>by kernel_rfl
def g178:GFun:=λA xs c g=>match xs with
 |[x0]=>
 A.w1 Zm x0 c λf c=>A.loop (λh d c=>A.r (Za 3) f c λi=>A.a i c λj=>A.r Qd j c λl=>A.b .lss (h0 d) l c λm=>A.test m (A.r (Za 3) f c λn=>
 A.a n c λo=>A.s (Qa 4) o (h0 d) c λp=>A.r (Zc true 4) p c λq=>A.k 76 [q] c λt c=>A.b .add (h1 d) t c λu=>A.s ZL u (jv 1073741824) c λv=>
 A.b .add (h0 d) (jv 1) c λw=>h [w,v] c) (A.loop (λy e c=>A.r (Za 4) f c λz=>A.a z c λa0=>A.r Qd a0 c λa1=>A.b .lss (h0 e) a1 c λa2=>
 A.test a2 (A.r (Za 4) f c λa3=>A.a a3 c λa4=>A.s (Qa 5) a4 (h0 e) c λa5=>A.r (Zc true 5) a5 c λa6=>A.k 178 [a6] c λa7 c=>
 A.b .add (h1 e) a7 c λa8=>A.s ZL a8 (jv 1073741824) c λa9=>A.b .add (h0 e) (jv 1) c λb0=>y [b0,a9] c) (g (h1 e) c)) [jv 0,(h1 d)] c)) [jv 0,jv 1] c
 |_=>A.stop
theorem g178_ok:GQ 178 1 g178:=gq1 [none,some [4,3],none,none,none,some [5,3],none,none] λ_ _ _ _ _=>by kernel_rfl
def g179:GFun:=λA xs b d=>match xs with
 |[x0]=>
 A.wr (Xc [jv 0,jv 0] [] b) b λc b=>A.r (Za 0) x0 b λe=>A.a e b λf=>A.k 180 [f] b λg b=>A.ws (Zb 2) c g b λ_ b=>A.opt (cellV true 2 c b) λr4=>
 d r4 b
 |_=>A.stop
theorem g179_ok:GQ 179 1 g179:=gq1 [] λ_ _ _ _ _=>by kernel_rfl
def g180:GFun:=λA xs c f=>match xs with
 |[x0]=>
 A.wr (Xc [jv 0,jv 0] [] c) c λd c=>A.r Qd x0 c λo=>A.b .gtr o (jv 240) c λp=>A.test p (A.rd (Xd [jv 0,jv 0] [(0,1)] [jv 3] c) λq=>
 A.ws (Zb 2) d q c λ_ c=>A.opt (cellV true 2 d c) λr4=>f r4 c) (A.wr (ZE [] c) c λh c=>A.r Qd x0 c λt=>A.loop (λu i c=>A.b .lss (h0 i) t c λv=>
 A.test v (joinK (λl=>A.s (Qa 12) x0 (h0 i) c λw=>A.r (Zc true 12) w c λy=>A.wr (Xc [.str [],.bool false,jv 0,jv 0,jv 0,jv 0,jv 0,jv 0,.nils,.nils,.nils,jv 0] [] c) c λg c=>
 A.ws (Zb 12) g y c λ_ c=>A.r (Za 0) g c λz=>A.a z c λa0=>A.s (Zq true true (.bool false)) h a0 c λm=>A.r (Qb 0) m c λd0=>
 A.r (Qb 1) m c λa1=>A.r (Zp .not) a1 c λa2=>A.test a2 (A.r (Za 0) g c λa3=>A.a a3 c λa4=>A.r (Za 1) g c λa5=>A.a a5 c λa6=>
 A.wr (Xw true [h,a4,a6] c) c λ_ c=>l [] c) (l [] c)) (λd1 c=>A.b .add (h0 i) (jv 1) c λa7=>u [a7] c)) (A.wr (ZE [] c) c λn c=>A.r Qd x0 c λa8=>
 A.loop (λa9 j c=>A.b .lss (h0 j) a8 c λb0=>A.test b0 (A.s (Qa 12) x0 (h0 j) c λe=>A.r Xa e c λb1=>A.r (Za 0) b1 c λb2=>
 A.a b2 c λb3=>A.s (Zq true false (.bool false)) n b3 c λb4=>A.test b4 (A.r Xa e c λb5=>A.r (Za 11) b5 c λb6=>A.a b6 c λb7=>
 A.rd (Xd [jv 0,jv 0] [(0,1),(1,1)] [jv 101,b7] c) λb8=>A.ws (Zb 2) d b8 c λ_ c=>A.opt (cellV true 2 d c) λr40=>f r40 c) (A.k 221 [e,h] c λb9 c=>
 A.r (Zp .not) b9 c λc0=>A.test c0 (A.r Xa e c λc1=>A.r (Za 11) c1 c λc2=>A.a c2 c λc3=>A.rd (Xd [jv 0,jv 0] [(0,1),(1,1)] [jv 130,c3] c) λc4=>
 A.ws (Zb 2) d c4 c λ_ c=>A.opt (cellV true 2 d c) λr47=>f r47 c) (A.r Xa e c λc5=>A.r (Za 0) c5 c λc6=>A.a c6 c λc7=>A.wr (Xw true [n,c7,.bool true] c) c λ_ c=>
 A.b .add (h0 j) (jv 1) c λc8=>a9 [c8] c))) (A.rd (Xd [jv 0,jv 0] [] [] c) λc9=>A.ws (Zb 2) d c9 c λ_ c=>A.opt (cellV true 2 d c) λr53=>
 f r53 c)) [jv 0] c)) [jv 0] c)
 |_=>A.stop
theorem g180_ok:GQ 180 1 g180:=gq1 [none,none,some [18],none,some [],none,none,some [40],none,none,none,none,none] λ_ _ _ _ _=>by kernel_rfl
def g181:GFun:=λA xs b d=>match xs with
 |[x0]=>
 A.wr (Xc [jv 0,jv 0] [] b) b λc b=>A.r (Za 0) x0 b λe=>A.a e b λf=>A.k 182 [f] b λg b=>A.ws (Zb 2) c g b λ_ b=>A.opt (cellV true 2 c b) λr4=>
 d r4 b
 |_=>A.stop
theorem g181_ok:GQ 181 1 g181:=gq1 [] λ_ _ _ _ _=>by kernel_rfl
def g182:GFun:=λA xs d l=>match xs with
 |[x0]=>
 A.wr (Xc [jv 0,jv 0] [] d) d λh d=>A.rd (Xd [.int .i8 0] [(0,1)] [.int .i8 0] d) λm=>A.wr (Xc [.int .i8 0] [] d) d λi d=>
 A.ws (Zb 1) i m d λ_ d=>A.r Qd x0 d λn=>A.loop (λo j d=>A.b .lss (h0 j) n d λp=>A.test p (A.s (Qa 12) x0 (h0 j) d λq=>A.r (Zc true 12) q d λt=>
 A.wr (Xc [.str [],.bool false,jv 0,jv 0,jv 0,jv 0,jv 0,jv 0,.nils,.nils,.nils,jv 0] [] d) d λg d=>A.ws (Zb 12) g t d λ_ d=>
 A.r (Zc true 1) i d λu=>A.r (Za 8) g d λv=>A.a v d λw=>A.k 222 [u,w] d λy d=>A.r (Zp .not) y d λe=>A.fr e (Zc true 1) i d λz=>
 A.fr e (Za 9) g d λa0=>A.fa e a0 d λa1=>A.gw e false (λk=>A.k 222 [z,a1] d k) d λa2 d=>A.fr e (Zp .not) a2 d λa3=>A.c e (.bool true) a3 d λf=>
 A.fr f (Zc true 1) i d λa4=>A.fr f (Za 10) g d λa5=>A.fa f a5 d λa6=>A.gw f false (λk=>A.k 222 [a4,a6] d k) d λa7 d=>A.fr f (Zp .not) a7 d λa8=>
 A.c f (.bool true) a8 d λa9=>A.test a9 (A.r (Za 11) g d λb0=>A.a b0 d λb1=>A.rd (Xd [jv 0,jv 0] [(0,1),(1,1)] [jv 140,b1] d) λb2=>
 A.ws (Zb 2) h b2 d λ_ d=>A.opt (cellV true 2 h d) λr30=>l r30 d) (A.b .add (h0 j) (jv 1) d λb3=>o [b3] d)) (A.rd (Xd [jv 0,jv 0] [] [] d) λb4=>
 A.ws (Zb 2) h b4 d λ_ d=>A.opt (cellV true 2 h d) λr33=>l r33 d)) [jv 0] d
 |_=>A.stop
theorem g182_ok:GQ 182 1 g182:=gq1 [none,some [9],none,none,none] λ_ _ _ _ _=>by kernel_rfl
def g183:GFun:=λA xs a c=>match xs with
 |[x0]=>
 A.wr (Xc [jv 0,jv 0] [] a) a λb a=>A.r (Zc true 2) x0 a λd=>A.k 184 [d] a λe a=>A.ws (Zb 2) b e a λ_ a=>A.opt (cellV true 2 b a) λr3=>
 c r3 a
 |_=>A.stop
theorem g183_ok:GQ 183 1 g183:=gq1 [] λ_ _ _ _ _=>by kernel_rfl
def g184:GFun:=λA xs d v=>match xs with
 |[x0]=>
 A.w1 Zm x0 d λw d=>A.wr (Xc [jv 0,jv 0] [] d) d λl d=>A.wr (ZE [] d) d λy d=>A.r (Za 1) w d λt3=>A.a t3 d λz=>A.r Qd z d λt5=>
 A.loop (λa3 m d=>A.b .lss (h0 m) t5 d λt8=>A.test t8 (A.s (Qa 7) z (h0 m) d λt9=>A.r (Zc true 7) t9 d λa4=>A.wr (Xc [.str [],jv 0,jv 0,jv 0,.nils,.nils,jv 0] [] d) d λe d=>
 A.ws (Zb 7) e a4 d λ_ d=>A.b .lss (h0 m) (jv 240) d λn=>A.tr n (Za 0) e d λa5=>A.ta n a5 d λa6=>A.gw n true (λk=>A.k 223 [a6] d k) d λa7 d=>
 A.c n a7 (.bool false) d λf=>A.tr f Yg y d λa8=>A.tr f (Za 0) e d λa9=>A.ta f a9 d λb0=>A.ts f (Zq true false (.bool false)) a8 b0 d λb1=>
 A.tr f (Zp .not) b1 d λb2=>A.c f b2 (.bool false) d λo=>A.tr o (Za 1) e d λb3=>A.ta o b3 d λb4=>A.tb o .geq b4 (jv 0) d λb5=>A.c o b5 (.bool false) d λg=>
 A.tr g (Za 1) e d λb6=>A.ta g b6 d λb7=>A.tr g (Za 2) e d λb8=>A.ta g b8 d λb9=>A.tb g .leq b7 b9 d λc0=>A.c g c0 (.bool false) d λp=>
 A.tr p (Za 2) e d λc1=>A.ta p c1 d λc2=>A.tb p .leq c2 (jv 60) d λc3=>A.c p c3 (.bool false) d λq=>A.tr q (Za 3) e d λc4=>
 A.ta q c4 d λc5=>A.tb q .geq c5 (jv 0) d λc6=>A.c q c6 (.bool false) d λt=>A.tr t (Za 3) e d λc7=>A.ta t c7 d λc8=>A.tb t .leq c8 (jv 999) d λc9=>
 A.c t c9 (.bool false) d λd0=>A.r (Za 4) e d λd1=>A.a d1 d λd2=>A.r (Za 5) e d λd3=>A.a d3 d λd4=>A.rd (Xd [.nils,.nils] [(0,1),(1,1)] [d2,d4] d) λd5=>
 A.loop (λd6 i d=>A.b .lss (h0 i) (jv 2) d λd7=>A.test d7 (A.s (Y8 false 2 1) d5 (h0 i) d λa0=>A.wr (ZE [] d) d λa1 d=>A.r Qd a0 d λd8=>
 A.loop (λd9 h d=>A.b .lss (h0 h) d8 d λe0=>A.test e0 (A.s (Qa 1) a0 (h0 h) d λe1=>A.a e1 d λu=>A.r (Zc true 2) w d λe2=>A.k 224 [e2,u] d λa2 d=>
 A.r (Qb 0) a2 d λg0=>A.r (Qb 1) a2 d λe3=>A.gr (h1 h) true (λk=>A.rd (Yg [e3] d) k) λe4=>A.c (h1 h) e4 (.bool false) d λj=>
 A.tr j Yg a1 d λe5=>A.tr j Yg u d λe6=>A.ts j (Zq true false (.bool false)) e5 e6 d λe7=>A.tr j (Zp .not) e7 d λe8=>A.c j e8 (.bool false) d λe9=>
 A.wr (Xw true [a1,u,.bool true] d) d λ_ d=>A.b .add (h0 h) (jv 1) d λf0=>d9 [f0,e9] d) (A.b .add (h0 i) (jv 1) d λf1=>d6 [f1,(h1 h)] d)) [jv 0,(h1 i)] d) (
 A.r (Zp .not) (h1 i) d λf2=>A.test f2 (A.r (Za 6) e d λf3=>A.a f3 d λf4=>A.rd (Xd [jv 0,jv 0] [(0,1),(1,1)] [jv 151,f4] d) λf5=>
 A.ws (Zb 2) l f5 d λ_ d=>A.opt (cellV true 2 l d) λr78=>v r78 d) (A.r (Za 0) e d λf6=>A.a f6 d λf7=>A.wr (Xw true [y,f7,.bool true] d) d λ_ d=>
 A.b .add (h0 m) (jv 1) d λf8=>a3 [f8] d))) [jv 0,d0] d) (A.rd (Xd [jv 0,jv 0] [] [] d) λf9=>A.ws (Zb 2) l f9 d λ_ d=>A.opt (cellV true 2 l d) λr83=>
 v r83 d)) [jv 0] d
 |_=>A.stop
theorem g184_ok:GQ 184 1 g184:=gq1 [none,some [18],none,none,none,some [69,6],none,none,none,some [75,6],none,none,none] λ_ _ _ _ _=>by kernel_rfl
def g185:GFun:=λA xs a c=>match xs with
 |[x0,x1]=>
 A.k 120 [x0,x1] a λd a=>A.b .geq d (jv 0) a λe=>c e a
 |_=>A.stop
theorem g185_ok:GQ 185 2 g185:=gq2 [] λ_ _ _ _ _ _=>by kernel_rfl
def g186:GFun:=λA xs a e=>match xs with
 |[x0,x1]=>
 A.b .lss x0 (jv 0) a λd=>A.fr d Yg x0 a λf=>A.fa d x1 a λg=>A.fr d Xa g a λh=>A.fr d (Za 0) h a λi=>A.fa d i a λj=>A.fr d Qd j a λl=>
 A.fb d .geq f l a λm=>A.c d (.bool true) m a λn=>e n a
 |_=>A.stop
theorem g186_ok:GQ 186 2 g186:=gq2 [] λ_ _ _ _ _ _=>by kernel_rfl
def g187:GFun:=λA xs a e=>match xs with
 |[x0]=>
 A.b .geq x0 (jv 0) a λd=>A.tr d Yg x0 a λf=>A.tb d .leq f (jv 999) a λg=>A.c d g (.bool false) a λh=>e h a
 |_=>A.stop
theorem g187_ok:GQ 187 1 g187:=gq1 [] λ_ _ _ _ _=>by kernel_rfl
def g188:GFun:=λA xs d f=>match xs with
 |[x0,x1,x2]=>
 A.r Qd x1 d λt0=>A.b .gtr t0 (jv 16) d λt1=>A.fr t1 Yg x2 d λt2=>A.fb t1 .gtr t2 (jv 8) d λt3=>A.c t1 (.bool true) t3 d λt4=>A.test t4 (
 f (.bool false) d) (A.loop (λa5 v6 d=>A.r Qd x1 d λt7=>A.b .lss (h0 v6) t7 d λt8=>A.test t8 (joinK (λk9=>A.s (Qa 14) x1 (h0 v6) d λa6=>
 A.r (Zc true 14) a6 d λa7=>A.wr (Xc [.int .i8 0,.int .i8 0,.int .i8 0,jv 0,.int .i8 0,.nils,.str [],.int .i8 0,.int .i8 0,.str [],.nils,.nils,.nils,.nils] [] d) d λe d=>
 A.ws (Zb 14) e a7 d λ_ d=>A.r (Za 0) e d λa8=>A.a a8 d λa9=>A.b .lss a9 (.int .i8 0) d λw=>A.fr w (Za 0) e d λb0=>A.fa w b0 d λb1=>
 A.fb w .gtr b1 (.int .i8 8) d λb2=>A.c w (.bool true) b2 d λb3=>A.test b3 (f (.bool false) d) (A.r (Za 0) e d λb4=>A.a b4 d λb5=>A.b .eql b5 (.int .i8 8) d λb6=>
 A.test b6 (A.r (Za 1) e d λb7=>A.a b7 d λb8=>A.b .neq b8 (.int .i8 0) d λp=>A.fr p (Za 2) e d λb9=>A.fr p (Zc true 4) b9 d λc0=>
 A.gw p false (λk=>A.k 225 [c0] d k) d λc1 d=>A.fr p (Zp .not) c1 d λc2=>A.c p (.bool true) c2 d λy=>A.fr y (Za 6) e d λc3=>A.fa y c3 d λc4=>
 A.gof y (Yh .neq false [c4,.str []] d) λc5=>A.c y (.bool true) c5 d λj=>A.fr j Yg x0 d λc6=>A.fr j (Za 7) e d λc7=>A.fr j (Zc true 5) c7 d λc8=>
 A.gw j false (λk=>A.k 226 [c6,c8] d k) d λc9 d=>A.fr j (Zp .not) c9 d λd0=>A.c j (.bool true) d0 d λg=>A.fr g Yg x0 d λd1=>A.fr g (Za 12) e d λd2=>
 A.fa g d2 d λd3=>A.fr g Yg x2 d λd4=>A.fb g .add d4 (jv 1) d λd5=>A.gw g false (λk=>A.k 188 [d1,d3,d5] d k) d λd6 d=>A.fr g (Zp .not) d6 d λd7=>
 A.c g (.bool true) d7 d λh=>A.fr h Yg x0 d λd8=>A.fr h (Za 13) e d λd9=>A.fa h d9 d λe0=>A.fr h Yg x2 d λe1=>A.fb h .add e1 (jv 1) d λe2=>
 A.gw h false (λk=>A.k 188 [d8,e0,e2] d k) d λe3 d=>A.fr h (Zp .not) e3 d λe4=>A.c h (.bool true) e4 d λe5=>A.test e5 (f (.bool false) d) (k9 [] d)) (
 A.r (Za 7) e d λe6=>A.r (Zc true 5) e6 d λe7=>A.k 227 [e7] d λe8 d=>A.r (Zp .not) e8 d λq=>A.fr q (Za 12) e d λe9=>A.fa q e9 d λf0=>
 A.fr q Qd f0 d λf1=>A.fb q .gtr f1 (jv 0) d λf2=>A.c q (.bool true) f2 d λt=>A.fr t (Za 13) e d λf3=>A.fa t f3 d λf4=>A.fr t Qd f4 d λf5=>
 A.fb t .gtr f5 (jv 0) d λf6=>A.c t (.bool true) f6 d λf7=>A.test f7 (f (.bool false) d) (A.r (Za 0) e d λf8=>A.a f8 d λf9=>A.k 130 [f9] d λl d=>
 A.tr l Yg x0 d λg0=>A.tr l (Za 2) e d λg1=>A.tr l (Zc true 4) g1 d λg2=>A.gw l true (λk=>A.k 77 [g0,g2] d k) d λg3 d=>A.tr l (Zp .not) g3 d λg4=>
 A.c l g4 (.bool false) d λi=>A.fr i (Za 0) e d λg5=>A.fa i g5 d λg6=>A.gw i false (λk=>A.k 130 [g6] d k) d λg7 d=>A.fr i (Zp .not) g7 d λg8=>
 A.fr i Yg g8 d λu=>A.tr u (Za 2) e d λg9=>A.tr u (Zc true 4) g9 d λi0=>A.gw u true (λk=>A.k 225 [i0] d k) d λi1 d=>A.tr u (Zp .not) i1 d λi2=>
 A.fc i u i2 (.bool false) d λi3=>A.c i (.bool true) i3 d λi4=>A.test i4 (f (.bool false) d) (A.r (Za 0) e d λi5=>A.a i5 d λi6=>A.b .eql i6 (.int .i8 7) d λm=>
 A.tr m Yg x0 d λi7=>A.tr m (Za 6) e d λi9=>A.ta m i9 d λj0=>A.gw m true (λk=>A.k 228 [i7,j0,.bool true] d k) d λj1 d=>A.tr m (Zp .not) j1 d λj2=>
 A.c m j2 (.bool false) d λn=>A.fr n (Za 0) e d λj3=>A.fa n j3 d λj4=>A.fb n .neq j4 (.int .i8 7) d λj5=>A.fr n Yg j5 d λz=>A.tr z (Za 6) e d λj6=>
 A.ta z j6 d λj7=>A.got z (Yh .neq false [j7,.str []] d) λj8=>A.fc n z j8 (.bool false) d λj9=>A.c n (.bool true) j9 d λl0=>A.test l0 (f (.bool false) d) (
 A.r (Za 1) e d λl1=>A.a l1 d λl2=>A.b .eql l2 (.int .i8 0) d λl3=>A.r (Za 0) e d λl4=>A.a l4 d λl5=>A.b .eql l5 (.int .i8 0) d λa0=>
 A.fr a0 (Za 0) e d λl6=>A.fa a0 l6 d λl7=>A.fb a0 .eql l7 (.int .i8 1) d λl8=>A.c a0 (.bool true) l8 d λl9=>joinK (λa3=>A.test l9 (
 A.r (Za 1) e d λm0=>A.a m0 d λm1=>A.k 121 [m1] d λo d=>A.fr o (Za 1) e d λm2=>A.fa o m2 d λm3=>A.fb o .eql m3 (.int .i8 2) d λm4=>
 A.fr o Yg m4 d λv=>A.tr v Yg x0 d λm5=>A.tr v Xa m5 d λm6=>A.tr v (Za 1) m6 d λm7=>A.ta v m7 d λm8=>A.fc o v m8 (.bool false) d λm9=>
 A.c o (.bool true) m9 d λn0=>a3 [n0] d) (a3 [l3] d)) (λn1 d=>A.r (Za 0) e d λn2=>A.a n2 d λn3=>A.b .eql n3 (.int .i8 2) d λa1=>A.fr a1 (Za 0) e d λn4=>
 A.fa a1 n4 d λn5=>A.fb a1 .eql n5 (.int .i8 4) d λn6=>A.c a1 (.bool true) n6 d λa2=>A.fr a2 (Za 0) e d λn7=>A.fa a2 n7 d λn8=>A.fb a2 .eql n8 (.int .i8 6) d λn9=>
 A.c a2 (.bool true) n9 d λo0=>joinK (λa4=>A.test o0 (A.r (Za 1) e d λo1=>A.a o1 d λo2=>A.k 121 [o2] d λo3 d=>a4 [o3] d) (a4 [(h0 n1)] d)) (λo4 d=>
 A.r (Zp .not) (h0 o4) d λo5=>A.test o5 (f (.bool false) d) (k9 [] d))))))))) (λo7 d=>A.b .add (h0 v6) (jv 1) d λo6=>a5 [o6] d)) (f (.bool true) d)) [jv 0] d)
 |_=>A.stop
theorem g188_ok:GQ 188 3 g188:=gq3 [none,none,some [7],none,some [],none,none,none,none,none,none,some [9],some [9],none] λ_ _ _ _ _ _ _=>by kernel_rfl
def g189:GFun:=λA xs a c=>match xs with
 |[x0,x1]=>
 A.k 190 [x0,x1] a λd a=>A.k 190 [x1,x1] a λe a=>A.b .eql d e a λf=>c f a
 |_=>A.stop
theorem g189_ok:GQ 189 2 g189:=gq2 [] λ_ _ _ _ _ _=>by kernel_rfl
def g190:GFun:=λA xs a d=>match xs with
 |[x0,x1]=>
 A.b .lss x0 (.int .i8 0) a λe=>A.fr e Yg x0 a λm=>A.fb e .gtr m (.int .i8 3) a λn=>A.c e (.bool true) n a λo=>joinK (λj=>A.test o (j [.int .i8 3] a) (
 j [x0] a)) (λf a=>A.b .lss x1 (.int .i8 0) a λg=>A.fr g Yg x1 a λp=>A.fb g .gtr p (.int .i8 3) a λq=>A.c g (.bool true) q a λr=>joinK (λl=>
 A.test r (l [.int .i8 3] a) (l [x1] a)) (λh a=>A.b .eql (h0 f) (h0 h) a λi=>A.fr i Yg (h0 h) a λs=>A.fb i .eql s (.int .i8 0) a λt=>A.c i (.bool true) t a λu=>
 A.test u (d (h0 f) a) (A.b .eql (h0 f) (.int .i8 0) a λv=>A.test v (d (h0 h) a) (d (.int .i8 3) a))))
 |_=>A.stop
theorem g190_ok:GQ 190 2 g190:=gq2 [some [0],some [1],none,none,none] λ_ _ _ _ _ _=>by kernel_rfl
def g191:GFun:=λA xs d h=>match xs with
 |[x0]=>
 A.w1 Zm x0 d λe d=>A.r (Za 0) e d λl=>A.a l d λm=>A.b .eql m (.int .i8 6) d λn=>joinK (λi=>A.test n (i [.int .i8 3] d) (i [.int .i8 0] d)) (λj d=>
 A.r (Za 0) e d λo=>A.a o d λp=>A.b .geq p (.int .i8 8) d λg=>A.tr g (Za 0) e d λq=>A.ta g q d λt=>A.tb g .leq t (.int .i8 12) d λu=>
 A.c g u (.bool false) d λv=>A.test v (A.loop (λw f d=>A.r (Za 3) e d λy=>A.a y d λz=>A.r Qd z d λa0=>A.b .lss (h0 f) a0 d λa1=>
 A.test a1 (A.r (Za 3) e d λa2=>A.a a2 d λa3=>A.s (Qa 4) a3 (h0 f) d λa4=>A.r (Zc true 4) a4 d λa5=>A.k 191 [a5] d λa6 d=>
 A.k 190 [(h1 f),a6] d λa7 d=>A.b .add (h0 f) (jv 1) d λa8=>w [a8,a7] d) (h (h1 f) d)) [jv 0,(h0 j)] d) (h (h0 j) d))
 |_=>A.stop
theorem g191_ok:GQ 191 1 g191:=gq1 [some [3],none,none,some [4,3],none,none] λ_ _ _ _ _=>by kernel_rfl
def g192:GFun:=λA xs c g=>match xs with
 |[x0]=>
 A.w1 Zm x0 c λd c=>A.r (Za 0) d c λi=>A.a i c λj=>A.b .eql j (.int .i8 6) c λl=>A.test l (A.r (Za 1) d c λm=>A.a m c λh=>
 A.b .eql h (.int .i8 0) c λn=>A.test n (g (.int .i8 1) c) (A.b .eql h (.int .i8 1) c λo=>A.test o (g (.int .i8 2) c) (g (.int .i8 3) c))) (A.loop (λp e c=>
 A.r (Za 3) d c λq=>A.a q c λt=>A.r Qd t c λu=>A.b .lss (h0 e) u c λv=>A.test v (A.r (Za 3) d c λw=>A.a w c λy=>A.s (Qa 4) y (h0 e) c λz=>
 A.r (Zc true 4) z c λa0=>A.k 191 [a0] c λa1 c=>A.k 190 [(h1 e),a1] c λa2 c=>A.b .add (h0 e) (jv 1) c λa3=>p [a3,a2] c) (A.loop (λa4 f c=>
 A.r (Za 4) d c λa5=>A.a a5 c λa6=>A.r Qd a6 c λa7=>A.b .lss (h0 f) a7 c λa8=>A.test a8 (A.r (Za 4) d c λa9=>A.a a9 c λb0=>
 A.s (Qa 5) b0 (h0 f) c λb1=>A.r (Zc true 5) b1 c λb2=>A.k 192 [b2] c λb3 c=>A.k 190 [(h1 f),b3] c λb4 c=>A.b .add (h0 f) (jv 1) c λb5=>
 a4 [b5,b4] c) (g (h1 f) c)) [jv 0,(h1 e)] c)) [jv 0,.int .i8 0] c)
 |_=>A.stop
theorem g192_ok:GQ 192 1 g192:=gq1 [none,none,none,none,none,some [4,3],none,none,none,some [5,3],none,none] λ_ _ _ _ _=>by kernel_rfl
def g193:GFun:=λA xs a o=>match xs with
 |[x0,x1]=>
 joinK (λj=>A.loop (λp d a=>A.r Xr x0 a λq=>A.b .lss (h0 d) q a λs=>A.test s (A.k 196 [x0,(h0 d)] a λl a=>A.r (Qb 0) l a λh=>
 A.r (Qb 1) l a λm=>A.b .eql m (jv 0) a λe=>A.fr e Yg h a λt=>A.gw e false (λk=>A.k 197 [t] a k) a λu a=>A.fr e (Zp .not) u a λv=>
 A.fr e Yg v a λg=>A.tr g Yg (h1 d) a λw=>A.tb g .eql w (jv 0) a λy=>A.tr g Yg y a λf=>A.fr f Yg h a λz=>A.gw f false (λk=>A.k 198 [z] a k) a λa0 a=>
 A.fr f (Zp .not) a0 a λa1=>A.fr f Yg a1 a λi=>A.tr i Yg h a λa2=>A.tb i .neq a2 (jv 39) a λa3=>A.fc f i a3 (.bool false) a λa4=>A.tc g f (.bool true) a4 a λa5=>
 A.fc e g a5 (.bool false) a λa6=>A.c e (.bool true) a6 a λa7=>A.test a7 (j [(h0 d),(h1 d)] a) (A.b .add (h0 d) m a λa8=>A.b .add (h1 d) (jv 1) a λa9=>
 p [a8,a9] a)) (j [(h0 d),(h1 d)] a)) [x1,jv 0] a) (λn a=>o (.tup [(h0 n),(h1 n)]) a)
 |_=>A.stop
theorem g193_ok:GQ 193 2 g193:=gq2 [some [1,6],some [1,6],none,none,none] λ_ _ _ _ _ _=>by kernel_rfl
def g194:GFun:=λA xs c e=>match xs with
 |[x0]=>
 A.k 229 [] c λf c=>A.loop (λg d c=>A.r Qd f c λh=>A.b .lss (h0 d) h c λi=>A.test i (A.s (Qa 1) f (h0 d) c λj=>A.a j c λl=>A.b .eql l x0 c λm=>
 A.test m (e (.bool true) c) (A.b .add (h0 d) (jv 1) c λn=>g [n] c)) (e (.bool false) c)) [jv 0] c
 |_=>A.stop
theorem g194_ok:GQ 194 1 g194:=gq1 [none,some [4],none,none,none] λ_ _ _ _ _=>by kernel_rfl
def g195:GFun:=λA xs c e=>match xs with
 |[x0,x1]=>
 A.w1 Zm x0 c λf c=>A.loop (λg d c=>A.r (Za 0) f c λh=>A.a h c λi=>A.r Qd i c λj=>A.b .lss (h0 d) j c λl=>A.test l (A.r (Za 0) f c λm=>
 A.a m c λn=>A.s (Qa 12) n (h0 d) c λo=>A.r (Za 0) o c λp=>A.a p c λq=>A.b .eql q x1 c λt=>A.test t (e (.tup [(h0 d),.bool true]) c) (
 A.b .add (h0 d) (jv 1) c λu=>g [u] c)) (e (.tup [jv 0,.bool false]) c)) [jv 0] c
 |_=>A.stop
theorem g195_ok:GQ 195 2 g195:=gq2 [none,some [6],none,none,none] λ_ _ _ _ _ _=>by kernel_rfl
def g196:GFun:=λA xs a h=>match xs with
 |[x0,x1]=>
 A.s Yy x0 x1 a λq=>A.r (ZH .i64) q a λd=>A.b .geq d (jv 192) a λl=>A.tr l Yg d a λt=>A.tb l .lss t (jv 224) a λu=>A.c l u (.bool false) a λv=>
 joinK (λi=>A.test v (A.b .and d (jv 31) a λw=>i [jv 2,w,jv 128] a) (A.b .geq d (jv 224) a λm=>A.tr m Yg d a λy=>A.tb m .lss y (jv 240) a λz=>
 A.c m z (.bool false) a λa0=>A.test a0 (A.b .and d (jv 15) a λa1=>i [jv 3,a1,jv 2048] a) (A.b .geq d (jv 240) a λn=>A.tr n Yg d a λa2=>A.tb n .lss a2 (jv 248) a λa3=>
 A.c n a3 (.bool false) a λa4=>A.test a4 (A.b .and d (jv 7) a λa5=>i [jv 4,a5,jv 65536] a) (A.b .geq d (jv 128) a λa6=>A.test a6 (h (.tup [jv 0,jv 0]) a) (
 i [jv 1,d,jv 0] a))))) (λj a=>A.loop (λa7 e a=>A.b .lss (h0 e) (h0 j) a λa8=>A.test a8 (A.b .add x1 (h0 e) a λa9=>A.r Xr x0 a λb0=>
 A.b .geq a9 b0 a λf=>A.fr f Yg x0 a λb1=>A.fr f Yg x1 a λb2=>A.fr f Yg (h0 e) a λb3=>A.fb f .add b2 b3 a λb4=>A.fs f Yy b1 b4 a λb5=>
 A.fb f .and b5 (.int .u8 192) a λb6=>A.fb f .neq b6 (.int .u8 128) a λb7=>A.c f (.bool true) b7 a λb8=>A.test b8 (h (.tup [jv 0,jv 0]) a) (A.b .shl (h1 e) (.int .u64 6) a λb9=>
 A.b .add x1 (h0 e) a λc0=>A.s Yy x0 c0 a λc1=>A.b .and c1 (.int .u8 63) a λc2=>A.r (ZH .i64) c2 a λc3=>A.b .or b9 c3 a λc4=>A.b .add (h0 e) (jv 1) a λc5=>
 a7 [c5,c4] a)) (A.b .lss (h1 e) (h2 j) a λo=>A.fr o Yg (h1 e) a λc6=>A.fb o .gtr c6 (jv 1114111) a λc7=>A.c o (.bool true) c7 a λg=>A.fr g Yg (h1 e) a λc8=>
 A.fb g .geq c8 (jv 55296) a λc9=>A.fr g Yg c9 a λp=>A.tr p Yg (h1 e) a λd0=>A.tb p .leq d0 (jv 57343) a λd1=>A.fc g p d1 (.bool false) a λd2=>
 A.c g (.bool true) d2 a λd3=>A.test d3 (h (.tup [jv 0,jv 0]) a) (h (.tup [(h1 e),(h0 j)]) a))) [jv 1,(h1 j)] a)
 |_=>A.stop
theorem g196_ok:GQ 196 2 g196:=gq2 [some [7,8,9],none,none,none,none,some [10,8],none,none,none,none] λ_ _ _ _ _ _=>by kernel_rfl
def g197:GFun:=λA xs a l=>match xs with
 |[x0]=>
 A.b .geq x0 (jv 97) a λf=>A.tr f Yg x0 a λm=>A.tb f .leq m (jv 122) a λn=>A.c f n (.bool false) a λe=>A.fr e Yg x0 a λo=>A.fb e .geq o (jv 65) a λp=>
 A.fr e Yg p a λg=>A.tr g Yg x0 a λq=>A.tb g .leq q (jv 90) a λr=>A.fc e g r (.bool false) a λs=>A.c e (.bool true) s a λd=>A.fr d Yg x0 a λt=>
 A.fb d .geq t (jv 192) a λu=>A.fr d Yg u a λh=>A.tr h Yg x0 a λv=>A.tb h .leq v (jv 591) a λw=>A.fc d h w (.bool false) a λy=>A.fr d Yg y a λi=>
 A.tr i Yg x0 a λz=>A.tb i .neq z (jv 215) a λa0=>A.fc d i a0 (.bool false) a λa1=>A.fr d Yg a1 a λj=>A.tr j Yg x0 a λa2=>A.tb j .neq a2 (jv 247) a λa3=>
 A.fc d j a3 (.bool false) a λa4=>A.c d (.bool true) a4 a λa5=>l a5 a
 |_=>A.stop
theorem g197_ok:GQ 197 1 g197:=gq1 [] λ_ _ _ _ _=>by kernel_rfl
def g198:GFun:=λA xs a e=>match xs with
 |[x0]=>
 A.b .geq x0 (jv 48) a λd=>A.tr d Yg x0 a λf=>A.tb d .leq f (jv 57) a λg=>A.c d g (.bool false) a λh=>e h a
 |_=>A.stop
theorem g198_ok:GQ 198 1 g198:=gq1 [] λ_ _ _ _ _=>by kernel_rfl
def g199:GFun:=λA xs a b=>match xs with
 |[]=>
 A.wr (Zh 1 13 [.str [],.str [],.str [],.str [],.str [],.str [],.str [],.str [],.str [],.str [],.str [],.str [],.str []] [(0,1),(1,1),(2,1),(3,1),(4,1),(5,1),(6,1),(7,1),(8,1),(9,1),(10,1),(11,1),(12,1)] [(.str [60,61]),(.str [61,61]),(.str [123]),(.str [125]),(.str [40]),(.str [41]),(.str [47]),(.str [44]),(.str [59]),(.str [43]),(.str [45]),(.str [42]),(.str [60])] a) a λc a=>
 b c a
 |_=>A.stop
theorem g199_ok:GQ 199 0 g199:=gq0 [] λ_ _ _ _=>by kernel_rfl
def g200:GFun:=λA xs d h=>match xs with
 |[x0]=>
 A.pu (Xa [x0] d) λi=>A.pu (Za 0 [i] d) λj=>A.dr (Yd [j] d) d λl m d=>A.pu (Xa [x0] d) λn=>A.pu (Za 1 [n] d) λo=>
 A.dr (Yd [o] d) d λp q d=>A.dr (Qa 4 [l,p] d) d λs t d=>A.dr (Zc true 4 [s] d) d λu v d=>A.dr (Xc [.int .i8 0,.str [],jv 0,jv 0] [] d) d λe w d=>
 A.dr (Zb 4 [e,u] d) d λ_ y d=>A.gd (Qe [[],[0],[0,1],[0,1,2],[],[4],[4,5],[4,5,6],[0,1,2,3,4,5,6,7],[0,1,2,3,4,5,6,7,8],[],[0,1,2,3,4,5,6,7,8,9,10]] [([],[]),([],[]),([],[]),m,([],[]),([],[]),([],[]),q,t,v,w,y]) <|
 A.k 150 [x0] d λz d=>A.r (Zp .not) z d λf=>A.fr f (Za 0) e d λa0=>A.fa f a0 d λa1=>A.fb f .neq a1 (.int .i8 1) d λa2=>A.c f (.bool true) a2 d λg=>
 A.fr g (Za 1) e d λa3=>A.fa g a3 d λa4=>A.gw g false (λk=>A.k 194 [a4] d k) d λa5 d=>A.c g (.bool true) a5 d λa6=>A.test a6 (A.k 152 [x0,jv 120] d λb5 d=>
 h (.str []) d) (A.r Xa x0 d λa7=>A.r (Za 1) a7 d λa8=>A.a a8 d λa9=>A.b .add a9 (jv 1) d λb0=>A.r Xa x0 d λb1=>A.r (Za 1) b1 d λb2=>
 A.ws (Zb 1) b2 b0 d λ_ d=>A.r (Za 1) e d λb3=>A.a b3 d λb4=>h b4 d)
 |_=>A.stop
theorem g200_ok:GQ 200 1 g200:=gq1 [none] λ_ _ _ _ _=>by kernel_rfl
def g201:GFun:=λA xs c d=>match xs with
 |[x0,x1]=>
 A.k 151 [x0,x1] c λe c=>A.r (Zp .not) e c λf=>A.test f (d (.bool false) c) (A.r Xa x0 c λg=>A.r (Za 1) g c λh=>A.a h c λi=>
 A.b .add i (jv 1) c λj=>A.r Xa x0 c λl=>A.r (Za 1) l c λm=>A.ws (Zb 1) m j c λ_ c=>d (.bool true) c)
 |_=>A.stop
theorem g201_ok:GQ 201 2 g201:=gq2 [none] λ_ _ _ _ _ _=>by kernel_rfl
def g202:GFun:=λA xs d g=>match xs with
 |[x0]=>
 A.pu (Xa [x0] d) λh=>A.pu (Za 0 [h] d) λi=>A.dr (Yd [i] d) d λj l d=>A.pu (Xa [x0] d) λm=>A.pu (Za 1 [m] d) λn=>
 A.dr (Yd [n] d) d λo p d=>A.dr (Qa 4 [j,o] d) d λq s d=>A.dr (Zc true 4 [q] d) d λt u d=>A.dr (Xc [.int .i8 0,.str [],jv 0,jv 0] [] d) d λf v d=>
 A.dr (Zb 4 [f,t] d) d λ_ w d=>A.gd (Qe [[],[0],[0,1],[0,1,2],[],[4],[4,5],[4,5,6],[0,1,2,3,4,5,6,7],[0,1,2,3,4,5,6,7,8],[],[0,1,2,3,4,5,6,7,8,9,10]] [([],[]),([],[]),([],[]),l,([],[]),([],[]),([],[]),p,s,u,v,w]) <|
 A.k 150 [x0] d λy d=>A.r (Zp .not) y d λe=>A.fr e (Za 0) f d λz=>A.fa e z d λa0=>A.fb e .neq a0 (.int .i8 2) d λa1=>A.c e (.bool true) a1 d λa2=>
 A.test a2 (A.k 152 [x0,jv 120] d λb1 d=>g (jv 0) d) (A.r Xa x0 d λa3=>A.r (Za 1) a3 d λa4=>A.a a4 d λa5=>A.b .add a5 (jv 1) d λa6=>
 A.r Xa x0 d λa7=>A.r (Za 1) a7 d λa8=>A.ws (Zb 1) a8 a6 d λ_ d=>A.r (Za 2) f d λa9=>A.a a9 d λb0=>g b0 d)
 |_=>A.stop
theorem g202_ok:GQ 202 1 g202:=gq1 [none] λ_ _ _ _ _=>by kernel_rfl
def g203:GFun:=λA xs a b=>match xs with
 |[x0,x1]=>
 A.k 201 [x0,x1] a λc a=>A.r (Zp .not) c a λd=>A.test d (A.k 152 [x0,jv 120] a λe a=>b (.tup []) a) (b (.tup []) a)
 |_=>A.stop
theorem g203_ok:GQ 203 2 g203:=gq2 [none] λ_ _ _ _ _ _=>by kernel_rfl
def g204:GFun:=λA xs c f=>match xs with
 |[x0,x1,x2]=>
 A.loop (λg d c=>A.r Qd x1 c λh=>A.b .lss (h0 d) h c λi=>A.test i (joinK (λe=>A.s (Qa 1) x1 (h0 d) c λj=>A.a j c λl=>A.b .eql l x2 c λm=>
 A.test m (A.k 152 [x0,jv 101] c λq c=>e [] c) (e [] c)) (λt c=>A.b .add (h0 d) (jv 1) c λn=>g [n] c)) (A.wr (Zh 1 1 [.str []] [(0,1)] [x2] c) c λo c=>
 A.wr (Qg 1 16 [x1,o] c) c λp c=>f p c)) [jv 0] c
 |_=>A.stop
theorem g204_ok:GQ 204 3 g204:=gq3 [none,some [7],none,some [],none] λ_ _ _ _ _ _ _=>by kernel_rfl
def g205:GFun:=λA xs a f=>match xs with
 |[x0]=>
 A.k 203 [x0,(.str [123])] a λq a=>A.loop (λg d a=>A.k 150 [x0] a λb a=>A.tr b Yg x0 a λh=>A.gw b true (λk=>A.k 151 [h,(.str [125])] a k) a λi a=>
 A.tr b (Zp .not) i a λj=>A.c b j (.bool false) a λl=>A.test l (A.k 230 [x0] a λm a=>A.wr (Xc [.int .i8 0,.int .i8 0,.int .i8 0,jv 0,.int .i8 0,.nils,.str [],.int .i8 0,.int .i8 0,.str [],.nils,.nils,.nils,.nils] [] a) a λe a=>
 A.ws (Zb 14) e m a λ_ a=>A.r (Zc true 14) e a λn=>A.wr (Zh 14 1 [.int .i8 0,.int .i8 0,.int .i8 0,jv 0,.int .i8 0,.nils,.str [],.int .i8 0,.int .i8 0,.str [],.nils,.nils,.nils,.nils] [(0,14)] [n] a) a λo a=>
 A.wr (Qg 14 192 [(h0 d),o] a) a λp a=>g [p] a) (A.k 203 [x0,(.str [125])] a λs a=>f (h0 d) a)) [.nils] a
 |_=>A.stop
theorem g205_ok:GQ 205 1 g205:=gq1 [none,some [3],none,none] λ_ _ _ _ _=>by kernel_rfl
def g206:GFun:=λA xs c o=>match xs with
 |[x0]=>
 A.loop (λp f c=>A.r Qd x0 c λq=>A.b .lss (h0 f) q c λt=>A.test t (joinK (λh=>A.s (Qa 14) x0 (h0 f) c λu=>A.r (Zc true 14) u c λv=>
 A.wr (Xc [.int .i8 0,.int .i8 0,.int .i8 0,jv 0,.int .i8 0,.nils,.str [],.int .i8 0,.int .i8 0,.str [],.nils,.nils,.nils,.nils] [] c) c λd c=>
 A.ws (Zb 14) d v c λ_ c=>A.b .add (h1 f) (jv 1) c λi=>A.r (Za 0) d c λw=>A.a w c λe=>A.b .eql e (.int .i8 0) c λj=>joinK (λg=>
 A.test j (g [j] c) (A.b .eql e (.int .i8 1) c λl=>A.test l (g [l] c) (A.b .eql e (.int .i8 2) c λm=>A.test m (g [m] c) (A.b .eql e (.int .i8 3) c λn=>
 A.test n (g [n] c) (A.b .eql e (.int .i8 5) c λy=>g [y] c))))) (λz c=>A.test (h0 z) (A.r (Za 2) d c λa0=>A.r (Zc true 4) a0 c λa1=>
 A.k 231 [a1] c λa2 c=>A.b .add i a2 c λa3=>h [a3] c) (A.b .eql e (.int .i8 8) c λa4=>A.test a4 (A.pu (Za 7 [d] c) λa5=>A.dr (Zc true 5 [a5] c) c λa6 a7 c=>
 A.dcall (.call 232) [a6] c λa8 a9 c=>A.pu (Yh .add false [i,a8] c) λb0=>A.pu (Za 12 [d] c) λb1=>A.dr (Yd [b1] c) c λb2 b3 c=>A.dcall (.call 206) [b2] c λb4 b5 c=>
 A.pu (Yh .add false [b0,b4] c) λb6=>A.pu (Za 13 [d] c) λb7=>A.dr (Yd [b7] c) c λb8 b9 c=>A.dcall (.call 206) [b8] c λc0 c1 c=>
 A.pu (Yh .add false [b6,c0] c) λc2=>A.gd (Qe [[],[],[1],[1,2],[0,1,2,3],[],[5],[1,2,3,5,6],[0,1,2,3,4,5,6,7],[],[9],[1,2,3,5,6,7,9,10],[0,1,2,3,4,5,6,7,8,9,10,11],[0,1,2,3,4,5,6,7,8,9,10,11,12]] [([],[]),([],[]),a7,a9,([],[]),([],[]),b3,b5,([],[]),([],[]),b9,c1,([],[]),([],[])]) <|
 h [c2] c) (h [i] c)))) (λv5 c=>A.b .add (h0 f) (jv 1) c λc3=>p [c3,(h0 v5)] c)) (o (h1 f) c)) [jv 0,jv 0] c
 |_=>A.stop
theorem g206_ok:GQ 206 1 g206:=gq1 [none,some [4,3],none,some [3],none,some [20],none,none,none,none,none] λ_ _ _ _ _=>by kernel_rfl
def g207:GFun:=λA xs a c=>match xs with
 |[x0]=>
 A.k 200 [x0] a λd a=>A.wr (Zh 1 1 [.str []] [(0,1)] [d] a) a λe a=>A.loop (λf b a=>A.k 201 [x0,(.str [44])] a λg a=>A.test g (A.k 200 [x0] a λh a=>
 A.wr (Zh 1 1 [.str []] [(0,1)] [h] a) a λi a=>A.wr (Qg 1 16 [(h0 b),i] a) a λj a=>f [j] a) (c (h0 b) a)) [e] a
 |_=>A.stop
theorem g207_ok:GQ 207 1 g207:=gq1 [none,some [4],none,none] λ_ _ _ _ _=>by kernel_rfl
def g208:GFun:=λA xs c m=>match xs with
 |[x0,x1]=>
 A.call .callv [x1,x0] c λz c=>A.r (Zp .not) z c λt1=>A.test t1 (m (.bool false) c) (joinK (λe=>A.r (Q7 272 true (.agg [.nilp])) x0 c λp=>
 A.r (Qb 1) p c λt5=>A.r (Qb 0) p c λt6=>A.test t5 (A.wr (Xc [.nilp] [] c) c λd c=>A.ws (Zb 1) d t6 c λ_ c=>A.r (Za 0) d c λt8=>
 A.a t8 c λt9=>A.r Xa t9 c λa0=>A.r (Za 0) a0 c λa1=>A.a a1 c λa2=>A.k 210 [a2] c λa3 c=>joinK (λq=>A.test a3 (A.r (Za 0) d c λa4=>
 A.a a4 c λa5=>A.r Xa a5 c λa6=>A.r (Za 2) a6 c λa7=>A.rd (Xd [.nilp] [(0,1)] [a7] c) λa8=>A.r (Zz 290) a8 c λa9=>
 A.wr (Zh 1 1 [.nili] [(0,1)] [a9] c) c λb0 c=>A.wr (Qg 1 16 [.nils,b0] c) c λb1 c=>q [b1] c) (q [.nils] c)) (λt c=>A.r (Za 0) d c λb2=>
 A.a b2 c λb3=>A.r Xa b3 c λb4=>A.r (Za 0) b4 c λb5=>A.a b5 c λb6=>A.b .eql b6 (.int .i8 8) c λb7=>A.test b7 (A.r (Za 0) d c λb8=>
 A.a b8 c λb9=>A.r Xa b9 c λc0=>A.r (Za 7) c0 c λc1=>A.rd (Xd [.nilp] [(0,1)] [c1] c) λc2=>A.r (Zz 292) c2 c λc3=>
 A.wr (Zh 1 1 [.nili] [(0,1)] [c3] c) c λc4 c=>A.wr (Qg 1 16 [(h0 t),c4] c) c λc5 c=>A.r (Za 0) d c λc6=>A.a c6 c λc7=>A.r Xa c7 c λc8=>
 A.r (Za 12) c8 c λc9=>A.a c9 c λd0=>A.r (Za 0) d c λd1=>A.a d1 c λd2=>A.r Xa d2 c λd3=>A.r (Za 13) d3 c λd4=>
 A.a d4 c λd5=>A.rd (Xd [.nils,.nils] [(0,1),(1,1)] [d0,d5] c) λd6=>A.loop (λd7 f c=>A.b .lss (h0 f) (jv 2) c λd8=>A.test d8 (A.s (Y8 false 2 1) d6 (h0 f) c λu=>
 A.r Qd u c λd9=>A.loop (λe0 g c=>A.b .lss (h0 g) d9 c λe1=>A.test e1 (A.s (Qa 14) u (h0 g) c λe2=>A.rd (Xd [.nilp] [(0,1)] [e2] c) λe3=>
 A.r (Zz 272) e3 c λe4=>A.wr (Zh 1 1 [.nili] [(0,1)] [e4] c) c λe5 c=>A.wr (Qg 1 16 [(h1 g),e5] c) c λe6 c=>A.b .add (h0 g) (jv 1) c λe7=>
 e0 [e7,e6] c) (A.b .add (h0 f) (jv 1) c λe8=>d7 [e8,(h1 g)] c)) [jv 0,(h1 f)] c) (e [(h1 f)] c)) [jv 0,c5] c) (e [(h0 t)] c))) (A.r (Q7 290 true (.agg [.nilp])) x0 c λv=>
 A.r (Qb 1) v c λe9=>A.r (Qb 0) v c λf0=>A.test e9 (A.wr (Xc [.nilp] [] c) c λn c=>A.ws (Zb 1) n f0 c λ_ c=>A.r (Za 0) n c λf1=>
 A.a f1 c λf2=>A.r Xa f2 c λf3=>A.r (Za 3) f3 c λf4=>A.a f4 c λf5=>A.r Qd f5 c λf6=>A.loop (λf7 h c=>A.b .lss (h0 h) f6 c λf8=>
 A.test f8 (A.r (Za 0) n c λf9=>A.a f9 c λg0=>A.r Xa g0 c λg1=>A.r (Za 3) g1 c λg2=>A.a g2 c λg3=>A.s (Qa 4) g3 (h0 h) c λg4=>
 A.rd (Xd [.nilp] [(0,1)] [g4] c) λg5=>A.r (Zz 290) g5 c λg6=>A.wr (Zh 1 1 [.nili] [(0,1)] [g6] c) c λg7 c=>A.wr (Qg 1 16 [(h1 h),g7] c) c λg8 c=>
 A.b .add (h0 h) (jv 1) c λg9=>f7 [g9,g8] c) (e [(h1 h)] c)) [jv 0,.nils] c) (A.r (Q7 292 true (.agg [.nilp])) x0 c λw=>A.r (Qb 1) w c λi0=>
 A.r (Qb 0) w c λi1=>A.test i0 (A.wr (Xc [.nilp] [] c) c λi c=>A.ws (Zb 1) i i1 c λ_ c=>A.r (Za 0) i c λi2=>A.a i2 c λi3=>
 A.r Xa i3 c λi4=>A.r (Za 3) i4 c λi5=>A.a i5 c λi6=>A.r Qd i6 c λi7=>A.loop (λi9 j c=>A.b .lss (h0 j) i7 c λj0=>A.test j0 (
 A.r (Za 0) i c λj1=>A.a j1 c λj2=>A.r Xa j2 c λj3=>A.r (Za 3) j3 c λj4=>A.a j4 c λj5=>A.s (Qa 4) j5 (h0 j) c λj6=>
 A.rd (Xd [.nilp] [(0,1)] [j6] c) λj7=>A.r (Zz 290) j7 c λj8=>A.wr (Zh 1 1 [.nili] [(0,1)] [j8] c) c λj9 c=>A.wr (Qg 1 16 [(h1 j),j9] c) c λl0 c=>
 A.b .add (h0 j) (jv 1) c λl1=>i9 [l1,l0] c) (A.r (Za 0) i c λl2=>A.a l2 c λl3=>A.r Xa l3 c λl4=>A.r (Za 4) l4 c λl5=>
 A.a l5 c λl6=>A.r Qd l6 c λl7=>A.loop (λl8 l c=>A.b .lss (h0 l) l7 c λl9=>A.test l9 (A.r (Za 0) i c λm0=>A.a m0 c λm1=>A.r Xa m1 c λm2=>
 A.r (Za 4) m2 c λm3=>A.a m3 c λm4=>A.s (Qa 5) m4 (h0 l) c λm5=>A.rd (Xd [.nilp] [(0,1)] [m5] c) λm6=>A.r (Zz 292) m6 c λm7=>
 A.wr (Zh 1 1 [.nili] [(0,1)] [m7] c) c λm8 c=>A.wr (Qg 1 16 [(h1 l),m8] c) c λm9 c=>A.b .add (h0 l) (jv 1) c λn0=>l8 [n0,m9] c) (e [(h1 l)] c)) [jv 0,(h1 j)] c)) [jv 0,.nils] c) (
 e [.nils] c)))) (λy c=>A.r Qd (h0 y) c λn1=>A.loop (λn2 o c=>A.b .lss (h0 o) n1 c λn3=>A.test n3 (A.s (Qa 1) (h0 y) (h0 o) c λn4=>
 A.a n4 c λn5=>A.k 208 [n5,x1] c λn6 c=>A.r (Zp .not) n6 c λn7=>A.test n7 (m (.bool false) c) (A.b .add (h0 o) (jv 1) c λn8=>n2 [n8] c)) (m (.bool true) c)) [jv 0] c))
 |_=>A.stop
theorem g208_ok:GQ 208 2 g208:=gq2 [none,some [5],none,some [5],none,none,some [66,5],none,none,none,some [71,5],none,none,none,none,some [93,5],none,none,none,none,some [118,5],none,none,none,some [140,5],none,none,none,some [158],none,none,none] λ_ _ _ _ _ _=>by kernel_rfl
def g209:GFun:=λA xs d s=>match xs with
 |[x0]=>
 A.r Xa x0 d λt=>A.r (Za 0) t d λu=>A.a u d λv=>A.k 210 [v] d λf d=>A.fr f Yg x0 d λw=>A.fr f Xa w d λy=>A.fr f (Za 2) y d λz=>
 A.fr f (Za 0) z d λt7=>A.fa f t7 d λt8=>A.fb f .eql t8 (.int .i8 0) d λt9=>A.fr f Yg t9 d λi=>A.tr i Yg x0 d λa0=>A.tr i Xa a0 d λa1=>
 A.tr i (Za 2) a1 d λa2=>A.tr i (Za 1) a2 d λa3=>A.ta i a3 d λa4=>A.tb i .eql a4 (jv 0) d λa5=>A.fc f i a5 (.bool false) d λa6=>
 A.fr f Yg a6 d λj=>A.tr j Yg x0 d λa7=>A.tr j Xa a7 d λa8=>A.tr j (Za 2) a8 d λa9=>A.tr j (Za 2) a9 d λb0=>A.ta j b0 d λb1=>
 A.tb j .eql b1 (.int .i8 0) d λb2=>A.fc f j b2 (.bool false) d λb3=>A.fr f Yg b3 d λh=>A.tr h Yg x0 d λb4=>A.tr h Xa b4 d λb5=>A.tr h (Za 2) b5 d λb6=>
 A.tr h (Za 3) b6 d λb7=>A.ta h b7 d λb8=>A.tr h Qd b8 d λb9=>A.tb h .eql b9 (jv 0) d λc0=>A.fc f h c0 (.bool false) d λc1=>A.c f (.bool true) c1 d λp=>
 A.r Xa x0 d λc2=>A.r (Za 0) c2 d λc3=>A.a c3 d λc4=>A.b .eql c4 (.int .i8 7) d λl=>A.fr l Yg x0 d λc5=>A.fr l Xa c5 d λc6=>
 A.fr l (Za 6) c6 d λc7=>A.fa l c7 d λc8=>A.gof l (Yh .eql false [c8,.str []] d) λc9=>A.c l (.bool true) c9 d λd0=>A.r Xa x0 d λd1=>
 A.r (Za 7) d1 d λo=>A.r Xa x0 d λd2=>A.r (Za 0) d2 d λd3=>A.a d3 d λd4=>A.b .eql d4 (.int .i8 8) d λg=>A.fr g Yg o d λd5=>
 A.fr g Xa d5 d λd6=>A.fr g (Za 0) d6 d λd7=>A.fa g d7 d λd8=>A.fb g .eql d8 (.int .i8 0) d λd9=>A.fr g Yg d9 d λm=>A.tr m Yg o d λe0=>
 A.tr m Xa e0 d λe1=>A.tr m (Za 1) e1 d λe2=>A.ta m e2 d λe3=>A.tb m .eql e3 (.int .i8 0) d λe4=>A.fc g m e4 (.bool false) d λe5=>
 A.fr g Yg e5 d λn=>A.tr n Yg o d λe6=>A.tr n Xa e6 d λe7=>A.tr n (Za 2) e7 d λe8=>A.ta n e8 d λe9=>A.got n (Yh .eql false [e9,.str []] d) λf0=>
 A.fc g n f0 (.bool false) d λf1=>A.fr g Yg f1 d λe=>A.tr e Yg o d λf2=>A.tr e Xa f2 d λf3=>A.tr e (Za 3) f3 d λf4=>A.ta e f4 d λf5=>
 A.tr e Qd f5 d λf6=>A.tr e Yg o d λf7=>A.tr e Xa f7 d λf8=>A.tr e (Za 4) f8 d λf9=>A.ta e f9 d λg0=>A.tr e Qd g0 d λg1=>
 A.tb e .add f6 g1 d λg2=>A.tr e Yg x0 d λg3=>A.tr e Xa g3 d λg4=>A.tr e (Za 12) g4 d λg5=>A.ta e g5 d λg6=>A.tr e Qd g6 d λg7=>
 A.tb e .add g2 g7 d λg8=>A.tr e Yg x0 d λg9=>A.tr e Xa g9 d λi0=>A.tr e (Za 13) i0 d λi1=>A.ta e i1 d λi2=>A.tr e Qd i2 d λi3=>
 A.tb e .add g8 i3 d λi4=>A.tb e .eql i4 (jv 0) d λi5=>A.fc g e i5 (.bool false) d λi6=>A.c g (.bool true) i6 d λi7=>A.tr p Yg d0 d λi9=>A.c p i9 (.bool false) d λq=>
 A.tr q Yg i7 d λj0=>A.c q j0 (.bool false) d λj1=>s j1 d
 |_=>A.stop
theorem g209_ok:GQ 209 1 g209:=gq1 [] λ_ _ _ _ _=>by kernel_rfl
def g210:GFun:=λA xs a d=>match xs with
 |[x0]=>
 A.b .eql x0 (.int .i8 0) a λe=>joinK (λc=>A.test e (c [e] a) (A.b .eql x0 (.int .i8 1) a λf=>A.test f (c [f] a) (A.b .eql x0 (.int .i8 2) a λg=>
 A.test g (c [g] a) (A.b .eql x0 (.int .i8 3) a λh=>A.test h (c [h] a) (A.b .eql x0 (.int .i8 5) a λi=>c [i] a))))) (λj a=>A.test (h0 j) (d (.bool true) a) (
 d (.bool false) a))
 |_=>A.stop
theorem g210_ok:GQ 210 1 g210:=gq1 [none,some [4],none,none,none,none] λ_ _ _ _ _=>by kernel_rfl
def g211:GFun:=λA xs d l=>match xs with
 |[x0,x1]=>
 A.r Xa x1 d λt0=>A.r (Za 1) t0 d λt1=>A.a t1 d λt2=>A.b .eql t2 (jv 0) d λm=>A.r Xa x1 d λt4=>A.r (Za 2) t4 d λt5=>
 A.a t5 d λt6=>A.b .eql t6 (.int .i8 0) d λf=>A.r Xa x1 d λt8=>A.r (Za 0) t8 d λt9=>A.a t9 d λe=>joinK (λi=>A.b .eql e (.int .i8 0) d λa3=>
 A.test a3 (A.r Xa x1 d λa4=>A.r (Za 1) a4 d λa5=>A.a a5 d λa6=>A.b .geq a6 (jv 0) d λh=>A.tr h Yg x1 d λa7=>A.tr h Xa a7 d λa8=>
 A.tr h (Za 1) a8 d λa9=>A.ta h a9 d λb0=>A.tb h .leq b0 (jv 999) d λb1=>A.c h b1 (.bool false) d λb2=>i [b2,f,jv 0] d) (A.b .eql e (.int .i8 1) d λt=>
 joinK (λn=>A.test t (n [t] d) (A.b .eql e (.int .i8 2) d λu=>A.test u (n [u] d) (A.b .eql e (.int .i8 3) d λv=>A.test v (n [v] d) (A.b .eql e (.int .i8 4) d λb3=>
 n [b3] d)))) (λb4 d=>A.test (h0 b4) (A.r Xa x1 d λb5=>A.r (Za 2) b5 d λb6=>A.a b6 d λb7=>A.k 212 [b7] d λb8 d=>i [m,b8,jv 0] d) (
 A.b .eql e (.int .i8 5) d λw=>joinK (λy=>A.test w (y [w] d) (A.b .eql e (.int .i8 6) d λb9=>y [b9] d)) (λc0 d=>A.test (h0 c0) (i [m,f,jv 0] d) (
 A.b .eql e (.int .i8 7) d λc1=>A.test c1 (A.tr f Yg x0 d λc2=>A.tr f Xa c2 d λc3=>A.tr f (Za 1) c3 d λc4=>A.ta f c4 d λc5=>
 A.c f c5 (.bool false) d λc6=>i [m,c6,jv 0] d) (A.b .eql e (.int .i8 8) d λz=>joinK (λj=>A.test z (j [z] d) (A.b .eql e (.int .i8 9) d λa0=>
 A.test a0 (j [a0] d) (A.b .eql e (.int .i8 10) d λa1=>A.test a1 (j [a1] d) (A.b .eql e (.int .i8 11) d λa2=>A.test a2 (j [a2] d) (A.b .eql e (.int .i8 12) d λc7=>
 j [c7] d))))) (λc8 d=>A.test (h0 c8) (i [m,f,jv 2] d) (l (.bool false) d))))))))) (λo d=>A.r (Zp .not) (h0 o) d λp=>A.fr p Yg (h1 o) d λc9=>
 A.fr p (Zp .not) c9 d λd0=>A.c p (.bool true) d0 d λg=>A.fr g Yg x1 d λd1=>A.fr g Xa d1 d λd2=>A.fr g (Za 3) d2 d λd3=>
 A.fa g d3 d λd4=>A.fr g Qd d4 d λd5=>A.fr g Yg (h2 o) d λd6=>A.fb g .neq d5 d6 d λd7=>A.c g (.bool true) d7 d λd8=>A.test d8 (l (.bool false) d) (
 A.r Xa x1 d λd9=>A.r (Za 3) d9 d λe0=>A.a e0 d λe1=>A.r Qd e1 d λe2=>A.loop (λe3 q d=>A.b .lss (h0 q) e2 d λe4=>A.test e4 (
 A.r Xa x1 d λe5=>A.r (Za 3) e5 d λe6=>A.a e6 d λe7=>A.s (Qa 4) e7 (h0 q) d λe8=>A.k 211 [x0,e8] d λe9 d=>A.r (Zp .not) e9 d λf0=>
 A.test f0 (l (.bool false) d) (A.b .add (h0 q) (jv 1) d λf1=>e3 [f1] d)) (l (.bool true) d)) [jv 0] d))
 |_=>A.stop
theorem g211_ok:GQ 211 2 g211:=gq2 [some [6,7,5],none,some [37],none,none,none,some [47],none,none,some [59],none,none,none,none,none,none,some [85],none,none,none] λ_ _ _ _ _ _=>by kernel_rfl
def g212:GFun:=λA xs a e=>match xs with
 |[x0]=>
 A.b .eql x0 (.int .i8 0) a λd=>A.fr d Yg x0 a λf=>A.fb d .eql f (.int .i8 1) a λg=>A.c d (.bool true) g a λh=>e h a
 |_=>A.stop
theorem g212_ok:GQ 212 1 g212:=gq1 [] λ_ _ _ _ _=>by kernel_rfl
def g213:GFun:=λA xs d j=>match xs with
 |[x0,x1]=>
 A.r Xa x1 d λz=>A.r (Za 1) z d λt1=>A.a t1 d λt2=>A.b .eql t2 (.int .i8 0) d λh=>A.tr h Yg x1 d λt4=>A.tr h Xa t4 d λt5=>
 A.tr h (Za 2) t5 d λt6=>A.ta h t6 d λt7=>A.got h (Yh .eql false [t7,.str []] d) λt8=>A.c h t8 (.bool false) d λm=>A.r Xa x1 d λa0=>
 A.r (Za 0) a0 d λa1=>A.a a1 d λg=>joinK (λl=>A.b .eql g (.int .i8 0) d λt=>joinK (λn=>A.test t (n [t] d) (A.b .eql g (.int .i8 1) d λu=>
 A.test u (n [u] d) (A.b .eql g (.int .i8 2) d λa2=>n [a2] d))) (λa3 d=>A.test (h0 a3) (l [m,jv 2,jv 0] d) (A.b .eql g (.int .i8 3) d λa4=>A.test a4 (
 l [m,jv 0,jv 1] d) (A.b .eql g (.int .i8 4) d λv=>joinK (λw=>A.test v (w [v] d) (A.b .eql g (.int .i8 5) d λa5=>w [a5] d)) (λa6 d=>A.test (h0 a6) (
 l [m,jv 0,jv 2] d) (A.b .eql g (.int .i8 6) d λa7=>A.test a7 (A.r Xa x0 d λa8=>A.r (Za 0) a8 d λa9=>A.a a9 d λb0=>A.r Xa x1 d λb1=>
 A.r (Za 2) b1 d λb2=>A.a b2 d λb3=>A.s (Zq true true (.bool false)) b0 b3 d λy=>A.r (Qb 0) y d λg1=>A.r (Qb 1) y d λi=>
 A.tr i Yg x1 d λb4=>A.tr i Xa b4 d λb5=>A.tr i (Za 1) b5 d λb6=>A.ta i b6 d λb7=>A.gw i true (λk=>A.k 212 [b7] d k) d λb8 d=>
 A.c i b8 (.bool false) d λb9=>l [b9,jv 0,jv 0] d) (j (.bool false) d))))))) (λo d=>A.r (Zp .not) (h0 o) d λe=>A.fr e Yg x1 d λc0=>A.fr e Xa c0 d λc1=>
 A.fr e (Za 3) c1 d λc2=>A.fa e c2 d λc3=>A.fr e Qd c3 d λc4=>A.fr e Yg (h1 o) d λc5=>A.fb e .neq c4 c5 d λc6=>A.c e (.bool true) c6 d λf=>
 A.fr f Yg x1 d λc7=>A.fr f Xa c7 d λc8=>A.fr f (Za 4) c8 d λc9=>A.fa f c9 d λd0=>A.fr f Qd d0 d λd1=>A.fr f Yg (h2 o) d λd2=>
 A.fb f .neq d1 d2 d λd3=>A.c f (.bool true) d3 d λd4=>A.test d4 (j (.bool false) d) (A.r Xa x1 d λd5=>A.r (Za 3) d5 d λd6=>A.a d6 d λd7=>
 A.r Qd d7 d λd8=>A.loop (λd9 p d=>A.b .lss (h0 p) d8 d λe0=>A.test e0 (A.r Xa x1 d λe1=>A.r (Za 3) e1 d λe2=>A.a e2 d λe3=>
 A.s (Qa 4) e3 (h0 p) d λe4=>A.k 211 [x0,e4] d λe5 d=>A.r (Zp .not) e5 d λe6=>A.test e6 (j (.bool false) d) (A.b .add (h0 p) (jv 1) d λe7=>
 d9 [e7] d)) (A.r Xa x1 d λe8=>A.r (Za 4) e8 d λe9=>A.a e9 d λf0=>A.r Qd f0 d λf1=>A.loop (λf2 q d=>A.b .lss (h0 q) f1 d λf3=>
 A.test f3 (A.r Xa x1 d λf4=>A.r (Za 4) f4 d λf5=>A.a f5 d λf6=>A.s (Qa 5) f6 (h0 q) d λf7=>A.k 213 [x0,f7] d λf8 d=>
 A.r (Zp .not) f8 d λf9=>A.test f9 (j (.bool false) d) (A.b .add (h0 q) (jv 1) d λg0=>f2 [g0] d)) (j (.bool true) d)) [jv 0] d)) [jv 0] d))
 |_=>A.stop
theorem g213_ok:GQ 213 2 g213:=gq2 [some [7,5,6],some [26],none,none,none,some [32],none,none,none,none,some [82],none,none,none,none,some [100],none,none,none] λ_ _ _ _ _ _=>by kernel_rfl
def g215:GFun:=λA xs a g=>match xs with
 |[x0,x1,x2,x3]=>
 A.loop (λi e a=>A.b .mul (jv 2) (h0 e) a λj=>A.b .add j (jv 1) a λd=>A.b .geq d x2 a λl=>A.test l (g (.tup []) a) (A.pu (Yh .add false [d,jv 1] a) λm=>
 A.pu (Yh .lss false [m,x2] a) λc=>A.gr c true (λk=>A.pu (Yg [x0] a) k) λn=>A.gr c true (λk=>A.pu (Yg [x3] a) k) λo=>A.gr c true (λk=>A.pu (Yg [d] a) k) λp=>
 A.gr c true (λk=>A.pu (Yh .add false [o,p] a) k) λq=>A.gl c true (λk=>A.dr (Qa 1 [n,q] a) a k) a λr s a=>A.gl c true (λk=>A.dr (Yd [r] a) a k) a λt u a=>
 A.gr c true (λk=>A.pu (Yg [x0] a) k) λv=>A.gr c true (λk=>A.pu (Yg [x3] a) k) λw=>A.gr c true (λk=>A.pu (Yg [d] a) k) λy=>A.gr c true (λk=>A.pu (Yh .add false [w,y] a) k) λz=>
 A.gr c true (λk=>A.pu (Yh .add false [z,jv 1] a) k) λa0=>A.gl c true (λk=>A.dr (Qa 1 [v,a0] a) a k) a λa1 a2 a=>A.gl c true (λk=>A.dr (Yd [a1] a) a k) a λa3 a4 a=>
 A.gl c true (λk=>A.dcall (.call 169) [t,a3] a k) a λa5 a6 a=>A.pu (Zn [c,a5,.bool false] a) λa7=>A.gd (Qe [[],[0],[],[0,1,2],[0,1,2,3],[0,1,2,3,4],[0,1,2,3,4],[0,1,2,3,4],[0,1,2,3,4,6,7],[0,1,2,3,4,5,6,7,8],[0,1,2,3,4,5,6,7,8,9],[0,1,2,3,4],[0,1,2,3,4],[0,1,2,3,4],[0,1,2,3,4,12,13],[0,1,2,3,4,12,13,14],[0,1,2,3,4,11,12,13,14,15],[0,1,2,3,4,11,12,13,14,15,16],[0,1,2,3,4,5,6,7,8,9,10,11,12,13,14,15,16,17],[0,1,2,3,4,5,6,7,8,9,10,11,12,13,14,15,16,17,18]] [([],[]),([],[]),([],[]),([],[]),([],[]),([],[]),([],[]),([],[]),([],[]),s,u,([],[]),([],[]),([],[]),([],[]),([],[]),a2,a4,a6,([],[])]) <|
 joinK (λh=>A.test a7 (A.b .add d (jv 1) a λa8=>h [a8] a) (h [d] a)) (λf a=>A.pu (Yh .add false [x3,(h0 e)] a) λa9=>A.dr (Qa 1 [x0,a9] a) a λb0 b1 a=>
 A.dr (Yd [b0] a) a λb2 b3 a=>A.pu (Yh .add false [x3,(h0 f)] a) λb4=>A.dr (Qa 1 [x0,b4] a) a λb5 b6 a=>A.dr (Yd [b5] a) a λb7 b8 a=>
 A.dcall (.call 169) [b2,b7] a λb9 c0 a=>A.pu (Zp .not [b9] a) λc1=>A.gd (Qe [[],[],[],[1,2],[0,1,2,3],[0,1,2,3,4],[],[],[],[7,8],[6,7,8,9],[6,7,8,9,10],[0,1,2,3,4,5,6,7,8,9,10,11],[0,1,2,3,4,5,6,7,8,9,10,11,12]] [([],[]),([],[]),([],[]),([],[]),b1,b3,([],[]),([],[]),([],[]),([],[]),b6,b8,c0,([],[])]) <|
 A.test c1 (g (.tup []) a) (A.pu (Yh .add false [x3,(h0 e)] a) λc2=>A.pu (Yh .add false [x3,(h0 f)] a) λc3=>A.pu (Yh .add false [x3,(h0 f)] a) λc4=>
 A.dr (Qa 1 [x0,c4] a) a λc5 c6 a=>A.dr (Yd [c5] a) a λc7 c8 a=>A.pu (Yh .add false [x3,(h0 e)] a) λc9=>A.dr (Qa 1 [x0,c9] a) a λd0 d1 a=>
 A.dr (Yd [d0] a) a λd2 d3 a=>A.dr (Qa 1 [x0,c2] a) a λd4 d5 a=>A.dr (Zb 1 [d4,c7] a) a λ_ d6 a=>A.dr (Qa 1 [x0,c3] a) a λd7 d8 a=>
 A.dr (Zb 1 [d7,d2] a) a λ_ d9 a=>A.gd (Qe [[],[],[],[1,2],[],[],[],[5,6],[],[],[],[9,10],[8,9,10,11],[8,9,10,11,12],[],[],[],[15,16],[14,15,16,17],[14,15,16,17,18],[0,1,2,3,8,9,10,11,12,13,14,15,16,17,18,19],[0,1,2,3,8,9,10,11,12,13,14,15,16,17,18,19,20],[0,1,2,3,4,5,6,7,8,9,10,11,12,13,14,15,16,17,18,19,20,21],[0,1,2,3,4,5,6,7,8,9,10,11,12,13,14,15,16,17,18,19,20,21,22]] [([],[]),([],[]),([],[]),([],[]),([],[]),([],[]),([],[]),([],[]),([],[]),([],[]),([],[]),([],[]),c6,c8,([],[]),([],[]),([],[]),([],[]),d1,d3,d5,d6,d8,d9]) <|
 i [(h0 f)] a)))) [x1] a
 |_=>A.stop
theorem g215_ok:GQ 215 4 g215:=gq4 [none,some [8],none,none,some [9],none] λ_ _ _ _ _ _ _ _=>by kernel_rfl
def g216:GFun:=λA xs a c=>match xs with
 |[x0]=>
 A.r (ZH .u64) x0 a λd=>A.k 129 [d] a λe a=>A.b .shl (.int .u64 1) e a λf=>c f a
 |_=>A.stop
theorem g216_ok:GQ 216 1 g216:=gq1 [] λ_ _ _ _ _=>by kernel_rfl
def g217:GFun:=λA xs b c=>match xs with
 |[x0]=>
 A.pu (Xa [x0] b) λd=>A.dr (Yd [d] b) b λe f b=>A.pu (Xa [x0] b) λg=>A.dr (Yd [g] b) b λh i b=>A.pu (Yh .shl false [h,.int .u64 13] b) λj=>
 A.pu (Yh .xor false [e,j] b) λl=>A.pu (Xa [x0] b) λm=>A.dr (Zb 1 [m,l] b) b λ_ n b=>A.gd (Qe [[],[0],[0,1],[],[3],[3,4],[3,4,5],[0,1,2,3,4,5,6],[0,1,2,3,4,5,6,7],[0,1,2,3,4,5,6,7,8]] [([],[]),([],[]),f,([],[]),([],[]),i,([],[]),([],[]),([],[]),n]) <|
 A.pu (Xa [x0] b) λo=>A.dr (Yd [o] b) b λp q b=>A.pu (Xa [x0] b) λs=>A.dr (Yd [s] b) b λt u b=>A.pu (Yh .shr false [t,.int .u64 7] b) λv=>
 A.pu (Yh .xor false [p,v] b) λw=>A.pu (Xa [x0] b) λy=>A.dr (Zb 1 [y,w] b) b λ_ z b=>A.gd (Qe [[],[0],[0,1],[],[3],[3,4],[3,4,5],[0,1,2,3,4,5,6],[0,1,2,3,4,5,6,7],[0,1,2,3,4,5,6,7,8]] [([],[]),([],[]),q,([],[]),([],[]),u,([],[]),([],[]),([],[]),z]) <|
 A.pu (Xa [x0] b) λa0=>A.dr (Yd [a0] b) b λa1 a2 b=>A.pu (Xa [x0] b) λa3=>A.dr (Yd [a3] b) b λa4 a5 b=>A.pu (Yh .shl false [a4,.int .u64 17] b) λa6=>
 A.pu (Yh .xor false [a1,a6] b) λa7=>A.pu (Xa [x0] b) λa8=>A.dr (Zb 1 [a8,a7] b) b λ_ a9 b=>A.gd (Qe [[],[0],[0,1],[],[3],[3,4],[3,4,5],[0,1,2,3,4,5,6],[0,1,2,3,4,5,6,7],[0,1,2,3,4,5,6,7,8]] [([],[]),([],[]),a2,([],[]),([],[]),a5,([],[]),([],[]),([],[]),a9]) <|
 A.r Xa x0 b λb0=>A.a b0 b λb1=>c b1 b
 |_=>A.stop
theorem g217_ok:GQ 217 1 g217:=gq1 [] λ_ _ _ _ _=>by kernel_rfl
def g218:GFun:=λA xs a c=>match xs with
 |[x0,x1,x2]=>
 A.b .sub x1 (jv 1) a λd=>A.b .add x1 (jv 1) a λe=>A.k 219 [x0,d,x1,e,x2] a λf a=>c f a
 |_=>A.stop
theorem g218_ok:GQ 218 3 g218:=gq3 [] λ_ _ _ _ _ _ _=>by kernel_rfl
def g219:GFun:=λA xs a e=>match xs with
 |[x0,x1,x2,x3,x4]=>
 A.k 234 [x0,x1,x2,x4] a λb a=>A.r (Qb 0) b a λf=>A.r (Qb 1) b a λg=>A.k 234 [x0,g,x3,x4] a λc a=>A.r (Qb 0) c a λh=>
 A.r (Qb 1) c a λj=>A.k 234 [x0,f,h,x4] a λd a=>A.r (Qb 0) d a λl=>A.r (Qb 1) d a λi=>e i a
 |_=>A.stop
theorem g219_ok:GQ 219 5 g219:=gq5 [] λ_ _ _ _ _ _ _ _ _=>by kernel_rfl
def g220:GFun:=λA xs a c=>match xs with
 |[x0]=>
 A.b .neq x0 x0 a λd=>c d a
 |_=>A.stop
theorem g220_ok:GQ 220 1 g220:=gq1 [] λ_ _ _ _ _=>by kernel_rfl
def g221:GFun:=λA xs d i=>match xs with
 |[x0,x1]=>
 A.r Xa x0 d λt=>A.r (Za 2) t d λu=>A.a u d λv=>A.r Xa x0 d λw=>A.r (Za 3) w d λy=>A.a y d λz=>A.r Xa x0 d λt6=>
 A.r (Za 4) t6 d λt7=>A.a t7 d λt8=>A.r Xa x0 d λt9=>A.r (Za 5) t9 d λa0=>A.a a0 d λa1=>A.r Xa x0 d λa2=>
 A.r (Za 6) a2 d λa3=>A.a a3 d λa4=>A.r Xa x0 d λa5=>A.r (Za 7) a5 d λa6=>A.a a6 d λa7=>A.rd (Xd [jv 0,jv 0,jv 0,jv 0,jv 0,jv 0] [(0,1),(1,1),(2,1),(3,1),(4,1),(5,1)] [v,z,t8,a1,a4,a7] d) λa8=>
 A.loop (λa9 l d=>A.b .lss (h0 l) (jv 6) d λb0=>A.test b0 (A.s (Y8 false 6 1) a8 (h0 l) d λo=>A.b .lss o (jv 0) d λm=>A.fr m Yg o d λb1=>
 A.fb m .gtr b1 (jv 999) d λb2=>A.c m (.bool true) b2 d λb3=>A.test b3 (i (.bool false) d) (A.b .add (h0 l) (jv 1) d λb4=>a9 [b4] d)) (A.r Xa x0 d λb5=>
 A.r (Za 0) b5 d λb6=>A.a b6 d λb7=>A.k 223 [b7] d λb8 d=>A.r (Zp .not) b8 d λp=>joinK (λn=>A.test p (n [p] d) (A.r Xa x0 d λb9=>
 A.r (Zc true 12) b9 d λc0=>A.k 124 [c0] d λc1 d=>A.b .gtr c1 (jv 200) d λq=>A.test q (n [q] d) (A.r Xa x0 d λc2=>A.r (Za 1) c2 d λc3=>
 A.a c3 d λh=>A.tr h Yg x0 d λc4=>A.tr h Xa c4 d λc5=>A.tr h (Za 4) c5 d λc6=>A.ta h c6 d λc7=>A.tb h .lss c7 (jv 1) d λc8=>
 A.c h c8 (.bool false) d λc9=>n [c9] d))) (λd0 d=>A.test (h0 d0) (i (.bool false) d) (A.r Xa x0 d λd1=>A.r (Za 1) d1 d λd2=>A.a d2 d λd3=>
 A.r (Zp .not) d3 d λe=>A.tr e Yg x0 d λd4=>A.tr e Xa d4 d λd5=>A.tr e (Za 3) d5 d λd6=>A.ta e d6 d λd7=>A.tr e Yg x0 d λd8=>
 A.tr e Xa d8 d λd9=>A.tr e (Za 4) d9 d λe0=>A.ta e e0 d λe1=>A.tb e .add d7 e1 d λe2=>A.tr e Yg x0 d λe3=>A.tr e Xa e3 d λe4=>
 A.tr e (Za 5) e4 d λe5=>A.ta e e5 d λe6=>A.tb e .add e2 e6 d λe7=>A.tr e Yg x0 d λe8=>A.tr e Xa e8 d λe9=>A.tr e (Za 6) e9 d λf0=>
 A.ta e f0 d λf1=>A.tb e .add e7 f1 d λf2=>A.tr e Yg x0 d λf3=>A.tr e Xa f3 d λf4=>A.tr e (Za 7) f4 d λf5=>A.ta e f5 d λf6=>
 A.tb e .add f2 f6 d λf7=>A.tb e .gtr f7 (jv 0) d λf8=>A.tr e Yg f8 d λf=>A.fr f Yg x0 d λf9=>A.fr f Xa f9 d λg0=>A.fr f (Za 9) g0 d λg1=>
 A.fa f g1 d λg2=>A.fr f Qd g2 d λg3=>A.fr f Yg x0 d λg4=>A.fr f Xa g4 d λg5=>A.fr f (Za 10) g5 d λg6=>A.fa f g6 d λg7=>
 A.fr f Qd g7 d λg8=>A.fb f .add g3 g8 d λg9=>A.fb f .gtr g9 (jv 0) d λi0=>A.tc e f (.bool true) i0 d λi1=>A.c e i1 (.bool false) d λi2=>
 A.test i2 (i (.bool false) d) (A.rd (Xd [.nilmap,.bool false] [(0,1),(1,1)] [x1,.bool true] d) λi3=>A.w1 Zm i3 d λj d=>A.r Xa x0 d λi4=>
 A.r (Za 8) i4 d λi5=>A.a i5 d λi6=>A.k 157 [j,i6,jv 1] d λi7 d=>A.r (Zp .not) i7 d λi8=>A.test i8 (i (.bool false) d) (A.r Xa j d λi9=>
 A.r (Za 1) i9 d λj0=>A.ws (Zb 1) j0 (.bool false) d λ_ d=>A.r Xa x0 d λj1=>A.r (Za 9) j1 d λj2=>A.a j2 d λj3=>
 A.k 157 [j,j3,jv 1] d λg d=>A.tr g Yg j d λj4=>A.tr g Yg x0 d λj5=>A.tr g Xa j5 d λj6=>A.tr g (Za 10) j6 d λj7=>A.ta g j7 d λj8=>
 A.gw g true (λk=>A.k 157 [j4,j8,jv 1] d k) d λj9 d=>A.c g j9 (.bool false) d λl0=>i l0 d)))))) [jv 0] d
 |_=>A.stop
theorem g221_ok:GQ 221 2 g221:=gq2 [none,some [33],none,none,none,none,some [43],none,none,none,none] λ_ _ _ _ _ _=>by kernel_rfl
def g222:GFun:=λA xs a d=>match xs with
 |[x0,x1]=>
 A.w1 Zm x0 a λb a=>A.r (Zc true 1) b a λe=>A.r (Zo (.func 235) 1) e a λf=>A.r (Zc true 1) b a λg=>A.r (Zo (.func 235) 1) g a λh=>
 A.r (Zc true 1) b a λi=>A.r (Zo (.func 235) 1) i a λj=>A.r (Zc true 1) b a λl=>A.r (Zo (.func 235) 1) l a λm=>A.r (Zc true 1) b a λn=>
 A.r (Zo (.func 236) 1) n a λo=>A.r (Zc true 1) b a λp=>A.r (Zo (.func 237) 1) p a λq=>A.r (Zc true 1) b a λt=>A.r (Zo (.func 236) 1) t a λu=>
 A.r (Zc true 1) b a λv=>A.r (Zo (.func 236) 1) v a λw=>A.r (Zc true 1) b a λy=>A.r (Zo (.func 238) 1) y a λz=>A.rd (Xd [.nilf,.nilf,.nilf,.nilf,.nilf,.nilf,.nilf,.nilf,.nilf] [(0,1),(1,1),(2,1),(3,1),(4,1),(5,1),(6,1),(7,1),(8,1)] [f,h,j,m,o,q,u,w,z] a) λa0=>
 A.wr (Xc [.nilf,.nilf,.nilf,.nilf,.nilf,.nilf,.nilf,.nilf,.nilf] [] a) a λc a=>A.ws (Zb 9) c a0 a λ_ a=>A.s (Zo (.func 240) 0) b c a λa1=>
 A.k 239 [x1,a1] a λa2 a=>A.r (Zp .not) a2 a λa3=>d a3 a
 |_=>A.stop
theorem g222_ok:GQ 222 2 g222:=gq2 [] λ_ _ _ _ _ _=>by kernel_rfl
def g223:GFun:=λA xs a l=>match xs with
 |[x0]=>
 A.k 241 [x0] a λh a=>A.r (Qb 0) h a λi=>A.r (Qb 1) h a λj=>A.b .gtr j (jv 0) a λf=>A.tr f Yg j a λm=>A.tb f .leq m (jv 24) a λn=>
 A.c f n (.bool false) a λd=>A.tr d Yg i a λo=>A.tr d Yg x0 a λp=>A.tr d Xr p a λq=>A.tb d .eql o q a λs=>A.c d s (.bool false) a λg=>
 A.tr g Yg i a λt=>A.tb g .leq t (jv 40) a λu=>A.c g u (.bool false) a λe=>A.tr e Yg x0 a λv=>A.gw e true (λk=>A.k 242 [v] a k) a λw a=>
 A.tr e (Zp .not) w a λy=>A.c e y (.bool false) a λz=>l z a
 |_=>A.stop
theorem g223_ok:GQ 223 1 g223:=gq1 [] λ_ _ _ _ _=>by kernel_rfl
def g224:GFun:=λA xs b d=>match xs with
 |[x0,x1]=>
 A.w1 Zm x0 b λe b=>A.w1 Zm x1 b λf b=>A.r (Za 0) e b λg=>A.a g b λh=>A.r (Zo (.func 244) 0) f b λi=>A.k 243 [h,i] b λc b=>
 A.r (Qb 0) c b λj=>A.r (Qb 1) c b λl=>A.r (Qb 2) c b λm=>A.wr (Xc [.str [],.bool false,jv 0,jv 0,jv 0,jv 0,jv 0,jv 0,.nils,.nils,.nils,jv 0] [] b) b λn b=>
 A.ws (Zb 12) n j b λ_ b=>d (.tup [l,m]) b
 |_=>A.stop
theorem g224_ok:GQ 224 2 g224:=gq2 [] λ_ _ _ _ _ _=>by kernel_rfl
def g225:GFun:=λA xs d i=>match xs with
 |[x0]=>
 A.w1 Zm x0 d λf d=>A.r (Za 0) f d λj=>A.a j d λl=>A.b .eql l (.int .i8 0) d λg=>A.tr g (Za 1) f d λm=>A.ta g m d λn=>
 A.tb g .eql n (jv 0) d λo=>A.c g o (.bool false) d λh=>A.tr h (Za 2) f d λp=>A.ta h p d λq=>A.tb h .eql q (.int .i8 0) d λs=>A.c h s (.bool false) d λe=>
 A.tr e (Za 3) f d λt=>A.ta e t d λu=>A.tr e Qd u d λv=>A.tb e .eql v (jv 0) d λw=>A.c e w (.bool false) d λy=>i y d
 |_=>A.stop
theorem g225_ok:GQ 225 1 g225:=gq1 [] λ_ _ _ _ _=>by kernel_rfl
def g226:GFun:=λA xs d h=>match xs with
 |[x0,x1]=>
 A.w1 Zm x1 d λe d=>A.r (Za 0) e d λv=>A.a v d λw=>A.b .geq w (.int .i8 0) d λj=>A.tr j (Za 0) e d λy=>A.ta j y d λz=>
 A.tb j .leq z (.int .i8 2) d λt6=>A.c j t6 (.bool false) d λt7=>joinK (λq=>A.test t7 (q [jv 2] d) (q [jv 0] d)) (λv9 d=>A.r (Za 0) e d λa0=>
 A.a a0 d λa1=>A.b .eql a1 (.int .i8 3) d λa2=>joinK (λt=>A.test a2 (t [jv 1] d) (t [jv 0] d)) (λa3 d=>A.r (Za 0) e d λa4=>A.a a4 d λa5=>
 A.b .eql a5 (.int .i8 4) d λl=>A.fr l (Za 0) e d λa6=>A.fa l a6 d λa7=>A.fb l .eql a7 (.int .i8 5) d λa8=>A.c l (.bool true) a8 d λa9=>
 joinK (λu=>A.test a9 (u [jv 2] d) (u [(h0 a3)] d)) (λb0 d=>A.r (Za 0) e d λb1=>A.a b1 d λb2=>A.b .lss b2 (.int .i8 0) d λm=>A.fr m (Za 0) e d λb3=>
 A.fa m b3 d λb4=>A.fb m .gtr b4 (.int .i8 6) d λb5=>A.c m (.bool true) b5 d λf=>A.fr f (Za 3) e d λb6=>A.fa f b6 d λb7=>A.fr f Qd b7 d λb8=>
 A.fr f Yg (h0 v9) d λb9=>A.fb f .neq b8 b9 d λc0=>A.c f (.bool true) c0 d λg=>A.fr g (Za 4) e d λc1=>A.fa g c1 d λc2=>A.fr g Qd c2 d λc3=>
 A.fr g Yg (h0 b0) d λc4=>A.fb g .neq c3 c4 d λc5=>A.c g (.bool true) c5 d λc6=>A.test c6 (h (.bool false) d) (A.loop (λc7 o d=>A.r (Za 3) e d λc8=>
 A.a c8 d λc9=>A.r Qd c9 d λd0=>A.b .lss (h0 o) d0 d λd1=>A.test d1 (A.r (Za 3) e d λd2=>A.a d2 d λd3=>A.s (Qa 4) d3 (h0 o) d λd4=>
 A.r (Zc true 4) d4 d λd5=>A.k 77 [x0,d5] d λd6 d=>A.r (Zp .not) d6 d λd7=>A.test d7 (h (.bool false) d) (A.b .add (h0 o) (jv 1) d λd8=>c7 [d8] d)) (
 A.loop (λd9 p d=>A.r (Za 4) e d λe0=>A.a e0 d λe1=>A.r Qd e1 d λe2=>A.b .lss (h0 p) e2 d λe3=>A.test e3 (A.r (Za 4) e d λe4=>
 A.a e4 d λe5=>A.s (Qa 5) e5 (h0 p) d λe6=>A.r (Zc true 5) e6 d λe7=>A.k 226 [x0,e7] d λe8 d=>A.r (Zp .not) e8 d λe9=>A.test e9 (
 h (.bool false) d) (A.b .add (h0 p) (jv 1) d λf0=>d9 [f0] d)) (A.r (Za 0) e d λf1=>A.a f1 d λf2=>A.b .eql f2 (.int .i8 6) d λf3=>A.test f3 (
 A.r (Za 1) e d λf4=>A.a f4 d λf5=>A.k 121 [f5] d λi d=>A.tr i Yg x0 d λf6=>A.tr i (Za 2) e d λf7=>A.ta i f7 d λf8=>A.gw i true (λk=>A.k 228 [f6,f8,.bool false] d k) d λf9 d=>
 A.c i f9 (.bool false) d λg0=>h g0 d) (A.r (Za 1) e d λg1=>A.a g1 d λg2=>A.b .eql g2 (.int .i8 0) d λn=>A.tr n (Za 2) e d λg3=>
 A.ta n g3 d λg4=>A.got n (Yh .eql false [g4,.str []] d) λg5=>A.c n g5 (.bool false) d λg6=>h g6 d))) [jv 0] d)) [jv 0] d))))
 |_=>A.stop
theorem g226_ok:GQ 226 2 g226:=gq2 [some [5],some [6],some [6],none,none,some [7],none,none,none,none,some [8],none,none,none,none] λ_ _ _ _ _ _=>by kernel_rfl
def g227:GFun:=λA xs d j=>match xs with
 |[x0]=>
 A.w1 Zm x0 d λe d=>A.r (Za 0) e d λl=>A.a l d λm=>A.b .eql m (.int .i8 0) d λh=>A.tr h (Za 1) e d λn=>A.ta h n d λo=>
 A.tb h .eql o (.int .i8 0) d λp=>A.c h p (.bool false) d λi=>A.tr i (Za 2) e d λq=>A.ta i q d λs=>A.got i (Yh .eql false [s,.str []] d) λt=>
 A.c i t (.bool false) d λf=>A.tr f (Za 3) e d λu=>A.ta f u d λv=>A.tr f Qd v d λw=>A.tb f .eql w (jv 0) d λy=>A.c f y (.bool false) d λg=>
 A.tr g (Za 4) e d λz=>A.ta g z d λa0=>A.tr g Qd a0 d λa1=>A.tb g .eql a1 (jv 0) d λa2=>A.c g a2 (.bool false) d λa3=>j a3 d
 |_=>A.stop
theorem g227_ok:GQ 227 1 g227:=gq1 [] λ_ _ _ _ _=>by kernel_rfl
def g228:GFun:=λA xs d g=>match xs with
 |[x0,x1,x2]=>
 A.loop (λh e d=>A.r Xa x0 d λi=>A.r (Za 0) i d λj=>A.a j d λl=>A.r Qd l d λm=>A.b .lss (h0 e) m d λn=>A.test n (A.r Xa x0 d λo=>
 A.r (Za 0) o d λp=>A.a p d λq=>A.s (Qa 12) q (h0 e) d λt=>A.r (Za 0) t d λu=>A.a u d λv=>A.b .eql v x1 d λw=>A.test w (
 A.r Xa x0 d λy=>A.r (Za 0) y d λz=>A.a z d λa0=>A.s (Qa 12) a0 (h0 e) d λa1=>A.r (Za 1) a1 d λa2=>A.a a2 d λf=>
 A.fr f Yg x2 d λa3=>A.fr f (Zp .not) a3 d λa4=>A.c f (.bool true) a4 d λa5=>g a5 d) (A.b .add (h0 e) (jv 1) d λa6=>h [a6] d)) (g (.bool false) d)) [jv 0] d
 |_=>A.stop
theorem g228_ok:GQ 228 3 g228:=gq3 [none,some [7],none,none,none] λ_ _ _ _ _ _ _=>by kernel_rfl
def g229:GFun:=λA xs a b=>match xs with
 |[]=>
 A.wr (Zh 1 41 [.str [],.str [],.str [],.str [],.str [],.str [],.str [],.str [],.str [],.str [],.str [],.str [],.str [],.str [],.str [],.str [],.str [],.str [],.str [],.str [],.str [],.str [],.str [],.str [],.str [],.str [],.str [],.str [],.str [],.str [],.str [],.str [],.str [],.str [],.str [],.str [],.str [],.str [],.str [],.str [],.str []] [(0,1),(1,1),(2,1),(3,1),(4,1),(5,1),(6,1),(7,1),(8,1),(9,1),(10,1),(11,1),(12,1),(13,1),(14,1),(15,1),(16,1),(17,1),(18,1),(19,1),(20,1),(21,1),(22,1),(23,1),(24,1),(25,1),(26,1),(27,1),(28,1),(29,1),(30,1),(31,1),(32,1),(33,1),(34,1),(35,1),(36,1),(37,1),(38,1),(39,1),(40,1)] [(.str [99,97,114,100]),(.str [117,110,105,116]),(.str [99,104,97,114,109]),(.str [102,111,114,109,97,116]),(.str [112,108,97,121,101,100]),(.str [100,101,97,100]),(.str [100,97,119,110]),(.str [97,117,114,97]),(.str [115,104,105,101,108,100]),(.str [104,97,114,109]),(.str [109,101,110,100]),(.str [100,114,97,119]),(.str [103,97,105,110]),(.str [100,114,111,112]),(.str [108,111,111,107]),(.str [115,104,111,119]),(.str [115,117,109,109,111,110]),(.str [105,102]),(.str [101,108,115,101]),(.str [109,101]),(.str [102,111,101]),(.str [116,97,114,103,101,116]),(.str [108,105,102,101]),(.str [104,97,110,100]),(.str [100,101,99,107]),(.str [117,110,105,116,115]),(.str [109,97,110,97]),(.str [99,111,115,116]),(.str [116,111,112]),(.str [112,111,119,101,114]),(.str [109,105,110]),(.str [109,97,120]),(.str [110,111,116]),(.str [97,110,100]),(.str [111,114]),(.str [104,111,108,100,115]),(.str [108,101,97,115,116]),(.str [109,111,115,116]),(.str [99,111,112,105,101,115]),(.str [98,97,110,110,101,100]),(.str [115,105,110,103,108,101])] a) a λc a=>
 b c a
 |_=>A.stop
theorem g229_ok:GQ 229 0 g229:=gq0 [] λ_ _ _ _=>by kernel_rfl
def g230:GFun:=λA xs a e=>match xs with
 |[x0]=>
 A.wr (Xc [.int .i8 0,.int .i8 0,.int .i8 0,jv 0,.int .i8 0,.nils,.str [],.int .i8 0,.int .i8 0,.str [],.nils,.nils,.nils,.nils] [] a) a λd a=>
 A.rd (Xd [.int .i8 0,.int .i8 0,.int .i8 0,jv 0,.int .i8 0,.nils,.str [],.int .i8 0,.int .i8 0,.str [],.nils,.nils,.nils,.nils] [] [] a) λf=>
 A.wr (Xc [.int .i8 0,.int .i8 0,.int .i8 0,jv 0,.int .i8 0,.nils,.str [],.int .i8 0,.int .i8 0,.str [],.nils,.nils,.nils,.nils] [] a) a λb a=>
 A.ws (Zb 14) b f a λ_ a=>joinK (λc=>A.k 201 [x0,(.str [104,97,114,109])] a λg a=>A.test g (A.r (Za 0) b a λh=>A.ws (Zb 1) h (.int .i8 0) a λ_ a=>
 A.k 245 [x0,.bool true] a λi a=>A.r (Za 1) b a λj=>A.ws (Zb 1) j i a λ_ a=>A.k 246 [x0] a λl a=>A.r (Za 2) b a λm=>
 A.ws (Zb 4) m l a λ_ a=>c [] a) (A.k 201 [x0,(.str [109,101,110,100])] a λn a=>A.test n (A.r (Za 0) b a λo=>A.ws (Zb 1) o (.int .i8 1) a λ_ a=>
 A.k 245 [x0,.bool true] a λp a=>A.r (Za 1) b a λq=>A.ws (Zb 1) q p a λ_ a=>A.k 246 [x0] a λs a=>A.r (Za 2) b a λt=>
 A.ws (Zb 4) t s a λ_ a=>c [] a) (A.k 201 [x0,(.str [100,114,97,119])] a λu a=>A.test u (A.r (Za 0) b a λv=>A.ws (Zb 1) v (.int .i8 2) a λ_ a=>
 A.k 245 [x0,.bool false] a λw a=>A.r (Za 1) b a λy=>A.ws (Zb 1) y w a λ_ a=>A.k 246 [x0] a λz a=>A.r (Za 2) b a λa0=>
 A.ws (Zb 4) a0 z a λ_ a=>c [] a) (A.k 201 [x0,(.str [103,97,105,110])] a λa1 a=>A.test a1 (A.r (Za 0) b a λa2=>A.ws (Zb 1) a2 (.int .i8 3) a λ_ a=>
 A.k 246 [x0] a λa3 a=>A.r (Za 2) b a λa4=>A.ws (Zb 4) a4 a3 a λ_ a=>c [] a) (A.k 201 [x0,(.str [100,114,111,112])] a λa5 a=>A.test a5 (
 A.r (Za 0) b a λa6=>A.ws (Zb 1) a6 (.int .i8 4) a λ_ a=>A.k 245 [x0,.bool false] a λa7 a=>A.r (Za 1) b a λa8=>A.ws (Zb 1) a8 a7 a λ_ a=>
 c [] a) (A.k 201 [x0,(.str [115,104,111,119])] a λa9 a=>A.test a9 (A.r (Za 0) b a λb0=>A.ws (Zb 1) b0 (.int .i8 6) a λ_ a=>A.k 245 [x0,.bool false] a λb1 a=>
 A.r (Za 1) b a λb2=>A.ws (Zb 1) b2 b1 a λ_ a=>c [] a) (A.k 201 [x0,(.str [108,111,111,107])] a λb3 a=>A.test b3 (A.r (Za 0) b a λb4=>
 A.ws (Zb 1) b4 (.int .i8 5) a λ_ a=>A.k 246 [x0] a λb5 a=>A.r (Za 2) b a λb6=>A.ws (Zb 4) b6 b5 a λ_ a=>c [] a) (A.k 201 [x0,(.str [115,117,109,109,111,110])] a λb7 a=>
 A.test b7 (A.r (Za 0) b a λb8=>A.ws (Zb 1) b8 (.int .i8 7) a λ_ a=>A.k 200 [x0] a λb9 a=>A.r (Za 6) b a λc0=>A.ws (Zb 1) c0 b9 a λ_ a=>
 c [] a) (A.k 151 [x0,(.str [105,102])] a λc1 a=>A.test c1 (A.k 247 [x0] a λd1 a=>A.k 203 [x0,(.str [105,102])] a λd2 a=>A.r (Za 0) b a λc2=>
 A.ws (Zb 1) c2 (.int .i8 8) a λ_ a=>A.k 248 [x0] a λc3 a=>A.r (Za 7) b a λc4=>A.ws (Zb 5) c4 c3 a λ_ a=>A.k 205 [x0] a λc5 a=>
 A.r (Za 12) b a λc6=>A.ws (Zb 1) c6 c5 a λ_ a=>A.k 203 [x0,(.str [101,108,115,101])] a λd3 a=>A.k 205 [x0] a λc7 a=>A.r (Za 13) b a λc8=>
 A.ws (Zb 1) c8 c7 a λ_ a=>A.k 249 [x0] a λd4 a=>A.r (Zc true 14) b a λc9=>A.ws (Zb 14) d c9 a λ_ a=>A.opt (cellV true 14 d a) λr56=>
 e r56 a) (A.k 152 [x0,jv 120] a λd5 a=>c [] a)))))))))) (λv4 a=>A.k 203 [x0,(.str [59])] a λd6 a=>A.r (Zc true 14) b a λd0=>A.ws (Zb 14) d d0 a λ_ a=>
 A.opt (cellV true 14 d a) λr60=>e r60 a)
 |_=>A.stop
theorem g230_ok:GQ 230 1 g230:=gq1 [some [],none,none,none,none,none,none,none,none,none] λ_ _ _ _ _=>by kernel_rfl
def g231:GFun:=λA xs c f=>match xs with
 |[x0]=>
 A.w1 Zm x0 c λe c=>A.loop (λg d c=>A.r (Za 3) e c λh=>A.a h c λi=>A.r Qd i c λj=>A.b .lss (h0 d) j c λl=>A.test l (A.r (Za 3) e c λm=>
 A.a m c λn=>A.s (Qa 4) n (h0 d) c λo=>A.r (Zc true 4) o c λp=>A.k 231 [p] c λq c=>A.b .add (h1 d) q c λt=>A.b .add (h0 d) (jv 1) c λu=>
 g [u,t] c) (f (h1 d) c)) [jv 0,jv 1] c
 |_=>A.stop
theorem g231_ok:GQ 231 1 g231:=gq1 [none,some [4,3],none,none] λ_ _ _ _ _=>by kernel_rfl
def g232:GFun:=λA xs c g=>match xs with
 |[x0]=>
 A.w1 Zm x0 c λf c=>A.loop (λh d c=>A.r (Za 3) f c λi=>A.a i c λj=>A.r Qd j c λl=>A.b .lss (h0 d) l c λm=>A.test m (A.r (Za 3) f c λn=>
 A.a n c λo=>A.s (Qa 4) o (h0 d) c λp=>A.r (Zc true 4) p c λq=>A.k 231 [q] c λt c=>A.b .add (h1 d) t c λu=>A.b .add (h0 d) (jv 1) c λv=>
 h [v,u] c) (A.loop (λw e c=>A.r (Za 4) f c λy=>A.a y c λz=>A.r Qd z c λa0=>A.b .lss (h0 e) a0 c λa1=>A.test a1 (A.r (Za 4) f c λa2=>
 A.a a2 c λa3=>A.s (Qa 5) a3 (h0 e) c λa4=>A.r (Zc true 5) a4 c λa5=>A.k 232 [a5] c λa6 c=>A.b .add (h1 e) a6 c λa7=>A.b .add (h0 e) (jv 1) c λa8=>
 w [a8,a7] c) (g (h1 e) c)) [jv 0,(h1 d)] c)) [jv 0,jv 1] c
 |_=>A.stop
theorem g232_ok:GQ 232 1 g232:=gq1 [none,some [4,3],none,none,none,some [5,3],none,none] λ_ _ _ _ _=>by kernel_rfl
def g234:GFun:=λA xs c d=>match xs with
 |[x0,x1,x2,x3]=>
 A.dr (Qa 1 [x0,x2] c) c λe f c=>A.dr (Yd [e] c) c λg h c=>A.dr (Qa 1 [x0,x1] c) c λi j c=>A.dr (Yd [i] c) c λl m c=>
 A.dcall (.call 169) [g,l] c λn o c=>A.gd (Qe [[],[],[0,1],[0,1,2],[],[],[4,5],[4,5,6],[0,1,2,3,4,5,6,7]] [([],[]),([],[]),f,h,([],[]),([],[]),j,m,o]) <|
 A.test n (A.r Xa x3 c λp=>A.a p c λq=>A.b .add q (jv 1) c λs=>A.r Xa x3 c λt=>A.ws (Zb 1) t s c λ_ c=>d (.tup [x2,x1]) c) (
 d (.tup [x1,x2]) c)
 |_=>A.stop
theorem g234_ok:GQ 234 4 g234:=gq4 [none] λ_ _ _ _ _ _ _ _=>by kernel_rfl
def g235:GFun:=λA xs a b=>match xs with
 |[x0,x1]=>
 A.w1 Zm x0 a λc a=>A.w1 Zm x1 a λd a=>A.pu (Za 0 [c] a) λe=>A.dr (Yd [e] a) a λf g a=>A.pu (Za 2 [d] a) λh=>A.dr (Zc true 4 [h] a) a λi j a=>
 A.dcall (.call 251) [i] a λl m a=>A.dcall (.call 250) [f,l] a λn o a=>A.pu (Yh .eql false [n,.int .i8 0] a) λp=>A.gd (Qe [[],[0],[],[2],[2,3],[0,1,2,3,4],[0,1,2,3,4,5],[0,1,2,3,4,5,6]] [([],[]),g,([],[]),j,m,o,([],[]),([],[])]) <|
 b p a
 |_=>A.stop
theorem g235_ok:GQ 235 2 g235:=gq2 [] λ_ _ _ _ _ _=>by kernel_rfl
def g236:GFun:=λA xs c d=>match xs with
 |[x0,x1]=>
 A.w1 Zm x0 c λe c=>A.w1 Zm x1 c λj c=>A.r (Za 0) e c λf=>A.a f c λg=>A.k 252 [g] c λh c=>A.b .eql h (.int .i8 0) c λi=>d i c
 |_=>A.stop
theorem g236_ok:GQ 236 2 g236:=gq2 [] λ_ _ _ _ _ _=>by kernel_rfl
def g237:GFun:=λA xs a b=>match xs with
 |[x0,x1]=>
 A.w1 Zm x0 a λc a=>A.w1 Zm x1 a λd a=>A.pu (Za 0 [c] a) λe=>A.dr (Yd [e] a) a λf g a=>A.pu (Za 2 [d] a) λh=>A.dr (Zc true 4 [h] a) a λi j a=>
 A.dcall (.call 251) [i] a λl m a=>A.dcall (.call 250) [f,l] a λn o a=>A.dcall (.call 253) [n,.int .i8 1] a λp q a=>A.gd (Qe [[],[0],[],[2],[2,3],[0,1,2,3,4],[0,1,2,3,4,5],[0,1,2,3,4,5,6]] [([],[]),g,([],[]),j,m,o,q,([],[])]) <|
 b p a
 |_=>A.stop
theorem g237_ok:GQ 237 2 g237:=gq2 [] λ_ _ _ _ _ _=>by kernel_rfl
def g238:GFun:=λA xs b g=>match xs with
 |[x0,x1]=>
 A.w1 Zm x0 b λh b=>A.w1 Zm x1 b λe b=>A.pu (Za 0 [h] b) λi=>A.dr (Yd [i] b) b λj l b=>A.pu (Za 7 [e] b) λm=>A.dr (Zc true 5 [m] b) b λn o b=>
 A.dcall (.call 254) [n] b λp q b=>A.dcall (.call 250) [j,p] b λs t b=>A.pu (Xd [.int .i8 0] [(0,1)] [s] b) λu=>A.dr (Xc [.int .i8 0] [] b) b λf v b=>
 A.dr (Zb 1 [f,u] b) b λ_ w b=>A.gd (Qe [[],[0],[],[2],[2,3],[0,1,2,3,4],[0,1,2,3,4,5],[],[0,1,2,3,4,5,6,7]] [([],[]),l,([],[]),o,q,t,([],[]),v,w]) <|
 A.r (Zc true 1) f b λy=>A.r (Za 12) e b λz=>A.a z b λa0=>A.k 222 [y,a0] b λd b=>A.tr d (Zc true 1) f b λa1=>A.tr d (Za 13) e b λa2=>
 A.ta d a2 b λa3=>A.gw d true (λk=>A.k 222 [a1,a3] b k) b λa4 b=>A.c d a4 (.bool false) b λa5=>g a5 b
 |_=>A.stop
theorem g238_ok:GQ 238 2 g238:=gq2 [] λ_ _ _ _ _ _=>by kernel_rfl
def g239:GFun:=λA xs a c=>match xs with
 |[x0,x1]=>
 A.k 255 [x0,x1] a λd a=>A.b .geq d (jv 0) a λe=>c e a
 |_=>A.stop
theorem g239_ok:GQ 239 2 g239:=gq2 [] λ_ _ _ _ _ _=>by kernel_rfl
def g240:GFun:=λA xs d h=>match xs with
 |[x0,x1,x2]=>
 A.w1 Zm x0 d λf d=>A.r (Zc true 1) x1 d λi=>A.r (Zo (.func 236) 1) i d λj=>A.r (Za 0) f d λl=>A.a l d λm=>A.b .geq m (.int .i8 0) d λe=>
 A.tr e (Za 0) f d λn=>A.ta e n d λo=>A.tr e (ZH .i64) o d λp=>A.tb e .lss p (jv 9) d λq=>A.c e q (.bool false) d λt=>joinK (λg=>
 A.test t (A.r (Za 0) f d λu=>A.a u d λv=>A.s (Yf 9 1) x2 v d λw=>A.a w d λy=>g [y] d) (g [j] d)) (λz d=>A.r (Zc true 14) f d λa0=>
 A.call .callv [(h0 z),a0] d λa1 d=>A.r (Zp .not) a1 d λa2=>h a2 d)
 |_=>A.stop
theorem g240_ok:GQ 240 3 g240:=gq3 [some [5]] λ_ _ _ _ _ _ _=>by kernel_rfl
def g241:GFun:=λA xs a j=>match xs with
 |[x0]=>
 A.w1 Ybv x0 a λm a=>A.loop (λn f a=>A.w1 Xa9 m a λg a=>A.r (Qb 0) g a λo=>A.test o (A.r (Qb 1) g a λl=>A.r (Qb 2) g a λh=>
 A.k 256 [h] a λp a=>A.r (Zp .not) p a λe=>A.tr e Yg l a λq=>A.tb e .eql q (jv 0) a λs=>A.tr e Yg s a λd=>A.fr d Yg h a λt=>A.gw d false (λk=>A.k 257 [t] a k) a λu a=>
 A.fr d (Zp .not) u a λv=>A.fr d Yg v a λi=>A.tr i Yg h a λw=>A.tb i .neq w (.int .i32 39) a λy=>A.fc d i y (.bool false) a λz=>A.tc e d (.bool true) z a λa0=>
 A.c e a0 (.bool false) a λa1=>A.test a1 (j (.tup [l,(h0 f)]) a) (A.b .add (h0 f) (jv 1) a λa2=>n [a2] a)) (A.r Xr x0 a λa3=>j (.tup [a3,(h0 f)]) a)) [jv 0] a
 |_=>A.stop
theorem g241_ok:GQ 241 1 g241:=gq1 [none,some [3],none,none,none] λ_ _ _ _ _=>by kernel_rfl
def g242:GFun:=λA xs a b=>match xs with
 |[x0]=>
 A.k 258 [] a λc a=>A.s (Zq true false (.bool false)) c x0 a λd=>b d a
 |_=>A.stop
theorem g242_ok:GQ 242 1 g242:=gq1 [] λ_ _ _ _ _=>by kernel_rfl
def g243:GFun:=λA xs a e=>match xs with
 |[x0,x1]=>
 A.wr (Xc [.str [],.bool false,jv 0,jv 0,jv 0,jv 0,jv 0,jv 0,.nils,.nils,.nils,jv 0] [] a) a λc a=>A.k 259 [x0,x1] a λd a=>
 A.b .lss d (jv 0) a λf=>A.test f (A.r (Zc true 12) c a λg=>A.ws (Zb 12) c g a λ_ a=>A.opt (cellV true 12 c a) λr4=>e (.tup [r4,jv 0,.bool false]) a) (
 A.s (Qa 12) x0 d a λh=>A.r (Zc true 12) h a λi=>A.ws (Zb 12) c i a λ_ a=>A.opt (cellV true 12 c a) λr7=>e (.tup [r7,d,.bool true]) a)
 |_=>A.stop
theorem g243_ok:GQ 243 2 g243:=gq2 [none] λ_ _ _ _ _ _=>by kernel_rfl
def g244:GFun:=λA xs c d=>match xs with
 |[x0,x1]=>
 A.w1 Zm x0 c λe c=>A.r (Za 0) e c λf=>A.a f c λg=>A.a x1 c λh=>A.b .eql g h c λi=>d i c
 |_=>A.stop
theorem g244_ok:GQ 244 2 g244:=gq2 [] λ_ _ _ _ _ _=>by kernel_rfl
def g245:GFun:=λA xs a b=>match xs with
 |[x0,x1]=>
 A.k 201 [x0,(.str [109,101])] a λd a=>A.test d (b (.int .i8 0) a) (A.k 201 [x0,(.str [102,111,101])] a λe a=>A.test e (b (.int .i8 1) a) (A.tr x1 Yg x0 a λf=>
 A.gw x1 true (λk=>A.k 201 [f,(.str [116,97,114,103,101,116])] a k) a λg a=>A.c x1 g (.bool false) a λh=>A.test h (b (.int .i8 2) a) (A.k 152 [x0,jv 120] a λi a=>
 b (.int .i8 0) a)))
 |_=>A.stop
theorem g245_ok:GQ 245 2 g245:=gq2 [none,none,none,none] λ_ _ _ _ _ _=>by kernel_rfl
def g246:GFun:=λA xs a i=>match xs with
 |[x0]=>
 A.wr (Xc zq2 [] a) a λe a=>A.k 260 [x0] a λj a=>A.wr (Xc zq2 [] a) a λb a=>A.ws (Zb 4) b j a λ_ a=>joinK (λf=>A.loop (λl v6 a=>
 A.k 150 [x0] a λm a=>A.test m (A.k 151 [x0,(.str [45])] a λn a=>joinK (λg=>A.test n (g [.int .i8 9] a) (g [.int .i8 8] a)) (λo a=>A.k 201 [x0,(.str [43])] a λp a=>
 A.r (Zp .not) p a λd=>A.tr d Yg x0 a λq=>A.gw d true (λk=>A.k 201 [q,(.str [45])] a k) a λs a=>A.tr d (Zp .not) s a λt=>A.c d t (.bool false) a λu=>
 A.test u (f [] a) (A.k 260 [x0] a λv a=>A.wr (Xc zq2 [] a) a λh a=>A.ws (Zb 4) h v a λ_ a=>A.r (Zc true 4) b a λw=>A.r (Zc true 4) h a λy=>
 A.k 261 [(h0 o),w,y] a λz a=>A.ws (Zb 4) b z a λ_ a=>l [] a))) (f [] a)) [] a) (λv4 a=>A.r (Zc true 4) b a λa0=>A.ws (Zb 4) e a0 a λ_ a=>
 A.opt (cellV true 4 e a) λr23=>i r23 a)
 |_=>A.stop
theorem g246_ok:GQ 246 1 g246:=gq1 [some [],some [],none,none,some [4],none] λ_ _ _ _ _=>by kernel_rfl
def g247:GFun:=λA xs c d=>match xs with
 |[x0]=>
 A.r Xa x0 c λe=>A.r (Za 2) e c λf=>A.a f c λg=>A.b .add g (jv 1) c λh=>A.r Xa x0 c λi=>A.r (Za 2) i c λj=>
 A.ws (Zb 1) j h c λ_ c=>A.r Xa x0 c λl=>A.r (Za 2) l c λm=>A.a m c λn=>A.b .gtr n (jv 8) c λo=>A.test o (A.k 152 [x0,jv 121] c λp c=>
 d (.tup []) c) (d (.tup []) c)
 |_=>A.stop
theorem g247_ok:GQ 247 1 g247:=gq1 [none] λ_ _ _ _ _=>by kernel_rfl
def g248:GFun:=λA xs a e=>match xs with
 |[x0]=>
 A.wr (Xc [.int .i8 0,.int .i8 0,.str [],.nils,.nils] [] a) a λc a=>A.k 262 [x0] a λf a=>A.wr (Xc [.int .i8 0,.int .i8 0,.str [],.nils,.nils] [] a) a λb a=>
 A.ws (Zb 5) b f a λ_ a=>A.loop (λg p a=>A.k 201 [x0,(.str [111,114])] a λh a=>A.test h (A.k 262 [x0] a λi a=>A.wr (Xc [.int .i8 0,.int .i8 0,.str [],.nils,.nils] [] a) a λd a=>
 A.ws (Zb 5) d i a λ_ a=>A.r (Zc true 5) b a λj=>A.r (Zc true 5) d a λl=>A.wr (Zh 5 2 [.int .i8 0,.int .i8 0,.str [],.nils,.nils,.int .i8 0,.int .i8 0,.str [],.nils,.nils] [(0,5),(5,5)] [j,l] a) a λm a=>
 A.rd (Xd [.int .i8 0,.int .i8 0,.str [],.nils,.nils] [(0,1),(4,1)] [.int .i8 5,m] a) λn=>A.ws (Zb 5) b n a λ_ a=>g [] a) (A.r (Zc true 5) b a λo=>
 A.ws (Zb 5) c o a λ_ a=>A.opt (cellV true 5 c a) λr13=>e r13 a)) [] a
 |_=>A.stop
theorem g248_ok:GQ 248 1 g248:=gq1 [none,some [],none,none] λ_ _ _ _ _=>by kernel_rfl
def g249:GFun:=λA xs c d=>match xs with
 |[x0]=>
 A.r Xa x0 c λe=>A.r (Za 2) e c λf=>A.a f c λg=>A.b .sub g (jv 1) c λh=>A.r Xa x0 c λi=>A.r (Za 2) i c λj=>
 A.ws (Zb 1) j h c λ_ c=>d (.tup []) c
 |_=>A.stop
theorem g249_ok:GQ 249 1 g249:=gq1 [] λ_ _ _ _ _=>by kernel_rfl
def g250:GFun:=λA xs a b=>match xs with
 |[x0,x1]=>
 A.dcall (.call 263) [] a λc d a=>A.dcall (.call 252) [x0] a λe f a=>A.pu (Y8 true 4 4 [c,e] a) λg=>A.dcall (.call 252) [x1] a λh i a=>A.pu (Y8 false 4 1 [g,h] a) λj=>
 A.gd (Qe [[],[],[0,1],[0,1,2],[],[0,1,2,4],[0,1,2,3,4,5],[0,1,2,3,4,5,6]] [d,([],[]),f,([],[]),([],[]),i,([],[]),([],[])]) <|
 b j a
 |_=>A.stop
theorem g250_ok:GQ 250 2 g250:=gq2 [] λ_ _ _ _ _ _=>by kernel_rfl
def g251:GFun:=λA xs d h=>match xs with
 |[x0]=>
 A.w1 Zm x0 d λf d=>A.r (Za 0) f d λl=>A.a l d λm=>A.b .eql m (.int .i8 6) d λn=>A.test n (h (.int .i8 3) d) (A.r (Za 0) f d λo=>
 A.a o d λp=>A.b .geq p (.int .i8 8) d λg=>A.tr g (Za 0) f d λq=>A.ta g q d λt=>A.tb g .leq t (.int .i8 12) d λu=>A.c g u (.bool false) d λv=>
 A.test v (A.r (Za 3) f d λw=>A.a w d λi=>A.r Qd i d λy=>A.loop (λz e d=>A.b .lss (h0 e) y d λa0=>A.test a0 (A.s (Qa 4) i (h0 e) d λa1=>
 A.r (Zc true 4) a1 d λa2=>A.wr (Xc zq2 [] d) d λj d=>A.ws (Zb 4) j a2 d λ_ d=>A.r (Zc true 4) j d λa3=>A.k 251 [a3] d λa4 d=>
 A.k 250 [(h1 e),a4] d λa5 d=>A.b .add (h0 e) (jv 1) d λa6=>z [a6,a5] d) (h (h1 e) d)) [jv 0,.int .i8 0] d) (h (.int .i8 0) d))
 |_=>A.stop
theorem g251_ok:GQ 251 1 g251:=gq1 [none,none,none,none,some [22,3],none,none] λ_ _ _ _ _=>by kernel_rfl
def g252:GFun:=λA xs a e=>match xs with
 |[x0]=>
 A.b .lss x0 (.int .i8 0) a λd=>A.fr d Yg x0 a λf=>A.fb d .gtr f (.int .i8 3) a λg=>A.c d (.bool true) g a λh=>A.test h (e (.int .i8 3) a) (e x0 a)
 |_=>A.stop
theorem g252_ok:GQ 252 1 g252:=gq1 [none] λ_ _ _ _ _=>by kernel_rfl
def g253:GFun:=λA xs a c=>match xs with
 |[x0,x1]=>
 A.k 250 [x0,x1] a λd a=>A.k 252 [x1] a λe a=>A.b .eql d e a λf=>c f a
 |_=>A.stop
theorem g253_ok:GQ 253 2 g253:=gq2 [] λ_ _ _ _ _ _=>by kernel_rfl
def g254:GFun:=λA xs c f=>match xs with
 |[x0]=>
 A.w1 Zm x0 c λg c=>A.r (Za 0) g c λn=>A.a n c λo=>A.b .eql o (.int .i8 6) c λp=>A.test p (A.r (Za 1) g c λq=>A.a q c λh=>
 A.b .eql h (.int .i8 0) c λt=>A.test t (f (.int .i8 1) c) (A.b .eql h (.int .i8 1) c λu=>A.test u (f (.int .i8 2) c) (f (.int .i8 3) c))) (A.r (Za 3) g c λv=>
 A.a v c λi=>A.r Qd i c λw=>A.loop (λy d c=>A.b .lss (h0 d) w c λz=>A.test z (A.s (Qa 4) i (h0 d) c λa0=>A.r (Zc true 4) a0 c λa1=>
 A.wr (Xc zq2 [] c) c λj c=>A.ws (Zb 4) j a1 c λ_ c=>A.r (Zc true 4) j c λa2=>A.k 251 [a2] c λa3 c=>A.k 250 [(h1 d),a3] c λa4 c=>
 A.b .add (h0 d) (jv 1) c λa5=>y [a5,a4] c) (A.r (Za 4) g c λa6=>A.a a6 c λl=>A.r Qd l c λa7=>A.loop (λa8 e c=>A.b .lss (h0 e) a7 c λa9=>
 A.test a9 (A.s (Qa 5) l (h0 e) c λb0=>A.r (Zc true 5) b0 c λb1=>A.wr (Xc [.int .i8 0,.int .i8 0,.str [],.nils,.nils] [] c) c λm c=>
 A.ws (Zb 5) m b1 c λ_ c=>A.r (Zc true 5) m c λb2=>A.k 254 [b2] c λb3 c=>A.k 250 [(h1 e),b3] c λb4 c=>A.b .add (h0 e) (jv 1) c λb5=>
 a8 [b5,b4] c) (f (h1 e) c)) [jv 0,(h1 d)] c)) [jv 0,.int .i8 0] c)
 |_=>A.stop
theorem g254_ok:GQ 254 1 g254:=gq1 [none,none,none,none,none,some [20,3],none,none,none,some [32,3],none,none] λ_ _ _ _ _=>by kernel_rfl
def g255:GFun:=λA xs a d=>match xs with
 |[x0,x1]=>
 A.r Qd x0 a λe=>A.loop (λf c a=>A.b .lss (h0 c) e a λg=>A.test g (A.s (Qa 14) x0 (h0 c) a λh=>A.r (Zc true 14) h a λi=>A.call .callv [x1,i] a λj a=>
 A.test j (d (h0 c) a) (A.b .add (h0 c) (jv 1) a λl=>f [l] a)) (d (jv (-1)) a)) [jv 0] a
 |_=>A.stop
theorem g255_ok:GQ 255 2 g255:=gq2 [none,some [8],none,none,none] λ_ _ _ _ _ _=>by kernel_rfl
def g256:GFun:=λA xs a d=>match xs with
 |[x0]=>
 A.b .geq x0 (.int .i32 97) a λe=>A.tr e Yg x0 a λm=>A.tb e .leq m (.int .i32 122) a λn=>A.c e n (.bool false) a λh=>joinK (λi=>A.test h (i [h] a) (
 A.b .geq x0 (.int .i32 65) a λf=>A.tr f Yg x0 a λo=>A.tb f .leq o (.int .i32 90) a λp=>A.c f p (.bool false) a λq=>i [q] a)) (λr a=>A.test (h0 r) (
 d (.bool true) a) (A.b .eql x0 (.int .i32 215) a λj=>joinK (λl=>A.test j (l [j] a) (A.b .eql x0 (.int .i32 247) a λs=>l [s] a)) (λt a=>A.test (h0 t) (
 d (.bool false) a) (A.b .geq x0 (.int .i32 192) a λg=>A.tr g Yg x0 a λu=>A.tb g .leq u (.int .i32 591) a λv=>A.c g v (.bool false) a λw=>d w a))))
 |_=>A.stop
theorem g256_ok:GQ 256 1 g256:=gq1 [none,some [3],none,some [16],none] λ_ _ _ _ _=>by kernel_rfl
def g257:GFun:=λA xs a e=>match xs with
 |[x0]=>
 A.b .geq x0 (.int .i32 48) a λd=>A.tr d Yg x0 a λf=>A.tb d .leq f (.int .i32 57) a λg=>A.c d g (.bool false) a λh=>e h a
 |_=>A.stop
theorem g257_ok:GQ 257 1 g257:=gq1 [] λ_ _ _ _ _=>by kernel_rfl
def g258:GFun:=λA xs c g=>match xs with
 |[]=>
 A.wr (ZE [] c) c λe c=>A.k 264 [(.str [99,97,114,100,32,117,110,105,116,32,99,104,97,114,109,32,102,111,114,109,97,116,32,112,108,97,121,101,100,32,100,101,97,100,32,100,97,119,110,32,97,117,114,97,32,115,104,105,101,108,100,32,104,97,114,109,32,109,101,110,100,32,100,114,97,119,32,103,97,105,110,32,100,114,111,112,32,108,111,111,107,32,115,104,111,119,32,115,117,109,109,111,110,32,105,102,32,101,108,115,101,32,109,101,32,102,111,101,32,116,97,114,103,101,116,32,108,105,102,101,32,104,97,110,100,32,100,101,99,107,32,117,110,105,116,115,32,109,97,110,97,32,99,111,115,116,32,116,111,112,32,112,111,119,101,114,32,109,105,110,32,109,97,120,32,110,111,116,32,97,110,100,32,111,114,32,104,111,108,100,115,32,108,101,97,115,116,32,109,111,115,116,32,99,111,112,105,101,115,32,98,97,110,110,101,100,32,115,105,110,103,108,101])] c λf c=>
 A.r Qd f c λh=>A.loop (λi d c=>A.b .lss (h0 d) h c λj=>A.test j (A.s (Qa 1) f (h0 d) c λl=>A.a l c λm=>A.wr (Xw true [e,m,.bool true] c) c λ_ c=>
 A.b .add (h0 d) (jv 1) c λn=>i [n] c) (g e c)) [jv 0] c
 |_=>A.stop
theorem g258_ok:GQ 258 0 g258:=gq0 [none,some [7],none,none] λ_ _ _ _=>by kernel_rfl
def g259:GFun:=λA xs a d=>match xs with
 |[x0,x1]=>
 A.r Qd x0 a λe=>A.loop (λf c a=>A.b .lss (h0 c) e a λg=>A.test g (A.s (Qa 12) x0 (h0 c) a λh=>A.r (Zc true 12) h a λi=>A.call .callv [x1,i] a λj a=>
 A.test j (d (h0 c) a) (A.b .add (h0 c) (jv 1) a λl=>f [l] a)) (d (jv (-1)) a)) [jv 0] a
 |_=>A.stop
theorem g259_ok:GQ 259 2 g259:=gq2 [none,some [8],none,none,none] λ_ _ _ _ _ _=>by kernel_rfl
def g260:GFun:=λA xs a e=>match xs with
 |[x0]=>
 A.wr (Xc zq2 [] a) a λc a=>A.k 265 [x0] a λf a=>A.wr (Xc zq2 [] a) a λb a=>A.ws (Zb 4) b f a λ_ a=>A.loop (λg o a=>A.k 201 [x0,(.str [42])] a λh a=>
 A.test h (A.k 265 [x0] a λi a=>A.wr (Xc zq2 [] a) a λd a=>A.ws (Zb 4) d i a λ_ a=>A.r (Zc true 4) b a λj=>A.r (Zc true 4) d a λl=>
 A.k 261 [.int .i8 10,j,l] a λm a=>A.ws (Zb 4) b m a λ_ a=>g [] a) (A.r (Zc true 4) b a λn=>A.ws (Zb 4) c n a λ_ a=>A.opt (cellV true 4 c a) λr12=>
 e r12 a)) [] a
 |_=>A.stop
theorem g260_ok:GQ 260 1 g260:=gq1 [none,some [],none,none] λ_ _ _ _ _=>by kernel_rfl
def g261:GFun:=λA xs a c=>match xs with
 |[x0,x1,x2]=>
 A.w1 Zm x1 a λd a=>A.w1 Zm x2 a λe a=>A.wr (Xc zq2 [] a) a λb a=>A.r (Zc true 4) d a λf=>A.r (Zc true 4) e a λg=>A.wr (Zh 4 2 [.int .i8 0,jv 0,.int .i8 0,.nils,.int .i8 0,jv 0,.int .i8 0,.nils] [(0,4),(4,4)] [f,g] a) a λh a=>
 A.rd (Xd zq2 [(0,1),(3,1)] [x0,h] a) λi=>A.ws (Zb 4) b i a λ_ a=>A.opt (cellV true 4 b a) λr7=>c r7 a
 |_=>A.stop
theorem g261_ok:GQ 261 3 g261:=gq3 [] λ_ _ _ _ _ _ _=>by kernel_rfl
def g262:GFun:=λA xs a e=>match xs with
 |[x0]=>
 A.wr (Xc [.int .i8 0,.int .i8 0,.str [],.nils,.nils] [] a) a λc a=>A.k 266 [x0] a λf a=>A.wr (Xc [.int .i8 0,.int .i8 0,.str [],.nils,.nils] [] a) a λb a=>
 A.ws (Zb 5) b f a λ_ a=>A.loop (λg p a=>A.k 201 [x0,(.str [97,110,100])] a λh a=>A.test h (A.k 266 [x0] a λi a=>A.wr (Xc [.int .i8 0,.int .i8 0,.str [],.nils,.nils] [] a) a λd a=>
 A.ws (Zb 5) d i a λ_ a=>A.r (Zc true 5) b a λj=>A.r (Zc true 5) d a λl=>A.wr (Zh 5 2 [.int .i8 0,.int .i8 0,.str [],.nils,.nils,.int .i8 0,.int .i8 0,.str [],.nils,.nils] [(0,5),(5,5)] [j,l] a) a λm a=>
 A.rd (Xd [.int .i8 0,.int .i8 0,.str [],.nils,.nils] [(0,1),(4,1)] [.int .i8 4,m] a) λn=>A.ws (Zb 5) b n a λ_ a=>g [] a) (A.r (Zc true 5) b a λo=>
 A.ws (Zb 5) c o a λ_ a=>A.opt (cellV true 5 c a) λr13=>e r13 a)) [] a
 |_=>A.stop
theorem g262_ok:GQ 262 1 g262:=gq1 [none,some [],none,none] λ_ _ _ _ _=>by kernel_rfl
def g263:GFun:=λA xs a c=>match xs with
 |[]=>
 A.wr (Xc [.int .i8 0,.int .i8 0,.int .i8 0,.int .i8 0,.int .i8 0,.int .i8 0,.int .i8 0,.int .i8 0,.int .i8 0,.int .i8 0,.int .i8 0,.int .i8 0,.int .i8 0,.int .i8 0,.int .i8 0,.int .i8 0] [] a) a λb a=>
 A.rd (Xd zq5 [(0,1),(1,1),(2,1),(3,1)] [.int .i8 0,.int .i8 1,.int .i8 2,.int .i8 3] a) λd=>A.rd (Xd zq5 [(0,1),(1,1),(2,1),(3,1)] [.int .i8 1,.int .i8 1,.int .i8 3,.int .i8 3] a) λe=>
 A.rd (Xd zq5 [(0,1),(1,1),(2,1),(3,1)] [.int .i8 2,.int .i8 3,.int .i8 2,.int .i8 3] a) λf=>A.rd (Xd zq5 [(0,1),(1,1),(2,1),(3,1)] [.int .i8 3,.int .i8 3,.int .i8 3,.int .i8 3] a) λg=>
 A.rd (Xd [.int .i8 0,.int .i8 0,.int .i8 0,.int .i8 0,.int .i8 0,.int .i8 0,.int .i8 0,.int .i8 0,.int .i8 0,.int .i8 0,.int .i8 0,.int .i8 0,.int .i8 0,.int .i8 0,.int .i8 0,.int .i8 0] [(0,4),(4,4),(8,4),(12,4)] [d,e,f,g] a) λh=>
 A.ws (Zb 16) b h a λ_ a=>A.opt (cellV true 16 b a) λr6=>c r6 a
 |_=>A.stop
theorem g263_ok:GQ 263 0 g263:=gq0 [] λ_ _ _ _=>by kernel_rfl
def g264:GFun:=λA xs d m=>match xs with
 |[x0]=>
 A.loop (λq f d=>A.r Xr x0 d λt=>A.b .lss (h0 f) t d λu=>A.test u (A.s Yy x0 (h0 f) d λn=>A.b .or (h1 f) n d λv=>A.s (Yf 256 1) (.rptr row0 0) n d λw=>
 A.a w d λy=>A.r (ZH .i64) y d λo=>A.r (Zp .xor) o d λz=>A.b .and (h3 f) z d λa0=>A.b .add (h2 f) a0 d λa1=>A.b .add (h0 f) (jv 1) d λa2=>
 q [a2,v,a1,o] d) (A.b .geq (h1 f) (.int .u8 128) d λa3=>A.test a3 (A.k 267 [x0,(.func (.func 268) [] [])] d λa4 d=>m a4 d) (A.wr (Zbq 1 16 [.str []] [(h2 f)] d) d λl d=>
 A.loop (λa5 i d=>A.r Xr x0 d λa6=>A.b .lss (h0 i) a6 d λg=>A.tr g Yg x0 d λa7=>A.tr g Yg (h0 i) d λa8=>A.ts g Yy a7 a8 d λa9=>
 A.ts g (Yf 256 1) (.rptr row0 0) a9 d λb0=>A.ta g b0 d λb1=>A.tb g .neq b1 (.int .u8 0) d λb2=>A.c g b2 (.bool false) d λb3=>A.test b3 (
 A.b .add (h0 i) (jv 1) d λb4=>a5 [b4] d) (A.loop (λp e d=>A.r Xr x0 d λb5=>A.b .lss (h0 e) b5 d λb6=>A.test b6 (A.s Yy x0 (h0 e) d λb7=>
 A.s (Yf 256 1) (.rptr row0 0) b7 d λb8=>A.a b8 d λb9=>A.b .eql b9 (.int .u8 0) d λc0=>A.test c0 (A.b .add (h0 e) (jv 1) d λc1=>p [c1,(h1 e),(h2 e)] d) (
 A.rd (XX [x0,(h2 e),(h0 e)] d) λc2=>A.s (Qa 1) l (h1 e) d λc3=>A.ws (Zb 1) c3 c2 d λ_ d=>A.b .add (h1 e) (jv 1) d λc4=>A.b .add (h0 e) (jv 1) d λc5=>
 A.loop (λc6 j d=>A.r Xr x0 d λc7=>A.b .lss (h0 j) c7 d λh=>A.tr h Yg x0 d λc8=>A.tr h Yg (h0 j) d λc9=>A.ts h Yy c8 c9 d λd0=>
 A.ts h (Yf 256 1) (.rptr row0 0) d0 d λd1=>A.ta h d1 d λd2=>A.tb h .neq d2 (.int .u8 0) d λd3=>A.c h d3 (.bool false) d λd4=>A.test d4 (
 A.b .add (h0 j) (jv 1) d λd5=>c6 [d5] d) (p [(h0 j),c4,(h0 j)] d)) [c5] d)) (A.r Xr x0 d λd6=>A.b .lss (h2 e) d6 d λd7=>A.test d7 (A.s Zah x0 (h2 e) d λd8=>
 A.s (Qa 1) l (h1 e) d λd9=>A.ws (Zb 1) d9 d8 d λ_ d=>m l d) (m l d))) [(h0 i),jv 0,(h0 i)] d)) [jv 0] d))) [jv 0,.int .u8 0,jv 0,jv 1] d
 |_=>A.stop
theorem g264_ok:GQ 264 1 g264:=gq1 [none,some [6,5,3,4],none,none,none,none,some [12],none,none,none,some [12,10,11],none,none,none,none,some [12],none,none,none] λ_ _ _ _ _=>by kernel_rfl
def g265:GFun:=λA xs d f=>match xs with
 |[x0]=>
 A.wr (Xc zq2 [] d) d λe d=>A.pu (Xa [x0] d) λu=>A.pu (Za 0 [u] d) λv=>A.dr (Yd [v] d) d λw y d=>A.pu (Xa [x0] d) λz=>
 A.pu (Za 1 [z] d) λt6=>A.dr (Yd [t6] d) d λt7 l8 d=>A.dr (Qa 4 [w,t7] d) d λt9 a0 d=>A.dr (Zc true 4 [t9] d) d λa1 a2 d=>
 A.dr (Xc [.int .i8 0,.str [],jv 0,jv 0] [] d) d λi a3 d=>A.dr (Zb 4 [i,a1] d) d λ_ a4 d=>A.gd (Qe [[],[0],[0,1],[0,1,2],[],[4],[4,5],[4,5,6],[0,1,2,3,4,5,6,7],[0,1,2,3,4,5,6,7,8],[],[0,1,2,3,4,5,6,7,8,9,10]] [([],[]),([],[]),([],[]),y,([],[]),([],[]),([],[]),l8,a0,a2,a3,a4]) <|
 A.k 150 [x0] d λg d=>A.tr g (Za 0) i d λa5=>A.ta g a5 d λa6=>A.tb g .eql a6 (.int .i8 2) d λa7=>A.c g a7 (.bool false) d λa8=>A.test a8 (
 A.r Xa x0 d λa9=>A.r (Za 1) a9 d λb0=>A.a b0 d λb1=>A.b .add b1 (jv 1) d λb2=>A.r Xa x0 d λb3=>A.r (Za 1) b3 d λb4=>
 A.ws (Zb 1) b4 b2 d λ_ d=>A.r (Za 2) i d λb5=>A.a b5 d λb6=>A.rd (Xd zq2 [(1,1)] [b6] d) λb7=>A.ws (Zb 4) e b7 d λ_ d=>
 A.opt (cellV true 4 e d) λr30=>f r30 d) (A.wr (Zh 1 5 [.str [],.str [],.str [],.str [],.str []] [(0,1),(1,1),(2,1),(3,1),(4,1)] [.str [],(.str [108,105,102,101]),(.str [104,97,110,100]),(.str [100,101,99,107]),(.str [117,110,105,116,115])] d) d λl d=>
 A.loop (λb8 h d=>A.r Qd l d λb9=>A.b .lss (h0 h) b9 d λc0=>A.test c0 (A.s (Qa 1) l (h0 h) d λc1=>A.a c1 d λc2=>A.k 201 [x0,c2] d λc3 d=>
 A.test c3 (A.k 203 [x0,(.str [40])] d λf7 d=>A.r (ZH .i8) (h0 h) d λc4=>A.k 245 [x0,.bool false] d λc5 d=>A.rd (Xd zq2 [(0,1),(2,1)] [c4,c5] d) λc6=>
 A.wr (Xc zq2 [] d) d λm d=>A.ws (Zb 4) m c6 d λ_ d=>A.k 203 [x0,(.str [41])] d λf8 d=>A.r (Zc true 4) m d λc7=>A.ws (Zb 4) e c7 d λ_ d=>
 A.opt (cellV true 4 e d) λr46=>f r46 d) (A.b .add (h0 h) (jv 1) d λc8=>b8 [c8] d)) (A.k 201 [x0,(.str [109,97,110,97])] d λc9 d=>A.test c9 (A.k 203 [x0,(.str [40])] d λf9 d=>
 A.k 203 [x0,(.str [109,101])] d λg0 d=>A.k 203 [x0,(.str [41])] d λg1 d=>A.rd (Xd zq2 [(0,1)] [.int .i8 5] d) λd0=>A.ws (Zb 4) e d0 d λ_ d=>
 A.opt (cellV true 4 e d) λr53=>f r53 d) (A.k 201 [x0,(.str [99,111,115,116])] d λd1 d=>A.test d1 (A.k 203 [x0,(.str [40])] d λg2 d=>A.k 203 [x0,(.str [116,111,112])] d λg3 d=>
 A.k 203 [x0,(.str [40])] d λg4 d=>A.k 203 [x0,(.str [109,101])] d λg5 d=>A.k 203 [x0,(.str [41])] d λg6 d=>A.k 203 [x0,(.str [41])] d λg7 d=>
 A.rd (Xd zq2 [(0,1)] [.int .i8 6] d) λd2=>A.ws (Zb 4) e d2 d λ_ d=>A.opt (cellV true 4 e d) λr62=>f r62 d) (A.k 201 [x0,(.str [112,111,119,101,114])] d λd3 d=>
 A.test d3 (A.k 203 [x0,(.str [40])] d λg8 d=>A.k 203 [x0,(.str [116,97,114,103,101,116])] d λg9 d=>A.k 203 [x0,(.str [41])] d λi0 d=>A.rd (Xd zq2 [(0,1)] [.int .i8 7] d) λd4=>
 A.ws (Zb 4) e d4 d λ_ d=>A.opt (cellV true 4 e d) λr68=>f r68 d) (A.k 151 [x0,(.str [109,105,110])] d λj d=>A.fr j Yg x0 d λd5=>A.gw j false (λk=>A.k 151 [d5,(.str [109,97,120])] d k) d λd6 d=>
 A.c j (.bool true) d6 d λd7=>A.test d7 (A.k 151 [x0,(.str [109,97,120])] d λd8 d=>joinK (λn=>A.test d8 (n [.int .i8 12] d) (n [.int .i8 11] d)) (λd9 d=>
 A.r Xa x0 d λe0=>A.r (Za 1) e0 d λe1=>A.a e1 d λe2=>A.b .add e2 (jv 1) d λe3=>A.r Xa x0 d λe4=>A.r (Za 1) e4 d λe5=>
 A.ws (Zb 1) e5 e3 d λ_ d=>A.k 151 [x0,(.str [40])] d λe6 d=>A.r (Zp .not) e6 d λe7=>joinK (λo=>A.test e7 (A.k 152 [x0,jv 120] d λi1 d=>
 o [] d) (o [] d)) (λi2 d=>A.k 247 [x0] d λi3 d=>A.k 203 [x0,(.str [40])] d λi4 d=>A.k 246 [x0] d λe8 d=>A.wr (Xc zq2 [] d) d λp d=>A.ws (Zb 4) p e8 d λ_ d=>
 A.k 203 [x0,(.str [44])] d λi5 d=>A.k 246 [x0] d λe9 d=>A.wr (Xc zq2 [] d) d λq d=>A.ws (Zb 4) q e9 d λ_ d=>A.k 203 [x0,(.str [41])] d λi6 d=>
 A.k 249 [x0] d λi7 d=>A.r (Zc true 4) p d λf0=>A.r (Zc true 4) q d λf1=>A.k 261 [(h0 d9),f0,f1] d λf2 d=>A.ws (Zb 4) e f2 d λ_ d=>
 A.opt (cellV true 4 e d) λr99=>f r99 d))) (A.k 151 [x0,(.str [40])] d λf3 d=>A.test f3 (A.k 247 [x0] d λi9 d=>A.k 203 [x0,(.str [40])] d λj0 d=>
 A.k 246 [x0] d λf4 d=>A.wr (Xc zq2 [] d) d λt d=>A.ws (Zb 4) t f4 d λ_ d=>A.k 203 [x0,(.str [41])] d λj1 d=>A.k 249 [x0] d λj2 d=>
 A.r (Zc true 4) t d λf5=>A.ws (Zb 4) e f5 d λ_ d=>A.opt (cellV true 4 e d) λr108=>f r108 d) (A.k 152 [x0,jv 120] d λj3 d=>A.rd (Xd zq2 [] [] d) λf6=>
 A.ws (Zb 4) e f6 d λ_ d=>A.opt (cellV true 4 e d) λr111=>f r111 d))))))) [jv 1] d)
 |_=>A.stop
theorem g265_ok:GQ 265 1 g265:=gq1 [none,none,some [5],none,none,none,none,none,none,none,none,some [7],some [],none] λ_ _ _ _ _=>by kernel_rfl
def g266:GFun:=λA xs a d=>match xs with
 |[x0]=>
 A.wr (Xc [.int .i8 0,.int .i8 0,.str [],.nils,.nils] [] a) a λb a=>A.k 151 [x0,(.str [110,111,116])] a λm a=>A.test m (A.k 247 [x0] a λt2 a=>
 A.k 203 [x0,(.str [110,111,116])] a λt3 a=>A.k 266 [x0] a λn a=>A.wr (Xc [.int .i8 0,.int .i8 0,.str [],.nils,.nils] [] a) a λh a=>
 A.ws (Zb 5) h n a λ_ a=>A.k 249 [x0] a λt6 a=>A.r (Zc true 5) h a λo=>A.wr (Zh 5 1 [.int .i8 0,.int .i8 0,.str [],.nils,.nils] [(0,5)] [o] a) a λp a=>
 A.rd (Xd [.int .i8 0,.int .i8 0,.str [],.nils,.nils] [(0,1),(4,1)] [.int .i8 3,p] a) λq=>A.ws (Zb 5) b q a λ_ a=>A.opt (cellV true 5 b a) λr10=>
 d r10 a) (A.k 151 [x0,(.str [40])] a λf a=>A.tr f Yg x0 a λs=>A.gw f true (λk=>A.k 269 [s] a k) a λt a=>A.c f t (.bool false) a λu=>A.test u (
 A.k 247 [x0] a λb4 a=>A.k 203 [x0,(.str [40])] a λb5 a=>A.k 248 [x0] a λv a=>A.wr (Xc [.int .i8 0,.int .i8 0,.str [],.nils,.nils] [] a) a λi a=>
 A.ws (Zb 5) i v a λ_ a=>A.k 203 [x0,(.str [41])] a λb6 a=>A.k 249 [x0] a λb7 a=>A.r (Zc true 5) i a λw=>A.ws (Zb 5) b w a λ_ a=>
 A.opt (cellV true 5 b a) λr22=>d r22 a) (A.k 201 [x0,(.str [104,111,108,100,115])] a λy a=>A.test y (A.k 203 [x0,(.str [40])] a λb8 a=>A.k 245 [x0,.bool false] a λz a=>
 A.rd (Xd [.int .i8 0,.int .i8 0,.str [],.nils,.nils] [(0,1),(1,1)] [.int .i8 6,z] a) λa0=>A.wr (Xc [.int .i8 0,.int .i8 0,.str [],.nils,.nils] [] a) a λg a=>
 A.ws (Zb 5) g a0 a λ_ a=>A.k 203 [x0,(.str [44])] a λb9 a=>A.k 200 [x0] a λa1 a=>A.r (Za 2) g a λa2=>A.ws (Zb 1) a2 a1 a λ_ a=>
 A.k 203 [x0,(.str [41])] a λc0 a=>A.r (Zc true 5) g a λa3=>A.ws (Zb 5) b a3 a λ_ a=>A.opt (cellV true 5 b a) λr33=>d r33 a) (A.k 246 [x0] a λa4 a=>
 A.wr (Xc zq2 [] a) a λj a=>A.ws (Zb 4) j a4 a λ_ a=>joinK (λe=>A.k 201 [x0,(.str [60])] a λa5 a=>A.test a5 (e [.int .i8 0] a) (A.k 201 [x0,(.str [60,61])] a λa6 a=>
 A.test a6 (e [.int .i8 1] a) (A.k 201 [x0,(.str [61,61])] a λa7 a=>A.test a7 (e [.int .i8 2] a) (A.k 152 [x0,jv 120] a λc1 a=>e [.int .i8 0] a)))) (λa8 a=>
 A.k 246 [x0] a λa9 a=>A.wr (Xc zq2 [] a) a λl a=>A.ws (Zb 4) l a9 a λ_ a=>A.r (Zc true 4) j a λb0=>A.r (Zc true 4) l a λb1=>
 A.wr (Zh 4 2 [.int .i8 0,jv 0,.int .i8 0,.nils,.int .i8 0,jv 0,.int .i8 0,.nils] [(0,4),(4,4)] [b0,b1] a) a λb2 a=>A.rd (Xd [.int .i8 0,.int .i8 0,.str [],.nils,.nils] [(0,1),(3,1)] [(h0 a8),b2] a) λb3=>
 A.ws (Zb 5) b b3 a λ_ a=>A.opt (cellV true 5 b a) λr48=>d r48 a))))
 |_=>A.stop
theorem g266_ok:GQ 266 1 g266:=gq1 [none,none,none,none,some [7],none,none,none] λ_ _ _ _ _=>by kernel_rfl
def g269:GFun:=λA xs c g=>match xs with
 |[x0]=>
 A.r Xa x0 c λw=>A.r (Za 1) w c λy=>A.a y c λz=>A.loop (λa0 d c=>A.r Xa x0 c λt5=>A.r (Za 0) t5 c λt6=>
 A.a t6 c λt7=>A.r Qd t7 c λt8=>A.b .lss (h0 d) t8 c λt9=>A.test t9 (joinK (λj=>A.r Xa x0 c λa1=>A.r (Za 0) a1 c λa2=>
 A.a a2 c λa3=>A.s (Qa 4) a3 (h0 d) c λa4=>A.r (Zc true 4) a4 c λa5=>A.wr (Xc [.int .i8 0,.str [],jv 0,jv 0] [] c) c λh c=>
 A.ws (Zb 4) h a5 c λ_ c=>A.r (Za 0) h c λa6=>A.a a6 c λa7=>A.b .neq a7 (.int .i8 3) c λa8=>A.test a8 (j [(h1 d)] c) (A.r (Za 1) h c λa9=>
 A.a a9 c λb0=>A.rd (Yh .eql false [b0,(.str [40])] c) λb1=>joinK (λl=>A.test b1 (A.b .add (h1 d) (jv 1) c λb2=>l [b2] c) (l [(h1 d)] c)) (λm c=>
 A.r (Za 1) h c λb3=>A.a b3 c λb4=>A.rd (Yh .eql false [b4,(.str [41])] c) λb5=>joinK (λn=>A.test b5 (A.b .sub (h0 m) (jv 1) c λb6=>
 n [b6] c) (n [(h0 m)] c)) (λo c=>A.b .eql (h0 o) (jv 0) c λb7=>A.test b7 (A.r Xa x0 c λb8=>A.r (Za 0) b8 c λb9=>A.a b9 c λc0=>
 A.b .add (h0 d) (jv 1) c λc1=>A.s (Qa 4) c0 c1 c λc2=>A.r (Zc true 4) c2 c λc3=>A.wr (Xc [.int .i8 0,.str [],jv 0,jv 0] [] c) c λi c=>
 A.ws (Zb 4) i c3 c λ_ c=>A.r (Za 0) i c λc4=>A.a c4 c λc5=>A.b .neq c5 (.int .i8 3) c λc6=>A.test c6 (g (.bool true) c) (A.r (Za 1) i c λc7=>
 A.a c7 c λe=>A.rd (Yh .eql false [e,(.str [60])] c) λp=>joinK (λf=>A.test p (f [p] c) (A.rd (Yh .eql false [e,(.str [60,61])] c) λq=>A.test q (
 f [q] c) (A.rd (Yh .eql false [e,(.str [61,61])] c) λt=>A.test t (f [t] c) (A.rd (Yh .eql false [e,(.str [43])] c) λu=>A.test u (f [u] c) (A.rd (Yh .eql false [e,(.str [45])] c) λv=>
 A.test v (f [v] c) (A.rd (Yh .eql false [e,(.str [42])] c) λc8=>f [c8] c)))))) (λc9 c=>A.test (h0 c9) (g (.bool false) c) (g (.bool true) c)))) (j [(h0 o)] c))))) (λd0 c=>
 A.b .add (h0 d) (jv 1) c λd1=>a0 [d1,(h0 d0)] c)) (g (.bool true) c)) [z,jv 0] c
 |_=>A.stop
theorem g269_ok:GQ 269 1 g269:=gq1 [none,some [4,3],none,some [3],none,some [3],some [3],none,none,none,some [55],none,none,none,none,none] λ_ _ _ _ _=>by kernel_rfl
def tb:GT:=(.node 192 1 g192 (.node 121 1 g121 (.node 72 3 g72 (.node 57 1 g57 (.node 53 0 g53 (.node 22 5 g22 (.node 18 3 g18 (.node 17 0 g17 .leaf .leaf) .leaf) (.node 27 3 g27 .leaf .leaf)) (.node 55 2 g55 (.node 54 3 g54 .leaf .leaf) (.node 56 2 g56 .leaf .leaf))) (.node 65 1 g65 (.node 59 1 g59 (.node 58 2 g58 .leaf .leaf) (.node 64 7 g64 .leaf .leaf)) (.node 67 1 g67 (.node 66 4 g66 .leaf .leaf) (.node 71 2 g71 .leaf .leaf)))) (.node 111 3 g111 (.node 77 2 g77 (.node 75 3 g75 (.node 74 2 g74 (.node 73 2 g73 .leaf .leaf) .leaf) (.node 76 1 g76 .leaf .leaf)) (.node 96 1 g96 (.node 78 1 g78 .leaf .leaf) (.node 110 1 g110 .leaf .leaf))) (.node 115 2 g115 (.node 113 1 g113 (.node 112 1 g112 .leaf .leaf) (.node 114 1 g114 .leaf .leaf)) (.node 119 2 g119 (.node 118 2 g118 .leaf .leaf) (.node 120 2 g120 .leaf .leaf))))) (.node 155 2 g155 (.node 147 1 g147 (.node 143 1 g143 (.node 130 1 g130 (.node 124 1 g124 (.node 122 1 g122 .leaf .leaf) .leaf) (.node 142 1 g142 .leaf .leaf)) (.node 145 2 g145 (.node 144 4 g144 .leaf .leaf) (.node 146 2 g146 .leaf .leaf))) (.node 151 2 g151 (.node 149 1 g149 (.node 148 2 g148 .leaf .leaf) (.node 150 1 g150 .leaf .leaf)) (.node 153 2 g153 (.node 152 2 g152 .leaf .leaf) (.node 154 2 g154 .leaf .leaf)))) (.node 184 1 g184 (.node 180 1 g180 (.node 178 1 g178 (.node 157 3 g157 (.node 156 2 g156 .leaf .leaf) .leaf) (.node 179 1 g179 .leaf .leaf)) (.node 182 1 g182 (.node 181 1 g181 .leaf .leaf) (.node 183 1 g183 .leaf .leaf))) (.node 188 3 g188 (.node 186 2 g186 (.node 185 2 g185 .leaf .leaf) (.node 187 1 g187 .leaf .leaf)) (.node 190 2 g190 (.node 189 2 g189 .leaf .leaf) (.node 191 1 g191 .leaf .leaf)))))) (.node 235 2 g235 (.node 209 1 g209 (.node 201 2 g201 (.node 197 1 g197 (.node 195 2 g195 (.node 194 1 g194 (.node 193 2 g193 .leaf .leaf) .leaf) (.node 196 2 g196 .leaf .leaf)) (.node 199 0 g199 (.node 198 1 g198 .leaf .leaf) (.node 200 1 g200 .leaf .leaf))) (.node 205 1 g205 (.node 203 2 g203 (.node 202 1 g202 .leaf .leaf) (.node 204 3 g204 .leaf .leaf)) (.node 207 1 g207 (.node 206 1 g206 .leaf .leaf) (.node 208 2 g208 .leaf .leaf)))) (.node 225 1 g225 (.node 221 2 g221 (.node 212 1 g212 (.node 211 2 g211 (.node 210 1 g210 .leaf .leaf) .leaf) (.node 213 2 g213 .leaf .leaf)) (.node 223 1 g223 (.node 222 2 g222 .leaf .leaf) (.node 224 2 g224 .leaf .leaf))) (.node 229 0 g229 (.node 227 1 g227 (.node 226 2 g226 .leaf .leaf) (.node 228 3 g228 .leaf .leaf)) (.node 231 1 g231 (.node 230 1 g230 .leaf .leaf) (.node 232 1 g232 .leaf .leaf))))) (.node 252 1 g252 (.node 244 2 g244 (.node 240 3 g240 (.node 238 2 g238 (.node 237 2 g237 (.node 236 2 g236 .leaf .leaf) .leaf) (.node 239 2 g239 .leaf .leaf)) (.node 242 1 g242 (.node 241 1 g241 .leaf .leaf) (.node 243 2 g243 .leaf .leaf))) (.node 248 1 g248 (.node 246 1 g246 (.node 245 2 g245 .leaf .leaf) (.node 247 1 g247 .leaf .leaf)) (.node 250 2 g250 (.node 249 1 g249 .leaf .leaf) (.node 251 1 g251 .leaf .leaf)))) (.node 260 1 g260 (.node 256 1 g256 (.node 254 1 g254 (.node 253 2 g253 .leaf .leaf) (.node 255 2 g255 .leaf .leaf)) (.node 258 0 g258 (.node 257 1 g257 .leaf .leaf) (.node 259 2 g259 .leaf .leaf))) (.node 264 1 g264 (.node 262 1 g262 (.node 261 3 g261 .leaf .leaf) (.node 263 0 g263 .leaf .leaf)) (.node 266 1 g266 (.node 265 1 g265 .leaf .leaf) (.node 269 1 g269 .leaf .leaf)))))))
theorem tb_ok:tb.Ok prog GL0:=⟨g192_ok,⟨g121_ok,⟨g72_ok,⟨g57_ok,⟨g53_ok,⟨g22_ok,⟨g18_ok,⟨g17_ok,trivial,trivial⟩,trivial⟩,⟨g27_ok,trivial,trivial⟩⟩,⟨g55_ok,⟨g54_ok,trivial,trivial⟩,⟨g56_ok,trivial,trivial⟩⟩⟩,⟨g65_ok,⟨g59_ok,⟨g58_ok,trivial,trivial⟩,⟨g64_ok,trivial,trivial⟩⟩,⟨g67_ok,⟨g66_ok,trivial,trivial⟩,⟨g71_ok,trivial,trivial⟩⟩⟩⟩,⟨g111_ok,⟨g77_ok,⟨g75_ok,⟨g74_ok,⟨g73_ok,trivial,trivial⟩,trivial⟩,⟨g76_ok,trivial,trivial⟩⟩,⟨g96_ok,⟨g78_ok,trivial,trivial⟩,⟨g110_ok,trivial,trivial⟩⟩⟩,⟨g115_ok,⟨g113_ok,⟨g112_ok,trivial,trivial⟩,⟨g114_ok,trivial,trivial⟩⟩,⟨g119_ok,⟨g118_ok,trivial,trivial⟩,⟨g120_ok,trivial,trivial⟩⟩⟩⟩⟩,⟨g155_ok,⟨g147_ok,⟨g143_ok,⟨g130_ok,⟨g124_ok,⟨g122_ok,trivial,trivial⟩,trivial⟩,⟨g142_ok,trivial,trivial⟩⟩,⟨g145_ok,⟨g144_ok,trivial,trivial⟩,⟨g146_ok,trivial,trivial⟩⟩⟩,⟨g151_ok,⟨g149_ok,⟨g148_ok,trivial,trivial⟩,⟨g150_ok,trivial,trivial⟩⟩,⟨g153_ok,⟨g152_ok,trivial,trivial⟩,⟨g154_ok,trivial,trivial⟩⟩⟩⟩,⟨g184_ok,⟨g180_ok,⟨g178_ok,⟨g157_ok,⟨g156_ok,trivial,trivial⟩,trivial⟩,⟨g179_ok,trivial,trivial⟩⟩,⟨g182_ok,⟨g181_ok,trivial,trivial⟩,⟨g183_ok,trivial,trivial⟩⟩⟩,⟨g188_ok,⟨g186_ok,⟨g185_ok,trivial,trivial⟩,⟨g187_ok,trivial,trivial⟩⟩,⟨g190_ok,⟨g189_ok,trivial,trivial⟩,⟨g191_ok,trivial,trivial⟩⟩⟩⟩⟩⟩,⟨g235_ok,⟨g209_ok,⟨g201_ok,⟨g197_ok,⟨g195_ok,⟨g194_ok,⟨g193_ok,trivial,trivial⟩,trivial⟩,⟨g196_ok,trivial,trivial⟩⟩,⟨g199_ok,⟨g198_ok,trivial,trivial⟩,⟨g200_ok,trivial,trivial⟩⟩⟩,⟨g205_ok,⟨g203_ok,⟨g202_ok,trivial,trivial⟩,⟨g204_ok,trivial,trivial⟩⟩,⟨g207_ok,⟨g206_ok,trivial,trivial⟩,⟨g208_ok,trivial,trivial⟩⟩⟩⟩,⟨g225_ok,⟨g221_ok,⟨g212_ok,⟨g211_ok,⟨g210_ok,trivial,trivial⟩,trivial⟩,⟨g213_ok,trivial,trivial⟩⟩,⟨g223_ok,⟨g222_ok,trivial,trivial⟩,⟨g224_ok,trivial,trivial⟩⟩⟩,⟨g229_ok,⟨g227_ok,⟨g226_ok,trivial,trivial⟩,⟨g228_ok,trivial,trivial⟩⟩,⟨g231_ok,⟨g230_ok,trivial,trivial⟩,⟨g232_ok,trivial,trivial⟩⟩⟩⟩⟩,⟨g252_ok,⟨g244_ok,⟨g240_ok,⟨g238_ok,⟨g237_ok,⟨g236_ok,trivial,trivial⟩,trivial⟩,⟨g239_ok,trivial,trivial⟩⟩,⟨g242_ok,⟨g241_ok,trivial,trivial⟩,⟨g243_ok,trivial,trivial⟩⟩⟩,⟨g248_ok,⟨g246_ok,⟨g245_ok,trivial,trivial⟩,⟨g247_ok,trivial,trivial⟩⟩,⟨g250_ok,⟨g249_ok,trivial,trivial⟩,⟨g251_ok,trivial,trivial⟩⟩⟩⟩,⟨g260_ok,⟨g256_ok,⟨g254_ok,⟨g253_ok,trivial,trivial⟩,⟨g255_ok,trivial,trivial⟩⟩,⟨g258_ok,⟨g257_ok,trivial,trivial⟩,⟨g259_ok,trivial,trivial⟩⟩⟩,⟨g264_ok,⟨g262_ok,⟨g261_ok,trivial,trivial⟩,⟨g263_ok,trivial,trivial⟩⟩,⟨g266_ok,⟨g265_ok,trivial,trivial⟩,⟨g269_ok,trivial,trivial⟩⟩⟩⟩⟩⟩⟩
end Go.Ah.Tz
end
section
namespace Go.Ah.Tz
open Go.Proofs.Tryz (prog)
set_option maxRecDepth 1000000
def v18:AVal:=(.tup [(.agg [(.int .i64 1),(.int .i64 0),(.int .i8 0),(.bool false),(.int .i8 0),.nils,(.int .i64 9),(.int .i64 19),(.int .i64 0),(.int .i64 0),.nils,.nils,.nils,(.rsl false false 4 [[(.int .i64 1),(.int .i64 0),(.int .i64 0),(.bool false)],[(.int .i64 2),(.int .i64 1),(.int .i64 0),(.bool false)]]),.nils,(.int .i64 20),(.int .i64 0),(.int .i64 0),(.rsl false false 1 [[(.int .i64 1)],[(.int .i64 0)]]),.nils,.nils,.nils,.nils]),(.agg [(.int .i8 3),(.int .i64 0),(.int .i64 (-1)),(.int .i64 0),(.int .i64 0),(.int .i64 0),.nils]),(.int .i64 0)])
def v22:AVal:=(.tup [(.agg [(.int .i64 1),(.int .i64 0),(.int .i8 0),(.bool false),(.int .i8 0),.nils,(.int .i64 9),(.int .i64 20),(.int .i64 0),(.int .i64 0),.nils,.nils,.nils,(.rsl false false 4 [[(.int .i64 1),(.int .i64 0),(.int .i64 2),(.bool false)],[(.int .i64 2),(.int .i64 1),(.int .i64 0),(.bool false)]]),.nils,(.int .i64 20),(.int .i64 0),(.int .i64 0),(.rsl false false 1 [[(.int .i64 1)],[(.int .i64 0)]]),.nils,.nils,.nils,.nils]),(.agg [(.int .i8 5),(.int .i64 0),(.int .i64 0),(.int .i64 1),(.int .i64 0),(.int .i64 2),.nils]),(.int .i64 0)])
end Go.Ah.Tz
end
section
namespace Go.Ah.Tz
@[reducible] def iv(n:Int):AVal:=.int .i64 n
@[reducible] def iv8(n:Int):AVal:=.int .i8 n
def cel(n:Int):List AVal:=[iv n]
@[reducible] def rowV(l:List Int):AVal:=.rsl false false 1 (l.map cel)
structure Th where
 id:Int
 card:Int
 harm:Int
 tired:Bool
 deriving DecidableEq,Inhabited
def thC(t:Th):List AVal:=[iv t.id,iv t.card,iv t.harm,.bool t.tired]
@[reducible] def thV(l:List Th):AVal:=.rsl false false 4 (l.map thC)
structure Sd where
 life:Int
 mana:Int
 most:Int
 deck:List Int
 hand:List Int
 grave:List Int
 units:List Th
 told:List Int
 deriving DecidableEq,Inhabited
@[reducible] def sdC(s:Sd):List AVal:=[iv s.life,iv s.mana,iv s.most,rowV s.deck,rowV s.hand,rowV s.grave,thV s.units,rowV s.told]
structure St where
 turn:Int
 mover:Int
 phase:Int
 struck:Bool
 result:Int
 attack:List Int
 next:Int
 s0:Sd
 s1:Sd
 deriving DecidableEq,Inhabited
@[reducible] def stC(s:St):List AVal:=[iv s.turn,iv s.mover,iv8 s.phase,.bool s.struck,iv8 s.result,rowV s.attack,iv s.next,
 iv s.s0.life,iv s.s0.mana,iv s.s0.most,rowV s.s0.deck,rowV s.s0.hand,rowV s.s0.grave,thV s.s0.units,rowV s.s0.told,
 iv s.s1.life,iv s.s1.mana,iv s.s1.most,rowV s.s1.deck,rowV s.s1.hand,rowV s.s1.grave,thV s.s1.units,rowV s.s1.told]
@[reducible] def stV(s:St):AVal:=.agg (stC s)
theorem Xg{n:Nat}(h:(n:Int)<4611686018427387904):IntKind.i64.wrap ((n:Int)+1)=((n+1:Nat):Int):=by
 rw[IntWalk.i64_in _ (by omega)]; simp
theorem QL{α:Type}(l:List α)(i:Nat)(h:i<l.length):l.take (i+1)=l.take i++[l[i]]:=by
 rw[List.take_succ_eq_append_getElem h]
theorem ZC{α β:Type}(f:α→β)(l:List α)(i:Nat)(h:i<l.length):(l.take i).map f++[f l[i]]=(l.take (i+1)).map f:=by
 rw[QL l i h,List.map_append]; rfl
abbrev Tx:=List UInt8
inductive Nm where
 |mk (op n who:Int) (kids:List Nm)
 deriving Inhabited
inductive Cn where
 |mk (op who:Int) (name:Tx) (nums:List Nm) (kids:List Cn)
 deriving Inhabited
inductive Ef where
 |mk (op who:Int) (n:Nm) (name:Tx) (c:Cn) (thn els:List Ef)
 deriving Inhabited
def Nm.op:Nm→Int | .mk a _ _ _=>a
def Nm.n:Nm→Int | .mk _ a _ _=>a
def Nm.who:Nm→Int | .mk _ _ a _=>a
def Nm.kids:Nm→List Nm | .mk _ _ _ a=>a
def Cn.op:Cn→Int | .mk a _ _ _ _=>a
def Cn.who:Cn→Int | .mk _ a _ _ _=>a
def Cn.name:Cn→Tx | .mk _ _ a _ _=>a
def Cn.nums:Cn→List Nm | .mk _ _ _ a _=>a
def Cn.kids:Cn→List Cn | .mk _ _ _ _ a=>a
def Ef.op:Ef→Int | .mk a _ _ _ _ _ _=>a
def Ef.who:Ef→Int | .mk _ a _ _ _ _ _=>a
def Ef.n:Ef→Nm | .mk _ _ a _ _ _ _=>a
def Ef.name:Ef→Tx | .mk _ _ _ a _ _ _=>a
def Ef.c:Ef→Cn | .mk _ _ _ _ a _ _=>a
def Ef.thn:Ef→List Ef | .mk _ _ _ _ _ a _=>a
def Ef.els:Ef→List Ef | .mk _ _ _ _ _ _ a=>a
mutual
def nmC:Nm→List AVal
 |.mk op n who kids=>[iv8 op,iv n,iv8 who,.rsl false false 4 (nmsC kids)]
def nmsC:List Nm→List (List AVal)
 |[]=>[]
 |x::l=>nmC x::nmsC l
end
theorem Xcf:∀l,nmsC l=l.map nmC
 |[]=>rfl
 |x::l=>by simp[nmsC,Xcf l]
theorem QG(x:Nm):nmC x=[iv8 x.op,iv x.n,iv8 x.who,.rsl false false 4 (x.kids.map nmC)]:=by
 cases x; simp[nmC,Xcf,Nm.op,Nm.n,Nm.who,Nm.kids]
mutual
def cnC:Cn→List AVal
 |.mk op who name nums kids=>[iv8 op,iv8 who,.str name,.rsl false false 4 (nums.map nmC),.rsl false false 5 (cnsC kids)]
def cnsC:List Cn→List (List AVal)
 |[]=>[]
 |x::l=>cnC x::cnsC l
end
theorem YbZ:∀l,cnsC l=l.map cnC
 |[]=>rfl
 |x::l=>by simp[cnsC,YbZ l]
theorem QX(x:Cn):cnC x=[iv8 x.op,iv8 x.who,.str x.name,.rsl false false 4 (x.nums.map nmC),.rsl false false 5 (x.kids.map cnC)]:=by
 cases x; simp[cnC,YbZ,Cn.op,Cn.who,Cn.name,Cn.nums,Cn.kids]
mutual
def efC:Ef→List AVal
 |.mk op who n name c thn els=>[iv8 op,iv8 who,iv8 n.op,iv n.n,iv8 n.who,.rsl false false 4 (n.kids.map nmC),.str name,iv8 c.op,iv8 c.who,.str c.name,.rsl false false 4 (c.nums.map nmC),.rsl false false 5 (c.kids.map cnC),.rsl false false 14 (efsC thn),.rsl false false 14 (efsC els)]
def efsC:List Ef→List (List AVal)
 |[]=>[]
 |x::l=>efC x::efsC l
end
theorem Zb5:∀l,efsC l=l.map efC
 |[]=>rfl
 |x::l=>by simp[efsC,Zb5 l]
theorem YH(x:Ef):efC x=[iv8 x.op,iv8 x.who,iv8 x.n.op,iv x.n.n,iv8 x.n.who,.rsl false false 4 (x.n.kids.map nmC),.str x.name,iv8 x.c.op,iv8 x.c.who,.str x.c.name,.rsl false false 4 (x.c.nums.map nmC),.rsl false false 5 (x.c.kids.map cnC),.rsl false false 14 (x.thn.map efC),.rsl false false 14 (x.els.map efC)]:=by
 cases x; simp[efC,Zb5,Ef.op,Ef.who,Ef.n,Ef.name,Ef.c,Ef.thn,Ef.els]
structure Cd where
 name:Tx
 unit:Bool
 cost:Int
 power:Int
 health:Int
 shield:Int
 aurap:Int
 aurah:Int
 played:List Ef
 dead:List Ef
 dawn:List Ef
 pl:Int
 deriving Inhabited
@[reducible] def efV(l:List Ef):AVal:=.rsl false false 14 (l.map efC)
def cdC(c:Cd):List AVal:=[.str c.name,.bool c.unit,iv c.cost,iv c.power,iv c.health,iv c.shield,iv c.aurap,iv c.aurah,efV c.played,efV c.dead,efV c.dawn,iv c.pl]
def txC(t:Tx):List AVal:=[.str t]
@[reducible] def txV(l:List Tx):AVal:=.rsl false false 1 (l.map txC)
structure Fo where
 name:Tx
 least:Int
 most:Int
 copies:Int
 banned:List Tx
 single:List Tx
 pl:Int
 deriving Inhabited
def foC(f:Fo):List AVal:=[.str f.name,iv f.least,iv f.most,iv f.copies,txV f.banned,txV f.single,iv f.pl]
structure Bk where
 cards:List Cd
 formats:List Fo
 deriving Inhabited
@[reducible] def cdV(l:List Cd):AVal:=.rsl false false 12 (l.map cdC)
@[reducible] def foV(l:List Fo):AVal:=.rsl false false 7 (l.map foC)
@[reducible] def bkV(b:Bk):AVal:=.agg [cdV b.cards,foV b.formats]
end Go.Ah.Tz
end
section
namespace Go.Ah.Tz
open Go.Proofs.Tryz (prog)
theorem hP:prog.follows .mixedOrders=true:=by kernel_rfl
theorem c62(a b:List Int)(ha:a.length<4611686018427387904):PC 62 [rowV a,rowV b] (.bool (decide (a=b))):=by
 refine Ze hP g62_ok rfl rfl ?_;simp only[g62,Zf,ZaB,YT,Xav,List.length_map];refine⟨λh=>?_,λh=>?_⟩
 ·simp at h ⊢; rintro rfl; exact h rfl
 have hl:a.length=b.length:=by simp at h; omega
 refine Xo (ι:=Nat) (λi vs s=>vs=[iv i]∧i≤a.length∧a.take i=b.take i) (λi=>a.length-i) 0 ⟨rfl,by omega,by simp⟩ ?_;rintro i vs s again ⟨rfl,hi,ht⟩ hag;simp only[ZaB,h0,hdV,Qx,Xav];refine⟨λh=>?_,λh=>?_⟩
 ·have h:i<a.length:=by simpa using h
  simp[Qu _ cel _ _ _ a _ i h,Qu _ cel _ _ _ b _ i (by omega),cel,Xg (n:=i) (by omega)];refine⟨λhne e=>?_,λhe=>?_⟩
  ·subst e; exact hne rfl
  ·refine hag (i+1) _ _ (by omega) ⟨rfl,by omega,?_⟩;rw[List.take_succ_eq_append_getElem h,List.take_succ_eq_append_getElem (by omega),ht,he]
 ·have h:¬i<a.length:=by simpa using h
  rw[List.take_of_length_le (by omega),List.take_of_length_le (by omega)] at ht;simp[ht]
def Grows(n:Nat)(rows:List (List AVal))(k:Nat)(v:AVal)(σ:List ABlk):Prop:=
 (k=0∧v=.nils∧rows=[])∨(0<k∧∃b,v=.sl b 0 k false∧hget σ b=.rows n rows∧rows.length=k)
theorem Grows.nil(n:Nat)(σ:List ABlk):Grows n [] 0 .nils σ:=.inl ⟨rfl,rfl,rfl⟩
theorem Grows.app{α:Type}(A:Ans α){hold:α→Prop}{n by_ k:Nat}{rows:List (List AVal)}{v:AVal}{σ:List ABlk}{row:List AVal}(hg:Grows n rows k v σ)(hr:row.all AVal.cell=true)(hroom:(2*(k+1)+192)*by_≤2 ^ 48)(K:AVal→List ABlk→α)
 (hK:∀v' σ',Grows n (rows++[row]) (k+1) v' σ'→hold (K v' σ')):hold (A.wr (Qg n by_ [v,.sl σ.length 0 1 true] (σ++[.rows n [row]])) (σ++[.rows n [row]]) K):=by
 rcases hg with ⟨rfl,rfl,rfl⟩|⟨hk,b,rfl,hb,hl⟩
 ·rw[Xby A n by_ σ row hr (by simpa using hroom)];exact hK _ _ (.inr ⟨by omega,_,rfl,by have:=Qh (σ++[.rows n [row]]) (.rows n [row]); simpa using this,rfl⟩)
 ·rw[XbU A n by_ σ b k false rows row hb hl hr hroom];refine hK _ _ (.inr ⟨by omega,_,rfl,?_,by simp[hl]⟩);have:=Qh (σ.set b .dead++[.rows n [row]]) (.rows n (rows++[row]));simpa using this
theorem X1{α:Type}{f:α→List AVal}{l:List α}{m:Nat→Option Nat}(h:∀x,(f x).map (AVal.ren m)=f x):(l.map f).map (λr=>r.map (AVal.ren m))=l.map f:=by
 rw[List.map_map]; apply List.map_congr_left; intro x _; exact h x
theorem Grows.tidy{α:Type}{n k:Nat}{v:AVal}{σ:List ABlk}{f:α→List AVal}{l:List α}(hg:Grows n (l.map f) k v σ)(hk:k=l.length)(hf:∀(m:Nat→Option Nat) x,(f x).map (AVal.ren m)=f x):Tidy σ v [.rows n (l.map f)] (.sl 0 0 l.length false):=by
 rcases hg with ⟨h1,rfl,h3⟩|⟨hpos,b,rfl,hb,hl⟩
 ·have hl:l=[]:=by simpa using h3
  subst hl;refine(Tidy.ghost n (.inl rfl)).trans ?_;have:=Tidy.one (σ:=σ++[.rows n []]) (b:=σ.length) (blk:=.rows n []) (by simp) (λx=>if x=σ.length then some 0 else none) (λ_=>rfl) (.sl σ.length 0 0 false);simpa using this
 ·subst hk;have:=Tidy.one (σ:=σ) (b:=b) (ZF hb (by simp)) (λx=>if x=b then some 0 else none) (λ_=>rfl) (.sl b 0 l.length false);simp only[ABlk.mapV,AVal.ren,if_true] at this
  rwa [X1 (hf _)] at this
theorem QbW(m:Nat→Option Nat)(x:Int):(cel x).map (AVal.ren m)=cel x:=rfl
theorem Ycr(m:Nat→Option Nat)(x:Th):(thC x).map (AVal.ren m)=thC x:=rfl
theorem c60(l:List Int)(hl:l.length≤1000000000):NCall prog GL0 60 [rowV l] (.sl 0 0 l.length false) [.rows 1 (l.map cel)]:=by
 refine Zw hP g60_ok rfl ?_;simp only[g60];refine Xo (ι:=Nat) (λi vs s=>∃v,vs=[iv i,v]∧i≤l.length∧Grows 1 ((l.take i).map cel) i v s) (λi=>l.length-i) 0 ⟨_,rfl,by omega,Grows.nil _ _⟩ ?_;rintro i vs s again ⟨v,rfl,hi,hg⟩ hag;simp only[Zf,ZaB,h0,h1,hdV,tlV,Qx,Xav,List.length_map];refine⟨λh=>?_,λh=>?_⟩
 ·have h:i<l.length:=by simpa using h
  simp only[Qu _ cel _ _ _ l _ i h,ZaB,XaD,partA,cel,nth];rw[QaH _ _ _ _ _ [iv l[i]] rfl rfl];refine hg.app _ (hold:=λp=>p) rfl (by omega) _ (λv' σ' hg'=>?_);simp only[Qn,ZaB,Xg (n:=i) (by omega)];exact hag (i+1) _ _ (by omega) ⟨v',rfl,by omega,by rw[←ZC _ _ _ h]; exact hg'⟩
 ·have h:¬i<l.length:=by simpa using h
  have:i=l.length:=by omega
  subst this;rw[List.take_length] at hg;exact hg.tidy rfl QbW
theorem c63(a b:List Th)(ha:a.length<4611686018427387904):PC 63 [thV a,thV b] (.bool (decide (a=b))):=by
 refine Ze hP g63_ok rfl rfl ?_;simp only[g63,Zf,ZaB,YT,Xav,List.length_map];refine⟨λh=>?_,λh=>?_⟩
 ·simp at h ⊢; rintro rfl; exact h rfl
 have hl:a.length=b.length:=by simp at h; omega
 refine Xo (ι:=Nat) (λi vs s=>vs=[iv i]∧i≤a.length∧a.take i=b.take i) (λi=>a.length-i) 0 ⟨rfl,by omega,by simp⟩ ?_;rintro i vs s again ⟨rfl,hi,ht⟩ hag;simp only[ZaB,h0,hdV,Qx,Xav];refine⟨λh=>?_,λh=>?_⟩
 ·have h:i<a.length:=by simpa using h
  have hq:Ycj true [false,false,false,true] [.agg (thC a[i]),.agg (thC b[i])] s=.ok (.bool (!decide (a[i]=b[i]))) [] []:=by
   have:(decide (a[i]=b[i]))=((a[i].id==b[i].id)&&((a[i].card==b[i].card)&&((a[i].harm==b[i].harm)&&((a[i].tired==b[i].tired)&&true)))):=by
    rw[Bool.eq_iff_iff];cases h1:a[i]; cases h2:b[i]; simp
   simp[Ycj,YJ,QaV,thC,this]
  simp only[Qu _ thC _ _ _ a _ i h,Qu _ thC _ _ _ b _ i (by omega),ZaB,XaD,partA,show ∀x,takeN 4 (dropN 0 (thC x))=some (thC x) from λ_=>rfl,hq,Xav,Qn,Xg (n:=i) (by omega)];refine⟨λhne=>?_,λhe=>?_⟩
  ·simp at hne ⊢; intro e; subst e; exact hne rfl
  ·refine hag (i+1) _ _ (by omega) ⟨rfl,by omega,?_⟩;rw[List.take_succ_eq_append_getElem h,List.take_succ_eq_append_getElem (by omega),ht,show a[i]=b[i] by simpa using he]
 ·have h:¬i<a.length:=by simpa using h
  rw[List.take_of_length_le (by omega),List.take_of_length_le (by omega)] at ht;simp[ht]
theorem c61(l:List Th)(hl:l.length≤1000000000):NCall prog GL0 61 [thV l] (.sl 0 0 l.length false) [.rows 4 (l.map thC)]:=by
 refine Zw hP g61_ok rfl ?_;simp only[g61];refine Xo (ι:=Nat) (λi vs s=>∃v,vs=[iv i,v]∧i≤l.length∧Grows 4 ((l.take i).map thC) i v s) (λi=>l.length-i) 0 ⟨_,rfl,by omega,Grows.nil _ _⟩ ?_;rintro i vs s again ⟨v,rfl,hi,hg⟩ hag;simp only[Zf,ZaB,h0,h1,hdV,tlV,Qx,Xav,List.length_map];refine⟨λh=>?_,λh=>?_⟩
 ·have h:i<l.length:=by simpa using h
  simp only[Qu _ thC _ _ _ l _ i h,ZaB,XaD,partA,show ∀x,takeN 4 (dropN 0 (thC x))=some (thC x) from λ_=>rfl];rw[QaH _ _ _ _ _ (thC l[i]) rfl rfl];refine hg.app _ (hold:=λp=>p) rfl (by omega) _ (λv' σ' hg'=>?_);simp only[Qn,ZaB,Xg (n:=i) (by omega)];exact hag (i+1) _ _ (by omega) ⟨v',rfl,by omega,by rw[←ZC _ _ _ h]; exact hg'⟩
 ·have h:¬i<l.length:=by simpa using h
  have:i=l.length:=by omega
  subst this;rw[List.take_length] at hg;exact hg.tidy rfl Ycr
end Go.Ah.Tz
end
section
namespace Go.Ah.Tz
open Go.Proofs.Tryz (prog)
attribute [local irreducible] Ans.rd Ans.pu Ans.wr Ans.dr Ans.gr Ans.gw Ans.gl Ans.gd Ans.opt joinK W
structure SdLe (n:Nat) (s:Sd):Prop where
 deck:s.deck.length≤n
 hand:s.hand.length≤n
 grave:s.grave.length≤n
 units:s.units.length≤n
 told:s.told.length≤n
structure StLe (n:Nat) (s:St):Prop where
 attack:s.attack.length≤n
 s0:SdLe n s.s0
 s1:SdLe n s.s1
theorem Y3{a b:Sd}:a=b↔a.life=b.life∧a.mana=b.mana∧a.most=b.most∧a.deck=b.deck∧a.hand=b.hand∧a.grave=b.grave∧a.told=b.told∧a.units=b.units:=by
 cases a; cases b;simp only[Sd.mk.injEq];constructor
 ·rintro⟨h1,h2,h3,h4,h5,h6,h7,h8⟩; exact⟨h1,h2,h3,h4,h5,h6,h8,h7⟩
 ·rintro⟨h1,h2,h3,h4,h5,h6,h7,h8⟩; exact⟨h1,h2,h3,h4,h5,h6,h8,h7⟩
theorem XO{a b:St}:a=b↔a.turn=b.turn∧a.mover=b.mover∧a.phase=b.phase∧a.struck=b.struck∧a.result=b.result∧a.next=b.next∧a.attack=b.attack∧a.s0=b.s0∧a.s1=b.s1:=by
 cases a; cases b;simp only[St.mk.injEq];constructor
 ·rintro⟨h1,h2,h3,h4,h5,h6,h7,h8,h9⟩; exact⟨h1,h2,h3,h4,h5,h7,h6,h8,h9⟩
 ·rintro⟨h1,h2,h3,h4,h5,h6,h7,h8,h9⟩; exact⟨h1,h2,h3,h4,h5,h7,h6,h8,h9⟩
set_option maxHeartbeats 1000000
set_option maxRecDepth 10000
theorem c20(a b:St)(ha:StLe 1000000000 a):PC 20 [stV a,stV b] (.bool (decide (a=b))):=by
 refine Ze hP g20_ok rfl rfl ?_;unfold g20;repeat first|refine Ya rfl ?_|refine Zd rfl rfl ?_
 rcases YBE (a.turn != b.turn) with h0|h0
 ·rw[h0]
  (repeat (first|refine Xb rfl ?_|refine Xf rfl ?_|refine Zi rfl ?_|refine Xi rfl ?_|refine Ya rfl ?_|refine Zd rfl rfl ?_)); refine Zg ?_; simp at h0; simp[XO,h0]
 rw[h0];repeat first|refine Yb ?_|refine Yc ?_|refine Ya rfl ?_|refine Zd rfl rfl ?_
 rcases YBE (a.mover != b.mover) with h1|h1
 ·rw[h1]
  (repeat (first|refine Xb rfl ?_|refine Xf rfl ?_|refine Zi rfl ?_|refine Xi rfl ?_|refine Ya rfl ?_|refine Zd rfl rfl ?_)); refine Zg ?_; simp at h1; simp[XO,h1]
 rw[h1];repeat first|refine Yb ?_|refine Yc ?_|refine Ya rfl ?_|refine Zd rfl rfl ?_
 rcases YBE (a.phase != b.phase) with h2|h2
 ·rw[h2]
  (repeat (first|refine Xb rfl ?_|refine Xf rfl ?_|refine Zi rfl ?_|refine Xi rfl ?_|refine Ya rfl ?_|refine Zd rfl rfl ?_)); refine Zg ?_; simp at h2; simp[XO,h2]
 rw[h2];repeat first|refine Yb ?_|refine Yc ?_|refine Ya rfl ?_|refine Zd rfl rfl ?_
 rcases YBE (!(a.struck==b.struck)) with h3|h3
 ·rw[h3]
  (repeat (first|refine Xb rfl ?_|refine Xf rfl ?_|refine Zi rfl ?_|refine Xi rfl ?_|refine Ya rfl ?_|refine Zd rfl rfl ?_)); refine Zg ?_; simp at h3; simp[XO,h3]
 rw[h3];repeat first|refine Yb ?_|refine Yc ?_|refine Ya rfl ?_|refine Zd rfl rfl ?_
 rcases YBE (a.result != b.result) with h4|h4
 ·rw[h4]
  (repeat (first|refine Xb rfl ?_|refine Xf rfl ?_|refine Zi rfl ?_|refine Xi rfl ?_|refine Ya rfl ?_|refine Zd rfl rfl ?_)); refine Zg ?_; simp at h4; simp[XO,h4]
 rw[h4];repeat first|refine Yb ?_|refine Yc ?_|refine Ya rfl ?_|refine Zd rfl rfl ?_
 rcases YBE (a.next != b.next) with h5|h5
 ·rw[h5]
  (repeat (first|refine Xb rfl ?_|refine Xf rfl ?_|refine Zi rfl ?_|refine Xi rfl ?_|refine Ya rfl ?_|refine Zd rfl rfl ?_)); refine Zg ?_; simp at h5; simp[XO,h5]
 rw[h5];repeat first|refine Yb ?_|refine Yc ?_|refine Ya rfl ?_|refine Zd rfl rfl ?_
 refine Ye (c62 _ _ (by have:=ha.attack; omega)) rfl g62_ok.plain rfl ?_;repeat first|refine Yb ?_|refine Ya rfl ?_
 rcases YBE (!decide (a.attack=b.attack)) with h6|h6
 ·rw[h6];refine Zg ?_; simp at h6; simp[XO,h6]
 rw[h6];refine Xh ?_;have w1:IntKind.i64.wrap (0+1)=1:=by decide
 have w2:IntKind.i64.wrap (1+1)=2:=by decide
 refine QI 3 (Ym ?_);refine Ya rfl (Zg ?_);repeat first|refine Yb ?_|refine Yc ?_|refine Ya rfl ?_|refine Yk rfl ?_|refine Qj rfl rfl ?_|refine Zd rfl rfl ?_
 refine QO (by kernel_rfl) ?_;repeat first|refine Yb ?_|refine Yc ?_|refine Ya rfl ?_|refine Yk rfl ?_|refine Qj rfl rfl ?_|refine Zd rfl rfl ?_
 rcases YBE (a.s0.life != b.s0.life) with h7|h7
 ·rw[h7]
  (repeat (first|refine Xb rfl ?_|refine Xf rfl ?_|refine Zi rfl ?_|refine Xi rfl ?_|refine Ya rfl ?_|refine Zd rfl rfl ?_)); refine Zg ?_; simp at h7; simp[XO,Y3,h7]
 rw[h7];repeat first|refine Yb ?_|refine Yc ?_|refine Ya rfl ?_|refine Yk rfl ?_|refine Qj rfl rfl ?_|refine Zd rfl rfl ?_
 rcases YBE (a.s0.mana != b.s0.mana) with h8|h8
 ·rw[h8]
  (repeat (first|refine Xb rfl ?_|refine Xf rfl ?_|refine Zi rfl ?_|refine Xi rfl ?_|refine Ya rfl ?_|refine Zd rfl rfl ?_)); refine Zg ?_; simp at h8; simp[XO,Y3,h8]
 rw[h8];repeat first|refine Yb ?_|refine Yc ?_|refine Ya rfl ?_|refine Yk rfl ?_|refine Qj rfl rfl ?_|refine Zd rfl rfl ?_
 rcases YBE (a.s0.most != b.s0.most) with h9|h9
 ·rw[h9]
  (repeat (first|refine Xb rfl ?_|refine Xf rfl ?_|refine Zi rfl ?_|refine Xi rfl ?_|refine Ya rfl ?_|refine Zd rfl rfl ?_)); refine Zg ?_; simp at h9; simp[XO,Y3,h9]
 rw[h9];repeat first|refine Yb ?_|refine Yc ?_|refine Ya rfl ?_|refine Yk rfl ?_|refine Qj rfl rfl ?_|refine Zd rfl rfl ?_
 refine Ye (c62 _ _ (by have:=ha.s0.deck; omega)) rfl g62_ok.plain rfl ?_;repeat first|refine Yb ?_|refine Yc ?_|refine Ya rfl ?_|refine Yk rfl ?_|refine Qj rfl rfl ?_|refine Zd rfl rfl ?_
 rcases YBE (!decide (a.s0.deck=b.s0.deck)) with h10|h10
 ·rw[h10]
  (repeat (first|refine Xb rfl ?_|refine Xf rfl ?_|refine Zi rfl ?_|refine Xi rfl ?_|refine Ya rfl ?_|refine Zd rfl rfl ?_)); refine Zg ?_; simp at h10; simp[XO,Y3,h10]
 rw[h10];repeat first|refine Yb ?_|refine Yc ?_|refine Ya rfl ?_|refine Yk rfl ?_|refine Qj rfl rfl ?_|refine Zd rfl rfl ?_
 refine Ye (c62 _ _ (by have:=ha.s0.hand; omega)) rfl g62_ok.plain rfl ?_;repeat first|refine Yb ?_|refine Yc ?_|refine Ya rfl ?_|refine Yk rfl ?_|refine Qj rfl rfl ?_|refine Zd rfl rfl ?_
 rcases YBE (!decide (a.s0.hand=b.s0.hand)) with h11|h11
 ·rw[h11]
  (repeat (first|refine Xb rfl ?_|refine Xf rfl ?_|refine Zi rfl ?_|refine Xi rfl ?_|refine Ya rfl ?_|refine Zd rfl rfl ?_)); refine Zg ?_; simp at h11; simp[XO,Y3,h11]
 rw[h11];repeat first|refine Yb ?_|refine Yc ?_|refine Ya rfl ?_|refine Yk rfl ?_|refine Qj rfl rfl ?_|refine Zd rfl rfl ?_
 refine Ye (c62 _ _ (by have:=ha.s0.grave; omega)) rfl g62_ok.plain rfl ?_;repeat first|refine Yb ?_|refine Yc ?_|refine Ya rfl ?_|refine Yk rfl ?_|refine Qj rfl rfl ?_|refine Zd rfl rfl ?_
 rcases YBE (!decide (a.s0.grave=b.s0.grave)) with h12|h12
 ·rw[h12]
  (repeat (first|refine Xb rfl ?_|refine Xf rfl ?_|refine Zi rfl ?_|refine Xi rfl ?_|refine Ya rfl ?_|refine Zd rfl rfl ?_)); refine Zg ?_; simp at h12; simp[XO,Y3,h12]
 rw[h12];repeat first|refine Yb ?_|refine Yc ?_|refine Ya rfl ?_|refine Yk rfl ?_|refine Qj rfl rfl ?_|refine Zd rfl rfl ?_
 refine Ye (c62 _ _ (by have:=ha.s0.told; omega)) rfl g62_ok.plain rfl ?_;repeat first|refine Yb ?_|refine Yc ?_|refine Ya rfl ?_|refine Yk rfl ?_|refine Qj rfl rfl ?_|refine Zd rfl rfl ?_
 rcases YBE (!decide (a.s0.told=b.s0.told)) with h13|h13
 ·rw[h13]
  (repeat (first|refine Xb rfl ?_|refine Xf rfl ?_|refine Zi rfl ?_|refine Xi rfl ?_|refine Ya rfl ?_|refine Zd rfl rfl ?_)); refine Zg ?_; simp at h13; simp[XO,Y3,h13]
 rw[h13];repeat first|refine Yb ?_|refine Yc ?_|refine Ya rfl ?_|refine Yk rfl ?_|refine Qj rfl rfl ?_|refine Zd rfl rfl ?_
 refine Ye (c63 _ _ (by have:=ha.s0.units; omega)) rfl g63_ok.plain rfl ?_;repeat first|refine Yb ?_|refine Yc ?_|refine Ya rfl ?_|refine Yk rfl ?_|refine Qj rfl rfl ?_|refine Zd rfl rfl ?_
 rcases YBE (!decide (a.s0.units=b.s0.units)) with h14|h14
 ·rw[h14]
  (repeat (first|refine Xb rfl ?_|refine Xf rfl ?_|refine Zi rfl ?_|refine Xi rfl ?_|refine Ya rfl ?_|refine Zd rfl rfl ?_)); refine Zg ?_; simp at h14; simp[XO,Y3,h14]
 rw[h14];repeat first|refine Yb ?_|refine Yc ?_|refine Ya rfl ?_|refine Yk rfl ?_|refine Qj rfl rfl ?_|refine Zd rfl rfl ?_
 refine Xh (Ya rfl ?_);rw[w1];refine Ym ?_;refine Ya rfl (Zg ?_);repeat first|refine Yb ?_|refine Yc ?_|refine Ya rfl ?_|refine Yk rfl ?_|refine Qj rfl rfl ?_|refine Zd rfl rfl ?_
 refine QO (by kernel_rfl) ?_;repeat first|refine Yb ?_|refine Yc ?_|refine Ya rfl ?_|refine Yk rfl ?_|refine Qj rfl rfl ?_|refine Zd rfl rfl ?_
 rcases YBE (a.s1.life != b.s1.life) with h15|h15
 ·rw[h15]
  (repeat (first|refine Xb rfl ?_|refine Xf rfl ?_|refine Zi rfl ?_|refine Xi rfl ?_|refine Ya rfl ?_|refine Zd rfl rfl ?_)); refine Zg ?_; simp at h15; simp[XO,Y3,h15]
 rw[h15];repeat first|refine Yb ?_|refine Yc ?_|refine Ya rfl ?_|refine Yk rfl ?_|refine Qj rfl rfl ?_|refine Zd rfl rfl ?_
 rcases YBE (a.s1.mana != b.s1.mana) with h16|h16
 ·rw[h16]
  (repeat (first|refine Xb rfl ?_|refine Xf rfl ?_|refine Zi rfl ?_|refine Xi rfl ?_|refine Ya rfl ?_|refine Zd rfl rfl ?_)); refine Zg ?_; simp at h16; simp[XO,Y3,h16]
 rw[h16];repeat first|refine Yb ?_|refine Yc ?_|refine Ya rfl ?_|refine Yk rfl ?_|refine Qj rfl rfl ?_|refine Zd rfl rfl ?_
 rcases YBE (a.s1.most != b.s1.most) with h17|h17
 ·rw[h17]
  (repeat (first|refine Xb rfl ?_|refine Xf rfl ?_|refine Zi rfl ?_|refine Xi rfl ?_|refine Ya rfl ?_|refine Zd rfl rfl ?_)); refine Zg ?_; simp at h17; simp[XO,Y3,h17]
 rw[h17];repeat first|refine Yb ?_|refine Yc ?_|refine Ya rfl ?_|refine Yk rfl ?_|refine Qj rfl rfl ?_|refine Zd rfl rfl ?_
 refine Ye (c62 _ _ (by have:=ha.s1.deck; omega)) rfl g62_ok.plain rfl ?_;repeat first|refine Yb ?_|refine Yc ?_|refine Ya rfl ?_|refine Yk rfl ?_|refine Qj rfl rfl ?_|refine Zd rfl rfl ?_
 rcases YBE (!decide (a.s1.deck=b.s1.deck)) with h18|h18
 ·rw[h18]
  (repeat (first|refine Xb rfl ?_|refine Xf rfl ?_|refine Zi rfl ?_|refine Xi rfl ?_|refine Ya rfl ?_|refine Zd rfl rfl ?_)); refine Zg ?_; simp at h18; simp[XO,Y3,h18]
 rw[h18];repeat first|refine Yb ?_|refine Yc ?_|refine Ya rfl ?_|refine Yk rfl ?_|refine Qj rfl rfl ?_|refine Zd rfl rfl ?_
 refine Ye (c62 _ _ (by have:=ha.s1.hand; omega)) rfl g62_ok.plain rfl ?_;repeat first|refine Yb ?_|refine Yc ?_|refine Ya rfl ?_|refine Yk rfl ?_|refine Qj rfl rfl ?_|refine Zd rfl rfl ?_
 rcases YBE (!decide (a.s1.hand=b.s1.hand)) with h19|h19
 ·rw[h19]
  (repeat (first|refine Xb rfl ?_|refine Xf rfl ?_|refine Zi rfl ?_|refine Xi rfl ?_|refine Ya rfl ?_|refine Zd rfl rfl ?_)); refine Zg ?_; simp at h19; simp[XO,Y3,h19]
 rw[h19];repeat first|refine Yb ?_|refine Yc ?_|refine Ya rfl ?_|refine Yk rfl ?_|refine Qj rfl rfl ?_|refine Zd rfl rfl ?_
 refine Ye (c62 _ _ (by have:=ha.s1.grave; omega)) rfl g62_ok.plain rfl ?_;repeat first|refine Yb ?_|refine Yc ?_|refine Ya rfl ?_|refine Yk rfl ?_|refine Qj rfl rfl ?_|refine Zd rfl rfl ?_
 rcases YBE (!decide (a.s1.grave=b.s1.grave)) with h20|h20
 ·rw[h20]
  (repeat (first|refine Xb rfl ?_|refine Xf rfl ?_|refine Zi rfl ?_|refine Xi rfl ?_|refine Ya rfl ?_|refine Zd rfl rfl ?_)); refine Zg ?_; simp at h20; simp[XO,Y3,h20]
 rw[h20];repeat first|refine Yb ?_|refine Yc ?_|refine Ya rfl ?_|refine Yk rfl ?_|refine Qj rfl rfl ?_|refine Zd rfl rfl ?_
 refine Ye (c62 _ _ (by have:=ha.s1.told; omega)) rfl g62_ok.plain rfl ?_;repeat first|refine Yb ?_|refine Yc ?_|refine Ya rfl ?_|refine Yk rfl ?_|refine Qj rfl rfl ?_|refine Zd rfl rfl ?_
 rcases YBE (!decide (a.s1.told=b.s1.told)) with h21|h21
 ·rw[h21]
  (repeat (first|refine Xb rfl ?_|refine Xf rfl ?_|refine Zi rfl ?_|refine Xi rfl ?_|refine Ya rfl ?_|refine Zd rfl rfl ?_)); refine Zg ?_; simp at h21; simp[XO,Y3,h21]
 rw[h21];repeat first|refine Yb ?_|refine Yc ?_|refine Ya rfl ?_|refine Yk rfl ?_|refine Qj rfl rfl ?_|refine Zd rfl rfl ?_
 refine Ye (c63 _ _ (by have:=ha.s1.units; omega)) rfl g63_ok.plain rfl ?_;repeat first|refine Yb ?_|refine Yc ?_|refine Ya rfl ?_|refine Yk rfl ?_|refine Qj rfl rfl ?_|refine Zd rfl rfl ?_
 rcases YBE (!decide (a.s1.units=b.s1.units)) with h22|h22
 ·rw[h22]
  (repeat (first|refine Xb rfl ?_|refine Xf rfl ?_|refine Zi rfl ?_|refine Xi rfl ?_|refine Ya rfl ?_|refine Zd rfl rfl ?_)); refine Zg ?_; simp at h22; simp[XO,Y3,h22]
 rw[h22];repeat first|refine Yb ?_|refine Yc ?_|refine Ya rfl ?_|refine Yk rfl ?_|refine Qj rfl rfl ?_|refine Zd rfl rfl ?_
 refine Xh (Ya rfl ?_);rw[w2];refine Ym ?_;refine Ya rfl (Xh ?_);simp at h0 h1 h2 h3 h4 h5 h6 h7 h8 h9 h10 h11 h12 h13 h14 h15 h16 h17 h18 h19 h20 h21 h22;have e:a=b:=XO.2 ⟨h0,h1,h2,h3,h4,h5,h6,Y3.2 ⟨h7,h8,h9,h10,h11,h12,h13,h14⟩,Y3.2 ⟨h15,h16,h17,h18,h19,h20,h21,h22⟩⟩;simp[e]
end Go.Ah.Tz
end
section
namespace Go.Ah.Tz
open Go.Proofs.Tryz (prog)
theorem YO(m:Nat→Option Nat)(l:List Int):(ABlk.rows 1 (l.map cel)).mapV (AVal.ren m)=.rows 1 (l.map cel):=by
 simp only[ABlk.mapV,X1 (QbW m)]
theorem Yau(m:Nat→Option Nat)(l:List Th):(ABlk.rows 4 (l.map thC)).mapV (AVal.ren m)=.rows 4 (l.map thC):=by
 simp only[ABlk.mapV,X1 (Ycr m)]
theorem w60{l:List Int}(hl:l.length≤1000000000){σ:List ABlk}{K:AVal→List ABlk→Prop}(hK:K (.sl σ.length 0 l.length false) (σ++[.rows 1 (l.map cel)])):VV.call (.call 60) [rowV l] σ K:=by
 refine Zak (c60 l hl) rfl g60_ok.plain rfl ?_;simp only[Zu,List.map_cons,List.map_nil,YO,AVal.ren,Zy,Nat.zero_add];exact hK
theorem d60{l:List Int}(hl:l.length≤1000000000){σ:List ABlk}{K:AVal→List Nat×List Nat→List ABlk→Prop}(hK:K (.sl σ.length 0 l.length false) ([],[σ.length]) (σ++[.rows 1 (l.map cel)])):VV.dcall (.call 60) [rowV l] σ K:=by
 refine Xak (c60 l hl) rfl g60_ok.plain rfl ?_;simp only[Zu,List.map_cons,List.map_nil,YO,AVal.ren,Zy,Nat.zero_add,X0];exact hK
theorem d61{l:List Th}(hl:l.length≤1000000000){σ:List ABlk}{K:AVal→List Nat×List Nat→List ABlk→Prop}(hK:K (.sl σ.length 0 l.length false) ([],[σ.length]) (σ++[.rows 4 (l.map thC)])):VV.dcall (.call 61) [thV l] σ K:=by
 refine Xak (c61 l hl) rfl g61_ok.plain rfl ?_;simp only[Zu,List.map_cons,List.map_nil,Yau,AVal.ren,Zy,Nat.zero_add,X0];exact hK
attribute [local irreducible] Ans.rd Ans.pu Ans.wr Ans.dr Ans.gr Ans.gw Ans.gl Ans.gd Ans.opt joinK W
@[reducible] def sdO(s:Sd)(b:Nat):List AVal:=[iv s.life,iv s.mana,iv s.most,.sl b 0 s.deck.length false,.sl (b+1) 0 s.hand.length false,.sl (b+2) 0 s.grave.length false,.sl (b+3) 0 s.units.length false,.sl (b+4) 0 s.told.length false]
@[reducible] def sdB(s:Sd):List ABlk:=[.rows 1 (s.deck.map cel),.rows 1 (s.hand.map cel),.rows 1 (s.grave.map cel),.rows 4 (s.units.map thC),.rows 1 (s.told.map cel)]
@[reducible] def stO(s:St)(b:Nat):List AVal:=[iv s.turn,iv s.mover,iv8 s.phase,.bool s.struck,iv8 s.result,.sl b 0 s.attack.length false,iv s.next]++sdO s.s0 (b+1)++sdO s.s1 (b+6)
@[reducible] def stB(s:St):List ABlk:=.rows 1 (s.attack.map cel)::sdB s.s0++sdB s.s1
theorem c19(s:St)(hs:StLe 1000000000 s):NCall prog GL0 19 [stV s] (.agg (stO s 0)) (stB s):=by
 refine Zw hP g19_ok rfl ?_;unfold g19;have w1:IntKind.i64.wrap (0+1)=1:=by decide
 have w2:IntKind.i64.wrap (1+1)=2:=by decide
 repeat first|refine Ya rfl ?_|refine Zd rfl rfl ?_|refine Yk rfl ?_|refine Qj rfl rfl ?_
 refine w60 hs.attack ?_;simp only[List.length_cons,List.length_nil,List.nil_append,List.cons_append,Nat.zero_add,Nat.reduceAdd];repeat first|refine Ya rfl ?_|refine Zd rfl rfl ?_|refine Yk rfl ?_|refine Qj rfl rfl ?_
 refine QI 3 (Ym ?_);refine Ya rfl (Zg ?_);repeat first|refine Ya rfl ?_|refine Zd rfl rfl ?_|refine Yk rfl ?_|refine Qj rfl rfl ?_
 refine d60 hs.s0.deck ?_;simp only[List.length_cons,List.length_nil,List.nil_append,List.cons_append,Nat.zero_add,Nat.reduceAdd];repeat first|refine Ya rfl ?_|refine Zd rfl rfl ?_|refine Yk rfl ?_|refine Qj rfl rfl ?_
 refine d60 hs.s0.hand ?_;simp only[List.length_cons,List.length_nil,List.nil_append,List.cons_append,Nat.zero_add,Nat.reduceAdd];repeat first|refine Ya rfl ?_|refine Zd rfl rfl ?_|refine Yk rfl ?_|refine Qj rfl rfl ?_
 refine d60 hs.s0.grave ?_;simp only[List.length_cons,List.length_nil,List.nil_append,List.cons_append,Nat.zero_add,Nat.reduceAdd];repeat first|refine Ya rfl ?_|refine Zd rfl rfl ?_|refine Yk rfl ?_|refine Qj rfl rfl ?_
 refine d61 hs.s0.units ?_;simp only[List.length_cons,List.length_nil,List.nil_append,List.cons_append,Nat.zero_add,Nat.reduceAdd];repeat first|refine Ya rfl ?_|refine Zd rfl rfl ?_|refine Yk rfl ?_|refine Qj rfl rfl ?_
 refine d60 hs.s0.told ?_;simp only[List.length_cons,List.length_nil,List.nil_append,List.cons_append,Nat.zero_add,Nat.reduceAdd];repeat first|refine Ya rfl ?_|refine Zd rfl rfl ?_|refine Yk rfl ?_|refine Qj rfl rfl ?_
 refine QO (by kernel_rfl) (Ya rfl ?_);rw[w1];refine Ym ?_;refine Ya rfl (Zg ?_);repeat first|refine Ya rfl ?_|refine Zd rfl rfl ?_|refine Yk rfl ?_|refine Qj rfl rfl ?_
 refine d60 hs.s1.deck ?_;simp only[List.length_cons,List.length_nil,List.nil_append,List.cons_append,Nat.zero_add,Nat.reduceAdd];repeat first|refine Ya rfl ?_|refine Zd rfl rfl ?_|refine Yk rfl ?_|refine Qj rfl rfl ?_
 refine d60 hs.s1.hand ?_;simp only[List.length_cons,List.length_nil,List.nil_append,List.cons_append,Nat.zero_add,Nat.reduceAdd];repeat first|refine Ya rfl ?_|refine Zd rfl rfl ?_|refine Yk rfl ?_|refine Qj rfl rfl ?_
 refine d60 hs.s1.grave ?_;simp only[List.length_cons,List.length_nil,List.nil_append,List.cons_append,Nat.zero_add,Nat.reduceAdd];repeat first|refine Ya rfl ?_|refine Zd rfl rfl ?_|refine Yk rfl ?_|refine Qj rfl rfl ?_
 refine d61 hs.s1.units ?_;simp only[List.length_cons,List.length_nil,List.nil_append,List.cons_append,Nat.zero_add,Nat.reduceAdd];repeat first|refine Ya rfl ?_|refine Zd rfl rfl ?_|refine Yk rfl ?_|refine Qj rfl rfl ?_
 refine d60 hs.s1.told ?_;simp only[List.length_cons,List.length_nil,List.nil_append,List.cons_append,Nat.zero_add,Nat.reduceAdd];repeat first|refine Ya rfl ?_|refine Zd rfl rfl ?_|refine Yk rfl ?_|refine Qj rfl rfl ?_
 refine QO (by kernel_rfl) (Ya rfl ?_);rw[w2];refine Ym ?_;refine Ya rfl (Xh ?_);repeat first|refine Ya rfl ?_|refine Zd rfl rfl ?_|refine Yk rfl ?_|refine Qj rfl rfl ?_
 refine Xm rfl ?_;refine Tidy.gc [3,5,6,7,8,9,11,12,13,14,15] (by decide) (by simp) ?_ rfl;simp only[gcH,List.map_cons,List.map_nil,hget,YO,Yau]
end Go.Ah.Tz
end
section
namespace Go.Ah.Tz
open Go.Proofs.Tryz (prog)
attribute [local irreducible] Ans.rd Ans.pu Ans.wr Ans.dr Ans.gr Ans.gw Ans.gl Ans.gd Ans.opt joinK W
def fnd(l:List Th)(id:Int):Option Nat:=l.findIdx? (λu=>decide (u.id=id))
def unitR(s:St)(id:Int):Int×Int×Bool:=match fnd s.s0.units id with
 |some k=>(0,k,true)
 |none=>match fnd s.s1.units id with
  |some k=>(1,k,true)
  |none=>(0,0,false)
def unitV(s:St)(id:Int):AVal:=.tup [iv (unitR s id).1,iv (unitR s id).2.1,.bool (unitR s id).2.2]
def wIn(n:Int):Bool:=decide (-1000000≤n)&&decide (n≤1000000)
theorem c57(n:Int):PC 57 [iv n] (.bool (wIn n)):=by
 refine Ze hP g57_ok rfl rfl ?_;unfold g57;refine Ya rfl ?_;rcases YBE (decide (n ≥ -1000000)) with h|h
 ·rw[h];repeat first|refine Ya rfl ?_|refine Zd rfl rfl ?_|refine Yb ?_|refine Yc ?_
  have h':-1000000≤n:=by simpa using h
  simp[wIn,h']
 ·rw[h];repeat first|refine Xb rfl ?_|refine Xf rfl ?_|refine Zi rfl ?_|refine Xi rfl ?_|refine Ya rfl ?_|refine Zd rfl rfl ?_
  have h':¬ -1000000≤n:=by simpa using h
  simp[wIn,h']
def ZA(n:Nat)(l:List Int)(most:Int):Bool:=decide ((l.length:Int)≤most)&&l.all λc=>decide (0≤c)&&decide (c<n)
end Go.Ah.Tz
end
section
namespace Go.Ah.Tz
open Go.Proofs.Tryz (prog)
theorem ld{σ:List ABlk}{b j n:Nat}{agg:Bool}{row:List AVal}{v:AVal}(hb:hget σ b=.box row)(hv:partA agg j n row=some v):Zc agg n [.bptr b j] σ=.ok v [b] []:=by
 rw[Xcw,hb]; simp only[hv]
theorem stv{σ:List ABlk}{b j n:Nat}{x:AVal}{cs row row':List AVal}(hb:hget σ b=.box row)(hc:cellsOf x=some cs)(hn:Nat.beq cs.length n=true)(hs:splice j cs row=some row'):Zb n [.bptr b j,x] σ=.ok .junk [] [(b,.box row')]:=by
 rw[Yb4,hb]; simp only[hc,hn,cond_true,hs]
theorem Xz{P:Program}{GL:Globs}{σ:List ABlk}{z:List AVal}{n:Nat}{x:AVal}{row row':List AVal}{K:AVal→AVal→List ABlk→Prop}(hc:cellsOf x=some row)(hn:Nat.beq row.length n=true)(hs:splice 0 row z=some row')
 (hK:K (.bptr σ.length 0) .junk (σ++[.box row'])):(W P GL).wr (Xc z [] σ) σ (λt σ'=>(W P GL).wr (Zb n [t,x] σ') σ' (K t)):=by
 refine Zd (XcN σ z) (Qs _ _) ?_;refine Zd (stv (Qh _ _) hc hn hs) (Yo _ (by simp)) ?_;have:(σ++[ABlk.box z]).set σ.length (.box row')=σ++[.box row']:=by
  rw[List.set_append_right _ _ (Nat.le_refl _)]; simp
 rw[this]; exact hK
def BX(σ σ':List ABlk):Prop:=∀c r,hget σ c=.box r→hget σ' c=.box r
theorem BX.trans{a b c:List ABlk}(h:BX a b)(k:BX b c):BX a c:=λx r e=>k x r (h x r e)
theorem Grows.len{n k:Nat}{rows:List (List AVal)}{v:AVal}{σ:List ABlk}(h:Grows n rows k v σ)(σ':List ABlk):Qd [v] σ'=.ok (.int .i64 k) [] []:=by
 rcases h with ⟨rfl,rfl,_⟩|⟨_,b,rfl,_,_⟩<;>rfl
theorem Grows.at{n k:Nat}{rows:List (List AVal)}{v:AVal}{σ:List ABlk}(h:Grows n rows k v σ)(q:IntKind)(j:Nat)(hj:j<k) :
  ∃b,Qa n [v,.int q (j:Int)] σ=.ok (.ptr b j 0) [b] []∧∃hj:j<rows.length,∀agg m w,partA agg 0 m rows[j]=some w→Zc agg m [.ptr b j 0] σ=.ok w [b] []:=by
 rcases h with ⟨rfl,rfl,_⟩|⟨_,b,rfl,hb,hl⟩
 ·omega
 ·refine⟨b,?_,by omega,λagg m w hw=>?_⟩
  ·have:=QbM σ b 0 k false n rows q j hj hb
   rwa [Nat.zero_add] at this
  ·show (match hget σ b with
   |.rows _ rs=>match nth rs j with
    |some row=>match partA agg 0 m row with
     |some v=>SRes.ok v [b] []
     |none=>.stop
    |none=>.stop
   | _=>.stop)=_
   rw[hb];simp only[ZZ,List.getElem?_eq_getElem (show j<rows.length by omega),hw]
theorem Ycw{α:Type}(σ:List ABlk)(f:α→List AVal)(e n:Bool)(s:Nat)(l:List α)(k:IntKind)(c:Int)(h0:0≤c)(h:c.toNat<l.length):Qa s [.rsl e n s (l.map f),.int k c] σ=.ok (.rptr (f l[c.toNat]) 0) [] []:=by
 obtain⟨m,rfl⟩:=Int.eq_ofNat_of_zero_le h0;exact Qu σ f e n s l k m (by simpa using h)
def XH(b:Bk)(next:Int)(u:Th):Bool:=decide (0≤u.card)&&(decide (u.card<b.cards.length)&&(((b.cards[u.card.toNat]?).map Cd.unit).getD false&&(decide (0≤u.harm)&&(decide (u.harm≤1000000)&&(decide (1≤u.id)&&decide (u.id<next))))))
def YA(b:Bk)(next:Int):List Int→List Th→Bool
 |_,[]=>true
 |ids,u::l=>XH b next u&&(!(ids.contains u.id)&&YA b next (ids++[u.id]) l)
def YF(n:Nat)(x:Sd):Bool:=wIn x.life&&(decide (0≤x.mana)&&(wIn x.mana&&(decide (0≤x.most)&&(decide (x.most≤10)&&(ZA n x.deck 60&&(ZA n x.hand 10&&(ZA n x.grave 1000000&&(ZA n x.told 1000000&&decide (x.units.length≤7)))))))))
def YM(b:Bk)(s:St):Bool:=YF b.cards.length s.s0&&(YA b s.next [] s.s0.units&&(YF b.cards.length s.s1&&YA b s.next (s.s0.units.map Th.id) s.s1.units))
def attOk(s:St):List Int→List Int→Bool
 |_,[]=>true
 |prev,a::l=>((unitR s a).2.2&&decide ((unitR s a).1=s.mover))&&(!(prev.contains a)&&attOk s (prev++[a]) l)
def mayR(e:Int)(b:Bk)(s:St)(bare:Bool):Bool:=
 decide (e=0) && (decide (1≤s.turn) && (decide (s.turn≤4096) && (decide (0≤s.mover) && (decide (s.mover≤1) && (decide (0≤s.phase) && (decide (s.phase≤2) && (decide (0≤s.result) && (decide (s.result≤3) &&
 (((s.result == 0) == (s.phase != 2)) && (decide (1≤s.next) && (decide (s.next≤1000000) && (YM b s &&
 (if s.phase≠1 then decide (s.attack.length=0) else !(decide (s.attack.length=0) && !bare) && (s.struck && (decide (s.attack.length≤7) && attOk s [] s.attack)))))))))))))))
abbrev big:Nat:=1152921504606846975
def i8B(n:Int):Bool:=decide (-128≤n)&&decide (n≤127)
def i64B(n:Int):Bool:=decide (-9223372036854775808≤n)&&decide (n≤9223372036854775807)
theorem Qc3{n:Int}(h:i8B n=true):-128≤n∧n≤127:=by simpa[i8B] using h
mutual
def nmFit:Nm→Bool
 |.mk op n _ kids=>decide (kids.length≤big)&&(ZaO kids&&(i8B op&&i64B n))
def ZaO:List Nm→Bool
 |[]=>true
 |x::l=>nmFit x&&ZaO l
end
theorem Qat:∀ {l:List Nm},ZaO l=true→∀x∈l,nmFit x=true
 |[],_,_,h=>by simp at h
 |y::l,h,x,hx=>by
  simp only[ZaO,Bool.and_eq_true] at h;rcases List.mem_cons.1 hx with rfl|hx
  ·exact h.1
  ·exact Qat h.2 x hx
theorem QaN{x:Nm}(h:nmFit x=true):x.kids.length≤big:=by cases x; simp[nmFit] at h; exact h.1
theorem Xao{x k:Nm}(h:nmFit x=true)(hk:k∈x.kids):nmFit k=true:=by cases x; simp[nmFit] at h; exact Qat h.2.1 k hk
theorem Qbu{x k:Nm}(hk:k∈x.kids):SizeOf.sizeOf k<SizeOf.sizeOf x:=by
 cases x with
 |mk a b c kids=>
  have:=List.sizeOf_lt_of_mem (show k∈kids from hk);simp; omega
mutual
def cnFit:Cn→Bool
 |.mk op _ _ nums kids=>(decide (nums.length≤big)&&ZaO nums)&&(decide (kids.length≤big)&&(XaU kids&&i8B op))
def XaU:List Cn→Bool
 |[]=>true
 |x::l=>cnFit x&&XaU l
end
theorem QaU:∀ {l:List Cn},XaU l=true→∀x∈l,cnFit x=true
 |[],_,_,h=>by simp at h
 |y::l,h,x,hx=>by
  simp only[XaU,Bool.and_eq_true] at h;rcases List.mem_cons.1 hx with rfl|hx
  ·exact h.1
  ·exact QaU h.2 x hx
theorem Yaa{x:Cn}(h:cnFit x=true):x.nums.length≤big:=by cases x; simp[cnFit] at h; exact h.1.1
theorem Zaa{x:Cn}(h:cnFit x=true):x.kids.length≤big:=by cases x; simp[cnFit] at h; exact h.2.1
theorem Zam{x:Cn}{k:Nm}(h:cnFit x=true)(hk:k∈x.nums):nmFit k=true:=by cases x; simp[cnFit] at h; exact Qat h.1.2 k hk
theorem Qal{x k:Cn}(h:cnFit x=true)(hk:k∈x.kids):cnFit k=true:=by cases x; simp[cnFit] at h; exact QaU h.2.2.1 k hk
theorem Ybq{x k:Cn}(hk:k∈x.kids):SizeOf.sizeOf k<SizeOf.sizeOf x:=by
 cases x with
 |mk a b c nums kids=>
  have:=List.sizeOf_lt_of_mem (show k∈kids from hk);simp; omega
mutual
def efFit:Ef→Bool
 |.mk op _ n _ c thn els=>nmFit n&&(cnFit c&&((decide (thn.length≤big)&&Zaw thn)&&((decide (els.length≤big)&&Zaw els)&&i8B op)))
def Zaw:List Ef→Bool
 |[]=>true
 |x::l=>efFit x&&Zaw l
end
theorem Yar:∀ {l:List Ef},Zaw l=true→∀x∈l,efFit x=true
 |[],_,_,h=>by simp at h
 |y::l,h,x,hx=>by
  simp only[Zaw,Bool.and_eq_true] at h;rcases List.mem_cons.1 hx with rfl|hx
  ·exact h.1
  ·exact Yar h.2 x hx
def lsFit(l:List Ef):Bool:=decide (l.length≤big)&&Zaw l
theorem XaJ{x:Ef}(h:efFit x=true):nmFit x.n=true:=by cases x; simp[efFit] at h; exact h.1
theorem Zar{x:Ef}(h:efFit x=true):cnFit x.c=true:=by cases x; simp[efFit] at h; exact h.2.1
theorem Y5{x:Ef}(h:efFit x=true):lsFit x.thn=true:=by cases x; simp[efFit] at h; simp[lsFit,Ef.thn,h]
theorem Z5{x:Ef}(h:efFit x=true):lsFit x.els=true:=by cases x; simp[efFit] at h; simp[lsFit,Ef.els,h]
theorem Ycx{x:Ef}(h:efFit x=true):-128≤x.op∧x.op≤127:=by cases x; simp[efFit] at h; exact Qc3 h.2.2.2.2
theorem YS{l:List Ef}(h:lsFit l=true):l.length≤big:=by simp[lsFit] at h; exact h.1
theorem Z6{l:List Ef}{x:Ef}(h:lsFit l=true)(hx:x∈l):efFit x=true:=by simp[lsFit] at h; exact Yar h.2 x hx
theorem wrapI{n:Int}(h1:-9223372036854775808≤n)(h2:n≤9223372036854775807):IntKind.i64.wrap n=n:=IntWalk.i64_in _ ⟨h1,h2⟩
theorem nmRo(x:Nm):roL [.agg (nmC x)]=true:=by rw[QG]; rfl
theorem nmLd(x:Nm):partA true 0 4 (nmC x)=some (.agg (nmC x)):=by rw[QG]; rfl
theorem cnRo(x:Cn):roL [.agg (cnC x)]=true:=by rw[QX]; rfl
theorem cnLd(x:Cn):partA true 0 5 (cnC x)=some (.agg (cnC x)):=by rw[QX]; rfl
theorem ldr{σ:List ABlk}{j n:Nat}{agg:Bool}{row:List AVal}{v:AVal}(hv:partA agg j n row=some v):Zc agg n [.rptr row j] σ=.ok v [] []:=by
 rw[XaD,hv]
mutual
def nmW:Nm→Int
 |.mk _ _ _ kids=>nmWs 1 kids
def nmWs:Int→List Nm→Int
 |n,[]=>n
 |n,x::l=>nmWs (min (n+nmW x) 1073741824) l
end
mutual
def cnW:Cn→Int
 |.mk _ _ _ nums kids=>cnWs (nmWs 1 nums) kids
def cnWs:Int→List Cn→Int
 |n,[]=>n
 |n,x::l=>cnWs (min (n+cnW x) 1073741824) l
end
def cntOp(op:Int):Bool:=decide (op=0)||(decide (op=1)||(decide (op=2)||(decide (op=3)||decide (op=5))))
def sdOp(w:Int):Bool:=decide (w=0)||decide (w=1)
end Go.Ah.Tz
end
section
namespace Go.Ah.Tz
open Go.Proofs.Tryz (prog)
attribute [local irreducible] Ans.rd Ans.pu Ans.wr Ans.dr Ans.gr Ans.gw Ans.gl Ans.gd Ans.opt joinK W
theorem ZcT{f:(List AVal→List ABlk→Prop)→Prop}{k:List AVal→List ABlk→Prop}(h:f k):joinK f k:=by unfold joinK; exact h
theorem bigE:big=1152921504606846975:=rfl
theorem efLd(x:Ef):partA true 0 14 (efC x)=some (.agg (efC x)):=by rw[YH]; rfl
theorem efLdN(x:Ef):partA true 2 4 (efC x)=some (.agg (nmC x.n)):=by rw[YH,QG]; rfl
theorem efLdC(x:Ef):partA true 7 5 (efC x)=some (.agg (cnC x.c)):=by rw[YH,QX]; rfl
theorem efLd0(x:Ef):partA false 0 1 (efC x)=some (iv8 x.op):=by rw[YH]; rfl
theorem efLd1(x:Ef):partA false 1 1 (efC x)=some (iv8 x.who):=by rw[YH]; rfl
theorem efLd6(x:Ef):partA false 6 1 (efC x)=some (.str x.name):=by rw[YH]; rfl
theorem Yq(x:Ef):partA false 12 1 (efC x)=some (efV x.thn):=by rw[YH]; rfl
theorem Xq(x:Ef):partA false 13 1 (efC x)=some (efV x.els):=by rw[YH]; rfl
mutual
def efsW:Int→List Ef→Int
 |n,[]=>n
 |n,x::l=>efsW (efW n x) l
def efW:Int→Ef→Int
 |n0,.mk op _ nn _ c thn els=>
  if op=8 then min ((if cntOp op then min (min (n0+1) 1073741824+nmW nn) 1073741824 else min (n0+1) 1073741824)+cnW c+efsW 0 thn+efsW 0 els) 1073741824 else (if cntOp op then min (min (n0+1) 1073741824+nmW nn) 1073741824 else min (n0+1) 1073741824)
end
theorem ZaE(x:Ef):SizeOf.sizeOf x.thn<SizeOf.sizeOf x∧SizeOf.sizeOf x.els<SizeOf.sizeOf x:=by
 cases x; simp[Ef.thn,Ef.els]; omega
end Go.Ah.Tz
end
section
namespace Go.Ah.Tz
open Go.Proofs.Tryz (prog)
def noNum(x:Nm):Bool:=decide (x.op=0)&&(decide (x.n=0)&&(decide (x.who=0)&&decide (x.kids.length=0)))
def noCond(x:Cn):Bool:=decide (x.op=0)&&(decide (x.who=0)&&(x.name==[]&&(decide (x.nums.length=0)&&decide (x.kids.length=0))))
def findC:List Cd→Tx→Bool→Bool
 |[],_,_=>false
 |c::l,t,u=>if c.name==t then c.unit || !u else findC l t u
attribute [local irreducible] Ans.rd Ans.pu Ans.wr Ans.dr Ans.gr Ans.gw Ans.gl Ans.gd Ans.opt joinK W
theorem Xn{f:(List AVal→List ABlk→Prop)→Prop}{k:List AVal→List ABlk→Prop}(h:∀k',k'=k→f k'):joinK f k:=ZcT (h k rfl)
theorem cdLd0(x:Cd):partA false 0 1 (cdC x)=some (.str x.name):=rfl
theorem cdLd1(x:Cd):partA false 1 1 (cdC x)=some (.bool x.unit):=rfl
end Go.Ah.Tz
end
section
namespace Go.Ah.Tz
open Go.Proofs.Tryz (prog)
def nmK(op:Int):Nat:=if 8≤op∧op≤12 then 2 else 0
def nmTop(t:Bool)(op n who:Int)(len:Nat):Bool:=
 (decide (0≤op)&&(decide (op≤12)&&decide (len=nmK op)))
def nmEnd(t:Bool)(op n who:Int):Bool:=
 if op=0 then decide (0≤n)&&(decide (n≤999)&&decide (who=0)) else decide (n=0)&&(if 1≤op∧op≤4 then sdOp who else decide (who=0)&&(decide (op≠7)||t))
mutual
def nmOk (t:Bool):Nm→Bool
 |.mk op n who kids=>nmTop t op n who kids.length&&(nmsOk t kids&&nmEnd t op n who)
def nmsOk (t:Bool):List Nm→Bool
 |[]=>true
 |x::l=>nmOk t x&&nmsOk t l
end
theorem QcR(t:Bool)(x:Nm):nmOk t x=(nmTop t x.op x.n x.who x.kids.length&&(nmsOk t x.kids&&nmEnd t x.op x.n x.who)):=by cases x; rfl
def cnK3(op:Int):Nat:=if 0≤op∧op≤2 then 2 else 0
def cnK4(op:Int):Nat:=if op=4∨op=5 then 2 else if op=3 then 1 else 0
def cnTop(op:Int)(l3 l4:Nat):Bool:=decide (0≤op)&&(decide (op≤6)&&(decide (l3=cnK3 op)&&decide (l4=cnK4 op)))
def cnEnd(cs:List Cd)(op who:Int)(name:Tx):Bool:=if op=6 then sdOp who&&findC cs name false else decide (who=0)&&name==[]
mutual
def cnOk (cs:List Cd) (t:Bool):Cn→Bool
 |.mk op who name nums kids=>cnTop op nums.length kids.length&&(nmsOk t nums&&(cnsOk cs t kids&&cnEnd cs op who name))
def cnsOk (cs:List Cd) (t:Bool):List Cn→Bool
 |[]=>true
 |x::l=>cnOk cs t x&&cnsOk cs t l
end
theorem XcM(cs:List Cd)(t:Bool)(x:Cn):cnOk cs t x=(cnTop x.op x.nums.length x.kids.length&&(nmsOk t x.nums&&(cnsOk cs t x.kids&&cnEnd cs x.op x.who x.name))):=by cases x; rfl
end Go.Ah.Tz
end
section
namespace Go.Ah.Tz
open Go.Proofs.Tryz (prog)
def efMid(t:Bool)(op who:Int):Bool:=if op=0∨op=1 then sdOp who||(decide (who=2)&&t) else decide (who=0)
def efEnd(t:Bool)(op who:Int):Bool:=
 if op=2∨op=4∨op=6 then sdOp who else efMid t op who
mutual
def efOk (cs:List Cd) (t:Bool):Int→Ef→Bool
 | d,.mk op who n name c thn els=>decide (0≤op) && (decide (op≤8) && (if op=8 then
   decide (who=0)&&(noNum n&&(name==[]&&(cnOk cs t c&&((decide (thn.length≤16)&&(decide (d+1≤8)&&efsOk cs t (d+1) thn))&&(decide (els.length≤16)&&(decide (d+1≤8)&&efsOk cs t (d+1) els))))))
  else noCond c && (decide (thn.length=0) && (decide (els.length=0) && ((if cntOp op then nmOk t n else noNum n) && ((if op=7 then findC cs name true else name == []) && efEnd t op who))))))
def efsOk (cs:List Cd) (t:Bool):Int→List Ef→Bool
 |_,[]=>true
 |d,x::l=>efOk cs t d x&&efsOk cs t d l
end
def lstOk(cs:List Cd)(t:Bool)(d:Int)(l:List Ef):Bool:=decide (l.length≤16)&&(decide (d≤8)&&efsOk cs t d l)
theorem ZcP(cs:List Cd)(t:Bool)(d:Int)(x:Ef):efOk cs t d x=(decide (0≤x.op) && (decide (x.op≤8) && (if x.op=8 then
   decide (x.who=0)&&(noNum x.n&&(x.name==[]&&(cnOk cs t x.c&&(lstOk cs t (d+1) x.thn&&lstOk cs t (d+1) x.els))))
  else noCond x.c && (decide (x.thn.length=0) && (decide (x.els.length=0) && ((if cntOp x.op then nmOk t x.n else noNum x.n) && ((if x.op=7 then findC cs x.name true else x.name == []) && efEnd t x.op x.who))))))):=by cases x; rfl
attribute [local irreducible] Ans.rd Ans.pu Ans.wr Ans.dr Ans.gr Ans.gw Ans.gl Ans.gd Ans.opt joinK W
theorem cutF(F:Prop){R G:Prop}(imp:(F→R)→G)(r:F→R):G:=imp r
end Go.Ah.Tz
end
section
namespace Go.Ah.Tz
open Go.Proofs.Tryz (prog)
def isLet(x:Int):Bool:=decide ((97≤x∧x≤122)∨(65≤x∧x≤90)∨(192≤x∧x≤591∧x≠215∧x≠247))
def isDig(x:Int):Bool:=decide (48≤x∧x≤57)
def shl6(x:Int):Int:=IntKind.i64.wrap (x*2 ^ (min 6 IntKind.i64.bits))
def rStep(x:Int)(c:UInt8):Int:=bits .or .i64 (shl6 x) (IntKind.i64.wrap (bits .and .u8 (c.toNat:Int) 63))
def rCont(c:UInt8):Bool:=(bits .and .u8 (c.toNat:Int) 192 != 128)
def rTail(s:Tx)(at_:Nat):Nat→Nat→Int→Option Int
 |0,_,x=>some x
 |m+1,i,x=>match s[at_+i]? with
  |none=>none
  |some c=>if rCont c then none else rTail s at_ m (i+1) (rStep x c)
def rHead(c:Int):Option (Nat×Int×Int):=
 if 192≤c∧c<224 then some (2,bits .and .i64 c 31,128) else if 224≤c∧c<240 then some (3,bits .and .i64 c 15,2048) else if 240≤c∧c<248 then some (4,bits .and .i64 c 7,65536) else if 128≤c then none else some (1,c,0)
def rEnd(n:Nat)(least:Int):Option Int→Int×Nat
 |none=>(0,0)
 |some y=>if y<least∨1114111<y∨(55296≤y∧y≤57343) then (0,0) else (y,n)
def runeR(s:Tx)(at_:Nat):Int×Nat:=match s[at_]? with
 |none=>(0,0)
 |some c=>match rHead c.toNat with
  |none=>(0,0)
  |some (n,x,least)=>rEnd n least (rTail s at_ (n-1) 1 x)
def Zbh(s:Tx)(at_ n:Nat):Prop:=(runeR s at_).2=0∨(isLet (runeR s at_).1=false∧(n=0∨(isDig (runeR s at_).1=false∧(runeR s at_).1≠39)))
instance (s:Tx) (at_ n:Nat):Decidable (Zbh s at_ n):=inferInstanceAs (Decidable (_∨_))
def nameR(s:Tx)(at_ n:Nat):Nat×Nat:=
 if _h:at_<s.length then (if hk:Zbh s at_ n then (at_,n) else nameR s (at_+(runeR s at_).2) (n+1)) else (at_,n)
termination_by s.length-at_
decreasing_by
 have:(runeR s at_).2≠0:=λe=>hk (Or.inl e);omega
def ownIn:List Tx→Tx→Bool
 |[],_=>false
 |k::l,s=>k==s||ownIn l s
def keysR:List Tx:=[[99,97,114,100],
 [117,110,105,116],
 [99,104,97,114,109],
 [102,111,114,109,97,116],
 [112,108,97,121,101,100],
 [100,101,97,100],
 [100,97,119,110],
 [97,117,114,97],
 [115,104,105,101,108,100],
 [104,97,114,109],
 [109,101,110,100],
 [100,114,97,119],
 [103,97,105,110],
 [100,114,111,112],
 [108,111,111,107],
 [115,104,111,119],
 [115,117,109,109,111,110],
 [105,102],
 [101,108,115,101],
 [109,101],
 [102,111,101],
 [116,97,114,103,101,116],
 [108,105,102,101],
 [104,97,110,100],
 [100,101,99,107],
 [117,110,105,116,115],
 [109,97,110,97],
 [99,111,115,116],
 [116,111,112],
 [112,111,119,101,114],
 [109,105,110],
 [109,97,120],
 [110,111,116],
 [97,110,100],
 [111,114],
 [104,111,108,100,115],
 [108,101,97,115,116],
 [109,111,115,116],
 [99,111,112,105,101,115],
 [98,97,110,110,101,100],
 [115,105,110,103,108,101]]
def nameOk(s:Tx):Bool:=decide (1≤(nameR s 0 0).2)&&(decide ((nameR s 0 0).2≤24)&&(decide ((nameR s 0 0).1=s.length)&&(decide (s.length≤40) && !ownIn keysR s)))
attribute [local irreducible] Ans.rd Ans.pu Ans.wr Ans.dr Ans.gr Ans.gw Ans.gl Ans.gd Ans.opt joinK W
theorem ZaH{P:Program}{GL:Globs}{c d:Bool}{K:AVal→Prop}{r1:SRes}{f2:AVal→SRes}{σ:List ABlk}{v1:AVal}(h1:r1=.ok v1 [] [])(h2:f2 v1=.ok (.bool d) [] [])(hK:K (.bool (c&&d))) :
  (W P GL).gr (.bool c) true (λk=>(W P GL).rd r1 k) λt1=>(W P GL).gr (.bool c) true (λk=>(W P GL).rd (f2 t1) k) λt2=>(W P GL).rd (Zn [.bool c,t2,.bool false] σ) K:=by
 cases c with
 |true=>exact Yb (Ya h1 (Yb (Ya h2 (Ya rfl hK))))
 |false=>exact Xb rfl (Xb rfl (Ya rfl hK))
theorem txLd(x:Tx):partA false 0 1 (txC x)=some (.str x):=rfl
end Go.Ah.Tz
end
section
namespace Go.Ah.Tz
open Go.Proofs.Tryz (prog)
def in999(n:Int):Bool:=decide (0≤n)&&decide (n≤999)
def cdSum(c:Cd):Bool:=if c.unit then decide (1≤c.health) else decide (c.power+c.health+c.shield+c.aurap+c.aurah≤0)&&decide (c.dead.length+c.dawn.length=0)
def cdW(c:Cd):Int:=min (efsW 0 c.played+efsW 0 c.dead+efsW 0 c.dawn) 1073741824
def cdOk(cs:List Cd)(c:Cd):Bool:=
 nameOk c.name&&(in999 c.cost&&(in999 c.power&&(in999 c.health&&(in999 c.shield&&(in999 c.aurap&&(in999 c.aurah&&(cdSum c&&(decide (cdW c≤200)&&(lstOk cs true 1 c.played&&(lstOk cs false 1 c.dead&&lstOk cs false 1 c.dawn))))))))))
def cdFit(c:Cd):Bool:=decide (c.name.length≤big)&&(lsFit c.played&&(lsFit c.dead&&lsFit c.dawn))
def Zaf(l:List Cd):Bool:=decide (l.length≤big)&&l.all cdFit
def cdsGo(cs:List Cd):List Cd→List Cd→Int×Int
 |_,[]=>(0,0)
 |pre,c::l=>if pre.any λd=>d.name==c.name then (101,c.pl) else if cdOk cs c then cdsGo cs (pre++[c]) l else (130,c.pl)
def Q2(cs:List Cd):Int×Int:=if 240<cs.length then (3,0) else cdsGo cs [] cs
attribute [local irreducible] Ans.rd Ans.pu Ans.wr Ans.dr Ans.gr Ans.gw Ans.gl Ans.gd Ans.opt joinK W
set_option maxHeartbeats 1000000
theorem cdLd(x:Cd):partA true 0 12 (cdC x)=some (.agg (cdC x)):=rfl
theorem YcH(x:Cd):partA false 11 1 (cdC x)=some (iv x.pl):=rfl
end Go.Ah.Tz
end
section
namespace Go.Ah.Tz
open Go.Proofs.Tryz (prog)
def lbN(a:Int):Int:=if a<0∨3<a then 3 else a
def joinL(a b:Int):Int:=if lbN a=lbN b∨lbN b=0 then lbN a else if lbN a=0 then lbN b else 3
def Xbc(a b:Int):Bool:=decide (joinL a b=joinL b b)
mutual
def nmL:Nm→Int
 |.mk op _ _ kids=>if 8≤op∧op≤12 then nmLs (if op=6 then 3 else 0) kids else if op=6 then 3 else 0
def nmLs:Int→List Nm→Int
 |n,[]=>n
 |n,x::l=>nmLs (joinL n (nmL x)) l
end
theorem Zc5(x:Nm):nmL x=if 8≤x.op∧x.op≤12 then nmLs (if x.op=6 then 3 else 0) x.kids else if x.op=6 then 3 else 0:=by cases x; rfl
mutual
def cnL:Cn→Int
 |.mk op who _ nums kids=>if op=6 then (if who=0 then 1 else if who=1 then 2 else 3) else cnLs (nmLs 0 nums) kids
def cnLs:Int→List Cn→Int
 |n,[]=>n
 |n,x::l=>cnLs (joinL n (cnL x)) l
end
theorem QcY(x:Cn):cnL x=if x.op=6 then (if x.who=0 then 1 else if x.who=1 then 2 else 3) else cnLs (nmLs 0 x.nums) x.kids:=by cases x; rfl
mutual
def efL (u:Int):Ef→Bool
 |.mk op _ n _ c thn els=>if op=5 then Xbc (joinL u (nmL n)) 1 else if op=8 then efsL (joinL u (cnL c)) thn&&efsL (joinL u (cnL c)) els else if op=0∨op=1∨op=2∨op=3 then decide (joinL u (nmL n)=0) else decide (joinL u u=0)
def efsL (u:Int):List Ef→Bool
 |[]=>true
 |x::l=>efL u x&&efsL u l
end
theorem QbB(u:Int)(x:Ef):efL u x=if x.op=5 then Xbc (joinL u (nmL x.n)) 1 else if x.op=8 then efsL (joinL u (cnL x.c)) x.thn&&efsL (joinL u (cnL x.c)) x.els else if x.op=0∨x.op=1∨x.op=2∨x.op=3 then decide (joinL u (nmL x.n)=0) else decide (joinL u u=0):=by cases x; rfl
attribute [local irreducible] Ans.rd Ans.pu Ans.wr Ans.dr Ans.gr Ans.gw Ans.gl Ans.gd Ans.opt joinK W
set_option maxHeartbeats 1000000
theorem XL{P:Program}{GL:Globs}{c d:Bool}{K:AVal→Prop}{r1:SRes}{f2:AVal→SRes}{σ:List ABlk}{v1:AVal}(h1:r1=.ok v1 [] [])(h2:f2 v1=.ok (.bool d) [] [])(hK:K (.bool (c||d))) :
  (W P GL).gr (.bool c) false (λk=>(W P GL).rd r1 k) λt1=>(W P GL).gr (.bool c) false (λk=>(W P GL).rd (f2 t1) k) λt2=>(W P GL).rd (Zn [.bool c,.bool true,t2] σ) K:=by
 cases c with
 |false=>exact Yb (Ya h1 (Yb (Ya h2 (Ya rfl hK))))
 |true=>exact Xb rfl (Xb rfl (Ya rfl hK))
theorem Xap{P:Program}{GL:Globs}{c d:Bool}{K:AVal→Prop}{r1:SRes}{f2 f3:AVal→SRes}{σ:List ABlk}{v1 v2:AVal}{q1 q2 q3:List Nat}(h1:r1=.ok v1 q1 [])(h2:f2 v1=.ok v2 q2 [])(h3:f3 v2=.ok (.bool d) q3 [])(hK:K (.bool (c&&d))) :
  (W P GL).gr (.bool c) true (λk=>(W P GL).rd r1 k) λt1=>(W P GL).gr (.bool c) true (λk=>(W P GL).rd (f2 t1) k) λt2=>(W P GL).gr (.bool c) true (λk=>(W P GL).rd (f3 t2) k) λt3=>(W P GL).rd (Zn [.bool c,t3,.bool false] σ) K:=by
 cases c with
 |true=>exact Yb (Ya h1 (Yb (Ya h2 (Yb (Ya h3 (Ya rfl hK))))))
 |false=>exact Xb rfl (Xb rfl (Xb rfl (Ya rfl hK)))
end Go.Ah.Tz
end
section
namespace Go.Ah.Tz
open Go.Proofs.Tryz (prog)
def cdL(c:Cd):Bool:=efsL 0 c.played&&(efsL 0 c.dead&&efsL 0 c.dawn)
def cdsL:List Cd→Int×Int
 |[]=>(0,0)
 |c::l=>if cdL c then cdsL l else (140,c.pl)
attribute [local irreducible] Ans.rd Ans.pu Ans.wr Ans.dr Ans.gr Ans.gw Ans.gl Ans.gd Ans.opt joinK W
set_option maxHeartbeats 1000000
theorem XQ{σ:List ABlk}{b j n:Nat}{row:List AVal}{v:AVal}(hb:b<σ.length)(hv:partA true j n row=some v):cellV true n (.bptr b j) (σ.set b (.box row))=some v:=by
 have:hget (σ.set b (.box row)) b=.box row:=QJ (by simp[hb]);simp only[cellV,this,hv]
end Go.Ah.Tz
end
section
namespace Go.Ah.Tz
open Go.Proofs.Tryz (prog)
def fndI:Nat→List Cd→Tx→Nat×Bool
 |_,[],_=>(0,false)
 |i,c::l,t=>if c.name==t then (i,true) else fndI (i+1) l t
def nmsGo(cs:List Cd):List Tx→List Tx→Bool
 |_,[]=>true
 |pre,t::l=>((fndI 0 cs t).2&&pre.all λp=>!(p==t))&&nmsGo cs (pre++[t]) l
def fmtOk(b:Bk)(pre:List Fo)(f:Fo):Bool:=
 !(pre.any λg=>g.name==f.name)&&(decide (pre.length<240)&&(nameOk f.name&&(decide (0≤f.least)&&(decide (f.least≤f.most)&&(decide (f.most≤60)&&(decide (0≤f.copies)&&(decide (f.copies≤999)&&(nmsGo b.cards [] f.banned&&nmsGo b.cards [] f.single))))))))
def fmtGo(b:Bk):List Fo→List Fo→Int×Int
 |_,[]=>(0,0)
 |pre,f::l=>if fmtOk b pre f then fmtGo b (pre++[f]) l else (151,f.pl)
def bkR(b:Bk):Int×Int:=if (Q2 b.cards).1≠0 then Q2 b.cards else if (cdsL b.cards).1≠0 then cdsL b.cards else fmtGo b [] b.formats
def foFit(f:Fo):Bool:=decide (f.name.length≤big)&&(decide (f.banned.length≤big)&&decide (f.single.length≤big))
def bkFit(b:Bk):Bool:=Zaf b.cards&&(decide (b.formats.length≤big)&&b.formats.all foFit)
attribute [local irreducible] Ans.rd Ans.pu Ans.wr Ans.dr Ans.gr Ans.gw Ans.gl Ans.gd Ans.opt joinK W
set_option maxHeartbeats 1000000
theorem foLd(x:Fo):partA true 0 7 (foC x)=some (.agg (foC x)):=rfl
end Go.Ah.Tz
end
