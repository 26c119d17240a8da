/- Part of the proof that FightEnds holds of the program for arguments that together hold at most 1048576 values and letters; no other condition. -/
import Derived.Test.YtflcpnaigpgciaaGreatDoorZ2
set_option linter.all false
section
namespace Go.Ah.Tz
open Go.Proofs.Tryz (prog)
set_option maxRecDepth 100000
def g47:aq:=λA xs a d=>match xs with
 |[x0,x1]=>
 A.r Yf x0 a λe=>A.r Yf x1 a λf=>A.b .neq e f a λg=>A.test g (d (.bool false) a) (A.loop (λh c a=>A.r Yf x0 a λi=>A.b .lss (h0 c) i a λj=>
 A.test j (A.dr (Yb 7 [x0,(h0 c)] a) a λl m a=>A.dr (Zd true 7 [l] a) a λn o a=>A.dr (Yb 7 [x1,(h0 c)] a) a λp q a=>A.dr (Zd true 7 [p] a) a λs t a=>
 A.aE (.call 99) [n,s] a λu v a=>A.pu (Xp .not [u] a) λw=>A.gd (Zh [[],[],[0,1],[0,1,2],[],[],[4,5],[4,5,6],[0,1,2,3,4,5,6,7],[0,1,2,3,4,5,6,7,8]] [([],[]),([],[]),m,o,([],[]),([],[]),q,t,v,([],[])]) <|
 A.test w (d (.bool false) a) (A.b .add (h0 c) (jv 1) a λy=>h [y] a)) (d (.bool true) a)) [jv 0] a)
 |_=>A.stop
theorem ug:GQ 47 2 g47:=dR [none,none,some [5],none,none,none] λ_ _ _ _ _ _=>by kernel_rfl
def g48:aq:=λA xs d j=>match xs with
 |[x0,x1,x2]=>
 A.w1 Zm x0 d λo d=>A.w1 Zm x1 d λe d=>A.wr (Xe dQ [] d) d λf d=>A.r (Zd true 2) o d λt3=>A.r (Zd true 23) e d λt4=>A.k 55 [t3,t4] d λt5 d=>
 A.b .neq t5 (jv 0) d λt6=>A.test t6 (A.rd (Qe dQ [] [] d) λt7=>A.ws (Xb 23) f t7 d λ_ d=>A.opt (av true 23 f d) λr8=>j (.aG [r8,.af,jv 170]) d) (
 A.r (Ya 2) e d λt9=>A.a t9 d λa7=>A.b .neq a7 (.int .i8 1) d λh=>A.fr h (Zd true 23) e d λa8=>A.fr h Qi x2 d λa9=>A.gw h false (λk=>A.k 100 [a8,a9] d k) d λb0 d=>
 A.fr h (Xp .not) b0 d λb1=>A.c h (.bool true) b1 d λb2=>A.test b2 (A.rd (Qe dQ [] [] d) λb3=>A.ws (Xb 23) f b3 d λ_ d=>A.opt (av true 23 f d) λr18=>
 j (.aG [r18,.af,jv 2]) d) (A.wr (ZG [] d) d λl d=>A.r (Ya 7) e d λb4=>A.r (Zd true 16) b4 d λb5=>A.loop (λb6 p d=>A.b .lss (h0 p) (jv 2) d λb7=>
 A.test b7 (A.s (tE true 2 8) b5 (h0 p) d λb8=>A.wr (Xe vz [] d) d λa0 d=>A.ws (Xb 8) a0 b8 d λ_ d=>A.r (Ya 6) a0 d λb9=>
 A.a b9 d λa1=>A.r Yf a1 d λc0=>A.loop (λc1 q d=>A.b .lss (h0 q) c0 d λc2=>A.test c2 (A.s (Yb 4) a1 (h0 q) d λc3=>A.r (Zd true 4) c3 d λc4=>
 A.wr (Xe rG [] d) d λt d=>A.ws (Xb 4) t c4 d λ_ d=>A.r (Zd true 2) o d λc5=>A.r (Zd true 23) e d λc6=>A.r (Ya 0) t d λc7=>
 A.a c7 d λc8=>A.k 54 [c5,c6,c8] d λu d=>A.r (Xc 0) u d λc9=>A.r (Xc 1) u d λi7=>A.r (Xc 2) u d λi9=>A.r (Ya 0) t d λd0=>
 A.a d0 d λd1=>A.s tI c9 (jv 0) d λd2=>A.wr (Xz false [l,d1,d2] d) d λ_ d=>A.b .add (h0 q) (jv 1) d λd3=>c1 [d3] d) (A.b .add (h0 p) (jv 1) d λd4=>
 b6 [d4] d)) [jv 0] d) (A.r (Zd true 23) e d λd5=>A.k 59 [d5] d λd6 d=>A.wr (Xe dQ [] d) d λi d=>A.ws (Xb 23) i d6 d λ_ d=>A.wr (Xe [.af] [] d) d λv d=>
 A.wr (Xe [.af] [] d) d λm d=>A.rd (Qp (.func 101) 0 [m,o,i,e,v] d) λw=>A.r (Ya 5) e d λd7=>A.a d7 d λa2=>A.r Yf a2 d λd8=>
 A.loop (λd9 y d=>A.b .lss (h0 y) d8 d λe0=>A.test e0 (au (λa3=>A.s (Yb 1) a2 (h0 y) d λe1=>A.a e1 d λe2=>A.wr (Xe [jv 0] [] d) d λg d=>
 A.ws (Xb 1) g e2 d λ_ d=>A.r (Qp (.func 104) 0) g d λe3=>A.k 103 [x2,e3] d λa4 d=>A.r (Xc 0) a4 d λe4=>A.r (Xc 1) a4 d λe5=>
 A.wr (Xe [jv 0,jv 0] [] d) d λn d=>A.ws (Xb 2) n e4 d λ_ d=>A.r (Xp .not) e5 d λe6=>A.test e6 (A.a g d λe7=>A.s (Qr false false (jv 0)) l e7 d λe8=>
 A.call .cH [w,jv 0,e8] d λj0 d=>a3 [] d) (A.a m d λe9=>A.rd (Qp (.func 105) 0 [v,e,g,n] d) λf0=>A.wr (Xi 1 1 [.ct] [(0,1)] [f0] d) d λf1 d=>
 A.wr (Qj 1 8 [e9,f1] d) d λf2 d=>A.ws (Xb 1) m f2 d λ_ d=>A.r (Ya 1) n d λf3=>A.a f3 d λf4=>A.a g d λf5=>A.s (Qr false false (jv 0)) l f5 d λf6=>
 A.call .cH [w,f4,f6] d λj1 d=>A.a g d λf7=>A.r (Ya 1) n d λf8=>A.a f8 d λf9=>A.s (Qr false false (jv 0)) l f9 d λg0=>A.call .cH [w,f7,g0] d λj2 d=>
 a3 [] d)) (λj3 d=>A.b .add (h0 y) (jv 1) d λg1=>d9 [g1] d)) (A.a m d λa5=>A.r Yf a5 d λg2=>A.loop (λg3 z d=>A.b .lss (h0 z) g2 d λg4=>
 A.test g4 (A.s (Yb 1) a5 (h0 z) d λg5=>A.a g5 d λg6=>A.call .cH [g6] d λa6 d=>A.b .neq a6 (jv 0) d λg7=>A.test g7 (A.rd (Qe dQ [] [] d) λg8=>
 A.ws (Xb 23) f g8 d λ_ d=>A.opt (av true 23 f d) λr100=>j (.aG [r100,.af,a6]) d) (A.b .add (h0 z) (jv 1) d λg9=>g3 [g9] d)) (A.r (Ya 5) i d λi0=>
 A.ws (Xb 1) i0 .af d λ_ d=>A.r (Ya 2) i d λi1=>A.ws (Xb 1) i1 (.int .i8 0) d λ_ d=>A.dr (Zd true 23 [i] d) d λi2 i3 d=>
 A.dr (Xf [v] d) d λi4 i5 d=>A.dr (Xb 23 [f,i2] d) d λ_ i6 d=>A.gd (Zh [[],[],[0],[0,1,2],[0,1,2,3]] [i3,i5,i6,([],[]),([],[])]) <|
 A.opt (av true 23 f d) λr109=>j (.aG [r109,i4,jv 0]) d)) [jv 0] d)) [jv 0] d)) [jv 0] d))
 |_=>A.stop
theorem mV:GQ 48 3 g48:=jN [none,none,none,some [46],none,none,none,some [52],none,none,none,some [78],none,some [],none,none,some [116],none,none,none] λ_ _ _ _ _ _ _=>by kernel_rfl
def g49:aq:=λA xs d l=>match xs with
 |[x0,x1,x2]=>
 A.w1 Zm x0 d λm d=>A.w1 Zm x1 d λe d=>A.wr (Xe dQ [] d) d λf d=>A.r (Zd true 2) m d λz=>A.r (Zd true 23) e d λt4=>A.k 16 [z,t4] d λt5 d=>
 A.b .neq t5 (jv 0) d λt6=>A.test t6 (A.rd (Qe dQ [] [] d) λt7=>A.ws (Xb 23) f t7 d λ_ d=>A.opt (av true 23 f d) λr8=>l (.aG [r8,.af,jv 170]) d) (
 A.r (Ya 2) e d λt9=>A.a t9 d λa0=>A.b .neq a0 (.int .i8 1) d λj=>A.fr j (Zd true 23) e d λa1=>A.fr j Qi x2 d λa2=>A.gw j false (λk=>A.k 106 [a1,a2] d k) d λa3 d=>
 A.fr j (Xp .not) a3 d λa4=>A.c j (.bool true) a4 d λa5=>A.test a5 (A.rd (Qe dQ [] [] d) λa6=>A.ws (Xb 23) f a6 d λ_ d=>A.opt (av true 23 f d) λr18=>
 l (.aG [r18,.af,jv 2]) d) (A.r (Zd true 23) e d λa7=>A.k 19 [a7] d λa8 d=>A.wr (Xe dQ [] d) d λg d=>A.ws (Xb 23) g a8 d λ_ d=>
 A.loop (λa9 h d=>A.r (Ya 5) e d λb0=>A.a b0 d λb1=>A.r Yf b1 d λb2=>A.b .lss (h0 h) b2 d λb3=>A.test b3 (A.r (Ya 5) e d λb4=>
 A.a b4 d λb5=>A.s (Yb 1) b5 (h0 h) d λb6=>A.a b6 d λn=>A.k 107 [x2,n] d λo d=>A.wr (Xi 1 1 [jv 0] [(0,1)] [jv 0] d) d λb7 d=>
 A.r (Zd true 2) m d λb8=>A.r (Zd true 23) e d λb9=>A.k 108 [b8,b9,n] d λc0 d=>A.wr (Xi 1 1 [jv 0] [(0,1)] [c0] d) d λt d=>A.b .gtr o (jv 0) d λc1=>
 au (λu=>A.test c1 (A.r (Ya 1) e d λc2=>A.a c2 d λc3=>A.rd (Qe gB [(0,1),(1,1),(3,1),(4,1)] [.int .i8 12,c3,n,o] d) λc4=>
 A.wr (Xi 7 1 gB [(0,7)] [c4] d) d λc5 d=>A.wr (Qj 7 72 [(h1 h),c5] d) d λc6 d=>A.wr (Xi 1 2 [jv 0,jv 0] [(0,1),(1,1)] [o,n] d) d λc7 d=>
 A.r (Zd true 2) m d λc8=>A.r (Zd true 23) e d λc9=>A.k 108 [c8,c9,o] d λd0 d=>A.wr (Xi 1 1 [jv 0] [(0,1)] [d0] d) d λd1 d=>A.wr (Qj 1 8 [t,d1] d) d λd2 d=>
 u [c7,d2,c6] d) (u [b7,t,(h1 h)] d)) (λp d=>A.loop (λd3 i d=>A.r Yf (h0 p) d λd4=>A.b .lss (h0 i) d4 d λd5=>A.test d5 (A.dr (Zd true 2 [m] d) d λd6 d7 d=>
 A.dr (Zd true 23 [g] d) d λd8 d9 d=>A.dr (Yb 1 [(h0 p),(h0 i)] d) d λe0 e1 d=>A.dr (Xf [e0] d) d λe2 e3 d=>A.pu (Ya 1 [e] d) λe4=>
 A.dr (Xf [e4] d) d λe5 e6 d=>A.pu (Yj .sub false [jv 1,e5] d) λe7=>A.dr (Yb 1 [(h1 p),(h0 i)] d) d λe8 e9 d=>A.dr (Xf [e8] d) d λf0 f1 d=>
 A.aE (.call 109) [d6,d8,e2,e7,f0] d λq f2 d=>A.pu (Xc 0 [q] d) λf3=>A.pu (Xc 1 [q] d) λf4=>A.pu (Xc 2 [q] d) λv=>A.dr (Xe dQ [] d) d λw f5 d=>
 A.dr (Xe gB [] d) d λy f6 d=>A.dr (Xb 23 [w,f3] d) d λ_ f7 d=>A.dr (Xb 7 [y,f4] d) d λ_ f8 d=>A.gd (Zh [[],[],[],[],[2,3],[2,3,4],[],[6],[6,7],[],[],[9,10],[9,10,11],[0,1,2,3,4,5,6,7,8,9,10,11,12],[0,1,2,3,4,5,6,7,8,9,10,11,12,13],[0,1,2,3,4,5,6,7,8,9,10,11,12,13,14],[0,1,2,3,4,5,6,7,8,9,10,11,12,13,14],[0,1,2,3,4,5,6,7,8,9,10,11,12,13,14],[],[],[0,1,2,3,4,5,6,7,8,9,10,11,12,13,14,15,18,19],[0,1,2,3,4,5,6,7,8,9,10,11,12,13,14,15,16,18,19,20],[0,1,2,3,4,5,6,7,8,9,10,11,12,13,14,15,16,17,18,19,20,21]] [d7,d9,([],[]),([],[]),e1,e3,([],[]),e6,([],[]),([],[]),([],[]),e9,f1,f2,([],[]),([],[]),([],[]),([],[]),f5,f6,f7,f8,([],[])]) <|
 A.b .neq v (jv 0) d λf9=>A.test f9 (A.rd (Qe dQ [] [] d) λg0=>A.ws (Xb 23) f g0 d λ_ d=>A.opt (av true 23 f d) λr85=>l (.aG [r85,.af,v]) d) (
 A.r (Zd true 23) w d λg1=>A.ws (Xb 23) g g1 d λ_ d=>A.r (Zd true 7) y d λg2=>A.wr (Xi 7 1 gB [(0,7)] [g2] d) d λg3 d=>A.wr (Qj 7 72 [(h1 i),g3] d) d λg4 d=>
 A.b .add (h0 i) (jv 1) d λg5=>d3 [g5,g4] d)) (A.b .add (h0 h) (jv 1) d λg6=>a9 [g6,(h1 i)] d)) [jv 0,(h2 p)] d)) (A.r (Ya 5) g d λg7=>
 A.ws (Xb 1) g7 .af d λ_ d=>A.r (Ya 2) g d λg8=>A.ws (Xb 1) g8 (.int .i8 0) d λ_ d=>A.r (Zd true 23) g d λg9=>A.ws (Xb 23) f g9 d λ_ d=>
 A.opt (av true 23 f d) λr95=>l (.aG [r95,(h1 h),jv 0]) d)) [jv 0,.af] d))
 |_=>A.stop
theorem qK:GQ 49 3 g49:=jN [none,none,none,some [11,10],none,none,some [14,15,10],none,some [16,10],none,none,none] λ_ _ _ _ _ _ _=>by kernel_rfl
def g50:aq:=λA xs c f=>match xs with
 |[x0,x1,x2]=>
 A.w1 Zm x0 c λj c=>A.w1 Zm x1 c λd c=>A.r (Zd true 2) j c λl=>A.r (Zd true 23) d c λm=>A.k 48 [l,m,x2] c λe c=>A.r (Xc 0) e c λn=>
 A.r (Xc 1) e c λt6=>A.r (Xc 2) e c λg=>A.wr (Xe dQ [] c) c λh c=>A.ws (Xb 23) h n c λ_ c=>A.b .neq g (jv 0) c λo=>A.test o (
 f (.aG [jv 0,g]) c) (A.r (Ya 1) d c λp=>A.a p c λq=>A.b .sub (jv 1) q c λi=>A.r (Ya 7) d c λt=>A.s (Yg 2 8) t i c λu=>
 A.r (Ya 0) u c λv=>A.a v c λw=>A.r (Ya 7) h c λy=>A.s (Yg 2 8) y i c λz=>A.r (Ya 0) z c λa0=>A.a a0 c λa1=>
 A.b .sub w a1 c λa2=>f (.aG [a2,jv 0]) c)
 |_=>A.stop
theorem oN:GQ 50 3 g50:=jN [none] λ_ _ _ _ _ _ _=>by kernel_rfl
def g51:aq:=λA xs c f=>match xs with
 |[x0,x1,x2]=>
 A.w1 Zm x0 c λi c=>A.w1 Zm x1 c λd c=>A.r (Zd true 2) i c λj=>A.r (Zd true 23) d c λl=>A.k 49 [j,l,x2] c λe c=>A.r (Xc 0) e c λm=>
 A.r (Xc 1) e c λt6=>A.r (Xc 2) e c λg=>A.wr (Xe dQ [] c) c λh c=>A.ws (Xb 23) h m c λ_ c=>A.b .neq g (jv 0) c λn=>A.test n (
 f (.aG [jv 0,g]) c) (A.r (Ya 1) d c λo=>A.a o c λp=>A.b .sub (jv 1) p c λq=>A.r (Ya 7) d c λt=>A.s (Yg 2 8) t q c λu=>
 A.r (Ya 0) u c λv=>A.a v c λw=>A.r (Ya 1) d c λy=>A.a y c λz=>A.b .sub (jv 1) z c λa0=>A.r (Ya 7) h c λa1=>A.s (Yg 2 8) a1 a0 c λa2=>
 A.r (Ya 0) a2 c λa3=>A.a a3 c λa4=>A.b .sub w a4 c λa5=>f (.aG [a5,jv 0]) c)
 |_=>A.stop
theorem uh:GQ 51 3 g51:=jN [none] λ_ _ _ _ _ _ _=>by kernel_rfl
def g52:aq:=λA xs a h=>match xs with
 |[x0]=>
 A.r Yf x0 a λj=>A.loop (λl e a=>A.b .lss (h0 e) j a λm=>A.test m (A.s (Yb 12) x0 (h0 e) a λn=>A.r (Zd true 12) n a λo=>A.k 110 [o] a λp a=>
 A.b .add (h1 e) p a λi=>A.b .gtr i (jv 3000) a λd=>A.fr d Qi x0 a λq=>A.fr d Qi (h0 e) a λt=>A.fs d (Yb 12) q t a λu=>A.fr d (Ya 0) u a λv=>
 A.fa d v a λw=>A.fr d Qs w a λy=>A.fb d .gtr y (jv 2000) a λz=>A.c d (.bool true) z a λf=>A.fr f Qi (h0 e) a λa0=>A.fb f .gtr a0 (jv 60) a λa1=>
 A.fr f Qi a1 a λg=>A.tr g Qi x0 a λa2=>A.tr g Yf a2 a λa3=>A.tb g .leq a3 (jv 240) a λa4=>A.fc f g a4 (.bool false) a λa5=>A.c f (.bool true) a5 a λa6=>
 A.test a6 (h (.bool true) a) (A.b .add (h0 e) (jv 1) a λa7=>l [a7,i] a)) (A.r Yf x0 a λa8=>A.b .gtr a8 (jv 250) a λa9=>h a9 a)) [jv 0,jv 0] a
 |_=>A.stop
def g53:aq:=λA xs a g=>match xs with
 |[]=>
 A.wr (Xe [.af,.af] [] a) a λc a=>A.wr (Xe dQ [] a) a λd a=>A.k 78 [(.str [99,97,114,100,32,73,109,112,32,117,110,105,116,32,49,32,50,47,50,32,123,32,115,104,105,101,108,100,32,49,59,32,125,32,99,97,114,100,32,66,97,114,100,32,117,110,105,116,32,50,32,49,47,49,32,123,32,97,117,114,97,32,49,47,48,59,32,125])] a λe a=>
 A.r (Xc 0) e a λh=>A.r (Xc 1) e a λi=>A.wr (Xe [.af,.af] [] a) a λf a=>A.wr (Xe [jv 0,jv 0] [] a) a λj a=>A.ws (Xb 2) f h a λ_ a=>
 A.ws (Xb 2) j i a λ_ a=>A.rd (Qe dQ [(0,1),(6,1)] [jv 1,jv 9] a) λl=>A.wr (Xe dQ [] a) a λb a=>A.ws (Xb 23) b l a λ_ a=>
 A.rd (Qe rG [(0,1)] [jv 1] a) λm=>A.rd (Qe rG [(0,1),(1,1)] [jv 2,jv 1] a) λn=>A.wr (Xi 4 2 [jv 0,jv 0,jv 0,.bool false,jv 0,jv 0,jv 0,.bool false] [(0,4),(4,4)] [m,n] a) a λo a=>
 A.rd (Qe vz [(0,1),(6,1)] [jv 20,o] a) λp=>A.r (Ya 7) b a λq=>A.s (Yg 2 8) q (jv 0) a λt=>A.ws (Xb 8) t p a λ_ a=>
 A.wr (Xi 1 2 [jv 0,jv 0] [(0,1),(1,1)] [jv 1,jv 0] a) a λu a=>A.rd (Qe vz [(0,1),(3,1)] [jv 20,u] a) λv=>A.r (Ya 7) b a λw=>
 A.s (Yg 2 8) w (jv 1) a λy=>A.ws (Xb 8) y v a λ_ a=>A.dr (Zd true 2 [f] a) a λz a0 a=>A.dr (Zd true 23 [b] a) a λa1 a2 a=>A.dr (Xb 2 [c,z] a) a λ_ a3 a=>
 A.dr (Xb 23 [d,a1] a) a λ_ a4 a=>A.gd (Zh [[],[],[0],[0,1,2]] [a0,a2,a3,a4]) <| A.opt (av true 2 c a) λr25=>A.opt (av true 23 d a) λr26=>
 g (.aG [r25,r26]) a
 |_=>A.stop
theorem zA:GQ 53 0 g53:=vr [] λ_ _ _ _=>by kernel_rfl
def g54:aq:=λA xs a b=>match xs with
 |[x0,x1,x2]=>
 A.w1 Zm x0 a λg a=>A.w1 Zm x1 a λd a=>A.k 56 [g,d] a λe a=>A.s (YV .ptr false false) e .bQ a λh=>A.test h (b (.aG GI) a) (A.r (Zd true 23) d a λi=>
 A.k 71 [i,x2] a λc a=>A.r (Xc 0) c a λj=>A.r (Xc 1) c a λl=>A.r (Xc 2) c a λm=>A.r (Xp .not) m a λn=>A.test n (b (.aG GI) a) (
 A.k 75 [e,j,l] a λf a=>A.r (Xc 0) f a λo=>A.r (Xc 1) f a λp=>b (.aG [o,p,.bool true]) a))
 |_=>A.stop
theorem oO:GQ 54 3 g54:=jN [none,none] λ_ _ _ _ _ _ _=>by kernel_rfl
def g55:aq:=λA xs a b=>match xs with
 |[x0,x1]=>
 A.w1 Zm x0 a λc a=>A.w1 Zm x1 a λd a=>A.k 111 [c,d,.bool false] a λe a=>A.r (Xp .not) e a λf=>A.test f (b (jv 170) a) (b (jv 0) a)
 |_=>A.stop
theorem oP:GQ 55 2 g55:=dR [none] λ_ _ _ _ _ _=>by kernel_rfl
def g56:aq:=λA xs a b=>match xs with
 |[x0,x1]=>
 A.k 111 [x0,x1,.bool true] a λc a=>A.r (Xp .not) c a λd=>A.test d (b .bQ a) (A.r Qa x1 a λe=>A.r (Zd true 23) e a λf=>A.k 59 [f] a λg a=>
 A.rd (Qe [.bQ,jv 0,jv 0,.int .i8 0,.bool false,.int .i8 0,.af,jv 0,jv 0,jv 0,jv 0,.af,.af,.af,.af,.af,jv 0,jv 0,jv 0,.af,.af,.af,.af,.af] [(0,1),(1,23)] [x0,g] a) λh=>
 A.w1 Zm h a λi a=>b i a)
 |_=>A.stop
theorem qL:GQ 56 2 g56:=dR [none] λ_ _ _ _ _ _=>by kernel_rfl
def g57:aq:=λA xs a e=>match xs with
 |[x0]=>
 A.b .geq x0 (jv (-1000000)) a λd=>A.tr d Qi x0 a λf=>A.tb d .leq f (jv 1000000) a λg=>A.c d g (.bool false) a λh=>e h a
 |_=>A.stop
theorem g_:GQ 57 1 g57:=cU [] λ_ _ _ _ _=>by kernel_rfl
def g58:aq:=λA xs b d=>match xs with
 |[x0,x1]=>
 A.r Qa x0 b λe=>A.a e b λf=>A.s (Yb 1) f (jv 0) b λg=>A.a g b λc=>A.r Qa x0 b λh=>A.a h b λi=>A.s (ZW 1) i (jv 1) b λj=>
 A.r Qa x0 b λl=>A.ws (Xb 1) l j b λ_ b=>A.r Qa x1 b λm=>A.a m b λn=>A.wr (Xi 1 1 [jv 0] [(0,1)] [c] b) b λo b=>
 A.wr (Qj 1 8 [n,o] b) b λp b=>A.r Qa x1 b λq=>A.ws (Xb 1) q p b λ_ b=>d c b
 |_=>A.stop
theorem zB:GQ 58 2 g58:=dR [] λ_ _ _ _ _ _=>by kernel_rfl
def g59:aq:=λA xs c h=>match xs with
 |[x0]=>
 A.w1 Zm x0 c λe c=>A.wr (Xe dQ [] c) c λg c=>A.r (Ya 5) e c λi=>A.a i c λj=>A.k 96 [j] c λl c=>A.r (Ya 5) e c λm=>
 A.ws (Xb 1) m l c λ_ c=>A.loop (λn f c=>A.b .lss (h0 f) (jv 2) c λo=>A.test o (A.r (Ya 7) e c λp=>A.s (Yg 2 8) p (h0 f) c λd=>
 A.pu (Qa [d] c) λq=>A.pu (Ya 3 [q] c) λt=>A.dr (Xf [t] c) c λu v c=>A.aE (.call 96) [u] c λw y c=>A.pu (Qa [d] c) λz=>
 A.pu (Ya 4 [z] c) λa0=>A.dr (Xf [a0] c) c λa1 a2 c=>A.aE (.call 96) [a1] c λa3 a4 c=>A.pu (Qa [d] c) λa5=>A.pu (Ya 5 [a5] c) λa6=>
 A.dr (Xf [a6] c) c λa7 a8 c=>A.aE (.call 96) [a7] c λa9 b0 c=>A.pu (Qa [d] c) λb1=>A.pu (Ya 7 [b1] c) λb2=>A.dr (Xf [b2] c) c λb3 b4 c=>
 A.aE (.call 96) [b3] c λb5 b6 c=>A.pu (Qa [d] c) λb7=>A.pu (Ya 6 [b7] c) λb8=>A.dr (Xf [b8] c) c λb9 c0 c=>A.aE (.call 112) [b9] c λc1 c2 c=>
 A.pu (Qa [d] c) λc3=>A.pu (Ya 3 [c3] c) λc4=>A.dr (Xb 1 [c4,w] c) c λ_ c5 c=>A.pu (Qa [d] c) λc6=>A.pu (Ya 4 [c6] c) λc7=>
 A.dr (Xb 1 [c7,a3] c) c λ_ c8 c=>A.pu (Qa [d] c) λc9=>A.pu (Ya 5 [c9] c) λd0=>A.dr (Xb 1 [d0,a9] c) c λ_ d1 c=>A.pu (Qa [d] c) λd2=>
 A.pu (Ya 7 [d2] c) λd3=>A.dr (Xb 1 [d3,b5] c) c λ_ d4 c=>A.pu (Qa [d] c) λd5=>A.pu (Ya 6 [d5] c) λd6=>A.dr (Xb 1 [d6,c1] c) c λ_ d7 c=>
 A.gd (Zh [[],[],[],[],[],[],[5],[5,6],[5,6,7],[5,6,7,8],[],[10],[10,11],[10,11,12],[5,6,7,8,9,10,11,12,13],[],[15],[15,16],[15,16,17],[5,6,7,8,9,10,11,12,13,14,15,16,17,18],[],[20],[20,21],[20,21,22],[5,6,7,8,9,10,11,12,13,14,15,16,17,18,19,20,21,22,23],[],[25],[25,26],[25,26,27],[5,6,7,8,9,10,11,12,13,14,15,16,17,18,19,20,21,22,23,24,25,26,27,28],[0,5,6,7,8,9,10,11,12,13,14,15,16,17,18,19,20,21,22,23,24,25,26,27,28,29],[0,5,6,7,8,9,10,11,12,13,14,15,16,17,18,19,20,21,22,23,24,25,26,27,28,29,30],[0,5,6,7,8,9,10,11,12,13,14,15,16,17,18,19,20,21,22,23,24,25,26,27,28,29,30,31],[0,1,5,6,7,8,9,10,11,12,13,14,15,16,17,18,19,20,21,22,23,24,25,26,27,28,29,30,31,32],[0,1,5,6,7,8,9,10,11,12,13,14,15,16,17,18,19,20,21,22,23,24,25,26,27,28,29,30,31,32,33],[0,1,5,6,7,8,9,10,11,12,13,14,15,16,17,18,19,20,21,22,23,24,25,26,27,28,29,30,31,32,33,34],[0,1,2,5,6,7,8,9,10,11,12,13,14,15,16,17,18,19,20,21,22,23,24,25,26,27,28,29,30,31,32,33,34,35],[0,1,2,5,6,7,8,9,10,11,12,13,14,15,16,17,18,19,20,21,22,23,24,25,26,27,28,29,30,31,32,33,34,35,36],[0,1,2,5,6,7,8,9,10,11,12,13,14,15,16,17,18,19,20,21,22,23,24,25,26,27,28,29,30,31,32,33,34,35,36,37],[0,1,2,3,5,6,7,8,9,10,11,12,13,14,15,16,17,18,19,20,21,22,23,24,25,26,27,28,29,30,31,32,33,34,35,36,37,38],[0,1,2,3,5,6,7,8,9,10,11,12,13,14,15,16,17,18,19,20,21,22,23,24,25,26,27,28,29,30,31,32,33,34,35,36,37,38,39],[0,1,2,3,5,6,7,8,9,10,11,12,13,14,15,16,17,18,19,20,21,22,23,24,25,26,27,28,29,30,31,32,33,34,35,36,37,38,39,40],[0,1,2,3,4,5,6,7,8,9,10,11,12,13,14,15,16,17,18,19,20,21,22,23,24,25,26,27,28,29,30,31,32,33,34,35,36,37,38,39,40,41],[0,1,2,3,4,5,6,7,8,9,10,11,12,13,14,15,16,17,18,19,20,21,22,23,24,25,26,27,28,29,30,31,32,33,34,35,36,37,38,39,40,41,42],[0,1,2,3,4,5,6,7,8,9,10,11,12,13,14,15,16,17,18,19,20,21,22,23,24,25,26,27,28,29,30,31,32,33,34,35,36,37,38,39,40,41,42,43]] [([],[]),([],[]),([],[]),([],[]),([],[]),([],[]),([],[]),([],[]),v,y,([],[]),([],[]),([],[]),a2,a4,([],[]),([],[]),([],[]),a8,b0,([],[]),([],[]),([],[]),b4,b6,([],[]),([],[]),([],[]),c0,c2,([],[]),([],[]),c5,([],[]),([],[]),c8,([],[]),([],[]),d1,([],[]),([],[]),d4,([],[]),([],[]),d7]) <|
 A.b .add (h0 f) (jv 1) c λd8=>n [d8] c) (A.r (Zd true 23) e c λd9=>A.ws (Xb 23) g d9 c λ_ c=>A.opt (av true 23 g c) λr58=>h r58 c)) [jv 0] c
 |_=>A.stop
theorem mW:GQ 59 1 g59:=cU [none,some [9],none,none] λ_ _ _ _ _=>by kernel_rfl
def g60:aq:=λA xs a c=>match xs with
 |[x0]=>
 A.loop (λd b a=>A.rd (Yf [x0] a) λe=>A.rd (Yj .lss false [(h0 b),e] a) λf=>A.test f (A.rd (Yb 1 [x0,(h0 b)] a) λg=>A.rd (Xf [g] a) λh=>
 A.wr (Xi 1 1 [jv 0] [(0,1)] [h] a) a λi a=>A.wr (Qj 1 8 [(h1 b),i] a) a λj a=>A.rd (Yj .add false [(h0 b),jv 1] a) λl=>d [l,j] a) (
 c (h1 b) a)) [jv 0,.af] a
 |_=>A.stop
theorem qM:GQ 60 1 g60:=cU [none,some [4,3],none,none] λ_ _ _ _ _=>by kernel_rfl
def g61:aq:=λA xs a c=>match xs with
 |[x0]=>
 A.loop (λd b a=>A.rd (Yf [x0] a) λe=>A.rd (Yj .lss false [(h0 b),e] a) λf=>A.test f (A.rd (Yb 4 [x0,(h0 b)] a) λg=>A.rd (Zd true 4 [g] a) λh=>
 A.wr (Xi 4 1 rG [(0,4)] [h] a) a λi a=>A.wr (Qj 4 32 [(h1 b),i] a) a λj a=>A.rd (Yj .add false [(h0 b),jv 1] a) λl=>d [l,j] a) (
 c (h1 b) a)) [jv 0,.af] a
 |_=>A.stop
theorem ui:GQ 61 1 g61:=cU [none,some [4,3],none,none] λ_ _ _ _ _=>by kernel_rfl
def g62:aq:=λA xs a c=>match xs with
 |[x0,x1]=>
 A.rd (Yf [x0] a) λd=>A.rd (Yf [x1] a) λe=>A.rd (Yj .neq false [d,e] a) λf=>A.test f (c (.bool false) a) (A.loop (λg b a=>A.rd (Yf [x0] a) λh=>
 A.rd (Yj .lss false [(h0 b),h] a) λi=>A.test i (A.rd (Yb 1 [x0,(h0 b)] a) λj=>A.rd (Xf [j] a) λl=>A.rd (Yb 1 [x1,(h0 b)] a) λm=>
 A.rd (Xf [m] a) λn=>A.rd (Yj .neq false [l,n] a) λo=>A.test o (c (.bool false) a) (A.rd (Yj .add false [(h0 b),jv 1] a) λp=>g [p] a)) (
 c (.bool true) a)) [jv 0] a)
 |_=>A.stop
theorem fe:GQ 62 2 g62:=dR [none,none,some [5],none,none,none] λ_ _ _ _ _ _=>by kernel_rfl
def g63:aq:=λA xs a c=>match xs with
 |[x0,x1]=>
 A.rd (Yf [x0] a) λd=>A.rd (Yf [x1] a) λe=>A.rd (Yj .neq false [d,e] a) λf=>A.test f (c (.bool false) a) (A.loop (λg b a=>A.rd (Yf [x0] a) λh=>
 A.rd (Yj .lss false [(h0 b),h] a) λi=>A.test i (A.rd (Yb 4 [x0,(h0 b)] a) λj=>A.rd (Zd true 4 [j] a) λl=>A.rd (Yb 4 [x1,(h0 b)] a) λm=>
 A.rd (Zd true 4 [m] a) λn=>A.rd (DZ true [false,false,false,true] [l,n] a) λo=>A.test o (c (.bool false) a) (A.rd (Yj .add false [(h0 b),jv 1] a) λp=>
 g [p] a)) (c (.bool true) a)) [jv 0] a)
 |_=>A.stop
theorem qN:GQ 63 2 g63:=dR [none,none,some [5],none,none,none] λ_ _ _ _ _ _=>by kernel_rfl
def g64:aq:=λA xs d h=>match xs with
 |[x0,x1,x2,x3,x4,x5,x6]=>
 A.wr (Xe dQ [] d) d λe d=>A.wr (Xe gB [] d) d λf d=>A.k 56 [x0,x1] d λi d=>A.s (YV .ptr false false) i .bQ d λv=>A.test v (A.rd (Qe dQ [] [] d) λw=>
 A.rd (Qe gB [] [] d) λy=>A.ws (Xb 23) e w d λ_ d=>A.ws (Xb 7) f y d λ_ d=>A.opt (av true 23 e d) λr6=>A.opt (av true 7 f d) λr7=>
 h (.aG [r6,r7,jv 170]) d) (A.s tI x5 (jv 0) d λz=>A.s YJ z (jv 4000000) d λt9=>A.b .neq x3 (jv 0) d λa0=>au (λo=>A.test a0 (A.r Qa x1 d λa1=>
 A.r (Zd true 23) a1 d λa2=>A.k 71 [a2,x3] d λj d=>A.r (Xc 0) j d λp=>A.r (Xc 1) j d λa3=>A.r (Xc 2) j d λa4=>A.r (Xp .not) a4 d λl=>
 A.fr l Qi x3 d λa5=>A.fb l .lss a5 (jv 0) d λa6=>A.c l (.bool true) a6 d λa7=>A.test a7 (A.rd (Qe dQ [] [] d) λa8=>A.rd (Qe gB [] [] d) λa9=>
 A.ws (Xb 23) e a8 d λ_ d=>A.ws (Xb 7) f a9 d λ_ d=>A.opt (av true 23 e d) λr25=>A.opt (av true 7 f d) λr26=>h (.aG [r25,r26,jv 4]) d) (
 A.r Qa i d λb0=>A.r (Ya 1) b0 d λb1=>A.r (Ya 7) b1 d λb2=>A.s (Yg 2 8) b2 p d λb3=>A.r (Ya 6) b3 d λb4=>
 A.a b4 d λb5=>A.s (Yb 4) b5 a3 d λb6=>o [p,b6] d)) (o [x4,.bQ] d)) (λg d=>A.b .lss (h0 g) (jv 0) d λm=>A.fr m Qi (h0 g) d λb7=>
 A.fb m .gtr b7 (jv 1) d λb8=>A.c m (.bool true) b8 d λb9=>A.test b9 (A.rd (Qe dQ [] [] d) λc0=>A.rd (Qe gB [] [] d) λc1=>A.ws (Xb 23) e c0 d λ_ d=>
 A.ws (Xb 7) f c1 d λ_ d=>A.opt (av true 23 e d) λr40=>A.opt (av true 7 f d) λr41=>h (.aG [r40,r41,jv 2]) d) (A.r Qa i d λc2=>
 A.r (Ya 1) c2 d λc3=>A.r (Ya 7) c3 d λc4=>A.s (Yg 2 8) c4 (h0 g) d λq=>A.aE .cH [x6,i] d λc5 c6 d=>A.pu (Qa [q] d) λc7=>
 A.pu (Ya 0 [c7] d) λc8=>A.dr (Xf [c8] d) d λc9 d0 d=>A.aE .cH [c5,(h1 g),c9,t9] d λt d1 d=>A.pu (Xc 0 [t] d) λn=>A.pu (Xc 1 [t] d) λd2=>
 A.gd (Zh [[],[],[0,1],[],[],[4],[4,5],[4,5,6],[],[0,1,2,3,4,5,6,7,8],[0,1,2,3,4,5,6,7,8,9],[0,1,2,3,4,5,6,7,8,9,10],[0,1,2,3,4,5,6,7,8,9,10],[0,1,2,3,4,5,6,7,8,9,10,11],[0,1,2,3,4,5,6,7,8,9,10,11,12,13]] [([],[]),([],[]),c6,([],[]),([],[]),([],[]),([],[]),d0,([],[]),d1,([],[]),([],[]),([],[]),([],[]),([],[])]) <|
 A.k 57 [n] d λd3 d=>A.r (Xp .not) d3 d λd4=>A.test d4 (A.rd (Qe dQ [] [] d) λd5=>A.rd (Qe gB [] [] d) λd6=>A.ws (Xb 23) e d5 d λ_ d=>
 A.ws (Xb 7) f d6 d λ_ d=>A.opt (av true 23 e d) λr60=>A.opt (av true 7 f d) λr61=>h (.aG [r60,r61,jv 171]) d) (A.s (YV .ptr true false) (h1 g) .bQ d λd7=>
 au (λu=>A.test d7 (A.r Qa (h1 g) d λd8=>A.r (Ya 2) d8 d λd9=>A.ws (Xb 1) d9 n d λ_ d=>u [] d) (A.r Qa q d λe0=>
 A.r (Ya 0) e0 d λe1=>A.ws (Xb 1) e1 n d λ_ d=>u [] d)) (λe6 d=>A.r Qa i d λe2=>A.r (Ya 1) e2 d λe3=>A.r (Zd true 23) e3 d λe4=>
 A.rd (Qe gB [(0,1),(1,1),(3,1),(5,1)] [x2,(h0 g),x3,d2] d) λe5=>A.ws (Xb 23) e e4 d λ_ d=>A.ws (Xb 7) f e5 d λ_ d=>A.opt (av true 23 e d) λr73=>
 A.opt (av true 7 f d) λr74=>h (.aG [r73,r74,jv 0]) d)))))
 |_=>A.stop
theorem jx:GQ 64 7 g64:=PL [none,some [4,18],none,none,none,some []] λ_ _ _ _ _ _ _ _ _ _ _=>by kernel_rfl
def g65:aq:=λA xs a b=>match xs with
 |[x0]=>
 A.r (Qp (.func 66) 1) x0 a λc=>b c a
 |_=>A.stop
theorem qO:GQ 65 1 g65:=cU [] λ_ _ _ _ _=>by kernel_rfl
def g66:aq:=λA xs c d=>match xs with
 |[x0,x1,x2,x3]=>
 A.s (YV .ptr true false) x1 .bQ c λf=>A.test f (A.r Qa x0 c λg=>A.r (Ya 0) g c λh=>A.a h c λi=>A.r Qa i c λj=>
 A.r (Ya 0) j c λl=>A.a l c λm=>A.r Qa x1 c λn=>A.r (Ya 1) n c λo=>A.a o c λp=>A.s (Yb 12) m p c λq=>A.r (Ya 5) q c λt=>
 A.a t c λu=>A.b .sub x3 u c λv=>A.s tI v (jv 0) c λe=>A.r Qa x1 c λw=>A.r (Ya 2) w c λy=>A.a y c λz=>A.b .add z e c λa0=>
 d (.aG [a0,e]) c) (A.b .sub x2 x3 c λa1=>d (.aG [a1,x3]) c)
 |_=>A.stop
theorem mX:GQ 66 4 g66:=vt [none] λ_ _ _ _ _ _ _ _=>by kernel_rfl
def g67:aq:=λA xs c f=>match xs with
 |[x0]=>
 A.w1 Zm x0 c λe c=>A.wr (Xe [jv 0,jv 0] [] c) c λd c=>A.r (Ya 0) e c λj=>A.a j c λl=>A.k 113 [l] c λm c=>A.wr (Xe [jv 0,jv 0] [] c) c λh c=>
 A.ws (Xb 2) h m c λ_ c=>A.r (Ya 0) h c λn=>A.a n c λo=>A.b .neq o (jv 0) c λp=>A.test p (A.r (Zd true 2) h c λq=>A.ws (Xb 2) d q c λ_ c=>
 A.opt (av true 2 d c) λr10=>f r10 c) (A.r (Ya 0) e c λt=>A.a t c λu=>A.k 114 [u] c λv c=>A.wr (Xe [jv 0,jv 0] [] c) c λi c=>
 A.ws (Xb 2) i v c λ_ c=>A.r (Ya 0) i c λw=>A.a w c λy=>A.b .neq y (jv 0) c λz=>A.test z (A.r (Zd true 2) i c λa0=>A.ws (Xb 2) d a0 c λ_ c=>
 A.opt (av true 2 d c) λr19=>f r19 c) (A.loop (λa1 g c=>A.r (Ya 1) e c λa2=>A.a a2 c λa3=>A.r Yf a3 c λa4=>A.b .lss (h0 g) a4 c λa5=>
 A.test a5 (A.r (Zd true 2) e c λa6=>A.k 115 [a6,(h0 g)] c λa7 c=>A.r (Xp .not) a7 c λa8=>A.test a8 (A.r (Ya 1) e c λa9=>A.a a9 c λb0=>
 A.s (Yb 7) b0 (h0 g) c λb1=>A.r (Ya 6) b1 c λb2=>A.a b2 c λb3=>A.rd (Qe [jv 0,jv 0] [(0,1),(1,1)] [jv 151,b3] c) λb4=>
 A.ws (Xb 2) d b4 c λ_ c=>A.opt (av true 2 d c) λr35=>f r35 c) (A.b .add (h0 g) (jv 1) c λb5=>a1 [b5] c)) (A.rd (Qe [jv 0,jv 0] [] [] c) λb6=>
 A.ws (Xb 2) d b6 c λ_ c=>A.opt (av true 2 d c) λr38=>f r38 c)) [jv 0] c))
 |_=>A.stop
theorem qP:GQ 67 1 g67:=cU [none,none,none,some [5],none,none,none] λ_ _ _ _ _=>by kernel_rfl
def g68:aq:=λA xs d p=>match xs with
 |[x0,x1]=>
 A.w1 Zm x0 d λj d=>A.w1 Zm x1 d λt1 d=>A.loop (λa3 u d=>A.b .lss (h0 u) (jv 2) d λt4=>A.test t4 (A.r (Ya 7) t1 d λt5=>A.s (Yg 2 8) t5 (h0 u) d λt6=>
 A.r (Zd true 8) t6 d λt7=>A.wr (Xe vz [] d) d λe d=>A.ws (Xb 8) e t7 d λ_ d=>A.r (Ya 0) e d λt9=>A.a t9 d λa4=>A.k 116 [a4] d λa5 d=>
 A.r (Xp .not) a5 d λv=>A.fr v (Ya 1) e d λa6=>A.fa v a6 d λa7=>A.fb v .lss a7 (jv 0) d λa8=>A.c v (.bool true) a8 d λq=>A.fr q (Ya 1) e d λa9=>
 A.fa q a9 d λb0=>A.gw q false (λk=>A.k 116 [b0] d k) d λb1 d=>A.fr q (Xp .not) b1 d λb2=>A.c q (.bool true) b2 d λw=>A.fr w (Ya 2) e d λb3=>
 A.fa w b3 d λb4=>A.fb w .lss b4 (jv 0) d λb5=>A.c w (.bool true) b5 d λy=>A.fr y (Ya 2) e d λb6=>A.fa y b6 d λb7=>A.fb y .gtr b7 (jv 10) d λb8=>
 A.c y (.bool true) b8 d λb9=>A.test b9 (p (.bool false) d) (A.r (Zd true 2) j d λc0=>A.r (Ya 3) e d λc1=>A.a c1 d λc2=>A.k 117 [c0,c2,jv 60] d λc3 d=>
 A.r (Xp .not) c3 d λl=>A.fr l (Zd true 2) j d λc4=>A.fr l (Ya 4) e d λc5=>A.fa l c5 d λc6=>A.gw l false (λk=>A.k 117 [c4,c6,jv 10] d k) d λc7 d=>
 A.fr l (Xp .not) c7 d λc8=>A.c l (.bool true) c8 d λm=>A.fr m (Zd true 2) j d λc9=>A.fr m (Ya 5) e d λd0=>A.fa m d0 d λd1=>A.gw m false (λk=>A.k 117 [c9,d1,jv 1000000] d k) d λd2 d=>
 A.fr m (Xp .not) d2 d λd3=>A.c m (.bool true) d3 d λn=>A.fr n (Zd true 2) j d λd4=>A.fr n (Ya 7) e d λd5=>A.fa n d5 d λd6=>A.gw n false (λk=>A.k 117 [d4,d6,jv 1000000] d k) d λd7 d=>
 A.fr n (Xp .not) d7 d λd8=>A.c n (.bool true) d8 d λt=>A.fr t (Ya 6) e d λd9=>A.fa t d9 d λe0=>A.fr t Yf e0 d λe1=>A.fb t .gtr e1 (jv 7) d λe2=>
 A.c t (.bool true) e2 d λe3=>A.test e3 (p (.bool false) d) (A.loop (λe4 h d=>A.r (Ya 6) e d λe5=>A.a e5 d λe6=>A.r Yf e6 d λe7=>
 A.b .lss (h0 h) e7 d λe8=>A.test e8 (A.r (Ya 6) e d λe9=>A.a e9 d λf0=>A.s (Yb 4) f0 (h0 h) d λf1=>A.r (Zd true 4) f1 d λf2=>
 A.wr (Xe rG [] d) d λf d=>A.ws (Xb 4) f f2 d λ_ d=>A.r (Ya 1) f d λf3=>A.a f3 d λf4=>A.b .lss f4 (jv 0) d λi=>A.fr i (Ya 1) f d λf5=>
 A.fa i f5 d λf6=>A.fr i (Ya 0) j d λf7=>A.fa i f7 d λf8=>A.fr i Yf f8 d λf9=>A.fb i .geq f6 f9 d λg0=>A.c i (.bool true) g0 d λg=>
 A.fr g (Ya 0) j d λg1=>A.fa g g1 d λg2=>A.fr g (Ya 1) f d λg3=>A.fa g g3 d λg4=>A.fs g (Yb 12) g2 g4 d λg5=>A.fr g (Ya 1) g5 d λg6=>
 A.fa g g6 d λg7=>A.fr g (Xp .not) g7 d λg8=>A.c g (.bool true) g8 d λz=>A.fr z (Ya 2) f d λg9=>A.fa z g9 d λi0=>A.fb z .lss i0 (jv 0) d λi1=>
 A.c z (.bool true) i1 d λa0=>A.fr a0 (Ya 2) f d λi2=>A.fa a0 i2 d λi3=>A.fb a0 .gtr i3 (jv 1000000) d λi4=>A.c a0 (.bool true) i4 d λa1=>
 A.fr a1 (Ya 0) f d λi5=>A.fa a1 i5 d λi6=>A.fb a1 .lss i6 (jv 1) d λi7=>A.c a1 (.bool true) i7 d λo=>A.fr o (Ya 0) f d λi8=>
 A.fa o i8 d λi9=>A.fr o (Ya 6) t1 d λj0=>A.fa o j0 d λj1=>A.fb o .geq i9 j1 d λj2=>A.c o (.bool true) j2 d λj3=>A.test j3 (p (.bool false) d) (
 A.loop (λj4 a2 d=>A.r Yf (h1 h) d λj5=>A.b .lss (h0 a2) j5 d λj6=>A.test j6 (A.s (Yb 1) (h1 h) (h0 a2) d λj7=>A.a j7 d λj8=>A.r (Ya 0) f d λj9=>
 A.a j9 d λl0=>A.b .eql j8 l0 d λl1=>A.test l1 (p (.bool false) d) (A.b .add (h0 a2) (jv 1) d λl2=>j4 [l2] d)) (A.r (Ya 0) f d λl3=>A.a l3 d λl4=>
 A.wr (Xi 1 1 [jv 0] [(0,1)] [l4] d) d λl5 d=>A.wr (Qj 1 8 [(h1 h),l5] d) d λl6 d=>A.b .add (h0 h) (jv 1) d λl7=>e4 [l7,l6] d)) [jv 0] d)) (
 A.b .add (h0 u) (jv 1) d λl8=>a3 [l8,(h1 h)] d)) [jv 0,(h1 u)] d))) (p (.bool true) d)) [jv 0,.af] d
 |_=>A.stop
theorem uj:GQ 68 2 g68:=dR [none,some [6,5],none,none,none,none,none,some [8,5],none,none,none,none,some [10],none,none,none] λ_ _ _ _ _ _=>by kernel_rfl
def g71:aq:=λA xs c e=>match xs with
 |[x0,x1]=>
 A.w1 Zm x0 c λg c=>A.w1 Zm x1 c λh c=>A.loop (λi d c=>A.b .lss (h0 d) (jv 2) c λj=>A.test j (A.r (Ya 7) g c λl=>A.s (Yg 2 8) l (h0 d) c λm=>
 A.r (Ya 6) m c λn=>A.a n c λo=>A.r (Qp (.func 119) 0) h c λp=>A.k 118 [o,p] c λf c=>A.b .geq f (jv 0) c λq=>A.test q (e (.aG [(h0 d),f,.bool true]) c) (
 A.b .add (h0 d) (jv 1) c λt=>i [t] c)) (e (.aG GI) c)) [jv 0] c
 |_=>A.stop
theorem iE:GQ 71 2 g71:=dR [none,some [9],none,none,none] λ_ _ _ _ _ _=>by kernel_rfl
def g72:aq:=λA xs a d=>match xs with
 |[x0,x1,x2]=>
 A.r Yf x0 a λe=>A.rd (HB [x0,x1,x2,e] a) λp=>A.b .eql x1 x2 a λf=>A.test f (d x0 a) (A.r Yf x0 a λg=>A.dr (Z8 4 [x0,x1] a) a λh i a=>
 A.dr (ZW 4 [x0,x2] a) a λj l a=>A.dr (Qj 4 32 [h,j] a) a λc m a=>A.gd (Zh [[],[],[0,1],[],[],[3,4],[0,1,2,3,4,5],[0,1,2,3,4,5,6]] [([],[]),([],[]),i,([],[]),([],[]),l,m,([],[])]) <|
 A.r Yf c a λn=>A.rd (Jn 4 [c,n,g] a) λo=>A.w1 (ze 4 rG) o a λ_ a=>d c a)
 |_=>A.stop
theorem zC:GQ 72 3 g72:=jN [none] λ_ _ _ _ _ _ _=>by kernel_rfl
def g73:aq:=λA xs c f=>match xs with
 |[x0,x1]=>
 A.k 120 [x0,x1] c λe c=>A.b .eql e (jv (-1)) c λi=>A.test i (f x0 c) (A.b .add e (jv 1) c λj=>A.loop (λl d c=>A.r Yf x0 c λm=>A.b .lss (h0 d) m c λn=>
 A.test n (au (λg=>A.s (Yb 1) x0 (h0 d) c λo=>A.a o c λh=>A.call .cH [x1,h] c λp c=>A.r (Xp .not) p c λq=>A.test q (A.s (Yb 1) x0 (h1 d) c λt=>
 A.ws (Xb 1) t h c λ_ c=>A.b .add (h1 d) (jv 1) c λu=>g [u] c) (g [(h1 d)] c)) (λv c=>A.b .add (h0 d) (jv 1) c λw=>l [w,(h0 v)] c)) (A.s (ZW 1) x0 (h1 d) c λy=>
 A.wr (ze 1 [jv 0] [y] c) c λ_ c=>A.s (Z8 1) x0 (h1 d) c λz=>f z c)) [j,e] c)
 |_=>A.stop
theorem zD:GQ 73 2 g73:=dR [none,none,some [6,5],none,some [5],none] λ_ _ _ _ _ _=>by kernel_rfl
def g74:aq:=λA xs c d=>match xs with
 |[x0,x1]=>
 A.a x1 c λe=>A.b .eql x0 e c λf=>d f c
 |_=>A.stop
theorem zE:GQ 74 2 g74:=dR [] λ_ _ _ _ _ _=>by kernel_rfl
def g75:aq:=λA xs c j=>match xs with
 |[x0,x1,x2]=>
 A.r Qa x0 c λl=>A.r (Ya 1) l c λm=>A.r (Ya 7) m c λn=>A.s (Yg 2 8) n x1 c λo=>A.r (Ya 6) o c λp=>
 A.a p c λf=>A.r Yf f c λq=>A.loop (λt d c=>A.b .lss (h0 d) q c λu=>A.test u (au (λg=>A.s (Yb 4) f (h0 d) c λv=>A.r (Zd true 4) v c λw=>
 A.wr (Xe rG [] c) c λh c=>A.ws (Xb 4) h w c λ_ c=>A.r Qa x0 c λy=>A.r (Ya 0) y c λz=>A.a z c λa0=>A.r Qa a0 c λa1=>
 A.r (Ya 0) a1 c λa2=>A.a a2 c λa3=>A.r (Ya 1) h c λa4=>A.a a4 c λa5=>A.s (Yb 12) a3 a5 c λe=>A.b .eql (h0 d) x2 c λa6=>
 A.test a6 (A.r Qa e c λa7=>A.r (Ya 3) a7 c λa8=>A.a a8 c λa9=>A.b .add (h1 d) a9 c λb0=>A.r Qa e c λb1=>A.r (Ya 4) b1 c λb2=>
 A.a b2 c λb3=>A.b .add (h2 d) b3 c λb4=>g [b0,b4] c) (A.r Qa e c λb5=>A.r (Ya 6) b5 c λb6=>A.a b6 c λb7=>A.b .add (h1 d) b7 c λb8=>
 A.r Qa e c λb9=>A.r (Ya 7) b9 c λc0=>A.a c0 c λc1=>A.b .add (h2 d) c1 c λc2=>g [b8,c2] c)) (λi c=>A.b .add (h0 d) (jv 1) c λc3=>
 t [c3,(h0 i),(h1 i)] c)) (j (.aG [(h1 d),(h2 d)]) c)) [jv 0,jv 0,jv 0] c
 |_=>A.stop
theorem kN:GQ 75 3 g75:=jN [none,some [20,6,7],none,some [6,7],none] λ_ _ _ _ _ _ _=>by kernel_rfl
def g76:aq:=λA xs c f=>match xs with
 |[x0]=>
 A.w1 Zm x0 c λe c=>A.loop (λg d c=>A.r (Ya 3) e c λh=>A.a h c λi=>A.r Yf i c λj=>A.b .lss (h0 d) j c λl=>A.test l (A.r (Ya 3) e c λm=>
 A.a m c λn=>A.s (Yb 4) n (h0 d) c λo=>A.r (Zd true 4) o c λp=>A.k 76 [p] c λq c=>A.b .add (h1 d) q c λt=>A.s YJ t (jv 1073741824) c λu=>
 A.b .add (h0 d) (jv 1) c λv=>g [v,u] c) (f (h1 d) c)) [jv 0,jv 1] c
 |_=>A.stop
theorem mY:GQ 76 1 g76:=cU [none,some [4,3],none,none] λ_ _ _ _ _=>by kernel_rfl
def g77:aq:=λA xs d f=>match xs with
 |[x0,x1]=>
 A.w1 Zm x1 d λe d=>A.r (Ya 0) e d λt=>A.a t d λu=>A.b .geq u (.int .i8 8) d λj=>A.tr j (Ya 0) e d λv=>A.ta j v d λw=>
 A.tb j .leq w (.int .i8 12) d λy=>A.c j y (.bool false) d λz=>au (λq=>A.test z (q [jv 2] d) (q [jv 0] d)) (λv9 d=>A.r (Ya 0) e d λa0=>
 A.a a0 d λa1=>A.b .lss a1 (.int .i8 0) d λl=>A.fr l (Ya 0) e d λa2=>A.fa l a2 d λa3=>A.fb l .gtr a3 (.int .i8 12) d λa4=>A.c l (.bool true) a4 d λg=>
 A.fr g (Ya 3) e d λa5=>A.fa g a5 d λa6=>A.fr g Yf a6 d λa7=>A.fr g Qi (h0 v9) d λa8=>A.fb g .neq a7 a8 d λa9=>A.c g (.bool true) a9 d λb0=>
 A.test b0 (f (.bool false) d) (A.loop (λb1 p d=>A.r (Ya 3) e d λb2=>A.a b2 d λb3=>A.r Yf b3 d λb4=>A.b .lss (h0 p) b4 d λb5=>A.test b5 (
 A.r (Ya 3) e d λb6=>A.a b6 d λb7=>A.s (Yb 4) b7 (h0 p) d λb8=>A.r (Zd true 4) b8 d λb9=>A.k 77 [x0,b9] d λc0 d=>A.r (Xp .not) c0 d λc1=>
 A.test c1 (f (.bool false) d) (A.b .add (h0 p) (jv 1) d λc2=>b1 [c2] d)) (A.r (Ya 0) e d λc3=>A.a c3 d λc4=>A.b .eql c4 (.int .i8 0) d λc5=>
 A.test c5 (A.r (Ya 1) e d λc6=>A.a c6 d λc7=>A.b .geq c7 (jv 0) d λm=>A.tr m (Ya 1) e d λc8=>A.ta m c8 d λc9=>A.tb m .leq c9 (jv 999) d λd0=>
 A.c m d0 (.bool false) d λn=>A.tr n (Ya 2) e d λd1=>A.ta n d1 d λd2=>A.tb n .eql d2 (.int .i8 0) d λd3=>A.c n d3 (.bool false) d λd4=>
 f d4 d) (A.r (Ya 1) e d λd5=>A.a d5 d λd6=>A.b .neq d6 (jv 0) d λd7=>A.test d7 (f (.bool false) d) (A.r (Ya 0) e d λd8=>A.a d8 d λd9=>
 A.b .geq d9 (.int .i8 1) d λo=>A.tr o (Ya 0) e d λe0=>A.ta o e0 d λe1=>A.tb o .leq e1 (.int .i8 4) d λe2=>A.c o e2 (.bool false) d λe3=>
 A.test e3 (A.r (Ya 2) e d λe4=>A.a e4 d λe5=>A.k 121 [e5] d λe6 d=>f e6 d) (A.r (Ya 2) e d λe7=>A.a e7 d λe8=>A.b .eql e8 (.int .i8 0) d λh=>
 A.tr h (Ya 0) e d λe9=>A.ta h e9 d λf0=>A.tb h .neq f0 (.int .i8 7) d λf1=>A.tr h Qi f1 d λi=>A.fr i Qi x0 d λf2=>A.fr i Qa f2 d λf3=>
 A.fr i (Ya 1) f3 d λf4=>A.fa i f4 d λf5=>A.tc h i (.bool true) f5 d λf6=>A.c h f6 (.bool false) d λf7=>f f7 d))))) [jv 0] d))
 |_=>A.stop
theorem mZ:GQ 77 2 g77:=dR [some [5],none,none,some [6],none,none,none,none,none,none] λ_ _ _ _ _ _=>by kernel_rfl
def g78:aq:=λA xs c h=>match xs with
 |[x0]=>
 A.wr (Xe [.af,.af] [] c) c λe c=>A.wr (Xe [jv 0,jv 0] [] c) c λf c=>A.k 122 [x0] c λi c=>A.r (Xc 0) i c λl=>A.r (Xc 1) i c λm=>
 A.wr (Xe [.af,.af] [] c) c λg c=>A.wr (Xe [jv 0,jv 0] [] c) c λd c=>A.ws (Xb 2) g l c λ_ c=>A.ws (Xb 2) d m c λ_ c=>
 A.r (Ya 0) d c λn=>A.a n c λo=>A.b .eql o (jv 0) c λp=>au (λj=>A.test p (A.r (Zd true 2) g c λq=>A.k 67 [q] c λs c=>A.ws (Xb 2) d s c λ_ c=>
 j [] c) (j [] c)) (λa4 c=>A.r (Ya 0) d c λt=>A.a t c λu=>A.b .neq u (jv 0) c λv=>A.test v (A.pu (Qe [.af,.af] [] [] c) λw=>
 A.dr (Zd true 2 [d] c) c λy z c=>A.dr (Xb 2 [e,w] c) c λ_ a0 c=>A.dr (Xb 2 [f,y] c) c λ_ a1 c=>A.gd (Zh [[],[],[0],[0,1,2]] [([],[]),z,a0,a1]) <|
 A.opt (av true 2 e c) λr22=>A.opt (av true 2 f c) λr23=>h (.aG [r22,r23]) c) (A.r (Zd true 2) g c λa2=>A.rd (Qe [jv 0,jv 0] [] [] c) λa3=>
 A.ws (Xb 2) e a2 c λ_ c=>A.ws (Xb 2) f a3 c λ_ c=>A.opt (av true 2 e c) λr26=>A.opt (av true 2 f c) λr27=>h (.aG [r26,r27]) c))
 |_=>A.stop
theorem zF:GQ 78 1 g78:=cU [some [],none] λ_ _ _ _ _=>by kernel_rfl
def g89:aq:=λA xs a c=>match xs with
 |[x0]=>
 A.r Yf x0 a λb=>A.r (ZJ .u64) b a λd=>A.k 129 [d] a λe a=>A.k 128 [x0,jv 0,b,e] a λf a=>c (.aG []) a
 |_=>A.stop
theorem qQ:GQ 89 1 g89:=cU [] λ_ _ _ _ _=>by kernel_rfl
def g92:aq:=λA xs d i=>match xs with
 |[x0,x1,x2]=>
 A.w1 Zm x0 d λh d=>A.w1 Zm x1 d λj d=>A.r (Ya 0) h d λl=>A.a l d λm=>A.r Yf m d λn=>A.b .gtr n (jv 60) d λf=>A.fr f (Zd true 2) h d λo=>
 A.gw f false (λk=>A.k 133 [o] d k) d λp d=>A.c f (.bool true) p d λg=>A.fr g (Zd true 23) j d λq=>A.gw g false (λk=>A.k 134 [q] d k) d λs d=>
 A.c g (.bool true) s d λe=>A.fr e Qi x2 d λt=>A.gw e false (λk=>A.k 135 [t] d k) d λu d=>A.fb e .gtr u (jv 1000) d λv=>A.c e (.bool true) v d λw=>
 i w d
 |_=>A.stop
theorem uk:GQ 92 3 g92:=jN [] λ_ _ _ _ _ _ _=>by kernel_rfl
def g93:aq:=λA xs a c=>match xs with
 |[]=>
 A.wr (Xe [.af,.af] [] a) a λb a=>A.rd (Qe [.str [],.bool false,jv 0,jv 0,jv 0,jv 0,jv 0,jv 0,.af,.af,.af,jv 0] [(0,1),(1,1),(2,1),(3,1),(4,1),(5,1)] [(.str [73,109,112]),.bool true,jv 1,jv 2,jv 3,jv 1] a) λd=>
 A.rd (Qe [.str [],.bool false,jv 0,jv 0,jv 0,jv 0,jv 0,jv 0,.af,.af,.af,jv 0] [(0,1),(1,1),(2,1),(3,1),(4,1),(6,1)] [(.str [69,108,102]),.bool true,jv 2,jv 1,jv 1,jv 1] a) λe=>
 A.rd (Qe mw [(1,1)] [jv 3] a) λf=>A.rd (Qe [.int .i8 0,.int .i8 0,.int .i8 0,jv 0,.int .i8 0,.af,.str [],.int .i8 0,.int .i8 0,.str [],.af,.af,.af,.af] [(0,1),(1,1),(2,4)] [.int .i8 0,.int .i8 2,f] a) λg=>
 A.wr (Xi 14 1 [.int .i8 0,.int .i8 0,.int .i8 0,jv 0,.int .i8 0,.af,.str [],.int .i8 0,.int .i8 0,.str [],.af,.af,.af,.af] [(0,14)] [g] a) a λh a=>
 A.rd (Qe [.str [],.bool false,jv 0,jv 0,jv 0,jv 0,jv 0,jv 0,.af,.af,.af,jv 0] [(0,1),(2,1),(8,1)] [(.str [66,111,108,116]),jv 1,h] a) λi=>
 A.wr (Xi 12 3 [.str [],.bool false,jv 0,jv 0,jv 0,jv 0,jv 0,jv 0,.af,.af,.af,jv 0,.str [],.bool false,jv 0,jv 0,jv 0,jv 0,jv 0,jv 0,.af,.af,.af,jv 0,.str [],.bool false,jv 0,jv 0,jv 0,jv 0,jv 0,jv 0,.af,.af,.af,jv 0] [(0,12),(12,12),(24,12)] [d,e,i] a) a λj a=>
 A.rd (Qe [.str [],jv 0,jv 0,jv 0,.af,.af,jv 0] [(0,1),(2,1),(3,1)] [(.str [115,116,100]),jv 60,jv 60] a) λl=>A.wr (Xi 7 1 [.str [],jv 0,jv 0,jv 0,.af,.af,jv 0] [(0,7)] [l] a) a λm a=>
 A.rd (Qe [.af,.af] [(0,1),(1,1)] [j,m] a) λn=>A.ws (Xb 2) b n a λ_ a=>A.opt (av true 2 b a) λr11=>c r11 a
 |_=>A.stop
theorem m_:GQ 93 0 g93:=vr [] λ_ _ _ _=>by kernel_rfl
def g94:aq:=λA xs b e=>match xs with
 |[]=>
 A.wr (Xe dQ [] b) b λd b=>A.k 136 [] b λf b=>A.wr (Xe dQ [] b) b λc b=>A.ws (Xb 23) c f b λ_ b=>A.r (Ya 7) c b λg=>
 A.s (Yg 2 8) g (jv 0) b λh=>A.r (Ya 6) h b λi=>A.a i b λj=>A.rd (Qe rG [(0,1),(1,1)] [jv 3,jv 1] b) λl=>A.wr (Xi 4 1 rG [(0,4)] [l] b) b λm b=>
 A.wr (Qj 4 32 [j,m] b) b λn b=>A.r (Ya 7) c b λo=>A.s (Yg 2 8) o (jv 0) b λp=>A.r (Ya 6) p b λq=>A.ws (Xb 1) q n b λ_ b=>
 A.r (Ya 6) c b λt=>A.ws (Xb 1) t (jv 4) b λ_ b=>A.r (Zd true 23) c b λu=>A.ws (Xb 23) d u b λ_ b=>A.opt (av true 23 d b) λr15=>
 e r15 b
 |_=>A.stop
theorem qR:GQ 94 0 g94:=vr [] λ_ _ _ _=>by kernel_rfl
def g95:aq:=λA xs a d=>match xs with
 |[x0]=>
 A.k 96 [x0] a λc a=>A.k 89 [c] a λi a=>A.k 137 [c] a λe a=>A.r Yf e a λf=>A.r Yf x0 a λg=>A.b .lss f g a λh=>d h a
 |_=>A.stop
theorem oQ:GQ 95 1 g95:=cU [] λ_ _ _ _ _=>by kernel_rfl
def g96:aq:=λA xs a b=>match xs with
 |[x0]=>
 A.s (YV .slice false false) x0 .af a λc=>A.test c (b .af a) (A.rd (HE 1 [] a) λd=>A.wr (Qj 1 8 [d,x0] a) a λe a=>b e a)
 |_=>A.stop
theorem iF:GQ 96 1 g96:=cU [none] λ_ _ _ _ _=>by kernel_rfl
def g98:aq:=λA xs c e=>match xs with
 |[x0,x1]=>
 A.loop (λf d c=>A.r Yf x0 c λg=>A.b .lss (h0 d) g c λh=>A.test h (A.s (Yb 1) x0 (h0 d) c λi=>A.a i c λj=>A.b .eql j x1 c λl=>
 A.test l (e (.bool true) c) (A.b .add (h0 d) (jv 1) c λm=>f [m] c)) (e (.bool false) c)) [jv 0] c
 |_=>A.stop
theorem um:GQ 98 2 g98:=dR [none,some [5],none,none,none] λ_ _ _ _ _ _=>by kernel_rfl
def g99:aq:=λA xs d n=>match xs with
 |[x0,x1]=>
 A.w1 Zm x0 d λe d=>A.w1 Zm x1 d λf d=>A.r (Ya 0) e d λo=>A.a o d λp=>A.r (Ya 0) f d λq=>A.a q d λs=>A.b .eql p s d λg=>
 A.tr g (Ya 1) e d λt=>A.ta g t d λu=>A.tr g (Ya 1) f d λv=>A.ta g v d λw=>A.tb g .eql u w d λy=>A.c g y (.bool false) d λh=>
 A.tr h (Ya 2) e d λz=>A.ta h z d λa0=>A.tr h (Ya 2) f d λa1=>A.ta h a1 d λa2=>A.tb h .eql a0 a2 d λa3=>A.c h a3 (.bool false) d λi=>
 A.tr i (Ya 3) e d λa4=>A.ta i a4 d λa5=>A.tr i (Ya 3) f d λa6=>A.ta i a6 d λa7=>A.tb i .eql a5 a7 d λa8=>A.c i a8 (.bool false) d λj=>
 A.tr j (Ya 4) e d λa9=>A.ta j a9 d λb0=>A.tr j (Ya 4) f d λb1=>A.ta j b1 d λb2=>A.tb j .eql b0 b2 d λb3=>A.c j b3 (.bool false) d λl=>
 A.tr l (Ya 5) e d λb4=>A.ta l b4 d λb5=>A.tr l (Ya 5) f d λb6=>A.ta l b6 d λb7=>A.tb l .eql b5 b7 d λb8=>A.c l b8 (.bool false) d λm=>
 A.tr m (Ya 6) e d λb9=>A.ta m b9 d λc0=>A.tr m (Ya 6) f d λc1=>A.ta m c1 d λc2=>A.gw m true (λk=>A.k 62 [c0,c2] d k) d λc3 d=>
 A.c m c3 (.bool false) d λc4=>n c4 d
 |_=>A.stop
theorem uo:GQ 99 2 g99:=dR [] λ_ _ _ _ _ _=>by kernel_rfl
def g100:aq:=λA xs d m=>match xs with
 |[x0,x1]=>
 A.w1 Zm x0 d λj d=>A.r Yf x1 d λn=>A.loop (λo e d=>A.b .lss (h0 e) n d λp=>A.test p (A.s (Yb 2) x1 (h0 e) d λq=>A.r (Zd true 2) q d λt=>
 A.wr (Xe [jv 0,jv 0] [] d) d λg d=>A.ws (Xb 2) g t d λ_ d=>A.r (Zd true 23) j d λu=>A.r (Ya 1) g d λv=>A.a v d λw=>
 A.k 71 [u,w] d λl d=>A.r (Xc 0) l d λy=>A.r (Xc 1) l d λd1=>A.r (Xc 2) l d λz=>A.r (Xp .not) z d λh=>A.fr h Qi y d λa0=>
 A.fr h (Ya 1) j d λa1=>A.fa h a1 d λa2=>A.fb h .eql a0 a2 d λa3=>A.c h (.bool true) a3 d λf=>A.fr f (Ya 5) j d λa4=>A.fa f a4 d λa5=>
 A.fr f (Ya 0) g d λa6=>A.fa f a6 d λa7=>A.gw f false (λk=>A.k 138 [a5,a7] d k) d λa8 d=>A.fr f (Xp .not) a8 d λa9=>A.c f (.bool true) a9 d λb0=>
 A.test b0 (m (.bool false) d) (A.pu (Ya 0 [g] d) λb1=>A.dr (Xf [b1] d) d λb2 b3 d=>A.dr (Xi 1 1 [jv 0] [(0,1)] [b2] d) d λb4 b5 d=>
 A.dr (Qj 1 8 [(h1 e),b4] d) d λb6 b7 d=>A.pu (Ya 1 [g] d) λb8=>A.dr (Xf [b8] d) d λb9 c0 d=>A.dr (Xi 1 1 [jv 0] [(0,1)] [b9] d) d λc1 c2 d=>
 A.dr (Qj 1 8 [(h2 e),c1] d) d λc3 c4 d=>A.gd (Zh [[],[],[1],[1,2],[0,1,2,3],[],[],[6],[6,7],[0,1,2,3,4,5,6,7,8],[0,1,2,3,4,5,6,7,8,9],[0,1,2,3,4,5,6,7,8,9,10]] [([],[]),([],[]),b3,b5,b7,([],[]),([],[]),c0,c2,c4,([],[]),([],[])]) <|
 A.b .add (h0 e) (jv 1) d λc5=>o [c5,b6,c3] d)) (A.k 95 [(h1 e)] d λc6 d=>A.r (Xp .not) c6 d λi=>A.tr i Qi (h2 e) d λc7=>A.gw i true (λk=>A.k 95 [c7] d k) d λc8 d=>
 A.tr i (Xp .not) c8 d λc9=>A.c i c9 (.bool false) d λd0=>m d0 d)) [jv 0,.af,.af] d
 |_=>A.stop
theorem nX:GQ 100 2 g100:=dR [none,some [14,5,6],none,none,none] λ_ _ _ _ _ _=>by kernel_rfl
def g101:aq:=λA xs b c=>match xs with
 |[x0,x1,x2,x3,x4,x5,x6]=>
 A.w1 Zm x0 b λd b=>A.w1 Zm x1 b λe b=>A.a x2 b λf=>A.rd (Qp (.func 102) 0 [x3,x4,d,x5,e,x6] b) λg=>A.wr (Xi 1 1 [.ct] [(0,1)] [g] b) b λh b=>
 A.wr (Qj 1 8 [f,h] b) b λi b=>A.ws (Xb 1) x2 i b λ_ b=>c (.aG []) b
 |_=>A.stop
theorem rN:GQ 101 7 g101:=PL [] λ_ _ _ _ _ _ _ _ _ _ _=>by kernel_rfl
def g102:aq:=λA xs c f=>match xs with
 |[x0,x1,x2,x3,x4,x5]=>
 A.r (Zd true 2) x0 c λi=>A.r (Zd true 23) x1 c λj=>A.a x2 c λl=>A.r (Ya 1) x3 c λm=>A.a m c λn=>A.b .sub (jv 1) n c λo=>
 A.a x4 c λp=>A.k 22 [i,j,l,o,p] c λd c=>A.r (Xc 0) d c λq=>A.r (Xc 1) d c λs=>A.r (Xc 2) d c λe=>A.wr (Xe dQ [] c) c λg c=>
 A.wr (Xe gB [] c) c λh c=>A.ws (Xb 23) g q c λ_ c=>A.ws (Xb 7) h s c λ_ c=>A.b .eql e (jv 0) c λt=>A.test t (A.r (Zd true 23) g c λu=>
 A.ws (Xb 23) x1 u c λ_ c=>A.a x5 c λv=>A.r (Zd true 7) h c λw=>A.wr (Xi 7 1 gB [(0,7)] [w] c) c λy c=>A.wr (Qj 7 72 [v,y] c) c λz c=>
 A.ws (Xb 1) x5 z c λ_ c=>f e c) (f e c)
 |_=>A.stop
theorem rO:GQ 102 6 g102:=PK [none] λ_ _ _ _ _ _ _ _ _ _=>by kernel_rfl
def g103:aq:=λA xs a d=>match xs with
 |[x0,x1]=>
 A.wr (Xe [jv 0,jv 0] [] a) a λc a=>A.k 139 [x0,x1] a λe a=>A.b .geq e (jv 0) a λf=>A.test f (A.s (Yb 2) x0 e a λg=>A.r (Zd true 2) g a λh=>
 A.ws (Xb 2) c h a λ_ a=>A.opt (av true 2 c a) λr5=>d (.aG [r5,.bool true]) a) (A.r (Zd true 2) c a λi=>A.ws (Xb 2) c i a λ_ a=>
 A.opt (av true 2 c a) λr7=>d (.aG [r7,.bool false]) a)
 |_=>A.stop
theorem nY:GQ 103 2 g103:=dR [none] λ_ _ _ _ _ _=>by kernel_rfl
def g104:aq:=λA xs c d=>match xs with
 |[x0,x1]=>
 A.w1 Zm x0 c λe c=>A.r (Ya 0) e c λf=>A.a f c λg=>A.a x1 c λh=>A.b .eql g h c λi=>d i c
 |_=>A.stop
theorem nZ:GQ 104 2 g104:=dR [] λ_ _ _ _ _ _=>by kernel_rfl
def g105:aq:=λA xs b c=>match xs with
 |[x0,x1,x2,x3]=>
 A.a x0 b λd=>A.r (Ya 1) x1 b λe=>A.a e b λf=>A.a x2 b λg=>A.r (Ya 1) x3 b λh=>A.a h b λi=>A.rd (Qe gB [(0,1),(1,1),(3,1),(4,1)] [.int .i8 12,f,g,i] b) λj=>
 A.wr (Xi 7 1 gB [(0,7)] [j] b) b λl b=>A.wr (Qj 7 72 [d,l] b) b λm b=>A.ws (Xb 1) x0 m b λ_ b=>c (jv 0) b
 |_=>A.stop
theorem rP:GQ 105 4 g105:=vt [] λ_ _ _ _ _ _ _ _=>by kernel_rfl
def g106:aq:=λA xs d j=>match xs with
 |[x0,x1]=>
 A.w1 Zm x0 d λl d=>A.loop (λo h d=>A.r Yf x1 d λp=>A.b .lss (h0 h) p d λq=>A.test q (A.s (Yb 2) x1 (h0 h) d λt=>A.r (Zd true 2) t d λu=>
 A.wr (Xe [jv 0,jv 0] [] d) d λf d=>A.ws (Xb 2) f u d λ_ d=>A.r (Zd true 23) l d λv=>A.r (Ya 1) f d λw=>A.a w d λy=>
 A.k 23 [v,y] d λm d=>A.r (Xc 0) m d λz=>A.r (Xc 1) m d λd1=>A.r (Xc 2) m d λa0=>A.r (Ya 5) l d λa1=>A.a a1 d λa2=>
 A.r (Ya 0) f d λa3=>A.a a3 d λa4=>A.k 98 [a2,a4] d λa5 d=>A.r (Xp .not) a5 d λn=>A.fr n Qi a0 d λa6=>A.fr n (Xp .not) a6 d λa7=>
 A.c n (.bool true) a7 d λg=>A.fr g Qi z d λa8=>A.fr g (Ya 1) l d λa9=>A.fa g a9 d λb0=>A.fb g .eql a8 b0 d λb1=>A.c g (.bool true) b1 d λb2=>
 A.test b2 (j (.bool false) d) (A.loop (λb3 i d=>A.b .lss (h0 i) (h0 h) d λb4=>A.test b4 (A.s (Yb 2) x1 (h0 i) d λb5=>A.r (Ya 0) b5 d λb6=>
 A.a b6 d λb7=>A.r (Ya 0) f d λb8=>A.a b8 d λb9=>A.b .eql b7 b9 d λe=>A.fr e Qi x1 d λc0=>A.fr e Qi (h0 i) d λc1=>A.fs e (Yb 2) c0 c1 d λc2=>
 A.fr e (Ya 1) c2 d λc3=>A.fa e c3 d λc4=>A.fr e (Ya 1) f d λc5=>A.fa e c5 d λc6=>A.fb e .eql c4 c6 d λc7=>A.c e (.bool true) c7 d λc8=>
 A.test c8 (j (.bool false) d) (A.b .add (h0 i) (jv 1) d λc9=>b3 [c9] d)) (A.b .add (h0 h) (jv 1) d λd0=>o [d0] d)) [jv 0] d)) (j (.bool true) d)) [jv 0] d
 |_=>A.stop
theorem rQ:GQ 106 2 g106:=dR [none,some [5],none,none,none,none,some [10],none,none,none] λ_ _ _ _ _ _=>by kernel_rfl
def g107:aq:=λA xs c e=>match xs with
 |[x0,x1]=>
 A.loop (λf d c=>A.r Yf x0 c λg=>A.b .lss (h0 d) g c λh=>A.test h (A.s (Yb 2) x0 (h0 d) c λi=>A.r (Ya 0) i c λj=>A.a j c λl=>
 A.b .eql l x1 c λm=>A.test m (A.s (Yb 2) x0 (h0 d) c λn=>A.r (Ya 1) n c λo=>A.a o c λp=>e p c) (A.b .add (h0 d) (jv 1) c λq=>
 f [q] c)) (e (jv 0) c)) [jv 0] c
 |_=>A.stop
theorem rR:GQ 107 2 g107:=dR [none,some [5],none,none,none] λ_ _ _ _ _ _=>by kernel_rfl
def g108:aq:=λA xs a c=>match xs with
 |[x0,x1,x2]=>
 A.w1 Zm x0 a λd a=>A.w1 Zm x1 a λe a=>A.r (Zd true 2) d a λf=>A.r (Zd true 23) e a λg=>A.k 140 [f,g,x2] a λb a=>A.r (Xc 0) b a λh=>
 A.r (Xc 1) b a λj=>A.r (Xc 2) b a λl=>A.s tI h (jv 0) a λi=>c i a
 |_=>A.stop
theorem n_:GQ 108 3 g108:=jN [] λ_ _ _ _ _ _ _=>by kernel_rfl
def g109:aq:=λA xs a e=>match xs with
 |[x0,x1,x2,x3,x4]=>
 A.w1 Zm x0 a λf a=>A.w1 Zm x1 a λg a=>A.wr (Xe dQ [] a) a λc a=>A.wr (Xe gB [] a) a λd a=>A.r (Zd true 2) f a λh=>A.r (Zd true 23) g a λi=>
 A.k 141 [h,i,x2,x3,x4,.bool false] a λb a=>A.r (Xc 0) b a λj=>A.r (Xc 1) b a λl=>A.r (Xc 2) b a λm=>A.ws (Xb 23) c j a λ_ a=>
 A.ws (Xb 7) d l a λ_ a=>A.opt (av true 23 c a) λr10=>A.opt (av true 7 d a) λr11=>e (.aG [r10,r11,m]) a
 |_=>A.stop
theorem rS:GQ 109 5 g109:=Ku [] λ_ _ _ _ _ _ _ _ _=>by kernel_rfl
def g110:aq:=λA xs a c=>match xs with
 |[x0]=>
 A.w1 Zm x0 a λb a=>A.pu (Ya 8 [b] a) λd=>A.dr (Xf [d] a) a λe f a=>A.aE (.call 142) [e] a λg h a=>A.pu (Ya 9 [b] a) λi=>
 A.dr (Xf [i] a) a λj l a=>A.aE (.call 142) [j] a λm n a=>A.pu (Yj .add false [g,m] a) λo=>A.pu (Ya 10 [b] a) λp=>A.dr (Xf [p] a) a λq r a=>
 A.aE (.call 142) [q] a λs t a=>A.pu (Yj .add false [o,s] a) λu=>A.pu (YJ [u,jv 1073741824] a) λv=>A.gd (Zh [[],[0],[0,1],[],[3],[0,1,2,3,4],[0,1,2,3,4,5],[],[7],[0,1,2,3,4,5,7,8],[0,1,2,3,4,5,6,7,8,9],[0,1,2,3,4,5,6,7,8,9,10],[0,1,2,3,4,5,6,7,8,9,10,11]] [([],[]),f,h,([],[]),l,n,([],[]),([],[]),r,t,([],[]),([],[]),([],[])]) <|
 c v a
 |_=>A.stop
theorem od:GQ 110 1 g110:=cU [] λ_ _ _ _ _=>by kernel_rfl
def g111:aq:=λA xs d h=>match xs with
 |[x0,x1,x2]=>
 A.r Qa x1 d λt0=>A.r (Ya 0) t0 d λt1=>A.a t1 d λt2=>A.b .lss t2 (jv 1) d λo=>au (λe=>A.test o (e [o] d) (A.r Qa x1 d λt6=>
 A.r (Ya 0) t6 d λt7=>A.a t7 d λt8=>A.b .gtr t8 (jv 4096) d λp=>A.test p (e [p] d) (A.r Qa x1 d λa7=>A.r (Ya 1) a7 d λa8=>
 A.a a8 d λa9=>A.b .lss a9 (jv 0) d λq=>A.test q (e [q] d) (A.r Qa x1 d λb0=>A.r (Ya 1) b0 d λb1=>A.a b1 d λb2=>A.b .gtr b2 (jv 1) d λt=>
 A.test t (e [t] d) (A.r Qa x1 d λb3=>A.r (Ya 2) b3 d λb4=>A.a b4 d λb5=>A.b .lss b5 (.int .i8 0) d λu=>A.test u (e [u] d) (A.r Qa x1 d λb6=>
 A.r (Ya 2) b6 d λb7=>A.a b7 d λb8=>A.b .gtr b8 (.int .i8 2) d λv=>A.test v (e [v] d) (A.r Qa x1 d λb9=>A.r (Ya 4) b9 d λc0=>
 A.a c0 d λc1=>A.b .lss c1 (.int .i8 0) d λw=>A.test w (e [w] d) (A.r Qa x1 d λc2=>A.r (Ya 4) c2 d λc3=>A.a c3 d λc4=>A.b .gtr c4 (.int .i8 3) d λy=>
 A.test y (e [y] d) (A.r Qa x1 d λc5=>A.r (Ya 4) c5 d λc6=>A.a c6 d λc7=>A.b .eql c7 (.int .i8 0) d λc8=>A.r Qa x1 d λc9=>
 A.r (Ya 2) c9 d λd0=>A.a d0 d λd1=>A.b .neq d1 (.int .i8 2) d λd2=>A.s (Yj .neq true) c8 d2 d λz=>A.test z (e [z] d) (A.r Qa x1 d λd3=>
 A.r (Ya 6) d3 d λd4=>A.a d4 d λd5=>A.b .lss d5 (jv 1) d λa0=>A.test a0 (e [a0] d) (A.r Qa x1 d λd6=>A.r (Ya 6) d6 d λd7=>
 A.a d7 d λd8=>A.b .gtr d8 (jv 1000000) d λa1=>A.test a1 (e [a1] d) (A.r Qa x1 d λd9=>A.r (Ya 5) d9 d λe0=>A.a e0 d λe1=>A.r Yf e1 d λe2=>
 A.b .gtr e2 (jv 7) d λa2=>A.test a2 (e [a2] d) (A.r Qa x0 d λe3=>A.r (Zd true 2) e3 d λe4=>A.k 143 [e4] d λe5 d=>A.r (DG false 0 1) e5 d λe6=>
 A.b .neq e6 (jv 0) d λe7=>e [e7] d))))))))))))) (λv5 d=>A.test (h0 v5) (h (.bool false) d) (A.wr (ZG [] d) d λa3 d=>A.loop (λe8 l d=>A.b .lss (h0 l) (jv 2) d λe9=>
 A.test e9 (A.k 144 [x0,x1,(h0 l),a3] d λf0 d=>A.r (Xp .not) f0 d λf1=>A.test f1 (h (.bool false) d) (A.b .add (h0 l) (jv 1) d λf2=>e8 [f2] d)) (
 A.r Qa x1 d λf3=>A.r (Ya 2) f3 d λf4=>A.a f4 d λf5=>A.b .neq f5 (.int .i8 1) d λf6=>A.test f6 (A.r Qa x1 d λf7=>A.r (Ya 5) f7 d λf8=>
 A.a f8 d λf9=>A.r Yf f9 d λg0=>A.b .eql g0 (jv 0) d λg1=>h g1 d) (A.wr (ZG [] d) d λa4 d=>A.r Qa x1 d λg2=>A.r (Ya 5) g2 d λg3=>
 A.a g3 d λa5=>A.r Yf a5 d λg4=>A.loop (λg5 m d=>A.b .lss (h0 m) g4 d λg6=>A.test g6 (A.s (Yb 1) a5 (h0 m) d λg7=>A.a g7 d λn=>
 A.s (Qr false true (jv 0)) a3 n d λa6=>A.r (Xc 0) a6 d λg8=>A.r (Xc 1) a6 d λg9=>A.r (Xp .not) g9 d λf=>A.fr f Qi g8 d λi0=>
 A.fr f Qi x1 d λi1=>A.fr f Qa i1 d λi2=>A.fr f (Ya 1) i2 d λi3=>A.fa f i3 d λi4=>A.fb f .neq i0 i4 d λi5=>A.c f (.bool true) i5 d λi=>
 A.fr i Qi a4 d λi6=>A.fr i Qi n d λi7=>A.fs i (Qr false false (.bool false)) i6 i7 d λi9=>A.c i (.bool true) i9 d λj0=>A.test j0 (h (.bool false) d) (
 A.wr (Xz false [a4,n,.bool true] d) d λ_ d=>A.b .add (h0 m) (jv 1) d λj1=>g5 [j1] d)) (A.r Qa x1 d λj2=>A.r (Ya 3) j2 d λj3=>
 A.a j3 d λj=>A.tr j Qi x2 d λj4=>A.tr j Qi j4 d λg=>A.fr g Qi x1 d λj5=>A.fr g Qa j5 d λj6=>A.fr g (Ya 5) j6 d λj7=>
 A.fa g j7 d λj8=>A.fr g Yf j8 d λj9=>A.fb g .gtr j9 (jv 0) d λl0=>A.tc j g (.bool true) l0 d λl1=>A.c j l1 (.bool false) d λl2=>h l2 d)) [jv 0] d))) [jv 0] d))
 |_=>A.stop
theorem ke:GQ 111 3 g111:=jN [none,some [14],none,none,none,none,none,none,none,none,none,none,none,none,none,some [89],none,none,none,none,none,some [116],none,none,none] λ_ _ _ _ _ _ _=>by kernel_rfl
def g112:aq:=λA xs a b=>match xs with
 |[x0]=>
 A.s (YV .slice false false) x0 .af a λc=>A.test c (b .af a) (A.rd (HE 4 [] a) λd=>A.wr (Qj 4 32 [d,x0] a) a λe a=>b e a)
 |_=>A.stop
theorem iZ:GQ 112 1 g112:=cU [none] λ_ _ _ _ _=>by kernel_rfl
def g113:aq:=λA xs c f=>match xs with
 |[x0]=>
 A.wr (Xe [jv 0,jv 0] [] c) c λd c=>A.r Yf x0 c λh=>A.b .gtr h (jv 240) c λi=>A.test i (A.rd (Qe [jv 0,jv 0] [(0,1)] [jv 3] c) λj=>
 A.ws (Xb 2) d j c λ_ c=>A.opt (av true 2 d c) λr4=>f r4 c) (A.loop (λl e c=>A.r Yf x0 c λm=>A.b .lss (h0 e) m c λn=>A.test n (A.loop (λo g c=>
 A.b .lss (h0 g) (h0 e) c λp=>A.test p (A.s (Yb 12) x0 (h0 g) c λq=>A.r (Ya 0) q c λt=>A.a t c λu=>A.s (Yb 12) x0 (h0 e) c λv=>
 A.r (Ya 0) v c λw=>A.a w c λy=>A.b .eql u y c λz=>A.test z (A.s (Yb 12) x0 (h0 e) c λa0=>A.r (Ya 11) a0 c λa1=>A.a a1 c λa2=>
 A.rd (Qe [jv 0,jv 0] [(0,1),(1,1)] [jv 101,a2] c) λa3=>A.ws (Xb 2) d a3 c λ_ c=>A.opt (av true 2 d c) λr23=>f r23 c) (A.b .add (h0 g) (jv 1) c λa4=>
 o [a4] c)) (A.s (Yb 12) x0 (h0 e) c λa5=>A.r (Zd true 12) a5 c λa6=>A.k 145 [x0,a6] c λa7 c=>A.r (Xp .not) a7 c λa8=>A.test a8 (A.s (Yb 12) x0 (h0 e) c λa9=>
 A.r (Ya 11) a9 c λb0=>A.a b0 c λb1=>A.rd (Qe [jv 0,jv 0] [(0,1),(1,1)] [jv 130,b1] c) λb2=>A.ws (Xb 2) d b2 c λ_ c=>
 A.opt (av true 2 d c) λr33=>f r33 c) (A.b .add (h0 e) (jv 1) c λb3=>l [b3] c))) [jv 0] c) (A.rd (Qe [jv 0,jv 0] [] [] c) λb4=>A.ws (Xb 2) d b4 c λ_ c=>
 A.opt (av true 2 d c) λr36=>f r36 c)) [jv 0] c)
 |_=>A.stop
theorem oe:GQ 113 1 g113:=cU [none,none,some [3],none,none,none,some [4],none,none,none,none] λ_ _ _ _ _=>by kernel_rfl
def g114:aq:=λA xs d j=>match xs with
 |[x0]=>
 A.wr (Xe [jv 0,jv 0] [] d) d λh d=>A.loop (λl i d=>A.r Yf x0 d λm=>A.b .lss (h0 i) m d λn=>A.test n (A.s (Yb 12) x0 (h0 i) d λo=>
 A.r (Zd true 12) o d λp=>A.wr (Xe [.str [],.bool false,jv 0,jv 0,jv 0,jv 0,jv 0,jv 0,.af,.af,.af,jv 0] [] d) d λe d=>
 A.ws (Xb 12) e p d λ_ d=>A.r (Ya 8) e d λq=>A.a q d λt=>A.k 146 [.int .i8 0,t] d λu d=>A.r (Xp .not) u d λf=>A.fr f (Ya 9) e d λv=>
 A.fa f v d λw=>A.gw f false (λk=>A.k 146 [.int .i8 0,w] d k) d λy d=>A.fr f (Xp .not) y d λz=>A.c f (.bool true) z d λg=>A.fr g (Ya 10) e d λa0=>
 A.fa g a0 d λa1=>A.gw g false (λk=>A.k 146 [.int .i8 0,a1] d k) d λa2 d=>A.fr g (Xp .not) a2 d λa3=>A.c g (.bool true) a3 d λa4=>A.test a4 (
 A.r (Ya 11) e d λa5=>A.a a5 d λa6=>A.rd (Qe [jv 0,jv 0] [(0,1),(1,1)] [jv 140,a6] d) λa7=>A.ws (Xb 2) h a7 d λ_ d=>
 A.opt (av true 2 h d) λr25=>j r25 d) (A.b .add (h0 i) (jv 1) d λa8=>l [a8] d)) (A.rd (Qe [jv 0,jv 0] [] [] d) λa9=>A.ws (Xb 2) h a9 d λ_ d=>
 A.opt (av true 2 h d) λr28=>j r28 d)) [jv 0] d
 |_=>A.stop
theorem og:GQ 114 1 g114:=cU [none,some [3],none,none,none] λ_ _ _ _ _=>by kernel_rfl
def g115:aq:=λA xs d o=>match xs with
 |[x0,x1]=>
 A.w1 Zm x0 d λj d=>A.r (Ya 1) j d λq=>A.a q d λt=>A.s (Yb 7) t x1 d λu=>A.r (Zd true 7) u d λv=>A.wr (Xe [.str [],jv 0,jv 0,jv 0,.af,.af,jv 0] [] d) d λe d=>
 A.ws (Xb 7) e v d λ_ d=>A.loop (λw p d=>A.b .lss (h0 p) x1 d λy=>A.test y (A.r (Ya 1) j d λz=>A.a z d λa0=>A.s (Yb 7) a0 (h0 p) d λa1=>
 A.r (Ya 0) a1 d λa2=>A.a a2 d λa3=>A.r (Ya 0) e d λa4=>A.a a4 d λa5=>A.b .eql a3 a5 d λa6=>A.test a6 (o (.bool false) d) (
 A.b .add (h0 p) (jv 1) d λa7=>w [a7] d)) (A.b .geq x1 (jv 240) d λg=>A.fr g (Ya 0) e d λa8=>A.fa g a8 d λa9=>A.gw g false (λk=>A.k 147 [a9] d k) d λb0 d=>
 A.fr g (Xp .not) b0 d λb1=>A.c g (.bool true) b1 d λb2=>A.test b2 (o (.bool false) d) (A.r (Ya 1) e d λb3=>A.a b3 d λb4=>A.b .geq b4 (jv 0) d λf=>
 A.tr f (Ya 1) e d λb5=>A.ta f b5 d λb6=>A.tr f (Ya 2) e d λb7=>A.ta f b7 d λb8=>A.tb f .leq b6 b8 d λb9=>A.c f b9 (.bool false) d λl=>
 A.tr l (Ya 2) e d λc0=>A.ta l c0 d λc1=>A.tb l .leq c1 (jv 60) d λc2=>A.c l c2 (.bool false) d λm=>A.tr m (Ya 3) e d λc3=>
 A.ta m c3 d λc4=>A.tb m .geq c4 (jv 0) d λc5=>A.c m c5 (.bool false) d λn=>A.tr n (Ya 3) e d λc6=>A.ta n c6 d λc7=>A.tb n .leq c7 (jv 999) d λc8=>
 A.c n c8 (.bool false) d λh=>A.tr h (Zd true 2) j d λc9=>A.tr h (Ya 4) e d λd0=>A.ta h d0 d λd1=>A.gw h true (λk=>A.k 148 [c9,d1] d k) d λd2 d=>
 A.c h d2 (.bool false) d λi=>A.tr i (Zd true 2) j d λd3=>A.tr i (Ya 5) e d λd4=>A.ta i d4 d λd5=>A.gw i true (λk=>A.k 148 [d3,d5] d k) d λd6 d=>
 A.c i d6 (.bool false) d λd7=>o d7 d))) [jv 0] d
 |_=>A.stop
theorem oh:GQ 115 2 g115:=dR [none,some [6],none,none,none,none] λ_ _ _ _ _ _=>by kernel_rfl
def g116:aq:=λA xs a e=>match xs with
 |[x0]=>
 A.b .geq x0 (jv (-1000000)) a λd=>A.tr d Qi x0 a λf=>A.tb d .leq f (jv 1000000) a λg=>A.c d g (.bool false) a λh=>e h a
 |_=>A.stop
theorem i_:GQ 116 1 g116:=cU [] λ_ _ _ _ _=>by kernel_rfl
def g117:aq:=λA xs d g=>match xs with
 |[x0,x1,x2]=>
 A.w1 Zm x0 d λh d=>A.r Yf x1 d λi=>A.b .gtr i x2 d λj=>A.test j (g (.bool false) d) (A.loop (λl f d=>A.r Yf x1 d λm=>A.b .lss (h0 f) m d λn=>
 A.test n (A.s (Yb 1) x1 (h0 f) d λo=>A.a o d λp=>A.b .lss p (jv 0) d λe=>A.fr e Qi x1 d λq=>A.fr e Qi (h0 f) d λt=>A.fs e (Yb 1) q t d λu=>
 A.fa e u d λv=>A.fr e (Ya 0) h d λw=>A.fa e w d λy=>A.fr e Yf y d λz=>A.fb e .geq v z d λa0=>A.c e (.bool true) a0 d λa1=>A.test a1 (
 g (.bool false) d) (A.b .add (h0 f) (jv 1) d λa2=>l [a2] d)) (g (.bool true) d)) [jv 0] d)
 |_=>A.stop
theorem fz:GQ 117 3 g117:=jN [none,none,some [7],none,none,none] λ_ _ _ _ _ _ _=>by kernel_rfl
def g118:aq:=λA xs a d=>match xs with
 |[x0,x1]=>
 A.r Yf x0 a λe=>A.loop (λf c a=>A.b .lss (h0 c) e a λg=>A.test g (A.s (Yb 4) x0 (h0 c) a λh=>A.r (Zd true 4) h a λi=>A.call .cH [x1,i] a λj a=>
 A.test j (d (h0 c) a) (A.b .add (h0 c) (jv 1) a λl=>f [l] a)) (d (jv (-1)) a)) [jv 0] a
 |_=>A.stop
theorem kf:GQ 118 2 g118:=dR [none,some [8],none,none,none] λ_ _ _ _ _ _=>by kernel_rfl
def g119:aq:=λA xs c d=>match xs with
 |[x0,x1]=>
 A.w1 Zm x0 c λe c=>A.r (Ya 0) e c λf=>A.a f c λg=>A.a x1 c λh=>A.b .eql g h c λi=>d i c
 |_=>A.stop
theorem kg:GQ 119 2 g119:=dR [] λ_ _ _ _ _ _=>by kernel_rfl
def g120:aq:=λA xs c e=>match xs with
 |[x0,x1]=>
 A.r Yf x0 c λf=>A.loop (λg d c=>A.b .lss (h0 d) f c λh=>A.test h (A.s (Yb 1) x0 (h0 d) c λi=>A.a i c λj=>A.call .cH [x1,j] c λl c=>
 A.test l (e (h0 d) c) (A.b .add (h0 d) (jv 1) c λm=>g [m] c)) (e (jv (-1)) c)) [jv 0] c
 |_=>A.stop
theorem lD:GQ 120 2 g120:=dR [none,some [8],none,none,none] λ_ _ _ _ _ _=>by kernel_rfl
def g121:aq:=λA xs a e=>match xs with
 |[x0]=>
 A.b .eql x0 (.int .i8 0) a λd=>A.fr d Qi x0 a λf=>A.fb d .eql f (.int .i8 1) a λg=>A.c d (.bool true) g a λh=>e h a
 |_=>A.stop
theorem fA:GQ 121 1 g121:=cU [] λ_ _ _ _ _=>by kernel_rfl
def g122:aq:=λA xs d p=>match xs with
 |[x0]=>
 A.wr (Xe [.af,.af] [] d) d λi d=>A.wr (Xe [jv 0,jv 0] [] d) d λj d=>A.k 149 [x0] d λu d=>A.r (Xc 0) u d λt3=>A.r (Xc 1) u d λt4=>
 A.wr (Xe [jv 0,jv 0] [] d) d λq d=>A.ws (Xb 2) q t4 d λ_ d=>A.r (Ya 0) q d λt6=>A.a t6 d λt7=>A.b .neq t7 (jv 0) d λt8=>
 A.test t8 (A.pu (Qe [.af,.af] [] [] d) λt9=>A.dr (Zd true 2 [q] d) d λa0 a1 d=>A.dr (Xb 2 [i,t9] d) d λ_ a2 d=>A.dr (Xb 2 [j,a0] d) d λ_ a3 d=>
 A.gd (Zh [[],[],[0],[0,1,2]] [([],[]),a1,a2,a3]) <| A.opt (av true 2 i d) λr14=>A.opt (av true 2 j d) λr15=>p (.aG [r14,r15]) d) (
 A.rd (Qe [.af,jv 0,jv 0,jv 0,jv 0] [(0,1)] [t3] d) λa4=>A.w1 Zm a4 d λe d=>A.wr (Xe [.af,.af] [] d) d λh d=>au (λt=>
 A.loop (λv j6 d=>A.aE (.call 150) [e] d λf a5 d=>A.gr f true (λk=>A.pu (Qi [e] d) k) λa6=>A.gr f true (λk=>A.pu (Qa [a6] d) k) λa7=>
 A.gr f true (λk=>A.pu (Ya 0 [a7] d) k) λa8=>A.gl f true (λk=>A.dr (Xf [a8] d) d k) d λa9 b0 d=>A.gr f true (λk=>A.pu (Qi [e] d) k) λb1=>
 A.gr f true (λk=>A.pu (Qa [b1] d) k) λb2=>A.gr f true (λk=>A.pu (Ya 1 [b2] d) k) λb3=>A.gl f true (λk=>A.dr (Xf [b3] d) d k) d λb4 b5 d=>
 A.gl f true (λk=>A.dr (Yb 4 [a9,b4] d) d k) d λb6 b7 d=>A.gr f true (λk=>A.pu (Ya 0 [b6] d) k) λb8=>A.gl f true (λk=>A.dr (Xf [b8] d) d k) d λb9 c0 d=>
 A.gr f true (λk=>A.pu (Yj .neq false [b9,.int .i8 0] d) k) λc1=>A.pu (Xo [f,c1,.bool false] d) λc2=>A.gd (Zh [[],[0],[0,1],[0,1,2],[0,1,2,3],[0,1,2,3,4],[0,1,2,3,4,5],[0,1,2],[0,1,2,7],[0,1,2,7,8],[0,1,2,7,8,9],[0,1,2,3,4,5,6,7,8,9,10],[0,1,2,3,4,5,6,7,8,9,10,11],[0,1,2,3,4,5,6,7,8,9,10,11,12],[0,1,2,3,4,5,6,7,8,9,10,11,12,13],[0,1,2,3,4,5,6,7,8,9,10,11,12,13,14]] [([],[]),a5,([],[]),([],[]),([],[]),([],[]),b0,([],[]),([],[]),([],[]),b5,b7,([],[]),c0,([],[]),([],[])]) <|
 A.test c2 (A.r Qa e d λc3=>A.r (Ya 0) c3 d λc4=>A.a c4 d λc5=>A.r Qa e d λc6=>A.r (Ya 1) c6 d λc7=>A.a c7 d λc8=>
 A.s (Yb 4) c5 c8 d λc9=>A.r (Ya 3) c9 d λd0=>A.a d0 d λw=>A.k 151 [e,(.str [99,97,114,100])] d λg d=>A.tr g (Ya 1) h d λd1=>
 A.ta g d1 d λd2=>A.tr g Yf d2 d λd3=>A.tb g .gtr d3 (jv 0) d λd4=>A.c g d4 (.bool false) d λl=>A.fr l Qi g d λd5=>A.fr l (Xp .not) d5 d λd6=>
 A.fr l Qi d6 d λo=>A.tr o Qi e d λd7=>A.gw o true (λk=>A.k 151 [d7,(.str [102,111,114,109,97,116])] d k) d λd8 d=>A.tr o (Xp .not) d8 d λd9=>
 A.fc l o d9 (.bool false) d λe0=>A.c l (.bool true) e0 d λe1=>A.test e1 (A.k 152 [e,jv 120] d λj7 d=>t [] d) (A.tr g (Ya 0) h d λe2=>
 A.ta g e2 d λe3=>A.tr g Yf e3 d λe4=>A.tb g .geq e4 (jv 240) d λe5=>A.c g e5 (.bool false) d λm=>A.fr m Qi g d λe6=>A.fr m (Xp .not) e6 d λe7=>
 A.fr m Qi e7 d λn=>A.tr n (Ya 1) h d λe8=>A.ta n e8 d λe9=>A.tr n Yf e9 d λf0=>A.tb n .geq f0 (jv 240) d λf1=>A.fc m n f1 (.bool false) d λf2=>
 A.c m (.bool true) f2 d λf3=>A.test f3 (A.k 152 [e,jv 3] d λj8 d=>t [] d) (A.r Qa e d λf4=>A.r (Ya 1) f4 d λf5=>A.a f5 d λf6=>
 A.b .add f6 (jv 1) d λf7=>A.r Qa e d λf8=>A.r (Ya 1) f8 d λf9=>A.ws (Xb 1) f9 f7 d λ_ d=>A.test g (A.k 153 [e,w] d λg0 d=>
 A.wr (Xe [.str [],.bool false,jv 0,jv 0,jv 0,jv 0,jv 0,jv 0,.af,.af,.af,jv 0] [] d) d λy d=>A.ws (Xb 12) y g0 d λ_ d=>
 A.r (Ya 0) h d λg1=>A.a g1 d λg2=>A.r (Zd true 12) y d λg3=>A.wr (Xi 12 1 [.str [],.bool false,jv 0,jv 0,jv 0,jv 0,jv 0,jv 0,.af,.af,.af,jv 0] [(0,12)] [g3] d) d λg4 d=>
 A.wr (Qj 12 152 [g2,g4] d) d λg5 d=>A.r (Ya 0) h d λg6=>A.ws (Xb 1) g6 g5 d λ_ d=>v [] d) (A.k 154 [e,w] d λg7 d=>A.wr (Xe [.str [],jv 0,jv 0,jv 0,.af,.af,jv 0] [] d) d λz d=>
 A.ws (Xb 7) z g7 d λ_ d=>A.r (Ya 1) h d λg8=>A.a g8 d λg9=>A.r (Zd true 7) z d λi0=>A.wr (Xi 7 1 [.str [],jv 0,jv 0,jv 0,.af,.af,jv 0] [(0,7)] [i0] d) d λi1 d=>
 A.wr (Qj 7 96 [g9,i1] d) d λi2 d=>A.r (Ya 1) h d λi3=>A.ws (Xb 1) i3 i2 d λ_ d=>v [] d)))) (t [] d)) [] d) (λj9 d=>A.k 150 [e] d λi4 d=>
 A.r (Xp .not) i4 d λi5=>A.test i5 (A.pu (Qe [.af,.af] [] [] d) λi6=>A.pu (Qa [e] d) λi7=>A.pu (Ya 3 [i7] d) λi9=>A.dr (Zd true 2 [i9] d) d λj0 j1 d=>
 A.dr (Xb 2 [i,i6] d) d λ_ j2 d=>A.dr (Xb 2 [j,j0] d) d λ_ j3 d=>A.gd (Zh [[],[],[1],[1,2],[1,2,3],[0],[0,1,2,3,4,5]] [([],[]),([],[]),([],[]),([],[]),j1,j2,j3]) <|
 A.opt (av true 2 i d) λr112=>A.opt (av true 2 j d) λr113=>p (.aG [r112,r113]) d) (A.r (Zd true 2) h d λj4=>A.rd (Qe [jv 0,jv 0] [] [] d) λj5=>
 A.ws (Xb 2) i j4 d λ_ d=>A.ws (Xb 2) j j5 d λ_ d=>A.opt (av true 2 i d) λr116=>A.opt (av true 2 j d) λr117=>p (.aG [r116,r117]) d)))
 |_=>A.stop
theorem vR:GQ 122 1 g122:=cU [none,some [],some [],none,none,none,none,none,none] λ_ _ _ _ _=>by kernel_rfl
def g124:aq:=λA xs b d=>match xs with
 |[x0]=>
 A.w1 Zm x0 b λe b=>A.wr (Xe [jv 0] [] b) b λc b=>A.ws (Xb 1) c (jv 0) b λ_ b=>A.r (Qp (.func 156) 0) c b λf=>A.k 155 [e,f] b λh b=>
 A.a c b λg=>d g b
 |_=>A.stop
theorem lE:GQ 124 1 g124:=cU [] λ_ _ _ _ _=>by kernel_rfl
def g128:aq:=λA xs a i=>match xs with
 |[x0,x1,x2,x3]=>
 A.loop (λj d a=>A.b .sub (h0 d) (h1 d) a λm=>A.b .leq m (jv 12) a λt3=>A.test t3 (A.k 163 [x0,(h1 d),(h0 d)] a λt4 a=>i (.aG []) a) (A.b .eql (h2 d) (jv 0) a λt5=>
 A.test t5 (A.k 164 [x0,(h1 d),(h0 d)] a λt6 a=>i (.aG []) a) (A.r (Xp .not) (h3 d) a λt7=>au (λn=>A.test t7 (A.k 165 [x0,(h1 d),(h0 d)] a λd3 a=>
 A.b .sub (h2 d) (jv 1) a λa0=>n [a0] a) (n [(h2 d)] a)) (λg a=>A.k 166 [x0,(h1 d),(h0 d)] a λo a=>A.r (Xc 0) o a λp=>A.r (Xc 1) o a λq=>
 A.b .eql q (jv 2) a λa1=>au (λs=>A.test a1 (A.k 167 [x0,(h1 d),(h0 d)] a λd4 a=>A.b .sub (h0 d) (jv 1) a λa2=>A.b .sub p (h1 d) a λa3=>
 A.b .sub a2 a3 a λa4=>s [jv 1,a4] a) (s [q,p] a)) (λh a=>A.gr (h3 d) true (λk=>A.rd (Qi [(h4 d)] a) k) λa5=>A.c (h3 d) a5 (.bool false) a λl=>
 A.tr l Qi (h0 h) a λa6=>A.tb l .eql a6 (jv 1) a λa7=>A.c l a7 (.bool false) a λa8=>au (λt=>A.test a8 (A.k 168 [x0,(h1 d),(h0 d)] a λa9 a=>
 A.test a9 (i (.aG []) a) (t [] a)) (t [] a)) (λd5 a=>A.pu (Yj .gtr false [(h1 d),jv 0] a) λe=>A.gr e true (λk=>A.pu (Qi [x0] a) k) λb0=>
 A.gr e true (λk=>A.pu (Qi [(h1 d)] a) k) λb1=>A.gr e true (λk=>A.pu (Yj .sub false [b1,jv 1] a) k) λb2=>A.gl e true (λk=>A.dr (Yb 1 [b0,b2] a) a k) a λb3 b4 a=>
 A.gl e true (λk=>A.dr (Xf [b3] a) a k) a λb5 b6 a=>A.gr e true (λk=>A.pu (Qi [x0] a) k) λb7=>A.gr e true (λk=>A.pu (Qi [(h1 h)] a) k) λb8=>
 A.gl e true (λk=>A.dr (Yb 1 [b7,b8] a) a k) a λb9 c0 a=>A.gl e true (λk=>A.dr (Xf [b9] a) a k) a λc1 c2 a=>A.gl e true (λk=>A.aE (.call 169) [b5,c1] a k) a λc3 c4 a=>
 A.gr e true (λk=>A.pu (Xp .not [c3] a) k) λc5=>A.pu (Xo [e,c5,.bool false] a) λc6=>A.gd (Zh [[],[0],[0,1],[0,1,2],[0,1,2],[0,1,2,4],[0,1,2,3,4,5],[0,1,2,3,4,5,6],[0,1,2],[0,1,2],[0,1,2,8,9],[0,1,2,8,9,10],[0,1,2,3,4,5,6,7,8,9,10,11],[0,1,2,3,4,5,6,7,8,9,10,11,12],[0,1,2,3,4,5,6,7,8,9,10,11,12,13]] [([],[]),([],[]),([],[]),([],[]),([],[]),([],[]),b4,b6,([],[]),([],[]),c0,c2,c4,([],[]),([],[])]) <|
 A.test c6 (A.k 170 [x0,(h1 d),(h0 d),(h1 h)] a λc7 a=>j [(h0 d),c7,(h0 g),(h3 d),(h4 d)] a) (A.k 171 [x0,(h1 d),(h0 d),(h1 h)] a λu a=>A.r (Xc 0) u a λf=>
 A.r (Xc 1) u a λv=>A.b .sub f (h1 d) a λw=>A.b .sub (h0 d) f a λy=>A.b .quo m (jv 8) a λz=>A.b .lss w y a λc8=>A.test c8 (A.b .geq w z a λc9=>
 A.k 128 [x0,(h1 d),f,(h0 g)] a λd6 a=>A.b .add f (jv 1) a λd0=>j [(h0 d),d0,(h0 g),c9,v] a) (A.b .geq y z a λd1=>A.b .add f (jv 1) a λd2=>
 A.k 128 [x0,d2,(h0 d),(h0 g)] a λd7 a=>j [f,(h1 d),(h0 g),d1,v] a)))))))) [x2,x1,x3,.bool true,.bool true] a
 |_=>A.stop
theorem vS:GQ 128 4 g128:=vt [none,some [2,1,3,8,9],none,none,none,some [3],some [12,11],some [],none,none,none] λ_ _ _ _ _ _ _ _=>by kernel_rfl
def g129:aq:=λA xs a b=>match xs with
 |[x0]=>
 A.test (.bool false) (A.r (ZJ .u32) x0 a λc=>A.k 172 [c] a λd a=>b d a) (A.k 173 [x0] a λe a=>b e a)
 |_=>A.stop
theorem vT:GQ 129 1 g129:=cU [none] λ_ _ _ _ _=>by kernel_rfl
def g130:aq:=λA xs a h=>match xs with
 |[x0]=>
 A.b .eql x0 (.int .i8 0) a λd=>A.fr d Qi x0 a λi=>A.fb d .eql i (.int .i8 1) a λj=>A.c d (.bool true) j a λe=>A.fr e Qi x0 a λl=>A.fb e .eql l (.int .i8 2) a λm=>
 A.c e (.bool true) m a λf=>A.fr f Qi x0 a λn=>A.fb f .eql n (.int .i8 3) a λo=>A.c f (.bool true) o a λg=>A.fr g Qi x0 a λp=>A.fb g .eql p (.int .i8 5) a λq=>
 A.c g (.bool true) q a λr=>h r a
 |_=>A.stop
theorem ja:GQ 130 1 g130:=cU [] λ_ _ _ _ _=>by kernel_rfl
def g133:aq:=λA xs d l=>match xs with
 |[x0]=>
 A.w1 Zm x0 d λe d=>A.r (Ya 0) e d λm=>A.a m d λn=>A.r Yf n d λo=>A.r (Ya 1) e d λp=>A.a p d λq=>A.r Yf q d λt=>
 A.b .add o t d λu=>A.loop (λv g d=>A.r (Ya 0) e d λw=>A.a w d λy=>A.r Yf y d λz=>A.b .lss (h0 g) z d λi=>A.tr i Qi (h1 g) d λa0=>
 A.tb i .leq a0 (jv 6000) d λa1=>A.c i a1 (.bool false) d λa2=>A.test a2 (A.r (Ya 0) e d λa3=>A.a a3 d λa4=>A.s (Yb 12) a4 (h0 g) d λa5=>
 A.r (Zd true 12) a5 d λa6=>A.wr (Xe [.str [],.bool false,jv 0,jv 0,jv 0,jv 0,jv 0,jv 0,.af,.af,.af,jv 0] [] d) d λh d=>
 A.ws (Xb 12) h a6 d λ_ d=>A.pu (Ya 8 [h] d) λa7=>A.dr (Xf [a7] d) d λa8 a9 d=>A.aE (.call 135) [a8] d λb0 b1 d=>A.pu (Yj .add false [(h1 g),b0] d) λb2=>
 A.pu (Ya 9 [h] d) λb3=>A.dr (Xf [b3] d) d λb4 b5 d=>A.aE (.call 135) [b4] d λb6 b7 d=>A.pu (Yj .add false [b2,b6] d) λb8=>A.pu (Ya 10 [h] d) λb9=>
 A.dr (Xf [b9] d) d λc0 c1 d=>A.aE (.call 135) [c0] d λc2 c3 d=>A.pu (Yj .add false [b8,c2] d) λc4=>A.gd (Zh [[],[],[1],[1,2],[0,1,2,3],[],[5],[1,2,3,5,6],[0,1,2,3,4,5,6,7],[],[9],[1,2,3,5,6,7,9,10],[0,1,2,3,4,5,6,7,8,9,10,11],[0,1,2,3,4,5,6,7,8,9,10,11,12]] [([],[]),([],[]),a9,b1,([],[]),([],[]),b5,b7,([],[]),([],[]),c1,c3,([],[]),([],[])]) <|
 A.b .add (h0 g) (jv 1) d λc5=>v [c5,c4] d) (A.loop (λc6 f d=>A.r (Ya 1) e d λc7=>A.a c7 d λc8=>A.r Yf c8 d λc9=>A.b .lss (h0 f) c9 d λj=>
 A.tr j Qi (h1 f) d λd0=>A.tb j .leq d0 (jv 6000) d λd1=>A.c j d1 (.bool false) d λd2=>A.test d2 (A.r (Ya 1) e d λd3=>A.a d3 d λd4=>
 A.s (Yb 7) d4 (h0 f) d λd5=>A.r (Ya 4) d5 d λd6=>A.a d6 d λd7=>A.r Yf d7 d λd8=>A.b .add (h1 f) d8 d λd9=>A.r (Ya 1) e d λe0=>
 A.a e0 d λe1=>A.s (Yb 7) e1 (h0 f) d λe2=>A.r (Ya 5) e2 d λe3=>A.a e3 d λe4=>A.r Yf e4 d λe5=>A.b .add d9 e5 d λe6=>
 A.b .add (h0 f) (jv 1) d λe7=>c6 [e7,e6] d) (A.b .gtr (h1 f) (jv 6000) d λe8=>l e8 d)) [jv 0,(h1 g)] d)) [jv 0,u] d
 |_=>A.stop
theorem rT:GQ 133 1 g133:=cU [none,some [4,3],none,none,none,some [6,3],none,none] λ_ _ _ _ _=>by kernel_rfl
def g134:aq:=λA xs c g=>match xs with
 |[x0]=>
 A.w1 Zm x0 c λf c=>A.r (Ya 5) f c λh=>A.a h c λi=>A.r Yf i c λj=>A.loop (λl e c=>A.b .lss (h0 e) (jv 2) c λm=>A.test m (
 A.r (Ya 7) f c λn=>A.s (Yg 2 8) n (h0 e) c λo=>A.r (Zd true 8) o c λp=>A.wr (Xe vz [] c) c λd c=>A.ws (Xb 8) d p c λ_ c=>
 A.r (Ya 3) d c λq=>A.a q c λt=>A.r Yf t c λu=>A.b .add (h1 e) u c λv=>A.r (Ya 4) d c λw=>A.a w c λy=>A.r Yf y c λz=>
 A.b .add v z c λa0=>A.r (Ya 5) d c λa1=>A.a a1 c λa2=>A.r Yf a2 c λa3=>A.b .add a0 a3 c λa4=>A.r (Ya 6) d c λa5=>A.a a5 c λa6=>
 A.r Yf a6 c λa7=>A.b .add a4 a7 c λa8=>A.r (Ya 7) d c λa9=>A.a a9 c λb0=>A.r Yf b0 c λb1=>A.b .add a8 b1 c λb2=>A.b .add (h0 e) (jv 1) c λb3=>
 l [b3,b2] c) (A.b .gtr (h1 e) (jv 1000) c λb4=>g b4 c)) [jv 0,j] c
 |_=>A.stop
theorem rU:GQ 134 1 g134:=cU [none,some [4,3],none,none] λ_ _ _ _ _=>by kernel_rfl
def g135:aq:=λA xs a f=>match xs with
 |[x0]=>
 A.r Yf x0 a λg=>A.loop (λh d a=>A.r Yf x0 a λi=>A.b .lss (h0 d) i a λe=>A.tr e Qi (h1 d) a λj=>A.tb e .lss j (jv 100000) a λl=>
 A.c e l (.bool false) a λm=>A.test m (A.dr (Yb 14 [x0,(h0 d)] a) a λn o a=>A.pu (Ya 2 [n] a) λp=>A.dr (Zd true 4 [p] a) a λq t a=>
 A.aE (.call 174) [q] a λu v a=>A.pu (Yj .add false [(h1 d),u] a) λw=>A.dr (Yb 14 [x0,(h0 d)] a) a λy z a=>A.pu (Ya 7 [y] a) λa0=>
 A.dr (Zd true 5 [a0] a) a λa1 a2 a=>A.aE (.call 175) [a1] a λa3 a4 a=>A.pu (Yj .add false [w,a3] a) λa5=>A.dr (Yb 14 [x0,(h0 d)] a) a λa6 a7 a=>
 A.pu (Ya 12 [a6] a) λa8=>A.dr (Xf [a8] a) a λa9 b0 a=>A.aE (.call 135) [a9] a λb1 b2 a=>A.pu (Yj .add false [a5,b1] a) λb3=>
 A.dr (Yb 14 [x0,(h0 d)] a) a λb4 b5 a=>A.pu (Ya 13 [b4] a) λb6=>A.dr (Xf [b6] a) a λb7 b8 a=>A.aE (.call 135) [b7] a λb9 c0 a=>
 A.pu (Yj .add false [b3,b9] a) λc1=>A.gd (Zh [[],[],[],[1,2],[1,2,3],[1,2,3,4],[1,2,3,4,5],[0,1,2,3,4,5,6],[],[],[8,9],[8,9,10],[8,9,10,11],[1,2,3,4,5,6,8,9,10,11,12],[0,1,2,3,4,5,6,7,8,9,10,11,12,13],[],[],[15,16],[15,16,17],[15,16,17,18],[1,2,3,4,5,6,8,9,10,11,12,13,15,16,17,18,19],[0,1,2,3,4,5,6,7,8,9,10,11,12,13,14,15,16,17,18,19,20],[],[],[22,23],[22,23,24],[22,23,24,25],[1,2,3,4,5,6,8,9,10,11,12,13,15,16,17,18,19,20,22,23,24,25,26],[0,1,2,3,4,5,6,7,8,9,10,11,12,13,14,15,16,17,18,19,20,21,22,23,24,25,26,27],[0,1,2,3,4,5,6,7,8,9,10,11,12,13,14,15,16,17,18,19,20,21,22,23,24,25,26,27,28]] [([],[]),([],[]),([],[]),o,([],[]),t,v,([],[]),([],[]),([],[]),z,([],[]),a2,a4,([],[]),([],[]),([],[]),a7,([],[]),b0,b2,([],[]),([],[]),([],[]),b5,([],[]),b8,c0,([],[]),([],[])]) <|
 A.b .add (h0 d) (jv 1) a λc2=>h [c2,c1] a) (A.s YJ (h1 d) (jv 100000) a λc3=>f c3 a)) [jv 0,g] a
 |_=>A.stop
theorem gR:GQ 135 1 g135:=cU [none,some [4,3],none,none] λ_ _ _ _ _=>by kernel_rfl
def g136:aq:=λA xs a f=>match xs with
 |[]=>
 A.wr (Xe dQ [] a) a λe a=>A.rd (Qe dQ [(0,1),(6,1)] [jv 1,jv 3] a) λg=>A.wr (Xe dQ [] a) a λd a=>A.ws (Xb 23) d g a λ_ a=>
 A.loop (λh c a=>A.b .lss (h0 c) (jv 2) a λi=>A.test i (A.wr (Xi 1 3 [jv 0,jv 0,jv 0] [(0,1),(1,1),(2,1)] [jv 0,jv 1,jv 2] a) a λj a=>
 A.wr (Xi 1 2 [jv 0,jv 0] [(0,1),(1,1)] [jv 2,jv 0] a) a λl a=>A.b .add (jv 1) (h0 c) a λm=>A.rd (Qe rG [(0,1),(1,1)] [m,(h0 c)] a) λn=>
 A.wr (Xi 4 1 rG [(0,4)] [n] a) a λo a=>A.rd (Qe vz [(0,1),(1,1),(2,1),(3,1),(4,1),(6,1)] [jv 20,jv 3,jv 3,j,l,o] a) λp=>
 A.r (Ya 7) d a λq=>A.s (Yg 2 8) q (h0 c) a λt=>A.ws (Xb 8) t p a λ_ a=>A.b .add (h0 c) (jv 1) a λu=>h [u] a) (A.r (Zd true 23) d a λv=>
 A.ws (Xb 23) e v a λ_ a=>A.opt (av true 23 e a) λr16=>f r16 a)) [jv 0] a
 |_=>A.stop
theorem vU:GQ 136 0 g136:=vr [none,some [2],none,none] λ_ _ _ _=>by kernel_rfl
def g137:aq:=λA xs c g=>match xs with
 |[x0]=>
 A.r Yf x0 c λi=>A.b .lss i (jv 2) c λj=>A.test j (g x0 c) (A.loop (λl e c=>A.r Yf x0 c λm=>A.b .lss (h0 e) m c λn=>A.test n (A.s (Yb 1) x0 (h0 e) c λo=>
 A.a o c λp=>A.b .sub (h0 e) (jv 1) c λq=>A.s (Yb 1) x0 q c λt=>A.a t c λu=>A.b .eql p u c λv=>A.test v (A.s (ZW 1) x0 (h0 e) c λf=>
 A.loop (λw d c=>A.r Yf f c λy=>A.b .lss (h0 d) y c λz=>A.test z (au (λh=>A.s (Yb 1) f (h0 d) c λa0=>A.a a0 c λa1=>A.b .sub (h0 d) (jv 1) c λa2=>
 A.s (Yb 1) f a2 c λa3=>A.a a3 c λa4=>A.b .neq a1 a4 c λa5=>A.test a5 (A.s (Yb 1) f (h0 d) c λa6=>A.a a6 c λa7=>A.s (Yb 1) x0 (h1 d) c λa8=>
 A.ws (Xb 1) a8 a7 c λ_ c=>A.b .add (h1 d) (jv 1) c λa9=>h [a9] c) (h [(h1 d)] c)) (λb0 c=>A.b .add (h0 d) (jv 1) c λb1=>w [b1,(h0 b0)] c)) (
 A.s (ZW 1) x0 (h1 d) c λb2=>A.wr (ze 1 [jv 0] [b2] c) c λ_ c=>A.s (Z8 1) x0 (h1 d) c λb3=>g b3 c)) [jv 1,(h0 e)] c) (A.b .add (h0 e) (jv 1) c λb4=>
 l [b4] c)) (g x0 c)) [jv 1] c)
 |_=>A.stop
theorem rV:GQ 137 1 g137:=cU [none,none,some [3],none,none,none,none,some [5,3],none,some [3],none] λ_ _ _ _ _=>by kernel_rfl
def g138:aq:=λA xs a c=>match xs with
 |[x0,x1]=>
 A.k 176 [x0,x1] a λd a=>A.b .geq d (jv 0) a λe=>c e a
 |_=>A.stop
theorem oi:GQ 138 2 g138:=dR [] λ_ _ _ _ _ _=>by kernel_rfl
def g139:aq:=λA xs a d=>match xs with
 |[x0,x1]=>
 A.r Yf x0 a λe=>A.loop (λf c a=>A.b .lss (h0 c) e a λg=>A.test g (A.s (Yb 2) x0 (h0 c) a λh=>A.r (Zd true 2) h a λi=>A.call .cH [x1,i] a λj a=>
 A.test j (d (h0 c) a) (A.b .add (h0 c) (jv 1) a λl=>f [l] a)) (d (jv (-1)) a)) [jv 0] a
 |_=>A.stop
theorem oj:GQ 139 2 g139:=dR [none,some [8],none,none,none] λ_ _ _ _ _ _=>by kernel_rfl
def g140:aq:=λA xs a f=>match xs with
 |[x0,x1,x2]=>
 A.w1 Zm x0 a λg a=>A.w1 Zm x1 a λb a=>A.r (Zd true 23) b a λi=>A.k 23 [i,x2] a λd a=>A.r (Xc 0) d a λj=>A.r (Xc 1) d a λl=>
 A.r (Xc 2) d a λm=>A.r (Zd true 2) g a λn=>A.r (Zd true 23) b a λo=>A.k 25 [n,o,.bool true] a λp a=>A.r (Xp .not) p a λe=>
 A.fr e Qi m a λq=>A.fr e (Xp .not) q a λs=>A.c e (.bool true) s a λt=>A.test t (f (.aG GI) a) (A.r (Zd true 2) g a λu=>A.r (Zd true 23) b a λv=>
 A.k 177 [u,v,j,l] a λh a=>A.r (Xc 0) h a λw=>A.r (Xc 1) h a λy=>f (.aG [w,y,.bool true]) a)
 |_=>A.stop
theorem rW:GQ 140 3 g140:=jN [none] λ_ _ _ _ _ _ _=>by kernel_rfl
def g141:aq:=λA xs d h=>match xs with
 |[x0,x1,x2,x3,x4,x5]=>
 A.w1 Zm x0 d λp d=>A.w1 Zm x1 d λl d=>A.wr (Xe dQ [] d) d λe d=>A.wr (Xe gB [] d) d λf d=>A.r (Zd true 2) p d λt4=>A.r (Zd true 23) l d λt5=>
 A.k 25 [t4,t5,.bool true] d λt6 d=>A.r (Xp .not) t6 d λt7=>A.test t7 (A.rd (Qe dQ [] [] d) λt8=>A.rd (Qe gB [] [] d) λt9=>A.ws (Xb 23) e t8 d λ_ d=>
 A.ws (Xb 7) f t9 d λ_ d=>A.opt (av true 23 e d) λr10=>A.opt (av true 7 f d) λr11=>h (.aG [r10,r11,jv 170]) d) (au (λq=>A.test x5 (
 q [.int .i8 6] d) (q [.int .i8 5] d)) (λt d=>A.s tI x4 (jv 0) d λa1=>A.s YJ a1 (jv 4000000) d λj=>A.r (Zd true 23) l d λa2=>A.k 19 [a2] d λa3 d=>
 A.wr (Xe dQ [] d) d λi d=>A.ws (Xb 23) i a3 d λ_ d=>A.b .gtr x2 (jv 0) d λa4=>A.test a4 (A.r (Zd true 23) l d λa5=>A.k 23 [a5,x2] d λm d=>
 A.r (Xc 0) m d λn=>A.r (Xc 1) m d λu=>A.r (Xc 2) m d λa6=>A.r (Xp .not) a6 d λa7=>A.test a7 (A.rd (Qe dQ [] [] d) λa8=>
 A.rd (Qe gB [] [] d) λa9=>A.ws (Xb 23) e a8 d λ_ d=>A.ws (Xb 7) f a9 d λ_ d=>A.opt (av true 23 e d) λr28=>A.opt (av true 7 f d) λr29=>
 h (.aG [r28,r29,jv 4]) d) (A.r (Ya 7) i d λb0=>A.s (Yg 2 8) b0 n d λb1=>A.r (Ya 6) b1 d λb2=>A.a b2 d λb3=>A.s (Yb 4) b3 u d λb4=>
 A.r (Zd true 4) b4 d λb5=>A.wr (Xe rG [] d) d λg d=>A.ws (Xb 4) g b5 d λ_ d=>au (λv=>A.test x5 (A.r (Ya 2) g d λb6=>
 A.a b6 d λb7=>A.s YJ j b7 d λw=>A.r (Ya 2) g d λb8=>A.a b8 d λb9=>A.b .sub b9 w d λc0=>A.r (Ya 2) g d λc1=>A.ws (Xb 1) c1 c0 d λ_ d=>
 v [w] d) (A.r (Ya 0) p d λc2=>A.a c2 d λc3=>A.r (Ya 1) g d λc4=>A.a c4 d λc5=>A.s (Yb 12) c3 c5 d λc6=>A.r (Ya 5) c6 d λc7=>
 A.a c7 d λc8=>A.b .sub j c8 d λc9=>A.s tI c9 (jv 0) d λy=>A.r (Ya 2) g d λd0=>A.a d0 d λd1=>A.b .add d1 y d λd2=>A.r (Ya 2) g d λd3=>
 A.ws (Xb 1) d3 d2 d λ_ d=>v [y] d)) (λd4 d=>A.r (Ya 2) g d λd5=>A.a d5 d λd6=>A.b .gtr d6 (jv 1000000) d λd7=>A.test d7 (A.rd (Qe dQ [] [] d) λd8=>
 A.rd (Qe gB [] [] d) λd9=>A.ws (Xb 23) e d8 d λ_ d=>A.ws (Xb 7) f d9 d λ_ d=>A.opt (av true 23 e d) λr64=>A.opt (av true 7 f d) λr65=>
 h (.aG [r64,r65,jv 171]) d) (A.pu (Ya 7 [i] d) λe0=>A.pu (Yg 2 8 [e0,n] d) λe1=>A.pu (Ya 6 [e1] d) λe2=>A.dr (Xf [e2] d) d λe3 e4 d=>
 A.dr (Zd true 4 [g] d) d λe5 e6 d=>A.dr (Yb 4 [e3,u] d) d λe7 e8 d=>A.dr (Xb 4 [e7,e5] d) d λ_ e9 d=>A.gd (Zh [[],[],[0,1],[0,1,2],[0,1,2,3],[],[],[0,1,2,3,4,5,6],[0,1,2,3,4,5,6,7]] [([],[]),([],[]),([],[]),([],[]),e4,([],[]),e6,e8,e9]) <|
 A.r (Zd true 23) i d λf0=>A.rd (Qe gB [(0,1),(1,1),(3,1),(5,1)] [(h0 t),n,x2,(h0 d4)] d) λf1=>A.ws (Xb 23) e f0 d λ_ d=>A.ws (Xb 7) f f1 d λ_ d=>
 A.opt (av true 23 e d) λr78=>A.opt (av true 7 f d) λr79=>h (.aG [r78,r79,jv 0]) d)))) (A.b .lss x2 (jv 0) d λf2=>A.test f2 (A.rd (Qe dQ [] [] d) λf3=>
 A.rd (Qe gB [] [] d) λf4=>A.ws (Xb 23) e f3 d λ_ d=>A.ws (Xb 7) f f4 d λ_ d=>A.opt (av true 23 e d) λr83=>A.opt (av true 7 f d) λr84=>
 h (.aG [r83,r84,jv 4]) d) (A.b .lss x3 (jv 0) d λo=>A.fr o Qi x3 d λf5=>A.fb o .gtr f5 (jv 1) d λf6=>A.c o (.bool true) f6 d λf7=>A.test f7 (
 A.rd (Qe dQ [] [] d) λf8=>A.rd (Qe gB [] [] d) λf9=>A.ws (Xb 23) e f8 d λ_ d=>A.ws (Xb 7) f f9 d λ_ d=>A.opt (av true 23 e d) λr91=>
 A.opt (av true 7 f d) λr92=>h (.aG [r91,r92,jv 2]) d) (A.r (Ya 7) i d λg0=>A.s (Yg 2 8) g0 x3 d λg1=>A.r (Ya 0) g1 d λg2=>
 A.a g2 d λg3=>A.b .sub g3 j d λg4=>au (λz=>A.test x5 (A.r (Ya 7) i d λg5=>A.s (Yg 2 8) g5 x3 d λg6=>A.r (Ya 0) g6 d λg7=>
 A.a g7 d λg8=>A.b .add g8 j d λg9=>z [g9] d) (z [g4] d)) (λa0 d=>A.k 116 [(h0 a0)] d λi0 d=>A.r (Xp .not) i0 d λi1=>A.test i1 (A.rd (Qe dQ [] [] d) λi2=>
 A.rd (Qe gB [] [] d) λi3=>A.ws (Xb 23) e i2 d λ_ d=>A.ws (Xb 7) f i3 d λ_ d=>A.opt (av true 23 e d) λr109=>A.opt (av true 7 f d) λr110=>
 h (.aG [r109,r110,jv 171]) d) (A.r (Ya 7) i d λi4=>A.s (Yg 2 8) i4 x3 d λi5=>A.r (Ya 0) i5 d λi6=>A.ws (Xb 1) i6 (h0 a0) d λ_ d=>
 A.r (Zd true 23) i d λi7=>A.rd (Qe gB [(0,1),(1,1),(5,1)] [(h0 t),x3,j] d) λi9=>A.ws (Xb 23) e i7 d λ_ d=>A.ws (Xb 7) f i9 d λ_ d=>
 A.opt (av true 23 e d) λr116=>A.opt (av true 7 f d) λr117=>h (.aG [r116,r117,jv 0]) d)))))))
 |_=>A.stop
theorem rZ:GQ 141 6 g141:=PK [none,some [15],none,none,some [4],none,none,none,some [21],none] λ_ _ _ _ _ _ _ _ _ _=>by kernel_rfl
def g142:aq:=λA xs c i=>match xs with
 |[x0]=>
 A.loop (λj d c=>A.r Yf x0 c λl=>A.b .lss (h0 d) l c λm=>A.test m (au (λe=>A.b .add (h1 d) (jv 1) c λn=>A.s YJ n (jv 1073741824) c λf=>
 A.s (Yb 14) x0 (h0 d) c λo=>A.r (Ya 0) o c λp=>A.a p c λq=>A.k 130 [q] c λt c=>au (λg=>A.test t (A.s (Yb 14) x0 (h0 d) c λu=>
 A.r (Ya 2) u c λv=>A.r (Zd true 4) v c λw=>A.k 76 [w] c λy c=>A.b .add f y c λz=>A.s YJ z (jv 1073741824) c λa0=>g [a0] c) (
 g [f] c)) (λh c=>A.s (Yb 14) x0 (h0 d) c λa1=>A.r (Ya 0) a1 c λa2=>A.a a2 c λa3=>A.b .eql a3 (.int .i8 8) c λa4=>A.test a4 (
 A.dr (Yb 14 [x0,(h0 d)] c) c λa5 a6 c=>A.pu (Ya 7 [a5] c) λa7=>A.dr (Zd true 5 [a7] c) c λa8 a9 c=>A.aE (.call 178) [a8] c λb0 b1 c=>
 A.pu (Yj .add false [(h0 h),b0] c) λb2=>A.dr (Yb 14 [x0,(h0 d)] c) c λb3 b4 c=>A.pu (Ya 12 [b3] c) λb5=>A.dr (Xf [b5] c) c λb6 b7 c=>
 A.aE (.call 142) [b6] c λb8 b9 c=>A.pu (Yj .add false [b2,b8] c) λc0=>A.dr (Yb 14 [x0,(h0 d)] c) c λc1 c2 c=>A.pu (Ya 13 [c1] c) λc3=>
 A.dr (Xf [c3] c) c λc4 c5 c=>A.aE (.call 142) [c4] c λc6 c7 c=>A.pu (Yj .add false [c0,c6] c) λc8=>A.pu (YJ [c8,jv 1073741824] c) λc9=>
 A.gd (Zh [[],[],[],[1,2],[1,2,3],[1,2,3,4],[1,2,3,4,5],[0,1,2,3,4,5,6],[],[],[8,9],[8,9,10],[8,9,10,11],[1,2,3,4,5,6,8,9,10,11,12],[0,1,2,3,4,5,6,7,8,9,10,11,12,13],[],[],[15,16],[15,16,17],[15,16,17,18],[1,2,3,4,5,6,8,9,10,11,12,13,15,16,17,18,19],[0,1,2,3,4,5,6,7,8,9,10,11,12,13,14,15,16,17,18,19,20],[0,1,2,3,4,5,6,7,8,9,10,11,12,13,14,15,16,17,18,19,20,21],[0,1,2,3,4,5,6,7,8,9,10,11,12,13,14,15,16,17,18,19,20,21,22]] [([],[]),([],[]),([],[]),a6,([],[]),a9,b1,([],[]),([],[]),([],[]),b4,([],[]),b7,b9,([],[]),([],[]),([],[]),c2,([],[]),c5,c7,([],[]),([],[]),([],[])]) <|
 e [c9] c) (e [(h0 h)] c))) (λv5 c=>A.b .add (h0 d) (jv 1) c λd0=>j [d0,(h0 v5)] c)) (i (h1 d) c)) [jv 0,jv 0] c
 |_=>A.stop
theorem fB:GQ 142 1 g142:=cU [none,some [4,3],none,some [3],some [3],none] λ_ _ _ _ _=>by kernel_rfl
def g143:aq:=λA xs c h=>match xs with
 |[x0]=>
 A.w1 Zm x0 c λe c=>A.wr (Xe [jv 0,jv 0] [] c) c λd c=>A.r (Qp (.func 179) 0) e c λi=>A.r (Qp (.func 181) 0) e c λj=>A.r (Qp (.func 183) 0) e c λl=>
 A.rd (Qe [.ct,.ct,.ct] [(0,1),(1,1),(2,1)] [i,j,l] c) λm=>A.loop (λn f c=>A.b .lss (h0 f) (jv 3) c λo=>A.test o (A.s (tE false 3 1) m (h0 f) c λp=>
 A.call .cH [p] c λq c=>A.wr (Xe [jv 0,jv 0] [] c) c λg c=>A.ws (Xb 2) g q c λ_ c=>A.r (Ya 0) g c λt=>A.a t c λu=>
 A.b .neq u (jv 0) c λv=>A.test v (A.r (Zd true 2) g c λw=>A.ws (Xb 2) d w c λ_ c=>A.opt (av true 2 d c) λr16=>h r16 c) (A.b .add (h0 f) (jv 1) c λy=>
 n [y] c)) (A.rd (Qe [jv 0,jv 0] [] [] c) λz=>A.ws (Xb 2) d z c λ_ c=>A.opt (av true 2 d c) λr19=>h r19 c)) [jv 0] c
 |_=>A.stop
theorem kh:GQ 143 1 g143:=cU [none,some [10],none,none,none] λ_ _ _ _ _=>by kernel_rfl
def g144:aq:=λA xs d q=>match xs with
 |[x0,x1,x2,x3]=>
 A.w1 Zm x0 d λz d=>A.r Qa x1 d λt1=>A.r (Ya 7) t1 d λt2=>A.s (Yg 2 8) t2 x2 d λe=>A.r Qa e d λt4=>A.r (Ya 0) t4 d λt5=>
 A.a t5 d λt6=>A.k 57 [t6] d λt7 d=>A.r (Xp .not) t7 d λm=>A.fr m Qi e d λt9=>A.fr m Qa t9 d λa4=>A.fr m (Ya 1) a4 d λa5=>
 A.fa m a5 d λa6=>A.fb m .lss a6 (jv 0) d λa7=>A.c m (.bool true) a7 d λj=>A.fr j Qi e d λa8=>A.fr j Qa a8 d λa9=>A.fr j (Ya 1) a9 d λb0=>
 A.fa j b0 d λb1=>A.gw j false (λk=>A.k 57 [b1] d k) d λb2 d=>A.fr j (Xp .not) b2 d λb3=>A.c j (.bool true) b3 d λn=>A.fr n Qi e d λb4=>
 A.fr n Qa b4 d λb5=>A.fr n (Ya 2) b5 d λb6=>A.fa n b6 d λb7=>A.fb n .lss b7 (jv 0) d λb8=>A.c n (.bool true) b8 d λo=>A.fr o Qi e d λb9=>
 A.fr o Qa b9 d λc0=>A.fr o (Ya 2) c0 d λc1=>A.fa o c1 d λc2=>A.fb o .gtr c2 (jv 10) d λc3=>A.c o (.bool true) c3 d λl=>A.fr l Qi e d λc4=>
 A.fr l Qa c4 d λc5=>A.fr l (Ya 6) c5 d λc6=>A.fa l c6 d λc7=>A.fr l Yf c7 d λc8=>A.fb l .gtr c8 (jv 7) d λc9=>A.c l (.bool true) c9 d λd0=>
 A.test d0 (q (.bool false) d) (A.r Qa e d λd1=>A.r (Ya 3) d1 d λd2=>A.a d2 d λd3=>A.rd (Qe [.af,jv 0] [(0,1),(1,1)] [d3,jv 60] d) λd4=>
 A.r Qa e d λd5=>A.r (Ya 4) d5 d λd6=>A.a d6 d λd7=>A.rd (Qe [.af,jv 0] [(0,1),(1,1)] [d7,jv 10] d) λd8=>A.r Qa e d λd9=>
 A.r (Ya 5) d9 d λe0=>A.a e0 d λe1=>A.rd (Qe [.af,jv 0] [(0,1),(1,1)] [e1,jv 1000000] d) λe2=>A.r Qa e d λe3=>A.r (Ya 7) e3 d λe4=>
 A.a e4 d λe5=>A.rd (Qe [.af,jv 0] [(0,1),(1,1)] [e5,jv 1000000] d) λe6=>A.rd (Qe [.af,jv 0,.af,jv 0,.af,jv 0,.af,jv 0] [(0,2),(2,2),(4,2),(6,2)] [d4,d8,e2,e6] d) λe7=>
 A.loop (λe8 a0 d=>A.b .lss (h0 a0) (jv 4) d λe9=>A.test e9 (A.s (tE true 4 2) e7 (h0 a0) d λf0=>A.wr (Xe [.af,jv 0] [] d) d λt d=>
 A.ws (Xb 2) t f0 d λ_ d=>A.r (Ya 0) t d λf1=>A.a f1 d λf2=>A.r Yf f2 d λf3=>A.r (Ya 1) t d λf4=>A.a f4 d λf5=>
 A.b .gtr f3 f5 d λp=>A.fr p (Ya 0) t d λf6=>A.fa p f6 d λf7=>A.fr p (Qp (.func 186) 0) z d λf8=>A.gw p false (λk=>A.k 185 [f7,f8] d k) d λf9 d=>
 A.c p (.bool true) f9 d λg0=>A.test g0 (q (.bool false) d) (A.b .add (h0 a0) (jv 1) d λg1=>e8 [g1] d)) (A.r Qa e d λg2=>A.r (Ya 6) g2 d λg3=>
 A.a g3 d λa2=>A.r Yf a2 d λg4=>A.loop (λg5 a1 d=>A.b .lss (h0 a1) g4 d λg6=>A.test g6 (A.s (Yb 4) a2 (h0 a1) d λg7=>A.r (Zd true 4) g7 d λg8=>
 A.wr (Xe rG [] d) d λg d=>A.ws (Xb 4) g g8 d λ_ d=>A.r (Ya 0) g d λg9=>A.a g9 d λi0=>A.s (Qr false true (jv 0)) x3 i0 d λa3=>
 A.r (Xc 0) a3 d λn2=>A.r (Xc 1) a3 d λu=>A.fr u (Ya 1) g d λi1=>A.fa u i1 d λi2=>A.fb u .lss i2 (jv 0) d λi3=>A.c u (.bool true) i3 d λh=>
 A.fr h (Ya 1) g d λi4=>A.fa h i4 d λi5=>A.fa h z d λi6=>A.fr h Qa i6 d λi7=>A.fr h (Ya 0) i7 d λi8=>A.fa h i8 d λi9=>
 A.fr h Yf i9 d λj0=>A.fb h .geq i5 j0 d λj1=>A.c h (.bool true) j1 d λf=>A.fa f z d λj2=>A.fr f Qa j2 d λj3=>A.fr f (Ya 0) j3 d λj4=>
 A.fa f j4 d λj5=>A.fr f (Ya 1) g d λj6=>A.fa f j6 d λj7=>A.fs f (Yb 12) j5 j7 d λj8=>A.fr f (Ya 1) j8 d λj9=>A.fa f j9 d λl0=>
 A.fr f (Xp .not) l0 d λl1=>A.c f (.bool true) l1 d λv=>A.fr v (Ya 2) g d λl2=>A.fa v l2 d λl3=>A.fb v .lss l3 (jv 0) d λl4=>A.c v (.bool true) l4 d λw=>
 A.fr w (Ya 2) g d λl5=>A.fa w l5 d λl6=>A.fb w .gtr l6 (jv 1000000) d λl7=>A.c w (.bool true) l7 d λy=>A.fr y (Ya 0) g d λl8=>
 A.fa y l8 d λl9=>A.fb y .lss l9 (jv 1) d λm0=>A.c y (.bool true) m0 d λi=>A.fr i (Ya 0) g d λm1=>A.fa i m1 d λm2=>A.fr i Qi x1 d λm3=>
 A.fr i Qa m3 d λm4=>A.fr i (Ya 6) m4 d λm5=>A.fa i m5 d λm6=>A.fb i .geq m2 m6 d λm7=>A.c i (.bool true) m7 d λm8=>A.test m8 (
 q (.bool false) d) (A.r (Ya 0) g d λm9=>A.a m9 d λn0=>A.wr (Xz false [x3,n0,x2] d) d λ_ d=>A.b .add (h0 a1) (jv 1) d λn1=>g5 [n1] d)) (
 q (.bool true) d)) [jv 0] d)) [jv 0] d)
 |_=>A.stop
theorem lF:GQ 144 4 g144:=vt [none,none,some [85],none,none,none,none,some [106],none,none,none] λ_ _ _ _ _ _ _ _=>by kernel_rfl
def g145:aq:=λA xs d s=>match xs with
 |[x0,x1]=>
 A.w1 Zm x1 d λe d=>A.r (Ya 0) e d λv=>A.a v d λw=>A.k 147 [w] d λy d=>A.r (Xp .not) y d λi=>A.fr i (Ya 2) e d λz=>
 A.fa i z d λt6=>A.gw i false (λk=>A.k 187 [t6] d k) d λt7 d=>A.fr i (Xp .not) t7 d λt8=>A.c i (.bool true) t8 d λj=>A.fr j (Ya 3) e d λa0=>
 A.fa j a0 d λa1=>A.gw j false (λk=>A.k 187 [a1] d k) d λa2 d=>A.fr j (Xp .not) a2 d λa3=>A.c j (.bool true) a3 d λl=>A.fr l (Ya 4) e d λa4=>
 A.fa l a4 d λa5=>A.gw l false (λk=>A.k 187 [a5] d k) d λa6 d=>A.fr l (Xp .not) a6 d λa7=>A.c l (.bool true) a7 d λm=>A.fr m (Ya 5) e d λa8=>
 A.fa m a8 d λa9=>A.gw m false (λk=>A.k 187 [a9] d k) d λb0 d=>A.fr m (Xp .not) b0 d λb1=>A.c m (.bool true) b1 d λn=>A.fr n (Ya 6) e d λb2=>
 A.fa n b2 d λb3=>A.gw n false (λk=>A.k 187 [b3] d k) d λb4 d=>A.fr n (Xp .not) b4 d λb5=>A.c n (.bool true) b5 d λo=>A.fr o (Ya 7) e d λb6=>
 A.fa o b6 d λb7=>A.gw o false (λk=>A.k 187 [b7] d k) d λb8 d=>A.fr o (Xp .not) b8 d λb9=>A.c o (.bool true) b9 d λc0=>A.test c0 (s (.bool false) d) (
 A.r (Ya 1) e d λc1=>A.a c1 d λt=>A.tr t (Ya 4) e d λc2=>A.ta t c2 d λc3=>A.tb t .lss c3 (jv 1) d λc4=>A.c t c4 (.bool false) d λh=>
 A.fr h (Ya 1) e d λc5=>A.fa h c5 d λc6=>A.fr h (Xp .not) c6 d λc7=>A.fr h Qi c7 d λf=>A.tr f (Ya 3) e d λc8=>A.ta f c8 d λc9=>
 A.tr f (Ya 4) e d λd0=>A.ta f d0 d λd1=>A.tb f .add c9 d1 d λd2=>A.tr f (Ya 5) e d λd3=>A.ta f d3 d λd4=>A.tb f .add d2 d4 d λd5=>
 A.tr f (Ya 6) e d λd6=>A.ta f d6 d λd7=>A.tb f .add d5 d7 d λd8=>A.tr f (Ya 7) e d λd9=>A.ta f d9 d λe0=>A.tb f .add d8 e0 d λe1=>
 A.tb f .gtr e1 (jv 0) d λe2=>A.tr f Qi e2 d λg=>A.fr g (Ya 9) e d λe3=>A.fa g e3 d λe4=>A.fr g Yf e4 d λe5=>A.fr g (Ya 10) e d λe6=>
 A.fa g e6 d λe7=>A.fr g Yf e7 d λe8=>A.fb g .add e5 e8 d λe9=>A.fb g .gtr e9 (jv 0) d λf0=>A.tc f g (.bool true) f0 d λf1=>A.fc h f f1 (.bool false) d λf2=>
 A.c h (.bool true) f2 d λf3=>A.test f3 (s (.bool false) d) (A.r (Zd true 12) e d λf4=>A.k 110 [f4] d λf5 d=>A.b .gtr f5 (jv 200) d λf6=>A.test f6 (
 s (.bool false) d) (A.rd (Qe [.af,.bool false] [(0,1),(1,1)] [x0,.bool true] d) λf7=>A.w1 Zm f7 d λf8 d=>A.rd (Qe [.af,.bool false] [(0,1)] [x0] d) λf9=>
 A.w1 Zm f9 d λu d=>A.r (Ya 8) e d λg0=>A.a g0 d λg1=>A.k 188 [f8,g1,jv 1] d λp d=>A.tr p Qi u d λg2=>A.tr p (Ya 9) e d λg3=>
 A.ta p g3 d λg4=>A.gw p true (λk=>A.k 188 [g2,g4,jv 1] d k) d λg5 d=>A.c p g5 (.bool false) d λq=>A.tr q Qi u d λg6=>A.tr q (Ya 10) e d λg7=>
 A.ta q g7 d λg8=>A.gw q true (λk=>A.k 188 [g6,g8,jv 1] d k) d λg9 d=>A.c q g9 (.bool false) d λi0=>s i0 d)))
 |_=>A.stop
theorem oq:GQ 145 2 g145:=dR [none,none,none] λ_ _ _ _ _ _=>by kernel_rfl
def g146:aq:=λA xs d h=>match xs with
 |[x0,x1]=>
 A.loop (λq l d=>A.r Yf x1 d λt=>A.b .lss (h0 l) t d λu=>A.test u (au (λi=>A.s (Yb 14) x1 (h0 l) d λv=>A.r (Zd true 14) v d λw=>
 A.wr (Xe [.int .i8 0,.int .i8 0,.int .i8 0,jv 0,.int .i8 0,.af,.str [],.int .i8 0,.int .i8 0,.str [],.af,.af,.af,.af] [] d) d λe d=>
 A.ws (Xb 14) e w d λ_ d=>A.r (Ya 0) e d λy=>A.a y d λf=>A.b .eql f (.int .i8 5) d λz=>A.test z (A.r (Ya 2) e d λa0=>A.r (Zd true 4) a0 d λa1=>
 A.k 191 [a1] d λa2 d=>A.k 190 [x0,a2] d λa3 d=>A.k 189 [a3,.int .i8 1] d λa4 d=>A.r (Xp .not) a4 d λa5=>A.test a5 (h (.bool false) d) (i [] d)) (
 A.b .eql f (.int .i8 8) d λa6=>A.test a6 (A.r (Ya 7) e d λa7=>A.r (Zd true 5) a7 d λa8=>A.k 192 [a8] d λa9 d=>A.k 190 [x0,a9] d λm d=>
 A.r (Ya 12) e d λb0=>A.a b0 d λb1=>A.k 146 [m,b1] d λb2 d=>A.r (Xp .not) b2 d λg=>A.fr g Qi m d λb3=>A.fr g (Ya 13) e d λb4=>
 A.fa g b4 d λb5=>A.gw g false (λk=>A.k 146 [b3,b5] d k) d λb6 d=>A.fr g (Xp .not) b6 d λb7=>A.c g (.bool true) b7 d λb8=>A.test b8 (h (.bool false) d) (
 i [] d)) (A.b .eql f (.int .i8 0) d λn=>au (λj=>A.test n (j [n] d) (A.b .eql f (.int .i8 1) d λo=>A.test o (j [o] d) (A.b .eql f (.int .i8 2) d λp=>
 A.test p (j [p] d) (A.b .eql f (.int .i8 3) d λb9=>j [b9] d)))) (λc0 d=>A.test (h0 c0) (A.r (Ya 2) e d λc1=>A.r (Zd true 4) c1 d λc2=>
 A.k 191 [c2] d λc3 d=>A.k 190 [x0,c3] d λc4 d=>A.b .neq c4 (.int .i8 0) d λc5=>A.test c5 (h (.bool false) d) (i [] d)) (A.k 190 [x0,x0] d λc6 d=>
 A.b .neq c6 (.int .i8 0) d λc7=>A.test c7 (h (.bool false) d) (i [] d)))))) (λv5 d=>A.b .add (h0 l) (jv 1) d λc8=>q [c8] d)) (h (.bool true) d)) [jv 0] d
 |_=>A.stop
theorem gS:GQ 146 2 g146:=dR [none,some [5],none,some [],none,none,none,none,none,some [52],none,none,none,none,none] λ_ _ _ _ _ _=>by kernel_rfl
def g147:aq:=λA xs a j=>match xs with
 |[x0]=>
 A.k 193 [x0,jv 0] a λh a=>A.r (Xc 0) h a λl=>A.r (Xc 1) h a λi=>A.b .geq i (jv 1) a λg=>A.tr g Qi i a λm=>A.tb g .leq m (jv 24) a λn=>
 A.c g n (.bool false) a λd=>A.tr d Qi l a λo=>A.tr d Qi x0 a λp=>A.tr d Qs p a λq=>A.tb d .eql o q a λs=>A.c d s (.bool false) a λe=>
 A.tr e Qi x0 a λt=>A.tr e Qs t a λu=>A.tb e .leq u (jv 40) a λv=>A.c e v (.bool false) a λf=>A.tr f Qi x0 a λw=>A.gw f true (λk=>A.k 194 [w] a k) a λy a=>
 A.tr f (Xp .not) y a λz=>A.c f z (.bool false) a λa0=>j a0 a
 |_=>A.stop
theorem lG:GQ 147 1 g147:=cU [] λ_ _ _ _ _=>by kernel_rfl
def g148:aq:=λA xs a f=>match xs with
 |[x0,x1]=>
 A.w1 Zm x0 a λh a=>A.loop (λi e a=>A.r Yf x1 a λj=>A.b .lss (h0 e) j a λl=>A.test l (A.dr (Zd true 2 [h] a) a λm n a=>A.dr (Yb 1 [x1,(h0 e)] a) a λo p a=>
 A.dr (Xf [o] a) a λq s a=>A.aE (.call 195) [m,q] a λg t a=>A.pu (Xc 0 [g] a) λb1=>A.pu (Xc 1 [g] a) λu=>A.gd (Zh [[],[],[],[1,2],[1,2,3],[0,1,2,3,4],[0,1,2,3,4,5],[0,1,2,3,4,5,6],[0,1,2,3,4,5,6],[0,1,2,3,4,5,6,7],[0,1,2,3,4,5,6,7,8,9]] [n,([],[]),([],[]),p,s,t,([],[]),([],[]),([],[]),([],[]),([],[])]) <|
 A.loop (λv d a=>A.b .lss (h0 d) (h0 e) a λw=>A.test w (A.gr (h1 d) true (λk=>A.rd (Qi [x1] a) k) λy=>A.gr (h1 d) true (λk=>A.rd (Qi [(h0 d)] a) k) λz=>
 A.gr (h1 d) true (λk=>A.rd (Yb 1 [y,z] a) k) λa0=>A.gr (h1 d) true (λk=>A.rd (Xf [a0] a) k) λa1=>A.gr (h1 d) true (λk=>A.rd (Qi [x1] a) k) λa2=>
 A.gr (h1 d) true (λk=>A.rd (Qi [(h0 e)] a) k) λa3=>A.gr (h1 d) true (λk=>A.rd (Yb 1 [a2,a3] a) k) λa4=>A.gr (h1 d) true (λk=>A.rd (Xf [a4] a) k) λa5=>
 A.gr (h1 d) true (λk=>A.rd (Yj .neq false [a1,a5] a) k) λa6=>A.c (h1 d) a6 (.bool false) a λa7=>A.b .add (h0 d) (jv 1) a λa8=>v [a8,a7] a) (
 A.r (Xp .not) (h1 d) a λa9=>A.test a9 (f (.bool false) a) (A.b .add (h0 e) (jv 1) a λb0=>i [b0] a))) [jv 0,u] a) (f (.bool true) a)) [jv 0] a
 |_=>A.stop
theorem lH:GQ 148 2 g148:=dR [none,some [5],none,none,none,some [8,7],none,none,none] λ_ _ _ _ _ _=>by kernel_rfl
def g149:aq:=λA xs d j=>match xs with
 |[x0]=>
 A.wr (Xe [jv 0,jv 0] [] d) d λg d=>A.r Qs x0 d λt1=>A.b .gtr t1 (jv 65536) d λt2=>A.test t2 (A.rd (Qe [jv 0,jv 0] [(0,1)] [jv 3] d) λt3=>
 A.ws (Xb 2) g t3 d λ_ d=>A.opt (av true 2 g d) λr4=>j (.aG [.af,r4]) d) (A.loop (λo e d=>A.r Qs x0 d λt7=>A.b .lss (h0 e) t7 d λt8=>
 A.test t8 (A.k 196 [x0,(h0 e)] d λt9 d=>A.r (Xc 0) t9 d λl=>A.r (Xc 1) t9 d λa7=>A.b .eql a7 (jv 0) d λa8=>A.test a8 (A.rd (Qe [jv 0,jv 0] [(0,1),(1,1)] [jv 110,(h0 e)] d) λa9=>
 A.ws (Xb 2) g a9 d λ_ d=>A.opt (av true 2 g d) λr14=>j (.aG [.af,r14]) d) (A.b .eql l (jv 32) d λv=>A.fr v Qi l d λb0=>A.fb v .eql b0 (jv 10) d λb1=>
 A.c v (.bool true) b1 d λw=>A.fr w Qi l d λb2=>A.fb w .eql b2 (jv 13) d λb3=>A.c w (.bool true) b3 d λy=>A.fr y Qi l d λb4=>A.fb y .eql b4 (jv 9) d λb5=>
 A.c y (.bool true) b5 d λb6=>A.test b6 (A.b .add (h0 e) (jv 1) d λb7=>o [b7,(h1 e)] d) (A.b .eql l (jv 35) d λb8=>A.test b8 (A.loop (λb9 m d=>A.r Qs x0 d λc0=>
 A.b .lss (h0 m) c0 d λp=>A.tr p Qi x0 d λc1=>A.tr p Qi (h0 m) d λc2=>A.ts p Xx c1 c2 d λc3=>A.tb p .neq c3 (.int .u8 10) d λc4=>A.c p c4 (.bool false) d λc5=>
 A.test c5 (A.k 196 [x0,(h0 m)] d λa2 d=>A.r (Xc 0) a2 d λm2=>A.r (Xc 1) a2 d λa3=>A.b .eql a3 (jv 0) d λc6=>A.test c6 (A.rd (Qe [jv 0,jv 0] [(0,1),(1,1)] [jv 110,(h0 m)] d) λc7=>
 A.ws (Xb 2) g c7 d λ_ d=>A.opt (av true 2 g d) λr41=>j (.aG [.af,r41]) d) (A.b .add (h0 m) a3 d λc8=>b9 [c8] d)) (o [(h0 m),(h1 e)] d)) [(h0 e)] d) (
 A.k 197 [l] d λc9 d=>A.test c9 (A.k 193 [x0,(h0 e)] d λa4 d=>A.r (Xc 0) a4 d λz=>A.r (Xc 1) a4 d λd0=>A.b .gtr d0 (jv 24) d λq=>
 A.fr q Qi z d λd1=>A.fr q Qi (h0 e) d λd2=>A.fb q .sub d1 d2 d λd3=>A.fb q .gtr d3 (jv 40) d λd4=>A.c q (.bool true) d4 d λd5=>A.test d5 (
 A.rd (Qe [jv 0,jv 0] [(0,1),(1,1)] [jv 3,(h0 e)] d) λd6=>A.ws (Xb 2) g d6 d λ_ d=>A.opt (av true 2 g d) λr54=>j (.aG [.af,r54]) d) (
 A.rd (Q0 [x0,(h0 e),z] d) λd7=>A.rd (Qe [.int .i8 0,.str [],jv 0,jv 0] [(0,1),(1,1),(3,1)] [.int .i8 1,d7,(h0 e)] d) λd8=>
 A.wr (Xi 4 1 [.int .i8 0,.str [],jv 0,jv 0] [(0,4)] [d8] d) d λd9 d=>A.wr (Qj 4 40 [(h1 e),d9] d) d λe0 d=>o [z,e0] d)) (A.k 198 [l] d λe1 d=>
 A.test e1 (A.loop (λe2 i d=>A.r Qs x0 d λe3=>A.b .lss (h0 i) e3 d λn=>A.tr n Qi x0 d λe4=>A.tr n Qi (h0 i) d λe5=>A.ts n Xx e4 e5 d λe6=>
 A.tr n (ZJ .i64) e6 d λe7=>A.gw n true (λk=>A.k 198 [e7] d k) d λe8 d=>A.c n e8 (.bool false) d λe9=>A.test e9 (A.b .mul (h1 i) (jv 10) d λf0=>
 A.s Xx x0 (h0 i) d λf1=>A.b .sub f1 (.int .u8 48) d λf2=>A.r (ZJ .i64) f2 d λf3=>A.b .add f0 f3 d λf4=>A.s YJ f4 (jv 1000) d λf5=>
 A.b .add (h0 i) (jv 1) d λf6=>e2 [f6,f5] d) (A.s Xx x0 (h0 e) d λf7=>A.b .eql f7 (.int .u8 48) d λt=>A.tr t Qi (h0 i) d λf8=>A.tr t Qi (h0 e) d λf9=>
 A.tb t .add f9 (jv 1) d λg0=>A.tb t .gtr f8 g0 d λg1=>A.c t g1 (.bool false) d λg2=>A.test g2 (A.rd (Qe [jv 0,jv 0] [(0,1),(1,1)] [jv 110,(h0 e)] d) λg3=>
 A.ws (Xb 2) g g3 d λ_ d=>A.opt (av true 2 g d) λr85=>j (.aG [.af,r85]) d) (A.b .gtr (h1 i) (jv 999) d λg4=>A.test g4 (A.rd (Qe [jv 0,jv 0] [(0,1),(1,1)] [jv 3,(h0 e)] d) λg5=>
 A.ws (Xb 2) g g5 d λ_ d=>A.opt (av true 2 g d) λr88=>j (.aG [.af,r88]) d) (A.rd (Qe [.int .i8 0,.str [],jv 0,jv 0] [(0,1),(2,1),(3,1)] [.int .i8 2,(h1 i),(h0 e)] d) λg6=>
 A.wr (Xi 4 1 [.int .i8 0,.str [],jv 0,jv 0] [(0,4)] [g6] d) d λg7 d=>A.wr (Qj 4 40 [(h1 e),g7] d) d λg8 d=>o [(h0 i),g8] d)))) [(h0 e),jv 0] d) (
 A.k 199 [] d λa5 d=>A.loop (λg9 f d=>A.r Yf a5 d λi0=>A.b .lss (h0 f) i0 d λa0=>A.tr a0 Qi (h1 f) d λi1=>A.tr a0 (Xp .not) i1 d λi2=>
 A.c a0 i2 (.bool false) d λi3=>A.test i3 (au (λa6=>A.s (Yb 1) a5 (h0 f) d λi4=>A.a i4 d λu=>A.r Qs u d λi5=>A.b .add (h2 f) i5 d λi6=>
 A.r Qs x0 d λi7=>A.b .leq i6 i7 d λh=>A.tr h Qi x0 d λi9=>A.tr h Qi (h2 f) d λj0=>A.tr h Qi (h2 f) d λj1=>A.tr h Qi u d λj2=>
 A.tr h Qs j2 d λj3=>A.tb h .add j1 j3 d λj4=>A.th h (Q0 [i9,j0,j4] d) λj5=>A.tr h Qi u d λj6=>A.tb h .eql j5 j6 d λj7=>A.c h j7 (.bool false) d λj8=>
 A.test j8 (A.rd (Qe [.int .i8 0,.str [],jv 0,jv 0] [(0,1),(1,1),(3,1)] [.int .i8 3,u,(h2 f)] d) λj9=>A.wr (Xi 4 1 [.int .i8 0,.str [],jv 0,jv 0] [(0,4)] [j9] d) d λl0 d=>
 A.wr (Qj 4 40 [(h3 f),l0] d) d λl1 d=>A.r Qs u d λl2=>A.b .add (h2 f) l2 d λl3=>a6 [.bool true,l3,l1] d) (a6 [(h1 f),(h2 f),(h3 f)] d)) (λa1 d=>
 A.b .add (h0 f) (jv 1) d λl4=>g9 [l4,(h0 a1),(h1 a1),(h2 a1)] d)) (A.r (Xp .not) (h1 f) d λl5=>A.test l5 (A.rd (Qe [jv 0,jv 0] [(0,1),(1,1)] [jv 110,(h2 f)] d) λl6=>
 A.ws (Xb 2) g l6 d λ_ d=>A.opt (av true 2 g d) λr126=>j (.aG [.af,r126]) d) (o [(h2 f),(h3 f)] d))) [jv 0,.bool false,(h0 e),(h1 e)] d)))))) (
 A.r Qs x0 d λl7=>A.rd (Qe [.int .i8 0,.str [],jv 0,jv 0] [(0,1),(3,1)] [.int .i8 0,l7] d) λl8=>A.wr (Xi 4 1 [.int .i8 0,.str [],jv 0,jv 0] [(0,4)] [l8] d) d λl9 d=>
 A.wr (Qj 4 40 [(h1 e),l9] d) d λm0 d=>A.rd (Qe [jv 0,jv 0] [] [] d) λm1=>A.ws (Xb 2) g m1 d λ_ d=>A.opt (av true 2 g d) λr132=>
 j (.aG [m0,r132]) d)) [jv 0,.af] d)
 |_=>A.stop
theorem vV:GQ 149 1 g149:=cU [none,none,some [5,4],none,none,none,none,none,none,some [5],none,none,none,none,none,none,none,some [12,13],none,none,none,none,none,some [16,15,5,4],none,some [15,5,4],none,none] λ_ _ _ _ _=>by kernel_rfl
def g150:aq:=λA xs c d=>match xs with
 |[x0]=>
 A.r Qa x0 c λe=>A.r (Ya 3) e c λf=>A.r (Ya 0) f c λg=>A.a g c λh=>A.b .eql h (jv 0) c λi=>d i c
 |_=>A.stop
theorem vW:GQ 150 1 g150:=cU [] λ_ _ _ _ _=>by kernel_rfl
def g151:aq:=λA xs a g=>match xs with
 |[x0,x1]=>
 A.pu (Qa [x0] a) λh=>A.pu (Ya 0 [h] a) λi=>A.dr (Xf [i] a) a λj l a=>A.pu (Qa [x0] a) λm=>A.pu (Ya 1 [m] a) λn=>
 A.dr (Xf [n] a) a λo p a=>A.dr (Yb 4 [j,o] a) a λq r a=>A.dr (Zd true 4 [q] a) a λs t a=>A.dr (Xe [.int .i8 0,.str [],jv 0,jv 0] [] a) a λe u a=>
 A.dr (Xb 4 [e,s] a) a λ_ v a=>A.gd (Zh [[],[0],[0,1],[0,1,2],[],[4],[4,5],[4,5,6],[0,1,2,3,4,5,6,7],[0,1,2,3,4,5,6,7,8],[],[0,1,2,3,4,5,6,7,8,9,10]] [([],[]),([],[]),([],[]),l,([],[]),([],[]),([],[]),p,r,t,u,v]) <|
 A.k 150 [x0] a λb a=>A.tr b (Ya 0) e a λw=>A.ta b w a λy=>A.tb b .eql y (.int .i8 1) a λz=>A.tr b Qi z a λf=>A.fr f (Ya 0) e a λa0=>
 A.fa f a0 a λa1=>A.fb f .eql a1 (.int .i8 3) a λa2=>A.tc b f (.bool true) a2 a λa3=>A.c b a3 (.bool false) a λd=>A.tr d (Ya 1) e a λa4=>
 A.ta d a4 a λa5=>A.tr d Qi x1 a λa6=>A.tb d .eql a5 a6 a λa7=>A.c d a7 (.bool false) a λa8=>g a8 a
 |_=>A.stop
theorem vX:GQ 151 2 g151:=dR [] λ_ _ _ _ _ _=>by kernel_rfl
def g152:aq:=λA xs a b=>match xs with
 |[x0,x1]=>
 A.k 150 [x0] a λc a=>A.test c (A.pu (Qa [x0] a) λd=>A.pu (Ya 0 [d] a) λe=>A.dr (Xf [e] a) a λf g a=>A.pu (Qa [x0] a) λh=>
 A.pu (Ya 1 [h] a) λi=>A.dr (Xf [i] a) a λj l a=>A.dr (Yb 4 [f,j] a) a λm n a=>A.pu (Ya 3 [m] a) λo=>A.dr (Xf [o] a) a λp q a=>
 A.pu (Qe [jv 0,jv 0] [(0,1),(1,1)] [x1,p] a) λr=>A.pu (Qa [x0] a) λs=>A.pu (Ya 3 [s] a) λt=>A.dr (Xb 2 [t,r] a) a λ_ u a=>
 A.gd (Zh [[],[],[],[2],[2,3],[2,3,4],[],[6],[6,7],[6,7,8],[2,3,4,5,6,7,8,9],[2,3,4,5,6,7,8,9,10],[2,3,4,5,6,7,8,9,10,11],[1,2,3,4,5,6,7,8,9,10,11,12],[0,1,2,3,4,5,6,7,8,9,10,11,12,13],[0,1,2,3,4,5,6,7,8,9,10,11,12,13,14],[0,1,2,3,4,5,6,7,8,9,10,11,12,13,14,15]] [([],[]),([],[]),([],[]),([],[]),([],[]),g,([],[]),([],[]),([],[]),l,n,([],[]),q,([],[]),([],[]),([],[]),u]) <|
 b (.aG []) a) (b (.aG []) a)
 |_=>A.stop
theorem vY:GQ 152 2 g152:=dR [none] λ_ _ _ _ _ _=>by kernel_rfl
def g153:aq:=λA xs d v=>match xs with
 |[x0,x1]=>
 A.wr (Xe [.str [],.bool false,jv 0,jv 0,jv 0,jv 0,jv 0,jv 0,.af,.af,.af,jv 0] [] d) d λp d=>A.k 200 [x0] d λw d=>
 A.rd (Qe [.str [],.bool false,jv 0,jv 0,jv 0,jv 0,jv 0,jv 0,.af,.af,.af,jv 0] [(11,1),(0,1)] [x1,w] d) λy=>A.wr (Xe [.str [],.bool false,jv 0,jv 0,jv 0,jv 0,jv 0,jv 0,.af,.af,.af,jv 0] [] d) d λe d=>
 A.ws (Xb 12) e y d λ_ d=>A.k 201 [x0,(.str [117,110,105,116])] d λz d=>au (λq=>A.test z (A.r (Ya 1) e d λt7=>A.ws (Xb 1) t7 (.bool true) d λ_ d=>
 A.k 202 [x0] d λt8 d=>A.r (Ya 2) e d λt9=>A.ws (Xb 1) t9 t8 d λ_ d=>A.k 202 [x0] d λa0 d=>A.r (Ya 3) e d λa1=>A.ws (Xb 1) a1 a0 d λ_ d=>
 A.k 203 [x0,(.str [47])] d λi7 d=>A.k 202 [x0] d λa2 d=>A.r (Ya 4) e d λa3=>A.ws (Xb 1) a3 a2 d λ_ d=>q [] d) (A.k 203 [x0,(.str [99,104,97,114,109])] d λi8 d=>
 A.k 202 [x0] d λa4 d=>A.r (Ya 2) e d λa5=>A.ws (Xb 1) a5 a4 d λ_ d=>q [] d)) (λv6 d=>A.k 203 [x0,(.str [123])] d λi9 d=>au (λt=>
 A.loop (λg a6 d=>A.k 150 [x0] d λj d=>A.tr j Qi x0 d λa7=>A.gw j true (λk=>A.k 151 [a7,(.str [125])] d k) d λa8 d=>A.tr j (Xp .not) a8 d λa9=>
 A.c j a9 (.bool false) d λb0=>A.test b0 (A.r Qa x0 d λb1=>A.r (Ya 0) b1 d λb2=>A.a b2 d λb3=>A.r Qa x0 d λb4=>A.r (Ya 1) b4 d λb5=>
 A.a b5 d λb6=>A.s (Yb 4) b3 b6 d λb7=>A.r (Ya 1) b7 d λb8=>A.a b8 d λh=>A.k 151 [x0,(.str [112,108,97,121,101,100])] d λb9 d=>
 A.r (Xp .not) b9 d λl=>A.tr l Qi x0 d λc0=>A.gw l true (λk=>A.k 151 [c0,(.str [100,101,97,100])] d k) d λc1 d=>A.tr l (Xp .not) c1 d λc2=>
 A.c l c2 (.bool false) d λm=>A.tr m Qi x0 d λc3=>A.gw m true (λk=>A.k 151 [c3,(.str [100,97,119,110])] d k) d λc4 d=>A.tr m (Xp .not) c4 d λc5=>
 A.c m c5 (.bool false) d λn=>A.tr n Qi x0 d λc6=>A.gw n true (λk=>A.k 151 [c6,(.str [97,117,114,97])] d k) d λc7 d=>A.tr n (Xp .not) c7 d λc8=>
 A.c n c8 (.bool false) d λo=>A.tr o Qi x0 d λc9=>A.gw o true (λk=>A.k 151 [c9,(.str [115,104,105,101,108,100])] d k) d λd0 d=>A.tr o (Xp .not) d0 d λd1=>
 A.c o d1 (.bool false) d λd2=>A.test d2 (A.k 152 [x0,jv 120] d λj0 d=>t [] d) (A.k 204 [x0,(h0 a6),h] d λi d=>A.r Qa x0 d λd3=>A.r (Ya 1) d3 d λd4=>
 A.a d4 d λd5=>A.b .add d5 (jv 1) d λd6=>A.r Qa x0 d λd7=>A.r (Ya 1) d7 d λd8=>A.ws (Xb 1) d8 d6 d λ_ d=>A.rd (Yj .eql false [h,(.str [112,108,97,121,101,100])] d) λd9=>
 A.test d9 (A.k 205 [x0] d λe0 d=>A.r (Ya 8) e d λe1=>A.ws (Xb 1) e1 e0 d λ_ d=>g [i] d) (A.rd (Yj .eql false [h,(.str [100,101,97,100])] d) λe2=>
 A.test e2 (A.k 205 [x0] d λe3 d=>A.r (Ya 9) e d λe4=>A.ws (Xb 1) e4 e3 d λ_ d=>g [i] d) (A.rd (Yj .eql false [h,(.str [100,97,119,110])] d) λe5=>
 A.test e5 (A.k 205 [x0] d λe6 d=>A.r (Ya 10) e d λe7=>A.ws (Xb 1) e7 e6 d λ_ d=>g [i] d) (A.rd (Yj .eql false [h,(.str [97,117,114,97])] d) λe8=>
 A.test e8 (A.k 202 [x0] d λe9 d=>A.r (Ya 6) e d λf0=>A.ws (Xb 1) f0 e9 d λ_ d=>A.k 203 [x0,(.str [47])] d λj1 d=>A.k 202 [x0] d λf1 d=>
 A.r (Ya 7) e d λf2=>A.ws (Xb 1) f2 f1 d λ_ d=>A.k 203 [x0,(.str [59])] d λj2 d=>g [i] d) (A.rd (Yj .eql false [h,(.str [115,104,105,101,108,100])] d) λf3=>
 A.test f3 (A.k 202 [x0] d λf4 d=>A.r (Ya 5) e d λf5=>A.ws (Xb 1) f5 f4 d λ_ d=>A.k 203 [x0,(.str [59])] d λj3 d=>g [i] d) (g [i] d))))))) (
 t [] d)) [.af] d) (λj4 d=>A.aE (.call 150) [x0] d λf f6 d=>A.gr f true (λk=>A.pu (Ya 8 [e] d) k) λf7=>A.gl f true (λk=>A.dr (Xf [f7] d) d k) d λf8 f9 d=>
 A.gl f true (λk=>A.aE (.call 206) [f8] d k) d λg0 g1 d=>A.gr f true (λk=>A.pu (Ya 9 [e] d) k) λg2=>A.gl f true (λk=>A.dr (Xf [g2] d) d k) d λg3 g4 d=>
 A.gl f true (λk=>A.aE (.call 206) [g3] d k) d λg5 g6 d=>A.gr f true (λk=>A.pu (Yj .add false [g0,g5] d) k) λg7=>A.gr f true (λk=>A.pu (Ya 10 [e] d) k) λg8=>
 A.gl f true (λk=>A.dr (Xf [g8] d) d k) d λg9 i0 d=>A.gl f true (λk=>A.aE (.call 206) [g9] d k) d λi1 i2 d=>A.gr f true (λk=>A.pu (Yj .add false [g7,i1] d) k) λi3=>
 A.gr f true (λk=>A.pu (Yj .gtr false [i3,jv 200] d) k) λi4=>A.pu (Xo [f,i4,.bool false] d) λi5=>A.gd (Zh [[],[0],[0,1],[0,1,2],[0,1,2,3],[0,1,2,3,4],[0,1,2],[0,1,2,6],[0,1,2,3,4,5,6,7],[0,1,2,3,4,5,6,7,8],[0,1,2],[0,1,2,10],[0,1,2,3,4,5,6,7,8,10,11],[0,1,2,3,4,5,6,7,8,9,10,11,12],[0,1,2,3,4,5,6,7,8,9,10,11,12,13],[0,1,2,3,4,5,6,7,8,9,10,11,12,13,14]] [([],[]),f6,([],[]),([],[]),f9,g1,([],[]),g4,g6,([],[]),([],[]),i0,i2,([],[]),([],[]),([],[])]) <|
 au (λu=>A.test i5 (A.k 152 [x0,jv 3] d λj5 d=>u [] d) (u [] d)) (λj6 d=>A.k 203 [x0,(.str [125])] d λj7 d=>A.r (Zd true 12) e d λi6=>
 A.ws (Xb 12) p i6 d λ_ d=>A.opt (av true 12 p d) λr109=>v r109 d)))
 |_=>A.stop
theorem vZ:GQ 153 2 g153:=dR [some [],some [],some [6],none,none,none,none,none,none,none,none,none,some []] λ_ _ _ _ _ _=>by kernel_rfl
def g154:aq:=λA xs d p=>match xs with
 |[x0,x1]=>
 A.wr (Xe [.str [],jv 0,jv 0,jv 0,.af,.af,jv 0] [] d) d λn d=>A.k 200 [x0] d λq d=>A.rd (Qe [.str [],jv 0,jv 0,jv 0,.af,.af,jv 0] [(6,1),(0,1)] [x1,q] d) λt=>
 A.wr (Xe [.str [],jv 0,jv 0,jv 0,.af,.af,jv 0] [] d) d λe d=>A.ws (Xb 7) e t d λ_ d=>A.k 203 [x0,(.str [123])] d λt4 d=>
 au (λo=>A.loop (λu v d=>A.k 150 [x0] d λh d=>A.tr h Qi x0 d λw=>A.gw h true (λk=>A.k 151 [w,(.str [125])] d k) d λy d=>A.tr h (Xp .not) y d λz=>
 A.c h z (.bool false) d λa0=>A.test a0 (A.r Qa x0 d λa1=>A.r (Ya 0) a1 d λa2=>A.a a2 d λa3=>A.r Qa x0 d λa4=>A.r (Ya 1) a4 d λa5=>
 A.a a5 d λa6=>A.s (Yb 4) a3 a6 d λa7=>A.r (Ya 1) a7 d λa8=>A.a a8 d λf=>A.k 151 [x0,(.str [108,101,97,115,116])] d λa9 d=>
 A.r (Xp .not) a9 d λi=>A.tr i Qi x0 d λb0=>A.gw i true (λk=>A.k 151 [b0,(.str [109,111,115,116])] d k) d λb1 d=>A.tr i (Xp .not) b1 d λb2=>
 A.c i b2 (.bool false) d λj=>A.tr j Qi x0 d λb3=>A.gw j true (λk=>A.k 151 [b3,(.str [99,111,112,105,101,115])] d k) d λb4 d=>A.tr j (Xp .not) b4 d λb5=>
 A.c j b5 (.bool false) d λl=>A.tr l Qi x0 d λb6=>A.gw l true (λk=>A.k 151 [b6,(.str [98,97,110,110,101,100])] d k) d λb7 d=>A.tr l (Xp .not) b7 d λb8=>
 A.c l b8 (.bool false) d λm=>A.tr m Qi x0 d λb9=>A.gw m true (λk=>A.k 151 [b9,(.str [115,105,110,103,108,101])] d k) d λc0 d=>A.tr m (Xp .not) c0 d λc1=>
 A.c m c1 (.bool false) d λc2=>A.test c2 (A.k 152 [x0,jv 120] d λe6 d=>o [] d) (A.k 204 [x0,(h0 v),f] d λc3 d=>A.r Qa x0 d λc4=>A.r (Ya 1) c4 d λc5=>
 A.a c5 d λc6=>A.b .add c6 (jv 1) d λc7=>A.r Qa x0 d λc8=>A.r (Ya 1) c8 d λc9=>A.ws (Xb 1) c9 c7 d λ_ d=>au (λg=>
 A.rd (Yj .eql false [f,(.str [108,101,97,115,116])] d) λd0=>A.test d0 (A.k 202 [x0] d λd1 d=>A.r (Ya 1) e d λd2=>A.ws (Xb 1) d2 d1 d λ_ d=>
 g [] d) (A.rd (Yj .eql false [f,(.str [109,111,115,116])] d) λd3=>A.test d3 (A.k 202 [x0] d λd4 d=>A.r (Ya 2) e d λd5=>A.ws (Xb 1) d5 d4 d λ_ d=>
 g [] d) (A.rd (Yj .eql false [f,(.str [99,111,112,105,101,115])] d) λd6=>A.test d6 (A.k 202 [x0] d λd7 d=>A.r (Ya 3) e d λd8=>A.ws (Xb 1) d8 d7 d λ_ d=>
 g [] d) (A.rd (Yj .eql false [f,(.str [98,97,110,110,101,100])] d) λd9=>A.test d9 (A.k 207 [x0] d λe0 d=>A.r (Ya 4) e d λe1=>A.ws (Xb 1) e1 e0 d λ_ d=>
 g [] d) (A.rd (Yj .eql false [f,(.str [115,105,110,103,108,101])] d) λe2=>A.test e2 (A.k 207 [x0] d λe3 d=>A.r (Ya 5) e d λe4=>A.ws (Xb 1) e4 e3 d λ_ d=>
 g [] d) (g [] d)))))) (λe7 d=>A.k 203 [x0,(.str [59])] d λe8 d=>u [c3] d))) (o [] d)) [.af] d) (λv6 d=>A.k 203 [x0,(.str [125])] d λe9 d=>A.r (Zd true 7) e d λe5=>
 A.ws (Xb 7) n e5 d λ_ d=>A.opt (av true 7 n d) λr69=>p r69 d)
 |_=>A.stop
theorem v_:GQ 154 2 g154:=dR [some [],some [6],none,none,none,some [],none,none,none,none,none] λ_ _ _ _ _ _=>by kernel_rfl
def g155:aq:=λA xs c f=>match xs with
 |[x0,x1]=>
 A.r Qa x0 c λh=>A.r (Ya 8) h c λi=>A.a i c λj=>A.r Qa x0 c λl=>A.r (Ya 9) l c λm=>A.a m c λn=>A.r Qa x0 c λo=>
 A.r (Ya 10) o c λp=>A.a p c λq=>A.rd (Qe [.af,.af,.af] [(0,1),(1,1),(2,1)] [j,n,q] c) λt=>A.loop (λu d c=>A.b .lss (h0 d) (jv 3) c λv=>
 A.test v (A.s (tE false 3 1) t (h0 d) c λg=>A.r Yf g c λw=>A.loop (λy e c=>A.b .lss (h0 e) w c λz=>A.test z (A.s (Yb 14) g (h0 e) c λa0=>
 A.rd (Qe [.bQ] [(0,1)] [a0] c) λa1=>A.r (YC 272) a1 c λa2=>A.k 208 [a2,x1] c λa3 c=>A.r (Xp .not) a3 c λa4=>A.test a4 (f (.aG []) c) (
 A.b .add (h0 e) (jv 1) c λa5=>y [a5] c)) (A.b .add (h0 d) (jv 1) c λa6=>u [a6] c)) [jv 0] c) (f (.aG []) c)) [jv 0] c
 |_=>A.stop
theorem ot:GQ 155 2 g155:=dR [none,some [20],none,none,none,some [25],none,none,none] λ_ _ _ _ _ _=>by kernel_rfl
def g156:aq:=λA xs c d=>match xs with
 |[x0,x1]=>
 A.a x1 c λe=>A.b .add e (jv 1) c λf=>A.ws (Xb 1) x1 f c λ_ c=>A.a x1 c λg=>A.b .lss g (jv 1073741824) c λh=>d h c
 |_=>A.stop
theorem ou:GQ 156 2 g156:=dR [] λ_ _ _ _ _ _=>by kernel_rfl
def g157:aq:=λA xs d t=>match xs with
 |[x0,x1,x2]=>
 A.r Yf x1 d λt0=>A.b .gtr t0 (jv 16) d λu=>A.fr u Qi x2 d λt2=>A.fb u .gtr t2 (jv 8) d λt3=>A.c u (.bool true) t3 d λt4=>A.test t4 (t (.bool false) d) (
 A.r Yf x1 d λt5=>A.loop (λa4 v d=>A.b .lss (h0 v) t5 d λt8=>A.test t8 (A.s (Yb 14) x1 (h0 v) d λf=>A.k 209 [f] d λh d=>A.tr h Qi f d λa5=>
 A.tr h Qa a5 d λa6=>A.tr h (Ya 0) a6 d λa7=>A.ta h a7 d λa8=>A.gw h true (λk=>A.k 210 [a8] d k) d λa9 d=>A.tr h (Xp .not) a9 d λb0=>
 A.tr h Qi b0 d λn=>A.fr n Qi x0 d λb1=>A.fr n Qi f d λb2=>A.fr n Qa b2 d λb3=>A.fr n (Ya 2) b3 d λb4=>A.gw n false (λk=>A.k 211 [b1,b4] d k) d λb5 d=>
 A.tc h n (.bool true) b5 d λb6=>A.c h b6 (.bool false) d λe=>A.r Qa f d λb7=>A.r (Ya 0) b7 d λb8=>A.a b8 d λi=>au (λp=>
 A.b .eql i (.int .i8 0) d λy=>au (λz=>A.test y (z [y] d) (A.b .eql i (.int .i8 1) d λb9=>z [b9] d)) (λc0 d=>A.test (h0 c0) (A.tr e Qi f d λc1=>
 A.tr e Qa c1 d λc2=>A.tr e (Ya 1) c2 d λc3=>A.ta e c3 d λc4=>A.gw e true (λk=>A.k 212 [c4] d k) d λc5 d=>A.tr e Qi c5 d λm=>
 A.fr m Qi f d λc6=>A.fr m Qa c6 d λc7=>A.fr m (Ya 1) c7 d λc8=>A.fa m c8 d λc9=>A.fb m .eql c9 (.int .i8 2) d λd0=>A.fr m Qi d0 d λq=>
 A.tr q Qi x0 d λd1=>A.tr q Qa d1 d λd2=>A.tr q (Ya 1) d2 d λd3=>A.ta q d3 d λd4=>A.fc m q d4 (.bool false) d λd5=>A.tc e m (.bool true) d5 d λd6=>
 A.c e d6 (.bool false) d λd7=>p [d7] d) (A.b .eql i (.int .i8 2) d λa0=>au (λw=>A.test a0 (w [a0] d) (A.b .eql i (.int .i8 4) d λa1=>A.test a1 (
 w [a1] d) (A.b .eql i (.int .i8 6) d λd8=>w [d8] d))) (λd9 d=>A.test (h0 d9) (A.tr e Qi f d λe0=>A.tr e Qa e0 d λe1=>A.tr e (Ya 1) e1 d λe2=>
 A.ta e e2 d λe3=>A.gw e true (λk=>A.k 212 [e3] d k) d λe4 d=>A.c e e4 (.bool false) d λe5=>p [e5] d) (A.b .eql i (.int .i8 3) d λa2=>au (λa3=>
 A.test a2 (a3 [a2] d) (A.b .eql i (.int .i8 5) d λe6=>a3 [e6] d)) (λe7 d=>A.test (h0 e7) (A.tr e Qi f d λe8=>A.tr e Qa e8 d λe9=>A.tr e (Ya 1) e9 d λf0=>
 A.ta e f0 d λf1=>A.tb e .eql f1 (.int .i8 0) d λf2=>A.c e f2 (.bool false) d λf3=>p [f3] d) (A.b .eql i (.int .i8 7) d λf4=>A.test f4 (A.tr e Qi f d λf5=>
 A.tr e Qa f5 d λf6=>A.tr e (Ya 1) f6 d λf7=>A.ta e f7 d λf8=>A.tb e .eql f8 (.int .i8 0) d λf9=>A.c e f9 (.bool false) d λg=>
 A.tr g Qi x0 d λg0=>A.tr g Qa g0 d λg1=>A.tr g (Ya 0) g1 d λg2=>A.ta g g2 d λg3=>A.tr g Qi f d λg4=>A.tr g Qa g4 d λg5=>
 A.tr g (Ya 6) g5 d λg6=>A.ta g g6 d λg7=>A.ts g (Qr true false (.bool false)) g3 g7 d λg8=>A.c g g8 (.bool false) d λg9=>p [g9] d) (
 A.b .eql i (.int .i8 8) d λi0=>A.test i0 (A.tr e Qi f d λi1=>A.tr e Qa i1 d λi2=>A.tr e (Ya 1) i2 d λi3=>A.ta e i3 d λi4=>
 A.tb e .eql i4 (.int .i8 0) d λi5=>A.c e i5 (.bool false) d λo=>A.tr o Qi x0 d λi6=>A.tr o Qi f d λi7=>A.tr o Qa i7 d λi9=>A.tr o (Ya 7) i9 d λj0=>
 A.gw o true (λk=>A.k 213 [i6,j0] d k) d λj1 d=>A.c o j1 (.bool false) d λj=>A.tr j Qi x0 d λj2=>A.tr j Qi f d λj3=>A.tr j Qa j3 d λj4=>
 A.tr j (Ya 12) j4 d λj5=>A.ta j j5 d λj6=>A.tr j Qi x2 d λj7=>A.tb j .add j7 (jv 1) d λj8=>A.gw j true (λk=>A.k 157 [j2,j6,j8] d k) d λj9 d=>
 A.c j j9 (.bool false) d λl=>A.tr l Qi x0 d λl0=>A.tr l Qi f d λl1=>A.tr l Qa l1 d λl2=>A.tr l (Ya 13) l2 d λl3=>A.ta l l3 d λl4=>
 A.tr l Qi x2 d λl5=>A.tb l .add l5 (jv 1) d λl6=>A.gw l true (λk=>A.k 157 [l0,l4,l6] d k) d λl7 d=>A.c l l7 (.bool false) d λl8=>p [l8] d) (
 t (.bool false) d))))))))) (λl9 d=>A.r (Xp .not) (h0 l9) d λm0=>A.test m0 (t (.bool false) d) (A.b .add (h0 v) (jv 1) d λm1=>a4 [m1] d))) (t (.bool true) d)) [jv 0] d)
 |_=>A.stop
theorem gb:GQ 157 3 g157:=jN [none,none,some [19],none,none,some [9],some [46],none,some [70],none,none,some [82],none,none,none,none] λ_ _ _ _ _ _ _=>by kernel_rfl
def g163:aq:=λA xs a f=>match xs with
 |[x0,x1,x2]=>
 A.b .add x1 (jv 1) a λg=>A.loop (λh e a=>A.b .lss (h0 e) x2 a λi=>A.test i (A.loop (λj d a=>A.pu (Yj .gtr false [(h0 d),x1] a) λc=>A.gr c true (λk=>A.pu (Qi [x0] a) k) λl=>
 A.gr c true (λk=>A.pu (Qi [(h0 d)] a) k) λm=>A.gl c true (λk=>A.dr (Yb 1 [l,m] a) a k) a λn o a=>A.gl c true (λk=>A.dr (Xf [n] a) a k) a λp q a=>
 A.gr c true (λk=>A.pu (Qi [x0] a) k) λr=>A.gr c true (λk=>A.pu (Qi [(h0 d)] a) k) λs=>A.gr c true (λk=>A.pu (Yj .sub false [s,jv 1] a) k) λt=>
 A.gl c true (λk=>A.dr (Yb 1 [r,t] a) a k) a λu v a=>A.gl c true (λk=>A.dr (Xf [u] a) a k) a λw y a=>A.gl c true (λk=>A.aE (.call 169) [p,w] a k) a λz a0 a=>
 A.pu (Xo [c,z,.bool false] a) λa1=>A.gd (Zh [[],[],[0,1],[0,1,2],[0,1,2,3],[0,1,2,3],[0,1,2,3,4,5],[0,1,2,3,4,5,6],[0,1,2,3],[0,1,2,3],[0,1,2,3,9],[0,1,2,3,8,9,10],[0,1,2,3,8,9,10,11],[0,1,2,3,4,5,6,7,8,9,10,11,12],[0,1,2,3,4,5,6,7,8,9,10,11,12,13]] [([],[]),([],[]),([],[]),([],[]),([],[]),([],[]),o,q,([],[]),([],[]),([],[]),v,y,a0,([],[])]) <|
 A.test a1 (A.pu (Yj .sub false [(h0 d),jv 1] a) λa2=>A.pu (Yj .sub false [(h0 d),jv 1] a) λa3=>A.dr (Yb 1 [x0,a3] a) a λa4 a5 a=>
 A.dr (Xf [a4] a) a λa6 a7 a=>A.dr (Yb 1 [x0,(h0 d)] a) a λa8 a9 a=>A.dr (Xf [a8] a) a λb0 b1 a=>A.dr (Yb 1 [x0,(h0 d)] a) a λb2 b3 a=>
 A.dr (Xb 1 [b2,a6] a) a λ_ b4 a=>A.dr (Yb 1 [x0,a2] a) a λb5 b6 a=>A.dr (Xb 1 [b5,b0] a) a λ_ b7 a=>A.gd (Zh [[],[],[],[],[3],[],[],[6],[5,6,7],[5,6,7,8],[],[],[10,11],[10,11,12],[0,1,5,6,7,8,9,10,11,12,13],[0,1,5,6,7,8,9,10,11,12,13,14],[0,1,2,3,4,5,6,7,8,9,10,11,12,13,14,15],[0,1,2,3,4,5,6,7,8,9,10,11,12,13,14,15,16]] [([],[]),([],[]),([],[]),([],[]),([],[]),([],[]),([],[]),([],[]),a5,a7,([],[]),([],[]),a9,b1,b3,b4,b6,b7]) <|
 A.b .sub (h0 d) (jv 1) a λb8=>j [b8] a) (A.b .add (h0 e) (jv 1) a λb9=>h [b9] a)) [(h0 e)] a) (f (.aG []) a)) [g] a
 |_=>A.stop
theorem wa:GQ 163 3 g163:=jN [none,some [6],none,none,none,some [7],none,none] λ_ _ _ _ _ _ _=>by kernel_rfl
def g164:aq:=λA xs a f=>match xs with
 |[x0,x1,x2]=>
 A.b .sub x2 x1 a λd=>A.b .sub d (jv 1) a λg=>A.b .quo g (jv 2) a λh=>A.loop (λi e a=>A.b .geq (h0 e) (jv 0) a λj=>A.test j (A.k 215 [x0,(h0 e),d,x1] a λt6 a=>
 A.b .sub (h0 e) (jv 1) a λl=>i [l] a) (A.b .sub d (jv 1) a λm=>A.loop (λn c a=>A.b .geq (h0 c) (jv 0) a λo=>A.test o (A.pu (Yj .add false [x1,(h0 c)] a) λp=>
 A.pu (Yj .add false [x1,(h0 c)] a) λq=>A.dr (Yb 1 [x0,q] a) a λr s a=>A.dr (Xf [r] a) a λt u a=>A.dr (Yb 1 [x0,x1] a) a λv w a=>
 A.dr (Xf [v] a) a λy z a=>A.dr (Yb 1 [x0,x1] a) a λa0 a1 a=>A.dr (Xb 1 [a0,t] a) a λ_ a2 a=>A.dr (Yb 1 [x0,p] a) a λa3 a4 a=>
 A.dr (Xb 1 [a3,y] a) a λ_ a5 a=>A.gd (Zh [[],[],[],[],[],[3,4],[],[],[],[7,8],[6,7,8,9],[6,7,8,9,10],[],[],[12,13],[12,13,14],[0,1,6,7,8,9,10,11,12,13,14,15],[0,1,6,7,8,9,10,11,12,13,14,15,16],[0,1,2,3,4,5,6,7,8,9,10,11,12,13,14,15,16,17],[0,1,2,3,4,5,6,7,8,9,10,11,12,13,14,15,16,17,18]] [([],[]),([],[]),([],[]),([],[]),([],[]),([],[]),([],[]),([],[]),([],[]),([],[]),s,u,([],[]),([],[]),w,z,a1,a2,a4,a5]) <|
 A.k 215 [x0,jv 0,(h0 c),x1] a λa7 a=>A.b .sub (h0 c) (jv 1) a λa6=>n [a6] a) (f (.aG []) a)) [m] a)) [h] a
 |_=>A.stop
theorem wb:GQ 164 3 g164:=jN [none,some [9],none,none,none,some [10],none,none] λ_ _ _ _ _ _ _=>by kernel_rfl
def g165:aq:=λA xs a f=>match xs with
 |[x0,x1,x2]=>
 A.b .sub x2 x1 a λc=>A.b .geq c (jv 8) a λj=>A.test j (A.r (ZJ .u64) c a λl=>A.wr (Xe [.int .u64 0] [] a) a λg a=>A.ws (Xb 1) g l a λ_ a=>
 A.k 216 [c] a λm a=>A.b .quo c (jv 4) a λn=>A.b .mul n (jv 2) a λo=>A.b .add x1 o a λp=>A.b .sub p (jv 1) a λq=>A.loop (λs d a=>A.b .quo c (jv 4) a λt=>
 A.b .mul t (jv 2) a λu=>A.b .add x1 u a λv=>A.b .add v (jv 1) a λw=>A.b .leq (h0 d) w a λy=>A.test y (A.k 217 [g] a λz a=>A.b .sub m (.int .u64 1) a λa0=>
 A.b .and z a0 a λa1=>A.r (ZJ .i64) a1 a λe=>A.b .geq e c a λa2=>au (λh=>A.test a2 (A.b .sub e c a λa3=>h [a3] a) (h [e] a)) (λi a=>
 A.pu (Yj .add false [x1,(h0 i)] a) λa4=>A.pu (Yj .add false [x1,(h0 i)] a) λa5=>A.dr (Yb 1 [x0,a5] a) a λa6 a7 a=>A.dr (Xf [a6] a) a λa8 a9 a=>
 A.dr (Yb 1 [x0,(h0 d)] a) a λb0 b1 a=>A.dr (Xf [b0] a) a λb2 b3 a=>A.dr (Yb 1 [x0,(h0 d)] a) a λb4 b5 a=>A.dr (Xb 1 [b4,a8] a) a λ_ b6 a=>
 A.dr (Yb 1 [x0,a4] a) a λb7 b8 a=>A.dr (Xb 1 [b7,b2] a) a λ_ b9 a=>A.gd (Zh [[],[],[],[],[],[3,4],[],[],[],[7,8],[6,7,8,9],[6,7,8,9,10],[],[],[12,13],[12,13,14],[0,1,6,7,8,9,10,11,12,13,14,15],[0,1,6,7,8,9,10,11,12,13,14,15,16],[0,1,2,3,4,5,6,7,8,9,10,11,12,13,14,15,16,17],[0,1,2,3,4,5,6,7,8,9,10,11,12,13,14,15,16,17,18]] [([],[]),([],[]),([],[]),([],[]),([],[]),([],[]),([],[]),([],[]),([],[]),([],[]),a7,a9,([],[]),([],[]),b1,b3,b5,b6,b8,b9]) <|
 A.b .add (h0 d) (jv 1) a λc0=>s [c0] a)) (f (.aG []) a)) [q] a) (f (.aG []) a)
 |_=>A.stop
theorem wc:GQ 165 3 g165:=jN [none,none,some [9],none,none,some [10]] λ_ _ _ _ _ _ _=>by kernel_rfl
def g166:aq:=λA xs c f=>match xs with
 |[x0,x1,x2]=>
 A.b .sub x2 x1 c λd=>A.wr (Xe [jv 0] [] c) c λe c=>A.b .quo d (jv 4) c λp=>A.b .mul p (jv 1) c λq=>A.b .add x1 q c λj=>A.b .quo d (jv 4) c λr=>
 A.b .mul r (jv 2) c λs=>A.b .add x1 s c λg=>A.b .quo d (jv 4) c λt=>A.b .mul t (jv 3) c λu=>A.b .add x1 u c λl=>A.b .geq d (jv 8) c λv=>
 au (λm=>A.test v (A.b .geq d (jv 50) c λw=>au (λn=>A.test w (A.k 218 [x0,j,e] c λy c=>A.k 218 [x0,g,e] c λz c=>A.k 218 [x0,l,e] c λa0 c=>
 n [y,z,a0] c) (n [j,g,l] c)) (λh c=>A.k 219 [x0,(h0 h),(h1 h),(h2 h),e] c λa1 c=>m [a1] c)) (m [g] c)) (λi c=>A.a e c λo=>A.b .eql o (jv 0) c λa2=>
 A.test a2 (f (.aG [(h0 i),jv 1]) c) (A.b .eql o (jv 12) c λa3=>A.test a3 (f (.aG [(h0 i),jv 2]) c) (f (.aG [(h0 i),jv 0]) c)))
 |_=>A.stop
theorem we:GQ 166 3 g166:=jN [some [11],some [10,11,12],none,none,none] λ_ _ _ _ _ _ _=>by kernel_rfl
def g167:aq:=λA xs a d=>match xs with
 |[x0,x1,x2]=>
 A.b .sub x2 (jv 1) a λe=>A.loop (λf c a=>A.b .lss (h0 c) (h1 c) a λg=>A.test g (A.dr (Yb 1 [x0,(h1 c)] a) a λh i a=>A.dr (Xf [h] a) a λj l a=>
 A.dr (Yb 1 [x0,(h0 c)] a) a λm n a=>A.dr (Xf [m] a) a λo p a=>A.dr (Yb 1 [x0,(h0 c)] a) a λq r a=>A.dr (Xb 1 [q,j] a) a λ_ s a=>
 A.dr (Yb 1 [x0,(h1 c)] a) a λt u a=>A.dr (Xb 1 [t,o] a) a λ_ v a=>A.gd (Zh [[],[],[],[],[],[],[4,5],[4,5,6],[],[],[8,9],[8,9,10],[0,1,4,5,6,7,8,9,10,11],[0,1,4,5,6,7,8,9,10,11,12],[0,1,2,3,4,5,6,7,8,9,10,11,12,13],[0,1,2,3,4,5,6,7,8,9,10,11,12,13,14]] [([],[]),([],[]),([],[]),([],[]),([],[]),([],[]),i,l,([],[]),([],[]),n,p,r,s,u,v]) <|
 A.b .add (h0 c) (jv 1) a λw=>A.b .sub (h1 c) (jv 1) a λy=>f [w,y] a) (d (.aG []) a)) [x1,e] a
 |_=>A.stop
theorem wg:GQ 167 3 g167:=jN [none,some [6,7],none,none] λ_ _ _ _ _ _ _=>by kernel_rfl
def g168:aq:=λA xs a g=>match xs with
 |[x0,x1,x2]=>
 A.b .add x1 (jv 1) a λl=>A.loop (λm h a=>A.b .lss (h0 h) (jv 5) a λn=>A.test n (au (λi=>A.loop (λo c a=>A.pu (Yj .lss false [(h0 c),x2] a) λd=>
 A.gr d true (λk=>A.pu (Qi [x0] a) k) λp=>A.gr d true (λk=>A.pu (Qi [(h0 c)] a) k) λq=>A.gl d true (λk=>A.dr (Yb 1 [p,q] a) a k) a λr s a=>
 A.gl d true (λk=>A.dr (Xf [r] a) a k) a λt u a=>A.gr d true (λk=>A.pu (Qi [x0] a) k) λv=>A.gr d true (λk=>A.pu (Qi [(h0 c)] a) k) λw=>
 A.gr d true (λk=>A.pu (Yj .sub false [w,jv 1] a) k) λy=>A.gl d true (λk=>A.dr (Yb 1 [v,y] a) a k) a λz a0 a=>A.gl d true (λk=>A.dr (Xf [z] a) a k) a λa1 a2 a=>
 A.gl d true (λk=>A.aE (.call 169) [t,a1] a k) a λa3 a4 a=>A.gr d true (λk=>A.pu (Xp .not [a3] a) k) λa5=>A.pu (Xo [d,a5,.bool false] a) λa6=>
 A.gd (Zh [[],[],[0,1],[0,1,2],[0,1,2,3],[0,1,2,3],[0,1,2,3,4,5],[0,1,2,3,4,5,6],[0,1,2,3],[0,1,2,3],[0,1,2,3,9],[0,1,2,3,8,9,10],[0,1,2,3,8,9,10,11],[0,1,2,3,4,5,6,7,8,9,10,11,12],[0,1,2,3,4,5,6,7,8,9,10,11,12,13],[0,1,2,3,4,5,6,7,8,9,10,11,12,13,14]] [([],[]),([],[]),([],[]),([],[]),([],[]),([],[]),s,u,([],[]),([],[]),([],[]),a0,a2,a4,([],[]),([],[])]) <|
 A.test a6 (A.b .add (h0 c) (jv 1) a λa7=>o [a7] a) (A.b .eql (h0 c) x2 a λa8=>A.test a8 (g (.bool true) a) (A.b .sub x2 x1 a λa9=>A.b .lss a9 (jv 50) a λb0=>
 A.test b0 (g (.bool false) a) (A.pu (Yj .sub false [(h0 c),jv 1] a) λb1=>A.pu (Yj .sub false [(h0 c),jv 1] a) λb2=>A.dr (Yb 1 [x0,b2] a) a λb3 b4 a=>
 A.dr (Xf [b3] a) a λb5 b6 a=>A.dr (Yb 1 [x0,(h0 c)] a) a λb7 b8 a=>A.dr (Xf [b7] a) a λb9 c0 a=>A.dr (Yb 1 [x0,(h0 c)] a) a λc1 c2 a=>
 A.dr (Xb 1 [c1,b5] a) a λ_ c3 a=>A.dr (Yb 1 [x0,b1] a) a λc4 c5 a=>A.dr (Xb 1 [c4,b9] a) a λ_ c6 a=>A.gd (Zh [[],[],[],[],[3],[],[],[6],[5,6,7],[5,6,7,8],[],[],[10,11],[10,11,12],[0,1,5,6,7,8,9,10,11,12,13],[0,1,5,6,7,8,9,10,11,12,13,14],[0,1,2,3,4,5,6,7,8,9,10,11,12,13,14,15],[0,1,2,3,4,5,6,7,8,9,10,11,12,13,14,15,16]] [([],[]),([],[]),([],[]),([],[]),([],[]),([],[]),([],[]),([],[]),b4,b6,([],[]),([],[]),b8,c0,c2,c3,c5,c6]) <|
 A.b .sub (h0 c) x1 a λc7=>A.b .geq c7 (jv 2) a λc8=>au (λj=>A.test c8 (A.b .sub (h0 c) (jv 1) a λc9=>A.loop (λd0 e a=>A.b .geq (h0 e) (jv 1) a λd1=>
 A.test d1 (A.dr (Yb 1 [x0,(h0 e)] a) a λd2 d3 a=>A.dr (Xf [d2] a) a λd4 d5 a=>A.pu (Yj .sub false [(h0 e),jv 1] a) λd6=>A.dr (Yb 1 [x0,d6] a) a λd7 d8 a=>
 A.dr (Xf [d7] a) a λd9 e0 a=>A.aE (.call 169) [d4,d9] a λe1 e2 a=>A.pu (Xp .not [e1] a) λe3=>A.gd (Zh [[],[],[0,1],[0,1,2],[],[],[5],[4,5,6],[4,5,6,7],[0,1,2,3,4,5,6,7,8],[0,1,2,3,4,5,6,7,8,9]] [([],[]),([],[]),d3,d5,([],[]),([],[]),([],[]),d8,e0,e2,([],[])]) <|
 A.test e3 (j [] a) (A.pu (Yj .sub false [(h0 e),jv 1] a) λe4=>A.pu (Yj .sub false [(h0 e),jv 1] a) λe5=>A.dr (Yb 1 [x0,e5] a) a λe6 e7 a=>
 A.dr (Xf [e6] a) a λe8 e9 a=>A.dr (Yb 1 [x0,(h0 e)] a) a λf0 f1 a=>A.dr (Xf [f0] a) a λf2 f3 a=>A.dr (Yb 1 [x0,(h0 e)] a) a λf4 f5 a=>
 A.dr (Xb 1 [f4,e8] a) a λ_ f6 a=>A.dr (Yb 1 [x0,e4] a) a λf7 f8 a=>A.dr (Xb 1 [f7,f2] a) a λ_ f9 a=>A.gd (Zh [[],[],[],[],[3],[],[],[6],[5,6,7],[5,6,7,8],[],[],[10,11],[10,11,12],[0,1,5,6,7,8,9,10,11,12,13],[0,1,5,6,7,8,9,10,11,12,13,14],[0,1,2,3,4,5,6,7,8,9,10,11,12,13,14,15],[0,1,2,3,4,5,6,7,8,9,10,11,12,13,14,15,16]] [([],[]),([],[]),([],[]),([],[]),([],[]),([],[]),([],[]),([],[]),e7,e9,([],[]),([],[]),f1,f3,f5,f6,f8,f9]) <|
 A.b .sub (h0 e) (jv 1) a λg0=>d0 [g0] a)) (j [] a)) [c9] a) (j [] a)) (λl6 a=>A.b .sub x2 (h0 c) a λg1=>A.b .geq g1 (jv 2) a λg2=>A.test g2 (A.b .add (h0 c) (jv 1) a λg3=>
 A.loop (λg4 f a=>A.b .lss (h0 f) x2 a λg5=>A.test g5 (A.dr (Yb 1 [x0,(h0 f)] a) a λg6 g7 a=>A.dr (Xf [g6] a) a λg8 g9 a=>A.pu (Yj .sub false [(h0 f),jv 1] a) λi0=>
 A.dr (Yb 1 [x0,i0] a) a λi1 i2 a=>A.dr (Xf [i1] a) a λi3 i4 a=>A.aE (.call 169) [g8,i3] a λi5 i6 a=>A.pu (Xp .not [i5] a) λi7=>
 A.gd (Zh [[],[],[0,1],[0,1,2],[],[],[5],[4,5,6],[4,5,6,7],[0,1,2,3,4,5,6,7,8],[0,1,2,3,4,5,6,7,8,9]] [([],[]),([],[]),g7,g9,([],[]),([],[]),([],[]),i2,i4,i6,([],[])]) <|
 A.test i7 (i [(h0 c)] a) (A.pu (Yj .sub false [(h0 f),jv 1] a) λi8=>A.pu (Yj .sub false [(h0 f),jv 1] a) λi9=>A.dr (Yb 1 [x0,i9] a) a λj0 j1 a=>
 A.dr (Xf [j0] a) a λj2 j3 a=>A.dr (Yb 1 [x0,(h0 f)] a) a λj4 j5 a=>A.dr (Xf [j4] a) a λj6 j7 a=>A.dr (Yb 1 [x0,(h0 f)] a) a λj8 j9 a=>
 A.dr (Xb 1 [j8,j2] a) a λ_ l0 a=>A.dr (Yb 1 [x0,i8] a) a λl1 l2 a=>A.dr (Xb 1 [l1,j6] a) a λ_ l3 a=>A.gd (Zh [[],[],[],[],[3],[],[],[6],[5,6,7],[5,6,7,8],[],[],[10,11],[10,11,12],[0,1,5,6,7,8,9,10,11,12,13],[0,1,5,6,7,8,9,10,11,12,13,14],[0,1,2,3,4,5,6,7,8,9,10,11,12,13,14,15],[0,1,2,3,4,5,6,7,8,9,10,11,12,13,14,15,16]] [([],[]),([],[]),([],[]),([],[]),([],[]),([],[]),([],[]),([],[]),j1,j3,([],[]),([],[]),j5,j7,j9,l0,l2,l3]) <|
 A.b .add (h0 f) (jv 1) a λl4=>g4 [l4] a)) (i [(h0 c)] a)) [g3] a) (i [(h0 c)] a)))))) [(h1 h)] a) (λv5 a=>A.b .add (h0 h) (jv 1) a λl5=>m [l5,(h0 v5)] a)) (
 g (.bool false) a)) [jv 0,l] a
 |_=>A.stop
theorem wh:GQ 168 3 g168:=jN [none,some [8,7],none,some [7],none,some [7],none,none,none,none,some [],none,some [9],none,none,none,none,none,some [10],none,none,none] λ_ _ _ _ _ _ _=>by kernel_rfl
def g169:aq:=λA xs a e=>match xs with
 |[x0,x1]=>
 A.k 220 [x0] a λb a=>A.tr b Qi x1 a λf=>A.gw b true (λk=>A.k 220 [f] a k) a λg a=>A.tr b (Xp .not) g a λh=>A.c b h (.bool false) a λd=>
 A.fr d Qi x0 a λi=>A.fr d Qi x1 a λj=>A.fb d .lss i j a λl=>A.c d (.bool true) l a λm=>e m a
 |_=>A.stop
theorem wi:GQ 169 2 g169:=dR [] λ_ _ _ _ _ _=>by kernel_rfl
def g170:aq:=λA xs a h=>match xs with
 |[x0,x1,x2,x3]=>
 A.dr (Yb 1 [x0,x3] a) a λi j a=>A.dr (Xf [i] a) a λl m a=>A.dr (Yb 1 [x0,x1] a) a λn o a=>A.dr (Xf [n] a) a λp q a=>
 A.dr (Yb 1 [x0,x1] a) a λr s a=>A.dr (Xb 1 [r,l] a) a λ_ t a=>A.dr (Yb 1 [x0,x3] a) a λu v a=>A.dr (Xb 1 [u,p] a) a λ_ w a=>
 A.gd (Zh [[],[],[],[],[],[],[4,5],[4,5,6],[],[],[8,9],[8,9,10],[0,1,4,5,6,7,8,9,10,11],[0,1,4,5,6,7,8,9,10,11,12],[0,1,2,3,4,5,6,7,8,9,10,11,12,13],[0,1,2,3,4,5,6,7,8,9,10,11,12,13,14]] [([],[]),([],[]),([],[]),([],[]),([],[]),([],[]),j,m,([],[]),([],[]),o,q,s,t,v,w]) <|
 A.b .add x1 (jv 1) a λy=>A.b .sub x2 (jv 1) a λz=>A.loop (λa0 g a=>A.loop (λa1 e a=>A.pu (Yj .leq false [(h0 e),(h1 g)] a) λc=>A.gr c true (λk=>A.pu (Qi [x0] a) k) λa2=>
 A.gr c true (λk=>A.pu (Qi [x1] a) k) λa3=>A.gl c true (λk=>A.dr (Yb 1 [a2,a3] a) a k) a λa4 a5 a=>A.gl c true (λk=>A.dr (Xf [a4] a) a k) a λa6 a7 a=>
 A.gr c true (λk=>A.pu (Qi [x0] a) k) λa8=>A.gr c true (λk=>A.pu (Qi [(h0 e)] a) k) λa9=>A.gl c true (λk=>A.dr (Yb 1 [a8,a9] a) a k) a λb0 b1 a=>
 A.gl c true (λk=>A.dr (Xf [b0] a) a k) a λb2 b3 a=>A.gl c true (λk=>A.aE (.call 169) [a6,b2] a k) a λb4 b5 a=>A.gr c true (λk=>A.pu (Xp .not [b4] a) k) λb6=>
 A.pu (Xo [c,b6,.bool false] a) λb7=>A.gd (Zh [[],[],[0,1],[0,1,2],[0,1,2,3],[0,1,2,3],[0,1,2,3,4,5],[0,1,2,3,4,5,6],[0,1,2,3],[0,1,2,3],[0,1,2,3,8,9],[0,1,2,3,8,9,10],[0,1,2,3,4,5,6,7,8,9,10,11],[0,1,2,3,4,5,6,7,8,9,10,11,12],[0,1,2,3,4,5,6,7,8,9,10,11,12,13]] [([],[]),([],[]),([],[]),([],[]),([],[]),([],[]),a5,a7,([],[]),([],[]),b1,b3,b5,([],[]),([],[])]) <|
 A.test b7 (A.b .add (h0 e) (jv 1) a λb8=>a1 [b8] a) (A.loop (λb9 f a=>A.pu (Yj .leq false [(h0 e),(h0 f)] a) λd=>A.gr d true (λk=>A.pu (Qi [x0] a) k) λc0=>
 A.gr d true (λk=>A.pu (Qi [x1] a) k) λc1=>A.gl d true (λk=>A.dr (Yb 1 [c0,c1] a) a k) a λc2 c3 a=>A.gl d true (λk=>A.dr (Xf [c2] a) a k) a λc4 c5 a=>
 A.gr d true (λk=>A.pu (Qi [x0] a) k) λc6=>A.gr d true (λk=>A.pu (Qi [(h0 f)] a) k) λc7=>A.gl d true (λk=>A.dr (Yb 1 [c6,c7] a) a k) a λc8 c9 a=>
 A.gl d true (λk=>A.dr (Xf [c8] a) a k) a λd0 d1 a=>A.gl d true (λk=>A.aE (.call 169) [c4,d0] a k) a λd2 d3 a=>A.pu (Xo [d,d2,.bool false] a) λd4=>
 A.gd (Zh [[],[],[0,1],[0,1,2],[0,1,2,3],[0,1,2,3],[0,1,2,3,4,5],[0,1,2,3,4,5,6],[0,1,2,3],[0,1,2,3],[0,1,2,3,8,9],[0,1,2,3,8,9,10],[0,1,2,3,4,5,6,7,8,9,10,11],[0,1,2,3,4,5,6,7,8,9,10,11,12]] [([],[]),([],[]),([],[]),([],[]),([],[]),([],[]),c3,c5,([],[]),([],[]),c9,d1,d3,([],[])]) <|
 A.test d4 (A.b .sub (h0 f) (jv 1) a λd5=>b9 [d5] a) (A.b .gtr (h0 e) (h0 f) a λd6=>A.test d6 (h (h0 e) a) (A.dr (Yb 1 [x0,(h0 f)] a) a λd7 d8 a=>
 A.dr (Xf [d7] a) a λd9 e0 a=>A.dr (Yb 1 [x0,(h0 e)] a) a λe1 e2 a=>A.dr (Xf [e1] a) a λe3 e4 a=>A.dr (Yb 1 [x0,(h0 e)] a) a λe5 e6 a=>
 A.dr (Xb 1 [e5,d9] a) a λ_ e7 a=>A.dr (Yb 1 [x0,(h0 f)] a) a λe8 e9 a=>A.dr (Xb 1 [e8,e3] a) a λ_ f0 a=>A.gd (Zh [[],[],[],[],[],[],[4,5],[4,5,6],[],[],[8,9],[8,9,10],[0,1,4,5,6,7,8,9,10,11],[0,1,4,5,6,7,8,9,10,11,12],[0,1,2,3,4,5,6,7,8,9,10,11,12,13],[0,1,2,3,4,5,6,7,8,9,10,11,12,13,14]] [([],[]),([],[]),([],[]),([],[]),([],[]),([],[]),d8,e0,([],[]),([],[]),e2,e4,e6,e7,e9,f0]) <|
 A.b .add (h0 e) (jv 1) a λf1=>A.b .sub (h0 f) (jv 1) a λf2=>a0 [f1,f2] a))) [(h1 g)] a)) [(h0 g)] a) [y,z] a
 |_=>A.stop
theorem wj:GQ 170 4 g170:=vt [none,some [9,10],none,none,some [9],none,none,none,some [10],none,none,none] λ_ _ _ _ _ _ _ _=>by kernel_rfl
def g171:aq:=λA xs a m=>match xs with
 |[x0,x1,x2,x3]=>
 A.dr (Yb 1 [x0,x3] a) a λo p a=>A.dr (Xf [o] a) a λq r a=>A.dr (Yb 1 [x0,x1] a) a λs t a=>A.dr (Xf [s] a) a λu v a=>
 A.dr (Yb 1 [x0,x1] a) a λw y a=>A.dr (Xb 1 [w,q] a) a λ_ z a=>A.dr (Yb 1 [x0,x3] a) a λa0 a1 a=>A.dr (Xb 1 [a0,u] a) a λ_ a2 a=>
 A.gd (Zh [[],[],[],[],[],[],[4,5],[4,5,6],[],[],[8,9],[8,9,10],[0,1,4,5,6,7,8,9,10,11],[0,1,4,5,6,7,8,9,10,11,12],[0,1,2,3,4,5,6,7,8,9,10,11,12,13],[0,1,2,3,4,5,6,7,8,9,10,11,12,13,14]] [([],[]),([],[]),([],[]),([],[]),([],[]),([],[]),p,r,([],[]),([],[]),t,v,y,z,a1,a2]) <|
 A.b .add x1 (jv 1) a λa3=>A.b .sub x2 (jv 1) a λn=>A.loop (λa4 i a=>A.pu (Yj .leq false [(h0 i),n] a) λe=>A.gr e true (λk=>A.pu (Qi [x0] a) k) λa5=>
 A.gr e true (λk=>A.pu (Qi [(h0 i)] a) k) λa6=>A.gl e true (λk=>A.dr (Yb 1 [a5,a6] a) a k) a λa7 a8 a=>A.gl e true (λk=>A.dr (Xf [a7] a) a k) a λa9 b0 a=>
 A.gr e true (λk=>A.pu (Qi [x0] a) k) λb1=>A.gr e true (λk=>A.pu (Qi [x1] a) k) λb2=>A.gl e true (λk=>A.dr (Yb 1 [b1,b2] a) a k) a λb3 b4 a=>
 A.gl e true (λk=>A.dr (Xf [b3] a) a k) a λb5 b6 a=>A.gl e true (λk=>A.aE (.call 169) [a9,b5] a k) a λb7 b8 a=>A.pu (Xo [e,b7,.bool false] a) λb9=>
 A.gd (Zh [[],[],[0,1],[0,1,2],[0,1,2,3],[0,1,2,3],[0,1,2,3,4,5],[0,1,2,3,4,5,6],[0,1,2,3],[0,1,2,3],[0,1,2,3,8,9],[0,1,2,3,8,9,10],[0,1,2,3,4,5,6,7,8,9,10,11],[0,1,2,3,4,5,6,7,8,9,10,11,12]] [([],[]),([],[]),([],[]),([],[]),([],[]),([],[]),a8,b0,([],[]),([],[]),b4,b6,b8,([],[])]) <|
 A.test b9 (A.b .add (h0 i) (jv 1) a λc0=>a4 [c0] a) (A.loop (λc1 f a=>A.pu (Yj .leq false [(h0 i),(h0 f)] a) λc=>A.gr c true (λk=>A.pu (Qi [x0] a) k) λc2=>
 A.gr c true (λk=>A.pu (Qi [(h0 f)] a) k) λc3=>A.gl c true (λk=>A.dr (Yb 1 [c2,c3] a) a k) a λc4 c5 a=>A.gl c true (λk=>A.dr (Xf [c4] a) a k) a λc6 c7 a=>
 A.gr c true (λk=>A.pu (Qi [x0] a) k) λc8=>A.gr c true (λk=>A.pu (Qi [x1] a) k) λc9=>A.gl c true (λk=>A.dr (Yb 1 [c8,c9] a) a k) a λd0 d1 a=>
 A.gl c true (λk=>A.dr (Xf [d0] a) a k) a λd2 d3 a=>A.gl c true (λk=>A.aE (.call 169) [c6,d2] a k) a λd4 d5 a=>A.gr c true (λk=>A.pu (Xp .not [d4] a) k) λd6=>
 A.pu (Xo [c,d6,.bool false] a) λd7=>A.gd (Zh [[],[],[0,1],[0,1,2],[0,1,2,3],[0,1,2,3],[0,1,2,3,4,5],[0,1,2,3,4,5,6],[0,1,2,3],[0,1,2,3],[0,1,2,3,8,9],[0,1,2,3,8,9,10],[0,1,2,3,4,5,6,7,8,9,10,11],[0,1,2,3,4,5,6,7,8,9,10,11,12],[0,1,2,3,4,5,6,7,8,9,10,11,12,13]] [([],[]),([],[]),([],[]),([],[]),([],[]),([],[]),c5,c7,([],[]),([],[]),d1,d3,d5,([],[]),([],[])]) <|
 A.test d7 (A.b .sub (h0 f) (jv 1) a λd8=>c1 [d8] a) (A.b .gtr (h0 i) (h0 f) a λd9=>A.test d9 (A.dr (Yb 1 [x0,x1] a) a λe0 e1 a=>A.dr (Xf [e0] a) a λe2 e3 a=>
 A.dr (Yb 1 [x0,(h0 f)] a) a λe4 e5 a=>A.dr (Xf [e4] a) a λe6 e7 a=>A.dr (Yb 1 [x0,(h0 f)] a) a λe8 e9 a=>A.dr (Xb 1 [e8,e2] a) a λ_ f0 a=>
 A.dr (Yb 1 [x0,x1] a) a λf1 f2 a=>A.dr (Xb 1 [f1,e6] a) a λ_ f3 a=>A.gd (Zh [[],[],[],[],[],[],[4,5],[4,5,6],[],[],[8,9],[8,9,10],[0,1,4,5,6,7,8,9,10,11],[0,1,4,5,6,7,8,9,10,11,12],[0,1,2,3,4,5,6,7,8,9,10,11,12,13],[0,1,2,3,4,5,6,7,8,9,10,11,12,13,14]] [([],[]),([],[]),([],[]),([],[]),([],[]),([],[]),e1,e3,([],[]),([],[]),e5,e7,e9,f0,f2,f3]) <|
 m (.aG [(h0 f),.bool true]) a) (A.dr (Yb 1 [x0,(h0 f)] a) a λf4 f5 a=>A.dr (Xf [f4] a) a λf6 f7 a=>A.dr (Yb 1 [x0,(h0 i)] a) a λf8 f9 a=>
 A.dr (Xf [f8] a) a λg0 g1 a=>A.dr (Yb 1 [x0,(h0 i)] a) a λg2 g3 a=>A.dr (Xb 1 [g2,f6] a) a λ_ g4 a=>A.dr (Yb 1 [x0,(h0 f)] a) a λg5 g6 a=>
 A.dr (Xb 1 [g5,g0] a) a λ_ g7 a=>A.gd (Zh [[],[],[],[],[],[],[4,5],[4,5,6],[],[],[8,9],[8,9,10],[0,1,4,5,6,7,8,9,10,11],[0,1,4,5,6,7,8,9,10,11,12],[0,1,2,3,4,5,6,7,8,9,10,11,12,13],[0,1,2,3,4,5,6,7,8,9,10,11,12,13,14]] [([],[]),([],[]),([],[]),([],[]),([],[]),([],[]),f5,f7,([],[]),([],[]),f9,g1,g3,g4,g6,g7]) <|
 A.b .add (h0 i) (jv 1) a λg8=>A.b .sub (h0 f) (jv 1) a λg9=>A.loop (λi0 l a=>A.loop (λi1 j a=>A.pu (Yj .leq false [(h0 j),(h1 l)] a) λg=>
 A.gr g true (λk=>A.pu (Qi [x0] a) k) λi2=>A.gr g true (λk=>A.pu (Qi [(h0 j)] a) k) λi3=>A.gl g true (λk=>A.dr (Yb 1 [i2,i3] a) a k) a λi4 i5 a=>
 A.gl g true (λk=>A.dr (Xf [i4] a) a k) a λi6 i7 a=>A.gr g true (λk=>A.pu (Qi [x0] a) k) λi8=>A.gr g true (λk=>A.pu (Qi [x1] a) k) λi9=>
 A.gl g true (λk=>A.dr (Yb 1 [i8,i9] a) a k) a λj0 j1 a=>A.gl g true (λk=>A.dr (Xf [j0] a) a k) a λj2 j3 a=>A.gl g true (λk=>A.aE (.call 169) [i6,j2] a k) a λj4 j5 a=>
 A.pu (Xo [g,j4,.bool false] a) λj6=>A.gd (Zh [[],[],[0,1],[0,1,2],[0,1,2,3],[0,1,2,3],[0,1,2,3,4,5],[0,1,2,3,4,5,6],[0,1,2,3],[0,1,2,3],[0,1,2,3,8,9],[0,1,2,3,8,9,10],[0,1,2,3,4,5,6,7,8,9,10,11],[0,1,2,3,4,5,6,7,8,9,10,11,12]] [([],[]),([],[]),([],[]),([],[]),([],[]),([],[]),i5,i7,([],[]),([],[]),j1,j3,j5,([],[])]) <|
 A.test j6 (A.b .add (h0 j) (jv 1) a λj7=>i1 [j7] a) (A.loop (λj8 h a=>A.pu (Yj .leq false [(h0 j),(h0 h)] a) λd=>A.gr d true (λk=>A.pu (Qi [x0] a) k) λj9=>
 A.gr d true (λk=>A.pu (Qi [(h0 h)] a) k) λl0=>A.gl d true (λk=>A.dr (Yb 1 [j9,l0] a) a k) a λl2 l4 a=>A.gl d true (λk=>A.dr (Xf [l2] a) a k) a λl6 l8 a=>
 A.gr d true (λk=>A.pu (Qi [x0] a) k) λm0=>A.gr d true (λk=>A.pu (Qi [x1] a) k) λm1=>A.gl d true (λk=>A.dr (Yb 1 [m0,m1] a) a k) a λm2 m3 a=>
 A.gl d true (λk=>A.dr (Xf [m2] a) a k) a λm4 m5 a=>A.gl d true (λk=>A.aE (.call 169) [l6,m4] a k) a λm6 m7 a=>A.gr d true (λk=>A.pu (Xp .not [m6] a) k) λm8=>
 A.pu (Xo [d,m8,.bool false] a) λm9=>A.gd (Zh [[],[],[0,1],[0,1,2],[0,1,2,3],[0,1,2,3],[0,1,2,3,4,5],[0,1,2,3,4,5,6],[0,1,2,3],[0,1,2,3],[0,1,2,3,8,9],[0,1,2,3,8,9,10],[0,1,2,3,4,5,6,7,8,9,10,11],[0,1,2,3,4,5,6,7,8,9,10,11,12],[0,1,2,3,4,5,6,7,8,9,10,11,12,13]] [([],[]),([],[]),([],[]),([],[]),([],[]),([],[]),l4,l8,([],[]),([],[]),m3,m5,m7,([],[]),([],[])]) <|
 A.test m9 (A.b .sub (h0 h) (jv 1) a λn0=>j8 [n0] a) (A.b .gtr (h0 j) (h0 h) a λn1=>A.test n1 (A.dr (Yb 1 [x0,x1] a) a λn2 n3 a=>A.dr (Xf [n2] a) a λn4 n5 a=>
 A.dr (Yb 1 [x0,(h0 h)] a) a λn6 n7 a=>A.dr (Xf [n6] a) a λn8 n9 a=>A.dr (Yb 1 [x0,(h0 h)] a) a λo0 o1 a=>A.dr (Xb 1 [o0,n4] a) a λ_ o2 a=>
 A.dr (Yb 1 [x0,x1] a) a λo3 o4 a=>A.dr (Xb 1 [o3,n8] a) a λ_ o5 a=>A.gd (Zh [[],[],[],[],[],[],[4,5],[4,5,6],[],[],[8,9],[8,9,10],[0,1,4,5,6,7,8,9,10,11],[0,1,4,5,6,7,8,9,10,11,12],[0,1,2,3,4,5,6,7,8,9,10,11,12,13],[0,1,2,3,4,5,6,7,8,9,10,11,12,13,14]] [([],[]),([],[]),([],[]),([],[]),([],[]),([],[]),n3,n5,([],[]),([],[]),n7,n9,o1,o2,o4,o5]) <|
 m (.aG [(h0 h),.bool false]) a) (A.dr (Yb 1 [x0,(h0 h)] a) a λo6 o7 a=>A.dr (Xf [o6] a) a λo8 o9 a=>A.dr (Yb 1 [x0,(h0 j)] a) a λp0 p1 a=>
 A.dr (Xf [p0] a) a λp2 p3 a=>A.dr (Yb 1 [x0,(h0 j)] a) a λp4 p5 a=>A.dr (Xb 1 [p4,o8] a) a λ_ p6 a=>A.dr (Yb 1 [x0,(h0 h)] a) a λp7 p8 a=>
 A.dr (Xb 1 [p7,p2] a) a λ_ p9 a=>A.gd (Zh [[],[],[],[],[],[],[4,5],[4,5,6],[],[],[8,9],[8,9,10],[0,1,4,5,6,7,8,9,10,11],[0,1,4,5,6,7,8,9,10,11,12],[0,1,2,3,4,5,6,7,8,9,10,11,12,13],[0,1,2,3,4,5,6,7,8,9,10,11,12,13,14]] [([],[]),([],[]),([],[]),([],[]),([],[]),([],[]),o7,o9,([],[]),([],[]),p1,p3,p5,p6,p8,p9]) <|
 A.b .add (h0 j) (jv 1) a λq0=>A.b .sub (h0 h) (jv 1) a λq1=>i0 [q0,q1] a))) [(h1 l)] a)) [(h0 l)] a) [g8,g9] a))) [n] a)) [a3] a
 |_=>A.stop
theorem wk:GQ 171 4 g171:=vt [none,some [10],none,none,none,some [11],none,none,none,none,some [10,11],none,none,some [10],none,none,none,some [11],none,none,none] λ_ _ _ _ _ _ _ _=>by kernel_rfl
def g172:aq:=λA xs a g=>match xs with
 |[x0]=>
 A.b .geq x0 (.int .u32 65536) a λh=>au (λd=>A.test h (A.b .shr x0 (.int .u64 16) a λi=>d [i,jv 16] a) (d [x0,jv 0] a)) (λc a=>A.b .geq (h0 c) (.int .u32 256) a λj=>
 au (λe=>A.test j (A.b .shr (h0 c) (.int .u64 8) a λl=>A.b .add (h1 c) (jv 8) a λm=>e [m,l] a) (e [(h1 c),(h0 c)] a)) (λf a=>A.r (ZJ .u8) (h1 f) a λn=>
 A.rd (Xx [(.str [0,1,2,2,3,3,3,3,4,4,4,4,4,4,4,4,5,5,5,5,5,5,5,5,5,5,5,5,5,5,5,5,6,6,6,6,6,6,6,6,6,6,6,6,6,6,6,6,6,6,6,6,6,6,6,6,6,6,6,6,6,6,6,6,7,7,7,7,7,7,7,7,7,7,7,7,7,7,7,7,7,7,7,7,7,7,7,7,7,7,7,7,7,7,7,7,7,7,7,7,7,7,7,7,7,7,7,7,7,7,7,7,7,7,7,7,7,7,7,7,7,7,7,7,7,7,7,7,8,8,8,8,8,8,8,8,8,8,8,8,8,8,8,8,8,8,8,8,8,8,8,8,8,8,8,8,8,8,8,8,8,8,8,8,8,8,8,8,8,8,8,8,8,8,8,8,8,8,8,8,8,8,8,8,8,8,8,8,8,8,8,8,8,8,8,8,8,8,8,8,8,8,8,8,8,8,8,8,8,8,8,8,8,8,8,8,8,8,8,8,8,8,8,8,8,8,8,8,8,8,8,8,8,8,8,8,8,8,8,8,8,8,8,8,8,8,8,8,8,8,8,8,8,8,8,8]),n] a) λo=>
 A.r (ZJ .i64) o a λp=>A.b .add (h0 f) p a λq=>g q a))
 |_=>A.stop
theorem wm:GQ 172 1 g172:=cU [some [0,2],some [2,0]] λ_ _ _ _ _=>by kernel_rfl
def g173:aq:=λA xs a i=>match xs with
 |[x0]=>
 A.b .geq x0 (.int .u64 4294967296) a λj=>au (λe=>A.test j (A.b .shr x0 (.int .u64 32) a λl=>e [l,jv 32] a) (e [x0,jv 0] a)) (λc a=>A.b .geq (h0 c) (.int .u64 65536) a λm=>
 au (λf=>A.test m (A.b .shr (h0 c) (.int .u64 16) a λn=>A.b .add (h1 c) (jv 16) a λo=>f [n,o] a) (f [(h0 c),(h1 c)] a)) (λd a=>A.b .geq (h0 d) (.int .u64 256) a λp=>
 au (λg=>A.test p (A.b .shr (h0 d) (.int .u64 8) a λq=>A.b .add (h1 d) (jv 8) a λs=>g [s,q] a) (g [(h1 d),(h0 d)] a)) (λh a=>A.r (ZJ .u8) (h1 h) a λt=>
 A.rd (Xx [(.str [0,1,2,2,3,3,3,3,4,4,4,4,4,4,4,4,5,5,5,5,5,5,5,5,5,5,5,5,5,5,5,5,6,6,6,6,6,6,6,6,6,6,6,6,6,6,6,6,6,6,6,6,6,6,6,6,6,6,6,6,6,6,6,6,7,7,7,7,7,7,7,7,7,7,7,7,7,7,7,7,7,7,7,7,7,7,7,7,7,7,7,7,7,7,7,7,7,7,7,7,7,7,7,7,7,7,7,7,7,7,7,7,7,7,7,7,7,7,7,7,7,7,7,7,7,7,7,7,8,8,8,8,8,8,8,8,8,8,8,8,8,8,8,8,8,8,8,8,8,8,8,8,8,8,8,8,8,8,8,8,8,8,8,8,8,8,8,8,8,8,8,8,8,8,8,8,8,8,8,8,8,8,8,8,8,8,8,8,8,8,8,8,8,8,8,8,8,8,8,8,8,8,8,8,8,8,8,8,8,8,8,8,8,8,8,8,8,8,8,8,8,8,8,8,8,8,8,8,8,8,8,8,8,8,8,8,8,8,8,8,8,8,8,8,8,8,8,8,8,8,8,8,8,8,8,8]),t] a) λu=>
 A.r (ZJ .i64) u a λv=>A.b .add (h0 h) v a λw=>i w a)))
 |_=>A.stop
theorem wo:GQ 173 1 g173:=cU [some [0,2],some [0,2],some [2,0]] λ_ _ _ _ _=>by kernel_rfl
def g174:aq:=λA xs c f=>match xs with
 |[x0]=>
 A.w1 Zm x0 c λe c=>A.loop (λg d c=>A.r (Ya 3) e c λh=>A.a h c λi=>A.r Yf i c λj=>A.b .lss (h0 d) j c λl=>A.test l (A.r (Ya 3) e c λm=>
 A.a m c λn=>A.s (Yb 4) n (h0 d) c λo=>A.r (Zd true 4) o c λp=>A.k 174 [p] c λq c=>A.b .add (h1 d) q c λt=>A.s YJ t (jv 100000) c λu=>
 A.b .add (h0 d) (jv 1) c λv=>g [v,u] c) (f (h1 d) c)) [jv 0,jv 1] c
 |_=>A.stop
theorem lI:GQ 174 1 g174:=cU [none,some [4,3],none,none] λ_ _ _ _ _=>by kernel_rfl
def g175:aq:=λA xs c g=>match xs with
 |[x0]=>
 A.w1 Zm x0 c λf c=>A.loop (λh d c=>A.r (Ya 3) f c λi=>A.a i c λj=>A.r Yf j c λl=>A.b .lss (h0 d) l c λm=>A.test m (A.r (Ya 3) f c λn=>
 A.a n c λo=>A.s (Yb 4) o (h0 d) c λp=>A.r (Zd true 4) p c λq=>A.k 174 [q] c λt c=>A.b .add (h1 d) t c λu=>A.s YJ u (jv 100000) c λv=>
 A.b .add (h0 d) (jv 1) c λw=>h [w,v] c) (A.loop (λy e c=>A.r (Ya 4) f c λz=>A.a z c λa0=>A.r Yf a0 c λa1=>A.b .lss (h0 e) a1 c λa2=>
 A.test a2 (A.r (Ya 4) f c λa3=>A.a a3 c λa4=>A.s (Yb 5) a4 (h0 e) c λa5=>A.r (Zd true 5) a5 c λa6=>A.k 175 [a6] c λa7 c=>
 A.b .add (h1 e) a7 c λa8=>A.s YJ a8 (jv 100000) c λa9=>A.b .add (h0 e) (jv 1) c λb0=>y [b0,a9] c) (g (h1 e) c)) [jv 0,(h1 d)] c)) [jv 0,jv 1] c
 |_=>A.stop
theorem ov:GQ 175 1 g175:=cU [none,some [4,3],none,none,none,some [5,3],none,none] λ_ _ _ _ _=>by kernel_rfl
def g176:aq:=λA xs c e=>match xs with
 |[x0,x1]=>
 A.r Yf x0 c λf=>A.loop (λg d c=>A.b .lss (h0 d) f c λh=>A.test h (A.s (Yb 1) x0 (h0 d) c λi=>A.a i c λj=>A.b .eql x1 j c λl=>
 A.test l (e (h0 d) c) (A.b .add (h0 d) (jv 1) c λm=>g [m] c)) (e (jv (-1)) c)) [jv 0] c
 |_=>A.stop
theorem ow:GQ 176 2 g176:=dR [none,some [8],none,none,none] λ_ _ _ _ _ _=>by kernel_rfl
def g177:aq:=λA xs c i=>match xs with
 |[x0,x1,x2,x3]=>
 A.w1 Zm x0 c λf c=>A.w1 Zm x1 c λj c=>A.r (Ya 7) j c λl=>A.s (Yg 2 8) l x2 c λm=>A.r (Ya 6) m c λn=>A.a n c λe=>
 A.r (Ya 0) f c λo=>A.a o c λp=>A.s (Yb 4) e x3 c λq=>A.r (Ya 1) q c λt=>A.a t c λu=>A.s (Yb 12) p u c λv=>
 A.r (Ya 3) v c λw=>A.a w c λy=>A.r (Ya 0) f c λz=>A.a z c λa0=>A.s (Yb 4) e x3 c λa1=>A.r (Ya 1) a1 c λa2=>
 A.a a2 c λa3=>A.s (Yb 12) a0 a3 c λa4=>A.r (Ya 4) a4 c λa5=>A.a a5 c λa6=>A.loop (λa7 d c=>A.r Yf e c λa8=>A.b .lss (h0 d) a8 c λa9=>
 A.test a9 (au (λg=>A.b .neq (h0 d) x3 c λb0=>A.test b0 (A.r (Ya 0) f c λb1=>A.a b1 c λb2=>A.s (Yb 4) e (h0 d) c λb3=>A.r (Ya 1) b3 c λb4=>
 A.a b4 c λb5=>A.s (Yb 12) b2 b5 c λb6=>A.r (Ya 6) b6 c λb7=>A.a b7 c λb8=>A.b .add (h1 d) b8 c λb9=>A.r (Ya 0) f c λc0=>
 A.a c0 c λc1=>A.s (Yb 4) e (h0 d) c λc2=>A.r (Ya 1) c2 c λc3=>A.a c3 c λc4=>A.s (Yb 12) c1 c4 c λc5=>A.r (Ya 7) c5 c λc6=>
 A.a c6 c λc7=>A.b .add (h2 d) c7 c λc8=>g [b9,c8] c) (g [(h1 d),(h2 d)] c)) (λh c=>A.b .add (h0 d) (jv 1) c λc9=>a7 [c9,(h0 h),(h1 h)] c)) (
 i (.aG [(h1 d),(h2 d)]) c)) [jv 0,y,a6] c
 |_=>A.stop
theorem r_:GQ 177 4 g177:=vt [none,some [13,11,12],none,some [11,12],none] λ_ _ _ _ _ _ _ _=>by kernel_rfl
def g178:aq:=λA xs c g=>match xs with
 |[x0]=>
 A.w1 Zm x0 c λf c=>A.loop (λh d c=>A.r (Ya 3) f c λi=>A.a i c λj=>A.r Yf j c λl=>A.b .lss (h0 d) l c λm=>A.test m (A.r (Ya 3) f c λn=>
 A.a n c λo=>A.s (Yb 4) o (h0 d) c λp=>A.r (Zd true 4) p c λq=>A.k 76 [q] c λt c=>A.b .add (h1 d) t c λu=>A.s YJ u (jv 1073741824) c λv=>
 A.b .add (h0 d) (jv 1) c λw=>h [w,v] c) (A.loop (λy e c=>A.r (Ya 4) f c λz=>A.a z c λa0=>A.r Yf a0 c λa1=>A.b .lss (h0 e) a1 c λa2=>
 A.test a2 (A.r (Ya 4) f c λa3=>A.a a3 c λa4=>A.s (Yb 5) a4 (h0 e) c λa5=>A.r (Zd true 5) a5 c λa6=>A.k 178 [a6] c λa7 c=>
 A.b .add (h1 e) a7 c λa8=>A.s YJ a8 (jv 1073741824) c λa9=>A.b .add (h0 e) (jv 1) c λb0=>y [b0,a9] c) (g (h1 e) c)) [jv 0,(h1 d)] c)) [jv 0,jv 1] c
 |_=>A.stop
theorem ki:GQ 178 1 g178:=cU [none,some [4,3],none,none,none,some [5,3],none,none] λ_ _ _ _ _=>by kernel_rfl
def g179:aq:=λA xs b d=>match xs with
 |[x0]=>
 A.wr (Xe [jv 0,jv 0] [] b) b λc b=>A.r (Ya 0) x0 b λe=>A.a e b λf=>A.k 180 [f] b λg b=>A.ws (Xb 2) c g b λ_ b=>A.opt (av true 2 c b) λr4=>
 d r4 b
 |_=>A.stop
theorem lJ:GQ 179 1 g179:=cU [] λ_ _ _ _ _=>by kernel_rfl
def g180:aq:=λA xs c f=>match xs with
 |[x0]=>
 A.wr (Xe [jv 0,jv 0] [] c) c λd c=>A.r Yf x0 c λo=>A.b .gtr o (jv 240) c λp=>A.test p (A.rd (Qe [jv 0,jv 0] [(0,1)] [jv 3] c) λq=>
 A.ws (Xb 2) d q c λ_ c=>A.opt (av true 2 d c) λr4=>f r4 c) (A.wr (ZG [] c) c λh c=>A.r Yf x0 c λt=>A.loop (λu i c=>A.b .lss (h0 i) t c λv=>
 A.test v (au (λl=>A.s (Yb 12) x0 (h0 i) c λw=>A.r (Zd true 12) w c λy=>A.wr (Xe [.str [],.bool false,jv 0,jv 0,jv 0,jv 0,jv 0,jv 0,.af,.af,.af,jv 0] [] c) c λg c=>
 A.ws (Xb 12) g y c λ_ c=>A.r (Ya 0) g c λz=>A.a z c λa0=>A.s (Qr true true (.bool false)) h a0 c λm=>A.r (Xc 0) m c λd0=>
 A.r (Xc 1) m c λa1=>A.r (Xp .not) a1 c λa2=>A.test a2 (A.r (Ya 0) g c λa3=>A.a a3 c λa4=>A.r (Ya 1) g c λa5=>A.a a5 c λa6=>
 A.wr (Xz true [h,a4,a6] c) c λ_ c=>l [] c) (l [] c)) (λd1 c=>A.b .add (h0 i) (jv 1) c λa7=>u [a7] c)) (A.wr (ZG [] c) c λn c=>A.r Yf x0 c λa8=>
 A.loop (λa9 j c=>A.b .lss (h0 j) a8 c λb0=>A.test b0 (A.s (Yb 12) x0 (h0 j) c λe=>A.r Qa e c λb1=>A.r (Ya 0) b1 c λb2=>
 A.a b2 c λb3=>A.s (Qr true false (.bool false)) n b3 c λb4=>A.test b4 (A.r Qa e c λb5=>A.r (Ya 11) b5 c λb6=>A.a b6 c λb7=>
 A.rd (Qe [jv 0,jv 0] [(0,1),(1,1)] [jv 101,b7] c) λb8=>A.ws (Xb 2) d b8 c λ_ c=>A.opt (av true 2 d c) λr40=>f r40 c) (A.k 221 [e,h] c λb9 c=>
 A.r (Xp .not) b9 c λc0=>A.test c0 (A.r Qa e c λc1=>A.r (Ya 11) c1 c λc2=>A.a c2 c λc3=>A.rd (Qe [jv 0,jv 0] [(0,1),(1,1)] [jv 130,c3] c) λc4=>
 A.ws (Xb 2) d c4 c λ_ c=>A.opt (av true 2 d c) λr47=>f r47 c) (A.r Qa e c λc5=>A.r (Ya 0) c5 c λc6=>A.a c6 c λc7=>A.wr (Xz true [n,c7,.bool true] c) c λ_ c=>
 A.b .add (h0 j) (jv 1) c λc8=>a9 [c8] c))) (A.rd (Qe [jv 0,jv 0] [] [] c) λc9=>A.ws (Xb 2) d c9 c λ_ c=>A.opt (av true 2 d c) λr53=>
 f r53 c)) [jv 0] c)) [jv 0] c)
 |_=>A.stop
theorem lK:GQ 180 1 g180:=cU [none,none,some [18],none,some [],none,none,some [40],none,none,none,none,none] λ_ _ _ _ _=>by kernel_rfl
def g181:aq:=λA xs b d=>match xs with
 |[x0]=>
 A.wr (Xe [jv 0,jv 0] [] b) b λc b=>A.r (Ya 0) x0 b λe=>A.a e b λf=>A.k 182 [f] b λg b=>A.ws (Xb 2) c g b λ_ b=>A.opt (av true 2 c b) λr4=>
 d r4 b
 |_=>A.stop
theorem lL:GQ 181 1 g181:=cU [] λ_ _ _ _ _=>by kernel_rfl
def g182:aq:=λA xs d l=>match xs with
 |[x0]=>
 A.wr (Xe [jv 0,jv 0] [] d) d λh d=>A.rd (Qe [.int .i8 0] [(0,1)] [.int .i8 0] d) λm=>A.wr (Xe [.int .i8 0] [] d) d λi d=>
 A.ws (Xb 1) i m d λ_ d=>A.r Yf x0 d λn=>A.loop (λo j d=>A.b .lss (h0 j) n d λp=>A.test p (A.s (Yb 12) x0 (h0 j) d λq=>A.r (Zd true 12) q d λt=>
 A.wr (Xe [.str [],.bool false,jv 0,jv 0,jv 0,jv 0,jv 0,jv 0,.af,.af,.af,jv 0] [] d) d λg d=>A.ws (Xb 12) g t d λ_ d=>
 A.r (Zd true 1) i d λu=>A.r (Ya 8) g d λv=>A.a v d λw=>A.k 222 [u,w] d λy d=>A.r (Xp .not) y d λe=>A.fr e (Zd true 1) i d λz=>
 A.fr e (Ya 9) g d λa0=>A.fa e a0 d λa1=>A.gw e false (λk=>A.k 222 [z,a1] d k) d λa2 d=>A.fr e (Xp .not) a2 d λa3=>A.c e (.bool true) a3 d λf=>
 A.fr f (Zd true 1) i d λa4=>A.fr f (Ya 10) g d λa5=>A.fa f a5 d λa6=>A.gw f false (λk=>A.k 222 [a4,a6] d k) d λa7 d=>A.fr f (Xp .not) a7 d λa8=>
 A.c f (.bool true) a8 d λa9=>A.test a9 (A.r (Ya 11) g d λb0=>A.a b0 d λb1=>A.rd (Qe [jv 0,jv 0] [(0,1),(1,1)] [jv 140,b1] d) λb2=>
 A.ws (Xb 2) h b2 d λ_ d=>A.opt (av true 2 h d) λr30=>l r30 d) (A.b .add (h0 j) (jv 1) d λb3=>o [b3] d)) (A.rd (Qe [jv 0,jv 0] [] [] d) λb4=>
 A.ws (Xb 2) h b4 d λ_ d=>A.opt (av true 2 h d) λr33=>l r33 d)) [jv 0] d
 |_=>A.stop
theorem lM:GQ 182 1 g182:=cU [none,some [9],none,none,none] λ_ _ _ _ _=>by kernel_rfl
def g183:aq:=λA xs a c=>match xs with
 |[x0]=>
 A.wr (Xe [jv 0,jv 0] [] a) a λb a=>A.r (Zd true 2) x0 a λd=>A.k 184 [d] a λe a=>A.ws (Xb 2) b e a λ_ a=>A.opt (av true 2 b a) λr3=>
 c r3 a
 |_=>A.stop
theorem lN:GQ 183 1 g183:=cU [] λ_ _ _ _ _=>by kernel_rfl
def g184:aq:=λA xs d v=>match xs with
 |[x0]=>
 A.w1 Zm x0 d λw d=>A.wr (Xe [jv 0,jv 0] [] d) d λl d=>A.wr (ZG [] d) d λy d=>A.r (Ya 1) w d λt3=>A.a t3 d λz=>A.r Yf z d λt5=>
 A.loop (λa3 m d=>A.b .lss (h0 m) t5 d λt8=>A.test t8 (A.s (Yb 7) z (h0 m) d λt9=>A.r (Zd true 7) t9 d λa4=>A.wr (Xe [.str [],jv 0,jv 0,jv 0,.af,.af,jv 0] [] d) d λe d=>
 A.ws (Xb 7) e a4 d λ_ d=>A.b .lss (h0 m) (jv 240) d λn=>A.tr n (Ya 0) e d λa5=>A.ta n a5 d λa6=>A.gw n true (λk=>A.k 223 [a6] d k) d λa7 d=>
 A.c n a7 (.bool false) d λf=>A.tr f Qi y d λa8=>A.tr f (Ya 0) e d λa9=>A.ta f a9 d λb0=>A.ts f (Qr true false (.bool false)) a8 b0 d λb1=>
 A.tr f (Xp .not) b1 d λb2=>A.c f b2 (.bool false) d λo=>A.tr o (Ya 1) e d λb3=>A.ta o b3 d λb4=>A.tb o .geq b4 (jv 0) d λb5=>A.c o b5 (.bool false) d λg=>
 A.tr g (Ya 1) e d λb6=>A.ta g b6 d λb7=>A.tr g (Ya 2) e d λb8=>A.ta g b8 d λb9=>A.tb g .leq b7 b9 d λc0=>A.c g c0 (.bool false) d λp=>
 A.tr p (Ya 2) e d λc1=>A.ta p c1 d λc2=>A.tb p .leq c2 (jv 60) d λc3=>A.c p c3 (.bool false) d λq=>A.tr q (Ya 3) e d λc4=>
 A.ta q c4 d λc5=>A.tb q .geq c5 (jv 0) d λc6=>A.c q c6 (.bool false) d λt=>A.tr t (Ya 3) e d λc7=>A.ta t c7 d λc8=>A.tb t .leq c8 (jv 999) d λc9=>
 A.c t c9 (.bool false) d λd0=>A.r (Ya 4) e d λd1=>A.a d1 d λd2=>A.r (Ya 5) e d λd3=>A.a d3 d λd4=>A.rd (Qe [.af,.af] [(0,1),(1,1)] [d2,d4] d) λd5=>
 A.loop (λd6 i d=>A.b .lss (h0 i) (jv 2) d λd7=>A.test d7 (A.s (tE false 2 1) d5 (h0 i) d λa0=>A.wr (ZG [] d) d λa1 d=>A.r Yf a0 d λd8=>
 A.loop (λd9 h d=>A.b .lss (h0 h) d8 d λe0=>A.test e0 (A.s (Yb 1) a0 (h0 h) d λe1=>A.a e1 d λu=>A.r (Zd true 2) w d λe2=>A.k 224 [e2,u] d λa2 d=>
 A.r (Xc 0) a2 d λg0=>A.r (Xc 1) a2 d λe3=>A.gr (h1 h) true (λk=>A.rd (Qi [e3] d) k) λe4=>A.c (h1 h) e4 (.bool false) d λj=>
 A.tr j Qi a1 d λe5=>A.tr j Qi u d λe6=>A.ts j (Qr true false (.bool false)) e5 e6 d λe7=>A.tr j (Xp .not) e7 d λe8=>A.c j e8 (.bool false) d λe9=>
 A.wr (Xz true [a1,u,.bool true] d) d λ_ d=>A.b .add (h0 h) (jv 1) d λf0=>d9 [f0,e9] d) (A.b .add (h0 i) (jv 1) d λf1=>d6 [f1,(h1 h)] d)) [jv 0,(h1 i)] d) (
 A.r (Xp .not) (h1 i) d λf2=>A.test f2 (A.r (Ya 6) e d λf3=>A.a f3 d λf4=>A.rd (Qe [jv 0,jv 0] [(0,1),(1,1)] [jv 151,f4] d) λf5=>
 A.ws (Xb 2) l f5 d λ_ d=>A.opt (av true 2 l d) λr78=>v r78 d) (A.r (Ya 0) e d λf6=>A.a f6 d λf7=>A.wr (Xz true [y,f7,.bool true] d) d λ_ d=>
 A.b .add (h0 m) (jv 1) d λf8=>a3 [f8] d))) [jv 0,d0] d) (A.rd (Qe [jv 0,jv 0] [] [] d) λf9=>A.ws (Xb 2) l f9 d λ_ d=>A.opt (av true 2 l d) λr83=>
 v r83 d)) [jv 0] d
 |_=>A.stop
theorem lO:GQ 184 1 g184:=cU [none,some [18],none,none,none,some [69,6],none,none,none,some [75,6],none,none,none] λ_ _ _ _ _=>by kernel_rfl
def g185:aq:=λA xs a c=>match xs with
 |[x0,x1]=>
 A.k 120 [x0,x1] a λd a=>A.b .geq d (jv 0) a λe=>c e a
 |_=>A.stop
theorem lP:GQ 185 2 g185:=dR [] λ_ _ _ _ _ _=>by kernel_rfl
def g186:aq:=λA xs a e=>match xs with
 |[x0,x1]=>
 A.b .lss x0 (jv 0) a λd=>A.fr d Qi x0 a λf=>A.fa d x1 a λg=>A.fr d Qa g a λh=>A.fr d (Ya 0) h a λi=>A.fa d i a λj=>A.fr d Yf j a λl=>
 A.fb d .geq f l a λm=>A.c d (.bool true) m a λn=>e n a
 |_=>A.stop
theorem lQ:GQ 186 2 g186:=dR [] λ_ _ _ _ _ _=>by kernel_rfl
def g187:aq:=λA xs a e=>match xs with
 |[x0]=>
 A.b .geq x0 (jv 0) a λd=>A.tr d Qi x0 a λf=>A.tb d .leq f (jv 999) a λg=>A.c d g (.bool false) a λh=>e h a
 |_=>A.stop
theorem gf:GQ 187 1 g187:=cU [] λ_ _ _ _ _=>by kernel_rfl
def g188:aq:=λA xs d f=>match xs with
 |[x0,x1,x2]=>
 A.r Yf x1 d λt0=>A.b .gtr t0 (jv 16) d λt1=>A.fr t1 Qi x2 d λt2=>A.fb t1 .gtr t2 (jv 8) d λt3=>A.c t1 (.bool true) t3 d λt4=>A.test t4 (
 f (.bool false) d) (A.loop (λa5 v6 d=>A.r Yf x1 d λt7=>A.b .lss (h0 v6) t7 d λt8=>A.test t8 (au (λk9=>A.s (Yb 14) x1 (h0 v6) d λa6=>
 A.r (Zd true 14) a6 d λa7=>A.wr (Xe [.int .i8 0,.int .i8 0,.int .i8 0,jv 0,.int .i8 0,.af,.str [],.int .i8 0,.int .i8 0,.str [],.af,.af,.af,.af] [] d) d λe d=>
 A.ws (Xb 14) e a7 d λ_ d=>A.r (Ya 0) e d λa8=>A.a a8 d λa9=>A.b .lss a9 (.int .i8 0) d λw=>A.fr w (Ya 0) e d λb0=>A.fa w b0 d λb1=>
 A.fb w .gtr b1 (.int .i8 8) d λb2=>A.c w (.bool true) b2 d λb3=>A.test b3 (f (.bool false) d) (A.r (Ya 0) e d λb4=>A.a b4 d λb5=>A.b .eql b5 (.int .i8 8) d λb6=>
 A.test b6 (A.r (Ya 1) e d λb7=>A.a b7 d λb8=>A.b .neq b8 (.int .i8 0) d λp=>A.fr p (Ya 2) e d λb9=>A.fr p (Zd true 4) b9 d λc0=>
 A.gw p false (λk=>A.k 225 [c0] d k) d λc1 d=>A.fr p (Xp .not) c1 d λc2=>A.c p (.bool true) c2 d λy=>A.fr y (Ya 6) e d λc3=>A.fa y c3 d λc4=>
 A.zG y (Yj .neq false [c4,.str []] d) λc5=>A.c y (.bool true) c5 d λj=>A.fr j Qi x0 d λc6=>A.fr j (Ya 7) e d λc7=>A.fr j (Zd true 5) c7 d λc8=>
 A.gw j false (λk=>A.k 226 [c6,c8] d k) d λc9 d=>A.fr j (Xp .not) c9 d λd0=>A.c j (.bool true) d0 d λg=>A.fr g Qi x0 d λd1=>A.fr g (Ya 12) e d λd2=>
 A.fa g d2 d λd3=>A.fr g Qi x2 d λd4=>A.fb g .add d4 (jv 1) d λd5=>A.gw g false (λk=>A.k 188 [d1,d3,d5] d k) d λd6 d=>A.fr g (Xp .not) d6 d λd7=>
 A.c g (.bool true) d7 d λh=>A.fr h Qi x0 d λd8=>A.fr h (Ya 13) e d λd9=>A.fa h d9 d λe0=>A.fr h Qi x2 d λe1=>A.fb h .add e1 (jv 1) d λe2=>
 A.gw h false (λk=>A.k 188 [d8,e0,e2] d k) d λe3 d=>A.fr h (Xp .not) e3 d λe4=>A.c h (.bool true) e4 d λe5=>A.test e5 (f (.bool false) d) (k9 [] d)) (
 A.r (Ya 7) e d λe6=>A.r (Zd true 5) e6 d λe7=>A.k 227 [e7] d λe8 d=>A.r (Xp .not) e8 d λq=>A.fr q (Ya 12) e d λe9=>A.fa q e9 d λf0=>
 A.fr q Yf f0 d λf1=>A.fb q .gtr f1 (jv 0) d λf2=>A.c q (.bool true) f2 d λt=>A.fr t (Ya 13) e d λf3=>A.fa t f3 d λf4=>A.fr t Yf f4 d λf5=>
 A.fb t .gtr f5 (jv 0) d λf6=>A.c t (.bool true) f6 d λf7=>A.test f7 (f (.bool false) d) (A.r (Ya 0) e d λf8=>A.a f8 d λf9=>A.k 130 [f9] d λl d=>
 A.tr l Qi x0 d λg0=>A.tr l (Ya 2) e d λg1=>A.tr l (Zd true 4) g1 d λg2=>A.gw l true (λk=>A.k 77 [g0,g2] d k) d λg3 d=>A.tr l (Xp .not) g3 d λg4=>
 A.c l g4 (.bool false) d λi=>A.fr i (Ya 0) e d λg5=>A.fa i g5 d λg6=>A.gw i false (λk=>A.k 130 [g6] d k) d λg7 d=>A.fr i (Xp .not) g7 d λg8=>
 A.fr i Qi g8 d λu=>A.tr u (Ya 2) e d λg9=>A.tr u (Zd true 4) g9 d λi0=>A.gw u true (λk=>A.k 225 [i0] d k) d λi1 d=>A.tr u (Xp .not) i1 d λi2=>
 A.fc i u i2 (.bool false) d λi3=>A.c i (.bool true) i3 d λi4=>A.test i4 (f (.bool false) d) (A.r (Ya 0) e d λi5=>A.a i5 d λi6=>A.b .eql i6 (.int .i8 7) d λm=>
 A.tr m Qi x0 d λi7=>A.tr m (Ya 6) e d λi9=>A.ta m i9 d λj0=>A.gw m true (λk=>A.k 228 [i7,j0,.bool true] d k) d λj1 d=>A.tr m (Xp .not) j1 d λj2=>
 A.c m j2 (.bool false) d λn=>A.fr n (Ya 0) e d λj3=>A.fa n j3 d λj4=>A.fb n .neq j4 (.int .i8 7) d λj5=>A.fr n Qi j5 d λz=>A.tr z (Ya 6) e d λj6=>
 A.ta z j6 d λj7=>A.th z (Yj .neq false [j7,.str []] d) λj8=>A.fc n z j8 (.bool false) d λj9=>A.c n (.bool true) j9 d λl0=>A.test l0 (f (.bool false) d) (
 A.r (Ya 1) e d λl1=>A.a l1 d λl2=>A.b .eql l2 (.int .i8 0) d λl3=>A.r (Ya 0) e d λl4=>A.a l4 d λl5=>A.b .eql l5 (.int .i8 0) d λa0=>
 A.fr a0 (Ya 0) e d λl6=>A.fa a0 l6 d λl7=>A.fb a0 .eql l7 (.int .i8 1) d λl8=>A.c a0 (.bool true) l8 d λl9=>au (λa3=>A.test l9 (
 A.r (Ya 1) e d λm0=>A.a m0 d λm1=>A.k 121 [m1] d λo d=>A.fr o (Ya 1) e d λm2=>A.fa o m2 d λm3=>A.fb o .eql m3 (.int .i8 2) d λm4=>
 A.fr o Qi m4 d λv=>A.tr v Qi x0 d λm5=>A.tr v Qa m5 d λm6=>A.tr v (Ya 1) m6 d λm7=>A.ta v m7 d λm8=>A.fc o v m8 (.bool false) d λm9=>
 A.c o (.bool true) m9 d λn0=>a3 [n0] d) (a3 [l3] d)) (λn1 d=>A.r (Ya 0) e d λn2=>A.a n2 d λn3=>A.b .eql n3 (.int .i8 2) d λa1=>A.fr a1 (Ya 0) e d λn4=>
 A.fa a1 n4 d λn5=>A.fb a1 .eql n5 (.int .i8 4) d λn6=>A.c a1 (.bool true) n6 d λa2=>A.fr a2 (Ya 0) e d λn7=>A.fa a2 n7 d λn8=>A.fb a2 .eql n8 (.int .i8 6) d λn9=>
 A.c a2 (.bool true) n9 d λo0=>au (λa4=>A.test o0 (A.r (Ya 1) e d λo1=>A.a o1 d λo2=>A.k 121 [o2] d λo3 d=>a4 [o3] d) (a4 [(h0 n1)] d)) (λo4 d=>
 A.r (Xp .not) (h0 o4) d λo5=>A.test o5 (f (.bool false) d) (k9 [] d))))))))) (λo7 d=>A.b .add (h0 v6) (jv 1) d λo6=>a5 [o6] d)) (f (.bool true) d)) [jv 0] d)
 |_=>A.stop
theorem gU:GQ 188 3 g188:=jN [none,none,some [7],none,some [],none,none,none,none,none,none,some [9],some [9],none] λ_ _ _ _ _ _ _=>by kernel_rfl
def g189:aq:=λA xs a c=>match xs with
 |[x0,x1]=>
 A.k 190 [x0,x1] a λd a=>A.k 190 [x1,x1] a λe a=>A.b .eql d e a λf=>c f a
 |_=>A.stop
theorem oz:GQ 189 2 g189:=dR [] λ_ _ _ _ _ _=>by kernel_rfl
def g190:aq:=λA xs a d=>match xs with
 |[x0,x1]=>
 A.b .lss x0 (.int .i8 0) a λe=>A.fr e Qi x0 a λm=>A.fb e .gtr m (.int .i8 3) a λn=>A.c e (.bool true) n a λo=>au (λj=>A.test o (j [.int .i8 3] a) (
 j [x0] a)) (λf a=>A.b .lss x1 (.int .i8 0) a λg=>A.fr g Qi x1 a λp=>A.fb g .gtr p (.int .i8 3) a λq=>A.c g (.bool true) q a λr=>au (λl=>
 A.test r (l [.int .i8 3] a) (l [x1] a)) (λh a=>A.b .eql (h0 f) (h0 h) a λi=>A.fr i Qi (h0 h) a λs=>A.fb i .eql s (.int .i8 0) a λt=>A.c i (.bool true) t a λu=>
 A.test u (d (h0 f) a) (A.b .eql (h0 f) (.int .i8 0) a λv=>A.test v (d (h0 h) a) (d (.int .i8 3) a))))
 |_=>A.stop
theorem et:GQ 190 2 g190:=dR [some [0],some [1],none,none,none] λ_ _ _ _ _ _=>by kernel_rfl
def g191:aq:=λA xs d h=>match xs with
 |[x0]=>
 A.w1 Zm x0 d λe d=>A.r (Ya 0) e d λl=>A.a l d λm=>A.b .eql m (.int .i8 6) d λn=>au (λi=>A.test n (i [.int .i8 3] d) (i [.int .i8 0] d)) (λj d=>
 A.r (Ya 0) e d λo=>A.a o d λp=>A.b .geq p (.int .i8 8) d λg=>A.tr g (Ya 0) e d λq=>A.ta g q d λt=>A.tb g .leq t (.int .i8 12) d λu=>
 A.c g u (.bool false) d λv=>A.test v (A.loop (λw f d=>A.r (Ya 3) e d λy=>A.a y d λz=>A.r Yf z d λa0=>A.b .lss (h0 f) a0 d λa1=>
 A.test a1 (A.r (Ya 3) e d λa2=>A.a a2 d λa3=>A.s (Yb 4) a3 (h0 f) d λa4=>A.r (Zd true 4) a4 d λa5=>A.k 191 [a5] d λa6 d=>
 A.k 190 [(h1 f),a6] d λa7 d=>A.b .add (h0 f) (jv 1) d λa8=>w [a8,a7] d) (h (h1 f) d)) [jv 0,(h0 j)] d) (h (h0 j) d))
 |_=>A.stop
theorem jb:GQ 191 1 g191:=cU [some [3],none,none,some [4,3],none,none] λ_ _ _ _ _=>by kernel_rfl
def g192:aq:=λA xs c g=>match xs with
 |[x0]=>
 A.w1 Zm x0 c λd c=>A.r (Ya 0) d c λi=>A.a i c λj=>A.b .eql j (.int .i8 6) c λl=>A.test l (A.r (Ya 1) d c λm=>A.a m c λh=>
 A.b .eql h (.int .i8 0) c λn=>A.test n (g (.int .i8 1) c) (A.b .eql h (.int .i8 1) c λo=>A.test o (g (.int .i8 2) c) (g (.int .i8 3) c))) (A.loop (λp e c=>
 A.r (Ya 3) d c λq=>A.a q c λt=>A.r Yf t c λu=>A.b .lss (h0 e) u c λv=>A.test v (A.r (Ya 3) d c λw=>A.a w c λy=>A.s (Yb 4) y (h0 e) c λz=>
 A.r (Zd true 4) z c λa0=>A.k 191 [a0] c λa1 c=>A.k 190 [(h1 e),a1] c λa2 c=>A.b .add (h0 e) (jv 1) c λa3=>p [a3,a2] c) (A.loop (λa4 f c=>
 A.r (Ya 4) d c λa5=>A.a a5 c λa6=>A.r Yf a6 c λa7=>A.b .lss (h0 f) a7 c λa8=>A.test a8 (A.r (Ya 4) d c λa9=>A.a a9 c λb0=>
 A.s (Yb 5) b0 (h0 f) c λb1=>A.r (Zd true 5) b1 c λb2=>A.k 192 [b2] c λb3 c=>A.k 190 [(h1 f),b3] c λb4 c=>A.b .add (h0 f) (jv 1) c λb5=>
 a4 [b5,b4] c) (g (h1 f) c)) [jv 0,(h1 e)] c)) [jv 0,.int .i8 0] c)
 |_=>A.stop
theorem lR:GQ 192 1 g192:=cU [none,none,none,none,none,some [4,3],none,none,none,some [5,3],none,none] λ_ _ _ _ _=>by kernel_rfl
def g193:aq:=λA xs a o=>match xs with
 |[x0,x1]=>
 au (λj=>A.loop (λp d a=>A.r Qs x0 a λq=>A.b .lss (h0 d) q a λs=>A.test s (A.k 196 [x0,(h0 d)] a λl a=>A.r (Xc 0) l a λh=>
 A.r (Xc 1) l a λm=>A.b .eql m (jv 0) a λe=>A.fr e Qi h a λt=>A.gw e false (λk=>A.k 197 [t] a k) a λu a=>A.fr e (Xp .not) u a λv=>
 A.fr e Qi v a λg=>A.tr g Qi (h1 d) a λw=>A.tb g .eql w (jv 0) a λy=>A.tr g Qi y a λf=>A.fr f Qi h a λz=>A.gw f false (λk=>A.k 198 [z] a k) a λa0 a=>
 A.fr f (Xp .not) a0 a λa1=>A.fr f Qi a1 a λi=>A.tr i Qi h a λa2=>A.tb i .neq a2 (jv 39) a λa3=>A.fc f i a3 (.bool false) a λa4=>A.tc g f (.bool true) a4 a λa5=>
 A.fc e g a5 (.bool false) a λa6=>A.c e (.bool true) a6 a λa7=>A.test a7 (j [(h0 d),(h1 d)] a) (A.b .add (h0 d) m a λa8=>A.b .add (h1 d) (jv 1) a λa9=>
 p [a8,a9] a)) (j [(h0 d),(h1 d)] a)) [x1,jv 0] a) (λn a=>o (.aG [(h0 n),(h1 n)]) a)
 |_=>A.stop
theorem oA:GQ 193 2 g193:=dR [some [1,6],some [1,6],none,none,none] λ_ _ _ _ _ _=>by kernel_rfl
def g194:aq:=λA xs c e=>match xs with
 |[x0]=>
 A.k 229 [] c λf c=>A.loop (λg d c=>A.r Yf f c λh=>A.b .lss (h0 d) h c λi=>A.test i (A.s (Yb 1) f (h0 d) c λj=>A.a j c λl=>A.b .eql l x0 c λm=>
 A.test m (e (.bool true) c) (A.b .add (h0 d) (jv 1) c λn=>g [n] c)) (e (.bool false) c)) [jv 0] c
 |_=>A.stop
theorem oB:GQ 194 1 g194:=cU [none,some [4],none,none,none] λ_ _ _ _ _=>by kernel_rfl
def g195:aq:=λA xs c e=>match xs with
 |[x0,x1]=>
 A.w1 Zm x0 c λf c=>A.loop (λg d c=>A.r (Ya 0) f c λh=>A.a h c λi=>A.r Yf i c λj=>A.b .lss (h0 d) j c λl=>A.test l (A.r (Ya 0) f c λm=>
 A.a m c λn=>A.s (Yb 12) n (h0 d) c λo=>A.r (Ya 0) o c λp=>A.a p c λq=>A.b .eql q x1 c λt=>A.test t (e (.aG [(h0 d),.bool true]) c) (
 A.b .add (h0 d) (jv 1) c λu=>g [u] c)) (e (.aG [jv 0,.bool false]) c)) [jv 0] c
 |_=>A.stop
theorem oC:GQ 195 2 g195:=dR [none,some [6],none,none,none] λ_ _ _ _ _ _=>by kernel_rfl
def g196:aq:=λA xs a h=>match xs with
 |[x0,x1]=>
 A.s Xx x0 x1 a λq=>A.r (ZJ .i64) q a λd=>A.b .geq d (jv 192) a λl=>A.tr l Qi d a λt=>A.tb l .lss t (jv 224) a λu=>A.c l u (.bool false) a λv=>
 au (λi=>A.test v (A.b .and d (jv 31) a λw=>i [jv 2,w,jv 128] a) (A.b .geq d (jv 224) a λm=>A.tr m Qi d a λy=>A.tb m .lss y (jv 240) a λz=>
 A.c m z (.bool false) a λa0=>A.test a0 (A.b .and d (jv 15) a λa1=>i [jv 3,a1,jv 2048] a) (A.b .geq d (jv 240) a λn=>A.tr n Qi d a λa2=>A.tb n .lss a2 (jv 248) a λa3=>
 A.c n a3 (.bool false) a λa4=>A.test a4 (A.b .and d (jv 7) a λa5=>i [jv 4,a5,jv 65536] a) (A.b .geq d (jv 128) a λa6=>A.test a6 (h (.aG [jv 0,jv 0]) a) (
 i [jv 1,d,jv 0] a))))) (λj a=>A.loop (λa7 e a=>A.b .lss (h0 e) (h0 j) a λa8=>A.test a8 (A.b .add x1 (h0 e) a λa9=>A.r Qs x0 a λb0=>
 A.b .geq a9 b0 a λf=>A.fr f Qi x0 a λb1=>A.fr f Qi x1 a λb2=>A.fr f Qi (h0 e) a λb3=>A.fb f .add b2 b3 a λb4=>A.fs f Xx b1 b4 a λb5=>
 A.fb f .and b5 (.int .u8 192) a λb6=>A.fb f .neq b6 (.int .u8 128) a λb7=>A.c f (.bool true) b7 a λb8=>A.test b8 (h (.aG [jv 0,jv 0]) a) (A.b .shl (h1 e) (.int .u64 6) a λb9=>
 A.b .add x1 (h0 e) a λc0=>A.s Xx x0 c0 a λc1=>A.b .and c1 (.int .u8 63) a λc2=>A.r (ZJ .i64) c2 a λc3=>A.b .or b9 c3 a λc4=>A.b .add (h0 e) (jv 1) a λc5=>
 a7 [c5,c4] a)) (A.b .lss (h1 e) (h2 j) a λo=>A.fr o Qi (h1 e) a λc6=>A.fb o .gtr c6 (jv 1114111) a λc7=>A.c o (.bool true) c7 a λg=>A.fr g Qi (h1 e) a λc8=>
 A.fb g .geq c8 (jv 55296) a λc9=>A.fr g Qi c9 a λp=>A.tr p Qi (h1 e) a λd0=>A.tb p .leq d0 (jv 57343) a λd1=>A.fc g p d1 (.bool false) a λd2=>
 A.c g (.bool true) d2 a λd3=>A.test d3 (h (.aG [jv 0,jv 0]) a) (h (.aG [(h1 e),(h0 j)]) a))) [jv 1,(h1 j)] a)
 |_=>A.stop
theorem oD:GQ 196 2 g196:=dR [some [7,8,9],none,none,none,none,some [10,8],none,none,none,none] λ_ _ _ _ _ _=>by kernel_rfl
def g197:aq:=λA xs a l=>match xs with
 |[x0]=>
 A.b .geq x0 (jv 97) a λf=>A.tr f Qi x0 a λm=>A.tb f .leq m (jv 122) a λn=>A.c f n (.bool false) a λe=>A.fr e Qi x0 a λo=>A.fb e .geq o (jv 65) a λp=>
 A.fr e Qi p a λg=>A.tr g Qi x0 a λq=>A.tb g .leq q (jv 90) a λr=>A.fc e g r (.bool false) a λs=>A.c e (.bool true) s a λd=>A.fr d Qi x0 a λt=>
 A.fb d .geq t (jv 192) a λu=>A.fr d Qi u a λh=>A.tr h Qi x0 a λv=>A.tb h .leq v (jv 591) a λw=>A.fc d h w (.bool false) a λy=>A.fr d Qi y a λi=>
 A.tr i Qi x0 a λz=>A.tb i .neq z (jv 215) a λa0=>A.fc d i a0 (.bool false) a λa1=>A.fr d Qi a1 a λj=>A.tr j Qi x0 a λa2=>A.tb j .neq a2 (jv 247) a λa3=>
 A.fc d j a3 (.bool false) a λa4=>A.c d (.bool true) a4 a λa5=>l a5 a
 |_=>A.stop
theorem oE:GQ 197 1 g197:=cU [] λ_ _ _ _ _=>by kernel_rfl
def g198:aq:=λA xs a e=>match xs with
 |[x0]=>
 A.b .geq x0 (jv 48) a λd=>A.tr d Qi x0 a λf=>A.tb d .leq f (jv 57) a λg=>A.c d g (.bool false) a λh=>e h a
 |_=>A.stop
theorem oF:GQ 198 1 g198:=cU [] λ_ _ _ _ _=>by kernel_rfl
def g199:aq:=λA xs a b=>match xs with
 |[]=>
 A.wr (Xi 1 13 [.str [],.str [],.str [],.str [],.str [],.str [],.str [],.str [],.str [],.str [],.str [],.str [],.str []] [(0,1),(1,1),(2,1),(3,1),(4,1),(5,1),(6,1),(7,1),(8,1),(9,1),(10,1),(11,1),(12,1)] [(.str [60,61]),(.str [61,61]),(.str [123]),(.str [125]),(.str [40]),(.str [41]),(.str [47]),(.str [44]),(.str [59]),(.str [43]),(.str [45]),(.str [42]),(.str [60])] a) a λc a=>
 b c a
 |_=>A.stop
theorem wq:GQ 199 0 g199:=vr [] λ_ _ _ _=>by kernel_rfl
def g200:aq:=λA xs d h=>match xs with
 |[x0]=>
 A.pu (Qa [x0] d) λi=>A.pu (Ya 0 [i] d) λj=>A.dr (Xf [j] d) d λl m d=>A.pu (Qa [x0] d) λn=>A.pu (Ya 1 [n] d) λo=>
 A.dr (Xf [o] d) d λp q d=>A.dr (Yb 4 [l,p] d) d λs t d=>A.dr (Zd true 4 [s] d) d λu v d=>A.dr (Xe [.int .i8 0,.str [],jv 0,jv 0] [] d) d λe w d=>
 A.dr (Xb 4 [e,u] d) d λ_ y d=>A.gd (Zh [[],[0],[0,1],[0,1,2],[],[4],[4,5],[4,5,6],[0,1,2,3,4,5,6,7],[0,1,2,3,4,5,6,7,8],[],[0,1,2,3,4,5,6,7,8,9,10]] [([],[]),([],[]),([],[]),m,([],[]),([],[]),([],[]),q,t,v,w,y]) <|
 A.k 150 [x0] d λz d=>A.r (Xp .not) z d λf=>A.fr f (Ya 0) e d λa0=>A.fa f a0 d λa1=>A.fb f .neq a1 (.int .i8 1) d λa2=>A.c f (.bool true) a2 d λg=>
 A.fr g (Ya 1) e d λa3=>A.fa g a3 d λa4=>A.gw g false (λk=>A.k 194 [a4] d k) d λa5 d=>A.c g (.bool true) a5 d λa6=>A.test a6 (A.k 152 [x0,jv 120] d λb5 d=>
 h (.str []) d) (A.r Qa x0 d λa7=>A.r (Ya 1) a7 d λa8=>A.a a8 d λa9=>A.b .add a9 (jv 1) d λb0=>A.r Qa x0 d λb1=>A.r (Ya 1) b1 d λb2=>
 A.ws (Xb 1) b2 b0 d λ_ d=>A.r (Ya 1) e d λb3=>A.a b3 d λb4=>h b4 d)
 |_=>A.stop
theorem wt:GQ 200 1 g200:=cU [none] λ_ _ _ _ _=>by kernel_rfl
def g201:aq:=λA xs c d=>match xs with
 |[x0,x1]=>
 A.k 151 [x0,x1] c λe c=>A.r (Xp .not) e c λf=>A.test f (d (.bool false) c) (A.r Qa x0 c λg=>A.r (Ya 1) g c λh=>A.a h c λi=>
 A.b .add i (jv 1) c λj=>A.r Qa x0 c λl=>A.r (Ya 1) l c λm=>A.ws (Xb 1) m j c λ_ c=>d (.bool true) c)
 |_=>A.stop
theorem wu:GQ 201 2 g201:=dR [none] λ_ _ _ _ _ _=>by kernel_rfl
def g202:aq:=λA xs d g=>match xs with
 |[x0]=>
 A.pu (Qa [x0] d) λh=>A.pu (Ya 0 [h] d) λi=>A.dr (Xf [i] d) d λj l d=>A.pu (Qa [x0] d) λm=>A.pu (Ya 1 [m] d) λn=>
 A.dr (Xf [n] d) d λo p d=>A.dr (Yb 4 [j,o] d) d λq s d=>A.dr (Zd true 4 [q] d) d λt u d=>A.dr (Xe [.int .i8 0,.str [],jv 0,jv 0] [] d) d λf v d=>
 A.dr (Xb 4 [f,t] d) d λ_ w d=>A.gd (Zh [[],[0],[0,1],[0,1,2],[],[4],[4,5],[4,5,6],[0,1,2,3,4,5,6,7],[0,1,2,3,4,5,6,7,8],[],[0,1,2,3,4,5,6,7,8,9,10]] [([],[]),([],[]),([],[]),l,([],[]),([],[]),([],[]),p,s,u,v,w]) <|
 A.k 150 [x0] d λy d=>A.r (Xp .not) y d λe=>A.fr e (Ya 0) f d λz=>A.fa e z d λa0=>A.fb e .neq a0 (.int .i8 2) d λa1=>A.c e (.bool true) a1 d λa2=>
 A.test a2 (A.k 152 [x0,jv 120] d λb1 d=>g (jv 0) d) (A.r Qa x0 d λa3=>A.r (Ya 1) a3 d λa4=>A.a a4 d λa5=>A.b .add a5 (jv 1) d λa6=>
 A.r Qa x0 d λa7=>A.r (Ya 1) a7 d λa8=>A.ws (Xb 1) a8 a6 d λ_ d=>A.r (Ya 2) f d λa9=>A.a a9 d λb0=>g b0 d)
 |_=>A.stop
theorem wv:GQ 202 1 g202:=cU [none] λ_ _ _ _ _=>by kernel_rfl
def g203:aq:=λA xs a b=>match xs with
 |[x0,x1]=>
 A.k 201 [x0,x1] a λc a=>A.r (Xp .not) c a λd=>A.test d (A.k 152 [x0,jv 120] a λe a=>b (.aG []) a) (b (.aG []) a)
 |_=>A.stop
theorem wx:GQ 203 2 g203:=dR [none] λ_ _ _ _ _ _=>by kernel_rfl
def g204:aq:=λA xs c f=>match xs with
 |[x0,x1,x2]=>
 A.loop (λg d c=>A.r Yf x1 c λh=>A.b .lss (h0 d) h c λi=>A.test i (au (λe=>A.s (Yb 1) x1 (h0 d) c λj=>A.a j c λl=>A.b .eql l x2 c λm=>
 A.test m (A.k 152 [x0,jv 101] c λq c=>e [] c) (e [] c)) (λt c=>A.b .add (h0 d) (jv 1) c λn=>g [n] c)) (A.wr (Xi 1 1 [.str []] [(0,1)] [x2] c) c λo c=>
 A.wr (Qj 1 16 [x1,o] c) c λp c=>f p c)) [jv 0] c
 |_=>A.stop
theorem wy:GQ 204 3 g204:=jN [none,some [7],none,some [],none] λ_ _ _ _ _ _ _=>by kernel_rfl
def g205:aq:=λA xs a f=>match xs with
 |[x0]=>
 A.k 203 [x0,(.str [123])] a λq a=>A.loop (λg d a=>A.k 150 [x0] a λb a=>A.tr b Qi x0 a λh=>A.gw b true (λk=>A.k 151 [h,(.str [125])] a k) a λi a=>
 A.tr b (Xp .not) i a λj=>A.c b j (.bool false) a λl=>A.test l (A.k 230 [x0] a λm a=>A.wr (Xe [.int .i8 0,.int .i8 0,.int .i8 0,jv 0,.int .i8 0,.af,.str [],.int .i8 0,.int .i8 0,.str [],.af,.af,.af,.af] [] a) a λe a=>
 A.ws (Xb 14) e m a λ_ a=>A.r (Zd true 14) e a λn=>A.wr (Xi 14 1 [.int .i8 0,.int .i8 0,.int .i8 0,jv 0,.int .i8 0,.af,.str [],.int .i8 0,.int .i8 0,.str [],.af,.af,.af,.af] [(0,14)] [n] a) a λo a=>
 A.wr (Qj 14 192 [(h0 d),o] a) a λp a=>g [p] a) (A.k 203 [x0,(.str [125])] a λs a=>f (h0 d) a)) [.af] a
 |_=>A.stop
theorem wz:GQ 205 1 g205:=cU [none,some [3],none,none] λ_ _ _ _ _=>by kernel_rfl
def g206:aq:=λA xs c o=>match xs with
 |[x0]=>
 A.loop (λp f c=>A.r Yf x0 c λq=>A.b .lss (h0 f) q c λt=>A.test t (au (λh=>A.s (Yb 14) x0 (h0 f) c λu=>A.r (Zd true 14) u c λv=>
 A.wr (Xe [.int .i8 0,.int .i8 0,.int .i8 0,jv 0,.int .i8 0,.af,.str [],.int .i8 0,.int .i8 0,.str [],.af,.af,.af,.af] [] c) c λd c=>
 A.ws (Xb 14) d v c λ_ c=>A.b .add (h1 f) (jv 1) c λi=>A.r (Ya 0) d c λw=>A.a w c λe=>A.b .eql e (.int .i8 0) c λj=>au (λg=>
 A.test j (g [j] c) (A.b .eql e (.int .i8 1) c λl=>A.test l (g [l] c) (A.b .eql e (.int .i8 2) c λm=>A.test m (g [m] c) (A.b .eql e (.int .i8 3) c λn=>
 A.test n (g [n] c) (A.b .eql e (.int .i8 5) c λy=>g [y] c))))) (λz c=>A.test (h0 z) (A.r (Ya 2) d c λa0=>A.r (Zd true 4) a0 c λa1=>
 A.k 231 [a1] c λa2 c=>A.b .add i a2 c λa3=>h [a3] c) (A.b .eql e (.int .i8 8) c λa4=>A.test a4 (A.pu (Ya 7 [d] c) λa5=>A.dr (Zd true 5 [a5] c) c λa6 a7 c=>
 A.aE (.call 232) [a6] c λa8 a9 c=>A.pu (Yj .add false [i,a8] c) λb0=>A.pu (Ya 12 [d] c) λb1=>A.dr (Xf [b1] c) c λb2 b3 c=>A.aE (.call 206) [b2] c λb4 b5 c=>
 A.pu (Yj .add false [b0,b4] c) λb6=>A.pu (Ya 13 [d] c) λb7=>A.dr (Xf [b7] c) c λb8 b9 c=>A.aE (.call 206) [b8] c λc0 c1 c=>
 A.pu (Yj .add false [b6,c0] c) λc2=>A.gd (Zh [[],[],[1],[1,2],[0,1,2,3],[],[5],[1,2,3,5,6],[0,1,2,3,4,5,6,7],[],[9],[1,2,3,5,6,7,9,10],[0,1,2,3,4,5,6,7,8,9,10,11],[0,1,2,3,4,5,6,7,8,9,10,11,12]] [([],[]),([],[]),a7,a9,([],[]),([],[]),b3,b5,([],[]),([],[]),b9,c1,([],[]),([],[])]) <|
 h [c2] c) (h [i] c)))) (λv5 c=>A.b .add (h0 f) (jv 1) c λc3=>p [c3,(h0 v5)] c)) (o (h1 f) c)) [jv 0,jv 0] c
 |_=>A.stop
theorem wA:GQ 206 1 g206:=cU [none,some [4,3],none,some [3],none,some [20],none,none,none,none,none] λ_ _ _ _ _=>by kernel_rfl
def g207:aq:=λA xs a c=>match xs with
 |[x0]=>
 A.k 200 [x0] a λd a=>A.wr (Xi 1 1 [.str []] [(0,1)] [d] a) a λe a=>A.loop (λf b a=>A.k 201 [x0,(.str [44])] a λg a=>A.test g (A.k 200 [x0] a λh a=>
 A.wr (Xi 1 1 [.str []] [(0,1)] [h] a) a λi a=>A.wr (Qj 1 16 [(h0 b),i] a) a λj a=>f [j] a) (c (h0 b) a)) [e] a
 |_=>A.stop
theorem wB:GQ 207 1 g207:=cU [none,some [4],none,none] λ_ _ _ _ _=>by kernel_rfl
def g208:aq:=λA xs c m=>match xs with
 |[x0,x1]=>
 A.call .cH [x1,x0] c λz c=>A.r (Xp .not) z c λt1=>A.test t1 (m (.bool false) c) (au (λe=>A.r (DH 272 true (.agg [.bQ])) x0 c λp=>
 A.r (Xc 1) p c λt5=>A.r (Xc 0) p c λt6=>A.test t5 (A.wr (Xe [.bQ] [] c) c λd c=>A.ws (Xb 1) d t6 c λ_ c=>A.r (Ya 0) d c λt8=>
 A.a t8 c λt9=>A.r Qa t9 c λa0=>A.r (Ya 0) a0 c λa1=>A.a a1 c λa2=>A.k 210 [a2] c λa3 c=>au (λq=>A.test a3 (A.r (Ya 0) d c λa4=>
 A.a a4 c λa5=>A.r Qa a5 c λa6=>A.r (Ya 2) a6 c λa7=>A.rd (Qe [.bQ] [(0,1)] [a7] c) λa8=>A.r (YC 290) a8 c λa9=>
 A.wr (Xi 1 1 [.dX] [(0,1)] [a9] c) c λb0 c=>A.wr (Qj 1 16 [.af,b0] c) c λb1 c=>q [b1] c) (q [.af] c)) (λt c=>A.r (Ya 0) d c λb2=>
 A.a b2 c λb3=>A.r Qa b3 c λb4=>A.r (Ya 0) b4 c λb5=>A.a b5 c λb6=>A.b .eql b6 (.int .i8 8) c λb7=>A.test b7 (A.r (Ya 0) d c λb8=>
 A.a b8 c λb9=>A.r Qa b9 c λc0=>A.r (Ya 7) c0 c λc1=>A.rd (Qe [.bQ] [(0,1)] [c1] c) λc2=>A.r (YC 292) c2 c λc3=>
 A.wr (Xi 1 1 [.dX] [(0,1)] [c3] c) c λc4 c=>A.wr (Qj 1 16 [(h0 t),c4] c) c λc5 c=>A.r (Ya 0) d c λc6=>A.a c6 c λc7=>A.r Qa c7 c λc8=>
 A.r (Ya 12) c8 c λc9=>A.a c9 c λd0=>A.r (Ya 0) d c λd1=>A.a d1 c λd2=>A.r Qa d2 c λd3=>A.r (Ya 13) d3 c λd4=>
 A.a d4 c λd5=>A.rd (Qe [.af,.af] [(0,1),(1,1)] [d0,d5] c) λd6=>A.loop (λd7 f c=>A.b .lss (h0 f) (jv 2) c λd8=>A.test d8 (A.s (tE false 2 1) d6 (h0 f) c λu=>
 A.r Yf u c λd9=>A.loop (λe0 g c=>A.b .lss (h0 g) d9 c λe1=>A.test e1 (A.s (Yb 14) u (h0 g) c λe2=>A.rd (Qe [.bQ] [(0,1)] [e2] c) λe3=>
 A.r (YC 272) e3 c λe4=>A.wr (Xi 1 1 [.dX] [(0,1)] [e4] c) c λe5 c=>A.wr (Qj 1 16 [(h1 g),e5] c) c λe6 c=>A.b .add (h0 g) (jv 1) c λe7=>
 e0 [e7,e6] c) (A.b .add (h0 f) (jv 1) c λe8=>d7 [e8,(h1 g)] c)) [jv 0,(h1 f)] c) (e [(h1 f)] c)) [jv 0,c5] c) (e [(h0 t)] c))) (A.r (DH 290 true (.agg [.bQ])) x0 c λv=>
 A.r (Xc 1) v c λe9=>A.r (Xc 0) v c λf0=>A.test e9 (A.wr (Xe [.bQ] [] c) c λn c=>A.ws (Xb 1) n f0 c λ_ c=>A.r (Ya 0) n c λf1=>
 A.a f1 c λf2=>A.r Qa f2 c λf3=>A.r (Ya 3) f3 c λf4=>A.a f4 c λf5=>A.r Yf f5 c λf6=>A.loop (λf7 h c=>A.b .lss (h0 h) f6 c λf8=>
 A.test f8 (A.r (Ya 0) n c λf9=>A.a f9 c λg0=>A.r Qa g0 c λg1=>A.r (Ya 3) g1 c λg2=>A.a g2 c λg3=>A.s (Yb 4) g3 (h0 h) c λg4=>
 A.rd (Qe [.bQ] [(0,1)] [g4] c) λg5=>A.r (YC 290) g5 c λg6=>A.wr (Xi 1 1 [.dX] [(0,1)] [g6] c) c λg7 c=>A.wr (Qj 1 16 [(h1 h),g7] c) c λg8 c=>
 A.b .add (h0 h) (jv 1) c λg9=>f7 [g9,g8] c) (e [(h1 h)] c)) [jv 0,.af] c) (A.r (DH 292 true (.agg [.bQ])) x0 c λw=>A.r (Xc 1) w c λi0=>
 A.r (Xc 0) w c λi1=>A.test i0 (A.wr (Xe [.bQ] [] c) c λi c=>A.ws (Xb 1) i i1 c λ_ c=>A.r (Ya 0) i c λi2=>A.a i2 c λi3=>
 A.r Qa i3 c λi4=>A.r (Ya 3) i4 c λi5=>A.a i5 c λi6=>A.r Yf i6 c λi7=>A.loop (λi9 j c=>A.b .lss (h0 j) i7 c λj0=>A.test j0 (
 A.r (Ya 0) i c λj1=>A.a j1 c λj2=>A.r Qa j2 c λj3=>A.r (Ya 3) j3 c λj4=>A.a j4 c λj5=>A.s (Yb 4) j5 (h0 j) c λj6=>
 A.rd (Qe [.bQ] [(0,1)] [j6] c) λj7=>A.r (YC 290) j7 c λj8=>A.wr (Xi 1 1 [.dX] [(0,1)] [j8] c) c λj9 c=>A.wr (Qj 1 16 [(h1 j),j9] c) c λl0 c=>
 A.b .add (h0 j) (jv 1) c λl1=>i9 [l1,l0] c) (A.r (Ya 0) i c λl2=>A.a l2 c λl3=>A.r Qa l3 c λl4=>A.r (Ya 4) l4 c λl5=>
 A.a l5 c λl6=>A.r Yf l6 c λl7=>A.loop (λl8 l c=>A.b .lss (h0 l) l7 c λl9=>A.test l9 (A.r (Ya 0) i c λm0=>A.a m0 c λm1=>A.r Qa m1 c λm2=>
 A.r (Ya 4) m2 c λm3=>A.a m3 c λm4=>A.s (Yb 5) m4 (h0 l) c λm5=>A.rd (Qe [.bQ] [(0,1)] [m5] c) λm6=>A.r (YC 292) m6 c λm7=>
 A.wr (Xi 1 1 [.dX] [(0,1)] [m7] c) c λm8 c=>A.wr (Qj 1 16 [(h1 l),m8] c) c λm9 c=>A.b .add (h0 l) (jv 1) c λn0=>l8 [n0,m9] c) (e [(h1 l)] c)) [jv 0,(h1 j)] c)) [jv 0,.af] c) (
 e [.af] c)))) (λy c=>A.r Yf (h0 y) c λn1=>A.loop (λn2 o c=>A.b .lss (h0 o) n1 c λn3=>A.test n3 (A.s (Yb 1) (h0 y) (h0 o) c λn4=>
 A.a n4 c λn5=>A.k 208 [n5,x1] c λn6 c=>A.r (Xp .not) n6 c λn7=>A.test n7 (m (.bool false) c) (A.b .add (h0 o) (jv 1) c λn8=>n2 [n8] c)) (m (.bool true) c)) [jv 0] c))
 |_=>A.stop
theorem lS:GQ 208 2 g208:=dR [none,some [5],none,some [5],none,none,some [66,5],none,none,none,some [71,5],none,none,none,none,some [93,5],none,none,none,none,some [118,5],none,none,none,some [140,5],none,none,none,some [158],none,none,none] λ_ _ _ _ _ _=>by kernel_rfl
def g209:aq:=λA xs d s=>match xs with
 |[x0]=>
 A.r Qa x0 d λt=>A.r (Ya 0) t d λu=>A.a u d λv=>A.k 210 [v] d λf d=>A.fr f Qi x0 d λw=>A.fr f Qa w d λy=>A.fr f (Ya 2) y d λz=>
 A.fr f (Ya 0) z d λt7=>A.fa f t7 d λt8=>A.fb f .eql t8 (.int .i8 0) d λt9=>A.fr f Qi t9 d λi=>A.tr i Qi x0 d λa0=>A.tr i Qa a0 d λa1=>
 A.tr i (Ya 2) a1 d λa2=>A.tr i (Ya 1) a2 d λa3=>A.ta i a3 d λa4=>A.tb i .eql a4 (jv 0) d λa5=>A.fc f i a5 (.bool false) d λa6=>
 A.fr f Qi a6 d λj=>A.tr j Qi x0 d λa7=>A.tr j Qa a7 d λa8=>A.tr j (Ya 2) a8 d λa9=>A.tr j (Ya 2) a9 d λb0=>A.ta j b0 d λb1=>
 A.tb j .eql b1 (.int .i8 0) d λb2=>A.fc f j b2 (.bool false) d λb3=>A.fr f Qi b3 d λh=>A.tr h Qi x0 d λb4=>A.tr h Qa b4 d λb5=>A.tr h (Ya 2) b5 d λb6=>
 A.tr h (Ya 3) b6 d λb7=>A.ta h b7 d λb8=>A.tr h Yf b8 d λb9=>A.tb h .eql b9 (jv 0) d λc0=>A.fc f h c0 (.bool false) d λc1=>A.c f (.bool true) c1 d λp=>
 A.r Qa x0 d λc2=>A.r (Ya 0) c2 d λc3=>A.a c3 d λc4=>A.b .eql c4 (.int .i8 7) d λl=>A.fr l Qi x0 d λc5=>A.fr l Qa c5 d λc6=>
 A.fr l (Ya 6) c6 d λc7=>A.fa l c7 d λc8=>A.zG l (Yj .eql false [c8,.str []] d) λc9=>A.c l (.bool true) c9 d λd0=>A.r Qa x0 d λd1=>
 A.r (Ya 7) d1 d λo=>A.r Qa x0 d λd2=>A.r (Ya 0) d2 d λd3=>A.a d3 d λd4=>A.b .eql d4 (.int .i8 8) d λg=>A.fr g Qi o d λd5=>
 A.fr g Qa d5 d λd6=>A.fr g (Ya 0) d6 d λd7=>A.fa g d7 d λd8=>A.fb g .eql d8 (.int .i8 0) d λd9=>A.fr g Qi d9 d λm=>A.tr m Qi o d λe0=>
 A.tr m Qa e0 d λe1=>A.tr m (Ya 1) e1 d λe2=>A.ta m e2 d λe3=>A.tb m .eql e3 (.int .i8 0) d λe4=>A.fc g m e4 (.bool false) d λe5=>
 A.fr g Qi e5 d λn=>A.tr n Qi o d λe6=>A.tr n Qa e6 d λe7=>A.tr n (Ya 2) e7 d λe8=>A.ta n e8 d λe9=>A.th n (Yj .eql false [e9,.str []] d) λf0=>
 A.fc g n f0 (.bool false) d λf1=>A.fr g Qi f1 d λe=>A.tr e Qi o d λf2=>A.tr e Qa f2 d λf3=>A.tr e (Ya 3) f3 d λf4=>A.ta e f4 d λf5=>
 A.tr e Yf f5 d λf6=>A.tr e Qi o d λf7=>A.tr e Qa f7 d λf8=>A.tr e (Ya 4) f8 d λf9=>A.ta e f9 d λg0=>A.tr e Yf g0 d λg1=>
 A.tb e .add f6 g1 d λg2=>A.tr e Qi x0 d λg3=>A.tr e Qa g3 d λg4=>A.tr e (Ya 12) g4 d λg5=>A.ta e g5 d λg6=>A.tr e Yf g6 d λg7=>
 A.tb e .add g2 g7 d λg8=>A.tr e Qi x0 d λg9=>A.tr e Qa g9 d λi0=>A.tr e (Ya 13) i0 d λi1=>A.ta e i1 d λi2=>A.tr e Yf i2 d λi3=>
 A.tb e .add g8 i3 d λi4=>A.tb e .eql i4 (jv 0) d λi5=>A.fc g e i5 (.bool false) d λi6=>A.c g (.bool true) i6 d λi7=>A.tr p Qi d0 d λi9=>A.c p i9 (.bool false) d λq=>
 A.tr q Qi i7 d λj0=>A.c q j0 (.bool false) d λj1=>s j1 d
 |_=>A.stop
theorem lT:GQ 209 1 g209:=cU [] λ_ _ _ _ _=>by kernel_rfl
def g210:aq:=λA xs a d=>match xs with
 |[x0]=>
 A.b .eql x0 (.int .i8 0) a λe=>au (λc=>A.test e (c [e] a) (A.b .eql x0 (.int .i8 1) a λf=>A.test f (c [f] a) (A.b .eql x0 (.int .i8 2) a λg=>
 A.test g (c [g] a) (A.b .eql x0 (.int .i8 3) a λh=>A.test h (c [h] a) (A.b .eql x0 (.int .i8 5) a λi=>c [i] a))))) (λj a=>A.test (h0 j) (d (.bool true) a) (
 d (.bool false) a))
 |_=>A.stop
theorem jc:GQ 210 1 g210:=cU [none,some [4],none,none,none,none] λ_ _ _ _ _=>by kernel_rfl
def g211:aq:=λA xs d l=>match xs with
 |[x0,x1]=>
 A.r Qa x1 d λt0=>A.r (Ya 1) t0 d λt1=>A.a t1 d λt2=>A.b .eql t2 (jv 0) d λm=>A.r Qa x1 d λt4=>A.r (Ya 2) t4 d λt5=>
 A.a t5 d λt6=>A.b .eql t6 (.int .i8 0) d λf=>A.r Qa x1 d λt8=>A.r (Ya 0) t8 d λt9=>A.a t9 d λe=>au (λi=>A.b .eql e (.int .i8 0) d λa3=>
 A.test a3 (A.r Qa x1 d λa4=>A.r (Ya 1) a4 d λa5=>A.a a5 d λa6=>A.b .geq a6 (jv 0) d λh=>A.tr h Qi x1 d λa7=>A.tr h Qa a7 d λa8=>
 A.tr h (Ya 1) a8 d λa9=>A.ta h a9 d λb0=>A.tb h .leq b0 (jv 999) d λb1=>A.c h b1 (.bool false) d λb2=>i [b2,f,jv 0] d) (A.b .eql e (.int .i8 1) d λt=>
 au (λn=>A.test t (n [t] d) (A.b .eql e (.int .i8 2) d λu=>A.test u (n [u] d) (A.b .eql e (.int .i8 3) d λv=>A.test v (n [v] d) (A.b .eql e (.int .i8 4) d λb3=>
 n [b3] d)))) (λb4 d=>A.test (h0 b4) (A.r Qa x1 d λb5=>A.r (Ya 2) b5 d λb6=>A.a b6 d λb7=>A.k 212 [b7] d λb8 d=>i [m,b8,jv 0] d) (
 A.b .eql e (.int .i8 5) d λw=>au (λy=>A.test w (y [w] d) (A.b .eql e (.int .i8 6) d λb9=>y [b9] d)) (λc0 d=>A.test (h0 c0) (i [m,f,jv 0] d) (
 A.b .eql e (.int .i8 7) d λc1=>A.test c1 (A.tr f Qi x0 d λc2=>A.tr f Qa c2 d λc3=>A.tr f (Ya 1) c3 d λc4=>A.ta f c4 d λc5=>
 A.c f c5 (.bool false) d λc6=>i [m,c6,jv 0] d) (A.b .eql e (.int .i8 8) d λz=>au (λj=>A.test z (j [z] d) (A.b .eql e (.int .i8 9) d λa0=>
 A.test a0 (j [a0] d) (A.b .eql e (.int .i8 10) d λa1=>A.test a1 (j [a1] d) (A.b .eql e (.int .i8 11) d λa2=>A.test a2 (j [a2] d) (A.b .eql e (.int .i8 12) d λc7=>
 j [c7] d))))) (λc8 d=>A.test (h0 c8) (i [m,f,jv 2] d) (l (.bool false) d))))))))) (λo d=>A.r (Xp .not) (h0 o) d λp=>A.fr p Qi (h1 o) d λc9=>
 A.fr p (Xp .not) c9 d λd0=>A.c p (.bool true) d0 d λg=>A.fr g Qi x1 d λd1=>A.fr g Qa d1 d λd2=>A.fr g (Ya 3) d2 d λd3=>
 A.fa g d3 d λd4=>A.fr g Yf d4 d λd5=>A.fr g Qi (h2 o) d λd6=>A.fb g .neq d5 d6 d λd7=>A.c g (.bool true) d7 d λd8=>A.test d8 (l (.bool false) d) (
 A.r Qa x1 d λd9=>A.r (Ya 3) d9 d λe0=>A.a e0 d λe1=>A.r Yf e1 d λe2=>A.loop (λe3 q d=>A.b .lss (h0 q) e2 d λe4=>A.test e4 (
 A.r Qa x1 d λe5=>A.r (Ya 3) e5 d λe6=>A.a e6 d λe7=>A.s (Yb 4) e7 (h0 q) d λe8=>A.k 211 [x0,e8] d λe9 d=>A.r (Xp .not) e9 d λf0=>
 A.test f0 (l (.bool false) d) (A.b .add (h0 q) (jv 1) d λf1=>e3 [f1] d)) (l (.bool true) d)) [jv 0] d))
 |_=>A.stop
theorem jd:GQ 211 2 g211:=dR [some [6,7,5],none,some [37],none,none,none,some [47],none,none,some [59],none,none,none,none,none,none,some [85],none,none,none] λ_ _ _ _ _ _=>by kernel_rfl
def g212:aq:=λA xs a e=>match xs with
 |[x0]=>
 A.b .eql x0 (.int .i8 0) a λd=>A.fr d Qi x0 a λf=>A.fb d .eql f (.int .i8 1) a λg=>A.c d (.bool true) g a λh=>e h a
 |_=>A.stop
theorem gV:GQ 212 1 g212:=cU [] λ_ _ _ _ _=>by kernel_rfl
def g213:aq:=λA xs d j=>match xs with
 |[x0,x1]=>
 A.r Qa x1 d λz=>A.r (Ya 1) z d λt1=>A.a t1 d λt2=>A.b .eql t2 (.int .i8 0) d λh=>A.tr h Qi x1 d λt4=>A.tr h Qa t4 d λt5=>
 A.tr h (Ya 2) t5 d λt6=>A.ta h t6 d λt7=>A.th h (Yj .eql false [t7,.str []] d) λt8=>A.c h t8 (.bool false) d λm=>A.r Qa x1 d λa0=>
 A.r (Ya 0) a0 d λa1=>A.a a1 d λg=>au (λl=>A.b .eql g (.int .i8 0) d λt=>au (λn=>A.test t (n [t] d) (A.b .eql g (.int .i8 1) d λu=>
 A.test u (n [u] d) (A.b .eql g (.int .i8 2) d λa2=>n [a2] d))) (λa3 d=>A.test (h0 a3) (l [m,jv 2,jv 0] d) (A.b .eql g (.int .i8 3) d λa4=>A.test a4 (
 l [m,jv 0,jv 1] d) (A.b .eql g (.int .i8 4) d λv=>au (λw=>A.test v (w [v] d) (A.b .eql g (.int .i8 5) d λa5=>w [a5] d)) (λa6 d=>A.test (h0 a6) (
 l [m,jv 0,jv 2] d) (A.b .eql g (.int .i8 6) d λa7=>A.test a7 (A.r Qa x0 d λa8=>A.r (Ya 0) a8 d λa9=>A.a a9 d λb0=>A.r Qa x1 d λb1=>
 A.r (Ya 2) b1 d λb2=>A.a b2 d λb3=>A.s (Qr true true (.bool false)) b0 b3 d λy=>A.r (Xc 0) y d λg1=>A.r (Xc 1) y d λi=>
 A.tr i Qi x1 d λb4=>A.tr i Qa b4 d λb5=>A.tr i (Ya 1) b5 d λb6=>A.ta i b6 d λb7=>A.gw i true (λk=>A.k 212 [b7] d k) d λb8 d=>
 A.c i b8 (.bool false) d λb9=>l [b9,jv 0,jv 0] d) (j (.bool false) d))))))) (λo d=>A.r (Xp .not) (h0 o) d λe=>A.fr e Qi x1 d λc0=>A.fr e Qa c0 d λc1=>
 A.fr e (Ya 3) c1 d λc2=>A.fa e c2 d λc3=>A.fr e Yf c3 d λc4=>A.fr e Qi (h1 o) d λc5=>A.fb e .neq c4 c5 d λc6=>A.c e (.bool true) c6 d λf=>
 A.fr f Qi x1 d λc7=>A.fr f Qa c7 d λc8=>A.fr f (Ya 4) c8 d λc9=>A.fa f c9 d λd0=>A.fr f Yf d0 d λd1=>A.fr f Qi (h2 o) d λd2=>
 A.fb f .neq d1 d2 d λd3=>A.c f (.bool true) d3 d λd4=>A.test d4 (j (.bool false) d) (A.r Qa x1 d λd5=>A.r (Ya 3) d5 d λd6=>A.a d6 d λd7=>
 A.r Yf d7 d λd8=>A.loop (λd9 p d=>A.b .lss (h0 p) d8 d λe0=>A.test e0 (A.r Qa x1 d λe1=>A.r (Ya 3) e1 d λe2=>A.a e2 d λe3=>
 A.s (Yb 4) e3 (h0 p) d λe4=>A.k 211 [x0,e4] d λe5 d=>A.r (Xp .not) e5 d λe6=>A.test e6 (j (.bool false) d) (A.b .add (h0 p) (jv 1) d λe7=>
 d9 [e7] d)) (A.r Qa x1 d λe8=>A.r (Ya 4) e8 d λe9=>A.a e9 d λf0=>A.r Yf f0 d λf1=>A.loop (λf2 q d=>A.b .lss (h0 q) f1 d λf3=>
 A.test f3 (A.r Qa x1 d λf4=>A.r (Ya 4) f4 d λf5=>A.a f5 d λf6=>A.s (Yb 5) f6 (h0 q) d λf7=>A.k 213 [x0,f7] d λf8 d=>
 A.r (Xp .not) f8 d λf9=>A.test f9 (j (.bool false) d) (A.b .add (h0 q) (jv 1) d λg0=>f2 [g0] d)) (j (.bool true) d)) [jv 0] d)) [jv 0] d))
 |_=>A.stop
theorem kl:GQ 213 2 g213:=dR [some [7,5,6],some [26],none,none,none,some [32],none,none,none,none,some [82],none,none,none,none,some [100],none,none,none] λ_ _ _ _ _ _=>by kernel_rfl
def g215:aq:=λA xs a g=>match xs with
 |[x0,x1,x2,x3]=>
 A.loop (λi e a=>A.b .mul (jv 2) (h0 e) a λj=>A.b .add j (jv 1) a λd=>A.b .geq d x2 a λl=>A.test l (g (.aG []) a) (A.pu (Yj .add false [d,jv 1] a) λm=>
 A.pu (Yj .lss false [m,x2] a) λc=>A.gr c true (λk=>A.pu (Qi [x0] a) k) λn=>A.gr c true (λk=>A.pu (Qi [x3] a) k) λo=>A.gr c true (λk=>A.pu (Qi [d] a) k) λp=>
 A.gr c true (λk=>A.pu (Yj .add false [o,p] a) k) λq=>A.gl c true (λk=>A.dr (Yb 1 [n,q] a) a k) a λr s a=>A.gl c true (λk=>A.dr (Xf [r] a) a k) a λt u a=>
 A.gr c true (λk=>A.pu (Qi [x0] a) k) λv=>A.gr c true (λk=>A.pu (Qi [x3] a) k) λw=>A.gr c true (λk=>A.pu (Qi [d] a) k) λy=>A.gr c true (λk=>A.pu (Yj .add false [w,y] a) k) λz=>
 A.gr c true (λk=>A.pu (Yj .add false [z,jv 1] a) k) λa0=>A.gl c true (λk=>A.dr (Yb 1 [v,a0] a) a k) a λa1 a2 a=>A.gl c true (λk=>A.dr (Xf [a1] a) a k) a λa3 a4 a=>
 A.gl c true (λk=>A.aE (.call 169) [t,a3] a k) a λa5 a6 a=>A.pu (Xo [c,a5,.bool false] a) λa7=>A.gd (Zh [[],[0],[],[0,1,2],[0,1,2,3],[0,1,2,3,4],[0,1,2,3,4],[0,1,2,3,4],[0,1,2,3,4,6,7],[0,1,2,3,4,5,6,7,8],[0,1,2,3,4,5,6,7,8,9],[0,1,2,3,4],[0,1,2,3,4],[0,1,2,3,4],[0,1,2,3,4,12,13],[0,1,2,3,4,12,13,14],[0,1,2,3,4,11,12,13,14,15],[0,1,2,3,4,11,12,13,14,15,16],[0,1,2,3,4,5,6,7,8,9,10,11,12,13,14,15,16,17],[0,1,2,3,4,5,6,7,8,9,10,11,12,13,14,15,16,17,18]] [([],[]),([],[]),([],[]),([],[]),([],[]),([],[]),([],[]),([],[]),([],[]),s,u,([],[]),([],[]),([],[]),([],[]),([],[]),a2,a4,a6,([],[])]) <|
 au (λh=>A.test a7 (A.b .add d (jv 1) a λa8=>h [a8] a) (h [d] a)) (λf a=>A.pu (Yj .add false [x3,(h0 e)] a) λa9=>A.dr (Yb 1 [x0,a9] a) a λb0 b1 a=>
 A.dr (Xf [b0] a) a λb2 b3 a=>A.pu (Yj .add false [x3,(h0 f)] a) λb4=>A.dr (Yb 1 [x0,b4] a) a λb5 b6 a=>A.dr (Xf [b5] a) a λb7 b8 a=>
 A.aE (.call 169) [b2,b7] a λb9 c0 a=>A.pu (Xp .not [b9] a) λc1=>A.gd (Zh [[],[],[],[1,2],[0,1,2,3],[0,1,2,3,4],[],[],[],[7,8],[6,7,8,9],[6,7,8,9,10],[0,1,2,3,4,5,6,7,8,9,10,11],[0,1,2,3,4,5,6,7,8,9,10,11,12]] [([],[]),([],[]),([],[]),([],[]),b1,b3,([],[]),([],[]),([],[]),([],[]),b6,b8,c0,([],[])]) <|
 A.test c1 (g (.aG []) a) (A.pu (Yj .add false [x3,(h0 e)] a) λc2=>A.pu (Yj .add false [x3,(h0 f)] a) λc3=>A.pu (Yj .add false [x3,(h0 f)] a) λc4=>
 A.dr (Yb 1 [x0,c4] a) a λc5 c6 a=>A.dr (Xf [c5] a) a λc7 c8 a=>A.pu (Yj .add false [x3,(h0 e)] a) λc9=>A.dr (Yb 1 [x0,c9] a) a λd0 d1 a=>
 A.dr (Xf [d0] a) a λd2 d3 a=>A.dr (Yb 1 [x0,c2] a) a λd4 d5 a=>A.dr (Xb 1 [d4,c7] a) a λ_ d6 a=>A.dr (Yb 1 [x0,c3] a) a λd7 d8 a=>
 A.dr (Xb 1 [d7,d2] a) a λ_ d9 a=>A.gd (Zh [[],[],[],[1,2],[],[],[],[5,6],[],[],[],[9,10],[8,9,10,11],[8,9,10,11,12],[],[],[],[15,16],[14,15,16,17],[14,15,16,17,18],[0,1,2,3,8,9,10,11,12,13,14,15,16,17,18,19],[0,1,2,3,8,9,10,11,12,13,14,15,16,17,18,19,20],[0,1,2,3,4,5,6,7,8,9,10,11,12,13,14,15,16,17,18,19,20,21],[0,1,2,3,4,5,6,7,8,9,10,11,12,13,14,15,16,17,18,19,20,21,22]] [([],[]),([],[]),([],[]),([],[]),([],[]),([],[]),([],[]),([],[]),([],[]),([],[]),([],[]),([],[]),c6,c8,([],[]),([],[]),([],[]),([],[]),d1,d3,d5,d6,d8,d9]) <|
 i [(h0 f)] a)))) [x1] a
 |_=>A.stop
theorem wC:GQ 215 4 g215:=vt [none,some [8],none,none,some [9],none] λ_ _ _ _ _ _ _ _=>by kernel_rfl
def g216:aq:=λA xs a c=>match xs with
 |[x0]=>
 A.r (ZJ .u64) x0 a λd=>A.k 129 [d] a λe a=>A.b .shl (.int .u64 1) e a λf=>c f a
 |_=>A.stop
theorem wD:GQ 216 1 g216:=cU [] λ_ _ _ _ _=>by kernel_rfl
def g217:aq:=λA xs b c=>match xs with
 |[x0]=>
 A.pu (Qa [x0] b) λd=>A.dr (Xf [d] b) b λe f b=>A.pu (Qa [x0] b) λg=>A.dr (Xf [g] b) b λh i b=>A.pu (Yj .shl false [h,.int .u64 13] b) λj=>
 A.pu (Yj .xor false [e,j] b) λl=>A.pu (Qa [x0] b) λm=>A.dr (Xb 1 [m,l] b) b λ_ n b=>A.gd (Zh [[],[0],[0,1],[],[3],[3,4],[3,4,5],[0,1,2,3,4,5,6],[0,1,2,3,4,5,6,7],[0,1,2,3,4,5,6,7,8]] [([],[]),([],[]),f,([],[]),([],[]),i,([],[]),([],[]),([],[]),n]) <|
 A.pu (Qa [x0] b) λo=>A.dr (Xf [o] b) b λp q b=>A.pu (Qa [x0] b) λs=>A.dr (Xf [s] b) b λt u b=>A.pu (Yj .shr false [t,.int .u64 7] b) λv=>
 A.pu (Yj .xor false [p,v] b) λw=>A.pu (Qa [x0] b) λy=>A.dr (Xb 1 [y,w] b) b λ_ z b=>A.gd (Zh [[],[0],[0,1],[],[3],[3,4],[3,4,5],[0,1,2,3,4,5,6],[0,1,2,3,4,5,6,7],[0,1,2,3,4,5,6,7,8]] [([],[]),([],[]),q,([],[]),([],[]),u,([],[]),([],[]),([],[]),z]) <|
 A.pu (Qa [x0] b) λa0=>A.dr (Xf [a0] b) b λa1 a2 b=>A.pu (Qa [x0] b) λa3=>A.dr (Xf [a3] b) b λa4 a5 b=>A.pu (Yj .shl false [a4,.int .u64 17] b) λa6=>
 A.pu (Yj .xor false [a1,a6] b) λa7=>A.pu (Qa [x0] b) λa8=>A.dr (Xb 1 [a8,a7] b) b λ_ a9 b=>A.gd (Zh [[],[0],[0,1],[],[3],[3,4],[3,4,5],[0,1,2,3,4,5,6],[0,1,2,3,4,5,6,7],[0,1,2,3,4,5,6,7,8]] [([],[]),([],[]),a2,([],[]),([],[]),a5,([],[]),([],[]),([],[]),a9]) <|
 A.r Qa x0 b λb0=>A.a b0 b λb1=>c b1 b
 |_=>A.stop
theorem wE:GQ 217 1 g217:=cU [] λ_ _ _ _ _=>by kernel_rfl
def g218:aq:=λA xs a c=>match xs with
 |[x0,x1,x2]=>
 A.b .sub x1 (jv 1) a λd=>A.b .add x1 (jv 1) a λe=>A.k 219 [x0,d,x1,e,x2] a λf a=>c f a
 |_=>A.stop
theorem wF:GQ 218 3 g218:=jN [] λ_ _ _ _ _ _ _=>by kernel_rfl
def g219:aq:=λA xs a e=>match xs with
 |[x0,x1,x2,x3,x4]=>
 A.k 234 [x0,x1,x2,x4] a λb a=>A.r (Xc 0) b a λf=>A.r (Xc 1) b a λg=>A.k 234 [x0,g,x3,x4] a λc a=>A.r (Xc 0) c a λh=>
 A.r (Xc 1) c a λj=>A.k 234 [x0,f,h,x4] a λd a=>A.r (Xc 0) d a λl=>A.r (Xc 1) d a λi=>e i a
 |_=>A.stop
theorem wG:GQ 219 5 g219:=Ku [] λ_ _ _ _ _ _ _ _ _=>by kernel_rfl
def g220:aq:=λA xs a c=>match xs with
 |[x0]=>
 A.b .neq x0 x0 a λd=>c d a
 |_=>A.stop
theorem wH:GQ 220 1 g220:=cU [] λ_ _ _ _ _=>by kernel_rfl
def g221:aq:=λA xs d i=>match xs with
 |[x0,x1]=>
 A.r Qa x0 d λt=>A.r (Ya 2) t d λu=>A.a u d λv=>A.r Qa x0 d λw=>A.r (Ya 3) w d λy=>A.a y d λz=>A.r Qa x0 d λt6=>
 A.r (Ya 4) t6 d λt7=>A.a t7 d λt8=>A.r Qa x0 d λt9=>A.r (Ya 5) t9 d λa0=>A.a a0 d λa1=>A.r Qa x0 d λa2=>
 A.r (Ya 6) a2 d λa3=>A.a a3 d λa4=>A.r Qa x0 d λa5=>A.r (Ya 7) a5 d λa6=>A.a a6 d λa7=>A.rd (Qe [jv 0,jv 0,jv 0,jv 0,jv 0,jv 0] [(0,1),(1,1),(2,1),(3,1),(4,1),(5,1)] [v,z,t8,a1,a4,a7] d) λa8=>
 A.loop (λa9 l d=>A.b .lss (h0 l) (jv 6) d λb0=>A.test b0 (A.s (tE false 6 1) a8 (h0 l) d λo=>A.b .lss o (jv 0) d λm=>A.fr m Qi o d λb1=>
 A.fb m .gtr b1 (jv 999) d λb2=>A.c m (.bool true) b2 d λb3=>A.test b3 (i (.bool false) d) (A.b .add (h0 l) (jv 1) d λb4=>a9 [b4] d)) (A.r Qa x0 d λb5=>
 A.r (Ya 0) b5 d λb6=>A.a b6 d λb7=>A.k 223 [b7] d λb8 d=>A.r (Xp .not) b8 d λp=>au (λn=>A.test p (n [p] d) (A.r Qa x0 d λb9=>
 A.r (Zd true 12) b9 d λc0=>A.k 124 [c0] d λc1 d=>A.b .gtr c1 (jv 200) d λq=>A.test q (n [q] d) (A.r Qa x0 d λc2=>A.r (Ya 1) c2 d λc3=>
 A.a c3 d λh=>A.tr h Qi x0 d λc4=>A.tr h Qa c4 d λc5=>A.tr h (Ya 4) c5 d λc6=>A.ta h c6 d λc7=>A.tb h .lss c7 (jv 1) d λc8=>
 A.c h c8 (.bool false) d λc9=>n [c9] d))) (λd0 d=>A.test (h0 d0) (i (.bool false) d) (A.r Qa x0 d λd1=>A.r (Ya 1) d1 d λd2=>A.a d2 d λd3=>
 A.r (Xp .not) d3 d λe=>A.tr e Qi x0 d λd4=>A.tr e Qa d4 d λd5=>A.tr e (Ya 3) d5 d λd6=>A.ta e d6 d λd7=>A.tr e Qi x0 d λd8=>
 A.tr e Qa d8 d λd9=>A.tr e (Ya 4) d9 d λe0=>A.ta e e0 d λe1=>A.tb e .add d7 e1 d λe2=>A.tr e Qi x0 d λe3=>A.tr e Qa e3 d λe4=>
 A.tr e (Ya 5) e4 d λe5=>A.ta e e5 d λe6=>A.tb e .add e2 e6 d λe7=>A.tr e Qi x0 d λe8=>A.tr e Qa e8 d λe9=>A.tr e (Ya 6) e9 d λf0=>
 A.ta e f0 d λf1=>A.tb e .add e7 f1 d λf2=>A.tr e Qi x0 d λf3=>A.tr e Qa f3 d λf4=>A.tr e (Ya 7) f4 d λf5=>A.ta e f5 d λf6=>
 A.tb e .add f2 f6 d λf7=>A.tb e .gtr f7 (jv 0) d λf8=>A.tr e Qi f8 d λf=>A.fr f Qi x0 d λf9=>A.fr f Qa f9 d λg0=>A.fr f (Ya 9) g0 d λg1=>
 A.fa f g1 d λg2=>A.fr f Yf g2 d λg3=>A.fr f Qi x0 d λg4=>A.fr f Qa g4 d λg5=>A.fr f (Ya 10) g5 d λg6=>A.fa f g6 d λg7=>
 A.fr f Yf g7 d λg8=>A.fb f .add g3 g8 d λg9=>A.fb f .gtr g9 (jv 0) d λi0=>A.tc e f (.bool true) i0 d λi1=>A.c e i1 (.bool false) d λi2=>
 A.test i2 (i (.bool false) d) (A.rd (Qe [.bD,.bool false] [(0,1),(1,1)] [x1,.bool true] d) λi3=>A.w1 Zm i3 d λj d=>A.r Qa x0 d λi4=>
 A.r (Ya 8) i4 d λi5=>A.a i5 d λi6=>A.k 157 [j,i6,jv 1] d λi7 d=>A.r (Xp .not) i7 d λi8=>A.test i8 (i (.bool false) d) (A.r Qa j d λi9=>
 A.r (Ya 1) i9 d λj0=>A.ws (Xb 1) j0 (.bool false) d λ_ d=>A.r Qa x0 d λj1=>A.r (Ya 9) j1 d λj2=>A.a j2 d λj3=>
 A.k 157 [j,j3,jv 1] d λg d=>A.tr g Qi j d λj4=>A.tr g Qi x0 d λj5=>A.tr g Qa j5 d λj6=>A.tr g (Ya 10) j6 d λj7=>A.ta g j7 d λj8=>
 A.gw g true (λk=>A.k 157 [j4,j8,jv 1] d k) d λj9 d=>A.c g j9 (.bool false) d λl0=>i l0 d)))))) [jv 0] d
 |_=>A.stop
theorem lU:GQ 221 2 g221:=dR [none,some [33],none,none,none,none,some [43],none,none,none,none] λ_ _ _ _ _ _=>by kernel_rfl
def g222:aq:=λA xs a d=>match xs with
 |[x0,x1]=>
 A.w1 Zm x0 a λb a=>A.r (Zd true 1) b a λe=>A.r (Qp (.func 235) 1) e a λf=>A.r (Zd true 1) b a λg=>A.r (Qp (.func 235) 1) g a λh=>
 A.r (Zd true 1) b a λi=>A.r (Qp (.func 235) 1) i a λj=>A.r (Zd true 1) b a λl=>A.r (Qp (.func 235) 1) l a λm=>A.r (Zd true 1) b a λn=>
 A.r (Qp (.func 236) 1) n a λo=>A.r (Zd true 1) b a λp=>A.r (Qp (.func 237) 1) p a λq=>A.r (Zd true 1) b a λt=>A.r (Qp (.func 236) 1) t a λu=>
 A.r (Zd true 1) b a λv=>A.r (Qp (.func 236) 1) v a λw=>A.r (Zd true 1) b a λy=>A.r (Qp (.func 238) 1) y a λz=>A.rd (Qe [.ct,.ct,.ct,.ct,.ct,.ct,.ct,.ct,.ct] [(0,1),(1,1),(2,1),(3,1),(4,1),(5,1),(6,1),(7,1),(8,1)] [f,h,j,m,o,q,u,w,z] a) λa0=>
 A.wr (Xe [.ct,.ct,.ct,.ct,.ct,.ct,.ct,.ct,.ct] [] a) a λc a=>A.ws (Xb 9) c a0 a λ_ a=>A.s (Qp (.func 240) 0) b c a λa1=>
 A.k 239 [x1,a1] a λa2 a=>A.r (Xp .not) a2 a λa3=>d a3 a
 |_=>A.stop
theorem gg:GQ 222 2 g222:=dR [] λ_ _ _ _ _ _=>by kernel_rfl
def g223:aq:=λA xs a l=>match xs with
 |[x0]=>
 A.k 241 [x0] a λh a=>A.r (Xc 0) h a λi=>A.r (Xc 1) h a λj=>A.b .gtr j (jv 0) a λf=>A.tr f Qi j a λm=>A.tb f .leq m (jv 24) a λn=>
 A.c f n (.bool false) a λd=>A.tr d Qi i a λo=>A.tr d Qi x0 a λp=>A.tr d Qs p a λq=>A.tb d .eql o q a λs=>A.c d s (.bool false) a λg=>
 A.tr g Qi i a λt=>A.tb g .leq t (jv 40) a λu=>A.c g u (.bool false) a λe=>A.tr e Qi x0 a λv=>A.gw e true (λk=>A.k 242 [v] a k) a λw a=>
 A.tr e (Xp .not) w a λy=>A.c e y (.bool false) a λz=>l z a
 |_=>A.stop
theorem km:GQ 223 1 g223:=cU [] λ_ _ _ _ _=>by kernel_rfl
def g224:aq:=λA xs b d=>match xs with
 |[x0,x1]=>
 A.w1 Zm x0 b λe b=>A.w1 Zm x1 b λf b=>A.r (Ya 0) e b λg=>A.a g b λh=>A.r (Qp (.func 244) 0) f b λi=>A.k 243 [h,i] b λc b=>
 A.r (Xc 0) c b λj=>A.r (Xc 1) c b λl=>A.r (Xc 2) c b λm=>A.wr (Xe [.str [],.bool false,jv 0,jv 0,jv 0,jv 0,jv 0,jv 0,.af,.af,.af,jv 0] [] b) b λn b=>
 A.ws (Xb 12) n j b λ_ b=>d (.aG [l,m]) b
 |_=>A.stop
theorem lV:GQ 224 2 g224:=dR [] λ_ _ _ _ _ _=>by kernel_rfl
def g225:aq:=λA xs d i=>match xs with
 |[x0]=>
 A.w1 Zm x0 d λf d=>A.r (Ya 0) f d λj=>A.a j d λl=>A.b .eql l (.int .i8 0) d λg=>A.tr g (Ya 1) f d λm=>A.ta g m d λn=>
 A.tb g .eql n (jv 0) d λo=>A.c g o (.bool false) d λh=>A.tr h (Ya 2) f d λp=>A.ta h p d λq=>A.tb h .eql q (.int .i8 0) d λs=>A.c h s (.bool false) d λe=>
 A.tr e (Ya 3) f d λt=>A.ta e t d λu=>A.tr e Yf u d λv=>A.tb e .eql v (jv 0) d λw=>A.c e w (.bool false) d λy=>i y d
 |_=>A.stop
theorem lW:GQ 225 1 g225:=cU [] λ_ _ _ _ _=>by kernel_rfl
def g226:aq:=λA xs d h=>match xs with
 |[x0,x1]=>
 A.w1 Zm x1 d λe d=>A.r (Ya 0) e d λv=>A.a v d λw=>A.b .geq w (.int .i8 0) d λj=>A.tr j (Ya 0) e d λy=>A.ta j y d λz=>
 A.tb j .leq z (.int .i8 2) d λt6=>A.c j t6 (.bool false) d λt7=>au (λq=>A.test t7 (q [jv 2] d) (q [jv 0] d)) (λv9 d=>A.r (Ya 0) e d λa0=>
 A.a a0 d λa1=>A.b .eql a1 (.int .i8 3) d λa2=>au (λt=>A.test a2 (t [jv 1] d) (t [jv 0] d)) (λa3 d=>A.r (Ya 0) e d λa4=>A.a a4 d λa5=>
 A.b .eql a5 (.int .i8 4) d λl=>A.fr l (Ya 0) e d λa6=>A.fa l a6 d λa7=>A.fb l .eql a7 (.int .i8 5) d λa8=>A.c l (.bool true) a8 d λa9=>
 au (λu=>A.test a9 (u [jv 2] d) (u [(h0 a3)] d)) (λb0 d=>A.r (Ya 0) e d λb1=>A.a b1 d λb2=>A.b .lss b2 (.int .i8 0) d λm=>A.fr m (Ya 0) e d λb3=>
 A.fa m b3 d λb4=>A.fb m .gtr b4 (.int .i8 6) d λb5=>A.c m (.bool true) b5 d λf=>A.fr f (Ya 3) e d λb6=>A.fa f b6 d λb7=>A.fr f Yf b7 d λb8=>
 A.fr f Qi (h0 v9) d λb9=>A.fb f .neq b8 b9 d λc0=>A.c f (.bool true) c0 d λg=>A.fr g (Ya 4) e d λc1=>A.fa g c1 d λc2=>A.fr g Yf c2 d λc3=>
 A.fr g Qi (h0 b0) d λc4=>A.fb g .neq c3 c4 d λc5=>A.c g (.bool true) c5 d λc6=>A.test c6 (h (.bool false) d) (A.loop (λc7 o d=>A.r (Ya 3) e d λc8=>
 A.a c8 d λc9=>A.r Yf c9 d λd0=>A.b .lss (h0 o) d0 d λd1=>A.test d1 (A.r (Ya 3) e d λd2=>A.a d2 d λd3=>A.s (Yb 4) d3 (h0 o) d λd4=>
 A.r (Zd true 4) d4 d λd5=>A.k 77 [x0,d5] d λd6 d=>A.r (Xp .not) d6 d λd7=>A.test d7 (h (.bool false) d) (A.b .add (h0 o) (jv 1) d λd8=>c7 [d8] d)) (
 A.loop (λd9 p d=>A.r (Ya 4) e d λe0=>A.a e0 d λe1=>A.r Yf e1 d λe2=>A.b .lss (h0 p) e2 d λe3=>A.test e3 (A.r (Ya 4) e d λe4=>
 A.a e4 d λe5=>A.s (Yb 5) e5 (h0 p) d λe6=>A.r (Zd true 5) e6 d λe7=>A.k 226 [x0,e7] d λe8 d=>A.r (Xp .not) e8 d λe9=>A.test e9 (
 h (.bool false) d) (A.b .add (h0 p) (jv 1) d λf0=>d9 [f0] d)) (A.r (Ya 0) e d λf1=>A.a f1 d λf2=>A.b .eql f2 (.int .i8 6) d λf3=>A.test f3 (
 A.r (Ya 1) e d λf4=>A.a f4 d λf5=>A.k 121 [f5] d λi d=>A.tr i Qi x0 d λf6=>A.tr i (Ya 2) e d λf7=>A.ta i f7 d λf8=>A.gw i true (λk=>A.k 228 [f6,f8,.bool false] d k) d λf9 d=>
 A.c i f9 (.bool false) d λg0=>h g0 d) (A.r (Ya 1) e d λg1=>A.a g1 d λg2=>A.b .eql g2 (.int .i8 0) d λn=>A.tr n (Ya 2) e d λg3=>
 A.ta n g3 d λg4=>A.th n (Yj .eql false [g4,.str []] d) λg5=>A.c n g5 (.bool false) d λg6=>h g6 d))) [jv 0] d)) [jv 0] d))))
 |_=>A.stop
theorem lX:GQ 226 2 g226:=dR [some [5],some [6],some [6],none,none,some [7],none,none,none,none,some [8],none,none,none,none] λ_ _ _ _ _ _=>by kernel_rfl
def g227:aq:=λA xs d j=>match xs with
 |[x0]=>
 A.w1 Zm x0 d λe d=>A.r (Ya 0) e d λl=>A.a l d λm=>A.b .eql m (.int .i8 0) d λh=>A.tr h (Ya 1) e d λn=>A.ta h n d λo=>
 A.tb h .eql o (.int .i8 0) d λp=>A.c h p (.bool false) d λi=>A.tr i (Ya 2) e d λq=>A.ta i q d λs=>A.th i (Yj .eql false [s,.str []] d) λt=>
 A.c i t (.bool false) d λf=>A.tr f (Ya 3) e d λu=>A.ta f u d λv=>A.tr f Yf v d λw=>A.tb f .eql w (jv 0) d λy=>A.c f y (.bool false) d λg=>
 A.tr g (Ya 4) e d λz=>A.ta g z d λa0=>A.tr g Yf a0 d λa1=>A.tb g .eql a1 (jv 0) d λa2=>A.c g a2 (.bool false) d λa3=>j a3 d
 |_=>A.stop
theorem oG:GQ 227 1 g227:=cU [] λ_ _ _ _ _=>by kernel_rfl
def g228:aq:=λA xs d g=>match xs with
 |[x0,x1,x2]=>
 A.loop (λh e d=>A.r Qa x0 d λi=>A.r (Ya 0) i d λj=>A.a j d λl=>A.r Yf l d λm=>A.b .lss (h0 e) m d λn=>A.test n (A.r Qa x0 d λo=>
 A.r (Ya 0) o d λp=>A.a p d λq=>A.s (Yb 12) q (h0 e) d λt=>A.r (Ya 0) t d λu=>A.a u d λv=>A.b .eql v x1 d λw=>A.test w (
 A.r Qa x0 d λy=>A.r (Ya 0) y d λz=>A.a z d λa0=>A.s (Yb 12) a0 (h0 e) d λa1=>A.r (Ya 1) a1 d λa2=>A.a a2 d λf=>
 A.fr f Qi x2 d λa3=>A.fr f (Xp .not) a3 d λa4=>A.c f (.bool true) a4 d λa5=>g a5 d) (A.b .add (h0 e) (jv 1) d λa6=>h [a6] d)) (g (.bool false) d)) [jv 0] d
 |_=>A.stop
theorem lY:GQ 228 3 g228:=jN [none,some [7],none,none,none] λ_ _ _ _ _ _ _=>by kernel_rfl
def g229:aq:=λA xs a b=>match xs with
 |[]=>
 A.wr (Xi 1 41 [.str [],.str [],.str [],.str [],.str [],.str [],.str [],.str [],.str [],.str [],.str [],.str [],.str [],.str [],.str [],.str [],.str [],.str [],.str [],.str [],.str [],.str [],.str [],.str [],.str [],.str [],.str [],.str [],.str [],.str [],.str [],.str [],.str [],.str [],.str [],.str [],.str [],.str [],.str [],.str [],.str []] [(0,1),(1,1),(2,1),(3,1),(4,1),(5,1),(6,1),(7,1),(8,1),(9,1),(10,1),(11,1),(12,1),(13,1),(14,1),(15,1),(16,1),(17,1),(18,1),(19,1),(20,1),(21,1),(22,1),(23,1),(24,1),(25,1),(26,1),(27,1),(28,1),(29,1),(30,1),(31,1),(32,1),(33,1),(34,1),(35,1),(36,1),(37,1),(38,1),(39,1),(40,1)] [(.str [99,97,114,100]),(.str [117,110,105,116]),(.str [99,104,97,114,109]),(.str [102,111,114,109,97,116]),(.str [112,108,97,121,101,100]),(.str [100,101,97,100]),(.str [100,97,119,110]),(.str [97,117,114,97]),(.str [115,104,105,101,108,100]),(.str [104,97,114,109]),(.str [109,101,110,100]),(.str [100,114,97,119]),(.str [103,97,105,110]),(.str [100,114,111,112]),(.str [108,111,111,107]),(.str [115,104,111,119]),(.str [115,117,109,109,111,110]),(.str [105,102]),(.str [101,108,115,101]),(.str [109,101]),(.str [102,111,101]),(.str [116,97,114,103,101,116]),(.str [108,105,102,101]),(.str [104,97,110,100]),(.str [100,101,99,107]),(.str [117,110,105,116,115]),(.str [109,97,110,97]),(.str [99,111,115,116]),(.str [116,111,112]),(.str [112,111,119,101,114]),(.str [109,105,110]),(.str [109,97,120]),(.str [110,111,116]),(.str [97,110,100]),(.str [111,114]),(.str [104,111,108,100,115]),(.str [108,101,97,115,116]),(.str [109,111,115,116]),(.str [99,111,112,105,101,115]),(.str [98,97,110,110,101,100]),(.str [115,105,110,103,108,101])] a) a λc a=>
 b c a
 |_=>A.stop
theorem oH:GQ 229 0 g229:=vr [] λ_ _ _ _=>by kernel_rfl
def g230:aq:=λA xs a e=>match xs with
 |[x0]=>
 A.wr (Xe [.int .i8 0,.int .i8 0,.int .i8 0,jv 0,.int .i8 0,.af,.str [],.int .i8 0,.int .i8 0,.str [],.af,.af,.af,.af] [] a) a λd a=>
 A.rd (Qe [.int .i8 0,.int .i8 0,.int .i8 0,jv 0,.int .i8 0,.af,.str [],.int .i8 0,.int .i8 0,.str [],.af,.af,.af,.af] [] [] a) λf=>
 A.wr (Xe [.int .i8 0,.int .i8 0,.int .i8 0,jv 0,.int .i8 0,.af,.str [],.int .i8 0,.int .i8 0,.str [],.af,.af,.af,.af] [] a) a λb a=>
 A.ws (Xb 14) b f a λ_ a=>au (λc=>A.k 201 [x0,(.str [104,97,114,109])] a λg a=>A.test g (A.r (Ya 0) b a λh=>A.ws (Xb 1) h (.int .i8 0) a λ_ a=>
 A.k 245 [x0,.bool true] a λi a=>A.r (Ya 1) b a λj=>A.ws (Xb 1) j i a λ_ a=>A.k 246 [x0] a λl a=>A.r (Ya 2) b a λm=>
 A.ws (Xb 4) m l a λ_ a=>c [] a) (A.k 201 [x0,(.str [109,101,110,100])] a λn a=>A.test n (A.r (Ya 0) b a λo=>A.ws (Xb 1) o (.int .i8 1) a λ_ a=>
 A.k 245 [x0,.bool true] a λp a=>A.r (Ya 1) b a λq=>A.ws (Xb 1) q p a λ_ a=>A.k 246 [x0] a λs a=>A.r (Ya 2) b a λt=>
 A.ws (Xb 4) t s a λ_ a=>c [] a) (A.k 201 [x0,(.str [100,114,97,119])] a λu a=>A.test u (A.r (Ya 0) b a λv=>A.ws (Xb 1) v (.int .i8 2) a λ_ a=>
 A.k 245 [x0,.bool false] a λw a=>A.r (Ya 1) b a λy=>A.ws (Xb 1) y w a λ_ a=>A.k 246 [x0] a λz a=>A.r (Ya 2) b a λa0=>
 A.ws (Xb 4) a0 z a λ_ a=>c [] a) (A.k 201 [x0,(.str [103,97,105,110])] a λa1 a=>A.test a1 (A.r (Ya 0) b a λa2=>A.ws (Xb 1) a2 (.int .i8 3) a λ_ a=>
 A.k 246 [x0] a λa3 a=>A.r (Ya 2) b a λa4=>A.ws (Xb 4) a4 a3 a λ_ a=>c [] a) (A.k 201 [x0,(.str [100,114,111,112])] a λa5 a=>A.test a5 (
 A.r (Ya 0) b a λa6=>A.ws (Xb 1) a6 (.int .i8 4) a λ_ a=>A.k 245 [x0,.bool false] a λa7 a=>A.r (Ya 1) b a λa8=>A.ws (Xb 1) a8 a7 a λ_ a=>
 c [] a) (A.k 201 [x0,(.str [115,104,111,119])] a λa9 a=>A.test a9 (A.r (Ya 0) b a λb0=>A.ws (Xb 1) b0 (.int .i8 6) a λ_ a=>A.k 245 [x0,.bool false] a λb1 a=>
 A.r (Ya 1) b a λb2=>A.ws (Xb 1) b2 b1 a λ_ a=>c [] a) (A.k 201 [x0,(.str [108,111,111,107])] a λb3 a=>A.test b3 (A.r (Ya 0) b a λb4=>
 A.ws (Xb 1) b4 (.int .i8 5) a λ_ a=>A.k 246 [x0] a λb5 a=>A.r (Ya 2) b a λb6=>A.ws (Xb 4) b6 b5 a λ_ a=>c [] a) (A.k 201 [x0,(.str [115,117,109,109,111,110])] a λb7 a=>
 A.test b7 (A.r (Ya 0) b a λb8=>A.ws (Xb 1) b8 (.int .i8 7) a λ_ a=>A.k 200 [x0] a λb9 a=>A.r (Ya 6) b a λc0=>A.ws (Xb 1) c0 b9 a λ_ a=>
 c [] a) (A.k 151 [x0,(.str [105,102])] a λc1 a=>A.test c1 (A.k 247 [x0] a λd1 a=>A.k 203 [x0,(.str [105,102])] a λd2 a=>A.r (Ya 0) b a λc2=>
 A.ws (Xb 1) c2 (.int .i8 8) a λ_ a=>A.k 248 [x0] a λc3 a=>A.r (Ya 7) b a λc4=>A.ws (Xb 5) c4 c3 a λ_ a=>A.k 205 [x0] a λc5 a=>
 A.r (Ya 12) b a λc6=>A.ws (Xb 1) c6 c5 a λ_ a=>A.k 203 [x0,(.str [101,108,115,101])] a λd3 a=>A.k 205 [x0] a λc7 a=>A.r (Ya 13) b a λc8=>
 A.ws (Xb 1) c8 c7 a λ_ a=>A.k 249 [x0] a λd4 a=>A.r (Zd true 14) b a λc9=>A.ws (Xb 14) d c9 a λ_ a=>A.opt (av true 14 d a) λr56=>
 e r56 a) (A.k 152 [x0,jv 120] a λd5 a=>c [] a)))))))))) (λv4 a=>A.k 203 [x0,(.str [59])] a λd6 a=>A.r (Zd true 14) b a λd0=>A.ws (Xb 14) d d0 a λ_ a=>
 A.opt (av true 14 d a) λr60=>e r60 a)
 |_=>A.stop
theorem wI:GQ 230 1 g230:=cU [some [],none,none,none,none,none,none,none,none,none] λ_ _ _ _ _=>by kernel_rfl
def g231:aq:=λA xs c f=>match xs with
 |[x0]=>
 A.w1 Zm x0 c λe c=>A.loop (λg d c=>A.r (Ya 3) e c λh=>A.a h c λi=>A.r Yf i c λj=>A.b .lss (h0 d) j c λl=>A.test l (A.r (Ya 3) e c λm=>
 A.a m c λn=>A.s (Yb 4) n (h0 d) c λo=>A.r (Zd true 4) o c λp=>A.k 231 [p] c λq c=>A.b .add (h1 d) q c λt=>A.b .add (h0 d) (jv 1) c λu=>
 g [u,t] c) (f (h1 d) c)) [jv 0,jv 1] c
 |_=>A.stop
theorem wJ:GQ 231 1 g231:=cU [none,some [4,3],none,none] λ_ _ _ _ _=>by kernel_rfl
def g232:aq:=λA xs c g=>match xs with
 |[x0]=>
 A.w1 Zm x0 c λf c=>A.loop (λh d c=>A.r (Ya 3) f c λi=>A.a i c λj=>A.r Yf j c λl=>A.b .lss (h0 d) l c λm=>A.test m (A.r (Ya 3) f c λn=>
 A.a n c λo=>A.s (Yb 4) o (h0 d) c λp=>A.r (Zd true 4) p c λq=>A.k 231 [q] c λt c=>A.b .add (h1 d) t c λu=>A.b .add (h0 d) (jv 1) c λv=>
 h [v,u] c) (A.loop (λw e c=>A.r (Ya 4) f c λy=>A.a y c λz=>A.r Yf z c λa0=>A.b .lss (h0 e) a0 c λa1=>A.test a1 (A.r (Ya 4) f c λa2=>
 A.a a2 c λa3=>A.s (Yb 5) a3 (h0 e) c λa4=>A.r (Zd true 5) a4 c λa5=>A.k 232 [a5] c λa6 c=>A.b .add (h1 e) a6 c λa7=>A.b .add (h0 e) (jv 1) c λa8=>
 w [a8,a7] c) (g (h1 e) c)) [jv 0,(h1 d)] c)) [jv 0,jv 1] c
 |_=>A.stop
theorem wK:GQ 232 1 g232:=cU [none,some [4,3],none,none,none,some [5,3],none,none] λ_ _ _ _ _=>by kernel_rfl
def g234:aq:=λA xs c d=>match xs with
 |[x0,x1,x2,x3]=>
 A.dr (Yb 1 [x0,x2] c) c λe f c=>A.dr (Xf [e] c) c λg h c=>A.dr (Yb 1 [x0,x1] c) c λi j c=>A.dr (Xf [i] c) c λl m c=>
 A.aE (.call 169) [g,l] c λn o c=>A.gd (Zh [[],[],[0,1],[0,1,2],[],[],[4,5],[4,5,6],[0,1,2,3,4,5,6,7]] [([],[]),([],[]),f,h,([],[]),([],[]),j,m,o]) <|
 A.test n (A.r Qa x3 c λp=>A.a p c λq=>A.b .add q (jv 1) c λs=>A.r Qa x3 c λt=>A.ws (Xb 1) t s c λ_ c=>d (.aG [x2,x1]) c) (
 d (.aG [x1,x2]) c)
 |_=>A.stop
theorem wL:GQ 234 4 g234:=vt [none] λ_ _ _ _ _ _ _ _=>by kernel_rfl
def g235:aq:=λA xs a b=>match xs with
 |[x0,x1]=>
 A.w1 Zm x0 a λc a=>A.w1 Zm x1 a λd a=>A.pu (Ya 0 [c] a) λe=>A.dr (Xf [e] a) a λf g a=>A.pu (Ya 2 [d] a) λh=>A.dr (Zd true 4 [h] a) a λi j a=>
 A.aE (.call 251) [i] a λl m a=>A.aE (.call 250) [f,l] a λn o a=>A.pu (Yj .eql false [n,.int .i8 0] a) λp=>A.gd (Zh [[],[0],[],[2],[2,3],[0,1,2,3,4],[0,1,2,3,4,5],[0,1,2,3,4,5,6]] [([],[]),g,([],[]),j,m,o,([],[]),([],[])]) <|
 b p a
 |_=>A.stop
theorem gW:GQ 235 2 g235:=dR [] λ_ _ _ _ _ _=>by kernel_rfl
def g236:aq:=λA xs c d=>match xs with
 |[x0,x1]=>
 A.w1 Zm x0 c λe c=>A.w1 Zm x1 c λj c=>A.r (Ya 0) e c λf=>A.a f c λg=>A.k 252 [g] c λh c=>A.b .eql h (.int .i8 0) c λi=>d i c
 |_=>A.stop
theorem gX:GQ 236 2 g236:=dR [] λ_ _ _ _ _ _=>by kernel_rfl
def g237:aq:=λA xs a b=>match xs with
 |[x0,x1]=>
 A.w1 Zm x0 a λc a=>A.w1 Zm x1 a λd a=>A.pu (Ya 0 [c] a) λe=>A.dr (Xf [e] a) a λf g a=>A.pu (Ya 2 [d] a) λh=>A.dr (Zd true 4 [h] a) a λi j a=>
 A.aE (.call 251) [i] a λl m a=>A.aE (.call 250) [f,l] a λn o a=>A.aE (.call 253) [n,.int .i8 1] a λp q a=>A.gd (Zh [[],[0],[],[2],[2,3],[0,1,2,3,4],[0,1,2,3,4,5],[0,1,2,3,4,5,6]] [([],[]),g,([],[]),j,m,o,q,([],[])]) <|
 b p a
 |_=>A.stop
theorem lZ:GQ 237 2 g237:=dR [] λ_ _ _ _ _ _=>by kernel_rfl
def g238:aq:=λA xs b g=>match xs with
 |[x0,x1]=>
 A.w1 Zm x0 b λh b=>A.w1 Zm x1 b λe b=>A.pu (Ya 0 [h] b) λi=>A.dr (Xf [i] b) b λj l b=>A.pu (Ya 7 [e] b) λm=>A.dr (Zd true 5 [m] b) b λn o b=>
 A.aE (.call 254) [n] b λp q b=>A.aE (.call 250) [j,p] b λs t b=>A.pu (Qe [.int .i8 0] [(0,1)] [s] b) λu=>A.dr (Xe [.int .i8 0] [] b) b λf v b=>
 A.dr (Xb 1 [f,u] b) b λ_ w b=>A.gd (Zh [[],[0],[],[2],[2,3],[0,1,2,3,4],[0,1,2,3,4,5],[],[0,1,2,3,4,5,6,7]] [([],[]),l,([],[]),o,q,t,([],[]),v,w]) <|
 A.r (Zd true 1) f b λy=>A.r (Ya 12) e b λz=>A.a z b λa0=>A.k 222 [y,a0] b λd b=>A.tr d (Zd true 1) f b λa1=>A.tr d (Ya 13) e b λa2=>
 A.ta d a2 b λa3=>A.gw d true (λk=>A.k 222 [a1,a3] b k) b λa4 b=>A.c d a4 (.bool false) b λa5=>g a5 b
 |_=>A.stop
theorem l_:GQ 238 2 g238:=dR [] λ_ _ _ _ _ _=>by kernel_rfl
def g239:aq:=λA xs a c=>match xs with
 |[x0,x1]=>
 A.k 255 [x0,x1] a λd a=>A.b .geq d (jv 0) a λe=>c e a
 |_=>A.stop
theorem ma:GQ 239 2 g239:=dR [] λ_ _ _ _ _ _=>by kernel_rfl
def g240:aq:=λA xs d h=>match xs with
 |[x0,x1,x2]=>
 A.w1 Zm x0 d λf d=>A.r (Zd true 1) x1 d λi=>A.r (Qp (.func 236) 1) i d λj=>A.r (Ya 0) f d λl=>A.a l d λm=>A.b .geq m (.int .i8 0) d λe=>
 A.tr e (Ya 0) f d λn=>A.ta e n d λo=>A.tr e (ZJ .i64) o d λp=>A.tb e .lss p (jv 9) d λq=>A.c e q (.bool false) d λt=>au (λg=>
 A.test t (A.r (Ya 0) f d λu=>A.a u d λv=>A.s (Yg 9 1) x2 v d λw=>A.a w d λy=>g [y] d) (g [j] d)) (λz d=>A.r (Zd true 14) f d λa0=>
 A.call .cH [(h0 z),a0] d λa1 d=>A.r (Xp .not) a1 d λa2=>h a2 d)
 |_=>A.stop
theorem mc:GQ 240 3 g240:=jN [some [5]] λ_ _ _ _ _ _ _=>by kernel_rfl
def g241:aq:=λA xs a j=>match xs with
 |[x0]=>
 A.w1 JW x0 a λm a=>A.loop (λn f a=>A.w1 Dz m a λg a=>A.r (Xc 0) g a λo=>A.test o (A.r (Xc 1) g a λl=>A.r (Xc 2) g a λh=>
 A.k 256 [h] a λp a=>A.r (Xp .not) p a λe=>A.tr e Qi l a λq=>A.tb e .eql q (jv 0) a λs=>A.tr e Qi s a λd=>A.fr d Qi h a λt=>A.gw d false (λk=>A.k 257 [t] a k) a λu a=>
 A.fr d (Xp .not) u a λv=>A.fr d Qi v a λi=>A.tr i Qi h a λw=>A.tb i .neq w (.int .i32 39) a λy=>A.fc d i y (.bool false) a λz=>A.tc e d (.bool true) z a λa0=>
 A.c e a0 (.bool false) a λa1=>A.test a1 (j (.aG [l,(h0 f)]) a) (A.b .add (h0 f) (jv 1) a λa2=>n [a2] a)) (A.r Qs x0 a λa3=>j (.aG [a3,(h0 f)]) a)) [jv 0] a
 |_=>A.stop
theorem me:GQ 241 1 g241:=cU [none,some [3],none,none,none] λ_ _ _ _ _=>by kernel_rfl
def g242:aq:=λA xs a b=>match xs with
 |[x0]=>
 A.k 258 [] a λc a=>A.s (Qr true false (.bool false)) c x0 a λd=>b d a
 |_=>A.stop
theorem mf:GQ 242 1 g242:=cU [] λ_ _ _ _ _=>by kernel_rfl
def g243:aq:=λA xs a e=>match xs with
 |[x0,x1]=>
 A.wr (Xe [.str [],.bool false,jv 0,jv 0,jv 0,jv 0,jv 0,jv 0,.af,.af,.af,jv 0] [] a) a λc a=>A.k 259 [x0,x1] a λd a=>
 A.b .lss d (jv 0) a λf=>A.test f (A.r (Zd true 12) c a λg=>A.ws (Xb 12) c g a λ_ a=>A.opt (av true 12 c a) λr4=>e (.aG [r4,jv 0,.bool false]) a) (
 A.s (Yb 12) x0 d a λh=>A.r (Zd true 12) h a λi=>A.ws (Xb 12) c i a λ_ a=>A.opt (av true 12 c a) λr7=>e (.aG [r7,d,.bool true]) a)
 |_=>A.stop
theorem oJ:GQ 243 2 g243:=dR [none] λ_ _ _ _ _ _=>by kernel_rfl
def g244:aq:=λA xs c d=>match xs with
 |[x0,x1]=>
 A.w1 Zm x0 c λe c=>A.r (Ya 0) e c λf=>A.a f c λg=>A.a x1 c λh=>A.b .eql g h c λi=>d i c
 |_=>A.stop
theorem mg:GQ 244 2 g244:=dR [] λ_ _ _ _ _ _=>by kernel_rfl
def g245:aq:=λA xs a b=>match xs with
 |[x0,x1]=>
 A.k 201 [x0,(.str [109,101])] a λd a=>A.test d (b (.int .i8 0) a) (A.k 201 [x0,(.str [102,111,101])] a λe a=>A.test e (b (.int .i8 1) a) (A.tr x1 Qi x0 a λf=>
 A.gw x1 true (λk=>A.k 201 [f,(.str [116,97,114,103,101,116])] a k) a λg a=>A.c x1 g (.bool false) a λh=>A.test h (b (.int .i8 2) a) (A.k 152 [x0,jv 120] a λi a=>
 b (.int .i8 0) a)))
 |_=>A.stop
theorem wM:GQ 245 2 g245:=dR [none,none,none,none] λ_ _ _ _ _ _=>by kernel_rfl
def g246:aq:=λA xs a i=>match xs with
 |[x0]=>
 A.wr (Xe mw [] a) a λe a=>A.k 260 [x0] a λj a=>A.wr (Xe mw [] a) a λb a=>A.ws (Xb 4) b j a λ_ a=>au (λf=>A.loop (λl v6 a=>
 A.k 150 [x0] a λm a=>A.test m (A.k 151 [x0,(.str [45])] a λn a=>au (λg=>A.test n (g [.int .i8 9] a) (g [.int .i8 8] a)) (λo a=>A.k 201 [x0,(.str [43])] a λp a=>
 A.r (Xp .not) p a λd=>A.tr d Qi x0 a λq=>A.gw d true (λk=>A.k 201 [q,(.str [45])] a k) a λs a=>A.tr d (Xp .not) s a λt=>A.c d t (.bool false) a λu=>
 A.test u (f [] a) (A.k 260 [x0] a λv a=>A.wr (Xe mw [] a) a λh a=>A.ws (Xb 4) h v a λ_ a=>A.r (Zd true 4) b a λw=>A.r (Zd true 4) h a λy=>
 A.k 261 [(h0 o),w,y] a λz a=>A.ws (Xb 4) b z a λ_ a=>l [] a))) (f [] a)) [] a) (λv4 a=>A.r (Zd true 4) b a λa0=>A.ws (Xb 4) e a0 a λ_ a=>
 A.opt (av true 4 e a) λr23=>i r23 a)
 |_=>A.stop
theorem wN:GQ 246 1 g246:=cU [some [],some [],none,none,some [4],none] λ_ _ _ _ _=>by kernel_rfl
def g247:aq:=λA xs c d=>match xs with
 |[x0]=>
 A.r Qa x0 c λe=>A.r (Ya 2) e c λf=>A.a f c λg=>A.b .add g (jv 1) c λh=>A.r Qa x0 c λi=>A.r (Ya 2) i c λj=>
 A.ws (Xb 1) j h c λ_ c=>A.r Qa x0 c λl=>A.r (Ya 2) l c λm=>A.a m c λn=>A.b .gtr n (jv 8) c λo=>A.test o (A.k 152 [x0,jv 121] c λp c=>
 d (.aG []) c) (d (.aG []) c)
 |_=>A.stop
theorem wO:GQ 247 1 g247:=cU [none] λ_ _ _ _ _=>by kernel_rfl
def g248:aq:=λA xs a e=>match xs with
 |[x0]=>
 A.wr (Xe [.int .i8 0,.int .i8 0,.str [],.af,.af] [] a) a λc a=>A.k 262 [x0] a λf a=>A.wr (Xe [.int .i8 0,.int .i8 0,.str [],.af,.af] [] a) a λb a=>
 A.ws (Xb 5) b f a λ_ a=>A.loop (λg p a=>A.k 201 [x0,(.str [111,114])] a λh a=>A.test h (A.k 262 [x0] a λi a=>A.wr (Xe [.int .i8 0,.int .i8 0,.str [],.af,.af] [] a) a λd a=>
 A.ws (Xb 5) d i a λ_ a=>A.r (Zd true 5) b a λj=>A.r (Zd true 5) d a λl=>A.wr (Xi 5 2 [.int .i8 0,.int .i8 0,.str [],.af,.af,.int .i8 0,.int .i8 0,.str [],.af,.af] [(0,5),(5,5)] [j,l] a) a λm a=>
 A.rd (Qe [.int .i8 0,.int .i8 0,.str [],.af,.af] [(0,1),(4,1)] [.int .i8 5,m] a) λn=>A.ws (Xb 5) b n a λ_ a=>g [] a) (A.r (Zd true 5) b a λo=>
 A.ws (Xb 5) c o a λ_ a=>A.opt (av true 5 c a) λr13=>e r13 a)) [] a
 |_=>A.stop
theorem wP:GQ 248 1 g248:=cU [none,some [],none,none] λ_ _ _ _ _=>by kernel_rfl
def g249:aq:=λA xs c d=>match xs with
 |[x0]=>
 A.r Qa x0 c λe=>A.r (Ya 2) e c λf=>A.a f c λg=>A.b .sub g (jv 1) c λh=>A.r Qa x0 c λi=>A.r (Ya 2) i c λj=>
 A.ws (Xb 1) j h c λ_ c=>d (.aG []) c
 |_=>A.stop
theorem wQ:GQ 249 1 g249:=cU [] λ_ _ _ _ _=>by kernel_rfl
def g250:aq:=λA xs a b=>match xs with
 |[x0,x1]=>
 A.aE (.call 263) [] a λc d a=>A.aE (.call 252) [x0] a λe f a=>A.pu (tE true 4 4 [c,e] a) λg=>A.aE (.call 252) [x1] a λh i a=>A.pu (tE false 4 1 [g,h] a) λj=>
 A.gd (Zh [[],[],[0,1],[0,1,2],[],[0,1,2,4],[0,1,2,3,4,5],[0,1,2,3,4,5,6]] [d,([],[]),f,([],[]),([],[]),i,([],[]),([],[])]) <|
 b j a
 |_=>A.stop
theorem eM:GQ 250 2 g250:=dR [] λ_ _ _ _ _ _=>by kernel_rfl
def g251:aq:=λA xs d h=>match xs with
 |[x0]=>
 A.w1 Zm x0 d λf d=>A.r (Ya 0) f d λl=>A.a l d λm=>A.b .eql m (.int .i8 6) d λn=>A.test n (h (.int .i8 3) d) (A.r (Ya 0) f d λo=>
 A.a o d λp=>A.b .geq p (.int .i8 8) d λg=>A.tr g (Ya 0) f d λq=>A.ta g q d λt=>A.tb g .leq t (.int .i8 12) d λu=>A.c g u (.bool false) d λv=>
 A.test v (A.r (Ya 3) f d λw=>A.a w d λi=>A.r Yf i d λy=>A.loop (λz e d=>A.b .lss (h0 e) y d λa0=>A.test a0 (A.s (Yb 4) i (h0 e) d λa1=>
 A.r (Zd true 4) a1 d λa2=>A.wr (Xe mw [] d) d λj d=>A.ws (Xb 4) j a2 d λ_ d=>A.r (Zd true 4) j d λa3=>A.k 251 [a3] d λa4 d=>
 A.k 250 [(h1 e),a4] d λa5 d=>A.b .add (h0 e) (jv 1) d λa6=>z [a6,a5] d) (h (h1 e) d)) [jv 0,.int .i8 0] d) (h (.int .i8 0) d))
 |_=>A.stop
theorem gY:GQ 251 1 g251:=cU [none,none,none,none,some [22,3],none,none] λ_ _ _ _ _=>by kernel_rfl
def g252:aq:=λA xs a e=>match xs with
 |[x0]=>
 A.b .lss x0 (.int .i8 0) a λd=>A.fr d Qi x0 a λf=>A.fb d .gtr f (.int .i8 3) a λg=>A.c d (.bool true) g a λh=>A.test h (e (.int .i8 3) a) (e x0 a)
 |_=>A.stop
theorem gZ:GQ 252 1 g252:=cU [none] λ_ _ _ _ _=>by kernel_rfl
def g253:aq:=λA xs a c=>match xs with
 |[x0,x1]=>
 A.k 250 [x0,x1] a λd a=>A.k 252 [x1] a λe a=>A.b .eql d e a λf=>c f a
 |_=>A.stop
theorem mh:GQ 253 2 g253:=dR [] λ_ _ _ _ _ _=>by kernel_rfl
def g254:aq:=λA xs c f=>match xs with
 |[x0]=>
 A.w1 Zm x0 c λg c=>A.r (Ya 0) g c λn=>A.a n c λo=>A.b .eql o (.int .i8 6) c λp=>A.test p (A.r (Ya 1) g c λq=>A.a q c λh=>
 A.b .eql h (.int .i8 0) c λt=>A.test t (f (.int .i8 1) c) (A.b .eql h (.int .i8 1) c λu=>A.test u (f (.int .i8 2) c) (f (.int .i8 3) c))) (A.r (Ya 3) g c λv=>
 A.a v c λi=>A.r Yf i c λw=>A.loop (λy d c=>A.b .lss (h0 d) w c λz=>A.test z (A.s (Yb 4) i (h0 d) c λa0=>A.r (Zd true 4) a0 c λa1=>
 A.wr (Xe mw [] c) c λj c=>A.ws (Xb 4) j a1 c λ_ c=>A.r (Zd true 4) j c λa2=>A.k 251 [a2] c λa3 c=>A.k 250 [(h1 d),a3] c λa4 c=>
 A.b .add (h0 d) (jv 1) c λa5=>y [a5,a4] c) (A.r (Ya 4) g c λa6=>A.a a6 c λl=>A.r Yf l c λa7=>A.loop (λa8 e c=>A.b .lss (h0 e) a7 c λa9=>
 A.test a9 (A.s (Yb 5) l (h0 e) c λb0=>A.r (Zd true 5) b0 c λb1=>A.wr (Xe [.int .i8 0,.int .i8 0,.str [],.af,.af] [] c) c λm c=>
 A.ws (Xb 5) m b1 c λ_ c=>A.r (Zd true 5) m c λb2=>A.k 254 [b2] c λb3 c=>A.k 250 [(h1 e),b3] c λb4 c=>A.b .add (h0 e) (jv 1) c λb5=>
 a8 [b5,b4] c) (f (h1 e) c)) [jv 0,(h1 d)] c)) [jv 0,.int .i8 0] c)
 |_=>A.stop
theorem ko:GQ 254 1 g254:=cU [none,none,none,none,none,some [20,3],none,none,none,some [32,3],none,none] λ_ _ _ _ _=>by kernel_rfl
def g255:aq:=λA xs a d=>match xs with
 |[x0,x1]=>
 A.r Yf x0 a λe=>A.loop (λf c a=>A.b .lss (h0 c) e a λg=>A.test g (A.s (Yb 14) x0 (h0 c) a λh=>A.r (Zd true 14) h a λi=>A.call .cH [x1,i] a λj a=>
 A.test j (d (h0 c) a) (A.b .add (h0 c) (jv 1) a λl=>f [l] a)) (d (jv (-1)) a)) [jv 0] a
 |_=>A.stop
theorem mi:GQ 255 2 g255:=dR [none,some [8],none,none,none] λ_ _ _ _ _ _=>by kernel_rfl
def g256:aq:=λA xs a d=>match xs with
 |[x0]=>
 A.b .geq x0 (.int .i32 97) a λe=>A.tr e Qi x0 a λm=>A.tb e .leq m (.int .i32 122) a λn=>A.c e n (.bool false) a λh=>au (λi=>A.test h (i [h] a) (
 A.b .geq x0 (.int .i32 65) a λf=>A.tr f Qi x0 a λo=>A.tb f .leq o (.int .i32 90) a λp=>A.c f p (.bool false) a λq=>i [q] a)) (λr a=>A.test (h0 r) (
 d (.bool true) a) (A.b .eql x0 (.int .i32 215) a λj=>au (λl=>A.test j (l [j] a) (A.b .eql x0 (.int .i32 247) a λs=>l [s] a)) (λt a=>A.test (h0 t) (
 d (.bool false) a) (A.b .geq x0 (.int .i32 192) a λg=>A.tr g Qi x0 a λu=>A.tb g .leq u (.int .i32 591) a λv=>A.c g v (.bool false) a λw=>d w a))))
 |_=>A.stop
theorem mj:GQ 256 1 g256:=cU [none,some [3],none,some [16],none] λ_ _ _ _ _=>by kernel_rfl
def g257:aq:=λA xs a e=>match xs with
 |[x0]=>
 A.b .geq x0 (.int .i32 48) a λd=>A.tr d Qi x0 a λf=>A.tb d .leq f (.int .i32 57) a λg=>A.c d g (.bool false) a λh=>e h a
 |_=>A.stop
theorem ml:GQ 257 1 g257:=cU [] λ_ _ _ _ _=>by kernel_rfl
def g258:aq:=λA xs c g=>match xs with
 |[]=>
 A.wr (ZG [] c) c λe c=>A.k 264 [(.str [99,97,114,100,32,117,110,105,116,32,99,104,97,114,109,32,102,111,114,109,97,116,32,112,108,97,121,101,100,32,100,101,97,100,32,100,97,119,110,32,97,117,114,97,32,115,104,105,101,108,100,32,104,97,114,109,32,109,101,110,100,32,100,114,97,119,32,103,97,105,110,32,100,114,111,112,32,108,111,111,107,32,115,104,111,119,32,115,117,109,109,111,110,32,105,102,32,101,108,115,101,32,109,101,32,102,111,101,32,116,97,114,103,101,116,32,108,105,102,101,32,104,97,110,100,32,100,101,99,107,32,117,110,105,116,115,32,109,97,110,97,32,99,111,115,116,32,116,111,112,32,112,111,119,101,114,32,109,105,110,32,109,97,120,32,110,111,116,32,97,110,100,32,111,114,32,104,111,108,100,115,32,108,101,97,115,116,32,109,111,115,116,32,99,111,112,105,101,115,32,98,97,110,110,101,100,32,115,105,110,103,108,101])] c λf c=>
 A.r Yf f c λh=>A.loop (λi d c=>A.b .lss (h0 d) h c λj=>A.test j (A.s (Yb 1) f (h0 d) c λl=>A.a l c λm=>A.wr (Xz true [e,m,.bool true] c) c λ_ c=>
 A.b .add (h0 d) (jv 1) c λn=>i [n] c) (g e c)) [jv 0] c
 |_=>A.stop
theorem mm:GQ 258 0 g258:=vr [none,some [7],none,none] λ_ _ _ _=>by kernel_rfl
def g259:aq:=λA xs a d=>match xs with
 |[x0,x1]=>
 A.r Yf x0 a λe=>A.loop (λf c a=>A.b .lss (h0 c) e a λg=>A.test g (A.s (Yb 12) x0 (h0 c) a λh=>A.r (Zd true 12) h a λi=>A.call .cH [x1,i] a λj a=>
 A.test j (d (h0 c) a) (A.b .add (h0 c) (jv 1) a λl=>f [l] a)) (d (jv (-1)) a)) [jv 0] a
 |_=>A.stop
theorem mn:GQ 259 2 g259:=dR [none,some [8],none,none,none] λ_ _ _ _ _ _=>by kernel_rfl
def g260:aq:=λA xs a e=>match xs with
 |[x0]=>
 A.wr (Xe mw [] a) a λc a=>A.k 265 [x0] a λf a=>A.wr (Xe mw [] a) a λb a=>A.ws (Xb 4) b f a λ_ a=>A.loop (λg o a=>A.k 201 [x0,(.str [42])] a λh a=>
 A.test h (A.k 265 [x0] a λi a=>A.wr (Xe mw [] a) a λd a=>A.ws (Xb 4) d i a λ_ a=>A.r (Zd true 4) b a λj=>A.r (Zd true 4) d a λl=>
 A.k 261 [.int .i8 10,j,l] a λm a=>A.ws (Xb 4) b m a λ_ a=>g [] a) (A.r (Zd true 4) b a λn=>A.ws (Xb 4) c n a λ_ a=>A.opt (av true 4 c a) λr12=>
 e r12 a)) [] a
 |_=>A.stop
theorem wR:GQ 260 1 g260:=cU [none,some [],none,none] λ_ _ _ _ _=>by kernel_rfl
def g261:aq:=λA xs a c=>match xs with
 |[x0,x1,x2]=>
 A.w1 Zm x1 a λd a=>A.w1 Zm x2 a λe a=>A.wr (Xe mw [] a) a λb a=>A.r (Zd true 4) d a λf=>A.r (Zd true 4) e a λg=>A.wr (Xi 4 2 [.int .i8 0,jv 0,.int .i8 0,.af,.int .i8 0,jv 0,.int .i8 0,.af] [(0,4),(4,4)] [f,g] a) a λh a=>
 A.rd (Qe mw [(0,1),(3,1)] [x0,h] a) λi=>A.ws (Xb 4) b i a λ_ a=>A.opt (av true 4 b a) λr7=>c r7 a
 |_=>A.stop
theorem wS:GQ 261 3 g261:=jN [] λ_ _ _ _ _ _ _=>by kernel_rfl
def g262:aq:=λA xs a e=>match xs with
 |[x0]=>
 A.wr (Xe [.int .i8 0,.int .i8 0,.str [],.af,.af] [] a) a λc a=>A.k 266 [x0] a λf a=>A.wr (Xe [.int .i8 0,.int .i8 0,.str [],.af,.af] [] a) a λb a=>
 A.ws (Xb 5) b f a λ_ a=>A.loop (λg p a=>A.k 201 [x0,(.str [97,110,100])] a λh a=>A.test h (A.k 266 [x0] a λi a=>A.wr (Xe [.int .i8 0,.int .i8 0,.str [],.af,.af] [] a) a λd a=>
 A.ws (Xb 5) d i a λ_ a=>A.r (Zd true 5) b a λj=>A.r (Zd true 5) d a λl=>A.wr (Xi 5 2 [.int .i8 0,.int .i8 0,.str [],.af,.af,.int .i8 0,.int .i8 0,.str [],.af,.af] [(0,5),(5,5)] [j,l] a) a λm a=>
 A.rd (Qe [.int .i8 0,.int .i8 0,.str [],.af,.af] [(0,1),(4,1)] [.int .i8 4,m] a) λn=>A.ws (Xb 5) b n a λ_ a=>g [] a) (A.r (Zd true 5) b a λo=>
 A.ws (Xb 5) c o a λ_ a=>A.opt (av true 5 c a) λr13=>e r13 a)) [] a
 |_=>A.stop
theorem wT:GQ 262 1 g262:=cU [none,some [],none,none] λ_ _ _ _ _=>by kernel_rfl
def g263:aq:=λA xs a c=>match xs with
 |[]=>
 A.wr (Xe [.int .i8 0,.int .i8 0,.int .i8 0,.int .i8 0,.int .i8 0,.int .i8 0,.int .i8 0,.int .i8 0,.int .i8 0,.int .i8 0,.int .i8 0,.int .i8 0,.int .i8 0,.int .i8 0,.int .i8 0,.int .i8 0] [] a) a λb a=>
 A.rd (Qe Il [(0,1),(1,1),(2,1),(3,1)] [.int .i8 0,.int .i8 1,.int .i8 2,.int .i8 3] a) λd=>A.rd (Qe Il [(0,1),(1,1),(2,1),(3,1)] [.int .i8 1,.int .i8 1,.int .i8 3,.int .i8 3] a) λe=>
 A.rd (Qe Il [(0,1),(1,1),(2,1),(3,1)] [.int .i8 2,.int .i8 3,.int .i8 2,.int .i8 3] a) λf=>A.rd (Qe Il [(0,1),(1,1),(2,1),(3,1)] [.int .i8 3,.int .i8 3,.int .i8 3,.int .i8 3] a) λg=>
 A.rd (Qe [.int .i8 0,.int .i8 0,.int .i8 0,.int .i8 0,.int .i8 0,.int .i8 0,.int .i8 0,.int .i8 0,.int .i8 0,.int .i8 0,.int .i8 0,.int .i8 0,.int .i8 0,.int .i8 0,.int .i8 0,.int .i8 0] [(0,4),(4,4),(8,4),(12,4)] [d,e,f,g] a) λh=>
 A.ws (Xb 16) b h a λ_ a=>A.opt (av true 16 b a) λr6=>c r6 a
 |_=>A.stop
theorem mo:GQ 263 0 g263:=vr [] λ_ _ _ _=>by kernel_rfl
def g264:aq:=λA xs d m=>match xs with
 |[x0]=>
 A.loop (λq f d=>A.r Qs x0 d λt=>A.b .lss (h0 f) t d λu=>A.test u (A.s Xx x0 (h0 f) d λn=>A.b .or (h1 f) n d λv=>A.s (Yg 256 1) (.ay qw 0) n d λw=>
 A.a w d λy=>A.r (ZJ .i64) y d λo=>A.r (Xp .xor) o d λz=>A.b .and (h3 f) z d λa0=>A.b .add (h2 f) a0 d λa1=>A.b .add (h0 f) (jv 1) d λa2=>
 q [a2,v,a1,o] d) (A.b .geq (h1 f) (.int .u8 128) d λa3=>A.test a3 (A.k 267 [x0,(.func (.func 268) [] [])] d λa4 d=>m a4 d) (A.wr (JT 1 16 [.str []] [(h2 f)] d) d λl d=>
 A.loop (λa5 i d=>A.r Qs x0 d λa6=>A.b .lss (h0 i) a6 d λg=>A.tr g Qi x0 d λa7=>A.tr g Qi (h0 i) d λa8=>A.ts g Xx a7 a8 d λa9=>
 A.ts g (Yg 256 1) (.ay qw 0) a9 d λb0=>A.ta g b0 d λb1=>A.tb g .neq b1 (.int .u8 0) d λb2=>A.c g b2 (.bool false) d λb3=>A.test b3 (
 A.b .add (h0 i) (jv 1) d λb4=>a5 [b4] d) (A.loop (λp e d=>A.r Qs x0 d λb5=>A.b .lss (h0 e) b5 d λb6=>A.test b6 (A.s Xx x0 (h0 e) d λb7=>
 A.s (Yg 256 1) (.ay qw 0) b7 d λb8=>A.a b8 d λb9=>A.b .eql b9 (.int .u8 0) d λc0=>A.test c0 (A.b .add (h0 e) (jv 1) d λc1=>p [c1,(h1 e),(h2 e)] d) (
 A.rd (Q0 [x0,(h2 e),(h0 e)] d) λc2=>A.s (Yb 1) l (h1 e) d λc3=>A.ws (Xb 1) c3 c2 d λ_ d=>A.b .add (h1 e) (jv 1) d λc4=>A.b .add (h0 e) (jv 1) d λc5=>
 A.loop (λc6 j d=>A.r Qs x0 d λc7=>A.b .lss (h0 j) c7 d λh=>A.tr h Qi x0 d λc8=>A.tr h Qi (h0 j) d λc9=>A.ts h Xx c8 c9 d λd0=>
 A.ts h (Yg 256 1) (.ay qw 0) d0 d λd1=>A.ta h d1 d λd2=>A.tb h .neq d2 (.int .u8 0) d λd3=>A.c h d3 (.bool false) d λd4=>A.test d4 (
 A.b .add (h0 j) (jv 1) d λd5=>c6 [d5] d) (p [(h0 j),c4,(h0 j)] d)) [c5] d)) (A.r Qs x0 d λd6=>A.b .lss (h2 e) d6 d λd7=>A.test d7 (A.s Iv x0 (h2 e) d λd8=>
 A.s (Yb 1) l (h1 e) d λd9=>A.ws (Xb 1) d9 d8 d λ_ d=>m l d) (m l d))) [(h0 i),jv 0,(h0 i)] d)) [jv 0] d))) [jv 0,.int .u8 0,jv 0,jv 1] d
 |_=>A.stop
theorem oL:GQ 264 1 g264:=cU [none,some [6,5,3,4],none,none,none,none,some [12],none,none,none,some [12,10,11],none,none,none,none,some [12],none,none,none] λ_ _ _ _ _=>by kernel_rfl
def g265:aq:=λA xs d f=>match xs with
 |[x0]=>
 A.wr (Xe mw [] d) d λe d=>A.pu (Qa [x0] d) λu=>A.pu (Ya 0 [u] d) λv=>A.dr (Xf [v] d) d λw y d=>A.pu (Qa [x0] d) λz=>
 A.pu (Ya 1 [z] d) λt6=>A.dr (Xf [t6] d) d λt7 l8 d=>A.dr (Yb 4 [w,t7] d) d λt9 a0 d=>A.dr (Zd true 4 [t9] d) d λa1 a2 d=>
 A.dr (Xe [.int .i8 0,.str [],jv 0,jv 0] [] d) d λi a3 d=>A.dr (Xb 4 [i,a1] d) d λ_ a4 d=>A.gd (Zh [[],[0],[0,1],[0,1,2],[],[4],[4,5],[4,5,6],[0,1,2,3,4,5,6,7],[0,1,2,3,4,5,6,7,8],[],[0,1,2,3,4,5,6,7,8,9,10]] [([],[]),([],[]),([],[]),y,([],[]),([],[]),([],[]),l8,a0,a2,a3,a4]) <|
 A.k 150 [x0] d λg d=>A.tr g (Ya 0) i d λa5=>A.ta g a5 d λa6=>A.tb g .eql a6 (.int .i8 2) d λa7=>A.c g a7 (.bool false) d λa8=>A.test a8 (
 A.r Qa x0 d λa9=>A.r (Ya 1) a9 d λb0=>A.a b0 d λb1=>A.b .add b1 (jv 1) d λb2=>A.r Qa x0 d λb3=>A.r (Ya 1) b3 d λb4=>
 A.ws (Xb 1) b4 b2 d λ_ d=>A.r (Ya 2) i d λb5=>A.a b5 d λb6=>A.rd (Qe mw [(1,1)] [b6] d) λb7=>A.ws (Xb 4) e b7 d λ_ d=>
 A.opt (av true 4 e d) λr30=>f r30 d) (A.wr (Xi 1 5 [.str [],.str [],.str [],.str [],.str []] [(0,1),(1,1),(2,1),(3,1),(4,1)] [.str [],(.str [108,105,102,101]),(.str [104,97,110,100]),(.str [100,101,99,107]),(.str [117,110,105,116,115])] d) d λl d=>
 A.loop (λb8 h d=>A.r Yf l d λb9=>A.b .lss (h0 h) b9 d λc0=>A.test c0 (A.s (Yb 1) l (h0 h) d λc1=>A.a c1 d λc2=>A.k 201 [x0,c2] d λc3 d=>
 A.test c3 (A.k 203 [x0,(.str [40])] d λf7 d=>A.r (ZJ .i8) (h0 h) d λc4=>A.k 245 [x0,.bool false] d λc5 d=>A.rd (Qe mw [(0,1),(2,1)] [c4,c5] d) λc6=>
 A.wr (Xe mw [] d) d λm d=>A.ws (Xb 4) m c6 d λ_ d=>A.k 203 [x0,(.str [41])] d λf8 d=>A.r (Zd true 4) m d λc7=>A.ws (Xb 4) e c7 d λ_ d=>
 A.opt (av true 4 e d) λr46=>f r46 d) (A.b .add (h0 h) (jv 1) d λc8=>b8 [c8] d)) (A.k 201 [x0,(.str [109,97,110,97])] d λc9 d=>A.test c9 (A.k 203 [x0,(.str [40])] d λf9 d=>
 A.k 203 [x0,(.str [109,101])] d λg0 d=>A.k 203 [x0,(.str [41])] d λg1 d=>A.rd (Qe mw [(0,1)] [.int .i8 5] d) λd0=>A.ws (Xb 4) e d0 d λ_ d=>
 A.opt (av true 4 e d) λr53=>f r53 d) (A.k 201 [x0,(.str [99,111,115,116])] d λd1 d=>A.test d1 (A.k 203 [x0,(.str [40])] d λg2 d=>A.k 203 [x0,(.str [116,111,112])] d λg3 d=>
 A.k 203 [x0,(.str [40])] d λg4 d=>A.k 203 [x0,(.str [109,101])] d λg5 d=>A.k 203 [x0,(.str [41])] d λg6 d=>A.k 203 [x0,(.str [41])] d λg7 d=>
 A.rd (Qe mw [(0,1)] [.int .i8 6] d) λd2=>A.ws (Xb 4) e d2 d λ_ d=>A.opt (av true 4 e d) λr62=>f r62 d) (A.k 201 [x0,(.str [112,111,119,101,114])] d λd3 d=>
 A.test d3 (A.k 203 [x0,(.str [40])] d λg8 d=>A.k 203 [x0,(.str [116,97,114,103,101,116])] d λg9 d=>A.k 203 [x0,(.str [41])] d λi0 d=>A.rd (Qe mw [(0,1)] [.int .i8 7] d) λd4=>
 A.ws (Xb 4) e d4 d λ_ d=>A.opt (av true 4 e d) λr68=>f r68 d) (A.k 151 [x0,(.str [109,105,110])] d λj d=>A.fr j Qi x0 d λd5=>A.gw j false (λk=>A.k 151 [d5,(.str [109,97,120])] d k) d λd6 d=>
 A.c j (.bool true) d6 d λd7=>A.test d7 (A.k 151 [x0,(.str [109,97,120])] d λd8 d=>au (λn=>A.test d8 (n [.int .i8 12] d) (n [.int .i8 11] d)) (λd9 d=>
 A.r Qa x0 d λe0=>A.r (Ya 1) e0 d λe1=>A.a e1 d λe2=>A.b .add e2 (jv 1) d λe3=>A.r Qa x0 d λe4=>A.r (Ya 1) e4 d λe5=>
 A.ws (Xb 1) e5 e3 d λ_ d=>A.k 151 [x0,(.str [40])] d λe6 d=>A.r (Xp .not) e6 d λe7=>au (λo=>A.test e7 (A.k 152 [x0,jv 120] d λi1 d=>
 o [] d) (o [] d)) (λi2 d=>A.k 247 [x0] d λi3 d=>A.k 203 [x0,(.str [40])] d λi4 d=>A.k 246 [x0] d λe8 d=>A.wr (Xe mw [] d) d λp d=>A.ws (Xb 4) p e8 d λ_ d=>
 A.k 203 [x0,(.str [44])] d λi5 d=>A.k 246 [x0] d λe9 d=>A.wr (Xe mw [] d) d λq d=>A.ws (Xb 4) q e9 d λ_ d=>A.k 203 [x0,(.str [41])] d λi6 d=>
 A.k 249 [x0] d λi7 d=>A.r (Zd true 4) p d λf0=>A.r (Zd true 4) q d λf1=>A.k 261 [(h0 d9),f0,f1] d λf2 d=>A.ws (Xb 4) e f2 d λ_ d=>
 A.opt (av true 4 e d) λr99=>f r99 d))) (A.k 151 [x0,(.str [40])] d λf3 d=>A.test f3 (A.k 247 [x0] d λi9 d=>A.k 203 [x0,(.str [40])] d λj0 d=>
 A.k 246 [x0] d λf4 d=>A.wr (Xe mw [] d) d λt d=>A.ws (Xb 4) t f4 d λ_ d=>A.k 203 [x0,(.str [41])] d λj1 d=>A.k 249 [x0] d λj2 d=>
 A.r (Zd true 4) t d λf5=>A.ws (Xb 4) e f5 d λ_ d=>A.opt (av true 4 e d) λr108=>f r108 d) (A.k 152 [x0,jv 120] d λj3 d=>A.rd (Qe mw [] [] d) λf6=>
 A.ws (Xb 4) e f6 d λ_ d=>A.opt (av true 4 e d) λr111=>f r111 d))))))) [jv 1] d)
 |_=>A.stop
theorem wU:GQ 265 1 g265:=cU [none,none,some [5],none,none,none,none,none,none,none,none,some [7],some [],none] λ_ _ _ _ _=>by kernel_rfl
def g266:aq:=λA xs a d=>match xs with
 |[x0]=>
 A.wr (Xe [.int .i8 0,.int .i8 0,.str [],.af,.af] [] a) a λb a=>A.k 151 [x0,(.str [110,111,116])] a λm a=>A.test m (A.k 247 [x0] a λt2 a=>
 A.k 203 [x0,(.str [110,111,116])] a λt3 a=>A.k 266 [x0] a λn a=>A.wr (Xe [.int .i8 0,.int .i8 0,.str [],.af,.af] [] a) a λh a=>
 A.ws (Xb 5) h n a λ_ a=>A.k 249 [x0] a λt6 a=>A.r (Zd true 5) h a λo=>A.wr (Xi 5 1 [.int .i8 0,.int .i8 0,.str [],.af,.af] [(0,5)] [o] a) a λp a=>
 A.rd (Qe [.int .i8 0,.int .i8 0,.str [],.af,.af] [(0,1),(4,1)] [.int .i8 3,p] a) λq=>A.ws (Xb 5) b q a λ_ a=>A.opt (av true 5 b a) λr10=>
 d r10 a) (A.k 151 [x0,(.str [40])] a λf a=>A.tr f Qi x0 a λs=>A.gw f true (λk=>A.k 269 [s] a k) a λt a=>A.c f t (.bool false) a λu=>A.test u (
 A.k 247 [x0] a λb4 a=>A.k 203 [x0,(.str [40])] a λb5 a=>A.k 248 [x0] a λv a=>A.wr (Xe [.int .i8 0,.int .i8 0,.str [],.af,.af] [] a) a λi a=>
 A.ws (Xb 5) i v a λ_ a=>A.k 203 [x0,(.str [41])] a λb6 a=>A.k 249 [x0] a λb7 a=>A.r (Zd true 5) i a λw=>A.ws (Xb 5) b w a λ_ a=>
 A.opt (av true 5 b a) λr22=>d r22 a) (A.k 201 [x0,(.str [104,111,108,100,115])] a λy a=>A.test y (A.k 203 [x0,(.str [40])] a λb8 a=>A.k 245 [x0,.bool false] a λz a=>
 A.rd (Qe [.int .i8 0,.int .i8 0,.str [],.af,.af] [(0,1),(1,1)] [.int .i8 6,z] a) λa0=>A.wr (Xe [.int .i8 0,.int .i8 0,.str [],.af,.af] [] a) a λg a=>
 A.ws (Xb 5) g a0 a λ_ a=>A.k 203 [x0,(.str [44])] a λb9 a=>A.k 200 [x0] a λa1 a=>A.r (Ya 2) g a λa2=>A.ws (Xb 1) a2 a1 a λ_ a=>
 A.k 203 [x0,(.str [41])] a λc0 a=>A.r (Zd true 5) g a λa3=>A.ws (Xb 5) b a3 a λ_ a=>A.opt (av true 5 b a) λr33=>d r33 a) (A.k 246 [x0] a λa4 a=>
 A.wr (Xe mw [] a) a λj a=>A.ws (Xb 4) j a4 a λ_ a=>au (λe=>A.k 201 [x0,(.str [60])] a λa5 a=>A.test a5 (e [.int .i8 0] a) (A.k 201 [x0,(.str [60,61])] a λa6 a=>
 A.test a6 (e [.int .i8 1] a) (A.k 201 [x0,(.str [61,61])] a λa7 a=>A.test a7 (e [.int .i8 2] a) (A.k 152 [x0,jv 120] a λc1 a=>e [.int .i8 0] a)))) (λa8 a=>
 A.k 246 [x0] a λa9 a=>A.wr (Xe mw [] a) a λl a=>A.ws (Xb 4) l a9 a λ_ a=>A.r (Zd true 4) j a λb0=>A.r (Zd true 4) l a λb1=>
 A.wr (Xi 4 2 [.int .i8 0,jv 0,.int .i8 0,.af,.int .i8 0,jv 0,.int .i8 0,.af] [(0,4),(4,4)] [b0,b1] a) a λb2 a=>A.rd (Qe [.int .i8 0,.int .i8 0,.str [],.af,.af] [(0,1),(3,1)] [(h0 a8),b2] a) λb3=>
 A.ws (Xb 5) b b3 a λ_ a=>A.opt (av true 5 b a) λr48=>d r48 a))))
 |_=>A.stop
theorem wV:GQ 266 1 g266:=cU [none,none,none,none,some [7],none,none,none] λ_ _ _ _ _=>by kernel_rfl
def g269:aq:=λA xs c g=>match xs with
 |[x0]=>
 A.r Qa x0 c λw=>A.r (Ya 1) w c λy=>A.a y c λz=>A.loop (λa0 d c=>A.r Qa x0 c λt5=>A.r (Ya 0) t5 c λt6=>
 A.a t6 c λt7=>A.r Yf t7 c λt8=>A.b .lss (h0 d) t8 c λt9=>A.test t9 (au (λj=>A.r Qa x0 c λa1=>A.r (Ya 0) a1 c λa2=>
 A.a a2 c λa3=>A.s (Yb 4) a3 (h0 d) c λa4=>A.r (Zd true 4) a4 c λa5=>A.wr (Xe [.int .i8 0,.str [],jv 0,jv 0] [] c) c λh c=>
 A.ws (Xb 4) h a5 c λ_ c=>A.r (Ya 0) h c λa6=>A.a a6 c λa7=>A.b .neq a7 (.int .i8 3) c λa8=>A.test a8 (j [(h1 d)] c) (A.r (Ya 1) h c λa9=>
 A.a a9 c λb0=>A.rd (Yj .eql false [b0,(.str [40])] c) λb1=>au (λl=>A.test b1 (A.b .add (h1 d) (jv 1) c λb2=>l [b2] c) (l [(h1 d)] c)) (λm c=>
 A.r (Ya 1) h c λb3=>A.a b3 c λb4=>A.rd (Yj .eql false [b4,(.str [41])] c) λb5=>au (λn=>A.test b5 (A.b .sub (h0 m) (jv 1) c λb6=>
 n [b6] c) (n [(h0 m)] c)) (λo c=>A.b .eql (h0 o) (jv 0) c λb7=>A.test b7 (A.r Qa x0 c λb8=>A.r (Ya 0) b8 c λb9=>A.a b9 c λc0=>
 A.b .add (h0 d) (jv 1) c λc1=>A.s (Yb 4) c0 c1 c λc2=>A.r (Zd true 4) c2 c λc3=>A.wr (Xe [.int .i8 0,.str [],jv 0,jv 0] [] c) c λi c=>
 A.ws (Xb 4) i c3 c λ_ c=>A.r (Ya 0) i c λc4=>A.a c4 c λc5=>A.b .neq c5 (.int .i8 3) c λc6=>A.test c6 (g (.bool true) c) (A.r (Ya 1) i c λc7=>
 A.a c7 c λe=>A.rd (Yj .eql false [e,(.str [60])] c) λp=>au (λf=>A.test p (f [p] c) (A.rd (Yj .eql false [e,(.str [60,61])] c) λq=>A.test q (
 f [q] c) (A.rd (Yj .eql false [e,(.str [61,61])] c) λt=>A.test t (f [t] c) (A.rd (Yj .eql false [e,(.str [43])] c) λu=>A.test u (f [u] c) (A.rd (Yj .eql false [e,(.str [45])] c) λv=>
 A.test v (f [v] c) (A.rd (Yj .eql false [e,(.str [42])] c) λc8=>f [c8] c)))))) (λc9 c=>A.test (h0 c9) (g (.bool false) c) (g (.bool true) c)))) (j [(h0 o)] c))))) (λd0 c=>
 A.b .add (h0 d) (jv 1) c λd1=>a0 [d1,(h0 d0)] c)) (g (.bool true) c)) [z,jv 0] c
 |_=>A.stop
theorem wW:GQ 269 1 g269:=cU [none,some [4,3],none,some [3],none,some [3],some [3],none,none,none,some [55],none,none,none,none,none] λ_ _ _ _ _=>by kernel_rfl
def tb:GT:=(.node 192 1 g192 (.node 121 1 g121 (.node 72 3 g72 (.node 57 1 g57 (.node 53 0 g53 (.node 22 5 g22 (.node 18 3 g18 (.node 17 0 g17 .leaf .leaf) .leaf) (.node 27 3 g27 .leaf .leaf)) (.node 55 2 g55 (.node 54 3 g54 .leaf .leaf) (.node 56 2 g56 .leaf .leaf))) (.node 65 1 g65 (.node 59 1 g59 (.node 58 2 g58 .leaf .leaf) (.node 64 7 g64 .leaf .leaf)) (.node 67 1 g67 (.node 66 4 g66 .leaf .leaf) (.node 71 2 g71 .leaf .leaf)))) (.node 111 3 g111 (.node 77 2 g77 (.node 75 3 g75 (.node 74 2 g74 (.node 73 2 g73 .leaf .leaf) .leaf) (.node 76 1 g76 .leaf .leaf)) (.node 96 1 g96 (.node 78 1 g78 .leaf .leaf) (.node 110 1 g110 .leaf .leaf))) (.node 115 2 g115 (.node 113 1 g113 (.node 112 1 g112 .leaf .leaf) (.node 114 1 g114 .leaf .leaf)) (.node 119 2 g119 (.node 118 2 g118 .leaf .leaf) (.node 120 2 g120 .leaf .leaf))))) (.node 155 2 g155 (.node 147 1 g147 (.node 143 1 g143 (.node 130 1 g130 (.node 124 1 g124 (.node 122 1 g122 .leaf .leaf) .leaf) (.node 142 1 g142 .leaf .leaf)) (.node 145 2 g145 (.node 144 4 g144 .leaf .leaf) (.node 146 2 g146 .leaf .leaf))) (.node 151 2 g151 (.node 149 1 g149 (.node 148 2 g148 .leaf .leaf) (.node 150 1 g150 .leaf .leaf)) (.node 153 2 g153 (.node 152 2 g152 .leaf .leaf) (.node 154 2 g154 .leaf .leaf)))) (.node 184 1 g184 (.node 180 1 g180 (.node 178 1 g178 (.node 157 3 g157 (.node 156 2 g156 .leaf .leaf) .leaf) (.node 179 1 g179 .leaf .leaf)) (.node 182 1 g182 (.node 181 1 g181 .leaf .leaf) (.node 183 1 g183 .leaf .leaf))) (.node 188 3 g188 (.node 186 2 g186 (.node 185 2 g185 .leaf .leaf) (.node 187 1 g187 .leaf .leaf)) (.node 190 2 g190 (.node 189 2 g189 .leaf .leaf) (.node 191 1 g191 .leaf .leaf)))))) (.node 235 2 g235 (.node 209 1 g209 (.node 201 2 g201 (.node 197 1 g197 (.node 195 2 g195 (.node 194 1 g194 (.node 193 2 g193 .leaf .leaf) .leaf) (.node 196 2 g196 .leaf .leaf)) (.node 199 0 g199 (.node 198 1 g198 .leaf .leaf) (.node 200 1 g200 .leaf .leaf))) (.node 205 1 g205 (.node 203 2 g203 (.node 202 1 g202 .leaf .leaf) (.node 204 3 g204 .leaf .leaf)) (.node 207 1 g207 (.node 206 1 g206 .leaf .leaf) (.node 208 2 g208 .leaf .leaf)))) (.node 225 1 g225 (.node 221 2 g221 (.node 212 1 g212 (.node 211 2 g211 (.node 210 1 g210 .leaf .leaf) .leaf) (.node 213 2 g213 .leaf .leaf)) (.node 223 1 g223 (.node 222 2 g222 .leaf .leaf) (.node 224 2 g224 .leaf .leaf))) (.node 229 0 g229 (.node 227 1 g227 (.node 226 2 g226 .leaf .leaf) (.node 228 3 g228 .leaf .leaf)) (.node 231 1 g231 (.node 230 1 g230 .leaf .leaf) (.node 232 1 g232 .leaf .leaf))))) (.node 252 1 g252 (.node 244 2 g244 (.node 240 3 g240 (.node 238 2 g238 (.node 237 2 g237 (.node 236 2 g236 .leaf .leaf) .leaf) (.node 239 2 g239 .leaf .leaf)) (.node 242 1 g242 (.node 241 1 g241 .leaf .leaf) (.node 243 2 g243 .leaf .leaf))) (.node 248 1 g248 (.node 246 1 g246 (.node 245 2 g245 .leaf .leaf) (.node 247 1 g247 .leaf .leaf)) (.node 250 2 g250 (.node 249 1 g249 .leaf .leaf) (.node 251 1 g251 .leaf .leaf)))) (.node 260 1 g260 (.node 256 1 g256 (.node 254 1 g254 (.node 253 2 g253 .leaf .leaf) (.node 255 2 g255 .leaf .leaf)) (.node 258 0 g258 (.node 257 1 g257 .leaf .leaf) (.node 259 2 g259 .leaf .leaf))) (.node 264 1 g264 (.node 262 1 g262 (.node 261 3 g261 .leaf .leaf) (.node 263 0 g263 .leaf .leaf)) (.node 266 1 g266 (.node 265 1 g265 .leaf .leaf) (.node 269 1 g269 .leaf .leaf)))))))
theorem Gp:tb.Ok prog rH:=⟨lR,⟨fA,⟨zC,⟨g_,⟨zA,⟨oI,⟨zy,⟨zx,trivial,trivial⟩,trivial⟩,⟨zz,trivial,trivial⟩⟩,⟨oP,⟨oO,trivial,trivial⟩,⟨qL,trivial,trivial⟩⟩⟩,⟨qO,⟨mW,⟨zB,trivial,trivial⟩,⟨jx,trivial,trivial⟩⟩,⟨qP,⟨mX,trivial,trivial⟩,⟨iE,trivial,trivial⟩⟩⟩⟩,⟨ke,⟨mZ,⟨kN,⟨zE,⟨zD,trivial,trivial⟩,trivial⟩,⟨mY,trivial,trivial⟩⟩,⟨iF,⟨zF,trivial,trivial⟩,⟨od,trivial,trivial⟩⟩⟩,⟨oh,⟨oe,⟨iZ,trivial,trivial⟩,⟨og,trivial,trivial⟩⟩,⟨kg,⟨kf,trivial,trivial⟩,⟨lD,trivial,trivial⟩⟩⟩⟩⟩,⟨ot,⟨lG,⟨kh,⟨ja,⟨lE,⟨vR,trivial,trivial⟩,trivial⟩,⟨fB,trivial,trivial⟩⟩,⟨oq,⟨lF,trivial,trivial⟩,⟨gS,trivial,trivial⟩⟩⟩,⟨vX,⟨vV,⟨lH,trivial,trivial⟩,⟨vW,trivial,trivial⟩⟩,⟨vZ,⟨vY,trivial,trivial⟩,⟨v_,trivial,trivial⟩⟩⟩⟩,⟨lO,⟨lK,⟨ki,⟨gb,⟨ou,trivial,trivial⟩,trivial⟩,⟨lJ,trivial,trivial⟩⟩,⟨lM,⟨lL,trivial,trivial⟩,⟨lN,trivial,trivial⟩⟩⟩,⟨gU,⟨lQ,⟨lP,trivial,trivial⟩,⟨gf,trivial,trivial⟩⟩,⟨et,⟨oz,trivial,trivial⟩,⟨jb,trivial,trivial⟩⟩⟩⟩⟩⟩,⟨gW,⟨lT,⟨wu,⟨oE,⟨oC,⟨oB,⟨oA,trivial,trivial⟩,trivial⟩,⟨oD,trivial,trivial⟩⟩,⟨wq,⟨oF,trivial,trivial⟩,⟨wt,trivial,trivial⟩⟩⟩,⟨wz,⟨wx,⟨wv,trivial,trivial⟩,⟨wy,trivial,trivial⟩⟩,⟨wB,⟨wA,trivial,trivial⟩,⟨lS,trivial,trivial⟩⟩⟩⟩,⟨lW,⟨lU,⟨gV,⟨jd,⟨jc,trivial,trivial⟩,trivial⟩,⟨kl,trivial,trivial⟩⟩,⟨km,⟨gg,trivial,trivial⟩,⟨lV,trivial,trivial⟩⟩⟩,⟨oH,⟨oG,⟨lX,trivial,trivial⟩,⟨lY,trivial,trivial⟩⟩,⟨wJ,⟨wI,trivial,trivial⟩,⟨wK,trivial,trivial⟩⟩⟩⟩⟩,⟨gZ,⟨mg,⟨mc,⟨l_,⟨lZ,⟨gX,trivial,trivial⟩,trivial⟩,⟨ma,trivial,trivial⟩⟩,⟨mf,⟨me,trivial,trivial⟩,⟨oJ,trivial,trivial⟩⟩⟩,⟨wP,⟨wN,⟨wM,trivial,trivial⟩,⟨wO,trivial,trivial⟩⟩,⟨eM,⟨wQ,trivial,trivial⟩,⟨gY,trivial,trivial⟩⟩⟩⟩,⟨wR,⟨mj,⟨ko,⟨mh,trivial,trivial⟩,⟨mi,trivial,trivial⟩⟩,⟨mm,⟨ml,trivial,trivial⟩,⟨mn,trivial,trivial⟩⟩⟩,⟨oL,⟨wT,⟨wS,trivial,trivial⟩,⟨mo,trivial,trivial⟩⟩,⟨wV,⟨wU,trivial,trivial⟩,⟨wW,trivial,trivial⟩⟩⟩⟩⟩⟩⟩
end Go.Ah.Tz
end
section
namespace Go.Ah.Tz
open Go.Proofs.Tryz (prog)
set_option maxRecDepth 1000000
def v18:aa:=(.aG [(.agg [(.int .i64 1),(.int .i64 0),(.int .i8 0),(.bool false),(.int .i8 0),.af,(.int .i64 9),(.int .i64 19),(.int .i64 0),(.int .i64 0),.af,.af,.af,(.ax false false 4 [[(.int .i64 1),(.int .i64 0),(.int .i64 0),(.bool false)],[(.int .i64 2),(.int .i64 1),(.int .i64 0),(.bool false)]]),.af,(.int .i64 20),(.int .i64 0),(.int .i64 0),(.ax false false 1 [[(.int .i64 1)],[(.int .i64 0)]]),.af,.af,.af,.af]),(.agg [(.int .i8 3),(.int .i64 0),(.int .i64 (-1)),(.int .i64 0),(.int .i64 0),(.int .i64 0),.af]),(.int .i64 0)])
def v22:aa:=(.aG [(.agg [(.int .i64 1),(.int .i64 0),(.int .i8 0),(.bool false),(.int .i8 0),.af,(.int .i64 9),(.int .i64 20),(.int .i64 0),(.int .i64 0),.af,.af,.af,(.ax false false 4 [[(.int .i64 1),(.int .i64 0),(.int .i64 2),(.bool false)],[(.int .i64 2),(.int .i64 1),(.int .i64 0),(.bool false)]]),.af,(.int .i64 20),(.int .i64 0),(.int .i64 0),(.ax false false 1 [[(.int .i64 1)],[(.int .i64 0)]]),.af,.af,.af,.af]),(.agg [(.int .i8 5),(.int .i64 0),(.int .i64 0),(.int .i64 1),(.int .i64 0),(.int .i64 2),.af]),(.int .i64 0)])
end Go.Ah.Tz
end
section
namespace Go.Ah.Tz
@[reducible] def iv(n:Int):aa:=.int .i64 n
@[reducible] def ar(n:Int):aa:=.int .i8 n
def bL(n:Int):List aa:=[iv n]
@[reducible] def bd(l:List Int):aa:=.ax false false 1 (l.map bL)
structure Th where
 id:Int
 card:Int
 aK:Int
 nv:Bool
 deriving DecidableEq,Inhabited
def bf(t:Th):List aa:=[iv t.id,iv t.card,iv t.aK,.bool t.nv]
@[reducible] def nA(l:List Th):aa:=.ax false false 4 (l.map bf)
structure Sd where
 aW:Int
 dj:Int
 most:Int
 bJ:List Int
 hand:List Int
 aR:List Int
 ae:List Th
 told:List Int
 deriving DecidableEq,Inhabited
@[reducible] def pn(s:Sd):List aa:=[iv s.aW,iv s.dj,iv s.most,bd s.bJ,bd s.hand,bd s.aR,nA s.ae,bd s.told]
structure St where
 turn:Int
 mover:Int
 phase:Int
 cc:Bool
 result:Int
 ak:List Int
 next:Int
 s0:Sd
 s1:Sd
 deriving DecidableEq,Inhabited
@[reducible] def bX(s:St):List aa:=[iv s.turn,iv s.mover,ar s.phase,.bool s.cc,ar s.result,bd s.ak,iv s.next,
 iv s.s0.aW,iv s.s0.dj,iv s.s0.most,bd s.s0.bJ,bd s.s0.hand,bd s.s0.aR,nA s.s0.ae,bd s.s0.told,
 iv s.s1.aW,iv s.s1.dj,iv s.s1.most,bd s.s1.bJ,bd s.s1.hand,bd s.s1.aR,nA s.s1.ae,bd s.s1.told]
@[reducible] def eC(s:St):aa:=.agg (bX s)
theorem Zf{n:Nat}(h:(n:Int)<4611686018427387904):IntKind.i64.wrap ((n:Int)+1)=((n+1:Nat):Int):=by
 rw[IntWalk.i64_in _ (by omega)]; simp
theorem Yy{α:Type}(l:List α)(i:Nat)(h:i<l.length):l.take (i+1)=l.take i++[l[i]]:=by
 rw[List.take_succ_eq_append_getElem h]
theorem YE{α β:Type}(f:α→β)(l:List α)(i:Nat)(h:i<l.length):(l.take i).map f++[f l[i]]=(l.take (i+1)).map f:=by
 rw[Yy l i h,List.map_append]; rfl
abbrev Tx:=List UInt8
inductive Nm where
 |mk (op n aB:Int) (kids:List Nm)
 deriving Inhabited
inductive Cn where
 |mk (op aB:Int) (name:Tx) (aw:List Nm) (kids:List Cn)
 deriving Inhabited
inductive Ef where
 |mk (op aB:Int) (n:Nm) (name:Tx) (c:Cn) (bk br:List Ef)
 deriving Inhabited
def Nm.op:Nm→Int | .mk a _ _ _=>a
def Nm.n:Nm→Int | .mk _ a _ _=>a
def Nm.aB:Nm→Int | .mk _ _ a _=>a
def Nm.kids:Nm→List Nm | .mk _ _ _ a=>a
def Cn.op:Cn→Int | .mk a _ _ _ _=>a
def Cn.aB:Cn→Int | .mk _ a _ _ _=>a
def Cn.name:Cn→Tx | .mk _ _ a _ _=>a
def Cn.aw:Cn→List Nm | .mk _ _ _ a _=>a
def Cn.kids:Cn→List Cn | .mk _ _ _ _ a=>a
def Ef.op:Ef→Int | .mk a _ _ _ _ _ _=>a
def Ef.aB:Ef→Int | .mk _ a _ _ _ _ _=>a
def Ef.n:Ef→Nm | .mk _ _ a _ _ _ _=>a
def Ef.name:Ef→Tx | .mk _ _ _ a _ _ _=>a
def Ef.c:Ef→Cn | .mk _ _ _ _ a _ _=>a
def Ef.bk:Ef→List Ef | .mk _ _ _ _ _ a _=>a
def Ef.br:Ef→List Ef | .mk _ _ _ _ _ _ a=>a
mutual
def aP:Nm→List aa
 |.mk op n aB kids=>[ar op,iv n,ar aB,.ax false false 4 (xl kids)]
def xl:List Nm→List (List aa)
 |[]=>[]
 |x::l=>aP x::xl l
end
theorem NM:∀l,xl l=l.map aP
 |[]=>rfl
 |x::l=>by simp[xl,NM l]
theorem QA(x:Nm):aP x=[ar x.op,iv x.n,ar x.aB,.ax false false 4 (x.kids.map aP)]:=by
 cases x; simp[aP,NM,Nm.op,Nm.n,Nm.aB,Nm.kids]
mutual
def b_:Cn→List aa
 |.mk op aB name aw kids=>[ar op,ar aB,.str name,.ax false false 4 (aw.map aP),.ax false false 5 (vN kids)]
def vN:List Cn→List (List aa)
 |[]=>[]
 |x::l=>b_ x::vN l
end
theorem My:∀l,vN l=l.map b_
 |[]=>rfl
 |x::l=>by simp[vN,My l]
theorem XH(x:Cn):b_ x=[ar x.op,ar x.aB,.str x.name,.ax false false 4 (x.aw.map aP),.ax false false 5 (x.kids.map b_)]:=by
 cases x; simp[b_,My,Cn.op,Cn.aB,Cn.name,Cn.aw,Cn.kids]
mutual
def aX:Ef→List aa
 |.mk op aB n name c bk br=>[ar op,ar aB,ar n.op,iv n.n,ar n.aB,.ax false false 4 (n.kids.map aP),.str name,ar c.op,ar c.aB,.str c.name,.ax false false 4 (c.aw.map aP),.ax false false 5 (c.kids.map b_),.ax false false 14 (t_ bk),.ax false false 14 (t_ br)]
def t_:List Ef→List (List aa)
 |[]=>[]
 |x::l=>aX x::t_ l
end
theorem N4:∀l,t_ l=l.map aX
 |[]=>rfl
 |x::l=>by simp[t_,N4 l]
theorem QH(x:Ef):aX x=[ar x.op,ar x.aB,ar x.n.op,iv x.n.n,ar x.n.aB,.ax false false 4 (x.n.kids.map aP),.str x.name,ar x.c.op,ar x.c.aB,.str x.c.name,.ax false false 4 (x.c.aw.map aP),.ax false false 5 (x.c.kids.map b_),.ax false false 14 (x.bk.map aX),.ax false false 14 (x.br.map aX)]:=by
 cases x; simp[aX,N4,Ef.op,Ef.aB,Ef.n,Ef.name,Ef.c,Ef.bk,Ef.br]
structure Cd where
 name:Tx
 unit:Bool
 cost:Int
 bU:Int
 aT:Int
 bC:Int
 cG:Int
 dq:Int
 bB:List Ef
 dead:List Ef
 eh:List Ef
 pl:Int
 deriving Inhabited
@[reducible] def ju(l:List Ef):aa:=.ax false false 14 (l.map aX)
def cD(c:Cd):List aa:=[.str c.name,.bool c.unit,iv c.cost,iv c.bU,iv c.aT,iv c.bC,iv c.cG,iv c.dq,ju c.bB,ju c.dead,ju c.eh,iv c.pl]
def s9(t:Tx):List aa:=[.str t]
@[reducible] def Dr(l:List Tx):aa:=.ax false false 1 (l.map s9)
structure Fo where
 name:Tx
 least:Int
 most:Int
 fH:Int
 gp:List Tx
 single:List Tx
 pl:Int
 deriving Inhabited
def mS(f:Fo):List aa:=[.str f.name,iv f.least,iv f.most,iv f.fH,Dr f.gp,Dr f.single,iv f.pl]
structure Bk where
 ai:List Cd
 ao:List Fo
 deriving Inhabited
@[reducible] def gG(l:List Cd):aa:=.ax false false 12 (l.map cD)
@[reducible] def jZ(l:List Fo):aa:=.ax false false 7 (l.map mS)
@[reducible] def eY(b:Bk):aa:=.agg [gG b.ai,jZ b.ao]
end Go.Ah.Tz
end
section
namespace Go.Ah.Tz
open Go.Proofs.Tryz (prog)
theorem hP:prog.follows .mixedOrders=true:=by kernel_rfl
theorem c62(a b:List Int)(ha:a.length<4611686018427387904):PC 62 [bd a,bd b] (.bool (decide (a=b))):=by
 refine Qd hP fe rfl rfl ?_;simp only[g62,Yh,td,XN,xZ,List.length_map];refine⟨λh=>?_,λh=>?_⟩
 ·simp at h ⊢; rintro rfl; exact h rfl
 have hl:a.length=b.length:=by simp at h; omega
 refine Zl (ι:=Nat) (λi vs s=>vs=[iv i]∧i≤a.length∧a.take i=b.take i) (λi=>a.length-i) 0 ⟨rfl,by omega,by simp⟩ ?_;rintro i vs s again ⟨rfl,hi,ht⟩ aM;simp only[td,h0,pC,Qv,xZ];refine⟨λh=>?_,λh=>?_⟩
 ·have h:i<a.length:=by simpa using h
  simp[Zp _ bL _ _ _ a _ i h,Zp _ bL _ _ _ b _ i (by omega),bL,Zf (n:=i) (by omega)];refine⟨λdL e=>?_,λhe=>?_⟩
  ·subst e; exact dL rfl
  ·refine aM (i+1) _ _ (by omega) ⟨rfl,by omega,?_⟩;rw[List.take_succ_eq_append_getElem h,List.take_succ_eq_append_getElem (by omega),ht,he]
 ·have h:¬i<a.length:=by simpa using h
  rw[List.take_of_length_le (by omega),List.take_of_length_le (by omega)] at ht;simp[ht]
def cL(n:Nat)(rows:List (List aa))(k:Nat)(v:aa)(σ:List ab):Prop:=
 (k=0∧v=.af∧rows=[])∨(0<k∧∃b,v=.sl b 0 k false∧ah σ b=.rows n rows∧rows.length=k)
theorem cL.nil(n:Nat)(σ:List ab):cL n [] 0 .af σ:=.inl ⟨rfl,rfl,rfl⟩
theorem cL.app{α:Type}(A:al α){hold:α→Prop}{n cd k:Nat}{rows:List (List aa)}{v:aa}{σ:List ab}{row:List aa}(hg:cL n rows k v σ)(hr:row.all aa.cell=true)(cr:(2*(k+1)+192)*cd≤2 ^ 48)(K:aa→List ab→α)
 (hK:∀v' σ',cL n (rows++[row]) (k+1) v' σ'→hold (K v' σ')):hold (A.wr (Qj n cd [v,.sl σ.length 0 1 true] (σ++[.rows n [row]])) (σ++[.rows n [row]]) K):=by
 rcases hg with ⟨rfl,rfl,rfl⟩|⟨hk,b,rfl,hb,hl⟩
 ·rw[Ip A n cd σ row hr (by simpa using cr)];exact hK _ _ (.inr ⟨by omega,_,rfl,by have:=Zi (σ++[.rows n [row]]) (.rows n [row]); simpa using this,rfl⟩)
 ·rw[I_ A n cd σ b k false rows row hb hl hr cr];refine hK _ _ (.inr ⟨by omega,_,rfl,?_,by simp[hl]⟩);have:=Zi (σ.set b .dead++[.rows n [row]]) (.rows n (rows++[row]));simpa using this
theorem X5{α:Type}{f:α→List aa}{l:List α}{m:Nat→Option Nat}(h:∀x,(f x).map (aa.bG m)=f x):(l.map f).map (λr=>r.map (aa.bG m))=l.map f:=by
 rw[List.map_map]; apply List.map_congr_left; intro x _; exact h x
theorem cL.tidy{α:Type}{n k:Nat}{v:aa}{σ:List ab}{f:α→List aa}{l:List α}(hg:cL n (l.map f) k v σ)(hk:k=l.length)(hf:∀(m:Nat→Option Nat) x,(f x).map (aa.bG m)=f x):Tidy σ v [.rows n (l.map f)] (.sl 0 0 l.length false):=by
 rcases hg with ⟨h1,rfl,h3⟩|⟨oY,b,rfl,hb,hl⟩
 ·have hl:l=[]:=by simpa using h3
  subst hl;refine(Tidy.ghost n (.inl rfl)).trans ?_;have:=Tidy.one (σ:=σ++[.rows n []]) (b:=σ.length) (blk:=.rows n []) (by simp) (λx=>if x=σ.length then some 0 else none) (λ_=>rfl) (.sl σ.length 0 0 false);simpa using this
 ·subst hk;have:=Tidy.one (σ:=σ) (b:=b) (ZE hb (by simp)) (λx=>if x=b then some 0 else none) (λ_=>rfl) (.sl b 0 l.length false);simp only[ab.dk,aa.bG,if_true] at this
  rwa [X5 (hf _)] at this
theorem Nk(m:Nat→Option Nat)(x:Int):(bL x).map (aa.bG m)=bL x:=rfl
theorem OG(m:Nat→Option Nat)(x:Th):(bf x).map (aa.bG m)=bf x:=rfl
theorem c60(l:List Int)(hl:l.length≤1000000000):cE prog rH 60 [bd l] (.sl 0 0 l.length false) [.rows 1 (l.map bL)]:=by
 refine Xy hP qM rfl ?_;simp only[g60];refine Zl (ι:=Nat) (λi vs s=>∃v,vs=[iv i,v]∧i≤l.length∧cL 1 ((l.take i).map bL) i v s) (λi=>l.length-i) 0 ⟨_,rfl,by omega,cL.nil _ _⟩ ?_;rintro i vs s again ⟨v,rfl,hi,hg⟩ aM;simp only[Yh,td,h0,h1,pC,gO,Qv,xZ,List.length_map];refine⟨λh=>?_,λh=>?_⟩
 ·have h:i<l.length:=by simpa using h
  simp only[Zp _ bL _ _ _ l _ i h,td,G8,aF,bL,nth];rw[Q7 _ _ _ _ _ [iv l[i]] rfl rfl];refine hg.app _ (hold:=λp=>p) rfl (by omega) _ (λv' σ' nO=>?_);simp only[Xk,td,Zf (n:=i) (by omega)];exact aM (i+1) _ _ (by omega) ⟨v',rfl,by omega,by rw[←YE _ _ _ h]; exact nO⟩
 ·have h:¬i<l.length:=by simpa using h
  have:i=l.length:=by omega
  subst this;rw[List.take_length] at hg;exact hg.tidy rfl Nk
theorem c63(a b:List Th)(ha:a.length<4611686018427387904):PC 63 [nA a,nA b] (.bool (decide (a=b))):=by
 refine Qd hP qN rfl rfl ?_;simp only[g63,Yh,td,XN,xZ,List.length_map];refine⟨λh=>?_,λh=>?_⟩
 ·simp at h ⊢; rintro rfl; exact h rfl
 have hl:a.length=b.length:=by simp at h; omega
 refine Zl (ι:=Nat) (λi vs s=>vs=[iv i]∧i≤a.length∧a.take i=b.take i) (λi=>a.length-i) 0 ⟨rfl,by omega,by simp⟩ ?_;rintro i vs s again ⟨rfl,hi,ht⟩ aM;simp only[td,h0,pC,Qv,xZ];refine⟨λh=>?_,λh=>?_⟩
 ·have h:i<a.length:=by simpa using h
  have hq:DZ true [false,false,false,true] [.agg (bf a[i]),.agg (bf b[i])] s=.ok (.bool (!decide (a[i]=b[i]))) [] []:=by
   have:(decide (a[i]=b[i]))=((a[i].id==b[i].id)&&((a[i].card==b[i].card)&&((a[i].aK==b[i].aK)&&((a[i].nv==b[i].nv)&&true)))):=by
    rw[Bool.eq_iff_iff];cases h1:a[i]; cases h2:b[i]; simp
   simp[DZ,XM,CW,bf,this]
  simp only[Zp _ bf _ _ _ a _ i h,Zp _ bf _ _ _ b _ i (by omega),td,G8,aF,show ∀x,takeN 4 (fm 0 (bf x))=some (bf x) from λ_=>rfl,hq,xZ,Xk,Zf (n:=i) (by omega)];refine⟨λdL=>?_,λhe=>?_⟩
  ·simp at dL ⊢; intro e; subst e; exact dL rfl
  ·refine aM (i+1) _ _ (by omega) ⟨rfl,by omega,?_⟩;rw[List.take_succ_eq_append_getElem h,List.take_succ_eq_append_getElem (by omega),ht,show a[i]=b[i] by simpa using he]
 ·have h:¬i<a.length:=by simpa using h
  rw[List.take_of_length_le (by omega),List.take_of_length_le (by omega)] at ht;simp[ht]
theorem c61(l:List Th)(hl:l.length≤1000000000):cE prog rH 61 [nA l] (.sl 0 0 l.length false) [.rows 4 (l.map bf)]:=by
 refine Xy hP ui rfl ?_;simp only[g61];refine Zl (ι:=Nat) (λi vs s=>∃v,vs=[iv i,v]∧i≤l.length∧cL 4 ((l.take i).map bf) i v s) (λi=>l.length-i) 0 ⟨_,rfl,by omega,cL.nil _ _⟩ ?_;rintro i vs s again ⟨v,rfl,hi,hg⟩ aM;simp only[Yh,td,h0,h1,pC,gO,Qv,xZ,List.length_map];refine⟨λh=>?_,λh=>?_⟩
 ·have h:i<l.length:=by simpa using h
  simp only[Zp _ bf _ _ _ l _ i h,td,G8,aF,show ∀x,takeN 4 (fm 0 (bf x))=some (bf x) from λ_=>rfl];rw[Q7 _ _ _ _ _ (bf l[i]) rfl rfl];refine hg.app _ (hold:=λp=>p) rfl (by omega) _ (λv' σ' nO=>?_);simp only[Xk,td,Zf (n:=i) (by omega)];exact aM (i+1) _ _ (by omega) ⟨v',rfl,by omega,by rw[←YE _ _ _ h]; exact nO⟩
 ·have h:¬i<l.length:=by simpa using h
  have:i=l.length:=by omega
  subst this;rw[List.take_length] at hg;exact hg.tidy rfl OG
end Go.Ah.Tz
end
section
namespace Go.Ah.Tz
open Go.Proofs.Tryz (prog)
attribute [local irreducible] al.rd al.pu al.wr al.dr al.gr al.gw al.gl al.gd al.opt au W
structure pH (n:Nat) (s:Sd):Prop where
 bJ:s.bJ.length≤n
 hand:s.hand.length≤n
 aR:s.aR.length≤n
 ae:s.ae.length≤n
 told:s.told.length≤n
structure cw (n:Nat) (s:St):Prop where
 ak:s.ak.length≤n
 s0:pH n s.s0
 s1:pH n s.s1
theorem Y7{a b:Sd}:a=b↔a.aW=b.aW∧a.dj=b.dj∧a.most=b.most∧a.bJ=b.bJ∧a.hand=b.hand∧a.aR=b.aR∧a.told=b.told∧a.ae=b.ae:=by
 cases a; cases b;simp only[Sd.mk.injEq];constructor
 ·rintro⟨h1,h2,h3,h4,h5,h6,h7,h8⟩; exact⟨h1,h2,h3,h4,h5,h6,h8,h7⟩
 ·rintro⟨h1,h2,h3,h4,h5,h6,h7,h8⟩; exact⟨h1,h2,h3,h4,h5,h6,h8,h7⟩
theorem YQ{a b:St}:a=b↔a.turn=b.turn∧a.mover=b.mover∧a.phase=b.phase∧a.cc=b.cc∧a.result=b.result∧a.next=b.next∧a.ak=b.ak∧a.s0=b.s0∧a.s1=b.s1:=by
 cases a; cases b;simp only[St.mk.injEq];constructor
 ·rintro⟨h1,h2,h3,h4,h5,h6,h7,h8,h9⟩; exact⟨h1,h2,h3,h4,h5,h7,h6,h8,h9⟩
 ·rintro⟨h1,h2,h3,h4,h5,h6,h7,h8,h9⟩; exact⟨h1,h2,h3,h4,h5,h7,h6,h8,h9⟩
set_option maxHeartbeats 1000000
set_option maxRecDepth 10000
theorem c20(a b:St)(ha:cw 1000000000 a):PC 20 [eC a,eC b] (.bool (decide (a=b))):=by
 refine Qd hP ue rfl rfl ?_;unfold g20;repeat first|refine Za rfl ?_|refine Ze rfl rfl ?_
 rcases aL (a.turn != b.turn) with h0|h0
 ·rw[h0]
  (repeat (first|refine Qb rfl ?_|refine Yc rfl ?_|refine Yd rfl ?_|refine Xd rfl ?_|refine Za rfl ?_|refine Ze rfl rfl ?_)); refine Ye ?_; simp at h0; simp[YQ,h0]
 rw[h0];repeat first|refine Xa ?_|refine Zb ?_|refine Za rfl ?_|refine Ze rfl rfl ?_
 rcases aL (a.mover != b.mover) with h1|h1
 ·rw[h1]
  (repeat (first|refine Qb rfl ?_|refine Yc rfl ?_|refine Yd rfl ?_|refine Xd rfl ?_|refine Za rfl ?_|refine Ze rfl rfl ?_)); refine Ye ?_; simp at h1; simp[YQ,h1]
 rw[h1];repeat first|refine Xa ?_|refine Zb ?_|refine Za rfl ?_|refine Ze rfl rfl ?_
 rcases aL (a.phase != b.phase) with h2|h2
 ·rw[h2]
  (repeat (first|refine Qb rfl ?_|refine Yc rfl ?_|refine Yd rfl ?_|refine Xd rfl ?_|refine Za rfl ?_|refine Ze rfl rfl ?_)); refine Ye ?_; simp at h2; simp[YQ,h2]
 rw[h2];repeat first|refine Xa ?_|refine Zb ?_|refine Za rfl ?_|refine Ze rfl rfl ?_
 rcases aL (!(a.cc==b.cc)) with h3|h3
 ·rw[h3]
  (repeat (first|refine Qb rfl ?_|refine Yc rfl ?_|refine Yd rfl ?_|refine Xd rfl ?_|refine Za rfl ?_|refine Ze rfl rfl ?_)); refine Ye ?_; simp at h3; simp[YQ,h3]
 rw[h3];repeat first|refine Xa ?_|refine Zb ?_|refine Za rfl ?_|refine Ze rfl rfl ?_
 rcases aL (a.result != b.result) with h4|h4
 ·rw[h4]
  (repeat (first|refine Qb rfl ?_|refine Yc rfl ?_|refine Yd rfl ?_|refine Xd rfl ?_|refine Za rfl ?_|refine Ze rfl rfl ?_)); refine Ye ?_; simp at h4; simp[YQ,h4]
 rw[h4];repeat first|refine Xa ?_|refine Zb ?_|refine Za rfl ?_|refine Ze rfl rfl ?_
 rcases aL (a.next != b.next) with h5|h5
 ·rw[h5]
  (repeat (first|refine Qb rfl ?_|refine Yc rfl ?_|refine Yd rfl ?_|refine Xd rfl ?_|refine Za rfl ?_|refine Ze rfl rfl ?_)); refine Ye ?_; simp at h5; simp[YQ,h5]
 rw[h5];repeat first|refine Xa ?_|refine Zb ?_|refine Za rfl ?_|refine Ze rfl rfl ?_
 refine Qc (c62 _ _ (by have:=ha.ak; omega)) rfl fe.plain rfl ?_;repeat first|refine Xa ?_|refine Za rfl ?_
 rcases aL (!decide (a.ak=b.ak)) with h6|h6
 ·rw[h6];refine Ye ?_; simp at h6; simp[YQ,h6]
 rw[h6];refine Xh ?_;have w1:IntKind.i64.wrap (0+1)=1:=by decide
 have w2:IntKind.i64.wrap (1+1)=2:=by decide
 refine XF 3 (Xm ?_);refine Za rfl (Ye ?_);repeat first|refine Xa ?_|refine Zb ?_|refine Za rfl ?_|refine Zk rfl ?_|refine Yk rfl rfl ?_|refine Ze rfl rfl ?_
 refine XJ (by kernel_rfl) ?_;repeat first|refine Xa ?_|refine Zb ?_|refine Za rfl ?_|refine Zk rfl ?_|refine Yk rfl rfl ?_|refine Ze rfl rfl ?_
 rcases aL (a.s0.aW != b.s0.aW) with h7|h7
 ·rw[h7]
  (repeat (first|refine Qb rfl ?_|refine Yc rfl ?_|refine Yd rfl ?_|refine Xd rfl ?_|refine Za rfl ?_|refine Ze rfl rfl ?_)); refine Ye ?_; simp at h7; simp[YQ,Y7,h7]
 rw[h7];repeat first|refine Xa ?_|refine Zb ?_|refine Za rfl ?_|refine Zk rfl ?_|refine Yk rfl rfl ?_|refine Ze rfl rfl ?_
 rcases aL (a.s0.dj != b.s0.dj) with h8|h8
 ·rw[h8]
  (repeat (first|refine Qb rfl ?_|refine Yc rfl ?_|refine Yd rfl ?_|refine Xd rfl ?_|refine Za rfl ?_|refine Ze rfl rfl ?_)); refine Ye ?_; simp at h8; simp[YQ,Y7,h8]
 rw[h8];repeat first|refine Xa ?_|refine Zb ?_|refine Za rfl ?_|refine Zk rfl ?_|refine Yk rfl rfl ?_|refine Ze rfl rfl ?_
 rcases aL (a.s0.most != b.s0.most) with h9|h9
 ·rw[h9]
  (repeat (first|refine Qb rfl ?_|refine Yc rfl ?_|refine Yd rfl ?_|refine Xd rfl ?_|refine Za rfl ?_|refine Ze rfl rfl ?_)); refine Ye ?_; simp at h9; simp[YQ,Y7,h9]
 rw[h9];repeat first|refine Xa ?_|refine Zb ?_|refine Za rfl ?_|refine Zk rfl ?_|refine Yk rfl rfl ?_|refine Ze rfl rfl ?_
 refine Qc (c62 _ _ (by have:=ha.s0.bJ; omega)) rfl fe.plain rfl ?_;repeat first|refine Xa ?_|refine Zb ?_|refine Za rfl ?_|refine Zk rfl ?_|refine Yk rfl rfl ?_|refine Ze rfl rfl ?_
 rcases aL (!decide (a.s0.bJ=b.s0.bJ)) with h10|h10
 ·rw[h10]
  (repeat (first|refine Qb rfl ?_|refine Yc rfl ?_|refine Yd rfl ?_|refine Xd rfl ?_|refine Za rfl ?_|refine Ze rfl rfl ?_)); refine Ye ?_; simp at h10; simp[YQ,Y7,h10]
 rw[h10];repeat first|refine Xa ?_|refine Zb ?_|refine Za rfl ?_|refine Zk rfl ?_|refine Yk rfl rfl ?_|refine Ze rfl rfl ?_
 refine Qc (c62 _ _ (by have:=ha.s0.hand; omega)) rfl fe.plain rfl ?_;repeat first|refine Xa ?_|refine Zb ?_|refine Za rfl ?_|refine Zk rfl ?_|refine Yk rfl rfl ?_|refine Ze rfl rfl ?_
 rcases aL (!decide (a.s0.hand=b.s0.hand)) with h11|h11
 ·rw[h11]
  (repeat (first|refine Qb rfl ?_|refine Yc rfl ?_|refine Yd rfl ?_|refine Xd rfl ?_|refine Za rfl ?_|refine Ze rfl rfl ?_)); refine Ye ?_; simp at h11; simp[YQ,Y7,h11]
 rw[h11];repeat first|refine Xa ?_|refine Zb ?_|refine Za rfl ?_|refine Zk rfl ?_|refine Yk rfl rfl ?_|refine Ze rfl rfl ?_
 refine Qc (c62 _ _ (by have:=ha.s0.aR; omega)) rfl fe.plain rfl ?_;repeat first|refine Xa ?_|refine Zb ?_|refine Za rfl ?_|refine Zk rfl ?_|refine Yk rfl rfl ?_|refine Ze rfl rfl ?_
 rcases aL (!decide (a.s0.aR=b.s0.aR)) with h12|h12
 ·rw[h12]
  (repeat (first|refine Qb rfl ?_|refine Yc rfl ?_|refine Yd rfl ?_|refine Xd rfl ?_|refine Za rfl ?_|refine Ze rfl rfl ?_)); refine Ye ?_; simp at h12; simp[YQ,Y7,h12]
 rw[h12];repeat first|refine Xa ?_|refine Zb ?_|refine Za rfl ?_|refine Zk rfl ?_|refine Yk rfl rfl ?_|refine Ze rfl rfl ?_
 refine Qc (c62 _ _ (by have:=ha.s0.told; omega)) rfl fe.plain rfl ?_;repeat first|refine Xa ?_|refine Zb ?_|refine Za rfl ?_|refine Zk rfl ?_|refine Yk rfl rfl ?_|refine Ze rfl rfl ?_
 rcases aL (!decide (a.s0.told=b.s0.told)) with h13|h13
 ·rw[h13]
  (repeat (first|refine Qb rfl ?_|refine Yc rfl ?_|refine Yd rfl ?_|refine Xd rfl ?_|refine Za rfl ?_|refine Ze rfl rfl ?_)); refine Ye ?_; simp at h13; simp[YQ,Y7,h13]
 rw[h13];repeat first|refine Xa ?_|refine Zb ?_|refine Za rfl ?_|refine Zk rfl ?_|refine Yk rfl rfl ?_|refine Ze rfl rfl ?_
 refine Qc (c63 _ _ (by have:=ha.s0.ae; omega)) rfl qN.plain rfl ?_;repeat first|refine Xa ?_|refine Zb ?_|refine Za rfl ?_|refine Zk rfl ?_|refine Yk rfl rfl ?_|refine Ze rfl rfl ?_
 rcases aL (!decide (a.s0.ae=b.s0.ae)) with h14|h14
 ·rw[h14]
  (repeat (first|refine Qb rfl ?_|refine Yc rfl ?_|refine Yd rfl ?_|refine Xd rfl ?_|refine Za rfl ?_|refine Ze rfl rfl ?_)); refine Ye ?_; simp at h14; simp[YQ,Y7,h14]
 rw[h14];repeat first|refine Xa ?_|refine Zb ?_|refine Za rfl ?_|refine Zk rfl ?_|refine Yk rfl rfl ?_|refine Ze rfl rfl ?_
 refine Xh (Za rfl ?_);rw[w1];refine Xm ?_;refine Za rfl (Ye ?_);repeat first|refine Xa ?_|refine Zb ?_|refine Za rfl ?_|refine Zk rfl ?_|refine Yk rfl rfl ?_|refine Ze rfl rfl ?_
 refine XJ (by kernel_rfl) ?_;repeat first|refine Xa ?_|refine Zb ?_|refine Za rfl ?_|refine Zk rfl ?_|refine Yk rfl rfl ?_|refine Ze rfl rfl ?_
 rcases aL (a.s1.aW != b.s1.aW) with h15|h15
 ·rw[h15]
  (repeat (first|refine Qb rfl ?_|refine Yc rfl ?_|refine Yd rfl ?_|refine Xd rfl ?_|refine Za rfl ?_|refine Ze rfl rfl ?_)); refine Ye ?_; simp at h15; simp[YQ,Y7,h15]
 rw[h15];repeat first|refine Xa ?_|refine Zb ?_|refine Za rfl ?_|refine Zk rfl ?_|refine Yk rfl rfl ?_|refine Ze rfl rfl ?_
 rcases aL (a.s1.dj != b.s1.dj) with h16|h16
 ·rw[h16]
  (repeat (first|refine Qb rfl ?_|refine Yc rfl ?_|refine Yd rfl ?_|refine Xd rfl ?_|refine Za rfl ?_|refine Ze rfl rfl ?_)); refine Ye ?_; simp at h16; simp[YQ,Y7,h16]
 rw[h16];repeat first|refine Xa ?_|refine Zb ?_|refine Za rfl ?_|refine Zk rfl ?_|refine Yk rfl rfl ?_|refine Ze rfl rfl ?_
 rcases aL (a.s1.most != b.s1.most) with h17|h17
 ·rw[h17]
  (repeat (first|refine Qb rfl ?_|refine Yc rfl ?_|refine Yd rfl ?_|refine Xd rfl ?_|refine Za rfl ?_|refine Ze rfl rfl ?_)); refine Ye ?_; simp at h17; simp[YQ,Y7,h17]
 rw[h17];repeat first|refine Xa ?_|refine Zb ?_|refine Za rfl ?_|refine Zk rfl ?_|refine Yk rfl rfl ?_|refine Ze rfl rfl ?_
 refine Qc (c62 _ _ (by have:=ha.s1.bJ; omega)) rfl fe.plain rfl ?_;repeat first|refine Xa ?_|refine Zb ?_|refine Za rfl ?_|refine Zk rfl ?_|refine Yk rfl rfl ?_|refine Ze rfl rfl ?_
 rcases aL (!decide (a.s1.bJ=b.s1.bJ)) with h18|h18
 ·rw[h18]
  (repeat (first|refine Qb rfl ?_|refine Yc rfl ?_|refine Yd rfl ?_|refine Xd rfl ?_|refine Za rfl ?_|refine Ze rfl rfl ?_)); refine Ye ?_; simp at h18; simp[YQ,Y7,h18]
 rw[h18];repeat first|refine Xa ?_|refine Zb ?_|refine Za rfl ?_|refine Zk rfl ?_|refine Yk rfl rfl ?_|refine Ze rfl rfl ?_
 refine Qc (c62 _ _ (by have:=ha.s1.hand; omega)) rfl fe.plain rfl ?_;repeat first|refine Xa ?_|refine Zb ?_|refine Za rfl ?_|refine Zk rfl ?_|refine Yk rfl rfl ?_|refine Ze rfl rfl ?_
 rcases aL (!decide (a.s1.hand=b.s1.hand)) with h19|h19
 ·rw[h19]
  (repeat (first|refine Qb rfl ?_|refine Yc rfl ?_|refine Yd rfl ?_|refine Xd rfl ?_|refine Za rfl ?_|refine Ze rfl rfl ?_)); refine Ye ?_; simp at h19; simp[YQ,Y7,h19]
 rw[h19];repeat first|refine Xa ?_|refine Zb ?_|refine Za rfl ?_|refine Zk rfl ?_|refine Yk rfl rfl ?_|refine Ze rfl rfl ?_
 refine Qc (c62 _ _ (by have:=ha.s1.aR; omega)) rfl fe.plain rfl ?_;repeat first|refine Xa ?_|refine Zb ?_|refine Za rfl ?_|refine Zk rfl ?_|refine Yk rfl rfl ?_|refine Ze rfl rfl ?_
 rcases aL (!decide (a.s1.aR=b.s1.aR)) with h20|h20
 ·rw[h20]
  (repeat (first|refine Qb rfl ?_|refine Yc rfl ?_|refine Yd rfl ?_|refine Xd rfl ?_|refine Za rfl ?_|refine Ze rfl rfl ?_)); refine Ye ?_; simp at h20; simp[YQ,Y7,h20]
 rw[h20];repeat first|refine Xa ?_|refine Zb ?_|refine Za rfl ?_|refine Zk rfl ?_|refine Yk rfl rfl ?_|refine Ze rfl rfl ?_
 refine Qc (c62 _ _ (by have:=ha.s1.told; omega)) rfl fe.plain rfl ?_;repeat first|refine Xa ?_|refine Zb ?_|refine Za rfl ?_|refine Zk rfl ?_|refine Yk rfl rfl ?_|refine Ze rfl rfl ?_
 rcases aL (!decide (a.s1.told=b.s1.told)) with h21|h21
 ·rw[h21]
  (repeat (first|refine Qb rfl ?_|refine Yc rfl ?_|refine Yd rfl ?_|refine Xd rfl ?_|refine Za rfl ?_|refine Ze rfl rfl ?_)); refine Ye ?_; simp at h21; simp[YQ,Y7,h21]
 rw[h21];repeat first|refine Xa ?_|refine Zb ?_|refine Za rfl ?_|refine Zk rfl ?_|refine Yk rfl rfl ?_|refine Ze rfl rfl ?_
 refine Qc (c63 _ _ (by have:=ha.s1.ae; omega)) rfl qN.plain rfl ?_;repeat first|refine Xa ?_|refine Zb ?_|refine Za rfl ?_|refine Zk rfl ?_|refine Yk rfl rfl ?_|refine Ze rfl rfl ?_
 rcases aL (!decide (a.s1.ae=b.s1.ae)) with h22|h22
 ·rw[h22]
  (repeat (first|refine Qb rfl ?_|refine Yc rfl ?_|refine Yd rfl ?_|refine Xd rfl ?_|refine Za rfl ?_|refine Ze rfl rfl ?_)); refine Ye ?_; simp at h22; simp[YQ,Y7,h22]
 rw[h22];repeat first|refine Xa ?_|refine Zb ?_|refine Za rfl ?_|refine Zk rfl ?_|refine Yk rfl rfl ?_|refine Ze rfl rfl ?_
 refine Xh (Za rfl ?_);rw[w2];refine Xm ?_;refine Za rfl (Xh ?_);simp at h0 h1 h2 h3 h4 h5 h6 h7 h8 h9 h10 h11 h12 h13 h14 h15 h16 h17 h18 h19 h20 h21 h22;have e:a=b:=YQ.2 ⟨h0,h1,h2,h3,h4,h5,h6,Y7.2 ⟨h7,h8,h9,h10,h11,h12,h13,h14⟩,Y7.2 ⟨h15,h16,h17,h18,h19,h20,h21,h22⟩⟩;simp[e]
end Go.Ah.Tz
end
section
namespace Go.Ah.Tz
open Go.Proofs.Tryz (prog)
theorem QP(m:Nat→Option Nat)(l:List Int):(ab.rows 1 (l.map bL)).dk (aa.bG m)=.rows 1 (l.map bL):=by
 simp only[ab.dk,X5 (Nk m)]
theorem Da(m:Nat→Option Nat)(l:List Th):(ab.rows 4 (l.map bf)).dk (aa.bG m)=.rows 4 (l.map bf):=by
 simp only[ab.dk,X5 (OG m)]
theorem w60{l:List Int}(hl:l.length≤1000000000){σ:List ab}{K:aa→List ab→Prop}(hK:K (.sl σ.length 0 l.length false) (σ++[.rows 1 (l.map bL)])):VV.call (.call 60) [bd l] σ K:=by
 refine DJ (c60 l hl) rfl qM.plain rfl ?_;simp only[Zw,List.map_cons,List.map_nil,QP,aa.bG,ZB,Nat.zero_add];exact hK
theorem d60{l:List Int}(hl:l.length≤1000000000){σ:List ab}{K:aa→List Nat×List Nat→List ab→Prop}(hK:K (.sl σ.length 0 l.length false) ([],[σ.length]) (σ++[.rows 1 (l.map bL)])):VV.aE (.call 60) [bd l] σ K:=by
 refine HA (c60 l hl) rfl qM.plain rfl ?_;simp only[Zw,List.map_cons,List.map_nil,QP,aa.bG,ZB,Nat.zero_add,X4];exact hK
theorem d61{l:List Th}(hl:l.length≤1000000000){σ:List ab}{K:aa→List Nat×List Nat→List ab→Prop}(hK:K (.sl σ.length 0 l.length false) ([],[σ.length]) (σ++[.rows 4 (l.map bf)])):VV.aE (.call 61) [nA l] σ K:=by
 refine HA (c61 l hl) rfl ui.plain rfl ?_;simp only[Zw,List.map_cons,List.map_nil,Da,aa.bG,ZB,Nat.zero_add,X4];exact hK
attribute [local irreducible] al.rd al.pu al.wr al.dr al.gr al.gw al.gl al.gd al.opt au W
@[reducible] def RJ(s:Sd)(b:Nat):List aa:=[iv s.aW,iv s.dj,iv s.most,.sl b 0 s.bJ.length false,.sl (b+1) 0 s.hand.length false,.sl (b+2) 0 s.aR.length false,.sl (b+3) 0 s.ae.length false,.sl (b+4) 0 s.told.length false]
@[reducible] def tu(s:Sd):List ab:=[.rows 1 (s.bJ.map bL),.rows 1 (s.hand.map bL),.rows 1 (s.aR.map bL),.rows 4 (s.ae.map bf),.rows 1 (s.told.map bL)]
@[reducible] def jP(s:St)(b:Nat):List aa:=[iv s.turn,iv s.mover,ar s.phase,.bool s.cc,ar s.result,.sl b 0 s.ak.length false,iv s.next]++RJ s.s0 (b+1)++RJ s.s1 (b+6)
@[reducible] def iC(s:St):List ab:=.rows 1 (s.ak.map bL)::tu s.s0++tu s.s1
theorem c19(s:St)(hs:cw 1000000000 s):cE prog rH 19 [eC s] (.agg (jP s 0)) (iC s):=by
 refine Xy hP ud rfl ?_;unfold g19;have w1:IntKind.i64.wrap (0+1)=1:=by decide
 have w2:IntKind.i64.wrap (1+1)=2:=by decide
 repeat first|refine Za rfl ?_|refine Ze rfl rfl ?_|refine Zk rfl ?_|refine Yk rfl rfl ?_
 refine w60 hs.ak ?_;simp only[List.length_cons,List.length_nil,List.nil_append,List.cons_append,Nat.zero_add,Nat.reduceAdd];repeat first|refine Za rfl ?_|refine Ze rfl rfl ?_|refine Zk rfl ?_|refine Yk rfl rfl ?_
 refine XF 3 (Xm ?_);refine Za rfl (Ye ?_);repeat first|refine Za rfl ?_|refine Ze rfl rfl ?_|refine Zk rfl ?_|refine Yk rfl rfl ?_
 refine d60 hs.s0.bJ ?_;simp only[List.length_cons,List.length_nil,List.nil_append,List.cons_append,Nat.zero_add,Nat.reduceAdd];repeat first|refine Za rfl ?_|refine Ze rfl rfl ?_|refine Zk rfl ?_|refine Yk rfl rfl ?_
 refine d60 hs.s0.hand ?_;simp only[List.length_cons,List.length_nil,List.nil_append,List.cons_append,Nat.zero_add,Nat.reduceAdd];repeat first|refine Za rfl ?_|refine Ze rfl rfl ?_|refine Zk rfl ?_|refine Yk rfl rfl ?_
 refine d60 hs.s0.aR ?_;simp only[List.length_cons,List.length_nil,List.nil_append,List.cons_append,Nat.zero_add,Nat.reduceAdd];repeat first|refine Za rfl ?_|refine Ze rfl rfl ?_|refine Zk rfl ?_|refine Yk rfl rfl ?_
 refine d61 hs.s0.ae ?_;simp only[List.length_cons,List.length_nil,List.nil_append,List.cons_append,Nat.zero_add,Nat.reduceAdd];repeat first|refine Za rfl ?_|refine Ze rfl rfl ?_|refine Zk rfl ?_|refine Yk rfl rfl ?_
 refine d60 hs.s0.told ?_;simp only[List.length_cons,List.length_nil,List.nil_append,List.cons_append,Nat.zero_add,Nat.reduceAdd];repeat first|refine Za rfl ?_|refine Ze rfl rfl ?_|refine Zk rfl ?_|refine Yk rfl rfl ?_
 refine XJ (by kernel_rfl) (Za rfl ?_);rw[w1];refine Xm ?_;refine Za rfl (Ye ?_);repeat first|refine Za rfl ?_|refine Ze rfl rfl ?_|refine Zk rfl ?_|refine Yk rfl rfl ?_
 refine d60 hs.s1.bJ ?_;simp only[List.length_cons,List.length_nil,List.nil_append,List.cons_append,Nat.zero_add,Nat.reduceAdd];repeat first|refine Za rfl ?_|refine Ze rfl rfl ?_|refine Zk rfl ?_|refine Yk rfl rfl ?_
 refine d60 hs.s1.hand ?_;simp only[List.length_cons,List.length_nil,List.nil_append,List.cons_append,Nat.zero_add,Nat.reduceAdd];repeat first|refine Za rfl ?_|refine Ze rfl rfl ?_|refine Zk rfl ?_|refine Yk rfl rfl ?_
 refine d60 hs.s1.aR ?_;simp only[List.length_cons,List.length_nil,List.nil_append,List.cons_append,Nat.zero_add,Nat.reduceAdd];repeat first|refine Za rfl ?_|refine Ze rfl rfl ?_|refine Zk rfl ?_|refine Yk rfl rfl ?_
 refine d61 hs.s1.ae ?_;simp only[List.length_cons,List.length_nil,List.nil_append,List.cons_append,Nat.zero_add,Nat.reduceAdd];repeat first|refine Za rfl ?_|refine Ze rfl rfl ?_|refine Zk rfl ?_|refine Yk rfl rfl ?_
 refine d60 hs.s1.told ?_;simp only[List.length_cons,List.length_nil,List.nil_append,List.cons_append,Nat.zero_add,Nat.reduceAdd];repeat first|refine Za rfl ?_|refine Ze rfl rfl ?_|refine Zk rfl ?_|refine Yk rfl rfl ?_
 refine XJ (by kernel_rfl) (Za rfl ?_);rw[w2];refine Xm ?_;refine Za rfl (Xh ?_);repeat first|refine Za rfl ?_|refine Ze rfl rfl ?_|refine Zk rfl ?_|refine Yk rfl rfl ?_
 refine Ql rfl ?_;refine Tidy.gc [3,5,6,7,8,9,11,12,13,14,15] (by decide) (by simp) ?_ rfl;simp only[EE,List.map_cons,List.map_nil,ah,QP,Da]
end Go.Ah.Tz
end
section
namespace Go.Ah.Tz
open Go.Proofs.Tryz (prog)
attribute [local irreducible] al.rd al.pu al.wr al.dr al.gr al.gw al.gl al.gd al.opt au W
def ga(l:List Th)(id:Int):Option Nat:=l.findIdx? (λu=>decide (u.id=id))
theorem Ms{l:List Th}{id:Int}{i:Nat}(h:i<l.length)(h2:l[i].id=id)(hb:∀j (hj:j<l.length),j<i→l[j].id≠id):ga l id=some i:=by
 unfold ga;rw[List.findIdx?_eq_some_iff_getElem];exact⟨h,by simpa using h2,λj hj=>by simpa using hb j (by omega) hj⟩
theorem Nd{l:List Th}{id:Int}(hb:∀j (hj:j<l.length),l[j].id≠id):ga l id=none:=by
 unfold ga;rw[List.findIdx?_eq_none_iff];intro x hx;obtain⟨j,hj,rfl⟩:=List.getElem_of_mem hx;simpa using hb j hj
def aH(s:St)(id:Int):Int×Int×Bool:=match ga s.s0.ae id with
 |some k=>(0,k,true)
 |none=>match ga s.s1.ae id with
  |some k=>(1,k,true)
  |none=>(0,0,false)
def iU(s:St)(id:Int):aa:=.aG [iv (aH s id).1,iv (aH s id).2.1,.bool (aH s id).2.2]
theorem c23(s:St)(hs:cw 1000000000 s)(id:Int):PC 23 [eC s,iv id] (iU s id):=by
 refine Qd hP mU rfl rfl ?_;unfold g23;have w1:IntKind.i64.wrap (0+1)=1:=by decide
 have w2:IntKind.i64.wrap (1+1)=2:=by decide
 have u0:=hs.s0.ae;have u1:=hs.s1.ae;repeat first|refine Za rfl ?_|refine Ze rfl rfl ?_
 refine XF 3 (Xm ?_);refine Za rfl (Ye ?_);refine Zl (ι:=Nat) (λi vs σ=>vs=[iv i]∧σ=[.box (bX s)]∧i≤s.s0.ae.length∧∀j (hj:j<s.s0.ae.length),j<i→s.s0.ae[j].id≠id) (λi=>s.s0.ae.length-i) 0 ⟨rfl,rfl,by omega,λj _ h=>by omega⟩ ?_;rintro i vs σ again ⟨rfl,rfl,hi,hb⟩ aM;repeat first|refine Za rfl ?_|refine Ze rfl rfl ?_
 refine Zc (λh=>?_) (λh=>?_)
 ·have h:i<s.s0.ae.length:=by simpa using h
  repeat first|refine Za rfl ?_|refine Ze rfl rfl ?_
  refine Za (Zp _ bf _ _ _ _ _ i h) ?_;repeat first|refine Za rfl ?_|refine Ze rfl rfl ?_
  refine Zc (λh2=>?_) (λh2=>?_)
  ·have h2:s.s0.ae[i].id=id:=by simpa using h2
   have hf:ga s.s0.ae id=some i:=Ms h h2 hb;simp[iU,aH,hf]
  ·have h2:s.s0.ae[i].id≠id:=by simpa using h2
   refine Za rfl ?_;rw[Zf (n:=i) (by omega)];refine aM (i+1) _ _ (by omega) ⟨rfl,rfl,by omega,λj hj P'=>?_⟩;by_cases e:j=i
   ·subst e; exact h2
   ·exact hb j hj (by omega)
 have h:¬i<s.s0.ae.length:=by simpa using h
 have kI:ga s.s0.ae id=none:=Nd (λj hj=>hb j hj (by omega));refine Za rfl ?_;rw[w1];refine Xm ?_;refine Za rfl (Ye ?_);refine Zl (ι:=Nat) (λi vs σ=>vs=[iv i]∧σ=[.box (bX s)]∧i≤s.s1.ae.length∧∀j (hj:j<s.s1.ae.length),j<i→s.s1.ae[j].id≠id) (λi=>s.s1.ae.length-i) 0 ⟨rfl,rfl,by omega,λj _ h=>by omega⟩ ?_;rintro i vs σ again ⟨rfl,rfl,hi,hb⟩ aM;repeat first|refine Za rfl ?_|refine Ze rfl rfl ?_
 refine Zc (λh=>?_) (λh=>?_)
 ·have h:i<s.s1.ae.length:=by simpa using h
  repeat first|refine Za rfl ?_|refine Ze rfl rfl ?_
  refine Za (Zp _ bf _ _ _ _ _ i h) ?_;repeat first|refine Za rfl ?_|refine Ze rfl rfl ?_
  refine Zc (λh2=>?_) (λh2=>?_)
  ·have h2:s.s1.ae[i].id=id:=by simpa using h2
   have hf:ga s.s1.ae id=some i:=Ms h h2 hb;simp[iU,aH,kI,hf]
  ·have h2:s.s1.ae[i].id≠id:=by simpa using h2
   refine Za rfl ?_;rw[Zf (n:=i) (by omega)];refine aM (i+1) _ _ (by omega) ⟨rfl,rfl,by omega,λj hj P'=>?_⟩;by_cases e:j=i
   ·subst e; exact h2
   ·exact hb j hj (by omega)
 have h:¬i<s.s1.ae.length:=by simpa using h
 have xf:ga s.s1.ae id=none:=Nd (λj hj=>hb j hj (by omega));refine Za rfl ?_;rw[w2];refine Xm ?_;refine Za rfl (Xh ?_);simp[iU,aH,kI,xf]
def gk(n:Int):Bool:=decide (-1000000≤n)&&decide (n≤1000000)
theorem c116(n:Int):PC 116 [iv n] (.bool (gk n)):=by
 refine Qd hP i_ rfl rfl ?_;unfold g116;refine Za rfl ?_;rcases aL (decide (n ≥ -1000000)) with h|h
 ·rw[h];repeat first|refine Za rfl ?_|refine Ze rfl rfl ?_|refine Xa ?_|refine Zb ?_
  have h':-1000000≤n:=by simpa using h
  simp[gk,h']
 ·rw[h];repeat first|refine Qb rfl ?_|refine Yc rfl ?_|refine Yd rfl ?_|refine Xd rfl ?_|refine Za rfl ?_|refine Ze rfl rfl ?_
  have h':¬ -1000000≤n:=by simpa using h
  simp[gk,h']
theorem c57(n:Int):PC 57 [iv n] (.bool (gk n)):=by
 refine Qd hP g_ rfl rfl ?_;unfold g57;refine Za rfl ?_;rcases aL (decide (n ≥ -1000000)) with h|h
 ·rw[h];repeat first|refine Za rfl ?_|refine Ze rfl rfl ?_|refine Xa ?_|refine Zb ?_
  have h':-1000000≤n:=by simpa using h
  simp[gk,h']
 ·rw[h];repeat first|refine Qb rfl ?_|refine Yc rfl ?_|refine Yd rfl ?_|refine Xd rfl ?_|refine Za rfl ?_|refine Ze rfl rfl ?_
  have h':¬ -1000000≤n:=by simpa using h
  simp[gk,h']
def Qq(n:Nat)(l:List Int)(most:Int):Bool:=decide ((l.length:Int)≤most)&&l.all λc=>decide (0≤c)&&decide (c<n)
theorem c117(b:Bk)(l:List Int)(most:Int)(hl:l.length≤1000000000):PC 117 [eY b,bd l,iv most] (.bool (Qq b.ai.length l most)):=by
 refine Qd hP fz rfl rfl ?_;unfold g117;repeat first|refine Za rfl ?_|refine Ze rfl rfl ?_|refine Xa ?_|refine Zb ?_
 refine Zc (λh=>?_) (λh=>?_)
 ·have h:most<l.length:=by simpa using h
  have h':¬(l.length:Int)≤most:=by omega
  simp[Qq,h']
 have hm:(l.length:Int)≤most:=by simpa using h
 refine Zl (ι:=Nat) (λi vs σ=>vs=[iv i]∧σ=[.box [gG b.ai,jZ b.ao]]∧i≤l.length∧∀j (hj:j<l.length),j<i→0≤l[j]∧l[j]<b.ai.length) (λi=>l.length-i) 0 ⟨rfl,rfl,by omega,λj _ h=>by omega⟩ ?_;rintro i vs σ again ⟨rfl,rfl,hi,hb⟩ aM;repeat first|refine Za rfl ?_|refine Ze rfl rfl ?_|refine Xa ?_|refine Zb ?_
 refine Zc (λh=>?_) (λh=>?_)
 ·have h:i<l.length:=by simpa using h
  refine Za (Zp _ bL _ _ _ l _ i h) ?_;repeat first|refine Za rfl ?_|refine Ze rfl rfl ?_|refine Xa ?_|refine Zb ?_
  have bad:¬(0≤l[i]∧l[i]<b.ai.length)→aa.bool false=aa.bool (Qq b.ai.length l most):=by
   intro hn;have:Qq b.ai.length l most=false:=by
    simp only[Qq,Bool.and_eq_false_iff];right;rw[List.all_eq_false];refine⟨l[i],List.getElem_mem h,?_⟩;simpa using hn
   rw[this]
  rcases aL (decide (l[i]<0)) with h2|h2
  ·rw[h2];repeat first|refine Qb rfl ?_|refine Yc rfl ?_|refine Yd rfl ?_|refine Xd rfl ?_|refine Za rfl ?_|refine Ze rfl rfl ?_
   refine Ye (bad ?_);have:l[i]<0:=by simpa using h2
   omega
  rw[h2];repeat first|refine Xa ?_|refine Za rfl ?_
  refine Za (Zp _ bL _ _ _ l _ i h) ?_;repeat first|refine Za rfl ?_|refine Ze rfl rfl ?_|refine Xa ?_|refine Zb ?_
  have h2:¬l[i]<0:=by simpa using h2
  refine Zc (λh3=>?_) (λh3=>?_)
  ·refine bad ?_;have:(b.ai.length:Int)≤l[i]:=by simpa using h3
   omega
  ·have:¬(b.ai.length:Int)≤l[i]:=by simpa using h3
   refine Za rfl ?_;rw[Zf (n:=i) (by omega)];refine aM (i+1) _ _ (by omega) ⟨rfl,rfl,by omega,λj hj P'=>?_⟩;by_cases e:j=i
   ·subst e; omega
   ·exact hb j hj (by omega)
 ·have h:¬i<l.length:=by simpa using h
  have:Qq b.ai.length l most=true:=by
   simp only[Qq,Bool.and_eq_true,decide_eq_true_eq,List.all_eq_true];refine⟨hm,λx hx=>?_⟩;obtain⟨j,hj,rfl⟩:=List.getElem_of_mem hx;exact hb j hj (by omega)
  rw[this]
end Go.Ah.Tz
end
