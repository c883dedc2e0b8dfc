/- Of the reckoning machine, and what is proved with it: texts joined by program. -/
import Derived.Test.YtnfgjmbcfcnieaaGreatK3
import Derived.Laws.Externs
set_option linter.all false
namespace Go.UM
open Go.AM
namespace Z
instance (n:Nat):OfNat Sc n:=⟨.t (OfNat.ofNat n)⟩
instance (n:Nat):OfNat uL n:=⟨.t (OfNat.ofNat n)⟩
theorem zt (n:Nat):(OfNat.ofNat n:Sc)=.t (OfNat.ofNat n):=rfl
theorem zr (n:Nat):(OfNat.ofNat n:uL)=.t (OfNat.ofNat n):=rfl
def o (d:Nat) (x:td):cu:=⟨some d,none,x⟩
def m (d:Nat) (x:Sc):cu:=⟨some d,none,.mv x⟩
def l (d n:Nat) (x:Sc):cu:=⟨some d,none,.load false n x⟩
def g (d n:Nat) (x:Sc):cu:=⟨some d,none,.load true n x⟩
def f (d n:Nat) (x:Sc):cu:=⟨some d,none,.bM n x⟩
def b (d:Nat) (p:BinOp) (x y:Sc):cu:=⟨some d,none,.bin p x y⟩
def c (d n:Nat) (l:List Sc):cu:=⟨some d,none,.call n l⟩
def e (d:Nat) (x:Sc) (n:Nat):cu:=⟨some d,none,.ext x n⟩
def n (d:Nat) (x:Sc):cu:=⟨some d,none,.gQ x⟩
def w (d:Nat) (c a b:Sc):cu:=⟨some d,none,.pick c a b⟩
def x (d n:Nat) (a:Sc):cu:=⟨some d,none,.box n a⟩
def a (d n:Nat) (z:List AV):cu:=⟨some d,none,.alloc n z⟩
def u (d n:Nat) (x i:Sc):cu:=⟨some d,none,.Bh n x i⟩
def v (x:td):cu:=⟨none,none,x⟩
def r (n:Nat) (x y:Sc):cu:=⟨none,none,.store n x y⟩
def i (n:Int):Sc:=.k (.int .i64 n)
def j (n:Int):AV:=.int .i64 n
def k (l:List Nat) (c:cN):cN:=.sC l c
def q (l:List cu) (c:cN):cN:=.seq (.ops l) c
def s (a b:cN):cN:=.seq a b
def p (l:List cu):cN:=.ops l
def h (c:Sc) (a b:cN):cN:=.cond c a b
def t (l:List cu):cN:=.seq (.ops l) .ret
def y (l:List Nat) (o:List cu) (c:cN):cN:=.sC l (.seq (.ops o) c)
def Z1:List AV:=[j 0,.int .u64 0,j 0,.int .u32 0,.int .u8 0,.int .u8 0,.int .u8 0,.int .u8 0,.int .u8 0,.int .u8 0,.int .u8 0,.int .u8 0,.int .u32 0,.int .u32 0,j 0,j 0,j 0,.an,.an,.an,j 0,.an,j 0,j 0,j 0,j 0,j 0,j 0,j 0,j 0,j 0,j 0,j 0,j 0,j 0,j 0,j 0,j 0,j 0,j 0]
def Z2:List AV:=[.int .u64 0,j 0,.int .u32 0,.int .u8 0,.int .u8 0,.int .u8 0,.int .u8 0,.int .u8 0,.int .u8 0,.int .u8 0,.int .u8 0,.int .u32 0,.int .u32 0,j 0,j 0]
def Z3:List AV:=[j 0,.an,.an,.an,j 0,.an,j 0,j 0,j 0,j 0,j 0,j 0,j 0,j 0,j 0,j 0,j 0,j 0,j 0,j 0,j 0,j 0,j 0,j 0]
def Z4:List AV:=[.int .u8 0,.int .u8 0,.int .u8 0,.int .u8 0,.int .u8 0,.int .u8 0,.int .u8 0,.int .u8 0]
def Z5:List AV:=[j 0,j 0,j 0,j 0,j 0,j 0,j 0,j 0,j 0,j 0,j 0,j 0,j 0,j 0,j 0,j 0,j 0,j 0,.int .u8 0]
def Z6:List AV:=[.an,.an,.an,.an,.an,.an,.int .u32 0,.int .u32 0,.int .u32 0]
def Z7:List AV:=[j 0,j 0,j 0,j 0,j 0,j 0,j 0,j 0,j 0,j 0,j 0,j 0,j 0,j 0,j 0,j 0]
def Z8:List AV:=[j 0,j 0,j 0,j 0,j 0,j 0,j 0,j 0,j 0,j 0,j 0,j 0,j 0]
def Z9:List AV:=[j 0,j 0,j 0,j 0,j 0,j 0,j 0,j 0,j 0,j 0,j 0,j 0]
def NQ:List AV:=[.int .u32 0,.int .u32 0]
@[reducible] def Nf {b:cb} (a:cb) (_:a=b:=by dsimp only[zt,zr,o,m,l,g,f,b,c,e,n,w,x,a,u,v,r,i,j,k,q,s,p,h,t,y,Z1,Z2,Z3,Z4,Z5,Z6,Z7,Z8,Z9,NQ]):cb:=b
end Z
open Z
def Y0:cb:=Nf ⟨2,[4],q [m 4 (.k (.bool false))] (q [m 5 0,o 6 (.S9 5),m 7 1,o 8 (.S9 7),o 9 (.Ut .eql 6 8),m 4 9] (k [4] .ret))⟩
structure Vs (R:Env):Prop where
 Vt:R.Fn 47 Y0
def Y1:cb:=Nf ⟨1,[2],q [m 2 (.k .an)] (s (q [m 3 0,o 4 (.yg false 3)] (h 4 (t [m 2 (.k .an)]) .skip)) (k [0] (t [o 5 (.aF 4 1 0 [.int .u8 0] []),m 6 0,o 7 (.app 4 1 5 6),m 2 7])))⟩
structure Vu (R:Env):Prop where
 o62:R.Fn 62 Y1
def Pk:cb:=Nf ⟨2,[4],q [m 4 (i 0)] (s (q [m 6 0,n 7 6,m 8 (i 0)] (k [0,1,7,8] (.block 0 (.loop (q [b 9 .lss 8 7] (s (h 9 .skip (.exit 0)) (k [0,1,7,8] (s (.block 1 (q [m 10 8,m 5 10] (q [m 11 1,m 12 0,m 13 5,u 14 1 12 13,l 15 1 14,b 16 .eql 11 15] (k [0,1,5,7,8,16] (h 16 (t [m 17 5,m 4 17]) .skip))))) (k [0,1,7,8] (p [b 18 .add 8 (i 1),m 8 18])))))))))) (k [] (t [m 4 (i (-1))])))⟩
structure Kv (R:Env):Prop where
 Pl:R.Fn 106 Pk
def Pm:cb:=Nf ⟨2,[4],q [m 4 (.k (.bool false))] (q [m 5 0,m 6 1,c 7 106 [5,6],b 8 .geq 7 (i 0),m 4 8] (k [4] .ret))⟩
structure Kw (R:Env):Prop where
 Pn:R.Fn 100 Pm
 n106:Kv R
def Po:cb:=Nf ⟨1,[2],q [m 2 (.k .an)] (s (q [m 3 0,o 4 (.yg false 3)] (h 4 (t [m 2 (.k .an)]) .skip)) (k [0] (t [o 5 (.aF 13 3 0 [j 0,j 0,j 0] []),m 6 0,o 7 (.app 13 3 5 6),m 2 7])))⟩
structure Ha (R:Env):Prop where
 Ky:R.Fn 101 Po
def Pp:cb:=Nf ⟨2,[4],q [m 4 (i 0)] (s (q [m 6 0,n 7 6,m 8 (i 0)] (k [0,1,7,8] (.block 0 (.loop (q [b 9 .lss 8 7] (s (h 9 .skip (.exit 0)) (k [0,1,7,8] (s (.block 1 (q [m 10 8,m 5 10] (q [m 11 1,m 12 0,m 13 5,u 14 3 12 13,g 15 3 14,o 16 (.gq 11 [15])] (k [0,1,5,7,8,16] (h 16 (t [m 17 5,m 4 17]) .skip))))) (k [0,1,7,8] (p [b 18 .add 8 (i 1),m 8 18])))))))))) (k [] (t [m 4 (i (-1))])))⟩
structure Kz (R:Env):Prop where
 Pq:R.Fn 217 Pp
def Pr:cb:=Nf ⟨2,[4],q [m 4 (.k (.bool false))] (q [m 5 0,m 6 1,c 7 217 [5,6],b 8 .geq 7 (i 0),m 4 8] (k [4] .ret))⟩
structure KA (R:Env):Prop where
 Ps:R.Fn 209 Pr
 n217:Kz R
def Pt:cb:=Nf ⟨2,[4],q [m 4 (i 0)] (s (q [m 6 0,n 7 6,m 8 (i 0)] (k [0,1,7,8] (.block 0 (.loop (q [b 9 .lss 8 7] (s (h 9 .skip (.exit 0)) (k [0,1,7,8] (s (.block 1 (q [m 10 8,m 5 10] (q [m 11 1,m 12 0,m 13 5,u 14 2 12 13,g 15 2 14,o 16 (.gq 11 [15])] (k [0,1,5,7,8,16] (h 16 (t [m 17 5,m 4 17]) .skip))))) (k [0,1,7,8] (p [b 18 .add 8 (i 1),m 8 18])))))))))) (k [] (t [m 4 (i (-1))])))⟩
structure KB (R:Env):Prop where
 Pu:R.Fn 218 Pt
def Pv:cb:=Nf ⟨2,[4],q [m 4 (.k (.bool false))] (q [m 5 0,m 6 1,c 7 218 [5,6],b 8 .geq 7 (i 0),m 4 8] (k [4] .ret))⟩
structure KC (R:Env):Prop where
 Pw:R.Fn 210 Pv
 n218:KB R
def Px:cb:=Nf ⟨2,[4],q [m 4 (i 0)] (s (q [m 6 0,n 7 6,m 8 (i 0)] (k [0,1,7,8] (.block 0 (.loop (q [b 9 .lss 8 7] (s (h 9 .skip (.exit 0)) (k [0,1,7,8] (s (.block 1 (q [m 10 8,m 5 10] (q [m 11 1,m 12 0,m 13 5,u 14 3 12 13,g 15 3 14,o 16 (.gq 11 [15])] (k [0,1,5,7,8,16] (h 16 (t [m 17 5,m 4 17]) .skip))))) (k [0,1,7,8] (p [b 18 .add 8 (i 1),m 8 18])))))))))) (k [] (t [m 4 (i (-1))])))⟩
structure KD (R:Env):Prop where
 Vv:R.Fn 219 Px
def Py:cb:=Nf ⟨2,[4],q [m 4 (.k (.bool false))] (q [m 5 0,m 6 1,c 7 219 [5,6],b 8 .geq 7 (i 0),m 4 8] (k [4] .ret))⟩
structure KE (R:Env):Prop where
 Vx:R.Fn 211 Py
 n219:KD R
def PA:cb:=Nf ⟨2,[4,5],q [m 4 (.k (.int .u64 0)),m 5 (.k (.int .u64 0))] (q [m 14 0,b 15 .and 14 (.k (.int .u64 4294967295)),m 6 15] (q [m 16 0,b 17 .shr 16 (.k (.int .u64 32)),m 7 17] (q [m 18 1,b 19 .and 18 (.k (.int .u64 4294967295)),m 8 19] (q [m 20 1,b 21 .shr 20 (.k (.int .u64 32)),m 9 21] (q [m 22 6,m 23 8,b 24 .mul 22 23,m 10 24] (q [m 25 7,m 26 8,b 27 .mul 25 26,m 28 10,b 29 .shr 28 (.k (.int .u64 32)),b 30 .add 27 29,m 11 30] (y [0,1,6,7,9,11] [m 31 11,b 32 .and 31 (.k (.int .u64 4294967295)),m 12 32] (q [m 33 11,b 34 .shr 33 (.k (.int .u64 32)),m 13 34] (q [m 35 12,m 36 6,m 37 9,b 38 .mul 36 37,b 39 .add 35 38,m 12 39] (y [0,1,7,9,12,13] [m 40 7,m 41 9,b 42 .mul 40 41,m 43 13,b 44 .add 42 43,m 45 12,b 46 .shr 45 (.k (.int .u64 32)),b 47 .add 44 46,m 4 47] (k [0,1,4] (t [m 48 0,m 49 1,b 50 .mul 48 49,m 5 50]))))))))))))⟩
structure KF (R:Env):Prop where
 PB:R.Fn 276 PA
structure PC (R:Env):Prop where
 PD:R.Xn 286 "math/bits.Sub64"
def PE:cb:=Nf ⟨2,[4],q [m 4 (i 0)] (s (q [m 6 0,n 7 6,m 8 (i 0)] (k [0,1,7,8] (.block 0 (.loop (q [b 9 .lss 8 7] (s (h 9 .skip (.exit 0)) (k [0,1,7,8] (s (.block 1 (q [m 10 8,m 5 10] (q [m 11 1,m 12 0,m 13 5,u 14 1 12 13,l 15 1 14,o 16 (.gq 11 [15])] (k [0,1,5,7,8,16] (h 16 (t [m 17 5,m 4 17]) .skip))))) (k [0,1,7,8] (p [b 18 .add 8 (i 1),m 8 18])))))))))) (k [] (t [m 4 (i (-1))])))⟩
structure KG (R:Env):Prop where
 Vy:R.Fn 324 PE
def PF:cb:=Nf ⟨2,[4],q [m 4 (.k (.bool false))] (q [m 5 0,m 6 1,c 7 324 [5,6],b 8 .geq 7 (i 0),m 4 8] (k [4] .ret))⟩
structure KH (R:Env):Prop where
 Vz:R.Fn 323 PF
 n324:KG R
def PG:cb:=Nf ⟨1,[2],q [m 2 (.k .an)] (s (q [m 3 0,o 4 (.yg false 3)] (h 4 (t [m 2 (.k .an)]) .skip)) (k [0] (t [o 5 (.aF 26 3 0 [j 0,j 0,j 0] []),m 6 0,o 7 (.app 26 3 5 6),m 2 7])))⟩
structure Hb (R:Env):Prop where
 PH:R.Fn 361 PG
def PI:cb:=Nf ⟨1,[2],q [m 2 (.k .an)] (s (q [m 3 0,o 4 (.yg false 3)] (h 4 (t [m 2 (.k .an)]) .skip)) (k [0] (t [o 5 (.aF 18 2 0 [j 0,j 0] []),m 6 0,o 7 (.app 18 2 5 6),m 2 7])))⟩
structure Hc (R:Env):Prop where
 PJ:R.Fn 362 PI
def PK:cb:=Nf ⟨2,[],q [l 4 1 1,o 5 (.NJ 4)] (k [0,5] (.block 0 (.loop (q [o 6 (.Ow 5),e 7 6 0] (s (h 7 .skip (.exit 0)) (k [0,5] (.block 1 (q [o 8 (.II 5),e 9 8 0,m 3 9] (q [m 10 0,m 11 3,o 12 (.gq 10 [11]),o 13 (.un .not 12)] (h 13 .ret .skip))))))))))⟩
structure PL (R:Env):Prop where
 aaF:R.Fn 447 PK
def PM:cb:=Nf ⟨1,[2],q [x 1 57 0,m 2 (.k .au)] (t [o 3 (.Oq 447 [1]),m 2 3])⟩
structure KI (R:Env):Prop where
 VA:R.Fn 433 PM
 PN:PL R
structure PO (R:Env):Prop where
 VB:R.As 434
structure PP (R:Env):Prop where
 PQ:R.As 435
def PR:cb:=Nf ⟨1,[2],q [m 2 (.k (.bool false))] (t [m 3 0,m 4 0,b 5 .neq 3 4,m 2 5])⟩
structure KJ (R:Env):Prop where
 KK:R.Fn 468 PR
def PU:cb:=Nf ⟨2,[4],q [m 4 (i 0)] (q [m 7 0,c 8 468 [7],m 5 8] (q [m 9 1,c 10 468 [9],m 6 10] (s (q [m 11 5] (h 11 (s (q [m 12 6] (h 12 (t [m 4 (i 0)]) .skip)) (k [] (t [m 4 (i (-1))]))) .skip)) (k [0,1,6] (s (q [m 13 6] (h 13 (t [m 4 (i 1)]) .skip)) (k [0,1] (s (q [m 14 0,m 15 1,b 16 .lss 14 15] (h 16 (t [m 4 (i (-1))]) .skip)) (k [0,1] (s (q [m 17 0,m 18 1,b 19 .gtr 17 18] (h 19 (t [m 4 (i 1)]) .skip)) (k [] (t [m 4 (i 0)])))))))))))⟩
structure KM (R:Env):Prop where
 Ew:R.Fn 451 PU
 BU:KJ R
def PV:cb:=Nf ⟨1,[2],q [m 2 (i 0)] (q [m 3 (i 0)] (s (q [m 6 0,n 7 6,m 8 (i 0)] (k [3,6,7,8] (.block 0 (.loop (q [b 9 .lss 8 7] (s (h 9 .skip (.exit 0)) (k [3,6,7,8] (s (.block 1 (q [u 10 1 6 8,l 11 1 10,m 5 11] (q [m 12 5,m 13 3,b 14 .neq 12 13] (h 14 (t [m 15 5,m 2 15]) .skip)))) (k [3,6,7,8] (p [b 16 .add 8 (i 1),m 8 16])))))))))) (k [3] (t [m 17 3,m 2 17]))))⟩
structure KN (R:Env):Prop where
 PW:R.Fn 452 PV
structure PX (R:Env):Prop where
 VC:R.As 439
structure PY (R:Env):Prop where
 VD:R.As 440
end Go.UM
namespace Go.UM
open Go.AM
open Z
def PZ:cb:=Nf ⟨1,[2,3],q [m 2 (.k (.int .u64 0)),m 3 (.k (.bool false))] (s (q [m 4 0,b 5 .lss 4 (i 0)] (h 5 (q [m 6 0,o 7 (.conv .u64 6),o 8 (.un .neg 7),m 2 8,m 3 (.k (.bool true))] (k [2,3] .ret)) .skip)) (k [0] (t [m 9 0,o 10 (.conv .u64 9),m 2 10,m 3 (.k (.bool false))])))⟩
structure KO (R:Env):Prop where
 KQ:R.Fn 275 PZ
def P0:cb:=Nf ⟨2,[4,5],q [m 4 (.k (.int .u64 0)),m 5 (.k (.int .u64 0))] (q [m 8 1,o 9 (.o9 286 [.k (.int .u64 0),8,.k (.int .u64 0)]),m 7 9,e 10 7 0,e 11 7 1,m 1 10,m 6 11] (y [0,1,6] [m 13 0,m 14 6,o 15 (.o9 286 [.k (.int .u64 0),13,14]),m 12 15,e 16 12 0,e 17 12 1,m 0 16] (k [0,1] (t [m 18 0,m 19 1,m 4 18,m 5 19]))))⟩
structure KR (R:Env):Prop where
 P1:R.Fn 283 P0
 n286:PC R
def P3:cb:=Nf ⟨3,[.cell 6 true 2,7],q [a 6 38 [j 0,.int .u64 0],m 7 (.k (.bool false))] (s (q [m 9 2] (h 9 (p [m 11 0,m 12 1,c 13 283 [11,12],m 10 13,e 14 10 0,e 15 10 1,m 0 14,m 1 15]) .skip)) (y [0,1,2,6] [m 16 0,o 17 (.conv .i64 16),m 18 1,o 19 (.build [j 0,.int .u64 0] [(0,1,17),(1,1,18)]),a 8 38 [j 0,.int .u64 0],r 2 8 19] (y [0,1,2,6,8] [g 20 2 8,f 21 0 8,l 22 1 21,b 23 .lss 22 (i 0),m 24 2,o 25 (.On false 23 24),m 26 25,⟨some 27,some (26,false),.mv 0⟩,⟨some 28,some (26,false),.mv 1⟩,⟨some 29,some (26,false),.bin .or 27 28⟩,⟨some 30,some (26,false),.bin .eql 29 (.k (.int .u64 0))⟩,w 31 26 (.k (.bool true)) 30,r 2 6 20,m 7 31] (k [6,7] .ret))))⟩
structure KT (R:Env):Prop where
 P4:R.Fn 277 P3
 n283:KR R
def P5:cb:=Nf ⟨2,[.cell 4 true 2],q [a 4 38 [j 0,.int .u64 0]] (q [m 14 0,c 15 275 [14],m 13 15,e 16 13 0,e 17 13 1,m 5 16,m 6 17] (y [1,4,5,6] [m 19 1,c 20 275 [19],m 18 20,e 21 18 0,e 22 18 1,m 7 21,m 8 22] (y [4,5,6,7,8] [m 24 5,m 25 7,c 26 276 [24,25],m 23 26,e 27 23 0,e 28 23 1,m 9 27,m 10 28] (y [4,6,8,9,10] [m 30 9,m 31 10,m 32 6,m 33 8,o 34 (.On true 32 33),c 35 277 [30,31,34],m 29 35,e 36 29 0,e 37 29 1,a 11 38 [j 0,.int .u64 0],r 2 11 36,m 12 37] (k [4,11] (t [g 38 2 11,r 2 4 38]))))))⟩
structure Hd (R:Env):Prop where
 KU:R.Fn 264 P5
 n275:KO R
 n276:KF R
 n277:KT R
def P6:cb:=Nf ⟨1,[2,3],q [x 1 38 0,m 2 (i 0),m 3 (.k (.bool false))] (s (q [f 4 1 1,l 5 1 4,o 6 (.conv .i64 5),m 2 6] (q [f 7 0 1,l 8 1 7,m 9 2,b 10 .shr 9 (.k (.int .u64 63)),b 11 .neq 8 10] (k [2,11] (h 11 (t [m 2 (i 0),m 3 (.k (.bool false))]) .skip)))) (k [2] (t [m 12 2,m 2 12,m 3 (.k (.bool true))])))⟩
structure He (R:Env):Prop where
 Hf:R.Fn 274 P6
def P7:cb:=Nf ⟨1,[.cell 2 true 2],q [a 2 38 [j 0,.int .u64 0]] (q [m 3 0,b 4 .shr 3 (.k (.int .u64 63)),m 5 0,o 6 (.conv .u64 5),o 7 (.build [j 0,.int .u64 0] [(0,1,4),(1,1,6)]),r 2 2 7] (k [2] .ret))⟩
structure P8 (R:Env):Prop where
 aaG:R.Fn 287 P7
def P9:cb:=Nf ⟨2,[.cell 4 true 2],q [x 2 38 0,a 4 38 [j 0,.int .u64 0]] (q [m 5 1,o 6 (.mm true [5,i 0]),m 1 6] (s (q [m 7 1,b 8 .geq 7 (i 64)] (h 8 (q [f 9 0 2,l 10 1 9,m 11 1,b 12 .sub 11 (i 64),o 13 (.mm false [12,i 63]),b 14 .shr 10 13,c 15 287 [14],r 2 4 15] (k [4] .ret)) .skip)) (k [1,2,4] (s (q [m 16 1,b 17 .eql 16 (i 0)] (h 17 (t [g 18 2 2,r 2 4 18]) .skip)) (k [1,2,4] (s (.draw [0,1,0,7,0,16,0,112,0,256,768,0,2048,7936,16368,32767,65535] [[2],[19],[1],[20,21],[2],[23],[1],[24,25],[2],[27],[28],[1],[30],[29,31],[26,32],[22,33],[4,34]] [f 19 0 2,l 20 1 19,m 21 1,b 22 .shr 20 21,f 23 1 2,l 24 1 23,m 25 1,b 26 .shr 24 25,f 27 0 2,l 28 1 27,o 29 (.conv .u64 28),m 30 1,b 31 .sub (i 64) 30,b 32 .shl 29 31,b 33 .or 26 32,o 34 (.build [j 0,.int .u64 0] [(0,1,22),(1,1,33)]),r 2 4 34]) (k [4] .ret)))))))⟩
structure KV (R:Env):Prop where
 P':R.Fn 285 P9
 n287:P8 R
end Go.UM
namespace Go.UM
open Go.AM
open Z
def Qa:cb:=Nf ⟨1,[2],q [x 1 38 0,m 2 (i 0)] (s (q [g 6 2 1,c 7 274 [6],m 5 7,e 8 5 0,e 9 5 1,m 3 8,m 4 9] (y [1,3,4] [m 10 4] (h 10 (t [m 11 3,m 2 11]) .skip))) (k [1] (s (q [f 12 0 1,l 13 1 12,b 14 .lss 13 (i 0)] (h 14 (t [m 2 (i (-9223372036854775808))]) .skip)) (k [] (t [m 2 (i 9223372036854775807)])))))⟩
structure Hg (R:Env):Prop where
 KW:R.Fn 265 Qa
 n274:He R
def Qb:cb:=Nf ⟨1,[2],q [m 2 (i 0)] (q [m 3 (i 4294967296)] (s (q [m 6 0,n 7 6,m 8 (i 0)] (k [3,6,7,8] (.block 0 (.loop (q [b 9 .lss 8 7] (s (h 9 .skip (.exit 0)) (k [3,6,7,8] (s (.block 1 (q [m 10 8,u 11 1 6 8,l 12 1 11,m 4 10,m 5 12] (k [3,4,5,6,7,8] (s (q [m 13 4,b 14 .eql 13 (i 0)] (h 14 (q [m 15 5,m 3 15] (.exit 1)) .skip)) (k [3,5,6,7,8] (p [m 16 3,m 17 5,c 18 264 [16,17],c 19 285 [18,i 32],c 20 265 [19],m 3 20])))))) (k [3,6,7,8] (p [b 21 .add 8 (i 1),m 8 21])))))))))) (k [3] (t [m 22 3,m 2 22]))))⟩
structure KX (R:Env):Prop where
 Qc:R.Fn 284 Qb
 n264:Hd R
 n265:Hg R
 n285:KV R
def Qd:cb:=Nf ⟨1,[2],q [m 2 (i 0)] (q [m 3 (i 0)] (s (q [m 7 0,n 8 7,m 9 (i 0)] (k [3,7,8,9] (.block 0 (.loop (q [b 10 .lss 9 8] (s (h 10 .skip (.exit 0)) (k [3,7,8,9] (s (.block 1 (q [u 11 1 7 9,l 12 1 11,m 5 12] (q [m 13 3,m 14 5,b 15 .add 13 14,m 6 15] (s (.block 2 (q [m 17 3,b 18 .gtr 17 (i 0),m 19 18,⟨some 20,some (19,true),.mv 5⟩,⟨some 21,some (19,true),.bin .gtr 20 (i 0)⟩,w 22 19 21 (.k (.bool false)),m 23 22,⟨some 24,some (23,true),.mv 6⟩,⟨some 25,some (23,true),.bin .lss 24 (i 0)⟩,w 26 23 25 (.k (.bool false)),m 16 26] (k [3,5,6,7,8,9,16] (h 16 (p [m 6 (i 9223372036854775807)]) (q [m 28 3,b 29 .lss 28 (i 0),m 30 29,⟨some 31,some (30,true),.mv 5⟩,⟨some 32,some (30,true),.bin .lss 31 (i 0)⟩,w 33 30 32 (.k (.bool false)),m 34 33,⟨some 35,some (34,true),.mv 6⟩,⟨some 36,some (34,true),.bin .geq 35 (i 0)⟩,w 37 34 36 (.k (.bool false)),m 27 37] (k [6,7,8,9,27] (h 27 (p [m 6 (i (-9223372036854775808))]) .skip))))))) (k [6,7,8,9] (p [m 38 6,m 3 38])))))) (k [3,7,8,9] (p [b 39 .add 9 (i 1),m 9 39])))))))))) (k [3] (t [m 40 3,m 2 40]))))⟩
structure Hh (R:Env):Prop where
 KY:R.Fn 267 Qd
def Qe:cb:=Nf ⟨2,[4],q [m 4 (i 0)] (q [m 6 0,m 7 1,b 8 .sub 6 7,m 5 8] (s (.block 0 (q [m 10 0,b 11 .geq 10 (i 0),m 12 11,⟨some 13,some (12,true),.mv 1⟩,⟨some 14,some (12,true),.bin .lss 13 (i 0)⟩,w 15 12 14 (.k (.bool false)),m 16 15,⟨some 17,some (16,true),.mv 5⟩,⟨some 18,some (16,true),.bin .lss 17 (i 0)⟩,w 19 16 18 (.k (.bool false)),m 9 19] (k [0,1,5,9] (h 9 (t [m 4 (i 9223372036854775807)]) (q [m 21 0,b 22 .lss 21 (i 0),m 23 22,⟨some 24,some (23,true),.mv 1⟩,⟨some 25,some (23,true),.bin .gtr 24 (i 0)⟩,w 26 23 25 (.k (.bool false)),m 27 26,⟨some 28,some (27,true),.mv 5⟩,⟨some 29,some (27,true),.bin .geq 28 (i 0)⟩,w 30 27 29 (.k (.bool false)),m 20 30] (k [5,20] (h 20 (t [m 4 (i (-9223372036854775808))]) .skip))))))) (k [5] (t [m 31 5,m 4 31]))))⟩
structure KZ (R:Env):Prop where
 Qf:R.Fn 281 Qe
def Qg:cb:=Nf ⟨1,[2],q [m 2 (i 0)] (t [m 3 0,c 4 281 [i 0,3],m 2 4])⟩
structure K0 (R:Env):Prop where
 Qh:R.Fn 270 Qg
 n281:KZ R
def Qi:cb:=Nf ⟨1,[2],q [m 2 (i 0)] (q [m 3 0,m 4 0,c 5 270 [4],o 6 (.mm true [3,5]),m 2 6] (k [2] .ret))⟩
structure Hi (R:Env):Prop where
 om:R.Fn 255 Qi
 n270:K0 R
def Qj:cb:=Nf ⟨1,[2],q [m 2 (i 0)] (q [m 3 0,b 4 .shr 3 (.k (.int .u64 32)),m 5 0,b 6 .shr 5 (.k (.int .u64 31)),b 7 .and 6 (i 1),b 8 .add 4 7,m 2 8] (k [2] .ret))⟩
structure K1 (R:Env):Prop where
 Hj:R.Fn 260 Qj
def Qk:cb:=Nf ⟨1,[2],q [m 2 (i 0)] (t [m 3 0,c 4 264 [3,i 4294967296],c 5 265 [4],m 2 5])⟩
structure K2 (R:Env):Prop where
 Hk:R.Fn 248 Qk
 n264:Hd R
 n265:Hg R
end Go.UM
namespace Go.UM
open Go.AM
open Z
def Ql:cb:=Nf ⟨3,[.cell 6 true 3],q [x 3 31 0,x 4 31 1,a 6 31 [j 0,j 0,j 0]] (s (.draw [0,0,2,0,8,31,0,0,128,0,512,2047,0,0,8192,0,32768,131071,262143,524287] [[2],[3],[8],[4],[10],[7,9,11],[2],[3],[14],[4],[16],[13,15,17],[2],[3],[20],[4],[22],[19,21,23],[12,18,24],[6,25]] [m 7 2,f 8 0 3,l 9 1 8,f 10 0 4,l 11 1 10,o 12 (.gq 7 [9,11]),m 13 2,f 14 1 3,l 15 1 14,f 16 1 4,l 17 1 16,o 18 (.gq 13 [15,17]),m 19 2,f 20 2 3,l 21 1 20,f 22 2 4,l 23 1 22,o 24 (.gq 19 [21,23]),o 25 (.build [j 0,j 0,j 0] [(0,1,12),(1,1,18),(2,1,24)]),r 3 6 25]) (k [6] .ret))⟩
structure Ex (R:Env):Prop where
 Hl:R.Fn 262 Ql
def Qm:cb:=Nf ⟨2,[4],q [m 4 (i 0)] (q [m 5 0,m 6 1,o 7 (.aF 32 1 2 [j 0] [(0,5),(1,6)]),c 8 284 [7],m 4 8] (k [4] .ret))⟩
structure Hm (R:Env):Prop where
 Hn:R.Fn 278 Qm
 n284:KX R
def Qn:cb:=Nf ⟨1,[.cell 2 true 3],q [a 2 31 [j 0,j 0,j 0]] (q [o 6 (.build [j 0,j 0,j 0] [(0,1,i 4294967296),(1,1,i 4294967296),(2,1,i 4294967296)]),a 3 31 [j 0,j 0,j 0],r 3 3 6] (s (q [m 7 0,n 8 7,m 9 (i 0)] (k [2,3,7,8,9] (.block 0 (.loop (q [b 10 .lss 9 8] (s (h 10 .skip (.exit 0)) (k [2,3,7,8,9] (s (.block 1 (q [u 11 3 7 9,g 12 3 11,a 5 31 [j 0,j 0,j 0],r 3 5 12] (p [g 13 3 3,g 14 3 5,c 15 262 [13,14,.f 278],r 3 3 15]))) (k [2,3,7,8,9] (p [b 16 .add 9 (i 1),m 9 16])))))))))) (k [2,3] (t [g 17 3 3,r 3 2 17]))))⟩
structure K3 (R:Env):Prop where
 Qo:R.Fn 266 Qn
 n262:Ex R
 n278:Hm R
def Qp:cb:=Nf ⟨2,[4],q [x 2 31 0,x 3 31 1,m 4 (i 0)] (q [g 6 3 2,g 7 3 3,o 8 (.aF 31 3 2 [j 0,j 0,j 0] [(0,6),(1,7)]),c 9 266 [8],a 5 31 [j 0,j 0,j 0],r 3 5 9] (y [5] [f 10 0 5,l 11 1 10,f 12 1 5,l 13 1 12,f 14 2 5,l 15 1 14,o 16 (.aF 32 1 3 [j 0] [(0,11),(1,13),(2,15)]),c 17 267 [16],m 4 17] (k [4] .ret)))⟩
structure K4 (R:Env):Prop where
 Ho:R.Fn 252 Qp
 n266:K3 R
 n267:Hh R
def Qq:cb:=Nf ⟨2,[4],q [m 4 (i 0)] (q [m 5 0,m 6 1,o 7 (.aF 32 1 2 [j 0] [(0,5),(1,6)]),c 8 267 [7],m 4 8] (k [4] .ret))⟩
structure Hp (R:Env):Prop where
 Hq:R.Fn 263 Qq
 n267:Hh R
def Qr:cb:=Nf ⟨1,[.cell 2 true 3],q [a 2 31 [j 0,j 0,j 0]] (q [a 3 31 [j 0,j 0,j 0]] (s (q [m 6 0,n 7 6,m 8 (i 0)] (k [2,3,6,7,8] (.block 0 (.loop (q [b 9 .lss 8 7] (s (h 9 .skip (.exit 0)) (k [2,3,6,7,8] (s (.block 1 (q [u 10 3 6 8,g 11 3 10,a 5 31 [j 0,j 0,j 0],r 3 5 11] (p [g 12 3 3,g 13 3 5,c 14 262 [12,13,.f 263],r 3 3 14]))) (k [2,3,6,7,8] (p [b 15 .add 8 (i 1),m 8 15])))))))))) (k [2,3] (t [g 16 3 3,r 3 2 16]))))⟩
structure K5 (R:Env):Prop where
 Qs:R.Fn 246 Qr
 n262:Ex R
 n263:Hp R
def Qt:cb:=Nf ⟨1,[2],q [x 1 31 0,m 2 (i 0)] (s (.draw [0,1,3,0,8,31,0,64,255,511,1023] [[1],[3],[4],[1],[6],[7],[1],[9],[10],[5,8,11],[12]] [f 3 0 1,l 4 1 3,c 5 255 [4],f 6 1 1,l 7 1 6,c 8 255 [7],f 9 2 1,l 10 1 9,c 11 255 [10],o 12 (.mm true [5,8,11]),m 2 12]) (k [2] .ret))⟩
structure K6 (R:Env):Prop where
 Qu:R.Fn 256 Qt
 n255:Hi R
def Qv:cb:=Nf ⟨1,[.cell 2 true 3],q [x 1 26 0,a 2 31 [j 0,j 0,j 0]] (s (.draw [0,1,3,0,8,31,0,64,255,511,1023] [[1],[3],[4],[1],[6],[7],[1],[9],[10],[5,8,11],[2,12]] [f 3 0 1,l 4 1 3,c 5 248 [4],f 6 1 1,l 7 1 6,c 8 248 [7],f 9 2 1,l 10 1 9,c 11 248 [10],o 12 (.build [j 0,j 0,j 0] [(0,1,5),(1,1,8),(2,1,11)]),r 3 2 12]) (k [2] .ret))⟩
structure K7 (R:Env):Prop where
 Qw:R.Fn 249 Qv
 n248:K2 R
end Go.UM
namespace Go.UM
open Go.AM
open Z
def Qx:cb:=Nf ⟨0,[.cell 0 true 12],q [a 0 33 Z9] (t [o 1 (.build [j 0,j 0,j 0,j 0,j 0,j 0,j 0,j 0,j 0] [(0,1,i 4294967296),(4,1,i 4294967296),(8,1,i 4294967296)]),o 2 (.build Z9 [(0,9,1)]),r 12 0 2])⟩
structure K8 (R:Env):Prop where
 Qy:R.Fn 221 Qx
def Qz:cb:=Nf ⟨2,[.cell 4 true 3],q [x 2 37 0,a 4 31 [j 0,j 0,j 0]] (s (.draw [0,1,3,7,0,16,48,112,240,0,512,1536,3584,7680,16383,32767] [[1],[5],[2,6],[7],[1],[9],[10],[2,11],[12],[1],[14],[15],[2,16],[17],[8,13,18],[4,19]] [m 5 1,b 6 .mul (i 3) 5,o 7 (.bJ 9 1 2 6),l 8 1 7,m 9 1,b 10 .mul (i 3) 9,b 11 .add 10 (i 1),o 12 (.bJ 9 1 2 11),l 13 1 12,m 14 1,b 15 .mul (i 3) 14,b 16 .add 15 (i 2),o 17 (.bJ 9 1 2 16),l 18 1 17,o 19 (.build [j 0,j 0,j 0] [(0,1,8),(1,1,13),(2,1,18)]),r 3 4 19]) (k [4] .ret))⟩
structure K9 (R:Env):Prop where
 BV:R.Fn 251 Qz
def QA:cb:=Nf ⟨2,[.cell 4 true 3],q [x 2 33 0,x 3 31 1,a 4 31 [j 0,j 0,j 0]] (s (.draw [0,1,3,0,15,0,32,127,0,511,0,1024,4095,0,16383,32767,65535] [[2],[5],[6],[3],[7,8],[2],[10],[11],[3],[12,13],[2],[15],[16],[3],[17,18],[9,14,19],[4,20]] [f 5 0 2,g 6 9 5,c 7 251 [6,i 0],g 8 3 3,c 9 252 [7,8],f 10 0 2,g 11 9 10,c 12 251 [11,i 1],g 13 3 3,c 14 252 [12,13],f 15 0 2,g 16 9 15,c 17 251 [16,i 2],g 18 3 3,c 19 252 [17,18],o 20 (.build [j 0,j 0,j 0] [(0,1,9),(1,1,14),(2,1,19)]),r 3 4 20]) (k [4] .ret))⟩
structure La (R:Env):Prop where
 QB:R.Fn 231 QA
 n251:K9 R
 n252:K4 R
def QC:cb:=Nf ⟨2,[.cell 4 true 3],q [x 2 33 0,x 3 31 1,a 4 31 [j 0,j 0,j 0]] (s (.draw [0,0,3,0,8,31,63,127] [[2],[3],[5,6],[2],[8],[7,9],[10],[4,11]] [g 5 12 2,g 6 3 3,c 7 231 [5,6],f 8 9 2,g 9 3 8,o 10 (.aF 31 3 2 [j 0,j 0,j 0] [(0,7),(1,9)]),c 11 246 [10],r 3 4 11]) (k [4] .ret))⟩
structure Lb (R:Env):Prop where
 QD:R.Fn 233 QC
 n231:La R
 n246:K5 R
def QE:cb:=Nf ⟨1,[2],q [x 1 33 0,m 2 (i 0)] (s (q [f 5 0 1,g 6 9 5,m 7 (i 0)] (k [1,6,7] (.block 0 (.loop (q [b 8 .lss 7 (i 9)] (s (h 8 .skip (.exit 0)) (k [1,6,7] (s (.block 1 (q [o 9 (.Dx false 9 1 6 7),m 4 9] (q [m 10 4,c 11 255 [10],b 12 .gtr 11 (i 1099511627776)] (h 12 (t [m 2 (i 2)]) .skip)))) (k [1,6,7] (p [b 13 .add 7 (i 1),m 7 13])))))))))) (k [1] (s (q [f 14 9 1,g 15 3 14,c 16 256 [15],b 17 .gtr 16 (i 562949953421312)] (h 17 (t [m 2 (i 2)]) .skip)) (k [] (t [m 2 (i 0)])))))⟩
structure Lc (R:Env):Prop where
 QF:R.Fn 235 QE
 n255:Hi R
 n256:K6 R
def QG:cb:=Nf ⟨1,[.cell 2 true 3,3],q [x 1 31 0,a 2 26 [j 0,j 0,j 0],m 3 (i 0)] (s (.draw [0,1,3,0,8,31,0,64,255,511,0,2047] [[1],[5],[6],[1],[8],[9],[1],[11],[12],[7,10,13],[],[4,14]] [f 5 0 1,l 6 1 5,c 7 260 [6],f 8 1 1,l 9 1 8,c 10 260 [9],f 11 2 1,l 12 1 11,c 13 260 [12],o 14 (.build [j 0,j 0,j 0] [(0,1,7),(1,1,10),(2,1,13)]),a 4 26 [j 0,j 0,j 0],r 3 4 14]) (k [2,4] (s (q [f 15 0 4,l 16 1 15,f 17 1 4,l 18 1 17,f 19 2 4,l 20 1 19,o 21 (.mm true [16,18,20]),b 22 .gtr 21 (i 65536),m 23 22,⟨some 24,some (23,false),.bM 0 4⟩,⟨some 25,some (23,false),.load false 1 24⟩,⟨some 26,some (23,false),.bM 1 4⟩,⟨some 27,some (23,false),.load false 1 26⟩,⟨some 28,some (23,false),.bM 2 4⟩,⟨some 29,some (23,false),.load false 1 28⟩,⟨some 30,some (23,false),.mm false [25,27,29]⟩,⟨some 31,some (23,false),.bin .lss 30 (i (-65536))⟩,w 32 23 (.k (.bool true)) 31] (k [2,4,32] (h 32 (t [o 33 (.build [j 0,j 0,j 0] []),r 3 2 33,m 3 (i 8)]) .skip))) (k [2,4] (t [g 34 3 4,r 3 2 34,m 3 (i 0)])))))⟩
structure Ld (R:Env):Prop where
 QH:R.Fn 243 QG
 n260:K1 R
def QI:cb:=Nf ⟨2,[.cell 4 true 3,5],q [x 2 33 0,x 3 26 1,a 4 26 [j 0,j 0,j 0],m 5 (i 0)] (s (q [g 7 12 2,c 8 235 [7],m 6 8] (q [m 9 6,b 10 .neq 9 (i 0)] (h 10 (t [o 11 (.build [j 0,j 0,j 0] []),m 12 6,r 3 4 11,m 5 12]) .skip))) (k [2,3,4] (s (.draw [0,0,2,7,15,31,31,127,255] [[2],[3],[14],[13,15],[16],[17],[17],[4,18],[19]] [g 13 12 2,g 14 3 3,c 15 249 [14],c 16 233 [13,15],c 17 243 [16],e 18 17 0,e 19 17 1,r 3 4 18,m 5 19]) (k [4,5] .ret))))⟩
structure Hr (R:Env):Prop where
 rD:R.Fn 241 QI
 n233:Lb R
 n235:Lc R
 n243:Ld R
 n249:K7 R
end Go.UM
namespace Go.UM
open Go.AM
open Z
def Y2:cb:=Nf ⟨3,[6,7],q [m 6 (.k .an),m 7 (i 0)] (s (q [m 12 1,b 13 .lss 12 (i 1),m 14 13,⟨some 15,some (14,false),.mv 1⟩,⟨some 16,some (14,false),.bin .gtr 15 (i 8)⟩,w 17 14 (.k (.bool true)) 16] (k [0,1,2,17] (h 17 (t [m 6 (.k .an),m 7 (i 2)]) .skip))) (y [0,1,2] [m 18 0,c 19 62 [18],m 8 19] (s (q [m 20 2,n 21 20,m 22 (i 0)] (k [1,8,20,21,22] (.block 0 (.loop (q [b 23 .lss 22 21] (s (h 23 .skip (.exit 0)) (k [1,8,20,21,22] (s (.block 1 (q [u 24 1 20 22,l 25 1 24,m 10 25] (s (q [m 26 1,b 27 .lss 26 (i 8),m 28 27,⟨some 29,some (28,true),.mv 10⟩,⟨some 30,some (28,true),.mv 1⟩,⟨some 31,some (28,true),.bin .mul (i 8) 30⟩,⟨some 32,some (28,true),.bin .shr 29 31⟩,⟨some 33,some (28,true),.bin .gtr 32 (.k (.int .u64 0))⟩,w 34 28 33 (.k (.bool false))] (k [1,8,10,20,21,22,34] (h 34 (t [m 6 (.k .an),m 7 (i 3)]) .skip))) (y [1,8,10,20,21,22] [m 35 1,m 36 (i 0)] (k [1,8,10,20,21,22,35,36] (.block 2 (.loop (q [b 37 .lss 36 35] (s (h 37 .skip (.exit 2)) (k [1,8,10,20,21,22,35,36] (s (.block 3 (q [m 38 36,m 11 38] (p [m 39 8,m 40 10,m 41 11,b 42 .mul (i 8) 41,b 43 .shr 40 42,o 44 (.conv .u8 43),o 45 (.aF 4 1 1 [.int .u8 0] [(0,44)]),o 46 (.app 4 1 39 45),m 8 46]))) (k [1,8,10,20,21,22,35,36] (p [b 47 .add 36 (i 1),m 36 47]))))))))))))) (k [1,8,20,21,22] (p [b 48 .add 22 (i 1),m 22 48])))))))))) (k [8] (t [m 49 8,m 6 49,m 7 (i 0)])))))⟩
structure Le (R:Env):Prop where
 o54:R.Fn 54 Y2
 n62:Vu R
def Y3:cb:=Nf ⟨3,[6,7],q [m 6 (.k .an),m 7 (i 0)] (s (q [m 12 1,b 13 .lss 12 (i 1),m 14 13,⟨some 15,some (14,false),.mv 1⟩,⟨some 16,some (14,false),.bin .gtr 15 (i 8)⟩,w 17 14 (.k (.bool true)) 16] (k [0,1,2,17] (h 17 (t [m 6 (.k .an),m 7 (i 2)]) .skip))) (y [0,1,2] [m 8 (.k .an)] (s (q [m 18 2,n 19 18,m 20 (i 0)] (k [0,1,8,18,19,20] (.block 0 (.loop (q [b 21 .lss 20 19] (s (h 21 .skip (.exit 0)) (k [0,1,8,18,19,20] (s (.block 1 (q [u 22 1 18 20,l 23 1 22,m 10 23] (s (q [m 24 10,m 25 1,b 26 .mul (i 8) 25,b 27 .sub (i 64) 26,b 28 .shl 24 27,m 29 1,b 30 .mul (i 8) 29,b 31 .sub (i 64) 30,b 32 .shr 28 31,m 11 32] (y [0,1,8,10,11,18,19,20] [m 33 11,m 34 10,b 35 .neq 33 34] (h 35 (t [m 6 (.k .an),m 7 (i 3)]) .skip))) (k [0,1,8,10,18,19,20] (p [m 36 8,m 37 10,o 38 (.conv .u64 37),m 39 1,b 40 .mul (i 8) 39,b 41 .sub (i 64) 40,b 42 .shl 38 41,m 43 1,b 44 .mul (i 8) 43,b 45 .sub (i 64) 44,b 46 .shr 42 45,o 47 (.aF 6 1 1 [.int .u64 0] [(0,46)]),o 48 (.app 6 1 36 47),m 8 48]))))) (k [0,1,8,18,19,20] (p [b 49 .add 20 (i 1),m 20 49])))))))))) (y [0,1,8] [m 50 0,m 51 1,m 52 8,c 53 54 [50,51,52],e 54 53 0,e 55 53 1,m 6 54,m 7 55] (k [6,7] .ret)))))⟩
structure Lf (R:Env):Prop where
 o71:R.Fn 71 Y3
 Gc:Le R
end Go.UM
namespace Go.UM
open Go.AM
open Z
def Y4:cb:=Nf ⟨1,[2],q [m 2 (i 0)] (q [o 4 (.build [j 0,j 0,j 0,j 0,j 0] [(1,1,i 2048),(2,1,i 1024),(3,1,i 64),(4,1,i 64)]),a 3 5 [j 0,j 0,j 0,j 0,j 0],r 5 3 4] (s (q [m 5 0,b 6 .lss 5 (i 0),m 7 6,⟨some 8,some (7,false),.mv 0⟩,⟨some 9,some (7,false),.bin .geq 8 (i 5)⟩,w 10 7 (.k (.bool true)) 9] (k [0,3,10] (h 10 (t [m 2 (i 0)]) .skip))) (k [0,3] (t [m 11 0,o 12 (.bJ 5 1 3 11),l 13 1 12,m 2 13]))))⟩
structure VE (R:Env):Prop where
 Y5:R.Fn 37 Y4
end Go.UM
namespace Go.UM
open Go.AM
open Z
def QJ:cb:=Nf ⟨1,[2],q [x 1 26 0,m 2 (.k (.bool false))] (q [f 3 0 1,l 4 1 3,f 5 1 1,l 6 1 5,f 7 2 1,l 8 1 7,o 9 (.mm true [4,6,8]),b 10 .gtr 9 (i 4096),m 11 10,⟨some 12,some (11,false),.bM 0 1⟩,⟨some 13,some (11,false),.load false 1 12⟩,⟨some 14,some (11,false),.bM 1 1⟩,⟨some 15,some (11,false),.load false 1 14⟩,⟨some 16,some (11,false),.bM 2 1⟩,⟨some 17,some (11,false),.load false 1 16⟩,⟨some 18,some (11,false),.mm false [13,15,17]⟩,⟨some 19,some (11,false),.bin .lss 18 (i (-4096))⟩,w 20 11 (.k (.bool true)) 19,m 2 20] (k [2] .ret))⟩
structure Lg (R:Env):Prop where
 QK:R.Fn 206 QJ
def QL:cb:=Nf ⟨1,[2],q [x 1 18 0,m 2 (.k (.bool false))] (q [o 3 (.bJ 2 1 1 (i 0)),l 4 1 3,o 5 (.bJ 2 1 1 (i 1)),l 6 1 5,o 7 (.mm false [4,6]),b 8 .lss 7 (i 0),m 9 8,⟨some 10,some (9,false),.bJ 2 1 1 (i 0)⟩,⟨some 11,some (9,false),.load false 1 10⟩,⟨some 12,some (9,false),.bJ 2 1 1 (i 1)⟩,⟨some 13,some (9,false),.load false 1 12⟩,⟨some 14,some (9,false),.mm true [11,13]⟩,⟨some 15,some (9,false),.bin .gtr 14 (i 65535)⟩,w 16 9 (.k (.bool true)) 15,m 2 16] (k [2] .ret))⟩
structure Lh (R:Env):Prop where
 QM:R.Fn 207 QL
def QN:cb:=Nf ⟨2,[3],q [x 2 13 0,m 3 (.k (.bool false))] (q [o 4 (.bJ 3 1 2 (i 0)),l 5 1 4,o 6 (.bJ 3 1 2 (i 1)),l 7 1 6,o 8 (.bJ 3 1 2 (i 2)),l 9 1 8,o 10 (.mm false [5,7,9]),b 11 .lss 10 (i 0),m 12 11,⟨some 13,some (12,false),.bJ 3 1 2 (i 0)⟩,⟨some 14,some (12,false),.load false 1 13⟩,⟨some 15,some (12,false),.bJ 3 1 2 (i 1)⟩,⟨some 16,some (12,false),.load false 1 15⟩,⟨some 17,some (12,false),.bJ 3 1 2 (i 2)⟩,⟨some 18,some (12,false),.load false 1 17⟩,⟨some 19,some (12,false),.mm true [14,16,18]⟩,⟨some 20,some (12,false),.bM 0 1⟩,⟨some 21,some (12,false),.load false 1 20⟩,⟨some 22,some (12,false),.gQ 21⟩,⟨some 23,some (12,false),.bin .geq 19 22⟩,w 24 12 (.k (.bool true)) 23,m 25 24,⟨some 26,some (25,false),.bJ 3 1 2 (i 0)⟩,⟨some 27,some (25,false),.load false 1 26⟩,⟨some 28,some (25,false),.bJ 3 1 2 (i 1)⟩,⟨some 29,some (25,false),.load false 1 28⟩,⟨some 30,some (25,false),.bin .eql 27 29⟩,w 31 25 (.k (.bool true)) 30,m 32 31,⟨some 33,some (32,false),.bJ 3 1 2 (i 1)⟩,⟨some 34,some (32,false),.load false 1 33⟩,⟨some 35,some (32,false),.bJ 3 1 2 (i 2)⟩,⟨some 36,some (32,false),.load false 1 35⟩,⟨some 37,some (32,false),.bin .eql 34 36⟩,w 38 32 (.k (.bool true)) 37,m 39 38,⟨some 40,some (39,false),.bJ 3 1 2 (i 2)⟩,⟨some 41,some (39,false),.load false 1 40⟩,⟨some 42,some (39,false),.bJ 3 1 2 (i 0)⟩,⟨some 43,some (39,false),.load false 1 42⟩,⟨some 44,some (39,false),.bin .eql 41 43⟩,w 45 39 (.k (.bool true)) 44,m 3 45] (k [3] .ret))⟩
structure Li (R:Env):Prop where
 VF:R.Fn 208 QN
def QO:cb:=Nf ⟨1,[2],q [x 1 25 0,m 2 (i 0)] (q [m 3 (.f 206)] (q [m 4 (.f 207)] (q [o 6 (.Oq 208 [1]),m 5 6] (s (.block 0 (q [f 8 0 1,l 9 1 8,n 10 9,b 11 .gtr 10 (i 64),m 12 11,⟨some 13,some (12,false),.bM 2 1⟩,⟨some 14,some (12,false),.load false 1 13⟩,⟨some 15,some (12,false),.gQ 14⟩,⟨some 16,some (12,false),.bin .gtr 15 (i 64)⟩,w 17 12 (.k (.bool true)) 16,m 7 17] (k [1,3,4,5,7] (h 7 (t [m 2 (i 3)]) (q [f 19 0 1,l 20 1 19,n 21 20,b 22 .eql 21 (i 0),m 23 22,⟨some 24,some (23,false),.bM 2 1⟩,⟨some 25,some (23,false),.load false 1 24⟩,⟨some 26,some (23,false),.gQ 25⟩,⟨some 27,some (23,false),.bin .eql 26 (i 0)⟩,w 28 23 (.k (.bool true)) 27,m 29 28,⟨some 30,some (29,false),.bM 1 1⟩,⟨some 31,some (29,false),.load false 1 30⟩,⟨some 32,some (29,false),.gQ 31⟩,⟨some 33,some (29,false),.bM 0 1⟩,⟨some 34,some (29,false),.load false 1 33⟩,⟨some 35,some (29,false),.gQ 34⟩,⟨some 36,some (29,false),.bin .neq 32 35⟩,w 37 29 (.k (.bool true)) 36,m 18 37] (k [1,3,4,5,18] (h 18 (t [m 2 (i 5)]) (q [f 39 0 1,l 40 1 39,m 41 3,c 42 209 [40,41],m 38 42] (k [1,4,5,38] (h 38 (t [m 2 (i 8)]) (q [f 44 1 1,l 45 1 44,m 46 4,c 47 210 [45,46],m 48 47,⟨some 49,some (48,false),.bM 2 1⟩,⟨some 50,some (48,false),.load false 1 49⟩,⟨some 51,some (48,false),.mv 5⟩,⟨some 52,some (48,false),.call 211 [50,51]⟩,w 53 48 (.k (.bool true)) 52,m 43 53] (k [43] (h 43 (t [m 2 (i 5)]) .skip))))))))))))) (k [] (t [m 2 (i 0)]))))))⟩
structure Hs (R:Env):Prop where
 Lj:R.Fn 193 QO
 n206:Lg R
 n207:Lh R
 n208:Li R
 n209:KA R
 n210:KC R
 n211:KE R
def QP:cb:=Nf ⟨1,[2,3],q [x 1 25 0,m 2 (.k .an),m 3 (i 0)] (s (q [g 12 3 1,c 13 193 [12],m 4 13] (q [m 14 4,b 15 .neq 14 (i 0)] (h 15 (t [m 16 4,m 2 (.k .an),m 3 16]) .skip))) (y [1] [f 17 0 1,l 18 1 17,n 19 18,o 20 (.conv .u8 19),f 21 2 1,l 22 1 21,n 23 22,o 24 (.conv .u8 23),o 25 (.aF 4 1 2 [.int .u8 0] [(0,20),(1,24)]),m 5 25] (k [1,5] (s (q [f 26 0 1,l 27 1 26,n 28 27,m 29 (i 0)] (k [1,5,27,28,29] (.block 0 (.loop (q [b 30 .lss 29 28] (s (h 30 .skip (.exit 0)) (k [1,5,27,28,29] (s (.block 1 (q [u 31 3 27 29,g 32 3 31,a 7 26 [j 0,j 0,j 0],r 3 7 32] (p [m 34 5,f 35 0 7,l 36 1 35,f 37 1 7,l 38 1 37,f 39 2 7,l 40 1 39,o 41 (.aF 10 1 3 [j 0] [(0,36),(1,38),(2,40)]),c 42 71 [34,i 2,41],m 33 42,e 43 33 0,e 44 33 1,m 5 43]))) (k [1,5,27,28,29] (p [b 45 .add 29 (i 1),m 29 45])))))))))) (k [1,5] (s (q [f 46 1 1,l 47 1 46,n 48 47,m 49 (i 0)] (k [1,5,47,48,49] (.block 2 (.loop (q [b 50 .lss 49 48] (s (h 50 .skip (.exit 2)) (k [1,5,47,48,49] (s (.block 3 (q [u 51 2 47 49,g 52 2 51,a 9 18 [j 0,j 0],r 2 9 52] (p [m 54 5,o 55 (.bJ 2 1 9 (i 0)),l 56 1 55,o 57 (.conv .u64 56),o 58 (.bJ 2 1 9 (i 1)),l 59 1 58,o 60 (.conv .u64 59),o 61 (.aF 6 1 2 [.int .u64 0] [(0,57),(1,60)]),c 62 54 [54,i 2,61],m 53 62,e 63 53 0,e 64 53 1,m 5 63]))) (k [1,5,47,48,49] (p [b 65 .add 49 (i 1),m 49 65])))))))))) (k [1,5] (s (q [f 66 2 1,l 67 1 66,n 68 67,m 69 (i 0)] (k [5,67,68,69] (.block 4 (.loop (q [b 70 .lss 69 68] (s (h 70 .skip (.exit 4)) (k [5,67,68,69] (s (.block 5 (q [u 71 3 67 69,g 72 3 71,a 11 13 [j 0,j 0,j 0],r 3 11 72] (p [m 73 5,o 74 (.bJ 3 1 11 (i 0)),l 75 1 74,o 76 (.conv .u8 75),o 77 (.bJ 3 1 11 (i 1)),l 78 1 77,o 79 (.conv .u8 78),o 80 (.bJ 3 1 11 (i 2)),l 81 1 80,o 82 (.conv .u8 81),o 83 (.aF 4 1 3 [.int .u8 0] [(0,76),(1,79),(2,82)]),o 84 (.app 4 1 73 83),m 5 84]))) (k [5,67,68,69] (p [b 85 .add 69 (i 1),m 69 85])))))))))) (k [5] (t [m 86 5,m 2 86,m 3 (i 0)]))))))))))⟩
structure Lk (R:Env):Prop where
 QQ:R.Fn 196 QP
 Gc:Le R
 Gd:Lf R
 n193:Hs R
end Go.UM
namespace Go.UM
open Go.AM
open Z
def Y6:cb:=Nf ⟨1,[2],q [x 1 12 0,m 2 (i 0)] (s (q [o 5 (.aF 10 1 5 [j 0] [(0,i 1),(1,i 2),(2,i 4),(3,i 8),(4,i 16)]),f 6 0 1,l 7 1 6,c 8 100 [5,7],o 9 (.un .not 8),m 10 9,⟨some 11,some (10,false),.bM 1 1⟩,⟨some 12,some (10,false),.load false 1 11⟩,⟨some 13,some (10,false),.gQ 12⟩,⟨some 14,some (10,false),.bM 0 1⟩,⟨some 15,some (10,false),.load false 1 14⟩,⟨some 16,some (10,false),.bM 0 1⟩,⟨some 17,some (10,false),.load false 1 16⟩,⟨some 18,some (10,false),.bin .mul 15 17⟩,⟨some 19,some (10,false),.bin .neq 13 18⟩,w 20 10 (.k (.bool true)) 19] (k [1,20] (h 20 (t [m 2 (i 5)]) .skip))) (k [1] (s (q [f 21 1 1,l 22 1 21,n 23 22,m 24 (i 0)] (k [22,23,24] (.block 0 (.loop (q [b 25 .lss 24 23] (s (h 25 .skip (.exit 0)) (k [22,23,24] (s (.block 1 (q [u 26 3 22 24,g 27 3 26,a 4 13 [j 0,j 0,j 0],r 3 4 27] (q [o 28 (.bJ 3 1 4 (i 0)),l 29 1 28,o 30 (.bJ 3 1 4 (i 1)),l 31 1 30,o 32 (.bJ 3 1 4 (i 2)),l 33 1 32,o 34 (.mm false [29,31,33]),b 35 .lss 34 (i 0),m 36 35,⟨some 37,some (36,false),.bJ 3 1 4 (i 0)⟩,⟨some 38,some (36,false),.load false 1 37⟩,⟨some 39,some (36,false),.bJ 3 1 4 (i 1)⟩,⟨some 40,some (36,false),.load false 1 39⟩,⟨some 41,some (36,false),.bJ 3 1 4 (i 2)⟩,⟨some 42,some (36,false),.load false 1 41⟩,⟨some 43,some (36,false),.mm true [38,40,42]⟩,⟨some 44,some (36,false),.bin .gtr 43 (i 255)⟩,w 45 36 (.k (.bool true)) 44] (k [22,23,24,45] (h 45 (t [m 2 (i 5)]) .skip))))) (k [22,23,24] (p [b 46 .add 24 (i 1),m 24 46])))))))))) (k [] (t [m 2 (i 0)])))))⟩
structure TB (R:Env):Prop where
 VG:R.Fn 84 Y6
 n100:Kw R
def Y7:cb:=Nf ⟨1,[2,3],q [x 1 12 0,m 2 (.k .an),m 3 (i 0)] (s (q [g 8 2 1,c 9 84 [8],m 4 9] (q [m 10 4,b 11 .neq 10 (i 0)] (h 11 (t [m 12 4,m 2 (.k .an),m 3 12]) .skip))) (y [1] [f 13 0 1,l 14 1 13,o 15 (.conv .u8 14),o 16 (.aF 4 1 1 [.int .u8 0] [(0,15)]),m 5 16] (k [1,5] (s (q [f 17 1 1,l 18 1 17,n 19 18,m 20 (i 0)] (k [5,18,19,20] (.block 0 (.loop (q [b 21 .lss 20 19] (s (h 21 .skip (.exit 0)) (k [5,18,19,20] (s (.block 1 (q [u 22 3 18 20,g 23 3 22,a 7 13 [j 0,j 0,j 0],r 3 7 23] (p [m 24 5,o 25 (.bJ 3 1 7 (i 0)),l 26 1 25,o 27 (.conv .u8 26),o 28 (.bJ 3 1 7 (i 1)),l 29 1 28,o 30 (.conv .u8 29),o 31 (.bJ 3 1 7 (i 2)),l 32 1 31,o 33 (.conv .u8 32),o 34 (.aF 4 1 3 [.int .u8 0] [(0,27),(1,30),(2,33)]),o 35 (.app 4 1 24 34),m 5 35]))) (k [5,18,19,20] (p [b 36 .add 20 (i 1),m 20 36])))))))))) (k [5] (t [m 37 5,m 2 37,m 3 (i 0)]))))))⟩
structure VH (R:Env):Prop where
 Y8:R.Fn 82 Y7
 Jc:TB R
end Go.UM
namespace Go.UM
open Go.AM
open Z
def QR:cb:=Nf ⟨2,[3],q [m 3 (.k (.bool false))] (q [m 4 0,b 5 .lss 4 (i 0),m 6 5,⟨some 7,some (6,false),.mv 0⟩,⟨some 8,some (6,false),.load false 1 1⟩,⟨some 9,some (6,false),.bin .gtr 7 8⟩,w 10 6 (.k (.bool true)) 9,m 3 10] (k [3] .ret))⟩
structure Ll (R:Env):Prop where
 VI:R.Fn 322 QR
def QS:cb:=Nf ⟨2,[4],q [x 2 10 0,m 4 (.k (.bool false))] (t [m 5 1,o 6 (.Oq 322 [2]),c 7 323 [5,6],m 4 7])⟩
structure Ht (R:Env):Prop where
 Ey:R.Fn 307 QS
 n322:Ll R
 n323:KH R
def QT:cb:=Nf ⟨1,[2],q [x 1 40 0,m 2 (i 0)] (s (q [f 3 0 1,l 4 1 3,o 5 (.aF 10 1 1 [j 0] [(0,4)]),c 6 307 [i 4,5],m 7 6,⟨some 8,some (7,false),.bM 1 1⟩,⟨some 9,some (7,false),.bJ 3 1 8 (i 0)⟩,⟨some 10,some (7,false),.load false 1 9⟩,⟨some 11,some (7,false),.bM 1 1⟩,⟨some 12,some (7,false),.bJ 3 1 11 (i 1)⟩,⟨some 13,some (7,false),.load false 1 12⟩,⟨some 14,some (7,false),.bM 1 1⟩,⟨some 15,some (7,false),.bJ 3 1 14 (i 2)⟩,⟨some 16,some (7,false),.load false 1 15⟩,⟨some 17,some (7,false),.bM 4 1⟩,⟨some 18,some (7,false),.load false 1 17⟩,⟨some 19,some (7,false),.aF 10 1 4 [j 0] [(0,10),(1,13),(2,16),(3,18)]⟩,⟨some 20,some (7,false),.call 307 [i 65535,19]⟩,w 21 7 (.k (.bool true)) 20] (k [21] (h 21 (t [m 2 (i 5)]) .skip))) (k [] (t [m 2 (i 0)])))⟩
structure Lm (R:Env):Prop where
 QU:R.Fn 290 QT
 n307:Ht R
def QV:cb:=Nf ⟨1,[2],q [x 1 26 0,m 2 (.k (.bool false))] (q [f 3 0 1,l 4 1 3,f 5 1 1,l 6 1 5,f 7 2 1,l 8 1 7,o 9 (.mm true [4,6,8]),b 10 .gtr 9 (i 4096),m 11 10,⟨some 12,some (11,false),.bM 0 1⟩,⟨some 13,some (11,false),.load false 1 12⟩,⟨some 14,some (11,false),.bM 1 1⟩,⟨some 15,some (11,false),.load false 1 14⟩,⟨some 16,some (11,false),.bM 2 1⟩,⟨some 17,some (11,false),.load false 1 16⟩,⟨some 18,some (11,false),.mm false [13,15,17]⟩,⟨some 19,some (11,false),.bin .lss 18 (i (-4096))⟩,w 20 11 (.k (.bool true)) 19,m 2 20] (k [2] .ret))⟩
structure Ln (R:Env):Prop where
 Hu:R.Fn 308 QV
def QW:cb:=Nf ⟨1,[2],q [x 1 41 0,m 2 (i 0)] (q [m 3 (.f 308)] (q [o 5 (.build [j 0,j 0,j 0] []),a 4 26 [j 0,j 0,j 0],r 3 4 5] (s (.block 0 (q [f 7 0 1,l 8 1 7,o 9 (.aF 10 1 1 [j 0] [(0,8)]),c 10 307 [i 2,9],m 11 10,⟨some 12,some (11,false),.bM 1 1⟩,⟨some 13,some (11,false),.v6 3 1 12 none none none⟩,⟨some 14,some (11,false),.call 307 [i 1048576,13]⟩,w 15 11 (.k (.bool true)) 14,m 6 15] (k [1,3,4,6] (h 6 (t [m 2 (i 5)]) (q [m 17 3,f 18 4 1,g 19 3 18,o 20 (.gq 17 [19]),m 21 20,⟨some 22,some (21,false),.mv 3⟩,⟨some 23,some (21,false),.bM 7 1⟩,⟨some 24,some (21,false),.load true 3 23⟩,⟨some 25,some (21,false),.gq 22 [24]⟩,w 26 21 (.k (.bool true)) 25,m 27 26,⟨some 28,some (27,false),.mv 3⟩,⟨some 29,some (27,false),.bM 10 1⟩,⟨some 30,some (27,false),.load true 3 29⟩,⟨some 31,some (27,false),.gq 28 [30]⟩,w 32 27 (.k (.bool true)) 31,m 16 32] (k [1,4,16] (h 16 (t [m 2 (i 8)]) .skip))))))) (k [1,4] (s (q [f 33 0 1,l 34 1 33] (.block 1 (s (.block 3 (s (.block 2 (s (s (q [b 36 .eql 34 (i 2),m 35 36] (h 35 (.exit 2) .skip)) (y [1,4,34] [b 38 .eql 34 (i 0),m 37 38] (h 37 (.exit 3) .skip))) (k [] (.exit 1)))) (y [1,4] [f 39 4 1,g 40 3 39,g 41 3 4,o 42 (.zO true [.i,.i,.i] 40 41)] (h 42 (t [m 2 (i 5)]) .skip)))) (k [1,4] (s (q [f 43 7 1,g 44 3 43,g 45 3 4,o 46 (.zO true [.i,.i,.i] 44 45),m 47 46,⟨some 48,some (47,false),.bM 10 1⟩,⟨some 49,some (47,false),.load true 3 48⟩,⟨some 50,some (47,false),.load true 3 4⟩,⟨some 51,some (47,false),.zO true [.i,.i,.i] 49 50⟩,w 52 47 (.k (.bool true)) 51] (k [52] (h 52 (t [m 2 (i 5)]) .skip))) (k [] (.exit 1))))))) (k [] (t [m 2 (i 0)])))))))⟩
structure Lo (R:Env):Prop where
 QX:R.Fn 292 QW
 n307:Ht R
 n308:Ln R
def QY:cb:=Nf ⟨2,[4],q [m 4 (.k (.bool false))] (s (q [m 6 0,n 7 6,m 8 1,n 9 8,b 10 .neq 7 9] (k [0,1,10] (h 10 (t [m 4 (.k (.bool false))]) .skip))) (k [0,1] (s (q [m 11 0,n 12 11,m 13 (i 0)] (k [0,1,12,13] (.block 0 (.loop (q [b 14 .lss 13 12] (s (h 14 .skip (.exit 0)) (k [0,1,12,13] (s (.block 1 (q [m 15 13,m 5 15] (s (.draw [0,0,3,7,0,0,48,112,255] [[0],[5],[16,17],[18],[1],[5],[20,21],[22],[19,23]] [m 16 0,m 17 5,u 18 3 16 17,g 19 3 18,m 20 1,m 21 5,u 22 3 20 21,g 23 3 22,o 24 (.zO true [.i,.i,.i] 19 23)]) (k [0,1,12,13,24] (h 24 (t [m 4 (.k (.bool false))]) .skip))))) (k [0,1,12,13] (p [b 25 .add 13 (i 1),m 13 25])))))))))) (k [] (t [m 4 (.k (.bool true))])))))⟩
structure Lp (R:Env):Prop where
 QZ:R.Fn 315 QY
def Q0:cb:=Nf ⟨2,[4],q [m 4 (.k (.bool false))] (s (q [m 6 0,n 7 6,m 8 1,n 9 8,b 10 .neq 7 9] (k [0,1,10] (h 10 (t [m 4 (.k (.bool false))]) .skip))) (k [0,1] (s (q [m 11 0,n 12 11,m 13 (i 0)] (k [0,1,12,13] (.block 0 (.loop (q [b 14 .lss 13 12] (s (h 14 .skip (.exit 0)) (k [0,1,12,13] (s (.block 1 (q [m 15 13,m 5 15] (s (.draw [0,0,3,7,0,0,48,112,255] [[0],[5],[16,17],[18],[1],[5],[20,21],[22],[19,23]] [m 16 0,m 17 5,u 18 2 16 17,g 19 2 18,m 20 1,m 21 5,u 22 2 20 21,g 23 2 22,o 24 (.zO true [.i,.i] 19 23)]) (k [0,1,12,13,24] (h 24 (t [m 4 (.k (.bool false))]) .skip))))) (k [0,1,12,13] (p [b 25 .add 13 (i 1),m 13 25])))))))))) (k [] (t [m 4 (.k (.bool true))])))))⟩
structure Lq (R:Env):Prop where
 Q1:R.Fn 316 Q0
def Q2:cb:=Nf ⟨2,[4],q [m 4 (.k (.bool false))] (s (q [m 6 0,n 7 6,m 8 1,n 9 8,b 10 .neq 7 9] (k [0,1,10] (h 10 (t [m 4 (.k (.bool false))]) .skip))) (k [0,1] (s (q [m 11 0,n 12 11,m 13 (i 0)] (k [0,1,12,13] (.block 0 (.loop (q [b 14 .lss 13 12] (s (h 14 .skip (.exit 0)) (k [0,1,12,13] (s (.block 1 (q [m 15 13,m 5 15] (s (.draw [0,0,3,7,0,0,48,112,255] [[0],[5],[16,17],[18],[1],[5],[20,21],[22],[19,23]] [m 16 0,m 17 5,u 18 3 16 17,g 19 3 18,m 20 1,m 21 5,u 22 3 20 21,g 23 3 22,o 24 (.zO true [.i,.i,.i] 19 23)]) (k [0,1,12,13,24] (h 24 (t [m 4 (.k (.bool false))]) .skip))))) (k [0,1,12,13] (p [b 25 .add 13 (i 1),m 13 25])))))))))) (k [] (t [m 4 (.k (.bool true))])))))⟩
structure Lr (R:Env):Prop where
 Ls:R.Fn 317 Q2
def Q3:cb:=Nf ⟨2,[4],q [x 2 39 0,x 3 39 1,m 4 (.k (.bool false))] (s (q [f 5 0 2,l 6 1 5,f 7 0 3,l 8 1 7,b 9 .neq 6 8,m 10 9,⟨some 11,some (10,false),.bM 6 2⟩,⟨some 12,some (10,false),.load true 5 11⟩,⟨some 13,some (10,false),.bM 6 3⟩,⟨some 14,some (10,false),.load true 5 13⟩,⟨some 15,some (10,false),.zO true [.i,.i,.i,.i,.i] 12 14⟩,w 16 10 (.k (.bool true)) 15,m 17 16,⟨some 18,some (17,false),.bM 11 2⟩,⟨some 19,some (17,false),.load true 13 18⟩,⟨some 20,some (17,false),.bM 11 3⟩,⟨some 21,some (17,false),.load true 13 20⟩,⟨some 22,some (17,false),.zO true [.i,.i,.i,.i,.i,.i,.i,.i,.i,.i,.i,.i,.i] 19 21⟩,w 23 17 (.k (.bool true)) 22,m 24 23,⟨some 25,some (24,false),.bM 4 2⟩,⟨some 26,some (24,false),.bM 0 25⟩,⟨some 27,some (24,false),.load false 1 26⟩,⟨some 28,some (24,false),.bM 4 3⟩,⟨some 29,some (24,false),.bM 0 28⟩,⟨some 30,some (24,false),.load false 1 29⟩,⟨some 31,some (24,false),.bin .neq 27 30⟩,w 32 24 (.k (.bool true)) 31] (k [2,3,32] (h 32 (t [m 4 (.k (.bool false))]) .skip))) (y [2,3] [f 33 1 2,f 34 0 33,l 35 1 34,f 36 1 3,f 37 0 36,l 38 1 37,c 39 315 [35,38],m 40 39,⟨some 41,some (40,true),.bM 1 2⟩,⟨some 42,some (40,true),.bM 1 41⟩,⟨some 43,some (40,true),.load false 1 42⟩,⟨some 44,some (40,true),.bM 1 3⟩,⟨some 45,some (40,true),.bM 1 44⟩,⟨some 46,some (40,true),.load false 1 45⟩,⟨some 47,some (40,true),.call 316 [43,46]⟩,w 48 40 47 (.k (.bool false)),m 49 48,⟨some 50,some (49,true),.bM 1 2⟩,⟨some 51,some (49,true),.bM 2 50⟩,⟨some 52,some (49,true),.load false 1 51⟩,⟨some 53,some (49,true),.bM 1 3⟩,⟨some 54,some (49,true),.bM 2 53⟩,⟨some 55,some (49,true),.load false 1 54⟩,⟨some 56,some (49,true),.call 317 [52,55]⟩,w 57 49 56 (.k (.bool false)),m 58 57,⟨some 59,some (58,true),.bM 4 2⟩,⟨some 60,some (58,true),.bM 1 59⟩,⟨some 61,some (58,true),.load false 1 60⟩,⟨some 62,some (58,true),.bM 4 3⟩,⟨some 63,some (58,true),.bM 1 62⟩,⟨some 64,some (58,true),.load false 1 63⟩,⟨some 65,some (58,true),.call 317 [61,64]⟩,w 66 58 65 (.k (.bool false)),m 4 66] (k [4] .ret)))⟩
structure Lt (R:Env):Prop where
 Q4:R.Fn 298 Q3
 n315:Lp R
 n316:Lq R
 n317:Lr R
def Q5:cb:=Nf ⟨1,[2],q [x 1 39 0,m 2 (i 0)] (s (q [f 3 0 1,l 4 1 3] (.block 0 (q [b 6 .eql 4 (i 1),m 5 6] (h 5 (t [f 7 1 1,g 8 3 7,c 9 193 [8],m 2 9]) (q [b 11 .eql 4 (i 2),m 10 11] (h 10 (t [f 12 4 1,g 13 2 12,c 14 84 [13],m 2 14]) (q [b 16 .eql 4 (i 3),m 15 16] (h 15 (t [f 17 6 1,g 18 5 17,c 19 290 [18],m 2 19]) (q [b 21 .eql 4 (i 4),m 20 21] (h 20 (t [f 22 11 1,g 23 13 22,c 24 292 [23],m 2 24]) .skip)))))))))) (k [] (t [m 2 (i 12)])))⟩
structure Lu (R:Env):Prop where
 Q6:R.Fn 309 Q5
 Jc:TB R
 n193:Hs R
 n290:Lm R
 n292:Lo R
def Q7:cb:=Nf ⟨1,[.cell 2 true 24],q [x 1 39 0,a 2 39 Z3] (s (q [f 3 0 1,l 4 1 3] (.block 0 (q [b 6 .eql 4 (i 1),m 5 6] (h 5 (p [o 7 (.build [.an,.an,.an] []),f 8 1 1,r 3 8 7]) (q [b 10 .eql 4 (i 2),m 9 10] (h 9 (p [o 11 (.build [j 0,.an] []),f 12 4 1,r 2 12 11]) (q [b 14 .eql 4 (i 3),m 13 14] (h 13 (p [o 15 (.build [j 0,j 0,j 0,j 0,j 0] []),f 16 6 1,r 5 16 15]) (q [b 18 .eql 4 (i 4),m 17 18] (h 17 (p [o 19 (.build Z8 []),f 20 11 1,r 13 20 19]) .skip)))))))))) (k [1,2] (t [g 21 24 1,r 24 2 21])))⟩
structure Lv (R:Env):Prop where
 Q8:R.Fn 310 Q7
def Q9:cb:=Nf ⟨1,[2],q [x 1 39 0,m 2 (.k .an)] (s (q [f 16 0 1,l 17 1 16] (.block 0 (q [b 19 .eql 17 (i 1),m 18 19] (h 18 (q [f 21 1 1,g 22 3 21,c 23 196 [22],m 20 23,e 24 20 0,e 25 20 1,m 3 24,m 4 25] (k [3] (t [m 26 3,m 2 26]))) (q [b 28 .eql 17 (i 2),m 27 28] (h 27 (q [f 30 4 1,g 31 2 30,c 32 82 [31],m 29 32,e 33 29 0,e 34 29 1,m 5 33,m 6 34] (k [5] (t [m 35 5,m 2 35]))) (q [b 37 .eql 17 (i 3),m 36 37] (h 36 (q [f 38 6 1,g 39 5 38,a 7 40 [j 0,j 0,j 0,j 0,j 0],r 5 7 39] (q [f 40 0 7,l 41 1 40,o 42 (.conv .u8 41),o 43 (.aF 4 1 1 [.int .u8 0] [(0,42)]),m 8 43] (k [7,8] (s (q [f 44 1 7,o 45 (.bJ 3 1 44 (i 0)),l 46 1 45,f 47 1 7,o 48 (.bJ 3 1 47 (i 1)),l 49 1 48,f 50 1 7,o 51 (.bJ 3 1 50 (i 2)),l 52 1 51,f 53 4 7,l 54 1 53,o 55 (.aF 10 1 4 [j 0] [(0,46),(1,49),(2,52),(3,54)]),n 56 55,m 57 (i 0)] (k [8,55,56,57] (.block 1 (.loop (q [b 58 .lss 57 56] (s (h 58 .skip (.exit 1)) (k [8,55,56,57] (s (.block 2 (q [u 59 1 55 57,l 60 1 59,m 10 60] (p [m 62 8,m 63 10,o 64 (.conv .u64 63),o 65 (.aF 6 1 1 [.int .u64 0] [(0,64)]),c 66 54 [62,i 2,65],m 61 66,e 67 61 0,e 68 61 1,m 8 67]))) (k [8,55,56,57] (p [b 69 .add 57 (i 1),m 57 69])))))))))) (k [8] (t [m 70 8,m 2 70])))))) .skip)))))))) (y [1] [f 71 11 1,g 72 13 71,a 11 41 Z8,r 13 11 72] (q [f 74 0 11,l 75 1 74,o 76 (.conv .u8 75),o 77 (.aF 4 1 1 [.int .u8 0] [(0,76)]),f 78 1 11,o 79 (.bJ 3 1 78 (i 0)),l 80 1 79,o 81 (.conv .u64 80),f 82 1 11,o 83 (.bJ 3 1 82 (i 1)),l 84 1 83,o 85 (.conv .u64 84),f 86 1 11,o 87 (.bJ 3 1 86 (i 2)),l 88 1 87,o 89 (.conv .u64 88),o 90 (.aF 6 1 3 [.int .u64 0] [(0,81),(1,85),(2,89)]),c 91 54 [77,i 4,90],m 73 91,e 92 73 0,e 93 73 1,m 12 92,m 13 93] (k [11,12] (s (q [f 94 4 11,g 95 3 94,f 96 7 11,g 97 3 96,f 98 10 11,g 99 3 98,o 100 (.aF 26 3 3 [j 0,j 0,j 0] [(0,95),(1,97),(2,99)]),n 101 100,m 102 (i 0)] (k [12,100,101,102] (.block 3 (.loop (q [b 103 .lss 102 101] (s (h 103 .skip (.exit 3)) (k [12,100,101,102] (s (.block 4 (q [u 104 3 100 102,g 105 3 104,a 15 26 [j 0,j 0,j 0],r 3 15 105] (p [m 107 12,f 108 0 15,l 109 1 108,f 110 1 15,l 111 1 110,f 112 2 15,l 113 1 112,o 114 (.aF 10 1 3 [j 0] [(0,109),(1,111),(2,113)]),c 115 71 [107,i 2,114],m 106 115,e 116 106 0,e 117 106 1,m 12 116]))) (k [12,100,101,102] (p [b 118 .add 102 (i 1),m 102 118])))))))))) (k [12] (t [m 119 12,m 2 119])))))))⟩
structure Lw (R:Env):Prop where
 Ra:R.Fn 311 Q9
 Gc:Le R
 Gd:Lf R
 TC:VH R
 n196:Lk R
def Rb:cb:=Nf ⟨1,[2],q [x 1 39 0,m 2 (i 0)] (s (q [g 4 24 1,c 5 309 [4],m 3 5] (q [m 6 3,b 7 .neq 6 (i 0)] (h 7 (t [m 8 3,m 2 8]) .skip))) (k [1] (s (s (.draw [0,1,0,4,12,31,63] [[1],[9],[1],[11],[12],[10,13],[14]] [g 9 24 1,c 10 310 [9],f 11 0 1,l 12 1 11,o 13 (.build Z3 [(0,1,12)]),c 14 298 [10,13],o 15 (.un .not 14)]) (k [1,15] (h 15 (t [m 2 (i 5)]) .skip))) (k [1] (s (s (.draw [0,1,3,0,8,27,63] [[1],[16],[17],[1],[19],[20],[18,21]] [g 16 24 1,c 17 311 [16],n 18 17,f 19 0 1,l 20 1 19,c 21 37 [20],b 22 .gtr 18 21]) (k [22] (h 22 (t [m 2 (i 9)]) .skip))) (k [] (t [m 2 (i 0)])))))))⟩
structure Lx (R:Env):Prop where
 Rc:R.Fn 294 Rb
 n37:VE R
 n298:Lt R
 n309:Lu R
 n310:Lv R
 n311:Lw R
end Go.UM
namespace Go.UM
open Go.AM
open Z
def Y9:cb:=Nf ⟨3,[6],q [m 6 (.k (.int .u32 0))] (s (q [m 9 1,n 10 9,m 11 (i 0)] (k [0,2,9,10,11] (.block 0 (.loop (q [b 12 .lss 11 10] (s (h 12 .skip (.exit 0)) (k [0,2,9,10,11] (s (.block 1 (q [u 13 1 9 11,l 14 1 13,m 8 14] (p [m 15 2,m 16 0,m 17 8,o 18 (.gq 15 [16,17]),m 0 18]))) (k [0,2,9,10,11] (p [b 19 .add 11 (i 1),m 11 19])))))))))) (k [0] (t [m 20 0,m 6 20])))⟩
structure VJ (R:Env):Prop where
 Y':R.Fn 16 Y9
def Za:cb:=Nf ⟨2,[4],q [m 4 (.k (.int .u32 0))] (t [m 5 0,m 6 1,b 7 .or 5 6,m 4 7])⟩
structure TE (R:Env):Prop where
 VK:R.Fn 17 Za
def c4:cb:=Nf ⟨1,[2],q [m 2 (.k (.int .u32 0))] (t [m 3 0,c 4 16 [.k (.int .u32 0),3,.f 17],m 2 4])⟩
structure N4 (R:Env):Prop where
 o4:R.Fn 4 c4
 n16:VJ R
 n17:TE R
def Zb:cb:=Nf ⟨2,[4],q [x 2 1 0,m 4 (.k (.int .u8 0))] (s (q [m 5 1,b 6 .lss 5 (i 0),m 7 6,⟨some 8,some (7,false),.mv 1⟩,⟨some 9,some (7,false),.bin .geq 8 (i 8)⟩,w 10 7 (.k (.bool true)) 9] (k [1,2,10] (h 10 (t [m 4 (.k (.int .u8 0))]) .skip))) (k [1,2] (t [m 11 1,o 12 (.bJ 8 1 2 11),l 13 1 12,m 4 13])))⟩
structure TF (R:Env):Prop where
 Re:R.Fn 11 Zb
def Zc:cb:=Nf ⟨2,[4],q [x 2 1 0,m 4 (.k (.bool false))] (q [g 5 8 2,m 6 1,c 7 11 [5,6],b 8 .neq 7 (.k (.int .u8 0)),m 4 8] (k [4] .ret))⟩
structure VL (R:Env):Prop where
 Zd:R.Fn 12 Zc
 n11:TF R
def Ze:cb:=Nf ⟨3,[.cell 6 true 2],q [x 3 3 0,a 6 3 NQ] (s (q [m 9 1,n 10 9,m 11 (i 0)] (k [2,3,6,9,10,11] (.block 0 (.loop (q [b 12 .lss 11 10] (s (h 12 .skip (.exit 0)) (k [2,3,6,9,10,11] (s (.block 1 (q [u 13 15 9 11,g 14 15 13,a 8 2 Z2,r 15 8 14] (p [m 15 2,g 16 2 3,g 17 15 8,o 18 (.gq 15 [16,17]),r 2 3 18]))) (k [2,3,6,9,10,11] (p [b 19 .add 11 (i 1),m 11 19])))))))))) (k [3,6] (t [g 20 2 3,r 2 6 20])))⟩
structure VM (R:Env):Prop where
 Zf:R.Fn 18 Ze
def Zg:cb:=Nf ⟨2,[.cell 4 true 2],q [x 2 3 0,x 3 2 1,a 4 3 NQ] (q [o 5 (.bJ 2 1 2 (i 0)),l 6 1 5,f 7 11 3,l 8 1 7,o 9 (.mm true [6,8]),o 10 (.bJ 2 1 2 (i 1)),l 11 1 10,f 12 12 3,l 13 1 12,o 14 (.mm false [11,13]),o 15 (.build NQ [(0,1,9),(1,1,14)]),r 2 4 15] (k [4] .ret))⟩
structure TG (R:Env):Prop where
 Zh:R.Fn 19 Zg
def Zi:cb:=Nf ⟨3,[6,7],q [m 6 (.k (.int .u32 0)),m 7 (.k (.int .u32 0))] (q [m 9 0,m 10 1,o 11 (.build NQ [(0,1,9),(1,1,10)]),m 12 2,c 13 18 [11,12,.f 19],a 8 3 NQ,r 2 8 13] (k [8] (s (.draw [0,1,0,4,3,31] [[8],[14],[8],[16],[15],[17]] [o 14 (.bJ 2 1 8 (i 0)),l 15 1 14,o 16 (.bJ 2 1 8 (i 1)),l 17 1 16,m 6 15,m 7 17]) (k [6,7] .ret))))⟩
structure VN (R:Env):Prop where
 Zj:R.Fn 14 Zi
 n18:VM R
 n19:TG R
end Go.UM
namespace Go.UM
open Go.AM
open Z
def Rf:cb:=Nf ⟨0,[0],q [m 0 (.k .bU)] (q [o 1 (.J1 1 false true 41),o 2 (.J1 4 true true 16),o 3 (.build [.ci,.ci] [(0,1,1),(1,1,2)]),x 4 47 3,m 0 4] (k [0] .ret))⟩
structure Ly (R:Env):Prop where
 VO:R.Fn 345 Rf
def Rg:cb:=Nf ⟨1,[2],q [m 2 (.k (.bool false))] (q [m 3 0,o 4 (.NI false 3),m 5 4,⟨some 6,some (5,false),.mv 0⟩,⟨some 7,some (5,false),.bK 6⟩,⟨some 8,some (5,false),.bM 0 7⟩,⟨some 9,some (5,false),.load false 1 8⟩,⟨some 10,some (5,false),.GA false 9⟩,w 11 5 (.k (.bool true)) 10,m 2 11] (k [2] .ret))⟩
structure yM (R:Env):Prop where
 VP:R.Fn 355 Rg
def Rh:cb:=Nf ⟨1,[.cell 2 true 24],q [x 1 39 0,a 2 39 Z3] (s (.draw [0,1,3,7,0,16,48,127,0,256,768,2047,4095,8191,16383] [[1],[3],[4],[5],[1],[7],[8],[9],[1],[11],[12],[13],[6,10,14],[1],[16,15]] [f 3 1 1,f 4 0 3,l 5 1 4,c 6 361 [5],f 7 1 1,f 8 1 7,l 9 1 8,c 10 362 [9],f 11 1 1,f 12 2 11,l 13 1 12,c 14 101 [13],o 15 (.build [.an,.an,.an] [(0,1,6),(1,1,10),(2,1,14)]),f 16 1 1,r 3 16 15]) (y [1,2] [f 17 4 1,f 18 1 17,l 19 1 18,c 20 101 [19],f 21 4 1,f 22 1 21,r 1 22 20] (k [1,2] (t [g 23 24 1,r 24 2 23]))))⟩
structure Hv (R:Env):Prop where
 Hw:R.Fn 356 Rh
 n101:Ha R
 Hx:Hb R
 Hy:Hc R
def Rk:cb:=Nf ⟨4,[8],q [x 6 2 2,x 7 39 3,m 8 (i 0)] (s (.block 0 (q [m 13 0,c 14 355 [13],m 12 14] (h 12 (t [m 8 (i 1)]) (q [m 16 1,b 17 .lss 16 (i 1),m 18 17,⟨some 19,some (18,false),.mv 1⟩,⟨some 20,some (18,false),.bin .gtr 19 (i 65536)⟩,w 21 18 (.k (.bool true)) 20,m 15 21] (k [0,1,6,7,15] (h 15 (t [m 8 (i 2)]) .skip)))))) (k [0,1,6,7] (s (q [m 23 0,o 24 (.bK 23),f 25 0 24,l 26 1 25,m 27 1,o 28 (.F5 [.i] false true (.agg Z1) true 26 27),m 22 28,e 29 22 0,e 30 22 1,a 9 45 Z1,r 40 9 29,m 10 30] (y [0,1,6,7,10] [m 31 10] (h 31 (t [m 8 (i 10)]) .skip))) (k [0,1,6,7] (s (q [g 32 24 7,c 33 294 [32],m 11 33] (q [m 34 11,b 35 .neq 34 (i 0)] (h 35 (t [m 36 11,m 8 36]) .skip))) (k [0,1,6,7] (s (q [f 37 1 6,l 38 1 37,f 39 0 7,l 40 1 39,b 41 .neq 38 40] (k [0,1,6,7,41] (h 41 (t [m 8 (i 12)]) .skip))) (k [0,1,6,7] (s (.draw [0,1,3,7,0,0,0,0,128,480,1023] [[0],[42],[43],[44],[1],[1],[6],[7],[49],[47,48,50],[45,46,51]] [m 42 0,o 43 (.bK 42),f 44 0 43,l 45 1 44,m 46 1,m 47 1,g 48 15 6,g 49 24 7,c 50 356 [49],o 51 (.build Z1 [(0,1,47),(1,15,48),(16,24,50)]),v (.Dy [.i] false true 45 46 51)]) (k [] (t [m 8 (i 0)])))))))))))⟩
structure Lz (R:Env):Prop where
 VQ:R.Fn 346 Rk
 n294:Lx R
 ml:yM R
 sI:Hv R
def Rl:cb:=Nf ⟨2,[4],q [x 3 44 1,m 4 (i 0)] (q [m 5 (i 0)] (s (q [f 10 0 3,l 11 1 10,o 12 (.build [j 0,j 0] [(0,1,11),(1,1,i 1)]),f 13 1 3,l 14 1 13,o 15 (.build [j 0,j 0] [(0,1,14),(1,1,i 3)]),f 16 2 3,l 17 1 16,o 18 (.build [j 0,j 0] [(0,1,17),(1,1,i 2)]),o 19 (.aF 18 2 3 [j 0,j 0] [(0,12),(1,15),(2,18)]),n 20 19,m 21 (i 0)] (k [0,5,19,20,21] (.block 0 (.loop (q [b 22 .lss 21 20] (s (h 22 .skip (.exit 0)) (k [0,5,19,20,21] (s (.block 1 (q [u 23 2 19 21,g 24 2 23,a 7 18 [j 0,j 0],r 2 7 24] (s (.draw [0,1,3,7,0,16,63,127,255,255,0,1535,4095] [[0],[26],[27],[28],[7],[30],[29,31],[32],[25],[25],[],[8,33],[34]] [m 26 0,o 27 (.bK 26),f 28 0 27,l 29 1 28,o 30 (.bJ 2 1 7 (i 0)),l 31 1 30,o 32 (.F5 [.i] false true (.agg Z1) true 29 31),m 25 32,e 33 25 0,e 34 25 1,a 8 45 Z1,r 40 8 33,m 9 34]) (k [0,5,7,8,9,19,20,21] (.block 2 (q [o 36 (.bJ 2 1 7 (i 1)),l 37 1 36,b 38 .eql 37 (i 2),m 39 38,⟨some 40,some (39,true),.bJ 2 1 7 (i 0)⟩,⟨some 41,some (39,true),.load false 1 40⟩,⟨some 42,some (39,true),.bin .eql 41 (i 0)⟩,w 43 39 42 (.k (.bool false)),m 35 43] (k [0,5,7,8,9,19,20,21,35] (h 35 .skip (q [m 45 9,o 46 (.un .not 45),m 44 46] (h 44 (t [m 4 (i 11)]) (q [f 48 1 8,f 49 1 48,l 50 1 49,o 51 (.bJ 2 1 7 (i 1)),l 52 1 51,b 53 .neq 50 52,m 47 53] (k [0,5,19,20,21,47] (h 47 (p [m 5 (i 12)]) .skip))))))))))))) (k [0,5,19,20,21] (p [b 54 .add 21 (i 1),m 21 54])))))))))) (k [5] (t [m 55 5,m 4 55]))))⟩
structure LA (R:Env):Prop where
 VR:R.Fn 357 Rl
def Ro:cb:=Nf ⟨1,[.cell 2 true 4],q [x 1 44 0,a 2 49 [j 0,j 0,j 0,j 0]] (q [f 3 0 1,l 4 1 3,f 5 1 1,l 6 1 5,f 7 2 1,l 8 1 7,f 9 3 1,l 10 1 9,o 11 (.build [j 0,j 0,j 0,j 0] [(0,1,4),(1,1,6),(2,1,8),(3,1,10)]),r 4 2 11] (k [2] .ret))⟩
structure Hz (R:Env):Prop where
 Ez:R.Fn 358 Ro
def Rp:cb:=Nf ⟨2,[4],q [x 3 44 1,m 4 (i 0)] (s (.block 0 (q [m 13 0,c 14 355 [13],m 12 14] (h 12 (t [m 4 (i 1)]) (q [f 16 3 3,l 17 1 16,b 18 .lss 17 (i 0),m 19 18,⟨some 20,some (19,false),.bM 3 3⟩,⟨some 21,some (19,false),.load false 1 20⟩,⟨some 22,some (19,false),.bin .gtr 21 (i 65536)⟩,w 23 19 (.k (.bool true)) 22,m 15 23] (k [0,3,15] (h 15 (t [m 4 (i 2)]) .skip)))))) (k [0,3] (s (q [m 24 0,g 25 16 3,c 26 357 [24,25],m 5 26] (q [m 27 5,b 28 .neq 27 (i 0)] (h 28 (t [m 29 5,m 4 29]) .skip))) (k [0,3] (s (s (.draw [0,1,3,7,0,16,63,127,255,255,0,1535,4095] [[0],[31],[32],[33],[3],[35],[34,36],[37],[30],[30],[],[6,38],[39]] [m 31 0,o 32 (.bK 31),f 33 1 32,l 34 1 33,g 35 16 3,c 36 358 [35],o 37 (.F5 [.i,.i,.i,.i] true true (.agg Z9) true 34 36),m 30 37,e 38 30 0,e 39 30 1,a 6 33 Z9,r 12 6 38,m 7 39]) (y [0,3,7] [m 40 7] (h 40 (t [m 4 (i 10)]) .skip))) (k [0,3] (s (s (.draw [0,1,3,7,0,16,63,127,255,511,1023,0] [[0],[41],[42],[43],[3],[45],[44,46],[47],[48],[49],[50],[]] [m 41 0,o 42 (.bK 41),f 43 0 42,l 44 1 43,f 45 0 3,l 46 1 45,o 47 (.F5 [.i] false true (.agg Z1) false 44 46),o 48 (.Dw true 16 24 47),o 49 (.Dw true 1 3 48),o 50 (.Dw false 0 1 49),n 51 50,m 52 (i 0)]) (k [0,3,50,51,52] (.block 1 (.loop (q [b 53 .lss 52 51] (s (h 53 .skip (.exit 1)) (k [0,3,50,51,52] (s (.block 2 (q [u 54 3 50 52,g 55 3 54,a 9 26 [j 0,j 0,j 0],r 3 9 55] (q [f 57 4 3,g 58 12 57,g 59 3 9,c 60 241 [58,59],m 56 60,e 61 56 0,e 62 56 1,a 10 26 [j 0,j 0,j 0],r 3 10 61,m 11 62] (y [0,3,11,50,51,52] [m 63 11,b 64 .neq 63 (i 0)] (h 64 (t [m 65 11,m 4 65]) .skip))))) (k [0,3,50,51,52] (p [b 66 .add 52 (i 1),m 52 66])))))))))) (k [0,3] (s (.draw [0,1,3,7,0,16,0,64,255] [[0],[67],[68],[69],[3],[71],[3],[73],[70,72,74]] [m 67 0,o 68 (.bK 67),f 69 1 68,l 70 1 69,g 71 16 3,c 72 358 [71],f 73 4 3,g 74 12 73,v (.Dy [.i,.i,.i,.i] true true 70 72 74)]) (k [] (t [m 4 (i 0)])))))))))))⟩
structure LB (R:Env):Prop where
 VS:R.Fn 347 Rp
 n241:Hr R
 ml:yM R
 LC:LA R
 pM:Hz R
def Rq:cb:=Nf ⟨1,[2],q [m 2 (.k .an)] (s (q [m 7 0,c 8 355 [7]] (h 8 (t [m 2 (.k .an)]) .skip)) (y [0] [m 3 (.k .an)] (s (q [m 9 0,o 10 (.bK 9),f 11 0 10,l 12 1 11,c 13 433 [12],c 14 434 [13],n 15 14,m 16 (i 0)] (k [0,3,14,15,16] (.block 0 (.loop (q [b 17 .lss 16 15] (s (h 17 .skip (.exit 0)) (k [0,3,14,15,16] (s (.block 1 (q [u 18 1 14 16,l 19 1 18,m 5 19] (q [m 20 0,o 21 (.bK 20),f 22 0 21,l 23 1 22,m 24 5,o 25 (.F5 [.i] false true (.agg Z1) false 23 24),a 6 45 Z1,r 40 6 25] (y [0,3,6,14,15,16] [f 26 16 6,g 27 24 26,c 28 356 [27],f 29 16 6,r 24 29 28] (k [0,3,6,14,15,16] (p [m 30 3,g 31 40 6,o 32 (.aF 45 40 1 Z1 [(0,31)]),o 33 (.app 45 40 30 32),m 3 33])))))) (k [0,3,14,15,16] (p [b 34 .add 16 (i 1),m 16 34])))))))))) (k [3] (t [m 35 3,m 2 35])))))⟩
structure LD (R:Env):Prop where
 VT:R.Fn 418 Rq
 ml:yM R
 sI:Hv R
 LF:KI R
 LG:PO R
def Rr:cb:=Nf ⟨2,[4],q [x 2 49 0,x 3 49 1,m 4 (i 0)] (s (.draw [0,1,0,4,15,0,32,0,128,511,0,1024,0,4096,16383,0,32768,0,131072,524287,1048575,2097151,4194303] [[2],[5],[3],[7],[6,8],[2],[10],[3],[12],[11,13],[2],[15],[3],[17],[16,18],[2],[20],[3],[22],[21,23],[9,14,19,24],[25],[26]] [f 5 0 2,l 6 1 5,f 7 0 3,l 8 1 7,c 9 451 [6,8],f 10 1 2,l 11 1 10,f 12 1 3,l 13 1 12,c 14 451 [11,13],f 15 2 2,l 16 1 15,f 17 2 3,l 18 1 17,c 19 451 [16,18],f 20 3 2,l 21 1 20,f 22 3 3,l 23 1 22,c 24 451 [21,23],o 25 (.aF 10 1 4 [j 0] [(0,9),(1,14),(2,19),(3,24)]),c 26 452 [25],m 4 26]) (k [4] .ret))⟩
structure LH (R:Env):Prop where
 Rs:R.Fn 450 Rr
 sJ:KM R
 HA:KN R
def Rt:cb:=Nf ⟨2,[4],q [x 2 44 0,x 3 44 1,m 4 (i 0)] (s (.draw [0,1,0,7,15,31] [[2],[5],[3],[7],[6,8],[9]] [g 5 16 2,c 6 358 [5],g 7 16 3,c 8 358 [7],c 9 450 [6,8],m 4 9]) (k [4] .ret))⟩
structure LI (R:Env):Prop where
 VU:R.Fn 436 Rt
 pM:Hz R
 HB:LH R
def Ru:cb:=Nf ⟨1,[2],q [m 2 (.k .an)] (s (q [m 6 0,c 7 355 [6]] (h 7 (t [m 2 (.k .an)]) .skip)) (y [0] [m 3 (.k .an)] (s (q [m 8 0,o 9 (.bK 8),f 10 1 9,l 11 1 10,o 12 (.NJ 11)] (k [3,12] (.block 0 (.loop (q [o 13 (.Ow 12),e 14 13 0] (s (h 14 .skip (.exit 0)) (k [3,12] (.block 1 (q [o 15 (.II 12),e 16 15 0,e 17 15 1,a 4 49 [j 0,j 0,j 0,j 0],a 5 33 Z9,r 4 4 16,r 12 5 17] (k [3,4,5,12] (p [m 18 3,f 19 0 4,l 20 1 19,f 21 1 4,l 22 1 21,f 23 2 4,l 24 1 23,f 25 3 4,l 26 1 25,g 27 12 5,o 28 (.build Z7 [(0,1,20),(1,1,22),(2,1,24),(3,1,26),(4,12,27)]),o 29 (.aF 44 16 1 Z7 [(0,28)]),o 30 (.app 44 16 18 29),m 3 30]))))))))))) (y [3] [m 31 3,c 32 435 [31,.f 436]] (t [m 33 3,m 2 33])))))⟩
structure LJ (R:Env):Prop where
 VV:R.Fn 419 Ru
 ml:yM R
 HC:PP R
 LL:LI R
def Rv:cb:=Nf ⟨1,[2],q [m 2 (.k .bU)] (s (q [m 3 0,c 4 355 [3]] (h 4 (t [m 2 (.k .bU)]) .skip)) (k [0] (s (.draw [0,1,3,7,15,0,32,96,224,511,1023,2047,4095] [[0],[5],[6],[7],[8],[0],[10],[11],[12],[13],[9,14],[15],[16]] [m 5 0,o 6 (.bK 5),f 7 0 6,l 8 1 7,c 9 439 [8],m 10 0,o 11 (.bK 10),f 12 1 11,l 13 1 12,c 14 440 [13],o 15 (.build [.ci,.ci] [(0,1,9),(1,1,14)]),x 16 47 15,m 2 16]) (k [2] .ret))))⟩
structure LM (R:Env):Prop where
 VW:R.Fn 430 Rv
 ml:yM R
 LN:PX R
 LO:PY R
end Go.UM
namespace Go.UM
open Go.AM
open Z
def Rz:cb:=Nf ⟨3,[],q [m 8 0,o 9 (.bK 8),f 10 0 9,f 11 8 10,r 1 11 (.k (.int .u32 4294967295))] (y [0,1,2] [m 12 1,n 13 12,m 14 (i 0)] (k [0,2,12,13,14] (.block 0 (.loop (q [b 15 .lss 14 13] (s (h 15 .skip (.exit 0)) (k [0,2,12,13,14] (s (.block 1 (q [u 16 40 12 14,g 17 40 16,a 7 45 Z1,r 40 7 17] (s (q [f 18 1 7,f 19 3 18,g 20 8 19,m 21 2,c 22 12 [20,21],o 23 (.un .not 22)] (k [0,2,7,12,13,14,23] (h 23 (.exit 1) .skip))) (k [0,2,7,12,13,14] (s (.draw [0,1,3,7,0,16,0,64,192,448,960,1984,4095] [[0],[24],[25],[26],[7],[28],[0],[30],[31],[32],[33],[34],[27,29,35]] [m 24 0,o 25 (.bK 24),f 26 10 25,l 27 1 26,f 28 0 7,l 29 1 28,m 30 0,o 31 (.bK 30),f 32 0 31,f 33 4 32,l 34 1 33,n 35 34,v (.Dy [.i] false false 27 29 35)]) (k [0,2,7,12,13,14] (s (.draw [0,0,2,6,14,30,0,64,192,448,1022,2047,4095,8191,16383] [[0],[0],[37],[38],[39],[40],[7],[42],[43],[44],[41,45],[36],[47],[48],[49,46]] [m 36 0,m 37 0,o 38 (.bK 37),f 39 0 38,f 40 4 39,l 41 1 40,f 42 1 7,f 43 0 42,l 44 1 43,o 45 (.aF 6 1 1 [.int .u64 0] [(0,44)]),o 46 (.app 6 1 41 45),o 47 (.bK 36),f 48 0 47,f 49 4 48,r 1 49 46]) (k [0,2,7,12,13,14] (s (.draw [0,0,2,6,14,30,0,64,192,448,1022,2047,4095,8191,16383] [[0],[0],[51],[52],[53],[54],[7],[56],[57],[58],[55,59],[50],[61],[62],[63,60]] [m 50 0,m 51 0,o 52 (.bK 51),f 53 0 52,f 54 5 53,l 55 1 54,f 56 1 7,f 57 2 56,l 58 1 57,o 59 (.aF 0 1 1 [.int .u32 0] [(0,58)]),o 60 (.app 0 1 55 59),o 61 (.bK 50),f 62 0 61,f 63 5 62,r 1 63 60]) (k [0,2,7,12,13,14] (s (.draw [0,0,2,6,14,30,0,64,192,510,1022,2047,4095,8191,16383] [[0],[0],[65],[66],[67],[68],[7],[70],[71],[69,72],[73],[64],[75],[76],[77,74]] [m 64 0,m 65 0,o 66 (.bK 65),f 67 0 66,f 68 6 67,l 69 1 68,f 70 1 7,f 71 2 70,l 72 1 71,o 73 (.aF 0 1 2 [.int .u32 0] [(0,69),(1,72)]),c 74 4 [73],o 75 (.bK 64),f 76 0 75,f 77 6 76,r 1 77 74]) (k [0,2,7,12,13,14] (s (.draw [0,0,0,4,12,28,60,0,128,384,896,1920,0,4096,12288,32764,65532,131068,131068,262141,786429,1835005,3932157,8388607,16777215,33554431,67108863] [[0],[0],[0],[81],[82],[83],[84],[0],[86],[87],[88],[89],[7],[91],[92],[85,90,93],[94],[78],[78],[79],[97],[98],[99,95],[80],[100],[101],[102,96]] [m 79 0,m 80 0,m 81 0,o 82 (.bK 81),f 83 0 82,f 84 7 83,l 85 1 84,m 86 0,o 87 (.bK 86),f 88 0 87,f 89 8 88,l 90 1 89,f 91 1 7,g 92 15 91,o 93 (.aF 2 15 1 Z2 [(0,92)]),c 94 14 [85,90,93],m 78 94,e 95 78 0,e 96 78 1,o 97 (.bK 79),f 98 0 97,f 99 7 98,r 1 99 95,o 100 (.bK 80),f 101 0 100,f 102 8 101,r 1 102 96]) (y [0,2,7,12,13,14] [f 103 16 7,f 104 0 103,l 105 1 104] (.block 2 (q [b 107 .eql 105 (i 1),m 106 107] (h 106 (.draw [0,1,3,7,0,16,0,127] [[0],[108],[109],[110],[7],[112],[7],[111,113,114]] [m 108 0,o 109 (.bK 108),f 110 9 109,l 111 1 110,f 112 0 7,l 113 1 112,g 114 40 7,v (.Dy [.i] false true 111 113 114)]) (q [b 116 .eql 105 (i 3),m 115 116] (h 115 (s (.draw [0,1,3,7,0,16,0,64,192,448,960,1984,4095] [[0],[117],[118],[119],[7],[121],[0],[123],[124],[125],[126],[127],[120,122,128]] [m 117 0,o 118 (.bK 117),f 119 11 118,l 120 1 119,f 121 0 7,l 122 1 121,m 123 0,o 124 (.bK 123),f 125 0 124,f 126 1 125,l 127 1 126,n 128 127,v (.Dy [.i] false false 120 122 128)]) (k [0,2,7,12,13,14] (.draw [0,0,2,6,14,30,0,64,192,448,1022,2047,4095,8191,16383] [[0],[0],[130],[131],[132],[133],[7],[135],[136],[137],[134,138],[129],[140],[141],[142,139]] [m 129 0,m 130 0,o 131 (.bK 130),f 132 0 131,f 133 1 132,l 134 1 133,f 135 16 7,f 136 6 135,g 137 5 136,o 138 (.aF 40 5 1 [j 0,j 0,j 0,j 0,j 0] [(0,137)]),o 139 (.app 40 5 134 138),o 140 (.bK 129),f 141 0 140,f 142 1 141,r 1 142 139]))) (q [b 144 .eql 105 (i 2),m 143 144] (h 143 (s (.draw [0,1,3,7,0,16,0,64,192,448,960,1984,4095] [[0],[145],[146],[147],[7],[149],[0],[151],[152],[153],[154],[155],[148,150,156]] [m 145 0,o 146 (.bK 145),f 147 11 146,l 148 1 147,f 149 0 7,l 150 1 149,m 151 0,o 152 (.bK 151),f 153 0 152,f 154 2 153,l 155 1 154,n 156 155,v (.Dy [.i] false false 148 150 156)]) (k [0,2,7,12,13,14] (.draw [0,0,2,6,14,30,0,64,192,448,1022,2047,4095,8191,16383] [[0],[0],[158],[159],[160],[161],[7],[163],[164],[165],[162,166],[157],[168],[169],[170,167]] [m 157 0,m 158 0,o 159 (.bK 158),f 160 0 159,f 161 2 160,l 162 1 161,f 163 16 7,f 164 4 163,g 165 2 164,o 166 (.aF 12 2 1 [j 0,.an] [(0,165)]),o 167 (.app 12 2 162 166),o 168 (.bK 157),f 169 0 168,f 170 2 169,r 1 170 167]))) (q [b 172 .eql 105 (i 4),m 171 172] (h 171 (.draw [0,0,2,6,14,30,0,64,192,448,1022,2047,4095,8191,16383] [[0],[0],[174],[175],[176],[177],[7],[179],[180],[181],[178,182],[173],[184],[185],[186,183]] [m 173 0,m 174 0,o 175 (.bK 174),f 176 0 175,f 177 3 176,l 178 1 177,f 179 16 7,f 180 11 179,g 181 13 180,o 182 (.aF 41 13 1 Z8 [(0,181)]),o 183 (.app 41 13 178 182),o 184 (.bK 173),f 185 0 184,f 186 3 185,r 1 186 183]) .skip))))))))))))))))))))))) (k [0,2,12,13,14] (p [b 187 .add 14 (i 1),m 14 187]))))))))))⟩
structure LP (R:Env):Prop where
 VX:R.Fn 505 Rz
 n4:N4 R
 n12:VL R
 n14:VN R
def RA:cb:=Nf ⟨3,[],q [x 4 44 1] (s (.draw [0,1,3,7,0,16,63,127,255,255,0,1535,4095] [[0],[19],[20],[21],[4],[23],[22,24],[25],[18],[18],[],[6,26],[27]] [m 19 0,o 20 (.bK 19),f 21 9 20,l 22 1 21,f 23 0 4,l 24 1 23,o 25 (.F5 [.i] false true (.agg Z1) true 22 24),m 18 25,e 26 18 0,e 27 18 1,a 6 45 Z1,r 40 6 26,m 7 27]) (k [0,2,4,6,7] (s (.draw [0,1,3,7,0,16,63,127,255,255,511,2047] [[0],[29],[30],[31],[4],[33],[32,34],[35],[28],[28],[36],[37]] [m 29 0,o 30 (.bK 29),f 31 11 30,l 32 1 31,f 33 1 4,l 34 1 33,o 35 (.F5 [.i] false false (j 0) true 32 34),m 28 35,e 36 28 0,e 37 28 1,m 8 36,m 9 37]) (k [0,2,4,6,7,8,9] (s (.draw [0,1,3,7,0,16,63,127,255,255,511,2047] [[0],[39],[40],[41],[4],[43],[42,44],[45],[38],[38],[46],[47]] [m 39 0,o 40 (.bK 39),f 41 11 40,l 42 1 41,f 43 2 4,l 44 1 43,o 45 (.F5 [.i] false false (j 0) true 42 44),m 38 45,e 46 38 0,e 47 38 1,m 10 46,m 11 47]) (k [0,2,4,6,7,8,9,10,11] (s (q [f 48 2 4,l 49 1 48,b 50 .eql 49 (i 0)] (h 50 (p [m 10 (i (-1)),m 11 (.k (.bool true))]) .skip)) (k [0,2,4,6,7,8,9,10,11] (s (q [m 51 7,o 52 (.un .not 51),m 53 52,⟨some 54,some (53,false),.mv 9⟩,⟨some 55,some (53,false),.un .not 54⟩,w 56 53 (.k (.bool true)) 55,m 57 56,⟨some 58,some (57,false),.mv 11⟩,⟨some 59,some (57,false),.un .not 58⟩,w 60 57 (.k (.bool true)) 59] (k [0,2,4,6,8,10,60] (h 60 .ret .skip))) (y [0,2,4,6,8,10] [f 61 16 6,f 62 1 61,g 63 3 62,a 12 25 [.an,.an,.an],r 3 12 63] (y [0,2,4,6,8,10,12] [f 64 2 12,l 65 1 64,n 66 65,m 67 (i 0)] (k [0,2,4,6,8,10,12,65,66,67] (.block 0 (.loop (q [b 68 .lss 67 66] (s (h 68 .skip (.exit 0)) (k [0,2,4,6,8,10,12,65,66,67] (s (.block 1 (q [u 69 3 65 67,g 70 3 69,a 14 13 [j 0,j 0,j 0],r 3 14 70] (s (.draw [0,0,0,4,12,28,0,64,252,0,512,1536,0,7680,16383,0,65535] [[8],[10],[0],[73],[74],[75],[4],[77],[76,78],[6],[80],[81],[2],[82,83],[71,72,79,84],[],[15,85]] [m 71 8,m 72 10,m 73 0,o 74 (.bK 73),f 75 10 74,l 76 1 75,f 77 0 4,l 78 1 77,o 79 (.IR [.i] false 76 78),f 80 1 6,f 81 3 80,g 82 8 81,m 83 2,c 84 11 [82,83],o 85 (.build Z5 [(15,1,71),(16,1,72),(17,1,79),(18,1,84)]),a 15 60 Z5,r 19 15 85]) (k [0,2,4,6,8,10,12,14,15,65,66,67] (s (q [g 86 3 14,m 87 (i 0)] (k [0,2,4,6,8,10,12,15,65,66,67,86,87] (.block 2 (.loop (q [b 88 .lss 87 (i 3)] (s (h 88 .skip (.exit 2)) (k [0,2,4,6,8,10,12,15,65,66,67,86,87] (s (.block 3 (q [m 89 87,o 90 (.Dx false 3 1 86 87),m 16 89,m 17 90] (s (.draw [0,0,2,0,8,0,56,120,254,510,1022,1022,0,6143,14335] [[16],[4],[93],[12],[95],[17],[96,97],[98],[94,99],[100],[91],[91],[15],[103,92],[104,101]] [m 92 16,f 93 4 4,g 94 12 93,f 95 0 12,l 96 1 95,m 97 17,u 98 3 96 97,g 99 3 98,c 100 241 [94,99],m 91 100,e 101 91 0,e 102 91 1,f 103 0 15,o 104 (.bJ 3 3 103 92),r 3 104 101]) (k [0,2,4,6,8,10,12,15,16,17,65,66,67,86,87] (p [m 105 16,f 106 1 12,l 107 1 106,m 108 17,u 109 2 107 108,g 110 2 109,f 111 9 15,o 112 (.bJ 3 2 111 105),r 2 112 110]))))) (k [0,2,4,6,8,10,12,15,65,66,67,86,87] (p [b 113 .add 87 (i 1),m 87 113])))))))))) (k [0,2,4,6,8,10,12,15,65,66,67] (.draw [0,0,2,6,14,30,0,64,254,511,1023,2047,4095] [[0],[0],[115],[116],[117],[118],[15],[120],[119,121],[114],[123],[124],[125,122]] [m 114 0,m 115 0,o 116 (.bK 115),f 117 0 116,f 118 0 117,l 119 1 118,g 120 19 15,o 121 (.aF 60 19 1 Z5 [(0,120)]),o 122 (.app 60 19 119 121),o 123 (.bK 114),f 124 0 123,f 125 0 124,r 1 125 122]))))))) (k [0,2,4,6,8,10,12,65,66,67] (p [b 126 .add 67 (i 1),m 67 126]))))))))))))))))))))⟩
structure LQ (R:Env):Prop where
 VY:R.Fn 506 RA
 n11:TF R
 n241:Hr R
def RB:cb:=Nf ⟨2,[.cell 4 true 9,5],q [a 4 59 Z6,m 5 (i 0)] (s (.block 0 (q [m 10 0,c 11 430 [10],o 12 (.NI false 11),m 9 12] (h 9 (t [o 13 (.build Z6 []),r 9 4 13,m 5 (i 1)]) (q [m 15 1,b 16 .lss 15 (i 0),m 17 16,⟨some 18,some (17,false),.mv 1⟩,⟨some 19,some (17,false),.bin .geq 18 (i 8)⟩,w 20 17 (.k (.bool true)) 19,m 14 20] (k [0,1,4,14] (h 14 (t [o 21 (.build Z6 []),r 9 4 21,m 5 (i 13)]) .skip)))))) (y [0,1,4] [o 22 (.J1 1 false true 41),o 23 (.J1 1 false false 2),o 24 (.J1 1 false false 2),o 25 (.build [.an,.an,.an,.an,.an,.an,.int .u32 0,.int .u32 0,.int .u32 0,.ci,.ci,.ci] [(9,1,22),(10,1,23),(11,1,24)]),x 26 61 25,m 6 26] (y [0,1,4,6] [m 27 6,m 28 0,c 29 418 [28],m 30 1,c 31 505 [27,29,30]] (k [0,1,4,6] (s (q [m 32 0,c 33 419 [32],n 34 33,m 35 (i 0)] (k [1,4,6,33,34,35] (.block 1 (.loop (q [b 36 .lss 35 34] (s (h 36 .skip (.exit 1)) (k [1,4,6,33,34,35] (s (.block 2 (q [u 37 16 33 35,g 38 16 37,a 8 44 Z7,r 16 8 38] (p [m 39 6,g 40 16 8,m 41 1,c 42 506 [39,40,41]]))) (k [1,4,6,33,34,35] (p [b 43 .add 35 (i 1),m 35 43])))))))))) (y [4,6] [m 44 6,o 45 (.bK 44),f 46 0 45,g 47 9 46,r 9 4 47,m 5 (i 0)] (k [4,5] .ret)))))))⟩
structure LR (R:Env):Prop where
 VZ:R.Fn 491 RB
 LS:LD R
 LU:LJ R
 LV:LM R
 LW:LP R
 LX:LQ R
def RC:cb:=Nf ⟨2,[],q [m 8 1,n 9 8,m 10 (i 0)] (k [0,8,9,10] (.block 0 (.loop (q [b 11 .lss 10 9] (s (h 11 .skip (.exit 0)) (k [0,8,9,10] (s (.block 1 (q [u 12 1 8 10,l 13 1 12,m 5 13] (q [m 15 5,o 16 (.aF 10 1 1 [j 0] [(0,15)]),c 17 71 [.k .an,i 8,16],m 14 17,e 18 14 0,e 19 14 1,m 6 18,m 7 19] (k [0,6,8,9,10] (p [m 20 0,m 21 0,o 22 (.bK 21),f 23 0 22,l 24 1 23,m 25 6,o 26 (.app 4 1 24 25),o 27 (.bK 20),f 28 0 27,r 1 28 26]))))) (k [0,8,9,10] (p [b 29 .add 10 (i 1),m 10 29])))))))))⟩
structure EA (R:Env):Prop where
 RD:R.Fn 508 RC
 Gd:Lf R
def RE:cb:=Nf ⟨2,[],q [m 6 1,n 7 6,m 8 (i 0)] (k [0,6,7,8] (.block 0 (.loop (q [b 9 .lss 8 7] (s (h 9 .skip (.exit 0)) (k [0,6,7,8] (s (.block 1 (q [u 10 3 6 8,g 11 3 10,a 5 26 [j 0,j 0,j 0],r 3 5 11] (p [m 12 0,f 13 0 5,l 14 1 13,f 15 1 5,l 16 1 15,f 17 2 5,l 18 1 17,o 19 (.aF 10 1 3 [j 0] [(0,14),(1,16),(2,18)]),c 20 508 [12,19]]))) (k [0,6,7,8] (p [b 21 .add 8 (i 1),m 8 21])))))))))⟩
structure LY (R:Env):Prop where
 V0:R.Fn 509 RE
 gH:EA R
def RF:cb:=Nf ⟨1,[2],q [x 1 59 0,m 2 (.k .an)] (q [o 20 (.build [.an] []),x 21 62 20,m 3 21] (q [m 22 3,f 23 0 1,l 24 1 23,n 25 24,o 26 (.aF 10 1 1 [j 0] [(0,25)]),c 27 508 [22,26]] (k [1,3] (s (q [f 28 0 1,l 29 1 28,n 30 29,m 31 (i 0)] (k [1,3,29,30,31] (.block 0 (.loop (q [b 32 .lss 31 30] (s (h 32 .skip (.exit 0)) (k [1,3,29,30,31] (s (.block 1 (q [u 33 19 29 31,g 34 19 33,a 5 60 Z5,r 19 5 34] (q [m 35 3,f 36 0 5,o 37 (.v6 3 3 36 none none none),c 38 509 [35,37]] (s (q [f 39 9 5,g 40 6 39,m 41 (i 0)] (k [1,3,5,29,30,31,40,41] (.block 2 (.loop (q [b 42 .lss 41 (i 3)] (s (h 42 .skip (.exit 2)) (k [1,3,5,29,30,31,40,41] (s (.block 3 (q [o 43 (.Dx true 3 2 40 41),a 7 18 [j 0,j 0],r 2 7 43] (p [m 44 3,o 45 (.v6 2 1 7 none none none),c 46 508 [44,45]]))) (k [1,3,5,29,30,31,40,41] (p [b 47 .add 41 (i 1),m 41 47])))))))))) (k [1,3,5,29,30,31] (p [m 48 3,f 49 15 5,l 50 1 49,f 51 16 5,l 52 1 51,f 53 17 5,l 54 1 53,f 55 18 5,l 56 1 55,o 57 (.conv .i64 56),o 58 (.aF 10 1 4 [j 0] [(0,50),(1,52),(2,54),(3,57)]),c 59 508 [48,58]])))))) (k [1,3,29,30,31] (p [b 60 .add 31 (i 1),m 31 60])))))))))) (y [1,3] [m 61 3,f 62 1 1,l 63 1 62,n 64 63,o 65 (.aF 10 1 1 [j 0] [(0,64)]),c 66 508 [61,65]] (k [1,3] (s (q [f 67 1 1,l 68 1 67,n 69 68,m 70 (i 0)] (k [1,3,68,69,70] (.block 4 (.loop (q [b 71 .lss 70 69] (s (h 71 .skip (.exit 4)) (k [1,3,68,69,70] (s (.block 5 (q [u 72 5 68 70,g 73 5 72,a 9 40 [j 0,j 0,j 0,j 0,j 0],r 5 9 73] (q [m 74 3,f 75 0 9,l 76 1 75,o 77 (.aF 10 1 1 [j 0] [(0,76)]),c 78 508 [74,77]] (y [1,3,9,68,69,70] [m 79 3,f 80 1 9,o 81 (.v6 3 1 80 none none none),c 82 508 [79,81]] (p [m 83 3,f 84 4 9,l 85 1 84,o 86 (.aF 10 1 1 [j 0] [(0,85)]),c 87 508 [83,86]]))))) (k [1,3,68,69,70] (p [b 88 .add 70 (i 1),m 70 88])))))))))) (y [1,3] [m 89 3,f 90 2 1,l 91 1 90,n 92 91,o 93 (.aF 10 1 1 [j 0] [(0,92)]),c 94 508 [89,93]] (k [1,3] (s (q [f 95 2 1,l 96 1 95,n 97 96,m 98 (i 0)] (k [1,3,96,97,98] (.block 6 (.loop (q [b 99 .lss 98 97] (s (h 99 .skip (.exit 6)) (k [1,3,96,97,98] (s (.block 7 (q [u 100 2 96 98,g 101 2 100,a 11 12 [j 0,.an],r 2 11 101] (q [m 102 3,f 103 0 11,l 104 1 103,f 105 1 11,l 106 1 105,n 107 106,o 108 (.aF 10 1 2 [j 0] [(0,104),(1,107)]),c 109 508 [102,108]] (y [1,3,11,96,97,98] [f 110 1 11,l 111 1 110,n 112 111,m 113 (i 0)] (k [1,3,96,97,98,111,112,113] (.block 8 (.loop (q [b 114 .lss 113 112] (s (h 114 .skip (.exit 8)) (k [1,3,96,97,98,111,112,113] (s (.block 9 (q [u 115 3 111 113,g 116 3 115,a 13 13 [j 0,j 0,j 0],r 3 13 116] (p [m 117 3,o 118 (.v6 3 1 13 none none none),c 119 508 [117,118]]))) (k [1,3,96,97,98,111,112,113] (p [b 120 .add 113 (i 1),m 113 120]))))))))))))) (k [1,3,96,97,98] (p [b 121 .add 98 (i 1),m 98 121])))))))))) (y [1,3] [m 122 3,f 123 3 1,l 124 1 123,n 125 124,o 126 (.aF 10 1 1 [j 0] [(0,125)]),c 127 508 [122,126]] (k [1,3] (s (q [f 128 3 1,l 129 1 128,n 130 129,m 131 (i 0)] (k [1,3,129,130,131] (.block 10 (.loop (q [b 132 .lss 131 130] (s (h 132 .skip (.exit 10)) (k [1,3,129,130,131] (s (.block 11 (q [u 133 13 129 131,g 134 13 133,a 15 41 Z8,r 13 15 134] (q [m 135 3,f 136 0 15,l 137 1 136,o 138 (.aF 10 1 1 [j 0] [(0,137)]),c 139 508 [135,138]] (y [1,3,15,129,130,131] [m 140 3,f 141 1 15,o 142 (.v6 3 1 141 none none none),c 143 508 [140,142]] (p [m 144 3,f 145 4 15,g 146 3 145,f 147 7 15,g 148 3 147,f 149 10 15,g 150 3 149,o 151 (.aF 26 3 3 [j 0,j 0,j 0] [(0,146),(1,148),(2,150)]),c 152 509 [144,151]]))))) (k [1,3,129,130,131] (p [b 153 .add 131 (i 1),m 131 153])))))))))) (y [1,3] [m 154 3,f 155 4 1,l 156 1 155,n 157 156,o 158 (.aF 10 1 1 [j 0] [(0,157)]),c 159 508 [154,158]] (k [1,3] (s (q [f 160 4 1,l 161 1 160,n 162 161,m 163 (i 0)] (k [1,3,161,162,163] (.block 12 (.loop (q [b 164 .lss 163 162] (s (h 164 .skip (.exit 12)) (k [1,3,161,162,163] (s (.block 13 (q [u 165 1 161 163,l 166 1 165,m 17 166] (p [m 167 3,m 168 17,o 169 (.conv .i64 168),o 170 (.aF 10 1 1 [j 0] [(0,169)]),c 171 508 [167,170]]))) (k [1,3,161,162,163] (p [b 172 .add 163 (i 1),m 163 172])))))))))) (y [1,3] [m 173 3,f 174 5 1,l 175 1 174,n 176 175,o 177 (.aF 10 1 1 [j 0] [(0,176)]),c 178 508 [173,177]] (k [1,3] (s (q [f 179 5 1,l 180 1 179,n 181 180,m 182 (i 0)] (k [1,3,180,181,182] (.block 14 (.loop (q [b 183 .lss 182 181] (s (h 183 .skip (.exit 14)) (k [1,3,180,181,182] (s (.block 15 (q [u 184 1 180 182,l 185 1 184,m 19 185] (p [m 186 3,m 187 19,o 188 (.conv .i64 187),o 189 (.aF 10 1 1 [j 0] [(0,188)]),c 190 508 [186,189]]))) (k [1,3,180,181,182] (p [b 191 .add 182 (i 1),m 182 191])))))))))) (y [1,3] [m 192 3,f 193 6 1,l 194 1 193,o 195 (.conv .i64 194),f 196 7 1,l 197 1 196,o 198 (.conv .i64 197),f 199 8 1,l 200 1 199,o 201 (.conv .i64 200),o 202 (.aF 10 1 3 [j 0] [(0,195),(1,198),(2,201)]),c 203 508 [192,202]] (y [3] [m 204 3,o 205 (.bK 204),f 206 0 205,l 207 1 206,m 2 207] (k [2] .ret))))))))))))))))))))))⟩
structure LZ (R:Env):Prop where
 L3:R.Fn 499 RF
 gH:EA R
 HD:LY R
end Go.UM
namespace Go.UM
open Go.AM
open Z
end Go.UM
namespace Go.UM
open Go.AM
open Z
end Go.UM
namespace Go.UM
open Go.AM
open Z
end Go.UM
namespace Go.UM
open Go.AM
open Z
end Go.UM
namespace Go.UM
open Go.AM
open Z
def Zk:cb:=Nf ⟨1,[2],q [m 2 (.k (.int .u64 0))] (q [m 3 (.k (.int .u64 0))] (s (q [m 4 (i 0)] (k [0,3,4] (.block 0 (.loop (s (q [m 5 4,m 6 0,b 7 .lss 5 6] (h 7 .skip (.exit 0))) (k [0,3,4] (s (.block 1 (p [m 10 3,b 11 .mul 10 (.k (.int .u64 256)),b 12 .add 11 (.k (.int .u64 255)),m 3 12])) (k [0,3,4] (p [m 8 4,b 9 .add 8 (i 1),m 4 9]))))))))) (k [3] (t [m 13 3,m 2 13]))))⟩
structure TH (R:Env):Prop where
 TI:R.Fn 63 Zk
def Zl:cb:=Nf ⟨3,[6,7],q [m 6 (.k .an),m 7 (i 0)] (s (q [m 12 1,b 13 .lss 12 (i 1),m 14 13,⟨some 15,some (14,false),.mv 1⟩,⟨some 16,some (14,false),.bin .gtr 15 (i 8)⟩,w 17 14 (.k (.bool true)) 16] (k [0,1,2,17] (h 17 (t [m 6 (.k .an),m 7 (i 2)]) .skip))) (y [0,1,2] [o 18 (.aF 4 1 0 [.int .u8 0] []),m 19 0,o 20 (.app 4 1 18 19),m 8 20] (s (q [m 9 (i 0)] (k [1,2,8,9] (.block 0 (.loop (s (q [m 21 9,m 22 2,n 23 22,b 24 .lss 21 23] (h 24 .skip (.exit 0))) (k [1,2,8,9] (s (.block 1 (s (s (.draw [0,0,3,7,0,16,63] [[2],[9],[27,28],[29],[1],[31],[30,32]] [m 27 2,m 28 9,u 29 1 27 28,l 30 1 29,m 31 1,c 32 63 [31],b 33 .gtr 30 32]) (k [1,2,8,9,33] (h 33 (t [m 6 (.k .an),m 7 (i 3)]) .skip))) (y [1,2,8,9] [m 34 2,m 35 9,u 36 1 34 35,l 37 1 36,m 10 37] (y [1,2,8,9,10] [m 11 (i 0)] (k [1,2,8,9,10,11] (.block 2 (.loop (s (q [m 38 11,m 39 1,b 40 .lss 38 39] (h 40 .skip (.exit 2))) (k [1,2,8,9,10,11] (s (.block 3 (q [m 43 8,m 44 10,b 45 .rem 44 (.k (.int .u64 256)),o 46 (.conv .u8 45),o 47 (.aF 4 1 1 [.int .u8 0] [(0,46)]),o 48 (.app 4 1 43 47),m 8 48] (k [1,2,8,9,10,11] (p [m 49 10,b 50 .quo 49 (.k (.int .u64 256)),m 10 50])))) (k [1,2,8,9,10,11] (p [m 41 11,b 42 .add 41 (i 1),m 11 42])))))))))))) (k [1,2,8,9] (p [m 25 9,b 26 .add 25 (i 1),m 9 26]))))))))) (k [8] (t [m 51 8,m 6 51,m 7 (i 0)])))))⟩
structure V1 (R:Env):Prop where
 o55:R.Fn 55 Zl
 Ge:TH R
def Zm:cb:=Nf ⟨3,[6,7],q [m 6 (.k .an),m 7 (i 0)] (s (q [m 12 1,b 13 .lss 12 (i 1),m 14 13,⟨some 15,some (14,false),.mv 1⟩,⟨some 16,some (14,false),.bin .gtr 15 (i 8)⟩,w 17 14 (.k (.bool true)) 16] (k [0,1,2,17] (h 17 (t [m 6 (.k .an),m 7 (i 2)]) .skip))) (y [0,1,2] [m 18 1,c 19 63 [18],b 20 .quo 19 (.k (.int .u64 2)),o 21 (.conv .i64 20),m 8 21] (y [0,1,2,8] [m 9 (.k .an)] (s (q [m 10 (i 0)] (k [0,1,2,8,9,10] (.block 0 (.loop (s (q [m 22 10,m 23 2,n 24 23,b 25 .lss 22 24] (h 25 .skip (.exit 0))) (k [0,1,2,8,9,10] (s (.block 1 (s (q [m 28 2,m 29 10,u 30 1 28 29,l 31 1 30,m 32 8,b 33 .gtr 31 32,m 34 33,⟨some 35,some (34,false),.mv 2⟩,⟨some 36,some (34,false),.mv 10⟩,⟨some 37,some (34,false),.Bh 1 35 36⟩,⟨some 38,some (34,false),.load false 1 37⟩,⟨some 39,some (34,false),.mv 8⟩,⟨some 40,some (34,false),.un .neg 39⟩,⟨some 41,some (34,false),.bin .sub 40 (i 1)⟩,⟨some 42,some (34,false),.bin .lss 38 41⟩,w 43 34 (.k (.bool true)) 42] (k [0,1,2,8,9,10,43] (h 43 (t [m 6 (.k .an),m 7 (i 3)]) .skip))) (y [0,1,2,8,9,10] [m 44 2,m 45 10,u 46 1 44 45,l 47 1 46,o 48 (.conv .u64 47),m 11 48] (k [0,1,2,8,9,10,11] (s (q [m 49 2,m 50 10,u 51 1 49 50,l 52 1 51,b 53 .lss 52 (i 0)] (k [0,1,2,8,9,10,11,53] (h 53 (.draw [0,1,0,0,12,28,60,124,252,511,1023] [[1],[54],[2],[10],[56,57],[58],[59],[60],[61],[55,62],[63]] [m 54 1,c 55 63 [54],m 56 2,m 57 10,u 58 1 56 57,l 59 1 58,b 60 .add 59 (i 1),o 61 (.un .neg 60),o 62 (.conv .u64 61),b 63 .sub 55 62,m 11 63]) .skip))) (k [0,1,2,8,9,10,11] (p [m 64 9,m 65 11,o 66 (.aF 6 1 1 [.int .u64 0] [(0,65)]),o 67 (.app 6 1 64 66),m 9 67]))))))) (k [0,1,2,8,9,10] (p [m 26 10,b 27 .add 26 (i 1),m 10 27]))))))))) (y [0,1,9] [m 68 0,m 69 1,m 70 9,c 71 55 [68,69,70],e 72 71 0,e 73 71 1,m 6 72,m 7 73] (k [6,7] .ret))))))⟩
structure TJ (R:Env):Prop where
 o72:R.Fn 72 Zm
 V2:V1 R
 Ge:TH R
end Go.UM
namespace Go.UM
open Go.AM
open Z
end Go.UM
namespace Go.UM
open Go.AM
open Z
end Go.UM
namespace Go.UM
open Go.AM
open Z
def Zn:cb:=Nf ⟨2,[4],q [x 2 12 0,x 3 12 1,m 4 (.k (.bool false))] (s (q [f 6 0 2,l 7 1 6,f 8 0 3,l 9 1 8,b 10 .neq 7 9,m 11 10,⟨some 12,some (11,false),.bM 1 2⟩,⟨some 13,some (11,false),.load false 1 12⟩,⟨some 14,some (11,false),.gQ 13⟩,⟨some 15,some (11,false),.bM 1 3⟩,⟨some 16,some (11,false),.load false 1 15⟩,⟨some 17,some (11,false),.gQ 16⟩,⟨some 18,some (11,false),.bin .neq 14 17⟩,w 19 11 (.k (.bool true)) 18] (k [2,3,19] (h 19 (t [m 4 (.k (.bool false))]) .skip))) (k [2,3] (s (q [m 5 (i 0)] (k [2,3,5] (.block 0 (.loop (s (q [m 20 5,f 21 1 2,l 22 1 21,n 23 22,b 24 .lss 20 23] (k [2,3,5,24] (h 24 .skip (.exit 0)))) (k [2,3,5] (s (.block 1 (s (.draw [0,1,0,7,15,0,32,0,224,480,1023] [[2],[27],[5],[28,29],[30],[3],[32],[5],[33,34],[35],[31,36]] [f 27 1 2,l 28 1 27,m 29 5,u 30 3 28 29,g 31 3 30,f 32 1 3,l 33 1 32,m 34 5,u 35 3 33 34,g 36 3 35,o 37 (.zO true [.i,.i,.i] 31 36)]) (k [2,3,5,37] (h 37 (t [m 4 (.k (.bool false))]) .skip)))) (k [2,3,5] (p [m 25 5,b 26 .add 25 (i 1),m 5 26]))))))))) (k [] (t [m 4 (.k (.bool true))])))))⟩
structure V3 (R:Env):Prop where
 Zo:R.Fn 89 Zn
end Go.UM
namespace Go.UM
open Go.AM
open Z
end Go.UM
namespace Go.UM
open Go.AM
open Z
end Go.UM
namespace Go.UM
open Go.AM
open Z
end Go.UM
namespace Go.UM
open Go.AM
open Z
end Go.UM
namespace Go.UM
open Go.AM
open Z
def RG:cb:=Nf ⟨2,[4],q [m 4 (.k (.bool false))] (s (q [m 5 (i 0)] (k [0,1,5] (.block 0 (.loop (s (q [m 6 5,m 7 0,n 8 7,b 9 .lss 6 8] (h 9 .skip (.exit 0))) (k [0,1,5] (s (.block 1 (s (.draw [0,0,3,7,0,0,48,112,255] [[0],[5],[12,13],[14],[1],[5],[16,17],[18],[15,19]] [m 12 0,m 13 5,u 14 1 12 13,l 15 1 14,m 16 1,m 17 5,u 18 1 16 17,l 19 1 18,b 20 .neq 15 19]) (k [0,1,5,20] (h 20 (t [m 4 (.k (.bool false))]) .skip)))) (k [0,1,5] (p [m 10 5,b 11 .add 10 (i 1),m 5 11]))))))))) (k [] (t [m 4 (.k (.bool true))])))⟩
structure L4 (R:Env):Prop where
 RH:R.Fn 507 RG
def RI:cb:=Nf ⟨2,[4],q [x 2 59 0,x 3 59 1,m 4 (.k (.bool false))] (s (q [f 10 0 2,l 11 1 10,n 12 11,f 13 0 3,l 14 1 13,n 15 14,b 16 .neq 12 15,m 17 16,⟨some 18,some (17,false),.bM 1 2⟩,⟨some 19,some (17,false),.load false 1 18⟩,⟨some 20,some (17,false),.gQ 19⟩,⟨some 21,some (17,false),.bM 1 3⟩,⟨some 22,some (17,false),.load false 1 21⟩,⟨some 23,some (17,false),.gQ 22⟩,⟨some 24,some (17,false),.bin .neq 20 23⟩,w 25 17 (.k (.bool true)) 24,m 26 25,⟨some 27,some (26,false),.bM 2 2⟩,⟨some 28,some (26,false),.load false 1 27⟩,⟨some 29,some (26,false),.gQ 28⟩,⟨some 30,some (26,false),.bM 2 3⟩,⟨some 31,some (26,false),.load false 1 30⟩,⟨some 32,some (26,false),.gQ 31⟩,⟨some 33,some (26,false),.bin .neq 29 32⟩,w 34 26 (.k (.bool true)) 33,m 35 34,⟨some 36,some (35,false),.bM 3 2⟩,⟨some 37,some (35,false),.load false 1 36⟩,⟨some 38,some (35,false),.gQ 37⟩,⟨some 39,some (35,false),.bM 3 3⟩,⟨some 40,some (35,false),.load false 1 39⟩,⟨some 41,some (35,false),.gQ 40⟩,⟨some 42,some (35,false),.bin .neq 38 41⟩,w 43 35 (.k (.bool true)) 42,m 44 43,⟨some 45,some (44,false),.bM 4 2⟩,⟨some 46,some (44,false),.load false 1 45⟩,⟨some 47,some (44,false),.gQ 46⟩,⟨some 48,some (44,false),.bM 4 3⟩,⟨some 49,some (44,false),.load false 1 48⟩,⟨some 50,some (44,false),.gQ 49⟩,⟨some 51,some (44,false),.bin .neq 47 50⟩,w 52 44 (.k (.bool true)) 51,m 53 52,⟨some 54,some (53,false),.bM 5 2⟩,⟨some 55,some (53,false),.load false 1 54⟩,⟨some 56,some (53,false),.gQ 55⟩,⟨some 57,some (53,false),.bM 5 3⟩,⟨some 58,some (53,false),.load false 1 57⟩,⟨some 59,some (53,false),.gQ 58⟩,⟨some 60,some (53,false),.bin .neq 56 59⟩,w 61 53 (.k (.bool true)) 60] (k [2,3,61] (h 61 (t [m 4 (.k (.bool false))]) .skip))) (k [2,3] (s (q [f 62 5 2,l 63 1 62,f 64 5 3,l 65 1 64,c 66 507 [63,65],o 67 (.un .not 66)] (k [2,3,67] (h 67 (t [m 4 (.k (.bool false))]) .skip))) (k [2,3] (s (q [m 5 (i 0)] (k [2,3,5] (.block 0 (.loop (s (q [m 68 5,f 69 0 2,l 70 1 69,n 71 70,b 72 .lss 68 71] (k [2,3,5,72] (h 72 .skip (.exit 0)))) (k [2,3,5] (s (.block 1 (s (.draw [0,1,0,7,15,0,32,0,224,480,1023] [[2],[75],[5],[76,77],[78],[3],[80],[5],[81,82],[83],[79,84]] [f 75 0 2,l 76 1 75,m 77 5,u 78 19 76 77,g 79 19 78,f 80 0 3,l 81 1 80,m 82 5,u 83 19 81 82,g 84 19 83,o 85 (.zO true [.i,.i,.i,.i,.i,.i,.i,.i,.i,.i,.i,.i,.i,.i,.i,.i,.i,.i,.i] 79 84)]) (k [2,3,5,85] (h 85 (t [m 4 (.k (.bool false))]) .skip)))) (k [2,3,5] (p [m 73 5,b 74 .add 73 (i 1),m 5 74]))))))))) (k [2,3] (s (q [m 6 (i 0)] (k [2,3,6] (.block 2 (.loop (s (q [m 86 6,f 87 1 2,l 88 1 87,n 89 88,b 90 .lss 86 89] (k [2,3,6,90] (h 90 .skip (.exit 2)))) (k [2,3,6] (s (.block 3 (s (.draw [0,1,0,7,15,0,32,0,224,480,1023] [[2],[93],[6],[94,95],[96],[3],[98],[6],[99,100],[101],[97,102]] [f 93 1 2,l 94 1 93,m 95 6,u 96 5 94 95,g 97 5 96,f 98 1 3,l 99 1 98,m 100 6,u 101 5 99 100,g 102 5 101,o 103 (.zO true [.i,.i,.i,.i,.i] 97 102)]) (k [2,3,6,103] (h 103 (t [m 4 (.k (.bool false))]) .skip)))) (k [2,3,6] (p [m 91 6,b 92 .add 91 (i 1),m 6 92]))))))))) (k [2,3] (s (q [m 7 (i 0)] (k [2,3,7] (.block 4 (.loop (s (q [m 104 7,f 105 2 2,l 106 1 105,n 107 106,b 108 .lss 104 107] (k [2,3,7,108] (h 108 .skip (.exit 4)))) (k [2,3,7] (s (.block 5 (s (.draw [0,1,0,7,15,0,32,0,224,480,1023,2047] [[2],[111],[7],[112,113],[114],[3],[116],[7],[117,118],[119],[115,120],[121]] [f 111 2 2,l 112 1 111,m 113 7,u 114 2 112 113,g 115 2 114,f 116 2 3,l 117 1 116,m 118 7,u 119 2 117 118,g 120 2 119,c 121 89 [115,120],o 122 (.un .not 121)]) (k [2,3,7,122] (h 122 (t [m 4 (.k (.bool false))]) .skip)))) (k [2,3,7] (p [m 109 7,b 110 .add 109 (i 1),m 7 110]))))))))) (k [2,3] (s (q [m 8 (i 0)] (k [2,3,8] (.block 6 (.loop (s (q [m 123 8,f 124 3 2,l 125 1 124,n 126 125,b 127 .lss 123 126] (k [2,3,8,127] (h 127 .skip (.exit 6)))) (k [2,3,8] (s (.block 7 (s (.draw [0,1,0,7,15,0,32,0,224,480,1023] [[2],[130],[8],[131,132],[133],[3],[135],[8],[136,137],[138],[134,139]] [f 130 3 2,l 131 1 130,m 132 8,u 133 13 131 132,g 134 13 133,f 135 3 3,l 136 1 135,m 137 8,u 138 13 136 137,g 139 13 138,o 140 (.zO true [.i,.i,.i,.i,.i,.i,.i,.i,.i,.i,.i,.i,.i] 134 139)]) (k [2,3,8,140] (h 140 (t [m 4 (.k (.bool false))]) .skip)))) (k [2,3,8] (p [m 128 8,b 129 .add 128 (i 1),m 8 129]))))))))) (k [2,3] (s (q [m 9 (i 0)] (k [2,3,9] (.block 8 (.loop (s (q [m 141 9,f 142 4 2,l 143 1 142,n 144 143,b 145 .lss 141 144] (k [2,3,9,145] (h 145 .skip (.exit 8)))) (k [2,3,9] (s (.block 9 (s (.draw [0,1,0,7,15,0,32,0,224,480,1023] [[2],[148],[9],[149,150],[151],[3],[153],[9],[154,155],[156],[152,157]] [f 148 4 2,l 149 1 148,m 150 9,u 151 1 149 150,l 152 1 151,f 153 4 3,l 154 1 153,m 155 9,u 156 1 154 155,l 157 1 156,b 158 .neq 152 157]) (k [2,3,9,158] (h 158 (t [m 4 (.k (.bool false))]) .skip)))) (k [2,3,9] (p [m 146 9,b 147 .add 146 (i 1),m 9 147]))))))))) (y [2,3] [f 159 6 2,l 160 1 159,f 161 6 3,l 162 1 161,b 163 .eql 160 162,m 164 163,⟨some 165,some (164,true),.bM 7 2⟩,⟨some 166,some (164,true),.load false 1 165⟩,⟨some 167,some (164,true),.bM 7 3⟩,⟨some 168,some (164,true),.load false 1 167⟩,⟨some 169,some (164,true),.bin .eql 166 168⟩,w 170 164 169 (.k (.bool false)),m 171 170,⟨some 172,some (171,true),.bM 8 2⟩,⟨some 173,some (171,true),.load false 1 172⟩,⟨some 174,some (171,true),.bM 8 3⟩,⟨some 175,some (171,true),.load false 1 174⟩,⟨some 176,some (171,true),.bin .eql 173 175⟩,w 177 171 176 (.k (.bool false)),m 4 177] (k [4] .ret)))))))))))))))⟩
structure L5 (R:Env):Prop where
 RJ:R.Fn 492 RI
 TK:V3 R
 HE:L4 R
def RK:cb:=Nf ⟨2,[4],q [m 4 (.k .an)] (q [m 8 1,c 9 72 [.k .an,i 8,8],m 7 9,e 10 7 0,e 11 7 1,m 5 10,m 6 11] (k [0,5] (t [m 12 0,m 13 5,o 14 (.app 4 1 12 13),m 4 14])))⟩
structure HF (R:Env):Prop where
 RL:R.Fn 510 RK
 TL:TJ R
def RM:cb:=Nf ⟨1,[2],q [x 1 59 0,m 2 (.k .an)] (q [f 17 0 1,l 18 1 17,n 19 18,o 20 (.aF 10 1 1 [j 0] [(0,19)]),c 21 510 [.k .an,20],m 3 21] (k [1,3] (s (q [m 4 (i 0)] (k [1,3,4] (.block 0 (.loop (s (q [m 22 4,f 23 0 1,l 24 1 23,n 25 24,b 26 .lss 22 25] (k [1,3,4,26] (h 26 .skip (.exit 0)))) (k [1,3,4] (s (.block 1 (q [f 29 0 1,l 30 1 29,m 31 4,u 32 19 30 31,g 33 19 32,a 5 60 Z5,r 19 5 33] (k [1,3,4,5] (s (q [m 6 (i 0)] (k [1,3,4,5,6] (.block 2 (.loop (s (q [m 34 6,b 35 .lss 34 (i 3)] (h 35 .skip (.exit 2))) (k [1,3,4,5,6] (s (.block 3 (.draw [0,0,0,6,14,30,0,0,192,448,960,0,0,6144,14336,30720,65534,131071,262143] [[3],[6],[5],[40,39],[41],[42],[6],[5],[45,44],[46],[47],[6],[5],[50,49],[51],[52],[43,48,53],[38,54],[55]] [m 38 3,m 39 6,f 40 0 5,o 41 (.bJ 3 3 40 39),f 42 0 41,l 43 1 42,m 44 6,f 45 0 5,o 46 (.bJ 3 3 45 44),f 47 1 46,l 48 1 47,m 49 6,f 50 0 5,o 51 (.bJ 3 3 50 49),f 52 2 51,l 53 1 52,o 54 (.aF 10 1 3 [j 0] [(0,43),(1,48),(2,53)]),c 55 510 [38,54],m 3 55])) (k [1,3,4,5,6] (p [m 36 6,b 37 .add 36 (i 1),m 6 37]))))))))) (k [1,3,4,5] (s (q [m 7 (i 0)] (k [1,3,4,5,7] (.block 4 (.loop (s (q [m 56 7,b 57 .lss 56 (i 3)] (h 57 .skip (.exit 4))) (k [1,3,4,5,7] (s (.block 5 (.draw [0,0,0,6,14,30,0,0,192,448,960,2046,4095,8191] [[3],[7],[5],[62,61],[63],[64],[7],[5],[67,66],[68],[69],[65,70],[60,71],[72]] [m 60 3,m 61 7,f 62 9 5,o 63 (.bJ 3 2 62 61),o 64 (.bJ 2 1 63 (i 0)),l 65 1 64,m 66 7,f 67 9 5,o 68 (.bJ 3 2 67 66),o 69 (.bJ 2 1 68 (i 1)),l 70 1 69,o 71 (.aF 10 1 2 [j 0] [(0,65),(1,70)]),c 72 510 [60,71],m 3 72])) (k [1,3,4,5,7] (p [m 58 7,b 59 .add 58 (i 1),m 7 59]))))))))) (k [1,3,4,5] (p [m 73 3,f 74 15 5,l 75 1 74,f 76 16 5,l 77 1 76,f 78 17 5,l 79 1 78,f 80 18 5,l 81 1 80,o 82 (.conv .i64 81),o 83 (.aF 10 1 4 [j 0] [(0,75),(1,77),(2,79),(3,82)]),c 84 510 [73,83],m 3 84])))))))) (k [1,3,4] (p [m 27 4,b 28 .add 27 (i 1),m 4 28]))))))))) (y [1,3] [m 85 3,f 86 1 1,l 87 1 86,n 88 87,o 89 (.aF 10 1 1 [j 0] [(0,88)]),c 90 510 [85,89],m 3 90] (k [1,3] (s (q [m 8 (i 0)] (k [1,3,8] (.block 6 (.loop (s (q [m 91 8,f 92 1 1,l 93 1 92,n 94 93,b 95 .lss 91 94] (k [1,3,8,95] (h 95 .skip (.exit 6)))) (k [1,3,8] (s (.block 7 (q [f 98 1 1,l 99 1 98,m 100 8,u 101 5 99 100,g 102 5 101,a 9 40 [j 0,j 0,j 0,j 0,j 0],r 5 9 102] (k [1,3,8,9] (p [m 103 3,f 104 0 9,l 105 1 104,f 106 1 9,o 107 (.bJ 3 1 106 (i 0)),l 108 1 107,f 109 1 9,o 110 (.bJ 3 1 109 (i 1)),l 111 1 110,f 112 1 9,o 113 (.bJ 3 1 112 (i 2)),l 114 1 113,f 115 4 9,l 116 1 115,o 117 (.aF 10 1 5 [j 0] [(0,105),(1,108),(2,111),(3,114),(4,116)]),c 118 510 [103,117],m 3 118])))) (k [1,3,8] (p [m 96 8,b 97 .add 96 (i 1),m 8 97]))))))))) (y [1,3] [m 119 3,f 120 2 1,l 121 1 120,n 122 121,o 123 (.aF 10 1 1 [j 0] [(0,122)]),c 124 510 [119,123],m 3 124] (k [1,3] (s (q [m 10 (i 0)] (k [1,3,10] (.block 8 (.loop (s (q [m 125 10,f 126 2 1,l 127 1 126,n 128 127,b 129 .lss 125 128] (k [1,3,10,129] (h 129 .skip (.exit 8)))) (k [1,3,10] (s (.block 9 (q [f 132 2 1,l 133 1 132,m 134 10,u 135 2 133 134,g 136 2 135,a 11 12 [j 0,.an],r 2 11 136] (y [1,3,10,11] [m 137 3,f 138 0 11,l 139 1 138,f 140 1 11,l 141 1 140,n 142 141,o 143 (.aF 10 1 2 [j 0] [(0,139),(1,142)]),c 144 510 [137,143],m 3 144] (y [1,3,10,11] [m 12 (i 0)] (k [1,3,10,11,12] (.block 10 (.loop (s (q [m 145 12,f 146 1 11,l 147 1 146,n 148 147,b 149 .lss 145 148] (k [1,3,10,11,12,149] (h 149 .skip (.exit 10)))) (k [1,3,10,11,12] (s (.block 11 (.draw [0,0,2,0,14,30,62,0,128,0,896,1920,3968,0,8192,0,57344,122880,253952,524286,1048575,2097151] [[3],[11],[153],[12],[154,155],[156],[157],[11],[159],[12],[160,161],[162],[163],[11],[165],[12],[166,167],[168],[169],[158,164,170],[152,171],[172]] [m 152 3,f 153 1 11,l 154 1 153,m 155 12,u 156 3 154 155,o 157 (.bJ 3 1 156 (i 0)),l 158 1 157,f 159 1 11,l 160 1 159,m 161 12,u 162 3 160 161,o 163 (.bJ 3 1 162 (i 1)),l 164 1 163,f 165 1 11,l 166 1 165,m 167 12,u 168 3 166 167,o 169 (.bJ 3 1 168 (i 2)),l 170 1 169,o 171 (.aF 10 1 3 [j 0] [(0,158),(1,164),(2,170)]),c 172 510 [152,171],m 3 172])) (k [1,3,10,11,12] (p [m 150 12,b 151 .add 150 (i 1),m 12 151])))))))))))) (k [1,3,10] (p [m 130 10,b 131 .add 130 (i 1),m 10 131]))))))))) (y [1,3] [m 173 3,f 174 3 1,l 175 1 174,n 176 175,o 177 (.aF 10 1 1 [j 0] [(0,176)]),c 178 510 [173,177],m 3 178] (k [1,3] (s (q [m 13 (i 0)] (k [1,3,13] (.block 12 (.loop (s (q [m 179 13,f 180 3 1,l 181 1 180,n 182 181,b 183 .lss 179 182] (k [1,3,13,183] (h 183 .skip (.exit 12)))) (k [1,3,13] (s (.block 13 (q [f 186 3 1,l 187 1 186,m 188 13,u 189 13 187 188,g 190 13 189,a 14 41 Z8,r 13 14 190] (k [1,3,13,14] (p [m 191 3,f 192 0 14,l 193 1 192,f 194 1 14,o 195 (.bJ 3 1 194 (i 0)),l 196 1 195,f 197 1 14,o 198 (.bJ 3 1 197 (i 1)),l 199 1 198,f 200 1 14,o 201 (.bJ 3 1 200 (i 2)),l 202 1 201,f 203 4 14,f 204 0 203,l 205 1 204,f 206 4 14,f 207 1 206,l 208 1 207,f 209 4 14,f 210 2 209,l 211 1 210,f 212 7 14,f 213 0 212,l 214 1 213,f 215 7 14,f 216 1 215,l 217 1 216,f 218 7 14,f 219 2 218,l 220 1 219,f 221 10 14,f 222 0 221,l 223 1 222,f 224 10 14,f 225 1 224,l 226 1 225,f 227 10 14,f 228 2 227,l 229 1 228,o 230 (.aF 10 1 13 [j 0] [(0,193),(1,196),(2,199),(3,202),(4,205),(5,208),(6,211),(7,214),(8,217),(9,220),(10,223),(11,226),(12,229)]),c 231 510 [191,230],m 3 231])))) (k [1,3,13] (p [m 184 13,b 185 .add 184 (i 1),m 13 185]))))))))) (y [1,3] [m 232 3,f 233 4 1,l 234 1 233,n 235 234,o 236 (.aF 10 1 1 [j 0] [(0,235)]),c 237 510 [232,236],m 3 237] (k [1,3] (s (q [m 15 (i 0)] (k [1,3,15] (.block 14 (.loop (s (q [m 238 15,f 239 4 1,l 240 1 239,n 241 240,b 242 .lss 238 241] (k [1,3,15,242] (h 242 .skip (.exit 14)))) (k [1,3,15] (s (.block 15 (p [m 245 3,f 246 4 1,l 247 1 246,m 248 15,u 249 1 247 248,l 250 1 249,o 251 (.conv .i64 250),o 252 (.aF 10 1 1 [j 0] [(0,251)]),c 253 510 [245,252],m 3 253])) (k [1,3,15] (p [m 243 15,b 244 .add 243 (i 1),m 15 244]))))))))) (y [1,3] [m 254 3,f 255 5 1,l 256 1 255,n 257 256,o 258 (.aF 10 1 1 [j 0] [(0,257)]),c 259 510 [254,258],m 3 259] (k [1,3] (s (q [m 16 (i 0)] (k [1,3,16] (.block 16 (.loop (s (q [m 260 16,f 261 5 1,l 262 1 261,n 263 262,b 264 .lss 260 263] (k [1,3,16,264] (h 264 .skip (.exit 16)))) (k [1,3,16] (s (.block 17 (p [m 267 3,f 268 5 1,l 269 1 268,m 270 16,u 271 1 269 270,l 272 1 271,o 273 (.conv .i64 272),o 274 (.aF 10 1 1 [j 0] [(0,273)]),c 275 510 [267,274],m 3 275])) (k [1,3,16] (p [m 265 16,b 266 .add 265 (i 1),m 16 266]))))))))) (y [1,3] [m 276 3,f 277 6 1,l 278 1 277,o 279 (.conv .i64 278),f 280 7 1,l 281 1 280,o 282 (.conv .i64 281),f 283 8 1,l 284 1 283,o 285 (.conv .i64 284),o 286 (.aF 10 1 3 [j 0] [(0,279),(1,282),(2,285)]),c 287 510 [276,286],m 2 287] (k [2] .ret))))))))))))))))))))⟩
structure L6 (R:Env):Prop where
 RN:R.Fn 500 RM
 iO:HF R
end Go.UM
namespace Go.UM
open Go.AM
open Z
def RO:cb:=Nf ⟨0,[0],q [m 0 (.k (.bool false))] (q [c 5 345 [],m 1 5] (s (q [m 6 1,o 7 (.NI false 6)] (h 7 (t [m 0 (.k (.bool false))]) .skip)) (y [1] [o 8 (.build [j 0,j 0,j 0] []),o 9 (.build [j 0,j 0,j 0] [(0,1,i 5)]),o 10 (.build [j 0,j 0,j 0] [(1,1,i 7)]),o 11 (.aF 26 3 3 [j 0,j 0,j 0] [(0,8),(1,9),(2,10)]),o 12 (.Uu 18 2 [j 0,j 0] (i 3) (i 3)),o 13 (.build [j 0,j 0,j 0] [(0,1,i 0),(1,1,i 1),(2,1,i 2)]),o 14 (.build [j 0,j 0,j 0] [(0,1,i 2),(1,1,i 1),(2,1,i 0)]),o 15 (.aF 13 3 2 [j 0,j 0,j 0] [(0,13),(1,14)]),o 16 (.build [.an,.an,.an] [(0,1,11),(1,1,12),(2,1,15)]),o 17 (.build Z3 [(0,1,i 1),(1,3,16)]),a 2 39 Z3,r 24 2 17] (y [1,2] [m 18 1,o 19 (.build Z4 [(0,1,.k (.int .u8 1))]),o 20 (.build Z2 [(1,1,i 1),(3,8,19)]),g 21 24 2,c 22 346 [18,i 1,20,21]] (y [1] [m 23 1,o 24 (.build Z4 [(0,1,.k (.int .u8 1))]),o 25 (.build Z2 [(1,1,i 3),(3,8,24)]),o 26 (.build Z3 [(0,1,i 3)]),c 27 346 [23,i 2,25,26]] (y [1] [m 28 1,c 29 221 [],o 30 (.build Z7 [(0,1,i 1),(1,1,i 2),(4,12,29)]),c 31 347 [28,30]] (q [m 33 1,c 34 491 [33,i 0],m 32 34,e 35 32 0,e 36 32 1,a 3 59 Z6,r 9 3 35,m 4 36] (y [3,4] [m 37 4,b 38 .eql 37 (i 0),m 39 38,⟨some 40,some (39,true),.bM 0 3⟩,⟨some 41,some (39,true),.load false 1 40⟩,⟨some 42,some (39,true),.gQ 41⟩,⟨some 43,some (39,true),.bin .eql 42 (i 2)⟩,w 44 39 43 (.k (.bool false)),m 45 44,⟨some 46,some (45,true),.bM 1 3⟩,⟨some 47,some (45,true),.load false 1 46⟩,⟨some 48,some (45,true),.gQ 47⟩,⟨some 49,some (45,true),.bin .eql 48 (i 1)⟩,w 50 45 49 (.k (.bool false)),m 51 50,⟨some 52,some (51,true),.bM 0 3⟩,⟨some 53,some (51,true),.load false 1 52⟩,⟨some 54,some (51,true),.Bh 19 53 (i 0)⟩,⟨some 55,some (51,true),.bM 16 54⟩,⟨some 56,some (51,true),.load false 1 55⟩,⟨some 57,some (51,true),.bin .eql 56 (i (-1))⟩,w 58 51 57 (.k (.bool false)),m 0 58] (k [0] .ret)))))))))⟩
structure L7 (R:Env):Prop where
 RP:R.Fn 493 RO
 n221:K8 R
 n345:Ly R
 n346:Lz R
 L8:LB R
 L9:LR R
def RQ:cb:=Nf ⟨1,[.cell 2 true 9],q [x 1 59 0,a 2 59 Z6] (s (.draw [0,1,0,4,12,28,63,0,128,0,512,1536,3584,8064,0,16384,0,65536,196608,458752,1032192,0,2097152,0,8388608,25165824,58720256,132120576,31705087,300140543,837025791,1910767615,4060086271,8355053567,17179869183,34359738367] [[1],[6],[1],[8],[9],[10],[7,11],[1],[13],[1],[15],[16],[17],[14,18],[1],[20],[1],[22],[23],[24],[21,25],[1],[27],[1],[29],[30],[31],[28,32],[1],[34,12],[1],[35,19],[1],[36,26],[1],[37,33]] [f 6 0 1,l 7 1 6,f 8 0 1,l 9 1 8,n 10 9,o 11 (.mm false [10,i 20]),o 12 (.vZ 60 19 7 none (some 11) none),f 13 1 1,l 14 1 13,f 15 1 1,l 16 1 15,n 17 16,o 18 (.mm false [17,i 10]),o 19 (.vZ 40 5 14 none (some 18) none),f 20 3 1,l 21 1 20,f 22 3 1,l 23 1 22,n 24 23,o 25 (.mm false [24,i 10]),o 26 (.vZ 41 13 21 none (some 25) none),f 27 4 1,l 28 1 27,f 29 4 1,l 30 1 29,n 31 30,o 32 (.mm false [31,i 20]),o 33 (.vZ 6 1 28 none (some 32) none),f 34 0 1,r 1 34 12,f 35 1 1,r 1 35 19,f 36 3 1,r 1 36 26,f 37 4 1,r 1 37 33]) (y [1,2] [f 38 5 1,l 39 1 38,f 40 5 1,l 41 1 40,n 42 41,o 43 (.mm false [42,i 20]),o 44 (.vZ 0 1 39 none (some 43) none),f 45 5 1,r 1 45 44] (y [1,2] [m 3 (.k .an)] (s (q [m 4 (i 0)] (k [1,2,3,4] (.block 0 (.loop (s (q [m 46 4,f 47 2 1,l 48 1 47,n 49 48,b 50 .lss 46 49,m 51 50,⟨some 52,some (51,true),.mv 4⟩,⟨some 53,some (51,true),.bin .lss 52 (i 5)⟩,w 54 51 53 (.k (.bool false))] (k [1,2,3,4,54] (h 54 .skip (.exit 0)))) (k [1,2,3,4] (s (.block 1 (q [f 57 2 1,l 58 1 57,m 59 4,u 60 2 58 59,g 61 2 60,a 5 12 [j 0,.an],r 2 5 61] (k [1,2,3,4,5] (.draw [0,0,2,0,8,0,32,96,224,504,1022,2046,4095,8191] [[3],[5],[63],[5],[65],[5],[67],[68],[69],[66,70],[64,71],[72],[62,73],[74]] [m 62 3,f 63 0 5,l 64 1 63,f 65 1 5,l 66 1 65,f 67 1 5,l 68 1 67,n 69 68,o 70 (.mm false [69,i 260]),o 71 (.vZ 13 3 66 none (some 70) none),o 72 (.build [j 0,.an] [(0,1,64),(1,1,71)]),o 73 (.aF 12 2 1 [j 0,.an] [(0,72)]),o 74 (.app 12 2 62 73),m 3 74])))) (k [1,2,3,4] (p [m 55 4,b 56 .add 55 (i 1),m 4 56]))))))))) (y [1,2,3] [m 75 3,f 76 2 1,r 1 76 75] (t [g 77 9 1,r 9 2 77]))))))⟩
structure Ma (R:Env):Prop where
 Mb:R.Fn 498 RQ
def RR:cb:=Nf ⟨2,[4],q [x 2 59 0,x 3 59 1,m 4 (.k (.bool false))] (s (.draw [0,1,0,7,15,31] [[2],[7],[3],[9],[2,8],[3,10]] [g 7 9 2,c 8 498 [7],g 9 9 3,c 10 498 [9],r 9 2 8,r 9 3 10]) (k [2,3] (s (.draw [0,1,0,7,15,31] [[2],[11],[3],[13],[12],[14]] [g 11 9 2,c 12 499 [11],g 13 9 3,c 14 499 [13],m 5 12,m 6 14]) (k [2,3,5,6] (s (.draw [0,0,2,7,15,31,31,127,31,31,1023,2047,4095,8191,16383,32767,65535] [[5],[2],[16],[15,17],[18],[5],[6],[20,21],[2],[3],[23,24],[22,25],[19,26],[27],[],[28,29],[30]] [m 15 5,g 16 9 2,c 17 500 [16],c 18 47 [15,17],m 19 18,⟨some 20,some (19,true),.mv 5⟩,⟨some 21,some (19,true),.mv 6⟩,⟨some 22,some (19,true),.call 47 [20,21]⟩,⟨some 23,some (19,true),.load true 9 2⟩,⟨some 24,some (19,true),.load true 9 3⟩,⟨some 25,some (19,true),.call 492 [23,24]⟩,⟨some 26,some (19,true),.On false 22 25⟩,w 27 19 26 (.k (.bool false)),m 28 27,⟨some 29,some (28,true),.call 493 []⟩,w 30 28 29 (.k (.bool false)),m 4 30]) (k [4] .ret))))))⟩
structure Md (R:Env):Prop where
 V4:R.Fn 497 RR
 n47:Vs R
 HG:L5 R
 HH:L7 R
 BW:Ma R
 BX:LZ R
 HI:L6 R
end Go.UM
namespace Go.UM
open Go.AM
def u8 (n:Int):UInt8:=UInt8.ofNat (n % 256).toNat
theorem Ai (n:Int):wr .u8 n=((u8 n).toNat:Int):=by
 have h1:0≤n % 256:=Int.emod_nonneg _ (by decide)
 have h2:n % 256<256:=Int.emod_lt_of_pos _ (by decide)
 simp only[wr,IntKind.wrap,IntKind.bits,IntKind.signed,u8]
 simp
 omega
theorem Me (n:Int):u8 (n % 256)=u8 n:=by unfold u8; rw[Int.emod_emod_of_dvd n (Int.dvd_refl 256)]
theorem HJ {n:Int} (h:0≤n):u8 (n.tmod 256)=u8 n:=by rw[Int.tmod_eq_emod_of_nonneg h,Me]
theorem u8_in {n:Int} (h:0≤n∧n≤255):((u8 n).toNat:Int)=n:=by rw[←Ai,Ah (k:= .u8) h]
def bc (l:List UInt8):List (List AV):=l.map fun c=>[.int .u8 c.toNat]
def aY (k:IntKind) (l:List Int):List (List AV):=l.map fun x=>[.int k x]
@[simp] theorem RS:bc []=[]:=rfl
@[simp] theorem gx (l:List UInt8):(bc l).length=l.length:=by simp[bc]
@[simp] theorem Jd (a b:List UInt8):bc (a++b)=bc a++bc b:=by simp[bc]
@[simp] theorem RT (n:Int):[[AV.int .u8 (wr .u8 n)]]=bc [u8 n]:=by simp[bc,Ai]
@[simp] theorem RU (k:IntKind):aY k []=[]:=rfl
@[simp] theorem wV (k:IntKind) (l:List Int):(aY k l).length=l.length:=by simp[aY]
@[simp] theorem Je (k:IntKind) (a b:List Int):aY k (a++b)=aY k a++aY k b:=by simp[aY]
@[simp] theorem RV (l:List UInt8):lR (bc l):=by simp[bc]
@[simp] theorem RW (k:IntKind) (l:List Int):lR (aY k l):=by simp[aY]
@[simp] theorem RX (l:List UInt8):wR (bc l):=by simp[bc]
@[simp] theorem RY (k:IntKind) (l:List Int):wR (aY k l):=by simp[aY]
instance {l:List UInt8}:iF (bc l) l.length:=⟨gx l⟩
instance {k:IntKind} {l:List Int}:iF (aY k l) l.length:=⟨wV k l⟩
@[simp] theorem RZ {e:List AV} {l:List UInt8}:e ∈ bc l↔∃c,c ∈ l∧[AV.int .u8 c.toNat]=e:=by simp[bc]
@[simp] theorem R2 {k:IntKind} {e:List AV} {l:List Int}:e ∈ aY k l↔∃c,c ∈ l∧[AV.int k c]=e:=by simp[aY]
theorem tT (l:List UInt8) (k:Nat):(bc l).take k=bc (l.take k):=by simp[bc,List.map_take]
theorem tU (l:List UInt8) (k:Nat):(bc l).drop k=bc (l.drop k):=by simp[bc,List.map_drop]
theorem tV (k':IntKind) (l:List Int) (k:Nat):(aY k' l).take k=aY k' (l.take k):=by simp[aY,List.map_take]
theorem tW (k':IntKind) (l:List Int) (k:Nat):(aY k' l).drop k=aY k' (l.drop k):=by simp[aY,List.map_drop]
theorem aA {α:Type} {l:List α} {k:Nat} {x:α} (h:l[k]? =some x):l.take (k+1)=l.take k++ [x]:=by
 rw[List.take_add_one,h]; rfl
theorem Mg {k:IntKind} {x y:Int} (hx:0≤x):fi k x y=x / 2 ^ (min y.toNat k.bits):=by
 unfold fi
 rw[Int.fdiv_eq_ediv_of_nonneg]
 exact Int.le_of_lt (Int.pow_pos (by decide))
theorem YW {s:List UInt8} {K:List UInt8→Prop} (k:K s):OD (bc s) K:=⟨⟨s,rfl,k⟩⟩
theorem iG {α:Type} (l:List α) (m:Int):l.take (min (l.length:Int) m).toNat=l.take m.toNat:=by
 by_cases h:(l.length:Int)≤m
 ·rw[show (min (l.length:Int) m).toNat=l.length by omega,List.take_of_length_le (Nat.le_refl _),List.take_of_length_le (by omega)]
 ·rw[show (min (l.length:Int) m).toNat=m.toNat by omega]
instance {l:List UInt8} {k:Nat}:kQ ((bc l).take k) (bc (l.take k)):=⟨tT l k⟩
instance {l:List UInt8} {k:Nat}:kQ ((bc l).drop k) (bc (l.drop k)):=⟨tU l k⟩
instance {l:List UInt8} {k j:Nat}:kQ (((bc l).take k).drop j) (bc ((l.take k).drop j)):=⟨by rw[tT,tU]⟩
instance {kk:IntKind} {l:List Int} {k:Nat}:kQ ((aY kk l).take k) (aY kk (l.take k)):=⟨tV kk l k⟩
instance {kk:IntKind} {l:List Int} {k:Nat}:kQ ((aY kk l).drop k) (aY kk (l.drop k)):=⟨tW kk l k⟩
instance {kk:IntKind} {l:List Int} {k j:Nat}:kQ (((aY kk l).take k).drop j) (aY kk ((l.take k).drop j)):=⟨by rw[tV,tW]⟩
end Go.UM
namespace Go.UM
open Go.AM
theorem jd {n:Nat} {x:Int} (h0:0≤x) (h1:x<2 ^ n):(BitVec.ofInt n x).toNat=x.toNat:=by
 rw[BitVec.toNat_ofInt]
 congr 1
 apply Int.emod_eq_of_lt h0
 exact_mod_cast h1
theorem rE {x:Nat} (h:x<18446744073709551616):wr .u64 (x:Int)=x:=Ah (k:= .u64) ⟨by omega,by omega⟩
theorem yN {x y:Int} (hx:0≤x∧x≤18446744073709551615) (hy:0≤y∧y≤18446744073709551615):eE .or .u64 x y=((x.toNat||| y.toNat:Nat):Int):=by
 have e:eE .or .u64 x y=wr .u64 ((BitVec.ofInt 64 x||| BitVec.ofInt 64 y).toNat:Int):=rfl
 rw[e,BitVec.toNat_or,jd hx.1 (by omega),jd hy.1 (by omega)]
 apply rE
 exact Nat.or_lt_two_pow (n:=64) (by omega) (by omega)
theorem HK {x y:Int} (hx:0≤x∧x≤18446744073709551615) (hy:0≤y∧y≤18446744073709551615):eE .and .u64 x y=((x.toNat&&& y.toNat:Nat):Int):=by
 have e:eE .and .u64 x y=wr .u64 ((BitVec.ofInt 64 x&&& BitVec.ofInt 64 y).toNat:Int):=rfl
 rw[e,BitVec.toNat_and,jd hx.1 (by omega),jd hy.1 (by omega)]
 apply rE
 exact Nat.and_lt_two_pow (n:=64) _ (by omega)
def le:List UInt8→Nat
 |[]=>0
 |c::r=>c.toNat+256*le r
theorem tX:∀ (l m:List UInt8),le (l++m)=le l+256 ^ l.length*le m
 |[],m=>by simp[le]
 |c::r,m=>by
  simp only[List.cons_append,le,tX r,List.length_cons,Nat.pow_succ,Nat.mul_add]
  rw[Nat.mul_comm (256 ^ r.length) 256,Nat.mul_assoc]
  omega
theorem HL (l:List UInt8) (c:UInt8):le (l++ [c])=le l+256 ^ l.length*c.toNat:=by
 rw[tX]; simp[le]
end Go.UM
namespace Go.UM
open Go.AM
structure T3 where
 (a b c:Int)
def z3:T3:=⟨0,0,0⟩
def t3 (x:T3):List AV:=[.int .i64 x.a,.int .i64 x.b,.int .i64 x.c]
def bF (l:List T3):List (List AV):=l.map t3
@[simp] theorem R3:bF []=[]:=rfl
@[simp] theorem wW (l:List T3):(bF l).length=l.length:=by simp[bF]
@[simp] theorem Jf (a b:List T3):bF (a++b)=bF a++bF b:=by simp[bF]
@[simp] theorem R4 (l:List T3):lR (bF l):=by simp[bF,t3]
@[simp] theorem R5 (l:List T3):wR (bF l):=by simp[bF,t3]
theorem BY (l:List T3) (k:Nat):(bF l).take k=bF (l.take k):=by simp[bF,List.map_take]
theorem BZ (l:List T3) (k:Nat):(bF l).drop k=bF (l.drop k):=by simp[bF,List.map_drop]
instance {l:List T3}:iF (bF l) l.length:=⟨wW l⟩
instance {l:List T3} {k:Nat}:kQ ((bF l).take k) (bF (l.take k)):=⟨BY l k⟩
instance {l:List T3} {k:Nat}:kQ ((bF l).drop k) (bF (l.drop k)):=⟨BZ l k⟩
end Go.UM
namespace Go.UM
open Go.AM
set_option maxRecDepth 4000
abbrev gR (n:Int):Prop:=aZ .i64 n
abbrev HM (n:Int):Prop:=aZ .u64 n
theorem dR {n:Int}:gR n↔ -9223372036854775808≤n∧n≤9223372036854775807:=Iff.rfl
theorem u' {n:Int}:HM n↔0≤n∧n≤18446744073709551615:=Iff.rfl
theorem oo (n:Int):wr .u64 n=n % 18446744073709551616:=by
 simp only[wr,IntKind.wrap,IntKind.bits,IntKind.signed]; simp
theorem dN (n:Int):wr .i64 n=(n+9223372036854775808) % 18446744073709551616 - 9223372036854775808:=by
 simp only[wr,IntKind.wrap,IntKind.bits,IntKind.signed]; simp; omega
def lV (v:Int):Int:=if 9223372036854775807<v then 9223372036854775807 else if v< -9223372036854775808 then -9223372036854775808 else v
theorem rF (v:Int):gR (lV v):=by
 rw[dR]; unfold lV; split
 ·omega
 ·split<;>omega
theorem yO {v:Int} (h:gR v):lV v=v:=by
 rw[dR]at h; unfold lV; rw[if_neg (by omega),if_neg (by omega)]
def gy (a b:Int):Int:=lV (a+b)
def rG (a b:Int):Int:=lV (a*b / 4294967296)
def kn (x:Int):Int:=if x<0 then -x else x
theorem nk {x:Int} (h:gR x):0≤kn x∧kn x≤9223372036854775808:=by
 rw[dR]at h; unfold kn; split<;>omega
theorem Aj (a b:Int):a*b=if (decide (a<0) != decide (b<0))=true then -(kn a*kn b)else kn a*kn b:=by
 unfold kn
 by_cases ha:a<0<;>by_cases hb:b<0<;>simp[ha,hb,Int.neg_mul,Int.mul_neg]
theorem gf {x y B:Int} (hx:0≤x∧x≤B) (hy:0≤y∧y≤B):0≤x*y∧x*y≤B*B:=
 ⟨Int.mul_nonneg hx.1 hy.1,Int.mul_le_mul hx.2 hy.2 hy.1 (by omega)⟩
theorem Ak {a b:Int} (ha:gR a) (hb:gR b): -85070591730234615865843651857942052864≤a*b∧a*b≤85070591730234615865843651857942052864:=by
 have h:=gf (nk ha) (nk hb)
 rw[Aj]
 split<;>omega
def mz (v:Int):Int:=v / 18446744073709551616
def yP (v:Int):Int:=v % 18446744073709551616
abbrev HN (v:Int):Prop:= -85070591730234615865843651857942052864≤v∧v≤85070591730234615865843651857942052864
theorem vd {v:Int} (h:HN v): -4611686018427387904≤mz v∧mz v≤4611686018427387904:=by unfold mz; omega
theorem ve (v:Int):0≤yP v∧yP v≤18446744073709551615:=by unfold yP; omega
theorem HO {x y:Int} (hx:HM x) (hy:HM y):
  (0≤x % 4294967296* (y % 4294967296)∧x % 4294967296* (y % 4294967296)≤18446744065119617025)∧
  (0≤x / 4294967296* (y % 4294967296)∧x / 4294967296* (y % 4294967296)≤18446744065119617025)∧
  (0≤x % 4294967296* (y / 4294967296)∧x % 4294967296* (y / 4294967296)≤18446744065119617025)∧
  (0≤x / 4294967296* (y / 4294967296)∧x / 4294967296* (y / 4294967296)≤18446744065119617025)∧
  x*y=x / 4294967296* (y / 4294967296)*18446744073709551616+ (x / 4294967296* (y % 4294967296)+x % 4294967296* (y / 4294967296))*4294967296+x % 4294967296* (y % 4294967296):=by
 rw[u']at hx hy
 have a1:0≤x % 4294967296∧x % 4294967296≤4294967295:=by omega
 have a2:0≤x / 4294967296∧x / 4294967296≤4294967295:=by omega
 have b1:0≤y % 4294967296∧y % 4294967296≤4294967295:=by omega
 have b2:0≤y / 4294967296∧y / 4294967296≤4294967295:=by omega
 refine⟨gf a1 b1,gf a2 b1,gf a1 b2,gf a2 b2,?_⟩
 have ex:x=x / 4294967296*4294967296+x % 4294967296:=by omega
 have ey:y=y / 4294967296*4294967296+y % 4294967296:=by omega
 generalize x / 4294967296=p at*
 generalize x % 4294967296=q at*
 generalize y / 4294967296=r at*
 generalize y % 4294967296=s at*
 subst ex; subst ey
 simp only[Int.mul_add,Int.add_mul]
 have e1:p*4294967296* (r*4294967296)=p*r*18446744073709551616:=by
  rw[Int.mul_assoc p,Int.mul_left_comm 4294967296 r,←Int.mul_assoc]; rfl
 have e2:p*4294967296*s=p*s*4294967296:=by rw[Int.mul_assoc,Int.mul_comm 4294967296 s,Int.mul_assoc]
 have e3:q* (r*4294967296)=q*r*4294967296:=by rw[Int.mul_assoc]
 rw[e1,e2,e3]
 omega
theorem EB {hi lo:Int} (hh:0≤hi∧hi≤4294967295) (hl:0≤lo∧lo≤4294967295):eE .or .u64 (hi*4294967296) lo=hi*4294967296+lo:=by
 rw[yN ⟨by omega,by omega⟩ ⟨by omega,by omega⟩]
 have e:(hi*4294967296).toNat=2 ^ 32*hi.toNat:=by omega
 rw[e,←Nat.two_pow_add_eq_or_of_lt (i:=32) (b:=lo.toNat) (by omega)]
 omega
theorem vf {x:Int} (h:HM x):eE .and .u64 x 4294967295=x % 4294967296:=by
 rw[u']at h
 rw[HK ⟨by omega,by omega⟩ ⟨by omega,by omega⟩]
 have e:((4294967295:Int).toNat)=2 ^ 32 - 1:=rfl
 rw[e,Nat.and_two_pow_sub_one_eq_mod]
 omega
theorem Al {x:Int} (k:IntKind) (hk:32≤k.bits):fi k x 32=x / 4294967296:=by
 unfold fi
 rw[show min (32:Int).toNat k.bits=32 by simp; omega]
 exact Int.fdiv_eq_ediv_of_nonneg _ (by decide)
theorem Jg {x:Int} (k:IntKind) (hk:63≤k.bits):fi k x 63=x / 9223372036854775808:=by
 unfold fi
 rw[show min (63:Int).toNat k.bits=63 by simp; omega]
 exact Int.fdiv_eq_ediv_of_nonneg _ (by decide)
theorem R6 {x:Int} (k:IntKind) (hk:31≤k.bits):fi k x 31=x / 2147483648:=by
 unfold fi
 rw[show min (31:Int).toNat k.bits=31 by simp; omega]
 exact Int.fdiv_eq_ediv_of_nonneg _ (by decide)
theorem R7 {x:Int}:qb .u64 x 32=x*4294967296 % 18446744073709551616:=by
 unfold qb
 rw[show min (32:Int).toNat (IntKind.bits .u64)=32 by rfl]
 show wr .u64 _=_
 rw[oo]; rfl
end Go.UM
namespace Go.UM
open Go.AM
set_option maxRecDepth 4000
abbrev T3.I (t:T3):Prop:=gR t.a∧gR t.b∧gR t.c
def vg (x y:T3):T3:=⟨gy x.a y.a,gy x.b y.b,gy x.c y.c⟩
def sK (x y:T3):T3:=⟨rG x.a y.a,rG x.b y.b,rG x.c y.c⟩
def yQ:T3:=⟨4294967296,4294967296,4294967296⟩
def Mh (x y:T3):Int:=gy (gy (rG x.a y.a) (rG x.b y.b)) (rG x.c y.c)
def rH (x:Int):Int:=if x<0 then lV (-x)else x
def Jh (v:T3):Int:=max (max (rH v.a) (rH v.b)) (rH v.c)
def fe (x:Int):Int:=(x+2147483648) / 4294967296
def TM (p:T3):T3:=⟨lV (p.a*4294967296),lV (p.b*4294967296),lV (p.c*4294967296)⟩
theorem fH (x y:Int):gR (gy x y):=rF _
theorem vh (x y:Int):gR (rG x y):=rF _
theorem Am (x y:T3):(vg x y).I:=⟨fH _ _,fH _ _,fH _ _⟩
theorem An (x y:T3):(sK x y).I:=⟨vh _ _,vh _ _,vh _ _⟩
theorem yR (x y:T3):gR (Mh x y):=fH _ _
theorem Mi (p:T3):(TM p).I:=⟨rF _,rF _,rF _⟩
theorem wX {x:Int} (h:gR x):gy 0 x=x:=by unfold gy; rw[Int.zero_add,yO h]
theorem EC {x:Int} (h:gR x):rG 4294967296 x=x:=by unfold rG; rw[Int.mul_ediv_cancel_left _ (by decide),yO h]
theorem R8 {x:T3} (h:x.I):vg z3 x=x:=by simp only[vg,z3,wX h.1,wX h.2.1,wX h.2.2]
theorem R9 {x:T3} (h:x.I):sK yQ x=x:=by simp only[sK,yQ,EC h.1,EC h.2.1,EC h.2.2]
theorem Ji:z3.I:=⟨⟨by decide,by decide⟩,⟨by decide,by decide⟩,⟨by decide,by decide⟩⟩
theorem HP:yQ.I:=⟨⟨by decide,by decide⟩,⟨by decide,by decide⟩,⟨by decide,by decide⟩⟩
structure Af where
 (m0 m1 m2 m3 m4 m5 m6 m7 m8:Int)
 t:T3
def Af.row (a:Af):List AV:=[.int .i64 a.m0,.int .i64 a.m1,.int .i64 a.m2,.int .i64 a.m3,.int .i64 a.m4,.int .i64 a.m5,.int .i64 a.m6,.int .i64 a.m7,.int .i64 a.m8,.int .i64 a.t.a,.int .i64 a.t.b,.int .i64 a.t.c]
def Af.R' (a:Af):List AV:=[.int .i64 a.m0,.int .i64 a.m1,.int .i64 a.m2,.int .i64 a.m3,.int .i64 a.m4,.int .i64 a.m5,.int .i64 a.m6,.int .i64 a.m7,.int .i64 a.m8]
structure Af.I (a:Af):Prop where
 m0:gR a.m0
 m1:gR a.m1
 m2:gR a.m2
 m3:gR a.m3
 m4:gR a.m4
 m5:gR a.m5
 m6:gR a.m6
 m7:gR a.m7
 m8:gR a.m8
 t:a.t.I
def Af.rw (a:Af):Nat→T3
 |0=>⟨a.m0,a.m1,a.m2⟩|1=>⟨a.m3,a.m4,a.m5⟩|_=>⟨a.m6,a.m7,a.m8⟩
def Af.cl (a:Af):Nat→T3
 |0=>⟨a.m0,a.m3,a.m6⟩|1=>⟨a.m1,a.m4,a.m7⟩|_=>⟨a.m2,a.m5,a.m8⟩
theorem Af.I.rw {a:Af} (h:a.I) (i:Nat):(a.rw i).I:=by
 unfold Af.rw; split
 ·exact⟨h.m0,h.m1,h.m2⟩
 ·exact⟨h.m3,h.m4,h.m5⟩
 ·exact⟨h.m6,h.m7,h.m8⟩
theorem Af.I.cl {a:Af} (h:a.I) (i:Nat):(a.cl i).I:=by
 unfold Af.cl; split
 ·exact⟨h.m0,h.m3,h.m6⟩
 ·exact⟨h.m1,h.m4,h.m7⟩
 ·exact⟨h.m2,h.m5,h.m8⟩
def ED:Af:=⟨4294967296,0,0,0,4294967296,0,0,0,4294967296,z3⟩
def wY (a:Af) (v:T3):T3:=⟨Mh (a.rw 0) v,Mh (a.rw 1) v,Mh (a.rw 2) v⟩
def rI (a:Af) (v:T3):T3:=vg (wY a v) a.t
theorem HQ (a:Af) (v:T3):(wY a v).I:=⟨yR _ _,yR _ _,yR _ _⟩
theorem EE (a:Af) (v:T3):(rI a v).I:=Am _ _
theorem HR:ED.I:=by
 refine⟨?_,?_,?_,?_,?_,?_,?_,?_,?_,Ji⟩<;>exact⟨by decide,by decide⟩
def wZ (x:Int):Bool:=decide (1099511627776<x)||decide (x< -1099511627776)
def ms (a:Af):List Int:=[a.m0,a.m1,a.m2,a.m3,a.m4,a.m5,a.m6,a.m7,a.m8]
def yS (a:Af):Int:=if (ms a).any wZ=true then 2 else if 562949953421312<Jh a.t then 2 else 0
def HS (x:Int):Bool:=decide (65536<x)||decide (x< -65536)
def Sa (v:T3):T3:=⟨fe v.a,fe v.b,fe v.c⟩
def w5 (v:T3):T3 × Int:=if (HS (fe v.a)||HS (fe v.b)||HS (fe v.c))=true then (z3,8)else (Sa v,0)
def de (a:Af) (p:T3):T3 × Int:=if yS a≠0 then (z3,yS a)else w5 (rI a (TM p))
end Go.UM
namespace Go.UM
open Go.AM
set_option maxRecDepth 4000
def EF:Array Value→Sem Value:=fun args=>do
 let (x,y,b) ←Extern.MathBitsCarry.three "Sub64" args
 pure (Extern.MathBitsCarry.pair ((x+Extern.MathBitsCarry.m64 - y - b) % Extern.MathBitsCarry.m64) (if x<y+b then 1 else 0))
theorem B0 {P:Program} (x y b:Nat) (hb:b≤1) (w:World):(EF #[.int .u64 x,.int .u64 y,.int .u64 b]).run P w=
  .ok (.tuple #[.int .u64 (((x+18446744073709551616 - y - b) % 18446744073709551616:Nat):Int),.int .u64 ((if x<y+b then 1 else 0:Nat):Int)]) w:=by
 have:b=0∨b=1:=by omega
 rcases this with rfl|rfl<;>rfl
theorem B2 {fn:Func} (hn:fn.name= "math/bits.Sub64") (ho:fn.origin= ""):(fn.name== "runtime.NumGoroutine")=false∧Extern.findNext fn=none∧Extern.find fn=some EF:=by
 obtain⟨name,origin⟩:=fn
 simp only at hn ho
 subst hn; subst ho
 exact⟨by kernel_rfl,by kernel_rfl,by kernel_rfl⟩
theorem Ao {R:Env} (h:R.Xn 286 "math/bits.Sub64") {x y b:Int} (hx:aZ .u64 x) (hy:aZ .u64 y) (hb:0≤b∧b≤1):
  DB R.P (R.ft 286) [.int .u64 x,.int .u64 y,.int .u64 b] (.aU [.int .u64 ((x - y - b) % 18446744073709551616),.int .u64 (if x<y+b then 1 else 0)]):=by
 obtain⟨fn,hf,hn,ho,hbd⟩:=h.fn
 obtain⟨r1,r2,r3⟩:=B2 hn ho
 have hx:0≤x∧x≤18446744073709551615:=hx
 have hy:0≤y∧y≤18446744073709551615:=hy
 intro ρ L I N w vs hv
 obtain⟨hl,hr⟩:=hv
 obtain⟨v0,v1,v2,rfl⟩:∃v0 v1 v2,vs=[v0,v1,v2]:=by
  match vs,hl with
  |[a,b,c],_=>exact⟨a,b,c,rfl⟩
 have e0:aS ρ L I w N (.int .u64 x) v0:=hr 0 (by simp)
 have e1:aS ρ L I w N (.int .u64 y) v1:=hr 1 (by simp)
 have e2:aS ρ L I w N (.int .u64 b) v2:=hr 2 (by simp)
 cases e0; cases e1; cases e2
 obtain⟨X,rfl⟩:=Int.eq_ofNat_of_zero_le hx.1
 obtain⟨Y,rfl⟩:=Int.eq_ofNat_of_zero_le hy.1
 obtain⟨B,rfl⟩:=Int.eq_ofNat_of_zero_le hb.1
 refine⟨_,by rw[run_callFunc_extern hf r1 hbd r2 r3,show ([Value.int .u64 (X:Int),.int .u64 (Y:Int),.int .u64 (B:Int)].toArray)= #[Value.int .u64 (X:Int),.int .u64 (Y:Int),.int .u64 (B:Int)]from rfl,B0 X Y B (by omega)]; rfl,?_⟩
 have q1:((X:Int) - Y - B) % 18446744073709551616=(((X+18446744073709551616 - Y - B) % 18446744073709551616:Nat):Int):=by omega
 have q2:(if (X:Int)<Y+B then (1:Int)else 0)=((if X<Y+B then 1 else 0:Nat):Int):=by
  by_cases hc:X<Y+B
  ·rw[if_pos hc,if_pos (by omega)]; rfl
  ·rw[if_neg hc,if_neg (by omega)]; rfl
 rw[q1,q2]
 refine aS.aU _ _ rfl ?_
 intro j hj
 match j,hj with
 |0,_=>exact aS.int _ _
 |1,_=>exact aS.int _ _
end Go.UM
namespace Go.UM
open Go.AM
set_option maxRecDepth 4000
def yT (v:Int):List AV:=[.int .i64 (mz v),.int .u64 (yP v)]
def V5 (s:Bool) (P:Int):Int:=bif s then -P else P
theorem EG {R:Env} (h:KO R) {n:Int} (hn:gR n):R.Pc 275 [.int .i64 n] (.aU [.int .u64 (kn n),.bool (decide (n<0))]):=
 h.KQ.enter 60 rfl fun X bb hfit hp=>by
  rw[dR]at hn
  refine sh ?_
  refine cS (fun h1=> ?_) (fun h1=> ?_)
  ·refine sh ?_
   refine bX ?_
   refine sh ?_
   refine bX ?_
   refine sh ?_
   refine rT ?_
   all_goals repeat' (first|exact True.intro|refine And.intro ?_ ?_|(intro _u; clear _u)|(with_reducible first|exact aw.fg|refine eM ?_ ?_|refine eF ?_ ?_ ?_|refine eN ?_|refine eL ?_ ?_ ?_|refine eA ?_ ?_|refine az.mk ⟨_,hp,rfl⟩ ?_ ?_)|refine az.mk ⟨_,hp,rfl⟩ ?_ ?_)
   all_goals try first|with_reducible rfl|omega|exact .inl (by decide)|(simp; done)|rfl
   all_goals first|(rw[oo,oo,kn,if_pos h1]; omega)|(simp; omega)
  ·refine sh ?_
   refine rT ?_
   all_goals repeat' (first|exact True.intro|refine And.intro ?_ ?_|(intro _u; clear _u)|(with_reducible first|exact aw.fg|refine eM ?_ ?_|refine eF ?_ ?_ ?_|refine eN ?_|refine eL ?_ ?_ ?_|refine eA ?_ ?_|refine az.mk ⟨_,hp,rfl⟩ ?_ ?_)|refine az.mk ⟨_,hp,rfl⟩ ?_ ?_)
   all_goals try first|with_reducible rfl|omega|exact .inl (by decide)|(simp; done)|rfl
   all_goals first|(rw[kn,if_neg (by omega)])|(simp; omega)
theorem HT {x y:Int} (hx:HM x) (hy:HM y):wr .u64 (wr .u64 (wr .u64 (fi .u64 x 32*fi .u64 y 32)+fi .u64 (wr .u64 (wr .u64 (fi .u64 x 32*eE .and .u64 y 4294967295)+fi .u64 (wr .u64 (eE .and .u64 x 4294967295*eE .and .u64 y 4294967295)) 32)) 32)+
  fi .u64 (wr .u64 (eE .and .u64 (wr .u64 (wr .u64 (fi .u64 x 32*eE .and .u64 y 4294967295)+fi .u64 (wr .u64 (eE .and .u64 x 4294967295*eE .and .u64 y 4294967295)) 32)) 4294967295+wr .u64 (eE .and .u64 x 4294967295*fi .u64 y 32))) 32)=mz (x*y):=by
 have k:=fun v=>Al (x:=v) .u64 (by decide)
 simp only[k,vf hx,vf hy]
 rw[vf (rz .u64 _)]
 obtain⟨p1,p2,p3,p4,e⟩:=HO hx hy
 rw[e]
 simp only[oo,mz]
 generalize x % 4294967296* (y % 4294967296)=A at*
 generalize x / 4294967296* (y % 4294967296)=B at*
 generalize x % 4294967296* (y / 4294967296)=C at*
 generalize x / 4294967296* (y / 4294967296)=D at*
 omega
theorem HU {R:Env} (h:KF R) {x y:Int} (hx:HM x) (hy:HM y):R.Pc 276 [.int .u64 x,.int .u64 y] (.aU [.int .u64 (mz (x*y)),.int .u64 (yP (x*y))]):=
 h.PB.enter 60 rfl fun X bb hfit hp=>by
  refine sh ?_
  refine bX ?_
  refine sh ?_
  refine bX ?_
  refine sh ?_
  refine bX ?_
  refine sh ?_
  refine bX ?_
  refine sh ?_
  refine bX ?_
  refine sh ?_
  refine bX ?_
  refine sh ?_
  refine bX ?_
  refine sh ?_
  refine bX ?_
  refine sh ?_
  refine bX ?_
  refine sh ?_
  refine rT ?_
  all_goals repeat' (first|exact True.intro|refine And.intro ?_ ?_|(intro _u; clear _u)|(with_reducible first|exact aw.fg|refine eM ?_ ?_|refine eF ?_ ?_ ?_|refine eN ?_|refine eL ?_ ?_ ?_|refine eA ?_ ?_|refine az.mk ⟨_,hp,rfl⟩ ?_ ?_)|refine az.mk ⟨_,hp,rfl⟩ ?_ ?_)
  all_goals try first|with_reducible rfl|omega|exact .inl (by decide)|(simp; done)|rfl
  all_goals first|exact HT hx hy|(rw[oo]; rfl)
theorem EH {R:Env} (h:KR R) {P:Int} (hP:0≤P∧P≤85070591730234615865843651857942052864):R.Pc 283 [.int .u64 (mz P),.int .u64 (yP P)] (.aU [.int .u64 (mz (-P) % 18446744073709551616),.int .u64 (yP (-P))]):=
 h.P1.enter 60 rfl fun X bb hfit hp=>by
  refine sh ?_
  refine qG.mk ⟨_,Ao h.n286.PD (x:=0) (b:=0) ⟨by omega,by omega⟩ (ve P) ⟨by omega,by omega⟩,?_⟩
  refine sh ?_
  refine qG.mk ⟨_,Ao h.n286.PD (x:=0) ⟨by omega,by omega⟩ (y:=mz P) ⟨by unfold mz; omega,by unfold mz; omega⟩ ⟨by split<;>omega,by split<;>omega⟩,?_⟩
  refine sh ?_
  refine rT ?_
  all_goals repeat' (first|exact True.intro|refine And.intro ?_ ?_|(intro _u; clear _u)|(with_reducible first|exact aw.fg|refine eM ?_ ?_|refine eF ?_ ?_ ?_|refine eN ?_|refine eL ?_ ?_ ?_|refine eA ?_ ?_|refine az.mk ⟨_,hp,rfl⟩ ?_ ?_)|refine az.mk ⟨_,hp,rfl⟩ ?_ ?_)
  all_goals try first|with_reducible rfl|omega|exact .inl (by decide)|(simp; done)|rfl
  all_goals first|(unfold yP; omega)|(unfold mz yP; split<;>omega)
theorem B3 {R:Env} (h:KT R) {P:Int} (hP:0≤P∧P≤85070591730234615865843651857942052864) (s:Bool):R.Pc 277 [.int .u64 (mz P),.int .u64 (yP P),.bool s] (.aU [.agg (yT (V5 s P)),.bool true]):=
 h.P4.enter 60 rfl fun X bb hfit hp=>by
  have i1:=vd (v:=P) ⟨by omega,hP.2⟩
  have i2:=vd (v:= -P) ⟨by omega,by omega⟩
  cases s with
  |false=>
   have i3:0≤mz P:=by unfold mz; omega
   refine sh ?_
   refine aG (by (simp; omega)) ?_
   refine sh ?_
   exact rT
  |true=>
   refine sh ?_
   refine aq.pure h.n283.P1.hb (EH h.n283 hP) rfl ?_
   refine sh ?_
   refine Ek (m:=mz (-P)) (by rw[dN]; omega) ?_
   by_cases h0:P=0
   ·subst h0
    refine sh ?_
    refine aT (by (simp[mz])) ?_
    refine sh ?_
    refine rT ?_
    all_goals repeat' (first|exact True.intro|refine And.intro ?_ ?_|(intro _u; clear _u)|(with_reducible first|exact aw.fg|refine eM ?_ ?_|refine eF ?_ ?_ ?_|refine eN ?_|refine eL ?_ ?_ ?_|refine eA ?_ ?_|refine az.mk ⟨_,hp,rfl⟩ ?_ ?_)|refine az.mk ⟨_,hp,rfl⟩ ?_ ?_)
    all_goals try first|with_reducible rfl|omega|exact .inl (by decide)|(simp; done)|rfl
    all_goals first|rfl|decide
   ·refine sh ?_
    refine aG (by (simp; unfold mz; omega)) ?_
    refine sh ?_
    exact rT
end Go.UM
namespace Go.UM
open Go.AM
set_option maxRecDepth 4000
theorem HV (a b:Int):V5 (decide (a<0) != decide (b<0)) (kn a*kn b)=a*b:=by
 rw[Aj a b]; unfold V5
 cases (decide (a<0) != decide (b<0))<;>simp
theorem EI {a b:Int} (ha:gR a) (hb:gR b):0≤kn a*kn b∧kn a*kn b≤85070591730234615865843651857942052864:=by
 have:=gf (nk ha) (nk hb)
 omega
theorem Ap {a:Int} (ha:gR a):HM (kn a):=by have:=nk ha; rw[u']; omega
theorem Jj {R:Env} (h:Hd R) {a b:Int} (ha:gR a) (hb:gR b):R.Pc 264 [.int .i64 a,.int .i64 b] (.agg (yT (a*b))):=
 h.KU.enter 60 rfl fun X bb hfit hp=>by
  refine sh ?_
  refine aq.pure h.n275.KQ.hb (EG h.n275 ha) rfl ?_
  refine sh ?_
  refine aq.pure h.n275.KQ.hb (EG h.n275 hb) rfl ?_
  refine sh ?_
  refine aq.pure h.n276.PB.hb (HU h.n276 (Ap ha) (Ap hb)) rfl ?_
  have c:=B3 h.n277 (EI ha hb) (decide (a<0) != decide (b<0))
  rw[HV]at c
  refine sh ?_
  refine aq.pure h.n277.P4.hb c rfl ?_
  refine sh ?_
  exact rT
theorem Sb {R:Env} (h:He R) {v:Int} (hv:gR v):R.Pc 274 [.agg (yT v)] (.aU [.int .i64 v,.bool true]):=
 h.Hf.enter 60 rfl fun X bb hfit hp=>by
  rw[dR]at hv
  have h2:=ve v
  refine sh ?_
  refine Ek (m:=v) (by rw[dN]; unfold yP; omega) ?_
  refine sh ?_
  refine aT (by (rw[Jg .i64 (by decide)]; simp; unfold mz; omega)) ?_
  refine sh ?_
  exact rT
theorem Sd {R:Env} (h:He R) {v:Int} (hv:HN v) (hn:¬gR v):R.Pc 274 [.agg (yT v)] (.aU [.int .i64 0,.bool false]):=
 h.Hf.enter 60 rfl fun X bb hfit hp=>by
  have h1:=vd hv
  have h2:=ve v
  rw[dR]at hn
  refine sh ?_
  refine bX ?_
  refine sh ?_
  refine aG (by (rw[Jg .i64 (by decide),dN]; simp; unfold mz yP; omega)) ?_
  refine sh ?_
  exact rT
theorem EJ {R:Env} (h:Hg R) {v:Int} (hv:HN v):R.Pc 265 [.agg (yT v)] (.int .i64 (lV v)):=
 h.KW.enter 60 rfl fun X bb hfit hp=>by
  by_cases hi:gR v
  ·refine sh ?_
   refine aq.pure h.n274.Hf.hb (Sb h.n274 hi) rfl ?_
   refine sh ?_
   refine rT ?_
   all_goals repeat' (first|exact True.intro|refine And.intro ?_ ?_|(intro _u; clear _u)|(with_reducible first|exact aw.fg|refine eM ?_ ?_|refine eF ?_ ?_ ?_|refine eN ?_|refine eL ?_ ?_ ?_|refine eA ?_ ?_|refine az.mk ⟨_,hp,rfl⟩ ?_ ?_)|refine az.mk ⟨_,hp,rfl⟩ ?_ ?_)
   all_goals try first|with_reducible rfl|omega|exact .inl (by decide)|(simp; done)|rfl
   all_goals exact (yO hi).symm
  ·have hi2:=hi
   rw[dR]at hi2
   refine sh ?_
   refine aq.pure h.n274.Hf.hb (Sd h.n274 hv hi) rfl ?_
   refine sh ?_
   refine cS (fun h1=> ?_) (fun h1=> ?_)
   ·have h2:v<0:=by unfold mz at h1; omega
    refine sh ?_
    refine rT ?_
    all_goals repeat' (first|exact True.intro|refine And.intro ?_ ?_|(intro _u; clear _u)|(with_reducible first|exact aw.fg|refine eM ?_ ?_|refine eF ?_ ?_ ?_|refine eN ?_|refine eL ?_ ?_ ?_|refine eA ?_ ?_|refine az.mk ⟨_,hp,rfl⟩ ?_ ?_)|refine az.mk ⟨_,hp,rfl⟩ ?_ ?_)
    all_goals try first|with_reducible rfl|omega|exact .inl (by decide)|(simp; done)|rfl
    all_goals (unfold lV; rw[if_neg (by omega),if_pos (by omega)])
   ·have h2:0≤v:=by unfold mz at h1; omega
    refine sh ?_
    refine rT ?_
    all_goals repeat' (first|exact True.intro|refine And.intro ?_ ?_|(intro _u; clear _u)|(with_reducible first|exact aw.fg|refine eM ?_ ?_|refine eF ?_ ?_ ?_|refine eN ?_|refine eL ?_ ?_ ?_|refine eA ?_ ?_|refine az.mk ⟨_,hp,rfl⟩ ?_ ?_)|refine az.mk ⟨_,hp,rfl⟩ ?_ ?_)
    all_goals try first|with_reducible rfl|omega|exact .inl (by decide)|(simp; done)|rfl
    all_goals (unfold lV; rw[if_pos (by omega)])
theorem B4 {hi lo:Int} (hh:0≤hi∧hi≤4294967295) (hl:0≤lo∧lo≤4294967295):eE .or .u64 lo (hi*4294967296)=hi*4294967296+lo:=by
 rw[←EB hh hl,yN ⟨by omega,by omega⟩ ⟨by omega,by omega⟩,yN ⟨by omega,by omega⟩ ⟨by omega,by omega⟩,Nat.or_comm]
theorem Se {R:Env} (h:KV R) {v:Int} (hv:HN v):R.Pc 285 [.agg (yT v),.int .i64 32] (.agg (yT (v / 4294967296))):=
 h.P'.enter 60 rfl fun X bb hfit hp=>by
  have h1:=vd hv
  have h2:=ve v
  refine sh ?_
  refine aT (by decide) ?_
  refine sh ?_
  refine aT (by decide) ?_
  have e1:fi .i64 (mz v) (max 32 0)=mz (v / 4294967296):=by rw[show max (32:Int) 0=32 from rfl,Al .i64 (by decide)]; unfold mz; omega
  have e2:eE .or .u64 (fi .u64 (yP v) (max 32 0)) (qb .u64 (wr .u64 (mz v)) (64 - max 32 0))=yP (v / 4294967296):=by
   rw[show max (32:Int) 0=32 from rfl,Al .u64 (by decide)]
   have e:qb .u64 (wr .u64 (mz v)) (64 - 32)=(mz v % 4294967296)*4294967296:=by
    rw[show (64 - 32:Int)=32 from rfl,R7,oo]; omega
   rw[e,B4 (by omega) (by omega)]
   unfold mz yP; omega
  refine sh ?_
  refine bX ?_
  refine sh ?_
  refine rT ?_
  all_goals repeat' (first|exact True.intro|refine And.intro ?_ ?_|(intro _u; clear _u)|(with_reducible first|exact aw.fg|refine eM ?_ ?_|refine eF ?_ ?_ ?_|refine eN ?_|refine eL ?_ ?_ ?_|refine eA ?_ ?_|refine az.mk ⟨_,hp,rfl⟩ ?_ ?_)|refine az.mk ⟨_,hp,rfl⟩ ?_ ?_)
  all_goals try first|with_reducible rfl|omega|exact .inl (by decide)|(simp; done)|rfl
  all_goals first|exact e1|exact e2
def vi (s:Int) (l:List Int):Int:=l.foldl gy s
theorem EK {R:Env} (h:Hh R) (l:List Int) (hl:l.length≤1000) (hi:∀x ∈ l,gR x):R.Pc 267 [.aO 1 (aY .i64 l)] (.int .i64 (vi 0 l)):=
 h.KY.enter 100 rfl fun X bb hfit hp=>by
  refine sh ?_
  refine gZ 100 (fun s:Nat × Int=>s.1≤l.length∧gR s.2∧vi 0 (l.take s.1)=s.2) (fun s=>⟨[(3,.int .i64 s.2),(7,.aO 1 (aY .i64 l)),(8,.int .i64 l.length),(9,.int .i64 s.1)],[],0⟩) (fun s=>l.length - s.1) ((0,0)) ?_ ?_
  ·exact⟨Nat.zero_le _,⟨by decide,by decide⟩,rfl⟩
  ·rintro⟨k,s⟩ ⟨h1,h2,h3⟩
   dsimp only at h1 h2 h3 ⊢
   refine sh ?_
   refine cS (fun h4=> ?_) (fun h4=> ?_)
   ·obtain⟨x,hx⟩:∃u_,l[k]? =some u_:=⟨_,List.getElem?_eq_getElem (by first|omega|(simp<;>omega))⟩
    refine sh ?_
    refine ah hx ?_
    have ix:=hi x (List.mem_of_getElem? hx)
    have Mj:vi 0 (l.take (k+1))=gy s x:=by rw[aA hx,vi,List.foldl_append]; unfold vi at h3; rw[h3]; rfl
    rw[dR]at h2 ix
    refine sh ?_
    refine bX ?_
    refine sh ?_
    refine cS (fun a1=> ?_) (fun a1=> ?_)
    ·refine sh ?_
     refine cS (fun a2=> ?_) (fun a2=> ?_)
     ·refine sh ?_
      refine cS (fun a3=> ?_) (fun a3=> ?_)
      ·refine sh ?_
       refine nX ((k+1,gy s x)) ?_ ?_ ⟨_,hp,rfl⟩ ?_ ?_
       ·exact⟨by omega,fH s x,Mj⟩
       ·omega
       ·all_goals repeat' (first|exact True.intro|refine And.intro ?_ ?_|(intro _u; clear _u)|(with_reducible first|exact aw.fg|refine eM ?_ ?_|refine eF ?_ ?_ ?_|refine eN ?_|refine eL ?_ ?_ ?_|refine eA ?_ ?_|refine az.mk ⟨_,hp,rfl⟩ ?_ ?_)|refine az.mk ⟨_,hp,rfl⟩ ?_ ?_)
        all_goals try first|with_reducible rfl|omega|exact .inl (by decide)|(simp; done)|rfl
        all_goals (unfold gy lV; simp only[dN]at *; split<;>first|omega|(split<;>omega))
       ·all_goals repeat' (first|exact True.intro|refine And.intro ?_ ?_|(intro _u; clear _u)|(with_reducible first|exact aw.fg|refine eM ?_ ?_|refine eF ?_ ?_ ?_|refine eN ?_|refine eL ?_ ?_ ?_|refine eA ?_ ?_|refine az.mk ⟨_,hp,rfl⟩ ?_ ?_)|refine az.mk ⟨_,hp,rfl⟩ ?_ ?_)
        all_goals try first|with_reducible rfl|omega|exact .inl (by decide)|(simp; done)|rfl
      ·refine sh ?_
       refine aT (by (simp; omega)) ?_
       refine sh ?_
       refine nX ((k+1,gy s x)) ?_ ?_ ⟨_,hp,rfl⟩ ?_ ?_
       ·exact⟨by omega,fH s x,Mj⟩
       ·omega
       ·all_goals repeat' (first|exact True.intro|refine And.intro ?_ ?_|(intro _u; clear _u)|(with_reducible first|exact aw.fg|refine eM ?_ ?_|refine eF ?_ ?_ ?_|refine eN ?_|refine eL ?_ ?_ ?_|refine eA ?_ ?_|refine az.mk ⟨_,hp,rfl⟩ ?_ ?_)|refine az.mk ⟨_,hp,rfl⟩ ?_ ?_)
        all_goals try first|with_reducible rfl|omega|exact .inl (by decide)|(simp; done)|rfl
        all_goals (unfold gy lV; simp only[dN]at *; split<;>first|omega|(split<;>omega))
       ·all_goals repeat' (first|exact True.intro|refine And.intro ?_ ?_|(intro _u; clear _u)|(with_reducible first|exact aw.fg|refine eM ?_ ?_|refine eF ?_ ?_ ?_|refine eN ?_|refine eL ?_ ?_ ?_|refine eA ?_ ?_|refine az.mk ⟨_,hp,rfl⟩ ?_ ?_)|refine az.mk ⟨_,hp,rfl⟩ ?_ ?_)
        all_goals try first|with_reducible rfl|omega|exact .inl (by decide)|(simp; done)|rfl
     ·refine sh ?_
      refine aT (by (simp; omega)) ?_
      refine sh ?_
      refine nX ((k+1,gy s x)) ?_ ?_ ⟨_,hp,rfl⟩ ?_ ?_
      ·exact⟨by omega,fH s x,Mj⟩
      ·omega
      ·all_goals repeat' (first|exact True.intro|refine And.intro ?_ ?_|(intro _u; clear _u)|(with_reducible first|exact aw.fg|refine eM ?_ ?_|refine eF ?_ ?_ ?_|refine eN ?_|refine eL ?_ ?_ ?_|refine eA ?_ ?_|refine az.mk ⟨_,hp,rfl⟩ ?_ ?_)|refine az.mk ⟨_,hp,rfl⟩ ?_ ?_)
       all_goals try first|with_reducible rfl|omega|exact .inl (by decide)|(simp; done)|rfl
       all_goals (unfold gy lV; simp only[dN]at *; split<;>first|omega|(split<;>omega))
      ·all_goals repeat' (first|exact True.intro|refine And.intro ?_ ?_|(intro _u; clear _u)|(with_reducible first|exact aw.fg|refine eM ?_ ?_|refine eF ?_ ?_ ?_|refine eN ?_|refine eL ?_ ?_ ?_|refine eA ?_ ?_|refine az.mk ⟨_,hp,rfl⟩ ?_ ?_)|refine az.mk ⟨_,hp,rfl⟩ ?_ ?_)
       all_goals try first|with_reducible rfl|omega|exact .inl (by decide)|(simp; done)|rfl
    ·refine sh ?_
     refine cS (fun b1=> ?_) (fun b1=> ?_)
     ·refine sh ?_
      refine cS (fun b2=> ?_) (fun b2=> ?_)
      ·refine sh ?_
       refine cS (fun b3=> ?_) (fun b3=> ?_)
       ·refine sh ?_
        refine nX ((k+1,gy s x)) ?_ ?_ ⟨_,hp,rfl⟩ ?_ ?_
        ·exact⟨by omega,fH s x,Mj⟩
        ·omega
        ·all_goals repeat' (first|exact True.intro|refine And.intro ?_ ?_|(intro _u; clear _u)|(with_reducible first|exact aw.fg|refine eM ?_ ?_|refine eF ?_ ?_ ?_|refine eN ?_|refine eL ?_ ?_ ?_|refine eA ?_ ?_|refine az.mk ⟨_,hp,rfl⟩ ?_ ?_)|refine az.mk ⟨_,hp,rfl⟩ ?_ ?_)
         all_goals try first|with_reducible rfl|omega|exact .inl (by decide)|(simp; done)|rfl
         all_goals (unfold gy lV; simp only[dN]at *; split<;>first|omega|(split<;>omega))
        ·all_goals repeat' (first|exact True.intro|refine And.intro ?_ ?_|(intro _u; clear _u)|(with_reducible first|exact aw.fg|refine eM ?_ ?_|refine eF ?_ ?_ ?_|refine eN ?_|refine eL ?_ ?_ ?_|refine eA ?_ ?_|refine az.mk ⟨_,hp,rfl⟩ ?_ ?_)|refine az.mk ⟨_,hp,rfl⟩ ?_ ?_)
         all_goals try first|with_reducible rfl|omega|exact .inl (by decide)|(simp; done)|rfl
       ·refine sh ?_
        refine nX ((k+1,gy s x)) ?_ ?_ ⟨_,hp,rfl⟩ ?_ ?_
        ·exact⟨by omega,fH s x,Mj⟩
        ·omega
        ·all_goals repeat' (first|exact True.intro|refine And.intro ?_ ?_|(intro _u; clear _u)|(with_reducible first|exact aw.fg|refine eM ?_ ?_|refine eF ?_ ?_ ?_|refine eN ?_|refine eL ?_ ?_ ?_|refine eA ?_ ?_|refine az.mk ⟨_,hp,rfl⟩ ?_ ?_)|refine az.mk ⟨_,hp,rfl⟩ ?_ ?_)
         all_goals try first|with_reducible rfl|omega|exact .inl (by decide)|(simp; done)|rfl
         all_goals (unfold gy lV; simp only[dN]at *; split<;>first|omega|(split<;>omega))
        ·all_goals repeat' (first|exact True.intro|refine And.intro ?_ ?_|(intro _u; clear _u)|(with_reducible first|exact aw.fg|refine eM ?_ ?_|refine eF ?_ ?_ ?_|refine eN ?_|refine eL ?_ ?_ ?_|refine eA ?_ ?_|refine az.mk ⟨_,hp,rfl⟩ ?_ ?_)|refine az.mk ⟨_,hp,rfl⟩ ?_ ?_)
         all_goals try first|with_reducible rfl|omega|exact .inl (by decide)|(simp; done)|rfl
      ·refine sh ?_
       refine nX ((k+1,gy s x)) ?_ ?_ ⟨_,hp,rfl⟩ ?_ ?_
       ·exact⟨by omega,fH s x,Mj⟩
       ·omega
       ·all_goals repeat' (first|exact True.intro|refine And.intro ?_ ?_|(intro _u; clear _u)|(with_reducible first|exact aw.fg|refine eM ?_ ?_|refine eF ?_ ?_ ?_|refine eN ?_|refine eL ?_ ?_ ?_|refine eA ?_ ?_|refine az.mk ⟨_,hp,rfl⟩ ?_ ?_)|refine az.mk ⟨_,hp,rfl⟩ ?_ ?_)
        all_goals try first|with_reducible rfl|omega|exact .inl (by decide)|(simp; done)|rfl
        all_goals (unfold gy lV; simp only[dN]at *; split<;>first|omega|(split<;>omega))
       ·all_goals repeat' (first|exact True.intro|refine And.intro ?_ ?_|(intro _u; clear _u)|(with_reducible first|exact aw.fg|refine eM ?_ ?_|refine eF ?_ ?_ ?_|refine eN ?_|refine eL ?_ ?_ ?_|refine eA ?_ ?_|refine az.mk ⟨_,hp,rfl⟩ ?_ ?_)|refine az.mk ⟨_,hp,rfl⟩ ?_ ?_)
        all_goals try first|with_reducible rfl|omega|exact .inl (by decide)|(simp; done)|rfl
     ·refine sh ?_
      refine nX ((k+1,gy s x)) ?_ ?_ ⟨_,hp,rfl⟩ ?_ ?_
      ·exact⟨by omega,fH s x,Mj⟩
      ·omega
      ·all_goals repeat' (first|exact True.intro|refine And.intro ?_ ?_|(intro _u; clear _u)|(with_reducible first|exact aw.fg|refine eM ?_ ?_|refine eF ?_ ?_ ?_|refine eN ?_|refine eL ?_ ?_ ?_|refine eA ?_ ?_|refine az.mk ⟨_,hp,rfl⟩ ?_ ?_)|refine az.mk ⟨_,hp,rfl⟩ ?_ ?_)
       all_goals try first|with_reducible rfl|omega|exact .inl (by decide)|(simp; done)|rfl
       all_goals (unfold gy lV; simp only[dN]at *; split<;>first|omega|(split<;>omega))
      ·all_goals repeat' (first|exact True.intro|refine And.intro ?_ ?_|(intro _u; clear _u)|(with_reducible first|exact aw.fg|refine eM ?_ ?_|refine eF ?_ ?_ ?_|refine eN ?_|refine eL ?_ ?_ ?_|refine eA ?_ ?_|refine az.mk ⟨_,hp,rfl⟩ ?_ ?_)|refine az.mk ⟨_,hp,rfl⟩ ?_ ?_)
       all_goals try first|with_reducible rfl|omega|exact .inl (by decide)|(simp; done)|rfl
   ·rw[List.take_of_length_le (by omega)]at h3
    refine sh ?_
    refine rT ?_
    all_goals repeat' (first|exact True.intro|refine And.intro ?_ ?_|(intro _u; clear _u)|(with_reducible first|exact aw.fg|refine eM ?_ ?_|refine eF ?_ ?_ ?_|refine eN ?_|refine eL ?_ ?_ ?_|refine eA ?_ ?_|refine az.mk ⟨_,hp,rfl⟩ ?_ ?_)|refine az.mk ⟨_,hp,rfl⟩ ?_ ?_)
    all_goals try first|with_reducible rfl|omega|exact .inl (by decide)|(simp; done)|rfl
    all_goals exact h3.symm
theorem Mk {R:Env} (h:KX R) {a b:Int} (ha:gR a) (hb:gR b):R.Pc 284 [.aO 1 (aY .i64 [a,b])] (.int .i64 (rG a b)):=
 h.Qc.enter 100 rfl fun X bb hfit hp=>by
  have hP:=Ak ha hb
  refine sh ?_
  refine aN.one 100 ?_
  refine sh ?_
  refine aG (by simp) ?_
  refine sh ?_
  refine ah (show ([a,b]:List Int)[0]? =some a from rfl) ?_
  refine sh ?_
  refine aG (by decide) ?_
  refine sh ?_
  refine aN.one 100 ?_
  refine sh ?_
  refine aG (by simp) ?_
  refine sh ?_
  refine ah (show ([a,b]:List Int)[1]? =some b from rfl) ?_
  refine sh ?_
  refine aT (by decide) ?_
  refine sh ?_
  refine aq.pure h.n264.KU.hb (Jj h.n264 ha hb) rfl ?_
  refine sh ?_
  refine aq.pure h.n285.P'.hb (Se h.n285 hP) rfl ?_
  refine sh ?_
  refine aq.pure h.n265.KW.hb (EJ h.n265 (v:=a*b / 4294967296) (by omega)) rfl ?_
  refine sh ?_
  refine aN.one 100 ?_
  refine sh ?_
  refine aT (by simp) ?_
  refine sh ?_
  exact rT
def vj (a b:Int):Int:=lV (a - b)
theorem Mn {R:Env} (h:KZ R) {a b:Int} (ha:gR a) (hb:gR b):R.Pc 281 [.int .i64 a,.int .i64 b] (.int .i64 (vj a b)):=
 h.Qf.enter 100 rfl fun X bb hfit hp=>by
  rw[dR]at ha hb
  refine sh ?_
  refine bX ?_
  refine sh ?_
  refine cS (fun a1=> ?_) (fun a1=> ?_)
  ·refine sh ?_
   refine cS (fun a2=> ?_) (fun a2=> ?_)
   ·refine sh ?_
    refine cS (fun a3=> ?_) (fun a3=> ?_)
    ·refine sh ?_
     refine rT ?_
     all_goals repeat' (first|exact True.intro|refine And.intro ?_ ?_|(intro _u; clear _u)|(with_reducible first|exact aw.fg|refine eM ?_ ?_|refine eF ?_ ?_ ?_|refine eN ?_|refine eL ?_ ?_ ?_|refine eA ?_ ?_|refine az.mk ⟨_,hp,rfl⟩ ?_ ?_)|refine az.mk ⟨_,hp,rfl⟩ ?_ ?_)
     all_goals try first|with_reducible rfl|omega|exact .inl (by decide)|(simp; done)|rfl
     all_goals (unfold vj lV; simp only[dN]at *; split<;>first|omega|(split<;>omega))
    ·refine sh ?_
     refine aT (by (simp; omega)) ?_
     refine sh ?_
     refine rT ?_
     all_goals repeat' (first|exact True.intro|refine And.intro ?_ ?_|(intro _u; clear _u)|(with_reducible first|exact aw.fg|refine eM ?_ ?_|refine eF ?_ ?_ ?_|refine eN ?_|refine eL ?_ ?_ ?_|refine eA ?_ ?_|refine az.mk ⟨_,hp,rfl⟩ ?_ ?_)|refine az.mk ⟨_,hp,rfl⟩ ?_ ?_)
     all_goals try first|with_reducible rfl|omega|exact .inl (by decide)|(simp; done)|rfl
     all_goals (unfold vj lV; simp only[dN]at *; split<;>first|omega|(split<;>omega))
   ·refine sh ?_
    refine aT (by (simp; omega)) ?_
    refine sh ?_
    refine rT ?_
    all_goals repeat' (first|exact True.intro|refine And.intro ?_ ?_|(intro _u; clear _u)|(with_reducible first|exact aw.fg|refine eM ?_ ?_|refine eF ?_ ?_ ?_|refine eN ?_|refine eL ?_ ?_ ?_|refine eA ?_ ?_|refine az.mk ⟨_,hp,rfl⟩ ?_ ?_)|refine az.mk ⟨_,hp,rfl⟩ ?_ ?_)
    all_goals try first|with_reducible rfl|omega|exact .inl (by decide)|(simp; done)|rfl
    all_goals (unfold vj lV; simp only[dN]at *; split<;>first|omega|(split<;>omega))
  ·refine sh ?_
   refine cS (fun b1=> ?_) (fun b1=> ?_)
   ·refine sh ?_
    refine cS (fun b2=> ?_) (fun b2=> ?_)
    ·refine sh ?_
     refine cS (fun b3=> ?_) (fun b3=> ?_)
     ·refine sh ?_
      refine rT ?_
      all_goals repeat' (first|exact True.intro|refine And.intro ?_ ?_|(intro _u; clear _u)|(with_reducible first|exact aw.fg|refine eM ?_ ?_|refine eF ?_ ?_ ?_|refine eN ?_|refine eL ?_ ?_ ?_|refine eA ?_ ?_|refine az.mk ⟨_,hp,rfl⟩ ?_ ?_)|refine az.mk ⟨_,hp,rfl⟩ ?_ ?_)
      all_goals try first|with_reducible rfl|omega|exact .inl (by decide)|(simp; done)|rfl
      all_goals (unfold vj lV; simp only[dN]at *; split<;>first|omega|(split<;>omega))
     ·refine sh ?_
      refine rT ?_
      all_goals repeat' (first|exact True.intro|refine And.intro ?_ ?_|(intro _u; clear _u)|(with_reducible first|exact aw.fg|refine eM ?_ ?_|refine eF ?_ ?_ ?_|refine eN ?_|refine eL ?_ ?_ ?_|refine eA ?_ ?_|refine az.mk ⟨_,hp,rfl⟩ ?_ ?_)|refine az.mk ⟨_,hp,rfl⟩ ?_ ?_)
      all_goals try first|with_reducible rfl|omega|exact .inl (by decide)|(simp; done)|rfl
      all_goals (unfold vj lV; simp only[dN]at *; split<;>first|omega|(split<;>omega))
    ·refine sh ?_
     refine rT ?_
     all_goals repeat' (first|exact True.intro|refine And.intro ?_ ?_|(intro _u; clear _u)|(with_reducible first|exact aw.fg|refine eM ?_ ?_|refine eF ?_ ?_ ?_|refine eN ?_|refine eL ?_ ?_ ?_|refine eA ?_ ?_|refine az.mk ⟨_,hp,rfl⟩ ?_ ?_)|refine az.mk ⟨_,hp,rfl⟩ ?_ ?_)
     all_goals try first|with_reducible rfl|omega|exact .inl (by decide)|(simp; done)|rfl
     all_goals (unfold vj lV; simp only[dN]at *; split<;>first|omega|(split<;>omega))
   ·refine sh ?_
    refine rT ?_
    all_goals repeat' (first|exact True.intro|refine And.intro ?_ ?_|(intro _u; clear _u)|(with_reducible first|exact aw.fg|refine eM ?_ ?_|refine eF ?_ ?_ ?_|refine eN ?_|refine eL ?_ ?_ ?_|refine eA ?_ ?_|refine az.mk ⟨_,hp,rfl⟩ ?_ ?_)|refine az.mk ⟨_,hp,rfl⟩ ?_ ?_)
    all_goals try first|with_reducible rfl|omega|exact .inl (by decide)|(simp; done)|rfl
    all_goals (unfold vj lV; simp only[dN]at *; split<;>first|omega|(split<;>omega))
theorem Mo {R:Env} (h:K0 R) {a:Int} (ha:gR a):R.Pc 270 [.int .i64 a] (.int .i64 (lV (-a))):=
 h.Qh.enter 100 rfl fun X bb hfit hp=>by
  refine sh ?_
  refine aq.pure h.n281.Qf.hb (Mn h.n281 (a:=0) ⟨by decide,by decide⟩ ha) rfl ?_
  refine sh ?_
  refine rT ?_
  all_goals repeat' (first|exact True.intro|refine And.intro ?_ ?_|(intro _u; clear _u)|(with_reducible first|exact aw.fg|refine eM ?_ ?_|refine eF ?_ ?_ ?_|refine eN ?_|refine eL ?_ ?_ ?_|refine eA ?_ ?_|refine az.mk ⟨_,hp,rfl⟩ ?_ ?_)|refine az.mk ⟨_,hp,rfl⟩ ?_ ?_)
  all_goals try first|with_reducible rfl|omega|exact .inl (by decide)|(simp; done)|rfl
  all_goals (unfold vj; rw[Int.zero_sub])
theorem gI {R:Env} (h:Hi R) {a:Int} (ha:gR a):R.Pc 255 [.int .i64 a] (.int .i64 (rH a)):=
 h.om.enter 100 rfl fun X bb hfit hp=>by
  refine sh ?_
  refine aq.pure h.n270.Qh.hb (Mo h.n270 ha) rfl ?_
  rw[dR]at ha
  refine sh ?_
  refine rT ?_
  all_goals repeat' (first|exact True.intro|refine And.intro ?_ ?_|(intro _u; clear _u)|(with_reducible first|exact aw.fg|refine eM ?_ ?_|refine eF ?_ ?_ ?_|refine eN ?_|refine eL ?_ ?_ ?_|refine eA ?_ ?_|refine az.mk ⟨_,hp,rfl⟩ ?_ ?_)|refine az.mk ⟨_,hp,rfl⟩ ?_ ?_)
  all_goals try first|with_reducible rfl|omega|exact .inl (by decide)|(simp; done)|rfl
  all_goals (unfold rH lV; split<;>split<;>first|omega|(split<;>omega))
theorem EL {R:Env} (h:K2 R) {n:Int} (hn:gR n):R.Pc 248 [.int .i64 n] (.int .i64 (lV (n*4294967296))):=
 h.Hk.enter 100 rfl fun X bb hfit hp=>by
  have h1:gR 4294967296:=⟨by decide,by decide⟩
  refine sh ?_
  refine aq.pure h.n264.KU.hb (Jj h.n264 hn h1) rfl ?_
  refine sh ?_
  refine aq.pure h.n265.KW.hb (EJ h.n265 (Ak hn h1)) rfl ?_
  refine sh ?_
  exact rT
theorem HW {x:Int} (h:gR x):eE .and .i64 x 1=x % 2:=by
 show wr .i64 (((BitVec.ofInt 64 x&&& BitVec.ofInt 64 1:BitVec 64).toNat:Nat):Int)=_
 rw[dR]at h
 have e:(BitVec.ofInt 64 x&&& BitVec.ofInt 64 1:BitVec 64).toNat=(x % 2).toNat:=by
  rw[BitVec.toNat_and,BitVec.toNat_ofInt,BitVec.toNat_ofInt]
  have:((1:Int) % ((2 ^ 64:Nat):Int)).toNat=2 ^ 1 - 1:=rfl
  rw[this,Nat.and_two_pow_sub_one_eq_mod]
  omega
 rw[e,dN]; omega
theorem rJ {R:Env} (h:K1 R) {x:Int} (hx:gR x):R.Pc 260 [.int .i64 x] (.int .i64 (fe x)):=
 h.Hj.enter 100 rfl fun X bb hfit hp=>by
  have hx2:=hx
  rw[dR]at hx2
  have e1:eE .and .i64 (fi .i64 x 31) 1=x / 2147483648 % 2:=by
   rw[R6 .i64 (by decide),HW (by rw[dR]; omega)]
  refine sh ?_
  rw[e1,Al .i64 (by decide)]
  refine u5 (by simp only[aZ]; omega) ?_
  refine sh ?_
  refine rT ?_
  all_goals repeat' (first|exact True.intro|refine And.intro ?_ ?_|(intro _u; clear _u)|(with_reducible first|exact aw.fg|refine eM ?_ ?_|refine eF ?_ ?_ ?_|refine eN ?_|refine eL ?_ ?_ ?_|refine eA ?_ ?_|refine az.mk ⟨_,hp,rfl⟩ ?_ ?_)|refine az.mk ⟨_,hp,rfl⟩ ?_ ?_)
  all_goals try first|with_reducible rfl|omega|exact .inl (by decide)|(simp; done)|rfl
  all_goals (unfold fe; omega)
end Go.UM
namespace Go.UM
open Go.AM
set_option maxRecDepth 4000
theorem yU {R:Env} (h:Hp R) {a b:Int} (ha:gR a) (hb:gR b):R.Pc 263 [.int .i64 a,.int .i64 b] (.int .i64 (gy a b)):=
 h.Hq.enter 60 rfl fun X bb hfit hp=>by
  have c:=EK h.n267 [a,b] (by simp) (by intro x hx; simp at hx; rcases hx with rfl|rfl<;>assumption)
  rw[show vi 0 [a,b]=gy a b by unfold vi; simp[wX ha]]at c
  refine sh ?_
  refine aq.GX rfl h.n267.KY.hb c ?_ rfl ?_
  ·all_goals repeat' (first|exact True.intro|refine And.intro ?_ ?_|(intro _u; clear _u)|(with_reducible first|exact aw.fg|refine eM ?_ ?_|refine eF ?_ ?_ ?_|refine eN ?_|refine eL ?_ ?_ ?_|refine eA ?_ ?_|refine az.mk ⟨_,hp,rfl⟩ ?_ ?_)|refine az.mk ⟨_,hp,rfl⟩ ?_ ?_)
   all_goals try first|with_reducible rfl|omega|exact .inl (by decide)|(simp; done)|rfl
  refine sh ?_
  exact rT
theorem yV {R:Env} (h:Hm R) {a b:Int} (ha:gR a) (hb:gR b):R.Pc 278 [.int .i64 a,.int .i64 b] (.int .i64 (rG a b)):=
 h.Hn.enter 60 rfl fun X bb hfit hp=>by
  refine sh ?_
  refine aq.GX rfl h.n284.Qc.hb (Mk h.n284 ha hb) ?_ rfl ?_
  ·all_goals repeat' (first|exact True.intro|refine And.intro ?_ ?_|(intro _u; clear _u)|(with_reducible first|exact aw.fg|refine eM ?_ ?_|refine eF ?_ ?_ ?_|refine eN ?_|refine eL ?_ ?_ ?_|refine eA ?_ ?_|refine az.mk ⟨_,hp,rfl⟩ ?_ ?_)|refine az.mk ⟨_,hp,rfl⟩ ?_ ?_)
   all_goals try first|with_reducible rfl|omega|exact .inl (by decide)|(simp; done)|rfl
  refine sh ?_
  exact rT
theorem EM {R:Env} (h:Ex R) (hf:Hp R) {a b:T3} (ha:a.I) (hb:b.I):R.Pc 262 [.agg (t3 a),.agg (t3 b),.bW (.fn (R.ft 263)) []] (.agg (t3 (vg a b))):=
 h.Hl.enter 60 rfl fun X bb hfit hp=>by
  refine sh ?_
  refine aq.pure hf.Hq.hb (yU hf ha.1 hb.1) rfl ?_
  refine sh ?_
  refine aq.pure hf.Hq.hb (yU hf ha.2.1 hb.2.1) rfl ?_
  refine sh ?_
  refine aq.pure hf.Hq.hb (yU hf ha.2.2 hb.2.2) rfl ?_
  refine sh ?_
  exact rT
theorem EN {R:Env} (h:Ex R) (hf:Hm R) {a b:T3} (ha:a.I) (hb:b.I):R.Pc 262 [.agg (t3 a),.agg (t3 b),.bW (.fn (R.ft 278)) []] (.agg (t3 (sK a b))):=
 h.Hl.enter 60 rfl fun X bb hfit hp=>by
  refine sh ?_
  refine aq.pure hf.Hn.hb (yV hf ha.1 hb.1) rfl ?_
  refine sh ?_
  refine aq.pure hf.Hn.hb (yV hf ha.2.1 hb.2.1) rfl ?_
  refine sh ?_
  refine aq.pure hf.Hn.hb (yV hf ha.2.2 hb.2.2) rfl ?_
  refine sh ?_
  exact rT
theorem Mp {R:Env} (h:K5 R) (l:List T3) (hl:l.length≤1000) (hi:∀x ∈ l,x.I):R.Pc 246 [.aO 3 (bF l)] (.agg (t3 (l.foldl vg z3))):=
 h.Qs.enter 100 rfl fun X bb hfit hp=>by
  refine sh ?_
  refine gZ 100 (fun s:Nat × T3=>s.1≤l.length∧s.2.I∧(l.take s.1).foldl vg z3=s.2) (fun s=>⟨[(2,.loc 0 1 0 0),(3,.loc 1 1 0 0),(6,.aO 3 (bF l)),(7,.int .i64 l.length),(8,.int .i64 s.1)],[(1,.var (R.ty 31) (t3 s.2)),(0,.var (R.ty 31) [.int .i64 0,.int .i64 0,.int .i64 0])],2⟩) (fun s=>l.length - s.1) ((0,z3)) ?_ ?_
  ·exact⟨Nat.zero_le _,Ji,rfl⟩
  ·rintro⟨k,s⟩ ⟨h1,h2,h3⟩
   dsimp only at h1 h2 h3 ⊢
   refine sh ?_
   refine cS (fun h4=> ?_) (fun h4=> ?_)
   ·obtain⟨x,hx⟩:∃u_,l[k]? =some u_:=⟨_,List.getElem?_eq_getElem (by first|omega|(simp<;>omega))⟩
    refine sh ?_
    refine ah hx ?_
    have ix:=hi x (List.mem_of_getElem? hx)
    refine sh ?_
    refine aq.pure h.n262.Hl.hb (EM h.n262 h.n263 h2 ix) rfl ?_
    refine sh ?_
    refine r8 ((k+1,vg s x)) ?_ ?_
    ·exact⟨by omega,Am s x,by rw[aA hx,List.foldl_append,h3]; rfl⟩
    ·omega
   ·rw[List.take_of_length_le (by omega)]at h3
    rw[h3]
    refine sh ?_
    exact rT
theorem EO {R:Env} (h:K3 R) (l:List T3) (hl:l.length≤1000) (hi:∀x ∈ l,x.I):R.Pc 266 [.aO 3 (bF l)] (.agg (t3 (l.foldl sK yQ))):=
 h.Qo.enter 100 rfl fun X bb hfit hp=>by
  refine sh ?_
  refine gZ 100 (fun s:Nat × T3=>s.1≤l.length∧s.2.I∧(l.take s.1).foldl sK yQ=s.2) (fun s=>⟨[(2,.loc 0 1 0 0),(3,.loc 1 1 0 0),(7,.aO 3 (bF l)),(8,.int .i64 l.length),(9,.int .i64 s.1)],[(1,.var (R.ty 31) (t3 s.2)),(0,.var (R.ty 31) [.int .i64 0,.int .i64 0,.int .i64 0])],2⟩) (fun s=>l.length - s.1) ((0,yQ)) ?_ ?_
  ·exact⟨Nat.zero_le _,HP,rfl⟩
  ·rintro⟨k,s⟩ ⟨h1,h2,h3⟩
   dsimp only at h1 h2 h3 ⊢
   refine sh ?_
   refine cS (fun h4=> ?_) (fun h4=> ?_)
   ·obtain⟨x,hx⟩:∃u_,l[k]? =some u_:=⟨_,List.getElem?_eq_getElem (by first|omega|(simp<;>omega))⟩
    refine sh ?_
    refine ah hx ?_
    have ix:=hi x (List.mem_of_getElem? hx)
    refine sh ?_
    refine aq.pure h.n262.Hl.hb (EN h.n262 h.n278 h2 ix) rfl ?_
    refine sh ?_
    refine r8 ((k+1,sK s x)) ?_ ?_
    ·exact⟨by omega,An s x,by rw[aA hx,List.foldl_append,h3]; rfl⟩
    ·omega
   ·rw[List.take_of_length_le (by omega)]at h3
    rw[h3]
    refine sh ?_
    exact rT
theorem EP {R:Env} (h:K4 R) {a b:T3} (ha:a.I) (hb:b.I):R.Pc 252 [.agg (t3 a),.agg (t3 b)] (.int .i64 (Mh a b)):=
 h.Ho.enter 100 rfl fun X bb hfit hp=>by
  have c1:=EO h.n266 [a,b] (by simp) (by intro x hx; simp at hx; rcases hx with rfl|rfl<;>assumption)
  rw[show [a,b].foldl sK yQ=sK a b by simp[R9 ha]]at c1
  refine sh ?_
  refine aq.GX rfl h.n266.Qo.hb c1 ?_ rfl ?_
  ·all_goals repeat' (first|exact True.intro|refine And.intro ?_ ?_|(intro _u; clear _u)|(with_reducible first|exact aw.fg|refine eM ?_ ?_|refine eF ?_ ?_ ?_|refine eN ?_|refine eL ?_ ?_ ?_|refine eA ?_ ?_|refine az.mk ⟨_,hp,rfl⟩ ?_ ?_)|refine az.mk ⟨_,hp,rfl⟩ ?_ ?_)
   all_goals try first|with_reducible rfl|omega|exact .inl (by decide)|(simp; done)|rfl
  have i1:=An a b
  generalize hv:sK a b=v at*
  have c2:=EK h.n267 [v.a,v.b,v.c] (by simp) (by intro x hx; simp at hx; rcases hx with rfl|rfl|rfl; exact i1.1; exact i1.2.1; exact i1.2.2)
  rw[show vi 0 [v.a,v.b,v.c]=Mh a b by unfold vi Mh; simp only[List.foldl_cons,List.foldl_nil]; rw[wX i1.1,←hv]; rfl]at c2
  refine sh ?_
  refine aq.GX rfl h.n267.KY.hb c2 ?_ rfl ?_
  ·all_goals repeat' (first|exact True.intro|refine And.intro ?_ ?_|(intro _u; clear _u)|(with_reducible first|exact aw.fg|refine eM ?_ ?_|refine eF ?_ ?_ ?_|refine eN ?_|refine eL ?_ ?_ ?_|refine eA ?_ ?_|refine az.mk ⟨_,hp,rfl⟩ ?_ ?_)|refine az.mk ⟨_,hp,rfl⟩ ?_ ?_)
   all_goals try first|with_reducible rfl|omega|exact .inl (by decide)|(simp; done)|rfl
  refine sh ?_
  exact rT
theorem Mq {R:Env} (h:K7 R) {p:T3} (El:p.I):R.Pc 249 [.agg (t3 p)] (.agg (t3 (TM p))):=
 h.Qw.enter 100 rfl fun X bb hfit hp=>by
  refine sh ?_
  refine aq.pure h.n248.Hk.hb (EL h.n248 El.1) rfl ?_
  refine sh ?_
  refine aq.pure h.n248.Hk.hb (EL h.n248 El.2.1) rfl ?_
  refine sh ?_
  refine aq.pure h.n248.Hk.hb (EL h.n248 El.2.2) rfl ?_
  refine sh ?_
  exact rT
theorem HX {R:Env} (h:K6 R) {p:T3} (El:p.I):R.Pc 256 [.agg (t3 p)] (.int .i64 (Jh p)):=
 h.Qu.enter 100 rfl fun X bb hfit hp=>by
  refine sh ?_
  refine aq.pure h.n255.om.hb (gI h.n255 El.1) rfl ?_
  refine sh ?_
  refine aq.pure h.n255.om.hb (gI h.n255 El.2.1) rfl ?_
  refine sh ?_
  refine aq.pure h.n255.om.hb (gI h.n255 El.2.2) rfl ?_
  refine sh ?_
  exact rT
end Go.UM
namespace Go.UM
open Go.AM
set_option maxRecDepth 4000
@[simp] theorem Zp (x:T3):AV.aD (t3 x)=[]:=by simp[t3]
@[simp] theorem Zq (x:T3):AV.iC (t3 x)=true:=by simp[t3]
@[simp] theorem Zr (a:Af):AV.aD a.row=[]:=by simp[Af.row]
@[simp] theorem Zs (a:Af):AV.iC a.row=true:=by simp[Af.row]
theorem HY {R:Env} (h:K8 R):R.Pc 221 [] (.agg ED.row):=
 h.Qy.enter 60 rfl fun X bb hfit hp=>by
  refine sh ?_
  exact rT
theorem yW {R:Env} (h:K9 R) (a:Af) (i:Nat) (hi:i<3):R.Pc 251 [.agg a.R',.int .i64 i] (.agg (t3 (a.rw i))):=by
 match i,hi with
 |0,_=>
  exact h.BV.enter 60 rfl fun X bb hfit hp=>by
   refine sh ?_
   exact rT
 |1,_=>
  exact h.BV.enter 60 rfl fun X bb hfit hp=>by
   refine sh ?_
   exact rT
 |2,_=>
  exact h.BV.enter 60 rfl fun X bb hfit hp=>by
   refine sh ?_
   exact rT
theorem HZ {R:Env} (h:La R) {a:Af} {v:T3} (ha:a.I) (hv:v.I):R.Pc 231 [.agg a.row,.agg (t3 v)] (.agg (t3 (wY a v))):=
 h.QB.enter 60 rfl fun X bb hfit hp=>by
  refine sh ?_
  refine aq.pure h.n251.BV.hb (yW h.n251 a 0 (by omega)) rfl ?_
  refine sh ?_
  refine aq.pure h.n252.Ho.hb (EP h.n252 (ha.rw 0) hv) rfl ?_
  refine sh ?_
  refine aq.pure h.n251.BV.hb (yW h.n251 a 1 (by omega)) rfl ?_
  refine sh ?_
  refine aq.pure h.n252.Ho.hb (EP h.n252 (ha.rw 1) hv) rfl ?_
  refine sh ?_
  refine aq.pure h.n251.BV.hb (yW h.n251 a 2 (by omega)) rfl ?_
  refine sh ?_
  refine aq.pure h.n252.Ho.hb (EP h.n252 (ha.rw 2) hv) rfl ?_
  refine sh ?_
  exact rT
theorem EQ {R:Env} (h:Lb R) {a:Af} {v:T3} (ha:a.I) (hv:v.I):R.Pc 233 [.agg a.row,.agg (t3 v)] (.agg (t3 (rI a v))):=
 h.QD.enter 60 rfl fun X bb hfit hp=>by
  refine sh ?_
  refine aq.pure h.n231.QB.hb (HZ h.n231 ha hv) rfl ?_
  have i1:=HQ a v
  have c1:=Mp h.n246 [wY a v,a.t] (by simp) (by intro x hx; simp at hx; rcases hx with rfl|rfl; exact i1; exact ha.t)
  rw[show [wY a v,a.t].foldl vg z3=rI a v by simp[R8 i1,rI]]at c1
  refine sh ?_
  refine cM true [] (c1.mc h.n246.Qs.hb) ?_
  repeat (intro _; first|refine eK ?_|refine eP ?_)
  refine sh ?_
  exact rT
theorem da {x:Int} (hx:gR x):wZ x=decide (1099511627776<rH x):=by
 rw[dR]at hx
 unfold wZ rH lV
 rw[Bool.eq_iff_iff]
 simp only[Bool.or_eq_true,decide_eq_true_eq]
 repeat' split
 all_goals omega
theorem fI {a:Af} {x:Int} (hx:x ∈ ms a) (h:wZ x=true):yS a=2:=by
 unfold yS
 rw[if_pos (List.any_eq_true.2 ⟨x,hx,h⟩)]
theorem ER {R:Env} (h:Lc R) {a:Af} (ha:a.I):R.Pc 235 [.agg a.row] (.int .i64 (yS a)):=
 h.QF.enter 100 rfl fun X bb hfit hp=>by
  refine sh ?_
  refine aN.one 100 ?_
  refine sh ?_
  refine aG (by decide) ?_
  refine sh ?_
  refine aq.pure h.n255.om.hb (gI h.n255 ha.m0) rfl ?_
  refine sh ?_
  refine cS (fun o0=> ?_) (fun o0=> ?_)
  ·rw[fI (x:=a.m0) (by simp[ms]) (by rw[da ha.m0]; simpa using o0)]
   refine sh ?_
   exact rT
  ·skip
   refine sh ?_
   refine aN.one 100 ?_
   refine sh ?_
   refine aG (by decide) ?_
   refine sh ?_
   refine aq.pure h.n255.om.hb (gI h.n255 ha.m1) rfl ?_
   refine sh ?_
   refine cS (fun o1=> ?_) (fun o1=> ?_)
   ·rw[fI (x:=a.m1) (by simp[ms]) (by rw[da ha.m1]; simpa using o1)]
    refine sh ?_
    exact rT
   ·skip
    refine sh ?_
    refine aN.one 100 ?_
    refine sh ?_
    refine aG (by decide) ?_
    refine sh ?_
    refine aq.pure h.n255.om.hb (gI h.n255 ha.m2) rfl ?_
    refine sh ?_
    refine cS (fun o2=> ?_) (fun o2=> ?_)
    ·rw[fI (x:=a.m2) (by simp[ms]) (by rw[da ha.m2]; simpa using o2)]
     refine sh ?_
     exact rT
    ·skip
     refine sh ?_
     refine aN.one 100 ?_
     refine sh ?_
     refine aG (by decide) ?_
     refine sh ?_
     refine aq.pure h.n255.om.hb (gI h.n255 ha.m3) rfl ?_
     refine sh ?_
     refine cS (fun o3=> ?_) (fun o3=> ?_)
     ·rw[fI (x:=a.m3) (by simp[ms]) (by rw[da ha.m3]; simpa using o3)]
      refine sh ?_
      exact rT
     ·skip
      refine sh ?_
      refine aN.one 100 ?_
      refine sh ?_
      refine aG (by decide) ?_
      refine sh ?_
      refine aq.pure h.n255.om.hb (gI h.n255 ha.m4) rfl ?_
      refine sh ?_
      refine cS (fun o4=> ?_) (fun o4=> ?_)
      ·rw[fI (x:=a.m4) (by simp[ms]) (by rw[da ha.m4]; simpa using o4)]
       refine sh ?_
       exact rT
      ·skip
       refine sh ?_
       refine aN.one 100 ?_
       refine sh ?_
       refine aG (by decide) ?_
       refine sh ?_
       refine aq.pure h.n255.om.hb (gI h.n255 ha.m5) rfl ?_
       refine sh ?_
       refine cS (fun o5=> ?_) (fun o5=> ?_)
       ·rw[fI (x:=a.m5) (by simp[ms]) (by rw[da ha.m5]; simpa using o5)]
        refine sh ?_
        exact rT
       ·skip
        refine sh ?_
        refine aN.one 100 ?_
        refine sh ?_
        refine aG (by decide) ?_
        refine sh ?_
        refine aq.pure h.n255.om.hb (gI h.n255 ha.m6) rfl ?_
        refine sh ?_
        refine cS (fun o6=> ?_) (fun o6=> ?_)
        ·rw[fI (x:=a.m6) (by simp[ms]) (by rw[da ha.m6]; simpa using o6)]
         refine sh ?_
         exact rT
        ·skip
         refine sh ?_
         refine aN.one 100 ?_
         refine sh ?_
         refine aG (by decide) ?_
         refine sh ?_
         refine aq.pure h.n255.om.hb (gI h.n255 ha.m7) rfl ?_
         refine sh ?_
         refine cS (fun o7=> ?_) (fun o7=> ?_)
         ·rw[fI (x:=a.m7) (by simp[ms]) (by rw[da ha.m7]; simpa using o7)]
          refine sh ?_
          exact rT
         ·skip
          refine sh ?_
          refine aN.one 100 ?_
          refine sh ?_
          refine aG (by decide) ?_
          refine sh ?_
          refine aq.pure h.n255.om.hb (gI h.n255 ha.m8) rfl ?_
          refine sh ?_
          refine cS (fun o8=> ?_) (fun o8=> ?_)
          ·rw[fI (x:=a.m8) (by simp[ms]) (by rw[da ha.m8]; simpa using o8)]
           refine sh ?_
           exact rT
          ·skip
           refine sh ?_
           refine aN.one 100 ?_
           refine sh ?_
           refine aT (by decide) ?_
           have hno:(ms a).any wZ=false:=by
            simp only[ms,List.any_cons,List.any_nil,(da ha.m0).trans (decide_eq_false (by omega)),(da ha.m1).trans (decide_eq_false (by omega)),(da ha.m2).trans (decide_eq_false (by omega)),(da ha.m3).trans (decide_eq_false (by omega)),(da ha.m4).trans (decide_eq_false (by omega)),(da ha.m5).trans (decide_eq_false (by omega)),(da ha.m6).trans (decide_eq_false (by omega)),(da ha.m7).trans (decide_eq_false (by omega)),(da ha.m8).trans (decide_eq_false (by omega))]
            rfl
           unfold yS
           rw[if_neg (by rw[hno]; simp)]
           refine sh ?_
           refine aq.pure h.n256.Qu.hb (HX h.n256 ha.t) rfl ?_
           refine sh ?_
           refine cS (fun w=> ?_) (fun w=> ?_)
           ·rw[if_pos (by omega)]
            refine sh ?_
            exact rT
           ·rw[if_neg (by omega)]
            refine sh ?_
            exact rT
theorem H0 {R:Env} (h:Ld R) {v:T3} (hv:v.I):R.Pc 243 [.agg (t3 v)] (.aU [.agg (t3 (w5 v).1),.int .i64 (w5 v).2]):=
 h.QH.enter 100 rfl fun X bb hfit hp=>by
  refine sh ?_
  refine aq.pure h.n260.Hj.hb (rJ h.n260 hv.1) rfl ?_
  refine sh ?_
  refine aq.pure h.n260.Hj.hb (rJ h.n260 hv.2.1) rfl ?_
  refine sh ?_
  refine aq.pure h.n260.Hj.hb (rJ h.n260 hv.2.2) rfl ?_
  generalize hq:w5 v=q
  unfold w5 Sa at hq
  generalize fe v.a=x at*
  generalize fe v.b=y at*
  generalize fe v.c=z at*
  unfold HS at hq
  refine sh ?_
  refine cS (fun h1=> ?_) (fun h1=> ?_)
  ·rw[if_pos (by simp; omega)]at hq
   subst hq
   refine sh ?_
   exact rT
  ·refine sh ?_
   refine cS (fun h2=> ?_) (fun h2=> ?_)
   ·rw[if_pos (by simp; omega)]at hq
    subst hq
    refine sh ?_
    exact rT
   ·rw[if_neg (by simp; omega)]at hq
    subst hq
    refine sh ?_
    exact rT
theorem eB {R:Env} (h:Hr R) {a:Af} {p:T3} (ha:a.I) (El:p.I):R.Pc 241 [.agg a.row,.agg (t3 p)] (.aU [.agg (t3 (de a p).1),.int .i64 (de a p).2]):=
 h.rD.enter 100 rfl fun X bb hfit hp=>by
  refine sh ?_
  refine aq.pure h.n235.QF.hb (ER h.n235 ha) rfl ?_
  generalize hq:de a p=q
  unfold de at hq
  by_cases hc:yS a=0
  ·rw[if_neg (by simpa using hc)]at hq
   refine sh ?_
   refine aT (by simpa using hc) ?_
   refine sh ?_
   refine aq.pure h.n249.Qw.hb (Mq h.n249 El) rfl ?_
   refine sh ?_
   refine aq.pure h.n233.QD.hb (EQ h.n233 ha (Mi p)) rfl ?_
   refine sh ?_
   refine aq.pure h.n243.QH.hb (H0 h.n243 (EE a (TM p))) rfl ?_
   subst hq
   refine sh ?_
   exact rT
  ·rw[if_pos (by simpa using hc)]at hq
   refine sh ?_
   refine aG (by simpa using hc) ?_
   subst hq
   refine sh ?_
   exact rT
end Go.UM
namespace Go.UM
open Go.AM
set_option maxRecDepth 4000
end Go.UM
namespace Go.UM
open Go.AM
set_option maxRecDepth 4000
structure Gr where
 par:Int
 t:Af
 cC:Int
 fJ:Int
 dS:Int
def Gr.row (g:Gr):List AV:=[.int .i64 g.par,.int .i64 g.t.m0,.int .i64 g.t.m1,.int .i64 g.t.m2,.int .i64 g.t.m3,.int .i64 g.t.m4,.int .i64 g.t.m5,.int .i64 g.t.m6,.int .i64 g.t.m7,.int .i64 g.t.m8,.int .i64 g.t.t.a,.int .i64 g.t.t.b,.int .i64 g.t.t.c,.int .i64 g.cC,.int .i64 g.fJ,.int .i64 g.dS]
end Go.UM
namespace Go.UM
open Go.AM
set_option maxRecDepth 4000
end Go.UM
namespace Go.UM
open Go.AM
set_option maxRecDepth 4000
end Go.UM
namespace Go.UM
open Go.AM
set_option maxRecDepth 4000
end Go.UM
namespace Go.UM
open Go.AM
set_option maxRecDepth 4000
def z4:Af:=⟨0,0,0,0,0,0,0,0,0,z3⟩
end Go.UM
namespace Go.UM
open Go.AM
set_option maxRecDepth 4000
structure In where
 cC:Int
 fJ:Int
 dS:Int
 n:Int
 t:Af
def In.row (x:In):List AV:=[.int .i64 x.cC,.int .i64 x.fJ,.int .i64 x.dS,.int .i64 x.n,.int .i64 x.t.m0,.int .i64 x.t.m1,.int .i64 x.t.m2,.int .i64 x.t.m3,.int .i64 x.t.m4,.int .i64 x.t.m5,.int .i64 x.t.m6,.int .i64 x.t.m7,.int .i64 x.t.m8,.int .i64 x.t.t.a,.int .i64 x.t.t.b,.int .i64 x.t.t.c]
def ki (l:List In):List (List AV):=l.map In.row
@[simp] theorem yX (l:List In):(ki l).length=l.length:=by simp[ki]
@[simp] theorem yY (a b:List In):ki (a++b)=ki a++ki b:=by simp[ki]
@[simp] theorem TN (l:List In):lR (ki l):=by simp[ki,In.row]
@[simp] theorem TO (l:List In):wR (ki l):=by simp[ki,In.row]
instance {l:List In}:iF (ki l) l.length:=⟨yX l⟩
def V6 (g:Gr) (k:T3):Bool:=(g.cC==k.a)&&((g.fJ==k.b)&&((g.dS==k.c)&&true))
def V7 (l:List Gr) (k:T3):Nat:=l.countP fun g=>V6 g k
def R' (l:List Gr) (k:T3):List AV:=[.int .i64 k.a,.int .i64 k.b,.int .i64 k.c,.int .i64 (V7 l k)]
end Go.UM
namespace Go.UM
open Go.AM
set_option maxRecDepth 4000
theorem V8 {kc:List AV} {es:List (List AV)} {K:AV→Prop} {c:AV} (g:∀r ∈ es,iL r=true) (e:AQ (cg kc es)=c) (k:K c):YM kc es K:=⟨g,by rw[e]; exact k⟩
end Go.UM
namespace Go.UM
open Go.AM
set_option maxRecDepth 4000
end Go.UM
namespace Go.UM
open Go.AM
set_option maxRecDepth 4000
def p2 (x:Int × Int):List AV:=[.int .i64 x.1,.int .i64 x.2]
def cW (l:List (Int × Int)):List (List AV):=l.map p2
@[simp] theorem Sf:cW []=[]:=rfl
@[simp] theorem w6 (l:List (Int × Int)):(cW l).length=l.length:=by simp[cW]
@[simp] theorem Jk (a b:List (Int × Int)):cW (a++b)=cW a++cW b:=by simp[cW]
@[simp] theorem Sg (l:List (Int × Int)):lR (cW l):=by simp[cW,p2]
@[simp] theorem Sh (l:List (Int × Int)):wR (cW l):=by simp[cW,p2]
theorem B5 (l:List (Int × Int)) (k:Nat):(cW l).take k=cW (l.take k):=by simp[cW,List.map_take]
instance {l:List (Int × Int)}:iF (cW l) l.length:=⟨w6 l⟩
instance {l:List (Int × Int)} {k:Nat}:kQ ((cW l).take k) (cW (l.take k)):=⟨B5 l k⟩
structure Ms where
 v:List T3
 uv:List (Int × Int)
 t:List T3
def Ms.row (m:Ms):List AV:=[.aO 3 (bF m.v),.aO 2 (cW m.uv),.aO 3 (bF m.t)]
def lB (p:T3):Bool:= !(decide (-4096≤p.a∧p.a≤4096∧ -4096≤p.b∧p.b≤4096∧ -4096≤p.c∧p.c≤4096))
def B6 (x:Int × Int):Bool:= !(decide (0≤x.1∧x.1≤65535∧0≤x.2∧x.2≤65535))
def B7 (n:Nat) (t:T3):Bool:= !(decide (0≤t.a∧t.a<n∧0≤t.b∧t.b<n∧0≤t.c∧t.c<n∧t.a≠t.b∧t.b≠t.c∧t.c≠t.a))
def oq (m:Ms):Int:=
 if 64<m.v.length∨64<m.t.length then 3
 else if m.v.length=0∨m.t.length=0∨m.uv.length≠m.v.length then 5
 else if m.v.any lB=true then 8
 else if m.uv.any B6=true∨m.t.any (B7 m.v.length)=true then 5 else 0
def nq {α:Type} (l:List α) (p:α→Bool):Int:=if l.any p=true then (l.findIdx p:Int)else -1
theorem nu {α:Type} {p:α→Bool} {x:α}:∀ {l:List α} {i:Nat},l[i]? =some x→p x=true→(l.take i).any p=false→l.findIdx p=i
 |[],_,h,_,_=>by simp at h
 |a::r,0,h,hp,_=>by simp at h; subst h; simp[List.findIdx_cons,hp]
 |a::r,i+1,h,hp,hn=>by
  simp only[List.take_succ_cons,List.any_cons,Bool.or_eq_false_iff]at hn
  rw[List.findIdx_cons,hn.1,nu (l:=r) (i:=i) (by simpa using h) hp hn.2]
  rfl
theorem vk {α:Type} {p:α→Bool} {l:List α} {i:Nat} {x:α} (h:l[i]? =some x) (hp:p x=true):l.any p=true:=List.any_eq_true.2 ⟨x,List.mem_of_getElem? h,hp⟩
theorem fK {α:Type} {l:List α} {k:Nat} {x:α} {p:α→Bool} (h:l[k]? =some x):(l.take (k+1)).any p=((l.take k).any p||p x):=by
 rw[aA h]; simp
theorem pZ {α:Type} {l:List α} {p:α→Bool}:decide (nq l p≥0)=l.any p:=by
 unfold nq
 split
 ·rename_i h; rw[h]; simp
 ·rename_i h; simp at h ⊢; exact h
theorem ES {R:Env} (h:Kz R) (g:Nat) (hb:cx R.P (R.ft g)) (l:List T3) (p:T3→Bool) (hc:∀x ∈ l,R.Pc g [.agg (t3 x)] (.bool (p x))) (hl:l.length≤1073741824):R.Pc 217 [.aO 3 (bF l),R.cl g []] (.int .i64 (nq l p)):=
 h.Pq.enter 100 rfl fun X bb hfit hp=>by
  refine sh ?_
  refine gZ 100 (fun i:Nat=>i≤l.length∧(l.take i).any p=false) (fun i=>⟨[(0,.aO 3 (bF l)),(1,R.cl g []),(7,.int .i64 l.length),(8,.int .i64 i)],[],0⟩) (fun i=>l.length - i) (0) ?_ ?_
  ·exact⟨Nat.zero_le _,by simp⟩
  ·intro i hi
   dsimp only
   refine sh ?_
   refine cS (fun h1=> ?_) (fun h1=> ?_)
   ·obtain⟨x,hx⟩:∃u_,l[i]? =some u_:=⟨_,List.getElem?_eq_getElem (by first|omega|(simp<;>omega))⟩
    refine sh ?_
    refine ah hx ?_
    refine sh ?_
    refine aq.pure hb (hc x (List.mem_of_getElem? hx)) rfl ?_
    refine sh ?_
    refine cS (fun h2=> ?_) (fun h2=> ?_)
    ·refine sh ?_
     refine rT ?_
     all_goals repeat' (first|exact True.intro|refine And.intro ?_ ?_|(intro _u; clear _u)|(with_reducible first|exact aw.fg|refine eM ?_ ?_|refine eF ?_ ?_ ?_|refine eN ?_|refine eL ?_ ?_ ?_|refine eA ?_ ?_|refine az.mk ⟨_,hp,rfl⟩ ?_ ?_)|refine az.mk ⟨_,hp,rfl⟩ ?_ ?_)
     all_goals try first|with_reducible rfl|omega|exact .inl (by decide)|(simp; done)|rfl
     unfold nq
     rw[if_pos (vk hx h2),nu hx h2 hi.2]
    ·refine sh ?_
     refine r8 (i+1) ?_ ?_
     ·refine⟨by omega,?_⟩
      rw[fK hx,hi.2,h2]; rfl
     ·omega
   ·refine sh ?_
    refine rT ?_
    all_goals repeat' (first|exact True.intro|refine And.intro ?_ ?_|(intro _u; clear _u)|(with_reducible first|exact aw.fg|refine eM ?_ ?_|refine eF ?_ ?_ ?_|refine eN ?_|refine eL ?_ ?_ ?_|refine eA ?_ ?_|refine az.mk ⟨_,hp,rfl⟩ ?_ ?_)|refine az.mk ⟨_,hp,rfl⟩ ?_ ?_)
    all_goals try first|with_reducible rfl|omega|exact .inl (by decide)|(simp; done)|rfl
    unfold nq
    have h3:=hi.2
    rw[List.take_of_length_le (by omega)]at h3
    rw[if_neg (by simp[h3])]
theorem B8 {R:Env} (h:KA R) (g:Nat) (hb:cx R.P (R.ft g)) (l:List T3) (p:T3→Bool) (hc:∀x ∈ l,R.Pc g [.agg (t3 x)] (.bool (p x))) (hl:l.length≤1073741824):R.Pc 209 [.aO 3 (bF l),R.cl g []] (.bool (l.any p)):=
 h.Ps.enter 100 rfl fun X bb hfit hp=>by
  refine sh ?_
  refine aq.pure h.n217.Pq.hb (ES h.n217 g hb l p hc hl) rfl ?_
  refine sh ?_
  refine rT ?_
  all_goals repeat' (first|exact True.intro|refine And.intro ?_ ?_|(intro _u; clear _u)|(with_reducible first|exact aw.fg|refine eM ?_ ?_|refine eF ?_ ?_ ?_|refine eN ?_|refine eL ?_ ?_ ?_|refine eA ?_ ?_|refine az.mk ⟨_,hp,rfl⟩ ?_ ?_)|refine az.mk ⟨_,hp,rfl⟩ ?_ ?_)
  all_goals try first|with_reducible rfl|omega|exact .inl (by decide)|(simp; done)|rfl
  exact pZ
theorem ET {R:Env} (h:KB R) (g:Nat) (hb:cx R.P (R.ft g)) (l:List (Int × Int)) (p:Int × Int→Bool) (hc:∀x ∈ l,R.Pc g [.agg (p2 x)] (.bool (p x))) (hl:l.length≤1073741824):R.Pc 218 [.aO 2 (cW l),R.cl g []] (.int .i64 (nq l p)):=
 h.Pu.enter 100 rfl fun X bb hfit hp=>by
  refine sh ?_
  refine gZ 100 (fun i:Nat=>i≤l.length∧(l.take i).any p=false) (fun i=>⟨[(0,.aO 2 (cW l)),(1,R.cl g []),(7,.int .i64 l.length),(8,.int .i64 i)],[],0⟩) (fun i=>l.length - i) (0) ?_ ?_
  ·exact⟨Nat.zero_le _,by simp⟩
  ·intro i hi
   dsimp only
   refine sh ?_
   refine cS (fun h1=> ?_) (fun h1=> ?_)
   ·obtain⟨x,hx⟩:∃u_,l[i]? =some u_:=⟨_,List.getElem?_eq_getElem (by first|omega|(simp<;>omega))⟩
    refine sh ?_
    refine ah hx ?_
    refine sh ?_
    refine aq.pure hb (hc x (List.mem_of_getElem? hx)) rfl ?_
    refine sh ?_
    refine cS (fun h2=> ?_) (fun h2=> ?_)
    ·refine sh ?_
     refine rT ?_
     all_goals repeat' (first|exact True.intro|refine And.intro ?_ ?_|(intro _u; clear _u)|(with_reducible first|exact aw.fg|refine eM ?_ ?_|refine eF ?_ ?_ ?_|refine eN ?_|refine eL ?_ ?_ ?_|refine eA ?_ ?_|refine az.mk ⟨_,hp,rfl⟩ ?_ ?_)|refine az.mk ⟨_,hp,rfl⟩ ?_ ?_)
     all_goals try first|with_reducible rfl|omega|exact .inl (by decide)|(simp; done)|rfl
     unfold nq
     rw[if_pos (vk hx h2),nu hx h2 hi.2]
    ·refine sh ?_
     refine r8 (i+1) ?_ ?_
     ·refine⟨by omega,?_⟩
      rw[fK hx,hi.2,h2]; rfl
     ·omega
   ·refine sh ?_
    refine rT ?_
    all_goals repeat' (first|exact True.intro|refine And.intro ?_ ?_|(intro _u; clear _u)|(with_reducible first|exact aw.fg|refine eM ?_ ?_|refine eF ?_ ?_ ?_|refine eN ?_|refine eL ?_ ?_ ?_|refine eA ?_ ?_|refine az.mk ⟨_,hp,rfl⟩ ?_ ?_)|refine az.mk ⟨_,hp,rfl⟩ ?_ ?_)
    all_goals try first|with_reducible rfl|omega|exact .inl (by decide)|(simp; done)|rfl
    unfold nq
    have h3:=hi.2
    rw[List.take_of_length_le (by omega)]at h3
    rw[if_neg (by simp[h3])]
theorem B9 {R:Env} (h:KC R) (g:Nat) (hb:cx R.P (R.ft g)) (l:List (Int × Int)) (p:Int × Int→Bool) (hc:∀x ∈ l,R.Pc g [.agg (p2 x)] (.bool (p x))) (hl:l.length≤1073741824):R.Pc 210 [.aO 2 (cW l),R.cl g []] (.bool (l.any p)):=
 h.Pw.enter 100 rfl fun X bb hfit hp=>by
  refine sh ?_
  refine aq.pure h.n218.Pu.hb (ET h.n218 g hb l p hc hl) rfl ?_
  refine sh ?_
  refine rT ?_
  all_goals repeat' (first|exact True.intro|refine And.intro ?_ ?_|(intro _u; clear _u)|(with_reducible first|exact aw.fg|refine eM ?_ ?_|refine eF ?_ ?_ ?_|refine eN ?_|refine eL ?_ ?_ ?_|refine eA ?_ ?_|refine az.mk ⟨_,hp,rfl⟩ ?_ ?_)|refine az.mk ⟨_,hp,rfl⟩ ?_ ?_)
  all_goals try first|with_reducible rfl|omega|exact .inl (by decide)|(simp; done)|rfl
  exact pZ
def EU (R:Env) (m:Ms):aj:=[(0,.var (R.ty 25) m.row)]
theorem EV {R:Env} (h:KD R) (g:Nat) (l:List T3) (p:T3→Bool) (m:Ms) (hc:∀x ∈ l,R.Mc g [.agg (t3 x),.loc 0 1 0 0] (EU R m) (.bool (p x)) (EU R m) 1) (hl:l.length≤1073741824):
  R.Mc 219 [.aO 3 (bF l),R.cl g [.loc 0 1 0 0]] (EU R m) (.int .i64 (nq l p)) (EU R m) 1:=
 h.Vv.cr 100 1 rfl rfl rfl fun X bb hfit hp=>by
  refine sh ?_
  refine gZ 100 (fun i:Nat=>i≤l.length∧(l.take i).any p=false) (fun i=>⟨[(0,.aO 3 (bF l)),(1,R.cl g [.loc 0 1 0 0]),(7,.int .i64 l.length),(8,.int .i64 i)],EU R m,1⟩) (fun i=>l.length - i) (0) ?_ ?_
  ·exact⟨Nat.zero_le _,by simp⟩
  ·intro i hi
   dsimp only
   refine sh ?_
   refine cS (fun h1=> ?_) (fun h1=> ?_)
   ·obtain⟨x,hx⟩:∃u_,l[i]? =some u_:=⟨_,List.getElem?_eq_getElem (by first|omega|(simp<;>omega))⟩
    refine sh ?_
    refine ah hx ?_
    refine sh ?_
    refine cM false [0] (hc x (List.mem_of_getElem? hx)) ?_
    repeat (intro _; first|refine eK ?_|refine eP ?_)
    refine sh ?_
    refine cS (fun h2=> ?_) (fun h2=> ?_)
    ·refine sh ?_
     refine rM [0] ?_
     all_goals repeat' (first|exact True.intro|refine And.intro ?_ ?_|(intro _u; clear _u)|(with_reducible first|exact aw.fg|refine eM ?_ ?_|refine eF ?_ ?_ ?_|refine eN ?_|refine eL ?_ ?_ ?_|refine eA ?_ ?_|refine az.mk ⟨_,hp,rfl⟩ ?_ ?_)|refine az.mk ⟨_,hp,rfl⟩ ?_ ?_)
     all_goals try first|with_reducible rfl|omega|exact .inl (by decide)|(simp; done)|rfl
     unfold nq
     rw[if_pos (vk hx h2),nu hx h2 hi.2]
    ·refine sh ?_
     refine r8 (i+1) ?_ ?_
     ·refine⟨by omega,?_⟩
      rw[fK hx,hi.2,h2]; rfl
     ·omega
   ·refine sh ?_
    refine rM [0] ?_
    all_goals repeat' (first|exact True.intro|refine And.intro ?_ ?_|(intro _u; clear _u)|(with_reducible first|exact aw.fg|refine eM ?_ ?_|refine eF ?_ ?_ ?_|refine eN ?_|refine eL ?_ ?_ ?_|refine eA ?_ ?_|refine az.mk ⟨_,hp,rfl⟩ ?_ ?_)|refine az.mk ⟨_,hp,rfl⟩ ?_ ?_)
    all_goals try first|with_reducible rfl|omega|exact .inl (by decide)|(simp; done)|rfl
    unfold nq
    have h3:=hi.2
    rw[List.take_of_length_le (by omega)]at h3
    rw[if_neg (by simp[h3])]
theorem B' {R:Env} (h:KE R) (g:Nat) (l:List T3) (p:T3→Bool) (m:Ms) (hc:∀x ∈ l,R.Mc g [.agg (t3 x),.loc 0 1 0 0] (EU R m) (.bool (p x)) (EU R m) 1) (hl:l.length≤1073741824):
  R.Mc 211 [.aO 3 (bF l),R.cl g [.loc 0 1 0 0]] (EU R m) (.bool (l.any p)) (EU R m) 1:=
 h.Vx.cr 100 1 rfl rfl rfl fun X bb hfit hp=>by
  refine sh ?_
  refine cM false [0] (EV h.n219 g l p m hc hl) ?_
  repeat (intro _; first|refine eK ?_|refine eP ?_)
  refine sh ?_
  refine rM [0] ?_
  all_goals repeat' (first|exact True.intro|refine And.intro ?_ ?_|(intro _u; clear _u)|(with_reducible first|exact aw.fg|refine eM ?_ ?_|refine eF ?_ ?_ ?_|refine eN ?_|refine eL ?_ ?_ ?_|refine eA ?_ ?_|refine az.mk ⟨_,hp,rfl⟩ ?_ ?_)|refine az.mk ⟨_,hp,rfl⟩ ?_ ?_)
  all_goals try first|with_reducible rfl|omega|exact .inl (by decide)|(simp; done)|rfl
  exact pZ
theorem Si {R:Env} (h:Lg R) (p:T3):R.Pc 206 [.agg (t3 p)] (.bool (lB p)):=
 h.QK.enter 60 rfl fun X bb hfit hp=>by
  unfold lB
  refine sh ?_
  refine cS (fun h1=> ?_) (fun h1=> ?_)
  ·refine sh ?_
   refine rT ?_
   all_goals repeat' (first|exact True.intro|refine And.intro ?_ ?_|(intro _u; clear _u)|(with_reducible first|exact aw.fg|refine eM ?_ ?_|refine eF ?_ ?_ ?_|refine eN ?_|refine eL ?_ ?_ ?_|refine eA ?_ ?_|refine az.mk ⟨_,hp,rfl⟩ ?_ ?_)|refine az.mk ⟨_,hp,rfl⟩ ?_ ?_)
   all_goals try first|with_reducible rfl|omega|exact .inl (by decide)|(simp; done)|rfl
   simp; omega
  ·refine sh ?_
   refine rT ?_
   all_goals repeat' (first|exact True.intro|refine And.intro ?_ ?_|(intro _u; clear _u)|(with_reducible first|exact aw.fg|refine eM ?_ ?_|refine eF ?_ ?_ ?_|refine eN ?_|refine eL ?_ ?_ ?_|refine eA ?_ ?_|refine az.mk ⟨_,hp,rfl⟩ ?_ ?_)|refine az.mk ⟨_,hp,rfl⟩ ?_ ?_)
   all_goals try first|with_reducible rfl|omega|exact .inl (by decide)|(simp; done)|rfl
   rw[Bool.eq_iff_iff]; simp only[Bool.not_eq_true',decide_eq_true_eq,decide_eq_false_iff_not]; omega
theorem Mr {R:Env} (h:Lh R) (p:Int × Int):R.Pc 207 [.agg (p2 p)] (.bool (B6 p)):=
 h.QM.enter 60 rfl fun X bb hfit hp=>by
  unfold B6
  refine sh ?_
  refine cS (fun h1=> ?_) (fun h1=> ?_)
  ·refine sh ?_
   refine rT ?_
   all_goals repeat' (first|exact True.intro|refine And.intro ?_ ?_|(intro _u; clear _u)|(with_reducible first|exact aw.fg|refine eM ?_ ?_|refine eF ?_ ?_ ?_|refine eN ?_|refine eL ?_ ?_ ?_|refine eA ?_ ?_|refine az.mk ⟨_,hp,rfl⟩ ?_ ?_)|refine az.mk ⟨_,hp,rfl⟩ ?_ ?_)
   all_goals try first|with_reducible rfl|omega|exact .inl (by decide)|(simp; done)|rfl
   simp; omega
  ·refine sh ?_
   refine rT ?_
   all_goals repeat' (first|exact True.intro|refine And.intro ?_ ?_|(intro _u; clear _u)|(with_reducible first|exact aw.fg|refine eM ?_ ?_|refine eF ?_ ?_ ?_|refine eN ?_|refine eL ?_ ?_ ?_|refine eA ?_ ?_|refine az.mk ⟨_,hp,rfl⟩ ?_ ?_)|refine az.mk ⟨_,hp,rfl⟩ ?_ ?_)
   all_goals try first|with_reducible rfl|omega|exact .inl (by decide)|(simp; done)|rfl
   rw[Bool.eq_iff_iff]; simp only[Bool.not_eq_true',decide_eq_true_eq,decide_eq_false_iff_not]; omega
theorem Sj {R:Env} (h:Li R) (m:Ms) (p:T3):R.Mc 208 [.agg (t3 p),.loc 0 1 0 0] (EU R m) (.bool (B7 m.v.length p)) (EU R m) 1:=
 h.VF.cr 60 1 rfl rfl rfl fun X bb hfit hp=>by
  unfold B7
  refine sh ?_
  refine cS (fun h1=> ?_) (fun h1=> ?_)
  ·refine sh ?_
   refine rM [0] ?_
   all_goals repeat' (first|exact True.intro|refine And.intro ?_ ?_|(intro _u; clear _u)|(with_reducible first|exact aw.fg|refine eM ?_ ?_|refine eF ?_ ?_ ?_|refine eN ?_|refine eL ?_ ?_ ?_|refine eA ?_ ?_|refine az.mk ⟨_,hp,rfl⟩ ?_ ?_)|refine az.mk ⟨_,hp,rfl⟩ ?_ ?_)
   all_goals try first|with_reducible rfl|omega|exact .inl (by decide)|(simp; done)|rfl
   simp; omega
  ·refine sh ?_
   refine cS (fun h2=> ?_) (fun h2=> ?_)
   ·refine sh ?_
    refine rM [0] ?_
    all_goals repeat' (first|exact True.intro|refine And.intro ?_ ?_|(intro _u; clear _u)|(with_reducible first|exact aw.fg|refine eM ?_ ?_|refine eF ?_ ?_ ?_|refine eN ?_|refine eL ?_ ?_ ?_|refine eA ?_ ?_|refine az.mk ⟨_,hp,rfl⟩ ?_ ?_)|refine az.mk ⟨_,hp,rfl⟩ ?_ ?_)
    all_goals try first|with_reducible rfl|omega|exact .inl (by decide)|(simp; done)|rfl
    simp; omega
   ·refine sh ?_
    refine cS (fun h3=> ?_) (fun h3=> ?_)
    ·refine sh ?_
     refine rM [0] ?_
     all_goals repeat' (first|exact True.intro|refine And.intro ?_ ?_|(intro _u; clear _u)|(with_reducible first|exact aw.fg|refine eM ?_ ?_|refine eF ?_ ?_ ?_|refine eN ?_|refine eL ?_ ?_ ?_|refine eA ?_ ?_|refine az.mk ⟨_,hp,rfl⟩ ?_ ?_)|refine az.mk ⟨_,hp,rfl⟩ ?_ ?_)
     all_goals try first|with_reducible rfl|omega|exact .inl (by decide)|(simp; done)|rfl
     simp; omega
    ·refine sh ?_
     refine cS (fun h4=> ?_) (fun h4=> ?_)
     ·refine sh ?_
      refine rM [0] ?_
      all_goals repeat' (first|exact True.intro|refine And.intro ?_ ?_|(intro _u; clear _u)|(with_reducible first|exact aw.fg|refine eM ?_ ?_|refine eF ?_ ?_ ?_|refine eN ?_|refine eL ?_ ?_ ?_|refine eA ?_ ?_|refine az.mk ⟨_,hp,rfl⟩ ?_ ?_)|refine az.mk ⟨_,hp,rfl⟩ ?_ ?_)
      all_goals try first|with_reducible rfl|omega|exact .inl (by decide)|(simp; done)|rfl
      simp; omega
     ·refine sh ?_
      refine rM [0] ?_
      all_goals repeat' (first|exact True.intro|refine And.intro ?_ ?_|(intro _u; clear _u)|(with_reducible first|exact aw.fg|refine eM ?_ ?_|refine eF ?_ ?_ ?_|refine eN ?_|refine eL ?_ ?_ ?_|refine eA ?_ ?_|refine az.mk ⟨_,hp,rfl⟩ ?_ ?_)|refine az.mk ⟨_,hp,rfl⟩ ?_ ?_)
      all_goals try first|with_reducible rfl|omega|exact .inl (by decide)|(simp; done)|rfl
      rw[Bool.eq_iff_iff]; simp only[Bool.not_eq_true',decide_eq_true_eq,decide_eq_false_iff_not,beq_iff_eq]; omega
theorem w7 {R:Env} (h:Hs R) (m:Ms):R.Pc 193 [.agg m.row] (.int .i64 (oq m)):=
 h.Lj.enter 100 rfl fun X bb hfit hp=>by
  unfold oq
  refine sh ?_
  refine cS (fun h1=> ?_) (fun h1=> ?_)
  ·rw[if_pos (.inl (by omega))]
   refine sh ?_
   exact rT
  ·refine sh ?_
   refine cS (fun h2=> ?_) (fun h2=> ?_)
   ·rw[if_pos (.inr (by omega))]
    refine sh ?_
    exact rT
   ·rw[if_neg (by omega)]
    refine sh ?_
    refine cS (fun h3=> ?_) (fun h3=> ?_)
    ·rw[if_pos (.inl (by omega))]
     refine sh ?_
     exact rT
    ·refine sh ?_
     refine cS (fun h4=> ?_) (fun h4=> ?_)
     ·rw[if_pos (.inr (.inl (by omega)))]
      refine sh ?_
      exact rT
     ·refine sh ?_
      refine cS (fun h5=> ?_) (fun h5=> ?_)
      ·rw[if_pos (.inr (.inr (by omega)))]
       refine sh ?_
       exact rT
      ·rw[if_neg (by omega)]
       refine sh ?_
       refine aq.pure h.n209.Ps.hb (B8 h.n209 206 h.n206.QK.hb m.v lB (fun x _=>Si h.n206 x) (by omega)) rfl ?_
       refine sh ?_
       refine cS (fun h6=> ?_) (fun h6=> ?_)
       ·rw[if_pos h6]
        refine sh ?_
        exact rT
       ·rw[if_neg (by rw[h6]; decide)]
        refine sh ?_
        refine aq.pure h.n210.Pw.hb (B9 h.n210 207 h.n207.QM.hb m.uv B6 (fun x _=>Mr h.n207 x) (by omega)) rfl ?_
        refine sh ?_
        refine cS (fun h7=> ?_) (fun h7=> ?_)
        ·rw[if_pos (.inl h7)]
         refine sh ?_
         exact rT
        ·refine sh ?_
         refine cM false [0] (B' h.n211 208 m.t (B7 m.v.length) m (fun x _=>Sj h.n208 m x) (by omega)) ?_
         repeat (intro _; first|refine eK ?_|refine eP ?_)
         refine sh ?_
         refine cS (fun h8=> ?_) (fun h8=> ?_)
         ·rw[if_pos (.inr h8)]
          refine sh ?_
          exact rT
         ·rw[if_neg (by rw[h7,h8]; decide)]
          refine sh ?_
          exact rT
end Go.UM
namespace Go.UM
open Go.AM
set_option maxRecDepth 4000
theorem EW {R:Env} (h:Vu R) (l:List UInt8) (hl:l.length≤1073741824):
  R.Mc 62 [.aO 1 (bc l)] [] (.bh 0 l.length) [(0,.arr (R.ty 4) 1 (bc l))] 1:=
 h.o62.cr 60 0 rfl rfl rfl fun X b hfit hp=>by
  refine sh ?_
  refine DA.mk (fun hn=> ?_) ?_
  ·have:l=[]:=by simpa[bc]using hn
   subst this
   refine sh ?_
   exact rM [50]
  ·refine sh ?_
   exact rM [0]
def enc (w:Nat) (x:Int):List UInt8:=(List.range w).map fun i=>u8 (x / 256 ^ i)
def jF (b:List UInt8) (w:Int) (n:List Int):List UInt8 × Int:=
 if w<1∨8<w then ([],2)else if n.any (fun x=>decide (256 ^ w.toNat≤x))=true then ([],3)else (b++n.flatMap (enc w.toNat),0)
theorem pk (w:Nat):∀l:List Int,(l.flatMap (enc w)).length=w*l.length
 |[]=>by simp
 |x::r=>by simp[pk w r,enc,Nat.mul_add]; omega
theorem rK {b:List UInt8} {n:List Int} {w:Int} {k:Nat} {i:Nat} {x:Int} (hl:b.length+8*n.length≤1073741824) (hw:w≤8) (oe:1≤w) (hk:(k:Int)<n.length) (hi:(i:Int)<w):(b++(n.take k).flatMap (enc w.toNat)++enc i x).length+1≤1073741824:=by
 have h1:w.toNat* (n.take k).length≤8*k:=Nat.mul_le_mul (by omega) (by simp; omega)
 simp only[List.length_append,pk]
 have:(enc i x).length=i:=by simp[enc]
 omega
theorem ny (i:Nat) (x:Int):enc (i+1) x=enc i x++ [u8 (x / 256 ^ i)]:=by simp[enc,List.range_succ]
@[simp] theorem Sk (x:Int):enc 0 x=[]:=rfl
@[simp] theorem yZ (w:Nat) (x:Int):(enc w x).length=w:=by simp[enc]
theorem vl {x:Int} {i:Nat} (hx:0≤x) (hi:i<8):fi .u64 x (8* (i:Int))=x / 256 ^ i:=by
 rw[Mg hx]
 have h:(8* (i:Int)).toNat=8*i:=by omega
 rw[h,show min (8*i) (IntKind.bits .u64)=8*i by simp[IntKind.bits]; omega,Int.pow_mul]
 rfl
theorem Aq {x w:Int} (hx:0≤x) (h1:1≤w) (h8:w<8):0<fi .u64 x (8*w)↔256 ^ w.toNat≤x:=by
 obtain⟨i,rfl⟩:∃i:Nat,w=i:=⟨w.toNat,by omega⟩
 rw[vl hx (by omega),Int.toNat_natCast]
 have hp:(0:Int)<256 ^ i:=Int.pow_pos (by decide)
 constructor
 ·intro h
  have:=(Int.le_ediv_iff_mul_le hp).1 (show 1≤x / 256 ^ i from h)
  rwa[Int.one_mul]at this
 ·intro h
  show 1≤x / 256 ^ i
  exact (Int.le_ediv_iff_mul_le hp).2 (by rw[Int.one_mul]; exact h)
theorem eC {n:List Int} {k:Nat} {x:Int} {p:Int→Bool} (h:n[k]? =some x):(n.take (k+1)).any p=((n.take k).any p||p x):=by
 rw[aA h]; simp
theorem w9 {b:List UInt8} {w:Int} {n:List Int} {x:Int} (h1:1≤w) (h2:w≤8) (hx:x ∈ n) (h:256 ^ w.toNat≤x):jF b w n=([],3):=by
 unfold jF
 rw[if_neg (by omega),if_pos]
 simp only[List.any_eq_true,decide_eq_true_eq]
 exact⟨x,hx,h⟩
theorem nz {b:List UInt8} {w:Int} {n:List Int} (h1:1≤w) (h2:w≤8) (h:n.any (fun x=>decide (256 ^ w.toNat≤x))=false):jF b w n=(b++n.flatMap (enc w.toNat),0):=by
 unfold jF
 rw[if_neg (by omega),if_neg (by rw[h]; decide)]
theorem Ar {R:Env} (h:Le R) (b:List UInt8) (w:Int) (n:List Int) (hl:b.length+8*n.length≤1073741824) (hn:∀x ∈ n,0≤x∧x≤18446744073709551615):
  R.Mc 54 [.aO 1 (bc b),.int .i64 w,.aO 1 (aY .u64 n)] [] (.aU [.bh 0 (jF b w n).1.length,.int .i64 (jF b w n).2]) [(0,.arr (R.ty 4) 1 (bc (jF b w n).1))] 1:=
 h.o54.cr 100 0 rfl rfl rfl fun X bb hfit hp=>by
  generalize hq:jF b w n=q
  refine sh ?_
  refine cS (fun h1=> ?_) (fun h1=> ?_)
  ·rw[jF,if_pos (.inl h1)]at hq
   subst hq
   refine sh ?_
   exact rM [50]
  ·refine sh ?_
   refine cS (fun h2=> ?_) (fun h2=> ?_)
   ·rw[jF,if_pos (.inr h2)]at hq
    subst hq
    refine sh ?_
    exact rM [50]
   ·refine sh ?_
    refine cM false [] (EW h.n62 b (by omega)) ?_
    repeat (intro _; first|refine eK ?_|refine eP ?_)
    refine sh ?_
    refine gZ 100 (fun k:Nat=>k≤n.length∧(n.take k).any (fun x=>decide (256 ^ w.toNat≤x))=false) (fun k=>⟨[(1,.int .i64 w),(8,.bh 0 (b++(n.take k).flatMap (enc w.toNat)).length),(20,.aO 1 (aY .u64 n)),(21,.int .i64 n.length),(22,.int .i64 k)],[(0,.arr (R.ty 4) 1 (bc (b++(n.take k).flatMap (enc w.toNat))))],1⟩) (fun k=>n.length - k) (0) ?_ ?_
    ·exact⟨Nat.zero_le _,by simp⟩
    ·intro k hk
     dsimp only
     refine sh ?_
     refine cS (fun h3=> ?_) (fun h3=> ?_)
     ·obtain⟨x,hx⟩:∃u_,n[k]? =some u_:=⟨_,List.getElem?_eq_getElem (by first|omega|(simp<;>omega))⟩
      refine sh ?_
      refine ah hx ?_
      have lr:=hx
      have hx:=hn x (List.mem_of_getElem? lr)
      refine sh ?_
      refine cS (fun h4=> ?_) (fun h4=> ?_)
      ·refine sh ?_
       refine cS (fun h5=> ?_) (fun h5=> ?_)
       ·rw[w9 (by omega) (by omega) (List.mem_of_getElem? lr) ((Aq hx.1 (by omega) h4).1 h5)]at hq
        subst hq
        refine sh ?_
        exact rM [50]
       ·have hnb:¬256 ^ w.toNat≤x:=fun hb=>absurd ((Aq hx.1 (by omega) h4).2 hb) (by omega)
        refine sh ?_
        refine gZ 100 (fun i:Nat=>(i:Int)≤w) (fun i=>⟨[(1,.int .i64 w),(8,.bh 0 (b++(n.take k).flatMap (enc w.toNat)++enc i x).length),(10,.int .u64 x),(20,.aO 1 (aY .u64 n)),(21,.int .i64 n.length),(22,.int .i64 k),(35,.int .i64 w),(36,.int .i64 i)],[(0,.arr (R.ty 4) 1 (bc (b++(n.take k).flatMap (enc w.toNat)++enc i x)))],1⟩) (fun i=>w.toNat - i) (0) ?_ ?_
        ·show (0:Int)≤w
         omega
        ·intro i hi
         dsimp only
         refine sh ?_
         refine cS (fun h6=> ?_) (fun h6=> ?_)
         ·refine sh ?_
          rw[vl hx.1 (by omega)]
          refine bX ?_
          refine sh ?_
          refine⟨by rw[gx]; exact rK hl h2 h1 h3 h6,?_⟩
          refine sh ?_
          refine nX (i+1) ?_ ?_ ⟨_,hp,rfl⟩ ?_ ?_
          ·omega
          ·omega
          ·all_goals repeat' (first|exact True.intro|refine And.intro ?_ ?_|(intro _u; clear _u)|(with_reducible first|exact aw.fg|refine eM ?_ ?_|refine eF ?_ ?_ ?_|refine eN ?_|refine eL ?_ ?_ ?_|refine eA ?_ ?_|refine az.mk ⟨_,hp,rfl⟩ ?_ ?_)|refine az.mk ⟨_,hp,rfl⟩ ?_ ?_)
           all_goals try first|with_reducible rfl|omega|exact .inl (by decide)|(simp; done)|rfl
          ·all_goals repeat' (first|exact True.intro|refine And.intro ?_ ?_|(intro _u; clear _u)|(with_reducible first|exact aw.fg|refine eM ?_ ?_|refine eF ?_ ?_ ?_|refine eN ?_|refine eL ?_ ?_ ?_|refine eA ?_ ?_|refine az.mk ⟨_,hp,rfl⟩ ?_ ?_)|refine az.mk ⟨_,hp,rfl⟩ ?_ ?_)
           all_goals try first|with_reducible rfl|omega|exact .inl (by decide)|(simp; done)|rfl
           simp[ny]
         ·refine sh ?_
          refine nX (k+1) ?_ ?_ ⟨_,hp,rfl⟩ ?_ ?_
          ·refine⟨by omega,?_⟩
           rw[eC lr,hk.2,decide_eq_false hnb]; rfl
          ·omega
          ·all_goals repeat' (first|exact True.intro|refine And.intro ?_ ?_|(intro _u; clear _u)|(with_reducible first|exact aw.fg|refine eM ?_ ?_|refine eF ?_ ?_ ?_|refine eN ?_|refine eL ?_ ?_ ?_|refine eA ?_ ?_|refine az.mk ⟨_,hp,rfl⟩ ?_ ?_)|refine az.mk ⟨_,hp,rfl⟩ ?_ ?_)
           all_goals try first|with_reducible rfl|omega|exact .inl (by decide)|(simp; done)|rfl
           rw[aA lr,show i=w.toNat by omega]; simp
          ·all_goals repeat' (first|exact True.intro|refine And.intro ?_ ?_|(intro _u; clear _u)|(with_reducible first|exact aw.fg|refine eM ?_ ?_|refine eF ?_ ?_ ?_|refine eN ?_|refine eL ?_ ?_ ?_|refine eA ?_ ?_|refine az.mk ⟨_,hp,rfl⟩ ?_ ?_)|refine az.mk ⟨_,hp,rfl⟩ ?_ ?_)
           all_goals try first|with_reducible rfl|omega|exact .inl (by decide)|(simp; done)|rfl
           rw[aA lr,show i=w.toNat by omega]; simp
      ·have hnb:¬256 ^ w.toNat≤x:=by rw[show w.toNat=8 by omega]; omega
       refine sh ?_
       refine gZ 100 (fun i:Nat=>(i:Int)≤w) (fun i=>⟨[(1,.int .i64 w),(8,.bh 0 (b++(n.take k).flatMap (enc w.toNat)++enc i x).length),(10,.int .u64 x),(20,.aO 1 (aY .u64 n)),(21,.int .i64 n.length),(22,.int .i64 k),(35,.int .i64 w),(36,.int .i64 i)],[(0,.arr (R.ty 4) 1 (bc (b++(n.take k).flatMap (enc w.toNat)++enc i x)))],1⟩) (fun i=>w.toNat - i) (0) ?_ ?_
       ·show (0:Int)≤w
        omega
       ·intro i hi
        dsimp only
        refine sh ?_
        refine cS (fun h6=> ?_) (fun h6=> ?_)
        ·refine sh ?_
         rw[vl hx.1 (by omega)]
         refine bX ?_
         refine sh ?_
         refine⟨by rw[gx]; exact rK hl h2 h1 h3 h6,?_⟩
         refine sh ?_
         refine nX (i+1) ?_ ?_ ⟨_,hp,rfl⟩ ?_ ?_
         ·omega
         ·omega
         ·all_goals repeat' (first|exact True.intro|refine And.intro ?_ ?_|(intro _u; clear _u)|(with_reducible first|exact aw.fg|refine eM ?_ ?_|refine eF ?_ ?_ ?_|refine eN ?_|refine eL ?_ ?_ ?_|refine eA ?_ ?_|refine az.mk ⟨_,hp,rfl⟩ ?_ ?_)|refine az.mk ⟨_,hp,rfl⟩ ?_ ?_)
          all_goals try first|with_reducible rfl|omega|exact .inl (by decide)|(simp; done)|rfl
         ·all_goals repeat' (first|exact True.intro|refine And.intro ?_ ?_|(intro _u; clear _u)|(with_reducible first|exact aw.fg|refine eM ?_ ?_|refine eF ?_ ?_ ?_|refine eN ?_|refine eL ?_ ?_ ?_|refine eA ?_ ?_|refine az.mk ⟨_,hp,rfl⟩ ?_ ?_)|refine az.mk ⟨_,hp,rfl⟩ ?_ ?_)
          all_goals try first|with_reducible rfl|omega|exact .inl (by decide)|(simp; done)|rfl
          simp[ny]
        ·refine sh ?_
         refine nX (k+1) ?_ ?_ ⟨_,hp,rfl⟩ ?_ ?_
         ·refine⟨by omega,?_⟩
          rw[eC lr,hk.2,decide_eq_false hnb]; rfl
         ·omega
         ·all_goals repeat' (first|exact True.intro|refine And.intro ?_ ?_|(intro _u; clear _u)|(with_reducible first|exact aw.fg|refine eM ?_ ?_|refine eF ?_ ?_ ?_|refine eN ?_|refine eL ?_ ?_ ?_|refine eA ?_ ?_|refine az.mk ⟨_,hp,rfl⟩ ?_ ?_)|refine az.mk ⟨_,hp,rfl⟩ ?_ ?_)
          all_goals try first|with_reducible rfl|omega|exact .inl (by decide)|(simp; done)|rfl
          rw[aA lr,show i=w.toNat by omega]; simp
         ·all_goals repeat' (first|exact True.intro|refine And.intro ?_ ?_|(intro _u; clear _u)|(with_reducible first|exact aw.fg|refine eM ?_ ?_|refine eF ?_ ?_ ?_|refine eN ?_|refine eL ?_ ?_ ?_|refine eA ?_ ?_|refine az.mk ⟨_,hp,rfl⟩ ?_ ?_)|refine az.mk ⟨_,hp,rfl⟩ ?_ ?_)
          all_goals try first|with_reducible rfl|omega|exact .inl (by decide)|(simp; done)|rfl
          rw[aA lr,show i=w.toNat by omega]; simp
     ·have hkn:n.take k=n:=List.take_of_length_le (by omega)
      rw[hkn]at hk ⊢
      rw[nz (by omega) (by omega) hk.2]at hq
      subst hq
      refine sh ?_
      exact rM [0]
end Go.UM
namespace Go.UM
open Go.AM
set_option maxRecDepth 4000
def fQ (b:List UInt8) (w:Int) (n:List Int):List UInt8 × Int:=
 if w<1∨8<w then ([],2)else if n.any (fun x=>decide (x< -(256 ^ w.toNat / 2))||decide (256 ^ w.toNat / 2≤x))=true then ([],3)else jF b w (n.map fun x=>x % 256 ^ w.toNat)
theorem ot {b:List UInt8} {w:Int} {n:List Int} {x:Int} (h1:1≤w) (h2:w≤8) (hx:x ∈ n) (h:x< -(256 ^ w.toNat / 2)∨256 ^ w.toNat / 2≤x):fQ b w n=([],3):=by
 unfold fQ
 rw[if_neg (by omega),if_pos]
 simp only[List.any_eq_true,Bool.or_eq_true,decide_eq_true_eq]
 exact⟨x,hx,h⟩
theorem nA {b:List UInt8} {w:Int} {n:List Int} (h1:1≤w) (h2:w≤8) (h:n.any (fun x=>decide (x< -(256 ^ w.toNat / 2))||decide (256 ^ w.toNat / 2≤x))=false):fQ b w n=jF b w (n.map fun x=>x % 256 ^ w.toNat):=by
 unfold fQ
 rw[if_neg (by omega),if_neg (by rw[h]; decide)]
theorem H1 {w x:Int} (h1:1≤w) (h2:w≤8) (hx:aZ .i64 x):(fi .i64 (qb .i64 x (64 - 8*w)) (64 - 8*w)=x)↔¬ (x< -(256 ^ w.toNat / 2)∨256 ^ w.toNat / 2≤x):=by
 simp only[aZ]at hx
 obtain h|h|h|h|h|h|h|h:w=1∨w=2∨w=3∨w=4∨w=5∨w=6∨w=7∨w=8:=by omega
 all_goals subst h
 all_goals (simp only[fi,qb,IntKind.wrap,IntKind.bits,IntKind.signed]; simp[Int.fdiv_eq_ediv]; omega)
theorem H2 {w x:Int} (h1:1≤w) (h2:w≤8) (hx:aZ .i64 x):fi .u64 (qb .u64 (wr .u64 x) (64 - 8*w)) (64 - 8*w)=x % 256 ^ w.toNat:=by
 simp only[aZ]at hx
 obtain h|h|h|h|h|h|h|h:w=1∨w=2∨w=3∨w=4∨w=5∨w=6∨w=7∨w=8:=by omega
 all_goals subst h
 all_goals (simp only[wr,fi,qb,IntKind.wrap,IntKind.bits,IntKind.signed]; simp[Int.fdiv_eq_ediv]<;>omega)
theorem xa {b:List UInt8} {w:Int} {n:List Int} (h1:1≤w) (h2:w≤8):∀x ∈ n.map (fun x=>x % 256 ^ w.toNat),0≤x∧x≤18446744073709551615:=by
 intro x hx
 obtain⟨y,_,rfl⟩:=List.mem_map.1 hx
 obtain h|h|h|h|h|h|h|h:w=1∨w=2∨w=3∨w=4∨w=5∨w=6∨w=7∨w=8:=by omega
 all_goals (subst h; simp<;>omega)
theorem rL {R:Env} (h:Lf R) (b:List UInt8) (w:Int) (n:List Int) (hl:b.length+8*n.length≤1073741824) (hn:∀x ∈ n,aZ .i64 x):
  R.Mc 71 [.aO 1 (bc b),.int .i64 w,.aO 1 (aY .i64 n)] [] (.aU [.bh 0 (fQ b w n).1.length,.int .i64 (fQ b w n).2]) [(0,.arr (R.ty 4) 1 (bc (fQ b w n).1))] 1:=
 h.o71.cr 100 0 rfl rfl rfl fun X bb hfit hp=>by
  generalize hq:fQ b w n=q
  refine sh ?_
  refine cS (fun h1=> ?_) (fun h1=> ?_)
  ·rw[fQ,if_pos (.inl h1)]at hq
   subst hq
   refine sh ?_
   exact rM [50]
  ·refine sh ?_
   refine cS (fun h2=> ?_) (fun h2=> ?_)
   ·rw[fQ,if_pos (.inr h2)]at hq
    subst hq
    refine sh ?_
    exact rM [50]
   ·refine sh ?_
    refine gZ 100 (fun k:Nat=>k≤n.length∧(n.take k).any (fun x=>decide (x< -(256 ^ w.toNat / 2))||decide (256 ^ w.toNat / 2≤x))=false) (fun k=>⟨[(0,.aO 1 (bc b)),(1,.int .i64 w),(8,.bh 0 ((n.take k).map fun x=>x % 256 ^ w.toNat).length),(18,.aO 1 (aY .i64 n)),(19,.int .i64 n.length),(20,.int .i64 k)],[(0,.arr (R.ty 6) 1 (aY .u64 ((n.take k).map fun x=>x % 256 ^ w.toNat)))],1⟩) (fun k=>n.length - k) (0) ?_ ?_
    ·exact⟨Nat.zero_le _,by simp⟩
    ·intro k hk
     dsimp only
     refine sh ?_
     refine cS (fun h3=> ?_) (fun h3=> ?_)
     ·obtain⟨x,hx⟩:∃u_,n[k]? =some u_:=⟨_,List.getElem?_eq_getElem (by first|omega|(simp<;>omega))⟩
      refine sh ?_
      refine ah hx ?_
      have lr:=hx
      have hx:=hn x (List.mem_of_getElem? lr)
      have Zt:=H1 (by omega) h2 hx
      refine sh ?_
      refine cS (fun h4=> ?_) (fun h4=> ?_)
      ·rw[ot (by omega) (by omega) (List.mem_of_getElem? lr) (Decidable.not_not.1 fun hb=>h4 (Zt.2 hb))]at hq
       subst hq
       refine sh ?_
       exact rM [50]
      ·refine sh ?_
       refine bX ?_
       refine sh ?_
       rw[H2 (by omega) h2 hx]
       refine nX (k+1) ?_ ?_ ⟨_,hp,rfl⟩ ?_ ?_
       ·refine⟨by omega,?_⟩
        rw[eC lr,hk.2]
        have:=Zt.1 h4
        simp only[Bool.false_or,Bool.or_eq_false_iff,decide_eq_false_iff_not]
        omega
       ·omega
       ·all_goals repeat' (first|exact True.intro|refine And.intro ?_ ?_|(intro _u; clear _u)|(with_reducible first|exact aw.fg|refine eM ?_ ?_|refine eF ?_ ?_ ?_|refine eN ?_|refine eL ?_ ?_ ?_|refine eA ?_ ?_|refine az.mk ⟨_,hp,rfl⟩ ?_ ?_)|refine az.mk ⟨_,hp,rfl⟩ ?_ ?_)
        all_goals try first|with_reducible rfl|omega|exact .inl (by decide)|(simp; done)|rfl
        rw[aA lr]; simp
       ·all_goals repeat' (first|exact True.intro|refine And.intro ?_ ?_|(intro _u; clear _u)|(with_reducible first|exact aw.fg|refine eM ?_ ?_|refine eF ?_ ?_ ?_|refine eN ?_|refine eL ?_ ?_ ?_|refine eA ?_ ?_|refine az.mk ⟨_,hp,rfl⟩ ?_ ?_)|refine az.mk ⟨_,hp,rfl⟩ ?_ ?_)
        all_goals try first|with_reducible rfl|omega|exact .inl (by decide)|(simp; done)|rfl
        rw[aA lr]; simp[aY]
     ·have hkn:n.take k=n:=List.take_of_length_le (by omega)
      rw[hkn]at hk ⊢
      rw[nA (by omega) (by omega) hk.2]at hq
      subst hq
      refine sh ?_
      refine cM true [] (Ar h.Gc b w (n.map fun x=>x % 256 ^ w.toNat) (by simpa using hl) (xa (b:=b) (by omega) h2)) ?_
      repeat (intro _; first|refine eK ?_|refine eP ?_)
      refine sh ?_
      exact rM [1]
structure Rd where
 l:List UInt8
 e:Int
 made:Bool
def Rd.row (r:Rd):List AV:=[.aO 1 (bc r.l),.int .i64 r.e,.bool r.made]
def Rd.off (r:Rd):Bool:= !r.made||decide (r.e≠0)
def Rd.take (r:Rd) (n:Int):List UInt8 × Rd:=
 if r.made=false∨r.e≠0 then ([],r)else if n<0 then ([],{r with e:=2})else if (r.l.length:Int)<n then ([],{r with e:=4})else (r.l.take n.toNat,{r with l:=r.l.drop n.toNat})
def Rd.num (r:Rd) (w:Int):Nat × Rd:=let t:=r.take (if w<1∨8<w then -1 else w); (le t.1,t.2)
def sx (w:Int) (n:Nat):Int:=if 2*n<256 ^ w.toNat then n else n - 256 ^ w.toNat
def Rd.int (r:Rd) (w:Int):Int × Rd:=(if w<1∨8<w then 0 else sx w (r.num w).1,(r.num w).2)
def Rd.err (r:Rd):Int:=if r.made=false then 1 else r.e
def Rd.fin (r:Rd):Int:=if r.err≠0 then r.err else if 0<r.l.length then 5 else 0
end Go.UM
namespace Go.UM
open Go.AM
set_option maxRecDepth 4000
theorem H3 {w:Int} (h:w≤8):(256:Int) ^ w.toNat≤18446744073709551616:=by
 have:(256:Nat) ^ w.toNat≤256 ^ 8:=Nat.pow_le_pow_right (by decide) (by omega)
 have h2:((256:Int) ^ w.toNat)=((256 ^ w.toNat:Nat):Int):=by rw[Int.natCast_pow]; rfl
 omega
theorem p0 (n:Nat):(1:Int)≤256 ^ n:=Int.pow_pos (by decide)
theorem y0 {R:Env} (h:TH R) (w:Int) (hw:w≤8):R.Pc 63 [.int .i64 w] (.int .u64 (256 ^ w.toNat - 1)):=
 h.TI.enter 100 rfl fun X bb hfit hp=>by
  refine sh ?_
  refine gZ 100 (fun i:Nat=>i≤w.toNat) (fun i=>⟨[(0,.int .i64 w),(3,.int .u64 (256 ^ i - 1)),(4,.int .i64 i)],[],0⟩) (fun i=>w.toNat - i) (0) ?_ ?_
  ·exact Nat.zero_le _
  ·intro i hi
   dsimp only
   refine sh ?_
   refine cS (fun h1=> ?_) (fun h1=> ?_)
   ·have hp8:(256:Int) ^ (i+1)≤18446744073709551616:=by
     have:=H3 (w:=(i+1:Nat)) (by omega)
     simpa using this
    rw[Int.pow_succ]at hp8
    have hp1:=p0 i
    refine sh ?_
    refine r8 (i+1) ?_ ?_
    ·omega
    ·omega
   ·refine sh ?_
    refine rT ?_
    all_goals repeat' (first|exact True.intro|refine And.intro ?_ ?_|(intro _u; clear _u)|(with_reducible first|exact aw.fg|refine eM ?_ ?_|refine eF ?_ ?_ ?_|refine eN ?_|refine eL ?_ ?_ ?_|refine eA ?_ ?_|refine az.mk ⟨_,hp,rfl⟩ ?_ ?_)|refine az.mk ⟨_,hp,rfl⟩ ?_ ?_)
    all_goals try first|with_reducible rfl|omega|exact .inl (by decide)|(simp; done)|rfl
    rw[show i=w.toNat by omega]
theorem Mu {R:Env} (h:V1 R) (b:List UInt8) (w:Int) (n:List Int) (hl:b.length+8*n.length≤1073741824) (hn:∀x ∈ n,0≤x∧x≤18446744073709551615):
  R.Mc 55 [.aO 1 (bc b),.int .i64 w,.aO 1 (aY .u64 n)] [] (.aU [.bh 0 (jF b w n).1.length,.int .i64 (jF b w n).2]) [(0,.arr (R.ty 4) 1 (bc (jF b w n).1))] 1:=
 h.o55.cr 100 0 rfl rfl rfl fun X bb hfit hp=>by
  generalize hq:jF b w n=q
  refine sh ?_
  refine cS (fun h1=> ?_) (fun h1=> ?_)
  ·rw[jF,if_pos (.inl h1)]at hq
   subst hq
   refine sh ?_
   exact rM [50]
  ·refine sh ?_
   refine cS (fun h2=> ?_) (fun h2=> ?_)
   ·rw[jF,if_pos (.inr h2)]at hq
    subst hq
    refine sh ?_
    exact rM [50]
   ·refine sh ?_
    refine gZ 100 (fun k:Nat=>k≤n.length∧(n.take k).any (fun x=>decide (256 ^ w.toNat≤x))=false) (fun k=>⟨[(1,.int .i64 w),(2,.aO 1 (aY .u64 n)),(8,.bh 0 (b++(n.take k).flatMap (enc w.toNat)).length),(9,.int .i64 k)],[(0,.arr (R.ty 4) 1 (bc (b++(n.take k).flatMap (enc w.toNat))))],1⟩) (fun k=>n.length - k) (0) ?_ ?_
    ·exact⟨Nat.zero_le _,by simp⟩
    ·intro k hk
     dsimp only
     refine sh ?_
     refine cS (fun h3=> ?_) (fun h3=> ?_)
     ·obtain⟨x,hx⟩:∃u_,n[k]? =some u_:=⟨_,List.getElem?_eq_getElem (by first|omega|(simp<;>omega))⟩
      refine sh ?_
      refine ah hx ?_
      have lr:=hx
      have hx:=hn x (List.mem_of_getElem? lr)
      refine sh ?_
      refine aq.pure h.Ge.TI.hb (y0 h.Ge w h2) rfl ?_
      refine sh ?_
      refine cS (fun h5=> ?_) (fun h5=> ?_)
      ·rw[w9 (by omega) (by omega) (List.mem_of_getElem? lr) (by omega)]at hq
       subst hq
       refine sh ?_
       exact rM [50]
      ·have hnb:¬256 ^ w.toNat≤x:=by omega
       refine sh ?_
       refine ah lr ?_
       refine sh ?_
       refine gZ 100 (fun i:Nat=>(i:Int)≤w) (fun i=>⟨[(1,.int .i64 w),(2,.aO 1 (aY .u64 n)),(8,.bh 0 (b++(n.take k).flatMap (enc w.toNat)++enc i x).length),(9,.int .i64 k),(10,.int .u64 (x / 256 ^ i)),(11,.int .i64 i)],[(0,.arr (R.ty 4) 1 (bc (b++(n.take k).flatMap (enc w.toNat)++enc i x)))],1⟩) (fun i=>w.toNat - i) (0) ?_ ?_
       ·show (0:Int)≤w
        omega
       ·intro i hi
        dsimp only
        refine sh ?_
        refine cS (fun h6=> ?_) (fun h6=> ?_)
        ·refine sh ?_
         refine bX ?_
         refine sh ?_
         refine⟨by rw[gx]; exact rK hl h2 h1 h3 h6,?_⟩
         have Zu:0≤x / 256 ^ i:=Int.ediv_nonneg hx.1 (by have:=p0 i; omega)
         have hxl:x / 256 ^ i≤x:=Int.ediv_le_self _ hx.1
         refine sh ?_
         rw[Int.tdiv_eq_ediv_of_nonneg Zu]
         refine u5 (by simp only[aZ]; omega) ?_
         refine sh ?_
         refine nX (i+1) ?_ ?_ ⟨_,hp,rfl⟩ ?_ ?_
         ·omega
         ·omega
         ·all_goals repeat' (first|exact True.intro|refine And.intro ?_ ?_|(intro _u; clear _u)|(with_reducible first|exact aw.fg|refine eM ?_ ?_|refine eF ?_ ?_ ?_|refine eN ?_|refine eL ?_ ?_ ?_|refine eA ?_ ?_|refine az.mk ⟨_,hp,rfl⟩ ?_ ?_)|refine az.mk ⟨_,hp,rfl⟩ ?_ ?_)
          all_goals try first|with_reducible rfl|omega|exact .inl (by decide)|(simp; done)|rfl
          rw[Int.pow_succ,Int.ediv_ediv_of_nonneg (by have:=p0 i; omega)]
         ·all_goals repeat' (first|exact True.intro|refine And.intro ?_ ?_|(intro _u; clear _u)|(with_reducible first|exact aw.fg|refine eM ?_ ?_|refine eF ?_ ?_ ?_|refine eN ?_|refine eL ?_ ?_ ?_|refine eA ?_ ?_|refine az.mk ⟨_,hp,rfl⟩ ?_ ?_)|refine az.mk ⟨_,hp,rfl⟩ ?_ ?_)
          all_goals try first|with_reducible rfl|omega|exact .inl (by decide)|(simp; done)|rfl
          simp[ny,HJ Zu]
        ·refine sh ?_
         refine nX (k+1) ?_ ?_ ⟨_,hp,rfl⟩ ?_ ?_
         ·refine⟨by omega,?_⟩
          rw[eC lr,hk.2,decide_eq_false hnb]; rfl
         ·omega
         ·all_goals repeat' (first|exact True.intro|refine And.intro ?_ ?_|(intro _u; clear _u)|(with_reducible first|exact aw.fg|refine eM ?_ ?_|refine eF ?_ ?_ ?_|refine eN ?_|refine eL ?_ ?_ ?_|refine eA ?_ ?_|refine az.mk ⟨_,hp,rfl⟩ ?_ ?_)|refine az.mk ⟨_,hp,rfl⟩ ?_ ?_)
          all_goals try first|with_reducible rfl|omega|exact .inl (by decide)|(simp; done)|rfl
          rw[aA lr,show i=w.toNat by omega]; simp
         ·all_goals repeat' (first|exact True.intro|refine And.intro ?_ ?_|(intro _u; clear _u)|(with_reducible first|exact aw.fg|refine eM ?_ ?_|refine eF ?_ ?_ ?_|refine eN ?_|refine eL ?_ ?_ ?_|refine eA ?_ ?_|refine az.mk ⟨_,hp,rfl⟩ ?_ ?_)|refine az.mk ⟨_,hp,rfl⟩ ?_ ?_)
          all_goals try first|with_reducible rfl|omega|exact .inl (by decide)|(simp; done)|rfl
          rw[aA lr,show i=w.toNat by omega]; simp
     ·have hkn:n.take k=n:=List.take_of_length_le (by omega)
      rw[hkn]at hk ⊢
      rw[nz (by omega) (by omega) hk.2]at hq
      subst hq
      refine sh ?_
      exact rM [0]
theorem H4 {w:Int} (h1:1≤w) (h2:w≤8):(256 ^ w.toNat - 1:Int) / 2=256 ^ w.toNat / 2 - 1:=by
 obtain h|h|h|h|h|h|h|h:w=1∨w=2∨w=3∨w=4∨w=5∨w=6∨w=7∨w=8:=by omega
 all_goals (subst h; decide)
theorem H5 {w:Int} (h1:1≤w) (h2:w≤8):(256 ^ w.toNat:Int) / 2≤9223372036854775808∧(128:Int)≤256 ^ w.toNat / 2∧(256 ^ w.toNat:Int)=2* (256 ^ w.toNat / 2):=by
 obtain h|h|h|h|h|h|h|h:w=1∨w=2∨w=3∨w=4∨w=5∨w=6∨w=7∨w=8:=by omega
 all_goals (subst h; decide)
theorem Ca {R:Env} (h:TJ R) (b:List UInt8) (w:Int) (n:List Int) (hl:b.length+8*n.length≤1073741824) (hn:∀x ∈ n,aZ .i64 x):
  R.Mc 72 [.aO 1 (bc b),.int .i64 w,.aO 1 (aY .i64 n)] [] (.aU [.bh 0 (fQ b w n).1.length,.int .i64 (fQ b w n).2]) [(0,.arr (R.ty 4) 1 (bc (fQ b w n).1))] 1:=
 h.o72.cr 100 0 rfl rfl rfl fun X bb hfit hp=>by
  generalize hq:fQ b w n=q
  refine sh ?_
  refine cS (fun h1=> ?_) (fun h1=> ?_)
  ·rw[fQ,if_pos (.inl h1)]at hq
   subst hq
   refine sh ?_
   exact rM [50]
  ·refine sh ?_
   refine cS (fun h2=> ?_) (fun h2=> ?_)
   ·rw[fQ,if_pos (.inr h2)]at hq
    subst hq
    refine sh ?_
    exact rM [50]
   ·refine sh ?_
    refine aq.pure h.Ge.TI.hb (y0 h.Ge w h2) rfl ?_
    have hh:=H5 h1 h2
    refine sh ?_
    rw[Int.tdiv_eq_ediv_of_nonneg (by omega),H4 h1 h2]
    refine u5 (by simp only[aZ]; omega) ?_
    refine sh ?_
    refine gZ 100 (fun k:Nat=>k≤n.length∧(n.take k).any (fun x=>decide (x< -(256 ^ w.toNat / 2))||decide (256 ^ w.toNat / 2≤x))=false) (fun k=>⟨[(0,.aO 1 (bc b)),(1,.int .i64 w),(2,.aO 1 (aY .i64 n)),(8,.int .i64 (256 ^ w.toNat / 2 - 1)),(9,.bh 0 ((n.take k).map fun x=>x % 256 ^ w.toNat).length),(10,.int .i64 k)],[(0,.arr (R.ty 6) 1 (aY .u64 ((n.take k).map fun x=>x % 256 ^ w.toNat)))],1⟩) (fun k=>n.length - k) (0) ?_ ?_
    ·exact⟨Nat.zero_le _,by simp⟩
    ·intro k hk
     dsimp only
     refine sh ?_
     refine cS (fun h3=> ?_) (fun h3=> ?_)
     ·obtain⟨x,hx⟩:∃u_,n[k]? =some u_:=⟨_,List.getElem?_eq_getElem (by first|omega|(simp<;>omega))⟩
      refine sh ?_
      refine ah hx ?_
      have lr:=hx
      have hx:=hn x (List.mem_of_getElem? lr)
      simp only[aZ]at hx
      refine sh ?_
      refine cS (fun h4=> ?_) (fun h4=> ?_)
      ·rw[ot (by omega) (by omega) (List.mem_of_getElem? lr) (by omega)]at hq
       subst hq
       refine sh ?_
       exact rM [50]
      ·refine sh ?_
       refine ah lr ?_
       refine sh ?_
       refine cS (fun h5=> ?_) (fun h5=> ?_)
       ·rw[ot (by omega) (by omega) (List.mem_of_getElem? lr) (by omega)]at hq
        subst hq
        refine sh ?_
        exact rM [50]
       ·have hok:(n.take (k+1)).any (fun x=>decide (x< -(256 ^ w.toNat / 2))||decide (256 ^ w.toNat / 2≤x))=false:=by
         rw[eC lr,hk.2]
         simp only[Bool.false_or,Bool.or_eq_false_iff,decide_eq_false_iff_not]
         omega
        refine sh ?_
        refine ah lr ?_
        refine sh ?_
        refine bX ?_
        refine sh ?_
        refine ah lr ?_
        refine sh ?_
        refine cS (fun h6=> ?_) (fun h6=> ?_)
        ·refine sh ?_
         refine aq.pure h.Ge.TI.hb (y0 h.Ge w h2) rfl ?_
         refine sh ?_
         refine ah lr ?_
         have hv:x % 256 ^ w.toNat=256 ^ w.toNat - 1 - (0 - (x+1)):=by
          rw[←Int.add_emod_right,Int.emod_eq_of_lt (by omega) (by omega)]
          omega
         refine sh ?_
         refine nX (k+1) ?_ ?_ ⟨_,hp,rfl⟩ ?_ ?_
         ·exact⟨by omega,hok⟩
         ·omega
         ·all_goals repeat' (first|exact True.intro|refine And.intro ?_ ?_|(intro _u; clear _u)|(with_reducible first|exact aw.fg|refine eM ?_ ?_|refine eF ?_ ?_ ?_|refine eN ?_|refine eL ?_ ?_ ?_|refine eA ?_ ?_|refine az.mk ⟨_,hp,rfl⟩ ?_ ?_)|refine az.mk ⟨_,hp,rfl⟩ ?_ ?_)
          all_goals try first|with_reducible rfl|omega|exact .inl (by decide)|(simp; done)|rfl
          rw[aA lr]; simp
         ·all_goals repeat' (first|exact True.intro|refine And.intro ?_ ?_|(intro _u; clear _u)|(with_reducible first|exact aw.fg|refine eM ?_ ?_|refine eF ?_ ?_ ?_|refine eN ?_|refine eL ?_ ?_ ?_|refine eA ?_ ?_|refine az.mk ⟨_,hp,rfl⟩ ?_ ?_)|refine az.mk ⟨_,hp,rfl⟩ ?_ ?_)
          all_goals try first|with_reducible rfl|omega|exact .inl (by decide)|(simp; done)|rfl
          rw[aA lr]; simp[aY,hv]
        ·have hv:x % 256 ^ w.toNat=wr .u64 x:=by
          rw[Int.emod_eq_of_lt (by omega) (by omega),Ah (k:= .u64) ⟨by omega,by omega⟩]
         refine sh ?_
         refine nX (k+1) ?_ ?_ ⟨_,hp,rfl⟩ ?_ ?_
         ·exact⟨by omega,hok⟩
         ·omega
         ·all_goals repeat' (first|exact True.intro|refine And.intro ?_ ?_|(intro _u; clear _u)|(with_reducible first|exact aw.fg|refine eM ?_ ?_|refine eF ?_ ?_ ?_|refine eN ?_|refine eL ?_ ?_ ?_|refine eA ?_ ?_|refine az.mk ⟨_,hp,rfl⟩ ?_ ?_)|refine az.mk ⟨_,hp,rfl⟩ ?_ ?_)
          all_goals try first|with_reducible rfl|omega|exact .inl (by decide)|(simp; done)|rfl
          rw[aA lr]; simp
         ·all_goals repeat' (first|exact True.intro|refine And.intro ?_ ?_|(intro _u; clear _u)|(with_reducible first|exact aw.fg|refine eM ?_ ?_|refine eF ?_ ?_ ?_|refine eN ?_|refine eL ?_ ?_ ?_|refine eA ?_ ?_|refine az.mk ⟨_,hp,rfl⟩ ?_ ?_)|refine az.mk ⟨_,hp,rfl⟩ ?_ ?_)
          all_goals try first|with_reducible rfl|omega|exact .inl (by decide)|(simp; done)|rfl
          rw[aA lr]; simp[aY,hv]
     ·have hkn:n.take k=n:=List.take_of_length_le (by omega)
      rw[hkn]at hk ⊢
      rw[nA (by omega) (by omega) hk.2]at hq
      subst hq
      refine sh ?_
      refine cM true [] (Mu h.V2 b w (n.map fun x=>x % 256 ^ w.toNat) (by simpa using hl) (xa (b:=b) (by omega) h2)) ?_
      repeat (intro _; first|refine eK ?_|refine eP ?_)
      refine sh ?_
      exact rM [1]
structure ei (B:List UInt8) (r:Rd):Prop where
 m:B.length≤1073741824
 s:r.l=B.drop (B.length - r.l.length)
 made:r.made=true
theorem ei.len {B:List UInt8} {r:Rd} (h:ei B r):r.l.length≤B.length:=by rw[h.s]; simp
theorem ei.take {B:List UInt8} {r:Rd} (h:ei B r) (n:Int):ei B (r.take n).2:=by
 unfold Rd.take
 split
 ·exact h
 ·split
  ·exact⟨h.m,h.s,h.made⟩
  ·split
   ·exact⟨h.m,h.s,h.made⟩
   ·refine⟨h.m,?_,h.made⟩
    have h1:=h.s
    have h2:=h.len
    simp only[List.length_drop]
    conv=>lhs; rw[h1]
    rw[List.drop_drop]
    congr 1
    omega
theorem ei.num {B:List UInt8} {r:Rd} (h:ei B r) (w:Int):ei B (r.num w).2:=h.take _
theorem ei.int {B:List UInt8} {r:Rd} (h:ei B r) (w:Int):ei B (r.int w).2:=h.num w
theorem ei.err {B:List UInt8} {r:Rd} (h:ei B r) (e:Int):ei B {r with e:=e}:=⟨h.m,h.s,h.made⟩
theorem ei.new {B:List UInt8} (h:B.length≤1073741824):ei B ⟨B,0,true⟩:=⟨h,by simp,rfl⟩
end Go.UM
namespace Go.UM
open Go.AM
set_option maxRecDepth 4000
theorem Mv (v:Int):((u8 v).toNat:Int)=v % 256:=by
 rw[←Ai]
 simp only[wr,IntKind.wrap,IntKind.bits,IntKind.signed]
 simp
theorem Cb {x P:Int} (hP:0<P):x % P+P* (x / P % 256)=x % (P*256):=by
 have h1:P* (x / P)+x % P=x:=Int.mul_ediv_add_emod x P
 have h2:256* (x / P / 256)+x / P % 256=x / P:=Int.mul_ediv_add_emod (x / P) 256
 have h3:=Int.emod_nonneg x (Int.ne_of_gt hP)
 have h4:=Int.emod_lt_of_pos x hP
 have h5:0≤x / P % 256:=Int.emod_nonneg _ (by decide)
 have h6:x / P % 256<256:=Int.emod_lt_of_pos _ (by decide)
 have e:x=(x % P+P* (x / P % 256))+ (P*256)* (x / P / 256):=by
  have:P* (256* (x / P / 256)+x / P % 256)+x % P=x:=by rw[h2]; exact h1
  rw[Int.mul_add,←Int.mul_assoc]at this
  omega
 have hb:0≤P* (x / P % 256):=Int.mul_nonneg (Int.le_of_lt hP) h5
 have hc:P* (x / P % 256)≤P*255:=Int.mul_le_mul_of_nonneg_left (by omega) (Int.le_of_lt hP)
 rw[show x % (P*256)=((x % P+P* (x / P % 256))+ (P*256)* (x / P / 256)) % (P*256)from congrArg (· % (P*256)) e,Int.add_mul_emod_self_left]
 exact (Int.emod_eq_of_lt (a:=x % P+P* (x / P % 256)) (by omega) (by omega)).symm
theorem za (x:Int):∀w:Nat,((le (enc w x):Nat):Int)=x % 256 ^ w
 |0=>by simp[le,Int.emod_one]
 |w+1=>by
  have hp:(0:Int)<256 ^ w:=by have:=p0 w; omega
  rw[ny,HL,yZ,Int.natCast_add,Int.natCast_mul,za x w,Mv,Int.natCast_pow,Int.pow_succ]
  exact Cb hp
theorem vm {b:List UInt8} {w:Int} {n:List Int} (h1:1≤w) (h2:w≤8) (h:∀x ∈ n,0≤x∧x<256 ^ w.toNat):jF b w n=(b++n.flatMap (enc w.toNat),0):=
 nz h1 h2 (by
  rw[List.any_eq_false]
  intro x hx
  have:=h x hx
  simp; omega)
structure Fits {α:Type} (f:Rd→α × Rd) (g:α→List UInt8) (ok:α→Prop):Prop where
 made:∀r:Rd,r.made=true→(f r).2.made=true
 ou:∀r:Rd,ok (f r).1
 back:∀r:Rd,r.made=true→(f r).2.e=0→r.e=0∧r.l=g (f r).1++(f r).2.l
 there:∀ (x:α) (l:List UInt8),ok x→f ⟨g x++l,0,true⟩=(x,⟨l,0,true⟩)
def Au {α:Type} (f:Rd→α × Rd):Nat→Rd→List α × Rd
 |0,r=>([],r)
 |n+1,r=>((Au f n r).1++ [(f (Au f n r).2).1],(f (Au f n r).2).2)
theorem Fits.seq {α β:Type} {f:Rd→α × Rd} {g:α→List UInt8} {ok:α→Prop} {f':Rd→β × Rd} {g':β→List UInt8} {GI:β→Prop} (h:Fits f g ok) (h':Fits f' g' GI):
  Fits (fun r=>(((f r).1,(f' (f r).2).1),(f' (f r).2).2)) (fun x:α × β=>g x.1++g' x.2) (fun x=>ok x.1∧GI x.2):=by
 refine⟨fun r hm=>h'.made _ (h.made r hm),fun r=>⟨h.ou r,h'.ou _⟩,fun r hm he=> ?_,fun x l hx=> ?_⟩
 ·have h1:=h'.back _ (h.made r hm) he
  have h2:=h.back r hm h1.1
  exact⟨h2.1,by rw[h2.2,h1.2,List.append_assoc]⟩
 ·rw[List.append_assoc,h.there x.1 _ hx.1]
  rw[h'.there x.2 l hx.2]
theorem Fits.as {α β:Type} {f:Rd→α × Rd} {g:α→List UInt8} {ok:α→Prop} (h:Fits f g ok) (to:α→β) (of:β→α) (g':β→List UInt8) (GI:β→Prop)
  (h1:∀x,ok x→g' (to x)=g x) (h2:∀x,ok x→GI (to x)) (h3:∀y,GI y→g' y=g (of y)∧ok (of y)∧to (of y)=y):Fits (fun r=>(to (f r).1,(f r).2)) g' GI:=by
 refine⟨h.made,fun r=>h2 _ (h.ou r),fun r hm he=> ?_,fun y l hy=> ?_⟩
 ·have:=h.back r hm he
  exact⟨this.1,by rw[this.2,h1 _ (h.ou r)]⟩
 ·have h4:=h3 y hy
  rw[h4.1,h.there _ _ h4.2.1,h4.2.2]
end Go.UM
namespace Go.UM
open Go.AM
set_option maxRecDepth 4000
structure Ms.Ok (m:Ms):Prop where
 v:∀p ∈ m.v,aZ .i64 p.a∧aZ .i64 p.b∧aZ .i64 p.c
 uv:∀p ∈ m.uv,aZ .i64 p.1∧aZ .i64 p.2
 t:∀p ∈ m.t,aZ .i64 p.a∧aZ .i64 p.b∧aZ .i64 p.c
structure Ms.Sl (m:Ms):Prop where
 v:1≤m.v.length∧m.v.length≤64
 t:1≤m.t.length∧m.t.length≤64
 uv:m.uv.length=m.v.length
 pv:∀p ∈ m.v,-4096≤p.a∧p.a≤4096∧ -4096≤p.b∧p.b≤4096∧ -4096≤p.c∧p.c≤4096
 pu:∀x ∈ m.uv,0≤x.1∧x.1≤65535∧0≤x.2∧x.2≤65535
 pt:∀t ∈ m.t,0≤t.a∧t.a<m.v.length∧0≤t.b∧t.b<m.v.length∧0≤t.c∧t.c<m.v.length∧t.a≠t.b∧t.b≠t.c∧t.c≠t.a
theorem kR {m:Ms} (h:oq m=0):m.Sl:=by
 unfold oq at h
 split at h
 ·cases h
 ·split at h
  ·cases h
  ·split at h
   ·cases h
   ·split at h
    ·cases h
    ·rename_i h1 h2 h3 h4
     simp only[not_or,Bool.not_eq_true,List.any_eq_false]at h3 h4
     refine⟨by omega,by omega,by omega,fun p hp=> ?_,fun p hp=> ?_,fun p hp=> ?_⟩
     ·have:=h3 p hp; simpa[lB]using this
     ·have:=h4.1 p hp; simpa[B6]using this
     ·have:=h4.2 p hp; simpa[B7]using this
theorem Ms.Sl.iK {m:Ms} (h:m.Sl):oq m=0:=by
 unfold oq
 have h1:=h.v
 have h2:=h.t
 have h3:=h.uv
 rw[if_neg (by omega),if_neg (by omega),if_neg,if_neg]
 ·simp only[not_or,Bool.not_eq_true,List.any_eq_false]
  exact⟨fun p hp=>by have:=h.pu p hp; simpa[B6]using this,fun p hp=>by have:=h.pt p hp; simpa[B7]using this⟩
 ·simp only[Bool.not_eq_true,List.any_eq_false]
  exact fun p hp=>by have:=h.pv p hp; simpa[lB]using this
def Ms.sa (m:Ms):Ms:=⟨m.v.take 70,m.uv.take 70,m.t.take 70⟩
def jl (p:T3):List UInt8:=enc 2 (p.a % 65536)++enc 2 (p.b % 65536)++enc 2 (p.c % 65536)
def rN (x:Int × Int):List UInt8:=enc 2 x.1++enc 2 x.2
def xb (t:T3):List UInt8:=[u8 t.a,u8 t.b,u8 t.c]
def EX (m:Ms):List UInt8:=[u8 m.v.length,u8 m.t.length]++m.v.flatMap jl++m.uv.flatMap rN++m.t.flatMap xb
def Cc (m:Ms):List UInt8 × Int:=if oq m≠0 then ([],oq m)else (EX m,0)
theorem dK {α:Type} {l:List α} {k:Nat} {x:α} {f:α→List UInt8} (h:l[k]? =some x):(l.take (k+1)).flatMap f=(l.take k).flatMap f++f x:=by
 rw[aA h]; simp
theorem xc {b:List UInt8} {p:T3} (h: -4096≤p.a∧p.a≤4096∧ -4096≤p.b∧p.b≤4096∧ -4096≤p.c∧p.c≤4096):fQ b 2 [p.a,p.b,p.c]=(b++jl p,0):=by
 rw[nA (by decide) (by decide),nz (by decide) (by decide)]
 ·simp[jl]
 ·simp; omega
 ·simp; omega
theorem H6 {b:List UInt8} {x:Int × Int} (h:0≤x.1∧x.1≤65535∧0≤x.2∧x.2≤65535):jF b 2 [x.1,x.2]=(b++rN x,0):=by
 rw[nz (by decide) (by decide)]
 ·simp[rN]
 ·simp; omega
theorem EY {l:List T3}:(l.flatMap jl).length=6*l.length:=by
 induction l with
 |nil=>rfl
 |cons x r ih=>simp[jl]at ih ⊢; omega
theorem Jl {l:List (Int × Int)}:(l.flatMap rN).length=4*l.length:=by
 induction l with
 |nil=>rfl
 |cons x r ih=>simp[rN]at ih ⊢; omega
theorem Sm {l:List T3}:(l.flatMap xb).length=3*l.length:=by
 induction l with
 |nil=>rfl
 |cons x r ih=>simp[xb]at ih ⊢; omega
theorem Cd {R:Env} (h:Lk R) (m:Ms):R.Pc 196 [.agg m.row] (.aU [.aO 1 (bc (Cc m).1),.int .i64 (Cc m).2]):=
 h.QQ.enter 100 rfl fun X bb hfit hp=>by
  refine sh ?_
  refine aq.pure h.n193.Lj.hb (w7 h.n193 m) rfl ?_
  generalize hq:Cc m=q
  refine sh ?_
  refine cS (fun h1=> ?_) (fun h1=> ?_)
  ·rw[Cc,if_pos h1]at hq
   subst hq
   refine sh ?_
   exact rT
  ·rw[Cc,if_neg (by simpa using h1)]at hq
   subst hq
   have may:=kR h1
   have mv:=may.v
   have mt:=may.t
   have mu:=may.uv
   have w8:((u8 m.v.length).toNat:Int)=m.v.length:=u8_in (by omega)
   have t8:((u8 m.t.length).toNat:Int)=m.t.length:=u8_in (by omega)
   refine sh ?_
   refine aN.inv 100 (fun i:Nat=>i≤m.v.length) (fun i=>⟨[(1,.loc 0 1 0 0),(5,.bh 1 ([u8 m.v.length,u8 m.t.length]++(m.v.take i).flatMap jl).length),(27,.aO 3 (bF m.v)),(28,.int .i64 m.v.length),(29,.int .i64 i)],[(1,.arr (R.ty 4) 1 (bc ([u8 m.v.length,u8 m.t.length]++(m.v.take i).flatMap jl))),(0,.var (R.ty 25) m.row)],2⟩) (fun i=>m.v.length - i) (0) ?_ ⟨⟨_,hp,rfl⟩,?_,?_⟩ ?_
   ·exact Nat.zero_le _
   ·all_goals repeat' (first|exact True.intro|refine And.intro ?_ ?_|(intro _u; clear _u)|(with_reducible first|exact aw.fg|refine eM ?_ ?_|refine eF ?_ ?_ ?_|refine eN ?_|refine eL ?_ ?_ ?_|refine eA ?_ ?_|refine az.mk ⟨_,hp,rfl⟩ ?_ ?_)|refine az.mk ⟨_,hp,rfl⟩ ?_ ?_)
    all_goals try first|with_reducible rfl|omega|exact .inl (by decide)|(simp; done)|rfl
   ·all_goals repeat' (first|exact True.intro|refine And.intro ?_ ?_|(intro _u; clear _u)|(with_reducible first|exact aw.fg|refine eM ?_ ?_|refine eF ?_ ?_ ?_|refine eN ?_|refine eL ?_ ?_ ?_|refine eA ?_ ?_|refine az.mk ⟨_,hp,rfl⟩ ?_ ?_)|refine az.mk ⟨_,hp,rfl⟩ ?_ ?_)
    all_goals try first|with_reducible rfl|omega|exact .inl (by decide)|(simp; done)|rfl
    simp[bc,w8,t8]
   ·intro i hi
    dsimp only
    refine sh ?_
    refine cS (fun h2=> ?_) (fun h2=> ?_)
    ·obtain⟨y,hy⟩:∃u_,m.v[i]? =some u_:=⟨_,List.getElem?_eq_getElem (by first|omega|(simp<;>omega))⟩
     refine sh ?_
     refine ah hy ?_
     have NA:=may.pv y (List.mem_of_getElem? hy)
     have c1:=rL h.Gd ([u8 m.v.length,u8 m.t.length]++(m.v.take i).flatMap jl) 2 [y.a,y.b,y.c] (by simp only[List.length_append,EY,List.length_take,List.length_cons,List.length_nil]; omega) (by simp[aZ]; omega)
     rw[xc NA]at c1
     refine sh ?_
     refine cM true [] (c1) ?_
     repeat (intro _; first|refine eK ?_|refine eP ?_)
     refine sh ?_
     refine r9 [0,4] (i+1) ?_ ?_ ?_
     ·omega
     ·omega
     ·all_goals repeat' (first|exact True.intro|refine And.intro ?_ ?_|(intro _u; clear _u)|(with_reducible first|exact aw.fg|refine eM ?_ ?_|refine eF ?_ ?_ ?_|refine eN ?_|refine eL ?_ ?_ ?_|refine eA ?_ ?_|refine az.mk ⟨_,hp,rfl⟩ ?_ ?_)|refine az.mk ⟨_,hp,rfl⟩ ?_ ?_)
      all_goals try first|with_reducible rfl|omega|exact .inl (by decide)|(simp; done)|rfl
      rw[dK hy]; simp
      rw[dK hy]; simp
    ·rw[show m.v.take i=m.v from List.take_of_length_le (by omega)]
     have hB:([u8 m.v.length,u8 m.t.length]++m.v.flatMap jl).length≤400:=by
      simp only[List.length_append,EY,List.length_cons,List.length_nil]; omega
     have e:EX m=[u8 m.v.length,u8 m.t.length]++m.v.flatMap jl++m.uv.flatMap rN++m.t.flatMap xb:=rfl
     rw[e]
     generalize [u8 m.v.length,u8 m.t.length]++m.v.flatMap jl=B at hB ⊢
     refine sh ?_
     refine gZ 100 (fun i:Nat=>i≤m.uv.length) (fun i=>⟨[(1,.loc 0 1 0 0),(5,.bh 1 (B++(m.uv.take i).flatMap rN).length),(47,.aO 2 (cW m.uv)),(48,.int .i64 m.uv.length),(49,.int .i64 i)],[(1,.arr (R.ty 4) 1 (bc (B++(m.uv.take i).flatMap rN))),(0,.var (R.ty 25) m.row)],2⟩) (fun i=>m.uv.length - i) (0) ?_ ?_
     ·exact Nat.zero_le _
     ·intro i hi
      dsimp only
      refine sh ?_
      refine cS (fun h3=> ?_) (fun h3=> ?_)
      ·obtain⟨x,hx⟩:∃u_,m.uv[i]? =some u_:=⟨_,List.getElem?_eq_getElem (by first|omega|(simp<;>omega))⟩
       refine sh ?_
       refine ah hx ?_
       have ch:=may.pu x (List.mem_of_getElem? hx)
       have c1:=Ar h.Gc (B++(m.uv.take i).flatMap rN) 2 [x.1,x.2] (by simp only[List.length_append,Jl,List.length_take,List.length_cons,List.length_nil]; omega) (by simp; omega)
       rw[H6 ch]at c1
       refine sh ?_
       refine cM true [] (c1) ?_
       repeat (intro _; first|refine eK ?_|refine eP ?_)
       refine sh ?_
       refine r9 [0,4] (i+1) ?_ ?_ ?_
       ·omega
       ·omega
       ·all_goals repeat' (first|exact True.intro|refine And.intro ?_ ?_|(intro _u; clear _u)|(with_reducible first|exact aw.fg|refine eM ?_ ?_|refine eF ?_ ?_ ?_|refine eN ?_|refine eL ?_ ?_ ?_|refine eA ?_ ?_|refine az.mk ⟨_,hp,rfl⟩ ?_ ?_)|refine az.mk ⟨_,hp,rfl⟩ ?_ ?_)
        all_goals try first|with_reducible rfl|omega|exact .inl (by decide)|(simp; done)|rfl
        rw[dK hx]; simp
        rw[dK hx]; simp
      ·rw[show m.uv.take i=m.uv from List.take_of_length_le (by omega)]
       have hB2:(B++m.uv.flatMap rN).length≤800:=by
        simp only[List.length_append,Jl]; omega
       generalize B++m.uv.flatMap rN=C at hB2 ⊢
       refine sh ?_
       refine gZ 100 (fun i:Nat=>i≤m.t.length) (fun i=>⟨[(5,.bh 1 (C++(m.t.take i).flatMap xb).length),(67,.aO 3 (bF m.t)),(68,.int .i64 m.t.length),(69,.int .i64 i)],[(1,.arr (R.ty 4) 1 (bc (C++(m.t.take i).flatMap xb)))],2⟩) (fun i=>m.t.length - i) (0) ?_ ?_
       ·exact Nat.zero_le _
       ·intro i hi
        dsimp only
        refine sh ?_
        refine cS (fun h4=> ?_) (fun h4=> ?_)
        ·obtain⟨y,hy⟩:∃u_,m.t[i]? =some u_:=⟨_,List.getElem?_eq_getElem (by first|omega|(simp<;>omega))⟩
         refine sh ?_
         refine ah hy ?_
         have NA:=may.pt y (List.mem_of_getElem? hy)
         refine sh ?_
         refine nD ?_ (by simp only[gx,List.length_append,Sm,List.length_take]; simp; omega)
         refine sh ?_
         refine nX (i+1) ?_ ?_ ⟨_,hp,rfl⟩ ?_ ?_
         ·omega
         ·omega
         ·all_goals repeat' (first|exact True.intro|refine And.intro ?_ ?_|(intro _u; clear _u)|(with_reducible first|exact aw.fg|refine eM ?_ ?_|refine eF ?_ ?_ ?_|refine eN ?_|refine eL ?_ ?_ ?_|refine eA ?_ ?_|refine az.mk ⟨_,hp,rfl⟩ ?_ ?_)|refine az.mk ⟨_,hp,rfl⟩ ?_ ?_)
          all_goals try first|with_reducible rfl|omega|exact .inl (by decide)|(simp; done)|rfl
          rw[dK hy]; simp[xb]
         ·all_goals repeat' (first|exact True.intro|refine And.intro ?_ ?_|(intro _u; clear _u)|(with_reducible first|exact aw.fg|refine eM ?_ ?_|refine eF ?_ ?_ ?_|refine eN ?_|refine eL ?_ ?_ ?_|refine eA ?_ ?_|refine az.mk ⟨_,hp,rfl⟩ ?_ ?_)|refine az.mk ⟨_,hp,rfl⟩ ?_ ?_)
          all_goals try first|with_reducible rfl|omega|exact .inl (by decide)|(simp; done)|rfl
          rw[dK hy]; simp[xb,bc]
          refine⟨(u8_in ?_).symm,(u8_in ?_).symm,(u8_in ?_).symm⟩<;>omega
        ·rw[show m.t.take i=m.t from List.take_of_length_le (by omega)]
         refine sh ?_
         exact rT
end Go.UM
namespace Go.UM
open Go.AM
set_option maxRecDepth 4000
end Go.UM
namespace Go.UM
open Go.AM
set_option maxRecDepth 4000
structure ej where
 k:Int
 c:T3
 r:Int
def ej.row (m:ej):List AV:=[.int .i64 m.k,.int .i64 m.c.a,.int .i64 m.c.b,.int .i64 m.c.c,.int .i64 m.r]
structure ed where
 k:Int
 c:T3
 p:T3
 u:T3
 v:T3
def ed.row (l:ed):List AV:=[.int .i64 l.k,.int .i64 l.c.a,.int .i64 l.c.b,.int .i64 l.c.c,.int .i64 l.p.a,.int .i64 l.p.b,.int .i64 l.p.c,.int .i64 l.u.a,.int .i64 l.u.b,.int .i64 l.u.c,.int .i64 l.v.a,.int .i64 l.v.b,.int .i64 l.v.c]
def outs (n x:Int):Bool:=decide (x<0∨n<x)
def xd (m:ej):Int:=if m.k<0∨4<m.k∨m.r<0∨65535<m.r∨m.c.a<0∨65535<m.c.a∨m.c.b<0∨65535<m.c.b∨m.c.c<0∨65535<m.c.c then 5 else 0
def rO (R:Env) (n:Int):aj:=[(0,.var (R.ty 10) [.int .i64 n])]
theorem Mw {R:Env} (h:Ll R) (n x:Int):R.Mc 322 [.int .i64 x,.loc 0 1 0 0] (rO R n) (.bool (outs n x)) (rO R n) 1:=
 h.VI.cr 60 1 rfl rfl rfl fun X bb hfit hp=>by
  unfold outs
  refine sh ?_
  refine cS (fun h1=> ?_) (fun h1=> ?_)
  ·refine sh ?_
   refine rM [0] ?_
   all_goals repeat' (first|exact True.intro|refine And.intro ?_ ?_|(intro _u; clear _u)|(with_reducible first|exact aw.fg|refine eM ?_ ?_|refine eF ?_ ?_ ?_|refine eN ?_|refine eL ?_ ?_ ?_|refine eA ?_ ?_|refine az.mk ⟨_,hp,rfl⟩ ?_ ?_)|refine az.mk ⟨_,hp,rfl⟩ ?_ ?_)
   all_goals try first|with_reducible rfl|omega|exact .inl (by decide)|(simp; done)|rfl
   simp; omega
  ·refine sh ?_
   refine rM [0] ?_
   all_goals repeat' (first|exact True.intro|refine And.intro ?_ ?_|(intro _u; clear _u)|(with_reducible first|exact aw.fg|refine eM ?_ ?_|refine eF ?_ ?_ ?_|refine eN ?_|refine eL ?_ ?_ ?_|refine eA ?_ ?_|refine az.mk ⟨_,hp,rfl⟩ ?_ ?_)|refine az.mk ⟨_,hp,rfl⟩ ?_ ?_)
   all_goals try first|with_reducible rfl|omega|exact .inl (by decide)|(simp; done)|rfl
   rw[Bool.eq_iff_iff]; simp only[decide_eq_true_eq]; omega
theorem EZ {R:Env} (h:KG R) (g:Nat) (l:List Int) (p:Int→Bool) (n:Int) (hc:∀x ∈ l,R.Mc g [.int .i64 x,.loc 0 1 0 0] (rO R n) (.bool (p x)) (rO R n) 1) (hl:l.length≤1073741824):
  R.Mc 324 [.aO 1 (aY .i64 l),R.cl g [.loc 0 1 0 0]] (rO R n) (.int .i64 (nq l p)) (rO R n) 1:=
 h.Vy.cr 100 1 rfl rfl rfl fun X bb hfit hp=>by
  refine sh ?_
  refine gZ 100 (fun i:Nat=>i≤l.length∧(l.take i).any p=false) (fun i=>⟨[(0,.aO 1 (aY .i64 l)),(1,R.cl g [.loc 0 1 0 0]),(7,.int .i64 l.length),(8,.int .i64 i)],rO R n,1⟩) (fun i=>l.length - i) (0) ?_ ?_
  ·exact⟨Nat.zero_le _,by simp⟩
  ·intro i hi
   dsimp only
   refine sh ?_
   refine cS (fun h1=> ?_) (fun h1=> ?_)
   ·obtain⟨x,hx⟩:∃u_,l[i]? =some u_:=⟨_,List.getElem?_eq_getElem (by first|omega|(simp<;>omega))⟩
    refine sh ?_
    refine ah hx ?_
    refine sh ?_
    refine cM false [0] (hc x (List.mem_of_getElem? hx)) ?_
    repeat (intro _; first|refine eK ?_|refine eP ?_)
    refine sh ?_
    refine cS (fun h2=> ?_) (fun h2=> ?_)
    ·refine sh ?_
     refine rM [0] ?_
     all_goals repeat' (first|exact True.intro|refine And.intro ?_ ?_|(intro _u; clear _u)|(with_reducible first|exact aw.fg|refine eM ?_ ?_|refine eF ?_ ?_ ?_|refine eN ?_|refine eL ?_ ?_ ?_|refine eA ?_ ?_|refine az.mk ⟨_,hp,rfl⟩ ?_ ?_)|refine az.mk ⟨_,hp,rfl⟩ ?_ ?_)
     all_goals try first|with_reducible rfl|omega|exact .inl (by decide)|(simp; done)|rfl
     unfold nq
     rw[if_pos (vk hx h2),nu hx h2 hi.2]
    ·refine sh ?_
     refine r8 (i+1) ?_ ?_
     ·refine⟨by omega,?_⟩
      rw[fK hx,hi.2,h2]; rfl
     ·omega
   ·refine sh ?_
    refine rM [0] ?_
    all_goals repeat' (first|exact True.intro|refine And.intro ?_ ?_|(intro _u; clear _u)|(with_reducible first|exact aw.fg|refine eM ?_ ?_|refine eF ?_ ?_ ?_|refine eN ?_|refine eL ?_ ?_ ?_|refine eA ?_ ?_|refine az.mk ⟨_,hp,rfl⟩ ?_ ?_)|refine az.mk ⟨_,hp,rfl⟩ ?_ ?_)
    all_goals try first|with_reducible rfl|omega|exact .inl (by decide)|(simp; done)|rfl
    unfold nq
    have h3:=hi.2
    rw[List.take_of_length_le (by omega)]at h3
    rw[if_neg (by simp[h3])]
theorem Ce {R:Env} (h:KH R) (g:Nat) (l:List Int) (p:Int→Bool) (n:Int) (hc:∀x ∈ l,R.Mc g [.int .i64 x,.loc 0 1 0 0] (rO R n) (.bool (p x)) (rO R n) 1) (hl:l.length≤1073741824):
  R.Mc 323 [.aO 1 (aY .i64 l),R.cl g [.loc 0 1 0 0]] (rO R n) (.bool (l.any p)) (rO R n) 1:=
 h.Vz.cr 100 1 rfl rfl rfl fun X bb hfit hp=>by
  refine sh ?_
  refine cM false [0] (EZ h.n324 g l p n hc hl) ?_
  repeat (intro _; first|refine eK ?_|refine eP ?_)
  refine sh ?_
  refine rM [0] ?_
  all_goals repeat' (first|exact True.intro|refine And.intro ?_ ?_|(intro _u; clear _u)|(with_reducible first|exact aw.fg|refine eM ?_ ?_|refine eF ?_ ?_ ?_|refine eN ?_|refine eL ?_ ?_ ?_|refine eA ?_ ?_|refine az.mk ⟨_,hp,rfl⟩ ?_ ?_)|refine az.mk ⟨_,hp,rfl⟩ ?_ ?_)
  all_goals try first|with_reducible rfl|omega|exact .inl (by decide)|(simp; done)|rfl
  exact pZ
theorem lu {R:Env} (h:Ht R) (n:Int) (l:List Int) (hl:l.length≤1073741824):R.Pc 307 [.int .i64 n,.aO 1 (aY .i64 l)] (.bool (l.any (outs n))):=
 h.Ey.enter 100 rfl fun X bb hfit hp=>by
  refine sh ?_
  refine cM false [0] (Ce h.n323 322 l (outs n) n (fun x _=>Mw h.n322 n x) hl) ?_
  repeat (intro _; first|refine eK ?_|refine eP ?_)
  refine sh ?_
  exact rT
theorem Mx {R:Env} (h:Lm R) (m:ej):R.Pc 290 [.agg m.row] (.int .i64 (xd m)):=
 h.QU.enter 100 rfl fun X bb hfit hp=>by
  generalize hq:xd m=q
  refine sh ?_
  refine cM true [] ((lu h.n307 4 [m.k] (by simp)).mc h.n307.Ey.hb) ?_
  repeat (intro _; first|refine eK ?_|refine eP ?_)
  refine sh ?_
  refine cS (fun h1=> ?_) (fun h1=> ?_)
  ·simp[outs]at h1
   rw[xd,if_pos (by omega)]at hq
   subst hq
   refine sh ?_
   exact rT
  ·refine sh ?_
   refine cM true [] ((lu h.n307 65535 [m.c.a,m.c.b,m.c.c,m.r] (by simp)).mc h.n307.Ey.hb) ?_
   repeat (intro _; first|refine eK ?_|refine eP ?_)
   refine sh ?_
   refine cS (fun h2=> ?_) (fun h2=> ?_)
   ·simp[outs]at h2
    rw[xd,if_pos (by omega)]at hq
    subst hq
    refine sh ?_
    exact rT
   ·simp[outs]at h1 h2
    rw[xd,if_neg (by omega)]at hq
    subst hq
    refine sh ?_
    exact rT
def Sp (p:T3):Bool:=p.a==0&&(p.b==0&&p.c==0)
def xe (l:ed):Int:=if l.k<0∨2<l.k∨l.c.a<0∨1048576<l.c.a∨l.c.b<0∨1048576<l.c.b∨l.c.c<0∨1048576<l.c.c then 5
 else if lB l.p=true∨lB l.u=true∨lB l.v=true then 8
 else if l.k=2∧Sp l.p=false∨l.k≠1∧(Sp l.u=false∨Sp l.v=false)then 5 else 0
theorem rP {R:Env} (h:Ln R) (p:T3):R.Pc 308 [.agg (t3 p)] (.bool (lB p)):=
 h.Hu.enter 60 rfl fun X bb hfit hp=>by
  unfold lB
  refine sh ?_
  refine cS (fun h1=> ?_) (fun h1=> ?_)
  ·refine sh ?_
   refine rT ?_
   all_goals repeat' (first|exact True.intro|refine And.intro ?_ ?_|(intro _u; clear _u)|(with_reducible first|exact aw.fg|refine eM ?_ ?_|refine eF ?_ ?_ ?_|refine eN ?_|refine eL ?_ ?_ ?_|refine eA ?_ ?_|refine az.mk ⟨_,hp,rfl⟩ ?_ ?_)|refine az.mk ⟨_,hp,rfl⟩ ?_ ?_)
   all_goals try first|with_reducible rfl|omega|exact .inl (by decide)|(simp; done)|rfl
   simp; omega
  ·refine sh ?_
   refine rT ?_
   all_goals repeat' (first|exact True.intro|refine And.intro ?_ ?_|(intro _u; clear _u)|(with_reducible first|exact aw.fg|refine eM ?_ ?_|refine eF ?_ ?_ ?_|refine eN ?_|refine eL ?_ ?_ ?_|refine eA ?_ ?_|refine az.mk ⟨_,hp,rfl⟩ ?_ ?_)|refine az.mk ⟨_,hp,rfl⟩ ?_ ?_)
   all_goals try first|with_reducible rfl|omega|exact .inl (by decide)|(simp; done)|rfl
   rw[Bool.eq_iff_iff]; simp only[Bool.not_eq_true',decide_eq_true_eq,decide_eq_false_iff_not]; omega
theorem My {R:Env} (h:Lo R) (l:ed):R.Pc 292 [.agg l.row] (.int .i64 (xe l)):=
 h.QX.enter 100 rfl fun X bb hfit hp=>by
  generalize hq:xe l=q
  refine sh ?_
  refine aq.let [0] rfl hp rfl ?_
  repeat ((intro _u; clear _u); first|refine eZ ?_|refine eZ ?_ (by simp; omega)|refine Ec.drop ?_)
  refine sh ?_
  refine cM true [] ((lu h.n307 2 [l.k] (by simp)).mc h.n307.Ey.hb) ?_
  repeat (intro _; first|refine eK ?_|refine eP ?_)
  refine sh ?_
  refine cS (fun h1=> ?_) (fun h1=> ?_)
  ·simp[outs]at h1
   rw[xe,if_pos (by omega)]at hq
   subst hq
   refine sh ?_
   exact rT
  ·refine sh ?_
   refine aq.pure h.n307.Ey.hb (lu h.n307 1048576 [l.c.a,l.c.b,l.c.c] (by simp)) rfl ?_
   refine sh ?_
   refine cS (fun h2=> ?_) (fun h2=> ?_)
   ·simp[outs]at h2
    rw[xe,if_pos (by omega)]at hq
    subst hq
    refine sh ?_
    exact rT
   ·simp[outs]at h1 h2
    rw[xe,if_neg (by omega)]at hq
    refine sh ?_
    refine aq.pure h.n308.Hu.hb (rP h.n308 l.p) rfl ?_
    refine sh ?_
    refine cS (fun h3=> ?_) (fun h3=> ?_)
    ·rw[if_pos (.inl h3)]at hq
     subst hq
     refine sh ?_
     exact rT
    ·refine sh ?_
     refine aq.pure h.n308.Hu.hb (rP h.n308 l.u) rfl ?_
     refine sh ?_
     refine cS (fun h4=> ?_) (fun h4=> ?_)
     ·rw[if_pos (.inr (.inl h4))]at hq
      subst hq
      refine sh ?_
      exact rT
     ·refine sh ?_
      refine aq.pure h.n308.Hu.hb (rP h.n308 l.v) rfl ?_
      refine sh ?_
      refine cS (fun h5=> ?_) (fun h5=> ?_)
      ·rw[if_pos (.inr (.inr h5))]at hq
       subst hq
       refine sh ?_
       exact rT
      ·rw[if_neg (by simp[h3,h4,h5])]at hq
       refine sh ?_
       refine cS (fun h6=> ?_) (fun h6=> ?_)
       ·refine sh ?_
        refine cS (fun h7=> ?_) (fun h7=> ?_)
        ·rw[if_pos (.inl ⟨h6,h7⟩)]at hq
         subst hq
         refine sh ?_
         exact rT
        ·refine sh ?_
         refine cS (fun h8=> ?_) (fun h8=> ?_)
         ·rw[if_pos (.inr ⟨by omega,.inl h8⟩)]at hq
          subst hq
          refine sh ?_
          exact rT
         ·refine sh ?_
          refine cS (fun h9=> ?_) (fun h9=> ?_)
          ·rw[if_pos (.inr ⟨by omega,.inr h9⟩)]at hq
           subst hq
           refine sh ?_
           exact rT
          ·rw[if_neg (by simp[Sp,h7,h8,h9])]at hq
           subst hq
           refine sh ?_
           exact rT
       ·refine sh ?_
        refine cS (fun h7=> ?_) (fun h7=> ?_)
        ·refine sh ?_
         refine cS (fun h8=> ?_) (fun h8=> ?_)
         ·rw[if_pos (.inr ⟨by omega,.inl h8⟩)]at hq
          subst hq
          refine sh ?_
          exact rT
         ·refine sh ?_
          refine cS (fun h9=> ?_) (fun h9=> ?_)
          ·rw[if_pos (.inr ⟨by omega,.inr h9⟩)]at hq
           subst hq
           refine sh ?_
           exact rT
          ·rw[if_neg (by simp[Sp,h6,h8,h9])]at hq
           subst hq
           refine sh ?_
           exact rT
        ·have h10:l.k=1:=by omega
         rw[if_neg (by simp[h10])]at hq
         subst hq
         refine sh ?_
         exact rT
end Go.UM
namespace Go.UM
open Go.AM
set_option maxRecDepth 4000
def idx (l:List Int) (x:Int):Int:=if x ∈ l then (l.idxOf x:Int)else -1
theorem xf {x:Int}:∀ {l:List Int} {i:Nat},l[i]? =some x→x ∉ l.take i→l.idxOf x=i
 |[],_,h,_=>by simp at h
 |a::r,0,h,_=>by simp at h; simp[h]
 |a::r,i+1,h,hn=>by
  simp only[List.take_succ_cons,List.mem_cons,not_or]at hn
  rw[List.idxOf_cons]
  have:(a==x)=false:=by simpa using fun e=>hn.1 e.symm
  rw[this,xf (by simpa using h) hn.2]
  rfl
theorem H7 {R:Env} (h:Kv R) (l:List Int) (x:Int) (hl:l.length≤1073741824):R.Pc 106 [.aO 1 (aY .i64 l),.int .i64 x] (.int .i64 (idx l x)):=
 h.Pl.enter 100 rfl fun X bb hfit hp=>by
  refine sh ?_
  refine gZ 100 (fun i:Nat=>i≤l.length∧x ∉ l.take i) (fun i=>⟨[(0,.aO 1 (aY .i64 l)),(1,.int .i64 x),(7,.int .i64 l.length),(8,.int .i64 i)],[],0⟩) (fun i=>l.length - i) (0) ?_ ?_
  ·exact⟨Nat.zero_le _,by simp⟩
  ·intro i hi
   dsimp only
   refine sh ?_
   refine cS (fun h1=> ?_) (fun h1=> ?_)
   ·obtain⟨y,hy⟩:∃u_,l[i]? =some u_:=⟨_,List.getElem?_eq_getElem (by first|omega|(simp<;>omega))⟩
    refine sh ?_
    refine ah hy ?_
    refine sh ?_
    refine cS (fun h2=> ?_) (fun h2=> ?_)
    ·subst h2
     refine sh ?_
     refine rT ?_
     all_goals repeat' (first|exact True.intro|refine And.intro ?_ ?_|(intro _u; clear _u)|(with_reducible first|exact aw.fg|refine eM ?_ ?_|refine eF ?_ ?_ ?_|refine eN ?_|refine eL ?_ ?_ ?_|refine eA ?_ ?_|refine az.mk ⟨_,hp,rfl⟩ ?_ ?_)|refine az.mk ⟨_,hp,rfl⟩ ?_ ?_)
     all_goals try first|with_reducible rfl|omega|exact .inl (by decide)|(simp; done)|rfl
     unfold idx
     rw[if_pos (List.mem_of_getElem? hy),xf hy hi.2]
    ·refine sh ?_
     refine r8 (i+1) ?_ ?_
     ·refine⟨by omega,?_⟩
      rw[aA hy]
      simp only[List.mem_append,List.mem_singleton,not_or]
      exact⟨hi.2,h2⟩
     ·omega
   ·refine sh ?_
    refine rT ?_
    all_goals repeat' (first|exact True.intro|refine And.intro ?_ ?_|(intro _u; clear _u)|(with_reducible first|exact aw.fg|refine eM ?_ ?_|refine eF ?_ ?_ ?_|refine eN ?_|refine eL ?_ ?_ ?_|refine eA ?_ ?_|refine az.mk ⟨_,hp,rfl⟩ ?_ ?_)|refine az.mk ⟨_,hp,rfl⟩ ?_ ?_)
    all_goals try first|with_reducible rfl|omega|exact .inl (by decide)|(simp; done)|rfl
    unfold idx
    rw[if_neg]
    rw[←List.take_of_length_le (l:=l) (i:=i) (by omega)]
    exact hi.2
theorem zb {R:Env} (h:Kw R) (l:List Int) (x:Int) (hl:l.length≤1073741824):R.Pc 100 [.aO 1 (aY .i64 l),.int .i64 x] (.bool (decide (x ∈ l))):=
 h.Pn.enter 100 rfl fun X bb hfit hp=>by
  refine sh ?_
  refine aq.pure h.n106.Pl.hb (H7 h.n106 l x hl) rfl ?_
  refine sh ?_
  refine rT ?_
  all_goals repeat' (first|exact True.intro|refine And.intro ?_ ?_|(intro _u; clear _u)|(with_reducible first|exact aw.fg|refine eM ?_ ?_|refine eF ?_ ?_ ?_|refine eN ?_|refine eL ?_ ?_ ?_|refine eA ?_ ?_|refine az.mk ⟨_,hp,rfl⟩ ?_ ?_)|refine az.mk ⟨_,hp,rfl⟩ ?_ ?_)
  all_goals try first|with_reducible rfl|omega|exact .inl (by decide)|(simp; done)|rfl
  unfold idx
  by_cases hx:x ∈ l
  ·rw[if_pos hx]; simp[hx]
  ·rw[if_neg hx]; simp[hx]
end Go.UM
