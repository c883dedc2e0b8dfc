/- Of the reckoning machine, and what is proved with it: texts joined by program. -/
import Derived.Test.YtahjfplikclhlaaGreatK3
import Derived.Laws.Externs
set_option linter.all false
namespace Go.UM
open Go.AM
namespace Z
instance (n:Nat):OfNat Sc n:=⟨.t (OfNat.ofNat n)⟩
instance (n:Nat):OfNat uV n:=⟨.t (OfNat.ofNat n)⟩
theorem zt (n:Nat):(OfNat.ofNat n:Sc)=.t (OfNat.ofNat n):=rfl
theorem zr (n:Nat):(OfNat.ofNat n:uV)=.t (OfNat.ofNat n):=rfl
def o (d:Nat) (x:tz):bY:=⟨some d,none,x⟩
def m (d:Nat) (x:Sc):bY:=⟨some d,none,.mv x⟩
def l (d n:Nat) (x:Sc):bY:=⟨some d,none,.load false n x⟩
def g (d n:Nat) (x:Sc):bY:=⟨some d,none,.load true n x⟩
def f (d n:Nat) (x:Sc):bY:=⟨some d,none,.aC n x⟩
def b (d:Nat) (p:BinOp) (x y:Sc):bY:=⟨some d,none,.bin p x y⟩
def c (d n:Nat) (l:List Sc):bY:=⟨some d,none,.call n l⟩
def e (d:Nat) (x:Sc) (n:Nat):bY:=⟨some d,none,.ext x n⟩
def n (d:Nat) (x:Sc):bY:=⟨some d,none,.gh x⟩
def w (d:Nat) (c a b:Sc):bY:=⟨some d,none,.pick c a b⟩
def x (d n:Nat) (a:Sc):bY:=⟨some d,none,.box n a⟩
def a (d n:Nat) (z:List AV):bY:=⟨some d,none,.alloc n z⟩
def u (d n:Nat) (x i:Sc):bY:=⟨some d,none,.jN n x i⟩
def v (x:tz):bY:=⟨none,none,x⟩
def r (n:Nat) (x y:Sc):bY:=⟨none,none,.store n x y⟩
def i (n:Int):Sc:=.k (.int .i64 n)
def j (n:Int):AV:=.int .i64 n
def k (l:List Nat) (c:cr):cr:=.qH l c
def q (l:List bY) (c:cr):cr:=.seq (.ops l) c
def s (a b:cr):cr:=.seq a b
def p (l:List bY):cr:=.ops l
def h (c:Sc) (a b:cr):cr:=.cond c a b
def t (l:List bY):cr:=.seq (.ops l) .ret
def y (l:List Nat) (o:List bY) (c:cr):cr:=.qH l (.seq (.ops o) c)
def Z1:List AV:=[j 0,j 0,.int .u64 0,j 0,.int .u32 0,.int .u8 0,.int .u8 0,.int .u8 0,.int .u8 0,.int .u8 0,.int .u8 0,.int .u8 0,.int .u8 0,.int .u32 0,.int .u32 0,j 0,j 0,j 0,.ap,.ap,.ap,j 0,.ap,j 0,j 0,j 0,j 0,j 0,j 0,j 0,j 0,j 0,j 0,j 0,j 0,j 0,j 0,j 0,j 0,j 0,j 0,j 0,j 0,j 0,j 0,j 0,j 0,j 0,j 0,j 0,j 0,j 0,j 0,j 0,j 0,j 0,j 0]
def Z2:List AV:=[j 0,.int .u64 0,j 0,.int .u32 0,.int .u8 0,.int .u8 0,.int .u8 0,.int .u8 0,.int .u8 0,.int .u8 0,.int .u8 0,.int .u8 0,.int .u32 0,.int .u32 0,j 0,j 0,j 0,.ap,.ap,.ap,j 0,.ap,j 0,j 0,j 0,j 0,j 0,j 0,j 0,j 0,j 0,j 0,j 0,j 0,j 0,j 0,j 0,j 0,j 0,j 0]
def Z3:List AV:=[.int .u64 0,j 0,.int .u32 0,.int .u8 0,.int .u8 0,.int .u8 0,.int .u8 0,.int .u8 0,.int .u8 0,.int .u8 0,.int .u8 0,.int .u32 0,.int .u32 0,j 0,j 0]
def Z4:List AV:=[j 0,.ap,.ap,.ap,j 0,.ap,j 0,j 0,j 0,j 0,j 0,j 0,j 0,j 0,j 0,j 0,j 0,j 0,j 0,j 0,j 0,j 0,j 0,j 0]
def Z5:List AV:=[j 0,j 0,j 0,j 0,j 0,j 0,j 0,j 0,j 0,j 0,j 0,j 0,j 0,j 0,j 0,j 0]
def Z6:List AV:=[j 0,j 0,j 0,j 0,j 0,j 0,j 0,j 0,j 0,j 0,j 0,j 0,j 0]
def Z7:List AV:=[j 0,j 0,j 0,j 0,j 0,j 0,j 0,j 0,j 0,j 0,j 0,j 0]
@[reducible] def Nf {b:bo} (a:bo) (_:a=b:=by dsimp only[zt,zr,o,m,l,g,f,b,c,e,n,w,x,a,u,v,r,i,j,k,q,s,p,h,t,y,Z1,Z2,Z3,Z4,Z5,Z6,Z7]):bo:=b
end Z
open Z
def c62:bo:=Nf ⟨1,[2],q [m 2 (.k .ap)] (s (q [m 3 0,o 4 (.yA false 3)] (h 4 (t [m 2 (.k .ap)]) .skip)) (k [0] (t [o 5 (.aI 4 1 0 [.int .u8 0] []),m 6 0,o 7 (.app 4 1 5 6),m 2 7])))⟩
structure V8 (R:Env):Prop where
 o62:R.Fn 62 c62
def O3:bo:=Nf ⟨2,[4],q [m 4 (i 0)] (s (q [m 6 0,n 7 6,m 8 (i 0)] (k [0,1,7,8] (.block 0 (.loop (q [b 9 .lss 8 7] (s (h 9 .skip (.exit 0)) (k [0,1,7,8] (s (.block 1 (q [m 10 8,m 5 10] (q [m 11 1,m 12 0,m 13 5,u 14 1 12 13,l 15 1 14,b 16 .eql 11 15] (k [0,1,5,7,8,16] (h 16 (t [m 17 5,m 4 17]) .skip))))) (k [0,1,7,8] (p [b 18 .add 8 (i 1),m 8 18])))))))))) (k [] (t [m 4 (i (-1))])))⟩
structure Kq (R:Env):Prop where
 O4:R.Fn 106 O3
def O5:bo:=Nf ⟨2,[4],q [m 4 (.k (.bool false))] (q [m 5 0,m 6 1,c 7 106 [5,6],b 8 .geq 7 (i 0),m 4 8] (k [4] .ret))⟩
structure Kr (R:Env):Prop where
 O6:R.Fn 100 O5
 n106:Kq R
def O7:bo:=Nf ⟨1,[2],q [m 2 (.k .ap)] (s (q [m 3 0,o 4 (.yA false 3)] (h 4 (t [m 2 (.k .ap)]) .skip)) (k [0] (t [o 5 (.aI 13 3 0 [j 0,j 0,j 0] []),m 6 0,o 7 (.app 13 3 5 6),m 2 7])))⟩
structure G3 (R:Env):Prop where
 Ks:R.Fn 101 O7
def O8:bo:=Nf ⟨2,[4],q [m 4 (i 0)] (s (q [m 6 0,n 7 6,m 8 (i 0)] (k [0,1,7,8] (.block 0 (.loop (q [b 9 .lss 8 7] (s (h 9 .skip (.exit 0)) (k [0,1,7,8] (s (.block 1 (q [m 10 8,m 5 10] (q [m 11 1,m 12 0,m 13 5,u 14 3 12 13,g 15 3 14,o 16 (.gC 11 [15])] (k [0,1,5,7,8,16] (h 16 (t [m 17 5,m 4 17]) .skip))))) (k [0,1,7,8] (p [b 18 .add 8 (i 1),m 8 18])))))))))) (k [] (t [m 4 (i (-1))])))⟩
structure Kt (R:Env):Prop where
 O9:R.Fn 217 O8
def O':bo:=Nf ⟨2,[4],q [m 4 (.k (.bool false))] (q [m 5 0,m 6 1,c 7 217 [5,6],b 8 .geq 7 (i 0),m 4 8] (k [4] .ret))⟩
structure Ku (R:Env):Prop where
 Pa:R.Fn 209 O'
 n217:Kt R
def Pb:bo:=Nf ⟨2,[4],q [m 4 (i 0)] (s (q [m 6 0,n 7 6,m 8 (i 0)] (k [0,1,7,8] (.block 0 (.loop (q [b 9 .lss 8 7] (s (h 9 .skip (.exit 0)) (k [0,1,7,8] (s (.block 1 (q [m 10 8,m 5 10] (q [m 11 1,m 12 0,m 13 5,u 14 2 12 13,g 15 2 14,o 16 (.gC 11 [15])] (k [0,1,5,7,8,16] (h 16 (t [m 17 5,m 4 17]) .skip))))) (k [0,1,7,8] (p [b 18 .add 8 (i 1),m 8 18])))))))))) (k [] (t [m 4 (i (-1))])))⟩
structure Kv (R:Env):Prop where
 Pd:R.Fn 218 Pb
def Pe:bo:=Nf ⟨2,[4],q [m 4 (.k (.bool false))] (q [m 5 0,m 6 1,c 7 218 [5,6],b 8 .geq 7 (i 0),m 4 8] (k [4] .ret))⟩
structure Kw (R:Env):Prop where
 Pf:R.Fn 210 Pe
 n218:Kv R
def Pg:bo:=Nf ⟨2,[4],q [m 4 (i 0)] (s (q [m 6 0,n 7 6,m 8 (i 0)] (k [0,1,7,8] (.block 0 (.loop (q [b 9 .lss 8 7] (s (h 9 .skip (.exit 0)) (k [0,1,7,8] (s (.block 1 (q [m 10 8,m 5 10] (q [m 11 1,m 12 0,m 13 5,u 14 3 12 13,g 15 3 14,o 16 (.gC 11 [15])] (k [0,1,5,7,8,16] (h 16 (t [m 17 5,m 4 17]) .skip))))) (k [0,1,7,8] (p [b 18 .add 8 (i 1),m 8 18])))))))))) (k [] (t [m 4 (i (-1))])))⟩
structure Kx (R:Env):Prop where
 V9:R.Fn 219 Pg
def Ph:bo:=Nf ⟨2,[4],q [m 4 (.k (.bool false))] (q [m 5 0,m 6 1,c 7 219 [5,6],b 8 .geq 7 (i 0),m 4 8] (k [4] .ret))⟩
structure Ky (R:Env):Prop where
 V':R.Fn 211 Ph
 n219:Kx R
def Pj:bo:=Nf ⟨2,[4,5],q [m 4 (.k (.int .u64 0)),m 5 (.k (.int .u64 0))] (q [m 14 0,b 15 .and 14 (.k (.int .u64 4294967295)),m 6 15] (q [m 16 0,b 17 .shr 16 (.k (.int .u64 32)),m 7 17] (q [m 18 1,b 19 .and 18 (.k (.int .u64 4294967295)),m 8 19] (q [m 20 1,b 21 .shr 20 (.k (.int .u64 32)),m 9 21] (q [m 22 6,m 23 8,b 24 .mul 22 23,m 10 24] (q [m 25 7,m 26 8,b 27 .mul 25 26,m 28 10,b 29 .shr 28 (.k (.int .u64 32)),b 30 .add 27 29,m 11 30] (y [0,1,6,7,9,11] [m 31 11,b 32 .and 31 (.k (.int .u64 4294967295)),m 12 32] (q [m 33 11,b 34 .shr 33 (.k (.int .u64 32)),m 13 34] (q [m 35 12,m 36 6,m 37 9,b 38 .mul 36 37,b 39 .add 35 38,m 12 39] (y [0,1,7,9,12,13] [m 40 7,m 41 9,b 42 .mul 40 41,m 43 13,b 44 .add 42 43,m 45 12,b 46 .shr 45 (.k (.int .u64 32)),b 47 .add 44 46,m 4 47] (k [0,1,4] (t [m 48 0,m 49 1,b 50 .mul 48 49,m 5 50]))))))))))))⟩
structure G4 (R:Env):Prop where
 Kz:R.Fn 276 Pj
structure Pk (R:Env):Prop where
 Pl:R.Xn 286 "math/bits.Sub64"
def Pm:bo:=Nf ⟨2,[4],q [m 4 (i 0)] (s (q [m 6 0,n 7 6,m 8 (i 0)] (k [0,1,7,8] (.block 0 (.loop (q [b 9 .lss 8 7] (s (h 9 .skip (.exit 0)) (k [0,1,7,8] (s (.block 1 (q [m 10 8,m 5 10] (q [m 11 1,m 12 0,m 13 5,u 14 1 12 13,l 15 1 14,o 16 (.gC 11 [15])] (k [0,1,5,7,8,16] (h 16 (t [m 17 5,m 4 17]) .skip))))) (k [0,1,7,8] (p [b 18 .add 8 (i 1),m 8 18])))))))))) (k [] (t [m 4 (i (-1))])))⟩
structure KA (R:Env):Prop where
 Wa:R.Fn 324 Pm
def Pn:bo:=Nf ⟨2,[4],q [m 4 (.k (.bool false))] (q [m 5 0,m 6 1,c 7 324 [5,6],b 8 .geq 7 (i 0),m 4 8] (k [4] .ret))⟩
structure KB (R:Env):Prop where
 Wb:R.Fn 323 Pn
 n324:KA R
def Po:bo:=Nf ⟨1,[2],q [m 2 (.k .ap)] (s (q [m 3 0,o 4 (.yA false 3)] (h 4 (t [m 2 (.k .ap)]) .skip)) (k [0] (t [o 5 (.aI 26 3 0 [j 0,j 0,j 0] []),m 6 0,o 7 (.app 26 3 5 6),m 2 7])))⟩
structure G5 (R:Env):Prop where
 Pp:R.Fn 361 Po
def Pq:bo:=Nf ⟨1,[2],q [m 2 (.k .ap)] (s (q [m 3 0,o 4 (.yA false 3)] (h 4 (t [m 2 (.k .ap)]) .skip)) (k [0] (t [o 5 (.aI 18 2 0 [j 0,j 0] []),m 6 0,o 7 (.app 18 2 5 6),m 2 7])))⟩
structure G6 (R:Env):Prop where
 Pr:R.Fn 362 Pq
def Ps:bo:=Nf ⟨2,[],q [l 4 1 1,o 5 (.JX 4)] (k [0,5] (.block 0 (.loop (q [o 6 (.Nz 5),e 7 6 0] (s (h 7 .skip (.exit 0)) (k [0,5] (.block 1 (q [o 8 (.F9 5),e 9 8 0,m 3 9] (q [m 10 0,m 11 3,o 12 (.gC 10 [11]),o 13 (.un .not 12)] (h 13 .ret .skip))))))))))⟩
structure Pt (R:Env):Prop where
 abL:R.Fn 447 Ps
def Pu:bo:=Nf ⟨1,[2],q [x 1 57 0,m 2 (.k .ar)] (t [o 3 (.Ny 447 [1]),m 2 3])⟩
structure KC (R:Env):Prop where
 Wd:R.Fn 433 Pu
 Pv:Pt R
structure Pw (R:Env):Prop where
 We:R.As 434
structure Px (R:Env):Prop where
 Py:R.As 435
def PA:bo:=Nf ⟨1,[2],q [m 2 (.k (.bool false))] (t [m 3 0,m 4 0,b 5 .neq 3 4,m 2 5])⟩
structure KD (R:Env):Prop where
 KE:R.Fn 468 PA
def PB:bo:=Nf ⟨2,[4],q [m 4 (i 0)] (q [m 7 0,c 8 468 [7],m 5 8] (q [m 9 1,c 10 468 [9],m 6 10] (s (q [m 11 5] (h 11 (s (q [m 12 6] (h 12 (t [m 4 (i 0)]) .skip)) (k [] (t [m 4 (i (-1))]))) .skip)) (k [0,1,6] (s (q [m 13 6] (h 13 (t [m 4 (i 1)]) .skip)) (k [0,1] (s (q [m 14 0,m 15 1,b 16 .lss 14 15] (h 16 (t [m 4 (i (-1))]) .skip)) (k [0,1] (s (q [m 17 0,m 18 1,b 19 .gtr 17 18] (h 19 (t [m 4 (i 1)]) .skip)) (k [] (t [m 4 (i 0)])))))))))))⟩
structure KF (R:Env):Prop where
 Et:R.Fn 451 PB
 BQ:KD R
def PC:bo:=Nf ⟨1,[2],q [m 2 (i 0)] (q [m 3 (i 0)] (s (q [m 6 0,n 7 6,m 8 (i 0)] (k [3,6,7,8] (.block 0 (.loop (q [b 9 .lss 8 7] (s (h 9 .skip (.exit 0)) (k [3,6,7,8] (s (.block 1 (q [u 10 1 6 8,l 11 1 10,m 5 11] (q [m 12 5,m 13 3,b 14 .neq 12 13] (h 14 (t [m 15 5,m 2 15]) .skip)))) (k [3,6,7,8] (p [b 16 .add 8 (i 1),m 8 16])))))))))) (k [3] (t [m 17 3,m 2 17]))))⟩
structure KG (R:Env):Prop where
 PD:R.Fn 452 PC
def PE:bo:=Nf ⟨2,[],q [m 6 0,o 7 (.JX 6)] (k [0,1,7] (.block 0 (.loop (q [o 8 (.Nz 7),e 9 8 0] (s (h 9 .skip (.exit 0)) (k [0,1,7] (.block 1 (q [o 10 (.F9 7),e 11 10 0,e 12 10 1,a 4 49 [j 0,j 0,j 0,j 0],a 5 33 Z7,r 4 4 11,r 12 5 12] (y [0,1,4,5,7] [m 13 1,g 14 4 4,g 15 12 5,o 16 (.gC 13 [14,15])] (h 16 (p [m 17 0,g 18 4 4,v (.IS [.i,.i,.i,.i] true 17 18)]) .skip))))))))))⟩
structure KH (R:Env):Prop where
 Wf:R.Fn 438 PE
structure PF (R:Env):Prop where
 Wg:R.As 439
structure PG (R:Env):Prop where
 Wh:R.As 440
end Go.UM
namespace Go.UM
open Go.AM
open Z
def PH:bo:=Nf ⟨1,[2,3],q [m 2 (.k (.int .u64 0)),m 3 (.k (.bool false))] (s (q [m 4 0,b 5 .lss 4 (i 0)] (h 5 (q [m 6 0,o 7 (.conv .u64 6),o 8 (.un .neg 7),m 2 8,m 3 (.k (.bool true))] (k [2,3] .ret)) .skip)) (k [0] (t [m 9 0,o 10 (.conv .u64 9),m 2 10,m 3 (.k (.bool false))])))⟩
structure KI (R:Env):Prop where
 KJ:R.Fn 275 PH
def PI:bo:=Nf ⟨2,[4,5],q [m 4 (.k (.int .u64 0)),m 5 (.k (.int .u64 0))] (q [m 8 1,o 9 (.po 286 [.k (.int .u64 0),8,.k (.int .u64 0)]),m 7 9,e 10 7 0,e 11 7 1,m 1 10,m 6 11] (y [0,1,6] [m 13 0,m 14 6,o 15 (.po 286 [.k (.int .u64 0),13,14]),m 12 15,e 16 12 0,e 17 12 1,m 0 16] (k [0,1] (t [m 18 0,m 19 1,m 4 18,m 5 19]))))⟩
structure KK (R:Env):Prop where
 PJ:R.Fn 283 PI
 n286:Pk R
def PK:bo:=Nf ⟨3,[.cell 6 true 2,7],q [a 6 38 [j 0,.int .u64 0],m 7 (.k (.bool false))] (s (q [m 9 2] (h 9 (p [m 11 0,m 12 1,c 13 283 [11,12],m 10 13,e 14 10 0,e 15 10 1,m 0 14,m 1 15]) .skip)) (y [0,1,2,6] [m 16 0,o 17 (.conv .i64 16),m 18 1,o 19 (.build [j 0,.int .u64 0] [(0,1,17),(1,1,18)]),a 8 38 [j 0,.int .u64 0],r 2 8 19] (y [0,1,2,6,8] [g 20 2 8,f 21 0 8,l 22 1 21,b 23 .lss 22 (i 0),m 24 2,o 25 (.JQ false 23 24),m 26 25,⟨some 27,some (26,false),.mv 0⟩,⟨some 28,some (26,false),.mv 1⟩,⟨some 29,some (26,false),.bin .or 27 28⟩,⟨some 30,some (26,false),.bin .eql 29 (.k (.int .u64 0))⟩,w 31 26 (.k (.bool true)) 30,r 2 6 20,m 7 31] (k [6,7] .ret))))⟩
structure KM (R:Env):Prop where
 PL:R.Fn 277 PK
 n283:KK R
def PM:bo:=Nf ⟨2,[.cell 4 true 2],q [a 4 38 [j 0,.int .u64 0]] (q [m 14 0,c 15 275 [14],m 13 15,e 16 13 0,e 17 13 1,m 5 16,m 6 17] (y [1,4,5,6] [m 19 1,c 20 275 [19],m 18 20,e 21 18 0,e 22 18 1,m 7 21,m 8 22] (y [4,5,6,7,8] [m 24 5,m 25 7,c 26 276 [24,25],m 23 26,e 27 23 0,e 28 23 1,m 9 27,m 10 28] (y [4,6,8,9,10] [m 30 9,m 31 10,m 32 6,m 33 8,o 34 (.JQ true 32 33),c 35 277 [30,31,34],m 29 35,e 36 29 0,e 37 29 1,a 11 38 [j 0,.int .u64 0],r 2 11 36,m 12 37] (k [4,11] (t [g 38 2 11,r 2 4 38]))))))⟩
structure G7 (R:Env):Prop where
 KN:R.Fn 264 PM
 n275:KI R
 n276:G4 R
 n277:KM R
def PN:bo:=Nf ⟨1,[2,3],q [x 1 38 0,m 2 (i 0),m 3 (.k (.bool false))] (s (q [f 4 1 1,l 5 1 4,o 6 (.conv .i64 5),m 2 6] (q [f 7 0 1,l 8 1 7,m 9 2,b 10 .shr 9 (.k (.int .u64 63)),b 11 .neq 8 10] (k [2,11] (h 11 (t [m 2 (i 0),m 3 (.k (.bool false))]) .skip)))) (k [2] (t [m 12 2,m 2 12,m 3 (.k (.bool true))])))⟩
structure G8 (R:Env):Prop where
 G9:R.Fn 274 PN
def PO:bo:=Nf ⟨1,[.cell 2 true 2],q [a 2 38 [j 0,.int .u64 0]] (q [m 3 0,b 4 .shr 3 (.k (.int .u64 63)),m 5 0,o 6 (.conv .u64 5),o 7 (.build [j 0,.int .u64 0] [(0,1,4),(1,1,6)]),r 2 2 7] (k [2] .ret))⟩
structure PP (R:Env):Prop where
 abM:R.Fn 287 PO
def PQ:bo:=Nf ⟨2,[.cell 4 true 2],q [x 2 38 0,a 4 38 [j 0,.int .u64 0]] (q [m 5 1,o 6 (.mm true [5,i 0]),m 1 6] (s (q [m 7 1,b 8 .geq 7 (i 64)] (h 8 (q [f 9 0 2,l 10 1 9,m 11 1,b 12 .sub 11 (i 64),o 13 (.mm false [12,i 63]),b 14 .shr 10 13,c 15 287 [14],r 2 4 15] (k [4] .ret)) .skip)) (k [1,2,4] (s (q [m 16 1,b 17 .eql 16 (i 0)] (h 17 (t [g 18 2 2,r 2 4 18]) .skip)) (k [1,2,4] (s (.draw [0,1,0,7,0,16,0,112,0,256,768,0,2048,7936,16368,32767,65535] [[2],[19],[1],[20,21],[2],[23],[1],[24,25],[2],[27],[28],[1],[30],[29,31],[26,32],[22,33],[4,34]] [f 19 0 2,l 20 1 19,m 21 1,b 22 .shr 20 21,f 23 1 2,l 24 1 23,m 25 1,b 26 .shr 24 25,f 27 0 2,l 28 1 27,o 29 (.conv .u64 28),m 30 1,b 31 .sub (i 64) 30,b 32 .shl 29 31,b 33 .or 26 32,o 34 (.build [j 0,.int .u64 0] [(0,1,22),(1,1,33)]),r 2 4 34]) (k [4] .ret)))))))⟩
structure KO (R:Env):Prop where
 PR:R.Fn 285 PQ
 n287:PP R
end Go.UM
namespace Go.UM
open Go.AM
open Z
def PU:bo:=Nf ⟨1,[2],q [x 1 38 0,m 2 (i 0)] (s (q [g 6 2 1,c 7 274 [6],m 5 7,e 8 5 0,e 9 5 1,m 3 8,m 4 9] (y [1,3,4] [m 10 4] (h 10 (t [m 11 3,m 2 11]) .skip))) (k [1] (s (q [f 12 0 1,l 13 1 12,b 14 .lss 13 (i 0)] (h 14 (t [m 2 (i (-9223372036854775808))]) .skip)) (k [] (t [m 2 (i 9223372036854775807)])))))⟩
structure G' (R:Env):Prop where
 KQ:R.Fn 265 PU
 n274:G8 R
def PV:bo:=Nf ⟨1,[2],q [m 2 (i 0)] (q [m 3 (i 4294967296)] (s (q [m 6 0,n 7 6,m 8 (i 0)] (k [3,6,7,8] (.block 0 (.loop (q [b 9 .lss 8 7] (s (h 9 .skip (.exit 0)) (k [3,6,7,8] (s (.block 1 (q [m 10 8,u 11 1 6 8,l 12 1 11,m 4 10,m 5 12] (k [3,4,5,6,7,8] (s (q [m 13 4,b 14 .eql 13 (i 0)] (h 14 (q [m 15 5,m 3 15] (.exit 1)) .skip)) (k [3,5,6,7,8] (p [m 16 3,m 17 5,c 18 264 [16,17],c 19 285 [18,i 32],c 20 265 [19],m 3 20])))))) (k [3,6,7,8] (p [b 21 .add 8 (i 1),m 8 21])))))))))) (k [3] (t [m 22 3,m 2 22]))))⟩
structure KR (R:Env):Prop where
 PW:R.Fn 284 PV
 n264:G7 R
 n265:G' R
 n285:KO R
def PX:bo:=Nf ⟨1,[2],q [m 2 (i 0)] (q [m 3 (i 0)] (s (q [m 7 0,n 8 7,m 9 (i 0)] (k [3,7,8,9] (.block 0 (.loop (q [b 10 .lss 9 8] (s (h 10 .skip (.exit 0)) (k [3,7,8,9] (s (.block 1 (q [u 11 1 7 9,l 12 1 11,m 5 12] (q [m 13 3,m 14 5,b 15 .add 13 14,m 6 15] (s (.block 2 (q [m 17 3,b 18 .gtr 17 (i 0),m 19 18,⟨some 20,some (19,true),.mv 5⟩,⟨some 21,some (19,true),.bin .gtr 20 (i 0)⟩,w 22 19 21 (.k (.bool false)),m 23 22,⟨some 24,some (23,true),.mv 6⟩,⟨some 25,some (23,true),.bin .lss 24 (i 0)⟩,w 26 23 25 (.k (.bool false)),m 16 26] (k [3,5,6,7,8,9,16] (h 16 (p [m 6 (i 9223372036854775807)]) (q [m 28 3,b 29 .lss 28 (i 0),m 30 29,⟨some 31,some (30,true),.mv 5⟩,⟨some 32,some (30,true),.bin .lss 31 (i 0)⟩,w 33 30 32 (.k (.bool false)),m 34 33,⟨some 35,some (34,true),.mv 6⟩,⟨some 36,some (34,true),.bin .geq 35 (i 0)⟩,w 37 34 36 (.k (.bool false)),m 27 37] (k [6,7,8,9,27] (h 27 (p [m 6 (i (-9223372036854775808))]) .skip))))))) (k [6,7,8,9] (p [m 38 6,m 3 38])))))) (k [3,7,8,9] (p [b 39 .add 9 (i 1),m 9 39])))))))))) (k [3] (t [m 40 3,m 2 40]))))⟩
structure Ha (R:Env):Prop where
 KT:R.Fn 267 PX
def PY:bo:=Nf ⟨2,[4],q [m 4 (i 0)] (q [m 6 0,m 7 1,b 8 .sub 6 7,m 5 8] (s (.block 0 (q [m 10 0,b 11 .geq 10 (i 0),m 12 11,⟨some 13,some (12,true),.mv 1⟩,⟨some 14,some (12,true),.bin .lss 13 (i 0)⟩,w 15 12 14 (.k (.bool false)),m 16 15,⟨some 17,some (16,true),.mv 5⟩,⟨some 18,some (16,true),.bin .lss 17 (i 0)⟩,w 19 16 18 (.k (.bool false)),m 9 19] (k [0,1,5,9] (h 9 (t [m 4 (i 9223372036854775807)]) (q [m 21 0,b 22 .lss 21 (i 0),m 23 22,⟨some 24,some (23,true),.mv 1⟩,⟨some 25,some (23,true),.bin .gtr 24 (i 0)⟩,w 26 23 25 (.k (.bool false)),m 27 26,⟨some 28,some (27,true),.mv 5⟩,⟨some 29,some (27,true),.bin .geq 28 (i 0)⟩,w 30 27 29 (.k (.bool false)),m 20 30] (k [5,20] (h 20 (t [m 4 (i (-9223372036854775808))]) .skip))))))) (k [5] (t [m 31 5,m 4 31]))))⟩
structure KU (R:Env):Prop where
 PZ:R.Fn 281 PY
def P0:bo:=Nf ⟨1,[2],q [m 2 (i 0)] (t [m 3 0,c 4 281 [i 0,3],m 2 4])⟩
structure KV (R:Env):Prop where
 P1:R.Fn 270 P0
 n281:KU R
def P3:bo:=Nf ⟨1,[2],q [m 2 (i 0)] (q [m 3 0,m 4 0,c 5 270 [4],o 6 (.mm true [3,5]),m 2 6] (k [2] .ret))⟩
structure Hb (R:Env):Prop where
 oA:R.Fn 255 P3
 n270:KV R
def P4:bo:=Nf ⟨1,[2],q [m 2 (i 0)] (q [m 3 0,b 4 .shr 3 (.k (.int .u64 32)),m 5 0,b 6 .shr 5 (.k (.int .u64 31)),b 7 .and 6 (i 1),b 8 .add 4 7,m 2 8] (k [2] .ret))⟩
structure KW (R:Env):Prop where
 Hc:R.Fn 260 P4
def P5:bo:=Nf ⟨1,[2],q [m 2 (i 0)] (t [m 3 0,c 4 264 [3,i 4294967296],c 5 265 [4],m 2 5])⟩
structure KX (R:Env):Prop where
 Hd:R.Fn 248 P5
 n264:G7 R
 n265:G' R
end Go.UM
namespace Go.UM
open Go.AM
open Z
def P6:bo:=Nf ⟨3,[.cell 6 true 3],q [x 3 31 0,x 4 31 1,a 6 31 [j 0,j 0,j 0]] (s (.draw [0,0,2,0,8,31,0,0,128,0,512,2047,0,0,8192,0,32768,131071,262143,524287] [[2],[3],[8],[4],[10],[7,9,11],[2],[3],[14],[4],[16],[13,15,17],[2],[3],[20],[4],[22],[19,21,23],[12,18,24],[6,25]] [m 7 2,f 8 0 3,l 9 1 8,f 10 0 4,l 11 1 10,o 12 (.gC 7 [9,11]),m 13 2,f 14 1 3,l 15 1 14,f 16 1 4,l 17 1 16,o 18 (.gC 13 [15,17]),m 19 2,f 20 2 3,l 21 1 20,f 22 2 4,l 23 1 22,o 24 (.gC 19 [21,23]),o 25 (.build [j 0,j 0,j 0] [(0,1,12),(1,1,18),(2,1,24)]),r 3 6 25]) (k [6] .ret))⟩
structure Eu (R:Env):Prop where
 He:R.Fn 262 P6
def P7:bo:=Nf ⟨2,[4],q [m 4 (i 0)] (q [m 5 0,m 6 1,o 7 (.aI 32 1 2 [j 0] [(0,5),(1,6)]),c 8 284 [7],m 4 8] (k [4] .ret))⟩
structure Hf (R:Env):Prop where
 Hg:R.Fn 278 P7
 n284:KR R
def P8:bo:=Nf ⟨1,[.cell 2 true 3],q [a 2 31 [j 0,j 0,j 0]] (q [o 6 (.build [j 0,j 0,j 0] [(0,1,i 4294967296),(1,1,i 4294967296),(2,1,i 4294967296)]),a 3 31 [j 0,j 0,j 0],r 3 3 6] (s (q [m 7 0,n 8 7,m 9 (i 0)] (k [2,3,7,8,9] (.block 0 (.loop (q [b 10 .lss 9 8] (s (h 10 .skip (.exit 0)) (k [2,3,7,8,9] (s (.block 1 (q [u 11 3 7 9,g 12 3 11,a 5 31 [j 0,j 0,j 0],r 3 5 12] (p [g 13 3 3,g 14 3 5,c 15 262 [13,14,.f 278],r 3 3 15]))) (k [2,3,7,8,9] (p [b 16 .add 9 (i 1),m 9 16])))))))))) (k [2,3] (t [g 17 3 3,r 3 2 17]))))⟩
structure KY (R:Env):Prop where
 P9:R.Fn 266 P8
 n262:Eu R
 n278:Hf R
def P':bo:=Nf ⟨2,[4],q [x 2 31 0,x 3 31 1,m 4 (i 0)] (q [g 6 3 2,g 7 3 3,o 8 (.aI 31 3 2 [j 0,j 0,j 0] [(0,6),(1,7)]),c 9 266 [8],a 5 31 [j 0,j 0,j 0],r 3 5 9] (y [5] [f 10 0 5,l 11 1 10,f 12 1 5,l 13 1 12,f 14 2 5,l 15 1 14,o 16 (.aI 32 1 3 [j 0] [(0,11),(1,13),(2,15)]),c 17 267 [16],m 4 17] (k [4] .ret)))⟩
structure KZ (R:Env):Prop where
 Hh:R.Fn 252 P'
 n266:KY R
 n267:Ha R
def Qa:bo:=Nf ⟨2,[4],q [m 4 (i 0)] (q [m 5 0,m 6 1,o 7 (.aI 32 1 2 [j 0] [(0,5),(1,6)]),c 8 267 [7],m 4 8] (k [4] .ret))⟩
structure Hi (R:Env):Prop where
 Hj:R.Fn 263 Qa
 n267:Ha R
def Qb:bo:=Nf ⟨1,[.cell 2 true 3],q [a 2 31 [j 0,j 0,j 0]] (q [a 3 31 [j 0,j 0,j 0]] (s (q [m 6 0,n 7 6,m 8 (i 0)] (k [2,3,6,7,8] (.block 0 (.loop (q [b 9 .lss 8 7] (s (h 9 .skip (.exit 0)) (k [2,3,6,7,8] (s (.block 1 (q [u 10 3 6 8,g 11 3 10,a 5 31 [j 0,j 0,j 0],r 3 5 11] (p [g 12 3 3,g 13 3 5,c 14 262 [12,13,.f 263],r 3 3 14]))) (k [2,3,6,7,8] (p [b 15 .add 8 (i 1),m 8 15])))))))))) (k [2,3] (t [g 16 3 3,r 3 2 16]))))⟩
structure K0 (R:Env):Prop where
 Qc:R.Fn 246 Qb
 n262:Eu R
 n263:Hi R
def Qd:bo:=Nf ⟨1,[2],q [x 1 31 0,m 2 (i 0)] (s (.draw [0,1,3,0,8,31,0,64,255,511,1023] [[1],[3],[4],[1],[6],[7],[1],[9],[10],[5,8,11],[12]] [f 3 0 1,l 4 1 3,c 5 255 [4],f 6 1 1,l 7 1 6,c 8 255 [7],f 9 2 1,l 10 1 9,c 11 255 [10],o 12 (.mm true [5,8,11]),m 2 12]) (k [2] .ret))⟩
structure K1 (R:Env):Prop where
 Qe:R.Fn 256 Qd
 n255:Hb R
def Qf:bo:=Nf ⟨1,[.cell 2 true 3],q [x 1 26 0,a 2 31 [j 0,j 0,j 0]] (s (.draw [0,1,3,0,8,31,0,64,255,511,1023] [[1],[3],[4],[1],[6],[7],[1],[9],[10],[5,8,11],[2,12]] [f 3 0 1,l 4 1 3,c 5 248 [4],f 6 1 1,l 7 1 6,c 8 248 [7],f 9 2 1,l 10 1 9,c 11 248 [10],o 12 (.build [j 0,j 0,j 0] [(0,1,5),(1,1,8),(2,1,11)]),r 3 2 12]) (k [2] .ret))⟩
structure K2 (R:Env):Prop where
 Qg:R.Fn 249 Qf
 n248:KX R
end Go.UM
namespace Go.UM
open Go.AM
open Z
def Qh:bo:=Nf ⟨2,[.cell 4 true 3],q [x 2 37 0,a 4 31 [j 0,j 0,j 0]] (s (.draw [0,1,3,7,0,16,48,112,240,0,512,1536,3584,7680,16383,32767] [[1],[5],[2,6],[7],[1],[9],[10],[2,11],[12],[1],[14],[15],[2,16],[17],[8,13,18],[4,19]] [m 5 1,b 6 .mul (i 3) 5,o 7 (.bt 9 1 2 6),l 8 1 7,m 9 1,b 10 .mul (i 3) 9,b 11 .add 10 (i 1),o 12 (.bt 9 1 2 11),l 13 1 12,m 14 1,b 15 .mul (i 3) 14,b 16 .add 15 (i 2),o 17 (.bt 9 1 2 16),l 18 1 17,o 19 (.build [j 0,j 0,j 0] [(0,1,8),(1,1,13),(2,1,18)]),r 3 4 19]) (k [4] .ret))⟩
structure K3 (R:Env):Prop where
 BR:R.Fn 251 Qh
def Qi:bo:=Nf ⟨2,[.cell 4 true 3],q [x 2 33 0,x 3 31 1,a 4 31 [j 0,j 0,j 0]] (s (.draw [0,1,3,0,15,0,32,127,0,511,0,1024,4095,0,16383,32767,65535] [[2],[5],[6],[3],[7,8],[2],[10],[11],[3],[12,13],[2],[15],[16],[3],[17,18],[9,14,19],[4,20]] [f 5 0 2,g 6 9 5,c 7 251 [6,i 0],g 8 3 3,c 9 252 [7,8],f 10 0 2,g 11 9 10,c 12 251 [11,i 1],g 13 3 3,c 14 252 [12,13],f 15 0 2,g 16 9 15,c 17 251 [16,i 2],g 18 3 3,c 19 252 [17,18],o 20 (.build [j 0,j 0,j 0] [(0,1,9),(1,1,14),(2,1,19)]),r 3 4 20]) (k [4] .ret))⟩
structure K4 (R:Env):Prop where
 Qj:R.Fn 231 Qi
 n251:K3 R
 n252:KZ R
def Qk:bo:=Nf ⟨2,[.cell 4 true 3],q [x 2 33 0,x 3 31 1,a 4 31 [j 0,j 0,j 0]] (s (.draw [0,0,3,0,8,31,63,127] [[2],[3],[5,6],[2],[8],[7,9],[10],[4,11]] [g 5 12 2,g 6 3 3,c 7 231 [5,6],f 8 9 2,g 9 3 8,o 10 (.aI 31 3 2 [j 0,j 0,j 0] [(0,7),(1,9)]),c 11 246 [10],r 3 4 11]) (k [4] .ret))⟩
structure K5 (R:Env):Prop where
 Ql:R.Fn 233 Qk
 n231:K4 R
 n246:K0 R
def Qm:bo:=Nf ⟨1,[2],q [x 1 33 0,m 2 (i 0)] (s (q [f 5 0 1,g 6 9 5,m 7 (i 0)] (k [1,6,7] (.block 0 (.loop (q [b 8 .lss 7 (i 9)] (s (h 8 .skip (.exit 0)) (k [1,6,7] (s (.block 1 (q [o 9 (.JR false 9 1 6 7),m 4 9] (q [m 10 4,c 11 255 [10],b 12 .gtr 11 (i 1099511627776)] (h 12 (t [m 2 (i 2)]) .skip)))) (k [1,6,7] (p [b 13 .add 7 (i 1),m 7 13])))))))))) (k [1] (s (q [f 14 9 1,g 15 3 14,c 16 256 [15],b 17 .gtr 16 (i 562949953421312)] (h 17 (t [m 2 (i 2)]) .skip)) (k [] (t [m 2 (i 0)])))))⟩
structure K6 (R:Env):Prop where
 Qn:R.Fn 235 Qm
 n255:Hb R
 n256:K1 R
def Qo:bo:=Nf ⟨1,[.cell 2 true 3,3],q [x 1 31 0,a 2 26 [j 0,j 0,j 0],m 3 (i 0)] (s (.draw [0,1,3,0,8,31,0,64,255,511,0,2047] [[1],[5],[6],[1],[8],[9],[1],[11],[12],[7,10,13],[],[4,14]] [f 5 0 1,l 6 1 5,c 7 260 [6],f 8 1 1,l 9 1 8,c 10 260 [9],f 11 2 1,l 12 1 11,c 13 260 [12],o 14 (.build [j 0,j 0,j 0] [(0,1,7),(1,1,10),(2,1,13)]),a 4 26 [j 0,j 0,j 0],r 3 4 14]) (k [2,4] (s (q [f 15 0 4,l 16 1 15,f 17 1 4,l 18 1 17,f 19 2 4,l 20 1 19,o 21 (.mm true [16,18,20]),b 22 .gtr 21 (i 65536),m 23 22,⟨some 24,some (23,false),.aC 0 4⟩,⟨some 25,some (23,false),.load false 1 24⟩,⟨some 26,some (23,false),.aC 1 4⟩,⟨some 27,some (23,false),.load false 1 26⟩,⟨some 28,some (23,false),.aC 2 4⟩,⟨some 29,some (23,false),.load false 1 28⟩,⟨some 30,some (23,false),.mm false [25,27,29]⟩,⟨some 31,some (23,false),.bin .lss 30 (i (-65536))⟩,w 32 23 (.k (.bool true)) 31] (k [2,4,32] (h 32 (t [o 33 (.build [j 0,j 0,j 0] []),r 3 2 33,m 3 (i 8)]) .skip))) (k [2,4] (t [g 34 3 4,r 3 2 34,m 3 (i 0)])))))⟩
structure K7 (R:Env):Prop where
 Qp:R.Fn 243 Qo
 n260:KW R
def Qq:bo:=Nf ⟨2,[.cell 4 true 3,5],q [x 2 33 0,x 3 26 1,a 4 26 [j 0,j 0,j 0],m 5 (i 0)] (s (q [g 7 12 2,c 8 235 [7],m 6 8] (q [m 9 6,b 10 .neq 9 (i 0)] (h 10 (t [o 11 (.build [j 0,j 0,j 0] []),m 12 6,r 3 4 11,m 5 12]) .skip))) (k [2,3,4] (s (.draw [0,0,2,7,15,31,31,127,255] [[2],[3],[14],[13,15],[16],[17],[17],[4,18],[19]] [g 13 12 2,g 14 3 3,c 15 249 [14],c 16 233 [13,15],c 17 243 [16],e 18 17 0,e 19 17 1,r 3 4 18,m 5 19]) (k [4,5] .ret))))⟩
structure K8 (R:Env):Prop where
 Qr:R.Fn 241 Qq
 n233:K5 R
 n235:K6 R
 n243:K7 R
 n249:K2 R
end Go.UM
namespace Go.UM
open Go.AM
open Z
def c54:bo:=Nf ⟨3,[6,7],q [m 6 (.k .ap),m 7 (i 0)] (s (q [m 12 1,b 13 .lss 12 (i 1),m 14 13,⟨some 15,some (14,false),.mv 1⟩,⟨some 16,some (14,false),.bin .gtr 15 (i 8)⟩,w 17 14 (.k (.bool true)) 16] (k [0,1,2,17] (h 17 (t [m 6 (.k .ap),m 7 (i 2)]) .skip))) (y [0,1,2] [m 18 0,c 19 62 [18],m 8 19] (s (q [m 20 2,n 21 20,m 22 (i 0)] (k [1,8,20,21,22] (.block 0 (.loop (q [b 23 .lss 22 21] (s (h 23 .skip (.exit 0)) (k [1,8,20,21,22] (s (.block 1 (q [u 24 1 20 22,l 25 1 24,m 10 25] (s (q [m 26 1,b 27 .lss 26 (i 8),m 28 27,⟨some 29,some (28,true),.mv 10⟩,⟨some 30,some (28,true),.mv 1⟩,⟨some 31,some (28,true),.bin .mul (i 8) 30⟩,⟨some 32,some (28,true),.bin .shr 29 31⟩,⟨some 33,some (28,true),.bin .gtr 32 (.k (.int .u64 0))⟩,w 34 28 33 (.k (.bool false))] (k [1,8,10,20,21,22,34] (h 34 (t [m 6 (.k .ap),m 7 (i 3)]) .skip))) (y [1,8,10,20,21,22] [m 35 1,m 36 (i 0)] (k [1,8,10,20,21,22,35,36] (.block 2 (.loop (q [b 37 .lss 36 35] (s (h 37 .skip (.exit 2)) (k [1,8,10,20,21,22,35,36] (s (.block 3 (q [m 38 36,m 11 38] (p [m 39 8,m 40 10,m 41 11,b 42 .mul (i 8) 41,b 43 .shr 40 42,o 44 (.conv .u8 43),o 45 (.aI 4 1 1 [.int .u8 0] [(0,44)]),o 46 (.app 4 1 39 45),m 8 46]))) (k [1,8,10,20,21,22,35,36] (p [b 47 .add 36 (i 1),m 36 47]))))))))))))) (k [1,8,20,21,22] (p [b 48 .add 22 (i 1),m 22 48])))))))))) (k [8] (t [m 49 8,m 6 49,m 7 (i 0)])))))⟩
structure K9 (R:Env):Prop where
 o54:R.Fn 54 c54
 n62:V8 R
def c71:bo:=Nf ⟨3,[6,7],q [m 6 (.k .ap),m 7 (i 0)] (s (q [m 12 1,b 13 .lss 12 (i 1),m 14 13,⟨some 15,some (14,false),.mv 1⟩,⟨some 16,some (14,false),.bin .gtr 15 (i 8)⟩,w 17 14 (.k (.bool true)) 16] (k [0,1,2,17] (h 17 (t [m 6 (.k .ap),m 7 (i 2)]) .skip))) (y [0,1,2] [m 8 (.k .ap)] (s (q [m 18 2,n 19 18,m 20 (i 0)] (k [0,1,8,18,19,20] (.block 0 (.loop (q [b 21 .lss 20 19] (s (h 21 .skip (.exit 0)) (k [0,1,8,18,19,20] (s (.block 1 (q [u 22 1 18 20,l 23 1 22,m 10 23] (s (q [m 24 10,m 25 1,b 26 .mul (i 8) 25,b 27 .sub (i 64) 26,b 28 .shl 24 27,m 29 1,b 30 .mul (i 8) 29,b 31 .sub (i 64) 30,b 32 .shr 28 31,m 11 32] (y [0,1,8,10,11,18,19,20] [m 33 11,m 34 10,b 35 .neq 33 34] (h 35 (t [m 6 (.k .ap),m 7 (i 3)]) .skip))) (k [0,1,8,10,18,19,20] (p [m 36 8,m 37 10,o 38 (.conv .u64 37),m 39 1,b 40 .mul (i 8) 39,b 41 .sub (i 64) 40,b 42 .shl 38 41,m 43 1,b 44 .mul (i 8) 43,b 45 .sub (i 64) 44,b 46 .shr 42 45,o 47 (.aI 6 1 1 [.int .u64 0] [(0,46)]),o 48 (.app 6 1 36 47),m 8 48]))))) (k [0,1,8,18,19,20] (p [b 49 .add 20 (i 1),m 20 49])))))))))) (y [0,1,8] [m 50 0,m 51 1,m 52 8,c 53 54 [50,51,52],e 54 53 0,e 55 53 1,m 6 54,m 7 55] (k [6,7] .ret)))))⟩
structure Qs (R:Env):Prop where
 o71:R.Fn 71 c71
 FW:K9 R
end Go.UM
namespace Go.UM
open Go.AM
open Z
def c37:bo:=Nf ⟨1,[2],q [m 2 (i 0)] (q [o 4 (.build [j 0,j 0,j 0,j 0,j 0] [(1,1,i 2048),(2,1,i 1024),(3,1,i 64),(4,1,i 64)]),a 3 5 [j 0,j 0,j 0,j 0,j 0],r 5 3 4] (s (q [m 5 0,b 6 .lss 5 (i 0),m 7 6,⟨some 8,some (7,false),.mv 0⟩,⟨some 9,some (7,false),.bin .geq 8 (i 5)⟩,w 10 7 (.k (.bool true)) 9] (k [0,3,10] (h 10 (t [m 2 (i 0)]) .skip))) (k [0,3] (t [m 11 0,o 12 (.bt 5 1 3 11),l 13 1 12,m 2 13]))))⟩
structure Wi (R:Env):Prop where
 o37:R.Fn 37 c37
end Go.UM
namespace Go.UM
open Go.AM
open Z
def Qt:bo:=Nf ⟨1,[2],q [x 1 26 0,m 2 (.k (.bool false))] (q [f 3 0 1,l 4 1 3,f 5 1 1,l 6 1 5,f 7 2 1,l 8 1 7,o 9 (.mm true [4,6,8]),b 10 .gtr 9 (i 4096),m 11 10,⟨some 12,some (11,false),.aC 0 1⟩,⟨some 13,some (11,false),.load false 1 12⟩,⟨some 14,some (11,false),.aC 1 1⟩,⟨some 15,some (11,false),.load false 1 14⟩,⟨some 16,some (11,false),.aC 2 1⟩,⟨some 17,some (11,false),.load false 1 16⟩,⟨some 18,some (11,false),.mm false [13,15,17]⟩,⟨some 19,some (11,false),.bin .lss 18 (i (-4096))⟩,w 20 11 (.k (.bool true)) 19,m 2 20] (k [2] .ret))⟩
structure La (R:Env):Prop where
 Qu:R.Fn 206 Qt
def Qv:bo:=Nf ⟨1,[2],q [x 1 18 0,m 2 (.k (.bool false))] (q [o 3 (.bt 2 1 1 (i 0)),l 4 1 3,o 5 (.bt 2 1 1 (i 1)),l 6 1 5,o 7 (.mm false [4,6]),b 8 .lss 7 (i 0),m 9 8,⟨some 10,some (9,false),.bt 2 1 1 (i 0)⟩,⟨some 11,some (9,false),.load false 1 10⟩,⟨some 12,some (9,false),.bt 2 1 1 (i 1)⟩,⟨some 13,some (9,false),.load false 1 12⟩,⟨some 14,some (9,false),.mm true [11,13]⟩,⟨some 15,some (9,false),.bin .gtr 14 (i 65535)⟩,w 16 9 (.k (.bool true)) 15,m 2 16] (k [2] .ret))⟩
structure Lb (R:Env):Prop where
 Qw:R.Fn 207 Qv
def Qx:bo:=Nf ⟨2,[3],q [x 2 13 0,m 3 (.k (.bool false))] (q [o 4 (.bt 3 1 2 (i 0)),l 5 1 4,o 6 (.bt 3 1 2 (i 1)),l 7 1 6,o 8 (.bt 3 1 2 (i 2)),l 9 1 8,o 10 (.mm false [5,7,9]),b 11 .lss 10 (i 0),m 12 11,⟨some 13,some (12,false),.bt 3 1 2 (i 0)⟩,⟨some 14,some (12,false),.load false 1 13⟩,⟨some 15,some (12,false),.bt 3 1 2 (i 1)⟩,⟨some 16,some (12,false),.load false 1 15⟩,⟨some 17,some (12,false),.bt 3 1 2 (i 2)⟩,⟨some 18,some (12,false),.load false 1 17⟩,⟨some 19,some (12,false),.mm true [14,16,18]⟩,⟨some 20,some (12,false),.aC 0 1⟩,⟨some 21,some (12,false),.load false 1 20⟩,⟨some 22,some (12,false),.gh 21⟩,⟨some 23,some (12,false),.bin .geq 19 22⟩,w 24 12 (.k (.bool true)) 23,m 25 24,⟨some 26,some (25,false),.bt 3 1 2 (i 0)⟩,⟨some 27,some (25,false),.load false 1 26⟩,⟨some 28,some (25,false),.bt 3 1 2 (i 1)⟩,⟨some 29,some (25,false),.load false 1 28⟩,⟨some 30,some (25,false),.bin .eql 27 29⟩,w 31 25 (.k (.bool true)) 30,m 32 31,⟨some 33,some (32,false),.bt 3 1 2 (i 1)⟩,⟨some 34,some (32,false),.load false 1 33⟩,⟨some 35,some (32,false),.bt 3 1 2 (i 2)⟩,⟨some 36,some (32,false),.load false 1 35⟩,⟨some 37,some (32,false),.bin .eql 34 36⟩,w 38 32 (.k (.bool true)) 37,m 39 38,⟨some 40,some (39,false),.bt 3 1 2 (i 2)⟩,⟨some 41,some (39,false),.load false 1 40⟩,⟨some 42,some (39,false),.bt 3 1 2 (i 0)⟩,⟨some 43,some (39,false),.load false 1 42⟩,⟨some 44,some (39,false),.bin .eql 41 43⟩,w 45 39 (.k (.bool true)) 44,m 3 45] (k [3] .ret))⟩
structure Lc (R:Env):Prop where
 Wj:R.Fn 208 Qx
def Qy:bo:=Nf ⟨1,[2],q [x 1 25 0,m 2 (i 0)] (q [m 3 (.f 206)] (q [m 4 (.f 207)] (q [o 6 (.Ny 208 [1]),m 5 6] (s (.block 0 (q [f 8 0 1,l 9 1 8,n 10 9,b 11 .gtr 10 (i 64),m 12 11,⟨some 13,some (12,false),.aC 2 1⟩,⟨some 14,some (12,false),.load false 1 13⟩,⟨some 15,some (12,false),.gh 14⟩,⟨some 16,some (12,false),.bin .gtr 15 (i 64)⟩,w 17 12 (.k (.bool true)) 16,m 7 17] (k [1,3,4,5,7] (h 7 (t [m 2 (i 3)]) (q [f 19 0 1,l 20 1 19,n 21 20,b 22 .eql 21 (i 0),m 23 22,⟨some 24,some (23,false),.aC 2 1⟩,⟨some 25,some (23,false),.load false 1 24⟩,⟨some 26,some (23,false),.gh 25⟩,⟨some 27,some (23,false),.bin .eql 26 (i 0)⟩,w 28 23 (.k (.bool true)) 27,m 29 28,⟨some 30,some (29,false),.aC 1 1⟩,⟨some 31,some (29,false),.load false 1 30⟩,⟨some 32,some (29,false),.gh 31⟩,⟨some 33,some (29,false),.aC 0 1⟩,⟨some 34,some (29,false),.load false 1 33⟩,⟨some 35,some (29,false),.gh 34⟩,⟨some 36,some (29,false),.bin .neq 32 35⟩,w 37 29 (.k (.bool true)) 36,m 18 37] (k [1,3,4,5,18] (h 18 (t [m 2 (i 5)]) (q [f 39 0 1,l 40 1 39,m 41 3,c 42 209 [40,41],m 38 42] (k [1,4,5,38] (h 38 (t [m 2 (i 8)]) (q [f 44 1 1,l 45 1 44,m 46 4,c 47 210 [45,46],m 48 47,⟨some 49,some (48,false),.aC 2 1⟩,⟨some 50,some (48,false),.load false 1 49⟩,⟨some 51,some (48,false),.mv 5⟩,⟨some 52,some (48,false),.call 211 [50,51]⟩,w 53 48 (.k (.bool true)) 52,m 43 53] (k [43] (h 43 (t [m 2 (i 5)]) .skip))))))))))))) (k [] (t [m 2 (i 0)]))))))⟩
structure Hk (R:Env):Prop where
 Ld:R.Fn 193 Qy
 n206:La R
 n207:Lb R
 n208:Lc R
 n209:Ku R
 n210:Kw R
 n211:Ky R
def Qz:bo:=Nf ⟨1,[2,3],q [x 1 25 0,m 2 (.k .ap),m 3 (i 0)] (s (q [g 12 3 1,c 13 193 [12],m 4 13] (q [m 14 4,b 15 .neq 14 (i 0)] (h 15 (t [m 16 4,m 2 (.k .ap),m 3 16]) .skip))) (y [1] [f 17 0 1,l 18 1 17,n 19 18,o 20 (.conv .u8 19),f 21 2 1,l 22 1 21,n 23 22,o 24 (.conv .u8 23),o 25 (.aI 4 1 2 [.int .u8 0] [(0,20),(1,24)]),m 5 25] (k [1,5] (s (q [f 26 0 1,l 27 1 26,n 28 27,m 29 (i 0)] (k [1,5,27,28,29] (.block 0 (.loop (q [b 30 .lss 29 28] (s (h 30 .skip (.exit 0)) (k [1,5,27,28,29] (s (.block 1 (q [u 31 3 27 29,g 32 3 31,a 7 26 [j 0,j 0,j 0],r 3 7 32] (p [m 34 5,f 35 0 7,l 36 1 35,f 37 1 7,l 38 1 37,f 39 2 7,l 40 1 39,o 41 (.aI 10 1 3 [j 0] [(0,36),(1,38),(2,40)]),c 42 71 [34,i 2,41],m 33 42,e 43 33 0,e 44 33 1,m 5 43]))) (k [1,5,27,28,29] (p [b 45 .add 29 (i 1),m 29 45])))))))))) (k [1,5] (s (q [f 46 1 1,l 47 1 46,n 48 47,m 49 (i 0)] (k [1,5,47,48,49] (.block 2 (.loop (q [b 50 .lss 49 48] (s (h 50 .skip (.exit 2)) (k [1,5,47,48,49] (s (.block 3 (q [u 51 2 47 49,g 52 2 51,a 9 18 [j 0,j 0],r 2 9 52] (p [m 54 5,o 55 (.bt 2 1 9 (i 0)),l 56 1 55,o 57 (.conv .u64 56),o 58 (.bt 2 1 9 (i 1)),l 59 1 58,o 60 (.conv .u64 59),o 61 (.aI 6 1 2 [.int .u64 0] [(0,57),(1,60)]),c 62 54 [54,i 2,61],m 53 62,e 63 53 0,e 64 53 1,m 5 63]))) (k [1,5,47,48,49] (p [b 65 .add 49 (i 1),m 49 65])))))))))) (k [1,5] (s (q [f 66 2 1,l 67 1 66,n 68 67,m 69 (i 0)] (k [5,67,68,69] (.block 4 (.loop (q [b 70 .lss 69 68] (s (h 70 .skip (.exit 4)) (k [5,67,68,69] (s (.block 5 (q [u 71 3 67 69,g 72 3 71,a 11 13 [j 0,j 0,j 0],r 3 11 72] (p [m 73 5,o 74 (.bt 3 1 11 (i 0)),l 75 1 74,o 76 (.conv .u8 75),o 77 (.bt 3 1 11 (i 1)),l 78 1 77,o 79 (.conv .u8 78),o 80 (.bt 3 1 11 (i 2)),l 81 1 80,o 82 (.conv .u8 81),o 83 (.aI 4 1 3 [.int .u8 0] [(0,76),(1,79),(2,82)]),o 84 (.app 4 1 73 83),m 5 84]))) (k [5,67,68,69] (p [b 85 .add 69 (i 1),m 69 85])))))))))) (k [5] (t [m 86 5,m 2 86,m 3 (i 0)]))))))))))⟩
structure Le (R:Env):Prop where
 QA:R.Fn 196 Qz
 FW:K9 R
 NG:Qs R
 n193:Hk R
end Go.UM
namespace Go.UM
open Go.AM
open Z
def c84:bo:=Nf ⟨1,[2],q [x 1 12 0,m 2 (i 0)] (s (q [o 5 (.aI 10 1 5 [j 0] [(0,i 1),(1,i 2),(2,i 4),(3,i 8),(4,i 16)]),f 6 0 1,l 7 1 6,c 8 100 [5,7],o 9 (.un .not 8),m 10 9,⟨some 11,some (10,false),.aC 1 1⟩,⟨some 12,some (10,false),.load false 1 11⟩,⟨some 13,some (10,false),.gh 12⟩,⟨some 14,some (10,false),.aC 0 1⟩,⟨some 15,some (10,false),.load false 1 14⟩,⟨some 16,some (10,false),.aC 0 1⟩,⟨some 17,some (10,false),.load false 1 16⟩,⟨some 18,some (10,false),.bin .mul 15 17⟩,⟨some 19,some (10,false),.bin .neq 13 18⟩,w 20 10 (.k (.bool true)) 19] (k [1,20] (h 20 (t [m 2 (i 5)]) .skip))) (k [1] (s (q [f 21 1 1,l 22 1 21,n 23 22,m 24 (i 0)] (k [22,23,24] (.block 0 (.loop (q [b 25 .lss 24 23] (s (h 25 .skip (.exit 0)) (k [22,23,24] (s (.block 1 (q [u 26 3 22 24,g 27 3 26,a 4 13 [j 0,j 0,j 0],r 3 4 27] (q [o 28 (.bt 3 1 4 (i 0)),l 29 1 28,o 30 (.bt 3 1 4 (i 1)),l 31 1 30,o 32 (.bt 3 1 4 (i 2)),l 33 1 32,o 34 (.mm false [29,31,33]),b 35 .lss 34 (i 0),m 36 35,⟨some 37,some (36,false),.bt 3 1 4 (i 0)⟩,⟨some 38,some (36,false),.load false 1 37⟩,⟨some 39,some (36,false),.bt 3 1 4 (i 1)⟩,⟨some 40,some (36,false),.load false 1 39⟩,⟨some 41,some (36,false),.bt 3 1 4 (i 2)⟩,⟨some 42,some (36,false),.load false 1 41⟩,⟨some 43,some (36,false),.mm true [38,40,42]⟩,⟨some 44,some (36,false),.bin .gtr 43 (i 255)⟩,w 45 36 (.k (.bool true)) 44] (k [22,23,24,45] (h 45 (t [m 2 (i 5)]) .skip))))) (k [22,23,24] (p [b 46 .add 24 (i 1),m 24 46])))))))))) (k [] (t [m 2 (i 0)])))))⟩
structure Um (R:Env):Prop where
 Wl:R.Fn 84 c84
 n100:Kr R
def c82:bo:=Nf ⟨1,[2,3],q [x 1 12 0,m 2 (.k .ap),m 3 (i 0)] (s (q [g 8 2 1,c 9 84 [8],m 4 9] (q [m 10 4,b 11 .neq 10 (i 0)] (h 11 (t [m 12 4,m 2 (.k .ap),m 3 12]) .skip))) (y [1] [f 13 0 1,l 14 1 13,o 15 (.conv .u8 14),o 16 (.aI 4 1 1 [.int .u8 0] [(0,15)]),m 5 16] (k [1,5] (s (q [f 17 1 1,l 18 1 17,n 19 18,m 20 (i 0)] (k [5,18,19,20] (.block 0 (.loop (q [b 21 .lss 20 19] (s (h 21 .skip (.exit 0)) (k [5,18,19,20] (s (.block 1 (q [u 22 3 18 20,g 23 3 22,a 7 13 [j 0,j 0,j 0],r 3 7 23] (p [m 24 5,o 25 (.bt 3 1 7 (i 0)),l 26 1 25,o 27 (.conv .u8 26),o 28 (.bt 3 1 7 (i 1)),l 29 1 28,o 30 (.conv .u8 29),o 31 (.bt 3 1 7 (i 2)),l 32 1 31,o 33 (.conv .u8 32),o 34 (.aI 4 1 3 [.int .u8 0] [(0,27),(1,30),(2,33)]),o 35 (.app 4 1 24 34),m 5 35]))) (k [5,18,19,20] (p [b 36 .add 20 (i 1),m 20 36])))))))))) (k [5] (t [m 37 5,m 2 37,m 3 (i 0)]))))))⟩
structure Wm (R:Env):Prop where
 o82:R.Fn 82 c82
 Jc:Um R
end Go.UM
namespace Go.UM
open Go.AM
open Z
def QB:bo:=Nf ⟨2,[3],q [m 3 (.k (.bool false))] (q [m 4 0,b 5 .lss 4 (i 0),m 6 5,⟨some 7,some (6,false),.mv 0⟩,⟨some 8,some (6,false),.load false 1 1⟩,⟨some 9,some (6,false),.bin .gtr 7 8⟩,w 10 6 (.k (.bool true)) 9,m 3 10] (k [3] .ret))⟩
structure Lf (R:Env):Prop where
 Wn:R.Fn 322 QB
def QC:bo:=Nf ⟨2,[4],q [x 2 10 0,m 4 (.k (.bool false))] (t [m 5 1,o 6 (.Ny 322 [2]),c 7 323 [5,6],m 4 7])⟩
structure Hl (R:Env):Prop where
 Ew:R.Fn 307 QC
 n322:Lf R
 n323:KB R
def QD:bo:=Nf ⟨1,[2],q [x 1 40 0,m 2 (i 0)] (s (q [f 3 0 1,l 4 1 3,o 5 (.aI 10 1 1 [j 0] [(0,4)]),c 6 307 [i 4,5],m 7 6,⟨some 8,some (7,false),.aC 1 1⟩,⟨some 9,some (7,false),.bt 3 1 8 (i 0)⟩,⟨some 10,some (7,false),.load false 1 9⟩,⟨some 11,some (7,false),.aC 1 1⟩,⟨some 12,some (7,false),.bt 3 1 11 (i 1)⟩,⟨some 13,some (7,false),.load false 1 12⟩,⟨some 14,some (7,false),.aC 1 1⟩,⟨some 15,some (7,false),.bt 3 1 14 (i 2)⟩,⟨some 16,some (7,false),.load false 1 15⟩,⟨some 17,some (7,false),.aC 4 1⟩,⟨some 18,some (7,false),.load false 1 17⟩,⟨some 19,some (7,false),.aI 10 1 4 [j 0] [(0,10),(1,13),(2,16),(3,18)]⟩,⟨some 20,some (7,false),.call 307 [i 65535,19]⟩,w 21 7 (.k (.bool true)) 20] (k [21] (h 21 (t [m 2 (i 5)]) .skip))) (k [] (t [m 2 (i 0)])))⟩
structure Lg (R:Env):Prop where
 QE:R.Fn 290 QD
 n307:Hl R
def QF:bo:=Nf ⟨1,[2],q [x 1 26 0,m 2 (.k (.bool false))] (q [f 3 0 1,l 4 1 3,f 5 1 1,l 6 1 5,f 7 2 1,l 8 1 7,o 9 (.mm true [4,6,8]),b 10 .gtr 9 (i 4096),m 11 10,⟨some 12,some (11,false),.aC 0 1⟩,⟨some 13,some (11,false),.load false 1 12⟩,⟨some 14,some (11,false),.aC 1 1⟩,⟨some 15,some (11,false),.load false 1 14⟩,⟨some 16,some (11,false),.aC 2 1⟩,⟨some 17,some (11,false),.load false 1 16⟩,⟨some 18,some (11,false),.mm false [13,15,17]⟩,⟨some 19,some (11,false),.bin .lss 18 (i (-4096))⟩,w 20 11 (.k (.bool true)) 19,m 2 20] (k [2] .ret))⟩
structure Lh (R:Env):Prop where
 Hm:R.Fn 308 QF
def QG:bo:=Nf ⟨1,[2],q [x 1 41 0,m 2 (i 0)] (q [m 3 (.f 308)] (q [o 5 (.build [j 0,j 0,j 0] []),a 4 26 [j 0,j 0,j 0],r 3 4 5] (s (.block 0 (q [f 7 0 1,l 8 1 7,o 9 (.aI 10 1 1 [j 0] [(0,8)]),c 10 307 [i 2,9],m 11 10,⟨some 12,some (11,false),.aC 1 1⟩,⟨some 13,some (11,false),.JS 3 1 12 none none none⟩,⟨some 14,some (11,false),.call 307 [i 1048576,13]⟩,w 15 11 (.k (.bool true)) 14,m 6 15] (k [1,3,4,6] (h 6 (t [m 2 (i 5)]) (q [m 17 3,f 18 4 1,g 19 3 18,o 20 (.gC 17 [19]),m 21 20,⟨some 22,some (21,false),.mv 3⟩,⟨some 23,some (21,false),.aC 7 1⟩,⟨some 24,some (21,false),.load true 3 23⟩,⟨some 25,some (21,false),.gC 22 [24]⟩,w 26 21 (.k (.bool true)) 25,m 27 26,⟨some 28,some (27,false),.mv 3⟩,⟨some 29,some (27,false),.aC 10 1⟩,⟨some 30,some (27,false),.load true 3 29⟩,⟨some 31,some (27,false),.gC 28 [30]⟩,w 32 27 (.k (.bool true)) 31,m 16 32] (k [1,4,16] (h 16 (t [m 2 (i 8)]) .skip))))))) (k [1,4] (s (q [f 33 0 1,l 34 1 33] (.block 1 (s (.block 3 (s (.block 2 (s (s (q [b 36 .eql 34 (i 2),m 35 36] (h 35 (.exit 2) .skip)) (y [1,4,34] [b 38 .eql 34 (i 0),m 37 38] (h 37 (.exit 3) .skip))) (k [] (.exit 1)))) (y [1,4] [f 39 4 1,g 40 3 39,g 41 3 4,o 42 (.ol true [.i,.i,.i] 40 41)] (h 42 (t [m 2 (i 5)]) .skip)))) (k [1,4] (s (q [f 43 7 1,g 44 3 43,g 45 3 4,o 46 (.ol true [.i,.i,.i] 44 45),m 47 46,⟨some 48,some (47,false),.aC 10 1⟩,⟨some 49,some (47,false),.load true 3 48⟩,⟨some 50,some (47,false),.load true 3 4⟩,⟨some 51,some (47,false),.ol true [.i,.i,.i] 49 50⟩,w 52 47 (.k (.bool true)) 51] (k [52] (h 52 (t [m 2 (i 5)]) .skip))) (k [] (.exit 1))))))) (k [] (t [m 2 (i 0)])))))))⟩
structure Li (R:Env):Prop where
 QH:R.Fn 292 QG
 n307:Hl R
 n308:Lh R
def QI:bo:=Nf ⟨2,[4],q [m 4 (.k (.bool false))] (s (q [m 6 0,n 7 6,m 8 1,n 9 8,b 10 .neq 7 9] (k [0,1,10] (h 10 (t [m 4 (.k (.bool false))]) .skip))) (k [0,1] (s (q [m 11 0,n 12 11,m 13 (i 0)] (k [0,1,12,13] (.block 0 (.loop (q [b 14 .lss 13 12] (s (h 14 .skip (.exit 0)) (k [0,1,12,13] (s (.block 1 (q [m 15 13,m 5 15] (s (.draw [0,0,3,7,0,0,48,112,255] [[0],[5],[16,17],[18],[1],[5],[20,21],[22],[19,23]] [m 16 0,m 17 5,u 18 3 16 17,g 19 3 18,m 20 1,m 21 5,u 22 3 20 21,g 23 3 22,o 24 (.ol true [.i,.i,.i] 19 23)]) (k [0,1,12,13,24] (h 24 (t [m 4 (.k (.bool false))]) .skip))))) (k [0,1,12,13] (p [b 25 .add 13 (i 1),m 13 25])))))))))) (k [] (t [m 4 (.k (.bool true))])))))⟩
structure Lj (R:Env):Prop where
 QJ:R.Fn 315 QI
def QK:bo:=Nf ⟨2,[4],q [m 4 (.k (.bool false))] (s (q [m 6 0,n 7 6,m 8 1,n 9 8,b 10 .neq 7 9] (k [0,1,10] (h 10 (t [m 4 (.k (.bool false))]) .skip))) (k [0,1] (s (q [m 11 0,n 12 11,m 13 (i 0)] (k [0,1,12,13] (.block 0 (.loop (q [b 14 .lss 13 12] (s (h 14 .skip (.exit 0)) (k [0,1,12,13] (s (.block 1 (q [m 15 13,m 5 15] (s (.draw [0,0,3,7,0,0,48,112,255] [[0],[5],[16,17],[18],[1],[5],[20,21],[22],[19,23]] [m 16 0,m 17 5,u 18 2 16 17,g 19 2 18,m 20 1,m 21 5,u 22 2 20 21,g 23 2 22,o 24 (.ol true [.i,.i] 19 23)]) (k [0,1,12,13,24] (h 24 (t [m 4 (.k (.bool false))]) .skip))))) (k [0,1,12,13] (p [b 25 .add 13 (i 1),m 13 25])))))))))) (k [] (t [m 4 (.k (.bool true))])))))⟩
structure Lk (R:Env):Prop where
 QL:R.Fn 316 QK
def QM:bo:=Nf ⟨2,[4],q [m 4 (.k (.bool false))] (s (q [m 6 0,n 7 6,m 8 1,n 9 8,b 10 .neq 7 9] (k [0,1,10] (h 10 (t [m 4 (.k (.bool false))]) .skip))) (k [0,1] (s (q [m 11 0,n 12 11,m 13 (i 0)] (k [0,1,12,13] (.block 0 (.loop (q [b 14 .lss 13 12] (s (h 14 .skip (.exit 0)) (k [0,1,12,13] (s (.block 1 (q [m 15 13,m 5 15] (s (.draw [0,0,3,7,0,0,48,112,255] [[0],[5],[16,17],[18],[1],[5],[20,21],[22],[19,23]] [m 16 0,m 17 5,u 18 3 16 17,g 19 3 18,m 20 1,m 21 5,u 22 3 20 21,g 23 3 22,o 24 (.ol true [.i,.i,.i] 19 23)]) (k [0,1,12,13,24] (h 24 (t [m 4 (.k (.bool false))]) .skip))))) (k [0,1,12,13] (p [b 25 .add 13 (i 1),m 13 25])))))))))) (k [] (t [m 4 (.k (.bool true))])))))⟩
structure Ll (R:Env):Prop where
 Lm:R.Fn 317 QM
def QN:bo:=Nf ⟨2,[4],q [x 2 39 0,x 3 39 1,m 4 (.k (.bool false))] (s (q [f 5 0 2,l 6 1 5,f 7 0 3,l 8 1 7,b 9 .neq 6 8,m 10 9,⟨some 11,some (10,false),.aC 6 2⟩,⟨some 12,some (10,false),.load true 5 11⟩,⟨some 13,some (10,false),.aC 6 3⟩,⟨some 14,some (10,false),.load true 5 13⟩,⟨some 15,some (10,false),.ol true [.i,.i,.i,.i,.i] 12 14⟩,w 16 10 (.k (.bool true)) 15,m 17 16,⟨some 18,some (17,false),.aC 11 2⟩,⟨some 19,some (17,false),.load true 13 18⟩,⟨some 20,some (17,false),.aC 11 3⟩,⟨some 21,some (17,false),.load true 13 20⟩,⟨some 22,some (17,false),.ol true [.i,.i,.i,.i,.i,.i,.i,.i,.i,.i,.i,.i,.i] 19 21⟩,w 23 17 (.k (.bool true)) 22,m 24 23,⟨some 25,some (24,false),.aC 4 2⟩,⟨some 26,some (24,false),.aC 0 25⟩,⟨some 27,some (24,false),.load false 1 26⟩,⟨some 28,some (24,false),.aC 4 3⟩,⟨some 29,some (24,false),.aC 0 28⟩,⟨some 30,some (24,false),.load false 1 29⟩,⟨some 31,some (24,false),.bin .neq 27 30⟩,w 32 24 (.k (.bool true)) 31] (k [2,3,32] (h 32 (t [m 4 (.k (.bool false))]) .skip))) (y [2,3] [f 33 1 2,f 34 0 33,l 35 1 34,f 36 1 3,f 37 0 36,l 38 1 37,c 39 315 [35,38],m 40 39,⟨some 41,some (40,true),.aC 1 2⟩,⟨some 42,some (40,true),.aC 1 41⟩,⟨some 43,some (40,true),.load false 1 42⟩,⟨some 44,some (40,true),.aC 1 3⟩,⟨some 45,some (40,true),.aC 1 44⟩,⟨some 46,some (40,true),.load false 1 45⟩,⟨some 47,some (40,true),.call 316 [43,46]⟩,w 48 40 47 (.k (.bool false)),m 49 48,⟨some 50,some (49,true),.aC 1 2⟩,⟨some 51,some (49,true),.aC 2 50⟩,⟨some 52,some (49,true),.load false 1 51⟩,⟨some 53,some (49,true),.aC 1 3⟩,⟨some 54,some (49,true),.aC 2 53⟩,⟨some 55,some (49,true),.load false 1 54⟩,⟨some 56,some (49,true),.call 317 [52,55]⟩,w 57 49 56 (.k (.bool false)),m 58 57,⟨some 59,some (58,true),.aC 4 2⟩,⟨some 60,some (58,true),.aC 1 59⟩,⟨some 61,some (58,true),.load false 1 60⟩,⟨some 62,some (58,true),.aC 4 3⟩,⟨some 63,some (58,true),.aC 1 62⟩,⟨some 64,some (58,true),.load false 1 63⟩,⟨some 65,some (58,true),.call 317 [61,64]⟩,w 66 58 65 (.k (.bool false)),m 4 66] (k [4] .ret)))⟩
structure Ln (R:Env):Prop where
 QO:R.Fn 298 QN
 n315:Lj R
 n316:Lk R
 n317:Ll R
def QP:bo:=Nf ⟨1,[2],q [x 1 39 0,m 2 (i 0)] (s (q [f 3 0 1,l 4 1 3] (.block 0 (q [b 6 .eql 4 (i 1),m 5 6] (h 5 (t [f 7 1 1,g 8 3 7,c 9 193 [8],m 2 9]) (q [b 11 .eql 4 (i 2),m 10 11] (h 10 (t [f 12 4 1,g 13 2 12,c 14 84 [13],m 2 14]) (q [b 16 .eql 4 (i 3),m 15 16] (h 15 (t [f 17 6 1,g 18 5 17,c 19 290 [18],m 2 19]) (q [b 21 .eql 4 (i 4),m 20 21] (h 20 (t [f 22 11 1,g 23 13 22,c 24 292 [23],m 2 24]) .skip)))))))))) (k [] (t [m 2 (i 12)])))⟩
structure Lo (R:Env):Prop where
 QQ:R.Fn 309 QP
 Jc:Um R
 n193:Hk R
 n290:Lg R
 n292:Li R
def QR:bo:=Nf ⟨1,[.cell 2 true 24],q [x 1 39 0,a 2 39 Z4] (s (q [f 3 0 1,l 4 1 3] (.block 0 (q [b 6 .eql 4 (i 1),m 5 6] (h 5 (p [o 7 (.build [.ap,.ap,.ap] []),f 8 1 1,r 3 8 7]) (q [b 10 .eql 4 (i 2),m 9 10] (h 9 (p [o 11 (.build [j 0,.ap] []),f 12 4 1,r 2 12 11]) (q [b 14 .eql 4 (i 3),m 13 14] (h 13 (p [o 15 (.build [j 0,j 0,j 0,j 0,j 0] []),f 16 6 1,r 5 16 15]) (q [b 18 .eql 4 (i 4),m 17 18] (h 17 (p [o 19 (.build Z6 []),f 20 11 1,r 13 20 19]) .skip)))))))))) (k [1,2] (t [g 21 24 1,r 24 2 21])))⟩
structure Lp (R:Env):Prop where
 QS:R.Fn 310 QR
def QT:bo:=Nf ⟨1,[2],q [x 1 39 0,m 2 (.k .ap)] (s (q [f 16 0 1,l 17 1 16] (.block 0 (q [b 19 .eql 17 (i 1),m 18 19] (h 18 (q [f 21 1 1,g 22 3 21,c 23 196 [22],m 20 23,e 24 20 0,e 25 20 1,m 3 24,m 4 25] (k [3] (t [m 26 3,m 2 26]))) (q [b 28 .eql 17 (i 2),m 27 28] (h 27 (q [f 30 4 1,g 31 2 30,c 32 82 [31],m 29 32,e 33 29 0,e 34 29 1,m 5 33,m 6 34] (k [5] (t [m 35 5,m 2 35]))) (q [b 37 .eql 17 (i 3),m 36 37] (h 36 (q [f 38 6 1,g 39 5 38,a 7 40 [j 0,j 0,j 0,j 0,j 0],r 5 7 39] (q [f 40 0 7,l 41 1 40,o 42 (.conv .u8 41),o 43 (.aI 4 1 1 [.int .u8 0] [(0,42)]),m 8 43] (k [7,8] (s (q [f 44 1 7,o 45 (.bt 3 1 44 (i 0)),l 46 1 45,f 47 1 7,o 48 (.bt 3 1 47 (i 1)),l 49 1 48,f 50 1 7,o 51 (.bt 3 1 50 (i 2)),l 52 1 51,f 53 4 7,l 54 1 53,o 55 (.aI 10 1 4 [j 0] [(0,46),(1,49),(2,52),(3,54)]),n 56 55,m 57 (i 0)] (k [8,55,56,57] (.block 1 (.loop (q [b 58 .lss 57 56] (s (h 58 .skip (.exit 1)) (k [8,55,56,57] (s (.block 2 (q [u 59 1 55 57,l 60 1 59,m 10 60] (p [m 62 8,m 63 10,o 64 (.conv .u64 63),o 65 (.aI 6 1 1 [.int .u64 0] [(0,64)]),c 66 54 [62,i 2,65],m 61 66,e 67 61 0,e 68 61 1,m 8 67]))) (k [8,55,56,57] (p [b 69 .add 57 (i 1),m 57 69])))))))))) (k [8] (t [m 70 8,m 2 70])))))) .skip)))))))) (y [1] [f 71 11 1,g 72 13 71,a 11 41 Z6,r 13 11 72] (q [f 74 0 11,l 75 1 74,o 76 (.conv .u8 75),o 77 (.aI 4 1 1 [.int .u8 0] [(0,76)]),f 78 1 11,o 79 (.bt 3 1 78 (i 0)),l 80 1 79,o 81 (.conv .u64 80),f 82 1 11,o 83 (.bt 3 1 82 (i 1)),l 84 1 83,o 85 (.conv .u64 84),f 86 1 11,o 87 (.bt 3 1 86 (i 2)),l 88 1 87,o 89 (.conv .u64 88),o 90 (.aI 6 1 3 [.int .u64 0] [(0,81),(1,85),(2,89)]),c 91 54 [77,i 4,90],m 73 91,e 92 73 0,e 93 73 1,m 12 92,m 13 93] (k [11,12] (s (q [f 94 4 11,g 95 3 94,f 96 7 11,g 97 3 96,f 98 10 11,g 99 3 98,o 100 (.aI 26 3 3 [j 0,j 0,j 0] [(0,95),(1,97),(2,99)]),n 101 100,m 102 (i 0)] (k [12,100,101,102] (.block 3 (.loop (q [b 103 .lss 102 101] (s (h 103 .skip (.exit 3)) (k [12,100,101,102] (s (.block 4 (q [u 104 3 100 102,g 105 3 104,a 15 26 [j 0,j 0,j 0],r 3 15 105] (p [m 107 12,f 108 0 15,l 109 1 108,f 110 1 15,l 111 1 110,f 112 2 15,l 113 1 112,o 114 (.aI 10 1 3 [j 0] [(0,109),(1,111),(2,113)]),c 115 71 [107,i 2,114],m 106 115,e 116 106 0,e 117 106 1,m 12 116]))) (k [12,100,101,102] (p [b 118 .add 102 (i 1),m 102 118])))))))))) (k [12] (t [m 119 12,m 2 119])))))))⟩
structure Lq (R:Env):Prop where
 QU:R.Fn 311 QT
 FW:K9 R
 NG:Qs R
 Un:Wm R
 n196:Le R
def QV:bo:=Nf ⟨1,[2],q [x 1 39 0,m 2 (i 0)] (s (q [g 4 24 1,c 5 309 [4],m 3 5] (q [m 6 3,b 7 .neq 6 (i 0)] (h 7 (t [m 8 3,m 2 8]) .skip))) (k [1] (s (s (.draw [0,1,0,4,12,31,63] [[1],[9],[1],[11],[12],[10,13],[14]] [g 9 24 1,c 10 310 [9],f 11 0 1,l 12 1 11,o 13 (.build Z4 [(0,1,12)]),c 14 298 [10,13],o 15 (.un .not 14)]) (k [1,15] (h 15 (t [m 2 (i 5)]) .skip))) (k [1] (s (s (.draw [0,1,3,0,8,27,63] [[1],[16],[17],[1],[19],[20],[18,21]] [g 16 24 1,c 17 311 [16],n 18 17,f 19 0 1,l 20 1 19,c 21 37 [20],b 22 .gtr 18 21]) (k [22] (h 22 (t [m 2 (i 9)]) .skip))) (k [] (t [m 2 (i 0)])))))))⟩
structure Lr (R:Env):Prop where
 QW:R.Fn 294 QV
 n37:Wi R
 n298:Ln R
 n309:Lo R
 n310:Lp R
 n311:Lq R
end Go.UM
namespace Go.UM
open Go.AM
open Z
def QX:bo:=Nf ⟨0,[0],q [m 0 (.k .bG)] (q [o 1 (.TV 1 false true 41),o 2 (.TV 4 true true 16),o 3 (.build [.cb,.cb] [(0,1,1),(1,1,2)]),x 4 47 3,m 0 4] (k [0] .ret))⟩
structure Hn (R:Env):Prop where
 Wo:R.Fn 345 QX
def QY:bo:=Nf ⟨1,[2],q [m 2 (.k (.bool false))] (q [m 3 0,o 4 (.Gp false 3),m 5 4,⟨some 6,some (5,false),.mv 0⟩,⟨some 7,some (5,false),.bv 6⟩,⟨some 8,some (5,false),.aC 0 7⟩,⟨some 9,some (5,false),.load false 1 8⟩,⟨some 10,some (5,false),.Gq false 9⟩,w 11 5 (.k (.bool true)) 10,m 2 11] (k [2] .ret))⟩
structure rJ (R:Env):Prop where
 Ex:R.Fn 355 QY
def QZ:bo:=Nf ⟨1,[.cell 2 true 24],q [x 1 39 0,a 2 39 Z4] (s (.draw [0,1,3,7,0,16,48,127,0,256,768,2047,4095,8191,16383] [[1],[3],[4],[5],[1],[7],[8],[9],[1],[11],[12],[13],[6,10,14],[1],[16,15]] [f 3 1 1,f 4 0 3,l 5 1 4,c 6 361 [5],f 7 1 1,f 8 1 7,l 9 1 8,c 10 362 [9],f 11 1 1,f 12 2 11,l 13 1 12,c 14 101 [13],o 15 (.build [.ap,.ap,.ap] [(0,1,6),(1,1,10),(2,1,14)]),f 16 1 1,r 3 16 15]) (y [1,2] [f 17 4 1,f 18 1 17,l 19 1 18,c 20 101 [19],f 21 4 1,f 22 1 21,r 1 22 20] (k [1,2] (t [g 23 24 1,r 24 2 23]))))⟩
structure Ho (R:Env):Prop where
 Hp:R.Fn 356 QZ
 n101:G3 R
 Hq:G5 R
 Hr:G6 R
def Q0:bo:=Nf ⟨4,[8],q [x 6 2 2,x 7 39 3,m 8 (i 0)] (s (.block 0 (q [m 13 0,c 14 355 [13],m 12 14] (h 12 (t [m 8 (i 1)]) (q [m 16 1,b 17 .lss 16 (i 1),m 18 17,⟨some 19,some (18,false),.mv 1⟩,⟨some 20,some (18,false),.bin .gtr 19 (i 65536)⟩,w 21 18 (.k (.bool true)) 20,m 15 21] (k [0,1,6,7,15] (h 15 (t [m 8 (i 2)]) .skip)))))) (k [0,1,6,7] (s (q [m 23 0,o 24 (.bv 23),f 25 0 24,l 26 1 25,m 27 1,o 28 (.Gu [.i] false true (.agg Z2) true 26 27),m 22 28,e 29 22 0,e 30 22 1,a 9 45 Z2,r 40 9 29,m 10 30] (y [0,1,6,7,10] [m 31 10] (h 31 (t [m 8 (i 10)]) .skip))) (k [0,1,6,7] (s (q [g 32 24 7,c 33 294 [32],m 11 33] (q [m 34 11,b 35 .neq 34 (i 0)] (h 35 (t [m 36 11,m 8 36]) .skip))) (k [0,1,6,7] (s (q [f 37 1 6,l 38 1 37,f 39 0 7,l 40 1 39,b 41 .neq 38 40] (k [0,1,6,7,41] (h 41 (t [m 8 (i 12)]) .skip))) (k [0,1,6,7] (s (.draw [0,1,3,7,0,0,0,0,128,480,1023] [[0],[42],[43],[44],[1],[1],[6],[7],[49],[47,48,50],[45,46,51]] [m 42 0,o 43 (.bv 42),f 44 0 43,l 45 1 44,m 46 1,m 47 1,g 48 15 6,g 49 24 7,c 50 356 [49],o 51 (.build Z2 [(0,1,47),(1,15,48),(16,24,50)]),v (.JV [.i] false true 45 46 51)]) (k [] (t [m 8 (i 0)])))))))))))⟩
structure BS (R:Env):Prop where
 Q1:R.Fn 346 Q0
 n294:Lr R
 eV:rJ R
 sU:Ho R
def Q2:bo:=Nf ⟨2,[4],q [x 3 44 1,m 4 (i 0)] (q [m 5 (i 0)] (s (q [f 10 0 3,l 11 1 10,o 12 (.build [j 0,j 0] [(0,1,11),(1,1,i 1)]),f 13 1 3,l 14 1 13,o 15 (.build [j 0,j 0] [(0,1,14),(1,1,i 3)]),f 16 2 3,l 17 1 16,o 18 (.build [j 0,j 0] [(0,1,17),(1,1,i 2)]),o 19 (.aI 18 2 3 [j 0,j 0] [(0,12),(1,15),(2,18)]),n 20 19,m 21 (i 0)] (k [0,5,19,20,21] (.block 0 (.loop (q [b 22 .lss 21 20] (s (h 22 .skip (.exit 0)) (k [0,5,19,20,21] (s (.block 1 (q [u 23 2 19 21,g 24 2 23,a 7 18 [j 0,j 0],r 2 7 24] (s (.draw [0,1,3,7,0,16,63,127,255,255,0,1535,4095] [[0],[26],[27],[28],[7],[30],[29,31],[32],[25],[25],[],[8,33],[34]] [m 26 0,o 27 (.bv 26),f 28 0 27,l 29 1 28,o 30 (.bt 2 1 7 (i 0)),l 31 1 30,o 32 (.Gu [.i] false true (.agg Z2) true 29 31),m 25 32,e 33 25 0,e 34 25 1,a 8 45 Z2,r 40 8 33,m 9 34]) (k [0,5,7,8,9,19,20,21] (.block 2 (q [o 36 (.bt 2 1 7 (i 1)),l 37 1 36,b 38 .eql 37 (i 2),m 39 38,⟨some 40,some (39,true),.bt 2 1 7 (i 0)⟩,⟨some 41,some (39,true),.load false 1 40⟩,⟨some 42,some (39,true),.bin .eql 41 (i 0)⟩,w 43 39 42 (.k (.bool false)),m 35 43] (k [0,5,7,8,9,19,20,21,35] (h 35 .skip (q [m 45 9,o 46 (.un .not 45),m 44 46] (h 44 (t [m 4 (i 11)]) (q [f 48 1 8,f 49 1 48,l 50 1 49,o 51 (.bt 2 1 7 (i 1)),l 52 1 51,b 53 .neq 50 52,m 47 53] (k [0,5,19,20,21,47] (h 47 (p [m 5 (i 12)]) .skip))))))))))))) (k [0,5,19,20,21] (p [b 54 .add 21 (i 1),m 21 54])))))))))) (k [5] (t [m 55 5,m 4 55]))))⟩
structure Ls (R:Env):Prop where
 Wp:R.Fn 357 Q2
def Q3:bo:=Nf ⟨1,[.cell 2 true 4],q [x 1 44 0,a 2 49 [j 0,j 0,j 0,j 0]] (q [f 3 0 1,l 4 1 3,f 5 1 1,l 6 1 5,f 7 2 1,l 8 1 7,f 9 3 1,l 10 1 9,o 11 (.build [j 0,j 0,j 0,j 0] [(0,1,4),(1,1,6),(2,1,8),(3,1,10)]),r 4 2 11] (k [2] .ret))⟩
structure Ey (R:Env):Prop where
 y3:R.Fn 358 Q3
def Q4:bo:=Nf ⟨2,[4],q [x 3 44 1,m 4 (i 0)] (s (.block 0 (q [m 13 0,c 14 355 [13],m 12 14] (h 12 (t [m 4 (i 1)]) (q [f 16 3 3,l 17 1 16,b 18 .lss 17 (i 0),m 19 18,⟨some 20,some (19,false),.aC 3 3⟩,⟨some 21,some (19,false),.load false 1 20⟩,⟨some 22,some (19,false),.bin .gtr 21 (i 65536)⟩,w 23 19 (.k (.bool true)) 22,m 15 23] (k [0,3,15] (h 15 (t [m 4 (i 2)]) .skip)))))) (k [0,3] (s (q [m 24 0,g 25 16 3,c 26 357 [24,25],m 5 26] (q [m 27 5,b 28 .neq 27 (i 0)] (h 28 (t [m 29 5,m 4 29]) .skip))) (k [0,3] (s (s (.draw [0,1,3,7,0,16,63,127,255,255,0,1535,4095] [[0],[31],[32],[33],[3],[35],[34,36],[37],[30],[30],[],[6,38],[39]] [m 31 0,o 32 (.bv 31),f 33 1 32,l 34 1 33,g 35 16 3,c 36 358 [35],o 37 (.Gu [.i,.i,.i,.i] true true (.agg Z7) true 34 36),m 30 37,e 38 30 0,e 39 30 1,a 6 33 Z7,r 12 6 38,m 7 39]) (y [0,3,7] [m 40 7] (h 40 (t [m 4 (i 10)]) .skip))) (k [0,3] (s (s (.draw [0,1,3,7,0,16,63,127,255,511,1023,0] [[0],[41],[42],[43],[3],[45],[44,46],[47],[48],[49],[50],[]] [m 41 0,o 42 (.bv 41),f 43 0 42,l 44 1 43,f 45 0 3,l 46 1 45,o 47 (.Gu [.i] false true (.agg Z2) false 44 46),o 48 (.Dw true 16 24 47),o 49 (.Dw true 1 3 48),o 50 (.Dw false 0 1 49),n 51 50,m 52 (i 0)]) (k [0,3,50,51,52] (.block 1 (.loop (q [b 53 .lss 52 51] (s (h 53 .skip (.exit 1)) (k [0,3,50,51,52] (s (.block 2 (q [u 54 3 50 52,g 55 3 54,a 9 26 [j 0,j 0,j 0],r 3 9 55] (q [f 57 4 3,g 58 12 57,g 59 3 9,c 60 241 [58,59],m 56 60,e 61 56 0,e 62 56 1,a 10 26 [j 0,j 0,j 0],r 3 10 61,m 11 62] (y [0,3,11,50,51,52] [m 63 11,b 64 .neq 63 (i 0)] (h 64 (t [m 65 11,m 4 65]) .skip))))) (k [0,3,50,51,52] (p [b 66 .add 52 (i 1),m 52 66])))))))))) (k [0,3] (s (.draw [0,1,3,7,0,16,0,64,255] [[0],[67],[68],[69],[3],[71],[3],[73],[70,72,74]] [m 67 0,o 68 (.bv 67),f 69 1 68,l 70 1 69,g 71 16 3,c 72 358 [71],f 73 4 3,g 74 12 73,v (.JV [.i,.i,.i,.i] true true 70 72 74)]) (k [] (t [m 4 (i 0)])))))))))))⟩
structure Ez (R:Env):Prop where
 Q5:R.Fn 347 Q4
 n241:K8 R
 eV:rJ R
 Lt:Ls R
 kr:Ey R
def Q6:bo:=Nf ⟨1,[2],q [m 2 (.k .ap)] (s (q [m 7 0,c 8 355 [7]] (h 8 (t [m 2 (.k .ap)]) .skip)) (y [0] [m 3 (.k .ap)] (s (q [m 9 0,o 10 (.bv 9),f 11 0 10,l 12 1 11,c 13 433 [12],c 14 434 [13],n 15 14,m 16 (i 0)] (k [0,3,14,15,16] (.block 0 (.loop (q [b 17 .lss 16 15] (s (h 17 .skip (.exit 0)) (k [0,3,14,15,16] (s (.block 1 (q [u 18 1 14 16,l 19 1 18,m 5 19] (q [m 20 0,o 21 (.bv 20),f 22 0 21,l 23 1 22,m 24 5,o 25 (.Gu [.i] false true (.agg Z2) false 23 24),a 6 45 Z2,r 40 6 25] (y [0,3,6,14,15,16] [f 26 16 6,g 27 24 26,c 28 356 [27],f 29 16 6,r 24 29 28] (k [0,3,6,14,15,16] (p [m 30 3,g 31 40 6,o 32 (.aI 45 40 1 Z2 [(0,31)]),o 33 (.app 45 40 30 32),m 3 33])))))) (k [0,3,14,15,16] (p [b 34 .add 16 (i 1),m 16 34])))))))))) (k [3] (t [m 35 3,m 2 35])))))⟩
structure EA (R:Env):Prop where
 Q7:R.Fn 418 Q6
 eV:rJ R
 sU:Ho R
 Lu:KC R
 Lv:Pw R
def Q8:bo:=Nf ⟨2,[4],q [x 2 49 0,x 3 49 1,m 4 (i 0)] (s (.draw [0,1,0,4,15,0,32,0,128,511,0,1024,0,4096,16383,0,32768,0,131072,524287,1048575,2097151,4194303] [[2],[5],[3],[7],[6,8],[2],[10],[3],[12],[11,13],[2],[15],[3],[17],[16,18],[2],[20],[3],[22],[21,23],[9,14,19,24],[25],[26]] [f 5 0 2,l 6 1 5,f 7 0 3,l 8 1 7,c 9 451 [6,8],f 10 1 2,l 11 1 10,f 12 1 3,l 13 1 12,c 14 451 [11,13],f 15 2 2,l 16 1 15,f 17 2 3,l 18 1 17,c 19 451 [16,18],f 20 3 2,l 21 1 20,f 22 3 3,l 23 1 22,c 24 451 [21,23],o 25 (.aI 10 1 4 [j 0] [(0,9),(1,14),(2,19),(3,24)]),c 26 452 [25],m 4 26]) (k [4] .ret))⟩
structure Lw (R:Env):Prop where
 Q9:R.Fn 450 Q8
 sV:KF R
 Hs:KG R
def Ra:bo:=Nf ⟨2,[4],q [x 2 44 0,x 3 44 1,m 4 (i 0)] (s (.draw [0,1,0,7,15,31] [[2],[5],[3],[7],[6,8],[9]] [g 5 16 2,c 6 358 [5],g 7 16 3,c 8 358 [7],c 9 450 [6,8],m 4 9]) (k [4] .ret))⟩
structure Lx (R:Env):Prop where
 Wq:R.Fn 436 Ra
 kr:Ey R
 Ht:Lw R
def Rb:bo:=Nf ⟨1,[2],q [m 2 (.k .ap)] (s (q [m 6 0,c 7 355 [6]] (h 7 (t [m 2 (.k .ap)]) .skip)) (y [0] [m 3 (.k .ap)] (s (q [m 8 0,o 9 (.bv 8),f 10 1 9,l 11 1 10,o 12 (.JX 11)] (k [3,12] (.block 0 (.loop (q [o 13 (.Nz 12),e 14 13 0] (s (h 14 .skip (.exit 0)) (k [3,12] (.block 1 (q [o 15 (.F9 12),e 16 15 0,e 17 15 1,a 4 49 [j 0,j 0,j 0,j 0],a 5 33 Z7,r 4 4 16,r 12 5 17] (k [3,4,5,12] (p [m 18 3,f 19 0 4,l 20 1 19,f 21 1 4,l 22 1 21,f 23 2 4,l 24 1 23,f 25 3 4,l 26 1 25,g 27 12 5,o 28 (.build Z5 [(0,1,20),(1,1,22),(2,1,24),(3,1,26),(4,12,27)]),o 29 (.aI 44 16 1 Z5 [(0,28)]),o 30 (.app 44 16 18 29),m 3 30]))))))))))) (y [3] [m 31 3,c 32 435 [31,.f 436]] (t [m 33 3,m 2 33])))))⟩
structure Hu (R:Env):Prop where
 Rc:R.Fn 419 Rb
 eV:rJ R
 Hv:Px R
 Ly:Lx R
def Re:bo:=Nf ⟨2,[4],q [x 3 44 1,m 4 (i 0)] (s (q [m 7 0,c 8 355 [7]] (h 8 (t [m 4 (i 1)]) .skip)) (k [0,3] (s (s (.draw [0,1,3,7,0,16,63,127,255,255,0,1535,4095] [[0],[10],[11],[12],[3],[14],[13,15],[16],[9],[9],[],[5,17],[18]] [m 10 0,o 11 (.bv 10),f 12 1 11,l 13 1 12,g 14 16 3,c 15 358 [14],o 16 (.Gu [.i,.i,.i,.i] true true (.agg Z7) true 13 15),m 9 16,e 17 9 0,e 18 9 1,a 5 33 Z7,r 12 5 17,m 6 18]) (y [0,3,6] [m 19 6,o 20 (.un .not 19)] (h 20 (t [m 4 (i 11)]) .skip))) (k [0,3] (s (.draw [0,1,3,7,0,16,63] [[0],[21],[22],[23],[3],[25],[24,26]] [m 21 0,o 22 (.bv 21),f 23 1 22,l 24 1 23,g 25 16 3,c 26 358 [25],v (.IS [.i,.i,.i,.i] true 24 26)]) (k [] (t [m 4 (i 0)])))))))⟩
structure EB (R:Env):Prop where
 Rf:R.Fn 427 Re
 eV:rJ R
 kr:Ey R
def Rg:bo:=Nf ⟨3,[5],q [x 3 49 0,x 4 33 1,m 5 (.k (.bool false))] (q [f 6 0 3,l 7 1 6,l 8 1 2,b 9 .eql 7 8,m 10 9,⟨some 11,some (10,false),.aC 1 3⟩,⟨some 12,some (10,false),.load false 1 11⟩,⟨some 13,some (10,false),.load false 1 2⟩,⟨some 14,some (10,false),.bin .eql 12 13⟩,w 15 10 (.k (.bool true)) 14,m 16 15,⟨some 17,some (16,false),.aC 2 3⟩,⟨some 18,some (16,false),.load false 1 17⟩,⟨some 19,some (16,false),.load false 1 2⟩,⟨some 20,some (16,false),.bin .eql 18 19⟩,w 21 16 (.k (.bool true)) 20,m 5 21] (k [5] .ret))⟩
structure Hw (R:Env):Prop where
 Wr:R.Fn 437 Rg
def Rh:bo:=Nf ⟨2,[4],q [x 3 10 1,m 4 (i 0)] (s (q [m 7 0,c 8 355 [7]] (h 8 (t [m 4 (i 1)]) .skip)) (k [0,3] (s (s (.draw [0,1,3,7,0,31,63,127,127,0,767,2047] [[0],[10],[11],[12],[3],[13,14],[15],[9],[9],[],[5,16],[17]] [m 10 0,o 11 (.bv 10),f 12 0 11,l 13 1 12,l 14 1 3,o 15 (.Gu [.i] false true (.agg Z2) true 13 14),m 9 15,e 16 9 0,e 17 9 1,a 5 45 Z2,r 40 5 16,m 6 17]) (y [0,3,6] [m 18 6,o 19 (.un .not 18)] (h 19 (t [m 4 (i 11)]) .skip))) (k [0,3] (s (.draw [0,1,3,7,0,31] [[0],[20],[21],[22],[3],[23,24]] [m 20 0,o 21 (.bv 20),f 22 0 21,l 23 1 22,l 24 1 3,v (.IS [.i] false 23 24)]) (y [0,3] [m 25 0,o 26 (.bv 25),f 27 1 26,l 28 1 27,o 29 (.Ny 437 [3]),c 30 438 [28,29]] (k [] (t [m 4 (i 0)]))))))))⟩
structure BT (R:Env):Prop where
 Rk:R.Fn 428 Rh
 eV:rJ R
 Lz:Hw R
 LA:KH R
def Rl:bo:=Nf ⟨1,[2],q [m 2 (.k .bG)] (s (q [m 3 0,c 4 355 [3]] (h 4 (t [m 2 (.k .bG)]) .skip)) (k [0] (s (.draw [0,1,3,7,15,0,32,96,224,511,1023,2047,4095] [[0],[5],[6],[7],[8],[0],[10],[11],[12],[13],[9,14],[15],[16]] [m 5 0,o 6 (.bv 5),f 7 0 6,l 8 1 7,c 9 439 [8],m 10 0,o 11 (.bv 10),f 12 1 11,l 13 1 12,c 14 440 [13],o 15 (.build [.cb,.cb] [(0,1,9),(1,1,14)]),x 16 47 15,m 2 16]) (k [2] .ret))))⟩
structure Hx (R:Env):Prop where
 Ro:R.Fn 430 Rl
 eV:rJ R
 LB:PF R
 LC:PG R
end Go.UM
namespace Go.UM
open Go.AM
open Z
def Rp:bo:=Nf ⟨1,[.cell 2 true 3],q [x 1 25 0,a 2 25 [.ap,.ap,.ap]] (s (.draw [0,1,0,4,12,28,63,0,128,0,512,1536,3584,8064,0,16384,0,65536,196608,458752,1032192,2097151,4194303] [[1],[3],[1],[5],[6],[7],[4,8],[1],[10],[1],[12],[13],[14],[11,15],[1],[17],[1],[19],[20],[21],[18,22],[9,16,23],[2,24]] [f 3 0 1,l 4 1 3,f 5 0 1,l 6 1 5,n 7 6,o 8 (.mm false [7,i 70]),o 9 (.sP 26 3 4 none (some 8) none),f 10 1 1,l 11 1 10,f 12 1 1,l 13 1 12,n 14 13,o 15 (.mm false [14,i 70]),o 16 (.sP 18 2 11 none (some 15) none),f 17 2 1,l 18 1 17,f 19 2 1,l 20 1 19,n 21 20,o 22 (.mm false [21,i 70]),o 23 (.sP 13 3 18 none (some 22) none),o 24 (.build [.ap,.ap,.ap] [(0,1,9),(1,1,16),(2,1,23)]),r 3 2 24]) (k [2] .ret))⟩
structure LD (R:Env):Prop where
 Rq:R.Fn 191 Rp
end Go.UM
namespace Go.UM
open Go.AM
open Z
def Rr:bo:=Nf ⟨1,[2],q [m 2 (.k (.int .u64 0))] (s (q [m 3 0,b 4 .lss 3 (i 0)] (h 4 (q [m 5 0,b 6 .add 5 (i 1),o 7 (.un .neg 6),o 8 (.conv .u64 7),b 9 .add 8 (.k (.int .u64 1)),m 2 9] (k [2] .ret)) .skip)) (k [0] (t [m 10 0,o 11 (.conv .u64 10),m 2 11])))⟩
structure y4 (R:Env):Prop where
 vn:R.Fn 279 Rr
def Rs:bo:=Nf ⟨3,[6],q [m 6 (i 0)] (s (q [m 7 1] (h 7 (s (q [m 8 2,m 9 8,⟨some 10,some (9,false),.mv 0⟩,⟨some 11,some (9,false),.bin .geq 10 (.k (.int .u64 9223372036854775808))⟩,w 12 9 (.k (.bool true)) 11] (k [0,12] (h 12 (t [m 6 (i (-9223372036854775808))]) .skip))) (k [0] (t [m 13 0,o 14 (.conv .i64 13),o 15 (.un .neg 14),m 6 15]))) .skip)) (k [0,2] (s (q [m 16 2,m 17 16,⟨some 18,some (17,false),.mv 0⟩,⟨some 19,some (17,false),.bin .geq 18 (.k (.int .u64 9223372036854775808))⟩,w 20 17 (.k (.bool true)) 19] (k [0,20] (h 20 (t [m 6 (i 9223372036854775807)]) .skip))) (k [0] (t [m 21 0,o 22 (.conv .i64 21),m 6 22])))))⟩
structure BU (R:Env):Prop where
 xc:R.Fn 280 Rs
def Rt:bo:=Nf ⟨2,[4],q [m 4 (i 0)] (q [m 11 0,c 12 279 [11],m 13 1,c 14 279 [13],c 15 276 [12,14],m 10 15,e 16 10 0,e 17 10 1,m 5 16,m 6 17] (y [0,1,5,6] [m 18 5,b 19 .shl 18 (.k (.int .u64 32)),m 20 6,b 21 .shr 20 (.k (.int .u64 32)),b 22 .or 19 21,m 7 22] (y [0,1,5,6,7] [m 23 5,b 24 .geq 23 (.k (.int .u64 4294967296)),m 8 24] (q [m 25 0,b 26 .lss 25 (i 0),m 27 1,b 28 .lss 27 (i 0),o 29 (.JQ true 26 28),m 9 29] (k [6,7,8,9] (s (q [m 30 9,m 31 30,⟨some 32,some (31,true),.mv 6⟩,⟨some 33,some (31,true),.bin .and 32 (.k (.int .u64 4294967295))⟩,⟨some 34,some (31,true),.bin .gtr 33 (.k (.int .u64 0))⟩,w 35 31 34 (.k (.bool false))] (k [7,8,9,35] (h 35 (q [m 36 7,b 37 .add 36 (.k (.int .u64 1)),m 7 37] (p [m 38 8,m 39 38,⟨some 40,some (39,false),.mv 7⟩,⟨some 41,some (39,false),.bin .eql 40 (.k (.int .u64 0))⟩,w 42 39 (.k (.bool true)) 41,m 8 42])) .skip))) (y [7,8,9] [m 43 7,m 44 9,m 45 8,c 46 280 [43,44,45],m 4 46] (k [4] .ret))))))))⟩
structure LF (R:Env):Prop where
 Hy:R.Fn 268 Rt
 n276:G4 R
 n279:y4 R
 n280:BU R
def Ru:bo:=Nf ⟨2,[4],q [m 4 (i 0)] (q [m 7 0,c 8 279 [7],m 9 1,c 10 279 [9],m 5 8,m 6 10] (k [0,1,5,6] (s (q [m 11 0,b 12 .lss 11 (i 0),m 13 1,b 14 .lss 13 (i 0),o 15 (.JQ false 12 14)] (k [0,1,5,6,15] (h 15 (q [m 16 5,m 17 6,b 18 .add 16 17,m 19 0,b 20 .lss 19 (i 0),m 21 5,m 22 6,b 23 .add 21 22,m 24 5,b 25 .lss 23 24,c 26 280 [18,20,25],m 4 26] (k [4] .ret)) .skip))) (k [0,1] (t [m 27 0,m 28 1,b 29 .add 27 28,m 4 29])))))⟩
structure Hz (R:Env):Prop where
 y5:R.Fn 269 Ru
 n279:y4 R
 n280:BU R
def Rv:bo:=Nf ⟨2,[4],q [m 4 (i 0)] (q [m 7 0,c 8 279 [7],m 9 1,c 10 279 [9],m 5 8,m 6 10] (k [0,1,5,6] (s (q [m 11 0,b 12 .lss 11 (i 0),m 13 1,b 14 .lss 13 (i 0),o 15 (.JQ true 12 14)] (k [0,1,5,6,15] (h 15 (q [m 16 5,m 17 6,b 18 .add 16 17,m 19 0,b 20 .lss 19 (i 0),m 21 5,m 22 6,b 23 .add 21 22,m 24 5,b 25 .lss 23 24,c 26 280 [18,20,25],m 4 26] (k [4] .ret)) .skip))) (k [0,1] (t [m 27 0,m 28 1,b 29 .sub 27 28,m 4 29])))))⟩
structure LG (R:Env):Prop where
 Rz:R.Fn 282 Rv
 n279:y4 R
 n280:BU R
def RA:bo:=Nf ⟨1,[2],q [m 2 (i 0)] (q [m 4 0,c 5 279 [4],m 3 5] (s (q [m 6 0,b 7 .geq 6 (i 0)] (h 7 (t [m 8 3,b 9 .shr 8 (.k (.int .u64 32)),o 10 (.conv .i64 9),m 2 10]) .skip)) (k [3] (s (q [m 11 3,b 12 .and 11 (.k (.int .u64 4294967295)),b 13 .eql 12 (.k (.int .u64 0))] (h 13 (q [m 14 3,b 15 .shr 14 (.k (.int .u64 32)),o 16 (.conv .i64 15),o 17 (.un .neg 16),m 2 17] (k [2] .ret)) .skip)) (y [3] [m 18 3,b 19 .shr 18 (.k (.int .u64 32)),o 20 (.conv .i64 19),o 21 (.un .neg 20),b 22 .sub 21 (i 1),m 2 22] (k [2] .ret))))))⟩
structure LH (R:Env):Prop where
 RB:R.Fn 273 RA
 n279:y4 R
def RC:bo:=Nf ⟨1,[2],q [m 2 (i 0)] (s (q [m 3 0,b 4 .geq 3 (i 9223372034707292160)] (h 4 (t [m 2 (i 2147483648)]) .skip)) (k [0] (t [m 5 0,b 6 .add 5 (i 2147483648),c 7 273 [6],m 2 7])))⟩
structure LI (R:Env):Prop where
 HA:R.Fn 261 RC
 n273:LH R
def RD:bo:=Nf ⟨1,[2],q [m 2 (i 0)] (q [m 4 0,c 5 279 [4],m 3 5] (q [m 6 3,b 7 .shl 6 (.k (.int .u64 32)),m 8 0,b 9 .lss 8 (i 0),m 10 3,b 11 .geq 10 (.k (.int .u64 4294967296)),c 12 280 [7,9,11],m 2 12] (k [2] .ret)))⟩
structure LJ (R:Env):Prop where
 HB:R.Fn 272 RD
 n279:y4 R
 n280:BU R
end Go.UM
namespace Go.UM
open Go.AM
open Z
def RE:bo:=Nf ⟨2,[4],q [x 2 31 0,x 3 31 1,m 4 (i 0)] (q [f 6 0 2,l 7 1 6,f 8 0 3,l 9 1 8,c 10 268 [7,9],c 11 269 [i 0,10],m 5 11] (y [2,3,5] [m 12 5,f 13 1 2,l 14 1 13,f 15 1 3,l 16 1 15,c 17 268 [14,16],c 18 269 [12,17],m 5 18] (y [2,3,5] [m 19 5,f 20 2 2,l 21 1 20,f 22 2 3,l 23 1 22,c 24 268 [21,23],c 25 269 [19,24],m 4 25] (k [4] .ret))))⟩
structure LL (R:Env):Prop where
 HC:R.Fn 253 RE
 n268:LF R
 n269:Hz R
def RF:bo:=Nf ⟨2,[.cell 4 true 3],q [x 2 31 0,x 3 31 1,a 4 31 [j 0,j 0,j 0]] (s (.draw [0,1,0,4,15,0,32,0,128,511,0,1024,0,4096,16383,32767,65535] [[2],[5],[3],[7],[6,8],[2],[10],[3],[12],[11,13],[2],[15],[3],[17],[16,18],[9,14,19],[4,20]] [f 5 0 2,l 6 1 5,f 7 0 3,l 8 1 7,c 9 269 [6,8],f 10 1 2,l 11 1 10,f 12 1 3,l 13 1 12,c 14 269 [11,13],f 15 2 2,l 16 1 15,f 17 2 3,l 18 1 17,c 19 269 [16,18],o 20 (.build [j 0,j 0,j 0] [(0,1,9),(1,1,14),(2,1,19)]),r 3 4 20]) (k [4] .ret))⟩
structure LM (R:Env):Prop where
 RG:R.Fn 254 RF
 n269:Hz R
def RH:bo:=Nf ⟨1,[2],q [m 2 (i 0)] (s (q [m 3 0,b 4 .lss 3 (i 0)] (h 4 (t [m 5 0,c 6 282 [i 0,5],m 2 6]) .skip)) (k [0] (t [m 7 0,m 2 7])))⟩
structure LN (R:Env):Prop where
 xd:R.Fn 271 RH
 n282:LG R
def RI:bo:=Nf ⟨1,[2],q [x 1 31 0,m 2 (i 0)] (q [f 4 0 1,l 5 1 4,c 6 271 [5],m 3 6] (s (q [f 7 1 1,l 8 1 7,c 9 271 [8],m 10 3,b 11 .gtr 9 10] (k [1,3,11] (h 11 (p [f 12 1 1,l 13 1 12,c 14 271 [13],m 3 14]) .skip))) (k [1,3] (s (q [f 15 2 1,l 16 1 15,c 17 271 [16],m 18 3,b 19 .gtr 17 18] (k [1,3,19] (h 19 (p [f 20 2 1,l 21 1 20,c 22 271 [21],m 3 22]) .skip))) (k [3] (t [m 23 3,m 2 23]))))))⟩
structure LO (R:Env):Prop where
 RJ:R.Fn 257 RI
 n271:LN R
def RK:bo:=Nf ⟨1,[.cell 2 true 3],q [x 1 26 0,a 2 31 [j 0,j 0,j 0]] (s (.draw [0,1,3,0,8,31,0,64,255,511,1023] [[1],[3],[4],[1],[6],[7],[1],[9],[10],[5,8,11],[2,12]] [f 3 0 1,l 4 1 3,c 5 272 [4],f 6 1 1,l 7 1 6,c 8 272 [7],f 9 2 1,l 10 1 9,c 11 272 [10],o 12 (.build [j 0,j 0,j 0] [(0,1,5),(1,1,8),(2,1,11)]),r 3 2 12]) (k [2] .ret))⟩
structure LP (R:Env):Prop where
 RL:R.Fn 259 RK
 n272:LJ R
end Go.UM
namespace Go.UM
open Go.AM
open Z
def RM:bo:=Nf ⟨2,[.cell 4 true 3],q [x 2 33 0,x 3 31 1,a 4 31 [j 0,j 0,j 0]] (q [m 5 (.k .ap)] (s (q [m 6 (i 0)] (k [2,3,4,5,6] (.block 0 (.loop (s (q [m 7 6,b 8 .lss 7 (i 3)] (h 8 .skip (.exit 0))) (k [2,3,4,5,6] (s (.block 1 (.draw [0,0,2,0,14,30,0,64,192,0,960,1984,0,4096,12288,0,61440,126976,262142,0,1048574,2097150,4194303,8388607] [[5],[6],[12],[2],[14,13],[15],[6],[17],[18],[2],[20,19],[21],[6],[23],[24],[2],[26,25],[27],[16,22,28],[3],[29,30],[31],[11,32],[33]] [m 11 5,m 12 6,b 13 .mul (i 3) 12,f 14 0 2,o 15 (.bt 9 1 14 13),l 16 1 15,m 17 6,b 18 .mul (i 3) 17,b 19 .add 18 (i 1),f 20 0 2,o 21 (.bt 9 1 20 19),l 22 1 21,m 23 6,b 24 .mul (i 3) 23,b 25 .add 24 (i 2),f 26 0 2,o 27 (.bt 9 1 26 25),l 28 1 27,o 29 (.build [j 0,j 0,j 0] [(0,1,16),(1,1,22),(2,1,28)]),g 30 3 3,c 31 253 [29,30],o 32 (.aI 32 1 1 [j 0] [(0,31)]),o 33 (.app 32 1 11 32),m 5 33])) (k [2,3,4,5,6] (p [m 9 6,b 10 .add 9 (i 1),m 6 10]))))))))) (k [4,5] (s (.draw [0,1,3,0,8,24,0,64,192,511,1023] [[5],[34],[35],[5],[37],[38],[5],[40],[41],[36,39,42],[4,43]] [m 34 5,u 35 1 34 (i 0),l 36 1 35,m 37 5,u 38 1 37 (i 1),l 39 1 38,m 40 5,u 41 1 40 (i 2),l 42 1 41,o 43 (.build [j 0,j 0,j 0] [(0,1,36),(1,1,39),(2,1,42)]),r 3 4 43]) (k [4] .ret)))))⟩
structure LQ (R:Env):Prop where
 RN:R.Fn 232 RM
 n253:LL R
def RO:bo:=Nf ⟨2,[.cell 4 true 3],q [x 2 33 0,x 3 31 1,a 4 31 [j 0,j 0,j 0]] (s (.draw [0,0,3,0,8,31,63] [[2],[3],[5,6],[2],[8],[7,9],[4,10]] [g 5 12 2,g 6 3 3,c 7 232 [5,6],f 8 9 2,g 9 3 8,c 10 254 [7,9],r 3 4 10]) (k [4] .ret))⟩
structure LR (R:Env):Prop where
 RP:R.Fn 234 RO
 n232:LQ R
 n254:LM R
def RQ:bo:=Nf ⟨1,[2],q [x 1 33 0,m 2 (i 0)] (s (q [m 3 (i 0)] (k [1,3] (.block 0 (.loop (s (q [m 4 3,b 5 .lss 4 (i 9)] (h 5 .skip (.exit 0))) (k [1,3] (s (.block 1 (q [m 8 3,f 9 0 1,o 10 (.bt 9 1 9 8),l 11 1 10,b 12 .gtr 11 (i 1099511627776),m 13 12,⟨some 14,some (13,false),.mv 3⟩,⟨some 15,some (13,false),.aC 0 1⟩,⟨some 16,some (13,false),.bt 9 1 15 14⟩,⟨some 17,some (13,false),.load false 1 16⟩,⟨some 18,some (13,false),.bin .lss 17 (i (-1099511627776))⟩,w 19 13 (.k (.bool true)) 18] (k [1,3,19] (h 19 (t [m 2 (i 2)]) .skip)))) (k [1,3] (p [m 6 3,b 7 .add 6 (i 1),m 3 7]))))))))) (k [1] (s (q [f 20 9 1,g 21 3 20,c 22 257 [21],b 23 .gtr 22 (i 562949953421312)] (h 23 (t [m 2 (i 2)]) .skip)) (k [] (t [m 2 (i 0)])))))⟩
structure LS (R:Env):Prop where
 RR:R.Fn 236 RQ
 n257:LO R
def RS:bo:=Nf ⟨1,[.cell 2 true 3,3],q [x 1 31 0,a 2 26 [j 0,j 0,j 0],m 3 (i 0)] (s (.draw [0,1,3,0,8,31,0,64,255,511,0,2047] [[1],[5],[6],[1],[8],[9],[1],[11],[12],[7,10,13],[],[4,14]] [f 5 0 1,l 6 1 5,c 7 261 [6],f 8 1 1,l 9 1 8,c 10 261 [9],f 11 2 1,l 12 1 11,c 13 261 [12],o 14 (.build [j 0,j 0,j 0] [(0,1,7),(1,1,10),(2,1,13)]),a 4 26 [j 0,j 0,j 0],r 3 4 14]) (k [2,4] (s (q [f 15 0 4,l 16 1 15,b 17 .gtr 16 (i 65536),m 18 17,⟨some 19,some (18,false),.aC 0 4⟩,⟨some 20,some (18,false),.load false 1 19⟩,⟨some 21,some (18,false),.bin .lss 20 (i (-65536))⟩,w 22 18 (.k (.bool true)) 21,m 23 22,⟨some 24,some (23,false),.aC 1 4⟩,⟨some 25,some (23,false),.load false 1 24⟩,⟨some 26,some (23,false),.bin .gtr 25 (i 65536)⟩,w 27 23 (.k (.bool true)) 26,m 28 27,⟨some 29,some (28,false),.aC 1 4⟩,⟨some 30,some (28,false),.load false 1 29⟩,⟨some 31,some (28,false),.bin .lss 30 (i (-65536))⟩,w 32 28 (.k (.bool true)) 31,m 33 32,⟨some 34,some (33,false),.aC 2 4⟩,⟨some 35,some (33,false),.load false 1 34⟩,⟨some 36,some (33,false),.bin .gtr 35 (i 65536)⟩,w 37 33 (.k (.bool true)) 36,m 38 37,⟨some 39,some (38,false),.aC 2 4⟩,⟨some 40,some (38,false),.load false 1 39⟩,⟨some 41,some (38,false),.bin .lss 40 (i (-65536))⟩,w 42 38 (.k (.bool true)) 41] (k [2,4,42] (h 42 (t [o 43 (.build [j 0,j 0,j 0] []),r 3 2 43,m 3 (i 8)]) .skip))) (k [2,4] (t [g 44 3 4,r 3 2 44,m 3 (i 0)])))))⟩
structure LU (R:Env):Prop where
 RT:R.Fn 244 RS
 n261:LI R
def RU:bo:=Nf ⟨2,[.cell 4 true 3,5],q [x 2 33 0,x 3 26 1,a 4 26 [j 0,j 0,j 0],m 5 (i 0)] (s (q [g 7 12 2,c 8 236 [7],m 6 8] (q [m 9 6,b 10 .neq 9 (i 0)] (h 10 (t [o 11 (.build [j 0,j 0,j 0] []),m 12 6,r 3 4 11,m 5 12]) .skip))) (k [2,3,4] (s (.draw [0,0,2,7,15,31,31,127,255] [[2],[3],[14],[13,15],[16],[17],[17],[4,18],[19]] [g 13 12 2,g 14 3 3,c 15 259 [14],c 16 234 [13,15],c 17 244 [16],e 18 17 0,e 19 17 1,r 3 4 18,m 5 19]) (k [4,5] .ret))))⟩
structure LV (R:Env):Prop where
 HD:R.Fn 242 RU
 n234:LR R
 n236:LS R
 n244:LU R
 n259:LP R
end Go.UM
namespace Go.UM
open Go.AM
open Z
def c63:bo:=Nf ⟨1,[2],q [m 2 (.k (.int .u64 0))] (q [m 3 (.k (.int .u64 0))] (s (q [m 4 (i 0)] (k [0,3,4] (.block 0 (.loop (s (q [m 5 4,m 6 0,b 7 .lss 5 6] (h 7 .skip (.exit 0))) (k [0,3,4] (s (.block 1 (p [m 10 3,b 11 .mul 10 (.k (.int .u64 256)),b 12 .add 11 (.k (.int .u64 255)),m 3 12])) (k [0,3,4] (p [m 8 4,b 9 .add 8 (i 1),m 4 9]))))))))) (k [3] (t [m 13 3,m 2 13]))))⟩
structure Uo (R:Env):Prop where
 Up:R.Fn 63 c63
def c55:bo:=Nf ⟨3,[6,7],q [m 6 (.k .ap),m 7 (i 0)] (s (q [m 12 1,b 13 .lss 12 (i 1),m 14 13,⟨some 15,some (14,false),.mv 1⟩,⟨some 16,some (14,false),.bin .gtr 15 (i 8)⟩,w 17 14 (.k (.bool true)) 16] (k [0,1,2,17] (h 17 (t [m 6 (.k .ap),m 7 (i 2)]) .skip))) (y [0,1,2] [o 18 (.aI 4 1 0 [.int .u8 0] []),m 19 0,o 20 (.app 4 1 18 19),m 8 20] (s (q [m 9 (i 0)] (k [1,2,8,9] (.block 0 (.loop (s (q [m 21 9,m 22 2,n 23 22,b 24 .lss 21 23] (h 24 .skip (.exit 0))) (k [1,2,8,9] (s (.block 1 (s (s (.draw [0,0,3,7,0,16,63] [[2],[9],[27,28],[29],[1],[31],[30,32]] [m 27 2,m 28 9,u 29 1 27 28,l 30 1 29,m 31 1,c 32 63 [31],b 33 .gtr 30 32]) (k [1,2,8,9,33] (h 33 (t [m 6 (.k .ap),m 7 (i 3)]) .skip))) (y [1,2,8,9] [m 34 2,m 35 9,u 36 1 34 35,l 37 1 36,m 10 37] (y [1,2,8,9,10] [m 11 (i 0)] (k [1,2,8,9,10,11] (.block 2 (.loop (s (q [m 38 11,m 39 1,b 40 .lss 38 39] (h 40 .skip (.exit 2))) (k [1,2,8,9,10,11] (s (.block 3 (q [m 43 8,m 44 10,b 45 .rem 44 (.k (.int .u64 256)),o 46 (.conv .u8 45),o 47 (.aI 4 1 1 [.int .u8 0] [(0,46)]),o 48 (.app 4 1 43 47),m 8 48] (k [1,2,8,9,10,11] (p [m 49 10,b 50 .quo 49 (.k (.int .u64 256)),m 10 50])))) (k [1,2,8,9,10,11] (p [m 41 11,b 42 .add 41 (i 1),m 11 42])))))))))))) (k [1,2,8,9] (p [m 25 9,b 26 .add 25 (i 1),m 9 26]))))))))) (k [8] (t [m 51 8,m 6 51,m 7 (i 0)])))))⟩
structure RV (R:Env):Prop where
 o55:R.Fn 55 c55
 FX:Uo R
def c72:bo:=Nf ⟨3,[6,7],q [m 6 (.k .ap),m 7 (i 0)] (s (q [m 12 1,b 13 .lss 12 (i 1),m 14 13,⟨some 15,some (14,false),.mv 1⟩,⟨some 16,some (14,false),.bin .gtr 15 (i 8)⟩,w 17 14 (.k (.bool true)) 16] (k [0,1,2,17] (h 17 (t [m 6 (.k .ap),m 7 (i 2)]) .skip))) (y [0,1,2] [m 18 1,c 19 63 [18],b 20 .quo 19 (.k (.int .u64 2)),o 21 (.conv .i64 20),m 8 21] (y [0,1,2,8] [m 9 (.k .ap)] (s (q [m 10 (i 0)] (k [0,1,2,8,9,10] (.block 0 (.loop (s (q [m 22 10,m 23 2,n 24 23,b 25 .lss 22 24] (h 25 .skip (.exit 0))) (k [0,1,2,8,9,10] (s (.block 1 (s (q [m 28 2,m 29 10,u 30 1 28 29,l 31 1 30,m 32 8,b 33 .gtr 31 32,m 34 33,⟨some 35,some (34,false),.mv 2⟩,⟨some 36,some (34,false),.mv 10⟩,⟨some 37,some (34,false),.jN 1 35 36⟩,⟨some 38,some (34,false),.load false 1 37⟩,⟨some 39,some (34,false),.mv 8⟩,⟨some 40,some (34,false),.un .neg 39⟩,⟨some 41,some (34,false),.bin .sub 40 (i 1)⟩,⟨some 42,some (34,false),.bin .lss 38 41⟩,w 43 34 (.k (.bool true)) 42] (k [0,1,2,8,9,10,43] (h 43 (t [m 6 (.k .ap),m 7 (i 3)]) .skip))) (y [0,1,2,8,9,10] [m 44 2,m 45 10,u 46 1 44 45,l 47 1 46,o 48 (.conv .u64 47),m 11 48] (k [0,1,2,8,9,10,11] (s (q [m 49 2,m 50 10,u 51 1 49 50,l 52 1 51,b 53 .lss 52 (i 0)] (k [0,1,2,8,9,10,11,53] (h 53 (.draw [0,1,0,0,12,28,60,124,252,511,1023] [[1],[54],[2],[10],[56,57],[58],[59],[60],[61],[55,62],[63]] [m 54 1,c 55 63 [54],m 56 2,m 57 10,u 58 1 56 57,l 59 1 58,b 60 .add 59 (i 1),o 61 (.un .neg 60),o 62 (.conv .u64 61),b 63 .sub 55 62,m 11 63]) .skip))) (k [0,1,2,8,9,10,11] (p [m 64 9,m 65 11,o 66 (.aI 6 1 1 [.int .u64 0] [(0,65)]),o 67 (.app 6 1 64 66),m 9 67]))))))) (k [0,1,2,8,9,10] (p [m 26 10,b 27 .add 26 (i 1),m 10 27]))))))))) (y [0,1,9] [m 68 0,m 69 1,m 70 9,c 71 55 [68,69,70],e 72 71 0,e 73 71 1,m 6 72,m 7 73] (k [6,7] .ret))))))⟩
structure Ws (R:Env):Prop where
 o72:R.Fn 72 c72
 Jd:RV R
 FX:Uo R
end Go.UM
namespace Go.UM
open Go.AM
open Z
def c38:bo:=Nf ⟨1,[2],q [m 2 (i 0)] (s (q [m 3 0] (.block 0 (q [b 5 .eql 3 (i 1),m 4 5] (h 4 (t [m 2 (i 2048)]) (q [b 7 .eql 3 (i 2),m 6 7] (h 6 (t [m 2 (i 1024)]) (s (q [b 9 .eql 3 (i 3),m 8 9] (h 8 .skip (p [b 10 .eql 3 (i 4),m 8 10]))) (k [8] (h 8 (t [m 2 (i 64)]) .skip))))))))) (k [] (t [m 2 (i 0)])))⟩
structure Wt (R:Env):Prop where
 RW:R.Fn 38 c38
end Go.UM
namespace Go.UM
open Go.AM
open Z
def RX:bo:=Nf ⟨2,[4],q [x 2 26 0,m 4 (.k (.bool false))] (q [f 5 0 2,l 6 1 5,m 7 1,b 8 .gtr 6 7,m 9 8,⟨some 10,some (9,false),.aC 0 2⟩,⟨some 11,some (9,false),.load false 1 10⟩,⟨some 12,some (9,false),.mv 1⟩,⟨some 13,some (9,false),.un .neg 12⟩,⟨some 14,some (9,false),.bin .lss 11 13⟩,w 15 9 (.k (.bool true)) 14,m 16 15,⟨some 17,some (16,false),.aC 1 2⟩,⟨some 18,some (16,false),.load false 1 17⟩,⟨some 19,some (16,false),.mv 1⟩,⟨some 20,some (16,false),.bin .gtr 18 19⟩,w 21 16 (.k (.bool true)) 20,m 22 21,⟨some 23,some (22,false),.aC 1 2⟩,⟨some 24,some (22,false),.load false 1 23⟩,⟨some 25,some (22,false),.mv 1⟩,⟨some 26,some (22,false),.un .neg 25⟩,⟨some 27,some (22,false),.bin .lss 24 26⟩,w 28 22 (.k (.bool true)) 27,m 29 28,⟨some 30,some (29,false),.aC 2 2⟩,⟨some 31,some (29,false),.load false 1 30⟩,⟨some 32,some (29,false),.mv 1⟩,⟨some 33,some (29,false),.bin .gtr 31 32⟩,w 34 29 (.k (.bool true)) 33,m 35 34,⟨some 36,some (35,false),.aC 2 2⟩,⟨some 37,some (35,false),.load false 1 36⟩,⟨some 38,some (35,false),.mv 1⟩,⟨some 39,some (35,false),.un .neg 38⟩,⟨some 40,some (35,false),.bin .lss 37 39⟩,w 41 35 (.k (.bool true)) 40,m 4 41] (k [4] .ret))⟩
structure HE (R:Env):Prop where
 EC:R.Fn 213 RX
def RY:bo:=Nf ⟨1,[2],q [x 1 25 0,m 2 (i 0)] (s (q [f 8 0 1,l 9 1 8,n 10 9,b 11 .gtr 10 (i 64),m 12 11,⟨some 13,some (12,false),.aC 2 1⟩,⟨some 14,some (12,false),.load false 1 13⟩,⟨some 15,some (12,false),.gh 14⟩,⟨some 16,some (12,false),.bin .gtr 15 (i 64)⟩,w 17 12 (.k (.bool true)) 16] (k [1,17] (h 17 (t [m 2 (i 3)]) .skip))) (k [1] (s (q [f 18 0 1,l 19 1 18,n 20 19,b 21 .lss 20 (i 1),m 22 21,⟨some 23,some (22,false),.aC 2 1⟩,⟨some 24,some (22,false),.load false 1 23⟩,⟨some 25,some (22,false),.gh 24⟩,⟨some 26,some (22,false),.bin .lss 25 (i 1)⟩,w 27 22 (.k (.bool true)) 26,m 28 27,⟨some 29,some (28,false),.aC 1 1⟩,⟨some 30,some (28,false),.load false 1 29⟩,⟨some 31,some (28,false),.gh 30⟩,⟨some 32,some (28,false),.aC 0 1⟩,⟨some 33,some (28,false),.load false 1 32⟩,⟨some 34,some (28,false),.gh 33⟩,⟨some 35,some (28,false),.bin .neq 31 34⟩,w 36 28 (.k (.bool true)) 35] (k [1,36] (h 36 (t [m 2 (i 5)]) .skip))) (k [1] (s (q [m 3 (i 0)] (k [1,3] (.block 0 (.loop (s (q [m 37 3,f 38 0 1,l 39 1 38,n 40 39,b 41 .lss 37 40] (k [1,3,41] (h 41 .skip (.exit 0)))) (k [1,3] (s (.block 1 (q [f 44 0 1,l 45 1 44,m 46 3,u 47 3 45 46,g 48 3 47,c 49 213 [48,i 4096]] (k [1,3,49] (h 49 (t [m 2 (i 8)]) .skip)))) (k [1,3] (p [m 42 3,b 43 .add 42 (i 1),m 3 43]))))))))) (k [1] (s (q [m 4 (i 0)] (k [1,4] (.block 2 (.loop (s (q [m 50 4,f 51 1 1,l 52 1 51,n 53 52,b 54 .lss 50 53] (k [1,4,54] (h 54 .skip (.exit 2)))) (k [1,4] (s (.block 3 (q [m 5 (i 0)] (k [1,4,5] (.block 4 (.loop (s (q [m 57 5,b 58 .lss 57 (i 2)] (h 58 .skip (.exit 4))) (k [1,4,5] (s (.block 5 (q [f 61 1 1,l 62 1 61,m 63 4,m 64 5,u 65 2 62 63,o 66 (.bt 2 1 65 64),l 67 1 66,b 68 .lss 67 (i 0),m 69 68,⟨some 70,some (69,false),.aC 1 1⟩,⟨some 71,some (69,false),.load false 1 70⟩,⟨some 72,some (69,false),.mv 4⟩,⟨some 73,some (69,false),.mv 5⟩,⟨some 74,some (69,false),.jN 2 71 72⟩,⟨some 75,some (69,false),.bt 2 1 74 73⟩,⟨some 76,some (69,false),.load false 1 75⟩,⟨some 77,some (69,false),.bin .gtr 76 (i 65535)⟩,w 78 69 (.k (.bool true)) 77] (k [1,4,5,78] (h 78 (t [m 2 (i 5)]) .skip)))) (k [1,4,5] (p [m 59 5,b 60 .add 59 (i 1),m 5 60])))))))))) (k [1,4] (p [m 55 4,b 56 .add 55 (i 1),m 4 56]))))))))) (k [1] (s (q [m 6 (i 0)] (k [1,6] (.block 6 (.loop (s (q [m 79 6,f 80 2 1,l 81 1 80,n 82 81,b 83 .lss 79 82] (k [1,6,83] (h 83 .skip (.exit 6)))) (k [1,6] (s (.block 7 (q [m 7 (i 0)] (k [1,6,7] (.block 8 (.loop (s (q [m 86 7,b 87 .lss 86 (i 3)] (h 87 .skip (.exit 8))) (k [1,6,7] (s (.block 9 (s (.draw [0,1,0,0,7,31,63,127,255,511,1023,511,511,4095,16383,32767,511,66047,197119,524287,1048575,2097151,4194303,8388607,4194303,4194303,33554431,134217727,268435455,4194303,541065215,4194303,4194303,4299161599,12889096191,3762290687,68186800127,136906276863,274877906943,549755813887] [[1],[90],[6],[7],[91,92],[94,93],[95],[96],[97],[1],[99],[6],[7],[100,101],[103,102],[104],[1],[106],[107],[105,108],[98,109],[110],[1],[112],[6],[7],[113,114],[116,115],[117],[1],[119],[6],[7],[122],[123],[120,121],[125,124],[126],[118,127],[111,128]] [f 90 2 1,l 91 1 90,m 92 6,m 93 7,u 94 3 91 92,o 95 (.bt 3 1 94 93),l 96 1 95,b 97 .lss 96 (i 0),m 98 97,⟨some 99,some (98,false),.aC 2 1⟩,⟨some 100,some (98,false),.load false 1 99⟩,⟨some 101,some (98,false),.mv 6⟩,⟨some 102,some (98,false),.mv 7⟩,⟨some 103,some (98,false),.jN 3 100 101⟩,⟨some 104,some (98,false),.bt 3 1 103 102⟩,⟨some 105,some (98,false),.load false 1 104⟩,⟨some 106,some (98,false),.aC 0 1⟩,⟨some 107,some (98,false),.load false 1 106⟩,⟨some 108,some (98,false),.gh 107⟩,⟨some 109,some (98,false),.bin .geq 105 108⟩,w 110 98 (.k (.bool true)) 109,m 111 110,⟨some 112,some (111,false),.aC 2 1⟩,⟨some 113,some (111,false),.load false 1 112⟩,⟨some 114,some (111,false),.mv 6⟩,⟨some 115,some (111,false),.mv 7⟩,⟨some 116,some (111,false),.jN 3 113 114⟩,⟨some 117,some (111,false),.bt 3 1 116 115⟩,⟨some 118,some (111,false),.load false 1 117⟩,⟨some 119,some (111,false),.aC 2 1⟩,⟨some 120,some (111,false),.load false 1 119⟩,⟨some 121,some (111,false),.mv 6⟩,⟨some 122,some (111,false),.mv 7⟩,⟨some 123,some (111,false),.bin .add 122 (i 1)⟩,⟨some 124,some (111,false),.bin .rem 123 (i 3)⟩,⟨some 125,some (111,false),.jN 3 120 121⟩,⟨some 126,some (111,false),.bt 3 1 125 124⟩,⟨some 127,some (111,false),.load false 1 126⟩,⟨some 128,some (111,false),.bin .eql 118 127⟩,w 129 111 (.k (.bool true)) 128]) (k [1,6,7,129] (h 129 (t [m 2 (i 5)]) .skip)))) (k [1,6,7] (p [m 88 7,b 89 .add 88 (i 1),m 7 89])))))))))) (k [1,6] (p [m 84 6,b 85 .add 84 (i 1),m 6 85]))))))))) (k [] (t [m 2 (i 0)])))))))))))⟩
structure HF (R:Env):Prop where
 LW:R.Fn 198 RY
 n213:HE R
def RZ:bo:=Nf ⟨2,[4],q [x 3 26 1,m 4 (.k .ap)] (q [m 8 0,f 9 0 3,l 10 1 9,f 11 1 3,l 12 1 11,f 13 2 3,l 14 1 13,o 15 (.aI 10 1 3 [j 0] [(0,10),(1,12),(2,14)]),c 16 72 [8,i 2,15],m 7 16,e 17 7 0,e 18 7 1,m 5 17,m 6 18] (k [5] (t [m 19 5,m 4 19])))⟩
structure HG (R:Env):Prop where
 Wu:R.Fn 212 RZ
 Wv:Ws R
def R2:bo:=Nf ⟨1,[2,3],q [x 1 25 0,m 2 (.k .ap),m 3 (i 0)] (s (q [g 11 3 1,c 12 198 [11],m 4 12] (q [m 13 4,b 14 .neq 13 (i 0)] (h 14 (t [m 15 4,m 2 (.k .ap),m 3 15]) .skip))) (y [1] [f 16 0 1,l 17 1 16,n 18 17,o 19 (.conv .u8 18),f 20 2 1,l 21 1 20,n 22 21,o 23 (.conv .u8 22),o 24 (.aI 4 1 2 [.int .u8 0] [(0,19),(1,23)]),m 5 24] (k [1,5] (s (q [m 6 (i 0)] (k [1,5,6] (.block 0 (.loop (s (q [m 25 6,f 26 0 1,l 27 1 26,n 28 27,b 29 .lss 25 28] (k [1,5,6,29] (h 29 .skip (.exit 0)))) (k [1,5,6] (s (.block 1 (p [m 32 5,f 33 0 1,l 34 1 33,m 35 6,u 36 3 34 35,g 37 3 36,c 38 212 [32,37],m 5 38])) (k [1,5,6] (p [m 30 6,b 31 .add 30 (i 1),m 6 31]))))))))) (k [1,5] (s (q [m 7 (i 0)] (k [1,5,7] (.block 2 (.loop (s (q [m 39 7,f 40 1 1,l 41 1 40,n 42 41,b 43 .lss 39 42] (k [1,5,7,43] (h 43 .skip (.exit 2)))) (k [1,5,7] (s (.block 3 (q [m 8 (i 0)] (k [1,5,7,8] (.block 4 (.loop (s (q [m 46 8,b 47 .lss 46 (i 2)] (h 47 .skip (.exit 4))) (k [1,5,7,8] (s (.block 5 (.draw [0,0,2,0,0,14,62,126,254,510,0,1024,0,0,7168,31744,64512,130048,261120,524286,1048575,2097151] [[5],[1],[51],[7],[8],[52,53],[55,54],[56],[57],[58],[1],[60],[7],[8],[61,62],[64,63],[65],[66],[67],[59,68],[50,69],[70]] [m 50 5,f 51 1 1,l 52 1 51,m 53 7,m 54 8,u 55 2 52 53,o 56 (.bt 2 1 55 54),l 57 1 56,b 58 .rem 57 (i 256),o 59 (.conv .u8 58),f 60 1 1,l 61 1 60,m 62 7,m 63 8,u 64 2 61 62,o 65 (.bt 2 1 64 63),l 66 1 65,b 67 .quo 66 (i 256),o 68 (.conv .u8 67),o 69 (.aI 4 1 2 [.int .u8 0] [(0,59),(1,68)]),o 70 (.app 4 1 50 69),m 5 70])) (k [1,5,7,8] (p [m 48 8,b 49 .add 48 (i 1),m 8 49])))))))))) (k [1,5,7] (p [m 44 7,b 45 .add 44 (i 1),m 7 45]))))))))) (k [1,5] (s (q [m 9 (i 0)] (k [1,5,9] (.block 6 (.loop (s (q [m 71 9,f 72 2 1,l 73 1 72,n 74 73,b 75 .lss 71 74] (k [1,5,9,75] (h 75 .skip (.exit 6)))) (k [1,5,9] (s (.block 7 (q [m 10 (i 0)] (k [1,5,9,10] (.block 8 (.loop (s (q [m 78 10,b 79 .lss 78 (i 3)] (h 79 .skip (.exit 8))) (k [1,5,9,10] (s (.block 9 (p [m 82 5,f 83 2 1,l 84 1 83,m 85 9,m 86 10,u 87 3 84 85,o 88 (.bt 3 1 87 86),l 89 1 88,o 90 (.conv .u8 89),o 91 (.aI 4 1 1 [.int .u8 0] [(0,90)]),o 92 (.app 4 1 82 91),m 5 92])) (k [1,5,9,10] (p [m 80 10,b 81 .add 80 (i 1),m 10 81])))))))))) (k [1,5,9] (p [m 76 9,b 77 .add 76 (i 1),m 9 77]))))))))) (k [5] (t [m 93 5,m 2 93,m 3 (i 0)]))))))))))⟩
structure LX (R:Env):Prop where
 R3:R.Fn 197 R2
 n198:HF R
 n212:HG R
def R4:bo:=Nf ⟨2,[4],q [x 2 25 0,x 3 25 1,m 4 (.k (.bool false))] (s (q [f 8 0 2,l 9 1 8,n 10 9,f 11 0 3,l 12 1 11,n 13 12,b 14 .neq 10 13,m 15 14,⟨some 16,some (15,false),.aC 1 2⟩,⟨some 17,some (15,false),.load false 1 16⟩,⟨some 18,some (15,false),.gh 17⟩,⟨some 19,some (15,false),.aC 1 3⟩,⟨some 20,some (15,false),.load false 1 19⟩,⟨some 21,some (15,false),.gh 20⟩,⟨some 22,some (15,false),.bin .neq 18 21⟩,w 23 15 (.k (.bool true)) 22,m 24 23,⟨some 25,some (24,false),.aC 2 2⟩,⟨some 26,some (24,false),.load false 1 25⟩,⟨some 27,some (24,false),.gh 26⟩,⟨some 28,some (24,false),.aC 2 3⟩,⟨some 29,some (24,false),.load false 1 28⟩,⟨some 30,some (24,false),.gh 29⟩,⟨some 31,some (24,false),.bin .neq 27 30⟩,w 32 24 (.k (.bool true)) 31] (k [2,3,32] (h 32 (t [m 4 (.k (.bool false))]) .skip))) (k [2,3] (s (q [m 5 (i 0)] (k [2,3,5] (.block 0 (.loop (s (q [m 33 5,f 34 0 2,l 35 1 34,n 36 35,b 37 .lss 33 36] (k [2,3,5,37] (h 37 .skip (.exit 0)))) (k [2,3,5] (s (.block 1 (s (.draw [0,1,0,7,15,0,32,0,224,480,1023] [[2],[40],[5],[41,42],[43],[3],[45],[5],[46,47],[48],[44,49]] [f 40 0 2,l 41 1 40,m 42 5,u 43 3 41 42,g 44 3 43,f 45 0 3,l 46 1 45,m 47 5,u 48 3 46 47,g 49 3 48,o 50 (.ol true [.i,.i,.i] 44 49)]) (k [2,3,5,50] (h 50 (t [m 4 (.k (.bool false))]) .skip)))) (k [2,3,5] (p [m 38 5,b 39 .add 38 (i 1),m 5 39]))))))))) (k [2,3] (s (q [m 6 (i 0)] (k [2,3,6] (.block 2 (.loop (s (q [m 51 6,f 52 1 2,l 53 1 52,n 54 53,b 55 .lss 51 54] (k [2,3,6,55] (h 55 .skip (.exit 2)))) (k [2,3,6] (s (.block 3 (s (.draw [0,1,0,7,15,0,32,0,224,480,1023] [[2],[58],[6],[59,60],[61],[3],[63],[6],[64,65],[66],[62,67]] [f 58 1 2,l 59 1 58,m 60 6,u 61 2 59 60,g 62 2 61,f 63 1 3,l 64 1 63,m 65 6,u 66 2 64 65,g 67 2 66,o 68 (.ol true [.i,.i] 62 67)]) (k [2,3,6,68] (h 68 (t [m 4 (.k (.bool false))]) .skip)))) (k [2,3,6] (p [m 56 6,b 57 .add 56 (i 1),m 6 57]))))))))) (k [2,3] (s (q [m 7 (i 0)] (k [2,3,7] (.block 4 (.loop (s (q [m 69 7,f 70 2 2,l 71 1 70,n 72 71,b 73 .lss 69 72] (k [2,3,7,73] (h 73 .skip (.exit 4)))) (k [2,3,7] (s (.block 5 (s (.draw [0,1,0,7,15,0,32,0,224,480,1023] [[2],[76],[7],[77,78],[79],[3],[81],[7],[82,83],[84],[80,85]] [f 76 2 2,l 77 1 76,m 78 7,u 79 3 77 78,g 80 3 79,f 81 2 3,l 82 1 81,m 83 7,u 84 3 82 83,g 85 3 84,o 86 (.ol true [.i,.i,.i] 80 85)]) (k [2,3,7,86] (h 86 (t [m 4 (.k (.bool false))]) .skip)))) (k [2,3,7] (p [m 74 7,b 75 .add 74 (i 1),m 7 75]))))))))) (k [] (t [m 4 (.k (.bool true))])))))))))⟩
structure LY (R:Env):Prop where
 R5:R.Fn 204 R4
end Go.UM
namespace Go.UM
open Go.AM
open Z
def c85:bo:=Nf ⟨1,[2],q [x 1 12 0,m 2 (i 0)] (s (q [f 5 0 1,l 6 1 5,b 7 .neq 6 (i 1),m 8 7,⟨some 9,some (8,true),.aC 0 1⟩,⟨some 10,some (8,true),.load false 1 9⟩,⟨some 11,some (8,true),.bin .neq 10 (i 2)⟩,w 12 8 11 (.k (.bool false)),m 13 12,⟨some 14,some (13,true),.aC 0 1⟩,⟨some 15,some (13,true),.load false 1 14⟩,⟨some 16,some (13,true),.bin .neq 15 (i 4)⟩,w 17 13 16 (.k (.bool false)),m 18 17,⟨some 19,some (18,true),.aC 0 1⟩,⟨some 20,some (18,true),.load false 1 19⟩,⟨some 21,some (18,true),.bin .neq 20 (i 8)⟩,w 22 18 21 (.k (.bool false)),m 23 22,⟨some 24,some (23,true),.aC 0 1⟩,⟨some 25,some (23,true),.load false 1 24⟩,⟨some 26,some (23,true),.bin .neq 25 (i 16)⟩,w 27 23 26 (.k (.bool false)),m 28 27,⟨some 29,some (28,false),.aC 1 1⟩,⟨some 30,some (28,false),.load false 1 29⟩,⟨some 31,some (28,false),.gh 30⟩,⟨some 32,some (28,false),.aC 0 1⟩,⟨some 33,some (28,false),.load false 1 32⟩,⟨some 34,some (28,false),.aC 0 1⟩,⟨some 35,some (28,false),.load false 1 34⟩,⟨some 36,some (28,false),.bin .mul 33 35⟩,⟨some 37,some (28,false),.bin .neq 31 36⟩,w 38 28 (.k (.bool true)) 37] (k [1,38] (h 38 (t [m 2 (i 5)]) .skip))) (k [1] (s (q [m 3 (i 0)] (k [1,3] (.block 0 (.loop (s (q [m 39 3,f 40 1 1,l 41 1 40,n 42 41,b 43 .lss 39 42] (k [1,3,43] (h 43 .skip (.exit 0)))) (k [1,3] (s (.block 1 (q [m 4 (i 0)] (k [1,3,4] (.block 2 (.loop (s (q [m 46 4,b 47 .lss 46 (i 3)] (h 47 .skip (.exit 2))) (k [1,3,4] (s (.block 3 (q [f 50 1 1,l 51 1 50,m 52 3,m 53 4,u 54 3 51 52,o 55 (.bt 3 1 54 53),l 56 1 55,b 57 .lss 56 (i 0),m 58 57,⟨some 59,some (58,false),.aC 1 1⟩,⟨some 60,some (58,false),.load false 1 59⟩,⟨some 61,some (58,false),.mv 3⟩,⟨some 62,some (58,false),.mv 4⟩,⟨some 63,some (58,false),.jN 3 60 61⟩,⟨some 64,some (58,false),.bt 3 1 63 62⟩,⟨some 65,some (58,false),.load false 1 64⟩,⟨some 66,some (58,false),.bin .gtr 65 (i 255)⟩,w 67 58 (.k (.bool true)) 66] (k [1,3,4,67] (h 67 (t [m 2 (i 5)]) .skip)))) (k [1,3,4] (p [m 48 4,b 49 .add 48 (i 1),m 4 49])))))))))) (k [1,3] (p [m 44 3,b 45 .add 44 (i 1),m 3 45]))))))))) (k [] (t [m 2 (i 0)])))))⟩
structure Uq (R:Env):Prop where
 Ww:R.Fn 85 c85
def c83:bo:=Nf ⟨1,[2,3],q [x 1 12 0,m 2 (.k .ap),m 3 (i 0)] (s (q [g 8 2 1,c 9 85 [8],m 4 9] (q [m 10 4,b 11 .neq 10 (i 0)] (h 11 (t [m 12 4,m 2 (.k .ap),m 3 12]) .skip))) (y [1] [f 13 0 1,l 14 1 13,o 15 (.conv .u8 14),o 16 (.aI 4 1 1 [.int .u8 0] [(0,15)]),m 5 16] (k [1,5] (s (q [m 6 (i 0)] (k [1,5,6] (.block 0 (.loop (s (q [m 17 6,f 18 1 1,l 19 1 18,n 20 19,b 21 .lss 17 20] (k [1,5,6,21] (h 21 .skip (.exit 0)))) (k [1,5,6] (s (.block 1 (q [m 7 (i 0)] (k [1,5,6,7] (.block 2 (.loop (s (q [m 24 7,b 25 .lss 24 (i 3)] (h 25 .skip (.exit 2))) (k [1,5,6,7] (s (.block 3 (p [m 28 5,f 29 1 1,l 30 1 29,m 31 6,m 32 7,u 33 3 30 31,o 34 (.bt 3 1 33 32),l 35 1 34,o 36 (.conv .u8 35),o 37 (.aI 4 1 1 [.int .u8 0] [(0,36)]),o 38 (.app 4 1 28 37),m 5 38])) (k [1,5,6,7] (p [m 26 7,b 27 .add 26 (i 1),m 7 27])))))))))) (k [1,5,6] (p [m 22 6,b 23 .add 22 (i 1),m 6 23]))))))))) (k [5] (t [m 39 5,m 2 39,m 3 (i 0)]))))))⟩
structure Wx (R:Env):Prop where
 o83:R.Fn 83 c83
 Je:Uq R
def c89:bo:=Nf ⟨2,[4],q [x 2 12 0,x 3 12 1,m 4 (.k (.bool false))] (s (q [f 6 0 2,l 7 1 6,f 8 0 3,l 9 1 8,b 10 .neq 7 9,m 11 10,⟨some 12,some (11,false),.aC 1 2⟩,⟨some 13,some (11,false),.load false 1 12⟩,⟨some 14,some (11,false),.gh 13⟩,⟨some 15,some (11,false),.aC 1 3⟩,⟨some 16,some (11,false),.load false 1 15⟩,⟨some 17,some (11,false),.gh 16⟩,⟨some 18,some (11,false),.bin .neq 14 17⟩,w 19 11 (.k (.bool true)) 18] (k [2,3,19] (h 19 (t [m 4 (.k (.bool false))]) .skip))) (k [2,3] (s (q [m 5 (i 0)] (k [2,3,5] (.block 0 (.loop (s (q [m 20 5,f 21 1 2,l 22 1 21,n 23 22,b 24 .lss 20 23] (k [2,3,5,24] (h 24 .skip (.exit 0)))) (k [2,3,5] (s (.block 1 (s (.draw [0,1,0,7,15,0,32,0,224,480,1023] [[2],[27],[5],[28,29],[30],[3],[32],[5],[33,34],[35],[31,36]] [f 27 1 2,l 28 1 27,m 29 5,u 30 3 28 29,g 31 3 30,f 32 1 3,l 33 1 32,m 34 5,u 35 3 33 34,g 36 3 35,o 37 (.ol true [.i,.i,.i] 31 36)]) (k [2,3,5,37] (h 37 (t [m 4 (.k (.bool false))]) .skip)))) (k [2,3,5] (p [m 25 5,b 26 .add 25 (i 1),m 5 26]))))))))) (k [] (t [m 4 (.k (.bool true))])))))⟩
structure Wy (R:Env):Prop where
 o89:R.Fn 89 c89
end Go.UM
namespace Go.UM
open Go.AM
open Z
def R6:bo:=Nf ⟨1,[2],q [x 1 40 0,m 2 (i 0)] (s (q [f 4 0 1,l 5 1 4,b 6 .lss 5 (i 0),m 7 6,⟨some 8,some (7,false),.aC 0 1⟩,⟨some 9,some (7,false),.load false 1 8⟩,⟨some 10,some (7,false),.bin .gtr 9 (i 4)⟩,w 11 7 (.k (.bool true)) 10,m 12 11,⟨some 13,some (12,false),.aC 4 1⟩,⟨some 14,some (12,false),.load false 1 13⟩,⟨some 15,some (12,false),.bin .lss 14 (i 0)⟩,w 16 12 (.k (.bool true)) 15,m 17 16,⟨some 18,some (17,false),.aC 4 1⟩,⟨some 19,some (17,false),.load false 1 18⟩,⟨some 20,some (17,false),.bin .gtr 19 (i 65535)⟩,w 21 17 (.k (.bool true)) 20] (k [1,21] (h 21 (t [m 2 (i 5)]) .skip))) (k [1] (s (q [m 3 (i 0)] (k [1,3] (.block 0 (.loop (s (q [m 22 3,b 23 .lss 22 (i 3)] (h 23 .skip (.exit 0))) (k [1,3] (s (.block 1 (q [m 26 3,f 27 1 1,o 28 (.bt 3 1 27 26),l 29 1 28,b 30 .lss 29 (i 0),m 31 30,⟨some 32,some (31,false),.mv 3⟩,⟨some 33,some (31,false),.aC 1 1⟩,⟨some 34,some (31,false),.bt 3 1 33 32⟩,⟨some 35,some (31,false),.load false 1 34⟩,⟨some 36,some (31,false),.bin .gtr 35 (i 65535)⟩,w 37 31 (.k (.bool true)) 36] (k [1,3,37] (h 37 (t [m 2 (i 5)]) .skip)))) (k [1,3] (p [m 24 3,b 25 .add 24 (i 1),m 3 25]))))))))) (k [] (t [m 2 (i 0)])))))⟩
structure LZ (R:Env):Prop where
 R7:R.Fn 291 R6
def R8:bo:=Nf ⟨1,[2],q [x 1 41 0,m 2 (i 0)] (s (q [f 5 0 1,l 6 1 5,b 7 .lss 6 (i 0),m 8 7,⟨some 9,some (8,false),.aC 0 1⟩,⟨some 10,some (8,false),.load false 1 9⟩,⟨some 11,some (8,false),.bin .gtr 10 (i 2)⟩,w 12 8 (.k (.bool true)) 11] (k [1,12] (h 12 (t [m 2 (i 5)]) .skip))) (k [1] (s (q [m 3 (i 0)] (k [1,3] (.block 0 (.loop (s (q [m 13 3,b 14 .lss 13 (i 3)] (h 14 .skip (.exit 0))) (k [1,3] (s (.block 1 (q [m 17 3,f 18 1 1,o 19 (.bt 3 1 18 17),l 20 1 19,b 21 .lss 20 (i 0),m 22 21,⟨some 23,some (22,false),.mv 3⟩,⟨some 24,some (22,false),.aC 1 1⟩,⟨some 25,some (22,false),.bt 3 1 24 23⟩,⟨some 26,some (22,false),.load false 1 25⟩,⟨some 27,some (22,false),.bin .gtr 26 (i 1048576)⟩,w 28 22 (.k (.bool true)) 27] (k [1,3,28] (h 28 (t [m 2 (i 5)]) .skip)))) (k [1,3] (p [m 15 3,b 16 .add 15 (i 1),m 3 16]))))))))) (k [1] (s (q [f 29 4 1,g 30 3 29,c 31 213 [30,i 4096],m 32 31,⟨some 33,some (32,false),.aC 7 1⟩,⟨some 34,some (32,false),.load true 3 33⟩,⟨some 35,some (32,false),.call 213 [34,i 4096]⟩,w 36 32 (.k (.bool true)) 35,m 37 36,⟨some 38,some (37,false),.aC 10 1⟩,⟨some 39,some (37,false),.load true 3 38⟩,⟨some 40,some (37,false),.call 213 [39,i 4096]⟩,w 41 37 (.k (.bool true)) 40] (k [1,41] (h 41 (t [m 2 (i 8)]) .skip))) (y [1] [o 42 (.build [j 0,j 0,j 0] []),a 4 26 [j 0,j 0,j 0],r 3 4 42] (s (q [f 43 0 1,l 44 1 43,b 45 .eql 44 (i 2),m 46 45,⟨some 47,some (46,true),.aC 4 1⟩,⟨some 48,some (46,true),.load true 3 47⟩,⟨some 49,some (46,true),.load true 3 4⟩,⟨some 50,some (46,true),.ol true [.i,.i,.i] 48 49⟩,w 51 46 50 (.k (.bool false)),m 52 51,⟨some 53,some (52,false),.aC 0 1⟩,⟨some 54,some (52,false),.load false 1 53⟩,⟨some 55,some (52,false),.bin .neq 54 (i 1)⟩,⟨some 56,some (52,false),.mv 55⟩,⟨some 57,some (56,true),.aC 7 1⟩,⟨some 58,some (56,true),.load true 3 57⟩,⟨some 59,some (56,true),.load true 3 4⟩,⟨some 60,some (56,true),.ol true [.i,.i,.i] 58 59⟩,⟨some 61,some (56,true),.mv 60⟩,⟨some 62,some (61,false),.aC 10 1⟩,⟨some 63,some (61,false),.load true 3 62⟩,⟨some 64,some (61,false),.load true 3 4⟩,⟨some 65,some (61,false),.ol true [.i,.i,.i] 63 64⟩,⟨some 66,some (56,true),.pick 61 (.k (.bool true)) 65⟩,⟨some 67,some (52,false),.pick 56 66 (.k (.bool false))⟩,w 68 52 (.k (.bool true)) 67] (k [68] (h 68 (t [m 2 (i 5)]) .skip))) (k [] (t [m 2 (i 0)])))))))))⟩
structure L3 (R:Env):Prop where
 R9:R.Fn 293 R8
 n213:HE R
def R':bo:=Nf ⟨1,[2],q [x 1 12 0,m 2 (.k (.bool false))] (q [f 3 0 1,l 4 1 3,b 5 .neq 4 (i 0),m 6 5,⟨some 7,some (6,false),.aC 1 1⟩,⟨some 8,some (6,false),.load false 1 7⟩,⟨some 9,some (6,false),.gh 8⟩,⟨some 10,some (6,false),.bin .gtr 9 (i 0)⟩,w 11 6 (.k (.bool true)) 10,m 2 11] (k [2] .ret))⟩
structure L4 (R:Env):Prop where
 HH:R.Fn 312 R'
def Sa:bo:=Nf ⟨1,[2],q [x 1 25 0,m 2 (.k (.bool false))] (q [f 3 0 1,l 4 1 3,n 5 4,f 6 1 1,l 7 1 6,n 8 7,b 9 .add 5 8,f 10 2 1,l 11 1 10,n 12 11,b 13 .add 9 12,b 14 .gtr 13 (i 0),m 2 14] (k [2] .ret))⟩
structure L5 (R:Env):Prop where
 HI:R.Fn 313 Sa
def Sb:bo:=Nf ⟨1,[2],q [x 1 39 0,m 2 (.k .ap)] (s (q [f 14 0 1,l 15 1 14,b 16 .eql 15 (i 1)] (h 16 (q [f 18 1 1,g 19 3 18,c 20 197 [19],m 17 20,e 21 17 0,e 22 17 1,m 3 21,m 4 22] (k [3] (t [m 23 3,m 2 23]))) .skip)) (k [1] (s (q [f 24 0 1,l 25 1 24,b 26 .eql 25 (i 2)] (h 26 (q [f 28 4 1,g 29 2 28,c 30 83 [29],m 27 30,e 31 27 0,e 32 27 1,m 5 31,m 6 32] (k [5] (t [m 33 5,m 2 33]))) .skip)) (k [1] (s (q [f 34 0 1,l 35 1 34,b 36 .eql 35 (i 3)] (h 36 (q [f 37 6 1,g 38 5 37,a 7 40 [j 0,j 0,j 0,j 0,j 0],r 5 7 38] (q [f 39 0 7,l 40 1 39,o 41 (.conv .u8 40),o 42 (.aI 4 1 1 [.int .u8 0] [(0,41)]),m 8 42] (y [7,8] [f 43 1 7,o 44 (.bt 3 1 43 (i 0)),l 45 1 44,f 46 1 7,o 47 (.bt 3 1 46 (i 1)),l 48 1 47,f 49 1 7,o 50 (.bt 3 1 49 (i 2)),l 51 1 50,f 52 4 7,l 53 1 52,o 54 (.aI 10 1 4 [j 0] [(0,45),(1,48),(2,51),(3,53)]),m 9 54] (k [8,9] (s (q [m 10 (i 0)] (k [8,9,10] (.block 0 (.loop (s (q [m 55 10,b 56 .lss 55 (i 4)] (h 56 .skip (.exit 0))) (k [8,9,10] (s (.block 1 (.draw [0,0,0,6,14,30,62,0,0,384,896,1920,3968,8190,16383,32767] [[8],[9],[10],[60,61],[62],[63],[64],[9],[10],[66,67],[68],[69],[70],[65,71],[59,72],[73]] [m 59 8,m 60 9,m 61 10,u 62 1 60 61,l 63 1 62,b 64 .rem 63 (i 256),o 65 (.conv .u8 64),m 66 9,m 67 10,u 68 1 66 67,l 69 1 68,b 70 .quo 69 (i 256),o 71 (.conv .u8 70),o 72 (.aI 4 1 2 [.int .u8 0] [(0,65),(1,71)]),o 73 (.app 4 1 59 72),m 8 73])) (k [8,9,10] (p [m 57 10,b 58 .add 57 (i 1),m 10 58]))))))))) (k [8] (t [m 74 8,m 2 74]))))))) .skip)) (y [1] [f 75 11 1,g 76 13 75,a 11 41 Z6,r 13 11 76] (q [f 77 0 11,l 78 1 77,o 79 (.conv .u8 78),o 80 (.aI 4 1 1 [.int .u8 0] [(0,79)]),m 12 80] (k [11,12] (s (q [m 13 (i 0)] (k [11,12,13] (.block 2 (.loop (s (q [m 81 13,b 82 .lss 81 (i 3)] (h 82 .skip (.exit 2))) (k [11,12,13] (s (.block 3 (p [m 86 12,m 87 13,f 88 1 11,o 89 (.bt 3 1 88 87),l 90 1 89,o 91 (.conv .u64 90),o 92 (.aI 6 1 1 [.int .u64 0] [(0,91)]),c 93 55 [86,i 4,92],m 85 93,e 94 85 0,e 95 85 1,m 12 94])) (k [11,12,13] (p [m 83 13,b 84 .add 83 (i 1),m 13 84]))))))))) (k [11,12] (s (.draw [0,0,2,7,0,16,63,0,128,511,1023] [[12],[11],[97],[96,98],[11],[100],[99,101],[11],[103],[102,104],[105]] [m 96 12,f 97 4 11,g 98 3 97,c 99 212 [96,98],f 100 7 11,g 101 3 100,c 102 212 [99,101],f 103 10 11,g 104 3 103,c 105 212 [102,104],m 2 105]) (k [2] .ret))))))))))))⟩
structure L6 (R:Env):Prop where
 ED:R.Fn 314 Sb
 Jd:RV R
 Ur:Wx R
 n197:LX R
 n212:HG R
def Sd:bo:=Nf ⟨1,[2],q [x 1 39 0,m 2 (i 0)] (q [m 3 (i 12)] (q [m 4 (.k (.bool false))] (s (q [f 5 0 1,l 6 1 5] (.block 0 (q [b 8 .eql 6 (i 1),m 7 8] (h 7 (q [f 9 1 1,g 10 3 9,c 11 198 [10],m 3 11] (p [f 12 4 1,g 13 2 12,c 14 312 [13],m 15 14,⟨some 16,some (15,false),.aC 6 1⟩,⟨some 17,some (15,false),.load true 5 16⟩,⟨some 18,some (15,false),.build [j 0,j 0,j 0,j 0,j 0] []⟩,⟨some 19,some (15,false),.ol true [.i,.i,.i,.i,.i] 17 18⟩,w 20 15 (.k (.bool true)) 19,m 21 20,⟨some 22,some (21,false),.aC 11 1⟩,⟨some 23,some (21,false),.load true 13 22⟩,⟨some 24,some (21,false),.build Z6 []⟩,⟨some 25,some (21,false),.ol true [.i,.i,.i,.i,.i,.i,.i,.i,.i,.i,.i,.i,.i] 23 24⟩,w 26 21 (.k (.bool true)) 25,m 4 26])) (q [b 28 .eql 6 (i 2),m 27 28] (h 27 (q [f 29 4 1,g 30 2 29,c 31 85 [30],m 3 31] (p [f 32 1 1,g 33 3 32,c 34 313 [33],m 35 34,⟨some 36,some (35,false),.aC 6 1⟩,⟨some 37,some (35,false),.load true 5 36⟩,⟨some 38,some (35,false),.build [j 0,j 0,j 0,j 0,j 0] []⟩,⟨some 39,some (35,false),.ol true [.i,.i,.i,.i,.i] 37 38⟩,w 40 35 (.k (.bool true)) 39,m 41 40,⟨some 42,some (41,false),.aC 11 1⟩,⟨some 43,some (41,false),.load true 13 42⟩,⟨some 44,some (41,false),.build Z6 []⟩,⟨some 45,some (41,false),.ol true [.i,.i,.i,.i,.i,.i,.i,.i,.i,.i,.i,.i,.i] 43 44⟩,w 46 41 (.k (.bool true)) 45,m 4 46])) (q [b 48 .eql 6 (i 3),m 47 48] (h 47 (q [f 49 6 1,g 50 5 49,c 51 291 [50],m 3 51] (p [f 52 1 1,g 53 3 52,c 54 313 [53],m 55 54,⟨some 56,some (55,false),.aC 4 1⟩,⟨some 57,some (55,false),.load true 2 56⟩,⟨some 58,some (55,false),.call 312 [57]⟩,w 59 55 (.k (.bool true)) 58,m 60 59,⟨some 61,some (60,false),.aC 11 1⟩,⟨some 62,some (60,false),.load true 13 61⟩,⟨some 63,some (60,false),.build Z6 []⟩,⟨some 64,some (60,false),.ol true [.i,.i,.i,.i,.i,.i,.i,.i,.i,.i,.i,.i,.i] 62 63⟩,w 65 60 (.k (.bool true)) 64,m 4 65])) (q [b 67 .eql 6 (i 4),m 66 67] (h 66 (q [f 68 11 1,g 69 13 68,c 70 293 [69],m 3 70] (p [f 71 1 1,g 72 3 71,c 73 313 [72],m 74 73,⟨some 75,some (74,false),.aC 4 1⟩,⟨some 76,some (74,false),.load true 2 75⟩,⟨some 77,some (74,false),.call 312 [76]⟩,w 78 74 (.k (.bool true)) 77,m 79 78,⟨some 80,some (79,false),.aC 6 1⟩,⟨some 81,some (79,false),.load true 5 80⟩,⟨some 82,some (79,false),.build [j 0,j 0,j 0,j 0,j 0] []⟩,⟨some 83,some (79,false),.ol true [.i,.i,.i,.i,.i] 81 82⟩,w 84 79 (.k (.bool true)) 83,m 4 84])) .skip)))))))))) (k [1,3,4] (s (q [m 85 3,b 86 .neq 85 (i 0)] (h 86 (t [m 87 3,m 2 87]) .skip)) (k [1,4] (s (q [m 88 4] (h 88 (t [m 2 (i 5)]) .skip)) (k [1] (s (s (.draw [0,1,3,0,8,27,63] [[1],[89],[90],[1],[92],[93],[91,94]] [g 89 24 1,c 90 314 [89],n 91 90,f 92 0 1,l 93 1 92,c 94 38 [93],b 95 .gtr 91 94]) (k [95] (h 95 (t [m 2 (i 9)]) .skip))) (k [] (t [m 2 (i 0)])))))))))))⟩
structure L7 (R:Env):Prop where
 Se:R.Fn 295 Sd
 n38:Wt R
 Je:Uq R
 n198:HF R
 n291:LZ R
 n293:L3 R
 n312:L4 R
 n313:L5 R
 n314:L6 R
def Sf:bo:=Nf ⟨2,[4],q [x 2 39 0,x 3 39 1,m 4 (.k (.bool false))] (q [f 5 0 2,l 6 1 5,f 7 0 3,l 8 1 7,b 9 .eql 6 8,m 10 9,⟨some 11,some (10,true),.aC 1 2⟩,⟨some 12,some (10,true),.load true 3 11⟩,⟨some 13,some (10,true),.aC 1 3⟩,⟨some 14,some (10,true),.load true 3 13⟩,⟨some 15,some (10,true),.call 204 [12,14]⟩,w 16 10 15 (.k (.bool false)),m 17 16,⟨some 18,some (17,true),.aC 4 2⟩,⟨some 19,some (17,true),.load true 2 18⟩,⟨some 20,some (17,true),.aC 4 3⟩,⟨some 21,some (17,true),.load true 2 20⟩,⟨some 22,some (17,true),.call 89 [19,21]⟩,w 23 17 22 (.k (.bool false)),m 24 23,⟨some 25,some (24,true),.aC 6 2⟩,⟨some 26,some (24,true),.load true 5 25⟩,⟨some 27,some (24,true),.aC 6 3⟩,⟨some 28,some (24,true),.load true 5 27⟩,⟨some 29,some (24,true),.ol false [.i,.i,.i,.i,.i] 26 28⟩,w 30 24 29 (.k (.bool false)),m 31 30,⟨some 32,some (31,true),.aC 11 2⟩,⟨some 33,some (31,true),.load true 13 32⟩,⟨some 34,some (31,true),.aC 11 3⟩,⟨some 35,some (31,true),.load true 13 34⟩,⟨some 36,some (31,true),.ol false [.i,.i,.i,.i,.i,.i,.i,.i,.i,.i,.i,.i,.i] 33 35⟩,w 37 31 36 (.k (.bool false)),m 4 37] (k [4] .ret))⟩
structure L8 (R:Env):Prop where
 Sg:R.Fn 299 Sf
 Us:Wy R
 n204:LY R
end Go.UM
namespace Go.UM
open Go.AM
open Z
def Sh:bo:=Nf ⟨2,[4],q [m 4 (.k (.bool false))] (s (q [m 6 0,n 7 6,m 8 1,n 9 8,b 10 .neq 7 9] (k [0,1,10] (h 10 (t [m 4 (.k (.bool false))]) .skip))) (k [0,1] (s (q [m 5 (i 0)] (k [0,1,5] (.block 0 (.loop (s (q [m 11 5,m 12 0,n 13 12,b 14 .lss 11 13] (h 14 .skip (.exit 0))) (k [0,1,5] (s (.block 1 (s (.draw [0,0,3,7,0,0,48,112,255] [[0],[5],[17,18],[19],[1],[5],[21,22],[23],[20,24]] [m 17 0,m 18 5,u 19 16 17 18,g 20 16 19,m 21 1,m 22 5,u 23 16 21 22,g 24 16 23,o 25 (.ol true [.i,.i,.i,.i,.i,.i,.i,.i,.i,.i,.i,.i,.i,.i,.i,.i] 20 24)]) (k [0,1,5,25] (h 25 (t [m 4 (.k (.bool false))]) .skip)))) (k [0,1,5] (p [m 15 5,b 16 .add 15 (i 1),m 5 16]))))))))) (k [] (t [m 4 (.k (.bool true))])))))⟩
structure L9 (R:Env):Prop where
 HJ:R.Fn 343 Sh
def Si:bo:=Nf ⟨2,[4],q [m 4 (.k (.bool false))] (s (q [m 6 0,n 7 6,m 8 1,n 9 8,b 10 .neq 7 9] (k [0,1,10] (h 10 (t [m 4 (.k (.bool false))]) .skip))) (k [0,1] (s (q [m 5 (i 0)] (k [0,1,5] (.block 0 (.loop (s (q [m 11 5,m 12 0,n 13 12,b 14 .lss 11 13] (h 14 .skip (.exit 0))) (k [0,1,5] (s (.block 1 (s (.draw [0,0,3,7,15,0,0,96,224,480,1023,2047,4095,4095,16383,32767,65535,4095,4095,397311,921599,1970175,4194303,8388607,16777215,33554431,33554431,134217727,268435455,536870911,33554431,33554431,3254779903,7549747199,16139681791,34359738367,68719476735,137438953471] [[0],[5],[17,18],[19],[20],[1],[5],[22,23],[24],[25],[21,26],[27],[0],[5],[29,30],[31],[32],[1],[5],[34,35],[36],[37],[33,38],[28,39],[40],[0],[5],[42,43],[44],[45],[1],[5],[47,48],[49],[50],[46,51],[52],[41,53]] [m 17 0,m 18 5,u 19 40 17 18,f 20 0 19,l 21 1 20,m 22 1,m 23 5,u 24 40 22 23,f 25 0 24,l 26 1 25,b 27 .neq 21 26,m 28 27,⟨some 29,some (28,false),.mv 0⟩,⟨some 30,some (28,false),.mv 5⟩,⟨some 31,some (28,false),.jN 40 29 30⟩,⟨some 32,some (28,false),.aC 1 31⟩,⟨some 33,some (28,false),.load true 15 32⟩,⟨some 34,some (28,false),.mv 1⟩,⟨some 35,some (28,false),.mv 5⟩,⟨some 36,some (28,false),.jN 40 34 35⟩,⟨some 37,some (28,false),.aC 1 36⟩,⟨some 38,some (28,false),.load true 15 37⟩,⟨some 39,some (28,false),.ol true [.i,.i,.i,.i,.i,.i,.i,.i,.i,.i,.i,.i,.i,.i,.i] 33 38⟩,w 40 28 (.k (.bool true)) 39,m 41 40,⟨some 42,some (41,false),.mv 0⟩,⟨some 43,some (41,false),.mv 5⟩,⟨some 44,some (41,false),.jN 40 42 43⟩,⟨some 45,some (41,false),.aC 16 44⟩,⟨some 46,some (41,false),.load true 24 45⟩,⟨some 47,some (41,false),.mv 1⟩,⟨some 48,some (41,false),.mv 5⟩,⟨some 49,some (41,false),.jN 40 47 48⟩,⟨some 50,some (41,false),.aC 16 49⟩,⟨some 51,some (41,false),.load true 24 50⟩,⟨some 52,some (41,false),.call 299 [46,51]⟩,⟨some 53,some (41,false),.un .not 52⟩,w 54 41 (.k (.bool true)) 53]) (k [0,1,5,54] (h 54 (t [m 4 (.k (.bool false))]) .skip)))) (k [0,1,5] (p [m 15 5,b 16 .add 15 (i 1),m 5 16]))))))))) (k [] (t [m 4 (.k (.bool true))])))))⟩
structure Ma (R:Env):Prop where
 HK:R.Fn 422 Si
 n299:L8 R
def Sj:bo:=Nf ⟨2,[4],q [m 4 (i 0)] (s (q [m 5 (i 0)] (k [0,1,5] (.block 0 (.loop (s (q [m 6 5,m 7 0,o 8 (.bv 7),f 9 0 8,l 10 1 9,n 11 10,b 12 .lss 6 11] (k [0,1,5,12] (h 12 .skip (.exit 0)))) (k [0,1,5] (s (.block 1 (q [m 15 0,o 16 (.bv 15),f 17 0 16,l 18 1 17,m 19 5,u 20 40 18 19,f 21 0 20,l 22 1 21,m 23 1,b 24 .eql 22 23] (k [0,1,5,24] (h 24 (t [m 25 5,m 4 25]) .skip)))) (k [0,1,5] (p [m 13 5,b 14 .add 13 (i 1),m 5 14]))))))))) (k [] (t [m 4 (i (-1))])))⟩
structure EE (R:Env):Prop where
 WA:R.Fn 454 Sj
def Sk:bo:=Nf ⟨4,[8],q [x 6 2 2,x 7 39 3,m 8 (i 0)] (s (q [m 13 1,b 14 .lss 13 (i 1),m 15 14,⟨some 16,some (15,false),.mv 1⟩,⟨some 17,some (15,false),.bin .gtr 16 (i 65536)⟩,w 18 15 (.k (.bool true)) 17] (k [0,1,6,7,18] (h 18 (t [m 8 (i 2)]) .skip))) (k [0,1,6,7] (s (q [m 19 0,m 20 1,c 21 454 [19,20],b 22 .geq 21 (i 0)] (h 22 (t [m 8 (i 10)]) .skip)) (k [0,1,6,7] (s (q [g 23 24 7,c 24 295 [23],m 9 24] (q [m 25 9,b 26 .neq 25 (i 0)] (h 26 (t [m 27 9,m 8 27]) .skip))) (k [0,1,6,7] (s (q [f 28 1 6,l 29 1 28,f 30 0 7,l 31 1 30,b 32 .neq 29 31] (k [0,1,6,7,32] (h 32 (t [m 8 (i 12)]) .skip))) (y [0,1,6,7] [m 10 (.k .ap)] (q [m 11 (.k (.bool false))] (s (q [m 12 (i 0)] (k [0,1,6,7,10,11,12] (.block 0 (.loop (s (q [m 33 12,m 34 0,o 35 (.bv 34),f 36 0 35,l 37 1 36,n 38 37,b 39 .lss 33 38] (k [0,1,6,7,10,11,12,39] (h 39 .skip (.exit 0)))) (k [0,1,6,7,10,11,12] (s (.block 1 (s (q [m 42 11,o 43 (.un .not 42),m 44 43,⟨some 45,some (44,true),.mv 0⟩,⟨some 46,some (44,true),.bv 45⟩,⟨some 47,some (44,true),.aC 0 46⟩,⟨some 48,some (44,true),.load false 1 47⟩,⟨some 49,some (44,true),.mv 12⟩,⟨some 50,some (44,true),.jN 40 48 49⟩,⟨some 51,some (44,true),.aC 0 50⟩,⟨some 52,some (44,true),.load false 1 51⟩,⟨some 53,some (44,true),.mv 1⟩,⟨some 54,some (44,true),.bin .gtr 52 53⟩,w 55 44 54 (.k (.bool false))] (k [0,1,6,7,10,11,12,55] (h 55 (q [m 56 10,m 57 1,g 58 15 6,g 59 24 7,o 60 (.build Z2 [(0,1,57),(1,15,58),(16,24,59)]),o 61 (.aI 45 40 1 Z2 [(0,60)]),o 62 (.app 45 40 56 61),m 10 62] (k [0,1,6,7,10,12] (p [m 11 (.k (.bool true))]))) .skip))) (k [0,1,6,7,10,11,12] (p [m 63 10,m 64 0,o 65 (.bv 64),f 66 0 65,l 67 1 66,m 68 12,u 69 40 67 68,g 70 40 69,o 71 (.aI 45 40 1 Z2 [(0,70)]),o 72 (.app 45 40 63 71),m 10 72])))) (k [0,1,6,7,10,11,12] (p [m 40 12,b 41 .add 40 (i 1),m 12 41]))))))))) (k [0,1,6,7,10,11] (s (q [m 73 11,o 74 (.un .not 73)] (h 74 (p [m 75 10,m 76 1,g 77 15 6,g 78 24 7,o 79 (.build Z2 [(0,1,76),(1,15,77),(16,24,78)]),o 80 (.aI 45 40 1 Z2 [(0,79)]),o 81 (.app 45 40 75 80),m 10 81]) .skip)) (y [0,10] [m 82 0,m 83 10,o 84 (.bv 82),f 85 0 84,r 1 85 83] (k [] (t [m 8 (i 0)])))))))))))))))⟩
structure Mb (R:Env):Prop where
 WB:R.Fn 441 Sk
 n295:L7 R
 rK:EE R
def Sl:bo:=Nf ⟨2,[4],q [m 4 (i 0)] (q [m 9 0,m 10 1,c 11 454 [9,10],m 5 11] (s (q [m 12 5,b 13 .lss 12 (i 0)] (h 13 (t [m 4 (i 11)]) .skip)) (k [0,1,5] (s (.draw [0,0,0,4,12,28,0,124,254,0,512,1536,3584,0,8192,32256,65534,131071,262143,524287] [[0],[],[0],[16],[17],[18],[5],[19,20],[15,21],[0],[23],[24],[25],[5],[27],[26,28],[22,29],[14],[31],[32,30]] [m 14 0,o 15 (.aI 45 40 0 Z2 []),m 16 0,o 17 (.bv 16),f 18 0 17,l 19 1 18,m 20 5,o 21 (.sP 45 40 19 none (some 20) none),o 22 (.app 45 40 15 21),m 23 0,o 24 (.bv 23),f 25 0 24,l 26 1 25,m 27 5,b 28 .add 27 (i 1),o 29 (.sP 45 40 26 (some 28) none none),o 30 (.app 45 40 22 29),o 31 (.bv 14),f 32 0 31,r 1 32 30]) (y [0,1] [m 6 (.k .ap)] (s (q [m 7 (i 0)] (k [0,1,6,7] (.block 0 (.loop (s (q [m 33 7,m 34 0,o 35 (.bv 34),f 36 1 35,l 37 1 36,n 38 37,b 39 .lss 33 38] (k [0,1,6,7,39] (h 39 .skip (.exit 0)))) (k [0,1,6,7] (s (.block 1 (q [m 42 0,o 43 (.bv 42),f 44 1 43,l 45 1 44,m 46 7,u 47 16 45 46,g 48 16 47,a 8 44 Z5,r 16 8 48] (y [0,1,6,7,8] [f 49 0 8,l 50 1 49,m 51 1,b 52 .neq 50 51,m 53 52,⟨some 54,some (53,true),.aC 1 8⟩,⟨some 55,some (53,true),.load false 1 54⟩,⟨some 56,some (53,true),.mv 1⟩,⟨some 57,some (53,true),.bin .neq 55 56⟩,w 58 53 57 (.k (.bool false)),m 59 58,⟨some 60,some (59,true),.aC 2 8⟩,⟨some 61,some (59,true),.load false 1 60⟩,⟨some 62,some (59,true),.mv 1⟩,⟨some 63,some (59,true),.bin .neq 61 62⟩,w 64 59 63 (.k (.bool false))] (k [0,1,6,7,8,64] (h 64 (p [m 65 6,g 66 16 8,o 67 (.aI 44 16 1 Z5 [(0,66)]),o 68 (.app 44 16 65 67),m 6 68]) .skip))))) (k [0,1,6,7] (p [m 40 7,b 41 .add 40 (i 1),m 7 41]))))))))) (y [0,6] [m 69 0,m 70 6,o 71 (.bv 69),f 72 1 71,r 1 72 70] (k [] (t [m 4 (i 0)])))))))))⟩
structure Md (R:Env):Prop where
 WC:R.Fn 442 Sl
 rK:EE R
def Sm:bo:=Nf ⟨2,[4],q [x 2 44 0,x 3 44 1,m 4 (.k (.bool false))] (s (.draw [0,1,0,4,0,16,0,64,255,0,512,0,2048,0,8192,0,32768,130560,511,524287] [[2],[8],[2],[10],[2],[12],[2],[14],[9,11,13,15],[3],[17],[3],[19],[3],[21],[3],[23],[18,20,22,24],[16],[25]] [f 8 0 2,l 9 1 8,f 10 1 2,l 11 1 10,f 12 2 2,l 13 1 12,f 14 3 2,l 15 1 14,o 16 (.aI 10 1 4 [j 0] [(0,9),(1,11),(2,13),(3,15)]),f 17 0 3,l 18 1 17,f 19 1 3,l 20 1 19,f 21 2 3,l 22 1 21,f 23 3 3,l 24 1 23,o 25 (.aI 10 1 4 [j 0] [(0,18),(1,20),(2,22),(3,24)]),m 5 16,m 6 25]) (k [5,6] (s (q [m 7 (i 0)] (k [5,6,7] (.block 0 (.loop (s (q [m 26 7,b 27 .lss 26 (i 4)] (h 27 .skip (.exit 0))) (k [5,6,7] (s (.block 1 (s (.draw [0,0,3,7,0,0,48,112,255] [[5],[7],[30,31],[32],[6],[7],[34,35],[36],[33,37]] [m 30 5,m 31 7,u 32 1 30 31,l 33 1 32,m 34 6,m 35 7,u 36 1 34 35,l 37 1 36,b 38 .neq 33 37]) (k [5,6,7,38] (h 38 (s (.draw [0,0,3,7,0,0,48,112,255,511] [[5],[7],[39,40],[41],[6],[7],[43,44],[45],[42,46],[47]] [m 39 5,m 40 7,u 41 1 39 40,l 42 1 41,m 43 6,m 44 7,u 45 1 43 44,l 46 1 45,b 47 .lss 42 46,m 4 47]) (k [4] .ret)) .skip)))) (k [5,6,7] (p [m 28 7,b 29 .add 28 (i 1),m 7 29]))))))))) (k [] (t [m 4 (.k (.bool false))])))))⟩
structure HL (R:Env):Prop where
 BV:R.Fn 456 Sm
def Sp:bo:=Nf ⟨2,[4],q [x 3 44 1,m 4 (i 0)] (s (q [m 5 (i 0)] (k [0,3,5] (.block 0 (.loop (s (q [m 6 5,m 7 0,o 8 (.bv 7),f 9 1 8,l 10 1 9,n 11 10,b 12 .lss 6 11] (k [0,3,5,12] (h 12 .skip (.exit 0)))) (k [0,3,5] (s (.block 1 (s (.draw [0,0,2,6,14,0,62,126,255,511,1023,2047,4095,8191,16383,2047,65535,131071,2047,524287,1048575,2097151] [[3],[0],[16],[17],[18],[5],[19,20],[21],[15,22],[23],[24],[0],[26],[27],[28],[5],[29,30],[31],[3],[32,33],[34],[25,35]] [g 15 16 3,m 16 0,o 17 (.bv 16),f 18 1 17,l 19 1 18,m 20 5,u 21 16 19 20,g 22 16 21,c 23 456 [15,22],o 24 (.un .not 23),m 25 24,⟨some 26,some (25,true),.mv 0⟩,⟨some 27,some (25,true),.bv 26⟩,⟨some 28,some (25,true),.aC 1 27⟩,⟨some 29,some (25,true),.load false 1 28⟩,⟨some 30,some (25,true),.mv 5⟩,⟨some 31,some (25,true),.jN 16 29 30⟩,⟨some 32,some (25,true),.load true 16 31⟩,⟨some 33,some (25,true),.load true 16 3⟩,⟨some 34,some (25,true),.call 456 [32,33]⟩,⟨some 35,some (25,true),.un .not 34⟩,w 36 25 35 (.k (.bool false))]) (k [0,3,5,36] (h 36 (t [m 37 5,m 4 37]) .skip)))) (k [0,3,5] (p [m 13 5,b 14 .add 13 (i 1),m 5 14]))))))))) (k [] (t [m 4 (i (-1))])))⟩
structure HM (R:Env):Prop where
 WD:R.Fn 455 Sp
 nz:HL R
def Sq:bo:=Nf ⟨2,[4],q [x 3 44 1,m 4 (i 0)] (s (q [f 15 3 3,l 16 1 15,b 17 .lss 16 (i 0),m 18 17,⟨some 19,some (18,false),.aC 3 3⟩,⟨some 20,some (18,false),.load false 1 19⟩,⟨some 21,some (18,false),.bin .gtr 20 (i 65536)⟩,w 22 18 (.k (.bool true)) 21] (k [0,3,22] (h 22 (t [m 4 (i 2)]) .skip))) (k [0,3] (s (.draw [0,0,2,7,0,0,32,127,0,0,512,2047,4095,8191,16383] [[0],[3],[24],[23,25],[0],[3],[28],[27,29],[0],[3],[32],[31,33],[26],[30],[34]] [m 23 0,f 24 0 3,l 25 1 24,c 26 454 [23,25],m 27 0,f 28 1 3,l 29 1 28,c 30 454 [27,29],m 31 0,f 32 2 3,l 33 1 32,c 34 454 [31,33],m 5 26,m 6 30,m 7 34]) (k [0,3,5,6,7] (s (q [m 35 5,b 36 .lss 35 (i 0),m 37 36,⟨some 38,some (37,false),.mv 6⟩,⟨some 39,some (37,false),.bin .lss 38 (i 0)⟩,w 40 37 (.k (.bool true)) 39,m 41 40,⟨some 42,some (41,false),.mv 7⟩,⟨some 43,some (41,false),.bin .lss 42 (i 0)⟩,⟨some 44,some (41,false),.mv 43⟩,⟨some 45,some (44,true),.aC 2 3⟩,⟨some 46,some (44,true),.load false 1 45⟩,⟨some 47,some (44,true),.bin .neq 46 (i 0)⟩,⟨some 48,some (41,false),.pick 44 47 (.k (.bool false))⟩,w 49 41 (.k (.bool true)) 48] (k [0,3,5,6,7,49] (h 49 (t [m 4 (i 11)]) .skip))) (k [0,3,5,6,7] (s (q [m 50 0,o 51 (.bv 50),f 52 0 51,l 53 1 52,m 54 5,u 55 40 53 54,f 56 1 55,f 57 1 56,l 58 1 57,b 59 .neq 58 (i 1),m 60 59,⟨some 61,some (60,false),.mv 0⟩,⟨some 62,some (60,false),.bv 61⟩,⟨some 63,some (60,false),.aC 0 62⟩,⟨some 64,some (60,false),.load false 1 63⟩,⟨some 65,some (60,false),.mv 6⟩,⟨some 66,some (60,false),.jN 40 64 65⟩,⟨some 67,some (60,false),.aC 1 66⟩,⟨some 68,some (60,false),.aC 1 67⟩,⟨some 69,some (60,false),.load false 1 68⟩,⟨some 70,some (60,false),.bin .neq 69 (i 3)⟩,w 71 60 (.k (.bool true)) 70,m 72 71,⟨some 73,some (72,false),.aC 2 3⟩,⟨some 74,some (72,false),.load false 1 73⟩,⟨some 75,some (72,false),.bin .neq 74 (i 0)⟩,⟨some 76,some (72,false),.mv 75⟩,⟨some 77,some (76,true),.mv 0⟩,⟨some 78,some (76,true),.bv 77⟩,⟨some 79,some (76,true),.aC 0 78⟩,⟨some 80,some (76,true),.load false 1 79⟩,⟨some 81,some (76,true),.mv 7⟩,⟨some 82,some (76,true),.jN 40 80 81⟩,⟨some 83,some (76,true),.aC 1 82⟩,⟨some 84,some (76,true),.aC 1 83⟩,⟨some 85,some (76,true),.load false 1 84⟩,⟨some 86,some (76,true),.bin .neq 85 (i 2)⟩,⟨some 87,some (72,false),.pick 76 86 (.k (.bool false))⟩,w 88 72 (.k (.bool true)) 87] (k [0,3,5,88] (h 88 (t [m 4 (i 12)]) .skip))) (k [0,3,5] (s (q [m 89 0,g 90 16 3,c 91 455 [89,90],b 92 .geq 91 (i 0)] (h 92 (t [m 4 (i 10)]) .skip)) (y [0,3,5] [m 93 0,o 94 (.bv 93),f 95 0 94,l 96 1 95,m 97 5,u 98 40 96 97,f 99 16 98,f 100 1 99,f 101 0 100,l 102 1 101,m 8 102] (k [0,3,8] (s (q [m 9 (i 0)] (k [0,3,8,9] (.block 0 (.loop (s (q [m 103 9,m 104 8,n 105 104,b 106 .lss 103 105] (h 106 .skip (.exit 0))) (k [0,3,8,9] (s (.block 1 (s (.draw [0,1,0,0,12,28,63,127,255,255,0,1535,4095] [[3],[110],[8],[9],[112,113],[114],[111,115],[116],[109],[109],[],[10,117],[118]] [f 110 4 3,g 111 12 110,m 112 8,m 113 9,u 114 3 112 113,g 115 3 114,c 116 242 [111,115],m 109 116,e 117 109 0,e 118 109 1,a 10 26 [j 0,j 0,j 0],r 3 10 117,m 11 118]) (y [0,3,8,9,11] [m 119 11,b 120 .neq 119 (i 0)] (h 120 (t [m 121 11,m 4 121]) .skip)))) (k [0,3,8,9] (p [m 107 9,b 108 .add 107 (i 1),m 9 108]))))))))) (y [0,3] [m 12 (.k .ap)] (q [m 13 (.k (.bool false))] (s (q [m 14 (i 0)] (k [0,3,12,13,14] (.block 2 (.loop (s (q [m 122 14,m 123 0,o 124 (.bv 123),f 125 1 124,l 126 1 125,n 127 126,b 128 .lss 122 127] (k [0,3,12,13,14,128] (h 128 .skip (.exit 2)))) (k [0,3,12,13,14] (s (.block 3 (s (s (.draw [0,1,3,7,7,23,55,119,7,503,1015,2047,4095] [[13],[131],[132],[3],[0],[135],[136],[137],[14],[138,139],[140],[134,141],[133,142]] [m 131 13,o 132 (.un .not 131),m 133 132,⟨some 134,some (133,true),.load true 16 3⟩,⟨some 135,some (133,true),.mv 0⟩,⟨some 136,some (133,true),.bv 135⟩,⟨some 137,some (133,true),.aC 1 136⟩,⟨some 138,some (133,true),.load false 1 137⟩,⟨some 139,some (133,true),.mv 14⟩,⟨some 140,some (133,true),.jN 16 138 139⟩,⟨some 141,some (133,true),.load true 16 140⟩,⟨some 142,some (133,true),.call 456 [134,141]⟩,w 143 133 142 (.k (.bool false))]) (k [0,3,12,13,14,143] (h 143 (q [m 144 12,g 145 16 3,o 146 (.aI 44 16 1 Z5 [(0,145)]),o 147 (.app 44 16 144 146),m 12 147] (k [0,3,12,14] (p [m 13 (.k (.bool true))]))) .skip))) (k [0,3,12,13,14] (p [m 148 12,m 149 0,o 150 (.bv 149),f 151 1 150,l 152 1 151,m 153 14,u 154 16 152 153,g 155 16 154,o 156 (.aI 44 16 1 Z5 [(0,155)]),o 157 (.app 44 16 148 156),m 12 157])))) (k [0,3,12,13,14] (p [m 129 14,b 130 .add 129 (i 1),m 14 130]))))))))) (k [0,3,12,13] (s (q [m 158 13,o 159 (.un .not 158)] (h 159 (p [m 160 12,g 161 16 3,o 162 (.aI 44 16 1 Z5 [(0,161)]),o 163 (.app 44 16 160 162),m 12 163]) .skip)) (y [0,12] [m 164 0,m 165 12,o 166 (.bv 164),f 167 1 166,r 1 167 165] (k [] (t [m 4 (i 0)]))))))))))))))))))))⟩
structure Me (R:Env):Prop where
 WE:R.Fn 443 Sq
 n242:LV R
 rK:EE R
 xe:HM R
 nz:HL R
def Sr:bo:=Nf ⟨2,[4],q [x 3 44 1,m 4 (i 0)] (q [m 6 0,g 7 16 3,c 8 455 [6,7],m 5 8] (s (q [m 9 5,b 10 .lss 9 (i 0)] (h 10 (t [m 4 (i 11)]) .skip)) (k [0,5] (s (.draw [0,0,0,4,12,28,0,124,254,0,512,1536,3584,0,8192,32256,65534,131071,262143,524287] [[0],[],[0],[13],[14],[15],[5],[16,17],[12,18],[0],[20],[21],[22],[5],[24],[23,25],[19,26],[11],[28],[29,27]] [m 11 0,o 12 (.aI 44 16 0 Z5 []),m 13 0,o 14 (.bv 13),f 15 1 14,l 16 1 15,m 17 5,o 18 (.sP 44 16 16 none (some 17) none),o 19 (.app 44 16 12 18),m 20 0,o 21 (.bv 20),f 22 1 21,l 23 1 22,m 24 5,b 25 .add 24 (i 1),o 26 (.sP 44 16 23 (some 25) none none),o 27 (.app 44 16 19 26),o 28 (.bv 11),f 29 1 28,r 1 29 27]) (k [] (t [m 4 (i 0)]))))))⟩
structure Mg (R:Env):Prop where
 WF:R.Fn 444 Sr
 xe:HM R
end Go.UM
namespace Go.UM
open Go.AM
open Z
def Ss:bo:=Nf ⟨1,[.cell 2 true 57],q [x 1 55 0,a 2 55 Z1] (q [f 3 17 1,f 4 1 3,g 5 3 4,c 6 191 [5],f 7 17 1,f 8 1 7,r 3 8 6] (y [1,2] [f 9 17 1,f 10 4 9,f 11 1 10,l 12 1 11,f 13 17 1,f 14 4 13,f 15 1 14,l 16 1 15,n 17 16,o 18 (.mm false [17,i 260]),o 19 (.sP 13 3 12 none (some 18) none),f 20 17 1,f 21 4 20,f 22 1 21,r 1 22 19] (k [1,2] (t [g 23 57 1,r 57 2 23]))))⟩
structure Mh (R:Env):Prop where
 Su:R.Fn 420 Ss
 n191:LD R
def Sv:bo:=Nf ⟨2,[4],q [x 3 55 1,m 4 (i 0)] (s (q [f 5 0 3,l 6 1 5] (.block 0 (q [b 8 .eql 6 (i 0),m 7 8] (h 7 (q [m 9 0,f 10 1 3,l 11 1 10,f 12 2 3,g 13 15 12,f 14 17 3,g 15 24 14,c 16 346 [9,11,13,15],m 4 16] (k [4] .ret)) (q [b 18 .eql 6 (i 1),m 17 18] (h 17 (q [m 19 0,f 20 1 3,l 21 1 20,c 22 428 [19,21],m 4 22] (k [4] .ret)) (q [b 24 .eql 6 (i 2),m 23 24] (h 23 (q [m 25 0,f 26 41 3,g 27 16 26,c 28 347 [25,27],m 4 28] (k [4] .ret)) .skip)))))))) (y [0,3] [m 29 0,f 30 41 3,g 31 16 30,c 32 427 [29,31],m 4 32] (k [4] .ret)))⟩
structure Mi (R:Env):Prop where
 WG:R.Fn 421 Sv
 n346:BS R
 BW:Ez R
 BX:EB R
 sW:BT R
def Sw:bo:=Nf ⟨0,[.cell 0 true 24],q [a 0 39 Z4] (t [o 1 (.build Z4 [(0,1,i 3)]),r 24 0 1])⟩
structure HN (R:Env):Prop where
 BY:R.Fn 431 Sw
def Sx:bo:=Nf ⟨0,[0],q [m 0 (.k (.bool false))] (q [c 3 345 [],m 1 3] (s (q [m 4 1,o 5 (.Gp false 4)] (h 5 (t [m 0 (.k (.bool false))]) .skip)) (y [1] [o 6 (.build Z3 [(1,1,i 3)]),a 2 2 Z3,r 15 2 6] (s (.draw [0,0,0,7,15,31,63,63,63,511,1023,2047,4095,8191,16383,32767,65535,131071,262143,262143,262143,2097151,4194303,8388607,16777215,33554431,67108863,134217727,268435455,536870911,1073741823] [[1],[2],[],[7,8,9],[10],[11],[1],[2],[],[13,14,15],[16],[12,17],[18],[1],[20],[21],[19,22],[23],[1],[2],[],[25,26,27],[28],[24,29],[30],[1],[32],[33],[34],[31,35],[36]] [m 7 1,g 8 15 2,c 9 431 [],o 10 (.dh (.f 346) [7,i 5,8,9]),b 11 .eql 10 (i 0),m 12 11,⟨some 13,some (12,true),.mv 1⟩,⟨some 14,some (12,true),.load true 15 2⟩,⟨some 15,some (12,true),.call 431 []⟩,⟨some 16,some (12,true),.dh (.f 346) [13,i 5,14,15]⟩,⟨some 17,some (12,true),.bin .eql 16 (i 10)⟩,w 18 12 17 (.k (.bool false)),m 19 18,⟨some 20,some (19,true),.mv 1⟩,⟨some 21,some (19,true),.dh (.f 428) [20,i 5]⟩,⟨some 22,some (19,true),.bin .eql 21 (i 0)⟩,w 23 19 22 (.k (.bool false)),m 24 23,⟨some 25,some (24,true),.mv 1⟩,⟨some 26,some (24,true),.load true 15 2⟩,⟨some 27,some (24,true),.call 431 []⟩,⟨some 28,some (24,true),.dh (.f 346) [25,i 5,26,27]⟩,⟨some 29,some (24,true),.bin .eql 28 (i 0)⟩,w 30 24 29 (.k (.bool false)),m 31 30,⟨some 32,some (31,true),.mv 1⟩,⟨some 33,some (31,true),.dh (.f 418) [32]⟩,⟨some 34,some (31,true),.gh 33⟩,⟨some 35,some (31,true),.bin .eql 34 (i 1)⟩,w 36 31 35 (.k (.bool false)),m 0 36]) (k [0] .ret)))))⟩
structure Mj (R:Env):Prop where
 Sy:R.Fn 423 Sx
 n345:Hn R
 n346:BS R
 xf:EA R
 sW:BT R
 nA:HN R
def Sz:bo:=Nf ⟨2,[4],q [x 3 55 1,m 4 (i 0)] (s (q [f 5 0 3,l 6 1 5] (.block 0 (q [b 8 .eql 6 (i 0),m 7 8] (h 7 (q [m 9 0,f 10 1 3,l 11 1 10,f 12 2 3,g 13 15 12,f 14 17 3,g 15 24 14,c 16 441 [9,11,13,15],m 4 16] (k [4] .ret)) (q [b 18 .eql 6 (i 1),m 17 18] (h 17 (q [m 19 0,f 20 1 3,l 21 1 20,c 22 442 [19,21],m 4 22] (k [4] .ret)) (q [b 24 .eql 6 (i 2),m 23 24] (h 23 (q [m 25 0,f 26 41 3,g 27 16 26,c 28 443 [25,27],m 4 28] (k [4] .ret)) .skip)))))))) (y [0,3] [m 29 0,f 30 41 3,g 31 16 30,c 32 444 [29,31],m 4 32] (k [4] .ret)))⟩
structure Mk (R:Env):Prop where
 WH:R.Fn 432 Sz
 Mn:Mb R
 Mo:Md R
 Mp:Me R
 Mq:Mg R
def SA:bo:=Nf ⟨1,[2],q [m 2 (.k (.bool false))] (q [c 11 345 [],o 12 (.build [.ap,.ap] []),x 13 56 12,m 3 11,m 4 13] (k [0,3,4] (s (q [m 14 3,o 15 (.Gp false 14)] (h 15 (t [m 2 (.k (.bool false))]) .skip)) (k [0,3,4] (s (q [m 5 (i 0)] (k [0,3,4,5] (.block 0 (.loop (s (q [m 16 5,m 17 0,n 18 17,b 19 .lss 16 18,m 20 19,⟨some 21,some (20,true),.mv 5⟩,⟨some 22,some (20,true),.bin .lss 21 (i 30)⟩,w 23 20 22 (.k (.bool false))] (k [0,3,4,5,23] (h 23 .skip (.exit 0)))) (k [0,3,4,5] (s (.block 1 (q [m 26 0,m 27 5,u 28 57 26 27,g 29 57 28,c 30 420 [29],a 6 55 Z1,r 57 6 30] (k [0,3,4,5,6] (s (q [f 31 1 6,l 32 1 31,b 33 .rem 32 (i 7),b 34 .eql 33 (i 3)] (h 34 (q [m 35 3,c 36 430 [35],m 7 36] (s (q [m 37 7,o 38 (.Gp false 37)] (h 38 (t [m 2 (.k (.bool false))]) .skip)) (y [0,3,4,5,6,7] [m 39 7,o 40 (.build Z3 [(1,1,i 3)]),c 41 431 [],c 42 346 [39,i 1,40,41]] (p [m 43 7,c 44 428 [43,i 2]])))) .skip)) (k [0,3,4,5,6] (s (.draw [0,0,3,0,0,31,63,127,255,511,255,1279,3327,7423,16383,32767,65535,131071,262143,524287,262143,1310719,3407871,7602175,16777215,33554431,67108863] [[3],[6],[45,46],[4],[6],[48,49],[47,50],[51],[3],[53],[4],[55],[56],[57],[54,58],[59],[52,60],[61],[3],[63],[4],[65],[66],[67],[64,68],[69],[62,70]] [m 45 3,g 46 57 6,o 47 (.dh (.f 421) [45,46]),m 48 4,g 49 57 6,c 50 432 [48,49],b 51 .neq 47 50,m 52 51,⟨some 53,some (52,false),.mv 3⟩,⟨some 54,some (52,false),.dh (.f 418) [53]⟩,⟨some 55,some (52,false),.mv 4⟩,⟨some 56,some (52,false),.bv 55⟩,⟨some 57,some (52,false),.aC 0 56⟩,⟨some 58,some (52,false),.load false 1 57⟩,⟨some 59,some (52,false),.call 422 [54,58]⟩,⟨some 60,some (52,false),.un .not 59⟩,w 61 52 (.k (.bool true)) 60,m 62 61,⟨some 63,some (62,false),.mv 3⟩,⟨some 64,some (62,false),.dh (.f 419) [63]⟩,⟨some 65,some (62,false),.mv 4⟩,⟨some 66,some (62,false),.bv 65⟩,⟨some 67,some (62,false),.aC 1 66⟩,⟨some 68,some (62,false),.load false 1 67⟩,⟨some 69,some (62,false),.call 343 [64,68]⟩,⟨some 70,some (62,false),.un .not 69⟩,w 71 62 (.k (.bool true)) 70]) (k [0,3,4,5,71] (h 71 (t [m 2 (.k (.bool false))]) .skip)))))))) (k [0,3,4,5] (p [m 24 5,b 25 .add 24 (i 1),m 5 25]))))))))) (y [3,4] [m 72 3,c 73 430 [72],m 8 73] (q [a 9 47 [.cb,.cb]] (q [m 10 (.k .bG)] (s (.draw [0,1,3,7,15,7,39,103,231,511,1023,2047,4095,8191,4095,20479,53247,118783,262143,524287,1048575,2097151,2097151,8388607,16777215,33554431,67108863,134217727,268435455,536870911,1073741823,2147483647,4294967295,8589934591,17179869183,34359738367,68719476735,137438953471,274877906943,549755813887,1099511627775,2199023255551,4398046511103,8796093022207,17592186044415,35184372088831,70368744177663,140737488355327,281474976710655,562949953421311,1125899906842623,2251799813685247,4503599627370495,9007199254740991,18014398509481983,36028797018963967,72057594037927935,144115188075855871,288230376151711743,576460752303423487] [[8],[74],[75],[8],[77],[4],[79],[80],[81],[78,82],[76,83],[84],[8],[86],[4],[88],[89],[90],[87,91],[85,92],[93],[],[],[9,95,96],[97],[94,98],[99],[9],[101],[100,102],[103],[],[9,105],[106],[104,107],[108],[],[9,110],[111],[109,112],[113],[10],[115],[116],[114,117],[118],[10],[120],[121],[122],[119,123],[124],[9],[126],[127],[125,128],[129],[],[130,131],[132]] [m 74 8,o 75 (.Gp true 74),m 76 75,⟨some 77,some (76,true),.mv 8⟩,⟨some 78,some (76,true),.dh (.f 418) [77]⟩,⟨some 79,some (76,true),.mv 4⟩,⟨some 80,some (76,true),.bv 79⟩,⟨some 81,some (76,true),.aC 0 80⟩,⟨some 82,some (76,true),.load false 1 81⟩,⟨some 83,some (76,true),.call 422 [78,82]⟩,w 84 76 83 (.k (.bool false)),m 85 84,⟨some 86,some (85,true),.mv 8⟩,⟨some 87,some (85,true),.dh (.f 419) [86]⟩,⟨some 88,some (85,true),.mv 4⟩,⟨some 89,some (85,true),.bv 88⟩,⟨some 90,some (85,true),.aC 1 89⟩,⟨some 91,some (85,true),.load false 1 90⟩,⟨some 92,some (85,true),.call 343 [87,91]⟩,w 93 85 92 (.k (.bool false)),m 94 93,⟨some 95,some (94,true),.build Z3 []⟩,⟨some 96,some (94,true),.call 431 []⟩,⟨some 97,some (94,true),.dh (.f 346) [9,i 1,95,96]⟩,⟨some 98,some (94,true),.bin .eql 97 (i 1)⟩,w 99 94 98 (.k (.bool false)),m 100 99,⟨some 101,some (100,true),.dh (.f 428) [9,i 1]⟩,⟨some 102,some (100,true),.bin .eql 101 (i 1)⟩,w 103 100 102 (.k (.bool false)),m 104 103,⟨some 105,some (104,true),.build Z5 []⟩,⟨some 106,some (104,true),.dh (.f 347) [9,105]⟩,⟨some 107,some (104,true),.bin .eql 106 (i 1)⟩,w 108 104 107 (.k (.bool false)),m 109 108,⟨some 110,some (109,true),.build Z5 []⟩,⟨some 111,some (109,true),.dh (.f 427) [9,110]⟩,⟨some 112,some (109,true),.bin .eql 111 (i 1)⟩,w 113 109 112 (.k (.bool false)),m 114 113,⟨some 115,some (114,true),.mv 10⟩,⟨some 116,some (114,true),.dh (.f 430) [115]⟩,⟨some 117,some (114,true),.Gp false 116⟩,w 118 114 117 (.k (.bool false)),m 119 118,⟨some 120,some (119,true),.mv 10⟩,⟨some 121,some (119,true),.dh (.f 418) [120]⟩,⟨some 122,some (119,true),.gh 121⟩,⟨some 123,some (119,true),.bin .eql 122 (i 0)⟩,w 124 119 123 (.k (.bool false)),m 125 124,⟨some 126,some (125,true),.dh (.f 419) [9]⟩,⟨some 127,some (125,true),.gh 126⟩,⟨some 128,some (125,true),.bin .eql 127 (i 0)⟩,w 129 125 128 (.k (.bool false)),m 130 129,⟨some 131,some (130,true),.call 423 []⟩,w 132 130 131 (.k (.bool false)),m 2 132]) (k [2] .ret))))))))))⟩
structure SB (R:Env):Prop where
 WI:R.Fn 429 SA
 n343:L9 R
 n345:Hn R
 n346:BS R
 BW:Ez R
 xf:EA R
 EF:Hu R
 HO:Mh R
 Mr:Mi R
 xg:Ma R
 HP:Mj R
 BX:EB R
 sW:BT R
 EG:Hx R
 nA:HN R
 Mu:Mk R
end Go.UM
namespace Go.UM
open Go.AM
def u8 (n:Int):UInt8:=UInt8.ofNat (n % 256).toNat
theorem Ai (n:Int):wr .u8 n=((u8 n).toNat:Int):=by
 have h1:0≤n % 256:=Int.emod_nonneg _ (by decide)
 have h2:n % 256<256:=Int.emod_lt_of_pos _ (by decide)
 simp only[wr,IntKind.wrap,IntKind.bits,IntKind.signed,u8]
 simp
 omega
theorem y6 (n:Int):u8 (n % 256)=u8 n:=by unfold u8; rw[Int.emod_emod_of_dvd n (Int.dvd_refl 256)]
theorem HQ {n:Int} (h:0≤n):u8 (n.tmod 256)=u8 n:=by rw[Int.tmod_eq_emod_of_nonneg h,y6]
theorem u8_in {n:Int} (h:0≤n∧n≤255):((u8 n).toNat:Int)=n:=by rw[←Ai,Ah (k:= .u8) h]
def bn (l:List UInt8):List (List AV):=l.map fun c=>[.int .u8 c.toNat]
def bI (k:IntKind) (l:List Int):List (List AV):=l.map fun x=>[.int k x]
@[simp] theorem SC:bn []=[]:=rfl
@[simp] theorem eT (l:List UInt8):(bn l).length=l.length:=by simp[bn]
@[simp] theorem Jf (a b:List UInt8):bn (a++b)=bn a++bn b:=by simp[bn]
@[simp] theorem SD (n:Int):[[AV.int .u8 (wr .u8 n)]]=bn [u8 n]:=by simp[bn,Ai]
@[simp] theorem SE (k:IntKind):bI k []=[]:=rfl
@[simp] theorem xh (k:IntKind) (l:List Int):(bI k l).length=l.length:=by simp[bI]
@[simp] theorem Jg (k:IntKind) (a b:List Int):bI k (a++b)=bI k a++bI k b:=by simp[bI]
@[simp] theorem SF (l:List UInt8):mF (bn l):=by simp[bn]
@[simp] theorem SG (k:IntKind) (l:List Int):mF (bI k l):=by simp[bI]
@[simp] theorem SH (l:List UInt8):w9 (bn l):=by simp[bn]
@[simp] theorem SI (k:IntKind) (l:List Int):w9 (bI k l):=by simp[bI]
instance {l:List UInt8}:ki (bn l) l.length:=⟨eT l⟩
instance {k:IntKind} {l:List Int}:ki (bI k l) l.length:=⟨xh k l⟩
@[simp] theorem SJ {e:List AV} {l:List UInt8}:e ∈ bn l↔∃c,c ∈ l∧[AV.int .u8 c.toNat]=e:=by simp[bn]
@[simp] theorem SK {k:IntKind} {e:List AV} {l:List Int}:e ∈ bI k l↔∃c,c ∈ l∧[AV.int k c]=e:=by simp[bI]
theorem az {α:Type} {l:List α} {k:Nat} {x:α} (h:l[k]? =some x):l.take (k+1)=l.take k++ [x]:=by
 rw[List.take_add_one,h]; rfl
theorem Mv {k:IntKind} {x y:Int} (hx:0≤x):eo k x y=x / 2 ^ (min y.toNat k.bits):=by
 unfold eo
 rw[Int.fdiv_eq_ediv_of_nonneg]
 exact Int.le_of_lt (Int.pow_pos (by decide))
theorem aS8 {s:List UInt8} {K:List UInt8→Prop} (k:K s):Oj (bn s) K:=⟨⟨s,rfl,k⟩⟩
theorem xi {α:Type} (l:List α) (m:Int):l.take (min (l.length:Int) m).toNat=l.take m.toNat:=by
 by_cases h:(l.length:Int)≤m
 ·rw[show (min (l.length:Int) m).toNat=l.length by omega,List.take_of_length_le (Nat.le_refl _),List.take_of_length_le (by omega)]
 ·rw[show (min (l.length:Int) m).toNat=m.toNat by omega]
end Go.UM
namespace Go.UM
open Go.AM
theorem iT {n:Nat} {x:Int} (h0:0≤x) (h1:x<2 ^ n):(BitVec.ofInt n x).toNat=x.toNat:=by
 rw[BitVec.toNat_ofInt]
 congr 1
 apply Int.emod_eq_of_lt h0
 exact_mod_cast h1
theorem rL {x:Nat} (h:x<18446744073709551616):wr .u64 (x:Int)=x:=Ah (k:= .u64) ⟨by omega,by omega⟩
theorem y7 {x y:Int} (hx:0≤x∧x≤18446744073709551615) (hy:0≤y∧y≤18446744073709551615):dS .or .u64 x y=((x.toNat||| y.toNat:Nat):Int):=by
 have e:dS .or .u64 x y=wr .u64 ((BitVec.ofInt 64 x||| BitVec.ofInt 64 y).toNat:Int):=rfl
 rw[e,BitVec.toNat_or,iT hx.1 (by omega),iT hy.1 (by omega)]
 apply rL
 exact Nat.or_lt_two_pow (n:=64) (by omega) (by omega)
theorem HR {x y:Int} (hx:0≤x∧x≤18446744073709551615) (hy:0≤y∧y≤18446744073709551615):dS .and .u64 x y=((x.toNat&&& y.toNat:Nat):Int):=by
 have e:dS .and .u64 x y=wr .u64 ((BitVec.ofInt 64 x&&& BitVec.ofInt 64 y).toNat:Int):=rfl
 rw[e,BitVec.toNat_and,iT hx.1 (by omega),iT hy.1 (by omega)]
 apply rL
 exact Nat.and_lt_two_pow (n:=64) _ (by omega)
def le:List UInt8→Nat
 |[]=>0
 |c::r=>c.toNat+256*le r
end Go.UM
namespace Go.UM
open Go.AM
structure T3 where
 (a b c:Int)
def z3:T3:=⟨0,0,0⟩
def t3 (x:T3):List AV:=[.int .i64 x.a,.int .i64 x.b,.int .i64 x.c]
def bD (l:List T3):List (List AV):=l.map t3
@[simp] theorem SL:bD []=[]:=rfl
@[simp] theorem xj (l:List T3):(bD l).length=l.length:=by simp[bD]
@[simp] theorem Jh (a b:List T3):bD (a++b)=bD a++bD b:=by simp[bD]
@[simp] theorem SM (l:List T3):mF (bD l):=by simp[bD,t3]
@[simp] theorem SN (l:List T3):w9 (bD l):=by simp[bD,t3]
theorem BZ (l:List T3) (k:Nat):(bD l).take k=bD (l.take k):=by simp[bD,List.map_take]
instance {l:List T3}:ki (bD l) l.length:=⟨xj l⟩
end Go.UM
namespace Go.UM
open Go.AM
set_option maxRecDepth 4000
abbrev ej (n:Int):Prop:=hJ .i64 n
abbrev FY (n:Int):Prop:=hJ .u64 n
theorem b7 {n:Int}:ej n↔ -9223372036854775808≤n∧n≤9223372036854775807:=Iff.rfl
theorem qb {n:Int}:FY n↔0≤n∧n≤18446744073709551615:=Iff.rfl
theorem gA (n:Int):wr .u64 n=n % 18446744073709551616:=by
 simp only[wr,IntKind.wrap,IntKind.bits,IntKind.signed]; simp
theorem dA (n:Int):wr .i64 n=(n+9223372036854775808) % 18446744073709551616 - 9223372036854775808:=by
 simp only[wr,IntKind.wrap,IntKind.bits,IntKind.signed]; simp; omega
def iU (v:Int):Int:=if 9223372036854775807<v then 9223372036854775807 else if v< -9223372036854775808 then -9223372036854775808 else v
theorem rN (v:Int):ej (iU v):=by
 rw[b7]; unfold iU; split
 ·omega
 ·split<;>omega
theorem vo {v:Int} (h:ej v):iU v=v:=by
 rw[b7]at h; unfold iU; rw[if_neg (by omega),if_neg (by omega)]
def fT (a b:Int):Int:=iU (a+b)
def nB (a b:Int):Int:=iU (a*b / 4294967296)
def bz (x:Int):Int:=if x<0 then -x else x
theorem ga {x:Int} (h:ej x):0≤bz x∧bz x≤9223372036854775808:=by
 rw[b7]at h; unfold bz; split<;>omega
theorem vp (a b:Int):a*b=if (decide (a<0) != decide (b<0))=true then -(bz a*bz b)else bz a*bz b:=by
 unfold bz
 by_cases ha:a<0<;>by_cases hb:b<0<;>simp[ha,hb,Int.neg_mul,Int.mul_neg]
theorem fU {x y B:Int} (hx:0≤x∧x≤B) (hy:0≤y∧y≤B):0≤x*y∧x*y≤B*B:=
 ⟨Int.mul_nonneg hx.1 hy.1,Int.mul_le_mul hx.2 hy.2 hy.1 (by omega)⟩
theorem Aj {a b:Int} (ha:ej a) (hb:ej b): -85070591730234615865843651857942052864≤a*b∧a*b≤85070591730234615865843651857942052864:=by
 have h:=fU (ga ha) (ga hb)
 rw[vp]
 split<;>omega
def kj (v:Int):Int:=v / 18446744073709551616
def vq (v:Int):Int:=v % 18446744073709551616
abbrev HS (v:Int):Prop:= -85070591730234615865843651857942052864≤v∧v≤85070591730234615865843651857942052864
theorem vr {v:Int} (h:HS v): -4611686018427387904≤kj v∧kj v≤4611686018427387904:=by unfold kj; omega
theorem oB (v:Int):0≤vq v∧vq v≤18446744073709551615:=by unfold vq; omega
theorem HT {x y:Int} (hx:FY x) (hy:FY y):
  (0≤x % 4294967296* (y % 4294967296)∧x % 4294967296* (y % 4294967296)≤18446744065119617025)∧
  (0≤x / 4294967296* (y % 4294967296)∧x / 4294967296* (y % 4294967296)≤18446744065119617025)∧
  (0≤x % 4294967296* (y / 4294967296)∧x % 4294967296* (y / 4294967296)≤18446744065119617025)∧
  (0≤x / 4294967296* (y / 4294967296)∧x / 4294967296* (y / 4294967296)≤18446744065119617025)∧
  x*y=x / 4294967296* (y / 4294967296)*18446744073709551616+ (x / 4294967296* (y % 4294967296)+x % 4294967296* (y / 4294967296))*4294967296+x % 4294967296* (y % 4294967296):=by
 rw[qb]at hx hy
 have a1:0≤x % 4294967296∧x % 4294967296≤4294967295:=by omega
 have a2:0≤x / 4294967296∧x / 4294967296≤4294967295:=by omega
 have b1:0≤y % 4294967296∧y % 4294967296≤4294967295:=by omega
 have b2:0≤y / 4294967296∧y / 4294967296≤4294967295:=by omega
 refine⟨fU a1 b1,fU a2 b1,fU a1 b2,fU a2 b2,?_⟩
 have ex:x=x / 4294967296*4294967296+x % 4294967296:=by omega
 have ey:y=y / 4294967296*4294967296+y % 4294967296:=by omega
 generalize x / 4294967296=p at*
 generalize x % 4294967296=q at*
 generalize y / 4294967296=r at*
 generalize y % 4294967296=s at*
 subst ex; subst ey
 simp only[Int.mul_add,Int.add_mul]
 have e1:p*4294967296* (r*4294967296)=p*r*18446744073709551616:=by
  rw[Int.mul_assoc p,Int.mul_left_comm 4294967296 r,←Int.mul_assoc]; rfl
 have e2:p*4294967296*s=p*s*4294967296:=by rw[Int.mul_assoc,Int.mul_comm 4294967296 s,Int.mul_assoc]
 have e3:q* (r*4294967296)=q*r*4294967296:=by rw[Int.mul_assoc]
 rw[e1,e2,e3]
 omega
theorem xk {hi lo:Int} (hh:0≤hi∧hi≤4294967295) (hl:0≤lo∧lo≤4294967295):dS .or .u64 (hi*4294967296) lo=hi*4294967296+lo:=by
 rw[y7 ⟨by omega,by omega⟩ ⟨by omega,by omega⟩]
 have e:(hi*4294967296).toNat=2 ^ 32*hi.toNat:=by omega
 rw[e,←Nat.two_pow_add_eq_or_of_lt (i:=32) (b:=lo.toNat) (by omega)]
 omega
theorem nC {x:Int} (h:FY x):dS .and .u64 x 4294967295=x % 4294967296:=by
 rw[qb]at h
 rw[HR ⟨by omega,by omega⟩ ⟨by omega,by omega⟩]
 have e:((4294967295:Int).toNat)=2 ^ 32 - 1:=rfl
 rw[e,Nat.and_two_pow_sub_one_eq_mod]
 omega
theorem ug {x:Int} (k:IntKind) (hk:32≤k.bits):eo k x 32=x / 4294967296:=by
 unfold eo
 rw[show min (32:Int).toNat k.bits=32 by simp; omega]
 exact Int.fdiv_eq_ediv_of_nonneg _ (by decide)
theorem Ji {x:Int} (k:IntKind) (hk:63≤k.bits):eo k x 63=x / 9223372036854775808:=by
 unfold eo
 rw[show min (63:Int).toNat k.bits=63 by simp; omega]
 exact Int.fdiv_eq_ediv_of_nonneg _ (by decide)
theorem SO {x:Int} (k:IntKind) (hk:31≤k.bits):eo k x 31=x / 2147483648:=by
 unfold eo
 rw[show min (31:Int).toNat k.bits=31 by simp; omega]
 exact Int.fdiv_eq_ediv_of_nonneg _ (by decide)
theorem EH {x:Int}:nZ .u64 x 32=x*4294967296 % 18446744073709551616:=by
 unfold nZ
 rw[show min (32:Int).toNat (IntKind.bits .u64)=32 by rfl]
 show wr .u64 _=_
 rw[gA]; rfl
end Go.UM
namespace Go.UM
open Go.AM
set_option maxRecDepth 4000
abbrev T3.I (t:T3):Prop:=ej t.a∧ej t.b∧ej t.c
def sX (x y:T3):T3:=⟨fT x.a y.a,fT x.b y.b,fT x.c y.c⟩
def sY (x y:T3):T3:=⟨nB x.a y.a,nB x.b y.b,nB x.c y.c⟩
def y8:T3:=⟨4294967296,4294967296,4294967296⟩
def Jj (x y:T3):Int:=fT (fT (nB x.a y.a) (nB x.b y.b)) (nB x.c y.c)
def l4 (x:Int):Int:=if x<0 then iU (-x)else x
def Ak (v:T3):Int:=max (max (l4 v.a) (l4 v.b)) (l4 v.c)
def dX (x:Int):Int:=(x+2147483648) / 4294967296
def NH (p:T3):T3:=⟨iU (p.a*4294967296),iU (p.b*4294967296),iU (p.c*4294967296)⟩
theorem ek (x y:Int):ej (fT x y):=rN _
theorem iV (x y:Int):ej (nB x y):=rN _
theorem Al (x y:T3):(sX x y).I:=⟨ek _ _,ek _ _,ek _ _⟩
theorem Am (x y:T3):(sY x y).I:=⟨iV _ _,iV _ _,iV _ _⟩
theorem y9 (x y:T3):ej (Jj x y):=ek _ _
theorem EI (p:T3):(NH p).I:=⟨rN _,rN _,rN _⟩
theorem uh {x:Int} (h:ej x):fT 0 x=x:=by unfold fT; rw[Int.zero_add,vo h]
theorem EJ {x:Int} (h:ej x):nB 4294967296 x=x:=by unfold nB; rw[Int.mul_ediv_cancel_left _ (by decide),vo h]
theorem SP {x:T3} (h:x.I):sX z3 x=x:=by simp only[sX,z3,uh h.1,uh h.2.1,uh h.2.2]
theorem SQ {x:T3} (h:x.I):sY y8 x=x:=by simp only[sY,y8,EJ h.1,EJ h.2.1,EJ h.2.2]
theorem SR:z3.I:=⟨⟨by decide,by decide⟩,⟨by decide,by decide⟩,⟨by decide,by decide⟩⟩
theorem HU:y8.I:=⟨⟨by decide,by decide⟩,⟨by decide,by decide⟩,⟨by decide,by decide⟩⟩
structure Af where
 (m0 m1 m2 m3 m4 m5 m6 m7 m8:Int)
 t:T3
def Af.row (a:Af):List AV:=[.int .i64 a.m0,.int .i64 a.m1,.int .i64 a.m2,.int .i64 a.m3,.int .i64 a.m4,.int .i64 a.m5,.int .i64 a.m6,.int .i64 a.m7,.int .i64 a.m8,.int .i64 a.t.a,.int .i64 a.t.b,.int .i64 a.t.c]
def Af.SS (a:Af):List AV:=[.int .i64 a.m0,.int .i64 a.m1,.int .i64 a.m2,.int .i64 a.m3,.int .i64 a.m4,.int .i64 a.m5,.int .i64 a.m6,.int .i64 a.m7,.int .i64 a.m8]
structure Af.I (a:Af):Prop where
 m0:ej a.m0
 m1:ej a.m1
 m2:ej a.m2
 m3:ej a.m3
 m4:ej a.m4
 m5:ej a.m5
 m6:ej a.m6
 m7:ej a.m7
 m8:ej a.m8
 t:a.t.I
def Af.rw (a:Af):Nat→T3
 |0=>⟨a.m0,a.m1,a.m2⟩|1=>⟨a.m3,a.m4,a.m5⟩|_=>⟨a.m6,a.m7,a.m8⟩
def Af.cl (a:Af):Nat→T3
 |0=>⟨a.m0,a.m3,a.m6⟩|1=>⟨a.m1,a.m4,a.m7⟩|_=>⟨a.m2,a.m5,a.m8⟩
theorem Af.I.rw {a:Af} (h:a.I) (i:Nat):(a.rw i).I:=by
 unfold Af.rw; split
 ·exact⟨h.m0,h.m1,h.m2⟩
 ·exact⟨h.m3,h.m4,h.m5⟩
 ·exact⟨h.m6,h.m7,h.m8⟩
theorem Af.I.cl {a:Af} (h:a.I) (i:Nat):(a.cl i).I:=by
 unfold Af.cl; split
 ·exact⟨h.m0,h.m3,h.m6⟩
 ·exact⟨h.m1,h.m4,h.m7⟩
 ·exact⟨h.m2,h.m5,h.m8⟩
def ui (a:Af) (v:T3):T3:=⟨Jj (a.rw 0) v,Jj (a.rw 1) v,Jj (a.rw 2) v⟩
def oC (a:Af) (v:T3):T3:=sX (ui a v) a.t
theorem An (a:Af) (v:T3):(ui a v).I:=⟨y9 _ _,y9 _ _,y9 _ _⟩
theorem xl (a:Af) (v:T3):(oC a v).I:=Al _ _
def bN (x:Int):Bool:=decide (1099511627776<x)||decide (x< -1099511627776)
def ms (a:Af):List Int:=[a.m0,a.m1,a.m2,a.m3,a.m4,a.m5,a.m6,a.m7,a.m8]
def sZ (a:Af):Int:=if (ms a).any bN=true then 2 else if 562949953421312<Ak a.t then 2 else 0
def EK (x:Int):Bool:=decide (65536<x)||decide (x< -65536)
def Mw (v:T3):T3:=⟨dX v.a,dX v.b,dX v.c⟩
def nE (v:T3):T3 × Int:=if (EK (dX v.a)||EK (dX v.b)||EK (dX v.c))=true then (z3,8)else (Mw v,0)
def dK (a:Af) (p:T3):T3 × Int:=if sZ a≠0 then (z3,sZ a)else nE (oC a (NH p))
end Go.UM
namespace Go.UM
open Go.AM
set_option maxRecDepth 4000
def EL:Array Value→Sem Value:=fun args=>do
 let (x,y,b) ←Extern.MathBitsCarry.three "Sub64" args
 pure (Extern.MathBitsCarry.pair ((x+Extern.MathBitsCarry.m64 - y - b) % Extern.MathBitsCarry.m64) (if x<y+b then 1 else 0))
theorem B0 {P:Program} (x y b:Nat) (hb:b≤1) (w:World):(EL #[.int .u64 x,.int .u64 y,.int .u64 b]).run P w=
  .ok (.tuple #[.int .u64 (((x+18446744073709551616 - y - b) % 18446744073709551616:Nat):Int),.int .u64 ((if x<y+b then 1 else 0:Nat):Int)]) w:=by
 have:b=0∨b=1:=by omega
 rcases this with rfl|rfl<;>rfl
theorem B3 {fn:Func} (hn:fn.name= "math/bits.Sub64") (ho:fn.origin= ""):(fn.name== "runtime.NumGoroutine")=false∧Extern.findNext fn=none∧Extern.find fn=some EL:=by
 obtain⟨name,origin⟩:=fn
 simp only at hn ho
 subst hn; subst ho
 exact⟨by kernel_rfl,by kernel_rfl,by kernel_rfl⟩
theorem Ao {R:Env} (h:R.Xn 286 "math/bits.Sub64") {x y b:Int} (hx:hJ .u64 x) (hy:hJ .u64 y) (hb:0≤b∧b≤1):
  DA R.P (R.ft 286) [.int .u64 x,.int .u64 y,.int .u64 b] (.aO [.int .u64 ((x - y - b) % 18446744073709551616),.int .u64 (if x<y+b then 1 else 0)]):=by
 obtain⟨fn,hf,hn,ho,hbd⟩:=h.fn
 obtain⟨r1,r2,r3⟩:=B3 hn ho
 have hx:0≤x∧x≤18446744073709551615:=hx
 have hy:0≤y∧y≤18446744073709551615:=hy
 intro ρ L I N w vs hv
 obtain⟨hl,hr⟩:=hv
 obtain⟨v0,v1,v2,rfl⟩:∃v0 v1 v2,vs=[v0,v1,v2]:=by
  match vs,hl with
  |[a,b,c],_=>exact⟨a,b,c,rfl⟩
 have e0:aL ρ L I w N (.int .u64 x) v0:=hr 0 (by simp)
 have e1:aL ρ L I w N (.int .u64 y) v1:=hr 1 (by simp)
 have e2:aL ρ L I w N (.int .u64 b) v2:=hr 2 (by simp)
 cases e0; cases e1; cases e2
 obtain⟨X,rfl⟩:=Int.eq_ofNat_of_zero_le hx.1
 obtain⟨Y,rfl⟩:=Int.eq_ofNat_of_zero_le hy.1
 obtain⟨B,rfl⟩:=Int.eq_ofNat_of_zero_le hb.1
 refine⟨_,by rw[run_callFunc_extern hf r1 hbd r2 r3,show ([Value.int .u64 (X:Int),.int .u64 (Y:Int),.int .u64 (B:Int)].toArray)= #[Value.int .u64 (X:Int),.int .u64 (Y:Int),.int .u64 (B:Int)]from rfl,B0 X Y B (by omega)]; rfl,?_⟩
 have q1:((X:Int) - Y - B) % 18446744073709551616=(((X+18446744073709551616 - Y - B) % 18446744073709551616:Nat):Int):=by omega
 have q2:(if (X:Int)<Y+B then (1:Int)else 0)=((if X<Y+B then 1 else 0:Nat):Int):=by
  by_cases hc:X<Y+B
  ·rw[if_pos hc,if_pos (by omega)]; rfl
  ·rw[if_neg hc,if_neg (by omega)]; rfl
 rw[q1,q2]
 refine aL.aO _ _ rfl ?_
 intro j hj
 match j,hj with
 |0,_=>exact aL.int _ _
 |1,_=>exact aL.int _ _
end Go.UM
namespace Go.UM
open Go.AM
set_option maxRecDepth 4000
def za (v:Int):List AV:=[.int .i64 (kj v),.int .u64 (vq v)]
def WJ (s:Bool) (P:Int):Int:=bif s then -P else P
theorem EM {R:Env} (h:KI R) {n:Int} (hn:ej n):R.Pc 275 [.int .i64 n] (.aO [.int .u64 (bz n),.bool (decide (n<0))]):=
 h.KJ.enter 60 rfl fun X bb hfit hp=>by
  rw[b7]at hn
  refine sh ?_
  refine cS (fun h1=> ?_) (fun h1=> ?_)
  ·refine sh ?_
   refine bj ?_
   refine sh ?_
   refine bj ?_
   refine sh ?_
   refine rT ?_
   all_goals repeat' (first|exact True.intro|refine And.intro ?_ ?_|(intro _u; clear _u)|(with_reducible first|exact ai.fg|refine eM ?_ ?_|refine eF ?_ ?_ ?_|refine eN ?_|refine eL ?_ ?_ ?_|refine eA ?_ ?_|refine aj.mk ⟨_,hp,rfl⟩ ?_ ?_)|refine aj.mk ⟨_,hp,rfl⟩ ?_ ?_)
   all_goals try first|with_reducible rfl|omega|exact .inl (by decide)|(simp; done)|rfl
   all_goals first|(rw[gA,gA,bz,if_pos h1]; omega)|(simp; omega)
  ·refine sh ?_
   refine rT ?_
   all_goals repeat' (first|exact True.intro|refine And.intro ?_ ?_|(intro _u; clear _u)|(with_reducible first|exact ai.fg|refine eM ?_ ?_|refine eF ?_ ?_ ?_|refine eN ?_|refine eL ?_ ?_ ?_|refine eA ?_ ?_|refine aj.mk ⟨_,hp,rfl⟩ ?_ ?_)|refine aj.mk ⟨_,hp,rfl⟩ ?_ ?_)
   all_goals try first|with_reducible rfl|omega|exact .inl (by decide)|(simp; done)|rfl
   all_goals first|(rw[bz,if_neg (by omega)])|(simp; omega)
theorem HV {x y:Int} (hx:FY x) (hy:FY y):wr .u64 (wr .u64 (wr .u64 (eo .u64 x 32*eo .u64 y 32)+eo .u64 (wr .u64 (wr .u64 (eo .u64 x 32*dS .and .u64 y 4294967295)+eo .u64 (wr .u64 (dS .and .u64 x 4294967295*dS .and .u64 y 4294967295)) 32)) 32)+
  eo .u64 (wr .u64 (dS .and .u64 (wr .u64 (wr .u64 (eo .u64 x 32*dS .and .u64 y 4294967295)+eo .u64 (wr .u64 (dS .and .u64 x 4294967295*dS .and .u64 y 4294967295)) 32)) 4294967295+wr .u64 (dS .and .u64 x 4294967295*eo .u64 y 32))) 32)=kj (x*y):=by
 have k:=fun v=>ug (x:=v) .u64 (by decide)
 simp only[k,nC hx,nC hy]
 rw[nC (rD .u64 _)]
 obtain⟨p1,p2,p3,p4,e⟩:=HT hx hy
 rw[e]
 simp only[gA,kj]
 generalize x % 4294967296* (y % 4294967296)=A at*
 generalize x / 4294967296* (y % 4294967296)=B at*
 generalize x % 4294967296* (y / 4294967296)=C at*
 generalize x / 4294967296* (y / 4294967296)=D at*
 omega
theorem Ap {R:Env} (h:G4 R) {x y:Int} (hx:FY x) (hy:FY y):R.Pc 276 [.int .u64 x,.int .u64 y] (.aO [.int .u64 (kj (x*y)),.int .u64 (vq (x*y))]):=
 h.Kz.enter 60 rfl fun X bb hfit hp=>by
  refine sh ?_
  refine bj ?_
  refine sh ?_
  refine bj ?_
  refine sh ?_
  refine bj ?_
  refine sh ?_
  refine bj ?_
  refine sh ?_
  refine bj ?_
  refine sh ?_
  refine bj ?_
  refine sh ?_
  refine bj ?_
  refine sh ?_
  refine bj ?_
  refine sh ?_
  refine bj ?_
  refine sh ?_
  refine rT ?_
  all_goals repeat' (first|exact True.intro|refine And.intro ?_ ?_|(intro _u; clear _u)|(with_reducible first|exact ai.fg|refine eM ?_ ?_|refine eF ?_ ?_ ?_|refine eN ?_|refine eL ?_ ?_ ?_|refine eA ?_ ?_|refine aj.mk ⟨_,hp,rfl⟩ ?_ ?_)|refine aj.mk ⟨_,hp,rfl⟩ ?_ ?_)
  all_goals try first|with_reducible rfl|omega|exact .inl (by decide)|(simp; done)|rfl
  all_goals first|exact HV hx hy|(rw[gA]; rfl)
theorem EN {R:Env} (h:KK R) {P:Int} (hP:0≤P∧P≤85070591730234615865843651857942052864):R.Pc 283 [.int .u64 (kj P),.int .u64 (vq P)] (.aO [.int .u64 (kj (-P) % 18446744073709551616),.int .u64 (vq (-P))]):=
 h.PJ.enter 60 rfl fun X bb hfit hp=>by
  refine sh ?_
  refine qO.mk ⟨_,Ao h.n286.Pl (x:=0) (b:=0) ⟨by omega,by omega⟩ (oB P) ⟨by omega,by omega⟩,?_⟩
  refine sh ?_
  refine qO.mk ⟨_,Ao h.n286.Pl (x:=0) ⟨by omega,by omega⟩ (y:=kj P) ⟨by unfold kj; omega,by unfold kj; omega⟩ ⟨by split<;>omega,by split<;>omega⟩,?_⟩
  refine sh ?_
  refine rT ?_
  all_goals repeat' (first|exact True.intro|refine And.intro ?_ ?_|(intro _u; clear _u)|(with_reducible first|exact ai.fg|refine eM ?_ ?_|refine eF ?_ ?_ ?_|refine eN ?_|refine eL ?_ ?_ ?_|refine eA ?_ ?_|refine aj.mk ⟨_,hp,rfl⟩ ?_ ?_)|refine aj.mk ⟨_,hp,rfl⟩ ?_ ?_)
  all_goals try first|with_reducible rfl|omega|exact .inl (by decide)|(simp; done)|rfl
  all_goals first|(unfold vq; omega)|(unfold kj vq; split<;>omega)
theorem B4 {R:Env} (h:KM R) {P:Int} (hP:0≤P∧P≤85070591730234615865843651857942052864) (s:Bool):R.Pc 277 [.int .u64 (kj P),.int .u64 (vq P),.bool s] (.aO [.agg (za (WJ s P)),.bool true]):=
 h.PL.enter 60 rfl fun X bb hfit hp=>by
  have i1:=vr (v:=P) ⟨by omega,hP.2⟩
  have i2:=vr (v:= -P) ⟨by omega,by omega⟩
  cases s with
  |false=>
   have i3:0≤kj P:=by unfold kj; omega
   refine sh ?_
   refine ah (by (simp; omega)) ?_
   refine sh ?_
   exact rT
  |true=>
   refine sh ?_
   refine ae.pure h.n283.PJ.hb (EN h.n283 hP) rfl ?_
   refine sh ?_
   refine Ei (m:=kj (-P)) (by rw[dA]; omega) ?_
   by_cases h0:P=0
   ·subst h0
    refine sh ?_
    refine aq (by (simp[kj])) ?_
    refine sh ?_
    refine rT ?_
    all_goals repeat' (first|exact True.intro|refine And.intro ?_ ?_|(intro _u; clear _u)|(with_reducible first|exact ai.fg|refine eM ?_ ?_|refine eF ?_ ?_ ?_|refine eN ?_|refine eL ?_ ?_ ?_|refine eA ?_ ?_|refine aj.mk ⟨_,hp,rfl⟩ ?_ ?_)|refine aj.mk ⟨_,hp,rfl⟩ ?_ ?_)
    all_goals try first|with_reducible rfl|omega|exact .inl (by decide)|(simp; done)|rfl
    all_goals first|rfl|decide
   ·refine sh ?_
    refine ah (by (simp; unfold kj; omega)) ?_
    refine sh ?_
    exact rT
end Go.UM
namespace Go.UM
open Go.AM
set_option maxRecDepth 4000
theorem HW (a b:Int):WJ (decide (a<0) != decide (b<0)) (bz a*bz b)=a*b:=by
 rw[vp a b]; unfold WJ
 cases (decide (a<0) != decide (b<0))<;>simp
theorem rO {a b:Int} (ha:ej a) (hb:ej b):0≤bz a*bz b∧bz a*bz b≤85070591730234615865843651857942052864:=by
 have:=fU (ga ha) (ga hb)
 omega
theorem nG {a:Int} (ha:ej a):FY (bz a):=by have:=ga ha; rw[qb]; omega
theorem Jk {R:Env} (h:G7 R) {a b:Int} (ha:ej a) (hb:ej b):R.Pc 264 [.int .i64 a,.int .i64 b] (.agg (za (a*b))):=
 h.KN.enter 60 rfl fun X bb hfit hp=>by
  refine sh ?_
  refine ae.pure h.n275.KJ.hb (EM h.n275 ha) rfl ?_
  refine sh ?_
  refine ae.pure h.n275.KJ.hb (EM h.n275 hb) rfl ?_
  refine sh ?_
  refine ae.pure h.n276.Kz.hb (Ap h.n276 (nG ha) (nG hb)) rfl ?_
  have c:=B4 h.n277 (rO ha hb) (decide (a<0) != decide (b<0))
  rw[HW]at c
  refine sh ?_
  refine ae.pure h.n277.PL.hb c rfl ?_
  refine sh ?_
  exact rT
theorem SU {R:Env} (h:G8 R) {v:Int} (hv:ej v):R.Pc 274 [.agg (za v)] (.aO [.int .i64 v,.bool true]):=
 h.G9.enter 60 rfl fun X bb hfit hp=>by
  rw[b7]at hv
  have h2:=oB v
  refine sh ?_
  refine Ei (m:=v) (by rw[dA]; unfold vq; omega) ?_
  refine sh ?_
  refine aq (by (rw[Ji .i64 (by decide)]; simp; unfold kj; omega)) ?_
  refine sh ?_
  exact rT
theorem SV {R:Env} (h:G8 R) {v:Int} (hv:HS v) (hn:¬ej v):R.Pc 274 [.agg (za v)] (.aO [.int .i64 0,.bool false]):=
 h.G9.enter 60 rfl fun X bb hfit hp=>by
  have h1:=vr hv
  have h2:=oB v
  rw[b7]at hn
  refine sh ?_
  refine bj ?_
  refine sh ?_
  refine ah (by (rw[Ji .i64 (by decide),dA]; simp; unfold kj vq; omega)) ?_
  refine sh ?_
  exact rT
theorem EO {R:Env} (h:G' R) {v:Int} (hv:HS v):R.Pc 265 [.agg (za v)] (.int .i64 (iU v)):=
 h.KQ.enter 60 rfl fun X bb hfit hp=>by
  by_cases hi:ej v
  ·refine sh ?_
   refine ae.pure h.n274.G9.hb (SU h.n274 hi) rfl ?_
   refine sh ?_
   refine rT ?_
   all_goals repeat' (first|exact True.intro|refine And.intro ?_ ?_|(intro _u; clear _u)|(with_reducible first|exact ai.fg|refine eM ?_ ?_|refine eF ?_ ?_ ?_|refine eN ?_|refine eL ?_ ?_ ?_|refine eA ?_ ?_|refine aj.mk ⟨_,hp,rfl⟩ ?_ ?_)|refine aj.mk ⟨_,hp,rfl⟩ ?_ ?_)
   all_goals try first|with_reducible rfl|omega|exact .inl (by decide)|(simp; done)|rfl
   all_goals exact (vo hi).symm
  ·have hi2:=hi
   rw[b7]at hi2
   refine sh ?_
   refine ae.pure h.n274.G9.hb (SV h.n274 hv hi) rfl ?_
   refine sh ?_
   refine cS (fun h1=> ?_) (fun h1=> ?_)
   ·have h2:v<0:=by unfold kj at h1; omega
    refine sh ?_
    refine rT ?_
    all_goals repeat' (first|exact True.intro|refine And.intro ?_ ?_|(intro _u; clear _u)|(with_reducible first|exact ai.fg|refine eM ?_ ?_|refine eF ?_ ?_ ?_|refine eN ?_|refine eL ?_ ?_ ?_|refine eA ?_ ?_|refine aj.mk ⟨_,hp,rfl⟩ ?_ ?_)|refine aj.mk ⟨_,hp,rfl⟩ ?_ ?_)
    all_goals try first|with_reducible rfl|omega|exact .inl (by decide)|(simp; done)|rfl
    all_goals (unfold iU; rw[if_neg (by omega),if_pos (by omega)])
   ·have h2:0≤v:=by unfold kj at h1; omega
    refine sh ?_
    refine rT ?_
    all_goals repeat' (first|exact True.intro|refine And.intro ?_ ?_|(intro _u; clear _u)|(with_reducible first|exact ai.fg|refine eM ?_ ?_|refine eF ?_ ?_ ?_|refine eN ?_|refine eL ?_ ?_ ?_|refine eA ?_ ?_|refine aj.mk ⟨_,hp,rfl⟩ ?_ ?_)|refine aj.mk ⟨_,hp,rfl⟩ ?_ ?_)
    all_goals try first|with_reducible rfl|omega|exact .inl (by decide)|(simp; done)|rfl
    all_goals (unfold iU; rw[if_pos (by omega)])
theorem B5 {hi lo:Int} (hh:0≤hi∧hi≤4294967295) (hl:0≤lo∧lo≤4294967295):dS .or .u64 lo (hi*4294967296)=hi*4294967296+lo:=by
 rw[←xk hh hl,y7 ⟨by omega,by omega⟩ ⟨by omega,by omega⟩,y7 ⟨by omega,by omega⟩ ⟨by omega,by omega⟩,Nat.or_comm]
theorem SX {R:Env} (h:KO R) {v:Int} (hv:HS v):R.Pc 285 [.agg (za v),.int .i64 32] (.agg (za (v / 4294967296))):=
 h.PR.enter 60 rfl fun X bb hfit hp=>by
  have h1:=vr hv
  have h2:=oB v
  refine sh ?_
  refine aq (by decide) ?_
  refine sh ?_
  refine aq (by decide) ?_
  have e1:eo .i64 (kj v) (max 32 0)=kj (v / 4294967296):=by rw[show max (32:Int) 0=32 from rfl,ug .i64 (by decide)]; unfold kj; omega
  have e2:dS .or .u64 (eo .u64 (vq v) (max 32 0)) (nZ .u64 (wr .u64 (kj v)) (64 - max 32 0))=vq (v / 4294967296):=by
   rw[show max (32:Int) 0=32 from rfl,ug .u64 (by decide)]
   have e:nZ .u64 (wr .u64 (kj v)) (64 - 32)=(kj v % 4294967296)*4294967296:=by
    rw[show (64 - 32:Int)=32 from rfl,EH,gA]; omega
   rw[e,B5 (by omega) (by omega)]
   unfold kj vq; omega
  refine sh ?_
  refine bj ?_
  refine sh ?_
  refine rT ?_
  all_goals repeat' (first|exact True.intro|refine And.intro ?_ ?_|(intro _u; clear _u)|(with_reducible first|exact ai.fg|refine eM ?_ ?_|refine eF ?_ ?_ ?_|refine eN ?_|refine eL ?_ ?_ ?_|refine eA ?_ ?_|refine aj.mk ⟨_,hp,rfl⟩ ?_ ?_)|refine aj.mk ⟨_,hp,rfl⟩ ?_ ?_)
  all_goals try first|with_reducible rfl|omega|exact .inl (by decide)|(simp; done)|rfl
  all_goals first|exact e1|exact e2
def vt (s:Int) (l:List Int):Int:=l.foldl fT s
theorem EP {R:Env} (h:Ha R) (l:List Int) (hl:l.length≤1000) (hi:∀x ∈ l,ej x):R.Pc 267 [.aH 1 (bI .i64 l)] (.int .i64 (vt 0 l)):=
 h.KT.enter 100 rfl fun X bb hfit hp=>by
  refine sh ?_
  refine gk 100 (fun s:Nat × Int=>s.1≤l.length∧ej s.2∧vt 0 (l.take s.1)=s.2) (fun s=>⟨[(3,.int .i64 s.2),(7,.aH 1 (bI .i64 l)),(8,.int .i64 l.length),(9,.int .i64 s.1)],[],0⟩) (fun s=>l.length - s.1) ((0,0)) ?_ ?_
  ·exact⟨Nat.zero_le _,⟨by decide,by decide⟩,rfl⟩
  ·rintro⟨k,s⟩ ⟨h1,h2,h3⟩
   dsimp only at h1 h2 h3 ⊢
   refine sh ?_
   refine cS (fun h4=> ?_) (fun h4=> ?_)
   ·obtain⟨x,hx⟩:∃u_,l[k]? =some u_:=⟨_,List.getElem?_eq_getElem (by first|omega|(simp<;>omega))⟩
    refine sh ?_
    refine ab hx ?_
    have ix:=hi x (List.mem_of_getElem? hx)
    have Mx:vt 0 (l.take (k+1))=fT s x:=by rw[az hx,vt,List.foldl_append]; unfold vt at h3; rw[h3]; rfl
    rw[b7]at h2 ix
    refine sh ?_
    refine bj ?_
    refine sh ?_
    refine cS (fun a1=> ?_) (fun a1=> ?_)
    ·refine sh ?_
     refine cS (fun a2=> ?_) (fun a2=> ?_)
     ·refine sh ?_
      refine cS (fun a3=> ?_) (fun a3=> ?_)
      ·refine sh ?_
       refine nX ((k+1,fT s x)) ?_ ?_ ⟨_,hp,rfl⟩ ?_ ?_
       ·exact⟨by omega,ek s x,Mx⟩
       ·omega
       ·all_goals repeat' (first|exact True.intro|refine And.intro ?_ ?_|(intro _u; clear _u)|(with_reducible first|exact ai.fg|refine eM ?_ ?_|refine eF ?_ ?_ ?_|refine eN ?_|refine eL ?_ ?_ ?_|refine eA ?_ ?_|refine aj.mk ⟨_,hp,rfl⟩ ?_ ?_)|refine aj.mk ⟨_,hp,rfl⟩ ?_ ?_)
        all_goals try first|with_reducible rfl|omega|exact .inl (by decide)|(simp; done)|rfl
        all_goals (unfold fT iU; simp only[dA]at *; split<;>first|omega|(split<;>omega))
       ·all_goals repeat' (first|exact True.intro|refine And.intro ?_ ?_|(intro _u; clear _u)|(with_reducible first|exact ai.fg|refine eM ?_ ?_|refine eF ?_ ?_ ?_|refine eN ?_|refine eL ?_ ?_ ?_|refine eA ?_ ?_|refine aj.mk ⟨_,hp,rfl⟩ ?_ ?_)|refine aj.mk ⟨_,hp,rfl⟩ ?_ ?_)
        all_goals try first|with_reducible rfl|omega|exact .inl (by decide)|(simp; done)|rfl
      ·refine sh ?_
       refine aq (by (simp; omega)) ?_
       refine sh ?_
       refine nX ((k+1,fT s x)) ?_ ?_ ⟨_,hp,rfl⟩ ?_ ?_
       ·exact⟨by omega,ek s x,Mx⟩
       ·omega
       ·all_goals repeat' (first|exact True.intro|refine And.intro ?_ ?_|(intro _u; clear _u)|(with_reducible first|exact ai.fg|refine eM ?_ ?_|refine eF ?_ ?_ ?_|refine eN ?_|refine eL ?_ ?_ ?_|refine eA ?_ ?_|refine aj.mk ⟨_,hp,rfl⟩ ?_ ?_)|refine aj.mk ⟨_,hp,rfl⟩ ?_ ?_)
        all_goals try first|with_reducible rfl|omega|exact .inl (by decide)|(simp; done)|rfl
        all_goals (unfold fT iU; simp only[dA]at *; split<;>first|omega|(split<;>omega))
       ·all_goals repeat' (first|exact True.intro|refine And.intro ?_ ?_|(intro _u; clear _u)|(with_reducible first|exact ai.fg|refine eM ?_ ?_|refine eF ?_ ?_ ?_|refine eN ?_|refine eL ?_ ?_ ?_|refine eA ?_ ?_|refine aj.mk ⟨_,hp,rfl⟩ ?_ ?_)|refine aj.mk ⟨_,hp,rfl⟩ ?_ ?_)
        all_goals try first|with_reducible rfl|omega|exact .inl (by decide)|(simp; done)|rfl
     ·refine sh ?_
      refine aq (by (simp; omega)) ?_
      refine sh ?_
      refine nX ((k+1,fT s x)) ?_ ?_ ⟨_,hp,rfl⟩ ?_ ?_
      ·exact⟨by omega,ek s x,Mx⟩
      ·omega
      ·all_goals repeat' (first|exact True.intro|refine And.intro ?_ ?_|(intro _u; clear _u)|(with_reducible first|exact ai.fg|refine eM ?_ ?_|refine eF ?_ ?_ ?_|refine eN ?_|refine eL ?_ ?_ ?_|refine eA ?_ ?_|refine aj.mk ⟨_,hp,rfl⟩ ?_ ?_)|refine aj.mk ⟨_,hp,rfl⟩ ?_ ?_)
       all_goals try first|with_reducible rfl|omega|exact .inl (by decide)|(simp; done)|rfl
       all_goals (unfold fT iU; simp only[dA]at *; split<;>first|omega|(split<;>omega))
      ·all_goals repeat' (first|exact True.intro|refine And.intro ?_ ?_|(intro _u; clear _u)|(with_reducible first|exact ai.fg|refine eM ?_ ?_|refine eF ?_ ?_ ?_|refine eN ?_|refine eL ?_ ?_ ?_|refine eA ?_ ?_|refine aj.mk ⟨_,hp,rfl⟩ ?_ ?_)|refine aj.mk ⟨_,hp,rfl⟩ ?_ ?_)
       all_goals try first|with_reducible rfl|omega|exact .inl (by decide)|(simp; done)|rfl
    ·refine sh ?_
     refine cS (fun b1=> ?_) (fun b1=> ?_)
     ·refine sh ?_
      refine cS (fun b2=> ?_) (fun b2=> ?_)
      ·refine sh ?_
       refine cS (fun b3=> ?_) (fun b3=> ?_)
       ·refine sh ?_
        refine nX ((k+1,fT s x)) ?_ ?_ ⟨_,hp,rfl⟩ ?_ ?_
        ·exact⟨by omega,ek s x,Mx⟩
        ·omega
        ·all_goals repeat' (first|exact True.intro|refine And.intro ?_ ?_|(intro _u; clear _u)|(with_reducible first|exact ai.fg|refine eM ?_ ?_|refine eF ?_ ?_ ?_|refine eN ?_|refine eL ?_ ?_ ?_|refine eA ?_ ?_|refine aj.mk ⟨_,hp,rfl⟩ ?_ ?_)|refine aj.mk ⟨_,hp,rfl⟩ ?_ ?_)
         all_goals try first|with_reducible rfl|omega|exact .inl (by decide)|(simp; done)|rfl
         all_goals (unfold fT iU; simp only[dA]at *; split<;>first|omega|(split<;>omega))
        ·all_goals repeat' (first|exact True.intro|refine And.intro ?_ ?_|(intro _u; clear _u)|(with_reducible first|exact ai.fg|refine eM ?_ ?_|refine eF ?_ ?_ ?_|refine eN ?_|refine eL ?_ ?_ ?_|refine eA ?_ ?_|refine aj.mk ⟨_,hp,rfl⟩ ?_ ?_)|refine aj.mk ⟨_,hp,rfl⟩ ?_ ?_)
         all_goals try first|with_reducible rfl|omega|exact .inl (by decide)|(simp; done)|rfl
       ·refine sh ?_
        refine nX ((k+1,fT s x)) ?_ ?_ ⟨_,hp,rfl⟩ ?_ ?_
        ·exact⟨by omega,ek s x,Mx⟩
        ·omega
        ·all_goals repeat' (first|exact True.intro|refine And.intro ?_ ?_|(intro _u; clear _u)|(with_reducible first|exact ai.fg|refine eM ?_ ?_|refine eF ?_ ?_ ?_|refine eN ?_|refine eL ?_ ?_ ?_|refine eA ?_ ?_|refine aj.mk ⟨_,hp,rfl⟩ ?_ ?_)|refine aj.mk ⟨_,hp,rfl⟩ ?_ ?_)
         all_goals try first|with_reducible rfl|omega|exact .inl (by decide)|(simp; done)|rfl
         all_goals (unfold fT iU; simp only[dA]at *; split<;>first|omega|(split<;>omega))
        ·all_goals repeat' (first|exact True.intro|refine And.intro ?_ ?_|(intro _u; clear _u)|(with_reducible first|exact ai.fg|refine eM ?_ ?_|refine eF ?_ ?_ ?_|refine eN ?_|refine eL ?_ ?_ ?_|refine eA ?_ ?_|refine aj.mk ⟨_,hp,rfl⟩ ?_ ?_)|refine aj.mk ⟨_,hp,rfl⟩ ?_ ?_)
         all_goals try first|with_reducible rfl|omega|exact .inl (by decide)|(simp; done)|rfl
      ·refine sh ?_
       refine nX ((k+1,fT s x)) ?_ ?_ ⟨_,hp,rfl⟩ ?_ ?_
       ·exact⟨by omega,ek s x,Mx⟩
       ·omega
       ·all_goals repeat' (first|exact True.intro|refine And.intro ?_ ?_|(intro _u; clear _u)|(with_reducible first|exact ai.fg|refine eM ?_ ?_|refine eF ?_ ?_ ?_|refine eN ?_|refine eL ?_ ?_ ?_|refine eA ?_ ?_|refine aj.mk ⟨_,hp,rfl⟩ ?_ ?_)|refine aj.mk ⟨_,hp,rfl⟩ ?_ ?_)
        all_goals try first|with_reducible rfl|omega|exact .inl (by decide)|(simp; done)|rfl
        all_goals (unfold fT iU; simp only[dA]at *; split<;>first|omega|(split<;>omega))
       ·all_goals repeat' (first|exact True.intro|refine And.intro ?_ ?_|(intro _u; clear _u)|(with_reducible first|exact ai.fg|refine eM ?_ ?_|refine eF ?_ ?_ ?_|refine eN ?_|refine eL ?_ ?_ ?_|refine eA ?_ ?_|refine aj.mk ⟨_,hp,rfl⟩ ?_ ?_)|refine aj.mk ⟨_,hp,rfl⟩ ?_ ?_)
        all_goals try first|with_reducible rfl|omega|exact .inl (by decide)|(simp; done)|rfl
     ·refine sh ?_
      refine nX ((k+1,fT s x)) ?_ ?_ ⟨_,hp,rfl⟩ ?_ ?_
      ·exact⟨by omega,ek s x,Mx⟩
      ·omega
      ·all_goals repeat' (first|exact True.intro|refine And.intro ?_ ?_|(intro _u; clear _u)|(with_reducible first|exact ai.fg|refine eM ?_ ?_|refine eF ?_ ?_ ?_|refine eN ?_|refine eL ?_ ?_ ?_|refine eA ?_ ?_|refine aj.mk ⟨_,hp,rfl⟩ ?_ ?_)|refine aj.mk ⟨_,hp,rfl⟩ ?_ ?_)
       all_goals try first|with_reducible rfl|omega|exact .inl (by decide)|(simp; done)|rfl
       all_goals (unfold fT iU; simp only[dA]at *; split<;>first|omega|(split<;>omega))
      ·all_goals repeat' (first|exact True.intro|refine And.intro ?_ ?_|(intro _u; clear _u)|(with_reducible first|exact ai.fg|refine eM ?_ ?_|refine eF ?_ ?_ ?_|refine eN ?_|refine eL ?_ ?_ ?_|refine eA ?_ ?_|refine aj.mk ⟨_,hp,rfl⟩ ?_ ?_)|refine aj.mk ⟨_,hp,rfl⟩ ?_ ?_)
       all_goals try first|with_reducible rfl|omega|exact .inl (by decide)|(simp; done)|rfl
   ·rw[List.take_of_length_le (by omega)]at h3
    refine sh ?_
    refine rT ?_
    all_goals repeat' (first|exact True.intro|refine And.intro ?_ ?_|(intro _u; clear _u)|(with_reducible first|exact ai.fg|refine eM ?_ ?_|refine eF ?_ ?_ ?_|refine eN ?_|refine eL ?_ ?_ ?_|refine eA ?_ ?_|refine aj.mk ⟨_,hp,rfl⟩ ?_ ?_)|refine aj.mk ⟨_,hp,rfl⟩ ?_ ?_)
    all_goals try first|with_reducible rfl|omega|exact .inl (by decide)|(simp; done)|rfl
    all_goals exact h3.symm
theorem My {R:Env} (h:KR R) {a b:Int} (ha:ej a) (hb:ej b):R.Pc 284 [.aH 1 (bI .i64 [a,b])] (.int .i64 (nB a b)):=
 h.PW.enter 100 rfl fun X bb hfit hp=>by
  have hP:=Aj ha hb
  refine sh ?_
  refine au.one 100 ?_
  refine sh ?_
  refine ah (by simp) ?_
  refine sh ?_
  refine ab (show ([a,b]:List Int)[0]? =some a from rfl) ?_
  refine sh ?_
  refine ah (by decide) ?_
  refine sh ?_
  refine au.one 100 ?_
  refine sh ?_
  refine ah (by simp) ?_
  refine sh ?_
  refine ab (show ([a,b]:List Int)[1]? =some b from rfl) ?_
  refine sh ?_
  refine aq (by decide) ?_
  refine sh ?_
  refine ae.pure h.n264.KN.hb (Jk h.n264 ha hb) rfl ?_
  refine sh ?_
  refine ae.pure h.n285.PR.hb (SX h.n285 hP) rfl ?_
  refine sh ?_
  refine ae.pure h.n265.KQ.hb (EO h.n265 (v:=a*b / 4294967296) (by omega)) rfl ?_
  refine sh ?_
  refine au.one 100 ?_
  refine sh ?_
  refine aq (by simp) ?_
  refine sh ?_
  exact rT
def vu (a b:Int):Int:=iU (a - b)
theorem MA {R:Env} (h:KU R) {a b:Int} (ha:ej a) (hb:ej b):R.Pc 281 [.int .i64 a,.int .i64 b] (.int .i64 (vu a b)):=
 h.PZ.enter 100 rfl fun X bb hfit hp=>by
  rw[b7]at ha hb
  refine sh ?_
  refine bj ?_
  refine sh ?_
  refine cS (fun a1=> ?_) (fun a1=> ?_)
  ·refine sh ?_
   refine cS (fun a2=> ?_) (fun a2=> ?_)
   ·refine sh ?_
    refine cS (fun a3=> ?_) (fun a3=> ?_)
    ·refine sh ?_
     refine rT ?_
     all_goals repeat' (first|exact True.intro|refine And.intro ?_ ?_|(intro _u; clear _u)|(with_reducible first|exact ai.fg|refine eM ?_ ?_|refine eF ?_ ?_ ?_|refine eN ?_|refine eL ?_ ?_ ?_|refine eA ?_ ?_|refine aj.mk ⟨_,hp,rfl⟩ ?_ ?_)|refine aj.mk ⟨_,hp,rfl⟩ ?_ ?_)
     all_goals try first|with_reducible rfl|omega|exact .inl (by decide)|(simp; done)|rfl
     all_goals (unfold vu iU; simp only[dA]at *; split<;>first|omega|(split<;>omega))
    ·refine sh ?_
     refine aq (by (simp; omega)) ?_
     refine sh ?_
     refine rT ?_
     all_goals repeat' (first|exact True.intro|refine And.intro ?_ ?_|(intro _u; clear _u)|(with_reducible first|exact ai.fg|refine eM ?_ ?_|refine eF ?_ ?_ ?_|refine eN ?_|refine eL ?_ ?_ ?_|refine eA ?_ ?_|refine aj.mk ⟨_,hp,rfl⟩ ?_ ?_)|refine aj.mk ⟨_,hp,rfl⟩ ?_ ?_)
     all_goals try first|with_reducible rfl|omega|exact .inl (by decide)|(simp; done)|rfl
     all_goals (unfold vu iU; simp only[dA]at *; split<;>first|omega|(split<;>omega))
   ·refine sh ?_
    refine aq (by (simp; omega)) ?_
    refine sh ?_
    refine rT ?_
    all_goals repeat' (first|exact True.intro|refine And.intro ?_ ?_|(intro _u; clear _u)|(with_reducible first|exact ai.fg|refine eM ?_ ?_|refine eF ?_ ?_ ?_|refine eN ?_|refine eL ?_ ?_ ?_|refine eA ?_ ?_|refine aj.mk ⟨_,hp,rfl⟩ ?_ ?_)|refine aj.mk ⟨_,hp,rfl⟩ ?_ ?_)
    all_goals try first|with_reducible rfl|omega|exact .inl (by decide)|(simp; done)|rfl
    all_goals (unfold vu iU; simp only[dA]at *; split<;>first|omega|(split<;>omega))
  ·refine sh ?_
   refine cS (fun b1=> ?_) (fun b1=> ?_)
   ·refine sh ?_
    refine cS (fun b2=> ?_) (fun b2=> ?_)
    ·refine sh ?_
     refine cS (fun b3=> ?_) (fun b3=> ?_)
     ·refine sh ?_
      refine rT ?_
      all_goals repeat' (first|exact True.intro|refine And.intro ?_ ?_|(intro _u; clear _u)|(with_reducible first|exact ai.fg|refine eM ?_ ?_|refine eF ?_ ?_ ?_|refine eN ?_|refine eL ?_ ?_ ?_|refine eA ?_ ?_|refine aj.mk ⟨_,hp,rfl⟩ ?_ ?_)|refine aj.mk ⟨_,hp,rfl⟩ ?_ ?_)
      all_goals try first|with_reducible rfl|omega|exact .inl (by decide)|(simp; done)|rfl
      all_goals (unfold vu iU; simp only[dA]at *; split<;>first|omega|(split<;>omega))
     ·refine sh ?_
      refine rT ?_
      all_goals repeat' (first|exact True.intro|refine And.intro ?_ ?_|(intro _u; clear _u)|(with_reducible first|exact ai.fg|refine eM ?_ ?_|refine eF ?_ ?_ ?_|refine eN ?_|refine eL ?_ ?_ ?_|refine eA ?_ ?_|refine aj.mk ⟨_,hp,rfl⟩ ?_ ?_)|refine aj.mk ⟨_,hp,rfl⟩ ?_ ?_)
      all_goals try first|with_reducible rfl|omega|exact .inl (by decide)|(simp; done)|rfl
      all_goals (unfold vu iU; simp only[dA]at *; split<;>first|omega|(split<;>omega))
    ·refine sh ?_
     refine rT ?_
     all_goals repeat' (first|exact True.intro|refine And.intro ?_ ?_|(intro _u; clear _u)|(with_reducible first|exact ai.fg|refine eM ?_ ?_|refine eF ?_ ?_ ?_|refine eN ?_|refine eL ?_ ?_ ?_|refine eA ?_ ?_|refine aj.mk ⟨_,hp,rfl⟩ ?_ ?_)|refine aj.mk ⟨_,hp,rfl⟩ ?_ ?_)
     all_goals try first|with_reducible rfl|omega|exact .inl (by decide)|(simp; done)|rfl
     all_goals (unfold vu iU; simp only[dA]at *; split<;>first|omega|(split<;>omega))
   ·refine sh ?_
    refine rT ?_
    all_goals repeat' (first|exact True.intro|refine And.intro ?_ ?_|(intro _u; clear _u)|(with_reducible first|exact ai.fg|refine eM ?_ ?_|refine eF ?_ ?_ ?_|refine eN ?_|refine eL ?_ ?_ ?_|refine eA ?_ ?_|refine aj.mk ⟨_,hp,rfl⟩ ?_ ?_)|refine aj.mk ⟨_,hp,rfl⟩ ?_ ?_)
    all_goals try first|with_reducible rfl|omega|exact .inl (by decide)|(simp; done)|rfl
    all_goals (unfold vu iU; simp only[dA]at *; split<;>first|omega|(split<;>omega))
theorem MB {R:Env} (h:KV R) {a:Int} (ha:ej a):R.Pc 270 [.int .i64 a] (.int .i64 (iU (-a))):=
 h.P1.enter 100 rfl fun X bb hfit hp=>by
  refine sh ?_
  refine ae.pure h.n281.PZ.hb (MA h.n281 (a:=0) ⟨by decide,by decide⟩ ha) rfl ?_
  refine sh ?_
  refine rT ?_
  all_goals repeat' (first|exact True.intro|refine And.intro ?_ ?_|(intro _u; clear _u)|(with_reducible first|exact ai.fg|refine eM ?_ ?_|refine eF ?_ ?_ ?_|refine eN ?_|refine eL ?_ ?_ ?_|refine eA ?_ ?_|refine aj.mk ⟨_,hp,rfl⟩ ?_ ?_)|refine aj.mk ⟨_,hp,rfl⟩ ?_ ?_)
  all_goals try first|with_reducible rfl|omega|exact .inl (by decide)|(simp; done)|rfl
  all_goals (unfold vu; rw[Int.zero_sub])
theorem gB {R:Env} (h:Hb R) {a:Int} (ha:ej a):R.Pc 255 [.int .i64 a] (.int .i64 (l4 a)):=
 h.oA.enter 100 rfl fun X bb hfit hp=>by
  refine sh ?_
  refine ae.pure h.n270.P1.hb (MB h.n270 ha) rfl ?_
  rw[b7]at ha
  refine sh ?_
  refine rT ?_
  all_goals repeat' (first|exact True.intro|refine And.intro ?_ ?_|(intro _u; clear _u)|(with_reducible first|exact ai.fg|refine eM ?_ ?_|refine eF ?_ ?_ ?_|refine eN ?_|refine eL ?_ ?_ ?_|refine eA ?_ ?_|refine aj.mk ⟨_,hp,rfl⟩ ?_ ?_)|refine aj.mk ⟨_,hp,rfl⟩ ?_ ?_)
  all_goals try first|with_reducible rfl|omega|exact .inl (by decide)|(simp; done)|rfl
  all_goals (unfold l4 iU; split<;>split<;>first|omega|(split<;>omega))
theorem EQ {R:Env} (h:KX R) {n:Int} (hn:ej n):R.Pc 248 [.int .i64 n] (.int .i64 (iU (n*4294967296))):=
 h.Hd.enter 100 rfl fun X bb hfit hp=>by
  have h1:ej 4294967296:=⟨by decide,by decide⟩
  refine sh ?_
  refine ae.pure h.n264.KN.hb (Jk h.n264 hn h1) rfl ?_
  refine sh ?_
  refine ae.pure h.n265.KQ.hb (EO h.n265 (Aj hn h1)) rfl ?_
  refine sh ?_
  exact rT
theorem HX {x:Int} (h:ej x):dS .and .i64 x 1=x % 2:=by
 show wr .i64 (((BitVec.ofInt 64 x&&& BitVec.ofInt 64 1:BitVec 64).toNat:Nat):Int)=_
 rw[b7]at h
 have e:(BitVec.ofInt 64 x&&& BitVec.ofInt 64 1:BitVec 64).toNat=(x % 2).toNat:=by
  rw[BitVec.toNat_and,BitVec.toNat_ofInt,BitVec.toNat_ofInt]
  have:((1:Int) % ((2 ^ 64:Nat):Int)).toNat=2 ^ 1 - 1:=rfl
  rw[this,Nat.and_two_pow_sub_one_eq_mod]
  omega
 rw[e,dA]; omega
theorem rP {R:Env} (h:KW R) {x:Int} (hx:ej x):R.Pc 260 [.int .i64 x] (.int .i64 (dX x)):=
 h.Hc.enter 100 rfl fun X bb hfit hp=>by
  have hx2:=hx
  rw[b7]at hx2
  have e1:dS .and .i64 (eo .i64 x 31) 1=x / 2147483648 % 2:=by
   rw[SO .i64 (by decide),HX (by rw[b7]; omega)]
  refine sh ?_
  rw[e1,ug .i64 (by decide)]
  refine vj (by simp only[hJ]; omega) ?_
  refine sh ?_
  refine rT ?_
  all_goals repeat' (first|exact True.intro|refine And.intro ?_ ?_|(intro _u; clear _u)|(with_reducible first|exact ai.fg|refine eM ?_ ?_|refine eF ?_ ?_ ?_|refine eN ?_|refine eL ?_ ?_ ?_|refine eA ?_ ?_|refine aj.mk ⟨_,hp,rfl⟩ ?_ ?_)|refine aj.mk ⟨_,hp,rfl⟩ ?_ ?_)
  all_goals try first|with_reducible rfl|omega|exact .inl (by decide)|(simp; done)|rfl
  all_goals (unfold dX; omega)
end Go.UM
namespace Go.UM
open Go.AM
set_option maxRecDepth 4000
theorem zb {R:Env} (h:Hi R) {a b:Int} (ha:ej a) (hb:ej b):R.Pc 263 [.int .i64 a,.int .i64 b] (.int .i64 (fT a b)):=
 h.Hj.enter 60 rfl fun X bb hfit hp=>by
  have c:=EP h.n267 [a,b] (by simp) (by intro x hx; simp at hx; rcases hx with rfl|rfl<;>assumption)
  rw[show vt 0 [a,b]=fT a b by unfold vt; simp[uh ha]]at c
  refine sh ?_
  refine ae.GO rfl h.n267.KT.hb c ?_ rfl ?_
  ·all_goals repeat' (first|exact True.intro|refine And.intro ?_ ?_|(intro _u; clear _u)|(with_reducible first|exact ai.fg|refine eM ?_ ?_|refine eF ?_ ?_ ?_|refine eN ?_|refine eL ?_ ?_ ?_|refine eA ?_ ?_|refine aj.mk ⟨_,hp,rfl⟩ ?_ ?_)|refine aj.mk ⟨_,hp,rfl⟩ ?_ ?_)
   all_goals try first|with_reducible rfl|omega|exact .inl (by decide)|(simp; done)|rfl
  refine sh ?_
  exact rT
theorem zc {R:Env} (h:Hf R) {a b:Int} (ha:ej a) (hb:ej b):R.Pc 278 [.int .i64 a,.int .i64 b] (.int .i64 (nB a b)):=
 h.Hg.enter 60 rfl fun X bb hfit hp=>by
  refine sh ?_
  refine ae.GO rfl h.n284.PW.hb (My h.n284 ha hb) ?_ rfl ?_
  ·all_goals repeat' (first|exact True.intro|refine And.intro ?_ ?_|(intro _u; clear _u)|(with_reducible first|exact ai.fg|refine eM ?_ ?_|refine eF ?_ ?_ ?_|refine eN ?_|refine eL ?_ ?_ ?_|refine eA ?_ ?_|refine aj.mk ⟨_,hp,rfl⟩ ?_ ?_)|refine aj.mk ⟨_,hp,rfl⟩ ?_ ?_)
   all_goals try first|with_reducible rfl|omega|exact .inl (by decide)|(simp; done)|rfl
  refine sh ?_
  exact rT
theorem ER {R:Env} (h:Eu R) (hf:Hi R) {a b:T3} (ha:a.I) (hb:b.I):R.Pc 262 [.agg (t3 a),.agg (t3 b),.bL (.fn (R.ft 263)) []] (.agg (t3 (sX a b))):=
 h.He.enter 60 rfl fun X bb hfit hp=>by
  refine sh ?_
  refine ae.pure hf.Hj.hb (zb hf ha.1 hb.1) rfl ?_
  refine sh ?_
  refine ae.pure hf.Hj.hb (zb hf ha.2.1 hb.2.1) rfl ?_
  refine sh ?_
  refine ae.pure hf.Hj.hb (zb hf ha.2.2 hb.2.2) rfl ?_
  refine sh ?_
  exact rT
theorem ES {R:Env} (h:Eu R) (hf:Hf R) {a b:T3} (ha:a.I) (hb:b.I):R.Pc 262 [.agg (t3 a),.agg (t3 b),.bL (.fn (R.ft 278)) []] (.agg (t3 (sY a b))):=
 h.He.enter 60 rfl fun X bb hfit hp=>by
  refine sh ?_
  refine ae.pure hf.Hg.hb (zc hf ha.1 hb.1) rfl ?_
  refine sh ?_
  refine ae.pure hf.Hg.hb (zc hf ha.2.1 hb.2.1) rfl ?_
  refine sh ?_
  refine ae.pure hf.Hg.hb (zc hf ha.2.2 hb.2.2) rfl ?_
  refine sh ?_
  exact rT
theorem MD {R:Env} (h:K0 R) (l:List T3) (hl:l.length≤1000) (hi:∀x ∈ l,x.I):R.Pc 246 [.aH 3 (bD l)] (.agg (t3 (l.foldl sX z3))):=
 h.Qc.enter 100 rfl fun X bb hfit hp=>by
  refine sh ?_
  refine gk 100 (fun s:Nat × T3=>s.1≤l.length∧s.2.I∧(l.take s.1).foldl sX z3=s.2) (fun s=>⟨[(2,.loc 0 1 0 0),(3,.loc 1 1 0 0),(6,.aH 3 (bD l)),(7,.int .i64 l.length),(8,.int .i64 s.1)],[(1,.var (R.ty 31) (t3 s.2)),(0,.var (R.ty 31) [.int .i64 0,.int .i64 0,.int .i64 0])],2⟩) (fun s=>l.length - s.1) ((0,z3)) ?_ ?_
  ·exact⟨Nat.zero_le _,SR,rfl⟩
  ·rintro⟨k,s⟩ ⟨h1,h2,h3⟩
   dsimp only at h1 h2 h3 ⊢
   refine sh ?_
   refine cS (fun h4=> ?_) (fun h4=> ?_)
   ·obtain⟨x,hx⟩:∃u_,l[k]? =some u_:=⟨_,List.getElem?_eq_getElem (by first|omega|(simp<;>omega))⟩
    refine sh ?_
    refine ab hx ?_
    have ix:=hi x (List.mem_of_getElem? hx)
    refine sh ?_
    refine ae.pure h.n262.He.hb (ER h.n262 h.n263 h2 ix) rfl ?_
    refine sh ?_
    refine kq ((k+1,sX s x)) ?_ ?_
    ·exact⟨by omega,Al s x,by rw[az hx,List.foldl_append,h3]; rfl⟩
    ·omega
   ·rw[List.take_of_length_le (by omega)]at h3
    rw[h3]
    refine sh ?_
    exact rT
theorem ET {R:Env} (h:KY R) (l:List T3) (hl:l.length≤1000) (hi:∀x ∈ l,x.I):R.Pc 266 [.aH 3 (bD l)] (.agg (t3 (l.foldl sY y8))):=
 h.P9.enter 100 rfl fun X bb hfit hp=>by
  refine sh ?_
  refine gk 100 (fun s:Nat × T3=>s.1≤l.length∧s.2.I∧(l.take s.1).foldl sY y8=s.2) (fun s=>⟨[(2,.loc 0 1 0 0),(3,.loc 1 1 0 0),(7,.aH 3 (bD l)),(8,.int .i64 l.length),(9,.int .i64 s.1)],[(1,.var (R.ty 31) (t3 s.2)),(0,.var (R.ty 31) [.int .i64 0,.int .i64 0,.int .i64 0])],2⟩) (fun s=>l.length - s.1) ((0,y8)) ?_ ?_
  ·exact⟨Nat.zero_le _,HU,rfl⟩
  ·rintro⟨k,s⟩ ⟨h1,h2,h3⟩
   dsimp only at h1 h2 h3 ⊢
   refine sh ?_
   refine cS (fun h4=> ?_) (fun h4=> ?_)
   ·obtain⟨x,hx⟩:∃u_,l[k]? =some u_:=⟨_,List.getElem?_eq_getElem (by first|omega|(simp<;>omega))⟩
    refine sh ?_
    refine ab hx ?_
    have ix:=hi x (List.mem_of_getElem? hx)
    refine sh ?_
    refine ae.pure h.n262.He.hb (ES h.n262 h.n278 h2 ix) rfl ?_
    refine sh ?_
    refine kq ((k+1,sY s x)) ?_ ?_
    ·exact⟨by omega,Am s x,by rw[az hx,List.foldl_append,h3]; rfl⟩
    ·omega
   ·rw[List.take_of_length_le (by omega)]at h3
    rw[h3]
    refine sh ?_
    exact rT
theorem EU {R:Env} (h:KZ R) {a b:T3} (ha:a.I) (hb:b.I):R.Pc 252 [.agg (t3 a),.agg (t3 b)] (.int .i64 (Jj a b)):=
 h.Hh.enter 100 rfl fun X bb hfit hp=>by
  have c1:=ET h.n266 [a,b] (by simp) (by intro x hx; simp at hx; rcases hx with rfl|rfl<;>assumption)
  rw[show [a,b].foldl sY y8=sY a b by simp[SQ ha]]at c1
  refine sh ?_
  refine ae.GO rfl h.n266.P9.hb c1 ?_ rfl ?_
  ·all_goals repeat' (first|exact True.intro|refine And.intro ?_ ?_|(intro _u; clear _u)|(with_reducible first|exact ai.fg|refine eM ?_ ?_|refine eF ?_ ?_ ?_|refine eN ?_|refine eL ?_ ?_ ?_|refine eA ?_ ?_|refine aj.mk ⟨_,hp,rfl⟩ ?_ ?_)|refine aj.mk ⟨_,hp,rfl⟩ ?_ ?_)
   all_goals try first|with_reducible rfl|omega|exact .inl (by decide)|(simp; done)|rfl
  have i1:=Am a b
  generalize hv:sY a b=v at*
  have c2:=EP h.n267 [v.a,v.b,v.c] (by simp) (by intro x hx; simp at hx; rcases hx with rfl|rfl|rfl; exact i1.1; exact i1.2.1; exact i1.2.2)
  rw[show vt 0 [v.a,v.b,v.c]=Jj a b by unfold vt Jj; simp only[List.foldl_cons,List.foldl_nil]; rw[uh i1.1,←hv]; rfl]at c2
  refine sh ?_
  refine ae.GO rfl h.n267.KT.hb c2 ?_ rfl ?_
  ·all_goals repeat' (first|exact True.intro|refine And.intro ?_ ?_|(intro _u; clear _u)|(with_reducible first|exact ai.fg|refine eM ?_ ?_|refine eF ?_ ?_ ?_|refine eN ?_|refine eL ?_ ?_ ?_|refine eA ?_ ?_|refine aj.mk ⟨_,hp,rfl⟩ ?_ ?_)|refine aj.mk ⟨_,hp,rfl⟩ ?_ ?_)
   all_goals try first|with_reducible rfl|omega|exact .inl (by decide)|(simp; done)|rfl
  refine sh ?_
  exact rT
theorem ME {R:Env} (h:K2 R) {p:T3} (pV:p.I):R.Pc 249 [.agg (t3 p)] (.agg (t3 (NH p))):=
 h.Qg.enter 100 rfl fun X bb hfit hp=>by
  refine sh ?_
  refine ae.pure h.n248.Hd.hb (EQ h.n248 pV.1) rfl ?_
  refine sh ?_
  refine ae.pure h.n248.Hd.hb (EQ h.n248 pV.2.1) rfl ?_
  refine sh ?_
  refine ae.pure h.n248.Hd.hb (EQ h.n248 pV.2.2) rfl ?_
  refine sh ?_
  exact rT
theorem HY {R:Env} (h:K1 R) {p:T3} (pV:p.I):R.Pc 256 [.agg (t3 p)] (.int .i64 (Ak p)):=
 h.Qe.enter 100 rfl fun X bb hfit hp=>by
  refine sh ?_
  refine ae.pure h.n255.oA.hb (gB h.n255 pV.1) rfl ?_
  refine sh ?_
  refine ae.pure h.n255.oA.hb (gB h.n255 pV.2.1) rfl ?_
  refine sh ?_
  refine ae.pure h.n255.oA.hb (gB h.n255 pV.2.2) rfl ?_
  refine sh ?_
  exact rT
theorem iW {R:Env} (h:y4 R) {x:Int} (hx:ej x):R.Pc 279 [.int .i64 x] (.int .u64 (bz x)):=
 h.vn.enter 100 rfl fun X bb hfit hp=>by
  rw[b7]at hx
  unfold bz
  refine sh ?_
  refine cS (fun h1=> ?_) (fun h1=> ?_)
  ·refine sh ?_
   refine rT ?_
   all_goals repeat' (first|exact True.intro|refine And.intro ?_ ?_|(intro _u; clear _u)|(with_reducible first|exact ai.fg|refine eM ?_ ?_|refine eF ?_ ?_ ?_|refine eN ?_|refine eL ?_ ?_ ?_|refine eA ?_ ?_|refine aj.mk ⟨_,hp,rfl⟩ ?_ ?_)|refine aj.mk ⟨_,hp,rfl⟩ ?_ ?_)
   all_goals try first|with_reducible rfl|omega|exact .inl (by decide)|(simp; done)|rfl
   all_goals omega
  ·refine sh ?_
   refine rT ?_
   all_goals repeat' (first|exact True.intro|refine And.intro ?_ ?_|(intro _u; clear _u)|(with_reducible first|exact ai.fg|refine eM ?_ ?_|refine eF ?_ ?_ ?_|refine eN ?_|refine eL ?_ ?_ ?_|refine eA ?_ ?_|refine aj.mk ⟨_,hp,rfl⟩ ?_ ?_)|refine aj.mk ⟨_,hp,rfl⟩ ?_ ?_)
   all_goals try first|with_reducible rfl|omega|exact .inl (by decide)|(simp; done)|rfl
   all_goals omega
def kn (s:Int) (below gu:Bool):Int:=if below=true then (if gu=true∨9223372036854775808≤s then -9223372036854775808 else -s)else (if gu=true∨9223372036854775808≤s then 9223372036854775807 else s)
theorem ir {R:Env} (h:BU R) {s:Int} (hs:FY s) (below gu:Bool):R.Pc 280 [.int .u64 s,.bool below,.bool gu] (.int .i64 (kn s below gu)):=
 h.xc.enter 100 rfl fun X bb hfit hp=>by
  rw[qb]at hs
  unfold kn
  cases below with
  |true=>
   cases gu with
   |true=>
    refine sh ?_
    exact rT
   |false=>
    refine sh ?_
    refine cS (fun h1=> ?_) (fun h1=> ?_)
    ·refine sh ?_
     refine rT ?_
     all_goals repeat' (first|exact True.intro|refine And.intro ?_ ?_|(intro _u; clear _u)|(with_reducible first|exact ai.fg|refine eM ?_ ?_|refine eF ?_ ?_ ?_|refine eN ?_|refine eL ?_ ?_ ?_|refine eA ?_ ?_|refine aj.mk ⟨_,hp,rfl⟩ ?_ ?_)|refine aj.mk ⟨_,hp,rfl⟩ ?_ ?_)
     all_goals try first|with_reducible rfl|omega|exact .inl (by decide)|(simp; done)|rfl
     all_goals (simp; omega)
    ·refine sh ?_
     refine rT ?_
     all_goals repeat' (first|exact True.intro|refine And.intro ?_ ?_|(intro _u; clear _u)|(with_reducible first|exact ai.fg|refine eM ?_ ?_|refine eF ?_ ?_ ?_|refine eN ?_|refine eL ?_ ?_ ?_|refine eA ?_ ?_|refine aj.mk ⟨_,hp,rfl⟩ ?_ ?_)|refine aj.mk ⟨_,hp,rfl⟩ ?_ ?_)
     all_goals try first|with_reducible rfl|omega|exact .inl (by decide)|(simp; done)|rfl
     all_goals (simp; omega)
  |false=>
   cases gu with
   |true=>
    refine sh ?_
    exact rT
   |false=>
    refine sh ?_
    refine cS (fun h1=> ?_) (fun h1=> ?_)
    ·refine sh ?_
     refine rT ?_
     all_goals repeat' (first|exact True.intro|refine And.intro ?_ ?_|(intro _u; clear _u)|(with_reducible first|exact ai.fg|refine eM ?_ ?_|refine eF ?_ ?_ ?_|refine eN ?_|refine eL ?_ ?_ ?_|refine eA ?_ ?_|refine aj.mk ⟨_,hp,rfl⟩ ?_ ?_)|refine aj.mk ⟨_,hp,rfl⟩ ?_ ?_)
     all_goals try first|with_reducible rfl|omega|exact .inl (by decide)|(simp; done)|rfl
     all_goals (simp; omega)
    ·refine sh ?_
     refine rT ?_
     all_goals repeat' (first|exact True.intro|refine And.intro ?_ ?_|(intro _u; clear _u)|(with_reducible first|exact ai.fg|refine eM ?_ ?_|refine eF ?_ ?_ ?_|refine eN ?_|refine eL ?_ ?_ ?_|refine eA ?_ ?_|refine aj.mk ⟨_,hp,rfl⟩ ?_ ?_)|refine aj.mk ⟨_,hp,rfl⟩ ?_ ?_)
     all_goals try first|with_reducible rfl|omega|exact .inl (by decide)|(simp; done)|rfl
     all_goals (simp; omega)
theorem B6 {a b:Int} (h:(decide (a<0)==decide (b<0))=true):(a<0∧b<0)∨(0≤a∧0≤b):=by
 by_cases ha:a<0<;>by_cases hb:b<0
 ·exact .inl ⟨ha,hb⟩
 ·simp[ha,hb]at h
 ·simp[ha,hb]at h
 ·exact .inr ⟨by omega,by omega⟩
theorem MF {a b:Int} (ha:ej a) (hb:ej b) (h:(a<0∧b<0)∨(0≤a∧0≤b)):kn (wr .u64 (bz a+bz b)) (decide (a<0)) (decide (wr .u64 (bz a+bz b)<bz a))=iU (a+b):=by
 rw[b7]at ha hb
 rcases h with⟨h1,h2⟩|⟨h1,h2⟩
 ·have e1:bz a= -a:=if_pos h1
  have e2:bz b= -b:=if_pos h2
  rw[e1,e2,gA,decide_eq_true h1]
  unfold kn iU
  simp only[if_true,decide_eq_true_eq]
  repeat' split
  all_goals omega
 ·have e1:bz a=a:=if_neg (show ¬a<0 by omega)
  have e2:bz b=b:=if_neg (show ¬b<0 by omega)
  rw[e1,e2,gA,decide_eq_false (show ¬a<0 by omega)]
  unfold kn iU
  simp only[Bool.false_eq_true,if_false,decide_eq_true_eq]
  repeat' split
  all_goals omega
theorem oD {R:Env} (h:Hz R) {a b:Int} (ha:ej a) (hb:ej b):R.Pc 269 [.int .i64 a,.int .i64 b] (.int .i64 (fT a b)):=
 h.y5.enter 100 rfl fun X bb hfit hp=>by
  refine sh ?_
  refine ae.pure h.n279.vn.hb (iW h.n279 ha) rfl ?_
  refine sh ?_
  refine ae.pure h.n279.vn.hb (iW h.n279 hb) rfl ?_
  have u1:=ga ha
  have u2:=ga hb
  refine sh ?_
  refine cS (fun h1=> ?_) (fun h1=> ?_)
  ·have e:=MF ha hb (B6 h1)
   refine sh ?_
   refine bj ?_
   refine sh ?_
   refine bj ?_
   refine sh ?_
   refine ae.pure h.n280.xc.hb (ir h.n280 (rD .u64 _) _ _) rfl ?_
   rw[e]
   refine sh ?_
   exact rT
  ·rw[b7]at ha hb
   have h2: -9223372036854775808≤a+b∧a+b≤9223372036854775807:=by
    by_cases q1:a<0<;>by_cases q2:b<0
    ·simp[q1,q2]at h1
    ·omega
    ·omega
    ·simp[q1,q2]at h1
   refine sh ?_
   refine rT ?_
   all_goals repeat' (first|exact True.intro|refine And.intro ?_ ?_|(intro _u; clear _u)|(with_reducible first|exact ai.fg|refine eM ?_ ?_|refine eF ?_ ?_ ?_|refine eN ?_|refine eL ?_ ?_ ?_|refine eA ?_ ?_|refine aj.mk ⟨_,hp,rfl⟩ ?_ ?_)|refine aj.mk ⟨_,hp,rfl⟩ ?_ ?_)
   all_goals try first|with_reducible rfl|omega|exact .inl (by decide)|(simp; done)|rfl
   all_goals exact (vo (b7.2 h2)).symm
theorem HZ {R:Env} (h:LG R) {b:Int} (hb:ej b):R.Pc 282 [.int .i64 0,.int .i64 b] (.int .i64 (iU (-b))):=
 h.Rz.enter 100 rfl fun X bb hfit hp=>by
  have h0:ej 0:=⟨by decide,by decide⟩
  refine sh ?_
  refine ae.pure h.n279.vn.hb (iW h.n279 h0) rfl ?_
  refine sh ?_
  refine ae.pure h.n279.vn.hb (iW h.n279 hb) rfl ?_
  have u2:=ga hb
  rw[b7]at hb
  refine sh ?_
  refine cS (fun h1=> ?_) (fun h1=> ?_)
  ·have hneg:b<0:=by
    by_cases q:b<0
    ·exact q
    ·simp[q]at h1
   have e:kn (wr .u64 (bz 0+bz b)) (decide ((0:Int)<0)) (decide (wr .u64 (bz 0+bz b)<bz 0))=iU (-b):=by
    have e1:bz 0=0:=rfl
    have e2:bz b= -b:=if_pos hneg
    rw[e1,e2,gA,decide_eq_false (show ¬ (0:Int)<0 by omega)]
    unfold kn iU
    simp only[Bool.false_eq_true,if_false,decide_eq_true_eq]
    repeat' split
    all_goals omega
   refine sh ?_
   refine bj ?_
   refine sh ?_
   refine bj ?_
   refine sh ?_
   refine ae.pure h.n280.xc.hb (ir h.n280 (rD .u64 _) _ _) rfl ?_
   rw[e]
   refine sh ?_
   exact rT
  ·have hpos:¬b<0:=by
    intro q
    simp[q]at h1
   refine sh ?_
   refine rT ?_
   all_goals repeat' (first|exact True.intro|refine And.intro ?_ ?_|(intro _u; clear _u)|(with_reducible first|exact ai.fg|refine eM ?_ ?_|refine eF ?_ ?_ ?_|refine eN ?_|refine eL ?_ ?_ ?_|refine eA ?_ ?_|refine aj.mk ⟨_,hp,rfl⟩ ?_ ?_)|refine aj.mk ⟨_,hp,rfl⟩ ?_ ?_)
   all_goals try first|with_reducible rfl|omega|exact .inl (by decide)|(simp; done)|rfl
   all_goals (unfold iU; rw[if_neg (by omega),if_neg (by omega)]; omega)
theorem EV {a b:Int} (ha:ej a) (hb:ej b) {s:Int} {gu:Bool} (below:Bool) (rh:a*b=if below=true then -(bz a*bz b)else bz a*bz b)
  (hs:s=(bz a*bz b / 4294967296+ (if below=true∧0<bz a*bz b % 4294967296 then 1 else 0)) % 18446744073709551616)
  (gx:gu=decide (18446744073709551616≤bz a*bz b / 4294967296+ (if below=true∧0<bz a*bz b % 4294967296 then 1 else 0))):kn s below gu=nB a b:=by
 have hP:=rO ha hb
 unfold nB
 rw[rh]
 generalize bz a*bz b=P at*
 subst hs gx
 unfold kn iU
 cases below with
 |true=>
  simp only[decide_eq_true_eq,true_and,if_true]
  repeat' split
  all_goals omega
 |false=>
  simp only[decide_eq_true_eq,Bool.false_eq_true,false_and,if_false]
  repeat' split
  all_goals omega
theorem rQ {R:Env} (h:LF R) {a b:Int} (ha:ej a) (hb:ej b):R.Pc 268 [.int .i64 a,.int .i64 b] (.int .i64 (nB a b)):=
 h.Hy.enter 100 rfl fun X bb hfit hp=>by
  refine sh ?_
  refine ae.pure h.n279.vn.hb (iW h.n279 ha) rfl ?_
  refine sh ?_
  refine ae.pure h.n279.vn.hb (iW h.n279 hb) rfl ?_
  refine sh ?_
  refine ae.pure h.n276.Kz.hb (Ap h.n276 (nG ha) (nG hb)) rfl ?_
  have hP:=rO ha hb
  have rh:=vp a b
  have hE:=fun s gu=>EV (s:=s) (gu:=gu) ha hb (decide (a<0) != decide (b<0)) rh
  have e1:dS .or .u64 (nZ .u64 (kj (bz a*bz b)) 32) (eo .u64 (vq (bz a*bz b)) 32)=bz a*bz b / 4294967296 % 18446744073709551616:=by
   generalize bz a*bz b=P at*
   have e:nZ .u64 (kj P) 32=(kj P % 4294967296)*4294967296:=by rw[EH]; omega
   have h2:=oB P
   rw[e,ug .u64 (by decide),xk (by omega) (by omega)]
   unfold kj vq; omega
  have e2:dS .and .u64 (vq (bz a*bz b)) 4294967295=bz a*bz b % 4294967296:=by
   rw[nC (oB _)]; unfold vq; omega
  generalize hbe:(decide (a<0) != decide (b<0))=below at*
  cases below with
  |false=>
   refine sh ?_
   rw[hbe]
   refine aq rfl ?_
   refine sh ?_
   rw[e1]
   clear e1
   refine ae.pure h.n280.xc.hb (ir h.n280 ⟨by omega,by omega⟩ _ _) rfl ?_
   rw[hE _ _ (by simp) (by simp only[Bool.false_eq_true,false_and,if_false]; congr 1; unfold kj; apply propext; constructor<;>intro<;>omega)]
   refine sh ?_
   exact rT
  |true=>
   refine sh ?_
   rw[hbe]
   refine ah rfl ?_
   refine sh ?_
   rw[e2]
   refine cS (fun g=> ?_) (fun g=> ?_)
   ·refine sh ?_
    rw[e1]
    clear e1 e2
    refine bj ?_
    refine sh ?_
    refine cS (fun g2=> ?_) (fun g2=> ?_)
    ·refine sh ?_
     refine ae.pure h.n280.xc.hb (ir h.n280 (rD .u64 _) _ _) rfl ?_
     rw[hE _ _ (by simp only[true_and]; rw[if_pos g,gA]; omega) (by simp only[true_and]; rw[if_pos g]; symm; rw[decide_eq_true_eq]; unfold kj at g2; omega)]
     refine sh ?_
     exact rT
    ·refine sh ?_
     refine ae.pure h.n280.xc.hb (ir h.n280 (rD .u64 _) _ _) rfl ?_
     rw[hE _ _ (by simp only[true_and]; rw[if_pos g,gA]; omega) (by simp only[true_and]; rw[if_pos g,gA,Bool.eq_iff_iff]; simp only[beq_iff_eq,decide_eq_true_eq]; unfold kj at g2; omega)]
     refine sh ?_
     exact rT
   ·refine sh ?_
    rw[e1]
    clear e1 e2
    refine ae.pure h.n280.xc.hb (ir h.n280 ⟨by omega,by omega⟩ _ _) rfl ?_
    rw[hE _ _ (by simp only[true_and]; rw[if_neg (by omega)]; simp) (by simp only[true_and]; rw[if_neg (by omega)]; congr 1; unfold kj; apply propext; constructor<;>intro<;>omega)]
    refine sh ?_
    exact rT
theorem EW {R:Env} (h:LJ R) {n:Int} (hn:ej n):R.Pc 272 [.int .i64 n] (.int .i64 (iU (n*4294967296))):=
 h.HB.enter 100 rfl fun X bb hfit hp=>by
  refine sh ?_
  refine ae.pure h.n279.vn.hb (iW h.n279 hn) rfl ?_
  have u1:=ga hn
  refine sh ?_
  rw[EH]
  refine ae.pure h.n280.xc.hb (ir h.n280 ⟨by omega,by omega⟩ _ _) rfl ?_
  have e:kn (bz n*4294967296 % 18446744073709551616) (decide (n<0)) (decide (bz n≥4294967296))=iU (n*4294967296):=by
   rw[b7]at hn
   by_cases h1:n<0
   ·have e1:bz n= -n:=if_pos h1
    rw[e1,decide_eq_true h1]
    unfold kn iU
    simp only[if_true,decide_eq_true_eq]
    repeat' split
    all_goals omega
   ·have e1:bz n=n:=if_neg h1
    rw[e1,decide_eq_false h1]
    unfold kn iU
    simp only[Bool.false_eq_true,if_false,decide_eq_true_eq]
    repeat' split
    all_goals omega
  rw[e]
  refine sh ?_
  exact rT
theorem EX {R:Env} (h:LH R) {x:Int} (hx:ej x):R.Pc 273 [.int .i64 x] (.int .i64 (x / 4294967296)):=
 h.RB.enter 100 rfl fun X bb hfit hp=>by
  refine sh ?_
  refine ae.pure h.n279.vn.hb (iW h.n279 hx) rfl ?_
  have u1:=ga hx
  have hand:dS .and .u64 (bz x) 4294967295=bz x % 4294967296:=nC (nG hx)
  have abR:eo .u64 (bz x) 32=bz x / 4294967296:=ug .u64 (by decide)
  have hx2:=hx
  rw[b7]at hx2
  refine sh ?_
  refine cS (fun h1=> ?_) (fun h1=> ?_)
  ·have e1:bz x=x:=if_neg (show ¬x<0 by omega)
   refine sh ?_
   refine rT ?_
   all_goals repeat' (first|exact True.intro|refine And.intro ?_ ?_|(intro _u; clear _u)|(with_reducible first|exact ai.fg|refine eM ?_ ?_|refine eF ?_ ?_ ?_|refine eN ?_|refine eL ?_ ?_ ?_|refine eA ?_ ?_|refine aj.mk ⟨_,hp,rfl⟩ ?_ ?_)|refine aj.mk ⟨_,hp,rfl⟩ ?_ ?_)
   all_goals try first|with_reducible rfl|omega|exact .inl (by decide)|(simp; done)|rfl
   all_goals omega
  ·have e1:bz x= -x:=if_pos h1
   refine sh ?_
   rw[hand]
   refine cS (fun g=> ?_) (fun g=> ?_)
   ·refine sh ?_
    refine rT ?_
    all_goals repeat' (first|exact True.intro|refine And.intro ?_ ?_|(intro _u; clear _u)|(with_reducible first|exact ai.fg|refine eM ?_ ?_|refine eF ?_ ?_ ?_|refine eN ?_|refine eL ?_ ?_ ?_|refine eA ?_ ?_|refine aj.mk ⟨_,hp,rfl⟩ ?_ ?_)|refine aj.mk ⟨_,hp,rfl⟩ ?_ ?_)
    all_goals try first|with_reducible rfl|omega|exact .inl (by decide)|(simp; done)|rfl
    all_goals omega
   ·refine sh ?_
    refine rT ?_
    all_goals repeat' (first|exact True.intro|refine And.intro ?_ ?_|(intro _u; clear _u)|(with_reducible first|exact ai.fg|refine eM ?_ ?_|refine eF ?_ ?_ ?_|refine eN ?_|refine eL ?_ ?_ ?_|refine eA ?_ ?_|refine aj.mk ⟨_,hp,rfl⟩ ?_ ?_)|refine aj.mk ⟨_,hp,rfl⟩ ?_ ?_)
    all_goals try first|with_reducible rfl|omega|exact .inl (by decide)|(simp; done)|rfl
    all_goals omega
theorem rR {R:Env} (h:LI R) {x:Int} (hx:ej x):R.Pc 261 [.int .i64 x] (.int .i64 (dX x)):=
 h.HA.enter 100 rfl fun X bb hfit hp=>by
  have hx2:=hx
  rw[b7]at hx2
  refine sh ?_
  refine cS (fun h1=> ?_) (fun h1=> ?_)
  ·refine sh ?_
   refine rT ?_
   all_goals repeat' (first|exact True.intro|refine And.intro ?_ ?_|(intro _u; clear _u)|(with_reducible first|exact ai.fg|refine eM ?_ ?_|refine eF ?_ ?_ ?_|refine eN ?_|refine eL ?_ ?_ ?_|refine eA ?_ ?_|refine aj.mk ⟨_,hp,rfl⟩ ?_ ?_)|refine aj.mk ⟨_,hp,rfl⟩ ?_ ?_)
   all_goals try first|with_reducible rfl|omega|exact .inl (by decide)|(simp; done)|rfl
   all_goals (unfold dX; omega)
  ·refine sh ?_
   refine ae.pure h.n273.RB.hb (EX h.n273 (x:=x+2147483648) ⟨by omega,by omega⟩) rfl ?_
   refine sh ?_
   exact rT
theorem zf {R:Env} (h:LL R) {a b:T3} (ha:a.I) (hb:b.I):R.Pc 253 [.agg (t3 a),.agg (t3 b)] (.int .i64 (Jj a b)):=
 h.HC.enter 100 rfl fun X bb hfit hp=>by
  refine sh ?_
  refine ae.pure h.n268.Hy.hb (rQ h.n268 ha.1 hb.1) rfl ?_
  refine sh ?_
  refine ae.pure h.n269.y5.hb (oD h.n269 (a:=0) ⟨by decide,by decide⟩ (iV a.a b.a)) rfl ?_
  rw[uh (iV a.a b.a)]
  refine sh ?_
  refine ae.pure h.n268.Hy.hb (rQ h.n268 ha.2.1 hb.2.1) rfl ?_
  refine sh ?_
  refine ae.pure h.n269.y5.hb (oD h.n269 (iV a.a b.a) (iV a.b b.b)) rfl ?_
  refine sh ?_
  refine ae.pure h.n268.Hy.hb (rQ h.n268 ha.2.2 hb.2.2) rfl ?_
  refine sh ?_
  refine ae.pure h.n269.y5.hb (oD h.n269 (ek _ _) (iV a.c b.c)) rfl ?_
  refine sh ?_
  exact rT
theorem H0 {R:Env} (h:LM R) {a b:T3} (ha:a.I) (hb:b.I):R.Pc 254 [.agg (t3 a),.agg (t3 b)] (.agg (t3 (sX a b))):=
 h.RG.enter 100 rfl fun X bb hfit hp=>by
  refine sh ?_
  refine ae.pure h.n269.y5.hb (oD h.n269 ha.1 hb.1) rfl ?_
  refine sh ?_
  refine ae.pure h.n269.y5.hb (oD h.n269 ha.2.1 hb.2.1) rfl ?_
  refine sh ?_
  refine ae.pure h.n269.y5.hb (oD h.n269 ha.2.2 hb.2.2) rfl ?_
  refine sh ?_
  exact rT
theorem MG {R:Env} (h:LP R) {p:T3} (pV:p.I):R.Pc 259 [.agg (t3 p)] (.agg (t3 (NH p))):=
 h.RL.enter 100 rfl fun X bb hfit hp=>by
  refine sh ?_
  refine ae.pure h.n272.HB.hb (EW h.n272 pV.1) rfl ?_
  refine sh ?_
  refine ae.pure h.n272.HB.hb (EW h.n272 pV.2.1) rfl ?_
  refine sh ?_
  refine ae.pure h.n272.HB.hb (EW h.n272 pV.2.2) rfl ?_
  refine sh ?_
  exact rT
theorem iu {R:Env} (h:LN R) {x:Int} (hx:ej x):R.Pc 271 [.int .i64 x] (.int .i64 (l4 x)):=
 h.xd.enter 100 rfl fun X bb hfit hp=>by
  refine sh ?_
  refine cS (fun h1=> ?_) (fun h1=> ?_)
  ·refine sh ?_
   refine ae.pure h.n282.Rz.hb (HZ h.n282 hx) rfl ?_
   refine sh ?_
   refine rT ?_
   all_goals repeat' (first|exact True.intro|refine And.intro ?_ ?_|(intro _u; clear _u)|(with_reducible first|exact ai.fg|refine eM ?_ ?_|refine eF ?_ ?_ ?_|refine eN ?_|refine eL ?_ ?_ ?_|refine eA ?_ ?_|refine aj.mk ⟨_,hp,rfl⟩ ?_ ?_)|refine aj.mk ⟨_,hp,rfl⟩ ?_ ?_)
   all_goals try first|with_reducible rfl|omega|exact .inl (by decide)|(simp; done)|rfl
   all_goals (unfold l4; rw[if_pos h1])
  ·refine sh ?_
   refine rT ?_
   all_goals repeat' (first|exact True.intro|refine And.intro ?_ ?_|(intro _u; clear _u)|(with_reducible first|exact ai.fg|refine eM ?_ ?_|refine eF ?_ ?_ ?_|refine eN ?_|refine eL ?_ ?_ ?_|refine eA ?_ ?_|refine aj.mk ⟨_,hp,rfl⟩ ?_ ?_)|refine aj.mk ⟨_,hp,rfl⟩ ?_ ?_)
   all_goals try first|with_reducible rfl|omega|exact .inl (by decide)|(simp; done)|rfl
   all_goals (unfold l4; rw[if_neg (by omega)])
theorem H1 {R:Env} (h:LO R) {p:T3} (pV:p.I):R.Pc 257 [.agg (t3 p)] (.int .i64 (Ak p)):=
 h.RJ.enter 100 rfl fun X bb hfit hp=>by
  unfold Ak
  refine sh ?_
  refine ae.pure h.n271.xd.hb (iu h.n271 pV.1) rfl ?_
  refine sh ?_
  refine ae.pure h.n271.xd.hb (iu h.n271 pV.2.1) rfl ?_
  refine sh ?_
  refine cS (fun h1=> ?_) (fun h1=> ?_)
  ·refine sh ?_
   refine ae.pure h.n271.xd.hb (iu h.n271 pV.2.1) rfl ?_
   refine sh ?_
   refine ae.pure h.n271.xd.hb (iu h.n271 pV.2.2) rfl ?_
   refine sh ?_
   refine cS (fun h2=> ?_) (fun h2=> ?_)
   ·refine sh ?_
    refine ae.pure h.n271.xd.hb (iu h.n271 pV.2.2) rfl ?_
    refine sh ?_
    refine rT ?_
    all_goals repeat' (first|exact True.intro|refine And.intro ?_ ?_|(intro _u; clear _u)|(with_reducible first|exact ai.fg|refine eM ?_ ?_|refine eF ?_ ?_ ?_|refine eN ?_|refine eL ?_ ?_ ?_|refine eA ?_ ?_|refine aj.mk ⟨_,hp,rfl⟩ ?_ ?_)|refine aj.mk ⟨_,hp,rfl⟩ ?_ ?_)
    all_goals try first|with_reducible rfl|omega|exact .inl (by decide)|(simp; done)|rfl
    all_goals omega
   ·refine sh ?_
    refine rT ?_
    all_goals repeat' (first|exact True.intro|refine And.intro ?_ ?_|(intro _u; clear _u)|(with_reducible first|exact ai.fg|refine eM ?_ ?_|refine eF ?_ ?_ ?_|refine eN ?_|refine eL ?_ ?_ ?_|refine eA ?_ ?_|refine aj.mk ⟨_,hp,rfl⟩ ?_ ?_)|refine aj.mk ⟨_,hp,rfl⟩ ?_ ?_)
    all_goals try first|with_reducible rfl|omega|exact .inl (by decide)|(simp; done)|rfl
    all_goals omega
  ·refine sh ?_
   refine ae.pure h.n271.xd.hb (iu h.n271 pV.2.2) rfl ?_
   refine sh ?_
   refine cS (fun h2=> ?_) (fun h2=> ?_)
   ·refine sh ?_
    refine ae.pure h.n271.xd.hb (iu h.n271 pV.2.2) rfl ?_
    refine sh ?_
    refine rT ?_
    all_goals repeat' (first|exact True.intro|refine And.intro ?_ ?_|(intro _u; clear _u)|(with_reducible first|exact ai.fg|refine eM ?_ ?_|refine eF ?_ ?_ ?_|refine eN ?_|refine eL ?_ ?_ ?_|refine eA ?_ ?_|refine aj.mk ⟨_,hp,rfl⟩ ?_ ?_)|refine aj.mk ⟨_,hp,rfl⟩ ?_ ?_)
    all_goals try first|with_reducible rfl|omega|exact .inl (by decide)|(simp; done)|rfl
    all_goals omega
   ·refine sh ?_
    refine rT ?_
    all_goals repeat' (first|exact True.intro|refine And.intro ?_ ?_|(intro _u; clear _u)|(with_reducible first|exact ai.fg|refine eM ?_ ?_|refine eF ?_ ?_ ?_|refine eN ?_|refine eL ?_ ?_ ?_|refine eA ?_ ?_|refine aj.mk ⟨_,hp,rfl⟩ ?_ ?_)|refine aj.mk ⟨_,hp,rfl⟩ ?_ ?_)
    all_goals try first|with_reducible rfl|omega|exact .inl (by decide)|(simp; done)|rfl
    all_goals omega
end Go.UM
namespace Go.UM
open Go.AM
set_option maxRecDepth 4000
@[simp] theorem aaK (x:T3):AV.ay (t3 x)=[]:=by simp[t3]
@[simp] theorem aaL (x:T3):AV.ik (t3 x)=true:=by simp[t3]
@[simp] theorem aaM (a:Af):AV.ay a.row=[]:=by simp[Af.row]
@[simp] theorem aaN (a:Af):AV.ik a.row=true:=by simp[Af.row]
theorem zg {R:Env} (h:K3 R) (a:Af) (i:Nat) (hi:i<3):R.Pc 251 [.agg a.SS,.int .i64 i] (.agg (t3 (a.rw i))):=by
 match i,hi with
 |0,_=>
  exact h.BR.enter 60 rfl fun X bb hfit hp=>by
   refine sh ?_
   exact rT
 |1,_=>
  exact h.BR.enter 60 rfl fun X bb hfit hp=>by
   refine sh ?_
   exact rT
 |2,_=>
  exact h.BR.enter 60 rfl fun X bb hfit hp=>by
   refine sh ?_
   exact rT
theorem H2 {R:Env} (h:K4 R) {a:Af} {v:T3} (ha:a.I) (hv:v.I):R.Pc 231 [.agg a.row,.agg (t3 v)] (.agg (t3 (ui a v))):=
 h.Qj.enter 60 rfl fun X bb hfit hp=>by
  refine sh ?_
  refine ae.pure h.n251.BR.hb (zg h.n251 a 0 (by omega)) rfl ?_
  refine sh ?_
  refine ae.pure h.n252.Hh.hb (EU h.n252 (ha.rw 0) hv) rfl ?_
  refine sh ?_
  refine ae.pure h.n251.BR.hb (zg h.n251 a 1 (by omega)) rfl ?_
  refine sh ?_
  refine ae.pure h.n252.Hh.hb (EU h.n252 (ha.rw 1) hv) rfl ?_
  refine sh ?_
  refine ae.pure h.n251.BR.hb (zg h.n251 a 2 (by omega)) rfl ?_
  refine sh ?_
  refine ae.pure h.n252.Hh.hb (EU h.n252 (ha.rw 2) hv) rfl ?_
  refine sh ?_
  exact rT
theorem EY {R:Env} (h:K5 R) {a:Af} {v:T3} (ha:a.I) (hv:v.I):R.Pc 233 [.agg a.row,.agg (t3 v)] (.agg (t3 (oC a v))):=
 h.Ql.enter 60 rfl fun X bb hfit hp=>by
  refine sh ?_
  refine ae.pure h.n231.Qj.hb (H2 h.n231 ha hv) rfl ?_
  have i1:=An a v
  have c1:=MD h.n246 [ui a v,a.t] (by simp) (by intro x hx; simp at hx; rcases hx with rfl|rfl; exact i1; exact ha.t)
  rw[show [ui a v,a.t].foldl sX z3=oC a v by simp[SP i1,oC]]at c1
  refine sh ?_
  refine cM true [] (c1.mc h.n246.Qc.hb) ?_
  repeat (intro _; first|refine eK ?_|refine eP ?_)
  refine sh ?_
  exact rT
theorem EZ {R:Env} (h:LQ R) {a:Af} {v:T3} (ha:a.I) (hv:v.I):R.Pc 232 [.agg a.row,.agg (t3 v)] (.agg (t3 (ui a v))):=
 h.RN.enter 60 rfl fun X bb hfit hp=>by
  refine sh ?_
  refine au.one 100 ?_
  refine sh ?_
  refine ah (by decide) ?_
  refine sh ?_
  refine ae.pure h.n253.HC.hb (zf h.n253 (ha.rw 0) hv) rfl ?_
  refine sh ?_
  refine au.one 100 ?_
  refine sh ?_
  refine ah (by decide) ?_
  refine sh ?_
  refine ae.pure h.n253.HC.hb (zf h.n253 (ha.rw 1) hv) rfl ?_
  refine sh ?_
  refine au.one 100 ?_
  refine sh ?_
  refine ah (by decide) ?_
  refine sh ?_
  refine ae.pure h.n253.HC.hb (zf h.n253 (ha.rw 2) hv) rfl ?_
  refine sh ?_
  refine au.one 100 ?_
  refine sh ?_
  refine aq (by decide) ?_
  refine sh ?_
  refine rG rfl ?_
  refine sh ?_
  refine rG rfl ?_
  refine sh ?_
  refine rG rfl ?_
  refine sh ?_
  exact rT
theorem B7 {R:Env} (h:LR R) {a:Af} {v:T3} (ha:a.I) (hv:v.I):R.Pc 234 [.agg a.row,.agg (t3 v)] (.agg (t3 (oC a v))):=
 h.RP.enter 60 rfl fun X bb hfit hp=>by
  refine sh ?_
  refine ae.pure h.n232.RN.hb (EZ h.n232 ha hv) rfl ?_
  refine sh ?_
  refine ae.pure h.n254.RG.hb (H0 h.n254 (An a v) ha.t) rfl ?_
  refine sh ?_
  exact rT
theorem cJ {x:Int} (hx:ej x):bN x=decide (1099511627776<l4 x):=by
 rw[b7]at hx
 unfold bN l4 iU
 rw[Bool.eq_iff_iff]
 simp only[Bool.or_eq_true,decide_eq_true_eq]
 repeat' split
 all_goals omega
theorem be {a:Af} {x:Int} (hx:x ∈ ms a) (h:bN x=true):sZ a=2:=by
 unfold sZ
 rw[if_pos (List.any_eq_true.2 ⟨x,hx,h⟩)]
theorem E3 {R:Env} (h:K6 R) {a:Af} (ha:a.I):R.Pc 235 [.agg a.row] (.int .i64 (sZ a)):=
 h.Qn.enter 100 rfl fun X bb hfit hp=>by
  refine sh ?_
  refine au.one 100 ?_
  refine sh ?_
  refine ah (by decide) ?_
  refine sh ?_
  refine ae.pure h.n255.oA.hb (gB h.n255 ha.m0) rfl ?_
  refine sh ?_
  refine cS (fun o0=> ?_) (fun o0=> ?_)
  ·rw[be (x:=a.m0) (by simp[ms]) (by rw[cJ ha.m0]; simpa using o0)]
   refine sh ?_
   exact rT
  ·skip
   refine sh ?_
   refine au.one 100 ?_
   refine sh ?_
   refine ah (by decide) ?_
   refine sh ?_
   refine ae.pure h.n255.oA.hb (gB h.n255 ha.m1) rfl ?_
   refine sh ?_
   refine cS (fun o1=> ?_) (fun o1=> ?_)
   ·rw[be (x:=a.m1) (by simp[ms]) (by rw[cJ ha.m1]; simpa using o1)]
    refine sh ?_
    exact rT
   ·skip
    refine sh ?_
    refine au.one 100 ?_
    refine sh ?_
    refine ah (by decide) ?_
    refine sh ?_
    refine ae.pure h.n255.oA.hb (gB h.n255 ha.m2) rfl ?_
    refine sh ?_
    refine cS (fun o2=> ?_) (fun o2=> ?_)
    ·rw[be (x:=a.m2) (by simp[ms]) (by rw[cJ ha.m2]; simpa using o2)]
     refine sh ?_
     exact rT
    ·skip
     refine sh ?_
     refine au.one 100 ?_
     refine sh ?_
     refine ah (by decide) ?_
     refine sh ?_
     refine ae.pure h.n255.oA.hb (gB h.n255 ha.m3) rfl ?_
     refine sh ?_
     refine cS (fun o3=> ?_) (fun o3=> ?_)
     ·rw[be (x:=a.m3) (by simp[ms]) (by rw[cJ ha.m3]; simpa using o3)]
      refine sh ?_
      exact rT
     ·skip
      refine sh ?_
      refine au.one 100 ?_
      refine sh ?_
      refine ah (by decide) ?_
      refine sh ?_
      refine ae.pure h.n255.oA.hb (gB h.n255 ha.m4) rfl ?_
      refine sh ?_
      refine cS (fun o4=> ?_) (fun o4=> ?_)
      ·rw[be (x:=a.m4) (by simp[ms]) (by rw[cJ ha.m4]; simpa using o4)]
       refine sh ?_
       exact rT
      ·skip
       refine sh ?_
       refine au.one 100 ?_
       refine sh ?_
       refine ah (by decide) ?_
       refine sh ?_
       refine ae.pure h.n255.oA.hb (gB h.n255 ha.m5) rfl ?_
       refine sh ?_
       refine cS (fun o5=> ?_) (fun o5=> ?_)
       ·rw[be (x:=a.m5) (by simp[ms]) (by rw[cJ ha.m5]; simpa using o5)]
        refine sh ?_
        exact rT
       ·skip
        refine sh ?_
        refine au.one 100 ?_
        refine sh ?_
        refine ah (by decide) ?_
        refine sh ?_
        refine ae.pure h.n255.oA.hb (gB h.n255 ha.m6) rfl ?_
        refine sh ?_
        refine cS (fun o6=> ?_) (fun o6=> ?_)
        ·rw[be (x:=a.m6) (by simp[ms]) (by rw[cJ ha.m6]; simpa using o6)]
         refine sh ?_
         exact rT
        ·skip
         refine sh ?_
         refine au.one 100 ?_
         refine sh ?_
         refine ah (by decide) ?_
         refine sh ?_
         refine ae.pure h.n255.oA.hb (gB h.n255 ha.m7) rfl ?_
         refine sh ?_
         refine cS (fun o7=> ?_) (fun o7=> ?_)
         ·rw[be (x:=a.m7) (by simp[ms]) (by rw[cJ ha.m7]; simpa using o7)]
          refine sh ?_
          exact rT
         ·skip
          refine sh ?_
          refine au.one 100 ?_
          refine sh ?_
          refine ah (by decide) ?_
          refine sh ?_
          refine ae.pure h.n255.oA.hb (gB h.n255 ha.m8) rfl ?_
          refine sh ?_
          refine cS (fun o8=> ?_) (fun o8=> ?_)
          ·rw[be (x:=a.m8) (by simp[ms]) (by rw[cJ ha.m8]; simpa using o8)]
           refine sh ?_
           exact rT
          ·skip
           refine sh ?_
           refine au.one 100 ?_
           refine sh ?_
           refine aq (by decide) ?_
           have hno:(ms a).any bN=false:=by
            simp only[ms,List.any_cons,List.any_nil,(cJ ha.m0).trans (decide_eq_false (by omega)),(cJ ha.m1).trans (decide_eq_false (by omega)),(cJ ha.m2).trans (decide_eq_false (by omega)),(cJ ha.m3).trans (decide_eq_false (by omega)),(cJ ha.m4).trans (decide_eq_false (by omega)),(cJ ha.m5).trans (decide_eq_false (by omega)),(cJ ha.m6).trans (decide_eq_false (by omega)),(cJ ha.m7).trans (decide_eq_false (by omega)),(cJ ha.m8).trans (decide_eq_false (by omega))]
            rfl
           unfold sZ
           rw[if_neg (by rw[hno]; simp)]
           refine sh ?_
           refine ae.pure h.n256.Qe.hb (HY h.n256 ha.t) rfl ?_
           refine sh ?_
           refine cS (fun w=> ?_) (fun w=> ?_)
           ·rw[if_pos (by omega)]
            refine sh ?_
            exact rT
           ·rw[if_neg (by omega)]
            refine sh ?_
            exact rT
theorem B8 {R:Env} (h:LS R) {a:Af} (ha:a.I):R.Pc 236 [.agg a.row] (.int .i64 (sZ a)):=
 h.RR.enter 100 rfl fun X bb hfit hp=>by
  refine sh ?_
  refine au.one 100 ?_
  refine sh ?_
  refine ah (by decide) ?_
  refine sh ?_
  refine cS (fun o0=> ?_) (fun o0=> ?_)
  ·rw[be (x:=a.m0) (by simp[ms]) (by simp[bN]; omega)]
   refine sh ?_
   exact rT
  ·refine sh ?_
   refine cS (fun q0=> ?_) (fun q0=> ?_)
   ·rw[be (x:=a.m0) (by simp[ms]) (by simp[bN]; omega)]
    refine sh ?_
    exact rT
   ·skip
    refine sh ?_
    refine au.one 100 ?_
    refine sh ?_
    refine ah (by decide) ?_
    refine sh ?_
    refine cS (fun o1=> ?_) (fun o1=> ?_)
    ·rw[be (x:=a.m1) (by simp[ms]) (by simp[bN]; omega)]
     refine sh ?_
     exact rT
    ·refine sh ?_
     refine cS (fun q1=> ?_) (fun q1=> ?_)
     ·rw[be (x:=a.m1) (by simp[ms]) (by simp[bN]; omega)]
      refine sh ?_
      exact rT
     ·skip
      refine sh ?_
      refine au.one 100 ?_
      refine sh ?_
      refine ah (by decide) ?_
      refine sh ?_
      refine cS (fun o2=> ?_) (fun o2=> ?_)
      ·rw[be (x:=a.m2) (by simp[ms]) (by simp[bN]; omega)]
       refine sh ?_
       exact rT
      ·refine sh ?_
       refine cS (fun q2=> ?_) (fun q2=> ?_)
       ·rw[be (x:=a.m2) (by simp[ms]) (by simp[bN]; omega)]
        refine sh ?_
        exact rT
       ·skip
        refine sh ?_
        refine au.one 100 ?_
        refine sh ?_
        refine ah (by decide) ?_
        refine sh ?_
        refine cS (fun o3=> ?_) (fun o3=> ?_)
        ·rw[be (x:=a.m3) (by simp[ms]) (by simp[bN]; omega)]
         refine sh ?_
         exact rT
        ·refine sh ?_
         refine cS (fun q3=> ?_) (fun q3=> ?_)
         ·rw[be (x:=a.m3) (by simp[ms]) (by simp[bN]; omega)]
          refine sh ?_
          exact rT
         ·skip
          refine sh ?_
          refine au.one 100 ?_
          refine sh ?_
          refine ah (by decide) ?_
          refine sh ?_
          refine cS (fun o4=> ?_) (fun o4=> ?_)
          ·rw[be (x:=a.m4) (by simp[ms]) (by simp[bN]; omega)]
           refine sh ?_
           exact rT
          ·refine sh ?_
           refine cS (fun q4=> ?_) (fun q4=> ?_)
           ·rw[be (x:=a.m4) (by simp[ms]) (by simp[bN]; omega)]
            refine sh ?_
            exact rT
           ·skip
            refine sh ?_
            refine au.one 100 ?_
            refine sh ?_
            refine ah (by decide) ?_
            refine sh ?_
            refine cS (fun o5=> ?_) (fun o5=> ?_)
            ·rw[be (x:=a.m5) (by simp[ms]) (by simp[bN]; omega)]
             refine sh ?_
             exact rT
            ·refine sh ?_
             refine cS (fun q5=> ?_) (fun q5=> ?_)
             ·rw[be (x:=a.m5) (by simp[ms]) (by simp[bN]; omega)]
              refine sh ?_
              exact rT
             ·skip
              refine sh ?_
              refine au.one 100 ?_
              refine sh ?_
              refine ah (by decide) ?_
              refine sh ?_
              refine cS (fun o6=> ?_) (fun o6=> ?_)
              ·rw[be (x:=a.m6) (by simp[ms]) (by simp[bN]; omega)]
               refine sh ?_
               exact rT
              ·refine sh ?_
               refine cS (fun q6=> ?_) (fun q6=> ?_)
               ·rw[be (x:=a.m6) (by simp[ms]) (by simp[bN]; omega)]
                refine sh ?_
                exact rT
               ·skip
                refine sh ?_
                refine au.one 100 ?_
                refine sh ?_
                refine ah (by decide) ?_
                refine sh ?_
                refine cS (fun o7=> ?_) (fun o7=> ?_)
                ·rw[be (x:=a.m7) (by simp[ms]) (by simp[bN]; omega)]
                 refine sh ?_
                 exact rT
                ·refine sh ?_
                 refine cS (fun q7=> ?_) (fun q7=> ?_)
                 ·rw[be (x:=a.m7) (by simp[ms]) (by simp[bN]; omega)]
                  refine sh ?_
                  exact rT
                 ·skip
                  refine sh ?_
                  refine au.one 100 ?_
                  refine sh ?_
                  refine ah (by decide) ?_
                  refine sh ?_
                  refine cS (fun o8=> ?_) (fun o8=> ?_)
                  ·rw[be (x:=a.m8) (by simp[ms]) (by simp[bN]; omega)]
                   refine sh ?_
                   exact rT
                  ·refine sh ?_
                   refine cS (fun q8=> ?_) (fun q8=> ?_)
                   ·rw[be (x:=a.m8) (by simp[ms]) (by simp[bN]; omega)]
                    refine sh ?_
                    exact rT
                   ·skip
                    refine sh ?_
                    refine au.one 100 ?_
                    refine sh ?_
                    refine aq (by decide) ?_
                    have hno:(ms a).any bN=false:=by
                     simp only[ms,List.any_cons,List.any_nil,(show bN a.m0=false by simp[bN]; omega),(show bN a.m1=false by simp[bN]; omega),(show bN a.m2=false by simp[bN]; omega),(show bN a.m3=false by simp[bN]; omega),(show bN a.m4=false by simp[bN]; omega),(show bN a.m5=false by simp[bN]; omega),(show bN a.m6=false by simp[bN]; omega),(show bN a.m7=false by simp[bN]; omega),(show bN a.m8=false by simp[bN]; omega)]
                     rfl
                    unfold sZ
                    rw[if_neg (by rw[hno]; simp)]
                    refine sh ?_
                    refine ae.pure h.n257.RJ.hb (H1 h.n257 ha.t) rfl ?_
                    refine sh ?_
                    refine cS (fun w=> ?_) (fun w=> ?_)
                    ·rw[if_pos (by omega)]
                     refine sh ?_
                     exact rT
                    ·rw[if_neg (by omega)]
                     refine sh ?_
                     exact rT
theorem H3 {R:Env} (h:K7 R) {v:T3} (hv:v.I):R.Pc 243 [.agg (t3 v)] (.aO [.agg (t3 (nE v).1),.int .i64 (nE v).2]):=
 h.Qp.enter 100 rfl fun X bb hfit hp=>by
  refine sh ?_
  refine ae.pure h.n260.Hc.hb (rP h.n260 hv.1) rfl ?_
  refine sh ?_
  refine ae.pure h.n260.Hc.hb (rP h.n260 hv.2.1) rfl ?_
  refine sh ?_
  refine ae.pure h.n260.Hc.hb (rP h.n260 hv.2.2) rfl ?_
  generalize hq:nE v=q
  unfold nE Mw at hq
  generalize dX v.a=x at*
  generalize dX v.b=y at*
  generalize dX v.c=z at*
  unfold EK at hq
  refine sh ?_
  refine cS (fun h1=> ?_) (fun h1=> ?_)
  ·rw[if_pos (by simp; omega)]at hq
   subst hq
   refine sh ?_
   exact rT
  ·refine sh ?_
   refine cS (fun h2=> ?_) (fun h2=> ?_)
   ·rw[if_pos (by simp; omega)]at hq
    subst hq
    refine sh ?_
    exact rT
   ·rw[if_neg (by simp; omega)]at hq
    subst hq
    refine sh ?_
    exact rT
theorem E4 {R:Env} (h:LU R) {v:T3} (hv:v.I):R.Pc 244 [.agg (t3 v)] (.aO [.agg (t3 (nE v).1),.int .i64 (nE v).2]):=
 h.RT.enter 100 rfl fun X bb hfit hp=>by
  refine sh ?_
  refine ae.pure h.n261.HA.hb (rR h.n261 hv.1) rfl ?_
  refine sh ?_
  refine ae.pure h.n261.HA.hb (rR h.n261 hv.2.1) rfl ?_
  refine sh ?_
  refine ae.pure h.n261.HA.hb (rR h.n261 hv.2.2) rfl ?_
  generalize hq:nE v=q
  unfold nE Mw at hq
  generalize dX v.a=x at*
  generalize dX v.b=y at*
  generalize dX v.c=z at*
  unfold EK at hq
  by_cases ho:(65536<x∨x< -65536)∨(65536<y∨y< -65536)∨(65536<z∨z< -65536)
  ·rw[if_pos (by simp; omega)]at hq
   subst hq
   refine sh ?_
   refine cS (fun h1=> ?_) (fun h1=> ?_)
   ·refine sh ?_
    exact rT
   ·refine sh ?_
    refine cS (fun h2=> ?_) (fun h2=> ?_)
    ·refine sh ?_
     exact rT
    ·refine sh ?_
     refine cS (fun h3=> ?_) (fun h3=> ?_)
     ·refine sh ?_
      exact rT
     ·refine sh ?_
      refine cS (fun h4=> ?_) (fun h4=> ?_)
      ·refine sh ?_
       exact rT
      ·refine sh ?_
       refine cS (fun h5=> ?_) (fun h5=> ?_)
       ·refine sh ?_
        exact rT
       ·refine sh ?_
        refine ah (by (simp; omega)) ?_
        refine sh ?_
        exact rT
  ·rw[if_neg (by simp; omega)]at hq
   subst hq
   refine sh ?_
   refine aq (by (simp; omega)) ?_
   refine sh ?_
   refine aq (by (simp; omega)) ?_
   refine sh ?_
   refine aq (by (simp; omega)) ?_
   refine sh ?_
   refine aq (by (simp; omega)) ?_
   refine sh ?_
   refine aq (by (simp; omega)) ?_
   refine sh ?_
   refine aq (by (simp; omega)) ?_
   refine sh ?_
   exact rT
theorem E5 {R:Env} (h:K8 R) {a:Af} {p:T3} (ha:a.I) (pV:p.I):R.Pc 241 [.agg a.row,.agg (t3 p)] (.aO [.agg (t3 (dK a p).1),.int .i64 (dK a p).2]):=
 h.Qr.enter 100 rfl fun X bb hfit hp=>by
  refine sh ?_
  refine ae.pure h.n235.Qn.hb (E3 h.n235 ha) rfl ?_
  generalize hq:dK a p=q
  unfold dK at hq
  by_cases hc:sZ a=0
  ·rw[if_neg (by simpa using hc)]at hq
   refine sh ?_
   refine aq (by simpa using hc) ?_
   refine sh ?_
   refine ae.pure h.n249.Qg.hb (ME h.n249 pV) rfl ?_
   refine sh ?_
   refine ae.pure h.n233.Ql.hb (EY h.n233 ha (EI p)) rfl ?_
   refine sh ?_
   refine ae.pure h.n243.Qp.hb (H3 h.n243 (xl a (NH p))) rfl ?_
   subst hq
   refine sh ?_
   exact rT
  ·rw[if_pos (by simpa using hc)]at hq
   refine sh ?_
   refine ah (by simpa using hc) ?_
   subst hq
   refine sh ?_
   exact rT
theorem oE {R:Env} (h:LV R) {a:Af} {p:T3} (ha:a.I) (pV:p.I):R.Pc 242 [.agg a.row,.agg (t3 p)] (.aO [.agg (t3 (dK a p).1),.int .i64 (dK a p).2]):=
 h.HD.enter 100 rfl fun X bb hfit hp=>by
  refine sh ?_
  refine ae.pure h.n236.RR.hb (B8 h.n236 ha) rfl ?_
  generalize hq:dK a p=q
  unfold dK at hq
  by_cases hc:sZ a=0
  ·rw[if_neg (by simpa using hc)]at hq
   refine sh ?_
   refine aq (by simpa using hc) ?_
   refine sh ?_
   refine ae.pure h.n259.RL.hb (MG h.n259 pV) rfl ?_
   refine sh ?_
   refine ae.pure h.n234.RP.hb (B7 h.n234 ha (EI p)) rfl ?_
   refine sh ?_
   refine ae.pure h.n244.RT.hb (E4 h.n244 (xl a (NH p))) rfl ?_
   subst hq
   refine sh ?_
   exact rT
  ·rw[if_pos (by simpa using hc)]at hq
   refine sh ?_
   refine ah (by simpa using hc) ?_
   subst hq
   refine sh ?_
   exact rT
end Go.UM
namespace Go.UM
open Go.AM
set_option maxRecDepth 4000
end Go.UM
namespace Go.UM
open Go.AM
set_option maxRecDepth 4000
structure Gr where
 par:Int
 t:Af
 bK:Int
 eW:Int
 dB:Int
def Gr.row (g:Gr):List AV:=[.int .i64 g.par,.int .i64 g.t.m0,.int .i64 g.t.m1,.int .i64 g.t.m2,.int .i64 g.t.m3,.int .i64 g.t.m4,.int .i64 g.t.m5,.int .i64 g.t.m6,.int .i64 g.t.m7,.int .i64 g.t.m8,.int .i64 g.t.t.a,.int .i64 g.t.t.b,.int .i64 g.t.t.c,.int .i64 g.bK,.int .i64 g.eW,.int .i64 g.dB]
end Go.UM
namespace Go.UM
open Go.AM
set_option maxRecDepth 4000
end Go.UM
namespace Go.UM
open Go.AM
set_option maxRecDepth 4000
end Go.UM
namespace Go.UM
open Go.AM
set_option maxRecDepth 4000
end Go.UM
namespace Go.UM
open Go.AM
set_option maxRecDepth 4000
def z4:Af:=⟨0,0,0,0,0,0,0,0,0,z3⟩
end Go.UM
namespace Go.UM
open Go.AM
set_option maxRecDepth 4000
structure In where
 bK:Int
 eW:Int
 dB:Int
 n:Int
 t:Af
def In.row (x:In):List AV:=[.int .i64 x.bK,.int .i64 x.eW,.int .i64 x.dB,.int .i64 x.n,.int .i64 x.t.m0,.int .i64 x.t.m1,.int .i64 x.t.m2,.int .i64 x.t.m3,.int .i64 x.t.m4,.int .i64 x.t.m5,.int .i64 x.t.m6,.int .i64 x.t.m7,.int .i64 x.t.m8,.int .i64 x.t.t.a,.int .i64 x.t.t.b,.int .i64 x.t.t.c]
def b8 (l:List In):List (List AV):=l.map In.row
@[simp] theorem zh (l:List In):(b8 l).length=l.length:=by simp[b8]
@[simp] theorem zi (a b:List In):b8 (a++b)=b8 a++b8 b:=by simp[b8]
@[simp] theorem Ut (l:List In):mF (b8 l):=by simp[b8,In.row]
@[simp] theorem Uu (l:List In):w9 (b8 l):=by simp[b8,In.row]
instance {l:List In}:ki (b8 l) l.length:=⟨zh l⟩
def WK (g:Gr) (k:T3):Bool:=(g.bK==k.a)&&((g.eW==k.b)&&((g.dB==k.c)&&true))
def WL (l:List Gr) (k:T3):Nat:=l.countP fun g=>WK g k
def SS (l:List Gr) (k:T3):List AV:=[.int .i64 k.a,.int .i64 k.b,.int .i64 k.c,.int .i64 (WL l k)]
end Go.UM
namespace Go.UM
open Go.AM
set_option maxRecDepth 4000
end Go.UM
namespace Go.UM
open Go.AM
set_option maxRecDepth 4000
end Go.UM
namespace Go.UM
open Go.AM
set_option maxRecDepth 4000
def p2 (x:Int × Int):List AV:=[.int .i64 x.1,.int .i64 x.2]
def dL (l:List (Int × Int)):List (List AV):=l.map p2
@[simp] theorem SY:dL []=[]:=rfl
@[simp] theorem xm (l:List (Int × Int)):(dL l).length=l.length:=by simp[dL]
@[simp] theorem Jl (a b:List (Int × Int)):dL (a++b)=dL a++dL b:=by simp[dL]
@[simp] theorem SZ (l:List (Int × Int)):mF (dL l):=by simp[dL,p2]
@[simp] theorem S0 (l:List (Int × Int)):w9 (dL l):=by simp[dL,p2]
theorem B9 (l:List (Int × Int)) (k:Nat):(dL l).take k=dL (l.take k):=by simp[dL,List.map_take]
instance {l:List (Int × Int)}:ki (dL l) l.length:=⟨xm l⟩
structure Ms where
 v:List T3
 uv:List (Int × Int)
 t:List T3
def Ms.row (m:Ms):List AV:=[.aH 3 (bD m.v),.aH 2 (dL m.uv),.aH 3 (bD m.t)]
def j3 (p:T3):Bool:= !(decide (-4096≤p.a∧p.a≤4096∧ -4096≤p.b∧p.b≤4096∧ -4096≤p.c∧p.c≤4096))
def pW (x:Int × Int):Bool:= !(decide (0≤x.1∧x.1≤65535∧0≤x.2∧x.2≤65535))
def kV (n:Nat) (t:T3):Bool:= !(decide (0≤t.a∧t.a<n∧0≤t.b∧t.b<n∧0≤t.c∧t.c<n∧t.a≠t.b∧t.b≠t.c∧t.c≠t.a))
def iB (m:Ms):Int:=
 if 64<m.v.length∨64<m.t.length then 3
 else if m.v.length=0∨m.t.length=0∨m.uv.length≠m.v.length then 5
 else if m.v.any j3=true then 8
 else if m.uv.any pW=true∨m.t.any (kV m.v.length)=true then 5 else 0
def nH {α:Type} (l:List α) (p:α→Bool):Int:=if l.any p=true then (l.findIdx p:Int)else -1
theorem nI {α:Type} {p:α→Bool} {x:α}:∀ {l:List α} {i:Nat},l[i]? =some x→p x=true→(l.take i).any p=false→l.findIdx p=i
 |[],_,h,_,_=>by simp at h
 |a::r,0,h,hp,_=>by simp at h; subst h; simp[List.findIdx_cons,hp]
 |a::r,i+1,h,hp,hn=>by
  simp only[List.take_succ_cons,List.any_cons,Bool.or_eq_false_iff]at hn
  rw[List.findIdx_cons,hn.1,nI (l:=r) (i:=i) (by simpa using h) hp hn.2]
  rfl
theorem dC {α:Type} {p:α→Bool} {l:List α} {i:Nat} {x:α} (h:l[i]? =some x) (hp:p x=true):l.any p=true:=List.any_eq_true.2 ⟨x,List.mem_of_getElem? h,hp⟩
theorem cI {α:Type} {l:List α} {k:Nat} {x:α} {p:α→Bool} (h:l[k]? =some x):(l.take (k+1)).any p=((l.take k).any p||p x):=by
 rw[az h]; simp
theorem qc {α:Type} {l:List α} {p:α→Bool}:decide (nH l p≥0)=l.any p:=by
 unfold nH
 split
 ·rename_i h; rw[h]; simp
 ·rename_i h; simp at h ⊢; exact h
theorem E6 {R:Env} (h:Kt R) (g:Nat) (hb:b6 R.P (R.ft g)) (l:List T3) (p:T3→Bool) (hc:∀x ∈ l,R.Pc g [.agg (t3 x)] (.bool (p x))) (hl:l.length≤1073741824):R.Pc 217 [.aH 3 (bD l),R.cl g []] (.int .i64 (nH l p)):=
 h.O9.enter 100 rfl fun X bb hfit hp=>by
  refine sh ?_
  refine gk 100 (fun i:Nat=>i≤l.length∧(l.take i).any p=false) (fun i=>⟨[(0,.aH 3 (bD l)),(1,R.cl g []),(7,.int .i64 l.length),(8,.int .i64 i)],[],0⟩) (fun i=>l.length - i) (0) ?_ ?_
  ·exact⟨Nat.zero_le _,by simp⟩
  ·intro i hi
   dsimp only
   refine sh ?_
   refine cS (fun h1=> ?_) (fun h1=> ?_)
   ·obtain⟨x,hx⟩:∃u_,l[i]? =some u_:=⟨_,List.getElem?_eq_getElem (by first|omega|(simp<;>omega))⟩
    refine sh ?_
    refine ab hx ?_
    refine sh ?_
    refine ae.pure hb (hc x (List.mem_of_getElem? hx)) rfl ?_
    refine sh ?_
    refine cS (fun h2=> ?_) (fun h2=> ?_)
    ·refine sh ?_
     refine rT ?_
     all_goals repeat' (first|exact True.intro|refine And.intro ?_ ?_|(intro _u; clear _u)|(with_reducible first|exact ai.fg|refine eM ?_ ?_|refine eF ?_ ?_ ?_|refine eN ?_|refine eL ?_ ?_ ?_|refine eA ?_ ?_|refine aj.mk ⟨_,hp,rfl⟩ ?_ ?_)|refine aj.mk ⟨_,hp,rfl⟩ ?_ ?_)
     all_goals try first|with_reducible rfl|omega|exact .inl (by decide)|(simp; done)|rfl
     unfold nH
     rw[if_pos (dC hx h2),nI hx h2 hi.2]
    ·refine sh ?_
     refine kq (i+1) ?_ ?_
     ·refine⟨by omega,?_⟩
      rw[cI hx,hi.2,h2]; rfl
     ·omega
   ·refine sh ?_
    refine rT ?_
    all_goals repeat' (first|exact True.intro|refine And.intro ?_ ?_|(intro _u; clear _u)|(with_reducible first|exact ai.fg|refine eM ?_ ?_|refine eF ?_ ?_ ?_|refine eN ?_|refine eL ?_ ?_ ?_|refine eA ?_ ?_|refine aj.mk ⟨_,hp,rfl⟩ ?_ ?_)|refine aj.mk ⟨_,hp,rfl⟩ ?_ ?_)
    all_goals try first|with_reducible rfl|omega|exact .inl (by decide)|(simp; done)|rfl
    unfold nH
    have h3:=hi.2
    rw[List.take_of_length_le (by omega)]at h3
    rw[if_neg (by simp[h3])]
theorem B' {R:Env} (h:Ku R) (g:Nat) (hb:b6 R.P (R.ft g)) (l:List T3) (p:T3→Bool) (hc:∀x ∈ l,R.Pc g [.agg (t3 x)] (.bool (p x))) (hl:l.length≤1073741824):R.Pc 209 [.aH 3 (bD l),R.cl g []] (.bool (l.any p)):=
 h.Pa.enter 100 rfl fun X bb hfit hp=>by
  refine sh ?_
  refine ae.pure h.n217.O9.hb (E6 h.n217 g hb l p hc hl) rfl ?_
  refine sh ?_
  refine rT ?_
  all_goals repeat' (first|exact True.intro|refine And.intro ?_ ?_|(intro _u; clear _u)|(with_reducible first|exact ai.fg|refine eM ?_ ?_|refine eF ?_ ?_ ?_|refine eN ?_|refine eL ?_ ?_ ?_|refine eA ?_ ?_|refine aj.mk ⟨_,hp,rfl⟩ ?_ ?_)|refine aj.mk ⟨_,hp,rfl⟩ ?_ ?_)
  all_goals try first|with_reducible rfl|omega|exact .inl (by decide)|(simp; done)|rfl
  exact qc
theorem E7 {R:Env} (h:Kv R) (g:Nat) (hb:b6 R.P (R.ft g)) (l:List (Int × Int)) (p:Int × Int→Bool) (hc:∀x ∈ l,R.Pc g [.agg (p2 x)] (.bool (p x))) (hl:l.length≤1073741824):R.Pc 218 [.aH 2 (dL l),R.cl g []] (.int .i64 (nH l p)):=
 h.Pd.enter 100 rfl fun X bb hfit hp=>by
  refine sh ?_
  refine gk 100 (fun i:Nat=>i≤l.length∧(l.take i).any p=false) (fun i=>⟨[(0,.aH 2 (dL l)),(1,R.cl g []),(7,.int .i64 l.length),(8,.int .i64 i)],[],0⟩) (fun i=>l.length - i) (0) ?_ ?_
  ·exact⟨Nat.zero_le _,by simp⟩
  ·intro i hi
   dsimp only
   refine sh ?_
   refine cS (fun h1=> ?_) (fun h1=> ?_)
   ·obtain⟨x,hx⟩:∃u_,l[i]? =some u_:=⟨_,List.getElem?_eq_getElem (by first|omega|(simp<;>omega))⟩
    refine sh ?_
    refine ab hx ?_
    refine sh ?_
    refine ae.pure hb (hc x (List.mem_of_getElem? hx)) rfl ?_
    refine sh ?_
    refine cS (fun h2=> ?_) (fun h2=> ?_)
    ·refine sh ?_
     refine rT ?_
     all_goals repeat' (first|exact True.intro|refine And.intro ?_ ?_|(intro _u; clear _u)|(with_reducible first|exact ai.fg|refine eM ?_ ?_|refine eF ?_ ?_ ?_|refine eN ?_|refine eL ?_ ?_ ?_|refine eA ?_ ?_|refine aj.mk ⟨_,hp,rfl⟩ ?_ ?_)|refine aj.mk ⟨_,hp,rfl⟩ ?_ ?_)
     all_goals try first|with_reducible rfl|omega|exact .inl (by decide)|(simp; done)|rfl
     unfold nH
     rw[if_pos (dC hx h2),nI hx h2 hi.2]
    ·refine sh ?_
     refine kq (i+1) ?_ ?_
     ·refine⟨by omega,?_⟩
      rw[cI hx,hi.2,h2]; rfl
     ·omega
   ·refine sh ?_
    refine rT ?_
    all_goals repeat' (first|exact True.intro|refine And.intro ?_ ?_|(intro _u; clear _u)|(with_reducible first|exact ai.fg|refine eM ?_ ?_|refine eF ?_ ?_ ?_|refine eN ?_|refine eL ?_ ?_ ?_|refine eA ?_ ?_|refine aj.mk ⟨_,hp,rfl⟩ ?_ ?_)|refine aj.mk ⟨_,hp,rfl⟩ ?_ ?_)
    all_goals try first|with_reducible rfl|omega|exact .inl (by decide)|(simp; done)|rfl
    unfold nH
    have h3:=hi.2
    rw[List.take_of_length_le (by omega)]at h3
    rw[if_neg (by simp[h3])]
theorem Ca {R:Env} (h:Kw R) (g:Nat) (hb:b6 R.P (R.ft g)) (l:List (Int × Int)) (p:Int × Int→Bool) (hc:∀x ∈ l,R.Pc g [.agg (p2 x)] (.bool (p x))) (hl:l.length≤1073741824):R.Pc 210 [.aH 2 (dL l),R.cl g []] (.bool (l.any p)):=
 h.Pf.enter 100 rfl fun X bb hfit hp=>by
  refine sh ?_
  refine ae.pure h.n218.Pd.hb (E7 h.n218 g hb l p hc hl) rfl ?_
  refine sh ?_
  refine rT ?_
  all_goals repeat' (first|exact True.intro|refine And.intro ?_ ?_|(intro _u; clear _u)|(with_reducible first|exact ai.fg|refine eM ?_ ?_|refine eF ?_ ?_ ?_|refine eN ?_|refine eL ?_ ?_ ?_|refine eA ?_ ?_|refine aj.mk ⟨_,hp,rfl⟩ ?_ ?_)|refine aj.mk ⟨_,hp,rfl⟩ ?_ ?_)
  all_goals try first|with_reducible rfl|omega|exact .inl (by decide)|(simp; done)|rfl
  exact qc
def E8 (R:Env) (m:Ms):af:=[(0,.var (R.ty 25) m.row)]
theorem E9 {R:Env} (h:Kx R) (g:Nat) (l:List T3) (p:T3→Bool) (m:Ms) (hc:∀x ∈ l,R.Mc g [.agg (t3 x),.loc 0 1 0 0] (E8 R m) (.bool (p x)) (E8 R m) 1) (hl:l.length≤1073741824):
  R.Mc 219 [.aH 3 (bD l),R.cl g [.loc 0 1 0 0]] (E8 R m) (.int .i64 (nH l p)) (E8 R m) 1:=
 h.V9.aV 100 1 rfl rfl rfl fun X bb hfit hp=>by
  refine sh ?_
  refine gk 100 (fun i:Nat=>i≤l.length∧(l.take i).any p=false) (fun i=>⟨[(0,.aH 3 (bD l)),(1,R.cl g [.loc 0 1 0 0]),(7,.int .i64 l.length),(8,.int .i64 i)],E8 R m,1⟩) (fun i=>l.length - i) (0) ?_ ?_
  ·exact⟨Nat.zero_le _,by simp⟩
  ·intro i hi
   dsimp only
   refine sh ?_
   refine cS (fun h1=> ?_) (fun h1=> ?_)
   ·obtain⟨x,hx⟩:∃u_,l[i]? =some u_:=⟨_,List.getElem?_eq_getElem (by first|omega|(simp<;>omega))⟩
    refine sh ?_
    refine ab hx ?_
    refine sh ?_
    refine cM false [0] (hc x (List.mem_of_getElem? hx)) ?_
    repeat (intro _; first|refine eK ?_|refine eP ?_)
    refine sh ?_
    refine cS (fun h2=> ?_) (fun h2=> ?_)
    ·refine sh ?_
     refine rM [0] ?_
     all_goals repeat' (first|exact True.intro|refine And.intro ?_ ?_|(intro _u; clear _u)|(with_reducible first|exact ai.fg|refine eM ?_ ?_|refine eF ?_ ?_ ?_|refine eN ?_|refine eL ?_ ?_ ?_|refine eA ?_ ?_|refine aj.mk ⟨_,hp,rfl⟩ ?_ ?_)|refine aj.mk ⟨_,hp,rfl⟩ ?_ ?_)
     all_goals try first|with_reducible rfl|omega|exact .inl (by decide)|(simp; done)|rfl
     unfold nH
     rw[if_pos (dC hx h2),nI hx h2 hi.2]
    ·refine sh ?_
     refine kq (i+1) ?_ ?_
     ·refine⟨by omega,?_⟩
      rw[cI hx,hi.2,h2]; rfl
     ·omega
   ·refine sh ?_
    refine rM [0] ?_
    all_goals repeat' (first|exact True.intro|refine And.intro ?_ ?_|(intro _u; clear _u)|(with_reducible first|exact ai.fg|refine eM ?_ ?_|refine eF ?_ ?_ ?_|refine eN ?_|refine eL ?_ ?_ ?_|refine eA ?_ ?_|refine aj.mk ⟨_,hp,rfl⟩ ?_ ?_)|refine aj.mk ⟨_,hp,rfl⟩ ?_ ?_)
    all_goals try first|with_reducible rfl|omega|exact .inl (by decide)|(simp; done)|rfl
    unfold nH
    have h3:=hi.2
    rw[List.take_of_length_le (by omega)]at h3
    rw[if_neg (by simp[h3])]
theorem Cb {R:Env} (h:Ky R) (g:Nat) (l:List T3) (p:T3→Bool) (m:Ms) (hc:∀x ∈ l,R.Mc g [.agg (t3 x),.loc 0 1 0 0] (E8 R m) (.bool (p x)) (E8 R m) 1) (hl:l.length≤1073741824):
  R.Mc 211 [.aH 3 (bD l),R.cl g [.loc 0 1 0 0]] (E8 R m) (.bool (l.any p)) (E8 R m) 1:=
 h.V'.aV 100 1 rfl rfl rfl fun X bb hfit hp=>by
  refine sh ?_
  refine cM false [0] (E9 h.n219 g l p m hc hl) ?_
  repeat (intro _; first|refine eK ?_|refine eP ?_)
  refine sh ?_
  refine rM [0] ?_
  all_goals repeat' (first|exact True.intro|refine And.intro ?_ ?_|(intro _u; clear _u)|(with_reducible first|exact ai.fg|refine eM ?_ ?_|refine eF ?_ ?_ ?_|refine eN ?_|refine eL ?_ ?_ ?_|refine eA ?_ ?_|refine aj.mk ⟨_,hp,rfl⟩ ?_ ?_)|refine aj.mk ⟨_,hp,rfl⟩ ?_ ?_)
  all_goals try first|with_reducible rfl|omega|exact .inl (by decide)|(simp; done)|rfl
  exact qc
theorem S5 {R:Env} (h:La R) (p:T3):R.Pc 206 [.agg (t3 p)] (.bool (j3 p)):=
 h.Qu.enter 60 rfl fun X bb hfit hp=>by
  unfold j3
  refine sh ?_
  refine cS (fun h1=> ?_) (fun h1=> ?_)
  ·refine sh ?_
   refine rT ?_
   all_goals repeat' (first|exact True.intro|refine And.intro ?_ ?_|(intro _u; clear _u)|(with_reducible first|exact ai.fg|refine eM ?_ ?_|refine eF ?_ ?_ ?_|refine eN ?_|refine eL ?_ ?_ ?_|refine eA ?_ ?_|refine aj.mk ⟨_,hp,rfl⟩ ?_ ?_)|refine aj.mk ⟨_,hp,rfl⟩ ?_ ?_)
   all_goals try first|with_reducible rfl|omega|exact .inl (by decide)|(simp; done)|rfl
   simp; omega
  ·refine sh ?_
   refine rT ?_
   all_goals repeat' (first|exact True.intro|refine And.intro ?_ ?_|(intro _u; clear _u)|(with_reducible first|exact ai.fg|refine eM ?_ ?_|refine eF ?_ ?_ ?_|refine eN ?_|refine eL ?_ ?_ ?_|refine eA ?_ ?_|refine aj.mk ⟨_,hp,rfl⟩ ?_ ?_)|refine aj.mk ⟨_,hp,rfl⟩ ?_ ?_)
   all_goals try first|with_reducible rfl|omega|exact .inl (by decide)|(simp; done)|rfl
   rw[Bool.eq_iff_iff]; simp only[Bool.not_eq_true',decide_eq_true_eq,decide_eq_false_iff_not]; omega
theorem MH {R:Env} (h:Lb R) (p:Int × Int):R.Pc 207 [.agg (p2 p)] (.bool (pW p)):=
 h.Qw.enter 60 rfl fun X bb hfit hp=>by
  unfold pW
  refine sh ?_
  refine cS (fun h1=> ?_) (fun h1=> ?_)
  ·refine sh ?_
   refine rT ?_
   all_goals repeat' (first|exact True.intro|refine And.intro ?_ ?_|(intro _u; clear _u)|(with_reducible first|exact ai.fg|refine eM ?_ ?_|refine eF ?_ ?_ ?_|refine eN ?_|refine eL ?_ ?_ ?_|refine eA ?_ ?_|refine aj.mk ⟨_,hp,rfl⟩ ?_ ?_)|refine aj.mk ⟨_,hp,rfl⟩ ?_ ?_)
   all_goals try first|with_reducible rfl|omega|exact .inl (by decide)|(simp; done)|rfl
   simp; omega
  ·refine sh ?_
   refine rT ?_
   all_goals repeat' (first|exact True.intro|refine And.intro ?_ ?_|(intro _u; clear _u)|(with_reducible first|exact ai.fg|refine eM ?_ ?_|refine eF ?_ ?_ ?_|refine eN ?_|refine eL ?_ ?_ ?_|refine eA ?_ ?_|refine aj.mk ⟨_,hp,rfl⟩ ?_ ?_)|refine aj.mk ⟨_,hp,rfl⟩ ?_ ?_)
   all_goals try first|with_reducible rfl|omega|exact .inl (by decide)|(simp; done)|rfl
   rw[Bool.eq_iff_iff]; simp only[Bool.not_eq_true',decide_eq_true_eq,decide_eq_false_iff_not]; omega
theorem S6 {R:Env} (h:Lc R) (m:Ms) (p:T3):R.Mc 208 [.agg (t3 p),.loc 0 1 0 0] (E8 R m) (.bool (kV m.v.length p)) (E8 R m) 1:=
 h.Wj.aV 60 1 rfl rfl rfl fun X bb hfit hp=>by
  unfold kV
  refine sh ?_
  refine cS (fun h1=> ?_) (fun h1=> ?_)
  ·refine sh ?_
   refine rM [0] ?_
   all_goals repeat' (first|exact True.intro|refine And.intro ?_ ?_|(intro _u; clear _u)|(with_reducible first|exact ai.fg|refine eM ?_ ?_|refine eF ?_ ?_ ?_|refine eN ?_|refine eL ?_ ?_ ?_|refine eA ?_ ?_|refine aj.mk ⟨_,hp,rfl⟩ ?_ ?_)|refine aj.mk ⟨_,hp,rfl⟩ ?_ ?_)
   all_goals try first|with_reducible rfl|omega|exact .inl (by decide)|(simp; done)|rfl
   simp; omega
  ·refine sh ?_
   refine cS (fun h2=> ?_) (fun h2=> ?_)
   ·refine sh ?_
    refine rM [0] ?_
    all_goals repeat' (first|exact True.intro|refine And.intro ?_ ?_|(intro _u; clear _u)|(with_reducible first|exact ai.fg|refine eM ?_ ?_|refine eF ?_ ?_ ?_|refine eN ?_|refine eL ?_ ?_ ?_|refine eA ?_ ?_|refine aj.mk ⟨_,hp,rfl⟩ ?_ ?_)|refine aj.mk ⟨_,hp,rfl⟩ ?_ ?_)
    all_goals try first|with_reducible rfl|omega|exact .inl (by decide)|(simp; done)|rfl
    simp; omega
   ·refine sh ?_
    refine cS (fun h3=> ?_) (fun h3=> ?_)
    ·refine sh ?_
     refine rM [0] ?_
     all_goals repeat' (first|exact True.intro|refine And.intro ?_ ?_|(intro _u; clear _u)|(with_reducible first|exact ai.fg|refine eM ?_ ?_|refine eF ?_ ?_ ?_|refine eN ?_|refine eL ?_ ?_ ?_|refine eA ?_ ?_|refine aj.mk ⟨_,hp,rfl⟩ ?_ ?_)|refine aj.mk ⟨_,hp,rfl⟩ ?_ ?_)
     all_goals try first|with_reducible rfl|omega|exact .inl (by decide)|(simp; done)|rfl
     simp; omega
    ·refine sh ?_
     refine cS (fun h4=> ?_) (fun h4=> ?_)
     ·refine sh ?_
      refine rM [0] ?_
      all_goals repeat' (first|exact True.intro|refine And.intro ?_ ?_|(intro _u; clear _u)|(with_reducible first|exact ai.fg|refine eM ?_ ?_|refine eF ?_ ?_ ?_|refine eN ?_|refine eL ?_ ?_ ?_|refine eA ?_ ?_|refine aj.mk ⟨_,hp,rfl⟩ ?_ ?_)|refine aj.mk ⟨_,hp,rfl⟩ ?_ ?_)
      all_goals try first|with_reducible rfl|omega|exact .inl (by decide)|(simp; done)|rfl
      simp; omega
     ·refine sh ?_
      refine rM [0] ?_
      all_goals repeat' (first|exact True.intro|refine And.intro ?_ ?_|(intro _u; clear _u)|(with_reducible first|exact ai.fg|refine eM ?_ ?_|refine eF ?_ ?_ ?_|refine eN ?_|refine eL ?_ ?_ ?_|refine eA ?_ ?_|refine aj.mk ⟨_,hp,rfl⟩ ?_ ?_)|refine aj.mk ⟨_,hp,rfl⟩ ?_ ?_)
      all_goals try first|with_reducible rfl|omega|exact .inl (by decide)|(simp; done)|rfl
      rw[Bool.eq_iff_iff]; simp only[Bool.not_eq_true',decide_eq_true_eq,decide_eq_false_iff_not,beq_iff_eq]; omega
theorem xn {R:Env} (h:Hk R) (m:Ms):R.Pc 193 [.agg m.row] (.int .i64 (iB m)):=
 h.Ld.enter 100 rfl fun X bb hfit hp=>by
  unfold iB
  refine sh ?_
  refine cS (fun h1=> ?_) (fun h1=> ?_)
  ·rw[if_pos (.inl (by omega))]
   refine sh ?_
   exact rT
  ·refine sh ?_
   refine cS (fun h2=> ?_) (fun h2=> ?_)
   ·rw[if_pos (.inr (by omega))]
    refine sh ?_
    exact rT
   ·rw[if_neg (by omega)]
    refine sh ?_
    refine cS (fun h3=> ?_) (fun h3=> ?_)
    ·rw[if_pos (.inl (by omega))]
     refine sh ?_
     exact rT
    ·refine sh ?_
     refine cS (fun h4=> ?_) (fun h4=> ?_)
     ·rw[if_pos (.inr (.inl (by omega)))]
      refine sh ?_
      exact rT
     ·refine sh ?_
      refine cS (fun h5=> ?_) (fun h5=> ?_)
      ·rw[if_pos (.inr (.inr (by omega)))]
       refine sh ?_
       exact rT
      ·rw[if_neg (by omega)]
       refine sh ?_
       refine ae.pure h.n209.Pa.hb (B' h.n209 206 h.n206.Qu.hb m.v j3 (fun x _=>S5 h.n206 x) (by omega)) rfl ?_
       refine sh ?_
       refine cS (fun h6=> ?_) (fun h6=> ?_)
       ·rw[if_pos h6]
        refine sh ?_
        exact rT
       ·rw[if_neg (by rw[h6]; decide)]
        refine sh ?_
        refine ae.pure h.n210.Pf.hb (Ca h.n210 207 h.n207.Qw.hb m.uv pW (fun x _=>MH h.n207 x) (by omega)) rfl ?_
        refine sh ?_
        refine cS (fun h7=> ?_) (fun h7=> ?_)
        ·rw[if_pos (.inl h7)]
         refine sh ?_
         exact rT
        ·refine sh ?_
         refine cM false [0] (Cb h.n211 208 m.t (kV m.v.length) m (fun x _=>S6 h.n208 m x) (by omega)) ?_
         repeat (intro _; first|refine eK ?_|refine eP ?_)
         refine sh ?_
         refine cS (fun h8=> ?_) (fun h8=> ?_)
         ·rw[if_pos (.inr h8)]
          refine sh ?_
          exact rT
         ·rw[if_neg (by rw[h7,h8]; decide)]
          refine sh ?_
          exact rT
end Go.UM
