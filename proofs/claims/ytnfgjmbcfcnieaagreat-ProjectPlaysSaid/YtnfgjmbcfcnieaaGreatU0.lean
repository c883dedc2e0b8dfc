/- Of the reckoning machine, and what is proved with it: texts joined by program. -/
import Derived.Test.YtnfgjmbcfcnieaaGreatK3
import Derived.Laws.Externs
set_option linter.all false
namespace Go.UM
open Go.AM
namespace Z
instance (n:Nat):OfNat Sc n:=⟨.t (OfNat.ofNat n)⟩
instance (n:Nat):OfNat xv n:=⟨.t (OfNat.ofNat n)⟩
theorem zt(n:Nat):(OfNat.ofNat n:Sc)=.t (OfNat.ofNat n):=rfl
theorem zr(n:Nat):(OfNat.ofNat n:xv)=.t (OfNat.ofNat n):=rfl
def o(d:Nat)(x:vN):cG:=⟨some d,none,x⟩
def m(d:Nat)(x:Sc):cG:=⟨some d,none,.mv x⟩
def l(d n:Nat)(x:Sc):cG:=⟨some d,none,.load false n x⟩
def g(d n:Nat)(x:Sc):cG:=⟨some d,none,.load true n x⟩
def f(d n:Nat)(x:Sc):cG:=⟨some d,none,.aF n x⟩
def b(d:Nat)(p:BinOp)(x y:Sc):cG:=⟨some d,none,.bin p x y⟩
def c(d n:Nat)(l:List Sc):cG:=⟨some d,none,.call n l⟩
def e(d:Nat)(x:Sc)(n:Nat):cG:=⟨some d,none,.ext x n⟩
def n(d:Nat)(x:Sc):cG:=⟨some d,none,.fw x⟩
def w(d:Nat)(c a b:Sc):cG:=⟨some d,none,.pick c a b⟩
def x(d n:Nat)(a:Sc):cG:=⟨some d,none,.box n a⟩
def a(d n:Nat)(z:List AV):cG:=⟨some d,none,.alloc n z⟩
def u(d n:Nat)(x i:Sc):cG:=⟨some d,none,.mi n x i⟩
def v(x:vN):cG:=⟨none,none,x⟩
def r(n:Nat)(x y:Sc):cG:=⟨none,none,.store n x y⟩
def i(n:Int):Sc:=.k (.int .i64 n)
def j(n:Int):AV:=.int .i64 n
def k(l:List Nat)(c:dx):dx:=.sN l c
def q(l:List cG)(c:dx):dx:=.seq (.ops l) c
def s(a b:dx):dx:=.seq a b
def p(l:List cG):dx:=.ops l
def h(c:Sc)(a b:dx):dx:=.cond c a b
def t(l:List cG):dx:=.seq (.ops l) .ret
def y(l:List Nat)(o:List cG)(c:dx):dx:=.sN l (.seq (.ops o) c)
def Z1:List AV:=[j 0,j 0,.int .u64 0,j 0,.int .u32 0,.int .u8 0,.int .u8 0,.int .u8 0,.int .u8 0,.int .u8 0,.int .u8 0,.int .u8 0,.int .u8 0,.int .u32 0,.int .u32 0,j 0,j 0,j 0,.ai,.ai,.ai,j 0,.ai,j 0,j 0,j 0,j 0,j 0,j 0,j 0,j 0,j 0,j 0,j 0,j 0,j 0,j 0,j 0,j 0,j 0,j 0,j 0,j 0,j 0,j 0,j 0,j 0,j 0,j 0,j 0,j 0,j 0,j 0,j 0,j 0,j 0,j 0]
def Z2:List AV:=[j 0,.int .u64 0,j 0,.int .u32 0,.int .u8 0,.int .u8 0,.int .u8 0,.int .u8 0,.int .u8 0,.int .u8 0,.int .u8 0,.int .u8 0,.int .u32 0,.int .u32 0,j 0,j 0,j 0,.ai,.ai,.ai,j 0,.ai,j 0,j 0,j 0,j 0,j 0,j 0,j 0,j 0,j 0,j 0,j 0,j 0,j 0,j 0,j 0,j 0,j 0,j 0]
def Z3:List AV:=[.int .u64 0,j 0,.int .u32 0,.int .u8 0,.int .u8 0,.int .u8 0,.int .u8 0,.int .u8 0,.int .u8 0,.int .u8 0,.int .u8 0,.int .u32 0,.int .u32 0,j 0,j 0]
def Z4:List AV:=[j 0,.ai,.ai,.ai,j 0,.ai,j 0,j 0,j 0,j 0,j 0,j 0,j 0,j 0,j 0,j 0,j 0,j 0,j 0,j 0,j 0,j 0,j 0,j 0]
def Z5:List AV:=[.int .u8 0,.int .u8 0,.int .u8 0,.int .u8 0,.int .u8 0,.int .u8 0,.int .u8 0,.int .u8 0]
def Z6:List AV:=[j 0,j 0,j 0,j 0,j 0,j 0,j 0,j 0,j 0,j 0,j 0,j 0,j 0,j 0,j 0,j 0,j 0,j 0,.int .u8 0]
def Z7:List AV:=[.ai,.ai,.ai,.ai,.ai,.ai,.int .u32 0,.int .u32 0,.int .u32 0]
def Z8:List AV:=[j 0,j 0,j 0,j 0,j 0,j 0,j 0,j 0,j 0,j 0,j 0,j 0,j 0,j 0,j 0,j 0]
def Z9:List AV:=[j 0,j 0,j 0,j 0,j 0,j 0,j 0,j 0,j 0,j 0,j 0,j 0,j 0]
def KQ:List AV:=[j 0,j 0,j 0,j 0,j 0,j 0,j 0,j 0,j 0,j 0,j 0,j 0]
def SI:List AV:=[.int .u32 0,.int .u32 0]
@[reducible] def Nf{b:br}(a:br)(_:a=b:=by dsimp only[zt,zr,o,m,l,g,f,b,c,e,n,w,x,a,u,v,r,i,j,k,q,s,p,h,t,y,Z1,Z2,Z3,Z4,Z5,Z6,Z7,Z8,Z9,KQ,SI]):br:=b
end Z
open Z
def c62:br:=Nf ⟨1,[2],q [m 2 (.k .ai)] (s (q [m 3 0,o 4 (.Bo false 3)] (h 4 (t [m 2 (.k .ai)]) .skip)) (k [0] (t [o 5 (.aq 4 1 0 [.int .u8 0] []),m 6 0,o 7 (.app 4 1 5 6),m 2 7])))⟩
structure N62(R:Env):Prop where
 o62:R.Fn 62 c62
def c47:br:=Nf ⟨2,[4],q [m 4 (.k (.bool false))] (q [m 5 0,o 6 (.Y8 5),m 7 1,o 8 (.Y8 7),o 9 (.bst .eql 6 8),m 4 9] (k [4] .ret))⟩
structure N47(R:Env):Prop where
 o47:R.Fn 47 c47
def Uc:br:=Nf ⟨2,[4],q [m 4 (i 0)] (s (q [m 6 0,n 7 6,m 8 (i 0)] (k [0,1,7,8] (.block 0 (.loop (q [b 9 .lss 8 7] (s (h 9 .skip (.exit 0)) (k [0,1,7,8] (s (.block 1 (q [m 10 8,m 5 10] (q [m 11 1,m 12 0,m 13 5,u 14 1 12 13,l 15 1 14,b 16 .eql 11 15] (k [0,1,5,7,8,16] (h 16 (t [m 17 5,m 4 17]) .skip))))) (k [0,1,7,8] (p [b 18 .add 8 (i 1),m 8 18])))))))))) (k [] (t [m 4 (i (-1))])))⟩
structure OZ(R:Env):Prop where
 Ud:R.Fn 106 Uc
def Ue:br:=Nf ⟨2,[4],q [m 4 (.k (.bool false))] (q [m 5 0,m 6 1,c 7 106 [5,6],b 8 .geq 7 (i 0),m 4 8] (k [4] .ret))⟩
structure O0(R:Env):Prop where
 Uf:R.Fn 100 Ue
 n106:OZ R
def Ug:br:=Nf ⟨1,[2],q [m 2 (.k .ai)] (s (q [m 3 0,o 4 (.Bo false 3)] (h 4 (t [m 2 (.k .ai)]) .skip)) (k [0] (t [o 5 (.aq 13 3 0 [j 0,j 0,j 0] []),m 6 0,o 7 (.app 13 3 5 6),m 2 7])))⟩
structure KR(R:Env):Prop where
 O1:R.Fn 101 Ug
def Uh:br:=Nf ⟨2,[4],q [m 4 (i 0)] (s (q [m 6 0,n 7 6,m 8 (i 0)] (k [0,1,7,8] (.block 0 (.loop (q [b 9 .lss 8 7] (s (h 9 .skip (.exit 0)) (k [0,1,7,8] (s (.block 1 (q [m 10 8,m 5 10] (q [m 11 1,m 12 0,m 13 5,u 14 3 12 13,g 15 3 14,o 16 (.gW 11 [15])] (k [0,1,5,7,8,16] (h 16 (t [m 17 5,m 4 17]) .skip))))) (k [0,1,7,8] (p [b 18 .add 8 (i 1),m 8 18])))))))))) (k [] (t [m 4 (i (-1))])))⟩
structure O2(R:Env):Prop where
 Ui:R.Fn 217 Uh
def Uj:br:=Nf ⟨2,[4],q [m 4 (.k (.bool false))] (q [m 5 0,m 6 1,c 7 217 [5,6],b 8 .geq 7 (i 0),m 4 8] (k [4] .ret))⟩
structure O3(R:Env):Prop where
 Uk:R.Fn 209 Uj
 n217:O2 R
def Ul:br:=Nf ⟨2,[4],q [m 4 (i 0)] (s (q [m 6 0,n 7 6,m 8 (i 0)] (k [0,1,7,8] (.block 0 (.loop (q [b 9 .lss 8 7] (s (h 9 .skip (.exit 0)) (k [0,1,7,8] (s (.block 1 (q [m 10 8,m 5 10] (q [m 11 1,m 12 0,m 13 5,u 14 2 12 13,g 15 2 14,o 16 (.gW 11 [15])] (k [0,1,5,7,8,16] (h 16 (t [m 17 5,m 4 17]) .skip))))) (k [0,1,7,8] (p [b 18 .add 8 (i 1),m 8 18])))))))))) (k [] (t [m 4 (i (-1))])))⟩
structure O4(R:Env):Prop where
 Um:R.Fn 218 Ul
def Un:br:=Nf ⟨2,[4],q [m 4 (.k (.bool false))] (q [m 5 0,m 6 1,c 7 218 [5,6],b 8 .geq 7 (i 0),m 4 8] (k [4] .ret))⟩
structure O5(R:Env):Prop where
 Uo:R.Fn 210 Un
 n218:O4 R
def Up:br:=Nf ⟨2,[4],q [m 4 (i 0)] (s (q [m 6 0,n 7 6,m 8 (i 0)] (k [0,1,7,8] (.block 0 (.loop (q [b 9 .lss 8 7] (s (h 9 .skip (.exit 0)) (k [0,1,7,8] (s (.block 1 (q [m 10 8,m 5 10] (q [m 11 1,m 12 0,m 13 5,u 14 3 12 13,g 15 3 14,o 16 (.gW 11 [15])] (k [0,1,5,7,8,16] (h 16 (t [m 17 5,m 4 17]) .skip))))) (k [0,1,7,8] (p [b 18 .add 8 (i 1),m 8 18])))))))))) (k [] (t [m 4 (i (-1))])))⟩
structure O6(R:Env):Prop where
 abq:R.Fn 219 Up
def Uq:br:=Nf ⟨2,[4],q [m 4 (.k (.bool false))] (q [m 5 0,m 6 1,c 7 219 [5,6],b 8 .geq 7 (i 0),m 4 8] (k [4] .ret))⟩
structure O7(R:Env):Prop where
 abr:R.Fn 211 Uq
 n219:O6 R
def Ur:br:=Nf ⟨2,[4,5],q [m 4 (.k (.int .u64 0)),m 5 (.k (.int .u64 0))] (q [m 14 0,b 15 .and 14 (.k (.int .u64 4294967295)),m 6 15] (q [m 16 0,b 17 .shr 16 (.k (.int .u64 32)),m 7 17] (q [m 18 1,b 19 .and 18 (.k (.int .u64 4294967295)),m 8 19] (q [m 20 1,b 21 .shr 20 (.k (.int .u64 32)),m 9 21] (q [m 22 6,m 23 8,b 24 .mul 22 23,m 10 24] (q [m 25 7,m 26 8,b 27 .mul 25 26,m 28 10,b 29 .shr 28 (.k (.int .u64 32)),b 30 .add 27 29,m 11 30] (y [0,1,6,7,9,11] [m 31 11,b 32 .and 31 (.k (.int .u64 4294967295)),m 12 32] (q [m 33 11,b 34 .shr 33 (.k (.int .u64 32)),m 13 34] (q [m 35 12,m 36 6,m 37 9,b 38 .mul 36 37,b 39 .add 35 38,m 12 39] (y [0,1,7,9,12,13] [m 40 7,m 41 9,b 42 .mul 40 41,m 43 13,b 44 .add 42 43,m 45 12,b 46 .shr 45 (.k (.int .u64 32)),b 47 .add 44 46,m 4 47] (k [0,1,4] (t [m 48 0,m 49 1,b 50 .mul 48 49,m 5 50]))))))))))))⟩
structure KT(R:Env):Prop where
 O8:R.Fn 276 Ur
structure Us(R:Env):Prop where
 Ut:R.Xn 286 "math/bits.Sub64"
def Uu:br:=Nf ⟨2,[4],q [m 4 (i 0)] (s (q [m 6 0,n 7 6,m 8 (i 0)] (k [0,1,7,8] (.block 0 (.loop (q [b 9 .lss 8 7] (s (h 9 .skip (.exit 0)) (k [0,1,7,8] (s (.block 1 (q [m 10 8,m 5 10] (q [m 11 1,m 12 0,m 13 5,u 14 1 12 13,l 15 1 14,o 16 (.gW 11 [15])] (k [0,1,5,7,8,16] (h 16 (t [m 17 5,m 4 17]) .skip))))) (k [0,1,7,8] (p [b 18 .add 8 (i 1),m 8 18])))))))))) (k [] (t [m 4 (i (-1))])))⟩
structure O9(R:Env):Prop where
 abt:R.Fn 324 Uu
def Uv:br:=Nf ⟨2,[4],q [m 4 (.k (.bool false))] (q [m 5 0,m 6 1,c 7 324 [5,6],b 8 .geq 7 (i 0),m 4 8] (k [4] .ret))⟩
structure O'(R:Env):Prop where
 abu:R.Fn 323 Uv
 n324:O9 R
def Uw:br:=Nf ⟨1,[2],q [m 2 (.k .ai)] (s (q [m 3 0,o 4 (.Bo false 3)] (h 4 (t [m 2 (.k .ai)]) .skip)) (k [0] (t [o 5 (.aq 26 3 0 [j 0,j 0,j 0] []),m 6 0,o 7 (.app 26 3 5 6),m 2 7])))⟩
structure KU(R:Env):Prop where
 Ux:R.Fn 361 Uw
def Uy:br:=Nf ⟨1,[2],q [m 2 (.k .ai)] (s (q [m 3 0,o 4 (.Bo false 3)] (h 4 (t [m 2 (.k .ai)]) .skip)) (k [0] (t [o 5 (.aq 18 2 0 [j 0,j 0] []),m 6 0,o 7 (.app 18 2 5 6),m 2 7])))⟩
structure KV(R:Env):Prop where
 Uz:R.Fn 362 Uy
def UA:br:=Nf ⟨2,[],q [l 4 1 1,o 5 (.Oy 4)] (k [0,5] (.block 0 (.loop (q [o 6 (.SC 5),e 7 6 0] (s (h 7 .skip (.exit 0)) (k [0,5] (.block 1 (q [o 8 (.JZ 5),e 9 8 0,m 3 9] (q [m 10 0,m 11 3,o 12 (.gW 10 [11]),o 13 (.un .not 12)] (h 13 .ret .skip))))))))))⟩
structure UB(R:Env):Prop where
 ahR:R.Fn 447 UA
def UC:br:=Nf ⟨1,[2],q [x 1 57 0,m 2 (.k .aw)] (t [o 3 (.SB 447 [1]),m 2 3])⟩
structure Pa(R:Env):Prop where
 abv:R.Fn 433 UC
 UD:UB R
structure UE(R:Env):Prop where
 abw:R.As 434
structure UF(R:Env):Prop where
 UG:R.As 435
def UH:br:=Nf ⟨1,[2],q [m 2 (.k (.bool false))] (t [m 3 0,m 4 0,b 5 .neq 3 4,m 2 5])⟩
structure Pb(R:Env):Prop where
 Pd:R.Fn 468 UH
def UI:br:=Nf ⟨2,[4],q [m 4 (i 0)] (q [m 7 0,c 8 468 [7],m 5 8] (q [m 9 1,c 10 468 [9],m 6 10] (s (q [m 11 5] (h 11 (s (q [m 12 6] (h 12 (t [m 4 (i 0)]) .skip)) (k [] (t [m 4 (i (-1))]))) .skip)) (k [0,1,6] (s (q [m 13 6] (h 13 (t [m 4 (i 1)]) .skip)) (k [0,1] (s (q [m 14 0,m 15 1,b 16 .lss 14 15] (h 16 (t [m 4 (i (-1))]) .skip)) (k [0,1] (s (q [m 17 0,m 18 1,b 19 .gtr 17 18] (h 19 (t [m 4 (i 1)]) .skip)) (k [] (t [m 4 (i 0)])))))))))))⟩
structure Pe(R:Env):Prop where
 HX:R.Fn 451 UI
 E4:Pb R
def UJ:br:=Nf ⟨1,[2],q [m 2 (i 0)] (q [m 3 (i 0)] (s (q [m 6 0,n 7 6,m 8 (i 0)] (k [3,6,7,8] (.block 0 (.loop (q [b 9 .lss 8 7] (s (h 9 .skip (.exit 0)) (k [3,6,7,8] (s (.block 1 (q [u 10 1 6 8,l 11 1 10,m 5 11] (q [m 12 5,m 13 3,b 14 .neq 12 13] (h 14 (t [m 15 5,m 2 15]) .skip)))) (k [3,6,7,8] (p [b 16 .add 8 (i 1),m 8 16])))))))))) (k [3] (t [m 17 3,m 2 17]))))⟩
structure Pf(R:Env):Prop where
 UK:R.Fn 452 UJ
def UL:br:=Nf ⟨2,[],q [m 6 0,o 7 (.Oy 6)] (k [0,1,7] (.block 0 (.loop (q [o 8 (.SC 7),e 9 8 0] (s (h 9 .skip (.exit 0)) (k [0,1,7] (.block 1 (q [o 10 (.JZ 7),e 11 10 0,e 12 10 1,a 4 49 [j 0,j 0,j 0,j 0],a 5 33 KQ,r 4 4 11,r 12 5 12] (y [0,1,4,5,7] [m 13 1,g 14 4 4,g 15 12 5,o 16 (.gW 13 [14,15])] (h 16 (p [m 17 0,g 18 4 4,v (.Ns [.i,.i,.i,.i] true 17 18)]) .skip))))))))))⟩
structure Pg(R:Env):Prop where
 abx:R.Fn 438 UL
structure UN(R:Env):Prop where
 aby:R.As 439
structure UO(R:Env):Prop where
 abz:R.As 440
end Go.UM
namespace Go.UM
open Go.AM
open Z
def UP:br:=Nf ⟨1,[2,3],q [m 2 (.k (.int .u64 0)),m 3 (.k (.bool false))] (s (q [m 4 0,b 5 .lss 4 (i 0)] (h 5 (q [m 6 0,o 7 (.conv .u64 6),o 8 (.un .neg 7),m 2 8,m 3 (.k (.bool true))] (k [2,3] .ret)) .skip)) (k [0] (t [m 9 0,o 10 (.conv .u64 9),m 2 10,m 3 (.k (.bool false))])))⟩
structure Ph(R:Env):Prop where
 Pj:R.Fn 275 UP
def UQ:br:=Nf ⟨2,[4,5],q [m 4 (.k (.int .u64 0)),m 5 (.k (.int .u64 0))] (q [m 8 1,o 9 (.qT 286 [.k (.int .u64 0),8,.k (.int .u64 0)]),m 7 9,e 10 7 0,e 11 7 1,m 1 10,m 6 11] (y [0,1,6] [m 13 0,m 14 6,o 15 (.qT 286 [.k (.int .u64 0),13,14]),m 12 15,e 16 12 0,e 17 12 1,m 0 16] (k [0,1] (t [m 18 0,m 19 1,m 4 18,m 5 19]))))⟩
structure Pk(R:Env):Prop where
 UR:R.Fn 283 UQ
 n286:Us R
def US:br:=Nf ⟨3,[.cell 6 true 2,7],q [a 6 38 [j 0,.int .u64 0],m 7 (.k (.bool false))] (s (q [m 9 2] (h 9 (p [m 11 0,m 12 1,c 13 283 [11,12],m 10 13,e 14 10 0,e 15 10 1,m 0 14,m 1 15]) .skip)) (y [0,1,2,6] [m 16 0,o 17 (.conv .i64 16),m 18 1,o 19 (.build [j 0,.int .u64 0] [(0,1,17),(1,1,18)]),a 8 38 [j 0,.int .u64 0],r 2 8 19] (y [0,1,2,6,8] [g 20 2 8,f 21 0 8,l 22 1 21,b 23 .lss 22 (i 0),m 24 2,o 25 (.Ou false 23 24),m 26 25,⟨some 27,some (26,false),.mv 0⟩,⟨some 28,some (26,false),.mv 1⟩,⟨some 29,some (26,false),.bin .or 27 28⟩,⟨some 30,some (26,false),.bin .eql 29 (.k (.int .u64 0))⟩,w 31 26 (.k (.bool true)) 30,r 2 6 20,m 7 31] (k [6,7] .ret))))⟩
structure Pl(R:Env):Prop where
 UT:R.Fn 277 US
 n283:Pk R
def UU:br:=Nf ⟨2,[.cell 4 true 2],q [a 4 38 [j 0,.int .u64 0]] (q [m 14 0,c 15 275 [14],m 13 15,e 16 13 0,e 17 13 1,m 5 16,m 6 17] (y [1,4,5,6] [m 19 1,c 20 275 [19],m 18 20,e 21 18 0,e 22 18 1,m 7 21,m 8 22] (y [4,5,6,7,8] [m 24 5,m 25 7,c 26 276 [24,25],m 23 26,e 27 23 0,e 28 23 1,m 9 27,m 10 28] (y [4,6,8,9,10] [m 30 9,m 31 10,m 32 6,m 33 8,o 34 (.Ou true 32 33),c 35 277 [30,31,34],m 29 35,e 36 29 0,e 37 29 1,a 11 38 [j 0,.int .u64 0],r 2 11 36,m 12 37] (k [4,11] (t [g 38 2 11,r 2 4 38]))))))⟩
structure KW(R:Env):Prop where
 Pm:R.Fn 264 UU
 n275:Ph R
 n276:KT R
 n277:Pl R
def UV:br:=Nf ⟨1,[2,3],q [x 1 38 0,m 2 (i 0),m 3 (.k (.bool false))] (s (q [f 4 1 1,l 5 1 4,o 6 (.conv .i64 5),m 2 6] (q [f 7 0 1,l 8 1 7,m 9 2,b 10 .shr 9 (.k (.int .u64 63)),b 11 .neq 8 10] (k [2,11] (h 11 (t [m 2 (i 0),m 3 (.k (.bool false))]) .skip)))) (k [2] (t [m 12 2,m 2 12,m 3 (.k (.bool true))])))⟩
structure KX(R:Env):Prop where
 KY:R.Fn 274 UV
def UW:br:=Nf ⟨1,[.cell 2 true 2],q [a 2 38 [j 0,.int .u64 0]] (q [m 3 0,b 4 .shr 3 (.k (.int .u64 63)),m 5 0,o 6 (.conv .u64 5),o 7 (.build [j 0,.int .u64 0] [(0,1,4),(1,1,6)]),r 2 2 7] (k [2] .ret))⟩
structure UX(R:Env):Prop where
 ahS:R.Fn 287 UW
def UY:br:=Nf ⟨2,[.cell 4 true 2],q [x 2 38 0,a 4 38 [j 0,.int .u64 0]] (q [m 5 1,o 6 (.mm true [5,i 0]),m 1 6] (s (q [m 7 1,b 8 .geq 7 (i 64)] (h 8 (q [f 9 0 2,l 10 1 9,m 11 1,b 12 .sub 11 (i 64),o 13 (.mm false [12,i 63]),b 14 .shr 10 13,c 15 287 [14],r 2 4 15] (k [4] .ret)) .skip)) (k [1,2,4] (s (q [m 16 1,b 17 .eql 16 (i 0)] (h 17 (t [g 18 2 2,r 2 4 18]) .skip)) (k [1,2,4] (s (.draw [0,1,0,7,0,16,0,112,0,256,768,0,2048,7936,16368,32767,65535] [[2],[19],[1],[20,21],[2],[23],[1],[24,25],[2],[27],[28],[1],[30],[29,31],[26,32],[22,33],[4,34]] [f 19 0 2,l 20 1 19,m 21 1,b 22 .shr 20 21,f 23 1 2,l 24 1 23,m 25 1,b 26 .shr 24 25,f 27 0 2,l 28 1 27,o 29 (.conv .u64 28),m 30 1,b 31 .sub (i 64) 30,b 32 .shl 29 31,b 33 .or 26 32,o 34 (.build [j 0,.int .u64 0] [(0,1,22),(1,1,33)]),r 2 4 34]) (k [4] .ret)))))))⟩
structure Pn(R:Env):Prop where
 UZ:R.Fn 285 UY
 n287:UX R
end Go.UM
namespace Go.UM
open Go.AM
open Z
def U0:br:=Nf ⟨1,[2],q [x 1 38 0,m 2 (i 0)] (s (q [g 6 2 1,c 7 274 [6],m 5 7,e 8 5 0,e 9 5 1,m 3 8,m 4 9] (y [1,3,4] [m 10 4] (h 10 (t [m 11 3,m 2 11]) .skip))) (k [1] (s (q [f 12 0 1,l 13 1 12,b 14 .lss 13 (i 0)] (h 14 (t [m 2 (i (-9223372036854775808))]) .skip)) (k [] (t [m 2 (i 9223372036854775807)])))))⟩
structure KZ(R:Env):Prop where
 Po:R.Fn 265 U0
 n274:KX R
def U1:br:=Nf ⟨1,[2],q [m 2 (i 0)] (q [m 3 (i 4294967296)] (s (q [m 6 0,n 7 6,m 8 (i 0)] (k [3,6,7,8] (.block 0 (.loop (q [b 9 .lss 8 7] (s (h 9 .skip (.exit 0)) (k [3,6,7,8] (s (.block 1 (q [m 10 8,u 11 1 6 8,l 12 1 11,m 4 10,m 5 12] (k [3,4,5,6,7,8] (s (q [m 13 4,b 14 .eql 13 (i 0)] (h 14 (q [m 15 5,m 3 15] (.exit 1)) .skip)) (k [3,5,6,7,8] (p [m 16 3,m 17 5,c 18 264 [16,17],c 19 285 [18,i 32],c 20 265 [19],m 3 20])))))) (k [3,6,7,8] (p [b 21 .add 8 (i 1),m 8 21])))))))))) (k [3] (t [m 22 3,m 2 22]))))⟩
structure Pp(R:Env):Prop where
 U2:R.Fn 284 U1
 n264:KW R
 n265:KZ R
 n285:Pn R
def U3:br:=Nf ⟨1,[2],q [m 2 (i 0)] (q [m 3 (i 0)] (s (q [m 7 0,n 8 7,m 9 (i 0)] (k [3,7,8,9] (.block 0 (.loop (q [b 10 .lss 9 8] (s (h 10 .skip (.exit 0)) (k [3,7,8,9] (s (.block 1 (q [u 11 1 7 9,l 12 1 11,m 5 12] (q [m 13 3,m 14 5,b 15 .add 13 14,m 6 15] (s (.block 2 (q [m 17 3,b 18 .gtr 17 (i 0),m 19 18,⟨some 20,some (19,true),.mv 5⟩,⟨some 21,some (19,true),.bin .gtr 20 (i 0)⟩,w 22 19 21 (.k (.bool false)),m 23 22,⟨some 24,some (23,true),.mv 6⟩,⟨some 25,some (23,true),.bin .lss 24 (i 0)⟩,w 26 23 25 (.k (.bool false)),m 16 26] (k [3,5,6,7,8,9,16] (h 16 (p [m 6 (i 9223372036854775807)]) (q [m 28 3,b 29 .lss 28 (i 0),m 30 29,⟨some 31,some (30,true),.mv 5⟩,⟨some 32,some (30,true),.bin .lss 31 (i 0)⟩,w 33 30 32 (.k (.bool false)),m 34 33,⟨some 35,some (34,true),.mv 6⟩,⟨some 36,some (34,true),.bin .geq 35 (i 0)⟩,w 37 34 36 (.k (.bool false)),m 27 37] (k [6,7,8,9,27] (h 27 (p [m 6 (i (-9223372036854775808))]) .skip))))))) (k [6,7,8,9] (p [m 38 6,m 3 38])))))) (k [3,7,8,9] (p [b 39 .add 9 (i 1),m 9 39])))))))))) (k [3] (t [m 40 3,m 2 40]))))⟩
structure K0(R:Env):Prop where
 Pq:R.Fn 267 U3
def U4:br:=Nf ⟨2,[4],q [m 4 (i 0)] (q [m 6 0,m 7 1,b 8 .sub 6 7,m 5 8] (s (.block 0 (q [m 10 0,b 11 .geq 10 (i 0),m 12 11,⟨some 13,some (12,true),.mv 1⟩,⟨some 14,some (12,true),.bin .lss 13 (i 0)⟩,w 15 12 14 (.k (.bool false)),m 16 15,⟨some 17,some (16,true),.mv 5⟩,⟨some 18,some (16,true),.bin .lss 17 (i 0)⟩,w 19 16 18 (.k (.bool false)),m 9 19] (k [0,1,5,9] (h 9 (t [m 4 (i 9223372036854775807)]) (q [m 21 0,b 22 .lss 21 (i 0),m 23 22,⟨some 24,some (23,true),.mv 1⟩,⟨some 25,some (23,true),.bin .gtr 24 (i 0)⟩,w 26 23 25 (.k (.bool false)),m 27 26,⟨some 28,some (27,true),.mv 5⟩,⟨some 29,some (27,true),.bin .geq 28 (i 0)⟩,w 30 27 29 (.k (.bool false)),m 20 30] (k [5,20] (h 20 (t [m 4 (i (-9223372036854775808))]) .skip))))))) (k [5] (t [m 31 5,m 4 31]))))⟩
structure Pr(R:Env):Prop where
 U5:R.Fn 281 U4
def U6:br:=Nf ⟨1,[2],q [m 2 (i 0)] (t [m 3 0,c 4 281 [i 0,3],m 2 4])⟩
structure Ps(R:Env):Prop where
 U7:R.Fn 270 U6
 n281:Pr R
def U8:br:=Nf ⟨1,[2],q [m 2 (i 0)] (q [m 3 0,m 4 0,c 5 270 [4],o 6 (.mm true [3,5]),m 2 6] (k [2] .ret))⟩
structure K1(R:Env):Prop where
 qi:R.Fn 255 U8
 n270:Ps R
def U9:br:=Nf ⟨1,[2],q [m 2 (i 0)] (q [m 3 0,b 4 .shr 3 (.k (.int .u64 32)),m 5 0,b 6 .shr 5 (.k (.int .u64 31)),b 7 .and 6 (i 1),b 8 .add 4 7,m 2 8] (k [2] .ret))⟩
structure Pt(R:Env):Prop where
 K2:R.Fn 260 U9
def U':br:=Nf ⟨1,[2],q [m 2 (i 0)] (t [m 3 0,c 4 264 [3,i 4294967296],c 5 265 [4],m 2 5])⟩
structure Pu(R:Env):Prop where
 K3:R.Fn 248 U'
 n264:KW R
 n265:KZ R
end Go.UM
namespace Go.UM
open Go.AM
open Z
def Va:br:=Nf ⟨3,[.cell 6 true 3],q [x 3 31 0,x 4 31 1,a 6 31 [j 0,j 0,j 0]] (s (.draw [0,0,2,0,8,31,0,0,128,0,512,2047,0,0,8192,0,32768,131071,262143,524287] [[2],[3],[8],[4],[10],[7,9,11],[2],[3],[14],[4],[16],[13,15,17],[2],[3],[20],[4],[22],[19,21,23],[12,18,24],[6,25]] [m 7 2,f 8 0 3,l 9 1 8,f 10 0 4,l 11 1 10,o 12 (.gW 7 [9,11]),m 13 2,f 14 1 3,l 15 1 14,f 16 1 4,l 17 1 16,o 18 (.gW 13 [15,17]),m 19 2,f 20 2 3,l 21 1 20,f 22 2 4,l 23 1 22,o 24 (.gW 19 [21,23]),o 25 (.build [j 0,j 0,j 0] [(0,1,12),(1,1,18),(2,1,24)]),r 3 6 25]) (k [6] .ret))⟩
structure HY(R:Env):Prop where
 K4:R.Fn 262 Va
def Vb:br:=Nf ⟨2,[4],q [m 4 (i 0)] (q [m 5 0,m 6 1,o 7 (.aq 32 1 2 [j 0] [(0,5),(1,6)]),c 8 284 [7],m 4 8] (k [4] .ret))⟩
structure K5(R:Env):Prop where
 K6:R.Fn 278 Vb
 n284:Pp R
def Vc:br:=Nf ⟨1,[.cell 2 true 3],q [a 2 31 [j 0,j 0,j 0]] (q [o 6 (.build [j 0,j 0,j 0] [(0,1,i 4294967296),(1,1,i 4294967296),(2,1,i 4294967296)]),a 3 31 [j 0,j 0,j 0],r 3 3 6] (s (q [m 7 0,n 8 7,m 9 (i 0)] (k [2,3,7,8,9] (.block 0 (.loop (q [b 10 .lss 9 8] (s (h 10 .skip (.exit 0)) (k [2,3,7,8,9] (s (.block 1 (q [u 11 3 7 9,g 12 3 11,a 5 31 [j 0,j 0,j 0],r 3 5 12] (p [g 13 3 3,g 14 3 5,c 15 262 [13,14,.f 278],r 3 3 15]))) (k [2,3,7,8,9] (p [b 16 .add 9 (i 1),m 9 16])))))))))) (k [2,3] (t [g 17 3 3,r 3 2 17]))))⟩
structure Pv(R:Env):Prop where
 Vd:R.Fn 266 Vc
 n262:HY R
 n278:K5 R
def Ve:br:=Nf ⟨2,[4],q [x 2 31 0,x 3 31 1,m 4 (i 0)] (q [g 6 3 2,g 7 3 3,o 8 (.aq 31 3 2 [j 0,j 0,j 0] [(0,6),(1,7)]),c 9 266 [8],a 5 31 [j 0,j 0,j 0],r 3 5 9] (y [5] [f 10 0 5,l 11 1 10,f 12 1 5,l 13 1 12,f 14 2 5,l 15 1 14,o 16 (.aq 32 1 3 [j 0] [(0,11),(1,13),(2,15)]),c 17 267 [16],m 4 17] (k [4] .ret)))⟩
structure Pw(R:Env):Prop where
 K7:R.Fn 252 Ve
 n266:Pv R
 n267:K0 R
def Vf:br:=Nf ⟨2,[4],q [m 4 (i 0)] (q [m 5 0,m 6 1,o 7 (.aq 32 1 2 [j 0] [(0,5),(1,6)]),c 8 267 [7],m 4 8] (k [4] .ret))⟩
structure K8(R:Env):Prop where
 K9:R.Fn 263 Vf
 n267:K0 R
def Vg:br:=Nf ⟨1,[.cell 2 true 3],q [a 2 31 [j 0,j 0,j 0]] (q [a 3 31 [j 0,j 0,j 0]] (s (q [m 6 0,n 7 6,m 8 (i 0)] (k [2,3,6,7,8] (.block 0 (.loop (q [b 9 .lss 8 7] (s (h 9 .skip (.exit 0)) (k [2,3,6,7,8] (s (.block 1 (q [u 10 3 6 8,g 11 3 10,a 5 31 [j 0,j 0,j 0],r 3 5 11] (p [g 12 3 3,g 13 3 5,c 14 262 [12,13,.f 263],r 3 3 14]))) (k [2,3,6,7,8] (p [b 15 .add 8 (i 1),m 8 15])))))))))) (k [2,3] (t [g 16 3 3,r 3 2 16]))))⟩
structure Px(R:Env):Prop where
 Vh:R.Fn 246 Vg
 n262:HY R
 n263:K8 R
def Vi:br:=Nf ⟨1,[2],q [x 1 31 0,m 2 (i 0)] (s (.draw [0,1,3,0,8,31,0,64,255,511,1023] [[1],[3],[4],[1],[6],[7],[1],[9],[10],[5,8,11],[12]] [f 3 0 1,l 4 1 3,c 5 255 [4],f 6 1 1,l 7 1 6,c 8 255 [7],f 9 2 1,l 10 1 9,c 11 255 [10],o 12 (.mm true [5,8,11]),m 2 12]) (k [2] .ret))⟩
structure Py(R:Env):Prop where
 Vj:R.Fn 256 Vi
 n255:K1 R
def Vk:br:=Nf ⟨1,[.cell 2 true 3],q [x 1 26 0,a 2 31 [j 0,j 0,j 0]] (s (.draw [0,1,3,0,8,31,0,64,255,511,1023] [[1],[3],[4],[1],[6],[7],[1],[9],[10],[5,8,11],[2,12]] [f 3 0 1,l 4 1 3,c 5 248 [4],f 6 1 1,l 7 1 6,c 8 248 [7],f 9 2 1,l 10 1 9,c 11 248 [10],o 12 (.build [j 0,j 0,j 0] [(0,1,5),(1,1,8),(2,1,11)]),r 3 2 12]) (k [2] .ret))⟩
structure PA(R:Env):Prop where
 Vl:R.Fn 249 Vk
 n248:Pu R
end Go.UM
namespace Go.UM
open Go.AM
open Z
def Vm:br:=Nf ⟨0,[.cell 0 true 12],q [a 0 33 KQ] (t [o 1 (.build [j 0,j 0,j 0,j 0,j 0,j 0,j 0,j 0,j 0] [(0,1,i 4294967296),(4,1,i 4294967296),(8,1,i 4294967296)]),o 2 (.build KQ [(0,9,1)]),r 12 0 2])⟩
structure PB(R:Env):Prop where
 Vn:R.Fn 221 Vm
def Vo:br:=Nf ⟨2,[.cell 4 true 3],q [x 2 37 0,a 4 31 [j 0,j 0,j 0]] (s (.draw [0,1,3,7,0,16,48,112,240,0,512,1536,3584,7680,16383,32767] [[1],[5],[2,6],[7],[1],[9],[10],[2,11],[12],[1],[14],[15],[2,16],[17],[8,13,18],[4,19]] [m 5 1,b 6 .mul (i 3) 5,o 7 (.ba 9 1 2 6),l 8 1 7,m 9 1,b 10 .mul (i 3) 9,b 11 .add 10 (i 1),o 12 (.ba 9 1 2 11),l 13 1 12,m 14 1,b 15 .mul (i 3) 14,b 16 .add 15 (i 2),o 17 (.ba 9 1 2 16),l 18 1 17,o 19 (.build [j 0,j 0,j 0] [(0,1,8),(1,1,13),(2,1,18)]),r 3 4 19]) (k [4] .ret))⟩
structure PC(R:Env):Prop where
 E5:R.Fn 251 Vo
def Vp:br:=Nf ⟨2,[.cell 4 true 3],q [x 2 33 0,x 3 31 1,a 4 31 [j 0,j 0,j 0]] (s (.draw [0,1,3,0,15,0,32,127,0,511,0,1024,4095,0,16383,32767,65535] [[2],[5],[6],[3],[7,8],[2],[10],[11],[3],[12,13],[2],[15],[16],[3],[17,18],[9,14,19],[4,20]] [f 5 0 2,g 6 9 5,c 7 251 [6,i 0],g 8 3 3,c 9 252 [7,8],f 10 0 2,g 11 9 10,c 12 251 [11,i 1],g 13 3 3,c 14 252 [12,13],f 15 0 2,g 16 9 15,c 17 251 [16,i 2],g 18 3 3,c 19 252 [17,18],o 20 (.build [j 0,j 0,j 0] [(0,1,9),(1,1,14),(2,1,19)]),r 3 4 20]) (k [4] .ret))⟩
structure PD(R:Env):Prop where
 Vq:R.Fn 231 Vp
 n251:PC R
 n252:Pw R
def Vr:br:=Nf ⟨2,[.cell 4 true 3],q [x 2 33 0,x 3 31 1,a 4 31 [j 0,j 0,j 0]] (s (.draw [0,0,3,0,8,31,63,127] [[2],[3],[5,6],[2],[8],[7,9],[10],[4,11]] [g 5 12 2,g 6 3 3,c 7 231 [5,6],f 8 9 2,g 9 3 8,o 10 (.aq 31 3 2 [j 0,j 0,j 0] [(0,7),(1,9)]),c 11 246 [10],r 3 4 11]) (k [4] .ret))⟩
structure PE(R:Env):Prop where
 Vs:R.Fn 233 Vr
 n231:PD R
 n246:Px R
def Vt:br:=Nf ⟨1,[2],q [x 1 33 0,m 2 (i 0)] (s (q [f 5 0 1,g 6 9 5,m 7 (i 0)] (k [1,6,7] (.block 0 (.loop (q [b 8 .lss 7 (i 9)] (s (h 8 .skip (.exit 0)) (k [1,6,7] (s (.block 1 (q [o 9 (.G4 false 9 1 6 7),m 4 9] (q [m 10 4,c 11 255 [10],b 12 .gtr 11 (i 1099511627776)] (h 12 (t [m 2 (i 2)]) .skip)))) (k [1,6,7] (p [b 13 .add 7 (i 1),m 7 13])))))))))) (k [1] (s (q [f 14 9 1,g 15 3 14,c 16 256 [15],b 17 .gtr 16 (i 562949953421312)] (h 17 (t [m 2 (i 2)]) .skip)) (k [] (t [m 2 (i 0)])))))⟩
structure PF(R:Env):Prop where
 Vu:R.Fn 235 Vt
 n255:K1 R
 n256:Py R
def Vv:br:=Nf ⟨1,[.cell 2 true 3,3],q [x 1 31 0,a 2 26 [j 0,j 0,j 0],m 3 (i 0)] (s (.draw [0,1,3,0,8,31,0,64,255,511,0,2047] [[1],[5],[6],[1],[8],[9],[1],[11],[12],[7,10,13],[],[4,14]] [f 5 0 1,l 6 1 5,c 7 260 [6],f 8 1 1,l 9 1 8,c 10 260 [9],f 11 2 1,l 12 1 11,c 13 260 [12],o 14 (.build [j 0,j 0,j 0] [(0,1,7),(1,1,10),(2,1,13)]),a 4 26 [j 0,j 0,j 0],r 3 4 14]) (k [2,4] (s (q [f 15 0 4,l 16 1 15,f 17 1 4,l 18 1 17,f 19 2 4,l 20 1 19,o 21 (.mm true [16,18,20]),b 22 .gtr 21 (i 65536),m 23 22,⟨some 24,some (23,false),.aF 0 4⟩,⟨some 25,some (23,false),.load false 1 24⟩,⟨some 26,some (23,false),.aF 1 4⟩,⟨some 27,some (23,false),.load false 1 26⟩,⟨some 28,some (23,false),.aF 2 4⟩,⟨some 29,some (23,false),.load false 1 28⟩,⟨some 30,some (23,false),.mm false [25,27,29]⟩,⟨some 31,some (23,false),.bin .lss 30 (i (-65536))⟩,w 32 23 (.k (.bool true)) 31] (k [2,4,32] (h 32 (t [o 33 (.build [j 0,j 0,j 0] []),r 3 2 33,m 3 (i 8)]) .skip))) (k [2,4] (t [g 34 3 4,r 3 2 34,m 3 (i 0)])))))⟩
structure PG(R:Env):Prop where
 Vx:R.Fn 243 Vv
 n260:Pt R
def Vy:br:=Nf ⟨2,[.cell 4 true 3,5],q [x 2 33 0,x 3 26 1,a 4 26 [j 0,j 0,j 0],m 5 (i 0)] (s (q [g 7 12 2,c 8 235 [7],m 6 8] (q [m 9 6,b 10 .neq 9 (i 0)] (h 10 (t [o 11 (.build [j 0,j 0,j 0] []),m 12 6,r 3 4 11,m 5 12]) .skip))) (k [2,3,4] (s (.draw [0,0,2,7,15,31,31,127,255] [[2],[3],[14],[13,15],[16],[17],[17],[4,18],[19]] [g 13 12 2,g 14 3 3,c 15 249 [14],c 16 233 [13,15],c 17 243 [16],e 18 17 0,e 19 17 1,r 3 4 18,m 5 19]) (k [4,5] .ret))))⟩
structure La(R:Env):Prop where
 tG:R.Fn 241 Vy
 n233:PE R
 n235:PF R
 n243:PG R
 n249:PA R
end Go.UM
namespace Go.UM
open Go.AM
open Z
def c54:br:=Nf ⟨3,[6,7],q [m 6 (.k .ai),m 7 (i 0)] (s (q [m 12 1,b 13 .lss 12 (i 1),m 14 13,⟨some 15,some (14,false),.mv 1⟩,⟨some 16,some (14,false),.bin .gtr 15 (i 8)⟩,w 17 14 (.k (.bool true)) 16] (k [0,1,2,17] (h 17 (t [m 6 (.k .ai),m 7 (i 2)]) .skip))) (y [0,1,2] [m 18 0,c 19 62 [18],m 8 19] (s (q [m 20 2,n 21 20,m 22 (i 0)] (k [1,8,20,21,22] (.block 0 (.loop (q [b 23 .lss 22 21] (s (h 23 .skip (.exit 0)) (k [1,8,20,21,22] (s (.block 1 (q [u 24 1 20 22,l 25 1 24,m 10 25] (s (q [m 26 1,b 27 .lss 26 (i 8),m 28 27,⟨some 29,some (28,true),.mv 10⟩,⟨some 30,some (28,true),.mv 1⟩,⟨some 31,some (28,true),.bin .mul (i 8) 30⟩,⟨some 32,some (28,true),.bin .shr 29 31⟩,⟨some 33,some (28,true),.bin .gtr 32 (.k (.int .u64 0))⟩,w 34 28 33 (.k (.bool false))] (k [1,8,10,20,21,22,34] (h 34 (t [m 6 (.k .ai),m 7 (i 3)]) .skip))) (y [1,8,10,20,21,22] [m 35 1,m 36 (i 0)] (k [1,8,10,20,21,22,35,36] (.block 2 (.loop (q [b 37 .lss 36 35] (s (h 37 .skip (.exit 2)) (k [1,8,10,20,21,22,35,36] (s (.block 3 (q [m 38 36,m 11 38] (p [m 39 8,m 40 10,m 41 11,b 42 .mul (i 8) 41,b 43 .shr 40 42,o 44 (.conv .u8 43),o 45 (.aq 4 1 1 [.int .u8 0] [(0,44)]),o 46 (.app 4 1 39 45),m 8 46]))) (k [1,8,10,20,21,22,35,36] (p [b 47 .add 36 (i 1),m 36 47]))))))))))))) (k [1,8,20,21,22] (p [b 48 .add 22 (i 1),m 22 48])))))))))) (k [8] (t [m 49 8,m 6 49,m 7 (i 0)])))))⟩
structure PH(R:Env):Prop where
 o54:R.Fn 54 c54
 n62:N62 R
def c71:br:=Nf ⟨3,[6,7],q [m 6 (.k .ai),m 7 (i 0)] (s (q [m 12 1,b 13 .lss 12 (i 1),m 14 13,⟨some 15,some (14,false),.mv 1⟩,⟨some 16,some (14,false),.bin .gtr 15 (i 8)⟩,w 17 14 (.k (.bool true)) 16] (k [0,1,2,17] (h 17 (t [m 6 (.k .ai),m 7 (i 2)]) .skip))) (y [0,1,2] [m 8 (.k .ai)] (s (q [m 18 2,n 19 18,m 20 (i 0)] (k [0,1,8,18,19,20] (.block 0 (.loop (q [b 21 .lss 20 19] (s (h 21 .skip (.exit 0)) (k [0,1,8,18,19,20] (s (.block 1 (q [u 22 1 18 20,l 23 1 22,m 10 23] (s (q [m 24 10,m 25 1,b 26 .mul (i 8) 25,b 27 .sub (i 64) 26,b 28 .shl 24 27,m 29 1,b 30 .mul (i 8) 29,b 31 .sub (i 64) 30,b 32 .shr 28 31,m 11 32] (y [0,1,8,10,11,18,19,20] [m 33 11,m 34 10,b 35 .neq 33 34] (h 35 (t [m 6 (.k .ai),m 7 (i 3)]) .skip))) (k [0,1,8,10,18,19,20] (p [m 36 8,m 37 10,o 38 (.conv .u64 37),m 39 1,b 40 .mul (i 8) 39,b 41 .sub (i 64) 40,b 42 .shl 38 41,m 43 1,b 44 .mul (i 8) 43,b 45 .sub (i 64) 44,b 46 .shr 42 45,o 47 (.aq 6 1 1 [.int .u64 0] [(0,46)]),o 48 (.app 6 1 36 47),m 8 48]))))) (k [0,1,8,18,19,20] (p [b 49 .add 20 (i 1),m 20 49])))))))))) (y [0,1,8] [m 50 0,m 51 1,m 52 8,c 53 54 [50,51,52],e 54 53 0,e 55 53 1,m 6 54,m 7 55] (k [6,7] .ret)))))⟩
structure PI(R:Env):Prop where
 o71:R.Fn 71 c71
 JP:PH R
end Go.UM
namespace Go.UM
open Go.AM
open Z
def c37:br:=Nf ⟨1,[2],q [m 2 (i 0)] (q [o 4 (.build [j 0,j 0,j 0,j 0,j 0] [(1,1,i 2048),(2,1,i 1024),(3,1,i 64),(4,1,i 64)]),a 3 5 [j 0,j 0,j 0,j 0,j 0],r 5 3 4] (s (q [m 5 0,b 6 .lss 5 (i 0),m 7 6,⟨some 8,some (7,false),.mv 0⟩,⟨some 9,some (7,false),.bin .geq 8 (i 5)⟩,w 10 7 (.k (.bool true)) 9] (k [0,3,10] (h 10 (t [m 2 (i 0)]) .skip))) (k [0,3] (t [m 11 0,o 12 (.ba 5 1 3 11),l 13 1 12,m 2 13]))))⟩
structure N37(R:Env):Prop where
 o37:R.Fn 37 c37
end Go.UM
namespace Go.UM
open Go.AM
open Z
def Vz:br:=Nf ⟨1,[2],q [x 1 26 0,m 2 (.k (.bool false))] (q [f 3 0 1,l 4 1 3,f 5 1 1,l 6 1 5,f 7 2 1,l 8 1 7,o 9 (.mm true [4,6,8]),b 10 .gtr 9 (i 4096),m 11 10,⟨some 12,some (11,false),.aF 0 1⟩,⟨some 13,some (11,false),.load false 1 12⟩,⟨some 14,some (11,false),.aF 1 1⟩,⟨some 15,some (11,false),.load false 1 14⟩,⟨some 16,some (11,false),.aF 2 1⟩,⟨some 17,some (11,false),.load false 1 16⟩,⟨some 18,some (11,false),.mm false [13,15,17]⟩,⟨some 19,some (11,false),.bin .lss 18 (i (-4096))⟩,w 20 11 (.k (.bool true)) 19,m 2 20] (k [2] .ret))⟩
structure PJ(R:Env):Prop where
 VA:R.Fn 206 Vz
def VB:br:=Nf ⟨1,[2],q [x 1 18 0,m 2 (.k (.bool false))] (q [o 3 (.ba 2 1 1 (i 0)),l 4 1 3,o 5 (.ba 2 1 1 (i 1)),l 6 1 5,o 7 (.mm false [4,6]),b 8 .lss 7 (i 0),m 9 8,⟨some 10,some (9,false),.ba 2 1 1 (i 0)⟩,⟨some 11,some (9,false),.load false 1 10⟩,⟨some 12,some (9,false),.ba 2 1 1 (i 1)⟩,⟨some 13,some (9,false),.load false 1 12⟩,⟨some 14,some (9,false),.mm true [11,13]⟩,⟨some 15,some (9,false),.bin .gtr 14 (i 65535)⟩,w 16 9 (.k (.bool true)) 15,m 2 16] (k [2] .ret))⟩
structure PK(R:Env):Prop where
 VC:R.Fn 207 VB
def VD:br:=Nf ⟨2,[3],q [x 2 13 0,m 3 (.k (.bool false))] (q [o 4 (.ba 3 1 2 (i 0)),l 5 1 4,o 6 (.ba 3 1 2 (i 1)),l 7 1 6,o 8 (.ba 3 1 2 (i 2)),l 9 1 8,o 10 (.mm false [5,7,9]),b 11 .lss 10 (i 0),m 12 11,⟨some 13,some (12,false),.ba 3 1 2 (i 0)⟩,⟨some 14,some (12,false),.load false 1 13⟩,⟨some 15,some (12,false),.ba 3 1 2 (i 1)⟩,⟨some 16,some (12,false),.load false 1 15⟩,⟨some 17,some (12,false),.ba 3 1 2 (i 2)⟩,⟨some 18,some (12,false),.load false 1 17⟩,⟨some 19,some (12,false),.mm true [14,16,18]⟩,⟨some 20,some (12,false),.aF 0 1⟩,⟨some 21,some (12,false),.load false 1 20⟩,⟨some 22,some (12,false),.fw 21⟩,⟨some 23,some (12,false),.bin .geq 19 22⟩,w 24 12 (.k (.bool true)) 23,m 25 24,⟨some 26,some (25,false),.ba 3 1 2 (i 0)⟩,⟨some 27,some (25,false),.load false 1 26⟩,⟨some 28,some (25,false),.ba 3 1 2 (i 1)⟩,⟨some 29,some (25,false),.load false 1 28⟩,⟨some 30,some (25,false),.bin .eql 27 29⟩,w 31 25 (.k (.bool true)) 30,m 32 31,⟨some 33,some (32,false),.ba 3 1 2 (i 1)⟩,⟨some 34,some (32,false),.load false 1 33⟩,⟨some 35,some (32,false),.ba 3 1 2 (i 2)⟩,⟨some 36,some (32,false),.load false 1 35⟩,⟨some 37,some (32,false),.bin .eql 34 36⟩,w 38 32 (.k (.bool true)) 37,m 39 38,⟨some 40,some (39,false),.ba 3 1 2 (i 2)⟩,⟨some 41,some (39,false),.load false 1 40⟩,⟨some 42,some (39,false),.ba 3 1 2 (i 0)⟩,⟨some 43,some (39,false),.load false 1 42⟩,⟨some 44,some (39,false),.bin .eql 41 43⟩,w 45 39 (.k (.bool true)) 44,m 3 45] (k [3] .ret))⟩
structure PL(R:Env):Prop where
 abB:R.Fn 208 VD
def VE:br:=Nf ⟨1,[2],q [x 1 25 0,m 2 (i 0)] (q [m 3 (.f 206)] (q [m 4 (.f 207)] (q [o 6 (.SB 208 [1]),m 5 6] (s (.block 0 (q [f 8 0 1,l 9 1 8,n 10 9,b 11 .gtr 10 (i 64),m 12 11,⟨some 13,some (12,false),.aF 2 1⟩,⟨some 14,some (12,false),.load false 1 13⟩,⟨some 15,some (12,false),.fw 14⟩,⟨some 16,some (12,false),.bin .gtr 15 (i 64)⟩,w 17 12 (.k (.bool true)) 16,m 7 17] (k [1,3,4,5,7] (h 7 (t [m 2 (i 3)]) (q [f 19 0 1,l 20 1 19,n 21 20,b 22 .eql 21 (i 0),m 23 22,⟨some 24,some (23,false),.aF 2 1⟩,⟨some 25,some (23,false),.load false 1 24⟩,⟨some 26,some (23,false),.fw 25⟩,⟨some 27,some (23,false),.bin .eql 26 (i 0)⟩,w 28 23 (.k (.bool true)) 27,m 29 28,⟨some 30,some (29,false),.aF 1 1⟩,⟨some 31,some (29,false),.load false 1 30⟩,⟨some 32,some (29,false),.fw 31⟩,⟨some 33,some (29,false),.aF 0 1⟩,⟨some 34,some (29,false),.load false 1 33⟩,⟨some 35,some (29,false),.fw 34⟩,⟨some 36,some (29,false),.bin .neq 32 35⟩,w 37 29 (.k (.bool true)) 36,m 18 37] (k [1,3,4,5,18] (h 18 (t [m 2 (i 5)]) (q [f 39 0 1,l 40 1 39,m 41 3,c 42 209 [40,41],m 38 42] (k [1,4,5,38] (h 38 (t [m 2 (i 8)]) (q [f 44 1 1,l 45 1 44,m 46 4,c 47 210 [45,46],m 48 47,⟨some 49,some (48,false),.aF 2 1⟩,⟨some 50,some (48,false),.load false 1 49⟩,⟨some 51,some (48,false),.mv 5⟩,⟨some 52,some (48,false),.call 211 [50,51]⟩,w 53 48 (.k (.bool true)) 52,m 43 53] (k [43] (h 43 (t [m 2 (i 5)]) .skip))))))))))))) (k [] (t [m 2 (i 0)]))))))⟩
structure Lb(R:Env):Prop where
 PM:R.Fn 193 VE
 n206:PJ R
 n207:PK R
 n208:PL R
 n209:O3 R
 n210:O5 R
 n211:O7 R
def VF:br:=Nf ⟨1,[2,3],q [x 1 25 0,m 2 (.k .ai),m 3 (i 0)] (s (q [g 12 3 1,c 13 193 [12],m 4 13] (q [m 14 4,b 15 .neq 14 (i 0)] (h 15 (t [m 16 4,m 2 (.k .ai),m 3 16]) .skip))) (y [1] [f 17 0 1,l 18 1 17,n 19 18,o 20 (.conv .u8 19),f 21 2 1,l 22 1 21,n 23 22,o 24 (.conv .u8 23),o 25 (.aq 4 1 2 [.int .u8 0] [(0,20),(1,24)]),m 5 25] (k [1,5] (s (q [f 26 0 1,l 27 1 26,n 28 27,m 29 (i 0)] (k [1,5,27,28,29] (.block 0 (.loop (q [b 30 .lss 29 28] (s (h 30 .skip (.exit 0)) (k [1,5,27,28,29] (s (.block 1 (q [u 31 3 27 29,g 32 3 31,a 7 26 [j 0,j 0,j 0],r 3 7 32] (p [m 34 5,f 35 0 7,l 36 1 35,f 37 1 7,l 38 1 37,f 39 2 7,l 40 1 39,o 41 (.aq 10 1 3 [j 0] [(0,36),(1,38),(2,40)]),c 42 71 [34,i 2,41],m 33 42,e 43 33 0,e 44 33 1,m 5 43]))) (k [1,5,27,28,29] (p [b 45 .add 29 (i 1),m 29 45])))))))))) (k [1,5] (s (q [f 46 1 1,l 47 1 46,n 48 47,m 49 (i 0)] (k [1,5,47,48,49] (.block 2 (.loop (q [b 50 .lss 49 48] (s (h 50 .skip (.exit 2)) (k [1,5,47,48,49] (s (.block 3 (q [u 51 2 47 49,g 52 2 51,a 9 18 [j 0,j 0],r 2 9 52] (p [m 54 5,o 55 (.ba 2 1 9 (i 0)),l 56 1 55,o 57 (.conv .u64 56),o 58 (.ba 2 1 9 (i 1)),l 59 1 58,o 60 (.conv .u64 59),o 61 (.aq 6 1 2 [.int .u64 0] [(0,57),(1,60)]),c 62 54 [54,i 2,61],m 53 62,e 63 53 0,e 64 53 1,m 5 63]))) (k [1,5,47,48,49] (p [b 65 .add 49 (i 1),m 49 65])))))))))) (k [1,5] (s (q [f 66 2 1,l 67 1 66,n 68 67,m 69 (i 0)] (k [5,67,68,69] (.block 4 (.loop (q [b 70 .lss 69 68] (s (h 70 .skip (.exit 4)) (k [5,67,68,69] (s (.block 5 (q [u 71 3 67 69,g 72 3 71,a 11 13 [j 0,j 0,j 0],r 3 11 72] (p [m 73 5,o 74 (.ba 3 1 11 (i 0)),l 75 1 74,o 76 (.conv .u8 75),o 77 (.ba 3 1 11 (i 1)),l 78 1 77,o 79 (.conv .u8 78),o 80 (.ba 3 1 11 (i 2)),l 81 1 80,o 82 (.conv .u8 81),o 83 (.aq 4 1 3 [.int .u8 0] [(0,76),(1,79),(2,82)]),o 84 (.app 4 1 73 83),m 5 84]))) (k [5,67,68,69] (p [b 85 .add 69 (i 1),m 69 85])))))))))) (k [5] (t [m 86 5,m 2 86,m 3 (i 0)]))))))))))⟩
structure PN(R:Env):Prop where
 VG:R.Fn 196 VF
 JP:PH R
 JQ:PI R
 n193:Lb R
end Go.UM
namespace Go.UM
open Go.AM
open Z
def c84:br:=Nf ⟨1,[2],q [x 1 12 0,m 2 (i 0)] (s (q [o 5 (.aq 10 1 5 [j 0] [(0,i 1),(1,i 2),(2,i 4),(3,i 8),(4,i 16)]),f 6 0 1,l 7 1 6,c 8 100 [5,7],o 9 (.un .not 8),m 10 9,⟨some 11,some (10,false),.aF 1 1⟩,⟨some 12,some (10,false),.load false 1 11⟩,⟨some 13,some (10,false),.fw 12⟩,⟨some 14,some (10,false),.aF 0 1⟩,⟨some 15,some (10,false),.load false 1 14⟩,⟨some 16,some (10,false),.aF 0 1⟩,⟨some 17,some (10,false),.load false 1 16⟩,⟨some 18,some (10,false),.bin .mul 15 17⟩,⟨some 19,some (10,false),.bin .neq 13 18⟩,w 20 10 (.k (.bool true)) 19] (k [1,20] (h 20 (t [m 2 (i 5)]) .skip))) (k [1] (s (q [f 21 1 1,l 22 1 21,n 23 22,m 24 (i 0)] (k [22,23,24] (.block 0 (.loop (q [b 25 .lss 24 23] (s (h 25 .skip (.exit 0)) (k [22,23,24] (s (.block 1 (q [u 26 3 22 24,g 27 3 26,a 4 13 [j 0,j 0,j 0],r 3 4 27] (q [o 28 (.ba 3 1 4 (i 0)),l 29 1 28,o 30 (.ba 3 1 4 (i 1)),l 31 1 30,o 32 (.ba 3 1 4 (i 2)),l 33 1 32,o 34 (.mm false [29,31,33]),b 35 .lss 34 (i 0),m 36 35,⟨some 37,some (36,false),.ba 3 1 4 (i 0)⟩,⟨some 38,some (36,false),.load false 1 37⟩,⟨some 39,some (36,false),.ba 3 1 4 (i 1)⟩,⟨some 40,some (36,false),.load false 1 39⟩,⟨some 41,some (36,false),.ba 3 1 4 (i 2)⟩,⟨some 42,some (36,false),.load false 1 41⟩,⟨some 43,some (36,false),.mm true [38,40,42]⟩,⟨some 44,some (36,false),.bin .gtr 43 (i 255)⟩,w 45 36 (.k (.bool true)) 44] (k [22,23,24,45] (h 45 (t [m 2 (i 5)]) .skip))))) (k [22,23,24] (p [b 46 .add 24 (i 1),m 24 46])))))))))) (k [] (t [m 2 (i 0)])))))⟩
structure Zv(R:Env):Prop where
 o84:R.Fn 84 c84
 n100:O0 R
def c82:br:=Nf ⟨1,[2,3],q [x 1 12 0,m 2 (.k .ai),m 3 (i 0)] (s (q [g 8 2 1,c 9 84 [8],m 4 9] (q [m 10 4,b 11 .neq 10 (i 0)] (h 11 (t [m 12 4,m 2 (.k .ai),m 3 12]) .skip))) (y [1] [f 13 0 1,l 14 1 13,o 15 (.conv .u8 14),o 16 (.aq 4 1 1 [.int .u8 0] [(0,15)]),m 5 16] (k [1,5] (s (q [f 17 1 1,l 18 1 17,n 19 18,m 20 (i 0)] (k [5,18,19,20] (.block 0 (.loop (q [b 21 .lss 20 19] (s (h 21 .skip (.exit 0)) (k [5,18,19,20] (s (.block 1 (q [u 22 3 18 20,g 23 3 22,a 7 13 [j 0,j 0,j 0],r 3 7 23] (p [m 24 5,o 25 (.ba 3 1 7 (i 0)),l 26 1 25,o 27 (.conv .u8 26),o 28 (.ba 3 1 7 (i 1)),l 29 1 28,o 30 (.conv .u8 29),o 31 (.ba 3 1 7 (i 2)),l 32 1 31,o 33 (.conv .u8 32),o 34 (.aq 4 1 3 [.int .u8 0] [(0,27),(1,30),(2,33)]),o 35 (.app 4 1 24 34),m 5 35]))) (k [5,18,19,20] (p [b 36 .add 20 (i 1),m 20 36])))))))))) (k [5] (t [m 37 5,m 2 37,m 3 (i 0)]))))))⟩
structure N82(R:Env):Prop where
 o82:R.Fn 82 c82
 NI:Zv R
end Go.UM
namespace Go.UM
open Go.AM
open Z
def VH:br:=Nf ⟨2,[3],q [m 3 (.k (.bool false))] (q [m 4 0,b 5 .lss 4 (i 0),m 6 5,⟨some 7,some (6,false),.mv 0⟩,⟨some 8,some (6,false),.load false 1 1⟩,⟨some 9,some (6,false),.bin .gtr 7 8⟩,w 10 6 (.k (.bool true)) 9,m 3 10] (k [3] .ret))⟩
structure PO(R:Env):Prop where
 abE:R.Fn 322 VH
def VI:br:=Nf ⟨2,[4],q [x 2 10 0,m 4 (.k (.bool false))] (t [m 5 1,o 6 (.SB 322 [2]),c 7 323 [5,6],m 4 7])⟩
structure Lc(R:Env):Prop where
 HZ:R.Fn 307 VI
 n322:PO R
 n323:O' R
def VJ:br:=Nf ⟨1,[2],q [x 1 40 0,m 2 (i 0)] (s (q [f 3 0 1,l 4 1 3,o 5 (.aq 10 1 1 [j 0] [(0,4)]),c 6 307 [i 4,5],m 7 6,⟨some 8,some (7,false),.aF 1 1⟩,⟨some 9,some (7,false),.ba 3 1 8 (i 0)⟩,⟨some 10,some (7,false),.load false 1 9⟩,⟨some 11,some (7,false),.aF 1 1⟩,⟨some 12,some (7,false),.ba 3 1 11 (i 1)⟩,⟨some 13,some (7,false),.load false 1 12⟩,⟨some 14,some (7,false),.aF 1 1⟩,⟨some 15,some (7,false),.ba 3 1 14 (i 2)⟩,⟨some 16,some (7,false),.load false 1 15⟩,⟨some 17,some (7,false),.aF 4 1⟩,⟨some 18,some (7,false),.load false 1 17⟩,⟨some 19,some (7,false),.aq 10 1 4 [j 0] [(0,10),(1,13),(2,16),(3,18)]⟩,⟨some 20,some (7,false),.call 307 [i 65535,19]⟩,w 21 7 (.k (.bool true)) 20] (k [21] (h 21 (t [m 2 (i 5)]) .skip))) (k [] (t [m 2 (i 0)])))⟩
structure PP(R:Env):Prop where
 VK:R.Fn 290 VJ
 n307:Lc R
def VL:br:=Nf ⟨1,[2],q [x 1 26 0,m 2 (.k (.bool false))] (q [f 3 0 1,l 4 1 3,f 5 1 1,l 6 1 5,f 7 2 1,l 8 1 7,o 9 (.mm true [4,6,8]),b 10 .gtr 9 (i 4096),m 11 10,⟨some 12,some (11,false),.aF 0 1⟩,⟨some 13,some (11,false),.load false 1 12⟩,⟨some 14,some (11,false),.aF 1 1⟩,⟨some 15,some (11,false),.load false 1 14⟩,⟨some 16,some (11,false),.aF 2 1⟩,⟨some 17,some (11,false),.load false 1 16⟩,⟨some 18,some (11,false),.mm false [13,15,17]⟩,⟨some 19,some (11,false),.bin .lss 18 (i (-4096))⟩,w 20 11 (.k (.bool true)) 19,m 2 20] (k [2] .ret))⟩
structure PQ(R:Env):Prop where
 Ld:R.Fn 308 VL
def VM:br:=Nf ⟨1,[2],q [x 1 41 0,m 2 (i 0)] (q [m 3 (.f 308)] (q [o 5 (.build [j 0,j 0,j 0] []),a 4 26 [j 0,j 0,j 0],r 3 4 5] (s (.block 0 (q [f 7 0 1,l 8 1 7,o 9 (.aq 10 1 1 [j 0] [(0,8)]),c 10 307 [i 2,9],m 11 10,⟨some 12,some (11,false),.aF 1 1⟩,⟨some 13,some (11,false),.yU 3 1 12 none none none⟩,⟨some 14,some (11,false),.call 307 [i 1048576,13]⟩,w 15 11 (.k (.bool true)) 14,m 6 15] (k [1,3,4,6] (h 6 (t [m 2 (i 5)]) (q [m 17 3,f 18 4 1,g 19 3 18,o 20 (.gW 17 [19]),m 21 20,⟨some 22,some (21,false),.mv 3⟩,⟨some 23,some (21,false),.aF 7 1⟩,⟨some 24,some (21,false),.load true 3 23⟩,⟨some 25,some (21,false),.gW 22 [24]⟩,w 26 21 (.k (.bool true)) 25,m 27 26,⟨some 28,some (27,false),.mv 3⟩,⟨some 29,some (27,false),.aF 10 1⟩,⟨some 30,some (27,false),.load true 3 29⟩,⟨some 31,some (27,false),.gW 28 [30]⟩,w 32 27 (.k (.bool true)) 31,m 16 32] (k [1,4,16] (h 16 (t [m 2 (i 8)]) .skip))))))) (k [1,4] (s (q [f 33 0 1,l 34 1 33] (.block 1 (s (.block 3 (s (.block 2 (s (s (q [b 36 .eql 34 (i 2),m 35 36] (h 35 (.exit 2) .skip)) (y [1,4,34] [b 38 .eql 34 (i 0),m 37 38] (h 37 (.exit 3) .skip))) (k [] (.exit 1)))) (y [1,4] [f 39 4 1,g 40 3 39,g 41 3 4,o 42 (.sM true [.i,.i,.i] 40 41)] (h 42 (t [m 2 (i 5)]) .skip)))) (k [1,4] (s (q [f 43 7 1,g 44 3 43,g 45 3 4,o 46 (.sM true [.i,.i,.i] 44 45),m 47 46,⟨some 48,some (47,false),.aF 10 1⟩,⟨some 49,some (47,false),.load true 3 48⟩,⟨some 50,some (47,false),.load true 3 4⟩,⟨some 51,some (47,false),.sM true [.i,.i,.i] 49 50⟩,w 52 47 (.k (.bool true)) 51] (k [52] (h 52 (t [m 2 (i 5)]) .skip))) (k [] (.exit 1))))))) (k [] (t [m 2 (i 0)])))))))⟩
structure PR(R:Env):Prop where
 VN:R.Fn 292 VM
 n307:Lc R
 n308:PQ R
def VO:br:=Nf ⟨2,[4],q [m 4 (.k (.bool false))] (s (q [m 6 0,n 7 6,m 8 1,n 9 8,b 10 .neq 7 9] (k [0,1,10] (h 10 (t [m 4 (.k (.bool false))]) .skip))) (k [0,1] (s (q [m 11 0,n 12 11,m 13 (i 0)] (k [0,1,12,13] (.block 0 (.loop (q [b 14 .lss 13 12] (s (h 14 .skip (.exit 0)) (k [0,1,12,13] (s (.block 1 (q [m 15 13,m 5 15] (s (.draw [0,0,3,7,0,0,48,112,255] [[0],[5],[16,17],[18],[1],[5],[20,21],[22],[19,23]] [m 16 0,m 17 5,u 18 3 16 17,g 19 3 18,m 20 1,m 21 5,u 22 3 20 21,g 23 3 22,o 24 (.sM true [.i,.i,.i] 19 23)]) (k [0,1,12,13,24] (h 24 (t [m 4 (.k (.bool false))]) .skip))))) (k [0,1,12,13] (p [b 25 .add 13 (i 1),m 13 25])))))))))) (k [] (t [m 4 (.k (.bool true))])))))⟩
structure PU(R:Env):Prop where
 VP:R.Fn 315 VO
def VQ:br:=Nf ⟨2,[4],q [m 4 (.k (.bool false))] (s (q [m 6 0,n 7 6,m 8 1,n 9 8,b 10 .neq 7 9] (k [0,1,10] (h 10 (t [m 4 (.k (.bool false))]) .skip))) (k [0,1] (s (q [m 11 0,n 12 11,m 13 (i 0)] (k [0,1,12,13] (.block 0 (.loop (q [b 14 .lss 13 12] (s (h 14 .skip (.exit 0)) (k [0,1,12,13] (s (.block 1 (q [m 15 13,m 5 15] (s (.draw [0,0,3,7,0,0,48,112,255] [[0],[5],[16,17],[18],[1],[5],[20,21],[22],[19,23]] [m 16 0,m 17 5,u 18 2 16 17,g 19 2 18,m 20 1,m 21 5,u 22 2 20 21,g 23 2 22,o 24 (.sM true [.i,.i] 19 23)]) (k [0,1,12,13,24] (h 24 (t [m 4 (.k (.bool false))]) .skip))))) (k [0,1,12,13] (p [b 25 .add 13 (i 1),m 13 25])))))))))) (k [] (t [m 4 (.k (.bool true))])))))⟩
structure PV(R:Env):Prop where
 VR:R.Fn 316 VQ
def VS:br:=Nf ⟨2,[4],q [m 4 (.k (.bool false))] (s (q [m 6 0,n 7 6,m 8 1,n 9 8,b 10 .neq 7 9] (k [0,1,10] (h 10 (t [m 4 (.k (.bool false))]) .skip))) (k [0,1] (s (q [m 11 0,n 12 11,m 13 (i 0)] (k [0,1,12,13] (.block 0 (.loop (q [b 14 .lss 13 12] (s (h 14 .skip (.exit 0)) (k [0,1,12,13] (s (.block 1 (q [m 15 13,m 5 15] (s (.draw [0,0,3,7,0,0,48,112,255] [[0],[5],[16,17],[18],[1],[5],[20,21],[22],[19,23]] [m 16 0,m 17 5,u 18 3 16 17,g 19 3 18,m 20 1,m 21 5,u 22 3 20 21,g 23 3 22,o 24 (.sM true [.i,.i,.i] 19 23)]) (k [0,1,12,13,24] (h 24 (t [m 4 (.k (.bool false))]) .skip))))) (k [0,1,12,13] (p [b 25 .add 13 (i 1),m 13 25])))))))))) (k [] (t [m 4 (.k (.bool true))])))))⟩
structure PW(R:Env):Prop where
 PX:R.Fn 317 VS
def VT:br:=Nf ⟨2,[4],q [x 2 39 0,x 3 39 1,m 4 (.k (.bool false))] (s (q [f 5 0 2,l 6 1 5,f 7 0 3,l 8 1 7,b 9 .neq 6 8,m 10 9,⟨some 11,some (10,false),.aF 6 2⟩,⟨some 12,some (10,false),.load true 5 11⟩,⟨some 13,some (10,false),.aF 6 3⟩,⟨some 14,some (10,false),.load true 5 13⟩,⟨some 15,some (10,false),.sM true [.i,.i,.i,.i,.i] 12 14⟩,w 16 10 (.k (.bool true)) 15,m 17 16,⟨some 18,some (17,false),.aF 11 2⟩,⟨some 19,some (17,false),.load true 13 18⟩,⟨some 20,some (17,false),.aF 11 3⟩,⟨some 21,some (17,false),.load true 13 20⟩,⟨some 22,some (17,false),.sM true [.i,.i,.i,.i,.i,.i,.i,.i,.i,.i,.i,.i,.i] 19 21⟩,w 23 17 (.k (.bool true)) 22,m 24 23,⟨some 25,some (24,false),.aF 4 2⟩,⟨some 26,some (24,false),.aF 0 25⟩,⟨some 27,some (24,false),.load false 1 26⟩,⟨some 28,some (24,false),.aF 4 3⟩,⟨some 29,some (24,false),.aF 0 28⟩,⟨some 30,some (24,false),.load false 1 29⟩,⟨some 31,some (24,false),.bin .neq 27 30⟩,w 32 24 (.k (.bool true)) 31] (k [2,3,32] (h 32 (t [m 4 (.k (.bool false))]) .skip))) (y [2,3] [f 33 1 2,f 34 0 33,l 35 1 34,f 36 1 3,f 37 0 36,l 38 1 37,c 39 315 [35,38],m 40 39,⟨some 41,some (40,true),.aF 1 2⟩,⟨some 42,some (40,true),.aF 1 41⟩,⟨some 43,some (40,true),.load false 1 42⟩,⟨some 44,some (40,true),.aF 1 3⟩,⟨some 45,some (40,true),.aF 1 44⟩,⟨some 46,some (40,true),.load false 1 45⟩,⟨some 47,some (40,true),.call 316 [43,46]⟩,w 48 40 47 (.k (.bool false)),m 49 48,⟨some 50,some (49,true),.aF 1 2⟩,⟨some 51,some (49,true),.aF 2 50⟩,⟨some 52,some (49,true),.load false 1 51⟩,⟨some 53,some (49,true),.aF 1 3⟩,⟨some 54,some (49,true),.aF 2 53⟩,⟨some 55,some (49,true),.load false 1 54⟩,⟨some 56,some (49,true),.call 317 [52,55]⟩,w 57 49 56 (.k (.bool false)),m 58 57,⟨some 59,some (58,true),.aF 4 2⟩,⟨some 60,some (58,true),.aF 1 59⟩,⟨some 61,some (58,true),.load false 1 60⟩,⟨some 62,some (58,true),.aF 4 3⟩,⟨some 63,some (58,true),.aF 1 62⟩,⟨some 64,some (58,true),.load false 1 63⟩,⟨some 65,some (58,true),.call 317 [61,64]⟩,w 66 58 65 (.k (.bool false)),m 4 66] (k [4] .ret)))⟩
structure PY(R:Env):Prop where
 VU:R.Fn 298 VT
 n315:PU R
 n316:PV R
 n317:PW R
def VV:br:=Nf ⟨1,[2],q [x 1 39 0,m 2 (i 0)] (s (q [f 3 0 1,l 4 1 3] (.block 0 (q [b 6 .eql 4 (i 1),m 5 6] (h 5 (t [f 7 1 1,g 8 3 7,c 9 193 [8],m 2 9]) (q [b 11 .eql 4 (i 2),m 10 11] (h 10 (t [f 12 4 1,g 13 2 12,c 14 84 [13],m 2 14]) (q [b 16 .eql 4 (i 3),m 15 16] (h 15 (t [f 17 6 1,g 18 5 17,c 19 290 [18],m 2 19]) (q [b 21 .eql 4 (i 4),m 20 21] (h 20 (t [f 22 11 1,g 23 13 22,c 24 292 [23],m 2 24]) .skip)))))))))) (k [] (t [m 2 (i 12)])))⟩
structure PZ(R:Env):Prop where
 VW:R.Fn 309 VV
 NI:Zv R
 n193:Lb R
 n290:PP R
 n292:PR R
def VX:br:=Nf ⟨1,[.cell 2 true 24],q [x 1 39 0,a 2 39 Z4] (s (q [f 3 0 1,l 4 1 3] (.block 0 (q [b 6 .eql 4 (i 1),m 5 6] (h 5 (p [o 7 (.build [.ai,.ai,.ai] []),f 8 1 1,r 3 8 7]) (q [b 10 .eql 4 (i 2),m 9 10] (h 9 (p [o 11 (.build [j 0,.ai] []),f 12 4 1,r 2 12 11]) (q [b 14 .eql 4 (i 3),m 13 14] (h 13 (p [o 15 (.build [j 0,j 0,j 0,j 0,j 0] []),f 16 6 1,r 5 16 15]) (q [b 18 .eql 4 (i 4),m 17 18] (h 17 (p [o 19 (.build Z9 []),f 20 11 1,r 13 20 19]) .skip)))))))))) (k [1,2] (t [g 21 24 1,r 24 2 21])))⟩
structure P0(R:Env):Prop where
 VY:R.Fn 310 VX
def VZ:br:=Nf ⟨1,[2],q [x 1 39 0,m 2 (.k .ai)] (s (q [f 16 0 1,l 17 1 16] (.block 0 (q [b 19 .eql 17 (i 1),m 18 19] (h 18 (q [f 21 1 1,g 22 3 21,c 23 196 [22],m 20 23,e 24 20 0,e 25 20 1,m 3 24,m 4 25] (k [3] (t [m 26 3,m 2 26]))) (q [b 28 .eql 17 (i 2),m 27 28] (h 27 (q [f 30 4 1,g 31 2 30,c 32 82 [31],m 29 32,e 33 29 0,e 34 29 1,m 5 33,m 6 34] (k [5] (t [m 35 5,m 2 35]))) (q [b 37 .eql 17 (i 3),m 36 37] (h 36 (q [f 38 6 1,g 39 5 38,a 7 40 [j 0,j 0,j 0,j 0,j 0],r 5 7 39] (q [f 40 0 7,l 41 1 40,o 42 (.conv .u8 41),o 43 (.aq 4 1 1 [.int .u8 0] [(0,42)]),m 8 43] (k [7,8] (s (q [f 44 1 7,o 45 (.ba 3 1 44 (i 0)),l 46 1 45,f 47 1 7,o 48 (.ba 3 1 47 (i 1)),l 49 1 48,f 50 1 7,o 51 (.ba 3 1 50 (i 2)),l 52 1 51,f 53 4 7,l 54 1 53,o 55 (.aq 10 1 4 [j 0] [(0,46),(1,49),(2,52),(3,54)]),n 56 55,m 57 (i 0)] (k [8,55,56,57] (.block 1 (.loop (q [b 58 .lss 57 56] (s (h 58 .skip (.exit 1)) (k [8,55,56,57] (s (.block 2 (q [u 59 1 55 57,l 60 1 59,m 10 60] (p [m 62 8,m 63 10,o 64 (.conv .u64 63),o 65 (.aq 6 1 1 [.int .u64 0] [(0,64)]),c 66 54 [62,i 2,65],m 61 66,e 67 61 0,e 68 61 1,m 8 67]))) (k [8,55,56,57] (p [b 69 .add 57 (i 1),m 57 69])))))))))) (k [8] (t [m 70 8,m 2 70])))))) .skip)))))))) (y [1] [f 71 11 1,g 72 13 71,a 11 41 Z9,r 13 11 72] (q [f 74 0 11,l 75 1 74,o 76 (.conv .u8 75),o 77 (.aq 4 1 1 [.int .u8 0] [(0,76)]),f 78 1 11,o 79 (.ba 3 1 78 (i 0)),l 80 1 79,o 81 (.conv .u64 80),f 82 1 11,o 83 (.ba 3 1 82 (i 1)),l 84 1 83,o 85 (.conv .u64 84),f 86 1 11,o 87 (.ba 3 1 86 (i 2)),l 88 1 87,o 89 (.conv .u64 88),o 90 (.aq 6 1 3 [.int .u64 0] [(0,81),(1,85),(2,89)]),c 91 54 [77,i 4,90],m 73 91,e 92 73 0,e 93 73 1,m 12 92,m 13 93] (k [11,12] (s (q [f 94 4 11,g 95 3 94,f 96 7 11,g 97 3 96,f 98 10 11,g 99 3 98,o 100 (.aq 26 3 3 [j 0,j 0,j 0] [(0,95),(1,97),(2,99)]),n 101 100,m 102 (i 0)] (k [12,100,101,102] (.block 3 (.loop (q [b 103 .lss 102 101] (s (h 103 .skip (.exit 3)) (k [12,100,101,102] (s (.block 4 (q [u 104 3 100 102,g 105 3 104,a 15 26 [j 0,j 0,j 0],r 3 15 105] (p [m 107 12,f 108 0 15,l 109 1 108,f 110 1 15,l 111 1 110,f 112 2 15,l 113 1 112,o 114 (.aq 10 1 3 [j 0] [(0,109),(1,111),(2,113)]),c 115 71 [107,i 2,114],m 106 115,e 116 106 0,e 117 106 1,m 12 116]))) (k [12,100,101,102] (p [b 118 .add 102 (i 1),m 102 118])))))))))) (k [12] (t [m 119 12,m 2 119])))))))⟩
structure P1(R:Env):Prop where
 V0:R.Fn 311 VZ
 JP:PH R
 JQ:PI R
 Zw:N82 R
 n196:PN R
def V1:br:=Nf ⟨1,[2],q [x 1 39 0,m 2 (i 0)] (s (q [g 4 24 1,c 5 309 [4],m 3 5] (q [m 6 3,b 7 .neq 6 (i 0)] (h 7 (t [m 8 3,m 2 8]) .skip))) (k [1] (s (s (.draw [0,1,0,4,12,31,63] [[1],[9],[1],[11],[12],[10,13],[14]] [g 9 24 1,c 10 310 [9],f 11 0 1,l 12 1 11,o 13 (.build Z4 [(0,1,12)]),c 14 298 [10,13],o 15 (.un .not 14)]) (k [1,15] (h 15 (t [m 2 (i 5)]) .skip))) (k [1] (s (s (.draw [0,1,3,0,8,27,63] [[1],[16],[17],[1],[19],[20],[18,21]] [g 16 24 1,c 17 311 [16],n 18 17,f 19 0 1,l 20 1 19,c 21 37 [20],b 22 .gtr 18 21]) (k [22] (h 22 (t [m 2 (i 9)]) .skip))) (k [] (t [m 2 (i 0)])))))))⟩
structure P3(R:Env):Prop where
 V2:R.Fn 294 V1
 n37:N37 R
 n298:PY R
 n309:PZ R
 n310:P0 R
 n311:P1 R
end Go.UM
namespace Go.UM
open Go.AM
open Z
def c16:br:=Nf ⟨3,[6],q [m 6 (.k (.int .u32 0))] (s (q [m 9 1,n 10 9,m 11 (i 0)] (k [0,2,9,10,11] (.block 0 (.loop (q [b 12 .lss 11 10] (s (h 12 .skip (.exit 0)) (k [0,2,9,10,11] (s (.block 1 (q [u 13 1 9 11,l 14 1 13,m 8 14] (p [m 15 2,m 16 0,m 17 8,o 18 (.gW 15 [16,17]),m 0 18]))) (k [0,2,9,10,11] (p [b 19 .add 11 (i 1),m 11 19])))))))))) (k [0] (t [m 20 0,m 6 20])))⟩
structure N16(R:Env):Prop where
 o16:R.Fn 16 c16
def c17:br:=Nf ⟨2,[4],q [m 4 (.k (.int .u32 0))] (t [m 5 0,m 6 1,b 7 .or 5 6,m 4 7])⟩
structure Zx(R:Env):Prop where
 o17:R.Fn 17 c17
def c4:br:=Nf ⟨1,[2],q [m 2 (.k (.int .u32 0))] (t [m 3 0,c 4 16 [.k (.int .u32 0),3,.f 17],m 2 4])⟩
structure N4(R:Env):Prop where
 o4:R.Fn 4 c4
 n16:N16 R
 n17:Zx R
def c6:br:=Nf ⟨2,[4],q [m 4 (.k (.bool false))] (q [m 5 0,m 6 1,b 7 .andNot 5 6,b 8 .eql 7 (.k (.int .u32 0)),m 4 8] (k [4] .ret))⟩
def c11:br:=Nf ⟨2,[4],q [x 2 1 0,m 4 (.k (.int .u8 0))] (s (q [m 5 1,b 6 .lss 5 (i 0),m 7 6,⟨some 8,some (7,false),.mv 1⟩,⟨some 9,some (7,false),.bin .geq 8 (i 8)⟩,w 10 7 (.k (.bool true)) 9] (k [1,2,10] (h 10 (t [m 4 (.k (.int .u8 0))]) .skip))) (k [1,2] (t [m 11 1,o 12 (.ba 8 1 2 11),l 13 1 12,m 4 13])))⟩
structure Zy(R:Env):Prop where
 V3:R.Fn 11 c11
def c12:br:=Nf ⟨2,[4],q [x 2 1 0,m 4 (.k (.bool false))] (q [g 5 8 2,m 6 1,c 7 11 [5,6],b 8 .neq 7 (.k (.int .u8 0)),m 4 8] (k [4] .ret))⟩
structure N12(R:Env):Prop where
 o12:R.Fn 12 c12
 n11:Zy R
def c18:br:=Nf ⟨3,[.cell 6 true 2],q [x 3 3 0,a 6 3 SI] (s (q [m 9 1,n 10 9,m 11 (i 0)] (k [2,3,6,9,10,11] (.block 0 (.loop (q [b 12 .lss 11 10] (s (h 12 .skip (.exit 0)) (k [2,3,6,9,10,11] (s (.block 1 (q [u 13 15 9 11,g 14 15 13,a 8 2 Z3,r 15 8 14] (p [m 15 2,g 16 2 3,g 17 15 8,o 18 (.gW 15 [16,17]),r 2 3 18]))) (k [2,3,6,9,10,11] (p [b 19 .add 11 (i 1),m 11 19])))))))))) (k [3,6] (t [g 20 2 3,r 2 6 20])))⟩
structure N18(R:Env):Prop where
 o18:R.Fn 18 c18
def c19:br:=Nf ⟨2,[.cell 4 true 2],q [x 2 3 0,x 3 2 1,a 4 3 SI] (q [o 5 (.ba 2 1 2 (i 0)),l 6 1 5,f 7 11 3,l 8 1 7,o 9 (.mm true [6,8]),o 10 (.ba 2 1 2 (i 1)),l 11 1 10,f 12 12 3,l 13 1 12,o 14 (.mm false [11,13]),o 15 (.build SI [(0,1,9),(1,1,14)]),r 2 4 15] (k [4] .ret))⟩
structure Zz(R:Env):Prop where
 o19:R.Fn 19 c19
def c14:br:=Nf ⟨3,[6,7],q [m 6 (.k (.int .u32 0)),m 7 (.k (.int .u32 0))] (q [m 9 0,m 10 1,o 11 (.build SI [(0,1,9),(1,1,10)]),m 12 2,c 13 18 [11,12,.f 19],a 8 3 SI,r 2 8 13] (k [8] (s (.draw [0,1,0,4,3,31] [[8],[14],[8],[16],[15],[17]] [o 14 (.ba 2 1 8 (i 0)),l 15 1 14,o 16 (.ba 2 1 8 (i 1)),l 17 1 16,m 6 15,m 7 17]) (k [6,7] .ret))))⟩
structure N14(R:Env):Prop where
 o14:R.Fn 14 c14
 n18:N18 R
 n19:Zz R
end Go.UM
namespace Go.UM
open Go.AM
open Z
def V4:br:=Nf ⟨0,[0],q [m 0 (.k .bM)] (q [o 1 (.Ox 1 false true 41),o 2 (.Ox 4 true true 16),o 3 (.build [.cj,.cj] [(0,1,1),(1,1,2)]),x 4 47 3,m 0 4] (k [0] .ret))⟩
structure Le(R:Env):Prop where
 abK:R.Fn 345 V4
def V5:br:=Nf ⟨1,[2],q [m 2 (.k (.bool false))] (q [m 3 0,o 4 (.SA false 3),m 5 4,⟨some 6,some (5,false),.mv 0⟩,⟨some 7,some (5,false),.aL 6⟩,⟨some 8,some (5,false),.aF 0 7⟩,⟨some 9,some (5,false),.load false 1 8⟩,⟨some 10,some (5,false),.Ke false 9⟩,w 11 5 (.k (.bool true)) 10,m 2 11] (k [2] .ret))⟩
structure tH(R:Env):Prop where
 Lf:R.Fn 355 V5
def V6:br:=Nf ⟨1,[.cell 2 true 24],q [x 1 39 0,a 2 39 Z4] (s (.draw [0,1,3,7,0,16,48,127,0,256,768,2047,4095,8191,16383] [[1],[3],[4],[5],[1],[7],[8],[9],[1],[11],[12],[13],[6,10,14],[1],[16,15]] [f 3 1 1,f 4 0 3,l 5 1 4,c 6 361 [5],f 7 1 1,f 8 1 7,l 9 1 8,c 10 362 [9],f 11 1 1,f 12 2 11,l 13 1 12,c 14 101 [13],o 15 (.build [.ai,.ai,.ai] [(0,1,6),(1,1,10),(2,1,14)]),f 16 1 1,r 3 16 15]) (y [1,2] [f 17 4 1,f 18 1 17,l 19 1 18,c 20 101 [19],f 21 4 1,f 22 1 21,r 1 22 20] (k [1,2] (t [g 23 24 1,r 24 2 23]))))⟩
structure Lg(R:Env):Prop where
 Lh:R.Fn 356 V6
 n101:KR R
 Li:KU R
 Lj:KV R
def V7:br:=Nf ⟨4,[8],q [x 6 2 2,x 7 39 3,m 8 (i 0)] (s (.block 0 (q [m 13 0,c 14 355 [13],m 12 14] (h 12 (t [m 8 (i 1)]) (q [m 16 1,b 17 .lss 16 (i 1),m 18 17,⟨some 19,some (18,false),.mv 1⟩,⟨some 20,some (18,false),.bin .gtr 19 (i 65536)⟩,w 21 18 (.k (.bool true)) 20,m 15 21] (k [0,1,6,7,15] (h 15 (t [m 8 (i 2)]) .skip)))))) (k [0,1,6,7] (s (q [m 23 0,o 24 (.aL 23),f 25 0 24,l 26 1 25,m 27 1,o 28 (.Gf [.i] false true (.agg Z2) true 26 27),m 22 28,e 29 22 0,e 30 22 1,a 9 45 Z2,r 40 9 29,m 10 30] (y [0,1,6,7,10] [m 31 10] (h 31 (t [m 8 (i 10)]) .skip))) (k [0,1,6,7] (s (q [g 32 24 7,c 33 294 [32],m 11 33] (q [m 34 11,b 35 .neq 34 (i 0)] (h 35 (t [m 36 11,m 8 36]) .skip))) (k [0,1,6,7] (s (q [f 37 1 6,l 38 1 37,f 39 0 7,l 40 1 39,b 41 .neq 38 40] (k [0,1,6,7,41] (h 41 (t [m 8 (i 12)]) .skip))) (k [0,1,6,7] (s (.draw [0,1,3,7,0,0,0,0,128,480,1023] [[0],[42],[43],[44],[1],[1],[6],[7],[49],[47,48,50],[45,46,51]] [m 42 0,o 43 (.aL 42),f 44 0 43,l 45 1 44,m 46 1,m 47 1,g 48 15 6,g 49 24 7,c 50 356 [49],o 51 (.build Z2 [(0,1,47),(1,15,48),(16,24,50)]),v (.G5 [.i] false true 45 46 51)]) (k [] (t [m 8 (i 0)])))))))))))⟩
structure Lk(R:Env):Prop where
 abL:R.Fn 346 V7
 n294:P3 R
 ja:tH R
 vf:Lg R
def V8:br:=Nf ⟨2,[4],q [x 3 44 1,m 4 (i 0)] (q [m 5 (i 0)] (s (q [f 10 0 3,l 11 1 10,o 12 (.build [j 0,j 0] [(0,1,11),(1,1,i 1)]),f 13 1 3,l 14 1 13,o 15 (.build [j 0,j 0] [(0,1,14),(1,1,i 3)]),f 16 2 3,l 17 1 16,o 18 (.build [j 0,j 0] [(0,1,17),(1,1,i 2)]),o 19 (.aq 18 2 3 [j 0,j 0] [(0,12),(1,15),(2,18)]),n 20 19,m 21 (i 0)] (k [0,5,19,20,21] (.block 0 (.loop (q [b 22 .lss 21 20] (s (h 22 .skip (.exit 0)) (k [0,5,19,20,21] (s (.block 1 (q [u 23 2 19 21,g 24 2 23,a 7 18 [j 0,j 0],r 2 7 24] (s (.draw [0,1,3,7,0,16,63,127,255,255,0,1535,4095] [[0],[26],[27],[28],[7],[30],[29,31],[32],[25],[25],[],[8,33],[34]] [m 26 0,o 27 (.aL 26),f 28 0 27,l 29 1 28,o 30 (.ba 2 1 7 (i 0)),l 31 1 30,o 32 (.Gf [.i] false true (.agg Z2) true 29 31),m 25 32,e 33 25 0,e 34 25 1,a 8 45 Z2,r 40 8 33,m 9 34]) (k [0,5,7,8,9,19,20,21] (.block 2 (q [o 36 (.ba 2 1 7 (i 1)),l 37 1 36,b 38 .eql 37 (i 2),m 39 38,⟨some 40,some (39,true),.ba 2 1 7 (i 0)⟩,⟨some 41,some (39,true),.load false 1 40⟩,⟨some 42,some (39,true),.bin .eql 41 (i 0)⟩,w 43 39 42 (.k (.bool false)),m 35 43] (k [0,5,7,8,9,19,20,21,35] (h 35 .skip (q [m 45 9,o 46 (.un .not 45),m 44 46] (h 44 (t [m 4 (i 11)]) (q [f 48 1 8,f 49 1 48,l 50 1 49,o 51 (.ba 2 1 7 (i 1)),l 52 1 51,b 53 .neq 50 52,m 47 53] (k [0,5,19,20,21,47] (h 47 (p [m 5 (i 12)]) .skip))))))))))))) (k [0,5,19,20,21] (p [b 54 .add 21 (i 1),m 21 54])))))))))) (k [5] (t [m 55 5,m 4 55]))))⟩
structure P4(R:Env):Prop where
 abM:R.Fn 357 V8
def V9:br:=Nf ⟨1,[.cell 2 true 4],q [x 1 44 0,a 2 49 [j 0,j 0,j 0,j 0]] (q [f 3 0 1,l 4 1 3,f 5 1 1,l 6 1 5,f 7 2 1,l 8 1 7,f 9 3 1,l 10 1 9,o 11 (.build [j 0,j 0,j 0,j 0] [(0,1,4),(1,1,6),(2,1,8),(3,1,10)]),r 4 2 11] (k [2] .ret))⟩
structure H0(R:Env):Prop where
 BT:R.Fn 358 V9
def V':br:=Nf ⟨2,[4],q [x 3 44 1,m 4 (i 0)] (s (.block 0 (q [m 13 0,c 14 355 [13],m 12 14] (h 12 (t [m 4 (i 1)]) (q [f 16 3 3,l 17 1 16,b 18 .lss 17 (i 0),m 19 18,⟨some 20,some (19,false),.aF 3 3⟩,⟨some 21,some (19,false),.load false 1 20⟩,⟨some 22,some (19,false),.bin .gtr 21 (i 65536)⟩,w 23 19 (.k (.bool true)) 22,m 15 23] (k [0,3,15] (h 15 (t [m 4 (i 2)]) .skip)))))) (k [0,3] (s (q [m 24 0,g 25 16 3,c 26 357 [24,25],m 5 26] (q [m 27 5,b 28 .neq 27 (i 0)] (h 28 (t [m 29 5,m 4 29]) .skip))) (k [0,3] (s (s (.draw [0,1,3,7,0,16,63,127,255,255,0,1535,4095] [[0],[31],[32],[33],[3],[35],[34,36],[37],[30],[30],[],[6,38],[39]] [m 31 0,o 32 (.aL 31),f 33 1 32,l 34 1 33,g 35 16 3,c 36 358 [35],o 37 (.Gf [.i,.i,.i,.i] true true (.agg KQ) true 34 36),m 30 37,e 38 30 0,e 39 30 1,a 6 33 KQ,r 12 6 38,m 7 39]) (y [0,3,7] [m 40 7] (h 40 (t [m 4 (i 10)]) .skip))) (k [0,3] (s (s (.draw [0,1,3,7,0,16,63,127,255,511,1023,0] [[0],[41],[42],[43],[3],[45],[44,46],[47],[48],[49],[50],[]] [m 41 0,o 42 (.aL 41),f 43 0 42,l 44 1 43,f 45 0 3,l 46 1 45,o 47 (.Gf [.i] false true (.agg Z2) false 44 46),o 48 (.G3 true 16 24 47),o 49 (.G3 true 1 3 48),o 50 (.G3 false 0 1 49),n 51 50,m 52 (i 0)]) (k [0,3,50,51,52] (.block 1 (.loop (q [b 53 .lss 52 51] (s (h 53 .skip (.exit 1)) (k [0,3,50,51,52] (s (.block 2 (q [u 54 3 50 52,g 55 3 54,a 9 26 [j 0,j 0,j 0],r 3 9 55] (q [f 57 4 3,g 58 12 57,g 59 3 9,c 60 241 [58,59],m 56 60,e 61 56 0,e 62 56 1,a 10 26 [j 0,j 0,j 0],r 3 10 61,m 11 62] (y [0,3,11,50,51,52] [m 63 11,b 64 .neq 63 (i 0)] (h 64 (t [m 65 11,m 4 65]) .skip))))) (k [0,3,50,51,52] (p [b 66 .add 52 (i 1),m 52 66])))))))))) (k [0,3] (s (.draw [0,1,3,7,0,16,0,64,255] [[0],[67],[68],[69],[3],[71],[3],[73],[70,72,74]] [m 67 0,o 68 (.aL 67),f 69 1 68,l 70 1 69,g 71 16 3,c 72 358 [71],f 73 4 3,g 74 12 73,v (.G5 [.i,.i,.i,.i] true true 70 72 74)]) (k [] (t [m 4 (i 0)])))))))))))⟩
structure Ll(R:Env):Prop where
 abN:R.Fn 347 V'
 n241:La R
 ja:tH R
 P5:P4 R
 lU:H0 R
def Wa:br:=Nf ⟨1,[2],q [m 2 (.k .ai)] (s (q [m 7 0,c 8 355 [7]] (h 8 (t [m 2 (.k .ai)]) .skip)) (y [0] [m 3 (.k .ai)] (s (q [m 9 0,o 10 (.aL 9),f 11 0 10,l 12 1 11,c 13 433 [12],c 14 434 [13],n 15 14,m 16 (i 0)] (k [0,3,14,15,16] (.block 0 (.loop (q [b 17 .lss 16 15] (s (h 17 .skip (.exit 0)) (k [0,3,14,15,16] (s (.block 1 (q [u 18 1 14 16,l 19 1 18,m 5 19] (q [m 20 0,o 21 (.aL 20),f 22 0 21,l 23 1 22,m 24 5,o 25 (.Gf [.i] false true (.agg Z2) false 23 24),a 6 45 Z2,r 40 6 25] (y [0,3,6,14,15,16] [f 26 16 6,g 27 24 26,c 28 356 [27],f 29 16 6,r 24 29 28] (k [0,3,6,14,15,16] (p [m 30 3,g 31 40 6,o 32 (.aq 45 40 1 Z2 [(0,31)]),o 33 (.app 45 40 30 32),m 3 33])))))) (k [0,3,14,15,16] (p [b 34 .add 16 (i 1),m 16 34])))))))))) (k [3] (t [m 35 3,m 2 35])))))⟩
structure P6(R:Env):Prop where
 abO:R.Fn 418 Wa
 ja:tH R
 vf:Lg R
 P7:Pa R
 P8:UE R
def Wb:br:=Nf ⟨2,[4],q [x 2 49 0,x 3 49 1,m 4 (i 0)] (s (.draw [0,1,0,4,15,0,32,0,128,511,0,1024,0,4096,16383,0,32768,0,131072,524287,1048575,2097151,4194303] [[2],[5],[3],[7],[6,8],[2],[10],[3],[12],[11,13],[2],[15],[3],[17],[16,18],[2],[20],[3],[22],[21,23],[9,14,19,24],[25],[26]] [f 5 0 2,l 6 1 5,f 7 0 3,l 8 1 7,c 9 451 [6,8],f 10 1 2,l 11 1 10,f 12 1 3,l 13 1 12,c 14 451 [11,13],f 15 2 2,l 16 1 15,f 17 2 3,l 18 1 17,c 19 451 [16,18],f 20 3 2,l 21 1 20,f 22 3 3,l 23 1 22,c 24 451 [21,23],o 25 (.aq 10 1 4 [j 0] [(0,9),(1,14),(2,19),(3,24)]),c 26 452 [25],m 4 26]) (k [4] .ret))⟩
structure P9(R:Env):Prop where
 Wc:R.Fn 450 Wb
 vg:Pe R
 Lm:Pf R
def Wd:br:=Nf ⟨2,[4],q [x 2 44 0,x 3 44 1,m 4 (i 0)] (s (.draw [0,1,0,7,15,31] [[2],[5],[3],[7],[6,8],[9]] [g 5 16 2,c 6 358 [5],g 7 16 3,c 8 358 [7],c 9 450 [6,8],m 4 9]) (k [4] .ret))⟩
structure P'(R:Env):Prop where
 abP:R.Fn 436 Wd
 lU:H0 R
 Ln:P9 R
def We:br:=Nf ⟨1,[2],q [m 2 (.k .ai)] (s (q [m 6 0,c 7 355 [6]] (h 7 (t [m 2 (.k .ai)]) .skip)) (y [0] [m 3 (.k .ai)] (s (q [m 8 0,o 9 (.aL 8),f 10 1 9,l 11 1 10,o 12 (.Oy 11)] (k [3,12] (.block 0 (.loop (q [o 13 (.SC 12),e 14 13 0] (s (h 14 .skip (.exit 0)) (k [3,12] (.block 1 (q [o 15 (.JZ 12),e 16 15 0,e 17 15 1,a 4 49 [j 0,j 0,j 0,j 0],a 5 33 KQ,r 4 4 16,r 12 5 17] (k [3,4,5,12] (p [m 18 3,f 19 0 4,l 20 1 19,f 21 1 4,l 22 1 21,f 23 2 4,l 24 1 23,f 25 3 4,l 26 1 25,g 27 12 5,o 28 (.build Z8 [(0,1,20),(1,1,22),(2,1,24),(3,1,26),(4,12,27)]),o 29 (.aq 44 16 1 Z8 [(0,28)]),o 30 (.app 44 16 18 29),m 3 30]))))))))))) (y [3] [m 31 3,c 32 435 [31,.f 436]] (t [m 33 3,m 2 33])))))⟩
structure Qa(R:Env):Prop where
 abQ:R.Fn 419 We
 ja:tH R
 Lo:UF R
 Qb:P' R
def Wf:br:=Nf ⟨2,[4],q [x 3 44 1,m 4 (i 0)] (s (q [m 7 0,c 8 355 [7]] (h 8 (t [m 4 (i 1)]) .skip)) (k [0,3] (s (s (.draw [0,1,3,7,0,16,63,127,255,255,0,1535,4095] [[0],[10],[11],[12],[3],[14],[13,15],[16],[9],[9],[],[5,17],[18]] [m 10 0,o 11 (.aL 10),f 12 1 11,l 13 1 12,g 14 16 3,c 15 358 [14],o 16 (.Gf [.i,.i,.i,.i] true true (.agg KQ) true 13 15),m 9 16,e 17 9 0,e 18 9 1,a 5 33 KQ,r 12 5 17,m 6 18]) (y [0,3,6] [m 19 6,o 20 (.un .not 19)] (h 20 (t [m 4 (i 11)]) .skip))) (k [0,3] (s (.draw [0,1,3,7,0,16,63] [[0],[21],[22],[23],[3],[25],[24,26]] [m 21 0,o 22 (.aL 21),f 23 1 22,l 24 1 23,g 25 16 3,c 26 358 [25],v (.Ns [.i,.i,.i,.i] true 24 26)]) (k [] (t [m 4 (i 0)])))))))⟩
structure Qc(R:Env):Prop where
 abR:R.Fn 427 Wf
 ja:tH R
 lU:H0 R
def Wg:br:=Nf ⟨3,[5],q [x 3 49 0,x 4 33 1,m 5 (.k (.bool false))] (q [f 6 0 3,l 7 1 6,l 8 1 2,b 9 .eql 7 8,m 10 9,⟨some 11,some (10,false),.aF 1 3⟩,⟨some 12,some (10,false),.load false 1 11⟩,⟨some 13,some (10,false),.load false 1 2⟩,⟨some 14,some (10,false),.bin .eql 12 13⟩,w 15 10 (.k (.bool true)) 14,m 16 15,⟨some 17,some (16,false),.aF 2 3⟩,⟨some 18,some (16,false),.load false 1 17⟩,⟨some 19,some (16,false),.load false 1 2⟩,⟨some 20,some (16,false),.bin .eql 18 19⟩,w 21 16 (.k (.bool true)) 20,m 5 21] (k [5] .ret))⟩
structure Lp(R:Env):Prop where
 abS:R.Fn 437 Wg
def Wh:br:=Nf ⟨2,[4],q [x 3 10 1,m 4 (i 0)] (s (q [m 7 0,c 8 355 [7]] (h 8 (t [m 4 (i 1)]) .skip)) (k [0,3] (s (s (.draw [0,1,3,7,0,31,63,127,127,0,767,2047] [[0],[10],[11],[12],[3],[13,14],[15],[9],[9],[],[5,16],[17]] [m 10 0,o 11 (.aL 10),f 12 0 11,l 13 1 12,l 14 1 3,o 15 (.Gf [.i] false true (.agg Z2) true 13 14),m 9 15,e 16 9 0,e 17 9 1,a 5 45 Z2,r 40 5 16,m 6 17]) (y [0,3,6] [m 18 6,o 19 (.un .not 18)] (h 19 (t [m 4 (i 11)]) .skip))) (k [0,3] (s (.draw [0,1,3,7,0,31] [[0],[20],[21],[22],[3],[23,24]] [m 20 0,o 21 (.aL 20),f 22 0 21,l 23 1 22,l 24 1 3,v (.Ns [.i] false 23 24)]) (y [0,3] [m 25 0,o 26 (.aL 25),f 27 1 26,l 28 1 27,o 29 (.SB 437 [3]),c 30 438 [28,29]] (k [] (t [m 4 (i 0)]))))))))⟩
structure Qd(R:Env):Prop where
 abT:R.Fn 428 Wh
 ja:tH R
 Qe:Lp R
 Qf:Pg R
def Wi:br:=Nf ⟨1,[2],q [m 2 (.k .bM)] (s (q [m 3 0,c 4 355 [3]] (h 4 (t [m 2 (.k .bM)]) .skip)) (k [0] (s (.draw [0,1,3,7,15,0,32,96,224,511,1023,2047,4095] [[0],[5],[6],[7],[8],[0],[10],[11],[12],[13],[9,14],[15],[16]] [m 5 0,o 6 (.aL 5),f 7 0 6,l 8 1 7,c 9 439 [8],m 10 0,o 11 (.aL 10),f 12 1 11,l 13 1 12,c 14 440 [13],o 15 (.build [.cj,.cj] [(0,1,9),(1,1,14)]),x 16 47 15,m 2 16]) (k [2] .ret))))⟩
structure H1(R:Env):Prop where
 Qg:R.Fn 430 Wi
 ja:tH R
 Qh:UN R
 Qi:UO R
end Go.UM
namespace Go.UM
open Go.AM
open Z
def Wj:br:=Nf ⟨3,[],q [m 8 0,o 9 (.aL 8),f 10 0 9,f 11 8 10,r 1 11 (.k (.int .u32 4294967295))] (y [0,1,2] [m 12 1,n 13 12,m 14 (i 0)] (k [0,2,12,13,14] (.block 0 (.loop (q [b 15 .lss 14 13] (s (h 15 .skip (.exit 0)) (k [0,2,12,13,14] (s (.block 1 (q [u 16 40 12 14,g 17 40 16,a 7 45 Z2,r 40 7 17] (s (q [f 18 1 7,f 19 3 18,g 20 8 19,m 21 2,c 22 12 [20,21],o 23 (.un .not 22)] (k [0,2,7,12,13,14,23] (h 23 (.exit 1) .skip))) (k [0,2,7,12,13,14] (s (.draw [0,1,3,7,0,16,0,64,192,448,960,1984,4095] [[0],[24],[25],[26],[7],[28],[0],[30],[31],[32],[33],[34],[27,29,35]] [m 24 0,o 25 (.aL 24),f 26 10 25,l 27 1 26,f 28 0 7,l 29 1 28,m 30 0,o 31 (.aL 30),f 32 0 31,f 33 4 32,l 34 1 33,n 35 34,v (.G5 [.i] false false 27 29 35)]) (k [0,2,7,12,13,14] (s (.draw [0,0,2,6,14,30,0,64,192,448,1022,2047,4095,8191,16383] [[0],[0],[37],[38],[39],[40],[7],[42],[43],[44],[41,45],[36],[47],[48],[49,46]] [m 36 0,m 37 0,o 38 (.aL 37),f 39 0 38,f 40 4 39,l 41 1 40,f 42 1 7,f 43 0 42,l 44 1 43,o 45 (.aq 6 1 1 [.int .u64 0] [(0,44)]),o 46 (.app 6 1 41 45),o 47 (.aL 36),f 48 0 47,f 49 4 48,r 1 49 46]) (k [0,2,7,12,13,14] (s (.draw [0,0,2,6,14,30,0,64,192,448,1022,2047,4095,8191,16383] [[0],[0],[51],[52],[53],[54],[7],[56],[57],[58],[55,59],[50],[61],[62],[63,60]] [m 50 0,m 51 0,o 52 (.aL 51),f 53 0 52,f 54 5 53,l 55 1 54,f 56 1 7,f 57 2 56,l 58 1 57,o 59 (.aq 0 1 1 [.int .u32 0] [(0,58)]),o 60 (.app 0 1 55 59),o 61 (.aL 50),f 62 0 61,f 63 5 62,r 1 63 60]) (k [0,2,7,12,13,14] (s (.draw [0,0,2,6,14,30,0,64,192,510,1022,2047,4095,8191,16383] [[0],[0],[65],[66],[67],[68],[7],[70],[71],[69,72],[73],[64],[75],[76],[77,74]] [m 64 0,m 65 0,o 66 (.aL 65),f 67 0 66,f 68 6 67,l 69 1 68,f 70 1 7,f 71 2 70,l 72 1 71,o 73 (.aq 0 1 2 [.int .u32 0] [(0,69),(1,72)]),c 74 4 [73],o 75 (.aL 64),f 76 0 75,f 77 6 76,r 1 77 74]) (k [0,2,7,12,13,14] (s (.draw [0,0,0,4,12,28,60,0,128,384,896,1920,0,4096,12288,32764,65532,131068,131068,262141,786429,1835005,3932157,8388607,16777215,33554431,67108863] [[0],[0],[0],[81],[82],[83],[84],[0],[86],[87],[88],[89],[7],[91],[92],[85,90,93],[94],[78],[78],[79],[97],[98],[99,95],[80],[100],[101],[102,96]] [m 79 0,m 80 0,m 81 0,o 82 (.aL 81),f 83 0 82,f 84 7 83,l 85 1 84,m 86 0,o 87 (.aL 86),f 88 0 87,f 89 8 88,l 90 1 89,f 91 1 7,g 92 15 91,o 93 (.aq 2 15 1 Z3 [(0,92)]),c 94 14 [85,90,93],m 78 94,e 95 78 0,e 96 78 1,o 97 (.aL 79),f 98 0 97,f 99 7 98,r 1 99 95,o 100 (.aL 80),f 101 0 100,f 102 8 101,r 1 102 96]) (y [0,2,7,12,13,14] [f 103 16 7,f 104 0 103,l 105 1 104] (.block 2 (q [b 107 .eql 105 (i 1),m 106 107] (h 106 (.draw [0,1,3,7,0,16,0,127] [[0],[108],[109],[110],[7],[112],[7],[111,113,114]] [m 108 0,o 109 (.aL 108),f 110 9 109,l 111 1 110,f 112 0 7,l 113 1 112,g 114 40 7,v (.G5 [.i] false true 111 113 114)]) (q [b 116 .eql 105 (i 3),m 115 116] (h 115 (s (.draw [0,1,3,7,0,16,0,64,192,448,960,1984,4095] [[0],[117],[118],[119],[7],[121],[0],[123],[124],[125],[126],[127],[120,122,128]] [m 117 0,o 118 (.aL 117),f 119 11 118,l 120 1 119,f 121 0 7,l 122 1 121,m 123 0,o 124 (.aL 123),f 125 0 124,f 126 1 125,l 127 1 126,n 128 127,v (.G5 [.i] false false 120 122 128)]) (k [0,2,7,12,13,14] (.draw [0,0,2,6,14,30,0,64,192,448,1022,2047,4095,8191,16383] [[0],[0],[130],[131],[132],[133],[7],[135],[136],[137],[134,138],[129],[140],[141],[142,139]] [m 129 0,m 130 0,o 131 (.aL 130),f 132 0 131,f 133 1 132,l 134 1 133,f 135 16 7,f 136 6 135,g 137 5 136,o 138 (.aq 40 5 1 [j 0,j 0,j 0,j 0,j 0] [(0,137)]),o 139 (.app 40 5 134 138),o 140 (.aL 129),f 141 0 140,f 142 1 141,r 1 142 139]))) (q [b 144 .eql 105 (i 2),m 143 144] (h 143 (s (.draw [0,1,3,7,0,16,0,64,192,448,960,1984,4095] [[0],[145],[146],[147],[7],[149],[0],[151],[152],[153],[154],[155],[148,150,156]] [m 145 0,o 146 (.aL 145),f 147 11 146,l 148 1 147,f 149 0 7,l 150 1 149,m 151 0,o 152 (.aL 151),f 153 0 152,f 154 2 153,l 155 1 154,n 156 155,v (.G5 [.i] false false 148 150 156)]) (k [0,2,7,12,13,14] (.draw [0,0,2,6,14,30,0,64,192,448,1022,2047,4095,8191,16383] [[0],[0],[158],[159],[160],[161],[7],[163],[164],[165],[162,166],[157],[168],[169],[170,167]] [m 157 0,m 158 0,o 159 (.aL 158),f 160 0 159,f 161 2 160,l 162 1 161,f 163 16 7,f 164 4 163,g 165 2 164,o 166 (.aq 12 2 1 [j 0,.ai] [(0,165)]),o 167 (.app 12 2 162 166),o 168 (.aL 157),f 169 0 168,f 170 2 169,r 1 170 167]))) (q [b 172 .eql 105 (i 4),m 171 172] (h 171 (.draw [0,0,2,6,14,30,0,64,192,448,1022,2047,4095,8191,16383] [[0],[0],[174],[175],[176],[177],[7],[179],[180],[181],[178,182],[173],[184],[185],[186,183]] [m 173 0,m 174 0,o 175 (.aL 174),f 176 0 175,f 177 3 176,l 178 1 177,f 179 16 7,f 180 11 179,g 181 13 180,o 182 (.aq 41 13 1 Z9 [(0,181)]),o 183 (.app 41 13 178 182),o 184 (.aL 173),f 185 0 184,f 186 3 185,r 1 186 183]) .skip))))))))))))))))))))))) (k [0,2,12,13,14] (p [b 187 .add 14 (i 1),m 14 187]))))))))))⟩
structure Qj(R:Env):Prop where
 abU:R.Fn 505 Wj
 n4:N4 R
 n12:N12 R
 n14:N14 R
def Wl:br:=Nf ⟨3,[],q [x 4 44 1] (s (.draw [0,1,3,7,0,16,63,127,255,255,0,1535,4095] [[0],[19],[20],[21],[4],[23],[22,24],[25],[18],[18],[],[6,26],[27]] [m 19 0,o 20 (.aL 19),f 21 9 20,l 22 1 21,f 23 0 4,l 24 1 23,o 25 (.Gf [.i] false true (.agg Z2) true 22 24),m 18 25,e 26 18 0,e 27 18 1,a 6 45 Z2,r 40 6 26,m 7 27]) (k [0,2,4,6,7] (s (.draw [0,1,3,7,0,16,63,127,255,255,511,2047] [[0],[29],[30],[31],[4],[33],[32,34],[35],[28],[28],[36],[37]] [m 29 0,o 30 (.aL 29),f 31 11 30,l 32 1 31,f 33 1 4,l 34 1 33,o 35 (.Gf [.i] false false (j 0) true 32 34),m 28 35,e 36 28 0,e 37 28 1,m 8 36,m 9 37]) (k [0,2,4,6,7,8,9] (s (.draw [0,1,3,7,0,16,63,127,255,255,511,2047] [[0],[39],[40],[41],[4],[43],[42,44],[45],[38],[38],[46],[47]] [m 39 0,o 40 (.aL 39),f 41 11 40,l 42 1 41,f 43 2 4,l 44 1 43,o 45 (.Gf [.i] false false (j 0) true 42 44),m 38 45,e 46 38 0,e 47 38 1,m 10 46,m 11 47]) (k [0,2,4,6,7,8,9,10,11] (s (q [f 48 2 4,l 49 1 48,b 50 .eql 49 (i 0)] (h 50 (p [m 10 (i (-1)),m 11 (.k (.bool true))]) .skip)) (k [0,2,4,6,7,8,9,10,11] (s (q [m 51 7,o 52 (.un .not 51),m 53 52,⟨some 54,some (53,false),.mv 9⟩,⟨some 55,some (53,false),.un .not 54⟩,w 56 53 (.k (.bool true)) 55,m 57 56,⟨some 58,some (57,false),.mv 11⟩,⟨some 59,some (57,false),.un .not 58⟩,w 60 57 (.k (.bool true)) 59] (k [0,2,4,6,8,10,60] (h 60 .ret .skip))) (y [0,2,4,6,8,10] [f 61 16 6,f 62 1 61,g 63 3 62,a 12 25 [.ai,.ai,.ai],r 3 12 63] (y [0,2,4,6,8,10,12] [f 64 2 12,l 65 1 64,n 66 65,m 67 (i 0)] (k [0,2,4,6,8,10,12,65,66,67] (.block 0 (.loop (q [b 68 .lss 67 66] (s (h 68 .skip (.exit 0)) (k [0,2,4,6,8,10,12,65,66,67] (s (.block 1 (q [u 69 3 65 67,g 70 3 69,a 14 13 [j 0,j 0,j 0],r 3 14 70] (s (.draw [0,0,0,4,12,28,0,64,252,0,512,1536,0,7680,16383,0,65535] [[8],[10],[0],[73],[74],[75],[4],[77],[76,78],[6],[80],[81],[2],[82,83],[71,72,79,84],[],[15,85]] [m 71 8,m 72 10,m 73 0,o 74 (.aL 73),f 75 10 74,l 76 1 75,f 77 0 4,l 78 1 77,o 79 (.Nr [.i] false 76 78),f 80 1 6,f 81 3 80,g 82 8 81,m 83 2,c 84 11 [82,83],o 85 (.build Z6 [(15,1,71),(16,1,72),(17,1,79),(18,1,84)]),a 15 60 Z6,r 19 15 85]) (k [0,2,4,6,8,10,12,14,15,65,66,67] (s (q [g 86 3 14,m 87 (i 0)] (k [0,2,4,6,8,10,12,15,65,66,67,86,87] (.block 2 (.loop (q [b 88 .lss 87 (i 3)] (s (h 88 .skip (.exit 2)) (k [0,2,4,6,8,10,12,15,65,66,67,86,87] (s (.block 3 (q [m 89 87,o 90 (.G4 false 3 1 86 87),m 16 89,m 17 90] (s (.draw [0,0,2,0,8,0,56,120,254,510,1022,1022,0,6143,14335] [[16],[4],[93],[12],[95],[17],[96,97],[98],[94,99],[100],[91],[91],[15],[103,92],[104,101]] [m 92 16,f 93 4 4,g 94 12 93,f 95 0 12,l 96 1 95,m 97 17,u 98 3 96 97,g 99 3 98,c 100 241 [94,99],m 91 100,e 101 91 0,e 102 91 1,f 103 0 15,o 104 (.ba 3 3 103 92),r 3 104 101]) (k [0,2,4,6,8,10,12,15,16,17,65,66,67,86,87] (p [m 105 16,f 106 1 12,l 107 1 106,m 108 17,u 109 2 107 108,g 110 2 109,f 111 9 15,o 112 (.ba 3 2 111 105),r 2 112 110]))))) (k [0,2,4,6,8,10,12,15,65,66,67,86,87] (p [b 113 .add 87 (i 1),m 87 113])))))))))) (k [0,2,4,6,8,10,12,15,65,66,67] (.draw [0,0,2,6,14,30,0,64,254,511,1023,2047,4095] [[0],[0],[115],[116],[117],[118],[15],[120],[119,121],[114],[123],[124],[125,122]] [m 114 0,m 115 0,o 116 (.aL 115),f 117 0 116,f 118 0 117,l 119 1 118,g 120 19 15,o 121 (.aq 60 19 1 Z6 [(0,120)]),o 122 (.app 60 19 119 121),o 123 (.aL 114),f 124 0 123,f 125 0 124,r 1 125 122]))))))) (k [0,2,4,6,8,10,12,65,66,67] (p [b 126 .add 67 (i 1),m 67 126]))))))))))))))))))))⟩
structure Qk(R:Env):Prop where
 abV:R.Fn 506 Wl
 n11:Zy R
 n241:La R
def Wm:br:=Nf ⟨2,[.cell 4 true 9,5],q [a 4 59 Z7,m 5 (i 0)] (s (.block 0 (q [m 10 0,c 11 430 [10],o 12 (.SA false 11),m 9 12] (h 9 (t [o 13 (.build Z7 []),r 9 4 13,m 5 (i 1)]) (q [m 15 1,b 16 .lss 15 (i 0),m 17 16,⟨some 18,some (17,false),.mv 1⟩,⟨some 19,some (17,false),.bin .geq 18 (i 8)⟩,w 20 17 (.k (.bool true)) 19,m 14 20] (k [0,1,4,14] (h 14 (t [o 21 (.build Z7 []),r 9 4 21,m 5 (i 13)]) .skip)))))) (y [0,1,4] [o 22 (.Ox 1 false true 41),o 23 (.Ox 1 false false 2),o 24 (.Ox 1 false false 2),o 25 (.build [.ai,.ai,.ai,.ai,.ai,.ai,.int .u32 0,.int .u32 0,.int .u32 0,.cj,.cj,.cj] [(9,1,22),(10,1,23),(11,1,24)]),x 26 61 25,m 6 26] (y [0,1,4,6] [m 27 6,m 28 0,c 29 418 [28],m 30 1,c 31 505 [27,29,30]] (k [0,1,4,6] (s (q [m 32 0,c 33 419 [32],n 34 33,m 35 (i 0)] (k [1,4,6,33,34,35] (.block 1 (.loop (q [b 36 .lss 35 34] (s (h 36 .skip (.exit 1)) (k [1,4,6,33,34,35] (s (.block 2 (q [u 37 16 33 35,g 38 16 37,a 8 44 Z8,r 16 8 38] (p [m 39 6,g 40 16 8,m 41 1,c 42 506 [39,40,41]]))) (k [1,4,6,33,34,35] (p [b 43 .add 35 (i 1),m 35 43])))))))))) (y [4,6] [m 44 6,o 45 (.aL 44),f 46 0 45,g 47 9 46,r 9 4 47,m 5 (i 0)] (k [4,5] .ret)))))))⟩
structure BU(R:Env):Prop where
 Lq:R.Fn 491 Wm
 Ql:P6 R
 Qm:Qa R
 E6:H1 R
 Qn:Qj R
 Qo:Qk R
def Wo:br:=Nf ⟨1,[2,3],q [m 2 (i 0),m 3 (i 0)] (s (q [m 4 0] (.block 0 (q [b 6 .eql 4 (i 0),m 5 6] (h 5 (t [m 2 (i 16),m 3 (i 4)]) (q [b 8 .eql 4 (i 1),m 7 8] (h 7 (t [m 2 (i 64),m 3 (i 4)]) (q [b 10 .eql 4 (i 2),m 9 10] (h 9 (t [m 2 (i 256),m 3 (i 8)]) .skip)))))))) (k [] (t [m 2 (i 0),m 3 (i 0)])))⟩
structure Qp(R:Env):Prop where
 Wp:R.Fn 495 Wo
def Wq:br:=Nf ⟨2,[4],q [x 2 59 0,m 4 (i 0)] (s (q [m 8 1,c 9 495 [8],m 7 9,e 10 7 0,e 11 7 1,m 5 10,m 6 11] (y [2,5,6] [f 12 0 2,l 13 1 12,n 14 13,m 15 5,b 16 .gtr 14 15,m 17 16,⟨some 18,some (17,false),.aF 3 2⟩,⟨some 19,some (17,false),.load false 1 18⟩,⟨some 20,some (17,false),.fw 19⟩,⟨some 21,some (17,false),.mv 6⟩,⟨some 22,some (17,false),.bin .gtr 20 21⟩,w 23 17 (.k (.bool true)) 22] (k [23] (h 23 (t [m 4 (i 15)]) .skip)))) (k [] (t [m 4 (i 0)])))⟩
structure Qq(R:Env):Prop where
 Qr:R.Fn 496 Wq
 Lr:Qp R
def Wr:br:=Nf ⟨2,[],q [m 8 1,n 9 8,m 10 (i 0)] (k [0,8,9,10] (.block 0 (.loop (q [b 11 .lss 10 9] (s (h 11 .skip (.exit 0)) (k [0,8,9,10] (s (.block 1 (q [u 12 1 8 10,l 13 1 12,m 5 13] (q [m 15 5,o 16 (.aq 10 1 1 [j 0] [(0,15)]),c 17 71 [.k .ai,i 8,16],m 14 17,e 18 14 0,e 19 14 1,m 6 18,m 7 19] (k [0,6,8,9,10] (p [m 20 0,m 21 0,o 22 (.aL 21),f 23 0 22,l 24 1 23,m 25 6,o 26 (.app 4 1 24 25),o 27 (.aL 20),f 28 0 27,r 1 28 26]))))) (k [0,8,9,10] (p [b 29 .add 10 (i 1),m 10 29])))))))))⟩
structure H2(R:Env):Prop where
 Ws:R.Fn 508 Wr
 JQ:PI R
def Wt:br:=Nf ⟨2,[],q [m 6 1,n 7 6,m 8 (i 0)] (k [0,6,7,8] (.block 0 (.loop (q [b 9 .lss 8 7] (s (h 9 .skip (.exit 0)) (k [0,6,7,8] (s (.block 1 (q [u 10 3 6 8,g 11 3 10,a 5 26 [j 0,j 0,j 0],r 3 5 11] (p [m 12 0,f 13 0 5,l 14 1 13,f 15 1 5,l 16 1 15,f 17 2 5,l 18 1 17,o 19 (.aq 10 1 3 [j 0] [(0,14),(1,16),(2,18)]),c 20 508 [12,19]]))) (k [0,6,7,8] (p [b 21 .add 8 (i 1),m 8 21])))))))))⟩
structure Qs(R:Env):Prop where
 abW:R.Fn 509 Wt
 iO:H2 R
def Wu:br:=Nf ⟨1,[2],q [x 1 59 0,m 2 (.k .ai)] (q [o 20 (.build [.ai] []),x 21 62 20,m 3 21] (q [m 22 3,f 23 0 1,l 24 1 23,n 25 24,o 26 (.aq 10 1 1 [j 0] [(0,25)]),c 27 508 [22,26]] (k [1,3] (s (q [f 28 0 1,l 29 1 28,n 30 29,m 31 (i 0)] (k [1,3,29,30,31] (.block 0 (.loop (q [b 32 .lss 31 30] (s (h 32 .skip (.exit 0)) (k [1,3,29,30,31] (s (.block 1 (q [u 33 19 29 31,g 34 19 33,a 5 60 Z6,r 19 5 34] (q [m 35 3,f 36 0 5,o 37 (.yU 3 3 36 none none none),c 38 509 [35,37]] (s (q [f 39 9 5,g 40 6 39,m 41 (i 0)] (k [1,3,5,29,30,31,40,41] (.block 2 (.loop (q [b 42 .lss 41 (i 3)] (s (h 42 .skip (.exit 2)) (k [1,3,5,29,30,31,40,41] (s (.block 3 (q [o 43 (.G4 true 3 2 40 41),a 7 18 [j 0,j 0],r 2 7 43] (p [m 44 3,o 45 (.yU 2 1 7 none none none),c 46 508 [44,45]]))) (k [1,3,5,29,30,31,40,41] (p [b 47 .add 41 (i 1),m 41 47])))))))))) (k [1,3,5,29,30,31] (p [m 48 3,f 49 15 5,l 50 1 49,f 51 16 5,l 52 1 51,f 53 17 5,l 54 1 53,f 55 18 5,l 56 1 55,o 57 (.conv .i64 56),o 58 (.aq 10 1 4 [j 0] [(0,50),(1,52),(2,54),(3,57)]),c 59 508 [48,58]])))))) (k [1,3,29,30,31] (p [b 60 .add 31 (i 1),m 31 60])))))))))) (y [1,3] [m 61 3,f 62 1 1,l 63 1 62,n 64 63,o 65 (.aq 10 1 1 [j 0] [(0,64)]),c 66 508 [61,65]] (k [1,3] (s (q [f 67 1 1,l 68 1 67,n 69 68,m 70 (i 0)] (k [1,3,68,69,70] (.block 4 (.loop (q [b 71 .lss 70 69] (s (h 71 .skip (.exit 4)) (k [1,3,68,69,70] (s (.block 5 (q [u 72 5 68 70,g 73 5 72,a 9 40 [j 0,j 0,j 0,j 0,j 0],r 5 9 73] (q [m 74 3,f 75 0 9,l 76 1 75,o 77 (.aq 10 1 1 [j 0] [(0,76)]),c 78 508 [74,77]] (y [1,3,9,68,69,70] [m 79 3,f 80 1 9,o 81 (.yU 3 1 80 none none none),c 82 508 [79,81]] (p [m 83 3,f 84 4 9,l 85 1 84,o 86 (.aq 10 1 1 [j 0] [(0,85)]),c 87 508 [83,86]]))))) (k [1,3,68,69,70] (p [b 88 .add 70 (i 1),m 70 88])))))))))) (y [1,3] [m 89 3,f 90 2 1,l 91 1 90,n 92 91,o 93 (.aq 10 1 1 [j 0] [(0,92)]),c 94 508 [89,93]] (k [1,3] (s (q [f 95 2 1,l 96 1 95,n 97 96,m 98 (i 0)] (k [1,3,96,97,98] (.block 6 (.loop (q [b 99 .lss 98 97] (s (h 99 .skip (.exit 6)) (k [1,3,96,97,98] (s (.block 7 (q [u 100 2 96 98,g 101 2 100,a 11 12 [j 0,.ai],r 2 11 101] (q [m 102 3,f 103 0 11,l 104 1 103,f 105 1 11,l 106 1 105,n 107 106,o 108 (.aq 10 1 2 [j 0] [(0,104),(1,107)]),c 109 508 [102,108]] (y [1,3,11,96,97,98] [f 110 1 11,l 111 1 110,n 112 111,m 113 (i 0)] (k [1,3,96,97,98,111,112,113] (.block 8 (.loop (q [b 114 .lss 113 112] (s (h 114 .skip (.exit 8)) (k [1,3,96,97,98,111,112,113] (s (.block 9 (q [u 115 3 111 113,g 116 3 115,a 13 13 [j 0,j 0,j 0],r 3 13 116] (p [m 117 3,o 118 (.yU 3 1 13 none none none),c 119 508 [117,118]]))) (k [1,3,96,97,98,111,112,113] (p [b 120 .add 113 (i 1),m 113 120]))))))))))))) (k [1,3,96,97,98] (p [b 121 .add 98 (i 1),m 98 121])))))))))) (y [1,3] [m 122 3,f 123 3 1,l 124 1 123,n 125 124,o 126 (.aq 10 1 1 [j 0] [(0,125)]),c 127 508 [122,126]] (k [1,3] (s (q [f 128 3 1,l 129 1 128,n 130 129,m 131 (i 0)] (k [1,3,129,130,131] (.block 10 (.loop (q [b 132 .lss 131 130] (s (h 132 .skip (.exit 10)) (k [1,3,129,130,131] (s (.block 11 (q [u 133 13 129 131,g 134 13 133,a 15 41 Z9,r 13 15 134] (q [m 135 3,f 136 0 15,l 137 1 136,o 138 (.aq 10 1 1 [j 0] [(0,137)]),c 139 508 [135,138]] (y [1,3,15,129,130,131] [m 140 3,f 141 1 15,o 142 (.yU 3 1 141 none none none),c 143 508 [140,142]] (p [m 144 3,f 145 4 15,g 146 3 145,f 147 7 15,g 148 3 147,f 149 10 15,g 150 3 149,o 151 (.aq 26 3 3 [j 0,j 0,j 0] [(0,146),(1,148),(2,150)]),c 152 509 [144,151]]))))) (k [1,3,129,130,131] (p [b 153 .add 131 (i 1),m 131 153])))))))))) (y [1,3] [m 154 3,f 155 4 1,l 156 1 155,n 157 156,o 158 (.aq 10 1 1 [j 0] [(0,157)]),c 159 508 [154,158]] (k [1,3] (s (q [f 160 4 1,l 161 1 160,n 162 161,m 163 (i 0)] (k [1,3,161,162,163] (.block 12 (.loop (q [b 164 .lss 163 162] (s (h 164 .skip (.exit 12)) (k [1,3,161,162,163] (s (.block 13 (q [u 165 1 161 163,l 166 1 165,m 17 166] (p [m 167 3,m 168 17,o 169 (.conv .i64 168),o 170 (.aq 10 1 1 [j 0] [(0,169)]),c 171 508 [167,170]]))) (k [1,3,161,162,163] (p [b 172 .add 163 (i 1),m 163 172])))))))))) (y [1,3] [m 173 3,f 174 5 1,l 175 1 174,n 176 175,o 177 (.aq 10 1 1 [j 0] [(0,176)]),c 178 508 [173,177]] (k [1,3] (s (q [f 179 5 1,l 180 1 179,n 181 180,m 182 (i 0)] (k [1,3,180,181,182] (.block 14 (.loop (q [b 183 .lss 182 181] (s (h 183 .skip (.exit 14)) (k [1,3,180,181,182] (s (.block 15 (q [u 184 1 180 182,l 185 1 184,m 19 185] (p [m 186 3,m 187 19,o 188 (.conv .i64 187),o 189 (.aq 10 1 1 [j 0] [(0,188)]),c 190 508 [186,189]]))) (k [1,3,180,181,182] (p [b 191 .add 182 (i 1),m 182 191])))))))))) (y [1,3] [m 192 3,f 193 6 1,l 194 1 193,o 195 (.conv .i64 194),f 196 7 1,l 197 1 196,o 198 (.conv .i64 197),f 199 8 1,l 200 1 199,o 201 (.conv .i64 200),o 202 (.aq 10 1 3 [j 0] [(0,195),(1,198),(2,201)]),c 203 508 [192,202]] (y [3] [m 204 3,o 205 (.aL 204),f 206 0 205,l 207 1 206,m 2 207] (k [2] .ret))))))))))))))))))))))⟩
structure Qt(R:Env):Prop where
 Qu:R.Fn 499 Wu
 iO:H2 R
 Ls:Qs R
end Go.UM
namespace Go.UM
open Go.AM
open Z
def Wv:br:=Nf ⟨1,[.cell 2 true 3],q [x 1 25 0,a 2 25 [.ai,.ai,.ai]] (s (.draw [0,1,0,4,12,28,63,0,128,0,512,1536,3584,8064,0,16384,0,65536,196608,458752,1032192,2097151,4194303] [[1],[3],[1],[5],[6],[7],[4,8],[1],[10],[1],[12],[13],[14],[11,15],[1],[17],[1],[19],[20],[21],[18,22],[9,16,23],[2,24]] [f 3 0 1,l 4 1 3,f 5 0 1,l 6 1 5,n 7 6,o 8 (.mm false [7,i 70]),o 9 (.u' 26 3 4 none (some 8) none),f 10 1 1,l 11 1 10,f 12 1 1,l 13 1 12,n 14 13,o 15 (.mm false [14,i 70]),o 16 (.u' 18 2 11 none (some 15) none),f 17 2 1,l 18 1 17,f 19 2 1,l 20 1 19,n 21 20,o 22 (.mm false [21,i 70]),o 23 (.u' 13 3 18 none (some 22) none),o 24 (.build [.ai,.ai,.ai] [(0,1,9),(1,1,16),(2,1,23)]),r 3 2 24]) (k [2] .ret))⟩
structure Qv(R:Env):Prop where
 Ww:R.Fn 191 Wv
end Go.UM
namespace Go.UM
open Go.AM
open Z
def Wx:br:=Nf ⟨1,[2],q [m 2 (.k (.int .u64 0))] (s (q [m 3 0,b 4 .lss 3 (i 0)] (h 4 (q [m 5 0,b 6 .add 5 (i 1),o 7 (.un .neg 6),o 8 (.conv .u64 7),b 9 .add 8 (.k (.int .u64 1)),m 2 9] (k [2] .ret)) .skip)) (k [0] (t [m 10 0,o 11 (.conv .u64 10),m 2 11])))⟩
structure BV(R:Env):Prop where
 xM:R.Fn 279 Wx
def Wy:br:=Nf ⟨3,[6],q [m 6 (i 0)] (s (q [m 7 1] (h 7 (s (q [m 8 2,m 9 8,⟨some 10,some (9,false),.mv 0⟩,⟨some 11,some (9,false),.bin .geq 10 (.k (.int .u64 9223372036854775808))⟩,w 12 9 (.k (.bool true)) 11] (k [0,12] (h 12 (t [m 6 (i (-9223372036854775808))]) .skip))) (k [0] (t [m 13 0,o 14 (.conv .i64 13),o 15 (.un .neg 14),m 6 15]))) .skip)) (k [0,2] (s (q [m 16 2,m 17 16,⟨some 18,some (17,false),.mv 0⟩,⟨some 19,some (17,false),.bin .geq 18 (.k (.int .u64 9223372036854775808))⟩,w 20 17 (.k (.bool true)) 19] (k [0,20] (h 20 (t [m 6 (i 9223372036854775807)]) .skip))) (k [0] (t [m 21 0,o 22 (.conv .i64 21),m 6 22])))))⟩
structure E7(R:Env):Prop where
 zO:R.Fn 280 Wy
def WA:br:=Nf ⟨2,[4],q [m 4 (i 0)] (q [m 11 0,c 12 279 [11],m 13 1,c 14 279 [13],c 15 276 [12,14],m 10 15,e 16 10 0,e 17 10 1,m 5 16,m 6 17] (y [0,1,5,6] [m 18 5,b 19 .shl 18 (.k (.int .u64 32)),m 20 6,b 21 .shr 20 (.k (.int .u64 32)),b 22 .or 19 21,m 7 22] (y [0,1,5,6,7] [m 23 5,b 24 .geq 23 (.k (.int .u64 4294967296)),m 8 24] (q [m 25 0,b 26 .lss 25 (i 0),m 27 1,b 28 .lss 27 (i 0),o 29 (.Ou true 26 28),m 9 29] (k [6,7,8,9] (s (q [m 30 9,m 31 30,⟨some 32,some (31,true),.mv 6⟩,⟨some 33,some (31,true),.bin .and 32 (.k (.int .u64 4294967295))⟩,⟨some 34,some (31,true),.bin .gtr 33 (.k (.int .u64 0))⟩,w 35 31 34 (.k (.bool false))] (k [7,8,9,35] (h 35 (q [m 36 7,b 37 .add 36 (.k (.int .u64 1)),m 7 37] (p [m 38 8,m 39 38,⟨some 40,some (39,false),.mv 7⟩,⟨some 41,some (39,false),.bin .eql 40 (.k (.int .u64 0))⟩,w 42 39 (.k (.bool true)) 41,m 8 42])) .skip))) (y [7,8,9] [m 43 7,m 44 9,m 45 8,c 46 280 [43,44,45],m 4 46] (k [4] .ret))))))))⟩
structure Qw(R:Env):Prop where
 Lt:R.Fn 268 WA
 n276:KT R
 n279:BV R
 n280:E7 R
def WB:br:=Nf ⟨2,[4],q [m 4 (i 0)] (q [m 7 0,c 8 279 [7],m 9 1,c 10 279 [9],m 5 8,m 6 10] (k [0,1,5,6] (s (q [m 11 0,b 12 .lss 11 (i 0),m 13 1,b 14 .lss 13 (i 0),o 15 (.Ou false 12 14)] (k [0,1,5,6,15] (h 15 (q [m 16 5,m 17 6,b 18 .add 16 17,m 19 0,b 20 .lss 19 (i 0),m 21 5,m 22 6,b 23 .add 21 22,m 24 5,b 25 .lss 23 24,c 26 280 [18,20,25],m 4 26] (k [4] .ret)) .skip))) (k [0,1] (t [m 27 0,m 28 1,b 29 .add 27 28,m 4 29])))))⟩
structure Lu(R:Env):Prop where
 BW:R.Fn 269 WB
 n279:BV R
 n280:E7 R
def WC:br:=Nf ⟨2,[4],q [m 4 (i 0)] (q [m 7 0,c 8 279 [7],m 9 1,c 10 279 [9],m 5 8,m 6 10] (k [0,1,5,6] (s (q [m 11 0,b 12 .lss 11 (i 0),m 13 1,b 14 .lss 13 (i 0),o 15 (.Ou true 12 14)] (k [0,1,5,6,15] (h 15 (q [m 16 5,m 17 6,b 18 .add 16 17,m 19 0,b 20 .lss 19 (i 0),m 21 5,m 22 6,b 23 .add 21 22,m 24 5,b 25 .lss 23 24,c 26 280 [18,20,25],m 4 26] (k [4] .ret)) .skip))) (k [0,1] (t [m 27 0,m 28 1,b 29 .sub 27 28,m 4 29])))))⟩
structure Qx(R:Env):Prop where
 WD:R.Fn 282 WC
 n279:BV R
 n280:E7 R
def WE:br:=Nf ⟨1,[2],q [m 2 (i 0)] (q [m 4 0,c 5 279 [4],m 3 5] (s (q [m 6 0,b 7 .geq 6 (i 0)] (h 7 (t [m 8 3,b 9 .shr 8 (.k (.int .u64 32)),o 10 (.conv .i64 9),m 2 10]) .skip)) (k [3] (s (q [m 11 3,b 12 .and 11 (.k (.int .u64 4294967295)),b 13 .eql 12 (.k (.int .u64 0))] (h 13 (q [m 14 3,b 15 .shr 14 (.k (.int .u64 32)),o 16 (.conv .i64 15),o 17 (.un .neg 16),m 2 17] (k [2] .ret)) .skip)) (y [3] [m 18 3,b 19 .shr 18 (.k (.int .u64 32)),o 20 (.conv .i64 19),o 21 (.un .neg 20),b 22 .sub 21 (i 1),m 2 22] (k [2] .ret))))))⟩
structure Qy(R:Env):Prop where
 WF:R.Fn 273 WE
 n279:BV R
def WG:br:=Nf ⟨1,[2],q [m 2 (i 0)] (s (q [m 3 0,b 4 .geq 3 (i 9223372034707292160)] (h 4 (t [m 2 (i 2147483648)]) .skip)) (k [0] (t [m 5 0,b 6 .add 5 (i 2147483648),c 7 273 [6],m 2 7])))⟩
structure Qz(R:Env):Prop where
 Lv:R.Fn 261 WG
 n273:Qy R
def WH:br:=Nf ⟨1,[2],q [m 2 (i 0)] (q [m 4 0,c 5 279 [4],m 3 5] (q [m 6 3,b 7 .shl 6 (.k (.int .u64 32)),m 8 0,b 9 .lss 8 (i 0),m 10 3,b 11 .geq 10 (.k (.int .u64 4294967296)),c 12 280 [7,9,11],m 2 12] (k [2] .ret)))⟩
structure QA(R:Env):Prop where
 Lw:R.Fn 272 WH
 n279:BV R
 n280:E7 R
end Go.UM
namespace Go.UM
open Go.AM
open Z
def WI:br:=Nf ⟨2,[4],q [x 2 31 0,x 3 31 1,m 4 (i 0)] (q [f 6 0 2,l 7 1 6,f 8 0 3,l 9 1 8,c 10 268 [7,9],c 11 269 [i 0,10],m 5 11] (y [2,3,5] [m 12 5,f 13 1 2,l 14 1 13,f 15 1 3,l 16 1 15,c 17 268 [14,16],c 18 269 [12,17],m 5 18] (y [2,3,5] [m 19 5,f 20 2 2,l 21 1 20,f 22 2 3,l 23 1 22,c 24 268 [21,23],c 25 269 [19,24],m 4 25] (k [4] .ret))))⟩
structure QB(R:Env):Prop where
 Lx:R.Fn 253 WI
 n268:Qw R
 n269:Lu R
def WJ:br:=Nf ⟨2,[.cell 4 true 3],q [x 2 31 0,x 3 31 1,a 4 31 [j 0,j 0,j 0]] (s (.draw [0,1,0,4,15,0,32,0,128,511,0,1024,0,4096,16383,32767,65535] [[2],[5],[3],[7],[6,8],[2],[10],[3],[12],[11,13],[2],[15],[3],[17],[16,18],[9,14,19],[4,20]] [f 5 0 2,l 6 1 5,f 7 0 3,l 8 1 7,c 9 269 [6,8],f 10 1 2,l 11 1 10,f 12 1 3,l 13 1 12,c 14 269 [11,13],f 15 2 2,l 16 1 15,f 17 2 3,l 18 1 17,c 19 269 [16,18],o 20 (.build [j 0,j 0,j 0] [(0,1,9),(1,1,14),(2,1,19)]),r 3 4 20]) (k [4] .ret))⟩
structure QC(R:Env):Prop where
 WK:R.Fn 254 WJ
 n269:Lu R
def WL:br:=Nf ⟨1,[2],q [m 2 (i 0)] (s (q [m 3 0,b 4 .lss 3 (i 0)] (h 4 (t [m 5 0,c 6 282 [i 0,5],m 2 6]) .skip)) (k [0] (t [m 7 0,m 2 7])))⟩
structure QD(R:Env):Prop where
 zP:R.Fn 271 WL
 n282:Qx R
def WM:br:=Nf ⟨1,[2],q [x 1 31 0,m 2 (i 0)] (q [f 4 0 1,l 5 1 4,c 6 271 [5],m 3 6] (s (q [f 7 1 1,l 8 1 7,c 9 271 [8],m 10 3,b 11 .gtr 9 10] (k [1,3,11] (h 11 (p [f 12 1 1,l 13 1 12,c 14 271 [13],m 3 14]) .skip))) (k [1,3] (s (q [f 15 2 1,l 16 1 15,c 17 271 [16],m 18 3,b 19 .gtr 17 18] (k [1,3,19] (h 19 (p [f 20 2 1,l 21 1 20,c 22 271 [21],m 3 22]) .skip))) (k [3] (t [m 23 3,m 2 23]))))))⟩
structure QE(R:Env):Prop where
 WN:R.Fn 257 WM
 n271:QD R
def WO:br:=Nf ⟨1,[.cell 2 true 3],q [x 1 26 0,a 2 31 [j 0,j 0,j 0]] (s (.draw [0,1,3,0,8,31,0,64,255,511,1023] [[1],[3],[4],[1],[6],[7],[1],[9],[10],[5,8,11],[2,12]] [f 3 0 1,l 4 1 3,c 5 272 [4],f 6 1 1,l 7 1 6,c 8 272 [7],f 9 2 1,l 10 1 9,c 11 272 [10],o 12 (.build [j 0,j 0,j 0] [(0,1,5),(1,1,8),(2,1,11)]),r 3 2 12]) (k [2] .ret))⟩
structure QF(R:Env):Prop where
 WP:R.Fn 259 WO
 n272:QA R
end Go.UM
namespace Go.UM
open Go.AM
open Z
def WQ:br:=Nf ⟨2,[.cell 4 true 3],q [x 2 33 0,x 3 31 1,a 4 31 [j 0,j 0,j 0]] (q [m 5 (.k .ai)] (s (q [m 6 (i 0)] (k [2,3,4,5,6] (.block 0 (.loop (s (q [m 7 6,b 8 .lss 7 (i 3)] (h 8 .skip (.exit 0))) (k [2,3,4,5,6] (s (.block 1 (.draw [0,0,2,0,14,30,0,64,192,0,960,1984,0,4096,12288,0,61440,126976,262142,0,1048574,2097150,4194303,8388607] [[5],[6],[12],[2],[14,13],[15],[6],[17],[18],[2],[20,19],[21],[6],[23],[24],[2],[26,25],[27],[16,22,28],[3],[29,30],[31],[11,32],[33]] [m 11 5,m 12 6,b 13 .mul (i 3) 12,f 14 0 2,o 15 (.ba 9 1 14 13),l 16 1 15,m 17 6,b 18 .mul (i 3) 17,b 19 .add 18 (i 1),f 20 0 2,o 21 (.ba 9 1 20 19),l 22 1 21,m 23 6,b 24 .mul (i 3) 23,b 25 .add 24 (i 2),f 26 0 2,o 27 (.ba 9 1 26 25),l 28 1 27,o 29 (.build [j 0,j 0,j 0] [(0,1,16),(1,1,22),(2,1,28)]),g 30 3 3,c 31 253 [29,30],o 32 (.aq 32 1 1 [j 0] [(0,31)]),o 33 (.app 32 1 11 32),m 5 33])) (k [2,3,4,5,6] (p [m 9 6,b 10 .add 9 (i 1),m 6 10]))))))))) (k [4,5] (s (.draw [0,1,3,0,8,24,0,64,192,511,1023] [[5],[34],[35],[5],[37],[38],[5],[40],[41],[36,39,42],[4,43]] [m 34 5,u 35 1 34 (i 0),l 36 1 35,m 37 5,u 38 1 37 (i 1),l 39 1 38,m 40 5,u 41 1 40 (i 2),l 42 1 41,o 43 (.build [j 0,j 0,j 0] [(0,1,36),(1,1,39),(2,1,42)]),r 3 4 43]) (k [4] .ret)))))⟩
structure QG(R:Env):Prop where
 WR:R.Fn 232 WQ
 n253:QB R
def WS:br:=Nf ⟨2,[.cell 4 true 3],q [x 2 33 0,x 3 31 1,a 4 31 [j 0,j 0,j 0]] (s (.draw [0,0,3,0,8,31,63] [[2],[3],[5,6],[2],[8],[7,9],[4,10]] [g 5 12 2,g 6 3 3,c 7 232 [5,6],f 8 9 2,g 9 3 8,c 10 254 [7,9],r 3 4 10]) (k [4] .ret))⟩
structure QH(R:Env):Prop where
 WT:R.Fn 234 WS
 n232:QG R
 n254:QC R
def WU:br:=Nf ⟨1,[2],q [x 1 33 0,m 2 (i 0)] (s (q [m 3 (i 0)] (k [1,3] (.block 0 (.loop (s (q [m 4 3,b 5 .lss 4 (i 9)] (h 5 .skip (.exit 0))) (k [1,3] (s (.block 1 (q [m 8 3,f 9 0 1,o 10 (.ba 9 1 9 8),l 11 1 10,b 12 .gtr 11 (i 1099511627776),m 13 12,⟨some 14,some (13,false),.mv 3⟩,⟨some 15,some (13,false),.aF 0 1⟩,⟨some 16,some (13,false),.ba 9 1 15 14⟩,⟨some 17,some (13,false),.load false 1 16⟩,⟨some 18,some (13,false),.bin .lss 17 (i (-1099511627776))⟩,w 19 13 (.k (.bool true)) 18] (k [1,3,19] (h 19 (t [m 2 (i 2)]) .skip)))) (k [1,3] (p [m 6 3,b 7 .add 6 (i 1),m 3 7]))))))))) (k [1] (s (q [f 20 9 1,g 21 3 20,c 22 257 [21],b 23 .gtr 22 (i 562949953421312)] (h 23 (t [m 2 (i 2)]) .skip)) (k [] (t [m 2 (i 0)])))))⟩
structure QI(R:Env):Prop where
 WV:R.Fn 236 WU
 n257:QE R
def WW:br:=Nf ⟨1,[.cell 2 true 3,3],q [x 1 31 0,a 2 26 [j 0,j 0,j 0],m 3 (i 0)] (s (.draw [0,1,3,0,8,31,0,64,255,511,0,2047] [[1],[5],[6],[1],[8],[9],[1],[11],[12],[7,10,13],[],[4,14]] [f 5 0 1,l 6 1 5,c 7 261 [6],f 8 1 1,l 9 1 8,c 10 261 [9],f 11 2 1,l 12 1 11,c 13 261 [12],o 14 (.build [j 0,j 0,j 0] [(0,1,7),(1,1,10),(2,1,13)]),a 4 26 [j 0,j 0,j 0],r 3 4 14]) (k [2,4] (s (q [f 15 0 4,l 16 1 15,b 17 .gtr 16 (i 65536),m 18 17,⟨some 19,some (18,false),.aF 0 4⟩,⟨some 20,some (18,false),.load false 1 19⟩,⟨some 21,some (18,false),.bin .lss 20 (i (-65536))⟩,w 22 18 (.k (.bool true)) 21,m 23 22,⟨some 24,some (23,false),.aF 1 4⟩,⟨some 25,some (23,false),.load false 1 24⟩,⟨some 26,some (23,false),.bin .gtr 25 (i 65536)⟩,w 27 23 (.k (.bool true)) 26,m 28 27,⟨some 29,some (28,false),.aF 1 4⟩,⟨some 30,some (28,false),.load false 1 29⟩,⟨some 31,some (28,false),.bin .lss 30 (i (-65536))⟩,w 32 28 (.k (.bool true)) 31,m 33 32,⟨some 34,some (33,false),.aF 2 4⟩,⟨some 35,some (33,false),.load false 1 34⟩,⟨some 36,some (33,false),.bin .gtr 35 (i 65536)⟩,w 37 33 (.k (.bool true)) 36,m 38 37,⟨some 39,some (38,false),.aF 2 4⟩,⟨some 40,some (38,false),.load false 1 39⟩,⟨some 41,some (38,false),.bin .lss 40 (i (-65536))⟩,w 42 38 (.k (.bool true)) 41] (k [2,4,42] (h 42 (t [o 43 (.build [j 0,j 0,j 0] []),r 3 2 43,m 3 (i 8)]) .skip))) (k [2,4] (t [g 44 3 4,r 3 2 44,m 3 (i 0)])))))⟩
structure QJ(R:Env):Prop where
 WX:R.Fn 244 WW
 n261:Qz R
def WY:br:=Nf ⟨2,[.cell 4 true 3,5],q [x 2 33 0,x 3 26 1,a 4 26 [j 0,j 0,j 0],m 5 (i 0)] (s (q [g 7 12 2,c 8 236 [7],m 6 8] (q [m 9 6,b 10 .neq 9 (i 0)] (h 10 (t [o 11 (.build [j 0,j 0,j 0] []),m 12 6,r 3 4 11,m 5 12]) .skip))) (k [2,3,4] (s (.draw [0,0,2,7,15,31,31,127,255] [[2],[3],[14],[13,15],[16],[17],[17],[4,18],[19]] [g 13 12 2,g 14 3 3,c 15 259 [14],c 16 234 [13,15],c 17 244 [16],e 18 17 0,e 19 17 1,r 3 4 18,m 5 19]) (k [4,5] .ret))))⟩
structure Ly(R:Env):Prop where
 vh:R.Fn 242 WY
 n234:QH R
 n236:QI R
 n244:QJ R
 n259:QF R
end Go.UM
namespace Go.UM
open Go.AM
open Z
def c63:br:=Nf ⟨1,[2],q [m 2 (.k (.int .u64 0))] (q [m 3 (.k (.int .u64 0))] (s (q [m 4 (i 0)] (k [0,3,4] (.block 0 (.loop (s (q [m 5 4,m 6 0,b 7 .lss 5 6] (h 7 .skip (.exit 0))) (k [0,3,4] (s (.block 1 (p [m 10 3,b 11 .mul 10 (.k (.int .u64 256)),b 12 .add 11 (.k (.int .u64 255)),m 3 12])) (k [0,3,4] (p [m 8 4,b 9 .add 8 (i 1),m 4 9]))))))))) (k [3] (t [m 13 3,m 2 13]))))⟩
structure ZA(R:Env):Prop where
 ZB:R.Fn 63 c63
def c55:br:=Nf ⟨3,[6,7],q [m 6 (.k .ai),m 7 (i 0)] (s (q [m 12 1,b 13 .lss 12 (i 1),m 14 13,⟨some 15,some (14,false),.mv 1⟩,⟨some 16,some (14,false),.bin .gtr 15 (i 8)⟩,w 17 14 (.k (.bool true)) 16] (k [0,1,2,17] (h 17 (t [m 6 (.k .ai),m 7 (i 2)]) .skip))) (y [0,1,2] [o 18 (.aq 4 1 0 [.int .u8 0] []),m 19 0,o 20 (.app 4 1 18 19),m 8 20] (s (q [m 9 (i 0)] (k [1,2,8,9] (.block 0 (.loop (s (q [m 21 9,m 22 2,n 23 22,b 24 .lss 21 23] (h 24 .skip (.exit 0))) (k [1,2,8,9] (s (.block 1 (s (s (.draw [0,0,3,7,0,16,63] [[2],[9],[27,28],[29],[1],[31],[30,32]] [m 27 2,m 28 9,u 29 1 27 28,l 30 1 29,m 31 1,c 32 63 [31],b 33 .gtr 30 32]) (k [1,2,8,9,33] (h 33 (t [m 6 (.k .ai),m 7 (i 3)]) .skip))) (y [1,2,8,9] [m 34 2,m 35 9,u 36 1 34 35,l 37 1 36,m 10 37] (y [1,2,8,9,10] [m 11 (i 0)] (k [1,2,8,9,10,11] (.block 2 (.loop (s (q [m 38 11,m 39 1,b 40 .lss 38 39] (h 40 .skip (.exit 2))) (k [1,2,8,9,10,11] (s (.block 3 (q [m 43 8,m 44 10,b 45 .rem 44 (.k (.int .u64 256)),o 46 (.conv .u8 45),o 47 (.aq 4 1 1 [.int .u8 0] [(0,46)]),o 48 (.app 4 1 43 47),m 8 48] (k [1,2,8,9,10,11] (p [m 49 10,b 50 .quo 49 (.k (.int .u64 256)),m 10 50])))) (k [1,2,8,9,10,11] (p [m 41 11,b 42 .add 41 (i 1),m 11 42])))))))))))) (k [1,2,8,9] (p [m 25 9,b 26 .add 25 (i 1),m 9 26]))))))))) (k [8] (t [m 51 8,m 6 51,m 7 (i 0)])))))⟩
structure WZ(R:Env):Prop where
 o55:R.Fn 55 c55
 JR:ZA R
def c72:br:=Nf ⟨3,[6,7],q [m 6 (.k .ai),m 7 (i 0)] (s (q [m 12 1,b 13 .lss 12 (i 1),m 14 13,⟨some 15,some (14,false),.mv 1⟩,⟨some 16,some (14,false),.bin .gtr 15 (i 8)⟩,w 17 14 (.k (.bool true)) 16] (k [0,1,2,17] (h 17 (t [m 6 (.k .ai),m 7 (i 2)]) .skip))) (y [0,1,2] [m 18 1,c 19 63 [18],b 20 .quo 19 (.k (.int .u64 2)),o 21 (.conv .i64 20),m 8 21] (y [0,1,2,8] [m 9 (.k .ai)] (s (q [m 10 (i 0)] (k [0,1,2,8,9,10] (.block 0 (.loop (s (q [m 22 10,m 23 2,n 24 23,b 25 .lss 22 24] (h 25 .skip (.exit 0))) (k [0,1,2,8,9,10] (s (.block 1 (s (q [m 28 2,m 29 10,u 30 1 28 29,l 31 1 30,m 32 8,b 33 .gtr 31 32,m 34 33,⟨some 35,some (34,false),.mv 2⟩,⟨some 36,some (34,false),.mv 10⟩,⟨some 37,some (34,false),.mi 1 35 36⟩,⟨some 38,some (34,false),.load false 1 37⟩,⟨some 39,some (34,false),.mv 8⟩,⟨some 40,some (34,false),.un .neg 39⟩,⟨some 41,some (34,false),.bin .sub 40 (i 1)⟩,⟨some 42,some (34,false),.bin .lss 38 41⟩,w 43 34 (.k (.bool true)) 42] (k [0,1,2,8,9,10,43] (h 43 (t [m 6 (.k .ai),m 7 (i 3)]) .skip))) (y [0,1,2,8,9,10] [m 44 2,m 45 10,u 46 1 44 45,l 47 1 46,o 48 (.conv .u64 47),m 11 48] (k [0,1,2,8,9,10,11] (s (q [m 49 2,m 50 10,u 51 1 49 50,l 52 1 51,b 53 .lss 52 (i 0)] (k [0,1,2,8,9,10,11,53] (h 53 (.draw [0,1,0,0,12,28,60,124,252,511,1023] [[1],[54],[2],[10],[56,57],[58],[59],[60],[61],[55,62],[63]] [m 54 1,c 55 63 [54],m 56 2,m 57 10,u 58 1 56 57,l 59 1 58,b 60 .add 59 (i 1),o 61 (.un .neg 60),o 62 (.conv .u64 61),b 63 .sub 55 62,m 11 63]) .skip))) (k [0,1,2,8,9,10,11] (p [m 64 9,m 65 11,o 66 (.aq 6 1 1 [.int .u64 0] [(0,65)]),o 67 (.app 6 1 64 66),m 9 67]))))))) (k [0,1,2,8,9,10] (p [m 26 10,b 27 .add 26 (i 1),m 10 27]))))))))) (y [0,1,9] [m 68 0,m 69 1,m 70 9,c 71 55 [68,69,70],e 72 71 0,e 73 71 1,m 6 72,m 7 73] (k [6,7] .ret))))))⟩
structure W4(R:Env):Prop where
 o72:R.Fn 72 c72
 NJ:WZ R
 JR:ZA R
end Go.UM
namespace Go.UM
open Go.AM
open Z
def c38:br:=Nf ⟨1,[2],q [m 2 (i 0)] (s (q [m 3 0] (.block 0 (q [b 5 .eql 3 (i 1),m 4 5] (h 4 (t [m 2 (i 2048)]) (q [b 7 .eql 3 (i 2),m 6 7] (h 6 (t [m 2 (i 1024)]) (s (q [b 9 .eql 3 (i 3),m 8 9] (h 8 .skip (p [b 10 .eql 3 (i 4),m 8 10]))) (k [8] (h 8 (t [m 2 (i 64)]) .skip))))))))) (k [] (t [m 2 (i 0)])))⟩
structure N38(R:Env):Prop where
 W5:R.Fn 38 c38
end Go.UM
namespace Go.UM
open Go.AM
open Z
def W6:br:=Nf ⟨2,[4],q [x 2 26 0,m 4 (.k (.bool false))] (q [f 5 0 2,l 6 1 5,m 7 1,b 8 .gtr 6 7,m 9 8,⟨some 10,some (9,false),.aF 0 2⟩,⟨some 11,some (9,false),.load false 1 10⟩,⟨some 12,some (9,false),.mv 1⟩,⟨some 13,some (9,false),.un .neg 12⟩,⟨some 14,some (9,false),.bin .lss 11 13⟩,w 15 9 (.k (.bool true)) 14,m 16 15,⟨some 17,some (16,false),.aF 1 2⟩,⟨some 18,some (16,false),.load false 1 17⟩,⟨some 19,some (16,false),.mv 1⟩,⟨some 20,some (16,false),.bin .gtr 18 19⟩,w 21 16 (.k (.bool true)) 20,m 22 21,⟨some 23,some (22,false),.aF 1 2⟩,⟨some 24,some (22,false),.load false 1 23⟩,⟨some 25,some (22,false),.mv 1⟩,⟨some 26,some (22,false),.un .neg 25⟩,⟨some 27,some (22,false),.bin .lss 24 26⟩,w 28 22 (.k (.bool true)) 27,m 29 28,⟨some 30,some (29,false),.aF 2 2⟩,⟨some 31,some (29,false),.load false 1 30⟩,⟨some 32,some (29,false),.mv 1⟩,⟨some 33,some (29,false),.bin .gtr 31 32⟩,w 34 29 (.k (.bool true)) 33,m 35 34,⟨some 36,some (35,false),.aF 2 2⟩,⟨some 37,some (35,false),.load false 1 36⟩,⟨some 38,some (35,false),.mv 1⟩,⟨some 39,some (35,false),.un .neg 38⟩,⟨some 40,some (35,false),.bin .lss 37 39⟩,w 41 35 (.k (.bool true)) 40,m 4 41] (k [4] .ret))⟩
structure Lz(R:Env):Prop where
 H3:R.Fn 213 W6
def W7:br:=Nf ⟨1,[2],q [x 1 25 0,m 2 (i 0)] (s (q [f 8 0 1,l 9 1 8,n 10 9,b 11 .gtr 10 (i 64),m 12 11,⟨some 13,some (12,false),.aF 2 1⟩,⟨some 14,some (12,false),.load false 1 13⟩,⟨some 15,some (12,false),.fw 14⟩,⟨some 16,some (12,false),.bin .gtr 15 (i 64)⟩,w 17 12 (.k (.bool true)) 16] (k [1,17] (h 17 (t [m 2 (i 3)]) .skip))) (k [1] (s (q [f 18 0 1,l 19 1 18,n 20 19,b 21 .lss 20 (i 1),m 22 21,⟨some 23,some (22,false),.aF 2 1⟩,⟨some 24,some (22,false),.load false 1 23⟩,⟨some 25,some (22,false),.fw 24⟩,⟨some 26,some (22,false),.bin .lss 25 (i 1)⟩,w 27 22 (.k (.bool true)) 26,m 28 27,⟨some 29,some (28,false),.aF 1 1⟩,⟨some 30,some (28,false),.load false 1 29⟩,⟨some 31,some (28,false),.fw 30⟩,⟨some 32,some (28,false),.aF 0 1⟩,⟨some 33,some (28,false),.load false 1 32⟩,⟨some 34,some (28,false),.fw 33⟩,⟨some 35,some (28,false),.bin .neq 31 34⟩,w 36 28 (.k (.bool true)) 35] (k [1,36] (h 36 (t [m 2 (i 5)]) .skip))) (k [1] (s (q [m 3 (i 0)] (k [1,3] (.block 0 (.loop (s (q [m 37 3,f 38 0 1,l 39 1 38,n 40 39,b 41 .lss 37 40] (k [1,3,41] (h 41 .skip (.exit 0)))) (k [1,3] (s (.block 1 (q [f 44 0 1,l 45 1 44,m 46 3,u 47 3 45 46,g 48 3 47,c 49 213 [48,i 4096]] (k [1,3,49] (h 49 (t [m 2 (i 8)]) .skip)))) (k [1,3] (p [m 42 3,b 43 .add 42 (i 1),m 3 43]))))))))) (k [1] (s (q [m 4 (i 0)] (k [1,4] (.block 2 (.loop (s (q [m 50 4,f 51 1 1,l 52 1 51,n 53 52,b 54 .lss 50 53] (k [1,4,54] (h 54 .skip (.exit 2)))) (k [1,4] (s (.block 3 (q [m 5 (i 0)] (k [1,4,5] (.block 4 (.loop (s (q [m 57 5,b 58 .lss 57 (i 2)] (h 58 .skip (.exit 4))) (k [1,4,5] (s (.block 5 (q [f 61 1 1,l 62 1 61,m 63 4,m 64 5,u 65 2 62 63,o 66 (.ba 2 1 65 64),l 67 1 66,b 68 .lss 67 (i 0),m 69 68,⟨some 70,some (69,false),.aF 1 1⟩,⟨some 71,some (69,false),.load false 1 70⟩,⟨some 72,some (69,false),.mv 4⟩,⟨some 73,some (69,false),.mv 5⟩,⟨some 74,some (69,false),.mi 2 71 72⟩,⟨some 75,some (69,false),.ba 2 1 74 73⟩,⟨some 76,some (69,false),.load false 1 75⟩,⟨some 77,some (69,false),.bin .gtr 76 (i 65535)⟩,w 78 69 (.k (.bool true)) 77] (k [1,4,5,78] (h 78 (t [m 2 (i 5)]) .skip)))) (k [1,4,5] (p [m 59 5,b 60 .add 59 (i 1),m 5 60])))))))))) (k [1,4] (p [m 55 4,b 56 .add 55 (i 1),m 4 56]))))))))) (k [1] (s (q [m 6 (i 0)] (k [1,6] (.block 6 (.loop (s (q [m 79 6,f 80 2 1,l 81 1 80,n 82 81,b 83 .lss 79 82] (k [1,6,83] (h 83 .skip (.exit 6)))) (k [1,6] (s (.block 7 (q [m 7 (i 0)] (k [1,6,7] (.block 8 (.loop (s (q [m 86 7,b 87 .lss 86 (i 3)] (h 87 .skip (.exit 8))) (k [1,6,7] (s (.block 9 (s (.draw [0,1,0,0,7,31,63,127,255,511,1023,511,511,4095,16383,32767,511,66047,197119,524287,1048575,2097151,4194303,8388607,4194303,4194303,33554431,134217727,268435455,4194303,541065215,4194303,4194303,4299161599,12889096191,3762290687,68186800127,136906276863,274877906943,549755813887] [[1],[90],[6],[7],[91,92],[94,93],[95],[96],[97],[1],[99],[6],[7],[100,101],[103,102],[104],[1],[106],[107],[105,108],[98,109],[110],[1],[112],[6],[7],[113,114],[116,115],[117],[1],[119],[6],[7],[122],[123],[120,121],[125,124],[126],[118,127],[111,128]] [f 90 2 1,l 91 1 90,m 92 6,m 93 7,u 94 3 91 92,o 95 (.ba 3 1 94 93),l 96 1 95,b 97 .lss 96 (i 0),m 98 97,⟨some 99,some (98,false),.aF 2 1⟩,⟨some 100,some (98,false),.load false 1 99⟩,⟨some 101,some (98,false),.mv 6⟩,⟨some 102,some (98,false),.mv 7⟩,⟨some 103,some (98,false),.mi 3 100 101⟩,⟨some 104,some (98,false),.ba 3 1 103 102⟩,⟨some 105,some (98,false),.load false 1 104⟩,⟨some 106,some (98,false),.aF 0 1⟩,⟨some 107,some (98,false),.load false 1 106⟩,⟨some 108,some (98,false),.fw 107⟩,⟨some 109,some (98,false),.bin .geq 105 108⟩,w 110 98 (.k (.bool true)) 109,m 111 110,⟨some 112,some (111,false),.aF 2 1⟩,⟨some 113,some (111,false),.load false 1 112⟩,⟨some 114,some (111,false),.mv 6⟩,⟨some 115,some (111,false),.mv 7⟩,⟨some 116,some (111,false),.mi 3 113 114⟩,⟨some 117,some (111,false),.ba 3 1 116 115⟩,⟨some 118,some (111,false),.load false 1 117⟩,⟨some 119,some (111,false),.aF 2 1⟩,⟨some 120,some (111,false),.load false 1 119⟩,⟨some 121,some (111,false),.mv 6⟩,⟨some 122,some (111,false),.mv 7⟩,⟨some 123,some (111,false),.bin .add 122 (i 1)⟩,⟨some 124,some (111,false),.bin .rem 123 (i 3)⟩,⟨some 125,some (111,false),.mi 3 120 121⟩,⟨some 126,some (111,false),.ba 3 1 125 124⟩,⟨some 127,some (111,false),.load false 1 126⟩,⟨some 128,some (111,false),.bin .eql 118 127⟩,w 129 111 (.k (.bool true)) 128]) (k [1,6,7,129] (h 129 (t [m 2 (i 5)]) .skip)))) (k [1,6,7] (p [m 88 7,b 89 .add 88 (i 1),m 7 89])))))))))) (k [1,6] (p [m 84 6,b 85 .add 84 (i 1),m 6 85]))))))))) (k [] (t [m 2 (i 0)])))))))))))⟩
structure LA(R:Env):Prop where
 QK:R.Fn 198 W7
 n213:Lz R
def W8:br:=Nf ⟨2,[4],q [x 3 26 1,m 4 (.k .ai)] (q [m 8 0,f 9 0 3,l 10 1 9,f 11 1 3,l 12 1 11,f 13 2 3,l 14 1 13,o 15 (.aq 10 1 3 [j 0] [(0,10),(1,12),(2,14)]),c 16 72 [8,i 2,15],m 7 16,e 17 7 0,e 18 7 1,m 5 17,m 6 18] (k [5] (t [m 19 5,m 4 19])))⟩
structure LB(R:Env):Prop where
 abY:R.Fn 212 W8
 QL:W4 R
def W9:br:=Nf ⟨1,[2,3],q [x 1 25 0,m 2 (.k .ai),m 3 (i 0)] (s (q [g 11 3 1,c 12 198 [11],m 4 12] (q [m 13 4,b 14 .neq 13 (i 0)] (h 14 (t [m 15 4,m 2 (.k .ai),m 3 15]) .skip))) (y [1] [f 16 0 1,l 17 1 16,n 18 17,o 19 (.conv .u8 18),f 20 2 1,l 21 1 20,n 22 21,o 23 (.conv .u8 22),o 24 (.aq 4 1 2 [.int .u8 0] [(0,19),(1,23)]),m 5 24] (k [1,5] (s (q [m 6 (i 0)] (k [1,5,6] (.block 0 (.loop (s (q [m 25 6,f 26 0 1,l 27 1 26,n 28 27,b 29 .lss 25 28] (k [1,5,6,29] (h 29 .skip (.exit 0)))) (k [1,5,6] (s (.block 1 (p [m 32 5,f 33 0 1,l 34 1 33,m 35 6,u 36 3 34 35,g 37 3 36,c 38 212 [32,37],m 5 38])) (k [1,5,6] (p [m 30 6,b 31 .add 30 (i 1),m 6 31]))))))))) (k [1,5] (s (q [m 7 (i 0)] (k [1,5,7] (.block 2 (.loop (s (q [m 39 7,f 40 1 1,l 41 1 40,n 42 41,b 43 .lss 39 42] (k [1,5,7,43] (h 43 .skip (.exit 2)))) (k [1,5,7] (s (.block 3 (q [m 8 (i 0)] (k [1,5,7,8] (.block 4 (.loop (s (q [m 46 8,b 47 .lss 46 (i 2)] (h 47 .skip (.exit 4))) (k [1,5,7,8] (s (.block 5 (.draw [0,0,2,0,0,14,62,126,254,510,0,1024,0,0,7168,31744,64512,130048,261120,524286,1048575,2097151] [[5],[1],[51],[7],[8],[52,53],[55,54],[56],[57],[58],[1],[60],[7],[8],[61,62],[64,63],[65],[66],[67],[59,68],[50,69],[70]] [m 50 5,f 51 1 1,l 52 1 51,m 53 7,m 54 8,u 55 2 52 53,o 56 (.ba 2 1 55 54),l 57 1 56,b 58 .rem 57 (i 256),o 59 (.conv .u8 58),f 60 1 1,l 61 1 60,m 62 7,m 63 8,u 64 2 61 62,o 65 (.ba 2 1 64 63),l 66 1 65,b 67 .quo 66 (i 256),o 68 (.conv .u8 67),o 69 (.aq 4 1 2 [.int .u8 0] [(0,59),(1,68)]),o 70 (.app 4 1 50 69),m 5 70])) (k [1,5,7,8] (p [m 48 8,b 49 .add 48 (i 1),m 8 49])))))))))) (k [1,5,7] (p [m 44 7,b 45 .add 44 (i 1),m 7 45]))))))))) (k [1,5] (s (q [m 9 (i 0)] (k [1,5,9] (.block 6 (.loop (s (q [m 71 9,f 72 2 1,l 73 1 72,n 74 73,b 75 .lss 71 74] (k [1,5,9,75] (h 75 .skip (.exit 6)))) (k [1,5,9] (s (.block 7 (q [m 10 (i 0)] (k [1,5,9,10] (.block 8 (.loop (s (q [m 78 10,b 79 .lss 78 (i 3)] (h 79 .skip (.exit 8))) (k [1,5,9,10] (s (.block 9 (p [m 82 5,f 83 2 1,l 84 1 83,m 85 9,m 86 10,u 87 3 84 85,o 88 (.ba 3 1 87 86),l 89 1 88,o 90 (.conv .u8 89),o 91 (.aq 4 1 1 [.int .u8 0] [(0,90)]),o 92 (.app 4 1 82 91),m 5 92])) (k [1,5,9,10] (p [m 80 10,b 81 .add 80 (i 1),m 10 81])))))))))) (k [1,5,9] (p [m 76 9,b 77 .add 76 (i 1),m 9 77]))))))))) (k [5] (t [m 93 5,m 2 93,m 3 (i 0)]))))))))))⟩
structure QM(R:Env):Prop where
 Xa:R.Fn 197 W9
 n198:LA R
 n212:LB R
end Go.UM
namespace Go.UM
open Go.AM
open Z
def c85:br:=Nf ⟨1,[2],q [x 1 12 0,m 2 (i 0)] (s (q [f 5 0 1,l 6 1 5,b 7 .neq 6 (i 1),m 8 7,⟨some 9,some (8,true),.aF 0 1⟩,⟨some 10,some (8,true),.load false 1 9⟩,⟨some 11,some (8,true),.bin .neq 10 (i 2)⟩,w 12 8 11 (.k (.bool false)),m 13 12,⟨some 14,some (13,true),.aF 0 1⟩,⟨some 15,some (13,true),.load false 1 14⟩,⟨some 16,some (13,true),.bin .neq 15 (i 4)⟩,w 17 13 16 (.k (.bool false)),m 18 17,⟨some 19,some (18,true),.aF 0 1⟩,⟨some 20,some (18,true),.load false 1 19⟩,⟨some 21,some (18,true),.bin .neq 20 (i 8)⟩,w 22 18 21 (.k (.bool false)),m 23 22,⟨some 24,some (23,true),.aF 0 1⟩,⟨some 25,some (23,true),.load false 1 24⟩,⟨some 26,some (23,true),.bin .neq 25 (i 16)⟩,w 27 23 26 (.k (.bool false)),m 28 27,⟨some 29,some (28,false),.aF 1 1⟩,⟨some 30,some (28,false),.load false 1 29⟩,⟨some 31,some (28,false),.fw 30⟩,⟨some 32,some (28,false),.aF 0 1⟩,⟨some 33,some (28,false),.load false 1 32⟩,⟨some 34,some (28,false),.aF 0 1⟩,⟨some 35,some (28,false),.load false 1 34⟩,⟨some 36,some (28,false),.bin .mul 33 35⟩,⟨some 37,some (28,false),.bin .neq 31 36⟩,w 38 28 (.k (.bool true)) 37] (k [1,38] (h 38 (t [m 2 (i 5)]) .skip))) (k [1] (s (q [m 3 (i 0)] (k [1,3] (.block 0 (.loop (s (q [m 39 3,f 40 1 1,l 41 1 40,n 42 41,b 43 .lss 39 42] (k [1,3,43] (h 43 .skip (.exit 0)))) (k [1,3] (s (.block 1 (q [m 4 (i 0)] (k [1,3,4] (.block 2 (.loop (s (q [m 46 4,b 47 .lss 46 (i 3)] (h 47 .skip (.exit 2))) (k [1,3,4] (s (.block 3 (q [f 50 1 1,l 51 1 50,m 52 3,m 53 4,u 54 3 51 52,o 55 (.ba 3 1 54 53),l 56 1 55,b 57 .lss 56 (i 0),m 58 57,⟨some 59,some (58,false),.aF 1 1⟩,⟨some 60,some (58,false),.load false 1 59⟩,⟨some 61,some (58,false),.mv 3⟩,⟨some 62,some (58,false),.mv 4⟩,⟨some 63,some (58,false),.mi 3 60 61⟩,⟨some 64,some (58,false),.ba 3 1 63 62⟩,⟨some 65,some (58,false),.load false 1 64⟩,⟨some 66,some (58,false),.bin .gtr 65 (i 255)⟩,w 67 58 (.k (.bool true)) 66] (k [1,3,4,67] (h 67 (t [m 2 (i 5)]) .skip)))) (k [1,3,4] (p [m 48 4,b 49 .add 48 (i 1),m 4 49])))))))))) (k [1,3] (p [m 44 3,b 45 .add 44 (i 1),m 3 45]))))))))) (k [] (t [m 2 (i 0)])))))⟩
structure ZC(R:Env):Prop where
 o85:R.Fn 85 c85
def c83:br:=Nf ⟨1,[2,3],q [x 1 12 0,m 2 (.k .ai),m 3 (i 0)] (s (q [g 8 2 1,c 9 85 [8],m 4 9] (q [m 10 4,b 11 .neq 10 (i 0)] (h 11 (t [m 12 4,m 2 (.k .ai),m 3 12]) .skip))) (y [1] [f 13 0 1,l 14 1 13,o 15 (.conv .u8 14),o 16 (.aq 4 1 1 [.int .u8 0] [(0,15)]),m 5 16] (k [1,5] (s (q [m 6 (i 0)] (k [1,5,6] (.block 0 (.loop (s (q [m 17 6,f 18 1 1,l 19 1 18,n 20 19,b 21 .lss 17 20] (k [1,5,6,21] (h 21 .skip (.exit 0)))) (k [1,5,6] (s (.block 1 (q [m 7 (i 0)] (k [1,5,6,7] (.block 2 (.loop (s (q [m 24 7,b 25 .lss 24 (i 3)] (h 25 .skip (.exit 2))) (k [1,5,6,7] (s (.block 3 (p [m 28 5,f 29 1 1,l 30 1 29,m 31 6,m 32 7,u 33 3 30 31,o 34 (.ba 3 1 33 32),l 35 1 34,o 36 (.conv .u8 35),o 37 (.aq 4 1 1 [.int .u8 0] [(0,36)]),o 38 (.app 4 1 28 37),m 5 38])) (k [1,5,6,7] (p [m 26 7,b 27 .add 26 (i 1),m 7 27])))))))))) (k [1,5,6] (p [m 22 6,b 23 .add 22 (i 1),m 6 23]))))))))) (k [5] (t [m 39 5,m 2 39,m 3 (i 0)]))))))⟩
structure N83(R:Env):Prop where
 o83:R.Fn 83 c83
 NK:ZC R
def c89:br:=Nf ⟨2,[4],q [x 2 12 0,x 3 12 1,m 4 (.k (.bool false))] (s (q [f 6 0 2,l 7 1 6,f 8 0 3,l 9 1 8,b 10 .neq 7 9,m 11 10,⟨some 12,some (11,false),.aF 1 2⟩,⟨some 13,some (11,false),.load false 1 12⟩,⟨some 14,some (11,false),.fw 13⟩,⟨some 15,some (11,false),.aF 1 3⟩,⟨some 16,some (11,false),.load false 1 15⟩,⟨some 17,some (11,false),.fw 16⟩,⟨some 18,some (11,false),.bin .neq 14 17⟩,w 19 11 (.k (.bool true)) 18] (k [2,3,19] (h 19 (t [m 4 (.k (.bool false))]) .skip))) (k [2,3] (s (q [m 5 (i 0)] (k [2,3,5] (.block 0 (.loop (s (q [m 20 5,f 21 1 2,l 22 1 21,n 23 22,b 24 .lss 20 23] (k [2,3,5,24] (h 24 .skip (.exit 0)))) (k [2,3,5] (s (.block 1 (s (.draw [0,1,0,7,15,0,32,0,224,480,1023] [[2],[27],[5],[28,29],[30],[3],[32],[5],[33,34],[35],[31,36]] [f 27 1 2,l 28 1 27,m 29 5,u 30 3 28 29,g 31 3 30,f 32 1 3,l 33 1 32,m 34 5,u 35 3 33 34,g 36 3 35,o 37 (.sM true [.i,.i,.i] 31 36)]) (k [2,3,5,37] (h 37 (t [m 4 (.k (.bool false))]) .skip)))) (k [2,3,5] (p [m 25 5,b 26 .add 25 (i 1),m 5 26]))))))))) (k [] (t [m 4 (.k (.bool true))])))))⟩
structure N89(R:Env):Prop where
 o89:R.Fn 89 c89
end Go.UM
namespace Go.UM
open Go.AM
open Z
def Xb:br:=Nf ⟨1,[2],q [x 1 40 0,m 2 (i 0)] (s (q [f 4 0 1,l 5 1 4,b 6 .lss 5 (i 0),m 7 6,⟨some 8,some (7,false),.aF 0 1⟩,⟨some 9,some (7,false),.load false 1 8⟩,⟨some 10,some (7,false),.bin .gtr 9 (i 4)⟩,w 11 7 (.k (.bool true)) 10,m 12 11,⟨some 13,some (12,false),.aF 4 1⟩,⟨some 14,some (12,false),.load false 1 13⟩,⟨some 15,some (12,false),.bin .lss 14 (i 0)⟩,w 16 12 (.k (.bool true)) 15,m 17 16,⟨some 18,some (17,false),.aF 4 1⟩,⟨some 19,some (17,false),.load false 1 18⟩,⟨some 20,some (17,false),.bin .gtr 19 (i 65535)⟩,w 21 17 (.k (.bool true)) 20] (k [1,21] (h 21 (t [m 2 (i 5)]) .skip))) (k [1] (s (q [m 3 (i 0)] (k [1,3] (.block 0 (.loop (s (q [m 22 3,b 23 .lss 22 (i 3)] (h 23 .skip (.exit 0))) (k [1,3] (s (.block 1 (q [m 26 3,f 27 1 1,o 28 (.ba 3 1 27 26),l 29 1 28,b 30 .lss 29 (i 0),m 31 30,⟨some 32,some (31,false),.mv 3⟩,⟨some 33,some (31,false),.aF 1 1⟩,⟨some 34,some (31,false),.ba 3 1 33 32⟩,⟨some 35,some (31,false),.load false 1 34⟩,⟨some 36,some (31,false),.bin .gtr 35 (i 65535)⟩,w 37 31 (.k (.bool true)) 36] (k [1,3,37] (h 37 (t [m 2 (i 5)]) .skip)))) (k [1,3] (p [m 24 3,b 25 .add 24 (i 1),m 3 25]))))))))) (k [] (t [m 2 (i 0)])))))⟩
structure QN(R:Env):Prop where
 Xc:R.Fn 291 Xb
def Xd:br:=Nf ⟨1,[2],q [x 1 41 0,m 2 (i 0)] (s (q [f 5 0 1,l 6 1 5,b 7 .lss 6 (i 0),m 8 7,⟨some 9,some (8,false),.aF 0 1⟩,⟨some 10,some (8,false),.load false 1 9⟩,⟨some 11,some (8,false),.bin .gtr 10 (i 2)⟩,w 12 8 (.k (.bool true)) 11] (k [1,12] (h 12 (t [m 2 (i 5)]) .skip))) (k [1] (s (q [m 3 (i 0)] (k [1,3] (.block 0 (.loop (s (q [m 13 3,b 14 .lss 13 (i 3)] (h 14 .skip (.exit 0))) (k [1,3] (s (.block 1 (q [m 17 3,f 18 1 1,o 19 (.ba 3 1 18 17),l 20 1 19,b 21 .lss 20 (i 0),m 22 21,⟨some 23,some (22,false),.mv 3⟩,⟨some 24,some (22,false),.aF 1 1⟩,⟨some 25,some (22,false),.ba 3 1 24 23⟩,⟨some 26,some (22,false),.load false 1 25⟩,⟨some 27,some (22,false),.bin .gtr 26 (i 1048576)⟩,w 28 22 (.k (.bool true)) 27] (k [1,3,28] (h 28 (t [m 2 (i 5)]) .skip)))) (k [1,3] (p [m 15 3,b 16 .add 15 (i 1),m 3 16]))))))))) (k [1] (s (q [f 29 4 1,g 30 3 29,c 31 213 [30,i 4096],m 32 31,⟨some 33,some (32,false),.aF 7 1⟩,⟨some 34,some (32,false),.load true 3 33⟩,⟨some 35,some (32,false),.call 213 [34,i 4096]⟩,w 36 32 (.k (.bool true)) 35,m 37 36,⟨some 38,some (37,false),.aF 10 1⟩,⟨some 39,some (37,false),.load true 3 38⟩,⟨some 40,some (37,false),.call 213 [39,i 4096]⟩,w 41 37 (.k (.bool true)) 40] (k [1,41] (h 41 (t [m 2 (i 8)]) .skip))) (y [1] [o 42 (.build [j 0,j 0,j 0] []),a 4 26 [j 0,j 0,j 0],r 3 4 42] (s (q [f 43 0 1,l 44 1 43,b 45 .eql 44 (i 2),m 46 45,⟨some 47,some (46,true),.aF 4 1⟩,⟨some 48,some (46,true),.load true 3 47⟩,⟨some 49,some (46,true),.load true 3 4⟩,⟨some 50,some (46,true),.sM true [.i,.i,.i] 48 49⟩,w 51 46 50 (.k (.bool false)),m 52 51,⟨some 53,some (52,false),.aF 0 1⟩,⟨some 54,some (52,false),.load false 1 53⟩,⟨some 55,some (52,false),.bin .neq 54 (i 1)⟩,⟨some 56,some (52,false),.mv 55⟩,⟨some 57,some (56,true),.aF 7 1⟩,⟨some 58,some (56,true),.load true 3 57⟩,⟨some 59,some (56,true),.load true 3 4⟩,⟨some 60,some (56,true),.sM true [.i,.i,.i] 58 59⟩,⟨some 61,some (56,true),.mv 60⟩,⟨some 62,some (61,false),.aF 10 1⟩,⟨some 63,some (61,false),.load true 3 62⟩,⟨some 64,some (61,false),.load true 3 4⟩,⟨some 65,some (61,false),.sM true [.i,.i,.i] 63 64⟩,⟨some 66,some (56,true),.pick 61 (.k (.bool true)) 65⟩,⟨some 67,some (52,false),.pick 56 66 (.k (.bool false))⟩,w 68 52 (.k (.bool true)) 67] (k [68] (h 68 (t [m 2 (i 5)]) .skip))) (k [] (t [m 2 (i 0)])))))))))⟩
structure QO(R:Env):Prop where
 Xe:R.Fn 293 Xd
 n213:Lz R
def Xf:br:=Nf ⟨1,[2],q [x 1 12 0,m 2 (.k (.bool false))] (q [f 3 0 1,l 4 1 3,b 5 .neq 4 (i 0),m 6 5,⟨some 7,some (6,false),.aF 1 1⟩,⟨some 8,some (6,false),.load false 1 7⟩,⟨some 9,some (6,false),.fw 8⟩,⟨some 10,some (6,false),.bin .gtr 9 (i 0)⟩,w 11 6 (.k (.bool true)) 10,m 2 11] (k [2] .ret))⟩
structure QP(R:Env):Prop where
 LC:R.Fn 312 Xf
def Xg:br:=Nf ⟨1,[2],q [x 1 25 0,m 2 (.k (.bool false))] (q [f 3 0 1,l 4 1 3,n 5 4,f 6 1 1,l 7 1 6,n 8 7,b 9 .add 5 8,f 10 2 1,l 11 1 10,n 12 11,b 13 .add 9 12,b 14 .gtr 13 (i 0),m 2 14] (k [2] .ret))⟩
structure QQ(R:Env):Prop where
 LD:R.Fn 313 Xg
def Xh:br:=Nf ⟨1,[2],q [x 1 39 0,m 2 (.k .ai)] (s (q [f 14 0 1,l 15 1 14,b 16 .eql 15 (i 1)] (h 16 (q [f 18 1 1,g 19 3 18,c 20 197 [19],m 17 20,e 21 17 0,e 22 17 1,m 3 21,m 4 22] (k [3] (t [m 23 3,m 2 23]))) .skip)) (k [1] (s (q [f 24 0 1,l 25 1 24,b 26 .eql 25 (i 2)] (h 26 (q [f 28 4 1,g 29 2 28,c 30 83 [29],m 27 30,e 31 27 0,e 32 27 1,m 5 31,m 6 32] (k [5] (t [m 33 5,m 2 33]))) .skip)) (k [1] (s (q [f 34 0 1,l 35 1 34,b 36 .eql 35 (i 3)] (h 36 (q [f 37 6 1,g 38 5 37,a 7 40 [j 0,j 0,j 0,j 0,j 0],r 5 7 38] (q [f 39 0 7,l 40 1 39,o 41 (.conv .u8 40),o 42 (.aq 4 1 1 [.int .u8 0] [(0,41)]),m 8 42] (y [7,8] [f 43 1 7,o 44 (.ba 3 1 43 (i 0)),l 45 1 44,f 46 1 7,o 47 (.ba 3 1 46 (i 1)),l 48 1 47,f 49 1 7,o 50 (.ba 3 1 49 (i 2)),l 51 1 50,f 52 4 7,l 53 1 52,o 54 (.aq 10 1 4 [j 0] [(0,45),(1,48),(2,51),(3,53)]),m 9 54] (k [8,9] (s (q [m 10 (i 0)] (k [8,9,10] (.block 0 (.loop (s (q [m 55 10,b 56 .lss 55 (i 4)] (h 56 .skip (.exit 0))) (k [8,9,10] (s (.block 1 (.draw [0,0,0,6,14,30,62,0,0,384,896,1920,3968,8190,16383,32767] [[8],[9],[10],[60,61],[62],[63],[64],[9],[10],[66,67],[68],[69],[70],[65,71],[59,72],[73]] [m 59 8,m 60 9,m 61 10,u 62 1 60 61,l 63 1 62,b 64 .rem 63 (i 256),o 65 (.conv .u8 64),m 66 9,m 67 10,u 68 1 66 67,l 69 1 68,b 70 .quo 69 (i 256),o 71 (.conv .u8 70),o 72 (.aq 4 1 2 [.int .u8 0] [(0,65),(1,71)]),o 73 (.app 4 1 59 72),m 8 73])) (k [8,9,10] (p [m 57 10,b 58 .add 57 (i 1),m 10 58]))))))))) (k [8] (t [m 74 8,m 2 74]))))))) .skip)) (y [1] [f 75 11 1,g 76 13 75,a 11 41 Z9,r 13 11 76] (q [f 77 0 11,l 78 1 77,o 79 (.conv .u8 78),o 80 (.aq 4 1 1 [.int .u8 0] [(0,79)]),m 12 80] (k [11,12] (s (q [m 13 (i 0)] (k [11,12,13] (.block 2 (.loop (s (q [m 81 13,b 82 .lss 81 (i 3)] (h 82 .skip (.exit 2))) (k [11,12,13] (s (.block 3 (p [m 86 12,m 87 13,f 88 1 11,o 89 (.ba 3 1 88 87),l 90 1 89,o 91 (.conv .u64 90),o 92 (.aq 6 1 1 [.int .u64 0] [(0,91)]),c 93 55 [86,i 4,92],m 85 93,e 94 85 0,e 95 85 1,m 12 94])) (k [11,12,13] (p [m 83 13,b 84 .add 83 (i 1),m 13 84]))))))))) (k [11,12] (s (.draw [0,0,2,7,0,16,63,0,128,511,1023] [[12],[11],[97],[96,98],[11],[100],[99,101],[11],[103],[102,104],[105]] [m 96 12,f 97 4 11,g 98 3 97,c 99 212 [96,98],f 100 7 11,g 101 3 100,c 102 212 [99,101],f 103 10 11,g 104 3 103,c 105 212 [102,104],m 2 105]) (k [2] .ret))))))))))))⟩
structure QR(R:Env):Prop where
 H4:R.Fn 314 Xh
 NJ:WZ R
 ZD:N83 R
 n197:QM R
 n212:LB R
def Xi:br:=Nf ⟨1,[2],q [x 1 39 0,m 2 (i 0)] (q [m 3 (i 12)] (q [m 4 (.k (.bool false))] (s (q [f 5 0 1,l 6 1 5] (.block 0 (q [b 8 .eql 6 (i 1),m 7 8] (h 7 (q [f 9 1 1,g 10 3 9,c 11 198 [10],m 3 11] (p [f 12 4 1,g 13 2 12,c 14 312 [13],m 15 14,⟨some 16,some (15,false),.aF 6 1⟩,⟨some 17,some (15,false),.load true 5 16⟩,⟨some 18,some (15,false),.build [j 0,j 0,j 0,j 0,j 0] []⟩,⟨some 19,some (15,false),.sM true [.i,.i,.i,.i,.i] 17 18⟩,w 20 15 (.k (.bool true)) 19,m 21 20,⟨some 22,some (21,false),.aF 11 1⟩,⟨some 23,some (21,false),.load true 13 22⟩,⟨some 24,some (21,false),.build Z9 []⟩,⟨some 25,some (21,false),.sM true [.i,.i,.i,.i,.i,.i,.i,.i,.i,.i,.i,.i,.i] 23 24⟩,w 26 21 (.k (.bool true)) 25,m 4 26])) (q [b 28 .eql 6 (i 2),m 27 28] (h 27 (q [f 29 4 1,g 30 2 29,c 31 85 [30],m 3 31] (p [f 32 1 1,g 33 3 32,c 34 313 [33],m 35 34,⟨some 36,some (35,false),.aF 6 1⟩,⟨some 37,some (35,false),.load true 5 36⟩,⟨some 38,some (35,false),.build [j 0,j 0,j 0,j 0,j 0] []⟩,⟨some 39,some (35,false),.sM true [.i,.i,.i,.i,.i] 37 38⟩,w 40 35 (.k (.bool true)) 39,m 41 40,⟨some 42,some (41,false),.aF 11 1⟩,⟨some 43,some (41,false),.load true 13 42⟩,⟨some 44,some (41,false),.build Z9 []⟩,⟨some 45,some (41,false),.sM true [.i,.i,.i,.i,.i,.i,.i,.i,.i,.i,.i,.i,.i] 43 44⟩,w 46 41 (.k (.bool true)) 45,m 4 46])) (q [b 48 .eql 6 (i 3),m 47 48] (h 47 (q [f 49 6 1,g 50 5 49,c 51 291 [50],m 3 51] (p [f 52 1 1,g 53 3 52,c 54 313 [53],m 55 54,⟨some 56,some (55,false),.aF 4 1⟩,⟨some 57,some (55,false),.load true 2 56⟩,⟨some 58,some (55,false),.call 312 [57]⟩,w 59 55 (.k (.bool true)) 58,m 60 59,⟨some 61,some (60,false),.aF 11 1⟩,⟨some 62,some (60,false),.load true 13 61⟩,⟨some 63,some (60,false),.build Z9 []⟩,⟨some 64,some (60,false),.sM true [.i,.i,.i,.i,.i,.i,.i,.i,.i,.i,.i,.i,.i] 62 63⟩,w 65 60 (.k (.bool true)) 64,m 4 65])) (q [b 67 .eql 6 (i 4),m 66 67] (h 66 (q [f 68 11 1,g 69 13 68,c 70 293 [69],m 3 70] (p [f 71 1 1,g 72 3 71,c 73 313 [72],m 74 73,⟨some 75,some (74,false),.aF 4 1⟩,⟨some 76,some (74,false),.load true 2 75⟩,⟨some 77,some (74,false),.call 312 [76]⟩,w 78 74 (.k (.bool true)) 77,m 79 78,⟨some 80,some (79,false),.aF 6 1⟩,⟨some 81,some (79,false),.load true 5 80⟩,⟨some 82,some (79,false),.build [j 0,j 0,j 0,j 0,j 0] []⟩,⟨some 83,some (79,false),.sM true [.i,.i,.i,.i,.i] 81 82⟩,w 84 79 (.k (.bool true)) 83,m 4 84])) .skip)))))))))) (k [1,3,4] (s (q [m 85 3,b 86 .neq 85 (i 0)] (h 86 (t [m 87 3,m 2 87]) .skip)) (k [1,4] (s (q [m 88 4] (h 88 (t [m 2 (i 5)]) .skip)) (k [1] (s (s (.draw [0,1,3,0,8,27,63] [[1],[89],[90],[1],[92],[93],[91,94]] [g 89 24 1,c 90 314 [89],n 91 90,f 92 0 1,l 93 1 92,c 94 38 [93],b 95 .gtr 91 94]) (k [95] (h 95 (t [m 2 (i 9)]) .skip))) (k [] (t [m 2 (i 0)])))))))))))⟩
structure QS(R:Env):Prop where
 Xj:R.Fn 295 Xi
 n38:N38 R
 NK:ZC R
 n198:LA R
 n291:QN R
 n293:QO R
 n312:QP R
 n313:QQ R
 n314:QR R
end Go.UM
namespace Go.UM
open Go.AM
open Z
def Xk:br:=Nf ⟨2,[4],q [m 4 (i 0)] (s (q [m 5 (i 0)] (k [0,1,5] (.block 0 (.loop (s (q [m 6 5,m 7 0,o 8 (.aL 7),f 9 0 8,l 10 1 9,n 11 10,b 12 .lss 6 11] (k [0,1,5,12] (h 12 .skip (.exit 0)))) (k [0,1,5] (s (.block 1 (q [m 15 0,o 16 (.aL 15),f 17 0 16,l 18 1 17,m 19 5,u 20 40 18 19,f 21 0 20,l 22 1 21,m 23 1,b 24 .eql 22 23] (k [0,1,5,24] (h 24 (t [m 25 5,m 4 25]) .skip)))) (k [0,1,5] (p [m 13 5,b 14 .add 13 (i 1),m 5 14]))))))))) (k [] (t [m 4 (i (-1))])))⟩
structure H5(R:Env):Prop where
 ab2:R.Fn 454 Xk
def Xl:br:=Nf ⟨4,[8],q [x 6 2 2,x 7 39 3,m 8 (i 0)] (s (q [m 13 1,b 14 .lss 13 (i 1),m 15 14,⟨some 16,some (15,false),.mv 1⟩,⟨some 17,some (15,false),.bin .gtr 16 (i 65536)⟩,w 18 15 (.k (.bool true)) 17] (k [0,1,6,7,18] (h 18 (t [m 8 (i 2)]) .skip))) (k [0,1,6,7] (s (q [m 19 0,m 20 1,c 21 454 [19,20],b 22 .geq 21 (i 0)] (h 22 (t [m 8 (i 10)]) .skip)) (k [0,1,6,7] (s (q [g 23 24 7,c 24 295 [23],m 9 24] (q [m 25 9,b 26 .neq 25 (i 0)] (h 26 (t [m 27 9,m 8 27]) .skip))) (k [0,1,6,7] (s (q [f 28 1 6,l 29 1 28,f 30 0 7,l 31 1 30,b 32 .neq 29 31] (k [0,1,6,7,32] (h 32 (t [m 8 (i 12)]) .skip))) (y [0,1,6,7] [m 10 (.k .ai)] (q [m 11 (.k (.bool false))] (s (q [m 12 (i 0)] (k [0,1,6,7,10,11,12] (.block 0 (.loop (s (q [m 33 12,m 34 0,o 35 (.aL 34),f 36 0 35,l 37 1 36,n 38 37,b 39 .lss 33 38] (k [0,1,6,7,10,11,12,39] (h 39 .skip (.exit 0)))) (k [0,1,6,7,10,11,12] (s (.block 1 (s (q [m 42 11,o 43 (.un .not 42),m 44 43,⟨some 45,some (44,true),.mv 0⟩,⟨some 46,some (44,true),.aL 45⟩,⟨some 47,some (44,true),.aF 0 46⟩,⟨some 48,some (44,true),.load false 1 47⟩,⟨some 49,some (44,true),.mv 12⟩,⟨some 50,some (44,true),.mi 40 48 49⟩,⟨some 51,some (44,true),.aF 0 50⟩,⟨some 52,some (44,true),.load false 1 51⟩,⟨some 53,some (44,true),.mv 1⟩,⟨some 54,some (44,true),.bin .gtr 52 53⟩,w 55 44 54 (.k (.bool false))] (k [0,1,6,7,10,11,12,55] (h 55 (q [m 56 10,m 57 1,g 58 15 6,g 59 24 7,o 60 (.build Z2 [(0,1,57),(1,15,58),(16,24,59)]),o 61 (.aq 45 40 1 Z2 [(0,60)]),o 62 (.app 45 40 56 61),m 10 62] (k [0,1,6,7,10,12] (p [m 11 (.k (.bool true))]))) .skip))) (k [0,1,6,7,10,11,12] (p [m 63 10,m 64 0,o 65 (.aL 64),f 66 0 65,l 67 1 66,m 68 12,u 69 40 67 68,g 70 40 69,o 71 (.aq 45 40 1 Z2 [(0,70)]),o 72 (.app 45 40 63 71),m 10 72])))) (k [0,1,6,7,10,11,12] (p [m 40 12,b 41 .add 40 (i 1),m 12 41]))))))))) (k [0,1,6,7,10,11] (s (q [m 73 11,o 74 (.un .not 73)] (h 74 (p [m 75 10,m 76 1,g 77 15 6,g 78 24 7,o 79 (.build Z2 [(0,1,76),(1,15,77),(16,24,78)]),o 80 (.aq 45 40 1 Z2 [(0,79)]),o 81 (.app 45 40 75 80),m 10 81]) .skip)) (y [0,10] [m 82 0,m 83 10,o 84 (.aL 82),f 85 0 84,r 1 85 83] (k [] (t [m 8 (i 0)])))))))))))))))⟩
structure QT(R:Env):Prop where
 ab3:R.Fn 441 Xl
 n295:QS R
 tI:H5 R
def Xm:br:=Nf ⟨2,[4],q [m 4 (i 0)] (q [m 9 0,m 10 1,c 11 454 [9,10],m 5 11] (s (q [m 12 5,b 13 .lss 12 (i 0)] (h 13 (t [m 4 (i 11)]) .skip)) (k [0,1,5] (s (.draw [0,0,0,4,12,28,0,124,254,0,512,1536,3584,0,8192,32256,65534,131071,262143,524287] [[0],[],[0],[16],[17],[18],[5],[19,20],[15,21],[0],[23],[24],[25],[5],[27],[26,28],[22,29],[14],[31],[32,30]] [m 14 0,o 15 (.aq 45 40 0 Z2 []),m 16 0,o 17 (.aL 16),f 18 0 17,l 19 1 18,m 20 5,o 21 (.u' 45 40 19 none (some 20) none),o 22 (.app 45 40 15 21),m 23 0,o 24 (.aL 23),f 25 0 24,l 26 1 25,m 27 5,b 28 .add 27 (i 1),o 29 (.u' 45 40 26 (some 28) none none),o 30 (.app 45 40 22 29),o 31 (.aL 14),f 32 0 31,r 1 32 30]) (y [0,1] [m 6 (.k .ai)] (s (q [m 7 (i 0)] (k [0,1,6,7] (.block 0 (.loop (s (q [m 33 7,m 34 0,o 35 (.aL 34),f 36 1 35,l 37 1 36,n 38 37,b 39 .lss 33 38] (k [0,1,6,7,39] (h 39 .skip (.exit 0)))) (k [0,1,6,7] (s (.block 1 (q [m 42 0,o 43 (.aL 42),f 44 1 43,l 45 1 44,m 46 7,u 47 16 45 46,g 48 16 47,a 8 44 Z8,r 16 8 48] (y [0,1,6,7,8] [f 49 0 8,l 50 1 49,m 51 1,b 52 .neq 50 51,m 53 52,⟨some 54,some (53,true),.aF 1 8⟩,⟨some 55,some (53,true),.load false 1 54⟩,⟨some 56,some (53,true),.mv 1⟩,⟨some 57,some (53,true),.bin .neq 55 56⟩,w 58 53 57 (.k (.bool false)),m 59 58,⟨some 60,some (59,true),.aF 2 8⟩,⟨some 61,some (59,true),.load false 1 60⟩,⟨some 62,some (59,true),.mv 1⟩,⟨some 63,some (59,true),.bin .neq 61 62⟩,w 64 59 63 (.k (.bool false))] (k [0,1,6,7,8,64] (h 64 (p [m 65 6,g 66 16 8,o 67 (.aq 44 16 1 Z8 [(0,66)]),o 68 (.app 44 16 65 67),m 6 68]) .skip))))) (k [0,1,6,7] (p [m 40 7,b 41 .add 40 (i 1),m 7 41]))))))))) (y [0,6] [m 69 0,m 70 6,o 71 (.aL 69),f 72 1 71,r 1 72 70] (k [] (t [m 4 (i 0)])))))))))⟩
structure QU(R:Env):Prop where
 ab4:R.Fn 442 Xm
 tI:H5 R
def Xo:br:=Nf ⟨2,[4],q [x 2 44 0,x 3 44 1,m 4 (.k (.bool false))] (s (.draw [0,1,0,4,0,16,0,64,255,0,512,0,2048,0,8192,0,32768,130560,511,524287] [[2],[8],[2],[10],[2],[12],[2],[14],[9,11,13,15],[3],[17],[3],[19],[3],[21],[3],[23],[18,20,22,24],[16],[25]] [f 8 0 2,l 9 1 8,f 10 1 2,l 11 1 10,f 12 2 2,l 13 1 12,f 14 3 2,l 15 1 14,o 16 (.aq 10 1 4 [j 0] [(0,9),(1,11),(2,13),(3,15)]),f 17 0 3,l 18 1 17,f 19 1 3,l 20 1 19,f 21 2 3,l 22 1 21,f 23 3 3,l 24 1 23,o 25 (.aq 10 1 4 [j 0] [(0,18),(1,20),(2,22),(3,24)]),m 5 16,m 6 25]) (k [5,6] (s (q [m 7 (i 0)] (k [5,6,7] (.block 0 (.loop (s (q [m 26 7,b 27 .lss 26 (i 4)] (h 27 .skip (.exit 0))) (k [5,6,7] (s (.block 1 (s (.draw [0,0,3,7,0,0,48,112,255] [[5],[7],[30,31],[32],[6],[7],[34,35],[36],[33,37]] [m 30 5,m 31 7,u 32 1 30 31,l 33 1 32,m 34 6,m 35 7,u 36 1 34 35,l 37 1 36,b 38 .neq 33 37]) (k [5,6,7,38] (h 38 (s (.draw [0,0,3,7,0,0,48,112,255,511] [[5],[7],[39,40],[41],[6],[7],[43,44],[45],[42,46],[47]] [m 39 5,m 40 7,u 41 1 39 40,l 42 1 41,m 43 6,m 44 7,u 45 1 43 44,l 46 1 45,b 47 .lss 42 46,m 4 47]) (k [4] .ret)) .skip)))) (k [5,6,7] (p [m 28 7,b 29 .add 28 (i 1),m 7 29]))))))))) (k [] (t [m 4 (.k (.bool false))])))))⟩
structure LF(R:Env):Prop where
 E8:R.Fn 456 Xo
def Xp:br:=Nf ⟨2,[4],q [x 3 44 1,m 4 (i 0)] (s (q [m 5 (i 0)] (k [0,3,5] (.block 0 (.loop (s (q [m 6 5,m 7 0,o 8 (.aL 7),f 9 1 8,l 10 1 9,n 11 10,b 12 .lss 6 11] (k [0,3,5,12] (h 12 .skip (.exit 0)))) (k [0,3,5] (s (.block 1 (s (.draw [0,0,2,6,14,0,62,126,255,511,1023,2047,4095,8191,16383,2047,65535,131071,2047,524287,1048575,2097151] [[3],[0],[16],[17],[18],[5],[19,20],[21],[15,22],[23],[24],[0],[26],[27],[28],[5],[29,30],[31],[3],[32,33],[34],[25,35]] [g 15 16 3,m 16 0,o 17 (.aL 16),f 18 1 17,l 19 1 18,m 20 5,u 21 16 19 20,g 22 16 21,c 23 456 [15,22],o 24 (.un .not 23),m 25 24,⟨some 26,some (25,true),.mv 0⟩,⟨some 27,some (25,true),.aL 26⟩,⟨some 28,some (25,true),.aF 1 27⟩,⟨some 29,some (25,true),.load false 1 28⟩,⟨some 30,some (25,true),.mv 5⟩,⟨some 31,some (25,true),.mi 16 29 30⟩,⟨some 32,some (25,true),.load true 16 31⟩,⟨some 33,some (25,true),.load true 16 3⟩,⟨some 34,some (25,true),.call 456 [32,33]⟩,⟨some 35,some (25,true),.un .not 34⟩,w 36 25 35 (.k (.bool false))]) (k [0,3,5,36] (h 36 (t [m 37 5,m 4 37]) .skip)))) (k [0,3,5] (p [m 13 5,b 14 .add 13 (i 1),m 5 14]))))))))) (k [] (t [m 4 (i (-1))])))⟩
structure LG(R:Env):Prop where
 ab5:R.Fn 455 Xp
 pB:LF R
def Xq:br:=Nf ⟨2,[4],q [x 3 44 1,m 4 (i 0)] (s (q [f 15 3 3,l 16 1 15,b 17 .lss 16 (i 0),m 18 17,⟨some 19,some (18,false),.aF 3 3⟩,⟨some 20,some (18,false),.load false 1 19⟩,⟨some 21,some (18,false),.bin .gtr 20 (i 65536)⟩,w 22 18 (.k (.bool true)) 21] (k [0,3,22] (h 22 (t [m 4 (i 2)]) .skip))) (k [0,3] (s (.draw [0,0,2,7,0,0,32,127,0,0,512,2047,4095,8191,16383] [[0],[3],[24],[23,25],[0],[3],[28],[27,29],[0],[3],[32],[31,33],[26],[30],[34]] [m 23 0,f 24 0 3,l 25 1 24,c 26 454 [23,25],m 27 0,f 28 1 3,l 29 1 28,c 30 454 [27,29],m 31 0,f 32 2 3,l 33 1 32,c 34 454 [31,33],m 5 26,m 6 30,m 7 34]) (k [0,3,5,6,7] (s (q [m 35 5,b 36 .lss 35 (i 0),m 37 36,⟨some 38,some (37,false),.mv 6⟩,⟨some 39,some (37,false),.bin .lss 38 (i 0)⟩,w 40 37 (.k (.bool true)) 39,m 41 40,⟨some 42,some (41,false),.mv 7⟩,⟨some 43,some (41,false),.bin .lss 42 (i 0)⟩,⟨some 44,some (41,false),.mv 43⟩,⟨some 45,some (44,true),.aF 2 3⟩,⟨some 46,some (44,true),.load false 1 45⟩,⟨some 47,some (44,true),.bin .neq 46 (i 0)⟩,⟨some 48,some (41,false),.pick 44 47 (.k (.bool false))⟩,w 49 41 (.k (.bool true)) 48] (k [0,3,5,6,7,49] (h 49 (t [m 4 (i 11)]) .skip))) (k [0,3,5,6,7] (s (q [m 50 0,o 51 (.aL 50),f 52 0 51,l 53 1 52,m 54 5,u 55 40 53 54,f 56 1 55,f 57 1 56,l 58 1 57,b 59 .neq 58 (i 1),m 60 59,⟨some 61,some (60,false),.mv 0⟩,⟨some 62,some (60,false),.aL 61⟩,⟨some 63,some (60,false),.aF 0 62⟩,⟨some 64,some (60,false),.load false 1 63⟩,⟨some 65,some (60,false),.mv 6⟩,⟨some 66,some (60,false),.mi 40 64 65⟩,⟨some 67,some (60,false),.aF 1 66⟩,⟨some 68,some (60,false),.aF 1 67⟩,⟨some 69,some (60,false),.load false 1 68⟩,⟨some 70,some (60,false),.bin .neq 69 (i 3)⟩,w 71 60 (.k (.bool true)) 70,m 72 71,⟨some 73,some (72,false),.aF 2 3⟩,⟨some 74,some (72,false),.load false 1 73⟩,⟨some 75,some (72,false),.bin .neq 74 (i 0)⟩,⟨some 76,some (72,false),.mv 75⟩,⟨some 77,some (76,true),.mv 0⟩,⟨some 78,some (76,true),.aL 77⟩,⟨some 79,some (76,true),.aF 0 78⟩,⟨some 80,some (76,true),.load false 1 79⟩,⟨some 81,some (76,true),.mv 7⟩,⟨some 82,some (76,true),.mi 40 80 81⟩,⟨some 83,some (76,true),.aF 1 82⟩,⟨some 84,some (76,true),.aF 1 83⟩,⟨some 85,some (76,true),.load false 1 84⟩,⟨some 86,some (76,true),.bin .neq 85 (i 2)⟩,⟨some 87,some (72,false),.pick 76 86 (.k (.bool false))⟩,w 88 72 (.k (.bool true)) 87] (k [0,3,5,88] (h 88 (t [m 4 (i 12)]) .skip))) (k [0,3,5] (s (q [m 89 0,g 90 16 3,c 91 455 [89,90],b 92 .geq 91 (i 0)] (h 92 (t [m 4 (i 10)]) .skip)) (y [0,3,5] [m 93 0,o 94 (.aL 93),f 95 0 94,l 96 1 95,m 97 5,u 98 40 96 97,f 99 16 98,f 100 1 99,f 101 0 100,l 102 1 101,m 8 102] (k [0,3,8] (s (q [m 9 (i 0)] (k [0,3,8,9] (.block 0 (.loop (s (q [m 103 9,m 104 8,n 105 104,b 106 .lss 103 105] (h 106 .skip (.exit 0))) (k [0,3,8,9] (s (.block 1 (s (.draw [0,1,0,0,12,28,63,127,255,255,0,1535,4095] [[3],[110],[8],[9],[112,113],[114],[111,115],[116],[109],[109],[],[10,117],[118]] [f 110 4 3,g 111 12 110,m 112 8,m 113 9,u 114 3 112 113,g 115 3 114,c 116 242 [111,115],m 109 116,e 117 109 0,e 118 109 1,a 10 26 [j 0,j 0,j 0],r 3 10 117,m 11 118]) (y [0,3,8,9,11] [m 119 11,b 120 .neq 119 (i 0)] (h 120 (t [m 121 11,m 4 121]) .skip)))) (k [0,3,8,9] (p [m 107 9,b 108 .add 107 (i 1),m 9 108]))))))))) (y [0,3] [m 12 (.k .ai)] (q [m 13 (.k (.bool false))] (s (q [m 14 (i 0)] (k [0,3,12,13,14] (.block 2 (.loop (s (q [m 122 14,m 123 0,o 124 (.aL 123),f 125 1 124,l 126 1 125,n 127 126,b 128 .lss 122 127] (k [0,3,12,13,14,128] (h 128 .skip (.exit 2)))) (k [0,3,12,13,14] (s (.block 3 (s (s (.draw [0,1,3,7,7,23,55,119,7,503,1015,2047,4095] [[13],[131],[132],[3],[0],[135],[136],[137],[14],[138,139],[140],[134,141],[133,142]] [m 131 13,o 132 (.un .not 131),m 133 132,⟨some 134,some (133,true),.load true 16 3⟩,⟨some 135,some (133,true),.mv 0⟩,⟨some 136,some (133,true),.aL 135⟩,⟨some 137,some (133,true),.aF 1 136⟩,⟨some 138,some (133,true),.load false 1 137⟩,⟨some 139,some (133,true),.mv 14⟩,⟨some 140,some (133,true),.mi 16 138 139⟩,⟨some 141,some (133,true),.load true 16 140⟩,⟨some 142,some (133,true),.call 456 [134,141]⟩,w 143 133 142 (.k (.bool false))]) (k [0,3,12,13,14,143] (h 143 (q [m 144 12,g 145 16 3,o 146 (.aq 44 16 1 Z8 [(0,145)]),o 147 (.app 44 16 144 146),m 12 147] (k [0,3,12,14] (p [m 13 (.k (.bool true))]))) .skip))) (k [0,3,12,13,14] (p [m 148 12,m 149 0,o 150 (.aL 149),f 151 1 150,l 152 1 151,m 153 14,u 154 16 152 153,g 155 16 154,o 156 (.aq 44 16 1 Z8 [(0,155)]),o 157 (.app 44 16 148 156),m 12 157])))) (k [0,3,12,13,14] (p [m 129 14,b 130 .add 129 (i 1),m 14 130]))))))))) (k [0,3,12,13] (s (q [m 158 13,o 159 (.un .not 158)] (h 159 (p [m 160 12,g 161 16 3,o 162 (.aq 44 16 1 Z8 [(0,161)]),o 163 (.app 44 16 160 162),m 12 163]) .skip)) (y [0,12] [m 164 0,m 165 12,o 166 (.aL 164),f 167 1 166,r 1 167 165] (k [] (t [m 4 (i 0)]))))))))))))))))))))⟩
structure QV(R:Env):Prop where
 ab6:R.Fn 443 Xq
 n242:Ly R
 tI:H5 R
 zQ:LG R
 pB:LF R
def Xr:br:=Nf ⟨2,[4],q [x 3 44 1,m 4 (i 0)] (q [m 6 0,g 7 16 3,c 8 455 [6,7],m 5 8] (s (q [m 9 5,b 10 .lss 9 (i 0)] (h 10 (t [m 4 (i 11)]) .skip)) (k [0,5] (s (.draw [0,0,0,4,12,28,0,124,254,0,512,1536,3584,0,8192,32256,65534,131071,262143,524287] [[0],[],[0],[13],[14],[15],[5],[16,17],[12,18],[0],[20],[21],[22],[5],[24],[23,25],[19,26],[11],[28],[29,27]] [m 11 0,o 12 (.aq 44 16 0 Z8 []),m 13 0,o 14 (.aL 13),f 15 1 14,l 16 1 15,m 17 5,o 18 (.u' 44 16 16 none (some 17) none),o 19 (.app 44 16 12 18),m 20 0,o 21 (.aL 20),f 22 1 21,l 23 1 22,m 24 5,b 25 .add 24 (i 1),o 26 (.u' 44 16 23 (some 25) none none),o 27 (.app 44 16 19 26),o 28 (.aL 11),f 29 1 28,r 1 29 27]) (k [] (t [m 4 (i 0)]))))))⟩
structure QW(R:Env):Prop where
 ab7:R.Fn 444 Xr
 zQ:LG R
end Go.UM
namespace Go.UM
open Go.AM
open Z
def Xs:br:=Nf ⟨1,[.cell 2 true 57],q [x 1 55 0,a 2 55 Z1] (q [f 3 17 1,f 4 1 3,g 5 3 4,c 6 191 [5],f 7 17 1,f 8 1 7,r 3 8 6] (y [1,2] [f 9 17 1,f 10 4 9,f 11 1 10,l 12 1 11,f 13 17 1,f 14 4 13,f 15 1 14,l 16 1 15,n 17 16,o 18 (.mm false [17,i 260]),o 19 (.u' 13 3 12 none (some 18) none),f 20 17 1,f 21 4 20,f 22 1 21,r 1 22 19] (k [1,2] (t [g 23 57 1,r 57 2 23]))))⟩
structure QX(R:Env):Prop where
 Xt:R.Fn 420 Xs
 n191:Qv R
def Xu:br:=Nf ⟨2,[4],q [x 3 55 1,m 4 (i 0)] (s (q [f 5 0 3,l 6 1 5] (.block 0 (q [b 8 .eql 6 (i 0),m 7 8] (h 7 (q [m 9 0,f 10 1 3,l 11 1 10,f 12 2 3,g 13 15 12,f 14 17 3,g 15 24 14,c 16 346 [9,11,13,15],m 4 16] (k [4] .ret)) (q [b 18 .eql 6 (i 1),m 17 18] (h 17 (q [m 19 0,f 20 1 3,l 21 1 20,c 22 428 [19,21],m 4 22] (k [4] .ret)) (q [b 24 .eql 6 (i 2),m 23 24] (h 23 (q [m 25 0,f 26 41 3,g 27 16 26,c 28 347 [25,27],m 4 28] (k [4] .ret)) .skip)))))))) (y [0,3] [m 29 0,f 30 41 3,g 31 16 30,c 32 427 [29,31],m 4 32] (k [4] .ret)))⟩
structure QY(R:Env):Prop where
 ab8:R.Fn 421 Xu
 n346:Lk R
 E9:Ll R
 QZ:Qc R
 Q0:Qd R
def Xv:br:=Nf ⟨2,[4],q [x 3 55 1,m 4 (i 0)] (s (q [f 5 0 3,l 6 1 5] (.block 0 (q [b 8 .eql 6 (i 0),m 7 8] (h 7 (q [m 9 0,f 10 1 3,l 11 1 10,f 12 2 3,g 13 15 12,f 14 17 3,g 15 24 14,c 16 441 [9,11,13,15],m 4 16] (k [4] .ret)) (q [b 18 .eql 6 (i 1),m 17 18] (h 17 (q [m 19 0,f 20 1 3,l 21 1 20,c 22 442 [19,21],m 4 22] (k [4] .ret)) (q [b 24 .eql 6 (i 2),m 23 24] (h 23 (q [m 25 0,f 26 41 3,g 27 16 26,c 28 443 [25,27],m 4 28] (k [4] .ret)) .skip)))))))) (y [0,3] [m 29 0,f 30 41 3,g 31 16 30,c 32 444 [29,31],m 4 32] (k [4] .ret)))⟩
structure Q1(R:Env):Prop where
 ab9:R.Fn 432 Xv
 Q2:QT R
 Q3:QU R
 Q4:QV R
 Q5:QW R
end Go.UM
namespace Go.UM
open Go.AM
open Z
def Xw:br:=Nf ⟨2,[4],q [x 2 1 0,m 4 (.k (.int .u8 0))] (s (q [m 5 1,b 6 .lss 5 (i 0),m 7 6,⟨some 8,some (7,false),.mv 1⟩,⟨some 9,some (7,false),.bin .gtr 8 (i 7)⟩,w 10 7 (.k (.bool true)) 9] (k [1,2,10] (h 10 (t [m 4 (.k (.int .u8 0))]) .skip))) (k [1,2] (t [m 11 1,o 12 (.ba 8 1 2 11),l 13 1 12,m 4 13])))⟩
structure LH(R:Env):Prop where
 LI:R.Fn 514 Xw
def Xx:br:=Nf ⟨2,[4],q [m 4 (.k (.int .u32 0))] (t [m 5 0,m 6 1,b 7 .or 5 6,m 4 7])⟩
structure Q6(R:Env):Prop where
 Xy:R.Fn 512 Xx
end Go.UM
namespace Go.UM
open Go.AM
open Z
def Xz:br:=Nf ⟨2,[4],q [m 4 (.k (.bool false))] (s (q [m 5 (i 0)] (k [0,1,5] (.block 0 (.loop (s (q [m 6 5,m 7 0,n 8 7,b 9 .lss 6 8] (h 9 .skip (.exit 0))) (k [0,1,5] (s (.block 1 (s (.draw [0,0,3,7,0,0,48,112,255] [[0],[5],[12,13],[14],[1],[5],[16,17],[18],[15,19]] [m 12 0,m 13 5,u 14 1 12 13,l 15 1 14,m 16 1,m 17 5,u 18 1 16 17,l 19 1 18,b 20 .neq 15 19]) (k [0,1,5,20] (h 20 (t [m 4 (.k (.bool false))]) .skip)))) (k [0,1,5] (p [m 10 5,b 11 .add 10 (i 1),m 5 11]))))))))) (k [] (t [m 4 (.k (.bool true))])))⟩
structure Q7(R:Env):Prop where
 XA:R.Fn 507 Xz
def XB:br:=Nf ⟨2,[4],q [x 2 59 0,x 3 59 1,m 4 (.k (.bool false))] (s (q [f 10 0 2,l 11 1 10,n 12 11,f 13 0 3,l 14 1 13,n 15 14,b 16 .neq 12 15,m 17 16,⟨some 18,some (17,false),.aF 1 2⟩,⟨some 19,some (17,false),.load false 1 18⟩,⟨some 20,some (17,false),.fw 19⟩,⟨some 21,some (17,false),.aF 1 3⟩,⟨some 22,some (17,false),.load false 1 21⟩,⟨some 23,some (17,false),.fw 22⟩,⟨some 24,some (17,false),.bin .neq 20 23⟩,w 25 17 (.k (.bool true)) 24,m 26 25,⟨some 27,some (26,false),.aF 2 2⟩,⟨some 28,some (26,false),.load false 1 27⟩,⟨some 29,some (26,false),.fw 28⟩,⟨some 30,some (26,false),.aF 2 3⟩,⟨some 31,some (26,false),.load false 1 30⟩,⟨some 32,some (26,false),.fw 31⟩,⟨some 33,some (26,false),.bin .neq 29 32⟩,w 34 26 (.k (.bool true)) 33,m 35 34,⟨some 36,some (35,false),.aF 3 2⟩,⟨some 37,some (35,false),.load false 1 36⟩,⟨some 38,some (35,false),.fw 37⟩,⟨some 39,some (35,false),.aF 3 3⟩,⟨some 40,some (35,false),.load false 1 39⟩,⟨some 41,some (35,false),.fw 40⟩,⟨some 42,some (35,false),.bin .neq 38 41⟩,w 43 35 (.k (.bool true)) 42,m 44 43,⟨some 45,some (44,false),.aF 4 2⟩,⟨some 46,some (44,false),.load false 1 45⟩,⟨some 47,some (44,false),.fw 46⟩,⟨some 48,some (44,false),.aF 4 3⟩,⟨some 49,some (44,false),.load false 1 48⟩,⟨some 50,some (44,false),.fw 49⟩,⟨some 51,some (44,false),.bin .neq 47 50⟩,w 52 44 (.k (.bool true)) 51,m 53 52,⟨some 54,some (53,false),.aF 5 2⟩,⟨some 55,some (53,false),.load false 1 54⟩,⟨some 56,some (53,false),.fw 55⟩,⟨some 57,some (53,false),.aF 5 3⟩,⟨some 58,some (53,false),.load false 1 57⟩,⟨some 59,some (53,false),.fw 58⟩,⟨some 60,some (53,false),.bin .neq 56 59⟩,w 61 53 (.k (.bool true)) 60] (k [2,3,61] (h 61 (t [m 4 (.k (.bool false))]) .skip))) (k [2,3] (s (q [f 62 5 2,l 63 1 62,f 64 5 3,l 65 1 64,c 66 507 [63,65],o 67 (.un .not 66)] (k [2,3,67] (h 67 (t [m 4 (.k (.bool false))]) .skip))) (k [2,3] (s (q [m 5 (i 0)] (k [2,3,5] (.block 0 (.loop (s (q [m 68 5,f 69 0 2,l 70 1 69,n 71 70,b 72 .lss 68 71] (k [2,3,5,72] (h 72 .skip (.exit 0)))) (k [2,3,5] (s (.block 1 (s (.draw [0,1,0,7,15,0,32,0,224,480,1023] [[2],[75],[5],[76,77],[78],[3],[80],[5],[81,82],[83],[79,84]] [f 75 0 2,l 76 1 75,m 77 5,u 78 19 76 77,g 79 19 78,f 80 0 3,l 81 1 80,m 82 5,u 83 19 81 82,g 84 19 83,o 85 (.sM true [.i,.i,.i,.i,.i,.i,.i,.i,.i,.i,.i,.i,.i,.i,.i,.i,.i,.i,.i] 79 84)]) (k [2,3,5,85] (h 85 (t [m 4 (.k (.bool false))]) .skip)))) (k [2,3,5] (p [m 73 5,b 74 .add 73 (i 1),m 5 74]))))))))) (k [2,3] (s (q [m 6 (i 0)] (k [2,3,6] (.block 2 (.loop (s (q [m 86 6,f 87 1 2,l 88 1 87,n 89 88,b 90 .lss 86 89] (k [2,3,6,90] (h 90 .skip (.exit 2)))) (k [2,3,6] (s (.block 3 (s (.draw [0,1,0,7,15,0,32,0,224,480,1023] [[2],[93],[6],[94,95],[96],[3],[98],[6],[99,100],[101],[97,102]] [f 93 1 2,l 94 1 93,m 95 6,u 96 5 94 95,g 97 5 96,f 98 1 3,l 99 1 98,m 100 6,u 101 5 99 100,g 102 5 101,o 103 (.sM true [.i,.i,.i,.i,.i] 97 102)]) (k [2,3,6,103] (h 103 (t [m 4 (.k (.bool false))]) .skip)))) (k [2,3,6] (p [m 91 6,b 92 .add 91 (i 1),m 6 92]))))))))) (k [2,3] (s (q [m 7 (i 0)] (k [2,3,7] (.block 4 (.loop (s (q [m 104 7,f 105 2 2,l 106 1 105,n 107 106,b 108 .lss 104 107] (k [2,3,7,108] (h 108 .skip (.exit 4)))) (k [2,3,7] (s (.block 5 (s (.draw [0,1,0,7,15,0,32,0,224,480,1023,2047] [[2],[111],[7],[112,113],[114],[3],[116],[7],[117,118],[119],[115,120],[121]] [f 111 2 2,l 112 1 111,m 113 7,u 114 2 112 113,g 115 2 114,f 116 2 3,l 117 1 116,m 118 7,u 119 2 117 118,g 120 2 119,c 121 89 [115,120],o 122 (.un .not 121)]) (k [2,3,7,122] (h 122 (t [m 4 (.k (.bool false))]) .skip)))) (k [2,3,7] (p [m 109 7,b 110 .add 109 (i 1),m 7 110]))))))))) (k [2,3] (s (q [m 8 (i 0)] (k [2,3,8] (.block 6 (.loop (s (q [m 123 8,f 124 3 2,l 125 1 124,n 126 125,b 127 .lss 123 126] (k [2,3,8,127] (h 127 .skip (.exit 6)))) (k [2,3,8] (s (.block 7 (s (.draw [0,1,0,7,15,0,32,0,224,480,1023] [[2],[130],[8],[131,132],[133],[3],[135],[8],[136,137],[138],[134,139]] [f 130 3 2,l 131 1 130,m 132 8,u 133 13 131 132,g 134 13 133,f 135 3 3,l 136 1 135,m 137 8,u 138 13 136 137,g 139 13 138,o 140 (.sM true [.i,.i,.i,.i,.i,.i,.i,.i,.i,.i,.i,.i,.i] 134 139)]) (k [2,3,8,140] (h 140 (t [m 4 (.k (.bool false))]) .skip)))) (k [2,3,8] (p [m 128 8,b 129 .add 128 (i 1),m 8 129]))))))))) (k [2,3] (s (q [m 9 (i 0)] (k [2,3,9] (.block 8 (.loop (s (q [m 141 9,f 142 4 2,l 143 1 142,n 144 143,b 145 .lss 141 144] (k [2,3,9,145] (h 145 .skip (.exit 8)))) (k [2,3,9] (s (.block 9 (s (.draw [0,1,0,7,15,0,32,0,224,480,1023] [[2],[148],[9],[149,150],[151],[3],[153],[9],[154,155],[156],[152,157]] [f 148 4 2,l 149 1 148,m 150 9,u 151 1 149 150,l 152 1 151,f 153 4 3,l 154 1 153,m 155 9,u 156 1 154 155,l 157 1 156,b 158 .neq 152 157]) (k [2,3,9,158] (h 158 (t [m 4 (.k (.bool false))]) .skip)))) (k [2,3,9] (p [m 146 9,b 147 .add 146 (i 1),m 9 147]))))))))) (y [2,3] [f 159 6 2,l 160 1 159,f 161 6 3,l 162 1 161,b 163 .eql 160 162,m 164 163,⟨some 165,some (164,true),.aF 7 2⟩,⟨some 166,some (164,true),.load false 1 165⟩,⟨some 167,some (164,true),.aF 7 3⟩,⟨some 168,some (164,true),.load false 1 167⟩,⟨some 169,some (164,true),.bin .eql 166 168⟩,w 170 164 169 (.k (.bool false)),m 171 170,⟨some 172,some (171,true),.aF 8 2⟩,⟨some 173,some (171,true),.load false 1 172⟩,⟨some 174,some (171,true),.aF 8 3⟩,⟨some 175,some (171,true),.load false 1 174⟩,⟨some 176,some (171,true),.bin .eql 173 175⟩,w 177 171 176 (.k (.bool false)),m 4 177] (k [4] .ret)))))))))))))))⟩
structure Q8(R:Env):Prop where
 Q9:R.Fn 492 XB
 ZE:N89 R
 LJ:Q7 R
def XC:br:=Nf ⟨2,[4],q [m 4 (.k .ai)] (q [m 8 1,c 9 72 [.k .ai,i 8,8],m 7 9,e 10 7 0,e 11 7 1,m 5 10,m 6 11] (k [0,5] (t [m 12 0,m 13 5,o 14 (.app 4 1 12 13),m 4 14])))⟩
structure LL(R:Env):Prop where
 XD:R.Fn 510 XC
 QL:W4 R
def XE:br:=Nf ⟨1,[2],q [x 1 59 0,m 2 (.k .ai)] (q [f 17 0 1,l 18 1 17,n 19 18,o 20 (.aq 10 1 1 [j 0] [(0,19)]),c 21 510 [.k .ai,20],m 3 21] (k [1,3] (s (q [m 4 (i 0)] (k [1,3,4] (.block 0 (.loop (s (q [m 22 4,f 23 0 1,l 24 1 23,n 25 24,b 26 .lss 22 25] (k [1,3,4,26] (h 26 .skip (.exit 0)))) (k [1,3,4] (s (.block 1 (q [f 29 0 1,l 30 1 29,m 31 4,u 32 19 30 31,g 33 19 32,a 5 60 Z6,r 19 5 33] (k [1,3,4,5] (s (q [m 6 (i 0)] (k [1,3,4,5,6] (.block 2 (.loop (s (q [m 34 6,b 35 .lss 34 (i 3)] (h 35 .skip (.exit 2))) (k [1,3,4,5,6] (s (.block 3 (.draw [0,0,0,6,14,30,0,0,192,448,960,0,0,6144,14336,30720,65534,131071,262143] [[3],[6],[5],[40,39],[41],[42],[6],[5],[45,44],[46],[47],[6],[5],[50,49],[51],[52],[43,48,53],[38,54],[55]] [m 38 3,m 39 6,f 40 0 5,o 41 (.ba 3 3 40 39),f 42 0 41,l 43 1 42,m 44 6,f 45 0 5,o 46 (.ba 3 3 45 44),f 47 1 46,l 48 1 47,m 49 6,f 50 0 5,o 51 (.ba 3 3 50 49),f 52 2 51,l 53 1 52,o 54 (.aq 10 1 3 [j 0] [(0,43),(1,48),(2,53)]),c 55 510 [38,54],m 3 55])) (k [1,3,4,5,6] (p [m 36 6,b 37 .add 36 (i 1),m 6 37]))))))))) (k [1,3,4,5] (s (q [m 7 (i 0)] (k [1,3,4,5,7] (.block 4 (.loop (s (q [m 56 7,b 57 .lss 56 (i 3)] (h 57 .skip (.exit 4))) (k [1,3,4,5,7] (s (.block 5 (.draw [0,0,0,6,14,30,0,0,192,448,960,2046,4095,8191] [[3],[7],[5],[62,61],[63],[64],[7],[5],[67,66],[68],[69],[65,70],[60,71],[72]] [m 60 3,m 61 7,f 62 9 5,o 63 (.ba 3 2 62 61),o 64 (.ba 2 1 63 (i 0)),l 65 1 64,m 66 7,f 67 9 5,o 68 (.ba 3 2 67 66),o 69 (.ba 2 1 68 (i 1)),l 70 1 69,o 71 (.aq 10 1 2 [j 0] [(0,65),(1,70)]),c 72 510 [60,71],m 3 72])) (k [1,3,4,5,7] (p [m 58 7,b 59 .add 58 (i 1),m 7 59]))))))))) (k [1,3,4,5] (p [m 73 3,f 74 15 5,l 75 1 74,f 76 16 5,l 77 1 76,f 78 17 5,l 79 1 78,f 80 18 5,l 81 1 80,o 82 (.conv .i64 81),o 83 (.aq 10 1 4 [j 0] [(0,75),(1,77),(2,79),(3,82)]),c 84 510 [73,83],m 3 84])))))))) (k [1,3,4] (p [m 27 4,b 28 .add 27 (i 1),m 4 28]))))))))) (y [1,3] [m 85 3,f 86 1 1,l 87 1 86,n 88 87,o 89 (.aq 10 1 1 [j 0] [(0,88)]),c 90 510 [85,89],m 3 90] (k [1,3] (s (q [m 8 (i 0)] (k [1,3,8] (.block 6 (.loop (s (q [m 91 8,f 92 1 1,l 93 1 92,n 94 93,b 95 .lss 91 94] (k [1,3,8,95] (h 95 .skip (.exit 6)))) (k [1,3,8] (s (.block 7 (q [f 98 1 1,l 99 1 98,m 100 8,u 101 5 99 100,g 102 5 101,a 9 40 [j 0,j 0,j 0,j 0,j 0],r 5 9 102] (k [1,3,8,9] (p [m 103 3,f 104 0 9,l 105 1 104,f 106 1 9,o 107 (.ba 3 1 106 (i 0)),l 108 1 107,f 109 1 9,o 110 (.ba 3 1 109 (i 1)),l 111 1 110,f 112 1 9,o 113 (.ba 3 1 112 (i 2)),l 114 1 113,f 115 4 9,l 116 1 115,o 117 (.aq 10 1 5 [j 0] [(0,105),(1,108),(2,111),(3,114),(4,116)]),c 118 510 [103,117],m 3 118])))) (k [1,3,8] (p [m 96 8,b 97 .add 96 (i 1),m 8 97]))))))))) (y [1,3] [m 119 3,f 120 2 1,l 121 1 120,n 122 121,o 123 (.aq 10 1 1 [j 0] [(0,122)]),c 124 510 [119,123],m 3 124] (k [1,3] (s (q [m 10 (i 0)] (k [1,3,10] (.block 8 (.loop (s (q [m 125 10,f 126 2 1,l 127 1 126,n 128 127,b 129 .lss 125 128] (k [1,3,10,129] (h 129 .skip (.exit 8)))) (k [1,3,10] (s (.block 9 (q [f 132 2 1,l 133 1 132,m 134 10,u 135 2 133 134,g 136 2 135,a 11 12 [j 0,.ai],r 2 11 136] (y [1,3,10,11] [m 137 3,f 138 0 11,l 139 1 138,f 140 1 11,l 141 1 140,n 142 141,o 143 (.aq 10 1 2 [j 0] [(0,139),(1,142)]),c 144 510 [137,143],m 3 144] (y [1,3,10,11] [m 12 (i 0)] (k [1,3,10,11,12] (.block 10 (.loop (s (q [m 145 12,f 146 1 11,l 147 1 146,n 148 147,b 149 .lss 145 148] (k [1,3,10,11,12,149] (h 149 .skip (.exit 10)))) (k [1,3,10,11,12] (s (.block 11 (.draw [0,0,2,0,14,30,62,0,128,0,896,1920,3968,0,8192,0,57344,122880,253952,524286,1048575,2097151] [[3],[11],[153],[12],[154,155],[156],[157],[11],[159],[12],[160,161],[162],[163],[11],[165],[12],[166,167],[168],[169],[158,164,170],[152,171],[172]] [m 152 3,f 153 1 11,l 154 1 153,m 155 12,u 156 3 154 155,o 157 (.ba 3 1 156 (i 0)),l 158 1 157,f 159 1 11,l 160 1 159,m 161 12,u 162 3 160 161,o 163 (.ba 3 1 162 (i 1)),l 164 1 163,f 165 1 11,l 166 1 165,m 167 12,u 168 3 166 167,o 169 (.ba 3 1 168 (i 2)),l 170 1 169,o 171 (.aq 10 1 3 [j 0] [(0,158),(1,164),(2,170)]),c 172 510 [152,171],m 3 172])) (k [1,3,10,11,12] (p [m 150 12,b 151 .add 150 (i 1),m 12 151])))))))))))) (k [1,3,10] (p [m 130 10,b 131 .add 130 (i 1),m 10 131]))))))))) (y [1,3] [m 173 3,f 174 3 1,l 175 1 174,n 176 175,o 177 (.aq 10 1 1 [j 0] [(0,176)]),c 178 510 [173,177],m 3 178] (k [1,3] (s (q [m 13 (i 0)] (k [1,3,13] (.block 12 (.loop (s (q [m 179 13,f 180 3 1,l 181 1 180,n 182 181,b 183 .lss 179 182] (k [1,3,13,183] (h 183 .skip (.exit 12)))) (k [1,3,13] (s (.block 13 (q [f 186 3 1,l 187 1 186,m 188 13,u 189 13 187 188,g 190 13 189,a 14 41 Z9,r 13 14 190] (k [1,3,13,14] (p [m 191 3,f 192 0 14,l 193 1 192,f 194 1 14,o 195 (.ba 3 1 194 (i 0)),l 196 1 195,f 197 1 14,o 198 (.ba 3 1 197 (i 1)),l 199 1 198,f 200 1 14,o 201 (.ba 3 1 200 (i 2)),l 202 1 201,f 203 4 14,f 204 0 203,l 205 1 204,f 206 4 14,f 207 1 206,l 208 1 207,f 209 4 14,f 210 2 209,l 211 1 210,f 212 7 14,f 213 0 212,l 214 1 213,f 215 7 14,f 216 1 215,l 217 1 216,f 218 7 14,f 219 2 218,l 220 1 219,f 221 10 14,f 222 0 221,l 223 1 222,f 224 10 14,f 225 1 224,l 226 1 225,f 227 10 14,f 228 2 227,l 229 1 228,o 230 (.aq 10 1 13 [j 0] [(0,193),(1,196),(2,199),(3,202),(4,205),(5,208),(6,211),(7,214),(8,217),(9,220),(10,223),(11,226),(12,229)]),c 231 510 [191,230],m 3 231])))) (k [1,3,13] (p [m 184 13,b 185 .add 184 (i 1),m 13 185]))))))))) (y [1,3] [m 232 3,f 233 4 1,l 234 1 233,n 235 234,o 236 (.aq 10 1 1 [j 0] [(0,235)]),c 237 510 [232,236],m 3 237] (k [1,3] (s (q [m 15 (i 0)] (k [1,3,15] (.block 14 (.loop (s (q [m 238 15,f 239 4 1,l 240 1 239,n 241 240,b 242 .lss 238 241] (k [1,3,15,242] (h 242 .skip (.exit 14)))) (k [1,3,15] (s (.block 15 (p [m 245 3,f 246 4 1,l 247 1 246,m 248 15,u 249 1 247 248,l 250 1 249,o 251 (.conv .i64 250),o 252 (.aq 10 1 1 [j 0] [(0,251)]),c 253 510 [245,252],m 3 253])) (k [1,3,15] (p [m 243 15,b 244 .add 243 (i 1),m 15 244]))))))))) (y [1,3] [m 254 3,f 255 5 1,l 256 1 255,n 257 256,o 258 (.aq 10 1 1 [j 0] [(0,257)]),c 259 510 [254,258],m 3 259] (k [1,3] (s (q [m 16 (i 0)] (k [1,3,16] (.block 16 (.loop (s (q [m 260 16,f 261 5 1,l 262 1 261,n 263 262,b 264 .lss 260 263] (k [1,3,16,264] (h 264 .skip (.exit 16)))) (k [1,3,16] (s (.block 17 (p [m 267 3,f 268 5 1,l 269 1 268,m 270 16,u 271 1 269 270,l 272 1 271,o 273 (.conv .i64 272),o 274 (.aq 10 1 1 [j 0] [(0,273)]),c 275 510 [267,274],m 3 275])) (k [1,3,16] (p [m 265 16,b 266 .add 265 (i 1),m 16 266]))))))))) (y [1,3] [m 276 3,f 277 6 1,l 278 1 277,o 279 (.conv .i64 278),f 280 7 1,l 281 1 280,o 282 (.conv .i64 281),f 283 8 1,l 284 1 283,o 285 (.conv .i64 284),o 286 (.aq 10 1 3 [j 0] [(0,279),(1,282),(2,285)]),c 287 510 [276,286],m 2 287] (k [2] .ret))))))))))))))))))))⟩
structure Ra(R:Env):Prop where
 Rb:R.Fn 500 XE
 jK:LL R
def XF:br:=Nf ⟨2,[4],q [m 4 (.k .ai)] (q [m 5 (.k .ai)] (s (q [m 6 (i 0)] (k [0,1,5,6] (.block 0 (.loop (s (q [m 7 6,m 8 0,n 9 8,b 10 .lss 7 9] (h 10 .skip (.exit 0))) (k [0,1,5,6] (s (.block 1 (q [m 13 0,m 14 6,u 15 40 13 14,f 16 1 15,f 17 3 16,g 18 8 17,m 19 1,c 20 514 [18,19],b 21 .neq 20 (.k (.int .u8 0))] (k [0,1,5,6,21] (h 21 (p [m 22 5,m 23 0,m 24 6,u 25 40 23 24,g 26 40 25,o 27 (.aq 45 40 1 Z2 [(0,26)]),o 28 (.app 45 40 22 27),m 5 28]) .skip)))) (k [0,1,5,6] (p [m 11 6,b 12 .add 11 (i 1),m 6 12]))))))))) (k [5] (t [m 29 5,m 4 29]))))⟩
structure Rc(R:Env):Prop where
 XG:R.Fn 511 XF
 vi:LH R
def XH:br:=Nf ⟨3,[6],q [m 6 (i 0)] (q [m 7 (i 0)] (s (q [m 8 (i 0)] (k [0,1,2,7,8] (.block 0 (.loop (s (q [m 9 8,m 10 0,n 11 10,b 12 .lss 9 11] (h 12 .skip (.exit 0))) (k [0,1,2,7,8] (s (.block 1 (q [m 15 2,b 16 .eql 15 (i 0),m 17 16,⟨some 18,some (17,false),.mv 0⟩,⟨some 19,some (17,false),.mv 8⟩,⟨some 20,some (17,false),.mi 40 18 19⟩,⟨some 21,some (17,false),.aF 16 20⟩,⟨some 22,some (17,false),.aF 0 21⟩,⟨some 23,some (17,false),.load false 1 22⟩,⟨some 24,some (17,false),.mv 2⟩,⟨some 25,some (17,false),.bin .eql 23 24⟩,w 26 17 (.k (.bool true)) 25] (k [0,1,2,7,8,26] (h 26 (s (q [m 27 0,m 28 8,u 29 40 27 28,f 30 0 29,l 31 1 30,m 32 1,b 33 .eql 31 32] (k [0,1,2,7,8,33] (h 33 (t [m 34 7,m 6 34]) .skip))) (k [0,1,2,7,8] (p [m 35 7,b 36 .add 35 (i 1),m 7 36]))) .skip)))) (k [0,1,2,7,8] (p [m 13 8,b 14 .add 13 (i 1),m 8 14]))))))))) (k [] (t [m 6 (i (-1))]))))⟩
structure Re(R:Env):Prop where
 LM:R.Fn 513 XH
def XI:br:=Nf ⟨2,[.cell 4 true 9,5],q [a 4 59 Z7,m 5 (i 0)] (s (q [m 20 1,b 21 .lss 20 (i 0),m 22 21,⟨some 23,some (22,false),.mv 1⟩,⟨some 24,some (22,false),.bin .gtr 23 (i 7)⟩,w 25 22 (.k (.bool true)) 24] (k [0,1,4,25] (h 25 (t [o 26 (.build Z7 []),r 9 4 26,m 5 (i 13)]) .skip))) (y [0,1,4] [m 27 0,o 28 (.aL 27),f 29 0 28,l 30 1 29,m 31 1,c 32 511 [30,31],m 6 32] (y [0,1,4,6] [o 33 (.build Z7 [(8,1,.k (.int .u32 4294967295))]),a 7 59 Z7,r 9 7 33] (s (q [m 8 (i 0)] (k [0,1,4,6,7,8] (.block 0 (.loop (s (q [m 34 8,m 35 6,n 36 35,b 37 .lss 34 36] (h 37 .skip (.exit 0))) (k [0,1,4,6,7,8] (s (.block 1 (q [m 40 6,m 41 8,u 42 40 40 41,f 43 1 42,g 44 15 43,a 9 2 Z3,r 15 9 44] (y [0,1,4,6,7,8,9] [f 45 4 7,l 46 1 45,f 47 0 9,l 48 1 47,o 49 (.aq 6 1 1 [.int .u64 0] [(0,48)]),o 50 (.app 6 1 46 49),f 51 4 7,r 1 51 50] (y [0,1,4,6,7,8,9] [f 52 5 7,l 53 1 52,f 54 2 9,l 55 1 54,o 56 (.aq 0 1 1 [.int .u32 0] [(0,55)]),o 57 (.app 0 1 53 56),f 58 5 7,r 1 58 57] (y [0,1,4,6,7,8,9] [f 59 6 7,l 60 1 59,f 61 2 9,l 62 1 61,c 63 512 [60,62],f 64 6 7,r 1 64 63] (k [0,1,4,6,7,8,9] (s (q [f 65 11 9,l 66 1 65,f 67 7 7,l 68 1 67,b 69 .gtr 66 68] (k [0,1,4,6,7,8,9,69] (h 69 (p [f 70 11 9,l 71 1 70,f 72 7 7,r 1 72 71]) .skip))) (k [0,1,4,6,7,8,9] (s (q [f 73 12 9,l 74 1 73,f 75 8 7,l 76 1 75,b 77 .lss 74 76] (k [0,1,4,6,7,8,9,77] (h 77 (p [f 78 12 9,l 79 1 78,f 80 8 7,r 1 80 79]) .skip))) (y [0,1,4,6,7,8] [m 81 6,m 82 8,u 83 40 81 82,f 84 16 83,f 85 0 84,l 86 1 85] (k [0,1,4,6,7,8,86] (.block 2 (q [b 88 .eql 86 (i 2),m 87 88] (h 87 (.draw [0,1,0,0,12,28,60,124,252,511,1023,2047] [[7],[89],[6],[8],[91,92],[93],[94],[95],[96],[90,97],[7],[99,98]] [f 89 2 7,l 90 1 89,m 91 6,m 92 8,u 93 40 91 92,f 94 16 93,f 95 4 94,g 96 2 95,o 97 (.aq 12 2 1 [j 0,.ai] [(0,96)]),o 98 (.app 12 2 90 97),f 99 2 7,r 1 99 98]) (q [b 101 .eql 86 (i 3),m 100 101] (h 100 (.draw [0,1,0,0,12,28,60,124,252,511,1023,2047] [[7],[102],[6],[8],[104,105],[106],[107],[108],[109],[103,110],[7],[112,111]] [f 102 1 7,l 103 1 102,m 104 6,m 105 8,u 106 40 104 105,f 107 16 106,f 108 6 107,g 109 5 108,o 110 (.aq 40 5 1 [j 0,j 0,j 0,j 0,j 0] [(0,109)]),o 111 (.app 40 5 103 110),f 112 1 7,r 1 112 111]) (q [b 114 .eql 86 (i 4),m 113 114] (h 113 (.draw [0,1,0,0,12,28,60,124,252,511,1023,2047] [[7],[115],[6],[8],[117,118],[119],[120],[121],[122],[116,123],[7],[125,124]] [f 115 3 7,l 116 1 115,m 117 6,m 118 8,u 119 40 117 118,f 120 16 119,f 121 11 120,g 122 13 121,o 123 (.aq 41 13 1 Z9 [(0,122)]),o 124 (.app 41 13 116 123),f 125 3 7,r 1 125 124]) .skip)))))))))))))))))) (k [0,1,4,6,7,8] (p [m 38 8,b 39 .add 38 (i 1),m 8 39]))))))))) (k [0,1,4,6,7] (s (q [m 10 (i 0)] (k [0,1,4,6,7,10] (.block 3 (.loop (s (q [m 126 10,m 127 0,o 128 (.aL 127),f 129 1 128,l 130 1 129,n 131 130,b 132 .lss 126 131] (k [0,1,4,6,7,10,132] (h 132 .skip (.exit 3)))) (k [0,1,4,6,7,10] (s (.block 4 (q [m 135 0,o 136 (.aL 135),f 137 1 136,l 138 1 137,m 139 10,u 140 16 138 139,g 141 16 140,a 11 44 Z8,r 16 11 141] (y [0,1,4,6,7,10,11] [m 142 6,f 143 0 11,l 144 1 143,c 145 513 [142,144,i 0],m 12 145] (y [0,1,4,6,7,10,11,12] [m 146 6,f 147 1 11,l 148 1 147,c 149 513 [146,148,i 3],m 13 149] (y [0,1,4,6,7,10,11,12,13] [m 150 6,f 151 2 11,l 152 1 151,c 153 513 [150,152,i 2],m 14 153] (k [0,1,4,6,7,10,11,12,13,14] (s (q [m 154 12,b 155 .lss 154 (i 0),m 156 155,⟨some 157,some (156,false),.mv 13⟩,⟨some 158,some (156,false),.bin .lss 157 (i 0)⟩,w 159 156 (.k (.bool true)) 158,m 160 159,⟨some 161,some (160,false),.mv 14⟩,⟨some 162,some (160,false),.bin .lss 161 (i 0)⟩,⟨some 163,some (160,false),.mv 162⟩,⟨some 164,some (163,true),.aF 2 11⟩,⟨some 165,some (163,true),.load false 1 164⟩,⟨some 166,some (163,true),.bin .neq 165 (i 0)⟩,⟨some 167,some (160,false),.pick 163 166 (.k (.bool false))⟩,w 168 160 (.k (.bool true)) 167] (k [0,1,4,6,7,10,11,12,13,14,168] (h 168 (.exit 4) .skip))) (y [0,1,4,6,7,10,11,12,13,14] [m 169 6,m 170 12,u 171 40 169 170,f 172 16 171,f 173 1 172,g 174 3 173,a 15 25 [.ai,.ai,.ai],r 3 15 174] (y [0,1,4,6,7,10,11,12,13,14,15] [m 16 (i 0)] (k [0,1,4,6,7,10,11,12,13,14,15,16] (.block 5 (.loop (s (q [m 175 16,f 176 2 15,l 177 1 176,n 178 177,b 179 .lss 175 178] (k [0,1,4,6,7,10,11,12,13,14,15,16,179] (h 179 .skip (.exit 5)))) (k [0,1,4,6,7,10,11,12,13,14,15,16] (s (.block 6 (q [m 182 13,m 183 14,m 184 12,m 185 6,m 186 12,u 187 40 185 186,f 188 1 187,f 189 3 188,g 190 8 189,m 191 1,c 192 514 [190,191],o 193 (.build Z6 [(15,1,182),(16,1,183),(17,1,184),(18,1,192)]),a 17 60 Z6,r 19 17 193] (k [0,1,4,6,7,10,11,12,13,14,15,16,17] (s (q [m 18 (i 0)] (k [0,1,4,6,7,10,11,12,13,14,15,16,17,18] (.block 7 (.loop (s (q [m 194 18,b 195 .lss 194 (i 3)] (h 195 .skip (.exit 7))) (k [0,1,4,6,7,10,11,12,13,14,15,16,17,18] (s (.block 8 (q [f 198 2 15,l 199 1 198,m 200 16,m 201 18,u 202 3 199 200,o 203 (.ba 3 1 202 201),l 204 1 203,m 19 204] (k [0,1,4,6,7,10,11,12,13,14,15,16,17,18,19] (s (.draw [0,0,2,0,8,0,56,120,254,510,1022,1022,0,6143,14335] [[18],[11],[207],[15],[209],[19],[210,211],[212],[208,213],[214],[205],[205],[17],[217,206],[218,215]] [m 206 18,f 207 4 11,g 208 12 207,f 209 0 15,l 210 1 209,m 211 19,u 212 3 210 211,g 213 3 212,c 214 242 [208,213],m 205 214,e 215 205 0,e 216 205 1,f 217 0 17,o 218 (.ba 3 3 217 206),r 3 218 215]) (k [0,1,4,6,7,10,11,12,13,14,15,16,17,18,19] (p [m 219 18,f 220 1 15,l 221 1 220,m 222 19,u 223 2 221 222,g 224 2 223,f 225 9 17,o 226 (.ba 3 2 225 219),r 2 226 224])))))) (k [0,1,4,6,7,10,11,12,13,14,15,16,17,18] (p [m 196 18,b 197 .add 196 (i 1),m 18 197]))))))))) (k [0,1,4,6,7,10,11,12,13,14,15,16,17] (p [f 227 0 7,l 228 1 227,g 229 19 17,o 230 (.aq 60 19 1 Z6 [(0,229)]),o 231 (.app 60 19 228 230),f 232 0 7,r 1 232 231])))))) (k [0,1,4,6,7,10,11,12,13,14,15,16] (p [m 180 16,b 181 .add 180 (i 1),m 16 181]))))))))))))))))) (k [0,1,4,6,7,10] (p [m 133 10,b 134 .add 133 (i 1),m 10 134]))))))))) (k [4,7] (t [g 233 9 7,r 9 4 233,m 5 (i 0)]))))))))⟩
structure LN(R:Env):Prop where
 XJ:R.Fn 502 XI
 n242:Ly R
 LO:Rc R
 LP:Q6 R
 zR:Re R
 vi:LH R
def XK:br:=Nf ⟨2,[4],q [x 2 59 0,m 4 (i 0)] (q [m 5 (i 0),m 6 (i 0)] (s (q [m 7 1] (.block 0 (q [b 9 .eql 7 (i 0),m 8 9] (h 8 (p [m 5 (i 16),m 6 (i 4)]) (q [b 11 .eql 7 (i 1),m 10 11] (h 10 (p [m 5 (i 64),m 6 (i 4)]) (q [b 13 .eql 7 (i 2),m 12 13] (h 12 (p [m 5 (i 256),m 6 (i 8)]) .skip)))))))) (k [2,5,6] (s (q [f 14 0 2,l 15 1 14,n 16 15,m 17 5,b 18 .gtr 16 17,m 19 18,⟨some 20,some (19,false),.aF 3 2⟩,⟨some 21,some (19,false),.load false 1 20⟩,⟨some 22,some (19,false),.fw 21⟩,⟨some 23,some (19,false),.mv 6⟩,⟨some 24,some (19,false),.bin .gtr 22 23⟩,w 25 19 (.k (.bool true)) 24] (k [25] (h 25 (t [m 4 (i 15)]) .skip))) (k [] (t [m 4 (i 0)]))))))⟩
structure Rf(R:Env):Prop where
 Rg:R.Fn 503 XK
end Go.UM
namespace Go.UM
open Go.AM
open Z
def XL:br:=Nf ⟨1,[2,3],q [m 2 (.k .bM),m 3 (.k .bM)] (q [c 8 345 [],o 9 (.build [.ai,.ai] []),x 10 56 9,m 4 8,m 5 10] (k [0,4,5] (s (q [m 6 (i 0)] (k [0,4,5,6] (.block 0 (.loop (s (q [m 11 6,m 12 0,n 13 12,b 14 .lss 11 13,m 15 14,⟨some 16,some (15,true),.mv 6⟩,⟨some 17,some (15,true),.bin .lss 16 (i 30)⟩,w 18 15 17 (.k (.bool false))] (k [0,4,5,6,18] (h 18 .skip (.exit 0)))) (k [0,4,5,6] (s (.block 1 (q [m 21 0,m 22 6,u 23 57 21 22,g 24 57 23,c 25 420 [24],a 7 55 Z1,r 57 7 25] (y [0,4,5,6,7] [m 26 4,g 27 57 7,c 28 421 [26,27]] (p [m 29 5,g 30 57 7,c 31 432 [29,30]])))) (k [0,4,5,6] (p [m 19 6,b 20 .add 19 (i 1),m 6 20]))))))))) (k [4,5] (t [m 32 4,m 33 5,m 2 32,m 3 33])))))⟩
structure Rh(R:Env):Prop where
 ab':R.Fn 490 XL
 n345:Le R
 LQ:QX R
 Rk:QY R
 Rl:Q1 R
def XM:br:=Nf ⟨0,[0],q [m 0 (.k (.bool false))] (q [c 5 345 [],m 1 5] (s (q [m 6 1,o 7 (.SA false 6)] (h 7 (t [m 0 (.k (.bool false))]) .skip)) (y [1] [o 8 (.build [j 0,j 0,j 0] []),o 9 (.build [j 0,j 0,j 0] [(0,1,i 5)]),o 10 (.build [j 0,j 0,j 0] [(1,1,i 7)]),o 11 (.aq 26 3 3 [j 0,j 0,j 0] [(0,8),(1,9),(2,10)]),o 12 (.mks 18 2 [j 0,j 0] (i 3) (i 3)),o 13 (.build [j 0,j 0,j 0] [(0,1,i 0),(1,1,i 1),(2,1,i 2)]),o 14 (.build [j 0,j 0,j 0] [(0,1,i 2),(1,1,i 1),(2,1,i 0)]),o 15 (.aq 13 3 2 [j 0,j 0,j 0] [(0,13),(1,14)]),o 16 (.build [.ai,.ai,.ai] [(0,1,11),(1,1,12),(2,1,15)]),o 17 (.build Z4 [(0,1,i 1),(1,3,16)]),a 2 39 Z4,r 24 2 17] (y [1,2] [m 18 1,o 19 (.build Z5 [(0,1,.k (.int .u8 1))]),o 20 (.build Z3 [(1,1,i 1),(3,8,19)]),g 21 24 2,c 22 346 [18,i 1,20,21]] (y [1] [m 23 1,o 24 (.build Z5 [(0,1,.k (.int .u8 1))]),o 25 (.build Z3 [(1,1,i 3),(3,8,24)]),o 26 (.build Z4 [(0,1,i 3)]),c 27 346 [23,i 2,25,26]] (y [1] [m 28 1,c 29 221 [],o 30 (.build Z8 [(0,1,i 1),(1,1,i 2),(4,12,29)]),c 31 347 [28,30]] (q [m 33 1,c 34 491 [33,i 0],m 32 34,e 35 32 0,e 36 32 1,a 3 59 Z7,r 9 3 35,m 4 36] (y [3,4] [m 37 4,b 38 .eql 37 (i 0),m 39 38,⟨some 40,some (39,true),.aF 0 3⟩,⟨some 41,some (39,true),.load false 1 40⟩,⟨some 42,some (39,true),.fw 41⟩,⟨some 43,some (39,true),.bin .eql 42 (i 2)⟩,w 44 39 43 (.k (.bool false)),m 45 44,⟨some 46,some (45,true),.aF 1 3⟩,⟨some 47,some (45,true),.load false 1 46⟩,⟨some 48,some (45,true),.fw 47⟩,⟨some 49,some (45,true),.bin .eql 48 (i 1)⟩,w 50 45 49 (.k (.bool false)),m 51 50,⟨some 52,some (51,true),.aF 0 3⟩,⟨some 53,some (51,true),.load false 1 52⟩,⟨some 54,some (51,true),.mi 19 53 (i 0)⟩,⟨some 55,some (51,true),.aF 16 54⟩,⟨some 56,some (51,true),.load false 1 55⟩,⟨some 57,some (51,true),.bin .eql 56 (i (-1))⟩,w 58 51 57 (.k (.bool false)),m 0 58] (k [0] .ret)))))))))⟩
structure Ro(R:Env):Prop where
 Rp:R.Fn 493 XM
 n221:PB R
 n345:Le R
 n346:Lk R
 E9:Ll R
 tJ:BU R
def XN:br:=Nf ⟨3,[6],q [m 6 (.k (.bool false))] (q [m 19 0,c 20 490 [19],m 18 20,e 21 18 0,e 22 18 1,m 7 21,m 8 22] (y [1,2,7,8] [m 24 7,m 25 1,c 26 491 [24,25],m 23 26,e 27 23 0,e 28 23 1,a 9 59 Z7,r 9 9 27,m 10 28] (y [1,2,8,9,10] [m 30 8,m 31 1,c 32 502 [30,31],m 29 32,e 33 29 0,e 34 29 1,a 11 59 Z7,r 9 11 33,m 12 34] (y [2,9,10,11,12] [a 13 47 [.cj,.cj]] (q [c 36 491 [13,i 0],m 35 36,e 37 35 0,e 38 35 1,a 14 59 Z7,r 9 14 37,m 15 38] (y [2,9,10,11,12,15] [c 40 491 [.k .bM,i 0],m 39 40,e 41 39 0,e 42 39 1,a 16 59 Z7,r 9 16 41,m 17 42] (k [2,9,10,11,12,15,17] (s (.draw [0,0,3,7,15,15,63,127,255,511,511,2047,511,511,16383,32767,65535,131071,262143,524287,262143,2097151,4194303,8388607,16777215,33554431,67108863,134217727,268435455,536870911,1073741823,2147483647,4294967295,8589934591,17179869183,34359738367] [[9],[11],[43,44],[45],[10],[12],[47,48],[46,49],[50],[9],[2],[52,53],[11],[2],[55,56],[54,57],[51,58],[59],[9],[61],[11],[63],[62,64],[60,65],[66],[15],[68],[67,69],[70],[17],[72],[71,73],[74],[],[75,76],[77]] [g 43 9 9,g 44 9 11,c 45 492 [43,44],m 46 45,⟨some 47,some (46,true),.mv 10⟩,⟨some 48,some (46,true),.mv 12⟩,⟨some 49,some (46,true),.bin .eql 47 48⟩,w 50 46 49 (.k (.bool false)),m 51 50,⟨some 52,some (51,true),.load true 9 9⟩,⟨some 53,some (51,true),.mv 2⟩,⟨some 54,some (51,true),.call 496 [52,53]⟩,⟨some 55,some (51,true),.load true 9 11⟩,⟨some 56,some (51,true),.mv 2⟩,⟨some 57,some (51,true),.call 503 [55,56]⟩,⟨some 58,some (51,true),.bin .eql 54 57⟩,w 59 51 58 (.k (.bool false)),m 60 59,⟨some 61,some (60,true),.load true 9 9⟩,⟨some 62,some (60,true),.call 499 [61]⟩,⟨some 63,some (60,true),.load true 9 11⟩,⟨some 64,some (60,true),.call 500 [63]⟩,⟨some 65,some (60,true),.call 47 [62,64]⟩,w 66 60 65 (.k (.bool false)),m 67 66,⟨some 68,some (67,true),.mv 15⟩,⟨some 69,some (67,true),.bin .eql 68 (i 1)⟩,w 70 67 69 (.k (.bool false)),m 71 70,⟨some 72,some (71,true),.mv 17⟩,⟨some 73,some (71,true),.bin .eql 72 (i 1)⟩,w 74 71 73 (.k (.bool false)),m 75 74,⟨some 76,some (75,true),.call 493 []⟩,w 77 75 76 (.k (.bool false)),m 6 77]) (k [6] .ret)))))))))⟩
structure XO(R:Env):Prop where
 aca:R.Fn 501 XN
 n47:N47 R
 Rq:Rh R
 tJ:BU R
 Fa:Q8 R
 Fb:Ro R
 Fc:Qq R
 Fe:Qt R
 Ff:Ra R
 LR:LN R
 Fg:Rf R
end Go.UM
namespace Go.UM
open Go.AM
def u8(n:Int):UInt8:=UInt8.ofNat (n % 256).toNat
theorem C7(n:Int):wr .u8 n=((u8 n).toNat:Int):=by
 have h1:0<=n % 256:=Int.emod_nonneg _ (by decide)
 have h2:n % 256<256:=Int.emod_lt_of_pos _ (by decide)
 simp only[wr,IntKind.wrap,IntKind.bits,IntKind.signed,u8]
 simp
 omega
theorem BX(n:Int):u8 (n % 256)=u8 n:=by unfold u8; rw[Int.emod_emod_of_dvd n (Int.dvd_refl 256)]
theorem LS{n:Int}(h:0<=n):u8 (n.tmod 256)=u8 n:=by rw[Int.tmod_eq_emod_of_nonneg h,BX]
theorem u8_in{n:Int}(h:0<=n/\n<=255):((u8 n).toNat:Int)=n:=by rw[<-C7,C6 (k:= .u8) h]
def aT(l:List UInt8):List (List AV):=l.map fun c=>[.int .u8 c.toNat]
def bp(k:IntKind)(l:List Int):List (List AV):=l.map fun x=>[.int k x]
@[simp] theorem XP:aT []=[]:=rfl
@[simp] theorem gj(l:List UInt8):(aT l).length=l.length:=by simp[aT]
@[simp] theorem NM(a b:List UInt8):aT (a++b)=aT a++aT b:=by simp[aT]
@[simp] theorem XQ(n:Int):[[AV.int .u8 (wr .u8 n)]]=aT [u8 n]:=by simp[aT,C7]
@[simp] theorem XR(k:IntKind):bp k []=[]:=rfl
@[simp] theorem zS(k:IntKind)(l:List Int):(bp k l).length=l.length:=by simp[bp]
@[simp] theorem XS(l:List UInt8):ox (aT l):=by simp[aT]
@[simp] theorem XT(k:IntKind)(l:List Int):ox (bp k l):=by simp[bp]
@[simp] theorem XU(l:List UInt8):KJ (aT l):=by simp[aT]
instance {l:List UInt8}:iU (aT l) l.length:=⟨gj l⟩
instance {k:IntKind}{l:List Int}:iU (bp k l) l.length:=⟨zS k l⟩
theorem ao{α:Type}{l:List α}{k:Nat}{x:α}(h:l[k]? =some x):l.take (k+1)=l.take k++ [x]:=by
 rw[List.take_add_one,h]; rfl
theorem Rr{k:IntKind}{x y:Int}(hx:0<=x):fS k x y=x / 2 ^ (min y.toNat k.bits):=by
 unfold fS
 rw[Int.fdiv_eq_ediv_of_nonneg]
 exact Int.le_of_lt (Int.pow_pos (by decide))
theorem aS8{s:List UInt8}{K:List UInt8->Prop}(k:K s):Ts (aT s) K:=⟨⟨s,rfl,k⟩⟩
theorem zU{α:Type}(l:List α)(m:Int):l.take (min (l.length:Int) m).toNat=l.take m.toNat:=by
 by_cases h:(l.length:Int)<=m
 ·rw[show (min (l.length:Int) m).toNat=l.length by omega,List.take_of_length_le (Nat.le_refl _),List.take_of_length_le (by omega)]
 ·rw[show (min (l.length:Int) m).toNat=m.toNat by omega]
end Go.UM
namespace Go.UM
open Go.AM
theorem j0{n:Nat}{x:Int}(h0:0<=x)(h1:x<2 ^ n):(BitVec.ofInt n x).toNat=x.toNat:=by
 rw[BitVec.toNat_ofInt]
 congr 1
 apply Int.emod_eq_of_lt h0
 exact_mod_cast h1
theorem tK{x:Nat}(h:x<18446744073709551616):wr .u64 (x:Int)=x:=C6 (k:= .u64) ⟨by omega,by omega⟩
theorem BY{x y:Int}(hx:0<=x/\x<=18446744073709551615)(hy:0<=y/\y<=18446744073709551615):eX .or .u64 x y=((x.toNat||| y.toNat:Nat):Int):=by
 have e:eX .or .u64 x y=wr .u64 ((BitVec.ofInt 64 x||| BitVec.ofInt 64 y).toNat:Int):=rfl
 rw[e,BitVec.toNat_or,j0 hx.1 (by omega),j0 hy.1 (by omega)]
 apply tK
 exact Nat.or_lt_two_pow (n:=64) (by omega) (by omega)
theorem LU{x y:Int}(hx:0<=x/\x<=18446744073709551615)(hy:0<=y/\y<=18446744073709551615):eX .and .u64 x y=((x.toNat&&& y.toNat:Nat):Int):=by
 have e:eX .and .u64 x y=wr .u64 ((BitVec.ofInt 64 x&&& BitVec.ofInt 64 y).toNat:Int):=rfl
 rw[e,BitVec.toNat_and,j0 hx.1 (by omega),j0 hy.1 (by omega)]
 apply tK
 exact Nat.and_lt_two_pow (n:=64) _ (by omega)
def le:List UInt8->Nat
 |[]=>0
 |c::r=>c.toNat+256*le r
end Go.UM
namespace Go.UM
open Go.AM
structure T3 where
 (a b c:Int)
def z3:T3:=⟨0,0,0⟩
def t3(x:T3):List AV:=[.int .i64 x.a,.int .i64 x.b,.int .i64 x.c]
def bW(l:List T3):List (List AV):=l.map t3
@[simp] theorem XV:bW []=[]:=rfl
@[simp] theorem zV(l:List T3):(bW l).length=l.length:=by simp[bW]
@[simp] theorem XW(l:List T3):ox (bW l):=by simp[bW,t3]
theorem Fh(l:List T3)(k:Nat):(bW l).take k=bW (l.take k):=by simp[bW,List.map_take]
instance {l:List T3}:iU (bW l) l.length:=⟨zV l⟩
end Go.UM
namespace Go.UM
open Go.AM
set_option maxRecDepth 4000
abbrev fP(n:Int):Prop:=aR .i64 n
abbrev JS(n:Int):Prop:=aR .u64 n
theorem cH{n:Int}:fP n↔ -9223372036854775808<=n/\n<=9223372036854775807:=Iff.rfl
theorem rV{n:Int}:JS n↔0<=n/\n<=18446744073709551615:=Iff.rfl
theorem iP(n:Int):wr .u64 n=n % 18446744073709551616:=by
 simp only[wr,IntKind.wrap,IntKind.bits,IntKind.signed]; simp
theorem ez(n:Int):wr .i64 n=(n+9223372036854775808) % 18446744073709551616 - 9223372036854775808:=by
 simp only[wr,IntKind.wrap,IntKind.bits,IntKind.signed]; simp; omega
def j4(v:Int):Int:=if 9223372036854775807<v then 9223372036854775807 else if v< -9223372036854775808 then -9223372036854775808 else v
theorem tL(v:Int):fP (j4 v):=by
 rw[cH]; unfold j4; split
 ·omega
 ·split<;>omega
theorem xN{v:Int}(h:fP v):j4 v=v:=by
 rw[cH]at h; unfold j4; rw[if_neg (by omega),if_neg (by omega)]
def ii(a b:Int):Int:=j4 (a+b)
def pC(a b:Int):Int:=j4 (a*b / 4294967296)
def bQ(x:Int):Int:=if x<0 then -x else x
theorem iy{x:Int}(h:fP x):0<=bQ x/\bQ x<=9223372036854775808:=by
 rw[cH]at h; unfold bQ; split<;>omega
theorem xO(a b:Int):a*b=if (decide (a<0) != decide (b<0))=true then -(bQ a*bQ b)else bQ a*bQ b:=by
 unfold bQ
 by_cases ha:a<0<;>by_cases hb:b<0<;>simp[ha,hb,Int.neg_mul,Int.mul_neg]
theorem ij{x y B:Int}(hx:0<=x/\x<=B)(hy:0<=y/\y<=B):0<=x*y/\x*y<=B*B:=
 ⟨Int.mul_nonneg hx.1 hy.1,Int.mul_le_mul hx.2 hy.2 hy.1 (by omega)⟩
theorem C8{a b:Int}(ha:fP a)(hb:fP b): -85070591730234615865843651857942052864<=a*b/\a*b<=85070591730234615865843651857942052864:=by
 have h:=ij (iy ha) (iy hb)
 rw[xO]
 split<;>omega
def lP(v:Int):Int:=v / 18446744073709551616
def xP(v:Int):Int:=v % 18446744073709551616
abbrev LV(v:Int):Prop:= -85070591730234615865843651857942052864<=v/\v<=85070591730234615865843651857942052864
theorem xQ{v:Int}(h:LV v): -4611686018427387904<=lP v/\lP v<=4611686018427387904:=by unfold lP; omega
theorem qj(v:Int):0<=xP v/\xP v<=18446744073709551615:=by unfold xP; omega
theorem LW{x y:Int}(hx:JS x)(hy:JS y):
  (0<=x % 4294967296* (y % 4294967296)/\x % 4294967296* (y % 4294967296)<=18446744065119617025)/\
  (0<=x / 4294967296* (y % 4294967296)/\x / 4294967296* (y % 4294967296)<=18446744065119617025)/\
  (0<=x % 4294967296* (y / 4294967296)/\x % 4294967296* (y / 4294967296)<=18446744065119617025)/\
  (0<=x / 4294967296* (y / 4294967296)/\x / 4294967296* (y / 4294967296)<=18446744065119617025)/\
  x*y=x / 4294967296* (y / 4294967296)*18446744073709551616+ (x / 4294967296* (y % 4294967296)+x % 4294967296* (y / 4294967296))*4294967296+x % 4294967296* (y % 4294967296):=by
 rw[rV]at hx hy
 have a1:0<=x % 4294967296/\x % 4294967296<=4294967295:=by omega
 have a2:0<=x / 4294967296/\x / 4294967296<=4294967295:=by omega
 have b1:0<=y % 4294967296/\y % 4294967296<=4294967295:=by omega
 have b2:0<=y / 4294967296/\y / 4294967296<=4294967295:=by omega
 refine⟨ij a1 b1,ij a2 b1,ij a1 b2,ij a2 b2,?_⟩
 have ex:x=x / 4294967296*4294967296+x % 4294967296:=by omega
 have ey:y=y / 4294967296*4294967296+y % 4294967296:=by omega
 generalize x / 4294967296=p at*
 generalize x % 4294967296=q at*
 generalize y / 4294967296=r at*
 generalize y % 4294967296=s at*
 subst ex; subst ey
 simp only[Int.mul_add,Int.add_mul]
 have e1:p*4294967296* (r*4294967296)=p*r*18446744073709551616:=by
  rw[Int.mul_assoc p,Int.mul_left_comm 4294967296 r,<-Int.mul_assoc]; rfl
 have e2:p*4294967296*s=p*s*4294967296:=by rw[Int.mul_assoc,Int.mul_comm 4294967296 s,Int.mul_assoc]
 have e3:q* (r*4294967296)=q*r*4294967296:=by rw[Int.mul_assoc]
 rw[e1,e2,e3]
 omega
theorem zW{hi lo:Int}(hh:0<=hi/\hi<=4294967295)(hl:0<=lo/\lo<=4294967295):eX .or .u64 (hi*4294967296) lo=hi*4294967296+lo:=by
 rw[BY ⟨by omega,by omega⟩ ⟨by omega,by omega⟩]
 have e:(hi*4294967296).toNat=2 ^ 32*hi.toNat:=by omega
 rw[e,<-Nat.two_pow_add_eq_or_of_lt (i:=32) (b:=lo.toNat) (by omega)]
 omega
theorem pD{x:Int}(h:JS x):eX .and .u64 x 4294967295=x % 4294967296:=by
 rw[rV]at h
 rw[LU ⟨by omega,by omega⟩ ⟨by omega,by omega⟩]
 have e:((4294967295:Int).toNat)=2 ^ 32 - 1:=rfl
 rw[e,Nat.and_two_pow_sub_one_eq_mod]
 omega
theorem wC{x:Int}(k:IntKind)(hk:32<=k.bits):fS k x 32=x / 4294967296:=by
 unfold fS
 rw[show min (32:Int).toNat k.bits=32 by simp; omega]
 exact Int.fdiv_eq_ediv_of_nonneg _ (by decide)
theorem NN{x:Int}(k:IntKind)(hk:63<=k.bits):fS k x 63=x / 9223372036854775808:=by
 unfold fS
 rw[show min (63:Int).toNat k.bits=63 by simp; omega]
 exact Int.fdiv_eq_ediv_of_nonneg _ (by decide)
theorem XX{x:Int}(k:IntKind)(hk:31<=k.bits):fS k x 31=x / 2147483648:=by
 unfold fS
 rw[show min (31:Int).toNat k.bits=31 by simp; omega]
 exact Int.fdiv_eq_ediv_of_nonneg _ (by decide)
theorem H6{x:Int}:pV .u64 x 32=x*4294967296 % 18446744073709551616:=by
 unfold pV
 rw[show min (32:Int).toNat (IntKind.bits .u64)=32 by rfl]
 show wr .u64 _=_
 rw[iP]; rfl
end Go.UM
namespace Go.UM
open Go.AM
set_option maxRecDepth 4000
abbrev T3.I(t:T3):Prop:=fP t.a/\fP t.b/\fP t.c
def vj(x y:T3):T3:=⟨ii x.a y.a,ii x.b y.b,ii x.c y.c⟩
def vk(x y:T3):T3:=⟨pC x.a y.a,pC x.b y.b,pC x.c y.c⟩
def BZ:T3:=⟨4294967296,4294967296,4294967296⟩
def NO(x y:T3):Int:=ii (ii (pC x.a y.a) (pC x.b y.b)) (pC x.c y.c)
def nV(x:Int):Int:=if x<0 then j4 (-x)else x
def C9(v:T3):Int:=max (max (nV v.a) (nV v.b)) (nV v.c)
def fD(x:Int):Int:=(x+2147483648) / 4294967296
def SJ(p:T3):T3:=⟨j4 (p.a*4294967296),j4 (p.b*4294967296),j4 (p.c*4294967296)⟩
theorem fQ(x y:Int):fP (ii x y):=tL _
theorem j5(x y:Int):fP (pC x y):=tL _
theorem C'(x y:T3):(vj x y).I:=⟨fQ _ _,fQ _ _,fQ _ _⟩
theorem Da(x y:T3):(vk x y).I:=⟨j5 _ _,j5 _ _,j5 _ _⟩
theorem B0(x y:T3):fP (NO x y):=fQ _ _
theorem H7(p:T3):(SJ p).I:=⟨tL _,tL _,tL _⟩
theorem wD{x:Int}(h:fP x):ii 0 x=x:=by unfold ii; rw[Int.zero_add,xN h]
theorem H8{x:Int}(h:fP x):pC 4294967296 x=x:=by unfold pC; rw[Int.mul_ediv_cancel_left _ (by decide),xN h]
theorem XY{x:T3}(h:x.I):vj z3 x=x:=by simp only[vj,z3,wD h.1,wD h.2.1,wD h.2.2]
theorem XZ{x:T3}(h:x.I):vk BZ x=x:=by simp only[vk,BZ,H8 h.1,H8 h.2.1,H8 h.2.2]
theorem NP:z3.I:=⟨⟨by decide,by decide⟩,⟨by decide,by decide⟩,⟨by decide,by decide⟩⟩
theorem LX:BZ.I:=⟨⟨by decide,by decide⟩,⟨by decide,by decide⟩,⟨by decide,by decide⟩⟩
structure Af where
 (m0 m1 m2 m3 m4 m5 m6 m7 m8:Int)
 t:T3
def Af.row(a:Af):List AV:=[.int .i64 a.m0,.int .i64 a.m1,.int .i64 a.m2,.int .i64 a.m3,.int .i64 a.m4,.int .i64 a.m5,.int .i64 a.m6,.int .i64 a.m7,.int .i64 a.m8,.int .i64 a.t.a,.int .i64 a.t.b,.int .i64 a.t.c]
def Af.acb(a:Af):List AV:=[.int .i64 a.m0,.int .i64 a.m1,.int .i64 a.m2,.int .i64 a.m3,.int .i64 a.m4,.int .i64 a.m5,.int .i64 a.m6,.int .i64 a.m7,.int .i64 a.m8]
structure Af.I(a:Af):Prop where
 m0:fP a.m0
 m1:fP a.m1
 m2:fP a.m2
 m3:fP a.m3
 m4:fP a.m4
 m5:fP a.m5
 m6:fP a.m6
 m7:fP a.m7
 m8:fP a.m8
 t:a.t.I
def Af.rw(a:Af):Nat->T3
 |0=>⟨a.m0,a.m1,a.m2⟩|1=>⟨a.m3,a.m4,a.m5⟩|_=>⟨a.m6,a.m7,a.m8⟩
theorem Af.I.rw{a:Af}(h:a.I)(i:Nat):(a.rw i).I:=by
 unfold Af.rw; split
 ·exact⟨h.m0,h.m1,h.m2⟩
 ·exact⟨h.m3,h.m4,h.m5⟩
 ·exact⟨h.m6,h.m7,h.m8⟩
def H9:Af:=⟨4294967296,0,0,0,4294967296,0,0,0,4294967296,z3⟩
def wE(a:Af)(v:T3):T3:=⟨NO (a.rw 0) v,NO (a.rw 1) v,NO (a.rw 2) v⟩
def qk(a:Af)(v:T3):T3:=vj (wE a v) a.t
theorem Db(a:Af)(v:T3):(wE a v).I:=⟨B0 _ _,B0 _ _,B0 _ _⟩
theorem zX(a:Af)(v:T3):(qk a v).I:=C' _ _
theorem LY:H9.I:=by
 refine⟨?_,?_,?_,?_,?_,?_,?_,?_,?_,NP⟩<;>exact⟨by decide,by decide⟩
def cg(x:Int):Bool:=decide (1099511627776<x)||decide (x< -1099511627776)
def ms(a:Af):List Int:=[a.m0,a.m1,a.m2,a.m3,a.m4,a.m5,a.m6,a.m7,a.m8]
def vm(a:Af):Int:=if (ms a).any cg=true then 2 else if 562949953421312<C9 a.t then 2 else 0
def Fi(x:Int):Bool:=decide (65536<x)||decide (x< -65536)
def LZ(v:T3):T3:=⟨fD v.a,fD v.b,fD v.c⟩
def nW(v:T3):T3 × Int:=if (Fi (fD v.a)||Fi (fD v.b)||Fi (fD v.c))=true then (z3,8)else (LZ v,0)
def bK(a:Af)(p:T3):T3 × Int:=if vm a≠0 then (z3,vm a)else nW (qk a (SJ p))
end Go.UM
namespace Go.UM
open Go.AM
set_option maxRecDepth 4000
def H':Array Value->Sem Value:=fun args=>do
 let (x,y,b)<-Extern.MathBitsCarry.three "Sub64" args
 pure (Extern.MathBitsCarry.pair ((x+Extern.MathBitsCarry.m64 - y - b) % Extern.MathBitsCarry.m64) (if x<y+b then 1 else 0))
theorem Fj{P:Program}(x y b:Nat)(hb:b<=1)(w:World):(H' #[.int .u64 x,.int .u64 y,.int .u64 b]).run P w=
  .ok (.tuple #[.int .u64 (((x+18446744073709551616 - y - b) % 18446744073709551616:Nat):Int),.int .u64 ((if x<y+b then 1 else 0:Nat):Int)]) w:=by
 have:b=0\/ b=1:=by omega
 rcases this with rfl|rfl<;>rfl
theorem Fk{fn:Func}(hn:fn.name= "math/bits.Sub64")(ho:fn.origin= ""):(fn.name== "runtime.NumGoroutine")=false/\Extern.findNext fn=none/\Extern.find fn=some H':=by
 obtain⟨name,origin⟩:=fn
 simp only at hn ho
 subst hn; subst ho
 exact⟨by kernel_rfl,by kernel_rfl,by kernel_rfl⟩
theorem Dc{R:Env}(h:R.Xn 286 "math/bits.Sub64"){x y b:Int}(hx:aR .u64 x)(hy:aR .u64 y)(hb:0<=b/\b<=1):
  G9 R.P (R.ft 286) [.int .u64 x,.int .u64 y,.int .u64 b] (.aQ [.int .u64 ((x - y - b) % 18446744073709551616),.int .u64 (if x<y+b then 1 else 0)]):=by
 obtain⟨fn,hf,hn,ho,hbd⟩:=h.fn
 obtain⟨r1,r2,r3⟩:=Fk hn ho
 have hx:0<=x/\x<=18446744073709551615:=hx
 have hy:0<=y/\y<=18446744073709551615:=hy
 intro ρ L I N w vs hv
 obtain⟨hl,hr⟩:=hv
 obtain⟨v0,v1,v2,rfl⟩:∃v0 v1 v2,vs=[v0,v1,v2]:=by
  match vs,hl with
  |[a,b,c],_=>exact⟨a,b,c,rfl⟩
 have e0:aP ρ L I w N (.int .u64 x) v0:=hr 0 (by simp)
 have e1:aP ρ L I w N (.int .u64 y) v1:=hr 1 (by simp)
 have e2:aP ρ L I w N (.int .u64 b) v2:=hr 2 (by simp)
 cases e0; cases e1; cases e2
 obtain⟨X,rfl⟩:=Int.eq_ofNat_of_zero_le hx.1
 obtain⟨Y,rfl⟩:=Int.eq_ofNat_of_zero_le hy.1
 obtain⟨B,rfl⟩:=Int.eq_ofNat_of_zero_le hb.1
 refine⟨_,by rw[run_callFunc_extern hf r1 hbd r2 r3,show ([Value.int .u64 (X:Int),.int .u64 (Y:Int),.int .u64 (B:Int)].toArray)= #[Value.int .u64 (X:Int),.int .u64 (Y:Int),.int .u64 (B:Int)]from rfl,Fj X Y B (by omega)]; rfl,?_⟩
 have q1:((X:Int) - Y - B) % 18446744073709551616=(((X+18446744073709551616 - Y - B) % 18446744073709551616:Nat):Int):=by omega
 have q2:(if (X:Int)<Y+B then (1:Int)else 0)=((if X<Y+B then 1 else 0:Nat):Int):=by
  by_cases hc:X<Y+B
  ·rw[if_pos hc,if_pos (by omega)]; rfl
  ·rw[if_neg hc,if_neg (by omega)]; rfl
 rw[q1,q2]
 refine aP.aQ _ _ rfl ?_
 intro j hj
 match j,hj with
 |0,_=>exact aP.int _ _
 |1,_=>exact aP.int _ _
end Go.UM
namespace Go.UM
open Go.AM
set_option maxRecDepth 4000
def B3(v:Int):List AV:=[.int .i64 (lP v),.int .u64 (xP v)]
def sgn(s:Bool)(P:Int):Int:=bif s then -P else P
theorem Ia{R:Env}(h:Ph R){n:Int}(hn:fP n):R.Pc 275 [.int .i64 n] (.aQ [.int .u64 (bQ n),.bool (decide (n<0))]):=
 h.Pj.enter 60 rfl fun X bb hfit hp=>by
  rw[cH]at hn
  refine sh ?_
  refine cS (fun h1=> ?_) (fun h1=> ?_)
  ·refine sh ?_
   refine bC ?_
   refine sh ?_
   refine bC ?_
   refine sh ?_
   refine rT ?_
   refine iH ?_ ?_
   all_goals first|(rw[iP,iP,bQ,if_pos h1]; omega)|(simp; omega)
  ·refine sh ?_
   refine rT ?_
   refine iH ?_ ?_
   all_goals first|(rw[bQ,if_neg (by omega)])|(simp; omega)
theorem L3{x y:Int}(hx:JS x)(hy:JS y):wr .u64 (wr .u64 (wr .u64 (fS .u64 x 32*fS .u64 y 32)+fS .u64 (wr .u64 (wr .u64 (fS .u64 x 32*eX .and .u64 y 4294967295)+fS .u64 (wr .u64 (eX .and .u64 x 4294967295*eX .and .u64 y 4294967295)) 32)) 32)+
  fS .u64 (wr .u64 (eX .and .u64 (wr .u64 (wr .u64 (fS .u64 x 32*eX .and .u64 y 4294967295)+fS .u64 (wr .u64 (eX .and .u64 x 4294967295*eX .and .u64 y 4294967295)) 32)) 4294967295+wr .u64 (eX .and .u64 x 4294967295*fS .u64 y 32))) 32)=lP (x*y):=by
 have k:=fun v=>wC (x:=v) .u64 (by decide)
 simp only[k,pD hx,pD hy]
 rw[pD (mB .u64 _)]
 obtain⟨p1,p2,p3,p4,e⟩:=LW hx hy
 rw[e]
 simp only[iP,lP]
 generalize x % 4294967296* (y % 4294967296)=A at*
 generalize x / 4294967296* (y % 4294967296)=B at*
 generalize x % 4294967296* (y / 4294967296)=C at*
 generalize x / 4294967296* (y / 4294967296)=D at*
 omega
theorem Dd{R:Env}(h:KT R){x y:Int}(hx:JS x)(hy:JS y):R.Pc 276 [.int .u64 x,.int .u64 y] (.aQ [.int .u64 (lP (x*y)),.int .u64 (xP (x*y))]):=
 h.O8.enter 60 rfl fun X bb hfit hp=>by
  refine sh ?_
  refine bC ?_
  refine sh ?_
  refine bC ?_
  refine sh ?_
  refine bC ?_
  refine sh ?_
  refine bC ?_
  refine sh ?_
  refine bC ?_
  refine sh ?_
  refine bC ?_
  refine sh ?_
  refine bC ?_
  refine sh ?_
  refine bC ?_
  refine sh ?_
  refine bC ?_
  refine sh ?_
  refine rT ?_
  refine bj ?_
  all_goals first|exact L3 hx hy|(rw[iP]; rfl)
theorem Ib{R:Env}(h:Pk R){P:Int}(hP:0<=P/\P<=85070591730234615865843651857942052864):R.Pc 283 [.int .u64 (lP P),.int .u64 (xP P)] (.aQ [.int .u64 (lP (-P) % 18446744073709551616),.int .u64 (xP (-P))]):=
 h.UR.enter 60 rfl fun X bb hfit hp=>by
  refine sh ?_
  refine sT.mk ⟨_,Dc h.n286.Ut (x:=0) (b:=0) ⟨by omega,by omega⟩ (qj P) ⟨by omega,by omega⟩,?_⟩
  refine sh ?_
  refine sT.mk ⟨_,Dc h.n286.Ut (x:=0) ⟨by omega,by omega⟩ (y:=lP P) ⟨by unfold lP; omega,by unfold lP; omega⟩ ⟨by split<;>omega,by split<;>omega⟩,?_⟩
  refine sh ?_
  refine rT ?_
  refine iH ?_ ?_
  all_goals first|(unfold xP; omega)|(unfold lP xP; split<;>omega)
theorem Fl{R:Env}(h:Pl R){P:Int}(hP:0<=P/\P<=85070591730234615865843651857942052864)(s:Bool):R.Pc 277 [.int .u64 (lP P),.int .u64 (xP P),.bool s] (.aQ [.agg (B3 (sgn s P)),.bool true]):=
 h.UT.enter 60 rfl fun X bb hfit hp=>by
  have i1:=xQ (v:=P) ⟨by omega,hP.2⟩
  have i2:=xQ (v:= -P) ⟨by omega,by omega⟩
  cases s with
  |false=>
   have i3:0<=lP P:=by unfold lP; omega
   refine sh ?_
   refine af (by (simp; omega)) ?_
   refine sh ?_
   exact rT
  |true=>
   refine sh ?_
   refine ae.pure h.n283.UR.hb (Ib h.n283 hP) rfl ?_
   refine sh ?_
   refine HO (m:=lP (-P)) (by rw[ez]; omega) ?_
   by_cases h0:P=0
   ·subst h0
    refine sh ?_
    refine ay (by (simp[lP])) ?_
    refine sh ?_
    refine rT ?_
    exact fu
    all_goals first|rfl|decide
   ·refine sh ?_
    refine af (by (simp; unfold lP; omega)) ?_
    refine sh ?_
    exact rT
end Go.UM
namespace Go.UM
open Go.AM
set_option maxRecDepth 4000
theorem L4(a b:Int):sgn (decide (a<0) != decide (b<0)) (bQ a*bQ b)=a*b:=by
 rw[xO a b]; unfold sgn
 cases (decide (a<0) != decide (b<0))<;>simp
theorem tM{a b:Int}(ha:fP a)(hb:fP b):0<=bQ a*bQ b/\bQ a*bQ b<=85070591730234615865843651857942052864:=by
 have:=ij (iy ha) (iy hb)
 omega
theorem pE{a:Int}(ha:fP a):JS (bQ a):=by have:=iy ha; rw[rV]; omega
theorem NQ{R:Env}(h:KW R){a b:Int}(ha:fP a)(hb:fP b):R.Pc 264 [.int .i64 a,.int .i64 b] (.agg (B3 (a*b))):=
 h.Pm.enter 60 rfl fun X bb hfit hp=>by
  refine sh ?_
  refine ae.pure h.n275.Pj.hb (Ia h.n275 ha) rfl ?_
  refine sh ?_
  refine ae.pure h.n275.Pj.hb (Ia h.n275 hb) rfl ?_
  refine sh ?_
  refine ae.pure h.n276.O8.hb (Dd h.n276 (pE ha) (pE hb)) rfl ?_
  have c:=Fl h.n277 (tM ha hb) (decide (a<0) != decide (b<0))
  rw[L4]at c
  refine sh ?_
  refine ae.pure h.n277.UT.hb c rfl ?_
  refine sh ?_
  exact rT
theorem X0{R:Env}(h:KX R){v:Int}(hv:fP v):R.Pc 274 [.agg (B3 v)] (.aQ [.int .i64 v,.bool true]):=
 h.KY.enter 60 rfl fun X bb hfit hp=>by
  rw[cH]at hv
  have h2:=qj v
  refine sh ?_
  refine HO (m:=v) (by rw[ez]; unfold xP; omega) ?_
  refine sh ?_
  refine ay (by (rw[NN .i64 (by decide)]; simp; unfold lP; omega)) ?_
  refine sh ?_
  exact rT
theorem X1{R:Env}(h:KX R){v:Int}(hv:LV v)(hn:¬fP v):R.Pc 274 [.agg (B3 v)] (.aQ [.int .i64 0,.bool false]):=
 h.KY.enter 60 rfl fun X bb hfit hp=>by
  have h1:=xQ hv
  have h2:=qj v
  rw[cH]at hn
  refine sh ?_
  refine bC ?_
  refine sh ?_
  refine af (by (rw[NN .i64 (by decide),ez]; simp; unfold lP xP; omega)) ?_
  refine sh ?_
  exact rT
theorem Ic{R:Env}(h:KZ R){v:Int}(hv:LV v):R.Pc 265 [.agg (B3 v)] (.int .i64 (j4 v)):=
 h.Po.enter 60 rfl fun X bb hfit hp=>by
  by_cases hi:fP v
  ·refine sh ?_
   refine ae.pure h.n274.KY.hb (X0 h.n274 hi) rfl ?_
   refine sh ?_
   refine rT ?_
   refine bj ?_
   all_goals exact (xN hi).symm
  ·have hi2:=hi
   rw[cH]at hi2
   refine sh ?_
   refine ae.pure h.n274.KY.hb (X1 h.n274 hv hi) rfl ?_
   refine sh ?_
   refine cS (fun h1=> ?_) (fun h1=> ?_)
   ·have h2:v<0:=by unfold lP at h1; omega
    refine sh ?_
    refine rT ?_
    refine bj ?_
    all_goals (unfold j4; rw[if_neg (by omega),if_pos (by omega)])
   ·have h2:0<=v:=by unfold lP at h1; omega
    refine sh ?_
    refine rT ?_
    refine bj ?_
    all_goals (unfold j4; rw[if_pos (by omega)])
theorem Fm{hi lo:Int}(hh:0<=hi/\hi<=4294967295)(hl:0<=lo/\lo<=4294967295):eX .or .u64 lo (hi*4294967296)=hi*4294967296+lo:=by
 rw[<-zW hh hl,BY ⟨by omega,by omega⟩ ⟨by omega,by omega⟩,BY ⟨by omega,by omega⟩ ⟨by omega,by omega⟩,Nat.or_comm]
theorem X2{R:Env}(h:Pn R){v:Int}(hv:LV v):R.Pc 285 [.agg (B3 v),.int .i64 32] (.agg (B3 (v / 4294967296))):=
 h.UZ.enter 60 rfl fun X bb hfit hp=>by
  have h1:=xQ hv
  have h2:=qj v
  refine sh ?_
  refine ay (by decide) ?_
  refine sh ?_
  refine ay (by decide) ?_
  have e1:fS .i64 (lP v) (max 32 0)=lP (v / 4294967296):=by rw[show max (32:Int) 0=32 from rfl,wC .i64 (by decide)]; unfold lP; omega
  have e2:eX .or .u64 (fS .u64 (xP v) (max 32 0)) (pV .u64 (wr .u64 (lP v)) (64 - max 32 0))=xP (v / 4294967296):=by
   rw[show max (32:Int) 0=32 from rfl,wC .u64 (by decide)]
   have e:pV .u64 (wr .u64 (lP v)) (64 - 32)=(lP v % 4294967296)*4294967296:=by
    rw[show (64 - 32:Int)=32 from rfl,H6,iP]; omega
   rw[e,Fm (by omega) (by omega)]
   unfold lP xP; omega
  refine sh ?_
  refine bC ?_
  refine sh ?_
  refine rT ?_
  exact fu
  all_goals first|exact e1|exact e2
def xR(s:Int)(l:List Int):Int:=l.foldl ii s
theorem Ie{R:Env}(h:K0 R)(l:List Int)(hl:l.length<=1000)(hi:∀x ∈ l,fP x):R.Pc 267 [.aD 1 (bp .i64 l)] (.int .i64 (xR 0 l)):=
 h.Pq.enter 100 rfl fun X bb hfit hp=>by
  refine sh ?_
  refine eH 100 (fun s:Nat × Int=>s.1<=l.length/\fP s.2/\xR 0 (l.take s.1)=s.2) (fun s=>⟨[(3,.int .i64 s.2),(7,.aD 1 (bp .i64 l)),(8,.int .i64 l.length),(9,.int .i64 s.1)],[],0⟩) (fun s=>l.length - s.1) ((0,0)) ?_ ?_
  ·exact⟨Nat.zero_le _,⟨by decide,by decide⟩,rfl⟩
  ·rintro⟨k,s⟩ ⟨h1,h2,h3⟩
   dsimp only at h1 h2 h3 ⊢
   refine sh ?_
   refine cS (fun h4=> ?_) (fun h4=> ?_)
   ·obtain⟨x,hx⟩:∃u_,l[k]? =some u_:=⟨_,List.getElem?_eq_getElem (by first|omega|(simp<;>omega))⟩
    refine sh ?_
    refine aa hx ?_
    have ix:=hi x (List.mem_of_getElem? hx)
    have Rs:xR 0 (l.take (k+1))=ii s x:=by rw[ao hx,xR,List.foldl_append]; unfold xR at h3; rw[h3]; rfl
    rw[cH]at h2 ix
    refine sh ?_
    refine bC ?_
    refine sh ?_
    refine cS (fun a1=> ?_) (fun a1=> ?_)
    ·refine sh ?_
     refine cS (fun a2=> ?_) (fun a2=> ?_)
     ·refine sh ?_
      refine cS (fun a3=> ?_) (fun a3=> ?_)
      ·refine sh ?_
       refine nX ((k+1,ii s x)) ?_ ?_ ⟨_,hp,rfl⟩ ?_ ?_
       ·exact⟨by omega,fQ s x,Rs⟩
       ·omega
       ·refine bj ?_
        all_goals (unfold ii j4; simp only[ez]at *; split<;>first|omega|(split<;>omega))
       ·exact fu
      ·refine sh ?_
       refine ay (by (simp; omega)) ?_
       refine sh ?_
       refine nX ((k+1,ii s x)) ?_ ?_ ⟨_,hp,rfl⟩ ?_ ?_
       ·exact⟨by omega,fQ s x,Rs⟩
       ·omega
       ·refine bj ?_
        all_goals (unfold ii j4; simp only[ez]at *; split<;>first|omega|(split<;>omega))
       ·exact fu
     ·refine sh ?_
      refine ay (by (simp; omega)) ?_
      refine sh ?_
      refine nX ((k+1,ii s x)) ?_ ?_ ⟨_,hp,rfl⟩ ?_ ?_
      ·exact⟨by omega,fQ s x,Rs⟩
      ·omega
      ·refine bj ?_
       all_goals (unfold ii j4; simp only[ez]at *; split<;>first|omega|(split<;>omega))
      ·exact fu
    ·refine sh ?_
     refine cS (fun b1=> ?_) (fun b1=> ?_)
     ·refine sh ?_
      refine cS (fun b2=> ?_) (fun b2=> ?_)
      ·refine sh ?_
       refine cS (fun b3=> ?_) (fun b3=> ?_)
       ·refine sh ?_
        refine nX ((k+1,ii s x)) ?_ ?_ ⟨_,hp,rfl⟩ ?_ ?_
        ·exact⟨by omega,fQ s x,Rs⟩
        ·omega
        ·refine bj ?_
         all_goals (unfold ii j4; simp only[ez]at *; split<;>first|omega|(split<;>omega))
        ·exact fu
       ·refine sh ?_
        refine nX ((k+1,ii s x)) ?_ ?_ ⟨_,hp,rfl⟩ ?_ ?_
        ·exact⟨by omega,fQ s x,Rs⟩
        ·omega
        ·refine bj ?_
         all_goals (unfold ii j4; simp only[ez]at *; split<;>first|omega|(split<;>omega))
        ·exact fu
      ·refine sh ?_
       refine nX ((k+1,ii s x)) ?_ ?_ ⟨_,hp,rfl⟩ ?_ ?_
       ·exact⟨by omega,fQ s x,Rs⟩
       ·omega
       ·refine bj ?_
        all_goals (unfold ii j4; simp only[ez]at *; split<;>first|omega|(split<;>omega))
       ·exact fu
     ·refine sh ?_
      refine nX ((k+1,ii s x)) ?_ ?_ ⟨_,hp,rfl⟩ ?_ ?_
      ·exact⟨by omega,fQ s x,Rs⟩
      ·omega
      ·refine bj ?_
       all_goals (unfold ii j4; simp only[ez]at *; split<;>first|omega|(split<;>omega))
      ·exact fu
   ·rw[List.take_of_length_le (by omega)]at h3
    refine sh ?_
    refine rT ?_
    exact fu
    all_goals exact h3.symm
theorem Rt{R:Env}(h:Pp R){a b:Int}(ha:fP a)(hb:fP b):R.Pc 284 [.aD 1 (bp .i64 [a,b])] (.int .i64 (pC a b)):=
 h.U2.enter 100 rfl fun X bb hfit hp=>by
  have hP:=C8 ha hb
  refine sh ?_
  refine aj.one 100 ?_
  refine sh ?_
  refine af (by simp) ?_
  refine sh ?_
  refine aa (show ([a,b]:List Int)[0]? =some a from rfl) ?_
  refine sh ?_
  refine af (by decide) ?_
  refine sh ?_
  refine aj.one 100 ?_
  refine sh ?_
  refine af (by simp) ?_
  refine sh ?_
  refine aa (show ([a,b]:List Int)[1]? =some b from rfl) ?_
  refine sh ?_
  refine ay (by decide) ?_
  refine sh ?_
  refine ae.pure h.n264.Pm.hb (NQ h.n264 ha hb) rfl ?_
  refine sh ?_
  refine ae.pure h.n285.UZ.hb (X2 h.n285 hP) rfl ?_
  refine sh ?_
  refine ae.pure h.n265.Po.hb (Ic h.n265 (v:=a*b / 4294967296) (by omega)) rfl ?_
  refine sh ?_
  refine aj.one 100 ?_
  refine sh ?_
  refine ay (by simp) ?_
  refine sh ?_
  exact rT
def xS(a b:Int):Int:=j4 (a - b)
theorem Ru{R:Env}(h:Pr R){a b:Int}(ha:fP a)(hb:fP b):R.Pc 281 [.int .i64 a,.int .i64 b] (.int .i64 (xS a b)):=
 h.U5.enter 100 rfl fun X bb hfit hp=>by
  rw[cH]at ha hb
  refine sh ?_
  refine bC ?_
  refine sh ?_
  refine cS (fun a1=> ?_) (fun a1=> ?_)
  ·refine sh ?_
   refine cS (fun a2=> ?_) (fun a2=> ?_)
   ·refine sh ?_
    refine cS (fun a3=> ?_) (fun a3=> ?_)
    ·refine sh ?_
     refine rT ?_
     refine bj ?_
     all_goals (unfold xS j4; simp only[ez]at *; split<;>first|omega|(split<;>omega))
    ·refine sh ?_
     refine ay (by (simp; omega)) ?_
     refine sh ?_
     refine rT ?_
     refine bj ?_
     all_goals (unfold xS j4; simp only[ez]at *; split<;>first|omega|(split<;>omega))
   ·refine sh ?_
    refine ay (by (simp; omega)) ?_
    refine sh ?_
    refine rT ?_
    refine bj ?_
    all_goals (unfold xS j4; simp only[ez]at *; split<;>first|omega|(split<;>omega))
  ·refine sh ?_
   refine cS (fun b1=> ?_) (fun b1=> ?_)
   ·refine sh ?_
    refine cS (fun b2=> ?_) (fun b2=> ?_)
    ·refine sh ?_
     refine cS (fun b3=> ?_) (fun b3=> ?_)
     ·refine sh ?_
      refine rT ?_
      refine bj ?_
      all_goals (unfold xS j4; simp only[ez]at *; split<;>first|omega|(split<;>omega))
     ·refine sh ?_
      refine rT ?_
      refine bj ?_
      all_goals (unfold xS j4; simp only[ez]at *; split<;>first|omega|(split<;>omega))
    ·refine sh ?_
     refine rT ?_
     refine bj ?_
     all_goals (unfold xS j4; simp only[ez]at *; split<;>first|omega|(split<;>omega))
   ·refine sh ?_
    refine rT ?_
    exact fu
    all_goals (unfold xS j4; simp only[ez]at *; split<;>first|omega|(split<;>omega))
theorem Rv{R:Env}(h:Ps R){a:Int}(ha:fP a):R.Pc 270 [.int .i64 a] (.int .i64 (j4 (-a))):=
 h.U7.enter 100 rfl fun X bb hfit hp=>by
  refine sh ?_
  refine ae.pure h.n281.U5.hb (Ru h.n281 (a:=0) ⟨by decide,by decide⟩ ha) rfl ?_
  refine sh ?_
  refine rT ?_
  refine bj ?_
  all_goals (unfold xS; rw[Int.zero_sub])
theorem iR{R:Env}(h:K1 R){a:Int}(ha:fP a):R.Pc 255 [.int .i64 a] (.int .i64 (nV a)):=
 h.qi.enter 100 rfl fun X bb hfit hp=>by
  refine sh ?_
  refine ae.pure h.n270.U7.hb (Rv h.n270 ha) rfl ?_
  rw[cH]at ha
  refine sh ?_
  refine rT ?_
  refine bj ?_
  all_goals (unfold nV j4; split<;>split<;>first|omega|(split<;>omega))
theorem If{R:Env}(h:Pu R){n:Int}(hn:fP n):R.Pc 248 [.int .i64 n] (.int .i64 (j4 (n*4294967296))):=
 h.K3.enter 100 rfl fun X bb hfit hp=>by
  have h1:fP 4294967296:=⟨by decide,by decide⟩
  refine sh ?_
  refine ae.pure h.n264.Pm.hb (NQ h.n264 hn h1) rfl ?_
  refine sh ?_
  refine ae.pure h.n265.Po.hb (Ic h.n265 (C8 hn h1)) rfl ?_
  refine sh ?_
  exact rT
theorem L5{x:Int}(h:fP x):eX .and .i64 x 1=x % 2:=by
 show wr .i64 (((BitVec.ofInt 64 x&&& BitVec.ofInt 64 1:BitVec 64).toNat:Nat):Int)=_
 rw[cH]at h
 have e:(BitVec.ofInt 64 x&&& BitVec.ofInt 64 1:BitVec 64).toNat=(x % 2).toNat:=by
  rw[BitVec.toNat_and,BitVec.toNat_ofInt,BitVec.toNat_ofInt]
  have:((1:Int) % ((2 ^ 64:Nat):Int)).toNat=2 ^ 1 - 1:=rfl
  rw[this,Nat.and_two_pow_sub_one_eq_mod]
  omega
 rw[e,ez]; omega
theorem tN{R:Env}(h:Pt R){x:Int}(hx:fP x):R.Pc 260 [.int .i64 x] (.int .i64 (fD x)):=
 h.K2.enter 100 rfl fun X bb hfit hp=>by
  have hx2:=hx
  rw[cH]at hx2
  have e1:eX .and .i64 (fS .i64 x 31) 1=x / 2147483648 % 2:=by
   rw[XX .i64 (by decide),L5 (by rw[cH]; omega)]
  refine sh ?_
  rw[e1,wC .i64 (by decide)]
  refine xI (by simp only[aR]; omega) ?_
  refine sh ?_
  refine rT ?_
  refine bj ?_
  all_goals (unfold fD; omega)
end Go.UM
namespace Go.UM
open Go.AM
set_option maxRecDepth 4000
theorem B4{R:Env}(h:K8 R){a b:Int}(ha:fP a)(hb:fP b):R.Pc 263 [.int .i64 a,.int .i64 b] (.int .i64 (ii a b)):=
 h.K9.enter 60 rfl fun X bb hfit hp=>by
  have c:=Ie h.n267 [a,b] (by simp) (by intro x hx; simp at hx; rcases hx with rfl|rfl<;>assumption)
  rw[show xR 0 [a,b]=ii a b by unfold xR; simp[wD ha]]at c
  refine sh ?_
  refine ae.KA rfl h.n267.Pq.hb c ?_ rfl ?_
  ·exact fu
  refine sh ?_
  exact rT
theorem B5{R:Env}(h:K5 R){a b:Int}(ha:fP a)(hb:fP b):R.Pc 278 [.int .i64 a,.int .i64 b] (.int .i64 (pC a b)):=
 h.K6.enter 60 rfl fun X bb hfit hp=>by
  refine sh ?_
  refine ae.KA rfl h.n284.U2.hb (Rt h.n284 ha hb) ?_ rfl ?_
  ·exact fu
  refine sh ?_
  exact rT
theorem Ig{R:Env}(h:HY R)(hf:K8 R){a b:T3}(ha:a.I)(hb:b.I):R.Pc 262 [.agg (t3 a),.agg (t3 b),.ce (.fn (R.ft 263)) []] (.agg (t3 (vj a b))):=
 h.K4.enter 60 rfl fun X bb hfit hp=>by
  refine sh ?_
  refine ae.pure hf.K9.hb (B4 hf ha.1 hb.1) rfl ?_
  refine sh ?_
  refine ae.pure hf.K9.hb (B4 hf ha.2.1 hb.2.1) rfl ?_
  refine sh ?_
  refine ae.pure hf.K9.hb (B4 hf ha.2.2 hb.2.2) rfl ?_
  refine sh ?_
  exact rT
theorem Ih{R:Env}(h:HY R)(hf:K5 R){a b:T3}(ha:a.I)(hb:b.I):R.Pc 262 [.agg (t3 a),.agg (t3 b),.ce (.fn (R.ft 278)) []] (.agg (t3 (vk a b))):=
 h.K4.enter 60 rfl fun X bb hfit hp=>by
  refine sh ?_
  refine ae.pure hf.K6.hb (B5 hf ha.1 hb.1) rfl ?_
  refine sh ?_
  refine ae.pure hf.K6.hb (B5 hf ha.2.1 hb.2.1) rfl ?_
  refine sh ?_
  refine ae.pure hf.K6.hb (B5 hf ha.2.2 hb.2.2) rfl ?_
  refine sh ?_
  exact rT
theorem Rz{R:Env}(h:Px R)(l:List T3)(hl:l.length<=1000)(hi:∀x ∈ l,x.I):R.Pc 246 [.aD 3 (bW l)] (.agg (t3 (l.foldl vj z3))):=
 h.Vh.enter 100 rfl fun X bb hfit hp=>by
  refine sh ?_
  refine eH 100 (fun s:Nat × T3=>s.1<=l.length/\s.2.I/\(l.take s.1).foldl vj z3=s.2) (fun s=>⟨[(2,.loc 0 1 0 0),(3,.loc 1 1 0 0),(6,.aD 3 (bW l)),(7,.int .i64 l.length),(8,.int .i64 s.1)],[(1,.var (R.ty 31) (t3 s.2)),(0,.var (R.ty 31) [.int .i64 0,.int .i64 0,.int .i64 0])],2⟩) (fun s=>l.length - s.1) ((0,z3)) ?_ ?_
  ·exact⟨Nat.zero_le _,NP,rfl⟩
  ·rintro⟨k,s⟩ ⟨h1,h2,h3⟩
   dsimp only at h1 h2 h3 ⊢
   refine sh ?_
   refine cS (fun h4=> ?_) (fun h4=> ?_)
   ·obtain⟨x,hx⟩:∃u_,l[k]? =some u_:=⟨_,List.getElem?_eq_getElem (by first|omega|(simp<;>omega))⟩
    refine sh ?_
    refine aa hx ?_
    have ix:=hi x (List.mem_of_getElem? hx)
    refine sh ?_
    refine ae.pure h.n262.K4.hb (Ig h.n262 h.n263 h2 ix) rfl ?_
    refine sh ?_
    refine lO ((k+1,vj s x)) ?_ ?_
    ·exact⟨by omega,C' s x,by rw[ao hx,List.foldl_append,h3]; rfl⟩
    ·omega
   ·rw[List.take_of_length_le (by omega)]at h3
    rw[h3]
    refine sh ?_
    exact rT
theorem Ii{R:Env}(h:Pv R)(l:List T3)(hl:l.length<=1000)(hi:∀x ∈ l,x.I):R.Pc 266 [.aD 3 (bW l)] (.agg (t3 (l.foldl vk BZ))):=
 h.Vd.enter 100 rfl fun X bb hfit hp=>by
  refine sh ?_
  refine eH 100 (fun s:Nat × T3=>s.1<=l.length/\s.2.I/\(l.take s.1).foldl vk BZ=s.2) (fun s=>⟨[(2,.loc 0 1 0 0),(3,.loc 1 1 0 0),(7,.aD 3 (bW l)),(8,.int .i64 l.length),(9,.int .i64 s.1)],[(1,.var (R.ty 31) (t3 s.2)),(0,.var (R.ty 31) [.int .i64 0,.int .i64 0,.int .i64 0])],2⟩) (fun s=>l.length - s.1) ((0,BZ)) ?_ ?_
  ·exact⟨Nat.zero_le _,LX,rfl⟩
  ·rintro⟨k,s⟩ ⟨h1,h2,h3⟩
   dsimp only at h1 h2 h3 ⊢
   refine sh ?_
   refine cS (fun h4=> ?_) (fun h4=> ?_)
   ·obtain⟨x,hx⟩:∃u_,l[k]? =some u_:=⟨_,List.getElem?_eq_getElem (by first|omega|(simp<;>omega))⟩
    refine sh ?_
    refine aa hx ?_
    have ix:=hi x (List.mem_of_getElem? hx)
    refine sh ?_
    refine ae.pure h.n262.K4.hb (Ih h.n262 h.n278 h2 ix) rfl ?_
    refine sh ?_
    refine lO ((k+1,vk s x)) ?_ ?_
    ·exact⟨by omega,Da s x,by rw[ao hx,List.foldl_append,h3]; rfl⟩
    ·omega
   ·rw[List.take_of_length_le (by omega)]at h3
    rw[h3]
    refine sh ?_
    exact rT
theorem Ij{R:Env}(h:Pw R){a b:T3}(ha:a.I)(hb:b.I):R.Pc 252 [.agg (t3 a),.agg (t3 b)] (.int .i64 (NO a b)):=
 h.K7.enter 100 rfl fun X bb hfit hp=>by
  have c1:=Ii h.n266 [a,b] (by simp) (by intro x hx; simp at hx; rcases hx with rfl|rfl<;>assumption)
  rw[show [a,b].foldl vk BZ=vk a b by simp[XZ ha]]at c1
  refine sh ?_
  refine ae.KA rfl h.n266.Vd.hb c1 ?_ rfl ?_
  ·exact fu
  have i1:=Da a b
  generalize hv:vk a b=v at*
  have c2:=Ie h.n267 [v.a,v.b,v.c] (by simp) (by intro x hx; simp at hx; rcases hx with rfl|rfl|rfl; exact i1.1; exact i1.2.1; exact i1.2.2)
  rw[show xR 0 [v.a,v.b,v.c]=NO a b by unfold xR NO; simp only[List.foldl_cons,List.foldl_nil]; rw[wD i1.1,<-hv]; rfl]at c2
  refine sh ?_
  refine ae.KA rfl h.n267.Pq.hb c2 ?_ rfl ?_
  ·exact fu
  refine sh ?_
  exact rT
theorem RA{R:Env}(h:PA R){p:T3}(tO:p.I):R.Pc 249 [.agg (t3 p)] (.agg (t3 (SJ p))):=
 h.Vl.enter 100 rfl fun X bb hfit hp=>by
  refine sh ?_
  refine ae.pure h.n248.K3.hb (If h.n248 tO.1) rfl ?_
  refine sh ?_
  refine ae.pure h.n248.K3.hb (If h.n248 tO.2.1) rfl ?_
  refine sh ?_
  refine ae.pure h.n248.K3.hb (If h.n248 tO.2.2) rfl ?_
  refine sh ?_
  exact rT
theorem L6{R:Env}(h:Py R){p:T3}(tO:p.I):R.Pc 256 [.agg (t3 p)] (.int .i64 (C9 p)):=
 h.Vj.enter 100 rfl fun X bb hfit hp=>by
  refine sh ?_
  refine ae.pure h.n255.qi.hb (iR h.n255 tO.1) rfl ?_
  refine sh ?_
  refine ae.pure h.n255.qi.hb (iR h.n255 tO.2.1) rfl ?_
  refine sh ?_
  refine ae.pure h.n255.qi.hb (iR h.n255 tO.2.2) rfl ?_
  refine sh ?_
  exact rT
theorem j6{R:Env}(h:BV R){x:Int}(hx:fP x):R.Pc 279 [.int .i64 x] (.int .u64 (bQ x)):=
 h.xM.enter 100 rfl fun X bb hfit hp=>by
  rw[cH]at hx
  unfold bQ
  refine sh ?_
  refine cS (fun h1=> ?_) (fun h1=> ?_)
  ·refine sh ?_
   refine rT ?_
   exact fu
   all_goals omega
  ·refine sh ?_
   refine rT ?_
   exact fu
   all_goals omega
def lQ(s:Int)(below iJ:Bool):Int:=if below=true then (if iJ=true\/ 9223372036854775808<=s then -9223372036854775808 else -s)else (if iJ=true\/ 9223372036854775808<=s then 9223372036854775807 else s)
theorem jB{R:Env}(h:E7 R){s:Int}(hs:JS s)(below iJ:Bool):R.Pc 280 [.int .u64 s,.bool below,.bool iJ] (.int .i64 (lQ s below iJ)):=
 h.zO.enter 100 rfl fun X bb hfit hp=>by
  rw[rV]at hs
  unfold lQ
  cases below with
  |true=>
   cases iJ with
   |true=>
    refine sh ?_
    exact rT
   |false=>
    refine sh ?_
    refine cS (fun h1=> ?_) (fun h1=> ?_)
    ·refine sh ?_
     refine rT ?_
     refine bj ?_
     all_goals (simp; omega)
    ·refine sh ?_
     refine rT ?_
     refine bj ?_
     all_goals (simp; omega)
  |false=>
   cases iJ with
   |true=>
    refine sh ?_
    exact rT
   |false=>
    refine sh ?_
    refine cS (fun h1=> ?_) (fun h1=> ?_)
    ·refine sh ?_
     refine rT ?_
     refine bj ?_
     all_goals (simp; omega)
    ·refine sh ?_
     refine rT ?_
     refine bj ?_
     all_goals (simp; omega)
theorem Fp{a b:Int}(h:(decide (a<0)==decide (b<0))=true):(a<0/\b<0)\/(0<=a/\0<=b):=by
 by_cases ha:a<0<;>by_cases hb:b<0
 ·exact .inl ⟨ha,hb⟩
 ·simp[ha,hb]at h
 ·simp[ha,hb]at h
 ·exact .inr ⟨by omega,by omega⟩
theorem RB{a b:Int}(ha:fP a)(hb:fP b)(h:(a<0/\b<0)\/(0<=a/\0<=b)):lQ (wr .u64 (bQ a+bQ b)) (decide (a<0)) (decide (wr .u64 (bQ a+bQ b)<bQ a))=j4 (a+b):=by
 rw[cH]at ha hb
 rcases h with⟨h1,h2⟩|⟨h1,h2⟩
 ·have e1:bQ a= -a:=if_pos h1
  have e2:bQ b= -b:=if_pos h2
  rw[e1,e2,iP,decide_eq_true h1]
  unfold lQ j4
  simp only[if_true,decide_eq_true_eq]
  repeat' split
  all_goals omega
 ·have e1:bQ a=a:=if_neg (show ¬a<0 by omega)
  have e2:bQ b=b:=if_neg (show ¬b<0 by omega)
  rw[e1,e2,iP,decide_eq_false (show ¬a<0 by omega)]
  unfold lQ j4
  simp only[Bool.false_eq_true,if_false,decide_eq_true_eq]
  repeat' split
  all_goals omega
theorem ql{R:Env}(h:Lu R){a b:Int}(ha:fP a)(hb:fP b):R.Pc 269 [.int .i64 a,.int .i64 b] (.int .i64 (ii a b)):=
 h.BW.enter 100 rfl fun X bb hfit hp=>by
  refine sh ?_
  refine ae.pure h.n279.xM.hb (j6 h.n279 ha) rfl ?_
  refine sh ?_
  refine ae.pure h.n279.xM.hb (j6 h.n279 hb) rfl ?_
  have u1:=iy ha
  have u2:=iy hb
  refine sh ?_
  refine cS (fun h1=> ?_) (fun h1=> ?_)
  ·have e:=RB ha hb (Fp h1)
   refine sh ?_
   refine bC ?_
   refine sh ?_
   refine bC ?_
   refine sh ?_
   refine ae.pure h.n280.zO.hb (jB h.n280 (mB .u64 _) _ _) rfl ?_
   rw[e]
   refine sh ?_
   exact rT
  ·rw[cH]at ha hb
   have h2: -9223372036854775808<=a+b/\a+b<=9223372036854775807:=by
    by_cases q1:a<0<;>by_cases q2:b<0
    ·simp[q1,q2]at h1
    ·omega
    ·omega
    ·simp[q1,q2]at h1
   refine sh ?_
   refine rT ?_
   refine bj ?_
   all_goals exact (xN (cH.2 h2)).symm
theorem L7{R:Env}(h:Qx R){b:Int}(hb:fP b):R.Pc 282 [.int .i64 0,.int .i64 b] (.int .i64 (j4 (-b))):=
 h.WD.enter 100 rfl fun X bb hfit hp=>by
  have h0:fP 0:=⟨by decide,by decide⟩
  refine sh ?_
  refine ae.pure h.n279.xM.hb (j6 h.n279 h0) rfl ?_
  refine sh ?_
  refine ae.pure h.n279.xM.hb (j6 h.n279 hb) rfl ?_
  have u2:=iy hb
  rw[cH]at hb
  refine sh ?_
  refine cS (fun h1=> ?_) (fun h1=> ?_)
  ·have hneg:b<0:=by
    by_cases q:b<0
    ·exact q
    ·simp[q]at h1
   have e:lQ (wr .u64 (bQ 0+bQ b)) (decide ((0:Int)<0)) (decide (wr .u64 (bQ 0+bQ b)<bQ 0))=j4 (-b):=by
    have e1:bQ 0=0:=rfl
    have e2:bQ b= -b:=if_pos hneg
    rw[e1,e2,iP,decide_eq_false (show ¬ (0:Int)<0 by omega)]
    unfold lQ j4
    simp only[Bool.false_eq_true,if_false,decide_eq_true_eq]
    repeat' split
    all_goals omega
   refine sh ?_
   refine bC ?_
   refine sh ?_
   refine bC ?_
   refine sh ?_
   refine ae.pure h.n280.zO.hb (jB h.n280 (mB .u64 _) _ _) rfl ?_
   rw[e]
   refine sh ?_
   exact rT
  ·have hpos:¬b<0:=by
    intro q
    simp[q]at h1
   refine sh ?_
   refine rT ?_
   refine bj ?_
   all_goals (unfold j4; rw[if_neg (by omega),if_neg (by omega)]; omega)
theorem Ik{a b:Int}(ha:fP a)(hb:fP b){s:Int}{iJ:Bool}(below:Bool)(rF:a*b=if below=true then -(bQ a*bQ b)else bQ a*bQ b)
  (hs:s=(bQ a*bQ b / 4294967296+ (if below=true/\0<bQ a*bQ b % 4294967296 then 1 else 0)) % 18446744073709551616)
  (iL:iJ=decide (18446744073709551616<=bQ a*bQ b / 4294967296+ (if below=true/\0<bQ a*bQ b % 4294967296 then 1 else 0))):lQ s below iJ=pC a b:=by
 have hP:=tM ha hb
 unfold pC
 rw[rF]
 generalize bQ a*bQ b=P at*
 subst hs iL
 unfold lQ j4
 cases below with
 |true=>
  simp only[decide_eq_true_eq,true_and,if_true]
  repeat' split
  all_goals omega
 |false=>
  simp only[decide_eq_true_eq,Bool.false_eq_true,false_and,if_false]
  repeat' split
  all_goals omega
theorem tP{R:Env}(h:Qw R){a b:Int}(ha:fP a)(hb:fP b):R.Pc 268 [.int .i64 a,.int .i64 b] (.int .i64 (pC a b)):=
 h.Lt.enter 100 rfl fun X bb hfit hp=>by
  refine sh ?_
  refine ae.pure h.n279.xM.hb (j6 h.n279 ha) rfl ?_
  refine sh ?_
  refine ae.pure h.n279.xM.hb (j6 h.n279 hb) rfl ?_
  refine sh ?_
  refine ae.pure h.n276.O8.hb (Dd h.n276 (pE ha) (pE hb)) rfl ?_
  have hP:=tM ha hb
  have rF:=xO a b
  have hE:=fun s iJ=>Ik (s:=s) (iJ:=iJ) ha hb (decide (a<0) != decide (b<0)) rF
  have e1:eX .or .u64 (pV .u64 (lP (bQ a*bQ b)) 32) (fS .u64 (xP (bQ a*bQ b)) 32)=bQ a*bQ b / 4294967296 % 18446744073709551616:=by
   generalize bQ a*bQ b=P at*
   have e:pV .u64 (lP P) 32=(lP P % 4294967296)*4294967296:=by rw[H6]; omega
   have h2:=qj P
   rw[e,wC .u64 (by decide),zW (by omega) (by omega)]
   unfold lP xP; omega
  have e2:eX .and .u64 (xP (bQ a*bQ b)) 4294967295=bQ a*bQ b % 4294967296:=by
   rw[pD (qj _)]; unfold xP; omega
  generalize hbe:(decide (a<0) != decide (b<0))=below at*
  cases below with
  |false=>
   refine sh ?_
   rw[hbe]
   refine ay rfl ?_
   refine sh ?_
   rw[e1]
   clear e1
   refine ae.pure h.n280.zO.hb (jB h.n280 ⟨by omega,by omega⟩ _ _) rfl ?_
   rw[hE _ _ (by simp) (by simp only[Bool.false_eq_true,false_and,if_false]; congr 1; unfold lP; apply propext; constructor<;>intro<;>omega)]
   refine sh ?_
   exact rT
  |true=>
   refine sh ?_
   rw[hbe]
   refine af rfl ?_
   refine sh ?_
   rw[e2]
   refine cS (fun g=> ?_) (fun g=> ?_)
   ·refine sh ?_
    rw[e1]
    clear e1 e2
    refine bC ?_
    refine sh ?_
    refine cS (fun g2=> ?_) (fun g2=> ?_)
    ·refine sh ?_
     refine ae.pure h.n280.zO.hb (jB h.n280 (mB .u64 _) _ _) rfl ?_
     rw[hE _ _ (by simp only[true_and]; rw[if_pos g,iP]; omega) (by simp only[true_and]; rw[if_pos g]; symm; rw[decide_eq_true_eq]; unfold lP at g2; omega)]
     refine sh ?_
     exact rT
    ·refine sh ?_
     refine ae.pure h.n280.zO.hb (jB h.n280 (mB .u64 _) _ _) rfl ?_
     rw[hE _ _ (by simp only[true_and]; rw[if_pos g,iP]; omega) (by simp only[true_and]; rw[if_pos g,iP,Bool.eq_iff_iff]; simp only[beq_iff_eq,decide_eq_true_eq]; unfold lP at g2; omega)]
     refine sh ?_
     exact rT
   ·refine sh ?_
    rw[e1]
    clear e1 e2
    refine ae.pure h.n280.zO.hb (jB h.n280 ⟨by omega,by omega⟩ _ _) rfl ?_
    rw[hE _ _ (by simp only[true_and]; rw[if_neg (by omega)]; simp) (by simp only[true_and]; rw[if_neg (by omega)]; congr 1; unfold lP; apply propext; constructor<;>intro<;>omega)]
    refine sh ?_
    exact rT
theorem Il{R:Env}(h:QA R){n:Int}(hn:fP n):R.Pc 272 [.int .i64 n] (.int .i64 (j4 (n*4294967296))):=
 h.Lw.enter 100 rfl fun X bb hfit hp=>by
  refine sh ?_
  refine ae.pure h.n279.xM.hb (j6 h.n279 hn) rfl ?_
  have u1:=iy hn
  refine sh ?_
  rw[H6]
  refine ae.pure h.n280.zO.hb (jB h.n280 ⟨by omega,by omega⟩ _ _) rfl ?_
  have e:lQ (bQ n*4294967296 % 18446744073709551616) (decide (n<0)) (decide (bQ n>= 4294967296))=j4 (n*4294967296):=by
   rw[cH]at hn
   by_cases h1:n<0
   ·have e1:bQ n= -n:=if_pos h1
    rw[e1,decide_eq_true h1]
    unfold lQ j4
    simp only[if_true,decide_eq_true_eq]
    repeat' split
    all_goals omega
   ·have e1:bQ n=n:=if_neg h1
    rw[e1,decide_eq_false h1]
    unfold lQ j4
    simp only[Bool.false_eq_true,if_false,decide_eq_true_eq]
    repeat' split
    all_goals omega
  rw[e]
  refine sh ?_
  exact rT
theorem Im{R:Env}(h:Qy R){x:Int}(hx:fP x):R.Pc 273 [.int .i64 x] (.int .i64 (x / 4294967296)):=
 h.WF.enter 100 rfl fun X bb hfit hp=>by
  refine sh ?_
  refine ae.pure h.n279.xM.hb (j6 h.n279 hx) rfl ?_
  have u1:=iy hx
  have hand:eX .and .u64 (bQ x) 4294967295=bQ x % 4294967296:=pD (pE hx)
  have ahX:fS .u64 (bQ x) 32=bQ x / 4294967296:=wC .u64 (by decide)
  have hx2:=hx
  rw[cH]at hx2
  refine sh ?_
  refine cS (fun h1=> ?_) (fun h1=> ?_)
  ·have e1:bQ x=x:=if_neg (show ¬x<0 by omega)
   refine sh ?_
   refine rT ?_
   exact fu
   all_goals omega
  ·have e1:bQ x= -x:=if_pos h1
   refine sh ?_
   rw[hand]
   refine cS (fun g=> ?_) (fun g=> ?_)
   ·refine sh ?_
    refine rT ?_
    exact fu
    all_goals omega
   ·refine sh ?_
    refine rT ?_
    exact fu
    all_goals omega
theorem tQ{R:Env}(h:Qz R){x:Int}(hx:fP x):R.Pc 261 [.int .i64 x] (.int .i64 (fD x)):=
 h.Lv.enter 100 rfl fun X bb hfit hp=>by
  have hx2:=hx
  rw[cH]at hx2
  refine sh ?_
  refine cS (fun h1=> ?_) (fun h1=> ?_)
  ·refine sh ?_
   refine rT ?_
   refine bj ?_
   all_goals (unfold fD; omega)
  ·refine sh ?_
   refine ae.pure h.n273.WF.hb (Im h.n273 (x:=x+2147483648) ⟨by omega,by omega⟩) rfl ?_
   refine sh ?_
   exact rT
theorem B6{R:Env}(h:QB R){a b:T3}(ha:a.I)(hb:b.I):R.Pc 253 [.agg (t3 a),.agg (t3 b)] (.int .i64 (NO a b)):=
 h.Lx.enter 100 rfl fun X bb hfit hp=>by
  refine sh ?_
  refine ae.pure h.n268.Lt.hb (tP h.n268 ha.1 hb.1) rfl ?_
  refine sh ?_
  refine ae.pure h.n269.BW.hb (ql h.n269 (a:=0) ⟨by decide,by decide⟩ (j5 a.a b.a)) rfl ?_
  rw[wD (j5 a.a b.a)]
  refine sh ?_
  refine ae.pure h.n268.Lt.hb (tP h.n268 ha.2.1 hb.2.1) rfl ?_
  refine sh ?_
  refine ae.pure h.n269.BW.hb (ql h.n269 (j5 a.a b.a) (j5 a.b b.b)) rfl ?_
  refine sh ?_
  refine ae.pure h.n268.Lt.hb (tP h.n268 ha.2.2 hb.2.2) rfl ?_
  refine sh ?_
  refine ae.pure h.n269.BW.hb (ql h.n269 (fQ _ _) (j5 a.c b.c)) rfl ?_
  refine sh ?_
  exact rT
theorem L8{R:Env}(h:QC R){a b:T3}(ha:a.I)(hb:b.I):R.Pc 254 [.agg (t3 a),.agg (t3 b)] (.agg (t3 (vj a b))):=
 h.WK.enter 100 rfl fun X bb hfit hp=>by
  refine sh ?_
  refine ae.pure h.n269.BW.hb (ql h.n269 ha.1 hb.1) rfl ?_
  refine sh ?_
  refine ae.pure h.n269.BW.hb (ql h.n269 ha.2.1 hb.2.1) rfl ?_
  refine sh ?_
  refine ae.pure h.n269.BW.hb (ql h.n269 ha.2.2 hb.2.2) rfl ?_
  refine sh ?_
  exact rT
theorem RC{R:Env}(h:QF R){p:T3}(tO:p.I):R.Pc 259 [.agg (t3 p)] (.agg (t3 (SJ p))):=
 h.WP.enter 100 rfl fun X bb hfit hp=>by
  refine sh ?_
  refine ae.pure h.n272.Lw.hb (Il h.n272 tO.1) rfl ?_
  refine sh ?_
  refine ae.pure h.n272.Lw.hb (Il h.n272 tO.2.1) rfl ?_
  refine sh ?_
  refine ae.pure h.n272.Lw.hb (Il h.n272 tO.2.2) rfl ?_
  refine sh ?_
  exact rT
theorem jC{R:Env}(h:QD R){x:Int}(hx:fP x):R.Pc 271 [.int .i64 x] (.int .i64 (nV x)):=
 h.zP.enter 100 rfl fun X bb hfit hp=>by
  refine sh ?_
  refine cS (fun h1=> ?_) (fun h1=> ?_)
  ·refine sh ?_
   refine ae.pure h.n282.WD.hb (L7 h.n282 hx) rfl ?_
   refine sh ?_
   refine rT ?_
   refine bj ?_
   all_goals (unfold nV; rw[if_pos h1])
  ·refine sh ?_
   refine rT ?_
   refine bj ?_
   all_goals (unfold nV; rw[if_neg (by omega)])
theorem L9{R:Env}(h:QE R){p:T3}(tO:p.I):R.Pc 257 [.agg (t3 p)] (.int .i64 (C9 p)):=
 h.WN.enter 100 rfl fun X bb hfit hp=>by
  unfold C9
  refine sh ?_
  refine ae.pure h.n271.zP.hb (jC h.n271 tO.1) rfl ?_
  refine sh ?_
  refine ae.pure h.n271.zP.hb (jC h.n271 tO.2.1) rfl ?_
  refine sh ?_
  refine cS (fun h1=> ?_) (fun h1=> ?_)
  ·refine sh ?_
   refine ae.pure h.n271.zP.hb (jC h.n271 tO.2.1) rfl ?_
   refine sh ?_
   refine ae.pure h.n271.zP.hb (jC h.n271 tO.2.2) rfl ?_
   refine sh ?_
   refine cS (fun h2=> ?_) (fun h2=> ?_)
   ·refine sh ?_
    refine ae.pure h.n271.zP.hb (jC h.n271 tO.2.2) rfl ?_
    refine sh ?_
    refine rT ?_
    exact fu
    all_goals omega
   ·refine sh ?_
    refine rT ?_
    exact fu
    all_goals omega
  ·refine sh ?_
   refine ae.pure h.n271.zP.hb (jC h.n271 tO.2.2) rfl ?_
   refine sh ?_
   refine cS (fun h2=> ?_) (fun h2=> ?_)
   ·refine sh ?_
    refine ae.pure h.n271.zP.hb (jC h.n271 tO.2.2) rfl ?_
    refine sh ?_
    refine rT ?_
    exact fu
    all_goals omega
   ·refine sh ?_
    refine rT ?_
    exact fu
    all_goals omega
end Go.UM
namespace Go.UM
open Go.AM
set_option maxRecDepth 4000
@[simp] theorem agV(x:T3):AV.aB (t3 x)=[]:=by simp[t3]
@[simp] theorem agW(x:T3):AV.jX (t3 x)=true:=by simp[t3]
@[simp] theorem agX(a:Af):AV.aB a.row=[]:=by simp[Af.row]
@[simp] theorem agY(a:Af):AV.jX a.row=true:=by simp[Af.row]
theorem Ma{R:Env}(h:PB R):R.Pc 221 [] (.agg H9.row):=
 h.Vn.enter 60 rfl fun X bb hfit hp=>by
  refine sh ?_
  exact rT
theorem B7{R:Env}(h:PC R)(a:Af)(i:Nat)(hi:i<3):R.Pc 251 [.agg a.acb,.int .i64 i] (.agg (t3 (a.rw i))):=by
 match i,hi with
 |0,_=>
  exact h.E5.enter 60 rfl fun X bb hfit hp=>by
   refine sh ?_
   exact rT
 |1,_=>
  exact h.E5.enter 60 rfl fun X bb hfit hp=>by
   refine sh ?_
   exact rT
 |2,_=>
  exact h.E5.enter 60 rfl fun X bb hfit hp=>by
   refine sh ?_
   exact rT
theorem Mb{R:Env}(h:PD R){a:Af}{v:T3}(ha:a.I)(hv:v.I):R.Pc 231 [.agg a.row,.agg (t3 v)] (.agg (t3 (wE a v))):=
 h.Vq.enter 60 rfl fun X bb hfit hp=>by
  refine sh ?_
  refine ae.pure h.n251.E5.hb (B7 h.n251 a 0 (by omega)) rfl ?_
  refine sh ?_
  refine ae.pure h.n252.K7.hb (Ij h.n252 (ha.rw 0) hv) rfl ?_
  refine sh ?_
  refine ae.pure h.n251.E5.hb (B7 h.n251 a 1 (by omega)) rfl ?_
  refine sh ?_
  refine ae.pure h.n252.K7.hb (Ij h.n252 (ha.rw 1) hv) rfl ?_
  refine sh ?_
  refine ae.pure h.n251.E5.hb (B7 h.n251 a 2 (by omega)) rfl ?_
  refine sh ?_
  refine ae.pure h.n252.K7.hb (Ij h.n252 (ha.rw 2) hv) rfl ?_
  refine sh ?_
  exact rT
theorem Io{R:Env}(h:PE R){a:Af}{v:T3}(ha:a.I)(hv:v.I):R.Pc 233 [.agg a.row,.agg (t3 v)] (.agg (t3 (qk a v))):=
 h.Vs.enter 60 rfl fun X bb hfit hp=>by
  refine sh ?_
  refine ae.pure h.n231.Vq.hb (Mb h.n231 ha hv) rfl ?_
  have i1:=Db a v
  have c1:=Rz h.n246 [wE a v,a.t] (by simp) (by intro x hx; simp at hx; rcases hx with rfl|rfl; exact i1; exact ha.t)
  rw[show [wE a v,a.t].foldl vj z3=qk a v by simp[XY i1,qk]]at c1
  refine sh ?_
  refine cM true [] (c1.mc h.n246.Vh.hb) ?_
  repeat (intro _; first|refine eK ?_|refine eP ?_)
  refine sh ?_
  exact rT
theorem Ip{R:Env}(h:QG R){a:Af}{v:T3}(ha:a.I)(hv:v.I):R.Pc 232 [.agg a.row,.agg (t3 v)] (.agg (t3 (wE a v))):=
 h.WR.enter 60 rfl fun X bb hfit hp=>by
  refine sh ?_
  refine aj.one 100 ?_
  refine sh ?_
  refine af (by decide) ?_
  refine sh ?_
  refine ae.pure h.n253.Lx.hb (B6 h.n253 (ha.rw 0) hv) rfl ?_
  refine sh ?_
  refine aj.one 100 ?_
  refine sh ?_
  refine af (by decide) ?_
  refine sh ?_
  refine ae.pure h.n253.Lx.hb (B6 h.n253 (ha.rw 1) hv) rfl ?_
  refine sh ?_
  refine aj.one 100 ?_
  refine sh ?_
  refine af (by decide) ?_
  refine sh ?_
  refine ae.pure h.n253.Lx.hb (B6 h.n253 (ha.rw 2) hv) rfl ?_
  refine sh ?_
  refine aj.one 100 ?_
  refine sh ?_
  refine ay (by decide) ?_
  refine sh ?_
  refine tD rfl ?_
  refine sh ?_
  refine tD rfl ?_
  refine sh ?_
  refine tD rfl ?_
  refine sh ?_
  exact rT
theorem Fq{R:Env}(h:QH R){a:Af}{v:T3}(ha:a.I)(hv:v.I):R.Pc 234 [.agg a.row,.agg (t3 v)] (.agg (t3 (qk a v))):=
 h.WT.enter 60 rfl fun X bb hfit hp=>by
  refine sh ?_
  refine ae.pure h.n232.WR.hb (Ip h.n232 ha hv) rfl ?_
  refine sh ?_
  refine ae.pure h.n254.WK.hb (L8 h.n254 (Db a v) ha.t) rfl ?_
  refine sh ?_
  exact rT
theorem dv{x:Int}(hx:fP x):cg x=decide (1099511627776<nV x):=by
 rw[cH]at hx
 unfold cg nV j4
 rw[Bool.eq_iff_iff]
 simp only[Bool.or_eq_true,decide_eq_true_eq]
 repeat' split
 all_goals omega
theorem bF{a:Af}{x:Int}(hx:x ∈ ms a)(h:cg x=true):vm a=2:=by
 unfold vm
 rw[if_pos (List.any_eq_true.2 ⟨x,hx,h⟩)]
theorem Iq{R:Env}(h:PF R){a:Af}(ha:a.I):R.Pc 235 [.agg a.row] (.int .i64 (vm a)):=
 h.Vu.enter 100 rfl fun X bb hfit hp=>by
  refine sh ?_
  refine aj.one 100 ?_
  refine sh ?_
  refine af (by decide) ?_
  refine sh ?_
  refine ae.pure h.n255.qi.hb (iR h.n255 ha.m0) rfl ?_
  refine sh ?_
  refine cS (fun o0=> ?_) (fun o0=> ?_)
  ·rw[bF (x:=a.m0) (by simp[ms]) (by rw[dv ha.m0]; simpa using o0)]
   refine sh ?_
   exact rT
  ·skip
   refine sh ?_
   refine aj.one 100 ?_
   refine sh ?_
   refine af (by decide) ?_
   refine sh ?_
   refine ae.pure h.n255.qi.hb (iR h.n255 ha.m1) rfl ?_
   refine sh ?_
   refine cS (fun o1=> ?_) (fun o1=> ?_)
   ·rw[bF (x:=a.m1) (by simp[ms]) (by rw[dv ha.m1]; simpa using o1)]
    refine sh ?_
    exact rT
   ·skip
    refine sh ?_
    refine aj.one 100 ?_
    refine sh ?_
    refine af (by decide) ?_
    refine sh ?_
    refine ae.pure h.n255.qi.hb (iR h.n255 ha.m2) rfl ?_
    refine sh ?_
    refine cS (fun o2=> ?_) (fun o2=> ?_)
    ·rw[bF (x:=a.m2) (by simp[ms]) (by rw[dv ha.m2]; simpa using o2)]
     refine sh ?_
     exact rT
    ·skip
     refine sh ?_
     refine aj.one 100 ?_
     refine sh ?_
     refine af (by decide) ?_
     refine sh ?_
     refine ae.pure h.n255.qi.hb (iR h.n255 ha.m3) rfl ?_
     refine sh ?_
     refine cS (fun o3=> ?_) (fun o3=> ?_)
     ·rw[bF (x:=a.m3) (by simp[ms]) (by rw[dv ha.m3]; simpa using o3)]
      refine sh ?_
      exact rT
     ·skip
      refine sh ?_
      refine aj.one 100 ?_
      refine sh ?_
      refine af (by decide) ?_
      refine sh ?_
      refine ae.pure h.n255.qi.hb (iR h.n255 ha.m4) rfl ?_
      refine sh ?_
      refine cS (fun o4=> ?_) (fun o4=> ?_)
      ·rw[bF (x:=a.m4) (by simp[ms]) (by rw[dv ha.m4]; simpa using o4)]
       refine sh ?_
       exact rT
      ·skip
       refine sh ?_
       refine aj.one 100 ?_
       refine sh ?_
       refine af (by decide) ?_
       refine sh ?_
       refine ae.pure h.n255.qi.hb (iR h.n255 ha.m5) rfl ?_
       refine sh ?_
       refine cS (fun o5=> ?_) (fun o5=> ?_)
       ·rw[bF (x:=a.m5) (by simp[ms]) (by rw[dv ha.m5]; simpa using o5)]
        refine sh ?_
        exact rT
       ·skip
        refine sh ?_
        refine aj.one 100 ?_
        refine sh ?_
        refine af (by decide) ?_
        refine sh ?_
        refine ae.pure h.n255.qi.hb (iR h.n255 ha.m6) rfl ?_
        refine sh ?_
        refine cS (fun o6=> ?_) (fun o6=> ?_)
        ·rw[bF (x:=a.m6) (by simp[ms]) (by rw[dv ha.m6]; simpa using o6)]
         refine sh ?_
         exact rT
        ·skip
         refine sh ?_
         refine aj.one 100 ?_
         refine sh ?_
         refine af (by decide) ?_
         refine sh ?_
         refine ae.pure h.n255.qi.hb (iR h.n255 ha.m7) rfl ?_
         refine sh ?_
         refine cS (fun o7=> ?_) (fun o7=> ?_)
         ·rw[bF (x:=a.m7) (by simp[ms]) (by rw[dv ha.m7]; simpa using o7)]
          refine sh ?_
          exact rT
         ·skip
          refine sh ?_
          refine aj.one 100 ?_
          refine sh ?_
          refine af (by decide) ?_
          refine sh ?_
          refine ae.pure h.n255.qi.hb (iR h.n255 ha.m8) rfl ?_
          refine sh ?_
          refine cS (fun o8=> ?_) (fun o8=> ?_)
          ·rw[bF (x:=a.m8) (by simp[ms]) (by rw[dv ha.m8]; simpa using o8)]
           refine sh ?_
           exact rT
          ·skip
           refine sh ?_
           refine aj.one 100 ?_
           refine sh ?_
           refine ay (by decide) ?_
           have hno:(ms a).any cg=false:=by
            simp only[ms,List.any_cons,List.any_nil,(dv ha.m0).trans (decide_eq_false (by omega)),(dv ha.m1).trans (decide_eq_false (by omega)),(dv ha.m2).trans (decide_eq_false (by omega)),(dv ha.m3).trans (decide_eq_false (by omega)),(dv ha.m4).trans (decide_eq_false (by omega)),(dv ha.m5).trans (decide_eq_false (by omega)),(dv ha.m6).trans (decide_eq_false (by omega)),(dv ha.m7).trans (decide_eq_false (by omega)),(dv ha.m8).trans (decide_eq_false (by omega))]
            rfl
           unfold vm
           rw[if_neg (by rw[hno]; simp)]
           refine sh ?_
           refine ae.pure h.n256.Vj.hb (L6 h.n256 ha.t) rfl ?_
           refine sh ?_
           refine cS (fun w=> ?_) (fun w=> ?_)
           ·rw[if_pos (by omega)]
            refine sh ?_
            exact rT
           ·rw[if_neg (by omega)]
            refine sh ?_
            exact rT
theorem Fs{R:Env}(h:QI R){a:Af}(ha:a.I):R.Pc 236 [.agg a.row] (.int .i64 (vm a)):=
 h.WV.enter 100 rfl fun X bb hfit hp=>by
  refine sh ?_
  refine aj.one 100 ?_
  refine sh ?_
  refine af (by decide) ?_
  refine sh ?_
  refine cS (fun o0=> ?_) (fun o0=> ?_)
  ·rw[bF (x:=a.m0) (by simp[ms]) (by simp[cg]; omega)]
   refine sh ?_
   exact rT
  ·refine sh ?_
   refine cS (fun q0=> ?_) (fun q0=> ?_)
   ·rw[bF (x:=a.m0) (by simp[ms]) (by simp[cg]; omega)]
    refine sh ?_
    exact rT
   ·skip
    refine sh ?_
    refine aj.one 100 ?_
    refine sh ?_
    refine af (by decide) ?_
    refine sh ?_
    refine cS (fun o1=> ?_) (fun o1=> ?_)
    ·rw[bF (x:=a.m1) (by simp[ms]) (by simp[cg]; omega)]
     refine sh ?_
     exact rT
    ·refine sh ?_
     refine cS (fun q1=> ?_) (fun q1=> ?_)
     ·rw[bF (x:=a.m1) (by simp[ms]) (by simp[cg]; omega)]
      refine sh ?_
      exact rT
     ·skip
      refine sh ?_
      refine aj.one 100 ?_
      refine sh ?_
      refine af (by decide) ?_
      refine sh ?_
      refine cS (fun o2=> ?_) (fun o2=> ?_)
      ·rw[bF (x:=a.m2) (by simp[ms]) (by simp[cg]; omega)]
       refine sh ?_
       exact rT
      ·refine sh ?_
       refine cS (fun q2=> ?_) (fun q2=> ?_)
       ·rw[bF (x:=a.m2) (by simp[ms]) (by simp[cg]; omega)]
        refine sh ?_
        exact rT
       ·skip
        refine sh ?_
        refine aj.one 100 ?_
        refine sh ?_
        refine af (by decide) ?_
        refine sh ?_
        refine cS (fun o3=> ?_) (fun o3=> ?_)
        ·rw[bF (x:=a.m3) (by simp[ms]) (by simp[cg]; omega)]
         refine sh ?_
         exact rT
        ·refine sh ?_
         refine cS (fun q3=> ?_) (fun q3=> ?_)
         ·rw[bF (x:=a.m3) (by simp[ms]) (by simp[cg]; omega)]
          refine sh ?_
          exact rT
         ·skip
          refine sh ?_
          refine aj.one 100 ?_
          refine sh ?_
          refine af (by decide) ?_
          refine sh ?_
          refine cS (fun o4=> ?_) (fun o4=> ?_)
          ·rw[bF (x:=a.m4) (by simp[ms]) (by simp[cg]; omega)]
           refine sh ?_
           exact rT
          ·refine sh ?_
           refine cS (fun q4=> ?_) (fun q4=> ?_)
           ·rw[bF (x:=a.m4) (by simp[ms]) (by simp[cg]; omega)]
            refine sh ?_
            exact rT
           ·skip
            refine sh ?_
            refine aj.one 100 ?_
            refine sh ?_
            refine af (by decide) ?_
            refine sh ?_
            refine cS (fun o5=> ?_) (fun o5=> ?_)
            ·rw[bF (x:=a.m5) (by simp[ms]) (by simp[cg]; omega)]
             refine sh ?_
             exact rT
            ·refine sh ?_
             refine cS (fun q5=> ?_) (fun q5=> ?_)
             ·rw[bF (x:=a.m5) (by simp[ms]) (by simp[cg]; omega)]
              refine sh ?_
              exact rT
             ·skip
              refine sh ?_
              refine aj.one 100 ?_
              refine sh ?_
              refine af (by decide) ?_
              refine sh ?_
              refine cS (fun o6=> ?_) (fun o6=> ?_)
              ·rw[bF (x:=a.m6) (by simp[ms]) (by simp[cg]; omega)]
               refine sh ?_
               exact rT
              ·refine sh ?_
               refine cS (fun q6=> ?_) (fun q6=> ?_)
               ·rw[bF (x:=a.m6) (by simp[ms]) (by simp[cg]; omega)]
                refine sh ?_
                exact rT
               ·skip
                refine sh ?_
                refine aj.one 100 ?_
                refine sh ?_
                refine af (by decide) ?_
                refine sh ?_
                refine cS (fun o7=> ?_) (fun o7=> ?_)
                ·rw[bF (x:=a.m7) (by simp[ms]) (by simp[cg]; omega)]
                 refine sh ?_
                 exact rT
                ·refine sh ?_
                 refine cS (fun q7=> ?_) (fun q7=> ?_)
                 ·rw[bF (x:=a.m7) (by simp[ms]) (by simp[cg]; omega)]
                  refine sh ?_
                  exact rT
                 ·skip
                  refine sh ?_
                  refine aj.one 100 ?_
                  refine sh ?_
                  refine af (by decide) ?_
                  refine sh ?_
                  refine cS (fun o8=> ?_) (fun o8=> ?_)
                  ·rw[bF (x:=a.m8) (by simp[ms]) (by simp[cg]; omega)]
                   refine sh ?_
                   exact rT
                  ·refine sh ?_
                   refine cS (fun q8=> ?_) (fun q8=> ?_)
                   ·rw[bF (x:=a.m8) (by simp[ms]) (by simp[cg]; omega)]
                    refine sh ?_
                    exact rT
                   ·skip
                    refine sh ?_
                    refine aj.one 100 ?_
                    refine sh ?_
                    refine ay (by decide) ?_
                    have hno:(ms a).any cg=false:=by
                     simp only[ms,List.any_cons,List.any_nil,(show cg a.m0=false by simp[cg]; omega),(show cg a.m1=false by simp[cg]; omega),(show cg a.m2=false by simp[cg]; omega),(show cg a.m3=false by simp[cg]; omega),(show cg a.m4=false by simp[cg]; omega),(show cg a.m5=false by simp[cg]; omega),(show cg a.m6=false by simp[cg]; omega),(show cg a.m7=false by simp[cg]; omega),(show cg a.m8=false by simp[cg]; omega)]
                     rfl
                    unfold vm
                    rw[if_neg (by rw[hno]; simp)]
                    refine sh ?_
                    refine ae.pure h.n257.WN.hb (L9 h.n257 ha.t) rfl ?_
                    refine sh ?_
                    refine cS (fun w=> ?_) (fun w=> ?_)
                    ·rw[if_pos (by omega)]
                     refine sh ?_
                     exact rT
                    ·rw[if_neg (by omega)]
                     refine sh ?_
                     exact rT
theorem Md{R:Env}(h:PG R){v:T3}(hv:v.I):R.Pc 243 [.agg (t3 v)] (.aQ [.agg (t3 (nW v).1),.int .i64 (nW v).2]):=
 h.Vx.enter 100 rfl fun X bb hfit hp=>by
  refine sh ?_
  refine ae.pure h.n260.K2.hb (tN h.n260 hv.1) rfl ?_
  refine sh ?_
  refine ae.pure h.n260.K2.hb (tN h.n260 hv.2.1) rfl ?_
  refine sh ?_
  refine ae.pure h.n260.K2.hb (tN h.n260 hv.2.2) rfl ?_
  generalize hq:nW v=q
  unfold nW LZ at hq
  generalize fD v.a=x at*
  generalize fD v.b=y at*
  generalize fD v.c=z at*
  unfold Fi at hq
  refine sh ?_
  refine cS (fun h1=> ?_) (fun h1=> ?_)
  ·rw[if_pos (by simp; omega)]at hq
   subst hq
   refine sh ?_
   exact rT
  ·refine sh ?_
   refine cS (fun h2=> ?_) (fun h2=> ?_)
   ·rw[if_pos (by simp; omega)]at hq
    subst hq
    refine sh ?_
    exact rT
   ·rw[if_neg (by simp; omega)]at hq
    subst hq
    refine sh ?_
    exact rT
theorem Ir{R:Env}(h:QJ R){v:T3}(hv:v.I):R.Pc 244 [.agg (t3 v)] (.aQ [.agg (t3 (nW v).1),.int .i64 (nW v).2]):=
 h.WX.enter 100 rfl fun X bb hfit hp=>by
  refine sh ?_
  refine ae.pure h.n261.Lv.hb (tQ h.n261 hv.1) rfl ?_
  refine sh ?_
  refine ae.pure h.n261.Lv.hb (tQ h.n261 hv.2.1) rfl ?_
  refine sh ?_
  refine ae.pure h.n261.Lv.hb (tQ h.n261 hv.2.2) rfl ?_
  generalize hq:nW v=q
  unfold nW LZ at hq
  generalize fD v.a=x at*
  generalize fD v.b=y at*
  generalize fD v.c=z at*
  unfold Fi at hq
  by_cases ho:(65536<x\/ x< -65536)\/(65536<y\/ y< -65536)\/(65536<z\/ z< -65536)
  ·rw[if_pos (by simp; omega)]at hq
   subst hq
   refine sh ?_
   refine cS (fun h1=> ?_) (fun h1=> ?_)
   ·refine sh ?_
    exact rT
   ·refine sh ?_
    refine cS (fun h2=> ?_) (fun h2=> ?_)
    ·refine sh ?_
     exact rT
    ·refine sh ?_
     refine cS (fun h3=> ?_) (fun h3=> ?_)
     ·refine sh ?_
      exact rT
     ·refine sh ?_
      refine cS (fun h4=> ?_) (fun h4=> ?_)
      ·refine sh ?_
       exact rT
      ·refine sh ?_
       refine cS (fun h5=> ?_) (fun h5=> ?_)
       ·refine sh ?_
        exact rT
       ·refine sh ?_
        refine af (by (simp; omega)) ?_
        refine sh ?_
        exact rT
  ·rw[if_neg (by simp; omega)]at hq
   subst hq
   refine sh ?_
   refine ay (by (simp; omega)) ?_
   refine sh ?_
   refine ay (by (simp; omega)) ?_
   refine sh ?_
   refine ay (by (simp; omega)) ?_
   refine sh ?_
   refine ay (by (simp; omega)) ?_
   refine sh ?_
   refine ay (by (simp; omega)) ?_
   refine sh ?_
   refine ay (by (simp; omega)) ?_
   refine sh ?_
   exact rT
theorem fK{R:Env}(h:La R){a:Af}{p:T3}(ha:a.I)(tO:p.I):R.Pc 241 [.agg a.row,.agg (t3 p)] (.aQ [.agg (t3 (bK a p).1),.int .i64 (bK a p).2]):=
 h.tG.enter 100 rfl fun X bb hfit hp=>by
  refine sh ?_
  refine ae.pure h.n235.Vu.hb (Iq h.n235 ha) rfl ?_
  generalize hq:bK a p=q
  unfold bK at hq
  by_cases hc:vm a=0
  ·rw[if_neg (by simpa using hc)]at hq
   refine sh ?_
   refine ay (by simpa using hc) ?_
   refine sh ?_
   refine ae.pure h.n249.Vl.hb (RA h.n249 tO) rfl ?_
   refine sh ?_
   refine ae.pure h.n233.Vs.hb (Io h.n233 ha (H7 p)) rfl ?_
   refine sh ?_
   refine ae.pure h.n243.Vx.hb (Md h.n243 (zX a (SJ p))) rfl ?_
   subst hq
   refine sh ?_
   exact rT
  ·rw[if_pos (by simpa using hc)]at hq
   refine sh ?_
   refine af (by simpa using hc) ?_
   subst hq
   refine sh ?_
   exact rT
theorem fj{R:Env}(h:Ly R){a:Af}{p:T3}(ha:a.I)(tO:p.I):R.Pc 242 [.agg a.row,.agg (t3 p)] (.aQ [.agg (t3 (bK a p).1),.int .i64 (bK a p).2]):=
 h.vh.enter 100 rfl fun X bb hfit hp=>by
  refine sh ?_
  refine ae.pure h.n236.WV.hb (Fs h.n236 ha) rfl ?_
  generalize hq:bK a p=q
  unfold bK at hq
  by_cases hc:vm a=0
  ·rw[if_neg (by simpa using hc)]at hq
   refine sh ?_
   refine ay (by simpa using hc) ?_
   refine sh ?_
   refine ae.pure h.n259.WP.hb (RC h.n259 tO) rfl ?_
   refine sh ?_
   refine ae.pure h.n234.WT.hb (Fq h.n234 ha (H7 p)) rfl ?_
   refine sh ?_
   refine ae.pure h.n244.WX.hb (Ir h.n244 (zX a (SJ p))) rfl ?_
   subst hq
   refine sh ?_
   exact rT
  ·rw[if_pos (by simpa using hc)]at hq
   refine sh ?_
   refine af (by simpa using hc) ?_
   subst hq
   refine sh ?_
   exact rT
end Go.UM
namespace Go.UM
open Go.AM
set_option maxRecDepth 4000
end Go.UM
namespace Go.UM
open Go.AM
set_option maxRecDepth 4000
structure Gr where
 par:Int
 t:Af
 bc:Int
 dp:Int
 cw:Int
def Gr.row(g:Gr):List AV:=[.int .i64 g.par,.int .i64 g.t.m0,.int .i64 g.t.m1,.int .i64 g.t.m2,.int .i64 g.t.m3,.int .i64 g.t.m4,.int .i64 g.t.m5,.int .i64 g.t.m6,.int .i64 g.t.m7,.int .i64 g.t.m8,.int .i64 g.t.t.a,.int .i64 g.t.t.b,.int .i64 g.t.t.c,.int .i64 g.bc,.int .i64 g.dp,.int .i64 g.cw]
end Go.UM
namespace Go.UM
open Go.AM
set_option maxRecDepth 4000
end Go.UM
namespace Go.UM
open Go.AM
set_option maxRecDepth 4000
end Go.UM
namespace Go.UM
open Go.AM
set_option maxRecDepth 4000
end Go.UM
namespace Go.UM
open Go.AM
set_option maxRecDepth 4000
def z4:Af:=⟨0,0,0,0,0,0,0,0,0,z3⟩
end Go.UM
namespace Go.UM
open Go.AM
set_option maxRecDepth 4000
structure In where
 bc:Int
 dp:Int
 cw:Int
 n:Int
 t:Af
def In.row(x:In):List AV:=[.int .i64 x.bc,.int .i64 x.dp,.int .i64 x.cw,.int .i64 x.n,.int .i64 x.t.m0,.int .i64 x.t.m1,.int .i64 x.t.m2,.int .i64 x.t.m3,.int .i64 x.t.m4,.int .i64 x.t.m5,.int .i64 x.t.m6,.int .i64 x.t.m7,.int .i64 x.t.m8,.int .i64 x.t.t.a,.int .i64 x.t.t.b,.int .i64 x.t.t.c]
def cN(l:List In):List (List AV):=l.map In.row
@[simp] theorem B8(l:List In):(cN l).length=l.length:=by simp[cN]
@[simp] theorem B9(a b:List In):cN (a++b)=cN a++cN b:=by simp[cN]
@[simp] theorem ZF(l:List In):ox (cN l):=by simp[cN,In.row]
instance {l:List In}:iU (cN l) l.length:=⟨B8 l⟩
end Go.UM
namespace Go.UM
open Go.AM
set_option maxRecDepth 4000
theorem afv{kc:List AV}{es:List (List AV)}{K:AV->Prop}{c:AV}(g:∀r ∈ es,jG r=true)(e:DY (bR kc es)=c)(k:K c):AFv kc es K:=⟨g,by rw[e]; exact k⟩
end Go.UM
namespace Go.UM
open Go.AM
set_option maxRecDepth 4000
end Go.UM
namespace Go.UM
open Go.AM
set_option maxRecDepth 4000
def p2(x:Int × Int):List AV:=[.int .i64 x.1,.int .i64 x.2]
def dH(l:List (Int × Int)):List (List AV):=l.map p2
@[simp] theorem X3:dH []=[]:=rfl
@[simp] theorem zY(l:List (Int × Int)):(dH l).length=l.length:=by simp[dH]
@[simp] theorem X4(l:List (Int × Int)):ox (dH l):=by simp[dH,p2]
theorem Ft(l:List (Int × Int))(k:Nat):(dH l).take k=dH (l.take k):=by simp[dH,List.map_take]
instance {l:List (Int × Int)}:iU (dH l) l.length:=⟨zY l⟩
structure Ms where
 v:List T3
 uv:List (Int × Int)
 t:List T3
def Ms.row(m:Ms):List AV:=[.aD 3 (bW m.v),.aD 2 (dH m.uv),.aD 3 (bW m.t)]
def lV(p:T3):Bool:= !(decide (-4096<=p.a/\p.a<=4096/\ -4096<=p.b/\p.b<=4096/\ -4096<=p.c/\p.c<=4096))
def tR(x:Int × Int):Bool:= !(decide (0<=x.1/\x.1<=65535/\0<=x.2/\x.2<=65535))
def nu(n:Nat)(t:T3):Bool:= !(decide (0<=t.a/\t.a<n/\0<=t.b/\t.b<n/\0<=t.c/\t.c<n/\t.a≠t.b/\t.b≠t.c/\t.c≠t.a))
def lW(m:Ms):Int:=
 if 64<m.v.length\/ 64<m.t.length then 3
 else if m.v.length=0\/ m.t.length=0\/ m.uv.length≠m.v.length then 5
 else if m.v.any lV=true then 8
 else if m.uv.any tR=true\/ m.t.any (nu m.v.length)=true then 5 else 0
def pF{α:Type}(l:List α)(p:α->Bool):Int:=if l.any p=true then (l.findIdx p:Int)else -1
theorem pG{α:Type}{p:α->Bool}{x:α}:∀{l:List α}{i:Nat},l[i]? =some x->p x=true->(l.take i).any p=false->l.findIdx p=i
 |[],_,h,_,_=>by simp at h
 |a::r,0,h,hp,_=>by simp at h; subst h; simp[List.findIdx_cons,hp]
 |a::r,i+1,h,hp,hn=>by
  simp only[List.take_succ_cons,List.any_cons,Bool.or_eq_false_iff]at hn
  rw[List.findIdx_cons,hn.1,pG (l:=r) (i:=i) (by simpa using h) hp hn.2]
  rfl
theorem eB{α:Type}{p:α->Bool}{l:List α}{i:Nat}{x:α}(h:l[i]? =some x)(hp:p x=true):l.any p=true:=List.any_eq_true.2 ⟨x,List.mem_of_getElem? h,hp⟩
theorem dt{α:Type}{l:List α}{k:Nat}{x:α}{p:α->Bool}(h:l[k]? =some x):(l.take (k+1)).any p=((l.take k).any p||p x):=by
 rw[ao h]; simp
theorem rW{α:Type}{l:List α}{p:α->Bool}:decide (pF l p>= 0)=l.any p:=by
 unfold pF
 split
 ·rename_i h; rw[h]; simp
 ·rename_i h; simp at h ⊢; exact h
theorem Is{R:Env}(h:O2 R)(g:Nat)(hb:cZ R.P (R.ft g))(l:List T3)(p:T3->Bool)(hc:∀x ∈ l,R.Pc g [.agg (t3 x)] (.bool (p x)))(hl:l.length<=1073741824):R.Pc 217 [.aD 3 (bW l),R.cl g []] (.int .i64 (pF l p)):=
 h.Ui.enter 100 rfl fun X bb hfit hp=>by
  refine sh ?_
  refine eH 100 (fun i:Nat=>i<=l.length/\(l.take i).any p=false) (fun i=>⟨[(0,.aD 3 (bW l)),(1,R.cl g []),(7,.int .i64 l.length),(8,.int .i64 i)],[],0⟩) (fun i=>l.length - i) (0) ?_ ?_
  ·exact⟨Nat.zero_le _,by simp⟩
  ·intro i hi
   dsimp only
   refine sh ?_
   refine cS (fun h1=> ?_) (fun h1=> ?_)
   ·obtain⟨x,hx⟩:∃u_,l[i]? =some u_:=⟨_,List.getElem?_eq_getElem (by first|omega|(simp<;>omega))⟩
    refine sh ?_
    refine aa hx ?_
    refine sh ?_
    refine ae.pure hb (hc x (List.mem_of_getElem? hx)) rfl ?_
    refine sh ?_
    refine cS (fun h2=> ?_) (fun h2=> ?_)
    ·refine sh ?_
     refine rT ?_
     refine bj ?_
     unfold pF
     rw[if_pos (eB hx h2),pG hx h2 hi.2]
    ·refine sh ?_
     refine lO (i+1) ?_ ?_
     ·refine⟨by omega,?_⟩
      rw[dt hx,hi.2,h2]; rfl
     ·omega
   ·refine sh ?_
    refine rT ?_
    refine bj ?_
    unfold pF
    have h3:=hi.2
    rw[List.take_of_length_le (by omega)]at h3
    rw[if_neg (by simp[h3])]
theorem Fu{R:Env}(h:O3 R)(g:Nat)(hb:cZ R.P (R.ft g))(l:List T3)(p:T3->Bool)(hc:∀x ∈ l,R.Pc g [.agg (t3 x)] (.bool (p x)))(hl:l.length<=1073741824):R.Pc 209 [.aD 3 (bW l),R.cl g []] (.bool (l.any p)):=
 h.Uk.enter 100 rfl fun X bb hfit hp=>by
  refine sh ?_
  refine ae.pure h.n217.Ui.hb (Is h.n217 g hb l p hc hl) rfl ?_
  refine sh ?_
  refine rT ?_
  refine bj ?_
  exact rW
theorem Iu{R:Env}(h:O4 R)(g:Nat)(hb:cZ R.P (R.ft g))(l:List (Int × Int))(p:Int × Int->Bool)(hc:∀x ∈ l,R.Pc g [.agg (p2 x)] (.bool (p x)))(hl:l.length<=1073741824):R.Pc 218 [.aD 2 (dH l),R.cl g []] (.int .i64 (pF l p)):=
 h.Um.enter 100 rfl fun X bb hfit hp=>by
  refine sh ?_
  refine eH 100 (fun i:Nat=>i<=l.length/\(l.take i).any p=false) (fun i=>⟨[(0,.aD 2 (dH l)),(1,R.cl g []),(7,.int .i64 l.length),(8,.int .i64 i)],[],0⟩) (fun i=>l.length - i) (0) ?_ ?_
  ·exact⟨Nat.zero_le _,by simp⟩
  ·intro i hi
   dsimp only
   refine sh ?_
   refine cS (fun h1=> ?_) (fun h1=> ?_)
   ·obtain⟨x,hx⟩:∃u_,l[i]? =some u_:=⟨_,List.getElem?_eq_getElem (by first|omega|(simp<;>omega))⟩
    refine sh ?_
    refine aa hx ?_
    refine sh ?_
    refine ae.pure hb (hc x (List.mem_of_getElem? hx)) rfl ?_
    refine sh ?_
    refine cS (fun h2=> ?_) (fun h2=> ?_)
    ·refine sh ?_
     refine rT ?_
     refine bj ?_
     unfold pF
     rw[if_pos (eB hx h2),pG hx h2 hi.2]
    ·refine sh ?_
     refine lO (i+1) ?_ ?_
     ·refine⟨by omega,?_⟩
      rw[dt hx,hi.2,h2]; rfl
     ·omega
   ·refine sh ?_
    refine rT ?_
    refine bj ?_
    unfold pF
    have h3:=hi.2
    rw[List.take_of_length_le (by omega)]at h3
    rw[if_neg (by simp[h3])]
theorem Fv{R:Env}(h:O5 R)(g:Nat)(hb:cZ R.P (R.ft g))(l:List (Int × Int))(p:Int × Int->Bool)(hc:∀x ∈ l,R.Pc g [.agg (p2 x)] (.bool (p x)))(hl:l.length<=1073741824):R.Pc 210 [.aD 2 (dH l),R.cl g []] (.bool (l.any p)):=
 h.Uo.enter 100 rfl fun X bb hfit hp=>by
  refine sh ?_
  refine ae.pure h.n218.Um.hb (Iu h.n218 g hb l p hc hl) rfl ?_
  refine sh ?_
  refine rT ?_
  refine bj ?_
  exact rW
def Iv(R:Env)(m:Ms):ah:=[(0,.var (R.ty 25) m.row)]
theorem Iw{R:Env}(h:O6 R)(g:Nat)(l:List T3)(p:T3->Bool)(m:Ms)(hc:∀x ∈ l,R.Mc g [.agg (t3 x),.loc 0 1 0 0] (Iv R m) (.bool (p x)) (Iv R m) 1)(hl:l.length<=1073741824):
  R.Mc 219 [.aD 3 (bW l),R.cl g [.loc 0 1 0 0]] (Iv R m) (.int .i64 (pF l p)) (Iv R m) 1:=
 h.abq.aY 100 1 rfl rfl rfl fun X bb hfit hp=>by
  refine sh ?_
  refine eH 100 (fun i:Nat=>i<=l.length/\(l.take i).any p=false) (fun i=>⟨[(0,.aD 3 (bW l)),(1,R.cl g [.loc 0 1 0 0]),(7,.int .i64 l.length),(8,.int .i64 i)],Iv R m,1⟩) (fun i=>l.length - i) (0) ?_ ?_
  ·exact⟨Nat.zero_le _,by simp⟩
  ·intro i hi
   dsimp only
   refine sh ?_
   refine cS (fun h1=> ?_) (fun h1=> ?_)
   ·obtain⟨x,hx⟩:∃u_,l[i]? =some u_:=⟨_,List.getElem?_eq_getElem (by first|omega|(simp<;>omega))⟩
    refine sh ?_
    refine aa hx ?_
    refine sh ?_
    refine cM false [0] (hc x (List.mem_of_getElem? hx)) ?_
    repeat (intro _; first|refine eK ?_|refine eP ?_)
    refine sh ?_
    refine cS (fun h2=> ?_) (fun h2=> ?_)
    ·refine sh ?_
     refine rM [0] ?_
     refine bj ?_
     unfold pF
     rw[if_pos (eB hx h2),pG hx h2 hi.2]
    ·refine sh ?_
     refine lO (i+1) ?_ ?_
     ·refine⟨by omega,?_⟩
      rw[dt hx,hi.2,h2]; rfl
     ·omega
   ·refine sh ?_
    refine rM [0] ?_
    refine bj ?_
    unfold pF
    have h3:=hi.2
    rw[List.take_of_length_le (by omega)]at h3
    rw[if_neg (by simp[h3])]
theorem Fw{R:Env}(h:O7 R)(g:Nat)(l:List T3)(p:T3->Bool)(m:Ms)(hc:∀x ∈ l,R.Mc g [.agg (t3 x),.loc 0 1 0 0] (Iv R m) (.bool (p x)) (Iv R m) 1)(hl:l.length<=1073741824):
  R.Mc 211 [.aD 3 (bW l),R.cl g [.loc 0 1 0 0]] (Iv R m) (.bool (l.any p)) (Iv R m) 1:=
 h.abr.aY 100 1 rfl rfl rfl fun X bb hfit hp=>by
  refine sh ?_
  refine cM false [0] (Iw h.n219 g l p m hc hl) ?_
  repeat (intro _; first|refine eK ?_|refine eP ?_)
  refine sh ?_
  refine rM [0] ?_
  refine bj ?_
  exact rW
theorem X5{R:Env}(h:PJ R)(p:T3):R.Pc 206 [.agg (t3 p)] (.bool (lV p)):=
 h.VA.enter 60 rfl fun X bb hfit hp=>by
  unfold lV
  refine sh ?_
  refine cS (fun h1=> ?_) (fun h1=> ?_)
  ·refine sh ?_
   refine rT ?_
   refine bj ?_
   simp; omega
  ·refine sh ?_
   refine rT ?_
   refine bj ?_
   rw[Bool.eq_iff_iff]; simp only[Bool.not_eq_true',decide_eq_true_eq,decide_eq_false_iff_not]; omega
theorem RD{R:Env}(h:PK R)(p:Int × Int):R.Pc 207 [.agg (p2 p)] (.bool (tR p)):=
 h.VC.enter 60 rfl fun X bb hfit hp=>by
  unfold tR
  refine sh ?_
  refine cS (fun h1=> ?_) (fun h1=> ?_)
  ·refine sh ?_
   refine rT ?_
   refine bj ?_
   simp; omega
  ·refine sh ?_
   refine rT ?_
   refine bj ?_
   rw[Bool.eq_iff_iff]; simp only[Bool.not_eq_true',decide_eq_true_eq,decide_eq_false_iff_not]; omega
theorem X6{R:Env}(h:PL R)(m:Ms)(p:T3):R.Mc 208 [.agg (t3 p),.loc 0 1 0 0] (Iv R m) (.bool (nu m.v.length p)) (Iv R m) 1:=
 h.abB.aY 60 1 rfl rfl rfl fun X bb hfit hp=>by
  unfold nu
  refine sh ?_
  refine cS (fun h1=> ?_) (fun h1=> ?_)
  ·refine sh ?_
   refine rM [0] ?_
   refine bj ?_
   simp; omega
  ·refine sh ?_
   refine cS (fun h2=> ?_) (fun h2=> ?_)
   ·refine sh ?_
    refine rM [0] ?_
    refine bj ?_
    simp; omega
   ·refine sh ?_
    refine cS (fun h3=> ?_) (fun h3=> ?_)
    ·refine sh ?_
     refine rM [0] ?_
     refine bj ?_
     simp; omega
    ·refine sh ?_
     refine cS (fun h4=> ?_) (fun h4=> ?_)
     ·refine sh ?_
      refine rM [0] ?_
      refine bj ?_
      simp; omega
     ·refine sh ?_
      refine rM [0] ?_
      refine bj ?_
      rw[Bool.eq_iff_iff]; simp only[Bool.not_eq_true',decide_eq_true_eq,decide_eq_false_iff_not,beq_iff_eq]; omega
theorem zZ{R:Env}(h:Lb R)(m:Ms):R.Pc 193 [.agg m.row] (.int .i64 (lW m)):=
 h.PM.enter 100 rfl fun X bb hfit hp=>by
  unfold lW
  refine sh ?_
  refine cS (fun h1=> ?_) (fun h1=> ?_)
  ·rw[if_pos (.inl (by omega))]
   refine sh ?_
   exact rT
  ·refine sh ?_
   refine cS (fun h2=> ?_) (fun h2=> ?_)
   ·rw[if_pos (.inr (by omega))]
    refine sh ?_
    exact rT
   ·rw[if_neg (by omega)]
    refine sh ?_
    refine cS (fun h3=> ?_) (fun h3=> ?_)
    ·rw[if_pos (.inl (by omega))]
     refine sh ?_
     exact rT
    ·refine sh ?_
     refine cS (fun h4=> ?_) (fun h4=> ?_)
     ·rw[if_pos (.inr (.inl (by omega)))]
      refine sh ?_
      exact rT
     ·refine sh ?_
      refine cS (fun h5=> ?_) (fun h5=> ?_)
      ·rw[if_pos (.inr (.inr (by omega)))]
       refine sh ?_
       exact rT
      ·rw[if_neg (by omega)]
       refine sh ?_
       refine ae.pure h.n209.Uk.hb (Fu h.n209 206 h.n206.VA.hb m.v lV (fun x _=>X5 h.n206 x) (by omega)) rfl ?_
       refine sh ?_
       refine cS (fun h6=> ?_) (fun h6=> ?_)
       ·rw[if_pos h6]
        refine sh ?_
        exact rT
       ·rw[if_neg (by rw[h6]; decide)]
        refine sh ?_
        refine ae.pure h.n210.Uo.hb (Fv h.n210 207 h.n207.VC.hb m.uv tR (fun x _=>RD h.n207 x) (by omega)) rfl ?_
        refine sh ?_
        refine cS (fun h7=> ?_) (fun h7=> ?_)
        ·rw[if_pos (.inl h7)]
         refine sh ?_
         exact rT
        ·refine sh ?_
         refine cM false [0] (Fw h.n211 208 m.t (nu m.v.length) m (fun x _=>X6 h.n208 m x) (by omega)) ?_
         repeat (intro _; first|refine eK ?_|refine eP ?_)
         refine sh ?_
         refine cS (fun h8=> ?_) (fun h8=> ?_)
         ·rw[if_pos (.inr h8)]
          refine sh ?_
          exact rT
         ·rw[if_neg (by rw[h7,h8]; decide)]
          refine sh ?_
          exact rT
end Go.UM
