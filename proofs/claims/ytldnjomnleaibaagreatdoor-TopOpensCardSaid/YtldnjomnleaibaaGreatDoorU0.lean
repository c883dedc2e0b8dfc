/- Of the reckoning machine, and what is proved with it: texts joined by program. -/
import Derived.Test.YtldnjomnleaibaaGreatDoorK3
import Derived.Laws.Externs
set_option linter.all false
namespace Go.UM
open Go.AM
namespace Z
instance (n:Nat):OfNat Sc n:=⟨.t (OfNat.ofNat n)⟩
instance (n:Nat):OfNat wS n:=⟨.t (OfNat.ofNat n)⟩
theorem zt(n:Nat):(OfNat.ofNat n:Sc)=.t (OfNat.ofNat n):=rfl
theorem zr(n:Nat):(OfNat.ofNat n:wS)=.t (OfNat.ofNat n):=rfl
def o(d:Nat)(x:vq):bU:=⟨some d,none,x⟩
def m(d:Nat)(x:Sc):bU:=⟨some d,none,.mv x⟩
def l(d n:Nat)(x:Sc):bU:=⟨some d,none,.load false n x⟩
def g(d n:Nat)(x:Sc):bU:=⟨some d,none,.load true n x⟩
def f(d n:Nat)(x:Sc):bU:=⟨some d,none,.bF n x⟩
def b(d:Nat)(p:BinOp)(x y:Sc):bU:=⟨some d,none,.bin p x y⟩
def c(d n:Nat)(l:List Sc):bU:=⟨some d,none,.call n l⟩
def e(d:Nat)(x:Sc)(n:Nat):bU:=⟨some d,none,.ext x n⟩
def n(d:Nat)(x:Sc):bU:=⟨some d,none,.og x⟩
def w(d:Nat)(c a b:Sc):bU:=⟨some d,none,.pick c a b⟩
def x(d n:Nat)(a:Sc):bU:=⟨some d,none,.box n a⟩
def a(d n:Nat)(z:List AV):bU:=⟨some d,none,.alloc n z⟩
def u(d n:Nat)(x i:Sc):bU:=⟨some d,none,.IZ n x i⟩
def v(x:vq):bU:=⟨none,none,x⟩
def r(n:Nat)(x y:Sc):bU:=⟨none,none,.store n x y⟩
def i(n:Int):Sc:=.k (.int .i64 n)
def j(n:Int):AV:=.int .i64 n
def k(l:List Nat)(c:cE):cE:=.pY l c
def q(l:List bU)(c:cE):cE:=.seq (.ops l) c
def s(a b:cE):cE:=.seq a b
def p(l:List bU):cE:=.ops l
def h(c:Sc)(a b:cE):cE:=.cond c a b
def t(l:List bU):cE:=.seq (.ops l) .ret
def y(l:List Nat)(o:List bU)(c:cE):cE:=.pY l (.seq (.ops o) c)
def Z1:List AV:=[.int .u32 0,.int .u32 0,.int .u32 0,.int .u32 0,.int .u32 0,.int .u32 0,.int .u32 0,.int .u32 0,.int .u8 0,.int .u8 0,.int .u8 0,.int .u8 0,.int .u8 0,.int .u8 0,.int .u8 0,.int .u8 0,.int .u8 0,.int .u8 0,.int .u8 0,.int .u8 0,.int .u8 0,.int .u8 0,.int .u8 0,.int .u8 0,.int .u8 0,.int .u8 0,.int .u8 0,.int .u8 0,.int .u8 0,.int .u8 0,.int .u8 0,.int .u8 0,.int .u8 0,.int .u8 0,.int .u8 0,.int .u8 0,.int .u8 0,.int .u8 0,.int .u8 0,.int .u8 0,.int .u8 0,.int .u8 0,.int .u8 0,.int .u8 0,.int .u8 0,.int .u8 0,.int .u8 0,.int .u8 0,.int .u8 0,.int .u8 0,.int .u8 0,.int .u8 0,.int .u8 0,.int .u8 0,.int .u8 0,.int .u8 0,.int .u8 0,.int .u8 0,.int .u8 0,.int .u8 0,.int .u8 0,.int .u8 0,.int .u8 0,.int .u8 0,.int .u8 0,.int .u8 0,.int .u8 0,.int .u8 0,.int .u8 0,.int .u8 0,.int .u8 0,.int .u8 0,j 0]
def Z2:List AV:=[.int .u32 0,.int .u32 0,.int .u32 0,.int .u32 0,.int .u32 0,.int .u32 0,.int .u32 0,.int .u32 0,.int .u32 0,.int .u32 0,.int .u32 0,.int .u32 0,.int .u32 0,.int .u32 0,.int .u32 0,.int .u32 0,.int .u32 0,.int .u32 0,.int .u32 0,.int .u32 0,.int .u32 0,.int .u32 0,.int .u32 0,.int .u32 0,.int .u32 0,.int .u32 0,.int .u32 0,.int .u32 0,.int .u32 0,.int .u32 0,.int .u32 0,.int .u32 0,.int .u32 0,.int .u32 0,.int .u32 0,.int .u32 0,.int .u32 0,.int .u32 0,.int .u32 0,.int .u32 0,.int .u32 0,.int .u32 0,.int .u32 0,.int .u32 0,.int .u32 0,.int .u32 0,.int .u32 0,.int .u32 0,.int .u32 0,.int .u32 0,.int .u32 0,.int .u32 0,.int .u32 0,.int .u32 0,.int .u32 0,.int .u32 0,.int .u32 0,.int .u32 0,.int .u32 0,.int .u32 0,.int .u32 0,.int .u32 0,.int .u32 0,.int .u32 0]
def Z3:List AV:=[.int .u8 0,.int .u8 0,.int .u8 0,.int .u8 0,.int .u8 0,.int .u8 0,.int .u8 0,.int .u8 0,.int .u8 0,.int .u8 0,.int .u8 0,.int .u8 0,.int .u8 0,.int .u8 0,.int .u8 0,.int .u8 0,.int .u8 0,.int .u8 0,.int .u8 0,.int .u8 0,.int .u8 0,.int .u8 0,.int .u8 0,.int .u8 0,.int .u8 0,.int .u8 0,.int .u8 0,.int .u8 0,.int .u8 0,.int .u8 0,.int .u8 0,.int .u8 0,.int .u8 0,.int .u8 0,.int .u8 0,.int .u8 0,.int .u8 0,.int .u8 0,.int .u8 0,.int .u8 0,.int .u8 0,.int .u8 0,.int .u8 0,.int .u8 0,.int .u8 0,.int .u8 0,.int .u8 0,.int .u8 0,.int .u8 0,.int .u8 0,.int .u8 0,.int .u8 0,.int .u8 0,.int .u8 0,.int .u8 0,.int .u8 0,.int .u8 0,.int .u8 0,.int .u8 0,.int .u8 0,.int .u8 0,.int .u8 0,.int .u8 0,.int .u8 0]
def Z4:List AV:=[.int .u8 0,.int .u8 0,.int .u8 0,.int .u8 0,.int .u8 0,.int .u8 0,.int .u8 0,.int .u8 0,.int .u8 0,.int .u8 0,.int .u8 0,.int .u8 0,.int .u8 0,.int .u8 0,.int .u8 0,.int .u8 0,.int .u8 0,.int .u8 0,.int .u8 0,.int .u8 0,.int .u8 0,.int .u8 0,.int .u8 0,.int .u8 0,.int .u8 0,.int .u8 0,.int .u8 0,.int .u8 0,.int .u8 0,.int .u8 0,.int .u8 0,.int .u8 0]
def Z5:List AV:=[j 0,j 0,.int .u64 0,j 0,.int .u32 0,.int .u8 0,.int .u8 0,.int .u8 0,.int .u8 0,.int .u8 0,.int .u8 0,.int .u8 0,.int .u8 0,.int .u32 0,.int .u32 0,j 0,j 0,j 0,.ab,.ab,.ab,j 0,.ab,j 0,j 0,j 0,j 0,j 0,j 0,j 0,j 0,j 0,j 0,j 0,j 0,j 0,j 0,j 0,j 0,j 0,j 0,j 0,j 0,j 0,j 0,j 0,j 0,j 0,j 0,j 0,j 0,j 0,j 0,j 0,j 0,j 0,j 0]
def Z6:List AV:=[j 0,.int .u64 0,j 0,.int .u32 0,.int .u8 0,.int .u8 0,.int .u8 0,.int .u8 0,.int .u8 0,.int .u8 0,.int .u8 0,.int .u8 0,.int .u32 0,.int .u32 0,j 0,j 0,j 0,.ab,.ab,.ab,j 0,.ab,j 0,j 0,j 0,j 0,j 0,j 0,j 0,j 0,j 0,j 0,j 0,j 0,j 0,j 0,j 0,j 0,j 0,j 0]
def Z7:List AV:=[j 0,j 0,.ab,j 0,j 0,j 0,j 0,j 0,j 0,j 0,j 0,j 0,j 0,j 0,j 0,j 0,j 0,j 0,j 0,j 0,j 0,j 0,j 0,j 0,j 0,.int .u64 0,j 0,j 0,j 0,j 0,j 0,j 0,j 0,j 0,j 0,j 0,j 0,j 0,j 0,j 0,.bool false,j 0,j 0,.int .u32 0,j 0,j 0]
def Z8:List AV:=[.int .u32 0,.int .u32 0,.int .u32 0,.int .u32 0,.int .u32 0,.int .u32 0,.int .u32 0,.int .u32 0,.int .u32 0,.int .u32 0,.int .u32 0,.int .u32 0,.int .u32 0,.int .u32 0,.int .u32 0,.int .u32 0]
def Z9:List AV:=[.int .u8 0,.int .u8 0,.int .u8 0,.int .u8 0,.int .u8 0,.int .u8 0,.int .u8 0,.int .u8 0,.int .u8 0,.int .u8 0,.int .u8 0,.int .u8 0,.int .u8 0,.int .u8 0,.int .u8 0,.int .u8 0,.int .u8 0]
def GK:List AV:=[.int .u8 0,.int .u8 0,.int .u8 0,.int .u8 0,.int .u8 0,.int .u8 0,.int .u8 0,.int .u8 0,.int .u8 0,.int .u8 0,.int .u8 0,.int .u8 0,.int .u8 0,.int .u8 0,.int .u8 0,.int .u8 0]
def A':List AV:=[.int .u64 0,j 0,.int .u32 0,.int .u8 0,.int .u8 0,.int .u8 0,.int .u8 0,.int .u8 0,.int .u8 0,.int .u8 0,.int .u8 0,.int .u32 0,.int .u32 0,j 0,j 0]
def ZZ:List AV:=[.int .u8 0,.int .u8 0,.int .u8 0,.int .u8 0,.int .u8 0,.int .u8 0,.int .u8 0,.int .u8 0,.int .u8 0,.int .u8 0,.int .u8 0,.int .u8 0]
def Z0:List AV:=[j 0,j 0,j 0,j 0,j 0,j 0,j 0,j 0,j 0,j 0,j 0,j 0,j 0,j 0,j 0,j 0,j 0,j 0,j 0,j 0,j 0,j 0,j 0,j 0,j 0,j 0,j 0,j 0,j 0,j 0,j 0,j 0]
def DJ:List AV:=[j 0,.ab,.ab,.ab,j 0,.ab,j 0,j 0,j 0,j 0,j 0,j 0,j 0,j 0,j 0,j 0,j 0,j 0,j 0,j 0,j 0,j 0,j 0,j 0]
def QP:List AV:=[.int .u32 0,.int .u32 0,.int .u32 0,.int .u32 0,.int .u32 0,.int .u32 0,.int .u32 0,.int .u32 0]
def XV:List AV:=[.int .u8 0,.int .u8 0,.int .u8 0,.int .u8 0,.int .u8 0,.int .u8 0,.int .u8 0,.int .u8 0]
def Nq:List AV:=[.ab,.ab,.ab,.ab,.ab,.ab,.int .u32 0,.int .u32 0,.int .u32 0]
def XW:List AV:=[j 0,j 0,j 0,j 0,j 0,j 0,j 0,j 0,j 0,j 0,j 0,j 0,j 0,j 0,j 0,j 0]
def SO:List AV:=[j 0,j 0,j 0,j 0,j 0,j 0,j 0,j 0,j 0,j 0,j 0,j 0,j 0]
def SP:List AV:=[.int .u32 0,.int .u32 0,.int .u32 0,.int .u32 0]
def QQ:List AV:=[.int .u64 0,.int .u64 0,.int .u64 0]
@[reducible] def Nf{b:bz}(a:bz)(_:a=b:=by dsimp only[zt,zr,o,m,l,g,f,b,c,e,n,w,x,a,u,v,r,i,j,k,q,s,p,h,t,y,Z1,Z2,Z3,Z4,Z5,Z6,Z7,Z8,Z9,GK,A',ZZ,Z0,DJ,QP,XV,Nq,XW,SO,SP,QQ]):bz:=b
end Z
open Z
def c62:bz:=Nf ⟨1,[2],q [m 2 (.k .ab)] (s (q [m 3 0,o 4 (.yc false 3)] (h 4 (t [m 2 (.k .ab)]) .skip)) (k [0] (t [o 5 (.aK 4 1 0 [.int .u8 0] []),m 6 0,o 7 (.app 4 1 5 6),m 2 7])))⟩
structure XX(R:Env):Prop where
 o62:R.Fn 62 c62
def c47:bz:=Nf ⟨2,[4],q [m 4 (.k (.bool false))] (q [m 5 0,o 6 (.Xl 5),m 7 1,o 8 (.Xl 7),o 9 (.YY .eql 6 8),m 4 9] (k [4] .ret))⟩
structure SQ(R:Env):Prop where
 Z':R.Fn 47 c47
def SR:bz:=Nf ⟨2,[4],q [m 4 (i 0)] (s (q [m 6 0,n 7 6,m 8 (i 0)] (k [0,1,7,8] (.block 0 (.loop (q [b 9 .lss 8 7] (s (h 9 .skip (.exit 0)) (k [0,1,7,8] (s (.block 1 (q [m 10 8,m 5 10] (q [m 11 1,m 12 0,m 13 5,u 14 1 12 13,l 15 1 14,b 16 .eql 11 15] (k [0,1,5,7,8,16] (h 16 (t [m 17 5,m 4 17]) .skip))))) (k [0,1,7,8] (p [b 18 .add 8 (i 1),m 8 18])))))))))) (k [] (t [m 4 (i (-1))])))⟩
structure Nr(R:Env):Prop where
 SS:R.Fn 106 SR
def SU:bz:=Nf ⟨2,[4],q [m 4 (.k (.bool false))] (q [m 5 0,m 6 1,c 7 106 [5,6],b 8 .geq 7 (i 0),m 4 8] (k [4] .ret))⟩
structure Ns(R:Env):Prop where
 SV:R.Fn 100 SU
 n106:Nr R
def SX:bz:=Nf ⟨1,[2],q [m 2 (.k .ab)] (s (q [m 3 0,o 4 (.yc false 3)] (h 4 (t [m 2 (.k .ab)]) .skip)) (k [0] (t [o 5 (.aK 13 3 0 [j 0,j 0,j 0] []),m 6 0,o 7 (.app 13 3 5 6),m 2 7])))⟩
structure JB(R:Env):Prop where
 Nt:R.Fn 101 SX
def SY:bz:=Nf ⟨2,[4],q [m 4 (i 0)] (s (q [m 6 0,n 7 6,m 8 (i 0)] (k [0,1,7,8] (.block 0 (.loop (q [b 9 .lss 8 7] (s (h 9 .skip (.exit 0)) (k [0,1,7,8] (s (.block 1 (q [m 10 8,m 5 10] (q [m 11 1,m 12 0,m 13 5,u 14 3 12 13,g 15 3 14,o 16 (.fH 11 [15])] (k [0,1,5,7,8,16] (h 16 (t [m 17 5,m 4 17]) .skip))))) (k [0,1,7,8] (p [b 18 .add 8 (i 1),m 8 18])))))))))) (k [] (t [m 4 (i (-1))])))⟩
structure Nu(R:Env):Prop where
 SZ:R.Fn 217 SY
def S0:bz:=Nf ⟨2,[4],q [m 4 (.k (.bool false))] (q [m 5 0,m 6 1,c 7 217 [5,6],b 8 .geq 7 (i 0),m 4 8] (k [4] .ret))⟩
structure Nv(R:Env):Prop where
 S5:R.Fn 209 S0
 n217:Nu R
def S6:bz:=Nf ⟨2,[4],q [m 4 (i 0)] (s (q [m 6 0,n 7 6,m 8 (i 0)] (k [0,1,7,8] (.block 0 (.loop (q [b 9 .lss 8 7] (s (h 9 .skip (.exit 0)) (k [0,1,7,8] (s (.block 1 (q [m 10 8,m 5 10] (q [m 11 1,m 12 0,m 13 5,u 14 2 12 13,g 15 2 14,o 16 (.fH 11 [15])] (k [0,1,5,7,8,16] (h 16 (t [m 17 5,m 4 17]) .skip))))) (k [0,1,7,8] (p [b 18 .add 8 (i 1),m 8 18])))))))))) (k [] (t [m 4 (i (-1))])))⟩
structure Nw(R:Env):Prop where
 S7:R.Fn 218 S6
def S9:bz:=Nf ⟨2,[4],q [m 4 (.k (.bool false))] (q [m 5 0,m 6 1,c 7 218 [5,6],b 8 .geq 7 (i 0),m 4 8] (k [4] .ret))⟩
structure Nx(R:Env):Prop where
 Ta:R.Fn 210 S9
 n218:Nw R
def Tc:bz:=Nf ⟨2,[4],q [m 4 (i 0)] (s (q [m 6 0,n 7 6,m 8 (i 0)] (k [0,1,7,8] (.block 0 (.loop (q [b 9 .lss 8 7] (s (h 9 .skip (.exit 0)) (k [0,1,7,8] (s (.block 1 (q [m 10 8,m 5 10] (q [m 11 1,m 12 0,m 13 5,u 14 3 12 13,g 15 3 14,o 16 (.fH 11 [15])] (k [0,1,5,7,8,16] (h 16 (t [m 17 5,m 4 17]) .skip))))) (k [0,1,7,8] (p [b 18 .add 8 (i 1),m 8 18])))))))))) (k [] (t [m 4 (i (-1))])))⟩
structure Ny(R:Env):Prop where
 aaa:R.Fn 219 Tc
def Td:bz:=Nf ⟨2,[4],q [m 4 (.k (.bool false))] (q [m 5 0,m 6 1,c 7 219 [5,6],b 8 .geq 7 (i 0),m 4 8] (k [4] .ret))⟩
structure NA(R:Env):Prop where
 aab:R.Fn 211 Td
 n219:Ny R
def Te:bz:=Nf ⟨2,[4,5],q [m 4 (.k (.int .u64 0)),m 5 (.k (.int .u64 0))] (q [m 14 0,b 15 .and 14 (.k (.int .u64 4294967295)),m 6 15] (q [m 16 0,b 17 .shr 16 (.k (.int .u64 32)),m 7 17] (q [m 18 1,b 19 .and 18 (.k (.int .u64 4294967295)),m 8 19] (q [m 20 1,b 21 .shr 20 (.k (.int .u64 32)),m 9 21] (q [m 22 6,m 23 8,b 24 .mul 22 23,m 10 24] (q [m 25 7,m 26 8,b 27 .mul 25 26,m 28 10,b 29 .shr 28 (.k (.int .u64 32)),b 30 .add 27 29,m 11 30] (y [0,1,6,7,9,11] [m 31 11,b 32 .and 31 (.k (.int .u64 4294967295)),m 12 32] (q [m 33 11,b 34 .shr 33 (.k (.int .u64 32)),m 13 34] (q [m 35 12,m 36 6,m 37 9,b 38 .mul 36 37,b 39 .add 35 38,m 12 39] (y [0,1,7,9,12,13] [m 40 7,m 41 9,b 42 .mul 40 41,m 43 13,b 44 .add 42 43,m 45 12,b 46 .shr 45 (.k (.int .u64 32)),b 47 .add 44 46,m 4 47] (k [0,1,4] (t [m 48 0,m 49 1,b 50 .mul 48 49,m 5 50]))))))))))))⟩
structure NB(R:Env):Prop where
 xi:R.Fn 276 Te
def Tf:bz:=Nf ⟨2,[4],q [m 4 (i 0)] (s (q [m 6 0,n 7 6,m 8 (i 0)] (k [0,1,7,8] (.block 0 (.loop (q [b 9 .lss 8 7] (s (h 9 .skip (.exit 0)) (k [0,1,7,8] (s (.block 1 (q [m 10 8,m 5 10] (q [m 11 1,m 12 0,m 13 5,u 14 1 12 13,l 15 1 14,o 16 (.fH 11 [15])] (k [0,1,5,7,8,16] (h 16 (t [m 17 5,m 4 17]) .skip))))) (k [0,1,7,8] (p [b 18 .add 8 (i 1),m 8 18])))))))))) (k [] (t [m 4 (i (-1))])))⟩
structure NC(R:Env):Prop where
 aac:R.Fn 324 Tf
def Tg:bz:=Nf ⟨2,[4],q [m 4 (.k (.bool false))] (q [m 5 0,m 6 1,c 7 324 [5,6],b 8 .geq 7 (i 0),m 4 8] (k [4] .ret))⟩
structure ND(R:Env):Prop where
 aad:R.Fn 323 Tg
 n324:NC R
def Th:bz:=Nf ⟨1,[2],q [m 2 (.k .ab)] (s (q [m 3 0,o 4 (.yc false 3)] (h 4 (t [m 2 (.k .ab)]) .skip)) (k [0] (t [o 5 (.aK 26 3 0 [j 0,j 0,j 0] []),m 6 0,o 7 (.app 26 3 5 6),m 2 7])))⟩
structure JC(R:Env):Prop where
 Ti:R.Fn 361 Th
def Tj:bz:=Nf ⟨1,[2],q [m 2 (.k .ab)] (s (q [m 3 0,o 4 (.yc false 3)] (h 4 (t [m 2 (.k .ab)]) .skip)) (k [0] (t [o 5 (.aK 18 2 0 [j 0,j 0] []),m 6 0,o 7 (.app 18 2 5 6),m 2 7])))⟩
structure JD(R:Env):Prop where
 Tk:R.Fn 362 Tj
def Tl:bz:=Nf ⟨2,[4],q [m 4 (.k (.bool false))] (q [m 5 0,n 6 5,m 7 1,n 8 7,b 9 .geq 6 8,m 10 9,⟨some 11,some (10,true),.mv 0⟩,⟨some 12,some (10,true),.mv 1⟩,⟨some 13,some (10,true),.og 12⟩,⟨some 14,some (10,true),.gO 4 1 11 none (some 13) none⟩,⟨some 15,some (10,true),.mv 1⟩,⟨some 16,some (10,true),.call 47 [14,15]⟩,w 17 10 16 (.k (.bool false)),m 4 17] (k [4] .ret))⟩
structure NE(R:Env):Prop where
 Tm:R.Fn 389 Tl
 n47:SQ R
def Tn:bz:=Nf ⟨1,[2],q [x 1 57 0,m 2 (.k .af)] (t [o 3 (.QH 447 [1]),m 2 3])⟩
structure NF(R:Env):Prop where
 aae:R.Fn 433 Tn
structure To(R:Env):Prop where
 aaf:R.As 434
structure Tp(R:Env):Prop where
 aag:R.As 435
structure Tq(R:Env):Prop where
 aah:R.As 439
structure Tr(R:Env):Prop where
 aai:R.As 440
def Ts:bz:=Nf ⟨2,[4],q [m 4 (.k (.int .u32 0))] (q [m 6 1,o 7 (.conv .u64 6),b 8 .and 7 (.k (.int .u64 31)),m 5 8] (q [m 9 0,m 10 5,b 11 .shl 9 10,m 12 0,m 13 5,b 14 .sub (.k (.int .u64 32)) 13,b 15 .shr 12 14,b 16 .or 11 15,m 4 16] (k [4] .ret)))⟩
structure JE(R:Env):Prop where
 Ba:R.Fn 680 Ts
structure JF(R:Env):Prop where
 kz:R.Xn 682 "math/bits.Add64"
def Tt:bz:=Nf ⟨2,[4],q [m 4 (.k .ab)] (s (q [m 5 1,b 6 .lss 5 (i 0)] (h 6 .bad .skip)) (k [0,1] (s (q [m 8 1,m 9 0,o 10 (.FJ 9),m 11 0,n 12 11,b 13 .sub 10 12,b 14 .sub 8 13,m 1 14] (y [0,1] [m 15 1,b 16 .gtr 15 (i 0)] (h 16 (p [m 17 0,m 18 0,o 19 (.FJ 18),o 20 (.AE 1 17 19),m 21 1,o 22 (.FI 4 1 [.int .u8 0] 20 21),m 23 0,n 24 23,o 25 (.AE 1 22 24),m 0 25]) .skip))) (k [0] (t [m 26 0,m 4 26])))))⟩
structure NG(R:Env):Prop where
 aaj:R.Fn 562 Tt
def Tu:bz:=Nf ⟨1,[2],q [m 2 (.k .ab)] (q [m 3 (i 0)] (s (q [m 9 0,n 10 9,m 11 (i 0)] (k [0,3,9,10,11] (.block 0 (.loop (q [b 12 .lss 11 10] (s (h 12 .skip (.exit 0)) (k [0,3,9,10,11] (s (.block 1 (q [u 13 1 9 11,l 14 1 13,m 5 14] (q [m 15 3,m 16 5,n 17 16,b 18 .add 15 17,m 3 18] (y [0,3,9,10,11] [m 19 3,b 20 .lss 19 (i 0)] (h 20 .bad .skip))))) (k [0,3,9,10,11] (p [b 22 .add 11 (i 1),m 11 22])))))))))) (y [0,3] [m 23 3,c 24 562 [.k .ab,23],m 6 24] (s (q [m 25 0,n 26 25,m 27 (i 0)] (k [6,25,26,27] (.block 2 (.loop (q [b 28 .lss 27 26] (s (h 28 .skip (.exit 2)) (k [6,25,26,27] (s (.block 3 (q [u 29 1 25 27,l 30 1 29,m 8 30] (p [m 31 6,m 32 8,o 33 (.app 4 1 31 32),m 6 33]))) (k [6,25,26,27] (p [b 34 .add 27 (i 1),m 27 34])))))))))) (k [6] (t [m 35 6,m 2 35]))))))⟩
structure GL(R:Env):Prop where
 aak:R.Fn 543 Tu
 NH:NG R
def Tv:bz:=Nf ⟨1,[2],q [m 2 (.k .ab)] (s (q [m 3 0,o 4 (.yc false 3)] (h 4 (t [m 2 (.k .ab)]) .skip)) (k [0] (t [o 5 (.aK 68 36 0 [j 0,.int .u32 0,j 0,j 0,.int .u8 0,.int .u8 0,.int .u8 0,.int .u8 0,.int .u8 0,.int .u8 0,.int .u8 0,.int .u8 0,.int .u8 0,.int .u8 0,.int .u8 0,.int .u8 0,.int .u8 0,.int .u8 0,.int .u8 0,.int .u8 0,.int .u8 0,.int .u8 0,.int .u8 0,.int .u8 0,.int .u8 0,.int .u8 0,.int .u8 0,.int .u8 0,.int .u8 0,.int .u8 0,.int .u8 0,.int .u8 0,.int .u8 0,.int .u8 0,.int .u8 0,.int .u8 0] []),m 6 0,o 7 (.app 68 36 5 6),m 2 7])))⟩
structure NI(R:Env):Prop where
 aal:R.Fn 559 Tv
end Go.UM
namespace Go.UM
open Go.AM
open Z
def Tw:bz:=Nf ⟨1,[2],q [m 2 (.k (.int .u32 0))] (s (.draw [0,1,3,7,0,16,48,112,240,511,0,1024,3072,7168,15360,32767,0,65536,196608,458752,983040,2097151,4194303] [[0],[3],[4],[5],[0],[7],[8],[9],[10],[6,11],[0],[13],[14],[15],[16],[12,17],[0],[19],[20],[21],[22],[18,23],[24]] [m 3 0,u 4 1 3 (i 0),l 5 1 4,o 6 (.conv .u32 5),m 7 0,u 8 1 7 (i 1),l 9 1 8,o 10 (.conv .u32 9),b 11 .shl 10 (.k (.int .u64 8)),b 12 .or 6 11,m 13 0,u 14 1 13 (i 2),l 15 1 14,o 16 (.conv .u32 15),b 17 .shl 16 (.k (.int .u64 16)),b 18 .or 12 17,m 19 0,u 20 1 19 (i 3),l 21 1 20,o 22 (.conv .u32 21),b 23 .shl 22 (.k (.int .u64 24)),b 24 .or 18 23,m 2 24]) (k [2] .ret))⟩
structure NJ(R:Env):Prop where
 rB:R.Fn 681 Tw
def Tx:bz:=Nf ⟨3,[.cell 6 true 16],q [x 3 63 0,x 5 73 2,a 6 88 Z8] (q [m 10 1,o 11 (.build Z8 [(0,1,.k (.int .u32 1634760805)),(1,1,.k (.int .u32 857760878)),(2,1,.k (.int .u32 2036477234)),(3,1,.k (.int .u32 1797285236)),(12,1,10)]),a 7 88 Z8,r 16 7 11] (s (q [m 12 (i 0)] (k [3,5,6,7,12] (.block 0 (.loop (q [b 13 .lss 12 (i 8)] (s (h 13 .skip (.exit 0)) (k [3,5,6,7,12] (s (.block 1 (q [m 14 12,m 8 14] (p [m 15 8,b 16 .add (i 4) 15,m 17 8,b 18 .mul (i 4) 17,o 19 (.oT 32 1 3 (some 18) none),c 20 681 [19],o 21 (.aE 16 1 7 16),r 1 21 20]))) (k [3,5,6,7,12] (p [b 22 .add 12 (i 1),m 12 22])))))))))) (k [5,6,7] (s (q [m 23 (i 0)] (k [5,6,7,23] (.block 2 (.loop (q [b 24 .lss 23 (i 3)] (s (h 24 .skip (.exit 2)) (k [5,6,7,23] (s (.block 3 (q [m 25 23,m 9 25] (p [m 26 9,b 27 .add (i 13) 26,m 28 9,b 29 .mul (i 4) 28,o 30 (.oT 12 1 5 (some 29) none),c 31 681 [30],o 32 (.aE 16 1 7 27),r 1 32 31]))) (k [5,6,7,23] (p [b 33 .add 23 (i 1),m 23 33])))))))))) (k [6,7] (t [g 34 16 7,r 16 6 34]))))))⟩
structure NK(R:Env):Prop where
 Ty:R.Fn 642 Tx
 iL:NJ R
def Tz:bz:=Nf ⟨1,[.cell 2 true 4],q [x 1 85 0,a 2 85 SP] (s (.draw [0,1,0,4,0,16,0,64,3,271,831,2047] [[1],[7],[1],[9],[1],[11],[1],[13],[8],[10],[12],[14]] [o 7 (.aE 4 1 1 (i 0)),l 8 1 7,o 9 (.aE 4 1 1 (i 1)),l 10 1 9,o 11 (.aE 4 1 1 (i 2)),l 12 1 11,o 13 (.aE 4 1 1 (i 3)),l 14 1 13,m 3 8,m 4 10,m 5 12,m 6 14]) (y [2,3,4,5,6] [m 15 3,m 16 4,b 17 .add 15 16,m 3 17] (q [m 18 6,m 19 3,b 20 .xor 18 19,c 21 680 [20,i 16],m 6 21] (y [2,3,4,5,6] [m 22 5,m 23 6,b 24 .add 22 23,m 5 24] (q [m 25 4,m 26 5,b 27 .xor 25 26,c 28 680 [27,i 12],m 4 28] (y [2,3,4,5,6] [m 29 3,m 30 4,b 31 .add 29 30,m 3 31] (q [m 32 6,m 33 3,b 34 .xor 32 33,c 35 680 [34,i 8],m 6 35] (y [2,3,4,5,6] [m 36 5,m 37 6,b 38 .add 36 37,m 5 38] (q [m 39 4,m 40 5,b 41 .xor 39 40,c 42 680 [41,i 7],m 4 42] (y [2,3,4,5,6] [m 43 3,m 44 4,m 45 5,m 46 6,o 47 (.build SP [(0,1,43),(1,1,44),(2,1,45),(3,1,46)]),r 4 2 47] (k [2] .ret)))))))))))⟩
structure NM(R:Env):Prop where
 xj:R.Fn 643 Tz
 pb:JE R
def TA:bz:=Nf ⟨3,[.cell 6 true 64],q [x 3 63 0,x 5 73 2,a 6 82 Z3] (q [g 16 32 3,m 17 1,g 18 12 5,c 19 642 [16,17,18],a 7 88 Z8,r 16 7 19] (y [6,7] [g 20 16 7,a 8 88 Z8,r 16 8 20] (q [o 21 (.build [j 0,j 0,j 0,j 0] [(0,1,i 0),(1,1,i 4),(2,1,i 8),(3,1,i 12)]),o 22 (.build [j 0,j 0,j 0,j 0] [(0,1,i 1),(1,1,i 5),(2,1,i 9),(3,1,i 13)]),o 23 (.build [j 0,j 0,j 0,j 0] [(0,1,i 2),(1,1,i 6),(2,1,i 10),(3,1,i 14)]),o 24 (.build [j 0,j 0,j 0,j 0] [(0,1,i 3),(1,1,i 7),(2,1,i 11),(3,1,i 15)]),o 25 (.build [j 0,j 0,j 0,j 0] [(0,1,i 0),(1,1,i 5),(2,1,i 10),(3,1,i 15)]),o 26 (.build [j 0,j 0,j 0,j 0] [(0,1,i 1),(1,1,i 6),(2,1,i 11),(3,1,i 12)]),o 27 (.build [j 0,j 0,j 0,j 0] [(0,1,i 2),(1,1,i 7),(2,1,i 8),(3,1,i 13)]),o 28 (.build [j 0,j 0,j 0,j 0] [(0,1,i 3),(1,1,i 4),(2,1,i 9),(3,1,i 14)]),o 29 (.build Z0 [(0,4,21),(4,4,22),(8,4,23),(12,4,24),(16,4,25),(20,4,26),(24,4,27),(28,4,28)]),a 9 89 Z0,r 32 9 29] (k [6,7,8,9] (s (q [m 30 (i 0)] (k [6,7,8,9,30] (.block 0 (.loop (q [b 31 .lss 30 (i 10)] (s (h 31 .skip (.exit 0)) (k [6,7,8,9,30] (s (.block 1 (q [g 32 32 9,m 33 (i 0)] (k [6,7,8,9,30,32,33] (.block 2 (.loop (q [b 34 .lss 33 (i 8)] (s (h 34 .skip (.exit 2)) (k [6,7,8,9,30,32,33] (s (.block 3 (q [o 35 (.CX true 8 4 32 33),a 11 17 [j 0,j 0,j 0,j 0],r 4 11 35] (s (.draw [0,1,3,7,0,16,48,112,0,256,768,1792,0,4096,12288,28672,65535,131071,0,524287] [[11],[36],[8,37],[38],[11],[40],[8,41],[42],[11],[44],[8,45],[46],[11],[48],[8,49],[50],[39,43,47,51],[52],[],[12,53]] [o 36 (.aE 4 1 11 (i 0)),l 37 1 36,o 38 (.aE 16 1 8 37),l 39 1 38,o 40 (.aE 4 1 11 (i 1)),l 41 1 40,o 42 (.aE 16 1 8 41),l 43 1 42,o 44 (.aE 4 1 11 (i 2)),l 45 1 44,o 46 (.aE 16 1 8 45),l 47 1 46,o 48 (.aE 4 1 11 (i 3)),l 49 1 48,o 50 (.aE 16 1 8 49),l 51 1 50,o 52 (.build SP [(0,1,39),(1,1,43),(2,1,47),(3,1,51)]),c 53 643 [52],a 12 85 SP,r 4 12 53]) (k [6,7,8,9,11,12,30,32,33] (.draw [0,1,0,4,0,16,0,64,0,256,0,1024,0,4096,0,16384,771,66307,200463,462607,999231,2047807,4194303,8388607] [[11],[54],[11],[56],[11],[58],[11],[60],[12],[62],[12],[64],[12],[66],[12],[68],[8,55],[70,63],[8,57],[71,65],[8,59],[72,67],[8,61],[73,69]] [o 54 (.aE 4 1 11 (i 0)),l 55 1 54,o 56 (.aE 4 1 11 (i 1)),l 57 1 56,o 58 (.aE 4 1 11 (i 2)),l 59 1 58,o 60 (.aE 4 1 11 (i 3)),l 61 1 60,o 62 (.aE 4 1 12 (i 0)),l 63 1 62,o 64 (.aE 4 1 12 (i 1)),l 65 1 64,o 66 (.aE 4 1 12 (i 2)),l 67 1 66,o 68 (.aE 4 1 12 (i 3)),l 69 1 68,o 70 (.aE 16 1 8 55),r 1 70 63,o 71 (.aE 16 1 8 57),r 1 71 65,o 72 (.aE 16 1 8 59),r 1 72 67,o 73 (.aE 16 1 8 61),r 1 73 69]))))) (k [6,7,8,9,30,32,33] (p [b 74 .add 33 (i 1),m 33 74]))))))))))) (k [6,7,8,9,30] (p [b 75 .add 30 (i 1),m 30 75])))))))))) (y [6,7,8] [a 13 82 Z3] (s (q [g 76 16 8,m 77 (i 0)] (k [6,7,13,76,77] (.block 4 (.loop (q [b 78 .lss 77 (i 16)] (s (h 78 .skip (.exit 4)) (k [6,7,13,76,77] (s (.block 5 (q [m 79 77,o 80 (.CX false 16 1 76 77),m 14 79,m 15 80] (q [m 81 15,m 82 14,o 83 (.aE 16 1 7 82),l 84 1 83,b 85 .add 81 84,m 15 85] (k [6,7,13,14,15,76,77] (p [m 86 14,b 87 .mul (i 4) 86,m 88 14,b 89 .mul (i 4) 88,b 90 .add 89 (i 1),m 91 14,b 92 .mul (i 4) 91,b 93 .add 92 (i 2),m 94 14,b 95 .mul (i 4) 94,b 96 .add 95 (i 3),m 97 15,o 98 (.conv .u8 97),m 99 15,b 100 .shr 99 (.k (.int .u64 8)),o 101 (.conv .u8 100),m 102 15,b 103 .shr 102 (.k (.int .u64 16)),o 104 (.conv .u8 103),m 105 15,b 106 .shr 105 (.k (.int .u64 24)),o 107 (.conv .u8 106),o 108 (.aE 64 1 13 87),r 1 108 98,o 109 (.aE 64 1 13 90),r 1 109 101,o 110 (.aE 64 1 13 93),r 1 110 104,o 111 (.aE 64 1 13 96),r 1 111 107]))))) (k [6,7,13,76,77] (p [b 112 .add 77 (i 1),m 77 112])))))))))) (k [6,13] (t [g 113 64 13,r 64 6 113])))))))))⟩
structure GM(R:Env):Prop where
 NN:R.Fn 610 TA
 JG:NK R
 lE:NM R
def TB:bz:=Nf ⟨4,[8],q [x 4 63 0,x 6 73 2,m 8 (.k .ab)] (q [m 11 3,o 12 (.mm false [11,i 65536]),m 3 12] (q [m 9 (.k .ab)] (k [1,3,4,6,9] (s (.block 0 (.loop (s (q [m 13 9,n 14 13,m 15 3,b 16 .lss 14 15] (h 16 .skip (.exit 0))) (k [1,3,4,6,9] (.block 1 (q [g 17 32 4,m 18 1,g 19 12 6,c 20 610 [17,18,19],a 10 82 Z3,r 64 10 20] (y [1,3,4,6,9,10] [m 21 9,m 22 3,m 23 9,n 24 23,b 25 .sub 22 24,o 26 (.mm false [i 64,25]),o 27 (.oT 64 1 10 none (some 26)),o 28 (.app 4 1 21 27),m 9 28] (k [1,3,4,6,9] (p [m 29 1,b 30 .add 29 (.k (.int .u32 1)),m 1 30]))))))))) (k [9] (t [m 31 9,m 8 31]))))))⟩
structure NO(R:Env):Prop where
 TE:R.Fn 587 TB
 Bb:GM R
def TF:bz:=Nf ⟨4,[8],q [x 4 63 0,x 6 73 2,m 8 (.k .ab)] (q [m 9 (.k .ab)] (s (q [m 14 3,n 15 14,m 16 (i 0)] (k [1,4,6,9,14,15,16] (.block 0 (.loop (q [b 17 .lss 16 15] (s (h 17 .skip (.exit 0)) (k [1,4,6,9,14,15,16] (s (.block 1 (q [u 18 1 14 16,l 19 1 18,m 11 19] (p [m 20 9,m 21 11,m 22 11,n 23 22,m 24 9,n 25 24,b 26 .sub (i 65536) 25,o 27 (.mm false [23,26]),o 28 (.gO 4 1 21 none (some 27) none),o 29 (.app 4 1 20 28),m 9 29]))) (k [1,4,6,9,14,15,16] (p [b 30 .add 16 (i 1),m 16 30])))))))))) (k [1,4,6,9] (s (q [g 31 32 4,m 32 1,g 33 12 6,m 34 9,n 35 34,c 36 587 [31,32,33,35],n 37 36,m 38 (i 0)] (k [9,36,37,38] (.block 2 (.loop (q [b 39 .lss 38 37] (s (h 39 .skip (.exit 2)) (k [9,36,37,38] (s (.block 3 (q [m 40 38,u 41 1 36 38,l 42 1 41,m 12 40,m 13 42] (k [9,12,13,36,37,38] (p [m 43 9,m 44 12,u 45 1 43 44,l 46 1 45,m 47 13,b 48 .xor 46 47,u 49 1 43 44,r 1 49 48])))) (k [9,36,37,38] (p [b 50 .add 38 (i 1),m 38 50])))))))))) (k [9] (t [m 51 9,m 8 51]))))))⟩
structure JH(R:Env):Prop where
 JI:R.Fn 563 TF
 GN:NO R
end Go.UM
namespace Go.UM
open Go.AM
open Z
def TG:bz:=Nf ⟨1,[.cell 2 true 16],q [x 1 74 0,a 2 74 GK] (s (q [m 4 (i 0)] (k [1,2,4] (.block 0 (.loop (q [b 5 .lss 4 (i 4)] (s (h 5 .skip (.exit 0)) (k [1,2,4] (s (.block 1 (q [m 6 4,m 3 6] (q [m 7 3,b 8 .mul (i 4) 7,b 9 .add 8 (i 3),o 10 (.aE 16 1 1 9),l 11 1 10,b 12 .and 11 (.k (.int .u8 15)),o 13 (.aE 16 1 1 9),r 1 13 12] (y [1,2,3,4] [m 14 3,b 15 .gtr 14 (i 0)] (h 15 (p [m 16 3,b 17 .mul (i 4) 16,o 18 (.aE 16 1 1 17),l 19 1 18,b 20 .and 19 (.k (.int .u8 252)),o 21 (.aE 16 1 1 17),r 1 21 20]) .skip))))) (k [1,2,4] (p [b 22 .add 4 (i 1),m 4 22])))))))))) (k [1,2] (t [g 23 16 1,r 16 2 23])))⟩
structure NP(R:Env):Prop where
 TH:R.Fn 644 TG
def TI:bz:=Nf ⟨1,[2],q [m 2 (.k (.int .u64 0))] (q [m 3 (.k (.int .u64 0))] (s (q [m 5 (i 0)] (k [0,3,5] (.block 0 (.loop (q [b 6 .lss 5 (i 8)] (s (h 6 .skip (.exit 0)) (k [0,3,5] (s (.block 1 (q [m 7 5,m 4 7] (p [m 8 3,m 9 0,m 10 4,u 11 1 9 10,l 12 1 11,o 13 (.conv .u64 12),m 14 4,b 15 .mul (i 8) 14,b 16 .shl 13 15,b 17 .or 8 16,m 3 17]))) (k [0,3,5] (p [b 18 .add 5 (i 1),m 5 18])))))))))) (k [3] (t [m 19 3,m 2 19]))))⟩
structure JJ(R:Env):Prop where
 xk:R.Fn 645 TI
def TJ:bz:=Nf ⟨1,[2],q [x 1 63 0,m 2 (.k .ax)] (q [o 4 (.oT 32 1 1 none (some (i 16))),o 5 (.ME 16 1 4),g 6 16 5,c 7 644 [6],a 3 74 GK,r 16 3 7] (k [1,3] (s (.draw [0,1,0,7,0,31,0,127,255,511,1023] [[3],[8],[3],[10],[1],[12],[1],[14],[9,11,13,15],[16],[17]] [o 8 (.rn 16 1 3 none none none),o 9 (.lX (.f 645) [8]),o 10 (.oT 16 1 3 (some (i 8)) none),o 11 (.lX (.f 645) [10]),o 12 (.oT 32 1 1 (some (i 16)) none),o 13 (.lX (.f 645) [12]),o 14 (.oT 32 1 1 (some (i 24)) none),o 15 (.lX (.f 645) [14]),o 16 (.build [.int .u64 0,.int .u64 0,.int .u64 0,.bool false,.int .u64 0,.int .u64 0,.int .u64 0,.int .u64 0,.ab,j 0] [(3,1,.k (.bool true)),(4,1,9),(5,1,11),(6,1,13),(7,1,15)]),x 17 90 16,m 2 17]) (k [2] .ret))))⟩
structure NQ(R:Env):Prop where
 aam:R.Fn 611 TJ
 JK:NP R
 lF:JJ R
def TK:bz:=Nf ⟨1,[2],q [m 2 (.k .ab)] (q [m 6 0,m 7 0,n 8 7,o 9 (.mm false [8,i 65536]),o 10 (.gO 4 1 6 none (some 9) none),m 0 10] (y [0] [m 3 (.k .ab)] (k [0,3] (s (.block 0 (.loop (s (q [m 11 0,n 12 11,b 13 .gtr 12 (i 0)] (h 13 .skip (.exit 0))) (k [0,3] (.block 1 (q [a 4 92 Z9] (q [o 14 (.oT 17 1 4 none (some (i 16))),m 15 0,o 16 (.copy 1 14 15),m 5 16] (q [m 17 5,o 18 (.aE 17 1 4 17),r 1 18 (.k (.int .u8 1))] (q [m 19 3,g 20 17 4,o 21 (.aK 92 17 1 Z9 [(0,20)]),o 22 (.app 92 17 19 21),m 3 22] (k [0,3,5] (p [m 23 0,m 24 5,o 25 (.gO 4 1 23 (some 24) none none),m 0 25]))))))))))) (k [3] (t [m 26 3,m 2 26]))))))⟩
structure GO(R:Env):Prop where
 GP:R.Fn 646 TK
def TL:bz:=Nf ⟨3,[],q [m 6 (.k (.int .u64 0))] (s (.draw [0,0,2,6,14,30,0,126,254,510,510,1,2049,7167,15359,32767] [[0],[0],[9],[10],[11],[12],[1],[13,14],[15],[7],[7],[8],[18],[19],[20,16],[17]] [m 8 0,m 9 0,o 10 (.aB 9),f 11 0 10,o 12 (.aE 3 1 11 (i 0)),l 13 1 12,m 14 1,o 15 (.dU 682 [13,14,.k (.int .u64 0)]),m 7 15,e 16 7 0,e 17 7 1,o 18 (.aB 8),f 19 0 18,o 20 (.aE 3 1 19 (i 0)),r 1 20 16,m 6 17]) (k [0,2,6] (s (.draw [0,0,2,6,14,30,0,0,254,510,1022,1022,1,4097,14335,30719,65535] [[0],[0],[23],[24],[25],[26],[2],[6],[27,28,29],[30],[21],[21],[22],[33],[34],[35,31],[32]] [m 22 0,m 23 0,o 24 (.aB 23),f 25 0 24,o 26 (.aE 3 1 25 (i 1)),l 27 1 26,m 28 2,m 29 6,o 30 (.dU 682 [27,28,29]),m 21 30,e 31 21 0,e 32 21 1,o 33 (.aB 22),f 34 0 33,o 35 (.aE 3 1 34 (i 1)),r 1 35 31,m 6 32]) (k [0,6] (.draw [0,1,3,7,15,0,63,1,129,511,1023] [[0],[36],[37],[38],[39],[6],[40,41],[36],[43],[44],[45,42]] [m 36 0,o 37 (.aB 36),f 38 0 37,o 39 (.aE 3 1 38 (i 2)),l 40 1 39,m 41 6,b 42 .add 40 41,o 43 (.aB 36),f 44 0 43,o 45 (.aE 3 1 44 (i 2)),r 1 45 42])))))⟩
structure NR(R:Env):Prop where
 TM:R.Fn 683 TL
 ik:JF R
def TN:bz:=Nf ⟨4,[],q [x 5 92 1] (q [m 31 0,o 32 (.aB 31),f 33 0 32,g 34 3 33,a 8 99 QQ,r 3 8 34] (y [0,2,3,5,8] [m 9 (.k (.int .u64 0))] (s (.draw [0,1,0,4,15,31,63,63,127,383,1023] [[8],[36],[5],[38],[37,39],[40],[35],[35],[8],[43,41],[42]] [o 36 (.aE 3 1 8 (i 0)),l 37 1 36,o 38 (.oT 17 1 5 none (some (i 8))),c 39 645 [38],o 40 (.dU 682 [37,39,.k (.int .u64 0)]),m 35 40,e 41 35 0,e 42 35 1,o 43 (.aE 3 1 8 (i 0)),r 1 43 41,m 9 42]) (k [0,2,3,5,8,9] (s (.draw [0,1,0,4,0,31,63,127,127,255,767,2047] [[8],[45],[5],[47],[9],[46,48,49],[50],[44],[44],[8],[53,51],[52]] [o 45 (.aE 3 1 8 (i 1)),l 46 1 45,o 47 (.oT 17 1 5 (some (i 8)) (some (i 16))),c 48 645 [47],m 49 9,o 50 (.dU 682 [46,48,49]),m 44 50,e 51 44 0,e 52 44 1,o 53 (.aE 3 1 8 (i 1)),r 1 53 51,m 9 52]) (y [0,2,3,5,8,9] [o 54 (.aE 3 1 8 (i 2)),l 55 1 54,o 56 (.aE 17 1 5 (i 16)),l 57 1 56,o 58 (.conv .u64 57),m 59 9,b 60 .add 58 59,b 61 .add 55 60,o 62 (.aE 3 1 8 (i 2)),r 1 62 61] (y [0,2,3,8] [o 64 (.aE 3 1 8 (i 0)),l 65 1 64,m 66 2,c 67 276 [65,66],m 63 67,e 68 63 0,e 69 63 1,m 10 68,m 11 69] (y [0,2,3,8,10,11] [o 71 (.aE 3 1 8 (i 1)),l 72 1 71,m 73 2,c 74 276 [72,73],m 70 74,e 75 70 0,e 76 70 1,m 12 75,m 13 76] (y [0,2,3,8,10,11,12,13] [o 78 (.aE 3 1 8 (i 0)),l 79 1 78,m 80 3,c 81 276 [79,80],m 77 81,e 82 77 0,e 83 77 1,m 14 82,m 15 83] (y [0,2,3,8,10,11,12,13,14,15] [o 85 (.aE 3 1 8 (i 1)),l 86 1 85,m 87 3,c 88 276 [86,87],m 84 88,e 89 84 0,e 90 84 1,m 16 89,m 17 90] (k [0,2,3,8,10,11,12,13,14,15,16,17] (s (.draw [0,1,0,7,0,16,0,112,15,511] [[8],[91],[2],[92,93],[8],[95],[3],[96,97],[94],[98]] [o 91 (.aE 3 1 8 (i 2)),l 92 1 91,m 93 2,b 94 .mul 92 93,o 95 (.aE 3 1 8 (i 2)),l 96 1 95,m 97 3,b 98 .mul 96 97,m 18 94,m 19 98]) (y [0,10,11,12,13,14,15,16,17,18,19] [m 100 13,m 101 15,o 102 (.dU 682 [100,101,.k (.int .u64 0)]),m 99 102,e 103 99 0,e 104 99 1,m 20 103,m 21 104] (y [0,10,11,12,14,16,17,18,19,20,21] [m 106 12,m 107 14,m 108 21,o 109 (.dU 682 [106,107,108]),m 105 109,e 110 105 0,e 111 105 1,m 22 110,m 23 111] (y [0,10,11,16,17,18,19,20,22,23] [m 113 23,o 114 (.dU 682 [.k (.int .u64 0),.k (.int .u64 0),113]),m 112 114,e 115 112 0,e 116 112 1,m 24 115,m 25 116] (y [0,10,11,16,17,18,19,20,22,24] [m 118 22,m 119 17,o 120 (.dU 682 [118,119,.k (.int .u64 0)]),m 117 120,e 121 117 0,e 122 117 1,m 22 121,m 21 122] (y [0,10,11,16,18,19,20,21,22,24] [m 124 24,m 125 16,m 126 21,o 127 (.dU 682 [124,125,126]),m 123 127,e 128 123 0,e 129 123 1,m 24 128] (y [0,10,11,18,19,20,22,24] [m 131 22,m 132 18,o 133 (.dU 682 [131,132,.k (.int .u64 0)]),m 130 133,e 134 130 0,e 135 130 1,m 22 134,m 21 135] (y [0,10,11,19,20,21,22,24] [m 137 24,m 138 19,m 139 21,o 140 (.dU 682 [137,138,139]),m 136 140,e 141 136 0,e 142 136 1,m 24 141] (y [0,10,11,20,22,24] [m 143 11,m 26 143] (q [m 145 20,m 146 10,o 147 (.dU 682 [145,146,.k (.int .u64 0)]),m 144 147,e 148 144 0,e 149 144 1,m 27 148,m 21 149] (y [0,21,22,24,26,27] [m 151 22,m 152 21,o 153 (.dU 682 [151,.k (.int .u64 0),152]),m 150 153,e 154 150 0,e 155 150 1,m 28 154,m 21 155] (y [0,21,24,26,27,28] [m 157 24,m 158 21,o 159 (.dU 682 [157,.k (.int .u64 0),158]),m 156 159,e 160 156 0,e 161 156 1,m 29 160,m 30 161] (y [0,26,27,28,29] [m 162 0,m 163 26,m 164 27,m 165 28,b 166 .and 165 (.k (.int .u64 3)),o 167 (.build QQ [(0,1,163),(1,1,164),(2,1,166)]),o 168 (.aB 162),f 169 0 168,r 3 169 167] (y [0,28,29] [m 170 0,m 171 28,b 172 .andNot 171 (.k (.int .u64 3)),m 173 29,c 174 683 [170,172,173]] (k [0,28,29] (p [m 175 0,m 176 28,b 177 .shr 176 (.k (.int .u64 2)),m 178 29,b 179 .shl 178 (.k (.int .u64 62)),b 180 .or 177 179,m 181 29,b 182 .shr 181 (.k (.int .u64 2)),c 183 683 [175,180,182]])))))))))))))))))))))))))))⟩
structure GQ(R:Env):Prop where
 TO:R.Fn 647 TN
 n276:NB R
 lF:JJ R
 ik:JF R
 JL:NR R
def TP:bz:=Nf ⟨2,[],s (q [m 6 0,o 7 (.B1 false 6),m 8 7,⟨some 9,some (8,false),.mv 0⟩,⟨some 10,some (8,false),.aB 9⟩,⟨some 11,some (8,false),.bF 3 10⟩,⟨some 12,some (8,false),.load false 1 11⟩,⟨some 13,some (8,false),.un .not 12⟩,w 14 8 (.k (.bool true)) 13] (k [0,1,14] (h 14 .ret .skip))) (k [0,1] (s (q [m 15 1,n 16 15,m 17 (i 0)] (k [0,15,16,17] (.block 0 (.loop (q [b 18 .lss 17 16] (s (h 18 .skip (.exit 0)) (k [0,15,16,17] (s (.block 1 (q [u 19 1 15 17,l 20 1 19,m 5 20] (q [m 21 5,m 22 5,n 23 22,m 24 0,o 25 (.aB 24),f 26 9 25,l 27 1 26,b 28 .sub (i 65536) 27,o 29 (.mm false [23,28]),o 30 (.gO 4 1 21 none (some 29) none),m 5 30] (y [0,5,15,16,17] [m 31 0,o 32 (.aB 31),f 33 9 32,l 34 1 33,m 35 5,n 36 35,b 37 .add 34 36,o 38 (.aB 31),f 39 9 38,r 1 39 37] (k [0,5,15,16,17] (p [m 40 0,m 41 0,o 42 (.aB 41),f 43 8 42,l 44 1 43,m 45 5,o 46 (.app 4 1 44 45),o 47 (.aB 40),f 48 8 47,r 1 48 46])))))) (k [0,15,16,17] (p [b 49 .add 17 (i 1),m 17 49])))))))))) (k [0] (.block 2 (.loop (s (q [m 50 0,o 51 (.aB 50),f 52 8 51,l 53 1 52,n 54 53,b 55 .geq 54 (i 16)] (k [0,55] (h 55 .skip (.exit 2)))) (k [0] (.block 3 (s (.draw [0,1,3,0,8,24,56,120,248,504,1016,0,2048,6144,14336,0,32768,98304,229376,524287] [[0],[56],[57],[0],[59],[60],[61],[62],[63],[64],[65],[0],[67],[68],[69],[0],[71],[72],[73],[58,66,70,74]] [m 56 0,o 57 (.aB 56),f 58 0 57,m 59 0,o 60 (.aB 59),f 61 8 60,l 62 1 61,o 63 (.gO 4 1 62 none (some (i 16)) none),c 64 646 [63],u 65 17 64 (i 0),g 66 17 65,m 67 0,o 68 (.aB 67),f 69 4 68,l 70 1 69,m 71 0,o 72 (.aB 71),f 73 5 72,l 74 1 73,c 75 647 [58,66,70,74]]) (k [0] (p [m 76 0,m 77 0,o 78 (.aB 77),f 79 8 78,l 80 1 79,o 81 (.gO 4 1 80 (some (i 16)) none none),o 82 (.aB 76),f 83 8 82,r 1 83 81])))))))))))⟩
structure NS(R:Env):Prop where
 aan:R.Fn 612 TP
 uV:GO R
 GR:GQ R
def TQ:bz:=Nf ⟨3,[.cell 6 true 16],q [x 3 91 0,a 6 74 GK] (q [f 18 0 3,g 19 3 18,a 7 99 QQ,r 3 7 19] (s (q [m 20 (i 0)] (k [1,2,6,7,20] (.block 0 (.loop (q [b 21 .lss 20 (i 2)] (s (h 21 .skip (.exit 0)) (k [1,2,6,7,20] (s (.block 1 (q [o 23 (.aE 3 1 7 (i 0)),l 24 1 23,o 25 (.dU 682 [24,.k (.int .u64 5),.k (.int .u64 0)]),m 22 25,e 26 22 0,e 27 22 1,m 8 26,m 9 27] (y [1,2,6,7,8,9,20] [o 29 (.aE 3 1 7 (i 1)),l 30 1 29,m 31 9,o 32 (.dU 682 [30,.k (.int .u64 0),31]),m 28 32,e 33 28 0,e 34 28 1,m 10 33,m 9 34] (y [1,2,6,7,8,9,10,20] [o 35 (.aE 3 1 7 (i 2)),l 36 1 35,m 37 9,b 38 .add 36 37,m 11 38] (y [1,2,6,7,8,10,11,20] [m 39 11,b 40 .geq 39 (.k (.int .u64 4))] (h 40 (p [m 41 8,m 42 10,m 43 11,b 44 .sub 43 (.k (.int .u64 4)),o 45 (.build QQ [(0,1,41),(1,1,42),(2,1,44)]),r 3 7 45]) .skip)))))) (k [1,2,6,7,20] (p [b 46 .add 20 (i 1),m 20 46])))))))))) (y [1,2,6,7] [o 48 (.aE 3 1 7 (i 0)),l 49 1 48,m 50 1,o 51 (.dU 682 [49,50,.k (.int .u64 0)]),m 47 51,e 52 47 0,e 53 47 1,m 12 52,m 13 53] (y [2,6,7,12,13] [o 55 (.aE 3 1 7 (i 1)),l 56 1 55,m 57 2,m 58 13,o 59 (.dU 682 [56,57,58]),m 54 59,e 60 54 0,e 61 54 1,m 14 60,m 15 61] (y [6,12,14] [a 16 74 GK] (s (q [m 62 (i 0)] (k [6,12,14,16,62] (.block 2 (.loop (q [b 63 .lss 62 (i 8)] (s (h 63 .skip (.exit 2)) (k [6,12,14,16,62] (s (.block 3 (q [m 64 62,m 17 64] (.draw [0,0,2,0,0,16,56,120,0,0,512,1792,3840,249,8441,32767,65535] [[17],[17],[66],[12],[17],[69],[68,70],[71],[14],[17],[74],[73,75],[76],[16,65],[78,72],[16,67],[79,77]] [m 65 17,m 66 17,b 67 .add (i 8) 66,m 68 12,m 69 17,b 70 .mul (i 8) 69,b 71 .shr 68 70,o 72 (.conv .u8 71),m 73 14,m 74 17,b 75 .mul (i 8) 74,b 76 .shr 73 75,o 77 (.conv .u8 76),o 78 (.aE 16 1 16 65),r 1 78 72,o 79 (.aE 16 1 16 67),r 1 79 77]))) (k [6,12,14,16,62] (p [b 80 .add 62 (i 1),m 62 80])))))))))) (k [6,16] (t [g 81 16 16,r 16 6 81]))))))))⟩
structure NT(R:Env):Prop where
 NU:R.Fn 648 TQ
 ik:JF R
def TR:bz:=Nf ⟨1,[.cell 2 true 16],q [a 2 74 GK] (s (q [m 6 0,o 7 (.B1 false 6),m 8 7,⟨some 9,some (8,false),.mv 0⟩,⟨some 10,some (8,false),.aB 9⟩,⟨some 11,some (8,false),.bF 3 10⟩,⟨some 12,some (8,false),.load false 1 11⟩,⟨some 13,some (8,false),.un .not 12⟩,w 14 8 (.k (.bool true)) 13] (k [0,2,14] (h 14 (t [o 15 (.build GK []),r 16 2 15]) .skip))) (y [0,2] [m 16 0,o 17 (.aB 16),f 18 0 17,g 19 3 18,a 3 91 QQ,r 3 3 19] (k [0,2,3] (s (q [m 20 0,o 21 (.aB 20),f 22 8 21,l 23 1 22,c 24 646 [23],n 25 24,m 26 (i 0)] (k [0,2,3,24,25,26] (.block 0 (.loop (q [b 27 .lss 26 25] (s (h 27 .skip (.exit 0)) (k [0,2,3,24,25,26] (s (.block 1 (q [u 28 17 24 26,g 29 17 28,a 5 92 Z9,r 17 5 29] (.draw [0,0,2,6,14,0,32,96,224,511] [[5],[0],[31],[32],[33],[0],[35],[36],[37],[3,30,34,38]] [g 30 17 5,m 31 0,o 32 (.aB 31),f 33 4 32,l 34 1 33,m 35 0,o 36 (.aB 35),f 37 5 36,l 38 1 37,c 39 647 [3,30,34,38]]))) (k [0,2,3,24,25,26] (p [b 40 .add 26 (i 1),m 26 40])))))))))) (k [0,2,3] (s (.draw [0,0,2,6,14,0,32,96,224,511,1023] [[3],[0],[42],[43],[44],[0],[46],[47],[48],[41,45,49],[2,50]] [g 41 3 3,m 42 0,o 43 (.aB 42),f 44 6 43,l 45 1 44,m 46 0,o 47 (.aB 46),f 48 7 47,l 49 1 48,c 50 648 [41,45,49],r 16 2 50]) (k [2] .ret)))))))⟩
structure NV(R:Env):Prop where
 aao:R.Fn 613 TR
 uV:GO R
 GR:GQ R
 GS:NT R
def TS:bz:=Nf ⟨2,[.cell 4 true 16],q [x 2 63 0,a 4 74 GK] (q [g 6 32 2,c 7 611 [6],m 5 7] (q [m 8 5,m 9 1,c 10 612 [8,9]] (t [m 11 5,c 12 613 [11],r 16 4 12])))⟩
structure JM(R:Env):Prop where
 TU:R.Fn 590 TS
 NW:NQ R
 JN:NS R
 NY:NV R
def TV:bz:=Nf ⟨2,[4],q [x 2 74 0,x 3 74 1,m 4 (.k (.bool false))] (q [m 5 (.k (.int .u8 0))] (s (q [m 7 (i 0)] (k [2,3,5,7] (.block 0 (.loop (q [b 8 .lss 7 (i 16)] (s (h 8 .skip (.exit 0)) (k [2,3,5,7] (s (.block 1 (q [m 9 7,m 6 9] (.draw [0,0,2,6,0,16,48,126,255,511] [[5],[6],[2,11],[12],[6],[3,14],[15],[13,16],[10,17],[18]] [m 10 5,m 11 6,o 12 (.aE 16 1 2 11),l 13 1 12,m 14 6,o 15 (.aE 16 1 3 14),l 16 1 15,b 17 .xor 13 16,b 18 .or 10 17,m 5 18]))) (k [2,3,5,7] (p [b 19 .add 7 (i 1),m 7 19])))))))))) (k [5] (t [m 20 5,b 21 .eql 20 (.k (.int .u8 0)),m 4 21]))))⟩
structure NZ(R:Env):Prop where
 N0:R.Fn 591 TV
end Go.UM
namespace Go.UM
open Go.AM
open Z
def TW:bz:=Nf ⟨1,[2],q [m 2 (.k .ab)] (q [m 3 0,n 4 3,b 5 .rem 4 (i 16),b 6 .sub (i 16) 5,b 7 .rem 6 (i 16),o 8 (.Xm 4 1 [.int .u8 0] 7 7),m 2 8] (k [2] .ret))⟩
structure N5(R:Env):Prop where
 N7:R.Fn 588 TW
def TX:bz:=Nf ⟨2,[.cell 4 true 32],q [x 2 63 0,x 3 73 1,a 4 63 Z4] (q [g 6 32 2,g 7 12 3,c 8 610 [6,.k (.int .u32 0),7],a 5 82 Z3,r 64 5 8] (k [4,5] (t [o 9 (.oT 64 1 5 none (some (i 32))),o 10 (.ME 32 1 9),g 11 32 10,r 32 4 11])))⟩
structure N8(R:Env):Prop where
 TY:R.Fn 589 TX
 Bb:GM R
def TZ:bz:=Nf ⟨4,[.cell 8 true 16],q [x 4 63 0,x 5 73 1,a 8 74 GK] (q [m 9 (.f 588)] (q [a 10 74 GK] (s (q [m 12 (i 0)] (k [2,3,4,5,8,9,10,12] (.block 0 (.loop (q [b 13 .lss 12 (i 8)] (s (h 13 .skip (.exit 0)) (k [2,3,4,5,8,9,10,12] (s (.block 1 (q [m 14 12,m 11 14] (.draw [0,0,2,0,8,0,32,120,248,0,512,0,2048,7680,15872,505,33273,131071,262143] [[11],[11],[16],[2],[18],[11],[20],[19,21],[22],[3],[24],[11],[26],[25,27],[28],[10,15],[30,23],[10,17],[31,29]] [m 15 11,m 16 11,b 17 .add (i 8) 16,m 18 2,n 19 18,m 20 11,b 21 .mul (i 8) 20,b 22 .shr 19 21,o 23 (.conv .u8 22),m 24 3,n 25 24,m 26 11,b 27 .mul (i 8) 26,b 28 .shr 25 27,o 29 (.conv .u8 28),o 30 (.aE 16 1 10 15),r 1 30 23,o 31 (.aE 16 1 10 17),r 1 31 29]))) (k [2,3,4,5,8,9,10,12] (p [b 32 .add 12 (i 1),m 12 32])))))))))) (k [2,3,4,5,8,9,10] (s (.draw [0,0,3,0,0,0,55,0,0,0,887,0,4095,8191,16383] [[4],[5],[33,34],[2],[9],[2],[37,38],[3],[9],[3],[41,42],[10],[36,39,40,43,44],[35,45],[8,46]] [g 33 32 4,g 34 12 5,c 35 589 [33,34],m 36 2,m 37 9,m 38 2,o 39 (.fH 37 [38]),m 40 3,m 41 9,m 42 3,o 43 (.fH 41 [42]),o 44 (.rn 16 1 10 none none none),o 45 (.aK 51 1 5 [.ab] [(0,36),(1,39),(2,40),(3,43),(4,44)]),c 46 590 [35,45],r 16 8 46]) (k [8] .ret))))))⟩
structure GU(R:Env):Prop where
 JO:R.Fn 564 TZ
 DK:N5 R
 JP:N8 R
 JQ:JM R
def T0:bz:=Nf ⟨4,[8,9],q [x 4 63 0,x 5 73 1,m 8 (.k .ab),m 9 (i 0)] (q [m 12 3,n 13 12,b 14 .sub 13 (i 16),m 10 14] (s (.block 0 (q [m 16 10,b 17 .lss 16 (i 0),m 15 17] (h 15 (t [m 8 (.k .ab),m 9 (i 4)]) (q [m 19 2,n 20 19,b 21 .gtr 20 (i 16384),m 22 21,⟨some 23,some (22,false),.mv 10⟩,⟨some 24,some (22,false),.bin .gtr 23 (i 16384)⟩,w 25 22 (.k (.bool true)) 24,m 18 25] (k [2,3,4,5,10,18] (h 18 (t [m 8 (.k .ab),m 9 (i 3)]) .skip)))))) (y [2,3,4,5,10] [m 26 3,m 27 10,o 28 (.gO 4 1 26 none (some 27) none),m 11 28] (s (s (.draw [0,0,0,0,15,0,0,96,224,480,1023,2047] [[4],[5],[2],[11],[29,30,31,32],[3],[10],[34,35],[36],[37],[33,38],[39]] [g 29 32 4,g 30 12 5,m 31 2,m 32 11,c 33 564 [29,30,31,32],m 34 3,m 35 10,o 36 (.gO 4 1 34 (some 35) none none),o 37 (.ME 16 1 36),g 38 16 37,c 39 591 [33,38],o 40 (.un .not 39)]) (k [4,5,11,40] (h 40 (t [m 8 (.k .ab),m 9 (i 6)]) .skip))) (y [4,5,11] [g 41 32 4,g 42 12 5,m 43 11,o 44 (.aK 51 1 1 [.ab] [(0,43)]),c 45 563 [41,.k (.int .u32 1),42,44],m 8 45,m 9 (i 0)] (k [8,9] .ret))))))⟩
structure GV(R:Env):Prop where
 N9:R.Fn 566 T0
 tG:JH R
 yV:GU R
 DL:NZ R
def T1:bz:=Nf ⟨4,[8,9],q [x 4 63 0,x 5 73 1,m 8 (.k .ab),m 9 (i 0)] (s (q [m 12 2,n 13 12,b 14 .gtr 13 (i 16384),m 15 14,⟨some 16,some (15,false),.mv 3⟩,⟨some 17,some (15,false),.og 16⟩,⟨some 18,some (15,false),.bin .gtr 17 (i 16384)⟩,w 19 15 (.k (.bool true)) 18] (k [2,3,4,5,19] (h 19 (t [m 8 (.k .ab),m 9 (i 3)]) .skip))) (y [2,3,4,5] [g 20 32 4,g 21 12 5,m 22 3,o 23 (.aK 51 1 1 [.ab] [(0,22)]),c 24 563 [20,.k (.int .u32 1),21,23],m 10 24] (y [2,4,5,10] [g 25 32 4,g 26 12 5,m 27 2,m 28 10,c 29 564 [25,26,27,28],a 11 74 GK,r 16 11 29] (y [10,11] [m 30 10,o 31 (.rn 16 1 11 none none none),o 32 (.aK 51 1 2 [.ab] [(0,30),(1,31)]),c 33 543 [32],m 8 33,m 9 (i 0)] (k [8,9] .ret)))))⟩
structure Oa(R:Env):Prop where
 aap:R.Fn 545 T1
 uW:GL R
 tG:JH R
 yV:GU R
end Go.UM
namespace Go.UM
open Go.AM
open Z
end Go.UM
namespace Go.UM
open Go.AM
open Z
end Go.UM
namespace Go.UM
open Go.AM
open Z
end Go.UM
namespace Go.UM
open Go.AM
open Z
end Go.UM
namespace Go.UM
open Go.AM
open Z
def c54:bz:=Nf ⟨3,[6,7],q [m 6 (.k .ab),m 7 (i 0)] (s (q [m 12 1,b 13 .lss 12 (i 1),m 14 13,⟨some 15,some (14,false),.mv 1⟩,⟨some 16,some (14,false),.bin .gtr 15 (i 8)⟩,w 17 14 (.k (.bool true)) 16] (k [0,1,2,17] (h 17 (t [m 6 (.k .ab),m 7 (i 2)]) .skip))) (y [0,1,2] [m 18 0,c 19 62 [18],m 8 19] (s (q [m 20 2,n 21 20,m 22 (i 0)] (k [1,8,20,21,22] (.block 0 (.loop (q [b 23 .lss 22 21] (s (h 23 .skip (.exit 0)) (k [1,8,20,21,22] (s (.block 1 (q [u 24 1 20 22,l 25 1 24,m 10 25] (s (q [m 26 1,b 27 .lss 26 (i 8),m 28 27,⟨some 29,some (28,true),.mv 10⟩,⟨some 30,some (28,true),.mv 1⟩,⟨some 31,some (28,true),.bin .mul (i 8) 30⟩,⟨some 32,some (28,true),.bin .shr 29 31⟩,⟨some 33,some (28,true),.bin .gtr 32 (.k (.int .u64 0))⟩,w 34 28 33 (.k (.bool false))] (k [1,8,10,20,21,22,34] (h 34 (t [m 6 (.k .ab),m 7 (i 3)]) .skip))) (y [1,8,10,20,21,22] [m 35 1,m 36 (i 0)] (k [1,8,10,20,21,22,35,36] (.block 2 (.loop (q [b 37 .lss 36 35] (s (h 37 .skip (.exit 2)) (k [1,8,10,20,21,22,35,36] (s (.block 3 (q [m 38 36,m 11 38] (p [m 39 8,m 40 10,m 41 11,b 42 .mul (i 8) 41,b 43 .shr 40 42,o 44 (.conv .u8 43),o 45 (.aK 4 1 1 [.int .u8 0] [(0,44)]),o 46 (.app 4 1 39 45),m 8 46]))) (k [1,8,10,20,21,22,35,36] (p [b 47 .add 36 (i 1),m 36 47]))))))))))))) (k [1,8,20,21,22] (p [b 48 .add 22 (i 1),m 22 48])))))))))) (k [8] (t [m 49 8,m 6 49,m 7 (i 0)])))))⟩
structure Iz(R:Env):Prop where
 o54:R.Fn 54 c54
 n62:XX R
def c56:bz:=Nf ⟨1,[2],q [m 2 (.k .ax)] (q [m 3 0,c 4 62 [3],o 5 (.build [.ab,j 0,.bool false] [(0,1,4),(2,1,.k (.bool true))]),x 6 9 5,m 2 6] (k [2] .ret))⟩
structure Ob(R:Env):Prop where
 o56:R.Fn 56 c56
 n62:XX R
def c64:bz:=Nf ⟨1,[2],q [m 2 (.k (.bool false))] (q [m 3 0,o 4 (.B1 false 3),m 5 4,⟨some 6,some (5,false),.mv 0⟩,⟨some 7,some (5,false),.aB 6⟩,⟨some 8,some (5,false),.bF 2 7⟩,⟨some 9,some (5,false),.load false 1 8⟩,⟨some 10,some (5,false),.un .not 9⟩,w 11 5 (.k (.bool true)) 10,m 2 11] (k [2] .ret))⟩
structure T2(R:Env):Prop where
 o64:R.Fn 64 c64
def c59:bz:=Nf ⟨2,[4],q [m 4 (.k .ab)] (s (.block 0 (q [m 7 0,c 8 64 [7],m 9 8,⟨some 10,some (9,false),.mv 0⟩,⟨some 11,some (9,false),.aB 10⟩,⟨some 12,some (9,false),.bF 1 11⟩,⟨some 13,some (9,false),.load false 1 12⟩,⟨some 14,some (9,false),.bin .neq 13 (i 0)⟩,w 15 9 (.k (.bool true)) 14,m 6 15] (k [0,1,6] (h 6 (t [m 4 (.k .ab)]) (q [m 17 1,b 18 .lss 17 (i 0),m 16 18] (h 16 (q [m 19 0,o 20 (.aB 19),f 21 1 20,r 1 21 (i 2)] (t [m 4 (.k .ab)])) (q [m 23 1,m 24 0,o 25 (.aB 24),f 26 0 25,l 27 1 26,n 28 27,b 29 .gtr 23 28,m 22 29] (k [0,1,22] (h 22 (q [m 30 0,o 31 (.aB 30),f 32 1 31,r 1 32 (i 4)] (t [m 4 (.k .ab)])) .skip))))))))) (y [0,1] [m 33 0,o 34 (.aB 33),f 35 0 34,l 36 1 35,m 37 1,m 38 1,o 39 (.gO 4 1 36 none (some 37) (some 38)),m 5 39] (y [0,1,5] [m 40 0,m 41 0,o 42 (.aB 41),f 43 0 42,l 44 1 43,m 45 1,o 46 (.gO 4 1 44 (some 45) none none),o 47 (.aB 40),f 48 0 47,r 1 48 46] (k [5] (t [m 49 5,m 4 49])))))⟩
structure Oc(R:Env):Prop where
 o59:R.Fn 59 c59
 JR:T2 R
def c57:bz:=Nf ⟨2,[4],q [m 4 (.k (.int .u64 0))] (s (q [m 8 1,b 9 .lss 8 (i 1),m 10 9,⟨some 11,some (10,false),.mv 1⟩,⟨some 12,some (10,false),.bin .gtr 11 (i 8)⟩,w 13 10 (.k (.bool true)) 12] (k [0,1,13] (h 13 (p [m 1 (i (-1))]) .skip))) (y [0,1] [m 5 (.k (.int .u64 0))] (s (q [m 14 0,m 15 1,c 16 59 [14,15],n 17 16,m 18 (i 0)] (k [5,16,17,18] (.block 0 (.loop (q [b 19 .lss 18 17] (s (h 19 .skip (.exit 0)) (k [5,16,17,18] (s (.block 1 (q [m 20 18,u 21 1 16 18,l 22 1 21,m 6 20,m 7 22] (k [5,6,7,16,17,18] (p [m 23 5,m 24 7,o 25 (.conv .u64 24),m 26 6,b 27 .mul (i 8) 26,b 28 .shl 25 27,b 29 .or 23 28,m 5 29])))) (k [5,16,17,18] (p [b 30 .add 18 (i 1),m 18 30])))))))))) (k [5] (t [m 31 5,m 4 31])))))⟩
structure LN(R:Env):Prop where
 o57:R.Fn 57 c57
 n59:Oc R
def c65:bz:=Nf ⟨1,[2],q [m 2 (i 0)] (s (q [m 3 0,c 4 64 [3]] (h 4 (t [m 2 (i 1)]) .skip)) (y [0] [m 5 0,o 6 (.aB 5),f 7 1 6,l 8 1 7,m 2 8] (k [2] .ret)))⟩
structure XY(R:Env):Prop where
 o65:R.Fn 65 c65
 JR:T2 R
def c60:bz:=Nf ⟨1,[2],q [m 2 (i 0)] (s (q [m 4 0,c 5 65 [4],m 3 5] (q [m 6 3,b 7 .neq 6 (i 0)] (h 7 (t [m 8 3,m 2 8]) .skip))) (k [0] (s (q [m 9 0,o 10 (.aB 9),f 11 0 10,l 12 1 11,n 13 12,b 14 .gtr 13 (i 0)] (k [14] (h 14 (t [m 2 (i 5)]) .skip))) (k [] (t [m 2 (i 0)])))))⟩
structure QR(R:Env):Prop where
 o60:R.Fn 60 c60
 QS:XY R
def c68:bz:=Nf ⟨1,[2],q [m 2 (i 0)] (s (q [m 3 0,c 4 64 [3],m 5 4,⟨some 6,some (5,false),.mv 0⟩,⟨some 7,some (5,false),.aB 6⟩,⟨some 8,some (5,false),.bF 1 7⟩,⟨some 9,some (5,false),.load false 1 8⟩,⟨some 10,some (5,false),.bin .neq 9 (i 0)⟩,w 11 5 (.k (.bool true)) 10] (k [0,11] (h 11 (t [m 2 (i 0)]) .skip))) (y [0] [m 12 0,o 13 (.aB 12),f 14 0 13,l 15 1 14,n 16 15,m 2 16] (k [2] .ret)))⟩
structure N68(R:Env):Prop where
 o68:R.Fn 68 c68
 JR:T2 R
def c71:bz:=Nf ⟨3,[6,7],q [m 6 (.k .ab),m 7 (i 0)] (s (q [m 12 1,b 13 .lss 12 (i 1),m 14 13,⟨some 15,some (14,false),.mv 1⟩,⟨some 16,some (14,false),.bin .gtr 15 (i 8)⟩,w 17 14 (.k (.bool true)) 16] (k [0,1,2,17] (h 17 (t [m 6 (.k .ab),m 7 (i 2)]) .skip))) (y [0,1,2] [m 8 (.k .ab)] (s (q [m 18 2,n 19 18,m 20 (i 0)] (k [0,1,8,18,19,20] (.block 0 (.loop (q [b 21 .lss 20 19] (s (h 21 .skip (.exit 0)) (k [0,1,8,18,19,20] (s (.block 1 (q [u 22 1 18 20,l 23 1 22,m 10 23] (s (q [m 24 10,m 25 1,b 26 .mul (i 8) 25,b 27 .sub (i 64) 26,b 28 .shl 24 27,m 29 1,b 30 .mul (i 8) 29,b 31 .sub (i 64) 30,b 32 .shr 28 31,m 11 32] (y [0,1,8,10,11,18,19,20] [m 33 11,m 34 10,b 35 .neq 33 34] (h 35 (t [m 6 (.k .ab),m 7 (i 3)]) .skip))) (k [0,1,8,10,18,19,20] (p [m 36 8,m 37 10,o 38 (.conv .u64 37),m 39 1,b 40 .mul (i 8) 39,b 41 .sub (i 64) 40,b 42 .shl 38 41,m 43 1,b 44 .mul (i 8) 43,b 45 .sub (i 64) 44,b 46 .shr 42 45,o 47 (.aK 6 1 1 [.int .u64 0] [(0,46)]),o 48 (.app 6 1 36 47),m 8 48]))))) (k [0,1,8,18,19,20] (p [b 49 .add 20 (i 1),m 20 49])))))))))) (y [0,1,8] [m 50 0,m 51 1,m 52 8,c 53 54 [50,51,52],e 54 53 0,e 55 53 1,m 6 54,m 7 55] (k [6,7] .ret)))))⟩
structure QT(R:Env):Prop where
 o71:R.Fn 71 c71
 rC:Iz R
def c76:bz:=Nf ⟨2,[4],q [m 4 (i 0)] (q [m 6 0,m 7 1,c 8 57 [6,7],m 5 8] (s (q [m 9 1,b 10 .lss 9 (i 1),m 11 10,⟨some 12,some (11,false),.mv 1⟩,⟨some 13,some (11,false),.bin .gtr 12 (i 8)⟩,w 14 11 (.k (.bool true)) 13] (k [1,5,14] (h 14 (t [m 4 (i 0)]) .skip))) (y [1,5] [m 15 5,o 16 (.conv .i64 15),m 17 1,b 18 .mul (i 8) 17,b 19 .sub (i 64) 18,b 20 .shl 16 19,m 21 1,b 22 .mul (i 8) 21,b 23 .sub (i 64) 22,b 24 .shr 20 23,m 4 24] (k [4] .ret))))⟩
structure XZ(R:Env):Prop where
 o76:R.Fn 76 c76
 n57:LN R
end Go.UM
namespace Go.UM
open Go.AM
open Z
def c37:bz:=Nf ⟨1,[2],q [m 2 (i 0)] (q [o 4 (.build [j 0,j 0,j 0,j 0,j 0] [(1,1,i 2048),(2,1,i 1024),(3,1,i 64),(4,1,i 64)]),a 3 5 [j 0,j 0,j 0,j 0,j 0],r 5 3 4] (s (q [m 5 0,b 6 .lss 5 (i 0),m 7 6,⟨some 8,some (7,false),.mv 0⟩,⟨some 9,some (7,false),.bin .geq 8 (i 5)⟩,w 10 7 (.k (.bool true)) 9] (k [0,3,10] (h 10 (t [m 2 (i 0)]) .skip))) (k [0,3] (t [m 11 0,o 12 (.aE 5 1 3 11),l 13 1 12,m 2 13]))))⟩
structure X0(R:Env):Prop where
 o37:R.Fn 37 c37
def c39:bz:=Nf ⟨1,[2],q [m 2 (i 0)] (s (q [m 3 0,b 4 .lss 3 (i 1)] (h 4 (t [m 2 (i 0)]) .skip)) (y [0] [m 5 0,b 6 .sub 5 (i 1),b 7 .quo 6 (i 256),b 8 .add 7 (i 1),m 2 8] (k [2] .ret)))⟩
structure X2(R:Env):Prop where
 o39:R.Fn 39 c39
def c41:bz:=Nf ⟨1,[2],q [x 1 2 0,m 2 (i 0)] (q [f 6 1 1,l 7 1 6,c 8 37 [7],m 3 8] (s (q [m 9 3,b 10 .eql 9 (i 0)] (h 10 (t [m 2 (i 12)]) .skip)) (k [1,3] (s (q [f 11 3 1,g 12 8 11,m 13 (i 0)] (k [1,3,12,13] (.block 0 (.loop (q [b 14 .lss 13 (i 8)] (s (h 14 .skip (.exit 0)) (k [1,3,12,13] (s (.block 1 (q [o 15 (.CX false 8 1 12 13),m 5 15] (q [m 16 5,b 17 .gtr 16 (.k (.int .u8 15))] (h 17 (t [m 2 (i 5)]) .skip)))) (k [1,3,12,13] (p [b 18 .add 13 (i 1),m 13 18])))))))))) (k [1,3] (s (.block 2 (q [f 20 11 1,l 21 1 20,f 22 12 1,l 23 1 22,b 24 .gtr 21 23,m 25 24,⟨some 26,some (25,false),.bF 13 1⟩,⟨some 27,some (25,false),.load false 1 26⟩,⟨some 28,some (25,false),.bin .lss 27 (i 1)⟩,w 29 25 (.k (.bool true)) 28,m 19 29] (k [1,3,19] (h 19 (t [m 2 (i 5)]) (q [f 31 13 1,l 32 1 31,m 33 3,b 34 .gtr 32 33,m 30 34] (k [1,30] (h 30 (t [m 2 (i 9)]) (s (.draw [0,1,0,4,12,31,63] [[1],[36],[1],[38],[39],[37,40],[41]] [f 36 14 1,l 37 1 36,f 38 13 1,l 39 1 38,c 40 39 [39],b 41 .neq 37 40,m 35 41]) (k [35] (h 35 (t [m 2 (i 5)]) .skip)))))))))) (k [] (t [m 2 (i 0)]))))))))⟩
structure X3(R:Env):Prop where
 X4:R.Fn 41 c41
 n37:X0 R
 n39:X2 R
def c45:bz:=Nf ⟨1,[2,3],q [x 1 2 0,m 2 (.k .ab),m 3 (i 0)] (s (q [g 7 15 1,c 8 41 [7],m 4 8] (q [m 9 4,b 10 .neq 9 (i 0)] (h 10 (t [m 11 4,m 2 (.k .ab),m 3 11]) .skip))) (y [1] [f 13 0 1,l 14 1 13,o 15 (.aK 6 1 1 [.int .u64 0] [(0,14)]),c 16 54 [.k .ab,i 8,15],m 12 16,e 17 12 0,e 18 12 1,m 5 17,m 6 18] (y [1,5] [m 20 5,f 21 1 1,l 22 1 21,o 23 (.conv .u64 22),o 24 (.aK 6 1 1 [.int .u64 0] [(0,23)]),c 25 54 [20,i 1,24],m 19 25,e 26 19 0,e 27 19 1,m 5 26] (y [1,5] [m 29 5,f 30 2 1,l 31 1 30,o 32 (.conv .u64 31),o 33 (.aK 6 1 1 [.int .u64 0] [(0,32)]),c 34 54 [29,i 4,33],m 28 34,e 35 28 0,e 36 28 1,m 5 35] (y [1,5] [m 37 5,f 38 3 1,o 39 (.rn 8 1 38 none none none),o 40 (.app 4 1 37 39),m 5 40] (y [1,5] [m 42 5,f 43 11 1,l 44 1 43,o 45 (.conv .u64 44),f 46 12 1,l 47 1 46,o 48 (.conv .u64 47),f 49 13 1,l 50 1 49,o 51 (.conv .u64 50),o 52 (.aK 6 1 3 [.int .u64 0] [(0,45),(1,48),(2,51)]),c 53 54 [42,i 4,52],m 41 53,e 54 41 0,e 55 41 1,m 5 54] (y [1,5] [m 56 5,f 57 14 1,l 58 1 57,o 59 (.conv .u64 58),o 60 (.aK 6 1 1 [.int .u64 0] [(0,59)]),c 61 54 [56,i 2,60],e 62 61 0,e 63 61 1,m 2 62,m 3 63] (k [2,3] .ret))))))))⟩
structure N45(R:Env):Prop where
 o45:R.Fn 45 c45
 n41:X3 R
 rC:Iz R
def c58:bz:=Nf ⟨2,[4],q [x 2 7 0,m 4 (i 0)] (q [f 5 0 2,l 6 1 5,m 7 1,c 8 57 [6,7],o 9 (.conv .i64 8),m 4 9] (k [4] .ret))⟩
structure N58(R:Env):Prop where
 o58:R.Fn 58 c58
 n57:LN R
def c49:bz:=Nf ⟨1,[.cell 2 true 15,3],q [a 2 2 A',m 3 (i 0)] (q [m 8 0,c 9 56 [8],o 10 (.build [.ax] [(0,1,9)]),a 4 7 [.ax],r 1 4 10] (k [2,4] (s (.draw [0,1,3,0,15,0,32,127,255,511,0,2047] [[4],[11],[12],[4],[14],[4],[16],[17],[18],[13,15,19],[],[5,20]] [f 11 0 4,l 12 1 11,c 13 57 [12,i 8],g 14 1 4,c 15 58 [14,i 1],f 16 0 4,l 17 1 16,c 18 57 [17,i 4],o 19 (.conv .u32 18),o 20 (.build A' [(0,1,13),(1,1,15),(2,1,19)]),a 5 2 A',r 15 5 20]) (k [2,4,5] (s (.draw [0,1,0,4,12,31] [[5],[21],[4],[23],[24],[22,25]] [f 21 3 5,o 22 (.rn 8 1 21 none none none),f 23 0 4,l 24 1 23,c 25 59 [24,i 8],o 26 (.copy 1 22 25)]) (k [2,4,5] (s (.draw [0,1,3,7,0,16,55,119,0,375,0,1911,3967,8063,16383,32767,65535,131071,262143,524287] [[4],[27],[28],[29],[4],[31],[32],[33],[4],[35],[4],[37],[5],[39,30],[5],[40,34],[5],[41,36],[5],[42,38]] [f 27 0 4,l 28 1 27,c 29 57 [28,i 4],o 30 (.conv .u32 29),f 31 0 4,l 32 1 31,c 33 57 [32,i 4],o 34 (.conv .u32 33),g 35 1 4,c 36 58 [35,i 4],g 37 1 4,c 38 58 [37,i 2],f 39 11 5,r 1 39 30,f 40 12 5,r 1 40 34,f 41 13 5,r 1 41 36,f 42 14 5,r 1 42 38]) (k [2,4,5] (s (q [f 43 0 4,l 44 1 43,c 45 60 [44],m 6 45] (q [m 46 6,b 47 .neq 46 (i 0)] (h 47 (t [o 48 (.build A' []),m 49 6,r 15 2 48,m 3 49]) .skip))) (k [2,5] (s (q [g 50 15 5,c 51 41 [50],m 7 51] (q [m 52 7,b 53 .neq 52 (i 0)] (h 53 (t [o 54 (.build A' []),m 55 7,r 15 2 54,m 3 55]) .skip))) (k [2,5] (t [g 56 15 5,r 15 2 56,m 3 (i 0)])))))))))))))⟩
structure N49(R:Env):Prop where
 o49:R.Fn 49 c49
 n41:X3 R
 Bc:Ob R
 n57:LN R
 Od:N58 R
 n59:Oc R
 n60:QR R
end Go.UM
namespace Go.UM
open Go.AM
open Z
def T4:bz:=Nf ⟨1,[2],q [x 1 26 0,m 2 (.k (.bool false))] (q [f 3 0 1,l 4 1 3,f 5 1 1,l 6 1 5,f 7 2 1,l 8 1 7,o 9 (.mm true [4,6,8]),b 10 .gtr 9 (i 4096),m 11 10,⟨some 12,some (11,false),.bF 0 1⟩,⟨some 13,some (11,false),.load false 1 12⟩,⟨some 14,some (11,false),.bF 1 1⟩,⟨some 15,some (11,false),.load false 1 14⟩,⟨some 16,some (11,false),.bF 2 1⟩,⟨some 17,some (11,false),.load false 1 16⟩,⟨some 18,some (11,false),.mm false [13,15,17]⟩,⟨some 19,some (11,false),.bin .lss 18 (i (-4096))⟩,w 20 11 (.k (.bool true)) 19,m 2 20] (k [2] .ret))⟩
structure Oe(R:Env):Prop where
 T5:R.Fn 206 T4
def T6:bz:=Nf ⟨1,[2],q [x 1 18 0,m 2 (.k (.bool false))] (q [o 3 (.aE 2 1 1 (i 0)),l 4 1 3,o 5 (.aE 2 1 1 (i 1)),l 6 1 5,o 7 (.mm false [4,6]),b 8 .lss 7 (i 0),m 9 8,⟨some 10,some (9,false),.aE 2 1 1 (i 0)⟩,⟨some 11,some (9,false),.load false 1 10⟩,⟨some 12,some (9,false),.aE 2 1 1 (i 1)⟩,⟨some 13,some (9,false),.load false 1 12⟩,⟨some 14,some (9,false),.mm true [11,13]⟩,⟨some 15,some (9,false),.bin .gtr 14 (i 65535)⟩,w 16 9 (.k (.bool true)) 15,m 2 16] (k [2] .ret))⟩
structure Of(R:Env):Prop where
 T7:R.Fn 207 T6
def T8:bz:=Nf ⟨2,[3],q [x 2 13 0,m 3 (.k (.bool false))] (q [o 4 (.aE 3 1 2 (i 0)),l 5 1 4,o 6 (.aE 3 1 2 (i 1)),l 7 1 6,o 8 (.aE 3 1 2 (i 2)),l 9 1 8,o 10 (.mm false [5,7,9]),b 11 .lss 10 (i 0),m 12 11,⟨some 13,some (12,false),.aE 3 1 2 (i 0)⟩,⟨some 14,some (12,false),.load false 1 13⟩,⟨some 15,some (12,false),.aE 3 1 2 (i 1)⟩,⟨some 16,some (12,false),.load false 1 15⟩,⟨some 17,some (12,false),.aE 3 1 2 (i 2)⟩,⟨some 18,some (12,false),.load false 1 17⟩,⟨some 19,some (12,false),.mm true [14,16,18]⟩,⟨some 20,some (12,false),.bF 0 1⟩,⟨some 21,some (12,false),.load false 1 20⟩,⟨some 22,some (12,false),.og 21⟩,⟨some 23,some (12,false),.bin .geq 19 22⟩,w 24 12 (.k (.bool true)) 23,m 25 24,⟨some 26,some (25,false),.aE 3 1 2 (i 0)⟩,⟨some 27,some (25,false),.load false 1 26⟩,⟨some 28,some (25,false),.aE 3 1 2 (i 1)⟩,⟨some 29,some (25,false),.load false 1 28⟩,⟨some 30,some (25,false),.bin .eql 27 29⟩,w 31 25 (.k (.bool true)) 30,m 32 31,⟨some 33,some (32,false),.aE 3 1 2 (i 1)⟩,⟨some 34,some (32,false),.load false 1 33⟩,⟨some 35,some (32,false),.aE 3 1 2 (i 2)⟩,⟨some 36,some (32,false),.load false 1 35⟩,⟨some 37,some (32,false),.bin .eql 34 36⟩,w 38 32 (.k (.bool true)) 37,m 39 38,⟨some 40,some (39,false),.aE 3 1 2 (i 2)⟩,⟨some 41,some (39,false),.load false 1 40⟩,⟨some 42,some (39,false),.aE 3 1 2 (i 0)⟩,⟨some 43,some (39,false),.load false 1 42⟩,⟨some 44,some (39,false),.bin .eql 41 43⟩,w 45 39 (.k (.bool true)) 44,m 3 45] (k [3] .ret))⟩
structure Og(R:Env):Prop where
 aax:R.Fn 208 T8
def T9:bz:=Nf ⟨1,[2],q [x 1 25 0,m 2 (i 0)] (q [m 3 (.f 206)] (q [m 4 (.f 207)] (q [o 6 (.QH 208 [1]),m 5 6] (s (.block 0 (q [f 8 0 1,l 9 1 8,n 10 9,b 11 .gtr 10 (i 64),m 12 11,⟨some 13,some (12,false),.bF 2 1⟩,⟨some 14,some (12,false),.load false 1 13⟩,⟨some 15,some (12,false),.og 14⟩,⟨some 16,some (12,false),.bin .gtr 15 (i 64)⟩,w 17 12 (.k (.bool true)) 16,m 7 17] (k [1,3,4,5,7] (h 7 (t [m 2 (i 3)]) (q [f 19 0 1,l 20 1 19,n 21 20,b 22 .eql 21 (i 0),m 23 22,⟨some 24,some (23,false),.bF 2 1⟩,⟨some 25,some (23,false),.load false 1 24⟩,⟨some 26,some (23,false),.og 25⟩,⟨some 27,some (23,false),.bin .eql 26 (i 0)⟩,w 28 23 (.k (.bool true)) 27,m 29 28,⟨some 30,some (29,false),.bF 1 1⟩,⟨some 31,some (29,false),.load false 1 30⟩,⟨some 32,some (29,false),.og 31⟩,⟨some 33,some (29,false),.bF 0 1⟩,⟨some 34,some (29,false),.load false 1 33⟩,⟨some 35,some (29,false),.og 34⟩,⟨some 36,some (29,false),.bin .neq 32 35⟩,w 37 29 (.k (.bool true)) 36,m 18 37] (k [1,3,4,5,18] (h 18 (t [m 2 (i 5)]) (q [f 39 0 1,l 40 1 39,m 41 3,c 42 209 [40,41],m 38 42] (k [1,4,5,38] (h 38 (t [m 2 (i 8)]) (q [f 44 1 1,l 45 1 44,m 46 4,c 47 210 [45,46],m 48 47,⟨some 49,some (48,false),.bF 2 1⟩,⟨some 50,some (48,false),.load false 1 49⟩,⟨some 51,some (48,false),.mv 5⟩,⟨some 52,some (48,false),.call 211 [50,51]⟩,w 53 48 (.k (.bool true)) 52,m 43 53] (k [43] (h 43 (t [m 2 (i 5)]) .skip))))))))))))) (k [] (t [m 2 (i 0)]))))))⟩
structure yW(R:Env):Prop where
 uX:R.Fn 193 T9
 n206:Oe R
 n207:Of R
 n208:Og R
 n209:Nv R
 n210:Nx R
 n211:NA R
def T':bz:=Nf ⟨1,[2,3],q [x 1 25 0,m 2 (.k .ab),m 3 (i 0)] (s (q [g 12 3 1,c 13 193 [12],m 4 13] (q [m 14 4,b 15 .neq 14 (i 0)] (h 15 (t [m 16 4,m 2 (.k .ab),m 3 16]) .skip))) (y [1] [f 17 0 1,l 18 1 17,n 19 18,o 20 (.conv .u8 19),f 21 2 1,l 22 1 21,n 23 22,o 24 (.conv .u8 23),o 25 (.aK 4 1 2 [.int .u8 0] [(0,20),(1,24)]),m 5 25] (k [1,5] (s (q [f 26 0 1,l 27 1 26,n 28 27,m 29 (i 0)] (k [1,5,27,28,29] (.block 0 (.loop (q [b 30 .lss 29 28] (s (h 30 .skip (.exit 0)) (k [1,5,27,28,29] (s (.block 1 (q [u 31 3 27 29,g 32 3 31,a 7 26 [j 0,j 0,j 0],r 3 7 32] (p [m 34 5,f 35 0 7,l 36 1 35,f 37 1 7,l 38 1 37,f 39 2 7,l 40 1 39,o 41 (.aK 10 1 3 [j 0] [(0,36),(1,38),(2,40)]),c 42 71 [34,i 2,41],m 33 42,e 43 33 0,e 44 33 1,m 5 43]))) (k [1,5,27,28,29] (p [b 45 .add 29 (i 1),m 29 45])))))))))) (k [1,5] (s (q [f 46 1 1,l 47 1 46,n 48 47,m 49 (i 0)] (k [1,5,47,48,49] (.block 2 (.loop (q [b 50 .lss 49 48] (s (h 50 .skip (.exit 2)) (k [1,5,47,48,49] (s (.block 3 (q [u 51 2 47 49,g 52 2 51,a 9 18 [j 0,j 0],r 2 9 52] (p [m 54 5,o 55 (.aE 2 1 9 (i 0)),l 56 1 55,o 57 (.conv .u64 56),o 58 (.aE 2 1 9 (i 1)),l 59 1 58,o 60 (.conv .u64 59),o 61 (.aK 6 1 2 [.int .u64 0] [(0,57),(1,60)]),c 62 54 [54,i 2,61],m 53 62,e 63 53 0,e 64 53 1,m 5 63]))) (k [1,5,47,48,49] (p [b 65 .add 49 (i 1),m 49 65])))))))))) (k [1,5] (s (q [f 66 2 1,l 67 1 66,n 68 67,m 69 (i 0)] (k [5,67,68,69] (.block 4 (.loop (q [b 70 .lss 69 68] (s (h 70 .skip (.exit 4)) (k [5,67,68,69] (s (.block 5 (q [u 71 3 67 69,g 72 3 71,a 11 13 [j 0,j 0,j 0],r 3 11 72] (p [m 73 5,o 74 (.aE 3 1 11 (i 0)),l 75 1 74,o 76 (.conv .u8 75),o 77 (.aE 3 1 11 (i 1)),l 78 1 77,o 79 (.conv .u8 78),o 80 (.aE 3 1 11 (i 2)),l 81 1 80,o 82 (.conv .u8 81),o 83 (.aK 4 1 3 [.int .u8 0] [(0,76),(1,79),(2,82)]),o 84 (.app 4 1 73 83),m 5 84]))) (k [5,67,68,69] (p [b 85 .add 69 (i 1),m 69 85])))))))))) (k [5] (t [m 86 5,m 2 86,m 3 (i 0)]))))))))))⟩
structure Oh(R:Env):Prop where
 Ua:R.Fn 196 T'
 rC:Iz R
 JS:QT R
 n193:yW R
def Ub:bz:=Nf ⟨2,[4],q [x 2 30 0,m 4 (i 0)] (q [f 5 0 2,l 6 1 5,m 7 1,c 8 57 [6,7],o 9 (.conv .i64 8),m 4 9] (k [4] .ret))⟩
structure Oi(R:Env):Prop where
 aay:R.Fn 214 Ub
 n57:LN R
def Uc:bz:=Nf ⟨1,[.cell 2 true 3],q [x 1 30 0,a 2 26 [j 0,j 0,j 0]] (s (.draw [0,1,3,0,8,31,0,64,255,511,1023] [[1],[3],[4],[1],[6],[7],[1],[9],[10],[5,8,11],[2,12]] [f 3 0 1,l 4 1 3,c 5 76 [4,i 2],f 6 0 1,l 7 1 6,c 8 76 [7,i 2],f 9 0 1,l 10 1 9,c 11 76 [10,i 2],o 12 (.build [j 0,j 0,j 0] [(0,1,5),(1,1,8),(2,1,11)]),r 3 2 12]) (k [2] .ret))⟩
structure Oj(R:Env):Prop where
 aaz:R.Fn 215 Uc
 IA:XZ R
def Ud:bz:=Nf ⟨1,[.cell 2 true 3,3],q [a 2 25 [.ab,.ab,.ab],m 3 (i 0)] (q [m 10 0,c 11 56 [10],o 12 (.build [.ax] [(0,1,11)]),a 4 30 [.ax],r 1 4 12] (k [2,4] (s (.draw [0,1,0,7,15,31] [[4],[13],[4],[15],[14],[16]] [g 13 1 4,c 14 214 [13,i 1],g 15 1 4,c 16 214 [15,i 1],m 5 14,m 6 16]) (y [2,4,5,6] [a 7 25 [.ab,.ab,.ab]] (s (q [m 17 5,m 18 (i 0)] (k [2,4,5,6,7,17,18] (.block 0 (.loop (q [b 19 .lss 18 17] (s (h 19 .skip (.exit 0)) (k [2,4,5,6,7,17,18] (s (.block 1 (.draw [0,1,0,4,12,31,63,127] [[7],[20],[4],[22],[23],[21,24],[7],[26,25]] [f 20 0 7,l 21 1 20,g 22 1 4,c 23 215 [22],o 24 (.aK 26 3 1 [j 0,j 0,j 0] [(0,23)]),o 25 (.app 26 3 21 24),f 26 0 7,r 1 26 25])) (k [2,4,5,6,7,17,18] (p [b 27 .add 18 (i 1),m 18 27])))))))))) (k [2,4,5,6,7] (s (q [m 28 5,m 29 (i 0)] (k [2,4,6,7,28,29] (.block 2 (.loop (q [b 30 .lss 29 28] (s (h 30 .skip (.exit 2)) (k [2,4,6,7,28,29] (s (.block 3 (.draw [0,1,0,4,0,28,60,124,255,511,1023] [[7],[31],[4],[33],[4],[35],[34,36],[37],[32,38],[7],[40,39]] [f 31 1 7,l 32 1 31,g 33 1 4,c 34 214 [33,i 2],g 35 1 4,c 36 214 [35,i 2],o 37 (.build [j 0,j 0] [(0,1,34),(1,1,36)]),o 38 (.aK 18 2 1 [j 0,j 0] [(0,37)]),o 39 (.app 18 2 32 38),f 40 1 7,r 1 40 39])) (k [2,4,6,7,28,29] (p [b 41 .add 29 (i 1),m 29 41])))))))))) (k [2,4,6,7] (s (q [m 42 6,m 43 (i 0)] (k [2,4,7,42,43] (.block 4 (.loop (q [b 44 .lss 43 42] (s (h 44 .skip (.exit 4)) (k [2,4,7,42,43] (s (.block 5 (.draw [0,1,0,4,0,28,0,124,252,508,1023,2047,4095] [[7],[45],[4],[47],[4],[49],[4],[51],[48,50,52],[53],[46,54],[7],[56,55]] [f 45 2 7,l 46 1 45,g 47 1 4,c 48 214 [47,i 1],g 49 1 4,c 50 214 [49,i 1],g 51 1 4,c 52 214 [51,i 1],o 53 (.build [j 0,j 0,j 0] [(0,1,48),(1,1,50),(2,1,52)]),o 54 (.aK 13 3 1 [j 0,j 0,j 0] [(0,53)]),o 55 (.app 13 3 46 54),f 56 2 7,r 1 56 55])) (k [2,4,7,42,43] (p [b 57 .add 43 (i 1),m 43 57])))))))))) (k [2,4,7] (s (q [f 58 0 4,l 59 1 58,c 60 60 [59],m 8 60] (q [m 61 8,b 62 .neq 61 (i 0)] (h 62 (t [o 63 (.build [.ab,.ab,.ab] []),m 64 8,r 3 2 63,m 3 64]) .skip))) (k [2,7] (s (q [g 65 3 7,c 66 193 [65],m 9 66] (q [m 67 9,b 68 .neq 67 (i 0)] (h 68 (t [o 69 (.build [.ab,.ab,.ab] []),m 70 9,r 3 2 69,m 3 70]) .skip))) (k [2,7] (t [g 71 3 7,r 3 2 71,m 3 (i 0)])))))))))))))))⟩
structure Ol(R:Env):Prop where
 Ue:R.Fn 202 Ud
 Bc:Ob R
 n60:QR R
 n193:yW R
 n214:Oi R
 n215:Oj R
end Go.UM
namespace Go.UM
open Go.AM
open Z
def c84:bz:=Nf ⟨1,[2],q [x 1 12 0,m 2 (i 0)] (s (q [o 5 (.aK 10 1 5 [j 0] [(0,i 1),(1,i 2),(2,i 4),(3,i 8),(4,i 16)]),f 6 0 1,l 7 1 6,c 8 100 [5,7],o 9 (.un .not 8),m 10 9,⟨some 11,some (10,false),.bF 1 1⟩,⟨some 12,some (10,false),.load false 1 11⟩,⟨some 13,some (10,false),.og 12⟩,⟨some 14,some (10,false),.bF 0 1⟩,⟨some 15,some (10,false),.load false 1 14⟩,⟨some 16,some (10,false),.bF 0 1⟩,⟨some 17,some (10,false),.load false 1 16⟩,⟨some 18,some (10,false),.bin .mul 15 17⟩,⟨some 19,some (10,false),.bin .neq 13 18⟩,w 20 10 (.k (.bool true)) 19] (k [1,20] (h 20 (t [m 2 (i 5)]) .skip))) (k [1] (s (q [f 21 1 1,l 22 1 21,n 23 22,m 24 (i 0)] (k [22,23,24] (.block 0 (.loop (q [b 25 .lss 24 23] (s (h 25 .skip (.exit 0)) (k [22,23,24] (s (.block 1 (q [u 26 3 22 24,g 27 3 26,a 4 13 [j 0,j 0,j 0],r 3 4 27] (q [o 28 (.aE 3 1 4 (i 0)),l 29 1 28,o 30 (.aE 3 1 4 (i 1)),l 31 1 30,o 32 (.aE 3 1 4 (i 2)),l 33 1 32,o 34 (.mm false [29,31,33]),b 35 .lss 34 (i 0),m 36 35,⟨some 37,some (36,false),.aE 3 1 4 (i 0)⟩,⟨some 38,some (36,false),.load false 1 37⟩,⟨some 39,some (36,false),.aE 3 1 4 (i 1)⟩,⟨some 40,some (36,false),.load false 1 39⟩,⟨some 41,some (36,false),.aE 3 1 4 (i 2)⟩,⟨some 42,some (36,false),.load false 1 41⟩,⟨some 43,some (36,false),.mm true [38,40,42]⟩,⟨some 44,some (36,false),.bin .gtr 43 (i 255)⟩,w 45 36 (.k (.bool true)) 44] (k [22,23,24,45] (h 45 (t [m 2 (i 5)]) .skip))))) (k [22,23,24] (p [b 46 .add 24 (i 1),m 24 46])))))))))) (k [] (t [m 2 (i 0)])))))⟩
structure Uf(R:Env):Prop where
 X5:R.Fn 84 c84
 n100:Ns R
def c82:bz:=Nf ⟨1,[2,3],q [x 1 12 0,m 2 (.k .ab),m 3 (i 0)] (s (q [g 8 2 1,c 9 84 [8],m 4 9] (q [m 10 4,b 11 .neq 10 (i 0)] (h 11 (t [m 12 4,m 2 (.k .ab),m 3 12]) .skip))) (y [1] [f 13 0 1,l 14 1 13,o 15 (.conv .u8 14),o 16 (.aK 4 1 1 [.int .u8 0] [(0,15)]),m 5 16] (k [1,5] (s (q [f 17 1 1,l 18 1 17,n 19 18,m 20 (i 0)] (k [5,18,19,20] (.block 0 (.loop (q [b 21 .lss 20 19] (s (h 21 .skip (.exit 0)) (k [5,18,19,20] (s (.block 1 (q [u 22 3 18 20,g 23 3 22,a 7 13 [j 0,j 0,j 0],r 3 7 23] (p [m 24 5,o 25 (.aE 3 1 7 (i 0)),l 26 1 25,o 27 (.conv .u8 26),o 28 (.aE 3 1 7 (i 1)),l 29 1 28,o 30 (.conv .u8 29),o 31 (.aE 3 1 7 (i 2)),l 32 1 31,o 33 (.conv .u8 32),o 34 (.aK 4 1 3 [.int .u8 0] [(0,27),(1,30),(2,33)]),o 35 (.app 4 1 24 34),m 5 35]))) (k [5,18,19,20] (p [b 36 .add 20 (i 1),m 20 36])))))))))) (k [5] (t [m 37 5,m 2 37,m 3 (i 0)]))))))⟩
structure N82(R:Env):Prop where
 o82:R.Fn 82 c82
 ES:Uf R
def c97:bz:=Nf ⟨1,[.cell 2 true 2,3],q [a 2 12 [j 0,.ab],m 3 (i 0)] (q [m 9 0,c 10 56 [9],m 4 10] (q [m 11 4,c 12 57 [11,i 1],o 13 (.conv .i64 12),o 14 (.build [j 0,.ab] [(0,1,13)]),a 5 12 [j 0,.ab],r 2 5 14] (k [2,4,5] (s (q [f 15 0 5,l 16 1 15,f 17 0 5,l 18 1 17,b 19 .mul 16 18,m 20 (i 0)] (k [2,4,5,19,20] (.block 0 (.loop (q [b 21 .lss 20 19] (s (h 21 .skip (.exit 0)) (k [2,4,5,19,20] (s (.block 1 (q [m 22 4,c 23 59 [22,i 3],m 6 23] (s (q [m 24 6,n 25 24,b 26 .lss 25 (i 3)] (h 26 (.exit 0) .skip)) (k [2,4,5,6,19,20] (.draw [0,1,0,4,12,28,0,64,192,448,0,1024,3072,7168,16380,32764,65535,131071,262143] [[5],[27],[6],[29],[30],[31],[6],[33],[34],[35],[6],[37],[38],[39],[32,36,40],[41],[28,42],[5],[44,43]] [f 27 1 5,l 28 1 27,m 29 6,u 30 1 29 (i 0),l 31 1 30,o 32 (.conv .i64 31),m 33 6,u 34 1 33 (i 1),l 35 1 34,o 36 (.conv .i64 35),m 37 6,u 38 1 37 (i 2),l 39 1 38,o 40 (.conv .i64 39),o 41 (.build [j 0,j 0,j 0] [(0,1,32),(1,1,36),(2,1,40)]),o 42 (.aK 13 3 1 [j 0,j 0,j 0] [(0,41)]),o 43 (.app 13 3 28 42),f 44 1 5,r 1 44 43]))))) (k [2,4,5,19,20] (p [b 45 .add 20 (i 1),m 20 45])))))))))) (k [2,4,5] (s (q [m 46 4,c 47 60 [46],m 7 47] (q [m 48 7,b 49 .neq 48 (i 0)] (h 49 (t [o 50 (.build [j 0,.ab] []),m 51 7,r 2 2 50,m 3 51]) .skip))) (k [2,5] (s (q [g 52 2 5,c 53 84 [52],m 8 53] (q [m 54 8,b 55 .neq 54 (i 0)] (h 55 (t [o 56 (.build [j 0,.ab] []),m 57 8,r 2 2 56,m 3 57]) .skip))) (k [2,5] (t [g 58 2 5,r 2 2 58,m 3 (i 0)]))))))))))⟩
structure N97(R:Env):Prop where
 o97:R.Fn 97 c97
 Bc:Ob R
 n57:LN R
 n59:Oc R
 n60:QR R
 ES:Uf R
end Go.UM
namespace Go.UM
open Go.AM
open Z
def Ug:bz:=Nf ⟨2,[3],q [m 3 (.k (.bool false))] (q [m 4 0,b 5 .lss 4 (i 0),m 6 5,⟨some 7,some (6,false),.mv 0⟩,⟨some 8,some (6,false),.load false 1 1⟩,⟨some 9,some (6,false),.bin .gtr 7 8⟩,w 10 6 (.k (.bool true)) 9,m 3 10] (k [3] .ret))⟩
structure Om(R:Env):Prop where
 aaC:R.Fn 322 Ug
def Uh:bz:=Nf ⟨2,[4],q [x 2 10 0,m 4 (.k (.bool false))] (t [m 5 1,o 6 (.QH 322 [2]),c 7 323 [5,6],m 4 7])⟩
structure JT(R:Env):Prop where
 GW:R.Fn 307 Uh
 n322:Om R
 n323:ND R
def Ui:bz:=Nf ⟨1,[2],q [x 1 40 0,m 2 (i 0)] (s (q [f 3 0 1,l 4 1 3,o 5 (.aK 10 1 1 [j 0] [(0,4)]),c 6 307 [i 4,5],m 7 6,⟨some 8,some (7,false),.bF 1 1⟩,⟨some 9,some (7,false),.aE 3 1 8 (i 0)⟩,⟨some 10,some (7,false),.load false 1 9⟩,⟨some 11,some (7,false),.bF 1 1⟩,⟨some 12,some (7,false),.aE 3 1 11 (i 1)⟩,⟨some 13,some (7,false),.load false 1 12⟩,⟨some 14,some (7,false),.bF 1 1⟩,⟨some 15,some (7,false),.aE 3 1 14 (i 2)⟩,⟨some 16,some (7,false),.load false 1 15⟩,⟨some 17,some (7,false),.bF 4 1⟩,⟨some 18,some (7,false),.load false 1 17⟩,⟨some 19,some (7,false),.aK 10 1 4 [j 0] [(0,10),(1,13),(2,16),(3,18)]⟩,⟨some 20,some (7,false),.call 307 [i 65535,19]⟩,w 21 7 (.k (.bool true)) 20] (k [21] (h 21 (t [m 2 (i 5)]) .skip))) (k [] (t [m 2 (i 0)])))⟩
structure On(R:Env):Prop where
 Uj:R.Fn 290 Ui
 n307:JT R
def Uk:bz:=Nf ⟨1,[2],q [x 1 26 0,m 2 (.k (.bool false))] (q [f 3 0 1,l 4 1 3,f 5 1 1,l 6 1 5,f 7 2 1,l 8 1 7,o 9 (.mm true [4,6,8]),b 10 .gtr 9 (i 4096),m 11 10,⟨some 12,some (11,false),.bF 0 1⟩,⟨some 13,some (11,false),.load false 1 12⟩,⟨some 14,some (11,false),.bF 1 1⟩,⟨some 15,some (11,false),.load false 1 14⟩,⟨some 16,some (11,false),.bF 2 1⟩,⟨some 17,some (11,false),.load false 1 16⟩,⟨some 18,some (11,false),.mm false [13,15,17]⟩,⟨some 19,some (11,false),.bin .lss 18 (i (-4096))⟩,w 20 11 (.k (.bool true)) 19,m 2 20] (k [2] .ret))⟩
structure Oo(R:Env):Prop where
 JU:R.Fn 308 Uk
def Ul:bz:=Nf ⟨1,[2],q [x 1 41 0,m 2 (i 0)] (q [m 3 (.f 308)] (q [o 5 (.build [j 0,j 0,j 0] []),a 4 26 [j 0,j 0,j 0],r 3 4 5] (s (.block 0 (q [f 7 0 1,l 8 1 7,o 9 (.aK 10 1 1 [j 0] [(0,8)]),c 10 307 [i 2,9],m 11 10,⟨some 12,some (11,false),.bF 1 1⟩,⟨some 13,some (11,false),.rn 3 1 12 none none none⟩,⟨some 14,some (11,false),.call 307 [i 1048576,13]⟩,w 15 11 (.k (.bool true)) 14,m 6 15] (k [1,3,4,6] (h 6 (t [m 2 (i 5)]) (q [m 17 3,f 18 4 1,g 19 3 18,o 20 (.fH 17 [19]),m 21 20,⟨some 22,some (21,false),.mv 3⟩,⟨some 23,some (21,false),.bF 7 1⟩,⟨some 24,some (21,false),.load true 3 23⟩,⟨some 25,some (21,false),.fH 22 [24]⟩,w 26 21 (.k (.bool true)) 25,m 27 26,⟨some 28,some (27,false),.mv 3⟩,⟨some 29,some (27,false),.bF 10 1⟩,⟨some 30,some (27,false),.load true 3 29⟩,⟨some 31,some (27,false),.fH 28 [30]⟩,w 32 27 (.k (.bool true)) 31,m 16 32] (k [1,4,16] (h 16 (t [m 2 (i 8)]) .skip))))))) (k [1,4] (s (q [f 33 0 1,l 34 1 33] (.block 1 (s (.block 3 (s (.block 2 (s (s (q [b 36 .eql 34 (i 2),m 35 36] (h 35 (.exit 2) .skip)) (y [1,4,34] [b 38 .eql 34 (i 0),m 37 38] (h 37 (.exit 3) .skip))) (k [] (.exit 1)))) (y [1,4] [f 39 4 1,g 40 3 39,g 41 3 4,o 42 (.EP true [.i,.i,.i] 40 41)] (h 42 (t [m 2 (i 5)]) .skip)))) (k [1,4] (s (q [f 43 7 1,g 44 3 43,g 45 3 4,o 46 (.EP true [.i,.i,.i] 44 45),m 47 46,⟨some 48,some (47,false),.bF 10 1⟩,⟨some 49,some (47,false),.load true 3 48⟩,⟨some 50,some (47,false),.load true 3 4⟩,⟨some 51,some (47,false),.EP true [.i,.i,.i] 49 50⟩,w 52 47 (.k (.bool true)) 51] (k [52] (h 52 (t [m 2 (i 5)]) .skip))) (k [] (.exit 1))))))) (k [] (t [m 2 (i 0)])))))))⟩
structure Oq(R:Env):Prop where
 Um:R.Fn 292 Ul
 n307:JT R
 n308:Oo R
def Un:bz:=Nf ⟨2,[4],q [m 4 (.k (.bool false))] (s (q [m 6 0,n 7 6,m 8 1,n 9 8,b 10 .neq 7 9] (k [0,1,10] (h 10 (t [m 4 (.k (.bool false))]) .skip))) (k [0,1] (s (q [m 11 0,n 12 11,m 13 (i 0)] (k [0,1,12,13] (.block 0 (.loop (q [b 14 .lss 13 12] (s (h 14 .skip (.exit 0)) (k [0,1,12,13] (s (.block 1 (q [m 15 13,m 5 15] (s (.draw [0,0,3,7,0,0,48,112,255] [[0],[5],[16,17],[18],[1],[5],[20,21],[22],[19,23]] [m 16 0,m 17 5,u 18 3 16 17,g 19 3 18,m 20 1,m 21 5,u 22 3 20 21,g 23 3 22,o 24 (.EP true [.i,.i,.i] 19 23)]) (k [0,1,12,13,24] (h 24 (t [m 4 (.k (.bool false))]) .skip))))) (k [0,1,12,13] (p [b 25 .add 13 (i 1),m 13 25])))))))))) (k [] (t [m 4 (.k (.bool true))])))))⟩
structure Ot(R:Env):Prop where
 Uo:R.Fn 315 Un
def Up:bz:=Nf ⟨2,[4],q [m 4 (.k (.bool false))] (s (q [m 6 0,n 7 6,m 8 1,n 9 8,b 10 .neq 7 9] (k [0,1,10] (h 10 (t [m 4 (.k (.bool false))]) .skip))) (k [0,1] (s (q [m 11 0,n 12 11,m 13 (i 0)] (k [0,1,12,13] (.block 0 (.loop (q [b 14 .lss 13 12] (s (h 14 .skip (.exit 0)) (k [0,1,12,13] (s (.block 1 (q [m 15 13,m 5 15] (s (.draw [0,0,3,7,0,0,48,112,255] [[0],[5],[16,17],[18],[1],[5],[20,21],[22],[19,23]] [m 16 0,m 17 5,u 18 2 16 17,g 19 2 18,m 20 1,m 21 5,u 22 2 20 21,g 23 2 22,o 24 (.EP true [.i,.i] 19 23)]) (k [0,1,12,13,24] (h 24 (t [m 4 (.k (.bool false))]) .skip))))) (k [0,1,12,13] (p [b 25 .add 13 (i 1),m 13 25])))))))))) (k [] (t [m 4 (.k (.bool true))])))))⟩
structure Ou(R:Env):Prop where
 Uq:R.Fn 316 Up
def Ur:bz:=Nf ⟨2,[4],q [m 4 (.k (.bool false))] (s (q [m 6 0,n 7 6,m 8 1,n 9 8,b 10 .neq 7 9] (k [0,1,10] (h 10 (t [m 4 (.k (.bool false))]) .skip))) (k [0,1] (s (q [m 11 0,n 12 11,m 13 (i 0)] (k [0,1,12,13] (.block 0 (.loop (q [b 14 .lss 13 12] (s (h 14 .skip (.exit 0)) (k [0,1,12,13] (s (.block 1 (q [m 15 13,m 5 15] (s (.draw [0,0,3,7,0,0,48,112,255] [[0],[5],[16,17],[18],[1],[5],[20,21],[22],[19,23]] [m 16 0,m 17 5,u 18 3 16 17,g 19 3 18,m 20 1,m 21 5,u 22 3 20 21,g 23 3 22,o 24 (.EP true [.i,.i,.i] 19 23)]) (k [0,1,12,13,24] (h 24 (t [m 4 (.k (.bool false))]) .skip))))) (k [0,1,12,13] (p [b 25 .add 13 (i 1),m 13 25])))))))))) (k [] (t [m 4 (.k (.bool true))])))))⟩
structure Ov(R:Env):Prop where
 Ow:R.Fn 317 Ur
def Us:bz:=Nf ⟨2,[4],q [x 2 39 0,x 3 39 1,m 4 (.k (.bool false))] (s (q [f 5 0 2,l 6 1 5,f 7 0 3,l 8 1 7,b 9 .neq 6 8,m 10 9,⟨some 11,some (10,false),.bF 6 2⟩,⟨some 12,some (10,false),.load true 5 11⟩,⟨some 13,some (10,false),.bF 6 3⟩,⟨some 14,some (10,false),.load true 5 13⟩,⟨some 15,some (10,false),.EP true [.i,.i,.i,.i,.i] 12 14⟩,w 16 10 (.k (.bool true)) 15,m 17 16,⟨some 18,some (17,false),.bF 11 2⟩,⟨some 19,some (17,false),.load true 13 18⟩,⟨some 20,some (17,false),.bF 11 3⟩,⟨some 21,some (17,false),.load true 13 20⟩,⟨some 22,some (17,false),.EP true [.i,.i,.i,.i,.i,.i,.i,.i,.i,.i,.i,.i,.i] 19 21⟩,w 23 17 (.k (.bool true)) 22,m 24 23,⟨some 25,some (24,false),.bF 4 2⟩,⟨some 26,some (24,false),.bF 0 25⟩,⟨some 27,some (24,false),.load false 1 26⟩,⟨some 28,some (24,false),.bF 4 3⟩,⟨some 29,some (24,false),.bF 0 28⟩,⟨some 30,some (24,false),.load false 1 29⟩,⟨some 31,some (24,false),.bin .neq 27 30⟩,w 32 24 (.k (.bool true)) 31] (k [2,3,32] (h 32 (t [m 4 (.k (.bool false))]) .skip))) (y [2,3] [f 33 1 2,f 34 0 33,l 35 1 34,f 36 1 3,f 37 0 36,l 38 1 37,c 39 315 [35,38],m 40 39,⟨some 41,some (40,true),.bF 1 2⟩,⟨some 42,some (40,true),.bF 1 41⟩,⟨some 43,some (40,true),.load false 1 42⟩,⟨some 44,some (40,true),.bF 1 3⟩,⟨some 45,some (40,true),.bF 1 44⟩,⟨some 46,some (40,true),.load false 1 45⟩,⟨some 47,some (40,true),.call 316 [43,46]⟩,w 48 40 47 (.k (.bool false)),m 49 48,⟨some 50,some (49,true),.bF 1 2⟩,⟨some 51,some (49,true),.bF 2 50⟩,⟨some 52,some (49,true),.load false 1 51⟩,⟨some 53,some (49,true),.bF 1 3⟩,⟨some 54,some (49,true),.bF 2 53⟩,⟨some 55,some (49,true),.load false 1 54⟩,⟨some 56,some (49,true),.call 317 [52,55]⟩,w 57 49 56 (.k (.bool false)),m 58 57,⟨some 59,some (58,true),.bF 4 2⟩,⟨some 60,some (58,true),.bF 1 59⟩,⟨some 61,some (58,true),.load false 1 60⟩,⟨some 62,some (58,true),.bF 4 3⟩,⟨some 63,some (58,true),.bF 1 62⟩,⟨some 64,some (58,true),.load false 1 63⟩,⟨some 65,some (58,true),.call 317 [61,64]⟩,w 66 58 65 (.k (.bool false)),m 4 66] (k [4] .ret)))⟩
structure JV(R:Env):Prop where
 Ox:R.Fn 298 Us
 n315:Ot R
 n316:Ou R
 n317:Ov R
def Ut:bz:=Nf ⟨1,[2],q [x 1 39 0,m 2 (i 0)] (s (q [f 3 0 1,l 4 1 3] (.block 0 (q [b 6 .eql 4 (i 1),m 5 6] (h 5 (t [f 7 1 1,g 8 3 7,c 9 193 [8],m 2 9]) (q [b 11 .eql 4 (i 2),m 10 11] (h 10 (t [f 12 4 1,g 13 2 12,c 14 84 [13],m 2 14]) (q [b 16 .eql 4 (i 3),m 15 16] (h 15 (t [f 17 6 1,g 18 5 17,c 19 290 [18],m 2 19]) (q [b 21 .eql 4 (i 4),m 20 21] (h 20 (t [f 22 11 1,g 23 13 22,c 24 292 [23],m 2 24]) .skip)))))))))) (k [] (t [m 2 (i 12)])))⟩
structure Oy(R:Env):Prop where
 Uu:R.Fn 309 Ut
 ES:Uf R
 n193:yW R
 n290:On R
 n292:Oq R
def Uv:bz:=Nf ⟨1,[.cell 2 true 24],q [x 1 39 0,a 2 39 DJ] (s (q [f 3 0 1,l 4 1 3] (.block 0 (q [b 6 .eql 4 (i 1),m 5 6] (h 5 (p [o 7 (.build [.ab,.ab,.ab] []),f 8 1 1,r 3 8 7]) (q [b 10 .eql 4 (i 2),m 9 10] (h 9 (p [o 11 (.build [j 0,.ab] []),f 12 4 1,r 2 12 11]) (q [b 14 .eql 4 (i 3),m 13 14] (h 13 (p [o 15 (.build [j 0,j 0,j 0,j 0,j 0] []),f 16 6 1,r 5 16 15]) (q [b 18 .eql 4 (i 4),m 17 18] (h 17 (p [o 19 (.build SO []),f 20 11 1,r 13 20 19]) .skip)))))))))) (k [1,2] (t [g 21 24 1,r 24 2 21])))⟩
structure Oz(R:Env):Prop where
 Uw:R.Fn 310 Uv
def Ux:bz:=Nf ⟨1,[2],q [x 1 39 0,m 2 (.k .ab)] (s (q [f 16 0 1,l 17 1 16] (.block 0 (q [b 19 .eql 17 (i 1),m 18 19] (h 18 (q [f 21 1 1,g 22 3 21,c 23 196 [22],m 20 23,e 24 20 0,e 25 20 1,m 3 24,m 4 25] (k [3] (t [m 26 3,m 2 26]))) (q [b 28 .eql 17 (i 2),m 27 28] (h 27 (q [f 30 4 1,g 31 2 30,c 32 82 [31],m 29 32,e 33 29 0,e 34 29 1,m 5 33,m 6 34] (k [5] (t [m 35 5,m 2 35]))) (q [b 37 .eql 17 (i 3),m 36 37] (h 36 (q [f 38 6 1,g 39 5 38,a 7 40 [j 0,j 0,j 0,j 0,j 0],r 5 7 39] (q [f 40 0 7,l 41 1 40,o 42 (.conv .u8 41),o 43 (.aK 4 1 1 [.int .u8 0] [(0,42)]),m 8 43] (k [7,8] (s (q [f 44 1 7,o 45 (.aE 3 1 44 (i 0)),l 46 1 45,f 47 1 7,o 48 (.aE 3 1 47 (i 1)),l 49 1 48,f 50 1 7,o 51 (.aE 3 1 50 (i 2)),l 52 1 51,f 53 4 7,l 54 1 53,o 55 (.aK 10 1 4 [j 0] [(0,46),(1,49),(2,52),(3,54)]),n 56 55,m 57 (i 0)] (k [8,55,56,57] (.block 1 (.loop (q [b 58 .lss 57 56] (s (h 58 .skip (.exit 1)) (k [8,55,56,57] (s (.block 2 (q [u 59 1 55 57,l 60 1 59,m 10 60] (p [m 62 8,m 63 10,o 64 (.conv .u64 63),o 65 (.aK 6 1 1 [.int .u64 0] [(0,64)]),c 66 54 [62,i 2,65],m 61 66,e 67 61 0,e 68 61 1,m 8 67]))) (k [8,55,56,57] (p [b 69 .add 57 (i 1),m 57 69])))))))))) (k [8] (t [m 70 8,m 2 70])))))) .skip)))))))) (y [1] [f 71 11 1,g 72 13 71,a 11 41 SO,r 13 11 72] (q [f 74 0 11,l 75 1 74,o 76 (.conv .u8 75),o 77 (.aK 4 1 1 [.int .u8 0] [(0,76)]),f 78 1 11,o 79 (.aE 3 1 78 (i 0)),l 80 1 79,o 81 (.conv .u64 80),f 82 1 11,o 83 (.aE 3 1 82 (i 1)),l 84 1 83,o 85 (.conv .u64 84),f 86 1 11,o 87 (.aE 3 1 86 (i 2)),l 88 1 87,o 89 (.conv .u64 88),o 90 (.aK 6 1 3 [.int .u64 0] [(0,81),(1,85),(2,89)]),c 91 54 [77,i 4,90],m 73 91,e 92 73 0,e 93 73 1,m 12 92,m 13 93] (k [11,12] (s (q [f 94 4 11,g 95 3 94,f 96 7 11,g 97 3 96,f 98 10 11,g 99 3 98,o 100 (.aK 26 3 3 [j 0,j 0,j 0] [(0,95),(1,97),(2,99)]),n 101 100,m 102 (i 0)] (k [12,100,101,102] (.block 3 (.loop (q [b 103 .lss 102 101] (s (h 103 .skip (.exit 3)) (k [12,100,101,102] (s (.block 4 (q [u 104 3 100 102,g 105 3 104,a 15 26 [j 0,j 0,j 0],r 3 15 105] (p [m 107 12,f 108 0 15,l 109 1 108,f 110 1 15,l 111 1 110,f 112 2 15,l 113 1 112,o 114 (.aK 10 1 3 [j 0] [(0,109),(1,111),(2,113)]),c 115 71 [107,i 2,114],m 106 115,e 116 106 0,e 117 106 1,m 12 116]))) (k [12,100,101,102] (p [b 118 .add 102 (i 1),m 102 118])))))))))) (k [12] (t [m 119 12,m 2 119])))))))⟩
structure JW(R:Env):Prop where
 OA:R.Fn 311 Ux
 rC:Iz R
 JS:QT R
 X6:N82 R
 n196:Oh R
def Uy:bz:=Nf ⟨1,[2],q [x 1 39 0,m 2 (i 0)] (s (q [g 4 24 1,c 5 309 [4],m 3 5] (q [m 6 3,b 7 .neq 6 (i 0)] (h 7 (t [m 8 3,m 2 8]) .skip))) (k [1] (s (s (.draw [0,1,0,4,12,31,63] [[1],[9],[1],[11],[12],[10,13],[14]] [g 9 24 1,c 10 310 [9],f 11 0 1,l 12 1 11,o 13 (.build DJ [(0,1,12)]),c 14 298 [10,13],o 15 (.un .not 14)]) (k [1,15] (h 15 (t [m 2 (i 5)]) .skip))) (k [1] (s (s (.draw [0,1,3,0,8,27,63] [[1],[16],[17],[1],[19],[20],[18,21]] [g 16 24 1,c 17 311 [16],n 18 17,f 19 0 1,l 20 1 19,c 21 37 [20],b 22 .gtr 18 21]) (k [22] (h 22 (t [m 2 (i 9)]) .skip))) (k [] (t [m 2 (i 0)])))))))⟩
structure DM(R:Env):Prop where
 yX:R.Fn 294 Uy
 n37:X0 R
 n298:JV R
 n309:Oy R
 n310:Oz R
 n311:JW R
def Uz:bz:=Nf ⟨1,[2,3],q [x 1 39 0,m 2 (.k .ab),m 3 (i 0)] (s (q [g 5 24 1,c 6 294 [5],m 4 6] (q [m 7 4,b 8 .neq 7 (i 0)] (h 8 (t [m 9 4,m 2 (.k .ab),m 3 9]) .skip))) (k [1] (t [g 10 24 1,c 11 311 [10],m 2 11,m 3 (i 0)])))⟩
structure OB(R:Env):Prop where
 UA:R.Fn 301 Uz
 n294:DM R
 n311:JW R
def UB:bz:=Nf ⟨2,[4],q [x 2 42 0,m 4 (i 0)] (q [f 5 0 2,l 6 1 5,m 7 1,c 8 57 [6,7],o 9 (.conv .i64 8),m 4 9] (k [4] .ret))⟩
structure JX(R:Env):Prop where
 aaD:R.Fn 318 UB
 n57:LN R
def UD:bz:=Nf ⟨2,[.cell 4 true 3],q [x 2 42 0,a 4 13 [j 0,j 0,j 0]] (s (.draw [0,0,3,0,0,31,0,0,255,511,1023] [[2],[1],[5,6],[2],[1],[8,9],[2],[1],[11,12],[7,10,13],[4,14]] [g 5 1 2,m 6 1,c 7 318 [5,6],g 8 1 2,m 9 1,c 10 318 [8,9],g 11 1 2,m 12 1,c 13 318 [11,12],o 14 (.build [j 0,j 0,j 0] [(0,1,7),(1,1,10),(2,1,13)]),r 3 4 14]) (k [4] .ret))⟩
structure OC(R:Env):Prop where
 aaE:R.Fn 319 UD
 n318:JX R
def UE:bz:=Nf ⟨1,[.cell 2 true 3],q [x 1 42 0,a 2 26 [j 0,j 0,j 0]] (s (.draw [0,1,3,0,8,31,0,64,255,511,1023] [[1],[3],[4],[1],[6],[7],[1],[9],[10],[5,8,11],[2,12]] [f 3 0 1,l 4 1 3,c 5 76 [4,i 2],f 6 0 1,l 7 1 6,c 8 76 [7,i 2],f 9 0 1,l 10 1 9,c 11 76 [10,i 2],o 12 (.build [j 0,j 0,j 0] [(0,1,5),(1,1,8),(2,1,11)]),r 3 2 12]) (k [2] .ret))⟩
structure OD(R:Env):Prop where
 aaF:R.Fn 320 UE
 IA:XZ R
def UF:bz:=Nf ⟨2,[.cell 4 true 24,5],q [a 4 39 DJ,m 5 (i 0)] (q [m 10 0,o 11 (.build DJ [(0,1,10)]),a 6 39 DJ,r 24 6 11] (q [m 7 (i 0)] (s (q [m 12 1,c 13 56 [12],o 14 (.build [.ax] [(0,1,13)]),a 8 42 [.ax],r 1 8 14] (y [0,1,4,6,7,8] [m 15 0] (.block 0 (q [b 17 .eql 15 (i 1),m 16 17] (h 16 (p [m 19 1,c 20 202 [19],m 18 20,e 21 18 0,e 22 18 1,f 23 1 6,r 3 23 21,m 7 22]) (q [b 25 .eql 15 (i 2),m 24 25] (h 24 (p [m 27 1,c 28 97 [27],m 26 28,e 29 26 0,e 30 26 1,f 31 4 6,r 2 31 29,m 7 30]) (q [b 33 .eql 15 (i 3),m 32 33] (h 32 (s (.draw [0,1,0,7,0,31,63,127,255] [[8],[34],[8],[36],[8],[38],[35,37,39],[6],[41,40]] [g 34 1 8,c 35 318 [34,i 1],g 36 1 8,c 37 319 [36,i 2],g 38 1 8,c 39 318 [38,i 2],o 40 (.build [j 0,j 0,j 0,j 0,j 0] [(0,1,35),(1,3,37),(4,1,39)]),f 41 6 6,r 5 41 40]) (k [4,6,8] (p [f 42 0 8,l 43 1 42,c 44 60 [43],m 7 44]))) (q [b 46 .eql 15 (i 4),m 45 46] (h 45 (s (.draw [0,1,0,7,0,31,0,127,0,511,1023,2047,4095] [[8],[47],[8],[49],[8],[51],[8],[53],[8],[55],[48,50,52,54,56],[6],[58,57]] [g 47 1 8,c 48 318 [47,i 1],g 49 1 8,c 50 319 [49,i 4],g 51 1 8,c 52 320 [51],g 53 1 8,c 54 320 [53],g 55 1 8,c 56 320 [55],o 57 (.build SO [(0,1,48),(1,3,50),(4,3,52),(7,3,54),(10,3,56)]),f 58 11 6,r 13 58 57]) (k [4,6,8] (p [f 59 0 8,l 60 1 59,c 61 60 [60],m 7 61]))) .skip))))))))))) (k [4,6,7] (s (q [m 62 7,b 63 .neq 62 (i 0)] (h 63 (t [o 64 (.build DJ []),m 65 7,r 24 4 64,m 5 65]) .skip)) (k [4,6] (s (q [g 66 24 6,c 67 294 [66],m 9 67] (q [m 68 9,b 69 .neq 68 (i 0)] (h 69 (t [o 70 (.build DJ []),m 71 9,r 24 4 70,m 5 71]) .skip))) (k [4,6] (t [g 72 24 6,r 24 4 72,m 5 (i 0)])))))))))⟩
structure OE(R:Env):Prop where
 UG:R.Fn 304 UF
 Bc:Ob R
 n60:QR R
 X7:N97 R
 n202:Ol R
 n294:DM R
 n318:JX R
 n319:OC R
 n320:OD R
end Go.UM
namespace Go.UM
open Go.AM
open Z
def UH:bz:=Nf ⟨2,[.cell 4 true 12],q [x 2 1 0,a 4 73 ZZ] (q [a 5 73 ZZ] (s (.draw [0,0,3] [[5],[2],[7,8]] [o 7 (.rn 12 1 5 none none none),o 8 (.rn 8 1 2 none none none),o 9 (.copy 1 7 8)]) (s (q [m 10 (i 0)] (k [1,4,5,10] (.block 0 (.loop (q [b 11 .lss 10 (i 4)] (s (h 11 .skip (.exit 0)) (k [1,4,5,10] (s (.block 1 (q [m 12 10,m 6 12] (p [m 13 6,b 14 .add (i 8) 13,m 15 1,m 16 6,b 17 .mul (i 8) 16,b 18 .shr 15 17,o 19 (.conv .u8 18),o 20 (.aE 12 1 5 14),r 1 20 19]))) (k [1,4,5,10] (p [b 21 .add 10 (i 1),m 10 21])))))))))) (k [4,5] (t [g 22 12 5,r 12 4 22])))))⟩
structure GX(R:Env):Prop where
 GY:R.Fn 544 UH
def UI:bz:=Nf ⟨2,[.cell 4 true 15,5],q [x 2 63 0,a 4 2 A',m 5 (i 0)] (s (.block 0 (q [m 10 1,n 11 10,b 12 .lss 11 (i 63),m 9 12] (h 9 (t [o 13 (.build A' []),r 15 4 13,m 5 (i 4)]) (q [m 15 1,o 16 (.aK 4 1 4 [.int .u8 0] [(0,.k (.int .u8 85)),(1,.k (.int .u8 77)),(2,.k (.int .u8 66)),(3,.k (.int .u8 49))]),o 17 (.Lq 16),c 18 389 [15,17],o 19 (.un .not 18),m 14 19] (k [1,2,4,14] (h 14 (t [o 20 (.build A' []),r 15 4 20,m 5 (i 5)]) .skip)))))) (y [1,2,4] [m 21 1,o 22 (.gO 4 1 21 (some (i 4)) (some (i 12)) none),o 23 (.ME 8 1 22),g 24 8 23,a 6 1 XV,r 8 6 24] (k [1,2,4,6] (s (s (.draw [0,0,2,0,8,0,32,127,255,511,511,1023,4095] [[2],[6],[27],[1],[29],[1],[31],[26,28,30,32],[33],[25],[25],[34],[35]] [g 26 32 2,g 27 8 6,c 28 544 [27,i 0],m 29 1,o 30 (.gO 4 1 29 none (some (i 47)) none),m 31 1,o 32 (.gO 4 1 31 (some (i 47)) (some (i 63)) none),c 33 566 [26,28,30,32],m 25 33,e 34 25 0,e 35 25 1,m 7 34,m 8 35]) (y [1,4,8] [m 36 8,b 37 .neq 36 (i 0)] (h 37 (t [o 38 (.build A' []),m 39 8,r 15 4 38,m 5 39]) .skip))) (y [1,4] [m 40 1,o 41 (.gO 4 1 40 (some (i 12)) (some (i 47)) none),c 42 49 [41],e 43 42 0,e 44 42 1,r 15 4 43,m 5 44] (k [4,5] .ret))))))⟩
structure OF(R:Env):Prop where
 UJ:R.Fn 548 UI
 n49:N49 R
 JY:NE R
 pe:GX R
 Bd:GV R
def UK:bz:=Nf ⟨6,[12,13],q [x 6 63 0,x 7 73 1,m 12 (.k .ab),m 13 (i 0)] (q [m 18 2,c 19 59 [18,i 4],m 14 19] (s (q [m 20 14,n 21 20,b 22 .lss 21 (i 4)] (h 22 (t [m 12 (.k .ab),m 13 (i 4)]) .skip)) (k [2,3,4,5,6,7,14] (s (q [m 24 4,o 25 (.conv .u64 24),m 26 5,o 27 (.conv .u64 26),o 28 (.aK 6 1 2 [.int .u64 0] [(0,25),(1,27)]),c 29 54 [.k .ab,i 2,28],m 23 29,e 30 23 0,e 31 23 1,m 15 30,m 16 31] (y [2,3,5,6,7,14,15] [m 32 14,m 33 15,c 34 47 [32,33],o 35 (.un .not 34)] (h 35 (t [m 12 (.k .ab),m 13 (i 7)]) .skip))) (y [2,3,5,6,7,14] [m 36 2,m 37 5,b 38 .add 37 (i 16),c 39 59 [36,38],m 17 39] (k [2,3,6,7,14,17] (s (q [m 40 2,c 41 65 [40],b 42 .neq 41 (i 0)] (h 42 (t [m 43 2,c 44 65 [43],m 12 (.k .ab),m 13 44]) .skip)) (k [3,6,7,14,17] (s (.draw [0,0,0,0,12,28,0,127,255,255,1023,2047] [[6],[7],[14],[3],[47,48],[49],[17],[45,46,50,51],[52],[52],[53],[54]] [g 45 32 6,g 46 12 7,m 47 14,m 48 3,o 49 (.aK 51 1 2 [.ab] [(0,47),(1,48)]),c 50 543 [49],m 51 17,c 52 566 [45,46,50,51],e 53 52 0,e 54 52 1,m 12 53,m 13 54]) (k [12,13] .ret))))))))))⟩
structure OG(R:Env):Prop where
 aaG:R.Fn 549 UK
 n47:SQ R
 rC:Iz R
 n59:Oc R
 QS:XY R
 uW:GL R
 Bd:GV R
def UL:bz:=Nf ⟨2,[.cell 4 true 15,.cell 5 true 24,6],q [x 2 63 0,a 4 2 A',a 5 39 DJ,m 6 (i 0)] (q [m 7 (.f 547)] (q [g 19 32 2,m 20 1,c 21 548 [19,20],m 18 21,e 22 18 0,e 23 18 1,a 8 2 A',r 15 8 22,m 9 23] (k [1,2,4,5,7,8,9] (s (q [m 24 9,b 25 .neq 24 (i 0)] (h 25 (q [m 26 7,m 27 9,o 28 (.fH 26 [27]),e 29 28 0,e 30 28 1,e 31 28 2,r 15 4 29,r 24 5 30,m 6 31] (k [4,5,6] .ret)) .skip)) (y [1,2,4,5,7,8] [m 32 1,o 33 (.gO 4 1 32 (some (i 4)) (some (i 12)) none),o 34 (.ME 8 1 33),g 35 8 34,a 10 1 XV,r 8 10 35] (y [1,2,4,5,7,8,10] [m 36 1,o 37 (.gO 4 1 36 (some (i 47)) (some (i 63)) none),m 11 37] (q [m 38 1,o 39 (.gO 4 1 38 (some (i 63)) none none),c 40 56 [39],m 12 40] (q [m 13 (.k .ab)] (s (q [f 41 14 8,l 42 1 41,m 43 (i 0)] (k [2,4,5,7,8,10,11,12,13,42,43] (.block 0 (.loop (q [b 44 .lss 43 42] (s (h 44 .skip (.exit 0)) (k [2,4,5,7,8,10,11,12,13,42,43] (s (.block 1 (q [m 45 43,m 14 45] (s (.draw [0,0,0,4,14,0,0,0,0,256,0,1024,3840,7936,16383,32767,65535,65535,131071,524287] [[2],[10],[14],[49],[48,50],[12],[11],[14],[8],[55],[13],[57],[56,58],[59],[47,51,52,53,54,60],[61],[46],[46],[62],[63]] [g 47 32 2,g 48 8 10,m 49 14,b 50 .add 49 (i 1),c 51 544 [48,50],m 52 12,m 53 11,m 54 14,f 55 13 8,l 56 1 55,m 57 13,n 58 57,b 59 .sub 56 58,o 60 (.mm false [i 256,59]),o 61 (.lY (.f 549) [47,51,52,53,54,60]),m 46 61,e 62 46 0,e 63 46 1,m 15 62,m 16 63]) (k [2,4,5,7,8,10,11,12,13,15,16,42,43] (s (q [m 64 16,b 65 .neq 64 (i 0)] (h 65 (q [m 66 7,m 67 16,o 68 (.fH 66 [67]),e 69 68 0,e 70 68 1,e 71 68 2,r 15 4 69,r 24 5 70,m 6 71] (k [4,5,6] .ret)) .skip)) (k [2,4,5,7,8,10,11,12,13,15,42,43] (p [m 72 13,m 73 15,o 74 (.app 4 1 72 73),m 13 74]))))))) (k [2,4,5,7,8,10,11,12,13,42,43] (p [b 75 .add 43 (i 1),m 43 75])))))))))) (k [4,5,7,8,12,13] (s (q [m 76 12,c 77 68 [76],b 78 .gtr 77 (i 0)] (h 78 (q [m 79 7,o 80 (.fH 79 [i 7]),e 81 80 0,e 82 80 1,e 83 80 2,r 15 4 81,r 24 5 82,m 6 83] (k [4,5,6] .ret)) .skip)) (y [4,5,7,8,13] [f 85 1 8,l 86 1 85,m 87 13,c 88 304 [86,87],m 84 88,e 89 84 0,e 90 84 1,a 17 39 DJ,r 24 17 89,m 9 90] (k [4,5,7,8,9,17] (s (q [m 91 9,b 92 .neq 91 (i 0)] (h 92 (q [m 93 7,m 94 9,o 95 (.fH 93 [94]),e 96 95 0,e 97 95 1,e 98 95 2,r 15 4 96,r 24 5 97,m 6 98] (k [4,5,6] .ret)) .skip)) (k [4,5,8,17] (s (.draw [0,0,1,7,15] [[8],[17],[4,99],[5,100],[]] [g 99 15 8,g 100 24 17,r 15 4 99,r 24 5 100,m 6 (i 0)]) (k [4,5,6] .ret)))))))))))))))))⟩
structure JZ(R:Env):Prop where
 OH:R.Fn 528 UL
 Bc:Ob R
 n68:N68 R
 n304:OE R
 pe:GX R
 J0:OF R
 OI:OG R
def UN:bz:=Nf ⟨2,[],q [m 3 (i 0)] (k [0,1,3] (.block 0 (.loop (s (q [l 5 1 1,n 6 5,b 7 .gtr 6 (i 0)] (h 7 .skip (.exit 0))) (k [0,1,3] (s (.block 1 (q [l 10 1 1,n 11 10,o 12 (.mm false [11,i 256]),m 4 12] (s (q [m 13 0,m 14 3,l 15 1 1,m 16 4,m 17 4,o 18 (.gO 4 1 15 none (some 16) (some 17)),o 19 (.fH 13 [14,18]),o 20 (.un .not 19)] (k [0,1,3,4,20] (h 20 .ret .skip))) (k [0,1,3,4] (p [l 21 1 1,m 22 4,o 23 (.gO 4 1 21 (some 22) none none),r 1 1 23]))))) (k [0,1,3] (p [m 8 3,b 9 .add 8 (i 1),m 3 9]))))))))⟩
structure OJ(R:Env):Prop where
 UO:R.Fn 565 UN
def UP:bz:=Nf ⟨1,[2],q [x 1 51 0,m 2 (.k .af)] (t [o 3 (.QH 565 [1]),m 2 3])⟩
structure OK(R:Env):Prop where
 aaH:R.Fn 546 UP
 J1:OJ R
def mz:SG:= {ps:=[69,70],ss:=[4,5,13,14],I6:=(.seq (.ops [⟨some 16,none,.mv (.t 69)⟩]) (.ops [⟨some 17,none,.mv (.t 70)⟩])),body:=(.block 1 (.seq (.ops [⟨some 72,none,.mv (.t 16)⟩,⟨some 73,none,.conv .u64 (.t 72)⟩,⟨some 74,none,.mv (.t 17)⟩,⟨some 75,none,.og (.t 74)⟩,⟨some 76,none,.conv .u64 (.t 75)⟩,⟨some 77,none,.aK 6 1 2 [.int .u64 0] [(0,.t 73),(1,.t 76)]⟩,⟨some 78,none,.call 54 [.k (.ab),.k (.int .i64 2),.t 77]⟩,⟨some 71,none,.mv (.t 78)⟩,⟨some 79,none,.ext (.t 71) 0⟩,⟨some 80,none,.ext (.t 71) 1⟩,⟨some 18,none,.mv (.t 79)⟩,⟨some 19,none,.mv (.t 80)⟩]) (.pY [4,5,13,14,16,17,18] (.seq (.draw [0,0,0,4,14,0,0,96,254,0,1023,2047,4095,4095,8191,32767] [[4],[5],[16],[84],[83,85],[18],[14],[87,88],[89],[17],[82,86,90,91],[92],[81],[81],[93],[94]] [⟨some 82,none,.load true 32 (.t 4)⟩,⟨some 83,none,.load true 8 (.t 5)⟩,⟨some 84,none,.mv (.t 16)⟩,⟨some 85,none,.bin .add (.t 84) (.k (.int .i64 1))⟩,⟨some 86,none,.call 544 [.t 83,.t 85]⟩,⟨some 87,none,.mv (.t 18)⟩,⟨some 88,none,.load false 1 (.t 14)⟩,⟨some 89,none,.aK 51 1 2 [.ab] [(0,.t 87),(1,.t 88)]⟩,⟨some 90,none,.call 543 [.t 89]⟩,⟨some 91,none,.mv (.t 17)⟩,⟨some 92,none,.call 545 [.t 82,.t 86,.t 90,.t 91]⟩,⟨some 81,none,.mv (.t 92)⟩,⟨some 93,none,.ext (.t 81) 0⟩,⟨some 94,none,.ext (.t 81) 1⟩,⟨some 20,none,.mv (.t 93)⟩,⟨some 21,none,.mv (.t 94)⟩]) (.pY [13,18,20] (.ops [⟨some 95,none,.load false 1 (.t 13)⟩,⟨some 96,none,.mv (.t 18)⟩,⟨some 97,none,.app 4 1 (.t 95) (.t 96)⟩,⟨some 98,none,.mv (.t 20)⟩,⟨some 99,none,.app 4 1 (.t 97) (.t 98)⟩,⟨none,none,.store 1 (.t 13) (.t 99)⟩]))))))}
def UQ:bz:=Nf ⟨4,[8,9],q [x 4 63 0,x 5 1 1,x 6 2 2,x 7 39 3,m 8 (.k .ab),m 9 (i 0)] (y [4,5,6,7] [g 23 24 7,c 24 301 [23],m 22 24,e 25 22 0,e 26 22 1,m 10 25,m 11 26] (k [4,5,6,7,10,11] (s (q [m 27 11,b 28 .neq 27 (i 0)] (h 28 (t [m 29 11,m 8 (.k .ab),m 9 29]) .skip)) (k [4,5,6,7,10] (s (q [f 30 1 6,l 31 1 30,f 32 0 7,l 33 1 32,b 34 .neq 31 33] (k [4,5,6,10,34] (h 34 (t [m 8 (.k .ab),m 9 (i 12)]) .skip))) (y [4,5,6,10] [m 35 10,n 36 35,m 37 10,n 38 37,c 39 39 [38],f 40 13 6,r 1 40 36,f 41 14 6,r 1 41 39] (y [4,5,6,10] [g 43 15 6,c 44 45 [43],m 42 44,e 45 42 0,e 46 42 1,m 12 45,m 11 46] (k [4,5,10,11,12] (s (q [m 47 11,b 48 .neq 47 (i 0)] (h 48 (t [m 49 11,m 8 (.k .ab),m 9 49]) .skip)) (y [4,5,10,12] [o 50 (.aK 4 1 4 [.int .u8 0] [(0,.k (.int .u8 85)),(1,.k (.int .u8 77)),(2,.k (.int .u8 66)),(3,.k (.int .u8 49))]),o 51 (.Lq 50),o 52 (.rn 8 1 5 none none none),m 53 12,o 54 (.aK 51 1 3 [.ab] [(0,51),(1,52),(2,53)]),c 55 543 [54],a 13 51 [.ab],r 1 13 55] (k [4,5,10,13] (s (.draw [0,0,2,0,15,31,63,63,0,383,1023] [[4],[5],[58],[13],[57,59,60],[61],[56],[56],[],[14,62],[63]] [g 57 32 4,g 58 8 5,c 59 544 [58,i 0],l 60 1 13,c 61 545 [57,59,60,.k .ab],m 56 61,e 62 56 0,e 63 56 1,a 14 51 [.ab],r 1 14 62,m 15 63]) (y [4,5,10,13,14] [l 64 1 13,l 65 1 14,o 66 (.app 4 1 64 65),r 1 13 66] (s (q [m 67 10,c 68 546 [67]] (k [4,5,13,14,68] (.block 0 (.sP 68 mz.ps mz.I6 mz.body)))) (k [13] (t [l 100 1 13,m 8 100,m 9 (i 0)]))))))))))))))))⟩
structure GZ(R:Env):Prop where
 OL:R.Fn 527 UQ
 n39:X2 R
 n45:N45 R
 rC:Iz R
 n301:OB R
 uW:GL R
 pe:GX R
 DN:Oa R
 G0:OK R
end Go.UM
namespace Go.UM
open Go.AM
open Z
end Go.UM
namespace Go.UM
open Go.AM
open Z
end Go.UM
namespace Go.UM
open Go.AM
open Z
def UR:bz:=Nf ⟨0,[0],q [m 0 (.k .ax)] (t [o 1 (.build QP [(0,1,.k (.int .u32 1779033703)),(1,1,.k (.int .u32 3144134277)),(2,1,.k (.int .u32 1013904242)),(3,1,.k (.int .u32 2773480762)),(4,1,.k (.int .u32 1359893119)),(5,1,.k (.int .u32 2600822924)),(6,1,.k (.int .u32 528734635)),(7,1,.k (.int .u32 1541459225))]),o 2 (.build Z1 [(0,8,1)]),x 3 81 2,m 0 3])⟩
structure OM(R:Env):Prop where
 aaI:R.Fn 584 UR
def US:bz:=Nf ⟨1,[2],q [m 2 (.k (.bool false))] (q [m 3 0,o 4 (.B1 false 3),m 5 4,⟨some 6,some (5,false),.mv 0⟩,⟨some 7,some (5,false),.aB 6⟩,⟨some 8,some (5,false),.bF 0 7⟩,⟨some 9,some (5,false),.load true 8 8⟩,⟨some 10,some (5,false),.build QP []⟩,⟨some 11,some (5,false),.EP false [.i,.i,.i,.i,.i,.i,.i,.i] 9 10⟩,⟨some 12,some (5,false),.mv 11⟩,⟨some 13,some (12,true),.mv 0⟩,⟨some 14,some (12,true),.aB 13⟩,⟨some 15,some (12,true),.bF 72 14⟩,⟨some 16,some (12,true),.load false 1 15⟩,⟨some 17,some (12,true),.bin .eql 16 (i 0)⟩,⟨some 18,some (5,false),.pick 12 17 (.k (.bool false))⟩,w 19 5 (.k (.bool true)) 18,m 2 19] (k [2] .ret))⟩
structure G1(R:Env):Prop where
 UT:R.Fn 607 US
def UU:bz:=Nf ⟨2,[4],q [m 4 (.k (.int .u32 0))] (q [m 5 0,m 6 1,o 7 (.un .neg 6),c 8 680 [5,7],m 4 8] (k [4] .ret))⟩
structure ON(R:Env):Prop where
 tH:R.Fn 641 UU
 pb:JE R
def UV:bz:=Nf ⟨2,[.cell 4 true 8],q [x 2 86 0,x 3 82 1,a 4 86 QP] (q [o 17 (.build Z2 [(0,1,.k (.int .u32 1116352408)),(1,1,.k (.int .u32 1899447441)),(2,1,.k (.int .u32 3049323471)),(3,1,.k (.int .u32 3921009573)),(4,1,.k (.int .u32 961987163)),(5,1,.k (.int .u32 1508970993)),(6,1,.k (.int .u32 2453635748)),(7,1,.k (.int .u32 2870763221)),(8,1,.k (.int .u32 3624381080)),(9,1,.k (.int .u32 310598401)),(10,1,.k (.int .u32 607225278)),(11,1,.k (.int .u32 1426881987)),(12,1,.k (.int .u32 1925078388)),(13,1,.k (.int .u32 2162078206)),(14,1,.k (.int .u32 2614888103)),(15,1,.k (.int .u32 3248222580)),(16,1,.k (.int .u32 3835390401)),(17,1,.k (.int .u32 4022224774)),(18,1,.k (.int .u32 264347078)),(19,1,.k (.int .u32 604807628)),(20,1,.k (.int .u32 770255983)),(21,1,.k (.int .u32 1249150122)),(22,1,.k (.int .u32 1555081692)),(23,1,.k (.int .u32 1996064986)),(24,1,.k (.int .u32 2554220882)),(25,1,.k (.int .u32 2821834349)),(26,1,.k (.int .u32 2952996808)),(27,1,.k (.int .u32 3210313671)),(28,1,.k (.int .u32 3336571891)),(29,1,.k (.int .u32 3584528711)),(30,1,.k (.int .u32 113926993)),(31,1,.k (.int .u32 338241895)),(32,1,.k (.int .u32 666307205)),(33,1,.k (.int .u32 773529912)),(34,1,.k (.int .u32 1294757372)),(35,1,.k (.int .u32 1396182291)),(36,1,.k (.int .u32 1695183700)),(37,1,.k (.int .u32 1986661051)),(38,1,.k (.int .u32 2177026350)),(39,1,.k (.int .u32 2456956037)),(40,1,.k (.int .u32 2730485921)),(41,1,.k (.int .u32 2820302411)),(42,1,.k (.int .u32 3259730800)),(43,1,.k (.int .u32 3345764771)),(44,1,.k (.int .u32 3516065817)),(45,1,.k (.int .u32 3600352804)),(46,1,.k (.int .u32 4094571909)),(47,1,.k (.int .u32 275423344)),(48,1,.k (.int .u32 430227734)),(49,1,.k (.int .u32 506948616)),(50,1,.k (.int .u32 659060556)),(51,1,.k (.int .u32 883997877)),(52,1,.k (.int .u32 958139571)),(53,1,.k (.int .u32 1322822218)),(54,1,.k (.int .u32 1537002063)),(55,1,.k (.int .u32 1747873779)),(56,1,.k (.int .u32 1955562222)),(57,1,.k (.int .u32 2024104815)),(58,1,.k (.int .u32 2227730452)),(59,1,.k (.int .u32 2361852424)),(60,1,.k (.int .u32 2428436474)),(61,1,.k (.int .u32 2756734187)),(62,1,.k (.int .u32 3204031479)),(63,1,.k (.int .u32 3329325298))]),a 5 87 Z2,r 64 5 17] (q [a 6 87 Z2] (s (q [m 18 (i 0)] (k [2,3,4,5,6,18] (.block 0 (.loop (q [b 19 .lss 18 (i 64)] (s (h 19 .skip (.exit 0)) (k [2,3,4,5,6,18] (s (.block 1 (q [m 20 18,m 7 20] (s (q [m 21 7,b 22 .lss 21 (i 16)] (h 22 (s (.draw [0,0,2,6,14,30,62,0,128,384,896,1920,3968,8064,16382,0,32768,98304,229376,491520,1015808,2064384,4194302,0,8388608,25165824,58720256,125829120,260046848,536870910,1073741823,2147483647] [[7],[7],[24],[3,25],[26],[27],[28],[7],[30],[31],[3,32],[33],[34],[35],[29,36],[7],[38],[39],[3,40],[41],[42],[43],[37,44],[7],[46],[47],[3,48],[49],[50],[45,51],[6,23],[53,52]] [m 23 7,m 24 7,b 25 .mul (i 4) 24,o 26 (.aE 64 1 3 25),l 27 1 26,o 28 (.conv .u32 27),b 29 .shl 28 (.k (.int .u64 24)),m 30 7,b 31 .mul (i 4) 30,b 32 .add 31 (i 1),o 33 (.aE 64 1 3 32),l 34 1 33,o 35 (.conv .u32 34),b 36 .shl 35 (.k (.int .u64 16)),b 37 .or 29 36,m 38 7,b 39 .mul (i 4) 38,b 40 .add 39 (i 2),o 41 (.aE 64 1 3 40),l 42 1 41,o 43 (.conv .u32 42),b 44 .shl 43 (.k (.int .u64 8)),b 45 .or 37 44,m 46 7,b 47 .mul (i 4) 46,b 48 .add 47 (i 3),o 49 (.aE 64 1 3 48),l 50 1 49,o 51 (.conv .u32 50),b 52 .or 45 51,o 53 (.aE 64 1 6 23),r 1 53 52]) (k [2,3,4,5,6,18] (.exit 1))) .skip)) (k [2,3,4,5,6,7,18] (s (.draw [0,1,3,7,0,16,48,112,15,511] [[7],[54],[6,55],[56],[7],[58],[6,59],[60],[57],[61]] [m 54 7,b 55 .sub 54 (i 15),o 56 (.aE 64 1 6 55),l 57 1 56,m 58 7,b 59 .sub 58 (i 2),o 60 (.aE 64 1 6 59),l 61 1 60,m 8 57,m 9 61]) (k [2,3,4,5,6,7,8,9,18] (.draw [0,0,2,6,14,0,32,0,224,480,0,1024,4064,8190,0,16384,49152,114688,262142,0,524768,0,3670496,7864800,0,16777216,66585056,134217726,268435455,536870911] [[7],[7],[63],[6,64],[65],[8],[67],[8],[69],[68,70],[8],[72],[71,73],[66,74],[7],[76],[6,77],[78],[75,79],[9],[81],[9],[83],[82,84],[9],[86],[85,87],[80,88],[6,62],[90,89]] [m 62 7,m 63 7,b 64 .sub 63 (i 16),o 65 (.aE 64 1 6 64),l 66 1 65,m 67 8,c 68 641 [67,i 7],m 69 8,c 70 641 [69,i 18],b 71 .xor 68 70,m 72 8,b 73 .shr 72 (.k (.int .u64 3)),b 74 .xor 71 73,b 75 .add 66 74,m 76 7,b 77 .sub 76 (i 7),o 78 (.aE 64 1 6 77),l 79 1 78,b 80 .add 75 79,m 81 9,c 82 641 [81,i 17],m 83 9,c 84 641 [83,i 19],b 85 .xor 82 84,m 86 9,b 87 .shr 86 (.k (.int .u64 10)),b 88 .xor 85 87,b 89 .add 80 88,o 90 (.aE 64 1 6 62),r 1 90 89]))))))) (k [2,3,4,5,6,18] (p [b 91 .add 18 (i 1),m 18 91])))))))))) (y [2,4,5,6] [g 92 8 2,a 10 86 QP,r 8 10 92] (s (q [m 93 (i 0)] (k [2,4,5,6,10,93] (.block 2 (.loop (q [b 94 .lss 93 (i 64)] (s (h 94 .skip (.exit 2)) (k [2,4,5,6,10,93] (s (.block 3 (q [m 95 93,m 11 95] (s (.draw [0,1,0,4,3,31] [[10],[96],[10],[98],[97],[99]] [o 96 (.aE 8 1 10 (i 0)),l 97 1 96,o 98 (.aE 8 1 10 (i 4)),l 99 1 98,m 12 97,m 13 99]) (k [2,4,5,6,10,11,12,13,93] (s (.draw [0,1,0,4,0,28,60,0,188,508,1023,0,0,4096,14336,0,32768,0,131072,491520,1046528,2097151,0,4194304,12582912,33554431,0,67108864,201326592,536870911,1073741823] [[10],[100],[13],[102],[13],[104],[103,105],[13],[107],[106,108],[101,109],[13],[10],[112],[111,113],[13],[115],[10],[117],[116,118],[114,119],[110,120],[11],[5,122],[123],[121,124],[11],[6,126],[127],[125,128],[129]] [o 100 (.aE 8 1 10 (i 7)),l 101 1 100,m 102 13,c 103 641 [102,i 6],m 104 13,c 105 641 [104,i 11],b 106 .xor 103 105,m 107 13,c 108 641 [107,i 25],b 109 .xor 106 108,b 110 .add 101 109,m 111 13,o 112 (.aE 8 1 10 (i 5)),l 113 1 112,b 114 .and 111 113,m 115 13,o 116 (.un .xor 115),o 117 (.aE 8 1 10 (i 6)),l 118 1 117,b 119 .and 116 118,b 120 .xor 114 119,b 121 .add 110 120,m 122 11,o 123 (.aE 64 1 5 122),l 124 1 123,b 125 .add 121 124,m 126 11,o 127 (.aE 64 1 6 126),l 128 1 127,b 129 .add 125 128,m 14 129]) (k [2,4,5,6,10,12,14,93] (s (.draw [0,1,0,7,15,0,47,127,0,0,512,1792,0,0,8192,28672,65280,0,131072,0,524288,1966080,4194048,8388607,16777215] [[12],[130],[12],[132],[131,133],[12],[135],[134,136],[12],[10],[139],[138,140],[12],[10],[143],[142,144],[141,145],[10],[147],[10],[149],[148,150],[146,151],[137,152],[153]] [m 130 12,c 131 641 [130,i 2],m 132 12,c 133 641 [132,i 13],b 134 .xor 131 133,m 135 12,c 136 641 [135,i 22],b 137 .xor 134 136,m 138 12,o 139 (.aE 8 1 10 (i 1)),l 140 1 139,b 141 .and 138 140,m 142 12,o 143 (.aE 8 1 10 (i 2)),l 144 1 143,b 145 .and 142 144,b 146 .xor 141 145,o 147 (.aE 8 1 10 (i 1)),l 148 1 147,o 149 (.aE 8 1 10 (i 2)),l 150 1 149,b 151 .and 148 150,b 152 .xor 146 151,b 153 .add 137 152,m 15 153]) (k [2,4,5,6,10,14,15,93] (p [m 154 14,m 155 15,b 156 .add 154 155,o 157 (.aE 8 1 10 (i 0)),l 158 1 157,o 159 (.aE 8 1 10 (i 1)),l 160 1 159,o 161 (.aE 8 1 10 (i 2)),l 162 1 161,o 163 (.aE 8 1 10 (i 3)),l 164 1 163,m 165 14,b 166 .add 164 165,o 167 (.aE 8 1 10 (i 4)),l 168 1 167,o 169 (.aE 8 1 10 (i 5)),l 170 1 169,o 171 (.aE 8 1 10 (i 6)),l 172 1 171,o 173 (.build QP [(0,1,156),(1,1,158),(2,1,160),(3,1,162),(4,1,166),(5,1,168),(6,1,170),(7,1,172)]),r 8 10 173]))))))))) (k [2,4,5,6,10,93] (p [b 174 .add 93 (i 1),m 93 174])))))))))) (k [2,4,10] (s (q [m 175 (i 0)] (k [2,4,10,175] (.block 4 (.loop (q [b 176 .lss 175 (i 8)] (s (h 176 .skip (.exit 4)) (k [2,4,10,175] (s (.block 5 (q [m 177 175,m 16 177] (.draw [0,1,3,0,8,24,63,127,255] [[16],[10,178],[179],[16],[2,181],[182],[180,183],[10,178],[185,184]] [m 178 16,o 179 (.aE 8 1 10 178),l 180 1 179,m 181 16,o 182 (.aE 8 1 2 181),l 183 1 182,b 184 .add 180 183,o 185 (.aE 8 1 10 178),r 1 185 184]))) (k [2,4,10,175] (p [b 186 .add 175 (i 1),m 175 186])))))))))) (k [4,10] (t [g 187 8 10,r 8 4 187])))))))))⟩
structure OO(R:Env):Prop where
 UW:R.Fn 608 UV
 jv:ON R
def UX:bz:=Nf ⟨2,[],s (q [m 7 0,c 8 607 [7]] (h 8 .ret .skip)) (y [0,1] [m 9 1,n 10 9,m 11 (i 0)] (k [0,9,10,11] (.block 0 (.loop (q [b 12 .lss 11 10] (s (h 12 .skip (.exit 0)) (k [0,9,10,11] (s (.block 1 (q [u 13 1 9 11,l 14 1 13,m 5 14] (k [0,5,9,10,11] (.block 2 (.loop (s (q [m 15 5,n 16 15,b 17 .gtr 16 (i 0)] (h 17 .skip (.exit 2))) (k [0,5,9,10,11] (.block 3 (s (.draw [0,1,3,0,8,24,56,120,255,0,1023,2047] [[0],[18],[19],[0],[21],[22],[23],[24],[20,25],[5],[26,27],[28]] [m 18 0,o 19 (.aB 18),f 20 8 19,m 21 0,o 22 (.aB 21),f 23 72 22,l 24 1 23,b 25 .rem 24 (i 64),o 26 (.oT 64 1 20 (some 25) none),m 27 5,o 28 (.copy 1 26 27),m 6 28]) (y [0,5,6,9,10,11] [m 29 0,o 30 (.aB 29),f 31 72 30,l 32 1 31,m 33 6,b 34 .add 32 33,o 35 (.aB 29),f 36 72 35,r 1 36 34] (y [0,5,6,9,10,11] [m 37 5,m 38 6,o 39 (.gO 4 1 37 (some 38) none none),m 5 39] (q [m 40 0,o 41 (.aB 40),f 42 72 41,l 43 1 42,b 44 .rem 43 (i 64),b 45 .eql 44 (i 0)] (k [0,5,9,10,11,45] (h 45 (.draw [0,0,2,6,14,0,32,96,224,510,1023,2047,4095] [[0],[0],[47],[48],[49],[0],[51],[52],[53],[50,54],[46],[56],[57,55]] [m 46 0,m 47 0,o 48 (.aB 47),f 49 0 48,g 50 8 49,m 51 0,o 52 (.aB 51),f 53 8 52,g 54 64 53,c 55 608 [50,54],o 56 (.aB 46),f 57 0 56,r 8 57 55]) .skip)))))))))))))) (k [0,9,10,11] (p [b 58 .add 11 (i 1),m 11 58]))))))))))⟩
structure G2(R:Env):Prop where
 UY:R.Fn 585 UX
 Be:G1 R
 J2:OO R
def UZ:bz:=Nf ⟨1,[2],q [m 2 (.k .ab)] (q [m 5 0,o 6 (.mm true [5,i 0]),m 0 6] (q [m 7 0,b 8 .rem 7 (i 64),b 9 .sub (i 119) 8,b 10 .rem 9 (i 64),b 11 .add (i 1) 10,b 12 .add 11 (i 8),o 13 (.Xm 4 1 [.int .u8 0] 12 12),m 3 13] (y [0,3] [m 14 3,u 15 1 14 (i 0),r 1 15 (.k (.int .u8 128))] (s (q [m 16 (i 0)] (k [0,3,16] (.block 0 (.loop (q [b 17 .lss 16 (i 8)] (s (h 17 .skip (.exit 0)) (k [0,3,16] (s (.block 1 (q [m 18 16,m 4 18] (p [m 19 3,m 20 3,n 21 20,b 22 .sub 21 (i 1),m 23 4,b 24 .sub 22 23,m 25 0,o 26 (.conv .u64 25),b 27 .shl 26 (.k (.int .u64 3)),m 28 4,b 29 .mul (i 8) 28,b 30 .shr 27 29,o 31 (.conv .u8 30),u 32 1 19 24,r 1 32 31]))) (k [0,3,16] (p [b 33 .add 16 (i 1),m 16 33])))))))))) (k [3] (t [m 34 3,m 2 34]))))))⟩
structure OP(R:Env):Prop where
 U0:R.Fn 609 UZ
def U1:bz:=Nf ⟨1,[.cell 2 true 32],q [a 2 63 Z4] (s (q [m 7 0,c 8 607 [7]] (h 8 (t [o 9 (.build Z4 []),r 32 2 9]) .skip)) (y [0,2] [m 10 0,o 11 (.aB 10),g 12 73 11,a 3 81 Z1,r 73 3 12] (y [0,2,3] [m 13 0,o 14 (.aB 13),f 15 72 14,l 16 1 15,c 17 609 [16],o 18 (.aK 51 1 1 [.ab] [(0,17)]),c 19 585 [3,18]] (y [2,3] [a 4 63 Z4] (s (q [f 20 0 3,g 21 8 20,m 22 (i 0)] (k [2,4,21,22] (.block 0 (.loop (q [b 23 .lss 22 (i 8)] (s (h 23 .skip (.exit 0)) (k [2,4,21,22] (s (.block 1 (q [m 24 22,o 25 (.CX false 8 1 21 22),m 5 24,m 6 25] (p [m 26 5,b 27 .mul (i 4) 26,m 28 5,b 29 .mul (i 4) 28,b 30 .add 29 (i 1),m 31 5,b 32 .mul (i 4) 31,b 33 .add 32 (i 2),m 34 5,b 35 .mul (i 4) 34,b 36 .add 35 (i 3),m 37 6,b 38 .shr 37 (.k (.int .u64 24)),o 39 (.conv .u8 38),m 40 6,b 41 .shr 40 (.k (.int .u64 16)),o 42 (.conv .u8 41),m 43 6,b 44 .shr 43 (.k (.int .u64 8)),o 45 (.conv .u8 44),m 46 6,o 47 (.conv .u8 46),o 48 (.aE 32 1 4 27),r 1 48 39,o 49 (.aE 32 1 4 30),r 1 49 42,o 50 (.aE 32 1 4 33),r 1 50 45,o 51 (.aE 32 1 4 36),r 1 51 47]))) (k [2,4,21,22] (p [b 52 .add 22 (i 1),m 22 52])))))))))) (k [2,4] (t [g 53 32 4,r 32 2 53])))))))⟩
structure OQ(R:Env):Prop where
 aaJ:R.Fn 586 U1
 DO:G2 R
 Be:G1 R
 J3:OP R
def U2:bz:=Nf ⟨1,[.cell 2 true 32],q [a 2 63 Z4] (q [c 4 584 [],m 3 4] (q [m 5 3,m 6 0,c 7 585 [5,6]] (t [m 8 3,c 9 586 [8],r 32 2 9])))⟩
structure OR(R:Env):Prop where
 U3:R.Fn 560 U2
 OS:OM R
 DO:G2 R
 OT:OQ R
end Go.UM
namespace Go.UM
open Go.AM
open Z
def U4:bz:=Nf ⟨1,[.cell 2 true 32],q [a 2 63 Z4] (q [o 6 (.aK 4 1 17 [.int .u8 0] [(0,.k (.int .u8 117)),(1,.k (.int .u8 109)),(2,.k (.int .u8 98)),(3,.k (.int .u8 114)),(4,.k (.int .u8 97)),(5,.k (.int .u8 32)),(6,.k (.int .u8 97)),(7,.k (.int .u8 117)),(8,.k (.int .u8 100)),(9,.k (.int .u8 105)),(10,.k (.int .u8 116)),(11,.k (.int .u8 32)),(12,.k (.int .u8 99)),(13,.k (.int .u8 104)),(14,.k (.int .u8 97)),(15,.k (.int .u8 105)),(16,.k (.int .u8 110))]),o 7 (.Lq 6),m 8 0,o 9 (.aK 10 1 1 [j 0] [(0,8)]),c 10 71 [7,i 8,9],m 5 10,e 11 5 0,e 12 5 1,m 3 11,m 4 12] (k [2,3] (t [m 13 3,o 14 (.aK 51 1 1 [.ab] [(0,13)]),c 15 560 [14],r 32 2 15])))⟩
structure OU(R:Env):Prop where
 U5:R.Fn 541 U4
 JS:QT R
 J4:OR R
def U6:bz:=Nf ⟨1,[2],q [m 2 (.k .ax)] (q [m 3 0,c 4 541 [3],o 5 (.build [.int .u8 0,.int .u8 0,.int .u8 0,.int .u8 0,.int .u8 0,.int .u8 0,.int .u8 0,.int .u8 0,.int .u8 0,.int .u8 0,.int .u8 0,.int .u8 0,.int .u8 0,.int .u8 0,.int .u8 0,.int .u8 0,.int .u8 0,.int .u8 0,.int .u8 0,.int .u8 0,.int .u8 0,.int .u8 0,.int .u8 0,.int .u8 0,.int .u8 0,.int .u8 0,.int .u8 0,.int .u8 0,.int .u8 0,.int .u8 0,.int .u8 0,.int .u8 0,.int .u32 0,.bool false] [(0,32,4),(33,1,.k (.bool true))]),o 6 (.build [.int .u8 0,.int .u8 0,.int .u8 0,.int .u8 0,.int .u8 0,.int .u8 0,.int .u8 0,.int .u8 0,.int .u8 0,.int .u8 0,.int .u8 0,.int .u8 0,.int .u8 0,.int .u8 0,.int .u8 0,.int .u8 0,.int .u8 0,.int .u8 0,.int .u8 0,.int .u8 0,.int .u8 0,.int .u8 0,.int .u8 0,.int .u8 0,.int .u8 0,.int .u8 0,.int .u8 0,.int .u8 0,.int .u8 0,.int .u8 0,.int .u8 0,.int .u8 0,.int .u32 0,.bool false,.ab] [(0,34,5)]),x 7 72 6,m 2 7] (k [2] .ret))⟩
structure OV(R:Env):Prop where
 aaK:R.Fn 534 U6
 J5:OU R
def U7:bz:=Nf ⟨1,[2],q [m 2 (.k (.bool false))] (q [m 3 0,o 4 (.B1 false 3),m 5 4,⟨some 6,some (5,false),.mv 0⟩,⟨some 7,some (5,false),.aB 6⟩,⟨some 8,some (5,false),.bF 0 7⟩,⟨some 9,some (5,false),.bF 33 8⟩,⟨some 10,some (5,false),.load false 1 9⟩,⟨some 11,some (5,false),.un .not 10⟩,w 12 5 (.k (.bool true)) 11,m 2 12] (k [2] .ret))⟩
structure J6(R:Env):Prop where
 aaL:R.Fn 558 U7
def U8:bz:=Nf ⟨1,[2],q [m 2 (.k .ab)] (s (q [m 3 0,c 4 558 [3]] (h 4 (t [m 2 (.k .ab)]) .skip)) (y [0] [m 5 0,o 6 (.aB 5),f 7 34 6,l 8 1 7,c 9 559 [8],m 2 9] (k [2] .ret)))⟩
structure OW(R:Env):Prop where
 aaM:R.Fn 540 U8
 DP:J6 R
 OX:NI R
def U9:bz:=Nf ⟨1,[.cell 2 true 32],q [a 2 63 Z4] (s (q [m 3 0,c 4 558 [3]] (h 4 (t [o 5 (.build Z4 []),r 32 2 5]) .skip)) (y [0,2] [m 6 0,o 7 (.aB 6),f 8 0 7,f 9 0 8,g 10 32 9,r 32 2 10] (k [2] .ret)))⟩
structure OY(R:Env):Prop where
 aaN:R.Fn 576 U9
 DP:J6 R
end Go.UM
namespace Go.UM
open Go.AM
open Z
end Go.UM
namespace Go.UM
open Go.AM
open Z
end Go.UM
namespace Go.UM
open Go.AM
open Z
end Go.UM
namespace Go.UM
open Go.AM
open Z
end Go.UM
namespace Go.UM
open Go.AM
open Z
end Go.UM
namespace Go.UM
open Go.AM
open Z
def c16:bz:=Nf ⟨3,[6],q [m 6 (.k (.int .u32 0))] (s (q [m 9 1,n 10 9,m 11 (i 0)] (k [0,2,9,10,11] (.block 0 (.loop (q [b 12 .lss 11 10] (s (h 12 .skip (.exit 0)) (k [0,2,9,10,11] (s (.block 1 (q [u 13 1 9 11,l 14 1 13,m 8 14] (p [m 15 2,m 16 0,m 17 8,o 18 (.fH 15 [16,17]),m 0 18]))) (k [0,2,9,10,11] (p [b 19 .add 11 (i 1),m 11 19])))))))))) (k [0] (t [m 20 0,m 6 20])))⟩
def c4:bz:=Nf ⟨1,[2],q [m 2 (.k (.int .u32 0))] (t [m 3 0,c 4 16 [.k (.int .u32 0),3,.f 17],m 2 4])⟩
structure N4(R:Env):Prop where
 o4:R.Fn 4 c4
def c6:bz:=Nf ⟨2,[4],q [m 4 (.k (.bool false))] (q [m 5 0,m 6 1,b 7 .andNot 5 6,b 8 .eql 7 (.k (.int .u32 0)),m 4 8] (k [4] .ret))⟩
structure N6(R:Env):Prop where
 o6:R.Fn 6 c6
def c11:bz:=Nf ⟨2,[4],q [x 2 1 0,m 4 (.k (.int .u8 0))] (s (q [m 5 1,b 6 .lss 5 (i 0),m 7 6,⟨some 8,some (7,false),.mv 1⟩,⟨some 9,some (7,false),.bin .geq 8 (i 8)⟩,w 10 7 (.k (.bool true)) 9] (k [1,2,10] (h 10 (t [m 4 (.k (.int .u8 0))]) .skip))) (k [1,2] (t [m 11 1,o 12 (.aE 8 1 2 11),l 13 1 12,m 4 13])))⟩
structure N11(R:Env):Prop where
 o11:R.Fn 11 c11
def c12:bz:=Nf ⟨2,[4],q [x 2 1 0,m 4 (.k (.bool false))] (q [g 5 8 2,m 6 1,c 7 11 [5,6],b 8 .neq 7 (.k (.int .u8 0)),m 4 8] (k [4] .ret))⟩
def c14:bz:=Nf ⟨3,[6,7],q [m 6 (.k (.int .u32 0)),m 7 (.k (.int .u32 0))] (q [m 9 0,m 10 1,o 11 (.build [.int .u32 0,.int .u32 0] [(0,1,9),(1,1,10)]),m 12 2,c 13 18 [11,12,.f 19],a 8 3 [.int .u32 0,.int .u32 0],r 2 8 13] (k [8] (s (.draw [0,1,0,4,3,31] [[8],[14],[8],[16],[15],[17]] [o 14 (.aE 2 1 8 (i 0)),l 15 1 14,o 16 (.aE 2 1 8 (i 1)),l 17 1 16,m 6 15,m 7 17]) (k [6,7] .ret))))⟩
def c15:bz:=Nf ⟨3,[6],q [m 6 (.k (.bool false))] (q [m 7 0,m 8 2,b 9 .leq 7 8,m 10 9,⟨some 11,some (10,true),.mv 2⟩,⟨some 12,some (10,true),.mv 1⟩,⟨some 13,some (10,true),.bin .leq 11 12⟩,w 14 10 13 (.k (.bool false)),m 6 14] (k [6] .ret))⟩
end Go.UM
namespace Go.UM
open Go.AM
open Z
def U':bz:=Nf ⟨0,[0],q [m 0 (.k .ax)] (q [o 1 (.MH 1 false true 41),o 2 (.MH 4 true true 16),o 3 (.build [.bQ,.bQ] [(0,1,1),(1,1,2)]),x 4 47 3,m 0 4] (k [0] .ret))⟩
structure OZ(R:Env):Prop where
 aaO:R.Fn 345 U'
def Va:bz:=Nf ⟨1,[2],q [m 2 (.k (.bool false))] (q [m 3 0,o 4 (.B1 false 3),m 5 4,⟨some 6,some (5,false),.mv 0⟩,⟨some 7,some (5,false),.aB 6⟩,⟨some 8,some (5,false),.bF 0 7⟩,⟨some 9,some (5,false),.load false 1 8⟩,⟨some 10,some (5,false),.IX false 9⟩,w 11 5 (.k (.bool true)) 10,m 2 11] (k [2] .ret))⟩
structure DQ(R:Env):Prop where
 aaP:R.Fn 355 Va
def Vb:bz:=Nf ⟨1,[.cell 2 true 24],q [x 1 39 0,a 2 39 DJ] (s (.draw [0,1,3,7,0,16,48,127,0,256,768,2047,4095,8191,16383] [[1],[3],[4],[5],[1],[7],[8],[9],[1],[11],[12],[13],[6,10,14],[1],[16,15]] [f 3 1 1,f 4 0 3,l 5 1 4,c 6 361 [5],f 7 1 1,f 8 1 7,l 9 1 8,c 10 362 [9],f 11 1 1,f 12 2 11,l 13 1 12,c 14 101 [13],o 15 (.build [.ab,.ab,.ab] [(0,1,6),(1,1,10),(2,1,14)]),f 16 1 1,r 3 16 15]) (y [1,2] [f 17 4 1,f 18 1 17,l 19 1 18,c 20 101 [19],f 21 4 1,f 22 1 21,r 1 22 20] (k [1,2] (t [g 23 24 1,r 24 2 23]))))⟩
structure J7(R:Env):Prop where
 Vc:R.Fn 356 Vb
 n101:JB R
 J8:JC R
 J9:JD R
def Vd:bz:=Nf ⟨4,[8],q [x 6 2 2,x 7 39 3,m 8 (i 0)] (s (.block 0 (q [m 13 0,c 14 355 [13],m 12 14] (h 12 (t [m 8 (i 1)]) (q [m 16 1,b 17 .lss 16 (i 1),m 18 17,⟨some 19,some (18,false),.mv 1⟩,⟨some 20,some (18,false),.bin .gtr 19 (i 65536)⟩,w 21 18 (.k (.bool true)) 20,m 15 21] (k [0,1,6,7,15] (h 15 (t [m 8 (i 2)]) .skip)))))) (k [0,1,6,7] (s (q [m 23 0,o 24 (.aB 23),f 25 0 24,l 26 1 25,m 27 1,o 28 (.Xo [.i] false true (.agg Z6) true 26 27),m 22 28,e 29 22 0,e 30 22 1,a 9 45 Z6,r 40 9 29,m 10 30] (y [0,1,6,7,10] [m 31 10] (h 31 (t [m 8 (i 10)]) .skip))) (k [0,1,6,7] (s (q [g 32 24 7,c 33 294 [32],m 11 33] (q [m 34 11,b 35 .neq 34 (i 0)] (h 35 (t [m 36 11,m 8 36]) .skip))) (k [0,1,6,7] (s (q [f 37 1 6,l 38 1 37,f 39 0 7,l 40 1 39,b 41 .neq 38 40] (k [0,1,6,7,41] (h 41 (t [m 8 (i 12)]) .skip))) (k [0,1,6,7] (s (.draw [0,1,3,7,0,0,0,0,128,480,1023] [[0],[42],[43],[44],[1],[1],[6],[7],[49],[47,48,50],[45,46,51]] [m 42 0,o 43 (.aB 42),f 44 0 43,l 45 1 44,m 46 1,m 47 1,g 48 15 6,g 49 24 7,c 50 356 [49],o 51 (.build Z6 [(0,1,47),(1,15,48),(16,24,50)]),v (.Iu [.i] false true 45 46 51)]) (k [] (t [m 8 (i 0)])))))))))))⟩
structure O0(R:Env):Prop where
 aaQ:R.Fn 346 Vd
 n294:DM R
 rD:DQ R
 DR:J7 R
def Ve:bz:=Nf ⟨1,[2],q [m 2 (.k .ab)] (s (q [m 7 0,c 8 355 [7]] (h 8 (t [m 2 (.k .ab)]) .skip)) (y [0] [m 3 (.k .ab)] (s (q [m 9 0,o 10 (.aB 9),f 11 0 10,l 12 1 11,c 13 433 [12],c 14 434 [13],n 15 14,m 16 (i 0)] (k [0,3,14,15,16] (.block 0 (.loop (q [b 17 .lss 16 15] (s (h 17 .skip (.exit 0)) (k [0,3,14,15,16] (s (.block 1 (q [u 18 1 14 16,l 19 1 18,m 5 19] (q [m 20 0,o 21 (.aB 20),f 22 0 21,l 23 1 22,m 24 5,o 25 (.Xo [.i] false true (.agg Z6) false 23 24),a 6 45 Z6,r 40 6 25] (y [0,3,6,14,15,16] [f 26 16 6,g 27 24 26,c 28 356 [27],f 29 16 6,r 24 29 28] (k [0,3,6,14,15,16] (p [m 30 3,g 31 40 6,o 32 (.aK 45 40 1 Z6 [(0,31)]),o 33 (.app 45 40 30 32),m 3 33])))))) (k [0,3,14,15,16] (p [b 34 .add 16 (i 1),m 16 34])))))))))) (k [3] (t [m 35 3,m 2 35])))))⟩
structure O1(R:Env):Prop where
 aaR:R.Fn 418 Ve
 rD:DQ R
 DR:J7 R
 O2:NF R
 O3:To R
def Vf:bz:=Nf ⟨1,[2],q [m 2 (.k .ab)] (s (q [m 6 0,c 7 355 [6]] (h 7 (t [m 2 (.k .ab)]) .skip)) (y [0] [m 3 (.k .ab)] (s (q [m 8 0,o 9 (.aB 8),f 10 1 9,l 11 1 10,o 12 (.RK 11)] (k [3,12] (.block 0 (.loop (q [o 13 (.Xp 12),e 14 13 0] (s (h 14 .skip (.exit 0)) (k [3,12] (.block 1 (q [o 15 (.Mp 12),e 16 15 0,e 17 15 1,a 4 49 [j 0,j 0,j 0,j 0],a 5 33 [j 0,j 0,j 0,j 0,j 0,j 0,j 0,j 0,j 0,j 0,j 0,j 0],r 4 4 16,r 12 5 17] (k [3,4,5,12] (p [m 18 3,f 19 0 4,l 20 1 19,f 21 1 4,l 22 1 21,f 23 2 4,l 24 1 23,f 25 3 4,l 26 1 25,g 27 12 5,o 28 (.build XW [(0,1,20),(1,1,22),(2,1,24),(3,1,26),(4,12,27)]),o 29 (.aK 44 16 1 XW [(0,28)]),o 30 (.app 44 16 18 29),m 3 30]))))))))))) (y [3] [m 31 3,c 32 435 [31,.f 436]] (t [m 33 3,m 2 33])))))⟩
structure O4(R:Env):Prop where
 aaS:R.Fn 419 Vf
 rD:DQ R
 O5:Tp R
def Vg:bz:=Nf ⟨1,[2],q [m 2 (.k .ax)] (s (q [m 3 0,c 4 355 [3]] (h 4 (t [m 2 (.k .ax)]) .skip)) (k [0] (s (.draw [0,1,3,7,15,0,32,96,224,511,1023,2047,4095] [[0],[5],[6],[7],[8],[0],[10],[11],[12],[13],[9,14],[15],[16]] [m 5 0,o 6 (.aB 5),f 7 0 6,l 8 1 7,c 9 439 [8],m 10 0,o 11 (.aB 10),f 12 1 11,l 13 1 12,c 14 440 [13],o 15 (.build [.bQ,.bQ] [(0,1,9),(1,1,14)]),x 16 47 15,m 2 16]) (k [2] .ret))))⟩
structure O6(R:Env):Prop where
 aaT:R.Fn 430 Vg
 rD:DQ R
 O7:Tq R
 O8:Tr R
end Go.UM
namespace Go.UM
open Go.AM
open Z
def Vh:bz:=Nf ⟨3,[],q [m 8 0,o 9 (.aB 8),f 10 0 9,f 11 8 10,r 1 11 (.k (.int .u32 4294967295))] (y [0,1,2] [m 12 1,n 13 12,m 14 (i 0)] (k [0,2,12,13,14] (.block 0 (.loop (q [b 15 .lss 14 13] (s (h 15 .skip (.exit 0)) (k [0,2,12,13,14] (s (.block 1 (q [u 16 40 12 14,g 17 40 16,a 7 45 Z6,r 40 7 17] (s (q [f 18 1 7,f 19 3 18,g 20 8 19,m 21 2,c 22 12 [20,21],o 23 (.un .not 22)] (k [0,2,7,12,13,14,23] (h 23 (.exit 1) .skip))) (k [0,2,7,12,13,14] (s (.draw [0,1,3,7,0,16,0,64,192,448,960,1984,4095] [[0],[24],[25],[26],[7],[28],[0],[30],[31],[32],[33],[34],[27,29,35]] [m 24 0,o 25 (.aB 24),f 26 10 25,l 27 1 26,f 28 0 7,l 29 1 28,m 30 0,o 31 (.aB 30),f 32 0 31,f 33 4 32,l 34 1 33,n 35 34,v (.Iu [.i] false false 27 29 35)]) (k [0,2,7,12,13,14] (s (.draw [0,0,2,6,14,30,0,64,192,448,1022,2047,4095,8191,16383] [[0],[0],[37],[38],[39],[40],[7],[42],[43],[44],[41,45],[36],[47],[48],[49,46]] [m 36 0,m 37 0,o 38 (.aB 37),f 39 0 38,f 40 4 39,l 41 1 40,f 42 1 7,f 43 0 42,l 44 1 43,o 45 (.aK 6 1 1 [.int .u64 0] [(0,44)]),o 46 (.app 6 1 41 45),o 47 (.aB 36),f 48 0 47,f 49 4 48,r 1 49 46]) (k [0,2,7,12,13,14] (s (.draw [0,0,2,6,14,30,0,64,192,448,1022,2047,4095,8191,16383] [[0],[0],[51],[52],[53],[54],[7],[56],[57],[58],[55,59],[50],[61],[62],[63,60]] [m 50 0,m 51 0,o 52 (.aB 51),f 53 0 52,f 54 5 53,l 55 1 54,f 56 1 7,f 57 2 56,l 58 1 57,o 59 (.aK 0 1 1 [.int .u32 0] [(0,58)]),o 60 (.app 0 1 55 59),o 61 (.aB 50),f 62 0 61,f 63 5 62,r 1 63 60]) (k [0,2,7,12,13,14] (s (.draw [0,0,2,6,14,30,0,64,192,510,1022,2047,4095,8191,16383] [[0],[0],[65],[66],[67],[68],[7],[70],[71],[69,72],[73],[64],[75],[76],[77,74]] [m 64 0,m 65 0,o 66 (.aB 65),f 67 0 66,f 68 6 67,l 69 1 68,f 70 1 7,f 71 2 70,l 72 1 71,o 73 (.aK 0 1 2 [.int .u32 0] [(0,69),(1,72)]),c 74 4 [73],o 75 (.aB 64),f 76 0 75,f 77 6 76,r 1 77 74]) (k [0,2,7,12,13,14] (s (.draw [0,0,0,4,12,28,60,0,128,384,896,1920,0,4096,12288,32764,65532,131068,131068,262141,786429,1835005,3932157,8388607,16777215,33554431,67108863] [[0],[0],[0],[81],[82],[83],[84],[0],[86],[87],[88],[89],[7],[91],[92],[85,90,93],[94],[78],[78],[79],[97],[98],[99,95],[80],[100],[101],[102,96]] [m 79 0,m 80 0,m 81 0,o 82 (.aB 81),f 83 0 82,f 84 7 83,l 85 1 84,m 86 0,o 87 (.aB 86),f 88 0 87,f 89 8 88,l 90 1 89,f 91 1 7,g 92 15 91,o 93 (.aK 2 15 1 A' [(0,92)]),c 94 14 [85,90,93],m 78 94,e 95 78 0,e 96 78 1,o 97 (.aB 79),f 98 0 97,f 99 7 98,r 1 99 95,o 100 (.aB 80),f 101 0 100,f 102 8 101,r 1 102 96]) (y [0,2,7,12,13,14] [f 103 16 7,f 104 0 103,l 105 1 104] (.block 2 (q [b 107 .eql 105 (i 1),m 106 107] (h 106 (.draw [0,1,3,7,0,16,0,127] [[0],[108],[109],[110],[7],[112],[7],[111,113,114]] [m 108 0,o 109 (.aB 108),f 110 9 109,l 111 1 110,f 112 0 7,l 113 1 112,g 114 40 7,v (.Iu [.i] false true 111 113 114)]) (q [b 116 .eql 105 (i 3),m 115 116] (h 115 (s (.draw [0,1,3,7,0,16,0,64,192,448,960,1984,4095] [[0],[117],[118],[119],[7],[121],[0],[123],[124],[125],[126],[127],[120,122,128]] [m 117 0,o 118 (.aB 117),f 119 11 118,l 120 1 119,f 121 0 7,l 122 1 121,m 123 0,o 124 (.aB 123),f 125 0 124,f 126 1 125,l 127 1 126,n 128 127,v (.Iu [.i] false false 120 122 128)]) (k [0,2,7,12,13,14] (.draw [0,0,2,6,14,30,0,64,192,448,1022,2047,4095,8191,16383] [[0],[0],[130],[131],[132],[133],[7],[135],[136],[137],[134,138],[129],[140],[141],[142,139]] [m 129 0,m 130 0,o 131 (.aB 130),f 132 0 131,f 133 1 132,l 134 1 133,f 135 16 7,f 136 6 135,g 137 5 136,o 138 (.aK 40 5 1 [j 0,j 0,j 0,j 0,j 0] [(0,137)]),o 139 (.app 40 5 134 138),o 140 (.aB 129),f 141 0 140,f 142 1 141,r 1 142 139]))) (q [b 144 .eql 105 (i 2),m 143 144] (h 143 (s (.draw [0,1,3,7,0,16,0,64,192,448,960,1984,4095] [[0],[145],[146],[147],[7],[149],[0],[151],[152],[153],[154],[155],[148,150,156]] [m 145 0,o 146 (.aB 145),f 147 11 146,l 148 1 147,f 149 0 7,l 150 1 149,m 151 0,o 152 (.aB 151),f 153 0 152,f 154 2 153,l 155 1 154,n 156 155,v (.Iu [.i] false false 148 150 156)]) (k [0,2,7,12,13,14] (.draw [0,0,2,6,14,30,0,64,192,448,1022,2047,4095,8191,16383] [[0],[0],[158],[159],[160],[161],[7],[163],[164],[165],[162,166],[157],[168],[169],[170,167]] [m 157 0,m 158 0,o 159 (.aB 158),f 160 0 159,f 161 2 160,l 162 1 161,f 163 16 7,f 164 4 163,g 165 2 164,o 166 (.aK 12 2 1 [j 0,.ab] [(0,165)]),o 167 (.app 12 2 162 166),o 168 (.aB 157),f 169 0 168,f 170 2 169,r 1 170 167]))) (q [b 172 .eql 105 (i 4),m 171 172] (h 171 (.draw [0,0,2,6,14,30,0,64,192,448,1022,2047,4095,8191,16383] [[0],[0],[174],[175],[176],[177],[7],[179],[180],[181],[178,182],[173],[184],[185],[186,183]] [m 173 0,m 174 0,o 175 (.aB 174),f 176 0 175,f 177 3 176,l 178 1 177,f 179 16 7,f 180 11 179,g 181 13 180,o 182 (.aK 41 13 1 SO [(0,181)]),o 183 (.app 41 13 178 182),o 184 (.aB 173),f 185 0 184,f 186 3 185,r 1 186 183]) .skip))))))))))))))))))))))) (k [0,2,12,13,14] (p [b 187 .add 14 (i 1),m 14 187]))))))))))⟩
structure O9(R:Env):Prop where
 aaU:R.Fn 505 Vh
 n4:N4 R
def Vi:bz:=Nf ⟨2,[.cell 4 true 9,5],q [a 4 59 Nq,m 5 (i 0)] (s (.block 0 (q [m 10 0,c 11 430 [10],o 12 (.B1 false 11),m 9 12] (h 9 (t [o 13 (.build Nq []),r 9 4 13,m 5 (i 1)]) (q [m 15 1,b 16 .lss 15 (i 0),m 17 16,⟨some 18,some (17,false),.mv 1⟩,⟨some 19,some (17,false),.bin .geq 18 (i 8)⟩,w 20 17 (.k (.bool true)) 19,m 14 20] (k [0,1,4,14] (h 14 (t [o 21 (.build Nq []),r 9 4 21,m 5 (i 13)]) .skip)))))) (y [0,1,4] [o 22 (.MH 1 false true 41),o 23 (.MH 1 false false 2),o 24 (.MH 1 false false 2),o 25 (.build [.ab,.ab,.ab,.ab,.ab,.ab,.int .u32 0,.int .u32 0,.int .u32 0,.bQ,.bQ,.bQ] [(9,1,22),(10,1,23),(11,1,24)]),x 26 61 25,m 6 26] (y [0,1,4,6] [m 27 6,m 28 0,c 29 418 [28],m 30 1,c 31 505 [27,29,30]] (k [0,1,4,6] (s (q [m 32 0,c 33 419 [32],n 34 33,m 35 (i 0)] (k [1,4,6,33,34,35] (.block 1 (.loop (q [b 36 .lss 35 34] (s (h 36 .skip (.exit 1)) (k [1,4,6,33,34,35] (s (.block 2 (q [u 37 16 33 35,g 38 16 37,a 8 44 XW,r 16 8 38] (p [m 39 6,g 40 16 8,m 41 1,c 42 506 [39,40,41]]))) (k [1,4,6,33,34,35] (p [b 43 .add 35 (i 1),m 35 43])))))))))) (y [4,6] [m 44 6,o 45 (.aB 44),f 46 0 45,g 47 9 46,r 9 4 47,m 5 (i 0)] (k [4,5] .ret)))))))⟩
structure O'(R:Env):Prop where
 aaV:R.Fn 491 Vi
 Pa:O1 R
 Pb:O4 R
 Pd:O6 R
 Pe:O9 R
end Go.UM
namespace Go.UM
open Go.AM
open Z
end Go.UM
namespace Go.UM
open Go.AM
open Z
end Go.UM
namespace Go.UM
open Go.AM
open Z
end Go.UM
namespace Go.UM
open Go.AM
open Z
end Go.UM
namespace Go.UM
open Go.AM
open Z
end Go.UM
namespace Go.UM
open Go.AM
open Z
end Go.UM
namespace Go.UM
open Go.AM
open Z
end Go.UM
namespace Go.UM
open Go.AM
open Z
def Vj:bz:=Nf ⟨1,[2],q [x 1 63 0,m 2 (.k .ax)] (s (.draw [0,0,3,7,15] [[1],[],[5,6],[7],[8]] [g 5 32 1,c 6 345 [],o 7 (.build [.int .u8 0,.int .u8 0,.int .u8 0,.int .u8 0,.int .u8 0,.int .u8 0,.int .u8 0,.int .u8 0,.int .u8 0,.int .u8 0,.int .u8 0,.int .u8 0,.int .u8 0,.int .u8 0,.int .u8 0,.int .u8 0,.int .u8 0,.int .u8 0,.int .u8 0,.int .u8 0,.int .u8 0,.int .u8 0,.int .u8 0,.int .u8 0,.int .u8 0,.int .u8 0,.int .u8 0,.int .u8 0,.int .u8 0,.int .u8 0,.int .u8 0,.int .u8 0,.ax,.int .u32 0,j 0,j 0,j 0,j 0,j 0,.int .u64 0,j 0,j 0,j 0,j 0,j 0,j 0,j 0,j 0,j 0,j 0,j 0,j 0,j 0,j 0,.bool false,.bool false,j 0,.ax,.ax,.int .u32 0,j 0,j 0,.int .u32 0,j 0,j 0,.int .u32 0,j 0,j 0,.int .u32 0,j 0,j 0,.int .u32 0,j 0,j 0,.int .u32 0,j 0,j 0,.int .u32 0,j 0,j 0,.int .u32 0,j 0,j 0,j 0,j 0,j 0,j 0,j 0,.int .u64 0,j 0,j 0,j 0,j 0,j 0,j 0,j 0,j 0,j 0,j 0,j 0,j 0,j 0,j 0,.bool false,.bool false,j 0,.ax,.ax,.int .u32 0,j 0,j 0,.int .u32 0,j 0,j 0,.int .u32 0,j 0,j 0,.int .u32 0,j 0,j 0,.int .u32 0,j 0,j 0,.int .u32 0,j 0,j 0,.int .u32 0,j 0,j 0,.int .u32 0,j 0,j 0,j 0,j 0,j 0,j 0,j 0,.int .u64 0,j 0,j 0,j 0,j 0,j 0,j 0,j 0,j 0,j 0,j 0,j 0,j 0,j 0,j 0,.bool false,.bool false,j 0,.ax,.ax,.int .u32 0,j 0,j 0,.int .u32 0,j 0,j 0,.int .u32 0,j 0,j 0,.int .u32 0,j 0,j 0,.int .u32 0,j 0,j 0,.int .u32 0,j 0,j 0,.int .u32 0,j 0,j 0,.int .u32 0,j 0,j 0,j 0,j 0,j 0,j 0,j 0,.int .u64 0,j 0,j 0,j 0,j 0,j 0,j 0,j 0,j 0,j 0,j 0,j 0,j 0,j 0,j 0,.bool false,.bool false,j 0,.ax,.ax,.int .u32 0,j 0,j 0,.int .u32 0,j 0,j 0,.int .u32 0,j 0,j 0,.int .u32 0,j 0,j 0,.int .u32 0,j 0,j 0,.int .u32 0,j 0,j 0,.int .u32 0,j 0,j 0,.int .u32 0,j 0,j 0,j 0,j 0,j 0,j 0,j 0,.int .u64 0,j 0,j 0,j 0,j 0,j 0,j 0,j 0,j 0,j 0,j 0,j 0,j 0,j 0,j 0,.bool false,.bool false,j 0,.ax,.ax,.int .u32 0,j 0,j 0,.int .u32 0,j 0,j 0,.int .u32 0,j 0,j 0,.int .u32 0,j 0,j 0,.int .u32 0,j 0,j 0,.int .u32 0,j 0,j 0,.int .u32 0,j 0,j 0,.int .u32 0,j 0,j 0,j 0,j 0,j 0,j 0,j 0,.int .u64 0,j 0,j 0,j 0,j 0,j 0,j 0,j 0,j 0,j 0,j 0,j 0,j 0,j 0,j 0,.bool false,.bool false,j 0,.ax,.ax,.int .u32 0,j 0,j 0,.int .u32 0,j 0,j 0,.int .u32 0,j 0,j 0,.int .u32 0,j 0,j 0,.int .u32 0,j 0,j 0,.int .u32 0,j 0,j 0,.int .u32 0,j 0,j 0,.int .u32 0,j 0,j 0,j 0,j 0,j 0,j 0,j 0,.int .u64 0,j 0,j 0,j 0,j 0,j 0,j 0,j 0,j 0,j 0,j 0,j 0,j 0,j 0,j 0,.bool false,.bool false,j 0,.ax,.ax,.int .u32 0,j 0,j 0,.int .u32 0,j 0,j 0,.int .u32 0,j 0,j 0,.int .u32 0,j 0,j 0,.int .u32 0,j 0,j 0,.int .u32 0,j 0,j 0,.int .u32 0,j 0,j 0,.int .u32 0,j 0,j 0,j 0,j 0,j 0,j 0,j 0,.int .u64 0,j 0,j 0,j 0,j 0,j 0,j 0,j 0,j 0,j 0,j 0,j 0,j 0,j 0,j 0,.bool false,.bool false,j 0,.ax,.ax,.int .u32 0,j 0,j 0,.int .u32 0,j 0,j 0,.int .u32 0,j 0,j 0,.int .u32 0,j 0,j 0,.int .u32 0,j 0,j 0,.int .u32 0,j 0,j 0,.int .u32 0,j 0,j 0,.int .u32 0,j 0,j 0,j 0,j 0,j 0] [(0,32,5),(32,1,6)]),x 8 69 7,m 3 8]) (k [3] (s (q [m 9 (i 0)] (k [3,9] (.block 0 (.loop (q [b 10 .lss 9 (i 8)] (s (h 10 .skip (.exit 0)) (k [3,9] (s (.block 1 (q [m 11 9,m 4 11] (.draw [0,0,0,4,1,17,63,127,255] [[3],[4],[4],[14],[12],[16],[17,13],[18],[19,15]] [m 12 3,m 13 4,m 14 4,c 15 534 [14],o 16 (.aB 12),f 17 34 16,o 18 (.aE 8 49 17 13),f 19 24 18,r 1 19 15]))) (k [3,9] (p [b 20 .add 9 (i 1),m 9 20])))))))))) (k [3] (t [m 21 3,m 2 21])))))⟩
structure J'(R:Env):Prop where
 aaW:R.Fn 517 Vj
 n345:OZ R
 uY:OV R
def Vk:bz:=Nf ⟨1,[2],q [m 2 (.k (.bool false))] (q [m 3 0,o 4 (.B1 false 3),m 5 4,⟨some 6,some (5,false),.mv 0⟩,⟨some 7,some (5,false),.aB 6⟩,⟨some 8,some (5,false),.bF 32 7⟩,⟨some 9,some (5,false),.load false 1 8⟩,⟨some 10,some (5,false),.B1 false 9⟩,w 11 5 (.k (.bool true)) 10,m 2 11] (k [2] .ret))⟩
structure Pf(R:Env):Prop where
 aaX:R.Fn 535 Vk
def Vl:bz:=Nf ⟨1,[.cell 2 true 3],q [a 2 65 [j 0,.ab,.ab]] (t [m 3 0,o 4 (.build [j 0,.ab,.ab] [(0,1,3)]),r 3 2 4])⟩
structure Ka(R:Env):Prop where
 Vm:R.Fn 536 Vl
def Vn:bz:=Nf ⟨2,[4,5],q [m 4 (.k .ax),m 5 (.k (.bool false))] (s (q [m 6 1,b 7 .lss 6 (i 0),m 8 7,⟨some 9,some (8,false),.mv 1⟩,⟨some 10,some (8,false),.bin .geq 9 (i 8)⟩,w 11 8 (.k (.bool true)) 10] (k [0,1,11] (h 11 (t [m 4 (.k .ax),m 5 (.k (.bool false))]) .skip))) (y [0,1] [m 12 0,m 13 1,o 14 (.aB 12),f 15 34 14,o 16 (.aE 8 49 15 13),m 4 16,m 5 (.k (.bool true))] (k [4,5] .ret)))⟩
structure Pg(R:Env):Prop where
 aaY:R.Fn 537 Vn
def Vo:bz:=Nf ⟨1,[2],q [m 2 (i 0)] (s (q [m 3 0] (h 3 (t [m 2 (i 1)]) .skip)) (k [] (t [m 2 (i 0)])))⟩
structure Ph(R:Env):Prop where
 Pj:R.Fn 574 Vo
def Vp:bz:=Nf ⟨3,[.cell 6 true 9,7],q [a 6 59 Nq,m 7 (.k (.bool false))] (q [m 11 0,o 12 (.aB 11),f 13 32 12,l 14 1 13,m 15 2,c 16 491 [14,15],m 10 16,e 17 10 0,e 18 10 1,a 8 59 Nq,r 9 8 17,m 9 18] (k [1,6,8] (s (.draw [0,0,2,6,14,30,62,126,254,510,1022,2046,4094,8190,126,16510,65534,131070,131071,524287] [[8],[1],[20],[21],[22],[23],[24],[1],[26],[27],[28],[29],[30],[31],[8],[33],[32,34],[25,35],[6,19],[36]] [g 19 9 8,m 20 1,o 21 (.aB 20),f 22 23 21,l 23 1 22,o 24 (.B1 true 23),m 25 24,⟨some 26,some (25,true),.mv 1⟩,⟨some 27,some (25,true),.aB 26⟩,⟨some 28,some (25,true),.bF 23 27⟩,⟨some 29,some (25,true),.load false 1 28⟩,⟨some 30,some (25,true),.aB 29⟩,⟨some 31,some (25,true),.bF 0 30⟩,⟨some 32,some (25,true),.load false 1 31⟩,⟨some 33,some (25,true),.load true 9 8⟩,⟨some 34,some (25,true),.call 499 [33]⟩,⟨some 35,some (25,true),.call 47 [32,34]⟩,w 36 25 35 (.k (.bool false)),r 9 6 19,m 7 36]) (k [6,7] .ret))))⟩
structure Pk(R:Env):Prop where
 aaZ:R.Fn 575 Vp
 n47:SQ R
 Pl:O' R
def Vq:bz:=Nf ⟨3,[.cell 6 true 3],q [x 5 64 2,a 6 65 [j 0,.ab,.ab]] (q [m 7 (.f 574)] (q [m 12 0,m 13 1,f 14 19 5,l 15 1 14,c 16 575 [12,13,15],m 11 16,e 17 11 0,e 18 11 1,a 8 59 Nq,r 9 8 17,m 9 18] (y [1,6,7,9] [m 19 1,o 20 (.aB 19),f 21 24 20,l 22 1 21,c 23 576 [22],a 10 63 Z4,r 32 10 23] (k [1,6,7,9,10] (s (.draw [0,0,2,6,14,31,0,0,255,0,512,1536,3584,8191,16383,32767,0,131071,262143] [[7],[1],[25],[26],[27],[24,28],[7],[9],[30,31],[1],[33],[34],[35],[36],[37],[29,32,38],[10],[39,40],[6,41]] [m 24 7,m 25 1,o 26 (.aB 25),f 27 21 26,l 28 1 27,o 29 (.fH 24 [28]),m 30 7,m 31 9,o 32 (.fH 30 [31]),m 33 1,o 34 (.aB 33),f 35 24 34,l 36 1 35,o 37 (.lX (.f 540) [36]),n 38 37,o 39 (.aK 10 1 3 [j 0] [(0,29),(1,32),(2,38)]),o 40 (.rn 32 1 10 none none none),o 41 (.build [j 0,.ab,.ab] [(1,1,39),(2,1,40)]),r 3 6 41]) (k [6] .ret))))))⟩
structure Pm(R:Env):Prop where
 aa0:R.Fn 554 Vq
 Pn:OW R
 DT:Ph R
 Po:Pk R
 Pp:OY R
def Vr:bz:=Nf ⟨3,[.cell 6 true 3],q [x 5 64 2,a 6 65 [j 0,.ab,.ab]] (s (q [f 7 0 5,l 8 1 7] (.block 0 (q [b 10 .eql 8 (i 5),m 9 10] (h 9 (q [m 11 1,g 12 46 5,c 13 552 [11,12],c 14 536 [13],r 3 6 14] (k [6] .ret)) (q [b 16 .eql 8 (i 7),m 15 16] (h 15 (q [m 17 1,g 18 46 5,c 19 553 [17,18],c 20 536 [19],r 3 6 20] (k [6] .ret)) (q [b 22 .eql 8 (i 9),m 21 22] (h 21 (q [m 23 0,m 24 1,g 25 46 5,c 26 554 [23,24,25],r 3 6 26] (k [6] .ret)) .skip)))))))) (k [0,1,5,6] (s (.block 1 (q [m 28 1,o 29 (.aB 28),f 30 21 29,l 31 1 30,o 32 (.un .not 31),m 27 32] (k [0,1,5,6,27] (h 27 (t [c 33 536 [i 13],r 3 6 33]) (q [f 35 0 5,l 36 1 35,b 37 .eql 36 (i 6),m 34 37] (h 34 (q [m 38 0,m 39 1,g 40 46 5,c 41 555 [38,39,40],r 3 6 41] (k [6] .ret)) (q [f 43 42 5,l 44 1 43,b 45 .lss 44 (i 0),m 46 45,⟨some 47,some (46,false),.bF 42 5⟩,⟨some 48,some (46,false),.load false 1 47⟩,⟨some 49,some (46,false),.bin .geq 48 (i 8)⟩,w 50 46 (.k (.bool true)) 49,m 42 50] (k [0,1,5,6,42] (h 42 (t [c 51 536 [i 2],r 3 6 51]) .skip))))))))) (y [0,1,5,6] [m 52 0,m 53 1,g 54 46 5,c 55 556 [52,53,54],r 3 6 55] (k [6] .ret)))))⟩
structure Pq(R:Env):Prop where
 aa1:R.Fn 538 Vr
 DU:Ka R
 Pr:Pm R
def Vs:bz:=Nf ⟨2,[.cell 4 true 3],q [x 3 64 1,a 4 65 [j 0,.ab,.ab]] (s (q [m 10 0,c 11 535 [10]] (h 11 (t [c 12 536 [i 1],r 3 4 12]) .skip)) (k [0,3,4] (s (q [f 13 0 3,l 14 1 13] (.block 0 (q [b 16 .eql 14 (i 1),m 15 16] (h 15 (s (.draw [0,1,3,7,0,16,63,127,255,255,255,0,0,6655,15359,32767] [[0],[18],[19],[20],[3],[22],[21,23],[24],[17],[17],[17],[],[],[5,25],[6,26],[27]] [m 18 0,o 19 (.aB 18),f 20 0 19,g 21 32 20,f 22 2 3,l 23 1 22,c 24 528 [21,23],m 17 24,e 25 17 0,e 26 17 1,e 27 17 2,a 5 2 A',a 6 39 DJ,r 15 5 25,r 24 6 26,m 7 27]) (k [0,3,4,5,6,7] (s (q [m 28 7,b 29 .neq 28 (i 0)] (h 29 (t [m 30 7,c 31 536 [30],r 3 4 31]) .skip)) (k [0,3,4,5,6] (s (.draw [0,1,3,7,0,16,0,0,255,511,1023] [[0],[32],[33],[34],[3],[36],[5],[6],[35,37,38,39],[40],[4,41]] [m 32 0,o 33 (.aB 32),f 34 32 33,l 35 1 34,f 36 1 3,l 37 1 36,g 38 15 5,g 39 24 6,o 40 (.lY (.f 346) [35,37,38,39]),c 41 536 [40],r 3 4 41]) (k [4] .ret)))))) (q [b 43 .eql 14 (i 2),m 42 43] (h 42 (s (.draw [0,1,3,7,0,16,63,127,255] [[0],[44],[45],[46],[3],[48],[47,49],[50],[4,51]] [m 44 0,o 45 (.aB 44),f 46 32 45,l 47 1 46,f 48 1 3,l 49 1 48,c 50 428 [47,49],c 51 536 [50],r 3 4 51]) (k [4] .ret)) (q [b 53 .eql 14 (i 3),m 52 53] (h 52 (s (.draw [0,1,3,7,0,16,63,127,255] [[0],[54],[55],[56],[3],[58],[57,59],[60],[4,61]] [m 54 0,o 55 (.aB 54),f 56 32 55,l 57 1 56,f 58 3 3,g 59 16 58,c 60 347 [57,59],c 61 536 [60],r 3 4 61]) (k [4] .ret)) (q [b 63 .eql 14 (i 4),m 62 63] (h 62 (s (.draw [0,1,3,7,0,16,63,127,255] [[0],[64],[65],[66],[3],[68],[67,69],[70],[4,71]] [m 64 0,o 65 (.aB 64),f 66 32 65,l 67 1 66,f 68 3 3,g 69 16 68,c 70 427 [67,69],c 71 536 [70],r 3 4 71]) (k [4] .ret)) (q [b 73 .eql 14 (i 10),m 72 73] (h 72 (s (q [f 74 45 3,l 75 1 74,b 76 .lss 75 (i 1),m 77 76,⟨some 78,some (77,false),.bF 45 3⟩,⟨some 79,some (77,false),.load false 1 78⟩,⟨some 80,some (77,false),.bin .gtr 79 (i 1048576)⟩,w 81 77 (.k (.bool true)) 80] (k [0,3,4,81] (h 81 (t [c 82 536 [i 2],r 3 4 82]) .skip))) (k [0,3,4] (s (.draw [0,0,2,6,14,30,0,64,192,510,1022,2046,4095,8191,16383] [[0],[0],[84],[85],[86],[87],[3],[89],[90],[88,91],[92],[93],[83],[95],[96,94]] [m 83 0,m 84 0,o 85 (.aB 84),f 86 33 85,l 87 1 86,o 88 (.conv .u64 87),f 89 45 3,l 90 1 89,o 91 (.conv .u64 90),b 92 .add 88 91,o 93 (.mm false [92,.k (.int .u64 4294967295)]),o 94 (.conv .u32 93),o 95 (.aB 83),f 96 33 95,r 1 96 94]) (k [4] (t [c 97 536 [i 0],r 3 4 97]))))) (s (q [b 99 .eql 14 (i 5),m 98 99] (h 98 .skip (q [b 100 .eql 14 (i 6),m 98 100] (h 98 .skip (q [b 101 .eql 14 (i 7),m 98 101] (h 98 .skip (q [b 102 .eql 14 (i 8),m 98 102] (h 98 .skip (p [b 103 .eql 14 (i 9),m 98 103]))))))))) (k [0,3,4,98] (h 98 (q [m 105 0,f 106 19 3,l 107 1 106,c 108 537 [105,107],m 104 108,e 109 104 0,e 110 104 1,m 8 109,m 9 110] (k [0,3,4,8,9] (s (q [m 111 9,o 112 (.un .not 111)] (h 112 (t [c 113 536 [i 13],r 3 4 113]) .skip)) (y [0,3,4,8] [m 114 0,m 115 8,g 116 46 3,c 117 538 [114,115,116],r 3 4 117] (k [4] .ret))))) .skip))))))))))))))) (k [4] (t [c 118 536 [i 2],r 3 4 118])))))⟩
structure G3(R:Env):Prop where
 Vt:R.Fn 518 Vs
 n346:O0 R
 Bf:JZ R
 Kb:Pf R
 DU:Ka R
 Ps:Pg R
 Pt:Pq R
end Go.UM
namespace Go.UM
open Go.AM
open Z
end Go.UM
namespace Go.UM
open Go.AM
open Z
def Vu:bz:=Nf ⟨1,[.cell 2 true 3],q [x 1 25 0,a 2 25 [.ab,.ab,.ab]] (s (.draw [0,1,0,4,12,28,63,0,128,0,512,1536,3584,8064,0,16384,0,65536,196608,458752,1032192,2097151,4194303] [[1],[3],[1],[5],[6],[7],[4,8],[1],[10],[1],[12],[13],[14],[11,15],[1],[17],[1],[19],[20],[21],[18,22],[9,16,23],[2,24]] [f 3 0 1,l 4 1 3,f 5 0 1,l 6 1 5,n 7 6,o 8 (.mm false [7,i 70]),o 9 (.gO 26 3 4 none (some 8) none),f 10 1 1,l 11 1 10,f 12 1 1,l 13 1 12,n 14 13,o 15 (.mm false [14,i 70]),o 16 (.gO 18 2 11 none (some 15) none),f 17 2 1,l 18 1 17,f 19 2 1,l 20 1 19,n 21 20,o 22 (.mm false [21,i 70]),o 23 (.gO 13 3 18 none (some 22) none),o 24 (.build [.ab,.ab,.ab] [(0,1,9),(1,1,16),(2,1,23)]),r 3 2 24]) (k [2] .ret))⟩
structure Pu(R:Env):Prop where
 Vv:R.Fn 191 Vu
end Go.UM
namespace Go.UM
open Go.AM
open Z
def Vx:bz:=Nf ⟨1,[.cell 2 true 57],q [x 1 55 0,a 2 55 Z5] (q [f 3 17 1,f 4 1 3,g 5 3 4,c 6 191 [5],f 7 17 1,f 8 1 7,r 3 8 6] (y [1,2] [f 9 17 1,f 10 4 9,f 11 1 10,l 12 1 11,f 13 17 1,f 14 4 13,f 15 1 14,l 16 1 15,n 17 16,o 18 (.mm false [17,i 260]),o 19 (.gO 13 3 12 none (some 18) none),f 20 17 1,f 21 4 20,f 22 1 21,r 1 22 19] (k [1,2] (t [g 23 57 1,r 57 2 23]))))⟩
structure Pv(R:Env):Prop where
 Pw:R.Fn 420 Vx
 n191:Pu R
end Go.UM
namespace Go.UM
open Go.AM
open Z
end Go.UM
namespace Go.UM
open Go.AM
open Z
end Go.UM
namespace Go.UM
open Go.AM
open Z
def c63:bz:=Nf ⟨1,[2],q [m 2 (.k (.int .u64 0))] (q [m 3 (.k (.int .u64 0))] (s (q [m 4 (i 0)] (k [0,3,4] (.block 0 (.loop (s (q [m 5 4,m 6 0,b 7 .lss 5 6] (h 7 .skip (.exit 0))) (k [0,3,4] (s (.block 1 (p [m 10 3,b 11 .mul 10 (.k (.int .u64 256)),b 12 .add 11 (.k (.int .u64 255)),m 3 12])) (k [0,3,4] (p [m 8 4,b 9 .add 8 (i 1),m 4 9]))))))))) (k [3] (t [m 13 3,m 2 13]))))⟩
end Go.UM
namespace Go.UM
open Go.AM
open Z
end Go.UM
namespace Go.UM
open Go.AM
open Z
end Go.UM
namespace Go.UM
open Go.AM
open Z
end Go.UM
namespace Go.UM
open Go.AM
open Z
end Go.UM
namespace Go.UM
open Go.AM
open Z
end Go.UM
namespace Go.UM
open Go.AM
open Z
end Go.UM
namespace Go.UM
open Go.AM
open Z
end Go.UM
namespace Go.UM
open Go.AM
open Z
end Go.UM
namespace Go.UM
open Go.AM
open Z
end Go.UM
namespace Go.UM
open Go.AM
open Z
end Go.UM
namespace Go.UM
open Go.AM
open Z
end Go.UM
namespace Go.UM
open Go.AM
open Z
def Vy:bz:=Nf ⟨0,[0],q [m 0 (.k (.bool false))] (q [o 3 (.build Z4 [(0,1,.k (.int .u8 1))]),c 4 517 [3],m 1 4] (q [m 5 1,o 6 (.build Z7 [(0,1,i 9)]),c 7 518 [5,6],a 2 65 [j 0,.ab,.ab],r 3 2 7] (y [2] [f 8 0 2,l 9 1 8,b 10 .eql 9 (i 0),m 11 10,⟨some 12,some (11,true),.bF 1 2⟩,⟨some 13,some (11,true),.load false 1 12⟩,⟨some 14,some (11,true),.og 13⟩,⟨some 15,some (11,true),.bin .eql 14 (i 3)⟩,w 16 11 15 (.k (.bool false)),m 17 16,⟨some 18,some (17,true),.bF 2 2⟩,⟨some 19,some (17,true),.load false 1 18⟩,⟨some 20,some (17,true),.og 19⟩,⟨some 21,some (17,true),.bin .eql 20 (i 32)⟩,w 22 17 21 (.k (.bool false)),m 0 22] (k [0] .ret))))⟩
structure Px(R:Env):Prop where
 Py:R.Fn 523 Vy
 DV:J' R
 Bg:G3 R
def Vz:bz:=Nf ⟨3,[6],q [x 3 63 0,x 4 2 1,x 5 39 2,m 6 (.k (.bool false))] (q [g 14 24 5,o 15 (.build Z5 [(17,24,14)]),c 16 420 [15],a 7 55 Z5,r 57 7 16] (y [3,4,7] [f 17 17 7,f 18 0 17,l 19 1 18,f 20 1 4,r 1 20 19] (y [3,4,7] [g 22 32 3,o 23 (.build XV [(0,1,.k (.int .u8 1)),(1,1,.k (.int .u8 2)),(2,1,.k (.int .u8 3))]),g 24 15 4,f 25 17 7,g 26 24 25,c 27 527 [22,23,24,26],m 21 27,e 28 21 0,e 29 21 1,m 8 28,m 9 29] (k [3,4,7,8,9] (s (q [m 30 9,b 31 .neq 30 (i 0)] (h 31 (q [m 32 8,n 33 32,b 34 .eql 33 (i 0),m 35 34,⟨some 36,some (35,true),.call 523 []⟩,w 37 35 36 (.k (.bool false)),m 6 37] (k [6] .ret)) .skip)) (y [3,4,7,8] [g 39 32 3,m 40 8,c 41 528 [39,40],m 38 41,e 42 38 0,e 43 38 1,e 44 38 2,a 10 2 A',a 11 39 DJ,r 15 10 42,r 24 11 43,m 12 44] (y [3,4,7,8,10,11,12] [g 45 32 3,c 46 517 [45],m 13 46] (s (q [m 47 13,o 48 (.B1 false 47),m 49 48,⟨some 50,some (49,false),.mv 12⟩,⟨some 51,some (49,false),.bin .neq 50 (i 0)⟩,w 52 49 (.k (.bool true)) 51,m 53 52,⟨some 54,some (53,false),.load true 24 11⟩,⟨some 55,some (53,false),.bF 17 7⟩,⟨some 56,some (53,false),.load true 24 55⟩,⟨some 57,some (53,false),.call 298 [54,56]⟩,⟨some 58,some (53,false),.un .not 57⟩,w 59 53 (.k (.bool true)) 58,m 60 59,⟨some 61,some (60,false),.bF 0 10⟩,⟨some 62,some (60,false),.load false 1 61⟩,⟨some 63,some (60,false),.bF 0 4⟩,⟨some 64,some (60,false),.load false 1 63⟩,⟨some 65,some (60,false),.bin .neq 62 64⟩,w 66 60 (.k (.bool true)) 65,m 67 66,⟨some 68,some (67,false),.bF 3 10⟩,⟨some 69,some (67,false),.load true 8 68⟩,⟨some 70,some (67,false),.bF 3 4⟩,⟨some 71,some (67,false),.load true 8 70⟩,⟨some 72,some (67,false),.EP true [.i,.i,.i,.i,.i,.i,.i,.i] 69 71⟩,w 73 67 (.k (.bool true)) 72] (k [8,13,73] (h 73 (t [m 6 (.k (.bool false))]) .skip))) (y [8,13] [m 74 13,m 75 8,o 76 (.build Z7 [(0,1,i 1),(1,1,i 7),(2,1,75)]),c 77 518 [74,76],o 78 (.IY false 0 1 77),b 79 .eql 78 (i 0),m 80 79,⟨some 81,some (80,true),.mv 13⟩,⟨some 82,some (80,true),.mv 8⟩,⟨some 83,some (80,true),.build Z7 [(0,1,i 1),(1,1,i 7),(2,1,82)]⟩,⟨some 84,some (80,true),.call 518 [81,83]⟩,⟨some 85,some (80,true),.IY false 0 1 84⟩,⟨some 86,some (80,true),.bin .eql 85 (i 10)⟩,w 87 80 86 (.k (.bool false)),m 88 87,⟨some 89,some (88,true),.call 523 []⟩,w 90 88 89 (.k (.bool false)),m 6 90] (k [6] .ret))))))))))⟩
structure VA(R:Env):Prop where
 VB:R.Fn 526 Vz
 n298:JV R
 G4:Pv R
 DV:J' R
 Bg:G3 R
 G5:Px R
 Bi:GZ R
 Bf:JZ R
end Go.UM
namespace Go.UM
open Go.AM
def u8(n:Int):UInt8:=UInt8.ofNat (n % 256).toNat
theorem lx(n:Int):wr .u8 n=((u8 n).toNat:Int):=by
 have h1:0<=n % 256:=Int.emod_nonneg _ (by decide)
 have h2:n % 256<256:=Int.emod_lt_of_pos _ (by decide)
 simp only[wr,IntKind.wrap,IntKind.bits,IntKind.signed,u8]
 simp
 omega
theorem PA(n:Int):u8 (n % 256)=u8 n:=by unfold u8; rw[Int.emod_emod_of_dvd n (Int.dvd_refl 256)]
theorem yY(c:UInt8):u8 (c.toNat:Int)=c:=by
 have:=c.toNat_lt
 unfold u8
 rw[show ((c.toNat:Int) % 256).toNat=c.toNat by omega]
 simp
theorem u8_in{n:Int}(h:0<=n/\n<=255):((u8 n).toNat:Int)=n:=by rw[<-lx,tB (k:= .u8) h]
def aq(l:List UInt8):List (List AV):=l.map fun c=>[.int .u8 c.toNat]
def de(k:IntKind)(l:List Int):List (List AV):=l.map fun x=>[.int k x]
@[simp] theorem VC:aq []=[]:=rfl
@[simp] theorem cy(l:List UInt8):(aq l).length=l.length:=by simp[aq]
@[simp] theorem mA(a b:List UInt8):aq (a++b)=aq a++aq b:=by simp[aq]
@[simp] theorem VD(n:Int):[[AV.int .u8 (wr .u8 n)]]=aq [u8 n]:=by simp[aq,lx]
@[simp] theorem VE(k:IntKind):de k []=[]:=rfl
@[simp] theorem yZ(k:IntKind)(l:List Int):(de k l).length=l.length:=by simp[de]
@[simp] theorem LO(k:IntKind)(a b:List Int):de k (a++b)=de k a++de k b:=by simp[de]
@[simp] theorem VF(l:List UInt8):qc (aq l):=by simp[aq]
@[simp] theorem VG(k:IntKind)(l:List Int):qc (de k l):=by simp[de]
@[simp] theorem VH(l:List UInt8):yO (aq l):=by simp[aq]
@[simp] theorem VI(k:IntKind)(l:List Int):yO (de k l):=by simp[de]
instance {l:List UInt8}:qT (aq l) l.length:=⟨cy l⟩
instance {k:IntKind}{l:List Int}:qT (de k l) l.length:=⟨yZ k l⟩
@[simp] theorem VJ{e:List AV}{l:List UInt8}:e ∈ aq l↔∃c,c ∈ l/\[AV.int .u8 c.toNat]=e:=by simp[aq]
@[simp] theorem VK{k:IntKind}{e:List AV}{l:List Int}:e ∈ de k l↔∃c,c ∈ l/\[AV.int k c]=e:=by simp[de]
theorem nb(l:List UInt8)(k:Nat):(aq l).take k=aq (l.take k):=by simp[aq,List.map_take]
theorem qg(l:List UInt8)(k:Nat):(aq l).drop k=aq (l.drop k):=by simp[aq,List.map_drop]
theorem v7(k':IntKind)(l:List Int)(k:Nat):(de k' l).take k=de k' (l.take k):=by simp[de,List.map_take]
theorem v8(k':IntKind)(l:List Int)(k:Nat):(de k' l).drop k=de k' (l.drop k):=by simp[de,List.map_drop]
theorem G6{l:List UInt8}{i:Nat}{x:UInt8}(h:l[i]? =some x){K:List AV->Prop}(k:K [.int .u8 x.toNat]):I8 (aq l) i K:=bj h k
theorem aR{α:Type}{l:List α}{k:Nat}{x:α}(h:l[k]? =some x):l.take (k+1)=l.take k++ [x]:=by
 rw[List.take_add_one,h]; rfl
theorem G7{k:IntKind}{x y:Int}(hx:0<=x):bA k x y=x / 2 ^ (min y.toNat k.bits):=by
 unfold bA
 rw[Int.fdiv_eq_ediv_of_nonneg]
 exact Int.le_of_lt (Int.pow_pos (by decide))
theorem aS8{s:List UInt8}{K:List UInt8->Prop}(k:K s):RQ (aq s) K:=⟨⟨s,rfl,k⟩⟩
theorem tI{α:Type}(l:List α)(m:Int):l.take (min (l.length:Int) m).toNat=l.take m.toNat:=by
 by_cases h:(l.length:Int)<=m
 ·rw[show (min (l.length:Int) m).toNat=l.length by omega,List.take_of_length_le (Nat.le_refl _),List.take_of_length_le (by omega)]
 ·rw[show (min (l.length:Int) m).toNat=m.toNat by omega]
theorem aa2(b:List UInt8)(m:Int):(aq b).take (min (b.length:Int) m).toNat=aq (b.take m.toNat):=by rw[nb,tI]
instance {l:List UInt8}{k:Nat}:pa ((aq l).take k) (aq (l.take k)):=⟨nb l k⟩
instance {l:List UInt8}{k:Nat}:pa ((aq l).drop k) (aq (l.drop k)):=⟨qg l k⟩
instance {l:List UInt8}{k j:Nat}:pa (((aq l).take k).drop j) (aq ((l.take k).drop j)):=⟨by rw[nb,qg]⟩
instance {kk:IntKind}{l:List Int}{k:Nat}:pa ((de kk l).take k) (de kk (l.take k)):=⟨v7 kk l k⟩
instance {kk:IntKind}{l:List Int}{k:Nat}:pa ((de kk l).drop k) (de kk (l.drop k)):=⟨v8 kk l k⟩
instance {kk:IntKind}{l:List Int}{k j:Nat}:pa (((de kk l).take k).drop j) (de kk ((l.take k).drop j)):=⟨by rw[v7,v8]⟩
end Go.UM
namespace Go.UM
open Go.AM
theorem jG{n:Nat}{x:Int}(h0:0<=x)(h1:x<2 ^ n):(BitVec.ofInt n x).toNat=x.toNat:=by
 rw[BitVec.toNat_ofInt]
 congr 1
 apply Int.emod_eq_of_lt h0
 exact_mod_cast h1
theorem oq{x:Nat}(h:x<18446744073709551616):wr .u64 (x:Int)=x:=tB (k:= .u64) ⟨by omega,by omega⟩
theorem PB{x y:Int}(hx:0<=x/\x<=18446744073709551615)(hy:0<=y/\y<=18446744073709551615):da .or .u64 x y=((x.toNat||| y.toNat:Nat):Int):=by
 have e:da .or .u64 x y=wr .u64 ((BitVec.ofInt 64 x||| BitVec.ofInt 64 y).toNat:Int):=rfl
 rw[e,BitVec.toNat_or,jG hx.1 (by omega),jG hy.1 (by omega)]
 apply oq
 exact Nat.or_lt_two_pow (n:=64) (by omega) (by omega)
theorem Kc{x y:Int}(hx:0<=x/\x<=18446744073709551615)(hy:0<=y/\y<=18446744073709551615):da .and .u64 x y=((x.toNat&&& y.toNat:Nat):Int):=by
 have e:da .and .u64 x y=wr .u64 ((BitVec.ofInt 64 x&&& BitVec.ofInt 64 y).toNat:Int):=rfl
 rw[e,BitVec.toNat_and,jG hx.1 (by omega),jG hy.1 (by omega)]
 apply oq
 exact Nat.and_lt_two_pow (n:=64) _ (by omega)
def le:List UInt8->Nat
 |[]=>0
 |c::r=>c.toNat+256*le r
theorem tJ:∀l:List UInt8,le l<256 ^ l.length
 |[]=>by simp[le]
 |c::r=>by
  have h1:=tJ r
  have h2:=c.toNat_lt
  simp only[le,List.length_cons,Nat.pow_succ]
  omega
theorem wa:∀(l m:List UInt8),le (l++m)=le l+256 ^ l.length*le m
 |[],m=>by simp[le]
 |c::r,m=>by
  simp only[List.cons_append,le,wa r,List.length_cons,Nat.pow_succ,Nat.mul_add]
  rw[Nat.mul_comm (256 ^ r.length) 256,Nat.mul_assoc]
  omega
theorem pf(l:List UInt8)(c:UInt8):le (l++ [c])=le l+256 ^ l.length*c.toNat:=by
 rw[wa]; simp[le]
theorem G8{c:Nat}{i:Nat}(hc:c<256)(hi:i<8):jZ .u64 (c:Int) (8* (i:Int))=((256 ^ i*c:Nat):Int):=by
 have h:(8* (i:Int)).toNat=8*i:=by omega
 unfold jZ
 rw[h,show min (8*i) (IntKind.bits .u64)=8*i by simp[IntKind.bits]; omega]
 have hp:(2:Int) ^ (8*i)=((256 ^ i:Nat):Int):=by rw[Int.pow_mul,Int.natCast_pow]; rfl
 rw[hp]
 have e:(c:Int)* ((256 ^ i:Nat):Int)=((256 ^ i*c:Nat):Int):=by rw[Int.natCast_mul,Int.mul_comm]
 rw[e]
 apply oq
 have h1:256 ^ i*c<256 ^ i*256:=by
  apply Nat.mul_lt_mul_of_pos_left hc
  exact Nat.pow_pos (by decide)
 have h2:256 ^ i*256<=256 ^ 8:=by
  rw[<-Nat.pow_succ]
  exact Nat.pow_le_pow_right (by decide) (by omega)
 omega
theorem rY{n:Nat}{c:Nat}{i:Nat}(hn:n<256 ^ i)(hc:c<256)(hi:i<8):da .or .u64 (n:Int) (jZ .u64 (c:Int) (8* (i:Int)))=((n+256 ^ i*c:Nat):Int):=by
 have h2:256 ^ i*256<=256 ^ 8:=by
  rw[<-Nat.pow_succ]
  exact Nat.pow_le_pow_right (by decide) (by omega)
 have h1:256 ^ i*c<256 ^ i*256:=by
  apply Nat.mul_lt_mul_of_pos_left hc
  exact Nat.pow_pos (by decide)
 rw[G8 hc hi,PB ⟨by omega,by omega⟩ ⟨by omega,by omega⟩,Int.toNat_natCast,Int.toNat_natCast,Nat.or_comm]
 congr 1
 have e:256 ^ i=2 ^ (8*i):=by rw[Nat.pow_mul]
 rw[e]at hn ⊢
 rw[<-Nat.two_pow_add_eq_or_of_lt hn,Nat.add_comm]
end Go.UM
namespace Go.UM
open Go.AM
structure T3 where
 (a b c:Int)
def z3:T3:=⟨0,0,0⟩
def t3(x:T3):List AV:=[.int .i64 x.a,.int .i64 x.b,.int .i64 x.c]
def bn(l:List T3):List (List AV):=l.map t3
@[simp] theorem VL:bn []=[]:=rfl
@[simp] theorem za(l:List T3):(bn l).length=l.length:=by simp[bn]
@[simp] theorem LP(a b:List T3):bn (a++b)=bn a++bn b:=by simp[bn]
@[simp] theorem VM(l:List T3):qc (bn l):=by simp[bn,t3]
@[simp] theorem VN(l:List T3):yO (bn l):=by simp[bn,t3]
theorem wb(l:List T3)(k:Nat):(bn l).take k=bn (l.take k):=by simp[bn,List.map_take]
theorem DW(l:List T3)(k:Nat):(bn l).drop k=bn (l.drop k):=by simp[bn,List.map_drop]
instance {l:List T3}:qT (bn l) l.length:=⟨za l⟩
instance {l:List T3}{k:Nat}:pa ((bn l).take k) (bn (l.take k)):=⟨wb l k⟩
instance {l:List T3}{k:Nat}:pa ((bn l).drop k) (bn (l.drop k)):=⟨DW l k⟩
end Go.UM
namespace Go.UM
open Go.AM
set_option maxRecDepth 4000
abbrev ET(n:Int):Prop:=ed .i64 n
abbrev dg(n:Int):Prop:=ed .u64 n
theorem Ch{n:Int}:dg n↔0<=n/\n<=18446744073709551615:=Iff.rfl
theorem G9(n:Int):wr .u64 n=n % 18446744073709551616:=by
 simp only[wr,IntKind.wrap,IntKind.bits,IntKind.signed]; simp
theorem lg{x y B:Int}(hx:0<=x/\x<=B)(hy:0<=y/\y<=B):0<=x*y/\x*y<=B*B:=
 ⟨Int.mul_nonneg hx.1 hy.1,Int.mul_le_mul hx.2 hy.2 hy.1 (by omega)⟩
def Kd(v:Int):Int:=v / 18446744073709551616
def LQ(v:Int):Int:=v % 18446744073709551616
theorem xl(v:Int):0<=LQ v/\LQ v<=18446744073709551615:=by unfold LQ; omega
theorem Ke{x y:Int}(hx:dg x)(hy:dg y):
  (0<=x % 4294967296* (y % 4294967296)/\x % 4294967296* (y % 4294967296)<=18446744065119617025)/\
  (0<=x / 4294967296* (y % 4294967296)/\x / 4294967296* (y % 4294967296)<=18446744065119617025)/\
  (0<=x % 4294967296* (y / 4294967296)/\x % 4294967296* (y / 4294967296)<=18446744065119617025)/\
  (0<=x / 4294967296* (y / 4294967296)/\x / 4294967296* (y / 4294967296)<=18446744065119617025)/\
  x*y=x / 4294967296* (y / 4294967296)*18446744073709551616+ (x / 4294967296* (y % 4294967296)+x % 4294967296* (y / 4294967296))*4294967296+x % 4294967296* (y % 4294967296):=by
 rw[Ch]at hx hy
 have a1:0<=x % 4294967296/\x % 4294967296<=4294967295:=by omega
 have a2:0<=x / 4294967296/\x / 4294967296<=4294967295:=by omega
 have b1:0<=y % 4294967296/\y % 4294967296<=4294967295:=by omega
 have b2:0<=y / 4294967296/\y / 4294967296<=4294967295:=by omega
 refine⟨lg a1 b1,lg a2 b1,lg a1 b2,lg a2 b2,?_⟩
 have ex:x=x / 4294967296*4294967296+x % 4294967296:=by omega
 have ey:y=y / 4294967296*4294967296+y % 4294967296:=by omega
 generalize x / 4294967296=p at*
 generalize x % 4294967296=q at*
 generalize y / 4294967296=r at*
 generalize y % 4294967296=s at*
 subst ex; subst ey
 simp only[Int.mul_add,Int.add_mul]
 have e1:p*4294967296* (r*4294967296)=p*r*18446744073709551616:=by
  rw[Int.mul_assoc p,Int.mul_left_comm 4294967296 r,<-Int.mul_assoc]; rfl
 have e2:p*4294967296*s=p*s*4294967296:=by rw[Int.mul_assoc,Int.mul_comm 4294967296 s,Int.mul_assoc]
 have e3:q* (r*4294967296)=q*r*4294967296:=by rw[Int.mul_assoc]
 rw[e1,e2,e3]
 omega
theorem xm{x:Int}(h:dg x):da .and .u64 x 4294967295=x % 4294967296:=by
 rw[Ch]at h
 rw[Kc ⟨by omega,by omega⟩ ⟨by omega,by omega⟩]
 have e:((4294967295:Int).toNat)=2 ^ 32 - 1:=rfl
 rw[e,Nat.and_two_pow_sub_one_eq_mod]
 omega
theorem VO{x:Int}(k:IntKind)(hk:32<=k.bits):bA k x 32=x / 4294967296:=by
 unfold bA
 rw[show min (32:Int).toNat k.bits=32 by simp; omega]
 exact Int.fdiv_eq_ediv_of_nonneg _ (by decide)
end Go.UM
namespace Go.UM
open Go.AM
set_option maxRecDepth 4000
abbrev T3.I(t:T3):Prop:=ET t.a/\ET t.b/\ET t.c
def iu(x:Int):Int:=(x+2147483648) / 4294967296
structure Af where
 (m0 m1 m2 m3 m4 m5 m6 m7 m8:Int)
 t:T3
def Af.row(a:Af):List AV:=[.int .i64 a.m0,.int .i64 a.m1,.int .i64 a.m2,.int .i64 a.m3,.int .i64 a.m4,.int .i64 a.m5,.int .i64 a.m6,.int .i64 a.m7,.int .i64 a.m8,.int .i64 a.t.a,.int .i64 a.t.b,.int .i64 a.t.c]
structure Af.I(a:Af):Prop where
 m0:ET a.m0
 m1:ET a.m1
 m2:ET a.m2
 m3:ET a.m3
 m4:ET a.m4
 m5:ET a.m5
 m6:ET a.m6
 m7:ET a.m7
 m8:ET a.m8
 t:a.t.I
def Af.rw(a:Af):Nat->T3
 |0=>⟨a.m0,a.m1,a.m2⟩|1=>⟨a.m3,a.m4,a.m5⟩|_=>⟨a.m6,a.m7,a.m8⟩
def Af.cl(a:Af):Nat->T3
 |0=>⟨a.m0,a.m3,a.m6⟩|1=>⟨a.m1,a.m4,a.m7⟩|_=>⟨a.m2,a.m5,a.m8⟩
theorem Af.I.rw{a:Af}(h:a.I)(i:Nat):(a.rw i).I:=by
 unfold Af.rw; split
 ·exact⟨h.m0,h.m1,h.m2⟩
 ·exact⟨h.m3,h.m4,h.m5⟩
 ·exact⟨h.m6,h.m7,h.m8⟩
theorem Af.I.cl{a:Af}(h:a.I)(i:Nat):(a.cl i).I:=by
 unfold Af.cl; split
 ·exact⟨h.m0,h.m3,h.m6⟩
 ·exact⟨h.m1,h.m4,h.m7⟩
 ·exact⟨h.m2,h.m5,h.m8⟩
def ms(a:Af):List Int:=[a.m0,a.m1,a.m2,a.m3,a.m4,a.m5,a.m6,a.m7,a.m8]
end Go.UM
namespace Go.UM
open Go.AM
set_option maxRecDepth 4000
end Go.UM
namespace Go.UM
open Go.AM
set_option maxRecDepth 4000
theorem Kf{x y:Int}(hx:dg x)(hy:dg y):wr .u64 (wr .u64 (wr .u64 (bA .u64 x 32*bA .u64 y 32)+bA .u64 (wr .u64 (wr .u64 (bA .u64 x 32*da .and .u64 y 4294967295)+bA .u64 (wr .u64 (da .and .u64 x 4294967295*da .and .u64 y 4294967295)) 32)) 32)+
  bA .u64 (wr .u64 (da .and .u64 (wr .u64 (wr .u64 (bA .u64 x 32*da .and .u64 y 4294967295)+bA .u64 (wr .u64 (da .and .u64 x 4294967295*da .and .u64 y 4294967295)) 32)) 4294967295+wr .u64 (da .and .u64 x 4294967295*bA .u64 y 32))) 32)=Kd (x*y):=by
 have k:=fun v=>VO (x:=v) .u64 (by decide)
 simp only[k,xm hx,xm hy]
 rw[xm (Nd .u64 _)]
 obtain⟨p1,p2,p3,p4,e⟩:=Ke hx hy
 rw[e]
 simp only[G9,Kd]
 generalize x % 4294967296* (y % 4294967296)=A at*
 generalize x / 4294967296* (y % 4294967296)=B at*
 generalize x % 4294967296* (y / 4294967296)=C at*
 generalize x / 4294967296* (y / 4294967296)=D at*
 omega
theorem rZ{R:Env}(h:NB R){x y:Int}(hx:dg x)(hy:dg y):R.Pc 276 [.int .u64 x,.int .u64 y] (.aG [.int .u64 (Kd (x*y)),.int .u64 (LQ (x*y))]):=
 h.xi.enter 60 rfl fun X bb hfit hp=>by
  refine sh ?_
  refine ai ?_
  refine sh ?_
  refine ai ?_
  refine sh ?_
  refine ai ?_
  refine sh ?_
  refine ai ?_
  refine sh ?_
  refine ai ?_
  refine sh ?_
  refine ai ?_
  refine sh ?_
  refine ai ?_
  refine sh ?_
  refine ai ?_
  refine sh ?_
  refine ai ?_
  refine sh ?_
  refine rT ?_
  refine fL ?_
  all_goals first|exact Kf hx hy|(rw[G9]; rfl)
end Go.UM
namespace Go.UM
open Go.AM
set_option maxRecDepth 4000
end Go.UM
namespace Go.UM
open Go.AM
set_option maxRecDepth 4000
end Go.UM
namespace Go.UM
open Go.AM
set_option maxRecDepth 4000
@[simp] theorem afl(x:T3):AV.au (t3 x)=[]:=by simp[t3]
@[simp] theorem afm(x:T3):AV.jk (t3 x)=true:=by simp[t3]
@[simp] theorem afn(a:Af):AV.au a.row=[]:=by simp[Af.row]
@[simp] theorem afo(a:Af):AV.jk a.row=true:=by simp[Af.row]
end Go.UM
namespace Go.UM
open Go.AM
set_option maxRecDepth 4000
end Go.UM
namespace Go.UM
open Go.AM
set_option maxRecDepth 4000
structure Gr where
 par:Int
 t:Af
 ot:Int
 Bj:Int
 Bk:Int
def Gr.row(g:Gr):List AV:=[.int .i64 g.par,.int .i64 g.t.m0,.int .i64 g.t.m1,.int .i64 g.t.m2,.int .i64 g.t.m3,.int .i64 g.t.m4,.int .i64 g.t.m5,.int .i64 g.t.m6,.int .i64 g.t.m7,.int .i64 g.t.m8,.int .i64 g.t.t.a,.int .i64 g.t.t.b,.int .i64 g.t.t.c,.int .i64 g.ot,.int .i64 g.Bj,.int .i64 g.Bk]
end Go.UM
namespace Go.UM
open Go.AM
set_option maxRecDepth 4000
end Go.UM
namespace Go.UM
open Go.AM
set_option maxRecDepth 4000
end Go.UM
namespace Go.UM
open Go.AM
set_option maxRecDepth 4000
end Go.UM
namespace Go.UM
open Go.AM
set_option maxRecDepth 4000
def z4:Af:=⟨0,0,0,0,0,0,0,0,0,z3⟩
end Go.UM
namespace Go.UM
open Go.AM
set_option maxRecDepth 4000
structure In where
 ot:Int
 Bj:Int
 Bk:Int
 n:Int
 t:Af
def In.row(x:In):List AV:=[.int .i64 x.ot,.int .i64 x.Bj,.int .i64 x.Bk,.int .i64 x.n,.int .i64 x.t.m0,.int .i64 x.t.m1,.int .i64 x.t.m2,.int .i64 x.t.m3,.int .i64 x.t.m4,.int .i64 x.t.m5,.int .i64 x.t.m6,.int .i64 x.t.m7,.int .i64 x.t.m8,.int .i64 x.t.t.a,.int .i64 x.t.t.b,.int .i64 x.t.t.c]
def EU(l:List In):List (List AV):=l.map In.row
@[simp] theorem Bl(l:List In):(EU l).length=l.length:=by simp[EU]
@[simp] theorem PC(a b:List In):EU (a++b)=EU a++EU b:=by simp[EU]
@[simp] theorem X8(l:List In):qc (EU l):=by simp[EU,In.row]
@[simp] theorem X9(l:List In):yO (EU l):=by simp[EU,In.row]
instance {l:List In}:qT (EU l) l.length:=⟨Bl l⟩
end Go.UM
namespace Go.UM
open Go.AM
set_option maxRecDepth 4000
end Go.UM
namespace Go.UM
open Go.AM
set_option maxRecDepth 4000
end Go.UM
namespace Go.UM
open Go.AM
set_option maxRecDepth 4000
def p2(x:Int × Int):List AV:=[.int .i64 x.1,.int .i64 x.2]
def dA(l:List (Int × Int)):List (List AV):=l.map p2
@[simp] theorem VP:dA []=[]:=rfl
@[simp] theorem zb(l:List (Int × Int)):(dA l).length=l.length:=by simp[dA]
@[simp] theorem LR(a b:List (Int × Int)):dA (a++b)=dA a++dA b:=by simp[dA]
@[simp] theorem VQ(l:List (Int × Int)):qc (dA l):=by simp[dA,p2]
@[simp] theorem VR(l:List (Int × Int)):yO (dA l):=by simp[dA,p2]
theorem we(l:List (Int × Int))(k:Nat):(dA l).take k=dA (l.take k):=by simp[dA,List.map_take]
instance {l:List (Int × Int)}:qT (dA l) l.length:=⟨zb l⟩
instance {l:List (Int × Int)}{k:Nat}:pa ((dA l).take k) (dA (l.take k)):=⟨we l k⟩
structure Ms where
 v:List T3
 uv:List (Int × Int)
 t:List T3
def Ms.row(m:Ms):List AV:=[.aH 3 (bn m.v),.aH 2 (dA m.uv),.aH 3 (bn m.t)]
def pg(p:T3):Bool:= !(decide (-4096<=p.a/\p.a<=4096/\ -4096<=p.b/\p.b<=4096/\ -4096<=p.c/\p.c<=4096))
def DX(x:Int × Int):Bool:= !(decide (0<=x.1/\x.1<=65535/\0<=x.2/\x.2<=65535))
def DY(n:Nat)(t:T3):Bool:= !(decide (0<=t.a/\t.a<n/\0<=t.b/\t.b<n/\0<=t.c/\t.c<n/\t.a≠t.b/\t.b≠t.c/\t.c≠t.a))
def iM(m:Ms):Int:=
 if 64<m.v.length\/ 64<m.t.length then 3
 else if m.v.length=0\/ m.t.length=0\/ m.uv.length≠m.v.length then 5
 else if m.v.any pg=true then 8
 else if m.uv.any DX=true\/ m.t.any (DY m.v.length)=true then 5 else 0
def ph{α:Type}(l:List α)(p:α->Bool):Int:=if l.any p=true then (l.findIdx p:Int)else -1
theorem pj{α:Type}{p:α->Bool}{x:α}:∀{l:List α}{i:Nat},l[i]? =some x->p x=true->(l.take i).any p=false->l.findIdx p=i
 |[],_,h,_,_=>by simp at h
 |a::r,0,h,hp,_=>by simp at h; subst h; simp[List.findIdx_cons,hp]
 |a::r,i+1,h,hp,hn=>by
  simp only[List.take_succ_cons,List.any_cons,Bool.or_eq_false_iff]at hn
  rw[List.findIdx_cons,hn.1,pj (l:=r) (i:=i) (by simpa using h) hp hn.2]
  rfl
theorem xn{α:Type}{p:α->Bool}{l:List α}{i:Nat}{x:α}(h:l[i]? =some x)(hp:p x=true):l.any p=true:=List.any_eq_true.2 ⟨x,List.mem_of_getElem? h,hp⟩
theorem gv{α:Type}{l:List α}{k:Nat}{x:α}{p:α->Bool}(h:l[k]? =some x):(l.take (k+1)).any p=((l.take k).any p||p x):=by
 rw[aR h]; simp
theorem r4{α:Type}{l:List α}{p:α->Bool}:decide (ph l p>= 0)=l.any p:=by
 unfold ph
 split
 ·rename_i h; rw[h]; simp
 ·rename_i h; simp at h ⊢; exact h
theorem G'{R:Env}(h:Nu R)(g:Nat)(hb:cb R.P (R.ft g))(l:List T3)(p:T3->Bool)(hc:∀x ∈ l,R.Pc g [.agg (t3 x)] (.bool (p x)))(hl:l.length<=1073741824):R.Pc 217 [.aH 3 (bn l),R.cl g []] (.int .i64 (ph l p)):=
 h.SZ.enter 100 rfl fun X bb hfit hp=>by
  refine sh ?_
  refine mw 100 (fun i:Nat=>i<=l.length/\(l.take i).any p=false) (fun i=>⟨[(0,.aH 3 (bn l)),(1,R.cl g []),(7,.int .i64 l.length),(8,.int .i64 i)],[],0⟩) (fun i=>l.length - i) (0) ?_ ?_
  ·exact⟨Nat.zero_le _,by simp⟩
  ·intro i hi
   dsimp only
   refine sh ?_
   refine cS (fun h1=> ?_) (fun h1=> ?_)
   ·obtain⟨x,hx⟩:∃u_,l[i]? =some u_:=⟨_,List.getElem?_eq_getElem (by first|omega|(simp<;>omega))⟩
    refine sh ?_
    refine bj hx ?_
    refine sh ?_
    refine aj.pure hb (hc x (List.mem_of_getElem? hx)) rfl ?_
    refine sh ?_
    refine cS (fun h2=> ?_) (fun h2=> ?_)
    ·refine sh ?_
     refine rT ?_
     refine fL ?_
     unfold ph
     rw[if_pos (xn hx h2),pj hx h2 hi.2]
    ·refine sh ?_
     refine yP (i+1) ?_ ?_
     ·refine⟨by omega,?_⟩
      rw[gv hx,hi.2,h2]; rfl
     ·omega
   ·refine sh ?_
    refine rT ?_
    refine fL ?_
    unfold ph
    have h3:=hi.2
    rw[List.take_of_length_le (by omega)]at h3
    rw[if_neg (by simp[h3])]
theorem DZ{R:Env}(h:Nv R)(g:Nat)(hb:cb R.P (R.ft g))(l:List T3)(p:T3->Bool)(hc:∀x ∈ l,R.Pc g [.agg (t3 x)] (.bool (p x)))(hl:l.length<=1073741824):R.Pc 209 [.aH 3 (bn l),R.cl g []] (.bool (l.any p)):=
 h.S5.enter 100 rfl fun X bb hfit hp=>by
  refine sh ?_
  refine aj.pure h.n217.SZ.hb (G' h.n217 g hb l p hc hl) rfl ?_
  refine sh ?_
  refine rT ?_
  refine fL ?_
  exact r4
theorem Ha{R:Env}(h:Nw R)(g:Nat)(hb:cb R.P (R.ft g))(l:List (Int × Int))(p:Int × Int->Bool)(hc:∀x ∈ l,R.Pc g [.agg (p2 x)] (.bool (p x)))(hl:l.length<=1073741824):R.Pc 218 [.aH 2 (dA l),R.cl g []] (.int .i64 (ph l p)):=
 h.S7.enter 100 rfl fun X bb hfit hp=>by
  refine sh ?_
  refine mw 100 (fun i:Nat=>i<=l.length/\(l.take i).any p=false) (fun i=>⟨[(0,.aH 2 (dA l)),(1,R.cl g []),(7,.int .i64 l.length),(8,.int .i64 i)],[],0⟩) (fun i=>l.length - i) (0) ?_ ?_
  ·exact⟨Nat.zero_le _,by simp⟩
  ·intro i hi
   dsimp only
   refine sh ?_
   refine cS (fun h1=> ?_) (fun h1=> ?_)
   ·obtain⟨x,hx⟩:∃u_,l[i]? =some u_:=⟨_,List.getElem?_eq_getElem (by first|omega|(simp<;>omega))⟩
    refine sh ?_
    refine bj hx ?_
    refine sh ?_
    refine aj.pure hb (hc x (List.mem_of_getElem? hx)) rfl ?_
    refine sh ?_
    refine cS (fun h2=> ?_) (fun h2=> ?_)
    ·refine sh ?_
     refine rT ?_
     refine fL ?_
     unfold ph
     rw[if_pos (xn hx h2),pj hx h2 hi.2]
    ·refine sh ?_
     refine yP (i+1) ?_ ?_
     ·refine⟨by omega,?_⟩
      rw[gv hx,hi.2,h2]; rfl
     ·omega
   ·refine sh ?_
    refine rT ?_
    refine fL ?_
    unfold ph
    have h3:=hi.2
    rw[List.take_of_length_le (by omega)]at h3
    rw[if_neg (by simp[h3])]
theorem D3{R:Env}(h:Nx R)(g:Nat)(hb:cb R.P (R.ft g))(l:List (Int × Int))(p:Int × Int->Bool)(hc:∀x ∈ l,R.Pc g [.agg (p2 x)] (.bool (p x)))(hl:l.length<=1073741824):R.Pc 210 [.aH 2 (dA l),R.cl g []] (.bool (l.any p)):=
 h.Ta.enter 100 rfl fun X bb hfit hp=>by
  refine sh ?_
  refine aj.pure h.n218.S7.hb (Ha h.n218 g hb l p hc hl) rfl ?_
  refine sh ?_
  refine rT ?_
  refine fL ?_
  exact r4
def Hb(R:Env)(m:Ms):ah:=[(0,.var (R.ty 25) m.row)]
theorem Hc{R:Env}(h:Ny R)(g:Nat)(l:List T3)(p:T3->Bool)(m:Ms)(hc:∀x ∈ l,R.Mc g [.agg (t3 x),.loc 0 1 0 0] (Hb R m) (.bool (p x)) (Hb R m) 1)(hl:l.length<=1073741824):
  R.Mc 219 [.aH 3 (bn l),R.cl g [.loc 0 1 0 0]] (Hb R m) (.int .i64 (ph l p)) (Hb R m) 1:=
 h.aaa.aL 100 1 rfl rfl rfl fun X bb hfit hp=>by
  refine sh ?_
  refine mw 100 (fun i:Nat=>i<=l.length/\(l.take i).any p=false) (fun i=>⟨[(0,.aH 3 (bn l)),(1,R.cl g [.loc 0 1 0 0]),(7,.int .i64 l.length),(8,.int .i64 i)],Hb R m,1⟩) (fun i=>l.length - i) (0) ?_ ?_
  ·exact⟨Nat.zero_le _,by simp⟩
  ·intro i hi
   dsimp only
   refine sh ?_
   refine cS (fun h1=> ?_) (fun h1=> ?_)
   ·obtain⟨x,hx⟩:∃u_,l[i]? =some u_:=⟨_,List.getElem?_eq_getElem (by first|omega|(simp<;>omega))⟩
    refine sh ?_
    refine bj hx ?_
    refine sh ?_
    refine cM false [0] (hc x (List.mem_of_getElem? hx)) ?_
    repeat (intro _; first|refine eK ?_|refine eP ?_)
    refine sh ?_
    refine cS (fun h2=> ?_) (fun h2=> ?_)
    ·refine sh ?_
     refine rM [0] ?_
     refine fL ?_
     unfold ph
     rw[if_pos (xn hx h2),pj hx h2 hi.2]
    ·refine sh ?_
     refine yP (i+1) ?_ ?_
     ·refine⟨by omega,?_⟩
      rw[gv hx,hi.2,h2]; rfl
     ·omega
   ·refine sh ?_
    refine rM [0] ?_
    refine fL ?_
    unfold ph
    have h3:=hi.2
    rw[List.take_of_length_le (by omega)]at h3
    rw[if_neg (by simp[h3])]
theorem D4{R:Env}(h:NA R)(g:Nat)(l:List T3)(p:T3->Bool)(m:Ms)(hc:∀x ∈ l,R.Mc g [.agg (t3 x),.loc 0 1 0 0] (Hb R m) (.bool (p x)) (Hb R m) 1)(hl:l.length<=1073741824):
  R.Mc 211 [.aH 3 (bn l),R.cl g [.loc 0 1 0 0]] (Hb R m) (.bool (l.any p)) (Hb R m) 1:=
 h.aab.aL 100 1 rfl rfl rfl fun X bb hfit hp=>by
  refine sh ?_
  refine cM false [0] (Hc h.n219 g l p m hc hl) ?_
  repeat (intro _; first|refine eK ?_|refine eP ?_)
  refine sh ?_
  refine rM [0] ?_
  refine fL ?_
  exact r4
theorem VS{R:Env}(h:Oe R)(p:T3):R.Pc 206 [.agg (t3 p)] (.bool (pg p)):=
 h.T5.enter 60 rfl fun X bb hfit hp=>by
  unfold pg
  refine sh ?_
  refine cS (fun h1=> ?_) (fun h1=> ?_)
  ·refine sh ?_
   refine rT ?_
   refine fL ?_
   simp; omega
  ·refine sh ?_
   refine rT ?_
   refine fL ?_
   rw[Bool.eq_iff_iff]; simp only[Bool.not_eq_true',decide_eq_true_eq,decide_eq_false_iff_not]; omega
theorem PD{R:Env}(h:Of R)(p:Int × Int):R.Pc 207 [.agg (p2 p)] (.bool (DX p)):=
 h.T7.enter 60 rfl fun X bb hfit hp=>by
  unfold DX
  refine sh ?_
  refine cS (fun h1=> ?_) (fun h1=> ?_)
  ·refine sh ?_
   refine rT ?_
   refine fL ?_
   simp; omega
  ·refine sh ?_
   refine rT ?_
   refine fL ?_
   rw[Bool.eq_iff_iff]; simp only[Bool.not_eq_true',decide_eq_true_eq,decide_eq_false_iff_not]; omega
theorem VT{R:Env}(h:Og R)(m:Ms)(p:T3):R.Mc 208 [.agg (t3 p),.loc 0 1 0 0] (Hb R m) (.bool (DY m.v.length p)) (Hb R m) 1:=
 h.aax.aL 60 1 rfl rfl rfl fun X bb hfit hp=>by
  unfold DY
  refine sh ?_
  refine cS (fun h1=> ?_) (fun h1=> ?_)
  ·refine sh ?_
   refine rM [0] ?_
   refine fL ?_
   simp; omega
  ·refine sh ?_
   refine cS (fun h2=> ?_) (fun h2=> ?_)
   ·refine sh ?_
    refine rM [0] ?_
    refine fL ?_
    simp; omega
   ·refine sh ?_
    refine cS (fun h3=> ?_) (fun h3=> ?_)
    ·refine sh ?_
     refine rM [0] ?_
     refine fL ?_
     simp; omega
    ·refine sh ?_
     refine cS (fun h4=> ?_) (fun h4=> ?_)
     ·refine sh ?_
      refine rM [0] ?_
      refine fL ?_
      simp; omega
     ·refine sh ?_
      refine rM [0] ?_
      refine fL ?_
      rw[Bool.eq_iff_iff]; simp only[Bool.not_eq_true',decide_eq_true_eq,decide_eq_false_iff_not,beq_iff_eq]; omega
theorem tK{R:Env}(h:yW R)(m:Ms):R.Pc 193 [.agg m.row] (.int .i64 (iM m)):=
 h.uX.enter 100 rfl fun X bb hfit hp=>by
  unfold iM
  refine sh ?_
  refine cS (fun h1=> ?_) (fun h1=> ?_)
  ·rw[if_pos (.inl (by omega))]
   refine sh ?_
   exact rT
  ·refine sh ?_
   refine cS (fun h2=> ?_) (fun h2=> ?_)
   ·rw[if_pos (.inr (by omega))]
    refine sh ?_
    exact rT
   ·rw[if_neg (by omega)]
    refine sh ?_
    refine cS (fun h3=> ?_) (fun h3=> ?_)
    ·rw[if_pos (.inl (by omega))]
     refine sh ?_
     exact rT
    ·refine sh ?_
     refine cS (fun h4=> ?_) (fun h4=> ?_)
     ·rw[if_pos (.inr (.inl (by omega)))]
      refine sh ?_
      exact rT
     ·refine sh ?_
      refine cS (fun h5=> ?_) (fun h5=> ?_)
      ·rw[if_pos (.inr (.inr (by omega)))]
       refine sh ?_
       exact rT
      ·rw[if_neg (by omega)]
       refine sh ?_
       refine aj.pure h.n209.S5.hb (DZ h.n209 206 h.n206.T5.hb m.v pg (fun x _=>VS h.n206 x) (by omega)) rfl ?_
       refine sh ?_
       refine cS (fun h6=> ?_) (fun h6=> ?_)
       ·rw[if_pos h6]
        refine sh ?_
        exact rT
       ·rw[if_neg (by rw[h6]; decide)]
        refine sh ?_
        refine aj.pure h.n210.Ta.hb (D3 h.n210 207 h.n207.T7.hb m.uv DX (fun x _=>PD h.n207 x) (by omega)) rfl ?_
        refine sh ?_
        refine cS (fun h7=> ?_) (fun h7=> ?_)
        ·rw[if_pos (.inl h7)]
         refine sh ?_
         exact rT
        ·refine sh ?_
         refine cM false [0] (D4 h.n211 208 m.t (DY m.v.length) m (fun x _=>VT h.n208 m x) (by omega)) ?_
         repeat (intro _; first|refine eK ?_|refine eP ?_)
         refine sh ?_
         refine cS (fun h8=> ?_) (fun h8=> ?_)
         ·rw[if_pos (.inr h8)]
          refine sh ?_
          exact rT
         ·rw[if_neg (by rw[h7,h8]; decide)]
          refine sh ?_
          exact rT
end Go.UM
namespace Go.UM
open Go.AM
set_option maxRecDepth 4000
theorem zc{R:Env}(h:XX R)(l:List UInt8)(hl:l.length<=1073741824):
  R.Mc 62 [.aH 1 (aq l)] [] (.bi 0 l.length) [(0,.arr (R.ty 4) 1 (aq l))] 1:=
 h.o62.aL 60 0 rfl rfl rfl fun X b hfit hp=>by
  refine sh ?_
  refine CZ.mk (fun hn=> ?_) ?_
  ·have:l=[]:=by simpa[aq]using hn
   subst this
   refine sh ?_
   exact rM [50]
  ·refine sh ?_
   exact rM [0]
def enc(w:Nat)(x:Int):List UInt8:=(List.range w).map fun i=>u8 (x / 256 ^ i)
def gW(b:List UInt8)(w:Int)(n:List Int):List UInt8 × Int:=
 if w<1\/ 8<w then ([],2)else if n.any (fun x=>decide (256 ^ w.toNat<=x))=true then ([],3)else (b++n.flatMap (enc w.toNat),0)
theorem mB(w:Nat):∀l:List Int,(l.flatMap (enc w)).length=w*l.length
 |[]=>by simp
 |x::r=>by simp[mB w r,enc,Nat.mul_add]; omega
theorem zf{b:List UInt8}{n:List Int}{w:Int}{k:Nat}{i:Nat}{x:Int}(hl:b.length+8*n.length<=1073741824)(hw:w<=8)(nu:1<=w)(hk:(k:Int)<n.length)(hi:(i:Int)<w):(b++(n.take k).flatMap (enc w.toNat)++enc i x).length+1<=1073741824:=by
 have h1:w.toNat* (n.take k).length<=8*k:=Nat.mul_le_mul (by omega) (by simp; omega)
 simp only[List.length_append,mB]
 have:(enc i x).length=i:=by simp[enc]
 omega
theorem tL(i:Nat)(x:Int):enc (i+1) x=enc i x++ [u8 (x / 256 ^ i)]:=by simp[enc,List.range_succ]
@[simp] theorem VU(x:Int):enc 0 x=[]:=rfl
@[simp] theorem Bn(w:Nat)(x:Int):(enc w x).length=w:=by simp[enc]
theorem xo{x:Int}{i:Nat}(hx:0<=x)(hi:i<8):bA .u64 x (8* (i:Int))=x / 256 ^ i:=by
 rw[G7 hx]
 have h:(8* (i:Int)).toNat=8*i:=by omega
 rw[h,show min (8*i) (IntKind.bits .u64)=8*i by simp[IntKind.bits]; omega,Int.pow_mul]
 rfl
theorem Ci{x w:Int}(hx:0<=x)(h1:1<=w)(h8:w<8):0<bA .u64 x (8*w)↔256 ^ w.toNat<=x:=by
 obtain⟨i,rfl⟩:∃i:Nat,w=i:=⟨w.toNat,by omega⟩
 rw[xo hx (by omega),Int.toNat_natCast]
 have hp:(0:Int)<256 ^ i:=Int.pow_pos (by decide)
 constructor
 ·intro h
  have:=(Int.le_ediv_iff_mul_le hp).1 (show 1<=x / 256 ^ i from h)
  rwa[Int.one_mul]at this
 ·intro h
  show 1<=x / 256 ^ i
  exact (Int.le_ediv_iff_mul_le hp).2 (by rw[Int.one_mul]; exact h)
theorem jR{n:List Int}{k:Nat}{x:Int}{p:Int->Bool}(h:n[k]? =some x):(n.take (k+1)).any p=((n.take k).any p||p x):=by
 rw[aR h]; simp
theorem Hd{b:List UInt8}{w:Int}{n:List Int}{x:Int}(h1:1<=w)(h2:w<=8)(hx:x ∈ n)(h:256 ^ w.toNat<=x):gW b w n=([],3):=by
 unfold gW
 rw[if_neg (by omega),if_pos]
 simp only[List.any_eq_true,decide_eq_true_eq]
 exact⟨x,hx,h⟩
theorem r5{b:List UInt8}{w:Int}{n:List Int}(h1:1<=w)(h2:w<=8)(h:n.any (fun x=>decide (256 ^ w.toNat<=x))=false):gW b w n=(b++n.flatMap (enc w.toNat),0):=by
 unfold gW
 rw[if_neg (by omega),if_neg (by rw[h]; decide)]
theorem mC{R:Env}(h:Iz R)(b:List UInt8)(w:Int)(n:List Int)(hl:b.length+8*n.length<=1073741824)(hn:∀x ∈ n,0<=x/\x<=18446744073709551615):
  R.Mc 54 [.aH 1 (aq b),.int .i64 w,.aH 1 (de .u64 n)] [] (.aG [.bi 0 (gW b w n).1.length,.int .i64 (gW b w n).2]) [(0,.arr (R.ty 4) 1 (aq (gW b w n).1))] 1:=
 h.o54.aL 100 0 rfl rfl rfl fun X bb hfit hp=>by
  generalize hq:gW b w n=q
  refine sh ?_
  refine cS (fun h1=> ?_) (fun h1=> ?_)
  ·rw[gW,if_pos (.inl h1)]at hq
   subst hq
   refine sh ?_
   exact rM [50]
  ·refine sh ?_
   refine cS (fun h2=> ?_) (fun h2=> ?_)
   ·rw[gW,if_pos (.inr h2)]at hq
    subst hq
    refine sh ?_
    exact rM [50]
   ·refine sh ?_
    refine cM false [] (zc h.n62 b (by omega)) ?_
    repeat (intro _; first|refine eK ?_|refine eP ?_)
    refine sh ?_
    refine mw 100 (fun k:Nat=>k<=n.length/\(n.take k).any (fun x=>decide (256 ^ w.toNat<=x))=false) (fun k=>⟨[(1,.int .i64 w),(8,.bi 0 (b++(n.take k).flatMap (enc w.toNat)).length),(20,.aH 1 (de .u64 n)),(21,.int .i64 n.length),(22,.int .i64 k)],[(0,.arr (R.ty 4) 1 (aq (b++(n.take k).flatMap (enc w.toNat))))],1⟩) (fun k=>n.length - k) (0) ?_ ?_
    ·exact⟨Nat.zero_le _,by simp⟩
    ·intro k hk
     dsimp only
     refine sh ?_
     refine cS (fun h3=> ?_) (fun h3=> ?_)
     ·obtain⟨x,hx⟩:∃u_,n[k]? =some u_:=⟨_,List.getElem?_eq_getElem (by first|omega|(simp<;>omega))⟩
      refine sh ?_
      refine bj hx ?_
      have Cj:=hx
      have hx:=hn x (List.mem_of_getElem? Cj)
      refine sh ?_
      refine cS (fun h4=> ?_) (fun h4=> ?_)
      ·refine sh ?_
       refine cS (fun h5=> ?_) (fun h5=> ?_)
       ·rw[Hd (by omega) (by omega) (List.mem_of_getElem? Cj) ((Ci hx.1 (by omega) h4).1 h5)]at hq
        subst hq
        refine sh ?_
        exact rM [50]
       ·have hnb:¬256 ^ w.toNat<=x:=fun hb=>absurd ((Ci hx.1 (by omega) h4).2 hb) (by omega)
        refine sh ?_
        refine mw 100 (fun i:Nat=>(i:Int)<=w) (fun i=>⟨[(1,.int .i64 w),(8,.bi 0 (b++(n.take k).flatMap (enc w.toNat)++enc i x).length),(10,.int .u64 x),(20,.aH 1 (de .u64 n)),(21,.int .i64 n.length),(22,.int .i64 k),(35,.int .i64 w),(36,.int .i64 i)],[(0,.arr (R.ty 4) 1 (aq (b++(n.take k).flatMap (enc w.toNat)++enc i x)))],1⟩) (fun i=>w.toNat - i) (0) ?_ ?_
        ·show (0:Int)<=w
         omega
        ·intro i hi
         dsimp only
         refine sh ?_
         refine cS (fun h6=> ?_) (fun h6=> ?_)
         ·refine sh ?_
          rw[xo hx.1 (by omega)]
          refine ai ?_
          refine sh ?_
          refine⟨by rw[cy]; exact zf hl h2 h1 h3 h6,?_⟩
          refine sh ?_
          refine nX (i+1) ?_ ?_ ⟨_,hp,rfl⟩ ?_ ?_
          ·omega
          ·omega
          ·exact SF
          ·refine fL ?_
           simp[tL]
         ·refine sh ?_
          refine nX (k+1) ?_ ?_ ⟨_,hp,rfl⟩ ?_ ?_
          ·refine⟨by omega,?_⟩
           rw[jR Cj,hk.2,decide_eq_false hnb]; rfl
          ·omega
          ·refine fL ?_
           rw[aR Cj,show i=w.toNat by omega]; simp
          ·refine fL ?_
           rw[aR Cj,show i=w.toNat by omega]; simp
      ·have hnb:¬256 ^ w.toNat<=x:=by rw[show w.toNat=8 by omega]; omega
       refine sh ?_
       refine mw 100 (fun i:Nat=>(i:Int)<=w) (fun i=>⟨[(1,.int .i64 w),(8,.bi 0 (b++(n.take k).flatMap (enc w.toNat)++enc i x).length),(10,.int .u64 x),(20,.aH 1 (de .u64 n)),(21,.int .i64 n.length),(22,.int .i64 k),(35,.int .i64 w),(36,.int .i64 i)],[(0,.arr (R.ty 4) 1 (aq (b++(n.take k).flatMap (enc w.toNat)++enc i x)))],1⟩) (fun i=>w.toNat - i) (0) ?_ ?_
       ·show (0:Int)<=w
        omega
       ·intro i hi
        dsimp only
        refine sh ?_
        refine cS (fun h6=> ?_) (fun h6=> ?_)
        ·refine sh ?_
         rw[xo hx.1 (by omega)]
         refine ai ?_
         refine sh ?_
         refine⟨by rw[cy]; exact zf hl h2 h1 h3 h6,?_⟩
         refine sh ?_
         refine nX (i+1) ?_ ?_ ⟨_,hp,rfl⟩ ?_ ?_
         ·omega
         ·omega
         ·exact SF
         ·refine fL ?_
          simp[tL]
        ·refine sh ?_
         refine nX (k+1) ?_ ?_ ⟨_,hp,rfl⟩ ?_ ?_
         ·refine⟨by omega,?_⟩
          rw[jR Cj,hk.2,decide_eq_false hnb]; rfl
         ·omega
         ·refine fL ?_
          rw[aR Cj,show i=w.toNat by omega]; simp
         ·refine fL ?_
          rw[aR Cj,show i=w.toNat by omega]; simp
     ·have hkn:n.take k=n:=List.take_of_length_le (by omega)
      rw[hkn]at hk ⊢
      rw[r5 (by omega) (by omega) hk.2]at hq
      subst hq
      refine sh ?_
      exact rM [0]
end Go.UM
namespace Go.UM
open Go.AM
set_option maxRecDepth 4000
def im(b:List UInt8)(w:Int)(n:List Int):List UInt8 × Int:=
 if w<1\/ 8<w then ([],2)else if n.any (fun x=>decide (x< -(256 ^ w.toNat / 2))||decide (256 ^ w.toNat / 2<=x))=true then ([],3)else gW b w (n.map fun x=>x % 256 ^ w.toNat)
theorem D5{b:List UInt8}{w:Int}{n:List Int}{x:Int}(h1:1<=w)(h2:w<=8)(hx:x ∈ n)(h:x< -(256 ^ w.toNat / 2)\/ 256 ^ w.toNat / 2<=x):im b w n=([],3):=by
 unfold im
 rw[if_neg (by omega),if_pos]
 simp only[List.any_eq_true,Bool.or_eq_true,decide_eq_true_eq]
 exact⟨x,hx,h⟩
theorem zg{b:List UInt8}{w:Int}{n:List Int}(h1:1<=w)(h2:w<=8)(h:n.any (fun x=>decide (x< -(256 ^ w.toNat / 2))||decide (256 ^ w.toNat / 2<=x))=false):im b w n=gW b w (n.map fun x=>x % 256 ^ w.toNat):=by
 unfold im
 rw[if_neg (by omega),if_neg (by rw[h]; decide)]
theorem Kg{w x:Int}(h1:1<=w)(h2:w<=8)(hx:ed .i64 x):(bA .i64 (jZ .i64 x (64 - 8*w)) (64 - 8*w)=x)↔¬ (x< -(256 ^ w.toNat / 2)\/ 256 ^ w.toNat / 2<=x):=by
 simp only[ed]at hx
 obtain h|h|h|h|h|h|h|h:w=1\/ w=2\/ w=3\/ w=4\/ w=5\/ w=6\/ w=7\/ w=8:=by omega
 all_goals subst h
 all_goals (simp only[bA,jZ,IntKind.wrap,IntKind.bits,IntKind.signed]; simp[Int.fdiv_eq_ediv]; omega)
theorem Kh{w x:Int}(h1:1<=w)(h2:w<=8)(hx:ed .i64 x):bA .u64 (jZ .u64 (wr .u64 x) (64 - 8*w)) (64 - 8*w)=x % 256 ^ w.toNat:=by
 simp only[ed]at hx
 obtain h|h|h|h|h|h|h|h:w=1\/ w=2\/ w=3\/ w=4\/ w=5\/ w=6\/ w=7\/ w=8:=by omega
 all_goals subst h
 all_goals (simp only[wr,bA,jZ,IntKind.wrap,IntKind.bits,IntKind.signed]; simp[Int.fdiv_eq_ediv]<;>omega)
theorem He{b:List UInt8}{w:Int}{n:List Int}(h1:1<=w)(h2:w<=8):∀x ∈ n.map (fun x=>x % 256 ^ w.toNat),0<=x/\x<=18446744073709551615:=by
 intro x hx
 obtain⟨y,_,rfl⟩:=List.mem_map.1 hx
 obtain h|h|h|h|h|h|h|h:w=1\/ w=2\/ w=3\/ w=4\/ w=5\/ w=6\/ w=7\/ w=8:=by omega
 all_goals (subst h; simp<;>omega)
theorem tM{R:Env}(h:QT R)(b:List UInt8)(w:Int)(n:List Int)(hl:b.length+8*n.length<=1073741824)(hn:∀x ∈ n,ed .i64 x):
  R.Mc 71 [.aH 1 (aq b),.int .i64 w,.aH 1 (de .i64 n)] [] (.aG [.bi 0 (im b w n).1.length,.int .i64 (im b w n).2]) [(0,.arr (R.ty 4) 1 (aq (im b w n).1))] 1:=
 h.o71.aL 100 0 rfl rfl rfl fun X bb hfit hp=>by
  generalize hq:im b w n=q
  refine sh ?_
  refine cS (fun h1=> ?_) (fun h1=> ?_)
  ·rw[im,if_pos (.inl h1)]at hq
   subst hq
   refine sh ?_
   exact rM [50]
  ·refine sh ?_
   refine cS (fun h2=> ?_) (fun h2=> ?_)
   ·rw[im,if_pos (.inr h2)]at hq
    subst hq
    refine sh ?_
    exact rM [50]
   ·refine sh ?_
    refine mw 100 (fun k:Nat=>k<=n.length/\(n.take k).any (fun x=>decide (x< -(256 ^ w.toNat / 2))||decide (256 ^ w.toNat / 2<=x))=false) (fun k=>⟨[(0,.aH 1 (aq b)),(1,.int .i64 w),(8,.bi 0 ((n.take k).map fun x=>x % 256 ^ w.toNat).length),(18,.aH 1 (de .i64 n)),(19,.int .i64 n.length),(20,.int .i64 k)],[(0,.arr (R.ty 6) 1 (de .u64 ((n.take k).map fun x=>x % 256 ^ w.toNat)))],1⟩) (fun k=>n.length - k) (0) ?_ ?_
    ·exact⟨Nat.zero_le _,by simp⟩
    ·intro k hk
     dsimp only
     refine sh ?_
     refine cS (fun h3=> ?_) (fun h3=> ?_)
     ·obtain⟨x,hx⟩:∃u_,n[k]? =some u_:=⟨_,List.getElem?_eq_getElem (by first|omega|(simp<;>omega))⟩
      refine sh ?_
      refine bj hx ?_
      have Cj:=hx
      have hx:=hn x (List.mem_of_getElem? Cj)
      have hsx:=Kg (by omega) h2 hx
      refine sh ?_
      refine cS (fun h4=> ?_) (fun h4=> ?_)
      ·rw[D5 (by omega) (by omega) (List.mem_of_getElem? Cj) (Decidable.not_not.1 fun hb=>h4 (hsx.2 hb))]at hq
       subst hq
       refine sh ?_
       exact rM [50]
      ·refine sh ?_
       refine ai ?_
       refine sh ?_
       rw[Kh (by omega) h2 hx]
       refine nX (k+1) ?_ ?_ ⟨_,hp,rfl⟩ ?_ ?_
       ·refine⟨by omega,?_⟩
        rw[jR Cj,hk.2]
        have:=hsx.1 h4
        simp only[Bool.false_or,Bool.or_eq_false_iff,decide_eq_false_iff_not]
        omega
       ·omega
       ·refine fL ?_
        rw[aR Cj]; simp
       ·refine fL ?_
        rw[aR Cj]; simp[de]
     ·have hkn:n.take k=n:=List.take_of_length_le (by omega)
      rw[hkn]at hk ⊢
      rw[zg (by omega) (by omega) hk.2]at hq
      subst hq
      refine sh ?_
      refine cM true [] (mC h.rC b w (n.map fun x=>x % 256 ^ w.toNat) (by simpa using hl) (He (b:=b) (by omega) h2)) ?_
      repeat (intro _; first|refine eK ?_|refine eP ?_)
      refine sh ?_
      exact rM [1]
structure Rd where
 l:List UInt8
 e:Int
 made:Bool
def Rd.row(r:Rd):List AV:=[.aH 1 (aq r.l),.int .i64 r.e,.bool r.made]
def Rd.off(r:Rd):Bool:= !r.made||decide (r.e≠0)
def Rd.take(r:Rd)(n:Int):List UInt8 × Rd:=
 if r.made=false\/ r.e≠0 then ([],r)else if n<0 then ([],{r with e:=2})else if (r.l.length:Int)<n then ([],{r with e:=4})else (r.l.take n.toNat,{r with l:=r.l.drop n.toNat})
def mD(R:Env)(r:Rd):ah:=[(0,.var (R.ty 9) r.row)]
theorem Bo{R:Env}(h:T2 R)(r:Rd):R.Mc 64 [.loc 0 1 0 0] (mD R r) (.bool (!r.made)) (mD R r) 1:=
 h.o64.aL 60 1 rfl rfl rfl fun X bb hfit hp=>by
  refine sh ?_
  exact rM [0]
theorem zh{R:Env}(h:Ob R)(l:List UInt8)(hl:l.length<=1073741824):R.Mc 56 [.aH 1 (aq l)] [] (.loc 0 1 0 0) (mD R ⟨l,0,true⟩) 1:=
 h.o56.aL 60 0 rfl rfl rfl fun X bb hfit hp=>by
  refine sh ?_
  refine cM false [] (zc h.n62 l hl) ?_
  repeat (intro _; first|refine eK ?_|refine eP ?_)
  refine sh ?_
  exact rM [1]
theorem ou{R:Env}(h:Oc R)(r:Rd)(n:Int):R.Mc 59 [.loc 0 1 0 0,.int .i64 n] (mD R r) (.aH 1 (aq (r.take n).1)) (mD R (r.take n).2) 1:=
 h.o59.aL 60 1 rfl rfl rfl fun X bb hfit hp=>by
  refine sh ?_
  refine cM false [0] (Bo h.JR r) ?_
  repeat (intro _; first|refine eK ?_|refine eP ?_)
  generalize hq:r.take n=q
  cases hm:r.made with
  |false=>
   rw[Rd.take,if_pos (.inl hm)]at hq
   subst hq
   refine sh ?_
   exact rM [0]
  |true=>
  refine sh ?_
  refine cS (fun h1=> ?_) (fun h1=> ?_)
  ·rw[Rd.take,if_pos (.inr (by simpa using h1))]at hq
   subst hq
   refine sh ?_
   exact rM [0]
  ·have h0:¬ (r.made=false\/ r.e≠0):=by simp[hm]; simpa using h1
   refine sh ?_
   refine cS (fun h2=> ?_) (fun h2=> ?_)
   ·rw[Rd.take,if_neg h0,if_pos h2]at hq
    subst hq
    refine sh ?_
    exact rM [0]
   ·refine sh ?_
    refine cS (fun h3=> ?_) (fun h3=> ?_)
    ·rw[Rd.take,if_neg h0,if_neg (by omega),if_pos (by simpa using h3)]at hq
     subst hq
     refine sh ?_
     exact rM [0]
    ·rw[Rd.take,if_neg h0,if_neg (by omega),if_neg (by simpa using h3)]at hq
     subst hq
     refine sh ?_
     refine br (by exact nb _ _) ?_
     refine sh ?_
     refine br (by exact qg _ _) ?_
     refine sh ?_
     exact rM [0]
def Rd.num(r:Rd)(w:Int):Nat × Rd:=let t:=r.take (if w<1\/ 8<w then -1 else w); (le t.1,t.2)
theorem take_len(r:Rd)(w:Int)(h:w<=8):(r.take w).1.length<=8:=by
 unfold Rd.take
 split
 ·simp
 ·split
  ·simp
  ·split
   ·simp
   ·simp only[List.length_take]
    omega
theorem ly{R:Env}(h:LN R)(r:Rd)(w:Int):R.Mc 57 [.loc 0 1 0 0,.int .i64 w] (mD R r) (.int .u64 (r.num w).1) (mD R (r.num w).2) 1:=
 h.o57.aL 100 1 rfl rfl rfl fun X bb hfit hp=>by
  have e1:w<1\/ 8<w->r.num w=(le (r.take (-1)).1,(r.take (-1)).2):=fun hw=>by unfold Rd.num; rw[if_pos hw]
  have e2:¬ (w<1\/ 8<w)->r.num w=(le (r.take w).1,(r.take w).2):=fun hw=>by unfold Rd.num; rw[if_neg hw]
  generalize hq:r.num w=q at e1 e2 ⊢
  refine sh ?_
  refine cS (fun h1=> ?_) (fun h1=> ?_)
  ·rw[e1 (.inl h1)]
   refine sh ?_
   refine cM false [0] (ou h.n59 r (-1)) ?_
   repeat (intro _; first|refine eK ?_|refine eP ?_)
   have hlen:=take_len r (-1) (by decide)
   generalize r.take (-1)=t at hlen ⊢
   refine sh ?_
   refine mw 100 (fun i:Nat=>i<=t.1.length) (fun i=>⟨[(5,.int .u64 (le (t.1.take i))),(16,.aH 1 (aq t.1)),(17,.int .i64 t.1.length),(18,.int .i64 i)],mD R t.2,1⟩) (fun i=>t.1.length - i) (0) ?_ ?_
   ·exact Nat.zero_le _
   ·intro i hi
    dsimp only
    refine sh ?_
    refine cS (fun h5=> ?_) (fun h5=> ?_)
    ·obtain⟨x,hx⟩:∃u_,t.1[i]? =some u_:=⟨_,List.getElem?_eq_getElem (by first|omega|(simp<;>omega))⟩
     refine sh ?_
     refine bj hx ?_
     refine st ?_
     intro _u; clear _u
     refine qb (k:= .u64) (by have:=x.toNat_lt; simp only[ed]; omega) ?_
     refine sh ?_
     have hil:(t.1.take i).length=i:=by simp; omega
     have hle:=tJ (t.1.take i)
     rw[hil]at hle
     rw[rY hle x.toNat_lt (by omega)]
     refine nX (i+1) ?_ ?_ ⟨_,hp,rfl⟩ ?_ ?_
     ·omega
     ·omega
     ·all_goals repeat' (first|exact True.intro|refine And.intro ?_ ?_|(intro _u; clear _u)|(with_reducible first|exact aU.fg|refine eM ?_ ?_|refine eF ?_ ?_ ?_|refine eN ?_|refine eL ?_ ?_ ?_|refine eA ?_ ?_|refine bp.mk ⟨_,hp,rfl⟩ ?_ ?_)|refine bp.mk ⟨_,hp,rfl⟩ ?_ ?_)
      all_goals try first|with_reducible rfl|omega|exact .inl (by decide)|(simp; done)|rfl
      rw[aR hx,pf,hil]
     ·all_goals repeat' (first|exact True.intro|refine And.intro ?_ ?_|(intro _u; clear _u)|(with_reducible first|exact aU.fg|refine eM ?_ ?_|refine eF ?_ ?_ ?_|refine eN ?_|refine eL ?_ ?_ ?_|refine eA ?_ ?_|refine bp.mk ⟨_,hp,rfl⟩ ?_ ?_)|refine bp.mk ⟨_,hp,rfl⟩ ?_ ?_)
      all_goals try first|with_reducible rfl|omega|exact .inl (by decide)|(simp; done)|rfl
    ·have VV:t.1.take i=t.1:=List.take_of_length_le (by omega)
     rw[VV]
     refine sh ?_
     exact rM [0]
  ·refine sh ?_
   refine cS (fun h2=> ?_) (fun h2=> ?_)
   ·rw[e1 (.inr h2)]
    refine sh ?_
    refine cM false [0] (ou h.n59 r (-1)) ?_
    repeat (intro _; first|refine eK ?_|refine eP ?_)
    have hlen:=take_len r (-1) (by decide)
    generalize r.take (-1)=t at hlen ⊢
    refine sh ?_
    refine mw 100 (fun i:Nat=>i<=t.1.length) (fun i=>⟨[(5,.int .u64 (le (t.1.take i))),(16,.aH 1 (aq t.1)),(17,.int .i64 t.1.length),(18,.int .i64 i)],mD R t.2,1⟩) (fun i=>t.1.length - i) (0) ?_ ?_
    ·exact Nat.zero_le _
    ·intro i hi
     dsimp only
     refine sh ?_
     refine cS (fun h5=> ?_) (fun h5=> ?_)
     ·obtain⟨x,hx⟩:∃u_,t.1[i]? =some u_:=⟨_,List.getElem?_eq_getElem (by first|omega|(simp<;>omega))⟩
      refine sh ?_
      refine bj hx ?_
      refine st ?_
      intro _u; clear _u
      refine qb (k:= .u64) (by have:=x.toNat_lt; simp only[ed]; omega) ?_
      refine sh ?_
      have hil:(t.1.take i).length=i:=by simp; omega
      have hle:=tJ (t.1.take i)
      rw[hil]at hle
      rw[rY hle x.toNat_lt (by omega)]
      refine nX (i+1) ?_ ?_ ⟨_,hp,rfl⟩ ?_ ?_
      ·omega
      ·omega
      ·all_goals repeat' (first|exact True.intro|refine And.intro ?_ ?_|(intro _u; clear _u)|(with_reducible first|exact aU.fg|refine eM ?_ ?_|refine eF ?_ ?_ ?_|refine eN ?_|refine eL ?_ ?_ ?_|refine eA ?_ ?_|refine bp.mk ⟨_,hp,rfl⟩ ?_ ?_)|refine bp.mk ⟨_,hp,rfl⟩ ?_ ?_)
       all_goals try first|with_reducible rfl|omega|exact .inl (by decide)|(simp; done)|rfl
       rw[aR hx,pf,hil]
      ·all_goals repeat' (first|exact True.intro|refine And.intro ?_ ?_|(intro _u; clear _u)|(with_reducible first|exact aU.fg|refine eM ?_ ?_|refine eF ?_ ?_ ?_|refine eN ?_|refine eL ?_ ?_ ?_|refine eA ?_ ?_|refine bp.mk ⟨_,hp,rfl⟩ ?_ ?_)|refine bp.mk ⟨_,hp,rfl⟩ ?_ ?_)
       all_goals try first|with_reducible rfl|omega|exact .inl (by decide)|(simp; done)|rfl
     ·have VV:t.1.take i=t.1:=List.take_of_length_le (by omega)
      rw[VV]
      refine sh ?_
      exact rM [0]
   ·rw[e2 (by omega)]
    refine sh ?_
    refine cM false [0] (ou h.n59 r w) ?_
    repeat (intro _; first|refine eK ?_|refine eP ?_)
    have hlen:=take_len r w h2
    generalize r.take w=t at hlen ⊢
    refine sh ?_
    refine mw 100 (fun i:Nat=>i<=t.1.length) (fun i=>⟨[(5,.int .u64 (le (t.1.take i))),(16,.aH 1 (aq t.1)),(17,.int .i64 t.1.length),(18,.int .i64 i)],mD R t.2,1⟩) (fun i=>t.1.length - i) (0) ?_ ?_
    ·exact Nat.zero_le _
    ·intro i hi
     dsimp only
     refine sh ?_
     refine cS (fun h5=> ?_) (fun h5=> ?_)
     ·obtain⟨x,hx⟩:∃u_,t.1[i]? =some u_:=⟨_,List.getElem?_eq_getElem (by first|omega|(simp<;>omega))⟩
      refine sh ?_
      refine bj hx ?_
      refine st ?_
      intro _u; clear _u
      refine qb (k:= .u64) (by have:=x.toNat_lt; simp only[ed]; omega) ?_
      refine sh ?_
      have hil:(t.1.take i).length=i:=by simp; omega
      have hle:=tJ (t.1.take i)
      rw[hil]at hle
      rw[rY hle x.toNat_lt (by omega)]
      refine nX (i+1) ?_ ?_ ⟨_,hp,rfl⟩ ?_ ?_
      ·omega
      ·omega
      ·all_goals repeat' (first|exact True.intro|refine And.intro ?_ ?_|(intro _u; clear _u)|(with_reducible first|exact aU.fg|refine eM ?_ ?_|refine eF ?_ ?_ ?_|refine eN ?_|refine eL ?_ ?_ ?_|refine eA ?_ ?_|refine bp.mk ⟨_,hp,rfl⟩ ?_ ?_)|refine bp.mk ⟨_,hp,rfl⟩ ?_ ?_)
       all_goals try first|with_reducible rfl|omega|exact .inl (by decide)|(simp; done)|rfl
       rw[aR hx,pf,hil]
      ·all_goals repeat' (first|exact True.intro|refine And.intro ?_ ?_|(intro _u; clear _u)|(with_reducible first|exact aU.fg|refine eM ?_ ?_|refine eF ?_ ?_ ?_|refine eN ?_|refine eL ?_ ?_ ?_|refine eA ?_ ?_|refine bp.mk ⟨_,hp,rfl⟩ ?_ ?_)|refine bp.mk ⟨_,hp,rfl⟩ ?_ ?_)
       all_goals try first|with_reducible rfl|omega|exact .inl (by decide)|(simp; done)|rfl
     ·have VV:t.1.take i=t.1:=List.take_of_length_le (by omega)
      rw[VV]
      refine sh ?_
      exact rM [0]
def sx(w:Int)(n:Nat):Int:=if 2*n<256 ^ w.toNat then n else n - 256 ^ w.toNat
def Rd.int(r:Rd)(w:Int):Int × Rd:=(if w<1\/ 8<w then 0 else sx w (r.num w).1,(r.num w).2)
theorem bP(r:Rd){w:Int}(h1:1<=w)(h2:w<=8):(r.num w).1<256 ^ w.toNat:=by
 unfold Rd.num
 rw[if_neg (by omega)]
 have h3:=tJ (r.take w).1
 have h4:(r.take w).1.length<=w.toNat:=by
  unfold Rd.take
  split
  ·simp
  ·split
   ·simp
   ·split
    ·simp
    ·simp only[List.length_take]
     omega
 exact Nat.lt_of_lt_of_le h3 (Nat.pow_le_pow_right (by decide) h4)
theorem PE{w:Int}{n:Nat}(h1:1<=w)(h2:w<=8)(hn:n<256 ^ w.toNat):bA .i64 (jZ .i64 (wr .i64 n) (64 - 8*w)) (64 - 8*w)=sx w n:=by
 unfold sx
 obtain h|h|h|h|h|h|h|h:w=1\/ w=2\/ w=3\/ w=4\/ w=5\/ w=6\/ w=7\/ w=8:=by omega
 all_goals subst h
 all_goals (simp only[wr,bA,jZ,IntKind.wrap,IntKind.bits,IntKind.signed]; simp[Int.fdiv_eq_ediv]at hn ⊢; split<;>omega)
theorem wg{R:Env}(h:XZ R)(r:Rd)(w:Int):R.Mc 76 [.loc 0 1 0 0,.int .i64 w] (mD R r) (.int .i64 (r.int w).1) (mD R (r.int w).2) 1:=
 h.o76.aL 100 1 rfl rfl rfl fun X bb hfit hp=>by
  refine sh ?_
  refine cM false [0] (ly h.n57 r w) ?_
  repeat (intro _; first|refine eK ?_|refine eP ?_)
  unfold Rd.int
  refine sh ?_
  refine cS (fun h1=> ?_) (fun h1=> ?_)
  ·rw[if_pos (.inl h1)]
   refine sh ?_
   exact rM [0]
  ·refine sh ?_
   refine cS (fun h2=> ?_) (fun h2=> ?_)
   ·rw[if_pos (.inr h2)]
    refine sh ?_
    exact rM [0]
   ·rw[if_neg (by omega)]
    refine sh ?_
    refine ai ?_
    refine sh ?_
    refine rM [0] ?_
    all_goals repeat' (first|exact True.intro|refine And.intro ?_ ?_|(intro _u; clear _u)|(with_reducible first|exact aU.fg|refine eM ?_ ?_|refine eF ?_ ?_ ?_|refine eN ?_|refine eL ?_ ?_ ?_|refine eA ?_ ?_|refine bp.mk ⟨_,hp,rfl⟩ ?_ ?_)|refine bp.mk ⟨_,hp,rfl⟩ ?_ ?_)
    all_goals try first|with_reducible rfl|omega|exact .inl (by decide)|(simp; done)|rfl
    exact PE h1 h2 (bP r h1 h2)
def Rd.err(r:Rd):Int:=if r.made=false then 1 else r.e
theorem LS{R:Env}(h:XY R)(r:Rd):R.Mc 65 [.loc 0 1 0 0] (mD R r) (.int .i64 r.err) (mD R r) 1:=
 h.o65.aL 60 1 rfl rfl rfl fun X bb hfit hp=>by
  refine sh ?_
  refine cM false [0] (Bo h.JR r) ?_
  repeat (intro _; first|refine eK ?_|refine eP ?_)
  unfold Rd.err
  cases hm:r.made with
  |false=>
   refine sh ?_
   exact rM [0]
  |true=>
   refine sh ?_
   exact rM [0]
def Rd.fin(r:Rd):Int:=if r.err≠0 then r.err else if 0<r.l.length then 5 else 0
theorem lz{R:Env}(h:QR R)(r:Rd):R.Mc 60 [.loc 0 1 0 0] (mD R r) (.int .i64 r.fin) (mD R r) 1:=
 h.o60.aL 60 1 rfl rfl rfl fun X bb hfit hp=>by
  refine sh ?_
  refine cM false [0] (LS h.QS r) ?_
  repeat (intro _; first|refine eK ?_|refine eP ?_)
  unfold Rd.fin
  refine sh ?_
  refine cS (fun h1=> ?_) (fun h1=> ?_)
  ·rw[if_pos (by simpa using h1)]
   refine sh ?_
   exact rM [0]
  ·rw[if_neg (by simpa using h1)]
   refine sh ?_
   refine cS (fun h2=> ?_) (fun h2=> ?_)
   ·rw[if_pos (by simpa using h2)]
    refine sh ?_
    exact rM [0]
   ·rw[if_neg (by simpa using h2)]
    refine sh ?_
    exact rM [0]
end Go.UM
namespace Go.UM
open Go.AM
set_option maxRecDepth 4000
theorem Ki(n:Nat):(1:Int)<=256 ^ n:=Int.pow_pos (by decide)
structure fC(B:List UInt8)(r:Rd):Prop where
 m:B.length<=1073741824
 s:r.l=B.drop (B.length - r.l.length)
 made:r.made=true
theorem fC.len{B:List UInt8}{r:Rd}(h:fC B r):r.l.length<=B.length:=by rw[h.s]; simp
theorem fC.take{B:List UInt8}{r:Rd}(h:fC B r)(n:Int):fC B (r.take n).2:=by
 unfold Rd.take
 split
 ·exact h
 ·split
  ·exact⟨h.m,h.s,h.made⟩
  ·split
   ·exact⟨h.m,h.s,h.made⟩
   ·refine⟨h.m,?_,h.made⟩
    have h1:=h.s
    have h2:=h.len
    simp only[List.length_drop]
    conv=>lhs; rw[h1]
    rw[List.drop_drop]
    congr 1
    omega
theorem fC.num{B:List UInt8}{r:Rd}(h:fC B r)(w:Int):fC B (r.num w).2:=h.take _
theorem fC.int{B:List UInt8}{r:Rd}(h:fC B r)(w:Int):fC B (r.int w).2:=h.num w
theorem fC.err{B:List UInt8}{r:Rd}(h:fC B r)(e:Int):fC B {r with e:=e}:=⟨h.m,h.s,h.made⟩
theorem fC.new{B:List UInt8}(h:B.length<=1073741824):fC B ⟨B,0,true⟩:=⟨h,by simp,rfl⟩
end Go.UM
namespace Go.UM
open Go.AM
set_option maxRecDepth 4000
theorem PF(v:Int):((u8 v).toNat:Int)=v % 256:=by
 rw[<-lx]
 simp only[wr,IntKind.wrap,IntKind.bits,IntKind.signed]
 simp
theorem D6{x P:Int}(hP:0<P):x % P+P* (x / P % 256)=x % (P*256):=by
 have h1:P* (x / P)+x % P=x:=Int.mul_ediv_add_emod x P
 have h2:256* (x / P / 256)+x / P % 256=x / P:=Int.mul_ediv_add_emod (x / P) 256
 have h3:=Int.emod_nonneg x (Int.ne_of_gt hP)
 have h4:=Int.emod_lt_of_pos x hP
 have h5:0<=x / P % 256:=Int.emod_nonneg _ (by decide)
 have h6:x / P % 256<256:=Int.emod_lt_of_pos _ (by decide)
 have e:x=(x % P+P* (x / P % 256))+ (P*256)* (x / P / 256):=by
  have:P* (256* (x / P / 256)+x / P % 256)+x % P=x:=by rw[h2]; exact h1
  rw[Int.mul_add,<-Int.mul_assoc]at this
  omega
 have hb:0<=P* (x / P % 256):=Int.mul_nonneg (Int.le_of_lt hP) h5
 have hc:P* (x / P % 256)<=P*255:=Int.mul_le_mul_of_nonneg_left (by omega) (Int.le_of_lt hP)
 rw[show x % (P*256)=((x % P+P* (x / P % 256))+ (P*256)* (x / P / 256)) % (P*256)from congrArg (· % (P*256)) e,Int.add_mul_emod_self_left]
 exact (Int.emod_eq_of_lt (a:=x % P+P* (x / P % 256)) (by omega) (by omega)).symm
theorem Hf(x:Int):∀w:Nat,((le (enc w x):Nat):Int)=x % 256 ^ w
 |0=>by simp[le,Int.emod_one]
 |w+1=>by
  have hp:(0:Int)<256 ^ w:=by have:=Ki w; omega
  rw[tL,pf,Bn,Int.natCast_add,Int.natCast_mul,Hf x w,PF,Int.natCast_pow,Int.pow_succ]
  exact D6 hp
theorem jH{w x:Int}{rest:List UInt8}(h1:1<=w)(h2:w<=8)(hx:0<=x/\x<256 ^ w.toNat):(⟨enc w.toNat x++rest,0,true⟩:Rd).num w=(x.toNat,⟨rest,0,true⟩):=by
 unfold Rd.num
 rw[if_neg (by omega)]
 unfold Rd.take
 rw[if_neg (by simp),if_neg (by omega),if_neg (by simp; omega)]
 have e1:(enc w.toNat x++rest).take w.toNat=enc w.toNat x:=List.take_left' (by simp)
 have e2:(enc w.toNat x++rest).drop w.toNat=rest:=List.drop_left' (by simp)
 simp only[e1,e2]
 have h3:=Hf x w.toNat
 rw[Int.emod_eq_of_lt hx.1 hx.2]at h3
 congr 1
 omega
theorem Bp{r:Rd}{w:Int}(hm:r.made=true)(he:r.e=0)(h1:1<=w)(h2:w<=8):(r.num w).2.made=true/\((w<=r.l.length/\(r.num w).2.e=0/\((r.num w).2.l.length:Int)=r.l.length - w)\/(r.l.length<w/\(r.num w).2.e=4)):=by
 unfold Rd.num
 rw[if_neg (by omega)]
 unfold Rd.take
 rw[if_neg (by simp[hm,he]),if_neg (by omega)]
 by_cases h:(r.l.length:Int)<w
 ·rw[if_pos h]
  exact⟨hm,.inr ⟨h,rfl⟩⟩
 ·rw[if_neg h]
  refine⟨hm,.inl ⟨by omega,he,?_⟩⟩
  simp; omega
theorem r6{b:List UInt8}{w:Int}{n:List Int}(h1:1<=w)(h2:w<=8)(h:∀x ∈ n,0<=x/\x<256 ^ w.toNat):gW b w n=(b++n.flatMap (enc w.toNat),0):=
 r5 h1 h2 (by
  rw[List.any_eq_false]
  intro x hx
  have:=h x hx
  simp; omega)
theorem mE{r:Rd}{w:Int}(h1:1<=w)(h2:w<=8):r.num w=(le (r.take w).1,(r.take w).2):=by
 unfold Rd.num; rw[if_neg (by omega)]
theorem PG{l:List UInt8}{w:Int}(h1:1<=w)(h2:w<=8)(hl:w<=l.length):(⟨l,0,true⟩:Rd).num w=(le (l.take w.toNat),⟨l.drop w.toNat,0,true⟩):=by
 rw[mE h1 h2]
 unfold Rd.take
 rw[if_neg (by simp),if_neg (by omega),if_neg (by simpa using hl)]
theorem VW(c:UInt8)(l:List UInt8):(⟨c::l,0,true⟩:Rd).num 1=(c.toNat,⟨l,0,true⟩):=by
 rw[PG (by omega) (by omega) (by simp; omega)]
 simp[le]
theorem Hg(w:Nat)(c:UInt8)(L:Nat):enc (w+1) ((c.toNat+256*L:Nat):Int)=c::enc w L:=by
 unfold enc
 rw[List.range_succ_eq_map,List.map_cons,List.map_map]
 congr 1
 ·have hc:=c.toNat_lt
  have:((c.toNat+256*L:Nat):Int) / 256 ^ 0=((c.toNat+256*L:Nat):Int):=by simp
  rw[this,<-PA,show ((c.toNat+256*L:Nat):Int) % 256=c.toNat by omega,yY]
 ·apply List.map_congr_left
  intro i _
  simp only[Function.comp_def,Nat.succ_eq_add_one]
  rw[Int.pow_succ',<-Int.ediv_ediv_of_nonneg (show (0:Int)<=256 by decide),show ((c.toNat+256*L:Nat):Int) / 256=L by have:=c.toNat_lt; omega]
theorem Hh:∀(l:List UInt8),enc l.length (le l)=l
 |[]=>rfl
 |c::l=>by
  have:le (c::l)=c.toNat+256*le l:=rfl
  rw[this,List.length_cons,Hg,Hh l]
theorem Kj{p:List UInt8}{w:Nat}(hp:p.length=w):enc w (le p)=p:=by rw[<-hp]; exact Hh p
structure Fits{α:Type}(f:Rd->α × Rd)(g:α->List UInt8)(ok:α->Prop):Prop where
 made:∀r:Rd,r.made=true->(f r).2.made=true
 nB:∀r:Rd,ok (f r).1
 back:∀r:Rd,r.made=true->(f r).2.e=0->r.e=0/\r.l=g (f r).1++(f r).2.l
 there:∀(x:α)(l:List UInt8),ok x->f ⟨g x++l,0,true⟩=(x,⟨l,0,true⟩)
theorem jo{w:Int}(h1:1<=w)(h2:w<=8):Fits (fun r=>r.num w) (fun x:Nat=>enc w.toNat x) (fun x=>x<256 ^ w.toNat):=by
 refine⟨fun r hm=> ?_,fun r=>bP r h1 h2,fun r hm he=> ?_,fun x l hx=> ?_⟩
 ·rw[mE h1 h2]
  unfold Rd.take
  split
  ·exact hm
  ·split
   ·exact hm
   ·split<;>exact hm
 ·rw[mE h1 h2]at he ⊢
  unfold Rd.take at he ⊢
  split at he
  ·rename_i hh; rcases hh with hh|hh
   ·rw[hm]at hh; cases hh
   ·exact (hh he).elim
  ·rename_i hh
   split at he
   ·cases he
   ·split at he
    ·cases he
    ·rename_i h3 h4
     rw[if_neg hh,if_neg h3,if_neg h4]
     simp only[hm,not_or,Decidable.not_not]at hh
     refine⟨hh.2,?_⟩
     dsimp only
     rw[Kj (by simp; omega),List.take_append_drop]
 ·have e:((256 ^ w.toNat:Nat):Int)=256 ^ w.toNat:=by rw[Int.natCast_pow]; rfl
  have:=jH (w:=w) (x:=(x:Int)) (rest:=l) h1 h2 ⟨by omega,by rw[<-e]; exact Int.ofNat_lt.2 hx⟩
  simpa using this
def gw{α:Type}(f:Rd->α × Rd):Nat->Rd->List α × Rd
 |0,r=>([],r)
 |n+1,r=>((gw f n r).1++ [(f (gw f n r).2).1],(f (gw f n r).2).2)
theorem pm{α:Type}(f:Rd->α × Rd)(n:Nat)(r:Rd):(gw f n r).1.length=n:=by
 induction n with
 |zero=>rfl
 |succ n ih=>simp[gw,ih]
theorem Hi{α:Type}(f:Rd->α × Rd)(n:Nat)(r:Rd):gw f (n+1) r=((f r).1::(gw f n (f r).2).1,(gw f n (f r).2).2):=by
 induction n with
 |zero=>rfl
 |succ n ih=>
  have e:gw f (n+1+1) r=((gw f (n+1) r).1++ [(f (gw f (n+1) r).2).1],(f (gw f (n+1) r).2).2):=rfl
  rw[e,ih]
  rfl
theorem tN{α:Type}{f:Rd->α × Rd}{g:α->List UInt8}{ok:α->Prop}(h:Fits f g ok)(n:Nat):
  Fits (gw f n) (fun l=>l.flatMap g) (fun l=>l.length=n/\∀x ∈ l,ok x):=by
 induction n with
 |zero=>
  refine⟨fun r hm=>hm,fun r=>⟨rfl,fun x hx=>by simp[gw]at hx⟩,fun r hm he=>⟨he,by simp[gw]⟩,fun l b hl=> ?_⟩
  have:l=[]:=List.eq_nil_of_length_eq_zero hl.1
  subst this
  rfl
 |succ n ih=>
  refine⟨fun r hm=>h.made _ (ih.made r hm),fun r=>⟨pm f _ r,fun x hx=> ?_⟩,fun r hm he=> ?_,fun l b hl=> ?_⟩
  ·rw[gw]at hx
   simp only[List.mem_append,List.mem_singleton]at hx
   rcases hx with hx|hx
   ·exact (ih.nB r).2 x hx
   ·rw[hx]; exact h.nB _
  ·have h1:=h.back _ (ih.made r hm) he
   have h2:=ih.back r hm h1.1
   refine⟨h2.1,?_⟩
   rw[h2.2,h1.2]
   simp[gw]
  ·match l,hl with
   |[],hl=>simp at hl
   |x::l,hl=>
    rw[Hi]
    have:=h.there x (l.flatMap g++b) (hl.2 x (by simp))
    rw[List.flatMap_cons,List.append_assoc,this]
    dsimp only
    rw[ih.there l b ⟨by simpa using hl.1,fun y hy=>hl.2 y (by simp[hy])⟩]
theorem Fits.seq{α β:Type}{f:Rd->α × Rd}{g:α->List UInt8}{ok:α->Prop}{f':Rd->β × Rd}{g':β->List UInt8}{Jc:β->Prop}(h:Fits f g ok)(h':Fits f' g' Jc):
  Fits (fun r=>(((f r).1,(f' (f r).2).1),(f' (f r).2).2)) (fun x:α × β=>g x.1++g' x.2) (fun x=>ok x.1/\Jc x.2):=by
 refine⟨fun r hm=>h'.made _ (h.made r hm),fun r=>⟨h.nB r,h'.nB _⟩,fun r hm he=> ?_,fun x l hx=> ?_⟩
 ·have h1:=h'.back _ (h.made r hm) he
  have h2:=h.back r hm h1.1
  exact⟨h2.1,by rw[h2.2,h1.2,List.append_assoc]⟩
 ·rw[List.append_assoc,h.there x.1 _ hx.1]
  rw[h'.there x.2 l hx.2]
theorem Fits.as{α β:Type}{f:Rd->α × Rd}{g:α->List UInt8}{ok:α->Prop}(h:Fits f g ok)(to:α->β)(of:β->α)(g':β->List UInt8)(Jc:β->Prop)
  (h1:∀x,ok x->g' (to x)=g x) (h2:∀x,ok x->Jc (to x)) (h3:∀y,Jc y->g' y=g (of y)/\ok (of y)/\to (of y)=y):Fits (fun r=>(to (f r).1,(f r).2)) g' Jc:=by
 refine⟨h.made,fun r=>h2 _ (h.nB r),fun r hm he=> ?_,fun y l hy=> ?_⟩
 ·have:=h.back r hm he
  exact⟨this.1,by rw[this.2,h1 _ (h.nB r)]⟩
 ·have h4:=h3 y hy
  rw[h4.1,h.there _ _ h4.2.1,h4.2.2]
theorem Hj{w:Int}(h1:1<=w)(h2:w<=7):Fits (fun r=>r.int w) (fun x:Int=>enc w.toNat (x % 256 ^ w.toNat)) (fun x=> -(256 ^ w.toNat / 2)<=x/\x<256 ^ w.toNat / 2):=by
 have e:(fun r:Rd=>r.int w)=fun r=>(sx w (r.num w).1,(r.num w).2):=by
  funext r
  unfold Rd.int
  rw[if_neg (by omega)]
 rw[e]
 have e2:((256 ^ w.toNat:Nat):Int)=256 ^ w.toNat:=by rw[Int.natCast_pow]; rfl
 have pG:(256 ^ w.toNat:Int)=2* (256 ^ w.toNat / 2)/\(128:Int)<=256 ^ w.toNat / 2:=by
  obtain h|h|h|h|h|h|h:w=1\/ w=2\/ w=3\/ w=4\/ w=5\/ w=6\/ w=7:=by omega
  all_goals (subst h; decide)
 refine (jo h1 (by omega)).as (sx w) (fun x=>(x % 256 ^ w.toNat).toNat) _ _ (fun x hx=> ?_) (fun x hx=> ?_) (fun y hy=> ?_)
 ·unfold sx
  rw[<-e2]at pG ⊢
  generalize 256 ^ w.toNat=P at hx pG ⊢
  split
  ·rw[Int.emod_eq_of_lt (by omega) (by omega)]
  ·rw[Int.sub_emod_right,Int.emod_eq_of_lt (by omega) (by omega)]
 ·unfold sx
  rw[<-e2]at pG ⊢
  generalize 256 ^ w.toNat=P at hx pG ⊢
  split<;>omega
 ·unfold sx
  rw[<-e2]at pG hy ⊢
  generalize 256 ^ w.toNat=P at pG hy ⊢
  have h3:=Int.emod_nonneg y (show (P:Int)≠0 by omega)
  have h4:=Int.emod_lt_of_pos y (show (0:Int)<P by omega)
  refine⟨by rw[Int.toNat_of_nonneg h3],by omega,?_⟩
  by_cases hn:0<=y
  ·rw[Int.emod_eq_of_lt hn (by omega),if_pos (by omega)]
   omega
  ·have:y % P=y+P:=by rw[<-Int.add_emod_right,Int.emod_eq_of_lt (by omega) (by omega)]
   rw[this,if_neg (by omega)]
   omega
end Go.UM
namespace Go.UM
open Go.AM
set_option maxRecDepth 4000
theorem PH(b:List T3)(m:Int):(bn b).take (min (b.length:Int) m).toNat=bn (b.take m.toNat):=by rw[wb,tI]
theorem aa3(b:List (Int × Int))(m:Int):(dA b).take (min (b.length:Int) m).toNat=dA (b.take m.toNat):=by rw[we,tI]
structure Ms.Ok(m:Ms):Prop where
 v:∀p ∈ m.v,ed .i64 p.a/\ed .i64 p.b/\ed .i64 p.c
 uv:∀p ∈ m.uv,ed .i64 p.1/\ed .i64 p.2
 t:∀p ∈ m.t,ed .i64 p.a/\ed .i64 p.b/\ed .i64 p.c
structure Ms.IB(m:Ms):Prop where
 v:1<=m.v.length/\m.v.length<=64
 t:1<=m.t.length/\m.t.length<=64
 uv:m.uv.length=m.v.length
 pv:∀p ∈ m.v,-4096<=p.a/\p.a<=4096/\ -4096<=p.b/\p.b<=4096/\ -4096<=p.c/\p.c<=4096
 pu:∀x ∈ m.uv,0<=x.1/\x.1<=65535/\0<=x.2/\x.2<=65535
 pt:∀t ∈ m.t,0<=t.a/\t.a<m.v.length/\0<=t.b/\t.b<m.v.length/\0<=t.c/\t.c<m.v.length/\t.a≠t.b/\t.b≠t.c/\t.c≠t.a
theorem tO{m:Ms}(h:iM m=0):m.IB:=by
 unfold iM at h
 split at h
 ·cases h
 ·split at h
  ·cases h
  ·split at h
   ·cases h
   ·split at h
    ·cases h
    ·rename_i h1 h2 h3 h4
     simp only[not_or,Bool.not_eq_true,List.any_eq_false]at h3 h4
     refine⟨by omega,by omega,by omega,fun p hp=> ?_,fun p hp=> ?_,fun p hp=> ?_⟩
     ·have:=h3 p hp; simpa[pg]using this
     ·have:=h4.1 p hp; simpa[DX]using this
     ·have:=h4.2 p hp; simpa[DY]using this
theorem Ms.IB.ej{m:Ms}(h:m.IB):iM m=0:=by
 unfold iM
 have h1:=h.v
 have h2:=h.t
 have h3:=h.uv
 rw[if_neg (by omega),if_neg (by omega),if_neg,if_neg]
 ·simp only[not_or,Bool.not_eq_true,List.any_eq_false]
  exact⟨fun p hp=>by have:=h.pu p hp; simpa[DX]using this,fun p hp=>by have:=h.pt p hp; simpa[DY]using this⟩
 ·simp only[Bool.not_eq_true,List.any_eq_false]
  exact fun p hp=>by have:=h.pv p hp; simpa[pg]using this
def Ms.nC(m:Ms):Ms:=⟨m.v.take 70,m.uv.take 70,m.t.take 70⟩
theorem Kk{R:Env}(h:Pu R)(m:Ms):R.Pc 191 [.agg m.row] (.agg m.nC.row):=
 h.Vv.enter 100 rfl fun X bb hfit hp=>by
  refine sh ?_
  refine br (by exact PH _ _) ?_
  refine sh ?_
  refine br (by exact aa3 _ _) ?_
  refine sh ?_
  refine br (by exact PH _ _) ?_
  refine sh ?_
  exact rT
def iB(p:T3):List UInt8:=enc 2 (p.a % 65536)++enc 2 (p.b % 65536)++enc 2 (p.c % 65536)
def nE(x:Int × Int):List UInt8:=enc 2 x.1++enc 2 x.2
def po(t:T3):List UInt8:=[u8 t.a,u8 t.b,u8 t.c]
def tP(m:Ms):List UInt8:=[u8 m.v.length,u8 m.t.length]++m.v.flatMap iB++m.uv.flatMap nE++m.t.flatMap po
def Bq(m:Ms):List UInt8 × Int:=if iM m≠0 then ([],iM m)else (tP m,0)
theorem dR{α:Type}{l:List α}{k:Nat}{x:α}{f:α->List UInt8}(h:l[k]? =some x):(l.take (k+1)).flatMap f=(l.take k).flatMap f++f x:=by
 rw[aR h]; simp
theorem zi{b:List UInt8}{p:T3}(h: -4096<=p.a/\p.a<=4096/\ -4096<=p.b/\p.b<=4096/\ -4096<=p.c/\p.c<=4096):im b 2 [p.a,p.b,p.c]=(b++iB p,0):=by
 rw[zg (by decide) (by decide),r5 (by decide) (by decide)]
 ·simp[iB]
 ·simp; omega
 ·simp; omega
theorem Kl{b:List UInt8}{x:Int × Int}(h:0<=x.1/\x.1<=65535/\0<=x.2/\x.2<=65535):gW b 2 [x.1,x.2]=(b++nE x,0):=by
 rw[r5 (by decide) (by decide)]
 ·simp[nE]
 ·simp; omega
theorem Hk{l:List T3}:(l.flatMap iB).length=6*l.length:=by
 induction l with
 |nil=>rfl
 |cons x r ih=>simp[iB]at ih ⊢; omega
theorem LU{l:List (Int × Int)}:(l.flatMap nE).length=4*l.length:=by
 induction l with
 |nil=>rfl
 |cons x r ih=>simp[nE]at ih ⊢; omega
theorem VX{l:List T3}:(l.flatMap po).length=3*l.length:=by
 induction l with
 |nil=>rfl
 |cons x r ih=>simp[po]at ih ⊢; omega
theorem D7{R:Env}(h:Oh R)(m:Ms):R.Pc 196 [.agg m.row] (.aG [.aH 1 (aq (Bq m).1),.int .i64 (Bq m).2]):=
 h.Ua.enter 100 rfl fun X bb hfit hp=>by
  refine sh ?_
  refine aj.pure h.n193.uX.hb (tK h.n193 m) rfl ?_
  generalize hq:Bq m=q
  refine sh ?_
  refine cS (fun h1=> ?_) (fun h1=> ?_)
  ·rw[Bq,if_pos h1]at hq
   subst hq
   refine sh ?_
   exact rT
  ·rw[Bq,if_neg (by simpa using h1)]at hq
   subst hq
   have may:=tO h1
   have mv:=may.v
   have mt:=may.t
   have mu:=may.uv
   have w8:((u8 m.v.length).toNat:Int)=m.v.length:=u8_in (by omega)
   have t8:((u8 m.t.length).toNat:Int)=m.t.length:=u8_in (by omega)
   refine sh ?_
   refine az.inv 100 (fun i:Nat=>i<=m.v.length) (fun i=>⟨[(1,.loc 0 1 0 0),(5,.bi 1 ([u8 m.v.length,u8 m.t.length]++(m.v.take i).flatMap iB).length),(27,.aH 3 (bn m.v)),(28,.int .i64 m.v.length),(29,.int .i64 i)],[(1,.arr (R.ty 4) 1 (aq ([u8 m.v.length,u8 m.t.length]++(m.v.take i).flatMap iB))),(0,.var (R.ty 25) m.row)],2⟩) (fun i=>m.v.length - i) (0) ?_ ⟨⟨_,hp,rfl⟩,?_,?_⟩ ?_
   ·exact Nat.zero_le _
   ·exact SF
   ·refine fL ?_
    simp[aq,w8,t8]
   ·intro i hi
    dsimp only
    refine sh ?_
    refine cS (fun h2=> ?_) (fun h2=> ?_)
    ·obtain⟨y,hy⟩:∃u_,m.v[i]? =some u_:=⟨_,List.getElem?_eq_getElem (by first|omega|(simp<;>omega))⟩
     refine sh ?_
     refine bj hy ?_
     have Im:=may.pv y (List.mem_of_getElem? hy)
     have c1:=tM h.JS ([u8 m.v.length,u8 m.t.length]++(m.v.take i).flatMap iB) 2 [y.a,y.b,y.c] (by simp only[List.length_append,Hk,List.length_take,List.length_cons,List.length_nil]; omega) (by simp[ed]; omega)
     rw[zi Im]at c1
     refine sh ?_
     refine cM true [] (c1) ?_
     repeat (intro _; first|refine eK ?_|refine eP ?_)
     refine sh ?_
     refine XS [0,4] (i+1) ?_ ?_ ?_
     ·omega
     ·omega
     ·refine XT ?_ ?_
      rw[dR hy]; simp
      rw[dR hy]; simp
    ·rw[show m.v.take i=m.v from List.take_of_length_le (by omega)]
     have hB:([u8 m.v.length,u8 m.t.length]++m.v.flatMap iB).length<=400:=by
      simp only[List.length_append,Hk,List.length_cons,List.length_nil]; omega
     have e:tP m=[u8 m.v.length,u8 m.t.length]++m.v.flatMap iB++m.uv.flatMap nE++m.t.flatMap po:=rfl
     rw[e]
     generalize [u8 m.v.length,u8 m.t.length]++m.v.flatMap iB=B at hB ⊢
     refine sh ?_
     refine mw 100 (fun i:Nat=>i<=m.uv.length) (fun i=>⟨[(1,.loc 0 1 0 0),(5,.bi 1 (B++(m.uv.take i).flatMap nE).length),(47,.aH 2 (dA m.uv)),(48,.int .i64 m.uv.length),(49,.int .i64 i)],[(1,.arr (R.ty 4) 1 (aq (B++(m.uv.take i).flatMap nE))),(0,.var (R.ty 25) m.row)],2⟩) (fun i=>m.uv.length - i) (0) ?_ ?_
     ·exact Nat.zero_le _
     ·intro i hi
      dsimp only
      refine sh ?_
      refine cS (fun h3=> ?_) (fun h3=> ?_)
      ·obtain⟨x,hx⟩:∃u_,m.uv[i]? =some u_:=⟨_,List.getElem?_eq_getElem (by first|omega|(simp<;>omega))⟩
       refine sh ?_
       refine bj hx ?_
       have bK:=may.pu x (List.mem_of_getElem? hx)
       have c1:=mC h.rC (B++(m.uv.take i).flatMap nE) 2 [x.1,x.2] (by simp only[List.length_append,LU,List.length_take,List.length_cons,List.length_nil]; omega) (by simp; omega)
       rw[Kl bK]at c1
       refine sh ?_
       refine cM true [] (c1) ?_
       repeat (intro _; first|refine eK ?_|refine eP ?_)
       refine sh ?_
       refine XS [0,4] (i+1) ?_ ?_ ?_
       ·omega
       ·omega
       ·refine XT ?_ ?_
        rw[dR hx]; simp
        rw[dR hx]; simp
      ·rw[show m.uv.take i=m.uv from List.take_of_length_le (by omega)]
       have hB2:(B++m.uv.flatMap nE).length<=800:=by
        simp only[List.length_append,LU]; omega
       generalize B++m.uv.flatMap nE=C at hB2 ⊢
       refine sh ?_
       refine mw 100 (fun i:Nat=>i<=m.t.length) (fun i=>⟨[(5,.bi 1 (C++(m.t.take i).flatMap po).length),(67,.aH 3 (bn m.t)),(68,.int .i64 m.t.length),(69,.int .i64 i)],[(1,.arr (R.ty 4) 1 (aq (C++(m.t.take i).flatMap po)))],2⟩) (fun i=>m.t.length - i) (0) ?_ ?_
       ·exact Nat.zero_le _
       ·intro i hi
        dsimp only
        refine sh ?_
        refine cS (fun h4=> ?_) (fun h4=> ?_)
        ·obtain⟨y,hy⟩:∃u_,m.t[i]? =some u_:=⟨_,List.getElem?_eq_getElem (by first|omega|(simp<;>omega))⟩
         refine sh ?_
         refine bj hy ?_
         have Im:=may.pt y (List.mem_of_getElem? hy)
         refine sh ?_
         refine nD ?_ (by simp only[cy,List.length_append,VX,List.length_take]; simp; omega)
         refine sh ?_
         refine nX (i+1) ?_ ?_ ⟨_,hp,rfl⟩ ?_ ?_
         ·omega
         ·omega
         ·refine fL ?_
          rw[dR hy]; simp[po]
         ·refine fL ?_
          rw[dR hy]; simp[po,aq]
          refine⟨(u8_in ?_).symm,(u8_in ?_).symm,(u8_in ?_).symm⟩<;>omega
        ·rw[show m.t.take i=m.t from List.take_of_length_le (by omega)]
         refine sh ?_
         exact rT
end Go.UM
namespace Go.UM
open Go.AM
set_option maxRecDepth 4000
end Go.UM
namespace Go.UM
open Go.AM
set_option maxRecDepth 4000
structure tQ where
 k:Int
 c:T3
 r:Int
def tQ.row(m:tQ):List AV:=[.int .i64 m.k,.int .i64 m.c.a,.int .i64 m.c.b,.int .i64 m.c.c,.int .i64 m.r]
structure rE where
 k:Int
 c:T3
 p:T3
 u:T3
 v:T3
def rE.row(l:rE):List AV:=[.int .i64 l.k,.int .i64 l.c.a,.int .i64 l.c.b,.int .i64 l.c.c,.int .i64 l.p.a,.int .i64 l.p.b,.int .i64 l.p.c,.int .i64 l.u.a,.int .i64 l.u.b,.int .i64 l.u.c,.int .i64 l.v.a,.int .i64 l.v.b,.int .i64 l.v.c]
def outs(n x:Int):Bool:=decide (x<0\/ n<x)
def zj(m:tQ):Int:=if m.k<0\/ 4<m.k\/ m.r<0\/ 65535<m.r\/ m.c.a<0\/ 65535<m.c.a\/ m.c.b<0\/ 65535<m.c.b\/ m.c.c<0\/ 65535<m.c.c then 5 else 0
def tR(R:Env)(n:Int):ah:=[(0,.var (R.ty 10) [.int .i64 n])]
theorem PI{R:Env}(h:Om R)(n x:Int):R.Mc 322 [.int .i64 x,.loc 0 1 0 0] (tR R n) (.bool (outs n x)) (tR R n) 1:=
 h.aaC.aL 60 1 rfl rfl rfl fun X bb hfit hp=>by
  unfold outs
  refine sh ?_
  refine cS (fun h1=> ?_) (fun h1=> ?_)
  ·refine sh ?_
   refine rM [0] ?_
   refine fL ?_
   simp; omega
  ·refine sh ?_
   refine rM [0] ?_
   refine fL ?_
   rw[Bool.eq_iff_iff]; simp only[decide_eq_true_eq]; omega
theorem Hl{R:Env}(h:NC R)(g:Nat)(l:List Int)(p:Int->Bool)(n:Int)(hc:∀x ∈ l,R.Mc g [.int .i64 x,.loc 0 1 0 0] (tR R n) (.bool (p x)) (tR R n) 1)(hl:l.length<=1073741824):
  R.Mc 324 [.aH 1 (de .i64 l),R.cl g [.loc 0 1 0 0]] (tR R n) (.int .i64 (ph l p)) (tR R n) 1:=
 h.aac.aL 100 1 rfl rfl rfl fun X bb hfit hp=>by
  refine sh ?_
  refine mw 100 (fun i:Nat=>i<=l.length/\(l.take i).any p=false) (fun i=>⟨[(0,.aH 1 (de .i64 l)),(1,R.cl g [.loc 0 1 0 0]),(7,.int .i64 l.length),(8,.int .i64 i)],tR R n,1⟩) (fun i=>l.length - i) (0) ?_ ?_
  ·exact⟨Nat.zero_le _,by simp⟩
  ·intro i hi
   dsimp only
   refine sh ?_
   refine cS (fun h1=> ?_) (fun h1=> ?_)
   ·obtain⟨x,hx⟩:∃u_,l[i]? =some u_:=⟨_,List.getElem?_eq_getElem (by first|omega|(simp<;>omega))⟩
    refine sh ?_
    refine bj hx ?_
    refine sh ?_
    refine cM false [0] (hc x (List.mem_of_getElem? hx)) ?_
    repeat (intro _; first|refine eK ?_|refine eP ?_)
    refine sh ?_
    refine cS (fun h2=> ?_) (fun h2=> ?_)
    ·refine sh ?_
     refine rM [0] ?_
     refine fL ?_
     unfold ph
     rw[if_pos (xn hx h2),pj hx h2 hi.2]
    ·refine sh ?_
     refine yP (i+1) ?_ ?_
     ·refine⟨by omega,?_⟩
      rw[gv hx,hi.2,h2]; rfl
     ·omega
   ·refine sh ?_
    refine rM [0] ?_
    refine fL ?_
    unfold ph
    have h3:=hi.2
    rw[List.take_of_length_le (by omega)]at h3
    rw[if_neg (by simp[h3])]
theorem D8{R:Env}(h:ND R)(g:Nat)(l:List Int)(p:Int->Bool)(n:Int)(hc:∀x ∈ l,R.Mc g [.int .i64 x,.loc 0 1 0 0] (tR R n) (.bool (p x)) (tR R n) 1)(hl:l.length<=1073741824):
  R.Mc 323 [.aH 1 (de .i64 l),R.cl g [.loc 0 1 0 0]] (tR R n) (.bool (l.any p)) (tR R n) 1:=
 h.aad.aL 100 1 rfl rfl rfl fun X bb hfit hp=>by
  refine sh ?_
  refine cM false [0] (Hl h.n324 g l p n hc hl) ?_
  repeat (intro _; first|refine eK ?_|refine eP ?_)
  refine sh ?_
  refine rM [0] ?_
  refine fL ?_
  exact r4
theorem nc{R:Env}(h:JT R)(n:Int)(l:List Int)(hl:l.length<=1073741824):R.Pc 307 [.int .i64 n,.aH 1 (de .i64 l)] (.bool (l.any (outs n))):=
 h.GW.enter 100 rfl fun X bb hfit hp=>by
  refine sh ?_
  refine cM false [0] (D8 h.n323 322 l (outs n) n (fun x _=>PI h.n322 n x) hl) ?_
  repeat (intro _; first|refine eK ?_|refine eP ?_)
  refine sh ?_
  exact rT
theorem PJ{R:Env}(h:On R)(m:tQ):R.Pc 290 [.agg m.row] (.int .i64 (zj m)):=
 h.Uj.enter 100 rfl fun X bb hfit hp=>by
  generalize hq:zj m=q
  refine sh ?_
  refine cM true [] ((nc h.n307 4 [m.k] (by simp)).mc h.n307.GW.hb) ?_
  repeat (intro _; first|refine eK ?_|refine eP ?_)
  refine sh ?_
  refine cS (fun h1=> ?_) (fun h1=> ?_)
  ·simp[outs]at h1
   rw[zj,if_pos (by omega)]at hq
   subst hq
   refine sh ?_
   exact rT
  ·refine sh ?_
   refine cM true [] ((nc h.n307 65535 [m.c.a,m.c.b,m.c.c,m.r] (by simp)).mc h.n307.GW.hb) ?_
   repeat (intro _; first|refine eK ?_|refine eP ?_)
   refine sh ?_
   refine cS (fun h2=> ?_) (fun h2=> ?_)
   ·simp[outs]at h2
    rw[zj,if_pos (by omega)]at hq
    subst hq
    refine sh ?_
    exact rT
   ·simp[outs]at h1 h2
    rw[zj,if_neg (by omega)]at hq
    subst hq
    refine sh ?_
    exact rT
def VY(p:T3):Bool:=p.a==0&&(p.b==0&&p.c==0)
def zk(l:rE):Int:=if l.k<0\/ 2<l.k\/ l.c.a<0\/ 1048576<l.c.a\/ l.c.b<0\/ 1048576<l.c.b\/ l.c.c<0\/ 1048576<l.c.c then 5
 else if pg l.p=true\/ pg l.u=true\/ pg l.v=true then 8
 else if l.k=2/\VY l.p=false\/ l.k≠1/\(VY l.u=false\/ VY l.v=false)then 5 else 0
theorem tT{R:Env}(h:Oo R)(p:T3):R.Pc 308 [.agg (t3 p)] (.bool (pg p)):=
 h.JU.enter 60 rfl fun X bb hfit hp=>by
  unfold pg
  refine sh ?_
  refine cS (fun h1=> ?_) (fun h1=> ?_)
  ·refine sh ?_
   refine rT ?_
   refine fL ?_
   simp; omega
  ·refine sh ?_
   refine rT ?_
   refine fL ?_
   rw[Bool.eq_iff_iff]; simp only[Bool.not_eq_true',decide_eq_true_eq,decide_eq_false_iff_not]; omega
theorem PK{R:Env}(h:Oq R)(l:rE):R.Pc 292 [.agg l.row] (.int .i64 (zk l)):=
 h.Um.enter 100 rfl fun X bb hfit hp=>by
  generalize hq:zk l=q
  refine sh ?_
  refine aj.let [0] rfl hp rfl ?_
  repeat ((intro _u; clear _u); first|refine eZ ?_|refine eZ ?_ (by simp; omega)|refine lD.drop ?_)
  refine sh ?_
  refine cM true [] ((nc h.n307 2 [l.k] (by simp)).mc h.n307.GW.hb) ?_
  repeat (intro _; first|refine eK ?_|refine eP ?_)
  refine sh ?_
  refine cS (fun h1=> ?_) (fun h1=> ?_)
  ·simp[outs]at h1
   rw[zk,if_pos (by omega)]at hq
   subst hq
   refine sh ?_
   exact rT
  ·refine sh ?_
   refine aj.pure h.n307.GW.hb (nc h.n307 1048576 [l.c.a,l.c.b,l.c.c] (by simp)) rfl ?_
   refine sh ?_
   refine cS (fun h2=> ?_) (fun h2=> ?_)
   ·simp[outs]at h2
    rw[zk,if_pos (by omega)]at hq
    subst hq
    refine sh ?_
    exact rT
   ·simp[outs]at h1 h2
    rw[zk,if_neg (by omega)]at hq
    refine sh ?_
    refine aj.pure h.n308.JU.hb (tT h.n308 l.p) rfl ?_
    refine sh ?_
    refine cS (fun h3=> ?_) (fun h3=> ?_)
    ·rw[if_pos (.inl h3)]at hq
     subst hq
     refine sh ?_
     exact rT
    ·refine sh ?_
     refine aj.pure h.n308.JU.hb (tT h.n308 l.u) rfl ?_
     refine sh ?_
     refine cS (fun h4=> ?_) (fun h4=> ?_)
     ·rw[if_pos (.inr (.inl h4))]at hq
      subst hq
      refine sh ?_
      exact rT
     ·refine sh ?_
      refine aj.pure h.n308.JU.hb (tT h.n308 l.v) rfl ?_
      refine sh ?_
      refine cS (fun h5=> ?_) (fun h5=> ?_)
      ·rw[if_pos (.inr (.inr h5))]at hq
       subst hq
       refine sh ?_
       exact rT
      ·rw[if_neg (by simp[h3,h4,h5])]at hq
       refine sh ?_
       refine cS (fun h6=> ?_) (fun h6=> ?_)
       ·refine sh ?_
        refine cS (fun h7=> ?_) (fun h7=> ?_)
        ·rw[if_pos (.inl ⟨h6,h7⟩)]at hq
         subst hq
         refine sh ?_
         exact rT
        ·refine sh ?_
         refine cS (fun h8=> ?_) (fun h8=> ?_)
         ·rw[if_pos (.inr ⟨by omega,.inl h8⟩)]at hq
          subst hq
          refine sh ?_
          exact rT
         ·refine sh ?_
          refine cS (fun h9=> ?_) (fun h9=> ?_)
          ·rw[if_pos (.inr ⟨by omega,.inr h9⟩)]at hq
           subst hq
           refine sh ?_
           exact rT
          ·rw[if_neg (by simp[VY,h7,h8,h9])]at hq
           subst hq
           refine sh ?_
           exact rT
       ·refine sh ?_
        refine cS (fun h7=> ?_) (fun h7=> ?_)
        ·refine sh ?_
         refine cS (fun h8=> ?_) (fun h8=> ?_)
         ·rw[if_pos (.inr ⟨by omega,.inl h8⟩)]at hq
          subst hq
          refine sh ?_
          exact rT
         ·refine sh ?_
          refine cS (fun h9=> ?_) (fun h9=> ?_)
          ·rw[if_pos (.inr ⟨by omega,.inr h9⟩)]at hq
           subst hq
           refine sh ?_
           exact rT
          ·rw[if_neg (by simp[VY,h6,h8,h9])]at hq
           subst hq
           refine sh ?_
           exact rT
        ·have h10:l.k=1:=by omega
         rw[if_neg (by simp[h10])]at hq
         subst hq
         refine sh ?_
         exact rT
end Go.UM
namespace Go.UM
open Go.AM
set_option maxRecDepth 4000
def idx(l:List Int)(x:Int):Int:=if x ∈ l then (l.idxOf x:Int)else -1
theorem zl{x:Int}:∀{l:List Int}{i:Nat},l[i]? =some x->x ∉ l.take i->l.idxOf x=i
 |[],_,h,_=>by simp at h
 |a::r,0,h,_=>by simp at h; simp[h]
 |a::r,i+1,h,hn=>by
  simp only[List.take_succ_cons,List.mem_cons,not_or]at hn
  rw[List.idxOf_cons]
  have:(a==x)=false:=by simpa using fun e=>hn.1 e.symm
  rw[this,zl (by simpa using h) hn.2]
  rfl
theorem Km{R:Env}(h:Nr R)(l:List Int)(x:Int)(hl:l.length<=1073741824):R.Pc 106 [.aH 1 (de .i64 l),.int .i64 x] (.int .i64 (idx l x)):=
 h.SS.enter 100 rfl fun X bb hfit hp=>by
  refine sh ?_
  refine mw 100 (fun i:Nat=>i<=l.length/\x ∉ l.take i) (fun i=>⟨[(0,.aH 1 (de .i64 l)),(1,.int .i64 x),(7,.int .i64 l.length),(8,.int .i64 i)],[],0⟩) (fun i=>l.length - i) (0) ?_ ?_
  ·exact⟨Nat.zero_le _,by simp⟩
  ·intro i hi
   dsimp only
   refine sh ?_
   refine cS (fun h1=> ?_) (fun h1=> ?_)
   ·obtain⟨y,hy⟩:∃u_,l[i]? =some u_:=⟨_,List.getElem?_eq_getElem (by first|omega|(simp<;>omega))⟩
    refine sh ?_
    refine bj hy ?_
    refine sh ?_
    refine cS (fun h2=> ?_) (fun h2=> ?_)
    ·subst h2
     refine sh ?_
     refine rT ?_
     refine fL ?_
     unfold idx
     rw[if_pos (List.mem_of_getElem? hy),zl hy hi.2]
    ·refine sh ?_
     refine yP (i+1) ?_ ?_
     ·refine⟨by omega,?_⟩
      rw[aR hy]
      simp only[List.mem_append,List.mem_singleton,not_or]
      exact⟨hi.2,h2⟩
     ·omega
   ·refine sh ?_
    refine rT ?_
    refine fL ?_
    unfold idx
    rw[if_neg]
    rw[<-List.take_of_length_le (l:=l) (i:=i) (by omega)]
    exact hi.2
theorem Br{R:Env}(h:Ns R)(l:List Int)(x:Int)(hl:l.length<=1073741824):R.Pc 100 [.aH 1 (de .i64 l),.int .i64 x] (.bool (decide (x ∈ l))):=
 h.SV.enter 100 rfl fun X bb hfit hp=>by
  refine sh ?_
  refine aj.pure h.n106.SS.hb (Km h.n106 l x hl) rfl ?_
  refine sh ?_
  refine rT ?_
  refine fL ?_
  unfold idx
  by_cases hx:x ∈ l
  ·rw[if_pos hx]; simp[hx]
  ·rw[if_neg hx]; simp[hx]
end Go.UM
namespace Go.UM
open Go.AM
set_option maxRecDepth 4000
structure r7 where
 side:Int
 t:List T3
def r7.row(x:r7):List AV:=[.int .i64 x.side,.aH 3 (bn x.t)]
def T3.nB(x:T3):Bool:=decide (0<=x.a)&&decide (0<=x.b)&&decide (0<=x.c)&&decide (x.a<=255)&&decide (x.b<=255)&&decide (x.c<=255)
theorem T3.zm(x:T3):x.nB=true↔(0<=x.a/\x.a<=255)/\(0<=x.b/\x.b<=255)/\0<=x.c/\x.c<=255:=by
 simp only[T3.nB,Bool.and_eq_true,decide_eq_true_eq]
 omega
def wh:List Int:=[1,2,4,8,16]
def lG(x:r7):Int:=if x.side ∉ wh\/(x.t.length:Int)≠x.side*x.side then 5 else if x.t.all T3.nB=true then 0 else 5
theorem pq{x:r7}(h:x.side ∈ wh):x.side=1\/ x.side=2\/ x.side=4\/ x.side=8\/ x.side=16:=by
 simpa[wh]using h
theorem zn{x:r7}{y:T3}(hy:y ∈ x.t)(h:y.nB=false):lG x=5:=by
 unfold lG
 split
 ·rfl
 ·rw[if_neg]
  intro ha
  rw[List.all_eq_true.1 ha y hy]at h
  exact Bool.noConfusion h
theorem uZ{α:Type}{n:List α}{k:Nat}{x:α}{p:α->Bool}(h:n[k]? =some x):(n.take (k+1)).all p=((n.take k).all p&&p x):=by
 rw[aR h]; simp
theorem Bs{R:Env}(h:Uf R)(x:r7)(hl:x.t.length<=1073741824):R.Pc 84 [.agg x.row] (.int .i64 (lG x)):=
 h.X5.enter 100 rfl fun X bb hfit hp=>by
  refine sh ?_
  refine cM true [] ((Br h.n100 wh x.side (by decide)).mc h.n100.SV.hb) ?_
  repeat (intro _; first|refine eK ?_|refine eP ?_)
  generalize hq:lG x=q
  refine sh ?_
  refine cS (fun h1=> ?_) (fun h1=> ?_)
  ·rw[lG,if_pos (.inl h1)]at hq
   subst hq
   refine sh ?_
   exact rT
  ·have h2:=pq h1
   have hsq:x.side*x.side<=256/\0<=x.side*x.side:=by
    rcases h2 with h|h|h|h|h<;>rw[h]<;>decide
   refine sh ?_
   refine cS (fun h3=> ?_) (fun h3=> ?_)
   ·rw[lG,if_pos (.inr h3)]at hq
    subst hq
    refine sh ?_
    exact rT
   ·have hz:¬ (x.side ∉ wh\/(x.t.length:Int)≠x.side*x.side):=by simp[h1,h3]
    refine sh ?_
    refine mw 100 (fun i:Nat=>i<=x.t.length/\(x.t.take i).all T3.nB=true) (fun i=>⟨[(22,.aH 3 (bn x.t)),(23,.int .i64 x.t.length),(24,.int .i64 i)],[],10⟩) (fun i=>x.t.length - i) (0) ?_ ?_
    ·exact⟨Nat.zero_le _,rfl⟩
    ·intro i hi
     dsimp only
     refine sh ?_
     refine cS (fun h4=> ?_) (fun h4=> ?_)
     ·obtain⟨y,hy⟩:∃u_,x.t[i]? =some u_:=⟨_,List.getElem?_eq_getElem (by first|omega|(simp<;>omega))⟩
      refine sh ?_
      refine bj hy ?_
      have hyg:=T3.zm y
      refine sh ?_
      refine cS (fun h5=> ?_) (fun h5=> ?_)
      ·have hb:y.nB=false:=by rw[Bool.eq_false_iff,ne_eq,hyg]; omega
       rw[zn (List.mem_of_getElem? hy) hb]at hq
       subst hq
       refine sh ?_
       exact rT
      ·refine sh ?_
       refine cS (fun h6=> ?_) (fun h6=> ?_)
       ·have hb:y.nB=false:=by rw[Bool.eq_false_iff,ne_eq,hyg]; omega
        rw[zn (List.mem_of_getElem? hy) hb]at hq
        subst hq
        refine sh ?_
        exact rT
       ·refine sh ?_
        refine yP (i+1) ?_ ?_
        ·refine⟨by omega,?_⟩
         rw[uZ hy,hi.2,Bool.true_and,hyg]
         omega
        ·omega
     ·rw[lG,if_neg hz,if_pos]at hq
      ·subst hq
       refine sh ?_
       exact rT
      ·have:=hi.2
       rwa[List.take_of_length_le (by omega)]at this
end Go.UM
namespace Go.UM
open Go.AM
set_option maxRecDepth 4000
structure wi(t:r7):Prop where
 s:t.side ∈ wh
 l:(t.t.length:Int)=t.side*t.side
 g:t.t.all T3.nB=true
theorem xp{t:r7}(h:lG t=0):wi t:=by
 unfold lG at h
 split at h
 ·exact absurd h (by decide)
 ·rename_i h1
  split at h
  ·rename_i h2
   simp only[not_or,Decidable.not_not]at h1
   exact⟨h1.1,h1.2,h2⟩
  ·exact absurd h (by decide)
theorem wi.ej{t:r7}(h:wi t):lG t=0:=by
 unfold lG
 rw[if_neg (by simp[h.s,h.l]),if_pos h.g]
def r7.ix(t:r7)(x y:Int):Nat:=(y % t.side*t.side+x % t.side).toNat
def r7.at(t:r7)(x y:Int):T3:=t.t.getD (t.ix x y) ⟨0,0,0⟩
theorem wi.ix{t:r7}(h:wi t)(x y:Int):0<=y % t.side/\y % t.side<t.side/\0<=x % t.side/\x % t.side<t.side/\t.side<=16/\1<=t.side/\0<=y % t.side*t.side/\y % t.side*t.side+x % t.side<t.side*t.side/\t.side*t.side<=256:=by
 have hs:=pq h.s
 have h1:1<=t.side/\t.side<=16:=by omega
 have h2:=Int.emod_nonneg y (show t.side≠0 by omega)
 have h3:=Int.emod_lt_of_pos y (show 0<t.side by omega)
 have h4:=Int.emod_nonneg x (show t.side≠0 by omega)
 have h5:=Int.emod_lt_of_pos x (show 0<t.side by omega)
 have h6:y % t.side*t.side<=(t.side - 1)*t.side:=Int.mul_le_mul_of_nonneg_right (by omega) (by omega)
 have h7:0<=y % t.side*t.side:=Int.mul_nonneg h2 (by omega)
 have h8:t.side*t.side<=16*16:=Int.mul_le_mul h1.2 h1.2 (by omega) (by decide)
 rw[Int.sub_mul]at h6
 exact⟨h2,h3,h4,h5,h1.2,h1.1,h7,by omega,by omega⟩
def avg(a b c d:T3):T3:=⟨(a.a+b.a+c.a+d.a+2) / 4,(a.b+b.b+c.b+d.b+2) / 4,(a.c+b.c+c.c+d.c+2) / 4⟩
def r7.next(t:r7)(s i:Int):T3:=avg (t.at (2* (i % s)) (2* (i / s))) (t.at (2* (i % s)+1) (2* (i / s))) (t.at (2* (i % s)) (2* (i / s)+1)) (t.at (2* (i % s)+1) (2* (i / s)+1))
def rF(l:List T3):List UInt8:=l.flatMap fun x=>[u8 x.a,u8 x.b,u8 x.c]
def qW(t:r7):List UInt8 × Int:=if lG t≠0 then ([],lG t)else (u8 t.side::rF t.t,0)
theorem mF:∀l:List T3,(rF l).length=3*l.length
 |[]=>rfl
 |x::r=>by
  have:=mF r
  simp only[rF,List.flatMap_cons,List.length_append,List.length_cons,List.length_nil]at this ⊢
  omega
theorem wj{l:List T3}{k:Nat}{x:T3}(h:l[k]? =some x):rF (l.take (k+1))=rF (l.take k)++ [u8 x.a,u8 x.b,u8 x.c]:=by
 rw[aR h]; simp[rF]
theorem D9{R:Env}(h:N82 R)(t:r7)(hl:t.t.length<=1073741824):R.Pc 82 [.agg t.row] (.aG [.aH 1 (aq (qW t).1),.int .i64 (qW t).2]):=
 h.o82.enter 200 rfl fun X bb hfit hp=>by
  refine sh ?_
  refine aj.pure h.ES.X5.hb (Bs h.ES t hl) rfl ?_
  generalize hq:qW t=q
  refine sh ?_
  refine cS (fun h1=> ?_) (fun h1=> ?_)
  ·rw[qW,if_pos h1]at hq
   subst hq
   refine sh ?_
   exact rT
  ·have ok:=xp h1
   rw[qW,if_neg (by simpa using h1)]at hq
   subst hq
   have hs:=pq ok.s
   have Lm:t.t.length<=256:=by
    have:=ok.l
    rcases hs with h|h|h|h|h<;>rw[h]at this<;>omega
   refine sh ?_
   refine az.inv 200 (fun i:Nat=>i<=t.t.length) (fun i=>⟨[(5,.bi 1 (u8 t.side::rF (t.t.take i)).length),(18,.aH 3 (bn t.t)),(19,.int .i64 t.t.length),(20,.int .i64 i)],[(1,.arr (R.ty 4) 1 (aq (u8 t.side::rF (t.t.take i))))],2⟩) (fun i=>t.t.length - i) (0) ?_ ⟨⟨_,hp,rfl⟩,?_,?_⟩ ?_
   ·exact Nat.zero_le _
   ·exact SF
   ·refine fL ?_
    simp[aq,rF,u8_in (n:=t.side) (by omega)]
   ·intro i hi
    dsimp only
    refine sh ?_
    refine cS (fun h2=> ?_) (fun h2=> ?_)
    ·obtain⟨y,hy⟩:∃u_,t.t[i]? =some u_:=⟨_,List.getElem?_eq_getElem (by first|omega|(simp<;>omega))⟩
     refine sh ?_
     refine bj hy ?_
     refine sh ?_
     refine ai ?_
     refine sh ?_
     refine ai ?_
     refine sh ?_
     refine ai ?_
     refine sh ?_
     refine nD ?_ (by have:=mF (t.t.take i); simp only[List.length_take]at this; simp; omega)
     refine sh ?_
     refine nX (i+1) ?_ ?_ ⟨_,hp,rfl⟩ ?_ ?_
     ·omega
     ·omega
     ·refine fL ?_
      rw[wj hy]; simp
     ·refine fL ?_
      rw[wj hy]; simp[aq,lx]
    ·rw[List.take_of_length_le (by omega)]
     refine sh ?_
     exact rT
end Go.UM
namespace Go.UM
open Go.AM
set_option maxRecDepth 4000
end Go.UM
namespace Go.UM
open Go.AM
set_option maxRecDepth 4000
structure As where
 k:Int
 m:Ms
 x:r7
 mt:tQ
 li:rE
def As.row(a:As):List AV:=[.int .i64 a.k,.aH 3 (bn a.m.v),.aH 2 (dA a.m.uv),.aH 3 (bn a.m.t),.int .i64 a.x.side,.aH 3 (bn a.x.t),
 .int .i64 a.mt.k,.int .i64 a.mt.c.a,.int .i64 a.mt.c.b,.int .i64 a.mt.c.c,.int .i64 a.mt.r,
 .int .i64 a.li.k,.int .i64 a.li.c.a,.int .i64 a.li.c.b,.int .i64 a.li.c.c,.int .i64 a.li.p.a,.int .i64 a.li.p.b,.int .i64 a.li.p.c,.int .i64 a.li.u.a,.int .i64 a.li.u.b,.int .i64 a.li.u.c,.int .i64 a.li.v.a,.int .i64 a.li.v.b,.int .i64 a.li.v.c]
def Kn(m:tQ):List UInt8:=[u8 m.k]++enc 2 m.c.a++enc 2 m.c.b++enc 2 m.c.c++enc 2 m.r
def Ko(l:rE):List UInt8:=[u8 l.k]++(enc 4 l.c.a++enc 4 l.c.b++enc 4 l.c.c)++iB l.p++iB l.u++iB l.v
def own(a:As):Int:=if a.k=1 then iM a.m else if a.k=2 then lG a.x else if a.k=3 then zj a.mt else if a.k=4 then zk a.li else 12
def cN(a:As):List UInt8:=if a.k=1 then (Bq a.m).1 else if a.k=2 then (qW a.x).1 else if a.k=3 then Kn a.mt else Ko a.li
theorem xq{p:T3}(h:pg p=false): -4096<=p.a/\p.a<=4096/\ -4096<=p.b/\p.b<=4096/\ -4096<=p.c/\p.c<=4096:=by simpa[pg]using h
structure rE.IB(l:rE):Prop where
 k:0<=l.k/\l.k<=2
 c:0<=l.c.a/\l.c.a<=1048576/\0<=l.c.b/\l.c.b<=1048576/\0<=l.c.c/\l.c.c<=1048576
 p: -4096<=l.p.a/\l.p.a<=4096/\ -4096<=l.p.b/\l.p.b<=4096/\ -4096<=l.p.c/\l.p.c<=4096
 u: -4096<=l.u.a/\l.u.a<=4096/\ -4096<=l.u.b/\l.u.b<=4096/\ -4096<=l.u.c/\l.u.c<=4096
 v: -4096<=l.v.a/\l.v.a<=4096/\ -4096<=l.v.b/\l.v.b<=4096/\ -4096<=l.v.c/\l.v.c<=4096
theorem zo{l:rE}(h:zk l=0):l.IB:=by
 unfold zk at h
 split at h
 ·cases h
 ·split at h
  ·cases h
  ·rename_i h1 h2
   simp only[not_or,Bool.not_eq_true]at h2
   exact⟨by omega,by omega,xq h2.1,xq h2.2.1,xq h2.2.2⟩
theorem zp{m:tQ}(h:zj m=0):0<=m.k/\m.k<=4/\0<=m.r/\m.r<=65535/\0<=m.c.a/\m.c.a<=65535/\0<=m.c.b/\m.c.b<=65535/\0<=m.c.c/\m.c.c<=65535:=by
 unfold zj at h
 split at h
 ·cases h
 ·omega
theorem PL{R:Env}(h:Iz R)(b:List UInt8)(x:Int)(hl:b.length<=1000)(hx:0<=x/\x<=65535):
  R.Mc 54 [.aH 1 (aq b),.int .i64 2,.aH 1 (de .u64 [x])] [] (.aG [.bi 0 (b++enc 2 x).length,.int .i64 0]) [(0,.arr (R.ty 4) 1 (aq (b++enc 2 x)))] 1:=by
 have c:=mC h b 2 [x] (by simp; omega) (by simp; omega)
 rw[r6 (by decide) (by decide) (by simp; omega)]at c
 simpa using c
theorem PM{R:Env}(h:Iz R)(b:List UInt8)(x y z:Int)(hl:b.length<=1000)(hx:0<=x/\x<=1048576/\0<=y/\y<=1048576/\0<=z/\z<=1048576):
  R.Mc 54 [.aH 1 (aq b),.int .i64 4,.aH 1 (de .u64 [x,y,z])] [] (.aG [.bi 0 (b++(enc 4 x++enc 4 y++enc 4 z)).length,.int .i64 0]) [(0,.arr (R.ty 4) 1 (aq (b++(enc 4 x++enc 4 y++enc 4 z))))] 1:=by
 have c:=mC h b 4 [x,y,z] (by simp; omega) (by simp; omega)
 rw[r6 (by decide) (by decide) (by simp; omega)]at c
 simpa using c
theorem PN{R:Env}(h:QT R)(b:List UInt8)(p:T3)(hl:b.length<=1000)(ok: -4096<=p.a/\p.a<=4096/\ -4096<=p.b/\p.b<=4096/\ -4096<=p.c/\p.c<=4096):
  R.Mc 71 [.aH 1 (aq b),.int .i64 2,.aH 1 (de .i64 [p.a,p.b,p.c])] [] (.aG [.bi 0 (b++iB p).length,.int .i64 0]) [(0,.arr (R.ty 4) 1 (aq (b++iB p)))] 1:=by
 have c:=tM h b 2 [p.a,p.b,p.c] (by simp; omega) (by simp[ed]; omega)
 rwa[zi ok]at c
def tQ.four(m:tQ):List Int:=[m.c.a,m.c.b,m.c.c,m.r]
def rE.three(l:rE):List T3:=[l.p,l.u,l.v]
@[simp] theorem LV(m:tQ):m.four.length=4:=rfl
@[simp] theorem Kq(l:rE):l.three.length=3:=rfl
theorem Hm:∀l:List Int,(l.flatMap (enc 2)).length=2*l.length
 |[]=>rfl
 |x::r=>by have:=Hm r; simp at this ⊢; omega
@[simp] theorem LW(p:T3):(iB p).length=6:=by simp[iB]
theorem zq{R:Env}(h:JW R)(a:As)(hl:a.x.t.length<=1073741824)(ok:own a=0):R.Pc 311 [.agg a.row] (.aH 1 (aq (cN a))):=
 h.OA.enter 200 rfl fun X bb hfit hp=>by
  generalize hq:cN a=q
  unfold own at ok
  refine sh ?_
  refine cS (fun h1=> ?_) (fun h1=> ?_)
  ·rw[cN,if_pos h1]at hq
   subst hq
   refine sh ?_
   refine aj.pure h.n196.Ua.hb (D7 h.n196 a.m) rfl ?_
   refine sh ?_
   exact rT
  ·rw[if_neg h1]at ok
   refine sh ?_
   refine cS (fun h2=> ?_) (fun h2=> ?_)
   ·rw[cN,if_neg h1,if_pos h2]at hq
    subst hq
    refine sh ?_
    refine aj.pure h.X6.o82.hb (D9 h.X6 a.x hl) rfl ?_
    refine sh ?_
    exact rT
   ·rw[if_neg h2]at ok
    refine sh ?_
    refine cS (fun h3=> ?_) (fun h3=> ?_)
    ·rw[cN,if_neg h1,if_neg h2,if_pos h3]at hq
     subst hq
     rw[if_pos h3]at ok
     have may:=zp ok
     have w8:((u8 a.mt.k).toNat:Int)=a.mt.k:=u8_in (by omega)
     refine sh ?_
     refine az.inv 100 (fun i:Nat=>i<=4) (fun i=>⟨[(8,.bi 2 ([u8 a.mt.k]++(a.mt.four.take i).flatMap (enc 2)).length),(55,.aH 1 (de .i64 a.mt.four)),(56,.int .i64 4),(57,.int .i64 i)],[(2,.arr (R.ty 4) 1 (aq ([u8 a.mt.k]++(a.mt.four.take i).flatMap (enc 2))))],3⟩) (fun i=>4 - i) (0) ?_ ⟨⟨_,hp,rfl⟩,?_,?_⟩ ?_
     ·exact Nat.zero_le _
     ·exact SF
     ·refine fL ?_
      simp[aq,w8]
     ·intro i hi
      dsimp only
      refine sh ?_
      refine cS (fun h4=> ?_) (fun h4=> ?_)
      ·obtain⟨x,hx⟩:∃u_,a.mt.four[i]? =some u_:=⟨_,List.getElem?_eq_getElem (by first|omega|(simp<;>omega))⟩
       refine sh ?_
       refine bj hx ?_
       have bK:0<=x/\x<=65535:=by
        have:=List.mem_of_getElem? hx
        simp only[tQ.four,List.mem_cons,List.not_mem_nil,or_false]at this
        rcases this with e|e|e|e<;>subst e<;>omega
       refine sh ?_
       refine cM true [] (PL h.rC ([u8 a.mt.k]++(a.mt.four.take i).flatMap (enc 2)) x (by simp only[List.length_append,Hm,List.length_take]; simp; omega) bK) ?_
       repeat (intro _; first|refine eK ?_|refine eP ?_)
       refine sh ?_
       refine XS [0,1,4] (i+1) ?_ ?_ ?_
       ·omega
       ·omega
       ·refine XT ?_ ?_
        rw[dR hx]; simp
        rw[dR hx]; simp
      ·rw[show a.mt.four.take i=a.mt.four from List.take_of_length_le (by simp; omega)]
       refine sh ?_
       exact rT
    ·rw[cN,if_neg h1,if_neg h2,if_neg h3]at hq
     subst hq
     have h4:a.k=4:=by
      by_cases h4:a.k=4
      ·exact h4
      ·rw[if_neg h3,if_neg h4]at ok; cases ok
     rw[if_neg h3,if_pos h4]at ok
     have may:=zo ok
     have mk:=may.k
     have mc:=may.c
     have w8:((u8 a.li.k).toNat:Int)=a.li.k:=u8_in (by omega)
     have c1:=PM h.rC [u8 a.li.k] a.li.c.a a.li.c.b a.li.c.c (by simp) mc
     rw[show aq [u8 a.li.k]=[[.int .u8 a.li.k]] by simp[aq,w8]]at c1
     refine sh ?_
     refine cM true [] (c1) ?_
     repeat (intro _; first|refine eK ?_|refine eP ?_)
     refine sh ?_
     refine mw 100 (fun i:Nat=>i<=3) (fun i=>⟨[(12,.bi 4 ([u8 a.li.k]++(enc 4 a.li.c.a++enc 4 a.li.c.b++enc 4 a.li.c.c)++(a.li.three.take i).flatMap iB).length),(100,.aH 3 (bn a.li.three)),(101,.int .i64 3),(102,.int .i64 i)],[(4,.arr (R.ty 4) 1 (aq ([u8 a.li.k]++(enc 4 a.li.c.a++enc 4 a.li.c.b++enc 4 a.li.c.c)++(a.li.three.take i).flatMap iB)))],5⟩) (fun i=>3 - i) (0) ?_ ?_
     ·exact Nat.zero_le _
     ·intro i hi
      dsimp only
      refine sh ?_
      refine cS (fun h5=> ?_) (fun h5=> ?_)
      ·obtain⟨x,hx⟩:∃u_,a.li.three[i]? =some u_:=⟨_,List.getElem?_eq_getElem (by first|omega|(simp<;>omega))⟩
       refine sh ?_
       refine bj hx ?_
       have bK: -4096<=x.a/\x.a<=4096/\ -4096<=x.b/\x.b<=4096/\ -4096<=x.c/\x.c<=4096:=by
        have:=List.mem_of_getElem? hx
        simp only[rE.three,List.mem_cons,List.not_mem_nil,or_false]at this
        rcases this with e|e|e<;>subst e
        ·exact may.p
        ·exact may.u
        ·exact may.v
       refine sh ?_
       refine cM true [] (PN h.JS ([u8 a.li.k]++(enc 4 a.li.c.a++enc 4 a.li.c.b++enc 4 a.li.c.c)++(a.li.three.take i).flatMap iB) x (by simp only[List.length_append,Hk,List.length_take]; simp; omega) bK) ?_
       repeat (intro _; first|refine eK ?_|refine eP ?_)
       refine sh ?_
       refine XS [0,1,2,3,7] (i+1) ?_ ?_ ?_
       ·omega
       ·omega
       ·refine XT ?_ ?_
        rw[dR hx]; simp
        rw[dR hx]; simp
      ·rw[show a.li.three.take i=a.li.three from List.take_of_length_le (by simp; omega)]
       refine sh ?_
       exact rT
end Go.UM
namespace Go.UM
open Go.AM
structure Mf where
 (id kind label m0 m1 m2 m3 m4 m5 m6 m7 first last size chunks:Int)
def Mf.row(m:Mf):List AV:=[.int .u64 m.id,.int .i64 m.kind,.int .u32 m.label,.int .u8 m.m0,.int .u8 m.m1,.int .u8 m.m2,.int .u8 m.m3,.int .u8 m.m4,.int .u8 m.m5,.int .u8 m.m6,.int .u8 m.m7,
 .int .u32 m.first,.int .u32 m.last,.int .i64 m.size,.int .i64 m.chunks]
def Mf.jS(m:Mf):Nat->Int
 |0=>m.m0|1=>m.m1|2=>m.m2|3=>m.m3|4=>m.m4|5=>m.m5|6=>m.m6|7=>m.m7|_=>0
theorem Ea{m:Mf}{i:Nat}{K:AV->Prop}(hi:i<8)(k:K (.int .u8 (m.jS i))):Y5 false 8 1 [.int .u8 m.m0,.int .u8 m.m1,.int .u8 m.m2,.int .u8 m.m3,.int .u8 m.m4,.int .u8 m.m5,.int .u8 m.m6,.int .u8 m.m7] (i:Int) K:=by
 refine⟨⟨by omega,by omega⟩,?_⟩
 obtain h|h|h|h|h|h|h|h:i=0\/ i=1\/ i=2\/ i=3\/ i=4\/ i=5\/ i=6\/ i=7:=by omega
 all_goals subst h; exact k
structure Mf.Ok(m:Mf):Prop where
 id:ed .u64 m.id
 kind:ed .i64 m.kind
 label:ed .u32 m.label
 jS:∀i,0<=m.jS i/\m.jS i<=255
 first:ed .u32 m.first
 last:ed .u32 m.last
 size:ed .i64 m.size
 chunks:ed .i64 m.chunks
end Go.UM
namespace Go.UM
open Go.AM
set_option maxRecDepth 4000
structure Rw where
 h:Int
 f:Mf
 a:As
def Rw.row(r:Rw):List AV:=[.int .i64 r.h,.int .u64 r.f.id,.int .i64 r.f.kind,.int .u32 r.f.label,.int .u8 r.f.m0,.int .u8 r.f.m1,.int .u8 r.f.m2,.int .u8 r.f.m3,.int .u8 r.f.m4,.int .u8 r.f.m5,.int .u8 r.f.m6,.int .u8 r.f.m7,
 .int .u32 r.f.first,.int .u32 r.f.last,.int .i64 r.f.size,.int .i64 r.f.chunks,.int .i64 r.a.k,.aH 3 (bn r.a.m.v),.aH 2 (dA r.a.m.uv),.aH 3 (bn r.a.m.t),.int .i64 r.a.x.side,.aH 3 (bn r.a.x.t),
 .int .i64 r.a.mt.k,.int .i64 r.a.mt.c.a,.int .i64 r.a.mt.c.b,.int .i64 r.a.mt.c.c,.int .i64 r.a.mt.r,
 .int .i64 r.a.li.k,.int .i64 r.a.li.c.a,.int .i64 r.a.li.c.b,.int .i64 r.a.li.c.c,.int .i64 r.a.li.p.a,.int .i64 r.a.li.p.b,.int .i64 r.a.li.p.c,.int .i64 r.a.li.u.a,.int .i64 r.a.li.u.b,.int .i64 r.a.li.u.c,.int .i64 r.a.li.v.a,.int .i64 r.a.li.v.b,.int .i64 r.a.li.v.c]
end Go.UM
